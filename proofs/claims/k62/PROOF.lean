import PyProof.Rows.All
import Wide.All
import OpenK.AllK
import Wide.FinOn
import HandS.ForMost
import HandS.ForSpec
import HandS.IsInst
import HandS.Zip
import HandS.Wide
import HandS.Deep
import HandS.Flow
import HandS.Defaults
import HandS.HeadHook2
import HandS.ExcValue
import HandS.ExcInit
import HandS.ExcIs
import HandS.ExcField
import HandS.TryMany
import HandS.TupAny
import HandS.Style
import HandS.Head0
import HandS.Head1
import HandS.Head2
import HandS.HeadEnd
import HandS.Flt
import HandS.ExcOwn
import PyProof.ExcBaseAll.ValueError
import HandS.TryOnly
import PyProof.EqKinds
import PyProof.FactsAll.dict_1
import HandS.FltList
import PyProof.Rows.RuleB_bool
import HandS.EndBits
import PyProof.NeKinds
import HandS.FStr
import HandS.Text
import KE.GoesComp
import KE.GoesRaise
import KE.DataMinMax
import PyProof.Rows.CallKwBuiltin
import HandS.Small
import HandS.Conv
import KE.SortData
import PySem.Challenge.RW_dialyard_k62_fewest_gone_of_all
set_option Elab.async false
set_option linter.all false
set_option maxRecDepth 100000
/-! A layer of plain data over the hand layer: values without addresses, and what the def's pieces make of them. -/
namespace Dy
open PySem PySem.Spec PyProof.Rows L2

abbrev St := L2.St
/-! ### data -/
inductive D where
  | non | bl (b : Bool) | int (i : Int) | str (x : Str) | ty (n : String) | cls (n : Str)
  | tup (xs : List D) | lst (xs : List D)
  | dct (ks : List Key) (xs : List D)
  | exc (c : Str) (fs : List Str) (xs : List D)
  deriving Inhabited

/-- an exception's object, kept -/
def xO (cls : Value) (a : Addr) (dd : Option Addr) : HO := .ext fun h => ∃ (oe : Obj) (vs : Array Value), h.get? a = some oe ∧ Zc cls dd oe ∧ oe.data = .fields vs

mutual
def Rep (K : PySem.W.Frag) (F : Hp) : D → V → Prop
  | .non, v => v = .non
  | .bl b, v => v = .bl b
  | .int i, v => v = .int i
  | .str x, v => v = .str x
  | .ty n, v => v = .ty n
  | .cls n, v => v = .ref (He.ga K n)
  | .tup xs, v => ∃ a vs, v = .ref a ∧ SqT K F a vs ∧ RepL K F xs vs
  | .lst xs, v => ∃ a vs, v = .ref a ∧ SqL K F a vs ∧ RepL K F xs vs
  | .dct ks xs, v => ∃ a vs, v = .ref a ∧ Rd F a (.dK (ks.zip vs)) ∧ ks.length = vs.length ∧ RepL K F xs vs
  | .exc c fs xs, v => ∃ a dd vs, v = .ref a ∧ F a = some (xO (.ref (He.ga K c)) a dd) ∧ fs.length = vs.length ∧ RepL K F xs vs ∧
      (match dd with | none => fs = [] | some d => F d = some (.xd (fs.zip vs)))
def RepL (K : PySem.W.Frag) (F : Hp) : List D → List V → Prop
  | [], vs => vs = []
  | d :: ds, vs => ∃ v r, vs = v :: r ∧ Rep K F d v ∧ RepL K F ds r
end

section
variable {K : PySem.W.Frag} {F F' H H' : Hp}
theorem Same.seqT {a : Addr} {xs : List V} (e : Same H H') (h : SqT K H a xs) : SqT K H' a xs := by
  rcases h with (h | ⟨o, h⟩) | h
  · exact .inl (.inl (e _ _ h))
  · exact .inl (.inr ⟨o, e _ _ h⟩)
  · exact .inr h
theorem Same.rd {a : Addr} {u : HO} (e : Same H H') (h : Rd H a u) : Rd H' a u := by
  rcases h with h | ⟨o, h⟩
  · exact .inl (e _ _ h)
  · exact .inr ⟨o, e _ _ h⟩
mutual
theorem Rep.mono (e : Same F F') : ∀ (d : D) (v : V), Rep K F d v → Rep K F' d v
  | .non, v, h => by simpa [Rep] using h
  | .bl b, v, h => by simpa [Rep] using h
  | .int i, v, h => by simpa [Rep] using h
  | .str x, v, h => by simpa [Rep] using h
  | .ty n, v, h => by simpa [Rep] using h
  | .cls n, v, h => by simpa [Rep] using h
  | .tup xs, v, h => by
    simp only [Rep] at h ⊢
    obtain ⟨a, vs, h1, h2, h3⟩ := h
    exact ⟨a, vs, h1, Same.seqT e h2, RepL.mono e xs vs h3⟩
  | .lst xs, v, h => by
    simp only [Rep] at h ⊢
    obtain ⟨a, vs, h1, h2, h3⟩ := h
    exact ⟨a, vs, h1, Same.seq e h2, RepL.mono e xs vs h3⟩
  | .dct ks xs, v, h => by
    simp only [Rep] at h ⊢
    obtain ⟨a, vs, h1, h2, h3, h4⟩ := h
    exact ⟨a, vs, h1, Same.rd e h2, h3, RepL.mono e xs vs h4⟩
  | .exc c fs xs, v, h => by
    simp only [Rep] at h ⊢
    obtain ⟨a, dd, vs, h1, h2, h3, h4, h5⟩ := h
    refine ⟨a, dd, vs, h1, e _ _ h2, h3, RepL.mono e xs vs h4, ?_⟩
    cases dd with
    | none => exact h5
    | some d => exact e _ _ h5
theorem RepL.mono (e : Same F F') : ∀ (ds : List D) (vs : List V), RepL K F ds vs → RepL K F' ds vs
  | [], vs, h => by simpa [RepL] using h
  | d :: ds, vs, h => by
    simp only [RepL] at h ⊢
    obtain ⟨v, r, h1, h2, h3⟩ := h
    exact ⟨v, r, h1, Rep.mono e d v h2, RepL.mono e ds r h3⟩
end
theorem RepL.length : ∀ {ds : List D} {vs : List V}, RepL K F ds vs → ds.length = vs.length
  | [], vs, h => by simp only [RepL] at h; subst h; rfl
  | d :: ds, vs, h => by
    simp only [RepL] at h
    obtain ⟨v, r, rfl, _, h3⟩ := h
    simp [RepL.length h3]
theorem RepL.get : ∀ {ds : List D} {vs : List V} {i : Nat} {d : D}, RepL K F ds vs → ds[i]? = some d → ∃ v, vs[i]? = some v ∧ Rep K F d v
  | [], vs, i, d, h, e => by simp at e
  | d0 :: ds, vs, 0, d, h, e => by
    simp only [RepL] at h
    obtain ⟨v, r, rfl, h2, _⟩ := h
    simp at e
    subst e
    exact ⟨v, rfl, h2⟩
  | d0 :: ds, vs, i + 1, d, h, e => by
    simp only [RepL] at h
    obtain ⟨v, r, rfl, _, h3⟩ := h
    simp only [List.getElem?_cons_succ] at e ⊢
    exact RepL.get h3 e
theorem RepL.get' {ds : List D} {vs : List V} {i : Nat} {v : V} (h : RepL K F ds vs) (e : vs[i]? = some v) : ∃ d, ds[i]? = some d ∧ Rep K F d v := by
  obtain ⟨hi, _⟩ := List.getElem?_eq_some_iff.mp e
  have hi2 : i < ds.length := by rw [h.length]; exact hi
  obtain ⟨v', e', r⟩ := h.get (List.getElem?_eq_getElem hi2)
  rw [e] at e'
  cases e'
  exact ⟨_, List.getElem?_eq_getElem hi2, r⟩
theorem RepL.nil : RepL K F [] [] := by simp [RepL]
theorem RepL.cons {d : D} {v : V} {ds : List D} {vs : List V} (h : Rep K F d v) (t : RepL K F ds vs) : RepL K F (d :: ds) (v :: vs) := by
  simp only [RepL]; exact ⟨v, vs, rfl, h, t⟩
theorem RepL.append : ∀ {ds es : List D} {vs ws : List V}, RepL K F ds vs → RepL K F es ws → RepL K F (ds ++ es) (vs ++ ws)
  | [], es, vs, ws, h, t => by simp only [RepL] at h; subst h; simpa using t
  | d :: ds, es, vs, ws, h, t => by
    simp only [RepL] at h
    obtain ⟨v, r, rfl, h2, h3⟩ := h
    exact RepL.cons h2 (RepL.append h3 t)
theorem RepL.drop : ∀ {ds : List D} {vs : List V} (n : Nat), RepL K F ds vs → RepL K F (ds.drop n) (vs.drop n)
  | ds, vs, 0, h => by simpa using h
  | [], vs, n + 1, h => by simp only [RepL] at h; subst h; simpa using RepL.nil
  | d :: ds, vs, n + 1, h => by
    simp only [RepL] at h
    obtain ⟨v, r, rfl, _, h3⟩ := h
    simpa using RepL.drop n h3
theorem RepL.take : ∀ {ds : List D} {vs : List V} (n : Nat), RepL K F ds vs → RepL K F (ds.take n) (vs.take n)
  | ds, vs, 0, h => by simpa using RepL.nil
  | [], vs, n + 1, h => by simp only [RepL] at h; subst h; simpa using RepL.nil
  | d :: ds, vs, n + 1, h => by
    simp only [RepL] at h
    obtain ⟨v, r, rfl, h2, h3⟩ := h
    simpa using RepL.cons h2 (RepL.take n h3)
theorem RepL.set {d : D} {v : V} (h : Rep K F d v) : ∀ {ds : List D} {vs : List V} (i : Nat), RepL K F ds vs → RepL K F (ds.set i d) (vs.set i v)
  | [], vs, i, t => by simp only [RepL] at t; subst t; simpa using RepL.nil
  | e :: ds, vs, 0, t => by
    simp only [RepL] at t
    obtain ⟨w, r, rfl, _, h3⟩ := t
    exact RepL.cons h h3
  | e :: ds, vs, i + 1, t => by
    simp only [RepL] at t
    obtain ⟨w, r, rfl, h2, h3⟩ := t
    exact RepL.cons h2 (RepL.set h i h3)
theorem RepL.snoc {ds : List D} {vs : List V} {d : D} {v : V} (h : RepL K F ds vs) (t : Rep K F d v) : RepL K F (ds ++ [d]) (vs ++ [v]) := h.append (RepL.cons t RepL.nil)

theorem Rep.int_inv {i : Int} {v : V} (h : Rep K F (.int i) v) : v = .int i := by simpa [Rep] using h
theorem Rep.bl_inv {i : Bool} {v : V} (h : Rep K F (.bl i) v) : v = .bl i := by simpa [Rep] using h
theorem Rep.str_inv {i : Str} {v : V} (h : Rep K F (.str i) v) : v = .str i := by simpa [Rep] using h
theorem Rep.non_inv {v : V} (h : Rep K F .non v) : v = .non := by simpa [Rep] using h
theorem Rep.mk_int {i : Int} : Rep K F (.int i) (.int i) := by simp [Rep]
theorem Rep.mk_bl {i : Bool} : Rep K F (.bl i) (.bl i) := by simp [Rep]
theorem Rep.mk_str {i : Str} : Rep K F (.str i) (.str i) := by simp [Rep]
theorem Rep.mk_non : Rep K F .non .non := by simp [Rep]
theorem Rep.mk_ty {n : String} : Rep K F (.ty n) (.ty n) := by simp [Rep]
theorem Rep.tup_inv {xs : List D} {v : V} (h : Rep K F (.tup xs) v) : ∃ a vs, v = .ref a ∧ SqT K F a vs ∧ RepL K F xs vs := by simpa [Rep] using h
theorem Rep.lst_inv {xs : List D} {v : V} (h : Rep K F (.lst xs) v) : ∃ a vs, v = .ref a ∧ SqL K F a vs ∧ RepL K F xs vs := by simpa [Rep] using h
theorem Rep.mk_tup {xs : List D} {a : Addr} {vs : List V} (h : SqT K F a vs) (t : RepL K F xs vs) : Rep K F (.tup xs) (.ref a) := by
  simp only [Rep]; exact ⟨a, vs, rfl, h, t⟩
theorem Rep.mk_lst {xs : List D} {a : Addr} {vs : List V} (h : SqL K F a vs) (t : RepL K F xs vs) : Rep K F (.lst xs) (.ref a) := by
  simp only [Rep]; exact ⟨a, vs, rfl, h, t⟩
end

/-! ### how the heap grows -/
structure Ext (F H F' H' : Hp) : Prop where
  f : Same F F'
  h : Same H H'
  s : Same F' H'
  n : ∀ a o, F' a = some o → F a = none → H a = none
section
variable {F H F' H' F'' H'' : Hp}
theorem Ext.refl (e : Same F H) : Ext F H F H := ⟨.refl _, .refl _, e, fun a o h1 h2 => by rw [h2] at h1; cases h1⟩
theorem Ext.trans (a : Ext F H F' H') (b : Ext F' H' F'' H'') : Ext F H F'' H'' := by
  refine ⟨a.f.trans b.f, a.h.trans b.h, b.s, fun c o h1 h2 => ?_⟩
  cases q : F' c with
  | none => exact a.h.free (b.n c o h1 q)
  | some u => exact a.n c u q h2
theorem same_upd {p : Addr} {o : HO} (h : H p = none) : Same H (upd H p o) := fun b x e => by
  rw [upd_ne (ne_of_none e h)]
  exact e
/-- a new object, kept -/
theorem Ext.new {p : Addr} {o : HO} (e : Same F H) (h : H p = none) : Ext F H (upd F p o) (upd H p o) := by
  have hf : F p = none := e.free h
  refine ⟨same_upd hf, same_upd h, fun b x q => ?_, fun b x q r => ?_⟩
  · by_cases hb : b = p
    · subst hb; rw [upd_same] at q ⊢; exact q
    · rw [upd_ne hb] at q ⊢; exact e _ _ q
  · by_cases hb : b = p
    · subst hb; exact h
    · rw [upd_ne hb, r] at q; cases q
/-- a new object, not kept -/
theorem Ext.newH {p : Addr} {o : HO} (e : Same F H) (h : H p = none) : Ext F H F (upd H p o) :=
  ⟨.refl _, same_upd h, e.trans (same_upd h), fun b x q r => by rw [r] at q; cases q⟩
end

/-! ### things of one's own: lists that nothing else knows, and tuples with such in them -/
inductive O where
  | v (d : D) | l (os : List O) | t (os : List O) | m (ks : List Key) (os : List O)
  deriving Inhabited
mutual
def O.toD : O → D
  | .v d => d
  | .l os => .lst (O.toDs os)
  | .t os => .tup (O.toDs os)
  | .m ks os => .dct ks (O.toDs os)
def O.toDs : List O → List D
  | [] => []
  | o :: os => O.toD o :: O.toDs os
end
mutual
def OwR (K : PySem.W.Frag) (F H : Hp) : O → V → List Addr → Prop
  | .v d, v, fp => Rep K F d v ∧ fp = []
  | .l os, v, fp => ∃ a vs fq, v = .ref a ∧ H a = some (.lst vs) ∧ fp = a :: fq ∧ OwRs K F H os vs fq
  | .t os, v, fp => ∃ a vs, v = .ref a ∧ F a = some (.tup vs) ∧ OwRs K F H os vs fp
  | .m ks os, v, fp => ∃ a vs fq, v = .ref a ∧ H a = some (.dK (ks.zip vs)) ∧ ks.length = vs.length ∧ fp = a :: fq ∧ OwRs K F H os vs fq
def OwRs (K : PySem.W.Frag) (F H : Hp) : List O → List V → List Addr → Prop
  | [], vs, fp => vs = [] ∧ fp = []
  | o :: os, vs, fp => ∃ v r f1 f2, vs = v :: r ∧ fp = f1 ++ f2 ∧ OwR K F H o v f1 ∧ OwRs K F H os r f2
end
section
variable {K : PySem.W.Frag} {F F' H H' : Hp}
mutual
theorem OwR.move (s : Same F F') : ∀ (o : O) (v : V) (fp : List Addr), OwR K F H o v fp → (∀ b ∈ fp, H' b = H b) → OwR K F' H' o v fp
  | .v d, v, fp, h, _ => by
    simp only [OwR] at h ⊢
    exact ⟨Rep.mono s _ _ h.1, h.2⟩
  | .l os, v, fp, h, k => by
    simp only [OwR] at h ⊢
    obtain ⟨a, vs, fq, h1, h2, h3, h4⟩ := h
    subst h3
    exact ⟨a, vs, fq, h1, by rw [k a List.mem_cons_self]; exact h2, rfl, OwRs.move s os vs fq h4 fun b hb => k b (List.mem_cons_of_mem _ hb)⟩
  | .t os, v, fp, h, k => by
    simp only [OwR] at h ⊢
    obtain ⟨a, vs, h1, h2, h4⟩ := h
    exact ⟨a, vs, h1, s _ _ h2, OwRs.move s os vs fp h4 k⟩
  | .m ks os, v, fp, h, k => by
    simp only [OwR] at h ⊢
    obtain ⟨a, vs, fq, h1, h2, h5, h3, h4⟩ := h
    subst h3
    exact ⟨a, vs, fq, h1, by rw [k a List.mem_cons_self]; exact h2, h5, rfl, OwRs.move s os vs fq h4 fun b hb => k b (List.mem_cons_of_mem _ hb)⟩
theorem OwRs.move (s : Same F F') : ∀ (os : List O) (vs : List V) (fp : List Addr), OwRs K F H os vs fp → (∀ b ∈ fp, H' b = H b) → OwRs K F' H' os vs fp
  | [], vs, fp, h, _ => by simpa only [OwRs] using h
  | o :: os, vs, fp, h, k => by
    simp only [OwRs] at h ⊢
    obtain ⟨v, r, f1, f2, h1, h2, h3, h4⟩ := h
    subst h2
    exact ⟨v, r, f1, f2, h1, rfl, OwR.move s o v f1 h3 fun b hb => k b (List.mem_append_left _ hb), OwRs.move s os r f2 h4 fun b hb => k b (List.mem_append_right _ hb)⟩
end
theorem zip_inj : ∀ {ks : List Key} {vs ws : List V}, ks.length = vs.length → ks.length = ws.length → ks.zip vs = ks.zip ws → vs = ws
  | [], [], [], _, _, _ => rfl
  | [], _ :: _, _, h, _, _ => nomatch h
  | [], [], _ :: _, _, h, _ => nomatch h
  | _ :: _, [], _, h, _, _ => nomatch h
  | _ :: _, _ :: _, [], _, h, _ => nomatch h
  | k :: ks, v :: vs, w :: ws, h1, h2, h3 => by
    rw [List.zip_cons_cons, List.zip_cons_cons, List.cons.injEq, Prod.mk.injEq] at h3
    rw [h3.1.2, zip_inj (by simpa using h1) (by simpa using h2) h3.2]
mutual
theorem OwR.uniq : ∀ (o : O) (v : V) (fp fp' : List Addr), OwR K F H o v fp → OwR K F H o v fp' → fp = fp'
  | .v d, v, fp, fp', h, h' => by
    simp only [OwR] at h h'
    rw [h.2, h'.2]
  | .l os, v, fp, fp', h, h' => by
    simp only [OwR] at h h'
    obtain ⟨a, vs, fq, h1, h2, h3, h4⟩ := h
    obtain ⟨a', vs', fq', h1', h2', h3', h4'⟩ := h'
    rw [h1] at h1'
    cases h1'
    rw [h2] at h2'
    cases h2'
    rw [h3, h3', OwRs.uniq os vs fq fq' h4 h4']
  | .t os, v, fp, fp', h, h' => by
    simp only [OwR] at h h'
    obtain ⟨a, vs, h1, h2, h4⟩ := h
    obtain ⟨a', vs', h1', h2', h4'⟩ := h'
    rw [h1] at h1'
    cases h1'
    rw [h2] at h2'
    cases h2'
    exact OwRs.uniq os vs fp fp' h4 h4'
  | .m ks os, v, fp, fp', h, h' => by
    simp only [OwR] at h h'
    obtain ⟨a, vs, fq, h1, h2, h5, h3, h4⟩ := h
    obtain ⟨a', vs', fq', h1', h2', h5', h3', h4'⟩ := h'
    rw [h1] at h1'
    cases h1'
    rw [h2] at h2'
    have e : vs = vs' := zip_inj h5 h5' (by injection h2' with q; injection q)
    subst e
    rw [h3, h3', OwRs.uniq os vs fq fq' h4 h4']
theorem OwRs.uniq : ∀ (os : List O) (vs : List V) (fp fp' : List Addr), OwRs K F H os vs fp → OwRs K F H os vs fp' → fp = fp'
  | [], vs, fp, fp', h, h' => by
    simp only [OwRs] at h h'
    rw [h.2, h'.2]
  | o :: os, vs, fp, fp', h, h' => by
    simp only [OwRs] at h h'
    obtain ⟨v, r, f1, f2, h1, h2, h3, h4⟩ := h
    obtain ⟨v', r', f1', f2', h1', h2', h3', h4'⟩ := h'
    rw [h1] at h1'
    cases h1'
    rw [h2, h2', OwR.uniq o v f1 f1' h3 h3', OwRs.uniq os r f2 f2' h4 h4']
end
mutual
theorem OwR.inHL : ∀ (o : O) (v : V) (fp : List Addr), OwR K F H o v fp → ∀ a ∈ fp, (∃ vs, H a = some (.lst vs)) ∨ ∃ z, H a = some (.dK z)
  | .v d, v, fp, h, a, ha => by
    simp only [OwR] at h
    rw [h.2] at ha
    cases ha
  | .l os, v, fp, h, a, ha => by
    simp only [OwR] at h
    obtain ⟨a', vs, fq, h1, h2, h3, h4⟩ := h
    subst h3
    rcases List.mem_cons.mp ha with rfl | ha
    · exact .inl ⟨_, h2⟩
    · exact OwRs.inHL os vs fq h4 a ha
  | .m ks os, v, fp, h, a, ha => by
    simp only [OwR] at h
    obtain ⟨a', vs, fq, h1, h2, h5, h3, h4⟩ := h
    subst h3
    rcases List.mem_cons.mp ha with rfl | ha
    · exact .inr ⟨_, h2⟩
    · exact OwRs.inHL os vs fq h4 a ha
  | .t os, v, fp, h, a, ha => by
    simp only [OwR] at h
    obtain ⟨a', vs, h1, h2, h4⟩ := h
    exact OwRs.inHL os vs fp h4 a ha
theorem OwRs.inHL : ∀ (os : List O) (vs : List V) (fp : List Addr), OwRs K F H os vs fp → ∀ a ∈ fp, (∃ vs, H a = some (.lst vs)) ∨ ∃ z, H a = some (.dK z)
  | [], vs, fp, h, a, ha => by
    simp only [OwRs] at h
    rw [h.2] at ha
    cases ha
  | o :: os, vs, fp, h, a, ha => by
    simp only [OwRs] at h
    obtain ⟨v, r, f1, f2, h1, h2, h3, h4⟩ := h
    subst h2
    rcases List.mem_append.mp ha with ha | ha
    · exact OwR.inHL o v f1 h3 a ha
    · exact OwRs.inHL os r f2 h4 a ha
end
theorem OwR.inH (o : O) (v : V) (fp : List Addr) (h : OwR K F H o v fp) (a : Addr) (ha : a ∈ fp) : ∃ u, H a = some u := by
  rcases OwR.inHL o v fp h a ha with ⟨_, e⟩ | ⟨_, e⟩
  · exact ⟨_, e⟩
  · exact ⟨_, e⟩
theorem OwRs.inH (os : List O) (vs : List V) (fp : List Addr) (h : OwRs K F H os vs fp) (a : Addr) (ha : a ∈ fp) : ∃ u, H a = some u := by
  rcases OwRs.inHL os vs fp h a ha with ⟨_, e⟩ | ⟨_, e⟩
  · exact ⟨_, e⟩
  · exact ⟨_, e⟩
open Classical in
/-- the heap of kept things with more kept from another one -/
noncomputable def addF (F H : Hp) (fp : List Addr) : Hp := fun a => if a ∈ fp then H a else F a
theorem addF_in {a : Addr} {fp : List Addr} (h : a ∈ fp) : addF F H fp a = H a := by
  unfold addF
  rw [if_pos h]
theorem addF_out {a : Addr} {fp : List Addr} (h : a ∉ fp) : addF F H fp a = F a := by
  unfold addF
  rw [if_neg h]
theorem addF_same {fp : List Addr} (h : ∀ a ∈ fp, F a = none) : Same F (addF F H fp) := fun a o e => by
  by_cases q : a ∈ fp
  · rw [h a q] at e; cases e
  · rw [addF_out q]; exact e
theorem addF_H {fp : List Addr} (s : Same F H) : Same (addF F H fp) H := fun a o e => by
  by_cases q : a ∈ fp
  · rw [addF_in q] at e; exact e
  · rw [addF_out q] at e; exact s _ _ e
mutual
/-- all of one's own is kept from here on -/
theorem OwR.frz (s : Same F F') : ∀ (o : O) (v : V) (fp : List Addr), OwR K F H o v fp → (∀ a ∈ fp, F' a = H a) → Rep K F' o.toD v
  | .v d, v, fp, h, _ => by
    simp only [OwR] at h
    simp only [O.toD]
    exact Rep.mono s _ _ h.1
  | .l os, v, fp, h, k => by
    simp only [OwR] at h
    simp only [O.toD]
    obtain ⟨a, vs, fq, h1, h2, h3, h4⟩ := h
    subst h3
    subst h1
    exact Rep.mk_lst (.of (by rw [k a List.mem_cons_self]; exact h2)) (OwRs.frz s os vs fq h4 fun b hb => k b (List.mem_cons_of_mem _ hb))
  | .t os, v, fp, h, k => by
    simp only [OwR] at h
    simp only [O.toD]
    obtain ⟨a, vs, h1, h2, h4⟩ := h
    subst h1
    exact Rep.mk_tup (.of (s _ _ h2)) (OwRs.frz s os vs fp h4 k)
  | .m ks os, v, fp, h, k => by
    simp only [OwR] at h
    simp only [O.toD]
    obtain ⟨a, vs, fq, h1, h2, h5, h3, h4⟩ := h
    subst h3
    subst h1
    simp only [Rep]
    exact ⟨a, vs, rfl, .inl (by rw [k a List.mem_cons_self]; exact h2), h5, OwRs.frz s os vs fq h4 fun b hb => k b (List.mem_cons_of_mem _ hb)⟩
theorem OwRs.frz (s : Same F F') : ∀ (os : List O) (vs : List V) (fp : List Addr), OwRs K F H os vs fp → (∀ a ∈ fp, F' a = H a) → RepL K F' (O.toDs os) vs
  | [], vs, fp, h, _ => by
    simp only [OwRs] at h
    simp only [O.toDs, RepL]
    exact h.1
  | o :: os, vs, fp, h, k => by
    simp only [OwRs] at h
    simp only [O.toDs]
    obtain ⟨v, r, f1, f2, h1, h2, h3, h4⟩ := h
    subst h2
    subst h1
    exact RepL.cons (OwR.frz s o v f1 h3 fun b hb => k b (List.mem_append_left _ hb)) (OwRs.frz s os r f2 h4 fun b hb => k b (List.mem_append_right _ hb))
end
end

/-! ### slots -/
inductive Sl where
  | un | val (d : D) | own (ds : List D) | ownD (ks : List Key) (ds : List D) | tree (o : O) | pin (w : V) (o : O)
instance : Inhabited Sl := ⟨.un⟩
abbrev REnv := List Sl

def SlOk (K : PySem.W.Frag) (G F H : Hp) : Sl → Option V → Prop
  | .un, _ => True
  | .val d, x => ∃ v, x = some v ∧ Rep K F d v
  | .own ds, x => ∃ a vs, x = some (.ref a) ∧ H a = some (.lst vs) ∧ RepL K F ds vs ∧ F a = none ∧ G a = none
  | .ownD ks ds, x => ∃ a vs, x = some (.ref a) ∧ H a = some (.dK (ks.zip vs)) ∧ ks.length = vs.length ∧ RepL K F ds vs ∧ F a = none ∧ G a = none
  | .tree o, x => ∃ v fp, x = some v ∧ OwR K F H o v fp ∧ fp.Nodup ∧ ∀ a ∈ fp, F a = none ∧ G a = none
  | .pin w o, x => x = some w ∧ ∃ v fp, x = some v ∧ OwR K F H o v fp ∧ fp.Nodup ∧ ∀ a ∈ fp, F a = none ∧ G a = none
/-- what a slot has of its own -/
def Owned (K : PySem.W.Frag) (F H : Hp) : Sl → Option V → Addr → Prop
  | .own _, x, a => x = some (.ref a)
  | .ownD _ _, x, a => x = some (.ref a)
  | .tree o, x, a => ∃ v fp, x = some v ∧ OwR K F H o v fp ∧ a ∈ fp
  | .pin _ o, x, a => ∃ v fp, x = some v ∧ OwR K F H o v fp ∧ a ∈ fp
  | _, _, _ => False

structure RepE (K : PySem.W.Frag) (G F H : Hp) (σ : St) (ρ : REnv) : Prop where
  g : Same G H
  f : Same F H
  len : ρ.length = σ.length
  at_ : ∀ (i : Nat) (s : Sl) (x : Option V), ρ[i]? = some s → σ[i]? = some x → SlOk K G F H s x
  ap : ∀ (i j : Nat) (s t : Sl) (x y : Option V) (a : Addr), i ≠ j → ρ[i]? = some s → ρ[j]? = some t → σ[i]? = some x → σ[j]? = some y → Owned K F H s x a → Owned K F H t y a → False

/-- new kept objects are younger than G -/
def NewG (G F F' : Hp) : Prop := ∀ a o, F' a = some o → F a = none → G a = none

section
variable {K : PySem.W.Frag} {G F H F' H' : Hp} {σ : St} {ρ : REnv}
theorem NewG.refl : NewG G F F := fun a o h1 h2 => by rw [h2] at h1; cases h1
theorem NewG.trans {F'' : Hp} (a : NewG G F F') (b : NewG G F' F'') : NewG G F F'' := fun c o h1 h2 => by
  cases q : F' c with
  | none => exact b c o h1 q
  | some u => exact a c u q h2
theorem Ext.newG (e : Ext F H F' H') (g : Same G H) : NewG G F F' := fun a o h1 h2 => g.free (e.n a o h1 h2)
/-- what is one's own is known, and not kept -/
theorem SlOk.own {s : Sl} {x : Option V} (h : SlOk K G F H s x) {a : Addr} (o : Owned K F H s x a) : (∃ u, H a = some u) ∧ F a = none ∧ G a = none := by
  cases s with
  | un => exact o.elim
  | val d => exact o.elim
  | own ds =>
    obtain ⟨b, vs, e1, e2, e3, e4, e5⟩ := h
    have o : x = some (.ref a) := o
    rw [e1] at o
    cases o
    exact ⟨⟨_, e2⟩, e4, e5⟩
  | ownD ks ds =>
    obtain ⟨b, vs, e1, e2, e3, e6, e4, e5⟩ := h
    have o : x = some (.ref a) := o
    rw [e1] at o
    cases o
    exact ⟨⟨_, e2⟩, e4, e5⟩
  | tree q =>
    obtain ⟨v, fp, e1, e2, e3, e4⟩ := h
    obtain ⟨v', fp', e1', e2', e3'⟩ := o
    rw [e1] at e1'
    cases e1'
    rw [OwR.uniq q v fp' fp e2' e2] at e3'
    obtain ⟨vs, hv⟩ := OwR.inH q v fp e2 a e3'
    exact ⟨⟨_, hv⟩, e4 a e3'⟩
  | pin w q =>
    obtain ⟨_, v, fp, e1, e2, e3, e4⟩ := h
    obtain ⟨v', fp', e1', e2', e3'⟩ := o
    rw [e1] at e1'
    cases e1'
    rw [OwR.uniq q v fp' fp e2' e2] at e3'
    obtain ⟨vs, hv⟩ := OwR.inH q v fp e2 a e3'
    exact ⟨⟨_, hv⟩, e4 a e3'⟩
theorem SlOk.move {s : Sl} {x : Option V} (h : SlOk K G F H s x) (m : Same F F') (k : ∀ b, Owned K F H s x b → H' b = H b ∧ F' b = none) : SlOk K G F' H' s x ∧ ∀ a, Owned K F' H' s x a → Owned K F H s x a := by
  cases s with
  | un => exact ⟨trivial, fun a o => o.elim⟩
  | val d =>
    obtain ⟨v, e1, e2⟩ := h
    exact ⟨⟨v, e1, Rep.mono m _ _ e2⟩, fun a o => o.elim⟩
  | own ds =>
    obtain ⟨a, vs, e1, e2, e3, e4, e5⟩ := h
    obtain ⟨k1, k2⟩ := k a e1
    exact ⟨⟨a, vs, e1, by rw [k1]; exact e2, RepL.mono m _ _ e3, k2, e5⟩, fun a o => o⟩
  | ownD ks ds =>
    obtain ⟨a, vs, e1, e2, e3, e6, e4, e5⟩ := h
    obtain ⟨k1, k2⟩ := k a e1
    exact ⟨⟨a, vs, e1, by rw [k1]; exact e2, e3, RepL.mono m _ _ e6, k2, e5⟩, fun a o => o⟩
  | tree q =>
    obtain ⟨v, fp, e1, e2, e3, e4⟩ := h
    have kk : ∀ b ∈ fp, H' b = H b ∧ F' b = none := fun b hb => k b ⟨v, fp, e1, e2, hb⟩
    have e2' := OwR.move m q v fp e2 fun b hb => (kk b hb).1
    refine ⟨⟨v, fp, e1, e2', e3, fun b hb => ⟨(kk b hb).2, (e4 b hb).2⟩⟩, fun a o => ?_⟩
    obtain ⟨v', fp', o1, o2, o3⟩ := o
    rw [e1] at o1
    cases o1
    rw [OwR.uniq q v fp' fp o2 e2'] at o3
    exact ⟨v, fp, e1, e2, o3⟩
  | pin w q =>
    obtain ⟨e0, v, fp, e1, e2, e3, e4⟩ := h
    have kk : ∀ b ∈ fp, H' b = H b ∧ F' b = none := fun b hb => k b ⟨v, fp, e1, e2, hb⟩
    have e2' := OwR.move m q v fp e2 fun b hb => (kk b hb).1
    refine ⟨⟨e0, v, fp, e1, e2', e3, fun b hb => ⟨(kk b hb).2, (e4 b hb).2⟩⟩, fun a o => ?_⟩
    obtain ⟨v', fp', o1, o2, o3⟩ := o
    rw [e1] at o1
    cases o1
    rw [OwR.uniq q v fp' fp o2 e2'] at o3
    exact ⟨v, fp, e1, e2, o3⟩
/-- all slots as they were -/
theorem RepE.keep (r : RepE K G F H σ ρ) (g : Same G H') (f : Same F' H') (m : Same F F') (k : ∀ (i : Nat) (s : Sl) (x : Option V) (b : Addr), ρ[i]? = some s → σ[i]? = some x → Owned K F H s x b → H' b = H b ∧ F' b = none) : RepE K G F' H' σ ρ :=
  ⟨g, f, r.len, fun i s x h1 h2 => ((r.at_ i s x h1 h2).move m (fun b o => k i s x b h1 h2 o)).1, fun i j s t x y a hij h1 h2 h3 h4 o1 o2 =>
    r.ap i j s t x y a hij h1 h2 h3 h4 (((r.at_ i s x h1 h3).move (F' := F') (H' := H') m (fun b o => k i s x b h1 h3 o)).2 a o1) (((r.at_ j t y h2 h4).move (F' := F') (H' := H') m (fun b o => k j t y b h2 h4 o)).2 a o2)⟩
/-- one slot takes another thing -/
theorem RepE.put (r : RepE K G F H σ ρ) {i : Nat} {s' : Sl} {x' : Option V} (g : Same G H') (f : Same F' H') (m : Same F F')
    (k : ∀ (j : Nat) (s : Sl) (x : Option V) (b : Addr), j ≠ i → ρ[j]? = some s → σ[j]? = some x → Owned K F H s x b → H' b = H b ∧ F' b = none)
    (new : SlOk K G F' H' s' x') (dis : ∀ a, Owned K F' H' s' x' a → ∀ (j : Nat) (s : Sl) (x : Option V), j ≠ i → ρ[j]? = some s → σ[j]? = some x → Owned K F H s x a → False) : RepE K G F' H' (σ.set i x') (ρ.set i s') := by
  have hlen : (ρ.set i s').length = (σ.set i x').length := by simp [r.len]
  have self : ∀ (s : Sl) (x : Option V), (ρ.set i s')[i]? = some s → (σ.set i x')[i]? = some x → s = s' ∧ x = x' := fun s x h1 h2 => by
    have hi : i < ρ.length := by
      obtain ⟨q, _⟩ := List.getElem?_eq_some_iff.mp h1
      simpa using q
    rw [List.getElem?_set_self hi] at h1
    rw [List.getElem?_set_self (by rw [← r.len]; exact hi)] at h2
    cases h1
    cases h2
    exact ⟨rfl, rfl⟩
  have other : ∀ (j : Nat) (s : Sl) (x : Option V), j ≠ i → (ρ.set i s')[j]? = some s → (σ.set i x')[j]? = some x → ρ[j]? = some s ∧ σ[j]? = some x ∧ SlOk K G F' H' s x ∧ ∀ a, Owned K F' H' s x a → Owned K F H s x a := fun j s x hj h1 h2 => by
    rw [List.getElem?_set_ne (fun z => hj z.symm)] at h1 h2
    exact ⟨h1, h2, (r.at_ j s x h1 h2).move m fun b o => k j s x b hj h1 h2 o⟩
  refine ⟨g, f, hlen, fun j s x h1 h2 => ?_, fun j l s t x y a hjl h1 h2 h3 h4 o1 o2 => ?_⟩
  · by_cases hj : j = i
    · subst hj
      obtain ⟨rfl, rfl⟩ := self s x h1 h2
      exact new
    · exact (other j s x hj h1 h2).2.2.1
  · by_cases hj : j = i
    · subst hj
      obtain ⟨rfl, rfl⟩ := self s x h1 h3
      obtain ⟨q1, q2, _, q4⟩ := other l t y (fun z => hjl z.symm) h2 h4
      exact dis a o1 l t y (fun z => hjl z.symm) q1 q2 (q4 a o2)
    · obtain ⟨p1, p2, _, p4⟩ := other j s x hj h1 h3
      by_cases hl : l = i
      · subst hl
        obtain ⟨rfl, rfl⟩ := self t y h2 h4
        exact dis a o2 j s x hj p1 p2 (p4 a o1)
      · obtain ⟨q1, q2, _, q4⟩ := other l t y hl h2 h4
        exact r.ap j l s t x y a hjl p1 q1 p2 q2 (p4 a o1) (q4 a o2)
theorem RepE.ext (r : RepE K G F H σ ρ) (e : Ext F H F' H') : RepE K G F' H' σ ρ := by
  refine r.keep (r.g.trans e.h) e.s e.f fun i s x b h1 h2 o => ?_
  obtain ⟨⟨u, hu⟩, hf, _⟩ := (r.at_ i s x h1 h2).own o
  refine ⟨by rw [hu]; exact e.h _ _ hu, ?_⟩
  cases q : F' b with
  | none => rfl
  | some w =>
    have := e.n b w q hf
    rw [hu] at this
    cases this
/-- a slot takes a kept value -/
theorem RepE.setV (r : RepE K G F H σ ρ) {i : Nat} {d : D} {v : V} (h : Rep K F d v) : RepE K G F H (σ.set i (some v)) (ρ.set i (.val d)) :=
  r.put r.g r.f (.refl _) (fun j s x b _ h1 h2 o => ⟨rfl, ((r.at_ j s x h1 h2).own o).2.1⟩) ⟨v, rfl, h⟩ fun a o => o.elim
/-- a slot is forgotten -/
theorem RepE.unset (r : RepE K G F H σ ρ) {i : Nat} {x : Option V} : RepE K G F H (σ.set i x) (ρ.set i .un) :=
  r.put r.g r.f (.refl _) (fun j s x b _ h1 h2 o => ⟨rfl, ((r.at_ j s x h1 h2).own o).2.1⟩) trivial fun a o => o.elim
/-- a slot takes a new list of its own -/
theorem RepE.setO (r : RepE K G F H σ ρ) {i : Nat} {ds : List D} {a : Addr} {vs : List V} (h : RepL K F ds vs) (ha : H a = none) : RepE K G F (upd H a (.lst vs)) (σ.set i (some (.ref a))) (ρ.set i (.own ds)) := by
  have hf : F a = none := r.f.free ha
  have hg : G a = none := r.g.free ha
  have nab : ∀ (j : Nat) (s : Sl) (x : Option V) (b : Addr), ρ[j]? = some s → σ[j]? = some x → Owned K F H s x b → b ≠ a := fun j s x b h1 h2 o e => by
    obtain ⟨⟨u, hu⟩, _⟩ := (r.at_ j s x h1 h2).own o
    rw [e, ha] at hu
    cases hu
  refine r.put (fun b o q => ?_) (fun b o q => ?_) (.refl _) (fun j s x b _ h1 h2 o => ⟨upd_ne (nab j s x b h1 h2 o), ((r.at_ j s x h1 h2).own o).2.1⟩) ⟨a, vs, rfl, upd_same, h, hf, hg⟩ fun b o j s x _ h1 h2 o2 => ?_
  · rw [upd_ne (ne_of_none q hg)]; exact r.g _ _ q
  · rw [upd_ne (ne_of_none q hf)]; exact r.f _ _ q
  · have o : some (V.ref a) = some (.ref b) := o
    cases o
    exact nab j s x a h1 h2 o2 rfl
/-- a slot takes something of its own -/
theorem RepE.setT (r : RepE K G F H σ ρ) (ex : Ext F H F' H') {i : Nat} {o : O} {v : V} {fp : List Addr} (h : OwR K F' H' o v fp) (nd : fp.Nodup) (hn : ∀ a ∈ fp, H a = none ∧ F' a = none) : RepE K G F' H' (σ.set i (some v)) (ρ.set i (.tree o)) := by
  have r2 : RepE K G F' H' σ ρ := r.ext ex
  refine r2.put r2.g r2.f (.refl _) (fun j s x b _ h1 h2 o => ⟨rfl, ((r2.at_ j s x h1 h2).own o).2.1⟩) ⟨v, fp, rfl, h, nd, fun a ha => ⟨(hn a ha).2, r.g.free (hn a ha).1⟩⟩ fun b o' j s x _ h1 h2 o2 => ?_
  obtain ⟨v', fp', e1, e2, e3⟩ := o'
  cases e1
  rw [OwR.uniq o v fp' fp e2 h] at e3
  have q := ((r.at_ j s x h1 h2).move ex.f (F' := F') (H' := H') fun b o => by
    obtain ⟨⟨u, hu⟩, hf, _⟩ := (r.at_ j s x h1 h2).own o
    refine ⟨by rw [hu]; exact ex.h _ _ hu, ?_⟩
    cases q : F' b with
    | none => rfl
    | some w =>
      have := ex.n b w q hf
      rw [hu] at this
      cases this).2 b o2
  obtain ⟨⟨u, hu⟩, _⟩ := (r.at_ j s x h1 h2).own q
  rw [(hn b e3).1] at hu
  cases hu
/-- the list of one's own at slot i turns -/
theorem RepE.turnO (r : RepE K G F H σ ρ) {i : Nat} {ds es : List D} {a : Addr} {ws : List V} (hi : ρ[i]? = some (.own ds)) (hs : σ[i]? = some (some (.ref a))) (h : RepL K F es ws) :
    RepE K G F (upd H a (.lst ws)) σ (ρ.set i (.own es)) := by
  obtain ⟨a', vs, e1, e2, e3, hf, hg⟩ := r.at_ i _ _ hi hs
  cases e1
  have es : σ.set i (some (.ref a)) = σ := by
    have hl := (List.getElem?_eq_some_iff.mp hs)
    obtain ⟨hl, he⟩ := hl
    rw [← he]
    exact List.set_getElem_self hl
  have nab : ∀ (j : Nat) (s : Sl) (x : Option V) (b : Addr), j ≠ i → ρ[j]? = some s → σ[j]? = some x → Owned K F H s x b → b ≠ a := fun j s x b hj h1 h2 o e => by
    subst e
    exact r.ap j i s _ x _ b hj h1 hi h2 hs o rfl
  have q := r.put (F' := F) (H' := upd H a (.lst ws)) (i := i) (s' := .own _) (x' := some (.ref a)) (fun b o q => by rw [upd_ne (ne_of_none q hg)]; exact r.g _ _ q) (fun b o q => by rw [upd_ne (ne_of_none q hf)]; exact r.f _ _ q) (.refl _)
    (fun j s x b hj h1 h2 o => ⟨upd_ne (nab j s x b hj h1 h2 o), ((r.at_ j s x h1 h2).own o).2.1⟩) ⟨a, ws, rfl, upd_same, h, hf, hg⟩ fun b o j s x hj h1 h2 o2 => by
      have o : some (V.ref a) = some (.ref b) := o
      cases o
      exact nab j s x a hj h1 h2 o2 rfl
  rw [es] at q
  exact q
/-- the list of one's own at slot i is kept from here on -/
theorem RepE.freezeE (r : RepE K G F H σ ρ) {i : Nat} {ds : List D} (hi : ρ[i]? = some (.own ds)) :
    ∃ a vs, σ[i]? = some (some (.ref a)) ∧ H a = some (.lst vs) ∧ F a = none ∧ Same F (upd F a (.lst vs)) ∧ NewG G F (upd F a (.lst vs)) ∧ RepE K G (upd F a (.lst vs)) H σ (ρ.set i (.val (.lst ds))) := by
  have hl : i < ρ.length := (List.getElem?_eq_some_iff.mp hi).1
  have hsl : i < σ.length := by rw [← r.len]; exact hl
  have hs0 : σ[i]? = some σ[i] := List.getElem?_eq_getElem hsl
  obtain ⟨a, vs, e1, e2, e3, hf, hg⟩ := r.at_ i _ _ hi hs0
  have hs : σ[i]? = some (some (.ref a)) := by rw [hs0, e1]
  have sm : Same F (upd F a (.lst vs)) := same_upd hf
  have es : σ.set i (some (.ref a)) = σ := by
    rw [← e1]
    exact List.set_getElem_self hsl
  have nab : ∀ (j : Nat) (s : Sl) (x : Option V) (b : Addr), j ≠ i → ρ[j]? = some s → σ[j]? = some x → Owned K F H s x b → b ≠ a := fun j s x b hj h1 h2 o e => by
    subst e
    exact r.ap j i s _ x _ b hj h1 hi h2 hs o rfl
  refine ⟨a, vs, hs, e2, hf, sm, fun b o q z => ?_, ?_⟩
  · by_cases hb : b = a
    · subst hb; exact hg
    · rw [upd_ne hb, z] at q; cases q
  have q := r.put (F' := upd F a (.lst vs)) (H' := H) (i := i) (s' := .val (.lst ds)) (x' := some (.ref a)) r.g (fun b o q => by
      by_cases hb : b = a
      · subst hb; rw [upd_same] at q; rw [← q]; exact e2
      · rw [upd_ne hb] at q; exact r.f _ _ q) sm
    (fun j s x b hj h1 h2 o => ⟨rfl, by rw [upd_ne (nab j s x b hj h1 h2 o)]; exact ((r.at_ j s x h1 h2).own o).2.1⟩) ⟨.ref a, rfl, Rep.mk_lst (.of upd_same) (RepL.mono sm _ _ e3)⟩ fun b o => o.elim
  rw [es] at q
  exact q
theorem RepE.freeze (r : RepE K G F H σ ρ) {i : Nat} {ds : List D} (hi : ρ[i]? = some (.own ds)) :
    ∃ F', Same F F' ∧ NewG G F F' ∧ RepE K G F' H σ (ρ.set i (.val (.lst ds))) := by
  obtain ⟨a, vs, _, _, _, h1, h2, h3⟩ := r.freezeE hi
  exact ⟨_, h1, h2, h3⟩
/-- what is one's own at slot i is kept from here on -/
theorem RepE.freezeT (r : RepE K G F H σ ρ) {i : Nat} {o : O} (hi : ρ[i]? = some (.tree o)) :
    ∃ F', Same F F' ∧ NewG G F F' ∧ RepE K G F' H σ (ρ.set i (.val o.toD)) := by
  have hl : i < ρ.length := (List.getElem?_eq_some_iff.mp hi).1
  have hsl : i < σ.length := by rw [← r.len]; exact hl
  have hs0 : σ[i]? = some σ[i] := List.getElem?_eq_getElem hsl
  obtain ⟨v, fp, e1, e2, e3, e4⟩ := r.at_ i _ _ hi hs0
  have hs : σ[i]? = some (some v) := by rw [hs0, e1]
  have sm : Same F (addF F H fp) := addF_same fun a ha => (e4 a ha).1
  have es : σ.set i (some v) = σ := by
    rw [← e1]
    exact List.set_getElem_self hsl
  have nab : ∀ (j : Nat) (s : Sl) (x : Option V) (b : Addr), j ≠ i → ρ[j]? = some s → σ[j]? = some x → Owned K F H s x b → b ∉ fp := fun j s x b hj h1 h2 o' e =>
    r.ap j i s _ x _ b hj h1 hi h2 hs o' ⟨v, fp, rfl, e2, e⟩
  refine ⟨addF F H fp, sm, fun b u q z => ?_, ?_⟩
  · by_cases hb : b ∈ fp
    · exact (e4 b hb).2
    · rw [addF_out hb, z] at q; cases q
  have q := r.put (F' := addF F H fp) (H' := H) (i := i) (s' := .val o.toD) (x' := some v) r.g (addF_H r.f) sm
    (fun j s x b hj h1 h2 o => ⟨rfl, by rw [addF_out (nab j s x b hj h1 h2 o)]; exact ((r.at_ j s x h1 h2).own o).2.1⟩) ⟨v, rfl, OwR.frz sm o v fp e2 fun a ha => addF_in ha⟩ fun b o => o.elim
  rw [es] at q
  exact q
/-- a thing with its place told, without that -/
theorem RepE.pinTree (r : RepE K G F H σ ρ) {i : Nat} {w : V} {o : O} (hi : ρ[i]? = some (.pin w o)) : RepE K G F H σ (ρ.set i (.tree o)) := by
  have hl : i < ρ.length := (List.getElem?_eq_some_iff.mp hi).1
  have hsl : i < σ.length := by rw [← r.len]; exact hl
  have hs0 : σ[i]? = some σ[i] := List.getElem?_eq_getElem hsl
  have q := r.put (F' := F) (H' := H) (i := i) (s' := .tree o) (x' := σ[i]) r.g r.f (.refl _) (fun j s x b _ h1 h2 o => ⟨rfl, ((r.at_ j s x h1 h2).own o).2.1⟩) (r.at_ i _ _ hi hs0).2 fun b ob j s x hj h1 h2 o2 =>
    r.ap j i s _ x _ b hj h1 hi h2 hs0 o2 ob
  rw [List.set_getElem_self hsl] at q
  exact q
theorem RepE.freezeP (r : RepE K G F H σ ρ) {i : Nat} {w : V} {o : O} (hi : ρ[i]? = some (.pin w o)) :
    ∃ F', Same F F' ∧ NewG G F F' ∧ RepE K G F' H σ (ρ.set i (.val o.toD)) := by
  have hl : i < ρ.length := (List.getElem?_eq_some_iff.mp hi).1
  obtain ⟨F', h1, h2, h3⟩ := (r.pinTree hi).freezeT (List.getElem?_set_self hl)
  rw [List.set_set] at h3
  exact ⟨F', h1, h2, h3⟩
end
end Dy

set_option Elab.async false
set_option linter.all false
set_option maxRecDepth 100000
namespace Dy
open PySem PySem.Spec PyProof.Rows L2

/-! ### results -/
inductive R (α : Type) where
  | ok (a : α) | err (e : D) | bad
def R.bind {α β : Type} (x : R α) (f : α → R β) : R β := match x with
  | .ok a => f a
  | .err e => .err e
  | .bad => .bad
def R.opt {α : Type} : Option α → R α
  | some a => .ok a
  | none => .bad

/-- an exception in the air -/
def XD (K : PySem.W.Frag) (F : Hp) (e : D) (cls : Value) (dd : Option Addr) : Prop :=
  ∃ c fs xs vs, e = .exc c fs xs ∧ cls = .ref (He.ga K c) ∧ fs.length = vs.length ∧ RepL K F xs vs ∧ (match dd with | none => fs = [] | some d => F d = some (.xd (fs.zip vs)))
theorem XD.mono {K : PySem.W.Frag} {F F' : Hp} {e : D} {cls : Value} {dd : Option Addr} (s : Same F F') (h : XD K F e cls dd) : XD K F' e cls dd := by
  obtain ⟨c, fs, xs, vs, h1, h2, h3, h4, h5⟩ := h
  refine ⟨c, fs, xs, vs, h1, h2, h3, RepL.mono s _ _ h4, ?_⟩
  cases dd with
  | none => exact h5
  | some d => exact s _ _ h5

/-- what is wanted behind a piece whose result is x -/
def Post {α β : Type} (K : PySem.W.Frag) (W : WX) (rel : Hp → α → β → Prop) (σ : St) (F H : Hp) (x : R α) (Q : β → Hp → Prop) : Prop := match x with
  | .ok a => ∀ v F' H', Ext F H F' H' → rel F' a v → Q v H'
  | .err e => ∀ cls dd F' H', Ext F H F' H' → XD K F' e cls dd → W cls dd σ H'
  | .bad => False
section
variable {α β γ δ : Type} {K : PySem.W.Frag} {W : WX} {rel : Hp → α → β → Prop} {rel2 : Hp → γ → δ → Prop} {σ : St} {F H F' H' : Hp}
theorem Post.ext {x : R α} {Q : β → Hp → Prop} (e : Ext F H F' H') (h : Post K W rel σ F H x Q) : Post K W rel σ F' H' x Q := by
  cases x with
  | ok a => exact fun v F2 H2 e2 r => h v F2 H2 (e.trans e2) r
  | err d => exact fun cls dd F2 H2 e2 r => h cls dd F2 H2 (e.trans e2) r
  | bad => exact h
theorem Post.bind {x : R α} {k : α → R γ} {Q : δ → Hp → Prop} {Q' : β → Hp → Prop} (h : Post K W rel2 σ F H (x.bind k) Q)
    (f : ∀ a v F' H', x = .ok a → Ext F H F' H' → rel F' a v → Post K W rel2 σ F' H' (k a) Q → Q' v H') : Post K W rel σ F H x Q' := by
  cases x with
  | ok a => exact fun v F2 H2 e2 r => f a v F2 H2 rfl e2 r (Post.ext e2 h)
  | err d => exact h
  | bad => exact h
end

/-- the readings: of an expression, a test, arguments -/
def rg {α β : Type} (K : PySem.W.Frag) (W : WX) (rel : Hp → α → β → Prop) (f : REnv → R α) : St → Hp → (β → Hp → Prop) → Prop :=
  fun σ H Q => ∃ G F ρ, RepE K G F H σ ρ ∧ Post K W rel σ F H (f ρ) Q
abbrev rd (K : PySem.W.Frag) (W : WX) (f : REnv → R D) : TE := rg K W (Rep K) f
abbrev rt (K : PySem.W.Frag) (W : WX) (f : REnv → R Bool) : TT := rg K W (fun _ (a b : Bool) => a = b) f
abbrev ra (K : PySem.W.Frag) (W : WX) (f : REnv → R (List D)) : TA := rg K W (RepL K) f
abbrev SE (X : Cx) (W : WX) (e : Expr) (f : REnv → R D) : Prop := PE X e (rd X.K W f)
abbrev ST (X : Cx) (W : WX) (e : Expr) (f : REnv → R Bool) : Prop := PT X e (rt X.K W f)
abbrev SW (X : Cx) (W : WX) (e : Expr) (f : REnv → R Bool) : Prop := PW X e (rt X.K W f)
abbrev SA (X : Cx) (W : WX) (es : List Expr) (f : REnv → R (List D)) : Prop := PA X es (ra X.K W f)

end Dy
namespace L2
open PySem PySem.Spec PyProof.Rows
theorem PE.dy {X : Cx} {e : Expr} {t t' : TE} (h : PE X e t) (i : ∀ σ H Q, t' σ H Q → t σ H Q) : PE X e t' := ⟨fun pins s σ H Q I q => h.run pins s σ H Q I (i _ _ _ q)⟩
theorem PT.dy {X : Cx} {e : Expr} {t t' : TT} (h : PT X e t) (i : ∀ σ H Q, t' σ H Q → t σ H Q) : PT X e t' := ⟨fun pins s σ H Q I q => h.run pins s σ H Q I (i _ _ _ q)⟩
theorem PW.dy {X : Cx} {e : Expr} {t t' : TT} (h : PW X e t) (i : ∀ σ H Q, t' σ H Q → t σ H Q) : PW X e t' := ⟨fun wh pins s σ H Q I q => h.run wh pins s σ H Q I (i _ _ _ q)⟩
theorem PA.dy {X : Cx} {e : List Expr} {t t' : TA} (h : PA X e t) (i : ∀ σ H Q, t' σ H Q → t σ H Q) : PA X e t' := ⟨fun p pins s σ H Q I q => h.run p pins s σ H Q I (i _ _ _ q)⟩
theorem PS.dy {X : Cx} {e : Stmt} {t t' : TS} (h : PS X e t) (i : ∀ D σ H, t' D σ H → t D σ H) : PS X e t' := ⟨fun pins s σ H D I q => h.run pins s σ H D I (i _ _ _ q)⟩
theorem PSs.dy {X : Cx} {e : List Stmt} {t t' : TS} (h : PSs X e t) (i : ∀ D σ H, t' D σ H → t D σ H) : PSs X e t' := ⟨fun pins s σ H D I q => h.run pins s σ H D I (i _ _ _ q)⟩

end L2
namespace Dy
open PySem PySem.Spec PyProof.Rows L2

/-! ### operations by values -/
/-- the rule r does what o says -/
def Op2 (K : PySem.W.Frag) (r : R2) (o : D → D → Option D) : Prop := ∀ F H x y a b d Q, Same F H → Rep K F a x → Rep K F b y → o a b = some d → (∀ v F' H', Ext F H F' H' → Rep K F' d v → Q v H') → r x y H Q
theorem Op2.or {K : PySem.W.Frag} {r r' : R2} {o o' : D → D → Option D} (h : Op2 K r o) (h' : Op2 K r' o') : Op2 K (fun x y H Q => r x y H Q ∨ r' x y H Q) (fun a b => (o a b).or (o' a b)) := by
  intro F H x y a b d Q s ra rb e q
  have e : (o a b).or (o' a b) = some d := e
  cases e1 : o a b with
  | some d' => rw [e1] at e; cases e; exact .inl (h F H x y a b d Q s ra rb e1 q)
  | none => rw [e1] at e; exact .inr (h' F H x y a b d Q s ra rb e q)
/-- a rule over one thing -/
def Op1 (K : PySem.W.Frag) (r : V → Hp → VK → Prop) (o : D → Option D) : Prop := ∀ F H x a d Q, Same F H → Rep K F a x → o a = some d → (∀ v F' H', Ext F H F' H' → Rep K F' d v → Q v H') → r x H Q
/-- a call's rule -/
def OpN (K : PySem.W.Frag) (r : List V → Hp → VK → Prop) (o : List D → Option D) : Prop := ∀ F H xs as d Q, Same F H → RepL K F as xs → o as = some d → (∀ v F' H', Ext F H F' H' → Rep K F' d v → Q v H') → r xs H Q
theorem OpN.or {K : PySem.W.Frag} {r r' : List V → Hp → VK → Prop} {o o' : List D → Option D} (h : OpN K r o) (h' : OpN K r' o') : OpN K (fun x H Q => r x H Q ∨ r' x H Q) (fun a => (o a).or (o' a)) := by
  intro F H x a d Q s ra e q
  have e : (o a).or (o' a) = some d := e
  cases e1 : o a with
  | some d' => rw [e1] at e; cases e; exact .inl (h F H x a d Q s ra e1 q)
  | none => rw [e1] at e; exact .inr (h' F H x a d Q s ra e q)
/-- what asks nothing of the heap -/
theorem now {K : PySem.W.Frag} {F H : Hp} {d : D} {v : V} {Q : VK} (q : ∀ v F' H', Ext F H F' H' → Rep K F' d v → Q v H') (s : Same F H) (r : Rep K F d v) : Q v H := q v F H (.refl s) r
/-- a new object -/
theorem anew {K : PySem.W.Frag} {F H : Hp} {d : D} {o : HO} {Q : VK} (q : ∀ v F' H', Ext F H F' H' → Rep K F' d v → Q v H') (s : Same F H) (r : ∀ p, Same F (upd F p o) → Rep K (upd F p o) d (.ref p)) : ∀ p, H p = none → Q (.ref p) (upd H p o) :=
  fun p hp => q (.ref p) _ _ (Ext.new s hp) (r p (same_upd (s.free hp)))

section
variable {X : Cx} {W : WX} {a b c : Expr} {e : Expr} {es : List Expr} {f g h : REnv → R D} {pos : Pos}

/-! ### names, constants -/
def eVar (i : Nat) : REnv → R D := fun ρ => match ρ[i]? with
  | some (.val d) => .ok d
  | _ => .bad
def eC (d : D) : REnv → R D := fun _ => .ok d
theorem se_var (i : Nat) {x : Str} (hN : X.N[i]? = some x := by rfl) (hv : Vis X.env.scope x := by first | exact Or.inl rfl | exact Or.inr (Or.inl rfl) | exact Or.inr (Or.inr rfl)) (hd : (x == ("__debug__" : Str)) = false := by decide)
    (hcd : (x == ("__classdict__" : Str)) = false := by decide) : SE X W (.Name x pos) (eVar i) := by
  refine (pe_var hN hv hd hcd).dy fun σ H Q ⟨G, F, ρ, r, p⟩ => ?_
  unfold eVar at p
  cases q : ρ[i]? with
  | none => rw [q] at p; exact p.elim
  | some s =>
    rw [q] at p
    cases s with
    | val d =>
      have hi : i < σ.length := by
        rw [← r.len]
        exact (List.getElem?_eq_some_iff.mp q).1
      obtain ⟨v, e1, e2⟩ := r.at_ i _ _ q (List.getElem?_eq_getElem hi)
      exact ⟨v, by rw [List.getElem?_eq_getElem hi, e1], p v F H (.refl r.f) e2⟩
    | un => exact p.elim
    | own ds => exact p.elim
    | ownD ks ds => exact p.elim
    | tree o => exact p.elim
    | pin w o => exact p.elim
theorem se_const {v : V} {d : D} (hp : PE X e (tC v)) (hr : ∀ K F, Rep K F d v) : SE X W e (eC d) :=
  hp.dy fun σ H Q ⟨G, F, ρ, r, p⟩ => p v F H (.refl r.f) (hr _ _)
theorem se_int {i : Int} {j} : SE X W (.Constant (.int i) j pos) (eC (.int i)) := se_const pe_int fun _ _ => Rep.mk_int
theorem se_bl {i : Bool} {j} : SE X W (.Constant (.bool i) j pos) (eC (.bl i)) := se_const pe_bl fun _ _ => Rep.mk_bl
theorem se_non {j} : SE X W (.Constant .none j pos) (eC .non) := se_const pe_non fun _ _ => Rep.mk_non
theorem se_str {x : Str} {j} : SE X W (.Constant (.str x) j pos) (eC (.str x)) := se_const pe_str fun _ _ => Rep.mk_str
/-! ### operators -/
def eBin (o : D → D → Option D) (f g : REnv → R D) : REnv → R D := fun ρ => (f ρ).bind fun a => (g ρ).bind fun b => .opt (o a b)
theorem bin_read {r : R2} {o : D → D → Option D} (ho : Op2 X.K r o) {σ : St} {H : Hp} {Q : VK} (hh : rd X.K W (eBin o f g) σ H Q) : tOp r (rd X.K W f) (rd X.K W g) σ H Q := by
  obtain ⟨G, F, ρ, hr, p⟩ := hh
  refine ⟨G, F, ρ, hr, Post.bind p fun d1 v1 F1 H1 _ e1 r1 p1 => ⟨G, F1, ρ, hr.ext e1, Post.bind p1 fun d2 v2 F2 H2 _ e2 r2 p2 => ?_⟩⟩
  cases q : o d1 d2 with
  | none => rw [q] at p2; exact p2.elim
  | some d => rw [q] at p2; exact ho F2 H2 v1 v2 d1 d2 d Q e2.s (Rep.mono e2.f _ _ r1) r2 q p2
theorem se_op {op : Operator} {r : R2} {o : D → D → Option D} (ho : OpR X (binaryOp op) r ∧ Op2 X.K r o) (ha : SE X W a f) (hb : SE X W b g) : SE X W (.BinOp a op b pos) (eBin o f g) :=
  (pe_op ho.1 ha hb).dy fun _ _ _ hh => bin_read ho.2 hh
theorem se_cmp {op : CmpOp} {r : R2} {o : D → D → Option D} (ho : OpR X (compareOp op) r ∧ Op2 X.K r o) (ha : SE X W a f) (hb : SE X W b g) (hm : behindInMarks op b = false) : SE X W (.Compare a [op] [b] pos) (eBin o f g) :=
  (pe_cmpR ho.1 ha hb hm).dy fun _ _ _ hh => bin_read ho.2 hh
/-- a comparison's answer is a truth -/
def eTest (f : REnv → R D) : REnv → R Bool := fun ρ => (f ρ).bind fun d => match d with
  | .bl b => .ok b
  | _ => .bad
theorem test_read {σ : St} {H : Hp} {t : TE} {f : REnv → R D} (ht : ∀ Q, rd X.K W f σ H Q → t σ H Q) {Q : Bool → Hp → Prop} (hh : rt X.K W (eTest f) σ H Q) : tTest t σ H Q := by
  obtain ⟨G, F, ρ, hr, p⟩ := hh
  refine ht _ ⟨G, F, ρ, hr, Post.bind p fun d v F1 H1 _ e1 r1 p1 => ?_⟩
  cases d with
  | bl k => exact ⟨k, r1.bl_inv, p1 k F1 H1 (.refl e1.s) rfl⟩
  | non => exact p1.elim
  | int i => exact p1.elim
  | str i => exact p1.elim
  | ty i => exact p1.elim
  | cls i => exact p1.elim
  | tup i => exact p1.elim
  | lst i => exact p1.elim
  | dct i j => exact p1.elim
  | exc i j k => exact p1.elim
theorem st_cmp {op : CmpOp} {r : R2} {o : D → D → Option D} (ho : OpR X (compareOp op) r ∧ Op2 X.K r o) (ha : SE X W a f) (hb : SE X W b g) (hm : behindInMarks op b = false) : ST X W (.Compare a [op] [b] pos) (eTest (eBin o f g)) :=
  (pt_cmpR ho.1 ha hb hm).dy fun _ _ _ hh => test_read (fun _ h => bin_read ho.2 h) hh
/-- any expression whose value is a truth -/
theorem st_val (ha : SE X W e f) (he : ∀ whole, isTrue e X.env whole = (do let v ← whole; standAt e.pos; holding [v] (truthy v)) := by intro _; rfl) : ST X W e (eTest f) :=
  (pt_val ha he).dy fun _ _ _ hh => test_read (t := rd X.K W f) (fun _ h => h) hh
/-- a < b < c -/
def goOn (x : R D) : D → R D
  | .bl true => x
  | .bl false => .ok (.bl false)
  | _ => .bad
def eChain (o o' : D → D → Option D) (f g h : REnv → R D) : REnv → R D := fun ρ => (f ρ).bind fun a => (g ρ).bind fun b => (R.opt (o a b)).bind (goOn ((h ρ).bind fun c => .opt (o' b c)))

/-! ### arguments, displays -/
def aNil : REnv → R (List D) := fun _ => .ok []
def aCons (f : REnv → R D) (t : REnv → R (List D)) : REnv → R (List D) := fun ρ => (f ρ).bind fun a => (t ρ).bind fun r => .ok (a :: r)
theorem sa_nil : SA X W [] aNil := pa_nil.dy fun σ H Q ⟨G, F, ρ, r, p⟩ => p [] F H (.refl r.f) RepL.nil
theorem sa_cons {t : REnv → R (List D)} (ha : SE X W e f) (hr : SA X W es t) (hs : starEach (e :: es) X.env = (false, eval e X.env) :: starEach es X.env := by rfl) : SA X W (e :: es) (aCons f t) :=
  (pa_cons ha hr hs).dy fun σ H Q ⟨G, F, ρ, r, p⟩ => ⟨G, F, ρ, r, Post.bind p fun d v F1 H1 _ e1 r1 p1 => ⟨G, F1, ρ, r.ext e1, Post.bind p1 fun ds vs F2 H2 _ e2 r2 p2 => p2 (v :: vs) F2 H2 (.refl e2.s) (RepL.cons (Rep.mono e2.f _ _ r1) r2)⟩⟩
def eTup (t : REnv → R (List D)) : REnv → R D := fun ρ => (t ρ).bind fun ds => if ds.length ≤ sizeLine then .ok (.tup ds) else .bad
def eLst (t : REnv → R (List D)) : REnv → R D := fun ρ => (t ρ).bind fun ds => if ds.length ≤ sizeLine then .ok (.lst ds) else .bad
theorem se_tup {t : REnv → R (List D)} {k} (h : SA X W es t) : SE X W (.Tuple es k pos) (eTup t) :=
  (pe_tup h).dy fun σ H Q ⟨G, F, ρ, r, p⟩ => ⟨G, F, ρ, r, Post.bind p fun ds vs F1 H1 _ e1 r1 p1 => by
    by_cases hl : ds.length ≤ sizeLine
    · rw [if_pos hl] at p1
      exact ⟨by rw [← r1.length]; exact hl, anew p1 e1.s fun q s => Rep.mk_tup (.of upd_same) (RepL.mono s _ _ r1)⟩
    · rw [if_neg hl] at p1; exact p1.elim⟩
theorem se_lst {t : REnv → R (List D)} (h : SA X W es t) : SE X W (.List es pos) (eLst t) :=
  (pe_lst h).dy fun σ H Q ⟨G, F, ρ, r, p⟩ => ⟨G, F, ρ, r, Post.bind p fun ds vs F1 H1 _ e1 r1 p1 => by
    by_cases hl : ds.length ≤ sizeLine
    · rw [if_pos hl] at p1
      exact ⟨by rw [← r1.length]; exact hl, anew p1 e1.s fun q s => Rep.mk_lst (.of upd_same) (RepL.mono s _ _ r1)⟩
    · rw [if_neg hl] at p1; exact p1.elim⟩
/-- built-ins by their rules -/
def eN (o : List D → Option D) (t : REnv → R (List D)) : REnv → R D := fun ρ => (t ρ).bind fun ds => .opt (o ds)
theorem callN_read {r : List V → Hp → VK → Prop} {o : List D → Option D} {t : REnv → R (List D)} (ho : OpN X.K r o) {σ : St} {H : Hp} {Q : VK} (hh : rd X.K W (eN o t) σ H Q) : tCB r (ra X.K W t) σ H Q := by
  obtain ⟨G, F, ρ, hr, p⟩ := hh
  refine ⟨G, F, ρ, hr, Post.bind p fun ds vs F1 H1 _ e1 r1 p1 => ?_⟩
  cases q : o ds with
  | none => rw [q] at p1; exact p1.elim
  | some d => rw [q] at p1; exact ho F1 H1 vs ds d Q e1.s r1 q p1
variable {t : REnv → R (List D)} {x : Str} {p : Pos}
theorem se_blt {id : String} {r : List V → Hp → VK → Prop} {o : List D → Option D} (ho : CallR X (.builtin id) r ∧ OpN X.K r o) (hm : X.mg x = none) (ha : SA X W (e :: es) t) (hg : Gl X x := by rfl) (hv : bootBuiltins x = some (.builtin id) := by decide +kernel)
    (hn : x ≠ "__name__" := by decide) (hd : (x == ("__debug__" : Str)) = false := by decide) (he : starEach (e :: es) X.env = (false, eval e X.env) :: starEach es X.env := by rfl) (hpl : (backTo pos (starEach es X.env)).any (·.1) = false := by rfl) :
    SE X W (.Call (.Name x p) (e :: es) [] pos) (eN o t) :=
  (pe_callB ho.1 hg hm hv ha hn hd he hpl).dy fun _ _ _ hh => callN_read ho.2 hh
theorem se_bty {id : String} {r : List V → Hp → VK → Prop} {o : List D → Option D} (ho : CallR X (.type id) r ∧ OpN X.K r o) (hm : X.mg x = none) (ha : SA X W (e :: es) t) (hg : Gl X x := by rfl) (hv : bootBuiltins x = some (.type id) := by decide +kernel)
    (hn : x ≠ "__name__" := by decide) (hd : (x == ("__debug__" : Str)) = false := by decide) (he : starEach (e :: es) X.env = (false, eval e X.env) :: starEach es X.env := by rfl) (hpl : (backTo pos (starEach es X.env)).any (·.1) = false := by rfl) :
    SE X W (.Call (.Name x p) (e :: es) [] pos) (eN o t) :=
  (pe_callTy ho.1 hg hm hv ha hn hd he hpl).dy fun _ _ _ hh => callN_read ho.2 hh
/-- o[i] -/
theorem se_ix {r : R2} {o : D → D → Option D} (ho : IxR X r ∧ Op2 X.K r o) (ha : SE X W a f) (hb : SE X W b g) (hs : PlainIx b := by exact fun _ _ => rfl) : SE X W (.Subscript a b pos) (eBin o f g) :=
  (pe_ix ho.1 ha hb hs).dy fun _ _ _ hh => bin_read ho.2 hh
/-- -a -/
def eUn (o : D → Option D) (f : REnv → R D) : REnv → R D := fun ρ => (f ρ).bind fun a => .opt (o a)
theorem se_un {op : UnaryOp} {r : V → Hp → VK → Prop} {o : D → Option D} (ho : UnR X (unaryOp op) r ∧ Op1 X.K r o) (ha : SE X W a f) : SE X W (.UnaryOp op a pos) (eUn o f) :=
  (pe_un ho.1 ha).dy fun σ H Q ⟨G, F, ρ, hr, p⟩ => ⟨G, F, ρ, hr, Post.bind p fun d1 v1 F1 H1 _ e1 r1 p1 => by
    cases q : o d1 with
    | none => rw [q] at p1; exact p1.elim
    | some d => rw [q] at p1; exact ho.2 F1 H1 v1 d1 d Q e1.s r1 q p1⟩

/-! ### and, or, not -/
def eAnd (f g : REnv → R Bool) : REnv → R Bool := fun ρ => (f ρ).bind fun k => if k = true then g ρ else .ok false
def eOr (f g : REnv → R Bool) : REnv → R Bool := fun ρ => (f ρ).bind fun k => if k = true then .ok true else g ρ
def eNot (f : REnv → R Bool) : REnv → R Bool := fun ρ => (f ρ).bind fun k => .ok (!k)
variable {u v : REnv → R Bool} {rest : List Expr}
theorem sw_and1 (ha : ST X W a u) : SW X W (.BoolOp .And [a] pos) u := pw_and1 ha
theorem sw_or1 (ha : ST X W a u) : SW X W (.BoolOp .Or [a] pos) u := pw_or1 ha
theorem sw_and (ha : ST X W a u) (hb : SW X W (.BoolOp .And (b :: rest) pos) v) : SW X W (.BoolOp .And (a :: b :: rest) pos) (eAnd u v) :=
  (pw_and ha hb).dy fun σ H Q ⟨G, F, ρ, hr, p⟩ => ⟨G, F, ρ, hr, Post.bind p fun k k' F1 H1 _ e1 r1 p1 => by
    subst r1
    cases k with
    | true => exact ⟨G, F1, ρ, hr.ext e1, p1⟩
    | false => exact p1 false F1 H1 (.refl e1.s) rfl⟩
theorem sw_or (ha : ST X W a u) (hb : SW X W (.BoolOp .Or (b :: rest) pos) v) : SW X W (.BoolOp .Or (a :: b :: rest) pos) (eOr u v) :=
  (pw_or ha hb).dy fun σ H Q ⟨G, F, ρ, hr, p⟩ => ⟨G, F, ρ, hr, Post.bind p fun k k' F1 H1 _ e1 r1 p1 => by
    subst r1
    cases k with
    | false => exact ⟨G, F1, ρ, hr.ext e1, p1⟩
    | true => exact p1 true F1 H1 (.refl e1.s) rfl⟩
theorem st_bool {op} {l : List Expr} (h : SW X W (.BoolOp op l pos) u) : ST X W (.BoolOp op l pos) u := PW.pt h
theorem st_not (ha : ST X W a u) : ST X W (.UnaryOp .Not a pos) (eNot u) :=
  (pt_not ha).dy fun σ H Q ⟨G, F, ρ, hr, p⟩ => ⟨G, F, ρ, hr, Post.bind p fun k k' F1 H1 _ e1 r1 p1 => by
    subst r1
    exact p1 (!k) F1 H1 (.refl e1.s) rfl⟩
/-- .. as values -/
def eAndV (f g : REnv → R D) : REnv → R D := fun ρ => (f ρ).bind fun k => match k with
  | .bl true => g ρ
  | .bl false => .ok (.bl false)
  | _ => .bad
def eOrV (f g : REnv → R D) : REnv → R D := fun ρ => (f ρ).bind fun k => match k with
  | .bl false => g ρ
  | .bl true => .ok (.bl true)
  | _ => .bad
def eNotV (f : REnv → R D) : REnv → R D := fun ρ => (f ρ).bind fun k => match k with
  | .bl b => .ok (.bl (!b))
  | _ => .bad
theorem se_one {op} (ha : SE X W a f) : SE X W (.BoolOp op [a] pos) f := pe_one ha
theorem se_and (ha : SE X W a f) (hb : SE X W (.BoolOp .And (b :: rest) pos) g) : SE X W (.BoolOp .And (a :: b :: rest) pos) (eAndV f g) :=
  (pe_and ha hb).dy fun σ H Q ⟨G, F, ρ, hr, p⟩ => ⟨G, F, ρ, hr, Post.bind p fun k k' F1 H1 _ e1 r1 p1 => by
    cases k with
    | bl k =>
      refine ⟨k, r1.bl_inv, ?_⟩
      cases k with
      | true => exact ⟨G, F1, ρ, hr.ext e1, p1⟩
      | false => exact p1 _ F1 H1 (.refl e1.s) Rep.mk_bl
    | _ => exact p1.elim⟩
theorem se_not (ha : SE X W a f) : SE X W (.UnaryOp .Not a pos) (eNotV f) :=
  (pe_not ha).dy fun σ H Q ⟨G, F, ρ, hr, p⟩ => ⟨G, F, ρ, hr, Post.bind p fun k k' F1 H1 _ e1 r1 p1 => by
    cases k with
    | bl k => exact ⟨k, r1.bl_inv, p1 _ F1 H1 (.refl e1.s) Rep.mk_bl⟩
    | _ => exact p1.elim⟩
end

section
variable {X : Cx} {W : WX} {a b c : Expr} {f g h : REnv → R D} {pos : Pos}
end
end Dy

set_option Elab.async false
set_option linter.all false
set_option maxRecDepth 100000
namespace Dy
open PySem PySem.Spec PyProof.Rows L2

/-! ### statements -/
inductive SR where
  | next (ρ : REnv) | ret (d : D) | err (e : D) (ρ : REnv) | bad
def SR.seq (x : SR) (g : REnv → SR) : SR := match x with
  | .next ρ => g ρ
  | y => y
def R.toS {α : Type} (x : R α) (ρ : REnv) (k : α → SR) : SR := match x with
  | .ok a => k a
  | .err e => .err e ρ
  | .bad => .bad
def PostS (K : PySem.W.Frag) (W : WX) (D : Ends) (G F : Hp) (x : SR) : Prop := match x with
  | .next ρ => ∀ σ' F' H', Same F F' → NewG G F F' → RepE K G F' H' σ' ρ → D.nx σ' H'
  | .ret d => ∀ v F' H', Same F F' → NewG G F F' → Same G H' → Same F' H' → Rep K F' d v → D.rt v H'
  | .err e ρ => ∀ σ' F' H' cls dd, Same F F' → NewG G F F' → RepE K G F' H' σ' ρ → XD K F' e cls dd → W cls dd σ' H'
  | .bad => False
section
variable {α β : Type} {K : PySem.W.Frag} {W : WX} {D D' : Ends} {G F F' H : Hp} {σ : St} {ρ : REnv}
theorem PostS.ext {x : SR} (s : Same F F') (n : NewG G F F') (h : PostS K W D G F x) : PostS K W D G F' x := by
  cases x with
  | next ρ => exact fun σ' F2 H' s2 n2 r => h σ' F2 H' (s.trans s2) (n.trans n2) r
  | ret d => exact fun v F2 H' s2 n2 g f r => h v F2 H' (s.trans s2) (n.trans n2) g f r
  | err e ρ => exact fun σ' F2 H' cls dd s2 n2 r x => h σ' F2 H' cls dd (s.trans s2) (n.trans n2) r x
  | bad => exact h
theorem PostS.toS {rel : Hp → α → β → Prop} {x : R α} {k : α → SR} {Q : β → Hp → Prop} (r : RepE K G F H σ ρ) (h : PostS K W D G F (x.toS ρ k))
    (f : ∀ a v F' H', x = .ok a → Ext F H F' H' → rel F' a v → RepE K G F' H' σ ρ → PostS K W D G F' (k a) → Q v H') : Post K W rel σ F H x Q := by
  cases x with
  | ok a => exact fun v F' H' e p => f a v F' H' rfl e p (r.ext e) (PostS.ext e.f (e.newG r.g) h)
  | err e => exact fun cls dd F' H' ex p => h σ F' H' cls dd ex.f (ex.newG r.g) (r.ext ex) p
  | bad => exact h
/-- another end behind the statement's own -/
theorem PostS.seq {x : SR} {g : REnv → SR} {nx : St → Hp → Prop} (h : PostS K W D G F (x.seq g))
    (f : ∀ ρ σ' F' H', x = .next ρ → Same F F' → NewG G F F' → RepE K G F' H' σ' ρ → PostS K W D G F' (g ρ) → nx σ' H') : PostS K W { D with nx := nx } G F x := by
  cases x with
  | next ρ => exact fun σ' F' H' s n r => f ρ σ' F' H' rfl s n r (PostS.ext s n h)
  | ret d => exact h
  | err e ρ => exact h
  | bad => exact h
theorem PostS.ends {x : SR} {bk ct : St → Hp → Prop} (h : PostS K W D G F x) : PostS K W { D with bk := bk, ct := ct } G F x := by
  cases x with
  | next ρ => exact h
  | ret d => exact h
  | err e ρ => exact h
  | bad => exact h
end
def rs (K : PySem.W.Frag) (W : WX) (g : REnv → SR) : TS := fun D σ H => ∃ G F ρ, RepE K G F H σ ρ ∧ PostS K W D G F (g ρ)
abbrev SS (X : Cx) (W : WX) (s : Stmt) (g : REnv → SR) : Prop := PS X s (rs X.K W g)
abbrev SSs (X : Cx) (W : WX) (s : List Stmt) (g : REnv → SR) : Prop := PSs X s (rs X.K W g)

section
variable {X : Cx} {W : WX} {st : Stmt} {rest : List Stmt} {g h : REnv → SR} {e : Expr} {f : REnv → R D} {pos : Pos}
def sSkip : REnv → SR := .next
def sSeq (g h : REnv → SR) : REnv → SR := fun ρ => (g ρ).seq h
def sRet (f : REnv → R D) : REnv → SR := fun ρ => (f ρ).toS ρ .ret
def sSet (i : Nat) (f : REnv → R D) : REnv → SR := fun ρ => (f ρ).toS ρ fun d => .next (ρ.set i (.val d))
def sExpr (f : REnv → R D) : REnv → SR := fun ρ => (f ρ).toS ρ fun _ => .next ρ
def sIf (c : REnv → R Bool) (g h : REnv → SR) : REnv → SR := fun ρ => (c ρ).toS ρ fun b => if b = true then g ρ else h ρ
theorem sss_nil : SSs X W [] sSkip := pss_nil.dy fun D σ H ⟨G, F, ρ, r, p⟩ => p σ F H (.refl _) .refl r
theorem sss_cons (h1 : SS X W st g) (h2 : SSs X W rest h) : SSs X W (st :: rest) (sSeq g h) :=
  (pss_cons h1 h2).dy fun D σ H ⟨G, F, ρ, r, p⟩ => ⟨G, F, ρ, r, PostS.seq p fun ρ' σ' F' H' _ s n r' p' => ⟨G, F', ρ', r', p'⟩⟩
theorem sss_one (h1 : SS X W st g) : SSs X W [st] g := pss_one h1
theorem ss_ret (he : SE X W e f) : SS X W (.Return (some e) pos) (sRet f) :=
  (ps_ret he).dy fun D σ H ⟨G, F, ρ, r, p⟩ => ⟨G, F, ρ, r, PostS.toS r p fun d v F' H' _ ex rp r' p' => p' v F' H' (.refl _) .refl r'.g r'.f rp⟩
theorem ss_set {i : Nat} {x : Str} {pos' : Pos} (hN : X.N.Nodup) (he : SE X W e f) (hi : X.N[i]? = some x := by rfl) (hx : Loc X.env.scope x := by first | exact Or.inl rfl | exact Or.inr rfl) (hs : swapsWith e (some (.Name x pos')) pos.line X.env = pure false := by rfl)
    (hf : X.fn x = true ∨ X.env.scope.names.lookup x = some .local := by first | exact .inl rfl | exact .inr rfl | assumption) : SS X W (.Assign [.Name x pos'] e pos) (sSet i f) :=
  (ps_set hN hi hx he hs hf).dy fun D σ H ⟨G, F, ρ, r, p⟩ => ⟨G, F, ρ, r, PostS.toS r p fun d v F' H' _ ex rp r' p' => p' _ F' H' (.refl _) .refl (r'.setV rp)⟩
theorem ss_expr (he : SE X W e f) (hs : swapsWith e none pos.line X.env = pure false := by rfl) : SS X W (.Expr e pos) (sExpr f) :=
  (ps_expr he hs).dy fun D σ H ⟨G, F, ρ, r, p⟩ => ⟨G, F, ρ, r, PostS.toS r p fun d v F' H' _ ex rp r' p' => p' _ F' H' (.refl _) .refl r'⟩
theorem ss_if {c : Expr} {a b : List Stmt} {u : REnv → R Bool} (hc : ST X W c u) (ha : SSs X W a g) (hb : SSs X W b h) : SS X W (.If c a b pos) (sIf u g h) :=
  (ps_if hc ha hb).dy fun D σ H ⟨G, F, ρ, r, p⟩ => ⟨G, F, ρ, r, PostS.toS r p fun k v F' H' _ ex rp r' p' => by
    subst rp
    cases k with
    | true => exact ⟨G, F', ρ, r', p'⟩
    | false => exact ⟨G, F', ρ, r', p'⟩⟩
/-- a, b = b, a % b of two plain locals -/
def sPar (i j : Nat) (t : REnv → R (List D)) : REnv → SR := fun ρ => (t ρ).toS ρ fun ds => match ds with
  | [a, b] => .next ((ρ.set i (.val a)).set j (.val b))
  | _ => .bad
theorem ss_par {i j : Nat} {x y : Str} {a b : Expr} {t : REnv → R (List D)} {px py pt : Pos} {kt k2 pt2} (hc : X.calm = true) (hN : X.N.Nodup) (ha : SA X W [a, b] t) (hi : X.N[i]? = some x := by rfl) (hj : X.N[j]? = some y := by rfl) (hij : i ≠ j := by decide)
    (hx : X.env.scope.names.lookup x = some .local := by rfl) (hy : X.env.scope.names.lookup y = some .local := by rfl)
    (hw : swappedStores [.Tuple [.Name x px, .Name y py] kt pt] (.Tuple [a, b] k2 pt2) X.env = pure (some [x, y]) := by rfl)
    (hs : swapsWithSole [.Tuple [.Name x px, .Name y py] kt pt] (.Tuple [a, b] k2 pt2) pos.line X.env = pure false := by rfl) :
    SS X W (.Assign [.Tuple [.Name x px, .Name y py] kt pt] (.Tuple [a, b] k2 pt2) pos) (sPar i j t) :=
  (ps_par hc hN hi hj hij hx hy ha hw hs).dy fun D σ H ⟨G, F, ρ, r, p⟩ => ⟨G, F, ρ, r, PostS.toS r p fun ds vs F' H' _ ex rp r' p' => by
    match ds, rp, p' with
    | [a, b], rp, p' =>
      simp only [RepL] at rp
      obtain ⟨v, r1, e1, h1, w, r2, e2, h2, e3⟩ := rp
      subst e3; subst e2; subst e1
      exact ⟨v, w, rfl, p' _ F' H' (.refl _) .refl ((r'.setV h1).setV h2)⟩
    | [], _, p' => exact p'.elim
    | [_], _, p' => exact p'.elim
    | _ :: _ :: _ :: _, _, p' => exact p'.elim⟩

/-! ### targets -/
/-- the slots of `is` alone may differ -/
def OnlyAt (is : List Nat) (σ σ' : St) : Prop := σ'.length = σ.length ∧ ∀ j, j ∉ is → σ'[j]? = σ[j]?
theorem OnlyAt.refl {is : List Nat} {σ : St} : OnlyAt is σ σ := ⟨rfl, fun _ _ => rfl⟩
theorem OnlyAt.trans {is js : List Nat} {σ σ' σ'' : St} (a : OnlyAt is σ σ') (b : OnlyAt js σ' σ'') : OnlyAt (is ++ js) σ σ'' := ⟨b.1.trans a.1, fun j h => by
  rw [List.mem_append, not_or] at h
  exact (b.2 j h.2).trans (a.2 j h.1)⟩
def TgOk (K : PySem.W.Frag) (t : TG) (b : D → REnv → Option REnv) (is : List Nat) : Prop := ∀ G F H σ ρ ρ' d v Q, RepE K G F H σ ρ → Rep K F d v → b d ρ = some ρ' → (∀ σ', RepE K G F H σ' ρ' → OnlyAt is σ σ' → Q σ' H) → t v σ H Q
def TgsOk (K : PySem.W.Frag) (t : TGs) (b : List D → REnv → Option REnv) (is : List Nat) : Prop := ∀ G F H σ ρ ρ' ds vs Q, RepE K G F H σ ρ → RepL K F ds vs → b ds ρ = some ρ' → (∀ σ', RepE K G F H σ' ρ' → OnlyAt is σ σ' → Q σ' H) → t vs σ H Q
def bName (i : Nat) : D → REnv → Option REnv := fun d ρ => some (ρ.set i (.val d))
def bNil : List D → REnv → Option REnv := fun ds ρ => match ds with
  | [] => some ρ
  | _ => none
def bCons (b : D → REnv → Option REnv) (c : List D → REnv → Option REnv) : List D → REnv → Option REnv := fun ds ρ => match ds with
  | d :: r => (b d ρ).bind (c r)
  | [] => none
def bSeq (n : Nat) (c : List D → REnv → Option REnv) : D → REnv → Option REnv := fun d ρ => match d with
  | .tup xs => if xs.length = n then c xs ρ else none
  | .lst xs => if xs.length = n then c xs ρ else none
  | _ => none
theorem tg_name {K : PySem.W.Frag} (i : Nat) : TgOk K (gName i) (bName i) [i] := fun G F H σ ρ ρ' d v Q r rp e q => by
  cases e
  exact q _ (r.setV rp) ⟨by simp, fun j h => List.getElem?_set_ne (fun z => h (by simp [z]))⟩
theorem tgs_nil {K : PySem.W.Frag} : TgsOk K gNil bNil [] := fun G F H σ ρ ρ' ds vs Q r rp e q => by
  cases ds with
  | nil =>
    cases e
    simp only [RepL] at rp
    exact ⟨rp, q σ r .refl⟩
  | cons d ds => cases e
theorem tgs_cons {K : PySem.W.Frag} {t : TG} {t2 : TGs} {b : D → REnv → Option REnv} {c : List D → REnv → Option REnv} {is js : List Nat} (k : TgOk K t b is) (k2 : TgsOk K t2 c js) : TgsOk K (gCons t t2) (bCons b c) (is ++ js) := fun G F H σ ρ ρ' ds vs Q r rp e q => by
  cases ds with
  | nil => cases e
  | cons d ds =>
    simp only [RepL] at rp
    obtain ⟨v, rr, e1, h1, h2⟩ := rp
    have e : (b d ρ).bind (c ds) = some ρ' := e
    cases e2 : b d ρ with
    | none => rw [e2] at e; cases e
    | some ρ1 =>
      rw [e2] at e
      exact ⟨v, rr, e1, k G F H σ ρ ρ1 d v _ r h1 e2 fun σ1 r1 o1 => k2 G F H σ1 ρ1 ρ' ds rr Q r1 h2 e fun σ2 r2 o2 => q σ2 r2 (o1.trans o2)⟩
/-- (a, b, ..) = a tuple or a list of that length -/
def gSeq (K : PySem.W.Frag) (n : Nat) (t : TGs) : TG := fun v σ H Q => ∃ a xs, v = .ref a ∧ (SqT K H a xs ∨ SqL K H a xs) ∧ xs.length = n ∧ t xs σ H Q
theorem pg_seq {es : List Expr} {k : Nat} {t : TGs} {n : Nat} (hc : X.calm = true) (h : PGs X es t)
    (hn : (assignEach es X.env).length = n := by rfl) (hst : (assignEach es X.env).findIdx? (·.1) = none := by rfl) : PG X (.Tuple es k pos) (gSeq X.K n t) := by
  refine ⟨fun pins s σ H v u Q I r hw => ?_⟩
  obtain ⟨a, xs, e1, hq, hl, hw⟩ := hw
  rcases hq with hq | hq
  · exact (pg_tup hc h hn hst).run pins s σ H v u Q I r ⟨a, xs, e1, hq, hl, hw⟩
  · exact (pg_lst hc h hn hst).run pins s σ H v u Q I r ⟨a, xs, e1, hq, hl, hw⟩
theorem tg_seq {K : PySem.W.Frag} {t : TGs} {b : List D → REnv → Option REnv} {n : Nat} {is : List Nat} (kk : TgsOk K t b is) : TgOk K (gSeq K n t) (bSeq n b) is := fun G F H σ ρ ρ' d v Q r rp e q => by
  cases d with
  | tup xs =>
    obtain ⟨a, vs, h1, h2, h3⟩ := rp.tup_inv
    by_cases hl : xs.length = n
    · have e : b xs ρ = some ρ' := by
        have e0 : (if xs.length = n then b xs ρ else none) = some ρ' := e
        rw [if_pos hl] at e0
        exact e0
      exact ⟨a, vs, h1, .inl (Same.seqT r.f h2), by rw [← h3.length]; exact hl, kk G F H σ ρ ρ' xs vs Q r h3 e q⟩
    · have e0 : (if xs.length = n then b xs ρ else none) = some ρ' := e
      rw [if_neg hl] at e0
      cases e0
  | lst xs =>
    obtain ⟨a, vs, h1, h2, h3⟩ := rp.lst_inv
    by_cases hl : xs.length = n
    · have e : b xs ρ = some ρ' := by
        have e0 : (if xs.length = n then b xs ρ else none) = some ρ' := e
        rw [if_pos hl] at e0
        exact e0
      exact ⟨a, vs, h1, .inr (Same.seq r.f h2), by rw [← h3.length]; exact hl, kk G F H σ ρ ρ' xs vs Q r h3 e q⟩
    · have e0 : (if xs.length = n then b xs ρ else none) = some ρ' := e
      rw [if_neg hl] at e0
      cases e0
  | _ => cases e
def sAsg (f : REnv → R D) (b : D → REnv → Option REnv) : REnv → SR := fun ρ => (f ρ).toS ρ fun d => match b d ρ with
  | some ρ' => .next ρ'
  | none => .bad
theorem ss_asg {tg : Expr} {t : TG} {b : D → REnv → Option REnv} {is : List Nat} (he : SE X W e f) (hp : PG X tg t) (k : TgOk X.K t b is) (hs : swapsWithSole [tg] e pos.line X.env = pure false := by rfl) (hw : swappedStores [tg] e X.env = pure none := by rfl)
    (h1 : (assignEach [tg] X.env).map (·.2) = [assign tg X.env] := by rfl) : SS X W (.Assign [tg] e pos) (sAsg f b) := by
  refine (ps_asg he hp hs hw h1).dy fun D σ H ⟨G, F, ρ, r, p⟩ => ⟨G, F, ρ, r, PostS.toS r p fun d v F' H' _ ex rp r' p' => ?_⟩
  cases q : b d ρ with
  | none => rw [q] at p'; exact p'.elim
  | some ρ' =>
    rw [q] at p'
    exact k G F' H' σ ρ ρ' d v _ r' rp q fun σ' r2 _ => p' σ' F' H' (.refl _) .refl r2

/-! ### loops -/
/-- J yields the things ds -/
structure ItOk (K : PySem.W.Frag) (J : It) (ds : List D) (F : Hp) : Prop where
  go : ∀ i H, i < ds.length → Same F H → J.go i H
  stop : ∀ H, Same F H → J.stop ds.length H
  yld : ∀ i H x H' F1, i < ds.length → Same F F1 → Same F1 H → J.yld i H x H' → ∃ F2 d, Ext F1 H F2 H' ∧ ds[i]? = some d ∧ Rep K F2 d x
theorem ItOk.mono {K : PySem.W.Frag} {J : It} {ds : List D} {F F' : Hp} (h : ItOk K J ds F) (s : Same F F') : ItOk K J ds F' :=
  ⟨fun i H hi q => h.go i H hi (s.trans q), fun H q => h.stop H (s.trans q), fun i H x H' F1 hi q q1 y => h.yld i H x H' F1 hi (s.trans q) q1 y⟩
def ri (K : PySem.W.Frag) (W : WX) (f : REnv → R (List D)) : TI := fun σ H R => ∃ G F ρ, RepE K G F H σ ρ ∧ Post K W (fun F' ds (J : It) => ItOk K J ds F') σ F H (f ρ) R
abbrev SI (X : Cx) (W : WX) (tg iter : Expr) (f : REnv → R (List D)) : Prop := PI X tg iter (ri X.K W f)
def forS (b : D → REnv → Option REnv) (body : REnv → SR) : List D → REnv → SR
  | [], ρ => .next ρ
  | d :: ds, ρ => match b d ρ with
    | some ρ' => (body ρ').seq (forS b body ds)
    | none => .bad
def sFor (f : REnv → R (List D)) (b : D → REnv → Option REnv) (body : REnv → SR) : REnv → SR := fun ρ => (f ρ).toS ρ fun ds => forS b body ds ρ
theorem for_read {J : It} {ds : List D} {t : TG} {b : D → REnv → Option REnv} {body : REnv → SR} {K : PySem.W.Frag} {is : List Nat} (hg : TgOk K t b is) {D : Ends} {G F1 H1 : Hp} {σ : St} {ρ : REnv} (hJ : ItOk K J ds F1) (r : RepE K G F1 H1 σ ρ) (p : PostS K W D G F1 (forS b body ds ρ)) :
    ∃ Wv : Nat → Nat → St → Hp → Prop, (∃ m, Wv 0 m σ H1) ∧ ∀ i m σ H, Wv i m σ H →
      (J.stop i H ∧ D.nx σ H) ∨ (J.go i H ∧ ∃ N : St → Hp → Prop, (∀ σ' H', N σ' H' → ∃ m', m' < m ∧ Wv (i + 1) m' σ' H') ∧ ∀ x H', J.yld i H x H' → t x σ H' fun σ2 H2 => rs K W body { D with nx := N, ct := N, bk := D.nx } σ2 H2) := by
  let Pv : Nat → St → Hp → Prop := fun i σ H => ∃ F' ρ', Same F1 F' ∧ NewG G F1 F' ∧ RepE K G F' H σ ρ' ∧ PostS K W D G F' (forS b body (ds.drop i) ρ')
  refine ⟨fun i m σ H => m = ds.length - i ∧ i ≤ ds.length ∧ Pv i σ H, ⟨ds.length, by simp, Nat.zero_le _, F1, ρ, .refl _, .refl, r, by simpa using p⟩, ?_⟩
  rintro i m σ H ⟨rfl, hi, F', ρ', s, n, r, p⟩
  by_cases hlt : i < ds.length
  · refine .inr ⟨hJ.go i H hlt (s.trans r.f), Pv (i + 1), fun σ' H' q => ⟨ds.length - (i + 1), by omega, rfl, hlt, q⟩, fun x H' y => ?_⟩
    obtain ⟨F2, d, ex, ed, rp⟩ := hJ.yld i H x H' F' hlt s r.f y
    have dr : ds.drop i = d :: ds.drop (i + 1) := by
      obtain ⟨h1, h2⟩ := List.getElem?_eq_some_iff.mp ed
      rw [← h2]
      exact List.drop_eq_getElem_cons h1
    rw [dr] at p
    have r2 := r.ext ex
    have p2 := PostS.ext ex.f (ex.newG r.g) p
    have p3 : PostS K W D G F2 (match b d ρ' with | some ρ2 => (body ρ2).seq (forS b body (ds.drop (i + 1))) | none => .bad) := p2
    cases q : b d ρ' with
    | none => rw [q] at p3; exact p3.elim
    | some ρ2 =>
      rw [q] at p3
      refine hg G F2 H' σ ρ' ρ2 d x _ r2 rp q fun σ2 r3 _ => ⟨G, F2, ρ2, r3, ?_⟩
      refine PostS.ends (D := { D with nx := Pv (i + 1) }) (PostS.seq p3 fun ρ3 σ3 F3 H3 _ s3 n3 r4 p4 => ?_)
      exact ⟨F3, ρ3, s.trans (ex.f.trans s3), n.trans ((ex.newG r.g).trans n3), r4, p4⟩
  · have e : i = ds.length := by omega
    subst e
    rw [List.drop_length] at p
    exact .inl ⟨hJ.stop H (s.trans r.f), p σ F' H (.refl _) .refl r⟩
theorem ss_for {tg iter : Expr} {body : List Stmt} {fi : REnv → R (List D)} {t : TG} {b : D → REnv → Option REnv} {is : List Nat} (hp : PassesOwn (model X.prog X.w) X.A X.env X.xe) (hc : X.calm = true) (hi : SI X W tg iter fi) (pg : PG X tg t) (k : TgOk X.K t b is) (hb : SSs X W body g)
    (hs : ∀ x, foldedSetIterable iter X.env x = pure x := by intro _; rfl) : SS X W (.For tg iter body [] pos) (sFor fi b g) := by
  exact (ps_for hp hc hi pg hb hs).dy fun D σ H ⟨G, F, ρ, r, p⟩ => ⟨G, F, ρ, r, PostS.toS r p fun ds J F' H' _ ex rp r' p' => for_read k rp r' p'⟩

/-! ### while -/
def whileN (t : REnv → R Bool) (body : REnv → SR) : Nat → REnv → SR
  | 0, _ => .bad
  | n + 1, ρ => (t ρ).toS ρ fun k => if k = true then (body ρ).seq (whileN t body n) else .next ρ
open Classical in
noncomputable def whileS (t : REnv → R Bool) (body : REnv → SR) : REnv → SR := fun ρ => if h : ∃ n, whileN t body n ρ ≠ .bad then whileN t body (choose h) ρ else .bad
theorem whileN_mono {t : REnv → R Bool} {body : REnv → SR} : ∀ (n k : Nat) (ρ : REnv), whileN t body n ρ ≠ .bad → whileN t body (n + k) ρ = whileN t body n ρ
  | 0, k, ρ, h => absurd rfl h
  | n + 1, k, ρ, h => by
    rw [show n + 1 + k = (n + k) + 1 by omega]
    unfold whileN at h ⊢
    cases e : t ρ with
    | err e' => rfl
    | bad => rfl
    | ok c =>
      rw [e] at h
      cases c with
      | false => rfl
      | true =>
        simp only [R.toS, if_true] at h ⊢
        cases e2 : body ρ with
        | next ρ' =>
          rw [e2] at h
          exact whileN_mono n k ρ' h
        | ret d => rfl
        | err d r => rfl
        | bad => rfl
theorem whileS_of {t : REnv → R Bool} {body : REnv → SR} {n : Nat} {ρ : REnv} (h : whileN t body n ρ ≠ .bad) : whileS t body ρ = whileN t body n ρ := by
  classical
  have hx : ∃ n, whileN t body n ρ ≠ .bad := ⟨n, h⟩
  unfold whileS
  rw [dif_pos hx]
  have h2 := Classical.choose_spec hx
  have e1 := whileN_mono n (Classical.choose hx) ρ h
  have e2 := whileN_mono (Classical.choose hx) n ρ h2
  rw [← e1, Nat.add_comm, e2]
theorem whileS_ex {t : REnv → R Bool} {body : REnv → SR} {ρ : REnv} (h : whileS t body ρ ≠ .bad) : ∃ n, whileS t body ρ = whileN t body n ρ := by
  classical
  unfold whileS at h ⊢
  by_cases hx : ∃ n, whileN t body n ρ ≠ .bad
  · rw [dif_pos hx]; exact ⟨_, rfl⟩
  · rw [dif_neg hx] at h; exact absurd rfl h
theorem whileS_eq (t : REnv → R Bool) (body : REnv → SR) (ρ : REnv) : whileS t body ρ = (t ρ).toS ρ fun k => if k = true then (body ρ).seq (whileS t body) else .next ρ := by
  have one : ∀ n, whileN t body (n + 1) ρ = (t ρ).toS ρ fun k => if k = true then (body ρ).seq (whileN t body n) else .next ρ := fun n => rfl
  cases e : t ρ with
  | err e' =>
    rw [whileS_of (n := 1)]
    · rw [one, e]; rfl
    · rw [one, e]; exact fun z => by cases z
  | bad =>
    have z : ∀ n, whileN t body n ρ = .bad := fun n => by
      cases n with
      | zero => rfl
      | succ n => rw [one, e]; rfl
    unfold whileS
    rw [dif_neg (fun ⟨n, h⟩ => h (z n))]; rfl
  | ok c =>
    cases c with
    | false =>
      rw [whileS_of (n := 1)]
      · rw [one, e]; rfl
      · rw [one, e]; exact fun z => by cases z
    | true =>
      show whileS t body ρ = (body ρ).seq (whileS t body)
      have one' : ∀ n, whileN t body (n + 1) ρ = (body ρ).seq (whileN t body n) := fun n => by rw [one, e]; rfl
      cases e2 : body ρ with
      | next ρ' =>
        show whileS t body ρ = whileS t body ρ'
        by_cases hx : ∃ n, whileN t body n ρ' ≠ .bad
        · obtain ⟨n, hn⟩ := hx
          have q : whileN t body (n + 1) ρ = whileN t body n ρ' := by rw [one', e2]; rfl
          rw [whileS_of hn, whileS_of (n := n + 1) (by rw [q]; exact hn), q]
        · have z : ∀ n, whileN t body n ρ' = .bad := fun n => Classical.byContradiction fun h => hx ⟨n, h⟩
          have z2 : ∀ n, whileN t body n ρ = .bad := fun n => by
            cases n with
            | zero => rfl
            | succ n => rw [one', e2]; exact z n
          unfold whileS
          rw [dif_neg (fun ⟨n, h⟩ => h (z2 n)), dif_neg hx]
      | ret d =>
        rw [whileS_of (n := 1)]
        · rw [one', e2]; rfl
        · rw [one', e2]; exact fun z => by cases z
      | err d r =>
        rw [whileS_of (n := 1)]
        · rw [one', e2]; rfl
        · rw [one', e2]; exact fun z => by cases z
      | bad =>
        have z2 : ∀ n, whileN t body n ρ = .bad := fun n => by
          cases n with
          | zero => rfl
          | succ n => rw [one', e2]; rfl
        unfold whileS
        rw [dif_neg (fun ⟨n, h⟩ => h (z2 n))]; rfl
theorem ss_while {c : Expr} {body : List Stmt} {u : REnv → R Bool} (hp : PassesOwn (model X.prog X.w) X.A X.env X.xe) (hc : ST X W c u) (hb : SSs X W body g) : SS X W (.While c body [] pos) (whileS u g) := by
  refine (ps_while hp hc hb).dy fun D σ H ⟨G, F, ρ, r, p⟩ => ?_
  have hne : whileS u g ρ ≠ .bad := fun z => by rw [z] at p; exact p
  obtain ⟨n, en⟩ := whileS_ex hne
  rw [en] at p
  let Pv : Nat → St → Hp → Prop := fun m σ H => ∃ F' ρ', Same F F' ∧ NewG G F F' ∧ RepE X.K G F' H σ ρ' ∧ PostS X.K W D G F' (whileN u g m ρ')
  refine ⟨Pv, ⟨n, F, ρ, .refl _, .refl, r, p⟩, ?_⟩
  rintro m σ H ⟨F', ρ', s, nn, r, p⟩
  cases m with
  | zero => exact p.elim
  | succ m =>
    unfold whileN at p
    refine ⟨G, F', ρ', r, PostS.toS r p fun k v F2 H2 _ ex rp r' p' => ?_⟩
    subst rp
    cases k with
    | false => exact iteF (p' σ F2 H2 (.refl _) .refl r')
    | true =>
      refine iteT ⟨Pv m, fun σ' H' q => ⟨m, Nat.lt_succ_self m, q⟩, G, F2, ρ', r', ?_⟩
      have p' : PostS X.K W D G F2 ((g ρ').seq (whileN u g m)) := p'
      refine PostS.ends (D := { D with nx := Pv m }) (PostS.seq p' fun ρ3 σ3 F3 H3 _ s3 n3 r4 p4 => ?_)
      exact ⟨F3, ρ3, s.trans (ex.f.trans s3), nn.trans ((ex.newG r.g).trans n3), r4, p4⟩
end
end Dy

set_option Elab.async false
set_option linter.all false
set_option maxRecDepth 100000
namespace Dy
open PySem PySem.Spec PyProof.Rows L2

/-! ### what is walked -/
def iterD : D → Option (List D)
  | .lst xs => some xs
  | .tup xs => some xs
  | .str z => some (z.cps.toList.map fun c => .str ⟨#[c]⟩)
  | _ => none
section
variable {K : PySem.W.Frag} {F : Hp}
theorem it_list {a : Addr} {vs : List V} {ds : List D} (h : SqL K F a vs) (r : RepL K F ds vs) : ItOk K (Itl K a) ds F where
  go := fun i H hi s => by
    obtain ⟨v, e, _⟩ := r.get (List.getElem?_eq_getElem hi)
    exact ⟨vs, v, Same.seq s h, e⟩
  stop := fun H s => ⟨vs, Same.seq s h, by rw [← r.length]; exact Nat.le_refl _⟩
  yld := fun i H x H' F1 hi s s1 y => by
    obtain ⟨e, y⟩ := y
    subst e
    have ex := y vs (Same.seq (s.trans s1) h)
    obtain ⟨d, ed, rp⟩ := r.get' ex
    exact ⟨F1, d, .refl s1, ed, Rep.mono s _ _ rp⟩
theorem it_tup {a : Addr} {vs : List V} {ds : List D} (h : SqT K F a vs) (r : RepL K F ds vs) : ItOk K (Itt K a) ds F where
  go := fun i H hi s => by
    obtain ⟨v, e, _⟩ := r.get (List.getElem?_eq_getElem hi)
    exact ⟨vs, v, Same.seqT s h, e⟩
  stop := fun H s => ⟨vs, Same.seqT s h, by rw [← r.length]; exact Nat.le_refl _⟩
  yld := fun i H x H' F1 hi s s1 y => by
    obtain ⟨e, y⟩ := y
    subst e
    have ex := y vs (Same.seqT (s.trans s1) h)
    obtain ⟨d, ed, rp⟩ := r.get' ex
    exact ⟨F1, d, .refl s1, ed, Rep.mono s _ _ rp⟩
theorem it_str {z : Str} : ItOk K (Its z) (z.cps.toList.map fun c => .str ⟨#[c]⟩) F where
  go := fun i H hi s => by
    show i < z.cps.size
    simpa using hi
  stop := fun H s => by
    show z.cps.size ≤ _
    simp
  yld := fun i H x H' F1 hi s s1 y => by
    obtain ⟨e, c, ec, ex⟩ := y
    subst e
    subst ex
    refine ⟨F1, .str ⟨#[c]⟩, .refl s1, ?_, Rep.mk_str⟩
    simp [ec]
def rangeD (lo : Int) (n : Nat) : List D := (List.range n).map fun (i : Nat) => .int (lo + (i : Int))
theorem it_range {lo : Int} {n : Nat} : ItOk K (Itr lo n) (rangeD lo n) F where
  go := fun i H hi s => by
    show i < n
    simpa [rangeD] using hi
  stop := fun H s => by show n ≤ _; simp [rangeD]
  yld := fun i H x H' F1 hi s s1 y => by
    obtain ⟨e, ex⟩ := y
    subst e
    subst ex
    have hi : i < n := by simpa [rangeD] using hi
    refine ⟨F1, .int (lo + i), .refl s1, ?_, Rep.mk_int⟩
    simp [rangeD, hi]
def rangeC (lo c : Int) (n : Nat) : List D := (List.range n).map fun (i : Nat) => .int (lo + (i : Int) * c)
def enumD (ds : List D) : List D := (List.range ds.length).map fun (i : Nat) => .tup [.int (i : Int), ds.getD i .non]
theorem enumD_get {ds : List D} {i : Nat} {d : D} (h : ds[i]? = some d) : (enumD ds)[i]? = some (.tup [.int (i : Int), d]) := by
  obtain ⟨hi, e⟩ := List.getElem?_eq_some_iff.mp h
  simp [enumD, hi, e]
theorem it_enum {a : Addr} {vs : List V} {ds : List D} (h : SqL K F a vs) (r : RepL K F ds vs) : ItOk K (Ite K a) (enumD ds) F where
  go := fun i H hi s => by
    have hi : i < ds.length := by simpa [enumD] using hi
    obtain ⟨v, e, _⟩ := r.get (List.getElem?_eq_getElem hi)
    exact ⟨vs, v, Same.seq s h, e⟩
  stop := fun H s => ⟨vs, Same.seq s h, by rw [← r.length]; simp [enumD]⟩
  yld := fun i H x H' F1 hi s s1 y => by
    obtain ⟨T, v, e1, hT, e2, y⟩ := y
    subst e1
    subst e2
    have ev := y vs (Same.seq (s.trans s1) h)
    obtain ⟨d, ed, rp⟩ := r.get' ev
    have ex : Ext F1 H (upd F1 T (.tup [.int (i : Nat), v])) (upd H T (.tup [.int (i : Nat), v])) := Ext.new s1 hT
    exact ⟨_, _, ex, enumD_get ed, Rep.mk_tup (.of upd_same) (RepL.cons Rep.mk_int (RepL.cons (Rep.mono (s.trans ex.f) _ _ rp) RepL.nil))⟩
def zipD (xs ys : List D) : List D := (xs.zip ys).map fun p => .tup [p.1, p.2]
theorem zipD_get {xs ys : List D} {i : Nat} {x y : D} (h : xs[i]? = some x) (h2 : ys[i]? = some y) : (zipD xs ys)[i]? = some (.tup [x, y]) := by
  have q : (xs.zip ys)[i]? = some (x, y) := List.getElem?_zip_eq_some.mpr ⟨h, h2⟩
  simp [zipD, q]
theorem it_zip {a b : Addr} {vs ws : List V} {xs ys : List D} (h : SqL K F a vs) (r : RepL K F xs vs) (h2 : SqL K F b ws) (r2 : RepL K F ys ws) : ItOk K (Itz K a b) (zipD xs ys) F where
  go := fun i H hi s => by
    have hi : i < xs.length ∧ i < ys.length := by simpa [zipD, Nat.lt_min] using hi
    obtain ⟨v, e, _⟩ := r.get (List.getElem?_eq_getElem hi.1)
    obtain ⟨w, e2, _⟩ := r2.get (List.getElem?_eq_getElem hi.2)
    exact ⟨vs, ws, v, w, Same.seq s h, Same.seq s h2, e, e2⟩
  stop := fun H s => ⟨vs, ws, Same.seq s h, Same.seq s h2, by
    rw [← r.length, ← r2.length]
    simp only [zipD, List.length_map, List.length_zip]
    omega⟩
  yld := fun i H x H' F1 hi s s1 y => by
    obtain ⟨T, v, w, e1, hT, e2, y, y2⟩ := y
    subst e1
    subst e2
    obtain ⟨d, ed, rp⟩ := r.get' (y vs (Same.seq (s.trans s1) h))
    obtain ⟨d2, ed2, rp2⟩ := r2.get' (y2 ws (Same.seq (s.trans s1) h2))
    have ex : Ext F1 H (upd F1 T (.tup [v, w])) (upd H T (.tup [v, w])) := Ext.new s1 hT
    exact ⟨_, _, ex, zipD_get ed ed2, Rep.mk_tup (.of upd_same) (RepL.cons (Rep.mono (s.trans ex.f) _ _ rp) (RepL.cons (Rep.mono (s.trans ex.f) _ _ rp2) RepL.nil))⟩
theorem it_zipT {a b : Addr} {vs ws : List V} {xs ys : List D} (h : SqT K F a vs) (r : RepL K F xs vs) (h2 : SqT K F b ws) (r2 : RepL K F ys ws) : ItOk K (RZ.ItzT K a b) (zipD xs ys) F where
  go := fun i H hi s => by
    have hi : i < xs.length ∧ i < ys.length := by simpa [zipD, Nat.lt_min] using hi
    obtain ⟨v, e, _⟩ := r.get (List.getElem?_eq_getElem hi.1)
    obtain ⟨w, e2, _⟩ := r2.get (List.getElem?_eq_getElem hi.2)
    exact ⟨vs, ws, v, w, Same.seqT s h, Same.seqT s h2, e, e2⟩
  stop := fun H s => ⟨vs, ws, Same.seqT s h, Same.seqT s h2, by
    rw [← r.length, ← r2.length]
    simp only [zipD, List.length_map, List.length_zip]
    omega⟩
  yld := fun i H x H' F1 hi s s1 y => by
    obtain ⟨T, v, w, e1, hT, e2, y, y2⟩ := y
    subst e1
    subst e2
    obtain ⟨d, ed, rp⟩ := r.get' (y vs (Same.seqT (s.trans s1) h))
    obtain ⟨d2, ed2, rp2⟩ := r2.get' (y2 ws (Same.seqT (s.trans s1) h2))
    have ex : Ext F1 H (upd F1 T (.tup [v, w])) (upd H T (.tup [v, w])) := Ext.new s1 hT
    exact ⟨_, _, ex, zipD_get ed ed2, Rep.mk_tup (.of upd_same) (RepL.cons (Rep.mono (s.trans ex.f) _ _ rp) (RepL.cons (Rep.mono (s.trans ex.f) _ _ rp2) RepL.nil))⟩
end

/-- a list, a tuple or a text, walked -/
def iAny (K : PySem.W.Frag) (tl : TE) : TI := fun σ H R => tl σ H fun x H1 => (∃ a, x = .ref a ∧ (∃ xs, SqL K H1 a xs) ∧ R (Itl K a) H1) ∨ (∃ a, x = .ref a ∧ (∃ xs, SqT K H1 a xs) ∧ R (Itt K a) H1) ∨ ∃ z, x = .str z ∧ R (Its z) H1
theorem pi_any {X : Cx} {tg l : Expr} {tl : TE} (hl : PE X l tl) : PI X tg l (iAny X.K tl) := by
  refine ⟨fun pins s σ H R I h => ?_⟩
  refine thn (hl.run pins s σ H _ I h) fun v s1 ⟨x, H1, I1, r1, q1⟩ => ?_
  rcases q1 with ⟨a, e, ⟨xs, hq⟩, q⟩ | ⟨a, e, ⟨xs, hq⟩, q⟩ | ⟨z, e, q⟩
  · subst e
    cases r1
    obtain ⟨its, rv, p, hz⟩ := I1.list hq
    refine wpAny_pyIter_list p.isList ?_
    refine ⟨s1.heap.objs.size, [s1.heap.objs.size], _, _, H1, rfl, I1.kept (t' := s1.toks) fun b o e => Heap.get?_push_of_some _ e, turn_list a _, ⟨_, Heap.get?_push_size _ rfl, rfl, rfl⟩, fun b hb => ?_, q⟩
    have e : b = s1.heap.objs.size := by simpa using hb
    subst e
    exact I1.fpOk (Nat.le_refl _) (I1.hok.fresh (Nat.le_refl _))
  · subst e
    cases r1
    obtain ⟨its, rv, p, hz⟩ := I1.tuple hq
    refine wpAny_pyIter_tuple (show s1.heap.IsTuple a its.toArray from p) ?_
    refine ⟨s1.heap.objs.size, [s1.heap.objs.size], _, _, H1, rfl, I1.kept (t' := s1.toks) fun b o e => Heap.get?_push_of_some _ e, turn_tuple a _, ⟨_, Heap.get?_push_size _ rfl, rfl, rfl⟩, fun b hb => ?_, q⟩
    have e : b = s1.heap.objs.size := by simpa using hb
    subst e
    exact I1.fpOk (Nat.le_refl _) (I1.hok.fresh (Nat.le_refl _))
  · subst e
    obtain ⟨t, rfl⟩ := r1
    cases ha : z.cps.all (· < 128)
    · exact wpAny_pyIter_wide ha (pi_one (tk := s1.toks) I1 _ (turn_str _ z t "str_iterator" (.inr rfl)) ⟨_, Heap.get?_push_size _ rfl, rfl, rfl⟩ q)
    · exact wpAny_pyIter_ascii ha (pi_one (tk := s1.toks) I1 _ (turn_str _ z t "str_ascii_iterator" (.inl rfl)) ⟨_, Heap.get?_push_size _ rfl, rfl, rfl⟩ q)
section
variable {X : Cx} {W : WX} {tg e e1 e2 e3 : Expr} {es elts : List Expr} {f : REnv → R D} {t : REnv → R (List D)} {pos p tpos : Pos} {kk : Nat}
def iD (f : REnv → R D) : REnv → R (List D) := fun ρ => (f ρ).bind fun d => .opt (iterD d)
theorem si_any (h : SE X W e f) : SI X W tg e (iD f) := by
  refine ⟨fun pins s σ H R I q => (pi_any (tg := tg) h).run pins s σ H R I ?_⟩
  obtain ⟨G, F, ρ, r, p⟩ := q
  refine ⟨G, F, ρ, r, Post.bind p fun d v F' H' _ ex rp p' => ?_⟩
  cases d with
  | lst xs =>
    obtain ⟨a, vs, e1, h1, h2⟩ := rp.lst_inv
    exact .inl ⟨a, e1, ⟨vs, Same.seq ex.s h1⟩, p' _ F' H' (.refl ex.s) (it_list h1 h2)⟩
  | tup xs =>
    obtain ⟨a, vs, e1, h1, h2⟩ := rp.tup_inv
    exact .inr (.inl ⟨a, e1, ⟨vs, Same.seqT ex.s h1⟩, p' _ F' H' (.refl ex.s) (it_tup h1 h2)⟩)
  | str z => exact .inr (.inr ⟨z, rp.str_inv, p' _ F' H' (.refl ex.s) it_str⟩)
  | _ => exact p'.elim
def Sm (i : Int) : Prop := -(2 ^ 62) ≤ i ∧ i < 2 ^ 62
instance (i : Int) : Decidable (Sm i) := inferInstanceAs (Decidable (_ ∧ _))
def range1 : List D → Option (List D)
  | [.int n] => if Sm n then some (rangeD 0 n.toNat) else none
  | _ => none
def range2 : List D → Option (List D)
  | [.int m, .int n] => if Sm m ∧ Sm n then some (rangeD m (n - m).toNat) else none
  | _ => none
def iArgs (o : List D → Option (List D)) (t : REnv → R (List D)) : REnv → R (List D) := fun ρ => (t ρ).bind fun ds => .opt (o ds)
theorem Post.opt {α β : Type} {K : PySem.W.Frag} {W : WX} {rel : Hp → α → β → Prop} {σ : St} {F H : Hp} {x : Option α} {Q : β → Hp → Prop} (h : Post K W rel σ F H (.opt x) Q) : ∃ a, x = some a ∧ ∀ v F' H', Ext F H F' H' → rel F' a v → Q v H' := by
  cases x with
  | none => exact h.elim
  | some a => exact ⟨a, rfl, h⟩
theorem RepL.one {K : PySem.W.Frag} {F : Hp} {a : D} {vs : List V} (h : RepL K F [a] vs) : ∃ v, vs = [v] ∧ Rep K F a v := by
  simp only [RepL] at h
  obtain ⟨v, r, e, h1, h2⟩ := h
  subst h2
  exact ⟨v, e, h1⟩
theorem RepL.two {K : PySem.W.Frag} {F : Hp} {a b : D} {vs : List V} (h : RepL K F [a, b] vs) : ∃ v w, vs = [v, w] ∧ Rep K F a v ∧ Rep K F b w := by
  simp only [RepL] at h
  obtain ⟨v, r, e, h1, w, r2, e2, h2, h3⟩ := h
  subst h3
  subst e2
  exact ⟨v, w, e, h1, h2⟩
theorem range1_inv {ds rs : List D} (h : range1 ds = some rs) : ∃ n, ds = [.int n] ∧ Sm n ∧ rs = rangeD 0 n.toNat := by
  unfold range1 at h
  split at h
  · split at h
    · cases h; exact ⟨_, rfl, by assumption, rfl⟩
    · cases h
  · cases h
theorem range2_inv {ds rs : List D} (h : range2 ds = some rs) : ∃ m n, ds = [.int m, .int n] ∧ Sm m ∧ Sm n ∧ rs = rangeD m (n - m).toNat := by
  unfold range2 at h
  split at h
  · split at h
    · rename_i z
      cases h; exact ⟨_, _, rfl, z.1, z.2, rfl⟩
    · cases h
  · cases h
theorem si_range1 (hm : X.mg "range" = none) (ha : SA X W [e] t) (hg : Gl X "range" := by rfl) (hs : starEach [e] X.env = [(false, eval e X.env)] := by rfl) : SI X W tg (.Call (.Name "range" p) [e] [] pos) (iArgs range1 t) := by
  refine ⟨fun pins s σ H R I q => (pi_range1 (tg := tg) hg hm ha hs).run pins s σ H R I ?_⟩
  obtain ⟨G, F, ρ, r, p⟩ := q
  refine ⟨G, F, ρ, r, Post.bind p fun ds vs F' H' _ ex rp p' => ?_⟩
  obtain ⟨rs, e1, q⟩ := Post.opt p'
  obtain ⟨n, rfl, hS, rfl⟩ := range1_inv e1
  obtain ⟨v, rfl, h1⟩ := rp.one
  exact ⟨n, by rw [h1.int_inv], hS.1, hS.2, q _ F' H' (.refl ex.s) it_range⟩
theorem si_range2 (hm : X.mg "range" = none) (ha : SA X W [e1, e2] t) (hg : Gl X "range" := by rfl) (hs : starEach [e1, e2] X.env = [(false, eval e1 X.env), (false, eval e2 X.env)] := by rfl) (hs2 : starEach [e2] X.env = [(false, eval e2 X.env)] := by rfl) :
    SI X W tg (.Call (.Name "range" p) [e1, e2] [] pos) (iArgs range2 t) := by
  refine ⟨fun pins s σ H R I q => (pi_range2 (tg := tg) hg hm ha hs hs2).run pins s σ H R I ?_⟩
  obtain ⟨G, F, ρ, r, p⟩ := q
  refine ⟨G, F, ρ, r, Post.bind p fun ds vs F' H' _ ex rp p' => ?_⟩
  obtain ⟨rs, e1, q⟩ := Post.opt p'
  obtain ⟨m, n, rfl, hS, hS2, rfl⟩ := range2_inv e1
  obtain ⟨v, w, rfl, h1, h2⟩ := rp.two
  exact ⟨m, n, by rw [h1.int_inv, h2.int_inv], ⟨hS.1, hS.2, hS2.1, hS2.2⟩, q _ F' H' (.refl ex.s) it_range⟩
def enum1 : List D → Option (List D)
  | [.lst xs] => some (enumD xs)
  | _ => none
theorem enum1_inv {ds rs : List D} (h : enum1 ds = some rs) : ∃ xs, ds = [.lst xs] ∧ rs = enumD xs := by
  unfold enum1 at h
  split at h
  · cases h; exact ⟨_, rfl, rfl⟩
  · cases h
theorem si_enum (hm : X.mg "enumerate" = none) (ha : SA X W [e] t) (hg : Gl X "enumerate" := by rfl) (hs : starEach [e] X.env = [(false, eval e X.env)] := by rfl) :
    SI X W (.Tuple elts kk tpos) (.Call (.Name "enumerate" p) [e] [] pos) (iArgs enum1 t) := by
  refine ⟨fun pins s σ H R I q => (pi_enum hg hm ha hs).run pins s σ H R I ?_⟩
  obtain ⟨G, F, ρ, r, p⟩ := q
  refine ⟨G, F, ρ, r, Post.bind p fun ds vs F' H' _ ex rp p' => ?_⟩
  obtain ⟨rs, e1, q⟩ := Post.opt p'
  obtain ⟨xs, rfl, rfl⟩ := enum1_inv e1
  obtain ⟨v, rfl, h1⟩ := rp.one
  obtain ⟨a, ws, rfl, h3, h4⟩ := h1.lst_inv
  exact ⟨a, ws, rfl, Same.seq ex.s h3, q _ F' H' (.refl ex.s) (it_enum h3 h4)⟩
def zip2 : List D → Option (List D)
  | [.lst xs, .lst ys] => some (zipD xs ys)
  | [.tup xs, .tup ys] => some (zipD xs ys)
  | _ => none
theorem zip2_inv {ds rs : List D} (h : zip2 ds = some rs) : ∃ xs ys, (ds = [.lst xs, .lst ys] ∨ ds = [.tup xs, .tup ys]) ∧ rs = zipD xs ys := by
  unfold zip2 at h
  split at h
  · cases h; exact ⟨_, _, .inl rfl, rfl⟩
  · cases h; exact ⟨_, _, .inr rfl, rfl⟩
  · cases h
theorem si_zip (hm : X.mg "zip" = none) (ha : SA X W [e1, e2] t) (hg : Gl X "zip" := by rfl) (hs : starEach [e1, e2] X.env = (false, eval e1 X.env) :: starEach [e2] X.env := by rfl) (hpl : (backTo pos (starEach [e2] X.env)).any (·.1) = false := by rfl) :
    SI X W (.Tuple elts kk tpos) (.Call (.Name "zip" p) [e1, e2] [] pos) (iArgs zip2 t) := by
  refine ⟨fun pins s σ H R I q => (RZ.pi_zipA hg hm ha hs hpl).run pins s σ H R I ?_⟩
  obtain ⟨G, F, ρ, r, p⟩ := q
  refine ⟨G, F, ρ, r, Post.bind p fun ds vs F' H' _ ex rp p' => ?_⟩
  obtain ⟨rs, e1, q⟩ := Post.opt p'
  obtain ⟨xs, ys, hds, rfl⟩ := zip2_inv e1
  rcases hds with rfl | rfl
  · obtain ⟨v, w, rfl, h1, h2⟩ := rp.two
    obtain ⟨a, ws, rfl, h3, h4⟩ := h1.lst_inv
    obtain ⟨b, us, rfl, h6, h7⟩ := h2.lst_inv
    exact ⟨a, b, ws, us, rfl, .inl ⟨Same.seq ex.s h3, Same.seq ex.s h6, q _ F' H' (.refl ex.s) (it_zip h3 h4 h6 h7)⟩⟩
  · obtain ⟨v, w, rfl, h1, h2⟩ := rp.two
    obtain ⟨a, ws, rfl, h3, h4⟩ := h1.tup_inv
    obtain ⟨b, us, rfl, h6, h7⟩ := h2.tup_inv
    exact ⟨a, b, ws, us, rfl, .inr ⟨Same.seqT ex.s h3, Same.seqT ex.s h6, q _ F' H' (.refl ex.s) (it_zipT h3 h4 h6 h7)⟩⟩
end

/-! ### comprehensions -/
def R.get {α : Type} : R α → Option α
  | .ok a => some a
  | _ => none
def wipeE (ρ : REnv) : List Nat → REnv
  | [] => ρ
  | v :: vs => (wipeE ρ vs).set v .un
theorem RepE.wipe {K : PySem.W.Frag} {G F H : Hp} {σ : St} {ρ : REnv} (r : RepE K G F H σ ρ) : ∀ vs : List Nat, RepE K G F H (L2.wipe σ vs) (wipeE ρ vs)
  | [] => r
  | v :: vs => (RepE.wipe r vs).unset
theorem wipe_in {σ : St} {j : Nat} : ∀ {vs : List Nat}, j ∈ vs → (L2.wipe σ vs)[j]? = if j < σ.length then some none else none
  | v :: vs, h => by
    unfold L2.wipe
    by_cases e : v = j
    · subst e
      rw [List.getElem?_set, if_pos rfl]
      rw [wipe_length]
    · rw [List.getElem?_set_ne e]
      exact wipe_in (by rcases List.mem_cons.mp h with z | z; exact absurd z.symm e; exact z)
theorem wipe_only {σ σ' : St} {vs is : List Nat} (h : OnlyAt is (L2.wipe σ vs) σ') (hs : ∀ i ∈ is, i ∈ vs) : L2.wipe σ' vs = L2.wipe σ vs := by
  have hl : σ'.length = σ.length := by rw [h.1, wipe_length]
  apply List.ext_getElem?
  intro j
  by_cases hj : j ∈ vs
  · rw [wipe_in hj, wipe_in hj, hl]
  · rw [wipe_out hj, h.2 j fun z => hj (hs j z)]
def compS (b : D → REnv → Option REnv) (c : REnv → R Bool) (e : REnv → R D) : List D → REnv → Option (List D)
  | [], _ => some []
  | d :: ds, ρ => (b d ρ).bind fun ρ' => (c ρ').get.bind fun k => if k = true then (e ρ').get.bind fun v => (compS b c e ds ρ).bind fun r => some (v :: r) else compS b c e ds ρ
def eComp (vs : List Nat) (f : REnv → R (List D)) (b : D → REnv → Option REnv) (c : REnv → R Bool) (e : REnv → R D) : REnv → R D :=
  fun ρ => (f ρ).bind fun ds => if ds.length ≤ sizeLine then .opt ((compS b c e ds (wipeE ρ vs)).map .lst) else .bad
/-- inside a comprehension nothing may be raised -/
abbrev W0 : WX := fun _ _ _ _ => False
theorem Post.get {α β : Type} {K : PySem.W.Frag} {rel : Hp → α → β → Prop} {σ : St} {F H : Hp} {x : R α} {a : α} {Q : β → Hp → Prop} (e : x.get = some a) (q : ∀ v F' H', Ext F H F' H' → rel F' a v → Q v H') : Post K W0 rel σ F H x Q := by
  cases x with
  | ok b => cases e; exact q
  | err d => cases e
  | bad => cases e
theorem comp_core {K : PySem.W.Frag} {vs is : List Nat} {t : TG} {b : D → REnv → Option REnv} {c : REnv → R Bool} {e : REnv → R D} (hk : TgOk K t b is) (hs : ∀ i ∈ is, i ∈ vs) {σ : St} {Q : VK} {G F1 H1 : Hp} {ρ0 : REnv} {ds res : List D} {J : It}
    (r1 : RepE K G F1 H1 (L2.wipe σ vs) ρ0) (hJ : ItOk K J ds F1) (hl : ds.length ≤ sizeLine) (hr : compS b c e ds ρ0 = some res) (p2 : ∀ v F' H', Ext F1 H1 F' H' → Rep K F' (.lst res) v → Q v H') :
    ∀ D, H1 D = none → ∃ W : Nat → Nat → Hp → Prop, (∃ m, W 0 m (upd H1 D (.lst []))) ∧ ∀ i m H, W i m H →
  (J.stop i H ∧ Q (.ref D) H) ∨ (J.go i H ∧ ∃ Nx : Hp → Prop, (∀ H', Nx H' → ∃ m', m' < m ∧ W (i + 1) m' H') ∧ ∀ x H', J.yld i H x H' → t x (L2.wipe σ vs) H' fun σ2 H2 => L2.wipe σ2 vs = L2.wipe σ vs ∧ (rt K W0 c) σ2 H2 fun b H3 =>
    if b = true then (rd K W0 e) σ2 H3 fun y H4 => ∃ acc, H4 D = some (.lst acc) ∧ acc.length < sizeLine ∧ Nx (upd H4 D (.lst (acc ++ [y]))) else Nx H3) := by
  intro A hA
  let Pv : Nat → Hp → Prop := fun i H => ∃ F' acc ws rest, Ext F1 H1 F' H ∧ F' A = none ∧ H A = some (.lst ws) ∧ RepL K F' acc ws ∧ acc.length ≤ i ∧ compS b c e (ds.drop i) ρ0 = some rest ∧ acc ++ rest = res
  have hF1 : F1 A = none := r1.f.free hA
  refine ⟨fun i m H => m = ds.length - i ∧ i ≤ ds.length ∧ Pv i H, ⟨ds.length, by simp, Nat.zero_le _, F1, [], [], res, Ext.newH r1.f hA, hF1, upd_same, RepL.nil, Nat.le_refl _, by simpa using hr, rfl⟩, ?_⟩
  rintro i m H2 ⟨rfl, hi, F', acc, ws, rest, ex, hFA, hHA, rl, hal, hc, he⟩
  by_cases hlt : i < ds.length
  · refine .inr ⟨hJ.go i H2 hlt (ex.f.trans ex.s), Pv (i + 1), fun H' q => ⟨ds.length - (i + 1), by omega, rfl, hlt, q⟩, fun x H' y => ?_⟩
    obtain ⟨F2, d, ex2, ed, rp⟩ := hJ.yld i H2 x H' F' hlt ex.f ex.s y
    have dr : ds.drop i = d :: ds.drop (i + 1) := by
      obtain ⟨h1, h2⟩ := List.getElem?_eq_some_iff.mp ed
      rw [← h2]
      exact List.drop_eq_getElem_cons h1
    rw [dr] at hc
    unfold compS at hc
    obtain ⟨ρ', hb, hc⟩ := Option.bind_eq_some_iff.mp hc
    obtain ⟨k, hk1, hc⟩ := Option.bind_eq_some_iff.mp hc
    have r2 : RepE K G F2 H' (L2.wipe σ vs) ρ0 := r1.ext (ex.trans ex2)
    refine hk G F2 H' _ _ ρ' d x _ r2 rp hb fun σ2 r3 o2 => ⟨wipe_only o2 hs, G, F2, ρ', r3, Post.get hk1 fun k' F3 H3 ex3 ek => ?_⟩
    subst ek
    have stay : ∀ {Fa Ha Fb Hb : Hp}, Ext Fa Ha Fb Hb → Fa A = none → Ha A = some (.lst ws) → Fb A = none ∧ Hb A = some (.lst ws) := fun {Fa Ha Fb Hb} z h1 h2 => by
      refine ⟨?_, z.h _ _ h2⟩
      cases q : Fb A with
      | none => rfl
      | some o =>
        have := z.n A o q h1
        rw [h2] at this
        cases this
    obtain ⟨a2, b2⟩ := stay ex2 hFA hHA
    obtain ⟨a3, b3⟩ := stay ex3 a2 b2
    cases k with
    | false =>
      refine iteF ?_
      rw [if_neg Bool.false_ne_true] at hc
      exact ⟨F3, acc, ws, rest, (ex.trans ex2).trans ex3, a3, b3, RepL.mono (ex2.f.trans ex3.f) _ _ rl, Nat.le_succ_of_le hal, hc, he⟩
    | true =>
      refine iteT ?_
      rw [if_pos rfl] at hc
      obtain ⟨v, hv, hc⟩ := Option.bind_eq_some_iff.mp hc
      obtain ⟨rr, hr2, hc⟩ := Option.bind_eq_some_iff.mp hc
      cases hc
      refine ⟨G, F3, ρ', r3.ext ex3, Post.get hv fun y F4 H4 ex4 ry => ?_⟩
      obtain ⟨a4, b4⟩ := stay ex4 a3 b3
      have exA := ((ex.trans ex2).trans ex3).trans ex4
      refine ⟨ws, b4, ?_, F4, acc ++ [v], ws ++ [y], rr, ⟨exA.f, fun q o z => ?_, fun q o z => ?_, exA.n⟩, a4, upd_same, (RepL.mono ((ex2.f.trans ex3.f).trans ex4.f) _ _ rl).snoc ry, ?_, hr2, by simpa using he⟩
      · rw [← rl.length]; omega
      · rw [upd_ne (ne_of_none z hA)]; exact exA.h _ _ z
      · rw [upd_ne (ne_of_none z a4)]; exact exA.s _ _ z
      · simp; omega
  · have e : i = ds.length := by omega
    subst e
    rw [List.drop_length] at hc
    unfold compS at hc
    cases hc
    rw [List.append_nil] at he
    subst he
    refine .inl ⟨hJ.stop H2 (ex.f.trans ex.s), p2 (.ref A) (upd F' A (.lst ws)) H2 ⟨ex.f.trans (same_upd hFA), ex.h, fun q o z => ?_, fun q o z z2 => ?_⟩ (Rep.mk_lst (.of upd_same) (RepL.mono (same_upd hFA) _ _ rl))⟩
    · by_cases hq : q = A
      · subst hq; rw [upd_same] at z; rw [← z]; exact hHA
      · rw [upd_ne hq] at z; exact ex.s _ _ z
    · by_cases hq : q = A
      · subst hq; exact hA
      · rw [upd_ne hq] at z; exact ex.n _ _ z z2
theorem comp_read {K : PySem.W.Frag} {W : WX} {vs is : List Nat} {fi : REnv → R (List D)} {t : TG} {b : D → REnv → Option REnv} {c : REnv → R Bool} {e : REnv → R D} (hk : TgOk K t b is) (hs : ∀ i ∈ is, i ∈ vs) {σ : St} {H : Hp} {Q : VK}
    (hh : rd K W (eComp vs fi b c e) σ H Q) : tLc (ri K W fi) t (rt K W0 c) (rd K W0 e) vs σ H Q := by
  obtain ⟨G, F, ρ, r0, p⟩ := hh
  refine ⟨G, F, ρ, r0, Post.bind p fun ds J F1 H1 _ ex1 hJ p1 => ?_⟩
  have r1 := (r0.ext ex1).wipe vs
  by_cases hl : ds.length ≤ sizeLine
  case neg => rw [if_neg hl] at p1; exact p1.elim
  rw [if_pos hl] at p1
  cases hr : compS b c e ds (wipeE ρ vs) with
  | none => rw [hr] at p1; exact p1.elim
  | some res =>
    rw [hr] at p1
    exact comp_core hk hs r1 hJ hl hr p1
section
variable {X : Cx} {W : WX} {elt tg iter : Expr} {ifs : List Expr} {scope : Scope} {own : List (Str × Nat)} {pos : Pos} {fi : REnv → R (List D)} {t : TG} {b : D → REnv → Option REnv} {c : REnv → R Bool} {e : REnv → R D} {is : List Nat}
abbrev SIf (X : Cx) (W : WX) (ifs : List Expr) (f : REnv → R Bool) : Prop := PTs X ifs (rt X.K W f)
def eYes : REnv → R Bool := fun _ => .ok true
theorem sif_nil : SIf X W [] eYes := ⟨fun pins s σ H Q I ⟨G, F, ρ, r, p⟩ => pts_nil.run pins s σ H Q I (p true F H (.refl r.f) rfl)⟩
theorem sif_one {a : Expr} (h : ST X W a c) : SIf X W [a] c := pts_one h
/-- the block's context -/
abbrev Bl (X : Cx) (s : Shared) (H : Hp) (scope : Scope) (C : Addr) (cl : List (Str × Addr)) (fp : List Addr) : Cx := X.blk s H scope (compEnvC scope cl C X.env) fp
theorem se_comp (hc : X.calm = true) (hN : X.N.Nodup) (ok : BlkOk X.N X.env.scope scope own) (hi : SI X W tg iter fi) (hk : TgOk X.K t b is) (hg : ∀ s H C cl fp, PG (Bl X s H scope C cl fp) tg t) (ht : ∀ s H C cl fp, SIf (Bl X s H scope C cl fp) W0 ifs c)
    (he : ∀ s H C cl fp, SE (Bl X s H scope C cl fp) W0 elt e) (hsub : (is.all fun i => (own.map (·.2)).contains i) = true := by decide)
    (hs : ∀ x, foldedSetIterable iter X.env x = pure x := by intro _; rfl) : SE X W (.ListComp elt [⟨tg, iter, ifs, 0⟩] scope pos) (eComp (own.map (·.2)) fi b c e) :=
  (pe_lc hc hN hi ok hg ht he hs).dy fun σ H Q hh => comp_read hk (fun i h => List.contains_iff_mem.mp (List.all_eq_true.mp hsub i h)) hh
theorem ss_setc {i : Nat} {y : Str} {py spos : Pos} (hc : X.calm = true) (hN : X.N.Nodup) (hsw : swapsWith (.ListComp elt [⟨tg, iter, ifs, 0⟩] scope pos) (some (.Name y py)) spos.line X.env = pure true) (ok : BlkOk X.N X.env.scope scope own)
    (hi : SI X W tg iter fi) (hk : TgOk X.K t b is) (hg : ∀ s H C cl fp, PG (Bl X s H scope C cl fp) tg t) (ht : ∀ s H C cl fp, SIf (Bl X s H scope C cl fp) W0 ifs c)
    (he : ∀ s H C cl fp, SE (Bl X s H scope C cl fp) W0 elt e) (hy : X.N[i]? = some y := by rfl) (hyl : X.env.scope.names.lookup y = some .local := by rfl) (hsub : (is.all fun i => (own.map (·.2)).contains i) = true := by decide)
    (hs : ∀ x, foldedSetIterable iter X.env x = pure x := by intro _; rfl) : SS X W (.Assign [.Name y py] (.ListComp elt [⟨tg, iter, ifs, 0⟩] scope pos) spos) (sSet i (eComp (own.map (·.2)) fi b c e)) :=
  (ps_setLc hc hN hy hyl hsw hi ok hg ht he hs).dy fun D σ H ⟨G, F, ρ, r, p⟩ => comp_read (Q := fun x H1 => gName i x σ H1 D.nx) hk (fun i h => List.contains_iff_mem.mp (List.all_eq_true.mp hsub i h))
    ⟨G, F, ρ, r, PostS.toS r p fun d v F' H' _ ex rp r' p' => p' _ F' H' (.refl _) .refl (r'.setV rp)⟩
end

/-! ### defs -/
def spD (K : PySem.W.Frag) (n : Nat) (fn : List D → R D) : Sp := fun vs H Q E => vs.length = n ∧ ∃ F ds, Same F H ∧ RepL K F ds vs ∧ Post K (fun cls dd _ H' => E cls dd H') (Rep K) [] F H (fn ds) Q
def SR.out : SR → R D
  | .next _ => .ok .non
  | .ret d => .ok d
  | .err e _ => .err e
  | .bad => .bad
/-- a def by its body: n parameters, m slots in all -/
def fnD (n m : Nat) (g : REnv → SR) : List D → R D := fun ds => if ds.length = n then (g (ds.map .val ++ List.replicate (m - n) .un)).out else .bad
theorem fnD_len {n m : Nat} {g : REnv → SR} {ds : List D} (h : ds.length ≠ n) : fnD n m g ds = .bad := if_neg h
section
variable {P : Program} {w : World} {K : PySem.W.Frag} {mg : Str → Option Value} {base : Heap} {x qual : Str} {params : Arguments} {body : List Stmt} {scope : Scope} {f : Addr} {fd : FuncData} {N ps : List Str} {k : Nat}
abbrev CxD (P : Program) (w : World) (K : PySem.W.Frag) (mg : Str → Option Value) (base : Heap) (N : List Str) (qual : Str) (scope : Scope) (f : Addr) (cd : Value) (A : Around) (outer : List Env) (s : Shared) (H : Hp) (E : XK) : Cx := cxOf (L2.CX P w) P w K mg base N qual scope f cd A outer s H E
abbrev WD (E : XK) : WX := fun cls dd _ H => E cls dd H
theorem repE_start {F H : Hp} {ds : List D} {vs : List V} (s : Same F H) (r : RepL K F ds vs) : RepE K H F H (L2.start N vs) (ds.map .val ++ List.replicate (N.length - ds.length) .un) := by
  have hl := r.length
  refine ⟨.refl _, s, by unfold L2.start; simp [hl], fun i sl x h1 h2 => ?_, fun i j sl t x y a hij h1 h2 h3 h4 m1 m2 => ?_⟩
  · by_cases hi : i < ds.length
    · rw [List.getElem?_append_left (by simpa using hi), List.getElem?_map] at h1
      obtain ⟨v, ev, rv⟩ := r.get (List.getElem?_eq_getElem hi)
      rw [List.getElem?_eq_getElem hi] at h1
      cases h1
      unfold L2.start at h2
      rw [List.getElem?_append_left (by simpa [← hl] using hi), List.getElem?_map, ev] at h2
      cases h2
      exact ⟨v, rfl, rv⟩
    · rw [List.getElem?_append_right (by simpa using hi), List.getElem?_replicate] at h1
      split at h1
      · cases h1; trivial
      · cases h1
  · by_cases hi : i < ds.length
    · rw [List.getElem?_append_left (by simpa using hi), List.getElem?_map, List.getElem?_eq_getElem hi] at h1
      cases h1
      exact m1.elim
    · rw [List.getElem?_append_right (by simpa using hi), List.getElem?_replicate] at h1
      split at h1
      · cases h1; exact m1.elim
      · cases h1
theorem ok_def {n : Nat} {g : REnv → SR} (Fn : FunD K x qual params body scope [] [] f fd) (S : FnScope N ps scope) (hn : ps.length = n)
    (hb : ∀ (cdv : Value) (A : Around) (outer : List Env) (s : Shared) (H : Hp) (E : XK), Room k (CxD P w K mg base N qual scope f cdv A outer s H E).A → Takes (CxD P w K mg base N qual scope f cdv A outer s H E) (WD E) →
      PassesOwn (model P w) (CxD P w K mg base N qual scope f cdv A outer s H E).A (CxD P w K mg base N qual scope f cdv A outer s H E).env (CxD P w K mg base N qual scope f cdv A outer s H E).xe → SSs (CxD P w K mg base N qual scope f cdv A outer s H E) (WD E) body g) :
    FnOk P w K mg base (L2.CX P w) (k + 1) f fd ps (spD K n (fnD n N.length g)) := by
  refine Fn.ok S (fun vs H Q E h => by rw [hn]; exact h.1) fun cdv A outer s H vs Q E hr hsp => ⟨_, hb cdv A outer s H E hr (takes_of rfl rfl rfl rfl) (passes_of rfl), ?_⟩
  obtain ⟨hv, F, ds, sm, rl, p⟩ := hsp
  have hd : ds.length = n := by rw [rl.length, hv]
  unfold fnD at p
  rw [if_pos hd] at p
  refine ⟨H, F, _, repE_start sm rl, ?_⟩
  rw [hd]
  cases e : g (ds.map .val ++ List.replicate (N.length - n) .un) with
  | next ρ =>
    rw [e] at p
    exact fun σ' F' H' s1 n1 r => p .non F' H' ⟨s1, r.g, r.f, n1⟩ Rep.mk_non
  | ret d =>
    rw [e] at p
    exact fun v F' H' s1 n1 g1 f1 r => p v F' H' ⟨s1, g1, f1, n1⟩ r
  | err d ρ =>
    rw [e] at p
    exact fun σ' F' H' cls dd s1 n1 r q => p cls dd F' H' ⟨s1, r.g, r.f, n1⟩ q
  | bad => rw [e] at p; exact p.elim
end
section
variable {X : Cx} {W : WX} {e : Expr} {es : List Expr} {x : Str} {p pos : Pos} {k n : Nat} {f : Addr} {fd : FuncData} {ps : List Str} {t : REnv → R (List D)} {fn : List D → R D}
def eCall (fn : List D → R D) (t : REnv → R (List D)) : REnv → R D := fun ρ => (t ρ).bind fn
theorem se_call (Fo : FnOk X.prog X.w X.K X.mg X.base (L2.CX X.prog X.w) k f fd ps (spD X.K n fn)) (hl : ∀ ds, ds.length ≠ n → fn ds = .bad) (tk : Takes X W) (hr : Room k X.A) (hm : X.mg x = some (.ref f)) (hk : PySem.W.keepIn X.K (.ref f) = true) (hb : Binds X.K fd ps [])
    (ha : SA X W (e :: es) t) (hg : Gl X x := by rfl) (hdb : (x == ("__debug__" : Str)) = false := by decide) (he : starEach (e :: es) X.env = (false, eval e X.env) :: starEach es X.env := by rfl) (hpl : (backTo pos (starEach es X.env)).any (·.1) = false := by rfl) :
    SE X W (.Call (.Name x p) (e :: es) [] pos) (eCall fn t) :=
  (pe_callS (E := WE W) Fo hr hg hm hk hb (fun σ => passAt tk σ) ha hdb he hpl).dy fun σ H Q ⟨G, F, ρ, r, p⟩ => ⟨G, F, ρ, r, Post.bind p fun ds vs F' H' _ ex rp p' => by
    have hn : ds.length = n := Classical.byContradiction fun z => by
      rw [hl ds z] at p'
      exact p'
    refine ⟨by rw [← rp.length]; exact hn, F', ds, ex.s, rp, ?_⟩
    cases q : fn ds with
    | ok d => rw [q] at p'; exact p'
    | err d => rw [q] at p'; exact p'
    | bad => rw [q] at p'; exact p'⟩
end

/-! ### lists of one's own -/
section
variable {X : Cx} {W : WX} {st : Stmt} {g : REnv → SR} {e : Expr} {f : REnv → R D} {pos : Pos}
/-- ahead of a statement the list at slot i is let go: it is kept from here on -/
def eFreeze (i : Nat) (ρ : REnv) : REnv := match ρ[i]? with
  | some (.own ds) => ρ.set i (.val (.lst ds))
  | some (.tree o) => ρ.set i (.val o.toD)
  | some (.pin _ o) => ρ.set i (.val o.toD)
  | _ => ρ
def sFreeze (i : Nat) (g : REnv → SR) : REnv → SR := fun ρ => g (eFreeze i ρ)
theorem ss_freeze (i : Nat) (h : SS X W st g) : SS X W st (sFreeze i g) := PS.dy h fun D σ H ⟨G, F, ρ, r, p⟩ => by
  unfold sFreeze eFreeze at p
  cases q : ρ[i]? with
  | none => rw [q] at p; exact ⟨G, F, ρ, r, p⟩
  | some s =>
    rw [q] at p
    cases s with
    | own ds =>
      obtain ⟨F', s1, n1, r1⟩ := r.freeze q
      exact ⟨G, F', _, r1, PostS.ext s1 n1 p⟩
    | tree o =>
      obtain ⟨F', s1, n1, r1⟩ := r.freezeT q
      exact ⟨G, F', _, r1, PostS.ext s1 n1 p⟩
    | pin w o =>
      obtain ⟨F', s1, n1, r1⟩ := r.freezeP q
      exact ⟨G, F', _, r1, PostS.ext s1 n1 p⟩
    | _ => exact ⟨G, F, ρ, r, p⟩
/-- x = [..], a list of one's own -/
def sOwn (i : Nat) (t : REnv → R (List D)) : REnv → SR := fun ρ => (t ρ).toS ρ fun ds => if ds.length ≤ sizeLine then .next (ρ.set i (.own ds)) else .bad
theorem ss_own {i : Nat} {x : Str} {pos' lp : Pos} {es : List Expr} {t : REnv → R (List D)} (hN : X.N.Nodup) (ha : SA X W es t) (hi : X.N[i]? = some x := by rfl) (hx : Loc X.env.scope x := by first | exact Or.inl rfl | exact Or.inr rfl) (hs : swapsWith (.List es lp) (some (.Name x pos')) pos.line X.env = pure false := by rfl)
    (hf : X.fn x = true ∨ X.env.scope.names.lookup x = some .local := by first | exact .inl rfl | exact .inr rfl | assumption) : SS X W (.Assign [.Name x pos'] (.List es lp) pos) (sOwn i t) :=
  (ps_set hN hi hx (pe_lst ha) hs hf).dy fun D σ H ⟨G, F, ρ, r, p⟩ => ⟨G, F, ρ, r, PostS.toS r p fun ds vs F' H' _ ex rp r' p' => by
    by_cases hl : ds.length ≤ sizeLine
    · rw [if_pos hl] at p'
      exact ⟨by rw [← rp.length]; exact hl, fun q hq => p' _ F' _ (.refl _) .refl (r'.setO rp hq)⟩
    · rw [if_neg hl] at p'; exact p'.elim⟩
/-- x.append(e) -/
def sApp (i : Nat) (f : REnv → R D) : REnv → SR := fun ρ => match ρ[i]? with
  | some (.own ds) => (f ρ).toS ρ fun d => if ds.length < sizeLine then .next (ρ.set i (.own (ds ++ [d]))) else .bad
  | _ => .bad
theorem own_at {K : PySem.W.Frag} {G F H : Hp} {σ : St} {ρ : REnv} (r : RepE K G F H σ ρ) {i : Nat} {ds : List D} (h : ρ[i]? = some (.own ds)) : ∃ a vs, σ[i]? = some (some (.ref a)) ∧ H a = some (.lst vs) ∧ RepL K F ds vs := by
  have hl : i < σ.length := by
    rw [← r.len]
    exact (List.getElem?_eq_some_iff.mp h).1
  obtain ⟨a, vs, e1, e2, e3, _⟩ := r.at_ i _ _ h (List.getElem?_eq_getElem hl)
  exact ⟨a, vs, by rw [List.getElem?_eq_getElem hl, e1], e2, e3⟩
theorem ss_app (i : Nat) {x : Str} {ap np : Pos} {xp : Pos} (he : SE X W e f) (hN : X.N[i]? = some x := by rfl) (hv : Vis X.env.scope x := by first | exact Or.inl rfl | exact Or.inr (Or.inl rfl) | exact Or.inr (Or.inr rfl)) (hd : (x == ("__debug__" : Str)) = false := by decide) (hcd : (x == ("__classdict__" : Str)) = false := by decide)
    (hbm : ∀ {te : TE} {ta : TA}, PE X (.Name x np) te → PA X [e] ta → PE X (.Call (.Attribute (.Name x np) "append" ap) [e] [] xp) (tBM X.K "list" rAppend te ta) := by exact fun h1 h2 => pe_bm PySem.F.plainAttrs_list PySem.F.slot_list_append PySem.F.type_list_append mt_append h1 h2)
    (hse : starEach (e :: []) X.env = (false, eval e X.env) :: starEach [] X.env := by rfl)
    (hs : swapsWith (.Call (.Attribute (.Name x np) "append" ap) [e] [] xp) none pos.line X.env = pure false := by rfl) : SS X W (.Expr (.Call (.Attribute (.Name x np) "append" ap) [e] [] xp) pos) (sApp i f) :=
  (ps_expr (hbm (pe_var hN hv hd hcd) (pa_cons he pa_nil hse)) hs).dy fun D σ H ⟨G, F, ρ, r, p⟩ => by
    unfold sApp at p
    split at p
    · rename_i ds z
      obtain ⟨a, vs, h1, h2, h3⟩ := own_at r z
      refine ⟨.ref a, h1, .inl ⟨rfl, _, SqL.of h2⟩, G, F, ρ, r, PostS.toS r p fun d v F' H' _ ex rp r' p' => ?_⟩
      by_cases hl : ds.length < sizeLine
      · rw [if_pos hl] at p'
        exact ⟨a, vs, v, rfl, rfl, ex.h _ _ h2, by rw [← h3.length]; exact hl, p' σ F' _ (.refl _) .refl (r'.turnO z h1 ((RepL.mono ex.f _ _ h3).snoc rp))⟩
      · rw [if_neg hl] at p'; exact p'.elim
    · exact p.elim
end
end Dy

set_option Elab.async false
set_option linter.all false
set_option maxRecDepth 100000
namespace Dy
open PySem PySem.Spec PyProof.Rows L2

/-! ### arithmetic -/
def MuOk (i j : Int) : Prop := i.natAbs.log2 + j.natAbs.log2 < 100000000
instance (i j : Int) : Decidable (MuOk i j) := inferInstanceAs (Decidable (_ < _))
theorem MuOk.ok {i j : Int} (h : MuOk i j) : IntMulOk i j := by
  have b : ∀ x : Int, Builtin.Int.intBits x ≤ x.natAbs.log2 + 1 := fun x => by
    unfold Builtin.Int.intBits
    split <;> omega
  have h1 := b i
  have h2 := b j
  have h3 : i.natAbs.log2 + j.natAbs.log2 < 100000000 := h
  have e : bitsLine = 134217728 := by decide
  unfold IntMulOk
  intro z
  rw [Bool.and_eq_true] at z
  have z2 := z.2
  unfold Builtin.Int.intTooBig at z2
  have z3 := of_decide_eq_true z2
  rw [e] at z3
  omega
def DivOk (j : Int) : Prop := j ≠ 0 ∧ j.natAbs.log2 < 9000
instance (j : Int) : Decidable (DivOk j) := inferInstanceAs (Decidable (_ ∧ _))
def oII (f : Int → Int → Option D) : D → D → Option D
  | .int i, .int j => f i j
  | _, _ => none
theorem oII_inv {f : Int → Int → Option D} {a b d : D} (h : oII f a b = some d) : ∃ i j, a = .int i ∧ b = .int j ∧ f i j = some d := by
  unfold oII at h
  split at h
  · exact ⟨_, _, rfl, rfl, h⟩
  · cases h
section
variable {X : Cx}
theorem op2_ii {C : Int → Int → Prop} {g : Int → Int → V} {f : Int → Int → Option D} {K : PySem.W.Frag} (h : ∀ i j d, f i j = some d → C i j ∧ ∀ F, Rep K F d (g i j)) : Op2 K (rI C g) (oII f) := fun F H x y a b d Q s ra rb e q => by
  obtain ⟨i, j, rfl, rfl, e2⟩ := oII_inv e
  obtain ⟨h1, h2⟩ := h i j d e2
  exact ⟨i, j, ra.int_inv, rb.int_inv, h1, now q s (h2 F)⟩
theorem op2_ii0 {g : Int → Int → V} {f : Int → Int → Option D} {K : PySem.W.Frag} (h : ∀ i j d, f i j = some d → ∀ F, Rep K F d (g i j)) : Op2 K (rI0 g) (oII f) := fun F H x y a b d Q s ra rb e q => by
  obtain ⟨i, j, rfl, rfl, e2⟩ := oII_inv e
  exact ⟨i, j, ra.int_inv, rb.int_inv, now q s (h i j d e2 F)⟩
def oSub : D → D → Option D := oII fun i j => some (.int (i - j))
def oMul : D → D → Option D := oII fun i j => if MuOk i j then some (.int (i * j)) else none
def oDiv : D → D → Option D := oII fun i j => if DivOk j then some (.int (i.fdiv j)) else none
def oMod : D → D → Option D := oII fun i j => if j ≠ 0 then some (.int (i.fmod j)) else none
def oPow : D → D → Option D := oII fun i j => if 0 ≤ j ∧ j ≤ 1000000 ∧ i.natAbs < 2 ^ 64 then some (.int (i ^ j.toNat)) else none
def oLt : D → D → Option D := oII fun i j => some (.bl (decide (i < j)))
def oLe : D → D → Option D := oII fun i j => some (.bl (decide (i ≤ j)))
def oGt : D → D → Option D := oII fun i j => some (.bl (decide (j < i)))
def oGe : D → D → Option D := oII fun i j => some (.bl (decide (j ≤ i)))
theorem d_sub : OpR X (binaryOp .Sub) (rI0 fun i j => .int (i - j)) ∧ Op2 X.K (rI0 fun i j => .int (i - j)) oSub := ⟨op_sub, op2_ii0 fun i j d e F => by cases e; exact Rep.mk_int⟩
theorem d_mul : OpR X (binaryOp .Mult) (rI MuOk fun i j => .int (i * j)) ∧ Op2 X.K (rI MuOk fun i j => .int (i * j)) oMul :=
  ⟨opI fun _ _ _ _ _ _ _ hc q => mul_int q hc.ok, op2_ii fun i j d e => by
    by_cases h : MuOk i j
    · simp only [if_pos h] at e
      cases e
      exact ⟨h, fun F => Rep.mk_int⟩
    · simp only [if_neg h] at e; cases e⟩
theorem d_div : OpR X (binaryOp .FloorDiv) (rI (fun _ j => DivOk j) fun i j => .int (i.fdiv j)) ∧ Op2 X.K (rI (fun _ j => DivOk j) fun i j => .int (i.fdiv j)) oDiv :=
  ⟨opI fun _ _ _ _ _ _ _ hc q => floordiv_int hc.1 q (.inl (PyProof.noPylong_of_log2 hc.2)), op2_ii fun i j d e => by
    by_cases h : DivOk j
    · simp only [if_pos h] at e
      cases e
      exact ⟨h, fun F => Rep.mk_int⟩
    · simp only [if_neg h] at e; cases e⟩
theorem d_mod : OpR X (binaryOp .Mod) (rI (fun _ j => j ≠ 0) fun i j => .int (i.fmod j)) ∧ Op2 X.K (rI (fun _ j => j ≠ 0) fun i j => .int (i.fmod j)) oMod :=
  ⟨op_modN, op2_ii fun i j d e => by
    by_cases h : j ≠ 0
    · simp only [if_pos h] at e
      cases e
      exact ⟨h, fun F => Rep.mk_int⟩
    · simp only [if_neg h] at e; cases e⟩
theorem d_pow : OpR X (binaryOp .Pow) (rI CPow fun i j => .int (i ^ j.toNat)) ∧ Op2 X.K (rI CPow fun i j => .int (i ^ j.toNat)) oPow :=
  ⟨op_pow, op2_ii fun i j d e => by
    by_cases h : 0 ≤ j ∧ j ≤ 1000000 ∧ i.natAbs < 2 ^ 64
    · simp only [if_pos h] at e
      cases e
      exact ⟨h, fun F => Rep.mk_int⟩
    · simp only [if_neg h] at e; cases e⟩
theorem d_lt : OpR X (compareOp .Lt) (rI0 fun i j => .bl (decide (i < j))) ∧ Op2 X.K (rI0 fun i j => .bl (decide (i < j))) oLt := ⟨op_lt, op2_ii0 fun i j d e F => by cases e; exact Rep.mk_bl⟩
theorem d_gt : OpR X (compareOp .Gt) (rI0 fun i j => .bl (decide (j < i))) ∧ Op2 X.K (rI0 fun i j => .bl (decide (j < i))) oGt := ⟨op_gt, op2_ii0 fun i j d e F => by cases e; exact Rep.mk_bl⟩
theorem d_ge : OpR X (compareOp .GtE) (rI0 fun i j => .bl (decide (j ≤ i))) ∧ Op2 X.K (rI0 fun i j => .bl (decide (j ≤ i))) oGe := ⟨op_ge, op2_ii0 fun i j d e F => by cases e; exact Rep.mk_bl⟩
def oNeg : D → Option D
  | .int i => some (.int (-i))
  | _ => none
theorem d_neg : UnR X (unaryOp .USub) (rU fun i => .int (-i)) ∧ Op1 X.K (rU fun i => .int (-i)) oNeg := ⟨un_neg, fun F H x a d Q s ra e q => by
  unfold oNeg at e
  split at e
  · cases e; exact ⟨_, ra.int_inv, now q s Rep.mk_int⟩
  · cases e⟩

/-! ### + of ints, texts, lists, tuples -/
def oAddS : D → D → Option D
  | .str a, .str b => if a.length + b.length ≤ sizeLine then some (.str (a ++ b)) else none
  | _, _ => none
def oAddL : D → D → Option D
  | .lst a, .lst b => if a.length + b.length ≤ sizeLine then some (.lst (a ++ b)) else none
  | _, _ => none
def oAddT : D → D → Option D
  | .tup a, .tup b => if a.length + b.length ≤ sizeLine then some (.tup (a ++ b)) else none
  | _, _ => none
def rCatW (K : PySem.W.Frag) : R2 := fun x y H Q => ∃ l b xs zs, x = .ref l ∧ y = .ref b ∧ SqL K H l xs ∧ SqL K H b zs ∧ xs.length + zs.length ≤ sizeLine ∧ ∀ p, H p = none → Q (.ref p) (upd H p (.lst (xs ++ zs)))
theorem op_catW : OpR X (binaryOp .Add) (rCatW X.K) := by
  intro pins s σ H x y v u Q I rx ry h
  obtain ⟨l, b, xs, zs, rfl, rfl, hH, hB, hz, q⟩ := h
  cases rx
  cases ry
  obtain ⟨its, r, pl, hl⟩ := I.list hH
  obtain ⟨its2, r2, pl2, hl2⟩ := I.list hB
  obtain ⟨⟨cls, dd, data, sl⟩, n, ho, hc, hdd, hd⟩ := pl
  obtain ⟨⟨cls2, dd2, data2, sl2⟩, n2, ho2, hc2, hdd2, hd2⟩ := pl2
  simp only at hc hd hc2 hd2
  subst hc hd hc2 hd2
  have e : its.toArray ++ its2.toArray = (its ++ its2).toArray := by simp
  have l1 := r.length
  have l2 := r2.length
  refine concat_meets ⟨_, ho, rfl⟩ ⟨_, ho2, rfl⟩ noFill_list_add seq_list_add PySem.F.slot_list_add PySem.F.entry_list_add (PySem.F.args_list_add_2 _ _) (list_addW l b its.toArray its2.toArray n n2 dd dd2 sl sl2 (by simp; omega)) ⟨ho, ho2, ?_⟩
  rw [e]
  exact ⟨.ref _, _, I.lnew (t' := s.toks) (r.append r2) (by rw [List.length_append]; omega), rfl, q _ I.fresh⟩
abbrev rAddS : R2 := fun x y H Q => ∃ i j, x = .str i ∧ y = .str j ∧ i.length + j.length ≤ sizeLine ∧ Q (.str (i ++ j)) H
theorem o_addS : Op2 X.K rAddS oAddS := fun F H x y a b d Q s ra rb e q => by
  unfold oAddS at e
  split at e
  · split at e
    · cases e; exact ⟨_, _, ra.str_inv, rb.str_inv, by assumption, now q s Rep.mk_str⟩
    · cases e
  · cases e
theorem o_addL : Op2 X.K (rCatW X.K) oAddL := fun F H x y a b d Q s ra rb e q => by
  unfold oAddL at e
  split at e
  · split at e
    · rename_i hl
      cases e
      obtain ⟨l, vs, rfl, h1, h2⟩ := ra.lst_inv
      obtain ⟨m, ws, rfl, h3, h4⟩ := rb.lst_inv
      exact ⟨l, m, vs, ws, rfl, rfl, Same.seq s h1, Same.seq s h3, by rw [← h2.length, ← h4.length]; exact hl, anew q s fun p s2 => Rep.mk_lst (.of upd_same) ((RepL.mono s2 _ _ h2).append (RepL.mono s2 _ _ h4))⟩
    · cases e
  · cases e
theorem RepL.nil_iff {K : PySem.W.Frag} {F : Hp} {ds : List D} {vs : List V} (h : RepL K F ds vs) : vs = [] ↔ ds = [] := by
  have := h.length
  constructor
  · intro e; subst e; exact List.eq_nil_of_length_eq_zero this
  · intro e; subst e; exact List.eq_nil_of_length_eq_zero this.symm
theorem o_addT : Op2 X.K (rCatA X.K) oAddT := fun F H x y a b d Q s ra rb e q => by
  unfold oAddT at e
  split at e
  · rename_i xs ys
    split at e
    · rename_i hl
      cases e
      obtain ⟨l, vs, rfl, h1, h2⟩ := ra.tup_inv
      obtain ⟨m, ws, rfl, h3, h4⟩ := rb.tup_inv
      refine ⟨l, m, vs, ws, rfl, rfl, Same.seqT s h1, Same.seqT s h3, by rw [← h2.length, ← h4.length]; exact hl, fun z => ?_, fun z1 z => ?_, fun z1 z => ?_⟩
      · have e1 := h2.nil_iff.mp z
        subst e1
        exact now q s rb
      · have e1 := h4.nil_iff.mp z
        subst e1
        rw [List.append_nil] at q
        exact now q s ra
      · exact anew q s fun p s2 => Rep.mk_tup (.of upd_same) ((RepL.mono s2 _ _ h2).append (RepL.mono s2 _ _ h4))
    · cases e
  · cases e
def oAddI : D → D → Option D := oII fun i j => some (.int (i + j))
def oAdd : D → D → Option D := fun a b => (oAddI a b).or ((oAddS a b).or ((oAddL a b).or (oAddT a b)))
abbrev rAddAll (K : PySem.W.Frag) : R2 := fun x y H Q => rI0 (fun i j => .int (i + j)) x y H Q ∨ rAddS x y H Q ∨ rCatW K x y H Q ∨ rCatA K x y H Q
theorem d_add : OpR X (binaryOp .Add) (rAddAll X.K) ∧ Op2 X.K (rAddAll X.K) oAdd :=
  ⟨op_add.or (op_add_str.or (op_catW.or op_catA)), Op2.or (op2_ii0 (f := fun i j => some (.int (i + j))) fun i j d e F => by cases e; exact Rep.mk_int) (Op2.or o_addS (Op2.or o_addL o_addT))⟩

/-! ### ==, != -/
mutual
def _root_.Dy.D.py : D → PyData
  | .non => .none
  | .bl b => .bool b
  | .int i => .int i
  | .str x => .str x
  | .tup xs => .tuple (pyL xs)
  | .lst xs => .list (pyL xs)
  | .ty _ => .none
  | .cls _ => .none
  | .dct _ _ => .none
  | .exc _ _ _ => .none
def pyL : List D → List PyData
  | [] => []
  | d :: ds => d.py :: pyL ds
end
/-- data of a depth below n -/
def okq : Nat → D → Bool
  | _, .non => true
  | _, .bl _ => true
  | _, .int _ => true
  | _, .str x => PyData.strOk x
  | n + 1, .tup xs => xs.all (okq n)
  | n + 1, .lst xs => xs.all (okq n)
  | _, _ => false
theorem okq_all {n : Nat} (ih : ∀ (d : D) {K : PySem.W.Frag} {F : Hp} (v : V), okq n d = true → Rep K F d v → Dp K F v d.py ∧ d.py.canLay0 = true ∧ d.py.depth ≤ n) : ∀ (ds : List D) {K : PySem.W.Frag} {F : Hp} (vs : List V), ds.all (okq n) = true → RepL K F ds vs → DpAll K F vs (pyL ds) ∧ PyData.canLayAll0 (pyL ds) = true ∧ PyData.depthAll (pyL ds) ≤ n
  | [], K, F, vs, _, h => by
    simp only [RepL] at h
    subst h
    exact ⟨by simp only [pyL]; exact .nil, by simp [pyL, PyData.canLayAll0], by simp [pyL, PyData.depthAll]⟩
  | d :: ds, K, F, vs, ha, h => by
    simp only [RepL] at h
    obtain ⟨v, r, rfl, h1, h2⟩ := h
    rw [List.all_cons, Bool.and_eq_true] at ha
    obtain ⟨a1, a2, a3⟩ := ih d v ha.1 h1
    obtain ⟨b1, b2, b3⟩ := okq_all ih ds r ha.2 h2
    refine ⟨by simp only [pyL]; exact .cons a1 b1, by simp [pyL, PyData.canLayAll0, a2, b2], ?_⟩
    simp only [pyL, PyData.depthAll]
    exact Nat.max_le.mpr ⟨a3, b3⟩
theorem okq_dp : ∀ (n : Nat) (d : D) {K : PySem.W.Frag} {F : Hp} (v : V), okq n d = true → Rep K F d v → Dp K F v d.py ∧ d.py.canLay0 = true ∧ d.py.depth ≤ n := by
  intro n
  induction n with
  | zero =>
    intro d K F v h r
    cases d with
    | non => rw [r.non_inv]; exact ⟨.non, by simp [D.py, PyData.canLay0], by simp [D.py, PyData.depth]⟩
    | bl b => rw [r.bl_inv]; exact ⟨.bl b, by simp [D.py, PyData.canLay0], by simp [D.py, PyData.depth]⟩
    | int b => rw [r.int_inv]; exact ⟨.int b, by simp [D.py, PyData.canLay0], by simp [D.py, PyData.depth]⟩
    | str b => rw [r.str_inv]; exact ⟨.str b, by simpa [D.py, PyData.canLay0, okq] using h, by simp [D.py, PyData.depth]⟩
    | _ => simp [okq] at h
  | succ n ih =>
    intro d K F v h r
    cases d with
    | non => rw [r.non_inv]; exact ⟨.non, by simp [D.py, PyData.canLay0], by simp [D.py, PyData.depth]⟩
    | bl b => rw [r.bl_inv]; exact ⟨.bl b, by simp [D.py, PyData.canLay0], by simp [D.py, PyData.depth]⟩
    | int b => rw [r.int_inv]; exact ⟨.int b, by simp [D.py, PyData.canLay0], by simp [D.py, PyData.depth]⟩
    | str b => rw [r.str_inv]; exact ⟨.str b, by simpa [D.py, PyData.canLay0, okq] using h, by simp [D.py, PyData.depth]⟩
    | tup xs =>
      obtain ⟨a, vs, rfl, h1, h2⟩ := r.tup_inv
      obtain ⟨c1, c2, c3⟩ := okq_all ih xs vs (by simpa [okq] using h) h2
      exact ⟨by simp only [D.py]; exact .tup h1 c1, by simpa [D.py, PyData.canLay0] using c2, by simp only [D.py, PyData.depth]; omega⟩
    | lst xs =>
      obtain ⟨a, vs, rfl, h1, h2⟩ := r.lst_inv
      obtain ⟨c1, c2, c3⟩ := okq_all ih xs vs (by simpa [okq] using h) h2
      exact ⟨by simp only [D.py]; exact .lst h1 c1, by simpa [D.py, PyData.canLay0] using c2, by simp only [D.py, PyData.depth]; omega⟩
    | _ => simp [okq] at h
theorem okq_shaped {d : D} {K : PySem.W.Frag} {F : Hp} {v : V} (h : okq 40 d = true) (r : Rep K F d v) : Dp K F v d.py ∧ SeqAt.shaped d.py = true := by
  obtain ⟨h1, h2, h3⟩ := okq_dp 40 d v h r
  refine ⟨h1, ?_⟩
  unfold SeqAt.shaped
  rw [h2, Bool.true_and]
  exact decide_eq_true (by omega)
def eqD (a b : D) : Bool := PyData.eqv a.py b.py
def oEq (a b : D) : Option D := if (okq 40 a && okq 40 b) = true then some (.bl (eqD a b)) else none
def oNe (a b : D) : Option D := if (okq 40 a && okq 40 b) = true then some (.bl (!eqD a b)) else none
theorem d_eq (hu : X.A.units + 64 < cLine) : OpR X (compareOp .Eq) (rEqD X.K) ∧ Op2 X.K (rEqD X.K) oEq := ⟨op_eqD hu, fun F H x y a b d Q s ra rb e q => by
  unfold oEq at e
  split at e
  · rename_i h
    rw [Bool.and_eq_true] at h
    cases e
    obtain ⟨h1, h2⟩ := okq_shaped h.1 (Rep.mono s _ _ ra)
    obtain ⟨h3, h4⟩ := okq_shaped h.2 (Rep.mono s _ _ rb)
    exact ⟨_, _, h1, h3, h2, h4, now q s Rep.mk_bl⟩
  · cases e⟩
theorem d_ne (hu : X.A.units + 64 < cLine) : OpR X (compareOp .NotEq) (rNeD X.K) ∧ Op2 X.K (rNeD X.K) oNe := ⟨op_neD hu, fun F H x y a b d Q s ra rb e q => by
  unfold oNe at e
  split at e
  · rename_i h
    rw [Bool.and_eq_true] at h
    cases e
    obtain ⟨h1, h2⟩ := okq_shaped h.1 (Rep.mono s _ _ ra)
    obtain ⟨h3, h4⟩ := okq_shaped h.2 (Rep.mono s _ _ rb)
    exact ⟨_, _, h1, h3, h2, h4, now q s Rep.mk_bl⟩
  · cases e⟩
/-! ### is None -/
def _root_.Dy.D.isNon : D → Bool
  | .non => true
  | _ => false
theorem Rep.non_iff {K : PySem.W.Frag} {F : Hp} {d : D} {v : V} (h : Rep K F d v) : decide (v = .non) = d.isNon := by
  cases d with
  | non => simp [h.non_inv, D.isNon]
  | bl _ => simp [h.bl_inv, D.isNon]
  | int _ => simp [h.int_inv, D.isNon]
  | str _ => simp [h.str_inv, D.isNon]
  | ty _ => simp only [Rep] at h; simp [h, D.isNon]
  | cls _ => simp only [Rep] at h; simp [h, D.isNon]
  | tup _ => obtain ⟨a, vs, e, _⟩ := h.tup_inv; simp [e, D.isNon]
  | lst _ => obtain ⟨a, vs, e, _⟩ := h.lst_inv; simp [e, D.isNon]
  | dct _ _ => simp only [Rep] at h; obtain ⟨a, vs, e, _⟩ := h; simp [e, D.isNon]
  | exc _ _ _ => simp only [Rep] at h; obtain ⟨a, dd, vs, e, _⟩ := h; simp [e, D.isNon]
def oIsN (a b : D) : Option D := match b with
  | .non => some (.bl a.isNon)
  | _ => none
def oNotN (a b : D) : Option D := match b with
  | .non => some (.bl (!a.isNon))
  | _ => none
theorem d_isN : OpR X (compareOp .Is) (fun x y H Q => y = .non ∧ Q (.bl (decide (x = .non))) H) ∧ Op2 X.K (fun x y H Q => y = .non ∧ Q (.bl (decide (x = .non))) H) oIsN := ⟨op_isN, fun F H x y a b d Q s ra rb e q => by
  unfold oIsN at e
  split at e
  · cases e
    exact ⟨rb.non_inv, by rw [ra.non_iff]; exact now q s Rep.mk_bl⟩
  · cases e⟩
theorem d_notN : OpR X (compareOp .IsNot) (fun x y H Q => y = .non ∧ Q (.bl (!decide (x = .non))) H) ∧ Op2 X.K (fun x y H Q => y = .non ∧ Q (.bl (!decide (x = .non))) H) oNotN := ⟨op_notN, fun F H x y a b d Q s ra rb e q => by
  unfold oNotN at e
  split at e
  · cases e
    exact ⟨rb.non_inv, by rw [ra.non_iff]; exact now q s Rep.mk_bl⟩
  · cases e⟩

/-! ### isinstance of built-in classes -/
def tyD : D → Option String
  | .non => some "NoneType"
  | .bl _ => some "bool"
  | .int _ => some "int"
  | .str _ => some "str"
  | .tup _ => some "tuple"
  | .lst _ => some "list"
  | .dct _ _ => some "dict"
  | _ => none
theorem tyX_of {K : PySem.W.Frag} {F H : Hp} {d : D} {v : V} {t : String} (s : Same F H) (h : Rep K F d v) (e : tyD d = some t) : TyX K H v (.type t) := by
  cases d with
  | non => cases e; rw [h.non_inv]; exact .base .non
  | bl _ => cases e; rw [h.bl_inv]; exact .base (.bl _)
  | int _ => cases e; rw [h.int_inv]; exact .base (.int _)
  | str _ => cases e; rw [h.str_inv]; exact .base (.str _)
  | tup _ =>
    cases e
    obtain ⟨a, vs, rfl, h1, _⟩ := h.tup_inv
    rcases Same.seqT s h1 with (h1 | ⟨o, h1⟩) | ⟨o, its, n, h1, h2, _⟩
    · exact .base (.tup h1)
    · exact .fTuple h1
    · exact .kTuple h1 h2
  | lst _ =>
    cases e
    obtain ⟨a, vs, rfl, h1, _⟩ := h.lst_inv
    rcases Same.seq s h1 with (h1 | ⟨o, h1⟩) | ⟨o, its, n, h1, h2, _⟩
    · exact .base (.lst h1)
    · exact .base (.frz h1)
    · exact .kList h1 h2
  | dct _ _ =>
    cases e
    simp only [Rep] at h
    obtain ⟨a, vs, rfl, h1, _⟩ := h
    rcases h1 with h1 | ⟨o, h1⟩
    · exact .base (.dK (s _ _ h1))
    · exact .fDict (s _ _ h1)
  | ty _ => cases e
  | cls _ => cases e
  | exc _ _ _ => cases e
def oIsi : List D → Option D
  | [x, .ty c] => (tyD x).bind fun t => (kitB t c).map .bl
  | _ => none
theorem d_isi : CallR X (.builtin "isinstance") (rIsi X.K) ∧ OpN X.K (rIsi X.K) oIsi := ⟨call_isi, fun F H xs as d Q s ra e q => by
  unfold oIsi at e
  split at e
  · rename_i x c
    obtain ⟨t, e1, e2⟩ := Option.bind_eq_some_iff.mp e
    obtain ⟨b, e3, e4⟩ := Option.map_eq_some_iff.mp e2
    obtain ⟨v, w, rfl, h1, h2⟩ := ra.two
    simp only [Rep] at h2
    subst h2
    subst e4
    exact ⟨v, .ty c, .type t, .type c, b, rfl, .ty c, tyX_of s h1 e1, kit_ty e3, now q s Rep.mk_bl⟩
  · cases e⟩
theorem se_ty {W : WX} {x : Str} {n : String} {pos : Pos} (hm : X.mg x = none) (hg : Gl X x := by rfl) (hv : bootBuiltins x = some (.type n) := by decide +kernel) (hn : x ≠ "__name__" := by decide) (hd : (x == ("__debug__" : Str)) = false := by decide) : SE X W (.Name x pos) (eC (.ty n)) :=
  se_const (pe_bltn (v := V.ty n) hg hm hv rfl hn hd) fun _ _ => Rep.mk_ty

/-! ### len, items, slices -/
def oLen : List D → Option D
  | [.lst xs] => some (.int xs.length)
  | [.tup xs] => some (.int xs.length)
  | [.str z] => if z.length ≤ sizeLine then some (.int z.length) else none
  | _ => none
abbrev rLenAll (K : PySem.W.Frag) : List V → Hp → VK → Prop := fun xs H Q => (∃ p ys, xs = [.ref p] ∧ (SqL K H p ys ∨ SqT K H p ys) ∧ Q (.int ys.length) H) ∨ ∃ z, xs = [.str z] ∧ z.length ≤ sizeLine ∧ Q (.int z.length) H
theorem d_len : CallR X (.builtin "len") (rLenAll X.K) ∧ OpN X.K (rLenAll X.K) oLen := ⟨call_len_seq.or call_len_str, fun F H xs as d Q s ra e q => by
  unfold oLen at e
  split at e
  · cases e
    obtain ⟨v, rfl, h⟩ := ra.one
    obtain ⟨a, vs, rfl, h1, h2⟩ := h.lst_inv
    rw [h2.length] at q
    exact .inl ⟨a, vs, rfl, .inl (Same.seq s h1), now q s Rep.mk_int⟩
  · cases e
    obtain ⟨v, rfl, h⟩ := ra.one
    obtain ⟨a, vs, rfl, h1, h2⟩ := h.tup_inv
    rw [h2.length] at q
    exact .inl ⟨a, vs, rfl, .inr (Same.seqT s h1), now q s Rep.mk_int⟩
  · split at e
    · cases e
      obtain ⟨v, rfl, h⟩ := ra.one
      exact .inr ⟨_, by rw [h.str_inv], by assumption, now q s Rep.mk_int⟩
    · cases e
  · cases e⟩
theorem RepL.atI {K : PySem.W.Frag} {F : Hp} {ds : List D} {vs : List V} {i : Int} {d : D} (h : RepL K F ds vs) (e : L2.atI ds i = some d) : ∃ v, L2.atI vs i = some v ∧ Rep K F d v := by
  unfold L2.atI at e ⊢
  obtain ⟨j, e1, e2⟩ := Option.bind_eq_some_iff.mp e
  obtain ⟨v, e3, r⟩ := h.get e2
  exact ⟨v, by rw [← h.length, e1]; exact e3, r⟩
def oIx : D → D → Option D
  | .lst xs, .int i => L2.atI xs i
  | .tup xs, .int i => L2.atI xs i
  | .str z, .int i => if z.length ≤ sizeLine then (L2.atI z.cps.toList i).map fun c => .str ⟨#[c]⟩ else none
  | _, _ => none
theorem d_ix : IxR X (rIx X.K) ∧ Op2 X.K (rIx X.K) oIx := ⟨ix_seq, fun F H x y a b d Q s ra rb e q => by
  unfold oIx at e
  split at e
  · obtain ⟨l, vs, rfl, h1, h2⟩ := ra.lst_inv
    obtain ⟨v, e1, r⟩ := h2.atI e
    exact .inl ⟨l, vs, _, v, rfl, rb.int_inv, Same.seq s h1, e1, now q s r⟩
  · obtain ⟨l, vs, rfl, h1, h2⟩ := ra.tup_inv
    obtain ⟨v, e1, r⟩ := h2.atI e
    exact .inr (.inl ⟨l, vs, _, v, rfl, rb.int_inv, Same.seqT s h1, e1, now q s r⟩)
  · split at e
    · obtain ⟨c, e1, e2⟩ := Option.map_eq_some_iff.mp e
      subst e2
      exact .inr (.inr ⟨_, _, c, ra.str_inv, rb.int_inv, by assumption, e1, now q s Rep.mk_str⟩)
    · cases e
  · cases e⟩
def oNo : REnv → R (Option Int) := fun _ => .ok none
def oSome (f : REnv → R D) : REnv → R (Option Int) := fun ρ => (f ρ).bind fun d => match d with
  | .int i => .ok (some i)
  | _ => .bad
def cutD (xs : List D) (lo hi : Option Int) : List D := (xs.drop (HT.sIx xs.length 0 lo)).take (HT.sIx xs.length xs.length hi - HT.sIx xs.length 0 lo)
def oSl : D → Option Int → Option Int → Option D
  | .lst xs, lo, hi => some (.lst (cutD xs lo hi))
  | .tup xs, lo, hi => some (.tup (cutD xs lo hi))
  | _, _, _ => none
def eSl (f : REnv → R D) (lo hi : REnv → R (Option Int)) : REnv → R D := fun ρ => (f ρ).bind fun a => (lo ρ).bind fun l => (hi ρ).bind fun h => .opt (oSl a l h)
/-! ### list, tuple, abs, max, min, sum, int -/
def oList : List D → Option D
  | [.lst xs] => some (.lst xs)
  | [.tup xs] => some (.lst xs)
  | _ => none
def oTuple : List D → Option D
  | [.lst xs] => some (.tup xs)
  | [.tup xs] => some (.tup xs)
  | _ => none
theorem d_tuple : CallR X (.type "tuple") (fun xs H Q => ∃ p ys, xs = [.ref p] ∧ ((SqL X.K H p ys ∧ ∀ l, H l = none → Q (.ref l) (upd H l (.tup ys))) ∨ (SqT X.K H p ys ∧ Q (.ref p) H))) ∧
    OpN X.K (fun xs H Q => ∃ p ys, xs = [.ref p] ∧ ((SqL X.K H p ys ∧ ∀ l, H l = none → Q (.ref l) (upd H l (.tup ys))) ∨ (SqT X.K H p ys ∧ Q (.ref p) H))) oTuple := ⟨call_tuple_of, fun F H xs as d Q s ra e q => by
  unfold oTuple at e
  split at e
  · cases e
    obtain ⟨v, rfl, h⟩ := ra.one
    obtain ⟨a, vs, rfl, h1, h2⟩ := h.lst_inv
    exact ⟨a, vs, rfl, .inl ⟨Same.seq s h1, anew q s fun p s2 => Rep.mk_tup (.of upd_same) (RepL.mono s2 _ _ h2)⟩⟩
  · cases e
    obtain ⟨v, rfl, h⟩ := ra.one
    obtain ⟨a, vs, rfl, h1, h2⟩ := h.tup_inv
    exact ⟨a, vs, rfl, .inr ⟨Same.seqT s h1, now q s (Rep.mk_tup h1 h2)⟩⟩
  · cases e⟩
def oAbs : List D → Option D
  | [.int i] => some (.int (if i < 0 then -i else i))
  | _ => none
theorem d_abs : CallR X (.builtin "abs") (fun xs H Q => ∃ i, xs = [.int i] ∧ Q (.int (if i < 0 then -i else i)) H) ∧ OpN X.K (fun xs H Q => ∃ i, xs = [.int i] ∧ Q (.int (if i < 0 then -i else i)) H) oAbs := ⟨call_abs, fun F H xs as d Q s ra e q => by
  unfold oAbs at e
  split at e
  · cases e
    obtain ⟨v, rfl, h⟩ := ra.one
    exact ⟨_, by rw [h.int_inv], now q s Rep.mk_int⟩
  · cases e⟩
def oMax2 : List D → Option D
  | [.int i, .int j] => some (.int (if j > i then j else i))
  | _ => none
def oMin2 : List D → Option D
  | [.int i, .int j] => some (.int (if j < i then j else i))
  | _ => none
/-- the ints of a list -/
def intsD : List D → Option (List Int)
  | [] => some []
  | .int i :: r => (intsD r).map (i :: ·)
  | _ => none
theorem intsD_rep {K : PySem.W.Frag} {F : Hp} : ∀ {ds : List D} {vs : List V} {ns : List Int}, intsD ds = some ns → RepL K F ds vs → vs = ns.map V.int
  | [], vs, ns, e, h => by
    simp only [intsD] at e
    cases e
    simpa [RepL] using h
  | d :: ds, vs, ns, e, h => by
    simp only [RepL] at h
    obtain ⟨v, r, rfl, h1, h2⟩ := h
    cases d with
    | int i =>
      simp only [intsD] at e
      obtain ⟨ms, e1, rfl⟩ := Option.map_eq_some_iff.mp e
      rw [h1.int_inv, intsD_rep e1 h2]
      rfl
    | _ => simp [intsD] at e
theorem intsD_map (ns : List Int) : intsD (ns.map .int) = some ns := by
  induction ns with
  | nil => rfl
  | cons n r ih => simp [intsD, ih]
def oSum : List D → Option D
  | [.lst xs] => (intsD xs).map fun ns => .int ns.sum
  | _ => none
end
end Dy

set_option Elab.async false
set_option linter.all false
set_option maxRecDepth 100000
namespace Dy
open PySem PySem.Spec PyProof.Rows L2

/-! ### a def of the text, for its callers -/
structure Cal (P : Program) (w : World) (K : PySem.W.Frag) (mg : Str → Option Value) (base : Heap) (x : Str) (k n : Nat) (fn : List D → R D) : Prop where
  ex : ∃ (f : Addr) (fd : FuncData) (ps : List Str), FnOk P w K mg base (L2.CX P w) k f fd ps (spD K n fn) ∧ mg x = some (.ref f) ∧ PySem.W.keepIn K (.ref f) = true ∧ Binds K fd ps []
  len : ∀ ds, ds.length ≠ n → fn ds = .bad
section
variable {P : Program} {w : World} {K : PySem.W.Frag} {mg : Str → Option Value} {base : Heap} {x : Str} {params : Arguments} {body : List Stmt} {scope : Scope} {f : Addr} {fd : FuncData} {N ps : List Str} {k n : Nat} {g : REnv → SR}
theorem cal_mk (Fn : FunD K x x params body scope [] [] f fd) (hm : mg x = some (.ref f))
    (hb : ∀ (kV doc pm : Value) (an : Option Addr) (cdv ct : Value) (us : List Value), us.length = ps.length → bindArgs (PySem.W.fnOf x x params body scope .none kV doc pm an cdv ct) ⟨us, []⟩ = pure (ps.zip us))
    (ok : FnOk P w K mg base (L2.CX P w) k f fd ps (spD K n (fnD n N.length g))) : Cal P w K mg base x k n (fnD n N.length g) :=
  ⟨⟨f, fd, ps, ok, hm, Fn.kp, Fn.bindsN hb⟩, fun ds h => fnD_len h⟩
end
section
variable {X : Cx} {W : WX} {e : Expr} {es : List Expr} {x : Str} {p pos : Pos} {k n : Nat} {t : REnv → R (List D)} {fn : List D → R D}
theorem se_callC (C : Cal X.prog X.w X.K X.mg X.base x k n fn) (tk : Takes X W) (hr : Room k X.A)
    (ha : SA X W (e :: es) t) (hg : Gl X x := by rfl) (hdb : (x == ("__debug__" : Str)) = false := by decide) (he : starEach (e :: es) X.env = (false, eval e X.env) :: starEach es X.env := by rfl) (hpl : (backTo pos (starEach es X.env)).any (·.1) = false := by rfl) :
    SE X W (.Call (.Name x p) (e :: es) [] pos) (eCall fn t) := by
  obtain ⟨f, fd, ps, Fo, hm, hk, hb⟩ := C.ex
  exact se_call Fo C.len tk hr hm hk hb ha hg hdb he hpl
/-- {} -/
def eDct0 : REnv → R D := fun _ => .ok (.dct [] [])
end

/-! ### built-ins that the module has not bound -/
def Blts (mg : Str → Option Value) (l : List Str) : Prop := ∀ (i : Nat) (x : Str), l[i]? = some x → mg x = none
theorem Blts.at {mg : Str → Option Value} {l : List Str} (B : Blts mg l) (i : Nat) {x : Str} (h : l[i]? = some x := by rfl) : mg x = none := B i x h

/-! ### the end -/
theorem walk_ofW {l : PySem.W.OpenLaw} {n k : Nat} {q : Program} {loose : List Str} {XP : (Str → Option Value) → Heap → Prop} {YP : World → Heap → Prop} {d : DefRec} {CX : World → CXT} {x : Str}
    (hn : l.most = some n) (hn2 : n ≤ sizeLine) (hdf : d.params.defaults = []) (hr : Room k callerA)
    (F : ∀ (w : World) (mg : Str → Option Value) (fa : Addr) (h : Heap), YP w h → h.Ns mainGlobals mg → mg d.name = some (.ref fa) →
      ∃ (K : PySem.W.Frag) (fd : FuncData) (sp : Sp), K.In h ∧ (∀ (s : Shared) (u : Value), BindsTo s fd ⟨[u], []⟩ [(x, u)]) ∧
        (∀ (H : Hp) (a : Addr) (ns : List Int), ns.length ≤ n → Only H → SqL K H a (ns.map V.int) → sp [.ref a] H (fun v _ => v = .bl true) fun _ _ _ => False) ∧
        ∀ base : Heap, K.In base → base.Ns mainGlobals mg → FnOk l.prog w K mg base (CX w) k fa fd [x] sp)
    (hCX : ∀ (w : World) (H : Hp) (s : Shared) (e : Value) (s' : Shared), CX w [] H s (fun _ _ _ => False) e s' → False) :
    PySem.W.WalkO q loose XP YP l.row.toRowW d [] (fun f vs => PySem.call f vs) := by
  refine Att.attach_call hn hdf fun w s₀ s₁ mg mb fa o pm cd doc a vs ns G Y ho hd hcd hmg hobj hints hlen hg => ?_
  obtain ⟨K, fd, sp, KX, hb, hsp, hF⟩ := F w mg fa _ Y G.T.g hmg
  exact law_call KX G.T.g G.T.b G.T.builtins G.T.nolimit hg hobj hints (Nat.le_trans hlen hn2) hr hF hb (fun H hO hS => hsp H a ns hlen hO hS) fun H e s' => hCX w H s₁ e s'
theorem cx_false {P : Program} {w : World} {H : Hp} {s : Shared} {e : Value} {s' : Shared} : L2.CX P w [] H s (fun _ _ _ => False) e s' → False := fun h => by
  obtain ⟨_, _, _, _, _, _, _, _, _, _, _, _, z⟩ := h
  exact z
theorem repL_ints {K : PySem.W.Frag} {F : Hp} : ∀ ns : List Int, RepL K F (ns.map .int) (ns.map V.int)
  | [] => RepL.nil
  | n :: r => RepL.cons Rep.mk_int (repL_ints r)
theorem law_sp {K : PySem.W.Frag} {fn : List D → R D} {ns : List Int} {H : Hp} {a : Addr} (hS : SqL K H a (ns.map V.int)) (h : fn [.lst (ns.map .int)] = .ok (.bl true)) : spD K 1 fn [.ref a] H (fun v _ => v = .bl true) fun _ _ _ => False := by
  refine ⟨rfl, H, [.lst (ns.map .int)], .refl _, RepL.cons (Rep.mk_lst hS (repL_ints ns)) RepL.nil, ?_⟩
  rw [h]
  exact fun v F' H' _ r => r.bl_inv
end Dy

set_option Elab.async false
set_option linter.all false
set_option maxRecDepth 100000
/-! What a def's meaning comes to, step by step: weakest conditions over plain data. -/
namespace Dy
open PySem PySem.Spec PyProof.Rows L2

def R.wp {α : Type} (x : R α) (P : α → Prop) (E : D → Prop) : Prop := match x with
  | .ok a => P a
  | .err e => E e
  | .bad => False
def SR.wp (x : SR) (N : REnv → Prop) (T : D → Prop) (E : D → REnv → Prop) : Prop := match x with
  | .next ρ => N ρ
  | .ret d => T d
  | .err e ρ => E e ρ
  | .bad => False
abbrev NoE : D → Prop := fun _ => False
/-- marks, so that a step is known by its head -/
def Got {α : Type} (o : Option α) (P : α → Prop) : Prop := ∃ a, o = some a ∧ P a
def HasB (d : D) (P : Bool → Prop) : Prop := ∃ b, d = .bl b ∧ P b
def HasI (d : D) (P : Int → Prop) : Prop := ∃ i, d = .int i ∧ P i
def Has2 (ds : List D) (P : D → D → Prop) : Prop := ∃ a b, ds = [a, b] ∧ P a b
def Fork (k : Bool) (A B : Prop) : Prop := (k = true → A) ∧ (k = false → B)
def Fits (n : Nat) (A : Prop) : Prop := n ≤ sizeLine ∧ A
def Grows (n : Nat) (A : Prop) : Prop := n < sizeLine ∧ A
theorem R.wp.imp {α : Type} {x : R α} {P P' : α → Prop} {E E' : D → Prop} (h : x.wp P E) (f : ∀ a, P a → P' a) (g : ∀ e, E e → E' e) : x.wp P' E' := by
  cases x with
  | ok a => exact f a h
  | err e => exact g e h
  | bad => exact h
theorem R.wp.post {α : Type} {x : R α} {P P' : α → Prop} {E : D → Prop} (h : x.wp P E) (f : ∀ a, P a → P' a) : x.wp P' E := h.imp f fun _ z => z
theorem R.wp.no {α : Type} {x : R α} {P P' : α → Prop} {E : D → Prop} (h : x.wp P NoE) (f : ∀ a, P a → P' a) : x.wp P' E := h.imp f fun _ z => z.elim
theorem R.wp.ok {α : Type} {x : R α} {P : α → Prop} (h : x.wp P NoE) : ∃ a, x = .ok a ∧ P a := by
  cases x with
  | ok a => exact ⟨a, rfl, h⟩
  | err e => exact h.elim
  | bad => exact h.elim
theorem R.wp.of_ok {α : Type} {x : R α} {a : α} {P : α → Prop} {E : D → Prop} (e : x = .ok a) (h : P a) : x.wp P E := by rw [e]; exact h
theorem wp_bind {α β : Type} {x : R α} {k : α → R β} {P : β → Prop} {E : D → Prop} (h : x.wp (fun a => (k a).wp P E) E) : (x.bind k).wp P E := by
  cases x with
  | ok a => exact h
  | err e => exact h
  | bad => exact h
theorem wp_toS {α : Type} {x : R α} {ρ : REnv} {k : α → SR} {N : REnv → Prop} {T : D → Prop} {E : D → REnv → Prop} (h : x.wp (fun a => (k a).wp N T E) (fun e => E e ρ)) : (x.toS ρ k).wp N T E := by
  cases x with
  | ok a => exact h
  | err e => exact h
  | bad => exact h
theorem wp_opt {α : Type} {x : Option α} {P : α → Prop} {E : D → Prop} (h : Got x P) : (R.opt x).wp P E := by
  obtain ⟨a, rfl, h⟩ := h
  exact h
section
variable {ρ : REnv} {P : D → Prop} {PB : Bool → Prop} {PA : List D → Prop} {E : D → Prop} {f g h : REnv → R D} {u v : REnv → R Bool} {t : REnv → R (List D)} {d : D}
theorem wp_var {i : Nat} (e : ρ[i]? = some (.val d)) (h : P d) : (eVar i ρ).wp P E := by
  unfold eVar; rw [e]; exact h
theorem wp_c (h : P d) : (eC d ρ).wp P E := h
theorem wp_bin {o : D → D → Option D} (h : (f ρ).wp (fun a => (g ρ).wp (fun b => Got (o a b) P) E) E) : (eBin o f g ρ).wp P E :=
  wp_bind (h.post fun _ h1 => wp_bind (h1.post fun _ h2 => wp_opt h2))
theorem wp_un {o : D → Option D} (h : (f ρ).wp (fun a => Got (o a) P) E) : (eUn o f ρ).wp P E := wp_bind (h.post fun _ h2 => wp_opt h2)
theorem wp_n {o : List D → Option D} (h : (t ρ).wp (fun a => Got (o a) P) E) : (eN o t ρ).wp P E := wp_bind (h.post fun _ h2 => wp_opt h2)
theorem wp_nil (h : PA []) : (aNil ρ).wp PA E := h
theorem wp_cons (h : (f ρ).wp (fun a => (t ρ).wp (fun r => PA (a :: r)) E) E) : (aCons f t ρ).wp PA E := wp_bind (h.post fun _ h1 => wp_bind h1)
theorem wp_tup (h : (t ρ).wp (fun ds => Fits ds.length (P (.tup ds))) E) : (eTup t ρ).wp P E := wp_bind (h.post fun ds h1 => by rw [if_pos h1.1]; exact h1.2)
theorem wp_lst (h : (t ρ).wp (fun ds => Fits ds.length (P (.lst ds))) E) : (eLst t ρ).wp P E := wp_bind (h.post fun ds h1 => by rw [if_pos h1.1]; exact h1.2)
theorem wp_call {fn : List D → R D} (h : (t ρ).wp (fun ds => (fn ds).wp P E) E) : (eCall fn t ρ).wp P E := wp_bind h
theorem wp_test (h : (f ρ).wp (fun d => HasB d PB) E) : (eTest f ρ).wp PB E := wp_bind (h.post fun d ⟨b, e, q⟩ => by subst e; exact q)
theorem wp_and (h : (u ρ).wp (fun k => Fork k ((v ρ).wp PB E) (PB false)) E) : (eAnd u v ρ).wp PB E := wp_bind (h.post fun k ⟨h1, h2⟩ => by
  cases k with
  | true => exact h1 rfl
  | false => exact h2 rfl)
theorem wp_or (h : (u ρ).wp (fun k => Fork k (PB true) ((v ρ).wp PB E)) E) : (eOr u v ρ).wp PB E := wp_bind (h.post fun k ⟨h1, h2⟩ => by
  cases k with
  | true => exact h1 rfl
  | false => exact h2 rfl)
theorem wp_not (h : (u ρ).wp (fun k => PB (!k)) E) : (eNot u ρ).wp PB E := wp_bind h
theorem wp_andV (h : (f ρ).wp (fun d => HasB d fun k => Fork k ((g ρ).wp P E) (P (.bl false))) E) : (eAndV f g ρ).wp P E := wp_bind (h.post fun d ⟨k, e, h1, h2⟩ => by
  subst e
  cases k with
  | true => exact h1 rfl
  | false => exact h2 rfl)
theorem wp_orV (h : (f ρ).wp (fun d => HasB d fun k => Fork k (P (.bl true)) ((g ρ).wp P E)) E) : (eOrV f g ρ).wp P E := wp_bind (h.post fun d ⟨k, e, h1, h2⟩ => by
  subst e
  cases k with
  | true => exact h1 rfl
  | false => exact h2 rfl)
theorem wp_notV (h : (f ρ).wp (fun d => HasB d fun k => P (.bl (!k))) E) : (eNotV f ρ).wp P E := wp_bind (h.post fun d ⟨k, e, h1⟩ => by subst e; exact h1)
theorem wp_chain {o o' : D → D → Option D} (hh : (f ρ).wp (fun a => (g ρ).wp (fun b => Got (o a b) fun z => HasB z fun k => Fork k ((h ρ).wp (fun c => Got (o' b c) P) E) (P (.bl false))) E) E) : (eChain o o' f g h ρ).wp P E :=
  wp_bind (hh.post fun a h1 => wp_bind (h1.post fun b ⟨z, e, k, ez, h2, h3⟩ => by
    subst ez
    rw [e]
    show (goOn _ (.bl k)).wp P E
    cases k with
    | true => exact wp_bind ((h2 rfl).post fun c q => wp_opt q)
    | false => exact h3 rfl))
theorem wp_dct0 (h : P (.dct [] [])) : (eDct0 ρ).wp P E := h
theorem wp_sl {lo hi : REnv → R (Option Int)} (h : (f ρ).wp (fun a => (lo ρ).wp (fun l => (hi ρ).wp (fun r => Got (oSl a l r) P) E) E) E) : (eSl f lo hi ρ).wp P E :=
  wp_bind (h.post fun a h1 => wp_bind (h1.post fun l h2 => wp_bind (h2.post fun r h3 => wp_opt h3)))
theorem wp_no {PO : Option Int → Prop} (h : PO none) : (oNo ρ).wp PO E := h
theorem wp_some {PO : Option Int → Prop} (h : (f ρ).wp (fun d => HasI d fun i => PO (some i)) E) : (oSome f ρ).wp PO E := wp_bind (h.post fun d ⟨i, e, q⟩ => by subst e; exact q)
theorem wp_iD (h : (f ρ).wp (fun d => Got (iterD d) PA) E) : (iD f ρ).wp PA E := wp_bind (h.post fun _ q => wp_opt q)
theorem wp_iArgs {o : List D → Option (List D)} (h : (t ρ).wp (fun d => Got (o d) PA) E) : (iArgs o t ρ).wp PA E := wp_bind (h.post fun _ q => wp_opt q)
theorem wp_comp {vs : List Nat} {fi : REnv → R (List D)} {b : D → REnv → Option REnv} {c : REnv → R Bool} {e : REnv → R D} (h : (fi ρ).wp (fun ds => Fits ds.length (Got (compS b c e ds (wipeE ρ vs)) fun rs => P (.lst rs))) E) : (eComp vs fi b c e ρ).wp P E :=
  wp_bind (h.post fun ds ⟨h1, rs, h2, h3⟩ => by rw [if_pos h1, h2]; exact h3)
end
section
variable {ρ : REnv} {N : REnv → Prop} {T : D → Prop} {E : D → REnv → Prop} {g h : REnv → SR} {f : REnv → R D} {u : REnv → R Bool} {t : REnv → R (List D)}
theorem SR.wp.imp {x : SR} {N N' : REnv → Prop} {T T' : D → Prop} {E E' : D → REnv → Prop} (h : x.wp N T E) (f : ∀ a, N a → N' a) (g : ∀ a, T a → T' a) (k : ∀ e r, E e r → E' e r) : x.wp N' T' E' := by
  cases x with
  | next a => exact f a h
  | ret a => exact g a h
  | err e r => exact k e r h
  | bad => exact h
theorem sp_seq (hh : (g ρ).wp (fun ρ' => (h ρ').wp N T E) T E) : (sSeq g h ρ).wp N T E := by
  unfold sSeq SR.seq
  cases e : g ρ with
  | next a => rw [e] at hh; exact hh
  | ret a => rw [e] at hh; exact hh
  | err a r => rw [e] at hh; exact hh
  | bad => rw [e] at hh; exact hh
theorem sp_skip (h : N ρ) : (sSkip ρ).wp N T E := h
theorem sp_ret (h : (f ρ).wp T (fun e => E e ρ)) : (sRet f ρ).wp N T E := wp_toS h
theorem sp_set {i : Nat} (h : (f ρ).wp (fun d => N (ρ.set i (.val d))) (fun e => E e ρ)) : (sSet i f ρ).wp N T E := wp_toS h
theorem sp_expr (h : (f ρ).wp (fun _ => N ρ) (fun e => E e ρ)) : (sExpr f ρ).wp N T E := wp_toS h
theorem sp_if (hh : (u ρ).wp (fun b => Fork b ((g ρ).wp N T E) ((h ρ).wp N T E)) (fun e => E e ρ)) : (sIf u g h ρ).wp N T E := wp_toS (hh.post fun b ⟨h1, h2⟩ => by
  cases b with
  | true => exact h1 rfl
  | false => exact h2 rfl)
theorem sp_par {i j : Nat} (h : (t ρ).wp (fun ds => Has2 ds fun a b => N ((ρ.set i (.val a)).set j (.val b))) (fun e => E e ρ)) : (sPar i j t ρ).wp N T E := wp_toS (h.post fun ds ⟨a, b, e, q⟩ => by subst e; exact q)
theorem sp_asg {b : D → REnv → Option REnv} (h : (f ρ).wp (fun d => Got (b d ρ) N) (fun e => E e ρ)) : (sAsg f b ρ).wp N T E := wp_toS (h.post fun d ⟨r, e, q⟩ => by rw [e]; exact q)
theorem sp_own {i : Nat} (h : (t ρ).wp (fun ds => Fits ds.length (N (ρ.set i (.own ds)))) (fun e => E e ρ)) : (sOwn i t ρ).wp N T E := wp_toS (h.post fun ds ⟨h1, h2⟩ => by rw [if_pos h1]; exact h2)
theorem sp_app {i : Nat} {ds : List D} (e : ρ[i]? = some (.own ds)) (h : (f ρ).wp (fun d => Grows ds.length (N (ρ.set i (.own (ds ++ [d]))))) (fun e => E e ρ)) : (sApp i f ρ).wp N T E := by
  unfold sApp
  rw [e]
  exact wp_toS (h.post fun d ⟨h1, h2⟩ => by rw [if_pos h1]; exact h2)
theorem sp_for {fi : REnv → R (List D)} {b : D → REnv → Option REnv} (h : (fi ρ).wp (fun ds => (forS b g ds ρ).wp N T E) (fun e => E e ρ)) : (sFor fi b g ρ).wp N T E := wp_toS h
theorem forS_inv {b : D → REnv → Option REnv} {ds : List D} (I : Nat → REnv → Prop) (h0 : I 0 ρ) (hs : ∀ i d ρ, ds[i]? = some d → I i ρ → Got (b d ρ) fun ρ' => (g ρ').wp (I (i + 1)) T E) (hd : ∀ ρ, I ds.length ρ → N ρ) : (forS b g ds ρ).wp N T E := by
  have key : ∀ (n i : Nat) (ρ : REnv), n + i = ds.length → I i ρ → (forS b g (ds.drop i) ρ).wp N T E := by
    intro n
    induction n with
    | zero =>
      intro i ρ e q
      have e2 : i = ds.length := by omega
      subst e2
      rw [List.drop_length]
      exact hd ρ q
    | succ n ih =>
      intro i ρ e q
      have hi : i < ds.length := by omega
      rw [List.drop_eq_getElem_cons hi]
      obtain ⟨ρ', e1, h1⟩ := hs i ds[i] ρ (List.getElem?_eq_getElem hi) q
      unfold forS
      rw [e1]
      show ((g ρ').seq (forS b g (ds.drop (i + 1)))).wp N T E
      exact sp_seq (g := g) (h := forS b g (ds.drop (i + 1))) (h1.imp (fun a qa => ih (i + 1) a (by omega) qa) (fun _ z => z) fun _ _ z => z)
  have := key ds.length 0 ρ (by simp) h0
  simpa using this
theorem sp_while (I : REnv → Prop) (μ : REnv → Nat) (h0 : I ρ) (hs : ∀ ρ, I ρ → (u ρ).wp (fun k => Fork k ((g ρ).wp (fun ρ' => I ρ' ∧ μ ρ' < μ ρ) T E) (N ρ)) (fun e => E e ρ)) : (whileS u g ρ).wp N T E := by
  have key : ∀ (n : Nat) (ρ : REnv), μ ρ < n → I ρ → (whileS u g ρ).wp N T E := by
    intro n
    induction n with
    | zero => intro ρ h; omega
    | succ n ih =>
      intro ρ hn hI
      rw [whileS_eq]
      refine wp_toS ((hs ρ hI).post fun k ⟨h1, h2⟩ => ?_)
      cases k with
      | true => exact sp_seq (g := g) (h := whileS u g) ((h1 rfl).imp (fun a ⟨q1, q2⟩ => ih a (by omega) q1) (fun _ z => z) fun _ _ z => z)
      | false => exact h2 rfl
  exact key (μ ρ + 1) ρ (by omega) h0
theorem wp_fn {n m : Nat} {ds : List D} {P : D → Prop} {E : D → Prop} (hl : ds.length = n) (h : (g (ds.map .val ++ List.replicate (m - n) .un)).wp (fun _ => P .non) P (fun e _ => E e)) : (fnD n m g ds).wp P E := by
  unfold fnD
  rw [if_pos hl]
  cases e : g (ds.map .val ++ List.replicate (m - n) .un) with
  | next a => rw [e] at h; exact h
  | ret a => rw [e] at h; exact h
  | err a r => rw [e] at h; exact h
  | bad => rw [e] at h; exact h.elim
end
theorem law_of_wp {x : R D} (h : x.wp (fun d => d = .bl true) NoE) : x = .ok (.bl true) := by
  obtain ⟨a, e, rfl⟩ := h.ok
  exact e

/-! ### operations on data of known make -/
section
variable {P : D → Prop} {i j : Int} {xs ys : List D} {a b d : D}
theorem w_addI (h : P (.int (i + j))) : Got (oAdd (.int i) (.int j)) P := ⟨_, rfl, h⟩
theorem w_addL (hl : xs.length + ys.length ≤ sizeLine) (h : P (.lst (xs ++ ys))) : Got (oAdd (.lst xs) (.lst ys)) P := ⟨.lst (xs ++ ys), by simp only [oAdd, oAddI, oII, oAddS, oAddL, if_pos hl]; rfl, h⟩
theorem w_addT (hl : xs.length + ys.length ≤ sizeLine) (h : P (.tup (xs ++ ys))) : Got (oAdd (.tup xs) (.tup ys)) P := ⟨.tup (xs ++ ys), by simp only [oAdd, oAddI, oII, oAddS, oAddL, oAddT, if_pos hl]; rfl, h⟩
theorem w_sub (h : P (.int (i - j))) : Got (oSub (.int i) (.int j)) P := ⟨_, rfl, h⟩
theorem w_mul (hm : MuOk i j) (h : P (.int (i * j))) : Got (oMul (.int i) (.int j)) P := ⟨_, by simp only [oMul, oII, if_pos hm], h⟩
theorem w_mod (hj : 0 < j) (h : P (.int (i % j))) : Got (oMod (.int i) (.int j)) P := ⟨.int (i.fmod j), by simp only [oMod, oII, if_pos (show j ≠ 0 by omega)], by rw [Int.fmod_eq_emod_of_nonneg i (by omega)]; exact h⟩
theorem w_div (hj : 0 < j) (hl : j.natAbs.log2 < 9000) (h : P (.int (i / j))) : Got (oDiv (.int i) (.int j)) P := ⟨.int (i.fdiv j), by simp only [oDiv, oII, if_pos (show DivOk j from ⟨by omega, hl⟩)], by rw [Int.fdiv_eq_ediv_of_nonneg i (by omega)]; exact h⟩
theorem w_pow (hc : 0 ≤ j ∧ j ≤ 1000000 ∧ i.natAbs < 2 ^ 64) (h : P (.int (i ^ j.toNat))) : Got (oPow (.int i) (.int j)) P := ⟨_, by simp only [oPow, oII, if_pos hc], h⟩
theorem w_lt (h : P (.bl (decide (i < j)))) : Got (oLt (.int i) (.int j)) P := ⟨_, rfl, h⟩
theorem w_le (h : P (.bl (decide (i ≤ j)))) : Got (oLe (.int i) (.int j)) P := ⟨_, rfl, h⟩
theorem w_gt (h : P (.bl (decide (j < i)))) : Got (oGt (.int i) (.int j)) P := ⟨_, rfl, h⟩
theorem w_ge (h : P (.bl (decide (j ≤ i)))) : Got (oGe (.int i) (.int j)) P := ⟨_, rfl, h⟩
theorem w_neg (h : P (.int (-i))) : Got (oNeg (.int i)) P := ⟨_, rfl, h⟩
theorem eqD_int : eqD (.int i) (.int j) = decide (i = j) := by
  simp only [eqD, D.py, PyData.eqv]
  by_cases h : i = j <;> simp [h]
theorem w_eqI (h : P (.bl (decide (i = j)))) : Got (oEq (.int i) (.int j)) P := ⟨.bl (eqD (.int i) (.int j)), by simp [oEq, okq], by rw [eqD_int]; exact h⟩
theorem w_neI (h : P (.bl (!decide (i = j)))) : Got (oNe (.int i) (.int j)) P := ⟨.bl (!eqD (.int i) (.int j)), by simp [oNe, okq], by rw [eqD_int]; exact h⟩
theorem w_eq (ha : okq 40 a = true) (hb : okq 40 b = true) (h : P (.bl (eqD a b))) : Got (oEq a b) P := ⟨_, by simp only [oEq, ha, hb, Bool.and_self, if_true], h⟩
theorem w_ne (ha : okq 40 a = true) (hb : okq 40 b = true) (h : P (.bl (!eqD a b))) : Got (oNe a b) P := ⟨_, by simp only [oNe, ha, hb, Bool.and_self, if_true], h⟩
theorem w_isN (h : P (.bl a.isNon)) : Got (oIsN a .non) P := ⟨_, rfl, h⟩
theorem w_notN (h : P (.bl (!a.isNon))) : Got (oNotN a .non) P := ⟨_, rfl, h⟩
theorem w_lenL (h : P (.int xs.length)) : Got (oLen [.lst xs]) P := ⟨_, rfl, h⟩
theorem w_lenT (h : P (.int xs.length)) : Got (oLen [.tup xs]) P := ⟨_, rfl, h⟩
theorem w_ixL (e : L2.atI xs i = some d) (h : P d) : Got (oIx (.lst xs) (.int i)) P := ⟨d, e, h⟩
theorem w_ixT (e : L2.atI xs i = some d) (h : P d) : Got (oIx (.tup xs) (.int i)) P := ⟨d, e, h⟩
theorem w_max2 (h : P (.int (if j > i then j else i))) : Got (oMax2 [.int i, .int j]) P := ⟨_, rfl, h⟩
theorem w_min2 (h : P (.int (if j < i then j else i))) : Got (oMin2 [.int i, .int j]) P := ⟨_, rfl, h⟩
theorem w_abs (h : P (.int (if i < 0 then -i else i))) : Got (oAbs [.int i]) P := ⟨_, rfl, h⟩
theorem w_listL (h : P (.lst xs)) : Got (oList [.lst xs]) P := ⟨_, rfl, h⟩
theorem w_listT (h : P (.lst xs)) : Got (oList [.tup xs]) P := ⟨_, rfl, h⟩
theorem w_tupleL (h : P (.tup xs)) : Got (oTuple [.lst xs]) P := ⟨_, rfl, h⟩
theorem w_tupleT (h : P (.tup xs)) : Got (oTuple [.tup xs]) P := ⟨_, rfl, h⟩
theorem w_sum {ns : List Int} (e : intsD xs = some ns) (h : P (.int ns.sum)) : Got (oSum [.lst xs]) P := ⟨.int ns.sum, by simp only [oSum, e]; rfl, h⟩
theorem kit_ib : kitB "int" "bool" = some false := by decide +kernel
theorem kit_ii : kitB "int" "int" = some true := by decide +kernel
theorem kit_it : kitB "int" "tuple" = some false := by decide +kernel
theorem kit_il : kitB "int" "list" = some false := by decide +kernel
theorem kit_is : kitB "int" "str" = some false := by decide +kernel
theorem kit_bb : kitB "bool" "bool" = some true := by decide +kernel
theorem kit_bi : kitB "bool" "int" = some true := by decide +kernel
theorem kit_bt : kitB "bool" "tuple" = some false := by decide +kernel
theorem kit_bl : kitB "bool" "list" = some false := by decide +kernel
theorem kit_bs : kitB "bool" "str" = some false := by decide +kernel
theorem kit_tt : kitB "tuple" "tuple" = some true := by decide +kernel
theorem kit_tb : kitB "tuple" "bool" = some false := by decide +kernel
theorem kit_ti : kitB "tuple" "int" = some false := by decide +kernel
theorem kit_tl : kitB "tuple" "list" = some false := by decide +kernel
theorem kit_ts : kitB "tuple" "str" = some false := by decide +kernel
theorem kit_ll : kitB "list" "list" = some true := by decide +kernel
theorem kit_lb : kitB "list" "bool" = some false := by decide +kernel
theorem kit_li : kitB "list" "int" = some false := by decide +kernel
theorem kit_lt : kitB "list" "tuple" = some false := by decide +kernel
theorem kit_ls : kitB "list" "str" = some false := by decide +kernel
theorem kit_ss : kitB "str" "str" = some true := by decide +kernel
theorem kit_sb : kitB "str" "bool" = some false := by decide +kernel
theorem kit_si : kitB "str" "int" = some false := by decide +kernel
theorem kit_st : kitB "str" "tuple" = some false := by decide +kernel
theorem kit_sl : kitB "str" "list" = some false := by decide +kernel
theorem kit_nb : kitB "NoneType" "bool" = some false := by decide +kernel
theorem kit_ni : kitB "NoneType" "int" = some false := by decide +kernel
theorem kit_nt : kitB "NoneType" "tuple" = some false := by decide +kernel
theorem kit_nl : kitB "NoneType" "list" = some false := by decide +kernel
theorem kit_ds : kitB "dict" "str" = some false := by decide +kernel
theorem kit_db : kitB "dict" "bool" = some false := by decide +kernel
theorem kit_di : kitB "dict" "int" = some false := by decide +kernel
theorem kit_dt : kitB "dict" "tuple" = some false := by decide +kernel
theorem kit_dl : kitB "dict" "list" = some false := by decide +kernel
def kitT (d : D) (c : String) : Option Bool := (tyD d).bind fun t => kitB t c
theorem kit_id : kitB "int" "dict" = some false := by decide +kernel
theorem kit_bd : kitB "bool" "dict" = some false := by decide +kernel
theorem kit_td : kitB "tuple" "dict" = some false := by decide +kernel
theorem kit_ld : kitB "list" "dict" = some false := by decide +kernel
theorem kit_sd : kitB "str" "dict" = some false := by decide +kernel
theorem kit_ns : kitB "NoneType" "str" = some false := by decide +kernel
theorem kit_nd : kitB "NoneType" "dict" = some false := by decide +kernel
theorem kit_dd : kitB "dict" "dict" = some true := by decide +kernel
theorem kt_ib {i : Int} : kitT (.int i) "bool" = some false := by show kitB "int" "bool" = _; exact kit_ib
theorem kt_ii {i : Int} : kitT (.int i) "int" = some true := by show kitB "int" "int" = _; exact kit_ii
theorem kt_it {i : Int} : kitT (.int i) "tuple" = some false := by show kitB "int" "tuple" = _; exact kit_it
theorem kt_il {i : Int} : kitT (.int i) "list" = some false := by show kitB "int" "list" = _; exact kit_il
theorem kt_is {i : Int} : kitT (.int i) "str" = some false := by show kitB "int" "str" = _; exact kit_is
theorem kt_id {i : Int} : kitT (.int i) "dict" = some false := by show kitB "int" "dict" = _; exact kit_id
theorem kt_bb {b : Bool} : kitT (.bl b) "bool" = some true := by show kitB "bool" "bool" = _; exact kit_bb
theorem kt_bi {b : Bool} : kitT (.bl b) "int" = some true := by show kitB "bool" "int" = _; exact kit_bi
theorem kt_bt {b : Bool} : kitT (.bl b) "tuple" = some false := by show kitB "bool" "tuple" = _; exact kit_bt
theorem kt_bl {b : Bool} : kitT (.bl b) "list" = some false := by show kitB "bool" "list" = _; exact kit_bl
theorem kt_bs {b : Bool} : kitT (.bl b) "str" = some false := by show kitB "bool" "str" = _; exact kit_bs
theorem kt_bd {b : Bool} : kitT (.bl b) "dict" = some false := by show kitB "bool" "dict" = _; exact kit_bd
theorem kt_tb {xs : List D} : kitT (.tup xs) "bool" = some false := by show kitB "tuple" "bool" = _; exact kit_tb
theorem kt_ti {xs : List D} : kitT (.tup xs) "int" = some false := by show kitB "tuple" "int" = _; exact kit_ti
theorem kt_tt {xs : List D} : kitT (.tup xs) "tuple" = some true := by show kitB "tuple" "tuple" = _; exact kit_tt
theorem kt_tl {xs : List D} : kitT (.tup xs) "list" = some false := by show kitB "tuple" "list" = _; exact kit_tl
theorem kt_ts {xs : List D} : kitT (.tup xs) "str" = some false := by show kitB "tuple" "str" = _; exact kit_ts
theorem kt_td {xs : List D} : kitT (.tup xs) "dict" = some false := by show kitB "tuple" "dict" = _; exact kit_td
theorem kt_lb {xs : List D} : kitT (.lst xs) "bool" = some false := by show kitB "list" "bool" = _; exact kit_lb
theorem kt_li {xs : List D} : kitT (.lst xs) "int" = some false := by show kitB "list" "int" = _; exact kit_li
theorem kt_lt {xs : List D} : kitT (.lst xs) "tuple" = some false := by show kitB "list" "tuple" = _; exact kit_lt
theorem kt_ll {xs : List D} : kitT (.lst xs) "list" = some true := by show kitB "list" "list" = _; exact kit_ll
theorem kt_ls {xs : List D} : kitT (.lst xs) "str" = some false := by show kitB "list" "str" = _; exact kit_ls
theorem kt_ld {xs : List D} : kitT (.lst xs) "dict" = some false := by show kitB "list" "dict" = _; exact kit_ld
theorem kt_sb {s : String} : kitT (.str s) "bool" = some false := by show kitB "str" "bool" = _; exact kit_sb
theorem kt_si {s : String} : kitT (.str s) "int" = some false := by show kitB "str" "int" = _; exact kit_si
theorem kt_st {s : String} : kitT (.str s) "tuple" = some false := by show kitB "str" "tuple" = _; exact kit_st
theorem kt_sl {s : String} : kitT (.str s) "list" = some false := by show kitB "str" "list" = _; exact kit_sl
theorem kt_ss {s : String} : kitT (.str s) "str" = some true := by show kitB "str" "str" = _; exact kit_ss
theorem kt_sd {s : String} : kitT (.str s) "dict" = some false := by show kitB "str" "dict" = _; exact kit_sd
theorem kt_nb  : kitT (.non) "bool" = some false := by show kitB "NoneType" "bool" = _; exact kit_nb
theorem kt_ni  : kitT (.non) "int" = some false := by show kitB "NoneType" "int" = _; exact kit_ni
theorem kt_nt  : kitT (.non) "tuple" = some false := by show kitB "NoneType" "tuple" = _; exact kit_nt
theorem kt_nl  : kitT (.non) "list" = some false := by show kitB "NoneType" "list" = _; exact kit_nl
theorem kt_ns  : kitT (.non) "str" = some false := by show kitB "NoneType" "str" = _; exact kit_ns
theorem kt_nd  : kitT (.non) "dict" = some false := by show kitB "NoneType" "dict" = _; exact kit_nd
theorem kt_db {ks : List Key} {ys : List D} : kitT (.dct ks ys) "bool" = some false := by show kitB "dict" "bool" = _; exact kit_db
theorem kt_di {ks : List Key} {ys : List D} : kitT (.dct ks ys) "int" = some false := by show kitB "dict" "int" = _; exact kit_di
theorem kt_dt {ks : List Key} {ys : List D} : kitT (.dct ks ys) "tuple" = some false := by show kitB "dict" "tuple" = _; exact kit_dt
theorem kt_dl {ks : List Key} {ys : List D} : kitT (.dct ks ys) "list" = some false := by show kitB "dict" "list" = _; exact kit_dl
theorem kt_ds {ks : List Key} {ys : List D} : kitT (.dct ks ys) "str" = some false := by show kitB "dict" "str" = _; exact kit_ds
theorem kt_dd {ks : List Key} {ys : List D} : kitT (.dct ks ys) "dict" = some true := by show kitB "dict" "dict" = _; exact kit_dd
theorem w_isi {c : String} {k : Bool} (e : kitT a c = some k) (h : P (.bl k)) : Got (oIsi [a, .ty c]) P := ⟨.bl k, by
  unfold kitT at e
  obtain ⟨t, e1, e2⟩ := Option.bind_eq_some_iff.mp e
  simp only [oIsi, e1, e2, Option.bind_some, Option.map_some], h⟩
end
/-! ### sizes of ints -/
def Bd (n : Nat) (i : Int) : Prop := i.natAbs < 2 ^ n
section
variable {i j : Int} {n m : Nat}
theorem Bd.mul (h : Bd n i) (k : Bd m j) : Bd (n + m) (i * j) := wide_lt h k
theorem Bd.add (h : Bd n i) (k : Bd m j) : Bd (n + m + 1) (i + j) := by
  unfold Bd at *
  have h1 : (2 : Nat) ^ n ≤ 2 ^ (n + m) := Nat.pow_le_pow_right (by omega) (by omega)
  have h2 : (2 : Nat) ^ m ≤ 2 ^ (n + m) := Nat.pow_le_pow_right (by omega) (by omega)
  have h3 : (2 : Nat) ^ (n + m + 1) = 2 ^ (n + m) * 2 := Nat.pow_succ ..
  omega
theorem Bd.neg (h : Bd n i) : Bd n (-i) := by unfold Bd at *; omega
theorem Bd.sub (h : Bd n i) (k : Bd m j) : Bd (n + m + 1) (i - j) := by
  rw [Int.sub_eq_add_neg]
  exact h.add k.neg
theorem Bd.mono (h : Bd n i) (k : n ≤ m) : Bd m i := Nat.lt_of_lt_of_le h (Nat.pow_le_pow_right (by omega) k)
theorem Bd.le {i j : Int} (h : Bd n j) (h0 : 0 ≤ i) (h1 : i ≤ j) : Bd n i := by unfold Bd at *; omega
theorem Bd.mod (hj : 0 < j) (h : Bd m j) : Bd m (i % j) := by
  have h1 := Int.emod_nonneg i (show j ≠ 0 by omega)
  have h2 := Int.emod_lt_of_pos i hj
  unfold Bd at *
  omega
theorem MuOk.of (h : Bd n i) (k : Bd m j) (hs : n + m < 100000000) : MuOk i j := by
  have x : i.natAbs.log2 ≤ n := by
    by_cases h0 : i.natAbs = 0
    · rw [h0]; exact Nat.zero_le _
    · exact Nat.le_of_lt ((Nat.log2_lt h0).mpr h)
  have y : j.natAbs.log2 ≤ m := by
    by_cases h0 : j.natAbs = 0
    · rw [h0]; exact Nat.zero_le _
    · exact Nat.le_of_lt ((Nat.log2_lt h0).mpr k)
  unfold MuOk
  omega
end
end Dy

set_option Elab.async false
set_option linter.all false
set_option maxRecDepth 100000
namespace Dy
open PySem PySem.Spec PyProof.Rows L2
/-! ### for the stepping words -/
section
variable {A B : Prop} {p : Prop} [Decidable p]
theorem k_tt (h : A) : Fork (true) A B := ⟨fun _ => h, fun z => by cases z⟩
theorem k_ff (h : B) : Fork (false) A B := ⟨fun z => (by cases z), fun _ => h⟩
theorem k_nt (h : B) : Fork ((!true)) A B := ⟨fun z => (by cases z), fun _ => h⟩
theorem k_nf (h : A) : Fork ((!false)) A B := ⟨fun _ => h, fun z => by cases z⟩
theorem k_dT (hp : p) (h : A) : Fork (decide p) A B := ⟨fun _ => h, fun z => absurd hp (of_decide_eq_false z)⟩
theorem k_dF (hp : ¬ p) (h : B) : Fork (decide p) A B := ⟨fun z => absurd (of_decide_eq_true z) hp, fun _ => h⟩
theorem k_d (h1 : p → A) (h2 : ¬ p → B) : Fork (decide p) A B := ⟨fun z => h1 (of_decide_eq_true z), fun z => h2 (of_decide_eq_false z)⟩
theorem k_ndT (hp : p) (h : B) : Fork ((!decide p)) A B := ⟨fun z => absurd hp (by simpa using z), fun _ => h⟩
theorem k_ndF (hp : ¬ p) (h : A) : Fork ((!decide p)) A B := ⟨fun _ => h, fun z => absurd (by simpa using z) hp⟩
theorem k_nd (h1 : ¬ p → A) (h2 : p → B) : Fork ((!decide p)) A B := ⟨fun z => h1 (by simpa using z), fun z => h2 (by simpa using z)⟩
theorem k_nndT (hp : p) (h : A) : Fork ((!(!decide p))) A B := ⟨fun _ => h, fun z => absurd hp (by simpa using z)⟩
theorem k_nndF (hp : ¬ p) (h : B) : Fork ((!(!decide p))) A B := ⟨fun z => absurd (by simpa using z) hp, fun _ => h⟩
theorem k_nnd (h1 : p → A) (h2 : ¬ p → B) : Fork ((!(!decide p))) A B := ⟨fun z => h1 (by simpa using z), fun z => h2 (by simpa using z)⟩
theorem k_any {k : Bool} (h1 : k = true → A) (h2 : k = false → B) : Fork k A B := ⟨h1, h2⟩
theorem ex_bl {b : Bool} {P : Bool → Prop} (h : P b) : HasB (.bl b) P := ⟨b, rfl, h⟩
theorem ex_int {b : Int} {P : Int → Prop} (h : P b) : HasI (.int b) P := ⟨b, rfl, h⟩
theorem ex_two {a b : D} {P : D → D → Prop} (h : P a b) : Has2 [a, b] P := ⟨a, b, rfl, h⟩
theorem g_ot {α : Type} {o : Option α} {a : α} {P : α → Prop} (e : o = some a) (h : P a) : Got o P := ⟨a, e, h⟩
theorem f_its {n : Nat} {A : Prop} (e : n ≤ sizeLine) (h : A) : Fits n A := ⟨e, h⟩
theorem g_rows {n : Nat} {A : Prop} (e : n < sizeLine) (h : A) : Grows n A := ⟨e, h⟩
theorem w_range1 {n : Int} {P : List D → Prop} (h : Sm n) (k : P (rangeD 0 n.toNat)) : Got (range1 [.int n]) P := ⟨_, by simp only [range1, if_pos h], k⟩
theorem w_range2 {m n : Int} {P : List D → Prop} (h : Sm m) (h2 : Sm n) (k : P (rangeD m (n - m).toNat)) : Got (range2 [.int m, .int n]) P := ⟨_, by simp only [range2, if_pos (And.intro h h2)], k⟩
end
/-! ### lists of ints -/
theorem atI_ints {ns : List Int} {k : Int} (h0 : 0 ≤ k) (h1 : k < ns.length) : ∃ x, x ∈ ns ∧ L2.atI (ns.map D.int) k = some (.int x) := by
  have hk : k.toNat < ns.length := by omega
  have q : (ns.map D.int)[k.toNat]? = some (.int ns[k.toNat]) := by rw [List.getElem?_map, List.getElem?_eq_getElem hk]; rfl
  have e : ((k.toNat : Nat) : Int) = k := by omega
  refine ⟨ns[k.toNat], List.getElem_mem hk, ?_⟩
  have z := atI_nat q
  rw [e] at z
  exact z
theorem eqD_lst_nil {xs : List D} : eqD (.lst xs) (.lst []) = xs.isEmpty := by
  cases xs with
  | nil => simp [eqD, D.py, pyL, PyData.eqv, PyData.eqvAll]
  | cons x r => simp [eqD, D.py, pyL, PyData.eqv, PyData.eqvAll]
theorem okq_ints {n : Nat} (ns : List Int) : okq (n + 1) (.lst (ns.map .int)) = true := by
  simp only [okq, List.all_map, List.all_eq_true]
  intro x _
  cases n <;> rfl
theorem len_ints (ns : List Int) : (ns.map D.int).length = ns.length := by simp
theorem w_eqNil {xs : List D} {P : D → Prop} (hq : okq 40 (.lst xs) = true) (h : P (.bl xs.isEmpty)) : Got (oEq (.lst xs) (.lst [])) P := w_eq hq rfl (by rw [eqD_lst_nil]; exact h)
theorem w_neNil {xs : List D} {P : D → Prop} (hq : okq 40 (.lst xs) = true) (h : P (.bl (!xs.isEmpty))) : Got (oNe (.lst xs) (.lst [])) P := w_ne hq rfl (by rw [eqD_lst_nil]; exact h)
theorem c_nil {b : D → REnv → Option REnv} {c : REnv → R Bool} {e : REnv → R D} {ρ : REnv} {P : List D → Prop} (h : P []) : Got (compS b c e [] ρ) P := ⟨[], rfl, h⟩
theorem c_cons {b : D → REnv → Option REnv} {c : REnv → R Bool} {e : REnv → R D} {ρ : REnv} {d : D} {ds : List D} {P : List D → Prop}
    (h : Got (b d ρ) fun ρ' => (c ρ').wp (fun k => Fork k ((e ρ').wp (fun v => Got (compS b c e ds ρ) fun r => P (v :: r)) NoE) (Got (compS b c e ds ρ) P)) NoE) : Got (compS b c e (d :: ds) ρ) P := by
  obtain ⟨ρ', e1, h⟩ := h
  obtain ⟨k, e2, h1, h2⟩ := h.ok
  cases k with
  | true =>
    obtain ⟨v, e3, r, e4, hp⟩ := (h1 rfl).ok
    exact ⟨v :: r, by simp only [compS, e1, e2, e3, e4, R.get, Option.bind_some, if_true], hp⟩
  | false =>
    obtain ⟨r, e4, hp⟩ := h2 rfl
    exact ⟨r, by simp only [compS, e1, e2, e4, R.get, Option.bind_some, Bool.false_eq_true, if_false], hp⟩
theorem wp_yes {ρ : REnv} {P : Bool → Prop} {E : D → Prop} (h : P true) : (eYes ρ).wp P E := h
/-! ### a thing equals itself -/
theorem eqvAll_refl : ∀ xs : List D, (∀ x ∈ xs, PyData.eqv x.py x.py = true) → PyData.eqvAll (pyL xs) (pyL xs) = true
  | [], _ => by simp [pyL, PyData.eqvAll]
  | x :: xs, h => by
    simp only [pyL, PyData.eqvAll, h x (List.mem_cons_self ..), Bool.true_and]
    exact eqvAll_refl xs fun y hy => h y (List.mem_cons_of_mem _ hy)
theorem eqD_refl : ∀ (n : Nat) (a : D), okq n a = true → eqD a a = true := by
  intro n
  induction n with
  | zero => intro a h; cases a <;> simp_all [okq, eqD, D.py, PyData.eqv]
  | succ n ih =>
    intro a h
    cases a with
    | tup xs =>
      simp only [eqD, D.py, PyData.eqv]
      exact eqvAll_refl xs fun x hx => ih x (List.all_eq_true.mp (by simpa [okq] using h) x hx)
    | lst xs =>
      simp only [eqD, D.py, PyData.eqv]
      exact eqvAll_refl xs fun x hx => ih x (List.all_eq_true.mp (by simpa [okq] using h) x hx)
    | _ => simp_all [okq, eqD, D.py, PyData.eqv]
theorem w_eqS {a b : D} {P : D → Prop} (e : a = b) (ha : okq 40 a = true) (h : P (.bl true)) : Got (oEq a b) P := by
  subst e
  exact w_eq ha ha (by rw [eqD_refl 40 a ha]; exact h)
theorem w_neS {a b : D} {P : D → Prop} (e : a = b) (ha : okq 40 a = true) (h : P (.bl false)) : Got (oNe a b) P := by
  subst e
  exact w_ne ha ha (by rw [eqD_refl 40 a ha]; exact h)
theorem tup3 {a b c d e f : Int} (h1 : a = d) (h2 : b = e) (h3 : c = f) : D.tup [.int a, .int b, .int c] = .tup [.int d, .int e, .int f] := by rw [h1, h2, h3]
theorem Bd.log {n : Nat} {j : Int} (h : Bd n j) (hn : n < 9000) : j.natAbs.log2 < 9000 := by
  by_cases h0 : j.natAbs = 0
  · rw [h0]; decide
  · exact Nat.lt_trans ((Nat.log2_lt h0).mpr h) hn
theorem Bd.lt {n : Nat} {i : Int} (h : 0 ≤ i) (h2 : i < 2 ^ n) : Bd n i := by
  unfold Bd
  have e : ((i.natAbs : Nat) : Int) = i := by omega
  have : ((i.natAbs : Nat) : Int) < ((2 ^ n : Nat) : Int) := by rw [e, Int.natCast_pow]; exact h2
  omega
theorem Bd.lit {n : Nat} {i : Int} (h : i.natAbs < 2 ^ n := by decide) : Bd n i := h
end Dy

set_option Elab.async false
set_option linter.all false
set_option maxRecDepth 100000
namespace Dy
open PySem PySem.Spec PyProof.Rows L2
/-! ### what is never reached -/
/-! ### range(a, b, c) -/
def rg3 (m n c : Int) : Prop := c ≠ 0 ∧ c.natAbs < 1073741824 ∧ Builtin.Range.small m n c = true ∧ 0 ≤ Builtin.Range.rangeSize m n c
instance (m n c : Int) : Decidable (rg3 m n c) := inferInstanceAs (Decidable (_ ∧ _))
def range3c : List D → Option (List D)
  | [.int m, .int n, .int c] => if rg3 m n c then some (rangeC m c (Builtin.Range.rangeSize m n c).toNat) else none
  | _ => none
theorem RepL.three {K : PySem.W.Frag} {F : Hp} {a b c : D} {vs : List V} (h : RepL K F [a, b, c] vs) : ∃ v w x, vs = [v, w, x] ∧ Rep K F a v ∧ Rep K F b w ∧ Rep K F c x := by
  simp only [RepL] at h
  obtain ⟨v, r, e, h1, w, r2, e2, h2, x, r3, e3, h3, h4⟩ := h
  subst h4
  subst e3
  subst e2
  exact ⟨v, w, x, e, h1, h2, h3⟩
/-- the turns' numbers: lo, lo + c, .., all below n -/
theorem w_range3 {m n c : Int} {P : List D → Prop} (hc : 0 < c ∧ c < 1000000) (hm : 0 ≤ m ∧ m < 1000000) (hn : 0 ≤ n ∧ n < 1000000) (k : P (rangeC m c (Builtin.Range.rangeSize m n c).toNat)) : Got (range3c [.int m, .int n, .int c]) P := by
  have z4 : 0 ≤ Builtin.Range.rangeSize m n c ∧ (Builtin.Range.rangeSize m n c ≤ 1000000 ∧ (Builtin.Range.rangeSize m n c) * c < 3000000) := by
    unfold Builtin.Range.rangeSize
    rw [if_pos (show c > 0 from hc.1)]
    by_cases h : m < n
    · rw [if_pos h]
      have h1 : 0 ≤ (n - m - 1) / c := Int.ediv_nonneg (by omega) (by omega)
      have h2 : (n - m - 1) / c ≤ n - m - 1 := Int.ediv_le_self _ (by omega)
      have h3 : (n - m - 1) / c * c ≤ n - m - 1 := Int.ediv_mul_le _ (by omega)
      rw [Int.add_mul, Int.one_mul]
      refine ⟨by omega, by omega, by omega⟩
    · rw [if_neg h]; refine ⟨by omega, by omega, by omega⟩
  refine ⟨_, by rw [range3c, if_pos ⟨by omega, by omega, ?_, z4.1⟩], k⟩
  unfold Builtin.Range.small
  generalize Builtin.Range.rangeSize m n c = q at *
  simp only [Builtin.Range.rangeFitsLong, Bool.and_eq_true, Bool.or_eq_true, decide_eq_true_eq, beq_iff_eq, show c > 0 from hc.1, if_true]
  have z5 : (q + 1) * c < 4000000 := by rw [Int.add_mul, Int.one_mul]; omega
  have z6 : (q - 1) * c < 4000000 := by rw [Int.sub_mul, Int.one_mul]; omega
  have z7 : 0 ≤ q * c := Int.mul_nonneg z4.1 (by omega)
  have z8 : -1000000 < (q - 1) * c := by rw [Int.sub_mul, Int.one_mul]; omega
  omega
theorem rangeD_get {m : Int} {n i : Nat} {d : D} (h : (rangeD m n)[i]? = some d) : d = .int (m + i) ∧ i < n := by
  obtain ⟨hi, e⟩ := List.getElem?_eq_some_iff.mp h
  have hi2 : i < n := by simpa [rangeD] using hi
  exact ⟨by rw [← e]; simp [rangeD], hi2⟩
end Dy

set_option Elab.async false
set_option linter.all false
set_option maxRecDepth 100000
namespace Dy
open PySem PySem.Spec PyProof.Rows L2
/-! ### whole numbers' divisors, and fractions -/
theorem gcd_fmod (a b : Int) : Int.gcd b (a.fmod b) = Int.gcd a b := by
  have h : a.fmod b = a - b * a.fdiv b := by have := Int.mul_fdiv_add_fmod a b; omega
  rw [h, Int.gcd_comm a b]
  have : a - b * a.fdiv b = a + b * (- a.fdiv b) := by rw [Int.mul_neg, Int.sub_eq_add_neg]
  rw [this]
  exact Int.gcd_add_mul_left_right ..
theorem fmod_lt (a b : Int) (h : b ≠ 0) : (a.fmod b).natAbs < b.natAbs := by
  rcases Int.lt_or_gt_of_ne h with h | h
  · have h1 := Int.fmod_eq_emod (a := a) (b := b)
    have := Int.emod_nonneg a (show b ≠ 0 by omega)
    have := Int.emod_lt_of_neg a h
    rw [h1]; split <;> omega
  · rw [Int.fmod_eq_emod_of_nonneg a (by omega)]
    have := Int.emod_nonneg a (show b ≠ 0 by omega)
    have := Int.emod_lt_of_pos a h
    omega
theorem ratio_num (a b : Int) (hb : b ≠ 0) : (Rat.divInt a b).num = if b < 0 then a.fdiv (-(Int.gcd a b : Int)) else a.fdiv (Int.gcd a b) := by
  have hg : 0 < Int.gcd a b := Int.gcd_pos_of_ne_zero_right a hb
  rw [Rat.num_divInt, Int.gcd_comm b a]
  by_cases h : b < 0
  · rw [if_pos h, Int.sign_eq_neg_one_of_neg h]
    obtain ⟨k, hk⟩ := Int.gcd_dvd_left a b
    generalize hgg : (Int.gcd a b : Int) = g at *
    have g0 : g ≠ 0 := by omega
    rw [hk]
    rw [show -1 * (g * k) = g * (-k) by grind, Int.mul_ediv_cancel_left _ g0, show g * k = (-g) * (-k) by grind, Int.mul_fdiv_cancel_left _ (by omega)]
  · rw [if_neg h, Int.sign_eq_one_of_pos (by omega), Int.one_mul, Int.fdiv_eq_ediv_of_nonneg _ (by omega)]
theorem ratio_den (a b : Int) (hb : b ≠ 0) : ((Rat.divInt a b).den : Int) = if b < 0 then b.fdiv (-(Int.gcd a b : Int)) else b.fdiv (Int.gcd a b) := by
  have hg : 0 < Int.gcd a b := Int.gcd_pos_of_ne_zero_right a hb
  rw [Rat.den_divInt, Int.gcd_comm b a, if_neg hb]
  have e : ((b.natAbs / Int.gcd a b : Nat) : Int) = (b.natAbs : Int) / (Int.gcd a b : Int) := by simp
  rw [e]
  by_cases h : b < 0
  · rw [if_pos h]
    obtain ⟨k, hk⟩ := Int.gcd_dvd_right a b
    have ea : (b.natAbs : Int) = -b := by omega
    rw [ea]
    generalize hgg : (Int.gcd a b : Int) = g at *
    have g0 : g ≠ 0 := by omega
    rw [hk]
    rw [show -(g * k) = g * (-k) by grind, Int.mul_ediv_cancel_left _ g0, show g * k = (-g) * (-k) by grind, Int.mul_fdiv_cancel_left _ (by omega)]
  · rw [if_neg h, Int.fdiv_eq_ediv_of_nonneg _ (by omega)]
    have ea : (b.natAbs : Int) = b := by omega
    rw [ea]
theorem divInt_add (a b : Rat) : Rat.divInt (a.num * b.den + b.num * a.den) (a.den * b.den) = a + b := by
  rw [Rat.add_def', ← Rat.divInt_ofNat]; simp
theorem divInt_sub (a b : Rat) : Rat.divInt (a.num * b.den - b.num * a.den) (a.den * b.den) = a - b := by
  rw [Rat.sub_def', ← Rat.divInt_ofNat]; simp
theorem divInt_mul (a b : Rat) : Rat.divInt (a.num * b.num) (a.den * b.den) = a * b := by
  rw [Rat.mul_def', ← Rat.divInt_ofNat]; simp
theorem divInt_div (a b : Rat) : Rat.divInt (a.num * b.den) (a.den * b.num) = a / b := by
  rw [Rat.div_def, Rat.inv_def]
  rw [← Rat.divInt_mul_divInt, Rat.num_divInt_den]
theorem den_ne (a : Rat) : (a.den : Int) ≠ 0 := by have := a.den_nz; omega
/-- cross products -/
theorem rat_cross {r : Rat} {p q : Int} (hq : q ≠ 0) (h : r = (p : Rat) / q) : r.num * q = p * r.den := by
  rw [← Rat.divInt_eq_div] at h
  have h2 : Rat.divInt r.num r.den = Rat.divInt p q := by rw [Rat.num_divInt_den]; exact h
  exact (Rat.divInt_eq_divInt_iff (den_ne r) hq).mp h2
theorem size_num (a b : Int) (hb : b ≠ 0) : (Rat.divInt a b).num.natAbs ≤ a.natAbs := by
  rw [Rat.num_divInt]
  have hs : (b.sign * a).natAbs = a.natAbs := by
    rw [Int.natAbs_mul, Int.natAbs_sign_of_ne_zero hb, Nat.one_mul]
  rw [← hs]
  exact Int.natAbs_ediv_le_natAbs ..
theorem size_den (a b : Int) (hb : b ≠ 0) : (Rat.divInt a b).den ≤ b.natAbs := by
  rw [Rat.den_divInt, if_neg hb]
  exact Nat.div_le_self ..

def rD (r : Rat) : D := .tup [.int r.num, .int r.den]
def RB (n m : Nat) (r : Rat) : Prop := Bd n r.num ∧ Bd m r.den
theorem Bd.addM {n m : Nat} {i j : Int} (h : Bd n i) (k : Bd m j) : Bd (max n m + 1) (i + j) := by
  have h1 := h.mono (Nat.le_max_left n m)
  have h2 := k.mono (Nat.le_max_right n m)
  unfold Bd at *
  have h3 : (2 : Nat) ^ (max n m + 1) = 2 ^ max n m * 2 := Nat.pow_succ ..
  omega
theorem Bd.subM {n m : Nat} {i j : Int} (h : Bd n i) (k : Bd m j) : Bd (max n m + 1) (i - j) := by
  rw [Int.sub_eq_add_neg]
  exact h.addM k.neg
theorem RB.of {n m : Nat} {a b : Int} (hb : b ≠ 0) (h : Bd n a) (k : Bd m b) : RB n m (Rat.divInt a b) :=
  ⟨Nat.lt_of_le_of_lt (size_num a b hb) h, Nat.lt_of_le_of_lt (size_den a b hb) k⟩
theorem den_mul_ne (a b : Rat) : (a.den : Int) * b.den ≠ 0 := Int.mul_ne_zero (den_ne a) (den_ne b)
section
variable {n m n' m' : Nat} {x y : Rat}
theorem RB.mono {k l : Nat} (h : RB n m x) (h1 : n ≤ k) (h2 : m ≤ l) : RB k l x := ⟨h.1.mono h1, h.2.mono h2⟩
theorem RB.add (h : RB n m x) (k : RB n' m' y) : RB (max (n + m') (n' + m) + 1) (m + m') (x + y) := by
  rw [← divInt_add]
  exact .of (den_mul_ne x y) ((h.1.mul k.2).addM (k.1.mul h.2)) (h.2.mul k.2)
theorem RB.sub (h : RB n m x) (k : RB n' m' y) : RB (max (n + m') (n' + m) + 1) (m + m') (x - y) := by
  rw [← divInt_sub]
  exact .of (den_mul_ne x y) ((h.1.mul k.2).subM (k.1.mul h.2)) (h.2.mul k.2)
theorem RB.mul (h : RB n m x) (k : RB n' m' y) : RB (n + n') (m + m') (x * y) := by
  rw [← divInt_mul]
  exact .of (den_mul_ne x y) (h.1.mul k.1) (h.2.mul k.2)
theorem RB.div (hy : y ≠ 0) (h : RB n m x) (k : RB n' m' y) : RB (n + m') (m + n') (x / y) := by
  rw [← divInt_div]
  exact .of (Int.mul_ne_zero (den_ne x) fun z => hy (Rat.num_eq_zero.mp z)) (h.1.mul k.2) (h.2.mul k.1)
theorem RB.int {i : Int} (h : Bd n i) : RB n 1 (i : Rat) := ⟨h, by show Bd 1 ((1 : Nat) : Int); exact Bd.lit (by decide)⟩
theorem RB.frac {a b : Int} (hb : b ≠ 0) (h : Bd n a) (k : Bd m b) : RB n m ((a : Rat) / b) := by
  rw [← Rat.divInt_eq_div]
  exact .of hb h k
end
theorem rD_inj {x y : Rat} : (rD x = rD y) = (x = y) := by
  apply propext
  constructor
  · intro h
    simp only [rD, D.tup.injEq, List.cons.injEq, D.int.injEq, and_true] at h
    exact Rat.ext h.1 (by omega)
  · intro h; rw [h]
section
variable {P : D → Prop} {i j : Int} {a b : D}
theorem w_modG (hj : j ≠ 0) (h : P (.int (i.fmod j))) : Got (oMod (.int i) (.int j)) P := ⟨.int (i.fmod j), by simp only [oMod, oII, if_pos hj], h⟩
theorem w_divG (hj : j ≠ 0) (hl : j.natAbs.log2 < 9000) (h : P (.int (i.fdiv j))) : Got (oDiv (.int i) (.int j)) P := ⟨.int (i.fdiv j), by simp only [oDiv, oII, if_pos (show DivOk j from ⟨hj, hl⟩)], h⟩
end
theorem sl2 {α : Type} {xs : List α} (h : xs.length = 2) : ∃ a0 a1, xs = [a0, a1] := match xs, h with
  | [a0, a1], _ => ⟨a0, a1, rfl⟩
end Dy

set_option Elab.async false
set_option linter.all false
set_option maxRecDepth 100000
namespace Dy
open PySem PySem.Spec PyProof.Rows L2
/-! ### the slots are kept written out -/
def Upd (ρ : REnv) (i : Nat) (s : Sl) (N : REnv → Prop) : Prop := N (ρ.set i s)
def Wipe (ρ : REnv) (vs : List Nat) (N : REnv → Prop) : Prop := N (wipeE ρ vs)
theorem upd_step {ρ ρ' : REnv} {i : Nat} {s : Sl} {N : REnv → Prop} (e : ρ.set i s = ρ') (h : N ρ') : Upd ρ i s N := by unfold Upd; rw [e]; exact h
theorem wipe_nil {ρ : REnv} {N : REnv → Prop} (h : N ρ) : Wipe ρ [] N := h
theorem wipe_cons {ρ : REnv} {v : Nat} {vs : List Nat} {N : REnv → Prop} (h : Wipe ρ vs fun ρ' => Upd ρ' v .un N) : Wipe ρ (v :: vs) N := h
section
variable {ρ : REnv} {N : REnv → Prop} {T : D → Prop} {E : D → REnv → Prop} {g h : REnv → SR} {f : REnv → R D} {u : REnv → R Bool} {t : REnv → R (List D)}
theorem sp_setU {i : Nat} (h : (f ρ).wp (fun d => Upd ρ i (.val d) N) (fun e => E e ρ)) : (sSet i f ρ).wp N T E := sp_set h
theorem sp_parU {i j : Nat} (h : (t ρ).wp (fun ds => Has2 ds fun a b => Upd ρ i (.val a) fun ρ' => Upd ρ' j (.val b) N) (fun e => E e ρ)) : (sPar i j t ρ).wp N T E := sp_par h
theorem sp_ownU {i : Nat} (h : (t ρ).wp (fun ds => Fits ds.length (Upd ρ i (.own ds) N)) (fun e => E e ρ)) : (sOwn i t ρ).wp N T E := sp_own h
theorem sp_appU {i : Nat} {ds : List D} (e : ρ[i]? = some (.own ds)) (h : (f ρ).wp (fun d => Grows ds.length (Upd ρ i (.own (ds ++ [d])) N)) (fun e => E e ρ)) : (sApp i f ρ).wp N T E := sp_app e h
theorem sp_frO {i : Nat} {ds : List D} (e : ρ[i]? = some (.own ds)) (h : Upd ρ i (.val (.lst ds)) fun ρ' => (g ρ').wp N T E) : (sFreeze i g ρ).wp N T E := by
  unfold sFreeze eFreeze
  rw [e]
  exact h
theorem sp_frV {i : Nat} {d : D} (e : ρ[i]? = some (.val d)) (h : (g ρ).wp N T E) : (sFreeze i g ρ).wp N T E := by
  unfold sFreeze eFreeze
  rw [e]
  exact h
theorem sp_frU {i : Nat} (e : ρ[i]? = some .un) (h : (g ρ).wp N T E) : (sFreeze i g ρ).wp N T E := by
  unfold sFreeze eFreeze
  rw [e]
  exact h
theorem w_bName {i : Nat} {d : D} (h : Upd ρ i (.val d) N) : Got (bName i d ρ) N := ⟨_, rfl, h⟩
theorem w_bNil (h : N ρ) : Got (bNil [] ρ) N := ⟨_, rfl, h⟩
theorem w_bCons {b : D → REnv → Option REnv} {c : List D → REnv → Option REnv} {d : D} {r : List D} (h : Got (b d ρ) fun ρ' => Got (c r ρ') N) : Got (bCons b c (d :: r) ρ) N := by
  obtain ⟨ρ', e, ρ'', e2, h⟩ := h
  exact ⟨ρ'', by unfold bCons; simp only [e, Option.bind_some, e2], h⟩
theorem w_bSeqT {n : Nat} {c : List D → REnv → Option REnv} {xs : List D} (hl : xs.length = n) (h : Got (c xs ρ) N) : Got (bSeq n c (.tup xs) ρ) N := by
  obtain ⟨ρ', e, h⟩ := h
  exact ⟨ρ', by unfold bSeq; simp only [hl, if_true, e], h⟩
theorem w_bSeqL {n : Nat} {c : List D → REnv → Option REnv} {xs : List D} (hl : xs.length = n) (h : Got (c xs ρ) N) : Got (bSeq n c (.lst xs) ρ) N := by
  obtain ⟨ρ', e, h⟩ := h
  exact ⟨ρ', by unfold bSeq; simp only [hl, if_true, e], h⟩
theorem wp_compU {E : D → Prop} {P : D → Prop} {vs : List Nat} {fi : REnv → R (List D)} {b : D → REnv → Option REnv} {c : REnv → R Bool} {e : REnv → R D} (h : (fi ρ).wp (fun ds => Fits ds.length (Wipe ρ vs fun ρ' => Got (compS b c e ds ρ') fun rs => P (.lst rs))) E) : (eComp vs fi b c e ρ).wp P E := wp_comp h
end
theorem wp_fnU {n m : Nat} {ds : List D} {g : REnv → SR} {ρ0 : REnv} {P : D → Prop} {E : D → Prop} (hl : ds.length = n) (e : ds.map .val ++ List.replicate (m - n) .un = ρ0) (h : (g ρ0).wp (fun _ => P .non) P (fun e _ => E e)) : (fnD n m g ds).wp P E := wp_fn hl (by rw [e]; exact h)
section
variable {ρ : REnv} {N : REnv → Prop} {T : D → Prop} {E : D → REnv → Prop} {g : REnv → SR} {b : D → REnv → Option REnv} {d : D} {ds : List D}
theorem fs_nil (h : N ρ) : (forS b g [] ρ).wp N T E := by unfold forS; exact h
theorem fs_cons (h : Got (b d ρ) fun ρ' => (g ρ').wp (fun ρ'' => (forS b g ds ρ'').wp N T E) T E) : (forS b g (d :: ds) ρ).wp N T E := by
  obtain ⟨ρ', e1, h1⟩ := h
  unfold forS
  rw [e1]
  show ((g ρ').seq (forS b g ds)).wp N T E
  exact sp_seq (g := g) (h := forS b g ds) h1
end
section
variable {ρ : REnv} {P : D → Prop} {x y : Rat}
theorem w_ixR0 (h : P (.int x.num)) : Got (oIx (rD x) (.int 0)) P := w_ixT rfl h
theorem w_ixR1 (h : P (.int x.den)) : Got (oIx (rD x) (.int 1)) P := w_ixT rfl h
theorem w_lenR (h : P (.int 2)) : Got (oLen [rD x]) P := w_lenT h
theorem kt_rt : kitT (rD x) "tuple" = some true := kt_tt
theorem kt_rb : kitT (rD x) "bool" = some false := kt_tb
theorem kt_ri : kitT (rD x) "int" = some false := kt_ti
theorem kt_rl : kitT (rD x) "list" = some false := kt_tl
theorem w_iterR {P : List D → Prop} (h : P [.int x.num, .int x.den]) : Got (iterD (rD x)) P := g_ot rfl h
theorem w_bSeqR {c : List D → REnv → Option REnv} {N : REnv → Prop} (h : Got (c [.int x.num, .int x.den] ρ) N) : Got (bSeq 2 c (rD x) ρ) N := w_bSeqT rfl h
theorem eqD_rat : eqD (rD x) (rD y) = decide (x = y) := by
  have e : eqD (rD x) (rD y) = (eqD (.int x.num) (.int y.num) && eqD (.int x.den) (.int y.den)) := by
    simp [rD, eqD, D.py, pyL, PyData.eqv, PyData.eqvAll]
  rw [e, eqD_int, eqD_int]
  by_cases h : x = y
  · subst h; simp
  · have : ¬ (x.num = y.num ∧ (x.den : Int) = y.den) := fun z => h (Rat.ext z.1 (by omega))
    simp only [h, decide_false]
    by_cases h1 : x.num = y.num
    · have h2 : ¬ ((x.den : Int) = y.den) := fun z => this ⟨h1, z⟩
      simp only [h2, decide_false, Bool.and_false]
    · simp only [h1, decide_false, Bool.false_and]
theorem okq_rat : okq 40 (rD x) = true := rfl
theorem w_eqR (h : P (.bl (decide (x = y)))) : Got (oEq (rD x) (rD y)) P := w_eq okq_rat okq_rat (by rw [eqD_rat]; exact h)
theorem w_neR (h : P (.bl (!decide (x = y)))) : Got (oNe (rD x) (rD y)) P := w_ne okq_rat okq_rat (by rw [eqD_rat]; exact h)
end
theorem RB.n {n m : Nat} {x : Rat} (h : RB n m x) : Bd n x.num := h.1
theorem RB.d {n m : Nat} {x : Rat} (h : RB n m x) : Bd m x.den := h.2
theorem cross_of {r : Rat} {p q : Int} (hq : q ≠ 0) (h : Rat.divInt p q = r) : r.num * q = p * r.den := rat_cross hq (by rw [← h, Rat.divInt_eq_div])
/-! ### triples -/
abbrev t3 (a b c : Int) : D := .tup [.int a, .int b, .int c]
def T3 (n : Nat) (d : D) : Prop := ∃ a b c, d = t3 a b c ∧ Bd n a ∧ Bd n b ∧ Bd n c
theorem T3.mk {n : Nat} {a b c : Int} (ha : Bd n a) (hb : Bd n b) (hc : Bd n c) : T3 n (t3 a b c) := ⟨a, b, c, rfl, ha, hb, hc⟩
section
variable {P : D → Prop} {a b c d e f : Int}
theorem eqD_t3 : eqD (t3 a b c) (t3 d e f) = decide (a = d ∧ b = e ∧ c = f) := by
  have z : eqD (t3 a b c) (t3 d e f) = (eqD (.int a) (.int d) && (eqD (.int b) (.int e) && eqD (.int c) (.int f))) := by
    simp [eqD, D.py, pyL, PyData.eqv, PyData.eqvAll]
  rw [z, eqD_int, eqD_int, eqD_int]
  simp only [Bool.decide_and]
theorem w_eq3 (h : P (.bl (decide (a = d ∧ b = e ∧ c = f)))) : Got (oEq (.tup [.int a, .int b, .int c]) (.tup [.int d, .int e, .int f])) P := w_eq rfl rfl (by rw [show eqD _ _ = _ from eqD_t3]; exact h)
theorem w_ne3 (h : P (.bl (!decide (a = d ∧ b = e ∧ c = f)))) : Got (oNe (.tup [.int a, .int b, .int c]) (.tup [.int d, .int e, .int f])) P := w_ne rfl rfl (by rw [show eqD _ _ = _ from eqD_t3]; exact h)
theorem w_rng3 {P : List D → Prop} (h : P [.int 0, .int 1, .int 2]) : Got (range1 [.int 3]) P := g_ot rfl h
theorem w_zip3 {P : List D → Prop} {a b c d e f : D} (h : P [.tup [a, d], .tup [b, e], .tup [c, f]]) : Got (zip2 [.tup [a, b, c], .tup [d, e, f]]) P := g_ot rfl h
theorem w_sum3 (h : P (.int (a + b + c))) : Got (oSum [.lst [.int a, .int b, .int c]]) P := w_sum rfl (by rw [show [a, b, c].sum = a + b + c by simp; omega]; exact h)
end
theorem w_ixAll {xs : List D} {k : Int} {P : D → Prop} (Q : D → Prop) (h0 : 0 ≤ k) (h1 : k < xs.length) (hq : ∀ d ∈ xs, Q d) (h : ∀ d, Q d → P d) : Got (oIx (.lst xs) (.int k)) P := by
  have hk : k.toNat < xs.length := by omega
  have z := atI_nat (List.getElem?_eq_getElem hk)
  have e : ((k.toNat : Nat) : Int) = k := by omega
  rw [e] at z
  exact w_ixL z (h _ (hq _ (List.getElem_mem hk)))
theorem RB.zero : RB 1 1 0 := ⟨Bd.lit (by decide), Bd.lit (by decide)⟩
theorem RB.one : RB 1 1 1 := ⟨Bd.lit (by decide), Bd.lit (by decide)⟩
theorem decide_t {p : Prop} [Decidable p] (h : p) : decide p = true := decide_eq_true h
theorem decide_f {p : Prop} [Decidable p] (h : ¬ p) : decide p = false := decide_eq_false h
end Dy

set_option Elab.async false
set_option linter.all false
set_option maxRecDepth 100000
namespace Dy
open PySem PySem.Spec PyProof.Rows L2
section
variable {P : D → Prop} {x y z x' y' z' : Rat}
theorem eqD_pair {a b c d : D} : eqD (.tup [a, b]) (.tup [c, d]) = (eqD a c && eqD b d) := by
  simp [eqD, D.py, pyL, PyData.eqv, PyData.eqvAll]
theorem eqD_three {a b c a' b' c' : D} : eqD (.tup [a, b, c]) (.tup [a', b', c']) = (eqD a a' && (eqD b b' && eqD c c')) := by
  simp [eqD, D.py, pyL, PyData.eqv, PyData.eqvAll]
theorem w_eqRR (h : P (.bl (decide (x = x' ∧ y = y')))) : Got (oEq (.tup [rD x, rD y]) (.tup [rD x', rD y'])) P := w_eq rfl rfl (by rw [eqD_pair, eqD_rat, eqD_rat, ← Bool.decide_and]; exact h)
theorem w_neRR (h : P (.bl (!decide (x = x' ∧ y = y')))) : Got (oNe (.tup [rD x, rD y]) (.tup [rD x', rD y'])) P := w_ne rfl rfl (by rw [eqD_pair, eqD_rat, eqD_rat, ← Bool.decide_and]; exact h)
theorem w_eqRRR (h : P (.bl (decide (x = x' ∧ y = y' ∧ z = z')))) : Got (oEq (.tup [rD x, rD y, rD z]) (.tup [rD x', rD y', rD z'])) P := w_eq rfl rfl (by rw [eqD_three, eqD_rat, eqD_rat, eqD_rat, ← Bool.decide_and, ← Bool.decide_and]; exact h)
theorem w_neRRR (h : P (.bl (!decide (x = x' ∧ y = y' ∧ z = z')))) : Got (oNe (.tup [rD x, rD y, rD z]) (.tup [rD x', rD y', rD z'])) P := w_ne rfl rfl (by rw [eqD_three, eqD_rat, eqD_rat, eqD_rat, ← Bool.decide_and, ← Bool.decide_and]; exact h)
end
theorem rdiv_eq {a c : Rat} {b d : Int} (hb : b ≠ 0) (hd : d ≠ 0) (h : a * (d : Rat) = c * (b : Rat)) : a / (b : Rat) = c / (d : Rat) := by
  have h1 : (b : Rat) ≠ 0 := fun e => hb (Rat.intCast_eq_zero_iff.mp e)
  have h2 : (d : Rat) ≠ 0 := fun e => hd (Rat.intCast_eq_zero_iff.mp e)
  grind
theorem rdiv_eqD {a : Rat} {b d c : Int} (hb : b ≠ 0) (hd : d ≠ 0) (h : a * (d : Rat) = (c : Rat) * (b : Rat)) : a / (b : Rat) = Rat.divInt c d := by
  rw [Rat.divInt_eq_div]
  exact rdiv_eq hb hd h
theorem rcast_ne {b : Int} (hb : b ≠ 0) : (b : Rat) ≠ 0 := fun e => hb (Rat.intCast_eq_zero_iff.mp e)
theorem due_eq {t0 t1 t2 k0 k1 k2 X0 X1 X2 W b : Int} (hW : W ≠ 0) (hb : b ≠ 0) :
    ((Rat.divInt t0 b - (k0 : Rat)) * (X0 : Rat) + (Rat.divInt t1 b - (k1 : Rat)) * (X1 : Rat) + (Rat.divInt t2 b - (k2 : Rat)) * (X2 : Rat)) / (W : Rat)
      = Rat.divInt ((t0 + -1 * (k0 * b)) * X0 + (t1 + -1 * (k1 * b)) * X1 + (t2 + -1 * (k2 * b)) * X2) (W * b) := by
  have hbR := rcast_ne hb
  refine rdiv_eqD hW (Int.mul_ne_zero hW hb) ?_
  simp only [Rat.divInt_eq_div, Rat.intCast_add, Rat.intCast_sub, Rat.intCast_mul, Rat.intCast_neg, Rat.intCast_one]
  generalize (X0 : Rat) = X0
  generalize (X1 : Rat) = X1
  generalize (X2 : Rat) = X2
  generalize (W : Rat) = W
  grind
theorem due_eq_neg {t0 t1 t2 k0 k1 k2 X0 X1 X2 W b Y0 Y1 Y2 V : Int} (hV : V ≠ 0) (hb : b ≠ 0) (h0 : Y0 = -X0) (h1 : Y1 = -X1) (h2 : Y2 = -X2) (h3 : V = -W) :
    ((Rat.divInt t0 b - (k0 : Rat)) * (Y0 : Rat) + (Rat.divInt t1 b - (k1 : Rat)) * (Y1 : Rat) + (Rat.divInt t2 b - (k2 : Rat)) * (Y2 : Rat)) / (V : Rat)
      = Rat.divInt ((t0 + -1 * (k0 * b)) * X0 + (t1 + -1 * (k1 * b)) * X1 + (t2 + -1 * (k2 * b)) * X2) (W * b) := by
  have hW : W ≠ 0 := by omega
  rw [← due_eq hW hb]
  subst h0 h1 h2 h3
  simp only [Rat.intCast_neg]
  grind
theorem kt_zb {s : Str} : kitT (.str s) "bool" = some false := by show kitB "str" "bool" = _; exact kit_sb
theorem kt_zi {s : Str} : kitT (.str s) "int" = some false := by show kitB "str" "int" = _; exact kit_si
theorem kt_zt {s : Str} : kitT (.str s) "tuple" = some false := by show kitB "str" "tuple" = _; exact kit_st
theorem kt_zl {s : Str} : kitT (.str s) "list" = some false := by show kitB "str" "list" = _; exact kit_sl
theorem kt_zs {s : Str} : kitT (.str s) "str" = some true := by show kitB "str" "str" = _; exact kit_ss
theorem kt_zd {s : Str} : kitT (.str s) "dict" = some false := by show kitB "str" "dict" = _; exact kit_sd
end Dy

set_option Elab.async false
set_option linter.all false
set_option maxRecDepth 100000
namespace Dy
open PySem PySem.Spec PyProof.Rows L2
/-- min(a, b, c) of three ints -/
def oMin3 : List D → Option D
  | [.int i, .int j, .int k] => some (.int (if k < (if j < i then j else i) then k else (if j < i then j else i)))
  | _ => none
theorem w_min3 {i j k : Int} {P : D → Prop} (h : P (.int (if k < (if j < i then j else i) then k else (if j < i then j else i)))) : Got (oMin3 [.int i, .int j, .int k]) P := ⟨_, rfl, h⟩
end Dy

set_option Elab.async false
set_option linter.all false
set_option maxRecDepth 100000
namespace Dy
open PySem PySem.Spec PyProof.Rows L2
/-! ### refusals -/
/-- what is known of a class of refusals -/
structure ExcC (K : PySem.W.Frag) (mg : Str → Option Value) (c : Str) : Prop where
  ref : mg c = some (.ref (He.ga K c))
  q : PySem.W.excIn K (He.ga K c) He.veBase "ValueError.__new__" = true
  keep : PySem.W.keepIn K (.ref (He.ga K c)) = true
  sub : PySem.W.subIn K (.ref (He.ga K c)) (.type "BaseException") = some true
  ty : PySem.W.typeIn K (.ref (He.ga K c)) = some (.type "type")
def sRaise (c : Str) : REnv → SR := fun ρ => .err (.exc c [] []) ρ
theorem ss_raise0 {X : Cx} {W : WX} {c m : Str} {j : Nat} {p p2 pos' pos : Pos} (E : ExcC X.K X.mg c) (hc : X.calm = true) (tk : Takes X W) (hg : Gl X c := by rfl) (hdb : (c == ("__debug__" : Str)) = false := by decide) :
    SS X W (.Raise (some (.Call (.Name c p) [.Constant (.str m) j p2] [] pos')) none pos) (sRaise c) :=
  (ps_raise hc tk (pmk_own PySem.F.excBase_ValueError E.q E.ref E.keep (raises_own E.sub E.ty) hg hdb)).dy fun D σ H ⟨G, F, ρ, r, p⟩ =>
    p σ F H _ none (.refl _) .refl r ⟨c, [], [], [], rfl, rfl, rfl, RepL.nil, rfl⟩
theorem sp_raise {c : Str} {ρ : REnv} {N : REnv → Prop} {T : D → Prop} {E : D → REnv → Prop} (h : E (.exc c [] []) ρ) : (sRaise c ρ).wp N T E := h
end Dy

set_option Elab.async false
set_option linter.all false
set_option maxRecDepth 100000
namespace Dy
open PySem PySem.Spec PyProof.Rows L2
/-! ### own lists, read and kept as one's own -/
/-- a test over the slots with x frozen; behind it x is as it was -/
def uPeek (i : Nat) (u : REnv → R Bool) : REnv → R Bool := fun ρ => match u (eFreeze i ρ) with
  | .ok b => .ok b
  | _ => .bad
/-- the same of an expression that gives a whole number or a truth -/
def ePeek (i : Nat) (f : REnv → R D) : REnv → R D := fun ρ => match f (eFreeze i ρ) with
  | .ok (.int n) => .ok (.int n)
  | .ok (.bl b) => .ok (.bl b)
  | _ => .bad
theorem RepE.frz {K : PySem.W.Frag} {G F H : Hp} {σ : St} {ρ : REnv} (r : RepE K G F H σ ρ) (i : Nat) : ∃ F1, Same F F1 ∧ RepE K G F1 H σ (eFreeze i ρ) := by
  unfold eFreeze
  cases q : ρ[i]? with
  | none => exact ⟨F, .refl _, r⟩
  | some s =>
    cases s with
    | own ds =>
      obtain ⟨F', s1, n1, r1⟩ := r.freeze q
      exact ⟨F', s1, r1⟩
    | tree o =>
      obtain ⟨F', s1, n1, r1⟩ := r.freezeT q
      exact ⟨F', s1, r1⟩
    | pin w o =>
      obtain ⟨F', s1, n1, r1⟩ := r.freezeP q
      exact ⟨F', s1, r1⟩
    | _ => exact ⟨F, .refl _, r⟩
theorem st_peek {X : Cx} {W : WX} {c : Expr} {u : REnv → R Bool} (i : Nat) (h : ST X W c u) : ST X W c (uPeek i u) := PT.dy h fun σ H Q ⟨G, F, ρ, r, p⟩ => by
  obtain ⟨F1, s1, r1⟩ := r.frz i
  refine ⟨G, F1, _, r1, ?_⟩
  unfold uPeek at p
  cases e : u (eFreeze i ρ) with
  | ok b =>
    rw [e] at p
    exact fun v F2 H2 ex rel => p v F H2 ⟨.refl _, ex.h, s1.trans (ex.f.trans ex.s), fun a o h1 h2 => by rw [h2] at h1; cases h1⟩ rel
  | err d => rw [e] at p; exact p.elim
  | bad => rw [e] at p; exact p.elim
theorem se_peek {X : Cx} {W : WX} {c : Expr} {f : REnv → R D} (i : Nat) (h : SE X W c f) : SE X W c (ePeek i f) := PE.dy h fun σ H Q ⟨G, F, ρ, r, p⟩ => by
  obtain ⟨F1, s1, r1⟩ := r.frz i
  refine ⟨G, F1, _, r1, ?_⟩
  unfold ePeek at p
  split at p
  · rename_i n e
    rw [e]
    exact fun v F2 H2 ex rel => p v F H2 ⟨.refl _, ex.h, s1.trans (ex.f.trans ex.s), fun a o h1 h2 => by rw [h2] at h1; cases h1⟩ (by rw [rel.int_inv]; exact Rep.mk_int)
  · rename_i b e
    rw [e]
    exact fun v F2 H2 ex rel => p v F H2 ⟨.refl _, ex.h, s1.trans (ex.f.trans ex.s), fun a o h1 h2 => by rw [h2] at h1; cases h1⟩ (by rw [rel.bl_inv]; exact Rep.mk_bl)
  · exact p.elim
def Sc (d : D) (P : D → Prop) : Prop := (∃ n, d = D.int n ∧ P (D.int n)) ∨ ∃ b, d = D.bl b ∧ P (D.bl b)
theorem sc_int {n : Int} {P : D → Prop} (h : P (.int n)) : Sc (.int n) P := .inl ⟨n, rfl, h⟩
theorem sc_bl {b : Bool} {P : D → Prop} (h : P (.bl b)) : Sc (.bl b) P := .inr ⟨b, rfl, h⟩
section
variable {ρ : REnv} {i : Nat} {ds : List D} {E : D → Prop}
theorem wp_uPeek {u : REnv → R Bool} {P : Bool → Prop} (e : ρ[i]? = some (.own ds)) (h : Upd ρ i (.val (.lst ds)) fun ρ' => (u ρ').wp P NoE) : (uPeek i u ρ).wp P E := by
  unfold Upd at h
  obtain ⟨b, e1, hp⟩ := h.ok
  unfold uPeek eFreeze
  rw [e]
  show (match u (ρ.set i (.val (.lst ds))) with | .ok b => R.ok b | _ => .bad).wp P E
  rw [e1]; exact hp
theorem wp_ePeek {f : REnv → R D} {P : D → Prop} (e : ρ[i]? = some (.own ds)) (h : Upd ρ i (.val (.lst ds)) fun ρ' => (f ρ').wp (fun d => Sc d P) NoE) : (ePeek i f ρ).wp P E := by
  unfold Upd at h
  obtain ⟨d, e1, hp⟩ := h.ok
  have e2 : eFreeze i ρ = ρ.set i (.val (.lst ds)) := by unfold eFreeze; rw [e]
  unfold ePeek
  rw [e2, e1]
  rcases hp with ⟨n, rfl, hp⟩ | ⟨b, rfl, hp⟩
  · exact hp
  · exact hp
end
/-- x[e], x one's own list -/
def eIxO (i : Nat) (g : REnv → R D) : REnv → R D := fun ρ => match ρ[i]? with
  | some (.own ds) => (g ρ).bind fun d => match d with
    | .int k => .opt (L2.atI ds k)
    | _ => .bad
  | _ => .bad
theorem se_ixO {X : Cx} {W : WX} {b : Expr} {g : REnv → R D} {x : Str} {np pos : Pos} (i : Nat) (hb : SE X W b g) (hN : X.N[i]? = some x := by rfl) (hv : Vis X.env.scope x := by first | exact Or.inl rfl | exact Or.inr (Or.inl rfl) | exact Or.inr (Or.inr rfl)) (hd : (x == ("__debug__" : Str)) = false := by decide) (hcd : (x == ("__classdict__" : Str)) = false := by decide) (hs : PlainIx b := by exact fun _ _ => rfl) :
    SE X W (.Subscript (.Name x np) b pos) (eIxO i g) :=
  (pe_ix ix_seq (pe_var hN hv hd hcd) hb hs).dy fun σ H Q ⟨G, F, ρ, r, p⟩ => by
    unfold eIxO at p
    split at p
    · rename_i ds z
      obtain ⟨a, vs, h1, h2, h3⟩ := own_at r z
      refine ⟨.ref a, h1, G, F, ρ, r, Post.bind p fun d w F' H' _ ex rd p' => ?_⟩
      cases d with
      | int k =>
        obtain ⟨d', e4, q⟩ := Post.opt p'
        obtain ⟨v, e5, rv⟩ := (RepL.mono ex.f _ _ h3).atI e4
        exact .inl ⟨a, vs, k, v, rfl, rd.int_inv, SqL.of (ex.h _ _ h2), e5, q _ F' H' (.refl ex.s) rv⟩
      | _ => exact p'.elim
    · exact p.elim
theorem wp_ixO {ρ : REnv} {i : Nat} {ds : List D} {g : REnv → R D} {P E : D → Prop} (e : ρ[i]? = some (.own ds)) (h : (g ρ).wp (fun d => HasI d fun k => Got (L2.atI ds k) P) E) : (eIxO i g ρ).wp P E := by
  unfold eIxO
  rw [e]
  refine wp_bind (h.post ?_)
  rintro _ ⟨k, rfl, h⟩
  exact wp_opt h
end Dy

set_option Elab.async false
set_option linter.all false
set_option maxRecDepth 100000
set_option maxHeartbeats 2000000
namespace Dy
open PySem PySem.Spec PyProof.Rows L2
/-! ### an exception caught and kept -/
section
variable {X : Cx} {pins : List (Addr × Obj)} {σ : St} {H : Hp} {sI s : Shared} {B : Heap} {a : Addr} {cls : Value} {d : Option Addr}
theorem xo_ok {P : Program} {w : World} {h : Heap} {oe : Obj} {vs : Array Value} (he : h.get? a = some oe) (hz : Zc cls d oe) (hd : oe.data = .fields vs) : ObjOk P w H h a (xO cls a d) :=
  ⟨⟨oe, vs, he, hz, hd⟩, ⟨oe, he⟩, fun h1 h2 ⟨u, us, q, r⟩ k => ⟨u, us, k u q, r⟩⟩
/-- back on the ground, the exception's object tracked -/
theorem down (I : Inv X pins σ H sI) (nb : ∀ b o, sI.heap.get? b = some o → b ∉ frs X.stack → B.get? b = some o) (st : B.StaysIn s.heap) (up : sI.heap.UpToSlots s.heap) (os : s.os = sI.os) (ag : AllBare s.gens)
    (na : H a = none) (nB : B.get? a = none) (nf : a ∉ frs X.stack) {oe : Obj} {vs : Array Value} (he : s.heap.get? a = some oe) (hz : Zc cls d oe) (hd : oe.data = .fields vs) : Inv X pins σ (upd H a (xO cls a d)) s := by
  have nI : ∀ b o, sI.heap.get? b = some o → b ≠ a := fun b o e z => by
    subst z
    rw [nb _ o e nf] at nB
    cases nB
  have slots : ∀ b ∈ frs X.stack, ∀ o, sI.heap.get? b = some o → ∃ sl, s.heap.get? b = some { o with slots := sl } := fun b hb o e => by
    obtain ⟨_, o1, e1, hnf⟩ := I.stack.mem hb
    rw [e] at e1
    cases e1
    exact up b o e hnf
  have un : Un (frs X.stack) [] H (upd H a (xO cls a d)) sI.heap s.heap := {
    keep := fun b o e _ hb _ => st b o (nb b o e hb)
    slot := fun b o e _ hb _ => slots b hb o e
    free := fun b o e n _ => by rw [upd_ne (nI b o e)]; exact n
    there := fun b o e _ => by
      by_cases hb : b ∈ frs X.stack
      · obtain ⟨sl, q⟩ := slots b hb o e
        exact ⟨_, q⟩
      · exact ⟨o, st b o (nb b o e hb)⟩
    tups := fun b xs e => by rw [upd_ne (ne_of_none e na)]; exact e
    frzs := fun b o u e => by rw [upd_ne (ne_of_none e na)]; exact e
    tbls := fun b ps e => ⟨#[], by rw [upd_ne (ne_of_none e na), e]; simp⟩ }
  have hk : HOk X.prog X.w (upd H a (xO cls a d)) s.heap := fun b u e => by
    by_cases hb : b = a
    · subst hb
      rw [upd_same] at e
      cases e
      exact xo_ok he hz hd
    · rw [upd_ne hb] at e
      exact ((I.inGround nb).kept st b u e).stay (fun _ _ _ q => q) (fun c q => by rw [upd_ne (ne_of_none q na)]; exact q) fun c xs q => by rw [upd_ne (ne_of_none q na)]; exact q
  exact I.call' (ch := []) os un hk ag (fun _ z => nomatch z)
end
section
variable {X : Cx} {x n : Str} {c : Value} {i : Nat} {body suite : List Stmt} {b₀ : Stmt} {np pos pos' : Pos} {tb : WX → TS} {ts : Value → Option Addr → TS} {Wo : WX}
end
end Dy
/-! ### what is asked of the classes of refusals -/
namespace Dy
open PySem PySem.Spec PyProof.Rows L2
/-- the one class beneath the other, by their names (all stand under YardError) -/
def isaC (c y : Str) : Bool := c == y || y == ("YardError" : Str)
def exD (K : PySem.W.Frag) (C : Addr) : Bool :=
  He.eqO (PySem.W.findIn K (.ref C) "__getattribute__") (some (some (.builtin "BaseException.__getattribute__"))) && (He.eqO (PySem.W.findIn K (.ref C) "__getattr__") (some none) &&
  (decide (PySem.W.subIn K (.ref C) (.type "BaseException") = some true) && (PySem.W.hasDictIn K C && (He.eqO (PySem.W.findIn K (.ref C) "__class__") (some (some (.builtin "object.__class__"))) &&
  (He.eqO (PySem.W.specialIn K (.builtin "object.__class__") "__get__") (some (some (.builtin "getset_descriptor.__get__"))) && (decide (PySem.W.takesIn K (.builtin "object.__class__") = some true) &&
  decide (PySem.W.mroIn K C (.type "object") = some true)))))))
theorem exD_ok {K : PySem.W.Frag} {C : Addr} (h : exD K C = true) : L2.ExcC K C := by
  obtain ⟨h1, h⟩ := He.ba h
  obtain ⟨h2, h⟩ := He.ba h
  obtain ⟨h3, h⟩ := He.ba h
  obtain ⟨h4, h⟩ := He.ba h
  obtain ⟨h5, h⟩ := He.ba h
  obtain ⟨h6, h⟩ := He.ba h
  obtain ⟨h7, h8⟩ := He.ba h
  exact ⟨He.eqO_ok h1, He.eqO_ok h2, of_decide_eq_true h3, h4, He.eqO_ok h5, He.eqO_ok h6, of_decide_eq_true h7, of_decide_eq_true h8⟩
/-- ks: the classes raised; cs: those asked after -/
def exB (ks cs : List Str) (K : PySem.W.Frag) : Bool := ks.all fun c => exD K (He.ga K c) && (decide (PySem.W.kitOne K (.ref (He.ga K c)) (.type "ValueError") = some true) &&
  cs.all fun y => decide (PySem.W.exmOne K (.ref (He.ga K c)) (.ref (He.ga K y)) = some (isaC c y)) && decide (PySem.W.kitOne K (.ref (He.ga K c)) (.ref (He.ga K y)) = some (isaC c y)))
structure ExF (K : PySem.W.Frag) (mg : Str → Option Value) (ks cs : List Str) : Prop where
  glo : ∀ y ∈ cs, mg y = some (.ref (He.ga K y))
  d : ∀ c ∈ ks, L2.ExcC K (He.ga K c)
  ve : ∀ c ∈ ks, PySem.W.kitOne K (.ref (He.ga K c)) (.type "ValueError") = some true
  exm : ∀ c ∈ ks, ∀ y ∈ cs, PySem.W.exmOne K (.ref (He.ga K c)) (.ref (He.ga K y)) = some (isaC c y)
  isi : ∀ c ∈ ks, ∀ y ∈ cs, PySem.W.kitOne K (.ref (He.ga K c)) (.ref (He.ga K y)) = some (isaC c y)
theorem exB_ok {ks cs : List Str} {K : PySem.W.Frag} {mg : Str → Option Value} (h : exB ks cs K = true) (g : ∀ y ∈ cs, mg y = some (.ref (He.ga K y))) : ExF K mg ks cs := by
  have one : ∀ c ∈ ks, L2.ExcC K (He.ga K c) ∧ PySem.W.kitOne K (.ref (He.ga K c)) (.type "ValueError") = some true ∧
      ∀ y ∈ cs, PySem.W.exmOne K (.ref (He.ga K c)) (.ref (He.ga K y)) = some (isaC c y) ∧ PySem.W.kitOne K (.ref (He.ga K c)) (.ref (He.ga K y)) = some (isaC c y) := fun c hc => by
    have h1 := List.all_eq_true.mp h c hc
    obtain ⟨h2, h1⟩ := He.ba h1
    obtain ⟨h3, h1⟩ := He.ba h1
    refine ⟨exD_ok h2, of_decide_eq_true h3, fun y hy => ?_⟩
    obtain ⟨h4, h5⟩ := He.ba (List.all_eq_true.mp h1 y hy)
    exact ⟨of_decide_eq_true h4, of_decide_eq_true h5⟩
  exact ⟨g, fun c hc => (one c hc).1, fun c hc => (one c hc).2.1, fun c hc y hy => ((one c hc).2.2 y hy).1, fun c hc y hy => ((one c hc).2.2 y hy).2⟩
/-! ### try .. except C as e -/
def keepS (i : Nat) (h : REnv → SR) (e : D) (ρ : REnv) : SR := match h (ρ.set i (.val e)) with
  | .next ρ2 => .next (ρ2.set i .un)
  | .ret v => .ret v
  | .err _ _ => .bad
  | .bad => .bad
def catchS (ks : List Str) (y : Str) (i : Nat) (h : REnv → SR) (ρ : REnv) : D → SR
  | .exc c fs xs => if ks.contains c = true then (if isaC c y = true then keepS i h (.exc c fs xs) ρ else .err (.exc c fs xs) ρ) else .bad
  | _ => .bad
def sTryAs (ks : List Str) (y : Str) (i : Nat) (g h : REnv → SR) : REnv → SR := fun ρ => match g ρ with
  | .err e ρ' => catchS ks y i h ρ' e
  | u => u
section
variable {X : Cx} {W : WX} {y n : Str} {i : Nat} {body suite : List Stmt} {b₀ : Stmt} {np pos pos' : Pos} {g h : REnv → SR} {ks cs : List Str}
end
/-! ### isinstance of a kept refusal -/
section
variable {K : PySem.W.Frag} {x D : Addr} {ox : Obj} {od : Option Obj}
end
section
variable {X : Cx} {pins : List (Addr × Obj)} {σ : St} {H : Hp} {s : Shared} {a C : Addr} {dd : Option Addr}
end
def clsNs : List D → Option (List Str)
  | [] => some []
  | .cls y :: r => (clsNs r).map (y :: ·)
  | _ => none
def oIsX (ks cs : List Str) : List D → Option D
  | [.exc c _ _, .cls y] => if ks.contains c = true ∧ cs.contains y = true then some (.bl (isaC c y)) else none
  | [.exc c _ _, .ty n] => if ks.contains c = true ∧ n = "ValueError" then some (.bl true) else none
  | [.exc c _ _, .tup ys] => (clsNs ys).bind fun ns => if ks.contains c = true ∧ ns.all cs.contains = true then some (.bl (ns.any (isaC c))) else none
  | _ => none
/-! ### the field of a kept refusal -/
section
variable {X : Cx} {W : WX} {e : Expr} {f : REnv → R D} {pos : Pos} {n : Str} {te : TE}
def oAt (ks : List Str) (n : Str) : D → Option D
  | .exc c fs xs => if ks.contains c = true then (fs.zip xs).lookup n else none
  | _ => none
end
/-! ### the head's facts, with one more asked -/
def obsE (fa : List He.Fa) (fn : List He.DefD) (ex : PySem.W.Frag → Bool) (K : PySem.W.Frag) : He.AlD := ((He.obsD fa fn K).1 && ex K, (He.obsD fa fn K).2)
def obsEG (n : Nat) (fa : List He.Fa) (fn : List He.DefD) (ex : PySem.W.Frag → Bool) (g : Addr → Option Obj) : He.AlD := obsE fa fn ex (He.frG g (PySem.cStatics :: He.asD g n))
def SaysE (fa : List He.Fa) (fn : List He.DefD) (ex : PySem.W.Frag → Bool) (K : PySem.W.Frag) : Prop := obsE fa fn ex K = He.valD fn
theorem SaysE.d {fa : List He.Fa} {fn : List He.DefD} {ex : PySem.W.Frag → Bool} {K : PySem.W.Frag} (c : SaysE fa fn ex K) : He.SaysD fa fn K := by
  have h : obsE fa fn ex K = He.valD fn := c
  have h1 := congrArg Prod.fst h
  have h2 := congrArg Prod.snd h
  exact Prod.ext (He.ba h1).1 h2
theorem SaysE.ex {fa : List He.Fa} {fn : List He.DefD} {ex : PySem.W.Frag → Bool} {K : PySem.W.Frag} (c : SaysE fa fn ex K) : ex K = true := (He.ba (show ((He.obsD fa fn K).1 && ex K) = true from congrArg (fun z : He.AlD => z.1) (show obsE fa fn ex K = He.valD fn from c))).2
def hookE (n : Nat) (fa : List He.Fa) (fn : List He.DefD) (ex : PySem.W.Frag → Bool) : PySem.W.Hook where
  α := He.AlD
  obs := fun s => obsEG n fa fn ex s.heap.get?
  val := fun _ => He.valD fn
  says := fun _ h => ∃ K : PySem.W.Frag, K.In h ∧ SaysE fa fn ex K
  of := fun _ _ e => ⟨_, He.frG_in, e⟩
  keeps := fun _ _ _ ⟨K, hK, c⟩ k => ⟨K, PySem.W.Frag.In.keeps hK k, c⟩
theorem obsEG_eq {n : Nat} {fa : List He.Fa} {fn : List He.DefD} {ex : PySem.W.Frag → Bool} {g : Addr → Option Obj} {s : Shared} (h : ∀ a, g a = s.heap.get? a) : obsEG n fa fn ex g = (hookE n fa fn ex).obs s := by
  have e : g = s.heap.get? := funext h
  rw [e] <;> rfl
section
variable {ρ : REnv} {N : REnv → Prop} {T : D → Prop} {E : D → REnv → Prop} {g h : REnv → SR} {ks cs : List Str} {y : Str} {i : Nat}
theorem R.wp.weak {α : Type} {x : R α} {P : α → Prop} {E : D → Prop} (h : x.wp P NoE) : x.wp P E := h.imp (fun _ q => q) fun _ z => z.elim
theorem sp_tryAs (h1 : (g ρ).wp N T fun e ρ' => (catchS ks y i h ρ' e).wp N T E) : (sTryAs ks y i g h ρ).wp N T E := by
  unfold sTryAs
  cases e : g ρ with
  | next ρ' => rw [e] at h1; exact h1
  | ret d => rw [e] at h1; exact h1
  | err u ρ' => rw [e] at h1; exact h1
  | bad => rw [e] at h1; exact h1
theorem sp_catch {c : Str} {fs : List Str} {xs : List D} (hk : ks.contains c = true) (hy : isaC c y = true) (h1 : Upd ρ i (.val (.exc c fs xs)) fun ρ1 => (h ρ1).wp (fun ρ2 => Upd ρ2 i .un N) T fun _ _ => False) : (catchS ks y i h ρ (.exc c fs xs)).wp N T E := by
  show SR.wp (if ks.contains c = true then (if isaC c y = true then keepS i h (.exc c fs xs) ρ else .err (.exc c fs xs) ρ) else .bad) N T E
  rw [if_pos hk, if_pos hy]
  have h1 : (h (ρ.set i (.val (.exc c fs xs)))).wp (fun ρ2 => Upd ρ2 i .un N) T fun _ _ => False := h1
  unfold keepS
  cases e : h (ρ.set i (.val (.exc c fs xs))) with
  | next ρ' => rw [e] at h1; exact h1
  | ret d => rw [e] at h1; exact h1
  | err u ρ' => rw [e] at h1; exact h1.elim
  | bad => rw [e] at h1; exact h1.elim
end
section
variable {ks cs ns : List Str} {c y : Str} {fs : List Str} {xs ys : List D} {P : D → Prop} {b : Bool}
theorem w_isxT (e : clsNs ys = some ns) (h1 : (ks.contains c && ns.all cs.contains) = true) (h2 : ns.any (isaC c) = b) (h : P (.bl b)) : Got (oIsX ks cs [.exc c fs xs, .tup ys]) P := by
  refine ⟨.bl b, ?_, h⟩
  obtain ⟨h3, h4⟩ := He.ba h1
  show (clsNs ys).bind _ = _
  rw [e, Option.bind_some, if_pos ⟨h3, h4⟩, h2]
theorem w_isxC (h1 : (ks.contains c && cs.contains y) = true) (h2 : isaC c y = b) (h : P (.bl b)) : Got (oIsX ks cs [.exc c fs xs, .cls y]) P := by
  refine ⟨.bl b, ?_, h⟩
  obtain ⟨h3, h4⟩ := He.ba h1
  show ite _ _ _ = _
  rw [if_pos ⟨h3, h4⟩, h2]
theorem w_isxV (h1 : ks.contains c = true) (h : P (.bl true)) : Got (oIsX ks cs [.exc c fs xs, .ty "ValueError"]) P := by
  refine ⟨.bl true, ?_, h⟩
  show ite _ _ _ = _
  rw [if_pos ⟨h1, rfl⟩]
theorem w_xat {n : Str} {d : D} (h1 : ks.contains c = true) (h2 : (fs.zip xs).lookup n = some d) (h : P d) : Got (oAt ks n (.exc c fs xs)) P := by
  refine ⟨d, ?_, h⟩
  show ite _ _ _ = _
  rw [if_pos h1, h2]
end
end Dy

set_option Elab.async false
set_option linter.all false
set_option maxRecDepth 100000
set_option maxHeartbeats 2000000
/-! A dict is no tuple. -/
namespace Dy
open PySem PySem.Spec PyProof.Rows PySem.SeqAt
open AutoSeq1 (wpAny_loadPart')
open MeetsSeq MeetsSeq2 MeetsSeq3 SeqRoads2
open L2
end Dy

set_option Elab.async false
set_option linter.all false
set_option maxRecDepth 100000
set_option maxHeartbeats 2000000
/-! min of a list of truths that are all True; max, min of a list of whole numbers. -/
namespace Dy
open PySem PySem.Spec PyProof.Rows L2
/-! ### max, min of whole numbers -/
end Dy

set_option Elab.async false
set_option linter.all false
set_option maxRecDepth 100000
/-! The end, with the script's size. -/
namespace Dy
open PySem PySem.Spec PyProof.Rows L2
end Dy

set_option Elab.async false
set_option linter.all false
set_option maxRecDepth 100000
set_option maxHeartbeats 2000000
/-! Refusals with a field: classes whose own __init__ hands on to the class above and sets one field. -/
namespace Dy
open PySem PySem.Spec PyProof.Rows L2
/-! ### what is asked of such a class, and of the class above -/
def yrB (K : PySem.W.Frag) (Y : Addr) : Bool := He.eqO (PySem.W.specialIn K (.ref Y) "__getattribute__") (some (some (.builtin "type.__getattribute__"))) && (PySem.W.readsIn K Y (.type "type") && (match PySem.W.findCls K (.ref Y) (.type "type") "__init__" with
  | some (.val v) => decide (v = .builtin "ValueError.__init__")
  | _ => false))
structure YrC (K : PySem.W.Frag) (Y : Addr) : Prop where
  sp : PySem.W.specialIn K (.ref Y) "__getattribute__" = some (some (.builtin "type.__getattribute__"))
  rd : PySem.W.readsIn K Y (.type "type") = true
  fd : PySem.W.findCls K (.ref Y) (.type "type") "__init__" = some (.val (.builtin "ValueError.__init__"))
theorem yrB_ok {K : PySem.W.Frag} {Y : Addr} (h : yrB K Y = true) : YrC K Y := by
  obtain ⟨h1, h2⟩ := He.ba h
  obtain ⟨h2, h3⟩ := He.ba h2
  refine ⟨He.eqO_ok h1, h2, ?_⟩
  split at h3
  · rename_i v e
    rw [e, of_decide_eq_true h3]
  · cases h3
def oxB (K : PySem.W.Frag) (C : Addr) : Bool := (match K.lookup C with
  | some ⟨.type "type", _, .cls cd, sl⟩ => (match cd.mro, sl.toList with
    | .ref C' :: bm, [_, _, _, _, some (.builtin n), _] => C' == C && (n == "ValueError.__new__" && (!cd.hasDel && (cd.hasDict && PySem.HandSPX.refsVE bm)))
    | _, _ => false)
  | _ => false) && (He.eqO (PySem.W.findIn K (.ref C) "__setattr__") (some (some (.builtin "object.__setattr__"))) && (decide (PySem.W.subIn K (.ref C) (.type "BaseException") = some true) &&
    (decide (PySem.W.typeIn K (.ref C) = some (.type "type")) && PySem.W.keepIn K (.ref C))))
theorem oxB_ok {K : PySem.W.Frag} {C : Addr} (h : oxB K C = true) : OexC K C := by
  obtain ⟨q, h⟩ := He.ba h
  obtain ⟨h1, h⟩ := He.ba h
  obtain ⟨h2, h⟩ := He.ba h
  obtain ⟨h3, h4⟩ := He.ba h
  refine ⟨?_, He.eqO_ok h1, of_decide_eq_true h2, of_decide_eq_true h3, h4⟩
  split at q
  · rename_i dd cd sl ho
    split at q
    · rename_i C' bm k0 k1 k2 k3 n k5 hm hs
      obtain ⟨q1, q⟩ := He.ba q
      obtain ⟨q2, q⟩ := He.ba q
      obtain ⟨q3, q⟩ := He.ba q
      obtain ⟨q4, q5⟩ := He.ba q
      obtain rfl := beq_iff_eq.mp q1
      obtain rfl := beq_iff_eq.mp q2
      obtain ⟨nm, bs, mro, ns, qn, hd, sn, sub, ab, col, del⟩ := cd
      dsimp only at hm q3 q4
      have q3 : del = false := by simpa using q3
      subst hm q3 q4
      have hsl : sl = #[k0, k1, k2, k3, some (.builtin "ValueError.__new__"), k5] := by
        obtain ⟨l⟩ := sl
        simp only at hs
        rw [hs]
      subst hsl
      exact ⟨nm, qn, ns, bs, bm, sn, sub, ab, col, dd, k0, k1, k2, k3, k5, ho, q5⟩
    · cases q
  · cases q
/-! ### Y.__init__(self, ..) -/
section
variable {X : Cx} {o e : Expr} {es : List Expr} {to te : TE} {ta : TA} {f : Str} {p p' p1 p2 pos : Pos}
theorem pe_yinit {Y : Addr} {y : Str} {pl : Sem Bool} (hg : Gl X y) (gm : X.mg y = some (.ref Y)) (T : YrC X.K Y) (ha : PA X (e :: es) ta)
    (hc : eval (.Call (.Attribute (.Name y p1) "__init__" p2) (e :: es) [] pos) X.env = (do
      let ov ← eval (.Name y p1) X.env
      standAt p2.atName
      let (f, first) ← holding [ov] (getMethod ov "__init__" pl)
      callWith pos f first (backTo pos (starEach (e :: es) X.env)) (backToKw pos (keywordEach [] X.env))) := by rfl)
    (hdb : (y == ("__debug__" : Str)) = false := by decide) (he : starEach (e :: es) X.env = (false, eval e X.env) :: starEach es X.env := by rfl) (hpl : (backTo pos (starEach es X.env)).any (·.1) = false := by rfl) :
    PE X (.Call (.Attribute (.Name y p1) "__init__" p2) (e :: es) [] pos) (tVeI X.K ta) := ⟨fun pins s σ H Q I h => by
  refine PySem.W.methodCall_KW (ld_glob I hg gm ?_ hdb) hc
  refine PySem.W.method_cls I.kIn T.sp (PySem.W.cls_value I.kIn T.rd T.fd (by decide +kernel) ?_)
  show wpAny _ _ (callWith pos (Value.builtin "ValueError.__init__") [] (backTo pos (starEach (e :: es) X.env)) []) _ _ _
  refine PyProof.Rows.callWith_method1 (thn (ha.run pos pins _ σ H _ (I.tok _) h) fun us s1 ⟨vs, H1, I1, r1, a, C, ws, ev, hl, T2, ea, q⟩ => ?_) he hpl
  subst ev
  cases r1 with
  | @cons _ u0 _ ur ra rw2 =>
    obtain rfl : u0 = Value.ref a := ra
    exact oinit_ok T2 I1 ea (by rw [← Paired.length rw2, sizeLine_eq]; omega) fun s2 J => ⟨.non, H1, J, rfl, q⟩⟩
end
/-- the i-th statement of a class's body -/
def clsStmt (s : Stmt) (i : Nat) : Stmt := match s with
  | .ClassDef _ _ _ b _ _ _ _ _ _ _ => b.getD i (.Pass ⟨0, 0, 0, 0⟩)
  | _ => .Pass ⟨0, 0, 0, 0⟩
def spI (K : PySem.W.Frag) (f : Str) : Sp := fun vs H Q _ => ∃ (a C : Addr) (y : V), vs = [.ref a, y] ∧ OexC K C ∧ PySem.W.findIn K (.ref C) f = some none ∧ H a = some (exo a C none) ∧
  ∀ dx, H dx = none → dx ≠ a → Q .non (upd (upd H dx (exd dx [(f, y)])) a (exo a C (some dx)))
/-- such a class: its __init__ keeps what is said of it -/
structure InC (P : Program) (w : World) (K : PySem.W.Frag) (mg : Str → Option Value) (base : Heap) (c f : Str) : Prop where
  fn : ∃ (fI : Addr) (fd : FuncData) (ps : List Str), FnOk P w K mg base (L2.CX P w) 1 fI fd ps (spI K f) ∧ Binds K fd ps [] ∧ PySem.W.findIn K (.ref (He.ga K c)) "__init__" = some (some (.ref fI)) ∧ PySem.W.typeIn K (.ref fI) = some (.type "function")
  ox : OexC K (He.ga K c)
  no : PySem.W.findIn K (.ref (He.ga K c)) f = some none
  gl : mg c = some (.ref (He.ga K c))
section
variable {P : Program} {w : World} {K : PySem.W.Frag} {mg : Str → Option Value} {base : Heap} {f : Addr} {fd : FuncData} {qual : Str} {params : Arguments} {body : List Stmt} {scope : Scope} {Y : Addr} {p : Str}
theorem init_ok {N : List Str} {fl : Str} (Fn : FunD K "__init__" qual params body scope [] [] f fd) (S : FnScope N ["self", p] scope)
    (hb : ∀ (cdv : Value) (A : Around) (outer : List Env) (s : Shared) (H : Hp) (E : XK), PSs (CxD P w K mg base N qual scope f cdv A outer s H E) body (fun D σ H => ∃ (a C : Addr) (y : V), σ[0]? = some (some (.ref a)) ∧ σ[1]? = some (some y) ∧ OexC K C ∧ PySem.W.findIn K (.ref C) fl = some none ∧ H a = some (exo a C none) ∧
      ∀ dx, H dx = none → dx ≠ a → D.nx σ (upd (upd H dx (exd dx [(fl, y)])) a (exo a C (some dx))))) : FnOk P w K mg base (L2.CX P w) 1 f fd ["self", p] (spI K fl) := by
  refine Fn.ok S (fun vs H Q E ⟨a, C, y, e, _⟩ => by rw [e]; rfl) fun cdv A outer s H vs Q E hr ⟨a, C, y, e, h1, h2, h3, h4⟩ => ⟨_, hb cdv A outer s H E, ?_⟩
  subst e
  exact ⟨a, C, y, rfl, rfl, h1, h2, h3, h4⟩
theorem init_body {X : Cx} {y m fl : Str} {j : Nat} {p0 p1 p2 p3 p4 p5 p6 p7 p8 p9 : Pos} (hg : Gl X y) (gm : X.mg y = some (.ref Y)) (T : YrC X.K Y) (h0 : X.N[0]? = some ("self" : Str)) (h1 : X.N[1]? = some p) (v0 : Vis X.env.scope "self") (v1 : Vis X.env.scope p)
    (d1 : (p == ("__debug__" : Str)) = false) (d2 : (p == ("__classdict__" : Str)) = false) (hdb : (y == ("__debug__" : Str)) = false) {pl : Sem Bool}
    (hc : eval (.Call (.Attribute (.Name y p1) "__init__" p2) [.Name "self" p3, .Constant (.str m) j p4] [] p0) X.env = (do
      let ov ← eval (.Name y p1) X.env
      standAt p2.atName
      let (f, first) ← holding [ov] (getMethod ov "__init__" pl)
      callWith p0 f first (backTo p0 (starEach [.Name "self" p3, .Constant (.str m) j p4] X.env)) (backToKw p0 (keywordEach [] X.env))))
    (he : starEach [.Name "self" p3, .Constant (.str m) j p4] X.env = (false, eval (.Name "self" p3) X.env) :: starEach [.Constant (.str m) j p4] X.env) (he2 : starEach [.Constant (.str m) j p4] X.env = (false, eval (.Constant (.str m) j p4) X.env) :: starEach [] X.env)
    (hpl : (backTo p0 (starEach [.Constant (.str m) j p4] X.env)).any (·.1) = false)
    (hs : swapsWith (.Call (.Attribute (.Name y p1) "__init__" p2) [.Name "self" p3, .Constant (.str m) j p4] [] p0) none p5.line X.env = pure false)
    (hs2 : swapsWith (.Name p p8) (some (.Attribute (.Name "self" p6) fl p7)) p9.line X.env = pure false) :
    PSs X [.Expr (.Call (.Attribute (.Name y p1) "__init__" p2) [.Name "self" p3, .Constant (.str m) j p4] [] p0) p5, .Assign [.Attribute (.Name "self" p6) fl p7] (.Name p p8) p9]
      (fun D σ H => ∃ (a C : Addr) (y : V), σ[0]? = some (some (.ref a)) ∧ σ[1]? = some (some y) ∧ OexC X.K C ∧ PySem.W.findIn X.K (.ref C) fl = some none ∧ H a = some (exo a C none) ∧
        ∀ dx, H dx = none → dx ≠ a → D.nx σ (upd (upd H dx (exd dx [(fl, y)])) a (exo a C (some dx)))) :=
  (pss_cons (ps_expr (pe_yinit hg gm T (pa_cons (pe_var h0 v0) (pa_cons pe_str pa_nil he2) he) hc hdb he hpl) hs) (pss_one (ps_ost (pe_var h0 v0) (pe_var h1 v1 d1 d2) hs2))).dy fun D σ H ⟨a, C, y, e0, e1, T1, no, ea, q⟩ =>
    ⟨.ref a, e0, a, C, [.str m], rfl, by simp, T1, ea, y, e1, .ref a, e0, a, C, rfl, T1, no, .inl ⟨ea, q⟩⟩
end
/-! ### raise C(e) -/
def sRaiseF (c f : Str) (t : REnv → R (List D)) : REnv → SR := fun ρ => (t ρ).toS ρ fun ds => match ds with
  | [d] => .err (.exc c [f] [d]) ρ
  | _ => .bad
theorem cx_no {P : Program} {w : World} {l : List Env} {H : Hp} {s : Shared} {e : Value} {s' : Shared} (h : L2.CX P w l H s (fun _ _ _ => False) e s') : False := by
  obtain ⟨_, _, _, _, _, _, _, _, _, _, _, _, z⟩ := h
  exact z
section
variable {X : Cx} {W : WX} {c f : Str} {e : Expr} {t : REnv → R (List D)} {p pos' pos : Pos}
theorem ss_raiseF (I : InC X.prog X.w X.K X.mg X.base c f) (hc : X.calm = true) (tk : Takes X W) (hr : Room 2 X.A) (ha : SA X W [e] t) (hg : Gl X c := by rfl) (hdb : (c == ("__debug__" : Str)) = false := by decide)
    (he : starEach [e] X.env = (false, eval e X.env) :: starEach [] X.env := by rfl) (hpl : (backTo pos' (starEach [] X.env)).any (·.1) = false := by rfl) :
    SS X W (.Raise (some (.Call (.Name c p) [e] [] pos')) none pos) (sRaiseF c f t) := by
  obtain ⟨fI, fd, ps, Fo, hb, i1, i2⟩ := I.fn
  refine (ps_raise hc tk (pmk_oex (es := []) I.ox i1 i2 Fo hr hb .nil (fun _ _ _ _ _ _ _ z => (cx_no z).elim) hg I.gl ha hdb he hpl)).dy fun D σ H ⟨G, F, ρ, r, p⟩ => ⟨G, F, ρ, r, PostS.toS r p fun ds vs F1 H1 _ ex rp r1 p1 => ?_⟩
  match ds, rp, p1 with
  | [d], rp, p1 =>
    have p1 : PostS X.K W D G F1 (.err (.exc c [f] [d]) ρ) := p1
    simp only [RepL] at rp
    obtain ⟨v, rr, rfl, rv, rfl⟩ := rp
    refine ⟨by simp, fun a na => ⟨a, _, v, rfl, I.ox, I.no, upd_same, fun dx hdx hne => ?_⟩⟩
    have hdx1 : H1 dx = none := by rw [upd_ne hne] at hdx; exact hdx
    have eH : upd (L2.del (upd (upd (upd H1 a (exo a (He.ga X.K c) none)) dx (exd dx [(f, v)])) a (exo a (He.ga X.K c) (some dx))) a) dx (.xd [(f, v)]) = upd H1 dx (.xd [(f, v)]) := by
      funext b
      by_cases hb : b = dx
      · subst hb
        rw [upd_same, upd_same]
      · rw [upd_ne hb, upd_ne hb]
        by_cases hba : b = a
        · subst hba
          rw [L2.del_same, na]
        · rw [L2.del_ne hba, upd_ne hba, upd_ne hb, upd_ne hba]
    refine ⟨rfl, dx, [(f, v)], upd_same, by rw [upd_ne hne, upd_same], hdx1, ?_⟩
    rw [eH]
    have ex2 : Ext F1 H1 (upd F1 dx (.xd [(f, v)])) (upd H1 dx (.xd [(f, v)])) := Ext.new r1.f hdx1
    exact p1 σ _ _ _ _ ex2.f (ex2.newG r1.g) (r1.ext ex2) ⟨c, [f], [d], [v], rfl, rfl, rfl, RepL.cons (Rep.mono ex2.f _ _ rv) RepL.nil, upd_same⟩
  | [], _, p1 => exact p1.elim
  | _ :: _ :: _, _, p1 => exact p1.elim
end
section
variable {ρ : REnv} {N : REnv → Prop} {T : D → Prop} {E : D → REnv → Prop} {t : REnv → R (List D)} {c f : Str}
theorem sp_raiseF (h : (t ρ).wp (fun ds => ∃ d, ds = [d] ∧ E (.exc c [f] [d]) ρ) fun e => E e ρ) : (sRaiseF c f t ρ).wp N T E := wp_toS (h.post fun ds ⟨d, e, q⟩ => by subst e; exact q)
end
/-! ### the head's facts of such a class -/
def fxB (K : PySem.W.Frag) (c f : Str) : Bool := oxB K (He.ga K c) && (He.eqO (PySem.W.findIn K (.ref (He.ga K c)) f) (some none) && (He.eqO (PySem.W.findIn K (.ref (He.ga K c)) "__init__") (some (some (.ref (He.ma K (He.ga K c) "__init__")))) &&
  decide (PySem.W.typeIn K (.ref (He.ma K (He.ga K c) "__init__")) = some (.type "function"))))
structure FxC (K : PySem.W.Frag) (c f : Str) : Prop where
  ox : OexC K (He.ga K c)
  no : PySem.W.findIn K (.ref (He.ga K c)) f = some none
  fi : PySem.W.findIn K (.ref (He.ga K c)) "__init__" = some (some (.ref (He.ma K (He.ga K c) "__init__")))
  ft : PySem.W.typeIn K (.ref (He.ma K (He.ga K c) "__init__")) = some (.type "function")
theorem fxB_ok {K : PySem.W.Frag} {c f : Str} (h : fxB K c f = true) : FxC K c f := by
  obtain ⟨h1, h⟩ := He.ba h
  obtain ⟨h2, h⟩ := He.ba h
  obtain ⟨h3, h4⟩ := He.ba h
  exact ⟨oxB_ok h1, He.eqO_ok h2, He.eqO_ok h3, of_decide_eq_true h4⟩
end Dy

set_option Elab.async false
set_option linter.all false
set_option maxRecDepth 100000
set_option maxHeartbeats 2000000
/-! A list with something in it is not the empty one, whatever is in it. -/
namespace Dy
open PySem PySem.Spec PyProof.Rows PySem.SeqAt L2
end Dy

set_option Elab.async false
set_option linter.all false
set_option maxRecDepth 100000
/-! ### texts: join, f-strings, str(int) -/
namespace Dy
open PySem PySem.Spec PyProof.Rows L2
section
variable {X : Cx} {W : WX} {o e : Expr} {f g : REnv → R D} {ap xp pos : Pos}
end
section
variable {ρ : REnv} {f g : REnv → R D} {P E : D → Prop}
end
end Dy

set_option Elab.async false
set_option linter.all false
set_option maxRecDepth 100000
set_option maxHeartbeats 2000000
/-! dict of a list of pairs, its reading. -/
namespace Dy
open PySem PySem.Spec PyProof.Rows L2
/-! ### dict(pairs) -/
section
variable {K : PySem.W.Frag} {F H : Hp}
end
section
variable {X : Cx}
end
end Dy

set_option Elab.async false
set_option linter.all false
set_option maxRecDepth 100000
/-! ### a comprehension whose step may raise -/
namespace Dy
open PySem PySem.Spec PyProof.Rows L2

theorem hok_hide {P : Program} {w : World} {H : Hp} {h : Heap} {C : Addr} (k : HOk P w H h) (n : H C = none) : HOk P w H (PySem.W.hideAll h [C]) := fun a o e =>
  (k a o e).stay (fun b u hb q => PySem.W.hideAll_get _ q (fun z => by
    rw [List.mem_singleton] at z
    subst z
    rcases hb with hb | hb
    · rw [hb, e] at n; cases n
    · rw [hb] at n; cases n)) (fun _ r => r) (fun _ _ r => r)

/-- noted by the block's frame, the block's names let go, and on -/
theorem noted_comp {M : Model} {A : Around} {E : Value → Shared → Prop} {sr : Shared} {B : Heap} {env ce : Env} {outer : List Env} {a L : Addr} {Z : Obj → Prop} {m : Str → Option Value}
    (hZ : HandSPX.Steady Z) (hfr : A.frames = some (env :: outer)) (hcf : ce.frame = env.frame) (hf : env.frame = some L) (hbC : B.get? ce.locals = none) (hn : sr.heap.Ns ce.locals m)
    (hfl : HandSPX.FlyingZ B (env :: outer) a Z sr.heap)
    (hQ : ∀ h', HandSPX.HeldZ B (env :: outer) a Z L h' → (∀ b o, sr.heap.get? b = some o → b ≠ ce.locals → (∀ vs, o.data ≠ .fields vs) → ∃ sl, h'.get? b = some { o with slots := sl }) → E (.ref a) { sr with heap := h' }) :
    notedBy M A ce (CompFails M A E ce) (.ref a) sr := by
  show wpAny M A (noteFrame (.ref a) ce) _ _ sr
  rw [noteFrame_env _ hcf]
  refine HandSPX.looks_onZ hZ hfr hf hfl fun g1 hh up => ?_
  have hn1 : g1.Ns ce.locals m := hn.upToSlots up
  refine ⟨m, hn1, fun g2 m2 hn2 sb => ?_⟩
  obtain ⟨st1, na, ff1, oe, vs, T, oT, ts, he, hz, hd, e1, nT, Ta, hT, hdT, e3⟩ := hh
  have notC : ∀ {b : Addr} {o : Obj} {xs : Array Value}, g1.get? b = some o → o.data = .fields xs → b ≠ ce.locals := fun {b o xs} q dq z => by
    obtain ⟨oL, es, ep, hoL, hdL, _⟩ := hn1
    rw [z, hoL] at q
    cases q
    rw [hdL] at dq
    cases dq
  have st2 : B.StaysIn g2 := fun b o q => (sb.2 b fun z => by rw [z, hbC] at q; cases q).trans (st1 b o q)
  have he2 := (sb.2 a (notC he hd)).trans he
  have hT2 := (sb.2 T (notC hT hdT)).trans hT
  have ff2 : g2.FunFrames B (env :: outer) := Heap.FunFrames.sameBut sb hn2 ff1
  unfold PySem.passOn
  refine wpAny_bind (wpAny_field he2 hd e1 ?_)
  rw [if_neg (by simp), hcf, hf]
  refine wpAny_bind (HandSPX.setFlight_onZ (l := env :: outer) (L := L) ⟨st2, na, ff2, oe, vs, T, oT, ts, he2, hz, hd, e1, nT, Ta, hT2, hdT, e3⟩ fun g3 hh3 up3 => ?_)
  refine wpAny_throw (hQ g3 hh3 fun b o q nb nf => ?_)
  obtain ⟨sl, q1⟩ := up b o q nf
  exact up3 b { o with slots := sl } ((sb.2 b nb).trans q1) nf

section
variable {X : Cx} {W : WX} {pins : List (Addr × Obj)} {σ : L2.St} {H H' : Hp} {s sr : Shared} {B : Heap} {a : Addr} {cls : Value} {d : Option Addr}
/-- as XE.of_call, held by this frame already -/
theorem xe_held (I : Inv X pins σ H s) (fl : HandSPX.HeldZ B X.stack a (Zc cls d) X.env.locals sr.heap) (hok : HOk X.prog X.w H' B) (ub : UB (frs X.stack) H H' s.heap B sr.heap) (na : H' a = none) (os : sr.os = s.os) (ag : AllBare sr.gens) (w : W cls d σ H') : XE X W (.ref a) sr := by
  obtain ⟨G, y1, y2⟩ := restrict sr.heap fun b => (B.get? b).isSome || decide (b ∈ frs X.stack)
  have st : B.StaysIn sr.heap := fl.1
  have inB : ∀ b o, B.get? b = some o → G.get? b = some o := fun b o e => (y1 b (by simp [e])).trans (st b o e)
  have inF : ∀ b, b ∈ frs X.stack → G.get? b = sr.heap.get? b := fun b hb => y1 b (by simp [hb])
  have back : ∀ b o, G.get? b = some o → sr.heap.get? b = some o ∧ ((B.get? b).isSome = true ∨ b ∈ frs X.stack) := fun b o e => by
    by_cases q : ((B.get? b).isSome || decide (b ∈ frs X.stack)) = true
    · rw [y1 b q] at e
      exact ⟨e, by simpa [Bool.or_eq_true] using q⟩
    · rw [y2 b (by simpa using q)] at e
      cases e
  refine ⟨a, B, { s with heap := G, gens := sr.gens, drawn := sr.drawn, toks := sr.toks }, pins, σ, H', cls, d, rfl, ?_, fun b o e hb => ?_, Heap.UpToSlots.of_keeps fun b o e => (back b o e).1, .inr (.inr fl), na, os, ag, w⟩
  · refine I.call (ch := []) ⟨fun b o e n hb _ => inB b o (ub.keep b o e n hb), fun b o e n hb _ => ?_, fun b o e n _ => ub.free b o e n, fun b o e _ => ?_, ub.tups, ub.frzs, ub.tbls⟩ (hok.kept inB) ag (fun _ z => nomatch z)
    · obtain ⟨sl, q⟩ := ub.slot b o e hb
      exact ⟨sl, (inF b hb).trans q⟩
    · by_cases hb : b ∈ frs X.stack
      · obtain ⟨sl, q⟩ := ub.slot b o e hb
        exact ⟨_, (inF b hb).trans q⟩
      · obtain ⟨o', q⟩ := ub.there b o e hb
        exact ⟨o', inB b o' q⟩
  · obtain ⟨e', hh⟩ := back b o e
    rcases hh with hh | hh
    · obtain ⟨o', q⟩ := Option.isSome_iff_exists.mp hh
      have z := st b o' q
      rw [e'] at z
      cases z
      exact q
    · exact absurd hh hb
/-- what is raised in a block is in the def's air -/
theorem blk_raise {sc s3 : Shared} {H3 Hc : Hp} {σ' : L2.St} {pins' : List (Addr × Obj)} {scope : Scope} {ce : Env} {fp : List Addr} {u : Value} {sr : Shared} {xe : Value → Shared → Prop}
    (tk : Takes X W) (hs : X.stack = X.env :: X.outer) (hf : X.env.frame = some X.env.locals) (I3 : Inv X pins σ H3 s3)
    (hch : ∀ b ∈ fp, (b ∈ X.ex ∨ X.s_0.heap.objs.size ≤ b) ∧ b ≠ X.env.locals ∧ (∀ x c, X.env.cells.lookup x = some c → c ≠ b) ∧ ∀ p ∈ X.pn ++ pins, p.1 ≠ b)
    (hcf : ce.frame = X.env.frame) (hcl : ce.locals = s3.heap.objs.size) (Ib : Inv ((X.blk s3 H3 scope ce fp).wish xe) pins' σ' Hc sc)
    (c : L2.CX X.prog X.w X.stack Hc sc (fun cls d H' => W cls d σ H') u sr) :
    notedBy (model X.prog X.w) X.A ce (CompFails (model X.prog X.w) X.A X.xe ce) u sr := by
  obtain ⟨a, B, H', cls, d, rfl, ⟨st, en, ff, tz⟩, hok, ub, na, os, ag, hE⟩ := c
  have nC : Hc ce.locals = none := Ib.free
  obtain ⟨m, hn, _⟩ := Ib.loc
  have hn : sc.heap.Ns ce.locals m := hn
  obtain ⟨oC, es, ep, qC, rC⟩ := id hn
  have old : ∀ b o, s3.heap.get? b = some o → b ∉ [ce.locals] := fun b o q z => by
    rw [List.mem_singleton] at z
    have := Heap.lt_size q
    rw [z, hcl] at this
    exact absurd this (Nat.lt_irrefl _)
  have nfr : ce.locals ∉ frs X.stack := fun z => by
    obtain ⟨_, o', e', _⟩ := I3.stack.mem z
    exact old _ _ e' (List.mem_singleton.mpr rfl)
  have uC : Un (frs X.stack) fp H3 Hc s3.heap sc.heap := Ib.base
  have I7 : Inv X pins σ Hc { sc with heap := PySem.W.hideAll sc.heap [ce.locals] } := I3.call' (ch := fp) Ib.os
    ⟨fun b o q n h1 h2 => PySem.W.hideAll_get _ (uC.keep b o q n h1 h2) (old b o q), fun b o q n h1 h2 => by
        obtain ⟨sl, z⟩ := uC.slot b o q n h1 h2
        exact ⟨sl, PySem.W.hideAll_get _ z (old b o q)⟩,
      uC.free, fun b o q h => by
        obtain ⟨o', z⟩ := uC.there b o q h
        exact ⟨o', PySem.W.hideAll_get _ z (old b o q)⟩, uC.tups, uC.frzs, uC.tbls⟩
    (hok_hide Ib.hok nC) Ib.bare hch
  have nC' : H' ce.locals = none := ub.free _ _ qC nC
  have qC2 : sr.heap.get? ce.locals = some oC := st _ _ (ub.keep _ _ qC nC nfr)
  have hn2 : sr.heap.Ns ce.locals m := ⟨oC, es, ep, qC2, rC⟩
  have hide : ∀ {b : Addr} {o : Obj}, (PySem.W.hideAll B [ce.locals]).get? b = some o → B.get? b = some o := fun e => PySem.W.of_hideAll _ e
  have none' : ∀ {b : Addr}, B.get? b = none → (PySem.W.hideAll B [ce.locals]).get? b = none := fun {b} e => by
    cases q : (PySem.W.hideAll B [ce.locals]).get? b with
    | none => rfl
    | some o => rw [hide q] at e; cases e
  have notC : ∀ {b : Addr} {o : Obj}, (PySem.W.hideAll sc.heap [ce.locals]).get? b = some o → b ∉ [ce.locals] := fun {b o} q z => by
    rw [PySem.W.hideAll_none _ z] at q
    cases q
  have ff' : sr.heap.FunFrames (PySem.W.hideAll B [ce.locals]) X.stack := funFrames_none ff fun L hL => none' (ff.mem hL).1
  have fl' : HandSPX.FlyingZ (PySem.W.hideAll B [ce.locals]) X.stack a (Zc cls d) sr.heap := ⟨fun b o q => st b o (hide q), none' en, ff', by
    obtain ⟨oe, vs, T, oT, ts, he, hz, hd, e1, nT, r⟩ := tz
    exact ⟨oe, vs, T, oT, ts, he, hz, hd, e1, none' nT, r⟩⟩
  rw [hs] at fl'
  have hfr : X.A.frames = some (X.env :: X.outer) := by rw [I3.ok.frames, hs]
  refine noted_comp Zc.steady hfr hcf hf (PySem.W.hideAll_none _ (List.mem_singleton.mpr rfl)) hn2 fl' fun h' held up => ?_
  rw [← hs] at held
  refine tk _ _ (xe_held I7 held (hok_hide hok nC') ⟨fun b o q n hb => ?_, fun b o q hb => ?_, fun b o q n => ub.free b o (PySem.W.of_hideAll _ q) n, fun b o q hb => ?_, ub.tups, ub.frzs, ub.tbls⟩ na os ag hE)
  · exact PySem.W.hideAll_get _ (ub.keep b o (PySem.W.of_hideAll _ q) n hb) (notC q)
  · obtain ⟨sl, z⟩ := ub.slot b o (PySem.W.of_hideAll _ q) hb
    obtain ⟨_, o', e', hd'⟩ := I7.stack.mem hb
    have e'' : (PySem.W.hideAll sc.heap [ce.locals]).get? b = some o' := e'
    rw [q] at e''
    cases e''
    exact up b { o with slots := sl } z (fun z2 => notC q (List.mem_singleton.mpr z2)) hd'
  · obtain ⟨o', z⟩ := ub.there b o (PySem.W.of_hideAll _ q) hb
    exact ⟨o', PySem.W.hideAll_get _ z (notC q)⟩
end

section
variable {X : Cx}
/-- the block, its exceptions wished for -/
abbrev BlW (X : Cx) (s : Shared) (H : Hp) (scope : Scope) (C : Addr) (cl : List (Str × Addr)) (fp : List Addr) (E : Value → Shared → Prop) : Cx := (X.blk s H scope (compEnvC scope cl C X.env) fp).wish E
/-- what is raised at σ is taken -/
def TakesC (X : Cx) (W : WX) : Prop := ∀ σ : L2.St, PassesAt (L2.CX X.prog X.w) X σ (fun cls d H => W cls d σ H)
theorem inv_wish {pins : List (Addr × Obj)} {σ : L2.St} {H : Hp} {s : Shared} {E : Value → Shared → Prop} (I : Inv X pins σ H s) : Inv (X.wish E) pins σ H s :=
  ⟨I.ok.toTry X.pn E, I.os, I.bare, I.base, I.loc, I.cell, I.free, I.freeC, I.pin, I.hok, I.len⟩
end

/-! #### what it makes of data -/
theorem bind_assoc' {α β γ : Type} (x : R α) (f : α → R β) (g : β → R γ) : (x.bind f).bind g = x.bind fun a => (f a).bind g := by cases x <;> rfl
section
variable {X : Cx} {W : WX} {elt tg iter : Expr} {ifs : List Expr} {scope : Scope} {own : List (Str × Nat)} {pos : Pos} {fi : REnv → R (List D)} {t : TG} {b : D → REnv → Option REnv} {c : REnv → R Bool} {e : REnv → R D} {is : List Nat}
end
section
variable {X : Cx} {W : WX} {e : Expr} {es : List Expr} {x : Str} {p pos : Pos} {k n : Nat} {t : REnv → R (List D)} {fn : List D → R D}
end
/-! #### weakest conditions -/
section
variable {b : D → REnv → Option REnv} {c : REnv → R Bool} {e : REnv → R D} {ρ : REnv} {P : D → Prop} {E : D → Prop} {vs : List Nat} {fi : REnv → R (List D)}
end
end Dy

set_option Elab.async false
set_option linter.all false
set_option maxRecDepth 100000
set_option maxHeartbeats 2000000
/-! sorted of texts, in, a text times a whole number. -/
namespace Dy
open PySem PySem.Spec PyProof.Rows L2
/-! ### the order of texts -/
theorem lt_anti : ∀ a b : List Nat, ltCps a b = false → ltCps b a = false → a = b
  | [], [], _, _ => rfl
  | [], _ :: _, h, _ => by simp [ltCps] at h
  | _ :: _, [], _, h => by simp [ltCps] at h
  | a :: r, b :: t, h, k => by
    simp only [ltCps, Bool.or_eq_false_iff, decide_eq_false_iff_not, Bool.and_eq_false_iff, beq_eq_false_iff_ne] at h k
    have e : a = b := by omega
    subst e
    have h2 := h.2.resolve_left (by simp)
    have k2 := k.2.resolve_left (by simp)
    rw [lt_anti r t h2 k2]
theorem le_tr : ∀ a b c : List Nat, ltCps b a = false → ltCps c b = false → ltCps c a = false
  | [], _, [], _, _ => rfl
  | [], _, _ :: _, _, _ => rfl
  | _ :: _, [], _, h, _ => by simp [ltCps] at h
  | _ :: _, _ :: _, [], _, k => by simp [ltCps] at k
  | a :: r, b :: t, c :: u, h, k => by
    simp only [ltCps, Bool.or_eq_false_iff, decide_eq_false_iff_not, Bool.and_eq_false_iff, beq_eq_false_iff_ne] at h k ⊢
    refine ⟨by omega, ?_⟩
    by_cases e : c = a
    · right
      have e1 : b = a := by omega
      have e2 : c = b := by omega
      exact le_tr r t u (h.2.resolve_left fun z => z e1) (k.2.resolve_left fun z => z e2)
    · exact .inl e
theorem le_tot : ∀ a b : List Nat, ltCps b a = false ∨ ltCps a b = false
  | [], [] => .inl rfl
  | [], _ :: _ => .inl rfl
  | _ :: _, [] => .inr rfl
  | a :: r, b :: t => by
    simp only [ltCps, Bool.or_eq_false_iff, decide_eq_false_iff_not, Bool.and_eq_false_iff, beq_eq_false_iff_ne]
    by_cases e : a = b
    · rcases le_tot r t with h | h
      · exact .inl ⟨by omega, .inr h⟩
      · exact .inr ⟨by omega, .inr h⟩
    · rcases Nat.lt_or_gt_of_ne e with h | h
      · exact .inl ⟨by omega, .inl (fun z => e z.symm)⟩
      · exact .inr ⟨by omega, .inl e⟩
def leS (a b : Str) : Bool := !ltCps b.cps.toList a.cps.toList
theorem leS_trans (a b c : Str) (h : leS a b = true) (k : leS b c = true) : leS a c = true := by
  unfold leS at *
  rw [Bool.not_eq_true'] at *
  exact le_tr _ _ _ h k
theorem leS_total (a b : Str) : (leS a b || leS b a) = true := by
  unfold leS
  rcases le_tot a.cps.toList b.cps.toList with h | h <;> rw [h] <;> simp
theorem leS_anti (a b : Str) (h : leS a b = true) (k : leS b a = true) : a = b := by
  unfold leS at *
  rw [Bool.not_eq_true'] at *
  have := lt_anti _ _ k h
  cases a; cases b
  simpa using this
theorem rising_pw : ∀ (r : List Str) (p : Str), risingS p r = true → (p :: r).Pairwise fun a b => leS a b = true
  | [], p, _ => by simp
  | x :: r, p, h => by
    have h : (leS p x && risingS x r) = true := h
    rw [Bool.and_eq_true] at h
    have ih := rising_pw r x h.2
    refine List.pairwise_cons.mpr ⟨fun y hy => ?_, ih⟩
    rcases List.mem_cons.mp hy with rfl | hy
    · exact h.1
    · exact leS_trans _ _ _ h.1 ((List.pairwise_cons.mp ih).1 y hy)
theorem sortedS_pw {ys : List Str} (h : sortedS ys = true) : ys.Pairwise fun a b => leS a b = true := by
  cases ys with
  | nil => exact .nil
  | cons x r => exact rising_pw r x h
def sortS (xs : List Str) : List Str := xs.mergeSort leS
theorem sortS_perm (xs : List Str) : (sortS xs).Perm xs := List.mergeSort_perm ..
theorem sortS_pw (xs : List Str) : (sortS xs).Pairwise fun a b => leS a b = true := List.pairwise_mergeSort leS_trans leS_total xs
theorem sort_uniq {xs ys : List Str} (hp : ys.Perm xs) (h : ys.Pairwise fun a b => leS a b = true) : ys = sortS xs :=
  List.Perm.eq_of_pairwise (le := fun a b => leS a b = true) (fun a b _ _ h k => leS_anti a b h k) h (sortS_pw xs) (hp.trans (sortS_perm xs).symm)
/-! ### sorted -/
def strsD : List D → Option (List Str)
  | [] => some []
  | .str x :: r => (strsD r).map (x :: ·)
  | _ :: _ => none
theorem strsD_map : ∀ xs : List Str, strsD (xs.map D.str) = some xs
  | [] => rfl
  | x :: r => by
    show (strsD (r.map D.str)).map _ = _
    rw [strsD_map r]
    rfl
theorem strsD_inv : ∀ {ds : List D} {xs : List Str}, strsD ds = some xs → ds = xs.map D.str
  | [], _, h => by cases h; rfl
  | d :: r, xs, h => by
    cases d with
    | str x =>
      obtain ⟨ys, h1, h2⟩ := Option.map_eq_some_iff.mp (show (strsD r).map (x :: ·) = some xs from h)
      rw [strsD_inv h1, ← h2]
      rfl
    | _ => cases h
def oSortS : List D → Option D
  | [.lst ds] => (strsD ds).bind fun xs => if xs.length < 64 then some (.lst ((sortS xs).map D.str)) else none
  | _ => none
section
variable {K : PySem.W.Frag} {F H : Hp}
theorem strs_rep : ∀ {xs : List Str} {vs : List V}, RepL K F (xs.map D.str) vs → vs = xs.map V.str
  | [], vs, h => by simpa [RepL] using h
  | x :: r, vs, h => by
    rw [List.map_cons] at h
    simp only [RepL] at h
    obtain ⟨v, t, rfl, h1, h2⟩ := h
    rw [strs_rep h2]
    have : v = .str x := by simpa [Rep] using h1
    rw [this]
    rfl
theorem rep_strs : ∀ (xs : List Str), RepL K F (xs.map D.str) (xs.map V.str)
  | [] => RepL.nil
  | x :: r => RepL.cons Rep.mk_str (rep_strs r)
end
section
variable {X : Cx}
theorem d_sortS : CallR X (.builtin "sorted") (rSortedS X.K) ∧ OpN X.K (rSortedS X.K) oSortS := ⟨cr_sortedS, fun F H xs as d Q s ra e q => by
  unfold oSortS at e
  split at e
  · rename_i ds
    obtain ⟨ss, h1, h2⟩ := Option.bind_eq_some_iff.mp e
    split at h2
    · rename_i h64
      cases h2
      have := strsD_inv h1
      subst this
      obtain ⟨v, rfl, h⟩ := ra.one
      obtain ⟨a, vs, rfl, h3, h4⟩ := h.lst_inv
      have := strs_rep h4
      subst this
      refine ⟨a, ss, rfl, Same.seq s h3, h64, fun ys p hp hs hH => ?_⟩
      have := sort_uniq hp (sortedS_pw hs)
      subst this
      exact anew q s (fun p s2 => Rep.mk_lst (.of upd_same) (rep_strs _)) p hH
    · cases h2
  · cases e⟩
/-! ### in -/
def flatD : D → Bool
  | .int _ => true
  | .str _ => true
  | _ => false
def eqF : D → D → Bool
  | .int a, .int b => a == b
  | .str a, .str b => a == b
  | _, _ => false
def oInF : D → D → Option D
  | d, .lst ds => if flatD d = true ∧ ds.all flatD = true then some (.bl (ds.any fun y => eqF y d)) else none
  | _, _ => none
def oNinF : D → D → Option D
  | d, .lst ds => if flatD d = true ∧ ds.all flatD = true then some (.bl (!ds.any fun y => eqF y d)) else none
  | _, _ => none
theorem flat_rep {K : PySem.W.Frag} {F : Hp} {d : D} {v : V} (h : Rep K F d v) (f : flatD d = true) : flatV v = true := by
  cases d with
  | int i => rw [h.int_inv]; rfl
  | str i => rw [h.str_inv]; rfl
  | _ => cases f
theorem eq_rep {K : PySem.W.Frag} {F : Hp} {d e : D} {v u : V} (h : Rep K F d v) (k : Rep K F e u) (f : flatD d = true) (g : flatD e = true) : eqV v u = eqF d e := by
  cases d with
  | int i =>
    rw [h.int_inv]
    cases e with
    | int j => rw [k.int_inv]; rfl
    | str j => rw [k.str_inv]; rfl
    | _ => cases g
  | str i =>
    rw [h.str_inv]
    cases e with
    | int j => rw [k.int_inv]; rfl
    | str j => rw [k.str_inv]; rfl
    | _ => cases g
  | _ => cases f
theorem any_rep {K : PySem.W.Frag} {F : Hp} {d : D} {v : V} (h : Rep K F d v) (f : flatD d = true) : ∀ {ds : List D} {vs : List V}, RepL K F ds vs → ds.all flatD = true → vs.all flatV = true ∧ inV v vs = ds.any fun y => eqF y d
  | [], vs, r, _ => by
    simp only [RepL] at r
    subst r
    exact ⟨rfl, rfl⟩
  | e :: ds, vs, r, g => by
    simp only [RepL] at r
    obtain ⟨u, t, rfl, h1, h2⟩ := r
    rw [List.all_cons, Bool.and_eq_true] at g
    obtain ⟨i1, i2⟩ := any_rep h f h2 g.2
    refine ⟨by rw [List.all_cons, flat_rep h1 g.1, i1]; rfl, ?_⟩
    unfold inV at *
    rw [List.any_cons, List.any_cons, eq_rep h1 h g.1 f, i2]
theorem d_ninF : OpR X (compareOp .NotIn) (rIn X.K true) ∧ Op2 X.K (rIn X.K true) oNinF := ⟨op_notIn_seq, fun F H x y a b d Q s ra rb e q => by
  unfold oNinF at e
  split at e
  · split at e
    · rename_i hf
      cases e
      obtain ⟨l, vs, rfl, h1, h2⟩ := rb.lst_inv
      obtain ⟨i1, i2⟩ := any_rep ra hf.1 h2 hf.2
      refine ⟨l, vs, rfl, .inl (Same.seq s h1), flat_rep ra hf.1, i1, ?_⟩
      rw [i2]
      exact now q s Rep.mk_bl
    · cases e
  · cases e⟩
/-! ### a text times a whole number -/
theorem size_rep (c : Array Nat) : ∀ (n : Nat) (a : Array Nat), ((List.replicate n c).foldl (· ++ ·) a).size = a.size + n * c.size
  | 0, a => by simp
  | n + 1, a => by
    rw [List.replicate_succ, List.foldl_cons, size_rep c n (a ++ c), Array.size_append, Nat.succ_mul]
    omega
def repS (x : Str) (n : Int) : Str := if n < 1 then Str.empty else if (n == 1 || x.length == 0) = true then x else ⟨(List.replicate n.toNat x.cps).foldl (· ++ ·) #[]⟩
theorem repS_len {x : Str} {n : Int} (h0 : 0 ≤ n) (h1 : n ≤ 1000) (hx : x.length ≤ 1000) : (repS x n).length ≤ 1000000 := by
  unfold repS
  split
  · exact Nat.zero_le _
  · split
    · omega
    · show ((List.replicate n.toNat x.cps).foldl (· ++ ·) #[]).size ≤ _
      rw [size_rep]
      have : n.toNat * x.cps.size ≤ 1000 * 1000 := Nat.mul_le_mul (by omega) hx
      simpa using this
abbrev rMulS : R2 := fun x y H Q => ∃ (z : Str) (n : Int), x = .str z ∧ y = .int n ∧ 0 ≤ n ∧ n ≤ 1000 ∧ z.length ≤ 1000 ∧ Q (.str (repS z n)) H
theorem op_mulS : OpR X (binaryOp .Mult) rMulS := by
  intro pins s σ H x y v u Q I rx ry h
  obtain ⟨z, n, rfl, rfl, h0, h1, hz, q⟩ := h
  obtain ⟨t, rfl⟩ := rx
  obtain ⟨t', rfl⟩ := ry
  have big : z.length * n.toNat ≤ 1000 * 1000 := Nat.mul_le_mul hz (by omega)
  refine PySem.P.mul_str (by rw [decide_eq_false (by omega), decide_eq_false (by omega)]; rfl) (fun hn _ hh => ?_) (fun _ _ => ?_) ?_
  · have : 1000 ≤ ((2 : Int) ^ 63 - 1) / n := Int.le_ediv_of_mul_le (by omega) (by omega)
    omega
  · unfold Builtin.Str.tooLong
    rw [decide_eq_false]
    rw [sizeLine_eq]
    omega
  · have hl := repS_len h0 h1 hz
    have hsl := sizeLine_eq
    unfold repS at q hl
    split
    · rename_i hn
      rw [if_pos hn] at q
      exact ⟨Nat.zero_le _, .str _, H, I.tok _, ⟨_, rfl⟩, q⟩
    · rename_i hn
      rw [if_neg hn] at q hl
      split
      · rename_i h2
        rw [if_pos h2] at q
        exact ⟨.str _, H, I, ⟨_, rfl⟩, q⟩
      · rename_i h2
        rw [if_neg h2] at q hl
        exact ⟨by omega, .str _, H, I.tok _, ⟨_, rfl⟩, q⟩
def oMulS : D → D → Option D
  | .str z, .int n => if 0 ≤ n ∧ n ≤ 1000 ∧ z.length ≤ 1000 then some (.str (repS z n)) else none
  | _, _ => none
theorem d_mulS : OpR X (binaryOp .Mult) rMulS ∧ Op2 X.K rMulS oMulS := ⟨op_mulS, fun F H x y a b d Q s ra rb e q => by
  unfold oMulS at e
  split at e
  · split at e
    · rename_i hk
      cases e
      exact ⟨_, _, ra.str_inv, rb.int_inv, hk.1, hk.2.1, hk.2.2, now q s Rep.mk_str⟩
    · cases e
  · cases e⟩
end
end Dy

set_option Elab.async false
set_option linter.all false
set_option maxRecDepth 100000
set_option maxHeartbeats 2000000
/-! ### min([..], default=True) of truths that are all True -/
namespace Dy
open PySem PySem.Spec PyProof.Rows L2
section
variable {X : Cx} {W : WX} {e d : Expr} {f g : REnv → R D} {x : Str} {p kp pos : Pos}
end
end Dy

set_option Elab.async false
set_option linter.all false
set_option maxRecDepth 100000
/-! ### a def's result as the caller's own list -/
namespace Dy
open PySem PySem.Spec PyProof.Rows L2

section
variable {K : PySem.W.Frag} {G F H F' H' : Hp} {σ : St} {ρ : REnv}
/-- a slot takes a list that came in between -/
theorem RepE.setO2 (r : RepE K G F H σ ρ) (ex : Ext F H F' H') {i : Nat} {ds : List D} {a : Addr} {vs : List V} (h : RepL K F' ds vs) (ha : H a = none) (h' : H' a = some (.lst vs)) (hf : F' a = none) :
    RepE K G F' H' (σ.set i (some (.ref a))) (ρ.set i (.own ds)) := by
  have hg : G a = none := r.g.free ha
  have r2 : RepE K G F' H' σ ρ := r.ext ex
  refine r2.put r2.g r2.f (.refl _) (fun j s x b _ h1 h2 o => ⟨rfl, ((r2.at_ j s x h1 h2).own o).2.1⟩) ⟨a, vs, rfl, h', h, hf, hg⟩ fun b o j s x _ h1 h2 o2 => ?_
  have o : some (V.ref a) = some (.ref b) := o
  cases o
  have q := ((r.at_ j s x h1 h2).move ex.f (F' := F') (H' := H') fun b o => by
    obtain ⟨⟨u, hu⟩, hf, _⟩ := (r.at_ j s x h1 h2).own o
    refine ⟨by rw [hu]; exact ex.h _ _ hu, ?_⟩
    cases q : F' b with
    | none => rfl
    | some w =>
      have := ex.n b w q hf
      rw [hu] at this
      cases this).2 a o2
  obtain ⟨⟨u, hu⟩, _⟩ := (r.at_ j s x h1 h2).own q
  rw [ha] at hu
  cases hu
/-- a list that came in between is kept -/
theorem Ext.keep {a : Addr} {vs : List V} (ex : Ext F H F' H') (ha : H a = none) (h' : H' a = some (.lst vs)) (hf : F' a = none) : Ext F H (upd F' a (.lst vs)) H' ∧ Same F' (upd F' a (.lst vs)) := by
  have sm : Same F' (upd F' a (.lst vs)) := same_upd hf
  refine ⟨⟨ex.f.trans sm, ex.h, fun b o q => ?_, fun b o q z => ?_⟩, sm⟩
  · by_cases hb : b = a
    · subst hb; rw [upd_same] at q; rw [← q]; exact h'
    · rw [upd_ne hb] at q; exact ex.s _ _ q
  · by_cases hb : b = a
    · subst hb; exact ha
    · rw [upd_ne hb] at q; exact ex.n b o q z
end
/-! ### results -/
def asL : D → R (List D)
  | .lst es => .ok es
  | _ => .bad
def PostO (K : PySem.W.Frag) (W : WX) (σ : St) (F H : Hp) (x : R (List D)) (Q : V → Hp → Prop) : Prop := match x with
  | .ok es => ∀ a ws F' H', Ext F H F' H' → H' a = some (.lst ws) → RepL K F' es ws → F' a = none → H a = none → Q (.ref a) H'
  | .err e => ∀ cls dd F' H', Ext F H F' H' → XD K F' e cls dd → W cls dd σ H'
  | .bad => False
def spO (K : PySem.W.Frag) (n : Nat) (fn : List D → R D) : Sp := fun vs H Q E => vs.length = n ∧ ∃ F ds, Same F H ∧ RepL K F ds vs ∧ PostO K (fun cls dd _ H' => E cls dd H') [] F H ((fn ds).bind asL) Q
def PostSO (K : PySem.W.Frag) (W : WX) (D : Ends) (G F : Hp) (x : SR) : Prop := match x with
  | .next ρ => ∀ σ' F' H', Same F F' → NewG G F F' → RepE K G F' H' σ' ρ → D.nx σ' H'
  | .ret d => ∃ es, d = .lst es ∧ ∀ a ws F' H', Same F F' → NewG G F F' → Same G H' → Same F' H' → H' a = some (.lst ws) → RepL K F' es ws → F' a = none → G a = none → D.rt (.ref a) H'
  | .err e ρ => ∀ σ' F' H' cls dd, Same F F' → NewG G F F' → RepE K G F' H' σ' ρ → XD K F' e cls dd → W cls dd σ' H'
  | .bad => False
section
variable {α β : Type} {K : PySem.W.Frag} {W : WX} {D D' : Ends} {G F F' H : Hp} {σ : St} {ρ : REnv}
theorem PostSO.ext {x : SR} (s : Same F F') (n : NewG G F F') (h : PostSO K W D G F x) : PostSO K W D G F' x := by
  cases x with
  | next ρ => exact fun σ' F2 H' s2 n2 r => h σ' F2 H' (s.trans s2) (n.trans n2) r
  | ret d =>
    obtain ⟨es, e, h⟩ := h
    exact ⟨es, e, fun a ws F2 H' s2 n2 => h a ws F2 H' (s.trans s2) (n.trans n2)⟩
  | err e ρ => exact fun σ' F2 H' cls dd s2 n2 r x => h σ' F2 H' cls dd (s.trans s2) (n.trans n2) r x
  | bad => exact h
theorem PostSO.toS {rel : Hp → α → β → Prop} {x : R α} {k : α → SR} {Q : β → Hp → Prop} (r : RepE K G F H σ ρ) (h : PostSO K W D G F (x.toS ρ k))
    (f : ∀ a v F' H', x = .ok a → Ext F H F' H' → rel F' a v → RepE K G F' H' σ ρ → PostSO K W D G F' (k a) → Q v H') : Post K W rel σ F H x Q := by
  cases x with
  | ok a => exact fun v F' H' e p => f a v F' H' rfl e p (r.ext e) (PostSO.ext e.f (e.newG r.g) h)
  | err e => exact fun cls dd F' H' ex p => h σ F' H' cls dd ex.f (ex.newG r.g) (r.ext ex) p
  | bad => exact h
theorem PostSO.seq {x : SR} {g : REnv → SR} {nx : St → Hp → Prop} (h : PostSO K W D G F (x.seq g))
    (f : ∀ ρ σ' F' H', x = .next ρ → Same F F' → NewG G F F' → RepE K G F' H' σ' ρ → PostSO K W D G F' (g ρ) → nx σ' H') : PostSO K W { D with nx := nx } G F x := by
  cases x with
  | next ρ => exact fun σ' F' H' s n r => f ρ σ' F' H' rfl s n r (PostSO.ext s n h)
  | ret d => exact h
  | err e ρ => exact h
  | bad => exact h
end
section
variable {X : Cx} {W : WX} {st : Stmt} {rest : List Stmt} {g h : REnv → SR} {e : Expr} {f : REnv → R D} {pos : Pos}
/-! ### defs -/
end
section
variable {P : Program} {w : World} {K : PySem.W.Frag} {mg : Str → Option Value} {base : Heap} {x qual : Str} {params : Arguments} {body : List Stmt} {scope : Scope} {f : Addr} {fd : FuncData} {N ps : List Str} {k : Nat}
structure CalO (P : Program) (w : World) (K : PySem.W.Frag) (mg : Str → Option Value) (base : Heap) (x : Str) (k n : Nat) (fn : List D → R D) : Prop where
  ex : ∃ (f : Addr) (fd : FuncData) (ps : List Str), FnOk P w K mg base (L2.CX P w) k f fd ps (spO K n fn) ∧ mg x = some (.ref f) ∧ PySem.W.keepIn K (.ref f) = true ∧ Binds K fd ps []
  len : ∀ ds, ds.length ≠ n → fn ds = .bad
  lst : ∀ ds d, fn ds = .ok d → ∃ es, d = .lst es
end
section
variable {X : Cx} {W : WX} {e : Expr} {es : List Expr} {x y : Str} {p pos pos' cp : Pos} {k n : Nat} {t : REnv → R (List D)} {fn : List D → R D}
end
/-! ### weakest conditions -/
def IsL (d : D) (P : List D → Prop) : Prop := ∃ es, d = .lst es ∧ P es
theorem is_l {es : List D} {P : List D → Prop} (h : P es) : IsL (.lst es) P := ⟨es, rfl, h⟩
section
variable {ρ : REnv} {N : REnv → Prop} {T : D → Prop} {E : D → REnv → Prop} {g : REnv → SR} {t : REnv → R (List D)}
end
end Dy

set_option Elab.async false
set_option linter.all false
set_option maxRecDepth 100000
/-! ### for t in x: if c: return e -- x one's own list, and so it stays -/
namespace Dy
open PySem PySem.Spec PyProof.Rows L2
section
variable {X : Cx} {W : WX} {tg c e : Expr} {t : TG} {b : D → REnv → Option REnv} {u : REnv → R Bool} {f : REnv → R D} {is : List Nat} {x : Str} {np ip rp pos : Pos}
end
/-! ### one's own list handed to a def that tells numbers -/
mutual
def noL : D → Bool
  | .non => true
  | .bl _ => true
  | .int _ => true
  | .str _ => true
  | .tup xs => noLs xs
  | _ => false
def noLs : List D → Bool
  | [] => true
  | x :: xs => noL x && noLs xs
end
section
variable {K : PySem.W.Frag} {F F' : Hp} {a : Addr} {vs : List V}
theorem seqT_drop {p : Addr} {us : List V} (e : F a = some (.lst vs)) (h : ∀ b, b ≠ a → F' b = F b) (q : SqT K F p us) : SqT K F' p us := by
  rcases q with (q | ⟨o, q⟩) | q
  · exact .inl (.inl (by rw [h p (fun z => by rw [z, e] at q; cases q)]; exact q))
  · exact .inl (.inr ⟨o, by rw [h p (fun z => by rw [z, e] at q; cases q)]; exact q⟩)
  · exact .inr q
mutual
theorem rep_drop (e : F a = some (.lst vs)) (h : ∀ b, b ≠ a → F' b = F b) : ∀ (d : D) (v : V), noL d = true → Rep K F d v → Rep K F' d v
  | .non, v, _, r => by simpa [Rep] using r
  | .bl b, v, _, r => by simpa [Rep] using r
  | .int i, v, _, r => by simpa [Rep] using r
  | .str x, v, _, r => by simpa [Rep] using r
  | .tup xs, v, n, r => by
    simp only [Rep] at r ⊢
    obtain ⟨p, us, h1, h2, h3⟩ := r
    exact ⟨p, us, h1, seqT_drop e h h2, repL_drop e h xs us n h3⟩
theorem repL_drop (e : F a = some (.lst vs)) (h : ∀ b, b ≠ a → F' b = F b) : ∀ (ds : List D) (us : List V), noLs ds = true → RepL K F ds us → RepL K F' ds us
  | [], us, _, r => by simpa [RepL] using r
  | d :: ds, us, n, r => by
    simp only [RepL] at r ⊢
    obtain ⟨v, rr, h1, h2, h3⟩ := r
    have n : (noL d && noLs ds) = true := n
    rw [Bool.and_eq_true] at n
    exact ⟨v, rr, h1, rep_drop e h d v n.1 h2, repL_drop e h ds rr n.2 h3⟩
end
end
end Dy

set_option Elab.async false
set_option linter.all false
set_option maxRecDepth 100000
/-! ### return [.. for .. if ..], the test and the step may raise, the list the asker's own -/
namespace Dy
open PySem PySem.Spec PyProof.Rows L2
section
variable {X : Cx}
theorem lcQ {pins : List (Addr × Obj)} {s : Shared} {σ : L2.St} {H : Hp} {Q : VK} {W : WX} {elt tg iter : Expr} {ifs : List Expr} {scope : Scope} {own : List (Str × Nat)} {pos pos' : Pos} {wi : TI} {g : TG} {tt : WX → TT} {te : WX → TE} {use : Option (Value → Sem Unit)} {Qf : Value → Shared → Prop}
    (tk : Takes X W) (hs : X.stack = X.env :: X.outer) (hf : X.env.frame = some X.env.locals)
    (hc : X.calm = true) (hN : X.N.Nodup) (I : Inv X pins σ H s) (hi : PI X tg iter wi) (ok : BlkOk X.N X.env.scope scope own)
    (hg : ∀ s H C cl fp E, PG (BlW X s H scope C cl fp E) tg g) (ht : ∀ s H C cl fp E V, TakesC (BlW X s H scope C cl fp E) V → PTs (BlW X s H scope C cl fp E) ifs (tt V))
    (he : ∀ s H C cl fp E V, TakesC (BlW X s H scope C cl fp E) V → PE (BlW X s H scope C cl fp E) elt (te V)) (hst : ∀ x, foldedSetIterable iter X.env x = pure x)
    (h : tLc wi g (tt fun cls d _ H => W cls d σ H) (te fun cls d _ H => W cls d σ H) (own.map (·.2)) σ H Q)
    (hRR : ∀ (D : Addr) (ce : Env) s' m H', Inv X pins σ H' s' → Q (.ref D) H' → s'.heap.Ns ce.locals m → FpOk X pins H' ce.locals → compEnds (model X.prog X.w) X.A X.xe use Qf (.ref D) ce (.ok .next) s') :
    wpAny (model X.prog X.w) X.A (comprehension (.ListComp elt [⟨tg, iter, ifs, 0⟩] scope pos) scope X.env pos' (newList []) false (eval iter X.env) use) Qf X.xe s := by
  have hfree : ∀ y ∈ scope.names, y.2 = .free → ∃ c, X.env.cells.lookup y.1 = some c := fun y hy e =>
    (ok.free y hy e).elim (fun k => I.ok.has _ (.inl k)) (fun k => I.ok.has _ (.inr k))
  refine comprehension_at (use := use) rfl hst (closure_ok hfree) ok.kind (fun y hy e => by rw [ok.uniq y hy, e]) (thn (hi.run pins s σ H _ I h) fun xv s1 k1 => thn k1 fun itv s2 k2 => ?_)
  obtain ⟨it, fp, tn, J, H2, rfl, I2, T, stn2, fpo, q⟩ := k2
  refine wpAny_newObj_type (newEnv_comp ?_) (by show 0 ≤ sizeLine; decide)
  generalize hD : s2.heap.objs.size = D
  obtain ⟨U, ⟨m0, u0⟩, turn⟩ := q D (I2.hok.fresh (Nat.le_of_eq hD))
  generalize hs3 : ({ s2 with heap := s2.heap.push { cls := .type "list", data := .seq ([] : List Value).toArray } } : Shared) = s3
  have hp3 : s3.heap = s2.heap.push { cls := .type "list", data := .seq ([] : List Value).toArray } := by rw [← hs3]
  have I3 : Inv X pins σ (upd H2 D (.lst [])) s3 := by
    rw [← hs3]
    refine I2.laid (t' := s2.toks) (fun b o q => Heap.get?_push_of_some _ q) (Nat.le_of_eq hD) ⟨Nat.zero_le _, [], 0, .nil, ?_⟩
    rw [← hD]
    exact Heap.get?_push_size _ rfl
  have below : ∀ b ∈ fp, b < s2.heap.objs.size := fun b hb => by
    obtain ⟨o, q, _⟩ := T.obj _ _ stn2 b hb
    exact Heap.lt_size q
  have fp3 : ∀ b ∈ fp, FpOk X pins (upd H2 D (.lst [])) b ∧ b < s3.heap.objs.size := fun b hb => by
    have lt := below b hb
    refine ⟨⟨?_, (fpo b hb).2⟩, by rw [hp3, Heap.size_push]; exact Nat.lt_succ_of_lt lt⟩
    rw [upd_ne (by rw [← hD]; exact Nat.ne_of_lt lt)]
    exact (fpo b hb).1
  have stn3 : tn 0 s3.heap := T.keep _ _ _ stn2 fun b _ o q => by rw [hp3]; exact Heap.get?_push_of_some _ q
  have I4 := block_start I3 ok hN fp3
  show codeAny _ _ (.compStart (.ListComp elt [⟨tg, iter, ifs, 0⟩] scope pos) 0 (.ref it) (.ref D) (compEnvC scope (cellsFrom (s3.heap.objs.size + 1) scope.names (cloFrom X.env.cells scope.names [])) s3.heap.objs.size X.env))
    (compEnds (model X.prog X.w) X.A X.xe use Qf (.ref D) (compEnvC scope (cellsFrom (s3.heap.objs.size + 1) scope.names (cloFrom X.env.cells scope.names [])) s3.heap.objs.size X.env)) { s3 with heap := pushCells (s3.heap.push { cls := .type "dict", data := .dict #[] }) scope.names }
  have hg' := hg s3 (upd H2 D (.lst [])) s3.heap.objs.size (cellsFrom (s3.heap.objs.size + 1) scope.names (cloFrom X.env.cells scope.names [])) fp
  have ht' := ht s3 (upd H2 D (.lst [])) s3.heap.objs.size (cellsFrom (s3.heap.objs.size + 1) scope.names (cloFrom X.env.cells scope.names [])) fp
  have he' := he s3 (upd H2 D (.lst [])) s3.heap.objs.size (cellsFrom (s3.heap.objs.size + 1) scope.names (cloFrom X.env.cells scope.names [])) fp
  have nfp : ∀ b ∈ fp, (upd H2 D (.lst [])) b = none := fun b hb => (fp3 b hb).1.1
  unfold BlW at hg' ht' he'
  generalize hce : compEnvC scope (cellsFrom (s3.heap.objs.size + 1) scope.names (cloFrom X.env.cells scope.names [])) s3.heap.objs.size X.env = ce at I4 hg' ht' he' ⊢
  have hcl : ce.locals = s3.heap.objs.size := by rw [← hce]; rfl
  have hcf : ce.frame = X.env.frame := by rw [← hce]; rfl
  generalize upd H2 D (.lst []) = H3 at I3 I4 hg' ht' he' u0 nfp fp3
  generalize hs4 : ({ s3 with heap := pushCells (s3.heap.push { cls := .type "dict", data := .dict #[] }) scope.names } : Shared) = s4 at I4 ⊢
  have stn4 : tn 0 s4.heap := T.keep _ _ _ stn3 fun b _ o q => by rw [← hs4]; exact pushCells_keeps _ _ _ _ (Heap.get?_push_of_some _ q)
  have hch : ∀ b ∈ fp, (b ∈ X.ex ∨ X.s_0.heap.objs.size ≤ b) ∧ b ≠ X.env.locals ∧ (∀ x c, X.env.cells.lookup x = some c → c ≠ b) ∧ ∀ p ∈ X.pn ++ pins, p.1 ≠ b := fun b hb =>
    ⟨(fp3 b hb).1.2.2.2.1, (fp3 b hb).1.2.1, (fp3 b hb).1.2.2.2.2.1, (fp3 b hb).1.2.2.2.2.2⟩
  obtain ⟨E, hE⟩ : ∃ E : Value → Shared → Prop, E = fun u sr => ∃ (pins' : List (Addr × Obj)) (σ' : L2.St) (Hc : Hp) (sc : Shared), Inv ((X.blk s3 H3 scope ce fp).wish fun _ _ => False) pins' σ' Hc sc ∧ L2.CX X.prog X.w X.stack Hc sc (fun cls d H' => W cls d σ H') u sr := ⟨_, rfl⟩
  have pg := hg' E
  have tkE : TakesC ((X.blk s3 H3 scope ce fp).wish E) (fun cls d _ H => W cls d σ H) := fun σ' pins' Hc sc u sr Ic c => by
    show E u sr
    rw [hE]
    exact ⟨pins', σ', Hc, sc, inv_wish (X := (X.blk s3 H3 scope ce fp).wish E) Ic, c⟩
  have pt := ht' E (fun cls d _ H => W cls d σ H) tkE
  have pe := he' E (fun cls d _ H => W cls d σ H) tkE
  have raised : ∀ u sr, E u sr → notedBy (model X.prog X.w) X.A ce (fun e sr => compEnds (model X.prog X.w) X.A X.xe use Qf (.ref D) ce (.error e) sr) u sr := fun u sr z => by
    rw [hE] at z
    obtain ⟨pins', σ', Hc, sc, Ic, c⟩ := z
    have b := blk_raise tk hs hf I3 hch hcf hcl Ic c
    cases use <;> exact b
  have stat : ∀ {σ' : L2.St} {H' : Hp} {s' : Shared}, Inv ((X.blk s3 H3 scope ce fp).wish E) [] σ' H' s' → (∀ b ∈ fp, H' b = none) → ∀ b ∈ fp, FpOk ((X.blk s3 H3 scope ce fp).wish E) [] H' b := fun {σ' H' s'} J' hn b hb =>
    ⟨hn b hb, (J'.ok.exf b hb).1, J'.ok.exfs b hb, .inl hb, fun x c e => (J'.ok.exf b hb).2 x c e, fun p hp => absurd (show p ∈ ([] : List (Addr × Obj)) ++ [] from hp) (by simp)⟩
  have loop : codeAny (model X.prog X.w) X.A (.compLoop (.ListComp elt [⟨tg, iter, ifs, 0⟩] scope pos) 0 (.ref it) (.ref D) ce) (compEnds (model X.prog X.w) X.A X.xe use Qf (.ref D) ce) s4 := by
    refine compLoop_any (fun n s' => ∃ i H', Inv ((X.blk s3 H3 scope ce fp).wish E) [] (wipe σ (own.map (·.2))) H' s' ∧ tn i s'.heap ∧ (∀ b ∈ fp, H' b = none) ∧ U i n H') ?_ m0 ⟨0, H3, inv_wish I4, stn4, nfp, u0⟩
    rintro n s5 ⟨i, H5, J5, stn5, n5, u5⟩
    rcases turn i n H5 u5 with ⟨stop, qq⟩ | ⟨go, Nx, hNx, step⟩
    · refine thnF (T.done ((X.blk s3 H3 scope ce fp).wish E) rfl rfl rfl hc i [] s5 _ H5 (fun _ _ => False) J5 (stat J5 n5) stn5 stop) fun r s6 ⟨er, J6⟩ => ?_
      subst er
      have I7 : Inv X pins σ H5 s6 := I3.call' (ch := fp) J6.os J6.base J6.hok J6.bare hch
      have nC : H5 s3.heap.objs.size = none := by
        have z : H5 ce.locals = none := J6.free
        rw [hcl] at z
        exact z
      obtain ⟨m, hn, _⟩ := J6.loc
      exact hRR D ce s6 m H5 I7 qq hn (by rw [hcl]; exact I3.fpOk (Nat.le_refl _) nC)
    · refine thnF (T.item ((X.blk s3 H3 scope ce fp).wish E) rfl rfl rfl hc i [] s5 _ H5 (fun _ _ => False) J5 (stat J5 n5) stn5 go) fun r s6 ⟨u, er, k6⟩ => ?_
      subst er
      refine thnF k6 fun _ s7 ⟨x, H7, J7, r7, y7, stn7, n7⟩ => ?_
      have P7 := J7.pinned (stat J7 n7) (T.obj _ _ stn7)
      refine wpAny_mono (pg.run _ s7 _ H7 x u _ P7 r7 (step x H7 y7)) (fun _ s8 ⟨σ8, H8, J8, w8, q8⟩ => ?_) raised
      refine wpAny_mono (pt.run _ s8 σ8 H8 _ J8 q8) (fun b s9 ⟨H9, J9, q9⟩ => ?_) raised
      have fin : ∀ {s' : Shared} {H' : Hp}, Inv ((X.blk s3 H3 scope ce fp).wish E) ([] ++ pinsAt fp s7.heap) σ8 H' s' → Nx H' → ∃ m, m < n ∧ ∃ i H', Inv ((X.blk s3 H3 scope ce fp).wish E) [] (wipe σ (own.map (·.2))) H' s' ∧ tn i s'.heap ∧ (∀ b ∈ fp, H' b = none) ∧ U i m H' := fun {s' H'} J' nx => by
        obtain ⟨m', lt, u'⟩ := hNx H' nx
        have pin' : ∀ b ∈ fp, ∀ o, s7.heap.get? b = some o → s'.heap.get? b = some o ∧ H' b = none := fun b hb o e =>
          have z := J'.pin (b, o) (List.mem_append_right _ (List.mem_append_right _ (mem_pinsAt hb e)))
          ⟨z.1, z.2.1⟩
        refine ⟨m', lt, i + 1, H', (J'.unpinned (pins := [])).weak (by rw [← w8, wipe_length]) (fun j v e => ?_), T.keep _ _ _ stn7 fun b hb o e => (pin' b hb o e).1, fun b hb => ?_, u'⟩
        · rw [← w8] at e
          exact (wipe_some e).1
        · obtain ⟨o, e, _⟩ := T.obj _ _ stn7 b hb
          exact (pin' b hb o e).2
      cases b with
      | false =>
        rw [if_neg Bool.false_ne_true] at q9 ⊢
        exact fin J9 q9
      | true =>
        rw [if_pos rfl] at q9 ⊢
        refine wpAny_mono (pe.run _ s9 σ8 H9 _ J9 q9) (fun z s10 ⟨yv, H10, J10, r10, acc, hD10, lt10, nx⟩ => ?_) raised
        exact app_ok (X := (X.blk s3 H3 scope ce fp).wish E) J10 hD10 lt10 r10 fun s11 J11 => fin J11 nx
  exact codeAny_compStart_list loop (T.self X.A 0 _ _ _ stn4 loop)
/-- as a value -/
theorem pe_lcQ {elt tg iter : Expr} {ifs : List Expr} {scope : Scope} {own : List (Str × Nat)} {pos : Pos} {wi : TI} {g : TG} {tt : WX → TT} {te : WX → TE} {W : WX} (tk : Takes X W) (hs : X.stack = X.env :: X.outer) (hf : X.env.frame = some X.env.locals)
    (hc : X.calm = true) (hN : X.N.Nodup) (hi : PI X tg iter wi) (ok : BlkOk X.N X.env.scope scope own)
    (hg : ∀ s H C cl fp E, PG (BlW X s H scope C cl fp E) tg g) (ht : ∀ s H C cl fp E V, TakesC (BlW X s H scope C cl fp E) V → PTs (BlW X s H scope C cl fp E) ifs (tt V))
    (he : ∀ s H C cl fp E V, TakesC (BlW X s H scope C cl fp E) V → PE (BlW X s H scope C cl fp E) elt (te V)) (hst : ∀ x, foldedSetIterable iter X.env x = pure x := by intro _; rfl) :
    PE X (.ListComp elt [⟨tg, iter, ifs, 0⟩] scope pos) (fun σ H Q => tLc wi g (tt fun cls d _ H => W cls d σ H) (te fun cls d _ H => W cls d σ H) (own.map (·.2)) σ H Q) := by
  refine ⟨fun pins s σ H Q I h => ?_⟩
  rw [eval_ListComp]
  refine lcQ tk hs hf hc hN I hi ok hg ht he hst h fun D ce s' m H' I' q hn f => ⟨m, hn, fun h'' sb => ?_⟩
  obtain ⟨f0, f1, f2, f3, f4, f5⟩ := f
  exact ⟨.ref D, H', I'.turned (t' := s'.toks) (fun b o nb e => (sb.2 b nb).trans e) f0 f1 f3 f4 f5, rfl, q⟩
end
/-! #### what it makes of data -/
def compQ (b : D → REnv → Option REnv) (c : REnv → R Bool) (e : REnv → R D) : List D → REnv → R (List D)
  | [], _ => .ok []
  | d :: ds, ρ => match b d ρ with
    | none => .bad
    | some ρ' => (c ρ').bind fun k => if k = true then (e ρ').bind fun v => (compQ b c e ds ρ).bind fun r => .ok (v :: r) else compQ b c e ds ρ
def cCompQ (vs : List Nat) (f : REnv → R (List D)) (b : D → REnv → Option REnv) (c : REnv → R Bool) (e : REnv → R D) : REnv → R (List D) :=
  fun ρ => (f ρ).bind fun ds => if ds.length ≤ sizeLine then compQ b c e ds (wipeE ρ vs) else .bad
theorem comp_readO {K : PySem.W.Frag} {W : WX} {vs is : List Nat} {fi : REnv → R (List D)} {t : TG} {b : D → REnv → Option REnv} {c : REnv → R Bool} {e : REnv → R D} (hk : TgOk K t b is) (hs : ∀ i ∈ is, i ∈ vs) {σ : L2.St} {H : Hp} {Q : VK}
    (hh : ∃ G F ρ, RepE K G F H σ ρ ∧ PostO K W σ F H (cCompQ vs fi b c e ρ) Q) : tLc (ri K W fi) t (rt K (fun cls d _ H => W cls d σ H) c) (rd K (fun cls d _ H => W cls d σ H) e) vs σ H Q := by
  obtain ⟨G, F, ρ, r0, p⟩ := hh
  unfold cCompQ at p
  refine ⟨G, F, ρ, r0, ?_⟩
  cases hf : fi ρ with
  | bad => rw [hf] at p; exact p.elim
  | err z => rw [hf] at p; exact p
  | ok ds =>
  rw [hf] at p
  intro J F1 H1 ex1 hJ
  have p1 : PostO K W σ F H (if ds.length ≤ sizeLine then compQ b c e ds (wipeE ρ vs) else .bad) Q := p
  have r1 := (r0.ext ex1).wipe vs
  by_cases hl : ds.length ≤ sizeLine
  case neg => rw [if_neg hl] at p1; exact p1.elim
  rw [if_pos hl] at p1
  intro A hA
  have hF1 : F1 A = none := ex1.s.free hA
  let Pv : Nat → Hp → Prop := fun i H2 => ∃ F' acc ws, Ext F1 H1 F' H2 ∧ F' A = none ∧ H2 A = some (.lst ws) ∧ RepL K F' acc ws ∧ acc.length ≤ i ∧
    PostO K W σ F H ((compQ b c e (ds.drop i) (wipeE ρ vs)).bind fun r => .ok (acc ++ r)) Q
  refine ⟨fun i m H2 => m = ds.length - i ∧ i ≤ ds.length ∧ Pv i H2, ⟨ds.length, by simp, Nat.zero_le _, F1, [], [], Ext.newH ex1.s hA, hF1, upd_same, RepL.nil, Nat.le_refl _, ?_⟩, ?_⟩
  · have z : (compQ b c e (ds.drop 0) (wipeE ρ vs)).bind (fun r => R.ok ([] ++ r)) = compQ b c e ds (wipeE ρ vs) := by
      rw [List.drop_zero]
      cases compQ b c e ds (wipeE ρ vs) <;> rfl
    rw [z]
    exact p1
  rintro i m H2 ⟨rfl, hi, F', acc, ws, ex, hFA, hHA, rl, hal, pp⟩
  by_cases hlt : i < ds.length
  · refine .inr ⟨hJ.go i H2 hlt (ex.f.trans ex.s), Pv (i + 1), fun H' q => ⟨ds.length - (i + 1), by omega, rfl, hlt, q⟩, fun x H' y => ?_⟩
    obtain ⟨F2, d, ex2, ed, rp⟩ := hJ.yld i H2 x H' F' hlt ex.f ex.s y
    have dr : ds.drop i = d :: ds.drop (i + 1) := by
      obtain ⟨h1, h2⟩ := List.getElem?_eq_some_iff.mp ed
      rw [← h2]
      exact List.drop_eq_getElem_cons h1
    rw [dr] at pp
    unfold compQ at pp
    cases hb : b d (wipeE ρ vs) with
    | none => rw [hb] at pp; exact pp.elim
    | some ρ' =>
      rw [hb] at pp
      have r2 : RepE K G F2 H' (L2.wipe σ vs) (wipeE ρ vs) := r1.ext (ex.trans ex2)
      have stay : ∀ {Fa Ha Fb Hb : Hp}, Ext Fa Ha Fb Hb → Fa A = none → Ha A = some (.lst ws) → Fb A = none ∧ Hb A = some (.lst ws) := fun {Fa Ha Fb Hb} z h1 h2 => by
        refine ⟨?_, z.h _ _ h2⟩
        cases q : Fb A with
        | none => rfl
        | some o =>
          have := z.n A o q h1
          rw [h2] at this
          cases this
      obtain ⟨a2, b2⟩ := stay ex2 hFA hHA
      refine hk G F2 H' _ _ ρ' d x _ r2 rp hb fun σ2 r3 o2 => ⟨wipe_only o2 hs, G, F2, ρ', r3, ?_⟩
      cases hc : c ρ' with
      | bad => simp only [hc] at pp; exact pp.elim
      | err z =>
        simp only [hc] at pp
        exact fun cls dd F4 H4 ex4 xd => pp cls dd F4 H4 (ex1.trans ((ex.trans ex2).trans ex4)) xd
      | ok k0 =>
        simp only [hc] at pp
        intro k' F3 H3 ex3 ek
        subst ek
        obtain ⟨a3, b3⟩ := stay ex3 a2 b2
        cases k0 with
        | false =>
          refine iteF ?_
          exact ⟨F3, acc, ws, (ex.trans ex2).trans ex3, a3, b3, RepL.mono (ex2.f.trans ex3.f) _ _ rl, Nat.le_succ_of_le hal, pp⟩
        | true =>
          have pp : PostO K W σ F H (((e ρ').bind fun v => (compQ b c e (ds.drop (i + 1)) (wipeE ρ vs)).bind fun r => .ok (v :: r)).bind fun r => .ok (acc ++ r)) Q := pp
          refine iteT ⟨G, F3, ρ', r3.ext ex3, ?_⟩
          cases he : e ρ' with
          | bad => rw [he] at pp; exact pp.elim
          | err z =>
            rw [he] at pp
            exact fun cls dd F4 H4 ex4 xd => pp cls dd F4 H4 (ex1.trans (((ex.trans ex2).trans ex3).trans ex4)) xd
          | ok v =>
            rw [he] at pp
            have pp2 : PostO K W σ F H ((compQ b c e (ds.drop (i + 1)) (wipeE ρ vs)).bind fun r => .ok ((acc ++ [v]) ++ r)) Q := by
              have z : PostO K W σ F H (((compQ b c e (ds.drop (i + 1)) (wipeE ρ vs)).bind fun r => .ok (v :: r)).bind fun r => .ok (acc ++ r)) Q := pp
              rw [bind_assoc'] at z
              simpa [R.bind] using z
            refine fun y F4 H4 ex4 ry => ?_
            obtain ⟨a4, b4⟩ := stay ex4 a3 b3
            have exA := ((ex.trans ex2).trans ex3).trans ex4
            refine ⟨ws, b4, ?_, F4, acc ++ [v], ws ++ [y], ⟨exA.f, fun q o z => ?_, fun q o z => ?_, exA.n⟩, a4, upd_same, (RepL.mono ((ex2.f.trans ex3.f).trans ex4.f) _ _ rl).snoc ry, ?_, pp2⟩
            · rw [← rl.length]; omega
            · rw [upd_ne (ne_of_none z hA)]; exact exA.h _ _ z
            · rw [upd_ne (ne_of_none z a4)]; exact exA.s _ _ z
            · simp; omega
  · have e : i = ds.length := by omega
    subst e
    rw [List.drop_length] at pp
    have pp : PostO K W σ F H (.ok (acc ++ [])) Q := pp
    rw [List.append_nil] at pp
    exact .inl ⟨hJ.stop H2 (ex.f.trans ex.s), pp A ws F' H2 (ex1.trans ex) hHA rl hFA (by
      cases q : H A with
      | none => rfl
      | some o =>
        have := ex1.h _ _ q
        rw [hA] at this
        cases this)⟩
section
variable {X : Cx} {W : WX} {elt tg iter : Expr} {ifs : List Expr} {scope : Scope} {own : List (Str × Nat)} {pos rp : Pos} {fi : REnv → R (List D)} {t : TG} {b : D → REnv → Option REnv} {c : REnv → R Bool} {e : REnv → R D} {is : List Nat}
end
/-! #### weakest conditions -/
section
variable {b : D → REnv → Option REnv} {c : REnv → R Bool} {e : REnv → R D} {ρ : REnv} {vs : List Nat} {fi : REnv → R (List D)}
theorem compQ_cons {d : D} {ds : List D} {Q : List D → Prop} {E : D → Prop} (h : Got (b d ρ) fun ρ' => (c ρ').wp (fun k => if k = true then (e ρ').wp (fun v => (compQ b c e ds ρ).wp (fun r => Q (v :: r)) E) E else (compQ b c e ds ρ).wp Q E) E) : (compQ b c e (d :: ds) ρ).wp Q E := by
  obtain ⟨ρ', e1, h1⟩ := h
  unfold compQ
  simp only [e1]
  refine wp_bind (h1.post fun k hk => ?_)
  cases k with
  | true => exact wp_bind ((show (e ρ').wp _ E from hk).post fun v hv => wp_bind hv)
  | false => exact hk
/-- what passes is kept -/
theorem compQ_all {α : Type} {f g : α → D} {keep : α → Bool} {E : D → Prop} : ∀ {xs : List α} {Q : List D → Prop}, (∀ x ∈ xs, Got (b (f x) ρ) fun ρ' => (c ρ').wp (fun k => k = keep x ∧ (k = true → (e ρ').wp (fun v => v = g x) E)) E) → Q ((xs.filter keep).map g) → (compQ b c e (xs.map f) ρ).wp Q E
  | [], Q, _, h => h
  | x :: xs, Q, hx, h => by
    obtain ⟨ρ', e1, e2⟩ := hx x List.mem_cons_self
    rw [List.map_cons]
    refine compQ_cons ⟨ρ', e1, e2.post fun k hk => ?_⟩
    obtain ⟨rfl, hk⟩ := hk
    by_cases q : keep x = true
    · rw [if_pos q]
      refine (hk q).post fun v hv => ?_
      subst hv
      refine compQ_all (fun y hy => hx y (List.mem_cons_of_mem _ hy)) ?_
      rw [List.filter_cons, if_pos q] at h
      exact h
    · rw [if_neg q]
      refine compQ_all (fun y hy => hx y (List.mem_cons_of_mem _ hy)) ?_
      rw [List.filter_cons, if_neg q] at h
      exact h
end
end Dy

set_option Elab.async false
set_option linter.all false
set_option maxRecDepth 100000
/-! ### a def's result as a tuple with the caller's own lists in it -/
namespace Dy
open PySem PySem.Spec PyProof.Rows L2
/-- which lists of a result are the caller's own -/
inductive Sh where
  | v | l | t (ss : List Sh)
mutual
def mask : Sh → D → O
  | .l, .lst ds => .l (ds.map .v)
  | .t ss, .tup ds => if ss.length = ds.length then .t (masks ss ds) else .v (.tup ds)
  | _, d => .v d
def masks : List Sh → List D → List O
  | s :: ss, d :: ds => mask s d :: masks ss ds
  | _, ds => ds.map .v
end
def O.unV : List O → Option (List D)
  | [] => some []
  | .v d :: r => (O.unV r).map (d :: ·)
  | _ :: _ => none
def O.unL : O → Option (List D)
  | .l us => O.unV us
  | _ => none
theorem of_unV : ∀ {us : List O} {ds : List D}, O.unV us = some ds → us = ds.map .v
  | [], ds, e => by cases e; rfl
  | o :: us, ds, e => by
    unfold O.unV at e
    split at e
    · rename_i heq; cases heq
    · rename_i d r heq
      cases heq
      cases q : O.unV us with
      | none => rw [q] at e; cases e
      | some es =>
        rw [q] at e
        cases e
        rw [of_unV q]
        rfl
    · cases e
theorem of_unL {o : O} {ds : List D} (e : O.unL o = some ds) : o = .l (ds.map .v) := by
  unfold O.unL at e
  split at e
  · rw [of_unV e]
  · cases e
section
variable {K : PySem.W.Frag} {G F H F' H' : Hp} {σ : St} {ρ : REnv}
theorem OwRs.vals : ∀ {ds : List D} {vs : List V} {fp : List Addr}, OwRs K F H (ds.map .v) vs fp → RepL K F ds vs ∧ fp = []
  | [], vs, fp, h => by
    simp only [List.map_nil, OwRs] at h
    exact ⟨by simp only [RepL]; exact h.1, h.2⟩
  | d :: ds, vs, fp, h => by
    simp only [List.map_cons, OwRs, OwR] at h
    obtain ⟨v, r, f1, f2, h1, h2, ⟨h3, h4⟩, h5⟩ := h
    obtain ⟨q1, q2⟩ := OwRs.vals h5
    subst h1
    exact ⟨RepL.cons h3 q1, by rw [h2, h4, q2]; rfl⟩
theorem OwRs.ofVals : ∀ {ds : List D} {vs : List V}, RepL K F ds vs → OwRs K F H (ds.map .v) vs []
  | [], vs, h => by
    simp only [RepL] at h
    simp only [List.map_nil, OwRs]
    exact ⟨h, trivial⟩
  | d :: ds, vs, h => by
    simp only [RepL] at h
    obtain ⟨v, r, h1, h2, h3⟩ := h
    simp only [List.map_cons, OwRs, OwR]
    exact ⟨v, r, [], [], h1, rfl, ⟨h2, rfl⟩, OwRs.ofVals h3⟩
theorem OwR.ofL {ds : List D} {a : Addr} {ws : List V} (h : H a = some (.lst ws)) (r : RepL K F ds ws) : OwR K F H (.l (ds.map .v)) (.ref a) [a] := by
  simp only [OwR]
  exact ⟨a, ws, [], rfl, h, rfl, OwRs.ofVals r⟩
theorem OwR.inL {ds : List D} {v : V} {fp : List Addr} (h : OwR K F H (.l (ds.map .v)) v fp) : ∃ a ws, v = .ref a ∧ H a = some (.lst ws) ∧ RepL K F ds ws ∧ fp = [a] := by
  simp only [OwR] at h
  obtain ⟨a, ws, fq, h1, h2, h3, h4⟩ := h
  obtain ⟨q1, q2⟩ := OwRs.vals h4
  exact ⟨a, ws, h1, h2, q1, by rw [h3, q2]⟩
/-- one of the lists turns -/
theorem OwRs.at_ : ∀ {os : List O} {vs : List V} {fp : List Addr} {k : Nat} {ds : List D}, OwRs K F H os vs fp → fp.Nodup → os[k]? = some (.l (ds.map .v)) →
    ∃ b ws, vs[k]? = some (.ref b) ∧ H b = some (.lst ws) ∧ b ∈ fp ∧ RepL K F ds ws ∧ ∀ es us, RepL K F es us → OwRs K F (upd H b (.lst us)) (os.set k (.l (es.map .v))) vs fp
  | [], vs, fp, k, ds, h, nd, e => by simp at e
  | o :: os, vs, fp, 0, ds, h, nd, e => by
    simp only [OwRs] at h
    obtain ⟨v, r, f1, f2, h1, h2, h3, h4⟩ := h
    have e : some o = some (O.l (ds.map .v)) := e
    cases e
    obtain ⟨a, ws, e1, e2, e3, e4⟩ := h3.inL
    subst h1; subst h2; subst e1; subst e4
    have na : a ∉ f2 := (List.nodup_cons.mp (show (a :: f2).Nodup from nd)).1
    refine ⟨a, ws, rfl, e2, by simp, e3, fun es us r' => ?_⟩
    simp only [List.set_cons_zero, OwRs]
    exact ⟨.ref a, r, [a], f2, rfl, rfl, OwR.ofL upd_same r', OwRs.move (.refl _) os r f2 h4 fun b hb => upd_ne fun z => na (z ▸ hb)⟩
  | o :: os, vs, fp, k + 1, ds, h, nd, e => by
    simp only [OwRs] at h
    obtain ⟨v, r, f1, f2, h1, h2, h3, h4⟩ := h
    subst h1; subst h2
    obtain ⟨nd1, nd2, nd3⟩ := List.nodup_append.mp nd
    obtain ⟨b, ws, q1, q2, q3, q4, q5⟩ := OwRs.at_ h4 nd2 (show os[k]? = _ from e)
    refine ⟨b, ws, q1, q2, List.mem_append_right _ q3, q4, fun es us r' => ?_⟩
    simp only [List.set_cons_succ, OwRs]
    exact ⟨v, r, f1, f2, rfl, rfl, OwR.move (.refl _) o v f1 h3 fun c hc => upd_ne fun z => nd3 c hc b q3 z, q5 es us r'⟩
theorem OwRs.length : ∀ {os : List O} {vs : List V} {fp : List Addr}, OwRs K F H os vs fp → os.length = vs.length
  | [], vs, fp, h => by
    simp only [OwRs] at h
    rw [h.1]
    rfl
  | o :: os, vs, fp, h => by
    simp only [OwRs] at h
    obtain ⟨v, r, f1, f2, h1, h2, h3, h4⟩ := h
    rw [h1, List.length_cons, List.length_cons, OwRs.length h4]
/-- the thing of one's own at a slot -/
theorem tree_at (r : RepE K G F H σ ρ) {i : Nat} {o : O} (h : ρ[i]? = some (.tree o)) : ∃ v fp, σ[i]? = some (some v) ∧ OwR K F H o v fp ∧ fp.Nodup ∧ ∀ a ∈ fp, F a = none ∧ G a = none := by
  have hl : i < σ.length := by
    rw [← r.len]
    exact (List.getElem?_eq_some_iff.mp h).1
  obtain ⟨v, fp, e1, e2, e3, e4⟩ := r.at_ i _ _ h (List.getElem?_eq_getElem hl)
  exact ⟨v, fp, by rw [List.getElem?_eq_getElem hl, e1], e2, e3, e4⟩
end
/-! #### results -/
def PostT (K : PySem.W.Frag) (W : WX) (σ : St) (F H : Hp) (x : R O) (Q : V → Hp → Prop) : Prop := match x with
  | .ok o => ∀ v fp F' H', Ext F H F' H' → OwR K F' H' o v fp → fp.Nodup → (∀ a ∈ fp, F' a = none ∧ H a = none) → Q v H'
  | .err e => ∀ cls dd F' H', Ext F H F' H' → XD K F' e cls dd → W cls dd σ H'
  | .bad => False
def spT (K : PySem.W.Frag) (n : Nat) (fn : List D → R O) : Sp := fun vs H Q E => vs.length = n ∧ ∃ F ds, Same F H ∧ RepL K F ds vs ∧ PostT K (fun cls dd _ H' => E cls dd H') [] F H (fn ds) Q
def PostST (K : PySem.W.Frag) (W : WX) (sh : Sh) (D : Ends) (G F : Hp) (x : SR) : Prop := match x with
  | .next ρ => ∀ σ' F' H', Same F F' → NewG G F F' → RepE K G F' H' σ' ρ → D.nx σ' H'
  | .ret d => ∀ v fp F' H', Same F F' → NewG G F F' → Same G H' → Same F' H' → OwR K F' H' (mask sh d) v fp → fp.Nodup → (∀ a ∈ fp, F' a = none ∧ G a = none) → D.rt v H'
  | .err e ρ => ∀ σ' F' H' cls dd, Same F F' → NewG G F F' → RepE K G F' H' σ' ρ → XD K F' e cls dd → W cls dd σ' H'
  | .bad => False
section
variable {α β : Type} {K : PySem.W.Frag} {W : WX} {sh : Sh} {D D' : Ends} {G F F' H : Hp} {σ : St} {ρ : REnv}
theorem PostST.ext {x : SR} (s : Same F F') (n : NewG G F F') (h : PostST K W sh D G F x) : PostST K W sh D G F' x := by
  cases x with
  | next ρ => exact fun σ' F2 H' s2 n2 r => h σ' F2 H' (s.trans s2) (n.trans n2) r
  | ret d => exact fun v fp F2 H' s2 n2 => h v fp F2 H' (s.trans s2) (n.trans n2)
  | err e ρ => exact fun σ' F2 H' cls dd s2 n2 r x => h σ' F2 H' cls dd (s.trans s2) (n.trans n2) r x
  | bad => exact h
theorem PostST.toS {rel : Hp → α → β → Prop} {x : R α} {k : α → SR} {Q : β → Hp → Prop} (r : RepE K G F H σ ρ) (h : PostST K W sh D G F (x.toS ρ k))
    (f : ∀ a v F' H', x = .ok a → Ext F H F' H' → rel F' a v → RepE K G F' H' σ ρ → PostST K W sh D G F' (k a) → Q v H') : Post K W rel σ F H x Q := by
  cases x with
  | ok a => exact fun v F' H' e p => f a v F' H' rfl e p (r.ext e) (PostST.ext e.f (e.newG r.g) h)
  | err e => exact fun cls dd F' H' ex p => h σ F' H' cls dd ex.f (ex.newG r.g) (r.ext ex) p
  | bad => exact h
theorem PostST.seq {x : SR} {g : REnv → SR} {nx : St → Hp → Prop} (h : PostST K W sh D G F (x.seq g))
    (f : ∀ ρ σ' F' H', x = .next ρ → Same F F' → NewG G F F' → RepE K G F' H' σ' ρ → PostST K W sh D G F' (g ρ) → nx σ' H') : PostST K W sh { D with nx := nx } G F x := by
  cases x with
  | next ρ => exact fun σ' F' H' s n r => f ρ σ' F' H' rfl s n r (PostST.ext s n h)
  | ret d => exact h
  | err e ρ => exact h
  | bad => exact h
end
section
variable {X : Cx} {W : WX} {sh : Sh} {st : Stmt} {rest : List Stmt} {g h : REnv → SR} {e : Expr} {f : REnv → R D} {pos : Pos}
/-! #### the pieces of a tuple that is told -/
/-- an expression that makes a new list -/
abbrev SEO (X : Cx) (W : WX) (e : Expr) (x : REnv → R (List D)) : Prop := PE X e (fun σ H Q => ∃ G F ρ, RepE X.K G F H σ ρ ∧ PostO X.K W σ F H (x ρ) Q)
/-- new, or of one's own at one of the slots -/
def Fr (H : Hp) (σ : St) (ρ : REnv) (I : List Nat) (a : Addr) : Prop := H a = none ∨ ∃ i ∈ I, ∃ ds, ρ[i]? = some (.own ds) ∧ σ[i]? = some (some (.ref a))
def PostA (K : PySem.W.Frag) (W : WX) (σ : St) (ρ : REnv) (I : List Nat) (F H : Hp) (x : R (List O)) (Q : List V → Hp → Prop) : Prop := match x with
  | .ok os => ∀ vs fp F' H', Ext F H F' H' → OwRs K F' H' os vs fp → fp.Nodup → (∀ a ∈ fp, F' a = none ∧ Fr H σ ρ I a) → Q vs H'
  | .err e => ∀ cls dd F' H', Ext F H F' H' → XD K F' e cls dd → W cls dd σ H'
  | .bad => False
abbrev SAO (X : Cx) (W : WX) (I : List Nat) (es : List Expr) (t : REnv → R (List O)) : Prop := PA X es (fun σ H Q => ∃ G F ρ, RepE X.K G F H σ ρ ∧ PostA X.K W σ ρ I F H (t ρ) Q)
def tNil : REnv → R (List O) := fun _ => .ok []
def tN (x : REnv → R (List D)) (t : REnv → R (List O)) : REnv → R (List O) := fun ρ => (x ρ).bind fun ds => (t ρ).bind fun os => .ok (.l (ds.map .v) :: os)
theorem PostA.bind {K : PySem.W.Frag} {σ : St} {ρ : REnv} {I : List Nat} {F H F1 H1 : Hp} {x : R (List O)} {k : List O → List O} {Q Q' : List V → Hp → Prop} (h : PostA K W σ ρ I F H (x.bind fun os => .ok (k os)) Q) (ex : Ext F H F1 H1)
    (f : ∀ os vs fp F' H', x = .ok os → Ext F1 H1 F' H' → OwRs K F' H' os vs fp → fp.Nodup → (∀ a ∈ fp, F' a = none ∧ Fr H1 σ ρ I a) → (∀ vs' fp', OwRs K F' H' (k os) vs' fp' → fp'.Nodup → (∀ a ∈ fp', F' a = none ∧ Fr H σ ρ I a) → Q vs' H') → Q' vs H') : PostA K W σ ρ I F1 H1 x Q' := by
  cases x with
  | ok os => exact fun vs fp F' H' ex2 o nd fr => f os vs fp F' H' rfl ex2 o nd fr fun vs' fp' o' nd' fr' => h vs' fp' F' H' (ex.trans ex2) o' nd' fr'
  | err e => exact fun cls dd F' H' ex2 xd => h cls dd F' H' (ex.trans ex2) xd
  | bad => exact h
theorem Fr.old {H H1 : Hp} {σ : St} {ρ : REnv} {I : List Nat} {a : Addr} (s : Same H H1) (h : Fr H1 σ ρ I a) : Fr H σ ρ I a := h.elim (fun z => .inl (s.free z)) .inr
theorem sao_nil : SAO X W [] [] tNil := pa_nil.dy fun σ H Q ⟨G, F, ρ, r, p⟩ => p [] [] F H (.refl r.f) (by simp only [OwRs]; exact ⟨trivial, trivial⟩) List.nodup_nil fun a h => nomatch h
theorem sao_n {I : List Nat} {es : List Expr} {x : REnv → R (List D)} {t : REnv → R (List O)} (ha : SEO X W e x) (hr : SAO X W I es t) (hs : starEach (e :: es) X.env = (false, eval e X.env) :: starEach es X.env := by rfl) : SAO X W I (e :: es) (tN x t) :=
  (pa_cons ha hr hs).dy fun σ H Q ⟨G, F, ρ, r, p⟩ => ⟨G, F, ρ, r, by
    unfold tN at p
    cases q : x ρ with
    | bad => rw [q] at p; exact p.elim
    | err z => rw [q] at p; exact p
    | ok ds =>
      rw [q] at p
      intro a ws F1 H1 ex h1 h2 h3 h4
      refine ⟨G, F1, ρ, r.ext ex, PostA.bind p ex fun os vs fp F2 H2 _ ex2 o nd fr k => k (.ref a :: vs) (a :: fp) ?_ ?_ ?_⟩
      · simp only [OwRs]
        exact ⟨.ref a, vs, [a], fp, rfl, rfl, OwR.ofL (ex2.h _ _ h1) (RepL.mono ex2.f _ _ h2), o⟩
      · refine List.nodup_cons.mpr ⟨fun ha => ?_, nd⟩
        rcases (fr a ha).2 with z | ⟨i, _, es', e1, e2⟩
        · rw [h1] at z; cases z
        · obtain ⟨b, us, e3, e4, _⟩ := own_at r e1
          rw [e2] at e3
          cases e3
          rw [h4] at e4
          cases e4
      · intro b hb
        rcases List.mem_cons.mp hb with rfl | hb
        · refine ⟨?_, .inl h4⟩
          cases z : F2 b with
          | none => rfl
          | some u =>
            have := ex2.n b u z h3
            rw [h1] at this
            cases this
        · exact ⟨(fr b hb).1, (fr b hb).2.old ex.h⟩⟩
open Classical in
end
section
variable {X : Cx} {W : WX} {elt tg iter : Expr} {ifs : List Expr} {scope : Scope} {own : List (Str × Nat)} {pos rp : Pos} {fi : REnv → R (List D)} {t : TG} {b : D → REnv → Option REnv} {c : REnv → R Bool} {e : REnv → R D} {is : List Nat}
/-- a comprehension is a new list -/
theorem seo_comp (tk : Takes X W) (hst : X.stack = X.env :: X.outer) (hf : X.env.frame = some X.env.locals) (hc : X.calm = true) (hN : X.N.Nodup) (ok : BlkOk X.N X.env.scope scope own) (hi : SI X W tg iter fi) (hk : TgOk X.K t b is)
    (hg : ∀ s H C cl fp E, PG (BlW X s H scope C cl fp E) tg t) (ht : ∀ s H C cl fp E V, TakesC (BlW X s H scope C cl fp E) V → SIf (BlW X s H scope C cl fp E) V ifs c)
    (he : ∀ s H C cl fp E V, TakesC (BlW X s H scope C cl fp E) V → SE (BlW X s H scope C cl fp E) V elt e) (hsub : (is.all fun i => (own.map (·.2)).contains i) = true := by decide)
    (hs : ∀ x, foldedSetIterable iter X.env x = pure x := by intro _; rfl) : SEO X W (.ListComp elt [⟨tg, iter, ifs, 0⟩] scope pos) (cCompQ (own.map (·.2)) fi b c e) :=
  (pe_lcQ (te := fun V => rd X.K V e) (tt := fun V => rt X.K V c) tk hst hf hc hN hi ok hg ht he hs).dy fun σ H Q ⟨G, F, ρ, r, p⟩ => comp_readO (Q := Q) hk (fun i h => List.contains_iff_mem.mp (List.all_eq_true.mp hsub i h)) ⟨G, F, ρ, r, p⟩
end
/-! #### defs -/
section
variable {P : Program} {w : World} {K : PySem.W.Frag} {mg : Str → Option Value} {base : Heap} {x qual : Str} {params : Arguments} {body : List Stmt} {scope : Scope} {f : Addr} {fd : FuncData} {N ps : List Str} {k : Nat} {sh : Sh}
structure CalT (P : Program) (w : World) (K : PySem.W.Frag) (mg : Str → Option Value) (base : Heap) (x : Str) (k n : Nat) (fn : List D → R O) : Prop where
  ex : ∃ (f : Addr) (fd : FuncData) (ps : List Str), FnOk P w K mg base (L2.CX P w) k f fd ps (spT K n fn) ∧ mg x = some (.ref f) ∧ PySem.W.keepIn K (.ref f) = true ∧ Binds K fd ps []
  len : ∀ ds, ds.length ≠ n → fn ds = .bad
end
section
variable {X : Cx} {W : WX} {e : Expr} {es : List Expr} {x y : Str} {p pos pos' cp : Pos} {k n : Nat} {t : REnv → R (List D)} {fn : List D → R O}
end
/-! #### for p in x: p.clear() -/
theorem set_same {α : Type} {l : List α} {j : Nat} {x : α} (h : l[j]? = some x) : l.set j x = l := by
  obtain ⟨hl, he⟩ := List.getElem?_eq_some_iff.mp h
  rw [← he]
  exact List.set_getElem_self hl
section
variable {X : Cx} {W : WX} {pos p1 p2 p3 p4 p5 p6 : Pos} {x y : Str}
end
end Dy
namespace Dy
open PySem PySem.Spec PyProof.Rows L2
section
variable {ρ : REnv} {N : REnv → Prop} {T : D → Prop} {E : D → REnv → Prop} {g : REnv → SR} {f : REnv → R D} {P E' : D → Prop}
theorem wp_tNil {Q : List O → Prop} (h : Q []) : (tNil ρ).wp Q E' := h
theorem wp_tN {Q : List O → Prop} {x : REnv → R (List D)} {t : REnv → R (List O)} (h : (x ρ).wp (fun ds => (t ρ).wp (fun os => Q (.l (ds.map .v) :: os)) E') E') : (tN x t ρ).wp Q E' := wp_bind (h.post fun d h1 => wp_bind (h1.post fun os h2 => h2))
theorem wp_cCompQ {Q : List D → Prop} {vs : List Nat} {fi : REnv → R (List D)} {b : D → REnv → Option REnv} {c : REnv → R Bool} {e : REnv → R D} (h : (fi ρ).wp (fun ds => Fits ds.length (Wipe ρ vs fun ρ' => (compQ b c e ds ρ').wp Q E')) E') : (cCompQ vs fi b c e ρ).wp Q E' := by
  unfold cCompQ
  refine wp_bind (h.post fun ds ⟨h1, h2⟩ => ?_)
  rw [if_pos h1]
  exact h2
end
end Dy

set_option Elab.async false
set_option linter.all false
set_option maxRecDepth 100000
/-! ### new lists as one's own; reading and adding to lists within one's own tuple -/
namespace Dy
open PySem PySem.Spec PyProof.Rows L2
section
variable {X : Cx} {W : WX} {sh : Sh} {e : Expr} {x : REnv → R (List D)} {f : REnv → R D} {pos pos' p : Pos} {y : Str}
/-- y = e, e a new list -/
def sOwnN (i : Nat) (x : REnv → R (List D)) : REnv → SR := fun ρ => (x ρ).toS ρ fun ds => .next (ρ.set i (.own ds))
theorem ss_ownN {i : Nat} (hN : X.N.Nodup) (he : SEO X W e x) (hi : X.N[i]? = some y := by rfl) (hx : Loc X.env.scope y := by first | exact Or.inl rfl | exact Or.inr rfl) (hs : swapsWith e (some (.Name y pos')) pos.line X.env = pure false := by rfl)
    (hf : X.fn y = true ∨ X.env.scope.names.lookup y = some .local := by first | exact .inl rfl | exact .inr rfl | assumption) : SS X W (.Assign [.Name y pos'] e pos) (sOwnN i x) :=
  (ps_set hN hi hx he hs hf).dy fun D σ H ⟨G, F, ρ, r, p⟩ => ⟨G, F, ρ, r, by
    unfold sOwnN at p
    cases q : x ρ with
    | bad => rw [q] at p; exact p.elim
    | err z =>
      rw [q] at p
      exact fun cls dd F2 H2 ex2 xd => p σ F2 H2 cls dd ex2.f (ex2.newG r.g) (r.ext ex2) xd
    | ok ds =>
      rw [q] at p
      exact fun a ws F2 H2 ex2 h1 h2 h3 h4 => p _ F2 H2 ex2.f (ex2.newG r.g) (r.setO2 ex2 h2 h4 h1 h3)⟩
end
section
variable {X : Cx} {W : WX} {sh : Sh} {st : Stmt} {g : REnv → SR}
end
/-! #### reading what is one's own, the answer without lists -/
section
variable {K : PySem.W.Frag} {F F' : Hp} {fp : List Addr}
theorem seqT_dropN {p : Addr} {us : List V} (e : ∀ a ∈ fp, (∃ vs, F a = some (.lst vs)) ∨ ∃ z, F a = some (.dK z)) (h : ∀ b, b ∉ fp → F' b = F b) (q : SqT K F p us) : SqT K F' p us := by
  rcases q with (q | ⟨o, q⟩) | q
  · exact .inl (.inl (by rw [h p (fun z => by rcases e p z with ⟨vs, e1⟩ | ⟨vs, e1⟩ <;> (rw [e1] at q; cases q))]; exact q))
  · exact .inl (.inr ⟨o, by rw [h p (fun z => by rcases e p z with ⟨vs, e1⟩ | ⟨vs, e1⟩ <;> (rw [e1] at q; cases q))]; exact q⟩)
  · exact .inr q
mutual
theorem rep_dropN (e : ∀ a ∈ fp, (∃ vs, F a = some (.lst vs)) ∨ ∃ z, F a = some (.dK z)) (h : ∀ b, b ∉ fp → F' b = F b) : ∀ (d : D) (v : V), noL d = true → Rep K F d v → Rep K F' d v
  | .non, v, _, r => by simpa [Rep] using r
  | .bl b, v, _, r => by simpa [Rep] using r
  | .int i, v, _, r => by simpa [Rep] using r
  | .str x, v, _, r => by simpa [Rep] using r
  | .tup xs, v, n, r => by
    simp only [Rep] at r ⊢
    obtain ⟨p, us, h1, h2, h3⟩ := r
    exact ⟨p, us, h1, seqT_dropN e h h2, repL_dropN e h xs us n h3⟩
theorem repL_dropN (e : ∀ a ∈ fp, (∃ vs, F a = some (.lst vs)) ∨ ∃ z, F a = some (.dK z)) (h : ∀ b, b ∉ fp → F' b = F b) : ∀ (ds : List D) (us : List V), noLs ds = true → RepL K F ds us → RepL K F' ds us
  | [], us, _, r => by simpa [RepL] using r
  | d :: ds, us, n, r => by
    simp only [RepL] at r ⊢
    obtain ⟨v, rr, h1, h2, h3⟩ := r
    have n : (noL d && noLs ds) = true := n
    rw [Bool.and_eq_true] at n
    exact ⟨v, rr, h1, rep_dropN e h d v n.1 h2, repL_dropN e h ds rr n.2 h3⟩
end
end
/-! #### x[k].append(e), x one's own -/
section
variable {X : Cx} {W : WX} {e : Expr} {f : REnv → R D} {pos np cp sp ap xp : Pos} {x : Str} {j : Nat}
end
section
variable {ρ : REnv} {N : REnv → Prop} {T : D → Prop} {E : D → REnv → Prop} {f : REnv → R D} {P E' : D → Prop}
theorem sp_ownN {i : Nat} {x : REnv → R (List D)} (h : (x ρ).wp (fun ds => Upd ρ i (.own ds) N) (fun e => E e ρ)) : (sOwnN i x ρ).wp N T E := wp_toS h
end
end Dy

set_option Elab.async false
set_option linter.all false
set_option maxRecDepth 100000
/-! ### x[k] = e, x one's own list -/
namespace Dy
open PySem PySem.Spec PyProof.Rows L2

section
variable {X : Cx} {W : WX} {e b : Expr} {f g : REnv → R D} {pos sp np : Pos} {x : Str}
end
section
variable {ρ : REnv} {N : REnv → Prop} {T : D → Prop} {E : D → REnv → Prop} {f g : REnv → R D} {i : Nat} {ds : List D}
end
end Dy

set_option Elab.async false
set_option linter.all false
set_option maxRecDepth 100000
/-! ### more new lists; a list of lists as one's own; x[k][j] = e there -/
namespace Dy
open PySem PySem.Spec PyProof.Rows L2
section
variable {X : Cx} {W : WX} {a b e : Expr} {es : List Expr} {f g : REnv → R D} {t : REnv → R (List D)} {pos pos' lp p np cp sp sq : Pos} {x y : Str} {k n : Nat} {fn : List D → R D}
/-- y = [.., ..], lists of it one's own too -/
def sOwnT (i : Nat) (t : REnv → R (List O)) : REnv → SR := fun ρ => (t ρ).toS ρ fun os => if os.length ≤ sizeLine then .next (ρ.set i (.tree (.l os))) else .bad
theorem ss_ownT {i : Nat} {t : REnv → R (List O)} (hN : X.N.Nodup) (ha : SAO X W [] es t) (hi : X.N[i]? = some y := by rfl) (hx : Loc X.env.scope y := by first | exact Or.inl rfl | exact Or.inr rfl) (hs : swapsWith (.List es lp) (some (.Name y pos')) pos.line X.env = pure false := by rfl)
    (hf : X.fn y = true ∨ X.env.scope.names.lookup y = some .local := by first | exact .inl rfl | exact .inr rfl | assumption) : SS X W (.Assign [.Name y pos'] (.List es lp) pos) (sOwnT i t) :=
  (ps_set hN hi hx (pe_lst ha) hs hf).dy fun D σ H ⟨G, F, ρ, r, p⟩ => ⟨G, F, ρ, r, by
    unfold sOwnT at p
    cases q : t ρ with
    | bad => rw [q] at p; exact p.elim
    | err z =>
      rw [q] at p
      exact fun cls dd F2 H2 ex2 xd => p σ F2 H2 cls dd ex2.f (ex2.newG r.g) (r.ext ex2) xd
    | ok os =>
      rw [q] at p
      have p : PostS X.K W D G F (if os.length ≤ sizeLine then SR.next (ρ.set i (.tree (.l os))) else .bad) := p
      intro vs fp F1 H1 ex o nd fr
      by_cases hl : os.length ≤ sizeLine
      · rw [if_pos hl] at p
        refine ⟨by rw [← o.length]; exact hl, fun a ha => ?_⟩
        have nx : Ext F1 H1 F1 (upd H1 a (.lst vs)) := Ext.newH ex.s ha
        have ex2 := ex.trans nx
        have nofp : ∀ b ∈ fp, b ≠ a := fun b hb e => by
          obtain ⟨us, hu⟩ := OwRs.inH os vs fp o b hb
          rw [e, ha] at hu
          cases hu
        refine p _ F1 _ ex2.f (ex2.newG r.g) (r.setT ex2 (v := .ref a) (fp := a :: fp) ?_ (List.nodup_cons.mpr ⟨fun h => nofp a h rfl, nd⟩) fun b hb => ?_)
        · simp only [OwR]
          exact ⟨a, vs, fp, rfl, upd_same, rfl, OwRs.move (.refl _) os vs fp o fun b hb => upd_ne (nofp b hb)⟩
        · rcases List.mem_cons.mp hb with rfl | hb
          · exact ⟨ex.h.free ha, ex.s.free ha⟩
          · rcases (fr b hb).2 with z | ⟨i, hi, _⟩
            · exact ⟨z, (fr b hb).1⟩
            · exact nomatch hi
      · rw [if_neg hl] at p; exact p.elim⟩
end
section
variable {ρ : REnv} {N : REnv → Prop} {T : D → Prop} {E : D → REnv → Prop} {f g : REnv → R D} {t : REnv → R (List D)} {Q : List D → Prop} {E' : D → Prop}
theorem sp_ownT {i : Nat} {t : REnv → R (List O)} (h : (t ρ).wp (fun os => os.length ≤ sizeLine ∧ Upd ρ i (.tree (.l os)) N) (fun e => E e ρ)) : (sOwnT i t ρ).wp N T E := wp_toS (h.post fun os ⟨h1, h2⟩ => by rw [if_pos h1]; exact h2)
end
end Dy

set_option Elab.async false
set_option linter.all false
set_option maxRecDepth 100000
/-! ### x.extend(a tuple), x one's own list -/
namespace Dy
open PySem PySem.Spec PyProof.Rows L2
section
variable {X : Cx}
end
section
variable {X : Cx} {W : WX} {e : Expr} {f : REnv → R D} {pos : Pos}
end
section
variable {ρ : REnv} {N : REnv → Prop} {T : D → Prop} {E : D → REnv → Prop} {f : REnv → R D}
end
/-! ### x[k].append(e), x a list of lists of one's own -/
section
variable {X : Cx} {W : WX} {e b : Expr} {f g : REnv → R D} {pos np sp ap xp : Pos} {x : Str}
end
section
variable {ρ : REnv} {N : REnv → Prop} {T : D → Prop} {E : D → REnv → Prop} {f g : REnv → R D}
end
end Dy

set_option Elab.async false
set_option linter.all false
set_option maxRecDepth 100000
/-! ### a def that changes, in its place, a thing that is its caller's own -/
namespace Dy
open PySem PySem.Spec PyProof.Rows L2
open Classical (choose choose_spec)
mutual
def encO : O → D
  | .v d => .tup [d]
  | .l os => .lst (encOs os)
  | .t os => .dct [] (encOs os)
  | .m ks os => .dct (.inl 0 :: ks) (encOs os)
def encOs : List O → List D
  | [] => []
  | o :: os => encO o :: encOs os
end
mutual
def decO : D → O
  | .tup [d] => .v d
  | .lst xs => .l (decOs xs)
  | .dct (_ :: ks) xs => .m ks (decOs xs)
  | .dct [] xs => .t (decOs xs)
  | _ => .v .non
def decOs : List D → List O
  | [] => []
  | d :: ds => decO d :: decOs ds
end
mutual
theorem decO_enc : ∀ o : O, decO (encO o) = o
  | .v d => by simp only [encO, decO]
  | .l os => by simp only [encO, decO, decOs_enc os]
  | .t os => by simp only [encO, decO, decOs_enc os]
  | .m ks os => by simp only [encO, decO, decOs_enc os]
theorem decOs_enc : ∀ os : List O, decOs (encOs os) = os
  | [] => by simp only [encOs, decOs]
  | o :: os => by simp only [encOs, decOs, decO_enc o, decOs_enc os]
end
/-- what is told, with the thing's new state -/
def withO (o : O) (d : D) : D := .tup [encO o, d]
open Classical in
noncomputable def less (H : Hp) (fp : List Addr) : Hp := fun a => if a ∈ fp then none else H a
theorem less_in {H : Hp} {fp : List Addr} {a : Addr} (h : a ∈ fp) : less H fp a = none := by
  unfold less
  rw [if_pos h]
theorem less_out {H : Hp} {fp : List Addr} {a : Addr} (h : a ∉ fp) : less H fp a = H a := by
  unfold less
  rw [if_neg h]
theorem less_same (H : Hp) (fp : List Addr) : Same (less H fp) H := fun a o e => by
  by_cases q : a ∈ fp
  · rw [less_in q] at e; cases e
  · rw [less_out q] at e; exact e
theorem less_of {G H : Hp} {fp : List Addr} (s : Same G H) (h : ∀ a ∈ fp, G a = none) : Same G (less H fp) := fun a o e => by
  by_cases q : a ∈ fp
  · rw [h a q] at e; cases e
  · rw [less_out q]; exact s _ _ e
def ownAt (ρ : REnv) (i : Nat) : Option O := match ρ[i]? with
  | some (.own ds) => some (.l (ds.map .v))
  | some (.tree o) => some o
  | some (.pin _ o) => some o
  | _ => none
def backAt (ρ : REnv) (i : Nat) (o : O) : Option REnv := match ρ[i]? with
  | some (.own _) => o.unL.map fun ds => ρ.set i (.own ds)
  | some (.tree _) => some (ρ.set i (.tree o))
  | some (.pin w _) => some (ρ.set i (.pin w o))
  | _ => none
section
variable {K : PySem.W.Frag} {G F H F' H' : Hp} {σ : St} {ρ ρ' : REnv} {i : Nat} {o o' : O} {v : V} {fp fp' : List Addr}
theorem own_get (r : RepE K G F H σ ρ) (h : ownAt ρ i = some o) : ∃ v fp, σ[i]? = some (some v) ∧ OwR K F H o v fp ∧ fp.Nodup ∧ (∀ a ∈ fp, F a = none ∧ G a = none) ∧
    (∀ (j : Nat) (s : Sl) (x : Option V) (b : Addr), j ≠ i → ρ[j]? = some s → σ[j]? = some x → Owned K F H s x b → b ∉ fp) := by
  unfold ownAt at h
  split at h
  · rename_i ds z
    cases h
    obtain ⟨a, vs, e1, e2, e3⟩ := own_at r z
    obtain ⟨a', vs', f1, f2, f3, f4, f5⟩ := r.at_ i _ _ z e1
    cases f1
    refine ⟨.ref a, [a], e1, OwR.ofL e2 e3, by simp, fun b hb => ?_, fun j s x b hj h1 h2 ob hb => ?_⟩
    · rw [List.mem_singleton.mp hb]; exact ⟨f4, f5⟩
    · rw [List.mem_singleton.mp hb] at ob
      exact r.ap j i s _ x _ a hj h1 z h2 e1 ob rfl
  · rename_i o1 z
    cases h
    obtain ⟨v, fp, e1, e2, e3, e4⟩ := tree_at r z
    exact ⟨v, fp, e1, e2, e3, e4, fun j s x b hj h1 h2 ob hb => r.ap j i s _ x _ b hj h1 z h2 e1 ob ⟨v, fp, rfl, e2, hb⟩⟩
  · rename_i w o1 z
    cases h
    have hl : i < σ.length := by
      rw [← r.len]
      exact (List.getElem?_eq_some_iff.mp z).1
    obtain ⟨e0, v, fp, e1, e2, e3, e4⟩ := r.at_ i _ _ z (List.getElem?_eq_getElem hl)
    have hs : σ[i]? = some (some v) := by rw [List.getElem?_eq_getElem hl, e1]
    exact ⟨v, fp, hs, e2, e3, e4, fun j s x b hj h1 h2 ob hb => r.ap j i s _ x _ b hj h1 z h2 hs ob ⟨v, fp, rfl, e2, hb⟩⟩
  · cases h
/-- the heap behind such a def: what is not the thing's own stays -/
structure Back (F H : Hp) (fp : List Addr) (F' H' : Hp) : Prop where
  f : Same F F'
  h : Same (less H fp) H'
  s : Same F' H'
  n : ∀ a u, F' a = some u → F a = none → less H fp a = none
theorem Back.newG (b : Back F H fp F' H') (g : Same G H) (k : ∀ a ∈ fp, G a = none) : NewG G F F' := fun a u h1 h2 => (less_of g k).free (b.n a u h1 h2)
theorem Back.refl (s : Same F H) (k : ∀ a ∈ fp, F a = none) : Back F H fp F H := ⟨.refl _, less_same _ _, s, fun a u h1 h2 => by rw [h2] at h1; cases h1⟩
theorem RepE.back (r : RepE K G F H σ ρ) (h : ownAt ρ i = some o) (hs : σ[i]? = some (some v)) (hv : OwR K F H o v fp) (b : Back F H fp F' H') (hv' : OwR K F' H' o' v fp') (nd : fp'.Nodup) (fr : ∀ a ∈ fp', F' a = none ∧ less H fp a = none)
    (hb : backAt ρ i o' = some ρ') : RepE K G F' H' σ ρ' ∧ NewG G F F' := by
  obtain ⟨v1, fp1, g1, g2, g3, g4, g5⟩ := own_get r h
  rw [hs] at g1
  cases g1
  rw [OwR.uniq o v fp1 fp g2 hv] at g3 g4 g5
  have gk : ∀ a ∈ fp, G a = none := fun a ha => (g4 a ha).2
  have gl := less_of r.g gk
  have ng := b.newG r.g gk
  refine ⟨?_, ng⟩
  have es : σ.set i (some v) = σ := set_same hs
  have keep : ∀ (j : Nat) (s : Sl) (x : Option V) (c : Addr), j ≠ i → ρ[j]? = some s → σ[j]? = some x → Owned K F H s x c → H' c = H c ∧ F' c = none := fun j s x c hj h1 h2 oc => by
    obtain ⟨⟨u, hu⟩, hf, _⟩ := (r.at_ j s x h1 h2).own oc
    have hc := g5 j s x c hj h1 h2 oc
    have hl : less H fp c = some u := by rw [less_out hc]; exact hu
    refine ⟨by rw [hu]; exact b.h _ _ hl, ?_⟩
    cases q : F' c with
    | none => rfl
    | some w =>
      have := b.n c w q hf
      rw [hl] at this
      cases this
  have dis : ∀ c ∈ fp', ∀ (j : Nat) (s : Sl) (x : Option V), j ≠ i → ρ[j]? = some s → σ[j]? = some x → Owned K F H s x c → False := fun c hc j s x hj h1 h2 oc => by
    obtain ⟨⟨u, hu⟩, _, _⟩ := (r.at_ j s x h1 h2).own oc
    have hl : less H fp c = some u := by rw [less_out (g5 j s x c hj h1 h2 oc)]; exact hu
    rw [(fr c hc).2] at hl
    cases hl
  have fg : ∀ a ∈ fp', F' a = none ∧ G a = none := fun a ha => ⟨(fr a ha).1, gl.free (fr a ha).2⟩
  unfold ownAt at h
  unfold backAt at hb
  split at h
  · rename_i ds z
    rw [z] at hb
    obtain ⟨es', e1, rfl⟩ := Option.map_eq_some_iff.mp hb
    have e1 := of_unL e1
    subst e1
    obtain ⟨a, ws, rfl, k1, k2, rfl⟩ := hv'.inL
    have q := r.put (F' := F') (H' := H') (i := i) (s' := .own es') (x' := some (.ref a)) (gl.trans b.h) b.s b.f keep ⟨a, ws, rfl, k1, k2, (fg a List.mem_cons_self).1, (fg a List.mem_cons_self).2⟩ fun c oc => by
      have oc : some (V.ref a) = some (.ref c) := oc
      cases oc
      exact dis a List.mem_cons_self
    rw [es] at q
    exact q
  · rename_i o1 z
    rw [z] at hb
    cases hb
    have q := r.put (F' := F') (H' := H') (i := i) (s' := .tree o') (x' := some v) (gl.trans b.h) b.s b.f keep ⟨v, fp', rfl, hv', nd, fg⟩ fun c oc => by
      obtain ⟨v2, fp2, q1, q2, q3⟩ := oc
      cases q1
      rw [OwR.uniq o' v fp2 fp' q2 hv'] at q3
      exact dis c q3
    rw [es] at q
    exact q
  · rename_i w o1 z
    rw [z] at hb
    cases hb
    obtain ⟨e0, _⟩ := r.at_ i _ _ z hs
    cases e0
    have q := r.put (F' := F') (H' := H') (i := i) (s' := .pin v o') (x' := some v) (gl.trans b.h) b.s b.f keep ⟨rfl, v, fp', rfl, hv', nd, fg⟩ fun c oc => by
      obtain ⟨v2, fp2, q1, q2, q3⟩ := oc
      cases q1
      rw [OwR.uniq o' v fp2 fp' q2 hv'] at q3
      exact dis c q3
    rw [es] at q
    exact q
  · cases h
end
/-! #### the promise of such a def -/
def PostM (K : PySem.W.Frag) (E : XK) (v : V) (F H : Hp) (fp : List Addr) (x : R (O × D)) (Q : V → Hp → Prop) : Prop := match x with
  | .ok p => ∀ u F' H' fp', Back F H fp F' H' → OwR K F' H' p.1 v fp' → fp'.Nodup → (∀ a ∈ fp', F' a = none ∧ less H fp a = none) → Rep K F' p.2 u → Q u H'
  | .err z => ∃ o' e, z = withO o' e ∧ ∀ cls dd F' H' fp', Back F H fp F' H' → OwR K F' H' o' v fp' → fp'.Nodup → (∀ a ∈ fp', F' a = none ∧ less H fp a = none) → XD K F' e cls dd → E cls dd H'
  | .bad => False
/-- n parameters, the j-th one is the caller's own thing -/
def spM (K : PySem.W.Frag) (j n : Nat) (fn : V → O → List D → R (O × D)) : Sp := fun vs H Q E => vs.length = n ∧ ∃ F o ds us v fp, vs = us.insertIdx j v ∧ j ≤ us.length ∧ Same F H ∧ RepL K F ds us ∧ OwR K F H o v fp ∧ fp.Nodup ∧ (∀ a ∈ fp, F a = none) ∧
  PostM K (fun cls dd H' => E cls dd H') v F H fp (fn v o ds) Q
def PostSM (K : PySem.W.Frag) (W : WX) (v : V) (D : Ends) (G F : Hp) (x : SR) : Prop := match x with
  | .next ρ => ∀ σ' F' H', Same F F' → NewG G F F' → RepE K G F' H' σ' ρ → D.nx σ' H'
  | .ret z => ∃ o' d, z = withO o' d ∧ ∀ u F' H' fp', Same F F' → NewG G F F' → Same G H' → Same F' H' → OwR K F' H' o' v fp' → fp'.Nodup → (∀ a ∈ fp', F' a = none ∧ G a = none) → Rep K F' d u → D.rt u H'
  | .err e ρ => ∀ σ' F' H' cls dd, Same F F' → NewG G F F' → RepE K G F' H' σ' ρ → XD K F' e cls dd → W cls dd σ' H'
  | .bad => False
section
variable {α β : Type} {K : PySem.W.Frag} {W : WX} {w : V} {D D' : Ends} {G F F' H : Hp} {σ : St} {ρ : REnv}
theorem PostSM.ext {x : SR} (s : Same F F') (n : NewG G F F') (h : PostSM K W w D G F x) : PostSM K W w D G F' x := by
  cases x with
  | next ρ => exact fun σ' F2 H' s2 n2 r => h σ' F2 H' (s.trans s2) (n.trans n2) r
  | ret d =>
    obtain ⟨o', d', e, h⟩ := h
    exact ⟨o', d', e, fun u F2 H' fp' s2 n2 => h u F2 H' fp' (s.trans s2) (n.trans n2)⟩
  | err e ρ => exact fun σ' F2 H' cls dd s2 n2 r x => h σ' F2 H' cls dd (s.trans s2) (n.trans n2) r x
  | bad => exact h
theorem PostSM.toS {rel : Hp → α → β → Prop} {x : R α} {k : α → SR} {Q : β → Hp → Prop} (r : RepE K G F H σ ρ) (h : PostSM K W w D G F (x.toS ρ k))
    (f : ∀ a v F' H', x = .ok a → Ext F H F' H' → rel F' a v → RepE K G F' H' σ ρ → PostSM K W w D G F' (k a) → Q v H') : Post K W rel σ F H x Q := by
  cases x with
  | ok a => exact fun v F' H' e p => f a v F' H' rfl e p (r.ext e) (PostSM.ext e.f (e.newG r.g) h)
  | err e => exact fun cls dd F' H' ex p => h σ F' H' cls dd ex.f (ex.newG r.g) (r.ext ex) p
  | bad => exact h
theorem PostSM.seq {x : SR} {g : REnv → SR} {nx : St → Hp → Prop} (h : PostSM K W w D G F (x.seq g))
    (f : ∀ ρ σ' F' H', x = .next ρ → Same F F' → NewG G F F' → RepE K G F' H' σ' ρ → PostSM K W w D G F' (g ρ) → nx σ' H') : PostSM K W w { D with nx := nx } G F x := by
  cases x with
  | next ρ => exact fun σ' F' H' s n r => f ρ σ' F' H' rfl s n r (PostSM.ext s n h)
  | ret d => exact h
  | err e ρ => exact h
  | bad => exact h
theorem PostSM.ends {x : SR} {bk ct : St → Hp → Prop} (h : PostSM K W w D G F x) : PostSM K W w { D with bk := bk, ct := ct } G F x := by
  cases x with
  | next ρ => exact h
  | ret d => exact h
  | err e ρ => exact h
  | bad => exact h
end
section
variable {X : Cx} {W : WX} {w : V} {st : Stmt} {rest : List Stmt} {g h : REnv → SR} {e : Expr} {f : REnv → R D} {pos : Pos}
end
/-! #### defs -/
section
variable {P : Program} {w : World} {K : PySem.W.Frag} {mg : Str → Option Value} {base : Heap} {x qual : Str} {params : Arguments} {body : List Stmt} {scope : Scope} {f : Addr} {fd : FuncData} {N ps : List Str} {k : Nat}
structure CalM (P : Program) (w : World) (K : PySem.W.Frag) (mg : Str → Option Value) (base : Heap) (x : Str) (k j n : Nat) (fn : V → O → List D → R (O × D)) : Prop where
  ex : ∃ (f : Addr) (fd : FuncData) (ps : List Str), FnOk P w K mg base (L2.CX P w) k f fd ps (spM K j n fn) ∧ mg x = some (.ref f) ∧ PySem.W.keepIn K (.ref f) = true ∧ Binds K fd ps []
  len : ∀ w o ds, ds.length + 1 ≠ n → fn w o ds = .bad
end
/-! #### calls of such a def -/
open Classical in
section
variable {X : Cx} {W : WX} {e : Expr} {es : List Expr} {f : REnv → R D} {t : REnv → R (List D)} {pos : Pos} {x : Str}
end
open Classical in
section
variable {X : Cx} {W : WX} {e : Expr} {es : List Expr} {x y : Str} {p pos pos' cp : Pos} {k j n i : Nat} {t : REnv → R (List D)} {fn : V → O → List D → R (O × D)}
end
/-! ### weakest conditions -/
section
variable {ρ : REnv} {N : REnv → Prop} {T : D → Prop} {E : D → REnv → Prop} {f : REnv → R D} {P E' : D → Prop} {t : REnv → R (List D)} {i : Nat} {dst : Option Nat} {fn : V → O → List D → R (O × D)}
end
end Dy

set_option Elab.async false
set_option linter.all false
set_option maxRecDepth 100000
/-! ### try .. except C, without a name; a def under another name -/
namespace Dy
open PySem PySem.Spec PyProof.Rows L2
section
variable {X : Cx} {W : WX} {y : Str} {body suite : List Stmt} {b₀ : Stmt} {np pos pos' : Pos} {g h : REnv → SR} {ks cs : List Str}
end
section
variable {ρ : REnv} {N : REnv → Prop} {T : D → Prop} {E : D → REnv → Prop} {g h : REnv → SR} {ks cs : List Str} {y : Str}
end
section
variable {P : Program} {w : World} {K : PySem.W.Frag} {mg : Str → Option Value} {base : Heap} {x q : Str} {params : Arguments} {body : List Stmt} {scope : Scope} {f : Addr} {fd : FuncData} {ps : List Str} {k : Nat}
end
/-! ### a sign in a text -/
def oInC : D → D → Option D
  | .str a, .str z => match a.cps.toList with
    | [c] => some (.bl (decide (c ∈ z.cps.toList)))
    | _ => none
  | _, _ => none
def oNinC : D → D → Option D
  | .str a, .str z => match a.cps.toList with
    | [c] => some (.bl (!decide (c ∈ z.cps.toList)))
    | _ => none
  | _, _ => none
theorem inC_inv {f : Nat → Str → Bool} {a b d : D} {o : D → D → Option D} (ho : ∀ a b, o a b = match a, b with | .str a, .str z => (match a.cps.toList with | [c] => some (.bl (f c z)) | _ => none) | _, _ => none) (h : o a b = some d) : ∃ c z, a = .str ⟨#[c]⟩ ∧ b = .str z ∧ d = .bl (f c z) := by
  rw [ho] at h
  split at h
  · rename_i a' z
    split at h
    · rename_i c hc
      cases h
      refine ⟨c, z, ?_, rfl, rfl⟩
      congr 1
      obtain ⟨⟨l⟩⟩ := a'
      simp only at hc
      subst hc
      rfl
    · cases h
  · cases h
abbrev rSgn (neg : Bool) : R2 := fun x y H Q => ∃ (c : Nat) (z : Str), x = .str ⟨#[c]⟩ ∧ y = .str z ∧ Q (.bl (if neg then !decide (c ∈ z.cps.toList) else decide (c ∈ z.cps.toList))) H
def oInX (a b : D) : Option D := (oInF a b).or (oInC a b)
def oNinX (a b : D) : Option D := (oNinF a b).or (oNinC a b)
theorem d_ninX {X : Cx} : OpR X (compareOp .NotIn) (fun x y H Q => rIn X.K true x y H Q ∨ rSgn true x y H Q) ∧ Op2 X.K (fun x y H Q => rIn X.K true x y H Q ∨ rSgn true x y H Q) oNinX :=
  ⟨d_ninF.1.or op_notIn_sign, d_ninF.2.or fun F H x y a b d Q s ra rb e q => by
    obtain ⟨c, z, rfl, rfl, rfl⟩ := inC_inv (f := fun c z => !decide (c ∈ z.cps.toList)) (fun a b => by cases a <;> cases b <;> rfl) e
    exact ⟨c, z, ra.str_inv, rb.str_inv, now q s Rep.mk_bl⟩⟩
end Dy

set_option Elab.async false
set_option linter.all false
set_option maxRecDepth 100000
/-! ### a def that hands back its own parameter; trees within an own list -/
namespace Dy
open PySem PySem.Spec PyProof.Rows L2
def PostJ (K : PySem.W.Frag) (E : XK) (v : V) (F H : Hp) (x : R D) (Q : V → Hp → Prop) : Prop := match x with
  | .ok _ => ∀ F' H', Ext F H F' H' → Q v H'
  | .err e => ∀ cls dd F' H', Ext F H F' H' → XD K F' e cls dd → E cls dd H'
  | .bad => False
/-- one parameter, which is what is told -/
def spJ (K : PySem.W.Frag) (fn : V → D → R D) : Sp := fun vs H Q E => vs.length = 1 ∧ ∃ F d v, vs = [v] ∧ Same F H ∧ Rep K F d v ∧ PostJ K (fun cls dd H' => E cls dd H') v F H (fn v d) Q
def PostSJ (K : PySem.W.Frag) (W : WX) (v : V) (D : Ends) (G F : Hp) (x : SR) : Prop := match x with
  | .next ρ => ∀ σ' F' H', Same F F' → NewG G F F' → RepE K G F' H' σ' ρ → D.nx σ' H'
  | .ret _ => ∀ F' H', Same F F' → NewG G F F' → Same G H' → Same F' H' → D.rt v H'
  | .err e ρ => ∀ σ' F' H' cls dd, Same F F' → NewG G F F' → RepE K G F' H' σ' ρ → XD K F' e cls dd → W cls dd σ' H'
  | .bad => False
section
variable {α β : Type} {K : PySem.W.Frag} {W : WX} {w : V} {D D' : Ends} {G F F' H : Hp} {σ : St} {ρ : REnv}
theorem PostSJ.ext {x : SR} (s : Same F F') (n : NewG G F F') (h : PostSJ K W w D G F x) : PostSJ K W w D G F' x := by
  cases x with
  | next ρ => exact fun σ' F2 H' s2 n2 r => h σ' F2 H' (s.trans s2) (n.trans n2) r
  | ret d => exact fun F2 H' s2 n2 => h F2 H' (s.trans s2) (n.trans n2)
  | err e ρ => exact fun σ' F2 H' cls dd s2 n2 r x => h σ' F2 H' cls dd (s.trans s2) (n.trans n2) r x
  | bad => exact h
theorem PostSJ.seq {x : SR} {g : REnv → SR} {nx : St → Hp → Prop} (h : PostSJ K W w D G F (x.seq g))
    (f : ∀ ρ σ' F' H', x = .next ρ → Same F F' → NewG G F F' → RepE K G F' H' σ' ρ → PostSJ K W w D G F' (g ρ) → nx σ' H') : PostSJ K W w { D with nx := nx } G F x := by
  cases x with
  | next ρ => exact fun σ' F' H' s n r => f ρ σ' F' H' rfl s n r (PostSJ.ext s n h)
  | ret d => exact h
  | err e ρ => exact h
  | bad => exact h
end
open Classical in
section
variable {X : Cx} {W : WX} {w : V} {st : Stmt} {rest : List Stmt} {g h : REnv → SR} {e : Expr} {f : REnv → R D} {pos : Pos}
end
section
variable {P : Program} {w : World} {K : PySem.W.Frag} {mg : Str → Option Value} {base : Heap} {x qual : Str} {params : Arguments} {body : List Stmt} {scope : Scope} {f : Addr} {fd : FuncData} {N ps : List Str} {k : Nat}
structure CalJ (P : Program) (w : World) (K : PySem.W.Frag) (mg : Str → Option Value) (base : Heap) (x : Str) (k n : Nat) (fn : V → D → R D) : Prop where
  ex : ∃ (f : Addr) (fd : FuncData) (ps : List Str), FnOk P w K mg base (L2.CX P w) k f fd ps (spJ K fn) ∧ mg x = some (.ref f) ∧ PySem.W.keepIn K (.ref f) = true ∧ Binds K fd ps []
end
/-! #### return f((.., ..)), f telling its parameter -/
open Classical in
section
variable {X : Cx} {W : WX} {sh : Sh} {x : Str} {p pos cp tp : Pos} {k n kk : Nat} {es : List Expr} {I : List Nat} {t : REnv → R (List O)} {fn : V → D → R D}
end
/-! #### return x, x a tree; calls that make trees; x.append(tree) -/
open Classical in
abbrev SET (X : Cx) (W : WX) (e : Expr) (x : REnv → R O) : Prop := PE X e (fun σ H Q => ∃ G F ρ, RepE X.K G F H σ ρ ∧ PostT X.K W σ F H (x ρ) Q)
def tC (x : REnv → R O) (t : REnv → R (List O)) : REnv → R (List O) := fun ρ => (x ρ).bind fun o => (t ρ).bind fun os => .ok (o :: os)
/-- list(e), a new list -/
def xList (t : REnv → R (List D)) : REnv → R (List D) := fun ρ => (t ρ).bind fun ds => match oList ds with
  | some (.lst es) => .ok es
  | _ => .bad
theorem OwRs.append {K : PySem.W.Frag} {F H : Hp} : ∀ {os ps : List O} {vs ws : List V} {f1 f2 : List Addr}, OwRs K F H os vs f1 → OwRs K F H ps ws f2 → OwRs K F H (os ++ ps) (vs ++ ws) (f1 ++ f2)
  | [], ps, vs, ws, f1, f2, h, t => by
    simp only [OwRs] at h
    rw [h.1, h.2]
    exact t
  | o :: os, ps, vs, ws, f1, f2, h, t => by
    simp only [OwRs] at h
    obtain ⟨v, r, g1, g2, rfl, rfl, h3, h4⟩ := h
    simp only [List.cons_append, OwRs]
    exact ⟨v, r ++ ws, g1, g2 ++ f2, rfl, by rw [List.append_assoc], h3, OwRs.append h4 t⟩
theorem OwRs.one {K : PySem.W.Frag} {F H : Hp} {o : O} {v : V} {fp : List Addr} (h : OwR K F H o v fp) : OwRs K F H [o] [v] fp := by
  simp only [OwRs]
  exact ⟨v, [], fp, [], rfl, by simp, h, rfl, rfl⟩
section
variable {X : Cx} {W : WX} {sh : Sh} {e : Expr} {es : List Expr} {x y : Str} {p pos np ap xp : Pos} {k n : Nat} {I : List Nat} {t : REnv → R (List O)} {u : REnv → R (List D)} {fn : List D → R O}
theorem sao_c {x : REnv → R O} (ha : SET X W e x) (hr : SAO X W I es t) (hs : starEach (e :: es) X.env = (false, eval e X.env) :: starEach es X.env := by rfl) : SAO X W I (e :: es) (tC x t) :=
  (pa_cons ha hr hs).dy fun σ H Q ⟨G, F, ρ, r, p⟩ => ⟨G, F, ρ, r, by
    unfold tC at p
    cases q : x ρ with
    | bad => rw [q] at p; exact p.elim
    | err z => rw [q] at p; exact p
    | ok o1 =>
      rw [q] at p
      intro v f1 F1 H1 ex h1 h2 h3
      refine ⟨G, F1, ρ, r.ext ex, PostA.bind p ex fun os vs fp F2 H2 _ ex2 o nd fr k => k (v :: vs) (f1 ++ fp) ?_ ?_ ?_⟩
      · simp only [OwRs]
        refine ⟨v, vs, f1, fp, rfl, rfl, OwR.move ex2.f o1 v f1 h1 (fun b hb => ?_), o⟩
        obtain ⟨us, hu⟩ := OwR.inH o1 v f1 h1 b hb
        rw [hu]
        exact ex2.h _ _ hu
      · refine List.nodup_append.mpr ⟨h2, nd, fun a ha b hb hab => ?_⟩
        subst hab
        obtain ⟨us, hu⟩ := OwR.inH o1 v f1 h1 a ha
        rcases (fr a hb).2 with z | ⟨i, _, es', e1, e2⟩
        · rw [hu] at z; cases z
        · obtain ⟨b, us', e3, e4, _⟩ := own_at r e1
          rw [e2] at e3
          cases e3
          rw [(h3 a ha).2] at e4
          cases e4
      · intro b hb
        rcases List.mem_append.mp hb with hb | hb
        · refine ⟨?_, .inl (h3 b hb).2⟩
          cases z : F2 b with
          | none => rfl
          | some u =>
            obtain ⟨us, hu⟩ := OwR.inH o1 v f1 h1 b hb
            have := ex2.n b u z (h3 b hb).1
            rw [hu] at this
            cases this
        · exact ⟨(fr b hb).1, (fr b hb).2.old ex.h⟩⟩
theorem seo_list {z : Str} (hm : X.mg z = none) (ha : SA X W [e] u) (hg : Gl X z := by rfl) (hv : bootBuiltins z = some (.type "list") := by decide +kernel)
    (hn : z ≠ "__name__" := by decide) (hd : (z == ("__debug__" : Str)) = false := by decide) (he : starEach [e] X.env = (false, eval e X.env) :: starEach [] X.env := by rfl) (hpl : (backTo pos (starEach [] X.env)).any (·.1) = false := by rfl) :
    SEO X W (.Call (.Name z p) [e] [] pos) (xList u) :=
  (pe_callTy call_list_of hg hm hv ha hn hd he hpl).dy fun σ H Q ⟨G, F, ρ, r, p⟩ => ⟨G, F, ρ, r, by
    unfold xList at p
    cases q : u ρ with
    | bad => rw [q] at p; exact p.elim
    | err z => rw [q] at p; exact p
    | ok ds =>
      rw [q] at p
      have p : PostO X.K W σ F H (match oList ds with | some (.lst es) => R.ok es | _ => .bad) Q := p
      intro vs F1 H1 ex rp
      unfold oList at p
      split at p
      · rename_i d es' heq
        split at heq
        · cases heq
          obtain ⟨v, rfl, h⟩ := rp.one
          obtain ⟨a, vs, rfl, h1, h2⟩ := h.lst_inv
          exact ⟨a, vs, rfl, .inl (Same.seq ex.s h1), fun l hl => p l vs F1 _ (ex.trans (Ext.newH ex.s hl)) upd_same h2 (ex.s.free hl) (ex.h.free hl)⟩
        · cases heq
          obtain ⟨v, rfl, h⟩ := rp.one
          obtain ⟨a, vs, rfl, h1, h2⟩ := h.tup_inv
          exact ⟨a, vs, rfl, .inr (Same.seqT ex.s h1), fun l hl => p l vs F1 _ (ex.trans (Ext.newH ex.s hl)) upd_same h2 (ex.s.free hl) (ex.h.free hl)⟩
        · cases heq
      · exact p.elim⟩
end
end Dy

set_option Elab.async false
set_option linter.all false
set_option maxRecDepth 100000
/-! ### for t in x: for p in t: p.clear(), x a list of trees of one's own -/
namespace Dy
open PySem PySem.Spec PyProof.Rows L2
section
variable {K : PySem.W.Frag} {F H : Hp}
/-- what holds while the lists fq are emptied -/
structure ClI (K : PySem.W.Frag) (G F : Hp) (ρ : REnv) (i : Nat) (a : Addr) (vs : List V) (fq : List Addr) (σ : St) (H : Hp) : Prop where
  r : RepE K G F H σ ρ
  s : σ[i]? = some (some (.ref a))
  a : H a = some (.lst vs)
  q : ∀ b ∈ fq, ∃ ws, H b = some (.lst ws)
  n : ∀ (m : Nat) (s : Sl) (x : Option V) (b : Addr), ρ[m]? = some s → σ[m]? = some x → Owned K F H s x b → b ∉ fq
theorem ClI.set {G : Hp} {ρ : REnv} {i j : Nat} {a : Addr} {vs : List V} {fq : List Addr} {σ : St} {v : V} (h : ClI K G F ρ i a vs fq σ H) (hj : ρ[j]? = some .un) (hij : i ≠ j) : ClI K G F ρ i a vs fq (σ.set j (some v)) H := by
  have r2 := h.r.unset (i := j) (x := some v)
  rw [set_same hj] at r2
  refine ⟨r2, by rw [List.getElem?_set_ne (fun e => hij e.symm)]; exact h.s, h.a, h.q, fun m s x b h1 h2 ob => ?_⟩
  by_cases hm : m = j
  · subst hm
    rw [hj] at h1
    cases h1
    exact ob.elim
  · rw [List.getElem?_set_ne (fun e => hm e.symm)] at h2
    exact h.n m s x b h1 h2 ob
theorem ClI.poke {G : Hp} {ρ : REnv} {i : Nat} {a b : Addr} {vs ws : List V} {fq : List Addr} {σ : St} (h : ClI K G F ρ i a vs fq σ H) (hb : b ∈ fq) (ha : a ∉ fq) (hf : F b = none) (hg : G b = none) : ClI K G F ρ i a vs fq σ (upd H b (.lst ws)) := by
  have kp : ∀ (m : Nat) (s : Sl) (x : Option V) (c : Addr), ρ[m]? = some s → σ[m]? = some x → Owned K F H s x c → upd H b (.lst ws) c = H c ∧ F c = none := fun m s x c h1 h2 oc =>
    ⟨upd_ne fun e => h.n m s x c h1 h2 oc (e ▸ hb), ((h.r.at_ m s x h1 h2).own oc).2.1⟩
  refine ⟨h.r.keep (fun c u q => by rw [upd_ne (ne_of_none q hg)]; exact h.r.g _ _ q) (fun c u q => by rw [upd_ne (ne_of_none q hf)]; exact h.r.f _ _ q) (.refl _) kp, h.s, by rw [upd_ne (fun e : a = b => ha (by rw [e]; exact hb))]; exact h.a, fun c hc => ?_, fun m s x c h1 h2 oc => ?_⟩
  · by_cases e : c = b
    · rw [e]; exact ⟨ws, upd_same⟩
    · rw [upd_ne e]; exact h.q c hc
  · exact h.n m s x c h1 h2 (((h.r.at_ m s x h1 h2).move (F' := F) (H' := upd H b (.lst ws)) (.refl _) fun c oc => kp m s x c h1 h2 oc).2 c oc)
end
section
variable {X : Cx} {W : WX} {pos p1 p2 p3 p4 p5 p6 p7 p8 p9 : Pos} {x y z : Str}
end
section
variable {ρ : REnv} {N : REnv → Prop} {T : D → Prop} {E : D → REnv → Prop} {P E' : D → Prop} {g : REnv → SR}
theorem wp_tC {Q : List O → Prop} {x : REnv → R O} {t : REnv → R (List O)} (h : (x ρ).wp (fun o => (t ρ).wp (fun os => Q (o :: os)) E') E') : (tC x t ρ).wp Q E' := wp_bind (h.post fun d h1 => wp_bind (h1.post fun os h2 => h2))
theorem wp_xList {t : REnv → R (List D)} {Q : List D → Prop} (h : (t ρ).wp (fun ds => Got (oList ds) fun d => IsL d Q) E') : (xList t ρ).wp Q E' := by
  refine wp_bind (h.post ?_)
  rintro ds ⟨d, e, es, rfl, h2⟩
  rw [e]
  exact h2
end
end Dy

set_option Elab.async false
set_option linter.all false
set_option maxRecDepth 100000
/-! ### list(range(..)), pop within an expression, extend by a new list, a dict of one's own -/
namespace Dy
open PySem PySem.Spec PyProof.Rows L2
/-! #### list(range(..)) -/
def Rgs (a b : Int) : Prop := 0 ≤ a ∧ a ≤ 1000000 ∧ 0 ≤ b ∧ b ≤ 1000000
instance (a b : Int) : Decidable (Rgs a b) := by unfold Rgs; infer_instance
theorem Rgs.ok {a b : Int} (h : Rgs a b) : RgOk a b := RgOk.of_le h.1 (by have := h.2.2.2; omega) (by have := h.2.1; omega) h.2.2.1
theorem rep_rg {K : PySem.W.Frag} {F : Hp} {a b : Int} : RepL K F (rangeD a (b - a).toNat) (rgV a b) := by
  unfold rangeD rgV
  generalize List.range (b - a).toNat = ns
  induction ns with
  | nil => exact RepL.nil
  | cons n ns ih => exact RepL.cons Rep.mk_int ih
def rgL (a b : Int) : R (List D) := if Rgs a b then .ok (rangeD a (b - a).toNat) else .bad
def lrg1 : D → R (List D)
  | .int n => rgL 0 n
  | _ => .bad
def xRg1 (f : REnv → R D) : REnv → R (List D) := fun ρ => (f ρ).bind lrg1
/-- e, a new list, kept -/
def eKeep (x : REnv → R (List D)) : REnv → R D := fun ρ => (x ρ).bind fun ds => .ok (.lst ds)
section
variable {X : Cx} {W : WX} {a b e : Expr} {f g : REnv → R D} {p pos rp rpos : Pos} {x : REnv → R (List D)}
theorem rg_new {σ : St} {F H : Hp} {Q : V → Hp → Prop} {lo hi : Int} {F1 H1 : Hp} (ex : Ext F H F1 H1) (p : PostO X.K W σ F H (rgL lo hi) Q) : RgOk lo hi ∧ ∀ q, H1 q = none → Q (.ref q) (upd H1 q (.lst (rgV lo hi))) := by
  unfold rgL at p
  by_cases h : Rgs lo hi
  · rw [if_pos h] at p
    exact ⟨h.ok, fun q hq => p q _ F1 _ (ex.trans (Ext.newH ex.s hq)) upd_same rep_rg (ex.s.free hq) (ex.h.free hq)⟩
  · rw [if_neg h] at p; exact p.elim
theorem seo_rg1 (hc : X.calm = true) (hl : X.mg "list" = none) (hm : X.mg "range" = none) (ha : SE X W a f) (hgl : Gl X "list" := by rfl) (hgr : Gl X "range" := by rfl) (na : starEach [a] X.env = (false, eval a X.env) :: starEach [] X.env := by rfl)
    (nl : starEach [.Call (.Name "range" rp) [a] [] rpos] X.env = (false, eval (.Call (.Name "range" rp) [a] [] rpos) X.env) :: starEach [] X.env := by rfl) :
    SEO X W (.Call (.Name "list" p) [.Call (.Name "range" rp) [a] [] rpos] [] pos) (xRg1 f) :=
  (pe_listRg hc hgl hl (prg_1 hgr hm ha na) nl).dy fun σ H Q ⟨G, F, ρ, r, q⟩ => ⟨G, F, ρ, r, by
    unfold xRg1 at q
    cases z : f ρ with
    | bad => rw [z] at q; exact q.elim
    | err z' => rw [z] at q; exact q
    | ok d =>
      rw [z] at q
      have q : PostO X.K W σ F H (lrg1 d) Q := q
      intro v F1 H1 ex rv
      unfold lrg1 at q
      split at q
      · exact ⟨_, rv.int_inv, rg_new ex q⟩
      · exact q.elim⟩
theorem se_keep (h : SEO X W e x) : SE X W e (eKeep x) := PE.dy h fun σ H Q ⟨G, F, ρ, r, p⟩ => ⟨G, F, ρ, r, by
  unfold eKeep at p
  cases z : x ρ with
  | bad => rw [z] at p; exact p.elim
  | err z' => rw [z] at p; exact p
  | ok ds =>
    rw [z] at p
    intro a ws F1 H1 ex h1 h2 h3 h4
    obtain ⟨ex3, sm⟩ := ex.keep h4 h1 h3
    exact p (.ref a) _ H1 ex3 (Rep.mk_lst (.of upd_same) (RepL.mono sm _ _ h2))⟩
end
/-! #### expressions that change slots -/
def PostP (K : PySem.W.Frag) (σ : St) (G F H : Hp) (x : R (D × REnv)) (Q : V → Hp → Prop) : Prop := match x with
  | .ok p => ∀ v F' H', Same F F' → NewG G F F' → RepE K G F' H' σ p.2 → Rep K F' p.1 v → Q v H'
  | _ => False
def PostPA (K : PySem.W.Frag) (σ : St) (G F H : Hp) (x : R (List D × REnv)) (Q : List V → Hp → Prop) : Prop := match x with
  | .ok p => ∀ vs F' H', Same F F' → NewG G F F' → RepE K G F' H' σ p.2 → RepL K F' p.1 vs → Q vs H'
  | _ => False
abbrev SEP (X : Cx) (e : Expr) (f : REnv → R (D × REnv)) : Prop := PE X e (fun σ H Q => ∃ G F ρ, RepE X.K G F H σ ρ ∧ PostP X.K σ G F H (f ρ) Q)
abbrev SAP (X : Cx) (es : List Expr) (f : REnv → R (List D × REnv)) : Prop := PA X es (fun σ H Q => ∃ G F ρ, RepE X.K G F H σ ρ ∧ PostPA X.K σ G F H (f ρ) Q)
def pLift (f : REnv → R D) : REnv → R (D × REnv) := fun ρ => match f ρ with
  | .ok d => .ok (d, ρ)
  | _ => .bad
def pNil : REnv → R (List D × REnv) := fun ρ => .ok ([], ρ)
def pCons (f : REnv → R (D × REnv)) (t : REnv → R (List D × REnv)) : REnv → R (List D × REnv) := fun ρ => match f ρ with
  | .ok p => match t p.2 with
    | .ok q => .ok (p.1 :: q.1, q.2)
    | _ => .bad
  | _ => .bad
def pTup (t : REnv → R (List D × REnv)) : REnv → R (D × REnv) := fun ρ => match t ρ with
  | .ok p => if p.1.length ≤ sizeLine then .ok (.tup p.1, p.2) else .bad
  | _ => .bad
def popAt (ρ : REnv) (i : Nat) (ds : List D) : D → R (D × REnv)
  | .int m => match L2.ixN ds.length m with
    | some k => match ds[k]? with
      | some d => if ds.length ≤ 1000000 then .ok (d, ρ.set i (.own (ds.eraseIdx k))) else .bad
      | none => .bad
    | none => .bad
  | _ => .bad
def pPop (i : Nat) (f : REnv → R D) : REnv → R (D × REnv) := fun ρ => match ρ[i]? with
  | some (.own ds) => match f ρ with
    | .ok m => popAt ρ i ds m
    | _ => .bad
  | _ => .bad
theorem RepL.eraseIdx {K : PySem.W.Frag} {F : Hp} : ∀ {ds : List D} {vs : List V} (k : Nat), RepL K F ds vs → RepL K F (ds.eraseIdx k) (vs.eraseIdx k)
  | [], vs, k, h => by simp only [RepL] at h; subst h; simpa using RepL.nil
  | d :: ds, vs, 0, h => by
    simp only [RepL] at h
    obtain ⟨v, r, rfl, h1, h2⟩ := h
    simpa using h2
  | d :: ds, vs, k + 1, h => by
    simp only [RepL] at h
    obtain ⟨v, r, rfl, h1, h2⟩ := h
    simpa using RepL.cons h1 (RepL.eraseIdx k h2)
section
variable {X : Cx} {W : WX} {e b : Expr} {es : List Expr} {f g : REnv → R D} {u : REnv → R (D × REnv)} {t : REnv → R (List D × REnv)} {pos np ap xp tp pos' : Pos} {x : Str} {kk : Nat}
theorem sep_lift (h : SE X (W0) e f) : SEP X e (pLift f) := PE.dy h fun σ H Q ⟨G, F, ρ, r, p⟩ => ⟨G, F, ρ, r, by
  unfold pLift at p
  cases z : f ρ with
  | bad => rw [z] at p; exact p.elim
  | err z' => rw [z] at p; exact p.elim
  | ok d =>
    rw [z] at p
    exact fun v F1 H1 ex rv => p v F1 H1 ex.f (ex.newG r.g) (r.ext ex) rv⟩
theorem sap_nil : SAP X [] pNil := pa_nil.dy fun σ H Q ⟨G, F, ρ, r, p⟩ => p [] F H (.refl _) .refl r RepL.nil
theorem sap_cons (ha : SEP X e u) (hr : SAP X es t) (hs : starEach (e :: es) X.env = (false, eval e X.env) :: starEach es X.env := by rfl) : SAP X (e :: es) (pCons u t) :=
  (pa_cons ha hr hs).dy fun σ H Q ⟨G, F, ρ, r, p⟩ => ⟨G, F, ρ, r, by
    unfold pCons at p
    cases z : u ρ with
    | bad => rw [z] at p; exact p.elim
    | err z' => rw [z] at p; exact p.elim
    | ok q =>
      simp only [z] at p
      intro v F1 H1 s1 n1 r1 rv
      refine ⟨G, F1, q.2, r1, ?_⟩
      cases z2 : t q.2 with
      | bad => simp only [z2] at p; exact p.elim
      | err z' => simp only [z2] at p; exact p.elim
      | ok q2 =>
        simp only [z2] at p
        exact fun vs F2 H2 s2 n2 r2 rl => p (v :: vs) F2 H2 (s1.trans s2) (n1.trans n2) r2 (RepL.cons (Rep.mono s2 _ _ rv) rl)⟩
theorem sep_tup (h : SAP X es t) : SEP X (.Tuple es kk tp) (pTup t) :=
  (pe_tup h).dy fun σ H Q ⟨G, F, ρ, r, p⟩ => ⟨G, F, ρ, r, by
    unfold pTup at p
    cases z : t ρ with
    | bad => rw [z] at p; exact p.elim
    | err z' => rw [z] at p; exact p.elim
    | ok q =>
      simp only [z] at p
      by_cases hl : q.1.length ≤ sizeLine
      · rw [if_pos hl] at p
        intro vs F1 H1 s1 n1 r1 rl
        refine ⟨by rw [← rl.length]; exact hl, fun a ha => ?_⟩
        have nx : Ext F1 H1 (upd F1 a (.tup vs)) (upd H1 a (.tup vs)) := Ext.new r1.f ha
        exact p (.ref a) _ _ (s1.trans nx.f) (n1.trans (nx.newG r1.g)) (r1.ext nx) (Rep.mk_tup (.of upd_same) (RepL.mono nx.f _ _ rl))
      · rw [if_neg hl] at p; exact p.elim⟩
theorem sep_pop (i : Nat) (he : SE X W0 e f) (hN : X.N[i]? = some x := by rfl) (hv : Vis X.env.scope x := by first | exact Or.inl rfl | exact Or.inr (Or.inl rfl) | exact Or.inr (Or.inr rfl)) (hd : (x == ("__debug__" : Str)) = false := by decide) (hcd : (x == ("__classdict__" : Str)) = false := by decide)
    (hbm : ∀ {te : TE} {ta : TA}, PE X (.Name x np) te → PA X [e] ta → PE X (.Call (.Attribute (.Name x np) "pop" ap) [e] [] xp) (tBM X.K "list" rPopAt te ta) := by exact fun h1 h2 => pe_bm PySem.F.plainAttrs_list PySem.F.slot_list_pop PySem.F.type_list_pop mt_popAt h1 h2)
    (hse : starEach (e :: []) X.env = (false, eval e X.env) :: starEach [] X.env := by rfl) :
    SEP X (.Call (.Attribute (.Name x np) "pop" ap) [e] [] xp) (pPop i f) :=
  (hbm (pe_var hN hv hd hcd) (pa_cons he pa_nil hse)).dy fun σ H Q ⟨G, F, ρ, r, p⟩ => by
    unfold pPop at p
    split at p
    case h_2 => exact p.elim
    rename_i ds z
    obtain ⟨a, vs, h1, h2, h3⟩ := own_at r z
    refine ⟨.ref a, h1, .inl ⟨rfl, _, SqL.of h2⟩, G, F, ρ, r, ?_⟩
    cases zf : f ρ with
    | bad => rw [zf] at p; exact p.elim
    | err z' => rw [zf] at p; exact p.elim
    | ok m =>
      simp only [zf] at p
      intro v F1 H1 ex rv
      unfold popAt at p
      split at p
      case h_2 => exact p.elim
      rename_i m'
      cases q : L2.ixN ds.length m' with
      | none => simp only [q] at p; exact p.elim
      | some k =>
        simp only [q] at p
        cases q2 : ds[k]? with
        | none => simp only [q2] at p; exact p.elim
        | some d =>
          simp only [q2] at p
          by_cases hl : ds.length ≤ 1000000
          case neg => rw [if_neg hl] at p; exact p.elim
          rw [if_pos hl] at p
          obtain ⟨i1, i2, i3, i4⟩ := ixN_seq q
          obtain ⟨y, y1, y2⟩ := (RepL.mono ex.f _ _ h3).get q2
          have hlv := h3.length
          exact ⟨a, vs, m', k, y, rfl, by rw [rv.int_inv], ex.h _ _ h2, by omega, by omega, by rw [← hlv]; exact i1, y1,
            p y F1 _ ex.f (ex.newG r.g) ((r.ext ex).turnO z h1 (RepL.eraseIdx k (RepL.mono ex.f _ _ h3))) y2⟩
/-- y = e -/
def sSetP (i : Nat) (u : REnv → R (D × REnv)) : REnv → SR := fun ρ => match u ρ with
  | .ok p => .next (p.2.set i (.val p.1))
  | _ => .bad
/-- e -/
def sExprP (u : REnv → R (D × REnv)) : REnv → SR := fun ρ => match u ρ with
  | .ok p => .next p.2
  | _ => .bad
/-- y.append(e) -/
def appP (i : Nat) (q : D × REnv) : SR := match q.2[i]? with
  | some (.own ds) => if ds.length < sizeLine then .next (q.2.set i (.own (ds ++ [q.1]))) else .bad
  | _ => .bad
def sAppP (i : Nat) (u : REnv → R (D × REnv)) : REnv → SR := fun ρ => match ρ[i]? with
  | some (.own _) => match u ρ with
    | .ok q => appP i q
    | _ => .bad
  | _ => .bad
theorem ss_appP (i : Nat) (he : SEP X e u) (hN : X.N[i]? = some x := by rfl) (hv : Vis X.env.scope x := by first | exact Or.inl rfl | exact Or.inr (Or.inl rfl) | exact Or.inr (Or.inr rfl)) (hd : (x == ("__debug__" : Str)) = false := by decide) (hcd : (x == ("__classdict__" : Str)) = false := by decide)
    (hbm : ∀ {te : TE} {ta : TA}, PE X (.Name x np) te → PA X [e] ta → PE X (.Call (.Attribute (.Name x np) "append" ap) [e] [] xp) (tBM X.K "list" rAppend te ta) := by exact fun h1 h2 => pe_bm PySem.F.plainAttrs_list PySem.F.slot_list_append PySem.F.type_list_append mt_append h1 h2)
    (hse : starEach (e :: []) X.env = (false, eval e X.env) :: starEach [] X.env := by rfl)
    (hs : swapsWith (.Call (.Attribute (.Name x np) "append" ap) [e] [] xp) none pos.line X.env = pure false := by rfl) : SS X W (.Expr (.Call (.Attribute (.Name x np) "append" ap) [e] [] xp) pos) (sAppP i u) :=
  (ps_expr (hbm (pe_var hN hv hd hcd) (pa_cons he pa_nil hse)) hs).dy fun D σ H ⟨G, F, ρ, r, p⟩ => by
    unfold sAppP at p
    split at p
    case h_2 => exact p.elim
    rename_i ds z
    obtain ⟨a, vs, h1, h2, h3⟩ := own_at r z
    refine ⟨.ref a, h1, .inl ⟨rfl, _, SqL.of h2⟩, G, F, ρ, r, ?_⟩
    cases zu : u ρ with
    | bad => rw [zu] at p; exact p.elim
    | err z' => rw [zu] at p; exact p.elim
    | ok q =>
      simp only [zu] at p
      intro v F1 H1 s1 n1 r1 rv
      unfold appP at p
      split at p
      case h_2 => exact p.elim
      rename_i ds2 z2
      obtain ⟨a2, vs2, k1, k2, k3⟩ := own_at r1 z2
      rw [h1] at k1
      cases k1
      by_cases hl : ds2.length < sizeLine
      · rw [if_pos hl] at p
        exact ⟨a, vs2, v, rfl, rfl, k2, by rw [← k3.length]; exact hl, p σ F1 _ s1 n1 (r1.turnO z2 h1 (k3.snoc rv))⟩
      · rw [if_neg hl] at p; exact p.elim
end
/-! #### x.extend(a new list) -/
def sExtN (i : Nat) (x : REnv → R (List D)) : REnv → SR := fun ρ => match ρ[i]? with
  | some (.own ds) => (x ρ).toS ρ fun es => if ds.length + es.length ≤ sizeLine then .next (ρ.set i (.own (ds ++ es))) else .bad
  | _ => .bad
section
variable {X : Cx} {W : WX} {e : Expr} {y : REnv → R (List D)} {pos np ap xp : Pos} {x : Str}
theorem ss_extN (i : Nat) (he : SEO X W e y) (hN : X.N[i]? = some x := by rfl) (hv : Vis X.env.scope x := by first | exact Or.inl rfl | exact Or.inr (Or.inl rfl) | exact Or.inr (Or.inr rfl)) (hd : (x == ("__debug__" : Str)) = false := by decide) (hcd : (x == ("__classdict__" : Str)) = false := by decide)
    (hbm : ∀ {te : TE} {ta : TA}, PE X (.Name x np) te → PA X [e] ta → PE X (.Call (.Attribute (.Name x np) "extend" ap) [e] [] xp) (tBM X.K "list" rExtend te ta) := by exact fun h1 h2 => pe_bm PySem.F.plainAttrs_list PySem.F.slot_list_extend PySem.F.type_list_extend mt_extend h1 h2)
    (hse : starEach (e :: []) X.env = (false, eval e X.env) :: starEach [] X.env := by rfl)
    (hs : swapsWith (.Call (.Attribute (.Name x np) "extend" ap) [e] [] xp) none pos.line X.env = pure false := by rfl) : SS X W (.Expr (.Call (.Attribute (.Name x np) "extend" ap) [e] [] xp) pos) (sExtN i y) :=
  (ps_expr (hbm (pe_var hN hv hd hcd) (pa_cons he pa_nil hse)) hs).dy fun D σ H ⟨G, F, ρ, r, p⟩ => by
    unfold sExtN at p
    split at p
    case h_2 => exact p.elim
    rename_i ds z
    obtain ⟨a, vs, h1, h2, h3⟩ := own_at r z
    refine ⟨.ref a, h1, .inl ⟨rfl, _, SqL.of h2⟩, G, F, ρ, r, ?_⟩
    cases q : y ρ with
    | bad => rw [q] at p; exact p.elim
    | err z' =>
      rw [q] at p
      exact fun cls dd F1 H1 ex xd => p σ F1 H1 cls dd ex.f (ex.newG r.g) (r.ext ex) xd
    | ok es =>
      rw [q] at p
      have p : PostS X.K W D G F (if ds.length + es.length ≤ sizeLine then .next (ρ.set i (.own (ds ++ es))) else .bad) := p
      intro b ws F1 H1 ex k1 k2 k3 k4
      by_cases hl : ds.length + es.length ≤ sizeLine
      · rw [if_pos hl] at p
        have r1 := r.ext ex
        exact ⟨a, b, vs, ws, rfl, rfl, ex.h _ _ h2, k1, by rw [← h3.length, ← k2.length]; exact hl, p σ F1 _ ex.f (ex.newG r.g) (r1.turnO z h1 ((RepL.mono ex.f _ _ h3).append k2))⟩
      · rw [if_neg hl] at p; exact p.elim
end
/-! #### a dict of one's own, its keys ints -/
def sOwnD (i : Nat) : REnv → SR := fun ρ => .next (ρ.set i (.ownD [] []))
def eFrzD (i : Nat) (ρ : REnv) : REnv := match ρ[i]? with
  | some (.ownD ks ds) => ρ.set i (.val (.dct ks ds))
  | _ => ρ
def sFrzD (i : Nat) (g : REnv → SR) : REnv → SR := fun ρ => g (eFrzD i ρ)
section
variable {K : PySem.W.Frag} {G F H F' H' : Hp} {σ : St} {ρ : REnv}
end
section
variable {X : Cx} {W : WX} {e b : Expr} {f g : REnv → R D} {st : Stmt} {h : REnv → SR} {pos sp np pos' dp : Pos} {x : Str}
end
section
variable {ρ : REnv} {N : REnv → Prop} {T : D → Prop} {E : D → REnv → Prop} {P E' : D → Prop} {f g : REnv → R D} {h : REnv → SR} {u : REnv → R (D × REnv)} {x : REnv → R (List D)} {Q : List D → Prop}
theorem rgL_wp {a b : Int} (hr : Rgs a b) (h : Q (rangeD a (b - a).toNat)) : (rgL a b).wp Q E' := by
  unfold rgL
  rw [if_pos hr]
  exact h
theorem wp_xRg1 (h : (f ρ).wp (fun d => HasI d fun n => (0 ≤ n ∧ n ≤ 1000000) ∧ Q (rangeD 0 n.toNat)) E') : (xRg1 f ρ).wp Q E' := by
  refine wp_bind (h.post ?_)
  rintro _ ⟨n, rfl, ⟨h0, h1⟩, h2⟩
  exact rgL_wp ⟨by decide, by decide, h0, h1⟩ (by rw [Int.sub_zero]; exact h2)
theorem wp_keep (h : (x ρ).wp (fun ds => P (.lst ds)) E') : (eKeep x ρ).wp P E' := wp_bind h
def PWp (x : R (D × REnv)) (P : D → REnv → Prop) : Prop := match x with
  | .ok p => P p.1 p.2
  | _ => False
def PWps (x : R (List D × REnv)) (P : List D → REnv → Prop) : Prop := match x with
  | .ok p => P p.1 p.2
  | _ => False
theorem pw_lift {P : D → REnv → Prop} (h : (f ρ).wp (fun d => P d ρ) NoE) : PWp (pLift f ρ) P := by
  obtain ⟨d, e, q⟩ := h.ok
  unfold pLift
  rw [e]
  exact q
theorem pw_nil {P : List D → REnv → Prop} (h : P [] ρ) : PWps (pNil ρ) P := h
theorem pw_cons {P : List D → REnv → Prop} {t : REnv → R (List D × REnv)} (h : PWp (u ρ) fun d ρ' => PWps (t ρ') fun ds ρ2 => P (d :: ds) ρ2) : PWps (pCons u t ρ) P := by
  unfold pCons
  cases q : u ρ with
  | ok p =>
    rw [q] at h
    have h : PWps (t p.2) fun ds ρ2 => P (p.1 :: ds) ρ2 := h
    cases q2 : t p.2 with
    | ok p2 => rw [q2] at h; simp only [q2]; exact h
    | err _ => rw [q2] at h; exact h.elim
    | bad => rw [q2] at h; exact h.elim
  | err _ => rw [q] at h; exact h.elim
  | bad => rw [q] at h; exact h.elim
theorem pw_tup {P : D → REnv → Prop} {t : REnv → R (List D × REnv)} (h : PWps (t ρ) fun ds ρ' => ds.length ≤ sizeLine ∧ P (.tup ds) ρ') : PWp (pTup t ρ) P := by
  unfold pTup
  cases q : t ρ with
  | ok p =>
    rw [q] at h
    obtain ⟨h1, h2⟩ := h
    simp only [if_pos h1]
    exact h2
  | err _ => rw [q] at h; exact h.elim
  | bad => rw [q] at h; exact h.elim
theorem pw_pop {P : D → REnv → Prop} {i : Nat} {ds : List D} (e : ρ[i]? = some (.own ds)) (hl : ds.length ≤ 1000000) (h : (f ρ).wp (fun m => HasI m fun m => ∃ k d, L2.ixN ds.length m = some k ∧ ds[k]? = some d ∧ P d (ρ.set i (.own (ds.eraseIdx k)))) NoE) : PWp (pPop i f ρ) P := by
  obtain ⟨_, e1, m, rfl, k, d, e2, e3, h2⟩ := h.ok
  unfold pPop
  rw [e, e1]
  show PWp (popAt ρ i ds (.int m)) P
  unfold popAt
  simp only [e2, e3, if_pos hl]
  exact h2
theorem sp_setP {i : Nat} (h : PWp (u ρ) fun d ρ' => Upd ρ' i (.val d) N) : (sSetP i u ρ).wp N T E := by
  unfold sSetP
  cases q : u ρ with
  | ok p => rw [q] at h; exact h
  | err _ => rw [q] at h; exact h.elim
  | bad => rw [q] at h; exact h.elim
theorem sp_exprP (h : PWp (u ρ) fun d ρ' => N ρ') : (sExprP u ρ).wp N T E := by
  unfold sExprP
  cases q : u ρ with
  | ok p => rw [q] at h; exact h
  | err _ => rw [q] at h; exact h.elim
  | bad => rw [q] at h; exact h.elim
theorem sp_appQ {i : Nat} {ds0 : List D} (e : ρ[i]? = some (.own ds0)) (h : PWp (u ρ) fun d ρ' => ∃ ds, ρ'[i]? = some (.own ds) ∧ ds.length < sizeLine ∧ Upd ρ' i (.own (ds ++ [d])) N) : (sAppP i u ρ).wp N T E := by
  unfold sAppP
  rw [e]
  cases q : u ρ with
  | ok p =>
    rw [q] at h
    obtain ⟨ds, e2, hl, h2⟩ := h
    show (appP i p).wp N T E
    unfold appP
    rw [e2]
    show (if ds.length < sizeLine then SR.next _ else .bad : SR).wp N T E
    rw [if_pos hl]
    exact h2
  | err _ => rw [q] at h; exact h.elim
  | bad => rw [q] at h; exact h.elim
theorem sp_extN {i : Nat} {ds : List D} (e : ρ[i]? = some (.own ds)) (h : (x ρ).wp (fun es => ds.length + es.length ≤ sizeLine ∧ Upd ρ i (.own (ds ++ es)) N) (fun e => E e ρ)) : (sExtN i x ρ).wp N T E := by
  unfold sExtN
  rw [e]
  refine wp_toS (h.post fun es ⟨hl, h2⟩ => ?_)
  rw [if_pos hl]
  exact h2
theorem sp_ownD {i : Nat} (h : Upd ρ i (.ownD [] []) N) : (sOwnD i ρ).wp N T E := h
theorem sp_frzD {i : Nat} {ks : List Key} {ds : List D} (e : ρ[i]? = some (.ownD ks ds)) (hh : Upd ρ i (.val (.dct ks ds)) fun ρ' => (h ρ').wp N T E) : (sFrzD i h ρ).wp N T E := by
  unfold sFrzD eFrzD
  rw [e]
  exact hh
theorem sp_frzD0 {i : Nat} {d : D} (e : ρ[i]? = some (.val d)) (hh : (h ρ).wp N T E) : (sFrzD i h ρ).wp N T E := by
  unfold sFrzD eFrzD
  rw [e]
  exact hh
end
end Dy

set_option Elab.async false
set_option linter.all false
set_option maxRecDepth 100000
/-! ### sorted lists of lists of ints; x.index(e) -/
namespace Dy
open PySem PySem.Spec PyProof.Rows L2
def leR (p q : List Int) : Bool := decide (p ≤ q)
def rSortedR (K : PySem.W.Frag) : List V → Hp → VK → Prop := fun vs H Q => ∃ (a : Addr) (L : List (V × List Int)), vs = [V.ref a] ∧ SqL K H a (L.map (·.1)) ∧ (∀ b ∈ L, Dp K H b.1 (.list (b.2.map .int))) ∧
  ∀ p, H p = none → Q (.ref p) (upd H p (.lst ((L.mergeSort (fun p q => leR p.2 q.2)).map (·.1))))
theorem each_vals {β : Type} : ∀ {L : List (V × β)} {us : List Value}, PySem.W.EachIs (fun (v : Value) (b : V × β) => RelV b.1 v) us L → Vals (L.map (·.1)) us
  | _, _, .nil => .nil
  | _, _, .cons h t => .cons h (each_vals t)
theorem each_imp {α β : Type} {R S : α → β → Prop} (k : ∀ a b, R a b → S a b) : ∀ {as : List α} {bs : List β}, PySem.W.EachIs R as bs → PySem.W.EachIs S as bs
  | _, _, .nil => .nil
  | _, _, .cons h t => .cons (k _ _ h) (each_imp k t)
theorem cr_sortedR {X : Cx} (hu : X.A.units + 64 < cLine) : CallR X (.builtin "sorted") (rSortedR X.K) := by
  intro pins s σ H vs us Q I r h
  obtain ⟨a, L, rfl, hs, hd, q⟩ := h
  obtain ⟨its, rv, hl, hz⟩ := I.list hs
  rw [Vals.ref1 r]
  have e0 : PySem.W.EachIs (fun (v : Value) (b : V × List Int) => RelV b.1 v ∧ ∃ as, Reads s.heap v (.list (b.2.map .int)) as) its L := by
    have main : ∀ {L : List (V × List Int)} {us : List Value}, Vals (L.map (·.1)) us → (∀ b ∈ L, Dp X.K H b.1 (.list (b.2.map .int))) → PySem.W.EachIs (fun (v : Value) (b : V × List Int) => RelV b.1 v ∧ ∃ as, Reads s.heap v (.list (b.2.map .int)) as) us L := by
      intro L
      induction L with
      | nil => intro us r _; cases r; exact .nil
      | cons b L ih =>
        intro us r k
        cases r with
        | cons h1 h2 => exact .cons ⟨h1, Dp.reads I _ _ _ (k b List.mem_cons_self) h1⟩ (ih h2 fun b hb => k b (List.mem_cons_of_mem _ hb))
    exact main rv hd
  have hlen : L.length ≤ sizeLine := by
    rw [List.length_map] at hz
    exact hz
  have hle : PySem.W.dataLe false (fun b : V × List Int => PyData.list (b.2.map .int)) = fun p q => leR p.2 q.2 := PySem.W.dataLe_rows (fun b : V × List Int => b.2)
  refine PySem.W.sorted_data (R := fun (v : Value) (b : V × List Int) => RelV b.1 v) (enc := fun b : V × List Int => PyData.list (b.2.map .int)) (bs := L) hl.isList (each_imp (fun _ _ h => h.1) e0) (each_imp (fun _ _ h => h.2) e0)
    (PySem.W.AllAlike.of fun b b' => ?_) (PySem.W.Sortable.others fun b => ⟨(fun z => by cases z), fun xs z => by cases z⟩) hlen (fun b _ => ?_) fun out ho eo => ?_
  · have := PySem.W.alike_ints b.2 b'.2
    simpa [PySem.W.alike] using this
  · have : (PyData.list (b.2.map .int)).depth = 1 := by
      have := PySem.W.depth_ints b.2
      simp [PyData.depth, this]
    show X.A.units + 2 + (PyData.list (b.2.map .int)).depth < cLine
    omega
  · rw [hle] at eo
    have ev := each_vals eo
    obtain ⟨ep, he'⟩ := PyProof.Rows.sortedAll_at s.heap its out.toArray
    refine ⟨.ref _, upd H (s.heap.objs.size + 1) (.lst ((L.mergeSort (fun p q => leR p.2 q.2)).map (·.1))), I.laid (t' := s.toks) (fun _ _ => PyProof.Rows.sortedAll_old) (Nat.le_succ _) ⟨?_, out, ep, ev, he'⟩, rfl, q _ (I.hok.fresh (Nat.le_succ _))⟩
    rw [List.length_map, List.length_mergeSort]
    exact hlen
/-! #### over data -/
def rowsD : List D → Option (List (List Int))
  | [] => some []
  | .lst xs :: r => (intsD xs).bind fun ns => (rowsD r).map (ns :: ·)
  | _ :: _ => none
def rwD (ns : List Int) : D := .lst (ns.map .int)
theorem rowsD_map : ∀ L : List (List Int), rowsD (L.map rwD) = some L
  | [] => rfl
  | ns :: L => by
    show (intsD (ns.map D.int)).bind (fun ns => (rowsD (L.map rwD)).map (ns :: ·)) = _
    rw [intsD_map, rowsD_map L]
    rfl
def oSortR : List D → Option D
  | [.lst ds] => (rowsD ds).map fun L => .lst ((L.mergeSort leR).map rwD)
  | _ => none
theorem intsD_inv : ∀ {ds : List D} {ns : List Int}, intsD ds = some ns → ds = ns.map .int
  | [], ns, e => by cases e; rfl
  | d :: ds, ns, e => by
    unfold intsD at e
    split at e
    · rename_i heq; cases heq
    · rename_i i r heq
      cases heq
      cases q : intsD ds with
      | none => rw [q] at e; cases e
      | some ms => rw [q] at e; cases e; rw [intsD_inv q]; rfl
    · cases e
theorem rowsD_inv : ∀ {ds : List D} {L : List (List Int)}, rowsD ds = some L → ds = L.map rwD
  | [], L, e => by cases e; rfl
  | d :: ds, L, e => by
    unfold rowsD at e
    split at e
    · rename_i heq; cases heq
    · rename_i xs r heq
      cases heq
      obtain ⟨ns, h1, h2⟩ := Option.bind_eq_some_iff.mp e
      obtain ⟨L', h3, rfl⟩ := Option.map_eq_some_iff.mp h2
      rw [intsD_inv h1, rowsD_inv h3]
      rfl
    · cases e
theorem dp_ints {K : PySem.W.Frag} {H : Hp} : ∀ ns : List Int, DpAll K H (ns.map V.int) (ns.map PyData.int)
  | [] => .nil
  | n :: ns => .cons (.int n) (dp_ints ns)
theorem rw_dp {K : PySem.W.Frag} {F H : Hp} (s : Same F H) {ns : List Int} {v : V} (r : Rep K F (rwD ns) v) : Dp K H v (.list (ns.map .int)) := by
  obtain ⟨a, vs, rfl, h1, h2⟩ := Rep.lst_inv r
  have := intsD_rep (intsD_map ns) h2
  subst this
  exact .lst (Same.seq s h1) (dp_ints ns)
theorem rep_pairs {K : PySem.W.Frag} {F : Hp} : ∀ {P : List (V × List Int)}, (∀ b ∈ P, Rep K F (rwD b.2) b.1) → RepL K F ((P.map (·.2)).map rwD) (P.map (·.1))
  | [], _ => RepL.nil
  | b :: P, h => RepL.cons (h b List.mem_cons_self) (rep_pairs fun b hb => h b (List.mem_cons_of_mem _ hb))
theorem pairs_of {K : PySem.W.Frag} {F : Hp} : ∀ {L : List (List Int)} {vs : List V}, RepL K F (L.map rwD) vs → ∃ P : List (V × List Int), P.map (·.1) = vs ∧ P.map (·.2) = L ∧ ∀ b ∈ P, Rep K F (rwD b.2) b.1
  | [], vs, r => by
    simp only [List.map_nil, RepL] at r
    exact ⟨[], r.symm, rfl, fun b h => nomatch h⟩
  | ns :: L, vs, r => by
    simp only [List.map_cons, RepL] at r
    obtain ⟨v, r', rfl, h1, h2⟩ := r
    obtain ⟨P, e1, e2, h3⟩ := pairs_of h2
    refine ⟨(v, ns) :: P, by rw [List.map_cons, e1], by rw [List.map_cons, e2], fun b hb => ?_⟩
    rcases List.mem_cons.mp hb with rfl | hb
    · exact h1
    · exact h3 b hb
theorem d_sortR {X : Cx} (hu : X.A.units + 64 < cLine) : CallR X (.builtin "sorted") (rSortedR X.K) ∧ OpN X.K (rSortedR X.K) oSortR := ⟨cr_sortedR hu, fun F H xs as d Q s ra e q => by
  unfold oSortR at e
  split at e
  · obtain ⟨L, e1, rfl⟩ := Option.map_eq_some_iff.mp e
    have := rowsD_inv e1
    subst this
    obtain ⟨v, rfl, h⟩ := ra.one
    obtain ⟨a, vs, rfl, h1, h2⟩ := h.lst_inv
    obtain ⟨P, rfl, rfl, hP⟩ := pairs_of h2
    refine ⟨a, P, rfl, Same.seq s h1, fun b hb => rw_dp s (hP b hb), anew q s fun p s2 => ?_⟩
    have em : (P.map (·.2)).mergeSort leR = (P.mergeSort (fun p q => leR p.2 q.2)).map (·.2) := (List.map_mergeSort (f := fun b : V × List Int => b.2) (r := fun p q => leR p.2 q.2) (s := leR) (fun _ _ _ _ => rfl)).symm
    rw [em]
    exact Rep.mk_lst (.of upd_same) (rep_pairs fun b hb => Rep.mono s2 _ _ (hP b (List.mem_mergeSort.mp hb)))
  · cases e⟩
/-! #### x.index(e) -/
section
variable {X : Cx} {W : WX} {o e : Expr} {f g : REnv → R D} {ap xp : Pos}
theorem w_sortR {L : List (List Int)} {P : D → Prop} (h : P (.lst ((L.mergeSort leR).map rwD))) : Got (oSortR [.lst (L.map rwD)]) P := by
  refine ⟨_, ?_, h⟩
  show (rowsD (L.map rwD)).map _ = _
  rw [rowsD_map]
  rfl
end
end Dy

set_option Elab.async false
set_option linter.all false
set_option maxRecDepth 100000
/-! ### a dict of one's own, its keys ints, its values lists of one's own -/
namespace Dy
open PySem PySem.Spec PyProof.Rows L2
section
variable {K : PySem.W.Frag} {G F H F' H' : Hp} {σ : St} {ρ : REnv}
end
section
variable {X : Cx} {W : WX} {e b : Expr} {f g : REnv → R D} {pos sp np pos' dp lp ap xp : Pos} {x : Str}
end
section
variable {ρ : REnv} {N : REnv → Prop} {T : D → Prop} {E : D → REnv → Prop} {f g : REnv → R D}
end
end Dy

set_option Elab.async false
set_option linter.all false
set_option maxRecDepth 100000
/-! ### a comprehension over a dict's keys -/
namespace Dy
open PySem PySem.Spec PyProof.Rows L2
/-- plain values alone -/
def valE (ρ : REnv) : REnv := ρ.map fun s => match s with
  | .val d => .val d
  | _ => .un
section
variable {K : PySem.W.Frag} {F H G F' H' : Hp} {d : Addr} {od : Obj} {kvs : List (Key × V)}
mutual
theorem Rep.chg (ht : ∀ a vs, SqT K F a vs → SqT K F' a vs) (hl : ∀ a vs, SqL K F a vs → SqL K F' a vs) (hk : ∀ a z, Rd F a (.dK z) → Rd F' a (.dK z)) (hx : ∀ a f, F a = some (.ext f) → F' a = some (.ext f)) (hy : ∀ a f, F a = some (.xd f) → F' a = some (.xd f)) : ∀ (x : D) (v : V), Rep K F x v → Rep K F' x v
  | .non, v, h => by simpa [Rep] using h
  | .bl b, v, h => by simpa [Rep] using h
  | .int i, v, h => by simpa [Rep] using h
  | .str x, v, h => by simpa [Rep] using h
  | .ty n, v, h => by simpa [Rep] using h
  | .cls n, v, h => by simpa [Rep] using h
  | .tup xs, v, h => by
    simp only [Rep] at h ⊢
    obtain ⟨a, vs, h1, h2, h3⟩ := h
    exact ⟨a, vs, h1, ht _ _ h2, RepL.chg ht hl hk hx hy xs vs h3⟩
  | .lst xs, v, h => by
    simp only [Rep] at h ⊢
    obtain ⟨a, vs, h1, h2, h3⟩ := h
    exact ⟨a, vs, h1, hl _ _ h2, RepL.chg ht hl hk hx hy xs vs h3⟩
  | .dct ks xs, v, h => by
    simp only [Rep] at h ⊢
    obtain ⟨a, vs, h1, h2, h3, h4⟩ := h
    exact ⟨a, vs, h1, hk _ _ h2, h3, RepL.chg ht hl hk hx hy xs vs h4⟩
  | .exc c fs xs, v, h => by
    simp only [Rep] at h ⊢
    obtain ⟨a, dd, vs, h1, h2, h3, h4, h5⟩ := h
    refine ⟨a, dd, vs, h1, hx _ _ h2, h3, RepL.chg ht hl hk hx hy xs vs h4, ?_⟩
    cases dd with
    | none => exact h5
    | some d => exact hy _ _ h5
theorem RepL.chg (ht : ∀ a vs, SqT K F a vs → SqT K F' a vs) (hl : ∀ a vs, SqL K F a vs → SqL K F' a vs) (hk : ∀ a z, Rd F a (.dK z) → Rd F' a (.dK z)) (hx : ∀ a f, F a = some (.ext f) → F' a = some (.ext f)) (hy : ∀ a f, F a = some (.xd f) → F' a = some (.xd f)) : ∀ (ds : List D) (vs : List V), RepL K F ds vs → RepL K F' ds vs
  | [], vs, h => by simpa [RepL] using h
  | d :: ds, vs, h => by
    simp only [RepL] at h ⊢
    obtain ⟨v, r, h1, h2, h3⟩ := h
    exact ⟨v, r, h1, Rep.chg ht hl hk hx hy d v h2, RepL.chg ht hl hk hx hy ds r h3⟩
end
/-- plain values, any kept heap that holds them -/
theorem RepE.vals {σ : St} {ρ : REnv} (r : RepE K G F H σ ρ) (f : Same F' H') (h : ∀ d v, Rep K F d v → Rep K F' d v) : RepE K (fun _ => none) F' H' σ (valE ρ) := by
  have un : ∀ {j : Nat} {s : Sl}, (valE ρ)[j]? = some s → s = .un ∨ ∃ d, s = .val d ∧ ρ[j]? = some (.val d) := fun {j s} e => by
    unfold valE at e
    rw [List.getElem?_map, Option.map_eq_some_iff] at e
    obtain ⟨s', e1, rfl⟩ := e
    cases s' with
    | val d => exact .inr ⟨d, rfl, e1⟩
    | _ => exact .inl rfl
  refine ⟨(fun a o z => nomatch z), f, by unfold valE; rw [List.length_map]; exact r.len, fun i s x h1 h2 => ?_, fun i j s t x y a hij h1 h2 h3 h4 o1 o2 => ?_⟩
  · rcases un h1 with rfl | ⟨d, rfl, e⟩
    · trivial
    · obtain ⟨v, e1, e2⟩ := r.at_ i _ _ e h2
      exact ⟨v, e1, h _ _ e2⟩
  · rcases un h1 with rfl | ⟨d, rfl, e⟩
    · exact o1.elim
    · exact o1.elim
end
section
variable {X : Cx} {W : WX} {elt tg : Expr} {ifs : List Expr} {scope : Scope} {own : List (Str × Nat)} {pos np : Pos} {t : TG} {b : D → REnv → Option REnv} {c : REnv → R Bool} {e : REnv → R D} {is : List Nat} {x : Str}
end
section
variable {b : D → REnv → Option REnv} {c : REnv → R Bool} {e : REnv → R D} {ρ : REnv} {P : D → Prop} {E : D → Prop} {vs : List Nat}
end
end Dy

set_option Elab.async false
set_option linter.all false
set_option maxRecDepth 100000
/-! ### a tuple of new things as a tree -/
namespace Dy
open PySem PySem.Spec PyProof.Rows L2
def xTup (t : REnv → R (List O)) : REnv → R O := fun ρ => (t ρ).bind fun os => if os.length ≤ sizeLine then .ok (.t os) else .bad
section
variable {X : Cx} {W : WX} {es : List Expr} {tp : Pos} {kk : Nat} {t : REnv → R (List O)}
theorem set_tup (ha : SAO X W [] es t) : SET X W (.Tuple es kk tp) (xTup t) :=
  (pe_tup ha).dy fun σ H Q ⟨G, F, ρ, r, p⟩ => ⟨G, F, ρ, r, by
    unfold xTup at p
    cases q : t ρ with
    | bad => rw [q] at p; exact p.elim
    | err z => rw [q] at p; exact p
    | ok os =>
      rw [q] at p
      have p : PostT X.K W σ F H (if os.length ≤ sizeLine then R.ok (.t os) else .bad) Q := p
      intro vs fp F1 H1 ex o nd fr
      by_cases hl : os.length ≤ sizeLine
      case neg => rw [if_neg hl] at p; exact p.elim
      rw [if_pos hl] at p
      refine ⟨by rw [← o.length]; exact hl, fun a ha => ?_⟩
      have s2 : Same F1 (upd F1 a (.tup vs)) := same_upd (ex.s.free ha)
      have nx : Ext F1 H1 (upd F1 a (.tup vs)) (upd H1 a (.tup vs)) := Ext.new ex.s ha
      have nofp : ∀ b ∈ fp, b ≠ a := fun b hb e => by
        obtain ⟨us, hu⟩ := OwRs.inH os vs fp o b hb
        rw [e, ha] at hu
        cases hu
      refine p (.ref a) fp _ _ (ex.trans nx) ?_ nd fun b hb => ⟨by rw [upd_ne (nofp b hb)]; exact (fr b hb).1, ?_⟩
      · simp only [OwR]
        exact ⟨a, vs, rfl, upd_same, OwRs.move s2 os vs fp o fun b hb => upd_ne (nofp b hb)⟩
      · rcases (fr b hb).2 with z | ⟨i, hi, _⟩
        · exact z
        · exact nomatch hi⟩
end
section
variable {ρ : REnv} {P : O → Prop} {E : D → Prop} {t : REnv → R (List O)}
theorem wp_xTup (h : (t ρ).wp (fun os => os.length ≤ sizeLine ∧ P (.t os)) E) : (xTup t ρ).wp P E := wp_bind (h.post fun os ⟨h1, h2⟩ => by rw [if_pos h1]; exact h2)
end
end Dy
/-! ### what a def told, looked at, and then changed in its lists -/
namespace Dy
open PySem PySem.Spec PyProof.Rows L2
def noLst : PySem.W.Frag → Bool := fun K => K.all fun p => match p.2.cls with
  | .type n => n != "list"
  | _ => true
theorem mem_of_lk : ∀ {K : List (Addr × Obj)} {a : Addr} {o : Obj}, K.lookup a = some o → ∃ p ∈ K, p.2 = o
  | [], a, o, h => by simp at h
  | (b, u) :: r, a, o, h => by
    rw [List.lookup_cons] at h
    split at h
    · cases h; exact ⟨_, List.mem_cons_self, rfl⟩
    · obtain ⟨p, hp, e⟩ := mem_of_lk h
      exact ⟨p, List.mem_cons_of_mem _ hp, e⟩
theorem noLst_no {K : PySem.W.Frag} (h : noLst K = true) {a : Addr} {o : Obj} (e : K.lookup a = some o) : o.cls ≠ .type "list" := fun z => by
  obtain ⟨p, hp, e2⟩ := mem_of_lk e
  have q := List.all_eq_true.mp h p hp
  rw [e2, z] at q
  exact absurd q (by decide)
/-- the lists that are new since H0 are known as lists -/
def unl (H0 H : Hp) : Hp := fun a => match H0 a, H a with
  | none, some (.frz _ (.lst ws)) => some (.lst ws)
  | _, x => x
section
variable {H0 H : Hp} {a : Addr}
theorem unl_eq : unl H0 H a = H a ∨ (H0 a = none ∧ ∃ o ws, H a = some (.frz o (.lst ws)) ∧ unl H0 H a = some (.lst ws)) := by
  unfold unl
  split
  · rename_i h1 h2
    exact .inr ⟨h1, _, _, h2, rfl⟩
  · exact .inl rfl
theorem unl_old {u : HO} (h : H0 a = some u) : unl H0 H a = H a := by
  rcases unl_eq (H0 := H0) (H := H) (a := a) with q | ⟨q, _⟩
  · exact q
  · rw [h] at q; cases q
theorem unl_not {u : HO} (h : H a = some u) (n : ∀ o ws, u ≠ .frz o (.lst ws)) : unl H0 H a = some u := by
  rcases unl_eq (H0 := H0) (H := H) (a := a) with q | ⟨_, o, ws, q, _⟩
  · rw [q, h]
  · rw [h] at q; cases q; exact absurd rfl (n _ _)
theorem unl_none (h : H a = none) : unl H0 H a = none := by
  rcases unl_eq (H0 := H0) (H := H) (a := a) with q | ⟨_, o, ws, q, _⟩
  · rw [q, h]
  · rw [h] at q; cases q
theorem unl_new {o : Obj} {ws : List V} (h0 : H0 a = none) (h : H a = some (.frz o (.lst ws))) : unl H0 H a = some (.lst ws) := by
  unfold unl
  rw [h0, h]
end
end Dy
namespace L2
open PySem PySem.Spec PyProof.Rows Dy
theorem Inv.unl {X : Cx} {pins : List (Addr × Obj)} {σ σ' : St} {H0 H : Hp} {s0 s : Shared} (I0 : Inv X pins σ H0 s0) (I : Inv X pins σ' H s) : Inv X pins σ' (unl H0 H) s :=
  ⟨I.ok, I.os, I.bare,
    ⟨I.base.keep, I.base.slot, fun b o q n hx => unl_none (I.base.free b o q n hx), I.base.there,
      fun b xs e => unl_not (I.base.tups b xs e) (by intro o ws z; cases z),
      fun b o u e => by rw [unl_old (I0.base.frzs b o u e)]; exact I.base.frzs b o u e,
      fun b ps e => by
        obtain ⟨more, q⟩ := I.base.tbls b ps e
        exact ⟨more, unl_not q (by intro o ws z; cases z)⟩⟩,
    I.loc, I.cell, unl_none I.free, fun x c e => unl_none (I.freeC x c e),
    fun p hp => ⟨(I.pin p hp).1, unl_none (I.pin p hp).2.1, (I.pin p hp).2.2⟩,
    fun a u e => by
      have st : ∀ o, ObjOk X.prog X.w H s.heap a o → ObjOk X.prog X.w (Dy.unl H0 H) s.heap a o := fun o x =>
        x.stay (fun b u _ q => q) (fun b q => unl_not q (by intro o ws z; cases z)) fun b xs q => unl_not q (by intro o ws z; cases z)
      rcases unl_eq (H0 := H0) (H := H) (a := a) with q | ⟨_, o, ws, q, q2⟩
      · rw [q] at e
        exact st _ (I.hok a u e)
      · rw [q2] at e
        cases e
        have x : ObjOk X.prog X.w H s.heap a (.frz o (.lst ws)) := I.hok a _ q
        exact st _ x.2,
    I.len⟩
end L2
namespace Dy
open PySem PySem.Spec PyProof.Rows L2
def rdF (K : PySem.W.Frag) (f : REnv → R D) : TE := fun σ H Q => ∃ G F ρ d, RepE K G F H σ ρ ∧ f ρ = .ok d ∧
  ∀ v F1 H1, Ext F H F1 H1 → Rep K F1 d v → (∀ a o ws, F1 a = some (.frz o (.lst ws)) → ∃ u, F a = some u) → Q v H1
theorem pe_fresh {X : Cx} {W : WX} {e : Expr} {f : REnv → R D} (h : SE X W e f) : PE X e (rdF X.K f) :=
  ⟨fun pins s σ H Q I ⟨G, F, ρ, d, r, hd, p⟩ => by
    refine thn (h.run pins s σ H (fun v H1 => Q v (unl H H1)) I ⟨G, F, ρ, r, ?_⟩) fun u s1 ⟨v, H1, I1, r1, q1⟩ => ⟨v, _, I.unl I1, r1, q1⟩
    rw [hd]
    intro v F1 H1 ex rp
    have so : ∀ {b : Addr} {u : HO}, F b = some u → unl H F1 b = F1 b := fun {b u} q => unl_old (r.f _ _ q)
    have hsome : ∀ {b : Addr} {u : HO}, unl H F1 b = some u → ∃ w, F1 b = some w := fun {b u} q => by
      cases z : F1 b with
      | none => rw [unl_none z] at q; cases q
      | some w => exact ⟨w, rfl⟩
    have n1 : ∀ {b : Addr} {u : HO}, unl H F1 b = some u → F b = none → H b = none := fun {b u} q z => by
      obtain ⟨w, hw⟩ := hsome q
      exact ex.n b w hw z
    have sm : Same (unl H F1) (unl H H1) := fun b u q => by
      obtain ⟨w, hw⟩ := hsome q
      have hw1 := ex.s _ _ hw
      unfold unl at q ⊢
      rw [hw] at q
      rw [hw1]
      exact q
    refine p v (unl H F1) (unl H H1) ⟨fun b u q => by rw [so q]; exact ex.f _ _ q, fun b u q => by rw [unl_old q]; exact ex.h _ _ q, sm, fun b u q z => n1 q z⟩ ?_ fun a o ws q => ?_
    · refine Rep.chg (fun a vs h => ?_) (fun a vs h => ?_) (fun a z h => ?_) (fun a g h => unl_not h (by intro o ws z; cases z)) (fun a g h => unl_not h (by intro o ws z; cases z)) d v rp
      · rcases h with (h | ⟨o, h⟩) | h
        · exact .inl (.inl (unl_not h (by intro o ws z; cases z)))
        · exact .inl (.inr ⟨o, unl_not h (by intro o ws z; cases z)⟩)
        · exact .inr h
      · rcases h with (h | ⟨o, h⟩) | h
        · exact .inl (.inl (unl_not h (by intro o ws z; cases z)))
        · rcases unl_eq (H0 := H) (H := F1) (a := a) with q | ⟨_, o', ws, q, q2⟩
          · exact .inl (.inr ⟨o, q.trans h⟩)
          · rw [h] at q
            cases q
            exact .inl (.inl q2)
        · exact .inr h
      · rcases h with h | ⟨o, h⟩
        · exact .inl (unl_not h (by intro o ws z; cases z))
        · exact .inr ⟨o, unl_not h (by intro o ws z; cases z)⟩
    · cases z : F a with
      | some u => exact ⟨u, rfl⟩
      | none =>
        have hn := n1 q z
        rcases unl_eq (H0 := H) (H := F1) (a := a) with k | ⟨_, o', ws', k, k2⟩
        · rw [q] at k
          rw [unl_new hn k.symm] at q
          cases q
        · rw [q] at k2
          cases k2⟩
/-- the tuples among the kept -/
def tupsOf (F : Hp) : Hp := fun a => match F a with
  | some (.tup xs) => some (.tup xs)
  | some (.frz o (.tup xs)) => some (.frz o (.tup xs))
  | _ => none
theorem tupsOf_some {F : Hp} {a : Addr} {u : HO} (h : tupsOf F a = some u) : F a = some u ∧ ((∃ xs, u = .tup xs) ∨ ∃ o xs, u = .frz o (.tup xs)) := by
  unfold tupsOf at h
  split at h
  · rename_i xs q; cases h; exact ⟨q, .inl ⟨_, rfl⟩⟩
  · rename_i o xs q; cases h; exact ⟨q, .inr ⟨_, _, rfl⟩⟩
  · cases h
theorem tupsOf_same {F : Hp} : Same (tupsOf F) F := fun a u h => (tupsOf_some h).1
theorem SqT.tups {K : PySem.W.Frag} {F : Hp} {a : Addr} {xs : List V} (h : SqT K F a xs) : SqT K (tupsOf F) a xs := by
  rcases h with (h | ⟨o, h⟩) | h
  · exact .inl (.inl (by unfold tupsOf; rw [h]))
  · exact .inl (.inr ⟨o, by unfold tupsOf; rw [h]⟩)
  · exact .inr h
section
variable {K : PySem.W.Frag} {F H : Hp}
mutual
theorem Rep.tups : ∀ (d : D) (v : V), noL d = true → Rep K F d v → Rep K (tupsOf F) d v
  | .non, v, _, r => by simpa [Rep] using r
  | .bl b, v, _, r => by simpa [Rep] using r
  | .int i, v, _, r => by simpa [Rep] using r
  | .str x, v, _, r => by simpa [Rep] using r
  | .tup xs, v, n, r => by
    simp only [Rep] at r ⊢
    obtain ⟨p, us, h1, h2, h3⟩ := r
    exact ⟨p, us, h1, SqT.tups h2, RepL.tups xs us n h3⟩
theorem RepL.tups : ∀ (ds : List D) (us : List V), noLs ds = true → RepL K F ds us → RepL K (tupsOf F) ds us
  | [], us, _, r => by simpa [RepL] using r
  | d :: ds, us, n, r => by
    simp only [RepL] at r ⊢
    obtain ⟨v, rr, h1, h2, h3⟩ := r
    have n : (noL d && noLs ds) = true := n
    rw [Bool.and_eq_true] at n
    exact ⟨v, rr, h1, Rep.tups d v n.1 h2, RepL.tups ds rr n.2 h3⟩
end
mutual
def okO : O → Bool
  | .v d => noL d
  | .l os => okOs os
  | .t os => okOs os
  | .m _ _ => false
def okOs : List O → Bool
  | [] => true
  | o :: os => okO o && okOs os
end
mutual
theorem OwR.tups : ∀ (o : O) (v : V) (fp : List Addr), okO o = true → OwR K F H o v fp → OwR K (tupsOf F) H o v fp
  | .v d, v, fp, k, h => by
    simp only [OwR] at h ⊢
    exact ⟨Rep.tups d v (by simpa only [okO] using k) h.1, h.2⟩
  | .l os, v, fp, k, h => by
    simp only [OwR] at h ⊢
    obtain ⟨a, vs, fq, h1, h2, h3, h4⟩ := h
    exact ⟨a, vs, fq, h1, h2, h3, OwRs.tups os vs fq (by simpa only [okO] using k) h4⟩
  | .t os, v, fp, k, h => by
    simp only [OwR] at h ⊢
    obtain ⟨a, vs, h1, h2, h4⟩ := h
    exact ⟨a, vs, h1, by unfold tupsOf; rw [h2], OwRs.tups os vs fp (by simpa only [okO] using k) h4⟩
  | .m ks os, v, fp, k, h => by simp [okO] at k
theorem OwRs.tups : ∀ (os : List O) (vs : List V) (fp : List Addr), okOs os = true → OwRs K F H os vs fp → OwRs K (tupsOf F) H os vs fp
  | [], vs, fp, k, h => by simpa only [OwRs] using h
  | o :: os, vs, fp, k, h => by
    simp only [OwRs] at h ⊢
    simp only [okOs, Bool.and_eq_true] at k
    obtain ⟨v, r, f1, f2, h1, h2, h3, h4⟩ := h
    exact ⟨v, r, f1, f2, h1, h2, OwR.tups o v f1 k.1 h3, OwRs.tups os r f2 k.2 h4⟩
end
mutual
theorem OwR.inHT : ∀ (o : O) (v : V) (fp : List Addr), okO o = true → OwR K F H o v fp → ∀ a ∈ fp, ∃ ws, H a = some (.lst ws)
  | .v d, v, fp, k, h, a, ha => by
    simp only [OwR] at h
    rw [h.2] at ha
    cases ha
  | .l os, v, fp, k, h, a, ha => by
    simp only [OwR] at h
    obtain ⟨a', vs, fq, h1, h2, h3, h4⟩ := h
    subst h3
    rcases List.mem_cons.mp ha with rfl | ha
    · exact ⟨_, h2⟩
    · exact OwRs.inHT os vs fq (by simpa only [okO] using k) h4 a ha
  | .t os, v, fp, k, h, a, ha => by
    simp only [OwR] at h
    obtain ⟨a', vs, h1, h2, h4⟩ := h
    exact OwRs.inHT os vs fp (by simpa only [okO] using k) h4 a ha
  | .m ks os, v, fp, k, h, a, ha => by simp [okO] at k
theorem OwRs.inHT : ∀ (os : List O) (vs : List V) (fp : List Addr), okOs os = true → OwRs K F H os vs fp → ∀ a ∈ fp, ∃ ws, H a = some (.lst ws)
  | [], vs, fp, k, h, a, ha => by
    simp only [OwRs] at h
    rw [h.2] at ha
    cases ha
  | o :: os, vs, fp, k, h, a, ha => by
    simp only [OwRs] at h
    simp only [okOs, Bool.and_eq_true] at k
    obtain ⟨v, r, f1, f2, h1, h2, h3, h4⟩ := h
    subst h2
    rcases List.mem_append.mp ha with ha | ha
    · exact OwR.inHT o v f1 k.1 h3 a ha
    · exact OwRs.inHT os r f2 k.2 h4 a ha
end
end
end Dy
/-! #### the changes -/
namespace Dy
open PySem PySem.Spec PyProof.Rows L2
/-- lists at the places S, and nothing of anyone's -/
structure MuE (K : PySem.W.Frag) (G F : Hp) (ρ0 : REnv) (j : Nat) (tf : Addr) (ts : List V) (S : Addr → Prop) (M : Nat) (σ : St) (H : Hp) : Prop where
  r : RepE K G F H σ ρ0
  s : σ[j]? = some (some (.ref tf))
  t : SqT K H tf ts
  l : ∀ c, S c → ∃ ws, H c = some (.lst ws) ∧ ws.length ≤ M
  f : ∀ c, S c → F c = none ∧ G c = none
  o : ∀ (m : Nat) (s : Sl) (x : Option V) (c : Addr), ρ0[m]? = some s → σ[m]? = some x → Owned K F H s x c → ¬ S c
section
variable {K : PySem.W.Frag} {G F H : Hp} {ρ0 : REnv} {j : Nat} {tf : Addr} {ts vs : List V} {S B : Addr → Prop} {M : Nat} {σ : St}
theorem MuE.le {N : Nat} (h : MuE K G F ρ0 j tf ts S M σ H) (hN : M ≤ N) : MuE K G F ρ0 j tf ts S N σ H :=
  ⟨h.r, h.s, h.t, fun c hc => by
    obtain ⟨ws, e, l⟩ := h.l c hc
    exact ⟨ws, e, by omega⟩, h.f, h.o⟩
theorem MuE.set {k : Nat} {v : V} (h : MuE K G F ρ0 j tf ts S M σ H) (hk : ρ0[k]? = some .un) (hjk : j ≠ k) : MuE K G F ρ0 j tf ts S M (σ.set k (some v)) H := by
  have r2 := h.r.unset (i := k) (x := some v)
  rw [set_same hk] at r2
  refine ⟨r2, by rw [List.getElem?_set_ne (fun e => hjk e.symm)]; exact h.s, h.t, h.l, h.f, fun m s x b h1 h2 ob => ?_⟩
  by_cases hm : m = k
  · subst hm
    rw [hk] at h1
    cases h1
    exact ob.elim
  · rw [List.getElem?_set_ne (fun e => hm e.symm)] at h2
    exact h.o m s x b h1 h2 ob
theorem seqT_upd {c : Addr} {ws us : List V} {zs : List V} {a : Addr} (hc : H c = some (.lst ws)) (h : SqT K H a us) : SqT K (upd H c (.lst zs)) a us := by
  rcases h with (h | ⟨o, h⟩) | h
  · exact .inl (.inl (by rw [upd_ne fun e => by rw [e, hc] at h; cases h]; exact h))
  · exact .inl (.inr ⟨o, by rw [upd_ne fun e => by rw [e, hc] at h; cases h]; exact h⟩)
  · exact .inr h
theorem MuE.poke {c : Addr} {ws : List V} (h : MuE K G F ρ0 j tf ts S M σ H) (hc : S c) (hl : ws.length ≤ M + 1) : MuE K G F ρ0 j tf ts S (M + 1) σ (upd H c (.lst ws)) := by
  obtain ⟨hf, hg⟩ := h.f c hc
  obtain ⟨w0, hw, _⟩ := h.l c hc
  have kp : ∀ (m : Nat) (s : Sl) (x : Option V) (b : Addr), ρ0[m]? = some s → σ[m]? = some x → Owned K F H s x b → upd H c (.lst ws) b = H b ∧ F b = none := fun m s x b h1 h2 ob =>
    ⟨upd_ne fun e => h.o m s x b h1 h2 ob (e ▸ hc), ((h.r.at_ m s x h1 h2).own ob).2.1⟩
  refine ⟨h.r.keep (fun b u q => by rw [upd_ne (ne_of_none q hg)]; exact h.r.g _ _ q) (fun b u q => by rw [upd_ne (ne_of_none q hf)]; exact h.r.f _ _ q) (.refl _) kp, h.s, seqT_upd hw h.t, fun b hb => ?_, h.f, fun m s x b h1 h2 ob => ?_⟩
  · by_cases e : b = c
    · rw [e]; exact ⟨ws, upd_same, hl⟩
    · rw [upd_ne e]
      obtain ⟨us, q, l⟩ := h.l b hb
      exact ⟨us, q, by omega⟩
  · exact h.o m s x b h1 h2 (((h.r.at_ m s x h1 h2).move (F' := F) (H' := upd H c (.lst ws)) (.refl _) fun b ob => kp m s x b h1 h2 ob).2 b ob)
/-- while the rows' lists grow -/
structure MuI (K : PySem.W.Frag) (G F : Hp) (ρ0 : REnv) (j : Nat) (tf : Addr) (ts : List V) (S B : Addr → Prop) (q : Addr) (vs : List V) (M : Nat) (σ : St) (H : Hp) : Prop where
  e : MuE K G F ρ0 j tf ts S M σ H
  q : H q = some (.lst vs)
  b : ∀ b, B b → S b ∧ ∃ ws, H b = some (.lst ws) ∧ ∀ w ∈ ws, ∃ i, w = V.int i
  w : ∀ w ∈ vs, ∃ p b x, w = V.ref p ∧ SqT K H p [.ref b, x] ∧ B b
theorem MuI.set {q : Addr} {k : Nat} {v : V} (h : MuI K G F ρ0 j tf ts S B q vs M σ H) (hk : ρ0[k]? = some .un) (hjk : j ≠ k) : MuI K G F ρ0 j tf ts S B q vs M (σ.set k (some v)) H :=
  ⟨h.e.set hk hjk, h.q, h.b, h.w⟩
theorem MuI.poke {q b : Addr} {ws : List V} {i : Int} (h : MuI K G F ρ0 j tf ts S B q vs M σ H) (hv : vs ≠ []) (hb : B b) (hw : H b = some (.lst ws)) : MuI K G F ρ0 j tf ts S B q vs (M + 1) σ (upd H b (.lst (ws ++ [.int i]))) := by
  obtain ⟨hS, us, e1, e2⟩ := h.b b hb
  have e3 : ws = us := by rw [hw] at e1; cases e1; rfl
  rw [← e3] at e2
  have hl : ws.length ≤ M := by
    obtain ⟨us, e3, l⟩ := h.e.l b hS
    rw [hw] at e3
    cases e3
    exact l
  have nq : q ≠ b := fun e => by
    have hq := h.q
    rw [e, hw] at hq
    have hq2 : ws = vs := by cases hq; rfl
    cases hvs : vs with
    | nil => exact hv hvs
    | cons w r =>
      obtain ⟨p, b', x, q1, _⟩ := h.w w (by rw [hvs]; exact List.mem_cons_self)
      obtain ⟨i, q2⟩ := e2 w (by rw [hq2, hvs]; exact List.mem_cons_self)
      rw [q1] at q2
      cases q2
  refine ⟨h.e.poke hS (by rw [List.length_append]; simpa using hl), by rw [upd_ne nq]; exact h.q, fun c hc => ?_, fun w hw' => ?_⟩
  · obtain ⟨z1, us, z2, z3⟩ := h.b c hc
    refine ⟨z1, ?_⟩
    by_cases e : c = b
    · rw [e]
      refine ⟨_, upd_same, fun w hw' => ?_⟩
      rcases List.mem_append.mp hw' with k | k
      · exact e2 w k
      · exact ⟨i, by simpa using k⟩
    · exact ⟨us, by rw [upd_ne e]; exact z2, z3⟩
  · obtain ⟨p, b', x, q1, q2, q3⟩ := h.w w hw'
    exact ⟨p, b', x, q1, seqT_upd hw q2, q3⟩
end
abbrev tIxF (K : PySem.W.Frag) (j n : Nat) : TE := tOp (rIx K) (tVar j) (L2.tC (.int (n : Int)))
def tMu (K : PySem.W.Frag) (j k1 k2 : Nat) (a : Int) (x : Str) : TS :=
  tSeq (tFor (iAny K (tIxF K j 2)) (gTup K 2 (gCons (gName k1) (gCons (gName k2) gNil))) (tDrop (tBM K "list" rAppend (tVar k1) (L2.tCons (L2.tC (.int a)) L2.tNil))))
    (tSeq (tDrop (tBM K "list" rAppend (tIxF K j 1) (L2.tCons (L2.tC (.str x)) L2.tNil))) (tDrop (tBM K "list" rAppend (tIxF K j 2) (L2.tCons (L2.tC (.str x)) L2.tNil))))
section
variable {K : PySem.W.Frag} {G F H : Hp} {ρ0 : REnv} {j k1 k2 : Nat} {tf : Addr} {ts vs : List V} {S B : Addr → Prop} {M : Nat} {σ : St} {D : Ends} {a : Int} {x : Str} {q nm : Addr}
theorem mu_run (h0 : ρ0[k1]? = some .un) (h1 : ρ0[k2]? = some .un) (n1 : j ≠ k1) (n2 : j ≠ k2) (n3 : k1 ≠ k2) (c : MuI K G F ρ0 j tf ts S B q vs M σ H) (e1 : ts[1]? = some (.ref nm)) (e2 : ts[2]? = some (.ref q)) (sn : S nm) (sq : S q) (hM : M + vs.length + 5 ≤ sizeLine)
    (p : ∀ σ' H', RepE K G F H' σ' ρ0 → D.nx σ' H') : tMu K j k1 k2 a x D σ H := by
  have i1 : atI ts ((1 : Nat) : Int) = some (.ref nm) := atI_nat e1
  have i2 : atI ts ((2 : Nat) : Int) = some (.ref q) := atI_nat e2
  have kl : k1 < ρ0.length := (List.getElem?_eq_some_iff.mp h0).1
  have app : ∀ {n : Nat} {b : Addr} {M : Nat} {σ : St} {H : Hp} {D : Ends}, atI ts (n : Int) = some (.ref b) → S b → MuE K G F ρ0 j tf ts S M σ H → M + 1 ≤ sizeLine → (∀ H', MuE K G F ρ0 j tf ts S (M + 1) σ H' → D.nx σ H') →
      tDrop (tBM K "list" rAppend (tIxF K j n) (L2.tCons (L2.tC (.str x)) L2.tNil)) D σ H := by
    intro n b M σ H D ib sb c hM p
    obtain ⟨ws, hws, hl⟩ := c.l b sb
    exact ⟨.ref tf, c.s, .inr (.inl ⟨tf, ts, _, .ref b, rfl, rfl, c.t, ib, .inl ⟨rfl, ws, SqL.of hws⟩, b, ws, _, rfl, rfl, hws, by omega, p _ (c.poke sb (by rw [List.length_append]; simpa using hl))⟩)⟩
  have fin : ∀ σ' H', MuE K G F ρ0 j tf ts S (M + vs.length) σ' H' → tSeq (tDrop (tBM K "list" rAppend (tIxF K j 1) (L2.tCons (L2.tC (.str x)) L2.tNil))) (tDrop (tBM K "list" rAppend (tIxF K j 2) (L2.tCons (L2.tC (.str x)) L2.tNil))) D σ' H' := fun σ' H' c =>
    app i1 sn c (by omega) fun H1 c1 => app i2 sq c1 (by omega) fun H2 c2 => p _ _ c2.r
  refine ⟨.ref tf, c.e.s, .inr (.inl ⟨tf, ts, _, .ref q, rfl, rfl, c.e.t, i2, .inl ⟨q, rfl, ⟨vs, SqL.of c.q⟩, ?_⟩⟩)⟩
  refine ⟨fun n m σ' H' => m = vs.length - n ∧ n ≤ vs.length ∧ MuI K G F ρ0 j tf ts S B q vs (M + n) σ' H', ⟨vs.length, by simp, Nat.zero_le _, c⟩, ?_⟩
  rintro n m σ1 H1 ⟨rfl, hn, c1⟩
  by_cases hlt : n < vs.length
  · refine .inr ⟨⟨vs, vs[n], SqL.of c1.q, List.getElem?_eq_getElem hlt⟩, MuI K G F ρ0 j tf ts S B q vs (M + (n + 1)), fun σ' H' z => ⟨vs.length - (n + 1), by omega, rfl, hlt, z⟩, fun x1 H2 yy => ?_⟩
    obtain ⟨rfl, yy⟩ := yy
    have hx := yy vs (SqL.of c1.q)
    obtain ⟨pa, b, y, rfl, hpa, hb⟩ := c1.w x1 (List.mem_of_getElem? hx)
    refine ⟨pa, [.ref b, y], rfl, hpa, rfl, .ref b, [y], rfl, y, [], rfl, rfl, ?_⟩
    have c2 := (c1.set (k := k1) (v := .ref b) h0 n1).set (k := k2) (v := y) h1 n2
    have hks : k1 < σ1.length := by rw [← c1.e.r.len]; exact kl
    obtain ⟨_, ws, hws, _⟩ := c2.b b hb
    have hl : ws.length ≤ M + n := by
      obtain ⟨us, z, l⟩ := c2.e.l b (c2.b b hb).1
      rw [hws] at z
      cases z
      exact l
    have hv : vs ≠ [] := fun e => by rw [e] at hlt; exact absurd hlt (Nat.not_lt_zero _)
    exact ⟨.ref b, by rw [List.getElem?_set_ne (fun e => n3 e.symm)]; exact List.getElem?_set_self hks, .inl ⟨rfl, _, SqL.of hws⟩, b, ws, _, rfl, rfl, hws, by omega, c2.poke hv hb hws⟩
  · exact .inl ⟨⟨vs, SqL.of c1.q, by omega⟩, fin σ1 H1 (by have e : n = vs.length := by omega
                                                           rw [← e]; exact c1.e)⟩
end
end Dy
/-! #### all of it -/
namespace Dy
open PySem PySem.Spec PyProof.Rows L2
def muInts (ds : List D) : Bool := ds.all fun d => match d with
  | .int _ => true
  | _ => false
def okRow : D → Bool
  | .tup [.lst is, _] => decide (is.length ≤ 1000) && muInts is
  | _ => false
def okMut : D → Bool
  | .tup [_, .lst ns, .lst rs] => decide (ns.length ≤ 1000) && (decide (rs.length ≤ 1000) && rs.all okRow)
  | _ => false
def muK (d : D) (ρ0 : REnv) : R Bool → R Bool → R Bool → SR
  | .ok false, .ok false, _ => .next ρ0
  | .ok false, .ok true, .ok false => if okMut d = true then .next ρ0 else .bad
  | _, _, _ => .bad
def muF (f : REnv → R D) (n i : Nat) (d : D) (k : D → SR) : SR := match f ((List.replicate n .un).set i (.val d)) with
  | .ok d => k d
  | _ => .bad
/-- y = f(x ..); if c1: return False; if c2: (if c3: return False; changes); x and y forgotten -/
def sMu (i j k1 k2 : Nat) (f : REnv → R D) (t1 t2 t3 : REnv → R Bool) : REnv → SR := fun ρ => match ρ[i]? with
  | some (.tree o) =>
    if okO o = true ∧ j < ρ.length ∧ k1 < ρ.length ∧ k2 < ρ.length then
      muF f ρ.length i o.toD fun d => muK d ((((ρ.set i .un).set j .un).set k1 .un).set k2 .un) (t1 ((ρ.set i (.val o.toD)).set j (.val d))) (t2 ((ρ.set i (.val o.toD)).set j (.val d))) (t3 ((ρ.set i (.val o.toD)).set j (.val d)))
    else .bad
  | _ => .bad
section
variable {K : PySem.W.Frag} {W : WX} {D0 : Ends} {G F H F1 : Hp} {g : REnv → SR}
theorem muK_inv {d : D} {ρ0 : REnv} {a b c : R Bool} (p : PostS K W D0 G F ((muK d ρ0 a b c).seq g)) : a = .ok false ∧ (b = .ok false ∨ (b = .ok true ∧ c = .ok false ∧ okMut d = true)) ∧ PostS K W D0 G F (g ρ0) := by
  match a, b, c, p with
  | .ok false, .ok false, _, p => exact ⟨rfl, .inl rfl, p⟩
  | .ok false, .ok true, .ok false, p =>
    have p : PostS K W D0 G F ((if okMut d = true then SR.next ρ0 else .bad).seq g) := p
    by_cases h : okMut d = true
    · rw [if_pos h] at p
      exact ⟨rfl, .inr ⟨rfl, rfl, h⟩, p⟩
    · rw [if_neg h] at p
      exact p.elim
  | .ok true, _, _, p => exact p.elim
  | .err _, _, _, p => exact p.elim
  | .bad, _, _, p => exact p.elim
  | .ok false, .err _, _, p => exact p.elim
  | .ok false, .bad, _, p => exact p.elim
  | .ok false, .ok true, .ok true, p => exact p.elim
  | .ok false, .ok true, .err _, p => exact p.elim
  | .ok false, .ok true, .bad, p => exact p.elim
theorem muRepL {is : List D} {ws : List V} (h : RepL K F is ws) (k : muInts is = true) : ∀ w ∈ ws, ∃ i, w = V.int i := fun w hw => by
  obtain ⟨n, hn⟩ := List.mem_iff_getElem?.mp hw
  obtain ⟨d, hd, r⟩ := h.get' hn
  have q := List.all_eq_true.mp k d (List.mem_of_getElem? hd)
  cases d with
  | int i => exact ⟨i, r.int_inv⟩
  | _ => cases q
/-- the places of what is changed -/
theorem mut_places {d : D} {v : V} (h : okMut d = true) (r : Rep K F d v) : ∃ tf v0 nm q wn vs, v = .ref tf ∧ SqT K F tf [v0, .ref nm, .ref q] ∧ SqL K F nm wn ∧ wn.length ≤ 1000 ∧ SqL K F q vs ∧ vs.length ≤ 1000 ∧
    ∀ w ∈ vs, ∃ p b x ws, w = V.ref p ∧ SqT K F p [.ref b, x] ∧ SqL K F b ws ∧ ws.length ≤ 1000 ∧ ∀ w ∈ ws, ∃ i, w = V.int i := by
  unfold okMut at h
  split at h
  case h_2 => cases h
  rename_i d0 ns rs
  rw [Bool.and_eq_true, Bool.and_eq_true] at h
  obtain ⟨h1, h2, h3⟩ := h
  have h1 := of_decide_eq_true h1
  have h2 := of_decide_eq_true h2
  obtain ⟨tf, us, rfl, ht, hu⟩ := r.tup_inv
  simp only [RepL] at hu
  obtain ⟨v0, _, rfl, _, v1, _, rfl, q1, v2, _, rfl, q2, rfl⟩ := hu
  obtain ⟨nm, wn, rfl, l1, l2⟩ := q1.lst_inv
  obtain ⟨q, vs, rfl, l3, l4⟩ := q2.lst_inv
  refine ⟨tf, v0, nm, q, wn, vs, rfl, ht, l1, by rw [← l2.length]; exact h1, l3, by rw [← l4.length]; exact h2, fun w hw => ?_⟩
  obtain ⟨n, hn⟩ := List.mem_iff_getElem?.mp hw
  obtain ⟨d, hd, rd⟩ := l4.get' hn
  have k := List.all_eq_true.mp h3 d (List.mem_of_getElem? hd)
  unfold okRow at k
  split at k
  case h_2 => cases k
  rename_i is x
  rw [Bool.and_eq_true] at k
  obtain ⟨p, us, rfl, hp, hu⟩ := rd.tup_inv
  simp only [RepL] at hu
  obtain ⟨v1, _, rfl, z1, v2, _, rfl, z2, rfl⟩ := hu
  obtain ⟨b, ws, rfl, l5, l6⟩ := z1.lst_inv
  exact ⟨p, b, v2, ws, rfl, hp, l5, by rw [← l6.length]; exact of_decide_eq_true k.1, muRepL l6 k.2⟩
end
section
variable {X : Cx} {W : WX} {st1 st2 st3 : Stmt} {rest : List Stmt} {f : REnv → R D} {t1 t2 t3 : REnv → R Bool} {g : REnv → SR} {u1 u2 : TS} {a : Int} {x : Str}
theorem sss_mu (i j k1 k2 : Nat) (hij : i ≠ j) (hik : i ≠ k1) (hil : i ≠ k2) (hjk : j ≠ k1) (hjl : j ≠ k2) (hkl : k1 ≠ k2) (hnl : noLst X.K = true)
    (S1 : PS X st1 (tAsg (rdF X.K f) (gName j))) (S2 : PS X st2 (tIfS (rt X.K W t1) u1 tNext))
    (S3 : PS X st3 (tIfS (rt X.K W t2) (tSeq (tIfS (rt X.K W t3) u2 tNext) (tMu X.K j k1 k2 a x)) tNext)) (hr : SSs X W rest g) : SSs X W (st1 :: st2 :: st3 :: rest) (sSeq (sMu i j k1 k2 f t1 t2 t3) g) := by
  refine (pss_cons S1 (pss_cons S2 (pss_cons S3 hr))).dy fun D σ H ⟨G, F, ρ, r, p⟩ => ?_
  unfold sSeq sMu at p
  split at p
  case h_2 => exact p.elim
  rename_i o z
  by_cases hcc : okO o = true ∧ j < ρ.length ∧ k1 < ρ.length ∧ k2 < ρ.length
  case neg => rw [if_neg hcc] at p; exact p.elim
  rw [if_pos hcc] at p
  obtain ⟨hok, hjr, hkr, hlr⟩ := hcc
  unfold muF at p
  generalize hρf : (List.replicate ρ.length Sl.un).set i (.val o.toD) = ρf at p
  cases hd : f ρf with
  | bad => rw [hd] at p; exact p.elim
  | err e => rw [hd] at p; exact p.elim
  | ok d =>
  rw [hd] at p
  obtain ⟨ht1, ht2, p⟩ := muK_inv p
  generalize hρ0 : (((ρ.set i .un).set j .un).set k1 .un).set k2 .un = ρ0 at p
  generalize hρ1 : (ρ.set i (.val o.toD)).set j (.val d) = ρ1 at ht1 ht2
  obtain ⟨vi, fp, e1, e2, e3, e4⟩ := tree_at r z
  have hil' : i < ρ.length := (List.getElem?_eq_some_iff.mp z).1
  have hlen := r.len
  have tn : ∀ a, F a = none → tupsOf F a = none := fun a h => tupsOf_same.free h
  have SF : Same (addF (tupsOf F) H fp) H := addF_H (tupsOf_same.trans r.f)
  have repi : Rep X.K (addF (tupsOf F) H fp) o.toD vi := OwR.frz (addF_same fun a ha => tn a (e4 a ha).1) o vi fp (OwR.tups o vi fp hok e2) fun a ha => addF_in ha
  have isf : ρf[i]? = some (.val o.toD) := by
    rw [← hρf]
    exact List.getElem?_set_self (by rw [List.length_replicate]; exact hil')
  have rf : RepE X.K (fun _ => none) (addF (tupsOf F) H fp) H σ ρf := by
    have un : ∀ m s, m ≠ i → ρf[m]? = some s → s = .un := fun m s hm h => by
      rw [← hρf, List.getElem?_set_ne (fun e => hm e.symm)] at h
      exact (List.mem_replicate.mp (List.mem_of_getElem? h)).2
    refine ⟨fun a o h => (nomatch h), SF, by rw [← hρf, List.length_set, List.length_replicate]; exact hlen, fun m s x h1 h2 => ?_, fun m n s t x y a hmn h1 h2 h3 h4 o1 o2 => ?_⟩
    · by_cases hm : m = i
      · subst hm
        rw [isf] at h1
        rw [e1] at h2
        cases h1
        cases h2
        exact ⟨vi, rfl, repi⟩
      · rw [un m s hm h1]
        trivial
    · by_cases hm : m = i
      · subst hm
        rw [isf] at h1
        cases h1
        exact o1.elim
      · rw [un m s hm h1] at o1
        exact o1.elim
  refine ⟨fun _ => none, addF (tupsOf F) H fp, ρf, d, rf, hd, fun v F1 H1 ex rp nl => ?_⟩
  -- what is known of places in F1
  have cls : ∀ {b : Addr} {u : HO}, F1 b = some u → (F b = some u ∧ ((∃ xs, u = .tup xs) ∨ ∃ o xs, u = .frz o (.tup xs))) ∨ b ∈ fp ∨ H b = none := fun {b u} h => by
    by_cases hb : b ∈ fp
    · exact .inr (.inl hb)
    · cases q : tupsOf F b with
      | none => exact .inr (.inr (ex.n b u h (by rw [addF_out hb]; exact q)))
      | some u0 =>
        have q1 := ex.f b u0 (by rw [addF_out hb]; exact q)
        rw [h] at q1
        cases q1
        exact .inl (tupsOf_some q)
  have free : ∀ {b : Addr}, (b ∈ fp ∨ H b = none) → F b = none ∧ G b = none ∧ ∀ m s x, m ≠ i → ρ[m]? = some s → σ[m]? = some x → ¬ Owned X.K F H s x b := fun {b} hb => by
    rcases hb with hb | hb
    · exact ⟨(e4 b hb).1, (e4 b hb).2, fun m s x hm h1 h2 ob => r.ap m i s _ x _ b hm h1 z h2 e1 ob ⟨vi, fp, rfl, e2, hb⟩⟩
    · refine ⟨r.f.free hb, r.g.free hb, fun m s x hm h1 h2 ob => ?_⟩
      obtain ⟨⟨u, hu⟩, _⟩ := (r.at_ m s x h1 h2).own ob
      rw [hb] at hu
      cases hu
  have lw : ∀ {b : Addr} {ws : List V}, SqL X.K F1 b ws → F1 b = some (.lst ws) ∧ (b ∈ fp ∨ H b = none) := fun {b ws} h => by
    rcases h with (h | ⟨o', h⟩) | ⟨o', its, n, hk, hc, _⟩
    · refine ⟨h, ?_⟩
      rcases cls h with ⟨_, ⟨_, q⟩ | ⟨_, _, q⟩⟩ | q
      · cases q
      · cases q
      · exact q
    · obtain ⟨u, hu⟩ := nl b o' ws h
      have hu1 := ex.f b u hu
      rw [h] at hu1
      cases hu1
      by_cases hb : b ∈ fp
      · rw [addF_in hb] at hu
        obtain ⟨ws', q⟩ := OwR.inHT o vi fp hok e2 b hb
        rw [hu] at q
        cases q
      · rw [addF_out hb] at hu
        rcases (tupsOf_some hu).2 with ⟨_, q⟩ | ⟨_, _, q⟩
        · cases q
        · cases q
    · exact absurd hc (noLst_no hnl hk)
  -- all that is kept
  let F2 : Hp := fun a => (F1 a).or (F a)
  have s12 : Same F1 F2 := fun b u h => by
    show (F1 b).or (F b) = some u
    rw [h]; rfl
  have sF2 : Same F F2 := fun b u h => by
    show (F1 b).or (F b) = some u
    cases q : F1 b with
    | none => exact h
    | some w =>
      have q1 := ex.s _ _ q
      rw [ex.h _ _ (r.f _ _ h)] at q1
      exact q1.symm
  have s2H : Same F2 H1 := fun b u h => by
    have h : (F1 b).or (F b) = some u := h
    cases q : F1 b with
    | none => rw [q] at h; exact ex.h _ _ (r.f _ _ h)
    | some w => rw [q] at h; exact ex.s _ _ (by rw [q]; exact h)
  have hsi : σ.set i (some vi) = σ := set_same e1
  have ra := r.unset (i := i) (x := some vi)
  rw [hsi] at ra
  have rb := ra.keep (F' := F2) (H' := H1) (r.g.trans ex.h) s2H sF2 fun m s x b h1 h2 ob => by
    by_cases hm : m = i
    · subst hm
      rw [List.getElem?_set_self hil'] at h1
      cases h1
      exact ob.elim
    · rw [List.getElem?_set_ne (fun e => hm e.symm)] at h1
      obtain ⟨⟨u, hu⟩, hf, hg⟩ := (r.at_ m s x h1 h2).own ob
      refine ⟨by rw [hu]; exact ex.h _ _ hu, ?_⟩
      show (F1 b).or (F b) = none
      cases q : F1 b with
      | none => exact hf
      | some w =>
        rcases cls q with ⟨q1, _⟩ | q1
        · rw [hf] at q1; cases q1
        · exact absurd ob ((free q1).2.2 m s x hm h1 h2)
  have rc := rb.setV (i := i) (v := vi) (d := o.toD) (Rep.mono s12 _ _ (Rep.mono ex.f _ _ repi))
  rw [hsi, List.set_set] at rc
  have rd := rc.setV (i := j) (v := v) (d := d) (Rep.mono s12 _ _ rp)
  rw [hρ1] at rd
  have hjs : j < σ.length := by rw [← hlen]; exact hjr
  have keepS : ∀ {σ : St} {n : Nat}, n < σ.length → σ.set n (σ[n]?.getD none) = σ := fun {σ n} h => by
    rw [List.getElem?_eq_getElem h]
    exact List.set_getElem_self h
  have fin : ∀ H4, Same H1 H4 → RepE X.K G F H4 (σ.set j (some v)) ρ0 := fun H4 s => by
    have q := (r.ext (F' := F) (H' := H4) ⟨.refl _, ex.h.trans s, r.f.trans (ex.h.trans s), fun a o h1 h2 => by rw [h2] at h1; cases h1⟩).unset (i := i) (x := some vi)
    rw [hsi] at q
    have q := q.unset (i := j) (x := some v)
    have q := (q.unset (i := k1) (x := (σ.set j (some v))[k1]?.getD none))
    rw [keepS (σ := σ.set j (some v)) (by rw [List.length_set]; omega)] at q
    have q := (q.unset (i := k2) (x := (σ.set j (some v))[k2]?.getD none))
    rw [keepS (σ := σ.set j (some v)) (by rw [List.length_set]; omega), hρ0] at q
    exact q
  have done : ∀ σ' H', RepE X.K G F H' σ' ρ0 → rs X.K W g D σ' H' := fun σ' H' r' => ⟨G, F, ρ0, r', p⟩
  refine ⟨G, F2, ρ1, rd, ?_⟩
  rw [ht1]
  intro b F3 H3 ex3 hb
  subst hb
  refine ⟨G, F3, ρ1, rd.ext ex3, ?_⟩
  rcases ht2 with ht2 | ⟨ht2, ht3, hmt⟩
  · rw [ht2]
    intro b F4 H4 ex4 hb
    subst hb
    exact done _ _ (fin H4 (ex3.h.trans ex4.h))
  · rw [ht2]
    intro b F4 H4 ex4 hb
    subst hb
    refine ⟨G, F4, ρ1, (rd.ext ex3).ext ex4, ?_⟩
    rw [ht3]
    intro b F5 H5 ex5 hb
    subst hb
    have s15 : Same H1 H5 := ex3.h.trans (ex4.h.trans ex5.h)
    obtain ⟨tf, v0, nm, q, wn, vs, rfl, hT, hnm, lnm, hq, lq, hrows⟩ := mut_places hmt rp
    have un_i : ∀ m s, ρ0[m]? = some s → (m = i ∨ m = j ∨ m = k1 ∨ m = k2) → s = .un := fun m s h c => by
      rw [← hρ0] at h
      by_cases h3 : m = k2
      · rw [h3, List.getElem?_set_self (by simp only [List.length_set]; exact hlr)] at h
        cases h; rfl
      rw [List.getElem?_set_ne (fun e => h3 e.symm)] at h
      by_cases h2 : m = k1
      · rw [h2, List.getElem?_set_self (by simp only [List.length_set]; exact hkr)] at h
        cases h; rfl
      rw [List.getElem?_set_ne (fun e => h2 e.symm)] at h
      by_cases h1 : m = j
      · rw [h1, List.getElem?_set_self (by simp only [List.length_set]; exact hjr)] at h
        cases h; rfl
      rw [List.getElem?_set_ne (fun e => h1 e.symm)] at h
      rcases c with c | c | c | c
      · rw [c, List.getElem?_set_self hil'] at h
        cases h; rfl
      · exact absurd c h1
      · exact absurd c h2
      · exact absurd c h3
    have len0 : ρ0.length = ρ.length := by rw [← hρ0]; simp only [List.length_set]
    have at0 : ∀ m, m < ρ.length → (m = i ∨ m = j ∨ m = k1 ∨ m = k2) → ρ0[m]? = some .un := fun m hm c => by
      have hm0 : m < ρ0.length := by rw [len0]; exact hm
      rw [List.getElem?_eq_getElem hm0, un_i m _ (List.getElem?_eq_getElem hm0) c]
    let B : Addr → Prop := fun b => ∃ ws, SqL X.K F1 b ws ∧ ws.length ≤ 1000 ∧ ∀ w ∈ ws, ∃ i, w = V.int i
    let S : Addr → Prop := fun c => B c ∨ c = nm ∨ c = q
    have sS : ∀ c, S c → ∃ ws, SqL X.K F1 c ws ∧ ws.length ≤ 1000 := fun c hc => by
      rcases hc with ⟨ws, h1, h2, _⟩ | rfl | rfl
      · exact ⟨ws, h1, h2⟩
      · exact ⟨wn, hnm, lnm⟩
      · exact ⟨vs, hq, lq⟩
    have at5 : ∀ {b : Addr} {ws : List V}, SqL X.K F1 b ws → H5 b = some (.lst ws) := fun {b ws} h => s15 _ _ (ex.s _ _ (lw h).1)
    have mE : MuE X.K G F ρ0 j tf [v0, .ref nm, .ref q] S 1000 (σ.set j (some (.ref tf))) H5 := by
      refine ⟨fin H5 s15, List.getElem?_set_self hjs, Same.seqT (ex.s.trans s15) hT, fun c hc => ?_, fun c hc => ?_, fun m s x c h1 h2 ob hc => ?_⟩
      · obtain ⟨ws, k1, k2⟩ := sS c hc
        exact ⟨ws, at5 k1, k2⟩
      · obtain ⟨ws, k1, k2⟩ := sS c hc
        exact ⟨(free (lw k1).2).1, (free (lw k1).2).2.1⟩
      · obtain ⟨ws, w1, _⟩ := sS c hc
        by_cases hm : m = i ∨ m = j ∨ m = k1 ∨ m = k2
        · rw [un_i m s h1 hm] at ob
          exact ob.elim
        · have ni : m ≠ i := fun e => hm (.inl e)
          have nj : m ≠ j := fun e => hm (.inr (.inl e))
          have nk : m ≠ k1 := fun e => hm (.inr (.inr (.inl e)))
          have nl' : m ≠ k2 := fun e => hm (.inr (.inr (.inr e)))
          rw [← hρ0, List.getElem?_set_ne (fun e => nl' e.symm), List.getElem?_set_ne (fun e => nk e.symm), List.getElem?_set_ne (fun e => nj e.symm), List.getElem?_set_ne (fun e => ni e.symm)] at h1
          rw [List.getElem?_set_ne (fun e => nj e.symm)] at h2
          have ob2 := ((r.at_ m s x h1 h2).move (F' := F) (H' := H5) (.refl _) fun b ob => by
            obtain ⟨⟨u, hu⟩, hf, _⟩ := (r.at_ m s x h1 h2).own ob
            exact ⟨by rw [hu]; exact s15 _ _ (ex.h _ _ hu), hf⟩).2 c ob
          exact (free (lw w1).2).2.2 m s x ni h1 h2 ob2
    have mI : MuI X.K G F ρ0 j tf [v0, .ref nm, .ref q] S B q vs 1000 (σ.set j (some (.ref tf))) H5 :=
      ⟨mE, at5 hq, fun b hb => ⟨.inl hb, by
        obtain ⟨ws, w1, _, w3⟩ := hb
        exact ⟨ws, at5 w1, w3⟩⟩, fun w hw => by
        obtain ⟨p, b, x, ws, c1, c2, c3, c4, c5⟩ := hrows w hw
        exact ⟨p, b, x, c1, Same.seqT (ex.s.trans s15) c2, ws, c3, c4, c5⟩⟩
    have hsz : 1000 + vs.length + 5 ≤ sizeLine := by
      have : sizeLine = 16777216 := by decide
      omega
    exact mu_run (at0 k1 hkr (.inr (.inr (.inl rfl)))) (at0 k2 hlr (.inr (.inr (.inr rfl)))) hjk hjl hkl mI rfl rfl (.inr (.inl rfl)) (.inr (.inr rfl)) hsz fun σ' H' r' => done σ' H' r'
end
section
variable {ρ : REnv} {N : REnv → Prop} {T : D → Prop} {E : D → REnv → Prop} {f : REnv → R D} {t1 t2 t3 : REnv → R Bool}
theorem sp_mu {i j k1 k2 : Nat} {o : O} (e : ρ[i]? = some (.tree o)) (hok : okO o = true) (hl : j < ρ.length ∧ k1 < ρ.length ∧ k2 < ρ.length)
    (h : (f ((List.replicate ρ.length .un).set i (.val o.toD))).wp (fun d => (t1 ((ρ.set i (.val o.toD)).set j (.val d))).wp (fun b => b = false ∧ (t2 ((ρ.set i (.val o.toD)).set j (.val d))).wp
      (fun c => (c = false → N ((((ρ.set i .un).set j .un).set k1 .un).set k2 .un)) ∧ (c = true → (t3 ((ρ.set i (.val o.toD)).set j (.val d))).wp (fun b => b = false ∧ okMut d = true ∧ N ((((ρ.set i .un).set j .un).set k1 .un).set k2 .un)) NoE)) NoE) NoE) NoE) :
    (sMu i j k1 k2 f t1 t2 t3 ρ).wp N T E := by
  unfold sMu
  rw [e]
  show (if okO o = true ∧ j < ρ.length ∧ k1 < ρ.length ∧ k2 < ρ.length then _ else SR.bad).wp N T E
  rw [if_pos ⟨hok, hl⟩]
  unfold muF
  cases q : f ((List.replicate ρ.length .un).set i (.val o.toD)) with
  | bad => rw [q] at h; exact h.elim
  | err z => rw [q] at h; exact h.elim
  | ok d =>
    rw [q] at h
    have h : (t1 ((ρ.set i (.val o.toD)).set j (.val d))).wp _ NoE := h
    show (muK d _ _ _ _).wp N T E
    cases q1 : t1 ((ρ.set i (.val o.toD)).set j (.val d)) with
    | bad => rw [q1] at h; exact h.elim
    | err z => rw [q1] at h; exact h.elim
    | ok b =>
      rw [q1] at h
      obtain ⟨rfl, h⟩ := h
      cases q2 : t2 ((ρ.set i (.val o.toD)).set j (.val d)) with
      | bad => rw [q2] at h; exact h.elim
      | err z => rw [q2] at h; exact h.elim
      | ok c =>
        rw [q2] at h
        obtain ⟨ha, hb⟩ := h
        cases c with
        | false => exact ha rfl
        | true =>
          have h := hb rfl
          cases q3 : t3 ((ρ.set i (.val o.toD)).set j (.val d)) with
          | bad => rw [q3] at h; exact h.elim
          | err z => rw [q3] at h; exact h.elim
          | ok b =>
            rw [q3] at h
            obtain ⟨rfl, h1, h2⟩ := h
            show (if okMut d = true then SR.next _ else SR.bad).wp N T E
            rw [if_pos h1]
            exact h2
theorem okOs_map : ∀ {ds : List D}, (∀ d ∈ ds, noL d = true) → okOs (ds.map .v) = true
  | [], _ => rfl
  | d :: ds, h => by
    show (noL d && okOs (ds.map .v)) = true
    rw [h d List.mem_cons_self, okOs_map fun x hx => h x (List.mem_cons_of_mem _ hx)]
    rfl
theorem toDs_v : ∀ ds : List D, O.toDs (ds.map .v) = ds
  | [] => rfl
  | d :: ds => by
    show d :: O.toDs (ds.map .v) = _
    rw [toDs_v ds]
end
end Dy

set_option Elab.async false
set_option linter.all false
set_option maxRecDepth 100000
set_option maxHeartbeats 4000000
namespace Gn
open PySem PySem.Spec PyProof.Rows L2 Dy
/-! ### what the defs make of data -/
def xks : List Str := ["NoNumber", "NoHour", "NoName"]
def xcs : List Str := []
noncomputable def f_is_whole : List D → R D := fnD 1 1 (sRet (eAndV (eN oIsi (aCons (eVar 0) (aCons (eC (.ty "int")) (aNil)))) (eNotV (eN oIsi (aCons (eVar 0) (aCons (eC (.ty "bool")) (aNil)))))))
noncomputable def f_divisor_of : List D → R D := fnD 2 2 (sSeq (whileS (eTest (eBin oNe (eVar 1) (eC (.int 0)))) (sPar 0 1 (aCons (eVar 1) (aCons (eBin oMod (eVar 0) (eVar 1)) (aNil)))))
    (sRet (eN oAbs (aCons (eVar 0) (aNil)))))
noncomputable def f_ratio_of : List D → R D := fnD 2 3 (sSeq (sIf (eOr (eNot (eTest (eCall f_is_whole (aCons (eVar 0) (aNil))))) (eOr (eNot (eTest (eCall f_is_whole (aCons (eVar 1) (aNil))))) (eTest (eBin oEq (eVar 1) (eC (.int 0)))))) (sRaise "NoNumber") (sSkip))
    (sSeq (sSet 2 (eCall f_divisor_of (aCons (eVar 0) (aCons (eVar 1) (aNil)))))
    (sSeq (sIf (eTest (eBin oLt (eVar 1) (eC (.int 0)))) (sSet 2 (eUn oNeg (eVar 2))) (sSkip))
    (sRet (eTup (aCons (eBin oDiv (eVar 0) (eVar 2)) (aCons (eBin oDiv (eVar 1) (eVar 2)) (aNil))))))))
noncomputable def f_ratio_sum : List D → R D := fnD 2 2 (sRet (eCall f_ratio_of (aCons (eBin oAdd (eBin oMul (eBin oIx (eVar 0) (eC (.int 0))) (eBin oIx (eVar 1) (eC (.int 1)))) (eBin oMul (eBin oIx (eVar 1) (eC (.int 0))) (eBin oIx (eVar 0) (eC (.int 1))))) (aCons (eBin oMul (eBin oIx (eVar 0) (eC (.int 1))) (eBin oIx (eVar 1) (eC (.int 1)))) (aNil)))))
noncomputable def f_ratio_less : List D → R D := fnD 2 2 (sRet (eCall f_ratio_of (aCons (eBin oSub (eBin oMul (eBin oIx (eVar 0) (eC (.int 0))) (eBin oIx (eVar 1) (eC (.int 1)))) (eBin oMul (eBin oIx (eVar 1) (eC (.int 0))) (eBin oIx (eVar 0) (eC (.int 1))))) (aCons (eBin oMul (eBin oIx (eVar 0) (eC (.int 1))) (eBin oIx (eVar 1) (eC (.int 1)))) (aNil)))))
noncomputable def f_ratio_times : List D → R D := fnD 2 2 (sRet (eCall f_ratio_of (aCons (eBin oMul (eBin oIx (eVar 0) (eC (.int 0))) (eBin oIx (eVar 1) (eC (.int 0)))) (aCons (eBin oMul (eBin oIx (eVar 0) (eC (.int 1))) (eBin oIx (eVar 1) (eC (.int 1)))) (aNil)))))
noncomputable def f_ratio_by : List D → R D := fnD 2 2 (sRet (eCall f_ratio_of (aCons (eBin oMul (eBin oIx (eVar 0) (eC (.int 0))) (eBin oIx (eVar 1) (eC (.int 1)))) (aCons (eBin oMul (eBin oIx (eVar 0) (eC (.int 1))) (eBin oIx (eVar 1) (eC (.int 0)))) (aNil)))))
noncomputable def f_is_under : List D → R D := fnD 2 2 (sRet (eBin oLt (eBin oMul (eBin oIx (eVar 0) (eC (.int 0))) (eBin oIx (eVar 1) (eC (.int 1)))) (eBin oMul (eBin oIx (eVar 1) (eC (.int 0))) (eBin oIx (eVar 0) (eC (.int 1))))))
noncomputable def f_dot_of : List D → R D := fnD 2 2 (sRet (eBin oAdd (eBin oAdd (eBin oMul (eBin oIx (eVar 0) (eC (.int 0))) (eBin oIx (eVar 1) (eC (.int 0)))) (eBin oMul (eBin oIx (eVar 0) (eC (.int 1))) (eBin oIx (eVar 1) (eC (.int 1))))) (eBin oMul (eBin oIx (eVar 0) (eC (.int 2))) (eBin oIx (eVar 1) (eC (.int 2))))))
noncomputable def f_cross_of : List D → R D := fnD 2 8 (sSeq (sAsg (eVar 0) (bSeq 3 (bCons (bName 2) (bCons (bName 3) (bCons (bName 4) (bNil))))))
    (sSeq (sAsg (eVar 1) (bSeq 3 (bCons (bName 5) (bCons (bName 6) (bCons (bName 7) (bNil))))))
    (sRet (eTup (aCons (eBin oSub (eBin oMul (eVar 3) (eVar 7)) (eBin oMul (eVar 4) (eVar 6))) (aCons (eBin oSub (eBin oMul (eVar 4) (eVar 5)) (eBin oMul (eVar 2) (eVar 7))) (aCons (eBin oSub (eBin oMul (eVar 2) (eVar 6)) (eBin oMul (eVar 3) (eVar 5))) (aNil))))))))
noncomputable def f_direction_at : List D → R D := fnD 2 4 (sSeq (sFor (iD (eVar 0)) (bSeq 2 (bCons (bName 2) (bCons (bName 3) (bNil)))) (sIf (eTest (eBin oEq (eVar 2) (eVar 1))) (sRet (eVar 3)) (sSkip)))
    (sRaiseF "NoHour" "hour" (aCons (eVar 1) (aNil))))
noncomputable def f_is_up : List D → R D := fnD 2 2 (sRet (eBin oGt (eBin oIx (eCall f_direction_at (aCons (eVar 0) (aCons (eVar 1) (aNil)))) (eC (.int 2))) (eC (.int 0))))
noncomputable def f_front_of : List D → R D := fnD 1 1 (sRet (eCall f_cross_of (aCons (eBin oIx (eVar 0) (eC (.int 1))) (aCons (eBin oIx (eVar 0) (eC (.int 2))) (aNil)))))
noncomputable def f_point_of : List D → R D := fnD 2 6 (sSeq (sOwn 2 (aNil))
    (sSeq (sFor (iArgs range1 (aCons (eC (.int 3)) (aNil))) (bName 3) (sSeq (sSet 4 (eCall f_ratio_times (aCons (eBin oIx (eVar 1) (eC (.int 0))) (aCons (eCall f_ratio_of (aCons (eBin oIx (eBin oIx (eVar 0) (eC (.int 1))) (eVar 3)) (aCons (eC (.int 1)) (aNil)))) (aNil)))))
     (sSeq (sSet 5 (eCall f_ratio_times (aCons (eBin oIx (eVar 1) (eC (.int 1))) (aCons (eCall f_ratio_of (aCons (eBin oIx (eBin oIx (eVar 0) (eC (.int 2))) (eVar 3)) (aCons (eC (.int 1)) (aNil)))) (aNil)))))
     (sApp 2 (eCall f_ratio_sum (aCons (eCall f_ratio_of (aCons (eBin oIx (eBin oIx (eVar 0) (eC (.int 0))) (eVar 3)) (aCons (eC (.int 1)) (aNil)))) (aCons (eCall f_ratio_sum (aCons (eVar 4) (aCons (eVar 5) (aNil)))) (aNil))))))))
    (sFreeze 2 (sRet (eN oTuple (aCons (eVar 2) (aNil)))))))
noncomputable def f_lies_on : List D → R D := fnD 1 2 (sSeq (sFor (iD (eVar 0)) (bName 1) (sIf (eOr (eTest (eCall f_is_under (aCons (eVar 1) (aCons (eTup (aCons (eC (.int 0)) (aCons (eC (.int 1)) (aNil)))) (aNil))))) (eTest (eCall f_is_under (aCons (eTup (aCons (eC (.int 1)) (aCons (eC (.int 1)) (aNil)))) (aCons (eVar 1) (aNil)))))) (sRet (eC (.bl false))) (sSkip)))
    (sRet (eC (.bl true))))
noncomputable def f_comes_from_ahead : List D → R D := fnD 2 2 (sRet (eBin oGt (eCall f_dot_of (aCons (eCall f_front_of (aCons (eVar 0) (aNil))) (aCons (eVar 1) (aNil)))) (eC (.int 0))))
noncomputable def f_as_point : List D → R D := fnD 1 1 (sRet (eTup (aCons (eTup (aCons (eBin oIx (eVar 0) (eC (.int 0))) (aCons (eC (.int 1)) (aNil)))) (aCons (eTup (aCons (eBin oIx (eVar 0) (eC (.int 1))) (aCons (eC (.int 1)) (aNil)))) (aCons (eTup (aCons (eBin oIx (eVar 0) (eC (.int 2))) (aCons (eC (.int 1)) (aNil)))) (aNil))))))
noncomputable def f_point_less : List D → R D := fnD 2 4 (sRet (eN oTuple (aCons (eComp [2, 3] (iArgs zip2 (aCons (eVar 0) (aCons (eVar 1) (aNil)))) (bSeq 2 (bCons (bName 2) (bCons (bName 3) (bNil)))) (eYes) (eCall f_ratio_less (aCons (eVar 2) (aCons (eTup (aCons (eVar 3) (aCons (eC (.int 1)) (aNil)))) (aNil))))) (aNil))))
noncomputable def f_point_dot : List D → R D := fnD 2 5 (sSeq (sSet 2 (eTup (aCons (eC (.int 0)) (aCons (eC (.int 1)) (aNil)))))
    (sSeq (sFor (iArgs zip2 (aCons (eVar 0) (aCons (eVar 1) (aNil)))) (bSeq 2 (bCons (bName 3) (bCons (bName 4) (bNil)))) (sSet 2 (eCall f_ratio_sum (aCons (eVar 2) (aCons (eCall f_ratio_times (aCons (eVar 3) (aCons (eTup (aCons (eVar 4) (aCons (eC (.int 1)) (aNil)))) (aNil)))) (aNil))))))
    (sRet (eVar 2))))
noncomputable def f_meeting_of : List D → R D := fnD 3 10 (sSeq (sAsg (eVar 0) (bSeq 3 (bCons (bName 3) (bCons (bName 4) (bCons (bName 5) (bNil))))))
    (sSeq (sSet 6 (eCall f_dot_of (aCons (eCall f_front_of (aCons (eVar 0) (aNil))) (aCons (eVar 2) (aNil)))))
    (sSeq (sIf (eTest (eBin oEq (eVar 6) (eC (.int 0)))) (sRet (eC .non)) (sSkip))
    (sSeq (sSet 7 (eCall f_point_less (aCons (eVar 1) (aCons (eVar 3) (aNil)))))
    (sSeq (sSet 8 (eCall f_ratio_by (aCons (eCall f_point_dot (aCons (eVar 7) (aCons (eCall f_cross_of (aCons (eVar 5) (aCons (eVar 2) (aNil)))) (aNil)))) (aCons (eTup (aCons (eVar 6) (aCons (eC (.int 1)) (aNil)))) (aNil)))))
    (sSeq (sSet 9 (eCall f_ratio_by (aCons (eCall f_point_dot (aCons (eVar 7) (aCons (eCall f_cross_of (aCons (eVar 2) (aCons (eVar 4) (aNil)))) (aNil)))) (aCons (eTup (aCons (eVar 6) (aCons (eC (.int 1)) (aNil)))) (aNil)))))
    (sRet (eTup (aCons (eVar 8) (aCons (eVar 9) (aNil)))))))))))
noncomputable def f_shadow_of : List D → R D := fnD 3 3 (sSeq (sIf (eNot (eTest (eCall f_comes_from_ahead (aCons (eVar 0) (aCons (eVar 2) (aNil)))))) (sRet (eC .non)) (sSkip))
    (sRet (eCall f_meeting_of (aCons (eVar 0) (aCons (eCall f_as_point (aCons (eVar 1) (aNil))) (aCons (eVar 2) (aNil)))))))
noncomputable def f_is_beyond : List D → R D := fnD 3 5 (sSeq (sSet 3 (eCall f_front_of (aCons (eVar 0) (aNil))))
    (sSeq (sSet 4 (eCall f_point_dot (aCons (eCall f_point_less (aCons (eVar 1) (aCons (eBin oIx (eVar 0) (eC (.int 0))) (aNil)))) (aCons (eVar 3) (aNil)))))
    (sSeq (sIf (eTest (eBin oGt (eCall f_dot_of (aCons (eVar 3) (aCons (eVar 2) (aNil)))) (eC (.int 0)))) (sRet (eCall f_is_under (aCons (eVar 4) (aCons (eTup (aCons (eC (.int 0)) (aCons (eC (.int 1)) (aNil)))) (aNil))))) (sSkip))
    (sRet (eCall f_is_under (aCons (eTup (aCons (eC (.int 0)) (aCons (eC (.int 1)) (aNil)))) (aCons (eVar 4) (aNil))))))))
noncomputable def f_hides_point : List D → R D := fnD 3 4 (sSeq (sSet 3 (eCall f_meeting_of (aCons (eVar 0) (aCons (eVar 1) (aCons (eVar 2) (aNil))))))
    (sRet (eAndV (eBin oNotN (eVar 3) (eC .non)) (eAndV (eCall f_lies_on (aCons (eVar 3) (aNil))) (eCall f_is_beyond (aCons (eVar 0) (aCons (eVar 1) (aCons (eVar 2) (aNil)))))))))
noncomputable def f_dial_of : List D → R D := fnD 2 3 (sSeq (sFor (iD (eBin oIx (eVar 0) (eC (.int 2)))) (bName 2) (sIf (eTest (eBin oEq (eBin oIx (eVar 2) (eC (.int 0))) (eVar 1))) (sRet (eVar 2)) (sSkip)))
    (sRaise "NoName"))
noncomputable def f_hiders : List D → R D := fnD 4 6 (sSeq (sOwn 4 (aNil))
    (sSeq (sFor (iD (eBin oAdd (eBin oIx (eVar 0) (eC (.int 1))) (eBin oIx (eVar 0) (eC (.int 2))))) (bName 5) (sIf (eAnd (eTest (eBin oNe (eBin oIx (eVar 5) (eC (.int 0))) (eVar 1))) (eTest (eCall f_hides_point (aCons (eBin oIx (eVar 5) (eC (.int 1))) (aCons (eVar 2) (aCons (eVar 3) (aNil))))))) (sApp 4 (eBin oIx (eVar 5) (eC (.int 0)))) (sSkip)))
    (sFreeze 4 (sRet (eN oSortS (aCons (eVar 4) (aNil)))))))
noncomputable def f_told_at : List D → R D := fnD 3 9 (sSeq (sSet 3 (eCall f_direction_at (aCons (eBin oIx (eVar 0) (eC (.int 0))) (aCons (eVar 1) (aNil)))))
    (sSeq (sAsg (eCall f_dial_of (aCons (eVar 0) (aCons (eVar 2) (aNil)))) (bSeq 3 (bCons (bName 4) (bCons (bName 5) (bCons (bName 6) (bNil))))))
    (sSeq (sIf (eNot (eTest (eCall f_is_up (aCons (eBin oIx (eVar 0) (eC (.int 0))) (aCons (eVar 1) (aNil)))))) (sRet (eTup (aCons (eC (.str "down")) (aNil)))) (sSkip))
    (sSeq (sIf (eNot (eTest (eCall f_comes_from_ahead (aCons (eVar 5) (aCons (eVar 3) (aNil)))))) (sRet (eTup (aCons (eC (.str "behind")) (aNil)))) (sSkip))
    (sSeq (sSet 7 (eCall f_shadow_of (aCons (eVar 5) (aCons (eVar 6) (aCons (eVar 3) (aNil))))))
    (sSeq (sIf (eNot (eTest (eCall f_lies_on (aCons (eVar 7) (aNil))))) (sRet (eTup (aCons (eC (.str "off")) (aCons (eVar 7) (aNil))))) (sSkip))
    (sSeq (sSet 8 (eCall f_hiders (aCons (eVar 0) (aCons (eVar 2) (aCons (eCall f_point_of (aCons (eVar 5) (aCons (eVar 7) (aNil)))) (aCons (eVar 3) (aNil)))))))
    (sSeq (sIf (eTest (eBin oNe (eVar 8) (eLst (aNil)))) (sRet (eTup (aCons (eC (.str "hidden")) (aCons (eVar 8) (aNil))))) (sSkip))
    (sRet (eTup (aCons (eC (.str "read")) (aCons (eVar 7) (aNil)))))))))))))
noncomputable def f_lists_of : List D → R D := fnD 2 8 (sSeq (sSet 2 (eLst (aCons (eLst (aNil)) (aNil))))
    (sSeq (sFor (iArgs range1 (aCons (eVar 0) (aNil))) (bName 3) (sSeq (sOwn 4 (aNil))
     (sSeq (sFor (iD (eVar 2)) (bName 5) (sSeq (sSet 6 (eC (.int 0)))
      (sSeq (sIf (eTest (eBin oNe (eVar 5) (eLst (aNil)))) (sSet 6 (eBin oAdd (eBin oIx (eVar 5) (eUn oNeg (eC (.int 1)))) (eC (.int 1)))) (sSkip))
      (sExtN 4 (cCompQ [7] (iArgs range2 (aCons (eVar 6) (aCons (eVar 1) (aNil)))) (bName 7) (eYes) (eBin oAdd (eVar 5) (eLst (aCons (eVar 7) (aNil)))))))))
     (sFreeze 4 (sSet 2 (eVar 4))))))
    (sRet (eVar 2))))
noncomputable def f_without_walls : List D → R D := fnD 2 4 (sRet (eTup (aCons (eBin oIx (eVar 0) (eC (.int 0))) (aCons (eComp [2, 3] (iArgs enum1 (aCons (eBin oIx (eVar 0) (eC (.int 1))) (aNil))) (bSeq 2 (bCons (bName 2) (bCons (bName 3) (bNil)))) (eTest (eBin oNinX (eVar 2) (eVar 1))) (eVar 3)) (aCons (eBin oIx (eVar 0) (eC (.int 2))) (aNil))))))
noncomputable def f_readers : List D → R D := fnD 2 4 (sRet (eComp [2, 3] (iArgs enum1 (aCons (eBin oIx (eVar 0) (eC (.int 2))) (aNil))) (bSeq 2 (bCons (bName 2) (bCons (bName 3) (bNil)))) (eTest (eBin oEq (eBin oIx (eCall f_told_at (aCons (eVar 0) (aCons (eVar 1) (aCons (eBin oIx (eVar 3) (eC (.int 0))) (aNil))))) (eC (.int 0))) (eC (.str "read")))) (eVar 2)))
noncomputable def f_look_at_hours : List D → R D := fnD 2 3 (sFor (iD (eVar 1)) (bName 2) (sExpr (eCall f_direction_at (aCons (eBin oIx (eVar 0) (eC (.int 0))) (aCons (eVar 2) (aNil))))))
noncomputable def f_first_dark : List D → R D := fnD 2 3 (sSeq (sFor (iD (eVar 1)) (bName 2) (sIf (eTest (eBin oEq (eCall f_readers (aCons (eVar 0) (aCons (eVar 2) (aNil)))) (eLst (aNil)))) (sRet (eVar 2)) (sSkip)))
    (sRet (eC .non)))
noncomputable def f_fewest_gone : List D → R D := fnD 2 9 (sSeq (sExpr (eCall f_look_at_hours (aCons (eVar 0) (aCons (eVar 1) (aNil)))))
    (sSeq (sSet 2 (eCall f_first_dark (aCons (eCall f_without_walls (aCons (eVar 0) (aCons (eKeep (xRg1 (eN oLen (aCons (eBin oIx (eVar 0) (eC (.int 1))) (aNil))))) (aNil)))) (aCons (eVar 1) (aNil)))))
    (sSeq (sIf (eTest (eBin oNotN (eVar 2) (eC .non))) (sRet (eTup (aCons (eC (.str "never")) (aCons (eVar 2) (aNil))))) (sSkip))
    (sSeq (sSet 3 (eLst (aNil)))
    (sSeq (sFor (iArgs range1 (aCons (eBin oAdd (eN oLen (aCons (eBin oIx (eVar 0) (eC (.int 1))) (aNil))) (eC (.int 1))) (aNil))) (bName 4) (sSeq (sOwn 5 (aNil))
     (sSeq (sFor (iD (eCall f_lists_of (aCons (eVar 4) (aCons (eN oLen (aCons (eBin oIx (eVar 0) (eC (.int 1))) (aNil))) (aNil))))) (bName 6) (sSeq (sSet 7 (eCall f_first_dark (aCons (eCall f_without_walls (aCons (eVar 0) (aCons (eVar 6) (aNil)))) (aCons (eVar 1) (aNil)))))
      (sSeq (sIf (eTest (eBin oIsN (eVar 7) (eC .non))) (sRet (eTup (aCons (eC (.str "walls")) (aCons (eComp [8] (iD (eVar 6)) (bName 8) (eYes) (eBin oIx (eBin oIx (eBin oIx (eVar 0) (eC (.int 1))) (eVar 8)) (eC (.int 0)))) (aCons (eVar 3) (aNil)))))) (sSkip))
      (sApp 5 (eTup (aCons (eVar 6) (aCons (eVar 7) (aNil))))))))
     (sFreeze 5 (sSet 3 (eVar 5))))))
    (sRet (eTup (aCons (eC (.str "never")) (aCons (eVar 2) (aNil))))))))))
noncomputable def f__law_cell : List D → R D := fnD 2 3 (sSeq (sIf (eTest (eBin oLt (eVar 1) (eN oLen (aCons (eVar 0) (aNil))))) (sRet (eBin oIx (eVar 0) (eVar 1))) (sSkip))
    (sSeq (sSet 2 (eBin oAdd (eBin oAdd (eBin oMul (eBin oMul (eVar 1) (eVar 1)) (eC (.int 48271))) (eBin oMul (eC (.int 7919)) (eVar 1))) (eC (.int 11))))
    (sSeq (sIf (eTest (eBin oGt (eN oLen (aCons (eVar 0) (aNil))) (eC (.int 0)))) (sSet 2 (eBin oAdd (eVar 2) (eBin oMul (eBin oMod (eBin oIx (eVar 0) (eBin oMod (eBin oMul (eVar 1) (eC (.int 7))) (eN oLen (aCons (eVar 0) (aNil))))) (eC (.int 2147483647))) (eBin oAdd (eBin oMul (eVar 1) (eVar 1)) (eC (.int 69621)))))) (sSkip))
    (sRet (eBin oAdd (eBin oMul (eBin oMod (eBin oMul (eVar 2) (eVar 2)) (eC (.int 2147483629))) (eC (.int 982451653))) (eVar 2))))))
noncomputable def f__law_wide : List D → R D := fnD 2 4 (sSeq (sSet 2 (eCall f__law_cell (aCons (eVar 0) (aCons (eVar 1) (aNil)))))
    (sSeq (sIf (eAnd (eTest (eBin oLt (eVar 1) (eN oLen (aCons (eVar 0) (aNil))))) (eTest (eBin oGe (eVar 2) (eBin oPow (eC (.int 10)) (eC (.int 18)))))) (sRet (eBin oMod (eVar 2) (eBin oMul (eBin oPow (eC (.int 10)) (eC (.int 60))) (eBin oPow (eC (.int 10)) (eC (.int 60)))))) (sSkip))
    (sSeq (sSet 3 (eBin oAdd (eBin oAdd (eBin oMod (eVar 2) (eC (.int 2147483629))) (eC (.int 48271))) (eBin oMul (eVar 1) (eVar 1))))
    (sRet (eBin oDiv (eBin oPow (eBin oAdd (eBin oMul (eVar 3) (eC (.int 982451653))) (eC (.int 7))) (eC (.int 7))) (eC (.int 1000003)))))))
noncomputable def f__law_triple : List D → R D := fnD 2 3 (sSeq (sSet 2 (eBin oAdd (eBin oMul (eC (.int 2)) (eVar 1)) (eC (.int 1))))
    (sRet (eTup (aCons (eBin oSub (eBin oMod (eVar 0) (eVar 2)) (eVar 1)) (aCons (eBin oSub (eBin oMod (eBin oDiv (eVar 0) (eVar 2)) (eVar 2)) (eVar 1)) (aCons (eBin oSub (eBin oMod (eBin oDiv (eVar 0) (eBin oPow (eVar 2) (eC (.int 2)))) (eVar 2)) (eVar 1)) (aNil)))))))
noncomputable def f__law_cross : List D → R D := fnD 2 8 (sSeq (sAsg (eVar 0) (bSeq 3 (bCons (bName 2) (bCons (bName 3) (bCons (bName 4) (bNil))))))
    (sSeq (sAsg (eVar 1) (bSeq 3 (bCons (bName 5) (bCons (bName 6) (bCons (bName 7) (bNil))))))
    (sRet (eTup (aCons (eBin oSub (eBin oMul (eVar 3) (eVar 7)) (eBin oMul (eVar 4) (eVar 6))) (aCons (eBin oSub (eBin oMul (eVar 4) (eVar 5)) (eBin oMul (eVar 2) (eVar 7))) (aCons (eBin oSub (eBin oMul (eVar 2) (eVar 6)) (eBin oMul (eVar 3) (eVar 5))) (aNil))))))))
noncomputable def f__law_dot : List D → R D := fnD 2 2 (sRet (eBin oAdd (eBin oAdd (eBin oMul (eBin oIx (eVar 0) (eC (.int 0))) (eBin oIx (eVar 1) (eC (.int 0)))) (eBin oMul (eBin oIx (eVar 0) (eC (.int 1))) (eBin oIx (eVar 1) (eC (.int 1))))) (eBin oMul (eBin oIx (eVar 0) (eC (.int 2))) (eBin oIx (eVar 1) (eC (.int 2))))))
noncomputable def f__law_on : List D → R D := fnD 3 3 (sRet (eTup (aCons (eBin oAdd (eBin oIx (eVar 0) (eC (.int 0))) (eBin oMul (eVar 2) (eBin oIx (eVar 1) (eC (.int 0))))) (aCons (eBin oAdd (eBin oIx (eVar 0) (eC (.int 1))) (eBin oMul (eVar 2) (eBin oIx (eVar 1) (eC (.int 1))))) (aCons (eBin oAdd (eBin oIx (eVar 0) (eC (.int 2))) (eBin oMul (eVar 2) (eBin oIx (eVar 1) (eC (.int 2))))) (aNil))))))
noncomputable def f__law_pair : List D → R D := fnD 2 4 (sSeq (sSet 2 (eCall f__law_triple (aCons (eVar 0) (aCons (eVar 1) (aNil)))))
    (sSeq (sSet 3 (eCall f__law_triple (aCons (eBin oDiv (eVar 0) (eBin oPow (eBin oAdd (eBin oMul (eC (.int 2)) (eVar 1)) (eC (.int 1))) (eC (.int 3)))) (aCons (eVar 1) (aNil)))))
    (sSeq (sIf (eTest (eBin oEq (eCall f__law_cross (aCons (eVar 2) (aCons (eVar 3) (aNil)))) (eTup (aCons (eC (.int 0)) (aCons (eC (.int 0)) (aCons (eC (.int 0)) (aNil))))))) (sRet (eTup (aCons (eTup (aCons (eVar 1) (aCons (eC (.int 0)) (aCons (eC (.int 0)) (aNil))))) (aCons (eTup (aCons (eC (.int 0)) (aCons (eVar 1) (aCons (eC (.int 0)) (aNil))))) (aNil))))) (sSkip))
    (sRet (eTup (aCons (eVar 2) (aCons (eVar 3) (aNil))))))))
noncomputable def f__law_sun : List D → R D := fnD 2 8 (sSeq (sOwn 2 (aNil))
    (sSeq (sSet 3 (eBin oMod (eCall f__law_wide (aCons (eVar 0) (aCons (eC (.int 1)) (aNil)))) (eC (.int 24))))
    (sSeq (sFor (iArgs range1 (aCons (eVar 1) (aNil))) (bName 4) (sSeq (sSet 5 (eCall f__law_wide (aCons (eVar 0) (aCons (eBin oAdd (eC (.int 2)) (eVar 4)) (aNil)))))
     (sSeq (sSet 6 (eBin oIx (eLst (aCons (eBin oAdd (eBin oMod (eBin oDiv (eVar 5) (eC (.int 441))) (eC (.int 4))) (eC (.int 1))) (aCons (eBin oSub (eBin oMod (eBin oDiv (eVar 5) (eC (.int 441))) (eC (.int 5))) (eC (.int 3))) (aNil)))) (eBin oDiv (eBin oMod (eVar 5) (eC (.int 9))) (eC (.int 7)))))
     (sSeq (sSet 7 (eTup (aCons (eBin oSub (eBin oMod (eBin oDiv (eVar 5) (eC (.int 9))) (eC (.int 7))) (eC (.int 3))) (aCons (eBin oSub (eBin oMod (eBin oDiv (eVar 5) (eC (.int 63))) (eC (.int 7))) (eC (.int 3))) (aCons (eVar 6) (aNil))))))
     (sSeq (sIf (eTest (eBin oEq (eVar 7) (eTup (aCons (eC (.int 0)) (aCons (eC (.int 0)) (aCons (eC (.int 0)) (aNil))))))) (sSet 7 (eTup (aCons (eC (.int 0)) (aCons (eC (.int 0)) (aCons (eC (.int 1)) (aNil)))))) (sSkip))
     (sSeq (sApp 2 (eTup (aCons (eVar 3) (aCons (eVar 7) (aNil)))))
     (sSet 3 (eBin oAdd (eBin oAdd (eVar 3) (eC (.int 1))) (eBin oMod (eBin oDiv (eVar 5) (eC (.int 2205))) (eC (.int 5)))))))))))
    (sFreeze 2 (sRet (eVar 2))))))
noncomputable def f__law_dial : List D → R D := fnD 2 12 (sSeq (sSet 2 (eBin oAdd (eC (.int 1)) (eBin oMod (eVar 0) (eC (.int 4)))))
    (sSeq (sSet 0 (eBin oDiv (eVar 0) (eC (.int 4))))
    (sSeq (sAsg (eCall f__law_pair (aCons (eBin oDiv (eVar 0) (eC (.int 2000))) (aCons (eC (.int 2)) (aNil)))) (bSeq 2 (bCons (bName 3) (bCons (bName 4) (bNil)))))
    (sSeq (sSet 5 (eBin oIx (eBin oIx (eVar 1) (eBin oMod (eVar 0) (eN oLen (aCons (eVar 1) (aNil))))) (eC (.int 1))))
    (sSeq (sSet 6 (eCall f__law_dot (aCons (eCall f__law_cross (aCons (eVar 3) (aCons (eVar 4) (aNil)))) (aCons (eVar 5) (aNil)))))
    (sSeq (sIf (eTest (eBin oLt (eVar 6) (eC (.int 0)))) (sPar 3 4 (aCons (eVar 4) (aCons (eVar 3) (aNil)))) (sSkip))
    (sSeq (sIf (eTest (eBin oEq (eVar 6) (eC (.int 0)))) (sSet 5 (eCall f__law_cross (aCons (eVar 3) (aCons (eVar 4) (aNil))))) (sSkip))
    (sSeq (sSet 0 (eBin oDiv (eVar 0) (eBin oPow (eC (.int 10)) (eC (.int 10)))))
    (sSeq (sSet 7 (eCall f__law_triple (aCons (eVar 0) (aCons (eC (.int 6)) (aNil)))))
    (sSeq (sSet 0 (eBin oDiv (eVar 0) (eBin oPow (eC (.int 13)) (eC (.int 3)))))
    (sSeq (sSet 8 (eBin oIx (eLst (aCons (eBin oMod (eVar 0) (eBin oAdd (eVar 2) (eC (.int 1)))) (aCons (eBin oSub (eBin oMod (eVar 0) (eBin oAdd (eVar 2) (eC (.int 3)))) (eC (.int 1))) (aNil)))) (eBin oDiv (eBin oMod (eBin oDiv (eVar 0) (eC (.int 30))) (eC (.int 4))) (eC (.int 3)))))
    (sSeq (sSet 9 (eBin oIx (eLst (aCons (eBin oMod (eBin oDiv (eVar 0) (eC (.int 120))) (eBin oAdd (eVar 2) (eC (.int 1)))) (aCons (eBin oSub (eBin oMod (eBin oDiv (eVar 0) (eC (.int 120))) (eBin oAdd (eVar 2) (eC (.int 3)))) (eC (.int 1))) (aNil)))) (eBin oDiv (eBin oMod (eBin oDiv (eVar 0) (eC (.int 3600))) (eC (.int 4))) (eC (.int 3)))))
    (sSeq (sSet 10 (eCall f__law_on (aCons (eCall f__law_on (aCons (eVar 7) (aCons (eVar 3) (aCons (eVar 8) (aNil))))) (aCons (eVar 4) (aCons (eVar 9) (aNil))))))
    (sSeq (sSet 11 (eCall f__law_on (aCons (eVar 10) (aCons (eVar 5) (aCons (eBin oAdd (eC (.int 1)) (eBin oMod (eBin oDiv (eVar 0) (eC (.int 14400))) (eC (.int 6)))) (aNil))))))
    (sRet (eTup (aCons (eTup (aCons (eVar 7) (aCons (eCall f__law_on (aCons (eTup (aCons (eC (.int 0)) (aCons (eC (.int 0)) (aCons (eC (.int 0)) (aNil))))) (aCons (eVar 3) (aCons (eVar 2) (aNil))))) (aCons (eCall f__law_on (aCons (eTup (aCons (eC (.int 0)) (aCons (eC (.int 0)) (aCons (eC (.int 0)) (aNil))))) (aCons (eVar 4) (aCons (eVar 2) (aNil))))) (aNil))))) (aCons (eVar 11) (aCons (eVar 10) (aNil))))))))))))))))))))
noncomputable def f__law_fence : List D → R D := fnD 3 12 (sSeq (sSet 3 (eTup (aCons (eC (.int 0)) (aCons (eC (.int 0)) (aCons (eC (.int 1)) (aNil))))))
    (sSeq (sIf (eTest (eBin oNe (eVar 2) (eLst (aNil)))) (sSet 3 (eBin oIx (eBin oIx (eVar 2) (eBin oMod (eVar 0) (eN oLen (aCons (eVar 2) (aNil))))) (eC (.int 2)))) (sSkip))
    (sSeq (sSet 4 (eBin oIx (eBin oIx (eVar 1) (eBin oMod (eBin oDiv (eVar 0) (eC (.int 60))) (eN oLen (aCons (eVar 1) (aNil))))) (eC (.int 1))))
    (sSeq (sSet 0 (eBin oDiv (eVar 0) (eC (.int 3600))))
    (sSeq (sSet 5 (eBin oAdd (eC (.int 1)) (eBin oMod (eVar 0) (eC (.int 3)))))
    (sSeq (sAsg (eCall f__law_pair (aCons (eBin oDiv (eVar 0) (eC (.int 3))) (aCons (eC (.int 2)) (aNil)))) (bSeq 2 (bCons (bName 6) (bCons (bName 7) (bNil)))))
    (sSeq (sSet 0 (eBin oDiv (eVar 0) (eBin oPow (eC (.int 10)) (eC (.int 6)))))
    (sSeq (sSet 8 (eCall f__law_on (aCons (eVar 3) (aCons (eVar 4) (aCons (eBin oSub (eBin oMod (eVar 0) (eC (.int 9))) (eC (.int 1))) (aNil))))))
    (sSeq (sSet 9 (eBin oSub (eBin oMod (eBin oDiv (eVar 0) (eC (.int 9))) (eBin oAdd (eVar 5) (eC (.int 2)))) (eC (.int 1))))
    (sSeq (sSet 10 (eBin oSub (eBin oMod (eBin oDiv (eVar 0) (eC (.int 60))) (eBin oAdd (eVar 5) (eC (.int 2)))) (eC (.int 1))))
    (sSeq (sSet 11 (eCall f__law_on (aCons (eCall f__law_on (aCons (eVar 8) (aCons (eVar 6) (aCons (eBin oSub (eC (.int 0)) (eVar 9)) (aNil))))) (aCons (eVar 7) (aCons (eBin oSub (eC (.int 0)) (eVar 10)) (aNil))))))
    (sRet (eTup (aCons (eVar 11) (aCons (eCall f__law_on (aCons (eTup (aCons (eC (.int 0)) (aCons (eC (.int 0)) (aCons (eC (.int 0)) (aNil))))) (aCons (eVar 6) (aCons (eVar 5) (aNil))))) (aCons (eCall f__law_on (aCons (eTup (aCons (eC (.int 0)) (aCons (eC (.int 0)) (aCons (eC (.int 0)) (aNil))))) (aCons (eVar 7) (aCons (eVar 5) (aNil))))) (aNil)))))))))))))))))
noncomputable def f__law_name : List D → R D := fnD 2 5 (sSeq (sSet 2 (eC (.str "abcdefghijklmnopqrstuvwxyz")))
    (sSeq (sSet 3 (eCall f__law_wide (aCons (eVar 0) (aCons (eC (.int 60)) (aNil)))))
    (sSeq (sSet 4 (eBin oAdd (eBin oIx (eVar 2) (eBin oMod (eBin oAdd (eVar 1) (eBin oDiv (eVar 3) (eC (.int 20)))) (eC (.int 26)))) (eBin oIx (eVar 2) (eBin oDiv (eVar 1) (eC (.int 26))))))
    (sRet (eBin oAdd (eBin oAdd (eBin oMulS (eC (.str "x")) (eBin oMod (eVar 3) (eC (.int 5)))) (eVar 4)) (eBin oMulS (eC (.str "q")) (eBin oMod (eBin oDiv (eVar 3) (eC (.int 4))) (eC (.int 3)))))))))
noncomputable def f__law_yard : List D → R D := fnD 4 11 (sSeq (sSet 4 (eBin oDiv (eCall f__law_wide (aCons (eVar 0) (aCons (eC (.int 0)) (aNil)))) (eC (.int 2))))
    (sSeq (sSet 5 (eCall f__law_sun (aCons (eVar 0) (aCons (eBin oAdd (eC (.int 1)) (eBin oMod (eVar 4) (eVar 3))) (aNil)))))
    (sSeq (sOwn 6 (aNil))
    (sSeq (sFor (iArgs range1 (aCons (eBin oMod (eBin oDiv (eVar 4) (eC (.int 100))) (eBin oAdd (eVar 1) (eC (.int 1)))) (aNil))) (bName 7) (sApp 6 (eCall f__law_dial (aCons (eCall f__law_wide (aCons (eVar 0) (aCons (eBin oAdd (eC (.int 20)) (eVar 7)) (aNil)))) (aCons (eVar 5) (aNil))))))
    (sSeq (sOwn 8 (aNil))
    (sSeq (sFor (iArgs range1 (aCons (eBin oMod (eBin oDiv (eVar 4) (eC (.int 10000))) (eBin oAdd (eVar 2) (eC (.int 1)))) (aNil))) (bName 7) (sFreeze 6 (sApp 8 (eCall f__law_fence (aCons (eCall f__law_wide (aCons (eVar 0) (aCons (eBin oAdd (eC (.int 40)) (eVar 7)) (aNil)))) (aCons (eVar 5) (aCons (eVar 6) (aNil))))))))
    (sSeq (sFreeze 8 (sSet 9 (eComp [7] (iArgs range1 (aCons (eN oLen (aCons (eVar 8) (aNil))) (aNil))) (bName 7) (eYes) (eTup (aCons (eCall f__law_name (aCons (eVar 0) (aCons (eVar 7) (aNil)))) (aCons (eBin oIx (eVar 8) (eVar 7)) (aNil)))))))
    (sSeq (sFreeze 6 (sSet 10 (eComp [7] (iArgs range1 (aCons (eN oLen (aCons (eVar 6) (aNil))) (aNil))) (bName 7) (eYes) (eTup (aCons (eCall f__law_name (aCons (eVar 0) (aCons (eBin oAdd (eC (.int 20)) (eVar 7)) (aNil)))) (aCons (eBin oIx (eBin oIx (eVar 6) (eVar 7)) (eC (.int 0))) (aCons (eBin oIx (eBin oIx (eVar 6) (eVar 7)) (eC (.int 1))) (aNil))))))))
    (sRet (eTup (aCons (eVar 5) (aCons (eVar 9) (aCons (eVar 10) (aNil))))))))))))))
noncomputable def f__law_flat : List D → R D := fnD 4 17 (sSeq (sSet 4 (eBin oDiv (eCall f__law_wide (aCons (eVar 0) (aCons (eC (.int 0)) (aNil)))) (eC (.int 2))))
    (sSeq (sSet 5 (eBin oAdd (eC (.int 1)) (eBin oMod (eVar 4) (eVar 3))))
    (sSeq (sOwnN 6 (xRg1 (eBin oAdd (eVar 5) (eC (.int 2)))))
    (sSeq (sSet 7 (eCall f__law_wide (aCons (eVar 0) (aCons (eC (.int 1)) (aNil)))))
    (sSeq (sOwn 8 (aNil))
    (sSeq (sFor (iArgs range1 (aCons (eVar 5) (aNil))) (bName 9) (sSeq (sAppP 8 (pTup (pCons (pLift (eBin oAdd (eC (.int 3)) (eBin oMul (eC (.int 2)) (eVar 9)))) (pCons (pTup (pCons (pPop 6 (eBin oMod (eVar 7) (ePeek 6 (eN oLen (aCons (eVar 6) (aNil)))))) (pCons (pLift (eC (.int 0))) (pCons (pLift (eC (.int 1))) (pNil))))) (pNil)))))
     (sSet 7 (eBin oDiv (eVar 7) (eC (.int 12))))))
    (sSeq (sOwn 10 (aNil))
    (sSeq (sFor (iArgs range1 (aCons (eBin oMod (eBin oDiv (eVar 4) (eC (.int 100))) (eBin oAdd (eVar 1) (eC (.int 1)))) (aNil))) (bName 9) (sSeq (sSet 7 (eCall f__law_wide (aCons (eVar 0) (aCons (eBin oAdd (eC (.int 20)) (eVar 9)) (aNil)))))
     (sSeq (sSet 11 (eBin oMod (eVar 7) (eBin oAdd (eVar 5) (eC (.int 2)))))
     (sSeq (sSet 12 (eBin oMod (eBin oDiv (eVar 7) (eC (.int 12))) (eC (.int 5))))
     (sSeq (sSet 13 (eTup (aCons (eTup (aCons (eC (.int 0)) (aCons (eBin oMul (eC (.int 100)) (eVar 9)) (aCons (eC (.int 0)) (aNil))))) (aCons (eTup (aCons (eBin oAdd (eBin oMul (eC (.int 4)) (eVar 12)) (eC (.int 1))) (aCons (eC (.int 0)) (aCons (eC (.int 0)) (aNil))))) (aCons (eTup (aCons (eC (.int 0)) (aCons (eC (.int 4)) (aCons (eC (.int 0)) (aNil))))) (aNil))))))
     (sApp 10 (eTup (aCons (eCall f__law_name (aCons (eVar 0) (aCons (eBin oAdd (eC (.int 20)) (eVar 9)) (aNil)))) (aCons (eVar 13) (aCons (eTup (aCons (eBin oMul (eC (.int 4)) (eBin oAdd (eVar 11) (eVar 12))) (aCons (eBin oAdd (eBin oMul (eC (.int 100)) (eVar 9)) (eC (.int 2))) (aCons (eC (.int 4)) (aNil))))) (aNil)))))))))))
    (sSeq (sOwn 14 (aNil))
    (sSeq (sFor (iArgs range1 (aCons (eBin oMod (eBin oDiv (eVar 4) (eC (.int 10000))) (eBin oAdd (eVar 2) (eC (.int 1)))) (aNil))) (bName 9) (sSeq (sSet 7 (eCall f__law_wide (aCons (eVar 0) (aCons (eBin oAdd (eC (.int 40)) (eVar 9)) (aNil)))))
     (sSeq (sSet 15 (eTup (aCons (eC (.int 50)) (aCons (eUn oNeg (eC (.int 50))) (aCons (eC (.int 1)) (aNil))))))
     (sSeq (sIf (uPeek 10 (eTest (eBin oNe (eVar 10) (eLst (aNil))))) (sSet 15 (eBin oIx (eIxO 10 (eBin oMod (eVar 7) (ePeek 10 (eN oLen (aCons (eVar 10) (aNil)))))) (eC (.int 2)))) (sSkip))
     (sSeq (sSet 12 (eBin oMod (eBin oDiv (eVar 7) (eC (.int 144))) (eC (.int 4))))
     (sSeq (sSet 16 (eBin oAdd (eBin oMod (eBin oDiv (eVar 7) (eC (.int 12))) (eBin oAdd (eVar 5) (eC (.int 2)))) (eVar 12)))
     (sSeq (sSet 13 (eTup (aCons (eTup (aCons (eBin oSub (eBin oSub (eBin oIx (eVar 15) (eC (.int 0))) (eBin oMul (eC (.int 3)) (eVar 16))) (eC (.int 1))) (aCons (eBin oSub (eBin oIx (eVar 15) (eC (.int 1))) (eC (.int 1))) (aCons (eC (.int 1)) (aNil))))) (aCons (eTup (aCons (eBin oAdd (eBin oMul (eC (.int 3)) (eVar 12)) (eC (.int 2))) (aCons (eC (.int 0)) (aCons (eC (.int 0)) (aNil))))) (aCons (eTup (aCons (eC (.int 0)) (aCons (eC (.int 2)) (aCons (eC (.int 0)) (aNil))))) (aNil))))))
     (sApp 14 (eTup (aCons (eCall f__law_name (aCons (eVar 0) (aCons (eVar 9) (aNil)))) (aCons (eVar 13) (aNil))))))))))))
    (sFreeze 10 (sFreeze 14 (sFreeze 8 (sRet (eTup (aCons (eVar 8) (aCons (eVar 14) (aCons (eVar 10) (aNil)))))))))))))))))))
noncomputable def f__law_either : List D → R D := fnD 4 4 (sSeq (sIf (eTest (eBin oEq (eBin oMod (eBin oDiv (eCall f__law_cell (aCons (eVar 0) (aCons (eC (.int 0)) (aNil)))) (eC (.int 2))) (eC (.int 2))) (eC (.int 1)))) (sRet (eCall f__law_flat (aCons (eVar 0) (aCons (eVar 1) (aCons (eVar 2) (aCons (eVar 3) (aNil))))))) (sSkip))
    (sRet (eCall f__law_yard (aCons (eVar 0) (aCons (eVar 1) (aCons (eVar 2) (aCons (eVar 3) (aNil))))))))
noncomputable def f__law_hours : List D → R D := fnD 3 8 (sSeq (sSet 3 (eComp [7] (iD (eBin oIx (eVar 1) (eC (.int 0)))) (bName 7) (eYes) (eBin oIx (eVar 7) (eC (.int 0)))))
    (sSeq (sSet 4 (eBin oDiv (eCall f__law_wide (aCons (eVar 0) (aCons (eC (.int 1)) (aNil)))) (eC (.int 24))))
    (sSeq (sIf (eAnd (eTest (eBin oGt (eBin oMod (eVar 4) (eC (.int 4))) (eC (.int 0)))) (eTest (eBin oNe (eVar 2) (eLst (aNil))))) (sSet 3 (eVar 2)) (sSkip))
    (sSeq (sOwn 5 (aNil))
    (sSeq (sFor (iArgs range1 (aCons (eBin oMod (eBin oDiv (eVar 4) (eC (.int 4))) (eC (.int 6))) (aNil))) (bName 6) (sApp 5 (eBin oIx (eVar 3) (eBin oMod (eBin oDiv (eVar 4) (eBin oMul (eC (.int 36)) (eBin oAdd (eBin oAdd (eBin oMul (eVar 6) (eVar 6)) (eBin oMul (eC (.int 3)) (eVar 6))) (eC (.int 1))))) (eN oLen (aCons (eVar 3) (aNil)))))))
    (sFreeze 5 (sRet (eVar 5))))))))
noncomputable def f__law_lists : List D → R D := fnD 2 5 (sSeq (sSet 2 (eLst (aCons (eLst (aNil)) (aNil))))
    (sSeq (sFor (iArgs range1 (aCons (eVar 1) (aNil))) (bName 3) (sSet 2 (eBin oAdd (eVar 2) (eComp [4] (iD (eVar 2)) (bName 4) (eYes) (eBin oAdd (eVar 4) (eLst (aCons (eVar 3) (aNil))))))))
    (sRet (eN oSortR (aCons (eComp [4] (iD (eVar 2)) (bName 4) (eTest (eBin oEq (eN oLen (aCons (eVar 4) (aNil))) (eVar 0))) (eVar 4)) (aNil))))))
noncomputable def f__law_read : List D → R D := fnD 3 6 (sSeq (sSet 3 (eComp [5] (iArgs range1 (aCons (eN oLen (aCons (eBin oIx (eVar 0) (eC (.int 1))) (aNil))) (aNil))) (bName 5) (eTest (eBin oNinX (eVar 5) (eVar 1))) (eBin oIx (eBin oIx (eVar 0) (eC (.int 1))) (eVar 5))))
    (sSeq (sFor (iD (eBin oIx (eVar 0) (eC (.int 2)))) (bName 4) (sIf (eTest (eBin oEq (eBin oIx (eCall f_told_at (aCons (eTup (aCons (eBin oIx (eVar 0) (eC (.int 0))) (aCons (eVar 3) (aCons (eBin oIx (eVar 0) (eC (.int 2))) (aNil))))) (aCons (eVar 2) (aCons (eBin oIx (eVar 4) (eC (.int 0))) (aNil))))) (eC (.int 0))) (eC (.str "read")))) (sRet (eC (.bl true))) (sSkip)))
    (sRet (eC (.bl false)))))
noncomputable def f__law_missed : List D → R D := fnD 3 4 (sSeq (sFor (iD (eVar 2)) (bName 3) (sIf (eNot (eTest (eCall f__law_read (aCons (eVar 0) (aCons (eVar 1) (aCons (eVar 3) (aNil))))))) (sRet (eVar 3)) (sSkip)))
    (sRet (eC .non)))
noncomputable def f__law_due : List D → R D := fnD 2 11 (sSeq (sSet 2 (eN oLen (aCons (eBin oIx (eVar 0) (eC (.int 1))) (aNil))))
    (sSeq (sSet 3 (eCall f__law_missed (aCons (eVar 0) (aCons (eKeep (xRg1 (eVar 2))) (aCons (eVar 1) (aNil))))))
    (sSeq (sIf (eTest (eBin oNotN (eVar 3) (eC .non))) (sRet (eTup (aCons (eC (.str "never")) (aCons (eVar 3) (aNil))))) (sSkip))
    (sSeq (sSet 4 (eLst (aNil)))
    (sSeq (sFor (iArgs range1 (aCons (eBin oAdd (eVar 2) (eC (.int 1))) (aNil))) (bName 5) (sSeq (sSet 6 (eComp [8] (iD (eCall f__law_lists (aCons (eVar 5) (aCons (eVar 2) (aNil))))) (bName 8) (eYes) (eTup (aCons (eVar 8) (aCons (eCall f__law_missed (aCons (eVar 0) (aCons (eVar 8) (aCons (eVar 1) (aNil))))) (aNil))))))
     (sSeq (sSet 7 (eComp [9] (iD (eVar 6)) (bName 9) (eTest (eBin oIsN (eBin oIx (eVar 9) (eC (.int 1))) (eC .non))) (eBin oIx (eVar 9) (eC (.int 0)))))
     (sSeq (sIf (eTest (eBin oNe (eVar 7) (eLst (aNil)))) (sRet (eTup (aCons (eC (.str "walls")) (aCons (eComp [10] (iD (eBin oIx (eVar 7) (eC (.int 0)))) (bName 10) (eYes) (eBin oIx (eBin oIx (eBin oIx (eVar 0) (eC (.int 1))) (eVar 10)) (eC (.int 0)))) (aCons (eVar 4) (aNil)))))) (sSkip))
     (sSet 4 (eVar 6))))))
    (sRet (eC .non)))))))
noncomputable def f_law : List D → R D := fnD 1 10 (sSeq (sSet 1 (eCall f__law_either (aCons (eVar 0) (aCons (eC (.int 3)) (aCons (eC (.int 3)) (aCons (eC (.int 6)) (aNil)))))))
    (sSeq (sSet 2 (eKeep (xRg1 (eN oLen (aCons (eBin oIx (eVar 1) (eC (.int 1))) (aNil))))))
    (sSeq (sSet 3 (eCall f__law_hours (aCons (eVar 0) (aCons (eVar 1) (aCons (eComp [9] (iD (eBin oIx (eVar 1) (eC (.int 0)))) (bName 9) (eTest (eCall f__law_read (aCons (eVar 1) (aCons (eVar 2) (aCons (eBin oIx (eVar 9) (eC (.int 0))) (aNil)))))) (eBin oIx (eVar 9) (eC (.int 0)))) (aNil))))))
    (sSeq (sSet 4 (eCall f__law_due (aCons (eVar 1) (aCons (eVar 3) (aNil)))))
    (sSeq (sOwnT 5 (tC (xTup (tN (xList (aCons (eBin oIx (eVar 1) (eC (.int 0))) (aNil))) (tN (xList (aCons (eBin oIx (eVar 1) (eC (.int 1))) (aNil))) (tN (xList (aCons (eBin oIx (eVar 1) (eC (.int 2))) (aNil))) (tNil))))) (tN (xList (aCons (eVar 3) (aNil))) (tNil))))
    (sSeq (sMu 5 6 7 8 (eCall f_fewest_gone (aCons (eBin oIx (eVar 5) (eC (.int 0))) (aCons (eBin oIx (eVar 5) (eC (.int 1))) (aNil)))) (eOr (eNot (eTest (eN oIsi (aCons (eVar 6) (aCons (eC (.ty "tuple")) (aNil)))))) (eOr (eTest (eBin oNe (eVar 6) (eVar 4))) (eTest (eBin oNe (eVar 5) (eLst (aCons (eVar 1) (aCons (eVar 3) (aNil)))))))) (eTest (eBin oEq (eBin oIx (eVar 6) (eC (.int 0))) (eC (.str "walls")))) (eOr (eNot (eTest (eN oIsi (aCons (eBin oIx (eVar 6) (eC (.int 1))) (aCons (eC (.ty "list")) (aNil)))))) (eNot (eTest (eN oIsi (aCons (eBin oIx (eVar 6) (eC (.int 2))) (aCons (eC (.ty "list")) (aNil))))))))
    (sRet (eBin oEq (eCall f_fewest_gone (aCons (eVar 1) (aCons (eVar 3) (aNil)))) (eVar 4)))))))))
end Gn

section
set_option Elab.async false
set_option linter.all false
set_option maxRecDepth 100000
set_option maxHeartbeats 0
namespace Gn
open PySem PySem.Spec PyProof.Rows L2 Dy
/-! ### the text -/
def topS (i : Nat) : Stmt := PySem.Challenge.pw_dialyard_k62_fewest_gone_of_all.main.body.getD i (.Pass ⟨0, 0, 0, 0⟩)
abbrev s_is_whole : Stmt := topS 6
abbrev N_is_whole : List Str := ["thing"]
theorem sc_is_whole : FnScope N_is_whole ["thing"] (defScope s_is_whole) := ⟨rfl, rfl, rfl, by decide +kernel, rfl, by decide +kernel, by decide +kernel⟩
abbrev s_divisor_of : Stmt := topS 7
abbrev N_divisor_of : List Str := ["one", "other"]
theorem sc_divisor_of : FnScope N_divisor_of ["one", "other"] (defScope s_divisor_of) := ⟨rfl, rfl, rfl, by decide +kernel, rfl, by decide +kernel, by decide +kernel⟩
abbrev s_ratio_of : Stmt := topS 8
abbrev N_ratio_of : List Str := ["top", "bottom", "by"]
theorem sc_ratio_of : FnScope N_ratio_of ["top", "bottom"] (defScope s_ratio_of) := ⟨rfl, rfl, rfl, by decide +kernel, rfl, by decide +kernel, by decide +kernel⟩
abbrev s_ratio_sum : Stmt := topS 9
abbrev N_ratio_sum : List Str := ["one", "other"]
theorem sc_ratio_sum : FnScope N_ratio_sum ["one", "other"] (defScope s_ratio_sum) := ⟨rfl, rfl, rfl, by decide +kernel, rfl, by decide +kernel, by decide +kernel⟩
abbrev s_ratio_less : Stmt := topS 10
abbrev N_ratio_less : List Str := ["one", "other"]
theorem sc_ratio_less : FnScope N_ratio_less ["one", "other"] (defScope s_ratio_less) := ⟨rfl, rfl, rfl, by decide +kernel, rfl, by decide +kernel, by decide +kernel⟩
abbrev s_ratio_times : Stmt := topS 11
abbrev N_ratio_times : List Str := ["one", "other"]
theorem sc_ratio_times : FnScope N_ratio_times ["one", "other"] (defScope s_ratio_times) := ⟨rfl, rfl, rfl, by decide +kernel, rfl, by decide +kernel, by decide +kernel⟩
abbrev s_ratio_by : Stmt := topS 12
abbrev N_ratio_by : List Str := ["one", "other"]
theorem sc_ratio_by : FnScope N_ratio_by ["one", "other"] (defScope s_ratio_by) := ⟨rfl, rfl, rfl, by decide +kernel, rfl, by decide +kernel, by decide +kernel⟩
abbrev s_is_under : Stmt := topS 13
abbrev N_is_under : List Str := ["one", "other"]
theorem sc_is_under : FnScope N_is_under ["one", "other"] (defScope s_is_under) := ⟨rfl, rfl, rfl, by decide +kernel, rfl, by decide +kernel, by decide +kernel⟩
abbrev s_dot_of : Stmt := topS 15
abbrev N_dot_of : List Str := ["one", "other"]
theorem sc_dot_of : FnScope N_dot_of ["one", "other"] (defScope s_dot_of) := ⟨rfl, rfl, rfl, by decide +kernel, rfl, by decide +kernel, by decide +kernel⟩
abbrev s_cross_of : Stmt := topS 16
abbrev N_cross_of : List Str := ["one", "other", "a", "b", "c", "d", "e", "f"]
theorem sc_cross_of : FnScope N_cross_of ["one", "other"] (defScope s_cross_of) := ⟨rfl, rfl, rfl, by decide +kernel, rfl, by decide +kernel, by decide +kernel⟩
abbrev s_direction_at : Stmt := topS 18
abbrev N_direction_at : List Str := ["sun", "hour", "told", "direction"]
theorem sc_direction_at : FnScope N_direction_at ["sun", "hour"] (defScope s_direction_at) := ⟨rfl, rfl, rfl, by decide +kernel, rfl, by decide +kernel, by decide +kernel⟩
abbrev s_is_up : Stmt := topS 19
abbrev N_is_up : List Str := ["sun", "hour"]
theorem sc_is_up : FnScope N_is_up ["sun", "hour"] (defScope s_is_up) := ⟨rfl, rfl, rfl, by decide +kernel, rfl, by decide +kernel, by decide +kernel⟩
abbrev s_front_of : Stmt := topS 21
abbrev N_front_of : List Str := ["plate"]
theorem sc_front_of : FnScope N_front_of ["plate"] (defScope s_front_of) := ⟨rfl, rfl, rfl, by decide +kernel, rfl, by decide +kernel, by decide +kernel⟩
abbrev s_point_of : Stmt := topS 22
abbrev N_point_of : List Str := ["plate", "place", "found", "axis", "along", "across"]
theorem sc_point_of : FnScope N_point_of ["plate", "place"] (defScope s_point_of) := ⟨rfl, rfl, rfl, by decide +kernel, rfl, by decide +kernel, by decide +kernel⟩
abbrev s_lies_on : Stmt := topS 23
abbrev N_lies_on : List Str := ["place", "one"]
theorem sc_lies_on : FnScope N_lies_on ["place"] (defScope s_lies_on) := ⟨rfl, rfl, rfl, by decide +kernel, rfl, by decide +kernel, by decide +kernel⟩
abbrev s_comes_from_ahead : Stmt := topS 24
abbrev N_comes_from_ahead : List Str := ["plate", "direction"]
theorem sc_comes_from_ahead : FnScope N_comes_from_ahead ["plate", "direction"] (defScope s_comes_from_ahead) := ⟨rfl, rfl, rfl, by decide +kernel, rfl, by decide +kernel, by decide +kernel⟩
abbrev s_as_point : Stmt := topS 26
abbrev N_as_point : List Str := ["triple"]
theorem sc_as_point : FnScope N_as_point ["triple"] (defScope s_as_point) := ⟨rfl, rfl, rfl, by decide +kernel, rfl, by decide +kernel, by decide +kernel⟩
abbrev s_point_less : Stmt := topS 27
abbrev N_point_less : List Str := ["one", "other", "here", "there"]
theorem sc_point_less : FnScope N_point_less ["one", "other"] (defScope s_point_less) := ⟨rfl, rfl, rfl, by decide +kernel, rfl, by decide +kernel, by decide +kernel⟩
abbrev s_point_dot : Stmt := topS 28
abbrev N_point_dot : List Str := ["point", "triple", "found", "here", "there"]
theorem sc_point_dot : FnScope N_point_dot ["point", "triple"] (defScope s_point_dot) := ⟨rfl, rfl, rfl, by decide +kernel, rfl, by decide +kernel, by decide +kernel⟩
abbrev s_meeting_of : Stmt := topS 29
abbrev N_meeting_of : List Str := ["plate", "point", "direction", "corner", "side", "other", "bottom", "gap", "s", "t"]
theorem sc_meeting_of : FnScope N_meeting_of ["plate", "point", "direction"] (defScope s_meeting_of) := ⟨rfl, rfl, rfl, by decide +kernel, rfl, by decide +kernel, by decide +kernel⟩
abbrev s_shadow_of : Stmt := topS 30
abbrev N_shadow_of : List Str := ["plate", "tip", "direction"]
theorem sc_shadow_of : FnScope N_shadow_of ["plate", "tip", "direction"] (defScope s_shadow_of) := ⟨rfl, rfl, rfl, by decide +kernel, rfl, by decide +kernel, by decide +kernel⟩
abbrev s_is_beyond : Stmt := topS 32
abbrev N_is_beyond : List Str := ["plate", "point", "direction", "front", "height"]
theorem sc_is_beyond : FnScope N_is_beyond ["plate", "point", "direction"] (defScope s_is_beyond) := ⟨rfl, rfl, rfl, by decide +kernel, rfl, by decide +kernel, by decide +kernel⟩
abbrev s_hides_point : Stmt := topS 33
abbrev N_hides_point : List Str := ["plate", "point", "direction", "place"]
theorem sc_hides_point : FnScope N_hides_point ["plate", "point", "direction"] (defScope s_hides_point) := ⟨rfl, rfl, rfl, by decide +kernel, rfl, by decide +kernel, by decide +kernel⟩
abbrev s_dial_of : Stmt := topS 35
abbrev N_dial_of : List Str := ["yard", "name", "dial"]
theorem sc_dial_of : FnScope N_dial_of ["yard", "name"] (defScope s_dial_of) := ⟨rfl, rfl, rfl, by decide +kernel, rfl, by decide +kernel, by decide +kernel⟩
abbrev s_hiders : Stmt := topS 36
abbrev N_hiders : List Str := ["yard", "name", "point", "direction", "found", "thing"]
theorem sc_hiders : FnScope N_hiders ["yard", "name", "point", "direction"] (defScope s_hiders) := ⟨rfl, rfl, rfl, by decide +kernel, rfl, by decide +kernel, by decide +kernel⟩
abbrev s_told_at : Stmt := topS 37
abbrev N_told_at : List Str := ["yard", "hour", "name", "direction", "told", "plate", "tip", "place", "names"]
theorem sc_told_at : FnScope N_told_at ["yard", "hour", "name"] (defScope s_told_at) := ⟨rfl, rfl, rfl, by decide +kernel, rfl, by decide +kernel, by decide +kernel⟩
abbrev s_lists_of : Stmt := topS 39
abbrev N_lists_of : List Str := ["many", "some", "found", "k", "longer", "one", "first", "number"]
theorem sc_lists_of : FnScope N_lists_of ["many", "some"] (defScope s_lists_of) := ⟨rfl, rfl, rfl, by decide +kernel, rfl, by decide +kernel, by decide +kernel⟩
abbrev s_without_walls : Stmt := topS 40
abbrev N_without_walls : List Str := ["yard", "numbers", "number", "wall"]
theorem sc_without_walls : FnScope N_without_walls ["yard", "numbers"] (defScope s_without_walls) := ⟨rfl, rfl, rfl, by decide +kernel, rfl, by decide +kernel, by decide +kernel⟩
abbrev s_readers : Stmt := topS 41
abbrev N_readers : List Str := ["yard", "hour", "number", "dial"]
theorem sc_readers : FnScope N_readers ["yard", "hour"] (defScope s_readers) := ⟨rfl, rfl, rfl, by decide +kernel, rfl, by decide +kernel, by decide +kernel⟩
abbrev s_look_at_hours : Stmt := topS 42
abbrev N_look_at_hours : List Str := ["yard", "hours", "hour"]
theorem sc_look_at_hours : FnScope N_look_at_hours ["yard", "hours"] (defScope s_look_at_hours) := ⟨rfl, rfl, rfl, by decide +kernel, rfl, by decide +kernel, by decide +kernel⟩
abbrev s_first_dark : Stmt := topS 43
abbrev N_first_dark : List Str := ["yard", "hours", "hour"]
theorem sc_first_dark : FnScope N_first_dark ["yard", "hours"] (defScope s_first_dark) := ⟨rfl, rfl, rfl, by decide +kernel, rfl, by decide +kernel, by decide +kernel⟩
abbrev s_fewest_gone : Stmt := topS 44
abbrev N_fewest_gone : List Str := ["yard", "hours", "never", "paper", "many", "missed", "numbers", "hour", "number"]
theorem sc_fewest_gone : FnScope N_fewest_gone ["yard", "hours"] (defScope s_fewest_gone) := ⟨rfl, rfl, rfl, by decide +kernel, rfl, by decide +kernel, by decide +kernel⟩
abbrev s__law_cell : Stmt := topS 46
abbrev N__law_cell : List Str := ["_law_script", "_law_k", "_law_number"]
theorem sc__law_cell : FnScope N__law_cell ["_law_script", "_law_k"] (defScope s__law_cell) := ⟨rfl, rfl, rfl, by decide +kernel, rfl, by decide +kernel, by decide +kernel⟩
abbrev s__law_wide : Stmt := topS 47
abbrev N__law_wide : List Str := ["_law_script", "_law_k", "_law_cell_here", "_law_mixed"]
theorem sc__law_wide : FnScope N__law_wide ["_law_script", "_law_k"] (defScope s__law_wide) := ⟨rfl, rfl, rfl, by decide +kernel, rfl, by decide +kernel, by decide +kernel⟩
abbrev s__law_triple : Stmt := topS 48
abbrev N__law_triple : List Str := ["_law_number", "_law_most", "_law_size"]
theorem sc__law_triple : FnScope N__law_triple ["_law_number", "_law_most"] (defScope s__law_triple) := ⟨rfl, rfl, rfl, by decide +kernel, rfl, by decide +kernel, by decide +kernel⟩
abbrev s__law_cross : Stmt := topS 49
abbrev N__law_cross : List Str := ["_law_one", "_law_other", "_law_a", "_law_b", "_law_c", "_law_d", "_law_e", "_law_f"]
theorem sc__law_cross : FnScope N__law_cross ["_law_one", "_law_other"] (defScope s__law_cross) := ⟨rfl, rfl, rfl, by decide +kernel, rfl, by decide +kernel, by decide +kernel⟩
abbrev s__law_dot : Stmt := topS 50
abbrev N__law_dot : List Str := ["_law_one", "_law_other"]
theorem sc__law_dot : FnScope N__law_dot ["_law_one", "_law_other"] (defScope s__law_dot) := ⟨rfl, rfl, rfl, by decide +kernel, rfl, by decide +kernel, by decide +kernel⟩
abbrev s__law_on : Stmt := topS 51
abbrev N__law_on : List Str := ["_law_one", "_law_other", "_law_many"]
theorem sc__law_on : FnScope N__law_on ["_law_one", "_law_other", "_law_many"] (defScope s__law_on) := ⟨rfl, rfl, rfl, by decide +kernel, rfl, by decide +kernel, by decide +kernel⟩
abbrev s__law_pair : Stmt := topS 52
abbrev N__law_pair : List Str := ["_law_number", "_law_most", "_law_one", "_law_other"]
theorem sc__law_pair : FnScope N__law_pair ["_law_number", "_law_most"] (defScope s__law_pair) := ⟨rfl, rfl, rfl, by decide +kernel, rfl, by decide +kernel, by decide +kernel⟩
abbrev s__law_sun : Stmt := topS 53
abbrev N__law_sun : List Str := ["_law_script", "_law_many", "_law_found", "_law_hour", "_law_k", "_law_number", "_law_high", "_law_direction"]
theorem sc__law_sun : FnScope N__law_sun ["_law_script", "_law_many"] (defScope s__law_sun) := ⟨rfl, rfl, rfl, by decide +kernel, rfl, by decide +kernel, by decide +kernel⟩
abbrev s__law_dial : Stmt := topS 54
abbrev N__law_dial : List Str := ["_law_number", "_law_sun_here", "_law_many", "_law_one", "_law_two", "_law_direction", "_law_ahead", "_law_corner", "_law_a", "_law_b", "_law_point", "_law_tip"]
theorem sc__law_dial : FnScope N__law_dial ["_law_number", "_law_sun_here"] (defScope s__law_dial) := ⟨rfl, rfl, rfl, by decide +kernel, rfl, by decide +kernel, by decide +kernel⟩
abbrev s__law_fence : Stmt := topS 55
abbrev N__law_fence : List Str := ["_law_number", "_law_sun_here", "_law_dials", "_law_point", "_law_direction", "_law_many", "_law_one", "_law_two", "_law_met", "_law_i", "_law_j", "_law_corner"]
theorem sc__law_fence : FnScope N__law_fence ["_law_number", "_law_sun_here", "_law_dials"] (defScope s__law_fence) := ⟨rfl, rfl, rfl, by decide +kernel, rfl, by decide +kernel, by decide +kernel⟩
abbrev s__law_name : Stmt := topS 56
abbrev N__law_name : List Str := ["_law_script", "_law_k", "_law_letters", "_law_pad", "_law_middle"]
theorem sc__law_name : FnScope N__law_name ["_law_script", "_law_k"] (defScope s__law_name) := ⟨rfl, rfl, rfl, by decide +kernel, rfl, by decide +kernel, by decide +kernel⟩
abbrev s__law_yard : Stmt := topS 57
abbrev N__law_yard : List Str := ["_law_script", "_law_most_dials", "_law_most_shuts", "_law_most_hours", "_law_shape", "_law_sun_here", "_law_dials", "_law_k", "_law_shuts", "_law_named", "_law_faces"]
theorem sc__law_yard : FnScope N__law_yard ["_law_script", "_law_most_dials", "_law_most_shuts", "_law_most_hours"] (defScope s__law_yard) := ⟨rfl, rfl, rfl, by decide +kernel, rfl, by decide +kernel, by decide +kernel⟩
abbrev s__law_flat : Stmt := topS 58
abbrev N__law_flat : List Str := ["_law_script", "_law_most_dials", "_law_most_fences", "_law_most_hours", "_law_shape", "_law_many", "_law_left", "_law_number", "_law_sun_here", "_law_k", "_law_dials", "_law_low", "_law_wide_here", "_law_plate", "_law_fences", "_law_spot", "_law_high"]
theorem sc__law_flat : FnScope N__law_flat ["_law_script", "_law_most_dials", "_law_most_fences", "_law_most_hours"] (defScope s__law_flat) := ⟨rfl, rfl, rfl, by decide +kernel, rfl, by decide +kernel, by decide +kernel⟩
abbrev s__law_either : Stmt := topS 59
abbrev N__law_either : List Str := ["_law_script", "_law_most_dials", "_law_most_fences", "_law_most_hours"]
theorem sc__law_either : FnScope N__law_either ["_law_script", "_law_most_dials", "_law_most_fences", "_law_most_hours"] (defScope s__law_either) := ⟨rfl, rfl, rfl, by decide +kernel, rfl, by decide +kernel, by decide +kernel⟩
abbrev s__law_hours : Stmt := topS 60
abbrev N__law_hours : List Str := ["_law_script", "_law_yard_here", "_law_good", "_law_some", "_law_shape", "_law_found", "_law_k", "_law_row"]
theorem sc__law_hours : FnScope N__law_hours ["_law_script", "_law_yard_here", "_law_good"] (defScope s__law_hours) := ⟨rfl, rfl, rfl, by decide +kernel, rfl, by decide +kernel, by decide +kernel⟩
abbrev s__law_lists : Stmt := topS 61
abbrev N__law_lists : List Str := ["_law_many", "_law_some", "_law_found", "_law_number", "_law_one"]
theorem sc__law_lists : FnScope N__law_lists ["_law_many", "_law_some"] (defScope s__law_lists) := ⟨rfl, rfl, rfl, by decide +kernel, rfl, by decide +kernel, by decide +kernel⟩
abbrev s__law_read : Stmt := topS 62
abbrev N__law_read : List Str := ["_law_yard_here", "_law_numbers", "_law_hour", "_law_left", "_law_dial_here", "_law_number"]
theorem sc__law_read : FnScope N__law_read ["_law_yard_here", "_law_numbers", "_law_hour"] (defScope s__law_read) := ⟨rfl, rfl, rfl, by decide +kernel, rfl, by decide +kernel, by decide +kernel⟩
abbrev s__law_missed : Stmt := topS 63
abbrev N__law_missed : List Str := ["_law_yard_here", "_law_numbers", "_law_hours_here", "_law_hour"]
theorem sc__law_missed : FnScope N__law_missed ["_law_yard_here", "_law_numbers", "_law_hours_here"] (defScope s__law_missed) := ⟨rfl, rfl, rfl, by decide +kernel, rfl, by decide +kernel, by decide +kernel⟩
abbrev s__law_due : Stmt := topS 64
abbrev N__law_due : List Str := ["_law_yard_here", "_law_hours_here", "_law_many", "_law_missed_here", "_law_paper", "_law_size", "_law_told", "_law_good", "_law_one", "_law_row", "_law_number"]
theorem sc__law_due : FnScope N__law_due ["_law_yard_here", "_law_hours_here"] (defScope s__law_due) := ⟨rfl, rfl, rfl, by decide +kernel, rfl, by decide +kernel, by decide +kernel⟩
abbrev s_law : Stmt := topS 65
abbrev N_law : List Str := ["_law_script", "_law_yard_here", "_law_bare", "_law_hours_here", "_law_due_here", "_law_handed", "_law_found", "_law_numbers", "_law_hour", "_law_row"]
theorem sc_law : FnScope N_law ["_law_script"] (defScope s_law) := ⟨rfl, rfl, rfl, by decide +kernel, rfl, by decide +kernel, by decide +kernel⟩
abbrev si_NoHour : Stmt := clsStmt (topS 3) 0
abbrev Ni_NoHour : List Str := ["self", "hour"]
theorem sci_NoHour : FnScope Ni_NoHour ["self", "hour"] (defScope si_NoHour) := ⟨rfl, rfl, rfl, by decide +kernel, rfl, by decide +kernel, by decide +kernel⟩
def blts : List Str := ["bool", "isinstance", "int", "abs", "range", "tuple", "zip", "sorted", "enumerate", "len", "list"]
def gints : List (Str × Int) := []
def gstrs : List (Str × Str) := []
structure Facts (K : PySem.W.Frag) (mg : Str → Option Value) : Prop where
  int : ∀ (i : Nat) (x : Str × Int), gints[i]? = some x → ∃ t, mg x.1 = some (.int x.2 t)
  str : ∀ (i : Nat) (x : Str × Str), gstrs[i]? = some x → ∃ t, mg x.1 = some (.str x.2 t)
  glo_YardError : mg "YardError" = some (.ref (He.ga K "YardError"))
  glo_NoNumber : mg "NoNumber" = some (.ref (He.ga K "NoNumber"))
  glo_NoHour : mg "NoHour" = some (.ref (He.ga K "NoHour"))
  glo_NoName : mg "NoName" = some (.ref (He.ga K "NoName"))
  exc_NoNumber : Dy.ExcC K mg "NoNumber"
  exc_NoName : Dy.ExcC K mg "NoName"
  xf : ExF K mg xks xcs
  yr : YrC K (He.ga K "YardError")
  fx_NoHour : FxC K "NoHour" "hour"
  nl : noLst K = true
/-! ### the defs do so -/
section
variable {P : Program} {w : World} {K : PySem.W.Frag} {mg : Str → Option Value} {base : Heap} {f : Addr} {fd : FuncData}
theorem init_NoHour (M : Facts K mg) (Fn : FunD K "__init__" "NoHour.__init__" (defArgs si_NoHour) (defBody si_NoHour) (defScope si_NoHour) [] [] f fd) : FnOk P w K mg base (L2.CX P w) 1 f fd ["self", "hour"] (spI K "hour") :=
  init_ok (N := Ni_NoHour) Fn sci_NoHour fun cdv A outer s H E => init_body rfl M.glo_YardError M.yr rfl rfl (Or.inl rfl) (Or.inl rfl) (by decide) (by decide) (by decide) rfl rfl rfl rfl rfl rfl
theorem ok_is_whole (B : Blts mg blts) (M : Facts K mg)  (Fn : FunD K "is_whole" "is_whole" (defArgs s_is_whole) (defBody s_is_whole) (defScope s_is_whole) [] [] f fd) : FnOk P w K mg base (L2.CX P w) 1 f fd ["thing"] (spD K 1 f_is_whole) :=
  have nd := (sc_is_whole).nd
  ok_def (N := N_is_whole) Fn sc_is_whole rfl fun cdv A outer s H E hr tk hp =>
    sss_one (ss_ret (se_and (se_blt d_isi (B.at 1) (sa_cons (se_var 0) (sa_cons (se_ty (B.at 2)) (sa_nil)))) (se_one (se_not (se_blt d_isi (B.at 1) (sa_cons (se_var 0) (sa_cons (se_ty (B.at 0)) (sa_nil))))))))
theorem cal_is_whole (B : Blts mg blts) (M : Facts K mg)  (Fn : FunD K "is_whole" "is_whole" (defArgs s_is_whole) (defBody s_is_whole) (defScope s_is_whole) [] [] f fd) (hm : mg "is_whole" = some (.ref f)) : Cal P w K mg base "is_whole" 1 1 f_is_whole :=
  cal_mk (N := N_is_whole) (ps := ["thing"]) Fn hm (fun _ _ _ _ _ _ us hl => match us, hl with | [_], _ => rfl) (ok_is_whole B M  Fn)
theorem ok_divisor_of (B : Blts mg blts) (M : Facts K mg)  (Fn : FunD K "divisor_of" "divisor_of" (defArgs s_divisor_of) (defBody s_divisor_of) (defScope s_divisor_of) [] [] f fd) : FnOk P w K mg base (L2.CX P w) 1 f fd ["one", "other"] (spD K 2 f_divisor_of) :=
  have nd := (sc_divisor_of).nd
  ok_def (N := N_divisor_of) Fn sc_divisor_of rfl fun cdv A outer s H E hr tk hp =>
    sss_cons (ss_while hp (st_cmp (d_ne hr.units) (se_var 1) (se_int) (nomark _)) (sss_one (ss_par rfl nd (sa_cons (se_var 1) (sa_cons (se_op d_mod (se_var 0) (se_var 1)) (sa_nil))))))
    (sss_one (ss_ret (se_blt d_abs (B.at 3) (sa_cons (se_var 0) (sa_nil)))))
theorem cal_divisor_of (B : Blts mg blts) (M : Facts K mg)  (Fn : FunD K "divisor_of" "divisor_of" (defArgs s_divisor_of) (defBody s_divisor_of) (defScope s_divisor_of) [] [] f fd) (hm : mg "divisor_of" = some (.ref f)) : Cal P w K mg base "divisor_of" 1 2 f_divisor_of :=
  cal_mk (N := N_divisor_of) (ps := ["one", "other"]) Fn hm (fun _ _ _ _ _ _ us hl => match us, hl with | [_, _], _ => rfl) (ok_divisor_of B M  Fn)
theorem ok_ratio_of (B : Blts mg blts) (M : Facts K mg) (C_is_whole : Cal P w K mg base "is_whole" 1 1 f_is_whole) (C_divisor_of : Cal P w K mg base "divisor_of" 1 2 f_divisor_of) (Fn : FunD K "ratio_of" "ratio_of" (defArgs s_ratio_of) (defBody s_ratio_of) (defScope s_ratio_of) [] [] f fd) : FnOk P w K mg base (L2.CX P w) 2 f fd ["top", "bottom"] (spD K 2 f_ratio_of) :=
  have nd := (sc_ratio_of).nd
  ok_def (N := N_ratio_of) Fn sc_ratio_of rfl fun cdv A outer s H E hr tk hp =>
    sss_cons (ss_if (st_bool (sw_or (st_not (st_val (se_callC C_is_whole tk (hr.mono (by decide)) (sa_cons (se_var 0) (sa_nil))))) (sw_or (st_not (st_val (se_callC C_is_whole tk (hr.mono (by decide)) (sa_cons (se_var 1) (sa_nil))))) (sw_or1 (st_cmp (d_eq hr.units) (se_var 1) (se_int) (nomark _)))))) (sss_one (ss_raise0 M.exc_NoNumber rfl tk)) (sss_nil))
    (sss_cons (ss_set nd (se_callC C_divisor_of tk (hr.mono (by decide)) (sa_cons (se_var 0) (sa_cons (se_var 1) (sa_nil)))))
    (sss_cons (ss_if (st_cmp (d_lt) (se_var 1) (se_int) (nomark _)) (sss_one (ss_set nd (se_un d_neg (se_var 2)))) (sss_nil))
    (sss_one (ss_ret (se_tup (sa_cons (se_op d_div (se_var 0) (se_var 2)) (sa_cons (se_op d_div (se_var 1) (se_var 2)) (sa_nil))))))))
theorem cal_ratio_of (B : Blts mg blts) (M : Facts K mg) (C_is_whole : Cal P w K mg base "is_whole" 1 1 f_is_whole) (C_divisor_of : Cal P w K mg base "divisor_of" 1 2 f_divisor_of) (Fn : FunD K "ratio_of" "ratio_of" (defArgs s_ratio_of) (defBody s_ratio_of) (defScope s_ratio_of) [] [] f fd) (hm : mg "ratio_of" = some (.ref f)) : Cal P w K mg base "ratio_of" 2 2 f_ratio_of :=
  cal_mk (N := N_ratio_of) (ps := ["top", "bottom"]) Fn hm (fun _ _ _ _ _ _ us hl => match us, hl with | [_, _], _ => rfl) (ok_ratio_of B M C_is_whole C_divisor_of Fn)
theorem ok_ratio_sum (B : Blts mg blts) (M : Facts K mg) (C_ratio_of : Cal P w K mg base "ratio_of" 2 2 f_ratio_of) (Fn : FunD K "ratio_sum" "ratio_sum" (defArgs s_ratio_sum) (defBody s_ratio_sum) (defScope s_ratio_sum) [] [] f fd) : FnOk P w K mg base (L2.CX P w) 3 f fd ["one", "other"] (spD K 2 f_ratio_sum) :=
  have nd := (sc_ratio_sum).nd
  ok_def (N := N_ratio_sum) Fn sc_ratio_sum rfl fun cdv A outer s H E hr tk hp =>
    sss_one (ss_ret (se_callC C_ratio_of tk (hr.mono (by decide)) (sa_cons (se_op d_add (se_op d_mul (se_ix d_ix (se_var 0) (se_int)) (se_ix d_ix (se_var 1) (se_int))) (se_op d_mul (se_ix d_ix (se_var 1) (se_int)) (se_ix d_ix (se_var 0) (se_int)))) (sa_cons (se_op d_mul (se_ix d_ix (se_var 0) (se_int)) (se_ix d_ix (se_var 1) (se_int))) (sa_nil)))))
theorem cal_ratio_sum (B : Blts mg blts) (M : Facts K mg) (C_ratio_of : Cal P w K mg base "ratio_of" 2 2 f_ratio_of) (Fn : FunD K "ratio_sum" "ratio_sum" (defArgs s_ratio_sum) (defBody s_ratio_sum) (defScope s_ratio_sum) [] [] f fd) (hm : mg "ratio_sum" = some (.ref f)) : Cal P w K mg base "ratio_sum" 3 2 f_ratio_sum :=
  cal_mk (N := N_ratio_sum) (ps := ["one", "other"]) Fn hm (fun _ _ _ _ _ _ us hl => match us, hl with | [_, _], _ => rfl) (ok_ratio_sum B M C_ratio_of Fn)
theorem ok_ratio_less (B : Blts mg blts) (M : Facts K mg) (C_ratio_of : Cal P w K mg base "ratio_of" 2 2 f_ratio_of) (Fn : FunD K "ratio_less" "ratio_less" (defArgs s_ratio_less) (defBody s_ratio_less) (defScope s_ratio_less) [] [] f fd) : FnOk P w K mg base (L2.CX P w) 3 f fd ["one", "other"] (spD K 2 f_ratio_less) :=
  have nd := (sc_ratio_less).nd
  ok_def (N := N_ratio_less) Fn sc_ratio_less rfl fun cdv A outer s H E hr tk hp =>
    sss_one (ss_ret (se_callC C_ratio_of tk (hr.mono (by decide)) (sa_cons (se_op d_sub (se_op d_mul (se_ix d_ix (se_var 0) (se_int)) (se_ix d_ix (se_var 1) (se_int))) (se_op d_mul (se_ix d_ix (se_var 1) (se_int)) (se_ix d_ix (se_var 0) (se_int)))) (sa_cons (se_op d_mul (se_ix d_ix (se_var 0) (se_int)) (se_ix d_ix (se_var 1) (se_int))) (sa_nil)))))
theorem cal_ratio_less (B : Blts mg blts) (M : Facts K mg) (C_ratio_of : Cal P w K mg base "ratio_of" 2 2 f_ratio_of) (Fn : FunD K "ratio_less" "ratio_less" (defArgs s_ratio_less) (defBody s_ratio_less) (defScope s_ratio_less) [] [] f fd) (hm : mg "ratio_less" = some (.ref f)) : Cal P w K mg base "ratio_less" 3 2 f_ratio_less :=
  cal_mk (N := N_ratio_less) (ps := ["one", "other"]) Fn hm (fun _ _ _ _ _ _ us hl => match us, hl with | [_, _], _ => rfl) (ok_ratio_less B M C_ratio_of Fn)
theorem ok_ratio_times (B : Blts mg blts) (M : Facts K mg) (C_ratio_of : Cal P w K mg base "ratio_of" 2 2 f_ratio_of) (Fn : FunD K "ratio_times" "ratio_times" (defArgs s_ratio_times) (defBody s_ratio_times) (defScope s_ratio_times) [] [] f fd) : FnOk P w K mg base (L2.CX P w) 3 f fd ["one", "other"] (spD K 2 f_ratio_times) :=
  have nd := (sc_ratio_times).nd
  ok_def (N := N_ratio_times) Fn sc_ratio_times rfl fun cdv A outer s H E hr tk hp =>
    sss_one (ss_ret (se_callC C_ratio_of tk (hr.mono (by decide)) (sa_cons (se_op d_mul (se_ix d_ix (se_var 0) (se_int)) (se_ix d_ix (se_var 1) (se_int))) (sa_cons (se_op d_mul (se_ix d_ix (se_var 0) (se_int)) (se_ix d_ix (se_var 1) (se_int))) (sa_nil)))))
theorem cal_ratio_times (B : Blts mg blts) (M : Facts K mg) (C_ratio_of : Cal P w K mg base "ratio_of" 2 2 f_ratio_of) (Fn : FunD K "ratio_times" "ratio_times" (defArgs s_ratio_times) (defBody s_ratio_times) (defScope s_ratio_times) [] [] f fd) (hm : mg "ratio_times" = some (.ref f)) : Cal P w K mg base "ratio_times" 3 2 f_ratio_times :=
  cal_mk (N := N_ratio_times) (ps := ["one", "other"]) Fn hm (fun _ _ _ _ _ _ us hl => match us, hl with | [_, _], _ => rfl) (ok_ratio_times B M C_ratio_of Fn)
theorem ok_ratio_by (B : Blts mg blts) (M : Facts K mg) (C_ratio_of : Cal P w K mg base "ratio_of" 2 2 f_ratio_of) (Fn : FunD K "ratio_by" "ratio_by" (defArgs s_ratio_by) (defBody s_ratio_by) (defScope s_ratio_by) [] [] f fd) : FnOk P w K mg base (L2.CX P w) 3 f fd ["one", "other"] (spD K 2 f_ratio_by) :=
  have nd := (sc_ratio_by).nd
  ok_def (N := N_ratio_by) Fn sc_ratio_by rfl fun cdv A outer s H E hr tk hp =>
    sss_one (ss_ret (se_callC C_ratio_of tk (hr.mono (by decide)) (sa_cons (se_op d_mul (se_ix d_ix (se_var 0) (se_int)) (se_ix d_ix (se_var 1) (se_int))) (sa_cons (se_op d_mul (se_ix d_ix (se_var 0) (se_int)) (se_ix d_ix (se_var 1) (se_int))) (sa_nil)))))
theorem cal_ratio_by (B : Blts mg blts) (M : Facts K mg) (C_ratio_of : Cal P w K mg base "ratio_of" 2 2 f_ratio_of) (Fn : FunD K "ratio_by" "ratio_by" (defArgs s_ratio_by) (defBody s_ratio_by) (defScope s_ratio_by) [] [] f fd) (hm : mg "ratio_by" = some (.ref f)) : Cal P w K mg base "ratio_by" 3 2 f_ratio_by :=
  cal_mk (N := N_ratio_by) (ps := ["one", "other"]) Fn hm (fun _ _ _ _ _ _ us hl => match us, hl with | [_, _], _ => rfl) (ok_ratio_by B M C_ratio_of Fn)
theorem ok_is_under (B : Blts mg blts) (M : Facts K mg)  (Fn : FunD K "is_under" "is_under" (defArgs s_is_under) (defBody s_is_under) (defScope s_is_under) [] [] f fd) : FnOk P w K mg base (L2.CX P w) 1 f fd ["one", "other"] (spD K 2 f_is_under) :=
  have nd := (sc_is_under).nd
  ok_def (N := N_is_under) Fn sc_is_under rfl fun cdv A outer s H E hr tk hp =>
    sss_one (ss_ret (se_cmp (d_lt) (se_op d_mul (se_ix d_ix (se_var 0) (se_int)) (se_ix d_ix (se_var 1) (se_int))) (se_op d_mul (se_ix d_ix (se_var 1) (se_int)) (se_ix d_ix (se_var 0) (se_int))) (nomark _)))
theorem cal_is_under (B : Blts mg blts) (M : Facts K mg)  (Fn : FunD K "is_under" "is_under" (defArgs s_is_under) (defBody s_is_under) (defScope s_is_under) [] [] f fd) (hm : mg "is_under" = some (.ref f)) : Cal P w K mg base "is_under" 1 2 f_is_under :=
  cal_mk (N := N_is_under) (ps := ["one", "other"]) Fn hm (fun _ _ _ _ _ _ us hl => match us, hl with | [_, _], _ => rfl) (ok_is_under B M  Fn)
theorem ok_dot_of (B : Blts mg blts) (M : Facts K mg)  (Fn : FunD K "dot_of" "dot_of" (defArgs s_dot_of) (defBody s_dot_of) (defScope s_dot_of) [] [] f fd) : FnOk P w K mg base (L2.CX P w) 1 f fd ["one", "other"] (spD K 2 f_dot_of) :=
  have nd := (sc_dot_of).nd
  ok_def (N := N_dot_of) Fn sc_dot_of rfl fun cdv A outer s H E hr tk hp =>
    sss_one (ss_ret (se_op d_add (se_op d_add (se_op d_mul (se_ix d_ix (se_var 0) (se_int)) (se_ix d_ix (se_var 1) (se_int))) (se_op d_mul (se_ix d_ix (se_var 0) (se_int)) (se_ix d_ix (se_var 1) (se_int)))) (se_op d_mul (se_ix d_ix (se_var 0) (se_int)) (se_ix d_ix (se_var 1) (se_int)))))
theorem cal_dot_of (B : Blts mg blts) (M : Facts K mg)  (Fn : FunD K "dot_of" "dot_of" (defArgs s_dot_of) (defBody s_dot_of) (defScope s_dot_of) [] [] f fd) (hm : mg "dot_of" = some (.ref f)) : Cal P w K mg base "dot_of" 1 2 f_dot_of :=
  cal_mk (N := N_dot_of) (ps := ["one", "other"]) Fn hm (fun _ _ _ _ _ _ us hl => match us, hl with | [_, _], _ => rfl) (ok_dot_of B M  Fn)
theorem ok_cross_of (B : Blts mg blts) (M : Facts K mg)  (Fn : FunD K "cross_of" "cross_of" (defArgs s_cross_of) (defBody s_cross_of) (defScope s_cross_of) [] [] f fd) : FnOk P w K mg base (L2.CX P w) 1 f fd ["one", "other"] (spD K 2 f_cross_of) :=
  have nd := (sc_cross_of).nd
  ok_def (N := N_cross_of) Fn sc_cross_of rfl fun cdv A outer s H E hr tk hp =>
    sss_cons (ss_asg (se_var 0) (pg_seq rfl (pgs_cons (pg_name (i := 2) nd rfl (by first | exact Or.inl rfl | exact Or.inr rfl)) (pgs_cons (pg_name (i := 3) nd rfl (by first | exact Or.inl rfl | exact Or.inr rfl)) (pgs_cons (pg_name (i := 4) nd rfl (by first | exact Or.inl rfl | exact Or.inr rfl)) (pgs_nil))))) (tg_seq (tgs_cons (tg_name 2) (tgs_cons (tg_name 3) (tgs_cons (tg_name 4) (tgs_nil))))))
    (sss_cons (ss_asg (se_var 1) (pg_seq rfl (pgs_cons (pg_name (i := 5) nd rfl (by first | exact Or.inl rfl | exact Or.inr rfl)) (pgs_cons (pg_name (i := 6) nd rfl (by first | exact Or.inl rfl | exact Or.inr rfl)) (pgs_cons (pg_name (i := 7) nd rfl (by first | exact Or.inl rfl | exact Or.inr rfl)) (pgs_nil))))) (tg_seq (tgs_cons (tg_name 5) (tgs_cons (tg_name 6) (tgs_cons (tg_name 7) (tgs_nil))))))
    (sss_one (ss_ret (se_tup (sa_cons (se_op d_sub (se_op d_mul (se_var 3) (se_var 7)) (se_op d_mul (se_var 4) (se_var 6))) (sa_cons (se_op d_sub (se_op d_mul (se_var 4) (se_var 5)) (se_op d_mul (se_var 2) (se_var 7))) (sa_cons (se_op d_sub (se_op d_mul (se_var 2) (se_var 6)) (se_op d_mul (se_var 3) (se_var 5))) (sa_nil))))))))
theorem cal_cross_of (B : Blts mg blts) (M : Facts K mg)  (Fn : FunD K "cross_of" "cross_of" (defArgs s_cross_of) (defBody s_cross_of) (defScope s_cross_of) [] [] f fd) (hm : mg "cross_of" = some (.ref f)) : Cal P w K mg base "cross_of" 1 2 f_cross_of :=
  cal_mk (N := N_cross_of) (ps := ["one", "other"]) Fn hm (fun _ _ _ _ _ _ us hl => match us, hl with | [_, _], _ => rfl) (ok_cross_of B M  Fn)
theorem ok_direction_at (B : Blts mg blts) (M : Facts K mg) (I_NoHour : InC P w K mg base "NoHour" "hour")  (Fn : FunD K "direction_at" "direction_at" (defArgs s_direction_at) (defBody s_direction_at) (defScope s_direction_at) [] [] f fd) : FnOk P w K mg base (L2.CX P w) 3 f fd ["sun", "hour"] (spD K 2 f_direction_at) :=
  have nd := (sc_direction_at).nd
  ok_def (N := N_direction_at) Fn sc_direction_at rfl fun cdv A outer s H E hr tk hp =>
    sss_cons (ss_for hp rfl (si_any (se_var 0)) (pg_seq rfl (pgs_cons (pg_name (i := 2) nd rfl (by first | exact Or.inl rfl | exact Or.inr rfl)) (pgs_cons (pg_name (i := 3) nd rfl (by first | exact Or.inl rfl | exact Or.inr rfl)) (pgs_nil)))) (tg_seq (tgs_cons (tg_name 2) (tgs_cons (tg_name 3) (tgs_nil)))) (sss_one (ss_if (st_cmp (d_eq hr.units) (se_var 2) (se_var 1) (nomark _)) (sss_one (ss_ret (se_var 3))) (sss_nil))))
    (sss_one (ss_raiseF I_NoHour rfl tk (hr.mono (by decide)) (sa_cons (se_var 1) (sa_nil))))
theorem cal_direction_at (B : Blts mg blts) (M : Facts K mg) (I_NoHour : InC P w K mg base "NoHour" "hour")  (Fn : FunD K "direction_at" "direction_at" (defArgs s_direction_at) (defBody s_direction_at) (defScope s_direction_at) [] [] f fd) (hm : mg "direction_at" = some (.ref f)) : Cal P w K mg base "direction_at" 3 2 f_direction_at :=
  cal_mk (N := N_direction_at) (ps := ["sun", "hour"]) Fn hm (fun _ _ _ _ _ _ us hl => match us, hl with | [_, _], _ => rfl) (ok_direction_at B M I_NoHour Fn)
theorem ok_is_up (B : Blts mg blts) (M : Facts K mg) (C_direction_at : Cal P w K mg base "direction_at" 3 2 f_direction_at) (Fn : FunD K "is_up" "is_up" (defArgs s_is_up) (defBody s_is_up) (defScope s_is_up) [] [] f fd) : FnOk P w K mg base (L2.CX P w) 4 f fd ["sun", "hour"] (spD K 2 f_is_up) :=
  have nd := (sc_is_up).nd
  ok_def (N := N_is_up) Fn sc_is_up rfl fun cdv A outer s H E hr tk hp =>
    sss_one (ss_ret (se_cmp (d_gt) (se_ix d_ix (se_callC C_direction_at tk (hr.mono (by decide)) (sa_cons (se_var 0) (sa_cons (se_var 1) (sa_nil)))) (se_int)) (se_int) (nomark _)))
theorem cal_is_up (B : Blts mg blts) (M : Facts K mg) (C_direction_at : Cal P w K mg base "direction_at" 3 2 f_direction_at) (Fn : FunD K "is_up" "is_up" (defArgs s_is_up) (defBody s_is_up) (defScope s_is_up) [] [] f fd) (hm : mg "is_up" = some (.ref f)) : Cal P w K mg base "is_up" 4 2 f_is_up :=
  cal_mk (N := N_is_up) (ps := ["sun", "hour"]) Fn hm (fun _ _ _ _ _ _ us hl => match us, hl with | [_, _], _ => rfl) (ok_is_up B M C_direction_at Fn)
theorem ok_front_of (B : Blts mg blts) (M : Facts K mg) (C_cross_of : Cal P w K mg base "cross_of" 1 2 f_cross_of) (Fn : FunD K "front_of" "front_of" (defArgs s_front_of) (defBody s_front_of) (defScope s_front_of) [] [] f fd) : FnOk P w K mg base (L2.CX P w) 2 f fd ["plate"] (spD K 1 f_front_of) :=
  have nd := (sc_front_of).nd
  ok_def (N := N_front_of) Fn sc_front_of rfl fun cdv A outer s H E hr tk hp =>
    sss_one (ss_ret (se_callC C_cross_of tk (hr.mono (by decide)) (sa_cons (se_ix d_ix (se_var 0) (se_int)) (sa_cons (se_ix d_ix (se_var 0) (se_int)) (sa_nil)))))
theorem cal_front_of (B : Blts mg blts) (M : Facts K mg) (C_cross_of : Cal P w K mg base "cross_of" 1 2 f_cross_of) (Fn : FunD K "front_of" "front_of" (defArgs s_front_of) (defBody s_front_of) (defScope s_front_of) [] [] f fd) (hm : mg "front_of" = some (.ref f)) : Cal P w K mg base "front_of" 2 1 f_front_of :=
  cal_mk (N := N_front_of) (ps := ["plate"]) Fn hm (fun _ _ _ _ _ _ us hl => match us, hl with | [_], _ => rfl) (ok_front_of B M C_cross_of Fn)
theorem ok_point_of (B : Blts mg blts) (M : Facts K mg) (C_ratio_times : Cal P w K mg base "ratio_times" 3 2 f_ratio_times) (C_ratio_of : Cal P w K mg base "ratio_of" 2 2 f_ratio_of) (C_ratio_sum : Cal P w K mg base "ratio_sum" 3 2 f_ratio_sum) (Fn : FunD K "point_of" "point_of" (defArgs s_point_of) (defBody s_point_of) (defScope s_point_of) [] [] f fd) : FnOk P w K mg base (L2.CX P w) 4 f fd ["plate", "place"] (spD K 2 f_point_of) :=
  have nd := (sc_point_of).nd
  ok_def (N := N_point_of) Fn sc_point_of rfl fun cdv A outer s H E hr tk hp =>
    sss_cons (ss_own nd (sa_nil))
    (sss_cons (ss_for hp rfl (si_range1 (B.at 4) (sa_cons (se_int) (sa_nil))) (pg_name (i := 3) nd rfl (by first | exact Or.inl rfl | exact Or.inr rfl)) (tg_name 3) (sss_cons (ss_set nd (se_callC C_ratio_times tk (hr.mono (by decide)) (sa_cons (se_ix d_ix (se_var 1) (se_int)) (sa_cons (se_callC C_ratio_of tk (hr.mono (by decide)) (sa_cons (se_ix d_ix (se_ix d_ix (se_var 0) (se_int)) (se_var 3)) (sa_cons (se_int) (sa_nil)))) (sa_nil)))))
     (sss_cons (ss_set nd (se_callC C_ratio_times tk (hr.mono (by decide)) (sa_cons (se_ix d_ix (se_var 1) (se_int)) (sa_cons (se_callC C_ratio_of tk (hr.mono (by decide)) (sa_cons (se_ix d_ix (se_ix d_ix (se_var 0) (se_int)) (se_var 3)) (sa_cons (se_int) (sa_nil)))) (sa_nil)))))
     (sss_one (ss_app 2 (se_callC C_ratio_sum tk (hr.mono (by decide)) (sa_cons (se_callC C_ratio_of tk (hr.mono (by decide)) (sa_cons (se_ix d_ix (se_ix d_ix (se_var 0) (se_int)) (se_var 3)) (sa_cons (se_int) (sa_nil)))) (sa_cons (se_callC C_ratio_sum tk (hr.mono (by decide)) (sa_cons (se_var 4) (sa_cons (se_var 5) (sa_nil)))) (sa_nil)))))))))
    (sss_one (ss_freeze 2 (ss_ret (se_bty d_tuple (B.at 5) (sa_cons (se_var 2) (sa_nil)))))))
theorem cal_point_of (B : Blts mg blts) (M : Facts K mg) (C_ratio_times : Cal P w K mg base "ratio_times" 3 2 f_ratio_times) (C_ratio_of : Cal P w K mg base "ratio_of" 2 2 f_ratio_of) (C_ratio_sum : Cal P w K mg base "ratio_sum" 3 2 f_ratio_sum) (Fn : FunD K "point_of" "point_of" (defArgs s_point_of) (defBody s_point_of) (defScope s_point_of) [] [] f fd) (hm : mg "point_of" = some (.ref f)) : Cal P w K mg base "point_of" 4 2 f_point_of :=
  cal_mk (N := N_point_of) (ps := ["plate", "place"]) Fn hm (fun _ _ _ _ _ _ us hl => match us, hl with | [_, _], _ => rfl) (ok_point_of B M C_ratio_times C_ratio_of C_ratio_sum Fn)
theorem ok_lies_on (B : Blts mg blts) (M : Facts K mg) (C_is_under : Cal P w K mg base "is_under" 1 2 f_is_under) (Fn : FunD K "lies_on" "lies_on" (defArgs s_lies_on) (defBody s_lies_on) (defScope s_lies_on) [] [] f fd) : FnOk P w K mg base (L2.CX P w) 2 f fd ["place"] (spD K 1 f_lies_on) :=
  have nd := (sc_lies_on).nd
  ok_def (N := N_lies_on) Fn sc_lies_on rfl fun cdv A outer s H E hr tk hp =>
    sss_cons (ss_for hp rfl (si_any (se_var 0)) (pg_name (i := 1) nd rfl (by first | exact Or.inl rfl | exact Or.inr rfl)) (tg_name 1) (sss_one (ss_if (st_bool (sw_or (st_val (se_callC C_is_under tk (hr.mono (by decide)) (sa_cons (se_var 1) (sa_cons (se_tup (sa_cons (se_int) (sa_cons (se_int) (sa_nil)))) (sa_nil))))) (sw_or1 (st_val (se_callC C_is_under tk (hr.mono (by decide)) (sa_cons (se_tup (sa_cons (se_int) (sa_cons (se_int) (sa_nil)))) (sa_cons (se_var 1) (sa_nil)))))))) (sss_one (ss_ret (se_bl))) (sss_nil))))
    (sss_one (ss_ret (se_bl)))
theorem cal_lies_on (B : Blts mg blts) (M : Facts K mg) (C_is_under : Cal P w K mg base "is_under" 1 2 f_is_under) (Fn : FunD K "lies_on" "lies_on" (defArgs s_lies_on) (defBody s_lies_on) (defScope s_lies_on) [] [] f fd) (hm : mg "lies_on" = some (.ref f)) : Cal P w K mg base "lies_on" 2 1 f_lies_on :=
  cal_mk (N := N_lies_on) (ps := ["place"]) Fn hm (fun _ _ _ _ _ _ us hl => match us, hl with | [_], _ => rfl) (ok_lies_on B M C_is_under Fn)
theorem ok_comes_from_ahead (B : Blts mg blts) (M : Facts K mg) (C_dot_of : Cal P w K mg base "dot_of" 1 2 f_dot_of) (C_front_of : Cal P w K mg base "front_of" 2 1 f_front_of) (Fn : FunD K "comes_from_ahead" "comes_from_ahead" (defArgs s_comes_from_ahead) (defBody s_comes_from_ahead) (defScope s_comes_from_ahead) [] [] f fd) : FnOk P w K mg base (L2.CX P w) 3 f fd ["plate", "direction"] (spD K 2 f_comes_from_ahead) :=
  have nd := (sc_comes_from_ahead).nd
  ok_def (N := N_comes_from_ahead) Fn sc_comes_from_ahead rfl fun cdv A outer s H E hr tk hp =>
    sss_one (ss_ret (se_cmp (d_gt) (se_callC C_dot_of tk (hr.mono (by decide)) (sa_cons (se_callC C_front_of tk (hr.mono (by decide)) (sa_cons (se_var 0) (sa_nil))) (sa_cons (se_var 1) (sa_nil)))) (se_int) (nomark _)))
theorem cal_comes_from_ahead (B : Blts mg blts) (M : Facts K mg) (C_dot_of : Cal P w K mg base "dot_of" 1 2 f_dot_of) (C_front_of : Cal P w K mg base "front_of" 2 1 f_front_of) (Fn : FunD K "comes_from_ahead" "comes_from_ahead" (defArgs s_comes_from_ahead) (defBody s_comes_from_ahead) (defScope s_comes_from_ahead) [] [] f fd) (hm : mg "comes_from_ahead" = some (.ref f)) : Cal P w K mg base "comes_from_ahead" 3 2 f_comes_from_ahead :=
  cal_mk (N := N_comes_from_ahead) (ps := ["plate", "direction"]) Fn hm (fun _ _ _ _ _ _ us hl => match us, hl with | [_, _], _ => rfl) (ok_comes_from_ahead B M C_dot_of C_front_of Fn)
theorem ok_as_point (B : Blts mg blts) (M : Facts K mg)  (Fn : FunD K "as_point" "as_point" (defArgs s_as_point) (defBody s_as_point) (defScope s_as_point) [] [] f fd) : FnOk P w K mg base (L2.CX P w) 1 f fd ["triple"] (spD K 1 f_as_point) :=
  have nd := (sc_as_point).nd
  ok_def (N := N_as_point) Fn sc_as_point rfl fun cdv A outer s H E hr tk hp =>
    sss_one (ss_ret (se_tup (sa_cons (se_tup (sa_cons (se_ix d_ix (se_var 0) (se_int)) (sa_cons (se_int) (sa_nil)))) (sa_cons (se_tup (sa_cons (se_ix d_ix (se_var 0) (se_int)) (sa_cons (se_int) (sa_nil)))) (sa_cons (se_tup (sa_cons (se_ix d_ix (se_var 0) (se_int)) (sa_cons (se_int) (sa_nil)))) (sa_nil))))))
theorem cal_as_point (B : Blts mg blts) (M : Facts K mg)  (Fn : FunD K "as_point" "as_point" (defArgs s_as_point) (defBody s_as_point) (defScope s_as_point) [] [] f fd) (hm : mg "as_point" = some (.ref f)) : Cal P w K mg base "as_point" 1 1 f_as_point :=
  cal_mk (N := N_as_point) (ps := ["triple"]) Fn hm (fun _ _ _ _ _ _ us hl => match us, hl with | [_], _ => rfl) (ok_as_point B M  Fn)
theorem ok_point_less (B : Blts mg blts) (M : Facts K mg) (C_ratio_less : Cal P w K mg base "ratio_less" 3 2 f_ratio_less) (Fn : FunD K "point_less" "point_less" (defArgs s_point_less) (defBody s_point_less) (defScope s_point_less) [] [] f fd) : FnOk P w K mg base (L2.CX P w) 4 f fd ["one", "other"] (spD K 2 f_point_less) :=
  have nd := (sc_point_less).nd
  ok_def (N := N_point_less) Fn sc_point_less rfl fun cdv A outer s H E hr tk hp =>
    sss_one (ss_ret (se_bty d_tuple (B.at 5) (sa_cons (se_comp (own := [("here", 2), ("there", 3)]) rfl nd (blkOk_by (N := N_point_less) (sc := defScope s_point_less) (by decide +kernel)) (si_zip (B.at 6) (sa_cons (se_var 0) (sa_cons (se_var 1) (sa_nil)))) (tg_seq (tgs_cons (tg_name 2) (tgs_cons (tg_name 3) (tgs_nil)))) (fun _ _ _ _ _ => pg_seq rfl (pgs_cons (pg_name (i := 2) nd rfl (by first | exact Or.inl rfl | exact Or.inr rfl)) (pgs_cons (pg_name (i := 3) nd rfl (by first | exact Or.inl rfl | exact Or.inr rfl)) (pgs_nil)))) (fun _ _ _ _ _ => sif_nil) (fun _ _ _ _ _ => se_callC C_ratio_less takes0 (hr.mono (by decide)) (sa_cons (se_var 2) (sa_cons (se_tup (sa_cons (se_var 3) (sa_cons (se_int) (sa_nil)))) (sa_nil))))) (sa_nil))))
theorem cal_point_less (B : Blts mg blts) (M : Facts K mg) (C_ratio_less : Cal P w K mg base "ratio_less" 3 2 f_ratio_less) (Fn : FunD K "point_less" "point_less" (defArgs s_point_less) (defBody s_point_less) (defScope s_point_less) [] [] f fd) (hm : mg "point_less" = some (.ref f)) : Cal P w K mg base "point_less" 4 2 f_point_less :=
  cal_mk (N := N_point_less) (ps := ["one", "other"]) Fn hm (fun _ _ _ _ _ _ us hl => match us, hl with | [_, _], _ => rfl) (ok_point_less B M C_ratio_less Fn)
theorem ok_point_dot (B : Blts mg blts) (M : Facts K mg) (C_ratio_sum : Cal P w K mg base "ratio_sum" 3 2 f_ratio_sum) (C_ratio_times : Cal P w K mg base "ratio_times" 3 2 f_ratio_times) (Fn : FunD K "point_dot" "point_dot" (defArgs s_point_dot) (defBody s_point_dot) (defScope s_point_dot) [] [] f fd) : FnOk P w K mg base (L2.CX P w) 4 f fd ["point", "triple"] (spD K 2 f_point_dot) :=
  have nd := (sc_point_dot).nd
  ok_def (N := N_point_dot) Fn sc_point_dot rfl fun cdv A outer s H E hr tk hp =>
    sss_cons (ss_set nd (se_tup (sa_cons (se_int) (sa_cons (se_int) (sa_nil)))))
    (sss_cons (ss_for hp rfl (si_zip (B.at 6) (sa_cons (se_var 0) (sa_cons (se_var 1) (sa_nil)))) (pg_seq rfl (pgs_cons (pg_name (i := 3) nd rfl (by first | exact Or.inl rfl | exact Or.inr rfl)) (pgs_cons (pg_name (i := 4) nd rfl (by first | exact Or.inl rfl | exact Or.inr rfl)) (pgs_nil)))) (tg_seq (tgs_cons (tg_name 3) (tgs_cons (tg_name 4) (tgs_nil)))) (sss_one (ss_set nd (se_callC C_ratio_sum tk (hr.mono (by decide)) (sa_cons (se_var 2) (sa_cons (se_callC C_ratio_times tk (hr.mono (by decide)) (sa_cons (se_var 3) (sa_cons (se_tup (sa_cons (se_var 4) (sa_cons (se_int) (sa_nil)))) (sa_nil)))) (sa_nil)))))))
    (sss_one (ss_ret (se_var 2))))
theorem cal_point_dot (B : Blts mg blts) (M : Facts K mg) (C_ratio_sum : Cal P w K mg base "ratio_sum" 3 2 f_ratio_sum) (C_ratio_times : Cal P w K mg base "ratio_times" 3 2 f_ratio_times) (Fn : FunD K "point_dot" "point_dot" (defArgs s_point_dot) (defBody s_point_dot) (defScope s_point_dot) [] [] f fd) (hm : mg "point_dot" = some (.ref f)) : Cal P w K mg base "point_dot" 4 2 f_point_dot :=
  cal_mk (N := N_point_dot) (ps := ["point", "triple"]) Fn hm (fun _ _ _ _ _ _ us hl => match us, hl with | [_, _], _ => rfl) (ok_point_dot B M C_ratio_sum C_ratio_times Fn)
theorem ok_meeting_of (B : Blts mg blts) (M : Facts K mg) (C_dot_of : Cal P w K mg base "dot_of" 1 2 f_dot_of) (C_front_of : Cal P w K mg base "front_of" 2 1 f_front_of) (C_point_less : Cal P w K mg base "point_less" 4 2 f_point_less) (C_ratio_by : Cal P w K mg base "ratio_by" 3 2 f_ratio_by) (C_point_dot : Cal P w K mg base "point_dot" 4 2 f_point_dot) (C_cross_of : Cal P w K mg base "cross_of" 1 2 f_cross_of) (Fn : FunD K "meeting_of" "meeting_of" (defArgs s_meeting_of) (defBody s_meeting_of) (defScope s_meeting_of) [] [] f fd) : FnOk P w K mg base (L2.CX P w) 5 f fd ["plate", "point", "direction"] (spD K 3 f_meeting_of) :=
  have nd := (sc_meeting_of).nd
  ok_def (N := N_meeting_of) Fn sc_meeting_of rfl fun cdv A outer s H E hr tk hp =>
    sss_cons (ss_asg (se_var 0) (pg_seq rfl (pgs_cons (pg_name (i := 3) nd rfl (by first | exact Or.inl rfl | exact Or.inr rfl)) (pgs_cons (pg_name (i := 4) nd rfl (by first | exact Or.inl rfl | exact Or.inr rfl)) (pgs_cons (pg_name (i := 5) nd rfl (by first | exact Or.inl rfl | exact Or.inr rfl)) (pgs_nil))))) (tg_seq (tgs_cons (tg_name 3) (tgs_cons (tg_name 4) (tgs_cons (tg_name 5) (tgs_nil))))))
    (sss_cons (ss_set nd (se_callC C_dot_of tk (hr.mono (by decide)) (sa_cons (se_callC C_front_of tk (hr.mono (by decide)) (sa_cons (se_var 0) (sa_nil))) (sa_cons (se_var 2) (sa_nil)))))
    (sss_cons (ss_if (st_cmp (d_eq hr.units) (se_var 6) (se_int) (nomark _)) (sss_one (ss_ret (se_non))) (sss_nil))
    (sss_cons (ss_set nd (se_callC C_point_less tk (hr.mono (by decide)) (sa_cons (se_var 1) (sa_cons (se_var 3) (sa_nil)))))
    (sss_cons (ss_set nd (se_callC C_ratio_by tk (hr.mono (by decide)) (sa_cons (se_callC C_point_dot tk (hr.mono (by decide)) (sa_cons (se_var 7) (sa_cons (se_callC C_cross_of tk (hr.mono (by decide)) (sa_cons (se_var 5) (sa_cons (se_var 2) (sa_nil)))) (sa_nil)))) (sa_cons (se_tup (sa_cons (se_var 6) (sa_cons (se_int) (sa_nil)))) (sa_nil)))))
    (sss_cons (ss_set nd (se_callC C_ratio_by tk (hr.mono (by decide)) (sa_cons (se_callC C_point_dot tk (hr.mono (by decide)) (sa_cons (se_var 7) (sa_cons (se_callC C_cross_of tk (hr.mono (by decide)) (sa_cons (se_var 2) (sa_cons (se_var 4) (sa_nil)))) (sa_nil)))) (sa_cons (se_tup (sa_cons (se_var 6) (sa_cons (se_int) (sa_nil)))) (sa_nil)))))
    (sss_one (ss_ret (se_tup (sa_cons (se_var 8) (sa_cons (se_var 9) (sa_nil)))))))))))
theorem cal_meeting_of (B : Blts mg blts) (M : Facts K mg) (C_dot_of : Cal P w K mg base "dot_of" 1 2 f_dot_of) (C_front_of : Cal P w K mg base "front_of" 2 1 f_front_of) (C_point_less : Cal P w K mg base "point_less" 4 2 f_point_less) (C_ratio_by : Cal P w K mg base "ratio_by" 3 2 f_ratio_by) (C_point_dot : Cal P w K mg base "point_dot" 4 2 f_point_dot) (C_cross_of : Cal P w K mg base "cross_of" 1 2 f_cross_of) (Fn : FunD K "meeting_of" "meeting_of" (defArgs s_meeting_of) (defBody s_meeting_of) (defScope s_meeting_of) [] [] f fd) (hm : mg "meeting_of" = some (.ref f)) : Cal P w K mg base "meeting_of" 5 3 f_meeting_of :=
  cal_mk (N := N_meeting_of) (ps := ["plate", "point", "direction"]) Fn hm (fun _ _ _ _ _ _ us hl => match us, hl with | [_, _, _], _ => rfl) (ok_meeting_of B M C_dot_of C_front_of C_point_less C_ratio_by C_point_dot C_cross_of Fn)
theorem ok_shadow_of (B : Blts mg blts) (M : Facts K mg) (C_comes_from_ahead : Cal P w K mg base "comes_from_ahead" 3 2 f_comes_from_ahead) (C_meeting_of : Cal P w K mg base "meeting_of" 5 3 f_meeting_of) (C_as_point : Cal P w K mg base "as_point" 1 1 f_as_point) (Fn : FunD K "shadow_of" "shadow_of" (defArgs s_shadow_of) (defBody s_shadow_of) (defScope s_shadow_of) [] [] f fd) : FnOk P w K mg base (L2.CX P w) 6 f fd ["plate", "tip", "direction"] (spD K 3 f_shadow_of) :=
  have nd := (sc_shadow_of).nd
  ok_def (N := N_shadow_of) Fn sc_shadow_of rfl fun cdv A outer s H E hr tk hp =>
    sss_cons (ss_if (st_not (st_val (se_callC C_comes_from_ahead tk (hr.mono (by decide)) (sa_cons (se_var 0) (sa_cons (se_var 2) (sa_nil)))))) (sss_one (ss_ret (se_non))) (sss_nil))
    (sss_one (ss_ret (se_callC C_meeting_of tk (hr.mono (by decide)) (sa_cons (se_var 0) (sa_cons (se_callC C_as_point tk (hr.mono (by decide)) (sa_cons (se_var 1) (sa_nil))) (sa_cons (se_var 2) (sa_nil)))))))
theorem cal_shadow_of (B : Blts mg blts) (M : Facts K mg) (C_comes_from_ahead : Cal P w K mg base "comes_from_ahead" 3 2 f_comes_from_ahead) (C_meeting_of : Cal P w K mg base "meeting_of" 5 3 f_meeting_of) (C_as_point : Cal P w K mg base "as_point" 1 1 f_as_point) (Fn : FunD K "shadow_of" "shadow_of" (defArgs s_shadow_of) (defBody s_shadow_of) (defScope s_shadow_of) [] [] f fd) (hm : mg "shadow_of" = some (.ref f)) : Cal P w K mg base "shadow_of" 6 3 f_shadow_of :=
  cal_mk (N := N_shadow_of) (ps := ["plate", "tip", "direction"]) Fn hm (fun _ _ _ _ _ _ us hl => match us, hl with | [_, _, _], _ => rfl) (ok_shadow_of B M C_comes_from_ahead C_meeting_of C_as_point Fn)
theorem ok_is_beyond (B : Blts mg blts) (M : Facts K mg) (C_front_of : Cal P w K mg base "front_of" 2 1 f_front_of) (C_point_dot : Cal P w K mg base "point_dot" 4 2 f_point_dot) (C_point_less : Cal P w K mg base "point_less" 4 2 f_point_less) (C_dot_of : Cal P w K mg base "dot_of" 1 2 f_dot_of) (C_is_under : Cal P w K mg base "is_under" 1 2 f_is_under) (Fn : FunD K "is_beyond" "is_beyond" (defArgs s_is_beyond) (defBody s_is_beyond) (defScope s_is_beyond) [] [] f fd) : FnOk P w K mg base (L2.CX P w) 5 f fd ["plate", "point", "direction"] (spD K 3 f_is_beyond) :=
  have nd := (sc_is_beyond).nd
  ok_def (N := N_is_beyond) Fn sc_is_beyond rfl fun cdv A outer s H E hr tk hp =>
    sss_cons (ss_set nd (se_callC C_front_of tk (hr.mono (by decide)) (sa_cons (se_var 0) (sa_nil))))
    (sss_cons (ss_set nd (se_callC C_point_dot tk (hr.mono (by decide)) (sa_cons (se_callC C_point_less tk (hr.mono (by decide)) (sa_cons (se_var 1) (sa_cons (se_ix d_ix (se_var 0) (se_int)) (sa_nil)))) (sa_cons (se_var 3) (sa_nil)))))
    (sss_cons (ss_if (st_cmp (d_gt) (se_callC C_dot_of tk (hr.mono (by decide)) (sa_cons (se_var 3) (sa_cons (se_var 2) (sa_nil)))) (se_int) (nomark _)) (sss_one (ss_ret (se_callC C_is_under tk (hr.mono (by decide)) (sa_cons (se_var 4) (sa_cons (se_tup (sa_cons (se_int) (sa_cons (se_int) (sa_nil)))) (sa_nil)))))) (sss_nil))
    (sss_one (ss_ret (se_callC C_is_under tk (hr.mono (by decide)) (sa_cons (se_tup (sa_cons (se_int) (sa_cons (se_int) (sa_nil)))) (sa_cons (se_var 4) (sa_nil))))))))
theorem cal_is_beyond (B : Blts mg blts) (M : Facts K mg) (C_front_of : Cal P w K mg base "front_of" 2 1 f_front_of) (C_point_dot : Cal P w K mg base "point_dot" 4 2 f_point_dot) (C_point_less : Cal P w K mg base "point_less" 4 2 f_point_less) (C_dot_of : Cal P w K mg base "dot_of" 1 2 f_dot_of) (C_is_under : Cal P w K mg base "is_under" 1 2 f_is_under) (Fn : FunD K "is_beyond" "is_beyond" (defArgs s_is_beyond) (defBody s_is_beyond) (defScope s_is_beyond) [] [] f fd) (hm : mg "is_beyond" = some (.ref f)) : Cal P w K mg base "is_beyond" 5 3 f_is_beyond :=
  cal_mk (N := N_is_beyond) (ps := ["plate", "point", "direction"]) Fn hm (fun _ _ _ _ _ _ us hl => match us, hl with | [_, _, _], _ => rfl) (ok_is_beyond B M C_front_of C_point_dot C_point_less C_dot_of C_is_under Fn)
theorem ok_hides_point (B : Blts mg blts) (M : Facts K mg) (C_meeting_of : Cal P w K mg base "meeting_of" 5 3 f_meeting_of) (C_is_beyond : Cal P w K mg base "is_beyond" 5 3 f_is_beyond) (C_lies_on : Cal P w K mg base "lies_on" 2 1 f_lies_on) (Fn : FunD K "hides_point" "hides_point" (defArgs s_hides_point) (defBody s_hides_point) (defScope s_hides_point) [] [] f fd) : FnOk P w K mg base (L2.CX P w) 6 f fd ["plate", "point", "direction"] (spD K 3 f_hides_point) :=
  have nd := (sc_hides_point).nd
  ok_def (N := N_hides_point) Fn sc_hides_point rfl fun cdv A outer s H E hr tk hp =>
    sss_cons (ss_set nd (se_callC C_meeting_of tk (hr.mono (by decide)) (sa_cons (se_var 0) (sa_cons (se_var 1) (sa_cons (se_var 2) (sa_nil))))))
    (sss_one (ss_ret (se_and (se_cmp (d_notN) (se_var 3) (se_non) (nomark _)) (se_and (se_callC C_lies_on tk (hr.mono (by decide)) (sa_cons (se_var 3) (sa_nil))) (se_one (se_callC C_is_beyond tk (hr.mono (by decide)) (sa_cons (se_var 0) (sa_cons (se_var 1) (sa_cons (se_var 2) (sa_nil))))))))))
theorem cal_hides_point (B : Blts mg blts) (M : Facts K mg) (C_meeting_of : Cal P w K mg base "meeting_of" 5 3 f_meeting_of) (C_is_beyond : Cal P w K mg base "is_beyond" 5 3 f_is_beyond) (C_lies_on : Cal P w K mg base "lies_on" 2 1 f_lies_on) (Fn : FunD K "hides_point" "hides_point" (defArgs s_hides_point) (defBody s_hides_point) (defScope s_hides_point) [] [] f fd) (hm : mg "hides_point" = some (.ref f)) : Cal P w K mg base "hides_point" 6 3 f_hides_point :=
  cal_mk (N := N_hides_point) (ps := ["plate", "point", "direction"]) Fn hm (fun _ _ _ _ _ _ us hl => match us, hl with | [_, _, _], _ => rfl) (ok_hides_point B M C_meeting_of C_is_beyond C_lies_on Fn)
theorem ok_dial_of (B : Blts mg blts) (M : Facts K mg)  (Fn : FunD K "dial_of" "dial_of" (defArgs s_dial_of) (defBody s_dial_of) (defScope s_dial_of) [] [] f fd) : FnOk P w K mg base (L2.CX P w) 1 f fd ["yard", "name"] (spD K 2 f_dial_of) :=
  have nd := (sc_dial_of).nd
  ok_def (N := N_dial_of) Fn sc_dial_of rfl fun cdv A outer s H E hr tk hp =>
    sss_cons (ss_for hp rfl (si_any (se_ix d_ix (se_var 0) (se_int))) (pg_name (i := 2) nd rfl (by first | exact Or.inl rfl | exact Or.inr rfl)) (tg_name 2) (sss_one (ss_if (st_cmp (d_eq hr.units) (se_ix d_ix (se_var 2) (se_int)) (se_var 1) (nomark _)) (sss_one (ss_ret (se_var 2))) (sss_nil))))
    (sss_one (ss_raise0 M.exc_NoName rfl tk))
theorem cal_dial_of (B : Blts mg blts) (M : Facts K mg)  (Fn : FunD K "dial_of" "dial_of" (defArgs s_dial_of) (defBody s_dial_of) (defScope s_dial_of) [] [] f fd) (hm : mg "dial_of" = some (.ref f)) : Cal P w K mg base "dial_of" 1 2 f_dial_of :=
  cal_mk (N := N_dial_of) (ps := ["yard", "name"]) Fn hm (fun _ _ _ _ _ _ us hl => match us, hl with | [_, _], _ => rfl) (ok_dial_of B M  Fn)
theorem ok_hiders (B : Blts mg blts) (M : Facts K mg) (C_hides_point : Cal P w K mg base "hides_point" 6 3 f_hides_point) (Fn : FunD K "hiders" "hiders" (defArgs s_hiders) (defBody s_hiders) (defScope s_hiders) [] [] f fd) : FnOk P w K mg base (L2.CX P w) 7 f fd ["yard", "name", "point", "direction"] (spD K 4 f_hiders) :=
  have nd := (sc_hiders).nd
  ok_def (N := N_hiders) Fn sc_hiders rfl fun cdv A outer s H E hr tk hp =>
    sss_cons (ss_own nd (sa_nil))
    (sss_cons (ss_for hp rfl (si_any (se_op d_add (se_ix d_ix (se_var 0) (se_int)) (se_ix d_ix (se_var 0) (se_int)))) (pg_name (i := 5) nd rfl (by first | exact Or.inl rfl | exact Or.inr rfl)) (tg_name 5) (sss_one (ss_if (st_bool (sw_and (st_cmp (d_ne hr.units) (se_ix d_ix (se_var 5) (se_int)) (se_var 1) (nomark _)) (sw_and1 (st_val (se_callC C_hides_point tk (hr.mono (by decide)) (sa_cons (se_ix d_ix (se_var 5) (se_int)) (sa_cons (se_var 2) (sa_cons (se_var 3) (sa_nil))))))))) (sss_one (ss_app 4 (se_ix d_ix (se_var 5) (se_int)))) (sss_nil))))
    (sss_one (ss_freeze 4 (ss_ret (se_blt d_sortS (B.at 7) (sa_cons (se_var 4) (sa_nil)))))))
theorem cal_hiders (B : Blts mg blts) (M : Facts K mg) (C_hides_point : Cal P w K mg base "hides_point" 6 3 f_hides_point) (Fn : FunD K "hiders" "hiders" (defArgs s_hiders) (defBody s_hiders) (defScope s_hiders) [] [] f fd) (hm : mg "hiders" = some (.ref f)) : Cal P w K mg base "hiders" 7 4 f_hiders :=
  cal_mk (N := N_hiders) (ps := ["yard", "name", "point", "direction"]) Fn hm (fun _ _ _ _ _ _ us hl => match us, hl with | [_, _, _, _], _ => rfl) (ok_hiders B M C_hides_point Fn)
theorem ok_told_at (B : Blts mg blts) (M : Facts K mg) (C_direction_at : Cal P w K mg base "direction_at" 3 2 f_direction_at) (C_dial_of : Cal P w K mg base "dial_of" 1 2 f_dial_of) (C_is_up : Cal P w K mg base "is_up" 4 2 f_is_up) (C_comes_from_ahead : Cal P w K mg base "comes_from_ahead" 3 2 f_comes_from_ahead) (C_shadow_of : Cal P w K mg base "shadow_of" 6 3 f_shadow_of) (C_lies_on : Cal P w K mg base "lies_on" 2 1 f_lies_on) (C_hiders : Cal P w K mg base "hiders" 7 4 f_hiders) (C_point_of : Cal P w K mg base "point_of" 4 2 f_point_of) (Fn : FunD K "told_at" "told_at" (defArgs s_told_at) (defBody s_told_at) (defScope s_told_at) [] [] f fd) : FnOk P w K mg base (L2.CX P w) 8 f fd ["yard", "hour", "name"] (spD K 3 f_told_at) :=
  have nd := (sc_told_at).nd
  ok_def (N := N_told_at) Fn sc_told_at rfl fun cdv A outer s H E hr tk hp =>
    sss_cons (ss_set nd (se_callC C_direction_at tk (hr.mono (by decide)) (sa_cons (se_ix d_ix (se_var 0) (se_int)) (sa_cons (se_var 1) (sa_nil)))))
    (sss_cons (ss_asg (se_callC C_dial_of tk (hr.mono (by decide)) (sa_cons (se_var 0) (sa_cons (se_var 2) (sa_nil)))) (pg_seq rfl (pgs_cons (pg_name (i := 4) nd rfl (by first | exact Or.inl rfl | exact Or.inr rfl)) (pgs_cons (pg_name (i := 5) nd rfl (by first | exact Or.inl rfl | exact Or.inr rfl)) (pgs_cons (pg_name (i := 6) nd rfl (by first | exact Or.inl rfl | exact Or.inr rfl)) (pgs_nil))))) (tg_seq (tgs_cons (tg_name 4) (tgs_cons (tg_name 5) (tgs_cons (tg_name 6) (tgs_nil))))))
    (sss_cons (ss_if (st_not (st_val (se_callC C_is_up tk (hr.mono (by decide)) (sa_cons (se_ix d_ix (se_var 0) (se_int)) (sa_cons (se_var 1) (sa_nil)))))) (sss_one (ss_ret (se_tup (sa_cons (se_str) (sa_nil))))) (sss_nil))
    (sss_cons (ss_if (st_not (st_val (se_callC C_comes_from_ahead tk (hr.mono (by decide)) (sa_cons (se_var 5) (sa_cons (se_var 3) (sa_nil)))))) (sss_one (ss_ret (se_tup (sa_cons (se_str) (sa_nil))))) (sss_nil))
    (sss_cons (ss_set nd (se_callC C_shadow_of tk (hr.mono (by decide)) (sa_cons (se_var 5) (sa_cons (se_var 6) (sa_cons (se_var 3) (sa_nil))))))
    (sss_cons (ss_if (st_not (st_val (se_callC C_lies_on tk (hr.mono (by decide)) (sa_cons (se_var 7) (sa_nil))))) (sss_one (ss_ret (se_tup (sa_cons (se_str) (sa_cons (se_var 7) (sa_nil)))))) (sss_nil))
    (sss_cons (ss_set nd (se_callC C_hiders tk (hr.mono (by decide)) (sa_cons (se_var 0) (sa_cons (se_var 2) (sa_cons (se_callC C_point_of tk (hr.mono (by decide)) (sa_cons (se_var 5) (sa_cons (se_var 7) (sa_nil)))) (sa_cons (se_var 3) (sa_nil)))))))
    (sss_cons (ss_if (st_cmp (d_ne hr.units) (se_var 8) (se_lst (sa_nil)) (nomark _)) (sss_one (ss_ret (se_tup (sa_cons (se_str) (sa_cons (se_var 8) (sa_nil)))))) (sss_nil))
    (sss_one (ss_ret (se_tup (sa_cons (se_str) (sa_cons (se_var 7) (sa_nil)))))))))))))
theorem cal_told_at (B : Blts mg blts) (M : Facts K mg) (C_direction_at : Cal P w K mg base "direction_at" 3 2 f_direction_at) (C_dial_of : Cal P w K mg base "dial_of" 1 2 f_dial_of) (C_is_up : Cal P w K mg base "is_up" 4 2 f_is_up) (C_comes_from_ahead : Cal P w K mg base "comes_from_ahead" 3 2 f_comes_from_ahead) (C_shadow_of : Cal P w K mg base "shadow_of" 6 3 f_shadow_of) (C_lies_on : Cal P w K mg base "lies_on" 2 1 f_lies_on) (C_hiders : Cal P w K mg base "hiders" 7 4 f_hiders) (C_point_of : Cal P w K mg base "point_of" 4 2 f_point_of) (Fn : FunD K "told_at" "told_at" (defArgs s_told_at) (defBody s_told_at) (defScope s_told_at) [] [] f fd) (hm : mg "told_at" = some (.ref f)) : Cal P w K mg base "told_at" 8 3 f_told_at :=
  cal_mk (N := N_told_at) (ps := ["yard", "hour", "name"]) Fn hm (fun _ _ _ _ _ _ us hl => match us, hl with | [_, _, _], _ => rfl) (ok_told_at B M C_direction_at C_dial_of C_is_up C_comes_from_ahead C_shadow_of C_lies_on C_hiders C_point_of Fn)
theorem ok_lists_of (B : Blts mg blts) (M : Facts K mg)  (Fn : FunD K "lists_of" "lists_of" (defArgs s_lists_of) (defBody s_lists_of) (defScope s_lists_of) [] [] f fd) : FnOk P w K mg base (L2.CX P w) 1 f fd ["many", "some"] (spD K 2 f_lists_of) :=
  have nd := (sc_lists_of).nd
  ok_def (N := N_lists_of) Fn sc_lists_of rfl fun cdv A outer s H E hr tk hp =>
    sss_cons (ss_set nd (se_lst (sa_cons (se_lst (sa_nil)) (sa_nil))))
    (sss_cons (ss_for hp rfl (si_range1 (B.at 4) (sa_cons (se_var 0) (sa_nil))) (pg_name (i := 3) nd rfl (by first | exact Or.inl rfl | exact Or.inr rfl)) (tg_name 3) (sss_cons (ss_own nd (sa_nil))
     (sss_cons (ss_for hp rfl (si_any (se_var 2)) (pg_name (i := 5) nd rfl (by first | exact Or.inl rfl | exact Or.inr rfl)) (tg_name 5) (sss_cons (ss_set nd (se_int))
      (sss_cons (ss_if (st_cmp (d_ne hr.units) (se_var 5) (se_lst (sa_nil)) (nomark _)) (sss_one (ss_set nd (se_op d_add (se_ix d_ix (se_var 5) (se_un d_neg (se_int))) (se_int)))) (sss_nil))
      (sss_one (ss_extN 4 (seo_comp tk rfl rfl (own := [("number", 7)]) rfl nd (blkOk_by (N := N_lists_of) (sc := defScope s_lists_of) (by decide +kernel)) (si_range2 (B.at 4) (sa_cons (se_var 6) (sa_cons (se_var 1) (sa_nil)))) (tg_name 7) (fun _ _ _ _ _ _ => pg_name (i := 7) nd rfl (by first | exact Or.inl rfl | exact Or.inr rfl)) (fun _ _ _ _ _ _ _ tkc => sif_nil) (fun _ _ _ _ _ _ _ tkc => se_op d_add (se_var 5) (se_lst (sa_cons (se_var 7) (sa_nil))))))))))
     (sss_one (ss_freeze 4 (ss_set nd (se_var 4)))))))
    (sss_one (ss_ret (se_var 2))))
theorem cal_lists_of (B : Blts mg blts) (M : Facts K mg)  (Fn : FunD K "lists_of" "lists_of" (defArgs s_lists_of) (defBody s_lists_of) (defScope s_lists_of) [] [] f fd) (hm : mg "lists_of" = some (.ref f)) : Cal P w K mg base "lists_of" 1 2 f_lists_of :=
  cal_mk (N := N_lists_of) (ps := ["many", "some"]) Fn hm (fun _ _ _ _ _ _ us hl => match us, hl with | [_, _], _ => rfl) (ok_lists_of B M  Fn)
theorem ok_without_walls (B : Blts mg blts) (M : Facts K mg)  (Fn : FunD K "without_walls" "without_walls" (defArgs s_without_walls) (defBody s_without_walls) (defScope s_without_walls) [] [] f fd) : FnOk P w K mg base (L2.CX P w) 1 f fd ["yard", "numbers"] (spD K 2 f_without_walls) :=
  have nd := (sc_without_walls).nd
  ok_def (N := N_without_walls) Fn sc_without_walls rfl fun cdv A outer s H E hr tk hp =>
    sss_one (ss_ret (se_tup (sa_cons (se_ix d_ix (se_var 0) (se_int)) (sa_cons (se_comp (own := [("number", 2), ("wall", 3)]) rfl nd (blkOk_by (N := N_without_walls) (sc := defScope s_without_walls) (by decide +kernel)) (si_enum (B.at 8) (sa_cons (se_ix d_ix (se_var 0) (se_int)) (sa_nil))) (tg_seq (tgs_cons (tg_name 2) (tgs_cons (tg_name 3) (tgs_nil)))) (fun _ _ _ _ _ => pg_seq rfl (pgs_cons (pg_name (i := 2) nd rfl (by first | exact Or.inl rfl | exact Or.inr rfl)) (pgs_cons (pg_name (i := 3) nd rfl (by first | exact Or.inl rfl | exact Or.inr rfl)) (pgs_nil)))) (fun _ _ _ _ _ => sif_one (st_cmp (d_ninX) (se_var 2) (se_var 1) (by rfl))) (fun _ _ _ _ _ => se_var 3)) (sa_cons (se_ix d_ix (se_var 0) (se_int)) (sa_nil))))))
theorem cal_without_walls (B : Blts mg blts) (M : Facts K mg)  (Fn : FunD K "without_walls" "without_walls" (defArgs s_without_walls) (defBody s_without_walls) (defScope s_without_walls) [] [] f fd) (hm : mg "without_walls" = some (.ref f)) : Cal P w K mg base "without_walls" 1 2 f_without_walls :=
  cal_mk (N := N_without_walls) (ps := ["yard", "numbers"]) Fn hm (fun _ _ _ _ _ _ us hl => match us, hl with | [_, _], _ => rfl) (ok_without_walls B M  Fn)
theorem ok_readers (B : Blts mg blts) (M : Facts K mg) (C_told_at : Cal P w K mg base "told_at" 8 3 f_told_at) (Fn : FunD K "readers" "readers" (defArgs s_readers) (defBody s_readers) (defScope s_readers) [] [] f fd) : FnOk P w K mg base (L2.CX P w) 9 f fd ["yard", "hour"] (spD K 2 f_readers) :=
  have nd := (sc_readers).nd
  ok_def (N := N_readers) Fn sc_readers rfl fun cdv A outer s H E hr tk hp =>
    sss_one (ss_ret (se_comp (own := [("number", 2), ("dial", 3)]) rfl nd (blkOk_by (N := N_readers) (sc := defScope s_readers) (by decide +kernel)) (si_enum (B.at 8) (sa_cons (se_ix d_ix (se_var 0) (se_int)) (sa_nil))) (tg_seq (tgs_cons (tg_name 2) (tgs_cons (tg_name 3) (tgs_nil)))) (fun _ _ _ _ _ => pg_seq rfl (pgs_cons (pg_name (i := 2) nd rfl (by first | exact Or.inl rfl | exact Or.inr rfl)) (pgs_cons (pg_name (i := 3) nd rfl (by first | exact Or.inl rfl | exact Or.inr rfl)) (pgs_nil)))) (fun _ _ _ _ _ => sif_one (st_cmp (d_eq hr.units) (se_ix d_ix (se_callC C_told_at takes0 (hr.mono (by decide)) (sa_cons (se_var 0) (sa_cons (se_var 1) (sa_cons (se_ix d_ix (se_var 3) (se_int)) (sa_nil))))) (se_int)) (se_str) (nomark _))) (fun _ _ _ _ _ => se_var 2)))
theorem cal_readers (B : Blts mg blts) (M : Facts K mg) (C_told_at : Cal P w K mg base "told_at" 8 3 f_told_at) (Fn : FunD K "readers" "readers" (defArgs s_readers) (defBody s_readers) (defScope s_readers) [] [] f fd) (hm : mg "readers" = some (.ref f)) : Cal P w K mg base "readers" 9 2 f_readers :=
  cal_mk (N := N_readers) (ps := ["yard", "hour"]) Fn hm (fun _ _ _ _ _ _ us hl => match us, hl with | [_, _], _ => rfl) (ok_readers B M C_told_at Fn)
theorem ok_look_at_hours (B : Blts mg blts) (M : Facts K mg) (C_direction_at : Cal P w K mg base "direction_at" 3 2 f_direction_at) (Fn : FunD K "look_at_hours" "look_at_hours" (defArgs s_look_at_hours) (defBody s_look_at_hours) (defScope s_look_at_hours) [] [] f fd) : FnOk P w K mg base (L2.CX P w) 4 f fd ["yard", "hours"] (spD K 2 f_look_at_hours) :=
  have nd := (sc_look_at_hours).nd
  ok_def (N := N_look_at_hours) Fn sc_look_at_hours rfl fun cdv A outer s H E hr tk hp =>
    sss_one (ss_for hp rfl (si_any (se_var 1)) (pg_name (i := 2) nd rfl (by first | exact Or.inl rfl | exact Or.inr rfl)) (tg_name 2) (sss_one (ss_expr (se_callC C_direction_at tk (hr.mono (by decide)) (sa_cons (se_ix d_ix (se_var 0) (se_int)) (sa_cons (se_var 2) (sa_nil)))))))
theorem cal_look_at_hours (B : Blts mg blts) (M : Facts K mg) (C_direction_at : Cal P w K mg base "direction_at" 3 2 f_direction_at) (Fn : FunD K "look_at_hours" "look_at_hours" (defArgs s_look_at_hours) (defBody s_look_at_hours) (defScope s_look_at_hours) [] [] f fd) (hm : mg "look_at_hours" = some (.ref f)) : Cal P w K mg base "look_at_hours" 4 2 f_look_at_hours :=
  cal_mk (N := N_look_at_hours) (ps := ["yard", "hours"]) Fn hm (fun _ _ _ _ _ _ us hl => match us, hl with | [_, _], _ => rfl) (ok_look_at_hours B M C_direction_at Fn)
theorem ok_first_dark (B : Blts mg blts) (M : Facts K mg) (C_readers : Cal P w K mg base "readers" 9 2 f_readers) (Fn : FunD K "first_dark" "first_dark" (defArgs s_first_dark) (defBody s_first_dark) (defScope s_first_dark) [] [] f fd) : FnOk P w K mg base (L2.CX P w) 10 f fd ["yard", "hours"] (spD K 2 f_first_dark) :=
  have nd := (sc_first_dark).nd
  ok_def (N := N_first_dark) Fn sc_first_dark rfl fun cdv A outer s H E hr tk hp =>
    sss_cons (ss_for hp rfl (si_any (se_var 1)) (pg_name (i := 2) nd rfl (by first | exact Or.inl rfl | exact Or.inr rfl)) (tg_name 2) (sss_one (ss_if (st_cmp (d_eq hr.units) (se_callC C_readers tk (hr.mono (by decide)) (sa_cons (se_var 0) (sa_cons (se_var 2) (sa_nil)))) (se_lst (sa_nil)) (nomark _)) (sss_one (ss_ret (se_var 2))) (sss_nil))))
    (sss_one (ss_ret (se_non)))
theorem cal_first_dark (B : Blts mg blts) (M : Facts K mg) (C_readers : Cal P w K mg base "readers" 9 2 f_readers) (Fn : FunD K "first_dark" "first_dark" (defArgs s_first_dark) (defBody s_first_dark) (defScope s_first_dark) [] [] f fd) (hm : mg "first_dark" = some (.ref f)) : Cal P w K mg base "first_dark" 10 2 f_first_dark :=
  cal_mk (N := N_first_dark) (ps := ["yard", "hours"]) Fn hm (fun _ _ _ _ _ _ us hl => match us, hl with | [_, _], _ => rfl) (ok_first_dark B M C_readers Fn)
theorem ok_fewest_gone (B : Blts mg blts) (M : Facts K mg) (C_look_at_hours : Cal P w K mg base "look_at_hours" 4 2 f_look_at_hours) (C_first_dark : Cal P w K mg base "first_dark" 10 2 f_first_dark) (C_without_walls : Cal P w K mg base "without_walls" 1 2 f_without_walls) (C_lists_of : Cal P w K mg base "lists_of" 1 2 f_lists_of) (Fn : FunD K "fewest_gone" "fewest_gone" (defArgs s_fewest_gone) (defBody s_fewest_gone) (defScope s_fewest_gone) [] [] f fd) : FnOk P w K mg base (L2.CX P w) 11 f fd ["yard", "hours"] (spD K 2 f_fewest_gone) :=
  have nd := (sc_fewest_gone).nd
  ok_def (N := N_fewest_gone) Fn sc_fewest_gone rfl fun cdv A outer s H E hr tk hp =>
    sss_cons (ss_expr (se_callC C_look_at_hours tk (hr.mono (by decide)) (sa_cons (se_var 0) (sa_cons (se_var 1) (sa_nil)))))
    (sss_cons (ss_set nd (se_callC C_first_dark tk (hr.mono (by decide)) (sa_cons (se_callC C_without_walls tk (hr.mono (by decide)) (sa_cons (se_var 0) (sa_cons (se_keep (seo_rg1 rfl (B.at 10) (B.at 4) (se_blt d_len (B.at 9) (sa_cons (se_ix d_ix (se_var 0) (se_int)) (sa_nil))))) (sa_nil)))) (sa_cons (se_var 1) (sa_nil)))))
    (sss_cons (ss_if (st_cmp (d_notN) (se_var 2) (se_non) (nomark _)) (sss_one (ss_ret (se_tup (sa_cons (se_str) (sa_cons (se_var 2) (sa_nil)))))) (sss_nil))
    (sss_cons (ss_set nd (se_lst (sa_nil)))
    (sss_cons (ss_for hp rfl (si_range1 (B.at 4) (sa_cons (se_op d_add (se_blt d_len (B.at 9) (sa_cons (se_ix d_ix (se_var 0) (se_int)) (sa_nil))) (se_int)) (sa_nil))) (pg_name (i := 4) nd rfl (by first | exact Or.inl rfl | exact Or.inr rfl)) (tg_name 4) (sss_cons (ss_own nd (sa_nil))
     (sss_cons (ss_for hp rfl (si_any (se_callC C_lists_of tk (hr.mono (by decide)) (sa_cons (se_var 4) (sa_cons (se_blt d_len (B.at 9) (sa_cons (se_ix d_ix (se_var 0) (se_int)) (sa_nil))) (sa_nil))))) (pg_name (i := 6) nd rfl (by first | exact Or.inl rfl | exact Or.inr rfl)) (tg_name 6) (sss_cons (ss_set nd (se_callC C_first_dark tk (hr.mono (by decide)) (sa_cons (se_callC C_without_walls tk (hr.mono (by decide)) (sa_cons (se_var 0) (sa_cons (se_var 6) (sa_nil)))) (sa_cons (se_var 1) (sa_nil)))))
      (sss_cons (ss_if (st_cmp (d_isN) (se_var 7) (se_non) (nomark _)) (sss_one (ss_ret (se_tup (sa_cons (se_str) (sa_cons (se_comp (own := [("number", 8)]) rfl nd (blkOk_by (N := N_fewest_gone) (sc := defScope s_fewest_gone) (by decide +kernel)) (si_any (se_var 6)) (tg_name 8) (fun _ _ _ _ _ => pg_name (i := 8) nd rfl (by first | exact Or.inl rfl | exact Or.inr rfl)) (fun _ _ _ _ _ => sif_nil) (fun _ _ _ _ _ => se_ix d_ix (se_ix d_ix (se_ix d_ix (se_var 0) (se_int)) (se_var 8)) (se_int))) (sa_cons (se_var 3) (sa_nil))))))) (sss_nil))
      (sss_one (ss_app 5 (se_tup (sa_cons (se_var 6) (sa_cons (se_var 7) (sa_nil)))))))))
     (sss_one (ss_freeze 5 (ss_set nd (se_var 5)))))))
    (sss_one (ss_ret (se_tup (sa_cons (se_str) (sa_cons (se_var 2) (sa_nil))))))))))
theorem cal_fewest_gone (B : Blts mg blts) (M : Facts K mg) (C_look_at_hours : Cal P w K mg base "look_at_hours" 4 2 f_look_at_hours) (C_first_dark : Cal P w K mg base "first_dark" 10 2 f_first_dark) (C_without_walls : Cal P w K mg base "without_walls" 1 2 f_without_walls) (C_lists_of : Cal P w K mg base "lists_of" 1 2 f_lists_of) (Fn : FunD K "fewest_gone" "fewest_gone" (defArgs s_fewest_gone) (defBody s_fewest_gone) (defScope s_fewest_gone) [] [] f fd) (hm : mg "fewest_gone" = some (.ref f)) : Cal P w K mg base "fewest_gone" 11 2 f_fewest_gone :=
  cal_mk (N := N_fewest_gone) (ps := ["yard", "hours"]) Fn hm (fun _ _ _ _ _ _ us hl => match us, hl with | [_, _], _ => rfl) (ok_fewest_gone B M C_look_at_hours C_first_dark C_without_walls C_lists_of Fn)
theorem ok__law_cell (B : Blts mg blts) (M : Facts K mg)  (Fn : FunD K "_law_cell" "_law_cell" (defArgs s__law_cell) (defBody s__law_cell) (defScope s__law_cell) [] [] f fd) : FnOk P w K mg base (L2.CX P w) 1 f fd ["_law_script", "_law_k"] (spD K 2 f__law_cell) :=
  have nd := (sc__law_cell).nd
  ok_def (N := N__law_cell) Fn sc__law_cell rfl fun cdv A outer s H E hr tk hp =>
    sss_cons (ss_if (st_cmp (d_lt) (se_var 1) (se_blt d_len (B.at 9) (sa_cons (se_var 0) (sa_nil))) (nomark _)) (sss_one (ss_ret (se_ix d_ix (se_var 0) (se_var 1)))) (sss_nil))
    (sss_cons (ss_set nd (se_op d_add (se_op d_add (se_op d_mul (se_op d_mul (se_var 1) (se_var 1)) (se_int)) (se_op d_mul (se_int) (se_var 1))) (se_int)))
    (sss_cons (ss_if (st_cmp (d_gt) (se_blt d_len (B.at 9) (sa_cons (se_var 0) (sa_nil))) (se_int) (nomark _)) (sss_one (ss_set nd (se_op d_add (se_var 2) (se_op d_mul (se_op d_mod (se_ix d_ix (se_var 0) (se_op d_mod (se_op d_mul (se_var 1) (se_int)) (se_blt d_len (B.at 9) (sa_cons (se_var 0) (sa_nil))))) (se_int)) (se_op d_add (se_op d_mul (se_var 1) (se_var 1)) (se_int)))))) (sss_nil))
    (sss_one (ss_ret (se_op d_add (se_op d_mul (se_op d_mod (se_op d_mul (se_var 2) (se_var 2)) (se_int)) (se_int)) (se_var 2))))))
theorem cal__law_cell (B : Blts mg blts) (M : Facts K mg)  (Fn : FunD K "_law_cell" "_law_cell" (defArgs s__law_cell) (defBody s__law_cell) (defScope s__law_cell) [] [] f fd) (hm : mg "_law_cell" = some (.ref f)) : Cal P w K mg base "_law_cell" 1 2 f__law_cell :=
  cal_mk (N := N__law_cell) (ps := ["_law_script", "_law_k"]) Fn hm (fun _ _ _ _ _ _ us hl => match us, hl with | [_, _], _ => rfl) (ok__law_cell B M  Fn)
theorem ok__law_wide (B : Blts mg blts) (M : Facts K mg) (C__law_cell : Cal P w K mg base "_law_cell" 1 2 f__law_cell) (Fn : FunD K "_law_wide" "_law_wide" (defArgs s__law_wide) (defBody s__law_wide) (defScope s__law_wide) [] [] f fd) : FnOk P w K mg base (L2.CX P w) 2 f fd ["_law_script", "_law_k"] (spD K 2 f__law_wide) :=
  have nd := (sc__law_wide).nd
  ok_def (N := N__law_wide) Fn sc__law_wide rfl fun cdv A outer s H E hr tk hp =>
    sss_cons (ss_set nd (se_callC C__law_cell tk (hr.mono (by decide)) (sa_cons (se_var 0) (sa_cons (se_var 1) (sa_nil)))))
    (sss_cons (ss_if (st_bool (sw_and (st_cmp (d_lt) (se_var 1) (se_blt d_len (B.at 9) (sa_cons (se_var 0) (sa_nil))) (nomark _)) (sw_and1 (st_cmp (d_ge) (se_var 2) (se_op d_pow (se_int) (se_int)) (nomark _))))) (sss_one (ss_ret (se_op d_mod (se_var 2) (se_op d_mul (se_op d_pow (se_int) (se_int)) (se_op d_pow (se_int) (se_int)))))) (sss_nil))
    (sss_cons (ss_set nd (se_op d_add (se_op d_add (se_op d_mod (se_var 2) (se_int)) (se_int)) (se_op d_mul (se_var 1) (se_var 1))))
    (sss_one (ss_ret (se_op d_div (se_op d_pow (se_op d_add (se_op d_mul (se_var 3) (se_int)) (se_int)) (se_int)) (se_int))))))
theorem cal__law_wide (B : Blts mg blts) (M : Facts K mg) (C__law_cell : Cal P w K mg base "_law_cell" 1 2 f__law_cell) (Fn : FunD K "_law_wide" "_law_wide" (defArgs s__law_wide) (defBody s__law_wide) (defScope s__law_wide) [] [] f fd) (hm : mg "_law_wide" = some (.ref f)) : Cal P w K mg base "_law_wide" 2 2 f__law_wide :=
  cal_mk (N := N__law_wide) (ps := ["_law_script", "_law_k"]) Fn hm (fun _ _ _ _ _ _ us hl => match us, hl with | [_, _], _ => rfl) (ok__law_wide B M C__law_cell Fn)
theorem ok__law_triple (B : Blts mg blts) (M : Facts K mg)  (Fn : FunD K "_law_triple" "_law_triple" (defArgs s__law_triple) (defBody s__law_triple) (defScope s__law_triple) [] [] f fd) : FnOk P w K mg base (L2.CX P w) 1 f fd ["_law_number", "_law_most"] (spD K 2 f__law_triple) :=
  have nd := (sc__law_triple).nd
  ok_def (N := N__law_triple) Fn sc__law_triple rfl fun cdv A outer s H E hr tk hp =>
    sss_cons (ss_set nd (se_op d_add (se_op d_mul (se_int) (se_var 1)) (se_int)))
    (sss_one (ss_ret (se_tup (sa_cons (se_op d_sub (se_op d_mod (se_var 0) (se_var 2)) (se_var 1)) (sa_cons (se_op d_sub (se_op d_mod (se_op d_div (se_var 0) (se_var 2)) (se_var 2)) (se_var 1)) (sa_cons (se_op d_sub (se_op d_mod (se_op d_div (se_var 0) (se_op d_pow (se_var 2) (se_int))) (se_var 2)) (se_var 1)) (sa_nil)))))))
theorem cal__law_triple (B : Blts mg blts) (M : Facts K mg)  (Fn : FunD K "_law_triple" "_law_triple" (defArgs s__law_triple) (defBody s__law_triple) (defScope s__law_triple) [] [] f fd) (hm : mg "_law_triple" = some (.ref f)) : Cal P w K mg base "_law_triple" 1 2 f__law_triple :=
  cal_mk (N := N__law_triple) (ps := ["_law_number", "_law_most"]) Fn hm (fun _ _ _ _ _ _ us hl => match us, hl with | [_, _], _ => rfl) (ok__law_triple B M  Fn)
theorem ok__law_cross (B : Blts mg blts) (M : Facts K mg)  (Fn : FunD K "_law_cross" "_law_cross" (defArgs s__law_cross) (defBody s__law_cross) (defScope s__law_cross) [] [] f fd) : FnOk P w K mg base (L2.CX P w) 1 f fd ["_law_one", "_law_other"] (spD K 2 f__law_cross) :=
  have nd := (sc__law_cross).nd
  ok_def (N := N__law_cross) Fn sc__law_cross rfl fun cdv A outer s H E hr tk hp =>
    sss_cons (ss_asg (se_var 0) (pg_seq rfl (pgs_cons (pg_name (i := 2) nd rfl (by first | exact Or.inl rfl | exact Or.inr rfl)) (pgs_cons (pg_name (i := 3) nd rfl (by first | exact Or.inl rfl | exact Or.inr rfl)) (pgs_cons (pg_name (i := 4) nd rfl (by first | exact Or.inl rfl | exact Or.inr rfl)) (pgs_nil))))) (tg_seq (tgs_cons (tg_name 2) (tgs_cons (tg_name 3) (tgs_cons (tg_name 4) (tgs_nil))))))
    (sss_cons (ss_asg (se_var 1) (pg_seq rfl (pgs_cons (pg_name (i := 5) nd rfl (by first | exact Or.inl rfl | exact Or.inr rfl)) (pgs_cons (pg_name (i := 6) nd rfl (by first | exact Or.inl rfl | exact Or.inr rfl)) (pgs_cons (pg_name (i := 7) nd rfl (by first | exact Or.inl rfl | exact Or.inr rfl)) (pgs_nil))))) (tg_seq (tgs_cons (tg_name 5) (tgs_cons (tg_name 6) (tgs_cons (tg_name 7) (tgs_nil))))))
    (sss_one (ss_ret (se_tup (sa_cons (se_op d_sub (se_op d_mul (se_var 3) (se_var 7)) (se_op d_mul (se_var 4) (se_var 6))) (sa_cons (se_op d_sub (se_op d_mul (se_var 4) (se_var 5)) (se_op d_mul (se_var 2) (se_var 7))) (sa_cons (se_op d_sub (se_op d_mul (se_var 2) (se_var 6)) (se_op d_mul (se_var 3) (se_var 5))) (sa_nil))))))))
theorem cal__law_cross (B : Blts mg blts) (M : Facts K mg)  (Fn : FunD K "_law_cross" "_law_cross" (defArgs s__law_cross) (defBody s__law_cross) (defScope s__law_cross) [] [] f fd) (hm : mg "_law_cross" = some (.ref f)) : Cal P w K mg base "_law_cross" 1 2 f__law_cross :=
  cal_mk (N := N__law_cross) (ps := ["_law_one", "_law_other"]) Fn hm (fun _ _ _ _ _ _ us hl => match us, hl with | [_, _], _ => rfl) (ok__law_cross B M  Fn)
theorem ok__law_dot (B : Blts mg blts) (M : Facts K mg)  (Fn : FunD K "_law_dot" "_law_dot" (defArgs s__law_dot) (defBody s__law_dot) (defScope s__law_dot) [] [] f fd) : FnOk P w K mg base (L2.CX P w) 1 f fd ["_law_one", "_law_other"] (spD K 2 f__law_dot) :=
  have nd := (sc__law_dot).nd
  ok_def (N := N__law_dot) Fn sc__law_dot rfl fun cdv A outer s H E hr tk hp =>
    sss_one (ss_ret (se_op d_add (se_op d_add (se_op d_mul (se_ix d_ix (se_var 0) (se_int)) (se_ix d_ix (se_var 1) (se_int))) (se_op d_mul (se_ix d_ix (se_var 0) (se_int)) (se_ix d_ix (se_var 1) (se_int)))) (se_op d_mul (se_ix d_ix (se_var 0) (se_int)) (se_ix d_ix (se_var 1) (se_int)))))
theorem cal__law_dot (B : Blts mg blts) (M : Facts K mg)  (Fn : FunD K "_law_dot" "_law_dot" (defArgs s__law_dot) (defBody s__law_dot) (defScope s__law_dot) [] [] f fd) (hm : mg "_law_dot" = some (.ref f)) : Cal P w K mg base "_law_dot" 1 2 f__law_dot :=
  cal_mk (N := N__law_dot) (ps := ["_law_one", "_law_other"]) Fn hm (fun _ _ _ _ _ _ us hl => match us, hl with | [_, _], _ => rfl) (ok__law_dot B M  Fn)
theorem ok__law_on (B : Blts mg blts) (M : Facts K mg)  (Fn : FunD K "_law_on" "_law_on" (defArgs s__law_on) (defBody s__law_on) (defScope s__law_on) [] [] f fd) : FnOk P w K mg base (L2.CX P w) 1 f fd ["_law_one", "_law_other", "_law_many"] (spD K 3 f__law_on) :=
  have nd := (sc__law_on).nd
  ok_def (N := N__law_on) Fn sc__law_on rfl fun cdv A outer s H E hr tk hp =>
    sss_one (ss_ret (se_tup (sa_cons (se_op d_add (se_ix d_ix (se_var 0) (se_int)) (se_op d_mul (se_var 2) (se_ix d_ix (se_var 1) (se_int)))) (sa_cons (se_op d_add (se_ix d_ix (se_var 0) (se_int)) (se_op d_mul (se_var 2) (se_ix d_ix (se_var 1) (se_int)))) (sa_cons (se_op d_add (se_ix d_ix (se_var 0) (se_int)) (se_op d_mul (se_var 2) (se_ix d_ix (se_var 1) (se_int)))) (sa_nil))))))
theorem cal__law_on (B : Blts mg blts) (M : Facts K mg)  (Fn : FunD K "_law_on" "_law_on" (defArgs s__law_on) (defBody s__law_on) (defScope s__law_on) [] [] f fd) (hm : mg "_law_on" = some (.ref f)) : Cal P w K mg base "_law_on" 1 3 f__law_on :=
  cal_mk (N := N__law_on) (ps := ["_law_one", "_law_other", "_law_many"]) Fn hm (fun _ _ _ _ _ _ us hl => match us, hl with | [_, _, _], _ => rfl) (ok__law_on B M  Fn)
theorem ok__law_pair (B : Blts mg blts) (M : Facts K mg) (C__law_triple : Cal P w K mg base "_law_triple" 1 2 f__law_triple) (C__law_cross : Cal P w K mg base "_law_cross" 1 2 f__law_cross) (Fn : FunD K "_law_pair" "_law_pair" (defArgs s__law_pair) (defBody s__law_pair) (defScope s__law_pair) [] [] f fd) : FnOk P w K mg base (L2.CX P w) 2 f fd ["_law_number", "_law_most"] (spD K 2 f__law_pair) :=
  have nd := (sc__law_pair).nd
  ok_def (N := N__law_pair) Fn sc__law_pair rfl fun cdv A outer s H E hr tk hp =>
    sss_cons (ss_set nd (se_callC C__law_triple tk (hr.mono (by decide)) (sa_cons (se_var 0) (sa_cons (se_var 1) (sa_nil)))))
    (sss_cons (ss_set nd (se_callC C__law_triple tk (hr.mono (by decide)) (sa_cons (se_op d_div (se_var 0) (se_op d_pow (se_op d_add (se_op d_mul (se_int) (se_var 1)) (se_int)) (se_int))) (sa_cons (se_var 1) (sa_nil)))))
    (sss_cons (ss_if (st_cmp (d_eq hr.units) (se_callC C__law_cross tk (hr.mono (by decide)) (sa_cons (se_var 2) (sa_cons (se_var 3) (sa_nil)))) (se_tup (sa_cons (se_int) (sa_cons (se_int) (sa_cons (se_int) (sa_nil))))) (nomark _)) (sss_one (ss_ret (se_tup (sa_cons (se_tup (sa_cons (se_var 1) (sa_cons (se_int) (sa_cons (se_int) (sa_nil))))) (sa_cons (se_tup (sa_cons (se_int) (sa_cons (se_var 1) (sa_cons (se_int) (sa_nil))))) (sa_nil)))))) (sss_nil))
    (sss_one (ss_ret (se_tup (sa_cons (se_var 2) (sa_cons (se_var 3) (sa_nil))))))))
theorem cal__law_pair (B : Blts mg blts) (M : Facts K mg) (C__law_triple : Cal P w K mg base "_law_triple" 1 2 f__law_triple) (C__law_cross : Cal P w K mg base "_law_cross" 1 2 f__law_cross) (Fn : FunD K "_law_pair" "_law_pair" (defArgs s__law_pair) (defBody s__law_pair) (defScope s__law_pair) [] [] f fd) (hm : mg "_law_pair" = some (.ref f)) : Cal P w K mg base "_law_pair" 2 2 f__law_pair :=
  cal_mk (N := N__law_pair) (ps := ["_law_number", "_law_most"]) Fn hm (fun _ _ _ _ _ _ us hl => match us, hl with | [_, _], _ => rfl) (ok__law_pair B M C__law_triple C__law_cross Fn)
theorem ok__law_sun (B : Blts mg blts) (M : Facts K mg) (C__law_wide : Cal P w K mg base "_law_wide" 2 2 f__law_wide) (Fn : FunD K "_law_sun" "_law_sun" (defArgs s__law_sun) (defBody s__law_sun) (defScope s__law_sun) [] [] f fd) : FnOk P w K mg base (L2.CX P w) 3 f fd ["_law_script", "_law_many"] (spD K 2 f__law_sun) :=
  have nd := (sc__law_sun).nd
  ok_def (N := N__law_sun) Fn sc__law_sun rfl fun cdv A outer s H E hr tk hp =>
    sss_cons (ss_own nd (sa_nil))
    (sss_cons (ss_set nd (se_op d_mod (se_callC C__law_wide tk (hr.mono (by decide)) (sa_cons (se_var 0) (sa_cons (se_int) (sa_nil)))) (se_int)))
    (sss_cons (ss_for hp rfl (si_range1 (B.at 4) (sa_cons (se_var 1) (sa_nil))) (pg_name (i := 4) nd rfl (by first | exact Or.inl rfl | exact Or.inr rfl)) (tg_name 4) (sss_cons (ss_set nd (se_callC C__law_wide tk (hr.mono (by decide)) (sa_cons (se_var 0) (sa_cons (se_op d_add (se_int) (se_var 4)) (sa_nil)))))
     (sss_cons (ss_set nd (se_ix d_ix (se_lst (sa_cons (se_op d_add (se_op d_mod (se_op d_div (se_var 5) (se_int)) (se_int)) (se_int)) (sa_cons (se_op d_sub (se_op d_mod (se_op d_div (se_var 5) (se_int)) (se_int)) (se_int)) (sa_nil)))) (se_op d_div (se_op d_mod (se_var 5) (se_int)) (se_int))))
     (sss_cons (ss_set nd (se_tup (sa_cons (se_op d_sub (se_op d_mod (se_op d_div (se_var 5) (se_int)) (se_int)) (se_int)) (sa_cons (se_op d_sub (se_op d_mod (se_op d_div (se_var 5) (se_int)) (se_int)) (se_int)) (sa_cons (se_var 6) (sa_nil))))))
     (sss_cons (ss_if (st_cmp (d_eq hr.units) (se_var 7) (se_tup (sa_cons (se_int) (sa_cons (se_int) (sa_cons (se_int) (sa_nil))))) (nomark _)) (sss_one (ss_set nd (se_tup (sa_cons (se_int) (sa_cons (se_int) (sa_cons (se_int) (sa_nil))))))) (sss_nil))
     (sss_cons (ss_app 2 (se_tup (sa_cons (se_var 3) (sa_cons (se_var 7) (sa_nil)))))
     (sss_one (ss_set nd (se_op d_add (se_op d_add (se_var 3) (se_int)) (se_op d_mod (se_op d_div (se_var 5) (se_int)) (se_int)))))))))))
    (sss_one (ss_freeze 2 (ss_ret (se_var 2))))))
theorem cal__law_sun (B : Blts mg blts) (M : Facts K mg) (C__law_wide : Cal P w K mg base "_law_wide" 2 2 f__law_wide) (Fn : FunD K "_law_sun" "_law_sun" (defArgs s__law_sun) (defBody s__law_sun) (defScope s__law_sun) [] [] f fd) (hm : mg "_law_sun" = some (.ref f)) : Cal P w K mg base "_law_sun" 3 2 f__law_sun :=
  cal_mk (N := N__law_sun) (ps := ["_law_script", "_law_many"]) Fn hm (fun _ _ _ _ _ _ us hl => match us, hl with | [_, _], _ => rfl) (ok__law_sun B M C__law_wide Fn)
theorem ok__law_dial (B : Blts mg blts) (M : Facts K mg) (C__law_pair : Cal P w K mg base "_law_pair" 2 2 f__law_pair) (C__law_dot : Cal P w K mg base "_law_dot" 1 2 f__law_dot) (C__law_cross : Cal P w K mg base "_law_cross" 1 2 f__law_cross) (C__law_triple : Cal P w K mg base "_law_triple" 1 2 f__law_triple) (C__law_on : Cal P w K mg base "_law_on" 1 3 f__law_on) (Fn : FunD K "_law_dial" "_law_dial" (defArgs s__law_dial) (defBody s__law_dial) (defScope s__law_dial) [] [] f fd) : FnOk P w K mg base (L2.CX P w) 3 f fd ["_law_number", "_law_sun_here"] (spD K 2 f__law_dial) :=
  have nd := (sc__law_dial).nd
  ok_def (N := N__law_dial) Fn sc__law_dial rfl fun cdv A outer s H E hr tk hp =>
    sss_cons (ss_set nd (se_op d_add (se_int) (se_op d_mod (se_var 0) (se_int))))
    (sss_cons (ss_set nd (se_op d_div (se_var 0) (se_int)))
    (sss_cons (ss_asg (se_callC C__law_pair tk (hr.mono (by decide)) (sa_cons (se_op d_div (se_var 0) (se_int)) (sa_cons (se_int) (sa_nil)))) (pg_seq rfl (pgs_cons (pg_name (i := 3) nd rfl (by first | exact Or.inl rfl | exact Or.inr rfl)) (pgs_cons (pg_name (i := 4) nd rfl (by first | exact Or.inl rfl | exact Or.inr rfl)) (pgs_nil)))) (tg_seq (tgs_cons (tg_name 3) (tgs_cons (tg_name 4) (tgs_nil)))))
    (sss_cons (ss_set nd (se_ix d_ix (se_ix d_ix (se_var 1) (se_op d_mod (se_var 0) (se_blt d_len (B.at 9) (sa_cons (se_var 1) (sa_nil))))) (se_int)))
    (sss_cons (ss_set nd (se_callC C__law_dot tk (hr.mono (by decide)) (sa_cons (se_callC C__law_cross tk (hr.mono (by decide)) (sa_cons (se_var 3) (sa_cons (se_var 4) (sa_nil)))) (sa_cons (se_var 5) (sa_nil)))))
    (sss_cons (ss_if (st_cmp (d_lt) (se_var 6) (se_int) (nomark _)) (sss_one (ss_par rfl nd (sa_cons (se_var 4) (sa_cons (se_var 3) (sa_nil))))) (sss_nil))
    (sss_cons (ss_if (st_cmp (d_eq hr.units) (se_var 6) (se_int) (nomark _)) (sss_one (ss_set nd (se_callC C__law_cross tk (hr.mono (by decide)) (sa_cons (se_var 3) (sa_cons (se_var 4) (sa_nil)))))) (sss_nil))
    (sss_cons (ss_set nd (se_op d_div (se_var 0) (se_op d_pow (se_int) (se_int))))
    (sss_cons (ss_set nd (se_callC C__law_triple tk (hr.mono (by decide)) (sa_cons (se_var 0) (sa_cons (se_int) (sa_nil)))))
    (sss_cons (ss_set nd (se_op d_div (se_var 0) (se_op d_pow (se_int) (se_int))))
    (sss_cons (ss_set nd (se_ix d_ix (se_lst (sa_cons (se_op d_mod (se_var 0) (se_op d_add (se_var 2) (se_int))) (sa_cons (se_op d_sub (se_op d_mod (se_var 0) (se_op d_add (se_var 2) (se_int))) (se_int)) (sa_nil)))) (se_op d_div (se_op d_mod (se_op d_div (se_var 0) (se_int)) (se_int)) (se_int))))
    (sss_cons (ss_set nd (se_ix d_ix (se_lst (sa_cons (se_op d_mod (se_op d_div (se_var 0) (se_int)) (se_op d_add (se_var 2) (se_int))) (sa_cons (se_op d_sub (se_op d_mod (se_op d_div (se_var 0) (se_int)) (se_op d_add (se_var 2) (se_int))) (se_int)) (sa_nil)))) (se_op d_div (se_op d_mod (se_op d_div (se_var 0) (se_int)) (se_int)) (se_int))))
    (sss_cons (ss_set nd (se_callC C__law_on tk (hr.mono (by decide)) (sa_cons (se_callC C__law_on tk (hr.mono (by decide)) (sa_cons (se_var 7) (sa_cons (se_var 3) (sa_cons (se_var 8) (sa_nil))))) (sa_cons (se_var 4) (sa_cons (se_var 9) (sa_nil))))))
    (sss_cons (ss_set nd (se_callC C__law_on tk (hr.mono (by decide)) (sa_cons (se_var 10) (sa_cons (se_var 5) (sa_cons (se_op d_add (se_int) (se_op d_mod (se_op d_div (se_var 0) (se_int)) (se_int))) (sa_nil))))))
    (sss_one (ss_ret (se_tup (sa_cons (se_tup (sa_cons (se_var 7) (sa_cons (se_callC C__law_on tk (hr.mono (by decide)) (sa_cons (se_tup (sa_cons (se_int) (sa_cons (se_int) (sa_cons (se_int) (sa_nil))))) (sa_cons (se_var 3) (sa_cons (se_var 2) (sa_nil))))) (sa_cons (se_callC C__law_on tk (hr.mono (by decide)) (sa_cons (se_tup (sa_cons (se_int) (sa_cons (se_int) (sa_cons (se_int) (sa_nil))))) (sa_cons (se_var 4) (sa_cons (se_var 2) (sa_nil))))) (sa_nil))))) (sa_cons (se_var 11) (sa_cons (se_var 10) (sa_nil))))))))))))))))))))
theorem cal__law_dial (B : Blts mg blts) (M : Facts K mg) (C__law_pair : Cal P w K mg base "_law_pair" 2 2 f__law_pair) (C__law_dot : Cal P w K mg base "_law_dot" 1 2 f__law_dot) (C__law_cross : Cal P w K mg base "_law_cross" 1 2 f__law_cross) (C__law_triple : Cal P w K mg base "_law_triple" 1 2 f__law_triple) (C__law_on : Cal P w K mg base "_law_on" 1 3 f__law_on) (Fn : FunD K "_law_dial" "_law_dial" (defArgs s__law_dial) (defBody s__law_dial) (defScope s__law_dial) [] [] f fd) (hm : mg "_law_dial" = some (.ref f)) : Cal P w K mg base "_law_dial" 3 2 f__law_dial :=
  cal_mk (N := N__law_dial) (ps := ["_law_number", "_law_sun_here"]) Fn hm (fun _ _ _ _ _ _ us hl => match us, hl with | [_, _], _ => rfl) (ok__law_dial B M C__law_pair C__law_dot C__law_cross C__law_triple C__law_on Fn)
theorem ok__law_fence (B : Blts mg blts) (M : Facts K mg) (C__law_pair : Cal P w K mg base "_law_pair" 2 2 f__law_pair) (C__law_on : Cal P w K mg base "_law_on" 1 3 f__law_on) (Fn : FunD K "_law_fence" "_law_fence" (defArgs s__law_fence) (defBody s__law_fence) (defScope s__law_fence) [] [] f fd) : FnOk P w K mg base (L2.CX P w) 3 f fd ["_law_number", "_law_sun_here", "_law_dials"] (spD K 3 f__law_fence) :=
  have nd := (sc__law_fence).nd
  ok_def (N := N__law_fence) Fn sc__law_fence rfl fun cdv A outer s H E hr tk hp =>
    sss_cons (ss_set nd (se_tup (sa_cons (se_int) (sa_cons (se_int) (sa_cons (se_int) (sa_nil))))))
    (sss_cons (ss_if (st_cmp (d_ne hr.units) (se_var 2) (se_lst (sa_nil)) (nomark _)) (sss_one (ss_set nd (se_ix d_ix (se_ix d_ix (se_var 2) (se_op d_mod (se_var 0) (se_blt d_len (B.at 9) (sa_cons (se_var 2) (sa_nil))))) (se_int)))) (sss_nil))
    (sss_cons (ss_set nd (se_ix d_ix (se_ix d_ix (se_var 1) (se_op d_mod (se_op d_div (se_var 0) (se_int)) (se_blt d_len (B.at 9) (sa_cons (se_var 1) (sa_nil))))) (se_int)))
    (sss_cons (ss_set nd (se_op d_div (se_var 0) (se_int)))
    (sss_cons (ss_set nd (se_op d_add (se_int) (se_op d_mod (se_var 0) (se_int))))
    (sss_cons (ss_asg (se_callC C__law_pair tk (hr.mono (by decide)) (sa_cons (se_op d_div (se_var 0) (se_int)) (sa_cons (se_int) (sa_nil)))) (pg_seq rfl (pgs_cons (pg_name (i := 6) nd rfl (by first | exact Or.inl rfl | exact Or.inr rfl)) (pgs_cons (pg_name (i := 7) nd rfl (by first | exact Or.inl rfl | exact Or.inr rfl)) (pgs_nil)))) (tg_seq (tgs_cons (tg_name 6) (tgs_cons (tg_name 7) (tgs_nil)))))
    (sss_cons (ss_set nd (se_op d_div (se_var 0) (se_op d_pow (se_int) (se_int))))
    (sss_cons (ss_set nd (se_callC C__law_on tk (hr.mono (by decide)) (sa_cons (se_var 3) (sa_cons (se_var 4) (sa_cons (se_op d_sub (se_op d_mod (se_var 0) (se_int)) (se_int)) (sa_nil))))))
    (sss_cons (ss_set nd (se_op d_sub (se_op d_mod (se_op d_div (se_var 0) (se_int)) (se_op d_add (se_var 5) (se_int))) (se_int)))
    (sss_cons (ss_set nd (se_op d_sub (se_op d_mod (se_op d_div (se_var 0) (se_int)) (se_op d_add (se_var 5) (se_int))) (se_int)))
    (sss_cons (ss_set nd (se_callC C__law_on tk (hr.mono (by decide)) (sa_cons (se_callC C__law_on tk (hr.mono (by decide)) (sa_cons (se_var 8) (sa_cons (se_var 6) (sa_cons (se_op d_sub (se_int) (se_var 9)) (sa_nil))))) (sa_cons (se_var 7) (sa_cons (se_op d_sub (se_int) (se_var 10)) (sa_nil))))))
    (sss_one (ss_ret (se_tup (sa_cons (se_var 11) (sa_cons (se_callC C__law_on tk (hr.mono (by decide)) (sa_cons (se_tup (sa_cons (se_int) (sa_cons (se_int) (sa_cons (se_int) (sa_nil))))) (sa_cons (se_var 6) (sa_cons (se_var 5) (sa_nil))))) (sa_cons (se_callC C__law_on tk (hr.mono (by decide)) (sa_cons (se_tup (sa_cons (se_int) (sa_cons (se_int) (sa_cons (se_int) (sa_nil))))) (sa_cons (se_var 7) (sa_cons (se_var 5) (sa_nil))))) (sa_nil)))))))))))))))))
theorem cal__law_fence (B : Blts mg blts) (M : Facts K mg) (C__law_pair : Cal P w K mg base "_law_pair" 2 2 f__law_pair) (C__law_on : Cal P w K mg base "_law_on" 1 3 f__law_on) (Fn : FunD K "_law_fence" "_law_fence" (defArgs s__law_fence) (defBody s__law_fence) (defScope s__law_fence) [] [] f fd) (hm : mg "_law_fence" = some (.ref f)) : Cal P w K mg base "_law_fence" 3 3 f__law_fence :=
  cal_mk (N := N__law_fence) (ps := ["_law_number", "_law_sun_here", "_law_dials"]) Fn hm (fun _ _ _ _ _ _ us hl => match us, hl with | [_, _, _], _ => rfl) (ok__law_fence B M C__law_pair C__law_on Fn)
theorem ok__law_name (B : Blts mg blts) (M : Facts K mg) (C__law_wide : Cal P w K mg base "_law_wide" 2 2 f__law_wide) (Fn : FunD K "_law_name" "_law_name" (defArgs s__law_name) (defBody s__law_name) (defScope s__law_name) [] [] f fd) : FnOk P w K mg base (L2.CX P w) 3 f fd ["_law_script", "_law_k"] (spD K 2 f__law_name) :=
  have nd := (sc__law_name).nd
  ok_def (N := N__law_name) Fn sc__law_name rfl fun cdv A outer s H E hr tk hp =>
    sss_cons (ss_set nd (se_str))
    (sss_cons (ss_set nd (se_callC C__law_wide tk (hr.mono (by decide)) (sa_cons (se_var 0) (sa_cons (se_int) (sa_nil)))))
    (sss_cons (ss_set nd (se_op d_add (se_ix d_ix (se_var 2) (se_op d_mod (se_op d_add (se_var 1) (se_op d_div (se_var 3) (se_int))) (se_int))) (se_ix d_ix (se_var 2) (se_op d_div (se_var 1) (se_int)))))
    (sss_one (ss_ret (se_op d_add (se_op d_add (se_op d_mulS (se_str) (se_op d_mod (se_var 3) (se_int))) (se_var 4)) (se_op d_mulS (se_str) (se_op d_mod (se_op d_div (se_var 3) (se_int)) (se_int))))))))
theorem cal__law_name (B : Blts mg blts) (M : Facts K mg) (C__law_wide : Cal P w K mg base "_law_wide" 2 2 f__law_wide) (Fn : FunD K "_law_name" "_law_name" (defArgs s__law_name) (defBody s__law_name) (defScope s__law_name) [] [] f fd) (hm : mg "_law_name" = some (.ref f)) : Cal P w K mg base "_law_name" 3 2 f__law_name :=
  cal_mk (N := N__law_name) (ps := ["_law_script", "_law_k"]) Fn hm (fun _ _ _ _ _ _ us hl => match us, hl with | [_, _], _ => rfl) (ok__law_name B M C__law_wide Fn)
theorem ok__law_yard (B : Blts mg blts) (M : Facts K mg) (C__law_wide : Cal P w K mg base "_law_wide" 2 2 f__law_wide) (C__law_sun : Cal P w K mg base "_law_sun" 3 2 f__law_sun) (C__law_dial : Cal P w K mg base "_law_dial" 3 2 f__law_dial) (C__law_fence : Cal P w K mg base "_law_fence" 3 3 f__law_fence) (C__law_name : Cal P w K mg base "_law_name" 3 2 f__law_name) (Fn : FunD K "_law_yard" "_law_yard" (defArgs s__law_yard) (defBody s__law_yard) (defScope s__law_yard) [] [] f fd) : FnOk P w K mg base (L2.CX P w) 4 f fd ["_law_script", "_law_most_dials", "_law_most_shuts", "_law_most_hours"] (spD K 4 f__law_yard) :=
  have nd := (sc__law_yard).nd
  ok_def (N := N__law_yard) Fn sc__law_yard rfl fun cdv A outer s H E hr tk hp =>
    sss_cons (ss_set nd (se_op d_div (se_callC C__law_wide tk (hr.mono (by decide)) (sa_cons (se_var 0) (sa_cons (se_int) (sa_nil)))) (se_int)))
    (sss_cons (ss_set nd (se_callC C__law_sun tk (hr.mono (by decide)) (sa_cons (se_var 0) (sa_cons (se_op d_add (se_int) (se_op d_mod (se_var 4) (se_var 3))) (sa_nil)))))
    (sss_cons (ss_own nd (sa_nil))
    (sss_cons (ss_for hp rfl (si_range1 (B.at 4) (sa_cons (se_op d_mod (se_op d_div (se_var 4) (se_int)) (se_op d_add (se_var 1) (se_int))) (sa_nil))) (pg_name (i := 7) nd rfl (by first | exact Or.inl rfl | exact Or.inr rfl)) (tg_name 7) (sss_one (ss_app 6 (se_callC C__law_dial tk (hr.mono (by decide)) (sa_cons (se_callC C__law_wide tk (hr.mono (by decide)) (sa_cons (se_var 0) (sa_cons (se_op d_add (se_int) (se_var 7)) (sa_nil)))) (sa_cons (se_var 5) (sa_nil)))))))
    (sss_cons (ss_own nd (sa_nil))
    (sss_cons (ss_for hp rfl (si_range1 (B.at 4) (sa_cons (se_op d_mod (se_op d_div (se_var 4) (se_int)) (se_op d_add (se_var 2) (se_int))) (sa_nil))) (pg_name (i := 7) nd rfl (by first | exact Or.inl rfl | exact Or.inr rfl)) (tg_name 7) (sss_one (ss_freeze 6 (ss_app 8 (se_callC C__law_fence tk (hr.mono (by decide)) (sa_cons (se_callC C__law_wide tk (hr.mono (by decide)) (sa_cons (se_var 0) (sa_cons (se_op d_add (se_int) (se_var 7)) (sa_nil)))) (sa_cons (se_var 5) (sa_cons (se_var 6) (sa_nil)))))))))
    (sss_cons (ss_freeze 8 (ss_setc (own := [("_law_k", 7)]) rfl nd (sw_true rfl rfl rfl (by decide +kernel)) (blkOk_by (N := N__law_yard) (sc := defScope s__law_yard) (by decide +kernel)) (si_range1 (B.at 4) (sa_cons (se_blt d_len (B.at 9) (sa_cons (se_var 8) (sa_nil))) (sa_nil))) (tg_name 7) (fun _ _ _ _ _ => pg_name (i := 7) nd rfl (by first | exact Or.inl rfl | exact Or.inr rfl)) (fun _ _ _ _ _ => sif_nil) (fun _ _ _ _ _ => se_tup (sa_cons (se_callC C__law_name takes0 (hr.mono (by decide)) (sa_cons (se_var 0) (sa_cons (se_var 7) (sa_nil)))) (sa_cons (se_ix d_ix (se_var 8) (se_var 7)) (sa_nil))))))
    (sss_cons (ss_freeze 6 (ss_setc (own := [("_law_k", 7)]) rfl nd (sw_true rfl rfl rfl (by decide +kernel)) (blkOk_by (N := N__law_yard) (sc := defScope s__law_yard) (by decide +kernel)) (si_range1 (B.at 4) (sa_cons (se_blt d_len (B.at 9) (sa_cons (se_var 6) (sa_nil))) (sa_nil))) (tg_name 7) (fun _ _ _ _ _ => pg_name (i := 7) nd rfl (by first | exact Or.inl rfl | exact Or.inr rfl)) (fun _ _ _ _ _ => sif_nil) (fun _ _ _ _ _ => se_tup (sa_cons (se_callC C__law_name takes0 (hr.mono (by decide)) (sa_cons (se_var 0) (sa_cons (se_op d_add (se_int) (se_var 7)) (sa_nil)))) (sa_cons (se_ix d_ix (se_ix d_ix (se_var 6) (se_var 7)) (se_int)) (sa_cons (se_ix d_ix (se_ix d_ix (se_var 6) (se_var 7)) (se_int)) (sa_nil)))))))
    (sss_one (ss_ret (se_tup (sa_cons (se_var 5) (sa_cons (se_var 9) (sa_cons (se_var 10) (sa_nil))))))))))))))
theorem cal__law_yard (B : Blts mg blts) (M : Facts K mg) (C__law_wide : Cal P w K mg base "_law_wide" 2 2 f__law_wide) (C__law_sun : Cal P w K mg base "_law_sun" 3 2 f__law_sun) (C__law_dial : Cal P w K mg base "_law_dial" 3 2 f__law_dial) (C__law_fence : Cal P w K mg base "_law_fence" 3 3 f__law_fence) (C__law_name : Cal P w K mg base "_law_name" 3 2 f__law_name) (Fn : FunD K "_law_yard" "_law_yard" (defArgs s__law_yard) (defBody s__law_yard) (defScope s__law_yard) [] [] f fd) (hm : mg "_law_yard" = some (.ref f)) : Cal P w K mg base "_law_yard" 4 4 f__law_yard :=
  cal_mk (N := N__law_yard) (ps := ["_law_script", "_law_most_dials", "_law_most_shuts", "_law_most_hours"]) Fn hm (fun _ _ _ _ _ _ us hl => match us, hl with | [_, _, _, _], _ => rfl) (ok__law_yard B M C__law_wide C__law_sun C__law_dial C__law_fence C__law_name Fn)
theorem ok__law_flat (B : Blts mg blts) (M : Facts K mg) (C__law_wide : Cal P w K mg base "_law_wide" 2 2 f__law_wide) (C__law_name : Cal P w K mg base "_law_name" 3 2 f__law_name) (Fn : FunD K "_law_flat" "_law_flat" (defArgs s__law_flat) (defBody s__law_flat) (defScope s__law_flat) [] [] f fd) : FnOk P w K mg base (L2.CX P w) 4 f fd ["_law_script", "_law_most_dials", "_law_most_fences", "_law_most_hours"] (spD K 4 f__law_flat) :=
  have nd := (sc__law_flat).nd
  ok_def (N := N__law_flat) Fn sc__law_flat rfl fun cdv A outer s H E hr tk hp =>
    sss_cons (ss_set nd (se_op d_div (se_callC C__law_wide tk (hr.mono (by decide)) (sa_cons (se_var 0) (sa_cons (se_int) (sa_nil)))) (se_int)))
    (sss_cons (ss_set nd (se_op d_add (se_int) (se_op d_mod (se_var 4) (se_var 3))))
    (sss_cons (ss_ownN nd (seo_rg1 rfl (B.at 10) (B.at 4) (se_op d_add (se_var 5) (se_int))))
    (sss_cons (ss_set nd (se_callC C__law_wide tk (hr.mono (by decide)) (sa_cons (se_var 0) (sa_cons (se_int) (sa_nil)))))
    (sss_cons (ss_own nd (sa_nil))
    (sss_cons (ss_for hp rfl (si_range1 (B.at 4) (sa_cons (se_var 5) (sa_nil))) (pg_name (i := 9) nd rfl (by first | exact Or.inl rfl | exact Or.inr rfl)) (tg_name 9) (sss_cons (ss_appP 8 (sep_tup (sap_cons (sep_lift (se_op d_add (se_int) (se_op d_mul (se_int) (se_var 9)))) (sap_cons (sep_tup (sap_cons (sep_pop 6 (se_op d_mod (se_var 7) (se_peek 6 (se_blt d_len (B.at 9) (sa_cons (se_var 6) (sa_nil)))))) (sap_cons (sep_lift (se_int)) (sap_cons (sep_lift (se_int)) (sap_nil))))) (sap_nil)))))
     (sss_one (ss_set nd (se_op d_div (se_var 7) (se_int))))))
    (sss_cons (ss_own nd (sa_nil))
    (sss_cons (ss_for hp rfl (si_range1 (B.at 4) (sa_cons (se_op d_mod (se_op d_div (se_var 4) (se_int)) (se_op d_add (se_var 1) (se_int))) (sa_nil))) (pg_name (i := 9) nd rfl (by first | exact Or.inl rfl | exact Or.inr rfl)) (tg_name 9) (sss_cons (ss_set nd (se_callC C__law_wide tk (hr.mono (by decide)) (sa_cons (se_var 0) (sa_cons (se_op d_add (se_int) (se_var 9)) (sa_nil)))))
     (sss_cons (ss_set nd (se_op d_mod (se_var 7) (se_op d_add (se_var 5) (se_int))))
     (sss_cons (ss_set nd (se_op d_mod (se_op d_div (se_var 7) (se_int)) (se_int)))
     (sss_cons (ss_set nd (se_tup (sa_cons (se_tup (sa_cons (se_int) (sa_cons (se_op d_mul (se_int) (se_var 9)) (sa_cons (se_int) (sa_nil))))) (sa_cons (se_tup (sa_cons (se_op d_add (se_op d_mul (se_int) (se_var 12)) (se_int)) (sa_cons (se_int) (sa_cons (se_int) (sa_nil))))) (sa_cons (se_tup (sa_cons (se_int) (sa_cons (se_int) (sa_cons (se_int) (sa_nil))))) (sa_nil))))))
     (sss_one (ss_app 10 (se_tup (sa_cons (se_callC C__law_name tk (hr.mono (by decide)) (sa_cons (se_var 0) (sa_cons (se_op d_add (se_int) (se_var 9)) (sa_nil)))) (sa_cons (se_var 13) (sa_cons (se_tup (sa_cons (se_op d_mul (se_int) (se_op d_add (se_var 11) (se_var 12))) (sa_cons (se_op d_add (se_op d_mul (se_int) (se_var 9)) (se_int)) (sa_cons (se_int) (sa_nil))))) (sa_nil))))))))))))
    (sss_cons (ss_own nd (sa_nil))
    (sss_cons (ss_for hp rfl (si_range1 (B.at 4) (sa_cons (se_op d_mod (se_op d_div (se_var 4) (se_int)) (se_op d_add (se_var 2) (se_int))) (sa_nil))) (pg_name (i := 9) nd rfl (by first | exact Or.inl rfl | exact Or.inr rfl)) (tg_name 9) (sss_cons (ss_set nd (se_callC C__law_wide tk (hr.mono (by decide)) (sa_cons (se_var 0) (sa_cons (se_op d_add (se_int) (se_var 9)) (sa_nil)))))
     (sss_cons (ss_set nd (se_tup (sa_cons (se_int) (sa_cons (se_un d_neg (se_int)) (sa_cons (se_int) (sa_nil))))))
     (sss_cons (ss_if (st_peek 10 (st_cmp (d_ne hr.units) (se_var 10) (se_lst (sa_nil)) (nomark _))) (sss_one (ss_set nd (se_ix d_ix (se_ixO 10 (se_op d_mod (se_var 7) (se_peek 10 (se_blt d_len (B.at 9) (sa_cons (se_var 10) (sa_nil)))))) (se_int)))) (sss_nil))
     (sss_cons (ss_set nd (se_op d_mod (se_op d_div (se_var 7) (se_int)) (se_int)))
     (sss_cons (ss_set nd (se_op d_add (se_op d_mod (se_op d_div (se_var 7) (se_int)) (se_op d_add (se_var 5) (se_int))) (se_var 12)))
     (sss_cons (ss_set nd (se_tup (sa_cons (se_tup (sa_cons (se_op d_sub (se_op d_sub (se_ix d_ix (se_var 15) (se_int)) (se_op d_mul (se_int) (se_var 16))) (se_int)) (sa_cons (se_op d_sub (se_ix d_ix (se_var 15) (se_int)) (se_int)) (sa_cons (se_int) (sa_nil))))) (sa_cons (se_tup (sa_cons (se_op d_add (se_op d_mul (se_int) (se_var 12)) (se_int)) (sa_cons (se_int) (sa_cons (se_int) (sa_nil))))) (sa_cons (se_tup (sa_cons (se_int) (sa_cons (se_int) (sa_cons (se_int) (sa_nil))))) (sa_nil))))))
     (sss_one (ss_app 14 (se_tup (sa_cons (se_callC C__law_name tk (hr.mono (by decide)) (sa_cons (se_var 0) (sa_cons (se_var 9) (sa_nil)))) (sa_cons (se_var 13) (sa_nil)))))))))))))
    (sss_one (ss_freeze 10 (ss_freeze 14 (ss_freeze 8 (ss_ret (se_tup (sa_cons (se_var 8) (sa_cons (se_var 14) (sa_cons (se_var 10) (sa_nil)))))))))))))))))))
theorem cal__law_flat (B : Blts mg blts) (M : Facts K mg) (C__law_wide : Cal P w K mg base "_law_wide" 2 2 f__law_wide) (C__law_name : Cal P w K mg base "_law_name" 3 2 f__law_name) (Fn : FunD K "_law_flat" "_law_flat" (defArgs s__law_flat) (defBody s__law_flat) (defScope s__law_flat) [] [] f fd) (hm : mg "_law_flat" = some (.ref f)) : Cal P w K mg base "_law_flat" 4 4 f__law_flat :=
  cal_mk (N := N__law_flat) (ps := ["_law_script", "_law_most_dials", "_law_most_fences", "_law_most_hours"]) Fn hm (fun _ _ _ _ _ _ us hl => match us, hl with | [_, _, _, _], _ => rfl) (ok__law_flat B M C__law_wide C__law_name Fn)
theorem ok__law_either (B : Blts mg blts) (M : Facts K mg) (C__law_cell : Cal P w K mg base "_law_cell" 1 2 f__law_cell) (C__law_flat : Cal P w K mg base "_law_flat" 4 4 f__law_flat) (C__law_yard : Cal P w K mg base "_law_yard" 4 4 f__law_yard) (Fn : FunD K "_law_either" "_law_either" (defArgs s__law_either) (defBody s__law_either) (defScope s__law_either) [] [] f fd) : FnOk P w K mg base (L2.CX P w) 5 f fd ["_law_script", "_law_most_dials", "_law_most_fences", "_law_most_hours"] (spD K 4 f__law_either) :=
  have nd := (sc__law_either).nd
  ok_def (N := N__law_either) Fn sc__law_either rfl fun cdv A outer s H E hr tk hp =>
    sss_cons (ss_if (st_cmp (d_eq hr.units) (se_op d_mod (se_op d_div (se_callC C__law_cell tk (hr.mono (by decide)) (sa_cons (se_var 0) (sa_cons (se_int) (sa_nil)))) (se_int)) (se_int)) (se_int) (nomark _)) (sss_one (ss_ret (se_callC C__law_flat tk (hr.mono (by decide)) (sa_cons (se_var 0) (sa_cons (se_var 1) (sa_cons (se_var 2) (sa_cons (se_var 3) (sa_nil)))))))) (sss_nil))
    (sss_one (ss_ret (se_callC C__law_yard tk (hr.mono (by decide)) (sa_cons (se_var 0) (sa_cons (se_var 1) (sa_cons (se_var 2) (sa_cons (se_var 3) (sa_nil))))))))
theorem cal__law_either (B : Blts mg blts) (M : Facts K mg) (C__law_cell : Cal P w K mg base "_law_cell" 1 2 f__law_cell) (C__law_flat : Cal P w K mg base "_law_flat" 4 4 f__law_flat) (C__law_yard : Cal P w K mg base "_law_yard" 4 4 f__law_yard) (Fn : FunD K "_law_either" "_law_either" (defArgs s__law_either) (defBody s__law_either) (defScope s__law_either) [] [] f fd) (hm : mg "_law_either" = some (.ref f)) : Cal P w K mg base "_law_either" 5 4 f__law_either :=
  cal_mk (N := N__law_either) (ps := ["_law_script", "_law_most_dials", "_law_most_fences", "_law_most_hours"]) Fn hm (fun _ _ _ _ _ _ us hl => match us, hl with | [_, _, _, _], _ => rfl) (ok__law_either B M C__law_cell C__law_flat C__law_yard Fn)
theorem ok__law_hours (B : Blts mg blts) (M : Facts K mg) (C__law_wide : Cal P w K mg base "_law_wide" 2 2 f__law_wide) (Fn : FunD K "_law_hours" "_law_hours" (defArgs s__law_hours) (defBody s__law_hours) (defScope s__law_hours) [] [] f fd) : FnOk P w K mg base (L2.CX P w) 3 f fd ["_law_script", "_law_yard_here", "_law_good"] (spD K 3 f__law_hours) :=
  have nd := (sc__law_hours).nd
  ok_def (N := N__law_hours) Fn sc__law_hours rfl fun cdv A outer s H E hr tk hp =>
    sss_cons (ss_setc (own := [("_law_row", 7)]) rfl nd (sw_true rfl rfl rfl (by decide +kernel)) (blkOk_by (N := N__law_hours) (sc := defScope s__law_hours) (by decide +kernel)) (si_any (se_ix d_ix (se_var 1) (se_int))) (tg_name 7) (fun _ _ _ _ _ => pg_name (i := 7) nd rfl (by first | exact Or.inl rfl | exact Or.inr rfl)) (fun _ _ _ _ _ => sif_nil) (fun _ _ _ _ _ => se_ix d_ix (se_var 7) (se_int)))
    (sss_cons (ss_set nd (se_op d_div (se_callC C__law_wide tk (hr.mono (by decide)) (sa_cons (se_var 0) (sa_cons (se_int) (sa_nil)))) (se_int)))
    (sss_cons (ss_if (st_bool (sw_and (st_cmp (d_gt) (se_op d_mod (se_var 4) (se_int)) (se_int) (nomark _)) (sw_and1 (st_cmp (d_ne hr.units) (se_var 2) (se_lst (sa_nil)) (nomark _))))) (sss_one (ss_set nd (se_var 2))) (sss_nil))
    (sss_cons (ss_own nd (sa_nil))
    (sss_cons (ss_for hp rfl (si_range1 (B.at 4) (sa_cons (se_op d_mod (se_op d_div (se_var 4) (se_int)) (se_int)) (sa_nil))) (pg_name (i := 6) nd rfl (by first | exact Or.inl rfl | exact Or.inr rfl)) (tg_name 6) (sss_one (ss_app 5 (se_ix d_ix (se_var 3) (se_op d_mod (se_op d_div (se_var 4) (se_op d_mul (se_int) (se_op d_add (se_op d_add (se_op d_mul (se_var 6) (se_var 6)) (se_op d_mul (se_int) (se_var 6))) (se_int)))) (se_blt d_len (B.at 9) (sa_cons (se_var 3) (sa_nil))))))))
    (sss_one (ss_freeze 5 (ss_ret (se_var 5))))))))
theorem cal__law_hours (B : Blts mg blts) (M : Facts K mg) (C__law_wide : Cal P w K mg base "_law_wide" 2 2 f__law_wide) (Fn : FunD K "_law_hours" "_law_hours" (defArgs s__law_hours) (defBody s__law_hours) (defScope s__law_hours) [] [] f fd) (hm : mg "_law_hours" = some (.ref f)) : Cal P w K mg base "_law_hours" 3 3 f__law_hours :=
  cal_mk (N := N__law_hours) (ps := ["_law_script", "_law_yard_here", "_law_good"]) Fn hm (fun _ _ _ _ _ _ us hl => match us, hl with | [_, _, _], _ => rfl) (ok__law_hours B M C__law_wide Fn)
theorem ok__law_lists (B : Blts mg blts) (M : Facts K mg)  (Fn : FunD K "_law_lists" "_law_lists" (defArgs s__law_lists) (defBody s__law_lists) (defScope s__law_lists) [] [] f fd) : FnOk P w K mg base (L2.CX P w) 1 f fd ["_law_many", "_law_some"] (spD K 2 f__law_lists) :=
  have nd := (sc__law_lists).nd
  ok_def (N := N__law_lists) Fn sc__law_lists rfl fun cdv A outer s H E hr tk hp =>
    sss_cons (ss_set nd (se_lst (sa_cons (se_lst (sa_nil)) (sa_nil))))
    (sss_cons (ss_for hp rfl (si_range1 (B.at 4) (sa_cons (se_var 1) (sa_nil))) (pg_name (i := 3) nd rfl (by first | exact Or.inl rfl | exact Or.inr rfl)) (tg_name 3) (sss_one (ss_set nd (se_op d_add (se_var 2) (se_comp (own := [("_law_one", 4)]) rfl nd (blkOk_by (N := N__law_lists) (sc := defScope s__law_lists) (by decide +kernel)) (si_any (se_var 2)) (tg_name 4) (fun _ _ _ _ _ => pg_name (i := 4) nd rfl (by first | exact Or.inl rfl | exact Or.inr rfl)) (fun _ _ _ _ _ => sif_nil) (fun _ _ _ _ _ => se_op d_add (se_var 4) (se_lst (sa_cons (se_var 3) (sa_nil)))))))))
    (sss_one (ss_ret (se_blt (d_sortR hr.units) (B.at 7) (sa_cons (se_comp (own := [("_law_one", 4)]) rfl nd (blkOk_by (N := N__law_lists) (sc := defScope s__law_lists) (by decide +kernel)) (si_any (se_var 2)) (tg_name 4) (fun _ _ _ _ _ => pg_name (i := 4) nd rfl (by first | exact Or.inl rfl | exact Or.inr rfl)) (fun _ _ _ _ _ => sif_one (st_cmp (d_eq hr.units) (se_blt d_len (B.at 9) (sa_cons (se_var 4) (sa_nil))) (se_var 0) (nomark _))) (fun _ _ _ _ _ => se_var 4)) (sa_nil))))))
theorem cal__law_lists (B : Blts mg blts) (M : Facts K mg)  (Fn : FunD K "_law_lists" "_law_lists" (defArgs s__law_lists) (defBody s__law_lists) (defScope s__law_lists) [] [] f fd) (hm : mg "_law_lists" = some (.ref f)) : Cal P w K mg base "_law_lists" 1 2 f__law_lists :=
  cal_mk (N := N__law_lists) (ps := ["_law_many", "_law_some"]) Fn hm (fun _ _ _ _ _ _ us hl => match us, hl with | [_, _], _ => rfl) (ok__law_lists B M  Fn)
theorem ok__law_read (B : Blts mg blts) (M : Facts K mg) (C_told_at : Cal P w K mg base "told_at" 8 3 f_told_at) (Fn : FunD K "_law_read" "_law_read" (defArgs s__law_read) (defBody s__law_read) (defScope s__law_read) [] [] f fd) : FnOk P w K mg base (L2.CX P w) 9 f fd ["_law_yard_here", "_law_numbers", "_law_hour"] (spD K 3 f__law_read) :=
  have nd := (sc__law_read).nd
  ok_def (N := N__law_read) Fn sc__law_read rfl fun cdv A outer s H E hr tk hp =>
    sss_cons (ss_setc (own := [("_law_number", 5)]) rfl nd (sw_true rfl rfl rfl (by decide +kernel)) (blkOk_by (N := N__law_read) (sc := defScope s__law_read) (by decide +kernel)) (si_range1 (B.at 4) (sa_cons (se_blt d_len (B.at 9) (sa_cons (se_ix d_ix (se_var 0) (se_int)) (sa_nil))) (sa_nil))) (tg_name 5) (fun _ _ _ _ _ => pg_name (i := 5) nd rfl (by first | exact Or.inl rfl | exact Or.inr rfl)) (fun _ _ _ _ _ => sif_one (st_cmp (d_ninX) (se_var 5) (se_var 1) (by rfl))) (fun _ _ _ _ _ => se_ix d_ix (se_ix d_ix (se_var 0) (se_int)) (se_var 5)))
    (sss_cons (ss_for hp rfl (si_any (se_ix d_ix (se_var 0) (se_int))) (pg_name (i := 4) nd rfl (by first | exact Or.inl rfl | exact Or.inr rfl)) (tg_name 4) (sss_one (ss_if (st_cmp (d_eq hr.units) (se_ix d_ix (se_callC C_told_at tk (hr.mono (by decide)) (sa_cons (se_tup (sa_cons (se_ix d_ix (se_var 0) (se_int)) (sa_cons (se_var 3) (sa_cons (se_ix d_ix (se_var 0) (se_int)) (sa_nil))))) (sa_cons (se_var 2) (sa_cons (se_ix d_ix (se_var 4) (se_int)) (sa_nil))))) (se_int)) (se_str) (nomark _)) (sss_one (ss_ret (se_bl))) (sss_nil))))
    (sss_one (ss_ret (se_bl))))
theorem cal__law_read (B : Blts mg blts) (M : Facts K mg) (C_told_at : Cal P w K mg base "told_at" 8 3 f_told_at) (Fn : FunD K "_law_read" "_law_read" (defArgs s__law_read) (defBody s__law_read) (defScope s__law_read) [] [] f fd) (hm : mg "_law_read" = some (.ref f)) : Cal P w K mg base "_law_read" 9 3 f__law_read :=
  cal_mk (N := N__law_read) (ps := ["_law_yard_here", "_law_numbers", "_law_hour"]) Fn hm (fun _ _ _ _ _ _ us hl => match us, hl with | [_, _, _], _ => rfl) (ok__law_read B M C_told_at Fn)
theorem ok__law_missed (B : Blts mg blts) (M : Facts K mg) (C__law_read : Cal P w K mg base "_law_read" 9 3 f__law_read) (Fn : FunD K "_law_missed" "_law_missed" (defArgs s__law_missed) (defBody s__law_missed) (defScope s__law_missed) [] [] f fd) : FnOk P w K mg base (L2.CX P w) 10 f fd ["_law_yard_here", "_law_numbers", "_law_hours_here"] (spD K 3 f__law_missed) :=
  have nd := (sc__law_missed).nd
  ok_def (N := N__law_missed) Fn sc__law_missed rfl fun cdv A outer s H E hr tk hp =>
    sss_cons (ss_for hp rfl (si_any (se_var 2)) (pg_name (i := 3) nd rfl (by first | exact Or.inl rfl | exact Or.inr rfl)) (tg_name 3) (sss_one (ss_if (st_not (st_val (se_callC C__law_read tk (hr.mono (by decide)) (sa_cons (se_var 0) (sa_cons (se_var 1) (sa_cons (se_var 3) (sa_nil))))))) (sss_one (ss_ret (se_var 3))) (sss_nil))))
    (sss_one (ss_ret (se_non)))
theorem cal__law_missed (B : Blts mg blts) (M : Facts K mg) (C__law_read : Cal P w K mg base "_law_read" 9 3 f__law_read) (Fn : FunD K "_law_missed" "_law_missed" (defArgs s__law_missed) (defBody s__law_missed) (defScope s__law_missed) [] [] f fd) (hm : mg "_law_missed" = some (.ref f)) : Cal P w K mg base "_law_missed" 10 3 f__law_missed :=
  cal_mk (N := N__law_missed) (ps := ["_law_yard_here", "_law_numbers", "_law_hours_here"]) Fn hm (fun _ _ _ _ _ _ us hl => match us, hl with | [_, _, _], _ => rfl) (ok__law_missed B M C__law_read Fn)
theorem ok__law_due (B : Blts mg blts) (M : Facts K mg) (C__law_missed : Cal P w K mg base "_law_missed" 10 3 f__law_missed) (C__law_lists : Cal P w K mg base "_law_lists" 1 2 f__law_lists) (Fn : FunD K "_law_due" "_law_due" (defArgs s__law_due) (defBody s__law_due) (defScope s__law_due) [] [] f fd) : FnOk P w K mg base (L2.CX P w) 11 f fd ["_law_yard_here", "_law_hours_here"] (spD K 2 f__law_due) :=
  have nd := (sc__law_due).nd
  ok_def (N := N__law_due) Fn sc__law_due rfl fun cdv A outer s H E hr tk hp =>
    sss_cons (ss_set nd (se_blt d_len (B.at 9) (sa_cons (se_ix d_ix (se_var 0) (se_int)) (sa_nil))))
    (sss_cons (ss_set nd (se_callC C__law_missed tk (hr.mono (by decide)) (sa_cons (se_var 0) (sa_cons (se_keep (seo_rg1 rfl (B.at 10) (B.at 4) (se_var 2))) (sa_cons (se_var 1) (sa_nil))))))
    (sss_cons (ss_if (st_cmp (d_notN) (se_var 3) (se_non) (nomark _)) (sss_one (ss_ret (se_tup (sa_cons (se_str) (sa_cons (se_var 3) (sa_nil)))))) (sss_nil))
    (sss_cons (ss_set nd (se_lst (sa_nil)))
    (sss_cons (ss_for hp rfl (si_range1 (B.at 4) (sa_cons (se_op d_add (se_var 2) (se_int)) (sa_nil))) (pg_name (i := 5) nd rfl (by first | exact Or.inl rfl | exact Or.inr rfl)) (tg_name 5) (sss_cons (ss_setc (own := [("_law_one", 8)]) rfl nd (sw_true rfl rfl rfl (by decide +kernel)) (blkOk_by (N := N__law_due) (sc := defScope s__law_due) (by decide +kernel)) (si_any (se_callC C__law_lists tk (hr.mono (by decide)) (sa_cons (se_var 5) (sa_cons (se_var 2) (sa_nil))))) (tg_name 8) (fun _ _ _ _ _ => pg_name (i := 8) nd rfl (by first | exact Or.inl rfl | exact Or.inr rfl)) (fun _ _ _ _ _ => sif_nil) (fun _ _ _ _ _ => se_tup (sa_cons (se_var 8) (sa_cons (se_callC C__law_missed takes0 (hr.mono (by decide)) (sa_cons (se_var 0) (sa_cons (se_var 8) (sa_cons (se_var 1) (sa_nil))))) (sa_nil)))))
     (sss_cons (ss_setc (own := [("_law_row", 9)]) rfl nd (sw_true rfl rfl rfl (by decide +kernel)) (blkOk_by (N := N__law_due) (sc := defScope s__law_due) (by decide +kernel)) (si_any (se_var 6)) (tg_name 9) (fun _ _ _ _ _ => pg_name (i := 9) nd rfl (by first | exact Or.inl rfl | exact Or.inr rfl)) (fun _ _ _ _ _ => sif_one (st_cmp (d_isN) (se_ix d_ix (se_var 9) (se_int)) (se_non) (nomark _))) (fun _ _ _ _ _ => se_ix d_ix (se_var 9) (se_int)))
     (sss_cons (ss_if (st_cmp (d_ne hr.units) (se_var 7) (se_lst (sa_nil)) (nomark _)) (sss_one (ss_ret (se_tup (sa_cons (se_str) (sa_cons (se_comp (own := [("_law_number", 10)]) rfl nd (blkOk_by (N := N__law_due) (sc := defScope s__law_due) (by decide +kernel)) (si_any (se_ix d_ix (se_var 7) (se_int))) (tg_name 10) (fun _ _ _ _ _ => pg_name (i := 10) nd rfl (by first | exact Or.inl rfl | exact Or.inr rfl)) (fun _ _ _ _ _ => sif_nil) (fun _ _ _ _ _ => se_ix d_ix (se_ix d_ix (se_ix d_ix (se_var 0) (se_int)) (se_var 10)) (se_int))) (sa_cons (se_var 4) (sa_nil))))))) (sss_nil))
     (sss_one (ss_set nd (se_var 6)))))))
    (sss_one (ss_ret (se_non)))))))
theorem cal__law_due (B : Blts mg blts) (M : Facts K mg) (C__law_missed : Cal P w K mg base "_law_missed" 10 3 f__law_missed) (C__law_lists : Cal P w K mg base "_law_lists" 1 2 f__law_lists) (Fn : FunD K "_law_due" "_law_due" (defArgs s__law_due) (defBody s__law_due) (defScope s__law_due) [] [] f fd) (hm : mg "_law_due" = some (.ref f)) : Cal P w K mg base "_law_due" 11 2 f__law_due :=
  cal_mk (N := N__law_due) (ps := ["_law_yard_here", "_law_hours_here"]) Fn hm (fun _ _ _ _ _ _ us hl => match us, hl with | [_, _], _ => rfl) (ok__law_due B M C__law_missed C__law_lists Fn)
theorem ok_law (B : Blts mg blts) (M : Facts K mg) (C__law_either : Cal P w K mg base "_law_either" 5 4 f__law_either) (C__law_hours : Cal P w K mg base "_law_hours" 3 3 f__law_hours) (C__law_read : Cal P w K mg base "_law_read" 9 3 f__law_read) (C__law_due : Cal P w K mg base "_law_due" 11 2 f__law_due) (C_fewest_gone : Cal P w K mg base "fewest_gone" 11 2 f_fewest_gone) (Fn : FunD K "law" "law" (defArgs s_law) (defBody s_law) (defScope s_law) [] [] f fd) : FnOk P w K mg base (L2.CX P w) 12 f fd ["_law_script"] (spD K 1 f_law) :=
  have nd := (sc_law).nd
  ok_def (N := N_law) Fn sc_law rfl fun cdv A outer s H E hr tk hp =>
    sss_cons (ss_set nd (se_callC C__law_either tk (hr.mono (by decide)) (sa_cons (se_var 0) (sa_cons (se_int) (sa_cons (se_int) (sa_cons (se_int) (sa_nil)))))))
    (sss_cons (ss_set nd (se_keep (seo_rg1 rfl (B.at 10) (B.at 4) (se_blt d_len (B.at 9) (sa_cons (se_ix d_ix (se_var 1) (se_int)) (sa_nil))))))
    (sss_cons (ss_set nd (se_callC C__law_hours tk (hr.mono (by decide)) (sa_cons (se_var 0) (sa_cons (se_var 1) (sa_cons (se_comp (own := [("_law_row", 9)]) rfl nd (blkOk_by (N := N_law) (sc := defScope s_law) (by decide +kernel)) (si_any (se_ix d_ix (se_var 1) (se_int))) (tg_name 9) (fun _ _ _ _ _ => pg_name (i := 9) nd rfl (by first | exact Or.inl rfl | exact Or.inr rfl)) (fun _ _ _ _ _ => sif_one (st_val (se_callC C__law_read takes0 (hr.mono (by decide)) (sa_cons (se_var 1) (sa_cons (se_var 2) (sa_cons (se_ix d_ix (se_var 9) (se_int)) (sa_nil))))))) (fun _ _ _ _ _ => se_ix d_ix (se_var 9) (se_int))) (sa_nil))))))
    (sss_cons (ss_set nd (se_callC C__law_due tk (hr.mono (by decide)) (sa_cons (se_var 1) (sa_cons (se_var 3) (sa_nil)))))
    (sss_cons (ss_ownT nd (sao_c (set_tup (sao_n (seo_list (B.at 10) (sa_cons (se_ix d_ix (se_var 1) (se_int)) (sa_nil))) (sao_n (seo_list (B.at 10) (sa_cons (se_ix d_ix (se_var 1) (se_int)) (sa_nil))) (sao_n (seo_list (B.at 10) (sa_cons (se_ix d_ix (se_var 1) (se_int)) (sa_nil))) (sao_nil))))) (sao_n (seo_list (B.at 10) (sa_cons (se_var 3) (sa_nil))) (sao_nil))))
    (sss_mu 5 6 7 8 (by decide) (by decide) (by decide) (by decide) (by decide) (by decide) M.nl (ps_set nd rfl (by first | exact Or.inl rfl | exact Or.inr rfl) (pe_fresh (se_callC C_fewest_gone tk (hr.mono (by decide)) (sa_cons (se_ix d_ix (se_var 5) (se_int)) (sa_cons (se_ix d_ix (se_var 5) (se_int)) (sa_nil))))))
    (ps_if (st_bool (sw_or (st_not (st_val (se_blt d_isi (B.at 1) (sa_cons (se_var 6) (sa_cons (se_ty (B.at 5)) (sa_nil)))))) (sw_or (st_cmp (d_ne hr.units) (se_var 6) (se_var 4) (nomark _)) (sw_or1 (st_cmp (d_ne hr.units) (se_var 5) (se_lst (sa_cons (se_var 1) (sa_cons (se_var 3) (sa_nil)))) (nomark _)))))) (pss_one (ps_ret pe_bl)) pss_nil)
    (ps_if (st_cmp (d_eq hr.units) (se_ix d_ix (se_var 6) (se_int)) (se_str) (nomark _)) (pss_cons (ps_if (st_bool (sw_or (st_not (st_val (se_blt d_isi (B.at 1) (sa_cons (se_ix d_ix (se_var 6) (se_int)) (sa_cons (se_ty (B.at 10)) (sa_nil)))))) (sw_or1 (st_not (st_val (se_blt d_isi (B.at 1) (sa_cons (se_ix d_ix (se_var 6) (se_int)) (sa_cons (se_ty (B.at 10)) (sa_nil))))))))) (pss_one (ps_ret pe_bl)) pss_nil) (pss_cons (ps_for hp rfl (pi_any (pe_ix ix_seq (pe_var rfl (by first | exact Or.inl rfl | exact Or.inr (Or.inl rfl) | exact Or.inr (Or.inr rfl))) pe_int (fun _ _ => rfl))) (pg_tup rfl (pgs_cons (pg_name nd rfl (by first | exact Or.inl rfl | exact Or.inr rfl)) (pgs_cons (pg_name nd rfl (by first | exact Or.inl rfl | exact Or.inr rfl)) pgs_nil))) (pss_one (ps_expr (pe_bm PySem.F.plainAttrs_list PySem.F.slot_list_append PySem.F.type_list_append mt_append (pe_var rfl (by first | exact Or.inl rfl | exact Or.inr (Or.inl rfl) | exact Or.inr (Or.inr rfl))) (pa_cons pe_int pa_nil)))))
      (pss_cons (ps_expr (pe_bm PySem.F.plainAttrs_list PySem.F.slot_list_append PySem.F.type_list_append mt_append (pe_ix ix_seq (pe_var rfl (by first | exact Or.inl rfl | exact Or.inr (Or.inl rfl) | exact Or.inr (Or.inr rfl))) pe_int (fun _ _ => rfl)) (pa_cons pe_str pa_nil))) (pss_one (ps_expr (pe_bm PySem.F.plainAttrs_list PySem.F.slot_list_append PySem.F.type_list_append mt_append (pe_ix ix_seq (pe_var rfl (by first | exact Or.inl rfl | exact Or.inr (Or.inl rfl) | exact Or.inr (Or.inr rfl))) pe_int (fun _ _ => rfl)) (pa_cons pe_str pa_nil))))))) pss_nil)
    (sss_one (ss_ret (se_cmp (d_eq hr.units) (se_callC C_fewest_gone tk (hr.mono (by decide)) (sa_cons (se_var 1) (sa_cons (se_var 3) (sa_nil)))) (se_var 4) (nomark _)))))))))
end
/-! ### the head -/
def d_is_whole : He.DefD := ⟨("is_whole", none), "is_whole", "is_whole", defArgs s_is_whole, defBody s_is_whole, defScope s_is_whole, [], []⟩
def d_divisor_of : He.DefD := ⟨("divisor_of", none), "divisor_of", "divisor_of", defArgs s_divisor_of, defBody s_divisor_of, defScope s_divisor_of, [], []⟩
def d_ratio_of : He.DefD := ⟨("ratio_of", none), "ratio_of", "ratio_of", defArgs s_ratio_of, defBody s_ratio_of, defScope s_ratio_of, [], []⟩
def d_ratio_sum : He.DefD := ⟨("ratio_sum", none), "ratio_sum", "ratio_sum", defArgs s_ratio_sum, defBody s_ratio_sum, defScope s_ratio_sum, [], []⟩
def d_ratio_less : He.DefD := ⟨("ratio_less", none), "ratio_less", "ratio_less", defArgs s_ratio_less, defBody s_ratio_less, defScope s_ratio_less, [], []⟩
def d_ratio_times : He.DefD := ⟨("ratio_times", none), "ratio_times", "ratio_times", defArgs s_ratio_times, defBody s_ratio_times, defScope s_ratio_times, [], []⟩
def d_ratio_by : He.DefD := ⟨("ratio_by", none), "ratio_by", "ratio_by", defArgs s_ratio_by, defBody s_ratio_by, defScope s_ratio_by, [], []⟩
def d_is_under : He.DefD := ⟨("is_under", none), "is_under", "is_under", defArgs s_is_under, defBody s_is_under, defScope s_is_under, [], []⟩
def d_dot_of : He.DefD := ⟨("dot_of", none), "dot_of", "dot_of", defArgs s_dot_of, defBody s_dot_of, defScope s_dot_of, [], []⟩
def d_cross_of : He.DefD := ⟨("cross_of", none), "cross_of", "cross_of", defArgs s_cross_of, defBody s_cross_of, defScope s_cross_of, [], []⟩
def d_direction_at : He.DefD := ⟨("direction_at", none), "direction_at", "direction_at", defArgs s_direction_at, defBody s_direction_at, defScope s_direction_at, [], []⟩
def d_is_up : He.DefD := ⟨("is_up", none), "is_up", "is_up", defArgs s_is_up, defBody s_is_up, defScope s_is_up, [], []⟩
def d_front_of : He.DefD := ⟨("front_of", none), "front_of", "front_of", defArgs s_front_of, defBody s_front_of, defScope s_front_of, [], []⟩
def d_point_of : He.DefD := ⟨("point_of", none), "point_of", "point_of", defArgs s_point_of, defBody s_point_of, defScope s_point_of, [], []⟩
def d_lies_on : He.DefD := ⟨("lies_on", none), "lies_on", "lies_on", defArgs s_lies_on, defBody s_lies_on, defScope s_lies_on, [], []⟩
def d_comes_from_ahead : He.DefD := ⟨("comes_from_ahead", none), "comes_from_ahead", "comes_from_ahead", defArgs s_comes_from_ahead, defBody s_comes_from_ahead, defScope s_comes_from_ahead, [], []⟩
def d_as_point : He.DefD := ⟨("as_point", none), "as_point", "as_point", defArgs s_as_point, defBody s_as_point, defScope s_as_point, [], []⟩
def d_point_less : He.DefD := ⟨("point_less", none), "point_less", "point_less", defArgs s_point_less, defBody s_point_less, defScope s_point_less, [], []⟩
def d_point_dot : He.DefD := ⟨("point_dot", none), "point_dot", "point_dot", defArgs s_point_dot, defBody s_point_dot, defScope s_point_dot, [], []⟩
def d_meeting_of : He.DefD := ⟨("meeting_of", none), "meeting_of", "meeting_of", defArgs s_meeting_of, defBody s_meeting_of, defScope s_meeting_of, [], []⟩
def d_shadow_of : He.DefD := ⟨("shadow_of", none), "shadow_of", "shadow_of", defArgs s_shadow_of, defBody s_shadow_of, defScope s_shadow_of, [], []⟩
def d_is_beyond : He.DefD := ⟨("is_beyond", none), "is_beyond", "is_beyond", defArgs s_is_beyond, defBody s_is_beyond, defScope s_is_beyond, [], []⟩
def d_hides_point : He.DefD := ⟨("hides_point", none), "hides_point", "hides_point", defArgs s_hides_point, defBody s_hides_point, defScope s_hides_point, [], []⟩
def d_dial_of : He.DefD := ⟨("dial_of", none), "dial_of", "dial_of", defArgs s_dial_of, defBody s_dial_of, defScope s_dial_of, [], []⟩
def d_hiders : He.DefD := ⟨("hiders", none), "hiders", "hiders", defArgs s_hiders, defBody s_hiders, defScope s_hiders, [], []⟩
def d_told_at : He.DefD := ⟨("told_at", none), "told_at", "told_at", defArgs s_told_at, defBody s_told_at, defScope s_told_at, [], []⟩
def d_lists_of : He.DefD := ⟨("lists_of", none), "lists_of", "lists_of", defArgs s_lists_of, defBody s_lists_of, defScope s_lists_of, [], []⟩
def d_without_walls : He.DefD := ⟨("without_walls", none), "without_walls", "without_walls", defArgs s_without_walls, defBody s_without_walls, defScope s_without_walls, [], []⟩
def d_readers : He.DefD := ⟨("readers", none), "readers", "readers", defArgs s_readers, defBody s_readers, defScope s_readers, [], []⟩
def d_look_at_hours : He.DefD := ⟨("look_at_hours", none), "look_at_hours", "look_at_hours", defArgs s_look_at_hours, defBody s_look_at_hours, defScope s_look_at_hours, [], []⟩
def d_first_dark : He.DefD := ⟨("first_dark", none), "first_dark", "first_dark", defArgs s_first_dark, defBody s_first_dark, defScope s_first_dark, [], []⟩
def d_fewest_gone : He.DefD := ⟨("fewest_gone", none), "fewest_gone", "fewest_gone", defArgs s_fewest_gone, defBody s_fewest_gone, defScope s_fewest_gone, [], []⟩
def d__law_cell : He.DefD := ⟨("_law_cell", none), "_law_cell", "_law_cell", defArgs s__law_cell, defBody s__law_cell, defScope s__law_cell, [], []⟩
def d__law_wide : He.DefD := ⟨("_law_wide", none), "_law_wide", "_law_wide", defArgs s__law_wide, defBody s__law_wide, defScope s__law_wide, [], []⟩
def d__law_triple : He.DefD := ⟨("_law_triple", none), "_law_triple", "_law_triple", defArgs s__law_triple, defBody s__law_triple, defScope s__law_triple, [], []⟩
def d__law_cross : He.DefD := ⟨("_law_cross", none), "_law_cross", "_law_cross", defArgs s__law_cross, defBody s__law_cross, defScope s__law_cross, [], []⟩
def d__law_dot : He.DefD := ⟨("_law_dot", none), "_law_dot", "_law_dot", defArgs s__law_dot, defBody s__law_dot, defScope s__law_dot, [], []⟩
def d__law_on : He.DefD := ⟨("_law_on", none), "_law_on", "_law_on", defArgs s__law_on, defBody s__law_on, defScope s__law_on, [], []⟩
def d__law_pair : He.DefD := ⟨("_law_pair", none), "_law_pair", "_law_pair", defArgs s__law_pair, defBody s__law_pair, defScope s__law_pair, [], []⟩
def d__law_sun : He.DefD := ⟨("_law_sun", none), "_law_sun", "_law_sun", defArgs s__law_sun, defBody s__law_sun, defScope s__law_sun, [], []⟩
def d__law_dial : He.DefD := ⟨("_law_dial", none), "_law_dial", "_law_dial", defArgs s__law_dial, defBody s__law_dial, defScope s__law_dial, [], []⟩
def d__law_fence : He.DefD := ⟨("_law_fence", none), "_law_fence", "_law_fence", defArgs s__law_fence, defBody s__law_fence, defScope s__law_fence, [], []⟩
def d__law_name : He.DefD := ⟨("_law_name", none), "_law_name", "_law_name", defArgs s__law_name, defBody s__law_name, defScope s__law_name, [], []⟩
def d__law_yard : He.DefD := ⟨("_law_yard", none), "_law_yard", "_law_yard", defArgs s__law_yard, defBody s__law_yard, defScope s__law_yard, [], []⟩
def d__law_flat : He.DefD := ⟨("_law_flat", none), "_law_flat", "_law_flat", defArgs s__law_flat, defBody s__law_flat, defScope s__law_flat, [], []⟩
def d__law_either : He.DefD := ⟨("_law_either", none), "_law_either", "_law_either", defArgs s__law_either, defBody s__law_either, defScope s__law_either, [], []⟩
def d__law_hours : He.DefD := ⟨("_law_hours", none), "_law_hours", "_law_hours", defArgs s__law_hours, defBody s__law_hours, defScope s__law_hours, [], []⟩
def d__law_lists : He.DefD := ⟨("_law_lists", none), "_law_lists", "_law_lists", defArgs s__law_lists, defBody s__law_lists, defScope s__law_lists, [], []⟩
def d__law_read : He.DefD := ⟨("_law_read", none), "_law_read", "_law_read", defArgs s__law_read, defBody s__law_read, defScope s__law_read, [], []⟩
def d__law_missed : He.DefD := ⟨("_law_missed", none), "_law_missed", "_law_missed", defArgs s__law_missed, defBody s__law_missed, defScope s__law_missed, [], []⟩
def d__law_due : He.DefD := ⟨("_law_due", none), "_law_due", "_law_due", defArgs s__law_due, defBody s__law_due, defScope s__law_due, [], []⟩
def d_law : He.DefD := ⟨("law", none), "law", "law", defArgs s_law, defBody s_law, defScope s_law, [], []⟩
def di_NoHour : He.DefD := ⟨("NoHour", some "__init__"), "__init__", "NoHour.__init__", defArgs si_NoHour, defBody si_NoHour, defScope si_NoHour, [], []⟩
def fn : List He.DefD := [d_is_whole, d_divisor_of, d_ratio_of, d_ratio_sum, d_ratio_less, d_ratio_times, d_ratio_by, d_is_under, d_dot_of, d_cross_of, d_direction_at, d_is_up, d_front_of, d_point_of, d_lies_on, d_comes_from_ahead, d_as_point, d_point_less, d_point_dot, d_meeting_of, d_shadow_of, d_is_beyond, d_hides_point, d_dial_of, d_hiders, d_told_at, d_lists_of, d_without_walls, d_readers, d_look_at_hours, d_first_dark, d_fewest_gone, d__law_cell, d__law_wide, d__law_triple, d__law_cross, d__law_dot, d__law_on, d__law_pair, d__law_sun, d__law_dial, d__law_fence, d__law_name, d__law_yard, d__law_flat, d__law_either, d__law_hours, d__law_lists, d__law_read, d__law_missed, d__law_due, d_law, di_NoHour]
def fa : List He.Fa := [.glo "is_whole", .glo "divisor_of", .glo "ratio_of", .glo "ratio_sum", .glo "ratio_less", .glo "ratio_times", .glo "ratio_by", .glo "is_under", .glo "dot_of", .glo "cross_of", .glo "direction_at", .glo "is_up", .glo "front_of", .glo "point_of", .glo "lies_on", .glo "comes_from_ahead", .glo "as_point", .glo "point_less", .glo "point_dot", .glo "meeting_of", .glo "shadow_of", .glo "is_beyond", .glo "hides_point", .glo "dial_of", .glo "hiders", .glo "told_at", .glo "lists_of", .glo "without_walls", .glo "readers", .glo "look_at_hours", .glo "first_dark", .glo "fewest_gone", .glo "_law_cell", .glo "_law_wide", .glo "_law_triple", .glo "_law_cross", .glo "_law_dot", .glo "_law_on", .glo "_law_pair", .glo "_law_sun", .glo "_law_dial", .glo "_law_fence", .glo "_law_name", .glo "_law_yard", .glo "_law_flat", .glo "_law_either", .glo "_law_hours", .glo "_law_lists", .glo "_law_read", .glo "_law_missed", .glo "_law_due", .glo "law", .free "bool", .free "isinstance", .free "int", .free "abs", .free "range", .free "tuple", .free "zip", .free "sorted", .free "enumerate", .free "len", .free "list", .glo "YardError", .glo "NoNumber", .glo "NoHour", .glo "NoName", .exc "NoNumber", .exc "NoName"]
abbrev Rw : PySem.W.OpenRow := PySem.W.OpenLaw.row PySem.Challenge.rw_dialyard_k62_fewest_gone_of_all
def exF : PySem.W.Frag → Bool := fun K => exB xks xcs K && (yrB K (He.ga K "YardError") && (fxB K "NoHour" "hour" && (noLst K)))
abbrev hk : PySem.W.Hook := hookE 4 fa fn exF
def ob (s : PySem.W.SharedT) : He.AlD := obsEG 4 fa fn exF (HandSHeadRun.getT s)
theorem ob_eq (s : PySem.W.SharedT) : ob s = hk.obs s.abs := obsEG_eq (HandSHeadRun.getT_eq s)
def loose0 : List PySem.Str := ["YardError", "NoNumber", "NoHour", "NoName", "is_whole", "divisor_of", "ratio_of", "ratio_sum", "ratio_less", "ratio_times", "ratio_by", "is_under", "dot_of", "cross_of", "direction_at", "is_up", "front_of", "point_of", "lies_on", "comes_from_ahead", "as_point", "point_less", "point_dot", "meeting_of", "shadow_of", "is_beyond", "hides_point", "dial_of", "hiders", "told_at"]
def loose1 : List PySem.Str := ["lists_of", "without_walls", "readers", "look_at_hours", "first_dark", "fewest_gone", "_law_cell", "_law_wide", "_law_triple", "_law_cross", "_law_dot", "_law_on", "_law_pair", "_law_sun", "_law_dial", "_law_fence", "_law_name", "_law_yard", "_law_flat", "_law_either", "_law_hours", "_law_lists", "_law_read", "_law_missed", "_law_due"]
def loose : List PySem.Str := loose0 ++ loose1
theorem run (w : World) : HandSHeadRun.RunEq Rw (PySem.W.view Rw.prog [65]) hk ob 20000 loose w := by
  intro os
  kernel_rfl
theorem blts_ok {K : PySem.W.Frag} {h : Heap} {mg : Str → Option Value} (X : K.In h) (G : h.Ns mainGlobals mg) (c : He.SaysD fa fn K) : Blts mg blts := by
  intro i x e
  match i, e with
  | 0, e => cases e; exact He.free_ok X G (c.fact 52 (f := .free "bool") rfl)
  | 1, e => cases e; exact He.free_ok X G (c.fact 53 (f := .free "isinstance") rfl)
  | 2, e => cases e; exact He.free_ok X G (c.fact 54 (f := .free "int") rfl)
  | 3, e => cases e; exact He.free_ok X G (c.fact 55 (f := .free "abs") rfl)
  | 4, e => cases e; exact He.free_ok X G (c.fact 56 (f := .free "range") rfl)
  | 5, e => cases e; exact He.free_ok X G (c.fact 57 (f := .free "tuple") rfl)
  | 6, e => cases e; exact He.free_ok X G (c.fact 58 (f := .free "zip") rfl)
  | 7, e => cases e; exact He.free_ok X G (c.fact 59 (f := .free "sorted") rfl)
  | 8, e => cases e; exact He.free_ok X G (c.fact 60 (f := .free "enumerate") rfl)
  | 9, e => cases e; exact He.free_ok X G (c.fact 61 (f := .free "len") rfl)
  | 10, e => cases e; exact He.free_ok X G (c.fact 62 (f := .free "list") rfl)
  | i + 11, e => exact absurd e (by simp [blts])
theorem facts_ok {K : PySem.W.Frag} {h : Heap} {mg : Str → Option Value} (X : K.In h) (G : h.Ns mainGlobals mg) (ce : SaysE fa fn exF K) : Facts K mg := by
  have c := ce.d
  refine ⟨?_, ?_, ?_, ?_, ?_, ?_, ?_, ?_, ?_, ?_, ?_, ?_⟩
  · intro i x e
    match i, e with
    | i + 0, e => exact absurd e (by simp [gints])
  · intro i x e
    match i, e with
    | i + 0, e => exact absurd e (by simp [gstrs])
  · exact (He.glo_ok X G (c.fact 63 (f := .glo "YardError") rfl))
  · exact (He.glo_ok X G (c.fact 64 (f := .glo "NoNumber") rfl))
  · exact (He.glo_ok X G (c.fact 65 (f := .glo "NoHour") rfl))
  · exact (He.glo_ok X G (c.fact 66 (f := .glo "NoName") rfl))
  · obtain ⟨h1, h2, h3, h4⟩ := He.exc_ok (c.fact 67 (f := .exc "NoNumber") rfl)
    exact ⟨(He.glo_ok X G (c.fact 64 (f := .glo "NoNumber") rfl)), h1, h2, h3, h4⟩
  · obtain ⟨h1, h2, h3, h4⟩ := He.exc_ok (c.fact 68 (f := .exc "NoName") rfl)
    exact ⟨(He.glo_ok X G (c.fact 66 (f := .glo "NoName") rfl)), h1, h2, h3, h4⟩
  · exact exB_ok (mg := mg) (show (exB xks xcs K) = true from (He.ba ce.ex).1) (fun _ h => absurd h List.not_mem_nil)
  · exact yrB_ok (show (yrB K (He.ga K "YardError")) = true from (He.ba (He.ba ce.ex).2).1)
  · exact fxB_ok (show (fxB K "NoHour" "hour") = true from (He.ba (He.ba (He.ba ce.ex).2).2).1)
  · exact (show (noLst K) = true from (He.ba (He.ba (He.ba ce.ex).2).2).2)
theorem facts {P : Program} {w : World} {K : PySem.W.Frag} {h : Heap} {mg : Str → Option Value} {f : Addr} (X : K.In h) (G : h.Ns mainGlobals mg) (hfa : mg ("law" : Str) = some (.ref f)) (ce : SaysE fa fn exF K) :
    ∃ fd : FuncData, (∀ (s : Shared) (v : Value), BindsTo s fd ⟨[v], []⟩ [("_law_script", v)]) ∧ ∀ base : Heap, K.In base → base.Ns mainGlobals mg → FnOk P w K mg base (L2.CX P w) 12 f fd ["_law_script"] (spD K 1 f_law) := by
  have c := ce.d
  obtain ⟨fd_is_whole, F_is_whole⟩ := c.def_ 0 (d := d_is_whole) rfl
  obtain ⟨fd_divisor_of, F_divisor_of⟩ := c.def_ 1 (d := d_divisor_of) rfl
  obtain ⟨fd_ratio_of, F_ratio_of⟩ := c.def_ 2 (d := d_ratio_of) rfl
  obtain ⟨fd_ratio_sum, F_ratio_sum⟩ := c.def_ 3 (d := d_ratio_sum) rfl
  obtain ⟨fd_ratio_less, F_ratio_less⟩ := c.def_ 4 (d := d_ratio_less) rfl
  obtain ⟨fd_ratio_times, F_ratio_times⟩ := c.def_ 5 (d := d_ratio_times) rfl
  obtain ⟨fd_ratio_by, F_ratio_by⟩ := c.def_ 6 (d := d_ratio_by) rfl
  obtain ⟨fd_is_under, F_is_under⟩ := c.def_ 7 (d := d_is_under) rfl
  obtain ⟨fd_dot_of, F_dot_of⟩ := c.def_ 8 (d := d_dot_of) rfl
  obtain ⟨fd_cross_of, F_cross_of⟩ := c.def_ 9 (d := d_cross_of) rfl
  obtain ⟨fd_direction_at, F_direction_at⟩ := c.def_ 10 (d := d_direction_at) rfl
  obtain ⟨fd_is_up, F_is_up⟩ := c.def_ 11 (d := d_is_up) rfl
  obtain ⟨fd_front_of, F_front_of⟩ := c.def_ 12 (d := d_front_of) rfl
  obtain ⟨fd_point_of, F_point_of⟩ := c.def_ 13 (d := d_point_of) rfl
  obtain ⟨fd_lies_on, F_lies_on⟩ := c.def_ 14 (d := d_lies_on) rfl
  obtain ⟨fd_comes_from_ahead, F_comes_from_ahead⟩ := c.def_ 15 (d := d_comes_from_ahead) rfl
  obtain ⟨fd_as_point, F_as_point⟩ := c.def_ 16 (d := d_as_point) rfl
  obtain ⟨fd_point_less, F_point_less⟩ := c.def_ 17 (d := d_point_less) rfl
  obtain ⟨fd_point_dot, F_point_dot⟩ := c.def_ 18 (d := d_point_dot) rfl
  obtain ⟨fd_meeting_of, F_meeting_of⟩ := c.def_ 19 (d := d_meeting_of) rfl
  obtain ⟨fd_shadow_of, F_shadow_of⟩ := c.def_ 20 (d := d_shadow_of) rfl
  obtain ⟨fd_is_beyond, F_is_beyond⟩ := c.def_ 21 (d := d_is_beyond) rfl
  obtain ⟨fd_hides_point, F_hides_point⟩ := c.def_ 22 (d := d_hides_point) rfl
  obtain ⟨fd_dial_of, F_dial_of⟩ := c.def_ 23 (d := d_dial_of) rfl
  obtain ⟨fd_hiders, F_hiders⟩ := c.def_ 24 (d := d_hiders) rfl
  obtain ⟨fd_told_at, F_told_at⟩ := c.def_ 25 (d := d_told_at) rfl
  obtain ⟨fd_lists_of, F_lists_of⟩ := c.def_ 26 (d := d_lists_of) rfl
  obtain ⟨fd_without_walls, F_without_walls⟩ := c.def_ 27 (d := d_without_walls) rfl
  obtain ⟨fd_readers, F_readers⟩ := c.def_ 28 (d := d_readers) rfl
  obtain ⟨fd_look_at_hours, F_look_at_hours⟩ := c.def_ 29 (d := d_look_at_hours) rfl
  obtain ⟨fd_first_dark, F_first_dark⟩ := c.def_ 30 (d := d_first_dark) rfl
  obtain ⟨fd_fewest_gone, F_fewest_gone⟩ := c.def_ 31 (d := d_fewest_gone) rfl
  obtain ⟨fd__law_cell, F__law_cell⟩ := c.def_ 32 (d := d__law_cell) rfl
  obtain ⟨fd__law_wide, F__law_wide⟩ := c.def_ 33 (d := d__law_wide) rfl
  obtain ⟨fd__law_triple, F__law_triple⟩ := c.def_ 34 (d := d__law_triple) rfl
  obtain ⟨fd__law_cross, F__law_cross⟩ := c.def_ 35 (d := d__law_cross) rfl
  obtain ⟨fd__law_dot, F__law_dot⟩ := c.def_ 36 (d := d__law_dot) rfl
  obtain ⟨fd__law_on, F__law_on⟩ := c.def_ 37 (d := d__law_on) rfl
  obtain ⟨fd__law_pair, F__law_pair⟩ := c.def_ 38 (d := d__law_pair) rfl
  obtain ⟨fd__law_sun, F__law_sun⟩ := c.def_ 39 (d := d__law_sun) rfl
  obtain ⟨fd__law_dial, F__law_dial⟩ := c.def_ 40 (d := d__law_dial) rfl
  obtain ⟨fd__law_fence, F__law_fence⟩ := c.def_ 41 (d := d__law_fence) rfl
  obtain ⟨fd__law_name, F__law_name⟩ := c.def_ 42 (d := d__law_name) rfl
  obtain ⟨fd__law_yard, F__law_yard⟩ := c.def_ 43 (d := d__law_yard) rfl
  obtain ⟨fd__law_flat, F__law_flat⟩ := c.def_ 44 (d := d__law_flat) rfl
  obtain ⟨fd__law_either, F__law_either⟩ := c.def_ 45 (d := d__law_either) rfl
  obtain ⟨fd__law_hours, F__law_hours⟩ := c.def_ 46 (d := d__law_hours) rfl
  obtain ⟨fd__law_lists, F__law_lists⟩ := c.def_ 47 (d := d__law_lists) rfl
  obtain ⟨fd__law_read, F__law_read⟩ := c.def_ 48 (d := d__law_read) rfl
  obtain ⟨fd__law_missed, F__law_missed⟩ := c.def_ 49 (d := d__law_missed) rfl
  obtain ⟨fd__law_due, F__law_due⟩ := c.def_ 50 (d := d__law_due) rfl
  obtain ⟨fd_law, F_law⟩ := c.def_ 51 (d := d_law) rfl
  have e := hfa.symm.trans (He.glo_ok X G (c.fact 51 (f := .glo "law") rfl))
  cases e
  have B := blts_ok X G c
  have M : Facts K mg := facts_ok X G ce
  obtain ⟨fdi_NoHour, Fi_NoHour⟩ := c.def_ 52 (d := di_NoHour) rfl
  have b := FunD.bindsA (ps := ["_law_script"]) F_law fun _ _ _ _ _ _ us hl => match us, hl with | [_], _ => rfl
  refine ⟨fd_law, fun s v => b s [v] rfl, fun base _ _ => ?_⟩
  have I_NoHour : InC P w K mg base "NoHour" "hour" := ⟨⟨_, fdi_NoHour, _, init_NoHour M Fi_NoHour, FunD.bindsN Fi_NoHour (fun _ _ _ _ _ _ us hl => match us, hl with | [_, _], _ => rfl), M.fx_NoHour.fi, M.fx_NoHour.ft⟩, M.fx_NoHour.ox, M.fx_NoHour.no, M.glo_NoHour⟩
  have C_is_whole := cal_is_whole (P := P) (w := w) (base := base) B M  F_is_whole (He.glo_ok X G (c.fact 0 (f := .glo "is_whole") rfl))
  have C_divisor_of := cal_divisor_of (P := P) (w := w) (base := base) B M  F_divisor_of (He.glo_ok X G (c.fact 1 (f := .glo "divisor_of") rfl))
  have C_ratio_of := cal_ratio_of (P := P) (w := w) (base := base) B M C_is_whole C_divisor_of F_ratio_of (He.glo_ok X G (c.fact 2 (f := .glo "ratio_of") rfl))
  have C_ratio_sum := cal_ratio_sum (P := P) (w := w) (base := base) B M C_ratio_of F_ratio_sum (He.glo_ok X G (c.fact 3 (f := .glo "ratio_sum") rfl))
  have C_ratio_less := cal_ratio_less (P := P) (w := w) (base := base) B M C_ratio_of F_ratio_less (He.glo_ok X G (c.fact 4 (f := .glo "ratio_less") rfl))
  have C_ratio_times := cal_ratio_times (P := P) (w := w) (base := base) B M C_ratio_of F_ratio_times (He.glo_ok X G (c.fact 5 (f := .glo "ratio_times") rfl))
  have C_ratio_by := cal_ratio_by (P := P) (w := w) (base := base) B M C_ratio_of F_ratio_by (He.glo_ok X G (c.fact 6 (f := .glo "ratio_by") rfl))
  have C_is_under := cal_is_under (P := P) (w := w) (base := base) B M  F_is_under (He.glo_ok X G (c.fact 7 (f := .glo "is_under") rfl))
  have C_dot_of := cal_dot_of (P := P) (w := w) (base := base) B M  F_dot_of (He.glo_ok X G (c.fact 8 (f := .glo "dot_of") rfl))
  have C_cross_of := cal_cross_of (P := P) (w := w) (base := base) B M  F_cross_of (He.glo_ok X G (c.fact 9 (f := .glo "cross_of") rfl))
  have C_direction_at := cal_direction_at (P := P) (w := w) (base := base) B M I_NoHour F_direction_at (He.glo_ok X G (c.fact 10 (f := .glo "direction_at") rfl))
  have C_is_up := cal_is_up (P := P) (w := w) (base := base) B M C_direction_at F_is_up (He.glo_ok X G (c.fact 11 (f := .glo "is_up") rfl))
  have C_front_of := cal_front_of (P := P) (w := w) (base := base) B M C_cross_of F_front_of (He.glo_ok X G (c.fact 12 (f := .glo "front_of") rfl))
  have C_point_of := cal_point_of (P := P) (w := w) (base := base) B M C_ratio_times C_ratio_of C_ratio_sum F_point_of (He.glo_ok X G (c.fact 13 (f := .glo "point_of") rfl))
  have C_lies_on := cal_lies_on (P := P) (w := w) (base := base) B M C_is_under F_lies_on (He.glo_ok X G (c.fact 14 (f := .glo "lies_on") rfl))
  have C_comes_from_ahead := cal_comes_from_ahead (P := P) (w := w) (base := base) B M C_dot_of C_front_of F_comes_from_ahead (He.glo_ok X G (c.fact 15 (f := .glo "comes_from_ahead") rfl))
  have C_as_point := cal_as_point (P := P) (w := w) (base := base) B M  F_as_point (He.glo_ok X G (c.fact 16 (f := .glo "as_point") rfl))
  have C_point_less := cal_point_less (P := P) (w := w) (base := base) B M C_ratio_less F_point_less (He.glo_ok X G (c.fact 17 (f := .glo "point_less") rfl))
  have C_point_dot := cal_point_dot (P := P) (w := w) (base := base) B M C_ratio_sum C_ratio_times F_point_dot (He.glo_ok X G (c.fact 18 (f := .glo "point_dot") rfl))
  have C_meeting_of := cal_meeting_of (P := P) (w := w) (base := base) B M C_dot_of C_front_of C_point_less C_ratio_by C_point_dot C_cross_of F_meeting_of (He.glo_ok X G (c.fact 19 (f := .glo "meeting_of") rfl))
  have C_shadow_of := cal_shadow_of (P := P) (w := w) (base := base) B M C_comes_from_ahead C_meeting_of C_as_point F_shadow_of (He.glo_ok X G (c.fact 20 (f := .glo "shadow_of") rfl))
  have C_is_beyond := cal_is_beyond (P := P) (w := w) (base := base) B M C_front_of C_point_dot C_point_less C_dot_of C_is_under F_is_beyond (He.glo_ok X G (c.fact 21 (f := .glo "is_beyond") rfl))
  have C_hides_point := cal_hides_point (P := P) (w := w) (base := base) B M C_meeting_of C_is_beyond C_lies_on F_hides_point (He.glo_ok X G (c.fact 22 (f := .glo "hides_point") rfl))
  have C_dial_of := cal_dial_of (P := P) (w := w) (base := base) B M  F_dial_of (He.glo_ok X G (c.fact 23 (f := .glo "dial_of") rfl))
  have C_hiders := cal_hiders (P := P) (w := w) (base := base) B M C_hides_point F_hiders (He.glo_ok X G (c.fact 24 (f := .glo "hiders") rfl))
  have C_told_at := cal_told_at (P := P) (w := w) (base := base) B M C_direction_at C_dial_of C_is_up C_comes_from_ahead C_shadow_of C_lies_on C_hiders C_point_of F_told_at (He.glo_ok X G (c.fact 25 (f := .glo "told_at") rfl))
  have C_lists_of := cal_lists_of (P := P) (w := w) (base := base) B M  F_lists_of (He.glo_ok X G (c.fact 26 (f := .glo "lists_of") rfl))
  have C_without_walls := cal_without_walls (P := P) (w := w) (base := base) B M  F_without_walls (He.glo_ok X G (c.fact 27 (f := .glo "without_walls") rfl))
  have C_readers := cal_readers (P := P) (w := w) (base := base) B M C_told_at F_readers (He.glo_ok X G (c.fact 28 (f := .glo "readers") rfl))
  have C_look_at_hours := cal_look_at_hours (P := P) (w := w) (base := base) B M C_direction_at F_look_at_hours (He.glo_ok X G (c.fact 29 (f := .glo "look_at_hours") rfl))
  have C_first_dark := cal_first_dark (P := P) (w := w) (base := base) B M C_readers F_first_dark (He.glo_ok X G (c.fact 30 (f := .glo "first_dark") rfl))
  have C_fewest_gone := cal_fewest_gone (P := P) (w := w) (base := base) B M C_look_at_hours C_first_dark C_without_walls C_lists_of F_fewest_gone (He.glo_ok X G (c.fact 31 (f := .glo "fewest_gone") rfl))
  have C__law_cell := cal__law_cell (P := P) (w := w) (base := base) B M  F__law_cell (He.glo_ok X G (c.fact 32 (f := .glo "_law_cell") rfl))
  have C__law_wide := cal__law_wide (P := P) (w := w) (base := base) B M C__law_cell F__law_wide (He.glo_ok X G (c.fact 33 (f := .glo "_law_wide") rfl))
  have C__law_triple := cal__law_triple (P := P) (w := w) (base := base) B M  F__law_triple (He.glo_ok X G (c.fact 34 (f := .glo "_law_triple") rfl))
  have C__law_cross := cal__law_cross (P := P) (w := w) (base := base) B M  F__law_cross (He.glo_ok X G (c.fact 35 (f := .glo "_law_cross") rfl))
  have C__law_dot := cal__law_dot (P := P) (w := w) (base := base) B M  F__law_dot (He.glo_ok X G (c.fact 36 (f := .glo "_law_dot") rfl))
  have C__law_on := cal__law_on (P := P) (w := w) (base := base) B M  F__law_on (He.glo_ok X G (c.fact 37 (f := .glo "_law_on") rfl))
  have C__law_pair := cal__law_pair (P := P) (w := w) (base := base) B M C__law_triple C__law_cross F__law_pair (He.glo_ok X G (c.fact 38 (f := .glo "_law_pair") rfl))
  have C__law_sun := cal__law_sun (P := P) (w := w) (base := base) B M C__law_wide F__law_sun (He.glo_ok X G (c.fact 39 (f := .glo "_law_sun") rfl))
  have C__law_dial := cal__law_dial (P := P) (w := w) (base := base) B M C__law_pair C__law_dot C__law_cross C__law_triple C__law_on F__law_dial (He.glo_ok X G (c.fact 40 (f := .glo "_law_dial") rfl))
  have C__law_fence := cal__law_fence (P := P) (w := w) (base := base) B M C__law_pair C__law_on F__law_fence (He.glo_ok X G (c.fact 41 (f := .glo "_law_fence") rfl))
  have C__law_name := cal__law_name (P := P) (w := w) (base := base) B M C__law_wide F__law_name (He.glo_ok X G (c.fact 42 (f := .glo "_law_name") rfl))
  have C__law_yard := cal__law_yard (P := P) (w := w) (base := base) B M C__law_wide C__law_sun C__law_dial C__law_fence C__law_name F__law_yard (He.glo_ok X G (c.fact 43 (f := .glo "_law_yard") rfl))
  have C__law_flat := cal__law_flat (P := P) (w := w) (base := base) B M C__law_wide C__law_name F__law_flat (He.glo_ok X G (c.fact 44 (f := .glo "_law_flat") rfl))
  have C__law_either := cal__law_either (P := P) (w := w) (base := base) B M C__law_cell C__law_flat C__law_yard F__law_either (He.glo_ok X G (c.fact 45 (f := .glo "_law_either") rfl))
  have C__law_hours := cal__law_hours (P := P) (w := w) (base := base) B M C__law_wide F__law_hours (He.glo_ok X G (c.fact 46 (f := .glo "_law_hours") rfl))
  have C__law_lists := cal__law_lists (P := P) (w := w) (base := base) B M  F__law_lists (He.glo_ok X G (c.fact 47 (f := .glo "_law_lists") rfl))
  have C__law_read := cal__law_read (P := P) (w := w) (base := base) B M C_told_at F__law_read (He.glo_ok X G (c.fact 48 (f := .glo "_law_read") rfl))
  have C__law_missed := cal__law_missed (P := P) (w := w) (base := base) B M C__law_read F__law_missed (He.glo_ok X G (c.fact 49 (f := .glo "_law_missed") rfl))
  have C__law_due := cal__law_due (P := P) (w := w) (base := base) B M C__law_missed C__law_lists F__law_due (He.glo_ok X G (c.fact 50 (f := .glo "_law_due") rfl))
  exact ok_law B M C__law_either C__law_hours C__law_read C__law_due C_fewest_gone F_law
end Gn
open PySem PySem.W PySem.Calls PyProof.Rows
set_option maxRecDepth 100000 in
set_option maxHeartbeats 0 in
theorem Gn.holds_of (LT : ∀ (ns : List Int), ns.length ≤ 63 → Gn.f_law [.lst (ns.map .int)] = .ok (.bl true)) : PySem.Challenge.rw_dialyard_k62_fewest_gone_of_all.Holds := by
  w_on; o_law
  refine HandSHeadRun.head_any (r := OpenLaw.row PySem.Challenge.rw_dialyard_k62_fewest_gone_of_all) (q := view (OpenLaw.row PySem.Challenge.rw_dialyard_k62_fewest_gone_of_all).prog [65]) (H := Gn.hk) (ob := Gn.ob) (M := 20000) (loose := Gn.loose) (d := HandSHeadRun.topDef (OpenLaw.row PySem.Challenge.rw_dialyard_k62_fewest_gone_of_all).prog 65) (kwd := []) Gn.ob_eq
    (by kernel_rfl) (fun s => by kernel_rfl) Gn.run (by kernel_rfl) (by kernel_rfl) (by kernel_rfl) (by rfl) (by first | assumption | decide +kernel) (by decide +kernel) ⟨rfl, rfl, rfl, rfl, rfl, by decide +kernel⟩ ?hw ?hc
  case hw => w_witness2
  case hc =>
    refine Dy.walk_ofW (l := PySem.Challenge.rw_dialyard_k62_fewest_gone_of_all) (n := 63) (k := 12) (x := "_law_script") (CX := fun w => L2.CX (PySem.Challenge.rw_dialyard_k62_fewest_gone_of_all).prog w) rfl (by decide) (by kernel_rfl) ⟨rfl, by decide, by decide⟩ ?F (fun _ _ _ _ _ z => Dy.cx_false z)
    intro w mg fa h Y G hmg0
    obtain ⟨K, KX, c⟩ := Y
    have hmg : mg ("law" : PySem.Str) = some (.ref fa) := by
      have e : (HandSHeadRun.topDef (OpenLaw.row PySem.Challenge.rw_dialyard_k62_fewest_gone_of_all).prog 65).name = ("law" : PySem.Str) := by kernel_rfl
      rw [← e]
      exact hmg0
    obtain ⟨fd, hb, hF⟩ := Gn.facts (P := (PySem.Challenge.rw_dialyard_k62_fewest_gone_of_all).prog) (w := w) KX G hmg c
    exact ⟨K, fd, Dy.spD K 1 Gn.f_law, KX, hb, fun H a ns hl _ hS => Dy.law_sp hS (LT ns hl), hF⟩

end
section
set_option maxHeartbeats 4000000
namespace Gn
open PySem PySem.Spec PyProof.Rows L2 Dy
local macro_rules | `(tactic| wtm_at "y_bd") => `(tactic| ((repeat' (first | assumption | (with_reducible apply Bd.mul) | (with_reducible apply RB.n) | (with_reducible apply RB.d) | (with_reducible apply RB.add) | (with_reducible apply RB.sub) | (with_reducible apply RB.mul) | (with_reducible apply RB.int) | (with_reducible apply Bd.addM) | (with_reducible apply Bd.subM) | (with_reducible apply Bd.neg) | (with_reducible apply Bd.mod; (first | decide | omega)) | exact Bd.lit (n := 2) (by decide) | exact Bd.lit (n := 36) (by decide) | exact Bd.lit (n := 200) (by decide))) <;> done))
local macro_rules | `(tactic| wtm_at "y_mulok") => `(tactic| first | exact MuOk.of (n := 200) (m := 200) (Bd.lit (by decide)) (Bd.lit (by decide)) (by decide) | exact MuOk.of (by wtm_at "y_bd") (by wtm_at "y_bd") (by first | decide | omega))
local macro_rules | `(tactic| wtm_at "y_line") => `(tactic| first | assumption | exact Nat.le_of_ble_eq_true rfl | (simp only [List.length_append, List.length_map, List.length_cons, List.length_nil, sizeLine_eq]; omega))
local macro_rules | `(tactic| wtm_at "y_pos") => `(tactic| first | assumption | decide | omega)
local macro_rules | `(tactic| wtm_at "y_known") => `(tactic| first | assumption | (with_reducible rfl) | ((with_reducible show ((List.length (_ :: _) : Nat) : Int) = _); exact rfl) | omega | exact ⟨rfl, rfl⟩ | exact ⟨rfl, rfl, rfl⟩)
local macro_rules | `(tactic| wtm_at "y_okq") => `(tactic| first | rfl | exact okq_ints _ | simp [okq])
local macro_rules | `(tactic| wtm_at "y_dyop") => `(tactic| first
  | (with_reducible refine w_bSeqR ?_)
  | (with_reducible refine w_bSeqT rfl ?_)
  | (with_reducible refine w_bSeqL rfl ?_)
  | (with_reducible refine w_bName ?_)
  | ((with_reducible show Got (bCons _ _ (List.map _ _) _) _); simp only [List.map_cons, List.map_nil])
  | (with_reducible refine w_bCons ?_)
  | (with_reducible refine w_bNil ?_)
  | ((with_reducible show Got (oIx _ _) _); first | ((with_reducible show Got (oIx (D.lst _) (D.int _)) _); refine w_ixL rfl ?_) | ((with_reducible show Got (oIx (D.tup _) (D.int _)) _); refine w_ixT rfl ?_) | (with_reducible refine w_ixR0 ?_) | (with_reducible refine w_ixR1 ?_))
  | ((with_reducible show Got (oAdd _ _) _); first | (with_reducible refine w_addI ?_) | ((with_reducible refine w_addL ?_ ?_); (focus (wtm_at "y_line"; done))) | ((with_reducible refine w_addT ?_ ?_); (focus (wtm_at "y_line"; done))))
  | ((with_reducible refine w_mul ?_ ?_); (focus (wtm_at "y_mulok"; done)))
  | ((with_reducible refine w_mod ?_ ?_); (focus (wtm_at "y_pos"; done)))
  | ((with_reducible refine w_div ?_ ?_ ?_); (focus (wtm_at "y_pos"; done)); (focus (first | (exact Bd.log (n := 200) (Bd.lit (by decide)) (by decide)) | (exact Bd.log (n := 200) (by assumption) (by decide)) | (exact Bd.log (by wtm_at "y_bd") (by decide)))))
  | ((with_reducible show Got (oEq _ _) _); first | (with_reducible refine w_eqI ?_) | ((with_reducible refine w_eqNil ?_ ?_); (focus (wtm_at "y_okq"; done))) | (with_reducible refine w_eq3 ?_) | (with_reducible refine w_eqRR ?_) | (with_reducible refine w_eqRRR ?_) | (with_reducible refine w_eqR ?_))
  | ((with_reducible show Got (oNe _ _) _); first | (with_reducible refine w_neI ?_) | ((with_reducible refine w_neNil ?_ ?_); (focus (wtm_at "y_okq"; done))) | (with_reducible refine w_ne3 ?_) | (with_reducible refine w_neRR ?_) | (with_reducible refine w_neRRR ?_) | (with_reducible refine w_neR ?_))
  | (with_reducible refine w_sub ?_)
  | ((with_reducible refine w_pow ?_ ?_); (focus decide); simp only [Int.reducePow, Int.reduceToNat])
  | (with_reducible refine w_lt ?_)
  | (with_reducible refine w_le ?_)
  | (with_reducible refine w_gt ?_)
  | (with_reducible refine w_ge ?_)
  | (with_reducible refine w_neg ?_)
  | (with_reducible refine w_isN ?_)
  | (with_reducible refine w_notN ?_)
  | (with_reducible refine w_lenL ?_)
  | (with_reducible refine w_lenT ?_)
  | (with_reducible refine w_max2 ?_)
  | (with_reducible refine w_min2 ?_)
  | (with_reducible refine w_min3 ?_)
  | (with_reducible refine w_abs ?_)
  | (with_reducible refine w_listL ?_)
  | (with_reducible refine w_listT ?_)
  | (with_reducible refine w_tupleL ?_)
  | (with_reducible refine w_tupleT ?_)
  | ((with_reducible show Got (oIsi [_, D.ty _]) _); refine w_isi (by with_reducible first | exact kt_zb | exact kt_zi | exact kt_zt | exact kt_zl | exact kt_zs | exact kt_zd | exact kt_rt | exact kt_rb | exact kt_ri | exact kt_rl | exact kt_ib | exact kt_ii | exact kt_it | exact kt_il | exact kt_is | exact kt_id | exact kt_bb | exact kt_bi | exact kt_bt | exact kt_bl | exact kt_bs | exact kt_bd | exact kt_tb | exact kt_ti | exact kt_tt | exact kt_tl | exact kt_ts | exact kt_td | exact kt_lb | exact kt_li | exact kt_lt | exact kt_ll | exact kt_ls | exact kt_ld | exact kt_sb | exact kt_si | exact kt_st | exact kt_sl | exact kt_ss | exact kt_sd | exact kt_nb | exact kt_ni | exact kt_nt | exact kt_nl | exact kt_ns | exact kt_nd | exact kt_db | exact kt_di | exact kt_dt | exact kt_dl | exact kt_ds | exact kt_dd) ?_)
  | ((with_reducible refine w_range3 ?_ ?_ ?_ ?_); (focus decide); (focus (first | decide | (constructor <;> omega))); (focus (first | decide | (constructor <;> omega))))
  | (with_reducible refine w_rng3 ?_)
  | (with_reducible refine w_zip3 ?_)
  | (with_reducible refine w_sum3 ?_)
  | ((with_reducible refine w_range1 ?_ ?_); (focus (first | decide | (constructor <;> omega))))
  | ((with_reducible refine w_range2 ?_ ?_ ?_); (focus (first | decide | (constructor <;> omega))); (focus (first | decide | (constructor <;> omega))))
  | ((with_reducible show Got (oSum _) _); refine w_sum rfl ?_)
  | ((with_reducible show Got (oSl _ _ _) _); refine g_ot rfl ?_)
  | ((with_reducible show Got (enum1 _) _); refine g_ot rfl ?_)
  | ((with_reducible show Got (zip2 _) _); refine g_ot rfl ?_)
  | (with_reducible refine w_iterR ?_)
  | ((with_reducible show Got (iterD (D.lst _)) _); refine g_ot rfl ?_)
  | ((with_reducible show Got (iterD (D.tup _)) _); refine g_ot rfl ?_)
  | (with_reducible refine w_lenR ?_))
local macro_rules | `(tactic| wtm_at "y_dyk") => `(tactic| first
  | (with_reducible refine k_tt ?_) | (with_reducible refine k_ff ?_) | (with_reducible refine k_nt ?_) | (with_reducible refine k_nf ?_)
  | ((with_reducible refine k_dT ?_ ?_); (focus (wtm_at "y_known"; done))) | ((with_reducible refine k_dF ?_ ?_); (focus (wtm_at "y_known"; done))) | ((with_reducible refine k_ndT ?_ ?_); (focus (wtm_at "y_known"; done))) | ((with_reducible refine k_ndF ?_ ?_); (focus (wtm_at "y_known"; done)))
  | ((with_reducible refine k_nndT ?_ ?_); (focus (wtm_at "y_known"; done))) | ((with_reducible refine k_nndF ?_ ?_); (focus (wtm_at "y_known"; done)))
  | (with_reducible refine k_d (fun _ => ?_) (fun _ => ?_)) | (with_reducible refine k_nd (fun _ => ?_) (fun _ => ?_)) | (with_reducible refine k_nnd (fun _ => ?_) (fun _ => ?_)) | ((with_reducible show Fork (D.isNon _) _ _); first | refine k_tt ?_ | refine k_ff ?_) | ((with_reducible show Fork (!(D.isNon _)) _ _); first | refine k_nt ?_ | refine k_nf ?_) | ((with_reducible show Fork (List.isEmpty _) _ _); first | refine k_tt ?_ | refine k_ff ?_) | ((with_reducible show Fork (!(List.isEmpty _)) _ _); first | refine k_nt ?_ | refine k_nf ?_) | (with_reducible refine k_any (fun _ => ?_) (fun _ => ?_)))
local macro_rules | `(tactic| wtm_at "q_wp") => `(tactic| first
  | ((with_reducible show R.wp (eVar _ _) _ _); refine wp_var rfl ?_)
  | (with_reducible refine wp_c ?_)
  | ((with_reducible show R.wp (uPeek _ _ _) _ _); refine wp_uPeek rfl ?_)
  | ((with_reducible show R.wp (ePeek _ _ _) _ _); refine wp_ePeek rfl ?_)
  | ((with_reducible show R.wp (eIxO _ _ _) _ _); refine wp_ixO rfl ?_)
  | (with_reducible refine wp_bin ?_)
  | (with_reducible refine wp_cons ?_)
  | (with_reducible refine wp_nil ?_)
  | (with_reducible refine wp_tup ?_)
  | (with_reducible refine wp_lst ?_)
  | (with_reducible refine wp_call ?_)
  | (with_reducible refine wp_n ?_)
  | (with_reducible refine wp_un ?_)
  | (with_reducible refine wp_test ?_)
  | (with_reducible refine wp_and ?_)
  | (with_reducible refine wp_or ?_)
  | (with_reducible refine wp_not ?_)
  | (with_reducible refine wp_andV ?_)
  | (with_reducible refine wp_orV ?_)
  | (with_reducible refine wp_notV ?_)
  | (with_reducible refine wp_chain ?_)
  | (with_reducible refine wp_dct0 ?_)
  | (with_reducible refine wp_sl ?_)
  | (with_reducible refine wp_no ?_)
  | (with_reducible refine wp_some ?_)
  | (with_reducible refine wp_iD ?_)
  | (with_reducible refine wp_iArgs ?_)
  | (with_reducible refine wp_compU ?_)
  | (with_reducible refine wp_yes ?_))
local macro_rules | `(tactic| wtm_at "q_sp") => `(tactic| first
  | (with_reducible refine sp_seq ?_)
  | (with_reducible refine sp_skip ?_)
  | (with_reducible refine sp_ret ?_)
  | (with_reducible refine sp_setU ?_)
  | (with_reducible refine sp_expr ?_)
  | (with_reducible refine sp_if ?_)
  | (with_reducible refine sp_parU ?_)
  | (with_reducible refine sp_asg ?_)
  | (with_reducible refine sp_ownU ?_)
  | ((with_reducible show SR.wp (sFreeze _ _ _) _ _ _); first | refine sp_frO rfl ?_ | refine sp_frV rfl ?_ | refine sp_frU rfl ?_)
  | (with_reducible refine sp_for ?_)
  | ((with_reducible show SR.wp (sApp _ _ _) _ _ _); refine sp_appU rfl ?_))
local macro_rules | `(tactic| wtm_at "q_got") => `(tactic| first
  | ((with_reducible show Got (compS _ _ _ _ _) _); first | refine c_cons ?_ | refine c_nil ?_)
  | wtm_at "y_dyop")
local macro_rules | `(tactic| wtm_at "y_dy") => `(tactic| first
  | ((with_reducible show R.wp _ _ _); wtm_at "q_wp")
  | ((with_reducible show SR.wp _ _ _ _); wtm_at "q_sp")
  | ((with_reducible show Upd _ _ _ _); refine upd_step (by ((simp only [List.set_cons_zero, List.set_cons_succ]) <;> rfl)) ?_)
  | ((with_reducible show Got _ _); wtm_at "q_got")
  | ((with_reducible show Fork _ _ _); wtm_at "y_dyk")
  | (with_reducible refine sc_int ?_)
  | (with_reducible refine sc_bl ?_)
  | (with_reducible refine ex_bl ?_)
  | (with_reducible refine ex_int ?_)
  | (with_reducible refine ex_two ?_)
  | (with_reducible refine wipe_cons ?_)
  | (with_reducible refine wipe_nil ?_)
  | (with_reducible refine fs_cons ?_)
  | (with_reducible refine fs_nil ?_)
  | ((with_reducible refine f_its ?_ ?_); (focus (wtm_at "y_line"; done)))
  | ((with_reducible refine g_rows ?_ ?_); (focus (wtm_at "y_line"; done))))
local macro_rules | `(tactic| wtm_at "y_bdn") => `(tactic| (exact Bd.mono (by wtm_at "y_bd") (by decide)))
local macro_rules | `(tactic| wtm_at "y_fn") => `(tactic| fail)
local macro_rules | `(tactic| wtm_at "y_go") => `(tactic| repeat' (first | wtm_at "y_dy" | wtm_at "y_fn"))
local macro_rules | `(tactic| wtm_at "y_in") => `(tactic| refine wp_fnU rfl (by ((simp only [List.map_cons, List.map_nil, List.cons_append, List.nil_append, List.replicate_succ, List.replicate_zero, Nat.reduceSub, Nat.sub_self]) <;> rfl)) ?_)
local macro_rules | `(tactic| wtm_at "y_false") => `(tactic| (exfalso; first | omega | grind | (simp_all; done)))
local macro_rules | `(tactic| wtm_at "y_ne3") => `(tactic| (with_reducible refine w_neS (tup3 (by first | rfl | omega | grind) (by first | rfl | omega | grind) (by first | rfl | omega | grind)) rfl ?_))
local macro_rules | `(tactic| wtm_at "y_rb") => `(tactic| wtm_at "y_bd")
local macro_rules | `(tactic| wtm_at "y_sz") => `(tactic| first | decide | omega)
local macro_rules | `(tactic| wtm_at "y_all") => `(tactic| repeat' (first | exact List.forall_mem_nil _ | refine List.forall_mem_cons.mpr ⟨?_, ?_⟩ | exact ⟨_, rfl, by wtm_at "y_bdn"⟩))
/-! ### fractions -/
theorem sp_is_whole {i : Int} {P : D → Prop} (h : P (.bl true)) : (f_is_whole [.int i]).wp P NoE := by
  wtm_at "y_in"
  repeat' wtm_at "y_dy"
  exact h
theorem sp_divisor_of {a b : Int} {P : D → Prop} (h : P (.int (Int.gcd a b))) : (f_divisor_of [.int a, .int b]).wp P NoE := by
  wtm_at "y_in"
  refine sp_seq ?_
  refine sp_while (fun ρ => ∃ x y : Int, ρ = [.val (.int x), .val (.int y)] ∧ Int.gcd x y = Int.gcd a b) (fun ρ => match ρ with | [_, .val (.int y)] => y.natAbs | _ => 0) ⟨a, b, rfl, rfl⟩ ?_
  rintro _ ⟨x, y, rfl, hg⟩
  refine wp_test ?_
  repeat' wtm_at "y_dy"
  · rename_i hy
    refine w_modG hy ?_
    repeat' wtm_at "y_dy"
    exact ⟨⟨y, x.fmod y, rfl, by rw [gcd_fmod]; exact hg⟩, fmod_lt x y hy⟩
  · rename_i hy
    have hy0 : y = 0 := by omega
    subst hy0
    repeat' wtm_at "y_dy"
    have e : (if x < 0 then -x else x) = (Int.gcd a b : Int) := by
      rw [← hg, Int.gcd_zero_right]; split <;> omega
    rw [e]; exact h
theorem sp_ratio_of {a b : Int} {P : D → Prop} {m : Nat} (hb : b ≠ 0) (hs : Bd m b) (hm : m < 9000) (h : P (rD (Rat.divInt a b))) : (f_ratio_of [.int a, .int b]).wp P NoE := by
  have hg : 0 < Int.gcd a b := Int.gcd_pos_of_ne_zero_right a hb
  have hgb : (Int.gcd a b : Int).natAbs ≤ b.natAbs := by
    rw [Int.natAbs_natCast]
    exact Nat.le_of_dvd (by omega) (Int.natAbs_dvd_natAbs.mpr (Int.gcd_dvd_right a b))
  have hl : (Int.gcd a b : Int).natAbs.log2 < 9000 := Bd.log (Nat.lt_of_le_of_lt hgb hs) hm
  wtm_at "y_in"
  repeat' wtm_at "y_dy"
  refine sp_is_whole ?_
  repeat' wtm_at "y_dy"
  refine sp_is_whole ?_
  repeat' wtm_at "y_dy"
  refine sp_divisor_of ?_
  repeat' wtm_at "y_dy"
  · rename_i hb0
    refine w_divG (by omega) (by rw [Int.natAbs_neg]; exact hl) ?_
    repeat' wtm_at "y_dy"
    refine w_divG (by omega) (by rw [Int.natAbs_neg]; exact hl) ?_
    repeat' wtm_at "y_dy"
    unfold rD at h
    rw [ratio_num a b hb, ratio_den a b hb, if_pos hb0, if_pos hb0] at h
    exact h
  · rename_i hb0
    refine w_divG (by omega) hl ?_
    repeat' wtm_at "y_dy"
    refine w_divG (by omega) hl ?_
    repeat' wtm_at "y_dy"
    unfold rD at h
    rw [ratio_num a b hb, ratio_den a b hb, if_neg hb0, if_neg hb0] at h
    exact h
theorem sp_ratio_int {a : Int} {P : D → Prop} (h : P (rD (a : Rat))) : (f_ratio_of [.int a, .int 1]).wp P NoE := by
  refine sp_ratio_of (m := 1) (by decide) (Bd.lit (by decide)) (by decide) ?_
  rw [Rat.divInt_eq_div, show ((1 : Int) : Rat) = 1 from rfl, show (a : Rat) / 1 = a by grind]
  exact h
section
variable {x y : Rat} {P : D → Prop} {n m n' m' : Nat}
theorem sp_ratio_sum (hx : RB n m x) (hy : RB n' m' y) (hs : n + m' < 100000000 ∧ n' + m < 100000000 ∧ m + m' < 9000) (h : P (rD (x + y))) : (f_ratio_sum [rD x, rD y]).wp P NoE := by
  obtain ⟨x1, x2⟩ := hx
  obtain ⟨y1, y2⟩ := hy
  unfold rD at *
  wtm_at "y_in"
  repeat' wtm_at "y_dy"
  refine sp_ratio_of (den_mul_ne x y) (x2.mul y2) hs.2.2 ?_
  rw [divInt_add]
  exact h
theorem sp_ratio_less (hx : RB n m x) (hy : RB n' m' y) (hs : n + m' < 100000000 ∧ n' + m < 100000000 ∧ m + m' < 9000) (h : P (rD (x - y))) : (f_ratio_less [rD x, rD y]).wp P NoE := by
  obtain ⟨x1, x2⟩ := hx
  obtain ⟨y1, y2⟩ := hy
  unfold rD at *
  wtm_at "y_in"
  repeat' wtm_at "y_dy"
  refine sp_ratio_of (den_mul_ne x y) (x2.mul y2) hs.2.2 ?_
  rw [divInt_sub]
  exact h
theorem sp_ratio_times (hx : RB n m x) (hy : RB n' m' y) (hs : n + n' < 100000000 ∧ m + m' < 9000) (h : P (rD (x * y))) : (f_ratio_times [rD x, rD y]).wp P NoE := by
  obtain ⟨x1, x2⟩ := hx
  obtain ⟨y1, y2⟩ := hy
  have hs2 : m + m' < 100000000 := by omega
  unfold rD at *
  wtm_at "y_in"
  repeat' wtm_at "y_dy"
  refine sp_ratio_of (den_mul_ne x y) (x2.mul y2) hs.2 ?_
  rw [divInt_mul]
  exact h
theorem sp_ratio_by (h0 : y ≠ 0) (hx : RB n m x) (hy : RB n' m' y) (hs : n + m' < 100000000 ∧ m + n' < 9000) (h : P (rD (x / y))) : (f_ratio_by [rD x, rD y]).wp P NoE := by
  obtain ⟨x1, x2⟩ := hx
  obtain ⟨y1, y2⟩ := hy
  have hs2 : m + n' < 100000000 := by omega
  unfold rD at *
  wtm_at "y_in"
  repeat' wtm_at "y_dy"
  refine sp_ratio_of (Int.mul_ne_zero (den_ne x) fun z => h0 (Rat.num_eq_zero.mp z)) (x2.mul y1) hs.2 ?_
  rw [divInt_div]
  exact h
theorem sp_is_under (hx : RB n m x) (hy : RB n' m' y) (hs : n + m' < 100000000 ∧ n' + m < 100000000) (h : P (.bl (decide (x < y)))) : (f_is_under [rD x, rD y]).wp P NoE := by
  obtain ⟨x1, x2⟩ := hx
  obtain ⟨y1, y2⟩ := hy
  unfold rD at *
  wtm_at "y_in"
  repeat' wtm_at "y_dy"
  have e : decide (x.num * ↑y.den < y.num * ↑x.den) = decide (x < y) := by simp only [Rat.lt_iff]
  rw [e]
  exact h
end
theorem sp_under_0 {x : Rat} {P : D → Prop} {n m : Nat} (hx : RB n m x) (hs : n < 1000000 ∧ m < 1000000) (h : P (.bl (decide (x < 0)))) : (f_is_under [rD x, .tup [.int 0, .int 1]]).wp P NoE :=
  sp_is_under (y := 0) hx RB.zero (by omega) h
theorem sp_under_1 {x : Rat} {P : D → Prop} {n m : Nat} (hx : RB n m x) (hs : n < 1000000 ∧ m < 1000000) (h : P (.bl (decide (1 < x)))) : (f_is_under [.tup [.int 1, .int 1], rD x]).wp P NoE :=
  sp_is_under (x := 1) RB.one hx (by omega) h

local macro_rules | `(tactic| wtm_at "y_fn") => `(tactic| ((with_reducible show R.wp (f_ratio_sum [rD _, rD _]) _ _); refine sp_ratio_sum (by wtm_at "y_rb") (by wtm_at "y_rb") (by wtm_at "y_sz") ?_))
local macro_rules | `(tactic| wtm_at "y_fn") => `(tactic| ((with_reducible show R.wp (f_ratio_less [rD _, rD _]) _ _); refine sp_ratio_less (by wtm_at "y_rb") (by wtm_at "y_rb") (by wtm_at "y_sz") ?_))
local macro_rules | `(tactic| wtm_at "y_fn") => `(tactic| ((with_reducible show R.wp (f_ratio_times [rD _, rD _]) _ _); refine sp_ratio_times (by wtm_at "y_rb") (by wtm_at "y_rb") (by wtm_at "y_sz") ?_))
local macro_rules | `(tactic| wtm_at "y_fn") => `(tactic| ((with_reducible show R.wp (f_is_under [rD _, rD _]) _ _); refine sp_is_under (by wtm_at "y_rb") (by wtm_at "y_rb") (by wtm_at "y_sz") ?_))
local macro_rules | `(tactic| wtm_at "y_fn") => `(tactic| ((with_reducible show R.wp (f_is_under [rD _, .tup [.int 0, .int 1]]) _ _); refine sp_under_0 (by wtm_at "y_rb") (by wtm_at "y_sz") ?_))
local macro_rules | `(tactic| wtm_at "y_fn") => `(tactic| ((with_reducible show R.wp (f_is_under [.tup [.int 1, .int 1], rD _]) _ _); refine sp_under_1 (by wtm_at "y_rb") (by wtm_at "y_sz") ?_))
local macro_rules | `(tactic| wtm_at "y_fn") => `(tactic| (with_reducible refine sp_ratio_int ?_))

section
variable {a b c d e f m : Int} {P : D → Prop} {n n' : Nat}
theorem sp_cross_of (hn : n < 10000) (hn' : n' < 10000) (ha : Bd n a) (hb : Bd n b) (hc : Bd n c) (hd : Bd n' d) (he : Bd n' e) (hf : Bd n' f) (h : P (t3 (b * f - c * e) (c * d - a * f) (a * e - b * d))) : (f_cross_of [t3 a b c, t3 d e f]).wp P NoE := by
  wtm_at "y_in"
  wtm_at "y_go"
  exact h
theorem sp_dot_of (hn : n < 10000) (hn' : n' < 10000) (ha : Bd n a) (hb : Bd n b) (hc : Bd n c) (hd : Bd n' d) (he : Bd n' e) (hf : Bd n' f) (h : P (.int (a * d + b * e + c * f))) : (f_dot_of [t3 a b c, t3 d e f]).wp P NoE := by
  wtm_at "y_in"
  wtm_at "y_go"
  exact h
end
section
variable {k0 k1 k2 s0 s1 s2 o0 o1 o2 d0 d1 d2 : Int} {P : D → Prop} {n n' : Nat}
theorem sp_front_of {k : D} (hn : n < 10000) (hs0 : Bd n s0) (hs1 : Bd n s1) (hs2 : Bd n s2) (ho0 : Bd n o0) (ho1 : Bd n o1) (ho2 : Bd n o2)
    (h : P (t3 (s1 * o2 - s2 * o1) (s2 * o0 - s0 * o2) (s0 * o1 - s1 * o0))) : (f_front_of [.tup [k, t3 s0 s1 s2, t3 o0 o1 o2]]).wp P NoE := by
  wtm_at "y_in"
  wtm_at "y_go"
  exact sp_cross_of hn hn hs0 hs1 hs2 ho0 ho1 ho2 h
theorem sp_comes {k : D} (hn : n < 1000) (hn' : n' < 1000) (hs0 : Bd n s0) (hs1 : Bd n s1) (hs2 : Bd n s2) (ho0 : Bd n o0) (ho1 : Bd n o1) (ho2 : Bd n o2) (hd0 : Bd n' d0) (hd1 : Bd n' d1) (hd2 : Bd n' d2)
    (h : P (.bl (decide (0 < (s1 * o2 - s2 * o1) * d0 + (s2 * o0 - s0 * o2) * d1 + (s0 * o1 - s1 * o0) * d2)))) : (f_comes_from_ahead [.tup [k, t3 s0 s1 s2, t3 o0 o1 o2], t3 d0 d1 d2]).wp P NoE := by
  wtm_at "y_in"
  wtm_at "y_go"
  refine sp_front_of (by omega) hs0 hs1 hs2 ho0 ho1 ho2 ?_
  wtm_at "y_go"
  have z {a b c d : Int} (ha : Bd n a) (hb : Bd n b) (hc : Bd n c) (hd : Bd n d) : Bd (n + n + 1) (a * b - c * d) := ((ha.mul hb).subM (hc.mul hd)).mono (by omega)
  refine sp_dot_of (n := n + n + 1) (n' := n') (by omega) (by omega) (z hs1 ho2 hs2 ho1) (z hs2 ho0 hs0 ho2) (z hs0 ho1 hs1 ho0) hd0 hd1 hd2 ?_
  wtm_at "y_go"
  exact h
end

local macro_rules | `(tactic| wtm_at "y_fn") => `(tactic| ((with_reducible show R.wp (f_cross_of [.tup [.int _, .int _, .int _], .tup [.int _, .int _, .int _]]) _ _); refine sp_cross_of (n := 2000) (n' := 2000) (by decide) (by decide) (by wtm_at "y_bdn") (by wtm_at "y_bdn") (by wtm_at "y_bdn") (by wtm_at "y_bdn") (by wtm_at "y_bdn") (by wtm_at "y_bdn") ?_))
local macro_rules | `(tactic| wtm_at "y_fn") => `(tactic| ((with_reducible show R.wp (f_dot_of [.tup [.int _, .int _, .int _], .tup [.int _, .int _, .int _]]) _ _); refine sp_dot_of (n := 2000) (n' := 2000) (by decide) (by decide) (by wtm_at "y_bdn") (by wtm_at "y_bdn") (by wtm_at "y_bdn") (by wtm_at "y_bdn") (by wtm_at "y_bdn") (by wtm_at "y_bdn") ?_))
local macro_rules | `(tactic| wtm_at "y_fn") => `(tactic| ((with_reducible show R.wp (f_front_of [.tup [_, .tup [.int _, .int _, .int _], .tup [.int _, .int _, .int _]]]) _ _); refine sp_front_of (n := 2000) (by decide) (by wtm_at "y_bdn") (by wtm_at "y_bdn") (by wtm_at "y_bdn") (by wtm_at "y_bdn") (by wtm_at "y_bdn") (by wtm_at "y_bdn") ?_))
local macro_rules | `(tactic| wtm_at "y_fn") => `(tactic| ((with_reducible show R.wp (f_comes_from_ahead [.tup [_, .tup [.int _, .int _, .int _], .tup [.int _, .int _, .int _]], .tup [.int _, .int _, .int _]]) _ _); refine sp_comes (n := 900) (n' := 900) (by decide) (by decide) (by wtm_at "y_bdn") (by wtm_at "y_bdn") (by wtm_at "y_bdn") (by wtm_at "y_bdn") (by wtm_at "y_bdn") (by wtm_at "y_bdn") (by wtm_at "y_bdn") (by wtm_at "y_bdn") (by wtm_at "y_bdn") ?_))

/-! ### where lines meet planes -/
section
variable {k0 k1 k2 s0 s1 s2 o0 o1 o2 d0 d1 d2 : Int} {x y z : Rat} {P : D → Prop}
theorem RB.i {i : Int} (h : Bd 700 i) : RB 700 1 (i : Rat) := RB.int h
theorem sp_less_i {k : Int} {n m n' : Nat} (hx : RB n m x) (hk : Bd n' k) (hs : n < 1000000 ∧ m < 8000 ∧ n' < 1000000) (h : P (rD (x - (k : Rat)))) : (f_ratio_less [rD x, .tup [.int k, .int 1]]).wp P NoE :=
  sp_ratio_less (y := (k : Rat)) hx (RB.int hk) (by omega) h
theorem sp_times_i {k : Int} {n m n' : Nat} (hx : RB n m x) (hk : Bd n' k) (hs : n < 1000000 ∧ m < 8000 ∧ n' < 1000000) (h : P (rD (x * (k : Rat)))) : (f_ratio_times [rD x, .tup [.int k, .int 1]]).wp P NoE :=
  sp_ratio_times (y := (k : Rat)) hx (RB.int hk) (by omega) h
theorem sp_by_i {k : Int} {n m n' : Nat} (h0 : k ≠ 0) (hx : RB n m x) (hk : Bd n' k) (hs : n < 1000000 ∧ m + n' < 9000 ∧ n' < 1000000) (h : P (rD (x / (k : Rat)))) : (f_ratio_by [rD x, .tup [.int k, .int 1]]).wp P NoE :=
  sp_ratio_by (y := (k : Rat)) (fun e => h0 (Rat.intCast_eq_zero_iff.mp e)) hx (RB.int hk) (by omega) h
theorem sp_sum_0 {n m : Nat} (hx : RB n m x) (hs : n < 1000000 ∧ m < 8000) (h : P (rD x)) : (f_ratio_sum [.tup [.int 0, .int 1], rD x]).wp P NoE := by
  refine sp_ratio_sum (x := 0) RB.zero hx (by omega) ?_
  rw [Rat.zero_add]; exact h
theorem sp_as_point (h : P (.tup [rD (k0 : Rat), rD (k1 : Rat), rD (k2 : Rat)])) : (f_as_point [t3 k0 k1 k2]).wp P NoE := by
  wtm_at "y_in"
  wtm_at "y_go"
  exact h
theorem sp_point_less (hx : RB 1500 1500 x) (hy : RB 1500 1500 y) (hz : RB 1500 1500 z) (hk0 : Bd 700 k0) (hk1 : Bd 700 k1) (hk2 : Bd 700 k2) (h : P (.tup [rD (x - (k0 : Rat)), rD (y - (k1 : Rat)), rD (z - (k2 : Rat))])) :
    (f_point_less [.tup [rD x, rD y, rD z], t3 k0 k1 k2]).wp P NoE := by
  wtm_at "y_in"
  wtm_at "y_go"
  refine sp_less_i hx hk0 (by decide) ?_
  wtm_at "y_go"
  refine sp_less_i hy hk1 (by decide) ?_
  wtm_at "y_go"
  refine sp_less_i hz hk2 (by decide) ?_
  wtm_at "y_go"
  exact h
theorem sp_point_dot (hx : RB 2201 1501 x) (hy : RB 2201 1501 y) (hz : RB 2201 1501 z) (hk0 : Bd 700 k0) (hk1 : Bd 700 k1) (hk2 : Bd 700 k2) (h : P (rD (x * (k0 : Rat) + y * (k1 : Rat) + z * (k2 : Rat)))) :
    (f_point_dot [.tup [rD x, rD y, rD z], t3 k0 k1 k2]).wp P NoE := by
  wtm_at "y_in"
  wtm_at "y_go"
  refine sp_times_i hx hk0 (by decide) ?_
  wtm_at "y_go"
  refine sp_sum_0 (hx.mul (RB.int hk0)) (by decide) ?_
  wtm_at "y_go"
  refine sp_times_i hy hk1 (by decide) ?_
  wtm_at "y_go"
  refine sp_times_i hz hk2 (by decide) ?_
  wtm_at "y_go"
  exact h
theorem RB.pdot (hx : RB 2201 1501 x) (hy : RB 2201 1501 y) (hz : RB 2201 1501 z) (hk0 : Bd 700 k0) (hk1 : Bd 700 k1) (hk2 : Bd 700 k2) : RB 6000 4600 (x * (k0 : Rat) + y * (k1 : Rat) + z * (k2 : Rat)) :=
  RB.mono (by wtm_at "y_bd") (by decide) (by decide)
/-- the number of directions' plane: front by direction -/
theorem sp_meeting_of (hk0 : Bd 200 k0) (hk1 : Bd 200 k1) (hk2 : Bd 200 k2) (hs0 : Bd 200 s0) (hs1 : Bd 200 s1) (hs2 : Bd 200 s2) (ho0 : Bd 200 o0) (ho1 : Bd 200 o1) (ho2 : Bd 200 o2) (hd0 : Bd 200 d0) (hd1 : Bd 200 d1) (hd2 : Bd 200 d2) (hx : RB 1500 1500 x) (hy : RB 1500 1500 y) (hz : RB 1500 1500 z)
    (h0 : (s1 * o2 - s2 * o1) * d0 + (s2 * o0 - s0 * o2) * d1 + (s0 * o1 - s1 * o0) * d2 = 0 → P .non)
    (h1 : (s1 * o2 - s2 * o1) * d0 + (s2 * o0 - s0 * o2) * d1 + (s0 * o1 - s1 * o0) * d2 ≠ 0 → P (.tup [
      rD (((x - (k0 : Rat)) * ((o1 * d2 - o2 * d1 : Int) : Rat) + (y - (k1 : Rat)) * ((o2 * d0 - o0 * d2 : Int) : Rat) + (z - (k2 : Rat)) * ((o0 * d1 - o1 * d0 : Int) : Rat)) / (((s1 * o2 - s2 * o1) * d0 + (s2 * o0 - s0 * o2) * d1 + (s0 * o1 - s1 * o0) * d2 : Int) : Rat)),
      rD (((x - (k0 : Rat)) * ((d1 * s2 - d2 * s1 : Int) : Rat) + (y - (k1 : Rat)) * ((d2 * s0 - d0 * s2 : Int) : Rat) + (z - (k2 : Rat)) * ((d0 * s1 - d1 * s0 : Int) : Rat)) / (((s1 * o2 - s2 * o1) * d0 + (s2 * o0 - s0 * o2) * d1 + (s0 * o1 - s1 * o0) * d2 : Int) : Rat))])) :
    (f_meeting_of [.tup [t3 k0 k1 k2, t3 s0 s1 s2, t3 o0 o1 o2], .tup [rD x, rD y, rD z], t3 d0 d1 d2]).wp P NoE := by
  wtm_at "y_in"
  wtm_at "y_go"
  · rename_i e; exact h0 e
  rename_i e
  refine sp_point_less hx hy hz (by wtm_at "y_bdn") (by wtm_at "y_bdn") (by wtm_at "y_bdn") ?_
  have a0 : RB 2201 1501 (x - (k0 : Rat)) := (hx.sub (RB.int hk0)).mono (by decide) (by decide)
  have a1 : RB 2201 1501 (y - (k1 : Rat)) := (hy.sub (RB.int hk1)).mono (by decide) (by decide)
  have a2 : RB 2201 1501 (z - (k2 : Rat)) := (hz.sub (RB.int hk2)).mono (by decide) (by decide)
  have hb : Bd 700 ((s1 * o2 - s2 * o1) * d0 + (s2 * o0 - s0 * o2) * d1 + (s0 * o1 - s1 * o0) * d2) := by wtm_at "y_bdn"
  have c {a b c d : Int} (ha : Bd 200 a) (hb : Bd 200 b) (hc : Bd 200 c) (hd : Bd 200 d) : Bd 700 (a * b - c * d) := ((ha.mul hb).subM (hc.mul hd)).mono (by decide)
  wtm_at "y_go"
  refine sp_point_dot a0 a1 a2 (c ho1 hd2 ho2 hd1) (c ho2 hd0 ho0 hd2) (c ho0 hd1 ho1 hd0) ?_
  wtm_at "y_go"
  refine sp_by_i e (RB.pdot a0 a1 a2 (c ho1 hd2 ho2 hd1) (c ho2 hd0 ho0 hd2) (c ho0 hd1 ho1 hd0)) hb (by decide) ?_
  wtm_at "y_go"
  refine sp_point_dot a0 a1 a2 (c hd1 hs2 hd2 hs1) (c hd2 hs0 hd0 hs2) (c hd0 hs1 hd1 hs0) ?_
  wtm_at "y_go"
  refine sp_by_i e (RB.pdot a0 a1 a2 (c hd1 hs2 hd2 hs1) (c hd2 hs0 hd0 hs2) (c hd0 hs1 hd1 hs0)) hb (by decide) ?_
  wtm_at "y_go"
  exact h1 e
theorem sp_shadow_of {t0 t1 t2 : Int} (hk0 : Bd 200 k0) (hk1 : Bd 200 k1) (hk2 : Bd 200 k2) (hs0 : Bd 200 s0) (hs1 : Bd 200 s1) (hs2 : Bd 200 s2) (ho0 : Bd 200 o0) (ho1 : Bd 200 o1) (ho2 : Bd 200 o2) (hd0 : Bd 200 d0) (hd1 : Bd 200 d1) (hd2 : Bd 200 d2) (ht0 : Bd 1500 t0) (ht1 : Bd 1500 t1) (ht2 : Bd 1500 t2)
    (h0 : ¬ 0 < (s1 * o2 - s2 * o1) * d0 + (s2 * o0 - s0 * o2) * d1 + (s0 * o1 - s1 * o0) * d2 → P .non)
    (h1 : 0 < (s1 * o2 - s2 * o1) * d0 + (s2 * o0 - s0 * o2) * d1 + (s0 * o1 - s1 * o0) * d2 → P (.tup [
      rD ((((t0 : Rat) - (k0 : Rat)) * ((o1 * d2 - o2 * d1 : Int) : Rat) + ((t1 : Rat) - (k1 : Rat)) * ((o2 * d0 - o0 * d2 : Int) : Rat) + ((t2 : Rat) - (k2 : Rat)) * ((o0 * d1 - o1 * d0 : Int) : Rat)) / (((s1 * o2 - s2 * o1) * d0 + (s2 * o0 - s0 * o2) * d1 + (s0 * o1 - s1 * o0) * d2 : Int) : Rat)),
      rD ((((t0 : Rat) - (k0 : Rat)) * ((d1 * s2 - d2 * s1 : Int) : Rat) + ((t1 : Rat) - (k1 : Rat)) * ((d2 * s0 - d0 * s2 : Int) : Rat) + ((t2 : Rat) - (k2 : Rat)) * ((d0 * s1 - d1 * s0 : Int) : Rat)) / (((s1 * o2 - s2 * o1) * d0 + (s2 * o0 - s0 * o2) * d1 + (s0 * o1 - s1 * o0) * d2 : Int) : Rat))])) :
    (f_shadow_of [.tup [t3 k0 k1 k2, t3 s0 s1 s2, t3 o0 o1 o2], t3 t0 t1 t2, t3 d0 d1 d2]).wp P NoE := by
  wtm_at "y_in"
  wtm_at "y_go"
  · rename_i e; exact h0 e
  · rename_i e
    refine sp_as_point ?_
    wtm_at "y_go"
    exact sp_meeting_of hk0 hk1 hk2 hs0 hs1 hs2 ho0 ho1 ho2 hd0 hd1 hd2 ((RB.int ht0).mono (by decide) (by decide)) ((RB.int ht1).mono (by decide) (by decide)) ((RB.int ht2).mono (by decide) (by decide)) (fun z => absurd z (by omega)) (fun _ => h1 e)
end

local macro_rules | `(tactic| wtm_at "y_nz") => `(tactic| first | assumption | decide | omega | (exact Int.mul_ne_zero (by first | assumption | decide | omega) (by first | assumption | decide | omega)) | grind)
local macro_rules | `(tactic| wtm_at "y_req") => `(tactic| (first | rfl | ((simp only [Rat.divInt_eq_div, Rat.intCast_add, Rat.intCast_sub, Rat.intCast_mul, Rat.intCast_neg, Rat.intCast_zero, Rat.intCast_one, Rat.intCast_ofNat]); grind)))
local macro_rules | `(tactic| wtm_at "y_req") => `(tactic| ((with_reducible refine rdiv_eqD ?_ ?_ ?_); (focus (wtm_at "y_nz"; done)); (focus (wtm_at "y_nz"; done)); ((simp only [Rat.divInt_eq_div, Rat.intCast_add, Rat.intCast_sub, Rat.intCast_mul, Rat.intCast_neg, Rat.intCast_zero, Rat.intCast_one, Rat.intCast_ofNat]); grind)))
local macro_rules | `(tactic| wtm_at "y_req") => `(tactic| first | (exact due_eq (by wtm_at "y_nz") (by wtm_at "y_nz")) | (exact due_eq_neg (by wtm_at "y_nz") (by wtm_at "y_nz") (by grind) (by grind) (by grind) (by grind)))
local macro_rules | `(tactic| wtm_at "y_fn") => `(tactic| ((with_reducible show R.wp (f_shadow_of [.tup [.tup [.int _, .int _, .int _], .tup [.int _, .int _, .int _], .tup [.int _, .int _, .int _]], .tup [.int _, .int _, .int _], .tup [.int _, .int _, .int _]]) _ _); refine sp_shadow_of (by wtm_at "y_bdn") (by wtm_at "y_bdn") (by wtm_at "y_bdn") (by wtm_at "y_bdn") (by wtm_at "y_bdn") (by wtm_at "y_bdn") (by wtm_at "y_bdn") (by wtm_at "y_bdn") (by wtm_at "y_bdn") (by wtm_at "y_bdn") (by wtm_at "y_bdn") (by wtm_at "y_bdn") (by wtm_at "y_bdn") (by wtm_at "y_bdn") (by wtm_at "y_bdn") (fun _ => ?_) (fun _ => ?_)))
local macro_rules | `(tactic| wtm_at "y_fn") => `(tactic| ((with_reducible show R.wp (f_meeting_of [.tup [.tup [.int _, .int _, .int _], .tup [.int _, .int _, .int _], .tup [.int _, .int _, .int _]], .tup [rD _, rD _, rD _], .tup [.int _, .int _, .int _]]) _ _); refine sp_meeting_of (by wtm_at "y_bdn") (by wtm_at "y_bdn") (by wtm_at "y_bdn") (by wtm_at "y_bdn") (by wtm_at "y_bdn") (by wtm_at "y_bdn") (by wtm_at "y_bdn") (by wtm_at "y_bdn") (by wtm_at "y_bdn") (by wtm_at "y_bdn") (by wtm_at "y_bdn") (by wtm_at "y_bdn") (by wtm_at "y_rbn") (by wtm_at "y_rbn") (by wtm_at "y_rbn") (fun _ => ?_) (fun _ => ?_)))
local macro_rules | `(tactic| wtm_at "y_rbn") => `(tactic| (exact RB.mono (by wtm_at "y_rb") (by decide) (by decide)))

theorem sp_point_of {k0 k1 k2 s0 s1 s2 o0 o1 o2 : Int} {x y : Rat} {P : D → Prop} (hk0 : Bd 400 k0) (hk1 : Bd 400 k1) (hk2 : Bd 400 k2) (hs0 : Bd 400 s0) (hs1 : Bd 400 s1) (hs2 : Bd 400 s2) (ho0 : Bd 400 o0) (ho1 : Bd 400 o1) (ho2 : Bd 400 o2) (hx : RB 2000 2000 x) (hy : RB 2000 2000 y)
    (h : P (.tup [rD ((k0 : Rat) + (x * (s0 : Rat) + y * (o0 : Rat))), rD ((k1 : Rat) + (x * (s1 : Rat) + y * (o1 : Rat))), rD ((k2 : Rat) + (x * (s2 : Rat) + y * (o2 : Rat)))])) :
    (f_point_of [.tup [t3 k0 k1 k2, t3 s0 s1 s2, t3 o0 o1 o2], .tup [rD x, rD y]]).wp P NoE := by
  wtm_at "y_in"
  wtm_at "y_go"
  exact h
theorem sp_lies_on {x y : Rat} {P : D → Prop} {n m n' m' : Nat} (hx : RB n m x) (hy : RB n' m' y) (hs : n < 1000000 ∧ m < 1000000 ∧ n' < 1000000 ∧ m' < 1000000) (h : P (.bl (decide ((0 ≤ x ∧ x ≤ 1) ∧ (0 ≤ y ∧ y ≤ 1))))) :
    (f_lies_on [.tup [rD x, rD y]]).wp P NoE := by
  have hsx : n < 1000000 ∧ m < 1000000 := by omega
  have hsy : n' < 1000000 ∧ m' < 1000000 := by omega
  have h2 : ¬ ((0 ≤ x ∧ x ≤ 1) ∧ (0 ≤ y ∧ y ≤ 1)) → P (.bl false) := fun z => by rw [decide_eq_false z] at h; exact h
  have h1 : ((0 ≤ x ∧ x ≤ 1) ∧ (0 ≤ y ∧ y ≤ 1)) → P (.bl true) := fun z => by rw [decide_eq_true z] at h; exact h
  wtm_at "y_in"
  wtm_at "y_go"
  all_goals first
    | exact h1 (by grind)
    | exact h2 (by grind)

section
variable {k0 k1 k2 s0 s1 s2 o0 o1 o2 d0 d1 d2 : Int} {x y z : Rat} {P : D → Prop}
theorem sp_0_under {n m : Nat} (hx : RB n m x) (hs : n < 1000000 ∧ m < 1000000) (h : P (.bl (decide (0 < x)))) : (f_is_under [.tup [.int 0, .int 1], rD x]).wp P NoE :=
  sp_is_under (x := 0) RB.zero hx (by omega) h
/-- what the plate's crosses are called -/
theorem sp_is_beyond (hk0 : Bd 200 k0) (hk1 : Bd 200 k1) (hk2 : Bd 200 k2) (hs0 : Bd 200 s0) (hs1 : Bd 200 s1) (hs2 : Bd 200 s2) (ho0 : Bd 200 o0) (ho1 : Bd 200 o1) (ho2 : Bd 200 o2) (hd0 : Bd 200 d0) (hd1 : Bd 200 d1) (hd2 : Bd 200 d2) (hx : RB 1500 1500 x) (hy : RB 1500 1500 y) (hz : RB 1500 1500 z)
    (h1 : 0 < (s1 * o2 - s2 * o1) * d0 + (s2 * o0 - s0 * o2) * d1 + (s0 * o1 - s1 * o0) * d2 → P (.bl (decide ((x - (k0 : Rat)) * ((s1 * o2 - s2 * o1 : Int) : Rat) + (y - (k1 : Rat)) * ((s2 * o0 - s0 * o2 : Int) : Rat) + (z - (k2 : Rat)) * ((s0 * o1 - s1 * o0 : Int) : Rat) < 0))))
    (h2 : ¬ 0 < (s1 * o2 - s2 * o1) * d0 + (s2 * o0 - s0 * o2) * d1 + (s0 * o1 - s1 * o0) * d2 → P (.bl (decide (0 < (x - (k0 : Rat)) * ((s1 * o2 - s2 * o1 : Int) : Rat) + (y - (k1 : Rat)) * ((s2 * o0 - s0 * o2 : Int) : Rat) + (z - (k2 : Rat)) * ((s0 * o1 - s1 * o0 : Int) : Rat))))) :
    (f_is_beyond [.tup [t3 k0 k1 k2, t3 s0 s1 s2, t3 o0 o1 o2], .tup [rD x, rD y, rD z], t3 d0 d1 d2]).wp P NoE := by
  have a0 : RB 2201 1501 (x - (k0 : Rat)) := (hx.sub (RB.int (hk0.mono (by decide : 200 ≤ 700)))).mono (by decide) (by decide)
  have a1 : RB 2201 1501 (y - (k1 : Rat)) := (hy.sub (RB.int (hk1.mono (by decide : 200 ≤ 700)))).mono (by decide) (by decide)
  have a2 : RB 2201 1501 (z - (k2 : Rat)) := (hz.sub (RB.int (hk2.mono (by decide : 200 ≤ 700)))).mono (by decide) (by decide)
  have c {a b c d : Int} (ha : Bd 200 a) (hb : Bd 200 b) (hc : Bd 200 c) (hd : Bd 200 d) : Bd 700 (a * b - c * d) := ((ha.mul hb).subM (hc.mul hd)).mono (by decide)
  have hq := RB.pdot a0 a1 a2 (c hs1 ho2 hs2 ho1) (c hs2 ho0 hs0 ho2) (c hs0 ho1 hs1 ho0)
  wtm_at "y_in"
  wtm_at "y_go"
  refine sp_point_less hx hy hz (hk0.mono (by decide)) (hk1.mono (by decide)) (hk2.mono (by decide)) ?_
  wtm_at "y_go"
  refine sp_point_dot a0 a1 a2 (c hs1 ho2 hs2 ho1) (c hs2 ho0 hs0 ho2) (c hs0 ho1 hs1 ho0) ?_
  wtm_at "y_go"
  · rename_i e; exact h1 e
  · rename_i e
    exact sp_0_under hq (by decide) (h2 e)
theorem sp_hides_point (hk0 : Bd 200 k0) (hk1 : Bd 200 k1) (hk2 : Bd 200 k2) (hs0 : Bd 200 s0) (hs1 : Bd 200 s1) (hs2 : Bd 200 s2) (ho0 : Bd 200 o0) (ho1 : Bd 200 o1) (ho2 : Bd 200 o2) (hd0 : Bd 200 d0) (hd1 : Bd 200 d1) (hd2 : Bd 200 d2) (hx : RB 1500 1500 x) (hy : RB 1500 1500 y) (hz : RB 1500 1500 z)
    {X0 X1 X2 Y0 Y1 Y2 F0 F1 F2 W : Int} (eX0 : o1 * d2 - o2 * d1 = X0) (eX1 : o2 * d0 - o0 * d2 = X1) (eX2 : o0 * d1 - o1 * d0 = X2) (eY0 : d1 * s2 - d2 * s1 = Y0) (eY1 : d2 * s0 - d0 * s2 = Y1) (eY2 : d0 * s1 - d1 * s0 = Y2)
    (eF0 : s1 * o2 - s2 * o1 = F0) (eF1 : s2 * o0 - s0 * o2 = F1) (eF2 : s0 * o1 - s1 * o0 = F2) (eW : F0 * d0 + F1 * d1 + F2 * d2 = W)
    (h0 : W = 0 → P (.bl false))
    (h1 : W ≠ 0 → ¬ ((0 ≤ ((x - (k0 : Rat)) * (X0 : Rat) + (y - (k1 : Rat)) * (X1 : Rat) + (z - (k2 : Rat)) * (X2 : Rat)) / (W : Rat) ∧ ((x - (k0 : Rat)) * (X0 : Rat) + (y - (k1 : Rat)) * (X1 : Rat) + (z - (k2 : Rat)) * (X2 : Rat)) / (W : Rat) ≤ 1) ∧
      (0 ≤ ((x - (k0 : Rat)) * (Y0 : Rat) + (y - (k1 : Rat)) * (Y1 : Rat) + (z - (k2 : Rat)) * (Y2 : Rat)) / (W : Rat) ∧ ((x - (k0 : Rat)) * (Y0 : Rat) + (y - (k1 : Rat)) * (Y1 : Rat) + (z - (k2 : Rat)) * (Y2 : Rat)) / (W : Rat) ≤ 1)) → P (.bl false))
    (h2 : W ≠ 0 → ((0 ≤ ((x - (k0 : Rat)) * (X0 : Rat) + (y - (k1 : Rat)) * (X1 : Rat) + (z - (k2 : Rat)) * (X2 : Rat)) / (W : Rat) ∧ ((x - (k0 : Rat)) * (X0 : Rat) + (y - (k1 : Rat)) * (X1 : Rat) + (z - (k2 : Rat)) * (X2 : Rat)) / (W : Rat) ≤ 1) ∧
      (0 ≤ ((x - (k0 : Rat)) * (Y0 : Rat) + (y - (k1 : Rat)) * (Y1 : Rat) + (z - (k2 : Rat)) * (Y2 : Rat)) / (W : Rat) ∧ ((x - (k0 : Rat)) * (Y0 : Rat) + (y - (k1 : Rat)) * (Y1 : Rat) + (z - (k2 : Rat)) * (Y2 : Rat)) / (W : Rat) ≤ 1)) →
      P (.bl (decide ((0 < W ∧ (x - (k0 : Rat)) * (F0 : Rat) + (y - (k1 : Rat)) * (F1 : Rat) + (z - (k2 : Rat)) * (F2 : Rat) < 0) ∨ (W < 0 ∧ 0 < (x - (k0 : Rat)) * (F0 : Rat) + (y - (k1 : Rat)) * (F1 : Rat) + (z - (k2 : Rat)) * (F2 : Rat)))))) :
    (f_hides_point [.tup [t3 k0 k1 k2, t3 s0 s1 s2, t3 o0 o1 o2], .tup [rD x, rD y, rD z], t3 d0 d1 d2]).wp P NoE := by
  subst eX0 eX1 eX2 eY0 eY1 eY2 eF0 eF1 eF2 eW
  have a0 : RB 2201 1501 (x - (k0 : Rat)) := (hx.sub (RB.int (hk0.mono (by decide : 200 ≤ 700)))).mono (by decide) (by decide)
  have a1 : RB 2201 1501 (y - (k1 : Rat)) := (hy.sub (RB.int (hk1.mono (by decide : 200 ≤ 700)))).mono (by decide) (by decide)
  have a2 : RB 2201 1501 (z - (k2 : Rat)) := (hz.sub (RB.int (hk2.mono (by decide : 200 ≤ 700)))).mono (by decide) (by decide)
  have c {a b c d : Int} (ha : Bd 200 a) (hb : Bd 200 b) (hc : Bd 200 c) (hd : Bd 200 d) : Bd 700 (a * b - c * d) := ((ha.mul hb).subM (hc.mul hd)).mono (by decide)
  have hW : Bd 700 ((s1 * o2 - s2 * o1) * d0 + (s2 * o0 - s0 * o2) * d1 + (s0 * o1 - s1 * o0) * d2) := by wtm_at "y_bdn"
  have hq := RB.pdot a0 a1 a2 (c ho1 hd2 ho2 hd1) (c ho2 hd0 ho0 hd2) (c ho0 hd1 ho1 hd0)
  have hr := RB.pdot a0 a1 a2 (c hd1 hs2 hd2 hs1) (c hd2 hs0 hd0 hs2) (c hd0 hs1 hd1 hs0)
  wtm_at "y_in"
  refine sp_seq ?_
  refine sp_setU (wp_call ?_)
  wtm_at "y_go"
  · rename_i e; exact h0 e
  rename_i e
  have hWR := rcast_ne e
  refine sp_lies_on (RB.div hWR hq (RB.int hW)) (RB.div hWR hr (RB.int hW)) (by decide) ?_
  wtm_at "y_go"
  · rename_i on
    refine sp_is_beyond hk0 hk1 hk2 hs0 hs1 hs2 ho0 ho1 ho2 hd0 hd1 hd2 hx hy hz (fun e2 => ?_) (fun e2 => ?_)
    · have q := h2 e on
      rw [show decide _ = decide _ from decide_eq_decide.mpr (show _ ↔ _ from ⟨fun z => z.elim (fun z => z.2) (fun z => absurd e2 (by omega)), fun z => .inl ⟨e2, z⟩⟩)] at q
      exact q
    · have e3 : (s1 * o2 - s2 * o1) * d0 + (s2 * o0 - s0 * o2) * d1 + (s0 * o1 - s1 * o0) * d2 < 0 := by omega
      have q := h2 e on
      rw [show decide _ = decide _ from decide_eq_decide.mpr (show _ ↔ _ from ⟨fun z => z.elim (fun z => absurd z.1 e2) (fun z => z.2), fun z => .inr ⟨e3, z⟩⟩)] at q
      exact q
  · rename_i on; exact h1 e on
end

/-! ### the numbers that k23 .. k37 draw -/
theorem sp_wcell (ns : List Int) (k : Int) (h0 : 0 ≤ k) (h1 : k < 1000) : (f__law_cell [.lst (ns.map .int), .int k]).wp (fun d => ∃ c, d = .int c) NoE := by
  have hk : Bd 10 k := Bd.le (j := 1000) (Bd.lit (by decide)) h0 (by omega)
  wtm_at "y_in"
  wtm_at "y_go"
  · rename_i h
    rw [len_ints] at h
    obtain ⟨x, _, e⟩ := atI_ints h0 h
    exact w_ixL e ⟨x, rfl⟩
  · rename_i h hp
    have g1 := Int.emod_nonneg (k * 7) (show ((ns.map D.int).length : Int) ≠ 0 by omega)
    have g2 := Int.emod_lt_of_pos (k * 7) hp
    rw [len_ints] at g1 g2 ⊢
    obtain ⟨x, _, e⟩ := atI_ints (ns := ns) g1 g2
    refine w_ixL e ?_
    wtm_at "y_go"
    exact ⟨_, rfl⟩
  · exact ⟨_, rfl⟩
theorem sp_wide (ns : List Int) (k : Int) (h0 : 0 ≤ k) (h1 : k < 1000) : (f__law_wide [.lst (ns.map .int), .int k]).wp (fun d => ∃ c, d = .int c ∧ 0 ≤ c ∧ Bd 500 c) NoE := by
  have hk : Bd 10 k := Bd.le (j := 1000) (Bd.lit (by decide)) h0 (by omega)
  wtm_at "y_in"
  wtm_at "y_go"
  refine (sp_wcell ns k h0 h1).no ?_
  rintro _ ⟨c, rfl⟩
  have tail : Got (oPow (D.int ((c % 2147483629 + 48271 + k * k) * 982451653 + 7)) (D.int 7)) (fun a => Got (oDiv a (D.int 1000003)) (fun d => ∃ c, d = .int c ∧ 0 ≤ c ∧ Bd 500 c)) := by
    have g1 := Int.emod_nonneg c (show (2147483629 : Int) ≠ 0 by decide)
    have g2 := Int.emod_lt_of_pos c (show (0 : Int) < 2147483629 by decide)
    have g3 : 0 ≤ k * k := Int.mul_nonneg h0 h0
    have g4 : k * k ≤ 1000 * 1000 := Int.mul_le_mul (by omega) (by omega) h0 (by decide)
    have e : Bd 63 ((c % 2147483629 + 48271 + k * k) * 982451653 + 7) := Bd.lt (by omega) (by omega)
    refine w_pow ⟨by decide, by decide, Nat.lt_of_lt_of_le e (by decide)⟩ ?_
    generalize hv : (c % 2147483629 + 48271 + k * k) * 982451653 + 7 = v at e
    have hv0 : 0 ≤ v := by omega
    have hp : (v : Int) ^ (7 : Int).toNat = v * v * v * v * v * v * v := by
      show v ^ 7 = _
      simp only [Int.pow_succ, Int.pow_zero, Int.one_mul]
    rw [hp]
    have b : Bd 450 (v * v * v * v * v * v * v) := Bd.mono (((((((e.mul e).mul e).mul e).mul e).mul e).mul e)) (by decide)
    have n0 : 0 ≤ v * v * v * v * v * v * v := by
      have m {a : Int} (ha : 0 ≤ a) : 0 ≤ a * v := Int.mul_nonneg ha hv0
      exact m (m (m (m (m (m hv0)))))
    refine w_div (by decide) (Bd.log (n := 200) (Bd.lit (by decide)) (by decide)) ⟨_, rfl, Int.ediv_nonneg n0 (by decide), ?_⟩
    exact (Bd.le b (Int.ediv_nonneg n0 (by decide)) (Int.ediv_le_self _ n0)).mono (by decide)
  wtm_at "y_go"
  · exact ⟨_, rfl, Int.emod_nonneg _ (by decide), Bd.mono (Bd.mod (by decide) ((Bd.lit (n := 200) (by decide)).mul (Bd.lit (n := 200) (by decide)))) (by decide)⟩
  all_goals exact tail
theorem Bd.le' {i m : Int} {n : Nat} (h0 : -m ≤ i) (h1 : i ≤ m) (h : Bd n m) : Bd n i := by unfold Bd at *; omega
theorem sp_wtriple (c m : Int) (hm : 1 ≤ m) (hm2 : m ≤ 1000000000) : (f__law_triple [.int c, .int m]).wp (T3 31) NoE := by
  have hb : Bd 30 m := Bd.le (j := 1000000000) (Bd.lit (by decide)) (by omega) hm2
  have hs : Bd 40 (2 * m + 1) := Bd.lt (by omega) (by omega)
  have hsz : (2 * m + 1) * (2 * m + 1) > 0 := Int.mul_pos (by omega) (by omega)
  have key (r : Int) : Bd 31 (r % (2 * m + 1) - m) := by
    have g1 := Int.emod_nonneg r (show (2 * m + 1) ≠ 0 by omega)
    have g2 := Int.emod_lt_of_pos r (show 0 < 2 * m + 1 by omega)
    exact Bd.le' (m := m) (by omega) (by omega) (hb.mono (by decide))
  wtm_at "y_in"
  wtm_at "y_go"
  refine w_pow ⟨by decide, by decide, Nat.lt_of_lt_of_le hs (by decide)⟩ ?_
  have hp : (2 * m + 1 : Int) ^ (2 : Int).toNat = (2 * m + 1) * (2 * m + 1) := by
    show (2 * m + 1) ^ 2 = _
    simp only [Int.pow_succ, Int.pow_zero, Int.one_mul]
  rw [hp]
  refine w_div hsz (Bd.log (hs.mul hs) (by decide)) ?_
  wtm_at "y_go"
  exact ⟨_, _, _, rfl, key _, key _, key _⟩
section
variable {a b c d e f m : Int} {P : D → Prop} {n n' : Nat}
theorem sp_lcross (hn : n < 10000) (hn' : n' < 10000) (ha : Bd n a) (hb : Bd n b) (hc : Bd n c) (hd : Bd n' d) (he : Bd n' e) (hf : Bd n' f) (h : P (t3 (b * f - c * e) (c * d - a * f) (a * e - b * d))) : (f__law_cross [t3 a b c, t3 d e f]).wp P NoE := by
  wtm_at "y_in"
  wtm_at "y_go"
  exact h
theorem sp_ldot (hn : n < 10000) (hn' : n' < 10000) (ha : Bd n a) (hb : Bd n b) (hc : Bd n c) (hd : Bd n' d) (he : Bd n' e) (hf : Bd n' f) (h : P (.int (a * d + b * e + c * f))) : (f__law_dot [t3 a b c, t3 d e f]).wp P NoE := by
  wtm_at "y_in"
  wtm_at "y_go"
  exact h
theorem sp_lon (hn : n < 10000) (hn' : n' < 10000) (ha : Bd n a) (hb : Bd n b) (hc : Bd n c) (hd : Bd n' d) (he : Bd n' e) (hf : Bd n' f) (hm : Bd n m) (h : P (t3 (a + m * d) (b + m * e) (c + m * f))) : (f__law_on [t3 a b c, t3 d e f, .int m]).wp P NoE := by
  wtm_at "y_in"
  wtm_at "y_go"
  exact h
end
theorem sp_wpair (c m : Int) (hm : 1 ≤ m) (hm2 : m ≤ 1000000000) : (f__law_pair [.int c, .int m]).wp (fun d => ∃ s0 s1 s2 o0 o1 o2, d = .tup [t3 s0 s1 s2, t3 o0 o1 o2] ∧ (Bd 31 s0 ∧ Bd 31 s1 ∧ Bd 31 s2) ∧ (Bd 31 o0 ∧ Bd 31 o1 ∧ Bd 31 o2)
    ∧ ¬ (s1 * o2 - s2 * o1 = 0 ∧ s2 * o0 - s0 * o2 = 0 ∧ s0 * o1 - s1 * o0 = 0)) NoE := by
  have hb : Bd 31 m := Bd.le (j := 1000000000) (Bd.lit (by decide)) (by omega) hm2
  have hs : Bd 40 (2 * m + 1) := Bd.lt (by omega) (by omega)
  have hsz : (2 * m + 1) * (2 * m + 1) * (2 * m + 1) > 0 := Int.mul_pos (Int.mul_pos (by omega) (by omega)) (by omega)
  have hp : (2 * m + 1 : Int) ^ (3 : Int).toNat = (2 * m + 1) * (2 * m + 1) * (2 * m + 1) := by
    show (2 * m + 1) ^ 3 = _
    simp only [Int.pow_succ, Int.pow_zero, Int.one_mul]
  wtm_at "y_in"
  wtm_at "y_go"
  refine (sp_wtriple _ _ hm hm2).no ?_
  rintro _ ⟨s0, s1, s2, rfl, hs0, hs1, hs2⟩
  wtm_at "y_go"
  refine w_pow ⟨by decide, by decide, Nat.lt_of_lt_of_le hs (by decide)⟩ ?_
  rw [hp]
  refine w_div hsz (Bd.log ((hs.mul hs).mul hs) (by decide)) ?_
  wtm_at "y_go"
  refine (sp_wtriple _ _ hm hm2).no ?_
  rintro _ ⟨o0, o1, o2, rfl, ho0, ho1, ho2⟩
  wtm_at "y_go"
  refine sp_lcross (n := 31) (n' := 31) (by decide) (by decide) hs0 hs1 hs2 ho0 ho1 ho2 ?_
  wtm_at "y_go"
  · refine ⟨_, _, _, _, _, _, rfl, ⟨hb, Bd.lit (by decide), Bd.lit (by decide)⟩, ⟨Bd.lit (by decide), hb, Bd.lit (by decide)⟩, ?_⟩
    have : 0 < m * m := Int.mul_pos (by omega) (by omega)
    omega
  · exact ⟨_, _, _, _, _, _, rfl, ⟨hs0, hs1, hs2⟩, ⟨ho0, ho1, ho2⟩, by assumption⟩

local macro_rules | `(tactic| wtm_at "y_fn") => `(tactic| ((with_reducible show R.wp (f__law_cross [.tup [.int _, .int _, .int _], .tup [.int _, .int _, .int _]]) _ _); refine sp_lcross (n := 2000) (n' := 2000) (by decide) (by decide) (by wtm_at "y_bdn") (by wtm_at "y_bdn") (by wtm_at "y_bdn") (by wtm_at "y_bdn") (by wtm_at "y_bdn") (by wtm_at "y_bdn") ?_))
local macro_rules | `(tactic| wtm_at "y_fn") => `(tactic| ((with_reducible show R.wp (f__law_dot [.tup [.int _, .int _, .int _], .tup [.int _, .int _, .int _]]) _ _); refine sp_ldot (n := 2000) (n' := 2000) (by decide) (by decide) (by wtm_at "y_bdn") (by wtm_at "y_bdn") (by wtm_at "y_bdn") (by wtm_at "y_bdn") (by wtm_at "y_bdn") (by wtm_at "y_bdn") ?_))

local macro_rules | `(tactic| wtm_at "y_fn") => `(tactic| ((with_reducible show R.wp (f__law_on [.tup [.int _, .int _, .int _], .tup [.int _, .int _, .int _], .int _]) _ _); refine sp_lon (n := 2000) (n' := 2000) (by decide) (by decide) (by wtm_at "y_bdn") (by wtm_at "y_bdn") (by wtm_at "y_bdn") (by wtm_at "y_bdn") (by wtm_at "y_bdn") (by wtm_at "y_bdn") (by wtm_at "y_bdn") ?_))

local macro_rules | `(tactic| wtm_at "y_l1") => `(tactic| exact Bd.lit (n := 60) (by decide))
local macro_rules | `(tactic| wtm_at "y_bind") => `(tactic| repeat' (first | ((with_reducible show Got (bCons _ _ (List.map _ _) _) _); simp only [List.map_cons, List.map_nil]) | (with_reducible refine w_bSeqT rfl ?_) | (with_reducible refine w_bSeqL rfl ?_) | (with_reducible refine w_bName ?_) | (with_reducible refine w_bCons ?_) | (with_reducible refine w_bNil ?_) | ((with_reducible show Upd _ _ _ _); refine upd_step (by ((simp only [List.set_cons_zero, List.set_cons_succ]) <;> rfl)) ?_)))

/-! ### comprehensions over a list of any length -/
section
variable {α : Type} {b : D → REnv → Option REnv} {c : REnv → R Bool} {e : REnv → R D} {ρ : REnv} {f g : α → D} {keep : α → Bool} {P : List D → Prop}
theorem c_list : ∀ (xs : List α), (∀ x ∈ xs, Got (b (f x) ρ) fun ρ' => (c ρ').wp (fun k => k = keep x ∧ (k = true → (e ρ').wp (fun v => v = g x) NoE)) NoE) → Got (compS b c e (xs.map f) ρ) fun rs => rs = (xs.filter keep).map g
  | [], _ => c_nil rfl
  | x :: xs, h => by
    have hx := h x List.mem_cons_self
    obtain ⟨ρ', e1, h1⟩ := hx
    refine c_cons ⟨ρ', e1, h1.imp (fun k hk => ?_) fun _ z => z⟩
    obtain ⟨rs, er, hr⟩ := c_list xs fun y hy => h y (List.mem_cons_of_mem _ hy)
    refine ⟨fun k1 => (hk.2 k1).imp (fun v hv => ⟨rs, er, ?_⟩) fun _ z => z, fun k0 => ⟨rs, er, ?_⟩⟩
    · rw [hr, hv, List.filter_cons_of_pos (by rw [← hk.1, k1])]
      rfl
    · rw [hr, List.filter_cons_of_neg (by rw [← hk.1, k0]; decide)]
theorem c_listG {xs : List α} (h : ∀ x ∈ xs, Got (b (f x) ρ) fun ρ' => (c ρ').wp (fun k => k = keep x ∧ (k = true → (e ρ').wp (fun v => v = g x) NoE)) NoE) (hp : P ((xs.filter keep).map g)) : Got (compS b c e (xs.map f) ρ) P := by
  obtain ⟨rs, e1, e2⟩ := c_list xs h
  exact ⟨rs, e1, by rw [e2]; exact hp⟩
theorem c_mapG {xs : List α} (h : ∀ x ∈ xs, Got (b (f x) ρ) fun ρ' => (e ρ').wp (fun v => v = g x) NoE) (hp : P (xs.map g)) : Got (compS b eYes e (xs.map f) ρ) P := by
  refine c_listG (keep := fun _ => true) (g := g) (fun x hx => ?_) ?_
  · obtain ⟨ρ', e1, h1⟩ := h x hx
    exact ⟨ρ', e1, wp_yes ⟨rfl, fun _ => h1⟩⟩
  · rw [List.filter_eq_self.mpr (fun _ _ => rfl)]
    exact hp
end

/-! ### yards: suns, walls, dials -/
abbrev Tr := Int × Int × Int
abbrev tD (p : Tr) : D := t3 p.1 p.2.1 p.2.2
def Gd (n : Nat) (p : Tr) : Prop := Bd n p.1 ∧ Bd n p.2.1 ∧ Bd n p.2.2
theorem Gd.mono {n m : Nat} {p : Tr} (h : Gd n p) (k : n ≤ m) : Gd m p := ⟨h.1.mono k, h.2.1.mono k, h.2.2.mono k⟩
abbrev Row := Int × Tr
abbrev rowD (r : Row) : D := .tup [.int r.1, tD r.2]
abbrev Plate := Tr × Tr × Tr
abbrev plD (p : Plate) : D := .tup [tD p.1, tD p.2.1, tD p.2.2]
def Gp (n : Nat) (p : Plate) : Prop := Gd n p.1 ∧ Gd n p.2.1 ∧ Gd n p.2.2
abbrev Wall := Str × Plate
abbrev Dial := Str × Plate × Tr
abbrev wallD (w : Wall) : D := .tup [.str w.1, plD w.2]
abbrev dialD (f : Dial) : D := .tup [.str f.1, plD f.2.1, tD f.2.2]
abbrev yardD (rs : List Row) (ws : List Wall) (fs : List Dial) : D := .tup [.lst (rs.map rowD), .lst (ws.map wallD), .lst (fs.map dialD)]
structure Sun (rs : List Row) : Prop where
  f : ∀ r ∈ rs, ∀ q ∈ rs, r.1 = q.1 → r = q
  n : (rs.map (·.1)).Nodup
instance {rs : List Row} : CoeFun (Sun rs) (fun _ => ∀ r ∈ rs, ∀ q ∈ rs, r.1 = q.1 → r = q) := ⟨Sun.f⟩
theorem Sun.of {rs : List Row} (n : (rs.map (·.1)).Nodup) : Sun rs := ⟨fun r hr q hq e => by
  obtain ⟨i, hi⟩ := List.getElem?_of_mem hr
  obtain ⟨j, hj⟩ := List.getElem?_of_mem hq
  obtain ⟨i1, i2⟩ := List.getElem?_eq_some_iff.mp hi
  obtain ⟨j1, j2⟩ := List.getElem?_eq_some_iff.mp hj
  rw [List.Nodup, List.pairwise_map, List.pairwise_iff_getElem] at n
  rcases Nat.lt_trichotomy i j with h | h | h
  · exact absurd (by rw [i2, j2]; exact e) (n i j i1 j1 h)
  · subst h
    rw [hi] at hj
    exact Option.some.inj hj
  · exact absurd (by rw [i2, j2]; exact e.symm) (n j i j1 i1 h), n⟩
/-! #### reading a list of known length -/
theorem ix_map {α : Type} {f : α → D} {xs : List α} {d : D} (hd : D.lst (xs.map f) = d) {K : Int} (h0 : 0 ≤ K) (h1 : K < xs.length) : ∃ x ∈ xs, oIx d (.int K) = some (f x) := by
  have hk : K.toNat < xs.length := by omega
  refine ⟨xs[K.toNat], List.getElem_mem hk, ?_⟩
  have q : (xs.map f)[K.toNat]? = some (f xs[K.toNat]) := by rw [List.getElem?_map, List.getElem?_eq_getElem hk]; rfl
  have z := atI_nat q
  rw [show ((K.toNat : Nat) : Int) = K by omega] at z
  rw [← hd]
  exact z
theorem len_map {α : Type} {f : α → D} {xs : List α} {d : D} (hd : D.lst (xs.map f) = d) : oLen [d] = some (.int xs.length) := by
  rw [← hd]
  show some (D.int ((xs.map f).length : Nat)) = _
  rw [List.length_map]
/-! #### the sun -/
theorem sp_sunY (ns : List Int) {N : Int} (h0 : 1 ≤ N) (h1 : N ≤ 20) : (f__law_sun [.lst (ns.map .int), .int N]).wp (fun d => ∃ rs : List Row, d = .lst (rs.map rowD) ∧ rs.length = N.toNat ∧ Sun rs ∧ ∀ r ∈ rs, Gd 60 r.2) NoE := by
  wtm_at "y_in"
  repeat' wtm_at "y_dy"
  refine (sp_wide ns 1 (by decide) (by decide)).no ?_
  rintro _ ⟨c1, rfl, _, _⟩
  repeat' wtm_at "y_dy"
  refine forS_inv (fun i ρ => ∃ (rs : List Row) (h : Int) (u v w x : Sl), ρ = [.val (.lst (ns.map .int)), .val (.int N), .own (rs.map rowD), .val (.int h), u, v, w, x] ∧ rs.length = i ∧ (∀ r ∈ rs, r.1 < h) ∧ Sun rs ∧ ∀ r ∈ rs, Gd 60 r.2) ⟨[], _, _, _, _, _, rfl, rfl, (fun _ h => nomatch h), Sun.of .nil, fun _ h => nomatch h⟩ ?_ ?_
  · rintro i d _ ed ⟨rs, h, u, v, w, x, rfl, hrl, hlt, hS, hG⟩
    obtain ⟨rfl, hi⟩ := rangeD_get ed
    have hsz : (rs.map rowD).length < sizeLine := by rw [List.length_map, sizeLine_eq]; omega
    obtain ⟨K, hK⟩ : ∃ K : Int, 0 + (i : Int) = K := ⟨_, rfl⟩
    rw [hK]
    repeat' wtm_at "y_dy"
    refine (sp_wide ns (2 + K) (by omega) (by omega)).no ?_
    rintro _ ⟨c, rfl, hc0, _⟩
    repeat' ((fail_if_success (with_reducible show Dy.Got (oIx _ _) _)); wtm_at "y_dy")
    refine w_ixAll (fun o => ∃ s, o = .int s ∧ -10 ≤ s ∧ s ≤ 10) (by omega) (by simp only [List.length_cons, List.length_nil]; omega) ?_ ?_
    · refine List.forall_mem_cons.mpr ⟨⟨_, rfl, by omega, by omega⟩, List.forall_mem_cons.mpr ⟨⟨_, rfl, by omega, by omega⟩, List.forall_mem_nil _⟩⟩
    rintro _ ⟨z, rfl, hz0, hz1⟩
    have add : ∀ (p : Tr) (h' : Int) (u v w x : Sl), Gd 60 p → h < h' → ∃ (rs' : List Row) (h'' : Int) (u' v' w' x' : Sl), [.val (.lst (ns.map .int)), .val (.int N), .own (rs.map rowD ++ [.tup [.int h, tD p]]), .val (.int h'), u, v, w, x] = [.val (.lst (ns.map .int)), .val (.int N), .own (rs'.map rowD), .val (.int h''), u', v', w', x'] ∧ rs'.length = i + 1 ∧ (∀ r ∈ rs', r.1 < h'') ∧ Sun rs' ∧ ∀ r ∈ rs', Gd 60 r.2 := fun p h' u v w x hp hh => by
      refine ⟨rs ++ [(h, p)], h', u, v, w, x, by rw [List.map_append]; rfl, by simp [hrl], fun r hr => ?_, Sun.of ?_, fun r hr => ?_⟩
      · rcases List.mem_append.mp hr with hr | hr
        · have := hlt r hr; omega
        · rw [List.mem_singleton.mp hr]; exact hh
      · rw [List.map_append, List.nodup_append]
        refine ⟨hS.n, by simp, fun z hz y hy e => ?_⟩
        obtain ⟨r, hr, rfl⟩ := List.mem_map.mp hz
        have := hlt r hr
        have : y = h := by simpa using hy
        omega
      · rcases List.mem_append.mp hr with hr | hr
        · exact hG r hr
        · rw [List.mem_singleton.mp hr]; exact hp
    have b0 : Bd 60 (c / 9 % 7 - 3) := by unfold Bd; omega
    have b1 : Bd 60 (c / 63 % 7 - 3) := by unfold Bd; omega
    have b2 : Bd 60 z := by unfold Bd; omega
    repeat' wtm_at "y_dy"
    · exact add (0, 0, 1) _ _ _ _ _ ⟨Bd.lit (by decide), Bd.lit (by decide), Bd.lit (by decide)⟩ (by omega)
    · exact add (_, _, _) _ _ _ _ _ ⟨b0, b1, b2⟩ (by omega)
  · rintro _ ⟨rs, h, u, v, w, x, rfl, hrl, hlt, hS, hG⟩
    repeat' wtm_at "y_dy"
    exact ⟨rs, rfl, by rw [hrl]; simp [rangeD], hS, hG⟩
theorem modB {n m : Int} (h0 : 0 < m) (h1 : m ≤ 10) : Bd 5 (n % m) := by
  have := Int.emod_nonneg n (show m ≠ 0 by omega)
  have := Int.emod_lt_of_pos n h0
  unfold Bd; omega
theorem modB1 {n m : Int} (h0 : 0 < m) (h1 : m ≤ 10) : Bd 5 (n % m - 1) := by
  have := Int.emod_nonneg n (show m ≠ 0 by omega)
  have := Int.emod_lt_of_pos n h0
  unfold Bd; omega
/-! #### a dial, a fence -/
abbrev Face := Plate × Tr × Tr
abbrev faceD (q : Face) : D := .tup [plD q.1, tD q.2.1, tD q.2.2]
theorem sp_dialY {c : Int} {rs : List Row} (h0 : 0 < rs.length) (hG : ∀ r ∈ rs, Gd 60 r.2) : (f__law_dial [.int c, .lst (rs.map rowD)]).wp (fun d => ∃ q : Face, d = faceD q ∧ Gp 150 q.1 ∧ Gd 150 q.2.1 ∧ Gd 150 q.2.2) NoE := by
  obtain ⟨ds, hds⟩ : ∃ ds, D.lst (rs.map rowD) = ds := ⟨_, rfl⟩
  have hlen := len_map hds
  obtain ⟨L, hL⟩ : ∃ L : Int, (rs.length : Int) = L := ⟨_, rfl⟩
  rw [hL] at hlen
  have hLp : 0 < L := by omega
  obtain ⟨r, hr, hix⟩ := ix_map hds (K := c / 4 % L) (Int.emod_nonneg _ (by omega)) (by rw [hL]; exact Int.emod_lt_of_pos _ hLp)
  obtain ⟨g0, g1, g2⟩ := hG r hr
  rw [hds]
  have hm1 : 1 ≤ 1 + c % 4 := by omega
  have hm2 : 1 + c % 4 ≤ 4 := by omega
  wtm_at "y_in"
  repeat' wtm_at "y_dy"
  generalize 1 + c % 4 = M at hm1 hm2 ⊢
  have bM : Bd 5 M := by unfold Bd; omega
  refine (sp_wpair _ 2 (by decide) (by decide)).no ?_
  rintro _ ⟨s0, s1, s2, o0, o1, o2, rfl, ⟨hs0, hs1, hs2⟩, ⟨ho0, ho1, ho2⟩, _⟩
  repeat' wtm_at "y_dy"
  refine g_ot hlen ?_
  repeat' wtm_at "y_dy"
  refine g_ot hix ?_
  have two : ∀ {a b : Int}, Bd 5 a → Bd 5 b → ∀ {d : D}, (D.int a = d ∨ D.int b = d) → ∃ s, d = .int s ∧ Bd 5 s := fun ha hb d h => h.elim (fun h => ⟨_, h.symm, ha⟩) fun h => ⟨_, h.symm, hb⟩
  have rest : ∀ (n : Int), Bd 5 (n % (M + 1)) ∧ Bd 5 (n % (M + 3) - 1) := fun n => ⟨modB (by omega) (by omega), modB1 (by omega) (by omega)⟩
  wtm_at "y_go"
  all_goals
    refine (sp_wtriple _ 6 (by decide) (by decide)).no ?_
    rintro _ ⟨k0, k1, k2, rfl, hk0, hk1, hk2⟩
    wtm_at "y_go"
    refine w_ixAll (fun o => ∃ s, o = .int s ∧ Bd 5 s) (by omega) (by simp only [List.length_cons, List.length_nil]; omega) (List.forall_mem_cons.mpr ⟨⟨_, rfl, (rest _).1⟩, List.forall_mem_cons.mpr ⟨⟨_, rfl, (rest _).2⟩, List.forall_mem_nil _⟩⟩) ?_
    rintro _ ⟨a, rfl, ha⟩
    wtm_at "y_go"
    refine w_ixAll (fun o => ∃ s, o = .int s ∧ Bd 5 s) (by omega) (by simp only [List.length_cons, List.length_nil]; omega) (List.forall_mem_cons.mpr ⟨⟨_, rfl, (rest _).1⟩, List.forall_mem_cons.mpr ⟨⟨_, rfl, (rest _).2⟩, List.forall_mem_nil _⟩⟩) ?_
    rintro _ ⟨b, rfl, hb⟩
    have hw : ∀ z : Int, Bd 5 (1 + z % 6) := fun z => by unfold Bd; omega
    have z0 : Bd 1 0 := Bd.lit (by decide)
    wtm_at "y_go"
    exact ⟨(((_, _, _), (_, _, _), (_, _, _)), (_, _, _), (_, _, _)), rfl, ⟨⟨by wtm_at "y_bdn", by wtm_at "y_bdn", by wtm_at "y_bdn"⟩, ⟨by wtm_at "y_bdn", by wtm_at "y_bdn", by wtm_at "y_bdn"⟩, ⟨by wtm_at "y_bdn", by wtm_at "y_bdn", by wtm_at "y_bdn"⟩⟩, ⟨by wtm_at "y_bdn", by wtm_at "y_bdn", by wtm_at "y_bdn"⟩, ⟨by wtm_at "y_bdn", by wtm_at "y_bdn", by wtm_at "y_bdn"⟩⟩
theorem sp_fenceY {c : Int} {rs : List Row} {qs : List Face} (h0 : 0 < rs.length) (hG : ∀ r ∈ rs, Gd 60 r.2) (hQ : ∀ q ∈ qs, Gd 150 q.2.2) : (f__law_fence [.int c, .lst (rs.map rowD), .lst (qs.map faceD)]).wp (fun d => ∃ p : Plate, d = plD p ∧ Gp 170 p) NoE := by
  obtain ⟨ds, hds⟩ : ∃ ds, D.lst (rs.map rowD) = ds := ⟨_, rfl⟩
  have hlen := len_map hds
  obtain ⟨L, hL⟩ : ∃ L : Int, (rs.length : Int) = L := ⟨_, rfl⟩
  rw [hL] at hlen
  have hLp : 0 < L := by omega
  obtain ⟨r, hr, hix⟩ := ix_map hds (K := c / 60 % L) (Int.emod_nonneg _ (by omega)) (by rw [hL]; exact Int.emod_lt_of_pos _ hLp)
  obtain ⟨g0, g1, g2⟩ := hG r hr
  have hne : oNe (.lst (qs.map faceD)) (.lst []) = some (.bl (!(qs.map faceD).isEmpty)) := by
    obtain ⟨z, e, h⟩ := w_neNil (P := fun d => d = .bl (!(qs.map faceD).isEmpty)) (xs := qs.map faceD) (by
      simp only [okq, List.all_map, List.all_eq_true]
      intro x _
      rfl) rfl
    rw [e, h]
  obtain ⟨dq, hdq⟩ : ∃ dq, D.lst (qs.map faceD) = dq := ⟨_, rfl⟩
  have hqlen := len_map hdq
  have hqix := fun {K : Int} => ix_map hdq (K := K)
  rw [hds, hdq]
  rw [hdq] at hne
  obtain ⟨B, hB⟩ : ∃ B : Int, (qs.length : Int) = B := ⟨_, rfl⟩
  rw [hB] at hqlen
  rw [hB] at hqix
  have hemp : (qs.map faceD).isEmpty = false → 0 < B := by
    cases qs with
    | nil => intro h; cases h
    | cons a b => intro _; simp at hB; omega
  generalize (qs.map faceD).isEmpty = emp at hne hemp
  have hm1 : 1 ≤ 1 + c / 3600 % 3 := by omega
  have hm2 : 1 + c / 3600 % 3 ≤ 3 := by omega
  wtm_at "y_in"
  repeat' wtm_at "y_dy"
  refine g_ot hne ?_
  repeat' wtm_at "y_dy"
  · rename_i he
    have he : emp = false := by simpa using he
    have hBp := hemp he
    refine g_ot hqlen ?_
    repeat' wtm_at "y_dy"
    obtain ⟨q, hq, hqx⟩ := hqix (K := c % B) (Int.emod_nonneg _ (by omega)) (Int.emod_lt_of_pos _ hBp)
    obtain ⟨u0, u1, u2⟩ := hQ q hq
    refine g_ot hqx ?_
    repeat' wtm_at "y_dy"
    refine g_ot hlen ?_
    repeat' wtm_at "y_dy"
    refine g_ot hix ?_
    repeat' wtm_at "y_dy"
    generalize 1 + c / 3600 % 3 = M at hm1 hm2 ⊢
    have bM : Bd 5 M := by unfold Bd; omega
    have z0 : Bd 1 0 := Bd.lit (by decide)
    refine (sp_wpair _ 2 (by decide) (by decide)).no ?_
    rintro _ ⟨s0, s1, s2, o0, o1, o2, rfl, ⟨hs0, hs1, hs2⟩, ⟨ho0, ho1, ho2⟩, _⟩
    wtm_at "y_go"
    exact ⟨((_, _, _), (_, _, _), (_, _, _)), rfl, ⟨by wtm_at "y_bdn", by wtm_at "y_bdn", by wtm_at "y_bdn"⟩, ⟨by wtm_at "y_bdn", by wtm_at "y_bdn", by wtm_at "y_bdn"⟩, ⟨by wtm_at "y_bdn", by wtm_at "y_bdn", by wtm_at "y_bdn"⟩⟩
  · have u0 : Bd 2 0 := Bd.lit (by decide)
    refine g_ot hlen ?_
    repeat' wtm_at "y_dy"
    refine g_ot hix ?_
    repeat' wtm_at "y_dy"
    generalize 1 + c / 3600 % 3 = M at hm1 hm2 ⊢
    have bM : Bd 5 M := by unfold Bd; omega
    have z0 : Bd 1 0 := Bd.lit (by decide)
    refine (sp_wpair _ 2 (by decide) (by decide)).no ?_
    rintro _ ⟨s0, s1, s2, o0, o1, o2, rfl, ⟨hs0, hs1, hs2⟩, ⟨ho0, ho1, ho2⟩, _⟩
    wtm_at "y_go"
    exact ⟨((_, _, _), (_, _, _), (_, _, _)), rfl, ⟨by wtm_at "y_bdn", by wtm_at "y_bdn", by wtm_at "y_bdn"⟩, ⟨by wtm_at "y_bdn", by wtm_at "y_bdn", by wtm_at "y_bdn"⟩, ⟨by wtm_at "y_bdn", by wtm_at "y_bdn", by wtm_at "y_bdn"⟩⟩
/-! #### names -/
abbrev abc : Str := "abcdefghijklmnopqrstuvwxyz"
theorem letter {i : Int} (h0 : 0 ≤ i) (h1 : i < 26) : oIx (.str abc) (.int i) = some (.str ⟨#[97 + i.toNat]⟩) := by
  have e : ∀ j : Fin 26, abc.cps.toList[j.val]? = some (97 + j.val) := by decide +kernel
  have hj : i.toNat < 26 := by omega
  have e1 := e ⟨i.toNat, hj⟩
  have z := atI_nat e1
  rw [show ((i.toNat : Nat) : Int) = i by omega] at z
  show (if abc.length ≤ sizeLine then (L2.atI abc.cps.toList i).map fun c => D.str ⟨#[c]⟩ else none) = _
  rw [if_pos (by rw [sizeLine_eq]; decide +kernel), z]
  rfl
theorem ok_rep {c : Array Nat} (hc : c.all (· < 0x110000) = true) : ∀ (n : Nat) (a : Array Nat), a.all (· < 0x110000) = true → ((List.replicate n c).foldl (· ++ ·) a).all (· < 0x110000) = true
  | 0, a, h => h
  | n + 1, a, h => by
    rw [List.replicate_succ, List.foldl_cons]
    exact ok_rep hc n _ (by rw [Array.all_append, h, hc]; rfl)
theorem repS_ok {x : Str} {n : Int} (h : PyData.strOk x = true) : PyData.strOk (repS x n) = true := by
  unfold repS
  split
  · decide +kernel
  · split
    · exact h
    · exact ok_rep h _ _ (by decide +kernel)
theorem ok_app {a b : Str} (ha : PyData.strOk a = true) (hb : PyData.strOk b = true) : PyData.strOk (a ++ b) = true := by
  show (a.cps ++ b.cps).all _ = true
  rw [Array.all_append]
  have ha : a.cps.all (· < 0x110000) = true := ha
  have hb : b.cps.all (· < 0x110000) = true := hb
  rw [ha, hb]
  rfl
/-! ### yards of choosing: names beyond the alphabet -/
def nameG (p q : Str) (pad k : Int) : Str := p ++ ((⟨#[97 + ((k + pad) % 26).toNat]⟩ : Str) ++ ⟨#[97 + (k / 26).toNat]⟩) ++ q
theorem nameG_ok {p q : Str} {pad k : Int} (h0 : 0 ≤ k) (h1 : k < 52) (hp : PyData.strOk p = true) (hq : PyData.strOk q = true) : PyData.strOk (nameG p q pad k) = true := by
  refine ok_app (ok_app hp (ok_app ?_ ?_)) hq
  · show (#[97 + ((k + pad) % 26).toNat] : Array Nat).all (· < 0x110000) = true
    have : 97 + ((k + pad) % 26).toNat < 0x110000 := by omega
    simpa using this
  · show (#[97 + (k / 26).toNat] : Array Nat).all (· < 0x110000) = true
    have : 97 + (k / 26).toNat < 0x110000 := by omega
    simpa using this
theorem sp_nameG (ns : List Int) : ∃ p q : Str, ∃ pad : Int, (PyData.strOk p = true ∧ PyData.strOk q = true) ∧ ∀ k : Int, 0 ≤ k → k < 52 → ∀ {P : D → Prop}, P (.str (nameG p q pad k)) → (f__law_name [.lst (ns.map .int), .int k]).wp P NoE := by
  obtain ⟨d, ed, c, rfl, hc0, _⟩ := (sp_wide ns 60 (by decide) (by decide)).ok
  refine ⟨repS "x" (c % 5), repS "q" (c / 4 % 3), c / 20, ⟨repS_ok (by decide +kernel), repS_ok (by decide +kernel)⟩, fun k h0 h1 {P} hP => ?_⟩
  have hw : ∀ {P : D → Prop}, P (.int c) → (f__law_wide [.lst (ns.map .int), .int 60]).wp P NoE := fun h => R.wp.of_ok ed h
  have l1 := letter (i := (k + c / 20) % 26) (by omega) (by omega)
  have l2 := letter (i := k / 26) (by omega) (by omega)
  have m1 : ∀ z : Str, z.length ≤ 1000 → ∀ n : Int, 0 ≤ n → n ≤ 1000 → oMulS (.str z) (.int n) = some (.str (repS z n)) := fun z hz n h0 h1 => if_pos ⟨h0, h1, hz⟩
  have r1 := repS_len (x := "x") (n := c % 5) (by omega) (by omega) (by decide)
  have r2 := repS_len (x := "q") (n := c / 4 % 3) (by omega) (by omega) (by decide)
  have cat : ∀ a b : Str, a.length ≤ 3000000 → b.length ≤ 3000000 → oAdd (.str a) (.str b) = some (.str (a ++ b)) := fun a b ha hb => by
    show (oAddI _ _).or ((if a.length + b.length ≤ sizeLine then some (D.str (a ++ b)) else none).or _) = _
    rw [if_pos (by rw [sizeLine_eq]; omega)]
    rfl
  have lap : ∀ a b : Str, (a ++ b).length = a.length + b.length := fun a b => Array.size_append
  wtm_at "y_in"
  repeat' wtm_at "y_dy"
  refine hw ?_
  repeat' wtm_at "y_dy"
  refine g_ot l1 ?_
  repeat' wtm_at "y_dy"
  refine g_ot l2 ?_
  refine g_ot (cat _ _ (show (1 : Nat) ≤ 3000000 by decide) (show (1 : Nat) ≤ 3000000 by decide)) ?_
  repeat' wtm_at "y_dy"
  refine g_ot (m1 _ (by decide) _ (by omega) (by omega)) ?_
  have l3 : ((⟨#[97 + ((k + c / 20) % 26).toNat]⟩ : Str) ++ ⟨#[97 + (k / 26).toNat]⟩).length = 2 := by rw [lap]; rfl
  repeat' wtm_at "y_dy"
  refine g_ot (cat _ _ (by omega) (by omega)) ?_
  repeat' wtm_at "y_dy"
  refine g_ot (m1 _ (by decide) _ (by omega) (by omega)) ?_
  refine g_ot (cat _ _ (by rw [lap]; omega) (by omega)) ?_
  exact hP
theorem nameG_inj {p q : Str} {pad k k' : Int} (h0 : 0 ≤ k) (h1 : k < 52) (h0' : 0 ≤ k') (h1' : k' < 52) (e : nameG p q pad k = nameG p q pad k') : k = k' := by
  have e1 : ∀ k, (nameG p q pad k).cps = (p.cps ++ (#[97 + ((k + pad) % 26).toNat] ++ #[97 + (k / 26).toNat])) ++ q.cps := fun _ => rfl
  have e2 : ((p.cps ++ (#[97 + ((k + pad) % 26).toNat] ++ #[97 + (k / 26).toNat])) ++ q.cps).toList = ((p.cps ++ (#[97 + ((k' + pad) % 26).toNat] ++ #[97 + (k' / 26).toNat])) ++ q.cps).toList := by rw [← e1, ← e1, e]
  simp only [Array.toList_append, List.append_assoc] at e2
  have e3 := List.append_cancel_left e2
  simp only [List.cons_append, List.nil_append, List.cons.injEq] at e3
  omega
theorem hide2 {x : SR} {N : REnv → Prop} {T : D → Prop} {E : D → REnv → Prop} (h : ∀ y, x = y → y.wp N T E) : x.wp N T E := h x rfl
theorem sp_yardG (ns : List Int) {A B C : Int} (hA0 : 0 ≤ A) (hA1 : A ≤ 7) (hB0 : 0 ≤ B) (hB1 : B ≤ 5) (hC0 : 1 ≤ C) (hC1 : C ≤ 9) : (f__law_yard [.lst (ns.map .int), .int A, .int B, .int C]).wp (fun d => ∃ rs ws fs, d = yardD rs ws fs ∧ (1 ≤ rs.length ∧ rs.length ≤ 9 ∧ ws.length ≤ 9 ∧ fs.length ≤ 9) ∧ Sun rs ∧ (∀ r ∈ rs, Gd 60 r.2) ∧ (∀ w ∈ ws, Gp 170 w.2 ∧ PyData.strOk w.1 = true) ∧ (∀ f ∈ fs, Gp 150 f.2.1 ∧ Gd 150 f.2.2 ∧ PyData.strOk f.1 = true) ∧ (ws.map (·.1) ++ fs.map (·.1)).Nodup) NoE := by
  obtain ⟨p, q, pad, ⟨okp, okq'⟩, hname⟩ := sp_nameG ns
  have hw := fun k h0 h1 => sp_wide ns k h0 h1
  obtain ⟨dn, hdn⟩ : ∃ dn, D.lst (ns.map .int) = dn := ⟨_, rfl⟩
  rw [hdn] at hname ⊢
  wtm_at "y_in"
  repeat' wtm_at "y_dy"
  rw [← hdn]
  refine (hw 0 (by decide) (by decide)).no ?_
  rintro _ ⟨c, rfl, hc0, _⟩
  rw [hdn]
  have e1 := Int.emod_nonneg (c / 2) (show C ≠ 0 by omega)
  have e2 := Int.emod_lt_of_pos (c / 2) (show 0 < C by omega)
  have e3 := Int.emod_nonneg (c / 2 / 100) (show A + 1 ≠ 0 by omega)
  have e4 := Int.emod_lt_of_pos (c / 2 / 100) (show 0 < A + 1 by omega)
  have e5 := Int.emod_nonneg (c / 2 / 10000) (show B + 1 ≠ 0 by omega)
  have e6 := Int.emod_lt_of_pos (c / 2 / 10000) (show 0 < B + 1 by omega)
  repeat' wtm_at "y_dy"
  rw [← hdn]
  refine (sp_sunY ns (by omega) (by omega)).no ?_
  rintro _ ⟨rs, rfl, hrl, hS, hG⟩
  rw [hdn]
  have hr1 : 1 ≤ rs.length := by omega
  have hr9 : rs.length ≤ 9 := by omega
  generalize c / 2 % C = N0 at *
  obtain ⟨N1, hN1⟩ : ∃ N1, c / 2 / 100 % (A + 1) = N1 := ⟨_, rfl⟩
  obtain ⟨N2, hN2⟩ : ∃ N2, c / 2 / 10000 % (B + 1) = N2 := ⟨_, rfl⟩
  rw [hN1] at e3 e4
  rw [hN2] at e5 e6
  repeat' ((fail_if_success (with_reducible show Dy.Got (range1 _) _)); wtm_at "y_dy")
  rw [hN1]
  repeat' ((fail_if_success (with_reducible show SR.wp (forS _ _ _ _) _ _ _)); wtm_at "y_dy")
  refine forS_inv (fun i ρ => ∃ (qs : List Face) (u : Sl), ρ = [.val dn, .val (.int A), .val (.int B), .val (.int C), .val (.int (c / 2)), .val (.lst (rs.map rowD)), .own (qs.map faceD), u, .un, .un, .un] ∧ qs.length = i ∧ ∀ q ∈ qs, Gp 150 q.1 ∧ Gd 150 q.2.1 ∧ Gd 150 q.2.2) ⟨[], _, rfl, rfl, fun _ h => nomatch h⟩ ?_ ?_
  · rintro i d _ ed ⟨qs, u, rfl, hql, hqg⟩
    obtain ⟨rfl, hi⟩ := rangeD_get ed
    have hsz : (qs.map faceD).length < sizeLine := by rw [List.length_map, sizeLine_eq]; omega
    obtain ⟨K, hK⟩ : ∃ K : Int, 0 + (i : Int) = K := ⟨_, rfl⟩
    rw [hK]
    repeat' wtm_at "y_dy"
    rw [← hdn]
    refine (hw (20 + K) (by omega) (by omega)).no ?_
    rintro _ ⟨c2, rfl, _, _⟩
    rw [hdn]
    repeat' wtm_at "y_dy"
    refine (sp_dialY (by omega) hG).no ?_
    rintro _ ⟨f, rfl, h1, h2, h3⟩
    repeat' wtm_at "y_dy"
    refine ⟨qs ++ [f], _, by rw [List.map_append]; rfl, by simp [hql], fun g hg => ?_⟩
    rcases List.mem_append.mp hg with hg | hg
    · exact hqg g hg
    · rw [List.mem_singleton.mp hg]; exact ⟨h1, h2, h3⟩
  rintro _ ⟨qs, u, rfl, hql, hqg⟩
  have hq9 : qs.length = N1.toNat := by rw [hql]; simp [rangeD]
  repeat' ((fail_if_success (with_reducible show Dy.Got (range1 _) _)); wtm_at "y_dy")
  rw [hN2]
  repeat' ((fail_if_success (with_reducible show SR.wp (forS _ _ _ _) _ _ _)); wtm_at "y_dy")
  refine forS_inv (fun i ρ => ∃ (ps : List Plate) (u s6 : Sl), ρ = [.val dn, .val (.int A), .val (.int B), .val (.int C), .val (.int (c / 2)), .val (.lst (rs.map rowD)), s6, u, .own (ps.map plD), .un, .un] ∧ (s6 = .own (qs.map faceD) ∨ s6 = .val (.lst (qs.map faceD))) ∧ ps.length = i ∧ ∀ p ∈ ps, Gp 170 p) ⟨[], _, _, rfl, .inl rfl, rfl, fun _ h => nomatch h⟩ ?_ ?_
  · rintro i d _ ed ⟨ps, u, s6, rfl, hs6, hpl, hpg⟩
    obtain ⟨rfl, hi⟩ := rangeD_get ed
    have hsz : (ps.map plD).length < sizeLine := by rw [List.length_map, sizeLine_eq]; omega
    obtain ⟨K, hK⟩ : ∃ K : Int, 0 + (i : Int) = K := ⟨_, rfl⟩
    rw [hK]
    rcases hs6 with rfl | rfl
    all_goals
      repeat' wtm_at "y_dy"
      rw [← hdn]
      refine (hw (40 + K) (by omega) (by omega)).no ?_
      rintro _ ⟨c2, rfl, _, _⟩
      rw [hdn]
      repeat' wtm_at "y_dy"
      refine (sp_fenceY (by omega) hG fun q hq => (hqg q hq).2.2).no ?_
      rintro _ ⟨f, rfl, h1⟩
      repeat' wtm_at "y_dy"
      refine ⟨ps ++ [f], _, _, by rw [List.map_append]; rfl, .inr rfl, by simp [hpl], fun g hg => ?_⟩
      rcases List.mem_append.mp hg with hg | hg
      · exact hpg g hg
      · rw [List.mem_singleton.mp hg]; exact h1
  have hln : (rangeD 0 N2.toNat).length = N2.toNat := by simp [rangeD]
  intro ρ hI
  refine hide2 fun y hy => ?_
  rw [hln] at hI
  obtain ⟨ps, u, s6, hρ, hs6, hp9, hpg⟩ := hI
  rw [hρ] at hy
  have fin : ∀ (W F : List D), W = (((List.range ps.length).map fun (i : Nat) => ((nameG p q pad (i : Int), ps.getD i ((0, 0, 0), (0, 0, 0), (0, 0, 0))) : Wall)).map wallD) → F = (((List.range qs.length).map fun (i : Nat) => ((nameG p q pad (20 + (i : Int)), (qs.getD i (((0, 0, 0), (0, 0, 0), (0, 0, 0)), (0, 0, 0), (0, 0, 0))).1, (qs.getD i (((0, 0, 0), (0, 0, 0), (0, 0, 0)), (0, 0, 0), (0, 0, 0))).2.1) : Dial)).map dialD) →
      ∃ rs' ws fs, D.tup [.lst (rs.map rowD), .lst W, .lst F] = yardD rs' ws fs ∧ (1 ≤ rs'.length ∧ rs'.length ≤ 9 ∧ ws.length ≤ 9 ∧ fs.length ≤ 9) ∧ Sun rs' ∧ (∀ r ∈ rs', Gd 60 r.2) ∧ (∀ w ∈ ws, Gp 170 w.2 ∧ PyData.strOk w.1 = true) ∧ (∀ f ∈ fs, Gp 150 f.2.1 ∧ Gd 150 f.2.2 ∧ PyData.strOk f.1 = true) ∧ (ws.map (·.1) ++ fs.map (·.1)).Nodup := fun W F hW hF => by
    refine ⟨rs, _, _, by rw [hW, hF], ⟨hr1, hr9, by rw [List.length_map, List.length_range]; omega, by rw [List.length_map, List.length_range]; omega⟩, hS, hG, ?_, ?_, ?_⟩
    · intro w hw
      obtain ⟨i, hi, rfl⟩ := List.mem_map.mp hw
      have hi := List.mem_range.mp hi
      dsimp only
      rw [List.getD_eq_getElem?_getD, List.getElem?_eq_getElem hi]
      exact ⟨hpg _ (List.getElem_mem hi), nameG_ok (by omega) (by omega) okp okq'⟩
    · intro w hw
      obtain ⟨i, hi, rfl⟩ := List.mem_map.mp hw
      have hi := List.mem_range.mp hi
      dsimp only
      rw [List.getD_eq_getElem?_getD, List.getElem?_eq_getElem hi]
      have := hqg _ (List.getElem_mem hi)
      exact ⟨this.1, this.2.1, nameG_ok (by omega) (by omega) okp okq'⟩
    · rw [List.map_map, List.map_map, List.nodup_append]
      refine ⟨?_, ?_, ?_⟩
      · rw [List.Nodup, List.pairwise_map]
        refine List.Pairwise.imp_of_mem ?_ List.nodup_range
        intro a b ha hb hab e
        have ha := List.mem_range.mp ha
        have hb := List.mem_range.mp hb
        have := nameG_inj (by omega) (by omega) (by omega) (by omega) e
        omega
      · rw [List.Nodup, List.pairwise_map]
        refine List.Pairwise.imp_of_mem ?_ List.nodup_range
        intro a b ha hb hab e
        have ha := List.mem_range.mp ha
        have hb := List.mem_range.mp hb
        have := nameG_inj (by omega) (by omega) (by omega) (by omega) e
        omega
      · intro a ha b hb e
        obtain ⟨i, hi, rfl⟩ := List.mem_map.mp ha
        obtain ⟨j, hj, rfl⟩ := List.mem_map.mp hb
        have hi := List.mem_range.mp hi
        have hj := List.mem_range.mp hj
        have := nameG_inj (by omega) (by omega) (by omega) (by omega) e
        omega
  have oo : ∀ {α : Type} {f : α → D} {xs : List α} {d : D}, D.lst (xs.map f) = d → ∀ i : Nat, i < xs.length → ∀ z : α, oIx d (.int (0 + (i : Int))) = some (f (xs.getD i z)) := fun {α f xs d} hd i hi z => by
    have q : (xs.map f)[i]? = some (f xs[i]) := by rw [List.getElem?_map, List.getElem?_eq_getElem hi]; rfl
    rw [Int.zero_add, ← hd, List.getD_eq_getElem?_getD, List.getElem?_eq_getElem hi]
    exact atI_nat q
  obtain ⟨LP, hLP⟩ : ∃ L : List D, ps.map plD = L := ⟨_, rfl⟩
  obtain ⟨LQ, hLQ⟩ : ∃ L : List D, qs.map faceD = L := ⟨_, rfl⟩
  have xp := oo (congrArg D.lst hLP)
  have xq := oo (congrArg D.lst hLQ)
  have lp := len_map (congrArg D.lst hLP)
  have lq := len_map (congrArg D.lst hLQ)
  obtain ⟨Lp, hLp⟩ : ∃ L : Int, (ps.length : Int) = L := ⟨_, rfl⟩
  obtain ⟨Lq, hLq⟩ : ∃ L : Int, (qs.length : Int) = L := ⟨_, rfl⟩
  have rp : rangeD 0 Lp.toNat = (List.range ps.length).map fun (i : Nat) => D.int (0 + (i : Int)) := by unfold rangeD; rw [show Lp.toNat = ps.length by omega]
  have rq : rangeD 0 Lq.toNat = (List.range qs.length).map fun (i : Nat) => D.int (0 + (i : Int)) := by unfold rangeD; rw [show Lq.toNat = qs.length by omega]
  have fp : (rangeD 0 Lp.toNat).length ≤ sizeLine := by rw [rp, List.length_map, List.length_range, sizeLine_eq]; omega
  have fq : (rangeD 0 Lq.toNat).length ≤ sizeLine := by rw [rq, List.length_map, List.length_range, sizeLine_eq]; omega
  have smp : Sm Lp := by constructor <;> omega
  have smq : Sm Lq := by constructor <;> omega
  rw [hLp] at lp
  rw [hLq] at lq
  rw [hLP] at hy
  rw [hLQ] at hs6
  rcases hs6 with hs6 | hs6
  · skip
    rw [hs6] at hy
    rw [← hy]
    with_reducible refine sp_seq ?_
    with_reducible refine sp_frO (ds := LP) ?_ ?_
    · rfl
    with_reducible refine upd_step (by ((simp only [List.set_cons_zero, List.set_cons_succ]) <;> rfl)) ?_
    with_reducible refine sp_setU ?_
    with_reducible refine wp_compU ?_
    with_reducible refine wp_iArgs ?_
    with_reducible refine wp_cons ?_
    with_reducible refine wp_n ?_
    with_reducible refine wp_cons ?_
    with_reducible refine wp_var (d := .lst LP) ?_ ?_
    · rfl
    with_reducible refine wp_nil ?_
    with_reducible refine g_ot lp ?_
    with_reducible refine wp_nil ?_
    with_reducible refine w_range1 smp ?_
    with_reducible refine f_its fp ?_
    rw [rp]
    with_reducible refine wipe_cons ?_
    with_reducible refine wipe_nil ?_
    with_reducible refine upd_step (by ((simp only [List.set_cons_zero, List.set_cons_succ]) <;> rfl)) ?_
    with_reducible refine c_mapG (f := fun (i : Nat) => D.int (0 + (i : Int))) (g := fun (i : Nat) => wallD (nameG p q pad (i : Int), ps.getD i ((0, 0, 0), (0, 0, 0), (0, 0, 0)))) (fun i hi => ?_) ?_
    · have hi := List.mem_range.mp hi
      refine w_bName ?_
      repeat' wtm_at "y_dy"
      refine hname _ (by omega) (by omega) ?_
      repeat' wtm_at "y_dy"
      refine g_ot (xp i hi ((0, 0, 0), (0, 0, 0), (0, 0, 0))) ?_
      repeat' wtm_at "y_dy"
      rw [Int.zero_add]
    with_reducible refine upd_step (by ((simp only [List.set_cons_zero, List.set_cons_succ]) <;> rfl)) ?_
    with_reducible refine sp_seq ?_
    with_reducible refine sp_frO (ds := LQ) ?_ ?_
    · rfl
    with_reducible refine upd_step (by ((simp only [List.set_cons_zero, List.set_cons_succ]) <;> rfl)) ?_
    with_reducible refine sp_setU ?_
    with_reducible refine wp_compU ?_
    with_reducible refine wp_iArgs ?_
    with_reducible refine wp_cons ?_
    with_reducible refine wp_n ?_
    with_reducible refine wp_cons ?_
    with_reducible refine wp_var (d := .lst LQ) ?_ ?_
    · rfl
    with_reducible refine wp_nil ?_
    with_reducible refine g_ot lq ?_
    with_reducible refine wp_nil ?_
    with_reducible refine w_range1 smq ?_
    with_reducible refine f_its fq ?_
    rw [rq]
    with_reducible refine wipe_cons ?_
    with_reducible refine wipe_nil ?_
    with_reducible refine upd_step (by ((simp only [List.set_cons_zero, List.set_cons_succ]) <;> rfl)) ?_
    with_reducible refine c_mapG (f := fun (i : Nat) => D.int (0 + (i : Int))) (g := fun (i : Nat) => dialD (nameG p q pad (20 + (i : Int)), (qs.getD i (((0, 0, 0), (0, 0, 0), (0, 0, 0)), (0, 0, 0), (0, 0, 0))).1, (qs.getD i (((0, 0, 0), (0, 0, 0), (0, 0, 0)), (0, 0, 0), (0, 0, 0))).2.1)) (fun i hi => ?_) ?_
    · have hi := List.mem_range.mp hi
      refine w_bName ?_
      repeat' wtm_at "y_dy"
      refine hname _ (by omega) (by omega) ?_
      repeat' wtm_at "y_dy"
      refine g_ot (xq i hi (((0, 0, 0), (0, 0, 0), (0, 0, 0)), (0, 0, 0), (0, 0, 0))) ?_
      repeat' wtm_at "y_dy"
      refine g_ot (xq i hi (((0, 0, 0), (0, 0, 0), (0, 0, 0)), (0, 0, 0), (0, 0, 0))) ?_
      repeat' wtm_at "y_dy"
      rw [Int.zero_add]
    repeat' wtm_at "y_dy"
    exact fin _ _ (by rw [List.map_map]; rfl) (by rw [List.map_map]; rfl)
  · skip
    rw [hs6] at hy
    rw [← hy]
    with_reducible refine sp_seq ?_
    with_reducible refine sp_frO (ds := LP) ?_ ?_
    · rfl
    with_reducible refine upd_step (by ((simp only [List.set_cons_zero, List.set_cons_succ]) <;> rfl)) ?_
    with_reducible refine sp_setU ?_
    with_reducible refine wp_compU ?_
    with_reducible refine wp_iArgs ?_
    with_reducible refine wp_cons ?_
    with_reducible refine wp_n ?_
    with_reducible refine wp_cons ?_
    with_reducible refine wp_var (d := .lst LP) ?_ ?_
    · rfl
    with_reducible refine wp_nil ?_
    with_reducible refine g_ot lp ?_
    with_reducible refine wp_nil ?_
    with_reducible refine w_range1 smp ?_
    with_reducible refine f_its fp ?_
    rw [rp]
    with_reducible refine wipe_cons ?_
    with_reducible refine wipe_nil ?_
    with_reducible refine upd_step (by ((simp only [List.set_cons_zero, List.set_cons_succ]) <;> rfl)) ?_
    with_reducible refine c_mapG (f := fun (i : Nat) => D.int (0 + (i : Int))) (g := fun (i : Nat) => wallD (nameG p q pad (i : Int), ps.getD i ((0, 0, 0), (0, 0, 0), (0, 0, 0)))) (fun i hi => ?_) ?_
    · have hi := List.mem_range.mp hi
      refine w_bName ?_
      repeat' wtm_at "y_dy"
      refine hname _ (by omega) (by omega) ?_
      repeat' wtm_at "y_dy"
      refine g_ot (xp i hi ((0, 0, 0), (0, 0, 0), (0, 0, 0))) ?_
      repeat' wtm_at "y_dy"
      rw [Int.zero_add]
    with_reducible refine upd_step (by ((simp only [List.set_cons_zero, List.set_cons_succ]) <;> rfl)) ?_
    with_reducible refine sp_seq ?_
    with_reducible refine sp_frV (d := .lst LQ) ?_ ?_
    · rfl
    with_reducible refine sp_setU ?_
    with_reducible refine wp_compU ?_
    with_reducible refine wp_iArgs ?_
    with_reducible refine wp_cons ?_
    with_reducible refine wp_n ?_
    with_reducible refine wp_cons ?_
    with_reducible refine wp_var (d := .lst LQ) ?_ ?_
    · rfl
    with_reducible refine wp_nil ?_
    with_reducible refine g_ot lq ?_
    with_reducible refine wp_nil ?_
    with_reducible refine w_range1 smq ?_
    with_reducible refine f_its fq ?_
    rw [rq]
    with_reducible refine wipe_cons ?_
    with_reducible refine wipe_nil ?_
    with_reducible refine upd_step (by ((simp only [List.set_cons_zero, List.set_cons_succ]) <;> rfl)) ?_
    with_reducible refine c_mapG (f := fun (i : Nat) => D.int (0 + (i : Int))) (g := fun (i : Nat) => dialD (nameG p q pad (20 + (i : Int)), (qs.getD i (((0, 0, 0), (0, 0, 0), (0, 0, 0)), (0, 0, 0), (0, 0, 0))).1, (qs.getD i (((0, 0, 0), (0, 0, 0), (0, 0, 0)), (0, 0, 0), (0, 0, 0))).2.1)) (fun i hi => ?_) ?_
    · have hi := List.mem_range.mp hi
      refine w_bName ?_
      repeat' wtm_at "y_dy"
      refine hname _ (by omega) (by omega) ?_
      repeat' wtm_at "y_dy"
      refine g_ot (xq i hi (((0, 0, 0), (0, 0, 0), (0, 0, 0)), (0, 0, 0), (0, 0, 0))) ?_
      repeat' wtm_at "y_dy"
      refine g_ot (xq i hi (((0, 0, 0), (0, 0, 0), (0, 0, 0)), (0, 0, 0), (0, 0, 0))) ?_
      repeat' wtm_at "y_dy"
      rw [Int.zero_add]
    repeat' wtm_at "y_dy"
    exact fin _ _ (by rw [List.map_map]; rfl) (by rw [List.map_map]; rfl)

/-! ### what a dial shows at an hour -/
theorem sp_direction_at {us : List Row} {h : Int} {P : D → Prop} {E : D → Prop} (h1 : ∀ r, us.find? (fun r => decide (r.1 = h)) = some r → P (tD r.2)) (h2 : us.find? (fun r => decide (r.1 = h)) = none → E (.exc "NoHour" ["hour"] [.int h])) : (f_direction_at [.lst (us.map rowD), .int h]).wp P E := by
  wtm_at "y_in"
  refine sp_seq (sp_for (wp_iD (wp_var rfl (g_ot rfl ?_))))
  refine forS_inv (fun i ρ => ∃ u v : Sl, ρ = [.val (.lst (us.map rowD)), .val (.int h), u, v] ∧ ∀ j r, j < i → us[j]? = some r → r.1 ≠ h) ⟨_, _, rfl, fun j r hj => absurd hj (by omega)⟩ ?_ ?_
  · rintro i d _ ed ⟨u, v, rfl, hI⟩
    rw [List.getElem?_map] at ed
    obtain ⟨r, er, rfl⟩ := Option.map_eq_some_iff.mp ed
    wtm_at "y_go"
    · rename_i e
      refine h1 r ?_
      rw [List.find?_eq_some_iff_getElem]
      obtain ⟨hi, er2⟩ := List.getElem?_eq_some_iff.mp er
      refine ⟨by simpa using e, i, hi, er2, fun j hj => ?_⟩
      simpa using hI j _ hj (List.getElem?_eq_getElem (by omega))
    · rename_i e
      refine ⟨_, _, rfl, fun j q hj eq => ?_⟩
      by_cases hji : j = i
      · subst hji
        rw [er] at eq
        cases eq
        exact e
      · exact hI j q (by omega) eq
  · rintro _ ⟨u, v, rfl, hI⟩
    rw [List.length_map] at hI
    refine sp_raiseF (wp_cons (wp_var rfl (wp_nil ⟨_, rfl, h2 ?_⟩)))
    rw [List.find?_eq_none]
    intro r hr
    obtain ⟨j, hj, e⟩ := List.getElem_of_mem hr
    simpa using hI j r hj (by rw [List.getElem?_eq_getElem hj, e])
theorem sp_is_up {us : List Row} {h : Int} {P : D → Prop} {E : D → Prop} (h1 : ∀ r, us.find? (fun r => decide (r.1 = h)) = some r → P (.bl (decide (0 < r.2.2.2)))) (h2 : us.find? (fun r => decide (r.1 = h)) = none → E (.exc "NoHour" ["hour"] [.int h])) : (f_is_up [.lst (us.map rowD), .int h]).wp P E := by
  wtm_at "y_in"
  wtm_at "y_go"
  refine sp_direction_at (fun r hr => ?_) h2
  wtm_at "y_go"
  exact h1 r hr
theorem eqD_str {a b : Str} (ha : PyData.strOk a = true) : eqD (.str a) (.str b) = decide (a = b) := by
  by_cases h : a = b
  · subst h
    rw [eqD_refl 40 (.str a) ha, decide_t rfl]
  · rw [decide_f h]
    simp only [eqD, D.py, PyData.eqv]
    exact beq_eq_false_iff_ne.mpr h
theorem w_eqStr {a b : Str} {P : D → Prop} (ha : PyData.strOk a = true) (hb : PyData.strOk b = true) (h : P (.bl (decide (a = b)))) : Got (oEq (.str a) (.str b)) P := w_eq ha hb (by rw [eqD_str ha]; exact h)
theorem w_neStr {a b : Str} {P : D → Prop} (ha : PyData.strOk a = true) (hb : PyData.strOk b = true) (h : P (.bl (!decide (a = b)))) : Got (oNe (.str a) (.str b)) P := w_ne ha hb (by rw [eqD_str ha]; exact h)
/-! #### plates, walls and dials as things -/
abbrev Th := Str × Plate × Option Tr
def thD (t : Th) : D := match t with
  | (n, p, none) => .tup [.str n, plD p]
  | (n, p, some x) => .tup [.str n, plD p, tD x]
def things (ws : List Wall) (fs : List Dial) : List Th := ws.map (fun w => (w.1, w.2, none)) ++ fs.map fun f => (f.1, f.2.1, some f.2.2)
theorem things_D (ws : List Wall) (fs : List Dial) : ws.map wallD ++ fs.map dialD = (things ws fs).map thD := by
  unfold things
  rw [List.map_append, List.map_map, List.map_map]
  rfl
theorem th0 (t : Th) : oIx (thD t) (.int 0) = some (.str t.1) := by
  obtain ⟨n, p, x⟩ := t
  cases x <;> rfl
theorem th1 (t : Th) : oIx (thD t) (.int 1) = some (plD t.2.1) := by
  obtain ⟨n, p, x⟩ := t
  cases x <;> rfl
abbrev Pn := Rat × Rat × Rat
abbrev ptD (p : Pn) : D := .tup [rD p.1, rD p.2.1, rD p.2.2]
def RP (p : Pn) : Prop := RB 1500 1500 p.1 ∧ RB 1500 1500 p.2.1 ∧ RB 1500 1500 p.2.2
noncomputable def hidB (p : Plate) (x : Pn) (d : Tr) : Bool := @decide (f_hides_point [plD p, ptD x, tD d] = .ok (.bl true)) (Classical.propDecidable _)
theorem sp_hid {p : Plate} {x : Pn} {d : Tr} {P : D → Prop} (hp : Gp 170 p) (hx : RP x) (hd : Gd 170 d) (h : P (.bl (hidB p x d))) : (f_hides_point [plD p, ptD x, tD d]).wp P NoE := by
  have g {i : Int} (h : Bd 170 i) : Bd 200 i := h.mono (by decide)
  have key : (f_hides_point [plD p, ptD x, tD d]).wp (fun z => ∃ b, z = .bl b) NoE :=
    sp_hides_point (g hp.1.1) (g hp.1.2.1) (g hp.1.2.2) (g hp.2.1.1) (g hp.2.1.2.1) (g hp.2.1.2.2) (g hp.2.2.1) (g hp.2.2.2.1) (g hp.2.2.2.2) (g hd.1) (g hd.2.1) (g hd.2.2) hx.1 hx.2.1 hx.2.2 rfl rfl rfl rfl rfl rfl rfl rfl rfl rfl
      (fun _ => ⟨_, rfl⟩) (fun _ _ => ⟨_, rfl⟩) fun _ _ => ⟨_, rfl⟩
  obtain ⟨z, e, b, rfl⟩ := key.ok
  refine R.wp.of_ok e ?_
  have : hidB p x d = b := by
    unfold hidB
    rw [e]
    cases b with
    | true => exact @decide_eq_true _ (Classical.propDecidable _) rfl
    | false => exact @decide_eq_false _ (Classical.propDecidable _) fun z => by cases z
  rw [this] at h
  exact h
theorem sp_dial_of {a b : D} {fs : List Dial} {n : Str} {P : D → Prop} {E : D → Prop} (hn : PyData.strOk n = true) (hf : ∀ f ∈ fs, PyData.strOk f.1 = true) (h1 : ∀ f, fs.find? (fun f => decide (f.1 = n)) = some f → P (dialD f)) (h2 : fs.find? (fun f => decide (f.1 = n)) = none → E (.exc "NoName" [] [])) : (f_dial_of [.tup [a, b, .lst (fs.map dialD)], .str n]).wp P E := by
  wtm_at "y_in"
  refine sp_seq (sp_for (wp_iD (wp_bin (wp_var rfl (wp_c (w_ixT rfl (g_ot rfl ?_)))))))
  refine forS_inv (fun i ρ => ∃ u : Sl, ρ = [.val (.tup [a, b, .lst (fs.map dialD)]), .val (.str n), u] ∧ ∀ j r, j < i → fs[j]? = some r → r.1 ≠ n) ⟨_, rfl, fun j r hj => absurd hj (by omega)⟩ ?_ ?_
  · rintro i d _ ed ⟨u, rfl, hI⟩
    rw [List.getElem?_map] at ed
    obtain ⟨r, er, rfl⟩ := Option.map_eq_some_iff.mp ed
    refine w_bName ?_
    repeat' ((fail_if_success (with_reducible show Dy.Got (oEq _ _) _)); wtm_at "y_dy")
    refine w_eqStr (hf r (List.mem_of_getElem? er)) hn ?_
    repeat' wtm_at "y_dy"
    · rename_i e
      refine h1 r ?_
      rw [List.find?_eq_some_iff_getElem]
      obtain ⟨hi, er2⟩ := List.getElem?_eq_some_iff.mp er
      refine ⟨by simpa using e, i, hi, er2, fun j hj => ?_⟩
      simpa using hI j _ hj (List.getElem?_eq_getElem (by omega))
    · rename_i e
      refine ⟨_, rfl, fun j q hj eq => ?_⟩
      by_cases hji : j = i
      · subst hji
        rw [er] at eq
        cases eq
        exact e
      · exact hI j q (by omega) eq
  · rintro _ ⟨u, rfl, hI⟩
    rw [List.length_map] at hI
    refine sp_raise (h2 ?_)
    rw [List.find?_eq_none]
    intro r hr
    obtain ⟨j, hj, e⟩ := List.getElem_of_mem hr
    simpa using hI j r hj (by rw [List.getElem?_eq_getElem hj, e])
noncomputable def hidN (ts : List Th) (n : Str) (x : Pn) (d : Tr) : List Str := (ts.filter fun t => !decide (t.1 = n) && hidB t.2.1 x d).map (·.1)
theorem hidN_len (ts : List Th) (n : Str) (x : Pn) (d : Tr) : (hidN ts n x d).length ≤ ts.length := by
  unfold hidN
  rw [List.length_map]
  exact List.length_filter_le _ _
theorem sp_hiders {s : D} {ws : List Wall} {fs : List Dial} {n : Str} {x : Pn} {d : Tr} {P : D → Prop} (hn : PyData.strOk n = true) (hl : (things ws fs).length ≤ 60) (hp : ∀ t ∈ things ws fs, Gp 170 t.2.1 ∧ PyData.strOk t.1 = true) (hx : RP x) (hd : Gd 170 d)
    (h : P (.lst ((sortS (hidN (things ws fs) n x d)).map .str))) : (f_hiders [.tup [s, .lst (ws.map wallD), .lst (fs.map dialD)], .str n, ptD x, tD d]).wp P NoE := by
  have hlw : ws.length + fs.length ≤ 60 := by
    unfold things at hl
    rw [List.length_append, List.length_map, List.length_map] at hl
    exact hl
  have hcat : oAdd (.lst (ws.map wallD)) (.lst (fs.map dialD)) = some (.lst ((things ws fs).map thD)) := by
    obtain ⟨z, e, h⟩ := w_addL (xs := ws.map wallD) (ys := fs.map dialD) (P := fun z => z = _) (by rw [List.length_map, List.length_map, sizeLine_eq]; omega) rfl
    rw [e, h, things_D]
  have hS := strsD_map (hidN (things ws fs) n x d)
  have hNl := hidN_len (things ws fs) n x d
  obtain ⟨Y, hY⟩ : ∃ Y, D.tup [s, .lst (ws.map wallD), .lst (fs.map dialD)] = Y := ⟨_, rfl⟩
  have y1 : oIx Y (.int 1) = some (.lst (ws.map wallD)) := by rw [← hY]; rfl
  have y2 : oIx Y (.int 2) = some (.lst (fs.map dialD)) := by rw [← hY]; rfl
  obtain ⟨X, hX⟩ : ∃ X, ptD x = X := ⟨_, rfl⟩
  have hh : ∀ t ∈ things ws fs, ∀ {P : D → Prop}, P (.bl (hidB t.2.1 x d)) → (f_hides_point [plD t.2.1, X, tD d]).wp P NoE := fun t ht P h => by
    rw [← hX]
    exact sp_hid (hp t ht).1 hx hd h
  rw [hY, hX]
  have hdef : hidN (things ws fs) n x d = ((things ws fs).filter fun t => !decide (t.1 = n) && hidB t.2.1 x d).map (·.1) := rfl
  generalize things ws fs = ts at *
  wtm_at "y_in"
  repeat' wtm_at "y_dy"
  refine g_ot y1 ?_
  repeat' wtm_at "y_dy"
  refine g_ot y2 ?_
  refine g_ot hcat ?_
  refine g_ot rfl ?_
  refine forS_inv (fun i ρ => ∃ u : Sl, ρ = [.val Y, .val (.str n), .val X, .val (tD d), .own (((((ts.take i).filter fun t => !decide (t.1 = n) && hidB t.2.1 x d)).map (·.1)).map .str), u]) ⟨_, rfl⟩ ?_ ?_
  · rintro i dd _ ed ⟨u, rfl⟩
    rw [List.getElem?_map] at ed
    obtain ⟨t, er, rfl⟩ := Option.map_eq_some_iff.mp ed
    have ht := List.mem_of_getElem? er
    have hi := (List.getElem?_eq_some_iff.mp er).1
    have tk : ts.take (i + 1) = ts.take i ++ [t] := by
      rw [List.take_add_one, er]
      rfl
    have hsz : (((((ts.take i).filter fun t => !decide (t.1 = n) && hidB t.2.1 x d)).map (·.1)).map D.str).length < sizeLine := by
      rw [List.length_map, List.length_map, sizeLine_eq]
      have := List.length_filter_le (fun t : Th => !decide (t.1 = n) && hidB t.2.1 x d) (ts.take i)
      have := List.length_take (i := i) (l := ts)
      omega
    have no : (!decide (t.1 = n) && hidB t.2.1 x d) = false → ((((ts.take (i + 1)).filter fun t => !decide (t.1 = n) && hidB t.2.1 x d)).map (·.1)).map D.str = ((((ts.take i).filter fun t => !decide (t.1 = n) && hidB t.2.1 x d)).map (·.1)).map D.str := fun z => by
      rw [tk, List.filter_append, List.filter_cons_of_neg (by rw [z]; decide)]
      simp
    have yes : (!decide (t.1 = n) && hidB t.2.1 x d) = true → ((((ts.take (i + 1)).filter fun t => !decide (t.1 = n) && hidB t.2.1 x d)).map (·.1)).map D.str = ((((ts.take i).filter fun t => !decide (t.1 = n) && hidB t.2.1 x d)).map (·.1)).map D.str ++ [.str t.1] := fun z => by
      rw [tk, List.filter_append, List.filter_cons_of_pos (by exact z)]
      simp
    generalize ((((ts.take i).filter fun t => !decide (t.1 = n) && hidB t.2.1 x d)).map (·.1)).map D.str = acc at hsz no yes ⊢
    refine w_bName ?_
    repeat' wtm_at "y_dy"
    refine g_ot (th0 t) ?_
    repeat' ((fail_if_success (with_reducible show Dy.Got (oNe _ _) _)); wtm_at "y_dy")
    refine w_neStr (hp t ht).2 hn ?_
    repeat' wtm_at "y_dy"
    · rename_i hne
      refine g_ot (th1 t) ?_
      repeat' wtm_at "y_dy"
      refine hh t ht ?_
      cases hb : hidB t.2.1 x d with
      | true =>
        repeat' wtm_at "y_dy"
        refine g_ot (th0 t) ?_
        repeat' wtm_at "y_dy"
        exact ⟨_, by rw [yes (by rw [decide_f hne, hb]; rfl)]⟩
      | false =>
        repeat' wtm_at "y_dy"
        exact ⟨_, by rw [no (by rw [hb, Bool.and_false])]⟩
    · rename_i hne
      have hne : t.1 = n := by simpa using hne
      exact ⟨_, by rw [no (by rw [decide_t hne]; rfl)]⟩
  · rintro _ ⟨u, rfl⟩
    rw [List.length_map, List.take_length]
    repeat' wtm_at "y_dy"
    rw [← hdef]
    refine g_ot (a := .lst ((sortS (hidN ts n x d)).map .str)) ?_ h
    show (strsD ((hidN ts n x d).map D.str)).bind _ = _
    rw [hS]
    exact if_pos (by omega)

/-! #### where the shadow falls, what is told -/
def Wd (p : Plate) (d : Tr) : Int := (p.2.1.2.1 * p.2.2.2.2 - p.2.1.2.2 * p.2.2.2.1) * d.1 + (p.2.1.2.2 * p.2.2.1 - p.2.1.1 * p.2.2.2.2) * d.2.1 + (p.2.1.1 * p.2.2.2.1 - p.2.1.2.1 * p.2.2.1) * d.2.2
noncomputable def plc (p : Plate) (t d : Tr) : Rat × Rat := Classical.epsilon fun xy => f_shadow_of [plD p, tD t, tD d] = .ok (.tup [rD xy.1, rD xy.2])
theorem plc_ok {p : Plate} {t d : Tr} (hp : Gp 150 p) (ht : Gd 150 t) (hd : Gd 60 d) (hW : 0 < Wd p d) : f_shadow_of [plD p, tD t, tD d] = .ok (.tup [rD (plc p t d).1, rD (plc p t d).2]) ∧ RB 400 400 (plc p t d).1 ∧ RB 400 400 (plc p t d).2 := by
  obtain ⟨⟨k0, k1, k2⟩, ⟨s0, s1, s2⟩, o0, o1, o2⟩ := p
  obtain ⟨t0, t1, t2⟩ := t
  obtain ⟨d0, d1, d2⟩ := d
  obtain ⟨⟨hk0, hk1, hk2⟩, ⟨hs0, hs1, hs2⟩, ho0, ho1, ho2⟩ := hp
  obtain ⟨ht0, ht1, ht2⟩ := ht
  obtain ⟨hd0, hd1, hd2⟩ := hd
  dsimp only at hk0 hk1 hk2 hs0 hs1 hs2 ho0 ho1 ho2 ht0 ht1 ht2 hd0 hd1 hd2
  have hW : 0 < (s1 * o2 - s2 * o1) * d0 + (s2 * o0 - s0 * o2) * d1 + (s0 * o1 - s1 * o0) * d2 := hW
  have g {i : Int} {n : Nat} (h : Bd n i) (k : n ≤ 200) : Bd 200 i := h.mono k
  have c1 {a b c d : Int} (ha : Bd 150 a) (hb : Bd 60 b) (hc : Bd 150 c) (hd : Bd 60 d) : Bd 211 (a * b - c * d) := ((ha.mul hb).subM (hc.mul hd)).mono (by decide)
  have c2 {a b c d : Int} (ha : Bd 60 a) (hb : Bd 150 b) (hc : Bd 60 c) (hd : Bd 150 d) : Bd 211 (a * b - c * d) := ((ha.mul hb).subM (hc.mul hd)).mono (by decide)
  have c3 {a b c d : Int} (ha : Bd 150 a) (hb : Bd 150 b) (hc : Bd 150 c) (hd : Bd 150 d) : Bd 301 (a * b - c * d) := ((ha.mul hb).subM (hc.mul hd)).mono (by decide)
  have hWb : Bd 363 ((s1 * o2 - s2 * o1) * d0 + (s2 * o0 - s0 * o2) * d1 + (s0 * o1 - s1 * o0) * d2) :=
    ((((c3 hs1 ho2 hs2 ho1).mul hd0).addM ((c3 hs2 ho0 hs0 ho2).mul hd1)).addM ((c3 hs0 ho1 hs1 ho0).mul hd2)).mono (by decide)
  have num {x y z a b c : Int} (hx : Bd 151 x) (hy : Bd 151 y) (hz : Bd 151 z) (ha : Bd 211 a) (hb : Bd 211 b) (hc : Bd 211 c) : Bd 370 (x * a + y * b + z * c) :=
    (((hx.mul ha).addM (hy.mul hb)).addM (hz.mul hc)).mono (by decide)
  have cast {x k y l z m a b c : Int} : ((x : Rat) - (k : Rat)) * ((a : Int) : Rat) + ((y : Rat) - (l : Rat)) * ((b : Int) : Rat) + ((z : Rat) - (m : Rat)) * ((c : Int) : Rat) = (((x - k) * a + (y - l) * b + (z - m) * c : Int) : Rat) := by
    simp only [Rat.intCast_add, Rat.intCast_sub, Rat.intCast_mul]
  have key : (f_shadow_of [.tup [t3 k0 k1 k2, t3 s0 s1 s2, t3 o0 o1 o2], t3 t0 t1 t2, t3 d0 d1 d2]).wp (fun z => ∃ x y, z = .tup [rD x, rD y] ∧ RB 400 400 x ∧ RB 400 400 y) NoE := by
    refine sp_shadow_of (g hk0 (by decide)) (g hk1 (by decide)) (g hk2 (by decide)) (g hs0 (by decide)) (g hs1 (by decide)) (g hs2 (by decide)) (g ho0 (by decide)) (g ho1 (by decide)) (g ho2 (by decide)) (g hd0 (by decide)) (g hd1 (by decide)) (g hd2 (by decide)) (ht0.mono (by decide)) (ht1.mono (by decide)) (ht2.mono (by decide)) (fun z => absurd hW z) fun _ => ⟨_, _, rfl, ?_, ?_⟩
    · rw [cast]
      exact (RB.frac (by omega) (num ((ht0.subM hk0).mono (by decide)) ((ht1.subM hk1).mono (by decide)) ((ht2.subM hk2).mono (by decide)) (c1 ho1 hd2 ho2 hd1) (c1 ho2 hd0 ho0 hd2) (c1 ho0 hd1 ho1 hd0)) hWb).mono (by decide) (by decide)
    · rw [cast]
      exact (RB.frac (by omega) (num ((ht0.subM hk0).mono (by decide)) ((ht1.subM hk1).mono (by decide)) ((ht2.subM hk2).mono (by decide)) (c2 hd1 hs2 hd2 hs1) (c2 hd2 hs0 hd0 hs2) (c2 hd0 hs1 hd1 hs0)) hWb).mono (by decide) (by decide)
  obtain ⟨z, e, x, y, rfl, hx, hy⟩ := key.ok
  have ex : ∃ xy : Rat × Rat, f_shadow_of [.tup [t3 k0 k1 k2, t3 s0 s1 s2, t3 o0 o1 o2], t3 t0 t1 t2, t3 d0 d1 d2] = .ok (.tup [rD xy.1, rD xy.2]) := ⟨(x, y), e⟩
  have sp := Classical.epsilon_spec ex
  have e2 := e.symm.trans sp
  have e3 : D.tup [rD x, rD y] = .tup [rD (plc ((k0, k1, k2), (s0, s1, s2), (o0, o1, o2)) (t0, t1, t2) (d0, d1, d2)).1, rD (plc ((k0, k1, k2), (s0, s1, s2), (o0, o1, o2)) (t0, t1, t2) (d0, d1, d2)).2] := by
    injection e2
  simp only [D.tup.injEq, List.cons.injEq, rD_inj, and_true] at e3
  refine ⟨sp, ?_, ?_⟩
  · rw [← e3.1]; exact hx
  · rw [← e3.2]; exact hy
def pnt (p : Plate) (xy : Rat × Rat) : Pn := ((p.1.1 : Rat) + (xy.1 * (p.2.1.1 : Rat) + xy.2 * (p.2.2.1 : Rat)), (p.1.2.1 : Rat) + (xy.1 * (p.2.1.2.1 : Rat) + xy.2 * (p.2.2.2.1 : Rat)), (p.1.2.2 : Rat) + (xy.1 * (p.2.1.2.2 : Rat) + xy.2 * (p.2.2.2.2 : Rat)))
theorem pnt_RP {p : Plate} {xy : Rat × Rat} (hp : Gp 150 p) (hx : RB 400 400 xy.1) (hy : RB 400 400 xy.2) : RP (pnt p xy) := by
  have c : ∀ {a b c : Int}, Bd 150 a → Bd 150 b → Bd 150 c → RB 1500 1500 ((a : Rat) + (xy.1 * (b : Rat) + xy.2 * (c : Rat))) := fun ha hb hc =>
    ((RB.int ha).add ((hx.mul (RB.int hb)).add (hy.mul (RB.int hc)))).mono (by decide) (by decide)
  exact ⟨c hp.1.1 hp.2.1.1 hp.2.2.1, c hp.1.2.1 hp.2.1.2.1 hp.2.2.2.1, c hp.1.2.2 hp.2.1.2.2 hp.2.2.2.2⟩
abbrev xyD (xy : Rat × Rat) : D := .tup [rD xy.1, rD xy.2]
noncomputable def toldD (ts : List Th) (n : Str) (p : Plate) (t d : Tr) : D :=
  if 0 < d.2.2 then if 0 < Wd p d then if (0 ≤ (plc p t d).1 ∧ (plc p t d).1 ≤ 1) ∧ (0 ≤ (plc p t d).2 ∧ (plc p t d).2 ≤ 1) then
    if sortS (hidN ts n (pnt p (plc p t d)) d) = [] then .tup [.str "read", xyD (plc p t d)] else .tup [.str "hidden", .lst ((sortS (hidN ts n (pnt p (plc p t d)) d)).map .str)]
    else .tup [.str "off", xyD (plc p t d)] else .tup [.str "behind"] else .tup [.str "down"]
theorem hidN_ok {ts : List Th} {n : Str} {x : Pn} {d : Tr} (h : ∀ t ∈ ts, Gp 170 t.2.1 ∧ PyData.strOk t.1 = true) : ∀ z ∈ sortS (hidN ts n x d), PyData.strOk z = true := by
  intro z hz
  have hz := (sortS_perm _).mem_iff.mp hz
  unfold hidN at hz
  obtain ⟨t, ht, rfl⟩ := List.mem_map.mp hz
  exact (h t (List.mem_filter.mp ht).1).2
theorem sp_told {rs : List Row} {ws : List Wall} {fs : List Dial} {h : Int} {n : Str} {r : Row} {f : Dial} {P : D → Prop} (hr : rs.find? (fun r => decide (r.1 = h)) = some r) (hf : fs.find? (fun f => decide (f.1 = n)) = some f) (hn : PyData.strOk n = true)
    (gr : ∀ r ∈ rs, Gd 60 r.2) (gf : ∀ f ∈ fs, Gp 150 f.2.1 ∧ Gd 150 f.2.2 ∧ PyData.strOk f.1 = true) (gw : ∀ w ∈ ws, Gp 170 w.2 ∧ PyData.strOk w.1 = true) (hl : ws.length + fs.length ≤ 60)
    (hP : P (toldD (things ws fs) n f.2.1 f.2.2 r.2)) : (f_told_at [yardD rs ws fs, .int h, .str n]).wp P NoE := by
  have hrm := List.mem_of_find?_eq_some hr
  have hfm := List.mem_of_find?_eq_some hf
  have gd := gr r hrm
  obtain ⟨gp, gt, _⟩ := gf f hfm
  have gT : ∀ t ∈ things ws fs, Gp 170 t.2.1 ∧ PyData.strOk t.1 = true := fun t ht => by
    unfold things at ht
    rcases List.mem_append.mp ht with ht | ht
    · obtain ⟨w, hw, rfl⟩ := List.mem_map.mp ht
      exact gw w hw
    · obtain ⟨w, hw, rfl⟩ := List.mem_map.mp ht
      have := gf w hw
      exact ⟨⟨this.1.1.mono (by decide), this.1.2.1.mono (by decide), this.1.2.2.mono (by decide)⟩, this.2.2⟩
  have hTl : (things ws fs).length ≤ 60 := by
    unfold things
    rw [List.length_append, List.length_map, List.length_map]
    exact hl
  obtain ⟨Y, hY⟩ : ∃ Y, yardD rs ws fs = Y := ⟨_, rfl⟩
  have y0 : oIx Y (.int 0) = some (.lst (rs.map rowD)) := by rw [← hY]; rfl
  have look : ∀ {P : D → Prop}, P (tD r.2) → (f_direction_at [.lst (rs.map rowD), .int h]).wp P NoE := fun hP => sp_direction_at (fun q hq => by rw [hr] at hq; cases hq; exact hP) fun z => by rw [hr] at z; cases z
  have up : ∀ {P : D → Prop}, P (.bl (decide (0 < r.2.2.2))) → (f_is_up [.lst (rs.map rowD), .int h]).wp P NoE := fun hP => sp_is_up (fun q hq => by rw [hr] at hq; cases hq; exact hP) fun z => by rw [hr] at z; cases z
  have dial : ∀ {P : D → Prop}, P (dialD f) → (f_dial_of [Y, .str n]).wp P NoE := fun hP => by
    rw [← hY]
    exact sp_dial_of hn (fun f hf => (gf f hf).2.2) (fun q hq => by rw [hf] at hq; cases hq; exact hP) fun z => by rw [hf] at z; cases z
  have hid : ∀ (x : Pn), RP x → ∀ {P : D → Prop}, P (.lst ((sortS (hidN (things ws fs) n x r.2)).map .str)) → (f_hiders [Y, .str n, ptD x, tD r.2]).wp P NoE := fun x hx P hP => by
    rw [← hY]
    exact sp_hiders hn hTl gT hx (gd.mono (by decide)) hP
  have hok := fun x => hidN_ok (ts := things ws fs) (n := n) (x := x) (d := r.2) gT
  generalize things ws fs = ts at hP hid hok
  rw [hY]
  obtain ⟨rh, d⟩ := r
  obtain ⟨fn, p, t⟩ := f
  dsimp only at gd gp gt hP hid hok look up dial
  obtain ⟨R, hR⟩ : ∃ R, D.lst (rs.map rowD) = R := ⟨_, rfl⟩
  rw [hR] at y0
  rw [hR] at look
  rw [hR] at up
  unfold toldD at hP
  wtm_at "y_in"
  repeat' wtm_at "y_dy"
  refine g_ot y0 ?_
  repeat' wtm_at "y_dy"
  refine look ?_
  repeat' wtm_at "y_dy"
  refine dial ?_
  repeat' wtm_at "y_dy"
  refine g_ot y0 ?_
  repeat' wtm_at "y_dy"
  refine up ?_
  repeat' wtm_at "y_dy"
  · rename_i h1
    rw [if_neg h1] at hP
    exact hP
  rename_i h1
  rw [if_pos h1] at hP
  refine sp_comes (n := 150) (n' := 60) (by decide) (by decide) gp.2.1.1 gp.2.1.2.1 gp.2.1.2.2 gp.2.2.1 gp.2.2.2.1 gp.2.2.2.2 gd.1 gd.2.1 gd.2.2 ?_
  have eW : decide (0 < (p.2.1.2.1 * p.2.2.2.2 - p.2.1.2.2 * p.2.2.2.1) * d.1 + (p.2.1.2.2 * p.2.2.1 - p.2.1.1 * p.2.2.2.2) * d.2.1 + (p.2.1.1 * p.2.2.2.1 - p.2.1.2.1 * p.2.2.1) * d.2.2) = decide (0 < Wd p d) := rfl
  rw [eW]
  repeat' wtm_at "y_dy"
  · rename_i h2
    rw [if_neg h2] at hP
    exact hP
  rename_i h2
  rw [if_pos h2] at hP
  obtain ⟨e, bx, by_⟩ := plc_ok gp gt gd h2
  have hok' := hok (pnt p (plc p t d))
  have hid' := fun {P : D → Prop} => hid (pnt p (plc p t d)) (pnt_RP gp bx by_) (P := P)
  have hpt : ∀ {P : D → Prop}, P (ptD (pnt p (plc p t d))) → (f_point_of [plD p, xyD (plc p t d)]).wp P NoE := fun hP =>
    sp_point_of (gp.1.1.mono (by decide)) (gp.1.2.1.mono (by decide)) (gp.1.2.2.mono (by decide)) (gp.2.1.1.mono (by decide)) (gp.2.1.2.1.mono (by decide)) (gp.2.1.2.2.mono (by decide)) (gp.2.2.1.mono (by decide)) (gp.2.2.2.1.mono (by decide)) (gp.2.2.2.2.mono (by decide)) (bx.mono (by decide) (by decide)) (by_.mono (by decide) (by decide)) hP
  generalize sortS (hidN ts n (pnt p (plc p t d)) d) = N at hP hid' hok'
  generalize pnt p (plc p t d) = X at hid' hpt
  generalize plc p t d = xy at *
  refine Dy.R.wp.of_ok e ?_
  repeat' wtm_at "y_dy"
  refine sp_lies_on bx by_ (by decide) ?_
  repeat' wtm_at "y_dy"
  · rename_i h3
    rw [if_neg h3] at hP
    exact hP
  rename_i h3
  rw [if_pos h3] at hP
  refine hpt ?_
  repeat' wtm_at "y_dy"
  refine hid' ?_
  have okN : okq 40 (.lst (N.map .str)) = true := by
    show (N.map D.str).all (okq 39) = true
    rw [List.all_eq_true]
    intro z hz
    obtain ⟨x, hx, rfl⟩ := List.mem_map.mp hz
    exact hok' x hx
  repeat' ((fail_if_success (with_reducible show Dy.Got (oNe _ _) _)); wtm_at "y_dy")
  refine w_neNil okN ?_
  cases N with
  | nil =>
    rw [if_pos rfl] at hP
    repeat' wtm_at "y_dy"
    exact hP
  | cons a b =>
    rw [if_neg (by simp)] at hP
    repeat' wtm_at "y_dy"
    exact hP

local macro_rules | `(tactic| wtm_at "y_fn") => `(tactic| ((with_reducible show Got (oIsX _ _ [_, D.tup _]) _); first | ((refine w_isxT (b := true) rfl ?_ ?_ ?_); (focus (decide +kernel)); (focus (decide +kernel))) | ((refine w_isxT (b := false) rfl ?_ ?_ ?_); (focus (decide +kernel)); (focus (decide +kernel)))))
local macro_rules | `(tactic| wtm_at "y_fn") => `(tactic| ((with_reducible show Got (oIsX _ _ [_, D.cls _]) _); first | ((refine w_isxC (b := true) ?_ ?_ ?_); (focus (decide +kernel)); (focus (decide +kernel))) | ((refine w_isxC (b := false) ?_ ?_ ?_); (focus (decide +kernel)); (focus (decide +kernel)))))
local macro_rules | `(tactic| wtm_at "y_fn") => `(tactic| ((with_reducible show Got (oIsX _ _ [_, D.ty _]) _); refine w_isxV (by decide +kernel) ?_))
local macro_rules | `(tactic| wtm_at "y_fn") => `(tactic| ((with_reducible show Got (oAt _ _ (D.exc _ _ _)) _); refine w_xat (by decide +kernel) rfl ?_))
local macro_rules | `(tactic| wtm_at "y_fn") => `(tactic| (with_reducible refine sp_tryAs ?_))
local macro_rules | `(tactic| wtm_at "y_fn") => `(tactic| ((with_reducible show SR.wp (catchS _ _ _ _ _ (D.exc _ _ _)) _ _ _); refine sp_catch (by decide +kernel) (by decide +kernel) ?_))
local macro_rules | `(tactic| wtm_at "y_fn") => `(tactic| (with_reducible refine sp_raise ?_))

local macro_rules | `(tactic| wtm_at "y_fn") => `(tactic| first | (with_reducible refine sp_ownD ?_) | ((with_reducible show SR.wp (sFrzD _ _ _) _ _ _); first | refine sp_frzD rfl ?_ | refine sp_frzD0 rfl ?_) | (with_reducible refine wp_keep ?_) | (with_reducible refine wp_xRg1 ?_) | (with_reducible refine pw_lift ?_) | (with_reducible refine pw_nil ?_) | (with_reducible refine pw_cons ?_) | (with_reducible refine pw_tup ?_) | (with_reducible refine sp_setP ?_) | (with_reducible refine sp_exprP ?_) | (with_reducible refine sp_ownN ?_))

/-! ### which dials are read at an hour -/
noncomputable def isRead (ts : List Th) (n : Str) (p : Plate) (t d : Tr) : Bool := decide (0 < d.2.2) && (decide (0 < Wd p d) && (decide ((0 ≤ (plc p t d).1 ∧ (plc p t d).1 ≤ 1) ∧ (0 ≤ (plc p t d).2 ∧ (plc p t d).2 ≤ 1)) && (sortS (hidN ts n (pnt p (plc p t d)) d)).isEmpty))
theorem toldD_0 (ts : List Th) (n : Str) (p : Plate) (t d : Tr) : ∃ w : Str, oIx (toldD ts n p t d) (.int 0) = some (.str w) ∧ PyData.strOk w = true ∧ decide (w = "read") = isRead ts n p t d := by
  unfold toldD isRead
  by_cases h1 : 0 < d.2.2
  case neg =>
    rw [if_neg h1, decide_f h1]
    exact ⟨"down", rfl, by decide +kernel, by simp only [Bool.false_and, Bool.and_false, Bool.true_and]; decide +kernel⟩
  rw [if_pos h1, decide_t h1]
  by_cases h2 : 0 < Wd p d
  case neg =>
    rw [if_neg h2, decide_f h2]
    exact ⟨"behind", rfl, by decide +kernel, by simp only [Bool.false_and, Bool.and_false, Bool.true_and]; decide +kernel⟩
  rw [if_pos h2, decide_t h2]
  by_cases h3 : (0 ≤ (plc p t d).1 ∧ (plc p t d).1 ≤ 1) ∧ (0 ≤ (plc p t d).2 ∧ (plc p t d).2 ≤ 1)
  case neg =>
    rw [if_neg h3, decide_f h3]
    exact ⟨"off", rfl, by decide +kernel, by simp only [Bool.false_and, Bool.and_false, Bool.true_and]; decide +kernel⟩
  rw [if_pos h3, decide_t h3]
  by_cases h4 : sortS (hidN ts n (pnt p (plc p t d)) d) = []
  · rw [if_pos h4, h4]
    exact ⟨"read", rfl, by decide +kernel, by decide +kernel⟩
  · rw [if_neg h4]
    refine ⟨"hidden", rfl, by decide +kernel, ?_⟩
    rw [show (sortS (hidN ts n (pnt p (plc p t d)) d)).isEmpty = false by
      cases q : sortS (hidN ts n (pnt p (plc p t d)) d) with
      | nil => exact absurd q h4
      | cons a b => rfl]
    decide +kernel
/-- a yard as the laws of choosing draw it -/
structure YG (rs : List Row) (ws : List Wall) (fs : List Dial) : Prop where
  sun : Sun rs
  gr : ∀ r ∈ rs, Gd 60 r.2
  gw : ∀ w ∈ ws, Gp 170 w.2 ∧ PyData.strOk w.1 = true
  gf : ∀ f ∈ fs, Gp 150 f.2.1 ∧ Gd 150 f.2.2 ∧ PyData.strOk f.1 = true
  nd : (fs.map (·.1)).Nodup
  nw : (ws.map (·.1)).Nodup
  lr : rs.length ≤ 20
  lw : ws.length ≤ 20
  lf : fs.length ≤ 10
theorem find_name {fs : List Dial} (hS : (fs.map (·.1)).Nodup) {x : Dial} (hx : x ∈ fs) : fs.find? (fun a => decide (a.1 = x.1)) = some x := by
  induction fs with
  | nil => cases hx
  | cons f fs ih =>
    rw [List.map_cons, List.nodup_cons] at hS
    rcases List.mem_cons.mp hx with h | h
    · rw [h, List.find?_cons_of_pos (by simp)]
    · have : f.1 ≠ x.1 := fun e => hS.1 (List.mem_map.mpr ⟨x, h, e.symm⟩)
      rw [List.find?_cons_of_neg (by simpa using this)]
      exact ih hS.2 h
noncomputable def readF (ws : List Wall) (fs : List Dial) (d : Tr) (f : Dial) : Bool := isRead (things ws fs) f.1 f.2.1 f.2.2 d
noncomputable def redN (ws : List Wall) (fs : List Dial) (d : Tr) : List Nat := (List.range fs.length).filter fun i => match fs[i]? with
  | some f => readF ws fs d f
  | none => false
def nD (S : List Nat) : D := .lst (S.map fun i : Nat => .int (i : Int))
theorem told_0 {rs : List Row} {ws : List Wall} {fs : List Dial} (y : YG rs ws fs) {h : Int} {r : Row} (hr : rs.find? (fun r => decide (r.1 = h)) = some r) {f : Dial} (hf : f ∈ fs) {P : D → Prop} (hP : ∀ t, (∃ w : Str, oIx t (.int 0) = some (.str w) ∧ PyData.strOk w = true ∧ decide (w = "read") = readF ws fs r.2 f) → P t) : (f_told_at [yardD rs ws fs, .int h, .str f.1]).wp P NoE :=
  sp_told hr (find_name y.nd hf) (y.gf f hf).2.2 y.gr y.gf y.gw (by have := y.lw; have := y.lf; omega) (hP _ (toldD_0 _ _ _ _ _))
theorem getD_map {α : Type} {g : α → D} {xs : List α} {i : Nat} {x : α} (e : xs[i]? = some x) : (xs.map g).getD i .non = g x := by
  rw [List.getD_eq_getElem?_getD, List.getElem?_map, e]
  rfl
theorem sp_readers {rs : List Row} {ws : List Wall} {fs : List Dial} (y : YG rs ws fs) {h : Int} {r : Row} (hr : rs.find? (fun r => decide (r.1 = h)) = some r) {P : D → Prop} (hP : P (nD (redN ws fs r.2))) : (f_readers [yardD rs ws fs, .int h]).wp P NoE := by
  have told := fun f hf => fun {P : D → Prop} hP => told_0 y hr (f := f) hf (P := P) hP
  have hl := y.lf
  obtain ⟨Y, hY⟩ : ∃ Y, yardD rs ws fs = Y := ⟨_, rfl⟩
  have y2 : oIx Y (.int 2) = some (.lst (fs.map dialD)) := by rw [← hY]; rfl
  have e1 : enum1 [.lst (fs.map dialD)] = some ((List.range fs.length).map fun (i : Nat) => .tup [.int (i : Int), (fs.map dialD).getD i .non]) := by
    show some (enumD (fs.map dialD)) = _
    unfold enumD
    rw [List.length_map]
  have fit : ((List.range fs.length).map fun (i : Nat) => (D.tup [.int (i : Int), (fs.map dialD).getD i .non])).length ≤ sizeLine := by
    rw [List.length_map, List.length_range, sizeLine_eq]
    omega
  rw [hY] at told ⊢
  wtm_at "y_in"
  repeat' ((fail_if_success (with_reducible show Dy.Got (oIx Y _) _)); wtm_at "y_dy")
  refine g_ot y2 ?_
  refine g_ot e1 ?_
  repeat' ((fail_if_success (with_reducible show Dy.Got (compS _ _ _ _ _) _)); wtm_at "y_dy")
  refine c_listG (f := fun (i : Nat) => D.tup [.int (i : Int), (fs.map dialD).getD i .non]) (g := fun i : Nat => .int (i : Int)) (keep := fun i => match fs[i]? with
    | some f => readF ws fs r.2 f
    | none => false) (fun i hi => ?_) ?_
  · have hi := List.mem_range.mp hi
    have ei : fs[i]? = some fs[i] := List.getElem?_eq_getElem hi
    rw [getD_map ei]
    repeat' wtm_at "y_dy"
    refine told _ (List.getElem_mem hi) ?_
    rintro t ⟨w, e, ok, er⟩
    repeat' ((fail_if_success (with_reducible show Dy.Got (oIx t _) _)); wtm_at "y_dy")
    refine g_ot e ?_
    repeat' wtm_at "y_dy"
    refine w_eqStr ok (by decide +kernel) ?_
    rw [er, ei]
    repeat' wtm_at "y_dy"
    refine ⟨rfl, fun _ => ?_⟩
    repeat' wtm_at "y_dy"
    rfl
  · exact hP
theorem rangeD_len (m : Int) (n : Nat) : (rangeD m n).length = n := by simp [rangeD]
theorem okq_nat {n : Nat} (S : List Nat) : okq (n + 1) (nD S) = true := by
  show (S.map fun i : Nat => D.int (i : Int)).all (okq n) = true
  rw [List.all_eq_true]
  intro d hd
  obtain ⟨i, _, rfl⟩ := List.mem_map.mp hd
  cases n <;> rfl
def nxt (S : List Nat) : Nat := match S.getLast? with
  | none => 0
  | some l => l + 1
def exts (n : Nat) (S : List Nat) : List (List Nat) := (List.range (n - nxt S)).map fun i => S ++ [nxt S + i]
def combos (n : Nat) : Nat → List (List Nat)
  | 0 => [[]]
  | m + 1 => (combos n m).flatMap (exts n)
theorem combos_ok : ∀ n : Nat, n < 11 → ∀ m : Nat, m < 11 → (combos n m).length ≤ 252 ∧ ∀ S ∈ combos n m, S.length = m ∧ (∀ x ∈ S, x < n) := by decide +kernel
theorem combos_all : ∀ n : Nat, n < 11 → List.range n ∈ combos n n := by decide +kernel
theorem take_flat_le {α β : Type} {g : α → List β} {xs : List α} {j : Nat} : ((xs.take j).flatMap g).length ≤ (xs.flatMap g).length := by
  conv => rhs; rw [← List.take_append_drop j xs]
  rw [List.flatMap_append, List.length_append]
  omega
theorem flat_sn {α β : Type} {g : α → List β} {xs : List α} {i : Nat} {x : α} (e : xs[i]? = some x) : (xs.take (i + 1)).flatMap g = (xs.take i).flatMap g ++ g x := by
  rw [List.take_add_one, e, List.flatMap_append]
  simp
theorem nD_app (S : List Nat) (x : Nat) : nD (S ++ [x]) = .lst (S.map (fun i : Nat => D.int (i : Int)) ++ [.int (x : Int)]) := by
  unfold nD
  rw [List.map_append]
  rfl
section
variable {α : Type} {b : D → REnv → Option REnv} {e : REnv → R D} {ρ : REnv}
theorem compQ_map {f g : α → D} {xs : List α} {Q : List D → Prop} {E : D → Prop} (hx : ∀ x ∈ xs, Got (b (f x) ρ) fun ρ' => (e ρ').wp (fun v => v = g x) E) (h : Q (xs.map g)) : (compQ b eYes e (xs.map f) ρ).wp Q E :=
  compQ_all (keep := fun _ => true) (fun x hx' => by
    obtain ⟨ρ', e1, h2⟩ := hx x hx'
    exact ⟨ρ', e1, wp_yes ⟨rfl, fun _ => h2⟩⟩) (by rw [List.filter_eq_self.mpr (fun _ _ => rfl)]; exact h)
end
theorem rangeD_nat (lo k : Nat) : rangeD (lo : Int) k = (List.range k).map fun i => .int ((lo + i : Nat) : Int) := by
  unfold rangeD
  exact List.map_congr_left fun i _ => by rw [Int.natCast_add]
theorem ix_last (xs : List D) (d : D) : oIx (.lst (xs ++ [d])) (.int (-1)) = some d := by
  show L2.atI (xs ++ [d]) (-1) = _
  have e : L2.ixN (xs ++ [d]).length (-1) = some xs.length := by
    unfold L2.ixN
    have : (xs ++ [d]).length = xs.length + 1 := by simp
    rw [if_neg (by omega), if_pos (by rw [this]; omega)]
    congr 1
    rw [this]
    omega
  unfold L2.atI
  rw [e]
  simp
theorem sp_lists {m n : Nat} {M N : Int} (eM : (m : Int) = M) (eN : (n : Int) = N) (hm : m ≤ 10) (hn : n ≤ 10) {P : D → Prop} (h : P (.lst ((combos n m).map nD))) : (f_lists_of [.int M, .int N]).wp P NoE := by
  obtain ⟨RM, hRM⟩ : ∃ RM, rangeD 0 m = RM := ⟨_, rfl⟩
  have rg1 : ∀ {P : List D → Prop}, P RM → Got (range1 [.int M]) P := fun h => by
    rw [← eM]
    exact w_range1 (by constructor <;> omega) (by rw [Int.toNat_natCast, hRM]; exact h)
  have lRM : RM.length = m := by rw [← hRM]; exact rangeD_len 0 m
  wtm_at "y_in"
  repeat' ((fail_if_success (with_reducible show Dy.Got (range1 _) _)); wtm_at "y_dy")
  refine rg1 ?_
  repeat' ((fail_if_success (with_reducible show SR.wp (forS _ _ _ _) _ _ _)); wtm_at "y_dy")
  refine forS_inv (fun i ρ => ∃ a b c d e : Sl, ρ = [.val (.int M), .val (.int N), .val (.lst ((combos n i).map nD)), a, b, c, d, e]) ⟨_, _, _, _, _, rfl⟩ ?_ ?_
  · rintro i ix _ ed ⟨_, _, _, _, _, rfl⟩
    have hi : i < m := by
      have := (List.getElem?_eq_some_iff.mp ed).1
      omega
    clear ed
    obtain ⟨c1, c2⟩ := combos_ok n (by omega) i (by omega)
    obtain ⟨c3, _⟩ := combos_ok n (by omega) (i + 1) (by omega)
    have tf : ∀ j, (((combos n i).take j).flatMap (exts n)).length ≤ 252 := fun j => Nat.le_trans take_flat_le c3
    have e2 : combos n (i + 1) = (combos n i).flatMap (exts n) := rfl
    rw [e2]
    generalize combos n i = cs at c1 c2 tf ⊢
    repeat' ((fail_if_success (with_reducible show SR.wp (forS _ _ _ _) _ _ _)); wtm_at "y_dy")
    refine forS_inv (fun j ρ => ∃ a c d e : Sl, ρ = [.val (.int M), .val (.int N), .val (.lst (cs.map nD)), a, .own (((cs.take j).flatMap (exts n)).map nD), c, d, e]) ⟨_, _, _, _, rfl⟩ ?_ ?_
    · rintro j _ _ ed ⟨_, _, _, _, rfl⟩
      rw [List.getElem?_map, Option.map_eq_some_iff] at ed
      obtain ⟨S, eS, rfl⟩ := ed
      obtain ⟨lS, bS⟩ := c2 S (List.mem_of_getElem? eS)
      have t1 := tf (j + 1)
      rw [flat_sn eS, List.length_append] at t1
      rw [flat_sn eS, List.map_append]
      have al : (((cs.take j).flatMap (exts n)).map nD).length + ((exts n S).map nD).length ≤ sizeLine := by rw [List.length_map, List.length_map, sizeLine_eq]; omega
      generalize ((cs.take j).flatMap (exts n)).map nD = acc at al ⊢
      have hx : nxt S ≤ n := by
        unfold nxt
        cases q : S.getLast? with
        | none => exact Nat.zero_le _
        | some l => exact bS l (List.mem_of_getLast? q)
      obtain ⟨K, hK⟩ : ∃ K : Int, (nxt S : Int) = K := ⟨_, rfl⟩
      obtain ⟨RL, hRL⟩ : ∃ RL, rangeD K (n - nxt S) = RL := ⟨_, rfl⟩
      have rg2 : ∀ {P : List D → Prop}, P RL → Got (range2 [.int K, .int N]) P := fun h => w_range2 (by constructor <;> omega) (by constructor <;> omega) (by rw [show (N - K).toNat = n - nxt S by omega, hRL]; exact h)
      have fitR : RL.length ≤ sizeLine := by rw [← hRL, rangeD, List.length_map, List.length_range, sizeLine_eq]; omega
      have addS : ∀ x : Nat, x ∈ List.range (n - nxt S) → ∀ {P : D → Prop}, P (nD (S ++ [nxt S + x])) → Got (oAdd (nD S) (.lst [.int (((nxt S + x : Nat)) : Int)])) P := fun x _ {P} h => by
        unfold nD
        refine w_addL (by rw [List.length_map, sizeLine_eq]; simp; omega) ?_
        have e : S.map (fun i : Nat => D.int (i : Int)) ++ [.int (((nxt S + x : Nat)) : Int)] = (S ++ [nxt S + x]).map (fun i : Nat => D.int (i : Int)) := by rw [List.map_append]; rfl
        rw [e]
        exact h
      obtain ⟨SD, hSD⟩ : ∃ SD, nD S = SD := ⟨_, rfl⟩
      rw [hSD] at addS
      have fin : ∀ {a b : Sl} {Q : List D → Prop}, Q ((exts n S).map nD) → (compQ (bName 7) eYes (eBin oAdd (eVar 5) (eLst (aCons (eVar 7) aNil))) RL [.val (.int M), .val (.int N), .val (.lst (cs.map nD)), a, .own acc, .val SD, b, .un]).wp Q (fun e => NoE e) := by
        intro a b Q hQ
        rw [← hRL, ← hK, rangeD_nat]
        refine compQ_map (g := fun i => nD (S ++ [nxt S + i])) (fun x hx => ?_) ?_
        · obtain ⟨Z, hZ⟩ : ∃ Z : Int, (((nxt S + x : Nat)) : Int) = Z := ⟨_, rfl⟩
          have ad := fun {P : D → Prop} => addS x hx (P := P)
          rw [hZ] at ad ⊢
          repeat' ((fail_if_success (with_reducible show Dy.Got (oAdd _ _) _)); wtm_at "y_dy")
          exact ad rfl
        · unfold exts at hQ
          rw [List.map_map] at hQ
          exact hQ
      rcases List.eq_nil_or_concat S with rfl | ⟨T, l, rfl⟩
      · have z : K = 0 := by rw [← hK]; rfl
        have nn : ∀ {P : D → Prop}, P (.bl false) → Got (oNe SD (.lst [])) P := fun h => by
          rw [← hSD]
          exact w_neNil rfl h
        rw [hSD]
        repeat' ((fail_if_success (with_reducible show Dy.Got (oNe _ _) _)); wtm_at "y_dy")
        refine nn ?_
        repeat' ((fail_if_success (with_reducible show SR.wp (sExtN _ _ _) _ _ _)); wtm_at "y_dy")
        rw [← z]
        refine sp_extN rfl (wp_cCompQ ?_)
        repeat' ((fail_if_success (with_reducible show Dy.Got (range2 _) _)); wtm_at "y_dy")
        refine rg2 ⟨fitR, ?_⟩
        repeat' ((fail_if_success (with_reducible show R.wp (compQ _ _ _ _ _) _ _)); wtm_at "y_dy")
        refine fin ⟨al, ?_⟩
        repeat' wtm_at "y_dy"
        exact ⟨_, _, _, _, rfl⟩
      · rw [List.concat_eq_append] at *
        have z : (l : Int) + 1 = K := by rw [← hK]; unfold nxt; rw [List.getLast?_concat]; rfl
        obtain ⟨L, hL⟩ : ∃ L : Int, (l : Int) = L := ⟨_, rfl⟩
        have ix : oIx SD (.int (-1)) = some (.int L) := by
          rw [← hSD, nD_app, hL]
          exact ix_last _ _
        rw [hL] at z
        have nn : ∀ {P : D → Prop}, P (.bl true) → Got (oNe SD (.lst [])) P := fun {P} h => by
          rw [← hSD]
          refine w_neNil (okq_nat (T ++ [l])) ?_
          rw [show ((T ++ [l]).map fun i : Nat => D.int (i : Int)).isEmpty = false by
            rw [List.map_append]
            cases T <;> rfl]
          exact h
        rw [hSD]
        repeat' ((fail_if_success (with_reducible show Dy.Got (oNe _ _) _)); wtm_at "y_dy")
        refine nn ?_
        repeat' ((fail_if_success (with_reducible show Dy.Got (oIx _ _) _)); wtm_at "y_dy")
        refine g_ot ix ?_
        repeat' ((fail_if_success (with_reducible show SR.wp (sExtN _ _ _) _ _ _)); wtm_at "y_dy")
        rw [z]
        refine sp_extN rfl (wp_cCompQ ?_)
        repeat' ((fail_if_success (with_reducible show Dy.Got (range2 _) _)); wtm_at "y_dy")
        refine rg2 ⟨fitR, ?_⟩
        repeat' ((fail_if_success (with_reducible show R.wp (compQ _ _ _ _ _) _ _)); wtm_at "y_dy")
        refine fin ⟨al, ?_⟩
        repeat' wtm_at "y_dy"
        exact ⟨_, _, _, _, rfl⟩
    · rintro _ ⟨_, _, _, _, rfl⟩
      rw [List.length_map, List.take_length]
      repeat' wtm_at "y_dy"
      exact ⟨_, _, _, _, _, rfl⟩
  · rintro _ ⟨_, _, _, _, _, rfl⟩
    rw [lRM]
    repeat' wtm_at "y_dy"
    exact h

/-! ### flat faces -/
theorem YG.mk0 {rs : List Row} {ws : List Wall} {fs : List Dial} (h : (1 ≤ rs.length ∧ rs.length ≤ 9 ∧ ws.length ≤ 9 ∧ fs.length ≤ 9) ∧ Sun rs ∧ (∀ r ∈ rs, Gd 60 r.2) ∧ (∀ w ∈ ws, Gp 170 w.2 ∧ PyData.strOk w.1 = true) ∧ (∀ f ∈ fs, Gp 150 f.2.1 ∧ Gd 150 f.2.2 ∧ PyData.strOk f.1 = true) ∧ (ws.map (·.1) ++ fs.map (·.1)).Nodup) : YG rs ws fs := by
  obtain ⟨⟨_, h1, h2, h3⟩, hS, gr, gw, gf, nd⟩ := h
  obtain ⟨n1, n2, _⟩ := List.nodup_append.mp nd
  exact ⟨hS, gr, gw, gf, n2, n1, by omega, by omega, by omega⟩
theorem sun_step {rs : List Row} (h : ∀ (j : Nat) (r : Row), rs[j]? = some r → r.1 = 3 + 2 * (j : Int)) : Sun rs := by
  refine Sun.of ?_
  rw [List.Nodup, List.pairwise_map, List.pairwise_iff_getElem]
  intro i j hi hj hij e
  have h1 := h i _ (List.getElem?_eq_getElem hi)
  have h2 := h j _ (List.getElem?_eq_getElem hj)
  omega
theorem okq_dials {fs : List Dial} (h : ∀ f ∈ fs, PyData.strOk f.1 = true) : okq 40 (.lst (fs.map dialD)) = true := by
  show (fs.map dialD).all (okq 39) = true
  rw [List.all_eq_true]
  intro d hd
  obtain ⟨e, he, rfl⟩ := List.mem_map.mp hd
  show (PyData.strOk e.1 && _) = true
  rw [h e he]
  rfl
theorem get_app {α : Type} {xs : List α} {x : α} {P : Nat → α → Prop} {n : Nat} (hn : xs.length = n) (h : ∀ j y, xs[j]? = some y → P j y) (hx : P n x) : ∀ j y, (xs ++ [x])[j]? = some y → P j y := fun j y e => by
  by_cases hj : j < xs.length
  · rw [List.getElem?_append_left hj] at e
    exact h j y e
  · rw [List.getElem?_append_right (by omega)] at e
    have : j - xs.length = 0 := by
      cases q : j - xs.length with
      | zero => rfl
      | succ k => rw [q] at e; simp at e
    rw [this] at e
    have e : some x = some y := e
    cases e
    rw [show j = n by omega]
    exact hx
set_option maxHeartbeats 4000000 in
theorem sp_flat (ns : List Int) {A B C : Int} (hA0 : 0 ≤ A) (hA1 : A ≤ 7) (hB0 : 0 ≤ B) (hB1 : B ≤ 5) (hC0 : 1 ≤ C) (hC1 : C ≤ 9) : (f__law_flat [.lst (ns.map .int), .int A, .int B, .int C]).wp (fun d => ∃ rs ws fs, d = yardD rs ws fs ∧ (1 ≤ rs.length ∧ ws.length ≤ B.toNat ∧ fs.length ≤ A.toNat) ∧ YG rs ws fs) NoE := by
  obtain ⟨p, q, pad, ⟨okp, okq'⟩, hname⟩ := sp_nameG ns
  have hw := fun k h0 h1 => sp_wide ns k h0 h1
  obtain ⟨dn, hdn⟩ : ∃ dn, D.lst (ns.map .int) = dn := ⟨_, rfl⟩
  rw [hdn] at hname hw ⊢
  wtm_at "y_in"
  repeat' wtm_at "y_dy"
  refine (hw 0 (by decide) (by decide)).no ?_
  rintro _ ⟨c, rfl, hc0, _⟩
  have e1 := Int.emod_nonneg (c / 2) (show C ≠ 0 by omega)
  have e2 := Int.emod_lt_of_pos (c / 2) (show 0 < C by omega)
  have e3 := Int.emod_nonneg (c / 2 / 100) (show A + 1 ≠ 0 by omega)
  have e4 := Int.emod_lt_of_pos (c / 2 / 100) (show 0 < A + 1 by omega)
  have e5 := Int.emod_nonneg (c / 2 / 10000) (show B + 1 ≠ 0 by omega)
  have e6 := Int.emod_lt_of_pos (c / 2 / 10000) (show 0 < B + 1 by omega)
  repeat' ((fail_if_success (with_reducible show Upd _ 5 _ _)); wtm_at "y_dy")
  obtain ⟨M, hM⟩ : ∃ M, 1 + c / 2 % C = M := ⟨_, rfl⟩
  obtain ⟨N1, hN1⟩ : ∃ N1, c / 2 / 100 % (A + 1) = N1 := ⟨_, rfl⟩
  obtain ⟨N2, hN2⟩ : ∃ N2, c / 2 / 10000 % (B + 1) = N2 := ⟨_, rfl⟩
  rw [hM]
  have hM1 : 1 ≤ M := by omega
  have hM2 : M ≤ 9 := by omega
  rw [hN1] at e3 e4
  rw [hN2] at e5 e6
  repeat' first | wtm_at "y_dy" | wtm_at "y_fn"
  refine ⟨⟨by omega, by omega⟩, ?_⟩
  obtain ⟨L0, hL0⟩ : ∃ L0, rangeD 0 (M + 2).toNat = L0 := ⟨_, rfl⟩
  have l0 : L0.length = (M + 2).toNat := by rw [← hL0, rangeD, List.length_map, List.length_range]
  have g0 : ∀ d ∈ L0, ∃ v : Int, d = .int v ∧ 0 ≤ v ∧ v < 12 := fun d hd => by
    rw [← hL0] at hd
    obtain ⟨j, hj⟩ := List.getElem?_of_mem hd
    obtain ⟨rfl, h⟩ := rangeD_get hj
    exact ⟨_, rfl, by omega, by omega⟩
  rw [hL0]
  repeat' wtm_at "y_dy"
  refine (hw 1 (by decide) (by decide)).no ?_
  rintro _ ⟨c1, rfl, hc1, _⟩
  obtain ⟨RM, hRM⟩ : ∃ RM, rangeD 0 M.toNat = RM := ⟨_, rfl⟩
  have lRM : RM.length = M.toNat := by rw [← hRM, rangeD, List.length_map, List.length_range]
  have gRM : ∀ {i : Nat} {d : D}, RM[i]? = some d → i < M.toNat ∧ d = .int (i : Int) := fun {i d} e => by
    rw [← hRM] at e
    obtain ⟨h, hi⟩ := rangeD_get e
    exact ⟨hi, by rw [h, Int.zero_add]⟩
  have rgM : ∀ {P : List D → Prop}, P RM → Got (range1 [.int M]) P := fun h => w_range1 (by constructor <;> omega) (by rw [hRM]; exact h)
  repeat' ((fail_if_success (with_reducible show Dy.Got (range1 _) _)); wtm_at "y_dy")
  refine rgM ?_
  refine forS_inv (fun i ρ => ∃ (L : List D) (num : Int) (rs : List Row) (u : Sl), ρ = [.val dn, .val (.int A), .val (.int B), .val (.int C), .val (.int (c / 2)), .val (.int M), .own L, .val (.int num), .own (rs.map rowD), u, .un, .un, .un, .un, .un, .un, .un] ∧ (L.length = (M + 2).toNat - i ∧ ∀ d ∈ L, ∃ v : Int, d = .int v ∧ 0 ≤ v ∧ v < 12) ∧ rs.length = i ∧ (∀ (j : Nat) (r : Row), rs[j]? = some r → r.1 = 3 + 2 * (j : Int)) ∧ ∀ r ∈ rs, Gd 60 r.2) ⟨L0, c1, [], _, rfl, ⟨by omega, g0⟩, rfl, (fun j r h => by simp at h), fun _ h => nomatch h⟩ ?_ ?_
  · rintro i d _ ed ⟨L, num, rs, _, rfl, ⟨hL, gL⟩, hrl, hj, hG⟩
    obtain ⟨hi, rfl⟩ := gRM ed
    obtain ⟨K, hK⟩ : ∃ K : Int, (i : Int) = K := ⟨_, rfl⟩
    rw [hK]
    have hK0 : 0 ≤ K ∧ K < 12 := by omega
    have bK : Bd 10 K := by unfold Bd; omega
    obtain ⟨Ln, hLn⟩ : ∃ Ln : Int, (L.length : Int) = Ln := ⟨_, rfl⟩
    have hlen : oLen [.lst L] = some (.int Ln) := by rw [← hLn]; rfl
    have Lp : 0 < Ln := by omega
    have m0 := Int.emod_nonneg num (show Ln ≠ 0 by omega)
    have m1 := Int.emod_lt_of_pos num Lp
    have hk : (num % Ln).toNat < L.length := by omega
    obtain ⟨v, hv, v0, v1⟩ := gL _ (List.getElem_mem hk)
    have hsz : (rs.map rowD).length < sizeLine := by rw [List.length_map, sizeLine_eq]; omega
    have nx : ∀ u, ∃ (L' : List D) (num' : Int) (rs' : List Row) (u' : Sl), ([.val dn, .val (.int A), .val (.int B), .val (.int C), .val (.int (c / 2)), .val (.int M), .own (L.eraseIdx (num % Ln).toNat), .val (.int (num / 12)), .own (rs.map rowD ++ [.tup [.int (3 + 2 * K), .tup [.int v, .int 0, .int 1]]]), u, .un, .un, .un, .un, .un, .un, .un] : REnv) = [.val dn, .val (.int A), .val (.int B), .val (.int C), .val (.int (c / 2)), .val (.int M), .own L', .val (.int num'), .own (rs'.map rowD), u', .un, .un, .un, .un, .un, .un, .un] ∧ (L'.length = (M + 2).toNat - (i + 1) ∧ ∀ d ∈ L', ∃ v : Int, d = .int v ∧ 0 ≤ v ∧ v < 12) ∧ rs'.length = i + 1 ∧ (∀ (j : Nat) (r : Row), rs'[j]? = some r → r.1 = 3 + 2 * (j : Int)) ∧ ∀ r ∈ rs', Gd 60 r.2 := fun u => by
      refine ⟨_, _, rs ++ [(3 + 2 * K, (v, 0, 1))], _, by rw [List.map_append]; rfl, ⟨by rw [List.length_eraseIdx, if_pos hk]; omega, fun d hd => gL d (List.mem_of_mem_eraseIdx hd)⟩, by simp [hrl], get_app (P := fun (j : Nat) (r : Row) => r.1 = 3 + 2 * (j : Int)) hrl hj (by rw [hK]), fun r hr => ?_⟩
      rcases List.mem_append.mp hr with hr | hr
      · exact hG r hr
      · rw [List.mem_singleton.mp hr]
        refine ⟨?_, ?_, ?_⟩ <;> (unfold Bd; dsimp only; omega)
    have hL6 : L.length ≤ 1000000 := by omega
    clear ed hL gL hj hG hw hname
    repeat' wtm_at "y_dy"
    refine sp_appQ rfl ?_
    refine pw_tup (pw_cons (pw_lift ?_))
    repeat' wtm_at "y_dy"
    refine pw_cons (pw_tup (pw_cons (pw_pop rfl hL6 ?_)))
    repeat' ((fail_if_success (with_reducible show Dy.Got (oLen _) _)); wtm_at "y_dy")
    refine g_ot hlen (sc_int ?_)
    repeat' wtm_at "y_dy"
    refine ⟨(num % Ln).toNat, .int v, ?_, by rw [List.getElem?_eq_getElem hk, hv], ?_⟩
    · unfold L2.ixN
      rw [if_pos m0, if_pos (by omega)]
    refine pw_cons (pw_lift (wp_c (pw_cons (pw_lift (wp_c (pw_nil ?_))))))
    refine ⟨by simp [sizeLine_eq], pw_nil ⟨by simp [sizeLine_eq], rs.map rowD, rfl, hsz, ?_⟩⟩
    repeat' wtm_at "y_dy"
    exact nx _
  rintro _ ⟨L, num, rs, _, rfl, _, hrl, hj, hG⟩
  rw [lRM] at hrl
  have hS : Sun rs := sun_step hj
  have hr1 : 1 ≤ rs.length := by omega
  have hr9 : rs.length ≤ 9 := by omega
  clear hj hrl gRM lRM
  obtain ⟨R1, hR1⟩ : ∃ R, rangeD 0 N1.toNat = R := ⟨_, rfl⟩
  have lR1 : R1.length = N1.toNat := by rw [← hR1, rangeD, List.length_map, List.length_range]
  have gR1 : ∀ {i : Nat} {d : D}, R1[i]? = some d → i < N1.toNat ∧ d = .int (i : Int) := fun {i d} e => by
    rw [← hR1] at e
    obtain ⟨h, hi⟩ := rangeD_get e
    exact ⟨hi, by rw [h, Int.zero_add]⟩
  have rg1 : ∀ {P : List D → Prop}, P R1 → Got (range1 [.int N1]) P := fun h => w_range1 (by constructor <;> omega) (by rw [hR1]; exact h)
  obtain ⟨R2, hR2⟩ : ∃ R, rangeD 0 N2.toNat = R := ⟨_, rfl⟩
  have lR2 : R2.length = N2.toNat := by rw [← hR2, rangeD, List.length_map, List.length_range]
  have gR2 : ∀ {i : Nat} {d : D}, R2[i]? = some d → i < N2.toNat ∧ d = .int (i : Int) := fun {i d} e => by
    rw [← hR2] at e
    obtain ⟨h, hi⟩ := rangeD_get e
    exact ⟨hi, by rw [h, Int.zero_add]⟩
  have rg2 : ∀ {P : List D → Prop}, P R2 → Got (range1 [.int N2]) P := fun h => w_range1 (by constructor <;> omega) (by rw [hR2]; exact h)
  repeat' ((fail_if_success (with_reducible show Dy.Got (range1 _) _)); wtm_at "y_dy")
  rw [hN1]
  refine rg1 ?_
  refine forS_inv (fun i ρ => ∃ (fs : List Dial) (a7 a9 a11 a12 a13 : Sl), ρ = [.val dn, .val (.int A), .val (.int B), .val (.int C), .val (.int (c / 2)), .val (.int M), .own L, a7, .own (rs.map rowD), a9, .own (fs.map dialD), a11, a12, a13, .un, .un, .un] ∧ fs.length = i ∧ (∀ (j : Nat) (f : Dial), fs[j]? = some f → f.1 = nameG p q pad (20 + (j : Int))) ∧ ∀ f ∈ fs, (Gp 150 f.2.1 ∧ Gd 150 f.2.2 ∧ PyData.strOk f.1 = true) ∧ (-5000 ≤ f.2.2.1 ∧ f.2.2.1 ≤ 5000) ∧ (-5000 ≤ f.2.2.2.1 ∧ f.2.2.2.1 ≤ 5000)) ⟨[], _, _, _, _, _, rfl, rfl, (fun j r h => by simp at h), fun _ h => nomatch h⟩ ?_ ?_
  · rintro i d _ ed ⟨fs, _, _, _, _, _, rfl, hfl, hj, hf⟩
    obtain ⟨hi, rfl⟩ := gR1 ed
    obtain ⟨K, hK⟩ : ∃ K : Int, (i : Int) = K := ⟨_, rfl⟩
    rw [hK]
    have hK0 : 0 ≤ K ∧ K < 12 := by omega
    have bK : Bd 10 K := by unfold Bd; omega
    have hsz : (fs.map dialD).length < sizeLine := by rw [List.length_map, sizeLine_eq]; omega
    have nx : ∀ (lo w : Int) (a7 a9 a11 a12 a13 : Sl), 0 ≤ lo → lo < 12 → 0 ≤ w → w < 5 → ∃ (fs' : List Dial) (b7 b9 b11 b12 b13 : Sl), ([.val dn, .val (.int A), .val (.int B), .val (.int C), .val (.int (c / 2)), .val (.int M), .own L, a7, .own (rs.map rowD), a9, .own (fs.map dialD ++ [.tup [.str (nameG p q pad (20 + K)), .tup [.tup [.int 0, .int (100 * K), .int 0], .tup [.int (4 * w + 1), .int 0, .int 0], .tup [.int 0, .int 4, .int 0]], .tup [.int (4 * (lo + w)), .int (100 * K + 2), .int 4]]]), a11, a12, a13, .un, .un, .un] : REnv) = [.val dn, .val (.int A), .val (.int B), .val (.int C), .val (.int (c / 2)), .val (.int M), .own L, b7, .own (rs.map rowD), b9, .own (fs'.map dialD), b11, b12, b13, .un, .un, .un] ∧ fs'.length = i + 1 ∧ (∀ (j : Nat) (f : Dial), fs'[j]? = some f → f.1 = nameG p q pad (20 + (j : Int))) ∧ ∀ f ∈ fs', (Gp 150 f.2.1 ∧ Gd 150 f.2.2 ∧ PyData.strOk f.1 = true) ∧ (-5000 ≤ f.2.2.1 ∧ f.2.2.1 ≤ 5000) ∧ (-5000 ≤ f.2.2.2.1 ∧ f.2.2.2.1 ≤ 5000) := fun lo w a7 a9 a11 a12 a13 h0 h1 h2 h3 => by
      refine ⟨fs ++ [(nameG p q pad (20 + K), ((0, 100 * K, 0), (4 * w + 1, 0, 0), (0, 4, 0)), (4 * (lo + w), 100 * K + 2, 4))], _, _, _, _, _, by rw [List.map_append]; rfl, by simp [hfl], get_app (P := fun (j : Nat) (f : Dial) => f.1 = nameG p q pad (20 + (j : Int))) hfl hj (by rw [hK]), fun f hf' => ?_⟩
      rcases List.mem_append.mp hf' with hf' | hf'
      · exact hf f hf'
      · rw [List.mem_singleton.mp hf']
        refine ⟨⟨⟨⟨?_, ?_, ?_⟩, ⟨?_, ?_, ?_⟩, ?_, ?_, ?_⟩, ⟨?_, ?_, ?_⟩, nameG_ok (by omega) (by omega) okp okq'⟩, ⟨?_, ?_⟩, ?_, ?_⟩ <;> first | (dsimp only; omega) | (refine Bd.mono (n := 20) ?_ (by decide); unfold Bd; dsimp only; omega)
    clear ed hj hf
    repeat' wtm_at "y_dy"
    refine (hw (20 + K) (by omega) (by omega)).no ?_
    rintro _ ⟨c2, rfl, hc2, _⟩
    have q1 := Int.emod_nonneg c2 (show M + 2 ≠ 0 by omega)
    have q2 := Int.emod_lt_of_pos c2 (show 0 < M + 2 by omega)
    obtain ⟨lo, hlo⟩ : ∃ lo, c2 % (M + 2) = lo := ⟨_, rfl⟩
    rw [hlo] at q1 q2
    have q3 := Int.emod_nonneg (c2 / 12) (show (5 : Int) ≠ 0 by decide)
    have q4 := Int.emod_lt_of_pos (c2 / 12) (show (0 : Int) < 5 by decide)
    obtain ⟨w, hw5⟩ : ∃ w, c2 / 12 % 5 = w := ⟨_, rfl⟩
    rw [hw5] at q3 q4
    have blo : Bd 10 lo := by unfold Bd; omega
    have bw : Bd 10 w := by unfold Bd; omega
    repeat' ((fail_if_success (with_reducible show Upd _ 11 _ _)); wtm_at "y_dy")
    rw [hlo]
    repeat' ((fail_if_success (with_reducible show Upd _ 12 _ _)); wtm_at "y_dy")
    rw [hw5]
    repeat' wtm_at "y_dy"
    refine hname (20 + K) (by omega) (by omega) ?_
    repeat' wtm_at "y_dy"
    exact nx lo w _ _ _ _ _ q1 (by omega) q3 q4
  rintro _ ⟨fs, _, _, _, _, _, rfl, hfl, hj, hf⟩
  rw [lR1] at hfl
  clear gR1 lR1
  have hnd : (fs.map (·.1)).Nodup := by
    rw [List.Nodup, List.pairwise_map, List.pairwise_iff_getElem]
    intro a b ha hb hab e
    have h1 := hj a _ (List.getElem?_eq_getElem ha)
    have h2 := hj b _ (List.getElem?_eq_getElem hb)
    rw [h1, h2] at e
    have := nameG_inj (by omega) (by omega) (by omega) (by omega) e
    omega
  have okF : okq 40 (.lst (fs.map dialD)) = true := okq_dials fun f h => (hf f h).1.2.2
  have fIx := fun {K : Int} => ix_map (f := dialD) (xs := fs) rfl (K := K)
  obtain ⟨Fl, hFl⟩ : ∃ Fl : Int, (fs.length : Int) = Fl := ⟨_, rfl⟩
  have flen : oLen [.lst (fs.map dialD)] = some (.int Fl) := by rw [len_map rfl, hFl]
  have Fe : (fs.map dialD).isEmpty = decide (Fl = 0) := by
    cases fs with
    | nil => rw [← hFl]; rfl
    | cons a b => rw [← hFl, List.length_cons]; symm; exact decide_eq_false (by omega)
  have atF : ∀ {K : Int}, 0 ≤ K → K < Fl → ∃ f ∈ fs, L2.atI (fs.map dialD) K = some (dialD f) := fun h0 h1 => fIx h0 (by omega)
  have fl0 : 0 ≤ Fl := by omega
  obtain ⟨F, hF⟩ : ∃ F, fs.map dialD = F := ⟨_, rfl⟩
  rw [hF] at okF flen Fe atF ⊢
  repeat' ((fail_if_success (with_reducible show Dy.Got (range1 _) _)); wtm_at "y_dy")
  rw [hN2]
  refine rg2 ?_
  refine forS_inv (fun i ρ => ∃ (ws : List Wall) (a7 a9 a11 a12 a13 a15 a16 : Sl), ρ = [.val dn, .val (.int A), .val (.int B), .val (.int C), .val (.int (c / 2)), .val (.int M), .own L, a7, .own (rs.map rowD), a9, .own F, a11, a12, a13, .own (ws.map wallD), a15, a16] ∧ ws.length = i ∧ (∀ (j : Nat) (f : Wall), ws[j]? = some f → f.1 = nameG p q pad (j : Int)) ∧ ∀ f ∈ ws, Gp 170 f.2 ∧ PyData.strOk f.1 = true) ⟨[], _, _, _, _, _, _, _, rfl, rfl, (fun j r h => by simp at h), fun _ h => nomatch h⟩ ?_ ?_
  · rintro i d _ ed ⟨ws, _, _, _, _, _, _, _, rfl, hwl, hjw, hww⟩
    obtain ⟨hi, rfl⟩ := gR2 ed
    obtain ⟨K, hK⟩ : ∃ K : Int, (i : Int) = K := ⟨_, rfl⟩
    rw [hK]
    have hK0 : 0 ≤ K ∧ K < 12 := by omega
    have hsz : (ws.map wallD).length < sizeLine := by rw [List.length_map, sizeLine_eq]; omega
    have nx : ∀ (t0 t1 w hg : Int) (a7 a9 a11 a12 a13 a15 a16 : Sl), (-5000 ≤ t0 ∧ t0 ≤ 5000) → (-5000 ≤ t1 ∧ t1 ≤ 5000) → 0 ≤ w → w < 4 → 0 ≤ hg → hg < 20 → ∃ (ws' : List Wall) (b7 b9 b11 b12 b13 b15 b16 : Sl), ([.val dn, .val (.int A), .val (.int B), .val (.int C), .val (.int (c / 2)), .val (.int M), .own L, a7, .own (rs.map rowD), a9, .own F, a11, a12, a13, .own (ws.map wallD ++ [.tup [.str (nameG p q pad K), .tup [.tup [.int (t0 - 3 * hg - 1), .int (t1 - 1), .int 1], .tup [.int (3 * w + 2), .int 0, .int 0], .tup [.int 0, .int 2, .int 0]]]]), a15, a16] : REnv) = [.val dn, .val (.int A), .val (.int B), .val (.int C), .val (.int (c / 2)), .val (.int M), .own L, b7, .own (rs.map rowD), b9, .own F, b11, b12, b13, .own (ws'.map wallD), b15, b16] ∧ ws'.length = i + 1 ∧ (∀ (j : Nat) (f : Wall), ws'[j]? = some f → f.1 = nameG p q pad (j : Int)) ∧ ∀ f ∈ ws', Gp 170 f.2 ∧ PyData.strOk f.1 = true := fun t0 t1 w hg a7 a9 a11 a12 a13 a15 a16 h0 h1 h2 h3 h4 h5 => by
      refine ⟨ws ++ [(nameG p q pad K, ((t0 - 3 * hg - 1, t1 - 1, 1), (3 * w + 2, 0, 0), (0, 2, 0)))], _, _, _, _, _, _, _, by rw [List.map_append]; rfl, by simp [hwl], get_app (P := fun (j : Nat) (f : Wall) => f.1 = nameG p q pad (j : Int)) hwl hjw (by rw [hK]), fun f hf' => ?_⟩
      rcases List.mem_append.mp hf' with hf' | hf'
      · exact hww f hf'
      · rw [List.mem_singleton.mp hf']
        refine ⟨⟨⟨?_, ?_, ?_⟩, ⟨?_, ?_, ?_⟩, ?_, ?_, ?_⟩, nameG_ok (by omega) (by omega) okp okq'⟩ <;> (refine Bd.mono (n := 20) ?_ (by decide); unfold Bd; dsimp only; omega)
    clear ed hjw hww hj
    repeat' wtm_at "y_dy"
    refine (hw (40 + K) (by omega) (by omega)).no ?_
    rintro _ ⟨c2, rfl, hc2, _⟩
    have q3 := Int.emod_nonneg (c2 / 144) (show (4 : Int) ≠ 0 by decide)
    have q4 := Int.emod_lt_of_pos (c2 / 144) (show (0 : Int) < 4 by decide)
    obtain ⟨w, hw5⟩ : ∃ w, c2 / 144 % 4 = w := ⟨_, rfl⟩
    rw [hw5] at q3 q4
    have q1 := Int.emod_nonneg (c2 / 12) (show M + 2 ≠ 0 by omega)
    have q2 := Int.emod_lt_of_pos (c2 / 12) (show 0 < M + 2 by omega)
    obtain ⟨hg, hhg⟩ : ∃ hg, c2 / 12 % (M + 2) = hg := ⟨_, rfl⟩
    rw [hhg] at q1 q2
    have bhg : Bd 10 (hg + w) := by unfold Bd; omega
    have bw : Bd 10 w := by unfold Bd; omega
    repeat' ((fail_if_success (with_reducible show Dy.Got (oNe _ _) _)); wtm_at "y_dy")
    refine w_neNil okF ?_
    rw [Fe]
    repeat' ((fail_if_success (with_reducible show Fork _ _ _)); wtm_at "y_dy")
    refine k_any (fun hz => ?_) fun hz => ?_
    · have Fp : 0 < Fl := by
        have : ¬ Fl = 0 := by simpa using hz
        omega
      obtain ⟨f, hfm, eF⟩ := atF (K := c2 % Fl) (Int.emod_nonneg _ (by omega)) (Int.emod_lt_of_pos _ (by omega))
      obtain ⟨fn, fp, t0, t1, t2⟩ := f
      obtain ⟨_, ht0, ht1⟩ := hf _ hfm
      dsimp only at ht0 ht1
      repeat' ((fail_if_success (with_reducible show Dy.Got (oLen _) _)); wtm_at "y_dy")
      refine g_ot flen (sc_int ?_)
      repeat' ((fail_if_success (with_reducible show Dy.Got (L2.atI _ _) _)); wtm_at "y_dy")
      refine g_ot eF ?_
      repeat' ((fail_if_success (with_reducible show Upd _ 12 _ _)); wtm_at "y_dy")
      rw [hw5]
      repeat' ((fail_if_success (with_reducible show Upd _ 16 _ _)); wtm_at "y_dy")
      rw [hhg]
      repeat' wtm_at "y_dy"
      refine hname K (by omega) (by omega) ?_
      repeat' wtm_at "y_dy"
      exact nx t0 t1 w (hg + w) _ _ _ _ _ _ _ ht0 ht1 q3 q4 (by omega) (by omega)
    · repeat' ((fail_if_success (with_reducible show Upd _ 12 _ _)); wtm_at "y_dy")
      rw [hw5]
      repeat' ((fail_if_success (with_reducible show Upd _ 16 _ _)); wtm_at "y_dy")
      rw [hhg]
      repeat' wtm_at "y_dy"
      refine hname K (by omega) (by omega) ?_
      repeat' wtm_at "y_dy"
      exact nx 50 (-50) w (hg + w) _ _ _ _ _ _ _ (by omega) (by omega) q3 q4 (by omega) (by omega)
  · rintro _ ⟨ws, _, _, _, _, _, _, _, rfl, hwl, hjw, hww⟩
    rw [lR2] at hwl
    have hndw : (ws.map (·.1)).Nodup := by
      rw [List.Nodup, List.pairwise_map, List.pairwise_iff_getElem]
      intro a b ha hb hab e
      have h1 := hjw a _ (List.getElem?_eq_getElem ha)
      have h2 := hjw b _ (List.getElem?_eq_getElem hb)
      rw [h1, h2] at e
      have := nameG_inj (by omega) (by omega) (by omega) (by omega) e
      omega
    repeat' wtm_at "y_dy"
    rw [← hF]
    exact ⟨rs, ws, fs, rfl, ⟨hr1, by omega, by omega⟩, hS, hG, hww, fun f h => (hf f h).1, hnd, hndw, by omega, by omega, by omega⟩
theorem sp_either (ns : List Int) {A B C : Int} (hA0 : 0 ≤ A) (hA1 : A ≤ 7) (hB0 : 0 ≤ B) (hB1 : B ≤ 5) (hC0 : 1 ≤ C) (hC1 : C ≤ 9) : (f__law_either [.lst (ns.map .int), .int A, .int B, .int C]).wp (fun d => ∃ rs ws fs, d = yardD rs ws fs ∧ 1 ≤ rs.length ∧ YG rs ws fs ∧ ws.length ≤ 9 ∧ fs.length ≤ 9) NoE := by
  have cell := sp_wcell ns 0 (by decide) (by decide)
  have flat := (sp_flat ns hA0 hA1 hB0 hB1 hC0 hC1)
  have yard := (sp_yardG ns hA0 hA1 hB0 hB1 hC0 hC1)
  obtain ⟨dn, hdn⟩ : ∃ dn, D.lst (ns.map .int) = dn := ⟨_, rfl⟩
  rw [hdn] at cell flat yard ⊢
  wtm_at "y_in"
  repeat' wtm_at "y_dy"
  refine cell.no ?_
  rintro _ ⟨c, rfl⟩
  repeat' wtm_at "y_dy"
  · refine flat.no ?_
    rintro _ ⟨rs, ws, fs, rfl, h, y⟩
    exact ⟨rs, ws, fs, rfl, h.1, y, by omega, by omega⟩
  · refine yard.no ?_
    rintro _ ⟨rs, ws, fs, rfl, h⟩
    exact ⟨rs, ws, fs, rfl, h.1.1, YG.mk0 h, h.1.2.2.1, h.1.2.2.2⟩

/-! ### the fewest dials, the fewest walls -/
def optI : Option Int → D
  | none => .non
  | some h => .int h
theorem find_at {α : Type} {p : α → Bool} {hs : List α} {i : Nat} {h : α} (e : hs[i]? = some h) (hp : p h = true) (hb : ∀ x ∈ hs.take i, p x = false) : hs.find? p = some h := by
  rw [List.find?_eq_some_iff_append]
  obtain ⟨hi, e2⟩ := List.getElem?_eq_some_iff.mp e
  refine ⟨hp, hs.take i, hs.drop (i + 1), ?_, fun a ha => by rw [hb a ha]; rfl⟩
  rw [← e2, ← List.drop_eq_getElem_cons hi, List.take_append_drop]
theorem find_no {α : Type} {p : α → Bool} {hs : List α} (hb : ∀ x ∈ hs, p x = false) : hs.find? p = none := List.find?_eq_none.mpr fun x hx => by rw [hb x hx]; decide
theorem take_more {α : Type} {q : α → Prop} {xs : List α} {i : Nat} {x : α} (e : xs[i]? = some x) (h : ∀ y ∈ xs.take i, q y) (hx : q x) : ∀ y ∈ xs.take (i + 1), q y := fun y hy => by
  rw [List.take_add_one, e] at hy
  rcases List.mem_append.mp hy with hy | hy
  · exact h y hy
  · rw [List.mem_singleton.mp hy]; exact hx
def unkn (rs : List Row) (h : Int) : Bool := (rs.find? (fun r => decide (r.1 = h))).isNone
def bad1 (rs : List Row) (hs : List Int) : Option Int := hs.find? (unkn rs)
theorem sp_lookhrs {rs : List Row} {Y : D} (y0 : oIx Y (.int 0) = some (.lst (rs.map rowD))) {hs : List Int} {P E : D → Prop} (h1 : bad1 rs hs = none → P .non) (h2 : ∀ h, bad1 rs hs = some h → E (.exc "NoHour" ["hour"] [.int h])) : (f_look_at_hours [Y, .lst (hs.map .int)]).wp P E := by
  obtain ⟨HD, hHD⟩ : ∃ HD, D.lst (hs.map D.int) = HD := ⟨_, rfl⟩
  have ih : iterD HD = some (hs.map D.int) := by rw [← hHD]; rfl
  rw [hHD]
  wtm_at "y_in"
  repeat' ((fail_if_success (with_reducible show Dy.Got (iterD _) _)); wtm_at "y_dy")
  refine g_ot ih ?_
  refine forS_inv (fun i ρ => (∃ a : Sl, ρ = [.val Y, .val HD, a]) ∧ ∀ h ∈ hs.take i, unkn rs h = false) ⟨⟨_, rfl⟩, by simp⟩ ?_ ?_
  · rintro i d _ ed ⟨⟨_, rfl⟩, hg⟩
    rw [List.getElem?_map, Option.map_eq_some_iff] at ed
    obtain ⟨h, eh, rfl⟩ := ed
    repeat' ((fail_if_success (with_reducible show Dy.Got (oIx Y _) _)); wtm_at "y_dy")
    refine g_ot y0 ?_
    repeat' wtm_at "y_dy"
    refine sp_direction_at (fun r hr => ?_) fun hn => ?_
    · exact ⟨⟨_, rfl⟩, take_more eh hg (by unfold unkn; rw [hr]; rfl)⟩
    · exact h2 h (find_at eh (by unfold unkn; rw [hn]; rfl) hg)
  · rintro _ ⟨⟨_, rfl⟩, hg⟩
    rw [List.length_map, List.take_length] at hg
    exact h1 (find_no hg)
theorem inN (i : Nat) (S : List Nat) : oInX (.int (i : Int)) (nD S) = some (.bl (decide (i ∈ S))) := by
  have e : (S.map fun i : Nat => D.int (i : Int)).all flatD = true := by
    rw [List.all_eq_true]
    intro d hd
    obtain ⟨r, _, rfl⟩ := List.mem_map.mp hd
    rfl
  have e2 : oInF (.int (i : Int)) (nD S) = some (.bl (decide (i ∈ S))) := by
    show (if flatD (.int (i : Int)) = true ∧ (S.map fun i : Nat => D.int (i : Int)).all flatD = true then some (D.bl ((S.map fun i : Nat => D.int (i : Int)).any fun y => eqF y (.int (i : Int)))) else none) = _
    rw [if_pos ⟨rfl, e⟩, List.any_map]
    congr 2
    rw [Bool.eq_iff_iff, List.any_eq_true, decide_eq_true_iff]
    constructor
    · rintro ⟨x, hx, h⟩
      have h : (decide ((x : Int) = (i : Int))) = true ∨ ((x : Int) == (i : Int)) = true := by
        first
          | exact .inl h
          | exact .inr h
      have : x = i := by
        rcases h with h | h
        · have := of_decide_eq_true h
          omega
        · have := eq_of_beq h
          omega
      rw [← this]
      exact hx
    · intro h
      refine ⟨i, h, ?_⟩
      first
        | exact decide_eq_true rfl
        | exact beq_self_eq_true _
  unfold oInX
  rw [e2]
  rfl
def rowB (fu : List Nat → Option Int) (S : List Nat) : D := .tup [nD S, optI (fu S)]
def goB (fu : List Nat → Option Int) (nm : List Nat → D) (w1 w2 : Str) (n : Nat) : List Nat → List (List Nat) → D
  | [], _ => .tup [.str w2, .non]
  | m :: ms, pp => match (combos n m).find? (fun S => (fu S).isNone) with
    | some S => .tup [.str w1, nm S, .lst (pp.map (rowB fu))]
    | none => goB fu nm w1 w2 n ms (combos n m)
def bestB (fu : List Nat → Option Int) (nm : List Nat → D) (w1 w2 : Str) (n : Nat) : D := match fu (List.range n) with
  | some h => .tup [.str w2, .int h]
  | none => goB fu nm w1 w2 n (List.range (n + 1)) []
def nmD (nms : Nat → Str) (S : List Nat) : D := .lst (S.map fun i => .str (nms i))
def DK (red : Int → List Nat) (hs : List Int) : Option Int := hs.find? fun h => (red h).isEmpty
theorem sp_dark {Y : D} {red : Int → List Nat} {hs : List Int} (rdr : ∀ h ∈ hs, (f_readers [Y, .int h]).wp (fun v => v = nD (red h)) NoE) {P : D → Prop} (hP : P (optI (DK red hs))) : (f_first_dark [Y, .lst (hs.map .int)]).wp P NoE := by
  obtain ⟨HD, hHD⟩ : ∃ HD, D.lst (hs.map D.int) = HD := ⟨_, rfl⟩
  have ih : iterD HD = some (hs.map D.int) := by rw [← hHD]; rfl
  rw [hHD]
  wtm_at "y_in"
  repeat' ((fail_if_success (with_reducible show Dy.Got (iterD _) _)); wtm_at "y_dy")
  refine g_ot ih ?_
  refine forS_inv (fun i ρ => (∃ a : Sl, ρ = [.val Y, .val HD, a]) ∧ ∀ h ∈ hs.take i, (red h).isEmpty = false) ⟨⟨_, rfl⟩, by simp⟩ ?_ ?_
  · rintro i d _ ed ⟨⟨_, rfl⟩, hg⟩
    rw [List.getElem?_map, Option.map_eq_some_iff] at ed
    obtain ⟨h, eh, rfl⟩ := ed
    repeat' wtm_at "y_dy"
    refine (rdr h (List.mem_of_getElem? eh)).no ?_
    rintro _ rfl
    repeat' ((fail_if_success (with_reducible show Dy.Got (oEq _ _) _)); wtm_at "y_dy")
    refine w_eqNil (okq_nat _) ?_
    rw [List.isEmpty_map]
    refine ex_bl (k_any (fun hk => ?_) fun hk => ?_)
    · repeat' wtm_at "y_dy"
      have : DK red hs = some h := find_at eh hk hg
      rw [this] at hP
      exact hP
    · repeat' wtm_at "y_dy"
      exact ⟨⟨_, rfl⟩, take_more eh hg hk⟩
  · rintro _ ⟨⟨_, rfl⟩, hg⟩
    rw [List.length_map, List.take_length] at hg
    repeat' wtm_at "y_dy"
    have : DK red hs = none := find_no hg
    rw [this] at hP
    exact hP
def wkeep (ws : List Wall) (S : List Nat) : List Wall := (ws.zipIdx.filter fun p => !decide (p.2 ∈ S)).map (·.1)
theorem wkeep_mem {ws : List Wall} {S : List Nat} {w : Wall} (h : w ∈ wkeep ws S) : w ∈ ws := by
  obtain ⟨p, hp, rfl⟩ := List.mem_map.mp h
  have := (List.mem_filter.mp hp).1
  exact (List.mem_zipIdx' this).2 ▸ List.getElem_mem _
theorem wkeep_len (ws : List Wall) (S : List Nat) : (wkeep ws S).length ≤ ws.length := by
  unfold wkeep
  rw [List.length_map]
  refine Nat.le_trans (List.length_filter_le _ _) ?_
  rw [List.length_zipIdx]
  exact Nat.le_refl _
theorem wkeep_sub (ws : List Wall) (S : List Nat) : ((wkeep ws S).map (·.1)).Sublist (ws.map (·.1)) := by
  refine List.Sublist.map _ ?_
  unfold wkeep
  have h := (List.filter_sublist (l := ws.zipIdx) (p := fun p => !decide (p.2 ∈ S))).map (fun p : Wall × Nat => p.1)
  have e : ws.zipIdx.map (fun p => p.1) = ws := List.zipIdx_map_fst 0 ws
  rw [e] at h
  exact h
theorem YG.keep {rs : List Row} {ws : List Wall} {fs : List Dial} (y : YG rs ws fs) (S : List Nat) : YG rs (wkeep ws S) fs :=
  ⟨y.sun, y.gr, fun w hw => y.gw w (wkeep_mem hw), y.gf, y.nd, (wkeep_sub ws S).nodup y.nw, y.lr, Nat.le_trans (wkeep_len ws S) y.lw, y.lf⟩
theorem enum_zip {α : Type} (g : α → D) (xs : List α) : enumD (xs.map g) = xs.zipIdx.map fun p => .tup [.int (p.2 : Int), g p.1] := by
  unfold enumD
  refine List.ext_getElem? fun i => ?_
  rw [List.getElem?_map, List.getElem?_map, List.getElem?_zipIdx, List.length_map]
  by_cases h : i < xs.length
  · rw [List.getElem?_range h, List.getElem?_eq_getElem h]
    simp only [Option.map_some, Nat.zero_add]
    rw [getD_map (List.getElem?_eq_getElem h)]
  · rw [List.getElem?_eq_none (by rw [List.length_range]; omega), List.getElem?_eq_none (by omega)]
    rfl
theorem ninN (i : Nat) (S : List Nat) : oNinX (.int (i : Int)) (nD S) = some (.bl (!decide (i ∈ S))) := by
  have e := inN i S
  have e1 : oInX (.int (i : Int)) (nD S) = oInF (.int (i : Int)) (nD S) := by
    unfold oInX
    cases oInF (.int (i : Int)) (nD S) <;> rfl
  rw [e1] at e
  unfold oInF at e
  have e2 : oNinF (.int (i : Int)) (nD S) = some (.bl (!decide (i ∈ S))) := by
    unfold nD at e ⊢
    unfold oNinF
    simp only at e ⊢
    split at e
    · rename_i h
      rw [if_pos h]
      rw [Option.some.injEq, D.bl.injEq] at e
      rw [e]
    · cases e
  unfold oNinX
  rw [e2]
  rfl
theorem sp_without {rs : List Row} {ws : List Wall} {fs : List Dial} {S : List Nat} (lw : ws.length ≤ 20) {P : D → Prop} (hP : P (yardD rs (wkeep ws S) fs)) : (f_without_walls [yardD rs ws fs, nD S]).wp P NoE := by
  have ez := enum_zip wallD ws
  have fit : (ws.zipIdx.map fun p => (D.tup [.int (p.2 : Int), wallD p.1])).length ≤ sizeLine := by
    rw [List.length_map, List.length_zipIdx, sizeLine_eq]
    omega
  have ins : ∀ i : Nat, oNinX (.int (i : Int)) (nD S) = some (.bl (!decide (i ∈ S))) := fun i => ninN i S
  obtain ⟨Y, hY⟩ : ∃ Y, yardD rs ws fs = Y := ⟨_, rfl⟩
  have y0 : oIx Y (.int 0) = some (.lst (rs.map rowD)) := by rw [← hY]; rfl
  have y1 : oIx Y (.int 1) = some (.lst (ws.map wallD)) := by rw [← hY]; rfl
  have y2 : oIx Y (.int 2) = some (.lst (fs.map dialD)) := by rw [← hY]; rfl
  obtain ⟨SD, hSD⟩ : ∃ SD, nD S = SD := ⟨_, rfl⟩
  have e1 : enum1 [.lst (ws.map wallD)] = some (ws.zipIdx.map fun p => .tup [.int (p.2 : Int), wallD p.1]) := by
    show some (enumD (ws.map wallD)) = _
    rw [ez]
  rw [hSD] at ins
  rw [hY, hSD]
  wtm_at "y_in"
  repeat' ((fail_if_success (with_reducible show Dy.Got (oIx Y _) _)); wtm_at "y_dy")
  refine g_ot y0 ?_
  repeat' ((fail_if_success (with_reducible show Dy.Got (oIx Y _) _)); wtm_at "y_dy")
  refine g_ot y1 ?_
  refine g_ot e1 ⟨fit, ?_⟩
  repeat' ((fail_if_success (with_reducible show Dy.Got (compS _ _ _ _ _) _)); wtm_at "y_dy")
  refine c_listG (f := fun p : Wall × Nat => D.tup [.int (p.2 : Int), wallD p.1]) (g := fun p => wallD p.1) (keep := fun p => !decide (p.2 ∈ S)) (fun p hp => ?_) ?_
  · repeat' ((fail_if_success (with_reducible show Dy.Got (oNinX _ _) _)); wtm_at "y_dy")
    refine g_ot (ins p.2) ?_
    repeat' wtm_at "y_dy"
    refine ⟨rfl, fun _ => ?_⟩
    repeat' wtm_at "y_dy"
    rfl
  repeat' ((fail_if_success (with_reducible show Dy.Got (oIx Y _) _)); wtm_at "y_dy")
  refine g_ot y2 ?_
  repeat' wtm_at "y_dy"
  have hP : P (D.tup [.lst (rs.map rowD), .lst (((ws.zipIdx.filter fun p => !decide (p.2 ∈ S)).map (·.1)).map wallD), .lst (fs.map dialD)]) := hP
  rw [List.map_map] at hP
  exact hP
noncomputable def redW (rs : List Row) (ws : List Wall) (fs : List Dial) (S : List Nat) (h : Int) : List Nat := match rs.find? (fun r => decide (r.1 = h)) with
  | some r => redN (wkeep ws S) fs r.2
  | none => []
noncomputable def fuG (rs : List Row) (ws : List Wall) (fs : List Dial) (hs : List Int) (S : List Nat) : Option Int := DK (redW rs ws fs S) hs
def wnm (ws : List Wall) (i : Nat) : Str := match ws[i]? with
  | some w => w.1
  | none => ""
set_option maxHeartbeats 2000000 in
theorem sp_gone {rs : List Row} {ws : List Wall} {fs : List Dial} (y : YG rs ws fs) (hn : ws.length ≤ 10) {hs : List Int} (hl : hs.length ≤ 1000) {P E : D → Prop}
    (h1 : bad1 rs hs = none → P (bestB (fuG rs ws fs hs) (nmD (wnm ws)) "walls" "never" ws.length)) (h2 : ∀ h, bad1 rs hs = some h → E (.exc "NoHour" ["hour"] [.int h])) : (f_fewest_gone [yardD rs ws fs, .lst (hs.map .int)]).wp P E := by
  have looked := fun {P E : D → Prop} => sp_lookhrs (Y := yardD rs ws fs) (rs := rs) rfl (hs := hs) (P := P) (E := E)
  have without := fun (S : List Nat) => fun {P : D → Prop} => sp_without (rs := rs) (ws := ws) (fs := fs) (S := S) y.lw (P := P)
  have dark : bad1 rs hs = none → ∀ (S : List Nat), (f_first_dark [yardD rs (wkeep ws S) fs, .lst (hs.map .int)]).wp (fun d => d = optI (fuG rs ws fs hs S)) NoE := fun hb S => by
    refine sp_dark (red := redW rs ws fs S) (fun h hh => ?_) rfl
    have hu : unkn rs h = false := by
      have := List.find?_eq_none.mp hb h hh
      simpa using this
    unfold unkn at hu
    unfold redW
    cases q : rs.find? (fun r => decide (r.1 = h)) with
    | none => rw [q] at hu; cases hu
    | some r => exact sp_readers (y.keep S) q rfl
  obtain ⟨TD, hTD⟩ : ∃ TD, D.lst (ws.map wallD) = TD := ⟨_, rfl⟩
  obtain ⟨n, hnn⟩ : ∃ n, ws.length = n := ⟨_, rfl⟩
  obtain ⟨N, eQ⟩ : ∃ N : Int, (n : Int) = N := ⟨_, rfl⟩
  have tl : oLen [TD] = some (.int N) := by rw [len_map hTD, hnn, eQ]
  have tix : ∀ i < n, ∃ x, oIx TD (.int (i : Int)) = some x ∧ oIx x (.int 0) = some (.str (wnm ws i)) := fun i hi => by
    have hi : i < ws.length := by omega
    have ei : ws[i]? = some ws[i] := List.getElem?_eq_getElem hi
    refine ⟨wallD ws[i], ?_, ?_⟩
    · rw [← hTD]
      show L2.atI (ws.map wallD) (i : Int) = _
      exact atI_nat (by rw [List.getElem?_map, ei]; rfl)
    · unfold wnm
      rw [ei]
      rfl
  have y1 : oIx (yardD rs ws fs) (.int 1) = some TD := by rw [← hTD]; rfl
  rw [hnn] at hn h1
  obtain ⟨YW, hYW⟩ : ∃ YW : List Nat → D, (fun S => yardD rs (wkeep ws S) fs) = YW := ⟨_, rfl⟩
  have hYW' : ∀ S, yardD rs (wkeep ws S) fs = YW S := fun S => congrFun hYW S
  obtain ⟨HD, hHD⟩ : ∃ HD, D.lst (hs.map D.int) = HD := ⟨_, rfl⟩
  obtain ⟨Y, hY⟩ : ∃ Y, yardD rs ws fs = Y := ⟨_, rfl⟩
  obtain ⟨fu, hfu⟩ : ∃ fu, fuG rs ws fs hs = fu := ⟨_, rfl⟩
  obtain ⟨nms, hnms⟩ : ∃ nms, wnm ws = nms := ⟨_, rfl⟩
  simp only [hYW', hHD, hY, hfu, hnms] at looked without dark tix y1 h1 ⊢
  clear hYW' hYW hfu hnms hY hHD hTD
  wtm_at "y_in"
  repeat' wtm_at "y_dy"
  refine looked (fun hb => ?_) fun h hb => h2 h hb
  have h1 := h1 hb
  have dark := dark hb
  have hrg : D.lst (rangeD 0 N.toNat) = nD (List.range n) := by
    rw [← eQ, Int.toNat_natCast]
    unfold rangeD nD
    congr 1
    exact List.map_congr_left fun i _ => by rw [Int.zero_add]
  repeat' ((fail_if_success (with_reducible show Dy.Got (oIx Y _) _)); first | wtm_at "y_dy" | wtm_at "y_fn")
  refine g_ot y1 ?_
  repeat' ((fail_if_success (with_reducible show Dy.Got (oLen _) _)); first | wtm_at "y_dy" | wtm_at "y_fn")
  refine g_ot tl ⟨N, rfl, ⟨by omega, by omega⟩, ?_⟩
  rw [hrg]
  repeat' wtm_at "y_dy"
  refine (without (List.range n) (P := fun d => d = YW (List.range n)) rfl).no ?_
  rintro _ rfl
  repeat' wtm_at "y_dy"
  refine (dark (List.range n)).no ?_
  rintro _ rfl
  unfold bestB at h1
  cases q : fu (List.range n) with
  | some h =>
    rw [q] at h1
    repeat' wtm_at "y_dy"
    exact h1
  | none =>
  rw [q] at h1
  obtain ⟨G0, hG0⟩ : ∃ G0, goB fu (nmD nms) "walls" "never" n (List.range (n + 1)) [] = G0 := ⟨_, rfl⟩
  have h1 : P G0 := by
    rw [← hG0]
    exact h1
  obtain ⟨RM, hRM⟩ : ∃ RM, rangeD 0 (n + 1) = RM := ⟨_, rfl⟩
  have rg1 : ∀ {P : List D → Prop}, P RM → Got (range1 [.int (N + 1)]) P := fun h => by
    rw [← eQ]
    exact w_range1 (by constructor <;> omega) (by rw [show ((n : Int) + 1).toNat = n + 1 by omega, hRM]; exact h)
  have lRM : RM.length = n + 1 := by rw [← hRM]; exact rangeD_len 0 (n + 1)
  have gRM : ∀ {i : Nat} {d : D}, RM[i]? = some d → i < n + 1 ∧ d = .int (i : Int) := fun {i d} e => by
    rw [← hRM] at e
    obtain ⟨h, hi⟩ := rangeD_get e
    exact ⟨hi, by rw [h, Int.zero_add]⟩
  repeat' ((fail_if_success (with_reducible show Dy.Got (oIx Y _) _)); first | wtm_at "y_dy" | wtm_at "y_fn")
  refine g_ot y1 ?_
  repeat' ((fail_if_success (with_reducible show Dy.Got (oLen _) _)); first | wtm_at "y_dy" | wtm_at "y_fn")
  refine g_ot tl ?_
  repeat' ((fail_if_success (with_reducible show Dy.Got (range1 _) _)); first | wtm_at "y_dy" | wtm_at "y_fn")
  refine rg1 ?_
  refine forS_inv (fun i ρ => ∃ (pp : List (List Nat)) (a b c d e : Sl), ρ = [.val Y, .val HD, .val .non, .val (.lst (pp.map (rowB fu))), a, b, c, d, e] ∧ goB fu (nmD nms) "walls" "never" n ((List.range (n + 1)).drop i) pp = G0) ⟨[], _, _, _, _, _, rfl, by rw [List.drop_zero]; exact hG0⟩ ?_ ?_
  · rintro i d _ ed ⟨pp, _, _, _, _, _, rfl, hgo⟩
    obtain ⟨hi, rfl⟩ := gRM ed
    rw [List.drop_eq_getElem_cons (by rw [List.length_range]; exact hi), List.getElem_range] at hgo
    unfold goB at hgo
    rw [← hgo] at h1
    obtain ⟨c1, c2⟩ := combos_ok n (by omega) i (by omega)
    obtain ⟨K, hK⟩ : ∃ K : Int, (i : Int) = K := ⟨_, rfl⟩
    have lists := fun {P : D → Prop} => sp_lists (m := i) (n := n) (M := K) (N := N) hK eQ (by omega) hn (P := P)
    have hgo' : ∀ (h : (combos n i).find? (fun S => (fu S).isNone) = none), goB fu (nmD nms) "walls" "never" n ((List.range (n + 1)).drop (i + 1)) (combos n i) = G0 := fun h => by
      rw [h] at hgo
      exact hgo
    generalize hcs : combos n i = cs at *
    rw [hK]
    repeat' ((fail_if_success (with_reducible show Dy.Got (oIx Y _) _)); first | wtm_at "y_dy" | wtm_at "y_fn")
    refine g_ot y1 ?_
    repeat' ((fail_if_success (with_reducible show Dy.Got (oLen _) _)); first | wtm_at "y_dy" | wtm_at "y_fn")
    refine g_ot tl ?_
    repeat' ((fail_if_success (with_reducible show R.wp (f_lists_of _) _ _)); first | wtm_at "y_dy" | wtm_at "y_fn")
    refine (lists (P := fun d => d = .lst (cs.map nD)) rfl).no ?_
    rintro _ rfl
    repeat' ((fail_if_success (with_reducible show SR.wp (forS _ _ _ _) _ _ _)); wtm_at "y_dy")
    refine forS_inv (fun j ρ => (∃ (a d e : Sl), ρ = [.val Y, .val HD, .val .non, .val (.lst (pp.map (rowB fu))), .val (.int K), .own ((cs.take j).map (rowB fu)), a, d, e]) ∧ ∀ S ∈ cs.take j, (fu S).isNone = false) ⟨⟨_, _, _, rfl⟩, by simp⟩ ?_ ?_
    · rintro j _ _ ed ⟨⟨_, _, _, rfl⟩, hg⟩
      rw [List.getElem?_map, Option.map_eq_some_iff] at ed
      obtain ⟨S, eS, rfl⟩ := ed
      have mS := List.mem_of_getElem? eS
      have lj := (List.getElem?_eq_some_iff.mp eS).1
      obtain ⟨lS, bS⟩ := c2 S mS
      have hsz : ((cs.take j).map (rowB fu)).length < sizeLine := by rw [List.length_map, List.length_take, sizeLine_eq]; omega
      have tk : (cs.take (j + 1)).map (rowB fu) = (cs.take j).map (rowB fu) ++ [rowB fu S] := by
        rw [List.take_add_one, eS, List.map_append]
        rfl
      have wo1 := fun {P : D → Prop} => without S (P := P)
      have fu1 := dark S
      have itS : iterD (nD S) = some (S.map fun i : Nat => D.int (i : Int)) := rfl
      have fitS : (S.map fun i : Nat => D.int (i : Int)).length ≤ sizeLine := by rw [List.length_map, sizeLine_eq]; omega
      have row1 : rowB fu S = .tup [nD S, optI (fu S)] := rfl
      have nmS : nmD nms S = .lst (S.map fun i => .str (nms i)) := rfl
      obtain ⟨SD, hSD⟩ : ∃ SD, nD S = SD := ⟨_, rfl⟩
      rw [tk, row1]
      obtain ⟨YS, hYS⟩ : ∃ YS, YW S = YS := ⟨_, rfl⟩
      rw [hSD] at wo1 itS ⊢
      rw [hYS] at wo1 fu1
      generalize (cs.take j).map (rowB fu) = acc at hsz ⊢
      repeat' ((fail_if_success (with_reducible show R.wp (f_without_walls _) _ _)); first | wtm_at "y_dy" | wtm_at "y_fn")
      refine (wo1 (P := fun d => d = YS) rfl).no ?_
      rintro _ rfl
      repeat' wtm_at "y_dy"
      refine fu1.no ?_
      rintro _ rfl
      cases qS : fu S with
      | none =>
        have fd : cs.find? (fun S => (fu S).isNone) = some S := find_at eS (by rw [qS]; rfl) hg
        rw [fd] at h1
        have h1 : P (.tup [.str "walls", nmD nms S, .lst (pp.map (rowB fu))]) := h1
        rw [nmS] at h1
        repeat' ((fail_if_success (with_reducible show Dy.Got (iterD _) _)); first | wtm_at "y_dy" | wtm_at "y_fn")
        refine g_ot itS ⟨fitS, ?_⟩
        repeat' ((fail_if_success (with_reducible show Dy.Got (compS _ _ _ _ _) _)); wtm_at "y_dy")
        refine c_mapG (f := fun i : Nat => D.int (i : Int)) (g := fun i : Nat => D.str (nms i)) (fun x hx => ?_) ?_
        · obtain ⟨z, e1, e2⟩ := tix x (bS x hx)
          repeat' ((fail_if_success (with_reducible show Dy.Got (oIx _ _) _)); wtm_at "y_dy")
          refine g_ot y1 ?_
          repeat' ((fail_if_success (with_reducible show Dy.Got (oIx _ _) _)); wtm_at "y_dy")
          refine g_ot e1 ?_
          repeat' ((fail_if_success (with_reducible show Dy.Got (oIx _ _) _)); wtm_at "y_dy")
          exact g_ot e2 rfl
        repeat' wtm_at "y_dy"
        exact h1
      | some hS =>
        repeat' wtm_at "y_dy"
        exact ⟨⟨_, _, _, rfl⟩, take_more eS hg (by rw [qS]; rfl)⟩
    · rintro _ ⟨⟨_, _, _, rfl⟩, hg⟩
      rw [List.length_map, List.take_length] at hg ⊢
      repeat' wtm_at "y_dy"
      exact ⟨cs, _, _, _, _, _, rfl, hgo' (find_no hg)⟩
  · rintro _ ⟨pp, _, _, _, _, _, rfl, hgo⟩
    rw [lRM, List.drop_eq_nil_of_le (by rw [List.length_range]; exact Nat.le_refl _)] at hgo
    unfold goB at hgo
    rw [← hgo] at h1
    repeat' wtm_at "y_dy"
    exact h1

/-! ### what is read, told by numbers -/
theorem redN_emp (ws : List Wall) (fs : List Dial) (d : Tr) : (redN ws fs d).isEmpty = (fs.filter (readF ws fs d)).isEmpty := by
  rw [Bool.eq_iff_iff, List.isEmpty_iff, List.isEmpty_iff]
  unfold redN
  rw [List.filter_eq_nil_iff, List.filter_eq_nil_iff]
  constructor
  · intro h f hf
    obtain ⟨i, hi⟩ := List.getElem?_of_mem hf
    have hl := (List.getElem?_eq_some_iff.mp hi).1
    have := h i (List.mem_range.mpr hl)
    rw [hi] at this
    exact this
  · intro h i hi
    have hi := List.mem_range.mp hi
    rw [List.getElem?_eq_getElem hi]
    exact h _ (List.getElem_mem hi)
/-! #### the lists of numbers -/
def adjB : List (List Nat) → Bool
  | a :: b :: r => decide (a.map (fun i : Nat => (i : Int)) < b.map (fun i : Nat => (i : Int))) && adjB (b :: r)
  | _ => true
theorem combos_adj : ∀ n : Nat, n < 11 → ∀ m : Nat, m < 11 → adjB (combos n m) = true := by decide +kernel
def cI (S : List Nat) : List Int := S.map fun i : Nat => (i : Int)
theorem adj_lt : ∀ {L : List (List Nat)}, adjB L = true → L.Pairwise fun a b => cI a < cI b
  | [], _ => .nil
  | [a], _ => List.pairwise_singleton _ _
  | a :: b :: r, h => by
    unfold adjB at h
    rw [Bool.and_eq_true] at h
    have h1 : cI a < cI b := of_decide_eq_true h.1
    have ih := adj_lt h.2
    refine List.pairwise_cons.mpr ⟨fun c hc => ?_, ih⟩
    rcases List.mem_cons.mp hc with rfl | hc
    · exact h1
    · exact List.lt_trans h1 ((List.pairwise_cons.mp ih).1 c hc)
theorem nD_rw (S : List Nat) : nD S = rwD (cI S) := by
  unfold nD rwD cI
  rw [List.map_map]
  rfl
theorem goB_best {fu : List Nat → Option Int} {nm : List Nat → D} {w1 w2 : Str} {n : Nat} (hn : n < 11) (h : fu (List.range n) = none) : ∀ (k m : Nat) (pp : List (List Nat)), m + k = n + 1 → (pp = match m with | 0 => [] | m' + 1 => combos n m') → (∀ S ∈ pp, (fu S).isNone = false) →
    ∃ (j : Nat) (S : List Nat) (qq : List (List Nat)), j < 11 ∧ j ≤ n ∧ S ∈ combos n j ∧ fu S = none ∧ (qq = match j with | 0 => [] | j' + 1 => combos n j') ∧ (∀ S ∈ qq, (fu S).isNone = false) ∧ goB fu nm w1 w2 n (List.range' m k) pp = .tup [.str w1, nm S, .lst (qq.map (rowB fu))]
  | 0, m, pp, hk, hp, hg => by
    exfalso
    have hm : m = n + 1 := by omega
    subst hm
    have hp : pp = combos n n := hp
    have := hg (List.range n) (by rw [hp]; exact combos_all n hn)
    rw [h] at this
    cases this
  | k + 1, m, pp, hk, hp, hg => by
    rw [List.range'_succ]
    unfold goB
    cases q : (combos n m).find? (fun S => (fu S).isNone) with
    | some S =>
      refine ⟨m, S, pp, by omega, by omega, List.mem_of_find?_eq_some q, ?_, hp, hg, rfl⟩
      have := List.find?_some (p := fun S => (fu S).isNone) q
      exact Option.isNone_iff_eq_none.mp this
    | none =>
      exact goB_best hn h k (m + 1) (combos n m) (by omega) rfl fun S hS => by
        have := List.find?_eq_none.mp q S hS
        cases z : fu S with
        | none => rw [z] at this; exact absurd rfl this
        | some h => rfl
theorem best_of {fu : List Nat → Option Int} {nm : List Nat → D} {w1 w2 : Str} {n : Nat} (hn : n < 11) : (∃ h, fu (List.range n) = some h ∧ bestB fu nm w1 w2 n = .tup [.str w2, .int h]) ∨
    ∃ (j : Nat) (S : List Nat) (qq : List (List Nat)), j < 11 ∧ j ≤ n ∧ S ∈ combos n j ∧ fu S = none ∧ (qq = match j with | 0 => [] | j' + 1 => combos n j') ∧ (∀ S ∈ qq, (fu S).isNone = false) ∧ bestB fu nm w1 w2 n = .tup [.str w1, nm S, .lst (qq.map (rowB fu))] := by
  unfold bestB
  cases q : fu (List.range n) with
  | some h => exact .inl ⟨h, rfl, rfl⟩
  | none =>
    refine .inr ?_
    have := goB_best (nm := nm) (w1 := w1) (w2 := w2) hn q (n + 1) 0 [] (by omega) rfl (fun S h => nomatch h)
    rw [List.range_eq_range']
    exact this

/-! ### hours that are drawn -/
set_option maxHeartbeats 1000000 in
theorem sp_hours (ns : List Int) {rs : List Row} {Y GD : D} {gs : List Int} (y0 : oIx Y (.int 0) = some (.lst (rs.map rowD))) (hGD : D.lst (gs.map D.int) = GD) (hr1 : 1 ≤ rs.length) (hr2 : rs.length ≤ 20) (hg : ∀ h ∈ gs, ∃ r ∈ rs, r.1 = h) : (f__law_hours [.lst (ns.map .int), Y, GD]).wp (fun d => ∃ hs : List Int, d = .lst (hs.map .int) ∧ hs.length ≤ 10 ∧ ∀ h ∈ hs, ∃ r ∈ rs, r.1 = h) NoE := by
  have wide := sp_wide ns 1 (by decide) (by decide)
  obtain ⟨dn, hdn⟩ : ∃ dn, D.lst (ns.map .int) = dn := ⟨_, rfl⟩
  rw [hdn] at wide ⊢
  have fit : (rs.map rowD).length ≤ sizeLine := by rw [List.length_map, sizeLine_eq]; omega
  have okG : okq 40 GD = true := by rw [← hGD]; exact okq_ints gs
  have neG : ∀ {P : D → Prop}, P (.bl (!gs.isEmpty)) → Got (oNe GD (.lst [])) P := fun h => by
    rw [← hGD] at okG ⊢
    exact w_neNil okG (by rw [List.isEmpty_map]; exact h)
  wtm_at "y_in"
  repeat' ((fail_if_success (with_reducible show Dy.Got (oIx Y _) _)); wtm_at "y_dy")
  refine g_ot y0 ?_
  refine g_ot rfl ⟨fit, ?_⟩
  repeat' ((fail_if_success (with_reducible show Dy.Got (compS _ _ _ _ _) _)); wtm_at "y_dy")
  refine c_mapG (f := rowD) (g := fun r : Row => D.int r.1) (fun r hr => ?_) ?_
  · repeat' wtm_at "y_dy"
    rfl
  have eS : (rs.map fun r : Row => D.int r.1) = (rs.map (·.1)).map D.int := by rw [List.map_map]; rfl
  rw [eS]
  have hS : ∀ h ∈ rs.map (·.1), ∃ r ∈ rs, r.1 = h := fun h hh => by
    obtain ⟨r, hr, e⟩ := List.mem_map.mp hh
    exact ⟨r, hr, e⟩
  have hS1 : rs.map (·.1) ≠ [] := by
    intro z
    rw [List.map_eq_nil_iff] at z
    rw [z] at hr1
    simp at hr1
  generalize rs.map (·.1) = ss at hS hS1
  obtain ⟨SD, hSD⟩ : ∃ SD, D.lst (ss.map D.int) = SD := ⟨_, rfl⟩
  rw [hSD]
  repeat' wtm_at "y_dy"
  refine wide.no ?_
  rintro _ ⟨c, rfl, hc0, _⟩
  repeat' ((fail_if_success (with_reducible show Upd _ 4 _ _)); wtm_at "y_dy")
  obtain ⟨sh, hsh⟩ : ∃ sh, c / 24 = sh := ⟨_, rfl⟩
  rw [hsh]
  repeat' ((fail_if_success (with_reducible show SR.wp (sSeq (sIf _ _ _) _ _) _ _ _)); wtm_at "y_dy")
  have fin : ∀ (ts : List Int) (TD : D), D.lst (ts.map D.int) = TD → (∀ h ∈ ts, ∃ r ∈ rs, r.1 = h) → ts ≠ [] → ∀ {N : REnv → Prop}, (∀ (hs : List Int) (u v : Sl), hs.length ≤ 10 → (∀ h ∈ hs, ∃ r ∈ rs, r.1 = h) → N [.val dn, .val Y, .val GD, .val TD, .val (.int sh), .own (hs.map .int), u, v]) → ∀ (J : Int), J ≤ 9 → ∀ {T : D → Prop} {E : D → REnv → Prop},
      (forS (bName 6) (sApp 5 (eBin oIx (eVar 3) (eBin oMod (eBin oDiv (eVar 4) (eBin oMul (eC (.int 36)) (eBin oAdd (eBin oAdd (eBin oMul (eVar 6) (eVar 6)) (eBin oMul (eC (.int 3)) (eVar 6))) (eC (.int 1))))) (eN oLen (aCons (eVar 3) (aNil)))))) (rangeD 0 J.toNat) [.val dn, .val Y, .val GD, .val TD, .val (.int sh), .own [], .un, .un]).wp N T E := by
    intro ts TD hTD hts hne N hN J hJ T E
    have tIx := fun {K : Int} => ix_map hTD (K := K)
    have tLen := len_map hTD
    obtain ⟨L, hL⟩ : ∃ L : Int, (ts.length : Int) = L := ⟨_, rfl⟩
    have hL0 : 0 < L := by
      cases ts with
      | nil => exact absurd rfl hne
      | cons a b => rw [List.length_cons] at hL; omega
    rw [hL] at tIx tLen
    refine forS_inv (fun i ρ => ∃ (hs : List Int) (u v : Sl), ρ = [.val dn, .val Y, .val GD, .val TD, .val (.int sh), .own (hs.map .int), u, v] ∧ hs.length = i ∧ ∀ h ∈ hs, ∃ r ∈ rs, r.1 = h) ⟨[], _, _, rfl, rfl, fun _ h => nomatch h⟩ ?_ ?_
    · rintro i d _ ed ⟨hs, _, _, rfl, hl, hk⟩
      obtain ⟨rfl, hi⟩ := rangeD_get ed
      obtain ⟨K, hK⟩ : ∃ K : Int, 0 + (i : Int) = K := ⟨_, rfl⟩
      rw [hK]
      clear ed
      have k0 : 0 ≤ K ∧ K < 10 := by omega
      have bK : Bd 10 K := by unfold Bd; omega
      have hsz : (hs.map D.int).length < sizeLine := by rw [List.length_map, sizeLine_eq]; omega
      have kk : 0 ≤ K * K := Int.mul_nonneg k0.1 k0.1
      have kk2 : K * K ≤ 100 := Int.le_trans (Int.mul_le_mul (show K ≤ 10 by omega) (show K ≤ 10 by omega) k0.1 (by decide)) (by decide)
      repeat' ((fail_if_success (with_reducible show Dy.Got (oDiv _ _) _)); wtm_at "y_dy")
      refine w_div (by omega) (Bd.log (n := 200) (Bd.mono (n := 20) (by unfold Bd; omega) (by decide)) (by decide)) ?_
      repeat' ((fail_if_success (with_reducible show Dy.Got (oLen _) _)); wtm_at "y_dy")
      refine g_ot tLen ?_
      repeat' ((fail_if_success (with_reducible show Dy.Got (oIx _ _) _)); wtm_at "y_dy")
      obtain ⟨h, hh, eh⟩ := tIx (K := sh / (36 * (K * K + 3 * K + 1)) % L) (Int.emod_nonneg _ (by omega)) (Int.emod_lt_of_pos _ hL0)
      refine g_ot eh ?_
      repeat' wtm_at "y_dy"
      refine ⟨hs ++ [h], _, _, by rw [List.map_append]; rfl, by simp [hl], fun x hx => ?_⟩
      rcases List.mem_append.mp hx with hx | hx
      · exact hk x hx
      · rw [List.mem_singleton.mp hx]
        exact hts h hh
    · rintro _ ⟨hs, _, _, rfl, hl, hk⟩
      have : (rangeD 0 J.toNat).length = J.toNat := by simp [rangeD]
      exact hN hs _ _ (by omega) hk
  have q6 : 0 ≤ sh / 4 % 6 ∧ sh / 4 % 6 ≤ 9 := by omega
  have q9 : 0 ≤ sh / 4 % 9 ∧ sh / 4 % 9 ≤ 9 := by omega
  have rest : ∀ (ts : List Int) (TD : D), D.lst (ts.map D.int) = TD → (∀ h ∈ ts, ∃ r ∈ rs, r.1 = h) → ts ≠ [] → ∀ {g : REnv → SR}, (∀ J : Int, True → 0 ≤ J → J ≤ 9 → True) → True := fun _ _ _ _ _ _ _ => trivial
  refine sp_seq (SR.wp.imp (N := fun ρ => ∃ (ts : List Int) (TD : D), D.lst (ts.map D.int) = TD ∧ (∀ h ∈ ts, ∃ r ∈ rs, r.1 = h) ∧ ts ≠ [] ∧ ρ = [.val dn, .val Y, .val GD, .val TD, .val (.int sh), .un, .un, .un]) ?_ ?_ (fun _ z => z) fun _ _ z => z)
  · repeat' ((fail_if_success (with_reducible show Dy.Got (oNe _ _) _)); wtm_at "y_dy")
    · refine neG ?_
      refine ex_bl (k_any (fun hz => ?_) fun hz => ?_)
      · repeat' wtm_at "y_dy"
        refine ⟨gs, GD, hGD, hg, fun z => ?_, rfl⟩
        rw [z] at hz
        cases hz
      · repeat' wtm_at "y_dy"
        exact ⟨ss, SD, hSD, hS, hS1, rfl⟩
    · exact ⟨ss, SD, hSD, hS, hS1, rfl⟩
  rintro _ ⟨ts, TD, hTD, hts, hne, rfl⟩
  repeat' ((fail_if_success (with_reducible show Dy.Got (range1 _) _)); wtm_at "y_dy")
  first
    | (refine w_range1 (n := sh / 4 % 6) (by constructor <;> omega) ?_
       refine fin ts TD hTD hts hne (fun hs u v h1 h2 => ?_) _ q6.2
       repeat' wtm_at "y_dy"
       exact ⟨hs, rfl, h1, h2⟩)
    | (refine w_range1 (n := sh / 4 % 9) (by constructor <;> omega) ?_
       refine fin ts TD hTD hts hne (fun hs u v h1 h2 => ?_) _ q9.2
       repeat' wtm_at "y_dy"
       exact ⟨hs, rfl, h1, h2⟩)

/-! ### the law's own lists of numbers -/
def subs : Nat → List (List Nat)
  | 0 => [[]]
  | k + 1 => subs k ++ (subs k).map fun S => S ++ [k]
theorem subs_ok : ∀ n : Nat, n < 10 → (subs n).length ≤ 512 ∧ ∀ S ∈ subs n, S.length ≤ 9 := by decide +kernel
theorem subs_perm0 : ∀ n : Nat, n < 10 → ∀ m : Nat, m < 11 → ((subs n).filter fun S => decide (S.length = m)).isPerm (combos n m) = true := by decide +kernel
theorem leR_trans (a b c : List Int) (h1 : leR a b = true) (h2 : leR b c = true) : leR a c = true :=
  decide_eq_true (List.le_trans (of_decide_eq_true h1) (of_decide_eq_true h2))
theorem leR_total (a b : List Int) : (leR a b || leR b a) = true := by
  rw [Bool.or_eq_true]
  rcases List.le_total a b with h | h
  · exact .inl (decide_eq_true h)
  · exact .inr (decide_eq_true h)
theorem sort_perm {L : List (List Nat)} {n m : Nat} (hn : n < 11) (hm : m < 11) (hp : L.Perm (combos n m)) {P : D → Prop} (h : P (.lst ((combos n m).map nD))) : Got (oSortR [.lst (L.map nD)]) P := by
  have e : ∀ L : List (List Nat), L.map nD = (L.map cI).map rwD := fun L => by
    rw [List.map_map]
    exact List.map_congr_left fun S _ => nD_rw S
  rw [e]
  refine w_sortR ?_
  have pw : ((combos n m).map cI).Pairwise fun a b => leR a b = true := by
    rw [List.pairwise_map]
    refine (adj_lt (combos_adj n hn m hm)).imp fun h => ?_
    exact decide_eq_true (List.le_of_lt h)
  have q : (L.map cI).mergeSort leR = (combos n m).map cI := by
    refine List.Perm.eq_of_pairwise (le := fun a b => leR a b = true) (fun a b _ _ h1 h2 => ?_) (List.pairwise_mergeSort leR_trans leR_total _) pw ((List.mergeSort_perm _ _).trans (hp.map cI))
    exact List.le_antisymm (of_decide_eq_true h1) (of_decide_eq_true h2)
  rw [q, ← e]
  exact h
theorem sp_llists {m n : Nat} {M N : Int} (eM : (m : Int) = M) (eN : (n : Int) = N) (hm : m ≤ 10) (hn : n ≤ 9) {P : D → Prop} (h : P (.lst ((combos n m).map nD))) : (f__law_lists [.int M, .int N]).wp P NoE := by
  obtain ⟨RN, hRN⟩ : ∃ RN, rangeD 0 n = RN := ⟨_, rfl⟩
  have lRN : RN.length = n := by rw [← hRN]; exact rangeD_len 0 n
  have gRN : ∀ {i : Nat} {d : D}, RN[i]? = some d → i < n ∧ d = .int (i : Int) := fun {i d} e => by
    rw [← hRN] at e
    obtain ⟨h, hi⟩ := rangeD_get e
    exact ⟨hi, by rw [h, Int.zero_add]⟩
  have rgN : ∀ {P : List D → Prop}, P RN → Got (range1 [.int N]) P := fun h => by
    rw [← eN]
    exact w_range1 (by constructor <;> omega) (by rw [Int.toNat_natCast, hRN]; exact h)
  have z0 : D.lst [.lst []] = .lst ((subs 0).map nD) := rfl
  wtm_at "y_in"
  repeat' ((fail_if_success (with_reducible show Dy.Got (range1 _) _)); wtm_at "y_dy")
  refine rgN ?_
  repeat' ((fail_if_success (with_reducible show SR.wp (forS _ _ _ _) _ _ _)); wtm_at "y_dy")
  rw [z0]
  refine forS_inv (fun i ρ => ∃ a b : Sl, ρ = [.val (.int M), .val (.int N), .val (.lst ((subs i).map nD)), a, b]) ⟨_, _, rfl⟩ ?_ ?_
  · rintro i d _ ed ⟨_, _, rfl⟩
    obtain ⟨hi, rfl⟩ := gRN ed
    obtain ⟨K, hK⟩ : ∃ K : Int, (i : Int) = K := ⟨_, rfl⟩
    obtain ⟨l1, l2⟩ := subs_ok i (by omega)
    have e2 : subs (i + 1) = subs i ++ (subs i).map fun S => S ++ [i] := rfl
    rw [e2, hK]
    clear ed
    generalize subs i = cs at l1 l2 ⊢
    have it : iterD (.lst (cs.map nD)) = some (cs.map nD) := rfl
    have fit : (cs.map nD).length ≤ sizeLine := by rw [List.length_map, sizeLine_eq]; omega
    have addS : ∀ S ∈ cs, ∀ {P : D → Prop}, P (nD (S ++ [i])) → Got (oAdd (nD S) (.lst [.int K])) P := fun S hS {P} h => by
      have := l2 S hS
      unfold nD
      refine w_addL (by rw [List.length_map, sizeLine_eq]; simp; omega) ?_
      have e : S.map (fun i : Nat => D.int (i : Int)) ++ [.int K] = (S ++ [i]).map (fun i : Nat => D.int (i : Int)) := by rw [List.map_append, ← hK]; rfl
      rw [e]
      exact h
    have addL : ∀ {P : D → Prop}, P (.lst ((cs ++ cs.map fun S => S ++ [i]).map nD)) → Got (oAdd (.lst (cs.map nD)) (.lst (cs.map fun S => nD (S ++ [i])))) P := fun {P} h => by
      refine w_addL (by rw [List.length_map, List.length_map, sizeLine_eq]; omega) ?_
      have e : cs.map nD ++ (cs.map fun S => nD (S ++ [i])) = (cs ++ cs.map fun S => S ++ [i]).map nD := by rw [List.map_append, List.map_map]; rfl
      rw [e]
      exact h
    obtain ⟨CD, hCD⟩ : ∃ CD, D.lst (cs.map nD) = CD := ⟨_, rfl⟩
    rw [hCD] at it addL ⊢
    repeat' ((fail_if_success (with_reducible show Dy.Got (iterD _) _)); wtm_at "y_dy")
    refine g_ot it ⟨fit, ?_⟩
    repeat' ((fail_if_success (with_reducible show Dy.Got (compS _ _ _ _ _) _)); wtm_at "y_dy")
    refine c_mapG (f := nD) (g := fun S => nD (S ++ [i])) (fun S hS => ?_) ?_
    · have ad := fun {P : D → Prop} => addS S hS (P := P)
      obtain ⟨SD, hSD⟩ : ∃ SD, nD S = SD := ⟨_, rfl⟩
      rw [hSD] at ad ⊢
      repeat' ((fail_if_success (with_reducible show Dy.Got (oAdd _ _) _)); wtm_at "y_dy")
      exact ad rfl
    repeat' ((fail_if_success (with_reducible show Dy.Got (oAdd _ _) _)); wtm_at "y_dy")
    refine addL ?_
    repeat' wtm_at "y_dy"
    exact ⟨_, _, rfl⟩
  · rintro _ ⟨_, _, rfl⟩
    rw [lRN]
    obtain ⟨l1, l2⟩ := subs_ok n (by omega)
    have hp := List.isPerm_iff.mp (subs_perm0 n (by omega) m (by omega))
    have so := fun {P : D → Prop} (h : P (.lst ((combos n m).map nD))) => sort_perm (by omega) (by omega) hp h
    generalize subs n = cs at l1 l2 hp so ⊢
    have it : iterD (.lst (cs.map nD)) = some (cs.map nD) := rfl
    have fit : (cs.map nD).length ≤ sizeLine := by rw [List.length_map, sizeLine_eq]; omega
    obtain ⟨CD, hCD⟩ : ∃ CD, D.lst (cs.map nD) = CD := ⟨_, rfl⟩
    rw [hCD] at it ⊢
    repeat' ((fail_if_success (with_reducible show Dy.Got (iterD _) _)); wtm_at "y_dy")
    refine g_ot it ⟨fit, ?_⟩
    repeat' ((fail_if_success (with_reducible show Dy.Got (compS _ _ _ _ _) _)); wtm_at "y_dy")
    refine c_listG (f := nD) (g := nD) (keep := fun S => decide (S.length = m)) (fun S hS => ?_) ?_
    · have sl : oLen [nD S] = some (.int (S.length : Int)) := len_map (d := nD S) (f := fun i : Nat => D.int (i : Int)) (xs := S) rfl
      obtain ⟨L, hL⟩ : ∃ L : Int, (S.length : Int) = L := ⟨_, rfl⟩
      rw [hL] at sl
      have eb : decide (S.length = m) = decide (L = M) := by
        rw [Bool.eq_iff_iff, decide_eq_true_eq, decide_eq_true_eq]
        omega
      rw [eb]
      obtain ⟨SD, hSD⟩ : ∃ SD, nD S = SD := ⟨_, rfl⟩
      rw [hSD] at sl ⊢
      repeat' ((fail_if_success (with_reducible show Dy.Got (oLen _) _)); wtm_at "y_dy")
      refine g_ot sl ?_
      repeat' wtm_at "y_dy"
      refine ⟨rfl, fun _ => ?_⟩
      repeat' wtm_at "y_dy"
      rfl
    repeat' ((fail_if_success (with_reducible show Dy.Got (oSortR _) _)); wtm_at "y_dy")
    refine so ?_
    repeat' wtm_at "y_dy"
    exact h

/-! ### k62: what is read without some walls -/
section
variable {rs : List Row} {ws : List Wall} {fs : List Dial}
theorem wkeep_range (ws : List Wall) (S : List Nat) : ((List.range ws.length).filter fun i => !decide (i ∈ S)).map (fun i => (ws.map wallD).getD i .non) = (wkeep ws S).map wallD := by
  have e : ws.zipIdx = (List.range ws.length).map fun i => (ws.getD i ("", ((0, 0, 0), (0, 0, 0), (0, 0, 0))), i) := by
    refine List.ext_getElem? fun i => ?_
    rw [List.getElem?_zipIdx, List.getElem?_map]
    by_cases h : i < ws.length
    · rw [List.getElem?_range h, List.getElem?_eq_getElem h]
      simp only [Option.map_some, Nat.zero_add]
      rw [List.getD_eq_getElem?_getD, List.getElem?_eq_getElem h]
      rfl
    · rw [List.getElem?_eq_none (by omega), List.getElem?_eq_none (by rw [List.length_range]; omega)]
      rfl
  unfold wkeep
  rw [e, List.filter_map, List.map_map, List.map_map]
  refine List.map_congr_left fun i hi => ?_
  have hi := List.mem_range.mp (List.mem_filter.mp hi).1
  have ei : ws[i]? = some ws[i] := List.getElem?_eq_getElem hi
  rw [getD_map ei]
  simp only [Function.comp]
  rw [List.getD_eq_getElem?_getD, ei]
  rfl
set_option maxHeartbeats 2000000 in
theorem sp_lread {Y SD : D} {S : List Nat} (hY : yardD rs ws fs = Y) (hSD : nD S = SD) (y : YG rs ws fs) {h : Int} (hu : unkn rs h = false) {P : D → Prop} (hP : P (.bl (!(redW rs ws fs S h).isEmpty))) : (f__law_read [Y, SD, .int h]).wp P NoE := by
  obtain ⟨r, hr⟩ : ∃ r, rs.find? (fun r => decide (r.1 = h)) = some r := by
    unfold unkn at hu
    cases q : rs.find? (fun r => decide (r.1 = h)) with
    | none => rw [q] at hu; cases hu
    | some r => exact ⟨r, rfl⟩
  have told := fun f hf => fun {P : D → Prop} hP => told_0 (y.keep S) hr (f := f) hf (P := P) hP
  have eA : (redW rs ws fs S h).isEmpty = (fs.filter (readF (wkeep ws S) fs r.2)).isEmpty := by
    unfold redW
    rw [hr]
    show (redN (wkeep ws S) fs r.2).isEmpty = _
    rw [redN_emp]
  rw [eA] at hP
  have ez := wkeep_range ws S
  have ins : ∀ i : Nat, oNinX (.int (i : Int)) (nD S) = some (.bl (!decide (i ∈ S))) := fun i => ninN i S
  have y0 : oIx Y (.int 0) = some (.lst (rs.map rowD)) := by rw [← hY]; rfl
  have y1 : oIx Y (.int 1) = some (.lst (ws.map wallD)) := by rw [← hY]; rfl
  have y2 : oIx Y (.int 2) = some (.lst (fs.map dialD)) := by rw [← hY]; rfl
  have lw := y.lw
  have lf := y.lf
  obtain ⟨TD, hTD⟩ : ∃ TD, D.lst (ws.map wallD) = TD := ⟨_, rfl⟩
  obtain ⟨N, eQ⟩ : ∃ N : Int, (ws.length : Int) = N := ⟨_, rfl⟩
  have tl : oLen [TD] = some (.int N) := by rw [len_map hTD, eQ]
  have tix : ∀ i < ws.length, oIx TD (.int (i : Int)) = some ((ws.map wallD).getD i .non) := fun i hi => by
    rw [← hTD]
    show L2.atI (ws.map wallD) (i : Int) = _
    exact atI_nat (by rw [List.getElem?_map, List.getElem?_eq_getElem hi, getD_map (List.getElem?_eq_getElem hi)]; rfl)
  have rg : ∀ {P : List D → Prop}, P ((List.range ws.length).map fun i : Nat => D.int (i : Int)) → Got (range1 [.int N]) P := fun {P} h => by
    rw [← eQ]
    refine w_range1 (by constructor <;> omega) ?_
    have : rangeD 0 (ws.length : Int).toNat = (List.range ws.length).map fun i : Nat => D.int (i : Int) := by
      rw [Int.toNat_natCast]
      unfold rangeD
      exact List.map_congr_left fun i _ => by rw [Int.zero_add]
    rw [this]
    exact h
  have fit : ((List.range ws.length).map fun i : Nat => D.int (i : Int)).length ≤ sizeLine := by rw [List.length_map, List.length_range, sizeLine_eq]; omega
  have fitF : (fs.map dialD).length ≤ sizeLine := by rw [List.length_map, sizeLine_eq]; omega
  rw [hTD] at y1
  rw [hSD] at ins
  wtm_at "y_in"
  repeat' ((fail_if_success (with_reducible show Dy.Got (oIx Y _) _)); wtm_at "y_dy")
  refine g_ot y1 ?_
  repeat' ((fail_if_success (with_reducible show Dy.Got (oLen _) _)); wtm_at "y_dy")
  refine g_ot tl ?_
  repeat' ((fail_if_success (with_reducible show Dy.Got (range1 _) _)); wtm_at "y_dy")
  refine rg ⟨fit, ?_⟩
  repeat' ((fail_if_success (with_reducible show Dy.Got (compS _ _ _ _ _) _)); wtm_at "y_dy")
  refine c_listG (f := fun i : Nat => D.int (i : Int)) (g := fun i => (ws.map wallD).getD i .non) (keep := fun i => !decide (i ∈ S)) (fun i hi => ?_) ?_
  · have hi := List.mem_range.mp hi
    repeat' ((fail_if_success (with_reducible show Dy.Got (oNinX _ _) _)); wtm_at "y_dy")
    refine g_ot (ins i) ?_
    repeat' wtm_at "y_dy"
    refine ⟨rfl, fun _ => ?_⟩
    repeat' ((fail_if_success (with_reducible show Dy.Got (oIx Y _) _)); wtm_at "y_dy")
    refine g_ot y1 ?_
    repeat' ((fail_if_success (with_reducible show Dy.Got (oIx TD _) _)); wtm_at "y_dy")
    exact g_ot (tix i hi) rfl
  rw [ez]
  have eZ : yardD rs (wkeep ws S) fs = .tup [.lst (rs.map rowD), .lst ((wkeep ws S).map wallD), .lst (fs.map dialD)] := rfl
  have itF : iterD (.lst (fs.map dialD)) = some (fs.map dialD) := rfl
  obtain ⟨RR, hRR⟩ : ∃ RR, D.lst (rs.map rowD) = RR := ⟨_, rfl⟩
  obtain ⟨WW, hWW⟩ : ∃ RR, D.lst ((wkeep ws S).map wallD) = RR := ⟨_, rfl⟩
  obtain ⟨FF, hFF⟩ : ∃ RR, D.lst (fs.map dialD) = RR := ⟨_, rfl⟩
  rw [hRR, hWW, hFF] at eZ
  rw [eZ] at told
  rw [hRR] at y0
  rw [hFF] at y2 itF
  rw [hWW]
  repeat' ((fail_if_success (with_reducible show Dy.Got (oIx Y _) _)); wtm_at "y_dy")
  refine g_ot y2 ?_
  repeat' ((fail_if_success (with_reducible show Dy.Got (iterD _) _)); wtm_at "y_dy")
  refine g_ot itF ?_
  refine forS_inv (fun i ρ => (∃ a b : Sl, ρ = [.val Y, .val SD, .val (.int h), .val WW, a, b]) ∧ ∀ f ∈ fs.take i, readF (wkeep ws S) fs r.2 f = false) ⟨⟨_, _, rfl⟩, by simp⟩ ?_ ?_
  · rintro i d _ ed ⟨⟨_, _, rfl⟩, hg⟩
    rw [List.getElem?_map, Option.map_eq_some_iff] at ed
    obtain ⟨f, ef, rfl⟩ := ed
    have hf := List.mem_of_getElem? ef
    have t1 := fun {P : D → Prop} hP => told f hf (P := P) hP
    repeat' ((fail_if_success (with_reducible show Dy.Got (oIx Y _) _)); wtm_at "y_dy")
    refine g_ot y0 ?_
    repeat' ((fail_if_success (with_reducible show Dy.Got (oIx Y _) _)); wtm_at "y_dy")
    refine g_ot y2 ?_
    repeat' wtm_at "y_dy"
    refine t1 ?_
    rintro t ⟨w, e, ok, er⟩
    repeat' ((fail_if_success (with_reducible show Dy.Got (oIx t _) _)); wtm_at "y_dy")
    refine g_ot e ?_
    repeat' ((fail_if_success (with_reducible show Dy.Got (oEq _ _) _)); wtm_at "y_dy")
    refine w_eqStr ok (by decide +kernel) ?_
    rw [er]
    refine ex_bl (k_any (fun hk => ?_) fun hk => ?_)
    · repeat' wtm_at "y_dy"
      have : (fs.filter (readF (wkeep ws S) fs r.2)).isEmpty = false := by
        cases q : fs.filter (readF (wkeep ws S) fs r.2) with
        | nil => exact absurd hk (List.filter_eq_nil_iff.mp q f hf)
        | cons a b => rfl
      rw [this] at hP
      exact hP
    · repeat' wtm_at "y_dy"
      exact ⟨⟨_, _, rfl⟩, take_more ef hg hk⟩
  · rintro _ ⟨⟨_, _, rfl⟩, hg⟩
    rw [List.length_map, List.take_length] at hg
    repeat' wtm_at "y_dy"
    have : fs.filter (readF (wkeep ws S) fs r.2) = [] := List.filter_eq_nil_iff.mpr fun f hf => by rw [hg f hf]; decide
    rw [this] at hP
    exact hP
theorem sp_lmissed {Y SD HD : D} {S : List Nat} {hs : List Int} (hY : yardD rs ws fs = Y) (hSD : nD S = SD) (hHD : D.lst (hs.map D.int) = HD) (y : YG rs ws fs) (hk : ∀ h ∈ hs, unkn rs h = false) {P : D → Prop} (hP : P (optI (fuG rs ws fs hs S))) : (f__law_missed [Y, SD, HD]).wp P NoE := by
  have rd := fun {h : Int} (hh : h ∈ hs) => fun {P : D → Prop} => sp_lread hY hSD y (hk h hh) (P := P)
  obtain ⟨red, hred⟩ : ∃ red, redW rs ws fs S = red := ⟨_, rfl⟩
  unfold fuG at hP
  rw [hred] at rd hP
  have ih : iterD HD = some (hs.map D.int) := by rw [← hHD]; rfl
  clear hHD hSD hY
  wtm_at "y_in"
  repeat' ((fail_if_success (with_reducible show Dy.Got (iterD _) _)); wtm_at "y_dy")
  refine g_ot ih ?_
  refine forS_inv (fun i ρ => (∃ a : Sl, ρ = [.val Y, .val SD, .val HD, a]) ∧ ∀ h ∈ hs.take i, (red h).isEmpty = false) ⟨⟨_, rfl⟩, by simp⟩ ?_ ?_
  · rintro i d _ ed ⟨⟨_, rfl⟩, hg⟩
    rw [List.getElem?_map, Option.map_eq_some_iff] at ed
    obtain ⟨h, eh, rfl⟩ := ed
    have rd := fun {P : D → Prop} => rd (List.mem_of_getElem? eh) (P := P)
    repeat' wtm_at "y_dy"
    refine rd ?_
    repeat' ((fail_if_success (with_reducible show Fork _ _ _)); wtm_at "y_dy")
    refine k_any (fun hk => ?_) fun hk => ?_
    · repeat' wtm_at "y_dy"
      have : DK red hs = some h := find_at eh (by simpa using hk) hg
      rw [this] at hP
      exact hP
    · repeat' wtm_at "y_dy"
      exact ⟨⟨_, rfl⟩, take_more eh hg (by simpa using hk)⟩
  · rintro _ ⟨⟨_, rfl⟩, hg⟩
    rw [List.length_map, List.take_length] at hg
    repeat' wtm_at "y_dy"
    have : DK red hs = none := find_no hg
    rw [this] at hP
    exact hP
end

/-! ### k62: what is due -/
theorem isN_opt (x : Option Int) : oIsN (optI x) .non = some (.bl x.isNone) := by cases x <;> rfl
theorem ix0_rowB (fu : List Nat → Option Int) (S : List Nat) : oIx (rowB fu S) (.int 0) = some (nD S) := rfl
theorem ix1_rowB (fu : List Nat → Option Int) (S : List Nat) : oIx (rowB fu S) (.int 1) = some (optI (fu S)) := rfl
theorem okq_nDs (cs : List (List Nat)) : okq 40 (.lst (cs.map nD)) = true := by
  show (cs.map nD).all (okq 39) = true
  rw [List.all_eq_true]
  intro d hd
  obtain ⟨S, _, rfl⟩ := List.mem_map.mp hd
  exact okq_nat S
set_option maxHeartbeats 2000000 in
theorem sp_ldue {Y TD HD : D} {n : Nat} {N : Int} (eQ : (n : Int) = N) (hn : n ≤ 9) {nms : Nat → Str} {fu : List Nat → Option Int}
    (y2 : oIx Y (.int 1) = some TD) (tl : oLen [TD] = some (.int N)) (tix : ∀ i < n, ∃ x, oIx TD (.int (i : Int)) = some x ∧ oIx x (.int 0) = some (.str (nms i)))
    (mis : ∀ {S : List Nat} {SD : D}, nD S = SD → (f__law_missed [Y, SD, HD]).wp (fun d => d = optI (fu S)) NoE) {P : D → Prop}
    (h1 : P (bestB fu (nmD nms) "walls" "never" n)) : (f__law_due [Y, HD]).wp P NoE := by
  have hrg : D.lst (rangeD 0 N.toNat) = nD (List.range n) := by
    rw [← eQ, Int.toNat_natCast]
    unfold rangeD nD
    congr 1
    exact List.map_congr_left fun i _ => by rw [Int.zero_add]
  wtm_at "y_in"
  repeat' ((fail_if_success (with_reducible show Dy.Got (oIx Y _) _)); wtm_at "y_dy")
  refine g_ot y2 ?_
  repeat' ((fail_if_success (with_reducible show Dy.Got (oLen _) _)); wtm_at "y_dy")
  refine g_ot tl ?_
  repeat' first | wtm_at "y_dy" | wtm_at "y_fn"
  refine ⟨⟨by omega, by omega⟩, ?_⟩
  rw [hrg]
  obtain ⟨SD0, hSD0⟩ : ∃ SD, nD (List.range n) = SD := ⟨_, rfl⟩
  rw [hSD0]
  repeat' wtm_at "y_dy"
  refine (mis hSD0).no ?_
  rintro _ rfl
  unfold bestB at h1
  cases q : fu (List.range n) with
  | some h =>
    rw [q] at h1
    repeat' wtm_at "y_dy"
    exact h1
  | none =>
  rw [q] at h1
  obtain ⟨G0, hG0⟩ : ∃ G0, goB fu (nmD nms) "walls" "never" n (List.range (n + 1)) [] = G0 := ⟨_, rfl⟩
  have h1 : P G0 := by
    rw [← hG0]
    exact h1
  obtain ⟨RM, hRM⟩ : ∃ RM, rangeD 0 (n + 1) = RM := ⟨_, rfl⟩
  have rg1 : ∀ {P : List D → Prop}, P RM → Got (range1 [.int (N + 1)]) P := fun h => by
    rw [← eQ]
    exact w_range1 (by constructor <;> omega) (by rw [show ((n : Int) + 1).toNat = n + 1 by omega, hRM]; exact h)
  have lRM : RM.length = n + 1 := by rw [← hRM]; exact rangeD_len 0 (n + 1)
  have gRM : ∀ {i : Nat} {d : D}, RM[i]? = some d → i < n + 1 ∧ d = .int (i : Int) := fun {i d} e => by
    rw [← hRM] at e
    obtain ⟨h, hi⟩ := rangeD_get e
    exact ⟨hi, by rw [h, Int.zero_add]⟩
  clear hrg
  repeat' ((fail_if_success (with_reducible show Dy.Got (range1 _) _)); wtm_at "y_dy")
  refine rg1 ?_
  refine forS_inv (fun i ρ => ∃ (pp : List (List Nat)) (a b c d e f : Sl), ρ = [.val Y, .val HD, .val (.int N), .val .non, .val (.lst (pp.map (rowB fu))), a, b, c, d, e, f] ∧ goB fu (nmD nms) "walls" "never" n ((List.range (n + 1)).drop i) pp = G0 ∧ ∀ m < i, ∀ S ∈ combos n m, (fu S).isNone = false) ⟨[], _, _, _, _, _, _, rfl, by rw [List.drop_zero]; exact hG0, fun m hm => absurd hm (Nat.not_lt_zero _)⟩ ?_ ?_
  · rintro i d _ ed ⟨pp, _, _, _, _, _, _, rfl, hgo, hgs⟩
    obtain ⟨hi, rfl⟩ := gRM ed
    rw [List.drop_eq_getElem_cons (by rw [List.length_range]; exact hi), List.getElem_range] at hgo
    unfold goB at hgo
    rw [← hgo] at h1
    obtain ⟨c1, c2⟩ := combos_ok n (by omega) i (by omega)
    obtain ⟨K, hK⟩ : ∃ K : Int, (i : Int) = K := ⟨_, rfl⟩
    have lists := fun {P : D → Prop} => sp_llists (m := i) (n := n) (M := K) (N := N) hK eQ (by omega) hn (P := P)
    have hgo' : ∀ (h : (combos n i).find? (fun S => (fu S).isNone) = none), goB fu (nmD nms) "walls" "never" n ((List.range (n + 1)).drop (i + 1)) (combos n i) = G0 := fun h => by
      rw [h] at hgo
      exact hgo
    have hgs' : (∀ S ∈ combos n i, (fu S).isNone = false) → ∀ m < i + 1, ∀ S ∈ combos n m, (fu S).isNone = false := fun h m hm => by
      by_cases e : m = i
      · rw [e]; exact h
      · exact hgs m (by omega)
    clear ed hgs
    generalize hcs : combos n i = cs at *
    rw [hK]
    have fitC : (cs.map nD).length ≤ sizeLine := by rw [List.length_map, sizeLine_eq]; omega
    have fitR : (cs.map (rowB fu)).length ≤ sizeLine := by rw [List.length_map, sizeLine_eq]; omega
    repeat' ((fail_if_success (with_reducible show R.wp (f__law_lists _) _ _)); wtm_at "y_dy")
    refine lists ?_
    obtain ⟨CD, hCD⟩ : ∃ CD, D.lst (cs.map nD) = CD := ⟨_, rfl⟩
    have itC : iterD CD = some (cs.map nD) := by rw [← hCD]; rfl
    rw [hCD]
    repeat' ((fail_if_success (with_reducible show Dy.Got (iterD _) _)); wtm_at "y_dy")
    refine g_ot itC ⟨fitC, ?_⟩
    repeat' ((fail_if_success (with_reducible show Dy.Got (compS _ _ _ _ _) _)); wtm_at "y_dy")
    refine c_mapG (f := nD) (g := rowB fu) (fun S hS => ?_) ?_
    · obtain ⟨SD, hSD⟩ : ∃ SD, nD S = SD := ⟨_, rfl⟩
      have row1 : rowB fu S = .tup [SD, optI (fu S)] := by rw [← hSD]; rfl
      rw [row1, hSD]
      repeat' wtm_at "y_dy"
      refine (mis hSD).no ?_
      rintro _ rfl
      repeat' wtm_at "y_dy"
      rfl
    obtain ⟨WD, hWD⟩ : ∃ WD, D.lst (cs.map (rowB fu)) = WD := ⟨_, rfl⟩
    have itW : iterD WD = some (cs.map (rowB fu)) := by rw [← hWD]; rfl
    rw [hWD]
    repeat' ((fail_if_success (with_reducible show Dy.Got (iterD _) _)); wtm_at "y_dy")
    refine g_ot itW ⟨fitR, ?_⟩
    repeat' ((fail_if_success (with_reducible show Dy.Got (compS _ _ _ _ _) _)); wtm_at "y_dy")
    refine c_listG (f := rowB fu) (g := nD) (keep := fun S => (fu S).isNone) (fun S hS => ?_) ?_
    · have r0 := ix0_rowB fu S
      have r1 := ix1_rowB fu S
      have r2 := isN_opt (fu S)
      obtain ⟨SD, hSD⟩ : ∃ SD, nD S = SD := ⟨_, rfl⟩
      obtain ⟨W, hW⟩ : ∃ W, rowB fu S = W := ⟨_, rfl⟩
      obtain ⟨OD, hOD⟩ : ∃ W, optI (fu S) = W := ⟨_, rfl⟩
      rw [hW] at r0 r1 ⊢
      rw [hSD] at r0 ⊢
      rw [hOD] at r1 r2
      repeat' ((fail_if_success (with_reducible show Dy.Got (oIx W _) _)); wtm_at "y_dy")
      refine g_ot r1 ?_
      repeat' ((fail_if_success (with_reducible show Dy.Got (oIsN OD _) _)); wtm_at "y_dy")
      refine g_ot r2 ?_
      repeat' ((fail_if_success (with_reducible show _ ∧ _)); wtm_at "y_dy")
      refine ⟨rfl, fun _ => ?_⟩
      repeat' ((fail_if_success (with_reducible show Dy.Got (oIx W _) _)); wtm_at "y_dy")
      refine g_ot r0 ?_
      rfl
    have okG := okq_nDs (cs.filter fun S => (fu S).isNone)
    have hfind : (cs.filter fun S => (fu S).isNone).head? = cs.find? fun S => (fu S).isNone := List.head?_filter
    have hsub : ∀ S ∈ cs.filter fun S => (fu S).isNone, S ∈ cs := fun S h => (List.mem_filter.mp h).1
    generalize (cs.filter fun S => (fu S).isNone) = gs at okG hfind hsub ⊢
    cases gs with
    | nil =>
      have fd : cs.find? (fun S => (fu S).isNone) = none := hfind.symm
      have hg : ∀ S ∈ cs, (fu S).isNone = false := fun S hS => by
        have := List.find?_eq_none.mp fd S hS
        cases z : (fu S).isNone with
        | false => rfl
        | true => exact absurd z this
      repeat' ((fail_if_success (with_reducible show Dy.Got (oNe _ _) _)); wtm_at "y_dy")
      refine w_neNil okG ?_
      repeat' wtm_at "y_dy"
      rw [← hWD]
      exact ⟨cs, _, _, _, _, _, _, rfl, hgo' fd, hgs' hg⟩
    | cons S gs =>
      have fd : cs.find? (fun S => (fu S).isNone) = some S := hfind.symm
      rw [fd] at h1
      have h1 : P (.tup [.str "walls", nmD nms S, .lst (pp.map (rowB fu))]) := h1
      obtain ⟨lS, bS⟩ := c2 S (hsub S List.mem_cons_self)
      have itS : iterD (nD S) = some (S.map fun i : Nat => D.int (i : Int)) := rfl
      have fitS : (S.map fun i : Nat => D.int (i : Int)).length ≤ sizeLine := by rw [List.length_map, sizeLine_eq]; omega
      have nmS : nmD nms S = .lst (S.map fun i => .str (nms i)) := rfl
      rw [nmS] at h1
      have ix0 : oIx (.lst ((S :: gs).map nD)) (.int 0) = some (nD S) := by
        show L2.atI (nD S :: gs.map nD) ((0 : Nat) : Int) = _
        exact atI_nat rfl
      obtain ⟨SD, hSD⟩ : ∃ SD, nD S = SD := ⟨_, rfl⟩
      obtain ⟨GD, hGD⟩ : ∃ GD, D.lst ((S :: gs).map nD) = GD := ⟨_, rfl⟩
      have nn : ∀ {P : D → Prop}, P (.bl true) → Got (oNe GD (.lst [])) P := fun h => by
        rw [← hGD] at *
        exact w_neNil okG h
      rw [hSD] at itS ix0
      rw [hGD] at ix0 ⊢
      repeat' ((fail_if_success (with_reducible show Dy.Got (oNe _ _) _)); wtm_at "y_dy")
      refine nn ?_
      repeat' ((fail_if_success (with_reducible show Dy.Got (oIx GD _) _)); wtm_at "y_dy")
      refine g_ot ix0 ?_
      repeat' ((fail_if_success (with_reducible show Dy.Got (iterD _) _)); wtm_at "y_dy")
      refine g_ot itS ⟨fitS, ?_⟩
      repeat' ((fail_if_success (with_reducible show Dy.Got (compS _ _ _ _ _) _)); wtm_at "y_dy")
      refine c_mapG (f := fun i : Nat => D.int (i : Int)) (g := fun i : Nat => D.str (nms i)) (fun x hx => ?_) ?_
      · obtain ⟨z, e1, e2⟩ := tix x (bS x hx)
        repeat' ((fail_if_success (with_reducible show Dy.Got (oIx _ _) _)); wtm_at "y_dy")
        refine g_ot y2 ?_
        repeat' ((fail_if_success (with_reducible show Dy.Got (oIx _ _) _)); wtm_at "y_dy")
        refine g_ot e1 ?_
        repeat' ((fail_if_success (with_reducible show Dy.Got (oIx _ _) _)); wtm_at "y_dy")
        exact g_ot e2 rfl
      repeat' wtm_at "y_dy"
      exact h1
  · rintro _ ⟨pp, _, _, _, _, _, _, rfl, _, hgs⟩
    exfalso
    have := hgs n (by rw [lRM]; exact Nat.lt_succ_self n) (List.range n) (combos_all n (by omega))
    rw [q] at this
    cases this

/-! ### k62: the law -/
theorem noL_row (r : Row) : noL (rowD r) = true := rfl
theorem noL_wall (w : Wall) : noL (wallD w) = true := rfl
theorem noL_dial (f : Dial) : noL (dialD f) = true := rfl
theorem okq_rows (fu : List Nat → Option Int) (qq : List (List Nat)) : okq 39 (.lst (qq.map (rowB fu))) = true := by
  show (qq.map (rowB fu)).all (okq 38) = true
  rw [List.all_eq_true]
  intro d hd
  obtain ⟨S, _, rfl⟩ := List.mem_map.mp hd
  unfold rowB
  show ((okq 37 (nD S)) && ((okq 37 (optI (fu S))) && true)) = true
  have h1 : okq 37 (nD S) = true := by
    show (S.map fun i : Nat => D.int (i : Int)).all (okq 36) = true
    rw [List.all_eq_true]
    intro d hd
    obtain ⟨S, _, rfl⟩ := List.mem_map.mp hd
    rfl
  have h2 : okq 37 (optI (fu S)) = true := by
    cases fu S <;> rfl
  rw [h1, h2]
  rfl
theorem okq_handed {rs : List Row} {ws : List Wall} {fs : List Dial} (y : YG rs ws fs) (hs : List Int) : okq 40 (.lst [yardD rs ws fs, .lst (hs.map .int)]) = true := by
  have h1 : (rs.map rowD).all (okq 37) = true := by
    rw [List.all_eq_true]
    intro d hd
    obtain ⟨r, _, rfl⟩ := List.mem_map.mp hd
    rfl
  have h2 : (ws.map wallD).all (okq 37) = true := by
    rw [List.all_eq_true]
    intro d hd
    obtain ⟨w, hw, rfl⟩ := List.mem_map.mp hd
    show (PyData.strOk w.1 && (true && true)) = true
    rw [(y.gw w hw).2]
    rfl
  have h3 : (fs.map dialD).all (okq 37) = true := by
    rw [List.all_eq_true]
    intro d hd
    obtain ⟨f, hf, rfl⟩ := List.mem_map.mp hd
    show (PyData.strOk f.1 && (true && (true && true))) = true
    rw [(y.gf f hf).2.2]
    rfl
  have h4 : (hs.map D.int).all (okq 38) = true := by
    rw [List.all_eq_true]
    intro d hd
    obtain ⟨f, hf, rfl⟩ := List.mem_map.mp hd
    rfl
  show (((rs.map rowD).all (okq 37) && ((ws.map wallD).all (okq 37) && ((fs.map dialD).all (okq 37) && true))) && ((hs.map D.int).all (okq 38) && true)) = true
  rw [h1, h2, h3, h4]
  rfl
theorem okMut_best {fu : List Nat → Option Int} {nm : Nat → Str} {w : Str} {S : List Nat} {qq : List (List Nat)} (h1 : S.length ≤ 1000) (h2 : qq.length ≤ 1000) (h3 : ∀ T ∈ qq, T.length ≤ 1000) : okMut (.tup [.str w, nmD nm S, .lst (qq.map (rowB fu))]) = true := by
  have h4 : (qq.map (rowB fu)).all okRow = true := by
    rw [List.all_eq_true]
    intro d hd
    obtain ⟨T, hT, rfl⟩ := List.mem_map.mp hd
    show (decide ((T.map fun i : Nat => D.int (i : Int)).length ≤ 1000) && muInts (T.map fun i : Nat => D.int (i : Int))) = true
    have h5 : muInts (T.map fun i : Nat => D.int (i : Int)) = true := by
      unfold muInts
      rw [List.all_eq_true]
      intro d hd
      obtain ⟨S, _, rfl⟩ := List.mem_map.mp hd
      rfl
    rw [h5, List.length_map, decide_eq_true (h3 T hT)]
    rfl
  show (decide ((S.map fun i => D.str (nm i)).length ≤ 1000) && (decide ((qq.map (rowB fu)).length ≤ 1000) && (qq.map (rowB fu)).all okRow)) = true
  rw [h4, List.length_map, List.length_map, decide_eq_true h1, decide_eq_true h2]
  rfl
def handO (rs : List Row) (ws : List Wall) (fs : List Dial) (hs : List Int) : O := .l [.t [.l ((rs.map rowD).map .v), .l ((ws.map wallD).map .v), .l ((fs.map dialD).map .v)], .l ((hs.map D.int).map .v)]
theorem handO_ok (rs : List Row) (ws : List Wall) (fs : List Dial) (hs : List Int) : okO (handO rs ws fs hs) = true := by
  show ((okOs ((rs.map rowD).map .v) && (okOs ((ws.map wallD).map .v) && (okOs ((fs.map dialD).map .v) && true))) && (okOs ((hs.map D.int).map .v) && true)) = true
  rw [okOs_map fun d hd => by obtain ⟨r, _, rfl⟩ := List.mem_map.mp hd; exact noL_row r, okOs_map fun d hd => by obtain ⟨r, _, rfl⟩ := List.mem_map.mp hd; exact noL_wall r, okOs_map fun d hd => by obtain ⟨r, _, rfl⟩ := List.mem_map.mp hd; exact noL_dial r, okOs_map fun d hd => by obtain ⟨r, _, rfl⟩ := List.mem_map.mp hd; rfl]
  rfl
theorem handO_toD (rs : List Row) (ws : List Wall) (fs : List Dial) (hs : List Int) : (handO rs ws fs hs).toD = .lst [yardD rs ws fs, .lst (hs.map D.int)] := by
  show D.lst [.tup [.lst (O.toDs ((rs.map rowD).map .v)), .lst (O.toDs ((ws.map wallD).map .v)), .lst (O.toDs ((fs.map dialD).map .v))], .lst (O.toDs ((hs.map D.int).map .v))] = _
  rw [toDs_v, toDs_v, toDs_v, toDs_v]
  try rfl
set_option maxHeartbeats 4000000 in
theorem law_true (ns : List Int) (hl : ns.length ≤ 63) : f_law [.lst (ns.map .int)] = .ok (.bl true) := by
  refine law_of_wp ?_
  have either := sp_either ns (A := 3) (B := 3) (C := 6) (by decide) (by decide) (by decide) (by decide) (by decide) (by decide)
  have hours := fun {rs : List Row} {Y GD : D} {gs : List Int} y0 hGD h1 h2 h3 => sp_hours ns (rs := rs) (Y := Y) (GD := GD) (gs := gs) y0 hGD h1 h2 h3
  obtain ⟨dn, hdn⟩ : ∃ dn, D.lst (ns.map .int) = dn := ⟨_, rfl⟩
  rw [hdn] at either hours ⊢
  wtm_at "y_in"
  repeat' wtm_at "y_dy"
  refine either.no ?_
  rintro _ ⟨rs, ws, fs, rfl, hr1, y, lw, lf⟩
  have lr := y.lr
  have known : ∀ r ∈ rs, unkn rs r.1 = false := fun r hr => by
    unfold unkn
    cases q : rs.find? (fun a => decide (a.1 = r.1)) with
    | some _ => rfl
    | none => exact absurd (List.find?_eq_none.mp q r hr) (by simp)
  obtain ⟨Y, hY⟩ : ∃ Y, yardD rs ws fs = Y := ⟨_, rfl⟩
  have y0 : oIx Y (.int 0) = some (.lst (rs.map rowD)) := by rw [← hY]; rfl
  have y1 : oIx Y (.int 1) = some (.lst (ws.map wallD)) := by rw [← hY]; rfl
  have y2 : oIx Y (.int 2) = some (.lst (fs.map dialD)) := by rw [← hY]; rfl
  have hours := fun {GD : D} {gs : List Int} hGD h3 => hours (GD := GD) (gs := gs) y0 hGD hr1 (by omega) h3
  obtain ⟨TD, hTD⟩ : ∃ TD, D.lst (ws.map wallD) = TD := ⟨_, rfl⟩
  obtain ⟨n, hn⟩ : ∃ n, ws.length = n := ⟨_, rfl⟩
  obtain ⟨N, eN⟩ : ∃ N : Int, (n : Int) = N := ⟨_, rfl⟩
  have tl : oLen [TD] = some (.int N) := by rw [len_map hTD, hn, eN]
  have hrg : D.lst (rangeD 0 N.toNat) = nD (List.range n) := by
    rw [← eN, Int.toNat_natCast]
    unfold rangeD nD
    congr 1
    exact List.map_congr_left fun i _ => by rw [Int.zero_add]
  obtain ⟨SD0, hSD0⟩ : ∃ SD, nD (List.range n) = SD := ⟨_, rfl⟩
  have rd0 := fun {r : Row} (hr : r ∈ rs) => fun {P : D → Prop} => sp_lread hY hSD0 y (known r hr) (P := P)
  have fit0 : (rs.map rowD).length ≤ sizeLine := by rw [List.length_map, sizeLine_eq]; omega
  have it0 : iterD (.lst (rs.map rowD)) = some (rs.map rowD) := rfl
  rw [hY]
  repeat' ((fail_if_success (with_reducible show Dy.Got (oIx Y _) _)); first | wtm_at "y_dy" | wtm_at "y_fn")
  have y1T : oIx Y (.int 1) = some TD := by rw [y1, hTD]
  refine g_ot y1T ?_
  repeat' ((fail_if_success (with_reducible show Dy.Got (oLen _) _)); first | wtm_at "y_dy" | wtm_at "y_fn")
  refine g_ot tl ?_
  repeat' first | wtm_at "y_dy" | wtm_at "y_fn"
  refine ⟨⟨by omega, by omega⟩, ?_⟩
  rw [hrg, hSD0]
  repeat' ((fail_if_success (with_reducible show Dy.Got (oIx Y _) _)); wtm_at "y_dy")
  refine g_ot y0 ?_
  refine g_ot it0 ⟨fit0, ?_⟩
  repeat' ((fail_if_success (with_reducible show Dy.Got (compS _ _ _ _ _) _)); wtm_at "y_dy")
  refine c_listG (f := rowD) (g := fun r : Row => D.int r.1) (keep := fun r => !(redW rs ws fs (List.range n) r.1).isEmpty) (fun r hr => ?_) ?_
  · have rd1 := fun {P : D → Prop} => rd0 hr (P := P)
    repeat' wtm_at "y_dy"
    refine rd1 ?_
    repeat' wtm_at "y_dy"
    refine ⟨rfl, fun _ => ?_⟩
    repeat' wtm_at "y_dy"
    rfl
  have eG : ((rs.filter fun r => !(redW rs ws fs (List.range n) r.1).isEmpty).map fun r : Row => D.int r.1) = ((rs.filter fun r => !(redW rs ws fs (List.range n) r.1).isEmpty).map (·.1)).map D.int := by rw [List.map_map]; rfl
  rw [eG]
  have hG : ∀ h ∈ (rs.filter fun r => !(redW rs ws fs (List.range n) r.1).isEmpty).map (·.1), ∃ r ∈ rs, r.1 = h := fun h hh => by
    obtain ⟨r, hr, e⟩ := List.mem_map.mp hh
    exact ⟨r, (List.mem_filter.mp hr).1, e⟩
  generalize (rs.filter fun r => !(redW rs ws fs (List.range n) r.1).isEmpty).map (·.1) = gs at hG ⊢
  obtain ⟨GD, hGD⟩ : ∃ GD, D.lst (gs.map D.int) = GD := ⟨_, rfl⟩
  rw [hGD]
  have hours := hours hGD hG
  repeat' wtm_at "y_dy"
  refine hours.no ?_
  rintro _ ⟨hs, rfl, lh, hk⟩
  clear hours either eG hGD hG rd0
  have hb : bad1 rs hs = none := List.find?_eq_none.mpr fun h hh => by
    obtain ⟨r, hr, rfl⟩ := hk h hh
    rw [known r hr]
    exact fun z => nomatch z
  have knownh : ∀ h ∈ hs, unkn rs h = false := fun h hh => by
    have := List.find?_eq_none.mp hb h hh
    simpa using this
  have d1 := fun {P : D → Prop} => sp_gone y (by omega) (hs := hs) (by omega) (P := P) (E := NoE)
  have okH := okq_handed y hs
  have hO := handO_ok rs ws fs hs
  have hOD := handO_toD rs ws fs hs
  have hOe : handO rs ws fs hs = .l [.t [.l ((rs.map rowD).map .v), .l ((ws.map wallD).map .v), .l ((fs.map dialD).map .v)], .l ((hs.map D.int).map .v)] := rfl
  obtain ⟨OH, hOH⟩ : ∃ OH, handO rs ws fs hs = OH := ⟨_, rfl⟩
  obtain ⟨HD, hHD⟩ : ∃ HD, D.lst (hs.map D.int) = HD := ⟨_, rfl⟩
  obtain ⟨fu, hfu⟩ : ∃ fu, fuG rs ws fs hs = fu := ⟨_, rfl⟩
  obtain ⟨nm, hnm⟩ : ∃ nm : Nat → Str, wnm ws = nm := ⟨_, rfl⟩
  rw [hY, hHD, hn, hfu, hnm] at d1
  rw [hY, hHD] at hOD okH
  rw [hOH] at hO hOD hOe
  have nmE : ∀ i (hi : i < n), ws[i]? = some (ws[i]'(by omega)) ∧ nm i = (ws[i]'(by omega)).1 := fun i hi => by
    have ei : ws[i]? = some (ws[i]'(by omega)) := List.getElem?_eq_getElem (by omega)
    refine ⟨ei, ?_⟩
    rw [← hnm]
    unfold wnm
    rw [ei]
  have tix : ∀ i < n, ∃ x, oIx TD (.int (i : Int)) = some x ∧ oIx x (.int 0) = some (.str (nm i)) := fun i hi => by
    obtain ⟨ei, en⟩ := nmE i hi
    refine ⟨wallD (ws[i]'(by omega)), ?_, ?_⟩
    · rw [← hTD]
      show L2.atI (ws.map wallD) (i : Int) = _
      exact atI_nat (by rw [List.getElem?_map, ei]; rfl)
    · rw [en]
      rfl
  have due := fun {P : D → Prop} => sp_ldue (Y := Y) (TD := TD) (HD := HD) eN (by omega) (nms := nm) (fu := fu) (by rw [y1, hTD]) tl tix (fun hSD => sp_lmissed hY hSD hHD y knownh (by rw [hfu])) (P := P)
  have best := best_of (fu := fu) (nm := nmD nm) (w1 := "walls") (w2 := "never") (n := n) (by omega)
  have okB : okq 40 (bestB (fu) (nmD nm) "walls" "never" n) = true := by
    rcases best with ⟨h, e1, e2⟩ | ⟨j, S, qq, j1, j2, mS, fS, eqq, gq, e2⟩
    · rw [e2]
      show (PyData.strOk "never" && (true && true)) = true
      decide +kernel
    · rw [e2]
      obtain ⟨lS, bS⟩ := (combos_ok n (by omega) j j1).2 S mS
      have h1 : okq 39 (nmD nm S) = true := by
        show (S.map fun i => D.str (nm i)).all (okq 38) = true
        rw [List.all_eq_true]
        intro d hd
        obtain ⟨i, hi, rfl⟩ := List.mem_map.mp hd
        show PyData.strOk (nm i) = true
        rw [(nmE i (bS i hi)).2]
        exact (y.gw _ (List.getElem_mem _)).2
      show (PyData.strOk "walls" && (okq 39 (nmD nm S) && (okq 39 (.lst (qq.map (rowB (fu)))) && true))) = true
      rw [h1, okq_rows]
      decide +kernel
  obtain ⟨B, hB⟩ : ∃ B, bestB (fu) (nmD nm) "walls" "never" n = B := ⟨_, rfl⟩
  have bt : kitT B "tuple" = some true ∧ ∃ w : Str, oIx B (.int 0) = some (.str w) ∧ PyData.strOk w = true ∧ (decide (w = "walls") = true → okMut B = true ∧ ∃ ds es, oIx B (.int 1) = some (.lst ds) ∧ oIx B (.int 2) = some (.lst es)) := by
    rw [← hB]
    rcases best with ⟨h, e1, e2⟩ | ⟨j, S, qq, j1, j2, mS, fS, eqq, gq, e2⟩
    · rw [e2]
      exact ⟨rfl, "never", rfl, by decide +kernel, fun z => absurd z (by decide +kernel)⟩
    · rw [e2]
      obtain ⟨lS, bS⟩ := (combos_ok n (by omega) j j1).2 S mS
      refine ⟨rfl, "walls", rfl, by decide +kernel, fun _ => ⟨okMut_best (by omega) ?_ ?_, _, _, rfl, rfl⟩⟩
      · cases j with
        | zero => have eqq : qq = [] := eqq; rw [eqq]; exact Nat.zero_le _
        | succ j' =>
          have eqq : qq = combos n j' := eqq
          have := (combos_ok n (by omega) j' (by omega)).1
          rw [eqq]; omega
      · cases j with
        | zero => have eqq : qq = [] := eqq; rw [eqq]; exact fun _ h => nomatch h
        | succ j' =>
          have eqq : qq = combos n j' := eqq
          rw [eqq]
          intro T hT
          have := ((combos_ok n (by omega) j' (by omega)).2 T hT).1
          omega
  obtain ⟨bt, w, b0, bw, bd⟩ := bt
  rw [hB] at d1 due okB
  obtain ⟨HH, hHH⟩ : ∃ HH, D.lst [Y, HD] = HH := ⟨_, rfl⟩
  have hh0 : oIx HH (.int 0) = some Y := by rw [← hHH]; rfl
  have hh1 : oIx HH (.int 1) = some HD := by rw [← hHH]; rfl
  rw [hHH] at hOD okH
  rw [hHD]
  clear best hB
  repeat' wtm_at "y_dy"
  refine due ?_
  repeat' ((fail_if_success (with_reducible show SR.wp (sOwnT _ _ _) _ _ _)); wtm_at "y_dy")
  have hL : oList [HD] = some (.lst (hs.map D.int)) := by rw [← hHD]; rfl
  refine sp_ownT (wp_tC (wp_xTup (wp_tN (wp_xList ?_))))
  repeat' ((fail_if_success (with_reducible show Dy.Got (oIx Y _) _)); wtm_at "y_dy")
  refine g_ot y0 ?_
  repeat' ((fail_if_success (with_reducible show Dy.Got (oList _) _)); wtm_at "y_dy")
  refine g_ot rfl (is_l (wp_tN (wp_xList ?_)))
  repeat' ((fail_if_success (with_reducible show Dy.Got (oIx Y _) _)); wtm_at "y_dy")
  refine g_ot y1 ?_
  repeat' ((fail_if_success (with_reducible show Dy.Got (oList _) _)); wtm_at "y_dy")
  refine g_ot rfl (is_l (wp_tN (wp_xList ?_)))
  repeat' ((fail_if_success (with_reducible show Dy.Got (oIx Y _) _)); wtm_at "y_dy")
  refine g_ot y2 ?_
  repeat' ((fail_if_success (with_reducible show Dy.Got (oList _) _)); wtm_at "y_dy")
  refine g_ot rfl (is_l (wp_tNil ⟨by simp [sizeLine_eq], wp_tN (wp_xList ?_)⟩))
  repeat' ((fail_if_success (with_reducible show Dy.Got (oList _) _)); wtm_at "y_dy")
  refine g_ot hL (is_l (wp_tNil ⟨by simp [sizeLine_eq], ?_⟩))
  rw [← hOe]
  repeat' ((fail_if_success (with_reducible show SR.wp (sMu _ _ _ _ _ _ _ _ _) _ _ _)); wtm_at "y_dy")
  have fin : ∀ {N : REnv → Prop} {E : D → REnv → Prop}, SR.wp (sRet (eBin oEq (eCall f_fewest_gone (aCons (eVar 1) (aCons (eVar 3) (aNil)))) (eVar 4)) [.val dn, .val Y, .val SD0, .val HD, .val B, .un, .un, .un, .un, .un]) N (fun d => d = .bl true) E := by
    intro N E
    repeat' wtm_at "y_dy"
    refine R.wp.weak (d1 (fun _ => ?_) fun h hb3 => ?_)
    rotate_left
    · rw [hb] at hb3; cases hb3
    repeat' ((fail_if_success (with_reducible show Dy.Got (oEq _ _) _)); wtm_at "y_dy")
    exact w_eqS rfl okB rfl
  refine sp_mu rfl hO ⟨by simp, by simp, by simp⟩ ?_
  rw [hOD]
  refine (show R.wp (eCall _ _ [.un, .un, .un, .un, .un, .val HH, .un, .un, .un, .un]) _ _ from ?_)
  repeat' ((fail_if_success (with_reducible show Dy.Got (oIx HH _) _)); wtm_at "y_dy")
  refine g_ot hh0 ?_
  repeat' ((fail_if_success (with_reducible show Dy.Got (oIx HH _) _)); wtm_at "y_dy")
  refine g_ot hh1 ?_
  repeat' wtm_at "y_dy"
  refine d1 (fun _ => ?_) fun h hb3 => ?_
  rotate_left
  · rw [hb] at hb3; cases hb3
  refine (show R.wp (eOr _ _ [.val dn, .val Y, .val SD0, .val HD, .val B, .val HH, .val B, .un, .un, .un]) _ _ from ?_)
  repeat' ((fail_if_success (with_reducible show Dy.Got (oIsi _) _)); wtm_at "y_dy")
  refine w_isi bt ?_
  repeat' ((fail_if_success (with_reducible show Dy.Got (oNe _ _) _)); wtm_at "y_dy")
  refine w_neS rfl okB ?_
  repeat' ((fail_if_success (with_reducible show Dy.Got (oNe _ _) _)); wtm_at "y_dy")
  refine w_neS hHH.symm okH ?_
  repeat' ((fail_if_success (with_reducible show (_ = _) ∧ _)); wtm_at "y_dy")
  refine ⟨rfl, ?_⟩
  refine (show R.wp (eTest _ [.val dn, .val Y, .val SD0, .val HD, .val B, .val HH, .val B, .un, .un, .un]) _ _ from ?_)
  repeat' ((fail_if_success (with_reducible show Dy.Got (oIx B _) _)); wtm_at "y_dy")
  refine g_ot b0 ?_
  repeat' ((fail_if_success (with_reducible show Dy.Got (oEq _ _) _)); wtm_at "y_dy")
  refine w_eqStr bw (by decide +kernel) ?_
  refine ex_bl ?_
  refine ⟨fun _ => fin, fun hz => ?_⟩
  obtain ⟨okM, ds, es, b1, b2⟩ := bd hz
  refine (show R.wp (eOr _ _ [.val dn, .val Y, .val SD0, .val HD, .val B, .val HH, .val B, .un, .un, .un]) _ _ from ?_)
  repeat' ((fail_if_success (with_reducible show Dy.Got (oIx B _) _)); wtm_at "y_dy")
  refine g_ot b1 ?_
  repeat' ((fail_if_success (with_reducible show Dy.Got (oIsi _) _)); wtm_at "y_dy")
  refine w_isi rfl ?_
  repeat' ((fail_if_success (with_reducible show Dy.Got (oIx B _) _)); wtm_at "y_dy")
  refine g_ot b2 ?_
  repeat' ((fail_if_success (with_reducible show Dy.Got (oIsi _) _)); wtm_at "y_dy")
  refine w_isi rfl ?_
  repeat' ((fail_if_success (with_reducible show (_ = _) ∧ _)); wtm_at "y_dy")
  exact ⟨rfl, okM, fin⟩

end Gn
end
theorem PySem.Challenge.cw_dialyard_k62_fewest_gone_of_all_holds : PySem.Challenge.rw_dialyard_k62_fewest_gone_of_all.Holds :=
  Gn.holds_of Gn.law_true
