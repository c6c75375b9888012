import PyProof.Rows.All
import Wide.All
import OpenK.AllK
import Wide.FinOn
import HandS.ForMost
import HandS.ForSpec
import HandS.IsInst
import HandS.Zip
import HandS.Wide
import HandS.Deep
import HandS.Flow
import HandS.Defaults
import HandS.HeadHook2
import HandS.ExcValue
import HandS.ExcInit
import HandS.ExcIs
import HandS.ExcField
import HandS.TryMany
import HandS.TupAny
import HandS.Style
import HandS.Head0
import HandS.Head1
import HandS.Head2
import HandS.HeadEnd
import HandS.Flt
import HandS.ExcOwn
import PyProof.ExcBaseAll.ValueError
import HandS.TryOnly
import PyProof.EqKinds
import PyProof.FactsAll.dict_1
import HandS.FltList
import PyProof.Rows.RuleB_bool
import HandS.EndBits
import PyProof.NeKinds
import HandS.FStr
import HandS.Text
import KE.GoesComp
import KE.GoesRaise
import KE.DataMinMax
import PyProof.Rows.CallKwBuiltin
import HandS.Small
import HandS.Conv
import HandS.TryElse
import HandS.More
import PySem.Challenge.RW_dialyard_k86_rows_that_cannot_stand
set_option Elab.async false
set_option linter.all false
set_option maxRecDepth 100000
/-! A layer of plain data over the hand layer: values without addresses, and what the def's pieces make of them. -/
namespace Dy
open PySem PySem.Spec PyProof.Rows L2

abbrev St := L2.St
/-! ### data -/
inductive D where
  | non | bl (b : Bool) | int (i : Int) | str (x : Str) | ty (n : String) | cls (n : Str)
  | tup (xs : List D) | lst (xs : List D)
  | dct (ks : List Key) (xs : List D)
  | exc (c : Str) (fs : List Str) (xs : List D)
  deriving Inhabited

/-- an exception's object, kept -/
def xO (cls : Value) (a : Addr) (dd : Option Addr) : HO := .ext fun h => ∃ (oe : Obj) (vs : Array Value), h.get? a = some oe ∧ Zc cls dd oe ∧ oe.data = .fields vs

mutual
def Rep (K : PySem.W.Frag) (F : Hp) : D → V → Prop
  | .non, v => v = .non
  | .bl b, v => v = .bl b
  | .int i, v => v = .int i
  | .str x, v => v = .str x
  | .ty n, v => v = .ty n
  | .cls n, v => v = .ref (He.ga K n)
  | .tup xs, v => ∃ a vs, v = .ref a ∧ SqT K F a vs ∧ RepL K F xs vs
  | .lst xs, v => ∃ a vs, v = .ref a ∧ SqL K F a vs ∧ RepL K F xs vs
  | .dct ks xs, v => ∃ a vs, v = .ref a ∧ Rd F a (.dK (ks.zip vs)) ∧ ks.length = vs.length ∧ RepL K F xs vs
  | .exc c fs xs, v => ∃ a dd vs, v = .ref a ∧ F a = some (xO (.ref (He.ga K c)) a dd) ∧ fs.length = vs.length ∧ RepL K F xs vs ∧
      (match dd with | none => fs = [] | some d => F d = some (.xd (fs.zip vs)))
def RepL (K : PySem.W.Frag) (F : Hp) : List D → List V → Prop
  | [], vs => vs = []
  | d :: ds, vs => ∃ v r, vs = v :: r ∧ Rep K F d v ∧ RepL K F ds r
end

section
variable {K : PySem.W.Frag} {F F' H H' : Hp}
theorem Same.seqT {a : Addr} {xs : List V} (e : Same H H') (h : SqT K H a xs) : SqT K H' a xs := by
  rcases h with (h | ⟨o, h⟩) | h
  · exact .inl (.inl (e _ _ h))
  · exact .inl (.inr ⟨o, e _ _ h⟩)
  · exact .inr h
theorem Same.rd {a : Addr} {u : HO} (e : Same H H') (h : Rd H a u) : Rd H' a u := by
  rcases h with h | ⟨o, h⟩
  · exact .inl (e _ _ h)
  · exact .inr ⟨o, e _ _ h⟩
mutual
theorem Rep.mono (e : Same F F') : ∀ (d : D) (v : V), Rep K F d v → Rep K F' d v
  | .non, v, h => by simpa [Rep] using h
  | .bl b, v, h => by simpa [Rep] using h
  | .int i, v, h => by simpa [Rep] using h
  | .str x, v, h => by simpa [Rep] using h
  | .ty n, v, h => by simpa [Rep] using h
  | .cls n, v, h => by simpa [Rep] using h
  | .tup xs, v, h => by
    simp only [Rep] at h ⊢
    obtain ⟨a, vs, h1, h2, h3⟩ := h
    exact ⟨a, vs, h1, Same.seqT e h2, RepL.mono e xs vs h3⟩
  | .lst xs, v, h => by
    simp only [Rep] at h ⊢
    obtain ⟨a, vs, h1, h2, h3⟩ := h
    exact ⟨a, vs, h1, Same.seq e h2, RepL.mono e xs vs h3⟩
  | .dct ks xs, v, h => by
    simp only [Rep] at h ⊢
    obtain ⟨a, vs, h1, h2, h3, h4⟩ := h
    exact ⟨a, vs, h1, Same.rd e h2, h3, RepL.mono e xs vs h4⟩
  | .exc c fs xs, v, h => by
    simp only [Rep] at h ⊢
    obtain ⟨a, dd, vs, h1, h2, h3, h4, h5⟩ := h
    refine ⟨a, dd, vs, h1, e _ _ h2, h3, RepL.mono e xs vs h4, ?_⟩
    cases dd with
    | none => exact h5
    | some d => exact e _ _ h5
theorem RepL.mono (e : Same F F') : ∀ (ds : List D) (vs : List V), RepL K F ds vs → RepL K F' ds vs
  | [], vs, h => by simpa [RepL] using h
  | d :: ds, vs, h => by
    simp only [RepL] at h ⊢
    obtain ⟨v, r, h1, h2, h3⟩ := h
    exact ⟨v, r, h1, Rep.mono e d v h2, RepL.mono e ds r h3⟩
end
theorem RepL.length : ∀ {ds : List D} {vs : List V}, RepL K F ds vs → ds.length = vs.length
  | [], vs, h => by simp only [RepL] at h; subst h; rfl
  | d :: ds, vs, h => by
    simp only [RepL] at h
    obtain ⟨v, r, rfl, _, h3⟩ := h
    simp [RepL.length h3]
theorem RepL.get : ∀ {ds : List D} {vs : List V} {i : Nat} {d : D}, RepL K F ds vs → ds[i]? = some d → ∃ v, vs[i]? = some v ∧ Rep K F d v
  | [], vs, i, d, h, e => by simp at e
  | d0 :: ds, vs, 0, d, h, e => by
    simp only [RepL] at h
    obtain ⟨v, r, rfl, h2, _⟩ := h
    simp at e
    subst e
    exact ⟨v, rfl, h2⟩
  | d0 :: ds, vs, i + 1, d, h, e => by
    simp only [RepL] at h
    obtain ⟨v, r, rfl, _, h3⟩ := h
    simp only [List.getElem?_cons_succ] at e ⊢
    exact RepL.get h3 e
theorem RepL.get' {ds : List D} {vs : List V} {i : Nat} {v : V} (h : RepL K F ds vs) (e : vs[i]? = some v) : ∃ d, ds[i]? = some d ∧ Rep K F d v := by
  obtain ⟨hi, _⟩ := List.getElem?_eq_some_iff.mp e
  have hi2 : i < ds.length := by rw [h.length]; exact hi
  obtain ⟨v', e', r⟩ := h.get (List.getElem?_eq_getElem hi2)
  rw [e] at e'
  cases e'
  exact ⟨_, List.getElem?_eq_getElem hi2, r⟩
theorem RepL.nil : RepL K F [] [] := by simp [RepL]
theorem RepL.cons {d : D} {v : V} {ds : List D} {vs : List V} (h : Rep K F d v) (t : RepL K F ds vs) : RepL K F (d :: ds) (v :: vs) := by
  simp only [RepL]; exact ⟨v, vs, rfl, h, t⟩
theorem RepL.append : ∀ {ds es : List D} {vs ws : List V}, RepL K F ds vs → RepL K F es ws → RepL K F (ds ++ es) (vs ++ ws)
  | [], es, vs, ws, h, t => by simp only [RepL] at h; subst h; simpa using t
  | d :: ds, es, vs, ws, h, t => by
    simp only [RepL] at h
    obtain ⟨v, r, rfl, h2, h3⟩ := h
    exact RepL.cons h2 (RepL.append h3 t)
theorem RepL.drop : ∀ {ds : List D} {vs : List V} (n : Nat), RepL K F ds vs → RepL K F (ds.drop n) (vs.drop n)
  | ds, vs, 0, h => by simpa using h
  | [], vs, n + 1, h => by simp only [RepL] at h; subst h; simpa using RepL.nil
  | d :: ds, vs, n + 1, h => by
    simp only [RepL] at h
    obtain ⟨v, r, rfl, _, h3⟩ := h
    simpa using RepL.drop n h3
theorem RepL.take : ∀ {ds : List D} {vs : List V} (n : Nat), RepL K F ds vs → RepL K F (ds.take n) (vs.take n)
  | ds, vs, 0, h => by simpa using RepL.nil
  | [], vs, n + 1, h => by simp only [RepL] at h; subst h; simpa using RepL.nil
  | d :: ds, vs, n + 1, h => by
    simp only [RepL] at h
    obtain ⟨v, r, rfl, h2, h3⟩ := h
    simpa using RepL.cons h2 (RepL.take n h3)
theorem RepL.set {d : D} {v : V} (h : Rep K F d v) : ∀ {ds : List D} {vs : List V} (i : Nat), RepL K F ds vs → RepL K F (ds.set i d) (vs.set i v)
  | [], vs, i, t => by simp only [RepL] at t; subst t; simpa using RepL.nil
  | e :: ds, vs, 0, t => by
    simp only [RepL] at t
    obtain ⟨w, r, rfl, _, h3⟩ := t
    exact RepL.cons h h3
  | e :: ds, vs, i + 1, t => by
    simp only [RepL] at t
    obtain ⟨w, r, rfl, h2, h3⟩ := t
    exact RepL.cons h2 (RepL.set h i h3)
theorem RepL.snoc {ds : List D} {vs : List V} {d : D} {v : V} (h : RepL K F ds vs) (t : Rep K F d v) : RepL K F (ds ++ [d]) (vs ++ [v]) := h.append (RepL.cons t RepL.nil)

theorem Rep.int_inv {i : Int} {v : V} (h : Rep K F (.int i) v) : v = .int i := by simpa [Rep] using h
theorem Rep.bl_inv {i : Bool} {v : V} (h : Rep K F (.bl i) v) : v = .bl i := by simpa [Rep] using h
theorem Rep.str_inv {i : Str} {v : V} (h : Rep K F (.str i) v) : v = .str i := by simpa [Rep] using h
theorem Rep.non_inv {v : V} (h : Rep K F .non v) : v = .non := by simpa [Rep] using h
theorem Rep.mk_int {i : Int} : Rep K F (.int i) (.int i) := by simp [Rep]
theorem Rep.mk_bl {i : Bool} : Rep K F (.bl i) (.bl i) := by simp [Rep]
theorem Rep.mk_str {i : Str} : Rep K F (.str i) (.str i) := by simp [Rep]
theorem Rep.mk_non : Rep K F .non .non := by simp [Rep]
theorem Rep.mk_ty {n : String} : Rep K F (.ty n) (.ty n) := by simp [Rep]
theorem Rep.tup_inv {xs : List D} {v : V} (h : Rep K F (.tup xs) v) : ∃ a vs, v = .ref a ∧ SqT K F a vs ∧ RepL K F xs vs := by simpa [Rep] using h
theorem Rep.lst_inv {xs : List D} {v : V} (h : Rep K F (.lst xs) v) : ∃ a vs, v = .ref a ∧ SqL K F a vs ∧ RepL K F xs vs := by simpa [Rep] using h
theorem Rep.mk_tup {xs : List D} {a : Addr} {vs : List V} (h : SqT K F a vs) (t : RepL K F xs vs) : Rep K F (.tup xs) (.ref a) := by
  simp only [Rep]; exact ⟨a, vs, rfl, h, t⟩
theorem Rep.mk_lst {xs : List D} {a : Addr} {vs : List V} (h : SqL K F a vs) (t : RepL K F xs vs) : Rep K F (.lst xs) (.ref a) := by
  simp only [Rep]; exact ⟨a, vs, rfl, h, t⟩
end

/-! ### how the heap grows -/
structure Ext (F H F' H' : Hp) : Prop where
  f : Same F F'
  h : Same H H'
  s : Same F' H'
  n : ∀ a o, F' a = some o → F a = none → H a = none
section
variable {F H F' H' F'' H'' : Hp}
theorem Ext.refl (e : Same F H) : Ext F H F H := ⟨.refl _, .refl _, e, fun a o h1 h2 => by rw [h2] at h1; cases h1⟩
theorem Ext.trans (a : Ext F H F' H') (b : Ext F' H' F'' H'') : Ext F H F'' H'' := by
  refine ⟨a.f.trans b.f, a.h.trans b.h, b.s, fun c o h1 h2 => ?_⟩
  cases q : F' c with
  | none => exact a.h.free (b.n c o h1 q)
  | some u => exact a.n c u q h2
theorem same_upd {p : Addr} {o : HO} (h : H p = none) : Same H (upd H p o) := fun b x e => by
  rw [upd_ne (ne_of_none e h)]
  exact e
/-- a new object, kept -/
theorem Ext.new {p : Addr} {o : HO} (e : Same F H) (h : H p = none) : Ext F H (upd F p o) (upd H p o) := by
  have hf : F p = none := e.free h
  refine ⟨same_upd hf, same_upd h, fun b x q => ?_, fun b x q r => ?_⟩
  · by_cases hb : b = p
    · subst hb; rw [upd_same] at q ⊢; exact q
    · rw [upd_ne hb] at q ⊢; exact e _ _ q
  · by_cases hb : b = p
    · subst hb; exact h
    · rw [upd_ne hb, r] at q; cases q
/-- a new object, not kept -/
theorem Ext.newH {p : Addr} {o : HO} (e : Same F H) (h : H p = none) : Ext F H F (upd H p o) :=
  ⟨.refl _, same_upd h, e.trans (same_upd h), fun b x q r => by rw [r] at q; cases q⟩
end

/-! ### things of one's own: lists that nothing else knows, and tuples with such in them -/
inductive O where
  | v (d : D) | l (os : List O) | t (os : List O) | m (ks : List Key) (os : List O)
  deriving Inhabited
mutual
def O.toD : O → D
  | .v d => d
  | .l os => .lst (O.toDs os)
  | .t os => .tup (O.toDs os)
  | .m ks os => .dct ks (O.toDs os)
def O.toDs : List O → List D
  | [] => []
  | o :: os => O.toD o :: O.toDs os
end
mutual
def OwR (K : PySem.W.Frag) (F H : Hp) : O → V → List Addr → Prop
  | .v d, v, fp => Rep K F d v ∧ fp = []
  | .l os, v, fp => ∃ a vs fq, v = .ref a ∧ H a = some (.lst vs) ∧ fp = a :: fq ∧ OwRs K F H os vs fq
  | .t os, v, fp => ∃ a vs, v = .ref a ∧ F a = some (.tup vs) ∧ OwRs K F H os vs fp
  | .m ks os, v, fp => ∃ a vs fq, v = .ref a ∧ H a = some (.dK (ks.zip vs)) ∧ ks.length = vs.length ∧ fp = a :: fq ∧ OwRs K F H os vs fq
def OwRs (K : PySem.W.Frag) (F H : Hp) : List O → List V → List Addr → Prop
  | [], vs, fp => vs = [] ∧ fp = []
  | o :: os, vs, fp => ∃ v r f1 f2, vs = v :: r ∧ fp = f1 ++ f2 ∧ OwR K F H o v f1 ∧ OwRs K F H os r f2
end
section
variable {K : PySem.W.Frag} {F F' H H' : Hp}
mutual
theorem OwR.move (s : Same F F') : ∀ (o : O) (v : V) (fp : List Addr), OwR K F H o v fp → (∀ b ∈ fp, H' b = H b) → OwR K F' H' o v fp
  | .v d, v, fp, h, _ => by
    simp only [OwR] at h ⊢
    exact ⟨Rep.mono s _ _ h.1, h.2⟩
  | .l os, v, fp, h, k => by
    simp only [OwR] at h ⊢
    obtain ⟨a, vs, fq, h1, h2, h3, h4⟩ := h
    subst h3
    exact ⟨a, vs, fq, h1, by rw [k a List.mem_cons_self]; exact h2, rfl, OwRs.move s os vs fq h4 fun b hb => k b (List.mem_cons_of_mem _ hb)⟩
  | .t os, v, fp, h, k => by
    simp only [OwR] at h ⊢
    obtain ⟨a, vs, h1, h2, h4⟩ := h
    exact ⟨a, vs, h1, s _ _ h2, OwRs.move s os vs fp h4 k⟩
  | .m ks os, v, fp, h, k => by
    simp only [OwR] at h ⊢
    obtain ⟨a, vs, fq, h1, h2, h5, h3, h4⟩ := h
    subst h3
    exact ⟨a, vs, fq, h1, by rw [k a List.mem_cons_self]; exact h2, h5, rfl, OwRs.move s os vs fq h4 fun b hb => k b (List.mem_cons_of_mem _ hb)⟩
theorem OwRs.move (s : Same F F') : ∀ (os : List O) (vs : List V) (fp : List Addr), OwRs K F H os vs fp → (∀ b ∈ fp, H' b = H b) → OwRs K F' H' os vs fp
  | [], vs, fp, h, _ => by simpa only [OwRs] using h
  | o :: os, vs, fp, h, k => by
    simp only [OwRs] at h ⊢
    obtain ⟨v, r, f1, f2, h1, h2, h3, h4⟩ := h
    subst h2
    exact ⟨v, r, f1, f2, h1, rfl, OwR.move s o v f1 h3 fun b hb => k b (List.mem_append_left _ hb), OwRs.move s os r f2 h4 fun b hb => k b (List.mem_append_right _ hb)⟩
end
theorem zip_inj {κ : Type} : ∀ {ks : List κ} {vs ws : List V}, ks.length = vs.length → ks.length = ws.length → ks.zip vs = ks.zip ws → vs = ws
  | [], [], [], _, _, _ => rfl
  | [], _ :: _, _, h, _, _ => nomatch h
  | [], [], _ :: _, _, h, _ => nomatch h
  | _ :: _, [], _, h, _, _ => nomatch h
  | _ :: _, _ :: _, [], _, h, _ => nomatch h
  | k :: ks, v :: vs, w :: ws, h1, h2, h3 => by
    rw [List.zip_cons_cons, List.zip_cons_cons, List.cons.injEq, Prod.mk.injEq] at h3
    rw [h3.1.2, zip_inj (by simpa using h1) (by simpa using h2) h3.2]
mutual
theorem OwR.uniq : ∀ (o : O) (v : V) (fp fp' : List Addr), OwR K F H o v fp → OwR K F H o v fp' → fp = fp'
  | .v d, v, fp, fp', h, h' => by
    simp only [OwR] at h h'
    rw [h.2, h'.2]
  | .l os, v, fp, fp', h, h' => by
    simp only [OwR] at h h'
    obtain ⟨a, vs, fq, h1, h2, h3, h4⟩ := h
    obtain ⟨a', vs', fq', h1', h2', h3', h4'⟩ := h'
    rw [h1] at h1'
    cases h1'
    rw [h2] at h2'
    cases h2'
    rw [h3, h3', OwRs.uniq os vs fq fq' h4 h4']
  | .t os, v, fp, fp', h, h' => by
    simp only [OwR] at h h'
    obtain ⟨a, vs, h1, h2, h4⟩ := h
    obtain ⟨a', vs', h1', h2', h4'⟩ := h'
    rw [h1] at h1'
    cases h1'
    rw [h2] at h2'
    cases h2'
    exact OwRs.uniq os vs fp fp' h4 h4'
  | .m ks os, v, fp, fp', h, h' => by
    simp only [OwR] at h h'
    obtain ⟨a, vs, fq, h1, h2, h5, h3, h4⟩ := h
    obtain ⟨a', vs', fq', h1', h2', h5', h3', h4'⟩ := h'
    rw [h1] at h1'
    cases h1'
    rw [h2] at h2'
    have e : vs = vs' := zip_inj h5 h5' (by injection h2' with q; injection q)
    subst e
    rw [h3, h3', OwRs.uniq os vs fq fq' h4 h4']
theorem OwRs.uniq : ∀ (os : List O) (vs : List V) (fp fp' : List Addr), OwRs K F H os vs fp → OwRs K F H os vs fp' → fp = fp'
  | [], vs, fp, fp', h, h' => by
    simp only [OwRs] at h h'
    rw [h.2, h'.2]
  | o :: os, vs, fp, fp', h, h' => by
    simp only [OwRs] at h h'
    obtain ⟨v, r, f1, f2, h1, h2, h3, h4⟩ := h
    obtain ⟨v', r', f1', f2', h1', h2', h3', h4'⟩ := h'
    rw [h1] at h1'
    cases h1'
    rw [h2, h2', OwR.uniq o v f1 f1' h3 h3', OwRs.uniq os r f2 f2' h4 h4']
end
mutual
theorem OwR.inHL : ∀ (o : O) (v : V) (fp : List Addr), OwR K F H o v fp → ∀ a ∈ fp, (∃ vs, H a = some (.lst vs)) ∨ ∃ z, H a = some (.dK z)
  | .v d, v, fp, h, a, ha => by
    simp only [OwR] at h
    rw [h.2] at ha
    cases ha
  | .l os, v, fp, h, a, ha => by
    simp only [OwR] at h
    obtain ⟨a', vs, fq, h1, h2, h3, h4⟩ := h
    subst h3
    rcases List.mem_cons.mp ha with rfl | ha
    · exact .inl ⟨_, h2⟩
    · exact OwRs.inHL os vs fq h4 a ha
  | .m ks os, v, fp, h, a, ha => by
    simp only [OwR] at h
    obtain ⟨a', vs, fq, h1, h2, h5, h3, h4⟩ := h
    subst h3
    rcases List.mem_cons.mp ha with rfl | ha
    · exact .inr ⟨_, h2⟩
    · exact OwRs.inHL os vs fq h4 a ha
  | .t os, v, fp, h, a, ha => by
    simp only [OwR] at h
    obtain ⟨a', vs, h1, h2, h4⟩ := h
    exact OwRs.inHL os vs fp h4 a ha
theorem OwRs.inHL : ∀ (os : List O) (vs : List V) (fp : List Addr), OwRs K F H os vs fp → ∀ a ∈ fp, (∃ vs, H a = some (.lst vs)) ∨ ∃ z, H a = some (.dK z)
  | [], vs, fp, h, a, ha => by
    simp only [OwRs] at h
    rw [h.2] at ha
    cases ha
  | o :: os, vs, fp, h, a, ha => by
    simp only [OwRs] at h
    obtain ⟨v, r, f1, f2, h1, h2, h3, h4⟩ := h
    subst h2
    rcases List.mem_append.mp ha with ha | ha
    · exact OwR.inHL o v f1 h3 a ha
    · exact OwRs.inHL os r f2 h4 a ha
end
theorem OwR.inH (o : O) (v : V) (fp : List Addr) (h : OwR K F H o v fp) (a : Addr) (ha : a ∈ fp) : ∃ u, H a = some u := by
  rcases OwR.inHL o v fp h a ha with ⟨_, e⟩ | ⟨_, e⟩
  · exact ⟨_, e⟩
  · exact ⟨_, e⟩
theorem OwRs.inH (os : List O) (vs : List V) (fp : List Addr) (h : OwRs K F H os vs fp) (a : Addr) (ha : a ∈ fp) : ∃ u, H a = some u := by
  rcases OwRs.inHL os vs fp h a ha with ⟨_, e⟩ | ⟨_, e⟩
  · exact ⟨_, e⟩
  · exact ⟨_, e⟩
/-- an object of a class, its fields, what they hold -/
def ObR (K : PySem.W.Frag) (F H : Hp) (c : Str) (ks : List Str) (os : List O) (v : V) (fp : List Addr) : Prop :=
  ∃ a dx vs fq, v = .ref a ∧ H a = some (.ins (He.ga K c) dx (ks.zip vs)) ∧ H dx = some (.own a) ∧ ks.length = vs.length ∧ fp = a :: dx :: fq ∧ OwRs K F H os vs fq
theorem ObR.move {c : Str} {ks : List Str} {os : List O} {v : V} {fp : List Addr} (s : Same F F') (h : ObR K F H c ks os v fp) (k : ∀ b ∈ fp, H' b = H b) : ObR K F' H' c ks os v fp := by
  obtain ⟨a, dx, vs, fq, h1, h2, h3, h4, rfl, h6⟩ := h
  exact ⟨a, dx, vs, fq, h1, by rw [k a List.mem_cons_self]; exact h2, by rw [k dx (List.mem_cons_of_mem _ List.mem_cons_self)]; exact h3, h4, rfl, OwRs.move s os vs fq h6 fun b hb => k b (List.mem_cons_of_mem _ (List.mem_cons_of_mem _ hb))⟩
theorem ObR.uniq {c : Str} {ks : List Str} {os : List O} {v : V} {fp fp' : List Addr} (h : ObR K F H c ks os v fp) (h' : ObR K F H c ks os v fp') : fp = fp' := by
  obtain ⟨a, dx, vs, fq, h1, h2, h3, h4, rfl, h6⟩ := h
  obtain ⟨a', dx', vs', fq', h1', h2', h3', h4', rfl, h6'⟩ := h'
  rw [h1] at h1'
  cases h1'
  rw [h2] at h2'
  injection h2' with q
  injection q with q1 q2 q3
  subst q2
  have e : vs = vs' := zip_inj h4 h4' q3
  subst e
  rw [OwRs.uniq os vs fq fq' h6 h6']
theorem ObR.inH {c : Str} {ks : List Str} {os : List O} {v : V} {fp : List Addr} (h : ObR K F H c ks os v fp) (b : Addr) (hb : b ∈ fp) : ∃ u, H b = some u := by
  obtain ⟨a, dx, vs, fq, h1, h2, h3, h4, rfl, h6⟩ := h
  rcases List.mem_cons.mp hb with rfl | hb
  · exact ⟨_, h2⟩
  · rcases List.mem_cons.mp hb with rfl | hb
    · exact ⟨_, h3⟩
    · exact OwRs.inH os vs fq h6 b hb
open Classical in
/-- the heap of kept things with more kept from another one -/
noncomputable def addF (F H : Hp) (fp : List Addr) : Hp := fun a => if a ∈ fp then H a else F a
theorem addF_in {a : Addr} {fp : List Addr} (h : a ∈ fp) : addF F H fp a = H a := by
  unfold addF
  rw [if_pos h]
theorem addF_out {a : Addr} {fp : List Addr} (h : a ∉ fp) : addF F H fp a = F a := by
  unfold addF
  rw [if_neg h]
theorem addF_same {fp : List Addr} (h : ∀ a ∈ fp, F a = none) : Same F (addF F H fp) := fun a o e => by
  by_cases q : a ∈ fp
  · rw [h a q] at e; cases e
  · rw [addF_out q]; exact e
theorem addF_H {fp : List Addr} (s : Same F H) : Same (addF F H fp) H := fun a o e => by
  by_cases q : a ∈ fp
  · rw [addF_in q] at e; exact e
  · rw [addF_out q] at e; exact s _ _ e
mutual
/-- all of one's own is kept from here on -/
theorem OwR.frz (s : Same F F') : ∀ (o : O) (v : V) (fp : List Addr), OwR K F H o v fp → (∀ a ∈ fp, F' a = H a) → Rep K F' o.toD v
  | .v d, v, fp, h, _ => by
    simp only [OwR] at h
    simp only [O.toD]
    exact Rep.mono s _ _ h.1
  | .l os, v, fp, h, k => by
    simp only [OwR] at h
    simp only [O.toD]
    obtain ⟨a, vs, fq, h1, h2, h3, h4⟩ := h
    subst h3
    subst h1
    exact Rep.mk_lst (.of (by rw [k a List.mem_cons_self]; exact h2)) (OwRs.frz s os vs fq h4 fun b hb => k b (List.mem_cons_of_mem _ hb))
  | .t os, v, fp, h, k => by
    simp only [OwR] at h
    simp only [O.toD]
    obtain ⟨a, vs, h1, h2, h4⟩ := h
    subst h1
    exact Rep.mk_tup (.of (s _ _ h2)) (OwRs.frz s os vs fp h4 k)
  | .m ks os, v, fp, h, k => by
    simp only [OwR] at h
    simp only [O.toD]
    obtain ⟨a, vs, fq, h1, h2, h5, h3, h4⟩ := h
    subst h3
    subst h1
    simp only [Rep]
    exact ⟨a, vs, rfl, .inl (by rw [k a List.mem_cons_self]; exact h2), h5, OwRs.frz s os vs fq h4 fun b hb => k b (List.mem_cons_of_mem _ hb)⟩
theorem OwRs.frz (s : Same F F') : ∀ (os : List O) (vs : List V) (fp : List Addr), OwRs K F H os vs fp → (∀ a ∈ fp, F' a = H a) → RepL K F' (O.toDs os) vs
  | [], vs, fp, h, _ => by
    simp only [OwRs] at h
    simp only [O.toDs, RepL]
    exact h.1
  | o :: os, vs, fp, h, k => by
    simp only [OwRs] at h
    simp only [O.toDs]
    obtain ⟨v, r, f1, f2, h1, h2, h3, h4⟩ := h
    subst h2
    subst h1
    exact RepL.cons (OwR.frz s o v f1 h3 fun b hb => k b (List.mem_append_left _ hb)) (OwRs.frz s os r f2 h4 fun b hb => k b (List.mem_append_right _ hb))
end
end

/-! ### slots -/
inductive Sl where
  | un | val (d : D) | own (ds : List D) | ownD (ks : List Key) (ds : List D) | tree (o : O) | pin (w : V) (o : O) | obj (w : Option V) (c : Str) (ks : List Str) (os : List O) | fob (c : Str) (ks : List Str) (ds : List D)
instance : Inhabited Sl := ⟨.un⟩
abbrev REnv := List Sl

def SlOk (K : PySem.W.Frag) (G F H : Hp) : Sl → Option V → Prop
  | .un, _ => True
  | .val d, x => ∃ v, x = some v ∧ Rep K F d v
  | .own ds, x => ∃ a vs, x = some (.ref a) ∧ H a = some (.lst vs) ∧ RepL K F ds vs ∧ F a = none ∧ G a = none
  | .ownD ks ds, x => ∃ a vs, x = some (.ref a) ∧ H a = some (.dK (ks.zip vs)) ∧ ks.length = vs.length ∧ RepL K F ds vs ∧ F a = none ∧ G a = none
  | .tree o, x => ∃ v fp, x = some v ∧ OwR K F H o v fp ∧ fp.Nodup ∧ ∀ a ∈ fp, F a = none ∧ G a = none
  | .pin w o, x => x = some w ∧ ∃ v fp, x = some v ∧ OwR K F H o v fp ∧ fp.Nodup ∧ ∀ a ∈ fp, F a = none ∧ G a = none
  | .obj w c ks os, x => (∀ u, w = some u → x = some u) ∧ ∃ v fp, x = some v ∧ ObR K F H c ks os v fp ∧ fp.Nodup ∧ ∀ a ∈ fp, F a = none ∧ G a = none
  | .fob c ks ds, x => ∃ a dx vs, x = some (.ref a) ∧ F a = some (.ins (He.ga K c) dx (ks.zip vs)) ∧ ks.length = vs.length ∧ RepL K F ds vs
/-- what a slot has of its own -/
def Owned (K : PySem.W.Frag) (F H : Hp) : Sl → Option V → Addr → Prop
  | .own _, x, a => x = some (.ref a)
  | .ownD _ _, x, a => x = some (.ref a)
  | .tree o, x, a => ∃ v fp, x = some v ∧ OwR K F H o v fp ∧ a ∈ fp
  | .pin _ o, x, a => ∃ v fp, x = some v ∧ OwR K F H o v fp ∧ a ∈ fp
  | .obj _ c ks os, x, a => ∃ v fp, x = some v ∧ ObR K F H c ks os v fp ∧ a ∈ fp
  | _, _, _ => False

structure RepE (K : PySem.W.Frag) (G F H : Hp) (σ : St) (ρ : REnv) : Prop where
  g : Same G H
  f : Same F H
  len : ρ.length = σ.length
  at_ : ∀ (i : Nat) (s : Sl) (x : Option V), ρ[i]? = some s → σ[i]? = some x → SlOk K G F H s x
  ap : ∀ (i j : Nat) (s t : Sl) (x y : Option V) (a : Addr), i ≠ j → ρ[i]? = some s → ρ[j]? = some t → σ[i]? = some x → σ[j]? = some y → Owned K F H s x a → Owned K F H t y a → False

/-- new kept objects are younger than G -/
def NewG (G F F' : Hp) : Prop := ∀ a o, F' a = some o → F a = none → G a = none

section
variable {K : PySem.W.Frag} {G F H F' H' : Hp} {σ : St} {ρ : REnv}
theorem NewG.refl : NewG G F F := fun a o h1 h2 => by rw [h2] at h1; cases h1
theorem NewG.trans {F'' : Hp} (a : NewG G F F') (b : NewG G F' F'') : NewG G F F'' := fun c o h1 h2 => by
  cases q : F' c with
  | none => exact b c o h1 q
  | some u => exact a c u q h2
theorem Ext.newG (e : Ext F H F' H') (g : Same G H) : NewG G F F' := fun a o h1 h2 => g.free (e.n a o h1 h2)
/-- what is one's own is known, and not kept -/
theorem SlOk.own {s : Sl} {x : Option V} (h : SlOk K G F H s x) {a : Addr} (o : Owned K F H s x a) : (∃ u, H a = some u) ∧ F a = none ∧ G a = none := by
  cases s with
  | un => exact o.elim
  | val d => exact o.elim
  | own ds =>
    obtain ⟨b, vs, e1, e2, e3, e4, e5⟩ := h
    have o : x = some (.ref a) := o
    rw [e1] at o
    cases o
    exact ⟨⟨_, e2⟩, e4, e5⟩
  | ownD ks ds =>
    obtain ⟨b, vs, e1, e2, e3, e6, e4, e5⟩ := h
    have o : x = some (.ref a) := o
    rw [e1] at o
    cases o
    exact ⟨⟨_, e2⟩, e4, e5⟩
  | tree q =>
    obtain ⟨v, fp, e1, e2, e3, e4⟩ := h
    obtain ⟨v', fp', e1', e2', e3'⟩ := o
    rw [e1] at e1'
    cases e1'
    rw [OwR.uniq q v fp' fp e2' e2] at e3'
    obtain ⟨vs, hv⟩ := OwR.inH q v fp e2 a e3'
    exact ⟨⟨_, hv⟩, e4 a e3'⟩
  | pin w q =>
    obtain ⟨_, v, fp, e1, e2, e3, e4⟩ := h
    obtain ⟨v', fp', e1', e2', e3'⟩ := o
    rw [e1] at e1'
    cases e1'
    rw [OwR.uniq q v fp' fp e2' e2] at e3'
    obtain ⟨vs, hv⟩ := OwR.inH q v fp e2 a e3'
    exact ⟨⟨_, hv⟩, e4 a e3'⟩
  | obj w c ks os =>
    obtain ⟨_, v, fp, e1, e2, e3, e4⟩ := h
    obtain ⟨v', fp', e1', e2', e3'⟩ := o
    rw [e1] at e1'
    cases e1'
    rw [ObR.uniq e2' e2] at e3'
    obtain ⟨vs, hv⟩ := ObR.inH e2 a e3'
    exact ⟨⟨_, hv⟩, e4 a e3'⟩
  | fob c ks ds => exact o.elim
theorem SlOk.move {s : Sl} {x : Option V} (h : SlOk K G F H s x) (m : Same F F') (k : ∀ b, Owned K F H s x b → H' b = H b ∧ F' b = none) : SlOk K G F' H' s x ∧ ∀ a, Owned K F' H' s x a → Owned K F H s x a := by
  cases s with
  | un => exact ⟨trivial, fun a o => o.elim⟩
  | val d =>
    obtain ⟨v, e1, e2⟩ := h
    exact ⟨⟨v, e1, Rep.mono m _ _ e2⟩, fun a o => o.elim⟩
  | own ds =>
    obtain ⟨a, vs, e1, e2, e3, e4, e5⟩ := h
    obtain ⟨k1, k2⟩ := k a e1
    exact ⟨⟨a, vs, e1, by rw [k1]; exact e2, RepL.mono m _ _ e3, k2, e5⟩, fun a o => o⟩
  | ownD ks ds =>
    obtain ⟨a, vs, e1, e2, e3, e6, e4, e5⟩ := h
    obtain ⟨k1, k2⟩ := k a e1
    exact ⟨⟨a, vs, e1, by rw [k1]; exact e2, e3, RepL.mono m _ _ e6, k2, e5⟩, fun a o => o⟩
  | tree q =>
    obtain ⟨v, fp, e1, e2, e3, e4⟩ := h
    have kk : ∀ b ∈ fp, H' b = H b ∧ F' b = none := fun b hb => k b ⟨v, fp, e1, e2, hb⟩
    have e2' := OwR.move m q v fp e2 fun b hb => (kk b hb).1
    refine ⟨⟨v, fp, e1, e2', e3, fun b hb => ⟨(kk b hb).2, (e4 b hb).2⟩⟩, fun a o => ?_⟩
    obtain ⟨v', fp', o1, o2, o3⟩ := o
    rw [e1] at o1
    cases o1
    rw [OwR.uniq q v fp' fp o2 e2'] at o3
    exact ⟨v, fp, e1, e2, o3⟩
  | pin w q =>
    obtain ⟨e0, v, fp, e1, e2, e3, e4⟩ := h
    have kk : ∀ b ∈ fp, H' b = H b ∧ F' b = none := fun b hb => k b ⟨v, fp, e1, e2, hb⟩
    have e2' := OwR.move m q v fp e2 fun b hb => (kk b hb).1
    refine ⟨⟨e0, v, fp, e1, e2', e3, fun b hb => ⟨(kk b hb).2, (e4 b hb).2⟩⟩, fun a o => ?_⟩
    obtain ⟨v', fp', o1, o2, o3⟩ := o
    rw [e1] at o1
    cases o1
    rw [OwR.uniq q v fp' fp o2 e2'] at o3
    exact ⟨v, fp, e1, e2, o3⟩
  | obj w c ks os =>
    obtain ⟨e0, v, fp, e1, e2, e3, e4⟩ := h
    have kk : ∀ b ∈ fp, H' b = H b ∧ F' b = none := fun b hb => k b ⟨v, fp, e1, e2, hb⟩
    have e2' := ObR.move m e2 fun b hb => (kk b hb).1
    refine ⟨⟨e0, v, fp, e1, e2', e3, fun b hb => ⟨(kk b hb).2, (e4 b hb).2⟩⟩, fun a o => ?_⟩
    obtain ⟨v', fp', o1, o2, o3⟩ := o
    rw [e1] at o1
    cases o1
    rw [ObR.uniq o2 e2'] at o3
    exact ⟨v, fp, e1, e2, o3⟩
  | fob c ks ds =>
    obtain ⟨a, dx, vs, e1, e2, e3, e4⟩ := h
    exact ⟨⟨a, dx, vs, e1, m _ _ e2, e3, RepL.mono m _ _ e4⟩, fun a o => o.elim⟩
/-- all slots as they were -/
theorem RepE.keep (r : RepE K G F H σ ρ) (g : Same G H') (f : Same F' H') (m : Same F F') (k : ∀ (i : Nat) (s : Sl) (x : Option V) (b : Addr), ρ[i]? = some s → σ[i]? = some x → Owned K F H s x b → H' b = H b ∧ F' b = none) : RepE K G F' H' σ ρ :=
  ⟨g, f, r.len, fun i s x h1 h2 => ((r.at_ i s x h1 h2).move m (fun b o => k i s x b h1 h2 o)).1, fun i j s t x y a hij h1 h2 h3 h4 o1 o2 =>
    r.ap i j s t x y a hij h1 h2 h3 h4 (((r.at_ i s x h1 h3).move (F' := F') (H' := H') m (fun b o => k i s x b h1 h3 o)).2 a o1) (((r.at_ j t y h2 h4).move (F' := F') (H' := H') m (fun b o => k j t y b h2 h4 o)).2 a o2)⟩
/-- one slot takes another thing -/
theorem RepE.put (r : RepE K G F H σ ρ) {i : Nat} {s' : Sl} {x' : Option V} (g : Same G H') (f : Same F' H') (m : Same F F')
    (k : ∀ (j : Nat) (s : Sl) (x : Option V) (b : Addr), j ≠ i → ρ[j]? = some s → σ[j]? = some x → Owned K F H s x b → H' b = H b ∧ F' b = none)
    (new : SlOk K G F' H' s' x') (dis : ∀ a, Owned K F' H' s' x' a → ∀ (j : Nat) (s : Sl) (x : Option V), j ≠ i → ρ[j]? = some s → σ[j]? = some x → Owned K F H s x a → False) : RepE K G F' H' (σ.set i x') (ρ.set i s') := by
  have hlen : (ρ.set i s').length = (σ.set i x').length := by simp [r.len]
  have self : ∀ (s : Sl) (x : Option V), (ρ.set i s')[i]? = some s → (σ.set i x')[i]? = some x → s = s' ∧ x = x' := fun s x h1 h2 => by
    have hi : i < ρ.length := by
      obtain ⟨q, _⟩ := List.getElem?_eq_some_iff.mp h1
      simpa using q
    rw [List.getElem?_set_self hi] at h1
    rw [List.getElem?_set_self (by rw [← r.len]; exact hi)] at h2
    cases h1
    cases h2
    exact ⟨rfl, rfl⟩
  have other : ∀ (j : Nat) (s : Sl) (x : Option V), j ≠ i → (ρ.set i s')[j]? = some s → (σ.set i x')[j]? = some x → ρ[j]? = some s ∧ σ[j]? = some x ∧ SlOk K G F' H' s x ∧ ∀ a, Owned K F' H' s x a → Owned K F H s x a := fun j s x hj h1 h2 => by
    rw [List.getElem?_set_ne (fun z => hj z.symm)] at h1 h2
    exact ⟨h1, h2, (r.at_ j s x h1 h2).move m fun b o => k j s x b hj h1 h2 o⟩
  refine ⟨g, f, hlen, fun j s x h1 h2 => ?_, fun j l s t x y a hjl h1 h2 h3 h4 o1 o2 => ?_⟩
  · by_cases hj : j = i
    · subst hj
      obtain ⟨rfl, rfl⟩ := self s x h1 h2
      exact new
    · exact (other j s x hj h1 h2).2.2.1
  · by_cases hj : j = i
    · subst hj
      obtain ⟨rfl, rfl⟩ := self s x h1 h3
      obtain ⟨q1, q2, _, q4⟩ := other l t y (fun z => hjl z.symm) h2 h4
      exact dis a o1 l t y (fun z => hjl z.symm) q1 q2 (q4 a o2)
    · obtain ⟨p1, p2, _, p4⟩ := other j s x hj h1 h3
      by_cases hl : l = i
      · subst hl
        obtain ⟨rfl, rfl⟩ := self t y h2 h4
        exact dis a o2 j s x hj p1 p2 (p4 a o1)
      · obtain ⟨q1, q2, _, q4⟩ := other l t y hl h2 h4
        exact r.ap j l s t x y a hjl p1 q1 p2 q2 (p4 a o1) (q4 a o2)
theorem RepE.ext (r : RepE K G F H σ ρ) (e : Ext F H F' H') : RepE K G F' H' σ ρ := by
  refine r.keep (r.g.trans e.h) e.s e.f fun i s x b h1 h2 o => ?_
  obtain ⟨⟨u, hu⟩, hf, _⟩ := (r.at_ i s x h1 h2).own o
  refine ⟨by rw [hu]; exact e.h _ _ hu, ?_⟩
  cases q : F' b with
  | none => rfl
  | some w =>
    have := e.n b w q hf
    rw [hu] at this
    cases this
/-- a slot takes a kept value -/
theorem RepE.setV (r : RepE K G F H σ ρ) {i : Nat} {d : D} {v : V} (h : Rep K F d v) : RepE K G F H (σ.set i (some v)) (ρ.set i (.val d)) :=
  r.put r.g r.f (.refl _) (fun j s x b _ h1 h2 o => ⟨rfl, ((r.at_ j s x h1 h2).own o).2.1⟩) ⟨v, rfl, h⟩ fun a o => o.elim
/-- a slot is forgotten -/
theorem RepE.unset (r : RepE K G F H σ ρ) {i : Nat} {x : Option V} : RepE K G F H (σ.set i x) (ρ.set i .un) :=
  r.put r.g r.f (.refl _) (fun j s x b _ h1 h2 o => ⟨rfl, ((r.at_ j s x h1 h2).own o).2.1⟩) trivial fun a o => o.elim
/-- a slot takes a new list of its own -/
theorem RepE.setO (r : RepE K G F H σ ρ) {i : Nat} {ds : List D} {a : Addr} {vs : List V} (h : RepL K F ds vs) (ha : H a = none) : RepE K G F (upd H a (.lst vs)) (σ.set i (some (.ref a))) (ρ.set i (.own ds)) := by
  have hf : F a = none := r.f.free ha
  have hg : G a = none := r.g.free ha
  have nab : ∀ (j : Nat) (s : Sl) (x : Option V) (b : Addr), ρ[j]? = some s → σ[j]? = some x → Owned K F H s x b → b ≠ a := fun j s x b h1 h2 o e => by
    obtain ⟨⟨u, hu⟩, _⟩ := (r.at_ j s x h1 h2).own o
    rw [e, ha] at hu
    cases hu
  refine r.put (fun b o q => ?_) (fun b o q => ?_) (.refl _) (fun j s x b _ h1 h2 o => ⟨upd_ne (nab j s x b h1 h2 o), ((r.at_ j s x h1 h2).own o).2.1⟩) ⟨a, vs, rfl, upd_same, h, hf, hg⟩ fun b o j s x _ h1 h2 o2 => ?_
  · rw [upd_ne (ne_of_none q hg)]; exact r.g _ _ q
  · rw [upd_ne (ne_of_none q hf)]; exact r.f _ _ q
  · have o : some (V.ref a) = some (.ref b) := o
    cases o
    exact nab j s x a h1 h2 o2 rfl
/-- the list of one's own at slot i turns -/
theorem RepE.turnO (r : RepE K G F H σ ρ) {i : Nat} {ds es : List D} {a : Addr} {ws : List V} (hi : ρ[i]? = some (.own ds)) (hs : σ[i]? = some (some (.ref a))) (h : RepL K F es ws) :
    RepE K G F (upd H a (.lst ws)) σ (ρ.set i (.own es)) := by
  obtain ⟨a', vs, e1, e2, e3, hf, hg⟩ := r.at_ i _ _ hi hs
  cases e1
  have es : σ.set i (some (.ref a)) = σ := by
    have hl := (List.getElem?_eq_some_iff.mp hs)
    obtain ⟨hl, he⟩ := hl
    rw [← he]
    exact List.set_getElem_self hl
  have nab : ∀ (j : Nat) (s : Sl) (x : Option V) (b : Addr), j ≠ i → ρ[j]? = some s → σ[j]? = some x → Owned K F H s x b → b ≠ a := fun j s x b hj h1 h2 o e => by
    subst e
    exact r.ap j i s _ x _ b hj h1 hi h2 hs o rfl
  have q := r.put (F' := F) (H' := upd H a (.lst ws)) (i := i) (s' := .own _) (x' := some (.ref a)) (fun b o q => by rw [upd_ne (ne_of_none q hg)]; exact r.g _ _ q) (fun b o q => by rw [upd_ne (ne_of_none q hf)]; exact r.f _ _ q) (.refl _)
    (fun j s x b hj h1 h2 o => ⟨upd_ne (nab j s x b hj h1 h2 o), ((r.at_ j s x h1 h2).own o).2.1⟩) ⟨a, ws, rfl, upd_same, h, hf, hg⟩ fun b o j s x hj h1 h2 o2 => by
      have o : some (V.ref a) = some (.ref b) := o
      cases o
      exact nab j s x a hj h1 h2 o2 rfl
  rw [es] at q
  exact q
/-- the list of one's own at slot i is kept from here on -/
theorem RepE.freezeE (r : RepE K G F H σ ρ) {i : Nat} {ds : List D} (hi : ρ[i]? = some (.own ds)) :
    ∃ a vs, σ[i]? = some (some (.ref a)) ∧ H a = some (.lst vs) ∧ F a = none ∧ Same F (upd F a (.lst vs)) ∧ NewG G F (upd F a (.lst vs)) ∧ RepE K G (upd F a (.lst vs)) H σ (ρ.set i (.val (.lst ds))) := by
  have hl : i < ρ.length := (List.getElem?_eq_some_iff.mp hi).1
  have hsl : i < σ.length := by rw [← r.len]; exact hl
  have hs0 : σ[i]? = some σ[i] := List.getElem?_eq_getElem hsl
  obtain ⟨a, vs, e1, e2, e3, hf, hg⟩ := r.at_ i _ _ hi hs0
  have hs : σ[i]? = some (some (.ref a)) := by rw [hs0, e1]
  have sm : Same F (upd F a (.lst vs)) := same_upd hf
  have es : σ.set i (some (.ref a)) = σ := by
    rw [← e1]
    exact List.set_getElem_self hsl
  have nab : ∀ (j : Nat) (s : Sl) (x : Option V) (b : Addr), j ≠ i → ρ[j]? = some s → σ[j]? = some x → Owned K F H s x b → b ≠ a := fun j s x b hj h1 h2 o e => by
    subst e
    exact r.ap j i s _ x _ b hj h1 hi h2 hs o rfl
  refine ⟨a, vs, hs, e2, hf, sm, fun b o q z => ?_, ?_⟩
  · by_cases hb : b = a
    · subst hb; exact hg
    · rw [upd_ne hb, z] at q; cases q
  have q := r.put (F' := upd F a (.lst vs)) (H' := H) (i := i) (s' := .val (.lst ds)) (x' := some (.ref a)) r.g (fun b o q => by
      by_cases hb : b = a
      · subst hb; rw [upd_same] at q; rw [← q]; exact e2
      · rw [upd_ne hb] at q; exact r.f _ _ q) sm
    (fun j s x b hj h1 h2 o => ⟨rfl, by rw [upd_ne (nab j s x b hj h1 h2 o)]; exact ((r.at_ j s x h1 h2).own o).2.1⟩) ⟨.ref a, rfl, Rep.mk_lst (.of upd_same) (RepL.mono sm _ _ e3)⟩ fun b o => o.elim
  rw [es] at q
  exact q
theorem RepE.freeze (r : RepE K G F H σ ρ) {i : Nat} {ds : List D} (hi : ρ[i]? = some (.own ds)) :
    ∃ F', Same F F' ∧ NewG G F F' ∧ RepE K G F' H σ (ρ.set i (.val (.lst ds))) := by
  obtain ⟨a, vs, _, _, _, h1, h2, h3⟩ := r.freezeE hi
  exact ⟨_, h1, h2, h3⟩
/-- what is one's own at slot i is kept from here on -/
theorem RepE.freezeT (r : RepE K G F H σ ρ) {i : Nat} {o : O} (hi : ρ[i]? = some (.tree o)) :
    ∃ F', Same F F' ∧ NewG G F F' ∧ RepE K G F' H σ (ρ.set i (.val o.toD)) := by
  have hl : i < ρ.length := (List.getElem?_eq_some_iff.mp hi).1
  have hsl : i < σ.length := by rw [← r.len]; exact hl
  have hs0 : σ[i]? = some σ[i] := List.getElem?_eq_getElem hsl
  obtain ⟨v, fp, e1, e2, e3, e4⟩ := r.at_ i _ _ hi hs0
  have hs : σ[i]? = some (some v) := by rw [hs0, e1]
  have sm : Same F (addF F H fp) := addF_same fun a ha => (e4 a ha).1
  have es : σ.set i (some v) = σ := by
    rw [← e1]
    exact List.set_getElem_self hsl
  have nab : ∀ (j : Nat) (s : Sl) (x : Option V) (b : Addr), j ≠ i → ρ[j]? = some s → σ[j]? = some x → Owned K F H s x b → b ∉ fp := fun j s x b hj h1 h2 o' e =>
    r.ap j i s _ x _ b hj h1 hi h2 hs o' ⟨v, fp, rfl, e2, e⟩
  refine ⟨addF F H fp, sm, fun b u q z => ?_, ?_⟩
  · by_cases hb : b ∈ fp
    · exact (e4 b hb).2
    · rw [addF_out hb, z] at q; cases q
  have q := r.put (F' := addF F H fp) (H' := H) (i := i) (s' := .val o.toD) (x' := some v) r.g (addF_H r.f) sm
    (fun j s x b hj h1 h2 o => ⟨rfl, by rw [addF_out (nab j s x b hj h1 h2 o)]; exact ((r.at_ j s x h1 h2).own o).2.1⟩) ⟨v, rfl, OwR.frz sm o v fp e2 fun a ha => addF_in ha⟩ fun b o => o.elim
  rw [es] at q
  exact q
/-- a thing with its place told, without that -/
theorem RepE.pinTree (r : RepE K G F H σ ρ) {i : Nat} {w : V} {o : O} (hi : ρ[i]? = some (.pin w o)) : RepE K G F H σ (ρ.set i (.tree o)) := by
  have hl : i < ρ.length := (List.getElem?_eq_some_iff.mp hi).1
  have hsl : i < σ.length := by rw [← r.len]; exact hl
  have hs0 : σ[i]? = some σ[i] := List.getElem?_eq_getElem hsl
  have q := r.put (F' := F) (H' := H) (i := i) (s' := .tree o) (x' := σ[i]) r.g r.f (.refl _) (fun j s x b _ h1 h2 o => ⟨rfl, ((r.at_ j s x h1 h2).own o).2.1⟩) (r.at_ i _ _ hi hs0).2 fun b ob j s x hj h1 h2 o2 =>
    r.ap j i s _ x _ b hj h1 hi h2 hs0 o2 ob
  rw [List.set_getElem_self hsl] at q
  exact q
theorem RepE.freezeP (r : RepE K G F H σ ρ) {i : Nat} {w : V} {o : O} (hi : ρ[i]? = some (.pin w o)) :
    ∃ F', Same F F' ∧ NewG G F F' ∧ RepE K G F' H σ (ρ.set i (.val o.toD)) := by
  have hl : i < ρ.length := (List.getElem?_eq_some_iff.mp hi).1
  obtain ⟨F', h1, h2, h3⟩ := (r.pinTree hi).freezeT (List.getElem?_set_self hl)
  rw [List.set_set] at h3
  exact ⟨F', h1, h2, h3⟩
end
end Dy

set_option Elab.async false
set_option linter.all false
set_option maxRecDepth 100000
namespace Dy
open PySem PySem.Spec PyProof.Rows L2

/-! ### results -/
inductive R (α : Type) where
  | ok (a : α) | err (e : D) | bad
def R.bind {α β : Type} (x : R α) (f : α → R β) : R β := match x with
  | .ok a => f a
  | .err e => .err e
  | .bad => .bad
def R.opt {α : Type} : Option α → R α
  | some a => .ok a
  | none => .bad

/-- an exception in the air -/
def XD (K : PySem.W.Frag) (F : Hp) (e : D) (cls : Value) (dd : Option Addr) : Prop :=
  ∃ c fs xs vs, e = .exc c fs xs ∧ cls = .ref (He.ga K c) ∧ fs.length = vs.length ∧ RepL K F xs vs ∧ (match dd with | none => fs = [] | some d => F d = some (.xd (fs.zip vs)))
theorem XD.mono {K : PySem.W.Frag} {F F' : Hp} {e : D} {cls : Value} {dd : Option Addr} (s : Same F F') (h : XD K F e cls dd) : XD K F' e cls dd := by
  obtain ⟨c, fs, xs, vs, h1, h2, h3, h4, h5⟩ := h
  refine ⟨c, fs, xs, vs, h1, h2, h3, RepL.mono s _ _ h4, ?_⟩
  cases dd with
  | none => exact h5
  | some d => exact s _ _ h5

/-- what is wanted behind a piece whose result is x -/
def Post {α β : Type} (K : PySem.W.Frag) (W : WX) (rel : Hp → α → β → Prop) (σ : St) (F H : Hp) (x : R α) (Q : β → Hp → Prop) : Prop := match x with
  | .ok a => ∀ v F' H', Ext F H F' H' → rel F' a v → Q v H'
  | .err e => ∀ cls dd F' H', Ext F H F' H' → XD K F' e cls dd → W cls dd σ H'
  | .bad => False
section
variable {α β γ δ : Type} {K : PySem.W.Frag} {W : WX} {rel : Hp → α → β → Prop} {rel2 : Hp → γ → δ → Prop} {σ : St} {F H F' H' : Hp}
theorem Post.ext {x : R α} {Q : β → Hp → Prop} (e : Ext F H F' H') (h : Post K W rel σ F H x Q) : Post K W rel σ F' H' x Q := by
  cases x with
  | ok a => exact fun v F2 H2 e2 r => h v F2 H2 (e.trans e2) r
  | err d => exact fun cls dd F2 H2 e2 r => h cls dd F2 H2 (e.trans e2) r
  | bad => exact h
theorem Post.bind {x : R α} {k : α → R γ} {Q : δ → Hp → Prop} {Q' : β → Hp → Prop} (h : Post K W rel2 σ F H (x.bind k) Q)
    (f : ∀ a v F' H', x = .ok a → Ext F H F' H' → rel F' a v → Post K W rel2 σ F' H' (k a) Q → Q' v H') : Post K W rel σ F H x Q' := by
  cases x with
  | ok a => exact fun v F2 H2 e2 r => f a v F2 H2 rfl e2 r (Post.ext e2 h)
  | err d => exact h
  | bad => exact h
end

/-- the readings: of an expression, a test, arguments -/
def rg {α β : Type} (K : PySem.W.Frag) (W : WX) (rel : Hp → α → β → Prop) (f : REnv → R α) : St → Hp → (β → Hp → Prop) → Prop :=
  fun σ H Q => ∃ G F ρ, RepE K G F H σ ρ ∧ Post K W rel σ F H (f ρ) Q
abbrev rd (K : PySem.W.Frag) (W : WX) (f : REnv → R D) : TE := rg K W (Rep K) f
abbrev rt (K : PySem.W.Frag) (W : WX) (f : REnv → R Bool) : TT := rg K W (fun _ (a b : Bool) => a = b) f
abbrev ra (K : PySem.W.Frag) (W : WX) (f : REnv → R (List D)) : TA := rg K W (RepL K) f
abbrev SE (X : Cx) (W : WX) (e : Expr) (f : REnv → R D) : Prop := PE X e (rd X.K W f)
abbrev ST (X : Cx) (W : WX) (e : Expr) (f : REnv → R Bool) : Prop := PT X e (rt X.K W f)
abbrev SW (X : Cx) (W : WX) (e : Expr) (f : REnv → R Bool) : Prop := PW X e (rt X.K W f)
abbrev SA (X : Cx) (W : WX) (es : List Expr) (f : REnv → R (List D)) : Prop := PA X es (ra X.K W f)

end Dy
namespace L2
open PySem PySem.Spec PyProof.Rows
theorem PE.dy {X : Cx} {e : Expr} {t t' : TE} (h : PE X e t) (i : ∀ σ H Q, t' σ H Q → t σ H Q) : PE X e t' := ⟨fun pins s σ H Q I q => h.run pins s σ H Q I (i _ _ _ q)⟩
theorem PT.dy {X : Cx} {e : Expr} {t t' : TT} (h : PT X e t) (i : ∀ σ H Q, t' σ H Q → t σ H Q) : PT X e t' := ⟨fun pins s σ H Q I q => h.run pins s σ H Q I (i _ _ _ q)⟩
theorem PW.dy {X : Cx} {e : Expr} {t t' : TT} (h : PW X e t) (i : ∀ σ H Q, t' σ H Q → t σ H Q) : PW X e t' := ⟨fun wh pins s σ H Q I q => h.run wh pins s σ H Q I (i _ _ _ q)⟩
theorem PA.dy {X : Cx} {e : List Expr} {t t' : TA} (h : PA X e t) (i : ∀ σ H Q, t' σ H Q → t σ H Q) : PA X e t' := ⟨fun p pins s σ H Q I q => h.run p pins s σ H Q I (i _ _ _ q)⟩
theorem PS.dy {X : Cx} {e : Stmt} {t t' : TS} (h : PS X e t) (i : ∀ D σ H, t' D σ H → t D σ H) : PS X e t' := ⟨fun pins s σ H D I q => h.run pins s σ H D I (i _ _ _ q)⟩
theorem PSs.dy {X : Cx} {e : List Stmt} {t t' : TS} (h : PSs X e t) (i : ∀ D σ H, t' D σ H → t D σ H) : PSs X e t' := ⟨fun pins s σ H D I q => h.run pins s σ H D I (i _ _ _ q)⟩

end L2
namespace Dy
open PySem PySem.Spec PyProof.Rows L2

/-! ### operations by values -/
/-- the rule r does what o says -/
def Op2 (K : PySem.W.Frag) (r : R2) (o : D → D → Option D) : Prop := ∀ F H x y a b d Q, Same F H → Rep K F a x → Rep K F b y → o a b = some d → (∀ v F' H', Ext F H F' H' → Rep K F' d v → Q v H') → r x y H Q
theorem Op2.or {K : PySem.W.Frag} {r r' : R2} {o o' : D → D → Option D} (h : Op2 K r o) (h' : Op2 K r' o') : Op2 K (fun x y H Q => r x y H Q ∨ r' x y H Q) (fun a b => (o a b).or (o' a b)) := by
  intro F H x y a b d Q s ra rb e q
  have e : (o a b).or (o' a b) = some d := e
  cases e1 : o a b with
  | some d' => rw [e1] at e; cases e; exact .inl (h F H x y a b d Q s ra rb e1 q)
  | none => rw [e1] at e; exact .inr (h' F H x y a b d Q s ra rb e q)
/-- a rule over one thing -/
def Op1 (K : PySem.W.Frag) (r : V → Hp → VK → Prop) (o : D → Option D) : Prop := ∀ F H x a d Q, Same F H → Rep K F a x → o a = some d → (∀ v F' H', Ext F H F' H' → Rep K F' d v → Q v H') → r x H Q
/-- a call's rule -/
def OpN (K : PySem.W.Frag) (r : List V → Hp → VK → Prop) (o : List D → Option D) : Prop := ∀ F H xs as d Q, Same F H → RepL K F as xs → o as = some d → (∀ v F' H', Ext F H F' H' → Rep K F' d v → Q v H') → r xs H Q
theorem OpN.or {K : PySem.W.Frag} {r r' : List V → Hp → VK → Prop} {o o' : List D → Option D} (h : OpN K r o) (h' : OpN K r' o') : OpN K (fun x H Q => r x H Q ∨ r' x H Q) (fun a => (o a).or (o' a)) := by
  intro F H x a d Q s ra e q
  have e : (o a).or (o' a) = some d := e
  cases e1 : o a with
  | some d' => rw [e1] at e; cases e; exact .inl (h F H x a d Q s ra e1 q)
  | none => rw [e1] at e; exact .inr (h' F H x a d Q s ra e q)
/-- what asks nothing of the heap -/
theorem now {K : PySem.W.Frag} {F H : Hp} {d : D} {v : V} {Q : VK} (q : ∀ v F' H', Ext F H F' H' → Rep K F' d v → Q v H') (s : Same F H) (r : Rep K F d v) : Q v H := q v F H (.refl s) r
/-- a new object -/
theorem anew {K : PySem.W.Frag} {F H : Hp} {d : D} {o : HO} {Q : VK} (q : ∀ v F' H', Ext F H F' H' → Rep K F' d v → Q v H') (s : Same F H) (r : ∀ p, Same F (upd F p o) → Rep K (upd F p o) d (.ref p)) : ∀ p, H p = none → Q (.ref p) (upd H p o) :=
  fun p hp => q (.ref p) _ _ (Ext.new s hp) (r p (same_upd (s.free hp)))

section
variable {X : Cx} {W : WX} {a b c : Expr} {e : Expr} {es : List Expr} {f g h : REnv → R D} {pos : Pos}

/-! ### names, constants -/
def eVar (i : Nat) : REnv → R D := fun ρ => match ρ[i]? with
  | some (.val d) => .ok d
  | _ => .bad
def eC (d : D) : REnv → R D := fun _ => .ok d
theorem se_var (i : Nat) {x : Str} (hN : X.N[i]? = some x := by rfl) (hv : Vis X.env.scope x := by first | exact Or.inl rfl | exact Or.inr (Or.inl rfl) | exact Or.inr (Or.inr rfl)) (hd : (x == ("__debug__" : Str)) = false := by decide)
    (hcd : (x == ("__classdict__" : Str)) = false := by decide) : SE X W (.Name x pos) (eVar i) := by
  refine (pe_var hN hv hd hcd).dy fun σ H Q ⟨G, F, ρ, r, p⟩ => ?_
  unfold eVar at p
  cases q : ρ[i]? with
  | none => rw [q] at p; exact p.elim
  | some s =>
    rw [q] at p
    cases s with
    | val d =>
      have hi : i < σ.length := by
        rw [← r.len]
        exact (List.getElem?_eq_some_iff.mp q).1
      obtain ⟨v, e1, e2⟩ := r.at_ i _ _ q (List.getElem?_eq_getElem hi)
      exact ⟨v, by rw [List.getElem?_eq_getElem hi, e1], p v F H (.refl r.f) e2⟩
    | un => exact p.elim
    | own ds => exact p.elim
    | ownD ks ds => exact p.elim
    | tree o => exact p.elim
    | pin w o => exact p.elim
    | obj w c ks os => exact p.elim
    | fob c ks ds => exact p.elim
theorem se_const {v : V} {d : D} (hp : PE X e (tC v)) (hr : ∀ K F, Rep K F d v) : SE X W e (eC d) :=
  hp.dy fun σ H Q ⟨G, F, ρ, r, p⟩ => p v F H (.refl r.f) (hr _ _)
theorem se_int {i : Int} {j} : SE X W (.Constant (.int i) j pos) (eC (.int i)) := se_const pe_int fun _ _ => Rep.mk_int
theorem se_bl {i : Bool} {j} : SE X W (.Constant (.bool i) j pos) (eC (.bl i)) := se_const pe_bl fun _ _ => Rep.mk_bl
theorem se_non {j} : SE X W (.Constant .none j pos) (eC .non) := se_const pe_non fun _ _ => Rep.mk_non
theorem se_str {x : Str} {j} : SE X W (.Constant (.str x) j pos) (eC (.str x)) := se_const pe_str fun _ _ => Rep.mk_str
/-- a global: an int, a text -/
theorem se_gint {x : Str} {i : Int} (hg : Gl X x) (hm : ∃ t, X.mg x = some (.int i t)) (hd : (x == ("__debug__" : Str)) = false := by decide) : SE X W (.Name x pos) (eC (.int i)) := by
  obtain ⟨t, hm⟩ := hm
  exact se_const (pe_glob hg hm (v := .int i) ⟨t, rfl⟩ hd) fun _ _ => Rep.mk_int
theorem se_gstr {x z : Str} (hg : Gl X x) (hm : ∃ t, X.mg x = some (.str z t)) (hd : (x == ("__debug__" : Str)) = false := by decide) : SE X W (.Name x pos) (eC (.str z)) := by
  obtain ⟨t, hm⟩ := hm
  exact se_const (pe_glob hg hm (v := .str z) ⟨t, rfl⟩ hd) fun _ _ => Rep.mk_str
/-- a global: a tuple, a list of the written part -/
theorem se_gref {x : Str} {d : D} (hg : Gl X x) (hm : X.mg x = some (.ref (He.ga X.K x))) (hr : ∀ F, Rep X.K F d (.ref (He.ga X.K x))) (hd : (x == ("__debug__" : Str)) = false := by decide) : SE X W (.Name x pos) (eC d) :=
  (pe_glob hg hm (v := .ref (He.ga X.K x)) rfl hd).dy fun σ H Q ⟨G, F, ρ, r, p⟩ => p _ F H (.refl r.f) (hr _)

/-! ### operators -/
def eBin (o : D → D → Option D) (f g : REnv → R D) : REnv → R D := fun ρ => (f ρ).bind fun a => (g ρ).bind fun b => .opt (o a b)
theorem bin_read {r : R2} {o : D → D → Option D} (ho : Op2 X.K r o) {σ : St} {H : Hp} {Q : VK} (hh : rd X.K W (eBin o f g) σ H Q) : tOp r (rd X.K W f) (rd X.K W g) σ H Q := by
  obtain ⟨G, F, ρ, hr, p⟩ := hh
  refine ⟨G, F, ρ, hr, Post.bind p fun d1 v1 F1 H1 _ e1 r1 p1 => ⟨G, F1, ρ, hr.ext e1, Post.bind p1 fun d2 v2 F2 H2 _ e2 r2 p2 => ?_⟩⟩
  cases q : o d1 d2 with
  | none => rw [q] at p2; exact p2.elim
  | some d => rw [q] at p2; exact ho F2 H2 v1 v2 d1 d2 d Q e2.s (Rep.mono e2.f _ _ r1) r2 q p2
theorem se_op {op : Operator} {r : R2} {o : D → D → Option D} (ho : OpR X (binaryOp op) r ∧ Op2 X.K r o) (ha : SE X W a f) (hb : SE X W b g) : SE X W (.BinOp a op b pos) (eBin o f g) :=
  (pe_op ho.1 ha hb).dy fun _ _ _ hh => bin_read ho.2 hh
theorem se_cmp {op : CmpOp} {r : R2} {o : D → D → Option D} (ho : OpR X (compareOp op) r ∧ Op2 X.K r o) (ha : SE X W a f) (hb : SE X W b g) (hm : behindInMarks op b = false) : SE X W (.Compare a [op] [b] pos) (eBin o f g) :=
  (pe_cmpR ho.1 ha hb hm).dy fun _ _ _ hh => bin_read ho.2 hh
/-- a comparison's answer is a truth -/
def eTest (f : REnv → R D) : REnv → R Bool := fun ρ => (f ρ).bind fun d => match d with
  | .bl b => .ok b
  | _ => .bad
theorem test_read {σ : St} {H : Hp} {t : TE} {f : REnv → R D} (ht : ∀ Q, rd X.K W f σ H Q → t σ H Q) {Q : Bool → Hp → Prop} (hh : rt X.K W (eTest f) σ H Q) : tTest t σ H Q := by
  obtain ⟨G, F, ρ, hr, p⟩ := hh
  refine ht _ ⟨G, F, ρ, hr, Post.bind p fun d v F1 H1 _ e1 r1 p1 => ?_⟩
  cases d with
  | bl k => exact ⟨k, r1.bl_inv, p1 k F1 H1 (.refl e1.s) rfl⟩
  | non => exact p1.elim
  | int i => exact p1.elim
  | str i => exact p1.elim
  | ty i => exact p1.elim
  | cls i => exact p1.elim
  | tup i => exact p1.elim
  | lst i => exact p1.elim
  | dct i j => exact p1.elim
  | exc i j k => exact p1.elim
theorem st_cmp {op : CmpOp} {r : R2} {o : D → D → Option D} (ho : OpR X (compareOp op) r ∧ Op2 X.K r o) (ha : SE X W a f) (hb : SE X W b g) (hm : behindInMarks op b = false) : ST X W (.Compare a [op] [b] pos) (eTest (eBin o f g)) :=
  (pt_cmpR ho.1 ha hb hm).dy fun _ _ _ hh => test_read (fun _ h => bin_read ho.2 h) hh
/-- any expression whose value is a truth -/
theorem st_val (ha : SE X W e f) (he : ∀ whole, isTrue e X.env whole = (do let v ← whole; standAt e.pos; holding [v] (truthy v)) := by intro _; rfl) : ST X W e (eTest f) :=
  (pt_val ha he).dy fun _ _ _ hh => test_read (t := rd X.K W f) (fun _ h => h) hh
/-- a < b < c -/
def goOn (x : R D) : D → R D
  | .bl true => x
  | .bl false => .ok (.bl false)
  | _ => .bad
def eChain (o o' : D → D → Option D) (f g h : REnv → R D) : REnv → R D := fun ρ => (f ρ).bind fun a => (g ρ).bind fun b => (R.opt (o a b)).bind (goOn ((h ρ).bind fun c => .opt (o' b c)))

/-! ### arguments, displays -/
def aNil : REnv → R (List D) := fun _ => .ok []
def aCons (f : REnv → R D) (t : REnv → R (List D)) : REnv → R (List D) := fun ρ => (f ρ).bind fun a => (t ρ).bind fun r => .ok (a :: r)
theorem sa_nil : SA X W [] aNil := pa_nil.dy fun σ H Q ⟨G, F, ρ, r, p⟩ => p [] F H (.refl r.f) RepL.nil
theorem sa_cons {t : REnv → R (List D)} (ha : SE X W e f) (hr : SA X W es t) (hs : starEach (e :: es) X.env = (false, eval e X.env) :: starEach es X.env := by rfl) : SA X W (e :: es) (aCons f t) :=
  (pa_cons ha hr hs).dy fun σ H Q ⟨G, F, ρ, r, p⟩ => ⟨G, F, ρ, r, Post.bind p fun d v F1 H1 _ e1 r1 p1 => ⟨G, F1, ρ, r.ext e1, Post.bind p1 fun ds vs F2 H2 _ e2 r2 p2 => p2 (v :: vs) F2 H2 (.refl e2.s) (RepL.cons (Rep.mono e2.f _ _ r1) r2)⟩⟩
def eTup (t : REnv → R (List D)) : REnv → R D := fun ρ => (t ρ).bind fun ds => if ds.length ≤ sizeLine then .ok (.tup ds) else .bad
def eLst (t : REnv → R (List D)) : REnv → R D := fun ρ => (t ρ).bind fun ds => if ds.length ≤ sizeLine then .ok (.lst ds) else .bad
theorem se_tup {t : REnv → R (List D)} {k} (h : SA X W es t) : SE X W (.Tuple es k pos) (eTup t) :=
  (pe_tup h).dy fun σ H Q ⟨G, F, ρ, r, p⟩ => ⟨G, F, ρ, r, Post.bind p fun ds vs F1 H1 _ e1 r1 p1 => by
    by_cases hl : ds.length ≤ sizeLine
    · rw [if_pos hl] at p1
      exact ⟨by rw [← r1.length]; exact hl, anew p1 e1.s fun q s => Rep.mk_tup (.of upd_same) (RepL.mono s _ _ r1)⟩
    · rw [if_neg hl] at p1; exact p1.elim⟩
theorem se_lst {t : REnv → R (List D)} (h : SA X W es t) : SE X W (.List es pos) (eLst t) :=
  (pe_lst h).dy fun σ H Q ⟨G, F, ρ, r, p⟩ => ⟨G, F, ρ, r, Post.bind p fun ds vs F1 H1 _ e1 r1 p1 => by
    by_cases hl : ds.length ≤ sizeLine
    · rw [if_pos hl] at p1
      exact ⟨by rw [← r1.length]; exact hl, anew p1 e1.s fun q s => Rep.mk_lst (.of upd_same) (RepL.mono s _ _ r1)⟩
    · rw [if_neg hl] at p1; exact p1.elim⟩
/-- built-ins by their rules -/
def eN (o : List D → Option D) (t : REnv → R (List D)) : REnv → R D := fun ρ => (t ρ).bind fun ds => .opt (o ds)
theorem callN_read {r : List V → Hp → VK → Prop} {o : List D → Option D} {t : REnv → R (List D)} (ho : OpN X.K r o) {σ : St} {H : Hp} {Q : VK} (hh : rd X.K W (eN o t) σ H Q) : tCB r (ra X.K W t) σ H Q := by
  obtain ⟨G, F, ρ, hr, p⟩ := hh
  refine ⟨G, F, ρ, hr, Post.bind p fun ds vs F1 H1 _ e1 r1 p1 => ?_⟩
  cases q : o ds with
  | none => rw [q] at p1; exact p1.elim
  | some d => rw [q] at p1; exact ho F1 H1 vs ds d Q e1.s r1 q p1
variable {t : REnv → R (List D)} {x : Str} {p : Pos}
theorem se_blt {id : String} {r : List V → Hp → VK → Prop} {o : List D → Option D} (ho : CallR X (.builtin id) r ∧ OpN X.K r o) (hm : X.mg x = none) (ha : SA X W (e :: es) t) (hg : Gl X x := by rfl) (hv : bootBuiltins x = some (.builtin id) := by decide +kernel)
    (hn : x ≠ "__name__" := by decide) (hd : (x == ("__debug__" : Str)) = false := by decide) (he : starEach (e :: es) X.env = (false, eval e X.env) :: starEach es X.env := by rfl) (hpl : (backTo pos (starEach es X.env)).any (·.1) = false := by rfl) :
    SE X W (.Call (.Name x p) (e :: es) [] pos) (eN o t) :=
  (pe_callB ho.1 hg hm hv ha hn hd he hpl).dy fun _ _ _ hh => callN_read ho.2 hh
theorem se_bty {id : String} {r : List V → Hp → VK → Prop} {o : List D → Option D} (ho : CallR X (.type id) r ∧ OpN X.K r o) (hm : X.mg x = none) (ha : SA X W (e :: es) t) (hg : Gl X x := by rfl) (hv : bootBuiltins x = some (.type id) := by decide +kernel)
    (hn : x ≠ "__name__" := by decide) (hd : (x == ("__debug__" : Str)) = false := by decide) (he : starEach (e :: es) X.env = (false, eval e X.env) :: starEach es X.env := by rfl) (hpl : (backTo pos (starEach es X.env)).any (·.1) = false := by rfl) :
    SE X W (.Call (.Name x p) (e :: es) [] pos) (eN o t) :=
  (pe_callTy ho.1 hg hm hv ha hn hd he hpl).dy fun _ _ _ hh => callN_read ho.2 hh
/-- o[i] -/
theorem se_ix {r : R2} {o : D → D → Option D} (ho : IxR X r ∧ Op2 X.K r o) (ha : SE X W a f) (hb : SE X W b g) (hs : PlainIx b := by exact fun _ _ => rfl) : SE X W (.Subscript a b pos) (eBin o f g) :=
  (pe_ix ho.1 ha hb hs).dy fun _ _ _ hh => bin_read ho.2 hh
/-- -a -/
def eUn (o : D → Option D) (f : REnv → R D) : REnv → R D := fun ρ => (f ρ).bind fun a => .opt (o a)
theorem se_un {op : UnaryOp} {r : V → Hp → VK → Prop} {o : D → Option D} (ho : UnR X (unaryOp op) r ∧ Op1 X.K r o) (ha : SE X W a f) : SE X W (.UnaryOp op a pos) (eUn o f) :=
  (pe_un ho.1 ha).dy fun σ H Q ⟨G, F, ρ, hr, p⟩ => ⟨G, F, ρ, hr, Post.bind p fun d1 v1 F1 H1 _ e1 r1 p1 => by
    cases q : o d1 with
    | none => rw [q] at p1; exact p1.elim
    | some d => rw [q] at p1; exact ho.2 F1 H1 v1 d1 d Q e1.s r1 q p1⟩

/-! ### and, or, not -/
def eAnd (f g : REnv → R Bool) : REnv → R Bool := fun ρ => (f ρ).bind fun k => if k = true then g ρ else .ok false
def eOr (f g : REnv → R Bool) : REnv → R Bool := fun ρ => (f ρ).bind fun k => if k = true then .ok true else g ρ
def eNot (f : REnv → R Bool) : REnv → R Bool := fun ρ => (f ρ).bind fun k => .ok (!k)
variable {u v : REnv → R Bool} {rest : List Expr}
theorem sw_and1 (ha : ST X W a u) : SW X W (.BoolOp .And [a] pos) u := pw_and1 ha
theorem sw_or1 (ha : ST X W a u) : SW X W (.BoolOp .Or [a] pos) u := pw_or1 ha
theorem sw_and (ha : ST X W a u) (hb : SW X W (.BoolOp .And (b :: rest) pos) v) : SW X W (.BoolOp .And (a :: b :: rest) pos) (eAnd u v) :=
  (pw_and ha hb).dy fun σ H Q ⟨G, F, ρ, hr, p⟩ => ⟨G, F, ρ, hr, Post.bind p fun k k' F1 H1 _ e1 r1 p1 => by
    subst r1
    cases k with
    | true => exact ⟨G, F1, ρ, hr.ext e1, p1⟩
    | false => exact p1 false F1 H1 (.refl e1.s) rfl⟩
theorem sw_or (ha : ST X W a u) (hb : SW X W (.BoolOp .Or (b :: rest) pos) v) : SW X W (.BoolOp .Or (a :: b :: rest) pos) (eOr u v) :=
  (pw_or ha hb).dy fun σ H Q ⟨G, F, ρ, hr, p⟩ => ⟨G, F, ρ, hr, Post.bind p fun k k' F1 H1 _ e1 r1 p1 => by
    subst r1
    cases k with
    | false => exact ⟨G, F1, ρ, hr.ext e1, p1⟩
    | true => exact p1 true F1 H1 (.refl e1.s) rfl⟩
theorem st_bool {op} {l : List Expr} (h : SW X W (.BoolOp op l pos) u) : ST X W (.BoolOp op l pos) u := PW.pt h
theorem st_not (ha : ST X W a u) : ST X W (.UnaryOp .Not a pos) (eNot u) :=
  (pt_not ha).dy fun σ H Q ⟨G, F, ρ, hr, p⟩ => ⟨G, F, ρ, hr, Post.bind p fun k k' F1 H1 _ e1 r1 p1 => by
    subst r1
    exact p1 (!k) F1 H1 (.refl e1.s) rfl⟩
/-- .. as values -/
def eAndV (f g : REnv → R D) : REnv → R D := fun ρ => (f ρ).bind fun k => match k with
  | .bl true => g ρ
  | .bl false => .ok (.bl false)
  | _ => .bad
def eOrV (f g : REnv → R D) : REnv → R D := fun ρ => (f ρ).bind fun k => match k with
  | .bl false => g ρ
  | .bl true => .ok (.bl true)
  | _ => .bad
def eNotV (f : REnv → R D) : REnv → R D := fun ρ => (f ρ).bind fun k => match k with
  | .bl b => .ok (.bl (!b))
  | _ => .bad
theorem se_one {op} (ha : SE X W a f) : SE X W (.BoolOp op [a] pos) f := pe_one ha
theorem se_and (ha : SE X W a f) (hb : SE X W (.BoolOp .And (b :: rest) pos) g) : SE X W (.BoolOp .And (a :: b :: rest) pos) (eAndV f g) :=
  (pe_and ha hb).dy fun σ H Q ⟨G, F, ρ, hr, p⟩ => ⟨G, F, ρ, hr, Post.bind p fun k k' F1 H1 _ e1 r1 p1 => by
    cases k with
    | bl k =>
      refine ⟨k, r1.bl_inv, ?_⟩
      cases k with
      | true => exact ⟨G, F1, ρ, hr.ext e1, p1⟩
      | false => exact p1 _ F1 H1 (.refl e1.s) Rep.mk_bl
    | _ => exact p1.elim⟩
theorem se_or (ha : SE X W a f) (hb : SE X W (.BoolOp .Or (b :: rest) pos) g) : SE X W (.BoolOp .Or (a :: b :: rest) pos) (eOrV f g) :=
  (pe_or ha hb).dy fun σ H Q ⟨G, F, ρ, hr, p⟩ => ⟨G, F, ρ, hr, Post.bind p fun k k' F1 H1 _ e1 r1 p1 => by
    cases k with
    | bl k =>
      refine ⟨k, r1.bl_inv, ?_⟩
      cases k with
      | false => exact ⟨G, F1, ρ, hr.ext e1, p1⟩
      | true => exact p1 _ F1 H1 (.refl e1.s) Rep.mk_bl
    | _ => exact p1.elim⟩
theorem se_not (ha : SE X W a f) : SE X W (.UnaryOp .Not a pos) (eNotV f) :=
  (pe_not ha).dy fun σ H Q ⟨G, F, ρ, hr, p⟩ => ⟨G, F, ρ, hr, Post.bind p fun k k' F1 H1 _ e1 r1 p1 => by
    cases k with
    | bl k => exact ⟨k, r1.bl_inv, p1 _ F1 H1 (.refl e1.s) Rep.mk_bl⟩
    | _ => exact p1.elim⟩
end

section
variable {X : Cx} {W : WX} {a b c : Expr} {f g h : REnv → R D} {pos : Pos}
theorem chain_read {r r' : R2} {o o' : D → D → Option D} (ho : Op2 X.K r o) (ho' : Op2 X.K r' o') {σ : St} {H : Hp} {Q : VK} (hh : rd X.K W (eChain o o' f g h) σ H Q) : tChain r r' (rd X.K W f) (rd X.K W g) (rd X.K W h) σ H Q := by
  obtain ⟨G, F, ρ, hr, p⟩ := hh
  refine ⟨G, F, ρ, hr, Post.bind p fun d1 v1 F1 H1 _ e1 r1 p1 => ⟨G, F1, ρ, hr.ext e1, Post.bind p1 fun d2 v2 F2 H2 _ e2 r2 p2 => ?_⟩⟩
  cases q : o d1 d2 with
  | none => rw [q] at p2; exact p2.elim
  | some d =>
    rw [q] at p2
    refine ho F2 H2 v1 v2 d1 d2 d _ e2.s (Rep.mono e2.f _ _ r1) r2 q fun z F3 H3 e3 r3 => ?_
    have p3 : Post X.K W (Rep X.K) σ F3 H3 (goOn ((h ρ).bind fun c => .opt (o' d2 c)) d) Q := Post.ext e3 p2
    cases d with
    | bl k =>
      refine ⟨k, r3.bl_inv, ?_⟩
      cases k with
      | true =>
        have p3 : Post X.K W (Rep X.K) σ F3 H3 ((h ρ).bind fun c => .opt (o' d2 c)) Q := p3
        refine iteT ⟨G, F3, ρ, ((hr.ext e1).ext e2).ext e3, Post.bind p3 fun d4 v4 F4 H4 _ e4 r4 p4 => ?_⟩
        cases q' : o' d2 d4 with
        | none => rw [q'] at p4; exact p4.elim
        | some d' => rw [q'] at p4; exact ho' F4 H4 v2 v4 d2 d4 d' Q e4.s (Rep.mono (e3.f.trans e4.f) _ _ r2) r4 q' p4
      | false => exact iteF (p3 _ F3 H3 (.refl e3.s) Rep.mk_bl)
    | _ => exact p3.elim
theorem se_chain {op op' : CmpOp} {r r' : R2} {o o' : D → D → Option D} (ho : OpR X (compareOp op) r ∧ Op2 X.K r o) (ho' : OpR X (compareOp op') r' ∧ Op2 X.K r' o') (ha : SE X W a f) (hb : SE X W b g) (hc : SE X W c h)
    (hm : lastMarks [op, op'] [b, c] = false := by with_unfolding_all rfl) : SE X W (.Compare a [op, op'] [b, c] pos) (eChain o o' f g h) :=
  (pe_chain ho.1 ho'.1 ha hb hc hm).dy fun _ _ _ hh => chain_read ho.2 ho'.2 hh
theorem st_chain {op op' : CmpOp} {r r' : R2} {o o' : D → D → Option D} (ho : OpR X (compareOp op) r ∧ Op2 X.K r o) (ho' : OpR X (compareOp op') r' ∧ Op2 X.K r' o') (ha : SE X W a f) (hb : SE X W b g) (hc : SE X W c h)
    (hm : lastMarks [op, op'] [b, c] = false := by with_unfolding_all rfl) : ST X W (.Compare a [op, op'] [b, c] pos) (eTest (eChain o o' f g h)) :=
  (pt_chain ho.1 ho'.1 ha hb hc hm).dy fun _ _ _ hh => test_read (fun _ z => chain_read ho.2 ho'.2 z) hh
end
end Dy

set_option Elab.async false
set_option linter.all false
set_option maxRecDepth 100000
namespace Dy
open PySem PySem.Spec PyProof.Rows L2

/-! ### statements -/
inductive SR where
  | next (ρ : REnv) | ret (d : D) | err (e : D) (ρ : REnv) | bad
def SR.seq (x : SR) (g : REnv → SR) : SR := match x with
  | .next ρ => g ρ
  | y => y
def R.toS {α : Type} (x : R α) (ρ : REnv) (k : α → SR) : SR := match x with
  | .ok a => k a
  | .err e => .err e ρ
  | .bad => .bad
def PostS (K : PySem.W.Frag) (W : WX) (D : Ends) (G F : Hp) (x : SR) : Prop := match x with
  | .next ρ => ∀ σ' F' H', Same F F' → NewG G F F' → RepE K G F' H' σ' ρ → D.nx σ' H'
  | .ret d => ∀ v F' H', Same F F' → NewG G F F' → Same G H' → Same F' H' → Rep K F' d v → D.rt v H'
  | .err e ρ => ∀ σ' F' H' cls dd, Same F F' → NewG G F F' → RepE K G F' H' σ' ρ → XD K F' e cls dd → W cls dd σ' H'
  | .bad => False
section
variable {α β : Type} {K : PySem.W.Frag} {W : WX} {D D' : Ends} {G F F' H : Hp} {σ : St} {ρ : REnv}
theorem PostS.ext {x : SR} (s : Same F F') (n : NewG G F F') (h : PostS K W D G F x) : PostS K W D G F' x := by
  cases x with
  | next ρ => exact fun σ' F2 H' s2 n2 r => h σ' F2 H' (s.trans s2) (n.trans n2) r
  | ret d => exact fun v F2 H' s2 n2 g f r => h v F2 H' (s.trans s2) (n.trans n2) g f r
  | err e ρ => exact fun σ' F2 H' cls dd s2 n2 r x => h σ' F2 H' cls dd (s.trans s2) (n.trans n2) r x
  | bad => exact h
theorem PostS.toS {rel : Hp → α → β → Prop} {x : R α} {k : α → SR} {Q : β → Hp → Prop} (r : RepE K G F H σ ρ) (h : PostS K W D G F (x.toS ρ k))
    (f : ∀ a v F' H', x = .ok a → Ext F H F' H' → rel F' a v → RepE K G F' H' σ ρ → PostS K W D G F' (k a) → Q v H') : Post K W rel σ F H x Q := by
  cases x with
  | ok a => exact fun v F' H' e p => f a v F' H' rfl e p (r.ext e) (PostS.ext e.f (e.newG r.g) h)
  | err e => exact fun cls dd F' H' ex p => h σ F' H' cls dd ex.f (ex.newG r.g) (r.ext ex) p
  | bad => exact h
/-- another end behind the statement's own -/
theorem PostS.seq {x : SR} {g : REnv → SR} {nx : St → Hp → Prop} (h : PostS K W D G F (x.seq g))
    (f : ∀ ρ σ' F' H', x = .next ρ → Same F F' → NewG G F F' → RepE K G F' H' σ' ρ → PostS K W D G F' (g ρ) → nx σ' H') : PostS K W { D with nx := nx } G F x := by
  cases x with
  | next ρ => exact fun σ' F' H' s n r => f ρ σ' F' H' rfl s n r (PostS.ext s n h)
  | ret d => exact h
  | err e ρ => exact h
  | bad => exact h
theorem PostS.ends {x : SR} {bk ct : St → Hp → Prop} (h : PostS K W D G F x) : PostS K W { D with bk := bk, ct := ct } G F x := by
  cases x with
  | next ρ => exact h
  | ret d => exact h
  | err e ρ => exact h
  | bad => exact h
end
def rs (K : PySem.W.Frag) (W : WX) (g : REnv → SR) : TS := fun D σ H => ∃ G F ρ, RepE K G F H σ ρ ∧ PostS K W D G F (g ρ)
abbrev SS (X : Cx) (W : WX) (s : Stmt) (g : REnv → SR) : Prop := PS X s (rs X.K W g)
abbrev SSs (X : Cx) (W : WX) (s : List Stmt) (g : REnv → SR) : Prop := PSs X s (rs X.K W g)

section
variable {X : Cx} {W : WX} {st : Stmt} {rest : List Stmt} {g h : REnv → SR} {e : Expr} {f : REnv → R D} {pos : Pos}
def sSkip : REnv → SR := .next
def sSeq (g h : REnv → SR) : REnv → SR := fun ρ => (g ρ).seq h
def sRet (f : REnv → R D) : REnv → SR := fun ρ => (f ρ).toS ρ .ret
def sSet (i : Nat) (f : REnv → R D) : REnv → SR := fun ρ => (f ρ).toS ρ fun d => .next (ρ.set i (.val d))
def sExpr (f : REnv → R D) : REnv → SR := fun ρ => (f ρ).toS ρ fun _ => .next ρ
def sIf (c : REnv → R Bool) (g h : REnv → SR) : REnv → SR := fun ρ => (c ρ).toS ρ fun b => if b = true then g ρ else h ρ
theorem sss_nil : SSs X W [] sSkip := pss_nil.dy fun D σ H ⟨G, F, ρ, r, p⟩ => p σ F H (.refl _) .refl r
theorem sss_cons (h1 : SS X W st g) (h2 : SSs X W rest h) : SSs X W (st :: rest) (sSeq g h) :=
  (pss_cons h1 h2).dy fun D σ H ⟨G, F, ρ, r, p⟩ => ⟨G, F, ρ, r, PostS.seq p fun ρ' σ' F' H' _ s n r' p' => ⟨G, F', ρ', r', p'⟩⟩
theorem sss_one (h1 : SS X W st g) : SSs X W [st] g := pss_one h1
theorem ss_ret (he : SE X W e f) : SS X W (.Return (some e) pos) (sRet f) :=
  (ps_ret he).dy fun D σ H ⟨G, F, ρ, r, p⟩ => ⟨G, F, ρ, r, PostS.toS r p fun d v F' H' _ ex rp r' p' => p' v F' H' (.refl _) .refl r'.g r'.f rp⟩
theorem ss_set {i : Nat} {x : Str} {pos' : Pos} (hN : X.N.Nodup) (he : SE X W e f) (hi : X.N[i]? = some x := by rfl) (hx : Loc X.env.scope x := by first | exact Or.inl rfl | exact Or.inr rfl) (hs : swapsWith e (some (.Name x pos')) pos.line X.env = pure false := by rfl)
    (hf : X.fn x = true ∨ X.env.scope.names.lookup x = some .local := by first | exact .inl rfl | exact .inr rfl | assumption) : SS X W (.Assign [.Name x pos'] e pos) (sSet i f) :=
  (ps_set hN hi hx he hs hf).dy fun D σ H ⟨G, F, ρ, r, p⟩ => ⟨G, F, ρ, r, PostS.toS r p fun d v F' H' _ ex rp r' p' => p' _ F' H' (.refl _) .refl (r'.setV rp)⟩
theorem ss_expr (he : SE X W e f) (hs : swapsWith e none pos.line X.env = pure false := by rfl) : SS X W (.Expr e pos) (sExpr f) :=
  (ps_expr he hs).dy fun D σ H ⟨G, F, ρ, r, p⟩ => ⟨G, F, ρ, r, PostS.toS r p fun d v F' H' _ ex rp r' p' => p' _ F' H' (.refl _) .refl r'⟩
theorem ss_if {c : Expr} {a b : List Stmt} {u : REnv → R Bool} (hc : ST X W c u) (ha : SSs X W a g) (hb : SSs X W b h) : SS X W (.If c a b pos) (sIf u g h) :=
  (ps_if hc ha hb).dy fun D σ H ⟨G, F, ρ, r, p⟩ => ⟨G, F, ρ, r, PostS.toS r p fun k v F' H' _ ex rp r' p' => by
    subst rp
    cases k with
    | true => exact ⟨G, F', ρ, r', p'⟩
    | false => exact ⟨G, F', ρ, r', p'⟩⟩
/-- a, b = b, a % b of two plain locals -/
def sPar (i j : Nat) (t : REnv → R (List D)) : REnv → SR := fun ρ => (t ρ).toS ρ fun ds => match ds with
  | [a, b] => .next ((ρ.set i (.val a)).set j (.val b))
  | _ => .bad
/-! ### targets -/
/-- the slots of `is` alone may differ -/
def OnlyAt (is : List Nat) (σ σ' : St) : Prop := σ'.length = σ.length ∧ ∀ j, j ∉ is → σ'[j]? = σ[j]?
theorem OnlyAt.refl {is : List Nat} {σ : St} : OnlyAt is σ σ := ⟨rfl, fun _ _ => rfl⟩
theorem OnlyAt.trans {is js : List Nat} {σ σ' σ'' : St} (a : OnlyAt is σ σ') (b : OnlyAt js σ' σ'') : OnlyAt (is ++ js) σ σ'' := ⟨b.1.trans a.1, fun j h => by
  rw [List.mem_append, not_or] at h
  exact (b.2 j h.2).trans (a.2 j h.1)⟩
def TgOk (K : PySem.W.Frag) (t : TG) (b : D → REnv → Option REnv) (is : List Nat) : Prop := ∀ G F H σ ρ ρ' d v Q, RepE K G F H σ ρ → Rep K F d v → b d ρ = some ρ' → (∀ σ', RepE K G F H σ' ρ' → OnlyAt is σ σ' → Q σ' H) → t v σ H Q
def TgsOk (K : PySem.W.Frag) (t : TGs) (b : List D → REnv → Option REnv) (is : List Nat) : Prop := ∀ G F H σ ρ ρ' ds vs Q, RepE K G F H σ ρ → RepL K F ds vs → b ds ρ = some ρ' → (∀ σ', RepE K G F H σ' ρ' → OnlyAt is σ σ' → Q σ' H) → t vs σ H Q
def bName (i : Nat) : D → REnv → Option REnv := fun d ρ => some (ρ.set i (.val d))
def bNil : List D → REnv → Option REnv := fun ds ρ => match ds with
  | [] => some ρ
  | _ => none
def bCons (b : D → REnv → Option REnv) (c : List D → REnv → Option REnv) : List D → REnv → Option REnv := fun ds ρ => match ds with
  | d :: r => (b d ρ).bind (c r)
  | [] => none
def bSeq (n : Nat) (c : List D → REnv → Option REnv) : D → REnv → Option REnv := fun d ρ => match d with
  | .tup xs => if xs.length = n then c xs ρ else none
  | .lst xs => if xs.length = n then c xs ρ else none
  | _ => none
theorem tg_name {K : PySem.W.Frag} (i : Nat) : TgOk K (gName i) (bName i) [i] := fun G F H σ ρ ρ' d v Q r rp e q => by
  cases e
  exact q _ (r.setV rp) ⟨by simp, fun j h => List.getElem?_set_ne (fun z => h (by simp [z]))⟩
theorem tgs_nil {K : PySem.W.Frag} : TgsOk K gNil bNil [] := fun G F H σ ρ ρ' ds vs Q r rp e q => by
  cases ds with
  | nil =>
    cases e
    simp only [RepL] at rp
    exact ⟨rp, q σ r .refl⟩
  | cons d ds => cases e
theorem tgs_cons {K : PySem.W.Frag} {t : TG} {t2 : TGs} {b : D → REnv → Option REnv} {c : List D → REnv → Option REnv} {is js : List Nat} (k : TgOk K t b is) (k2 : TgsOk K t2 c js) : TgsOk K (gCons t t2) (bCons b c) (is ++ js) := fun G F H σ ρ ρ' ds vs Q r rp e q => by
  cases ds with
  | nil => cases e
  | cons d ds =>
    simp only [RepL] at rp
    obtain ⟨v, rr, e1, h1, h2⟩ := rp
    have e : (b d ρ).bind (c ds) = some ρ' := e
    cases e2 : b d ρ with
    | none => rw [e2] at e; cases e
    | some ρ1 =>
      rw [e2] at e
      exact ⟨v, rr, e1, k G F H σ ρ ρ1 d v _ r h1 e2 fun σ1 r1 o1 => k2 G F H σ1 ρ1 ρ' ds rr Q r1 h2 e fun σ2 r2 o2 => q σ2 r2 (o1.trans o2)⟩
/-- (a, b, ..) = a tuple or a list of that length -/
def gSeq (K : PySem.W.Frag) (n : Nat) (t : TGs) : TG := fun v σ H Q => ∃ a xs, v = .ref a ∧ (SqT K H a xs ∨ SqL K H a xs) ∧ xs.length = n ∧ t xs σ H Q
theorem pg_seq {es : List Expr} {k : Nat} {t : TGs} {n : Nat} (hc : X.calm = true) (h : PGs X es t)
    (hn : (assignEach es X.env).length = n := by rfl) (hst : (assignEach es X.env).findIdx? (·.1) = none := by rfl) : PG X (.Tuple es k pos) (gSeq X.K n t) := by
  refine ⟨fun pins s σ H v u Q I r hw => ?_⟩
  obtain ⟨a, xs, e1, hq, hl, hw⟩ := hw
  rcases hq with hq | hq
  · exact (pg_tup hc h hn hst).run pins s σ H v u Q I r ⟨a, xs, e1, hq, hl, hw⟩
  · exact (pg_lst hc h hn hst).run pins s σ H v u Q I r ⟨a, xs, e1, hq, hl, hw⟩
theorem tg_seq {K : PySem.W.Frag} {t : TGs} {b : List D → REnv → Option REnv} {n : Nat} {is : List Nat} (kk : TgsOk K t b is) : TgOk K (gSeq K n t) (bSeq n b) is := fun G F H σ ρ ρ' d v Q r rp e q => by
  cases d with
  | tup xs =>
    obtain ⟨a, vs, h1, h2, h3⟩ := rp.tup_inv
    by_cases hl : xs.length = n
    · have e : b xs ρ = some ρ' := by
        have e0 : (if xs.length = n then b xs ρ else none) = some ρ' := e
        rw [if_pos hl] at e0
        exact e0
      exact ⟨a, vs, h1, .inl (Same.seqT r.f h2), by rw [← h3.length]; exact hl, kk G F H σ ρ ρ' xs vs Q r h3 e q⟩
    · have e0 : (if xs.length = n then b xs ρ else none) = some ρ' := e
      rw [if_neg hl] at e0
      cases e0
  | lst xs =>
    obtain ⟨a, vs, h1, h2, h3⟩ := rp.lst_inv
    by_cases hl : xs.length = n
    · have e : b xs ρ = some ρ' := by
        have e0 : (if xs.length = n then b xs ρ else none) = some ρ' := e
        rw [if_pos hl] at e0
        exact e0
      exact ⟨a, vs, h1, .inr (Same.seq r.f h2), by rw [← h3.length]; exact hl, kk G F H σ ρ ρ' xs vs Q r h3 e q⟩
    · have e0 : (if xs.length = n then b xs ρ else none) = some ρ' := e
      rw [if_neg hl] at e0
      cases e0
  | _ => cases e
def sAsg (f : REnv → R D) (b : D → REnv → Option REnv) : REnv → SR := fun ρ => (f ρ).toS ρ fun d => match b d ρ with
  | some ρ' => .next ρ'
  | none => .bad
theorem ss_asg {tg : Expr} {t : TG} {b : D → REnv → Option REnv} {is : List Nat} (he : SE X W e f) (hp : PG X tg t) (k : TgOk X.K t b is) (hs : swapsWithSole [tg] e pos.line X.env = pure false := by rfl) (hw : swappedStores [tg] e X.env = pure none := by rfl)
    (h1 : (assignEach [tg] X.env).map (·.2) = [assign tg X.env] := by rfl) : SS X W (.Assign [tg] e pos) (sAsg f b) := by
  refine (ps_asg he hp hs hw h1).dy fun D σ H ⟨G, F, ρ, r, p⟩ => ⟨G, F, ρ, r, PostS.toS r p fun d v F' H' _ ex rp r' p' => ?_⟩
  cases q : b d ρ with
  | none => rw [q] at p'; exact p'.elim
  | some ρ' =>
    rw [q] at p'
    exact k G F' H' σ ρ ρ' d v _ r' rp q fun σ' r2 _ => p' σ' F' H' (.refl _) .refl r2

/-! ### loops -/
/-- J yields the things ds -/
structure ItOk (K : PySem.W.Frag) (J : It) (ds : List D) (F : Hp) : Prop where
  go : ∀ i H, i < ds.length → Same F H → J.go i H
  stop : ∀ H, Same F H → J.stop ds.length H
  yld : ∀ i H x H' F1, i < ds.length → Same F F1 → Same F1 H → J.yld i H x H' → ∃ F2 d, Ext F1 H F2 H' ∧ ds[i]? = some d ∧ Rep K F2 d x
theorem ItOk.mono {K : PySem.W.Frag} {J : It} {ds : List D} {F F' : Hp} (h : ItOk K J ds F) (s : Same F F') : ItOk K J ds F' :=
  ⟨fun i H hi q => h.go i H hi (s.trans q), fun H q => h.stop H (s.trans q), fun i H x H' F1 hi q q1 y => h.yld i H x H' F1 hi (s.trans q) q1 y⟩
def ri (K : PySem.W.Frag) (W : WX) (f : REnv → R (List D)) : TI := fun σ H R => ∃ G F ρ, RepE K G F H σ ρ ∧ Post K W (fun F' ds (J : It) => ItOk K J ds F') σ F H (f ρ) R
abbrev SI (X : Cx) (W : WX) (tg iter : Expr) (f : REnv → R (List D)) : Prop := PI X tg iter (ri X.K W f)
def forS (b : D → REnv → Option REnv) (body : REnv → SR) : List D → REnv → SR
  | [], ρ => .next ρ
  | d :: ds, ρ => match b d ρ with
    | some ρ' => (body ρ').seq (forS b body ds)
    | none => .bad
def sFor (f : REnv → R (List D)) (b : D → REnv → Option REnv) (body : REnv → SR) : REnv → SR := fun ρ => (f ρ).toS ρ fun ds => forS b body ds ρ
theorem for_read {J : It} {ds : List D} {t : TG} {b : D → REnv → Option REnv} {body : REnv → SR} {K : PySem.W.Frag} {is : List Nat} (hg : TgOk K t b is) {D : Ends} {G F1 H1 : Hp} {σ : St} {ρ : REnv} (hJ : ItOk K J ds F1) (r : RepE K G F1 H1 σ ρ) (p : PostS K W D G F1 (forS b body ds ρ)) :
    ∃ Wv : Nat → Nat → St → Hp → Prop, (∃ m, Wv 0 m σ H1) ∧ ∀ i m σ H, Wv i m σ H →
      (J.stop i H ∧ D.nx σ H) ∨ (J.go i H ∧ ∃ N : St → Hp → Prop, (∀ σ' H', N σ' H' → ∃ m', m' < m ∧ Wv (i + 1) m' σ' H') ∧ ∀ x H', J.yld i H x H' → t x σ H' fun σ2 H2 => rs K W body { D with nx := N, ct := N, bk := D.nx } σ2 H2) := by
  let Pv : Nat → St → Hp → Prop := fun i σ H => ∃ F' ρ', Same F1 F' ∧ NewG G F1 F' ∧ RepE K G F' H σ ρ' ∧ PostS K W D G F' (forS b body (ds.drop i) ρ')
  refine ⟨fun i m σ H => m = ds.length - i ∧ i ≤ ds.length ∧ Pv i σ H, ⟨ds.length, by simp, Nat.zero_le _, F1, ρ, .refl _, .refl, r, by simpa using p⟩, ?_⟩
  rintro i m σ H ⟨rfl, hi, F', ρ', s, n, r, p⟩
  by_cases hlt : i < ds.length
  · refine .inr ⟨hJ.go i H hlt (s.trans r.f), Pv (i + 1), fun σ' H' q => ⟨ds.length - (i + 1), by omega, rfl, hlt, q⟩, fun x H' y => ?_⟩
    obtain ⟨F2, d, ex, ed, rp⟩ := hJ.yld i H x H' F' hlt s r.f y
    have dr : ds.drop i = d :: ds.drop (i + 1) := by
      obtain ⟨h1, h2⟩ := List.getElem?_eq_some_iff.mp ed
      rw [← h2]
      exact List.drop_eq_getElem_cons h1
    rw [dr] at p
    have r2 := r.ext ex
    have p2 := PostS.ext ex.f (ex.newG r.g) p
    have p3 : PostS K W D G F2 (match b d ρ' with | some ρ2 => (body ρ2).seq (forS b body (ds.drop (i + 1))) | none => .bad) := p2
    cases q : b d ρ' with
    | none => rw [q] at p3; exact p3.elim
    | some ρ2 =>
      rw [q] at p3
      refine hg G F2 H' σ ρ' ρ2 d x _ r2 rp q fun σ2 r3 _ => ⟨G, F2, ρ2, r3, ?_⟩
      refine PostS.ends (D := { D with nx := Pv (i + 1) }) (PostS.seq p3 fun ρ3 σ3 F3 H3 _ s3 n3 r4 p4 => ?_)
      exact ⟨F3, ρ3, s.trans (ex.f.trans s3), n.trans ((ex.newG r.g).trans n3), r4, p4⟩
  · have e : i = ds.length := by omega
    subst e
    rw [List.drop_length] at p
    exact .inl ⟨hJ.stop H (s.trans r.f), p σ F' H (.refl _) .refl r⟩
theorem ss_for {tg iter : Expr} {body : List Stmt} {fi : REnv → R (List D)} {t : TG} {b : D → REnv → Option REnv} {is : List Nat} (hp : PassesOwn (model X.prog X.w) X.A X.env X.xe) (hc : X.calm = true) (hi : SI X W tg iter fi) (pg : PG X tg t) (k : TgOk X.K t b is) (hb : SSs X W body g)
    (hs : ∀ x, foldedSetIterable iter X.env x = pure x := by intro _; rfl) : SS X W (.For tg iter body [] pos) (sFor fi b g) := by
  exact (ps_for hp hc hi pg hb hs).dy fun D σ H ⟨G, F, ρ, r, p⟩ => ⟨G, F, ρ, r, PostS.toS r p fun ds J F' H' _ ex rp r' p' => for_read k rp r' p'⟩

/-! ### while -/
open Classical in
end
end Dy

set_option Elab.async false
set_option linter.all false
set_option maxRecDepth 100000
namespace Dy
open PySem PySem.Spec PyProof.Rows L2

/-! ### what is walked -/
def iterD : D → Option (List D)
  | .lst xs => some xs
  | .tup xs => some xs
  | .str z => some (z.cps.toList.map fun c => .str ⟨#[c]⟩)
  | _ => none
section
variable {K : PySem.W.Frag} {F : Hp}
theorem it_list {a : Addr} {vs : List V} {ds : List D} (h : SqL K F a vs) (r : RepL K F ds vs) : ItOk K (Itl K a) ds F where
  go := fun i H hi s => by
    obtain ⟨v, e, _⟩ := r.get (List.getElem?_eq_getElem hi)
    exact ⟨vs, v, Same.seq s h, e⟩
  stop := fun H s => ⟨vs, Same.seq s h, by rw [← r.length]; exact Nat.le_refl _⟩
  yld := fun i H x H' F1 hi s s1 y => by
    obtain ⟨e, y⟩ := y
    subst e
    have ex := y vs (Same.seq (s.trans s1) h)
    obtain ⟨d, ed, rp⟩ := r.get' ex
    exact ⟨F1, d, .refl s1, ed, Rep.mono s _ _ rp⟩
theorem it_tup {a : Addr} {vs : List V} {ds : List D} (h : SqT K F a vs) (r : RepL K F ds vs) : ItOk K (Itt K a) ds F where
  go := fun i H hi s => by
    obtain ⟨v, e, _⟩ := r.get (List.getElem?_eq_getElem hi)
    exact ⟨vs, v, Same.seqT s h, e⟩
  stop := fun H s => ⟨vs, Same.seqT s h, by rw [← r.length]; exact Nat.le_refl _⟩
  yld := fun i H x H' F1 hi s s1 y => by
    obtain ⟨e, y⟩ := y
    subst e
    have ex := y vs (Same.seqT (s.trans s1) h)
    obtain ⟨d, ed, rp⟩ := r.get' ex
    exact ⟨F1, d, .refl s1, ed, Rep.mono s _ _ rp⟩
theorem it_str {z : Str} : ItOk K (Its z) (z.cps.toList.map fun c => .str ⟨#[c]⟩) F where
  go := fun i H hi s => by
    show i < z.cps.size
    simpa using hi
  stop := fun H s => by
    show z.cps.size ≤ _
    simp
  yld := fun i H x H' F1 hi s s1 y => by
    obtain ⟨e, c, ec, ex⟩ := y
    subst e
    subst ex
    refine ⟨F1, .str ⟨#[c]⟩, .refl s1, ?_, Rep.mk_str⟩
    simp [ec]
def rangeD (lo : Int) (n : Nat) : List D := (List.range n).map fun (i : Nat) => .int (lo + (i : Int))
theorem it_range {lo : Int} {n : Nat} : ItOk K (Itr lo n) (rangeD lo n) F where
  go := fun i H hi s => by
    show i < n
    simpa [rangeD] using hi
  stop := fun H s => by show n ≤ _; simp [rangeD]
  yld := fun i H x H' F1 hi s s1 y => by
    obtain ⟨e, ex⟩ := y
    subst e
    subst ex
    have hi : i < n := by simpa [rangeD] using hi
    refine ⟨F1, .int (lo + i), .refl s1, ?_, Rep.mk_int⟩
    simp [rangeD, hi]
def rangeC (lo c : Int) (n : Nat) : List D := (List.range n).map fun (i : Nat) => .int (lo + (i : Int) * c)
def enumD (ds : List D) : List D := (List.range ds.length).map fun (i : Nat) => .tup [.int (i : Int), ds.getD i .non]
theorem enumD_get {ds : List D} {i : Nat} {d : D} (h : ds[i]? = some d) : (enumD ds)[i]? = some (.tup [.int (i : Int), d]) := by
  obtain ⟨hi, e⟩ := List.getElem?_eq_some_iff.mp h
  simp [enumD, hi, e]
theorem it_enum {a : Addr} {vs : List V} {ds : List D} (h : SqL K F a vs) (r : RepL K F ds vs) : ItOk K (Ite K a) (enumD ds) F where
  go := fun i H hi s => by
    have hi : i < ds.length := by simpa [enumD] using hi
    obtain ⟨v, e, _⟩ := r.get (List.getElem?_eq_getElem hi)
    exact ⟨vs, v, Same.seq s h, e⟩
  stop := fun H s => ⟨vs, Same.seq s h, by rw [← r.length]; simp [enumD]⟩
  yld := fun i H x H' F1 hi s s1 y => by
    obtain ⟨T, v, e1, hT, e2, y⟩ := y
    subst e1
    subst e2
    have ev := y vs (Same.seq (s.trans s1) h)
    obtain ⟨d, ed, rp⟩ := r.get' ev
    have ex : Ext F1 H (upd F1 T (.tup [.int (i : Nat), v])) (upd H T (.tup [.int (i : Nat), v])) := Ext.new s1 hT
    exact ⟨_, _, ex, enumD_get ed, Rep.mk_tup (.of upd_same) (RepL.cons Rep.mk_int (RepL.cons (Rep.mono (s.trans ex.f) _ _ rp) RepL.nil))⟩
def zipD (xs ys : List D) : List D := (xs.zip ys).map fun p => .tup [p.1, p.2]
end

/-- a list, a tuple or a text, walked -/
def iAny (K : PySem.W.Frag) (tl : TE) : TI := fun σ H R => tl σ H fun x H1 => (∃ a, x = .ref a ∧ (∃ xs, SqL K H1 a xs) ∧ R (Itl K a) H1) ∨ (∃ a, x = .ref a ∧ (∃ xs, SqT K H1 a xs) ∧ R (Itt K a) H1) ∨ ∃ z, x = .str z ∧ R (Its z) H1
theorem pi_any {X : Cx} {tg l : Expr} {tl : TE} (hl : PE X l tl) : PI X tg l (iAny X.K tl) := by
  refine ⟨fun pins s σ H R I h => ?_⟩
  refine thn (hl.run pins s σ H _ I h) fun v s1 ⟨x, H1, I1, r1, q1⟩ => ?_
  rcases q1 with ⟨a, e, ⟨xs, hq⟩, q⟩ | ⟨a, e, ⟨xs, hq⟩, q⟩ | ⟨z, e, q⟩
  · subst e
    cases r1
    obtain ⟨its, rv, p, hz⟩ := I1.list hq
    refine wpAny_pyIter_list p.isList ?_
    refine ⟨s1.heap.objs.size, [s1.heap.objs.size], _, _, H1, rfl, I1.kept (t' := s1.toks) fun b o e => Heap.get?_push_of_some _ e, turn_list a _, ⟨_, Heap.get?_push_size _ rfl, rfl, rfl⟩, fun b hb => ?_, q⟩
    have e : b = s1.heap.objs.size := by simpa using hb
    subst e
    exact I1.fpOk (Nat.le_refl _) (I1.hok.fresh (Nat.le_refl _))
  · subst e
    cases r1
    obtain ⟨its, rv, p, hz⟩ := I1.tuple hq
    refine wpAny_pyIter_tuple (show s1.heap.IsTuple a its.toArray from p) ?_
    refine ⟨s1.heap.objs.size, [s1.heap.objs.size], _, _, H1, rfl, I1.kept (t' := s1.toks) fun b o e => Heap.get?_push_of_some _ e, turn_tuple a _, ⟨_, Heap.get?_push_size _ rfl, rfl, rfl⟩, fun b hb => ?_, q⟩
    have e : b = s1.heap.objs.size := by simpa using hb
    subst e
    exact I1.fpOk (Nat.le_refl _) (I1.hok.fresh (Nat.le_refl _))
  · subst e
    obtain ⟨t, rfl⟩ := r1
    cases ha : z.cps.all (· < 128)
    · exact wpAny_pyIter_wide ha (pi_one (tk := s1.toks) I1 _ (turn_str _ z t "str_iterator" (.inr rfl)) ⟨_, Heap.get?_push_size _ rfl, rfl, rfl⟩ q)
    · exact wpAny_pyIter_ascii ha (pi_one (tk := s1.toks) I1 _ (turn_str _ z t "str_ascii_iterator" (.inl rfl)) ⟨_, Heap.get?_push_size _ rfl, rfl, rfl⟩ q)
section
variable {X : Cx} {W : WX} {tg e e1 e2 e3 : Expr} {es elts : List Expr} {f : REnv → R D} {t : REnv → R (List D)} {pos p tpos : Pos} {kk : Nat}
def iD (f : REnv → R D) : REnv → R (List D) := fun ρ => (f ρ).bind fun d => .opt (iterD d)
theorem si_any (h : SE X W e f) : SI X W tg e (iD f) := by
  refine ⟨fun pins s σ H R I q => (pi_any (tg := tg) h).run pins s σ H R I ?_⟩
  obtain ⟨G, F, ρ, r, p⟩ := q
  refine ⟨G, F, ρ, r, Post.bind p fun d v F' H' _ ex rp p' => ?_⟩
  cases d with
  | lst xs =>
    obtain ⟨a, vs, e1, h1, h2⟩ := rp.lst_inv
    exact .inl ⟨a, e1, ⟨vs, Same.seq ex.s h1⟩, p' _ F' H' (.refl ex.s) (it_list h1 h2)⟩
  | tup xs =>
    obtain ⟨a, vs, e1, h1, h2⟩ := rp.tup_inv
    exact .inr (.inl ⟨a, e1, ⟨vs, Same.seqT ex.s h1⟩, p' _ F' H' (.refl ex.s) (it_tup h1 h2)⟩)
  | str z => exact .inr (.inr ⟨z, rp.str_inv, p' _ F' H' (.refl ex.s) it_str⟩)
  | _ => exact p'.elim
def Sm (i : Int) : Prop := -(2 ^ 62) ≤ i ∧ i < 2 ^ 62
instance (i : Int) : Decidable (Sm i) := inferInstanceAs (Decidable (_ ∧ _))
def range1 : List D → Option (List D)
  | [.int n] => if Sm n then some (rangeD 0 n.toNat) else none
  | _ => none
def range2 : List D → Option (List D)
  | [.int m, .int n] => if Sm m ∧ Sm n then some (rangeD m (n - m).toNat) else none
  | _ => none
def iArgs (o : List D → Option (List D)) (t : REnv → R (List D)) : REnv → R (List D) := fun ρ => (t ρ).bind fun ds => .opt (o ds)
theorem Post.opt {α β : Type} {K : PySem.W.Frag} {W : WX} {rel : Hp → α → β → Prop} {σ : St} {F H : Hp} {x : Option α} {Q : β → Hp → Prop} (h : Post K W rel σ F H (.opt x) Q) : ∃ a, x = some a ∧ ∀ v F' H', Ext F H F' H' → rel F' a v → Q v H' := by
  cases x with
  | none => exact h.elim
  | some a => exact ⟨a, rfl, h⟩
theorem RepL.one {K : PySem.W.Frag} {F : Hp} {a : D} {vs : List V} (h : RepL K F [a] vs) : ∃ v, vs = [v] ∧ Rep K F a v := by
  simp only [RepL] at h
  obtain ⟨v, r, e, h1, h2⟩ := h
  subst h2
  exact ⟨v, e, h1⟩
theorem RepL.two {K : PySem.W.Frag} {F : Hp} {a b : D} {vs : List V} (h : RepL K F [a, b] vs) : ∃ v w, vs = [v, w] ∧ Rep K F a v ∧ Rep K F b w := by
  simp only [RepL] at h
  obtain ⟨v, r, e, h1, w, r2, e2, h2, h3⟩ := h
  subst h3
  subst e2
  exact ⟨v, w, e, h1, h2⟩
theorem range1_inv {ds rs : List D} (h : range1 ds = some rs) : ∃ n, ds = [.int n] ∧ Sm n ∧ rs = rangeD 0 n.toNat := by
  unfold range1 at h
  split at h
  · split at h
    · cases h; exact ⟨_, rfl, by assumption, rfl⟩
    · cases h
  · cases h
theorem si_range1 (hm : X.mg "range" = none) (ha : SA X W [e] t) (hg : Gl X "range" := by rfl) (hs : starEach [e] X.env = [(false, eval e X.env)] := by rfl) : SI X W tg (.Call (.Name "range" p) [e] [] pos) (iArgs range1 t) := by
  refine ⟨fun pins s σ H R I q => (pi_range1 (tg := tg) hg hm ha hs).run pins s σ H R I ?_⟩
  obtain ⟨G, F, ρ, r, p⟩ := q
  refine ⟨G, F, ρ, r, Post.bind p fun ds vs F' H' _ ex rp p' => ?_⟩
  obtain ⟨rs, e1, q⟩ := Post.opt p'
  obtain ⟨n, rfl, hS, rfl⟩ := range1_inv e1
  obtain ⟨v, rfl, h1⟩ := rp.one
  exact ⟨n, by rw [h1.int_inv], hS.1, hS.2, q _ F' H' (.refl ex.s) it_range⟩
def enum1 : List D → Option (List D)
  | [.lst xs] => some (enumD xs)
  | _ => none
theorem enum1_inv {ds rs : List D} (h : enum1 ds = some rs) : ∃ xs, ds = [.lst xs] ∧ rs = enumD xs := by
  unfold enum1 at h
  split at h
  · cases h; exact ⟨_, rfl, rfl⟩
  · cases h
theorem si_enum (hm : X.mg "enumerate" = none) (ha : SA X W [e] t) (hg : Gl X "enumerate" := by rfl) (hs : starEach [e] X.env = [(false, eval e X.env)] := by rfl) :
    SI X W (.Tuple elts kk tpos) (.Call (.Name "enumerate" p) [e] [] pos) (iArgs enum1 t) := by
  refine ⟨fun pins s σ H R I q => (pi_enum hg hm ha hs).run pins s σ H R I ?_⟩
  obtain ⟨G, F, ρ, r, p⟩ := q
  refine ⟨G, F, ρ, r, Post.bind p fun ds vs F' H' _ ex rp p' => ?_⟩
  obtain ⟨rs, e1, q⟩ := Post.opt p'
  obtain ⟨xs, rfl, rfl⟩ := enum1_inv e1
  obtain ⟨v, rfl, h1⟩ := rp.one
  obtain ⟨a, ws, rfl, h3, h4⟩ := h1.lst_inv
  exact ⟨a, ws, rfl, Same.seq ex.s h3, q _ F' H' (.refl ex.s) (it_enum h3 h4)⟩
def zip2 : List D → Option (List D)
  | [.lst xs, .lst ys] => some (zipD xs ys)
  | [.tup xs, .tup ys] => some (zipD xs ys)
  | _ => none
end

/-! ### comprehensions -/
def R.get {α : Type} : R α → Option α
  | .ok a => some a
  | _ => none
def wipeE (ρ : REnv) : List Nat → REnv
  | [] => ρ
  | v :: vs => (wipeE ρ vs).set v .un
theorem RepE.wipe {K : PySem.W.Frag} {G F H : Hp} {σ : St} {ρ : REnv} (r : RepE K G F H σ ρ) : ∀ vs : List Nat, RepE K G F H (L2.wipe σ vs) (wipeE ρ vs)
  | [] => r
  | v :: vs => (RepE.wipe r vs).unset
theorem wipe_in {σ : St} {j : Nat} : ∀ {vs : List Nat}, j ∈ vs → (L2.wipe σ vs)[j]? = if j < σ.length then some none else none
  | v :: vs, h => by
    unfold L2.wipe
    by_cases e : v = j
    · subst e
      rw [List.getElem?_set, if_pos rfl]
      rw [wipe_length]
    · rw [List.getElem?_set_ne e]
      exact wipe_in (by rcases List.mem_cons.mp h with z | z; exact absurd z.symm e; exact z)
theorem wipe_only {σ σ' : St} {vs is : List Nat} (h : OnlyAt is (L2.wipe σ vs) σ') (hs : ∀ i ∈ is, i ∈ vs) : L2.wipe σ' vs = L2.wipe σ vs := by
  have hl : σ'.length = σ.length := by rw [h.1, wipe_length]
  apply List.ext_getElem?
  intro j
  by_cases hj : j ∈ vs
  · rw [wipe_in hj, wipe_in hj, hl]
  · rw [wipe_out hj, h.2 j fun z => hj (hs j z)]
def compS (b : D → REnv → Option REnv) (c : REnv → R Bool) (e : REnv → R D) : List D → REnv → Option (List D)
  | [], _ => some []
  | d :: ds, ρ => (b d ρ).bind fun ρ' => (c ρ').get.bind fun k => if k = true then (e ρ').get.bind fun v => (compS b c e ds ρ).bind fun r => some (v :: r) else compS b c e ds ρ
def eComp (vs : List Nat) (f : REnv → R (List D)) (b : D → REnv → Option REnv) (c : REnv → R Bool) (e : REnv → R D) : REnv → R D :=
  fun ρ => (f ρ).bind fun ds => if ds.length ≤ sizeLine then .opt ((compS b c e ds (wipeE ρ vs)).map .lst) else .bad
/-- inside a comprehension nothing may be raised -/
abbrev W0 : WX := fun _ _ _ _ => False
theorem Post.get {α β : Type} {K : PySem.W.Frag} {rel : Hp → α → β → Prop} {σ : St} {F H : Hp} {x : R α} {a : α} {Q : β → Hp → Prop} (e : x.get = some a) (q : ∀ v F' H', Ext F H F' H' → rel F' a v → Q v H') : Post K W0 rel σ F H x Q := by
  cases x with
  | ok b => cases e; exact q
  | err d => cases e
  | bad => cases e
theorem comp_core {K : PySem.W.Frag} {vs is : List Nat} {t : TG} {b : D → REnv → Option REnv} {c : REnv → R Bool} {e : REnv → R D} (hk : TgOk K t b is) (hs : ∀ i ∈ is, i ∈ vs) {σ : St} {Q : VK} {G F1 H1 : Hp} {ρ0 : REnv} {ds res : List D} {J : It}
    (r1 : RepE K G F1 H1 (L2.wipe σ vs) ρ0) (hJ : ItOk K J ds F1) (hl : ds.length ≤ sizeLine) (hr : compS b c e ds ρ0 = some res) (p2 : ∀ v F' H', Ext F1 H1 F' H' → Rep K F' (.lst res) v → Q v H') :
    ∀ D, H1 D = none → ∃ W : Nat → Nat → Hp → Prop, (∃ m, W 0 m (upd H1 D (.lst []))) ∧ ∀ i m H, W i m H →
  (J.stop i H ∧ Q (.ref D) H) ∨ (J.go i H ∧ ∃ Nx : Hp → Prop, (∀ H', Nx H' → ∃ m', m' < m ∧ W (i + 1) m' H') ∧ ∀ x H', J.yld i H x H' → t x (L2.wipe σ vs) H' fun σ2 H2 => L2.wipe σ2 vs = L2.wipe σ vs ∧ (rt K W0 c) σ2 H2 fun b H3 =>
    if b = true then (rd K W0 e) σ2 H3 fun y H4 => ∃ acc, H4 D = some (.lst acc) ∧ acc.length < sizeLine ∧ Nx (upd H4 D (.lst (acc ++ [y]))) else Nx H3) := by
  intro A hA
  let Pv : Nat → Hp → Prop := fun i H => ∃ F' acc ws rest, Ext F1 H1 F' H ∧ F' A = none ∧ H A = some (.lst ws) ∧ RepL K F' acc ws ∧ acc.length ≤ i ∧ compS b c e (ds.drop i) ρ0 = some rest ∧ acc ++ rest = res
  have hF1 : F1 A = none := r1.f.free hA
  refine ⟨fun i m H => m = ds.length - i ∧ i ≤ ds.length ∧ Pv i H, ⟨ds.length, by simp, Nat.zero_le _, F1, [], [], res, Ext.newH r1.f hA, hF1, upd_same, RepL.nil, Nat.le_refl _, by simpa using hr, rfl⟩, ?_⟩
  rintro i m H2 ⟨rfl, hi, F', acc, ws, rest, ex, hFA, hHA, rl, hal, hc, he⟩
  by_cases hlt : i < ds.length
  · refine .inr ⟨hJ.go i H2 hlt (ex.f.trans ex.s), Pv (i + 1), fun H' q => ⟨ds.length - (i + 1), by omega, rfl, hlt, q⟩, fun x H' y => ?_⟩
    obtain ⟨F2, d, ex2, ed, rp⟩ := hJ.yld i H2 x H' F' hlt ex.f ex.s y
    have dr : ds.drop i = d :: ds.drop (i + 1) := by
      obtain ⟨h1, h2⟩ := List.getElem?_eq_some_iff.mp ed
      rw [← h2]
      exact List.drop_eq_getElem_cons h1
    rw [dr] at hc
    unfold compS at hc
    obtain ⟨ρ', hb, hc⟩ := Option.bind_eq_some_iff.mp hc
    obtain ⟨k, hk1, hc⟩ := Option.bind_eq_some_iff.mp hc
    have r2 : RepE K G F2 H' (L2.wipe σ vs) ρ0 := r1.ext (ex.trans ex2)
    refine hk G F2 H' _ _ ρ' d x _ r2 rp hb fun σ2 r3 o2 => ⟨wipe_only o2 hs, G, F2, ρ', r3, Post.get hk1 fun k' F3 H3 ex3 ek => ?_⟩
    subst ek
    have stay : ∀ {Fa Ha Fb Hb : Hp}, Ext Fa Ha Fb Hb → Fa A = none → Ha A = some (.lst ws) → Fb A = none ∧ Hb A = some (.lst ws) := fun {Fa Ha Fb Hb} z h1 h2 => by
      refine ⟨?_, z.h _ _ h2⟩
      cases q : Fb A with
      | none => rfl
      | some o =>
        have := z.n A o q h1
        rw [h2] at this
        cases this
    obtain ⟨a2, b2⟩ := stay ex2 hFA hHA
    obtain ⟨a3, b3⟩ := stay ex3 a2 b2
    cases k with
    | false =>
      refine iteF ?_
      rw [if_neg Bool.false_ne_true] at hc
      exact ⟨F3, acc, ws, rest, (ex.trans ex2).trans ex3, a3, b3, RepL.mono (ex2.f.trans ex3.f) _ _ rl, Nat.le_succ_of_le hal, hc, he⟩
    | true =>
      refine iteT ?_
      rw [if_pos rfl] at hc
      obtain ⟨v, hv, hc⟩ := Option.bind_eq_some_iff.mp hc
      obtain ⟨rr, hr2, hc⟩ := Option.bind_eq_some_iff.mp hc
      cases hc
      refine ⟨G, F3, ρ', r3.ext ex3, Post.get hv fun y F4 H4 ex4 ry => ?_⟩
      obtain ⟨a4, b4⟩ := stay ex4 a3 b3
      have exA := ((ex.trans ex2).trans ex3).trans ex4
      refine ⟨ws, b4, ?_, F4, acc ++ [v], ws ++ [y], rr, ⟨exA.f, fun q o z => ?_, fun q o z => ?_, exA.n⟩, a4, upd_same, (RepL.mono ((ex2.f.trans ex3.f).trans ex4.f) _ _ rl).snoc ry, ?_, hr2, by simpa using he⟩
      · rw [← rl.length]; omega
      · rw [upd_ne (ne_of_none z hA)]; exact exA.h _ _ z
      · rw [upd_ne (ne_of_none z a4)]; exact exA.s _ _ z
      · simp; omega
  · have e : i = ds.length := by omega
    subst e
    rw [List.drop_length] at hc
    unfold compS at hc
    cases hc
    rw [List.append_nil] at he
    subst he
    refine .inl ⟨hJ.stop H2 (ex.f.trans ex.s), p2 (.ref A) (upd F' A (.lst ws)) H2 ⟨ex.f.trans (same_upd hFA), ex.h, fun q o z => ?_, fun q o z z2 => ?_⟩ (Rep.mk_lst (.of upd_same) (RepL.mono (same_upd hFA) _ _ rl))⟩
    · by_cases hq : q = A
      · subst hq; rw [upd_same] at z; rw [← z]; exact hHA
      · rw [upd_ne hq] at z; exact ex.s _ _ z
    · by_cases hq : q = A
      · subst hq; exact hA
      · rw [upd_ne hq] at z; exact ex.n _ _ z z2
theorem comp_read {K : PySem.W.Frag} {W : WX} {vs is : List Nat} {fi : REnv → R (List D)} {t : TG} {b : D → REnv → Option REnv} {c : REnv → R Bool} {e : REnv → R D} (hk : TgOk K t b is) (hs : ∀ i ∈ is, i ∈ vs) {σ : St} {H : Hp} {Q : VK}
    (hh : rd K W (eComp vs fi b c e) σ H Q) : tLc (ri K W fi) t (rt K W0 c) (rd K W0 e) vs σ H Q := by
  obtain ⟨G, F, ρ, r0, p⟩ := hh
  refine ⟨G, F, ρ, r0, Post.bind p fun ds J F1 H1 _ ex1 hJ p1 => ?_⟩
  have r1 := (r0.ext ex1).wipe vs
  by_cases hl : ds.length ≤ sizeLine
  case neg => rw [if_neg hl] at p1; exact p1.elim
  rw [if_pos hl] at p1
  cases hr : compS b c e ds (wipeE ρ vs) with
  | none => rw [hr] at p1; exact p1.elim
  | some res =>
    rw [hr] at p1
    exact comp_core hk hs r1 hJ hl hr p1
section
variable {X : Cx} {W : WX} {elt tg iter : Expr} {ifs : List Expr} {scope : Scope} {own : List (Str × Nat)} {pos : Pos} {fi : REnv → R (List D)} {t : TG} {b : D → REnv → Option REnv} {c : REnv → R Bool} {e : REnv → R D} {is : List Nat}
abbrev SIf (X : Cx) (W : WX) (ifs : List Expr) (f : REnv → R Bool) : Prop := PTs X ifs (rt X.K W f)
def eYes : REnv → R Bool := fun _ => .ok true
theorem sif_nil : SIf X W [] eYes := ⟨fun pins s σ H Q I ⟨G, F, ρ, r, p⟩ => pts_nil.run pins s σ H Q I (p true F H (.refl r.f) rfl)⟩
theorem sif_one {a : Expr} (h : ST X W a c) : SIf X W [a] c := pts_one h
/-- the block's context -/
abbrev Bl (X : Cx) (s : Shared) (H : Hp) (scope : Scope) (C : Addr) (cl : List (Str × Addr)) (fp : List Addr) : Cx := X.blk s H scope (compEnvC scope cl C X.env) fp
theorem se_comp (hc : X.calm = true) (hN : X.N.Nodup) (ok : BlkOk X.N X.env.scope scope own) (hi : SI X W tg iter fi) (hk : TgOk X.K t b is) (hg : ∀ s H C cl fp, PG (Bl X s H scope C cl fp) tg t) (ht : ∀ s H C cl fp, SIf (Bl X s H scope C cl fp) W0 ifs c)
    (he : ∀ s H C cl fp, SE (Bl X s H scope C cl fp) W0 elt e) (hsub : (is.all fun i => (own.map (·.2)).contains i) = true := by decide)
    (hs : ∀ x, foldedSetIterable iter X.env x = pure x := by intro _; rfl) : SE X W (.ListComp elt [⟨tg, iter, ifs, 0⟩] scope pos) (eComp (own.map (·.2)) fi b c e) :=
  (pe_lc hc hN hi ok hg ht he hs).dy fun σ H Q hh => comp_read hk (fun i h => List.contains_iff_mem.mp (List.all_eq_true.mp hsub i h)) hh
end

/-! ### defs -/
def spD (K : PySem.W.Frag) (n : Nat) (fn : List D → R D) : Sp := fun vs H Q E => vs.length = n ∧ ∃ F ds, Same F H ∧ RepL K F ds vs ∧ Post K (fun cls dd _ H' => E cls dd H') (Rep K) [] F H (fn ds) Q
def SR.out : SR → R D
  | .next _ => .ok .non
  | .ret d => .ok d
  | .err e _ => .err e
  | .bad => .bad
/-- a def by its body: n parameters, m slots in all -/
def fnD (n m : Nat) (g : REnv → SR) : List D → R D := fun ds => if ds.length = n then (g (ds.map .val ++ List.replicate (m - n) .un)).out else .bad
theorem fnD_len {n m : Nat} {g : REnv → SR} {ds : List D} (h : ds.length ≠ n) : fnD n m g ds = .bad := if_neg h
section
variable {P : Program} {w : World} {K : PySem.W.Frag} {mg : Str → Option Value} {base : Heap} {x qual : Str} {params : Arguments} {body : List Stmt} {scope : Scope} {f : Addr} {fd : FuncData} {N ps : List Str} {k : Nat}
abbrev CxD (P : Program) (w : World) (K : PySem.W.Frag) (mg : Str → Option Value) (base : Heap) (N : List Str) (qual : Str) (scope : Scope) (f : Addr) (cd : Value) (A : Around) (outer : List Env) (s : Shared) (H : Hp) (E : XK) : Cx := cxOf (L2.CX P w) P w K mg base N qual scope f cd A outer s H E
abbrev WD (E : XK) : WX := fun cls dd _ H => E cls dd H
theorem repE_start {F H : Hp} {ds : List D} {vs : List V} (s : Same F H) (r : RepL K F ds vs) : RepE K H F H (L2.start N vs) (ds.map .val ++ List.replicate (N.length - ds.length) .un) := by
  have hl := r.length
  refine ⟨.refl _, s, by unfold L2.start; simp [hl], fun i sl x h1 h2 => ?_, fun i j sl t x y a hij h1 h2 h3 h4 m1 m2 => ?_⟩
  · by_cases hi : i < ds.length
    · rw [List.getElem?_append_left (by simpa using hi), List.getElem?_map] at h1
      obtain ⟨v, ev, rv⟩ := r.get (List.getElem?_eq_getElem hi)
      rw [List.getElem?_eq_getElem hi] at h1
      cases h1
      unfold L2.start at h2
      rw [List.getElem?_append_left (by simpa [← hl] using hi), List.getElem?_map, ev] at h2
      cases h2
      exact ⟨v, rfl, rv⟩
    · rw [List.getElem?_append_right (by simpa using hi), List.getElem?_replicate] at h1
      split at h1
      · cases h1; trivial
      · cases h1
  · by_cases hi : i < ds.length
    · rw [List.getElem?_append_left (by simpa using hi), List.getElem?_map, List.getElem?_eq_getElem hi] at h1
      cases h1
      exact m1.elim
    · rw [List.getElem?_append_right (by simpa using hi), List.getElem?_replicate] at h1
      split at h1
      · cases h1; exact m1.elim
      · cases h1
theorem ok_def {n : Nat} {g : REnv → SR} (Fn : FunD K x qual params body scope [] [] f fd) (S : FnScope N ps scope) (hn : ps.length = n)
    (hb : ∀ (cdv : Value) (A : Around) (outer : List Env) (s : Shared) (H : Hp) (E : XK), Room k (CxD P w K mg base N qual scope f cdv A outer s H E).A → Takes (CxD P w K mg base N qual scope f cdv A outer s H E) (WD E) →
      PassesOwn (model P w) (CxD P w K mg base N qual scope f cdv A outer s H E).A (CxD P w K mg base N qual scope f cdv A outer s H E).env (CxD P w K mg base N qual scope f cdv A outer s H E).xe → SSs (CxD P w K mg base N qual scope f cdv A outer s H E) (WD E) body g) :
    FnOk P w K mg base (L2.CX P w) (k + 1) f fd ps (spD K n (fnD n N.length g)) := by
  refine Fn.ok S (fun vs H Q E h => by rw [hn]; exact h.1) fun cdv A outer s H vs Q E hr hsp => ⟨_, hb cdv A outer s H E hr (takes_of rfl rfl rfl rfl) (passes_of rfl), ?_⟩
  obtain ⟨hv, F, ds, sm, rl, p⟩ := hsp
  have hd : ds.length = n := by rw [rl.length, hv]
  unfold fnD at p
  rw [if_pos hd] at p
  refine ⟨H, F, _, repE_start sm rl, ?_⟩
  rw [hd]
  cases e : g (ds.map .val ++ List.replicate (N.length - n) .un) with
  | next ρ =>
    rw [e] at p
    exact fun σ' F' H' s1 n1 r => p .non F' H' ⟨s1, r.g, r.f, n1⟩ Rep.mk_non
  | ret d =>
    rw [e] at p
    exact fun v F' H' s1 n1 g1 f1 r => p v F' H' ⟨s1, g1, f1, n1⟩ r
  | err d ρ =>
    rw [e] at p
    exact fun σ' F' H' cls dd s1 n1 r q => p cls dd F' H' ⟨s1, r.g, r.f, n1⟩ q
  | bad => rw [e] at p; exact p.elim
end
section
variable {X : Cx} {W : WX} {e : Expr} {es : List Expr} {x : Str} {p pos : Pos} {k n : Nat} {f : Addr} {fd : FuncData} {ps : List Str} {t : REnv → R (List D)} {fn : List D → R D}
def eCall (fn : List D → R D) (t : REnv → R (List D)) : REnv → R D := fun ρ => (t ρ).bind fn
theorem se_call (Fo : FnOk X.prog X.w X.K X.mg X.base (L2.CX X.prog X.w) k f fd ps (spD X.K n fn)) (hl : ∀ ds, ds.length ≠ n → fn ds = .bad) (tk : Takes X W) (hr : Room k X.A) (hm : X.mg x = some (.ref f)) (hk : PySem.W.keepIn X.K (.ref f) = true) (hb : Binds X.K fd ps [])
    (ha : SA X W (e :: es) t) (hg : Gl X x := by rfl) (hdb : (x == ("__debug__" : Str)) = false := by decide) (he : starEach (e :: es) X.env = (false, eval e X.env) :: starEach es X.env := by rfl) (hpl : (backTo pos (starEach es X.env)).any (·.1) = false := by rfl) :
    SE X W (.Call (.Name x p) (e :: es) [] pos) (eCall fn t) :=
  (pe_callS (E := WE W) Fo hr hg hm hk hb (fun σ => passAt tk σ) ha hdb he hpl).dy fun σ H Q ⟨G, F, ρ, r, p⟩ => ⟨G, F, ρ, r, Post.bind p fun ds vs F' H' _ ex rp p' => by
    have hn : ds.length = n := Classical.byContradiction fun z => by
      rw [hl ds z] at p'
      exact p'
    refine ⟨by rw [← rp.length]; exact hn, F', ds, ex.s, rp, ?_⟩
    cases q : fn ds with
    | ok d => rw [q] at p'; exact p'
    | err d => rw [q] at p'; exact p'
    | bad => rw [q] at p'; exact p'⟩
end

/-! ### lists of one's own -/
section
variable {X : Cx} {W : WX} {st : Stmt} {g : REnv → SR} {e : Expr} {f : REnv → R D} {pos : Pos}
/-- ahead of a statement the list at slot i is let go: it is kept from here on -/
def eFreeze (i : Nat) (ρ : REnv) : REnv := match ρ[i]? with
  | some (.own ds) => ρ.set i (.val (.lst ds))
  | some (.tree o) => ρ.set i (.val o.toD)
  | some (.pin _ o) => ρ.set i (.val o.toD)
  | _ => ρ
def sFreeze (i : Nat) (g : REnv → SR) : REnv → SR := fun ρ => g (eFreeze i ρ)
theorem ss_freeze (i : Nat) (h : SS X W st g) : SS X W st (sFreeze i g) := PS.dy h fun D σ H ⟨G, F, ρ, r, p⟩ => by
  unfold sFreeze eFreeze at p
  cases q : ρ[i]? with
  | none => rw [q] at p; exact ⟨G, F, ρ, r, p⟩
  | some s =>
    rw [q] at p
    cases s with
    | own ds =>
      obtain ⟨F', s1, n1, r1⟩ := r.freeze q
      exact ⟨G, F', _, r1, PostS.ext s1 n1 p⟩
    | tree o =>
      obtain ⟨F', s1, n1, r1⟩ := r.freezeT q
      exact ⟨G, F', _, r1, PostS.ext s1 n1 p⟩
    | pin w o =>
      obtain ⟨F', s1, n1, r1⟩ := r.freezeP q
      exact ⟨G, F', _, r1, PostS.ext s1 n1 p⟩
    | _ => exact ⟨G, F, ρ, r, p⟩
/-- x = [..], a list of one's own -/
def sOwn (i : Nat) (t : REnv → R (List D)) : REnv → SR := fun ρ => (t ρ).toS ρ fun ds => if ds.length ≤ sizeLine then .next (ρ.set i (.own ds)) else .bad
theorem ss_own {i : Nat} {x : Str} {pos' lp : Pos} {es : List Expr} {t : REnv → R (List D)} (hN : X.N.Nodup) (ha : SA X W es t) (hi : X.N[i]? = some x := by rfl) (hx : Loc X.env.scope x := by first | exact Or.inl rfl | exact Or.inr rfl) (hs : swapsWith (.List es lp) (some (.Name x pos')) pos.line X.env = pure false := by rfl)
    (hf : X.fn x = true ∨ X.env.scope.names.lookup x = some .local := by first | exact .inl rfl | exact .inr rfl | assumption) : SS X W (.Assign [.Name x pos'] (.List es lp) pos) (sOwn i t) :=
  (ps_set hN hi hx (pe_lst ha) hs hf).dy fun D σ H ⟨G, F, ρ, r, p⟩ => ⟨G, F, ρ, r, PostS.toS r p fun ds vs F' H' _ ex rp r' p' => by
    by_cases hl : ds.length ≤ sizeLine
    · rw [if_pos hl] at p'
      exact ⟨by rw [← rp.length]; exact hl, fun q hq => p' _ F' _ (.refl _) .refl (r'.setO rp hq)⟩
    · rw [if_neg hl] at p'; exact p'.elim⟩
/-- x.append(e) -/
def sApp (i : Nat) (f : REnv → R D) : REnv → SR := fun ρ => match ρ[i]? with
  | some (.own ds) => (f ρ).toS ρ fun d => if ds.length < sizeLine then .next (ρ.set i (.own (ds ++ [d]))) else .bad
  | _ => .bad
theorem own_at {K : PySem.W.Frag} {G F H : Hp} {σ : St} {ρ : REnv} (r : RepE K G F H σ ρ) {i : Nat} {ds : List D} (h : ρ[i]? = some (.own ds)) : ∃ a vs, σ[i]? = some (some (.ref a)) ∧ H a = some (.lst vs) ∧ RepL K F ds vs := by
  have hl : i < σ.length := by
    rw [← r.len]
    exact (List.getElem?_eq_some_iff.mp h).1
  obtain ⟨a, vs, e1, e2, e3, _⟩ := r.at_ i _ _ h (List.getElem?_eq_getElem hl)
  exact ⟨a, vs, by rw [List.getElem?_eq_getElem hl, e1], e2, e3⟩
theorem ss_app (i : Nat) {x : Str} {ap np : Pos} {xp : Pos} (he : SE X W e f) (hN : X.N[i]? = some x := by rfl) (hv : Vis X.env.scope x := by first | exact Or.inl rfl | exact Or.inr (Or.inl rfl) | exact Or.inr (Or.inr rfl)) (hd : (x == ("__debug__" : Str)) = false := by decide) (hcd : (x == ("__classdict__" : Str)) = false := by decide)
    (hbm : ∀ {te : TE} {ta : TA}, PE X (.Name x np) te → PA X [e] ta → PE X (.Call (.Attribute (.Name x np) "append" ap) [e] [] xp) (tBM X.K "list" rAppend te ta) := by exact fun h1 h2 => pe_bm PySem.F.plainAttrs_list PySem.F.slot_list_append PySem.F.type_list_append mt_append h1 h2)
    (hse : starEach (e :: []) X.env = (false, eval e X.env) :: starEach [] X.env := by rfl)
    (hs : swapsWith (.Call (.Attribute (.Name x np) "append" ap) [e] [] xp) none pos.line X.env = pure false := by rfl) : SS X W (.Expr (.Call (.Attribute (.Name x np) "append" ap) [e] [] xp) pos) (sApp i f) :=
  (ps_expr (hbm (pe_var hN hv hd hcd) (pa_cons he pa_nil hse)) hs).dy fun D σ H ⟨G, F, ρ, r, p⟩ => by
    unfold sApp at p
    split at p
    · rename_i ds z
      obtain ⟨a, vs, h1, h2, h3⟩ := own_at r z
      refine ⟨.ref a, h1, .inl ⟨rfl, _, SqL.of h2⟩, G, F, ρ, r, PostS.toS r p fun d v F' H' _ ex rp r' p' => ?_⟩
      by_cases hl : ds.length < sizeLine
      · rw [if_pos hl] at p'
        exact ⟨a, vs, v, rfl, rfl, ex.h _ _ h2, by rw [← h3.length]; exact hl, p' σ F' _ (.refl _) .refl (r'.turnO z h1 ((RepL.mono ex.f _ _ h3).snoc rp))⟩
      · rw [if_neg hl] at p'; exact p'.elim
    · exact p.elim
end
end Dy

set_option Elab.async false
set_option linter.all false
set_option maxRecDepth 100000
namespace Dy
open PySem PySem.Spec PyProof.Rows L2

/-! ### arithmetic -/
def MuOk (i j : Int) : Prop := i.natAbs.log2 + j.natAbs.log2 < 100000000
instance (i j : Int) : Decidable (MuOk i j) := inferInstanceAs (Decidable (_ < _))
theorem MuOk.ok {i j : Int} (h : MuOk i j) : IntMulOk i j := by
  have b : ∀ x : Int, Builtin.Int.intBits x ≤ x.natAbs.log2 + 1 := fun x => by
    unfold Builtin.Int.intBits
    split <;> omega
  have h1 := b i
  have h2 := b j
  have h3 : i.natAbs.log2 + j.natAbs.log2 < 100000000 := h
  have e : bitsLine = 134217728 := by decide
  unfold IntMulOk
  intro z
  rw [Bool.and_eq_true] at z
  have z2 := z.2
  unfold Builtin.Int.intTooBig at z2
  have z3 := of_decide_eq_true z2
  rw [e] at z3
  omega
def DivOk (j : Int) : Prop := j ≠ 0 ∧ j.natAbs.log2 < 9000
instance (j : Int) : Decidable (DivOk j) := inferInstanceAs (Decidable (_ ∧ _))
def oII (f : Int → Int → Option D) : D → D → Option D
  | .int i, .int j => f i j
  | _, _ => none
theorem oII_inv {f : Int → Int → Option D} {a b d : D} (h : oII f a b = some d) : ∃ i j, a = .int i ∧ b = .int j ∧ f i j = some d := by
  unfold oII at h
  split at h
  · exact ⟨_, _, rfl, rfl, h⟩
  · cases h
section
variable {X : Cx}
theorem op2_ii {C : Int → Int → Prop} {g : Int → Int → V} {f : Int → Int → Option D} {K : PySem.W.Frag} (h : ∀ i j d, f i j = some d → C i j ∧ ∀ F, Rep K F d (g i j)) : Op2 K (rI C g) (oII f) := fun F H x y a b d Q s ra rb e q => by
  obtain ⟨i, j, rfl, rfl, e2⟩ := oII_inv e
  obtain ⟨h1, h2⟩ := h i j d e2
  exact ⟨i, j, ra.int_inv, rb.int_inv, h1, now q s (h2 F)⟩
theorem op2_ii0 {g : Int → Int → V} {f : Int → Int → Option D} {K : PySem.W.Frag} (h : ∀ i j d, f i j = some d → ∀ F, Rep K F d (g i j)) : Op2 K (rI0 g) (oII f) := fun F H x y a b d Q s ra rb e q => by
  obtain ⟨i, j, rfl, rfl, e2⟩ := oII_inv e
  exact ⟨i, j, ra.int_inv, rb.int_inv, now q s (h i j d e2 F)⟩
def oSub : D → D → Option D := oII fun i j => some (.int (i - j))
def oMul : D → D → Option D := oII fun i j => if MuOk i j then some (.int (i * j)) else none
def oDiv : D → D → Option D := oII fun i j => if DivOk j then some (.int (i.fdiv j)) else none
def oMod : D → D → Option D := oII fun i j => if j ≠ 0 then some (.int (i.fmod j)) else none
def oPow : D → D → Option D := oII fun i j => if 0 ≤ j ∧ j ≤ 1000000 ∧ i.natAbs < 2 ^ 64 then some (.int (i ^ j.toNat)) else none
def oLt : D → D → Option D := oII fun i j => some (.bl (decide (i < j)))
def oLe : D → D → Option D := oII fun i j => some (.bl (decide (i ≤ j)))
def oGt : D → D → Option D := oII fun i j => some (.bl (decide (j < i)))
def oGe : D → D → Option D := oII fun i j => some (.bl (decide (j ≤ i)))
theorem d_sub : OpR X (binaryOp .Sub) (rI0 fun i j => .int (i - j)) ∧ Op2 X.K (rI0 fun i j => .int (i - j)) oSub := ⟨op_sub, op2_ii0 fun i j d e F => by cases e; exact Rep.mk_int⟩
theorem d_mul : OpR X (binaryOp .Mult) (rI MuOk fun i j => .int (i * j)) ∧ Op2 X.K (rI MuOk fun i j => .int (i * j)) oMul :=
  ⟨opI fun _ _ _ _ _ _ _ hc q => mul_int q hc.ok, op2_ii fun i j d e => by
    by_cases h : MuOk i j
    · simp only [if_pos h] at e
      cases e
      exact ⟨h, fun F => Rep.mk_int⟩
    · simp only [if_neg h] at e; cases e⟩
theorem d_div : OpR X (binaryOp .FloorDiv) (rI (fun _ j => DivOk j) fun i j => .int (i.fdiv j)) ∧ Op2 X.K (rI (fun _ j => DivOk j) fun i j => .int (i.fdiv j)) oDiv :=
  ⟨opI fun _ _ _ _ _ _ _ hc q => floordiv_int hc.1 q (.inl (PyProof.noPylong_of_log2 hc.2)), op2_ii fun i j d e => by
    by_cases h : DivOk j
    · simp only [if_pos h] at e
      cases e
      exact ⟨h, fun F => Rep.mk_int⟩
    · simp only [if_neg h] at e; cases e⟩
theorem d_mod : OpR X (binaryOp .Mod) (rI (fun _ j => j ≠ 0) fun i j => .int (i.fmod j)) ∧ Op2 X.K (rI (fun _ j => j ≠ 0) fun i j => .int (i.fmod j)) oMod :=
  ⟨op_modN, op2_ii fun i j d e => by
    by_cases h : j ≠ 0
    · simp only [if_pos h] at e
      cases e
      exact ⟨h, fun F => Rep.mk_int⟩
    · simp only [if_neg h] at e; cases e⟩
theorem d_pow : OpR X (binaryOp .Pow) (rI CPow fun i j => .int (i ^ j.toNat)) ∧ Op2 X.K (rI CPow fun i j => .int (i ^ j.toNat)) oPow :=
  ⟨op_pow, op2_ii fun i j d e => by
    by_cases h : 0 ≤ j ∧ j ≤ 1000000 ∧ i.natAbs < 2 ^ 64
    · simp only [if_pos h] at e
      cases e
      exact ⟨h, fun F => Rep.mk_int⟩
    · simp only [if_neg h] at e; cases e⟩
theorem d_lt : OpR X (compareOp .Lt) (rI0 fun i j => .bl (decide (i < j))) ∧ Op2 X.K (rI0 fun i j => .bl (decide (i < j))) oLt := ⟨op_lt, op2_ii0 fun i j d e F => by cases e; exact Rep.mk_bl⟩
theorem d_le : OpR X (compareOp .LtE) (rI0 fun i j => .bl (decide (i ≤ j))) ∧ Op2 X.K (rI0 fun i j => .bl (decide (i ≤ j))) oLe := ⟨op_le, op2_ii0 fun i j d e F => by cases e; exact Rep.mk_bl⟩
theorem d_gt : OpR X (compareOp .Gt) (rI0 fun i j => .bl (decide (j < i))) ∧ Op2 X.K (rI0 fun i j => .bl (decide (j < i))) oGt := ⟨op_gt, op2_ii0 fun i j d e F => by cases e; exact Rep.mk_bl⟩
theorem d_ge : OpR X (compareOp .GtE) (rI0 fun i j => .bl (decide (j ≤ i))) ∧ Op2 X.K (rI0 fun i j => .bl (decide (j ≤ i))) oGe := ⟨op_ge, op2_ii0 fun i j d e F => by cases e; exact Rep.mk_bl⟩
def oNeg : D → Option D
  | .int i => some (.int (-i))
  | _ => none
theorem d_neg : UnR X (unaryOp .USub) (rU fun i => .int (-i)) ∧ Op1 X.K (rU fun i => .int (-i)) oNeg := ⟨un_neg, fun F H x a d Q s ra e q => by
  unfold oNeg at e
  split at e
  · cases e; exact ⟨_, ra.int_inv, now q s Rep.mk_int⟩
  · cases e⟩

/-! ### + of ints, texts, lists, tuples -/
def oAddS : D → D → Option D
  | .str a, .str b => if a.length + b.length ≤ sizeLine then some (.str (a ++ b)) else none
  | _, _ => none
def oAddL : D → D → Option D
  | .lst a, .lst b => if a.length + b.length ≤ sizeLine then some (.lst (a ++ b)) else none
  | _, _ => none
def oAddT : D → D → Option D
  | .tup a, .tup b => if a.length + b.length ≤ sizeLine then some (.tup (a ++ b)) else none
  | _, _ => none
def rCatW (K : PySem.W.Frag) : R2 := fun x y H Q => ∃ l b xs zs, x = .ref l ∧ y = .ref b ∧ SqL K H l xs ∧ SqL K H b zs ∧ xs.length + zs.length ≤ sizeLine ∧ ∀ p, H p = none → Q (.ref p) (upd H p (.lst (xs ++ zs)))
theorem op_catW : OpR X (binaryOp .Add) (rCatW X.K) := by
  intro pins s σ H x y v u Q I rx ry h
  obtain ⟨l, b, xs, zs, rfl, rfl, hH, hB, hz, q⟩ := h
  cases rx
  cases ry
  obtain ⟨its, r, pl, hl⟩ := I.list hH
  obtain ⟨its2, r2, pl2, hl2⟩ := I.list hB
  obtain ⟨⟨cls, dd, data, sl⟩, n, ho, hc, hdd, hd⟩ := pl
  obtain ⟨⟨cls2, dd2, data2, sl2⟩, n2, ho2, hc2, hdd2, hd2⟩ := pl2
  simp only at hc hd hc2 hd2
  subst hc hd hc2 hd2
  have e : its.toArray ++ its2.toArray = (its ++ its2).toArray := by simp
  have l1 := r.length
  have l2 := r2.length
  refine concat_meets ⟨_, ho, rfl⟩ ⟨_, ho2, rfl⟩ noFill_list_add seq_list_add PySem.F.slot_list_add PySem.F.entry_list_add (PySem.F.args_list_add_2 _ _) (list_addW l b its.toArray its2.toArray n n2 dd dd2 sl sl2 (by simp; omega)) ⟨ho, ho2, ?_⟩
  rw [e]
  exact ⟨.ref _, _, I.lnew (t' := s.toks) (r.append r2) (by rw [List.length_append]; omega), rfl, q _ I.fresh⟩
abbrev rAddS : R2 := fun x y H Q => ∃ i j, x = .str i ∧ y = .str j ∧ i.length + j.length ≤ sizeLine ∧ Q (.str (i ++ j)) H
theorem o_addS : Op2 X.K rAddS oAddS := fun F H x y a b d Q s ra rb e q => by
  unfold oAddS at e
  split at e
  · split at e
    · cases e; exact ⟨_, _, ra.str_inv, rb.str_inv, by assumption, now q s Rep.mk_str⟩
    · cases e
  · cases e
theorem o_addL : Op2 X.K (rCatW X.K) oAddL := fun F H x y a b d Q s ra rb e q => by
  unfold oAddL at e
  split at e
  · split at e
    · rename_i hl
      cases e
      obtain ⟨l, vs, rfl, h1, h2⟩ := ra.lst_inv
      obtain ⟨m, ws, rfl, h3, h4⟩ := rb.lst_inv
      exact ⟨l, m, vs, ws, rfl, rfl, Same.seq s h1, Same.seq s h3, by rw [← h2.length, ← h4.length]; exact hl, anew q s fun p s2 => Rep.mk_lst (.of upd_same) ((RepL.mono s2 _ _ h2).append (RepL.mono s2 _ _ h4))⟩
    · cases e
  · cases e
theorem RepL.nil_iff {K : PySem.W.Frag} {F : Hp} {ds : List D} {vs : List V} (h : RepL K F ds vs) : vs = [] ↔ ds = [] := by
  have := h.length
  constructor
  · intro e; subst e; exact List.eq_nil_of_length_eq_zero this
  · intro e; subst e; exact List.eq_nil_of_length_eq_zero this.symm
theorem o_addT : Op2 X.K (rCatA X.K) oAddT := fun F H x y a b d Q s ra rb e q => by
  unfold oAddT at e
  split at e
  · rename_i xs ys
    split at e
    · rename_i hl
      cases e
      obtain ⟨l, vs, rfl, h1, h2⟩ := ra.tup_inv
      obtain ⟨m, ws, rfl, h3, h4⟩ := rb.tup_inv
      refine ⟨l, m, vs, ws, rfl, rfl, Same.seqT s h1, Same.seqT s h3, by rw [← h2.length, ← h4.length]; exact hl, fun z => ?_, fun z1 z => ?_, fun z1 z => ?_⟩
      · have e1 := h2.nil_iff.mp z
        subst e1
        exact now q s rb
      · have e1 := h4.nil_iff.mp z
        subst e1
        rw [List.append_nil] at q
        exact now q s ra
      · exact anew q s fun p s2 => Rep.mk_tup (.of upd_same) ((RepL.mono s2 _ _ h2).append (RepL.mono s2 _ _ h4))
    · cases e
  · cases e
def oAddI : D → D → Option D := oII fun i j => some (.int (i + j))
def oAdd : D → D → Option D := fun a b => (oAddI a b).or ((oAddS a b).or ((oAddL a b).or (oAddT a b)))
abbrev rAddAll (K : PySem.W.Frag) : R2 := fun x y H Q => rI0 (fun i j => .int (i + j)) x y H Q ∨ rAddS x y H Q ∨ rCatW K x y H Q ∨ rCatA K x y H Q
theorem d_add : OpR X (binaryOp .Add) (rAddAll X.K) ∧ Op2 X.K (rAddAll X.K) oAdd :=
  ⟨op_add.or (op_add_str.or (op_catW.or op_catA)), Op2.or (op2_ii0 (f := fun i j => some (.int (i + j))) fun i j d e F => by cases e; exact Rep.mk_int) (Op2.or o_addS (Op2.or o_addL o_addT))⟩

/-! ### ==, != -/
mutual
def _root_.Dy.D.py : D → PyData
  | .non => .none
  | .bl b => .bool b
  | .int i => .int i
  | .str x => .str x
  | .tup xs => .tuple (pyL xs)
  | .lst xs => .list (pyL xs)
  | .ty _ => .none
  | .cls _ => .none
  | .dct _ _ => .none
  | .exc _ _ _ => .none
def pyL : List D → List PyData
  | [] => []
  | d :: ds => d.py :: pyL ds
end
/-- data of a depth below n -/
def okq : Nat → D → Bool
  | _, .non => true
  | _, .bl _ => true
  | _, .int _ => true
  | _, .str x => PyData.strOk x
  | n + 1, .tup xs => xs.all (okq n)
  | n + 1, .lst xs => xs.all (okq n)
  | _, _ => false
theorem okq_all {n : Nat} (ih : ∀ (d : D) {K : PySem.W.Frag} {F : Hp} (v : V), okq n d = true → Rep K F d v → Dp K F v d.py ∧ d.py.canLay0 = true ∧ d.py.depth ≤ n) : ∀ (ds : List D) {K : PySem.W.Frag} {F : Hp} (vs : List V), ds.all (okq n) = true → RepL K F ds vs → DpAll K F vs (pyL ds) ∧ PyData.canLayAll0 (pyL ds) = true ∧ PyData.depthAll (pyL ds) ≤ n
  | [], K, F, vs, _, h => by
    simp only [RepL] at h
    subst h
    exact ⟨by simp only [pyL]; exact .nil, by simp [pyL, PyData.canLayAll0], by simp [pyL, PyData.depthAll]⟩
  | d :: ds, K, F, vs, ha, h => by
    simp only [RepL] at h
    obtain ⟨v, r, rfl, h1, h2⟩ := h
    rw [List.all_cons, Bool.and_eq_true] at ha
    obtain ⟨a1, a2, a3⟩ := ih d v ha.1 h1
    obtain ⟨b1, b2, b3⟩ := okq_all ih ds r ha.2 h2
    refine ⟨by simp only [pyL]; exact .cons a1 b1, by simp [pyL, PyData.canLayAll0, a2, b2], ?_⟩
    simp only [pyL, PyData.depthAll]
    exact Nat.max_le.mpr ⟨a3, b3⟩
theorem okq_dp : ∀ (n : Nat) (d : D) {K : PySem.W.Frag} {F : Hp} (v : V), okq n d = true → Rep K F d v → Dp K F v d.py ∧ d.py.canLay0 = true ∧ d.py.depth ≤ n := by
  intro n
  induction n with
  | zero =>
    intro d K F v h r
    cases d with
    | non => rw [r.non_inv]; exact ⟨.non, by simp [D.py, PyData.canLay0], by simp [D.py, PyData.depth]⟩
    | bl b => rw [r.bl_inv]; exact ⟨.bl b, by simp [D.py, PyData.canLay0], by simp [D.py, PyData.depth]⟩
    | int b => rw [r.int_inv]; exact ⟨.int b, by simp [D.py, PyData.canLay0], by simp [D.py, PyData.depth]⟩
    | str b => rw [r.str_inv]; exact ⟨.str b, by simpa [D.py, PyData.canLay0, okq] using h, by simp [D.py, PyData.depth]⟩
    | _ => simp [okq] at h
  | succ n ih =>
    intro d K F v h r
    cases d with
    | non => rw [r.non_inv]; exact ⟨.non, by simp [D.py, PyData.canLay0], by simp [D.py, PyData.depth]⟩
    | bl b => rw [r.bl_inv]; exact ⟨.bl b, by simp [D.py, PyData.canLay0], by simp [D.py, PyData.depth]⟩
    | int b => rw [r.int_inv]; exact ⟨.int b, by simp [D.py, PyData.canLay0], by simp [D.py, PyData.depth]⟩
    | str b => rw [r.str_inv]; exact ⟨.str b, by simpa [D.py, PyData.canLay0, okq] using h, by simp [D.py, PyData.depth]⟩
    | tup xs =>
      obtain ⟨a, vs, rfl, h1, h2⟩ := r.tup_inv
      obtain ⟨c1, c2, c3⟩ := okq_all ih xs vs (by simpa [okq] using h) h2
      exact ⟨by simp only [D.py]; exact .tup h1 c1, by simpa [D.py, PyData.canLay0] using c2, by simp only [D.py, PyData.depth]; omega⟩
    | lst xs =>
      obtain ⟨a, vs, rfl, h1, h2⟩ := r.lst_inv
      obtain ⟨c1, c2, c3⟩ := okq_all ih xs vs (by simpa [okq] using h) h2
      exact ⟨by simp only [D.py]; exact .lst h1 c1, by simpa [D.py, PyData.canLay0] using c2, by simp only [D.py, PyData.depth]; omega⟩
    | _ => simp [okq] at h
theorem okq_shaped {d : D} {K : PySem.W.Frag} {F : Hp} {v : V} (h : okq 40 d = true) (r : Rep K F d v) : Dp K F v d.py ∧ SeqAt.shaped d.py = true := by
  obtain ⟨h1, h2, h3⟩ := okq_dp 40 d v h r
  refine ⟨h1, ?_⟩
  unfold SeqAt.shaped
  rw [h2, Bool.true_and]
  exact decide_eq_true (by omega)
def eqD (a b : D) : Bool := PyData.eqv a.py b.py
def oEq (a b : D) : Option D := if (okq 40 a && okq 40 b) = true then some (.bl (eqD a b)) else none
def oNe (a b : D) : Option D := if (okq 40 a && okq 40 b) = true then some (.bl (!eqD a b)) else none
theorem d_eq (hu : X.A.units + 64 < cLine) : OpR X (compareOp .Eq) (rEqD X.K) ∧ Op2 X.K (rEqD X.K) oEq := ⟨op_eqD hu, fun F H x y a b d Q s ra rb e q => by
  unfold oEq at e
  split at e
  · rename_i h
    rw [Bool.and_eq_true] at h
    cases e
    obtain ⟨h1, h2⟩ := okq_shaped h.1 (Rep.mono s _ _ ra)
    obtain ⟨h3, h4⟩ := okq_shaped h.2 (Rep.mono s _ _ rb)
    exact ⟨_, _, h1, h3, h2, h4, now q s Rep.mk_bl⟩
  · cases e⟩
theorem d_ne (hu : X.A.units + 64 < cLine) : OpR X (compareOp .NotEq) (rNeD X.K) ∧ Op2 X.K (rNeD X.K) oNe := ⟨op_neD hu, fun F H x y a b d Q s ra rb e q => by
  unfold oNe at e
  split at e
  · rename_i h
    rw [Bool.and_eq_true] at h
    cases e
    obtain ⟨h1, h2⟩ := okq_shaped h.1 (Rep.mono s _ _ ra)
    obtain ⟨h3, h4⟩ := okq_shaped h.2 (Rep.mono s _ _ rb)
    exact ⟨_, _, h1, h3, h2, h4, now q s Rep.mk_bl⟩
  · cases e⟩
/-! ### is None -/
def _root_.Dy.D.isNon : D → Bool
  | .non => true
  | _ => false
theorem Rep.non_iff {K : PySem.W.Frag} {F : Hp} {d : D} {v : V} (h : Rep K F d v) : decide (v = .non) = d.isNon := by
  cases d with
  | non => simp [h.non_inv, D.isNon]
  | bl _ => simp [h.bl_inv, D.isNon]
  | int _ => simp [h.int_inv, D.isNon]
  | str _ => simp [h.str_inv, D.isNon]
  | ty _ => simp only [Rep] at h; simp [h, D.isNon]
  | cls _ => simp only [Rep] at h; simp [h, D.isNon]
  | tup _ => obtain ⟨a, vs, e, _⟩ := h.tup_inv; simp [e, D.isNon]
  | lst _ => obtain ⟨a, vs, e, _⟩ := h.lst_inv; simp [e, D.isNon]
  | dct _ _ => simp only [Rep] at h; obtain ⟨a, vs, e, _⟩ := h; simp [e, D.isNon]
  | exc _ _ _ => simp only [Rep] at h; obtain ⟨a, dd, vs, e, _⟩ := h; simp [e, D.isNon]
def oIsN (a b : D) : Option D := match b with
  | .non => some (.bl a.isNon)
  | _ => none
def oNotN (a b : D) : Option D := match b with
  | .non => some (.bl (!a.isNon))
  | _ => none
theorem d_isN : OpR X (compareOp .Is) (fun x y H Q => y = .non ∧ Q (.bl (decide (x = .non))) H) ∧ Op2 X.K (fun x y H Q => y = .non ∧ Q (.bl (decide (x = .non))) H) oIsN := ⟨op_isN, fun F H x y a b d Q s ra rb e q => by
  unfold oIsN at e
  split at e
  · cases e
    exact ⟨rb.non_inv, by rw [ra.non_iff]; exact now q s Rep.mk_bl⟩
  · cases e⟩
theorem d_notN : OpR X (compareOp .IsNot) (fun x y H Q => y = .non ∧ Q (.bl (!decide (x = .non))) H) ∧ Op2 X.K (fun x y H Q => y = .non ∧ Q (.bl (!decide (x = .non))) H) oNotN := ⟨op_notN, fun F H x y a b d Q s ra rb e q => by
  unfold oNotN at e
  split at e
  · cases e
    exact ⟨rb.non_inv, by rw [ra.non_iff]; exact now q s Rep.mk_bl⟩
  · cases e⟩

/-! ### isinstance of built-in classes -/
def tyD : D → Option String
  | .non => some "NoneType"
  | .bl _ => some "bool"
  | .int _ => some "int"
  | .str _ => some "str"
  | .tup _ => some "tuple"
  | .lst _ => some "list"
  | .dct _ _ => some "dict"
  | _ => none
theorem tyX_of {K : PySem.W.Frag} {F H : Hp} {d : D} {v : V} {t : String} (s : Same F H) (h : Rep K F d v) (e : tyD d = some t) : TyX K H v (.type t) := by
  cases d with
  | non => cases e; rw [h.non_inv]; exact .base .non
  | bl _ => cases e; rw [h.bl_inv]; exact .base (.bl _)
  | int _ => cases e; rw [h.int_inv]; exact .base (.int _)
  | str _ => cases e; rw [h.str_inv]; exact .base (.str _)
  | tup _ =>
    cases e
    obtain ⟨a, vs, rfl, h1, _⟩ := h.tup_inv
    rcases Same.seqT s h1 with (h1 | ⟨o, h1⟩) | ⟨o, its, n, h1, h2, _⟩
    · exact .base (.tup h1)
    · exact .fTuple h1
    · exact .kTuple h1 h2
  | lst _ =>
    cases e
    obtain ⟨a, vs, rfl, h1, _⟩ := h.lst_inv
    rcases Same.seq s h1 with (h1 | ⟨o, h1⟩) | ⟨o, its, n, h1, h2, _⟩
    · exact .base (.lst h1)
    · exact .base (.frz h1)
    · exact .kList h1 h2
  | dct _ _ =>
    cases e
    simp only [Rep] at h
    obtain ⟨a, vs, rfl, h1, _⟩ := h
    rcases h1 with h1 | ⟨o, h1⟩
    · exact .base (.dK (s _ _ h1))
    · exact .fDict (s _ _ h1)
  | ty _ => cases e
  | cls _ => cases e
  | exc _ _ _ => cases e
def oIsi : List D → Option D
  | [x, .ty c] => (tyD x).bind fun t => (kitB t c).map .bl
  | _ => none
theorem d_isi : CallR X (.builtin "isinstance") (rIsi X.K) ∧ OpN X.K (rIsi X.K) oIsi := ⟨call_isi, fun F H xs as d Q s ra e q => by
  unfold oIsi at e
  split at e
  · rename_i x c
    obtain ⟨t, e1, e2⟩ := Option.bind_eq_some_iff.mp e
    obtain ⟨b, e3, e4⟩ := Option.map_eq_some_iff.mp e2
    obtain ⟨v, w, rfl, h1, h2⟩ := ra.two
    simp only [Rep] at h2
    subst h2
    subst e4
    exact ⟨v, .ty c, .type t, .type c, b, rfl, .ty c, tyX_of s h1 e1, kit_ty e3, now q s Rep.mk_bl⟩
  · cases e⟩
theorem se_ty {W : WX} {x : Str} {n : String} {pos : Pos} (hm : X.mg x = none) (hg : Gl X x := by rfl) (hv : bootBuiltins x = some (.type n) := by decide +kernel) (hn : x ≠ "__name__" := by decide) (hd : (x == ("__debug__" : Str)) = false := by decide) : SE X W (.Name x pos) (eC (.ty n)) :=
  se_const (pe_bltn (v := V.ty n) hg hm hv rfl hn hd) fun _ _ => Rep.mk_ty

/-! ### len, items, slices -/
def oLen : List D → Option D
  | [.lst xs] => some (.int xs.length)
  | [.tup xs] => some (.int xs.length)
  | [.str z] => if z.length ≤ sizeLine then some (.int z.length) else none
  | _ => none
abbrev rLenAll (K : PySem.W.Frag) : List V → Hp → VK → Prop := fun xs H Q => (∃ p ys, xs = [.ref p] ∧ (SqL K H p ys ∨ SqT K H p ys) ∧ Q (.int ys.length) H) ∨ ∃ z, xs = [.str z] ∧ z.length ≤ sizeLine ∧ Q (.int z.length) H
theorem d_len : CallR X (.builtin "len") (rLenAll X.K) ∧ OpN X.K (rLenAll X.K) oLen := ⟨call_len_seq.or call_len_str, fun F H xs as d Q s ra e q => by
  unfold oLen at e
  split at e
  · cases e
    obtain ⟨v, rfl, h⟩ := ra.one
    obtain ⟨a, vs, rfl, h1, h2⟩ := h.lst_inv
    rw [h2.length] at q
    exact .inl ⟨a, vs, rfl, .inl (Same.seq s h1), now q s Rep.mk_int⟩
  · cases e
    obtain ⟨v, rfl, h⟩ := ra.one
    obtain ⟨a, vs, rfl, h1, h2⟩ := h.tup_inv
    rw [h2.length] at q
    exact .inl ⟨a, vs, rfl, .inr (Same.seqT s h1), now q s Rep.mk_int⟩
  · split at e
    · cases e
      obtain ⟨v, rfl, h⟩ := ra.one
      exact .inr ⟨_, by rw [h.str_inv], by assumption, now q s Rep.mk_int⟩
    · cases e
  · cases e⟩
theorem RepL.atI {K : PySem.W.Frag} {F : Hp} {ds : List D} {vs : List V} {i : Int} {d : D} (h : RepL K F ds vs) (e : L2.atI ds i = some d) : ∃ v, L2.atI vs i = some v ∧ Rep K F d v := by
  unfold L2.atI at e ⊢
  obtain ⟨j, e1, e2⟩ := Option.bind_eq_some_iff.mp e
  obtain ⟨v, e3, r⟩ := h.get e2
  exact ⟨v, by rw [← h.length, e1]; exact e3, r⟩
def oIx : D → D → Option D
  | .lst xs, .int i => L2.atI xs i
  | .tup xs, .int i => L2.atI xs i
  | .str z, .int i => if z.length ≤ sizeLine then (L2.atI z.cps.toList i).map fun c => .str ⟨#[c]⟩ else none
  | _, _ => none
theorem d_ix : IxR X (rIx X.K) ∧ Op2 X.K (rIx X.K) oIx := ⟨ix_seq, fun F H x y a b d Q s ra rb e q => by
  unfold oIx at e
  split at e
  · obtain ⟨l, vs, rfl, h1, h2⟩ := ra.lst_inv
    obtain ⟨v, e1, r⟩ := h2.atI e
    exact .inl ⟨l, vs, _, v, rfl, rb.int_inv, Same.seq s h1, e1, now q s r⟩
  · obtain ⟨l, vs, rfl, h1, h2⟩ := ra.tup_inv
    obtain ⟨v, e1, r⟩ := h2.atI e
    exact .inr (.inl ⟨l, vs, _, v, rfl, rb.int_inv, Same.seqT s h1, e1, now q s r⟩)
  · split at e
    · obtain ⟨c, e1, e2⟩ := Option.map_eq_some_iff.mp e
      subst e2
      exact .inr (.inr ⟨_, _, c, ra.str_inv, rb.int_inv, by assumption, e1, now q s Rep.mk_str⟩)
    · cases e
  · cases e⟩
/-- an end of a slice -/
abbrev SO (X : Cx) (W : WX) (o : Option Expr) (f : REnv → R (Option Int)) : Prop := PO X o (rg X.K W (fun _ (a b : Option Int) => a = b) f)
def oNo : REnv → R (Option Int) := fun _ => .ok none
def oSome (f : REnv → R D) : REnv → R (Option Int) := fun ρ => (f ρ).bind fun d => match d with
  | .int i => .ok (some i)
  | _ => .bad
theorem so_none {W : WX} : SO X W none oNo := ⟨fun pins s σ H Q I ⟨G, F, ρ, r, p⟩ => po_none.run pins s σ H Q I (p none F H (.refl r.f) rfl)⟩
theorem so_some {W : WX} {e : Expr} {f : REnv → R D} (h : SE X W e f) : SO X W (some e) (oSome f) := ⟨fun pins s σ H Q I ⟨G, F, ρ, r, p⟩ => (po_some h).run pins s σ H Q I ⟨G, F, ρ, r, Post.bind p fun d v F' H' _ ex rp p' => by
  cases d with
  | int i => exact ⟨i, rp.int_inv, p' _ F' H' (.refl ex.s) rfl⟩
  | _ => exact p'.elim⟩⟩
def cutD (xs : List D) (lo hi : Option Int) : List D := (xs.drop (HT.sIx xs.length 0 lo)).take (HT.sIx xs.length xs.length hi - HT.sIx xs.length 0 lo)
theorem RepL.cut {K : PySem.W.Frag} {F : Hp} {ds : List D} {vs : List V} {lo hi : Option Int} (h : RepL K F ds vs) : RepL K F (cutD ds lo hi) (cutV vs lo hi) := by
  unfold cutD cutV
  rw [h.length]
  exact (h.drop _).take _
def oSl : D → Option Int → Option Int → Option D
  | .lst xs, lo, hi => some (.lst (cutD xs lo hi))
  | .tup xs, lo, hi => some (.tup (cutD xs lo hi))
  | _, _, _ => none
def eSl (f : REnv → R D) (lo hi : REnv → R (Option Int)) : REnv → R D := fun ρ => (f ρ).bind fun a => (lo ρ).bind fun l => (hi ρ).bind fun h => .opt (oSl a l h)
theorem cut_whole {xs : List D} {lo hi : Option Int} (h : HT.sIx xs.length 0 lo = 0 ∧ HT.sIx xs.length xs.length hi = xs.length) : cutD xs lo hi = xs := by
  unfold cutD
  rw [h.1, h.2]
  simp
theorem se_slice {W : WX} {e : Expr} {lo hi : Option Expr} {f : REnv → R D} {fl fh : REnv → R (Option Int)} {p2 pos : Pos} (he : SE X W e f) (hl : SO X W lo fl) (hh : SO X W hi fh) : SE X W (.Subscript e (.Slice lo hi none p2) pos) (eSl f fl fh) :=
  (pe_slice (sl_list.or sl_tupA) he hl hh).dy fun σ H Q ⟨G, F, ρ, r, p⟩ => ⟨G, F, ρ, r, Post.bind p fun d v F1 H1 _ ex1 rp p1 => ⟨G, F1, ρ, r.ext ex1, Post.bind p1 fun l l' F2 H2 _ ex2 e2 p2 => ⟨G, F2, ρ, (r.ext ex1).ext ex2, Post.bind p2 fun h h' F3 H3 _ ex3 e3 p3 => by
    subst e2
    subst e3
    obtain ⟨d', e4, q⟩ := Post.opt p3
    have rp3 := Rep.mono (ex2.f.trans ex3.f) _ _ rp
    unfold oSl at e4
    split at e4
    · cases e4
      obtain ⟨a, vs, rfl, h1, h2⟩ := rp3.lst_inv
      exact .inl ⟨a, vs, rfl, Same.seq ex3.s h1, anew q ex3.s fun p s2 => Rep.mk_lst (.of upd_same) (RepL.mono s2 _ _ h2.cut)⟩
    · cases e4
      obtain ⟨a, vs, rfl, h1, h2⟩ := rp3.tup_inv
      refine .inr ⟨a, vs, rfl, Same.seqT ex3.s h1, fun z => ?_, fun z => anew q ex3.s fun p s2 => Rep.mk_tup (.of upd_same) (RepL.mono s2 _ _ h2.cut)⟩
      rw [← h2.length] at z
      rw [cut_whole z] at q
      exact now q ex3.s rp3
    · cases e4⟩⟩⟩
/-! ### list, tuple, abs, max, min, sum, int -/
def oList : List D → Option D
  | [.lst xs] => some (.lst xs)
  | [.tup xs] => some (.lst xs)
  | _ => none
def oTuple : List D → Option D
  | [.lst xs] => some (.tup xs)
  | [.tup xs] => some (.tup xs)
  | _ => none
theorem d_tuple : CallR X (.type "tuple") (fun xs H Q => ∃ p ys, xs = [.ref p] ∧ ((SqL X.K H p ys ∧ ∀ l, H l = none → Q (.ref l) (upd H l (.tup ys))) ∨ (SqT X.K H p ys ∧ Q (.ref p) H))) ∧
    OpN X.K (fun xs H Q => ∃ p ys, xs = [.ref p] ∧ ((SqL X.K H p ys ∧ ∀ l, H l = none → Q (.ref l) (upd H l (.tup ys))) ∨ (SqT X.K H p ys ∧ Q (.ref p) H))) oTuple := ⟨call_tuple_of, fun F H xs as d Q s ra e q => by
  unfold oTuple at e
  split at e
  · cases e
    obtain ⟨v, rfl, h⟩ := ra.one
    obtain ⟨a, vs, rfl, h1, h2⟩ := h.lst_inv
    exact ⟨a, vs, rfl, .inl ⟨Same.seq s h1, anew q s fun p s2 => Rep.mk_tup (.of upd_same) (RepL.mono s2 _ _ h2)⟩⟩
  · cases e
    obtain ⟨v, rfl, h⟩ := ra.one
    obtain ⟨a, vs, rfl, h1, h2⟩ := h.tup_inv
    exact ⟨a, vs, rfl, .inr ⟨Same.seqT s h1, now q s (Rep.mk_tup h1 h2)⟩⟩
  · cases e⟩
def oAbs : List D → Option D
  | [.int i] => some (.int (if i < 0 then -i else i))
  | _ => none
theorem d_abs : CallR X (.builtin "abs") (fun xs H Q => ∃ i, xs = [.int i] ∧ Q (.int (if i < 0 then -i else i)) H) ∧ OpN X.K (fun xs H Q => ∃ i, xs = [.int i] ∧ Q (.int (if i < 0 then -i else i)) H) oAbs := ⟨call_abs, fun F H xs as d Q s ra e q => by
  unfold oAbs at e
  split at e
  · cases e
    obtain ⟨v, rfl, h⟩ := ra.one
    exact ⟨_, by rw [h.int_inv], now q s Rep.mk_int⟩
  · cases e⟩
def oMax2 : List D → Option D
  | [.int i, .int j] => some (.int (if j > i then j else i))
  | _ => none
def oMin2 : List D → Option D
  | [.int i, .int j] => some (.int (if j < i then j else i))
  | _ => none
theorem d_max2 (hc : X.calm = true) : CallR X (.builtin "max") (fun xs H Q => ∃ i j, xs = [.int i, .int j] ∧ Q (.int (if j > i then j else i)) H) ∧ OpN X.K (fun xs H Q => ∃ i j, xs = [.int i, .int j] ∧ Q (.int (if j > i then j else i)) H) oMax2 := ⟨call_max2 hc, fun F H xs as d Q s ra e q => by
  unfold oMax2 at e
  split at e
  · cases e
    obtain ⟨v, w, rfl, h, h2⟩ := ra.two
    exact ⟨_, _, by rw [h.int_inv, h2.int_inv], now q s Rep.mk_int⟩
  · cases e⟩
/-- the ints of a list -/
def intsD : List D → Option (List Int)
  | [] => some []
  | .int i :: r => (intsD r).map (i :: ·)
  | _ => none
theorem intsD_rep {K : PySem.W.Frag} {F : Hp} : ∀ {ds : List D} {vs : List V} {ns : List Int}, intsD ds = some ns → RepL K F ds vs → vs = ns.map V.int
  | [], vs, ns, e, h => by
    simp only [intsD] at e
    cases e
    simpa [RepL] using h
  | d :: ds, vs, ns, e, h => by
    simp only [RepL] at h
    obtain ⟨v, r, rfl, h1, h2⟩ := h
    cases d with
    | int i =>
      simp only [intsD] at e
      obtain ⟨ms, e1, rfl⟩ := Option.map_eq_some_iff.mp e
      rw [h1.int_inv, intsD_rep e1 h2]
      rfl
    | _ => simp [intsD] at e
def oSum : List D → Option D
  | [.lst xs] => (intsD xs).map fun ns => .int ns.sum
  | _ => none
def oInt : List D → Option D
  | [.int i] => some (.int i)
  | [.bl k] => some (.int (if k then 1 else 0))
  | _ => none
theorem d_int : CallR X (.type "int") (fun xs H Q => (∃ i, xs = [.int i] ∧ Q (.int i) H) ∨ ∃ k, xs = [.bl k] ∧ Q (.int (if k then 1 else 0)) H) ∧ OpN X.K (fun xs H Q => (∃ i, xs = [.int i] ∧ Q (.int i) H) ∨ ∃ k, xs = [.bl k] ∧ Q (.int (if k then 1 else 0)) H) oInt := ⟨call_int1, fun F H xs as d Q s ra e q => by
  unfold oInt at e
  split at e
  · cases e
    obtain ⟨v, rfl, h⟩ := ra.one
    exact .inl ⟨_, by rw [h.int_inv], now q s Rep.mk_int⟩
  · cases e
    obtain ⟨v, rfl, h⟩ := ra.one
    exact .inr ⟨_, by rw [h.bl_inv], now q s Rep.mk_int⟩
  · cases e⟩
end
end Dy

set_option Elab.async false
set_option linter.all false
set_option maxRecDepth 100000
namespace Dy
open PySem PySem.Spec PyProof.Rows L2

/-! ### a def of the text, for its callers -/
structure Cal (P : Program) (w : World) (K : PySem.W.Frag) (mg : Str → Option Value) (base : Heap) (x : Str) (k n : Nat) (fn : List D → R D) : Prop where
  ex : ∃ (f : Addr) (fd : FuncData) (ps : List Str), FnOk P w K mg base (L2.CX P w) k f fd ps (spD K n fn) ∧ mg x = some (.ref f) ∧ PySem.W.keepIn K (.ref f) = true ∧ Binds K fd ps []
  len : ∀ ds, ds.length ≠ n → fn ds = .bad
section
variable {P : Program} {w : World} {K : PySem.W.Frag} {mg : Str → Option Value} {base : Heap} {x : Str} {params : Arguments} {body : List Stmt} {scope : Scope} {f : Addr} {fd : FuncData} {N ps : List Str} {k n : Nat} {g : REnv → SR}
theorem cal_mk (Fn : FunD K x x params body scope [] [] f fd) (hm : mg x = some (.ref f))
    (hb : ∀ (kV doc pm : Value) (an : Option Addr) (cdv ct : Value) (us : List Value), us.length = ps.length → bindArgs (PySem.W.fnOf x x params body scope .none kV doc pm an cdv ct) ⟨us, []⟩ = pure (ps.zip us))
    (ok : FnOk P w K mg base (L2.CX P w) k f fd ps (spD K n (fnD n N.length g))) : Cal P w K mg base x k n (fnD n N.length g) :=
  ⟨⟨f, fd, ps, ok, hm, Fn.kp, Fn.bindsN hb⟩, fun ds h => fnD_len h⟩
end
section
variable {X : Cx} {W : WX} {e : Expr} {es : List Expr} {x : Str} {p pos : Pos} {k n : Nat} {t : REnv → R (List D)} {fn : List D → R D}
theorem se_callC (C : Cal X.prog X.w X.K X.mg X.base x k n fn) (tk : Takes X W) (hr : Room k X.A)
    (ha : SA X W (e :: es) t) (hg : Gl X x := by rfl) (hdb : (x == ("__debug__" : Str)) = false := by decide) (he : starEach (e :: es) X.env = (false, eval e X.env) :: starEach es X.env := by rfl) (hpl : (backTo pos (starEach es X.env)).any (·.1) = false := by rfl) :
    SE X W (.Call (.Name x p) (e :: es) [] pos) (eCall fn t) := by
  obtain ⟨f, fd, ps, Fo, hm, hk, hb⟩ := C.ex
  exact se_call Fo C.len tk hr hm hk hb ha hg hdb he hpl
/-- {} -/
def eDct0 : REnv → R D := fun _ => .ok (.dct [] [])
end

/-! ### built-ins that the module has not bound -/
def Blts (mg : Str → Option Value) (l : List Str) : Prop := ∀ (i : Nat) (x : Str), l[i]? = some x → mg x = none
theorem Blts.at {mg : Str → Option Value} {l : List Str} (B : Blts mg l) (i : Nat) {x : Str} (h : l[i]? = some x := by rfl) : mg x = none := B i x h

/-! ### the end -/
theorem walk_ofW {l : PySem.W.OpenLaw} {n k : Nat} {q : Program} {loose : List Str} {XP : (Str → Option Value) → Heap → Prop} {YP : World → Heap → Prop} {d : DefRec} {CX : World → CXT} {x : Str}
    (hn : l.most = some n) (hn2 : n ≤ sizeLine) (hdf : d.params.defaults = []) (hr : Room k callerA)
    (F : ∀ (w : World) (mg : Str → Option Value) (fa : Addr) (h : Heap), YP w h → h.Ns mainGlobals mg → mg d.name = some (.ref fa) →
      ∃ (K : PySem.W.Frag) (fd : FuncData) (sp : Sp), K.In h ∧ (∀ (s : Shared) (u : Value), BindsTo s fd ⟨[u], []⟩ [(x, u)]) ∧
        (∀ (H : Hp) (a : Addr) (ns : List Int), ns.length ≤ n → Only H → SqL K H a (ns.map V.int) → sp [.ref a] H (fun v _ => v = .bl true) fun _ _ _ => False) ∧
        ∀ base : Heap, K.In base → base.Ns mainGlobals mg → FnOk l.prog w K mg base (CX w) k fa fd [x] sp)
    (hCX : ∀ (w : World) (H : Hp) (s : Shared) (e : Value) (s' : Shared), CX w [] H s (fun _ _ _ => False) e s' → False) :
    PySem.W.WalkO q loose XP YP l.row.toRowW d [] (fun f vs => PySem.call f vs) := by
  refine Att.attach_call hn hdf fun w s₀ s₁ mg mb fa o pm cd doc a vs ns G Y ho hd hcd hmg hobj hints hlen hg => ?_
  obtain ⟨K, fd, sp, KX, hb, hsp, hF⟩ := F w mg fa _ Y G.T.g hmg
  exact law_call KX G.T.g G.T.b G.T.builtins G.T.nolimit hg hobj hints (Nat.le_trans hlen hn2) hr hF hb (fun H hO hS => hsp H a ns hlen hO hS) fun H e s' => hCX w H s₁ e s'
theorem cx_false {P : Program} {w : World} {H : Hp} {s : Shared} {e : Value} {s' : Shared} : L2.CX P w [] H s (fun _ _ _ => False) e s' → False := fun h => by
  obtain ⟨_, _, _, _, _, _, _, _, _, _, _, _, z⟩ := h
  exact z
theorem repL_ints {K : PySem.W.Frag} {F : Hp} : ∀ ns : List Int, RepL K F (ns.map .int) (ns.map V.int)
  | [] => RepL.nil
  | n :: r => RepL.cons Rep.mk_int (repL_ints r)
theorem law_sp {K : PySem.W.Frag} {fn : List D → R D} {ns : List Int} {H : Hp} {a : Addr} (hS : SqL K H a (ns.map V.int)) (h : fn [.lst (ns.map .int)] = .ok (.bl true)) : spD K 1 fn [.ref a] H (fun v _ => v = .bl true) fun _ _ _ => False := by
  refine ⟨rfl, H, [.lst (ns.map .int)], .refl _, RepL.cons (Rep.mk_lst hS (repL_ints ns)) RepL.nil, ?_⟩
  rw [h]
  exact fun v F' H' _ r => r.bl_inv
end Dy

set_option Elab.async false
set_option linter.all false
set_option maxRecDepth 100000
/-! What a def's meaning comes to, step by step: weakest conditions over plain data. -/
namespace Dy
open PySem PySem.Spec PyProof.Rows L2

def R.wp {α : Type} (x : R α) (P : α → Prop) (E : D → Prop) : Prop := match x with
  | .ok a => P a
  | .err e => E e
  | .bad => False
def SR.wp (x : SR) (N : REnv → Prop) (T : D → Prop) (E : D → REnv → Prop) : Prop := match x with
  | .next ρ => N ρ
  | .ret d => T d
  | .err e ρ => E e ρ
  | .bad => False
abbrev NoE : D → Prop := fun _ => False
/-- marks, so that a step is known by its head -/
def Got {α : Type} (o : Option α) (P : α → Prop) : Prop := ∃ a, o = some a ∧ P a
def HasB (d : D) (P : Bool → Prop) : Prop := ∃ b, d = .bl b ∧ P b
def HasI (d : D) (P : Int → Prop) : Prop := ∃ i, d = .int i ∧ P i
def Has2 (ds : List D) (P : D → D → Prop) : Prop := ∃ a b, ds = [a, b] ∧ P a b
def Fork (k : Bool) (A B : Prop) : Prop := (k = true → A) ∧ (k = false → B)
def Fits (n : Nat) (A : Prop) : Prop := n ≤ sizeLine ∧ A
def Grows (n : Nat) (A : Prop) : Prop := n < sizeLine ∧ A
theorem R.wp.imp {α : Type} {x : R α} {P P' : α → Prop} {E E' : D → Prop} (h : x.wp P E) (f : ∀ a, P a → P' a) (g : ∀ e, E e → E' e) : x.wp P' E' := by
  cases x with
  | ok a => exact f a h
  | err e => exact g e h
  | bad => exact h
theorem R.wp.post {α : Type} {x : R α} {P P' : α → Prop} {E : D → Prop} (h : x.wp P E) (f : ∀ a, P a → P' a) : x.wp P' E := h.imp f fun _ z => z
theorem R.wp.no {α : Type} {x : R α} {P P' : α → Prop} {E : D → Prop} (h : x.wp P NoE) (f : ∀ a, P a → P' a) : x.wp P' E := h.imp f fun _ z => z.elim
theorem R.wp.ok {α : Type} {x : R α} {P : α → Prop} (h : x.wp P NoE) : ∃ a, x = .ok a ∧ P a := by
  cases x with
  | ok a => exact ⟨a, rfl, h⟩
  | err e => exact h.elim
  | bad => exact h.elim
theorem wp_bind {α β : Type} {x : R α} {k : α → R β} {P : β → Prop} {E : D → Prop} (h : x.wp (fun a => (k a).wp P E) E) : (x.bind k).wp P E := by
  cases x with
  | ok a => exact h
  | err e => exact h
  | bad => exact h
theorem wp_toS {α : Type} {x : R α} {ρ : REnv} {k : α → SR} {N : REnv → Prop} {T : D → Prop} {E : D → REnv → Prop} (h : x.wp (fun a => (k a).wp N T E) (fun e => E e ρ)) : (x.toS ρ k).wp N T E := by
  cases x with
  | ok a => exact h
  | err e => exact h
  | bad => exact h
theorem wp_opt {α : Type} {x : Option α} {P : α → Prop} {E : D → Prop} (h : Got x P) : (R.opt x).wp P E := by
  obtain ⟨a, rfl, h⟩ := h
  exact h
section
variable {ρ : REnv} {P : D → Prop} {PB : Bool → Prop} {PA : List D → Prop} {E : D → Prop} {f g h : REnv → R D} {u v : REnv → R Bool} {t : REnv → R (List D)} {d : D}
theorem wp_var {i : Nat} (e : ρ[i]? = some (.val d)) (h : P d) : (eVar i ρ).wp P E := by
  unfold eVar; rw [e]; exact h
theorem wp_c (h : P d) : (eC d ρ).wp P E := h
theorem wp_bin {o : D → D → Option D} (h : (f ρ).wp (fun a => (g ρ).wp (fun b => Got (o a b) P) E) E) : (eBin o f g ρ).wp P E :=
  wp_bind (h.post fun _ h1 => wp_bind (h1.post fun _ h2 => wp_opt h2))
theorem wp_un {o : D → Option D} (h : (f ρ).wp (fun a => Got (o a) P) E) : (eUn o f ρ).wp P E := wp_bind (h.post fun _ h2 => wp_opt h2)
theorem wp_n {o : List D → Option D} (h : (t ρ).wp (fun a => Got (o a) P) E) : (eN o t ρ).wp P E := wp_bind (h.post fun _ h2 => wp_opt h2)
theorem wp_nil (h : PA []) : (aNil ρ).wp PA E := h
theorem wp_cons (h : (f ρ).wp (fun a => (t ρ).wp (fun r => PA (a :: r)) E) E) : (aCons f t ρ).wp PA E := wp_bind (h.post fun _ h1 => wp_bind h1)
theorem wp_tup (h : (t ρ).wp (fun ds => Fits ds.length (P (.tup ds))) E) : (eTup t ρ).wp P E := wp_bind (h.post fun ds h1 => by rw [if_pos h1.1]; exact h1.2)
theorem wp_lst (h : (t ρ).wp (fun ds => Fits ds.length (P (.lst ds))) E) : (eLst t ρ).wp P E := wp_bind (h.post fun ds h1 => by rw [if_pos h1.1]; exact h1.2)
theorem wp_call {fn : List D → R D} (h : (t ρ).wp (fun ds => (fn ds).wp P E) E) : (eCall fn t ρ).wp P E := wp_bind h
theorem wp_test (h : (f ρ).wp (fun d => HasB d PB) E) : (eTest f ρ).wp PB E := wp_bind (h.post fun d ⟨b, e, q⟩ => by subst e; exact q)
theorem wp_and (h : (u ρ).wp (fun k => Fork k ((v ρ).wp PB E) (PB false)) E) : (eAnd u v ρ).wp PB E := wp_bind (h.post fun k ⟨h1, h2⟩ => by
  cases k with
  | true => exact h1 rfl
  | false => exact h2 rfl)
theorem wp_or (h : (u ρ).wp (fun k => Fork k (PB true) ((v ρ).wp PB E)) E) : (eOr u v ρ).wp PB E := wp_bind (h.post fun k ⟨h1, h2⟩ => by
  cases k with
  | true => exact h1 rfl
  | false => exact h2 rfl)
theorem wp_not (h : (u ρ).wp (fun k => PB (!k)) E) : (eNot u ρ).wp PB E := wp_bind h
theorem wp_andV (h : (f ρ).wp (fun d => HasB d fun k => Fork k ((g ρ).wp P E) (P (.bl false))) E) : (eAndV f g ρ).wp P E := wp_bind (h.post fun d ⟨k, e, h1, h2⟩ => by
  subst e
  cases k with
  | true => exact h1 rfl
  | false => exact h2 rfl)
theorem wp_orV (h : (f ρ).wp (fun d => HasB d fun k => Fork k (P (.bl true)) ((g ρ).wp P E)) E) : (eOrV f g ρ).wp P E := wp_bind (h.post fun d ⟨k, e, h1, h2⟩ => by
  subst e
  cases k with
  | true => exact h1 rfl
  | false => exact h2 rfl)
theorem wp_notV (h : (f ρ).wp (fun d => HasB d fun k => P (.bl (!k))) E) : (eNotV f ρ).wp P E := wp_bind (h.post fun d ⟨k, e, h1⟩ => by subst e; exact h1)
theorem wp_chain {o o' : D → D → Option D} (hh : (f ρ).wp (fun a => (g ρ).wp (fun b => Got (o a b) fun z => HasB z fun k => Fork k ((h ρ).wp (fun c => Got (o' b c) P) E) (P (.bl false))) E) E) : (eChain o o' f g h ρ).wp P E :=
  wp_bind (hh.post fun a h1 => wp_bind (h1.post fun b ⟨z, e, k, ez, h2, h3⟩ => by
    subst ez
    rw [e]
    show (goOn _ (.bl k)).wp P E
    cases k with
    | true => exact wp_bind ((h2 rfl).post fun c q => wp_opt q)
    | false => exact h3 rfl))
theorem wp_dct0 (h : P (.dct [] [])) : (eDct0 ρ).wp P E := h
theorem wp_sl {lo hi : REnv → R (Option Int)} (h : (f ρ).wp (fun a => (lo ρ).wp (fun l => (hi ρ).wp (fun r => Got (oSl a l r) P) E) E) E) : (eSl f lo hi ρ).wp P E :=
  wp_bind (h.post fun a h1 => wp_bind (h1.post fun l h2 => wp_bind (h2.post fun r h3 => wp_opt h3)))
theorem wp_no {PO : Option Int → Prop} (h : PO none) : (oNo ρ).wp PO E := h
theorem wp_some {PO : Option Int → Prop} (h : (f ρ).wp (fun d => HasI d fun i => PO (some i)) E) : (oSome f ρ).wp PO E := wp_bind (h.post fun d ⟨i, e, q⟩ => by subst e; exact q)
theorem wp_iD (h : (f ρ).wp (fun d => Got (iterD d) PA) E) : (iD f ρ).wp PA E := wp_bind (h.post fun _ q => wp_opt q)
theorem wp_iArgs {o : List D → Option (List D)} (h : (t ρ).wp (fun d => Got (o d) PA) E) : (iArgs o t ρ).wp PA E := wp_bind (h.post fun _ q => wp_opt q)
theorem wp_comp {vs : List Nat} {fi : REnv → R (List D)} {b : D → REnv → Option REnv} {c : REnv → R Bool} {e : REnv → R D} (h : (fi ρ).wp (fun ds => Fits ds.length (Got (compS b c e ds (wipeE ρ vs)) fun rs => P (.lst rs))) E) : (eComp vs fi b c e ρ).wp P E :=
  wp_bind (h.post fun ds ⟨h1, rs, h2, h3⟩ => by rw [if_pos h1, h2]; exact h3)
/-- .. or nothing -/
theorem compS_filter {b : D → REnv → Option REnv} {c : REnv → R Bool} {e : REnv → R D} {ρ : REnv} {α : Type} (F : α → D) (G : α → D) (p : α → Bool) : ∀ (xs : List α), (∀ x ∈ xs, ∃ ρ', b (F x) ρ = some ρ' ∧ (c ρ').wp (fun k => k = p x) NoE ∧ (p x = true → (e ρ').wp (fun d => d = G x) NoE)) → compS b c e (xs.map F) ρ = some ((xs.filter p).map G)
  | [], _ => rfl
  | x :: xs, h => by
    obtain ⟨ρ', h1, h2, h3⟩ := h x (List.mem_cons_self ..)
    obtain ⟨k, e1, ek⟩ := h2.ok
    have ih := compS_filter F G p xs fun y hy => h y (List.mem_cons_of_mem _ hy)
    subst ek
    cases hp : p x with
    | true =>
      obtain ⟨d, e2, rfl⟩ := (h3 hp).ok
      simp only [List.map_cons, compS, h1, e1, e2, R.get, Option.bind_some, hp, if_true, ih, List.filter_cons]
    | false => simp only [List.map_cons, compS, h1, e1, R.get, Option.bind_some, hp, Bool.false_eq_true, if_false, ih, List.filter_cons]
end
section
variable {ρ : REnv} {N : REnv → Prop} {T : D → Prop} {E : D → REnv → Prop} {g h : REnv → SR} {f : REnv → R D} {u : REnv → R Bool} {t : REnv → R (List D)}
theorem SR.wp.imp {x : SR} {N N' : REnv → Prop} {T T' : D → Prop} {E E' : D → REnv → Prop} (h : x.wp N T E) (f : ∀ a, N a → N' a) (g : ∀ a, T a → T' a) (k : ∀ e r, E e r → E' e r) : x.wp N' T' E' := by
  cases x with
  | next a => exact f a h
  | ret a => exact g a h
  | err e r => exact k e r h
  | bad => exact h
theorem sp_seq (hh : (g ρ).wp (fun ρ' => (h ρ').wp N T E) T E) : (sSeq g h ρ).wp N T E := by
  unfold sSeq SR.seq
  cases e : g ρ with
  | next a => rw [e] at hh; exact hh
  | ret a => rw [e] at hh; exact hh
  | err a r => rw [e] at hh; exact hh
  | bad => rw [e] at hh; exact hh
theorem sp_skip (h : N ρ) : (sSkip ρ).wp N T E := h
theorem sp_ret (h : (f ρ).wp T (fun e => E e ρ)) : (sRet f ρ).wp N T E := wp_toS h
theorem sp_set {i : Nat} (h : (f ρ).wp (fun d => N (ρ.set i (.val d))) (fun e => E e ρ)) : (sSet i f ρ).wp N T E := wp_toS h
theorem sp_expr (h : (f ρ).wp (fun _ => N ρ) (fun e => E e ρ)) : (sExpr f ρ).wp N T E := wp_toS h
theorem sp_if (hh : (u ρ).wp (fun b => Fork b ((g ρ).wp N T E) ((h ρ).wp N T E)) (fun e => E e ρ)) : (sIf u g h ρ).wp N T E := wp_toS (hh.post fun b ⟨h1, h2⟩ => by
  cases b with
  | true => exact h1 rfl
  | false => exact h2 rfl)
theorem sp_par {i j : Nat} (h : (t ρ).wp (fun ds => Has2 ds fun a b => N ((ρ.set i (.val a)).set j (.val b))) (fun e => E e ρ)) : (sPar i j t ρ).wp N T E := wp_toS (h.post fun ds ⟨a, b, e, q⟩ => by subst e; exact q)
theorem sp_asg {b : D → REnv → Option REnv} (h : (f ρ).wp (fun d => Got (b d ρ) N) (fun e => E e ρ)) : (sAsg f b ρ).wp N T E := wp_toS (h.post fun d ⟨r, e, q⟩ => by rw [e]; exact q)
theorem sp_own {i : Nat} (h : (t ρ).wp (fun ds => Fits ds.length (N (ρ.set i (.own ds)))) (fun e => E e ρ)) : (sOwn i t ρ).wp N T E := wp_toS (h.post fun ds ⟨h1, h2⟩ => by rw [if_pos h1]; exact h2)
theorem sp_app {i : Nat} {ds : List D} (e : ρ[i]? = some (.own ds)) (h : (f ρ).wp (fun d => Grows ds.length (N (ρ.set i (.own (ds ++ [d]))))) (fun e => E e ρ)) : (sApp i f ρ).wp N T E := by
  unfold sApp
  rw [e]
  exact wp_toS (h.post fun d ⟨h1, h2⟩ => by rw [if_pos h1]; exact h2)
theorem sp_for {fi : REnv → R (List D)} {b : D → REnv → Option REnv} (h : (fi ρ).wp (fun ds => (forS b g ds ρ).wp N T E) (fun e => E e ρ)) : (sFor fi b g ρ).wp N T E := wp_toS h
theorem forS_inv {b : D → REnv → Option REnv} {ds : List D} (I : Nat → REnv → Prop) (h0 : I 0 ρ) (hs : ∀ i d ρ, ds[i]? = some d → I i ρ → Got (b d ρ) fun ρ' => (g ρ').wp (I (i + 1)) T E) (hd : ∀ ρ, I ds.length ρ → N ρ) : (forS b g ds ρ).wp N T E := by
  have key : ∀ (n i : Nat) (ρ : REnv), n + i = ds.length → I i ρ → (forS b g (ds.drop i) ρ).wp N T E := by
    intro n
    induction n with
    | zero =>
      intro i ρ e q
      have e2 : i = ds.length := by omega
      subst e2
      rw [List.drop_length]
      exact hd ρ q
    | succ n ih =>
      intro i ρ e q
      have hi : i < ds.length := by omega
      rw [List.drop_eq_getElem_cons hi]
      obtain ⟨ρ', e1, h1⟩ := hs i ds[i] ρ (List.getElem?_eq_getElem hi) q
      unfold forS
      rw [e1]
      show ((g ρ').seq (forS b g (ds.drop (i + 1)))).wp N T E
      exact sp_seq (g := g) (h := forS b g (ds.drop (i + 1))) (h1.imp (fun a qa => ih (i + 1) a (by omega) qa) (fun _ z => z) fun _ _ z => z)
  have := key ds.length 0 ρ (by simp) h0
  simpa using this
theorem wp_fn {n m : Nat} {ds : List D} {P : D → Prop} {E : D → Prop} (hl : ds.length = n) (h : (g (ds.map .val ++ List.replicate (m - n) .un)).wp (fun _ => P .non) P (fun e _ => E e)) : (fnD n m g ds).wp P E := by
  unfold fnD
  rw [if_pos hl]
  cases e : g (ds.map .val ++ List.replicate (m - n) .un) with
  | next a => rw [e] at h; exact h
  | ret a => rw [e] at h; exact h
  | err a r => rw [e] at h; exact h
  | bad => rw [e] at h; exact h.elim
end
theorem law_of_wp {x : R D} (h : x.wp (fun d => d = .bl true) NoE) : x = .ok (.bl true) := by
  obtain ⟨a, e, rfl⟩ := h.ok
  exact e

/-! ### operations on data of known make -/
section
variable {P : D → Prop} {i j : Int} {xs ys : List D} {a b d : D}
theorem w_addI (h : P (.int (i + j))) : Got (oAdd (.int i) (.int j)) P := ⟨_, rfl, h⟩
theorem w_addL (hl : xs.length + ys.length ≤ sizeLine) (h : P (.lst (xs ++ ys))) : Got (oAdd (.lst xs) (.lst ys)) P := ⟨.lst (xs ++ ys), by simp only [oAdd, oAddI, oII, oAddS, oAddL, if_pos hl]; rfl, h⟩
theorem w_addT (hl : xs.length + ys.length ≤ sizeLine) (h : P (.tup (xs ++ ys))) : Got (oAdd (.tup xs) (.tup ys)) P := ⟨.tup (xs ++ ys), by simp only [oAdd, oAddI, oII, oAddS, oAddL, oAddT, if_pos hl]; rfl, h⟩
theorem w_sub (h : P (.int (i - j))) : Got (oSub (.int i) (.int j)) P := ⟨_, rfl, h⟩
theorem w_mul (hm : MuOk i j) (h : P (.int (i * j))) : Got (oMul (.int i) (.int j)) P := ⟨_, by simp only [oMul, oII, if_pos hm], h⟩
theorem w_mod (hj : 0 < j) (h : P (.int (i % j))) : Got (oMod (.int i) (.int j)) P := ⟨.int (i.fmod j), by simp only [oMod, oII, if_pos (show j ≠ 0 by omega)], by rw [Int.fmod_eq_emod_of_nonneg i (by omega)]; exact h⟩
theorem w_div (hj : 0 < j) (hl : j.natAbs.log2 < 9000) (h : P (.int (i / j))) : Got (oDiv (.int i) (.int j)) P := ⟨.int (i.fdiv j), by simp only [oDiv, oII, if_pos (show DivOk j from ⟨by omega, hl⟩)], by rw [Int.fdiv_eq_ediv_of_nonneg i (by omega)]; exact h⟩
theorem w_pow (hc : 0 ≤ j ∧ j ≤ 1000000 ∧ i.natAbs < 2 ^ 64) (h : P (.int (i ^ j.toNat))) : Got (oPow (.int i) (.int j)) P := ⟨_, by simp only [oPow, oII, if_pos hc], h⟩
theorem w_lt (h : P (.bl (decide (i < j)))) : Got (oLt (.int i) (.int j)) P := ⟨_, rfl, h⟩
theorem w_le (h : P (.bl (decide (i ≤ j)))) : Got (oLe (.int i) (.int j)) P := ⟨_, rfl, h⟩
theorem w_gt (h : P (.bl (decide (j < i)))) : Got (oGt (.int i) (.int j)) P := ⟨_, rfl, h⟩
theorem w_ge (h : P (.bl (decide (j ≤ i)))) : Got (oGe (.int i) (.int j)) P := ⟨_, rfl, h⟩
theorem w_neg (h : P (.int (-i))) : Got (oNeg (.int i)) P := ⟨_, rfl, h⟩
theorem eqD_int : eqD (.int i) (.int j) = decide (i = j) := by
  simp only [eqD, D.py, PyData.eqv]
  by_cases h : i = j <;> simp [h]
theorem w_eqI (h : P (.bl (decide (i = j)))) : Got (oEq (.int i) (.int j)) P := ⟨.bl (eqD (.int i) (.int j)), by simp [oEq, okq], by rw [eqD_int]; exact h⟩
theorem w_neI (h : P (.bl (!decide (i = j)))) : Got (oNe (.int i) (.int j)) P := ⟨.bl (!eqD (.int i) (.int j)), by simp [oNe, okq], by rw [eqD_int]; exact h⟩
theorem w_eq (ha : okq 40 a = true) (hb : okq 40 b = true) (h : P (.bl (eqD a b))) : Got (oEq a b) P := ⟨_, by simp only [oEq, ha, hb, Bool.and_self, if_true], h⟩
theorem w_ne (ha : okq 40 a = true) (hb : okq 40 b = true) (h : P (.bl (!eqD a b))) : Got (oNe a b) P := ⟨_, by simp only [oNe, ha, hb, Bool.and_self, if_true], h⟩
theorem w_isN (h : P (.bl a.isNon)) : Got (oIsN a .non) P := ⟨_, rfl, h⟩
theorem w_notN (h : P (.bl (!a.isNon))) : Got (oNotN a .non) P := ⟨_, rfl, h⟩
theorem w_lenL (h : P (.int xs.length)) : Got (oLen [.lst xs]) P := ⟨_, rfl, h⟩
theorem w_lenT (h : P (.int xs.length)) : Got (oLen [.tup xs]) P := ⟨_, rfl, h⟩
theorem w_ixL (e : L2.atI xs i = some d) (h : P d) : Got (oIx (.lst xs) (.int i)) P := ⟨d, e, h⟩
theorem w_ixT (e : L2.atI xs i = some d) (h : P d) : Got (oIx (.tup xs) (.int i)) P := ⟨d, e, h⟩
theorem w_max2 (h : P (.int (if j > i then j else i))) : Got (oMax2 [.int i, .int j]) P := ⟨_, rfl, h⟩
theorem w_min2 (h : P (.int (if j < i then j else i))) : Got (oMin2 [.int i, .int j]) P := ⟨_, rfl, h⟩
theorem w_abs (h : P (.int (if i < 0 then -i else i))) : Got (oAbs [.int i]) P := ⟨_, rfl, h⟩
theorem w_listL (h : P (.lst xs)) : Got (oList [.lst xs]) P := ⟨_, rfl, h⟩
theorem w_listT (h : P (.lst xs)) : Got (oList [.tup xs]) P := ⟨_, rfl, h⟩
theorem w_tupleL (h : P (.tup xs)) : Got (oTuple [.lst xs]) P := ⟨_, rfl, h⟩
theorem w_tupleT (h : P (.tup xs)) : Got (oTuple [.tup xs]) P := ⟨_, rfl, h⟩
theorem w_sum {ns : List Int} (e : intsD xs = some ns) (h : P (.int ns.sum)) : Got (oSum [.lst xs]) P := ⟨.int ns.sum, by simp only [oSum, e]; rfl, h⟩
theorem kit_ib : kitB "int" "bool" = some false := by decide +kernel
theorem kit_ii : kitB "int" "int" = some true := by decide +kernel
theorem kit_it : kitB "int" "tuple" = some false := by decide +kernel
theorem kit_il : kitB "int" "list" = some false := by decide +kernel
theorem kit_is : kitB "int" "str" = some false := by decide +kernel
theorem kit_bb : kitB "bool" "bool" = some true := by decide +kernel
theorem kit_bi : kitB "bool" "int" = some true := by decide +kernel
theorem kit_bt : kitB "bool" "tuple" = some false := by decide +kernel
theorem kit_bl : kitB "bool" "list" = some false := by decide +kernel
theorem kit_bs : kitB "bool" "str" = some false := by decide +kernel
theorem kit_tt : kitB "tuple" "tuple" = some true := by decide +kernel
theorem kit_tb : kitB "tuple" "bool" = some false := by decide +kernel
theorem kit_ti : kitB "tuple" "int" = some false := by decide +kernel
theorem kit_tl : kitB "tuple" "list" = some false := by decide +kernel
theorem kit_ts : kitB "tuple" "str" = some false := by decide +kernel
theorem kit_ll : kitB "list" "list" = some true := by decide +kernel
theorem kit_lb : kitB "list" "bool" = some false := by decide +kernel
theorem kit_li : kitB "list" "int" = some false := by decide +kernel
theorem kit_lt : kitB "list" "tuple" = some false := by decide +kernel
theorem kit_ls : kitB "list" "str" = some false := by decide +kernel
theorem kit_ss : kitB "str" "str" = some true := by decide +kernel
theorem kit_sb : kitB "str" "bool" = some false := by decide +kernel
theorem kit_si : kitB "str" "int" = some false := by decide +kernel
theorem kit_st : kitB "str" "tuple" = some false := by decide +kernel
theorem kit_sl : kitB "str" "list" = some false := by decide +kernel
theorem kit_nb : kitB "NoneType" "bool" = some false := by decide +kernel
theorem kit_ni : kitB "NoneType" "int" = some false := by decide +kernel
theorem kit_nt : kitB "NoneType" "tuple" = some false := by decide +kernel
theorem kit_nl : kitB "NoneType" "list" = some false := by decide +kernel
theorem kit_ds : kitB "dict" "str" = some false := by decide +kernel
theorem kit_db : kitB "dict" "bool" = some false := by decide +kernel
theorem kit_di : kitB "dict" "int" = some false := by decide +kernel
theorem kit_dt : kitB "dict" "tuple" = some false := by decide +kernel
theorem kit_dl : kitB "dict" "list" = some false := by decide +kernel
def kitT (d : D) (c : String) : Option Bool := (tyD d).bind fun t => kitB t c
theorem kit_id : kitB "int" "dict" = some false := by decide +kernel
theorem kit_bd : kitB "bool" "dict" = some false := by decide +kernel
theorem kit_td : kitB "tuple" "dict" = some false := by decide +kernel
theorem kit_ld : kitB "list" "dict" = some false := by decide +kernel
theorem kit_sd : kitB "str" "dict" = some false := by decide +kernel
theorem kit_ns : kitB "NoneType" "str" = some false := by decide +kernel
theorem kit_nd : kitB "NoneType" "dict" = some false := by decide +kernel
theorem kit_dd : kitB "dict" "dict" = some true := by decide +kernel
theorem kt_ib {i : Int} : kitT (.int i) "bool" = some false := by show kitB "int" "bool" = _; exact kit_ib
theorem kt_ii {i : Int} : kitT (.int i) "int" = some true := by show kitB "int" "int" = _; exact kit_ii
theorem kt_it {i : Int} : kitT (.int i) "tuple" = some false := by show kitB "int" "tuple" = _; exact kit_it
theorem kt_il {i : Int} : kitT (.int i) "list" = some false := by show kitB "int" "list" = _; exact kit_il
theorem kt_is {i : Int} : kitT (.int i) "str" = some false := by show kitB "int" "str" = _; exact kit_is
theorem kt_id {i : Int} : kitT (.int i) "dict" = some false := by show kitB "int" "dict" = _; exact kit_id
theorem kt_bb {b : Bool} : kitT (.bl b) "bool" = some true := by show kitB "bool" "bool" = _; exact kit_bb
theorem kt_bi {b : Bool} : kitT (.bl b) "int" = some true := by show kitB "bool" "int" = _; exact kit_bi
theorem kt_bt {b : Bool} : kitT (.bl b) "tuple" = some false := by show kitB "bool" "tuple" = _; exact kit_bt
theorem kt_bl {b : Bool} : kitT (.bl b) "list" = some false := by show kitB "bool" "list" = _; exact kit_bl
theorem kt_bs {b : Bool} : kitT (.bl b) "str" = some false := by show kitB "bool" "str" = _; exact kit_bs
theorem kt_bd {b : Bool} : kitT (.bl b) "dict" = some false := by show kitB "bool" "dict" = _; exact kit_bd
theorem kt_tb {xs : List D} : kitT (.tup xs) "bool" = some false := by show kitB "tuple" "bool" = _; exact kit_tb
theorem kt_ti {xs : List D} : kitT (.tup xs) "int" = some false := by show kitB "tuple" "int" = _; exact kit_ti
theorem kt_tt {xs : List D} : kitT (.tup xs) "tuple" = some true := by show kitB "tuple" "tuple" = _; exact kit_tt
theorem kt_tl {xs : List D} : kitT (.tup xs) "list" = some false := by show kitB "tuple" "list" = _; exact kit_tl
theorem kt_ts {xs : List D} : kitT (.tup xs) "str" = some false := by show kitB "tuple" "str" = _; exact kit_ts
theorem kt_td {xs : List D} : kitT (.tup xs) "dict" = some false := by show kitB "tuple" "dict" = _; exact kit_td
theorem kt_lb {xs : List D} : kitT (.lst xs) "bool" = some false := by show kitB "list" "bool" = _; exact kit_lb
theorem kt_li {xs : List D} : kitT (.lst xs) "int" = some false := by show kitB "list" "int" = _; exact kit_li
theorem kt_lt {xs : List D} : kitT (.lst xs) "tuple" = some false := by show kitB "list" "tuple" = _; exact kit_lt
theorem kt_ll {xs : List D} : kitT (.lst xs) "list" = some true := by show kitB "list" "list" = _; exact kit_ll
theorem kt_ls {xs : List D} : kitT (.lst xs) "str" = some false := by show kitB "list" "str" = _; exact kit_ls
theorem kt_ld {xs : List D} : kitT (.lst xs) "dict" = some false := by show kitB "list" "dict" = _; exact kit_ld
theorem kt_sb {s : String} : kitT (.str s) "bool" = some false := by show kitB "str" "bool" = _; exact kit_sb
theorem kt_si {s : String} : kitT (.str s) "int" = some false := by show kitB "str" "int" = _; exact kit_si
theorem kt_st {s : String} : kitT (.str s) "tuple" = some false := by show kitB "str" "tuple" = _; exact kit_st
theorem kt_sl {s : String} : kitT (.str s) "list" = some false := by show kitB "str" "list" = _; exact kit_sl
theorem kt_ss {s : String} : kitT (.str s) "str" = some true := by show kitB "str" "str" = _; exact kit_ss
theorem kt_sd {s : String} : kitT (.str s) "dict" = some false := by show kitB "str" "dict" = _; exact kit_sd
theorem kt_nb  : kitT (.non) "bool" = some false := by show kitB "NoneType" "bool" = _; exact kit_nb
theorem kt_ni  : kitT (.non) "int" = some false := by show kitB "NoneType" "int" = _; exact kit_ni
theorem kt_nt  : kitT (.non) "tuple" = some false := by show kitB "NoneType" "tuple" = _; exact kit_nt
theorem kt_nl  : kitT (.non) "list" = some false := by show kitB "NoneType" "list" = _; exact kit_nl
theorem kt_ns  : kitT (.non) "str" = some false := by show kitB "NoneType" "str" = _; exact kit_ns
theorem kt_nd  : kitT (.non) "dict" = some false := by show kitB "NoneType" "dict" = _; exact kit_nd
theorem kt_db {ks : List Key} {ys : List D} : kitT (.dct ks ys) "bool" = some false := by show kitB "dict" "bool" = _; exact kit_db
theorem kt_di {ks : List Key} {ys : List D} : kitT (.dct ks ys) "int" = some false := by show kitB "dict" "int" = _; exact kit_di
theorem kt_dt {ks : List Key} {ys : List D} : kitT (.dct ks ys) "tuple" = some false := by show kitB "dict" "tuple" = _; exact kit_dt
theorem kt_dl {ks : List Key} {ys : List D} : kitT (.dct ks ys) "list" = some false := by show kitB "dict" "list" = _; exact kit_dl
theorem kt_ds {ks : List Key} {ys : List D} : kitT (.dct ks ys) "str" = some false := by show kitB "dict" "str" = _; exact kit_ds
theorem kt_dd {ks : List Key} {ys : List D} : kitT (.dct ks ys) "dict" = some true := by show kitB "dict" "dict" = _; exact kit_dd
theorem w_isi {c : String} {k : Bool} (e : kitT a c = some k) (h : P (.bl k)) : Got (oIsi [a, .ty c]) P := ⟨.bl k, by
  unfold kitT at e
  obtain ⟨t, e1, e2⟩ := Option.bind_eq_some_iff.mp e
  simp only [oIsi, e1, e2, Option.bind_some, Option.map_some], h⟩
end
/-! ### sizes of ints -/
def Bd (n : Nat) (i : Int) : Prop := i.natAbs < 2 ^ n
section
variable {i j : Int} {n m : Nat}
theorem Bd.mul (h : Bd n i) (k : Bd m j) : Bd (n + m) (i * j) := wide_lt h k
theorem Bd.add (h : Bd n i) (k : Bd m j) : Bd (n + m + 1) (i + j) := by
  unfold Bd at *
  have h1 : (2 : Nat) ^ n ≤ 2 ^ (n + m) := Nat.pow_le_pow_right (by omega) (by omega)
  have h2 : (2 : Nat) ^ m ≤ 2 ^ (n + m) := Nat.pow_le_pow_right (by omega) (by omega)
  have h3 : (2 : Nat) ^ (n + m + 1) = 2 ^ (n + m) * 2 := Nat.pow_succ ..
  omega
theorem Bd.neg (h : Bd n i) : Bd n (-i) := by unfold Bd at *; omega
theorem Bd.sub (h : Bd n i) (k : Bd m j) : Bd (n + m + 1) (i - j) := by
  rw [Int.sub_eq_add_neg]
  exact h.add k.neg
theorem Bd.mono (h : Bd n i) (k : n ≤ m) : Bd m i := Nat.lt_of_lt_of_le h (Nat.pow_le_pow_right (by omega) k)
theorem Bd.le {i j : Int} (h : Bd n j) (h0 : 0 ≤ i) (h1 : i ≤ j) : Bd n i := by unfold Bd at *; omega
theorem Bd.mod (hj : 0 < j) (h : Bd m j) : Bd m (i % j) := by
  have h1 := Int.emod_nonneg i (show j ≠ 0 by omega)
  have h2 := Int.emod_lt_of_pos i hj
  unfold Bd at *
  omega
theorem MuOk.of (h : Bd n i) (k : Bd m j) (hs : n + m < 100000000) : MuOk i j := by
  have x : i.natAbs.log2 ≤ n := by
    by_cases h0 : i.natAbs = 0
    · rw [h0]; exact Nat.zero_le _
    · exact Nat.le_of_lt ((Nat.log2_lt h0).mpr h)
  have y : j.natAbs.log2 ≤ m := by
    by_cases h0 : j.natAbs = 0
    · rw [h0]; exact Nat.zero_le _
    · exact Nat.le_of_lt ((Nat.log2_lt h0).mpr k)
  unfold MuOk
  omega
end
end Dy

set_option Elab.async false
set_option linter.all false
set_option maxRecDepth 100000
namespace Dy
open PySem PySem.Spec PyProof.Rows L2
/-! ### for the stepping words -/
section
variable {A B : Prop} {p : Prop} [Decidable p]
theorem k_tt (h : A) : Fork (true) A B := ⟨fun _ => h, fun z => by cases z⟩
theorem k_ff (h : B) : Fork (false) A B := ⟨fun z => (by cases z), fun _ => h⟩
theorem k_nt (h : B) : Fork ((!true)) A B := ⟨fun z => (by cases z), fun _ => h⟩
theorem k_nf (h : A) : Fork ((!false)) A B := ⟨fun _ => h, fun z => by cases z⟩
theorem k_dT (hp : p) (h : A) : Fork (decide p) A B := ⟨fun _ => h, fun z => absurd hp (of_decide_eq_false z)⟩
theorem k_dF (hp : ¬ p) (h : B) : Fork (decide p) A B := ⟨fun z => absurd (of_decide_eq_true z) hp, fun _ => h⟩
theorem k_d (h1 : p → A) (h2 : ¬ p → B) : Fork (decide p) A B := ⟨fun z => h1 (of_decide_eq_true z), fun z => h2 (of_decide_eq_false z)⟩
theorem k_ndT (hp : p) (h : B) : Fork ((!decide p)) A B := ⟨fun z => absurd hp (by simpa using z), fun _ => h⟩
theorem k_ndF (hp : ¬ p) (h : A) : Fork ((!decide p)) A B := ⟨fun _ => h, fun z => absurd (by simpa using z) hp⟩
theorem k_nd (h1 : ¬ p → A) (h2 : p → B) : Fork ((!decide p)) A B := ⟨fun z => h1 (by simpa using z), fun z => h2 (by simpa using z)⟩
theorem k_nndT (hp : p) (h : A) : Fork ((!(!decide p))) A B := ⟨fun _ => h, fun z => absurd hp (by simpa using z)⟩
theorem k_nndF (hp : ¬ p) (h : B) : Fork ((!(!decide p))) A B := ⟨fun z => absurd (by simpa using z) hp, fun _ => h⟩
theorem k_nnd (h1 : p → A) (h2 : ¬ p → B) : Fork ((!(!decide p))) A B := ⟨fun z => h1 (by simpa using z), fun z => h2 (by simpa using z)⟩
theorem k_any {k : Bool} (h1 : k = true → A) (h2 : k = false → B) : Fork k A B := ⟨h1, h2⟩
theorem ex_bl {b : Bool} {P : Bool → Prop} (h : P b) : HasB (.bl b) P := ⟨b, rfl, h⟩
theorem ex_int {b : Int} {P : Int → Prop} (h : P b) : HasI (.int b) P := ⟨b, rfl, h⟩
theorem ex_two {a b : D} {P : D → D → Prop} (h : P a b) : Has2 [a, b] P := ⟨a, b, rfl, h⟩
theorem g_ot {α : Type} {o : Option α} {a : α} {P : α → Prop} (e : o = some a) (h : P a) : Got o P := ⟨a, e, h⟩
theorem f_its {n : Nat} {A : Prop} (e : n ≤ sizeLine) (h : A) : Fits n A := ⟨e, h⟩
theorem g_rows {n : Nat} {A : Prop} (e : n < sizeLine) (h : A) : Grows n A := ⟨e, h⟩
theorem w_range1 {n : Int} {P : List D → Prop} (h : Sm n) (k : P (rangeD 0 n.toNat)) : Got (range1 [.int n]) P := ⟨_, by simp only [range1, if_pos h], k⟩
theorem w_range2 {m n : Int} {P : List D → Prop} (h : Sm m) (h2 : Sm n) (k : P (rangeD m (n - m).toNat)) : Got (range2 [.int m, .int n]) P := ⟨_, by simp only [range2, if_pos (And.intro h h2)], k⟩
end
/-! ### lists of ints -/
theorem eqD_lst_nil {xs : List D} : eqD (.lst xs) (.lst []) = xs.isEmpty := by
  cases xs with
  | nil => simp [eqD, D.py, pyL, PyData.eqv, PyData.eqvAll]
  | cons x r => simp [eqD, D.py, pyL, PyData.eqv, PyData.eqvAll]
theorem okq_ints {n : Nat} (ns : List Int) : okq (n + 1) (.lst (ns.map .int)) = true := by
  simp only [okq, List.all_map, List.all_eq_true]
  intro x _
  cases n <;> rfl
theorem w_eqNil {xs : List D} {P : D → Prop} (hq : okq 40 (.lst xs) = true) (h : P (.bl xs.isEmpty)) : Got (oEq (.lst xs) (.lst [])) P := w_eq hq rfl (by rw [eqD_lst_nil]; exact h)
theorem w_neNil {xs : List D} {P : D → Prop} (hq : okq 40 (.lst xs) = true) (h : P (.bl (!xs.isEmpty))) : Got (oNe (.lst xs) (.lst [])) P := w_ne hq rfl (by rw [eqD_lst_nil]; exact h)
theorem c_nil {b : D → REnv → Option REnv} {c : REnv → R Bool} {e : REnv → R D} {ρ : REnv} {P : List D → Prop} (h : P []) : Got (compS b c e [] ρ) P := ⟨[], rfl, h⟩
theorem c_cons {b : D → REnv → Option REnv} {c : REnv → R Bool} {e : REnv → R D} {ρ : REnv} {d : D} {ds : List D} {P : List D → Prop}
    (h : Got (b d ρ) fun ρ' => (c ρ').wp (fun k => Fork k ((e ρ').wp (fun v => Got (compS b c e ds ρ) fun r => P (v :: r)) NoE) (Got (compS b c e ds ρ) P)) NoE) : Got (compS b c e (d :: ds) ρ) P := by
  obtain ⟨ρ', e1, h⟩ := h
  obtain ⟨k, e2, h1, h2⟩ := h.ok
  cases k with
  | true =>
    obtain ⟨v, e3, r, e4, hp⟩ := (h1 rfl).ok
    exact ⟨v :: r, by simp only [compS, e1, e2, e3, e4, R.get, Option.bind_some, if_true], hp⟩
  | false =>
    obtain ⟨r, e4, hp⟩ := h2 rfl
    exact ⟨r, by simp only [compS, e1, e2, e4, R.get, Option.bind_some, Bool.false_eq_true, if_false], hp⟩
theorem wp_yes {ρ : REnv} {P : Bool → Prop} {E : D → Prop} (h : P true) : (eYes ρ).wp P E := h
/-! ### a thing equals itself -/
theorem eqvAll_refl : ∀ xs : List D, (∀ x ∈ xs, PyData.eqv x.py x.py = true) → PyData.eqvAll (pyL xs) (pyL xs) = true
  | [], _ => by simp [pyL, PyData.eqvAll]
  | x :: xs, h => by
    simp only [pyL, PyData.eqvAll, h x (List.mem_cons_self ..), Bool.true_and]
    exact eqvAll_refl xs fun y hy => h y (List.mem_cons_of_mem _ hy)
theorem eqD_refl : ∀ (n : Nat) (a : D), okq n a = true → eqD a a = true := by
  intro n
  induction n with
  | zero => intro a h; cases a <;> simp_all [okq, eqD, D.py, PyData.eqv]
  | succ n ih =>
    intro a h
    cases a with
    | tup xs =>
      simp only [eqD, D.py, PyData.eqv]
      exact eqvAll_refl xs fun x hx => ih x (List.all_eq_true.mp (by simpa [okq] using h) x hx)
    | lst xs =>
      simp only [eqD, D.py, PyData.eqv]
      exact eqvAll_refl xs fun x hx => ih x (List.all_eq_true.mp (by simpa [okq] using h) x hx)
    | _ => simp_all [okq, eqD, D.py, PyData.eqv]
theorem w_eqS {a b : D} {P : D → Prop} (e : a = b) (ha : okq 40 a = true) (h : P (.bl true)) : Got (oEq a b) P := by
  subst e
  exact w_eq ha ha (by rw [eqD_refl 40 a ha]; exact h)
theorem w_neS {a b : D} {P : D → Prop} (e : a = b) (ha : okq 40 a = true) (h : P (.bl false)) : Got (oNe a b) P := by
  subst e
  exact w_ne ha ha (by rw [eqD_refl 40 a ha]; exact h)
theorem tup3 {a b c d e f : Int} (h1 : a = d) (h2 : b = e) (h3 : c = f) : D.tup [.int a, .int b, .int c] = .tup [.int d, .int e, .int f] := by rw [h1, h2, h3]
theorem Bd.log {n : Nat} {j : Int} (h : Bd n j) (hn : n < 9000) : j.natAbs.log2 < 9000 := by
  by_cases h0 : j.natAbs = 0
  · rw [h0]; decide
  · exact Nat.lt_trans ((Nat.log2_lt h0).mpr h) hn
theorem Bd.lit {n : Nat} {i : Int} (h : i.natAbs < 2 ^ n := by decide) : Bd n i := h
end Dy

set_option Elab.async false
set_option linter.all false
set_option maxRecDepth 100000
namespace Dy
open PySem PySem.Spec PyProof.Rows L2
/-! ### what is never reached -/
/-! ### range(a, b, c) -/
def rg3 (m n c : Int) : Prop := c ≠ 0 ∧ c.natAbs < 1073741824 ∧ Builtin.Range.small m n c = true ∧ 0 ≤ Builtin.Range.rangeSize m n c
instance (m n c : Int) : Decidable (rg3 m n c) := inferInstanceAs (Decidable (_ ∧ _))
def range3c : List D → Option (List D)
  | [.int m, .int n, .int c] => if rg3 m n c then some (rangeC m c (Builtin.Range.rangeSize m n c).toNat) else none
  | _ => none
theorem RepL.three {K : PySem.W.Frag} {F : Hp} {a b c : D} {vs : List V} (h : RepL K F [a, b, c] vs) : ∃ v w x, vs = [v, w, x] ∧ Rep K F a v ∧ Rep K F b w ∧ Rep K F c x := by
  simp only [RepL] at h
  obtain ⟨v, r, e, h1, w, r2, e2, h2, x, r3, e3, h3, h4⟩ := h
  subst h4
  subst e3
  subst e2
  exact ⟨v, w, x, e, h1, h2, h3⟩
/-- the turns' numbers: lo, lo + c, .., all below n -/
theorem w_range3 {m n c : Int} {P : List D → Prop} (hc : 0 < c ∧ c < 1000000) (hm : 0 ≤ m ∧ m < 1000000) (hn : 0 ≤ n ∧ n < 1000000) (k : P (rangeC m c (Builtin.Range.rangeSize m n c).toNat)) : Got (range3c [.int m, .int n, .int c]) P := by
  have z4 : 0 ≤ Builtin.Range.rangeSize m n c ∧ (Builtin.Range.rangeSize m n c ≤ 1000000 ∧ (Builtin.Range.rangeSize m n c) * c < 3000000) := by
    unfold Builtin.Range.rangeSize
    rw [if_pos (show c > 0 from hc.1)]
    by_cases h : m < n
    · rw [if_pos h]
      have h1 : 0 ≤ (n - m - 1) / c := Int.ediv_nonneg (by omega) (by omega)
      have h2 : (n - m - 1) / c ≤ n - m - 1 := Int.ediv_le_self _ (by omega)
      have h3 : (n - m - 1) / c * c ≤ n - m - 1 := Int.ediv_mul_le _ (by omega)
      rw [Int.add_mul, Int.one_mul]
      refine ⟨by omega, by omega, by omega⟩
    · rw [if_neg h]; refine ⟨by omega, by omega, by omega⟩
  refine ⟨_, by rw [range3c, if_pos ⟨by omega, by omega, ?_, z4.1⟩], k⟩
  unfold Builtin.Range.small
  generalize Builtin.Range.rangeSize m n c = q at *
  simp only [Builtin.Range.rangeFitsLong, Bool.and_eq_true, Bool.or_eq_true, decide_eq_true_eq, beq_iff_eq, show c > 0 from hc.1, if_true]
  have z5 : (q + 1) * c < 4000000 := by rw [Int.add_mul, Int.one_mul]; omega
  have z6 : (q - 1) * c < 4000000 := by rw [Int.sub_mul, Int.one_mul]; omega
  have z7 : 0 ≤ q * c := Int.mul_nonneg z4.1 (by omega)
  have z8 : -1000000 < (q - 1) * c := by rw [Int.sub_mul, Int.one_mul]; omega
  omega
theorem rangeD_get {m : Int} {n i : Nat} {d : D} (h : (rangeD m n)[i]? = some d) : d = .int (m + i) ∧ i < n := by
  obtain ⟨hi, e⟩ := List.getElem?_eq_some_iff.mp h
  have hi2 : i < n := by simpa [rangeD] using hi
  exact ⟨by rw [← e]; simp [rangeD], hi2⟩
end Dy

set_option Elab.async false
set_option linter.all false
set_option maxRecDepth 100000
namespace Dy
open PySem PySem.Spec PyProof.Rows L2
/-! ### whole numbers' divisors, and fractions -/
theorem divInt_add (a b : Rat) : Rat.divInt (a.num * b.den + b.num * a.den) (a.den * b.den) = a + b := by
  rw [Rat.add_def', ← Rat.divInt_ofNat]; simp
theorem divInt_sub (a b : Rat) : Rat.divInt (a.num * b.den - b.num * a.den) (a.den * b.den) = a - b := by
  rw [Rat.sub_def', ← Rat.divInt_ofNat]; simp
theorem divInt_mul (a b : Rat) : Rat.divInt (a.num * b.num) (a.den * b.den) = a * b := by
  rw [Rat.mul_def', ← Rat.divInt_ofNat]; simp
theorem den_ne (a : Rat) : (a.den : Int) ≠ 0 := by have := a.den_nz; omega
/-- cross products -/
theorem rat_cross {r : Rat} {p q : Int} (hq : q ≠ 0) (h : r = (p : Rat) / q) : r.num * q = p * r.den := by
  rw [← Rat.divInt_eq_div] at h
  have h2 : Rat.divInt r.num r.den = Rat.divInt p q := by rw [Rat.num_divInt_den]; exact h
  exact (Rat.divInt_eq_divInt_iff (den_ne r) hq).mp h2
theorem size_num (a b : Int) (hb : b ≠ 0) : (Rat.divInt a b).num.natAbs ≤ a.natAbs := by
  rw [Rat.num_divInt]
  have hs : (b.sign * a).natAbs = a.natAbs := by
    rw [Int.natAbs_mul, Int.natAbs_sign_of_ne_zero hb, Nat.one_mul]
  rw [← hs]
  exact Int.natAbs_ediv_le_natAbs ..
theorem size_den (a b : Int) (hb : b ≠ 0) : (Rat.divInt a b).den ≤ b.natAbs := by
  rw [Rat.den_divInt, if_neg hb]
  exact Nat.div_le_self ..

def rD (r : Rat) : D := .tup [.int r.num, .int r.den]
def RB (n m : Nat) (r : Rat) : Prop := Bd n r.num ∧ Bd m r.den
theorem Bd.addM {n m : Nat} {i j : Int} (h : Bd n i) (k : Bd m j) : Bd (max n m + 1) (i + j) := by
  have h1 := h.mono (Nat.le_max_left n m)
  have h2 := k.mono (Nat.le_max_right n m)
  unfold Bd at *
  have h3 : (2 : Nat) ^ (max n m + 1) = 2 ^ max n m * 2 := Nat.pow_succ ..
  omega
theorem Bd.subM {n m : Nat} {i j : Int} (h : Bd n i) (k : Bd m j) : Bd (max n m + 1) (i - j) := by
  rw [Int.sub_eq_add_neg]
  exact h.addM k.neg
theorem RB.of {n m : Nat} {a b : Int} (hb : b ≠ 0) (h : Bd n a) (k : Bd m b) : RB n m (Rat.divInt a b) :=
  ⟨Nat.lt_of_le_of_lt (size_num a b hb) h, Nat.lt_of_le_of_lt (size_den a b hb) k⟩
theorem den_mul_ne (a b : Rat) : (a.den : Int) * b.den ≠ 0 := Int.mul_ne_zero (den_ne a) (den_ne b)
section
variable {n m n' m' : Nat} {x y : Rat}
theorem RB.mono {k l : Nat} (h : RB n m x) (h1 : n ≤ k) (h2 : m ≤ l) : RB k l x := ⟨h.1.mono h1, h.2.mono h2⟩
theorem RB.add (h : RB n m x) (k : RB n' m' y) : RB (max (n + m') (n' + m) + 1) (m + m') (x + y) := by
  rw [← divInt_add]
  exact .of (den_mul_ne x y) ((h.1.mul k.2).addM (k.1.mul h.2)) (h.2.mul k.2)
theorem RB.sub (h : RB n m x) (k : RB n' m' y) : RB (max (n + m') (n' + m) + 1) (m + m') (x - y) := by
  rw [← divInt_sub]
  exact .of (den_mul_ne x y) ((h.1.mul k.2).subM (k.1.mul h.2)) (h.2.mul k.2)
theorem RB.mul (h : RB n m x) (k : RB n' m' y) : RB (n + n') (m + m') (x * y) := by
  rw [← divInt_mul]
  exact .of (den_mul_ne x y) (h.1.mul k.1) (h.2.mul k.2)
theorem RB.int {i : Int} (h : Bd n i) : RB n 1 (i : Rat) := ⟨h, by show Bd 1 ((1 : Nat) : Int); exact Bd.lit (by decide)⟩
end
section
variable {P : D → Prop} {i j : Int} {a b : D}
end
theorem sl1 {α : Type} {xs : List α} (h : xs.length = 1) : ∃ a0, xs = [a0] := match xs, h with
  | [a0], _ => ⟨a0, rfl⟩
theorem sl2 {α : Type} {xs : List α} (h : xs.length = 2) : ∃ a0 a1, xs = [a0, a1] := match xs, h with
  | [a0, a1], _ => ⟨a0, a1, rfl⟩
end Dy

set_option Elab.async false
set_option linter.all false
set_option maxRecDepth 100000
namespace Dy
open PySem PySem.Spec PyProof.Rows L2
/-! ### the slots are kept written out -/
def Upd (ρ : REnv) (i : Nat) (s : Sl) (N : REnv → Prop) : Prop := N (ρ.set i s)
def Wipe (ρ : REnv) (vs : List Nat) (N : REnv → Prop) : Prop := N (wipeE ρ vs)
theorem upd_step {ρ ρ' : REnv} {i : Nat} {s : Sl} {N : REnv → Prop} (e : ρ.set i s = ρ') (h : N ρ') : Upd ρ i s N := by unfold Upd; rw [e]; exact h
theorem wipe_nil {ρ : REnv} {N : REnv → Prop} (h : N ρ) : Wipe ρ [] N := h
theorem wipe_cons {ρ : REnv} {v : Nat} {vs : List Nat} {N : REnv → Prop} (h : Wipe ρ vs fun ρ' => Upd ρ' v .un N) : Wipe ρ (v :: vs) N := h
section
variable {ρ : REnv} {N : REnv → Prop} {T : D → Prop} {E : D → REnv → Prop} {g h : REnv → SR} {f : REnv → R D} {u : REnv → R Bool} {t : REnv → R (List D)}
theorem sp_setU {i : Nat} (h : (f ρ).wp (fun d => Upd ρ i (.val d) N) (fun e => E e ρ)) : (sSet i f ρ).wp N T E := sp_set h
theorem sp_parU {i j : Nat} (h : (t ρ).wp (fun ds => Has2 ds fun a b => Upd ρ i (.val a) fun ρ' => Upd ρ' j (.val b) N) (fun e => E e ρ)) : (sPar i j t ρ).wp N T E := sp_par h
theorem sp_ownU {i : Nat} (h : (t ρ).wp (fun ds => Fits ds.length (Upd ρ i (.own ds) N)) (fun e => E e ρ)) : (sOwn i t ρ).wp N T E := sp_own h
theorem sp_appU {i : Nat} {ds : List D} (e : ρ[i]? = some (.own ds)) (h : (f ρ).wp (fun d => Grows ds.length (Upd ρ i (.own (ds ++ [d])) N)) (fun e => E e ρ)) : (sApp i f ρ).wp N T E := sp_app e h
theorem sp_frO {i : Nat} {ds : List D} (e : ρ[i]? = some (.own ds)) (h : Upd ρ i (.val (.lst ds)) fun ρ' => (g ρ').wp N T E) : (sFreeze i g ρ).wp N T E := by
  unfold sFreeze eFreeze
  rw [e]
  exact h
theorem sp_frV {i : Nat} {d : D} (e : ρ[i]? = some (.val d)) (h : (g ρ).wp N T E) : (sFreeze i g ρ).wp N T E := by
  unfold sFreeze eFreeze
  rw [e]
  exact h
theorem sp_frU {i : Nat} (e : ρ[i]? = some .un) (h : (g ρ).wp N T E) : (sFreeze i g ρ).wp N T E := by
  unfold sFreeze eFreeze
  rw [e]
  exact h
theorem w_bName {i : Nat} {d : D} (h : Upd ρ i (.val d) N) : Got (bName i d ρ) N := ⟨_, rfl, h⟩
theorem w_bNil (h : N ρ) : Got (bNil [] ρ) N := ⟨_, rfl, h⟩
theorem w_bCons {b : D → REnv → Option REnv} {c : List D → REnv → Option REnv} {d : D} {r : List D} (h : Got (b d ρ) fun ρ' => Got (c r ρ') N) : Got (bCons b c (d :: r) ρ) N := by
  obtain ⟨ρ', e, ρ'', e2, h⟩ := h
  exact ⟨ρ'', by unfold bCons; simp only [e, Option.bind_some, e2], h⟩
theorem w_bSeqT {n : Nat} {c : List D → REnv → Option REnv} {xs : List D} (hl : xs.length = n) (h : Got (c xs ρ) N) : Got (bSeq n c (.tup xs) ρ) N := by
  obtain ⟨ρ', e, h⟩ := h
  exact ⟨ρ', by unfold bSeq; simp only [hl, if_true, e], h⟩
theorem w_bSeqL {n : Nat} {c : List D → REnv → Option REnv} {xs : List D} (hl : xs.length = n) (h : Got (c xs ρ) N) : Got (bSeq n c (.lst xs) ρ) N := by
  obtain ⟨ρ', e, h⟩ := h
  exact ⟨ρ', by unfold bSeq; simp only [hl, if_true, e], h⟩
theorem wp_compU {E : D → Prop} {P : D → Prop} {vs : List Nat} {fi : REnv → R (List D)} {b : D → REnv → Option REnv} {c : REnv → R Bool} {e : REnv → R D} (h : (fi ρ).wp (fun ds => Fits ds.length (Wipe ρ vs fun ρ' => Got (compS b c e ds ρ') fun rs => P (.lst rs))) E) : (eComp vs fi b c e ρ).wp P E := wp_comp h
end
theorem wp_fnU {n m : Nat} {ds : List D} {g : REnv → SR} {ρ0 : REnv} {P : D → Prop} {E : D → Prop} (hl : ds.length = n) (e : ds.map .val ++ List.replicate (m - n) .un = ρ0) (h : (g ρ0).wp (fun _ => P .non) P (fun e _ => E e)) : (fnD n m g ds).wp P E := wp_fn hl (by rw [e]; exact h)
section
variable {ρ : REnv} {N : REnv → Prop} {T : D → Prop} {E : D → REnv → Prop} {g : REnv → SR} {b : D → REnv → Option REnv} {d : D} {ds : List D}
theorem fs_nil (h : N ρ) : (forS b g [] ρ).wp N T E := by unfold forS; exact h
theorem fs_cons (h : Got (b d ρ) fun ρ' => (g ρ').wp (fun ρ'' => (forS b g ds ρ'').wp N T E) T E) : (forS b g (d :: ds) ρ).wp N T E := by
  obtain ⟨ρ', e1, h1⟩ := h
  unfold forS
  rw [e1]
  show ((g ρ').seq (forS b g ds)).wp N T E
  exact sp_seq (g := g) (h := forS b g ds) h1
end
section
variable {ρ : REnv} {P : D → Prop} {x y : Rat}
theorem w_ixR0 (h : P (.int x.num)) : Got (oIx (rD x) (.int 0)) P := w_ixT rfl h
theorem w_ixR1 (h : P (.int x.den)) : Got (oIx (rD x) (.int 1)) P := w_ixT rfl h
theorem w_lenR (h : P (.int 2)) : Got (oLen [rD x]) P := w_lenT h
theorem kt_rt : kitT (rD x) "tuple" = some true := kt_tt
theorem kt_rb : kitT (rD x) "bool" = some false := kt_tb
theorem kt_ri : kitT (rD x) "int" = some false := kt_ti
theorem kt_rl : kitT (rD x) "list" = some false := kt_tl
theorem w_iterR {P : List D → Prop} (h : P [.int x.num, .int x.den]) : Got (iterD (rD x)) P := g_ot rfl h
theorem w_bSeqR {c : List D → REnv → Option REnv} {N : REnv → Prop} (h : Got (c [.int x.num, .int x.den] ρ) N) : Got (bSeq 2 c (rD x) ρ) N := w_bSeqT rfl h
theorem eqD_rat : eqD (rD x) (rD y) = decide (x = y) := by
  have e : eqD (rD x) (rD y) = (eqD (.int x.num) (.int y.num) && eqD (.int x.den) (.int y.den)) := by
    simp [rD, eqD, D.py, pyL, PyData.eqv, PyData.eqvAll]
  rw [e, eqD_int, eqD_int]
  by_cases h : x = y
  · subst h; simp
  · have : ¬ (x.num = y.num ∧ (x.den : Int) = y.den) := fun z => h (Rat.ext z.1 (by omega))
    simp only [h, decide_false]
    by_cases h1 : x.num = y.num
    · have h2 : ¬ ((x.den : Int) = y.den) := fun z => this ⟨h1, z⟩
      simp only [h2, decide_false, Bool.and_false]
    · simp only [h1, decide_false, Bool.false_and]
theorem okq_rat : okq 40 (rD x) = true := rfl
theorem w_eqR (h : P (.bl (decide (x = y)))) : Got (oEq (rD x) (rD y)) P := w_eq okq_rat okq_rat (by rw [eqD_rat]; exact h)
theorem w_neR (h : P (.bl (!decide (x = y)))) : Got (oNe (rD x) (rD y)) P := w_ne okq_rat okq_rat (by rw [eqD_rat]; exact h)
end
theorem RB.n {n m : Nat} {x : Rat} (h : RB n m x) : Bd n x.num := h.1
theorem RB.d {n m : Nat} {x : Rat} (h : RB n m x) : Bd m x.den := h.2
theorem cross_of {r : Rat} {p q : Int} (hq : q ≠ 0) (h : Rat.divInt p q = r) : r.num * q = p * r.den := rat_cross hq (by rw [← h, Rat.divInt_eq_div])
/-! ### triples -/
abbrev t3 (a b c : Int) : D := .tup [.int a, .int b, .int c]
def T3 (n : Nat) (d : D) : Prop := ∃ a b c, d = t3 a b c ∧ Bd n a ∧ Bd n b ∧ Bd n c
theorem T3.mk {n : Nat} {a b c : Int} (ha : Bd n a) (hb : Bd n b) (hc : Bd n c) : T3 n (t3 a b c) := ⟨a, b, c, rfl, ha, hb, hc⟩
section
variable {P : D → Prop} {a b c d e f : Int}
theorem eqD_t3 : eqD (t3 a b c) (t3 d e f) = decide (a = d ∧ b = e ∧ c = f) := by
  have z : eqD (t3 a b c) (t3 d e f) = (eqD (.int a) (.int d) && (eqD (.int b) (.int e) && eqD (.int c) (.int f))) := by
    simp [eqD, D.py, pyL, PyData.eqv, PyData.eqvAll]
  rw [z, eqD_int, eqD_int, eqD_int]
  simp only [Bool.decide_and]
theorem w_eq3 (h : P (.bl (decide (a = d ∧ b = e ∧ c = f)))) : Got (oEq (.tup [.int a, .int b, .int c]) (.tup [.int d, .int e, .int f])) P := w_eq rfl rfl (by rw [show eqD _ _ = _ from eqD_t3]; exact h)
theorem w_ne3 (h : P (.bl (!decide (a = d ∧ b = e ∧ c = f)))) : Got (oNe (.tup [.int a, .int b, .int c]) (.tup [.int d, .int e, .int f])) P := w_ne rfl rfl (by rw [show eqD _ _ = _ from eqD_t3]; exact h)
theorem w_rng3 {P : List D → Prop} (h : P [.int 0, .int 1, .int 2]) : Got (range1 [.int 3]) P := g_ot rfl h
theorem w_zip3 {P : List D → Prop} {a b c d e f : D} (h : P [.tup [a, d], .tup [b, e], .tup [c, f]]) : Got (zip2 [.tup [a, b, c], .tup [d, e, f]]) P := g_ot rfl h
theorem w_sum3 (h : P (.int (a + b + c))) : Got (oSum [.lst [.int a, .int b, .int c]]) P := w_sum rfl (by rw [show [a, b, c].sum = a + b + c by simp; omega]; exact h)
end
theorem RB.zero : RB 1 1 0 := ⟨Bd.lit (by decide), Bd.lit (by decide)⟩
theorem RB.one : RB 1 1 1 := ⟨Bd.lit (by decide), Bd.lit (by decide)⟩
theorem decide_t {p : Prop} [Decidable p] (h : p) : decide p = true := decide_eq_true h
theorem decide_f {p : Prop} [Decidable p] (h : ¬ p) : decide p = false := decide_eq_false h
end Dy

set_option Elab.async false
set_option linter.all false
set_option maxRecDepth 100000
namespace Dy
open PySem PySem.Spec PyProof.Rows L2
section
variable {P : D → Prop} {x y z x' y' z' : Rat}
theorem eqD_pair {a b c d : D} : eqD (.tup [a, b]) (.tup [c, d]) = (eqD a c && eqD b d) := by
  simp [eqD, D.py, pyL, PyData.eqv, PyData.eqvAll]
theorem eqD_three {a b c a' b' c' : D} : eqD (.tup [a, b, c]) (.tup [a', b', c']) = (eqD a a' && (eqD b b' && eqD c c')) := by
  simp [eqD, D.py, pyL, PyData.eqv, PyData.eqvAll]
theorem w_eqRR (h : P (.bl (decide (x = x' ∧ y = y')))) : Got (oEq (.tup [rD x, rD y]) (.tup [rD x', rD y'])) P := w_eq rfl rfl (by rw [eqD_pair, eqD_rat, eqD_rat, ← Bool.decide_and]; exact h)
theorem w_neRR (h : P (.bl (!decide (x = x' ∧ y = y')))) : Got (oNe (.tup [rD x, rD y]) (.tup [rD x', rD y'])) P := w_ne rfl rfl (by rw [eqD_pair, eqD_rat, eqD_rat, ← Bool.decide_and]; exact h)
theorem w_eqRRR (h : P (.bl (decide (x = x' ∧ y = y' ∧ z = z')))) : Got (oEq (.tup [rD x, rD y, rD z]) (.tup [rD x', rD y', rD z'])) P := w_eq rfl rfl (by rw [eqD_three, eqD_rat, eqD_rat, eqD_rat, ← Bool.decide_and, ← Bool.decide_and]; exact h)
theorem w_neRRR (h : P (.bl (!decide (x = x' ∧ y = y' ∧ z = z')))) : Got (oNe (.tup [rD x, rD y, rD z]) (.tup [rD x', rD y', rD z'])) P := w_ne rfl rfl (by rw [eqD_three, eqD_rat, eqD_rat, eqD_rat, ← Bool.decide_and, ← Bool.decide_and]; exact h)
end
theorem kt_zb {s : Str} : kitT (.str s) "bool" = some false := by show kitB "str" "bool" = _; exact kit_sb
theorem kt_zi {s : Str} : kitT (.str s) "int" = some false := by show kitB "str" "int" = _; exact kit_si
theorem kt_zt {s : Str} : kitT (.str s) "tuple" = some false := by show kitB "str" "tuple" = _; exact kit_st
theorem kt_zl {s : Str} : kitT (.str s) "list" = some false := by show kitB "str" "list" = _; exact kit_sl
theorem kt_zs {s : Str} : kitT (.str s) "str" = some true := by show kitB "str" "str" = _; exact kit_ss
theorem kt_zd {s : Str} : kitT (.str s) "dict" = some false := by show kitB "str" "dict" = _; exact kit_sd
end Dy

set_option Elab.async false
set_option linter.all false
set_option maxRecDepth 100000
namespace Dy
open PySem PySem.Spec PyProof.Rows L2
/-- min(a, b, c) of three ints -/
def oMin3 : List D → Option D
  | [.int i, .int j, .int k] => some (.int (if k < (if j < i then j else i) then k else (if j < i then j else i)))
  | _ => none
theorem w_min3 {i j k : Int} {P : D → Prop} (h : P (.int (if k < (if j < i then j else i) then k else (if j < i then j else i)))) : Got (oMin3 [.int i, .int j, .int k]) P := ⟨_, rfl, h⟩
end Dy

set_option Elab.async false
set_option linter.all false
set_option maxRecDepth 100000
namespace Dy
open PySem PySem.Spec PyProof.Rows L2
/-! ### refusals -/
/-- what is known of a class of refusals -/
structure ExcC (K : PySem.W.Frag) (mg : Str → Option Value) (c : Str) : Prop where
  ref : mg c = some (.ref (He.ga K c))
  q : PySem.W.excIn K (He.ga K c) He.veBase "ValueError.__new__" = true
  keep : PySem.W.keepIn K (.ref (He.ga K c)) = true
  sub : PySem.W.subIn K (.ref (He.ga K c)) (.type "BaseException") = some true
  ty : PySem.W.typeIn K (.ref (He.ga K c)) = some (.type "type")
def sRaise (c : Str) : REnv → SR := fun ρ => .err (.exc c [] []) ρ
theorem ss_raise0 {X : Cx} {W : WX} {c m : Str} {j : Nat} {p p2 pos' pos : Pos} (E : ExcC X.K X.mg c) (hc : X.calm = true) (tk : Takes X W) (hg : Gl X c := by rfl) (hdb : (c == ("__debug__" : Str)) = false := by decide) :
    SS X W (.Raise (some (.Call (.Name c p) [.Constant (.str m) j p2] [] pos')) none pos) (sRaise c) :=
  (ps_raise hc tk (pmk_own PySem.F.excBase_ValueError E.q E.ref E.keep (raises_own E.sub E.ty) hg hdb)).dy fun D σ H ⟨G, F, ρ, r, p⟩ =>
    p σ F H _ none (.refl _) .refl r ⟨c, [], [], [], rfl, rfl, rfl, RepL.nil, rfl⟩
theorem sp_raise {c : Str} {ρ : REnv} {N : REnv → Prop} {T : D → Prop} {E : D → REnv → Prop} (h : E (.exc c [] []) ρ) : (sRaise c ρ).wp N T E := h
end Dy

set_option Elab.async false
set_option linter.all false
set_option maxRecDepth 100000
namespace Dy
open PySem PySem.Spec PyProof.Rows L2
/-! ### own lists, read and kept as one's own -/
/-- a test over the slots with x frozen; behind it x is as it was -/
def uPeek (i : Nat) (u : REnv → R Bool) : REnv → R Bool := fun ρ => match u (eFreeze i ρ) with
  | .ok b => .ok b
  | _ => .bad
/-- the same of an expression that gives a whole number or a truth -/
def ePeek (i : Nat) (f : REnv → R D) : REnv → R D := fun ρ => match f (eFreeze i ρ) with
  | .ok (.int n) => .ok (.int n)
  | .ok (.bl b) => .ok (.bl b)
  | _ => .bad
theorem RepE.frz {K : PySem.W.Frag} {G F H : Hp} {σ : St} {ρ : REnv} (r : RepE K G F H σ ρ) (i : Nat) : ∃ F1, Same F F1 ∧ RepE K G F1 H σ (eFreeze i ρ) := by
  unfold eFreeze
  cases q : ρ[i]? with
  | none => exact ⟨F, .refl _, r⟩
  | some s =>
    cases s with
    | own ds =>
      obtain ⟨F', s1, n1, r1⟩ := r.freeze q
      exact ⟨F', s1, r1⟩
    | tree o =>
      obtain ⟨F', s1, n1, r1⟩ := r.freezeT q
      exact ⟨F', s1, r1⟩
    | pin w o =>
      obtain ⟨F', s1, n1, r1⟩ := r.freezeP q
      exact ⟨F', s1, r1⟩
    | _ => exact ⟨F, .refl _, r⟩
theorem st_peek {X : Cx} {W : WX} {c : Expr} {u : REnv → R Bool} (i : Nat) (h : ST X W c u) : ST X W c (uPeek i u) := PT.dy h fun σ H Q ⟨G, F, ρ, r, p⟩ => by
  obtain ⟨F1, s1, r1⟩ := r.frz i
  refine ⟨G, F1, _, r1, ?_⟩
  unfold uPeek at p
  cases e : u (eFreeze i ρ) with
  | ok b =>
    rw [e] at p
    exact fun v F2 H2 ex rel => p v F H2 ⟨.refl _, ex.h, s1.trans (ex.f.trans ex.s), fun a o h1 h2 => by rw [h2] at h1; cases h1⟩ rel
  | err d => rw [e] at p; exact p.elim
  | bad => rw [e] at p; exact p.elim
theorem se_peek {X : Cx} {W : WX} {c : Expr} {f : REnv → R D} (i : Nat) (h : SE X W c f) : SE X W c (ePeek i f) := PE.dy h fun σ H Q ⟨G, F, ρ, r, p⟩ => by
  obtain ⟨F1, s1, r1⟩ := r.frz i
  refine ⟨G, F1, _, r1, ?_⟩
  unfold ePeek at p
  split at p
  · rename_i n e
    rw [e]
    exact fun v F2 H2 ex rel => p v F H2 ⟨.refl _, ex.h, s1.trans (ex.f.trans ex.s), fun a o h1 h2 => by rw [h2] at h1; cases h1⟩ (by rw [rel.int_inv]; exact Rep.mk_int)
  · rename_i b e
    rw [e]
    exact fun v F2 H2 ex rel => p v F H2 ⟨.refl _, ex.h, s1.trans (ex.f.trans ex.s), fun a o h1 h2 => by rw [h2] at h1; cases h1⟩ (by rw [rel.bl_inv]; exact Rep.mk_bl)
  · exact p.elim
def Sc (d : D) (P : D → Prop) : Prop := (∃ n, d = D.int n ∧ P (D.int n)) ∨ ∃ b, d = D.bl b ∧ P (D.bl b)
theorem sc_int {n : Int} {P : D → Prop} (h : P (.int n)) : Sc (.int n) P := .inl ⟨n, rfl, h⟩
theorem sc_bl {b : Bool} {P : D → Prop} (h : P (.bl b)) : Sc (.bl b) P := .inr ⟨b, rfl, h⟩
section
variable {ρ : REnv} {i : Nat} {ds : List D} {E : D → Prop}
theorem wp_uPeek {u : REnv → R Bool} {P : Bool → Prop} (e : ρ[i]? = some (.own ds)) (h : Upd ρ i (.val (.lst ds)) fun ρ' => (u ρ').wp P NoE) : (uPeek i u ρ).wp P E := by
  unfold Upd at h
  obtain ⟨b, e1, hp⟩ := h.ok
  unfold uPeek eFreeze
  rw [e]
  show (match u (ρ.set i (.val (.lst ds))) with | .ok b => R.ok b | _ => .bad).wp P E
  rw [e1]; exact hp
theorem wp_ePeek {f : REnv → R D} {P : D → Prop} (e : ρ[i]? = some (.own ds)) (h : Upd ρ i (.val (.lst ds)) fun ρ' => (f ρ').wp (fun d => Sc d P) NoE) : (ePeek i f ρ).wp P E := by
  unfold Upd at h
  obtain ⟨d, e1, hp⟩ := h.ok
  have e2 : eFreeze i ρ = ρ.set i (.val (.lst ds)) := by unfold eFreeze; rw [e]
  unfold ePeek
  rw [e2, e1]
  rcases hp with ⟨n, rfl, hp⟩ | ⟨b, rfl, hp⟩
  · exact hp
  · exact hp
end
/-- x[e], x one's own list -/
def eIxO (i : Nat) (g : REnv → R D) : REnv → R D := fun ρ => match ρ[i]? with
  | some (.own ds) => (g ρ).bind fun d => match d with
    | .int k => .opt (L2.atI ds k)
    | _ => .bad
  | _ => .bad
theorem wp_ixO {ρ : REnv} {i : Nat} {ds : List D} {g : REnv → R D} {P E : D → Prop} (e : ρ[i]? = some (.own ds)) (h : (g ρ).wp (fun d => HasI d fun k => Got (L2.atI ds k) P) E) : (eIxO i g ρ).wp P E := by
  unfold eIxO
  rw [e]
  refine wp_bind (h.post ?_)
  rintro _ ⟨k, rfl, h⟩
  exact wp_opt h
end Dy

set_option Elab.async false
set_option linter.all false
set_option maxRecDepth 100000
set_option maxHeartbeats 2000000
namespace Dy
open PySem PySem.Spec PyProof.Rows L2
/-! ### an exception caught and kept -/
section
variable {X : Cx} {pins : List (Addr × Obj)} {σ : St} {H : Hp} {sI s : Shared} {B : Heap} {a : Addr} {cls : Value} {d : Option Addr}
theorem xo_ok {P : Program} {w : World} {h : Heap} {oe : Obj} {vs : Array Value} (he : h.get? a = some oe) (hz : Zc cls d oe) (hd : oe.data = .fields vs) : ObjOk P w H h a (xO cls a d) :=
  ⟨⟨oe, vs, he, hz, hd⟩, ⟨oe, he⟩, fun h1 h2 ⟨u, us, q, r⟩ k => ⟨u, us, k u q, r⟩⟩
/-- back on the ground, the exception's object tracked -/
theorem down (I : Inv X pins σ H sI) (nb : ∀ b o, sI.heap.get? b = some o → b ∉ frs X.stack → B.get? b = some o) (st : B.StaysIn s.heap) (up : sI.heap.UpToSlots s.heap) (os : s.os = sI.os) (ag : AllBare s.gens)
    (na : H a = none) (nB : B.get? a = none) (nf : a ∉ frs X.stack) {oe : Obj} {vs : Array Value} (he : s.heap.get? a = some oe) (hz : Zc cls d oe) (hd : oe.data = .fields vs) : Inv X pins σ (upd H a (xO cls a d)) s := by
  have nI : ∀ b o, sI.heap.get? b = some o → b ≠ a := fun b o e z => by
    subst z
    rw [nb _ o e nf] at nB
    cases nB
  have slots : ∀ b ∈ frs X.stack, ∀ o, sI.heap.get? b = some o → ∃ sl, s.heap.get? b = some { o with slots := sl } := fun b hb o e => by
    obtain ⟨_, o1, e1, hnf⟩ := I.stack.mem hb
    rw [e] at e1
    cases e1
    exact up b o e hnf
  have un : Un (frs X.stack) [] H (upd H a (xO cls a d)) sI.heap s.heap := {
    keep := fun b o e _ hb _ => st b o (nb b o e hb)
    slot := fun b o e _ hb _ => slots b hb o e
    free := fun b o e n _ => by rw [upd_ne (nI b o e)]; exact n
    there := fun b o e _ => by
      by_cases hb : b ∈ frs X.stack
      · obtain ⟨sl, q⟩ := slots b hb o e
        exact ⟨_, q⟩
      · exact ⟨o, st b o (nb b o e hb)⟩
    tups := fun b xs e => by rw [upd_ne (ne_of_none e na)]; exact e
    frzs := fun b o u e => by rw [upd_ne (ne_of_none e na)]; exact e
    tbls := fun b ps e => ⟨#[], by rw [upd_ne (ne_of_none e na), e]; simp⟩ }
  have hk : HOk X.prog X.w (upd H a (xO cls a d)) s.heap := fun b u e => by
    by_cases hb : b = a
    · subst hb
      rw [upd_same] at e
      cases e
      exact xo_ok he hz hd
    · rw [upd_ne hb] at e
      exact ((I.inGround nb).kept st b u e).stay (fun _ _ _ q => q) (fun c q => by rw [upd_ne (ne_of_none q na)]; exact q) fun c xs q => by rw [upd_ne (ne_of_none q na)]; exact q
  exact I.call' (ch := []) os un hk ag (fun _ z => nomatch z)
theorem toSuite (I : Inv X pins σ H s) : Inv (X.suite a (X.pn ++ pins)) [] σ H s :=
  ⟨I.ok.suite _ _, I.os, I.bare, I.base, I.loc, I.cell, I.free, I.freeC, fun p hp => I.pin p ((List.append_nil (X.pn ++ pins)).subst (motive := fun l => p ∈ l) hp), I.hok, I.len⟩
theorem ofSuite {pn' : List (Addr × Obj)} (ok : X.Ok) (I : Inv (X.suite a (X.pn ++ pins)) pn' σ H s) : Inv X pins σ H s :=
  ⟨ok, I.os, I.bare, I.base, I.loc, I.cell, I.free, I.freeC, fun p hp => I.pin p (List.mem_append_left pn' hp), I.hok, I.len⟩
end
/-- what a clause with a name wishes, the object tracked in its suite -/
def wKeep (K : PySem.W.Frag) (c : Value) (i : Nat) (ts : Value → Option Addr → TS) (Wo : WX) (D : Ends) : WX := fun cls d σ H =>
  ∃ b, PySem.W.exmOne K cls c = some b ∧
    (b = true → ∀ a, H a = none → ts cls d ⟨fun σ' H' => D.nx (σ'.set i none) H', D.rt, fun σ' H' => D.bk (σ'.set i none) H', fun σ' H' => D.ct (σ'.set i none) H'⟩ (σ.set i (some (.ref a))) (upd H a (xO cls a d))) ∧
    (b = false → Wo cls d σ H)
section
variable {X : Cx} {x n : Str} {c : Value} {i : Nat} {body suite : List Stmt} {b₀ : Stmt} {np pos pos' : Pos} {tb : WX → TS} {ts : Value → Option Addr → TS} {Wo : WX}
theorem ps_try_keep (hs : X.stack = X.env :: X.outer) (hf : X.env.frame = some X.env.locals) (nd : X.N.Nodup) (hi : X.N[i]? = some n) (hln : X.env.kindOf n = some .local) (hc : Names X x c) (tk : Takes X Wo)
    (hb : ∀ (W : WX) (pn : List (Addr × Obj)) (xe : Value → Shared → Prop), Takes (X.tr pn xe) W → PassesOwn (model X.prog X.w) X.A X.env xe → PSs (X.tr pn xe) body (tb W))
    (hsu : ∀ (a : Addr) (cls : Value) (d : Option Addr) (pn : List (Addr × Obj)), PSs (X.suite a pn) (b₀ :: suite) (ts cls d)) :
    PS X (.Try body [.ExceptHandler (some (.Name x np)) (some n) (b₀ :: suite) pos'] [] [] pos) (fun D σ H => tb (wKeep X.K c i ts Wo D) D σ H) := by
  refine ⟨fun pins s σ H D I h => wpAny_Try_except ?_⟩
  have ok := I.ok
  refine wpAny_mono ((hb (wKeep X.K c i ts Wo D) (X.pn ++ pins) _ (fun u s' air => ?_) PassesOwn.looking).run [] s σ H D (I.toTry _) h) (fun f s1 hsp => ?_) fun _ _ he => he
  · obtain ⟨a, B, sI, pins1, σ1, H1, cls, d, rfl, Ja, nb, up, sky, na, os, ag, b, eb, yes, no⟩ := air
    have J : Inv X pins σ1 H1 sI := Ja.ofTry ok
    refine Sky.land Zc.steady (by rw [ok.frames, hs]) hf (by rw [← hs]; exact sky) fun h1 fl1 up1 => ?_
    have nfr : ∀ {h : Heap}, HandSPX.FlyingZ B (X.env :: X.outer) a (Zc cls d) h → a ∉ frs X.stack := fun {h} fl hm => by
      obtain ⟨o, vs, e1, _, e2⟩ := fl.there
      rw [hs] at hm
      obtain ⟨_, o2, e3, q⟩ := fl.2.2.1.mem hm
      rw [e1] at e3
      cases e3
      exact q vs e2
    have tr : ∀ {h : Heap}, HandSPX.FlyingZ B (X.env :: X.outer) a (Zc cls d) h → s'.heap.UpToSlots h → Inv X pins σ1 (upd H1 a (xO cls a d)) { s' with heap := h } := fun {h} fl k => by
      obtain ⟨o, vs, e1, e2, e3⟩ := fl.there
      exact down J nb fl.1 (up.trans k) os ag na fl.2.1 (nfr fl) e1 e2 e3
    have S1 := tr fl1 up1
    obtain ⟨o1, vs1, g1, z1, d1⟩ := fl1.there
    refine wpAny_handleBy_cons (codeAny_handlers_test ?_) (fun q => by cases q)
    have LT : PySem.W.Looks (model X.prog X.w) h1 (typeOf (.ref a)) cls := fun A Q E s k q => wpAny_typeOf_ref (k _ _ g1) (z1.1.symm ▸ q)
    have LM := PySem.W.exm_one (M := model X.prog X.w) S1.kIn LT eb
    have T1 : Inv (X.suite a (X.pn ++ pins)) [] σ1 _ { s' with heap := h1 } := toSuite S1
    have test : ∀ {Q : Value → Shared → Prop} {E : Value → Shared → Prop}, Q c { s' with heap := h1 } → wpAny (model X.prog X.w) (X.A.mark (some (.ref a))) (eval (.Name x np) X.env) Q E { s' with heap := h1 } := fun {Q E} q => by
      rcases hc with ⟨y1, y2, y3 | ⟨y3, y4, y5⟩⟩
      · exact ld_glob (X := X.suite a _) T1 y1 y3 q y2
      · exact ld_blt (X := X.suite a _) T1 y1 y3 y4 q y5 y2
    refine test (LM.here ?_)
    cases b with
    | true =>
      refine codeAny_handlers_suite_as (HandSPX.lands_againZ fl1 fun h2 fl2 up2 => ?_)
      have T2 : Inv (X.suite a (X.pn ++ pins)) [] σ1 _ { s' with heap := h2 } := toSuite (tr fl2 (up1.trans up2))
      refine store_ok (X := X.suite a _) (v := .ref a) T2 nd hi (.inl hln) rfl (fun s3 T3 => ?_) (.inr hln)
      refine wpAny_mono ((hsu a cls d (X.pn ++ pins)).run [] s3 _ _ _ T3 (yes rfl a na)) (fun f s4 hsp => ?_) (fun _ _ z => z.elim)
      have leave : ∀ {σ4 : St} {H4 : Hp} {Q : Shared → Prop}, Inv (X.suite a (X.pn ++ pins)) [] σ4 H4 s4 → (∀ s5, Inv X pins (σ4.set i none) H4 s5 → Q s5) →
          wpAny (model X.prog X.w) X.A (do bindName X.env n .none; unbindBehindTheSuite X.env n pos') (fun _ s5 => Q s5) X.xe s4 := fun T4 hq => gone_ok (ofSuite ok T4) nd hi hln hq
      match f, hsp with
      | .next, ⟨σ4, H4, T4, q⟩ => exact leave T4 fun s5 J5 => ⟨_, _, J5, q⟩
      | .brk, ⟨σ4, H4, T4, q⟩ => exact leave T4 fun s5 J5 => ⟨_, _, J5, q⟩
      | .cont, ⟨σ4, H4, T4, q⟩ => exact leave T4 fun s5 J5 => ⟨_, _, J5, q⟩
      | .ret u, ⟨v4, σ4, H4, T4, r4, q⟩ => exact leave T4 fun s5 J5 => ⟨_, _, _, J5, r4, q⟩
    | false =>
      refine wpAny_handleBy_nil ?_
      obtain ⟨_, _, _, o2, vs2, T, oT, ts2, g2, z2, d2, w2, _⟩ := id fl1
      unfold PySem.passOn
      refine wpAny_bind (wpAny_field g2 d2 w2 ?_)
      rw [if_neg (by simp : ¬ ((Value.ref T == Value.none) = true))]
      have on : wpAny (model X.prog X.w) X.A (setFlight (.ref a) X.env.frame) (fun _ s4 => wpAny (model X.prog X.w) X.A (throw (.ref a) : Sem Flow) (SP X pins D) X.xe s4) X.xe { s' with heap := h1 } := by
        rw [hf]
        exact HandSPX.setFlight_upZ fl1 fun h4 held up4 => wpAny_throw (tk _ _ ⟨a, B, sI, pins, σ1, H1, cls, d, rfl, J, nb, (up.trans up1).trans up4, .inr (.inr (by rw [hs]; exact held)), na, os, ag, no rfl⟩)
      first
        | exact wpAny_bind (wpAny_pure (wpAny_bind on))
        | exact wpAny_bind on
  · match f, hsp with
    | .next, ⟨σ1, H1, J, q⟩ => exact wpAny_execs_nil ⟨σ1, H1, J.ofTry ok, q⟩
    | .brk, ⟨σ1, H1, J, q⟩ => exact ⟨σ1, H1, J.ofTry ok, q⟩
    | .cont, ⟨σ1, H1, J, q⟩ => exact ⟨σ1, H1, J.ofTry ok, q⟩
    | .ret u, ⟨v, σ1, H1, J, r, q⟩ => exact ⟨v, σ1, H1, J.ofTry ok, r, q⟩
end
end Dy
/-! ### what is asked of the classes of refusals -/
namespace Dy
open PySem PySem.Spec PyProof.Rows L2
/-- the one class beneath the other, by their names (all stand under YardError) -/
def isaC (c y : Str) : Bool := c == y || y == ("YardError" : Str)
def exD (K : PySem.W.Frag) (C : Addr) : Bool :=
  He.eqO (PySem.W.findIn K (.ref C) "__getattribute__") (some (some (.builtin "BaseException.__getattribute__"))) && (He.eqO (PySem.W.findIn K (.ref C) "__getattr__") (some none) &&
  (decide (PySem.W.subIn K (.ref C) (.type "BaseException") = some true) && (PySem.W.hasDictIn K C && (He.eqO (PySem.W.findIn K (.ref C) "__class__") (some (some (.builtin "object.__class__"))) &&
  (He.eqO (PySem.W.specialIn K (.builtin "object.__class__") "__get__") (some (some (.builtin "getset_descriptor.__get__"))) && (decide (PySem.W.takesIn K (.builtin "object.__class__") = some true) &&
  decide (PySem.W.mroIn K C (.type "object") = some true)))))))
theorem exD_ok {K : PySem.W.Frag} {C : Addr} (h : exD K C = true) : L2.ExcC K C := by
  obtain ⟨h1, h⟩ := He.ba h
  obtain ⟨h2, h⟩ := He.ba h
  obtain ⟨h3, h⟩ := He.ba h
  obtain ⟨h4, h⟩ := He.ba h
  obtain ⟨h5, h⟩ := He.ba h
  obtain ⟨h6, h⟩ := He.ba h
  obtain ⟨h7, h8⟩ := He.ba h
  exact ⟨He.eqO_ok h1, He.eqO_ok h2, of_decide_eq_true h3, h4, He.eqO_ok h5, He.eqO_ok h6, of_decide_eq_true h7, of_decide_eq_true h8⟩
/-- ks: the classes raised; cs: those asked after -/
def exB (ks cs : List Str) (K : PySem.W.Frag) : Bool := ks.all fun c => exD K (He.ga K c) && (decide (PySem.W.kitOne K (.ref (He.ga K c)) (.type "ValueError") = some true) &&
  cs.all fun y => decide (PySem.W.exmOne K (.ref (He.ga K c)) (.ref (He.ga K y)) = some (isaC c y)) && decide (PySem.W.kitOne K (.ref (He.ga K c)) (.ref (He.ga K y)) = some (isaC c y)))
structure ExF (K : PySem.W.Frag) (mg : Str → Option Value) (ks cs : List Str) : Prop where
  glo : ∀ y ∈ cs, mg y = some (.ref (He.ga K y))
  d : ∀ c ∈ ks, L2.ExcC K (He.ga K c)
  ve : ∀ c ∈ ks, PySem.W.kitOne K (.ref (He.ga K c)) (.type "ValueError") = some true
  exm : ∀ c ∈ ks, ∀ y ∈ cs, PySem.W.exmOne K (.ref (He.ga K c)) (.ref (He.ga K y)) = some (isaC c y)
  isi : ∀ c ∈ ks, ∀ y ∈ cs, PySem.W.kitOne K (.ref (He.ga K c)) (.ref (He.ga K y)) = some (isaC c y)
theorem exB_ok {ks cs : List Str} {K : PySem.W.Frag} {mg : Str → Option Value} (h : exB ks cs K = true) (g : ∀ y ∈ cs, mg y = some (.ref (He.ga K y))) : ExF K mg ks cs := by
  have one : ∀ c ∈ ks, L2.ExcC K (He.ga K c) ∧ PySem.W.kitOne K (.ref (He.ga K c)) (.type "ValueError") = some true ∧
      ∀ y ∈ cs, PySem.W.exmOne K (.ref (He.ga K c)) (.ref (He.ga K y)) = some (isaC c y) ∧ PySem.W.kitOne K (.ref (He.ga K c)) (.ref (He.ga K y)) = some (isaC c y) := fun c hc => by
    have h1 := List.all_eq_true.mp h c hc
    obtain ⟨h2, h1⟩ := He.ba h1
    obtain ⟨h3, h1⟩ := He.ba h1
    refine ⟨exD_ok h2, of_decide_eq_true h3, fun y hy => ?_⟩
    obtain ⟨h4, h5⟩ := He.ba (List.all_eq_true.mp h1 y hy)
    exact ⟨of_decide_eq_true h4, of_decide_eq_true h5⟩
  exact ⟨g, fun c hc => (one c hc).1, fun c hc => (one c hc).2.1, fun c hc y hy => ((one c hc).2.2 y hy).1, fun c hc y hy => ((one c hc).2.2 y hy).2⟩
/-! ### try .. except C as e -/
def keepS (i : Nat) (h : REnv → SR) (e : D) (ρ : REnv) : SR := match h (ρ.set i (.val e)) with
  | .next ρ2 => .next (ρ2.set i .un)
  | .ret v => .ret v
  | .err _ _ => .bad
  | .bad => .bad
def catchS (ks : List Str) (y : Str) (i : Nat) (h : REnv → SR) (ρ : REnv) : D → SR
  | .exc c fs xs => if ks.contains c = true then (if isaC c y = true then keepS i h (.exc c fs xs) ρ else .err (.exc c fs xs) ρ) else .bad
  | _ => .bad
def sTryAs (ks : List Str) (y : Str) (i : Nat) (g h : REnv → SR) : REnv → SR := fun ρ => match g ρ with
  | .err e ρ' => catchS ks y i h ρ' e
  | u => u
section
variable {X : Cx} {W : WX} {y n : Str} {i : Nat} {body suite : List Stmt} {b₀ : Stmt} {np pos pos' : Pos} {g h : REnv → SR} {ks cs : List Str}
theorem ss_tryAs (E : ExF X.K X.mg ks cs) (nd : X.N.Nodup) (tk : Takes X W)
    (hb : ∀ (W : WX) (pn : List (Addr × Obj)) (xe : Value → Shared → Prop), Takes (X.tr pn xe) W → PassesOwn (model X.prog X.w) X.A X.env xe → SSs (X.tr pn xe) W body g)
    (hsu : ∀ (a : Addr) (pn : List (Addr × Obj)), SSs (X.suite a pn) (fun _ _ _ _ => False) (b₀ :: suite) h)
    (hs : X.stack = X.env :: X.outer := by rfl) (hf : X.env.frame = some X.env.locals := by rfl) (hi : X.N[i]? = some n := by rfl) (hln : X.env.kindOf n = some .local := by rfl)
    (hg : Gl X y := by rfl) (hy : y ∈ cs := by decide) (hdb : (y == ("__debug__" : Str)) = false := by decide) :
    SS X W (.Try body [.ExceptHandler (some (.Name y np)) (some n) (b₀ :: suite) pos'] [] [] pos) (sTryAs ks y i g h) := by
  refine (ps_try_keep (tb := fun W' => rs X.K W' g) (ts := fun _ _ => rs X.K (fun _ _ _ _ => False) h) (Wo := W) hs hf nd hi hln ⟨hg, hdb, .inl (E.glo y hy)⟩ tk hb fun a _ _ pn => hsu a pn).dy fun D σ H ⟨G, F, ρ, r, p⟩ => ⟨G, F, ρ, r, ?_⟩
  unfold sTryAs at p
  cases e : g ρ with
  | next ρ' =>
    rw [e] at p
    exact p
  | ret v =>
    rw [e] at p
    exact p
  | bad =>
    rw [e] at p
    exact p
  | err u ρ' =>
    rw [e] at p
    have p : PostS X.K W D G F (catchS ks y i h ρ' u) := p
    intro σ1 F1 H1 cls dd s1 n1 r1 xd
    obtain ⟨c, fs, xs, vs, rfl, rfl, hl, hv, hd⟩ := xd
    have p : PostS X.K W D G F (if ks.contains c = true then (if isaC c y = true then keepS i h (.exc c fs xs) ρ' else .err (.exc c fs xs) ρ') else .bad) := p
    by_cases hk : ks.contains c = true
    · rw [if_pos hk] at p
      have hk' : c ∈ ks := by simpa using hk
      refine ⟨isaC c y, E.exm c hk' y hy, fun yes a na => ?_, fun no => ?_⟩
      · rw [if_pos yes] at p
        have ex : Ext F1 H1 (upd F1 a (xO (.ref (He.ga X.K c)) a dd)) (upd H1 a (xO (.ref (He.ga X.K c)) a dd)) := Ext.new r1.f na
        have r2 := r1.ext ex
        have rp : Rep X.K (upd F1 a (xO (.ref (He.ga X.K c)) a dd)) (.exc c fs xs) (.ref a) := by
          simp only [Rep]
          refine ⟨a, dd, vs, rfl, upd_same, hl, RepL.mono ex.f _ _ hv, ?_⟩
          cases dd with
          | none => exact hd
          | some d => exact ex.f _ _ hd
        refine ⟨G, _, _, r2.setV rp, ?_⟩
        have p := PostS.ext (s1.trans ex.f) (n1.trans (ex.newG r1.g)) p
        unfold keepS at p
        cases e2 : h (ρ'.set i (.val (.exc c fs xs))) with
        | next ρ2 =>
          rw [e2] at p
          exact fun σ' F' H' s2 n2 r3 => p _ F' H' s2 n2 r3.unset
        | ret v =>
          rw [e2] at p
          exact p
        | err _ _ =>
          rw [e2] at p
          exact p.elim
        | bad =>
          rw [e2] at p
          exact p.elim
      · rw [if_neg (by simp [no])] at p
        exact p σ1 F1 H1 _ dd s1 n1 r1 ⟨c, fs, xs, vs, rfl, rfl, hl, hv, hd⟩
    · rw [if_neg hk] at p
      exact p.elim
/-- a class of refusals, as a value -/
theorem se_gcls {c : Str} {p : Pos} (hm : X.mg c = some (.ref (He.ga X.K c))) (hg : Gl X c := by rfl) (hd : (c == ("__debug__" : Str)) = false := by decide) : SE X W (.Name c p) (eC (.cls c)) :=
  se_gref hg hm (fun F => by simp only [Rep]) hd
end
/-! ### isinstance of a kept refusal -/
section
variable {K : PySem.W.Frag} {x D : Addr} {ox : Obj} {od : Option Obj}
theorem xk_find (T : L2.ExcC K D) : PySem.W.findObj K D od "__class__" = some (.bind (.builtin "getset_descriptor.__get__") (.builtin "object.__class__")) := by
  obtain ⟨cd, hc, _⟩ := PySem.W.any_some T.hd
  unfold PySem.W.findObj
  simp only [hc, T.ha, Option.bind_some, T.hn, T.ht]
theorem xk_class {prog : Program} {w : World} {A : Around} {E : Value → Shared → Prop} {Q : Option Value → Shared → Prop} {hp : Heap} {g : Array GenState} {dr : Drawn} {t : Nat} {os : OsState} (T : L2.ExcC K D) (Y : K.In hp) (J : PySem.W.InstAt hp x ox D od) (q : Q (some (.ref D)) ⟨hp, g, dr, t + 1, os⟩) :
    wpAny (model prog w) A (getAttr? (.ref x) "__class__") Q E ⟨hp, g, dr, t, os⟩ := by
  have l0 := J.type (M := model prog w)
  have l1 := PySem.W.looks_findIn (M := model prog w) Y T.hg
  have l2 := PySem.W.looks_findIn (M := model prog w) Y T.hk
  have l3 := PySem.W.looks_find (M := model prog w) Y J (xk_find T)
  have ls : PySem.W.Looks (model prog w) hp (isInstance (.ref x) (.type "BaseException")) true := l0.andThen (PySem.W.looks_subIn Y T.hs)
  have b2 : (Value.builtin "BaseException.__getattribute__" == Value.builtin "object.__getattribute__") = false := by decide +kernel
  have b1 : (onTheHeap (Value.ref D) && Value.builtin "BaseException.__getattribute__" == Value.builtin "object.__getattribute__") = false := (congrArg (fun z => onTheHeap (Value.ref D) && z) b2).trans (Bool.and_false _)
  unfold getAttr? getAttrBy? getAttrBy
  refine wpAny_bind (wpAny_mkText (wpAny_bind (wpAny_attempt (wpAny_holding (wpAny_bind (l0.at (wpAny_bind (l1.at ?_))))))))
  show wpAny _ _ (ite ((onTheHeap (Value.ref D) && Value.builtin "BaseException.__getattribute__" == Value.builtin "object.__getattribute__") = true) _ _) _ _ _
  rw [if_neg (by rw [b1]; decide)]
  unfold getAttrByItsOwn hookBefore
  refine wpAny_bind (by
    rw [if_pos (show onTheHeap (Value.ref D) = true from rfl)]
    refine l2.at (wpAny_bind (wpAny_attempt (wpAny_holding ?_)))
    unfold callGetattribute
    rw [if_neg (show ¬ ((false && onTheHeap (Value.builtin "BaseException.__getattribute__")) = true) from Bool.false_ne_true)]
    unfold boundAndCalled
    rw [PySem.F.excAttr_ValueError.ga.bind (.ref x)]
    refine wpAny_bind (wpAny_pure ?_)
    show wpAny _ _ (call (Value.builtin "BaseException.__getattribute__") [Value.ref x, Value.str "__class__" t]) _ _ _
    refine wpAny_call (codeAny_call_builtin PySem.F.excAttr_ValueError.ga.plain PySem.F.entry_bexc_ga (@PySem.W.check_slot (model prog w) _ _ ⟨hp, g, dr, t + 1, os⟩ "BaseException.__getattribute__" "BaseException" "__getattribute__" (.ref x)
      [.str "__class__" t] [] _ (by decide +kernel) (by decide +kernel) ls (PySem.F.args_bexc_ga (.ref x) (.str "__class__" t)) ?_))
    unfold Builtin.«object.__getattribute__»
    refine wpAny_bind (wpAny_of_eq (a := (Value.ref x, [Value.str "__class__" t])) (by first | rfl | (simp only [slotArgs]; rfl)) (wpAny_bind (wpAny_pure (wpAny_bind (l0.at (wpAny_bind (l3.at ?_)))))))
    show wpAny _ _ (holding [Value.builtin "object.__class__"] (call (Value.builtin "getset_descriptor.__get__") [Value.builtin "object.__class__", Value.ref x, Value.ref D]) >>= ret) _ _ _
    refine wpAny_bind (wpAny_holding (wpAny_call (PySem.W.class_get (s := ⟨hp, g, dr, t + 1, os⟩) (ox := ox) (od := od) Y J T.hm (wpAny_pure ?_))))
    show wpAny _ _ (handedOut (.ref D)) _ _ _
    rw [PySem.W.handedOut_of (v := .ref D) rfl]
    first
      | exact wpAny_pure (wpAny_pure q)
      | exact wpAny_pure q
      | exact wpAny_pure (wpAny_bind (wpAny_pure (wpAny_pure q))))
theorem xk_kit (T : L2.ExcC K D) : PySem.W.KitX K (.ref x) (.ref D) (fun h => PySem.W.InstAt h x ox D od) where
  ty := fun _ _ _ J => J.type
  it := fun M h Y _ => by
    obtain ⟨cd, hc, _⟩ := PySem.W.any_some T.hd
    unfold PySem.W.clsIn at hc
    split at hc
    · rename_i c1 d1 cd1 sl1 ho
      exact fun A' Q' E' s' k q => by
        unfold isType loadHead
        exact wpAny_bind (wpAny_loadPart (k _ _ (Y _ _ ho)) (wpAny_pure q))
    · cases hc
  ne := fun h tp dd its n sl Y htp => Bool.eq_false_iff.mpr fun q => by
    obtain ⟨cd, hc, _⟩ := PySem.W.any_some T.hd
    obtain rfl : D = tp := Value.ref.inj (beq_iff_eq.mp q)
    unfold PySem.W.clsIn at hc
    split at hc
    · rename_i c1 d1 cd1 sl1 ho
      have z := (Y _ _ ho).symm.trans htp
      cases z
    · cases hc
  ca := fun {_ _ _ _ _ s} Y J k => by
    obtain ⟨hp, g, dr, t, os⟩ := s
    exact xk_class T Y J k
end
section
variable {X : Cx} {pins : List (Addr × Obj)} {σ : St} {H : Hp} {s : Shared} {a C : Addr} {dd : Option Addr}
/-- where a refusal lies -/
theorem xk_at (I : Inv X pins σ H s) (ha : H a = some (xO (.ref C) a dd)) (hd : ∀ d, dd = some d → ∃ fs, H d = some (.xd fs)) : ∃ ox od, PySem.W.InstAt s.heap a ox C od := by
  have z : ObjOk X.prog X.w H s.heap a (.ext fun h => ∃ (oe : Obj) (vs : Array Value), h.get? a = some oe ∧ Zc (.ref C) dd oe ∧ oe.data = .fields vs) := I.hok a _ ha
  obtain ⟨⟨oe, vs, e1, ⟨e2, e3⟩, e4⟩, _⟩ := z
  cases dd with
  | none => exact ⟨oe, none, e1, e2, by unfold PySem.W.notCls; rw [e4], by rw [e3]; trivial⟩
  | some d =>
    obtain ⟨fs, ed⟩ := hd d rfl
    have hx : ObjOk X.prog X.w H s.heap d (.xd fs) := I.hok d _ ed
    obtain ⟨mA, hns, _⟩ := hx
    obtain ⟨o, ho, _⟩ := lookIn_ns hns
    exact ⟨oe, some o, e1, e2, by unfold PySem.W.notCls; rw [e4], by rw [e3]; exact ho⟩
def rIsK (K : PySem.W.Frag) : List V → Hp → VK → Prop := fun xs H Q => ∃ (a C : Addr) (dd : Option Addr) (x : V) (b : Bool), xs = [.ref a, x] ∧ L2.ExcC K C ∧ H a = some (xO (.ref C) a dd) ∧ (∀ d, dd = some d → ∃ fs, H d = some (.xd fs)) ∧
  ((∃ cv, ClsV x cv ∧ PySem.W.kitOne K (.ref C) cv = some b) ∨ ∃ tp cs us, x = .ref tp ∧ SqT K H tp cs ∧ Paired ClsV cs us ∧ PySem.W.kitAny K (.ref C) us = some b) ∧ Q (.bl b) H
theorem call_isK : CallR X (.builtin "isinstance") (rIsK X.K) := fun pins s σ H xs us Q I r h => by
  obtain ⟨a, C, dd, x, b, rfl, T, ha, hd, k, q⟩ := h
  obtain ⟨u1, u2, rfl, r1, r2⟩ := vals2 r
  obtain rfl : u1 = Value.ref a := r1
  obtain ⟨ox, od, J⟩ := xk_at I ha hd
  rcases k with ⟨cv, kc, e⟩ | ⟨tp, cs, us, rfl, hT, kc, e⟩
  · obtain rfl := kc.eq r2
    exact PySem.W.kia_one (xk_kit T) I.kIn J e (fun z => nomatch z) fun tk => ⟨.bl b, H, I.tok tk, rfl, q⟩
  · obtain rfl : u2 = Value.ref tp := r2
    obtain ⟨its, rv, ⟨o, h1, h2, n, h3⟩, _⟩ := I.tuple hT
    obtain rfl := ClsV.all kc rv
    obtain ⟨oc, odd, dt, sl⟩ := o
    simp only at h2 h3
    subst h2 h3
    exact PySem.W.kia_tup (xk_kit T) I.kIn J h1 e (fun z => nomatch z) fun tk => ⟨.bl b, H, I.tok tk, rfl, q⟩
end
def clsNs : List D → Option (List Str)
  | [] => some []
  | .cls y :: r => (clsNs r).map (y :: ·)
  | _ => none
def oIsX (ks cs : List Str) : List D → Option D
  | [.exc c _ _, .cls y] => if ks.contains c = true ∧ cs.contains y = true then some (.bl (isaC c y)) else none
  | [.exc c _ _, .ty n] => if ks.contains c = true ∧ n = "ValueError" then some (.bl true) else none
  | [.exc c _ _, .tup ys] => (clsNs ys).bind fun ns => if ks.contains c = true ∧ ns.all cs.contains = true then some (.bl (ns.any (isaC c))) else none
  | _ => none
theorem clsNs_rep {K : PySem.W.Frag} {F : Hp} {c : Str} {ks cs : List Str} {mg : Str → Option Value} (E : ExF K mg ks cs) (hc : c ∈ ks) : ∀ {ys : List D} {vs : List V} {ns : List Str}, RepL K F ys vs → clsNs ys = some ns → ns.all cs.contains = true →
    ∃ us, Paired ClsV vs us ∧ PySem.W.kitAny K (.ref (He.ga K c)) us = some (ns.any (isaC c))
  | [], vs, ns, r, e, _ => by
    cases e
    simp only [RepL] at r
    subst r
    exact ⟨[], .nil, kitAny_nil⟩
  | y :: ys, vs, ns, r, e, al => by
    cases y with
    | cls y =>
      have e : (clsNs ys).map (y :: ·) = some ns := e
      cases q : clsNs ys with
      | none => rw [q] at e; cases e
      | some ms =>
        rw [q] at e
        cases e
        simp only [RepL] at r
        obtain ⟨v, rr, rfl, h1, h2⟩ := r
        simp only [Rep] at h1
        subst h1
        rw [List.all_cons, Bool.and_eq_true] at al
        obtain ⟨us, k, ka⟩ := clsNs_rep E hc h2 q al.2
        refine ⟨_ :: us, .cons (.own _) k, kitAny_cons (E.isi c hc y (by simpa using al.1)) (fun z => ?_) fun z => ?_⟩
        · rw [List.any_cons, z, Bool.false_or]; exact ka
        · rw [List.any_cons, z, Bool.true_or]
    | _ => cases e
theorem d_isx {X : Cx} {ks cs : List Str} (E : ExF X.K X.mg ks cs) : CallR X (.builtin "isinstance") (rIsK X.K) ∧ OpN X.K (rIsK X.K) (oIsX ks cs) := ⟨call_isK, fun F H xs as d Q s ra e q => by
  unfold oIsX at e
  split at e
  · rename_i c fs zs y
    split at e
    · rename_i hh
      cases e
      simp only [RepL, Rep] at ra
      obtain ⟨v, r1, rfl, ⟨a, dd, ws, rfl, ha, hl, hr, hd⟩, v2, r2, rfl, rfl, rfl⟩ := ra
      refine ⟨a, _, dd, _, _, rfl, E.d c (by simpa using hh.1), s _ _ ha, fun d ed => ?_, .inl ⟨_, .own _, E.isi c (by simpa using hh.1) y (by simpa using hh.2)⟩, now q s Rep.mk_bl⟩
      subst ed
      exact ⟨_, s _ _ hd⟩
    · cases e
  · rename_i c fs zs n
    split at e
    · rename_i hh
      obtain ⟨h1, rfl⟩ := hh
      cases e
      simp only [RepL, Rep] at ra
      obtain ⟨v, r1, rfl, ⟨a, dd, ws, rfl, ha, hl, hr, hd⟩, v2, r2, rfl, rfl, rfl⟩ := ra
      refine ⟨a, _, dd, _, _, rfl, E.d c (by simpa using h1), s _ _ ha, fun d ed => ?_, .inl ⟨_, .ty _, E.ve c (by simpa using h1)⟩, now q s Rep.mk_bl⟩
      subst ed
      exact ⟨_, s _ _ hd⟩
    · cases e
  · rename_i c fs zs ys
    cases en : clsNs ys with
    | none => rw [en] at e; cases e
    | some ns =>
      rw [en, Option.bind_some] at e
      split at e
      · rename_i hh
        cases e
        simp only [RepL, Rep] at ra
        obtain ⟨v, r1, rfl, ⟨a, dd, ws, rfl, ha, hl, hr, hd⟩, v2, r2, rfl, ⟨tp, tvs, rfl, ht, htr⟩, rfl⟩ := ra
        have hc : c ∈ ks := by simpa using hh.1
        obtain ⟨us, k, ka⟩ := clsNs_rep E hc htr en hh.2
        refine ⟨a, _, dd, _, _, rfl, E.d c hc, s _ _ ha, fun d ed => ?_, .inr ⟨tp, tvs, us, rfl, Same.seqT s ht, k, ka⟩, now q s Rep.mk_bl⟩
        subst ed
        exact ⟨_, s _ _ hd⟩
      · cases e
  · cases e⟩
/-! ### the field of a kept refusal -/
section
variable {X : Cx} {W : WX} {e : Expr} {f : REnv → R D} {pos : Pos} {n : Str} {te : TE}
def tXat (K : PySem.W.Frag) (n : Str) (te : TE) : TE := fun σ H Q => te σ H fun x H1 => ∃ (a C d : Addr) (fs : List (Str × V)) (v : V), x = .ref a ∧ L2.ExcC K C ∧ PySem.W.findIn K (.ref C) n = some none ∧ H1 a = some (xO (.ref C) a (some d)) ∧
  H1 d = some (.xd fs) ∧ fs.lookup n = some v ∧ Q v H1
theorem pe_xat (he : PE X e te) (hb : attributeBase e n X.env (eval e X.env) = eval e X.env := by rfl) : PE X (.Attribute e n pos) (tXat X.K n te) :=
  ⟨fun pins s σ H Q I h => attr_of hb (thn (he.run pins s σ H _ I h) fun u s1 ⟨x, H1, I1, rx, a, C, d, fs, v, ex, T, hno, ea, ed, lk, q⟩ => by
    subst ex
    obtain rfl : u = Value.ref a := rx
    have z : ObjOk X.prog X.w H1 s1.heap a (.ext fun h => ∃ (oe : Obj) (vs : Array Value), h.get? a = some oe ∧ Zc (.ref C) (some d) oe ∧ oe.data = .fields vs) := I1.hok a _ ea
    obtain ⟨⟨oe, vs, e1, ⟨e2, e3⟩, e4⟩, _⟩ := z
    have hx : ObjOk X.prog X.w H1 s1.heap d (.xd fs) := I1.hok d _ ed
    obtain ⟨mA, hns, hr⟩ := hx
    obtain ⟨od, ho, hl⟩ := lookIn_ns hns
    obtain ⟨y, hy, ry⟩ := RelO.some_of (v := v) (o := mA n) (lk ▸ hr n)
    have J : PySem.W.InstAt s1.heap a oe C (some od) := ⟨e1, e2, by unfold PySem.W.notCls; rw [e4], by rw [e3]; exact ho⟩
    exact HandSPX.exc_get I1.kIn J T.hg T.hk T.hs (PySem.W.findObj_own T.hd hno rfl ((hl n).trans (congrArg some hy))) (handed_of ry) ⟨v, H1, I1.tok _, ry, q⟩)⟩
def oAt (ks : List Str) (n : Str) : D → Option D
  | .exc c fs xs => if ks.contains c = true then (fs.zip xs).lookup n else none
  | _ => none
theorem lookup_rep {K : PySem.W.Frag} {F : Hp} : ∀ {fs : List Str} {xs : List D} {vs : List V} {d : D}, RepL K F xs vs → (fs.zip xs).lookup n = some d → ∃ v, (fs.zip vs).lookup n = some v ∧ Rep K F d v
  | [], xs, vs, d, r, e => by simp at e
  | g :: fs, [], vs, d, r, e => by simp at e
  | g :: fs, x :: xs, vs, d, r, e => by
    simp only [RepL] at r
    obtain ⟨v, rr, rfl, h1, h2⟩ := r
    rw [List.zip_cons_cons, List.lookup_cons] at e ⊢
    cases hq : (n == g) with
    | true =>
      rw [hq] at e
      cases e
      exact ⟨v, rfl, h1⟩
    | false =>
      rw [hq] at e
      exact lookup_rep h2 e
theorem se_xat {ks cs : List Str} (E : ExF X.K X.mg ks cs) (na : ∀ c ∈ ks, PySem.W.findIn X.K (.ref (He.ga X.K c)) n = some none) (he : SE X W e f) (hb : attributeBase e n X.env (eval e X.env) = eval e X.env := by rfl) :
    SE X W (.Attribute e n pos) (eUn (oAt ks n) f) :=
  (pe_xat he hb).dy fun σ H Q ⟨G, F, ρ, r, p⟩ => ⟨G, F, ρ, r, Post.bind p fun d v F1 H1 _ e1 r1 p1 => by
    cases q : oAt ks n d with
    | none => rw [q] at p1; exact p1.elim
    | some y =>
      rw [q] at p1
      cases d with
      | exc c fs xs =>
        have q : (if ks.contains c = true then (fs.zip xs).lookup n else none) = some y := q
        by_cases hk : ks.contains c = true
        · rw [if_pos hk] at q
          simp only [Rep] at r1
          obtain ⟨a, dd, vs, rfl, ha, hl, hr, hd⟩ := r1
          cases dd with
          | none =>
            subst hd
            simp at q
          | some d =>
            obtain ⟨v, lk, rv⟩ := lookup_rep hr q
            exact ⟨a, _, d, _, v, rfl, E.d c (by simpa using hk), na c (by simpa using hk), e1.s _ _ ha, e1.s _ _ hd, lk, p1 v F1 H1 (.refl e1.s) rv⟩
        · rw [if_neg hk] at q
          cases q
      | _ => cases q⟩
end
/-! ### the head's facts, with one more asked -/
def obsE (fa : List He.Fa) (fn : List He.DefD) (ex : PySem.W.Frag → Bool) (K : PySem.W.Frag) : He.AlD := ((He.obsD fa fn K).1 && ex K, (He.obsD fa fn K).2)
def obsEG (n : Nat) (fa : List He.Fa) (fn : List He.DefD) (ex : PySem.W.Frag → Bool) (g : Addr → Option Obj) : He.AlD := obsE fa fn ex (He.frG g (PySem.cStatics :: He.asD g n))
def SaysE (fa : List He.Fa) (fn : List He.DefD) (ex : PySem.W.Frag → Bool) (K : PySem.W.Frag) : Prop := obsE fa fn ex K = He.valD fn
theorem SaysE.d {fa : List He.Fa} {fn : List He.DefD} {ex : PySem.W.Frag → Bool} {K : PySem.W.Frag} (c : SaysE fa fn ex K) : He.SaysD fa fn K := by
  have h : obsE fa fn ex K = He.valD fn := c
  have h1 := congrArg Prod.fst h
  have h2 := congrArg Prod.snd h
  exact Prod.ext (He.ba h1).1 h2
theorem SaysE.ex {fa : List He.Fa} {fn : List He.DefD} {ex : PySem.W.Frag → Bool} {K : PySem.W.Frag} (c : SaysE fa fn ex K) : ex K = true := (He.ba (show ((He.obsD fa fn K).1 && ex K) = true from congrArg (fun z : He.AlD => z.1) (show obsE fa fn ex K = He.valD fn from c))).2
def hookE (n : Nat) (fa : List He.Fa) (fn : List He.DefD) (ex : PySem.W.Frag → Bool) : PySem.W.Hook where
  α := He.AlD
  obs := fun s => obsEG n fa fn ex s.heap.get?
  val := fun _ => He.valD fn
  says := fun _ h => ∃ K : PySem.W.Frag, K.In h ∧ SaysE fa fn ex K
  of := fun _ _ e => ⟨_, He.frG_in, e⟩
  keeps := fun _ _ _ ⟨K, hK, c⟩ k => ⟨K, PySem.W.Frag.In.keeps hK k, c⟩
theorem obsEG_eq {n : Nat} {fa : List He.Fa} {fn : List He.DefD} {ex : PySem.W.Frag → Bool} {g : Addr → Option Obj} {s : Shared} (h : ∀ a, g a = s.heap.get? a) : obsEG n fa fn ex g = (hookE n fa fn ex).obs s := by
  have e : g = s.heap.get? := funext h
  rw [e] <;> rfl
section
variable {ρ : REnv} {N : REnv → Prop} {T : D → Prop} {E : D → REnv → Prop} {g h : REnv → SR} {ks cs : List Str} {y : Str} {i : Nat}
theorem R.wp.weak {α : Type} {x : R α} {P : α → Prop} {E : D → Prop} (h : x.wp P NoE) : x.wp P E := h.imp (fun _ q => q) fun _ z => z.elim
theorem sp_tryAs (h1 : (g ρ).wp N T fun e ρ' => (catchS ks y i h ρ' e).wp N T E) : (sTryAs ks y i g h ρ).wp N T E := by
  unfold sTryAs
  cases e : g ρ with
  | next ρ' => rw [e] at h1; exact h1
  | ret d => rw [e] at h1; exact h1
  | err u ρ' => rw [e] at h1; exact h1
  | bad => rw [e] at h1; exact h1
theorem sp_catch {c : Str} {fs : List Str} {xs : List D} (hk : ks.contains c = true) (hy : isaC c y = true) (h1 : Upd ρ i (.val (.exc c fs xs)) fun ρ1 => (h ρ1).wp (fun ρ2 => Upd ρ2 i .un N) T fun _ _ => False) : (catchS ks y i h ρ (.exc c fs xs)).wp N T E := by
  show SR.wp (if ks.contains c = true then (if isaC c y = true then keepS i h (.exc c fs xs) ρ else .err (.exc c fs xs) ρ) else .bad) N T E
  rw [if_pos hk, if_pos hy]
  have h1 : (h (ρ.set i (.val (.exc c fs xs)))).wp (fun ρ2 => Upd ρ2 i .un N) T fun _ _ => False := h1
  unfold keepS
  cases e : h (ρ.set i (.val (.exc c fs xs))) with
  | next ρ' => rw [e] at h1; exact h1
  | ret d => rw [e] at h1; exact h1
  | err u ρ' => rw [e] at h1; exact h1.elim
  | bad => rw [e] at h1; exact h1.elim
end
section
variable {ks cs ns : List Str} {c y : Str} {fs : List Str} {xs ys : List D} {P : D → Prop} {b : Bool}
theorem w_isxT (e : clsNs ys = some ns) (h1 : (ks.contains c && ns.all cs.contains) = true) (h2 : ns.any (isaC c) = b) (h : P (.bl b)) : Got (oIsX ks cs [.exc c fs xs, .tup ys]) P := by
  refine ⟨.bl b, ?_, h⟩
  obtain ⟨h3, h4⟩ := He.ba h1
  show (clsNs ys).bind _ = _
  rw [e, Option.bind_some, if_pos ⟨h3, h4⟩, h2]
theorem w_isxC (h1 : (ks.contains c && cs.contains y) = true) (h2 : isaC c y = b) (h : P (.bl b)) : Got (oIsX ks cs [.exc c fs xs, .cls y]) P := by
  refine ⟨.bl b, ?_, h⟩
  obtain ⟨h3, h4⟩ := He.ba h1
  show ite _ _ _ = _
  rw [if_pos ⟨h3, h4⟩, h2]
theorem w_isxV (h1 : ks.contains c = true) (h : P (.bl true)) : Got (oIsX ks cs [.exc c fs xs, .ty "ValueError"]) P := by
  refine ⟨.bl true, ?_, h⟩
  show ite _ _ _ = _
  rw [if_pos ⟨h1, rfl⟩]
theorem w_xat {n : Str} {d : D} (h1 : ks.contains c = true) (h2 : (fs.zip xs).lookup n = some d) (h : P d) : Got (oAt ks n (.exc c fs xs)) P := by
  refine ⟨d, ?_, h⟩
  show ite _ _ _ = _
  rw [if_pos h1, h2]
end
end Dy

set_option Elab.async false
set_option linter.all false
set_option maxRecDepth 100000
set_option maxHeartbeats 2000000
/-! A dict is no tuple. -/
namespace Dy
open PySem PySem.Spec PyProof.Rows PySem.SeqAt
open AutoSeq1 (wpAny_loadPart')
open MeetsSeq MeetsSeq2 MeetsSeq3 SeqRoads2
open L2
end Dy

set_option Elab.async false
set_option linter.all false
set_option maxRecDepth 100000
set_option maxHeartbeats 2000000
/-! min of a list of truths that are all True; max, min of a list of whole numbers. -/
namespace Dy
open PySem PySem.Spec PyProof.Rows L2
/-! ### max, min of whole numbers -/
def topI (f : Int → Int → Int) : List Int → Option Int
  | [] => none
  | i :: r => some (r.foldl f i)
def oBest (f : Int → Int → Int) : List D → Option D
  | [.lst xs] => (intsD xs).bind fun ns => (topI f ns).map .int
  | _ => none
theorem fold_max : ∀ (r : List Int) (i : Int), (r.foldl max i ∈ i :: r) ∧ ∀ y ∈ i :: r, y ≤ r.foldl max i
  | [], i => ⟨by simp, by simp⟩
  | j :: r, i => by
    obtain ⟨h1, h2⟩ := fold_max r (max i j)
    refine ⟨?_, fun y hy => ?_⟩
    · rw [List.foldl_cons]
      rcases List.mem_cons.mp h1 with e | e
      · rw [e]
        by_cases hij : i ≤ j
        · rw [Int.max_eq_right hij]; simp
        · rw [Int.max_eq_left (by omega)]; simp
      · exact List.mem_cons_of_mem _ (List.mem_cons_of_mem _ e)
    · rw [List.foldl_cons]
      have hm := h2 (max i j) List.mem_cons_self
      rcases List.mem_cons.mp hy with rfl | hy
      · omega
      · rcases List.mem_cons.mp hy with rfl | hy
        · omega
        · exact h2 y (List.mem_cons_of_mem _ hy)
theorem d_maxL {X : Cx} (hc : X.calm = true) : CallR X (.builtin "max") (rMax X.K) ∧ OpN X.K (rMax X.K) (oBest max) := ⟨cr_max hc, fun F H xs as d Q s ra e q => by
  unfold oBest at e
  split at e
  · rename_i ys
    cases en : intsD ys with
    | none => rw [en] at e; cases e
    | some ns =>
      rw [en, Option.bind_some] at e
      cases ns with
      | nil => cases e
      | cons i r =>
        cases e
        simp only [RepL] at ra
        obtain ⟨v, rr, rfl, h1, rfl⟩ := ra
        obtain ⟨a, vs, rfl, h2, h3⟩ := h1.lst_inv
        rw [intsD_rep en h3] at h2
        obtain ⟨m1, m2⟩ := fold_max r i
        refine ⟨a, i :: r, rfl, Same.seq s h2, Nat.succ_pos _, fun m hm ha => ?_⟩
        have e : m = r.foldl max i := Int.le_antisymm (m2 m hm) (ha _ m1)
        subst e
        exact now q s Rep.mk_int
  · cases e⟩
theorem w_best {f : Int → Int → Int} {xs : List D} {ns : List Int} {m : Int} {P : D → Prop} (e : intsD xs = some ns) (e2 : topI f ns = some m) (h : P (.int m)) : Got (oBest f [.lst xs]) P := ⟨_, by show (intsD xs).bind _ = _; rw [e, Option.bind_some, e2]; rfl, h⟩
abbrev oMax1 : List D → Option D := oBest max
theorem d_max1 {X : Cx} (hc : X.calm = true) : CallR X (.builtin "max") (rMax X.K) ∧ OpN X.K (rMax X.K) oMax1 := d_maxL hc
end Dy

set_option Elab.async false
set_option linter.all false
set_option maxRecDepth 100000
/-! The end, with the script's size. -/
namespace Dy
open PySem PySem.Spec PyProof.Rows L2
end Dy

set_option Elab.async false
set_option linter.all false
set_option maxRecDepth 100000
set_option maxHeartbeats 2000000
/-! Refusals with a field: classes whose own __init__ hands on to the class above and sets one field. -/
namespace Dy
open PySem PySem.Spec PyProof.Rows L2
/-! ### what is asked of such a class, and of the class above -/
def yrB (K : PySem.W.Frag) (Y : Addr) : Bool := He.eqO (PySem.W.specialIn K (.ref Y) "__getattribute__") (some (some (.builtin "type.__getattribute__"))) && (PySem.W.readsIn K Y (.type "type") && (match PySem.W.findCls K (.ref Y) (.type "type") "__init__" with
  | some (.val v) => decide (v = .builtin "ValueError.__init__")
  | _ => false))
structure YrC (K : PySem.W.Frag) (Y : Addr) : Prop where
  sp : PySem.W.specialIn K (.ref Y) "__getattribute__" = some (some (.builtin "type.__getattribute__"))
  rd : PySem.W.readsIn K Y (.type "type") = true
  fd : PySem.W.findCls K (.ref Y) (.type "type") "__init__" = some (.val (.builtin "ValueError.__init__"))
theorem yrB_ok {K : PySem.W.Frag} {Y : Addr} (h : yrB K Y = true) : YrC K Y := by
  obtain ⟨h1, h2⟩ := He.ba h
  obtain ⟨h2, h3⟩ := He.ba h2
  refine ⟨He.eqO_ok h1, h2, ?_⟩
  split at h3
  · rename_i v e
    rw [e, of_decide_eq_true h3]
  · cases h3
def oxB (K : PySem.W.Frag) (C : Addr) : Bool := (match K.lookup C with
  | some ⟨.type "type", _, .cls cd, sl⟩ => (match cd.mro, sl.toList with
    | .ref C' :: bm, [_, _, _, _, some (.builtin n), _] => C' == C && (n == "ValueError.__new__" && (!cd.hasDel && (cd.hasDict && PySem.HandSPX.refsVE bm)))
    | _, _ => false)
  | _ => false) && (He.eqO (PySem.W.findIn K (.ref C) "__setattr__") (some (some (.builtin "object.__setattr__"))) && (decide (PySem.W.subIn K (.ref C) (.type "BaseException") = some true) &&
    (decide (PySem.W.typeIn K (.ref C) = some (.type "type")) && PySem.W.keepIn K (.ref C))))
theorem oxB_ok {K : PySem.W.Frag} {C : Addr} (h : oxB K C = true) : OexC K C := by
  obtain ⟨q, h⟩ := He.ba h
  obtain ⟨h1, h⟩ := He.ba h
  obtain ⟨h2, h⟩ := He.ba h
  obtain ⟨h3, h4⟩ := He.ba h
  refine ⟨?_, He.eqO_ok h1, of_decide_eq_true h2, of_decide_eq_true h3, h4⟩
  split at q
  · rename_i dd cd sl ho
    split at q
    · rename_i C' bm k0 k1 k2 k3 n k5 hm hs
      obtain ⟨q1, q⟩ := He.ba q
      obtain ⟨q2, q⟩ := He.ba q
      obtain ⟨q3, q⟩ := He.ba q
      obtain ⟨q4, q5⟩ := He.ba q
      obtain rfl := beq_iff_eq.mp q1
      obtain rfl := beq_iff_eq.mp q2
      obtain ⟨nm, bs, mro, ns, qn, hd, sn, sub, ab, col, del⟩ := cd
      dsimp only at hm q3 q4
      have q3 : del = false := by simpa using q3
      subst hm q3 q4
      have hsl : sl = #[k0, k1, k2, k3, some (.builtin "ValueError.__new__"), k5] := by
        obtain ⟨l⟩ := sl
        simp only at hs
        rw [hs]
      subst hsl
      exact ⟨nm, qn, ns, bs, bm, sn, sub, ab, col, dd, k0, k1, k2, k3, k5, ho, q5⟩
    · cases q
  · cases q
/-! ### Y.__init__(self, ..) -/
section
variable {X : Cx} {o e : Expr} {es : List Expr} {to te : TE} {ta : TA} {f : Str} {p p' p1 p2 pos : Pos}
theorem pe_yinit {Y : Addr} {y : Str} {pl : Sem Bool} (hg : Gl X y) (gm : X.mg y = some (.ref Y)) (T : YrC X.K Y) (ha : PA X (e :: es) ta)
    (hc : eval (.Call (.Attribute (.Name y p1) "__init__" p2) (e :: es) [] pos) X.env = (do
      let ov ← eval (.Name y p1) X.env
      standAt p2.atName
      let (f, first) ← holding [ov] (getMethod ov "__init__" pl)
      callWith pos f first (backTo pos (starEach (e :: es) X.env)) (backToKw pos (keywordEach [] X.env))) := by rfl)
    (hdb : (y == ("__debug__" : Str)) = false := by decide) (he : starEach (e :: es) X.env = (false, eval e X.env) :: starEach es X.env := by rfl) (hpl : (backTo pos (starEach es X.env)).any (·.1) = false := by rfl) :
    PE X (.Call (.Attribute (.Name y p1) "__init__" p2) (e :: es) [] pos) (tVeI X.K ta) := ⟨fun pins s σ H Q I h => by
  refine PySem.W.methodCall_KW (ld_glob I hg gm ?_ hdb) hc
  refine PySem.W.method_cls I.kIn T.sp (PySem.W.cls_value I.kIn T.rd T.fd (by decide +kernel) ?_)
  show wpAny _ _ (callWith pos (Value.builtin "ValueError.__init__") [] (backTo pos (starEach (e :: es) X.env)) []) _ _ _
  refine PyProof.Rows.callWith_method1 (thn (ha.run pos pins _ σ H _ (I.tok _) h) fun us s1 ⟨vs, H1, I1, r1, a, C, ws, ev, hl, T2, ea, q⟩ => ?_) he hpl
  subst ev
  cases r1 with
  | @cons _ u0 _ ur ra rw2 =>
    obtain rfl : u0 = Value.ref a := ra
    exact oinit_ok T2 I1 ea (by rw [← Paired.length rw2, sizeLine_eq]; omega) fun s2 J => ⟨.non, H1, J, rfl, q⟩⟩
end
/-- the i-th statement of a class's body -/
def clsStmt (s : Stmt) (i : Nat) : Stmt := match s with
  | .ClassDef _ _ _ b _ _ _ _ _ _ _ => b.getD i (.Pass ⟨0, 0, 0, 0⟩)
  | _ => .Pass ⟨0, 0, 0, 0⟩
def spI (K : PySem.W.Frag) (f : Str) : Sp := fun vs H Q _ => ∃ (a C : Addr) (y : V), vs = [.ref a, y] ∧ OexC K C ∧ PySem.W.findIn K (.ref C) f = some none ∧ H a = some (exo a C none) ∧
  ∀ dx, H dx = none → dx ≠ a → Q .non (upd (upd H dx (exd dx [(f, y)])) a (exo a C (some dx)))
/-- such a class: its __init__ keeps what is said of it -/
structure InC (P : Program) (w : World) (K : PySem.W.Frag) (mg : Str → Option Value) (base : Heap) (c f : Str) : Prop where
  fn : ∃ (fI : Addr) (fd : FuncData) (ps : List Str), FnOk P w K mg base (L2.CX P w) 1 fI fd ps (spI K f) ∧ Binds K fd ps [] ∧ PySem.W.findIn K (.ref (He.ga K c)) "__init__" = some (some (.ref fI)) ∧ PySem.W.typeIn K (.ref fI) = some (.type "function")
  ox : OexC K (He.ga K c)
  no : PySem.W.findIn K (.ref (He.ga K c)) f = some none
  gl : mg c = some (.ref (He.ga K c))
section
variable {P : Program} {w : World} {K : PySem.W.Frag} {mg : Str → Option Value} {base : Heap} {f : Addr} {fd : FuncData} {qual : Str} {params : Arguments} {body : List Stmt} {scope : Scope} {Y : Addr} {p : Str}
theorem init_ok {N : List Str} {fl : Str} (Fn : FunD K "__init__" qual params body scope [] [] f fd) (S : FnScope N ["self", p] scope)
    (hb : ∀ (cdv : Value) (A : Around) (outer : List Env) (s : Shared) (H : Hp) (E : XK), PSs (CxD P w K mg base N qual scope f cdv A outer s H E) body (fun D σ H => ∃ (a C : Addr) (y : V), σ[0]? = some (some (.ref a)) ∧ σ[1]? = some (some y) ∧ OexC K C ∧ PySem.W.findIn K (.ref C) fl = some none ∧ H a = some (exo a C none) ∧
      ∀ dx, H dx = none → dx ≠ a → D.nx σ (upd (upd H dx (exd dx [(fl, y)])) a (exo a C (some dx))))) : FnOk P w K mg base (L2.CX P w) 1 f fd ["self", p] (spI K fl) := by
  refine Fn.ok S (fun vs H Q E ⟨a, C, y, e, _⟩ => by rw [e]; rfl) fun cdv A outer s H vs Q E hr ⟨a, C, y, e, h1, h2, h3, h4⟩ => ⟨_, hb cdv A outer s H E, ?_⟩
  subst e
  exact ⟨a, C, y, rfl, rfl, h1, h2, h3, h4⟩
theorem init_body {X : Cx} {y m fl : Str} {j : Nat} {p0 p1 p2 p3 p4 p5 p6 p7 p8 p9 : Pos} (hg : Gl X y) (gm : X.mg y = some (.ref Y)) (T : YrC X.K Y) (h0 : X.N[0]? = some ("self" : Str)) (h1 : X.N[1]? = some p) (v0 : Vis X.env.scope "self") (v1 : Vis X.env.scope p)
    (d1 : (p == ("__debug__" : Str)) = false) (d2 : (p == ("__classdict__" : Str)) = false) (hdb : (y == ("__debug__" : Str)) = false) {pl : Sem Bool}
    (hc : eval (.Call (.Attribute (.Name y p1) "__init__" p2) [.Name "self" p3, .Constant (.str m) j p4] [] p0) X.env = (do
      let ov ← eval (.Name y p1) X.env
      standAt p2.atName
      let (f, first) ← holding [ov] (getMethod ov "__init__" pl)
      callWith p0 f first (backTo p0 (starEach [.Name "self" p3, .Constant (.str m) j p4] X.env)) (backToKw p0 (keywordEach [] X.env))))
    (he : starEach [.Name "self" p3, .Constant (.str m) j p4] X.env = (false, eval (.Name "self" p3) X.env) :: starEach [.Constant (.str m) j p4] X.env) (he2 : starEach [.Constant (.str m) j p4] X.env = (false, eval (.Constant (.str m) j p4) X.env) :: starEach [] X.env)
    (hpl : (backTo p0 (starEach [.Constant (.str m) j p4] X.env)).any (·.1) = false)
    (hs : swapsWith (.Call (.Attribute (.Name y p1) "__init__" p2) [.Name "self" p3, .Constant (.str m) j p4] [] p0) none p5.line X.env = pure false)
    (hs2 : swapsWith (.Name p p8) (some (.Attribute (.Name "self" p6) fl p7)) p9.line X.env = pure false) :
    PSs X [.Expr (.Call (.Attribute (.Name y p1) "__init__" p2) [.Name "self" p3, .Constant (.str m) j p4] [] p0) p5, .Assign [.Attribute (.Name "self" p6) fl p7] (.Name p p8) p9]
      (fun D σ H => ∃ (a C : Addr) (y : V), σ[0]? = some (some (.ref a)) ∧ σ[1]? = some (some y) ∧ OexC X.K C ∧ PySem.W.findIn X.K (.ref C) fl = some none ∧ H a = some (exo a C none) ∧
        ∀ dx, H dx = none → dx ≠ a → D.nx σ (upd (upd H dx (exd dx [(fl, y)])) a (exo a C (some dx)))) :=
  (pss_cons (ps_expr (pe_yinit hg gm T (pa_cons (pe_var h0 v0) (pa_cons pe_str pa_nil he2) he) hc hdb he hpl) hs) (pss_one (ps_ost (pe_var h0 v0) (pe_var h1 v1 d1 d2) hs2))).dy fun D σ H ⟨a, C, y, e0, e1, T1, no, ea, q⟩ =>
    ⟨.ref a, e0, a, C, [.str m], rfl, by simp, T1, ea, y, e1, .ref a, e0, a, C, rfl, T1, no, .inl ⟨ea, q⟩⟩
end
/-! ### raise C(e) -/
def sRaiseF (c f : Str) (t : REnv → R (List D)) : REnv → SR := fun ρ => (t ρ).toS ρ fun ds => match ds with
  | [d] => .err (.exc c [f] [d]) ρ
  | _ => .bad
theorem cx_no {P : Program} {w : World} {l : List Env} {H : Hp} {s : Shared} {e : Value} {s' : Shared} (h : L2.CX P w l H s (fun _ _ _ => False) e s') : False := by
  obtain ⟨_, _, _, _, _, _, _, _, _, _, _, _, z⟩ := h
  exact z
section
variable {X : Cx} {W : WX} {c f : Str} {e : Expr} {t : REnv → R (List D)} {p pos' pos : Pos}
theorem ss_raiseF (I : InC X.prog X.w X.K X.mg X.base c f) (hc : X.calm = true) (tk : Takes X W) (hr : Room 2 X.A) (ha : SA X W [e] t) (hg : Gl X c := by rfl) (hdb : (c == ("__debug__" : Str)) = false := by decide)
    (he : starEach [e] X.env = (false, eval e X.env) :: starEach [] X.env := by rfl) (hpl : (backTo pos' (starEach [] X.env)).any (·.1) = false := by rfl) :
    SS X W (.Raise (some (.Call (.Name c p) [e] [] pos')) none pos) (sRaiseF c f t) := by
  obtain ⟨fI, fd, ps, Fo, hb, i1, i2⟩ := I.fn
  refine (ps_raise hc tk (pmk_oex (es := []) I.ox i1 i2 Fo hr hb .nil (fun _ _ _ _ _ _ _ z => (cx_no z).elim) hg I.gl ha hdb he hpl)).dy fun D σ H ⟨G, F, ρ, r, p⟩ => ⟨G, F, ρ, r, PostS.toS r p fun ds vs F1 H1 _ ex rp r1 p1 => ?_⟩
  match ds, rp, p1 with
  | [d], rp, p1 =>
    have p1 : PostS X.K W D G F1 (.err (.exc c [f] [d]) ρ) := p1
    simp only [RepL] at rp
    obtain ⟨v, rr, rfl, rv, rfl⟩ := rp
    refine ⟨by simp, fun a na => ⟨a, _, v, rfl, I.ox, I.no, upd_same, fun dx hdx hne => ?_⟩⟩
    have hdx1 : H1 dx = none := by rw [upd_ne hne] at hdx; exact hdx
    have eH : upd (L2.del (upd (upd (upd H1 a (exo a (He.ga X.K c) none)) dx (exd dx [(f, v)])) a (exo a (He.ga X.K c) (some dx))) a) dx (.xd [(f, v)]) = upd H1 dx (.xd [(f, v)]) := by
      funext b
      by_cases hb : b = dx
      · subst hb
        rw [upd_same, upd_same]
      · rw [upd_ne hb, upd_ne hb]
        by_cases hba : b = a
        · subst hba
          rw [L2.del_same, na]
        · rw [L2.del_ne hba, upd_ne hba, upd_ne hb, upd_ne hba]
    refine ⟨rfl, dx, [(f, v)], upd_same, by rw [upd_ne hne, upd_same], hdx1, ?_⟩
    rw [eH]
    have ex2 : Ext F1 H1 (upd F1 dx (.xd [(f, v)])) (upd H1 dx (.xd [(f, v)])) := Ext.new r1.f hdx1
    exact p1 σ _ _ _ _ ex2.f (ex2.newG r1.g) (r1.ext ex2) ⟨c, [f], [d], [v], rfl, rfl, rfl, RepL.cons (Rep.mono ex2.f _ _ rv) RepL.nil, upd_same⟩
  | [], _, p1 => exact p1.elim
  | _ :: _ :: _, _, p1 => exact p1.elim
end
section
variable {ρ : REnv} {N : REnv → Prop} {T : D → Prop} {E : D → REnv → Prop} {t : REnv → R (List D)} {c f : Str}
theorem sp_raiseF (h : (t ρ).wp (fun ds => ∃ d, ds = [d] ∧ E (.exc c [f] [d]) ρ) fun e => E e ρ) : (sRaiseF c f t ρ).wp N T E := wp_toS (h.post fun ds ⟨d, e, q⟩ => by subst e; exact q)
end
/-! ### the head's facts of such a class -/
def fxB (K : PySem.W.Frag) (c f : Str) : Bool := oxB K (He.ga K c) && (He.eqO (PySem.W.findIn K (.ref (He.ga K c)) f) (some none) && (He.eqO (PySem.W.findIn K (.ref (He.ga K c)) "__init__") (some (some (.ref (He.ma K (He.ga K c) "__init__")))) &&
  decide (PySem.W.typeIn K (.ref (He.ma K (He.ga K c) "__init__")) = some (.type "function"))))
structure FxC (K : PySem.W.Frag) (c f : Str) : Prop where
  ox : OexC K (He.ga K c)
  no : PySem.W.findIn K (.ref (He.ga K c)) f = some none
  fi : PySem.W.findIn K (.ref (He.ga K c)) "__init__" = some (some (.ref (He.ma K (He.ga K c) "__init__")))
  ft : PySem.W.typeIn K (.ref (He.ma K (He.ga K c) "__init__")) = some (.type "function")
theorem fxB_ok {K : PySem.W.Frag} {c f : Str} (h : fxB K c f = true) : FxC K c f := by
  obtain ⟨h1, h⟩ := He.ba h
  obtain ⟨h2, h⟩ := He.ba h
  obtain ⟨h3, h4⟩ := He.ba h
  exact ⟨oxB_ok h1, He.eqO_ok h2, He.eqO_ok h3, of_decide_eq_true h4⟩
end Dy

set_option Elab.async false
set_option linter.all false
set_option maxRecDepth 100000
set_option maxHeartbeats 2000000
/-! A list with something in it is not the empty one, whatever is in it. -/
namespace Dy
open PySem PySem.Spec PyProof.Rows PySem.SeqAt L2
end Dy

set_option Elab.async false
set_option linter.all false
set_option maxRecDepth 100000
/-! ### texts: join, f-strings, str(int) -/
namespace Dy
open PySem PySem.Spec PyProof.Rows L2
def txtsD : List D → Option (List Str)
  | [] => some []
  | .str x :: r => (txtsD r).map (x :: ·)
  | _ :: _ => none
theorem txtsD_map : ∀ xs : List Str, txtsD (xs.map D.str) = some xs
  | [] => rfl
  | x :: r => by
    show (txtsD (r.map D.str)).map (x :: ·) = _
    rw [txtsD_map r]
    rfl
theorem txts_rep {K : PySem.W.Frag} {F : Hp} : ∀ {ds : List D} {vs : List V} {xs : List Str}, txtsD ds = some xs → RepL K F ds vs → vs = xs.map V.str
  | [], vs, xs, e, r => by
    cases e
    simp only [RepL] at r
    exact r
  | d :: ds, vs, xs, e, r => by
    unfold txtsD at e
    split at e
    · rename_i heq; cases heq
    · rename_i x r' heq
      cases heq
      simp only [RepL] at r
      obtain ⟨v, rest, rfl, h1, h2⟩ := r
      cases q : txtsD ds with
      | none => rw [q] at e; cases e
      | some ys =>
        rw [q] at e
        cases e
        rw [h1.str_inv, txts_rep q h2]
        rfl
    · cases e
def oJoin : D → D → Option D
  | .str a, .lst ds => match txtsD ds with
    | some ys => if (ys.map (·.length)).sum + ys.length * a.length ≤ 16777216 then some (.str (Txt.join a ys)) else none
    | none => none
  | _, _ => none
def oStrI : List D → Option D
  | [.int i] => if i.natAbs.log2 < 1920 then some (.str (toString i)) else none
  | _ => none
def eJoin (f g : REnv → R D) : REnv → R D := fun ρ => (f ρ).bind fun a => match a with
  | .str x => (g ρ).bind fun b => .opt (oJoin (.str x) b)
  | _ => .bad
section
variable {X : Cx} {W : WX} {o e : Expr} {f g : REnv → R D} {ap xp pos : Pos}
theorem se_join (ho : SE X W o f) (he : SE X W e g)
    (hbm : ∀ {te : TE} {ta : TA}, PE X o te → PA X [e] ta → PE X (.Call (.Attribute o "join" ap) [e] [] xp) (tBM X.K "str" (fun x xs H Q => ∃ a p, ∃ ys : List Str, x = .str a ∧ xs = [.ref p] ∧ (SqL X.K H p (ys.map V.str) ∨ SqT X.K H p (ys.map V.str)) ∧
    (ys.map (·.length)).sum + ys.length * a.length ≤ 16777216 ∧ Q (.str (Txt.join a ys)) H) te ta) := by exact fun h1 h2 => pe_bm PySem.F.plainAttrs_str PySem.F.slot_str_join PySem.F.type_str_join mt_join h1 h2)
    (hse : starEach (e :: []) X.env = (false, eval e X.env) :: starEach [] X.env := by rfl) : SE X W (.Call (.Attribute o "join" ap) [e] [] xp) (eJoin f g) :=
  (hbm ho (pa_cons he pa_nil hse)).dy fun σ H Q ⟨G, F, ρ, r, p⟩ => ⟨G, F, ρ, r, Post.bind p fun d v F1 H1 _ ex1 r1 p1 => by
    cases d with
    | str x =>
      have e0 := r1.str_inv
      subst e0
      refine ⟨rfl, G, F1, ρ, r.ext ex1, Post.bind p1 fun d2 w F2 H2 _ ex2 r2 p2 => ?_⟩
      obtain ⟨z, e1, q⟩ := Post.opt p2
      cases d2 with
      | lst ds =>
        cases hy : txtsD ds with
        | none => simp only [oJoin, hy] at e1; cases e1
        | some ys =>
          simp only [oJoin, hy] at e1
          by_cases hz : (ys.map (·.length)).sum + ys.length * x.length ≤ 16777216
          · rw [if_pos hz] at e1
            cases e1
            obtain ⟨a, vs, rfl, h1, h2⟩ := r2.lst_inv
            have e3 := txts_rep hy h2
            subst e3
            exact ⟨x, a, ys, rfl, rfl, .inl (Same.seq ex2.s h1), hz, q _ F2 H2 (.refl ex2.s) Rep.mk_str⟩
          · rw [if_neg hz] at e1; cases e1
      | _ => cases e1
    | _ => exact p1.elim⟩
theorem d_strI : CallR X (.type "str") (fun xs H Q => ∃ i, xs = [.int i] ∧ i.natAbs.log2 < 1920 ∧ Q (.str (toString i)) H) ∧ OpN X.K (fun xs H Q => ∃ i, xs = [.int i] ∧ i.natAbs.log2 < 1920 ∧ Q (.str (toString i)) H) oStrI := ⟨call_str_int, fun F H xs as d Q s ra e q => by
  unfold oStrI at e
  split at e
  · split at e
    · rename_i i hz
      cases e
      obtain ⟨v, rfl, h⟩ := ra.one
      exact ⟨i, by rw [h.int_inv], hz, now q s Rep.mk_str⟩
    · cases e
  · cases e⟩
end
/-- a part of a text -/
def oSlS : D → Option Int → Option Int → Option D
  | .str z, lo, hi => if z.length ≤ sizeLine then some (.str (cutS z lo hi)) else none
  | _, _, _ => none
def eSlS (f : REnv → R D) (lo hi : REnv → R (Option Int)) : REnv → R D := fun ρ => (f ρ).bind fun a => (lo ρ).bind fun l => (hi ρ).bind fun h => .opt (oSlS a l h)
theorem se_sliceS {X : Cx} {W : WX} {e : Expr} {lo hi : Option Expr} {f : REnv → R D} {fl fh : REnv → R (Option Int)} {p2 pos : Pos} (he : SE X W e f) (hl : SO X W lo fl) (hh : SO X W hi fh) : SE X W (.Subscript e (.Slice lo hi none p2) pos) (eSlS f fl fh) :=
  (pe_slice sl_str he hl hh).dy fun σ H Q ⟨G, F, ρ, r, p⟩ => ⟨G, F, ρ, r, Post.bind p fun d v F1 H1 _ ex1 rp p1 => ⟨G, F1, ρ, r.ext ex1, Post.bind p1 fun l l' F2 H2 _ ex2 e2 p2 => ⟨G, F2, ρ, (r.ext ex1).ext ex2, Post.bind p2 fun h h' F3 H3 _ ex3 e3 p3 => by
    subst e2
    subst e3
    obtain ⟨d', e4, q⟩ := Post.opt p3
    have rp3 := Rep.mono (ex2.f.trans ex3.f) _ _ rp
    cases d with
    | str z =>
      simp only [oSlS] at e4
      by_cases hz : z.length ≤ sizeLine
      · rw [if_pos hz] at e4
        cases e4
        exact ⟨z, rp3.str_inv, hz, q _ F3 H3 (.refl ex3.s) Rep.mk_str⟩
      · rw [if_neg hz] at e4; cases e4
    | _ => cases e4⟩⟩⟩
section
variable {ρ : REnv} {f g : REnv → R D} {P E : D → Prop}
theorem wp_slS {lo hi : REnv → R (Option Int)} (h : (f ρ).wp (fun a => (lo ρ).wp (fun l => (hi ρ).wp (fun h => ∃ z, a = .str z ∧ z.length ≤ sizeLine ∧ P (.str (cutS z l h))) E) E) E) : (eSlS f lo hi ρ).wp P E := by
  refine wp_bind (h.post fun a h1 => wp_bind (h1.post fun l h2 => wp_bind (h2.post ?_)))
  rintro h ⟨z, rfl, hz, h3⟩
  exact wp_opt ⟨_, if_pos hz, h3⟩
theorem wp_join (h : (f ρ).wp (fun a => ∃ x, a = .str x ∧ (g ρ).wp (fun b => ∃ ys : List Str, b = .lst (ys.map .str) ∧ (ys.map (·.length)).sum + ys.length * x.length ≤ 16777216 ∧ P (.str (Txt.join x ys))) E) E) : (eJoin f g ρ).wp P E := by
  refine wp_bind (h.post ?_)
  rintro _ ⟨x, rfl, h1⟩
  refine wp_bind (h1.post ?_)
  rintro _ ⟨ys, rfl, hz, h2⟩
  refine wp_opt ⟨_, ?_, h2⟩
  unfold oJoin
  simp only [txtsD_map, if_pos hz]
theorem w_strI {i : Int} (hz : i.natAbs.log2 < 1920) (h : P (.str (toString i))) : Got (oStrI [.int i]) P := ⟨_, if_pos hz, h⟩
end
end Dy

set_option Elab.async false
set_option linter.all false
set_option maxRecDepth 100000
set_option maxHeartbeats 2000000
/-! dict of a list of pairs, its reading. -/
namespace Dy
open PySem PySem.Spec PyProof.Rows L2
/-! ### dict(pairs) -/
theorem valV_none_of {kvs : List (Key × V)} {k : Key} (h : k ∉ kvs.map (·.1)) : valV kvs k = none := by
  induction kvs with
  | nil => rfl
  | cons p r ih =>
    rw [List.map_cons, List.mem_cons, not_or] at h
    rw [valV_neg (fun e => h.1 e.symm)]
    exact ih h.2
theorem mergeK_nodup : ∀ (more acc : List (Key × V)), ((acc ++ more).map (·.1)).Nodup → mergeK acc more = acc ++ more
  | [], acc, _ => by simp [mergeK]
  | kv :: r, acc, h => by
    have h1 : kv.1 ∉ acc.map (·.1) := by
      rw [List.map_append, List.map_cons, List.nodup_append] at h
      intro hm
      exact h.2.2 _ hm _ List.mem_cons_self rfl
    have e : mergeK acc (kv :: r) = mergeK (putK acc kv.1 kv.2) r := rfl
    rw [e, putK_new _ (valV_none_of h1)]
    have := mergeK_nodup r (acc ++ [(kv.1, kv.2)]) (by rw [List.append_assoc]; exact h)
    rw [this, List.append_assoc]
    rfl
section
variable {K : PySem.W.Frag} {F H : Hp}
theorem dct_val : ∀ {ks : List Key} {ds : List D} {vs : List V} {k : Key} {d : D}, RepL K F ds vs → ((ks.zip ds).find? fun p => decide (p.1 = k)).map (·.2) = some d → ∃ v, valV (ks.zip vs) k = some v ∧ Rep K F d v
  | [], ds, vs, k, d, r, e => by simp at e
  | c :: ks, [], vs, k, d, r, e => by simp at e
  | c :: ks, x :: ds, vs, k, d, r, e => by
    simp only [RepL] at r
    obtain ⟨v, rest, rfl, h1, h2⟩ := r
    rw [List.zip_cons_cons] at e ⊢
    by_cases h : c = k
    · rw [List.find?_cons_of_pos (by simpa using h)] at e
      cases e
      exact ⟨v, valV_pos h, h1⟩
    · rw [List.find?_cons_of_neg (by simpa using h)] at e
      rw [valV_neg h]
      exact dct_val h2 e
end
section
variable {X : Cx}
end
end Dy

set_option Elab.async false
set_option linter.all false
set_option maxRecDepth 100000
/-! ### a comprehension whose step may raise -/
namespace Dy
open PySem PySem.Spec PyProof.Rows L2

section
variable {X : Cx} {W : WX} {pins : List (Addr × Obj)} {σ : L2.St} {H H' : Hp} {s sr : Shared} {B : Heap} {a : Addr} {cls : Value} {d : Option Addr}
end

section
variable {X : Cx}
end

/-! #### what it makes of data -/
section
variable {X : Cx} {W : WX} {elt tg iter : Expr} {ifs : List Expr} {scope : Scope} {own : List (Str × Nat)} {pos : Pos} {fi : REnv → R (List D)} {t : TG} {b : D → REnv → Option REnv} {c : REnv → R Bool} {e : REnv → R D} {is : List Nat}
end
section
variable {X : Cx} {W : WX} {e : Expr} {es : List Expr} {x : Str} {p pos : Pos} {k n : Nat} {t : REnv → R (List D)} {fn : List D → R D}
end
/-! #### weakest conditions -/
section
variable {b : D → REnv → Option REnv} {c : REnv → R Bool} {e : REnv → R D} {ρ : REnv} {P : D → Prop} {E : D → Prop} {vs : List Nat} {fi : REnv → R (List D)}
end
end Dy

set_option Elab.async false
set_option linter.all false
set_option maxRecDepth 100000
set_option maxHeartbeats 2000000
/-! sorted of texts, in, a text times a whole number. -/
namespace Dy
open PySem PySem.Spec PyProof.Rows L2
/-! ### the order of texts -/
/-! ### sorted -/
section
variable {K : PySem.W.Frag} {F H : Hp}
theorem rep_strs : ∀ (xs : List Str), RepL K F (xs.map D.str) (xs.map V.str)
  | [] => RepL.nil
  | x :: r => RepL.cons Rep.mk_str (rep_strs r)
end
section
variable {X : Cx}
/-! ### in -/
def flatD : D → Bool
  | .int _ => true
  | .str _ => true
  | .non => true
  | _ => false
def eqF : D → D → Bool
  | .int a, .int b => a == b
  | .str a, .str b => a == b
  | .non, .non => true
  | _, _ => false
def oInF : D → D → Option D
  | d, .lst ds => if flatD d = true ∧ ds.all flatD = true then some (.bl (ds.any fun y => eqF y d)) else none
  | _, _ => none
def oNinF : D → D → Option D
  | d, .lst ds => if flatD d = true ∧ ds.all flatD = true then some (.bl (!ds.any fun y => eqF y d)) else none
  | _, _ => none
theorem flat_rep {K : PySem.W.Frag} {F : Hp} {d : D} {v : V} (h : Rep K F d v) (f : flatD d = true) : flatV v = true := by
  cases d with
  | int i => rw [h.int_inv]; rfl
  | str i => rw [h.str_inv]; rfl
  | non => rw [h.non_inv]; rfl
  | _ => cases f
theorem eq_rep {K : PySem.W.Frag} {F : Hp} {d e : D} {v u : V} (h : Rep K F d v) (k : Rep K F e u) (f : flatD d = true) (g : flatD e = true) : eqV v u = eqF d e := by
  cases d with
  | int i =>
    rw [h.int_inv]
    cases e with
    | int j => rw [k.int_inv]; rfl
    | str j => rw [k.str_inv]; rfl
    | non => rw [k.non_inv]; rfl
    | _ => cases g
  | str i =>
    rw [h.str_inv]
    cases e with
    | int j => rw [k.int_inv]; rfl
    | str j => rw [k.str_inv]; rfl
    | non => rw [k.non_inv]; rfl
    | _ => cases g
  | non =>
    rw [h.non_inv]
    cases e with
    | int j => rw [k.int_inv]; rfl
    | str j => rw [k.str_inv]; rfl
    | non => rw [k.non_inv]; rfl
    | _ => cases g
  | _ => cases f
theorem any_rep {K : PySem.W.Frag} {F : Hp} {d : D} {v : V} (h : Rep K F d v) (f : flatD d = true) : ∀ {ds : List D} {vs : List V}, RepL K F ds vs → ds.all flatD = true → vs.all flatV = true ∧ inV v vs = ds.any fun y => eqF y d
  | [], vs, r, _ => by
    simp only [RepL] at r
    subst r
    exact ⟨rfl, rfl⟩
  | e :: ds, vs, r, g => by
    simp only [RepL] at r
    obtain ⟨u, t, rfl, h1, h2⟩ := r
    rw [List.all_cons, Bool.and_eq_true] at g
    obtain ⟨i1, i2⟩ := any_rep h f h2 g.2
    refine ⟨by rw [List.all_cons, flat_rep h1 g.1, i1]; rfl, ?_⟩
    unfold inV at *
    rw [List.any_cons, List.any_cons, eq_rep h1 h g.1 f, i2]
theorem d_inF : OpR X (compareOp .In) (rIn X.K false) ∧ Op2 X.K (rIn X.K false) oInF := ⟨op_in_seq, fun F H x y a b d Q s ra rb e q => by
  unfold oInF at e
  split at e
  · split at e
    · rename_i hf
      cases e
      obtain ⟨l, vs, rfl, h1, h2⟩ := rb.lst_inv
      obtain ⟨i1, i2⟩ := any_rep ra hf.1 h2 hf.2
      refine ⟨l, vs, rfl, .inl (Same.seq s h1), flat_rep ra hf.1, i1, ?_⟩
      rw [i2]
      exact now q s Rep.mk_bl
    · cases e
  · cases e⟩
theorem d_ninF : OpR X (compareOp .NotIn) (rIn X.K true) ∧ Op2 X.K (rIn X.K true) oNinF := ⟨op_notIn_seq, fun F H x y a b d Q s ra rb e q => by
  unfold oNinF at e
  split at e
  · split at e
    · rename_i hf
      cases e
      obtain ⟨l, vs, rfl, h1, h2⟩ := rb.lst_inv
      obtain ⟨i1, i2⟩ := any_rep ra hf.1 h2 hf.2
      refine ⟨l, vs, rfl, .inl (Same.seq s h1), flat_rep ra hf.1, i1, ?_⟩
      rw [i2]
      exact now q s Rep.mk_bl
    · cases e
  · cases e⟩
/-! ### a text times a whole number -/
theorem size_rep (c : Array Nat) : ∀ (n : Nat) (a : Array Nat), ((List.replicate n c).foldl (· ++ ·) a).size = a.size + n * c.size
  | 0, a => by simp
  | n + 1, a => by
    rw [List.replicate_succ, List.foldl_cons, size_rep c n (a ++ c), Array.size_append, Nat.succ_mul]
    omega
def repS (x : Str) (n : Int) : Str := if n < 1 then Str.empty else if (n == 1 || x.length == 0) = true then x else ⟨(List.replicate n.toNat x.cps).foldl (· ++ ·) #[]⟩
theorem repS_len {x : Str} {n : Int} (h0 : 0 ≤ n) (h1 : n ≤ 1000) (hx : x.length ≤ 1000) : (repS x n).length ≤ 1000000 := by
  unfold repS
  split
  · exact Nat.zero_le _
  · split
    · omega
    · show ((List.replicate n.toNat x.cps).foldl (· ++ ·) #[]).size ≤ _
      rw [size_rep]
      have : n.toNat * x.cps.size ≤ 1000 * 1000 := Nat.mul_le_mul (by omega) hx
      simpa using this
abbrev rMulS : R2 := fun x y H Q => ∃ (z : Str) (n : Int), x = .str z ∧ y = .int n ∧ 0 ≤ n ∧ n ≤ 1000 ∧ z.length ≤ 1000 ∧ Q (.str (repS z n)) H
theorem op_mulS : OpR X (binaryOp .Mult) rMulS := by
  intro pins s σ H x y v u Q I rx ry h
  obtain ⟨z, n, rfl, rfl, h0, h1, hz, q⟩ := h
  obtain ⟨t, rfl⟩ := rx
  obtain ⟨t', rfl⟩ := ry
  have big : z.length * n.toNat ≤ 1000 * 1000 := Nat.mul_le_mul hz (by omega)
  refine PySem.P.mul_str (by rw [decide_eq_false (by omega), decide_eq_false (by omega)]; rfl) (fun hn _ hh => ?_) (fun _ _ => ?_) ?_
  · have : 1000 ≤ ((2 : Int) ^ 63 - 1) / n := Int.le_ediv_of_mul_le (by omega) (by omega)
    omega
  · unfold Builtin.Str.tooLong
    rw [decide_eq_false]
    rw [sizeLine_eq]
    omega
  · have hl := repS_len h0 h1 hz
    have hsl := sizeLine_eq
    unfold repS at q hl
    split
    · rename_i hn
      rw [if_pos hn] at q
      exact ⟨Nat.zero_le _, .str _, H, I.tok _, ⟨_, rfl⟩, q⟩
    · rename_i hn
      rw [if_neg hn] at q hl
      split
      · rename_i h2
        rw [if_pos h2] at q
        exact ⟨.str _, H, I, ⟨_, rfl⟩, q⟩
      · rename_i h2
        rw [if_neg h2] at q hl
        exact ⟨by omega, .str _, H, I.tok _, ⟨_, rfl⟩, q⟩
def oMulS : D → D → Option D
  | .str z, .int n => if 0 ≤ n ∧ n ≤ 1000 ∧ z.length ≤ 1000 then some (.str (repS z n)) else none
  | _, _ => none
theorem d_mulS : OpR X (binaryOp .Mult) rMulS ∧ Op2 X.K rMulS oMulS := ⟨op_mulS, fun F H x y a b d Q s ra rb e q => by
  unfold oMulS at e
  split at e
  · split at e
    · rename_i hk
      cases e
      exact ⟨_, _, ra.str_inv, rb.int_inv, hk.1, hk.2.1, hk.2.2, now q s Rep.mk_str⟩
    · cases e
  · cases e⟩
end
end Dy

set_option Elab.async false
set_option linter.all false
set_option maxRecDepth 100000
set_option maxHeartbeats 2000000
/-! ### min([..], default=True) of truths that are all True -/
namespace Dy
open PySem PySem.Spec PyProof.Rows L2
section
variable {X : Cx} {W : WX} {e d : Expr} {f g : REnv → R D} {x : Str} {p kp pos : Pos}
end
end Dy

set_option Elab.async false
set_option linter.all false
set_option maxRecDepth 100000
/-! ### a def's result as the caller's own list -/
namespace Dy
open PySem PySem.Spec PyProof.Rows L2

section
variable {K : PySem.W.Frag} {G F H F' H' : Hp} {σ : St} {ρ : REnv}
/-- a list that came in between is kept -/
theorem Ext.keep {a : Addr} {vs : List V} (ex : Ext F H F' H') (ha : H a = none) (h' : H' a = some (.lst vs)) (hf : F' a = none) : Ext F H (upd F' a (.lst vs)) H' ∧ Same F' (upd F' a (.lst vs)) := by
  have sm : Same F' (upd F' a (.lst vs)) := same_upd hf
  refine ⟨⟨ex.f.trans sm, ex.h, fun b o q => ?_, fun b o q z => ?_⟩, sm⟩
  · by_cases hb : b = a
    · subst hb; rw [upd_same] at q; rw [← q]; exact h'
    · rw [upd_ne hb] at q; exact ex.s _ _ q
  · by_cases hb : b = a
    · subst hb; exact ha
    · rw [upd_ne hb] at q; exact ex.n b o q z
end
/-! ### results -/
def asL : D → R (List D)
  | .lst es => .ok es
  | _ => .bad
def PostO (K : PySem.W.Frag) (W : WX) (σ : St) (F H : Hp) (x : R (List D)) (Q : V → Hp → Prop) : Prop := match x with
  | .ok es => ∀ a ws F' H', Ext F H F' H' → H' a = some (.lst ws) → RepL K F' es ws → F' a = none → H a = none → Q (.ref a) H'
  | .err e => ∀ cls dd F' H', Ext F H F' H' → XD K F' e cls dd → W cls dd σ H'
  | .bad => False
def spO (K : PySem.W.Frag) (n : Nat) (fn : List D → R D) : Sp := fun vs H Q E => vs.length = n ∧ ∃ F ds, Same F H ∧ RepL K F ds vs ∧ PostO K (fun cls dd _ H' => E cls dd H') [] F H ((fn ds).bind asL) Q
def PostSO (K : PySem.W.Frag) (W : WX) (D : Ends) (G F : Hp) (x : SR) : Prop := match x with
  | .next ρ => ∀ σ' F' H', Same F F' → NewG G F F' → RepE K G F' H' σ' ρ → D.nx σ' H'
  | .ret d => ∃ es, d = .lst es ∧ ∀ a ws F' H', Same F F' → NewG G F F' → Same G H' → Same F' H' → H' a = some (.lst ws) → RepL K F' es ws → F' a = none → G a = none → D.rt (.ref a) H'
  | .err e ρ => ∀ σ' F' H' cls dd, Same F F' → NewG G F F' → RepE K G F' H' σ' ρ → XD K F' e cls dd → W cls dd σ' H'
  | .bad => False
section
variable {α β : Type} {K : PySem.W.Frag} {W : WX} {D D' : Ends} {G F F' H : Hp} {σ : St} {ρ : REnv}
theorem PostSO.ext {x : SR} (s : Same F F') (n : NewG G F F') (h : PostSO K W D G F x) : PostSO K W D G F' x := by
  cases x with
  | next ρ => exact fun σ' F2 H' s2 n2 r => h σ' F2 H' (s.trans s2) (n.trans n2) r
  | ret d =>
    obtain ⟨es, e, h⟩ := h
    exact ⟨es, e, fun a ws F2 H' s2 n2 => h a ws F2 H' (s.trans s2) (n.trans n2)⟩
  | err e ρ => exact fun σ' F2 H' cls dd s2 n2 r x => h σ' F2 H' cls dd (s.trans s2) (n.trans n2) r x
  | bad => exact h
theorem PostSO.toS {rel : Hp → α → β → Prop} {x : R α} {k : α → SR} {Q : β → Hp → Prop} (r : RepE K G F H σ ρ) (h : PostSO K W D G F (x.toS ρ k))
    (f : ∀ a v F' H', x = .ok a → Ext F H F' H' → rel F' a v → RepE K G F' H' σ ρ → PostSO K W D G F' (k a) → Q v H') : Post K W rel σ F H x Q := by
  cases x with
  | ok a => exact fun v F' H' e p => f a v F' H' rfl e p (r.ext e) (PostSO.ext e.f (e.newG r.g) h)
  | err e => exact fun cls dd F' H' ex p => h σ F' H' cls dd ex.f (ex.newG r.g) (r.ext ex) p
  | bad => exact h
theorem PostSO.seq {x : SR} {g : REnv → SR} {nx : St → Hp → Prop} (h : PostSO K W D G F (x.seq g))
    (f : ∀ ρ σ' F' H', x = .next ρ → Same F F' → NewG G F F' → RepE K G F' H' σ' ρ → PostSO K W D G F' (g ρ) → nx σ' H') : PostSO K W { D with nx := nx } G F x := by
  cases x with
  | next ρ => exact fun σ' F' H' s n r => f ρ σ' F' H' rfl s n r (PostSO.ext s n h)
  | ret d => exact h
  | err e ρ => exact h
  | bad => exact h
end
/-- no return in it -/
def sNR (g : REnv → SR) : REnv → SR := fun ρ => match g ρ with
  | .ret _ => .bad
  | x => x
section
variable {X : Cx} {W : WX} {st : Stmt} {rest : List Stmt} {g h : REnv → SR} {e : Expr} {f : REnv → R D} {pos : Pos}
/-- return x, x one's own -/
def sRetO (i : Nat) : REnv → SR := fun ρ => match ρ[i]? with
  | some (.own ds) => .ret (.lst ds)
  | _ => .bad
/-- return [..] -/
def sRetL (t : REnv → R (List D)) : REnv → SR := fun ρ => (t ρ).toS ρ fun ds => if ds.length ≤ sizeLine then .ret (.lst ds) else .bad
/-! ### defs -/
end
section
variable {P : Program} {w : World} {K : PySem.W.Frag} {mg : Str → Option Value} {base : Heap} {x qual : Str} {params : Arguments} {body : List Stmt} {scope : Scope} {f : Addr} {fd : FuncData} {N ps : List Str} {k : Nat}
structure CalO (P : Program) (w : World) (K : PySem.W.Frag) (mg : Str → Option Value) (base : Heap) (x : Str) (k n : Nat) (fn : List D → R D) : Prop where
  ex : ∃ (f : Addr) (fd : FuncData) (ps : List Str), FnOk P w K mg base (L2.CX P w) k f fd ps (spO K n fn) ∧ mg x = some (.ref f) ∧ PySem.W.keepIn K (.ref f) = true ∧ Binds K fd ps []
  len : ∀ ds, ds.length ≠ n → fn ds = .bad
  lst : ∀ ds d, fn ds = .ok d → ∃ es, d = .lst es
end
section
variable {X : Cx} {W : WX} {e : Expr} {es : List Expr} {x y : Str} {p pos pos' cp : Pos} {k n : Nat} {t : REnv → R (List D)} {fn : List D → R D}
/-- y = f(..), the list one's own -/
def sSetO (i : Nat) (fn : List D → R D) (t : REnv → R (List D)) : REnv → SR := fun ρ => (t ρ).toS ρ fun ds => (fn ds).toS ρ fun d => (asL d).toS ρ fun es => .next (ρ.set i (.own es))
end
/-! ### weakest conditions -/
def IsL (d : D) (P : List D → Prop) : Prop := ∃ es, d = .lst es ∧ P es
theorem is_l {es : List D} {P : List D → Prop} (h : P es) : IsL (.lst es) P := ⟨es, rfl, h⟩
section
variable {ρ : REnv} {N : REnv → Prop} {T : D → Prop} {E : D → REnv → Prop} {g : REnv → SR} {t : REnv → R (List D)}
theorem sp_nr (h : (g ρ).wp N (fun _ => False) E) : (sNR g ρ).wp N T E := by
  unfold sNR
  cases q : g ρ with
  | next a => rw [q] at h; exact h
  | ret a => rw [q] at h; exact h.elim
  | err a b => rw [q] at h; exact h
  | bad => rw [q] at h; exact h.elim
theorem sp_retO {i : Nat} {ds : List D} (e : ρ[i]? = some (.own ds)) (h : T (.lst ds)) : (sRetO i ρ).wp N T E := by
  unfold sRetO; rw [e]; exact h
theorem sp_retL (h : (t ρ).wp (fun ds => Fits ds.length (T (.lst ds))) (fun e => E e ρ)) : (sRetL t ρ).wp N T E := wp_toS (h.post fun ds ⟨h1, h2⟩ => by rw [if_pos h1]; exact h2)
theorem sp_setO {i : Nat} {fn : List D → R D} (h : (t ρ).wp (fun ds => (fn ds).wp (fun d => IsL d fun es => Upd ρ i (.own es) N) (fun e => E e ρ)) (fun e => E e ρ)) : (sSetO i fn t ρ).wp N T E :=
  wp_toS (h.post fun ds h1 => wp_toS (h1.post fun d ⟨es, e, h2⟩ => by subst e; exact h2))
end
end Dy

set_option Elab.async false
set_option linter.all false
set_option maxRecDepth 100000
/-! ### for t in x: if c: return e -- x one's own list, and so it stays -/
namespace Dy
open PySem PySem.Spec PyProof.Rows L2
section
variable {X : Cx} {W : WX} {tg c e : Expr} {t : TG} {b : D → REnv → Option REnv} {u : REnv → R Bool} {f : REnv → R D} {is : List Nat} {x : Str} {np ip rp pos : Pos}
end
/-! ### one's own list handed to a def that tells numbers -/
mutual
def noL : D → Bool
  | .non => true
  | .bl _ => true
  | .int _ => true
  | .str _ => true
  | .tup xs => noLs xs
  | _ => false
def noLs : List D → Bool
  | [] => true
  | x :: xs => noL x && noLs xs
end
section
variable {K : PySem.W.Frag} {F F' : Hp} {a : Addr} {vs : List V}
theorem seqT_drop {p : Addr} {us : List V} (e : F a = some (.lst vs)) (h : ∀ b, b ≠ a → F' b = F b) (q : SqT K F p us) : SqT K F' p us := by
  rcases q with (q | ⟨o, q⟩) | q
  · exact .inl (.inl (by rw [h p (fun z => by rw [z, e] at q; cases q)]; exact q))
  · exact .inl (.inr ⟨o, by rw [h p (fun z => by rw [z, e] at q; cases q)]; exact q⟩)
  · exact .inr q
mutual
theorem rep_drop (e : F a = some (.lst vs)) (h : ∀ b, b ≠ a → F' b = F b) : ∀ (d : D) (v : V), noL d = true → Rep K F d v → Rep K F' d v
  | .non, v, _, r => by simpa [Rep] using r
  | .bl b, v, _, r => by simpa [Rep] using r
  | .int i, v, _, r => by simpa [Rep] using r
  | .str x, v, _, r => by simpa [Rep] using r
  | .tup xs, v, n, r => by
    simp only [Rep] at r ⊢
    obtain ⟨p, us, h1, h2, h3⟩ := r
    exact ⟨p, us, h1, seqT_drop e h h2, repL_drop e h xs us n h3⟩
theorem repL_drop (e : F a = some (.lst vs)) (h : ∀ b, b ≠ a → F' b = F b) : ∀ (ds : List D) (us : List V), noLs ds = true → RepL K F ds us → RepL K F' ds us
  | [], us, _, r => by simpa [RepL] using r
  | d :: ds, us, n, r => by
    simp only [RepL] at r ⊢
    obtain ⟨v, rr, h1, h2, h3⟩ := r
    have n : (noL d && noLs ds) = true := n
    rw [Bool.and_eq_true] at n
    exact ⟨v, rr, h1, rep_drop e h d v n.1 h2, repL_drop e h ds rr n.2 h3⟩
end
end
end Dy

set_option Elab.async false
set_option linter.all false
set_option maxRecDepth 100000
/-! ### return [.. for .. if ..], the test and the step may raise, the list the asker's own -/
namespace Dy
open PySem PySem.Spec PyProof.Rows L2
section
variable {X : Cx}
end
/-! #### what it makes of data -/
section
variable {X : Cx} {W : WX} {elt tg iter : Expr} {ifs : List Expr} {scope : Scope} {own : List (Str × Nat)} {pos rp : Pos} {fi : REnv → R (List D)} {t : TG} {b : D → REnv → Option REnv} {c : REnv → R Bool} {e : REnv → R D} {is : List Nat}
end
/-! #### weakest conditions -/
section
variable {b : D → REnv → Option REnv} {c : REnv → R Bool} {e : REnv → R D} {ρ : REnv} {vs : List Nat} {fi : REnv → R (List D)}
end
end Dy

set_option Elab.async false
set_option linter.all false
set_option maxRecDepth 100000
/-! ### a def's result as a tuple with the caller's own lists in it -/
namespace Dy
open PySem PySem.Spec PyProof.Rows L2
/-- which lists of a result are the caller's own -/
inductive Sh where
  | v | l | t (ss : List Sh)
mutual
def mask : Sh → D → O
  | .l, .lst ds => .l (ds.map .v)
  | .t ss, .tup ds => if ss.length = ds.length then .t (masks ss ds) else .v (.tup ds)
  | _, d => .v d
def masks : List Sh → List D → List O
  | s :: ss, d :: ds => mask s d :: masks ss ds
  | _, ds => ds.map .v
end
def O.unV : List O → Option (List D)
  | [] => some []
  | .v d :: r => (O.unV r).map (d :: ·)
  | _ :: _ => none
def O.unL : O → Option (List D)
  | .l us => O.unV us
  | _ => none
theorem unV_map : ∀ ds : List D, O.unV (ds.map .v) = some ds
  | [] => rfl
  | d :: r => by
    show (O.unV (r.map .v)).map (d :: ·) = _
    rw [unV_map r]
    rfl
theorem of_unV : ∀ {us : List O} {ds : List D}, O.unV us = some ds → us = ds.map .v
  | [], ds, e => by cases e; rfl
  | o :: us, ds, e => by
    unfold O.unV at e
    split at e
    · rename_i heq; cases heq
    · rename_i d r heq
      cases heq
      cases q : O.unV us with
      | none => rw [q] at e; cases e
      | some es =>
        rw [q] at e
        cases e
        rw [of_unV q]
        rfl
    · cases e
theorem of_unL {o : O} {ds : List D} (e : O.unL o = some ds) : o = .l (ds.map .v) := by
  unfold O.unL at e
  split at e
  · rw [of_unV e]
  · cases e
theorem toDs_map : ∀ ds : List D, O.toDs (ds.map .v) = ds
  | [] => rfl
  | d :: r => by
    show O.toD (.v d) :: O.toDs (r.map .v) = _
    rw [toDs_map r]
    rfl
section
variable {K : PySem.W.Frag} {G F H F' H' : Hp} {σ : St} {ρ : REnv}
theorem OwRs.vals : ∀ {ds : List D} {vs : List V} {fp : List Addr}, OwRs K F H (ds.map .v) vs fp → RepL K F ds vs ∧ fp = []
  | [], vs, fp, h => by
    simp only [List.map_nil, OwRs] at h
    exact ⟨by simp only [RepL]; exact h.1, h.2⟩
  | d :: ds, vs, fp, h => by
    simp only [List.map_cons, OwRs, OwR] at h
    obtain ⟨v, r, f1, f2, h1, h2, ⟨h3, h4⟩, h5⟩ := h
    obtain ⟨q1, q2⟩ := OwRs.vals h5
    subst h1
    exact ⟨RepL.cons h3 q1, by rw [h2, h4, q2]; rfl⟩
theorem OwRs.ofVals : ∀ {ds : List D} {vs : List V}, RepL K F ds vs → OwRs K F H (ds.map .v) vs []
  | [], vs, h => by
    simp only [RepL] at h
    simp only [List.map_nil, OwRs]
    exact ⟨h, trivial⟩
  | d :: ds, vs, h => by
    simp only [RepL] at h
    obtain ⟨v, r, h1, h2, h3⟩ := h
    simp only [List.map_cons, OwRs, OwR]
    exact ⟨v, r, [], [], h1, rfl, ⟨h2, rfl⟩, OwRs.ofVals h3⟩
theorem OwR.ofL {ds : List D} {a : Addr} {ws : List V} (h : H a = some (.lst ws)) (r : RepL K F ds ws) : OwR K F H (.l (ds.map .v)) (.ref a) [a] := by
  simp only [OwR]
  exact ⟨a, ws, [], rfl, h, rfl, OwRs.ofVals r⟩
theorem OwR.ofV {d : D} {v : V} (r : Rep K F d v) : OwR K F H (.v d) v [] := by
  simp only [OwR]
  exact ⟨r, trivial⟩
theorem OwR.inL {ds : List D} {v : V} {fp : List Addr} (h : OwR K F H (.l (ds.map .v)) v fp) : ∃ a ws, v = .ref a ∧ H a = some (.lst ws) ∧ RepL K F ds ws ∧ fp = [a] := by
  simp only [OwR] at h
  obtain ⟨a, ws, fq, h1, h2, h3, h4⟩ := h
  obtain ⟨q1, q2⟩ := OwRs.vals h4
  exact ⟨a, ws, h1, h2, q1, by rw [h3, q2]⟩
/-- one of the lists turns -/
theorem OwRs.at_ : ∀ {os : List O} {vs : List V} {fp : List Addr} {k : Nat} {ds : List D}, OwRs K F H os vs fp → fp.Nodup → os[k]? = some (.l (ds.map .v)) →
    ∃ b ws, vs[k]? = some (.ref b) ∧ H b = some (.lst ws) ∧ b ∈ fp ∧ RepL K F ds ws ∧ ∀ es us, RepL K F es us → OwRs K F (upd H b (.lst us)) (os.set k (.l (es.map .v))) vs fp
  | [], vs, fp, k, ds, h, nd, e => by simp at e
  | o :: os, vs, fp, 0, ds, h, nd, e => by
    simp only [OwRs] at h
    obtain ⟨v, r, f1, f2, h1, h2, h3, h4⟩ := h
    have e : some o = some (O.l (ds.map .v)) := e
    cases e
    obtain ⟨a, ws, e1, e2, e3, e4⟩ := h3.inL
    subst h1; subst h2; subst e1; subst e4
    have na : a ∉ f2 := (List.nodup_cons.mp (show (a :: f2).Nodup from nd)).1
    refine ⟨a, ws, rfl, e2, by simp, e3, fun es us r' => ?_⟩
    simp only [List.set_cons_zero, OwRs]
    exact ⟨.ref a, r, [a], f2, rfl, rfl, OwR.ofL upd_same r', OwRs.move (.refl _) os r f2 h4 fun b hb => upd_ne fun z => na (z ▸ hb)⟩
  | o :: os, vs, fp, k + 1, ds, h, nd, e => by
    simp only [OwRs] at h
    obtain ⟨v, r, f1, f2, h1, h2, h3, h4⟩ := h
    subst h1; subst h2
    obtain ⟨nd1, nd2, nd3⟩ := List.nodup_append.mp nd
    obtain ⟨b, ws, q1, q2, q3, q4, q5⟩ := OwRs.at_ h4 nd2 (show os[k]? = _ from e)
    refine ⟨b, ws, q1, q2, List.mem_append_right _ q3, q4, fun es us r' => ?_⟩
    simp only [List.set_cons_succ, OwRs]
    exact ⟨v, r, f1, f2, rfl, rfl, OwR.move (.refl _) o v f1 h3 fun c hc => upd_ne fun z => nd3 c hc b q3 z, q5 es us r'⟩
theorem OwRs.length : ∀ {os : List O} {vs : List V} {fp : List Addr}, OwRs K F H os vs fp → os.length = vs.length
  | [], vs, fp, h => by
    simp only [OwRs] at h
    rw [h.1]
    rfl
  | o :: os, vs, fp, h => by
    simp only [OwRs] at h
    obtain ⟨v, r, f1, f2, h1, h2, h3, h4⟩ := h
    rw [h1, List.length_cons, List.length_cons, OwRs.length h4]
/-- the thing of one's own at a slot -/
theorem tree_at (r : RepE K G F H σ ρ) {i : Nat} {o : O} (h : ρ[i]? = some (.tree o)) : ∃ v fp, σ[i]? = some (some v) ∧ OwR K F H o v fp ∧ fp.Nodup ∧ ∀ a ∈ fp, F a = none ∧ G a = none := by
  have hl : i < σ.length := by
    rw [← r.len]
    exact (List.getElem?_eq_some_iff.mp h).1
  obtain ⟨v, fp, e1, e2, e3, e4⟩ := r.at_ i _ _ h (List.getElem?_eq_getElem hl)
  exact ⟨v, fp, by rw [List.getElem?_eq_getElem hl, e1], e2, e3, e4⟩
end
/-! #### results -/
def PostT (K : PySem.W.Frag) (W : WX) (σ : St) (F H : Hp) (x : R O) (Q : V → Hp → Prop) : Prop := match x with
  | .ok o => ∀ v fp F' H', Ext F H F' H' → OwR K F' H' o v fp → fp.Nodup → (∀ a ∈ fp, F' a = none ∧ H a = none) → Q v H'
  | .err e => ∀ cls dd F' H', Ext F H F' H' → XD K F' e cls dd → W cls dd σ H'
  | .bad => False
def spT (K : PySem.W.Frag) (n : Nat) (fn : List D → R O) : Sp := fun vs H Q E => vs.length = n ∧ ∃ F ds, Same F H ∧ RepL K F ds vs ∧ PostT K (fun cls dd _ H' => E cls dd H') [] F H (fn ds) Q
def PostST (K : PySem.W.Frag) (W : WX) (sh : Sh) (D : Ends) (G F : Hp) (x : SR) : Prop := match x with
  | .next ρ => ∀ σ' F' H', Same F F' → NewG G F F' → RepE K G F' H' σ' ρ → D.nx σ' H'
  | .ret d => ∀ v fp F' H', Same F F' → NewG G F F' → Same G H' → Same F' H' → OwR K F' H' (mask sh d) v fp → fp.Nodup → (∀ a ∈ fp, F' a = none ∧ G a = none) → D.rt v H'
  | .err e ρ => ∀ σ' F' H' cls dd, Same F F' → NewG G F F' → RepE K G F' H' σ' ρ → XD K F' e cls dd → W cls dd σ' H'
  | .bad => False
section
variable {α β : Type} {K : PySem.W.Frag} {W : WX} {sh : Sh} {D D' : Ends} {G F F' H : Hp} {σ : St} {ρ : REnv}
theorem PostST.ext {x : SR} (s : Same F F') (n : NewG G F F') (h : PostST K W sh D G F x) : PostST K W sh D G F' x := by
  cases x with
  | next ρ => exact fun σ' F2 H' s2 n2 r => h σ' F2 H' (s.trans s2) (n.trans n2) r
  | ret d => exact fun v fp F2 H' s2 n2 => h v fp F2 H' (s.trans s2) (n.trans n2)
  | err e ρ => exact fun σ' F2 H' cls dd s2 n2 r x => h σ' F2 H' cls dd (s.trans s2) (n.trans n2) r x
  | bad => exact h
theorem PostST.toS {rel : Hp → α → β → Prop} {x : R α} {k : α → SR} {Q : β → Hp → Prop} (r : RepE K G F H σ ρ) (h : PostST K W sh D G F (x.toS ρ k))
    (f : ∀ a v F' H', x = .ok a → Ext F H F' H' → rel F' a v → RepE K G F' H' σ ρ → PostST K W sh D G F' (k a) → Q v H') : Post K W rel σ F H x Q := by
  cases x with
  | ok a => exact fun v F' H' e p => f a v F' H' rfl e p (r.ext e) (PostST.ext e.f (e.newG r.g) h)
  | err e => exact fun cls dd F' H' ex p => h σ F' H' cls dd ex.f (ex.newG r.g) (r.ext ex) p
  | bad => exact h
theorem PostST.seq {x : SR} {g : REnv → SR} {nx : St → Hp → Prop} (h : PostST K W sh D G F (x.seq g))
    (f : ∀ ρ σ' F' H', x = .next ρ → Same F F' → NewG G F F' → RepE K G F' H' σ' ρ → PostST K W sh D G F' (g ρ) → nx σ' H') : PostST K W sh { D with nx := nx } G F x := by
  cases x with
  | next ρ => exact fun σ' F' H' s n r => f ρ σ' F' H' rfl s n r (PostST.ext s n h)
  | ret d => exact h
  | err e ρ => exact h
  | bad => exact h
end
def rsT (K : PySem.W.Frag) (W : WX) (sh : Sh) (g : REnv → SR) : TS := fun D σ H => ∃ G F ρ, RepE K G F H σ ρ ∧ PostST K W sh D G F (g ρ)
abbrev SST (X : Cx) (W : WX) (sh : Sh) (s : Stmt) (g : REnv → SR) : Prop := PS X s (rsT X.K W sh g)
abbrev SSsT (X : Cx) (W : WX) (sh : Sh) (s : List Stmt) (g : REnv → SR) : Prop := PSs X s (rsT X.K W sh g)
section
variable {X : Cx} {W : WX} {sh : Sh} {st : Stmt} {rest : List Stmt} {g h : REnv → SR} {e : Expr} {f : REnv → R D} {pos : Pos}
theorem sst_lift (hs : SS X W st g) : SST X W sh st (sNR g) := PS.dy hs fun D σ H ⟨G, F, ρ, r, p⟩ => ⟨G, F, ρ, r, by
  unfold sNR at p
  cases q : g ρ with
  | next a => rw [q] at p; exact p
  | ret a => rw [q] at p; exact p.elim
  | err a b => rw [q] at p; exact p
  | bad => rw [q] at p; exact p.elim⟩
theorem ssst_cons (h1 : SST X W sh st g) (h2 : SSsT X W sh rest h) : SSsT X W sh (st :: rest) (sSeq g h) :=
  (pss_cons h1 h2).dy fun D σ H ⟨G, F, ρ, r, p⟩ => ⟨G, F, ρ, r, PostST.seq p fun ρ' σ' F' H' _ s n r' p' => ⟨G, F', ρ', r', p'⟩⟩
theorem ssst_one (h1 : SST X W sh st g) : SSsT X W sh [st] g := pss_one h1
/-! #### the pieces of a tuple that is told -/
/-- new, or of one's own at one of the slots -/
def Fr (H : Hp) (σ : St) (ρ : REnv) (I : List Nat) (a : Addr) : Prop := H a = none ∨ ∃ i ∈ I, ∃ ds, ρ[i]? = some (.own ds) ∧ σ[i]? = some (some (.ref a))
def PostA (K : PySem.W.Frag) (W : WX) (σ : St) (ρ : REnv) (I : List Nat) (F H : Hp) (x : R (List O)) (Q : List V → Hp → Prop) : Prop := match x with
  | .ok os => ∀ vs fp F' H', Ext F H F' H' → OwRs K F' H' os vs fp → fp.Nodup → (∀ a ∈ fp, F' a = none ∧ Fr H σ ρ I a) → Q vs H'
  | .err e => ∀ cls dd F' H', Ext F H F' H' → XD K F' e cls dd → W cls dd σ H'
  | .bad => False
theorem PostA.bind {K : PySem.W.Frag} {σ : St} {ρ : REnv} {I : List Nat} {F H F1 H1 : Hp} {x : R (List O)} {k : List O → List O} {Q Q' : List V → Hp → Prop} (h : PostA K W σ ρ I F H (x.bind fun os => .ok (k os)) Q) (ex : Ext F H F1 H1)
    (f : ∀ os vs fp F' H', x = .ok os → Ext F1 H1 F' H' → OwRs K F' H' os vs fp → fp.Nodup → (∀ a ∈ fp, F' a = none ∧ Fr H1 σ ρ I a) → (∀ vs' fp', OwRs K F' H' (k os) vs' fp' → fp'.Nodup → (∀ a ∈ fp', F' a = none ∧ Fr H σ ρ I a) → Q vs' H') → Q' vs H') : PostA K W σ ρ I F1 H1 x Q' := by
  cases x with
  | ok os => exact fun vs fp F' H' ex2 o nd fr => f os vs fp F' H' rfl ex2 o nd fr fun vs' fp' o' nd' fr' => h vs' fp' F' H' (ex.trans ex2) o' nd' fr'
  | err e => exact fun cls dd F' H' ex2 xd => h cls dd F' H' (ex.trans ex2) xd
  | bad => exact h
open Classical in
end
section
variable {X : Cx} {W : WX} {elt tg iter : Expr} {ifs : List Expr} {scope : Scope} {own : List (Str × Nat)} {pos rp : Pos} {fi : REnv → R (List D)} {t : TG} {b : D → REnv → Option REnv} {c : REnv → R Bool} {e : REnv → R D} {is : List Nat}
end
/-! #### defs -/
def fnT (n m : Nat) (sh : Sh) (g : REnv → SR) : List D → R O := fun ds => (fnD n m g ds).bind fun d => .ok (mask sh d)
section
variable {P : Program} {w : World} {K : PySem.W.Frag} {mg : Str → Option Value} {base : Heap} {x qual : Str} {params : Arguments} {body : List Stmt} {scope : Scope} {f : Addr} {fd : FuncData} {N ps : List Str} {k : Nat} {sh : Sh}
theorem okT_def {n : Nat} {g : REnv → SR} (Fn : FunD K x qual params body scope [] [] f fd) (S : FnScope N ps scope) (hn : ps.length = n)
    (hb : ∀ (cdv : Value) (A : Around) (outer : List Env) (s : Shared) (H : Hp) (E : XK), Room k (CxD P w K mg base N qual scope f cdv A outer s H E).A → Takes (CxD P w K mg base N qual scope f cdv A outer s H E) (WD E) →
      PassesOwn (model P w) (CxD P w K mg base N qual scope f cdv A outer s H E).A (CxD P w K mg base N qual scope f cdv A outer s H E).env (CxD P w K mg base N qual scope f cdv A outer s H E).xe → SSsT (CxD P w K mg base N qual scope f cdv A outer s H E) (WD E) sh body g) :
    FnOk P w K mg base (L2.CX P w) (k + 1) f fd ps (spT K n (fnT n N.length sh g)) := by
  refine Fn.ok S (fun vs H Q E h => by rw [hn]; exact h.1) fun cdv A outer s H vs Q E hr hsp => ⟨_, hb cdv A outer s H E hr (takes_of rfl rfl rfl rfl) (passes_of rfl), ?_⟩
  obtain ⟨hv, F, ds, sm, rl, p⟩ := hsp
  have hd : ds.length = n := by rw [rl.length, hv]
  unfold fnT fnD at p
  rw [if_pos hd] at p
  refine ⟨H, F, _, repE_start sm rl, ?_⟩
  rw [hd]
  cases e : g (ds.map .val ++ List.replicate (N.length - n) .un) with
  | next ρ =>
    rw [e] at p
    exact fun σ' F' H' s1 n1 r => p .non [] F' H' ⟨s1, r.g, r.f, n1⟩ (by
      rw [show mask sh .non = .v .non by cases sh <;> rfl]
      exact OwR.ofV Rep.mk_non) List.nodup_nil fun a h => nomatch h
  | ret d =>
    rw [e] at p
    exact fun v fp F' H' s1 n1 g1 f1 h1 h2 h3 => p v fp F' H' ⟨s1, g1, f1, n1⟩ h1 h2 h3
  | err d ρ =>
    rw [e] at p
    exact fun σ' F' H' cls dd s1 n1 r q => p cls dd F' H' ⟨s1, r.g, r.f, n1⟩ q
  | bad => rw [e] at p; exact p.elim
structure CalT (P : Program) (w : World) (K : PySem.W.Frag) (mg : Str → Option Value) (base : Heap) (x : Str) (k n : Nat) (fn : List D → R O) : Prop where
  ex : ∃ (f : Addr) (fd : FuncData) (ps : List Str), FnOk P w K mg base (L2.CX P w) k f fd ps (spT K n fn) ∧ mg x = some (.ref f) ∧ PySem.W.keepIn K (.ref f) = true ∧ Binds K fd ps []
  len : ∀ ds, ds.length ≠ n → fn ds = .bad
theorem fnT_len {n m : Nat} {g : REnv → SR} {ds : List D} (hl : ds.length ≠ n) : fnT n m sh g ds = .bad := by unfold fnT; rw [fnD_len hl]; rfl
theorem calT_mk {n : Nat} {g : REnv → SR} (Fn : FunD K x x params body scope [] [] f fd) (hm : mg x = some (.ref f))
    (hb : ∀ (kV doc pm : Value) (an : Option Addr) (cdv ct : Value) (us : List Value), us.length = ps.length → bindArgs (PySem.W.fnOf x x params body scope .none kV doc pm an cdv ct) ⟨us, []⟩ = pure (ps.zip us))
    (ok : FnOk P w K mg base (L2.CX P w) k f fd ps (spT K n (fnT n N.length sh g))) : CalT P w K mg base x k n (fnT n N.length sh g) :=
  ⟨⟨f, fd, ps, ok, hm, Fn.kp, Fn.bindsN hb⟩, fun ds h => fnT_len h⟩
end
section
variable {X : Cx} {W : WX} {e : Expr} {es : List Expr} {x y : Str} {p pos pos' cp : Pos} {k n : Nat} {t : REnv → R (List D)} {fn : List D → R O}
/-- f(..), all of it kept -/
def eCallK (fn : List D → R O) (t : REnv → R (List D)) : REnv → R D := fun ρ => (t ρ).bind fun ds => (fn ds).bind fun o => .ok o.toD
theorem ext_addF {F H F' H' : Hp} {fp : List Addr} (ex : Ext F H F' H') (h : ∀ a ∈ fp, F' a = none ∧ H a = none) : Ext F H (addF F' H' fp) H' := by
  refine ⟨ex.f.trans (addF_same fun a ha => (h a ha).1), ex.h, addF_H ex.s, fun a o h1 h2 => ?_⟩
  by_cases q : a ∈ fp
  · exact (h a q).2
  · rw [addF_out q] at h1
    exact ex.n a o h1 h2
theorem se_callK (C : CalT X.prog X.w X.K X.mg X.base x k n fn) (tk : Takes X W) (hr : Room k X.A)
    (ha : SA X W (e :: es) t) (hg : Gl X x := by rfl) (hdb : (x == ("__debug__" : Str)) = false := by decide) (he : starEach (e :: es) X.env = (false, eval e X.env) :: starEach es X.env := by rfl) (hpl : (backTo pos (starEach es X.env)).any (·.1) = false := by rfl) :
    SE X W (.Call (.Name x p) (e :: es) [] pos) (eCallK fn t) := by
  obtain ⟨f, fd, ps, Fo, hm, hk, hb⟩ := C.ex
  refine (pe_callS (E := WE W) Fo hr hg hm hk hb (fun σ => passAt tk σ) ha hdb he hpl).dy fun σ H Q ⟨G, F, ρ, r, p⟩ => ⟨G, F, ρ, r, Post.bind p fun ds vs F' H' _ ex rp p' => ?_⟩
  have hn : ds.length = n := Classical.byContradiction fun z => by
    rw [C.len ds z] at p'
    exact p'
  refine ⟨by rw [← rp.length]; exact hn, F', ds, ex.s, rp, ?_⟩
  cases q : fn ds with
  | ok o =>
    rw [q] at p'
    intro v fp F2 H2 ex2 h1 h2 h3
    exact p' v _ H2 (ext_addF ex2 h3) (OwR.frz (addF_same fun a ha => (h3 a ha).1) o v fp h1 fun a ha => addF_in ha)
  | err d => rw [q] at p'; exact p'
  | bad => rw [q] at p'; exact p'
end
/-! #### for p in x: p.clear() -/
theorem set_same {α : Type} {l : List α} {j : Nat} {x : α} (h : l[j]? = some x) : l.set j x = l := by
  obtain ⟨hl, he⟩ := List.getElem?_eq_some_iff.mp h
  rw [← he]
  exact List.set_getElem_self hl
section
variable {X : Cx} {W : WX} {pos p1 p2 p3 p4 p5 p6 : Pos} {x y : Str}
end
end Dy
namespace Dy
open PySem PySem.Spec PyProof.Rows L2
section
variable {ρ : REnv} {N : REnv → Prop} {T : D → Prop} {E : D → REnv → Prop} {g : REnv → SR} {f : REnv → R D} {P E' : D → Prop}
theorem wp_fnT {n m : Nat} {sh : Sh} {ds : List D} {Q : O → Prop} (h : (fnD n m g ds).wp (fun d => Q (mask sh d)) E') : (fnT n m sh g ds).wp Q E' := wp_bind (h.post fun d q => q)
theorem wp_callK {fn : List D → R O} {t : REnv → R (List D)} (h : (t ρ).wp (fun ds => (fn ds).wp (fun o => P o.toD) E') E') : (eCallK fn t ρ).wp P E' := wp_bind (h.post fun ds h1 => wp_bind (h1.post fun o q => q))
end
end Dy

set_option Elab.async false
set_option linter.all false
set_option maxRecDepth 100000
/-! ### new lists as one's own; reading and adding to lists within one's own tuple -/
namespace Dy
open PySem PySem.Spec PyProof.Rows L2
section
variable {X : Cx} {W : WX} {sh : Sh} {e : Expr} {x : REnv → R (List D)} {f : REnv → R D} {pos pos' p : Pos} {y : Str}
end
section
variable {X : Cx} {W : WX} {sh : Sh} {st : Stmt} {g : REnv → SR}
end
/-! #### reading what is one's own, the answer without lists -/
section
variable {K : PySem.W.Frag} {F F' : Hp} {fp : List Addr}
theorem seqT_dropN {p : Addr} {us : List V} (e : ∀ a ∈ fp, (∃ vs, F a = some (.lst vs)) ∨ ∃ z, F a = some (.dK z)) (h : ∀ b, b ∉ fp → F' b = F b) (q : SqT K F p us) : SqT K F' p us := by
  rcases q with (q | ⟨o, q⟩) | q
  · exact .inl (.inl (by rw [h p (fun z => by rcases e p z with ⟨vs, e1⟩ | ⟨vs, e1⟩ <;> (rw [e1] at q; cases q))]; exact q))
  · exact .inl (.inr ⟨o, by rw [h p (fun z => by rcases e p z with ⟨vs, e1⟩ | ⟨vs, e1⟩ <;> (rw [e1] at q; cases q))]; exact q⟩)
  · exact .inr q
mutual
theorem rep_dropN (e : ∀ a ∈ fp, (∃ vs, F a = some (.lst vs)) ∨ ∃ z, F a = some (.dK z)) (h : ∀ b, b ∉ fp → F' b = F b) : ∀ (d : D) (v : V), noL d = true → Rep K F d v → Rep K F' d v
  | .non, v, _, r => by simpa [Rep] using r
  | .bl b, v, _, r => by simpa [Rep] using r
  | .int i, v, _, r => by simpa [Rep] using r
  | .str x, v, _, r => by simpa [Rep] using r
  | .tup xs, v, n, r => by
    simp only [Rep] at r ⊢
    obtain ⟨p, us, h1, h2, h3⟩ := r
    exact ⟨p, us, h1, seqT_dropN e h h2, repL_dropN e h xs us n h3⟩
theorem repL_dropN (e : ∀ a ∈ fp, (∃ vs, F a = some (.lst vs)) ∨ ∃ z, F a = some (.dK z)) (h : ∀ b, b ∉ fp → F' b = F b) : ∀ (ds : List D) (us : List V), noLs ds = true → RepL K F ds us → RepL K F' ds us
  | [], us, _, r => by simpa [RepL] using r
  | d :: ds, us, n, r => by
    simp only [RepL] at r ⊢
    obtain ⟨v, rr, h1, h2, h3⟩ := r
    have n : (noL d && noLs ds) = true := n
    rw [Bool.and_eq_true] at n
    exact ⟨v, rr, h1, rep_dropN e h d v n.1 h2, repL_dropN e h ds rr n.2 h3⟩
end
end
/-! #### x[k].append(e), x one's own -/
section
variable {X : Cx} {W : WX} {e : Expr} {f : REnv → R D} {pos np cp sp ap xp : Pos} {x : Str} {j : Nat}
end
section
variable {ρ : REnv} {N : REnv → Prop} {T : D → Prop} {E : D → REnv → Prop} {f : REnv → R D} {P E' : D → Prop}
end
end Dy

set_option Elab.async false
set_option linter.all false
set_option maxRecDepth 100000
/-! ### all(truths); a def that calls itself, by so many turns -/
namespace Dy
open PySem PySem.Spec PyProof.Rows L2
section
variable {P : Program} {w : World} {K : PySem.W.Frag} {mg : Str → Option Value} {base : Heap} {x : Str} {params : Arguments} {body : List Stmt} {scope : Scope} {f : Addr} {fd : FuncData} {ps : List Str} {k : Nat}
end
end Dy

set_option Elab.async false
set_option linter.all false
set_option maxRecDepth 100000
/-! ### x[k] = e, x one's own list -/
namespace Dy
open PySem PySem.Spec PyProof.Rows L2

section
variable {X : Cx} {W : WX} {e b : Expr} {f g : REnv → R D} {pos sp np : Pos} {x : Str}
end
section
variable {ρ : REnv} {N : REnv → Prop} {T : D → Prop} {E : D → REnv → Prop} {f g : REnv → R D} {i : Nat} {ds : List D}
end
end Dy

set_option Elab.async false
set_option linter.all false
set_option maxRecDepth 100000
/-! ### more new lists; a list of lists as one's own; x[k][j] = e there -/
namespace Dy
open PySem PySem.Spec PyProof.Rows L2
section
variable {X : Cx} {W : WX} {a b e : Expr} {es : List Expr} {f g : REnv → R D} {t : REnv → R (List D)} {pos pos' lp p np cp sp sq : Pos} {x y : Str} {k n : Nat} {fn : List D → R D}
end
section
variable {ρ : REnv} {N : REnv → Prop} {T : D → Prop} {E : D → REnv → Prop} {f g : REnv → R D} {t : REnv → R (List D)} {Q : List D → Prop} {E' : D → Prop}
end
end Dy

set_option Elab.async false
set_option linter.all false
set_option maxRecDepth 100000
/-! ### x.extend(a tuple), x one's own list -/
namespace Dy
open PySem PySem.Spec PyProof.Rows L2
section
variable {X : Cx}
end
section
variable {X : Cx} {W : WX} {e : Expr} {f : REnv → R D} {pos : Pos}
end
section
variable {ρ : REnv} {N : REnv → Prop} {T : D → Prop} {E : D → REnv → Prop} {f : REnv → R D}
end
/-! ### x[k].append(e), x a list of lists of one's own -/
section
variable {X : Cx} {W : WX} {e b : Expr} {f g : REnv → R D} {pos np sp ap xp : Pos} {x : Str}
end
section
variable {ρ : REnv} {N : REnv → Prop} {T : D → Prop} {E : D → REnv → Prop} {f g : REnv → R D}
end
end Dy

set_option Elab.async false
set_option linter.all false
set_option maxRecDepth 100000
/-! ### a def that changes, in its place, a thing that is its caller's own -/
namespace Dy
open PySem PySem.Spec PyProof.Rows L2
open Classical (choose choose_spec)
mutual
def encO : O → D
  | .v d => .tup [d]
  | .l os => .lst (encOs os)
  | .t os => .dct [] (encOs os)
  | .m ks os => .dct (.inl 0 :: ks) (encOs os)
def encOs : List O → List D
  | [] => []
  | o :: os => encO o :: encOs os
end
mutual
def decO : D → O
  | .tup [d] => .v d
  | .lst xs => .l (decOs xs)
  | .dct (_ :: ks) xs => .m ks (decOs xs)
  | .dct [] xs => .t (decOs xs)
  | _ => .v .non
def decOs : List D → List O
  | [] => []
  | d :: ds => decO d :: decOs ds
end
mutual
theorem decO_enc : ∀ o : O, decO (encO o) = o
  | .v d => by simp only [encO, decO]
  | .l os => by simp only [encO, decO, decOs_enc os]
  | .t os => by simp only [encO, decO, decOs_enc os]
  | .m ks os => by simp only [encO, decO, decOs_enc os]
theorem decOs_enc : ∀ os : List O, decOs (encOs os) = os
  | [] => by simp only [encOs, decOs]
  | o :: os => by simp only [encOs, decOs, decO_enc o, decOs_enc os]
end
/-- what is told, with the thing's new state -/
def withO (o : O) (d : D) : D := .tup [encO o, d]
def unO : D → Option (O × D)
  | .tup [x, d] => some (decO x, d)
  | _ => none
theorem unO_with (o : O) (d : D) : unO (withO o d) = some (o, d) := by
  show some (decO (encO o), d) = _
  rw [decO_enc]
theorem with_inj {o o' : O} {d d' : D} (h : withO o d = withO o' d') : o = o' ∧ d = d' := by
  have := congrArg unO h
  rw [unO_with, unO_with] at this
  cases this
  exact ⟨rfl, rfl⟩
open Classical in
noncomputable def less (H : Hp) (fp : List Addr) : Hp := fun a => if a ∈ fp then none else H a
theorem less_in {H : Hp} {fp : List Addr} {a : Addr} (h : a ∈ fp) : less H fp a = none := by
  unfold less
  rw [if_pos h]
theorem less_out {H : Hp} {fp : List Addr} {a : Addr} (h : a ∉ fp) : less H fp a = H a := by
  unfold less
  rw [if_neg h]
theorem less_same (H : Hp) (fp : List Addr) : Same (less H fp) H := fun a o e => by
  by_cases q : a ∈ fp
  · rw [less_in q] at e; cases e
  · rw [less_out q] at e; exact e
theorem less_of {G H : Hp} {fp : List Addr} (s : Same G H) (h : ∀ a ∈ fp, G a = none) : Same G (less H fp) := fun a o e => by
  by_cases q : a ∈ fp
  · rw [h a q] at e; cases e
  · rw [less_out q]; exact s _ _ e
def ownAt (ρ : REnv) (i : Nat) : Option O := match ρ[i]? with
  | some (.own ds) => some (.l (ds.map .v))
  | some (.tree o) => some o
  | some (.pin _ o) => some o
  | _ => none
def backAt (ρ : REnv) (i : Nat) (o : O) : Option REnv := match ρ[i]? with
  | some (.own _) => o.unL.map fun ds => ρ.set i (.own ds)
  | some (.tree _) => some (ρ.set i (.tree o))
  | some (.pin w _) => some (ρ.set i (.pin w o))
  | _ => none
section
variable {K : PySem.W.Frag} {G F H F' H' : Hp} {σ : St} {ρ ρ' : REnv} {i : Nat} {o o' : O} {v : V} {fp fp' : List Addr}
theorem own_get (r : RepE K G F H σ ρ) (h : ownAt ρ i = some o) : ∃ v fp, σ[i]? = some (some v) ∧ OwR K F H o v fp ∧ fp.Nodup ∧ (∀ a ∈ fp, F a = none ∧ G a = none) ∧
    (∀ (j : Nat) (s : Sl) (x : Option V) (b : Addr), j ≠ i → ρ[j]? = some s → σ[j]? = some x → Owned K F H s x b → b ∉ fp) := by
  unfold ownAt at h
  split at h
  · rename_i ds z
    cases h
    obtain ⟨a, vs, e1, e2, e3⟩ := own_at r z
    obtain ⟨a', vs', f1, f2, f3, f4, f5⟩ := r.at_ i _ _ z e1
    cases f1
    refine ⟨.ref a, [a], e1, OwR.ofL e2 e3, by simp, fun b hb => ?_, fun j s x b hj h1 h2 ob hb => ?_⟩
    · rw [List.mem_singleton.mp hb]; exact ⟨f4, f5⟩
    · rw [List.mem_singleton.mp hb] at ob
      exact r.ap j i s _ x _ a hj h1 z h2 e1 ob rfl
  · rename_i o1 z
    cases h
    obtain ⟨v, fp, e1, e2, e3, e4⟩ := tree_at r z
    exact ⟨v, fp, e1, e2, e3, e4, fun j s x b hj h1 h2 ob hb => r.ap j i s _ x _ b hj h1 z h2 e1 ob ⟨v, fp, rfl, e2, hb⟩⟩
  · rename_i w o1 z
    cases h
    have hl : i < σ.length := by
      rw [← r.len]
      exact (List.getElem?_eq_some_iff.mp z).1
    obtain ⟨e0, v, fp, e1, e2, e3, e4⟩ := r.at_ i _ _ z (List.getElem?_eq_getElem hl)
    have hs : σ[i]? = some (some v) := by rw [List.getElem?_eq_getElem hl, e1]
    exact ⟨v, fp, hs, e2, e3, e4, fun j s x b hj h1 h2 ob hb => r.ap j i s _ x _ b hj h1 z h2 hs ob ⟨v, fp, rfl, e2, hb⟩⟩
  · cases h
/-- the heap behind such a def: what is not the thing's own stays -/
structure Back (F H : Hp) (fp : List Addr) (F' H' : Hp) : Prop where
  f : Same F F'
  h : Same (less H fp) H'
  s : Same F' H'
  n : ∀ a u, F' a = some u → F a = none → less H fp a = none
theorem Back.newG (b : Back F H fp F' H') (g : Same G H) (k : ∀ a ∈ fp, G a = none) : NewG G F F' := fun a u h1 h2 => (less_of g k).free (b.n a u h1 h2)
theorem Back.refl (s : Same F H) (k : ∀ a ∈ fp, F a = none) : Back F H fp F H := ⟨.refl _, less_same _ _, s, fun a u h1 h2 => by rw [h2] at h1; cases h1⟩
theorem RepE.back (r : RepE K G F H σ ρ) (h : ownAt ρ i = some o) (hs : σ[i]? = some (some v)) (hv : OwR K F H o v fp) (b : Back F H fp F' H') (hv' : OwR K F' H' o' v fp') (nd : fp'.Nodup) (fr : ∀ a ∈ fp', F' a = none ∧ less H fp a = none)
    (hb : backAt ρ i o' = some ρ') : RepE K G F' H' σ ρ' ∧ NewG G F F' := by
  obtain ⟨v1, fp1, g1, g2, g3, g4, g5⟩ := own_get r h
  rw [hs] at g1
  cases g1
  rw [OwR.uniq o v fp1 fp g2 hv] at g3 g4 g5
  have gk : ∀ a ∈ fp, G a = none := fun a ha => (g4 a ha).2
  have gl := less_of r.g gk
  have ng := b.newG r.g gk
  refine ⟨?_, ng⟩
  have es : σ.set i (some v) = σ := set_same hs
  have keep : ∀ (j : Nat) (s : Sl) (x : Option V) (c : Addr), j ≠ i → ρ[j]? = some s → σ[j]? = some x → Owned K F H s x c → H' c = H c ∧ F' c = none := fun j s x c hj h1 h2 oc => by
    obtain ⟨⟨u, hu⟩, hf, _⟩ := (r.at_ j s x h1 h2).own oc
    have hc := g5 j s x c hj h1 h2 oc
    have hl : less H fp c = some u := by rw [less_out hc]; exact hu
    refine ⟨by rw [hu]; exact b.h _ _ hl, ?_⟩
    cases q : F' c with
    | none => rfl
    | some w =>
      have := b.n c w q hf
      rw [hl] at this
      cases this
  have dis : ∀ c ∈ fp', ∀ (j : Nat) (s : Sl) (x : Option V), j ≠ i → ρ[j]? = some s → σ[j]? = some x → Owned K F H s x c → False := fun c hc j s x hj h1 h2 oc => by
    obtain ⟨⟨u, hu⟩, _, _⟩ := (r.at_ j s x h1 h2).own oc
    have hl : less H fp c = some u := by rw [less_out (g5 j s x c hj h1 h2 oc)]; exact hu
    rw [(fr c hc).2] at hl
    cases hl
  have fg : ∀ a ∈ fp', F' a = none ∧ G a = none := fun a ha => ⟨(fr a ha).1, gl.free (fr a ha).2⟩
  unfold ownAt at h
  unfold backAt at hb
  split at h
  · rename_i ds z
    rw [z] at hb
    obtain ⟨es', e1, rfl⟩ := Option.map_eq_some_iff.mp hb
    have e1 := of_unL e1
    subst e1
    obtain ⟨a, ws, rfl, k1, k2, rfl⟩ := hv'.inL
    have q := r.put (F' := F') (H' := H') (i := i) (s' := .own es') (x' := some (.ref a)) (gl.trans b.h) b.s b.f keep ⟨a, ws, rfl, k1, k2, (fg a List.mem_cons_self).1, (fg a List.mem_cons_self).2⟩ fun c oc => by
      have oc : some (V.ref a) = some (.ref c) := oc
      cases oc
      exact dis a List.mem_cons_self
    rw [es] at q
    exact q
  · rename_i o1 z
    rw [z] at hb
    cases hb
    have q := r.put (F' := F') (H' := H') (i := i) (s' := .tree o') (x' := some v) (gl.trans b.h) b.s b.f keep ⟨v, fp', rfl, hv', nd, fg⟩ fun c oc => by
      obtain ⟨v2, fp2, q1, q2, q3⟩ := oc
      cases q1
      rw [OwR.uniq o' v fp2 fp' q2 hv'] at q3
      exact dis c q3
    rw [es] at q
    exact q
  · rename_i w o1 z
    rw [z] at hb
    cases hb
    obtain ⟨e0, _⟩ := r.at_ i _ _ z hs
    cases e0
    have q := r.put (F' := F') (H' := H') (i := i) (s' := .pin v o') (x' := some v) (gl.trans b.h) b.s b.f keep ⟨rfl, v, fp', rfl, hv', nd, fg⟩ fun c oc => by
      obtain ⟨v2, fp2, q1, q2, q3⟩ := oc
      cases q1
      rw [OwR.uniq o' v fp2 fp' q2 hv'] at q3
      exact dis c q3
    rw [es] at q
    exact q
  · cases h
end
/-! #### the promise of such a def -/
def PostM (K : PySem.W.Frag) (E : XK) (v : V) (F H : Hp) (fp : List Addr) (x : R (O × D)) (Q : V → Hp → Prop) : Prop := match x with
  | .ok p => ∀ u F' H' fp', Back F H fp F' H' → OwR K F' H' p.1 v fp' → fp'.Nodup → (∀ a ∈ fp', F' a = none ∧ less H fp a = none) → Rep K F' p.2 u → Q u H'
  | .err z => ∃ o' e, z = withO o' e ∧ ∀ cls dd F' H' fp', Back F H fp F' H' → OwR K F' H' o' v fp' → fp'.Nodup → (∀ a ∈ fp', F' a = none ∧ less H fp a = none) → XD K F' e cls dd → E cls dd H'
  | .bad => False
/-- n parameters, the j-th one is the caller's own thing -/
def spM (K : PySem.W.Frag) (j n : Nat) (fn : V → O → List D → R (O × D)) : Sp := fun vs H Q E => vs.length = n ∧ ∃ F o ds us v fp, vs = us.insertIdx j v ∧ j ≤ us.length ∧ Same F H ∧ RepL K F ds us ∧ OwR K F H o v fp ∧ fp.Nodup ∧ (∀ a ∈ fp, F a = none) ∧
  PostM K (fun cls dd H' => E cls dd H') v F H fp (fn v o ds) Q
def PostSM (K : PySem.W.Frag) (W : WX) (v : V) (D : Ends) (G F : Hp) (x : SR) : Prop := match x with
  | .next ρ => ∀ σ' F' H', Same F F' → NewG G F F' → RepE K G F' H' σ' ρ → D.nx σ' H'
  | .ret z => ∃ o' d, z = withO o' d ∧ ∀ u F' H' fp', Same F F' → NewG G F F' → Same G H' → Same F' H' → OwR K F' H' o' v fp' → fp'.Nodup → (∀ a ∈ fp', F' a = none ∧ G a = none) → Rep K F' d u → D.rt u H'
  | .err e ρ => ∀ σ' F' H' cls dd, Same F F' → NewG G F F' → RepE K G F' H' σ' ρ → XD K F' e cls dd → W cls dd σ' H'
  | .bad => False
section
variable {α β : Type} {K : PySem.W.Frag} {W : WX} {w : V} {D D' : Ends} {G F F' H : Hp} {σ : St} {ρ : REnv}
theorem PostSM.ext {x : SR} (s : Same F F') (n : NewG G F F') (h : PostSM K W w D G F x) : PostSM K W w D G F' x := by
  cases x with
  | next ρ => exact fun σ' F2 H' s2 n2 r => h σ' F2 H' (s.trans s2) (n.trans n2) r
  | ret d =>
    obtain ⟨o', d', e, h⟩ := h
    exact ⟨o', d', e, fun u F2 H' fp' s2 n2 => h u F2 H' fp' (s.trans s2) (n.trans n2)⟩
  | err e ρ => exact fun σ' F2 H' cls dd s2 n2 r x => h σ' F2 H' cls dd (s.trans s2) (n.trans n2) r x
  | bad => exact h
theorem PostSM.toS {rel : Hp → α → β → Prop} {x : R α} {k : α → SR} {Q : β → Hp → Prop} (r : RepE K G F H σ ρ) (h : PostSM K W w D G F (x.toS ρ k))
    (f : ∀ a v F' H', x = .ok a → Ext F H F' H' → rel F' a v → RepE K G F' H' σ ρ → PostSM K W w D G F' (k a) → Q v H') : Post K W rel σ F H x Q := by
  cases x with
  | ok a => exact fun v F' H' e p => f a v F' H' rfl e p (r.ext e) (PostSM.ext e.f (e.newG r.g) h)
  | err e => exact fun cls dd F' H' ex p => h σ F' H' cls dd ex.f (ex.newG r.g) (r.ext ex) p
  | bad => exact h
theorem PostSM.seq {x : SR} {g : REnv → SR} {nx : St → Hp → Prop} (h : PostSM K W w D G F (x.seq g))
    (f : ∀ ρ σ' F' H', x = .next ρ → Same F F' → NewG G F F' → RepE K G F' H' σ' ρ → PostSM K W w D G F' (g ρ) → nx σ' H') : PostSM K W w { D with nx := nx } G F x := by
  cases x with
  | next ρ => exact fun σ' F' H' s n r => f ρ σ' F' H' rfl s n r (PostSM.ext s n h)
  | ret d => exact h
  | err e ρ => exact h
  | bad => exact h
theorem PostSM.ends {x : SR} {bk ct : St → Hp → Prop} (h : PostSM K W w D G F x) : PostSM K W w { D with bk := bk, ct := ct } G F x := by
  cases x with
  | next ρ => exact h
  | ret d => exact h
  | err e ρ => exact h
  | bad => exact h
end
def rsM (K : PySem.W.Frag) (W : WX) (w : V) (g : REnv → SR) : TS := fun D σ H => ∃ G F ρ, RepE K G F H σ ρ ∧ PostSM K W w D G F (g ρ)
abbrev SSM (X : Cx) (W : WX) (w : V) (s : Stmt) (g : REnv → SR) : Prop := PS X s (rsM X.K W w g)
abbrev SSsM (X : Cx) (W : WX) (w : V) (s : List Stmt) (g : REnv → SR) : Prop := PSs X s (rsM X.K W w g)
section
variable {X : Cx} {W : WX} {w : V} {st : Stmt} {rest : List Stmt} {g h : REnv → SR} {e : Expr} {f : REnv → R D} {pos : Pos}
theorem ssm_lift (hs : SS X W st g) : SSM X W w st (sNR g) := PS.dy hs fun D σ H ⟨G, F, ρ, r, p⟩ => ⟨G, F, ρ, r, by
  unfold sNR at p
  cases q : g ρ with
  | next a => rw [q] at p; exact p
  | ret a => rw [q] at p; exact p.elim
  | err a b => rw [q] at p; exact p
  | bad => rw [q] at p; exact p.elim⟩
theorem sssm_cons (h1 : SSM X W w st g) (h2 : SSsM X W w rest h) : SSsM X W w (st :: rest) (sSeq g h) :=
  (pss_cons h1 h2).dy fun D σ H ⟨G, F, ρ, r, p⟩ => ⟨G, F, ρ, r, PostSM.seq p fun ρ' σ' F' H' _ s n r' p' => ⟨G, F', ρ', r', p'⟩⟩
theorem sssm_one (h1 : SSM X W w st g) : SSsM X W w [st] g := pss_one h1
end
/-! #### defs -/
noncomputable def outM (j : Nat) (w : V) : SR → R (O × D)
  | .next ρ => match ρ[j]? with
    | some (.pin w' o) => open Classical in if w' = w then .ok (o, .non) else .bad
    | _ => .bad
  | .ret z => open Classical in if h : ∃ p : O × D, z = withO p.1 p.2 then .ok (choose h) else .bad
  | .err e ρ => match ρ[j]? with
    | some (.pin w' o) => open Classical in if w' = w then .err (withO o e) else .bad
    | _ => .bad
  | .bad => .bad
/-- n parameters, m slots in all, the thing at j -/
noncomputable def fnM (j n m : Nat) (g : V → REnv → SR) : V → O → List D → R (O × D) := fun w o ds => if ds.length + 1 = n then outM j w (g w ((ds.map .val).insertIdx j (.pin w o) ++ List.replicate (m - n) .un)) else .bad
theorem fnM_len {j n m : Nat} {g : V → REnv → SR} {w : V} {o : O} {ds : List D} (h : ds.length + 1 ≠ n) : fnM j n m g w o ds = .bad := if_neg h
section
variable {P : Program} {w : World} {K : PySem.W.Frag} {mg : Str → Option Value} {base : Heap} {x qual : Str} {params : Arguments} {body : List Stmt} {scope : Scope} {f : Addr} {fd : FuncData} {N ps : List Str} {k : Nat}
theorem ins_get {α : Type} {l : List α} {a : α} {j i : Nat} (h : j ≤ l.length) : (l.insertIdx j a)[i]? = if i < j then l[i]? else if i = j then some a else l[i - 1]? := by
  rw [List.getElem?_insertIdx]
  split
  · rfl
  · split
    · rename_i h1 h2
      rw [if_pos (by rw [h2]; exact h)]
    · rfl
theorem repE_startM {F H : Hp} {ds : List D} {us : List V} {v : V} {o : O} {fp : List Addr} {j : Nat} (s : Same F H) (r : RepL K F ds us) (hj : j ≤ us.length) (ho : OwR K F H o v fp) (nd : fp.Nodup) (fr : ∀ a ∈ fp, F a = none) :
    RepE K (less H fp) F H (L2.start N (us.insertIdx j v)) ((ds.map .val).insertIdx j (.pin v o) ++ List.replicate (N.length - (us.insertIdx j v).length) .un) := by
  have hl := r.length
  have hj' : j ≤ (ds.map Sl.val).length := by rw [List.length_map, hl]; exact hj
  have l1 : ((ds.map Sl.val).insertIdx j (.pin v o)).length = ds.length + 1 := by rw [List.length_insertIdx, if_pos hj', List.length_map]
  have l2 : (us.insertIdx j v).length = us.length + 1 := by rw [List.length_insertIdx, if_pos hj]
  have get : ∀ (i : Nat) (sl : Sl) (y : Option V), ((ds.map Sl.val).insertIdx j (.pin v o) ++ List.replicate (N.length - (us.insertIdx j v).length) .un)[i]? = some sl → (L2.start N (us.insertIdx j v))[i]? = some y →
      sl = .un ∨ (i = j ∧ sl = .pin v o ∧ y = some v) ∨ ∃ d u, sl = .val d ∧ y = some u ∧ Rep K F d u := fun i sl y h1 h2 => by
    unfold L2.start at h2
    by_cases hi : i < ds.length + 1
    · rw [List.getElem?_append_left (by rw [l1]; exact hi), ins_get hj'] at h1
      rw [List.getElem?_append_left (by rw [List.length_map, l2, ← hl]; exact hi), List.getElem?_map, ins_get hj] at h2
      by_cases c1 : i < j
      · rw [if_pos c1, List.getElem?_map] at h1
        rw [if_pos c1] at h2
        obtain ⟨d, e1, rfl⟩ := Option.map_eq_some_iff.mp h1
        obtain ⟨u, e2, rd⟩ := r.get e1
        rw [e2] at h2
        cases h2
        exact .inr (.inr ⟨d, u, rfl, rfl, rd⟩)
      · rw [if_neg c1] at h1 h2
        by_cases c2 : i = j
        · rw [if_pos c2] at h1 h2
          cases h1
          cases h2
          exact .inr (.inl ⟨c2, rfl, rfl⟩)
        · rw [if_neg c2, List.getElem?_map] at h1
          rw [if_neg c2] at h2
          obtain ⟨d, e1, rfl⟩ := Option.map_eq_some_iff.mp h1
          obtain ⟨u, e2, rd⟩ := r.get e1
          rw [e2] at h2
          cases h2
          exact .inr (.inr ⟨d, u, rfl, rfl, rd⟩)
    · rw [List.getElem?_append_right (by rw [l1]; omega), List.getElem?_replicate] at h1
      split at h1
      · cases h1; exact .inl rfl
      · cases h1
  refine ⟨less_same _ _, s, by unfold L2.start; simp [l1, l2, hl], fun i sl y h1 h2 => ?_, fun i i2 sl t y z a hij h1 h2 h3 h4 m1 m2 => ?_⟩
  · rcases get i sl y h1 h2 with rfl | ⟨_, rfl, rfl⟩ | ⟨d, u, rfl, rfl, rd⟩
    · trivial
    · exact ⟨rfl, v, fp, rfl, ho, nd, fun a ha => ⟨fr a ha, less_in ha⟩⟩
    · exact ⟨u, rfl, rd⟩
  · rcases get i sl y h1 h3 with rfl | ⟨e1, _, _⟩ | ⟨d, u, rfl, rfl, rd⟩
    · exact m1
    · rcases get i2 t z h2 h4 with rfl | ⟨e2, _, _⟩ | ⟨d, u, rfl, rfl, rd⟩
      · exact m2
      · exact hij (e1.trans e2.symm)
      · exact m2
    · exact m1
theorem okM_def {j n : Nat} {g : V → REnv → SR} (Fn : FunD K x qual params body scope [] [] f fd) (S : FnScope N ps scope) (hn : ps.length = n)
    (hb : ∀ (v : V) (cdv : Value) (A : Around) (outer : List Env) (s : Shared) (H : Hp) (E : XK), Room k (CxD P w K mg base N qual scope f cdv A outer s H E).A → Takes (CxD P w K mg base N qual scope f cdv A outer s H E) (WD E) →
      PassesOwn (model P w) (CxD P w K mg base N qual scope f cdv A outer s H E).A (CxD P w K mg base N qual scope f cdv A outer s H E).env (CxD P w K mg base N qual scope f cdv A outer s H E).xe → SSsM (CxD P w K mg base N qual scope f cdv A outer s H E) (WD E) v body (g v)) :
    FnOk P w K mg base (L2.CX P w) (k + 1) f fd ps (spM K j n (fnM j n N.length g)) := by
  classical
  refine Fn.ok S (fun vs H Q E h => by rw [hn]; exact h.1) fun cdv A outer s H vs Q E hr hsp => ?_
  obtain ⟨hv, F, o, ds, us, v, fp, rfl, hj, sm, rl, ho, nd, fr, p⟩ := hsp
  refine ⟨_, hb v cdv A outer s H E hr (takes_of rfl rfl rfl rfl) (passes_of rfl), ?_⟩
  have hl := rl.length
  have l2 : (us.insertIdx j v).length = us.length + 1 := by rw [List.length_insertIdx, if_pos hj]
  have hd : ds.length + 1 = n := by rw [hl, ← l2, hv]
  unfold fnM at p
  rw [if_pos hd] at p
  refine ⟨less H fp, F, _, repE_startM sm rl hj ho nd fr, ?_⟩
  rw [hv]
  have pinned : ∀ {ρ : REnv} {σ' : St} {F' H' : Hp} {o' : O} {w' : V}, RepE K (less H fp) F' H' σ' ρ → ρ[j]? = some (.pin w' o') → w' = v → ∃ fp', OwR K F' H' o' v fp' ∧ fp'.Nodup ∧ ∀ a ∈ fp', F' a = none ∧ less H fp a = none := fun {ρ σ' F' H' o' w'} r z e => by
    have hl : j < σ'.length := by
      rw [← r.len]
      exact (List.getElem?_eq_some_iff.mp z).1
    obtain ⟨e0, v2, fp2, e1, e2, e3, e4⟩ := r.at_ j _ _ z (List.getElem?_eq_getElem hl)
    rw [e0] at e1
    cases e1
    subst e
    exact ⟨fp2, e2, e3, e4⟩
  cases e : g v ((ds.map .val).insertIdx j (.pin v o) ++ List.replicate (N.length - n) .un) with
  | next ρ =>
    rw [e] at p
    have p : PostM K (fun cls dd H' => E cls dd H') v F H fp (match ρ[j]? with | some (.pin w' o) => if w' = v then .ok (o, .non) else .bad | _ => .bad) Q := p
    intro σ' F' H' s1 n1 r
    split at p
    · rename_i w' o' z
      by_cases hw : w' = v
      · rw [if_pos hw] at p
        obtain ⟨fp', k1, k2, k3⟩ := pinned r z hw
        exact p .non F' H' fp' ⟨s1, r.g, r.f, n1⟩ k1 k2 k3 Rep.mk_non
      · rw [if_neg hw] at p; exact p.elim
    · exact p.elim
  | ret d =>
    rw [e] at p
    by_cases hx : ∃ p : O × D, d = withO p.1 p.2
    · have p : PostM K (fun cls dd H' => E cls dd H') v F H fp (if h : ∃ p : O × D, d = withO p.1 p.2 then .ok (choose h) else .bad) Q := p
      rw [dif_pos hx] at p
      exact ⟨(choose hx).1, (choose hx).2, choose_spec hx, fun u F' H' fp' s1 n1 g1 f1 h1 h2 h3 h4 => p u F' H' fp' ⟨s1, g1, f1, n1⟩ h1 h2 h3 h4⟩
    · have p : PostM K (fun cls dd H' => E cls dd H') v F H fp (if h : ∃ p : O × D, d = withO p.1 p.2 then .ok (choose h) else .bad) Q := p
      rw [dif_neg hx] at p
      exact p.elim
  | err d ρ =>
    rw [e] at p
    have p : PostM K (fun cls dd H' => E cls dd H') v F H fp (match ρ[j]? with | some (.pin w' o) => if w' = v then .err (withO o d) else .bad | _ => .bad) Q := p
    intro σ' F' H' cls dd s1 n1 r xd
    split at p
    · rename_i w' o' z
      by_cases hw : w' = v
      · rw [if_pos hw] at p
        obtain ⟨fp', k1, k2, k3⟩ := pinned r z hw
        obtain ⟨o2, e2, e3, p⟩ := p
        obtain ⟨rfl, rfl⟩ := with_inj e3
        exact p cls dd F' H' fp' ⟨s1, r.g, r.f, n1⟩ k1 k2 k3 xd
      · rw [if_neg hw] at p; exact p.elim
    · exact p.elim
  | bad => rw [e] at p; exact p.elim
theorem outM_ret {j : Nat} {v : V} {o : O} {d : D} : outM j v (.ret (withO o d)) = .ok (o, d) := by
  classical
  have hx : ∃ p : O × D, withO o d = withO p.1 p.2 := ⟨(o, d), rfl⟩
  have e := choose_spec hx
  obtain ⟨e1, e2⟩ := with_inj e
  show (if h : ∃ p : O × D, withO o d = withO p.1 p.2 then R.ok (choose h) else .bad) = _
  rw [dif_pos hx]
  congr 1
  exact Prod.ext e1.symm e2.symm
structure CalM (P : Program) (w : World) (K : PySem.W.Frag) (mg : Str → Option Value) (base : Heap) (x : Str) (k j n : Nat) (fn : V → O → List D → R (O × D)) : Prop where
  ex : ∃ (f : Addr) (fd : FuncData) (ps : List Str), FnOk P w K mg base (L2.CX P w) k f fd ps (spM K j n fn) ∧ mg x = some (.ref f) ∧ PySem.W.keepIn K (.ref f) = true ∧ Binds K fd ps []
  len : ∀ w o ds, ds.length + 1 ≠ n → fn w o ds = .bad
theorem calM_mk {j n : Nat} {g : V → REnv → SR} (Fn : FunD K x x params body scope [] [] f fd) (hm : mg x = some (.ref f))
    (hb : ∀ (kV doc pm : Value) (an : Option Addr) (cdv ct : Value) (us : List Value), us.length = ps.length → bindArgs (PySem.W.fnOf x x params body scope .none kV doc pm an cdv ct) ⟨us, []⟩ = pure (ps.zip us))
    (ok : FnOk P w K mg base (L2.CX P w) k f fd ps (spM K j n (fnM j n N.length g))) : CalM P w K mg base x k j n (fnM j n N.length g) :=
  ⟨⟨f, fd, ps, ok, hm, Fn.kp, Fn.bindsN hb⟩, fun w o ds h => fnM_len h⟩
end
/-! #### calls of such a def -/
open Classical in
noncomputable def allV {α : Type} (x : V → R α) : R α := if h : ∃ r, ∀ v, x v = r then choose h else .bad
theorem allV_eq {α : Type} {x : V → R α} {r : R α} (h : ∀ v, x v = r) : allV x = r := by
  classical
  have hx : ∃ r, ∀ v, x v = r := ⟨r, h⟩
  unfold allV
  rw [dif_pos hx, ← choose_spec hx .non, h .non]
theorem allV_at {α : Type} {x : V → R α} {r : R α} (e : allV x = r) (h : r ≠ .bad) (v : V) : x v = r := by
  classical
  unfold allV at e
  by_cases hx : ∃ r, ∀ v, x v = r
  · rw [dif_pos hx] at e
    rw [← e]
    exact choose_spec hx v
  · rw [dif_neg hx] at e
    exact absurd e.symm h
/-- arguments, the last one the thing of one's own at slot i -/
abbrev SAM (X : Cx) (W : WX) (es : List Expr) (i : Nat) (t : REnv → R (List D)) : Prop := PA X es (fun σ H Q => ∃ G F ρ, RepE X.K G F H σ ρ ∧ Post X.K W (fun F' ds (vs : List V) => ∃ us v, vs = us ++ [v] ∧ RepL X.K F' ds us ∧ σ[i]? = some (some v)) σ F H (t ρ) Q)
def aLast (i : Nat) : REnv → R (List D) := fun ρ => match ownAt ρ i with
  | some _ => .ok []
  | none => .bad
section
variable {X : Cx} {W : WX} {e : Expr} {es : List Expr} {f : REnv → R D} {t : REnv → R (List D)} {pos : Pos} {x : Str}
theorem sam_last (i : Nat) (hN : X.N[i]? = some x := by rfl) (hv : Vis X.env.scope x := by first | exact Or.inl rfl | exact Or.inr (Or.inl rfl) | exact Or.inr (Or.inr rfl)) (hd : (x == ("__debug__" : Str)) = false := by decide) (hcd : (x == ("__classdict__" : Str)) = false := by decide)
    (hs : starEach (.Name x pos :: []) X.env = (false, eval (.Name x pos) X.env) :: starEach [] X.env := by rfl) : SAM X W [.Name x pos] i (aLast i) :=
  (pa_cons (pe_var hN hv hd hcd) pa_nil hs).dy fun σ H Q ⟨G, F, ρ, r, p⟩ => by
    unfold aLast at p
    split at p
    · rename_i o z
      obtain ⟨v, fp, e1, _⟩ := own_get r z
      exact ⟨v, e1, p [v] F H (.refl r.f) ⟨[], v, rfl, RepL.nil, e1⟩⟩
    · exact p.elim
theorem sam_cons {i : Nat} (ha : SE X W e f) (hr : SAM X W es i t) (hs : starEach (e :: es) X.env = (false, eval e X.env) :: starEach es X.env := by rfl) : SAM X W (e :: es) i (aCons f t) :=
  (pa_cons ha hr hs).dy fun σ H Q ⟨G, F, ρ, r, p⟩ => ⟨G, F, ρ, r, Post.bind p fun d v F1 H1 _ e1 r1 p1 => ⟨G, F1, ρ, r.ext e1, Post.bind p1 fun ds vs F2 H2 _ e2 r2 p2 => by
    obtain ⟨us, w, rfl, h1, h2⟩ := r2
    exact p2 (v :: (us ++ [w])) F2 H2 (.refl e2.s) ⟨v :: us, w, rfl, RepL.cons (Rep.mono e2.f _ _ r1) h1, h2⟩⟩⟩
end
def toDst (dst : Option Nat) (d : D) (ρ : REnv) : REnv := match dst with
  | some k => ρ.set k (.val d)
  | none => ρ
open Classical in
noncomputable def resM (ρ : REnv) (i : Nat) (dst : Option Nat) : R (O × D) → SR
  | .ok p => match backAt ρ i p.1 with
    | some ρ' => .next (toDst dst p.2 ρ')
    | none => .bad
  | .err z => if h : ∃ q : O × D, z = withO q.1 q.2 then (match backAt ρ i (choose h).1 with
    | some ρ' => .err (choose h).2 ρ'
    | none => .bad) else .bad
  | .bad => .bad
noncomputable def callMS (ρ : REnv) (i : Nat) (dst : Option Nat) (fn : V → O → List D → R (O × D)) (ds : List D) : SR := match ownAt ρ i with
  | some o => resM ρ i dst (allV fun v => fn v o ds)
  | none => .bad
noncomputable def sCallM (i : Nat) (dst : Option Nat) (fn : V → O → List D → R (O × D)) (t : REnv → R (List D)) : REnv → SR := fun ρ => (t ρ).toS ρ (callMS ρ i dst fn)
section
variable {X : Cx} {W : WX} {e : Expr} {es : List Expr} {x y : Str} {p pos pos' cp : Pos} {k j n i : Nat} {t : REnv → R (List D)} {fn : V → O → List D → R (O × D)}
theorem ins_last {α : Type} (us : List α) (v : α) : us.insertIdx us.length v = us ++ [v] := by
  induction us with
  | nil => rfl
  | cons a r ih => rw [List.length_cons, List.insertIdx_succ_cons, ih]; rfl
/-- what is asked of the call, the thing behind it -/
theorem callM_sp {σ : St} {G F H : Hp} {ρ : REnv} {dst : Option Nat} {ds : List D} {vs : List V} {En : Ends} {Q : V → Hp → Prop} (hj : j + 1 = n) (hlen : ∀ w o ds, ds.length + 1 ≠ n → fn w o ds = .bad) (r : RepE X.K G F H σ ρ) (rv : ∃ us v, vs = us ++ [v] ∧ RepL X.K F ds us ∧ σ[i]? = some (some v))
    (hQ : ∀ u F' H' ρ' d, Same F F' → NewG G F F' → RepE X.K G F' H' σ ρ' → Rep X.K F' d u → PostS X.K W En G F' (.next (toDst dst d ρ')) → Q u H')
    (q : PostS X.K W En G F (callMS ρ i dst fn ds)) : spM X.K j n fn vs H Q (fun cls dd H' => W cls dd σ H') := by
  classical
  obtain ⟨us, v, rfl, rl, hs⟩ := rv
  unfold callMS at q
  split at q
  case h_2 => exact q.elim
  rename_i o ho
  obtain ⟨v', fp, g1, g2, g3, g4, g5⟩ := own_get r ho
  rw [hs] at g1
  cases g1
  obtain ⟨res, ea⟩ : ∃ res, (allV fun v => fn v o ds) = res := ⟨_, rfl⟩
  rw [ea] at q
  have hnb : res ≠ .bad := fun z => by rw [z] at q; exact q
  have ev := allV_at ea hnb v
  have hd : ds.length + 1 = n := Classical.byContradiction fun z => hnb (by rw [← ev]; exact hlen v o ds z)
  have hul := rl.length
  have ej : j = us.length := by omega
  refine ⟨by rw [List.length_append, ← hul]; exact hd, F, o, ds, us, v, fp, by rw [ej, ins_last], by omega, r.f, rl, g2, g3, fun a ha => (g4 a ha).1, ?_⟩
  rw [show fn v o ds = res from ev]
  cases res with
  | bad => exact hnb rfl
  | ok p =>
    have q : PostS X.K W En G F (match backAt ρ i p.1 with | some ρ' => SR.next (toDst dst p.2 ρ') | none => .bad) := q
    intro u F' H' fp' b h1 h2 h3 h4
    cases eb : backAt ρ i p.1 with
    | none => rw [eb] at q; exact q.elim
    | some ρ' =>
      rw [eb] at q
      obtain ⟨r', ng⟩ := r.back ho hs g2 b h1 h2 h3 eb
      exact hQ u F' H' ρ' p.2 b.f ng r' h4 (PostS.ext b.f ng q)
  | err z =>
    have q : PostS X.K W En G F (if h : ∃ q : O × D, z = withO q.1 q.2 then (match backAt ρ i (choose h).1 with | some ρ' => .err (choose h).2 ρ' | none => .bad) else .bad) := q
    by_cases hx : ∃ q : O × D, z = withO q.1 q.2
    · rw [dif_pos hx] at q
      refine ⟨(choose hx).1, (choose hx).2, choose_spec hx, fun cls dd F' H' fp' b h1 h2 h3 xd => ?_⟩
      cases eb : backAt ρ i (choose hx).1 with
      | none => rw [eb] at q; exact q.elim
      | some ρ' =>
        rw [eb] at q
        obtain ⟨r', ng⟩ := r.back ho hs g2 b h1 h2 h3 eb
        exact q σ F' H' cls dd b.f ng r' xd
    · rw [dif_neg hx] at q; exact q.elim
/-- f(.., x) -/
theorem ss_callM (C : CalM X.prog X.w X.K X.mg X.base x k j n fn) (hj : j + 1 = n) (tk : Takes X W) (hr : Room k X.A)
    (ha : SAM X W (e :: es) i t) (hg : Gl X x := by rfl) (hdb : (x == ("__debug__" : Str)) = false := by decide) (he : starEach (e :: es) X.env = (false, eval e X.env) :: starEach es X.env := by rfl) (hpl : (backTo cp (starEach es X.env)).any (·.1) = false := by rfl)
    (hs : swapsWith (.Call (.Name x p) (e :: es) [] cp) none pos.line X.env = pure false := by rfl) : SS X W (.Expr (.Call (.Name x p) (e :: es) [] cp) pos) (sCallM i none fn t) := by
  obtain ⟨f, fd, ps, Fo, hm, hk, hb⟩ := C.ex
  refine (ps_expr (pe_callS (E := WE W) Fo hr hg hm hk hb (fun σ => passAt tk σ) ha hdb he hpl) hs).dy fun D σ H ⟨G, F, ρ, r, p⟩ => ⟨G, F, ρ, r, PostS.toS r p fun ds vs F' H' _ ex rv r' p' => ?_⟩
  exact callM_sp (dst := none) hj C.len r' rv (fun u F2 H2 ρ' d s n r2 rp q => q σ F2 H2 (.refl _) .refl r2) p'
/-- x.append(e), x one's own in whatever way -/
def appG (ρ : REnv) (i : Nat) (ds : List D) (d : D) : SR := if ds.length < sizeLine then (match backAt ρ i (.l ((ds ++ [d]).map .v)) with
  | some ρ' => .next ρ'
  | none => .bad) else .bad
def sAppG (i : Nat) (f : REnv → R D) : REnv → SR := fun ρ => match (ownAt ρ i).bind O.unL with
  | some ds => (f ρ).toS ρ (appG ρ i ds)
  | none => .bad
theorem ss_appG (i : Nat) {f : REnv → R D} {ap np : Pos} {xp : Pos} (he : SE X W e f) (hN : X.N[i]? = some x := by rfl) (hv : Vis X.env.scope x := by first | exact Or.inl rfl | exact Or.inr (Or.inl rfl) | exact Or.inr (Or.inr rfl)) (hd : (x == ("__debug__" : Str)) = false := by decide) (hcd : (x == ("__classdict__" : Str)) = false := by decide)
    (hbm : ∀ {te : TE} {ta : TA}, PE X (.Name x np) te → PA X [e] ta → PE X (.Call (.Attribute (.Name x np) "append" ap) [e] [] xp) (tBM X.K "list" rAppend te ta) := by exact fun h1 h2 => pe_bm PySem.F.plainAttrs_list PySem.F.slot_list_append PySem.F.type_list_append mt_append h1 h2)
    (hse : starEach (e :: []) X.env = (false, eval e X.env) :: starEach [] X.env := by rfl)
    (hs : swapsWith (.Call (.Attribute (.Name x np) "append" ap) [e] [] xp) none pos.line X.env = pure false := by rfl) : SS X W (.Expr (.Call (.Attribute (.Name x np) "append" ap) [e] [] xp) pos) (sAppG i f) :=
  (ps_expr (hbm (pe_var hN hv hd hcd) (pa_cons he pa_nil hse)) hs).dy fun D σ H ⟨G, F, ρ, r, p⟩ => by
    unfold sAppG at p
    split at p
    case h_2 => exact p.elim
    rename_i ds hb
    obtain ⟨o, ho, hu⟩ := Option.bind_eq_some_iff.mp hb
    have hu := of_unL hu
    subst hu
    obtain ⟨v, fp, g1, g2, g3, g4, g5⟩ := own_get r ho
    obtain ⟨a, ws, rfl, h2, h3, rfl⟩ := g2.inL
    refine ⟨.ref a, g1, .inl ⟨rfl, _, SqL.of h2⟩, G, F, ρ, r, PostS.toS r p fun d v F' H' _ ex rp r' p' => ?_⟩
    unfold appG at p'
    by_cases hl : ds.length < sizeLine
    · rw [if_pos hl] at p'
      split at p'
      case h_2 => exact p'.elim
      rename_i ρ' eb
      obtain ⟨v', fp', k1, k2, k3, k4, k5⟩ := own_get r' ho
      rw [g1] at k1
      cases k1
      obtain ⟨a', ws', e1, m2, m3, rfl⟩ := k2.inL
      cases e1
      have hfa : F' a = none := (k4 a List.mem_cons_self).1
      have bk : Back F' H' [a] F' (upd H' a (.lst (ws' ++ [v]))) := ⟨.refl _, fun b u q => by
        by_cases hb : b = a
        · subst hb; rw [less_in List.mem_cons_self] at q; cases q
        · rw [upd_ne hb]; exact less_same _ _ _ _ q, fun b u q => by
        by_cases hb : b = a
        · subst hb; rw [hfa] at q; cases q
        · rw [upd_ne hb]; exact r'.f _ _ q, fun b u q z => by rw [z] at q; cases q⟩
      obtain ⟨r2, ng⟩ := r'.back (o' := .l ((ds ++ [d]).map .v)) ho g1 k2 bk (OwR.ofL upd_same (m3.snoc rp)) (by simp) (fun b hb => by
        rw [List.mem_singleton.mp hb]
        exact ⟨hfa, less_in List.mem_cons_self⟩) eb
      exact ⟨a, ws', v, rfl, rfl, m2, by rw [← m3.length]; exact hl, p' σ F' _ (.refl _) .refl r2⟩
    · rw [if_neg hl] at p'; exact p'.elim
end
/-! ### weakest conditions -/
def CallsTo (fn : V → O → List D → R (O × D)) (o : O) (ds : List D) (A B : O → D → Prop) : Prop := (∃ o' d, (∀ v, fn v o ds = .ok (o', d)) ∧ A o' d) ∨ ∃ o' e, (∀ v, fn v o ds = .err (withO o' e)) ∧ B o' e
section
variable {ρ : REnv} {N : REnv → Prop} {T : D → Prop} {E : D → REnv → Prop} {f : REnv → R D} {P E' : D → Prop} {t : REnv → R (List D)} {i : Nat} {dst : Option Nat} {fn : V → O → List D → R (O × D)}
theorem sp_callM {o : O} (e : ownAt ρ i = some o) (h : (t ρ).wp (fun ds => CallsTo fn o ds (fun o' d => Got (backAt ρ i o') fun ρ' => N (toDst dst d ρ')) (fun o' e => Got (backAt ρ i o') fun ρ' => E e ρ')) (fun e => E e ρ)) : (sCallM i dst fn t ρ).wp N T E := by
  classical
  refine wp_toS (h.post fun ds hc => ?_)
  unfold callMS
  rw [e]
  show (resM ρ i dst (allV fun v => fn v o ds)).wp N T E
  rcases hc with ⟨o', d, h1, ρ', h2, h3⟩ | ⟨o', d, h1, ρ', h2, h3⟩
  · rw [allV_eq h1]
    show (match backAt ρ i o' with | some ρ' => SR.next (toDst dst d ρ') | none => .bad).wp N T E
    rw [h2]
    exact h3
  · rw [allV_eq h1]
    have hx : ∃ q : O × D, withO o' d = withO q.1 q.2 := ⟨(o', d), rfl⟩
    obtain ⟨e1, e2⟩ := with_inj (choose_spec hx)
    show (if h : ∃ q : O × D, withO o' d = withO q.1 q.2 then (match backAt ρ i (choose h).1 with | some ρ' => SR.err (choose h).2 ρ' | none => .bad) else .bad).wp N T E
    rw [dif_pos hx, ← e1, ← e2, h2]
    exact h3
theorem callsTo_ok {o o' : O} {d : D} {ds : List D} {A B : O → D → Prop} (h : ∀ v, (fn v o ds).wp (fun p => p = (o', d)) NoE) (ha : A o' d) : CallsTo fn o ds A B := .inl ⟨o', d, fun v => by
  obtain ⟨a, e, rfl⟩ := (h v).ok
  exact e, ha⟩
theorem callsTo_err {o o' : O} {e : D} {ds : List D} {A B : O → D → Prop} (h : ∀ v, (fn v o ds).wp (fun _ => False) (fun z => z = withO o' e)) (hb : B o' e) : CallsTo fn o ds A B := .inr ⟨o', e, fun v => by
  have := h v
  cases q : fn v o ds with
  | ok a => rw [q] at this; exact this.elim
  | err z => rw [q] at this; rw [show z = _ from this]
  | bad => rw [q] at this; exact this.elim, hb⟩
theorem wp_fnM {j n m : Nat} {g : V → REnv → SR} {w : V} {o : O} {ds : List D} {ρ0 : REnv} {P : O × D → Prop} {B : D → Prop} (hl : ds.length + 1 = n) (e : (ds.map .val).insertIdx j (.pin w o) ++ List.replicate (m - n) .un = ρ0)
    (h : (g w ρ0).wp (fun ρ => ∃ o', ρ[j]? = some (.pin w o') ∧ P (o', .non)) (fun z => ∃ o' d, z = withO o' d ∧ P (o', d)) (fun e ρ => ∃ o', ρ[j]? = some (.pin w o') ∧ B (withO o' e))) : (fnM j n m g w o ds).wp P B := by
  classical
  unfold fnM
  rw [if_pos hl, e]
  cases q : g w ρ0 with
  | next ρ =>
    rw [q] at h
    obtain ⟨o', h1, h2⟩ := h
    show (match ρ[j]? with | some (.pin w' o) => if w' = w then R.ok (o, D.non) else .bad | _ => .bad).wp P B
    rw [h1]
    show (if w = w then R.ok (o', D.non) else .bad).wp P B
    rw [if_pos rfl]
    exact h2
  | ret z =>
    rw [q] at h
    obtain ⟨o', d, rfl, h2⟩ := h
    rw [outM_ret]
    exact h2
  | err e ρ =>
    rw [q] at h
    obtain ⟨o', h1, h2⟩ := h
    show (match ρ[j]? with | some (.pin w' o) => if w' = w then R.err (withO o e) else .bad | _ => .bad).wp P B
    rw [h1]
    show (if w = w then R.err (withO o' e) else .bad).wp P B
    rw [if_pos rfl]
    exact h2
  | bad => rw [q] at h; exact h.elim
theorem sp_appP {w : V} {ds : List D} (e : ρ[i]? = some (.pin w (.l (ds.map .v)))) (hl : ds.length < sizeLine) (h : (f ρ).wp (fun d => Upd ρ i (.pin w (.l ((ds ++ [d]).map .v))) N) (fun e => E e ρ)) : (sAppG i f ρ).wp N T E := by
  have e1 : ownAt ρ i = some (.l (ds.map .v)) := by unfold ownAt; rw [e]
  have e2 : (ownAt ρ i).bind O.unL = some ds := by rw [e1]; exact unV_map ds
  unfold sAppG
  rw [e2]
  refine wp_toS (h.post fun d hd => ?_)
  unfold appG
  rw [if_pos hl]
  have e3 : backAt ρ i (.l ((ds ++ [d]).map .v)) = some (ρ.set i (.pin w (.l ((ds ++ [d]).map .v)))) := by unfold backAt; rw [e]
  rw [e3]
  exact hd
theorem toD_l (ds : List D) : (O.l (ds.map .v)).toD = .lst ds := by simp only [O.toD, toDs_map]
theorem wp_aLast {o : O} {P : List D → Prop} (e : ownAt ρ i = some o) (h : P []) : (aLast i ρ).wp P E' := by
  unfold aLast
  rw [e]
  exact h
theorem own_own {ds : List D} (e : ρ[i]? = some (.own ds)) : ownAt ρ i = some (.l (ds.map .v)) := by unfold ownAt; rw [e]
theorem back_own {ds es : List D} {P : REnv → Prop} (e : ρ[i]? = some (.own ds)) (h : Upd ρ i (.own es) P) : Got (backAt ρ i (.l (es.map .v))) P := ⟨_, by
  unfold backAt
  rw [e]
  show (O.unL (.l (es.map .v))).map _ = _
  rw [show O.unL (.l (es.map .v)) = some es from unV_map es]
  rfl, h⟩
end
end Dy

set_option Elab.async false
set_option linter.all false
set_option maxRecDepth 100000
/-! ### try .. except C, without a name; a def under another name -/
namespace Dy
open PySem PySem.Spec PyProof.Rows L2
def noErr : SR → SR
  | .err _ _ => .bad
  | x => x
def catchO (ks : List Str) (y : Str) (h : REnv → SR) (ρ : REnv) : D → SR
  | .exc c fs xs => if ks.contains c = true then (if isaC c y = true then noErr (h ρ) else .err (.exc c fs xs) ρ) else .bad
  | _ => .bad
def sTryO (ks : List Str) (y : Str) (g h : REnv → SR) : REnv → SR := fun ρ => match g ρ with
  | .err e ρ' => catchO ks y h ρ' e
  | u => u
section
variable {X : Cx} {W : WX} {y : Str} {body suite : List Stmt} {b₀ : Stmt} {np pos pos' : Pos} {g h : REnv → SR} {ks cs : List Str}
theorem ss_tryO (E : ExF X.K X.mg ks cs) (tk : Takes X W)
    (hb : ∀ (W : WX) (pn : List (Addr × Obj)) (xe : Value → Shared → Prop), Takes (X.tr pn xe) W → PassesOwn (model X.prog X.w) X.A X.env xe → SSs (X.tr pn xe) W body g)
    (hsu : ∀ (a : Addr) (pn : List (Addr × Obj)), SSs (X.suite a pn) (fun _ _ _ _ => False) (b₀ :: suite) h)
    (hs : X.stack = X.env :: X.outer := by rfl) (hf : X.env.frame = some X.env.locals := by rfl)
    (hg : Gl X y := by rfl) (hy : y ∈ cs := by decide) (hdb : (y == ("__debug__" : Str)) = false := by decide) :
    SS X W (.Try body [.ExceptHandler (some (.Name y np)) none (b₀ :: suite) pos'] [] [] pos) (sTryO ks y g h) := by
  refine (ps_try_only (tb := fun W' => rs X.K W' g) (ts := fun _ _ _ => rs X.K (fun _ _ _ _ => False) h) (Wout := W) hs hf ⟨hg, hdb, .inl (E.glo y hy)⟩ tk hb fun a oe _ _ pn _ _ => hsu a ((a, oe) :: pn)).dy fun D σ H ⟨G, F, ρ, r, p⟩ => ⟨G, F, ρ, r, ?_⟩
  unfold sTryO at p
  cases e : g ρ with
  | next ρ' => rw [e] at p; exact p
  | ret v => rw [e] at p; exact p
  | bad => rw [e] at p; exact p
  | err u ρ' =>
    rw [e] at p
    have p : PostS X.K W D G F (catchO ks y h ρ' u) := p
    intro σ1 F1 H1 cls dd s1 n1 r1 xd
    obtain ⟨c, fs, xs, vs, rfl, rfl, hl, hv, hd⟩ := xd
    have p : PostS X.K W D G F (if ks.contains c = true then (if isaC c y = true then noErr (h ρ') else .err (.exc c fs xs) ρ') else .bad) := p
    by_cases hk : ks.contains c = true
    · rw [if_pos hk] at p
      have hk' : c ∈ ks := by simpa using hk
      refine ⟨isaC c y, E.exm c hk' y hy, fun yes a na => ?_, fun no => ?_⟩
      · rw [if_pos yes] at p
        refine ⟨G, F1, ρ', r1, ?_⟩
        have p := PostS.ext s1 n1 p
        unfold noErr at p
        cases e2 : h ρ' with
        | next ρ2 => rw [e2] at p; exact p
        | ret v => rw [e2] at p; exact p
        | err _ _ => rw [e2] at p; exact p.elim
        | bad => rw [e2] at p; exact p.elim
      · rw [if_neg (by simp [no])] at p
        exact p σ1 F1 H1 _ dd s1 n1 r1 ⟨c, fs, xs, vs, rfl, rfl, hl, hv, hd⟩
    · rw [if_neg hk] at p
      exact p.elim
end
section
variable {ρ : REnv} {N : REnv → Prop} {T : D → Prop} {E : D → REnv → Prop} {g h : REnv → SR} {ks cs : List Str} {y : Str}
theorem sp_tryO (h1 : (g ρ).wp N T fun e ρ' => (catchO ks y h ρ' e).wp N T E) : (sTryO ks y g h ρ).wp N T E := by
  unfold sTryO
  cases e : g ρ with
  | next ρ' => rw [e] at h1; exact h1
  | ret d => rw [e] at h1; exact h1
  | err u ρ' => rw [e] at h1; exact h1
  | bad => rw [e] at h1; exact h1
theorem sp_catchO {c : Str} {fs : List Str} {xs : List D} (hk : ks.contains c = true) (hy : isaC c y = true) (h1 : (h ρ).wp N T fun _ _ => False) : (catchO ks y h ρ (.exc c fs xs)).wp N T E := by
  show SR.wp (if ks.contains c = true then (if isaC c y = true then noErr (h ρ) else .err (.exc c fs xs) ρ) else .bad) N T E
  rw [if_pos hk, if_pos hy]
  unfold noErr
  cases e : h ρ with
  | next ρ' => rw [e] at h1; exact h1
  | ret d => rw [e] at h1; exact h1
  | err u ρ' => rw [e] at h1; exact h1.elim
  | bad => rw [e] at h1; exact h1.elim
end
section
variable {P : Program} {w : World} {K : PySem.W.Frag} {mg : Str → Option Value} {base : Heap} {x q : Str} {params : Arguments} {body : List Stmt} {scope : Scope} {f : Addr} {fd : FuncData} {ps : List Str} {k : Nat}
theorem cal_ofA {n : Nat} {fn : List D → R D} (Fn : FunD K q q params body scope [] [] f fd) (hm : mg x = some (.ref f))
    (hb : ∀ (kV doc pm : Value) (an : Option Addr) (cdv ct : Value) (us : List Value), us.length = ps.length → bindArgs (PySem.W.fnOf q q params body scope .none kV doc pm an cdv ct) ⟨us, []⟩ = pure (ps.zip us))
    (ok : FnOk P w K mg base (L2.CX P w) k f fd ps (spD K n fn)) (hl : ∀ ds, ds.length ≠ n → fn ds = .bad) : Cal P w K mg base x k n fn :=
  ⟨⟨f, fd, ps, ok, hm, Fn.kp, Fn.bindsN hb⟩, hl⟩
end
/-! ### a sign in a text -/
def oInC : D → D → Option D
  | .str a, .str z => match a.cps.toList with
    | [c] => some (.bl (decide (c ∈ z.cps.toList)))
    | _ => none
  | _, _ => none
def oNinC : D → D → Option D
  | .str a, .str z => match a.cps.toList with
    | [c] => some (.bl (!decide (c ∈ z.cps.toList)))
    | _ => none
  | _, _ => none
theorem inC_inv {f : Nat → Str → Bool} {a b d : D} {o : D → D → Option D} (ho : ∀ a b, o a b = match a, b with | .str a, .str z => (match a.cps.toList with | [c] => some (.bl (f c z)) | _ => none) | _, _ => none) (h : o a b = some d) : ∃ c z, a = .str ⟨#[c]⟩ ∧ b = .str z ∧ d = .bl (f c z) := by
  rw [ho] at h
  split at h
  · rename_i a' z
    split at h
    · rename_i c hc
      cases h
      refine ⟨c, z, ?_, rfl, rfl⟩
      congr 1
      obtain ⟨⟨l⟩⟩ := a'
      simp only at hc
      subst hc
      rfl
    · cases h
  · cases h
abbrev rSgn (neg : Bool) : R2 := fun x y H Q => ∃ (c : Nat) (z : Str), x = .str ⟨#[c]⟩ ∧ y = .str z ∧ Q (.bl (if neg then !decide (c ∈ z.cps.toList) else decide (c ∈ z.cps.toList))) H
def oInX (a b : D) : Option D := (oInF a b).or (oInC a b)
def oNinX (a b : D) : Option D := (oNinF a b).or (oNinC a b)
theorem d_inX {X : Cx} : OpR X (compareOp .In) (fun x y H Q => rIn X.K false x y H Q ∨ rSgn false x y H Q) ∧ Op2 X.K (fun x y H Q => rIn X.K false x y H Q ∨ rSgn false x y H Q) oInX :=
  ⟨d_inF.1.or op_in_sign, d_inF.2.or fun F H x y a b d Q s ra rb e q => by
    obtain ⟨c, z, rfl, rfl, rfl⟩ := inC_inv (f := fun c z => decide (c ∈ z.cps.toList)) (fun a b => by cases a <;> cases b <;> rfl) e
    exact ⟨c, z, ra.str_inv, rb.str_inv, now q s Rep.mk_bl⟩⟩
theorem d_ninX {X : Cx} : OpR X (compareOp .NotIn) (fun x y H Q => rIn X.K true x y H Q ∨ rSgn true x y H Q) ∧ Op2 X.K (fun x y H Q => rIn X.K true x y H Q ∨ rSgn true x y H Q) oNinX :=
  ⟨d_ninF.1.or op_notIn_sign, d_ninF.2.or fun F H x y a b d Q s ra rb e q => by
    obtain ⟨c, z, rfl, rfl, rfl⟩ := inC_inv (f := fun c z => !decide (c ∈ z.cps.toList)) (fun a b => by cases a <;> cases b <;> rfl) e
    exact ⟨c, z, ra.str_inv, rb.str_inv, now q s Rep.mk_bl⟩⟩
theorem w_inXl {d : D} {ds : List D} {P : D → Prop} (h1 : flatD d = true) (h2 : ds.all flatD = true) (h : P (.bl (ds.any fun y => eqF y d))) : Got (oInX d (.lst ds)) P := ⟨_, by
  show (if flatD d = true ∧ ds.all flatD = true then some (D.bl (ds.any fun y => eqF y d)) else none).or _ = _
  rw [if_pos ⟨h1, h2⟩]
  rfl, h⟩
theorem w_ninXc {c : Nat} {z : Str} {P : D → Prop} (h : P (.bl (!decide (c ∈ z.cps.toList)))) : Got (oNinX (.str ⟨#[c]⟩) (.str z)) P := ⟨_, rfl, h⟩
end Dy

set_option Elab.async false
set_option linter.all false
set_option maxRecDepth 100000
/-! ### a def that hands back its own parameter; trees within an own list -/
namespace Dy
open PySem PySem.Spec PyProof.Rows L2
def PostJ (K : PySem.W.Frag) (E : XK) (v : V) (F H : Hp) (x : R D) (Q : V → Hp → Prop) : Prop := match x with
  | .ok _ => ∀ F' H', Ext F H F' H' → Q v H'
  | .err e => ∀ cls dd F' H', Ext F H F' H' → XD K F' e cls dd → E cls dd H'
  | .bad => False
/-- one parameter, which is what is told -/
def spJ (K : PySem.W.Frag) (fn : V → D → R D) : Sp := fun vs H Q E => vs.length = 1 ∧ ∃ F d v, vs = [v] ∧ Same F H ∧ Rep K F d v ∧ PostJ K (fun cls dd H' => E cls dd H') v F H (fn v d) Q
def PostSJ (K : PySem.W.Frag) (W : WX) (v : V) (D : Ends) (G F : Hp) (x : SR) : Prop := match x with
  | .next ρ => ∀ σ' F' H', Same F F' → NewG G F F' → RepE K G F' H' σ' ρ → D.nx σ' H'
  | .ret _ => ∀ F' H', Same F F' → NewG G F F' → Same G H' → Same F' H' → D.rt v H'
  | .err e ρ => ∀ σ' F' H' cls dd, Same F F' → NewG G F F' → RepE K G F' H' σ' ρ → XD K F' e cls dd → W cls dd σ' H'
  | .bad => False
section
variable {α β : Type} {K : PySem.W.Frag} {W : WX} {w : V} {D D' : Ends} {G F F' H : Hp} {σ : St} {ρ : REnv}
theorem PostSJ.ext {x : SR} (s : Same F F') (n : NewG G F F') (h : PostSJ K W w D G F x) : PostSJ K W w D G F' x := by
  cases x with
  | next ρ => exact fun σ' F2 H' s2 n2 r => h σ' F2 H' (s.trans s2) (n.trans n2) r
  | ret d => exact fun F2 H' s2 n2 => h F2 H' (s.trans s2) (n.trans n2)
  | err e ρ => exact fun σ' F2 H' cls dd s2 n2 r x => h σ' F2 H' cls dd (s.trans s2) (n.trans n2) r x
  | bad => exact h
theorem PostSJ.seq {x : SR} {g : REnv → SR} {nx : St → Hp → Prop} (h : PostSJ K W w D G F (x.seq g))
    (f : ∀ ρ σ' F' H', x = .next ρ → Same F F' → NewG G F F' → RepE K G F' H' σ' ρ → PostSJ K W w D G F' (g ρ) → nx σ' H') : PostSJ K W w { D with nx := nx } G F x := by
  cases x with
  | next ρ => exact fun σ' F' H' s n r => f ρ σ' F' H' rfl s n r (PostSJ.ext s n h)
  | ret d => exact h
  | err e ρ => exact h
  | bad => exact h
end
open Classical in
section
variable {X : Cx} {W : WX} {w : V} {st : Stmt} {rest : List Stmt} {g h : REnv → SR} {e : Expr} {f : REnv → R D} {pos : Pos}
end
section
variable {P : Program} {w : World} {K : PySem.W.Frag} {mg : Str → Option Value} {base : Heap} {x qual : Str} {params : Arguments} {body : List Stmt} {scope : Scope} {f : Addr} {fd : FuncData} {N ps : List Str} {k : Nat}
structure CalJ (P : Program) (w : World) (K : PySem.W.Frag) (mg : Str → Option Value) (base : Heap) (x : Str) (k n : Nat) (fn : V → D → R D) : Prop where
  ex : ∃ (f : Addr) (fd : FuncData) (ps : List Str), FnOk P w K mg base (L2.CX P w) k f fd ps (spJ K fn) ∧ mg x = some (.ref f) ∧ PySem.W.keepIn K (.ref f) = true ∧ Binds K fd ps []
end
/-! #### return f((.., ..)), f telling its parameter -/
open Classical in
section
variable {X : Cx} {W : WX} {sh : Sh} {x : Str} {p pos cp tp : Pos} {k n kk : Nat} {es : List Expr} {I : List Nat} {t : REnv → R (List O)} {fn : V → D → R D}
end
/-! #### return x, x a tree; calls that make trees; x.append(tree) -/
open Classical in
def tC (x : REnv → R O) (t : REnv → R (List O)) : REnv → R (List O) := fun ρ => (x ρ).bind fun o => (t ρ).bind fun os => .ok (o :: os)
theorem OwRs.append {K : PySem.W.Frag} {F H : Hp} : ∀ {os ps : List O} {vs ws : List V} {f1 f2 : List Addr}, OwRs K F H os vs f1 → OwRs K F H ps ws f2 → OwRs K F H (os ++ ps) (vs ++ ws) (f1 ++ f2)
  | [], ps, vs, ws, f1, f2, h, t => by
    simp only [OwRs] at h
    rw [h.1, h.2]
    exact t
  | o :: os, ps, vs, ws, f1, f2, h, t => by
    simp only [OwRs] at h
    obtain ⟨v, r, g1, g2, rfl, rfl, h3, h4⟩ := h
    simp only [List.cons_append, OwRs]
    exact ⟨v, r ++ ws, g1, g2 ++ f2, rfl, by rw [List.append_assoc], h3, OwRs.append h4 t⟩
theorem OwRs.one {K : PySem.W.Frag} {F H : Hp} {o : O} {v : V} {fp : List Addr} (h : OwR K F H o v fp) : OwRs K F H [o] [v] fp := by
  simp only [OwRs]
  exact ⟨v, [], fp, [], rfl, by simp, h, rfl, rfl⟩
section
variable {X : Cx} {W : WX} {sh : Sh} {e : Expr} {es : List Expr} {x y : Str} {p pos np ap xp : Pos} {k n : Nat} {I : List Nat} {t : REnv → R (List O)} {u : REnv → R (List D)} {fn : List D → R O}
end
end Dy

set_option Elab.async false
set_option linter.all false
set_option maxRecDepth 100000
/-! ### for t in x: for p in t: p.clear(), x a list of trees of one's own -/
namespace Dy
open PySem PySem.Spec PyProof.Rows L2
section
variable {K : PySem.W.Frag} {F H : Hp}
/-- what holds while the lists fq are emptied -/
structure ClI (K : PySem.W.Frag) (G F : Hp) (ρ : REnv) (i : Nat) (a : Addr) (vs : List V) (fq : List Addr) (σ : St) (H : Hp) : Prop where
  r : RepE K G F H σ ρ
  s : σ[i]? = some (some (.ref a))
  a : H a = some (.lst vs)
  q : ∀ b ∈ fq, ∃ ws, H b = some (.lst ws)
  n : ∀ (m : Nat) (s : Sl) (x : Option V) (b : Addr), ρ[m]? = some s → σ[m]? = some x → Owned K F H s x b → b ∉ fq
theorem ClI.set {G : Hp} {ρ : REnv} {i j : Nat} {a : Addr} {vs : List V} {fq : List Addr} {σ : St} {v : V} (h : ClI K G F ρ i a vs fq σ H) (hj : ρ[j]? = some .un) (hij : i ≠ j) : ClI K G F ρ i a vs fq (σ.set j (some v)) H := by
  have r2 := h.r.unset (i := j) (x := some v)
  rw [set_same hj] at r2
  refine ⟨r2, by rw [List.getElem?_set_ne (fun e => hij e.symm)]; exact h.s, h.a, h.q, fun m s x b h1 h2 ob => ?_⟩
  by_cases hm : m = j
  · subst hm
    rw [hj] at h1
    cases h1
    exact ob.elim
  · rw [List.getElem?_set_ne (fun e => hm e.symm)] at h2
    exact h.n m s x b h1 h2 ob
end
section
variable {X : Cx} {W : WX} {pos p1 p2 p3 p4 p5 p6 p7 p8 p9 : Pos} {x y z : Str}
end
section
variable {ρ : REnv} {N : REnv → Prop} {T : D → Prop} {E : D → REnv → Prop} {P E' : D → Prop} {g : REnv → SR}
end
end Dy

set_option Elab.async false
set_option linter.all false
set_option maxRecDepth 100000
/-! ### list(range(..)), pop within an expression, extend by a new list, a dict of one's own -/
namespace Dy
open PySem PySem.Spec PyProof.Rows L2
/-! #### list(range(..)) -/
def Rgs (a b : Int) : Prop := 0 ≤ a ∧ a ≤ 1000000 ∧ 0 ≤ b ∧ b ≤ 1000000
instance (a b : Int) : Decidable (Rgs a b) := by unfold Rgs; infer_instance
theorem Rgs.ok {a b : Int} (h : Rgs a b) : RgOk a b := RgOk.of_le h.1 (by have := h.2.2.2; omega) (by have := h.2.1; omega) h.2.2.1
section
variable {X : Cx} {W : WX} {a b e : Expr} {f g : REnv → R D} {p pos rp rpos : Pos} {x : REnv → R (List D)}
end
/-! #### expressions that change slots -/
def PostP (K : PySem.W.Frag) (σ : St) (G F H : Hp) (x : R (D × REnv)) (Q : V → Hp → Prop) : Prop := match x with
  | .ok p => ∀ v F' H', Same F F' → NewG G F F' → RepE K G F' H' σ p.2 → Rep K F' p.1 v → Q v H'
  | _ => False
abbrev SEP (X : Cx) (e : Expr) (f : REnv → R (D × REnv)) : Prop := PE X e (fun σ H Q => ∃ G F ρ, RepE X.K G F H σ ρ ∧ PostP X.K σ G F H (f ρ) Q)
section
variable {X : Cx} {W : WX} {e b : Expr} {es : List Expr} {f g : REnv → R D} {u : REnv → R (D × REnv)} {t : REnv → R (List D × REnv)} {pos np ap xp tp pos' : Pos} {x : Str} {kk : Nat}
end
/-! #### x.extend(a new list) -/
section
variable {X : Cx} {W : WX} {e : Expr} {y : REnv → R (List D)} {pos np ap xp : Pos} {x : Str}
end
/-! #### a dict of one's own, its keys ints -/
def putD (ks : List Key) (ds : List D) (k : Key) (d : D) : List Key × List D := if (ks.any fun j => decide (j = k)) = true then (ks, (ks.zip ds).map fun p => if p.1 = k then d else p.2) else (ks ++ [k], ds ++ [d])
section
variable {K : PySem.W.Frag} {G F H F' H' : Hp} {σ : St} {ρ : REnv}
theorem ownD_at (r : RepE K G F H σ ρ) {i : Nat} {ks : List Key} {ds : List D} (h : ρ[i]? = some (.ownD ks ds)) : ∃ a vs, σ[i]? = some (some (.ref a)) ∧ H a = some (.dK (ks.zip vs)) ∧ ks.length = vs.length ∧ RepL K F ds vs ∧ F a = none ∧ G a = none := by
  have hl : i < σ.length := by
    rw [← r.len]
    exact (List.getElem?_eq_some_iff.mp h).1
  obtain ⟨a, vs, e1, e2⟩ := r.at_ i _ _ h (List.getElem?_eq_getElem hl)
  exact ⟨a, vs, by rw [List.getElem?_eq_getElem hl, e1], e2⟩
theorem RepE.turnD (r : RepE K G F H σ ρ) {i : Nat} {ks js : List Key} {ds es : List D} {a : Addr} {ws : List V} (hi : ρ[i]? = some (.ownD ks ds)) (hs : σ[i]? = some (some (.ref a))) (hl : js.length = ws.length) (h : RepL K F es ws) :
    RepE K G F (upd H a (.dK (js.zip ws))) σ (ρ.set i (.ownD js es)) := by
  obtain ⟨a', vs, e1, e2, e4, e3, hf, hg⟩ := r.at_ i _ _ hi hs
  cases e1
  have es' : σ.set i (some (.ref a)) = σ := set_same hs
  have nab : ∀ (j : Nat) (s : Sl) (x : Option V) (b : Addr), j ≠ i → ρ[j]? = some s → σ[j]? = some x → Owned K F H s x b → b ≠ a := fun j s x b hj h1 h2 o e => by
    subst e
    exact r.ap j i s _ x _ b hj h1 hi h2 hs o rfl
  have q := r.put (F' := F) (H' := upd H a (.dK (js.zip ws))) (i := i) (s' := .ownD js es) (x' := some (.ref a)) (fun b o q => by rw [upd_ne (ne_of_none q hg)]; exact r.g _ _ q) (fun b o q => by rw [upd_ne (ne_of_none q hf)]; exact r.f _ _ q) (.refl _)
    (fun j s x b hj h1 h2 o => ⟨upd_ne (nab j s x b hj h1 h2 o), ((r.at_ j s x h1 h2).own o).2.1⟩) ⟨a, ws, rfl, upd_same, hl, h, hf, hg⟩ fun b o j s x hj h1 h2 o2 => by
      have o : some (V.ref a) = some (.ref b) := o
      cases o
      exact nab j s x a hj h1 h2 o2 rfl
  rw [es'] at q
  exact q
theorem zip_any {α : Type} {ks : List Key} {vs : List α} {k : Key} (h : ks.length = vs.length) : ((ks.zip vs).any fun kv => decide (kv.1 = k)) = ks.any fun j => decide (j = k) := by
  induction ks generalizing vs with
  | nil => rfl
  | cons j ks ih =>
    cases vs with
    | nil => cases h
    | cons v vs =>
      rw [List.zip_cons_cons, List.any_cons, ih (by simpa using h), List.any_cons]
theorem put_zip {ks : List Key} {ds : List D} {vs : List V} {k : Key} {d : D} {v : V} (hl : ks.length = vs.length) (r : RepL K F ds vs) (rv : Rep K F d v) :
    ∃ ws, putK (ks.zip vs) k v = (putD ks ds k d).1.zip ws ∧ (putD ks ds k d).1.length = ws.length ∧ RepL K F (putD ks ds k d).2 ws := by
  unfold putK putD
  rw [zip_any hl]
  by_cases hc : (ks.any fun j => decide (j = k)) = true
  · rw [if_pos hc, if_pos hc]
    refine ⟨(ks.zip vs).map fun p => if p.1 = k then v else p.2, ?_, ?_, ?_⟩
    · clear r hc
      induction ks generalizing vs with
      | nil => rfl
      | cons j ks ih =>
        cases vs with
        | nil => rfl
        | cons u vs =>
          rw [List.zip_cons_cons, List.map_cons, List.map_cons, List.zip_cons_cons, ih (by simpa using hl)]
          by_cases e : j = k <;> simp [e]
    · simp [hl]
    · clear hc
      induction ks generalizing vs ds with
      | nil => exact RepL.nil
      | cons j ks ih =>
        cases vs with
        | nil => cases hl
        | cons u vs =>
          cases ds with
          | nil => simp only [RepL] at r; cases r
          | cons d' ds =>
            simp only [RepL] at r
            obtain ⟨u', r', e1, h1, h2⟩ := r
            cases e1
            rw [List.zip_cons_cons, List.map_cons, List.zip_cons_cons, List.map_cons]
            refine RepL.cons ?_ (ih (by simpa using hl) h2)
            by_cases e : j = k
            · simp only [e, if_true]; exact rv
            · simp only [e, if_false]; exact h1
  · rw [if_neg hc, if_neg hc]
    exact ⟨vs ++ [v], by rw [List.zip_append hl]; rfl, by simp [hl], r.snoc rv⟩
end
section
variable {X : Cx} {W : WX} {e b : Expr} {f g : REnv → R D} {st : Stmt} {h : REnv → SR} {pos sp np pos' dp : Pos} {x : Str}
end
section
variable {ρ : REnv} {N : REnv → Prop} {T : D → Prop} {E : D → REnv → Prop} {P E' : D → Prop} {f g : REnv → R D} {h : REnv → SR} {u : REnv → R (D × REnv)} {x : REnv → R (List D)} {Q : List D → Prop}
end
end Dy

set_option Elab.async false
set_option linter.all false
set_option maxRecDepth 100000
/-! ### objects of a class, one's own: their defs, calls of these, fields -/
namespace Dy
open PySem PySem.Spec PyProof.Rows L2
open Classical (choose choose_spec)
section
variable {K : PySem.W.Frag} {G F H F' H' : Hp} {σ : St} {ρ : REnv} {i : Nat} {w : Option V} {c c' : Str} {ks ks' : List Str} {os os' : List O} {v : V} {fp fp' : List Addr}
theorem obj_at (r : RepE K G F H σ ρ) (h : ρ[i]? = some (.obj w c ks os)) : ∃ v fp, σ[i]? = some (some v) ∧ ObR K F H c ks os v fp ∧ fp.Nodup ∧ (∀ a ∈ fp, F a = none ∧ G a = none) ∧
    (∀ (j : Nat) (s : Sl) (x : Option V) (b : Addr), j ≠ i → ρ[j]? = some s → σ[j]? = some x → Owned K F H s x b → b ∉ fp) ∧ ∀ u, w = some u → v = u := by
  have hl : i < σ.length := by
    rw [← r.len]
    exact (List.getElem?_eq_some_iff.mp h).1
  obtain ⟨e0, v, fp, e1, e2, e3, e4⟩ := r.at_ i _ _ h (List.getElem?_eq_getElem hl)
  have hs : σ[i]? = some (some v) := by rw [List.getElem?_eq_getElem hl, e1]
  refine ⟨v, fp, hs, e2, e3, e4, fun j s x b hj h1 h2 ob hb => r.ap j i s _ x _ b hj h1 h h2 hs ob ⟨v, fp, rfl, e2, hb⟩, fun u hu => ?_⟩
  have := e0 u hu
  rw [e1] at this
  cases this
  rfl
theorem RepE.backB (r : RepE K G F H σ ρ) (h : ρ[i]? = some (.obj w c ks os)) (hs : σ[i]? = some (some v)) (hv : ObR K F H c ks os v fp) (b : Back F H fp F' H') (hv' : ObR K F' H' c' ks' os' v fp') (nd : fp'.Nodup) (fr : ∀ a ∈ fp', F' a = none ∧ less H fp a = none) :
    RepE K G F' H' σ (ρ.set i (.obj w c' ks' os')) ∧ NewG G F F' := by
  obtain ⟨v1, fp1, g1, g2, g3, g4, g5, g6⟩ := obj_at r h
  rw [hs] at g1
  cases g1
  rw [ObR.uniq g2 hv] at g3 g4 g5
  have gk : ∀ a ∈ fp, G a = none := fun a ha => (g4 a ha).2
  have gl := less_of r.g gk
  have ng := b.newG r.g gk
  refine ⟨?_, ng⟩
  have es : σ.set i (some v) = σ := set_same hs
  have keep : ∀ (j : Nat) (s : Sl) (x : Option V) (c : Addr), j ≠ i → ρ[j]? = some s → σ[j]? = some x → Owned K F H s x c → H' c = H c ∧ F' c = none := fun j s x c hj h1 h2 oc => by
    obtain ⟨⟨u, hu⟩, hf, _⟩ := (r.at_ j s x h1 h2).own oc
    have hc := g5 j s x c hj h1 h2 oc
    have hl : less H fp c = some u := by rw [less_out hc]; exact hu
    refine ⟨by rw [hu]; exact b.h _ _ hl, ?_⟩
    cases q : F' c with
    | none => rfl
    | some w =>
      have := b.n c w q hf
      rw [hl] at this
      cases this
  have dis : ∀ c ∈ fp', ∀ (j : Nat) (s : Sl) (x : Option V), j ≠ i → ρ[j]? = some s → σ[j]? = some x → Owned K F H s x c → False := fun c hc j s x hj h1 h2 oc => by
    obtain ⟨⟨u, hu⟩, _, _⟩ := (r.at_ j s x h1 h2).own oc
    have hl : less H fp c = some u := by rw [less_out (g5 j s x c hj h1 h2 oc)]; exact hu
    rw [(fr c hc).2] at hl
    cases hl
  have fg : ∀ a ∈ fp', F' a = none ∧ G a = none := fun a ha => ⟨(fr a ha).1, gl.free (fr a ha).2⟩
  have q := r.put (F' := F') (H' := H') (i := i) (s' := .obj w c' ks' os') (x' := some v) (gl.trans b.h) b.s b.f keep ⟨fun u hu => by rw [g6 u hu], v, fp', rfl, hv', nd, fg⟩ fun c oc => by
    obtain ⟨v2, fp2, q1, q2, q3⟩ := oc
    cases q1
    rw [ObR.uniq q2 hv'] at q3
    exact dis c q3
  rw [es] at q
  exact q
/-- the object known as it stands, for a while -/
theorem RepE.freezeB (r : RepE K G F H σ ρ) (h : ρ[i]? = some (.obj w c ks os)) : ∃ v fp, σ[i]? = some (some v) ∧ ObR K F H c ks os v fp ∧ fp.Nodup ∧ (∀ a ∈ fp, F a = none ∧ G a = none) ∧ (∀ u, w = some u → v = u) ∧ Same F (addF F H fp) ∧ RepE K G (addF F H fp) H σ (ρ.set i (.fob c ks (O.toDs os))) := by
  obtain ⟨v, fp, hs, e2, e3, e4, e5, e6⟩ := obj_at r h
  have sm : Same F (addF F H fp) := addF_same fun a ha => (e4 a ha).1
  have es : σ.set i (some v) = σ := set_same hs
  refine ⟨v, fp, hs, e2, e3, e4, e6, sm, ?_⟩
  obtain ⟨a, dx, vs, fq, h1, h2, h3, h4, h5, h6⟩ := e2
  subst h1
  have q := r.put (F' := addF F H fp) (H' := H) (i := i) (s' := .fob c ks (O.toDs os)) (x' := some (.ref a)) r.g (addF_H r.f) sm
    (fun j s x b hj h1 h2 o => ⟨rfl, by rw [addF_out (e5 j s x b hj h1 h2 o)]; exact ((r.at_ j s x h1 h2).own o).2.1⟩)
    ⟨a, dx, vs, rfl, by rw [addF_in (by rw [h5]; exact List.mem_cons_self)]; exact h2, h4, OwRs.frz sm os vs fq h6 fun b hb => addF_in (by rw [h5]; exact List.mem_cons_of_mem _ (List.mem_cons_of_mem _ hb))⟩ fun b o => o.elim
  rw [es] at q
  exact q
end
/-! #### the promise of a def of the class -/
def PostB (K : PySem.W.Frag) (E : XK) (c : Str) (ks : List Str) (v : V) (F H : Hp) (fp : List Addr) (x : R (O × D)) (Q : V → Hp → Prop) : Prop := match x with
  | .ok p => ∃ os, p.1 = .t os ∧ ∀ u F' H' fp', Back F H fp F' H' → ObR K F' H' c ks os v fp' → fp'.Nodup → (∀ a ∈ fp', F' a = none ∧ less H fp a = none) → Rep K F' p.2 u → Q u H'
  | .err z => ∃ os e, z = withO (.t os) e ∧ ∀ cls dd F' H' fp', Back F H fp F' H' → ObR K F' H' c ks os v fp' → fp'.Nodup → (∀ a ∈ fp', F' a = none ∧ less H fp a = none) → XD K F' e cls dd → E cls dd H'
  | .bad => False
/-- n parameters, the first one the object: of class c, with the fields ks, behind it ks' -/
def spB (K : PySem.W.Frag) (c : Str) (ks ks' : List Str) (n : Nat) (fn : V → List O → List D → R (O × D)) : Sp := fun vs H Q E => vs.length = n ∧ ∃ F os ds us v fp, vs = v :: us ∧ Same F H ∧ RepL K F ds us ∧ ObR K F H c ks os v fp ∧ fp.Nodup ∧ (∀ a ∈ fp, F a = none) ∧
  PostB K (fun cls dd H' => E cls dd H') c ks' v F H fp (fn v os ds) Q
def PostSB (K : PySem.W.Frag) (W : WX) (c : Str) (ks : List Str) (v : V) (D : Ends) (G F : Hp) (x : SR) : Prop := match x with
  | .next ρ => ∀ σ' F' H', Same F F' → NewG G F F' → RepE K G F' H' σ' ρ → D.nx σ' H'
  | .ret z => ∃ os' d, z = withO (.t os') d ∧ ∀ u F' H' fp', Same F F' → NewG G F F' → Same G H' → Same F' H' → ObR K F' H' c ks os' v fp' → fp'.Nodup → (∀ a ∈ fp', F' a = none ∧ G a = none) → Rep K F' d u → D.rt u H'
  | .err e ρ => ∀ σ' F' H' cls dd, Same F F' → NewG G F F' → RepE K G F' H' σ' ρ → XD K F' e cls dd → W cls dd σ' H'
  | .bad => False
section
variable {α β : Type} {K : PySem.W.Frag} {W : WX} {c : Str} {ks : List Str} {w : V} {D D' : Ends} {G F F' H : Hp} {σ : St} {ρ : REnv}
theorem PostSB.ext {x : SR} (s : Same F F') (n : NewG G F F') (h : PostSB K W c ks w D G F x) : PostSB K W c ks w D G F' x := by
  cases x with
  | next ρ => exact fun σ' F2 H' s2 n2 r => h σ' F2 H' (s.trans s2) (n.trans n2) r
  | ret d =>
    obtain ⟨o', d', e, h⟩ := h
    exact ⟨o', d', e, fun u F2 H' fp' s2 n2 => h u F2 H' fp' (s.trans s2) (n.trans n2)⟩
  | err e ρ => exact fun σ' F2 H' cls dd s2 n2 r x => h σ' F2 H' cls dd (s.trans s2) (n.trans n2) r x
  | bad => exact h
theorem PostSB.toS {rel : Hp → α → β → Prop} {x : R α} {k : α → SR} {Q : β → Hp → Prop} (r : RepE K G F H σ ρ) (h : PostSB K W c ks w D G F (x.toS ρ k))
    (f : ∀ a v F' H', x = .ok a → Ext F H F' H' → rel F' a v → RepE K G F' H' σ ρ → PostSB K W c ks w D G F' (k a) → Q v H') : Post K W rel σ F H x Q := by
  cases x with
  | ok a => exact fun v F' H' e p => f a v F' H' rfl e p (r.ext e) (PostSB.ext e.f (e.newG r.g) h)
  | err e => exact fun cls dd F' H' ex p => h σ F' H' cls dd ex.f (ex.newG r.g) (r.ext ex) p
  | bad => exact h
theorem PostSB.seq {x : SR} {g : REnv → SR} {nx : St → Hp → Prop} (h : PostSB K W c ks w D G F (x.seq g))
    (f : ∀ ρ σ' F' H', x = .next ρ → Same F F' → NewG G F F' → RepE K G F' H' σ' ρ → PostSB K W c ks w D G F' (g ρ) → nx σ' H') : PostSB K W c ks w { D with nx := nx } G F x := by
  cases x with
  | next ρ => exact fun σ' F' H' s n r => f ρ σ' F' H' rfl s n r (PostSB.ext s n h)
  | ret d => exact h
  | err e ρ => exact h
  | bad => exact h
end
def rsB (K : PySem.W.Frag) (W : WX) (c : Str) (ks : List Str) (w : V) (g : REnv → SR) : TS := fun D σ H => ∃ G F ρ, RepE K G F H σ ρ ∧ PostSB K W c ks w D G F (g ρ)
abbrev SSB (X : Cx) (W : WX) (c : Str) (ks : List Str) (w : V) (s : Stmt) (g : REnv → SR) : Prop := PS X s (rsB X.K W c ks w g)
abbrev SSsB (X : Cx) (W : WX) (c : Str) (ks : List Str) (w : V) (s : List Stmt) (g : REnv → SR) : Prop := PSs X s (rsB X.K W c ks w g)
section
variable {X : Cx} {W : WX} {c : Str} {ks : List Str} {w : V} {st : Stmt} {rest : List Stmt} {g h : REnv → SR} {e : Expr} {f : REnv → R D} {pos : Pos}
theorem ssb_lift (hs : SS X W st g) : SSB X W c ks w st (sNR g) := PS.dy hs fun D σ H ⟨G, F, ρ, r, p⟩ => ⟨G, F, ρ, r, by
  unfold sNR at p
  cases q : g ρ with
  | next a => rw [q] at p; exact p
  | ret a => rw [q] at p; exact p.elim
  | err a b => rw [q] at p; exact p
  | bad => rw [q] at p; exact p.elim⟩
theorem sssb_nil : SSsB X W c ks w [] sSkip := pss_nil.dy fun D σ H ⟨G, F, ρ, r, p⟩ => p σ F H (.refl _) .refl r
theorem sssb_cons (h1 : SSB X W c ks w st g) (h2 : SSsB X W c ks w rest h) : SSsB X W c ks w (st :: rest) (sSeq g h) :=
  (pss_cons h1 h2).dy fun D σ H ⟨G, F, ρ, r, p⟩ => ⟨G, F, ρ, r, PostSB.seq p fun ρ' σ' F' H' _ s n r' p' => ⟨G, F', ρ', r', p'⟩⟩
theorem sssb_one (h1 : SSB X W c ks w st g) : SSsB X W c ks w [st] g := pss_one h1
theorem ssb_if {q : Expr} {a b : List Stmt} {u : REnv → R Bool} (hc : ST X W q u) (ha : SSsB X W c ks w a g) (hb : SSsB X W c ks w b h) : SSB X W c ks w (.If q a b pos) (sIf u g h) :=
  (ps_if hc ha hb).dy fun D σ H ⟨G, F, ρ, r, p⟩ => ⟨G, F, ρ, r, PostSB.toS r p fun k v F' H' _ ex rp r' p' => by
    subst rp
    cases k with
    | true => exact ⟨G, F', ρ, r', p'⟩
    | false => exact ⟨G, F', ρ, r', p'⟩⟩
/-- d is told, with the object at the first slot -/
def retB (c : Str) (ks : List Str) (w : V) (ρ : REnv) (d : D) : SR := match ρ[(0 : Nat)]? with
  | some (.obj (some w') c' ks' os) => open Classical in if w' = w ∧ c' = c ∧ ks' = ks then .ret (withO (.t os) d) else .bad
  | _ => .bad
theorem ret_obj {K : PySem.W.Frag} {G F H : Hp} {σ : St} {ρ : REnv} {En : Ends} {d : D} {v : V} (r : RepE K G F H σ ρ) (rp : Rep K F d v) (p : PostSB K W c ks w En G F (retB c ks w ρ d)) : En.rt v H := by
  classical
  unfold retB at p
  split at p
  · rename_i w' c' ks' os z
    by_cases hw : w' = w ∧ c' = c ∧ ks' = ks
    · rw [if_pos hw] at p
      obtain ⟨rfl, rfl, rfl⟩ := hw
      obtain ⟨o', d', e, p⟩ := p
      obtain ⟨e1, rfl⟩ := with_inj e
      cases e1
      obtain ⟨v2, fp, e1, e2, e3, e4, e5, e6⟩ := obj_at r z
      rw [e6 _ rfl] at e2
      exact p v F H fp (.refl _) .refl r.g r.f e2 e3 e4 rp
    · rw [if_neg hw] at p; exact p.elim
  · exact p.elim
def sRetB (c : Str) (ks : List Str) (w : V) (f : REnv → R D) : REnv → SR := fun ρ => (f ρ).toS ρ (retB c ks w ρ)
theorem ssb_ret (he : SE X W e f) : SSB X W c ks w (.Return (some e) pos) (sRetB c ks w f) :=
  (ps_ret he).dy fun D σ H ⟨G, F, ρ, r, p⟩ => ⟨G, F, ρ, r, PostSB.toS r p fun d v F' H' _ ex rp r' p' => ret_obj r' rp p'⟩
/-- .. where e changes slots -/
def sRetBP (c : Str) (ks : List Str) (w : V) (u : REnv → R (D × REnv)) : REnv → SR := fun ρ => match u ρ with
  | .ok p => retB c ks w p.2 p.1
  | _ => .bad
theorem ssb_retP {u : REnv → R (D × REnv)} (he : SEP X e u) : SSB X W c ks w (.Return (some e) pos) (sRetBP c ks w u) :=
  (ps_ret he).dy fun D σ H ⟨G, F, ρ, r, p⟩ => ⟨G, F, ρ, r, by
    unfold sRetBP at p
    cases z : u ρ with
    | bad => rw [z] at p; exact p.elim
    | err z' => rw [z] at p; exact p.elim
    | ok q =>
      rw [z] at p
      exact fun v F1 H1 s1 n1 r1 rv => ret_obj r1 rv (PostSB.ext s1 n1 p)⟩
end
/-! #### such a def -/
noncomputable def outB (c : Str) (ks : List Str) (w : V) : SR → R (O × D)
  | .next ρ => match ρ[(0 : Nat)]? with
    | some (.obj (some w') c' ks' os) => open Classical in if w' = w ∧ c' = c ∧ ks' = ks then .ok (.t os, .non) else .bad
    | _ => .bad
  | .ret z => open Classical in if h : ∃ p : List O × D, z = withO (.t p.1) p.2 then .ok (.t (choose h).1, (choose h).2) else .bad
  | .err e ρ => match ρ[(0 : Nat)]? with
    | some (.obj (some w') c' ks' os) => open Classical in if w' = w ∧ c' = c ∧ ks' = ks then .err (withO (.t os) e) else .bad
    | _ => .bad
  | .bad => .bad
/-- n parameters, m slots in all -/
noncomputable def fnB (c : Str) (ks ks' : List Str) (n m : Nat) (g : V → REnv → SR) : V → List O → List D → R (O × D) := fun w os ds => if ds.length + 1 = n then outB c ks' w (g w (.obj (some w) c ks os :: ds.map .val ++ List.replicate (m - n) .un)) else .bad
theorem fnB_len {c : Str} {ks ks' : List Str} {n m : Nat} {g : V → REnv → SR} {w : V} {os : List O} {ds : List D} (h : ds.length + 1 ≠ n) : fnB c ks ks' n m g w os ds = .bad := if_neg h
section
variable {P : Program} {w : World} {K : PySem.W.Frag} {mg : Str → Option Value} {base : Heap} {x qual : Str} {params : Arguments} {body : List Stmt} {scope : Scope} {f : Addr} {fd : FuncData} {N ps : List Str} {k : Nat} {c m : Str} {ks ks' : List Str}
theorem repE_startB {F H : Hp} {ds : List D} {us : List V} {v : V} {os : List O} {fp : List Addr} (s : Same F H) (r : RepL K F ds us) (ho : ObR K F H c ks os v fp) (nd : fp.Nodup) (fr : ∀ a ∈ fp, F a = none) :
    RepE K (less H fp) F H (L2.start N (v :: us)) (.obj (some v) c ks os :: ds.map .val ++ List.replicate (N.length - (us.length + 1)) .un) := by
  have hl := r.length
  have get : ∀ (i : Nat) (sl : Sl) (y : Option V), (Sl.obj (some v) c ks os :: ds.map Sl.val ++ List.replicate (N.length - (us.length + 1)) .un)[i]? = some sl → (L2.start N (v :: us))[i]? = some y →
      sl = .un ∨ (i = 0 ∧ sl = .obj (some v) c ks os ∧ y = some v) ∨ ∃ d u, sl = .val d ∧ y = some u ∧ Rep K F d u := fun i sl y h1 h2 => by
    unfold L2.start at h2
    cases i with
    | zero =>
      simp only [List.cons_append, List.getElem?_cons_zero, List.map_cons] at h1 h2
      cases h1
      cases h2
      exact .inr (.inl ⟨rfl, rfl, rfl⟩)
    | succ i =>
      simp only [List.cons_append, List.getElem?_cons_succ, List.map_cons] at h1 h2
      by_cases hi : i < ds.length
      · rw [List.getElem?_append_left (by rw [List.length_map]; exact hi), List.getElem?_map] at h1
        rw [List.getElem?_append_left (by rw [List.length_map, ← hl]; exact hi), List.getElem?_map] at h2
        obtain ⟨d, e1, rfl⟩ := Option.map_eq_some_iff.mp h1
        obtain ⟨u, e2, rd⟩ := r.get e1
        rw [e2] at h2
        cases h2
        exact .inr (.inr ⟨d, u, rfl, rfl, rd⟩)
      · rw [List.getElem?_append_right (by rw [List.length_map]; omega), List.getElem?_replicate] at h1
        split at h1
        · cases h1; exact .inl rfl
        · cases h1
  refine ⟨less_same _ _, s, by unfold L2.start; simp [hl], fun i sl y h1 h2 => ?_, fun i i2 sl t y z a hij h1 h2 h3 h4 m1 m2 => ?_⟩
  · rcases get i sl y h1 h2 with rfl | ⟨_, rfl, rfl⟩ | ⟨d, u, rfl, rfl, rd⟩
    · trivial
    · exact ⟨fun u hu => hu, v, fp, rfl, ho, nd, fun a ha => ⟨fr a ha, less_in ha⟩⟩
    · exact ⟨u, rfl, rd⟩
  · rcases get i sl y h1 h3 with rfl | ⟨e1, _, _⟩ | ⟨d, u, rfl, rfl, rd⟩
    · exact m1
    · rcases get i2 t z h2 h4 with rfl | ⟨e2, _, _⟩ | ⟨d, u, rfl, rfl, rd⟩
      · exact m2
      · exact hij (e1.trans e2.symm)
      · exact m2
    · exact m1
theorem okB_def {n : Nat} {g : V → REnv → SR} (Fn : FunD K x qual params body scope [] [] f fd) (S : FnScope N ps scope) (hn : ps.length = n)
    (hb : ∀ (v : V) (cdv : Value) (A : Around) (outer : List Env) (s : Shared) (H : Hp) (E : XK), Room k (CxD P w K mg base N qual scope f cdv A outer s H E).A → Takes (CxD P w K mg base N qual scope f cdv A outer s H E) (WD E) →
      PassesOwn (model P w) (CxD P w K mg base N qual scope f cdv A outer s H E).A (CxD P w K mg base N qual scope f cdv A outer s H E).env (CxD P w K mg base N qual scope f cdv A outer s H E).xe → SSsB (CxD P w K mg base N qual scope f cdv A outer s H E) (WD E) c ks' v body (g v)) :
    FnOk P w K mg base (L2.CX P w) (k + 1) f fd ps (spB K c ks ks' n (fnB c ks ks' n N.length g)) := by
  classical
  refine Fn.ok S (fun vs H Q E h => by rw [hn]; exact h.1) fun cdv A outer s H vs Q E hr hsp => ?_
  obtain ⟨hv, F, os, ds, us, v, fp, rfl, sm, rl, ho, nd, fr, p⟩ := hsp
  refine ⟨_, hb v cdv A outer s H E hr (takes_of rfl rfl rfl rfl) (passes_of rfl), ?_⟩
  have hl := rl.length
  have hv : us.length + 1 = n := hv
  have hd : ds.length + 1 = n := by rw [hl, hv]
  unfold fnB at p
  rw [if_pos hd] at p
  refine ⟨less H fp, F, _, repE_startB sm rl ho nd fr, ?_⟩
  rw [hv]
  have pinned : ∀ {ρ : REnv} {σ' : St} {F' H' : Hp} {os' : List O} {w' : V}, RepE K (less H fp) F' H' σ' ρ → ρ[(0 : Nat)]? = some (.obj (some w') c ks' os') → w' = v → ∃ fp', ObR K F' H' c ks' os' v fp' ∧ fp'.Nodup ∧ ∀ a ∈ fp', F' a = none ∧ less H fp a = none := fun {ρ σ' F' H' os' w'} r z e => by
    obtain ⟨v2, fp2, e1, e2, e3, e4, e5, e6⟩ := obj_at r z
    rw [e6 _ rfl, e] at e2
    exact ⟨fp2, e2, e3, e4⟩
  cases e : g v (.obj (some v) c ks os :: ds.map .val ++ List.replicate (N.length - n) .un) with
  | next ρ =>
    rw [e] at p
    have p : PostB K (fun cls dd H' => E cls dd H') c ks' v F H fp (match ρ[(0 : Nat)]? with | some (.obj (some w') c' ks2 os) => if w' = v ∧ c' = c ∧ ks2 = ks' then .ok (.t os, .non) else .bad | _ => .bad) Q := p
    intro σ' F' H' s1 n1 r
    split at p
    · rename_i w' c' ks2 os' z
      by_cases hw : w' = v ∧ c' = c ∧ ks2 = ks'
      · rw [if_pos hw] at p
        obtain ⟨hw, rfl, rfl⟩ := hw
        obtain ⟨fp', k1, k2, k3⟩ := pinned r z hw
        obtain ⟨o2, e2, p⟩ := p
        cases e2
        exact p .non F' H' fp' ⟨s1, r.g, r.f, n1⟩ k1 k2 k3 Rep.mk_non
      · rw [if_neg hw] at p; exact p.elim
    · exact p.elim
  | ret d =>
    rw [e] at p
    by_cases hx : ∃ p : List O × D, d = withO (.t p.1) p.2
    · have p : PostB K (fun cls dd H' => E cls dd H') c ks' v F H fp (if h : ∃ p : List O × D, d = withO (.t p.1) p.2 then .ok (.t (choose h).1, (choose h).2) else .bad) Q := p
      rw [dif_pos hx] at p
      obtain ⟨o2, e2, p⟩ := p
      have e2 : O.t (choose hx).1 = .t o2 := e2
      injection e2 with e2
      exact ⟨(choose hx).1, (choose hx).2, choose_spec hx, fun u F' H' fp' s1 n1 g1 f1 h1 h2 h3 h4 => p u F' H' fp' ⟨s1, g1, f1, n1⟩ (by rw [← e2]; exact h1) h2 h3 h4⟩
    · have p : PostB K (fun cls dd H' => E cls dd H') c ks' v F H fp (if h : ∃ p : List O × D, d = withO (.t p.1) p.2 then .ok (.t (choose h).1, (choose h).2) else .bad) Q := p
      rw [dif_neg hx] at p
      exact p.elim
  | err d ρ =>
    rw [e] at p
    have p : PostB K (fun cls dd H' => E cls dd H') c ks' v F H fp (match ρ[(0 : Nat)]? with | some (.obj (some w') c' ks2 os) => if w' = v ∧ c' = c ∧ ks2 = ks' then .err (withO (.t os) d) else .bad | _ => .bad) Q := p
    intro σ' F' H' cls dd s1 n1 r xd
    split at p
    · rename_i w' c' ks2 os' z
      by_cases hw : w' = v ∧ c' = c ∧ ks2 = ks'
      · rw [if_pos hw] at p
        obtain ⟨hw, rfl, rfl⟩ := hw
        obtain ⟨fp', k1, k2, k3⟩ := pinned r z hw
        obtain ⟨o2, e2, e3, p⟩ := p
        obtain ⟨q1, rfl⟩ := with_inj e3
        cases q1
        exact p cls dd F' H' fp' ⟨s1, r.g, r.f, n1⟩ k1 k2 k3 xd
      · rw [if_neg hw] at p; exact p.elim
    · exact p.elim
  | bad => rw [e] at p; exact p.elim
theorem outB_ret {v : V} {os : List O} {d : D} : outB c ks v (.ret (withO (.t os) d)) = .ok (.t os, d) := by
  classical
  have hx : ∃ p : List O × D, withO (.t os) d = withO (.t p.1) p.2 := ⟨(os, d), rfl⟩
  have e := choose_spec hx
  obtain ⟨e1, e2⟩ := with_inj e
  injection e1 with e1
  show (if h : ∃ p : List O × D, withO (.t os) d = withO (.t p.1) p.2 then R.ok (O.t (choose h).1, (choose h).2) else .bad) = _
  rw [dif_pos hx, ← e1, ← e2]
/-- a def of the class, to be called -/
structure CalB (P : Program) (w : World) (K : PySem.W.Frag) (mg : Str → Option Value) (base : Heap) (c m : Str) (k : Nat) (ks ks' : List Str) (n : Nat) (fn : V → List O → List D → R (O × D)) : Prop where
  ex : ∃ (f : Addr) (fd : FuncData) (ps : List Str), FnOk P w K mg base (L2.CX P w) k f fd ps (spB K c ks ks' n fn) ∧ Meth K (He.ga K c) m f ∧ Binds K fd ps []
  cls : Cls K (He.ga K c)
  no : ks.contains m = false
  len : ∀ w os ds, ds.length + 1 ≠ n → fn w os ds = .bad
theorem calB_mk {n : Nat} {g : V → REnv → SR} (Fn : FunD K m qual params body scope [] [] f fd) (hm : Meth K (He.ga K c) m f) (hc : Cls K (He.ga K c)) (no : ks.contains m = false)
    (hb : ∀ (kV doc pm : Value) (an : Option Addr) (cdv ct : Value) (us : List Value), us.length = ps.length → bindArgs (PySem.W.fnOf m qual params body scope .none kV doc pm an cdv ct) ⟨us, []⟩ = pure (ps.zip us))
    (ok : FnOk P w K mg base (L2.CX P w) k f fd ps (spB K c ks ks' n (fnB c ks ks' n N.length g))) : CalB P w K mg base c m k ks ks' n (fnB c ks ks' n N.length g) :=
  ⟨⟨f, fd, ps, ok, hm, Fn.bindsN hb⟩, hc, no, fun w o ds h => fnB_len h⟩
/-- the class, to be made -/
structure CalN (P : Program) (w : World) (K : PySem.W.Frag) (mg : Str → Option Value) (base : Heap) (c : Str) (k : Nat) (ks : List Str) (fn : V → List O → List D → R (O × D)) : Prop where
  ex : ∃ (f : Addr) (fd : FuncData) (ps : List Str), FnOk P w K mg base (L2.CX P w) k f fd ps (spB K c [] ks 1 fn) ∧ Mk K (He.ga K c) f ∧ Binds K fd ps []
  gl : mg c = some (.ref (He.ga K c))
theorem calN_mk {g : V → REnv → SR} (Fn : FunD K m qual params body scope [] [] f fd) (hm : Mk K (He.ga K c) f) (gl : mg c = some (.ref (He.ga K c)))
    (hb : ∀ (kV doc pm : Value) (an : Option Addr) (cdv ct : Value) (us : List Value), us.length = ps.length → bindArgs (PySem.W.fnOf m qual params body scope .none kV doc pm an cdv ct) ⟨us, []⟩ = pure (ps.zip us))
    (ok : FnOk P w K mg base (L2.CX P w) k f fd ps (spB K c [] ks' 1 (fnB c [] ks' 1 N.length g))) : CalN P w K mg base c k ks' (fnB c [] ks' 1 N.length g) :=
  ⟨⟨f, fd, ps, ok, hm, Fn.bindsN hb⟩, gl⟩
end
end Dy

set_option Elab.async false
set_option linter.all false
set_option maxRecDepth 100000
/-! ### objects: calls of their defs, fields -/
namespace Dy
open PySem PySem.Spec PyProof.Rows L2
theorem pass_no {X : Cx} : Passes (L2.CX X.prog X.w) X (fun _ _ _ => False) := fun _ _ _ _ _ _ _ h => (cx_no h).elim
theorem zip_no {m : Str} : ∀ {ks : List Str} {vs : List V}, ks.contains m = false → (ks.zip vs).lookup m = none
  | [], vs, _ => by simp
  | k :: ks, [], _ => by simp
  | k :: ks, v :: vs, h => by
    rw [List.contains_cons, Bool.or_eq_false_iff] at h
    rw [List.zip_cons_cons, List.lookup_cons, h.1]
    exact zip_no h.2
def resB (ρ : REnv) (i : Nat) (w : Option V) (c : Str) (ks : List Str) : R (O × D) → R (D × REnv)
  | .ok (.t os, d) => .ok (d, ρ.set i (.obj w c ks os))
  | _ => .bad
open Classical in
noncomputable def callB (ρ : REnv) (i : Nat) (c : Str) (ks ks' : List Str) (fn : V → List O → List D → R (O × D)) (ds : List D) : R (D × REnv) := match ρ[i]? with
  | some (.obj w c' k2 os) => if c' = c ∧ k2 = ks then resB ρ i w c ks' (allV fun v => fn v os ds) else .bad
  | _ => .bad
noncomputable def pMeth (i : Nat) (c : Str) (ks ks' : List Str) (fn : V → List O → List D → R (O × D)) (t : REnv → R (List D)) : REnv → R (D × REnv) := fun ρ => match t ρ with
  | .ok ds => callB ρ i c ks ks' fn ds
  | _ => .bad
section
variable {X : Cx} {e : Expr} {es : List Expr} {x c m : Str} {np ap pos : Pos} {k n i : Nat} {ks ks' : List Str} {t : REnv → R (List D)} {fn : V → List O → List D → R (O × D)}
theorem callB_sp {σ : St} {G F H : Hp} {ρ : REnv} {ds : List D} {vs : List V} {Q : V → Hp → Prop} {En : XK} (hlen : ∀ w os ds, ds.length + 1 ≠ n → fn w os ds = .bad) (r : RepE X.K G F H σ ρ) (rv : RepL X.K F ds vs)
    (p : PostP X.K σ G F H (callB ρ i c ks ks' fn ds) Q) : ∃ a dx fs, σ[i]? = some (some (.ref a)) ∧ H a = some (.ins (He.ga X.K c) dx (ks.zip fs)) ∧ spB X.K c ks ks' n fn (.ref a :: vs) H Q En := by
  classical
  unfold callB at p
  split at p
  case h_2 => exact p.elim
  rename_i w c' k2 os z
  by_cases hc : c' = c ∧ k2 = ks
  case neg => rw [if_neg hc] at p; exact p.elim
  rw [if_pos hc] at p
  obtain ⟨rfl, rfl⟩ := hc
  obtain ⟨v, fp, hs, ho, nd, fr, dis, hw⟩ := obj_at r z
  obtain ⟨a, dx, fs, fq, rfl, h2, h3, h4, h5, h6⟩ := ho
  refine ⟨a, dx, fs, hs, h2, ?_⟩
  have ho : ObR X.K F H c' k2 os (.ref a) fp := ⟨a, dx, fs, fq, rfl, h2, h3, h4, h5, h6⟩
  obtain ⟨res, ea⟩ : ∃ res, (allV fun v => fn v os ds) = res := ⟨_, rfl⟩
  rw [ea] at p
  have hnb : res ≠ .bad := fun z => by rw [z] at p; exact p
  have ev := allV_at ea hnb (.ref a)
  have hd : ds.length + 1 = n := Classical.byContradiction fun z => hnb (by rw [← ev]; exact hlen _ os ds z)
  have hl := rv.length
  refine ⟨by rw [List.length_cons, ← hl]; exact hd, F, os, ds, vs, .ref a, fp, rfl, r.f, rv, ho, nd, fun b hb => (fr b hb).1, ?_⟩
  rw [show fn (.ref a) os ds = res from ev]
  cases res with
  | bad => exact hnb rfl
  | err z => exact p.elim
  | ok q =>
    obtain ⟨o, d⟩ := q
    cases o with
    | t os' =>
      have p : PostP X.K σ G F H (.ok (d, ρ.set i (.obj w c' ks' os'))) Q := p
      refine ⟨os', rfl, fun u F' H' fp' b k1 k2' k3 k4 => ?_⟩
      obtain ⟨r', ng⟩ := r.backB z hs ho b k1 k2' k3
      exact p u F' H' b.f ng r' k4
    | v d => exact p.elim
    | l us => exact p.elim
    | m js us => exact p.elim
theorem sep_meth {pl : Sem Bool} (C : CalB X.prog X.w X.K X.mg X.base c m k ks ks' n fn) (hr : Room k X.A) (ha : SA X W0 (e :: es) t) (hN : X.N[i]? = some x := by rfl) (hv : Vis X.env.scope x := by first | exact Or.inl rfl | exact Or.inr (Or.inl rfl) | exact Or.inr (Or.inr rfl)) (hdx : (x == ("__debug__" : Str)) = false := by decide) (hcd : (x == ("__classdict__" : Str)) = false := by decide)
    (hst : starEach (e :: es) X.env = (false, eval e X.env) :: starEach es X.env := by rfl) (hpl : (backTo pos (starEach es X.env)).any (·.1) = false := by rfl)
    (ht : eval (.Call (.Attribute (.Name x np) m ap) (e :: es) [] pos) X.env = (do
      let ov ← eval (.Name x np) X.env
      standAt ap.atName
      let (f, first) ← holding [ov] (getMethod ov m pl)
      callWith pos f first (backTo pos (starEach (e :: es) X.env)) (backToKw pos (keywordEach [] X.env))) := by rfl) :
    SEP X (.Call (.Attribute (.Name x np) m ap) (e :: es) [] pos) (pMeth i c ks ks' fn t) := by
  obtain ⟨f, fd, ps, Fo, hm, hb⟩ := C.ex
  refine (pe_meth (pe_var hN hv hdx hcd) C.cls hm Fo hr hb .nil pass_no ha hst hpl ht).dy fun σ H Q ⟨G, F, ρ, r, p⟩ => ?_
  unfold pMeth at p
  cases z : t ρ with
  | bad => rw [z] at p; exact p.elim
  | err z' => rw [z] at p; exact p.elim
  | ok ds =>
    rw [z] at p
    have p : PostP X.K σ G F H (callB ρ i c ks ks' fn ds) Q := p
    have p0 := p
    unfold callB at p
    split at p
    case h_2 => exact p.elim
    rename_i w c' k2 os zz
    classical
    by_cases hc : c' = c ∧ k2 = ks
    case neg => rw [if_neg hc] at p; exact p.elim
    obtain ⟨rfl, rfl⟩ := hc
    obtain ⟨v, fp, hs, ho, nd, fr, dis, hw⟩ := obj_at r zz
    obtain ⟨a, dx, fs, fq, rfl, h2, h3, h4, h5, h6⟩ := ho
    refine ⟨.ref a, hs, a, dx, _, rfl, h2, zip_no C.no, G, F, ρ, r, ?_⟩
    rw [z]
    intro vs F1 H1 ex rv
    have p1 : PostP X.K σ G F1 H1 (callB ρ i c' k2 ks' fn ds) Q := by
      revert p0
      cases callB ρ i c' k2 ks' fn ds with
      | ok q => exact fun p0 u F' H' s1 n1 r1 r2 => p0 u F' H' (ex.f.trans s1) ((ex.newG r.g).trans n1) r1 r2
      | err _ => exact fun p0 => p0
      | bad => exact fun p0 => p0
    obtain ⟨a', dx', fs', hs', h2', sp⟩ := callB_sp (En := fun _ _ _ => False) C.len (r.ext ex) rv p1
    rw [hs] at hs'
    cases hs'
    rw [List.append_nil]
    exact sp
theorem sep_meth0 {pl : Sem Bool} (C : CalB X.prog X.w X.K X.mg X.base c m k ks ks' n fn) (hr : Room k X.A) (hN : X.N[i]? = some x := by rfl) (hv : Vis X.env.scope x := by first | exact Or.inl rfl | exact Or.inr (Or.inl rfl) | exact Or.inr (Or.inr rfl)) (hdx : (x == ("__debug__" : Str)) = false := by decide) (hcd : (x == ("__classdict__" : Str)) = false := by decide)
    (ht : eval (.Call (.Attribute (.Name x np) m ap) [] [] pos) X.env = (do
      let ov ← eval (.Name x np) X.env
      standAt ap.atName
      let (f, first) ← holding [ov] (getMethod ov m pl)
      callWith pos f first (backTo pos (starEach [] X.env)) (backToKw pos (keywordEach [] X.env))) := by rfl) :
    SEP X (.Call (.Attribute (.Name x np) m ap) [] [] pos) (pMeth i c ks ks' fn aNil) := by
  obtain ⟨f, fd, ps, Fo, hm, hb⟩ := C.ex
  refine (pe_meth0 (pe_var hN hv hdx hcd) C.cls hm Fo hr hb .nil pass_no ht).dy fun σ H Q ⟨G, F, ρ, r, p⟩ => ?_
  have p : PostP X.K σ G F H (callB ρ i c ks ks' fn []) Q := p
  obtain ⟨a, dx, fs, hs, h2, sp⟩ := callB_sp (En := fun _ _ _ => False) C.len r RepL.nil p
  exact ⟨.ref a, hs, a, dx, _, rfl, h2, zip_no C.no, sp⟩
end
/-! #### truths with changes -/
def PostPT (K : PySem.W.Frag) (σ : St) (G F H : Hp) (x : R (Bool × REnv)) (Q : Bool → Hp → Prop) : Prop := match x with
  | .ok p => ∀ F' H', Same F F' → NewG G F F' → RepE K G F' H' σ p.2 → Q p.1 H'
  | _ => False
def rtP (K : PySem.W.Frag) (u : REnv → R (Bool × REnv)) : TT := fun σ H Q => ∃ G F ρ, RepE K G F H σ ρ ∧ PostPT K σ G F H (u ρ) Q
abbrev STP (X : Cx) (e : Expr) (u : REnv → R (Bool × REnv)) : Prop := PT X e (rtP X.K u)
abbrev SWP (X : Cx) (e : Expr) (u : REnv → R (Bool × REnv)) : Prop := PW X e (rtP X.K u)
def uVal (f : REnv → R (D × REnv)) : REnv → R (Bool × REnv) := fun ρ => match f ρ with
  | .ok (.bl b, ρ') => .ok (b, ρ')
  | _ => .bad
def uNot (u : REnv → R (Bool × REnv)) : REnv → R (Bool × REnv) := fun ρ => match u ρ with
  | .ok (b, ρ') => .ok (!b, ρ')
  | _ => .bad
def uOr (u v : REnv → R (Bool × REnv)) : REnv → R (Bool × REnv) := fun ρ => match u ρ with
  | .ok (true, ρ') => .ok (true, ρ')
  | .ok (false, ρ') => v ρ'
  | _ => .bad
def pAnd (f : REnv → R D) (u : REnv → R (D × REnv)) : REnv → R (D × REnv) := fun ρ => match f ρ with
  | .ok (.bl true) => u ρ
  | .ok (.bl false) => .ok (.bl false, ρ)
  | _ => .bad
def sIfP (u : REnv → R (Bool × REnv)) (g h : REnv → SR) : REnv → SR := fun ρ => match u ρ with
  | .ok (true, ρ') => g ρ'
  | .ok (false, ρ') => h ρ'
  | _ => .bad
section
variable {X : Cx} {W : WX} {e a b : Expr} {rest : List Expr} {u v : REnv → R (Bool × REnv)} {f : REnv → R (D × REnv)} {q : REnv → R D} {pos : Pos} {g h : REnv → SR}
theorem stp_val (ha : SEP X e f) (he : ∀ whole, isTrue e X.env whole = (do let v ← whole; standAt e.pos; holding [v] (truthy v)) := by intro _; rfl) : STP X e (uVal f) :=
  (pt_val ha he).dy fun σ H Q ⟨G, F, ρ, r, p⟩ => ⟨G, F, ρ, r, by
    unfold uVal at p
    cases z : f ρ with
    | bad => rw [z] at p; exact p.elim
    | err z' => rw [z] at p; exact p.elim
    | ok q =>
      obtain ⟨d, ρ'⟩ := q
      rw [z] at p
      cases d with
      | bl b => exact fun v F1 H1 s1 n1 r1 rv => ⟨b, rv.bl_inv, p F1 H1 s1 n1 r1⟩
      | _ => exact p.elim⟩
theorem stp_not (ha : STP X a u) : STP X (.UnaryOp .Not a pos) (uNot u) :=
  (pt_not ha).dy fun σ H Q ⟨G, F, ρ, r, p⟩ => ⟨G, F, ρ, r, by
    unfold uNot at p
    cases z : u ρ with
    | bad => rw [z] at p; exact p.elim
    | err z' => rw [z] at p; exact p.elim
    | ok q => rw [z] at p; exact fun F1 H1 s1 n1 r1 => p F1 H1 s1 n1 r1⟩
theorem swp_or1 (ha : STP X a u) : SWP X (.BoolOp .Or [a] pos) u := pw_or1 ha
theorem swp_or (ha : STP X a u) (hb : SWP X (.BoolOp .Or (b :: rest) pos) v) : SWP X (.BoolOp .Or (a :: b :: rest) pos) (uOr u v) :=
  (pw_or ha hb).dy fun σ H Q ⟨G, F, ρ, r, p⟩ => ⟨G, F, ρ, r, by
    unfold uOr at p
    cases z : u ρ with
    | bad => rw [z] at p; exact p.elim
    | err z' => rw [z] at p; exact p.elim
    | ok q =>
      obtain ⟨k, ρ'⟩ := q
      rw [z] at p
      intro F1 H1 s1 n1 r1
      cases k with
      | true => exact p F1 H1 s1 n1 r1
      | false =>
        refine ⟨G, F1, ρ', r1, ?_⟩
        have p : PostPT X.K σ G F H (v ρ') Q := p
        cases z2 : v ρ' with
        | bad => rw [z2] at p; exact p.elim
        | err z' => rw [z2] at p; exact p.elim
        | ok q => rw [z2] at p; exact fun F2 H2 s2 n2 r2 => p F2 H2 (s1.trans s2) (n1.trans n2) r2⟩
theorem stp_bool {op} {l : List Expr} (h : SWP X (.BoolOp op l pos) u) : STP X (.BoolOp op l pos) u := PW.pt h
theorem sep_one {op} (ha : SEP X a f) : SEP X (.BoolOp op [a] pos) f := pe_one ha
theorem sep_and (ha : SE X W0 a q) (hb : SEP X (.BoolOp .And (b :: rest) pos) f) : SEP X (.BoolOp .And (a :: b :: rest) pos) (pAnd q f) :=
  (pe_and ha hb).dy fun σ H Q ⟨G, F, ρ, r, p⟩ => ⟨G, F, ρ, r, by
    unfold pAnd at p
    cases z : q ρ with
    | bad => rw [z] at p; exact p.elim
    | err z' => rw [z] at p; exact p.elim
    | ok d =>
      rw [z] at p
      intro v F1 H1 ex rv
      cases d with
      | bl k =>
        refine ⟨k, rv.bl_inv, ?_⟩
        cases k with
        | true =>
          rw [if_pos rfl]
          refine ⟨G, F1, ρ, r.ext ex, ?_⟩
          have p : PostP X.K σ G F H (f ρ) Q := p
          cases z2 : f ρ with
          | bad => rw [z2] at p; exact p.elim
          | err z' => rw [z2] at p; exact p.elim
          | ok q => rw [z2] at p; exact fun v F2 H2 s2 n2 r2 rv => p v F2 H2 (ex.f.trans s2) ((ex.newG r.g).trans n2) r2 rv
        | false =>
          rw [if_neg (by decide)]
          have p : PostP X.K σ G F H (.ok (.bl false, ρ)) Q := p
          exact p _ F1 H1 ex.f (ex.newG r.g) (r.ext ex) Rep.mk_bl
      | _ => exact p.elim⟩
theorem ss_ifP {xs ys : List Stmt} (hc : STP X e u) (ha : SSs X W xs g) (hb : SSs X W ys h) : SS X W (.If e xs ys pos) (sIfP u g h) :=
  (ps_if hc ha hb).dy fun D σ H ⟨G, F, ρ, r, p⟩ => ⟨G, F, ρ, r, by
    unfold sIfP at p
    cases z : u ρ with
    | bad => rw [z] at p; exact p.elim
    | err z' => rw [z] at p; exact p.elim
    | ok q =>
      obtain ⟨k, ρ'⟩ := q
      rw [z] at p
      intro F1 H1 s1 n1 r1
      cases k with
      | true => exact ⟨G, F1, ρ', r1, PostS.ext s1 n1 p⟩
      | false => exact ⟨G, F1, ρ', r1, PostS.ext s1 n1 p⟩⟩
end
end Dy

set_option Elab.async false
set_option linter.all false
set_option maxRecDepth 100000
/-! ### objects: their fields -/
namespace Dy
open PySem PySem.Spec PyProof.Rows L2
/-! #### reading a field -/
def eFld (i : Nat) (c n : Str) : REnv → R D := fun ρ => match ρ[i]? with
  | some (.fob c' ks ds) => if c' = c then .opt ((ks.zip ds).lookup n) else .bad
  | _ => .bad
section
variable {X : Cx} {W : WX} {c n x : Str} {np pos : Pos}
theorem se_fld (i : Nat) (hc : Cls X.K (He.ga X.K c)) (hn : NoAttr X.K (He.ga X.K c) n) (hN : X.N[i]? = some x := by rfl) (hv : Vis X.env.scope x := by first | exact Or.inl rfl | exact Or.inr (Or.inl rfl) | exact Or.inr (Or.inr rfl)) (hd : (x == ("__debug__" : Str)) = false := by decide) (hcd : (x == ("__classdict__" : Str)) = false := by decide)
    (hb : attributeBase (.Name x np) n X.env (eval (.Name x np) X.env) = eval (.Name x np) X.env := by rfl) : SE X W (.Attribute (.Name x np) n pos) (eFld i c n) :=
  (pe_fld (pe_var hN hv hd hcd) hb).dy fun σ H Q ⟨G, F, ρ, r, p⟩ => by
    unfold eFld at p
    split at p
    case h_2 => exact p.elim
    rename_i c' ks ds z
    by_cases h : c' = c
    case neg => rw [if_neg h] at p; exact p.elim
    rw [if_pos h] at p
    subst h
    cases e : (ks.zip ds).lookup n with
    | none => rw [e] at p; exact p.elim
    | some d =>
      rw [e] at p
      have hl : i < σ.length := by
        rw [← r.len]
        exact (List.getElem?_eq_some_iff.mp z).1
      obtain ⟨a, dx, vs, e1, e2, e3, e4⟩ := r.at_ i _ _ z (List.getElem?_eq_getElem hl)
      obtain ⟨v, k1, k2⟩ := lookup_rep e4 e
      exact ⟨.ref a, by rw [List.getElem?_eq_getElem hl, e1], a, _, dx, _, v, rfl, r.f _ _ e2, hc, hn, k1, p v F H (.refl r.f) k2⟩
end
/-! #### for a while known as it stands -/
def uPeekB (i : Nat) (u : REnv → R Bool) : REnv → R Bool := fun ρ => match ρ[i]? with
  | some (.obj _ c ks os) => match u (ρ.set i (.fob c ks (O.toDs os))) with
    | .ok b => .ok b
    | _ => .bad
  | _ => .bad
theorem st_peekB {X : Cx} {W : WX} {e : Expr} {u : REnv → R Bool} (i : Nat) (h : ST X W e u) : ST X W e (uPeekB i u) := PT.dy h fun σ H Q ⟨G, F, ρ, r, p⟩ => by
  unfold uPeekB at p
  split at p
  case h_2 => exact p.elim
  rename_i w c ks os z
  obtain ⟨v, fp, _, _, _, _, _, s1, r1⟩ := r.freezeB z
  refine ⟨G, _, _, r1, ?_⟩
  cases q : u (ρ.set i (.fob c ks (O.toDs os))) with
  | bad => rw [q] at p; exact p.elim
  | err d => rw [q] at p; exact p.elim
  | ok b =>
    rw [q] at p
    exact fun v F2 H2 ex rel => p v F H2 ⟨.refl _, ex.h, s1.trans (ex.f.trans ex.s), fun a o h1 h2 => by rw [h2] at h1; cases h1⟩ rel
section
variable {K : PySem.W.Frag} {F F' : Hp} {fp : List Addr}
mutual
theorem rep_dropU (e : ∀ a ∈ fp, (∀ vs, F a ≠ some (.tup vs)) ∧ ∀ o u, F a ≠ some (.frz o u)) (h : ∀ b, b ∉ fp → F' b = F b) : ∀ (d : D) (v : V), noL d = true → Rep K F d v → Rep K F' d v
  | .non, v, _, r => by simpa [Rep] using r
  | .bl b, v, _, r => by simpa [Rep] using r
  | .int i, v, _, r => by simpa [Rep] using r
  | .str x, v, _, r => by simpa [Rep] using r
  | .tup xs, v, n, r => by
    simp only [Rep] at r ⊢
    obtain ⟨p, us, h1, h2, h3⟩ := r
    refine ⟨p, us, h1, ?_, repL_dropU e h xs us n h3⟩
    rcases h2 with (q | ⟨o, q⟩) | q
    · exact .inl (.inl (by rw [h p (fun z => (e p z).1 _ q)]; exact q))
    · exact .inl (.inr ⟨o, by rw [h p (fun z => (e p z).2 _ _ q)]; exact q⟩)
    · exact .inr q
theorem repL_dropU (e : ∀ a ∈ fp, (∀ vs, F a ≠ some (.tup vs)) ∧ ∀ o u, F a ≠ some (.frz o u)) (h : ∀ b, b ∉ fp → F' b = F b) : ∀ (ds : List D) (us : List V), noLs ds = true → RepL K F ds us → RepL K F' ds us
  | [], us, _, r => by simpa [RepL] using r
  | d :: ds, us, n, r => by
    simp only [RepL] at r ⊢
    obtain ⟨v, rr, h1, h2, h3⟩ := r
    have n : (noL d && noLs ds) = true := n
    rw [Bool.and_eq_true] at n
    exact ⟨v, rr, h1, rep_dropU e h d v n.1 h2, repL_dropU e h ds rr n.2 h3⟩
end
theorem ObR.notT {H : Hp} {c : Str} {ks : List Str} {os : List O} {v : V} (h : ObR K F H c ks os v fp) : ∀ a ∈ fp, (∀ vs, H a ≠ some (.tup vs)) ∧ ∀ o u, H a ≠ some (.frz o u) := fun b hb => by
  obtain ⟨a, dx, vs, fq, h1, h2, h3, h4, rfl, h6⟩ := h
  rcases List.mem_cons.mp hb with rfl | hb
  · exact ⟨fun vs e => by rw [h2] at e; (cases e), fun o u e => by rw [h2] at e; (cases e)⟩
  · rcases List.mem_cons.mp hb with rfl | hb
    · exact ⟨fun vs e => by rw [h3] at e; (cases e), fun o u e => by rw [h3] at e; (cases e)⟩
    · rcases OwRs.inHL os vs fq h6 b hb with ⟨us, q⟩ | ⟨us, q⟩
      · exact ⟨fun vs e => by rw [q] at e; (cases e), fun o u e => by rw [q] at e; (cases e)⟩
      · exact ⟨fun vs e => by rw [q] at e; (cases e), fun o u e => by rw [q] at e; (cases e)⟩
end
/-- a statement that tells what holds no list, the object at the first slot known as it stands meanwhile -/
def sPeekB (c : Str) (ks : List Str) (w : V) (g : REnv → SR) : REnv → SR := fun ρ => match ρ[(0 : Nat)]? with
  | some (.obj w' c' k2 os) => match g (ρ.set 0 (.fob c' k2 (O.toDs os))) with
    | .ret d => if noL d = true then retB c ks w ρ d else .bad
    | _ => .bad
  | _ => .bad
theorem ssb_peek {X : Cx} {W : WX} {c : Str} {ks : List Str} {w : V} {st : Stmt} {g : REnv → SR} (h : SS X W st g) : SSB X W c ks w st (sPeekB c ks w g) := PS.dy h fun D σ H ⟨G, F, ρ, r, p⟩ => by
  classical
  unfold sPeekB at p
  split at p
  case h_2 => exact p.elim
  rename_i w' c' k2 os z
  obtain ⟨v, fp, hs, ho, nd, fr, hw, s1, r1⟩ := r.freezeB z
  refine ⟨G, _, _, r1, ?_⟩
  cases q : g (ρ.set 0 (.fob c' k2 (O.toDs os))) with
  | next _ => rw [q] at p; exact p.elim
  | err _ _ => rw [q] at p; exact p.elim
  | bad => rw [q] at p; exact p.elim
  | ret d =>
    rw [q] at p
    have p : PostSB X.K W c ks w D G F (if noL d = true then retB c ks w ρ d else .bad) := p
    by_cases hn : noL d = true
    case neg => rw [if_neg hn] at p; exact p.elim
    rw [if_pos hn] at p
    unfold retB at p
    rw [z] at p
    cases w' with
    | none => exact p.elim
    | some w' =>
      have p : PostSB X.K W c ks w D G F (if w' = w ∧ c' = c ∧ k2 = ks then .ret (withO (.t os) d) else .bad) := p
      by_cases hc : w' = w ∧ c' = c ∧ k2 = ks
      case neg => rw [if_neg hc] at p; exact p.elim
      rw [if_pos hc] at p
      obtain ⟨rfl, rfl, rfl⟩ := hc
      have hv := hw _ rfl
      subst hv
      obtain ⟨o', d', e, p⟩ := p
      obtain ⟨e1, rfl⟩ := with_inj e
      cases e1
      intro u F' H' s2 n2 g2 f2 rd
      have inF : ∀ b ∈ fp, F' b = H b := fun b hb => by
        obtain ⟨x, hx⟩ := ObR.inH ho b hb
        rw [hx]
        exact s2 _ _ (by rw [addF_in hb]; exact hx)
      have inH : ∀ b ∈ fp, H' b = H b := fun b hb => by
        obtain ⟨x, hx⟩ := ObR.inH ho b hb
        rw [hx]
        exact f2 _ _ (by rw [inF b hb]; exact hx)
      let F3 : Hp := fun b => if b ∈ fp then none else F' b
      have k3 : ∀ b, b ∉ fp → F3 b = F' b := fun b hb => if_neg hb
      have k0 : ∀ b, b ∈ fp → F3 b = none := fun b hb => if_pos hb
      have sF : Same F F3 := fun b x e => by
        have hb : b ∉ fp := fun m => by rw [(fr b m).1] at e; cases e
        rw [k3 b hb]
        exact s2 _ _ (s1 _ _ e)
      refine p u F3 H' fp sF (fun b x e1 e2 => ?_) g2 (fun b x e => ?_) (ObR.move sF ho inH) nd (fun b hb => ⟨k0 b hb, (fr b hb).2⟩) (rep_dropU (fun b hb => by rw [inF b hb]; exact ObR.notT ho b hb) k3 d u hn rd)
      · have hb : b ∉ fp := fun m => by rw [k0 b m] at e1; cases e1
        rw [k3 b hb] at e1
        exact n2 b x e1 (by rw [addF_out hb]; exact e2)
      · have hb : b ∉ fp := fun m => by rw [k0 b m] at e; cases e
        rw [k3 b hb] at e
        exact f2 _ _ e
/-! #### changes -/
def idxS (n : Str) : List Str → Option Nat
  | [] => none
  | k :: ks => if n == k then some 0 else (idxS n ks).map (· + 1)
theorem idxS_lk {n : Str} : ∀ {ks : List Str} {vs : List V} {j : Nat} {v : V}, idxS n ks = some j → vs[j]? = some v → (ks.zip vs).lookup n = some v
  | [], vs, j, v, h, _ => by cases h
  | k :: ks, [], j, v, _, h => by simp at h
  | k :: ks, u :: vs, j, v, h, h2 => by
    unfold idxS at h
    rw [List.zip_cons_cons, List.lookup_cons]
    cases e : n == k with
    | true =>
      rw [e, if_pos rfl] at h
      cases h
      simp at h2
      rw [h2]
    | false =>
      rw [e, if_neg (by decide)] at h
      obtain ⟨j', h3, rfl⟩ := Option.map_eq_some_iff.mp h
      exact idxS_lk h3 (by simpa using h2)
/-- x.n.append(e) -/
def appF (i : Nat) (w : Option V) (c : Str) (ks : List Str) (os : List O) (j : Nat) (ds : List D) (ρ : REnv) (d : D) : SR := if ds.length < sizeLine then .next (ρ.set i (.obj w c ks (os.set j (.l ((ds ++ [d]).map .v))))) else .bad
def sAppF (i : Nat) (c n : Str) (f : REnv → R D) : REnv → SR := fun ρ => match ρ[i]? with
  | some (.obj w c' ks os) => if c' = c then (match idxS n ks with
    | some j => (match os[j]?.bind O.unL with
      | some ds => (f ρ).toS ρ (appF i w c ks os j ds ρ)
      | none => .bad)
    | none => .bad) else .bad
  | _ => .bad
section
variable {X : Cx} {W : WX} {e : Expr} {f : REnv → R D} {pos np ap fp' xp : Pos} {x c n : Str}
theorem ss_appF (i : Nat) (hc : Cls X.K (He.ga X.K c)) (hn : NoAttr X.K (He.ga X.K c) n) (he : SE X W e f) (hN : X.N[i]? = some x := by rfl) (hv : Vis X.env.scope x := by first | exact Or.inl rfl | exact Or.inr (Or.inl rfl) | exact Or.inr (Or.inr rfl)) (hd : (x == ("__debug__" : Str)) = false := by decide) (hcd : (x == ("__classdict__" : Str)) = false := by decide)
    (hb : attributeBase (.Name x np) n X.env (eval (.Name x np) X.env) = eval (.Name x np) X.env := by rfl)
    (hbm : ∀ {te : TE} {ta : TA}, PE X (.Attribute (.Name x np) n fp') te → PA X [e] ta → PE X (.Call (.Attribute (.Attribute (.Name x np) n fp') "append" ap) [e] [] xp) (tBM X.K "list" rAppend te ta) := by exact fun h1 h2 => pe_bm PySem.F.plainAttrs_list PySem.F.slot_list_append PySem.F.type_list_append mt_append h1 h2)
    (hse : starEach (e :: []) X.env = (false, eval e X.env) :: starEach [] X.env := by rfl)
    (hs : swapsWith (.Call (.Attribute (.Attribute (.Name x np) n fp') "append" ap) [e] [] xp) none pos.line X.env = pure false := by rfl) :
    SS X W (.Expr (.Call (.Attribute (.Attribute (.Name x np) n fp') "append" ap) [e] [] xp) pos) (sAppF i c n f) :=
  (ps_expr (hbm (pe_fld (pe_var hN hv hd hcd) hb) (pa_cons he pa_nil hse)) hs).dy fun D σ H ⟨G, F, ρ, r, p⟩ => by
    unfold sAppF at p
    split at p
    case h_2 => exact p.elim
    rename_i w c' ks os z
    by_cases hcc : c' = c
    case neg => rw [if_neg hcc] at p; exact p.elim
    rw [if_pos hcc] at p
    subst hcc
    split at p
    case h_2 => exact p.elim
    rename_i j hj
    split at p
    case h_2 => exact p.elim
    rename_i ds hb
    obtain ⟨o, ho, hu⟩ := Option.bind_eq_some_iff.mp hb
    have hu := of_unL hu
    subst hu
    obtain ⟨v, fp, g1, g2, g3, g4, g5, g6⟩ := obj_at r z
    have g2' := g2
    obtain ⟨a, dx, vs, fq, rfl, ha, hdx, hl, rfl, hos⟩ := g2
    have ndq : fq.Nodup := (List.nodup_cons.mp (List.nodup_cons.mp g3).2).2
    obtain ⟨b, ws, q1, q2, q3, q4, q5⟩ := hos.at_ ndq ho
    refine ⟨.ref a, g1, a, _, dx, _, .ref b, rfl, ha, hc, hn, idxS_lk hj q1, .inl ⟨rfl, ws, SqL.of q2⟩, G, F, ρ, r, PostS.toS r p fun d v F' H' _ ex rp r' p' => ?_⟩
    unfold appF at p'
    by_cases hl2 : ds.length < sizeLine
    · rw [if_pos hl2] at p'
      obtain ⟨v', fp', k1, k2, k3, k4, k5, k6⟩ := obj_at r' z
      rw [g1] at k1
      cases k1
      have k2' := k2
      obtain ⟨a', dx', vs', fq', e1, m1, m2, m3, rfl, m5⟩ := k2
      cases e1
      have eins := ex.h _ _ ha
      rw [m1] at eins
      injection eins with q
      injection q with q1' q2' q3'
      subst q2'
      have ev : vs' = vs := zip_inj m3 hl q3'
      subst ev
      have ndq' : fq'.Nodup := (List.nodup_cons.mp (List.nodup_cons.mp k3).2).2
      obtain ⟨b', ws', n1, n2, n3, n4, n5⟩ := m5.at_ ndq' ho
      rw [q1] at n1
      cases n1
      have hb3 : b ∈ a :: dx' :: fq' := List.mem_cons_of_mem _ (List.mem_cons_of_mem _ n3)
      have fb : F' b = none := (k4 b hb3).1
      have na : a ≠ b := fun e => by rw [e] at k3; exact (List.nodup_cons.mp k3).1 (List.mem_cons_of_mem _ n3)
      have ndx : dx' ≠ b := fun e => by rw [e] at k3; exact (List.nodup_cons.mp (List.nodup_cons.mp k3).2).1 n3
      have bk : Back F' H' (a :: dx' :: fq') F' (upd H' b (.lst (ws' ++ [v]))) := ⟨.refl _, fun y u q => by
        by_cases hy : y ∈ a :: dx' :: fq'
        · rw [less_in hy] at q; cases q
        · rw [upd_ne (fun e : y = b => hy (by rw [e]; exact hb3))]; rw [less_out hy] at q; exact q, fun y u q => by
        rw [upd_ne (fun e => by rw [e, fb] at q; cases q)]; exact r'.f _ _ q, fun y u q z => by rw [z] at q; cases q⟩
      have ho2 : ObR X.K F' (upd H' b (.lst (ws' ++ [v]))) c' ks (os.set j (.l ((ds ++ [d]).map .v))) (.ref a) (a :: dx' :: fq') :=
        ⟨a, dx', vs', fq', rfl, by rw [upd_ne na]; exact m1, by rw [upd_ne ndx]; exact m2, m3, rfl, n5 _ _ (n4.snoc rp)⟩
      obtain ⟨r2, ng⟩ := r'.backB z g1 k2' bk ho2 k3 (fun y hy => ⟨(k4 y hy).1, less_in hy⟩)
      exact ⟨b, ws', v, rfl, rfl, n2, by rw [← n4.length]; exact hl2, p' σ F' _ (.refl _) .refl r2⟩
    · rw [if_neg hl2] at p'; exact p'.elim
end
theorem putF_new {n : Str} {y : V} : ∀ {ks : List Str} {vs : List V}, ks.length = vs.length → ks.contains n = false → putF n y (ks.zip vs) = (ks ++ [n]).zip (vs ++ [y])
  | [], [], _, _ => rfl
  | [], _ :: _, h, _ => nomatch h
  | _ :: _, [], h, _ => nomatch h
  | k :: ks, v :: vs, h, h2 => by
    rw [List.contains_cons, Bool.or_eq_false_iff] at h2
    have ne : n ≠ k := fun e => by rw [e] at h2; simp at h2
    rw [List.zip_cons_cons]
    unfold putF
    rw [if_neg (fun e => ne e.symm), putF_new (by simpa using h) h2.2]
    rfl
/-- x.n = [], a new field -/
def sNewF (i : Nat) (c n : Str) : REnv → SR := fun ρ => match ρ[i]? with
  | some (.obj w c' ks os) => if c' = c ∧ ks.contains n = false ∧ ks.length < 1000 then .next (ρ.set i (.obj w c (ks ++ [n]) (os ++ [.l []]))) else .bad
  | _ => .bad
section
variable {X : Cx} {W : WX} {pos np fp' lp : Pos} {x c n : Str}
theorem ss_newF (i : Nat) (hc : Cls X.K (He.ga X.K c)) (hn : NoAttr X.K (He.ga X.K c) n) (hN : X.N[i]? = some x := by rfl) (hv : Vis X.env.scope x := by first | exact Or.inl rfl | exact Or.inr (Or.inl rfl) | exact Or.inr (Or.inr rfl)) (hd : (x == ("__debug__" : Str)) = false := by decide) (hcd : (x == ("__classdict__" : Str)) = false := by decide)
    (hs : swapsWith (.List [] lp) (some (.Attribute (.Name x np) n fp')) pos.line X.env = pure false := by rfl) : SS X W (.Assign [.Attribute (.Name x np) n fp'] (.List [] lp) pos) (sNewF i c n) :=
  (ps_fld (pe_var hN hv hd hcd) (pe_lst pa_nil) hs).dy fun D σ H ⟨G, F, ρ, r, p⟩ => by
    unfold sNewF at p
    split at p
    case h_2 => exact p.elim
    rename_i w c' ks os z
    by_cases hcc : c' = c ∧ ks.contains n = false ∧ ks.length < 1000
    case neg => rw [if_neg hcc] at p; exact p.elim
    rw [if_pos hcc] at p
    obtain ⟨rfl, hk, hl⟩ := hcc
    obtain ⟨v, fp, g1, g2, g3, g4, g5, g6⟩ := obj_at r z
    have g2' := g2
    obtain ⟨a, dx, vs, fq, rfl, ha, hdx, hlen, rfl, hos⟩ := g2
    refine ⟨Nat.zero_le _, fun q hq => ⟨.ref a, g1, a, _, dx, _, rfl, by rw [upd_ne (ne_of_none ha hq)]; exact ha, hc, hn, by rw [List.length_zip]; omega, ?_⟩⟩
    have na : a ≠ q := ne_of_none ha hq
    have ndx : dx ≠ q := ne_of_none hdx hq
    have qn : ∀ b ∈ a :: dx :: fq, b ≠ q := fun b hb => by
      obtain ⟨u, hu⟩ := ObR.inH g2' b hb
      exact ne_of_none hu hq
    have nax : a ≠ dx := fun e => by rw [e] at g3; exact (List.nodup_cons.mp g3).1 List.mem_cons_self
    have nafq : ∀ b ∈ fq, b ≠ a := fun b hb e => by rw [e] at hb; exact (List.nodup_cons.mp g3).1 (List.mem_cons_of_mem _ hb)
    have nofp : ∀ b, b ∉ a :: dx :: fq → b ≠ a := fun b hb e => hb (e ▸ List.mem_cons_self)
    generalize hH2 : upd (upd H q (.lst [])) a (.ins (He.ga X.K c') dx (putF n (.ref q) (ks.zip vs))) = H2
    have at2 : ∀ b, b ≠ a → b ≠ q → H2 b = H b := fun b h1 h2 => by rw [← hH2, upd_ne h1, upd_ne h2]
    have bk : Back F H (a :: dx :: fq) F H2 := ⟨.refl _, fun b u e => by
      by_cases hb : b ∈ a :: dx :: fq
      · rw [less_in hb] at e; cases e
      · rw [less_out hb] at e
        rw [at2 b (nofp b hb) (ne_of_none e hq)]; exact e, fun b u e => by
      rw [at2 b (fun z => by rw [z, (g4 a List.mem_cons_self).1] at e; cases e) (ne_of_none e (r.f.free hq))]; exact r.f _ _ e, fun b u e z => by rw [z] at e; cases e⟩
    have hq2 : H2 q = some (.lst []) := by rw [← hH2, upd_ne (fun e => na e.symm), upd_same]
    have ho2 : ObR X.K F H2 c' (ks ++ [n]) (os ++ [.l []]) (.ref a) (a :: dx :: (fq ++ [q])) := by
      refine ⟨a, dx, vs ++ [.ref q], fq ++ [q], rfl, by rw [← hH2, upd_same, putF_new hlen hk], by rw [at2 dx (fun e => nax e.symm) ndx]; exact hdx, by simp [hlen], rfl, OwRs.append (OwRs.move (.refl _) os vs fq hos fun b hb => at2 b (nafq b hb) (qn b (List.mem_cons_of_mem _ (List.mem_cons_of_mem _ hb)))) ?_⟩
      rw [OwRs]
      exact ⟨.ref q, [], [q], [], rfl, rfl, OwR.ofL (ds := []) hq2 RepL.nil, by rw [OwRs]; exact ⟨rfl, rfl⟩⟩
    have nd2 : (a :: dx :: (fq ++ [q])).Nodup := by
      have e : a :: dx :: (fq ++ [q]) = (a :: dx :: fq) ++ [q] := rfl
      rw [e, List.nodup_append]
      exact ⟨g3, by simp, fun x hx y hy => by rw [List.mem_singleton.mp hy]; exact qn x hx⟩
    obtain ⟨r2, ng⟩ := r.backB z g1 g2' bk ho2 nd2 (fun b hb => by
      have e : a :: dx :: (fq ++ [q]) = (a :: dx :: fq) ++ [q] := rfl
      rw [e] at hb
      rcases List.mem_append.mp hb with hb | hb
      · exact ⟨(g4 b hb).1, less_in hb⟩
      · rw [List.mem_singleton.mp hb]
        exact ⟨r.f.free hq, (less_same _ _).free hq⟩)
    exact p σ F H2 (.refl _) .refl r2
end
/-- x = C() -/
noncomputable def newB (i : Nat) (c : Str) (ks : List Str) (ρ : REnv) : R (O × D) → SR
  | .ok (.t os, .non) => .next (ρ.set i (.obj none c ks os))
  | _ => .bad
noncomputable def sNewB (i : Nat) (c : Str) (ks : List Str) (fn : V → List O → List D → R (O × D)) : REnv → SR := fun ρ => newB i c ks ρ (allV fun v => fn v [] [])
section
variable {X : Cx} {W : WX} {pos np cp pos' : Pos} {x c : Str} {k : Nat} {ks : List Str} {fn : V → List O → List D → R (O × D)}
theorem ss_newB {i : Nat} (C : CalN X.prog X.w X.K X.mg X.base c k ks fn) (hr : Room (k + 1) X.A) (hN : X.N.Nodup) (hg : Gl X c := by rfl) (hdb : (c == ("__debug__" : Str)) = false := by decide) (hi : X.N[i]? = some x := by rfl) (hx : Loc X.env.scope x := by first | exact Or.inl rfl | exact Or.inr rfl)
    (hs : swapsWith (.Call (.Name c np) [] [] cp) (some (.Name x pos')) pos.line X.env = pure false := by rfl)
    (hf : X.fn x = true ∨ X.env.scope.names.lookup x = some .local := by first | exact .inl rfl | exact .inr rfl | assumption) : SS X W (.Assign [.Name x pos'] (.Call (.Name c np) [] [] cp) pos) (sNewB i c ks fn) := by
  obtain ⟨f, fd, ps, Fo, hm, hb⟩ := C.ex
  refine (ps_set hN hi hx (pe_make0 hm Fo hr hg C.gl hb .nil pass_no hdb) hs hf).dy fun D σ H ⟨G, F, ρ, r, p⟩ => ?_
  intro y dx hy hdx ne
  unfold sNewB at p
  obtain ⟨res, ea⟩ : ∃ res, (allV fun v => fn v [] []) = res := ⟨_, rfl⟩
  rw [ea] at p
  have hnb : res ≠ .bad := fun z => by rw [z] at p; exact p
  have ev := allV_at ea hnb (.ref y)
  generalize hHn : upd (upd H dx (.own y)) y (.ins (He.ga X.K c) dx []) = Hn
  have atn : ∀ b, b ≠ y → b ≠ dx → Hn b = H b := fun b h1 h2 => by rw [← hHn, upd_ne h1, upd_ne h2]
  have sHn : Same H Hn := fun b u e => by rw [atn b (ne_of_none e hy) (ne_of_none e hdx)]; exact e
  refine ⟨rfl, F, [], [], [], .ref y, [y, dx], rfl, r.f.trans sHn, RepL.nil, ⟨y, dx, [], [], rfl, by rw [← hHn, upd_same]; rfl, by rw [← hHn, upd_ne ne, upd_same], rfl, rfl, by rw [OwRs]; exact ⟨rfl, rfl⟩⟩, by simpa using fun e => ne e.symm, fun b hb => ?_, ?_⟩
  · rcases List.mem_cons.mp hb with rfl | hb
    · exact r.f.free hy
    · rw [List.mem_singleton.mp hb]; exact r.f.free hdx
  rw [show fn (.ref y) [] [] = res from ev]
  cases res with
  | bad => exact hnb rfl
  | err z => exact p.elim
  | ok q =>
    obtain ⟨o, d⟩ := q
    cases o with
    | t os =>
      cases d with
      | non =>
        have p : PostS X.K W D G F (.next (ρ.set i (.obj none c ks os))) := p
        refine ⟨os, rfl, fun u F' H' fp' b h1 h2 h3 h4 => ⟨h4.non_inv, ?_⟩⟩
        have ln : ∀ (j : Nat) (s : Sl) (x : Option V) (b' : Addr), ρ[j]? = some s → σ[j]? = some x → Owned X.K F H s x b' → less Hn [y, dx] b' = H b' ∧ ∃ u, H b' = some u := fun j s x b' k1 k2 ob => by
          obtain ⟨⟨u, hu⟩, _⟩ := (r.at_ j s x k1 k2).own ob
          have n1 : b' ≠ y := ne_of_none hu hy
          have n2 : b' ≠ dx := ne_of_none hu hdx
          refine ⟨by rw [less_out (by simp [n1, n2]), atn b' n1 n2], u, hu⟩
        have gH : Same G H' := fun b' u e => by
          have hu := r.g _ _ e
          have n1 : b' ≠ y := ne_of_none hu hy
          have n2 : b' ≠ dx := ne_of_none hu hdx
          exact b.h _ _ (by rw [less_out (by simp [n1, n2]), atn b' n1 n2]; exact hu)
        have gfree : ∀ b', less Hn [y, dx] b' = none → G b' = none := fun b' e => by
          by_cases hb : b' ∈ [y, dx]
          · rcases List.mem_cons.mp hb with rfl | hb
            · exact r.g.free hy
            · rw [List.mem_singleton.mp hb]; exact r.g.free hdx
          · rw [less_out hb] at e
            exact r.g.free (sHn.free e)
        have q := r.put (F' := F') (H' := H') (i := i) (s' := .obj none c ks os) (x' := some (.ref y)) gH b.s b.f (fun j s x b' _ k1 k2 ob => by
          obtain ⟨e1, u, e2⟩ := ln j s x b' k1 k2 ob
          refine ⟨by rw [e2]; exact b.h _ _ (by rw [e1]; exact e2), ?_⟩
          cases z : F' b' with
          | none => rfl
          | some w =>
            have := b.n b' w z ((r.at_ j s x k1 k2).own ob).2.1
            rw [e1, e2] at this
            cases this) ⟨fun u hu => (nomatch hu), .ref y, fp', rfl, h1, h2, fun a ha => ⟨(h3 a ha).1, gfree a (h3 a ha).2⟩⟩ fun a ha j s x _ k1 k2 ob => by
          obtain ⟨v2, fp2, q1, q2, q3⟩ := ha
          cases q1
          rw [ObR.uniq q2 h1] at q3
          obtain ⟨e1, u, e2⟩ := ln j s x a k1 k2 ob
          rw [(h3 a q3).2, e2] at e1
          cases e1
        exact p _ F' H' b.f (fun a u e1 e2 => gfree a (b.n a u e1 e2)) q
      | _ => exact p.elim
    | v d => exact p.elim
    | l us => exact p.elim
    | m js us => exact p.elim
end
end Dy

set_option Elab.async false
set_option linter.all false
set_option maxRecDepth 100000
/-! ### split, int of a text, try with two clauses and else, a tuple of an object's lists -/
namespace Dy
open PySem PySem.Spec PyProof.Rows L2
def splitR (a : Str) : D → R D
  | .str b => if (b.length == 0) = false ∧ a.length + 2 ≤ sizeLine then .ok (.lst ((Txt.split a b).map .str)) else .bad
  | _ => .bad
def splitF (g : R D) : D → R D
  | .str a => g.bind (splitR a)
  | _ => .bad
def eSplit (f g : REnv → R D) : REnv → R D := fun ρ => (f ρ).bind (splitF (g ρ))
section
variable {X : Cx} {W : WX} {o e : Expr} {f g : REnv → R D} {apos pos : Pos}
theorem se_split (ho : SE X W o f) (he : SE X W e g) (hs : starEach [e] X.env = [(false, eval e X.env)] := by rfl) (hbase : attributeBase o "split" X.env (eval o X.env) = eval o X.env := by rfl) (hline : (apos.endLine == pos.line) = true := by rfl) :
    SE X W (.Call (.Attribute o "split" apos) [e] [] pos) (eSplit f g) :=
  (pe_split ho he hs hbase hline).dy fun σ H Q ⟨G, F, ρ, r, p⟩ => ⟨G, F, ρ, r, by
    unfold eSplit at p
    cases z : f ρ with
    | bad => rw [z] at p; exact p.elim
    | err z' => rw [z] at p; exact p
    | ok a =>
      rw [z] at p
      have p : Post X.K W (Rep X.K) σ F H (splitF (g ρ) a) Q := p
      intro v F1 H1 ex rv
      cases a with
      | str a =>
        have p : Post X.K W (Rep X.K) σ F H ((g ρ).bind (splitR a)) Q := p
        refine ⟨⟨a, rv.str_inv⟩, G, F1, ρ, r.ext ex, ?_⟩
        cases z2 : g ρ with
        | bad => rw [z2] at p; exact p.elim
        | err z' => rw [z2] at p; exact fun cls dd F2 H2 ex2 xd => p cls dd F2 H2 (ex.trans ex2) xd
        | ok b =>
          rw [z2] at p
          have p : Post X.K W (Rep X.K) σ F H (splitR a b) Q := p
          intro u F2 H2 ex2 ru
          cases b with
          | str b =>
            have p : Post X.K W (Rep X.K) σ F H (if (b.length == 0) = false ∧ a.length + 2 ≤ sizeLine then .ok (.lst ((Txt.split a b).map .str)) else .bad) Q := p
            by_cases hc : (b.length == 0) = false ∧ a.length + 2 ≤ sizeLine
            · rw [if_pos hc] at p
              refine ⟨a, b, rv.str_inv, by rw [ru.str_inv], hc.1, hc.2, fun q hq => ?_⟩
              have nx := Ext.new (o := HO.lst ((Txt.split a b).map V.str)) ex2.s hq
              exact p (.ref q) _ _ ((ex.trans ex2).trans nx) (Rep.mk_lst (.of upd_same) (rep_strs _))
            · rw [if_neg hc] at p; exact p.elim
          | _ => exact p.elim
      | _ => exact p.elim⟩
end
/-! #### int of a text -/
def oIntS : List D → Option D
  | [.str a] => match PySem.intText? a with
    | some n => if a.length ≤ 640 then some (.int n) else none
    | none => none
  | _ => none
section
variable {X : Cx}
theorem d_intS : CallR X (.type "int") (fun xs H Q => ∃ a n, xs = [.str a] ∧ PySem.intText? a = some n ∧ a.length ≤ 640 ∧ Q (.int n) H) ∧ OpN X.K (fun xs H Q => ∃ a n, xs = [.str a] ∧ PySem.intText? a = some n ∧ a.length ≤ 640 ∧ Q (.int n) H) oIntS := ⟨call_int_str, fun F H xs as d Q s ra e q => by
  unfold oIntS at e
  split at e
  · rename_i a
    split at e
    · rename_i n hn
      split at e
      · rename_i hl
        cases e
        obtain ⟨v, rfl, h⟩ := ra.one
        exact ⟨a, n, by rw [h.str_inv], hn, hl, now q s Rep.mk_int⟩
      · cases e
    · cases e
  · cases e⟩
end
/-! #### try .. except C .. except C' .. else -/
def catch2 (ks : List Str) (y y2 : Str) (h h2 : REnv → SR) (ρ : REnv) : D → SR
  | .exc c fs xs => if ks.contains c = true then (if isaC c y = true then noErr (h ρ) else if isaC c y2 = true then noErr (h2 ρ) else .err (.exc c fs xs) ρ) else .bad
  | _ => .bad
def sTry2 (ks : List Str) (y y2 : Str) (g h h2 u : REnv → SR) : REnv → SR := fun ρ => match g ρ with
  | .err e ρ' => catch2 ks y y2 h h2 ρ' e
  | .next ρ' => u ρ'
  | x => x
section
variable {X : Cx} {W : WX} {y y2 : Str} {body suite suite2 orelse : List Stmt} {b₀ b₁ : Stmt} {np np2 pos pos' pos2 : Pos} {g h h2 u : REnv → SR} {ks cs : List Str}
theorem ss_try2 (E : ExF X.K X.mg ks cs) (tk : Takes X W)
    (hb : ∀ (W : WX) (pn : List (Addr × Obj)) (xe : Value → Shared → Prop), Takes (X.tr pn xe) W → PassesOwn (model X.prog X.w) X.A X.env xe → SSs (X.tr pn xe) W body g)
    (hsu : ∀ (a : Addr) (pn : List (Addr × Obj)), SSs (X.suite a pn) (fun _ _ _ _ => False) (b₀ :: suite) h)
    (hsu2 : ∀ (a : Addr) (pn : List (Addr × Obj)), SSs (X.suite a pn) (fun _ _ _ _ => False) (b₁ :: suite2) h2)
    (ho : SSs X W orelse u)
    (hs : X.stack = X.env :: X.outer := by rfl) (hf : X.env.frame = some X.env.locals := by rfl)
    (hg : Gl X y := by rfl) (hy : y ∈ cs := by decide) (hdb : (y == ("__debug__" : Str)) = false := by decide) (hg2 : Gl X y2 := by rfl) (hy2 : y2 ∈ cs := by decide) (hdb2 : (y2 == ("__debug__" : Str)) = false := by decide) :
    SS X W (.Try body [.ExceptHandler (some (.Name y np)) none (b₀ :: suite) pos', .ExceptHandler (some (.Name y2 np2)) none (b₁ :: suite2) pos2] orelse [] pos) (sTry2 ks y y2 g h h2 u) := by
  refine (ps_try_manyE (tb := fun W' => rs X.K W' g) (Wout := W) ho hs hf tk hb (.cons (ts := fun _ _ _ => rs X.K (fun _ _ _ _ => False) h) ⟨hg, hdb, .inl (E.glo y hy)⟩ (fun a oe _ _ pn _ _ => hsu a ((a, oe) :: pn)) (.cons (ts := fun _ _ _ => rs X.K (fun _ _ _ _ => False) h2) ⟨hg2, hdb2, .inl (E.glo y2 hy2)⟩ (fun a oe _ _ pn _ _ => hsu2 a ((a, oe) :: pn)) .nil))).dy fun D σ H ⟨G, F, ρ, r, p⟩ => ⟨G, F, ρ, r, ?_⟩
  unfold sTry2 at p
  cases e : g ρ with
  | next ρ' =>
    rw [e] at p
    exact fun σ' F' H' s1 n1 r1 => ⟨G, F', ρ', r1, PostS.ext s1 n1 p⟩
  | ret v => rw [e] at p; exact p
  | bad => rw [e] at p; exact p
  | err z ρ' =>
    rw [e] at p
    have p : PostS X.K W D G F (catch2 ks y y2 h h2 ρ' z) := p
    intro σ1 F1 H1 cls dd s1 n1 r1 xd
    obtain ⟨c, fs, xs, vs, rfl, rfl, hl, hv, hd⟩ := xd
    have p : PostS X.K W D G F (if ks.contains c = true then (if isaC c y = true then noErr (h ρ') else if isaC c y2 = true then noErr (h2 ρ') else .err (.exc c fs xs) ρ') else .bad) := p
    by_cases hk : ks.contains c = true
    · rw [if_pos hk] at p
      have hk' : c ∈ ks := by simpa using hk
      refine ⟨isaC c y, E.exm c hk' y hy, fun yes a na => ?_, fun no => ?_⟩
      · rw [if_pos yes] at p
        refine ⟨G, F1, ρ', r1, ?_⟩
        have p := PostS.ext s1 n1 p
        unfold noErr at p
        cases e2 : h ρ' with
        | next ρ2 => rw [e2] at p; exact p
        | ret v => rw [e2] at p; exact p
        | err _ _ => rw [e2] at p; exact p.elim
        | bad => rw [e2] at p; exact p.elim
      · rw [if_neg (by simp [no])] at p
        refine ⟨isaC c y2, E.exm c hk' y2 hy2, fun yes a na => ?_, fun no2 => ?_⟩
        · rw [if_pos yes] at p
          refine ⟨G, F1, ρ', r1, ?_⟩
          have p := PostS.ext s1 n1 p
          unfold noErr at p
          cases e2 : h2 ρ' with
          | next ρ2 => rw [e2] at p; exact p
          | ret v => rw [e2] at p; exact p
          | err _ _ => rw [e2] at p; exact p.elim
          | bad => rw [e2] at p; exact p.elim
        · rw [if_neg (by simp [no2])] at p
          exact p σ1 F1 H1 _ dd s1 n1 r1 ⟨c, fs, xs, vs, rfl, rfl, hl, hv, hd⟩
    · rw [if_neg hk] at p
      exact p.elim
end
end Dy
/-! #### return (x.a, x.b, x.c), x an object of one's own -/
namespace Dy
open PySem PySem.Spec PyProof.Rows L2
noncomputable def sRetOb (sh : Sh) (i : Nat) (c : Str) (ns : List Str) : REnv → SR := fun ρ => match ρ[i]? with
  | some (.obj _ c' ks os) => open Classical in if c' = c ∧ ks = ns ∧ mask sh (.tup (O.toDs os)) = .t os then .ret (.tup (O.toDs os)) else .bad
  | _ => .bad
section
variable {X : Cx} {W : WX} {sh : Sh} {x c n1 n2 n3 : Str} {p1 p2 p3 q1 q2 q3 tp pos : Pos} {kk : Nat}
theorem sst_retOb (i : Nat) (hc : Cls X.K (He.ga X.K c)) (h1 : NoAttr X.K (He.ga X.K c) n1) (h2 : NoAttr X.K (He.ga X.K c) n2) (h3 : NoAttr X.K (He.ga X.K c) n3) (hi1 : idxS n1 [n1, n2, n3] = some 0) (hi2 : idxS n2 [n1, n2, n3] = some 1) (hi3 : idxS n3 [n1, n2, n3] = some 2)
    (hN : X.N[i]? = some x := by rfl) (hv : Vis X.env.scope x := by first | exact Or.inl rfl | exact Or.inr (Or.inl rfl) | exact Or.inr (Or.inr rfl)) (hd : (x == ("__debug__" : Str)) = false := by decide) (hcd : (x == ("__classdict__" : Str)) = false := by decide)
    (b1 : attributeBase (.Name x p1) n1 X.env (eval (.Name x p1) X.env) = eval (.Name x p1) X.env := by rfl) (b2 : attributeBase (.Name x p2) n2 X.env (eval (.Name x p2) X.env) = eval (.Name x p2) X.env := by rfl) (b3 : attributeBase (.Name x p3) n3 X.env (eval (.Name x p3) X.env) = eval (.Name x p3) X.env := by rfl)
    (s1 : starEach [.Attribute (.Name x p1) n1 q1, .Attribute (.Name x p2) n2 q2, .Attribute (.Name x p3) n3 q3] X.env = (false, eval (.Attribute (.Name x p1) n1 q1) X.env) :: starEach [.Attribute (.Name x p2) n2 q2, .Attribute (.Name x p3) n3 q3] X.env := by rfl)
    (s2 : starEach [.Attribute (.Name x p2) n2 q2, .Attribute (.Name x p3) n3 q3] X.env = (false, eval (.Attribute (.Name x p2) n2 q2) X.env) :: starEach [.Attribute (.Name x p3) n3 q3] X.env := by rfl)
    (s3 : starEach [.Attribute (.Name x p3) n3 q3] X.env = (false, eval (.Attribute (.Name x p3) n3 q3) X.env) :: starEach [] X.env := by rfl) :
    SST X W sh (.Return (some (.Tuple [.Attribute (.Name x p1) n1 q1, .Attribute (.Name x p2) n2 q2, .Attribute (.Name x p3) n3 q3] kk tp)) pos) (sRetOb sh i c [n1, n2, n3]) :=
  (ps_ret (pe_tup (pa_cons (pe_fld (pe_var hN hv hd hcd) b1) (pa_cons (pe_fld (pe_var hN hv hd hcd) b2) (pa_cons (pe_fld (pe_var hN hv hd hcd) b3) pa_nil s3) s2) s1))).dy fun D σ H ⟨G, F, ρ, r, p⟩ => by
    classical
    unfold sRetOb at p
    split at p
    case h_2 => exact p.elim
    rename_i w c' ks os z
    by_cases hcc : c' = c ∧ ks = [n1, n2, n3] ∧ mask sh (.tup (O.toDs os)) = .t os
    case neg => rw [if_neg hcc] at p; exact p.elim
    rw [if_pos hcc] at p
    obtain ⟨rfl, rfl, hm⟩ := hcc
    obtain ⟨v, fp, g1, g2, g3, g4, g5, g6⟩ := obj_at r z
    obtain ⟨a, dx, vs, fq, rfl, ha, hdx, hl, rfl, hos⟩ := g2
    match vs, hl, ha, hos with
    | [v1, v2, v3], hl, ha, hos =>
      refine ⟨.ref a, g1, a, _, dx, _, v1, rfl, ha, hc, h1, idxS_lk hi1 rfl, .ref a, g1, a, _, dx, _, v2, rfl, ha, hc, h2, idxS_lk hi2 rfl, .ref a, g1, a, _, dx, _, v3, rfl, ha, hc, h3, idxS_lk hi3 rfl, by simp [sizeLine_eq], fun q hq => ?_⟩
      have nx := Ext.new (o := HO.tup [v1, v2, v3]) r.f hq
      have nq : ∀ b ∈ fq, b ≠ q := fun b hb e => by
        obtain ⟨u, hu⟩ := OwRs.inH os _ fq hos b hb
        rw [e, hq] at hu
        cases hu
      refine p (.ref q) fq _ _ nx.f (nx.newG r.g) (r.g.trans nx.h) nx.s ?_ (List.nodup_cons.mp (List.nodup_cons.mp g3).2).2 fun b hb => ?_
      · rw [hm, OwR]
        exact ⟨q, [v1, v2, v3], rfl, upd_same, OwRs.move nx.f os _ fq hos fun b hb => upd_ne (nq b hb)⟩
      · obtain ⟨e1, e2⟩ := g4 b (List.mem_cons_of_mem _ (List.mem_cons_of_mem _ hb))
        exact ⟨by rw [upd_ne (nq b hb)]; exact e1, e2⟩
    | [], hl, _, _ => cases hl
    | [_], hl, _, _ => cases hl
    | [_, _], hl, _, _ => cases hl
    | _ :: _ :: _ :: _ :: _, hl, _, _ => simp at hl
end
end Dy

set_option Elab.async false
set_option linter.all false
set_option maxRecDepth 100000
set_option maxHeartbeats 2000000
/-! ### a written dict with texts for keys, d.get(k, z) -/
namespace Dy
open PySem PySem.Spec PyProof.Rows L2
def DP (X : Cx) (W : WX) (pos : Pos) (keys : List (Option Expr)) (values : List Expr) (ks : List Key) (t : REnv → R (List D)) : Prop :=
  ∃ trs, PPs X pos keys values trs ∧ ∀ σ H Q, ra X.K W t σ H (fun vs H' => Q ((ks.map kV).zip vs) H') → tPairs trs σ H Q
def lookK (ks : List Key) (ds : List D) (k : Key) : Option D := ((ks.zip ds).find? fun p => decide (p.1 = k)).map (·.2)
def keyOf : D → Option Key
  | .str x => some (.inr x)
  | .int i => some (.inl i)
  | _ => none
section
variable {X : Cx} {W : WX} {pos : Pos} {keys : List (Option Expr)} {values : List Expr} {ks : List Key} {t : REnv → R (List D)} {f g h : REnv → R D}
theorem dp_nil : DP X W pos [] [] [] aNil := ⟨[], pps_nil, fun σ H Q ⟨G, F, ρ, r, p⟩ => p [] F H (.refl r.f) RepL.nil⟩
theorem dp_cons {x : Str} {j} {kp : Pos} {v : Expr} (hv : SE X W v f) (hr : DP X W pos keys values ks t) : DP X W pos (some (.Constant (.str x) j kp) :: keys) (v :: values) (.inr x :: ks) (aCons f t) := by
  obtain ⟨trs, h1, h2⟩ := hr
  refine ⟨_, pps_cons pe_str hv h1, fun σ H Q ⟨G, F, ρ, r, p⟩ => ?_⟩
  refine ⟨G, F, ρ, r, Post.bind p fun d y F1 H1 _ e1 r1 p1 => ?_⟩
  refine h2 σ H1 _ ⟨G, F1, ρ, r.ext e1, Post.bind p1 fun ds vs F2 H2 _ e2 r2 p2 => ?_⟩
  exact p2 (y :: vs) F2 H2 (.refl e2.s) (RepL.cons (Rep.mono e2.f _ _ r1) r2)
theorem zip_kV {ks : List Key} {vs : List V} : (ks.map kV).zip vs = (ks.zip vs).map fun kv => (kV kv.1, kv.2) := by
  induction ks generalizing vs with
  | nil => rfl
  | cons k ks ih =>
    cases vs with
    | nil => rfl
    | cons v vs =>
      show (kV k, v) :: (ks.map kV).zip vs = _
      rw [ih]
      rfl
theorem zip_keys : ∀ {ks : List Key} {vs : List V}, ks.length = vs.length → (ks.zip vs).map (·.1) = ks
  | [], [], _ => rfl
  | [], _ :: _, h => nomatch h
  | _ :: _, [], h => nomatch h
  | k :: ks, v :: vs, h => by
    rw [List.zip_cons_cons, List.map_cons, zip_keys (by simpa using h)]
theorem keyOf_rep {K : PySem.W.Frag} {F : Hp} {k : D} {kk : Key} {y : V} (h : keyOf k = some kk) (r : Rep K F k y) : y = kV kk := by
  unfold keyOf at h
  split at h
  · cases h
    exact r.str_inv
  · cases h
    exact r.int_inv
  · cases h
section
variable {ρ : REnv} {P : D → Prop} {E : D → Prop}
end
end
end Dy

set_option Elab.async false
set_option linter.all false
set_option maxRecDepth 100000
set_option maxHeartbeats 2000000
/-! ### a written dict as one's own: x = {"a": e, ..}, x[k], x[k] = e; x.insert(i, e) -/
namespace Dy
open PySem PySem.Spec PyProof.Rows L2
def sOwnK (i : Nat) (ks : List Key) (t : REnv → R (List D)) : REnv → SR := fun ρ => (t ρ).toS ρ fun ds => if ks.length = ds.length ∧ ks.Nodup ∧ ks.length ≤ 15 then .next (ρ.set i (.ownD ks ds)) else .bad
def eIxK (i : Nat) (g : REnv → R D) : REnv → R D := fun ρ => match ρ[i]? with
  | some (.ownD ks ds) => (g ρ).bind fun k => match keyOf k with
    | some kk => .opt (lookK ks ds kk)
    | none => .bad
  | _ => .bad
def sPutK (i : Nat) (f g : REnv → R D) : REnv → SR := fun ρ => (f ρ).toS ρ fun d => match ρ[i]? with
  | some (.ownD ks ds) => (g ρ).toS ρ fun k => match keyOf k with
    | some kk => if ks.length < 1000000 then .next (ρ.set i (.ownD (putD ks ds kk d).1 (putD ks ds kk d).2)) else .bad
    | none => .bad
  | _ => .bad
def insR (i : Nat) (ds : List D) (ρ : REnv) (d : D) : D → SR
  | .int k => if ds.length < sizeLine ∧ 0 ≤ k ∧ k < 2 ^ 63 then .next (ρ.set i (.own (ds.take k.toNat ++ [d] ++ ds.drop k.toNat))) else .bad
  | _ => .bad
def sInsO (i : Nat) (f g : REnv → R D) : REnv → SR := fun ρ => match ρ[i]? with
  | some (.own ds) => (f ρ).toS ρ fun k => (g ρ).toS ρ fun d => insR i ds ρ d k
  | _ => .bad
section
variable {K : PySem.W.Frag} {G F H F' H' : Hp} {σ : St} {ρ : REnv}
/-- a slot takes a new dict, whose place was laid ahead -/
theorem RepE.setK (r : RepE K G F H σ ρ) {q : Addr} (hq : H q = none) {i : Nat} (ex : Ext F (upd H q (.dK [])) F' H') {ks : List Key} {ds : List D} {vs : List V} (hl : ks.length = vs.length) (h : RepL K F' ds vs) :
    RepE K G F' (upd H' q (.dK (ks.zip vs))) (σ.set i (some (.ref q))) (ρ.set i (.ownD ks ds)) := by
  have nw : Ext F H F (upd H q (.dK [])) := Ext.newH r.f hq
  have r2 : RepE K G F' H' σ ρ := (r.ext nw).ext ex
  have fq : F q = none := r.f.free hq
  have hq2 : H' q = some (.dK []) := ex.h _ _ upd_same
  have fq2 : F' q = none := by
    cases z2 : F' q with
    | none => rfl
    | some u =>
      have := ex.n q u z2 fq
      rw [upd_same] at this
      cases this
  have gq : G q = none := r.g.free hq
  have mv : ∀ (j : Nat) (s : Sl) (x : Option V), ρ[j]? = some s → σ[j]? = some x → ∀ b, Owned K F' H' s x b → b ≠ q ∧ F' b = none := fun j s x h1 h2 b o => by
    have m := ((r.at_ j s x h1 h2).move (F' := F') (H' := H') ex.f fun b o => by
      obtain ⟨⟨u, hu⟩, hf, _⟩ := (r.at_ j s x h1 h2).own o
      have hb : b ≠ q := fun e => by rw [e, hq] at hu; cases hu
      refine ⟨?_, ?_⟩
      · rw [hu]
        exact ex.h _ _ (by rw [upd_ne hb]; exact hu)
      · cases z : F' b with
        | none => rfl
        | some w =>
          have := ex.n b w z hf
          rw [upd_ne hb, hu] at this
          cases this).2 b o
    obtain ⟨⟨u, hu⟩, hf, _⟩ := (r.at_ j s x h1 h2).own m
    refine ⟨fun e => (by rw [e, hq] at hu; cases hu), ((r2.at_ j s x h1 h2).own o).2.1⟩
  refine r2.put (fun b o z => ?_) (fun b o z => ?_) (.refl _) (fun j s x b _ h1 h2 o => ⟨upd_ne (mv j s x h1 h2 b o).1, (mv j s x h1 h2 b o).2⟩) ⟨q, vs, rfl, upd_same, hl, h, fq2, gq⟩ fun b o j s x _ h1 h2 o2 => ?_
  · rw [upd_ne (ne_of_none z gq)]; exact r2.g _ _ z
  · rw [upd_ne (ne_of_none z fq2)]; exact r2.f _ _ z
  · have o : some (V.ref q) = some (.ref b) := o
    cases o
    exact (mv j s x h1 h2 q o2).1 rfl
end
section
variable {X : Cx} {W : WX} {e b : Expr} {f g : REnv → R D} {pos sp np pos' dp ap xp : Pos} {x : Str} {keys : List (Option Expr)} {values : List Expr} {ks : List Key} {t : REnv → R (List D)}
theorem ss_ownK {i : Nat} (hN : X.N.Nodup) (hd : DP X W dp keys values ks t) (hi : X.N[i]? = some x := by rfl) (hx : Loc X.env.scope x := by first | exact Or.inl rfl | exact Or.inr rfl) (hs : swapsWith (.Dict keys values dp) (some (.Name x pos')) pos.line X.env = pure false := by rfl)
    (hf : X.fn x = true ∨ X.env.scope.names.lookup x = some .local := by first | exact .inl rfl | exact .inr rfl | assumption)
    (hall : keys.all (·.isSome) = true := by rfl) (hl : keys.length = values.length := by rfl) (h0 : keys ≠ [] := by exact fun z => nomatch z) (h15 : keys.length ≤ 15 := by decide) : SS X W (.Assign [.Name x pos'] (.Dict keys values dp) pos) (sOwnK i ks t) := by
  obtain ⟨trs, h1, h2⟩ := hd
  refine (ps_set hN hi hx (pe_disp h1 hall hl h0 h15) hs hf).dy fun D σ H ⟨G, F, ρ, r, p⟩ => fun q hq => ?_
  have nw : Ext F H F (upd H q (.dK [])) := Ext.newH r.f hq
  refine h2 σ _ _ ⟨G, F, ρ, r.ext nw, ?_⟩
  unfold sOwnK at p
  cases z : t ρ with
  | bad => rw [z] at p; exact p.elim
  | err e =>
    rw [z] at p
    exact fun cls dd F' H' ex xd => p σ F' H' cls dd (nw.trans ex).f ((nw.trans ex).newG r.g) (r.ext (nw.trans ex)) xd
  | ok ds =>
    rw [z] at p
    have p : PostS X.K W D G F (if ks.length = ds.length ∧ ks.Nodup ∧ ks.length ≤ 15 then .next (ρ.set i (.ownD ks ds)) else .bad) := p
    intro vs F2 H2 ex rl
    by_cases hc : ks.length = ds.length ∧ ks.Nodup ∧ ks.length ≤ 15
    · rw [if_pos hc] at p
      have lv : ks.length = vs.length := by rw [hc.1, rl.length]
      refine ⟨ex.h _ _ upd_same, ks.zip vs, zip_kV, by rw [List.length_zip]; omega, ?_⟩
      rw [mergeK_nodup (ks.zip vs) [] (by rw [List.nil_append, zip_keys lv]; exact hc.2.1), List.nil_append]
      exact p _ F2 _ ex.f ((nw.trans ex).newG r.g) (r.setK hq ex lv rl)
    · rw [if_neg hc] at p
      exact p.elim
theorem se_ixK (i : Nat) (hu : X.A.units + 64 < cLine) (hb : SE X W b g) (hN : X.N[i]? = some x := by rfl) (hv : Vis X.env.scope x := by first | exact Or.inl rfl | exact Or.inr (Or.inl rfl) | exact Or.inr (Or.inr rfl)) (hd : (x == ("__debug__" : Str)) = false := by decide) (hcd : (x == ("__classdict__" : Str)) = false := by decide) (hs : NoSl b := by exact fun _ _ => rfl) :
    SE X W (.Subscript (.Name x np) b pos) (eIxK i g) :=
  (pe_dget (by omega) (pe_var hN hv hd hcd) hb hs).dy fun σ H Q ⟨G, F, ρ, r, p⟩ => by
    unfold eIxK at p
    split at p
    case h_2 => exact p.elim
    rename_i ks ds z
    obtain ⟨a, vs, e1, e2, e4, e3, hf, hg⟩ := ownD_at r z
    refine ⟨.ref a, e1, G, F, ρ, r, Post.bind p fun k y F2 H2 _ ex rk p2 => ?_⟩
    cases w : keyOf k with
    | none => rw [w] at p2; exact p2.elim
    | some kk =>
      rw [w] at p2
      obtain ⟨d, e5, q⟩ := Post.opt p2
      obtain ⟨v, e6, rv⟩ := dct_val (RepL.mono ex.f _ _ e3) e5
      refine ⟨a, v, rfl, ?_, q v F2 H2 (.refl ex.s) rv⟩
      rw [keyOf_rep w rk, ← e6]
      exact .inl ⟨_, kk, .inl (ex.h _ _ e2), rfl, rfl⟩
theorem ss_putK (i : Nat) (hu : X.A.units + 64 < cLine) (he : SE X W e f) (hb : SE X W b g) (hN : X.N[i]? = some x := by rfl) (hv : Vis X.env.scope x := by first | exact Or.inl rfl | exact Or.inr (Or.inl rfl) | exact Or.inr (Or.inr rfl)) (hd : (x == ("__debug__" : Str)) = false := by decide) (hcd : (x == ("__classdict__" : Str)) = false := by decide)
    (hp : PSet X rSetD → ∀ {to ti : TE}, PE X (.Name x np) to → PE X b ti → PG X (.Subscript (.Name x np) b sp) (gSub to ti rSetD) := by exact fun hd {_ _} h1 h2 => pg_sub h1 h2 hd)
    (hs : swapsWithSole [.Subscript (.Name x np) b sp] e pos.line X.env = pure false := by rfl) (hw : swappedStores [.Subscript (.Name x np) b sp] e X.env = pure none := by rfl)
    (h1 : (assignEach [.Subscript (.Name x np) b sp] X.env).map (·.2) = [assign (.Subscript (.Name x np) b sp) X.env] := by rfl) :
    SS X W (.Assign [.Subscript (.Name x np) b sp] e pos) (sPutK i f g) :=
  (ps_asg he (hp (set_dict (by omega)) (pe_var hN hv hd hcd) hb) hs hw h1).dy fun D σ H ⟨G, F, ρ, r, p⟩ => ⟨G, F, ρ, r, PostS.toS r p fun d v F' H' _ ex rp r' p' => by
    split at p'
    case h_2 => exact p'.elim
    rename_i ks ds z
    obtain ⟨a, vs, e1, e2, e4, e3, hf, hg⟩ := ownD_at r' z
    refine ⟨.ref a, e1, G, F', ρ, r', PostS.toS r' p' fun k w F2 H2 _ ex2 rk r2 p2 => ?_⟩
    cases w2 : keyOf k with
    | none => rw [w2] at p2; exact p2.elim
    | some kk =>
      rw [w2] at p2
      dsimp only at p2
      by_cases hl : ks.length < 1000000
      · rw [if_pos hl] at p2
        obtain ⟨ws, z1, z2, z3⟩ := put_zip (k := kk) e4 (RepL.mono ex2.f _ _ e3) (Rep.mono ex2.f _ _ rp)
        refine ⟨a, _, rfl, ?_, p2 σ F2 _ (.refl _) .refl (r2.turnD z e1 z2 z3)⟩
        rw [keyOf_rep w2 rk, ← z1]
        exact DPut.k (k := kk) (ex2.h _ _ e2) (by rw [List.length_zip, sizeLine_eq]; omega)
      · rw [if_neg hl] at p2; exact p2.elim⟩
theorem ss_insO (i : Nat) (he : SE X W e f) (hb : SE X W b g) (hN : X.N[i]? = some x := by rfl) (hv : Vis X.env.scope x := by first | exact Or.inl rfl | exact Or.inr (Or.inl rfl) | exact Or.inr (Or.inr rfl)) (hd : (x == ("__debug__" : Str)) = false := by decide) (hcd : (x == ("__classdict__" : Str)) = false := by decide)
    (hbm : ∀ {te : TE} {ta : TA}, PE X (.Name x np) te → PA X [e, b] ta → PE X (.Call (.Attribute (.Name x np) "insert" ap) [e, b] [] xp) (tBM X.K "list" (fun x vs H Q => ∃ (l : Addr) (xs : List V) (i : Int) (y : V), x = .ref l ∧ vs = [.int i, y] ∧ H l = some (.lst xs) ∧ xs.length < sizeLine ∧ 0 ≤ i ∧ i < 2 ^ 63 ∧
    Q .non (upd H l (.lst (xs.take i.toNat ++ [y] ++ xs.drop i.toNat)))) te ta) := by exact fun h1 h2 => pe_bm PySem.F.plainAttrs_list PySem.F.slot_list_insert PySem.F.type_list_insert mt_insert h1 h2)
    (hse : starEach (e :: [b]) X.env = (false, eval e X.env) :: starEach [b] X.env := by rfl) (hse2 : starEach (b :: []) X.env = (false, eval b X.env) :: starEach [] X.env := by rfl)
    (hs : swapsWith (.Call (.Attribute (.Name x np) "insert" ap) [e, b] [] xp) none pos.line X.env = pure false := by rfl) : SS X W (.Expr (.Call (.Attribute (.Name x np) "insert" ap) [e, b] [] xp) pos) (sInsO i f g) :=
  (ps_expr (hbm (pe_var hN hv hd hcd) (pa_cons he (pa_cons hb pa_nil hse2) hse)) hs).dy fun D σ H ⟨G, F, ρ, r, p⟩ => by
    unfold sInsO at p
    split at p
    case h_2 => exact p.elim
    rename_i ds z
    obtain ⟨a, vs, h1, h2, h3⟩ := own_at r z
    refine ⟨.ref a, h1, .inl ⟨rfl, _, SqL.of h2⟩, G, F, ρ, r, PostS.toS r p fun k w F1 H1 _ ex1 rk r1 p1 => ⟨G, F1, ρ, r1, PostS.toS r1 p1 fun d v F2 H2 _ ex2 rd r2 p2 => ?_⟩⟩
    cases k with
    | int k =>
      have p2 : PostS X.K W D G F2 (if ds.length < sizeLine ∧ 0 ≤ k ∧ k < 2 ^ 63 then .next (ρ.set i (.own (ds.take k.toNat ++ [d] ++ ds.drop k.toNat))) else .bad) := p2
      by_cases hc : ds.length < sizeLine ∧ 0 ≤ k ∧ k < 2 ^ 63
      · rw [if_pos hc] at p2
        have h3' := RepL.mono (ex1.f.trans ex2.f) _ _ h3
        have hk := rk.int_inv
        subst hk
        exact ⟨a, vs, k, v, rfl, rfl, ex2.h _ _ (ex1.h _ _ h2), by rw [← h3.length]; exact hc.1, hc.2.1, hc.2.2, p2 σ F2 _ (.refl _) .refl (r2.turnO z h1 (((RepL.take k.toNat h3').append (RepL.cons rd RepL.nil)).append (RepL.drop k.toNat h3')))⟩
      · rw [if_neg hc] at p2
        exact p2.elim
    | _ => exact p2.elim
end
section
variable {ρ : REnv} {N : REnv → Prop} {T : D → Prop} {E : D → REnv → Prop} {P E' : D → Prop} {f g : REnv → R D} {t : REnv → R (List D)} {i : Nat} {ks : List Key} {ds : List D}
theorem sp_ownK (h : (t ρ).wp (fun ds => (ks.length = ds.length ∧ ks.Nodup ∧ ks.length ≤ 15) ∧ Upd ρ i (.ownD ks ds) N) (fun e => E e ρ)) : (sOwnK i ks t ρ).wp N T E := wp_toS (h.post fun ds h1 => by rw [if_pos h1.1]; exact h1.2)
theorem wp_ixK (e : ρ[i]? = some (.ownD ks ds)) (h : (g ρ).wp (fun k => ∃ kk, keyOf k = some kk ∧ Got (lookK ks ds kk) P) E') : (eIxK i g ρ).wp P E' := by
  unfold eIxK
  rw [e]
  refine wp_bind (h.post fun k ⟨kk, e1, h1⟩ => ?_)
  rw [e1]
  exact wp_opt h1
theorem sp_putK (e : ρ[i]? = some (.ownD ks ds)) (hl : ks.length < 1000000) (h : (f ρ).wp (fun d => (g ρ).wp (fun k => ∃ kk, keyOf k = some kk ∧ Upd ρ i (.ownD (putD ks ds kk d).1 (putD ks ds kk d).2) N) fun e => E e ρ) fun e => E e ρ) : (sPutK i f g ρ).wp N T E := by
  unfold sPutK
  refine wp_toS (h.post fun d h1 => ?_)
  rw [e]
  refine wp_toS (h1.post fun k ⟨kk, e1, h2⟩ => ?_)
  show SR.wp (match keyOf k with | some kk => if ks.length < 1000000 then SR.next _ else .bad | none => .bad) N T E
  rw [e1]
  show (if ks.length < 1000000 then SR.next _ else .bad : SR).wp N T E
  rw [if_pos hl]
  exact h2
theorem sp_insO (e : ρ[i]? = some (.own ds)) (h : (f ρ).wp (fun k => HasI k fun k => (g ρ).wp (fun d => (ds.length < sizeLine ∧ 0 ≤ k ∧ k < 2 ^ 63) ∧ Upd ρ i (.own (ds.take k.toNat ++ [d] ++ ds.drop k.toNat)) N) fun e => E e ρ) fun e => E e ρ) : (sInsO i f g ρ).wp N T E := by
  unfold sInsO
  rw [e]
  refine wp_toS (h.post ?_)
  rintro _ ⟨k, rfl, h1⟩
  refine wp_toS (h1.post fun d ⟨hc, h2⟩ => ?_)
  show (if ds.length < sizeLine ∧ 0 ≤ k ∧ k < 2 ^ 63 then SR.next _ else .bad : SR).wp N T E
  rw [if_pos hc]
  exact h2
end
end Dy

set_option Elab.async false
set_option linter.all false
set_option maxRecDepth 100000
set_option maxHeartbeats 4000000
namespace Gn
open PySem PySem.Spec PyProof.Rows L2 Dy
/-! ### what the defs make of data -/
def xks : List Str := ["NoPlate", "NoSun", "NoYard", "NoRow"]
def xcs : List Str := ["YardError", "NoNumber", "NoPlate", "NoSun", "NoYard", "NotLit", "NoHour", "TooMany", "NoRow", "NoName", "NoSay", "NoBack"]
noncomputable def f_is_whole : List D → R D := fnD 1 1 (sRet (eAndV (eN oIsi (aCons (eVar 0) (aCons (eC (.ty "int")) (aNil)))) (eNotV (eN oIsi (aCons (eVar 0) (aCons (eC (.ty "bool")) (aNil)))))))
noncomputable def f_is_triple : List D → R D := fnD 1 2 (sSeq (sIf (eOr (eNot (eTest (eN oIsi (aCons (eVar 0) (aCons (eC (.ty "tuple")) (aNil)))))) (eTest (eBin oNe (eN oLen (aCons (eVar 0) (aNil))) (eC (.int 3))))) (sRet (eC (.bl false))) (sSkip))
    (sSeq (sFor (iD (eVar 0)) (bName 1) (sIf (eNot (eTest (eCall f_is_whole (aCons (eVar 1) (aNil))))) (sRet (eC (.bl false))) (sSkip)))
    (sRet (eC (.bl true)))))
noncomputable def f_triple_less : List D → R D := fnD 2 2 (sRet (eTup (aCons (eBin oSub (eBin oIx (eVar 0) (eC (.int 0))) (eBin oIx (eVar 1) (eC (.int 0)))) (aCons (eBin oSub (eBin oIx (eVar 0) (eC (.int 1))) (eBin oIx (eVar 1) (eC (.int 1)))) (aCons (eBin oSub (eBin oIx (eVar 0) (eC (.int 2))) (eBin oIx (eVar 1) (eC (.int 2)))) (aNil))))))
noncomputable def f_dot_of : List D → R D := fnD 2 2 (sRet (eBin oAdd (eBin oAdd (eBin oMul (eBin oIx (eVar 0) (eC (.int 0))) (eBin oIx (eVar 1) (eC (.int 0)))) (eBin oMul (eBin oIx (eVar 0) (eC (.int 1))) (eBin oIx (eVar 1) (eC (.int 1))))) (eBin oMul (eBin oIx (eVar 0) (eC (.int 2))) (eBin oIx (eVar 1) (eC (.int 2))))))
noncomputable def f_cross_of : List D → R D := fnD 2 8 (sSeq (sAsg (eVar 0) (bSeq 3 (bCons (bName 2) (bCons (bName 3) (bCons (bName 4) (bNil))))))
    (sSeq (sAsg (eVar 1) (bSeq 3 (bCons (bName 5) (bCons (bName 6) (bCons (bName 7) (bNil))))))
    (sRet (eTup (aCons (eBin oSub (eBin oMul (eVar 3) (eVar 7)) (eBin oMul (eVar 4) (eVar 6))) (aCons (eBin oSub (eBin oMul (eVar 4) (eVar 5)) (eBin oMul (eVar 2) (eVar 7))) (aCons (eBin oSub (eBin oMul (eVar 2) (eVar 6)) (eBin oMul (eVar 3) (eVar 5))) (aNil))))))))
noncomputable def f_is_near_suns : List D → R D := fnD 1 2 (sRet (eBin oLe (eN oMax1 (aCons (eComp [1] (iD (eVar 0)) (bName 1) (eYes) (eN oAbs (aCons (eVar 1) (aNil)))) (aNil))) (eC (.int 1000000000))))
noncomputable def f_is_direction : List D → R D := fnD 1 1 (sRet (eAndV (eCall f_is_triple (aCons (eVar 0) (aNil))) (eAndV (eBin oNe (eVar 0) (eTup (aCons (eC (.int 0)) (aCons (eC (.int 0)) (aCons (eC (.int 0)) (aNil)))))) (eCall f_is_near_suns (aCons (eVar 0) (aNil))))))
noncomputable def f_is_hour_row : List D → R D := fnD 2 2 (sSeq (sIf (eOr (eNot (eTest (eN oIsi (aCons (eVar 0) (aCons (eC (.ty "tuple")) (aNil)))))) (eOr (eTest (eBin oNe (eN oLen (aCons (eVar 0) (aNil))) (eC (.int 2)))) (eNot (eTest (eCall f_is_whole (aCons (eBin oIx (eVar 0) (eC (.int 0))) (aNil))))))) (sRet (eC (.bl false))) (sSkip))
    (sRet (eAndV (eChain oLt oLe (eVar 1) (eBin oIx (eVar 0) (eC (.int 0))) (eC (.int 9999))) (eCall f_is_direction (aCons (eBin oIx (eVar 0) (eC (.int 1))) (aNil))))))
noncomputable def f_look_at_sun : List D → R D := fnD 1 4 (sSeq (sIf (eOr (eNot (eTest (eN oIsi (aCons (eVar 0) (aCons (eC (.ty "list")) (aNil)))))) (eNot (eTest (eChain oLe oLe (eC (.int 1)) (eN oLen (aCons (eVar 0) (aNil))) (eC (.int 80)))))) (sRaiseF "NoSun" "at" (aCons (eC .non) (aNil))) (sSkip))
    (sSeq (sSet 1 (eUn oNeg (eC (.int 1))))
    (sFor (iArgs enum1 (aCons (eVar 0) (aNil))) (bSeq 2 (bCons (bName 2) (bCons (bName 3) (bNil)))) (sSeq (sIf (eNot (eTest (eCall f_is_hour_row (aCons (eVar 3) (aCons (eVar 1) (aNil)))))) (sRaiseF "NoSun" "at" (aCons (eVar 2) (aNil))) (sSkip))
     (sSet 1 (eBin oIx (eVar 3) (eC (.int 0))))))))
noncomputable def f_is_near_plates : List D → R D := fnD 1 2 (sSeq (sIf (eNot (eTest (eCall f_is_triple (aCons (eVar 0) (aNil))))) (sRet (eC (.bl false))) (sSkip))
    (sSeq (sFor (iD (eVar 0)) (bName 1) (sIf (eNot (eTest (eChain oLe oLe (eUn oNeg (eC (.int 1000000000))) (eVar 1) (eC (.int 1000000000))))) (sRet (eC (.bl false))) (sSkip)))
    (sRet (eC (.bl true)))))
noncomputable def f_look_at_plate : List D → R D := fnD 1 2 (sSeq (sIf (eOr (eNot (eTest (eN oIsi (aCons (eVar 0) (aCons (eC (.ty "tuple")) (aNil)))))) (eTest (eBin oNe (eN oLen (aCons (eVar 0) (aNil))) (eC (.int 3))))) (sRaise "NoPlate") (sSkip))
    (sSeq (sFor (iD (eVar 0)) (bName 1) (sIf (eNot (eTest (eCall f_is_near_plates (aCons (eVar 1) (aNil))))) (sRaise "NoPlate") (sSkip)))
    (sIf (eTest (eBin oEq (eCall f_cross_of (aCons (eBin oIx (eVar 0) (eC (.int 1))) (aCons (eBin oIx (eVar 0) (eC (.int 2))) (aNil)))) (eTup (aCons (eC (.int 0)) (aCons (eC (.int 0)) (aCons (eC (.int 0)) (aNil))))))) (sRaise "NoPlate") (sSkip))))
noncomputable def f_front_of : List D → R D := fnD 1 1 (sRet (eCall f_cross_of (aCons (eBin oIx (eVar 0) (eC (.int 1))) (aCons (eBin oIx (eVar 0) (eC (.int 2))) (aNil)))))
noncomputable def f_is_ahead : List D → R D := fnD 2 2 (sRet (eBin oGt (eCall f_dot_of (aCons (eCall f_front_of (aCons (eVar 0) (aNil))) (aCons (eCall f_triple_less (aCons (eVar 1) (aCons (eBin oIx (eVar 0) (eC (.int 0))) (aNil)))) (aNil)))) (eC (.int 0))))
noncomputable def f_is_name : List D → R D := fnD 1 2 (sSeq (sIf (eOr (eNot (eTest (eN oIsi (aCons (eVar 0) (aCons (eC (.ty "str")) (aNil)))))) (eNot (eTest (eChain oLe oLe (eC (.int 1)) (eN oLen (aCons (eVar 0) (aNil))) (eC (.int 8)))))) (sRet (eC (.bl false))) (sSkip))
    (sSeq (sFor (iD (eVar 0)) (bName 1) (sIf (eTest (eBin oNinX (eVar 1) (eC (.str "abcdefghijklmnopqrstuvwxyz")))) (sRet (eC (.bl false))) (sSkip)))
    (sRet (eC (.bl true)))))
noncomputable def f_is_plate : List D → R D := fnD 1 2 (sSeq (sSet 1 (eC (.bl false)))
    (sSeq (sTryO xks "NoPlate" (sExpr (eCall f_look_at_plate (aCons (eVar 0) (aNil)))) (sSet 1 (eC (.bl true))))
    (sRet (eNotV (eVar 1)))))
noncomputable def f_has_tip : List D → R D := fnD 1 1 (sRet (eAndV (eCall f_is_triple (aCons (eBin oIx (eVar 0) (eC (.int 2))) (aNil))) (eAndV (eCall f_is_near_suns (aCons (eBin oIx (eVar 0) (eC (.int 2))) (aNil))) (eCall f_is_ahead (aCons (eBin oIx (eVar 0) (eC (.int 1))) (aCons (eBin oIx (eVar 0) (eC (.int 2))) (aNil)))))))
noncomputable def f_look_at_things : V → O → List D → R (O × D) := fnM 2 3 5 (fun w => sSeq (sNR (sIf (eNot (eTest (eN oIsi (aCons (eVar 0) (aCons (eC (.ty "list")) (aNil)))))) (sRaiseF "NoYard" "name" (aCons (eC .non) (aNil))) (sSkip)))
    (sNR (sFor (iArgs enum1 (aCons (eVar 0) (aNil))) (bSeq 2 (bCons (bName 3) (bCons (bName 4) (bNil)))) (sSeq (sIf (eOr (eNot (eTest (eN oIsi (aCons (eVar 4) (aCons (eC (.ty "tuple")) (aNil)))))) (eOr (eTest (eBin oNe (eN oLen (aCons (eVar 4) (aNil))) (eVar 1))) (eOr (eNot (eTest (eCall f_is_name (aCons (eBin oIx (eVar 4) (eC (.int 0))) (aNil))))) (eTest (eBin oEq (eVar 3) (eC (.int 20))))))) (sRaiseF "NoYard" "name" (aCons (eC .non) (aNil))) (sSkip))
     (sSeq (sIf (eOr (uPeek 2 (eTest (eBin oInX (eBin oIx (eVar 4) (eC (.int 0))) (eVar 2)))) (eNot (eTest (eCall f_is_plate (aCons (eBin oIx (eVar 4) (eC (.int 1))) (aNil)))))) (sRaiseF "NoYard" "name" (aCons (eBin oIx (eVar 4) (eC (.int 0))) (aNil))) (sSkip))
     (sSeq (sIf (eAnd (eTest (eBin oEq (eVar 1) (eC (.int 3)))) (eNot (eTest (eCall f_has_tip (aCons (eVar 4) (aNil)))))) (sRaiseF "NoYard" "name" (aCons (eBin oIx (eVar 4) (eC (.int 0))) (aNil))) (sSkip))
     (sAppG 2 (eBin oIx (eVar 4) (eC (.int 0))))))))))
noncomputable def f_look_at_yard : List D → R D := fnD 1 2 (sSeq (sIf (eOr (eNot (eTest (eN oIsi (aCons (eVar 0) (aCons (eC (.ty "tuple")) (aNil)))))) (eTest (eBin oNe (eN oLen (aCons (eVar 0) (aNil))) (eC (.int 3))))) (sRaiseF "NoYard" "name" (aCons (eC .non) (aNil))) (sSkip))
    (sSeq (sExpr (eCall f_look_at_sun (aCons (eBin oIx (eVar 0) (eC (.int 0))) (aNil))))
    (sSeq (sOwn 1 (aNil))
    (sSeq (sCallM 1 none f_look_at_things (aCons (eBin oIx (eVar 0) (eC (.int 1))) (aCons (eC (.int 2)) (aLast 1))))
    (sCallM 1 none f_look_at_things (aCons (eBin oIx (eVar 0) (eC (.int 2))) (aCons (eC (.int 3)) (aLast 1))))))))
noncomputable def f_number_in : List D → R D := fnD 1 3 (sSeq (sSet 1 (eVar 0))
    (sSeq (sIf (eTest (eBin oEq (eSlS (eVar 0) (oNo) (oSome (eC (.int 1)))) (eC (.str "-")))) (sSet 1 (eSlS (eVar 0) (oSome (eC (.int 1))) (oNo))) (sSkip))
    (sSeq (sIf (eOr (eNot (eTest (eChain oLe oLe (eC (.int 1)) (eN oLen (aCons (eVar 1) (aNil))) (eC (.int 10))))) (eAnd (eTest (eBin oEq (eBin oIx (eVar 1) (eC (.int 0))) (eC (.str "0")))) (eTest (eBin oNe (eVar 0) (eC (.str "0")))))) (sRet (eC .non)) (sSkip))
    (sSeq (sFor (iD (eVar 1)) (bName 2) (sIf (eTest (eBin oNinX (eVar 2) (eC (.str "0123456789")))) (sRet (eC .non)) (sSkip)))
    (sRet (eN oIntS (aCons (eVar 0) (aNil))))))))
noncomputable def f_triples_in : List D → R D := fnD 2 5 (sSeq (sSet 2 (eComp [3] (iD (eVar 0)) (bName 3) (eYes) (eCall f_number_in (aCons (eVar 3) (aNil)))))
    (sSeq (sIf (eOr (eTest (eBin oNe (eN oLen (aCons (eVar 0) (aNil))) (eBin oMul (eC (.int 3)) (eVar 1)))) (eTest (eBin oInX (eC .non) (eVar 2)))) (sRet (eC .non)) (sSkip))
    (sRet (eN oTuple (aCons (eComp [4] (iArgs range1 (aCons (eVar 1) (aNil))) (bName 4) (eYes) (eN oTuple (aCons (eSl (eVar 2) (oSome (eBin oMul (eC (.int 3)) (eVar 4))) (oSome (eBin oAdd (eBin oMul (eC (.int 3)) (eVar 4)) (eC (.int 3))))) (aNil)))) (aNil))))))
noncomputable def f_Paper___init__ : V → List O → List D → R (O × D) := fnB "Paper" [] ["sun", "walls", "dials"] 1 1 (fun w => sSeq (sNR (sNewF 0 "Paper" "sun"))
    (sSeq (sNR (sNewF 0 "Paper" "walls"))
    (sNR (sNewF 0 "Paper" "dials"))))
noncomputable def f_Paper_took_hour : V → List O → List D → R (O × D) := fnB "Paper" ["sun", "walls", "dials"] ["sun", "walls", "dials"] 2 4 (fun w => sSeq (sNR (sSet 2 (eCall f_triples_in (aCons (eSl (eVar 1) (oSome (eC (.int 1))) (oNo)) (aCons (eC (.int 1)) (aNil))))))
    (sSeq (sIf (uPeekB 0 (eOr (eTest (eBin oNe (eBin oAdd (eFld 0 "Paper" "walls") (eFld 0 "Paper" "dials")) (eLst (aNil)))) (eTest (eBin oIsN (eVar 2) (eC .non))))) (sRetB "Paper" ["sun", "walls", "dials"] w (eC (.bl false))) (sSkip))
    (sSeq (sNR (sSet 3 (eCall f_number_in (aCons (eBin oIx (eVar 1) (eC (.int 0))) (aNil)))))
    (sSeq (sIf (eTest (eBin oIsN (eVar 3) (eC .non))) (sRetB "Paper" ["sun", "walls", "dials"] w (eC (.bl false))) (sSkip))
    (sSeq (sNR (sAppF 0 "Paper" "sun" (eTup (aCons (eVar 3) (aCons (eBin oIx (eVar 2) (eC (.int 0))) (aNil))))))
    (sRetB "Paper" ["sun", "walls", "dials"] w (eC (.bl true))))))))
noncomputable def f_Paper_took_wall : V → List O → List D → R (O × D) := fnB "Paper" ["sun", "walls", "dials"] ["sun", "walls", "dials"] 3 4 (fun w => sSeq (sNR (sSet 3 (eCall f_triples_in (aCons (eVar 2) (aCons (eC (.int 3)) (aNil))))))
    (sSeq (sIf (uPeekB 0 (eOr (eTest (eBin oNe (eFld 0 "Paper" "dials") (eLst (aNil)))) (eTest (eBin oIsN (eVar 3) (eC .non))))) (sRetB "Paper" ["sun", "walls", "dials"] w (eC (.bl false))) (sSkip))
    (sSeq (sNR (sAppF 0 "Paper" "walls" (eTup (aCons (eVar 1) (aCons (eVar 3) (aNil))))))
    (sRetB "Paper" ["sun", "walls", "dials"] w (eC (.bl true))))))
noncomputable def f_Paper_took_dial : V → List O → List D → R (O × D) := fnB "Paper" ["sun", "walls", "dials"] ["sun", "walls", "dials"] 3 4 (fun w => sSeq (sNR (sSet 3 (eCall f_triples_in (aCons (eVar 2) (aCons (eC (.int 4)) (aNil))))))
    (sSeq (sIf (eTest (eBin oIsN (eVar 3) (eC .non))) (sRetB "Paper" ["sun", "walls", "dials"] w (eC (.bl false))) (sSkip))
    (sSeq (sNR (sAppF 0 "Paper" "dials" (eTup (aCons (eVar 1) (aCons (eSl (eVar 3) (oNo) (oSome (eC (.int 3)))) (aCons (eBin oIx (eVar 3) (eC (.int 3))) (aNil)))))))
    (sRetB "Paper" ["sun", "walls", "dials"] w (eC (.bl true))))))
noncomputable def f_Paper_took : V → List O → List D → R (O × D) := fnB "Paper" ["sun", "walls", "dials"] ["sun", "walls", "dials"] 2 2 (fun w => sSeq (sIf (eTest (eBin oEq (eBin oIx (eVar 1) (eC (.int 0))) (eC (.str "sun")))) (sRetBP "Paper" ["sun", "walls", "dials"] w (pMeth 0 "Paper" ["sun", "walls", "dials"] ["sun", "walls", "dials"] f_Paper_took_hour (aCons (eSl (eVar 1) (oSome (eC (.int 1))) (oNo)) (aNil)))) (sSkip))
    (sSeq (sIf (uPeekB 0 (eOr (eTest (eBin oLt (eN oLen (aCons (eVar 1) (aNil))) (eC (.int 2)))) (eTest (eBin oEq (eFld 0 "Paper" "sun") (eLst (aNil)))))) (sRetB "Paper" ["sun", "walls", "dials"] w (eC (.bl false))) (sSkip))
    (sSeq (sIf (eTest (eBin oEq (eBin oIx (eVar 1) (eC (.int 0))) (eC (.str "wall")))) (sRetBP "Paper" ["sun", "walls", "dials"] w (pMeth 0 "Paper" ["sun", "walls", "dials"] ["sun", "walls", "dials"] f_Paper_took_wall (aCons (eBin oIx (eVar 1) (eC (.int 1))) (aCons (eSl (eVar 1) (oSome (eC (.int 2))) (oNo)) (aNil))))) (sSkip))
    (sRetBP "Paper" ["sun", "walls", "dials"] w (pAnd (eBin oEq (eBin oIx (eVar 1) (eC (.int 0))) (eC (.str "dial"))) (pMeth 0 "Paper" ["sun", "walls", "dials"] ["sun", "walls", "dials"] f_Paper_took_dial (aCons (eBin oIx (eVar 1) (eC (.int 1))) (aCons (eSl (eVar 1) (oSome (eC (.int 2))) (oNo)) (aNil)))))))))
noncomputable def f_Paper_stands : V → List O → List D → R (O × D) := fnB "Paper" ["sun", "walls", "dials"] ["sun", "walls", "dials"] 1 1 (fun w => sPeekB "Paper" ["sun", "walls", "dials"] w (sTry2 xks "NoSun" "NoYard" (sSeq (sExpr (eCall f_look_at_sun (aCons (eFld 0 "Paper" "sun") (aNil))))
     (sExpr (eCall f_look_at_yard (aCons (eTup (aCons (eFld 0 "Paper" "sun") (aCons (eFld 0 "Paper" "walls") (aCons (eFld 0 "Paper" "dials") (aNil))))) (aNil))))) (sRet (eC (.bl false))) (sRet (eC (.bl false))) (sRet (eC (.bl true)))))
noncomputable def f_read_yard : List D → R O := fnT 1 4 (.t [.l, .l, .l]) (sSeq (sNR (sIf (eNot (eTest (eN oIsi (aCons (eVar 0) (aCons (eC (.ty "str")) (aNil)))))) (sRaiseF "NoRow" "row" (aCons (eC (.int 0)) (aNil))) (sSkip)))
    (sSeq (sNR (sNewB 1 "Paper" ["sun", "walls", "dials"] f_Paper___init__))
    (sSeq (sNR (sFor (iArgs enum1 (aCons (eSplit (eVar 0) (eC (.str "\n"))) (aNil))) (bSeq 2 (bCons (bName 2) (bCons (bName 3) (bNil)))) (sIfP (uOr (uNot (uVal (pMeth 1 "Paper" ["sun", "walls", "dials"] ["sun", "walls", "dials"] f_Paper_took (aCons (eSplit (eVar 3) (eC (.str " "))) (aNil))))) (uNot (uVal (pMeth 1 "Paper" ["sun", "walls", "dials"] ["sun", "walls", "dials"] f_Paper_stands (aNil))))) (sRaiseF "NoRow" "row" (aCons (eVar 2) (aNil))) (sSkip))))
    (sRetOb (.t [.l, .l, .l]) 1 "Paper" ["sun", "walls", "dials"]))))
noncomputable def f__law_cell_at : List D → R D := fnD 2 2 (sSeq (sIf (eTest (eBin oLt (eVar 1) (eN oLen (aCons (eVar 0) (aNil))))) (sRet (eBin oIx (eVar 0) (eVar 1))) (sSkip))
    (sRet (eC (.int 0))))
noncomputable def f__law_draw : List D → R D := fnD 3 6 (sSeq (sIf (eTest (eBin oGe (eVar 0) (eBin oPow (eC (.int 10)) (eC (.int 18))))) (sSeq (sSet 3 (eVar 0))
     (sSeq (sFor (iArgs range1 (aCons (eVar 1) (aNil))) (bName 4) (sSet 3 (eBin oDiv (eVar 3) (eBin oPow (eC (.int 10)) (eC (.int 10))))))
     (sIf (eTest (eBin oGt (eVar 3) (eC (.int 0)))) (sRet (eBin oMod (eBin oMod (eVar 3) (eBin oPow (eC (.int 10)) (eC (.int 10)))) (eVar 2))) (sSkip)))) (sSkip))
    (sSeq (sSet 5 (eBin oMod (eBin oMul (eBin oAdd (eBin oAdd (eBin oAdd (eBin oMod (eVar 0) (eC (.int 2147483647))) (eBin oMul (eBin oMul (eC (.int 7919)) (eVar 1)) (eVar 1))) (eBin oMul (eC (.int 31)) (eVar 1))) (eC (.int 1))) (eC (.int 48271))) (eC (.int 2147483647))))
    (sSeq (sSet 5 (eBin oMod (eBin oAdd (eBin oAdd (eBin oMul (eVar 5) (eVar 5)) (eBin oMul (eC (.int 69621)) (eVar 1))) (eC (.int 7))) (eC (.int 2147483629))))
    (sRet (eBin oMod (eBin oMod (eBin oMul (eVar 5) (eVar 5)) (eC (.int 2147483587))) (eVar 2))))))
noncomputable def f__law_drawn_row : List D → R D := fnD 3 11 (sSeq (sSet 3 (eCall f__law_draw (aCons (eVar 0) (aCons (eC (.int 0)) (aCons (eC (.int 8)) (aNil))))))
    (sSeq (sIf (eTest (eVar 2)) (sSet 3 (eC (.int 6))) (sSkip))
    (sSeq (sIf (eTest (eBin oLt (eVar 3) (eC (.int 2)))) (sSeq (sSet 4 (eBin oIx (eLst (aCons (eVar 1) (aCons (eBin oAdd (eVar 1) (eC (.int 1))) (aCons (eN oMax2 (aCons (eC (.int 0)) (aCons (eBin oSub (eVar 1) (eC (.int 1))) (aNil)))) (aCons (eC (.int 9999)) (aNil)))))) (eCall f__law_draw (aCons (eVar 0) (aCons (eC (.int 1)) (aCons (eC (.int 4)) (aNil)))))))
     (sRet (eTup (aCons (eC (.str "sun")) (aCons (eVar 4) (aCons (eBin oAdd (eBin oAdd (eC (.str "sun ")) (eN oStrI (aCons (eVar 4) (aNil)))) (eC (.str " 1 0 0"))) (aNil))))))) (sSkip))
    (sSeq (sSet 5 (eBin oAdd (eBin oIx (eC (.str "abcdef")) (eCall f__law_draw (aCons (eVar 0) (aCons (eC (.int 2)) (aCons (eC (.int 6)) (aNil)))))) (eBin oMulS (eBin oIx (eC (.str "abcdefghijklmnopqrstuvwxyz")) (eCall f__law_draw (aCons (eVar 0) (aCons (eC (.int 3)) (aCons (eC (.int 26)) (aNil)))))) (eN oInt (aCons (eBin oGt (eVar 3) (eC (.int 3))) (aNil))))))
    (sSeq (sSet 6 (eBin oAdd (eN oStrI (aCons (eCall f__law_draw (aCons (eVar 0) (aCons (eC (.int 4)) (aCons (eC (.int 9)) (aNil))))) (aNil))) (eC (.str " 0 -3 "))))
    (sSeq (sSet 7 (eBin oEq (eCall f__law_draw (aCons (eVar 0) (aCons (eC (.int 5)) (aCons (eC (.int 9)) (aNil))))) (eC (.int 1))))
    (sSeq (sSet 8 (eBin oIx (eLst (aCons (eC (.str "2 0 0 0 5 0")) (aCons (eC (.str "2 4 6 -1 -2 -3")) (aNil)))) (eN oInt (aCons (eVar 7) (aNil)))))
    (sSeq (sIf (eTest (eBin oLt (eVar 3) (eC (.int 5)))) (sRet (eTup (aCons (eC (.str "wall")) (aCons (eTup (aCons (eVar 5) (aCons (eVar 7) (aNil)))) (aCons (eBin oAdd (eBin oAdd (eBin oAdd (eBin oAdd (eC (.str "wall ")) (eVar 5)) (eC (.str " "))) (eVar 6)) (eVar 8)) (aNil)))))) (sSkip))
    (sSeq (sSet 9 (eCall f__law_draw (aCons (eVar 0) (aCons (eC (.int 6)) (aCons (eC (.int 9)) (aNil))))))
    (sSeq (sSet 10 (eBin oIx (eLst (aCons (eC (.str "-2")) (aCons (eC (.str "-3")) (aCons (eC (.str "-4")) (aNil))))) (eBin oIx (eLst (aCons (eC (.int 0)) (aCons (eC (.int 0)) (aCons (eC (.int 0)) (aCons (eC (.int 0)) (aCons (eC (.int 0)) (aCons (eC (.int 0)) (aCons (eC (.int 0)) (aCons (eC (.int 1)) (aCons (eC (.int 2)) (aNil))))))))))) (eVar 9))))
    (sRet (eTup (aCons (eC (.str "dial")) (aCons (eTup (aCons (eVar 5) (aCons (eOrV (eVar 7) (eBin oGt (eVar 9) (eC (.int 6)))) (aNil)))) (aCons (eBin oAdd (eBin oAdd (eBin oAdd (eBin oAdd (eBin oAdd (eBin oAdd (eC (.str "dial ")) (eVar 5)) (eC (.str " "))) (eVar 6)) (eVar 8)) (eC (.str " 1 1 "))) (eVar 10)) (aNil))))))))))))))))
noncomputable def f__law_rows : List D → R D := fnD 1 9 (sSeq (sSet 1 (eCall f__law_cell_at (aCons (eVar 0) (aCons (eC (.int 0)) (aNil)))))
    (sSeq (sOwn 2 (aNil))
    (sSeq (sFor (iArgs range1 (aCons (eBin oIx (eLst (aCons (eC (.int 1)) (aCons (eC (.int 1)) (aCons (eBin oAdd (eC (.int 79)) (eCall f__law_draw (aCons (eVar 1) (aCons (eC (.int 1)) (aCons (eC (.int 3)) (aNil)))))) (aCons (eC (.int 0)) (aNil)))))) (eCall f__law_draw (aCons (eVar 1) (aCons (eC (.int 0)) (aCons (eC (.int 4)) (aNil)))))) (aNil))) (bName 3) (sApp 2 (eTup (aCons (eC (.str "sun")) (aCons (eVar 3) (aCons (eBin oAdd (eBin oAdd (eC (.str "sun ")) (eN oStrI (aCons (eVar 3) (aNil)))) (eC (.str " 0 0 1"))) (aNil)))))))
    (sSeq (sFor (iArgs range1 (aCons (eBin oIx (eLst (aCons (eC (.int 0)) (aCons (eC (.int 0)) (aCons (eBin oAdd (eC (.int 19)) (eCall f__law_draw (aCons (eVar 1) (aCons (eC (.int 3)) (aCons (eC (.int 3)) (aNil)))))) (aNil))))) (eCall f__law_draw (aCons (eVar 1) (aCons (eC (.int 2)) (aCons (eC (.int 3)) (aNil)))))) (aNil))) (bName 3) (sSeq (sSet 4 (eBin oAdd (eC (.str "w")) (eBin oIx (eC (.str "abcdefghijklmnopqrstuvwxyz")) (eVar 3))))
     (sApp 2 (eTup (aCons (eC (.str "wall")) (aCons (eTup (aCons (eVar 4) (aCons (eC (.bl false)) (aNil)))) (aCons (eBin oAdd (eBin oAdd (eC (.str "wall ")) (eVar 4)) (eC (.str " 0 0 0 1 0 0 0 1 0"))) (aNil))))))))
    (sSeq (sSet 5 (eBin oEq (eCall f__law_draw (aCons (eVar 1) (aCons (eC (.int 4)) (aCons (eC (.int 3)) (aNil))))) (eC (.int 1))))
    (sSeq (sFor (iArgs enum1 (aCons (eSl (eVar 0) (oSome (eC (.int 2))) (oSome (eC (.int 24)))) (aNil))) (bSeq 2 (bCons (bName 3) (bCons (bName 6) (bNil)))) (sApp 2 (eCall f__law_drawn_row (aCons (eVar 6) (aCons (ePeek 2 (eN oLen (aCons (eVar 2) (aNil)))) (aCons (eVar 5) (aNil)))))))
    (sSeq (sSet 7 (eLst (aCons (eC (.str "")) (aCons (eC (.str "sun 1")) (aCons (eC (.str "wall a 1")) (aCons (eC (.str "dial")) (aCons (eC (.str "sun 9999 0 0 0 0")) (aCons (eC (.str "hour")) (aCons (eC (.str "wall a b")) (aCons (eC (.str "sun 1 1 1 x")) (aNil)))))))))))
    (sSeq (sFor (iArgs range1 (aCons (eCall f__law_draw (aCons (eVar 1) (aCons (eC (.int 5)) (aCons (eC (.int 3)) (aNil))))) (aNil))) (bName 3) (sSeq (sSet 8 (eCall f__law_draw (aCons (eVar 1) (aCons (eBin oAdd (eC (.int 6)) (eBin oMul (eC (.int 2)) (eVar 3))) (aCons (eBin oAdd (ePeek 2 (eN oLen (aCons (eVar 2) (aNil)))) (eC (.int 1))) (aNil))))))
     (sInsO 2 (eVar 8) (eTup (aCons (eC (.str "none")) (aCons (eC .non) (aCons (eBin oIx (eVar 7) (eCall f__law_draw (aCons (eVar 1) (aCons (eBin oAdd (eC (.int 7)) (eBin oMul (eC (.int 2)) (eVar 3))) (aCons (eN oLen (aCons (eVar 7) (aNil))) (aNil)))))) (aNil))))))))
    (sFreeze 2 (sRet (eVar 2)))))))))))
noncomputable def f__law_first_bad : List D → R D := fnD 1 8 (sSeq (sSet 1 (eUn oNeg (eC (.int 1))))
    (sSeq (sOwn 2 (aNil))
    (sSeq (sOwnK 3 [.inr "sun", .inr "wall", .inr "dial"] (aCons (eC (.int 0)) (aCons (eC (.int 0)) (aCons (eC (.int 0)) (aNil)))))
    (sSeq (sFor (iArgs range1 (aCons (eN oLen (aCons (eVar 0) (aNil))) (aNil))) (bName 4) (sSeq (sAsg (eBin oIx (eVar 0) (eVar 4)) (bSeq 3 (bCons (bName 5) (bCons (bName 6) (bCons (bName 7) (bNil))))))
     (sSeq (sIf (eTest (eBin oEq (eVar 5) (eC (.str "none")))) (sRet (eVar 4)) (sSkip))
     (sSeq (sPutK 3 (eBin oAdd (eIxK 3 (eVar 5)) (eC (.int 1))) (eVar 5))
     (sIf (eTest (eBin oEq (eVar 5) (eC (.str "sun")))) (sSeq (sIf (eOr (uPeek 2 (eTest (eBin oNe (eVar 2) (eLst (aNil))))) (eOr (eTest (eBin oLe (eVar 6) (eVar 1))) (eTest (eBin oGt (eIxK 3 (eC (.str "sun"))) (eC (.int 80)))))) (sRet (eVar 4)) (sSkip))
      (sSet 1 (eVar 6))) (sSeq (sIf (eOr (eTest (eBin oEq (eIxK 3 (eC (.str "sun"))) (eC (.int 0)))) (eOr (uPeek 2 (eTest (eBin oInX (eBin oIx (eVar 6) (eC (.int 0))) (eVar 2)))) (eOr (eTest (eBin oIx (eVar 6) (eC (.int 1)))) (eTest (eBin oGt (eIxK 3 (eVar 5)) (eC (.int 20))))))) (sRet (eVar 4)) (sSkip))
      (sSeq (sIf (eAnd (eTest (eBin oEq (eVar 5) (eC (.str "wall")))) (eTest (eBin oGt (eIxK 3 (eC (.str "dial"))) (eC (.int 0))))) (sRet (eVar 4)) (sSkip))
      (sApp 2 (eBin oIx (eVar 6) (eC (.int 0)))))))))))
    (sRet (eC .non))))))
noncomputable def f__law_refused : List D → R D := fnD 1 3 (sSeq (sSet 1 (eC .non))
    (sSeq (sTryAs xks "YardError" 2 (sExpr (eCallK f_read_yard (aCons (eVar 0) (aNil)))) (sSet 1 (eVar 2)))
    (sSeq (sIf (eOr (eNot (eTest (eN (oIsX xks xcs) (aCons (eVar 1) (aCons (eC (.cls "NoRow")) (aNil)))))) (eNot (eTest (eN (oIsX xks xcs) (aCons (eVar 1) (aCons (eC (.ty "ValueError")) (aNil))))))) (sRet (eC .non)) (sSkip))
    (sSeq (sIf (eTest (eN (oIsX xks xcs) (aCons (eVar 1) (aCons (eTup (aCons (eC (.cls "NoBack")) (aCons (eC (.cls "NoHour")) (aCons (eC (.cls "NoName")) (aCons (eC (.cls "NoNumber")) (aCons (eC (.cls "NoPlate")) (aCons (eC (.cls "NoSay")) (aCons (eC (.cls "NoSun")) (aCons (eC (.cls "NotLit")) (aCons (eC (.cls "NoYard")) (aCons (eC (.cls "TooMany")) (aNil)))))))))))) (aNil))))) (sRet (eC .non)) (sSkip))
    (sSeq (sIf (eOr (eNot (eTest (eN oIsi (aCons (eUn (oAt xks "row") (eVar 1)) (aCons (eC (.ty "int")) (aNil)))))) (eTest (eN oIsi (aCons (eUn (oAt xks "row") (eVar 1)) (aCons (eC (.ty "bool")) (aNil)))))) (sRet (eC .non)) (sSkip))
    (sRet (eUn (oAt xks "row") (eVar 1))))))))
noncomputable def f_law : List D → R D := fnD 1 10 (sSeq (sSet 1 (eCall f__law_rows (aCons (eVar 0) (aNil))))
    (sSeq (sSet 2 (eCall f__law_first_bad (aCons (eVar 1) (aNil))))
    (sSeq (sIf (eTest (eBin oEq (eVar 1) (eLst (aNil)))) (sSet 2 (eC (.int 0))) (sSkip))
    (sSeq (sSet 3 (eJoin (eC (.str "\n")) (eComp [5] (iD (eVar 1)) (bName 5) (eYes) (eBin oIx (eVar 5) (eC (.int 2))))))
    (sSeq (sIf (eTest (eBin oNotN (eVar 2) (eC .non))) (sRet (eBin oEq (eCall f__law_refused (aCons (eVar 3) (aNil))) (eVar 2))) (sSkip))
    (sSeq (sSet 4 (eCallK f_read_yard (aCons (eVar 3) (aNil))))
    (sSeq (sIf (eTest (eBin oNe (eComp [6, 7] (iD (eBin oIx (eVar 4) (eC (.int 0)))) (bSeq 2 (bCons (bName 6) (bCons (bName 7) (bNil)))) (eYes) (eVar 6)) (eComp [5] (iD (eVar 1)) (bName 5) (eTest (eBin oEq (eBin oIx (eVar 5) (eC (.int 0))) (eC (.str "sun")))) (eBin oIx (eVar 5) (eC (.int 1)))))) (sRet (eC (.bl false))) (sSkip))
    (sSeq (sIf (eTest (eBin oNe (eComp [8] (iD (eBin oIx (eVar 4) (eC (.int 1)))) (bName 8) (eYes) (eBin oIx (eVar 8) (eC (.int 0)))) (eComp [5] (iD (eVar 1)) (bName 5) (eTest (eBin oEq (eBin oIx (eVar 5) (eC (.int 0))) (eC (.str "wall")))) (eBin oIx (eBin oIx (eVar 5) (eC (.int 1))) (eC (.int 0)))))) (sRet (eC (.bl false))) (sSkip))
    (sRet (eBin oEq (eComp [9] (iD (eBin oIx (eVar 4) (eC (.int 2)))) (bName 9) (eYes) (eBin oIx (eVar 9) (eC (.int 0)))) (eComp [5] (iD (eVar 1)) (bName 5) (eTest (eBin oEq (eBin oIx (eVar 5) (eC (.int 0))) (eC (.str "dial")))) (eBin oIx (eBin oIx (eVar 5) (eC (.int 1))) (eC (.int 0))))))))))))))
end Gn

section
set_option Elab.async false
set_option linter.all false
set_option maxRecDepth 100000
set_option maxHeartbeats 0
namespace Gn
open PySem PySem.Spec PyProof.Rows L2 Dy
/-! ### the text -/
def topS (i : Nat) : Stmt := PySem.Challenge.pw_dialyard_k86_rows_that_cannot_stand.main.body.getD i (.Pass ⟨0, 0, 0, 0⟩)
abbrev s_is_whole : Stmt := topS 14
abbrev N_is_whole : List Str := ["thing"]
theorem sc_is_whole : FnScope N_is_whole ["thing"] (defScope s_is_whole) := ⟨rfl, rfl, rfl, by decide +kernel, rfl, by decide +kernel, by decide +kernel⟩
abbrev s_is_triple : Stmt := topS 16
abbrev N_is_triple : List Str := ["thing", "number"]
theorem sc_is_triple : FnScope N_is_triple ["thing"] (defScope s_is_triple) := ⟨rfl, rfl, rfl, by decide +kernel, rfl, by decide +kernel, by decide +kernel⟩
abbrev s_triple_less : Stmt := topS 17
abbrev N_triple_less : List Str := ["one", "other"]
theorem sc_triple_less : FnScope N_triple_less ["one", "other"] (defScope s_triple_less) := ⟨rfl, rfl, rfl, by decide +kernel, rfl, by decide +kernel, by decide +kernel⟩
abbrev s_dot_of : Stmt := topS 18
abbrev N_dot_of : List Str := ["one", "other"]
theorem sc_dot_of : FnScope N_dot_of ["one", "other"] (defScope s_dot_of) := ⟨rfl, rfl, rfl, by decide +kernel, rfl, by decide +kernel, by decide +kernel⟩
abbrev s_cross_of : Stmt := topS 19
abbrev N_cross_of : List Str := ["one", "other", "a", "b", "c", "d", "e", "f"]
theorem sc_cross_of : FnScope N_cross_of ["one", "other"] (defScope s_cross_of) := ⟨rfl, rfl, rfl, by decide +kernel, rfl, by decide +kernel, by decide +kernel⟩
abbrev s_is_near_suns : Stmt := topS 24
abbrev N_is_near_suns : List Str := ["triple", "number"]
theorem sc_is_near_suns : FnScope N_is_near_suns ["triple"] (defScope s_is_near_suns) := ⟨rfl, rfl, rfl, by decide +kernel, rfl, by decide +kernel, by decide +kernel⟩
abbrev s_is_direction : Stmt := topS 26
abbrev N_is_direction : List Str := ["thing"]
theorem sc_is_direction : FnScope N_is_direction ["thing"] (defScope s_is_direction) := ⟨rfl, rfl, rfl, by decide +kernel, rfl, by decide +kernel, by decide +kernel⟩
abbrev s_is_hour_row : Stmt := topS 27
abbrev N_is_hour_row : List Str := ["thing", "last"]
theorem sc_is_hour_row : FnScope N_is_hour_row ["thing", "last"] (defScope s_is_hour_row) := ⟨rfl, rfl, rfl, by decide +kernel, rfl, by decide +kernel, by decide +kernel⟩
abbrev s_look_at_sun : Stmt := topS 28
abbrev N_look_at_sun : List Str := ["thing", "last", "at", "row"]
theorem sc_look_at_sun : FnScope N_look_at_sun ["thing"] (defScope s_look_at_sun) := ⟨rfl, rfl, rfl, by decide +kernel, rfl, by decide +kernel, by decide +kernel⟩
abbrev s_is_near_plates : Stmt := topS 31
abbrev N_is_near_plates : List Str := ["thing", "number"]
theorem sc_is_near_plates : FnScope N_is_near_plates ["thing"] (defScope s_is_near_plates) := ⟨rfl, rfl, rfl, by decide +kernel, rfl, by decide +kernel, by decide +kernel⟩
abbrev s_look_at_plate : Stmt := topS 33
abbrev N_look_at_plate : List Str := ["thing", "part"]
theorem sc_look_at_plate : FnScope N_look_at_plate ["thing"] (defScope s_look_at_plate) := ⟨rfl, rfl, rfl, by decide +kernel, rfl, by decide +kernel, by decide +kernel⟩
abbrev s_front_of : Stmt := topS 34
abbrev N_front_of : List Str := ["plate"]
theorem sc_front_of : FnScope N_front_of ["plate"] (defScope s_front_of) := ⟨rfl, rfl, rfl, by decide +kernel, rfl, by decide +kernel, by decide +kernel⟩
abbrev s_is_ahead : Stmt := topS 35
abbrev N_is_ahead : List Str := ["plate", "triple"]
theorem sc_is_ahead : FnScope N_is_ahead ["plate", "triple"] (defScope s_is_ahead) := ⟨rfl, rfl, rfl, by decide +kernel, rfl, by decide +kernel, by decide +kernel⟩
abbrev s_is_name : Stmt := topS 40
abbrev N_is_name : List Str := ["thing", "sign"]
theorem sc_is_name : FnScope N_is_name ["thing"] (defScope s_is_name) := ⟨rfl, rfl, rfl, by decide +kernel, rfl, by decide +kernel, by decide +kernel⟩
abbrev s_is_plate : Stmt := topS 41
abbrev N_is_plate : List Str := ["thing", "amiss"]
theorem sc_is_plate : FnScope N_is_plate ["thing"] (defScope s_is_plate) := ⟨rfl, rfl, rfl, by decide +kernel, rfl, by decide +kernel, by decide +kernel⟩
abbrev s_has_tip : Stmt := topS 42
abbrev N_has_tip : List Str := ["thing"]
theorem sc_has_tip : FnScope N_has_tip ["thing"] (defScope s_has_tip) := ⟨rfl, rfl, rfl, by decide +kernel, rfl, by decide +kernel, by decide +kernel⟩
abbrev s_look_at_things : Stmt := topS 43
abbrev N_look_at_things : List Str := ["things", "many", "names", "number", "thing"]
theorem sc_look_at_things : FnScope N_look_at_things ["things", "many", "names"] (defScope s_look_at_things) := ⟨rfl, rfl, rfl, by decide +kernel, rfl, by decide +kernel, by decide +kernel⟩
abbrev s_look_at_yard : Stmt := topS 44
abbrev N_look_at_yard : List Str := ["thing", "names"]
theorem sc_look_at_yard : FnScope N_look_at_yard ["thing"] (defScope s_look_at_yard) := ⟨rfl, rfl, rfl, by decide +kernel, rfl, by decide +kernel, by decide +kernel⟩
abbrev s_number_in : Stmt := topS 48
abbrev N_number_in : List Str := ["word", "left", "sign"]
theorem sc_number_in : FnScope N_number_in ["word"] (defScope s_number_in) := ⟨rfl, rfl, rfl, by decide +kernel, rfl, by decide +kernel, by decide +kernel⟩
abbrev s_triples_in : Stmt := topS 49
abbrev N_triples_in : List Str := ["words", "many", "numbers", "word", "k"]
theorem sc_triples_in : FnScope N_triples_in ["words", "many"] (defScope s_triples_in) := ⟨rfl, rfl, rfl, by decide +kernel, rfl, by decide +kernel, by decide +kernel⟩
abbrev s_Paper___init__ : Stmt := clsStmt (topS 50) 0
abbrev N_Paper___init__ : List Str := ["self"]
theorem sc_Paper___init__ : FnScope N_Paper___init__ ["self"] (defScope s_Paper___init__) := ⟨rfl, rfl, rfl, by decide +kernel, rfl, by decide +kernel, by decide +kernel⟩
abbrev s_Paper_took_hour : Stmt := clsStmt (topS 50) 2
abbrev N_Paper_took_hour : List Str := ["self", "words", "triples", "hour"]
theorem sc_Paper_took_hour : FnScope N_Paper_took_hour ["self", "words"] (defScope s_Paper_took_hour) := ⟨rfl, rfl, rfl, by decide +kernel, rfl, by decide +kernel, by decide +kernel⟩
abbrev s_Paper_took_wall : Stmt := clsStmt (topS 50) 3
abbrev N_Paper_took_wall : List Str := ["self", "name", "words", "triples"]
theorem sc_Paper_took_wall : FnScope N_Paper_took_wall ["self", "name", "words"] (defScope s_Paper_took_wall) := ⟨rfl, rfl, rfl, by decide +kernel, rfl, by decide +kernel, by decide +kernel⟩
abbrev s_Paper_took_dial : Stmt := clsStmt (topS 50) 4
abbrev N_Paper_took_dial : List Str := ["self", "name", "words", "triples"]
theorem sc_Paper_took_dial : FnScope N_Paper_took_dial ["self", "name", "words"] (defScope s_Paper_took_dial) := ⟨rfl, rfl, rfl, by decide +kernel, rfl, by decide +kernel, by decide +kernel⟩
abbrev s_Paper_took : Stmt := clsStmt (topS 50) 1
abbrev N_Paper_took : List Str := ["self", "words"]
theorem sc_Paper_took : FnScope N_Paper_took ["self", "words"] (defScope s_Paper_took) := ⟨rfl, rfl, rfl, by decide +kernel, rfl, by decide +kernel, by decide +kernel⟩
abbrev s_Paper_stands : Stmt := clsStmt (topS 50) 5
abbrev N_Paper_stands : List Str := ["self"]
theorem sc_Paper_stands : FnScope N_Paper_stands ["self"] (defScope s_Paper_stands) := ⟨rfl, rfl, rfl, by decide +kernel, rfl, by decide +kernel, by decide +kernel⟩
abbrev s_read_yard : Stmt := topS 51
abbrev N_read_yard : List Str := ["text", "paper", "row", "signs"]
theorem sc_read_yard : FnScope N_read_yard ["text"] (defScope s_read_yard) := ⟨rfl, rfl, rfl, by decide +kernel, rfl, by decide +kernel, by decide +kernel⟩
abbrev s__law_cell_at : Stmt := topS 53
abbrev N__law_cell_at : List Str := ["_law_script", "_law_k"]
theorem sc__law_cell_at : FnScope N__law_cell_at ["_law_script", "_law_k"] (defScope s__law_cell_at) := ⟨rfl, rfl, rfl, by decide +kernel, rfl, by decide +kernel, by decide +kernel⟩
abbrev s__law_draw : Stmt := topS 54
abbrev N__law_draw : List Str := ["_law_cell", "_law_k", "_law_many", "_law_left", "_law_j", "_law_number"]
theorem sc__law_draw : FnScope N__law_draw ["_law_cell", "_law_k", "_law_many"] (defScope s__law_draw) := ⟨rfl, rfl, rfl, by decide +kernel, rfl, by decide +kernel, by decide +kernel⟩
abbrev s__law_drawn_row : Stmt := topS 55
abbrev N__law_drawn_row : List Str := ["_law_cell", "_law_number", "_law_dials", "_law_kind", "_law_hour", "_law_name", "_law_corner", "_law_bad", "_law_sides", "_law_tip", "_law_up"]
theorem sc__law_drawn_row : FnScope N__law_drawn_row ["_law_cell", "_law_number", "_law_dials"] (defScope s__law_drawn_row) := ⟨rfl, rfl, rfl, by decide +kernel, rfl, by decide +kernel, by decide +kernel⟩
abbrev s__law_rows : Stmt := topS 56
abbrev N__law_rows : List Str := ["_law_script", "_law_cell", "_law_rows_here", "_law_k", "_law_name", "_law_dials", "_law_one", "_law_some", "_law_place"]
theorem sc__law_rows : FnScope N__law_rows ["_law_script"] (defScope s__law_rows) := ⟨rfl, rfl, rfl, by decide +kernel, rfl, by decide +kernel, by decide +kernel⟩
abbrev s__law_first_bad : Stmt := topS 57
abbrev N__law_first_bad : List Str := ["_law_rows_here", "_law_last", "_law_names", "_law_counts", "_law_k", "_law_word", "_law_thing", "_law_text"]
theorem sc__law_first_bad : FnScope N__law_first_bad ["_law_rows_here"] (defScope s__law_first_bad) := ⟨rfl, rfl, rfl, by decide +kernel, rfl, by decide +kernel, by decide +kernel⟩
abbrev s__law_refused : Stmt := topS 58
abbrev N__law_refused : List Str := ["_law_thing", "_law_caught", "e"]
theorem sc__law_refused : FnScope N__law_refused ["_law_thing"] (defScope s__law_refused) := ⟨rfl, rfl, rfl, by decide +kernel, rfl, by decide +kernel, by decide +kernel⟩
abbrev s_law : Stmt := topS 59
abbrev N_law : List Str := ["_law_script", "_law_rows_here", "_law_due", "_law_text", "_law_found", "_law_row", "_law_hour", "_law_direction", "_law_shut", "_law_dial"]
theorem sc_law : FnScope N_law ["_law_script"] (defScope s_law) := ⟨rfl, rfl, rfl, by decide +kernel, rfl, by decide +kernel, by decide +kernel⟩
abbrev si_NoSun : Stmt := clsStmt (topS 4) 0
abbrev Ni_NoSun : List Str := ["self", "at"]
theorem sci_NoSun : FnScope Ni_NoSun ["self", "at"] (defScope si_NoSun) := ⟨rfl, rfl, rfl, by decide +kernel, rfl, by decide +kernel, by decide +kernel⟩
abbrev si_NoYard : Stmt := clsStmt (topS 5) 0
abbrev Ni_NoYard : List Str := ["self", "name"]
theorem sci_NoYard : FnScope Ni_NoYard ["self", "name"] (defScope si_NoYard) := ⟨rfl, rfl, rfl, by decide +kernel, rfl, by decide +kernel, by decide +kernel⟩
abbrev si_NoRow : Stmt := clsStmt (topS 9) 0
abbrev Ni_NoRow : List Str := ["self", "row"]
theorem sci_NoRow : FnScope Ni_NoRow ["self", "row"] (defScope si_NoRow) := ⟨rfl, rfl, rfl, by decide +kernel, rfl, by decide +kernel, by decide +kernel⟩
def blts : List Str := ["bool", "isinstance", "int", "len", "tuple", "abs", "max", "list", "enumerate", "str", "range", "ValueError"]
def gints : List (Str × Int) := [("FAR", 1000000000), ("MOST_HOURS", 80), ("LAST_HOUR", 9999), ("GREATEST", 1000000000), ("LONGEST", 8), ("MOST", 20), ("MOST_FIGURES", 10)]
def gstrs : List (Str × Str) := [("LETTERS", "abcdefghijklmnopqrstuvwxyz"), ("FIGURES", "0123456789")]
structure Facts (K : PySem.W.Frag) (mg : Str → Option Value) : Prop where
  int : ∀ (i : Nat) (x : Str × Int), gints[i]? = some x → ∃ t, mg x.1 = some (.int x.2 t)
  str : ∀ (i : Nat) (x : Str × Str), gstrs[i]? = some x → ∃ t, mg x.1 = some (.str x.2 t)
  glo_YardError : mg "YardError" = some (.ref (He.ga K "YardError"))
  glo_NoNumber : mg "NoNumber" = some (.ref (He.ga K "NoNumber"))
  glo_NoPlate : mg "NoPlate" = some (.ref (He.ga K "NoPlate"))
  glo_NoSun : mg "NoSun" = some (.ref (He.ga K "NoSun"))
  glo_NoYard : mg "NoYard" = some (.ref (He.ga K "NoYard"))
  glo_NotLit : mg "NotLit" = some (.ref (He.ga K "NotLit"))
  glo_NoHour : mg "NoHour" = some (.ref (He.ga K "NoHour"))
  glo_TooMany : mg "TooMany" = some (.ref (He.ga K "TooMany"))
  glo_NoRow : mg "NoRow" = some (.ref (He.ga K "NoRow"))
  glo_NoName : mg "NoName" = some (.ref (He.ga K "NoName"))
  glo_NoSay : mg "NoSay" = some (.ref (He.ga K "NoSay"))
  glo_NoBack : mg "NoBack" = some (.ref (He.ga K "NoBack"))
  glo_Paper : mg "Paper" = some (.ref (He.ga K "Paper"))
  exc_NoPlate : Dy.ExcC K mg "NoPlate"
  cls_Paper : Cls K (He.ga K "Paper")
  no_Paper_sun : NoAttr K (He.ga K "Paper") "sun"
  no_Paper_walls : NoAttr K (He.ga K "Paper") "walls"
  no_Paper_dials : NoAttr K (He.ga K "Paper") "dials"
  xf : ExF K mg xks xcs
  yr : YrC K (He.ga K "YardError")
  fx_NoSun : FxC K "NoSun" "at"
  fx_NoYard : FxC K "NoYard" "name"
  fx_NoRow : FxC K "NoRow" "row"
  na_row : ∀ c ∈ xks, PySem.W.findIn K (.ref (He.ga K c)) "row" = some none
/-! ### the defs do so -/
section
variable {P : Program} {w : World} {K : PySem.W.Frag} {mg : Str → Option Value} {base : Heap} {f : Addr} {fd : FuncData}
theorem init_NoSun (M : Facts K mg) (Fn : FunD K "__init__" "NoSun.__init__" (defArgs si_NoSun) (defBody si_NoSun) (defScope si_NoSun) [] [] f fd) : FnOk P w K mg base (L2.CX P w) 1 f fd ["self", "at"] (spI K "at") :=
  init_ok (N := Ni_NoSun) Fn sci_NoSun fun cdv A outer s H E => init_body rfl M.glo_YardError M.yr rfl rfl (Or.inl rfl) (Or.inl rfl) (by decide) (by decide) (by decide) rfl rfl rfl rfl rfl rfl
theorem init_NoYard (M : Facts K mg) (Fn : FunD K "__init__" "NoYard.__init__" (defArgs si_NoYard) (defBody si_NoYard) (defScope si_NoYard) [] [] f fd) : FnOk P w K mg base (L2.CX P w) 1 f fd ["self", "name"] (spI K "name") :=
  init_ok (N := Ni_NoYard) Fn sci_NoYard fun cdv A outer s H E => init_body rfl M.glo_YardError M.yr rfl rfl (Or.inl rfl) (Or.inl rfl) (by decide) (by decide) (by decide) rfl rfl rfl rfl rfl rfl
theorem init_NoRow (M : Facts K mg) (Fn : FunD K "__init__" "NoRow.__init__" (defArgs si_NoRow) (defBody si_NoRow) (defScope si_NoRow) [] [] f fd) : FnOk P w K mg base (L2.CX P w) 1 f fd ["self", "row"] (spI K "row") :=
  init_ok (N := Ni_NoRow) Fn sci_NoRow fun cdv A outer s H E => init_body rfl M.glo_YardError M.yr rfl rfl (Or.inl rfl) (Or.inl rfl) (by decide) (by decide) (by decide) rfl rfl rfl rfl rfl rfl
theorem ok_is_whole (B : Blts mg blts) (M : Facts K mg)  (Fn : FunD K "is_whole" "is_whole" (defArgs s_is_whole) (defBody s_is_whole) (defScope s_is_whole) [] [] f fd) : FnOk P w K mg base (L2.CX P w) 1 f fd ["thing"] (spD K 1 f_is_whole) :=
  have nd := (sc_is_whole).nd
  ok_def (N := N_is_whole) Fn sc_is_whole rfl fun cdv A outer s H E hr tk hp =>
    sss_one (ss_ret (se_and (se_blt d_isi (B.at 1) (sa_cons (se_var 0) (sa_cons (se_ty (B.at 2)) (sa_nil)))) (se_one (se_not (se_blt d_isi (B.at 1) (sa_cons (se_var 0) (sa_cons (se_ty (B.at 0)) (sa_nil))))))))
theorem cal_is_whole (B : Blts mg blts) (M : Facts K mg)  (Fn : FunD K "is_whole" "is_whole" (defArgs s_is_whole) (defBody s_is_whole) (defScope s_is_whole) [] [] f fd) (hm : mg "is_whole" = some (.ref f)) : Cal P w K mg base "is_whole" 1 1 f_is_whole :=
  cal_mk (N := N_is_whole) (ps := ["thing"]) Fn hm (fun _ _ _ _ _ _ us hl => match us, hl with | [_], _ => rfl) (ok_is_whole B M  Fn)
theorem ok_is_triple (B : Blts mg blts) (M : Facts K mg) (C_is_whole : Cal P w K mg base "is_whole" 1 1 f_is_whole) (Fn : FunD K "is_triple" "is_triple" (defArgs s_is_triple) (defBody s_is_triple) (defScope s_is_triple) [] [] f fd) : FnOk P w K mg base (L2.CX P w) 2 f fd ["thing"] (spD K 1 f_is_triple) :=
  have nd := (sc_is_triple).nd
  ok_def (N := N_is_triple) Fn sc_is_triple rfl fun cdv A outer s H E hr tk hp =>
    sss_cons (ss_if (st_bool (sw_or (st_not (st_val (se_blt d_isi (B.at 1) (sa_cons (se_var 0) (sa_cons (se_ty (B.at 4)) (sa_nil)))))) (sw_or1 (st_cmp (d_ne hr.units) (se_blt d_len (B.at 3) (sa_cons (se_var 0) (sa_nil))) (se_int) (nomark _))))) (sss_one (ss_ret (se_bl))) (sss_nil))
    (sss_cons (ss_for hp rfl (si_any (se_var 0)) (pg_name (i := 1) nd rfl (by first | exact Or.inl rfl | exact Or.inr rfl)) (tg_name 1) (sss_one (ss_if (st_not (st_val (se_callC C_is_whole tk (hr.mono (by decide)) (sa_cons (se_var 1) (sa_nil))))) (sss_one (ss_ret (se_bl))) (sss_nil))))
    (sss_one (ss_ret (se_bl))))
theorem cal_is_triple (B : Blts mg blts) (M : Facts K mg) (C_is_whole : Cal P w K mg base "is_whole" 1 1 f_is_whole) (Fn : FunD K "is_triple" "is_triple" (defArgs s_is_triple) (defBody s_is_triple) (defScope s_is_triple) [] [] f fd) (hm : mg "is_triple" = some (.ref f)) : Cal P w K mg base "is_triple" 2 1 f_is_triple :=
  cal_mk (N := N_is_triple) (ps := ["thing"]) Fn hm (fun _ _ _ _ _ _ us hl => match us, hl with | [_], _ => rfl) (ok_is_triple B M C_is_whole Fn)
theorem ok_triple_less (B : Blts mg blts) (M : Facts K mg)  (Fn : FunD K "triple_less" "triple_less" (defArgs s_triple_less) (defBody s_triple_less) (defScope s_triple_less) [] [] f fd) : FnOk P w K mg base (L2.CX P w) 1 f fd ["one", "other"] (spD K 2 f_triple_less) :=
  have nd := (sc_triple_less).nd
  ok_def (N := N_triple_less) Fn sc_triple_less rfl fun cdv A outer s H E hr tk hp =>
    sss_one (ss_ret (se_tup (sa_cons (se_op d_sub (se_ix d_ix (se_var 0) (se_int)) (se_ix d_ix (se_var 1) (se_int))) (sa_cons (se_op d_sub (se_ix d_ix (se_var 0) (se_int)) (se_ix d_ix (se_var 1) (se_int))) (sa_cons (se_op d_sub (se_ix d_ix (se_var 0) (se_int)) (se_ix d_ix (se_var 1) (se_int))) (sa_nil))))))
theorem cal_triple_less (B : Blts mg blts) (M : Facts K mg)  (Fn : FunD K "triple_less" "triple_less" (defArgs s_triple_less) (defBody s_triple_less) (defScope s_triple_less) [] [] f fd) (hm : mg "triple_less" = some (.ref f)) : Cal P w K mg base "triple_less" 1 2 f_triple_less :=
  cal_mk (N := N_triple_less) (ps := ["one", "other"]) Fn hm (fun _ _ _ _ _ _ us hl => match us, hl with | [_, _], _ => rfl) (ok_triple_less B M  Fn)
theorem ok_dot_of (B : Blts mg blts) (M : Facts K mg)  (Fn : FunD K "dot_of" "dot_of" (defArgs s_dot_of) (defBody s_dot_of) (defScope s_dot_of) [] [] f fd) : FnOk P w K mg base (L2.CX P w) 1 f fd ["one", "other"] (spD K 2 f_dot_of) :=
  have nd := (sc_dot_of).nd
  ok_def (N := N_dot_of) Fn sc_dot_of rfl fun cdv A outer s H E hr tk hp =>
    sss_one (ss_ret (se_op d_add (se_op d_add (se_op d_mul (se_ix d_ix (se_var 0) (se_int)) (se_ix d_ix (se_var 1) (se_int))) (se_op d_mul (se_ix d_ix (se_var 0) (se_int)) (se_ix d_ix (se_var 1) (se_int)))) (se_op d_mul (se_ix d_ix (se_var 0) (se_int)) (se_ix d_ix (se_var 1) (se_int)))))
theorem cal_dot_of (B : Blts mg blts) (M : Facts K mg)  (Fn : FunD K "dot_of" "dot_of" (defArgs s_dot_of) (defBody s_dot_of) (defScope s_dot_of) [] [] f fd) (hm : mg "dot_of" = some (.ref f)) : Cal P w K mg base "dot_of" 1 2 f_dot_of :=
  cal_mk (N := N_dot_of) (ps := ["one", "other"]) Fn hm (fun _ _ _ _ _ _ us hl => match us, hl with | [_, _], _ => rfl) (ok_dot_of B M  Fn)
theorem ok_cross_of (B : Blts mg blts) (M : Facts K mg)  (Fn : FunD K "cross_of" "cross_of" (defArgs s_cross_of) (defBody s_cross_of) (defScope s_cross_of) [] [] f fd) : FnOk P w K mg base (L2.CX P w) 1 f fd ["one", "other"] (spD K 2 f_cross_of) :=
  have nd := (sc_cross_of).nd
  ok_def (N := N_cross_of) Fn sc_cross_of rfl fun cdv A outer s H E hr tk hp =>
    sss_cons (ss_asg (se_var 0) (pg_seq rfl (pgs_cons (pg_name (i := 2) nd rfl (by first | exact Or.inl rfl | exact Or.inr rfl)) (pgs_cons (pg_name (i := 3) nd rfl (by first | exact Or.inl rfl | exact Or.inr rfl)) (pgs_cons (pg_name (i := 4) nd rfl (by first | exact Or.inl rfl | exact Or.inr rfl)) (pgs_nil))))) (tg_seq (tgs_cons (tg_name 2) (tgs_cons (tg_name 3) (tgs_cons (tg_name 4) (tgs_nil))))))
    (sss_cons (ss_asg (se_var 1) (pg_seq rfl (pgs_cons (pg_name (i := 5) nd rfl (by first | exact Or.inl rfl | exact Or.inr rfl)) (pgs_cons (pg_name (i := 6) nd rfl (by first | exact Or.inl rfl | exact Or.inr rfl)) (pgs_cons (pg_name (i := 7) nd rfl (by first | exact Or.inl rfl | exact Or.inr rfl)) (pgs_nil))))) (tg_seq (tgs_cons (tg_name 5) (tgs_cons (tg_name 6) (tgs_cons (tg_name 7) (tgs_nil))))))
    (sss_one (ss_ret (se_tup (sa_cons (se_op d_sub (se_op d_mul (se_var 3) (se_var 7)) (se_op d_mul (se_var 4) (se_var 6))) (sa_cons (se_op d_sub (se_op d_mul (se_var 4) (se_var 5)) (se_op d_mul (se_var 2) (se_var 7))) (sa_cons (se_op d_sub (se_op d_mul (se_var 2) (se_var 6)) (se_op d_mul (se_var 3) (se_var 5))) (sa_nil))))))))
theorem cal_cross_of (B : Blts mg blts) (M : Facts K mg)  (Fn : FunD K "cross_of" "cross_of" (defArgs s_cross_of) (defBody s_cross_of) (defScope s_cross_of) [] [] f fd) (hm : mg "cross_of" = some (.ref f)) : Cal P w K mg base "cross_of" 1 2 f_cross_of :=
  cal_mk (N := N_cross_of) (ps := ["one", "other"]) Fn hm (fun _ _ _ _ _ _ us hl => match us, hl with | [_, _], _ => rfl) (ok_cross_of B M  Fn)
theorem ok_is_near_suns (B : Blts mg blts) (M : Facts K mg)  (Fn : FunD K "is_near" "is_near" (defArgs s_is_near_suns) (defBody s_is_near_suns) (defScope s_is_near_suns) [] [] f fd) : FnOk P w K mg base (L2.CX P w) 1 f fd ["triple"] (spD K 1 f_is_near_suns) :=
  have nd := (sc_is_near_suns).nd
  ok_def (N := N_is_near_suns) Fn sc_is_near_suns rfl fun cdv A outer s H E hr tk hp =>
    sss_one (ss_ret (se_cmp (d_le) (se_blt (d_max1 rfl) (B.at 6) (sa_cons (se_comp (own := [("number", 1)]) rfl nd (blkOk_by (N := N_is_near_suns) (sc := defScope s_is_near_suns) (by decide +kernel)) (si_any (se_var 0)) (tg_name 1) (fun _ _ _ _ _ => pg_name (i := 1) nd rfl (by first | exact Or.inl rfl | exact Or.inr rfl)) (fun _ _ _ _ _ => sif_nil) (fun _ _ _ _ _ => se_blt d_abs (B.at 5) (sa_cons (se_var 1) (sa_nil)))) (sa_nil))) (se_gint rfl (M.int 0 ("FAR", 1000000000) rfl)) (nomark _)))
theorem cal_is_near_suns (B : Blts mg blts) (M : Facts K mg)  (Fn : FunD K "is_near" "is_near" (defArgs s_is_near_suns) (defBody s_is_near_suns) (defScope s_is_near_suns) [] [] f fd) (hm : mg "is_near_suns" = some (.ref f)) : Cal P w K mg base "is_near_suns" 1 1 f_is_near_suns :=
  cal_ofA (ps := ["triple"]) Fn hm (fun _ _ _ _ _ _ us hl => match us, hl with | [_], _ => rfl) (ok_is_near_suns B M  Fn) fun _ h => fnD_len h
theorem ok_is_direction (B : Blts mg blts) (M : Facts K mg) (C_is_near_suns : Cal P w K mg base "is_near_suns" 1 1 f_is_near_suns) (C_is_triple : Cal P w K mg base "is_triple" 2 1 f_is_triple) (Fn : FunD K "is_direction" "is_direction" (defArgs s_is_direction) (defBody s_is_direction) (defScope s_is_direction) [] [] f fd) : FnOk P w K mg base (L2.CX P w) 3 f fd ["thing"] (spD K 1 f_is_direction) :=
  have nd := (sc_is_direction).nd
  ok_def (N := N_is_direction) Fn sc_is_direction rfl fun cdv A outer s H E hr tk hp =>
    sss_one (ss_ret (se_and (se_callC C_is_triple tk (hr.mono (by decide)) (sa_cons (se_var 0) (sa_nil))) (se_and (se_cmp (d_ne hr.units) (se_var 0) (se_tup (sa_cons (se_int) (sa_cons (se_int) (sa_cons (se_int) (sa_nil))))) (nomark _)) (se_one (se_callC C_is_near_suns tk (hr.mono (by decide)) (sa_cons (se_var 0) (sa_nil)))))))
theorem cal_is_direction (B : Blts mg blts) (M : Facts K mg) (C_is_near_suns : Cal P w K mg base "is_near_suns" 1 1 f_is_near_suns) (C_is_triple : Cal P w K mg base "is_triple" 2 1 f_is_triple) (Fn : FunD K "is_direction" "is_direction" (defArgs s_is_direction) (defBody s_is_direction) (defScope s_is_direction) [] [] f fd) (hm : mg "is_direction" = some (.ref f)) : Cal P w K mg base "is_direction" 3 1 f_is_direction :=
  cal_mk (N := N_is_direction) (ps := ["thing"]) Fn hm (fun _ _ _ _ _ _ us hl => match us, hl with | [_], _ => rfl) (ok_is_direction B M C_is_near_suns C_is_triple Fn)
theorem ok_is_hour_row (B : Blts mg blts) (M : Facts K mg) (C_is_whole : Cal P w K mg base "is_whole" 1 1 f_is_whole) (C_is_direction : Cal P w K mg base "is_direction" 3 1 f_is_direction) (Fn : FunD K "is_hour_row" "is_hour_row" (defArgs s_is_hour_row) (defBody s_is_hour_row) (defScope s_is_hour_row) [] [] f fd) : FnOk P w K mg base (L2.CX P w) 4 f fd ["thing", "last"] (spD K 2 f_is_hour_row) :=
  have nd := (sc_is_hour_row).nd
  ok_def (N := N_is_hour_row) Fn sc_is_hour_row rfl fun cdv A outer s H E hr tk hp =>
    sss_cons (ss_if (st_bool (sw_or (st_not (st_val (se_blt d_isi (B.at 1) (sa_cons (se_var 0) (sa_cons (se_ty (B.at 4)) (sa_nil)))))) (sw_or (st_cmp (d_ne hr.units) (se_blt d_len (B.at 3) (sa_cons (se_var 0) (sa_nil))) (se_int) (nomark _)) (sw_or1 (st_not (st_val (se_callC C_is_whole tk (hr.mono (by decide)) (sa_cons (se_ix d_ix (se_var 0) (se_int)) (sa_nil))))))))) (sss_one (ss_ret (se_bl))) (sss_nil))
    (sss_one (ss_ret (se_and (se_chain (d_lt) (d_le) (se_var 1) (se_ix d_ix (se_var 0) (se_int)) (se_gint rfl (M.int 2 ("LAST_HOUR", 9999) rfl))) (se_one (se_callC C_is_direction tk (hr.mono (by decide)) (sa_cons (se_ix d_ix (se_var 0) (se_int)) (sa_nil)))))))
theorem cal_is_hour_row (B : Blts mg blts) (M : Facts K mg) (C_is_whole : Cal P w K mg base "is_whole" 1 1 f_is_whole) (C_is_direction : Cal P w K mg base "is_direction" 3 1 f_is_direction) (Fn : FunD K "is_hour_row" "is_hour_row" (defArgs s_is_hour_row) (defBody s_is_hour_row) (defScope s_is_hour_row) [] [] f fd) (hm : mg "is_hour_row" = some (.ref f)) : Cal P w K mg base "is_hour_row" 4 2 f_is_hour_row :=
  cal_mk (N := N_is_hour_row) (ps := ["thing", "last"]) Fn hm (fun _ _ _ _ _ _ us hl => match us, hl with | [_, _], _ => rfl) (ok_is_hour_row B M C_is_whole C_is_direction Fn)
theorem ok_look_at_sun (B : Blts mg blts) (M : Facts K mg) (I_NoSun : InC P w K mg base "NoSun" "at") (C_is_hour_row : Cal P w K mg base "is_hour_row" 4 2 f_is_hour_row) (Fn : FunD K "look_at_sun" "look_at_sun" (defArgs s_look_at_sun) (defBody s_look_at_sun) (defScope s_look_at_sun) [] [] f fd) : FnOk P w K mg base (L2.CX P w) 5 f fd ["thing"] (spD K 1 f_look_at_sun) :=
  have nd := (sc_look_at_sun).nd
  ok_def (N := N_look_at_sun) Fn sc_look_at_sun rfl fun cdv A outer s H E hr tk hp =>
    sss_cons (ss_if (st_bool (sw_or (st_not (st_val (se_blt d_isi (B.at 1) (sa_cons (se_var 0) (sa_cons (se_ty (B.at 7)) (sa_nil)))))) (sw_or1 (st_not (st_chain (d_le) (d_le) (se_int) (se_blt d_len (B.at 3) (sa_cons (se_var 0) (sa_nil))) (se_gint rfl (M.int 1 ("MOST_HOURS", 80) rfl))))))) (sss_one (ss_raiseF I_NoSun rfl tk (hr.mono (by decide)) (sa_cons (se_non) (sa_nil)))) (sss_nil))
    (sss_cons (ss_set nd (se_un d_neg (se_int)))
    (sss_one (ss_for hp rfl (si_enum (B.at 8) (sa_cons (se_var 0) (sa_nil))) (pg_seq rfl (pgs_cons (pg_name (i := 2) nd rfl (by first | exact Or.inl rfl | exact Or.inr rfl)) (pgs_cons (pg_name (i := 3) nd rfl (by first | exact Or.inl rfl | exact Or.inr rfl)) (pgs_nil)))) (tg_seq (tgs_cons (tg_name 2) (tgs_cons (tg_name 3) (tgs_nil)))) (sss_cons (ss_if (st_not (st_val (se_callC C_is_hour_row tk (hr.mono (by decide)) (sa_cons (se_var 3) (sa_cons (se_var 1) (sa_nil)))))) (sss_one (ss_raiseF I_NoSun rfl tk (hr.mono (by decide)) (sa_cons (se_var 2) (sa_nil)))) (sss_nil))
     (sss_one (ss_set nd (se_ix d_ix (se_var 3) (se_int))))))))
theorem cal_look_at_sun (B : Blts mg blts) (M : Facts K mg) (I_NoSun : InC P w K mg base "NoSun" "at") (C_is_hour_row : Cal P w K mg base "is_hour_row" 4 2 f_is_hour_row) (Fn : FunD K "look_at_sun" "look_at_sun" (defArgs s_look_at_sun) (defBody s_look_at_sun) (defScope s_look_at_sun) [] [] f fd) (hm : mg "look_at_sun" = some (.ref f)) : Cal P w K mg base "look_at_sun" 5 1 f_look_at_sun :=
  cal_mk (N := N_look_at_sun) (ps := ["thing"]) Fn hm (fun _ _ _ _ _ _ us hl => match us, hl with | [_], _ => rfl) (ok_look_at_sun B M I_NoSun C_is_hour_row Fn)
theorem ok_is_near_plates (B : Blts mg blts) (M : Facts K mg) (C_is_triple : Cal P w K mg base "is_triple" 2 1 f_is_triple) (Fn : FunD K "is_near" "is_near" (defArgs s_is_near_plates) (defBody s_is_near_plates) (defScope s_is_near_plates) [] [] f fd) : FnOk P w K mg base (L2.CX P w) 3 f fd ["thing"] (spD K 1 f_is_near_plates) :=
  have nd := (sc_is_near_plates).nd
  ok_def (N := N_is_near_plates) Fn sc_is_near_plates rfl fun cdv A outer s H E hr tk hp =>
    sss_cons (ss_if (st_not (st_val (se_callC C_is_triple tk (hr.mono (by decide)) (sa_cons (se_var 0) (sa_nil))))) (sss_one (ss_ret (se_bl))) (sss_nil))
    (sss_cons (ss_for hp rfl (si_any (se_var 0)) (pg_name (i := 1) nd rfl (by first | exact Or.inl rfl | exact Or.inr rfl)) (tg_name 1) (sss_one (ss_if (st_not (st_chain (d_le) (d_le) (se_un d_neg (se_gint rfl (M.int 3 ("GREATEST", 1000000000) rfl))) (se_var 1) (se_gint rfl (M.int 3 ("GREATEST", 1000000000) rfl)))) (sss_one (ss_ret (se_bl))) (sss_nil))))
    (sss_one (ss_ret (se_bl))))
theorem cal_is_near_plates (B : Blts mg blts) (M : Facts K mg) (C_is_triple : Cal P w K mg base "is_triple" 2 1 f_is_triple) (Fn : FunD K "is_near" "is_near" (defArgs s_is_near_plates) (defBody s_is_near_plates) (defScope s_is_near_plates) [] [] f fd) (hm : mg "is_near_plates" = some (.ref f)) : Cal P w K mg base "is_near_plates" 3 1 f_is_near_plates :=
  cal_ofA (ps := ["thing"]) Fn hm (fun _ _ _ _ _ _ us hl => match us, hl with | [_], _ => rfl) (ok_is_near_plates B M C_is_triple Fn) fun _ h => fnD_len h
theorem ok_look_at_plate (B : Blts mg blts) (M : Facts K mg) (C_is_near_plates : Cal P w K mg base "is_near_plates" 3 1 f_is_near_plates) (C_cross_of : Cal P w K mg base "cross_of" 1 2 f_cross_of) (Fn : FunD K "look_at_plate" "look_at_plate" (defArgs s_look_at_plate) (defBody s_look_at_plate) (defScope s_look_at_plate) [] [] f fd) : FnOk P w K mg base (L2.CX P w) 4 f fd ["thing"] (spD K 1 f_look_at_plate) :=
  have nd := (sc_look_at_plate).nd
  ok_def (N := N_look_at_plate) Fn sc_look_at_plate rfl fun cdv A outer s H E hr tk hp =>
    sss_cons (ss_if (st_bool (sw_or (st_not (st_val (se_blt d_isi (B.at 1) (sa_cons (se_var 0) (sa_cons (se_ty (B.at 4)) (sa_nil)))))) (sw_or1 (st_cmp (d_ne hr.units) (se_blt d_len (B.at 3) (sa_cons (se_var 0) (sa_nil))) (se_int) (nomark _))))) (sss_one (ss_raise0 M.exc_NoPlate rfl tk)) (sss_nil))
    (sss_cons (ss_for hp rfl (si_any (se_var 0)) (pg_name (i := 1) nd rfl (by first | exact Or.inl rfl | exact Or.inr rfl)) (tg_name 1) (sss_one (ss_if (st_not (st_val (se_callC C_is_near_plates tk (hr.mono (by decide)) (sa_cons (se_var 1) (sa_nil))))) (sss_one (ss_raise0 M.exc_NoPlate rfl tk)) (sss_nil))))
    (sss_one (ss_if (st_cmp (d_eq hr.units) (se_callC C_cross_of tk (hr.mono (by decide)) (sa_cons (se_ix d_ix (se_var 0) (se_int)) (sa_cons (se_ix d_ix (se_var 0) (se_int)) (sa_nil)))) (se_tup (sa_cons (se_int) (sa_cons (se_int) (sa_cons (se_int) (sa_nil))))) (nomark _)) (sss_one (ss_raise0 M.exc_NoPlate rfl tk)) (sss_nil))))
theorem cal_look_at_plate (B : Blts mg blts) (M : Facts K mg) (C_is_near_plates : Cal P w K mg base "is_near_plates" 3 1 f_is_near_plates) (C_cross_of : Cal P w K mg base "cross_of" 1 2 f_cross_of) (Fn : FunD K "look_at_plate" "look_at_plate" (defArgs s_look_at_plate) (defBody s_look_at_plate) (defScope s_look_at_plate) [] [] f fd) (hm : mg "look_at_plate" = some (.ref f)) : Cal P w K mg base "look_at_plate" 4 1 f_look_at_plate :=
  cal_mk (N := N_look_at_plate) (ps := ["thing"]) Fn hm (fun _ _ _ _ _ _ us hl => match us, hl with | [_], _ => rfl) (ok_look_at_plate B M C_is_near_plates C_cross_of Fn)
theorem ok_front_of (B : Blts mg blts) (M : Facts K mg) (C_cross_of : Cal P w K mg base "cross_of" 1 2 f_cross_of) (Fn : FunD K "front_of" "front_of" (defArgs s_front_of) (defBody s_front_of) (defScope s_front_of) [] [] f fd) : FnOk P w K mg base (L2.CX P w) 2 f fd ["plate"] (spD K 1 f_front_of) :=
  have nd := (sc_front_of).nd
  ok_def (N := N_front_of) Fn sc_front_of rfl fun cdv A outer s H E hr tk hp =>
    sss_one (ss_ret (se_callC C_cross_of tk (hr.mono (by decide)) (sa_cons (se_ix d_ix (se_var 0) (se_int)) (sa_cons (se_ix d_ix (se_var 0) (se_int)) (sa_nil)))))
theorem cal_front_of (B : Blts mg blts) (M : Facts K mg) (C_cross_of : Cal P w K mg base "cross_of" 1 2 f_cross_of) (Fn : FunD K "front_of" "front_of" (defArgs s_front_of) (defBody s_front_of) (defScope s_front_of) [] [] f fd) (hm : mg "front_of" = some (.ref f)) : Cal P w K mg base "front_of" 2 1 f_front_of :=
  cal_mk (N := N_front_of) (ps := ["plate"]) Fn hm (fun _ _ _ _ _ _ us hl => match us, hl with | [_], _ => rfl) (ok_front_of B M C_cross_of Fn)
theorem ok_is_ahead (B : Blts mg blts) (M : Facts K mg) (C_dot_of : Cal P w K mg base "dot_of" 1 2 f_dot_of) (C_triple_less : Cal P w K mg base "triple_less" 1 2 f_triple_less) (C_front_of : Cal P w K mg base "front_of" 2 1 f_front_of) (Fn : FunD K "is_ahead" "is_ahead" (defArgs s_is_ahead) (defBody s_is_ahead) (defScope s_is_ahead) [] [] f fd) : FnOk P w K mg base (L2.CX P w) 3 f fd ["plate", "triple"] (spD K 2 f_is_ahead) :=
  have nd := (sc_is_ahead).nd
  ok_def (N := N_is_ahead) Fn sc_is_ahead rfl fun cdv A outer s H E hr tk hp =>
    sss_one (ss_ret (se_cmp (d_gt) (se_callC C_dot_of tk (hr.mono (by decide)) (sa_cons (se_callC C_front_of tk (hr.mono (by decide)) (sa_cons (se_var 0) (sa_nil))) (sa_cons (se_callC C_triple_less tk (hr.mono (by decide)) (sa_cons (se_var 1) (sa_cons (se_ix d_ix (se_var 0) (se_int)) (sa_nil)))) (sa_nil)))) (se_int) (nomark _)))
theorem cal_is_ahead (B : Blts mg blts) (M : Facts K mg) (C_dot_of : Cal P w K mg base "dot_of" 1 2 f_dot_of) (C_triple_less : Cal P w K mg base "triple_less" 1 2 f_triple_less) (C_front_of : Cal P w K mg base "front_of" 2 1 f_front_of) (Fn : FunD K "is_ahead" "is_ahead" (defArgs s_is_ahead) (defBody s_is_ahead) (defScope s_is_ahead) [] [] f fd) (hm : mg "is_ahead" = some (.ref f)) : Cal P w K mg base "is_ahead" 3 2 f_is_ahead :=
  cal_mk (N := N_is_ahead) (ps := ["plate", "triple"]) Fn hm (fun _ _ _ _ _ _ us hl => match us, hl with | [_, _], _ => rfl) (ok_is_ahead B M C_dot_of C_triple_less C_front_of Fn)
theorem ok_is_name (B : Blts mg blts) (M : Facts K mg)  (Fn : FunD K "is_name" "is_name" (defArgs s_is_name) (defBody s_is_name) (defScope s_is_name) [] [] f fd) : FnOk P w K mg base (L2.CX P w) 1 f fd ["thing"] (spD K 1 f_is_name) :=
  have nd := (sc_is_name).nd
  ok_def (N := N_is_name) Fn sc_is_name rfl fun cdv A outer s H E hr tk hp =>
    sss_cons (ss_if (st_bool (sw_or (st_not (st_val (se_blt d_isi (B.at 1) (sa_cons (se_var 0) (sa_cons (se_ty (B.at 9)) (sa_nil)))))) (sw_or1 (st_not (st_chain (d_le) (d_le) (se_int) (se_blt d_len (B.at 3) (sa_cons (se_var 0) (sa_nil))) (se_gint rfl (M.int 4 ("LONGEST", 8) rfl))))))) (sss_one (ss_ret (se_bl))) (sss_nil))
    (sss_cons (ss_for hp rfl (si_any (se_var 0)) (pg_name (i := 1) nd rfl (by first | exact Or.inl rfl | exact Or.inr rfl)) (tg_name 1) (sss_one (ss_if (st_cmp (d_ninX) (se_var 1) (se_gstr rfl (M.str 0 ("LETTERS", "abcdefghijklmnopqrstuvwxyz") rfl)) (by rfl)) (sss_one (ss_ret (se_bl))) (sss_nil))))
    (sss_one (ss_ret (se_bl))))
theorem cal_is_name (B : Blts mg blts) (M : Facts K mg)  (Fn : FunD K "is_name" "is_name" (defArgs s_is_name) (defBody s_is_name) (defScope s_is_name) [] [] f fd) (hm : mg "is_name" = some (.ref f)) : Cal P w K mg base "is_name" 1 1 f_is_name :=
  cal_mk (N := N_is_name) (ps := ["thing"]) Fn hm (fun _ _ _ _ _ _ us hl => match us, hl with | [_], _ => rfl) (ok_is_name B M  Fn)
theorem ok_is_plate (B : Blts mg blts) (M : Facts K mg) (C_look_at_plate : Cal P w K mg base "look_at_plate" 4 1 f_look_at_plate) (Fn : FunD K "is_plate" "is_plate" (defArgs s_is_plate) (defBody s_is_plate) (defScope s_is_plate) [] [] f fd) : FnOk P w K mg base (L2.CX P w) 5 f fd ["thing"] (spD K 1 f_is_plate) :=
  have nd := (sc_is_plate).nd
  ok_def (N := N_is_plate) Fn sc_is_plate rfl fun cdv A outer s H E hr tk hp =>
    sss_cons (ss_set nd (se_bl))
    (sss_cons (ss_tryO M.xf tk (fun W pn xe tk hp => sss_one (ss_expr (se_callC C_look_at_plate tk (hr.mono (by decide)) (sa_cons (se_var 0) (sa_nil))))) (fun a pn => sss_one (ss_set nd (se_bl))))
    (sss_one (ss_ret (se_not (se_var 1)))))
theorem cal_is_plate (B : Blts mg blts) (M : Facts K mg) (C_look_at_plate : Cal P w K mg base "look_at_plate" 4 1 f_look_at_plate) (Fn : FunD K "is_plate" "is_plate" (defArgs s_is_plate) (defBody s_is_plate) (defScope s_is_plate) [] [] f fd) (hm : mg "is_plate" = some (.ref f)) : Cal P w K mg base "is_plate" 5 1 f_is_plate :=
  cal_mk (N := N_is_plate) (ps := ["thing"]) Fn hm (fun _ _ _ _ _ _ us hl => match us, hl with | [_], _ => rfl) (ok_is_plate B M C_look_at_plate Fn)
theorem ok_has_tip (B : Blts mg blts) (M : Facts K mg) (C_is_ahead : Cal P w K mg base "is_ahead" 3 2 f_is_ahead) (C_is_near_suns : Cal P w K mg base "is_near_suns" 1 1 f_is_near_suns) (C_is_triple : Cal P w K mg base "is_triple" 2 1 f_is_triple) (Fn : FunD K "has_tip" "has_tip" (defArgs s_has_tip) (defBody s_has_tip) (defScope s_has_tip) [] [] f fd) : FnOk P w K mg base (L2.CX P w) 4 f fd ["thing"] (spD K 1 f_has_tip) :=
  have nd := (sc_has_tip).nd
  ok_def (N := N_has_tip) Fn sc_has_tip rfl fun cdv A outer s H E hr tk hp =>
    sss_one (ss_ret (se_and (se_callC C_is_triple tk (hr.mono (by decide)) (sa_cons (se_ix d_ix (se_var 0) (se_int)) (sa_nil))) (se_and (se_callC C_is_near_suns tk (hr.mono (by decide)) (sa_cons (se_ix d_ix (se_var 0) (se_int)) (sa_nil))) (se_one (se_callC C_is_ahead tk (hr.mono (by decide)) (sa_cons (se_ix d_ix (se_var 0) (se_int)) (sa_cons (se_ix d_ix (se_var 0) (se_int)) (sa_nil))))))))
theorem cal_has_tip (B : Blts mg blts) (M : Facts K mg) (C_is_ahead : Cal P w K mg base "is_ahead" 3 2 f_is_ahead) (C_is_near_suns : Cal P w K mg base "is_near_suns" 1 1 f_is_near_suns) (C_is_triple : Cal P w K mg base "is_triple" 2 1 f_is_triple) (Fn : FunD K "has_tip" "has_tip" (defArgs s_has_tip) (defBody s_has_tip) (defScope s_has_tip) [] [] f fd) (hm : mg "has_tip" = some (.ref f)) : Cal P w K mg base "has_tip" 4 1 f_has_tip :=
  cal_mk (N := N_has_tip) (ps := ["thing"]) Fn hm (fun _ _ _ _ _ _ us hl => match us, hl with | [_], _ => rfl) (ok_has_tip B M C_is_ahead C_is_near_suns C_is_triple Fn)
theorem ok_look_at_things (B : Blts mg blts) (M : Facts K mg) (I_NoYard : InC P w K mg base "NoYard" "name") (C_is_name : Cal P w K mg base "is_name" 1 1 f_is_name) (C_is_plate : Cal P w K mg base "is_plate" 5 1 f_is_plate) (C_has_tip : Cal P w K mg base "has_tip" 4 1 f_has_tip) (Fn : FunD K "look_at_things" "look_at_things" (defArgs s_look_at_things) (defBody s_look_at_things) (defScope s_look_at_things) [] [] f fd) : FnOk P w K mg base (L2.CX P w) 6 f fd ["things", "many", "names"] (spM K 2 3 f_look_at_things) :=
  have nd := (sc_look_at_things).nd
  okM_def (N := N_look_at_things) Fn sc_look_at_things rfl fun w cdv A outer s H E hr tk hp =>
    sssm_cons (ssm_lift (ss_if (st_not (st_val (se_blt d_isi (B.at 1) (sa_cons (se_var 0) (sa_cons (se_ty (B.at 7)) (sa_nil)))))) (sss_one (ss_raiseF I_NoYard rfl tk (hr.mono (by decide)) (sa_cons (se_non) (sa_nil)))) (sss_nil)))
    (sssm_one (ssm_lift (ss_for hp rfl (si_enum (B.at 8) (sa_cons (se_var 0) (sa_nil))) (pg_seq rfl (pgs_cons (pg_name (i := 3) nd rfl (by first | exact Or.inl rfl | exact Or.inr rfl)) (pgs_cons (pg_name (i := 4) nd rfl (by first | exact Or.inl rfl | exact Or.inr rfl)) (pgs_nil)))) (tg_seq (tgs_cons (tg_name 3) (tgs_cons (tg_name 4) (tgs_nil)))) (sss_cons (ss_if (st_bool (sw_or (st_not (st_val (se_blt d_isi (B.at 1) (sa_cons (se_var 4) (sa_cons (se_ty (B.at 4)) (sa_nil)))))) (sw_or (st_cmp (d_ne hr.units) (se_blt d_len (B.at 3) (sa_cons (se_var 4) (sa_nil))) (se_var 1) (nomark _)) (sw_or (st_not (st_val (se_callC C_is_name tk (hr.mono (by decide)) (sa_cons (se_ix d_ix (se_var 4) (se_int)) (sa_nil))))) (sw_or1 (st_cmp (d_eq hr.units) (se_var 3) (se_gint rfl (M.int 5 ("MOST", 20) rfl)) (nomark _))))))) (sss_one (ss_raiseF I_NoYard rfl tk (hr.mono (by decide)) (sa_cons (se_non) (sa_nil)))) (sss_nil))
     (sss_cons (ss_if (st_bool (sw_or (st_peek 2 (st_cmp (d_inX) (se_ix d_ix (se_var 4) (se_int)) (se_var 2) (by rfl))) (sw_or1 (st_not (st_val (se_callC C_is_plate tk (hr.mono (by decide)) (sa_cons (se_ix d_ix (se_var 4) (se_int)) (sa_nil)))))))) (sss_one (ss_raiseF I_NoYard rfl tk (hr.mono (by decide)) (sa_cons (se_ix d_ix (se_var 4) (se_int)) (sa_nil)))) (sss_nil))
     (sss_cons (ss_if (st_bool (sw_and (st_cmp (d_eq hr.units) (se_var 1) (se_int) (nomark _)) (sw_and1 (st_not (st_val (se_callC C_has_tip tk (hr.mono (by decide)) (sa_cons (se_var 4) (sa_nil)))))))) (sss_one (ss_raiseF I_NoYard rfl tk (hr.mono (by decide)) (sa_cons (se_ix d_ix (se_var 4) (se_int)) (sa_nil)))) (sss_nil))
     (sss_one (ss_appG 2 (se_ix d_ix (se_var 4) (se_int))))))))))
theorem cal_look_at_things (B : Blts mg blts) (M : Facts K mg) (I_NoYard : InC P w K mg base "NoYard" "name") (C_is_name : Cal P w K mg base "is_name" 1 1 f_is_name) (C_is_plate : Cal P w K mg base "is_plate" 5 1 f_is_plate) (C_has_tip : Cal P w K mg base "has_tip" 4 1 f_has_tip) (Fn : FunD K "look_at_things" "look_at_things" (defArgs s_look_at_things) (defBody s_look_at_things) (defScope s_look_at_things) [] [] f fd) (hm : mg "look_at_things" = some (.ref f)) : CalM P w K mg base "look_at_things" 6 2 3 f_look_at_things :=
  calM_mk (N := N_look_at_things) (ps := ["things", "many", "names"]) Fn hm (fun _ _ _ _ _ _ us hl => match us, hl with | [_, _, _], _ => rfl) (ok_look_at_things B M I_NoYard C_is_name C_is_plate C_has_tip Fn)
theorem ok_look_at_yard (B : Blts mg blts) (M : Facts K mg) (I_NoYard : InC P w K mg base "NoYard" "name") (C_look_at_sun : Cal P w K mg base "look_at_sun" 5 1 f_look_at_sun) (C_look_at_things : CalM P w K mg base "look_at_things" 6 2 3 f_look_at_things) (Fn : FunD K "look_at_yard" "look_at_yard" (defArgs s_look_at_yard) (defBody s_look_at_yard) (defScope s_look_at_yard) [] [] f fd) : FnOk P w K mg base (L2.CX P w) 7 f fd ["thing"] (spD K 1 f_look_at_yard) :=
  have nd := (sc_look_at_yard).nd
  ok_def (N := N_look_at_yard) Fn sc_look_at_yard rfl fun cdv A outer s H E hr tk hp =>
    sss_cons (ss_if (st_bool (sw_or (st_not (st_val (se_blt d_isi (B.at 1) (sa_cons (se_var 0) (sa_cons (se_ty (B.at 4)) (sa_nil)))))) (sw_or1 (st_cmp (d_ne hr.units) (se_blt d_len (B.at 3) (sa_cons (se_var 0) (sa_nil))) (se_int) (nomark _))))) (sss_one (ss_raiseF I_NoYard rfl tk (hr.mono (by decide)) (sa_cons (se_non) (sa_nil)))) (sss_nil))
    (sss_cons (ss_expr (se_callC C_look_at_sun tk (hr.mono (by decide)) (sa_cons (se_ix d_ix (se_var 0) (se_int)) (sa_nil))))
    (sss_cons (ss_own nd (sa_nil))
    (sss_cons (ss_callM C_look_at_things rfl tk (hr.mono (by decide)) (sam_cons (se_ix d_ix (se_var 0) (se_int)) (sam_cons (se_int) (sam_last 1))))
    (sss_one (ss_callM C_look_at_things rfl tk (hr.mono (by decide)) (sam_cons (se_ix d_ix (se_var 0) (se_int)) (sam_cons (se_int) (sam_last 1))))))))
theorem cal_look_at_yard (B : Blts mg blts) (M : Facts K mg) (I_NoYard : InC P w K mg base "NoYard" "name") (C_look_at_sun : Cal P w K mg base "look_at_sun" 5 1 f_look_at_sun) (C_look_at_things : CalM P w K mg base "look_at_things" 6 2 3 f_look_at_things) (Fn : FunD K "look_at_yard" "look_at_yard" (defArgs s_look_at_yard) (defBody s_look_at_yard) (defScope s_look_at_yard) [] [] f fd) (hm : mg "look_at_yard" = some (.ref f)) : Cal P w K mg base "look_at_yard" 7 1 f_look_at_yard :=
  cal_mk (N := N_look_at_yard) (ps := ["thing"]) Fn hm (fun _ _ _ _ _ _ us hl => match us, hl with | [_], _ => rfl) (ok_look_at_yard B M I_NoYard C_look_at_sun C_look_at_things Fn)
theorem ok_number_in (B : Blts mg blts) (M : Facts K mg)  (Fn : FunD K "number_in" "number_in" (defArgs s_number_in) (defBody s_number_in) (defScope s_number_in) [] [] f fd) : FnOk P w K mg base (L2.CX P w) 1 f fd ["word"] (spD K 1 f_number_in) :=
  have nd := (sc_number_in).nd
  ok_def (N := N_number_in) Fn sc_number_in rfl fun cdv A outer s H E hr tk hp =>
    sss_cons (ss_set nd (se_var 0))
    (sss_cons (ss_if (st_cmp (d_eq hr.units) (se_sliceS (se_var 0) (so_none) (so_some (se_int))) (se_str) (nomark _)) (sss_one (ss_set nd (se_sliceS (se_var 0) (so_some (se_int)) (so_none)))) (sss_nil))
    (sss_cons (ss_if (st_bool (sw_or (st_not (st_chain (d_le) (d_le) (se_int) (se_blt d_len (B.at 3) (sa_cons (se_var 1) (sa_nil))) (se_gint rfl (M.int 6 ("MOST_FIGURES", 10) rfl)))) (sw_or1 (st_bool (sw_and (st_cmp (d_eq hr.units) (se_ix d_ix (se_var 1) (se_int)) (se_str) (nomark _)) (sw_and1 (st_cmp (d_ne hr.units) (se_var 0) (se_str) (nomark _)))))))) (sss_one (ss_ret (se_non))) (sss_nil))
    (sss_cons (ss_for hp rfl (si_any (se_var 1)) (pg_name (i := 2) nd rfl (by first | exact Or.inl rfl | exact Or.inr rfl)) (tg_name 2) (sss_one (ss_if (st_cmp (d_ninX) (se_var 2) (se_gstr rfl (M.str 1 ("FIGURES", "0123456789") rfl)) (by rfl)) (sss_one (ss_ret (se_non))) (sss_nil))))
    (sss_one (ss_ret (se_bty d_intS (B.at 2) (sa_cons (se_var 0) (sa_nil))))))))
theorem cal_number_in (B : Blts mg blts) (M : Facts K mg)  (Fn : FunD K "number_in" "number_in" (defArgs s_number_in) (defBody s_number_in) (defScope s_number_in) [] [] f fd) (hm : mg "number_in" = some (.ref f)) : Cal P w K mg base "number_in" 1 1 f_number_in :=
  cal_mk (N := N_number_in) (ps := ["word"]) Fn hm (fun _ _ _ _ _ _ us hl => match us, hl with | [_], _ => rfl) (ok_number_in B M  Fn)
theorem ok_triples_in (B : Blts mg blts) (M : Facts K mg) (C_number_in : Cal P w K mg base "number_in" 1 1 f_number_in) (Fn : FunD K "triples_in" "triples_in" (defArgs s_triples_in) (defBody s_triples_in) (defScope s_triples_in) [] [] f fd) : FnOk P w K mg base (L2.CX P w) 2 f fd ["words", "many"] (spD K 2 f_triples_in) :=
  have nd := (sc_triples_in).nd
  ok_def (N := N_triples_in) Fn sc_triples_in rfl fun cdv A outer s H E hr tk hp =>
    sss_cons (ss_set nd (se_comp (own := [("word", 3)]) rfl nd (blkOk_by (N := N_triples_in) (sc := defScope s_triples_in) (by decide +kernel)) (si_any (se_var 0)) (tg_name 3) (fun _ _ _ _ _ => pg_name (i := 3) nd rfl (by first | exact Or.inl rfl | exact Or.inr rfl)) (fun _ _ _ _ _ => sif_nil) (fun _ _ _ _ _ => se_callC C_number_in takes0 (hr.mono (by decide)) (sa_cons (se_var 3) (sa_nil)))))
    (sss_cons (ss_if (st_bool (sw_or (st_cmp (d_ne hr.units) (se_blt d_len (B.at 3) (sa_cons (se_var 0) (sa_nil))) (se_op d_mul (se_int) (se_var 1)) (nomark _)) (sw_or1 (st_cmp (d_inX) (se_non) (se_var 2) (by rfl))))) (sss_one (ss_ret (se_non))) (sss_nil))
    (sss_one (ss_ret (se_bty d_tuple (B.at 4) (sa_cons (se_comp (own := [("k", 4)]) rfl nd (blkOk_by (N := N_triples_in) (sc := defScope s_triples_in) (by decide +kernel)) (si_range1 (B.at 10) (sa_cons (se_var 1) (sa_nil))) (tg_name 4) (fun _ _ _ _ _ => pg_name (i := 4) nd rfl (by first | exact Or.inl rfl | exact Or.inr rfl)) (fun _ _ _ _ _ => sif_nil) (fun _ _ _ _ _ => se_bty d_tuple (B.at 4) (sa_cons (se_slice (se_var 2) (so_some (se_op d_mul (se_int) (se_var 4))) (so_some (se_op d_add (se_op d_mul (se_int) (se_var 4)) (se_int)))) (sa_nil)))) (sa_nil))))))
theorem cal_triples_in (B : Blts mg blts) (M : Facts K mg) (C_number_in : Cal P w K mg base "number_in" 1 1 f_number_in) (Fn : FunD K "triples_in" "triples_in" (defArgs s_triples_in) (defBody s_triples_in) (defScope s_triples_in) [] [] f fd) (hm : mg "triples_in" = some (.ref f)) : Cal P w K mg base "triples_in" 2 2 f_triples_in :=
  cal_mk (N := N_triples_in) (ps := ["words", "many"]) Fn hm (fun _ _ _ _ _ _ us hl => match us, hl with | [_, _], _ => rfl) (ok_triples_in B M C_number_in Fn)
theorem ok_Paper___init__ (B : Blts mg blts) (M : Facts K mg)  (Fn : FunD K "__init__" "Paper.__init__" (defArgs s_Paper___init__) (defBody s_Paper___init__) (defScope s_Paper___init__) [] [] f fd) : FnOk P w K mg base (L2.CX P w) 1 f fd ["self"] (spB K "Paper" [] ["sun", "walls", "dials"] 1 f_Paper___init__) :=
  have nd := (sc_Paper___init__).nd
  okB_def (N := N_Paper___init__) Fn sc_Paper___init__ rfl fun w cdv A outer s H E hr tk hp =>
    sssb_cons (ssb_lift (ss_newF 0 M.cls_Paper M.no_Paper_sun))
    (sssb_cons (ssb_lift (ss_newF 0 M.cls_Paper M.no_Paper_walls))
    (sssb_one (ssb_lift (ss_newF 0 M.cls_Paper M.no_Paper_dials))))
theorem cal_Paper___init__ (B : Blts mg blts) (M : Facts K mg)  (Fn : FunD K "__init__" "Paper.__init__" (defArgs s_Paper___init__) (defBody s_Paper___init__) (defScope s_Paper___init__) [] [] f fd) (hm : Mk K (He.ga K "Paper") f) : CalN P w K mg base "Paper" 1 ["sun", "walls", "dials"] f_Paper___init__ :=
  calN_mk (N := N_Paper___init__) (ps := ["self"]) Fn hm M.glo_Paper (fun _ _ _ _ _ _ us hl => match us, hl with | [_], _ => rfl) (ok_Paper___init__ B M  Fn)
theorem ok_Paper_took_hour (B : Blts mg blts) (M : Facts K mg) (C_triples_in : Cal P w K mg base "triples_in" 2 2 f_triples_in) (C_number_in : Cal P w K mg base "number_in" 1 1 f_number_in) (Fn : FunD K "took_hour" "Paper.took_hour" (defArgs s_Paper_took_hour) (defBody s_Paper_took_hour) (defScope s_Paper_took_hour) [] [] f fd) : FnOk P w K mg base (L2.CX P w) 3 f fd ["self", "words"] (spB K "Paper" ["sun", "walls", "dials"] ["sun", "walls", "dials"] 2 f_Paper_took_hour) :=
  have nd := (sc_Paper_took_hour).nd
  okB_def (N := N_Paper_took_hour) Fn sc_Paper_took_hour rfl fun w cdv A outer s H E hr tk hp =>
    sssb_cons (ssb_lift (ss_set nd (se_callC C_triples_in tk (hr.mono (by decide)) (sa_cons (se_slice (se_var 1) (so_some (se_int)) (so_none)) (sa_cons (se_int) (sa_nil))))))
    (sssb_cons (ssb_if (st_peekB 0 (st_bool (sw_or (st_cmp (d_ne hr.units) (se_op d_add (se_fld 0 M.cls_Paper M.no_Paper_walls) (se_fld 0 M.cls_Paper M.no_Paper_dials)) (se_lst (sa_nil)) (nomark _)) (sw_or1 (st_cmp (d_isN) (se_var 2) (se_non) (nomark _)))))) (sssb_one (ssb_ret (se_bl))) (sssb_nil))
    (sssb_cons (ssb_lift (ss_set nd (se_callC C_number_in tk (hr.mono (by decide)) (sa_cons (se_ix d_ix (se_var 1) (se_int)) (sa_nil)))))
    (sssb_cons (ssb_if (st_cmp (d_isN) (se_var 3) (se_non) (nomark _)) (sssb_one (ssb_ret (se_bl))) (sssb_nil))
    (sssb_cons (ssb_lift (ss_appF 0 M.cls_Paper M.no_Paper_sun (se_tup (sa_cons (se_var 3) (sa_cons (se_ix d_ix (se_var 2) (se_int)) (sa_nil))))))
    (sssb_one (ssb_ret (se_bl)))))))
theorem cal_Paper_took_hour (B : Blts mg blts) (M : Facts K mg) (C_triples_in : Cal P w K mg base "triples_in" 2 2 f_triples_in) (C_number_in : Cal P w K mg base "number_in" 1 1 f_number_in) (Fn : FunD K "took_hour" "Paper.took_hour" (defArgs s_Paper_took_hour) (defBody s_Paper_took_hour) (defScope s_Paper_took_hour) [] [] f fd) (hm : Meth K (He.ga K "Paper") "took_hour" f) : CalB P w K mg base "Paper" "took_hour" 3 ["sun", "walls", "dials"] ["sun", "walls", "dials"] 2 f_Paper_took_hour :=
  calB_mk (N := N_Paper_took_hour) (ps := ["self", "words"]) Fn hm M.cls_Paper (by decide) (fun _ _ _ _ _ _ us hl => match us, hl with | [_, _], _ => rfl) (ok_Paper_took_hour B M C_triples_in C_number_in Fn)
theorem ok_Paper_took_wall (B : Blts mg blts) (M : Facts K mg) (C_triples_in : Cal P w K mg base "triples_in" 2 2 f_triples_in) (Fn : FunD K "took_wall" "Paper.took_wall" (defArgs s_Paper_took_wall) (defBody s_Paper_took_wall) (defScope s_Paper_took_wall) [] [] f fd) : FnOk P w K mg base (L2.CX P w) 3 f fd ["self", "name", "words"] (spB K "Paper" ["sun", "walls", "dials"] ["sun", "walls", "dials"] 3 f_Paper_took_wall) :=
  have nd := (sc_Paper_took_wall).nd
  okB_def (N := N_Paper_took_wall) Fn sc_Paper_took_wall rfl fun w cdv A outer s H E hr tk hp =>
    sssb_cons (ssb_lift (ss_set nd (se_callC C_triples_in tk (hr.mono (by decide)) (sa_cons (se_var 2) (sa_cons (se_int) (sa_nil))))))
    (sssb_cons (ssb_if (st_peekB 0 (st_bool (sw_or (st_cmp (d_ne hr.units) (se_fld 0 M.cls_Paper M.no_Paper_dials) (se_lst (sa_nil)) (nomark _)) (sw_or1 (st_cmp (d_isN) (se_var 3) (se_non) (nomark _)))))) (sssb_one (ssb_ret (se_bl))) (sssb_nil))
    (sssb_cons (ssb_lift (ss_appF 0 M.cls_Paper M.no_Paper_walls (se_tup (sa_cons (se_var 1) (sa_cons (se_var 3) (sa_nil))))))
    (sssb_one (ssb_ret (se_bl)))))
theorem cal_Paper_took_wall (B : Blts mg blts) (M : Facts K mg) (C_triples_in : Cal P w K mg base "triples_in" 2 2 f_triples_in) (Fn : FunD K "took_wall" "Paper.took_wall" (defArgs s_Paper_took_wall) (defBody s_Paper_took_wall) (defScope s_Paper_took_wall) [] [] f fd) (hm : Meth K (He.ga K "Paper") "took_wall" f) : CalB P w K mg base "Paper" "took_wall" 3 ["sun", "walls", "dials"] ["sun", "walls", "dials"] 3 f_Paper_took_wall :=
  calB_mk (N := N_Paper_took_wall) (ps := ["self", "name", "words"]) Fn hm M.cls_Paper (by decide) (fun _ _ _ _ _ _ us hl => match us, hl with | [_, _, _], _ => rfl) (ok_Paper_took_wall B M C_triples_in Fn)
theorem ok_Paper_took_dial (B : Blts mg blts) (M : Facts K mg) (C_triples_in : Cal P w K mg base "triples_in" 2 2 f_triples_in) (Fn : FunD K "took_dial" "Paper.took_dial" (defArgs s_Paper_took_dial) (defBody s_Paper_took_dial) (defScope s_Paper_took_dial) [] [] f fd) : FnOk P w K mg base (L2.CX P w) 3 f fd ["self", "name", "words"] (spB K "Paper" ["sun", "walls", "dials"] ["sun", "walls", "dials"] 3 f_Paper_took_dial) :=
  have nd := (sc_Paper_took_dial).nd
  okB_def (N := N_Paper_took_dial) Fn sc_Paper_took_dial rfl fun w cdv A outer s H E hr tk hp =>
    sssb_cons (ssb_lift (ss_set nd (se_callC C_triples_in tk (hr.mono (by decide)) (sa_cons (se_var 2) (sa_cons (se_int) (sa_nil))))))
    (sssb_cons (ssb_if (st_cmp (d_isN) (se_var 3) (se_non) (nomark _)) (sssb_one (ssb_ret (se_bl))) (sssb_nil))
    (sssb_cons (ssb_lift (ss_appF 0 M.cls_Paper M.no_Paper_dials (se_tup (sa_cons (se_var 1) (sa_cons (se_slice (se_var 3) (so_none) (so_some (se_int))) (sa_cons (se_ix d_ix (se_var 3) (se_int)) (sa_nil)))))))
    (sssb_one (ssb_ret (se_bl)))))
theorem cal_Paper_took_dial (B : Blts mg blts) (M : Facts K mg) (C_triples_in : Cal P w K mg base "triples_in" 2 2 f_triples_in) (Fn : FunD K "took_dial" "Paper.took_dial" (defArgs s_Paper_took_dial) (defBody s_Paper_took_dial) (defScope s_Paper_took_dial) [] [] f fd) (hm : Meth K (He.ga K "Paper") "took_dial" f) : CalB P w K mg base "Paper" "took_dial" 3 ["sun", "walls", "dials"] ["sun", "walls", "dials"] 3 f_Paper_took_dial :=
  calB_mk (N := N_Paper_took_dial) (ps := ["self", "name", "words"]) Fn hm M.cls_Paper (by decide) (fun _ _ _ _ _ _ us hl => match us, hl with | [_, _, _], _ => rfl) (ok_Paper_took_dial B M C_triples_in Fn)
theorem ok_Paper_took (B : Blts mg blts) (M : Facts K mg) (C_Paper_took_hour : CalB P w K mg base "Paper" "took_hour" 3 ["sun", "walls", "dials"] ["sun", "walls", "dials"] 2 f_Paper_took_hour) (C_Paper_took_wall : CalB P w K mg base "Paper" "took_wall" 3 ["sun", "walls", "dials"] ["sun", "walls", "dials"] 3 f_Paper_took_wall) (C_Paper_took_dial : CalB P w K mg base "Paper" "took_dial" 3 ["sun", "walls", "dials"] ["sun", "walls", "dials"] 3 f_Paper_took_dial) (Fn : FunD K "took" "Paper.took" (defArgs s_Paper_took) (defBody s_Paper_took) (defScope s_Paper_took) [] [] f fd) : FnOk P w K mg base (L2.CX P w) 4 f fd ["self", "words"] (spB K "Paper" ["sun", "walls", "dials"] ["sun", "walls", "dials"] 2 f_Paper_took) :=
  have nd := (sc_Paper_took).nd
  okB_def (N := N_Paper_took) Fn sc_Paper_took rfl fun w cdv A outer s H E hr tk hp =>
    sssb_cons (ssb_if (st_cmp (d_eq hr.units) (se_ix d_ix (se_var 1) (se_int)) (se_str) (nomark _)) (sssb_one (ssb_retP (sep_meth C_Paper_took_hour (hr.mono (by decide)) (sa_cons (se_slice (se_var 1) (so_some (se_int)) (so_none)) (sa_nil))))) (sssb_nil))
    (sssb_cons (ssb_if (st_peekB 0 (st_bool (sw_or (st_cmp (d_lt) (se_blt d_len (B.at 3) (sa_cons (se_var 1) (sa_nil))) (se_int) (nomark _)) (sw_or1 (st_cmp (d_eq hr.units) (se_fld 0 M.cls_Paper M.no_Paper_sun) (se_lst (sa_nil)) (nomark _)))))) (sssb_one (ssb_ret (se_bl))) (sssb_nil))
    (sssb_cons (ssb_if (st_cmp (d_eq hr.units) (se_ix d_ix (se_var 1) (se_int)) (se_str) (nomark _)) (sssb_one (ssb_retP (sep_meth C_Paper_took_wall (hr.mono (by decide)) (sa_cons (se_ix d_ix (se_var 1) (se_int)) (sa_cons (se_slice (se_var 1) (so_some (se_int)) (so_none)) (sa_nil)))))) (sssb_nil))
    (sssb_one (ssb_retP (sep_and (se_cmp (d_eq hr.units) (se_ix d_ix (se_var 1) (se_int)) (se_str) (nomark _)) (sep_one (sep_meth C_Paper_took_dial (hr.mono (by decide)) (sa_cons (se_ix d_ix (se_var 1) (se_int)) (sa_cons (se_slice (se_var 1) (so_some (se_int)) (so_none)) (sa_nil))))))))))
theorem cal_Paper_took (B : Blts mg blts) (M : Facts K mg) (C_Paper_took_hour : CalB P w K mg base "Paper" "took_hour" 3 ["sun", "walls", "dials"] ["sun", "walls", "dials"] 2 f_Paper_took_hour) (C_Paper_took_wall : CalB P w K mg base "Paper" "took_wall" 3 ["sun", "walls", "dials"] ["sun", "walls", "dials"] 3 f_Paper_took_wall) (C_Paper_took_dial : CalB P w K mg base "Paper" "took_dial" 3 ["sun", "walls", "dials"] ["sun", "walls", "dials"] 3 f_Paper_took_dial) (Fn : FunD K "took" "Paper.took" (defArgs s_Paper_took) (defBody s_Paper_took) (defScope s_Paper_took) [] [] f fd) (hm : Meth K (He.ga K "Paper") "took" f) : CalB P w K mg base "Paper" "took" 4 ["sun", "walls", "dials"] ["sun", "walls", "dials"] 2 f_Paper_took :=
  calB_mk (N := N_Paper_took) (ps := ["self", "words"]) Fn hm M.cls_Paper (by decide) (fun _ _ _ _ _ _ us hl => match us, hl with | [_, _], _ => rfl) (ok_Paper_took B M C_Paper_took_hour C_Paper_took_wall C_Paper_took_dial Fn)
theorem ok_Paper_stands (B : Blts mg blts) (M : Facts K mg) (C_look_at_sun : Cal P w K mg base "look_at_sun" 5 1 f_look_at_sun) (C_look_at_yard : Cal P w K mg base "look_at_yard" 7 1 f_look_at_yard) (Fn : FunD K "stands" "Paper.stands" (defArgs s_Paper_stands) (defBody s_Paper_stands) (defScope s_Paper_stands) [] [] f fd) : FnOk P w K mg base (L2.CX P w) 8 f fd ["self"] (spB K "Paper" ["sun", "walls", "dials"] ["sun", "walls", "dials"] 1 f_Paper_stands) :=
  have nd := (sc_Paper_stands).nd
  okB_def (N := N_Paper_stands) Fn sc_Paper_stands rfl fun w cdv A outer s H E hr tk hp =>
    sssb_one (ssb_peek (ss_try2 M.xf tk (fun W pn xe tk hp => sss_cons (ss_expr (se_callC C_look_at_sun tk (hr.mono (by decide)) (sa_cons (se_fld 0 M.cls_Paper M.no_Paper_sun) (sa_nil))))
     (sss_one (ss_expr (se_callC C_look_at_yard tk (hr.mono (by decide)) (sa_cons (se_tup (sa_cons (se_fld 0 M.cls_Paper M.no_Paper_sun) (sa_cons (se_fld 0 M.cls_Paper M.no_Paper_walls) (sa_cons (se_fld 0 M.cls_Paper M.no_Paper_dials) (sa_nil))))) (sa_nil)))))) (fun a pn => sss_one (ss_ret (se_bl))) (fun a pn => sss_one (ss_ret (se_bl))) (sss_one (ss_ret (se_bl)))))
theorem cal_Paper_stands (B : Blts mg blts) (M : Facts K mg) (C_look_at_sun : Cal P w K mg base "look_at_sun" 5 1 f_look_at_sun) (C_look_at_yard : Cal P w K mg base "look_at_yard" 7 1 f_look_at_yard) (Fn : FunD K "stands" "Paper.stands" (defArgs s_Paper_stands) (defBody s_Paper_stands) (defScope s_Paper_stands) [] [] f fd) (hm : Meth K (He.ga K "Paper") "stands" f) : CalB P w K mg base "Paper" "stands" 8 ["sun", "walls", "dials"] ["sun", "walls", "dials"] 1 f_Paper_stands :=
  calB_mk (N := N_Paper_stands) (ps := ["self"]) Fn hm M.cls_Paper (by decide) (fun _ _ _ _ _ _ us hl => match us, hl with | [_], _ => rfl) (ok_Paper_stands B M C_look_at_sun C_look_at_yard Fn)
theorem ok_read_yard (B : Blts mg blts) (M : Facts K mg) (I_NoRow : InC P w K mg base "NoRow" "row") (C_Paper___init__ : CalN P w K mg base "Paper" 1 ["sun", "walls", "dials"] f_Paper___init__) (C_Paper_stands : CalB P w K mg base "Paper" "stands" 8 ["sun", "walls", "dials"] ["sun", "walls", "dials"] 1 f_Paper_stands) (C_Paper_took : CalB P w K mg base "Paper" "took" 4 ["sun", "walls", "dials"] ["sun", "walls", "dials"] 2 f_Paper_took) (Fn : FunD K "read_yard" "read_yard" (defArgs s_read_yard) (defBody s_read_yard) (defScope s_read_yard) [] [] f fd) : FnOk P w K mg base (L2.CX P w) 9 f fd ["text"] (spT K 1 f_read_yard) :=
  have nd := (sc_read_yard).nd
  okT_def (N := N_read_yard) Fn sc_read_yard rfl fun cdv A outer s H E hr tk hp =>
    ssst_cons (sst_lift (ss_if (st_not (st_val (se_blt d_isi (B.at 1) (sa_cons (se_var 0) (sa_cons (se_ty (B.at 9)) (sa_nil)))))) (sss_one (ss_raiseF I_NoRow rfl tk (hr.mono (by decide)) (sa_cons (se_int) (sa_nil)))) (sss_nil)))
    (ssst_cons (sst_lift (ss_newB C_Paper___init__ (hr.mono (by decide)) nd))
    (ssst_cons (sst_lift (ss_for hp rfl (si_enum (B.at 8) (sa_cons (se_split (se_var 0) (se_str)) (sa_nil))) (pg_seq rfl (pgs_cons (pg_name (i := 2) nd rfl (by first | exact Or.inl rfl | exact Or.inr rfl)) (pgs_cons (pg_name (i := 3) nd rfl (by first | exact Or.inl rfl | exact Or.inr rfl)) (pgs_nil)))) (tg_seq (tgs_cons (tg_name 2) (tgs_cons (tg_name 3) (tgs_nil)))) (sss_one (ss_ifP (stp_bool (swp_or (stp_not (stp_val (sep_meth C_Paper_took (hr.mono (by decide)) (sa_cons (se_split (se_var 3) (se_str)) (sa_nil))))) (swp_or1 (stp_not (stp_val (sep_meth0 C_Paper_stands (hr.mono (by decide)))))))) (sss_one (ss_raiseF I_NoRow rfl tk (hr.mono (by decide)) (sa_cons (se_var 2) (sa_nil)))) (sss_nil)))))
    (ssst_one (sst_retOb 1 M.cls_Paper M.no_Paper_sun M.no_Paper_walls M.no_Paper_dials rfl rfl rfl))))
theorem cal_read_yard (B : Blts mg blts) (M : Facts K mg) (I_NoRow : InC P w K mg base "NoRow" "row") (C_Paper___init__ : CalN P w K mg base "Paper" 1 ["sun", "walls", "dials"] f_Paper___init__) (C_Paper_stands : CalB P w K mg base "Paper" "stands" 8 ["sun", "walls", "dials"] ["sun", "walls", "dials"] 1 f_Paper_stands) (C_Paper_took : CalB P w K mg base "Paper" "took" 4 ["sun", "walls", "dials"] ["sun", "walls", "dials"] 2 f_Paper_took) (Fn : FunD K "read_yard" "read_yard" (defArgs s_read_yard) (defBody s_read_yard) (defScope s_read_yard) [] [] f fd) (hm : mg "read_yard" = some (.ref f)) : CalT P w K mg base "read_yard" 9 1 f_read_yard :=
  calT_mk (N := N_read_yard) (ps := ["text"]) Fn hm (fun _ _ _ _ _ _ us hl => match us, hl with | [_], _ => rfl) (ok_read_yard B M I_NoRow C_Paper___init__ C_Paper_stands C_Paper_took Fn)
theorem ok__law_cell_at (B : Blts mg blts) (M : Facts K mg)  (Fn : FunD K "_law_cell_at" "_law_cell_at" (defArgs s__law_cell_at) (defBody s__law_cell_at) (defScope s__law_cell_at) [] [] f fd) : FnOk P w K mg base (L2.CX P w) 1 f fd ["_law_script", "_law_k"] (spD K 2 f__law_cell_at) :=
  have nd := (sc__law_cell_at).nd
  ok_def (N := N__law_cell_at) Fn sc__law_cell_at rfl fun cdv A outer s H E hr tk hp =>
    sss_cons (ss_if (st_cmp (d_lt) (se_var 1) (se_blt d_len (B.at 3) (sa_cons (se_var 0) (sa_nil))) (nomark _)) (sss_one (ss_ret (se_ix d_ix (se_var 0) (se_var 1)))) (sss_nil))
    (sss_one (ss_ret (se_int)))
theorem cal__law_cell_at (B : Blts mg blts) (M : Facts K mg)  (Fn : FunD K "_law_cell_at" "_law_cell_at" (defArgs s__law_cell_at) (defBody s__law_cell_at) (defScope s__law_cell_at) [] [] f fd) (hm : mg "_law_cell_at" = some (.ref f)) : Cal P w K mg base "_law_cell_at" 1 2 f__law_cell_at :=
  cal_mk (N := N__law_cell_at) (ps := ["_law_script", "_law_k"]) Fn hm (fun _ _ _ _ _ _ us hl => match us, hl with | [_, _], _ => rfl) (ok__law_cell_at B M  Fn)
theorem ok__law_draw (B : Blts mg blts) (M : Facts K mg)  (Fn : FunD K "_law_draw" "_law_draw" (defArgs s__law_draw) (defBody s__law_draw) (defScope s__law_draw) [] [] f fd) : FnOk P w K mg base (L2.CX P w) 1 f fd ["_law_cell", "_law_k", "_law_many"] (spD K 3 f__law_draw) :=
  have nd := (sc__law_draw).nd
  ok_def (N := N__law_draw) Fn sc__law_draw rfl fun cdv A outer s H E hr tk hp =>
    sss_cons (ss_if (st_cmp (d_ge) (se_var 0) (se_op d_pow (se_int) (se_int)) (nomark _)) (sss_cons (ss_set nd (se_var 0))
     (sss_cons (ss_for hp rfl (si_range1 (B.at 10) (sa_cons (se_var 1) (sa_nil))) (pg_name (i := 4) nd rfl (by first | exact Or.inl rfl | exact Or.inr rfl)) (tg_name 4) (sss_one (ss_set nd (se_op d_div (se_var 3) (se_op d_pow (se_int) (se_int))))))
     (sss_one (ss_if (st_cmp (d_gt) (se_var 3) (se_int) (nomark _)) (sss_one (ss_ret (se_op d_mod (se_op d_mod (se_var 3) (se_op d_pow (se_int) (se_int))) (se_var 2)))) (sss_nil))))) (sss_nil))
    (sss_cons (ss_set nd (se_op d_mod (se_op d_mul (se_op d_add (se_op d_add (se_op d_add (se_op d_mod (se_var 0) (se_int)) (se_op d_mul (se_op d_mul (se_int) (se_var 1)) (se_var 1))) (se_op d_mul (se_int) (se_var 1))) (se_int)) (se_int)) (se_int)))
    (sss_cons (ss_set nd (se_op d_mod (se_op d_add (se_op d_add (se_op d_mul (se_var 5) (se_var 5)) (se_op d_mul (se_int) (se_var 1))) (se_int)) (se_int)))
    (sss_one (ss_ret (se_op d_mod (se_op d_mod (se_op d_mul (se_var 5) (se_var 5)) (se_int)) (se_var 2))))))
theorem cal__law_draw (B : Blts mg blts) (M : Facts K mg)  (Fn : FunD K "_law_draw" "_law_draw" (defArgs s__law_draw) (defBody s__law_draw) (defScope s__law_draw) [] [] f fd) (hm : mg "_law_draw" = some (.ref f)) : Cal P w K mg base "_law_draw" 1 3 f__law_draw :=
  cal_mk (N := N__law_draw) (ps := ["_law_cell", "_law_k", "_law_many"]) Fn hm (fun _ _ _ _ _ _ us hl => match us, hl with | [_, _, _], _ => rfl) (ok__law_draw B M  Fn)
theorem ok__law_drawn_row (B : Blts mg blts) (M : Facts K mg) (C__law_draw : Cal P w K mg base "_law_draw" 1 3 f__law_draw) (Fn : FunD K "_law_drawn_row" "_law_drawn_row" (defArgs s__law_drawn_row) (defBody s__law_drawn_row) (defScope s__law_drawn_row) [] [] f fd) : FnOk P w K mg base (L2.CX P w) 2 f fd ["_law_cell", "_law_number", "_law_dials"] (spD K 3 f__law_drawn_row) :=
  have nd := (sc__law_drawn_row).nd
  ok_def (N := N__law_drawn_row) Fn sc__law_drawn_row rfl fun cdv A outer s H E hr tk hp =>
    sss_cons (ss_set nd (se_callC C__law_draw tk (hr.mono (by decide)) (sa_cons (se_var 0) (sa_cons (se_int) (sa_cons (se_int) (sa_nil))))))
    (sss_cons (ss_if (st_val (se_var 2)) (sss_one (ss_set nd (se_int))) (sss_nil))
    (sss_cons (ss_if (st_cmp (d_lt) (se_var 3) (se_int) (nomark _)) (sss_cons (ss_set nd (se_ix d_ix (se_lst (sa_cons (se_var 1) (sa_cons (se_op d_add (se_var 1) (se_int)) (sa_cons (se_blt (d_max2 rfl) (B.at 6) (sa_cons (se_int) (sa_cons (se_op d_sub (se_var 1) (se_int)) (sa_nil)))) (sa_cons (se_int) (sa_nil)))))) (se_callC C__law_draw tk (hr.mono (by decide)) (sa_cons (se_var 0) (sa_cons (se_int) (sa_cons (se_int) (sa_nil)))))))
     (sss_one (ss_ret (se_tup (sa_cons (se_str) (sa_cons (se_var 4) (sa_cons (se_op d_add (se_op d_add (se_str) (se_bty d_strI (B.at 9) (sa_cons (se_var 4) (sa_nil)))) (se_str)) (sa_nil)))))))) (sss_nil))
    (sss_cons (ss_set nd (se_op d_add (se_ix d_ix (se_str) (se_callC C__law_draw tk (hr.mono (by decide)) (sa_cons (se_var 0) (sa_cons (se_int) (sa_cons (se_int) (sa_nil)))))) (se_op d_mulS (se_ix d_ix (se_str) (se_callC C__law_draw tk (hr.mono (by decide)) (sa_cons (se_var 0) (sa_cons (se_int) (sa_cons (se_int) (sa_nil)))))) (se_bty d_int (B.at 2) (sa_cons (se_cmp (d_gt) (se_var 3) (se_int) (nomark _)) (sa_nil))))))
    (sss_cons (ss_set nd (se_op d_add (se_bty d_strI (B.at 9) (sa_cons (se_callC C__law_draw tk (hr.mono (by decide)) (sa_cons (se_var 0) (sa_cons (se_int) (sa_cons (se_int) (sa_nil))))) (sa_nil))) (se_str)))
    (sss_cons (ss_set nd (se_cmp (d_eq hr.units) (se_callC C__law_draw tk (hr.mono (by decide)) (sa_cons (se_var 0) (sa_cons (se_int) (sa_cons (se_int) (sa_nil))))) (se_int) (nomark _)))
    (sss_cons (ss_set nd (se_ix d_ix (se_lst (sa_cons (se_str) (sa_cons (se_str) (sa_nil)))) (se_bty d_int (B.at 2) (sa_cons (se_var 7) (sa_nil)))))
    (sss_cons (ss_if (st_cmp (d_lt) (se_var 3) (se_int) (nomark _)) (sss_one (ss_ret (se_tup (sa_cons (se_str) (sa_cons (se_tup (sa_cons (se_var 5) (sa_cons (se_var 7) (sa_nil)))) (sa_cons (se_op d_add (se_op d_add (se_op d_add (se_op d_add (se_str) (se_var 5)) (se_str)) (se_var 6)) (se_var 8)) (sa_nil))))))) (sss_nil))
    (sss_cons (ss_set nd (se_callC C__law_draw tk (hr.mono (by decide)) (sa_cons (se_var 0) (sa_cons (se_int) (sa_cons (se_int) (sa_nil))))))
    (sss_cons (ss_set nd (se_ix d_ix (se_lst (sa_cons (se_str) (sa_cons (se_str) (sa_cons (se_str) (sa_nil))))) (se_ix d_ix (se_lst (sa_cons (se_int) (sa_cons (se_int) (sa_cons (se_int) (sa_cons (se_int) (sa_cons (se_int) (sa_cons (se_int) (sa_cons (se_int) (sa_cons (se_int) (sa_cons (se_int) (sa_nil))))))))))) (se_var 9))))
    (sss_one (ss_ret (se_tup (sa_cons (se_str) (sa_cons (se_tup (sa_cons (se_var 5) (sa_cons (se_or (se_var 7) (se_one (se_cmp (d_gt) (se_var 9) (se_int) (nomark _)))) (sa_nil)))) (sa_cons (se_op d_add (se_op d_add (se_op d_add (se_op d_add (se_op d_add (se_op d_add (se_str) (se_var 5)) (se_str)) (se_var 6)) (se_var 8)) (se_str)) (se_var 10)) (sa_nil))))))))))))))))
theorem cal__law_drawn_row (B : Blts mg blts) (M : Facts K mg) (C__law_draw : Cal P w K mg base "_law_draw" 1 3 f__law_draw) (Fn : FunD K "_law_drawn_row" "_law_drawn_row" (defArgs s__law_drawn_row) (defBody s__law_drawn_row) (defScope s__law_drawn_row) [] [] f fd) (hm : mg "_law_drawn_row" = some (.ref f)) : Cal P w K mg base "_law_drawn_row" 2 3 f__law_drawn_row :=
  cal_mk (N := N__law_drawn_row) (ps := ["_law_cell", "_law_number", "_law_dials"]) Fn hm (fun _ _ _ _ _ _ us hl => match us, hl with | [_, _, _], _ => rfl) (ok__law_drawn_row B M C__law_draw Fn)
theorem ok__law_rows (B : Blts mg blts) (M : Facts K mg) (C__law_cell_at : Cal P w K mg base "_law_cell_at" 1 2 f__law_cell_at) (C__law_draw : Cal P w K mg base "_law_draw" 1 3 f__law_draw) (C__law_drawn_row : Cal P w K mg base "_law_drawn_row" 2 3 f__law_drawn_row) (Fn : FunD K "_law_rows" "_law_rows" (defArgs s__law_rows) (defBody s__law_rows) (defScope s__law_rows) [] [] f fd) : FnOk P w K mg base (L2.CX P w) 3 f fd ["_law_script"] (spD K 1 f__law_rows) :=
  have nd := (sc__law_rows).nd
  ok_def (N := N__law_rows) Fn sc__law_rows rfl fun cdv A outer s H E hr tk hp =>
    sss_cons (ss_set nd (se_callC C__law_cell_at tk (hr.mono (by decide)) (sa_cons (se_var 0) (sa_cons (se_int) (sa_nil)))))
    (sss_cons (ss_own nd (sa_nil))
    (sss_cons (ss_for hp rfl (si_range1 (B.at 10) (sa_cons (se_ix d_ix (se_lst (sa_cons (se_int) (sa_cons (se_int) (sa_cons (se_op d_add (se_int) (se_callC C__law_draw tk (hr.mono (by decide)) (sa_cons (se_var 1) (sa_cons (se_int) (sa_cons (se_int) (sa_nil)))))) (sa_cons (se_int) (sa_nil)))))) (se_callC C__law_draw tk (hr.mono (by decide)) (sa_cons (se_var 1) (sa_cons (se_int) (sa_cons (se_int) (sa_nil)))))) (sa_nil))) (pg_name (i := 3) nd rfl (by first | exact Or.inl rfl | exact Or.inr rfl)) (tg_name 3) (sss_one (ss_app 2 (se_tup (sa_cons (se_str) (sa_cons (se_var 3) (sa_cons (se_op d_add (se_op d_add (se_str) (se_bty d_strI (B.at 9) (sa_cons (se_var 3) (sa_nil)))) (se_str)) (sa_nil))))))))
    (sss_cons (ss_for hp rfl (si_range1 (B.at 10) (sa_cons (se_ix d_ix (se_lst (sa_cons (se_int) (sa_cons (se_int) (sa_cons (se_op d_add (se_int) (se_callC C__law_draw tk (hr.mono (by decide)) (sa_cons (se_var 1) (sa_cons (se_int) (sa_cons (se_int) (sa_nil)))))) (sa_nil))))) (se_callC C__law_draw tk (hr.mono (by decide)) (sa_cons (se_var 1) (sa_cons (se_int) (sa_cons (se_int) (sa_nil)))))) (sa_nil))) (pg_name (i := 3) nd rfl (by first | exact Or.inl rfl | exact Or.inr rfl)) (tg_name 3) (sss_cons (ss_set nd (se_op d_add (se_str) (se_ix d_ix (se_str) (se_var 3))))
     (sss_one (ss_app 2 (se_tup (sa_cons (se_str) (sa_cons (se_tup (sa_cons (se_var 4) (sa_cons (se_bl) (sa_nil)))) (sa_cons (se_op d_add (se_op d_add (se_str) (se_var 4)) (se_str)) (sa_nil)))))))))
    (sss_cons (ss_set nd (se_cmp (d_eq hr.units) (se_callC C__law_draw tk (hr.mono (by decide)) (sa_cons (se_var 1) (sa_cons (se_int) (sa_cons (se_int) (sa_nil))))) (se_int) (nomark _)))
    (sss_cons (ss_for hp rfl (si_enum (B.at 8) (sa_cons (se_slice (se_var 0) (so_some (se_int)) (so_some (se_int))) (sa_nil))) (pg_seq rfl (pgs_cons (pg_name (i := 3) nd rfl (by first | exact Or.inl rfl | exact Or.inr rfl)) (pgs_cons (pg_name (i := 6) nd rfl (by first | exact Or.inl rfl | exact Or.inr rfl)) (pgs_nil)))) (tg_seq (tgs_cons (tg_name 3) (tgs_cons (tg_name 6) (tgs_nil)))) (sss_one (ss_app 2 (se_callC C__law_drawn_row tk (hr.mono (by decide)) (sa_cons (se_var 6) (sa_cons (se_peek 2 (se_blt d_len (B.at 3) (sa_cons (se_var 2) (sa_nil)))) (sa_cons (se_var 5) (sa_nil))))))))
    (sss_cons (ss_set nd (se_lst (sa_cons (se_str) (sa_cons (se_str) (sa_cons (se_str) (sa_cons (se_str) (sa_cons (se_str) (sa_cons (se_str) (sa_cons (se_str) (sa_cons (se_str) (sa_nil)))))))))))
    (sss_cons (ss_for hp rfl (si_range1 (B.at 10) (sa_cons (se_callC C__law_draw tk (hr.mono (by decide)) (sa_cons (se_var 1) (sa_cons (se_int) (sa_cons (se_int) (sa_nil))))) (sa_nil))) (pg_name (i := 3) nd rfl (by first | exact Or.inl rfl | exact Or.inr rfl)) (tg_name 3) (sss_cons (ss_set nd (se_callC C__law_draw tk (hr.mono (by decide)) (sa_cons (se_var 1) (sa_cons (se_op d_add (se_int) (se_op d_mul (se_int) (se_var 3))) (sa_cons (se_op d_add (se_peek 2 (se_blt d_len (B.at 3) (sa_cons (se_var 2) (sa_nil)))) (se_int)) (sa_nil))))))
     (sss_one (ss_insO 2 (se_var 8) (se_tup (sa_cons (se_str) (sa_cons (se_non) (sa_cons (se_ix d_ix (se_var 7) (se_callC C__law_draw tk (hr.mono (by decide)) (sa_cons (se_var 1) (sa_cons (se_op d_add (se_int) (se_op d_mul (se_int) (se_var 3))) (sa_cons (se_blt d_len (B.at 3) (sa_cons (se_var 7) (sa_nil))) (sa_nil)))))) (sa_nil)))))))))
    (sss_one (ss_freeze 2 (ss_ret (se_var 2)))))))))))
theorem cal__law_rows (B : Blts mg blts) (M : Facts K mg) (C__law_cell_at : Cal P w K mg base "_law_cell_at" 1 2 f__law_cell_at) (C__law_draw : Cal P w K mg base "_law_draw" 1 3 f__law_draw) (C__law_drawn_row : Cal P w K mg base "_law_drawn_row" 2 3 f__law_drawn_row) (Fn : FunD K "_law_rows" "_law_rows" (defArgs s__law_rows) (defBody s__law_rows) (defScope s__law_rows) [] [] f fd) (hm : mg "_law_rows" = some (.ref f)) : Cal P w K mg base "_law_rows" 3 1 f__law_rows :=
  cal_mk (N := N__law_rows) (ps := ["_law_script"]) Fn hm (fun _ _ _ _ _ _ us hl => match us, hl with | [_], _ => rfl) (ok__law_rows B M C__law_cell_at C__law_draw C__law_drawn_row Fn)
theorem ok__law_first_bad (B : Blts mg blts) (M : Facts K mg)  (Fn : FunD K "_law_first_bad" "_law_first_bad" (defArgs s__law_first_bad) (defBody s__law_first_bad) (defScope s__law_first_bad) [] [] f fd) : FnOk P w K mg base (L2.CX P w) 1 f fd ["_law_rows_here"] (spD K 1 f__law_first_bad) :=
  have nd := (sc__law_first_bad).nd
  ok_def (N := N__law_first_bad) Fn sc__law_first_bad rfl fun cdv A outer s H E hr tk hp =>
    sss_cons (ss_set nd (se_un d_neg (se_int)))
    (sss_cons (ss_own nd (sa_nil))
    (sss_cons (ss_ownK nd (dp_cons (se_int) (dp_cons (se_int) (dp_cons (se_int) (dp_nil)))))
    (sss_cons (ss_for hp rfl (si_range1 (B.at 10) (sa_cons (se_blt d_len (B.at 3) (sa_cons (se_var 0) (sa_nil))) (sa_nil))) (pg_name (i := 4) nd rfl (by first | exact Or.inl rfl | exact Or.inr rfl)) (tg_name 4) (sss_cons (ss_asg (se_ix d_ix (se_var 0) (se_var 4)) (pg_seq rfl (pgs_cons (pg_name (i := 5) nd rfl (by first | exact Or.inl rfl | exact Or.inr rfl)) (pgs_cons (pg_name (i := 6) nd rfl (by first | exact Or.inl rfl | exact Or.inr rfl)) (pgs_cons (pg_name (i := 7) nd rfl (by first | exact Or.inl rfl | exact Or.inr rfl)) (pgs_nil))))) (tg_seq (tgs_cons (tg_name 5) (tgs_cons (tg_name 6) (tgs_cons (tg_name 7) (tgs_nil))))))
     (sss_cons (ss_if (st_cmp (d_eq hr.units) (se_var 5) (se_str) (nomark _)) (sss_one (ss_ret (se_var 4))) (sss_nil))
     (sss_cons (ss_putK 3 hr.units (se_op d_add (se_ixK 3 hr.units (se_var 5)) (se_int)) (se_var 5))
     (sss_one (ss_if (st_cmp (d_eq hr.units) (se_var 5) (se_str) (nomark _)) (sss_cons (ss_if (st_bool (sw_or (st_peek 2 (st_cmp (d_ne hr.units) (se_var 2) (se_lst (sa_nil)) (nomark _))) (sw_or (st_cmp (d_le) (se_var 6) (se_var 1) (nomark _)) (sw_or1 (st_cmp (d_gt) (se_ixK 3 hr.units (se_str)) (se_int) (nomark _)))))) (sss_one (ss_ret (se_var 4))) (sss_nil))
      (sss_one (ss_set nd (se_var 6)))) (sss_cons (ss_if (st_bool (sw_or (st_cmp (d_eq hr.units) (se_ixK 3 hr.units (se_str)) (se_int) (nomark _)) (sw_or (st_peek 2 (st_cmp (d_inX) (se_ix d_ix (se_var 6) (se_int)) (se_var 2) (by rfl))) (sw_or (st_val (se_ix d_ix (se_var 6) (se_int))) (sw_or1 (st_cmp (d_gt) (se_ixK 3 hr.units (se_var 5)) (se_int) (nomark _))))))) (sss_one (ss_ret (se_var 4))) (sss_nil))
      (sss_cons (ss_if (st_bool (sw_and (st_cmp (d_eq hr.units) (se_var 5) (se_str) (nomark _)) (sw_and1 (st_cmp (d_gt) (se_ixK 3 hr.units (se_str)) (se_int) (nomark _))))) (sss_one (ss_ret (se_var 4))) (sss_nil))
      (sss_one (ss_app 2 (se_ix d_ix (se_var 6) (se_int))))))))))))
    (sss_one (ss_ret (se_non))))))
theorem cal__law_first_bad (B : Blts mg blts) (M : Facts K mg)  (Fn : FunD K "_law_first_bad" "_law_first_bad" (defArgs s__law_first_bad) (defBody s__law_first_bad) (defScope s__law_first_bad) [] [] f fd) (hm : mg "_law_first_bad" = some (.ref f)) : Cal P w K mg base "_law_first_bad" 1 1 f__law_first_bad :=
  cal_mk (N := N__law_first_bad) (ps := ["_law_rows_here"]) Fn hm (fun _ _ _ _ _ _ us hl => match us, hl with | [_], _ => rfl) (ok__law_first_bad B M  Fn)
theorem ok__law_refused (B : Blts mg blts) (M : Facts K mg) (C_read_yard : CalT P w K mg base "read_yard" 9 1 f_read_yard) (Fn : FunD K "_law_refused" "_law_refused" (defArgs s__law_refused) (defBody s__law_refused) (defScope s__law_refused) [] [] f fd) : FnOk P w K mg base (L2.CX P w) 10 f fd ["_law_thing"] (spD K 1 f__law_refused) :=
  have nd := (sc__law_refused).nd
  ok_def (N := N__law_refused) Fn sc__law_refused rfl fun cdv A outer s H E hr tk hp =>
    sss_cons (ss_set nd (se_non))
    (sss_cons (ss_tryAs M.xf nd tk (fun W pn xe tk hp => sss_one (ss_expr (se_callK C_read_yard tk (hr.mono (by decide)) (sa_cons (se_var 0) (sa_nil))))) (fun a pn => sss_one (ss_set nd (se_var 2))))
    (sss_cons (ss_if (st_bool (sw_or (st_not (st_val (se_blt (d_isx M.xf) (B.at 1) (sa_cons (se_var 1) (sa_cons (se_gcls M.glo_NoRow) (sa_nil)))))) (sw_or1 (st_not (st_val (se_blt (d_isx M.xf) (B.at 1) (sa_cons (se_var 1) (sa_cons (se_ty (B.at 11)) (sa_nil))))))))) (sss_one (ss_ret (se_non))) (sss_nil))
    (sss_cons (ss_if (st_val (se_blt (d_isx M.xf) (B.at 1) (sa_cons (se_var 1) (sa_cons (se_tup (sa_cons (se_gcls M.glo_NoBack) (sa_cons (se_gcls M.glo_NoHour) (sa_cons (se_gcls M.glo_NoName) (sa_cons (se_gcls M.glo_NoNumber) (sa_cons (se_gcls M.glo_NoPlate) (sa_cons (se_gcls M.glo_NoSay) (sa_cons (se_gcls M.glo_NoSun) (sa_cons (se_gcls M.glo_NotLit) (sa_cons (se_gcls M.glo_NoYard) (sa_cons (se_gcls M.glo_TooMany) (sa_nil)))))))))))) (sa_nil))))) (sss_one (ss_ret (se_non))) (sss_nil))
    (sss_cons (ss_if (st_bool (sw_or (st_not (st_val (se_blt d_isi (B.at 1) (sa_cons (se_xat M.xf M.na_row (se_var 1)) (sa_cons (se_ty (B.at 2)) (sa_nil)))))) (sw_or1 (st_val (se_blt d_isi (B.at 1) (sa_cons (se_xat M.xf M.na_row (se_var 1)) (sa_cons (se_ty (B.at 0)) (sa_nil)))))))) (sss_one (ss_ret (se_non))) (sss_nil))
    (sss_one (ss_ret (se_xat M.xf M.na_row (se_var 1))))))))
theorem cal__law_refused (B : Blts mg blts) (M : Facts K mg) (C_read_yard : CalT P w K mg base "read_yard" 9 1 f_read_yard) (Fn : FunD K "_law_refused" "_law_refused" (defArgs s__law_refused) (defBody s__law_refused) (defScope s__law_refused) [] [] f fd) (hm : mg "_law_refused" = some (.ref f)) : Cal P w K mg base "_law_refused" 10 1 f__law_refused :=
  cal_mk (N := N__law_refused) (ps := ["_law_thing"]) Fn hm (fun _ _ _ _ _ _ us hl => match us, hl with | [_], _ => rfl) (ok__law_refused B M C_read_yard Fn)
theorem ok_law (B : Blts mg blts) (M : Facts K mg) (C__law_rows : Cal P w K mg base "_law_rows" 3 1 f__law_rows) (C__law_first_bad : Cal P w K mg base "_law_first_bad" 1 1 f__law_first_bad) (C__law_refused : Cal P w K mg base "_law_refused" 10 1 f__law_refused) (C_read_yard : CalT P w K mg base "read_yard" 9 1 f_read_yard) (Fn : FunD K "law" "law" (defArgs s_law) (defBody s_law) (defScope s_law) [] [] f fd) : FnOk P w K mg base (L2.CX P w) 11 f fd ["_law_script"] (spD K 1 f_law) :=
  have nd := (sc_law).nd
  ok_def (N := N_law) Fn sc_law rfl fun cdv A outer s H E hr tk hp =>
    sss_cons (ss_set nd (se_callC C__law_rows tk (hr.mono (by decide)) (sa_cons (se_var 0) (sa_nil))))
    (sss_cons (ss_set nd (se_callC C__law_first_bad tk (hr.mono (by decide)) (sa_cons (se_var 1) (sa_nil))))
    (sss_cons (ss_if (st_cmp (d_eq hr.units) (se_var 1) (se_lst (sa_nil)) (nomark _)) (sss_one (ss_set nd (se_int))) (sss_nil))
    (sss_cons (ss_set nd (se_join (se_str) (se_comp (own := [("_law_row", 5)]) rfl nd (blkOk_by (N := N_law) (sc := defScope s_law) (by decide +kernel)) (si_any (se_var 1)) (tg_name 5) (fun _ _ _ _ _ => pg_name (i := 5) nd rfl (by first | exact Or.inl rfl | exact Or.inr rfl)) (fun _ _ _ _ _ => sif_nil) (fun _ _ _ _ _ => se_ix d_ix (se_var 5) (se_int)))))
    (sss_cons (ss_if (st_cmp (d_notN) (se_var 2) (se_non) (nomark _)) (sss_one (ss_ret (se_cmp (d_eq hr.units) (se_callC C__law_refused tk (hr.mono (by decide)) (sa_cons (se_var 3) (sa_nil))) (se_var 2) (nomark _)))) (sss_nil))
    (sss_cons (ss_set nd (se_callK C_read_yard tk (hr.mono (by decide)) (sa_cons (se_var 3) (sa_nil))))
    (sss_cons (ss_if (st_cmp (d_ne hr.units) (se_comp (own := [("_law_hour", 6), ("_law_direction", 7)]) rfl nd (blkOk_by (N := N_law) (sc := defScope s_law) (by decide +kernel)) (si_any (se_ix d_ix (se_var 4) (se_int))) (tg_seq (tgs_cons (tg_name 6) (tgs_cons (tg_name 7) (tgs_nil)))) (fun _ _ _ _ _ => pg_seq rfl (pgs_cons (pg_name (i := 6) nd rfl (by first | exact Or.inl rfl | exact Or.inr rfl)) (pgs_cons (pg_name (i := 7) nd rfl (by first | exact Or.inl rfl | exact Or.inr rfl)) (pgs_nil)))) (fun _ _ _ _ _ => sif_nil) (fun _ _ _ _ _ => se_var 6)) (se_comp (own := [("_law_row", 5)]) rfl nd (blkOk_by (N := N_law) (sc := defScope s_law) (by decide +kernel)) (si_any (se_var 1)) (tg_name 5) (fun _ _ _ _ _ => pg_name (i := 5) nd rfl (by first | exact Or.inl rfl | exact Or.inr rfl)) (fun _ _ _ _ _ => sif_one (st_cmp (d_eq hr.units) (se_ix d_ix (se_var 5) (se_int)) (se_str) (nomark _))) (fun _ _ _ _ _ => se_ix d_ix (se_var 5) (se_int))) (nomark _)) (sss_one (ss_ret (se_bl))) (sss_nil))
    (sss_cons (ss_if (st_cmp (d_ne hr.units) (se_comp (own := [("_law_shut", 8)]) rfl nd (blkOk_by (N := N_law) (sc := defScope s_law) (by decide +kernel)) (si_any (se_ix d_ix (se_var 4) (se_int))) (tg_name 8) (fun _ _ _ _ _ => pg_name (i := 8) nd rfl (by first | exact Or.inl rfl | exact Or.inr rfl)) (fun _ _ _ _ _ => sif_nil) (fun _ _ _ _ _ => se_ix d_ix (se_var 8) (se_int))) (se_comp (own := [("_law_row", 5)]) rfl nd (blkOk_by (N := N_law) (sc := defScope s_law) (by decide +kernel)) (si_any (se_var 1)) (tg_name 5) (fun _ _ _ _ _ => pg_name (i := 5) nd rfl (by first | exact Or.inl rfl | exact Or.inr rfl)) (fun _ _ _ _ _ => sif_one (st_cmp (d_eq hr.units) (se_ix d_ix (se_var 5) (se_int)) (se_str) (nomark _))) (fun _ _ _ _ _ => se_ix d_ix (se_ix d_ix (se_var 5) (se_int)) (se_int))) (nomark _)) (sss_one (ss_ret (se_bl))) (sss_nil))
    (sss_one (ss_ret (se_cmp (d_eq hr.units) (se_comp (own := [("_law_dial", 9)]) rfl nd (blkOk_by (N := N_law) (sc := defScope s_law) (by decide +kernel)) (si_any (se_ix d_ix (se_var 4) (se_int))) (tg_name 9) (fun _ _ _ _ _ => pg_name (i := 9) nd rfl (by first | exact Or.inl rfl | exact Or.inr rfl)) (fun _ _ _ _ _ => sif_nil) (fun _ _ _ _ _ => se_ix d_ix (se_var 9) (se_int))) (se_comp (own := [("_law_row", 5)]) rfl nd (blkOk_by (N := N_law) (sc := defScope s_law) (by decide +kernel)) (si_any (se_var 1)) (tg_name 5) (fun _ _ _ _ _ => pg_name (i := 5) nd rfl (by first | exact Or.inl rfl | exact Or.inr rfl)) (fun _ _ _ _ _ => sif_one (st_cmp (d_eq hr.units) (se_ix d_ix (se_var 5) (se_int)) (se_str) (nomark _))) (fun _ _ _ _ _ => se_ix d_ix (se_ix d_ix (se_var 5) (se_int)) (se_int))) (nomark _)))))))))))
end
/-! ### the head -/
def d_is_whole : He.DefD := ⟨("is_whole", none), "is_whole", "is_whole", defArgs s_is_whole, defBody s_is_whole, defScope s_is_whole, [], []⟩
def d_is_triple : He.DefD := ⟨("is_triple", none), "is_triple", "is_triple", defArgs s_is_triple, defBody s_is_triple, defScope s_is_triple, [], []⟩
def d_triple_less : He.DefD := ⟨("triple_less", none), "triple_less", "triple_less", defArgs s_triple_less, defBody s_triple_less, defScope s_triple_less, [], []⟩
def d_dot_of : He.DefD := ⟨("dot_of", none), "dot_of", "dot_of", defArgs s_dot_of, defBody s_dot_of, defScope s_dot_of, [], []⟩
def d_cross_of : He.DefD := ⟨("cross_of", none), "cross_of", "cross_of", defArgs s_cross_of, defBody s_cross_of, defScope s_cross_of, [], []⟩
def d_is_near_suns : He.DefD := ⟨("is_near_suns", none), "is_near", "is_near", defArgs s_is_near_suns, defBody s_is_near_suns, defScope s_is_near_suns, [], []⟩
def d_is_direction : He.DefD := ⟨("is_direction", none), "is_direction", "is_direction", defArgs s_is_direction, defBody s_is_direction, defScope s_is_direction, [], []⟩
def d_is_hour_row : He.DefD := ⟨("is_hour_row", none), "is_hour_row", "is_hour_row", defArgs s_is_hour_row, defBody s_is_hour_row, defScope s_is_hour_row, [], []⟩
def d_look_at_sun : He.DefD := ⟨("look_at_sun", none), "look_at_sun", "look_at_sun", defArgs s_look_at_sun, defBody s_look_at_sun, defScope s_look_at_sun, [], []⟩
def d_is_near_plates : He.DefD := ⟨("is_near_plates", none), "is_near", "is_near", defArgs s_is_near_plates, defBody s_is_near_plates, defScope s_is_near_plates, [], []⟩
def d_look_at_plate : He.DefD := ⟨("look_at_plate", none), "look_at_plate", "look_at_plate", defArgs s_look_at_plate, defBody s_look_at_plate, defScope s_look_at_plate, [], []⟩
def d_front_of : He.DefD := ⟨("front_of", none), "front_of", "front_of", defArgs s_front_of, defBody s_front_of, defScope s_front_of, [], []⟩
def d_is_ahead : He.DefD := ⟨("is_ahead", none), "is_ahead", "is_ahead", defArgs s_is_ahead, defBody s_is_ahead, defScope s_is_ahead, [], []⟩
def d_is_name : He.DefD := ⟨("is_name", none), "is_name", "is_name", defArgs s_is_name, defBody s_is_name, defScope s_is_name, [], []⟩
def d_is_plate : He.DefD := ⟨("is_plate", none), "is_plate", "is_plate", defArgs s_is_plate, defBody s_is_plate, defScope s_is_plate, [], []⟩
def d_has_tip : He.DefD := ⟨("has_tip", none), "has_tip", "has_tip", defArgs s_has_tip, defBody s_has_tip, defScope s_has_tip, [], []⟩
def d_look_at_things : He.DefD := ⟨("look_at_things", none), "look_at_things", "look_at_things", defArgs s_look_at_things, defBody s_look_at_things, defScope s_look_at_things, [], []⟩
def d_look_at_yard : He.DefD := ⟨("look_at_yard", none), "look_at_yard", "look_at_yard", defArgs s_look_at_yard, defBody s_look_at_yard, defScope s_look_at_yard, [], []⟩
def d_number_in : He.DefD := ⟨("number_in", none), "number_in", "number_in", defArgs s_number_in, defBody s_number_in, defScope s_number_in, [], []⟩
def d_triples_in : He.DefD := ⟨("triples_in", none), "triples_in", "triples_in", defArgs s_triples_in, defBody s_triples_in, defScope s_triples_in, [], []⟩
def d_Paper___init__ : He.DefD := ⟨("Paper", some "__init__"), "__init__", "Paper.__init__", defArgs s_Paper___init__, defBody s_Paper___init__, defScope s_Paper___init__, [], []⟩
def d_Paper_took_hour : He.DefD := ⟨("Paper", some "took_hour"), "took_hour", "Paper.took_hour", defArgs s_Paper_took_hour, defBody s_Paper_took_hour, defScope s_Paper_took_hour, [], []⟩
def d_Paper_took_wall : He.DefD := ⟨("Paper", some "took_wall"), "took_wall", "Paper.took_wall", defArgs s_Paper_took_wall, defBody s_Paper_took_wall, defScope s_Paper_took_wall, [], []⟩
def d_Paper_took_dial : He.DefD := ⟨("Paper", some "took_dial"), "took_dial", "Paper.took_dial", defArgs s_Paper_took_dial, defBody s_Paper_took_dial, defScope s_Paper_took_dial, [], []⟩
def d_Paper_took : He.DefD := ⟨("Paper", some "took"), "took", "Paper.took", defArgs s_Paper_took, defBody s_Paper_took, defScope s_Paper_took, [], []⟩
def d_Paper_stands : He.DefD := ⟨("Paper", some "stands"), "stands", "Paper.stands", defArgs s_Paper_stands, defBody s_Paper_stands, defScope s_Paper_stands, [], []⟩
def d_read_yard : He.DefD := ⟨("read_yard", none), "read_yard", "read_yard", defArgs s_read_yard, defBody s_read_yard, defScope s_read_yard, [], []⟩
def d__law_cell_at : He.DefD := ⟨("_law_cell_at", none), "_law_cell_at", "_law_cell_at", defArgs s__law_cell_at, defBody s__law_cell_at, defScope s__law_cell_at, [], []⟩
def d__law_draw : He.DefD := ⟨("_law_draw", none), "_law_draw", "_law_draw", defArgs s__law_draw, defBody s__law_draw, defScope s__law_draw, [], []⟩
def d__law_drawn_row : He.DefD := ⟨("_law_drawn_row", none), "_law_drawn_row", "_law_drawn_row", defArgs s__law_drawn_row, defBody s__law_drawn_row, defScope s__law_drawn_row, [], []⟩
def d__law_rows : He.DefD := ⟨("_law_rows", none), "_law_rows", "_law_rows", defArgs s__law_rows, defBody s__law_rows, defScope s__law_rows, [], []⟩
def d__law_first_bad : He.DefD := ⟨("_law_first_bad", none), "_law_first_bad", "_law_first_bad", defArgs s__law_first_bad, defBody s__law_first_bad, defScope s__law_first_bad, [], []⟩
def d__law_refused : He.DefD := ⟨("_law_refused", none), "_law_refused", "_law_refused", defArgs s__law_refused, defBody s__law_refused, defScope s__law_refused, [], []⟩
def d_law : He.DefD := ⟨("law", none), "law", "law", defArgs s_law, defBody s_law, defScope s_law, [], []⟩
def di_NoSun : He.DefD := ⟨("NoSun", some "__init__"), "__init__", "NoSun.__init__", defArgs si_NoSun, defBody si_NoSun, defScope si_NoSun, [], []⟩
def di_NoYard : He.DefD := ⟨("NoYard", some "__init__"), "__init__", "NoYard.__init__", defArgs si_NoYard, defBody si_NoYard, defScope si_NoYard, [], []⟩
def di_NoRow : He.DefD := ⟨("NoRow", some "__init__"), "__init__", "NoRow.__init__", defArgs si_NoRow, defBody si_NoRow, defScope si_NoRow, [], []⟩
def fn : List He.DefD := [d_is_whole, d_is_triple, d_triple_less, d_dot_of, d_cross_of, d_is_near_suns, d_is_direction, d_is_hour_row, d_look_at_sun, d_is_near_plates, d_look_at_plate, d_front_of, d_is_ahead, d_is_name, d_is_plate, d_has_tip, d_look_at_things, d_look_at_yard, d_number_in, d_triples_in, d_Paper___init__, d_Paper_took_hour, d_Paper_took_wall, d_Paper_took_dial, d_Paper_took, d_Paper_stands, d_read_yard, d__law_cell_at, d__law_draw, d__law_drawn_row, d__law_rows, d__law_first_bad, d__law_refused, d_law, di_NoSun, di_NoYard, di_NoRow]
def fa : List He.Fa := [.glo "is_whole", .glo "is_triple", .glo "triple_less", .glo "dot_of", .glo "cross_of", .glo "is_near_suns", .glo "is_direction", .glo "is_hour_row", .glo "look_at_sun", .glo "is_near_plates", .glo "look_at_plate", .glo "front_of", .glo "is_ahead", .glo "is_name", .glo "is_plate", .glo "has_tip", .glo "look_at_things", .glo "look_at_yard", .glo "number_in", .glo "triples_in", .mkr "Paper", .meth "Paper" "took_hour", .meth "Paper" "took_wall", .meth "Paper" "took_dial", .meth "Paper" "took", .meth "Paper" "stands", .glo "read_yard", .glo "_law_cell_at", .glo "_law_draw", .glo "_law_drawn_row", .glo "_law_rows", .glo "_law_first_bad", .glo "_law_refused", .glo "law", .free "bool", .free "isinstance", .free "int", .free "len", .free "tuple", .free "abs", .free "max", .free "list", .free "enumerate", .free "str", .free "range", .free "ValueError", .int "FAR" 1000000000, .int "MOST_HOURS" 80, .int "LAST_HOUR" 9999, .int "GREATEST" 1000000000, .int "LONGEST" 8, .int "MOST" 20, .int "MOST_FIGURES" 10, .str "LETTERS" "abcdefghijklmnopqrstuvwxyz", .str "FIGURES" "0123456789", .glo "YardError", .glo "NoNumber", .glo "NoPlate", .glo "NoSun", .glo "NoYard", .glo "NotLit", .glo "NoHour", .glo "TooMany", .glo "NoRow", .glo "NoName", .glo "NoSay", .glo "NoBack", .glo "Paper", .exc "NoPlate", .cls "Paper", .noat "Paper" "sun", .noat "Paper" "walls", .noat "Paper" "dials"]
abbrev Rw : PySem.W.OpenRow := PySem.W.OpenLaw.row PySem.Challenge.rw_dialyard_k86_rows_that_cannot_stand
def exF : PySem.W.Frag → Bool := fun K => exB xks xcs K && (yrB K (He.ga K "YardError") && (fxB K "NoSun" "at" && (fxB K "NoYard" "name" && (fxB K "NoRow" "row" && ((xks.all fun c => He.eqO (PySem.W.findIn K (.ref (He.ga K c)) "row") (some none)))))))
abbrev hk : PySem.W.Hook := hookE 4 fa fn exF
def ob (s : PySem.W.SharedT) : He.AlD := obsEG 4 fa fn exF (HandSHeadRun.getT s)
theorem ob_eq (s : PySem.W.SharedT) : ob s = hk.obs s.abs := obsEG_eq (HandSHeadRun.getT_eq s)
def loose0 : List PySem.Str := ["YardError", "NoNumber", "NoPlate", "NoSun", "NoYard", "NotLit", "NoHour", "TooMany", "NoRow", "NoName", "NoSay", "NoBack", "is_whole", "is_triple", "triple_less", "dot_of", "cross_of", "FAR", "MOST_HOURS", "LAST_HOUR", "is_near", "is_near_suns", "is_direction", "is_hour_row", "look_at_sun", "GREATEST", "is_near_plates", "look_at_plate", "front_of", "is_ahead"]
def loose1 : List PySem.Str := ["LETTERS", "LONGEST", "MOST", "is_name", "is_plate", "has_tip", "look_at_things", "look_at_yard", "FIGURES", "MOST_FIGURES", "number_in", "triples_in", "Paper", "read_yard", "_law_cell_at", "_law_draw", "_law_drawn_row", "_law_rows", "_law_first_bad", "_law_refused"]
def loose : List PySem.Str := loose0 ++ loose1
theorem run (w : World) : HandSHeadRun.RunEq Rw (PySem.W.view Rw.prog [59]) hk ob 20000 loose w := by
  intro os
  kernel_rfl
theorem blts_ok {K : PySem.W.Frag} {h : Heap} {mg : Str → Option Value} (X : K.In h) (G : h.Ns mainGlobals mg) (c : He.SaysD fa fn K) : Blts mg blts := by
  intro i x e
  match i, e with
  | 0, e => cases e; exact He.free_ok X G (c.fact 34 (f := .free "bool") rfl)
  | 1, e => cases e; exact He.free_ok X G (c.fact 35 (f := .free "isinstance") rfl)
  | 2, e => cases e; exact He.free_ok X G (c.fact 36 (f := .free "int") rfl)
  | 3, e => cases e; exact He.free_ok X G (c.fact 37 (f := .free "len") rfl)
  | 4, e => cases e; exact He.free_ok X G (c.fact 38 (f := .free "tuple") rfl)
  | 5, e => cases e; exact He.free_ok X G (c.fact 39 (f := .free "abs") rfl)
  | 6, e => cases e; exact He.free_ok X G (c.fact 40 (f := .free "max") rfl)
  | 7, e => cases e; exact He.free_ok X G (c.fact 41 (f := .free "list") rfl)
  | 8, e => cases e; exact He.free_ok X G (c.fact 42 (f := .free "enumerate") rfl)
  | 9, e => cases e; exact He.free_ok X G (c.fact 43 (f := .free "str") rfl)
  | 10, e => cases e; exact He.free_ok X G (c.fact 44 (f := .free "range") rfl)
  | 11, e => cases e; exact He.free_ok X G (c.fact 45 (f := .free "ValueError") rfl)
  | i + 12, e => exact absurd e (by simp [blts])
theorem facts_ok {K : PySem.W.Frag} {h : Heap} {mg : Str → Option Value} (X : K.In h) (G : h.Ns mainGlobals mg) (ce : SaysE fa fn exF K) : Facts K mg := by
  have c := ce.d
  refine ⟨?_, ?_, ?_, ?_, ?_, ?_, ?_, ?_, ?_, ?_, ?_, ?_, ?_, ?_, ?_, ?_, ?_, ?_, ?_, ?_, ?_, ?_, ?_, ?_, ?_, ?_⟩
  · intro i x e
    match i, e with
    | 0, e => cases e; exact He.int_ok X G (c.fact 46 (f := .int "FAR" 1000000000) rfl)
    | 1, e => cases e; exact He.int_ok X G (c.fact 47 (f := .int "MOST_HOURS" 80) rfl)
    | 2, e => cases e; exact He.int_ok X G (c.fact 48 (f := .int "LAST_HOUR" 9999) rfl)
    | 3, e => cases e; exact He.int_ok X G (c.fact 49 (f := .int "GREATEST" 1000000000) rfl)
    | 4, e => cases e; exact He.int_ok X G (c.fact 50 (f := .int "LONGEST" 8) rfl)
    | 5, e => cases e; exact He.int_ok X G (c.fact 51 (f := .int "MOST" 20) rfl)
    | 6, e => cases e; exact He.int_ok X G (c.fact 52 (f := .int "MOST_FIGURES" 10) rfl)
    | i + 7, e => exact absurd e (by simp [gints])
  · intro i x e
    match i, e with
    | 0, e => cases e; exact He.str_ok X G (c.fact 53 (f := .str "LETTERS" "abcdefghijklmnopqrstuvwxyz") rfl)
    | 1, e => cases e; exact He.str_ok X G (c.fact 54 (f := .str "FIGURES" "0123456789") rfl)
    | i + 2, e => exact absurd e (by simp [gstrs])
  · exact (He.glo_ok X G (c.fact 55 (f := .glo "YardError") rfl))
  · exact (He.glo_ok X G (c.fact 56 (f := .glo "NoNumber") rfl))
  · exact (He.glo_ok X G (c.fact 57 (f := .glo "NoPlate") rfl))
  · exact (He.glo_ok X G (c.fact 58 (f := .glo "NoSun") rfl))
  · exact (He.glo_ok X G (c.fact 59 (f := .glo "NoYard") rfl))
  · exact (He.glo_ok X G (c.fact 60 (f := .glo "NotLit") rfl))
  · exact (He.glo_ok X G (c.fact 61 (f := .glo "NoHour") rfl))
  · exact (He.glo_ok X G (c.fact 62 (f := .glo "TooMany") rfl))
  · exact (He.glo_ok X G (c.fact 63 (f := .glo "NoRow") rfl))
  · exact (He.glo_ok X G (c.fact 64 (f := .glo "NoName") rfl))
  · exact (He.glo_ok X G (c.fact 65 (f := .glo "NoSay") rfl))
  · exact (He.glo_ok X G (c.fact 66 (f := .glo "NoBack") rfl))
  · exact (He.glo_ok X G (c.fact 67 (f := .glo "Paper") rfl))
  · obtain ⟨h1, h2, h3, h4⟩ := He.exc_ok (c.fact 68 (f := .exc "NoPlate") rfl)
    exact ⟨(He.glo_ok X G (c.fact 57 (f := .glo "NoPlate") rfl)), h1, h2, h3, h4⟩
  · exact He.cls_ok (c.fact 69 (f := .cls "Paper") rfl)
  · exact He.noat_ok (c.fact 70 (f := .noat "Paper" "sun") rfl)
  · exact He.noat_ok (c.fact 71 (f := .noat "Paper" "walls") rfl)
  · exact He.noat_ok (c.fact 72 (f := .noat "Paper" "dials") rfl)
  · exact exB_ok (mg := mg) (show (exB xks xcs K) = true from (He.ba ce.ex).1) (List.forall_mem_cons.mpr ⟨(He.glo_ok X G (c.fact 55 (f := .glo "YardError") rfl)), List.forall_mem_cons.mpr ⟨(He.glo_ok X G (c.fact 56 (f := .glo "NoNumber") rfl)), List.forall_mem_cons.mpr ⟨(He.glo_ok X G (c.fact 57 (f := .glo "NoPlate") rfl)), List.forall_mem_cons.mpr ⟨(He.glo_ok X G (c.fact 58 (f := .glo "NoSun") rfl)), List.forall_mem_cons.mpr ⟨(He.glo_ok X G (c.fact 59 (f := .glo "NoYard") rfl)), List.forall_mem_cons.mpr ⟨(He.glo_ok X G (c.fact 60 (f := .glo "NotLit") rfl)), List.forall_mem_cons.mpr ⟨(He.glo_ok X G (c.fact 61 (f := .glo "NoHour") rfl)), List.forall_mem_cons.mpr ⟨(He.glo_ok X G (c.fact 62 (f := .glo "TooMany") rfl)), List.forall_mem_cons.mpr ⟨(He.glo_ok X G (c.fact 63 (f := .glo "NoRow") rfl)), List.forall_mem_cons.mpr ⟨(He.glo_ok X G (c.fact 64 (f := .glo "NoName") rfl)), List.forall_mem_cons.mpr ⟨(He.glo_ok X G (c.fact 65 (f := .glo "NoSay") rfl)), List.forall_mem_cons.mpr ⟨(He.glo_ok X G (c.fact 66 (f := .glo "NoBack") rfl)), fun _ h => absurd h List.not_mem_nil⟩⟩⟩⟩⟩⟩⟩⟩⟩⟩⟩⟩)
  · exact yrB_ok (show (yrB K (He.ga K "YardError")) = true from (He.ba (He.ba ce.ex).2).1)
  · exact fxB_ok (show (fxB K "NoSun" "at") = true from (He.ba (He.ba (He.ba ce.ex).2).2).1)
  · exact fxB_ok (show (fxB K "NoYard" "name") = true from (He.ba (He.ba (He.ba (He.ba ce.ex).2).2).2).1)
  · exact fxB_ok (show (fxB K "NoRow" "row") = true from (He.ba (He.ba (He.ba (He.ba (He.ba ce.ex).2).2).2).2).1)
  · exact fun c hc => He.eqO_ok (List.all_eq_true.mp (show ((xks.all fun c => He.eqO (PySem.W.findIn K (.ref (He.ga K c)) "row") (some none))) = true from (He.ba (He.ba (He.ba (He.ba (He.ba ce.ex).2).2).2).2).2) c hc)
theorem facts {P : Program} {w : World} {K : PySem.W.Frag} {h : Heap} {mg : Str → Option Value} {f : Addr} (X : K.In h) (G : h.Ns mainGlobals mg) (hfa : mg ("law" : Str) = some (.ref f)) (ce : SaysE fa fn exF K) :
    ∃ fd : FuncData, (∀ (s : Shared) (v : Value), BindsTo s fd ⟨[v], []⟩ [("_law_script", v)]) ∧ ∀ base : Heap, K.In base → base.Ns mainGlobals mg → FnOk P w K mg base (L2.CX P w) 11 f fd ["_law_script"] (spD K 1 f_law) := by
  have c := ce.d
  obtain ⟨fd_is_whole, F_is_whole⟩ := c.def_ 0 (d := d_is_whole) rfl
  obtain ⟨fd_is_triple, F_is_triple⟩ := c.def_ 1 (d := d_is_triple) rfl
  obtain ⟨fd_triple_less, F_triple_less⟩ := c.def_ 2 (d := d_triple_less) rfl
  obtain ⟨fd_dot_of, F_dot_of⟩ := c.def_ 3 (d := d_dot_of) rfl
  obtain ⟨fd_cross_of, F_cross_of⟩ := c.def_ 4 (d := d_cross_of) rfl
  obtain ⟨fd_is_near_suns, F_is_near_suns⟩ := c.def_ 5 (d := d_is_near_suns) rfl
  obtain ⟨fd_is_direction, F_is_direction⟩ := c.def_ 6 (d := d_is_direction) rfl
  obtain ⟨fd_is_hour_row, F_is_hour_row⟩ := c.def_ 7 (d := d_is_hour_row) rfl
  obtain ⟨fd_look_at_sun, F_look_at_sun⟩ := c.def_ 8 (d := d_look_at_sun) rfl
  obtain ⟨fd_is_near_plates, F_is_near_plates⟩ := c.def_ 9 (d := d_is_near_plates) rfl
  obtain ⟨fd_look_at_plate, F_look_at_plate⟩ := c.def_ 10 (d := d_look_at_plate) rfl
  obtain ⟨fd_front_of, F_front_of⟩ := c.def_ 11 (d := d_front_of) rfl
  obtain ⟨fd_is_ahead, F_is_ahead⟩ := c.def_ 12 (d := d_is_ahead) rfl
  obtain ⟨fd_is_name, F_is_name⟩ := c.def_ 13 (d := d_is_name) rfl
  obtain ⟨fd_is_plate, F_is_plate⟩ := c.def_ 14 (d := d_is_plate) rfl
  obtain ⟨fd_has_tip, F_has_tip⟩ := c.def_ 15 (d := d_has_tip) rfl
  obtain ⟨fd_look_at_things, F_look_at_things⟩ := c.def_ 16 (d := d_look_at_things) rfl
  obtain ⟨fd_look_at_yard, F_look_at_yard⟩ := c.def_ 17 (d := d_look_at_yard) rfl
  obtain ⟨fd_number_in, F_number_in⟩ := c.def_ 18 (d := d_number_in) rfl
  obtain ⟨fd_triples_in, F_triples_in⟩ := c.def_ 19 (d := d_triples_in) rfl
  obtain ⟨fd_Paper___init__, F_Paper___init__⟩ := c.def_ 20 (d := d_Paper___init__) rfl
  obtain ⟨fd_Paper_took_hour, F_Paper_took_hour⟩ := c.def_ 21 (d := d_Paper_took_hour) rfl
  obtain ⟨fd_Paper_took_wall, F_Paper_took_wall⟩ := c.def_ 22 (d := d_Paper_took_wall) rfl
  obtain ⟨fd_Paper_took_dial, F_Paper_took_dial⟩ := c.def_ 23 (d := d_Paper_took_dial) rfl
  obtain ⟨fd_Paper_took, F_Paper_took⟩ := c.def_ 24 (d := d_Paper_took) rfl
  obtain ⟨fd_Paper_stands, F_Paper_stands⟩ := c.def_ 25 (d := d_Paper_stands) rfl
  obtain ⟨fd_read_yard, F_read_yard⟩ := c.def_ 26 (d := d_read_yard) rfl
  obtain ⟨fd__law_cell_at, F__law_cell_at⟩ := c.def_ 27 (d := d__law_cell_at) rfl
  obtain ⟨fd__law_draw, F__law_draw⟩ := c.def_ 28 (d := d__law_draw) rfl
  obtain ⟨fd__law_drawn_row, F__law_drawn_row⟩ := c.def_ 29 (d := d__law_drawn_row) rfl
  obtain ⟨fd__law_rows, F__law_rows⟩ := c.def_ 30 (d := d__law_rows) rfl
  obtain ⟨fd__law_first_bad, F__law_first_bad⟩ := c.def_ 31 (d := d__law_first_bad) rfl
  obtain ⟨fd__law_refused, F__law_refused⟩ := c.def_ 32 (d := d__law_refused) rfl
  obtain ⟨fd_law, F_law⟩ := c.def_ 33 (d := d_law) rfl
  have e := hfa.symm.trans (He.glo_ok X G (c.fact 33 (f := .glo "law") rfl))
  cases e
  have B := blts_ok X G c
  have M : Facts K mg := facts_ok X G ce
  obtain ⟨fdi_NoSun, Fi_NoSun⟩ := c.def_ 34 (d := di_NoSun) rfl
  obtain ⟨fdi_NoYard, Fi_NoYard⟩ := c.def_ 35 (d := di_NoYard) rfl
  obtain ⟨fdi_NoRow, Fi_NoRow⟩ := c.def_ 36 (d := di_NoRow) rfl
  have b := FunD.bindsA (ps := ["_law_script"]) F_law fun _ _ _ _ _ _ us hl => match us, hl with | [_], _ => rfl
  refine ⟨fd_law, fun s v => b s [v] rfl, fun base _ _ => ?_⟩
  have I_NoSun : InC P w K mg base "NoSun" "at" := ⟨⟨_, fdi_NoSun, _, init_NoSun M Fi_NoSun, FunD.bindsN Fi_NoSun (fun _ _ _ _ _ _ us hl => match us, hl with | [_, _], _ => rfl), M.fx_NoSun.fi, M.fx_NoSun.ft⟩, M.fx_NoSun.ox, M.fx_NoSun.no, M.glo_NoSun⟩
  have I_NoYard : InC P w K mg base "NoYard" "name" := ⟨⟨_, fdi_NoYard, _, init_NoYard M Fi_NoYard, FunD.bindsN Fi_NoYard (fun _ _ _ _ _ _ us hl => match us, hl with | [_, _], _ => rfl), M.fx_NoYard.fi, M.fx_NoYard.ft⟩, M.fx_NoYard.ox, M.fx_NoYard.no, M.glo_NoYard⟩
  have I_NoRow : InC P w K mg base "NoRow" "row" := ⟨⟨_, fdi_NoRow, _, init_NoRow M Fi_NoRow, FunD.bindsN Fi_NoRow (fun _ _ _ _ _ _ us hl => match us, hl with | [_, _], _ => rfl), M.fx_NoRow.fi, M.fx_NoRow.ft⟩, M.fx_NoRow.ox, M.fx_NoRow.no, M.glo_NoRow⟩
  have C_is_whole := cal_is_whole (P := P) (w := w) (base := base) B M  F_is_whole (He.glo_ok X G (c.fact 0 (f := .glo "is_whole") rfl))
  have C_is_triple := cal_is_triple (P := P) (w := w) (base := base) B M C_is_whole F_is_triple (He.glo_ok X G (c.fact 1 (f := .glo "is_triple") rfl))
  have C_triple_less := cal_triple_less (P := P) (w := w) (base := base) B M  F_triple_less (He.glo_ok X G (c.fact 2 (f := .glo "triple_less") rfl))
  have C_dot_of := cal_dot_of (P := P) (w := w) (base := base) B M  F_dot_of (He.glo_ok X G (c.fact 3 (f := .glo "dot_of") rfl))
  have C_cross_of := cal_cross_of (P := P) (w := w) (base := base) B M  F_cross_of (He.glo_ok X G (c.fact 4 (f := .glo "cross_of") rfl))
  have C_is_near_suns := cal_is_near_suns (P := P) (w := w) (base := base) B M  F_is_near_suns (He.glo_ok X G (c.fact 5 (f := .glo "is_near_suns") rfl))
  have C_is_direction := cal_is_direction (P := P) (w := w) (base := base) B M C_is_near_suns C_is_triple F_is_direction (He.glo_ok X G (c.fact 6 (f := .glo "is_direction") rfl))
  have C_is_hour_row := cal_is_hour_row (P := P) (w := w) (base := base) B M C_is_whole C_is_direction F_is_hour_row (He.glo_ok X G (c.fact 7 (f := .glo "is_hour_row") rfl))
  have C_look_at_sun := cal_look_at_sun (P := P) (w := w) (base := base) B M I_NoSun C_is_hour_row F_look_at_sun (He.glo_ok X G (c.fact 8 (f := .glo "look_at_sun") rfl))
  have C_is_near_plates := cal_is_near_plates (P := P) (w := w) (base := base) B M C_is_triple F_is_near_plates (He.glo_ok X G (c.fact 9 (f := .glo "is_near_plates") rfl))
  have C_look_at_plate := cal_look_at_plate (P := P) (w := w) (base := base) B M C_is_near_plates C_cross_of F_look_at_plate (He.glo_ok X G (c.fact 10 (f := .glo "look_at_plate") rfl))
  have C_front_of := cal_front_of (P := P) (w := w) (base := base) B M C_cross_of F_front_of (He.glo_ok X G (c.fact 11 (f := .glo "front_of") rfl))
  have C_is_ahead := cal_is_ahead (P := P) (w := w) (base := base) B M C_dot_of C_triple_less C_front_of F_is_ahead (He.glo_ok X G (c.fact 12 (f := .glo "is_ahead") rfl))
  have C_is_name := cal_is_name (P := P) (w := w) (base := base) B M  F_is_name (He.glo_ok X G (c.fact 13 (f := .glo "is_name") rfl))
  have C_is_plate := cal_is_plate (P := P) (w := w) (base := base) B M C_look_at_plate F_is_plate (He.glo_ok X G (c.fact 14 (f := .glo "is_plate") rfl))
  have C_has_tip := cal_has_tip (P := P) (w := w) (base := base) B M C_is_ahead C_is_near_suns C_is_triple F_has_tip (He.glo_ok X G (c.fact 15 (f := .glo "has_tip") rfl))
  have C_look_at_things := cal_look_at_things (P := P) (w := w) (base := base) B M I_NoYard C_is_name C_is_plate C_has_tip F_look_at_things (He.glo_ok X G (c.fact 16 (f := .glo "look_at_things") rfl))
  have C_look_at_yard := cal_look_at_yard (P := P) (w := w) (base := base) B M I_NoYard C_look_at_sun C_look_at_things F_look_at_yard (He.glo_ok X G (c.fact 17 (f := .glo "look_at_yard") rfl))
  have C_number_in := cal_number_in (P := P) (w := w) (base := base) B M  F_number_in (He.glo_ok X G (c.fact 18 (f := .glo "number_in") rfl))
  have C_triples_in := cal_triples_in (P := P) (w := w) (base := base) B M C_number_in F_triples_in (He.glo_ok X G (c.fact 19 (f := .glo "triples_in") rfl))
  have C_Paper___init__ := cal_Paper___init__ (P := P) (w := w) (base := base) B M  F_Paper___init__ (He.mkr_ok (c.fact 20 (f := .mkr "Paper") rfl))
  have C_Paper_took_hour := cal_Paper_took_hour (P := P) (w := w) (base := base) B M C_triples_in C_number_in F_Paper_took_hour (He.meth_ok (c.fact 21 (f := .meth "Paper" "took_hour") rfl))
  have C_Paper_took_wall := cal_Paper_took_wall (P := P) (w := w) (base := base) B M C_triples_in F_Paper_took_wall (He.meth_ok (c.fact 22 (f := .meth "Paper" "took_wall") rfl))
  have C_Paper_took_dial := cal_Paper_took_dial (P := P) (w := w) (base := base) B M C_triples_in F_Paper_took_dial (He.meth_ok (c.fact 23 (f := .meth "Paper" "took_dial") rfl))
  have C_Paper_took := cal_Paper_took (P := P) (w := w) (base := base) B M C_Paper_took_hour C_Paper_took_wall C_Paper_took_dial F_Paper_took (He.meth_ok (c.fact 24 (f := .meth "Paper" "took") rfl))
  have C_Paper_stands := cal_Paper_stands (P := P) (w := w) (base := base) B M C_look_at_sun C_look_at_yard F_Paper_stands (He.meth_ok (c.fact 25 (f := .meth "Paper" "stands") rfl))
  have C_read_yard := cal_read_yard (P := P) (w := w) (base := base) B M I_NoRow C_Paper___init__ C_Paper_stands C_Paper_took F_read_yard (He.glo_ok X G (c.fact 26 (f := .glo "read_yard") rfl))
  have C__law_cell_at := cal__law_cell_at (P := P) (w := w) (base := base) B M  F__law_cell_at (He.glo_ok X G (c.fact 27 (f := .glo "_law_cell_at") rfl))
  have C__law_draw := cal__law_draw (P := P) (w := w) (base := base) B M  F__law_draw (He.glo_ok X G (c.fact 28 (f := .glo "_law_draw") rfl))
  have C__law_drawn_row := cal__law_drawn_row (P := P) (w := w) (base := base) B M C__law_draw F__law_drawn_row (He.glo_ok X G (c.fact 29 (f := .glo "_law_drawn_row") rfl))
  have C__law_rows := cal__law_rows (P := P) (w := w) (base := base) B M C__law_cell_at C__law_draw C__law_drawn_row F__law_rows (He.glo_ok X G (c.fact 30 (f := .glo "_law_rows") rfl))
  have C__law_first_bad := cal__law_first_bad (P := P) (w := w) (base := base) B M  F__law_first_bad (He.glo_ok X G (c.fact 31 (f := .glo "_law_first_bad") rfl))
  have C__law_refused := cal__law_refused (P := P) (w := w) (base := base) B M C_read_yard F__law_refused (He.glo_ok X G (c.fact 32 (f := .glo "_law_refused") rfl))
  exact ok_law B M C__law_rows C__law_first_bad C__law_refused C_read_yard F_law
end Gn
open PySem PySem.W PySem.Calls PyProof.Rows
set_option maxRecDepth 100000 in
set_option maxHeartbeats 0 in
theorem Gn.holds_of (LT : ∀ (ns : List Int), ns.length ≤ 63 → Gn.f_law [.lst (ns.map .int)] = .ok (.bl true)) : PySem.Challenge.rw_dialyard_k86_rows_that_cannot_stand.Holds := by
  w_on; o_law
  refine HandSHeadRun.head_any (r := OpenLaw.row PySem.Challenge.rw_dialyard_k86_rows_that_cannot_stand) (q := view (OpenLaw.row PySem.Challenge.rw_dialyard_k86_rows_that_cannot_stand).prog [59]) (H := Gn.hk) (ob := Gn.ob) (M := 20000) (loose := Gn.loose) (d := HandSHeadRun.topDef (OpenLaw.row PySem.Challenge.rw_dialyard_k86_rows_that_cannot_stand).prog 59) (kwd := []) Gn.ob_eq
    (by kernel_rfl) (fun s => by kernel_rfl) Gn.run (by kernel_rfl) (by kernel_rfl) (by kernel_rfl) (by rfl) (by first | assumption | decide +kernel) (by decide +kernel) ⟨rfl, rfl, rfl, rfl, rfl, by decide +kernel⟩ ?hw ?hc
  case hw => w_witness2
  case hc =>
    refine Dy.walk_ofW (l := PySem.Challenge.rw_dialyard_k86_rows_that_cannot_stand) (n := 63) (k := 11) (x := "_law_script") (CX := fun w => L2.CX (PySem.Challenge.rw_dialyard_k86_rows_that_cannot_stand).prog w) rfl (by decide) (by kernel_rfl) ⟨rfl, by decide, by decide⟩ ?F (fun _ _ _ _ _ z => Dy.cx_false z)
    intro w mg fa h Y G hmg0
    obtain ⟨K, KX, c⟩ := Y
    have hmg : mg ("law" : PySem.Str) = some (.ref fa) := by
      have e : (HandSHeadRun.topDef (OpenLaw.row PySem.Challenge.rw_dialyard_k86_rows_that_cannot_stand).prog 59).name = ("law" : PySem.Str) := by kernel_rfl
      rw [← e]
      exact hmg0
    obtain ⟨fd, hb, hF⟩ := Gn.facts (P := (PySem.Challenge.rw_dialyard_k86_rows_that_cannot_stand).prog) (w := w) KX G hmg c
    exact ⟨K, fd, Dy.spD K 1 Gn.f_law, KX, hb, fun H a ns hl _ hS => Dy.law_sp hS (LT ns hl), hF⟩

end
section
set_option maxHeartbeats 4000000
namespace Gn
open PySem PySem.Spec PyProof.Rows L2 Dy
local macro_rules | `(tactic| wtm_at "y_bd") => `(tactic| ((repeat' (first | assumption | (with_reducible apply Bd.mul) | (with_reducible apply RB.n) | (with_reducible apply RB.d) | (with_reducible apply RB.add) | (with_reducible apply RB.sub) | (with_reducible apply RB.mul) | (with_reducible apply RB.int) | (with_reducible apply Bd.addM) | (with_reducible apply Bd.subM) | (with_reducible apply Bd.neg) | (with_reducible apply Bd.mod; (first | decide | omega)) | exact Bd.lit (n := 2) (by decide) | exact Bd.lit (n := 36) (by decide) | exact Bd.lit (n := 200) (by decide))) <;> done))
local macro_rules | `(tactic| wtm_at "y_mulok") => `(tactic| first | exact MuOk.of (n := 200) (m := 200) (Bd.lit (by decide)) (Bd.lit (by decide)) (by decide) | exact MuOk.of (by wtm_at "y_bd") (by wtm_at "y_bd") (by first | decide | omega))
local macro_rules | `(tactic| wtm_at "y_line") => `(tactic| first | assumption | exact Nat.le_of_ble_eq_true rfl | (simp only [List.length_append, List.length_map, List.length_cons, List.length_nil, sizeLine_eq]; omega))
local macro_rules | `(tactic| wtm_at "y_pos") => `(tactic| first | assumption | decide | omega)
local macro_rules | `(tactic| wtm_at "y_known") => `(tactic| first | assumption | (with_reducible rfl) | ((with_reducible show ((List.length (_ :: _) : Nat) : Int) = _); exact rfl) | omega | exact ⟨rfl, rfl⟩ | exact ⟨rfl, rfl, rfl⟩)
local macro_rules | `(tactic| wtm_at "y_okq") => `(tactic| first | rfl | exact okq_ints _ | simp [okq])
local macro_rules | `(tactic| wtm_at "y_dyop") => `(tactic| first
  | (with_reducible refine w_bSeqR ?_)
  | (with_reducible refine w_bSeqT rfl ?_)
  | (with_reducible refine w_bSeqL rfl ?_)
  | (with_reducible refine w_bName ?_)
  | ((with_reducible show Got (bCons _ _ (List.map _ _) _) _); simp only [List.map_cons, List.map_nil])
  | (with_reducible refine w_bCons ?_)
  | (with_reducible refine w_bNil ?_)
  | ((with_reducible show Got (oIx _ _) _); first | ((with_reducible show Got (oIx (D.lst _) (D.int _)) _); refine w_ixL rfl ?_) | ((with_reducible show Got (oIx (D.tup _) (D.int _)) _); refine w_ixT rfl ?_) | (with_reducible refine w_ixR0 ?_) | (with_reducible refine w_ixR1 ?_))
  | ((with_reducible show Got (oAdd _ _) _); first | (with_reducible refine w_addI ?_) | ((with_reducible refine w_addL ?_ ?_); (focus (wtm_at "y_line"; done))) | ((with_reducible refine w_addT ?_ ?_); (focus (wtm_at "y_line"; done))))
  | ((with_reducible refine w_mul ?_ ?_); (focus (wtm_at "y_mulok"; done)))
  | ((with_reducible refine w_mod ?_ ?_); (focus (wtm_at "y_pos"; done)))
  | ((with_reducible refine w_div ?_ ?_ ?_); (focus (wtm_at "y_pos"; done)); (focus (first | (exact Bd.log (n := 200) (Bd.lit (by decide)) (by decide)) | (exact Bd.log (n := 200) (by assumption) (by decide)) | (exact Bd.log (by wtm_at "y_bd") (by decide)))))
  | ((with_reducible show Got (oEq _ _) _); first | (with_reducible refine w_eqI ?_) | ((with_reducible refine w_eqNil ?_ ?_); (focus (wtm_at "y_okq"; done))) | (with_reducible refine w_eq3 ?_) | (with_reducible refine w_eqRR ?_) | (with_reducible refine w_eqRRR ?_) | (with_reducible refine w_eqR ?_))
  | ((with_reducible show Got (oNe _ _) _); first | (with_reducible refine w_neI ?_) | ((with_reducible refine w_neNil ?_ ?_); (focus (wtm_at "y_okq"; done))) | (with_reducible refine w_ne3 ?_) | (with_reducible refine w_neRR ?_) | (with_reducible refine w_neRRR ?_) | (with_reducible refine w_neR ?_))
  | (with_reducible refine w_sub ?_)
  | ((with_reducible refine w_pow ?_ ?_); (focus decide); simp only [Int.reducePow, Int.reduceToNat])
  | (with_reducible refine w_lt ?_)
  | (with_reducible refine w_le ?_)
  | (with_reducible refine w_gt ?_)
  | (with_reducible refine w_ge ?_)
  | (with_reducible refine w_neg ?_)
  | (with_reducible refine w_isN ?_)
  | (with_reducible refine w_notN ?_)
  | (with_reducible refine w_lenL ?_)
  | (with_reducible refine w_lenT ?_)
  | (with_reducible refine w_max2 ?_)
  | (with_reducible refine w_min2 ?_)
  | (with_reducible refine w_min3 ?_)
  | (with_reducible refine w_abs ?_)
  | (with_reducible refine w_listL ?_)
  | (with_reducible refine w_listT ?_)
  | (with_reducible refine w_tupleL ?_)
  | (with_reducible refine w_tupleT ?_)
  | ((with_reducible show Got (oIsi [_, D.ty _]) _); refine w_isi (by with_reducible first | exact kt_zb | exact kt_zi | exact kt_zt | exact kt_zl | exact kt_zs | exact kt_zd | exact kt_rt | exact kt_rb | exact kt_ri | exact kt_rl | exact kt_ib | exact kt_ii | exact kt_it | exact kt_il | exact kt_is | exact kt_id | exact kt_bb | exact kt_bi | exact kt_bt | exact kt_bl | exact kt_bs | exact kt_bd | exact kt_tb | exact kt_ti | exact kt_tt | exact kt_tl | exact kt_ts | exact kt_td | exact kt_lb | exact kt_li | exact kt_lt | exact kt_ll | exact kt_ls | exact kt_ld | exact kt_sb | exact kt_si | exact kt_st | exact kt_sl | exact kt_ss | exact kt_sd | exact kt_nb | exact kt_ni | exact kt_nt | exact kt_nl | exact kt_ns | exact kt_nd | exact kt_db | exact kt_di | exact kt_dt | exact kt_dl | exact kt_ds | exact kt_dd) ?_)
  | ((with_reducible refine w_range3 ?_ ?_ ?_ ?_); (focus decide); (focus (first | decide | (constructor <;> omega))); (focus (first | decide | (constructor <;> omega))))
  | (with_reducible refine w_rng3 ?_)
  | (with_reducible refine w_zip3 ?_)
  | (with_reducible refine w_sum3 ?_)
  | ((with_reducible refine w_range1 ?_ ?_); (focus (first | decide | (constructor <;> omega))))
  | ((with_reducible refine w_range2 ?_ ?_ ?_); (focus (first | decide | (constructor <;> omega))); (focus (first | decide | (constructor <;> omega))))
  | ((with_reducible show Got (oSum _) _); refine w_sum rfl ?_)
  | ((with_reducible show Got (oSl _ _ _) _); refine g_ot rfl ?_)
  | ((with_reducible show Got (enum1 _) _); refine g_ot rfl ?_)
  | ((with_reducible show Got (zip2 _) _); refine g_ot rfl ?_)
  | (with_reducible refine w_iterR ?_)
  | ((with_reducible show Got (iterD (D.lst _)) _); refine g_ot rfl ?_)
  | ((with_reducible show Got (iterD (D.tup _)) _); refine g_ot rfl ?_)
  | (with_reducible refine w_lenR ?_))
local macro_rules | `(tactic| wtm_at "y_dyk") => `(tactic| first
  | (with_reducible refine k_tt ?_) | (with_reducible refine k_ff ?_) | (with_reducible refine k_nt ?_) | (with_reducible refine k_nf ?_)
  | ((with_reducible refine k_dT ?_ ?_); (focus (wtm_at "y_known"; done))) | ((with_reducible refine k_dF ?_ ?_); (focus (wtm_at "y_known"; done))) | ((with_reducible refine k_ndT ?_ ?_); (focus (wtm_at "y_known"; done))) | ((with_reducible refine k_ndF ?_ ?_); (focus (wtm_at "y_known"; done)))
  | ((with_reducible refine k_nndT ?_ ?_); (focus (wtm_at "y_known"; done))) | ((with_reducible refine k_nndF ?_ ?_); (focus (wtm_at "y_known"; done)))
  | (with_reducible refine k_d (fun _ => ?_) (fun _ => ?_)) | (with_reducible refine k_nd (fun _ => ?_) (fun _ => ?_)) | (with_reducible refine k_nnd (fun _ => ?_) (fun _ => ?_)) | ((with_reducible show Fork (D.isNon _) _ _); first | refine k_tt ?_ | refine k_ff ?_) | ((with_reducible show Fork (!(D.isNon _)) _ _); first | refine k_nt ?_ | refine k_nf ?_) | ((with_reducible show Fork (List.isEmpty _) _ _); first | refine k_tt ?_ | refine k_ff ?_) | ((with_reducible show Fork (!(List.isEmpty _)) _ _); first | refine k_nt ?_ | refine k_nf ?_) | (with_reducible refine k_any (fun _ => ?_) (fun _ => ?_)))
local macro_rules | `(tactic| wtm_at "q_wp") => `(tactic| first
  | ((with_reducible show R.wp (eVar _ _) _ _); refine wp_var rfl ?_)
  | (with_reducible refine wp_c ?_)
  | ((with_reducible show R.wp (uPeek _ _ _) _ _); refine wp_uPeek rfl ?_)
  | ((with_reducible show R.wp (ePeek _ _ _) _ _); refine wp_ePeek rfl ?_)
  | ((with_reducible show R.wp (eIxO _ _ _) _ _); refine wp_ixO rfl ?_)
  | (with_reducible refine wp_bin ?_)
  | (with_reducible refine wp_cons ?_)
  | (with_reducible refine wp_nil ?_)
  | (with_reducible refine wp_tup ?_)
  | (with_reducible refine wp_lst ?_)
  | (with_reducible refine wp_call ?_)
  | (with_reducible refine wp_n ?_)
  | (with_reducible refine wp_un ?_)
  | (with_reducible refine wp_test ?_)
  | (with_reducible refine wp_and ?_)
  | (with_reducible refine wp_or ?_)
  | (with_reducible refine wp_not ?_)
  | (with_reducible refine wp_andV ?_)
  | (with_reducible refine wp_orV ?_)
  | (with_reducible refine wp_notV ?_)
  | (with_reducible refine wp_chain ?_)
  | (with_reducible refine wp_dct0 ?_)
  | (with_reducible refine wp_sl ?_)
  | (with_reducible refine wp_no ?_)
  | (with_reducible refine wp_some ?_)
  | (with_reducible refine wp_iD ?_)
  | (with_reducible refine wp_iArgs ?_)
  | (with_reducible refine wp_compU ?_)
  | (with_reducible refine wp_yes ?_))
local macro_rules | `(tactic| wtm_at "q_sp") => `(tactic| first
  | (with_reducible refine sp_seq ?_)
  | (with_reducible refine sp_skip ?_)
  | (with_reducible refine sp_ret ?_)
  | (with_reducible refine sp_setU ?_)
  | (with_reducible refine sp_expr ?_)
  | (with_reducible refine sp_if ?_)
  | (with_reducible refine sp_parU ?_)
  | (with_reducible refine sp_asg ?_)
  | (with_reducible refine sp_ownU ?_)
  | ((with_reducible show SR.wp (sFreeze _ _ _) _ _ _); first | refine sp_frO rfl ?_ | refine sp_frV rfl ?_ | refine sp_frU rfl ?_)
  | (with_reducible refine sp_for ?_)
  | ((with_reducible show SR.wp (sApp _ _ _) _ _ _); refine sp_appU rfl ?_))
local macro_rules | `(tactic| wtm_at "q_got") => `(tactic| first
  | ((with_reducible show Got (compS _ _ _ _ _) _); first | refine c_cons ?_ | refine c_nil ?_)
  | wtm_at "y_dyop")
local macro_rules | `(tactic| wtm_at "y_dy") => `(tactic| first
  | ((with_reducible show R.wp _ _ _); wtm_at "q_wp")
  | ((with_reducible show SR.wp _ _ _ _); wtm_at "q_sp")
  | ((with_reducible show Upd _ _ _ _); refine upd_step (by ((simp only [List.set_cons_zero, List.set_cons_succ]) <;> rfl)) ?_)
  | ((with_reducible show Got _ _); wtm_at "q_got")
  | ((with_reducible show Fork _ _ _); wtm_at "y_dyk")
  | (with_reducible refine sc_int ?_)
  | (with_reducible refine sc_bl ?_)
  | (with_reducible refine ex_bl ?_)
  | (with_reducible refine ex_int ?_)
  | (with_reducible refine ex_two ?_)
  | (with_reducible refine wipe_cons ?_)
  | (with_reducible refine wipe_nil ?_)
  | (with_reducible refine fs_cons ?_)
  | (with_reducible refine fs_nil ?_)
  | ((with_reducible refine f_its ?_ ?_); (focus (wtm_at "y_line"; done)))
  | ((with_reducible refine g_rows ?_ ?_); (focus (wtm_at "y_line"; done))))
local macro_rules | `(tactic| wtm_at "y_bdn") => `(tactic| (exact Bd.mono (by wtm_at "y_bd") (by decide)))
local macro_rules | `(tactic| wtm_at "y_fn") => `(tactic| fail)
local macro_rules | `(tactic| wtm_at "y_go") => `(tactic| repeat' (first | wtm_at "y_dy" | wtm_at "y_fn"))
local macro_rules | `(tactic| wtm_at "y_in") => `(tactic| refine wp_fnU rfl (by ((simp only [List.map_cons, List.map_nil, List.cons_append, List.nil_append, List.replicate_succ, List.replicate_zero, Nat.reduceSub, Nat.sub_self]) <;> rfl)) ?_)
local macro_rules | `(tactic| wtm_at "y_false") => `(tactic| (exfalso; first | omega | grind | (simp_all; done)))
local macro_rules | `(tactic| wtm_at "y_ne3") => `(tactic| (with_reducible refine w_neS (tup3 (by first | rfl | omega | grind) (by first | rfl | omega | grind) (by first | rfl | omega | grind)) rfl ?_))
local macro_rules | `(tactic| wtm_at "y_rb") => `(tactic| wtm_at "y_bd")
local macro_rules | `(tactic| wtm_at "y_sz") => `(tactic| first | decide | omega)
local macro_rules | `(tactic| wtm_at "y_all") => `(tactic| repeat' (first | exact List.forall_mem_nil _ | refine List.forall_mem_cons.mpr ⟨?_, ?_⟩ | exact ⟨_, rfl, by wtm_at "y_bdn"⟩))
section
variable {a b c d e f m : Int} {P : D → Prop} {n n' : Nat}
theorem sp_triple_less (h : P (t3 (a - d) (b - e) (c - f))) : (f_triple_less [t3 a b c, t3 d e f]).wp P NoE := by
  wtm_at "y_in"
  wtm_at "y_go"
  exact h
theorem sp_cross_of (hn : n < 10000) (hn' : n' < 10000) (ha : Bd n a) (hb : Bd n b) (hc : Bd n c) (hd : Bd n' d) (he : Bd n' e) (hf : Bd n' f) (h : P (t3 (b * f - c * e) (c * d - a * f) (a * e - b * d))) : (f_cross_of [t3 a b c, t3 d e f]).wp P NoE := by
  wtm_at "y_in"
  wtm_at "y_go"
  exact h
theorem sp_dot_of (hn : n < 10000) (hn' : n' < 10000) (ha : Bd n a) (hb : Bd n b) (hc : Bd n c) (hd : Bd n' d) (he : Bd n' e) (hf : Bd n' f) (h : P (.int (a * d + b * e + c * f))) : (f_dot_of [t3 a b c, t3 d e f]).wp P NoE := by
  wtm_at "y_in"
  wtm_at "y_go"
  exact h
end
section
variable {k0 k1 k2 s0 s1 s2 o0 o1 o2 d0 d1 d2 : Int} {P : D → Prop} {n n' : Nat}
theorem sp_front_of {k : D} (hn : n < 10000) (hs0 : Bd n s0) (hs1 : Bd n s1) (hs2 : Bd n s2) (ho0 : Bd n o0) (ho1 : Bd n o1) (ho2 : Bd n o2)
    (h : P (t3 (s1 * o2 - s2 * o1) (s2 * o0 - s0 * o2) (s0 * o1 - s1 * o0))) : (f_front_of [.tup [k, t3 s0 s1 s2, t3 o0 o1 o2]]).wp P NoE := by
  wtm_at "y_in"
  wtm_at "y_go"
  exact sp_cross_of hn hn hs0 hs1 hs2 ho0 ho1 ho2 h
theorem sp_is_ahead (hn : n < 1000) (hn' : n' < 1000) (hk0 : Bd n k0) (hk1 : Bd n k1) (hk2 : Bd n k2) (hs0 : Bd n s0) (hs1 : Bd n s1) (hs2 : Bd n s2) (ho0 : Bd n o0) (ho1 : Bd n o1) (ho2 : Bd n o2) (hd0 : Bd n' d0) (hd1 : Bd n' d1) (hd2 : Bd n' d2)
    (h : P (.bl (decide (0 < (s1 * o2 - s2 * o1) * (d0 - k0) + (s2 * o0 - s0 * o2) * (d1 - k1) + (s0 * o1 - s1 * o0) * (d2 - k2))))) : (f_is_ahead [.tup [t3 k0 k1 k2, t3 s0 s1 s2, t3 o0 o1 o2], t3 d0 d1 d2]).wp P NoE := by
  wtm_at "y_in"
  wtm_at "y_go"
  refine sp_front_of (by omega) hs0 hs1 hs2 ho0 ho1 ho2 ?_
  wtm_at "y_go"
  refine sp_triple_less ?_
  wtm_at "y_go"
  have z {a b c d : Int} (ha : Bd n a) (hb : Bd n b) (hc : Bd n c) (hd : Bd n d) : Bd (n + n + 1) (a * b - c * d) := ((ha.mul hb).subM (hc.mul hd)).mono (by omega)
  have z2 {a b : Int} (ha : Bd n' a) (hb : Bd n b) : Bd (n + n' + 1) (a - b) := (ha.subM hb).mono (by omega)
  refine sp_dot_of (n := n + n + 1) (n' := n + n' + 1) (by omega) (by omega) (z hs1 ho2 hs2 ho1) (z hs2 ho0 hs0 ho2) (z hs0 ho1 hs1 ho0) (z2 hd0 hk0) (z2 hd1 hk1) (z2 hd2 hk2) ?_
  wtm_at "y_go"
  exact h
end

local macro_rules | `(tactic| wtm_at "y_fn") => `(tactic| (with_reducible refine sp_triple_less ?_))
local macro_rules | `(tactic| wtm_at "y_fn") => `(tactic| ((with_reducible show R.wp (f_cross_of [.tup [.int _, .int _, .int _], .tup [.int _, .int _, .int _]]) _ _); refine sp_cross_of (n := 2000) (n' := 2000) (by decide) (by decide) (by wtm_at "y_bdn") (by wtm_at "y_bdn") (by wtm_at "y_bdn") (by wtm_at "y_bdn") (by wtm_at "y_bdn") (by wtm_at "y_bdn") ?_))
local macro_rules | `(tactic| wtm_at "y_fn") => `(tactic| ((with_reducible show R.wp (f_dot_of [.tup [.int _, .int _, .int _], .tup [.int _, .int _, .int _]]) _ _); refine sp_dot_of (n := 2000) (n' := 2000) (by decide) (by decide) (by wtm_at "y_bdn") (by wtm_at "y_bdn") (by wtm_at "y_bdn") (by wtm_at "y_bdn") (by wtm_at "y_bdn") (by wtm_at "y_bdn") ?_))
local macro_rules | `(tactic| wtm_at "y_fn") => `(tactic| ((with_reducible show R.wp (f_front_of [.tup [_, .tup [.int _, .int _, .int _], .tup [.int _, .int _, .int _]]]) _ _); refine sp_front_of (n := 2000) (by decide) (by wtm_at "y_bdn") (by wtm_at "y_bdn") (by wtm_at "y_bdn") (by wtm_at "y_bdn") (by wtm_at "y_bdn") (by wtm_at "y_bdn") ?_))
local macro_rules | `(tactic| wtm_at "y_fn") => `(tactic| ((with_reducible show R.wp (f_is_ahead [.tup [.tup [.int _, .int _, .int _], .tup [.int _, .int _, .int _], .tup [.int _, .int _, .int _]], .tup [.int _, .int _, .int _]]) _ _); refine sp_is_ahead (n := 900) (n' := 900) (by decide) (by decide) (by wtm_at "y_bdn") (by wtm_at "y_bdn") (by wtm_at "y_bdn") (by wtm_at "y_bdn") (by wtm_at "y_bdn") (by wtm_at "y_bdn") (by wtm_at "y_bdn") (by wtm_at "y_bdn") (by wtm_at "y_bdn") (by wtm_at "y_bdn") (by wtm_at "y_bdn") (by wtm_at "y_bdn") ?_))

/-! ### looking at plates, suns, yards: of any plain data -/
mutual
def Pl : D → Bool
  | .non => true
  | .bl _ => true
  | .int i => decide (i.natAbs < 2 ^ 200)
  | .str x => PyData.strOk x && decide (x.length ≤ 100000)
  | .tup xs => decide (xs.length ≤ 100000) && Pls xs
  | .lst xs => decide (xs.length ≤ 100000) && Pls xs
  | _ => false
def Pls : List D → Bool
  | [] => true
  | d :: ds => Pl d && Pls ds
end
theorem Pls.mem : ∀ {ds : List D}, Pls ds = true → ∀ d ∈ ds, Pl d = true
  | [], _, d, hd => nomatch hd
  | e :: ds, h, d, hd => by
    have h : (Pl e && Pls ds) = true := h
    rw [Bool.and_eq_true] at h
    rcases List.mem_cons.mp hd with rfl | hd
    · exact h.1
    · exact Pls.mem h.2 d hd
theorem Pls.of : ∀ {ds : List D}, (∀ d ∈ ds, Pl d = true) → Pls ds = true
  | [], _ => rfl
  | e :: ds, h => by
    show (Pl e && Pls ds) = true
    rw [h e List.mem_cons_self, Pls.of fun d hd => h d (List.mem_cons_of_mem _ hd)]
    rfl
theorem Pl.bd {i : Int} (h : Pl (.int i) = true) : Bd 200 i := (of_decide_eq_true (h : decide (i.natAbs < 2 ^ 200) = true) : i.natAbs < 2 ^ 200)
theorem Pl.tup {xs : List D} (h : Pl (.tup xs) = true) : xs.length ≤ 100000 ∧ Pls xs = true := by
  have h : (decide (xs.length ≤ 100000) && Pls xs) = true := h
  rw [Bool.and_eq_true, decide_eq_true_eq] at h
  exact h
theorem Pl.lst {xs : List D} (h : Pl (.lst xs) = true) : xs.length ≤ 100000 ∧ Pls xs = true := by
  have h : (decide (xs.length ≤ 100000) && Pls xs) = true := h
  rw [Bool.and_eq_true, decide_eq_true_eq] at h
  exact h
theorem Pls.cons {d : D} {ds : List D} (h : Pls (d :: ds) = true) : Pl d = true ∧ Pls ds = true := by
  have h : (Pl d && Pls ds) = true := h
  rw [Bool.and_eq_true] at h
  exact h
/-- what plain data may be -/
theorem Pl.kinds {d : D} (h : Pl d = true) : d = .non ∨ (∃ b, d = .bl b) ∨ (∃ i, d = .int i ∧ Bd 200 i) ∨ (∃ x, d = .str x ∧ PyData.strOk x = true ∧ x.length ≤ 100000) ∨ (∃ xs, d = .tup xs ∧ xs.length ≤ 100000 ∧ Pls xs = true) ∨ ∃ xs, d = .lst xs ∧ xs.length ≤ 100000 ∧ Pls xs = true := by
  cases d with
  | non => exact .inl rfl
  | bl b => exact .inr (.inl ⟨b, rfl⟩)
  | int i => exact .inr (.inr (.inl ⟨i, rfl, Pl.bd h⟩))
  | str x =>
    have h : (PyData.strOk x && decide (x.length ≤ 100000)) = true := h
    rw [Bool.and_eq_true, decide_eq_true_eq] at h
    exact .inr (.inr (.inr (.inl ⟨x, rfl, h.1, h.2⟩)))
  | tup xs => exact .inr (.inr (.inr (.inr (.inl ⟨xs, rfl, Pl.tup h⟩))))
  | lst xs => exact .inr (.inr (.inr (.inr (.inr ⟨xs, rfl, Pl.lst h⟩))))
  | _ => cases h
def isI : D → Bool
  | .int _ => true
  | _ => false
theorem isI_of {d : D} (hd : Pl d = true) (h : isI d = true) : ∃ i, d = .int i ∧ Bd 200 i := by
  cases d with
  | int i => exact ⟨i, rfl, Pl.bd hd⟩
  | _ => cases h
theorem sp_whole_p {d : D} {P : D → Prop} (hd : Pl d = true) (h : P (.bl (isI d))) : (f_is_whole [d]).wp P NoE := by
  wtm_at "y_in"
  rcases Pl.kinds hd with rfl | ⟨b, rfl⟩ | ⟨i, rfl, _⟩ | ⟨x, rfl, _⟩ | ⟨xs, rfl, _⟩ | ⟨xs, rfl, _⟩
  all_goals wtm_at "y_go"
  all_goals exact h
def isT3 : D → Bool
  | .tup [x, y, z] => isI x && (isI y && isI z)
  | _ => false
/-- a tuple of three, or not -/
theorem tup3_or {d : D} (hd : Pl d = true) : (∃ x y z, d = .tup [x, y, z] ∧ Pl x = true ∧ Pl y = true ∧ Pl z = true) ∨ d = .non ∨ (∃ b, d = .bl b) ∨ (∃ i, d = .int i) ∨ (∃ x, d = .str x) ∨ (∃ xs, d = .tup xs ∧ xs.length ≠ 3) ∨ ∃ xs, d = .lst xs := by
  rcases Pl.kinds hd with rfl | ⟨b, rfl⟩ | ⟨i, rfl, _⟩ | ⟨x, rfl, _⟩ | ⟨xs, rfl, _, hx⟩ | ⟨xs, rfl, _⟩
  · exact .inr (.inl rfl)
  · exact .inr (.inr (.inl ⟨b, rfl⟩))
  · exact .inr (.inr (.inr (.inl ⟨i, rfl⟩)))
  · exact .inr (.inr (.inr (.inr (.inl ⟨x, rfl⟩))))
  · by_cases hl : xs.length = 3
    · match xs, hl with
      | [x, y, z], _ => exact .inl ⟨x, y, z, rfl, (Pls.cons hx).1, (Pls.cons (Pls.cons hx).2).1, (Pls.cons (Pls.cons (Pls.cons hx).2).2).1⟩
    · exact .inr (.inr (.inr (.inr (.inr (.inl ⟨xs, rfl, hl⟩)))))
  · exact .inr (.inr (.inr (.inr (.inr (.inr ⟨xs, rfl⟩)))))
theorem not3 {d : D} (f : D → Bool) (ht : ∀ xs : List D, xs.length ≠ 3 → f (.tup xs) = false) (h1 : f .non = false) (h2 : ∀ b, f (.bl b) = false) (h3 : ∀ b, f (.int b) = false) (h4 : ∀ b, f (.str b) = false) (h5 : ∀ b, f (.lst b) = false)
    (hd : d = .non ∨ (∃ b, d = .bl b) ∨ (∃ i, d = .int i) ∨ (∃ x, d = .str x) ∨ (∃ xs, d = .tup xs ∧ xs.length ≠ 3) ∨ ∃ xs, d = .lst xs) : f d = false := by
  rcases hd with rfl | ⟨b, rfl⟩ | ⟨b, rfl⟩ | ⟨b, rfl⟩ | ⟨b, rfl, h⟩ | ⟨b, rfl⟩
  · exact h1
  · exact h2 b
  · exact h3 b
  · exact h4 b
  · exact ht b h
  · exact h5 b
theorem isT3_no {xs : List D} (h : xs.length ≠ 3) : isT3 (.tup xs) = false := by
  match xs, h with
  | [], _ => rfl
  | [_], _ => rfl
  | [_, _], _ => rfl
  | [_, _, _], h => exact absurd rfl h
  | _ :: _ :: _ :: _ :: _, _ => rfl
theorem sp_triple_p {d : D} {P : D → Prop} (hd : Pl d = true) (h : P (.bl (isT3 d))) : (f_is_triple [d]).wp P NoE := by
  rcases tup3_or hd with ⟨x, y, z, rfl, hx, hy, hz⟩ | hd
  · have h : P (.bl (isI x && (isI y && isI z))) := h
    wtm_at "y_in"
    wtm_at "y_go"
    refine sp_whole_p hx ?_
    cases e1 : isI x
    · rw [e1] at h
      wtm_at "y_go"
      exact h
    wtm_at "y_go"
    refine sp_whole_p hy ?_
    cases e2 : isI y
    · rw [e1, e2] at h
      wtm_at "y_go"
      exact h
    wtm_at "y_go"
    refine sp_whole_p hz ?_
    cases e3 : isI z
    · rw [e1, e2, e3] at h
      wtm_at "y_go"
      exact h
    rw [e1, e2, e3] at h
    wtm_at "y_go"
    exact h
  · rw [not3 isT3 (fun xs h => isT3_no h) rfl (fun _ => rfl) (fun _ => rfl) (fun _ => rfl) (fun _ => rfl) hd] at h
    wtm_at "y_in"
    rcases hd with rfl | ⟨b, rfl⟩ | ⟨b, rfl⟩ | ⟨b, rfl⟩ | ⟨b, rfl, hl⟩ | ⟨b, rfl⟩
    all_goals wtm_at "y_go"
    all_goals first
      | exact h
      | (exfalso; omega)
def nN (i : Int) : Bool := decide (-1000000000 ≤ i ∧ i ≤ 1000000000)
def okPt : D → Bool
  | .tup [.int i, .int j, .int k] => nN i && (nN j && nN k)
  | _ => false
theorem okPt_of {d : D} (h : okPt d = true) : ∃ i j k : Int, d = t3 i j k ∧ (-1000000000 ≤ i ∧ i ≤ 1000000000) ∧ (-1000000000 ≤ j ∧ j ≤ 1000000000) ∧ -1000000000 ≤ k ∧ k ≤ 1000000000 := by
  unfold okPt at h
  split at h
  · rename_i i j k
    unfold nN at h
    rw [Bool.and_eq_true, Bool.and_eq_true, decide_eq_true_eq, decide_eq_true_eq, decide_eq_true_eq] at h
    exact ⟨i, j, k, rfl, h.1, h.2.1, h.2.2⟩
  · cases h
theorem okPt_T3 {d : D} (h : isT3 d = false) : okPt d = false := by
  unfold okPt
  split
  · cases h
  · rfl
theorem sp_nearP {d : D} {P : D → Prop} (hd : Pl d = true) (h : P (.bl (okPt d))) : (f_is_near_plates [d]).wp P NoE := by
  wtm_at "y_in"
  wtm_at "y_go"
  refine sp_triple_p hd ?_
  cases e : isT3 d
  · rw [okPt_T3 e] at h
    wtm_at "y_go"
    exact h
  wtm_at "y_go"
  rcases tup3_or hd with ⟨x, y, z, rfl, hx, hy, hz⟩ | hd
  · have e : (isI x && (isI y && isI z)) = true := e
    rw [Bool.and_eq_true, Bool.and_eq_true] at e
    obtain ⟨i, rfl, hi⟩ := isI_of hx e.1
    obtain ⟨j, rfl, hj⟩ := isI_of hy e.2.1
    obtain ⟨k, rfl, hk⟩ := isI_of hz e.2.2
    have h : P (.bl (nN i && (nN j && nN k))) := h
    unfold nN at h
    wtm_at "y_go"
    all_goals (simp_all; try exact h)
  · rw [not3 isT3 (fun xs h => isT3_no h) rfl (fun _ => rfl) (fun _ => rfl) (fun _ => rfl) (fun _ => rfl) hd] at e
    cases e
def nzc : D → D → Bool
  | .tup [.int s0, .int s1, .int s2], .tup [.int o0, .int o1, .int o2] => !decide (s1 * o2 - s2 * o1 = 0 ∧ s2 * o0 - s0 * o2 = 0 ∧ s0 * o1 - s1 * o0 = 0)
  | _, _ => false
def okP : D → Bool
  | .tup [a, b, c] => okPt a && (okPt b && (okPt c && nzc b c))
  | _ => false
theorem okP_no {xs : List D} (h : xs.length ≠ 3) : okP (.tup xs) = false := by
  match xs, h with
  | [], _ => rfl
  | [_], _ => rfl
  | [_, _], _ => rfl
  | [_, _, _], h => exact absurd rfl h
  | _ :: _ :: _ :: _ :: _, _ => rfl
theorem n9bd {i : Int} (h : -1000000000 ≤ i ∧ i ≤ 1000000000) : Bd 60 i := by unfold Bd; omega
theorem sp_lookP {d : D} {P : D → Prop} {E : D → Prop} (hd : Pl d = true) (h1 : okP d = true → P .non) (h2 : okP d = false → E (.exc "NoPlate" [] [])) : (f_look_at_plate [d]).wp P E := by
  rcases tup3_or hd with ⟨a, b, c, rfl, ha, hb, hc⟩ | hd
  · have g1 : (okPt a && (okPt b && (okPt c && nzc b c))) = true → P .non := h1
    have g2 : (okPt a && (okPt b && (okPt c && nzc b c))) = false → E (.exc "NoPlate" [] []) := h2
    clear h1 h2
    wtm_at "y_in"
    wtm_at "y_go"
    refine R.wp.weak (sp_nearP ha ?_)
    cases ea : okPt a
    · wtm_at "y_go"
      exact g2 (by rw [ea]; rfl)
    wtm_at "y_go"
    refine R.wp.weak (sp_nearP hb ?_)
    cases eb : okPt b
    · wtm_at "y_go"
      exact g2 (by rw [ea, eb]; rfl)
    wtm_at "y_go"
    refine R.wp.weak (sp_nearP hc ?_)
    cases ec : okPt c
    · wtm_at "y_go"
      exact g2 (by rw [ea, eb, ec]; rfl)
    obtain ⟨s0, s1, s2, rfl, hs0, hs1, hs2⟩ := okPt_of eb
    obtain ⟨o0, o1, o2, rfl, ho0, ho1, ho2⟩ := okPt_of ec
    rw [ea, eb, ec] at g1 g2
    have b0 := n9bd hs0
    have b1 := n9bd hs1
    have b2 := n9bd hs2
    have b3 := n9bd ho0
    have b4 := n9bd ho1
    have b5 := n9bd ho2
    repeat' wtm_at "y_dy"
    refine R.wp.weak (sp_cross_of (n := 60) (n' := 60) (by decide) (by decide) (n9bd hs0) (n9bd hs1) (n9bd hs2) (n9bd ho0) (n9bd ho1) (n9bd ho2) ?_)
    wtm_at "y_go"
    · rename_i z
      exact g2 (by simp only [Bool.true_and, nzc]; rw [decide_eq_true z]; rfl)
    · rename_i z
      exact g1 (by simp only [Bool.true_and, nzc]; rw [decide_eq_false z]; rfl)
  · have hF := h2 (not3 okP (fun xs h => okP_no h) rfl (fun _ => rfl) (fun _ => rfl) (fun _ => rfl) (fun _ => rfl) hd)
    clear h1 h2
    wtm_at "y_in"
    rcases hd with rfl | ⟨b, rfl⟩ | ⟨b, rfl⟩ | ⟨b, rfl⟩ | ⟨b, rfl, hl⟩ | ⟨b, rfl⟩
    all_goals wtm_at "y_go"
    all_goals first
      | exact hF
      | (exfalso; omega)
theorem sp_isplate {d : D} {P : D → Prop} (hd : Pl d = true) (h : P (.bl (okP d))) : (f_is_plate [d]).wp P NoE := by
  wtm_at "y_in"
  repeat' ((fail_if_success (with_reducible show SR.wp (sTryO _ _ _ _ _) _ _ _)); wtm_at "y_dy")
  refine sp_tryO ?_
  wtm_at "y_go"
  refine sp_lookP hd (fun e => ?_) fun e => ?_
  · rw [e] at h
    wtm_at "y_go"
    exact h
  · rw [e] at h
    refine sp_catchO (by decide +kernel) (by decide +kernel) ?_
    wtm_at "y_go"
    exact h
/-! #### names -/
def lowC (c : Nat) : Bool := decide (97 ≤ c ∧ c ≤ 122)
def lowS (x : Str) : Bool := x.cps.toList.all lowC
def okNm : D → Bool
  | .str x => decide (1 ≤ x.length ∧ x.length ≤ 8) && lowS x
  | _ => false
theorem in_abc (c : Nat) : decide (c ∈ (Str.ofString "abcdefghijklmnopqrstuvwxyz").cps.toList) = lowC c := by
  have e : (Str.ofString "abcdefghijklmnopqrstuvwxyz").cps.toList = (List.range 26).map (97 + ·) := by decide +kernel
  unfold lowC
  rw [e, decide_eq_decide, List.mem_map]
  constructor
  · rintro ⟨i, hi, rfl⟩
    have := List.mem_range.mp hi
    omega
  · intro h
    exact ⟨c - 97, List.mem_range.mpr (by omega), by omega⟩
theorem sp_isname {d : D} {P : D → Prop} (hd : Pl d = true) (h : P (.bl (okNm d))) : (f_is_name [d]).wp P NoE := by
  have loop : ∀ (x : Str) {g : REnv → SR} {N : REnv → Prop} {T : D → Prop} {E : D → REnv → Prop},
      (∀ (c : Nat) (ρ : REnv), (∃ u : Sl, ρ = [.val (.str x), u]) → Got (bName 1 (.str ⟨#[c]⟩) ρ) fun ρ' => (g ρ').wp (fun ρ => lowC c = true ∧ ∃ u : Sl, ρ = [.val (.str x), u]) (fun d => lowC c = false ∧ d = .bl false) E) →
      ∀ (cs : List Nat) (ρ : REnv), (∃ u : Sl, ρ = [.val (.str x), u]) → (∀ u : Sl, cs.all lowC = true → N [.val (.str x), u]) → (cs.all lowC = false → T (.bl false)) → (forS (bName 1) g (cs.map fun c => .str ⟨#[c]⟩) ρ).wp N T E := by
    intro x g N T E hg cs
    induction cs with
    | nil =>
      rintro _ ⟨u, rfl⟩ hN hT
      refine fs_nil (hN u rfl)
    | cons c cs ih =>
      intro ρ hρ hN hT
      rw [List.map_cons]
      refine fs_cons ?_
      obtain ⟨ρ', e1, h1⟩ := hg c ρ hρ
      refine ⟨ρ', e1, h1.imp ?_ ?_ fun _ _ z => z⟩
      · rintro ρ2 ⟨hc, hρ2⟩
        refine ih ρ2 hρ2 (fun u hu => hN u (by rw [List.all_cons, hc, hu]; rfl)) fun hu => hT (by rw [List.all_cons, hc, hu]; rfl)
      · rintro d ⟨hc, rfl⟩
        exact hT (by rw [List.all_cons, hc]; rfl)
  rcases Pl.kinds hd with rfl | ⟨b, rfl⟩ | ⟨i, rfl, _⟩ | ⟨x, rfl, hx, hl⟩ | ⟨xs, rfl, _⟩ | ⟨xs, rfl, _⟩
  case inr.inr.inr.inl =>
    have h : P (.bl (decide (1 ≤ x.length ∧ x.length ≤ 8) && lowS x)) := h
    obtain ⟨L, hL⟩ : ∃ L : Int, (x.length : Int) = L := ⟨_, rfl⟩
    have elen : oLen [.str x] = some (.int L) := by
      rw [← hL]
      exact if_pos (by rw [sizeLine_eq]; omega)
    have fin : ∀ {ρ : REnv} {T : D → Prop} {E : D → REnv → Prop} {N : REnv → Prop} {g : REnv → SR}, (1 ≤ L ∧ L ≤ 8) → (∀ d, P d → T d) → (∀ u : Sl, (g [.val (.str x), u]).wp N T E → True) → True := fun _ _ _ => trivial
    wtm_at "y_in"
    repeat' ((fail_if_success (with_reducible show Dy.Got (oLen _) _)); (fail_if_success (with_reducible show SR.wp (forS _ _ _ _) _ _ _)); wtm_at "y_dy")
    refine g_ot elen ?_
    repeat' ((fail_if_success (with_reducible show Dy.Got (iterD _) _)); wtm_at "y_dy")
    all_goals first
      | (rw [decide_f (by omega)] at h; exact h)
      | skip
    rw [decide_t (by omega), Bool.true_and] at h
    refine g_ot (show iterD (.str x) = some (x.cps.toList.map fun c => .str ⟨#[c]⟩) from rfl) ?_
    refine loop x ?_ x.cps.toList _ ⟨_, rfl⟩ (fun u hu => ?_) fun hu => ?_
    · rintro c _ ⟨u, rfl⟩
      refine w_bName ?_
      repeat' ((fail_if_success (with_reducible show Dy.Got (oNinX _ _) _)); wtm_at "y_dy")
      refine w_ninXc ?_
      rw [in_abc]
      cases e : lowC c
      · repeat' wtm_at "y_dy"
        exact ⟨rfl, rfl⟩
      · repeat' wtm_at "y_dy"
        exact ⟨rfl, _, rfl⟩
    · wtm_at "y_go"
      rw [show lowS x = true from hu] at h
      exact h
    · rw [show lowS x = false from hu] at h
      exact h
  all_goals wtm_at "y_in"
  all_goals wtm_at "y_go"
  all_goals exact h

/-! ### looking at suns, walls and dials -/
theorem sp_near3 {a b c : Int} {P : D → Prop} (ha : Bd 200 a) (hb : Bd 200 b) (hc : Bd 200 c) (h : P (.bl (nN a && (nN b && nN c)))) : (f_is_near_suns [t3 a b c]).wp P NoE := by
  wtm_at "y_in"
  repeat' ((fail_if_success (with_reducible show Dy.Got (oMax1 _) _)); wtm_at "y_dy")
  refine w_best rfl rfl ?_
  have e : decide (max (max (if a < 0 then -a else a) (if b < 0 then -b else b)) (if c < 0 then -c else c) ≤ 1000000000) = (nN a && (nN b && nN c)) := by
    unfold nN
    rw [Bool.eq_iff_iff]
    simp only [Bool.and_eq_true, decide_eq_true_eq]
    split <;> split <;> split <;> omega
  rw [← e] at h
  repeat' wtm_at "y_dy"
  all_goals exact h
def nz3 : D → Bool
  | .tup [.int a, .int b, .int c] => !decide (a = 0 ∧ b = 0 ∧ c = 0)
  | _ => false
def okDr (d : D) : Bool := nz3 d && okPt d
theorem okDr_T3 {d : D} (h : isT3 d = false) : okDr d = false := by
  unfold okDr
  rw [okPt_T3 h, Bool.and_false]
theorem isT3_of {d : D} (hd : Pl d = true) (h : isT3 d = true) : ∃ i j k : Int, d = t3 i j k ∧ Bd 200 i ∧ Bd 200 j ∧ Bd 200 k := by
  rcases tup3_or hd with ⟨x, y, z, rfl, hx, hy, hz⟩ | hd
  · have e : (isI x && (isI y && isI z)) = true := h
    rw [Bool.and_eq_true, Bool.and_eq_true] at e
    obtain ⟨i, rfl, hi⟩ := isI_of hx e.1
    obtain ⟨j, rfl, hj⟩ := isI_of hy e.2.1
    obtain ⟨k, rfl, hk⟩ := isI_of hz e.2.2
    exact ⟨i, j, k, rfl, hi, hj, hk⟩
  · rw [not3 isT3 (fun xs h => isT3_no h) rfl (fun _ => rfl) (fun _ => rfl) (fun _ => rfl) (fun _ => rfl) hd] at h
    cases h
theorem sp_isdir {d : D} {P : D → Prop} (hd : Pl d = true) (h : P (.bl (okDr d))) : (f_is_direction [d]).wp P NoE := by
  wtm_at "y_in"
  wtm_at "y_go"
  refine sp_triple_p hd ?_
  cases e : isT3 d
  · rw [okDr_T3 e] at h
    wtm_at "y_go"
    exact h
  obtain ⟨i, j, k, rfl, hi, hj, hk⟩ := isT3_of hd e
  have h : P (.bl (!decide (i = 0 ∧ j = 0 ∧ k = 0) && (nN i && (nN j && nN k)))) := h
  repeat' wtm_at "y_dy"
  · rename_i hz
    refine sp_near3 hi hj hk ?_
    rw [decide_f hz] at h
    exact h
  · rename_i hz
    rw [decide_t (by simpa using hz)] at h
    exact h
def rowN (last : Int) : D → Option Int
  | .tup [.int h, t] => if last < h ∧ h ≤ 9999 ∧ okDr t = true then some h else none
  | _ => none
theorem tup2_or {d : D} (hd : Pl d = true) : (∃ x y, d = .tup [x, y] ∧ Pl x = true ∧ Pl y = true) ∨ d = .non ∨ (∃ b, d = .bl b) ∨ (∃ i, d = .int i) ∨ (∃ x, d = .str x) ∨ (∃ xs, d = .tup xs ∧ xs.length ≠ 2) ∨ ∃ xs, d = .lst xs := by
  rcases Pl.kinds hd with rfl | ⟨b, rfl⟩ | ⟨i, rfl, _⟩ | ⟨x, rfl, _⟩ | ⟨xs, rfl, _, hx⟩ | ⟨xs, rfl, _⟩
  · exact .inr (.inl rfl)
  · exact .inr (.inr (.inl ⟨b, rfl⟩))
  · exact .inr (.inr (.inr (.inl ⟨i, rfl⟩)))
  · exact .inr (.inr (.inr (.inr (.inl ⟨x, rfl⟩))))
  · by_cases hl : xs.length = 2
    · match xs, hl with
      | [x, y], _ => exact .inl ⟨x, y, rfl, (Pls.cons hx).1, (Pls.cons (Pls.cons hx).2).1⟩
    · exact .inr (.inr (.inr (.inr (.inr (.inl ⟨xs, rfl, hl⟩)))))
  · exact .inr (.inr (.inr (.inr (.inr (.inr ⟨xs, rfl⟩)))))
theorem rowN_no {last : Int} {d : D} (hd : d = .non ∨ (∃ b, d = .bl b) ∨ (∃ i, d = .int i) ∨ (∃ x, d = .str x) ∨ (∃ xs, d = .tup xs ∧ xs.length ≠ 2) ∨ ∃ xs, d = .lst xs) : rowN last d = none := by
  rcases hd with rfl | ⟨b, rfl⟩ | ⟨b, rfl⟩ | ⟨b, rfl⟩ | ⟨xs, rfl, hl⟩ | ⟨b, rfl⟩
  all_goals first
    | rfl
    | skip
  match xs, hl with
  | [], _ => rfl
  | [_], _ => simp [rowN]
  | [_, _], hl => exact absurd rfl hl
  | _ :: _ :: _ :: _, _ => simp [rowN]
theorem rowN_x {last : Int} {h t : D} (e : isI h = false) : rowN last (.tup [h, t]) = none := by
  cases h <;> first | rfl | (cases e)
theorem sp_hourrow {d : D} {last : Int} {P : D → Prop} (hd : Pl d = true) (h : P (.bl (rowN last d).isSome)) : (f_is_hour_row [d, .int last]).wp P NoE := by
  rcases tup2_or hd with ⟨x, t, rfl, hx, ht⟩ | hd
  · wtm_at "y_in"
    wtm_at "y_go"
    refine sp_whole_p hx ?_
    cases e1 : isI x
    · rw [rowN_x e1] at h
      wtm_at "y_go"
      exact h
    obtain ⟨i, rfl, hi⟩ := isI_of hx e1
    have e : rowN last (.tup [.int i, t]) = if last < i ∧ i ≤ 9999 ∧ okDr t = true then some i else none := rfl
    wtm_at "y_go"
    · rename_i g1 g2
      refine sp_isdir ht ?_
      rw [e] at h
      simp only [g1, g2, true_and] at h
      cases q : okDr t <;> (rw [q] at h; exact h)
    all_goals
      rw [e, if_neg (by omega)] at h
      exact h
  · rw [rowN_no hd] at h
    wtm_at "y_in"
    rcases hd with rfl | ⟨b, rfl⟩ | ⟨b, rfl⟩ | ⟨b, rfl⟩ | ⟨xs, rfl, hl⟩ | ⟨b, rfl⟩
    all_goals wtm_at "y_go"
    all_goals first
      | exact h
      | (exfalso; omega)

/-! ### looking at a sun, at walls and dials, at a yard -/
def nD (j : Nat) : D := .int (j : Int)
def scan : Int → List D → Nat → Option Nat
  | _, [], _ => none
  | last, d :: ds, j => match rowN last d with
    | some h => scan h ds (j + 1)
    | none => some j
def verd (xs : List D) : Option D := if 1 ≤ xs.length ∧ xs.length ≤ 80 then (scan (-1) xs 0).map nD else some .non
def sunV : D → Option D
  | .lst xs => verd xs
  | _ => some .non
theorem enum_get {xs : List D} {i : Nat} {d : D} (h : (enumD xs)[i]? = some d) : ∃ x, xs[i]? = some x ∧ d = .tup [.int i, x] := by
  have hi : i < xs.length := by
    have := (List.getElem?_eq_some_iff.mp h).1
    simpa [enumD] using this
  have e := enumD_get (List.getElem?_eq_getElem hi)
  rw [h] at e
  exact ⟨_, List.getElem?_eq_getElem hi, Option.some.inj e⟩
theorem scan_step {xs : List D} {i : Nat} {d : D} {last : Int} (h : xs[i]? = some d) : scan last (xs.drop i) i = match rowN last d with
    | some h => scan h (xs.drop (i + 1)) (i + 1)
    | none => some i := by
  obtain ⟨hi, e⟩ := List.getElem?_eq_some_iff.mp h
  rw [List.drop_eq_getElem_cons hi, e]
  rfl
theorem rowN_int {last h : Int} {d : D} (e : rowN last d = some h) : ∃ t, d = .tup [.int h, t] := by
  unfold rowN at e
  split at e
  · rename_i a t
    split at e
    · cases e
      exact ⟨t, rfl⟩
    · cases e
  · cases e
theorem sp_looksun {d : D} {P E : D → Prop} (hd : Pl d = true) (h1 : sunV d = none → P .non) (h2 : ∀ a, sunV d = some a → E (.exc "NoSun" ["at"] [a])) : (f_look_at_sun [d]).wp P E := by
  have no : (∀ xs, d ≠ .lst xs) → sunV d = some .non := fun h => by
    cases d with
    | lst xs => exact absurd rfl (h xs)
    | _ => rfl
  rcases Pl.kinds hd with rfl | ⟨b, rfl⟩ | ⟨i, rfl, _⟩ | ⟨x, rfl, _⟩ | ⟨xs, rfl, _⟩ | ⟨xs, rfl, _, hx⟩
  case inr.inr.inr.inr.inr =>
    have h1 : verd xs = none → P .non := h1
    have h2 : ∀ a, verd xs = some a → E (.exc "NoSun" ["at"] [a]) := h2
    clear no
    wtm_at "y_in"
    wtm_at "y_go"
    · exact sp_raiseF (wp_cons (wp_c (wp_nil ⟨_, rfl, h2 _ (by unfold verd; rw [if_neg (by omega)])⟩)))
    · have hv : verd xs = (scan (-1) xs 0).map nD := by unfold verd; rw [if_pos (by omega)]
      refine forS_inv (fun i ρ => ∃ (last : Int) (u v : Sl), ρ = [.val (.lst xs), .val (.int last), u, v] ∧ scan (-1) xs 0 = scan last (xs.drop i) i) ⟨-1, _, _, rfl, by rw [List.drop_zero]⟩ ?_ ?_
      · rintro i d _ ed ⟨last, u, v, rfl, hI⟩
        obtain ⟨x, ex, rfl⟩ := enum_get ed
        have hxk := Pls.mem hx x (List.mem_of_getElem? ex)
        rw [scan_step ex] at hI
        wtm_at "y_go"
        refine (sp_hourrow (P := fun d => d = .bl (rowN last x).isSome) hxk rfl).no ?_
        rintro _ rfl
        cases q : rowN last x with
        | none =>
          rw [q] at hI
          rw [Option.isSome_none]
          wtm_at "y_go"
          exact sp_raiseF (wp_cons (wp_var rfl (wp_nil ⟨_, rfl, h2 _ (by rw [hv, hI]; rfl)⟩)))
        | some h =>
          rw [q] at hI
          obtain ⟨t, rfl⟩ := rowN_int q
          rw [Option.isSome_some]
          wtm_at "y_go"
          exact ⟨_, _, _, rfl, hI⟩
      · rintro _ ⟨last, u, v, rfl, hI⟩
        have hn : scan (-1) xs 0 = none := by
          rw [hI, show (enumD xs).length = xs.length by simp [enumD], List.drop_length]
          rfl
        refine h1 ?_
        rw [hv, hn]
        rfl
    · exact sp_raiseF (wp_cons (wp_c (wp_nil ⟨_, rfl, h2 _ (by unfold verd; rw [if_neg (by omega)])⟩)))
  all_goals
    have hF := h2 _ (no fun xs z => by cases z)
    wtm_at "y_in"
    wtm_at "y_go"
    exact sp_raiseF (wp_cons (wp_c (wp_nil ⟨_, rfl, hF⟩)))
def aheadD : D → D → Bool
  | .tup [.tup [.int k0, .int k1, .int k2], .tup [.int s0, .int s1, .int s2], .tup [.int o0, .int o1, .int o2]], .tup [.int t0, .int t1, .int t2] =>
    decide (0 < (s1 * o2 - s2 * o1) * (t0 - k0) + (s2 * o0 - s0 * o2) * (t1 - k1) + (s0 * o1 - s1 * o0) * (t2 - k2))
  | _, _ => false
def okTip (p t : D) : Bool := okPt t && aheadD p t
theorem okP_of {p : D} (h : okP p = true) : ∃ k0 k1 k2 s0 s1 s2 o0 o1 o2 : Int, p = .tup [t3 k0 k1 k2, t3 s0 s1 s2, t3 o0 o1 o2] ∧ (Bd 60 k0 ∧ Bd 60 k1 ∧ Bd 60 k2) ∧ (Bd 60 s0 ∧ Bd 60 s1 ∧ Bd 60 s2) ∧ Bd 60 o0 ∧ Bd 60 o1 ∧ Bd 60 o2 := by
  unfold okP at h
  split at h
  · rename_i a b c
    rw [Bool.and_eq_true, Bool.and_eq_true, Bool.and_eq_true] at h
    obtain ⟨k0, k1, k2, rfl, hk0, hk1, hk2⟩ := okPt_of h.1
    obtain ⟨s0, s1, s2, rfl, hs0, hs1, hs2⟩ := okPt_of h.2.1
    obtain ⟨o0, o1, o2, rfl, ho0, ho1, ho2⟩ := okPt_of h.2.2.1
    exact ⟨_, _, _, _, _, _, _, _, _, rfl, ⟨n9bd hk0, n9bd hk1, n9bd hk2⟩, ⟨n9bd hs0, n9bd hs1, n9bd hs2⟩, n9bd ho0, n9bd ho1, n9bd ho2⟩
  · cases h
theorem sp_hastip {n p t : D} {P : D → Prop} (hp : okP p = true) (ht : Pl t = true) (h : P (.bl (okTip p t))) : (f_has_tip [.tup [n, p, t]]).wp P NoE := by
  wtm_at "y_in"
  wtm_at "y_go"
  refine sp_triple_p ht ?_
  unfold okTip at h
  cases e : isT3 t
  · rw [okPt_T3 e, Bool.false_and] at h
    wtm_at "y_go"
    exact h
  obtain ⟨i, j, k, rfl, hi, hj, hk⟩ := isT3_of ht e
  wtm_at "y_go"
  refine sp_near3 hi hj hk ?_
  have e2 : okPt (t3 i j k) = (nN i && (nN j && nN k)) := rfl
  rw [← e2]
  cases e3 : okPt (t3 i j k)
  · rw [e3, Bool.false_and] at h
    wtm_at "y_go"
    exact h
  rw [e3, Bool.true_and] at h
  obtain ⟨k0, k1, k2, s0, s1, s2, o0, o1, o2, rfl, ⟨hk0, hk1, hk2⟩, ⟨hs0, hs1, hs2⟩, ho0, ho1, ho2⟩ := okP_of hp
  repeat' wtm_at "y_dy"
  exact sp_is_ahead (n := 60) (n' := 200) (by decide) (by decide) hk0 hk1 hk2 hs0 hs1 hs2 ho0 ho1 ho2 hi hj hk h
def thV (many : Nat) (ns : List Str) (k : Nat) : D → Sum (Option Str) Str
  | .tup [.str x, p] => if many = 2 ∧ okNm (.str x) = true ∧ k ≠ 20 then (if (decide (x ∈ ns) || !okP p) = true then .inl (some x) else .inr x) else .inl none
  | .tup [.str x, p, t] => if many = 3 ∧ okNm (.str x) = true ∧ k ≠ 20 then (if (decide (x ∈ ns) || !okP p || !okTip p t) = true then .inl (some x) else .inr x) else .inl none
  | _ => .inl none
def goV (many : Nat) : List Str → Nat → List D → Sum (List Str) (List Str × Option Str)
  | ns, _, [] => .inl ns
  | ns, k, d :: ds => match thV many ns k d with
    | .inl e => .inr (ns, e)
    | .inr x => goV many (ns ++ [x]) (k + 1) ds
def nmO (ns : List Str) : O := .l ((ns.map D.str).map .v)
def optS : Option Str → D
  | some x => .str x
  | none => .non
theorem goV_step {many : Nat} {ns : List Str} {ds : List D} {i : Nat} {d : D} (h : ds[i]? = some d) : goV many ns i (ds.drop i) = match thV many ns i d with
    | .inl e => .inr (ns, e)
    | .inr x => goV many (ns ++ [x]) (i + 1) (ds.drop (i + 1)) := by
  obtain ⟨hi, e⟩ := List.getElem?_eq_some_iff.mp h
  rw [List.drop_eq_getElem_cons hi, e]
  rfl
theorem any_names (ns : List Str) (x : Str) : ((ns.map D.str).any fun y => eqF y (.str x)) = decide (x ∈ ns) := by
  rw [Bool.eq_iff_iff, List.any_eq_true, decide_eq_true_eq]
  constructor
  · rintro ⟨y, hy, h⟩
    obtain ⟨z, hz, rfl⟩ := List.mem_map.mp hy
    have h : (z == x) = true := h
    rw [← beq_iff_eq.mp h]
    exact hz
  · intro h
    exact ⟨.str x, List.mem_map.mpr ⟨x, h, rfl⟩, show (x == x) = true from beq_self_eq_true x⟩
theorem flat_names (ns : List Str) : (ns.map D.str).all flatD = true := by
  rw [List.all_map, List.all_eq_true]
  exact fun _ _ => rfl
theorem wp_uPeekP {ρ : REnv} {i : Nat} {w : V} {ds : List D} {u : REnv → R Bool} {Q : Bool → Prop} {E' : D → Prop} (e : ρ[i]? = some (.pin w (.l (ds.map .v)))) (h : Upd ρ i (.val (.lst ds)) fun ρ' => (u ρ').wp Q NoE) : (uPeek i u ρ).wp Q E' := by
  unfold Upd at h
  obtain ⟨b, e1, hp⟩ := h.ok
  have e2 : eFreeze i ρ = ρ.set i (.val (.lst ds)) := by unfold eFreeze; rw [e, ← toD_l]
  unfold uPeek
  rw [e2, e1]
  exact hp
/-- the name of a thing -/
theorem okNm_str {d : D} (h : okNm d = true) : ∃ x, d = .str x := by
  cases d with
  | str x => exact ⟨x, rfl⟩
  | _ => cases h
theorem thV_nm2 {many : Nat} {ns : List Str} {k : Nat} {x p : D} (h : okNm x = false ∨ k = 20) : thV many ns k (.tup [x, p]) = .inl none := by
  cases x with
  | str s =>
    show (if many = 2 ∧ okNm (.str s) = true ∧ k ≠ 20 then _ else _) = _
    rw [if_neg]
    rintro ⟨_, h1, h2⟩
    rcases h with h | h
    · rw [h] at h1; cases h1
    · exact h2 h
  | _ => rfl
theorem thV_nm3 {many : Nat} {ns : List Str} {k : Nat} {x p t : D} (h : okNm x = false ∨ k = 20) : thV many ns k (.tup [x, p, t]) = .inl none := by
  cases x with
  | str s =>
    show (if many = 3 ∧ okNm (.str s) = true ∧ k ≠ 20 then _ else _) = _
    rw [if_neg]
    rintro ⟨_, h1, h2⟩
    rcases h with h | h
    · rw [h] at h1; cases h1
    · exact h2 h
  | _ => rfl
theorem thV_len2 {ns : List Str} {k : Nat} {xs : List D} (h : xs.length ≠ 2) : thV 2 ns k (.tup xs) = .inl none := by
  match xs, h with
  | [], _ => rfl
  | [x], _ => cases x <;> rfl
  | [_, _], h => exact absurd rfl h
  | [x, _, _], _ => cases x <;> rfl
  | x :: _ :: _ :: _ :: _, _ => cases x <;> rfl
theorem thV_len3 {ns : List Str} {k : Nat} {xs : List D} (h : xs.length ≠ 3) : thV 3 ns k (.tup xs) = .inl none := by
  match xs, h with
  | [], _ => rfl
  | [x], _ => cases x <;> rfl
  | [x, _], _ => cases x <;> rfl
  | [_, _, _], h => exact absurd rfl h
  | x :: _ :: _ :: _ :: _, _ => cases x <;> rfl

theorem nmO_snoc (ns : List Str) (x : Str) : nmO (ns ++ [x]) = .l ((ns.map D.str ++ [D.str x]).map .v) := by
  unfold nmO
  rw [List.map_append]
  rfl
set_option maxHeartbeats 4000000 in
theorem sp_things2 {ds : List D} {names : List Str} {v : V} {P : O × D → Prop} {B : D → Prop} (hd : ∀ d ∈ ds, Pl d = true) (hl : ds.length ≤ 100000) (hn : names.length ≤ 100000)
    (h1 : ∀ ns, goV 2 names 0 ds = .inl ns → P (nmO ns, .non)) (h2 : ∀ ns e, goV 2 names 0 ds = .inr (ns, e) → B (withO (nmO ns) (.exc "NoYard" ["name"] [optS e]))) : (f_look_at_things v (nmO names) [.lst ds, .int 2]).wp P B := by
  obtain ⟨dd, hdd⟩ : ∃ dd, D.lst ds = dd := ⟨_, rfl⟩
  have eIs : oIsi [dd, .ty "list"] = some (.bl true) := by
    obtain ⟨z, e, h⟩ := w_isi (P := fun z => z = .bl true) (a := .lst ds) (c := "list") (by with_reducible exact kt_ll) rfl
    rw [← hdd, e, h]
  have eEn : enum1 [dd] = some (enumD ds) := by rw [← hdd]; rfl
  rw [hdd]
  refine wp_fnM (ρ0 := [.val dd, .val (.int 2), .pin v (nmO names), .un, .un]) rfl rfl ?_
  repeat' ((fail_if_success (with_reducible show Dy.Got (oIsi _) _)); first | wtm_at "y_dy" | (with_reducible refine sp_nr ?_))
  refine g_ot eIs ?_
  repeat' ((fail_if_success (with_reducible show Dy.Got (enum1 _) _)); first | wtm_at "y_dy" | (with_reducible refine sp_nr ?_))
  refine g_ot eEn ?_
  refine forS_inv (fun i ρ => ∃ (ns : List Str) (u w : Sl), ρ = [.val dd, .val (.int 2), .pin v (nmO ns), u, w] ∧ goV 2 names 0 ds = goV 2 ns i (ds.drop i) ∧ ns.length ≤ 100000 + i) ⟨names, _, _, rfl, by rw [List.drop_zero], by omega⟩ ?_ ?_
  · rintro i d _ ed ⟨ns, _, _, rfl, hI, hns⟩
    obtain ⟨x, ex, rfl⟩ := enum_get ed
    have hxk := hd x (List.mem_of_getElem? ex)
    have hi := (List.getElem?_eq_some_iff.mp ex).1
    rw [goV_step ex] at hI
    have bad : ∀ e u w, thV 2 ns i x = .inl e → ∃ o', ([.val dd, .val (.int 2), .pin v (nmO ns), u, w] : REnv)[2]? = some (.pin v o') ∧ B (withO o' (.exc "NoYard" ["name"] [optS e])) := fun e u w q => ⟨nmO ns, rfl, h2 ns e (by rw [hI, q])⟩
    have hsz : (ns.map D.str).length < sizeLine := by rw [List.length_map, sizeLine_eq]; omega
    obtain ⟨K, hK⟩ : ∃ K : Int, (i : Int) = K := ⟨_, rfl⟩
    have k20 : (K = 20) ↔ i = 20 := by omega
    rcases tup2_or hxk with ⟨a, p, rfl, ha, hp⟩ | hno
    · have n2 := fun h => thV_nm2 (many := 2) (ns := ns) (k := i) (x := a) (p := p) h
      rw [hK]
      repeat' wtm_at "y_dy"
      refine R.wp.weak (sp_isname ha ?_)
      cases ea : okNm a
      · repeat' wtm_at "y_dy"
        exact sp_raiseF (wp_cons (wp_c (wp_nil ⟨_, rfl, bad none _ _ (n2 (.inl ea))⟩)))
      obtain ⟨s, rfl⟩ := okNm_str ea
      have eT : thV 2 ns i (.tup [.str s, p]) = if 2 = 2 ∧ okNm (.str s) = true ∧ i ≠ 20 then (if (decide (s ∈ ns) || !okP p) = true then .inl (some s) else .inr s) else .inl none := rfl
      repeat' wtm_at "y_dy"
      · rename_i h20
        exact sp_raiseF (wp_cons (wp_c (wp_nil ⟨_, rfl, bad none _ _ (n2 (.inr (k20.mp h20)))⟩)))
      rename_i h20
      rw [if_pos ⟨rfl, ea, fun z => h20 (k20.mpr z)⟩] at eT
      refine wp_uPeekP rfl ?_
      repeat' ((fail_if_success (with_reducible show Dy.Got (oInX _ _) _)); wtm_at "y_dy")
      refine w_inXl rfl (flat_names ns) ?_
      rw [any_names]
      cases es : decide (s ∈ ns)
      · repeat' wtm_at "y_dy"
        refine R.wp.weak (sp_isplate hp ?_)
        cases ep : okP p
        · repeat' wtm_at "y_dy"
          refine sp_raiseF ?_
          repeat' wtm_at "y_dy"
          exact ⟨_, rfl, bad (some s) _ _ (by rw [eT, es, ep]; rfl)⟩
        · repeat' wtm_at "y_dy"
          refine sp_appP rfl hsz ?_
          repeat' wtm_at "y_dy"
          refine ⟨ns ++ [s], _, _, by rw [nmO_snoc], ?_, by simp; omega⟩
          rw [hI, eT, es, ep]
          rfl
      · repeat' wtm_at "y_dy"
        refine sp_raiseF ?_
        repeat' wtm_at "y_dy"
        exact ⟨_, rfl, bad (some s) _ _ (by rw [eT, es]; rfl)⟩
    · have n0 : thV 2 ns i x = .inl none := by
        rcases hno with rfl | ⟨b, rfl⟩ | ⟨b, rfl⟩ | ⟨b, rfl⟩ | ⟨b, rfl, hl⟩ | ⟨b, rfl⟩
        all_goals first
          | exact thV_len2 hl
          | rfl
      have hF := fun u w => bad none u w n0
      clear bad hI
      rcases hno with rfl | ⟨b, rfl⟩ | ⟨b, rfl⟩ | ⟨b, rfl⟩ | ⟨b, rfl, hl⟩ | ⟨b, rfl⟩
      all_goals repeat' ((fail_if_success (with_reducible show SR.wp (sRaiseF _ _ _ _) _ _ _)); wtm_at "y_dy")
      all_goals first
        | exact sp_raiseF (wp_cons (wp_c (wp_nil ⟨_, rfl, hF _ _⟩)))
        | (exfalso; omega)
  · rintro _ ⟨ns, _, _, rfl, hI, _⟩
    refine ⟨nmO ns, rfl, h1 ns ?_⟩
    rw [hI, show (enumD ds).length = ds.length by simp [enumD], List.drop_length]
    rfl
set_option maxHeartbeats 4000000 in
theorem sp_things3 {ds : List D} {names : List Str} {v : V} {P : O × D → Prop} {B : D → Prop} (hd : ∀ d ∈ ds, Pl d = true) (hl : ds.length ≤ 100000) (hn : names.length ≤ 100000)
    (h1 : ∀ ns, goV 3 names 0 ds = .inl ns → P (nmO ns, .non)) (h2 : ∀ ns e, goV 3 names 0 ds = .inr (ns, e) → B (withO (nmO ns) (.exc "NoYard" ["name"] [optS e]))) : (f_look_at_things v (nmO names) [.lst ds, .int 3]).wp P B := by
  obtain ⟨dd, hdd⟩ : ∃ dd, D.lst ds = dd := ⟨_, rfl⟩
  have eIs : oIsi [dd, .ty "list"] = some (.bl true) := by
    obtain ⟨z, e, h⟩ := w_isi (P := fun z => z = .bl true) (a := .lst ds) (c := "list") (by with_reducible exact kt_ll) rfl
    rw [← hdd, e, h]
  have eEn : enum1 [dd] = some (enumD ds) := by rw [← hdd]; rfl
  rw [hdd]
  refine wp_fnM (ρ0 := [.val dd, .val (.int 3), .pin v (nmO names), .un, .un]) rfl rfl ?_
  repeat' ((fail_if_success (with_reducible show Dy.Got (oIsi _) _)); first | wtm_at "y_dy" | (with_reducible refine sp_nr ?_))
  refine g_ot eIs ?_
  repeat' ((fail_if_success (with_reducible show Dy.Got (enum1 _) _)); first | wtm_at "y_dy" | (with_reducible refine sp_nr ?_))
  refine g_ot eEn ?_
  refine forS_inv (fun i ρ => ∃ (ns : List Str) (u w : Sl), ρ = [.val dd, .val (.int 3), .pin v (nmO ns), u, w] ∧ goV 3 names 0 ds = goV 3 ns i (ds.drop i) ∧ ns.length ≤ 100000 + i) ⟨names, _, _, rfl, by rw [List.drop_zero], by omega⟩ ?_ ?_
  · rintro i d _ ed ⟨ns, _, _, rfl, hI, hns⟩
    obtain ⟨x, ex, rfl⟩ := enum_get ed
    have hxk := hd x (List.mem_of_getElem? ex)
    have hi := (List.getElem?_eq_some_iff.mp ex).1
    rw [goV_step ex] at hI
    have bad : ∀ e u w, thV 3 ns i x = .inl e → ∃ o', ([.val dd, .val (.int 3), .pin v (nmO ns), u, w] : REnv)[2]? = some (.pin v o') ∧ B (withO o' (.exc "NoYard" ["name"] [optS e])) := fun e u w q => ⟨nmO ns, rfl, h2 ns e (by rw [hI, q])⟩
    have hsz : (ns.map D.str).length < sizeLine := by rw [List.length_map, sizeLine_eq]; omega
    obtain ⟨K, hK⟩ : ∃ K : Int, (i : Int) = K := ⟨_, rfl⟩
    have k20 : (K = 20) ↔ i = 20 := by omega
    rcases tup3_or hxk with ⟨a, p, t, rfl, ha, hp, ht⟩ | hno
    · have n2 := fun h => thV_nm3 (many := 3) (ns := ns) (k := i) (x := a) (p := p) (t := t) h
      rw [hK]
      repeat' wtm_at "y_dy"
      refine R.wp.weak (sp_isname ha ?_)
      cases ea : okNm a
      · repeat' wtm_at "y_dy"
        exact sp_raiseF (wp_cons (wp_c (wp_nil ⟨_, rfl, bad none _ _ (n2 (.inl ea))⟩)))
      obtain ⟨s, rfl⟩ := okNm_str ea
      have eT : thV 3 ns i (.tup [.str s, p, t]) = if 3 = 3 ∧ okNm (.str s) = true ∧ i ≠ 20 then (if (decide (s ∈ ns) || !okP p || !okTip p t) = true then .inl (some s) else .inr s) else .inl none := rfl
      repeat' wtm_at "y_dy"
      · rename_i h20
        exact sp_raiseF (wp_cons (wp_c (wp_nil ⟨_, rfl, bad none _ _ (n2 (.inr (k20.mp h20)))⟩)))
      rename_i h20
      rw [if_pos ⟨rfl, ea, fun z => h20 (k20.mpr z)⟩] at eT
      refine wp_uPeekP rfl ?_
      repeat' ((fail_if_success (with_reducible show Dy.Got (oInX _ _) _)); wtm_at "y_dy")
      refine w_inXl rfl (flat_names ns) ?_
      rw [any_names]
      cases es : decide (s ∈ ns)
      · repeat' wtm_at "y_dy"
        refine R.wp.weak (sp_isplate hp ?_)
        cases ep : okP p
        · repeat' wtm_at "y_dy"
          refine sp_raiseF ?_
          repeat' wtm_at "y_dy"
          exact ⟨_, rfl, bad (some s) _ _ (by rw [eT, es, ep]; rfl)⟩
        · repeat' wtm_at "y_dy"
          refine R.wp.weak (sp_hastip ep ht ?_)
          cases et : okTip p t
          · repeat' wtm_at "y_dy"
            refine sp_raiseF ?_
            repeat' wtm_at "y_dy"
            exact ⟨_, rfl, bad (some s) _ _ (by rw [eT, es, ep, et]; rfl)⟩
          repeat' wtm_at "y_dy"
          refine sp_appP rfl hsz ?_
          repeat' wtm_at "y_dy"
          refine ⟨ns ++ [s], _, _, by rw [nmO_snoc], ?_, by simp; omega⟩
          rw [hI, eT, es, ep, et]
          rfl
      · repeat' wtm_at "y_dy"
        refine sp_raiseF ?_
        repeat' wtm_at "y_dy"
        exact ⟨_, rfl, bad (some s) _ _ (by rw [eT, es]; rfl)⟩
    · have n0 : thV 3 ns i x = .inl none := by
        rcases hno with rfl | ⟨b, rfl⟩ | ⟨b, rfl⟩ | ⟨b, rfl⟩ | ⟨b, rfl, hl⟩ | ⟨b, rfl⟩
        all_goals first
          | exact thV_len3 hl
          | rfl
      have hF := fun u w => bad none u w n0
      clear bad hI
      rcases hno with rfl | ⟨b, rfl⟩ | ⟨b, rfl⟩ | ⟨b, rfl⟩ | ⟨b, rfl, hl⟩ | ⟨b, rfl⟩
      all_goals repeat' ((fail_if_success (with_reducible show SR.wp (sRaiseF _ _ _ _) _ _ _)); wtm_at "y_dy")
      all_goals first
        | exact sp_raiseF (wp_cons (wp_c (wp_nil ⟨_, rfl, hF _ _⟩)))
        | (exfalso; omega)
  · rintro _ ⟨ns, _, _, rfl, hI, _⟩
    refine ⟨nmO ns, rfl, h1 ns ?_⟩
    rw [hI, show (enumD ds).length = ds.length by simp [enumD], List.drop_length]
    rfl
theorem sp_thingsN {d : D} {names : List Str} {many : Int} {v : V} {P : O × D → Prop} {B : D → Prop} (hd : Pl d = true) (hn : ∀ ds, d ≠ .lst ds) (h2 : B (withO (nmO names) (.exc "NoYard" ["name"] [.non]))) : (f_look_at_things v (nmO names) [d, .int many]).wp P B := by
  refine wp_fnM (ρ0 := [.val d, .val (.int many), .pin v (nmO names), .un, .un]) rfl rfl ?_
  rcases Pl.kinds hd with rfl | ⟨b, rfl⟩ | ⟨i, rfl, _⟩ | ⟨x, rfl, _⟩ | ⟨xs, rfl, _⟩ | ⟨xs, rfl, _, hx⟩
  case inr.inr.inr.inr.inr => exact absurd rfl (hn xs)
  all_goals repeat' ((fail_if_success (with_reducible show SR.wp (sRaiseF _ _ _ _) _ _ _)); first | wtm_at "y_dy" | (with_reducible refine sp_nr ?_))
  all_goals exact sp_raiseF (wp_cons (wp_c (wp_nil ⟨_, rfl, nmO names, rfl, h2⟩)))
def thsV (many : Nat) (ns : List Str) : D → Sum (List Str) (List Str × Option Str)
  | .lst ds => goV many ns 0 ds
  | _ => .inr (ns, none)
theorem goV_len {many : Nat} : ∀ {ds : List D} {ns ms : List Str} {k : Nat}, goV many ns k ds = .inl ms → ms.length = ns.length + ds.length
  | [], ns, ms, k, h => by
    cases h
    rfl
  | d :: ds, ns, ms, k, h => by
    unfold goV at h
    split at h
    · cases h
    · rw [goV_len h]
      simp
      omega
theorem thsV_len {many : Nat} {d : D} {ns ms : List Str} (hd : Pl d = true) (h : thsV many ns d = .inl ms) : ms.length ≤ ns.length + 100000 := by
  unfold thsV at h
  split at h
  · rename_i ds
    rw [goV_len h]
    have := (Pl.lst hd).1
    omega
  · cases h
/-- the call, whatever is handed in -/
theorem calls_things {d : D} {names : List Str} {many : Nat} {A B : O → D → Prop} (hm : many = 2 ∨ many = 3) (hd : Pl d = true) (hl : names.length ≤ 100000)
    (h1 : ∀ ns, thsV many names d = .inl ns → A (nmO ns) .non) (h2 : ∀ ns e, thsV many names d = .inr (ns, e) → B (nmO ns) (.exc "NoYard" ["name"] [optS e])) : CallsTo f_look_at_things (nmO names) [d, .int many] A B := by
  by_cases hx : ∃ ds, d = .lst ds
  · obtain ⟨ds, rfl⟩ := hx
    have hp := Pl.lst hd
    have key : ∀ (v : V) {P : O × D → Prop} {B : D → Prop}, (∀ ns, goV many names 0 ds = .inl ns → P (nmO ns, .non)) → (∀ ns e, goV many names 0 ds = .inr (ns, e) → B (withO (nmO ns) (.exc "NoYard" ["name"] [optS e]))) → (f_look_at_things v (nmO names) [.lst ds, .int many]).wp P B := fun v P B g1 g2 => by
      rcases hm with rfl | rfl
      · exact sp_things2 (Pls.mem hp.2) hp.1 hl g1 g2
      · exact sp_things3 (Pls.mem hp.2) hp.1 hl g1 g2
    have e0 : thsV many names (.lst ds) = goV many names 0 ds := rfl
    rw [e0] at h1 h2
    cases q : goV many names 0 ds with
    | inl ns => exact callsTo_ok (o' := nmO ns) (d := .non) (fun v => key v (fun ns' e => by rw [q] at e; cases e; rfl) fun ns' e' z => by rw [q] at z; cases z) (h1 ns q)
    | inr p =>
      obtain ⟨ns, e⟩ := p
      exact callsTo_err (o' := nmO ns) (e := .exc "NoYard" ["name"] [optS e]) (fun v => key v (fun ns' z => by rw [q] at z; cases z) fun ns' e' z => by rw [q] at z; cases z; rfl) (h2 ns e q)
  · have hx : ∀ ds, d ≠ .lst ds := fun ds z => hx ⟨ds, z⟩
    have e0 : thsV many names d = .inr (names, none) := by
      cases d with
      | lst ds => exact absurd rfl (hx ds)
      | _ => rfl
    exact callsTo_err (o' := nmO names) (e := .exc "NoYard" ["name"] [.non]) (fun v => sp_thingsN hd hx rfl) (h2 names none e0)
/-- the refusal of a yard -/
def yardV : D → Option D
  | .tup [s, w, f] => match sunV s with
    | some a => some (.exc "NoSun" ["at"] [a])
    | none => match thsV 2 [] w with
      | .inr p => some (.exc "NoYard" ["name"] [optS p.2])
      | .inl ns => match thsV 3 ns f with
        | .inr p => some (.exc "NoYard" ["name"] [optS p.2])
        | .inl _ => none
  | _ => some (.exc "NoYard" ["name"] [.non])
theorem yardV_no {xs : List D} (h : xs.length ≠ 3) : yardV (.tup xs) = some (.exc "NoYard" ["name"] [.non]) := by
  match xs, h with
  | [], _ => rfl
  | [_], _ => rfl
  | [_, _], _ => rfl
  | [_, _, _], h => exact absurd rfl h
  | _ :: _ :: _ :: _ :: _, _ => rfl
theorem sp_lookyard {d : D} {P E : D → Prop} (hd : Pl d = true) (h1 : yardV d = none → P .non) (h2 : ∀ e, yardV d = some e → E e) : (f_look_at_yard [d]).wp P E := by
  rcases tup3_or hd with ⟨s, w, f, rfl, hs, hw, hf⟩ | hno
  · have e0 : yardV (.tup [s, w, f]) = match sunV s with
      | some a => some (.exc "NoSun" ["at"] [a])
      | none => match thsV 2 [] w with
        | .inr p => some (.exc "NoYard" ["name"] [optS p.2])
        | .inl ns => match thsV 3 ns f with
          | .inr p => some (.exc "NoYard" ["name"] [optS p.2])
          | .inl _ => none := rfl
    rw [e0] at h1 h2
    wtm_at "y_in"
    repeat' wtm_at "y_dy"
    refine sp_looksun hs (fun es => ?_) fun a ea => ?_
    · rw [es] at h1 h2
      repeat' wtm_at "y_dy"
      refine sp_callM (own_own rfl) ?_
      repeat' wtm_at "y_dy"
      refine wp_aLast (own_own rfl) ?_
      refine calls_things (names := []) (.inl rfl) hw (by simp) (fun ns en => ?_) fun ns e en => ?_
      · rw [en] at h1 h2
        dsimp only at h1 h2
        refine back_own rfl ?_
        repeat' wtm_at "y_dy"
        refine sp_callM (own_own rfl) ?_
        repeat' wtm_at "y_dy"
        refine wp_aLast (own_own rfl) ?_
        refine calls_things (names := ns) (.inr rfl) hf (by have := thsV_len hw en; simpa using this) (fun ms em => ?_) fun ms e em => ?_
        · rw [em] at h1
          refine back_own rfl ?_
          repeat' wtm_at "y_dy"
          exact h1 rfl
        · rw [em] at h2
          refine back_own rfl ?_
          repeat' wtm_at "y_dy"
          exact h2 _ rfl
      · rw [en] at h2
        refine back_own rfl ?_
        repeat' wtm_at "y_dy"
        exact h2 _ rfl
    · rw [ea] at h2
      exact h2 _ rfl
  · have e0 : yardV d = some (.exc "NoYard" ["name"] [.non]) := by
      rcases hno with rfl | ⟨b, rfl⟩ | ⟨b, rfl⟩ | ⟨b, rfl⟩ | ⟨b, rfl, hl⟩ | ⟨b, rfl⟩
      all_goals first
        | exact yardV_no hl
        | rfl
    have hF := h2 _ e0
    wtm_at "y_in"
    rcases hno with rfl | ⟨b, rfl⟩ | ⟨b, rfl⟩ | ⟨b, rfl⟩ | ⟨b, rfl, hl⟩ | ⟨b, rfl⟩
    all_goals repeat' ((fail_if_success (with_reducible show SR.wp (sRaiseF _ _ _ _) _ _ _)); wtm_at "y_dy")
    all_goals first
      | exact sp_raiseF (wp_cons (wp_c (wp_nil ⟨_, rfl, hF⟩)))
      | (exfalso; omega)

/-! ### yards: suns, walls, dials -/
abbrev Tr := Int × Int × Int
abbrev tD (p : Tr) : D := t3 p.1 p.2.1 p.2.2
def Gd (n : Nat) (p : Tr) : Prop := Bd n p.1 ∧ Bd n p.2.1 ∧ Bd n p.2.2
theorem Gd.mono {n m : Nat} {p : Tr} (h : Gd n p) (k : n ≤ m) : Gd m p := ⟨h.1.mono k, h.2.1.mono k, h.2.2.mono k⟩
abbrev Row := Int × Tr
abbrev rowD (r : Row) : D := .tup [.int r.1, tD r.2]
abbrev Plate := Tr × Tr × Tr
abbrev plD (p : Plate) : D := .tup [tD p.1, tD p.2.1, tD p.2.2]
abbrev Wall := Str × Plate
abbrev Dial := Str × Plate × Tr
abbrev wallD (w : Wall) : D := .tup [.str w.1, plD w.2]
abbrev dialD (f : Dial) : D := .tup [.str f.1, plD f.2.1, tD f.2.2]
abbrev yardD (rs : List Row) (ws : List Wall) (fs : List Dial) : D := .tup [.lst (rs.map rowD), .lst (ws.map wallD), .lst (fs.map dialD)]
structure Sun (rs : List Row) : Prop where
  f : ∀ r ∈ rs, ∀ q ∈ rs, r.1 = q.1 → r = q
  n : (rs.map (·.1)).Nodup
instance {rs : List Row} : CoeFun (Sun rs) (fun _ => ∀ r ∈ rs, ∀ q ∈ rs, r.1 = q.1 → r = q) := ⟨Sun.f⟩
theorem Sun.of {rs : List Row} (n : (rs.map (·.1)).Nodup) : Sun rs := ⟨fun r hr q hq e => by
  obtain ⟨i, hi⟩ := List.getElem?_of_mem hr
  obtain ⟨j, hj⟩ := List.getElem?_of_mem hq
  obtain ⟨i1, i2⟩ := List.getElem?_eq_some_iff.mp hi
  obtain ⟨j1, j2⟩ := List.getElem?_eq_some_iff.mp hj
  rw [List.Nodup, List.pairwise_map, List.pairwise_iff_getElem] at n
  rcases Nat.lt_trichotomy i j with h | h | h
  · exact absurd (by rw [i2, j2]; exact e) (n i j i1 j1 h)
  · subst h
    rw [hi] at hj
    exact Option.some.inj hj
  · exact absurd (by rw [i2, j2]; exact e.symm) (n j i j1 i1 h), n⟩
/-! #### reading a list of known length -/
theorem ix_map {α : Type} {f : α → D} {xs : List α} {d : D} (hd : D.lst (xs.map f) = d) {K : Int} (h0 : 0 ≤ K) (h1 : K < xs.length) : ∃ x ∈ xs, oIx d (.int K) = some (f x) := by
  have hk : K.toNat < xs.length := by omega
  refine ⟨xs[K.toNat], List.getElem_mem hk, ?_⟩
  have q : (xs.map f)[K.toNat]? = some (f xs[K.toNat]) := by rw [List.getElem?_map, List.getElem?_eq_getElem hk]; rfl
  have z := atI_nat q
  rw [show ((K.toNat : Nat) : Int) = K by omega] at z
  rw [← hd]
  exact z
theorem len_map {α : Type} {f : α → D} {xs : List α} {d : D} (hd : D.lst (xs.map f) = d) : oLen [d] = some (.int xs.length) := by
  rw [← hd]
  show some (D.int ((xs.map f).length : Nat)) = _
  rw [List.length_map]
/-! #### the sun -/
/-! #### a dial, a fence -/
/-! #### names -/
/-! ### numbers drawn by two roads -/
theorem sp_draw {c k many : Int} (h0 : 0 ≤ k) (h1 : k < 1000) (hm0 : 0 < many) (hm1 : many < 1000000) : (f__law_draw [.int c, .int k, .int many]).wp (fun d => ∃ v, d = .int v ∧ 0 ≤ v ∧ v < many) NoE := by
  have hk : Bd 10 k := Bd.le (j := 1000) (Bd.lit (by decide)) h0 (by omega)
  have e1 : ∀ z : Int, 0 ≤ z % many ∧ z % many < many := fun z => ⟨Int.emod_nonneg _ (by omega), Int.emod_lt_of_pos _ hm0⟩
  wtm_at "y_in"
  wtm_at "y_go"
  · refine forS_inv (fun i ρ => ∃ l w, ρ = [.val (.int c), .val (.int k), .val (.int many), .val (.int l), w, .un]) ⟨_, _, rfl⟩ ?_ ?_
    · rintro i d _ ed ⟨l, w, rfl⟩
      obtain ⟨rfl, hi⟩ := rangeD_get ed
      wtm_at "y_go"
      exact ⟨_, _, rfl⟩
    · rintro _ ⟨l, w, rfl⟩
      wtm_at "y_go"
      · exact ⟨_, rfl, e1 _⟩
      · exact ⟨_, rfl, e1 _⟩
  · exact ⟨_, rfl, e1 _⟩

/-! ### comprehensions over a list of any length -/
section
variable {α : Type} {b : D → REnv → Option REnv} {c : REnv → R Bool} {e : REnv → R D} {ρ : REnv} {f g : α → D} {keep : α → Bool} {P : List D → Prop}
theorem c_list : ∀ (xs : List α), (∀ x ∈ xs, Got (b (f x) ρ) fun ρ' => (c ρ').wp (fun k => k = keep x ∧ (k = true → (e ρ').wp (fun v => v = g x) NoE)) NoE) → Got (compS b c e (xs.map f) ρ) fun rs => rs = (xs.filter keep).map g
  | [], _ => c_nil rfl
  | x :: xs, h => by
    have hx := h x List.mem_cons_self
    obtain ⟨ρ', e1, h1⟩ := hx
    refine c_cons ⟨ρ', e1, h1.imp (fun k hk => ?_) fun _ z => z⟩
    obtain ⟨rs, er, hr⟩ := c_list xs fun y hy => h y (List.mem_cons_of_mem _ hy)
    refine ⟨fun k1 => (hk.2 k1).imp (fun v hv => ⟨rs, er, ?_⟩) fun _ z => z, fun k0 => ⟨rs, er, ?_⟩⟩
    · rw [hr, hv, List.filter_cons_of_pos (by rw [← hk.1, k1])]
      rfl
    · rw [hr, List.filter_cons_of_neg (by rw [← hk.1, k0]; decide)]
theorem c_listG {xs : List α} (h : ∀ x ∈ xs, Got (b (f x) ρ) fun ρ' => (c ρ').wp (fun k => k = keep x ∧ (k = true → (e ρ').wp (fun v => v = g x) NoE)) NoE) (hp : P ((xs.filter keep).map g)) : Got (compS b c e (xs.map f) ρ) P := by
  obtain ⟨rs, e1, e2⟩ := c_list xs h
  exact ⟨rs, e1, by rw [e2]; exact hp⟩
theorem c_mapG {xs : List α} (h : ∀ x ∈ xs, Got (b (f x) ρ) fun ρ' => (e ρ').wp (fun v => v = g x) NoE) (hp : P (xs.map g)) : Got (compS b eYes e (xs.map f) ρ) P := by
  refine c_listG (keep := fun _ => true) (g := g) (fun x hx => ?_) ?_
  · obtain ⟨ρ', e1, h1⟩ := h x hx
    exact ⟨ρ', e1, wp_yes ⟨rfl, fun _ => h1⟩⟩
  · rw [List.filter_eq_self.mpr (fun _ _ => rfl)]
    exact hp
end

local macro_rules | `(tactic| wtm_at "y_fn") => `(tactic| ((with_reducible show Got (oInt [D.bl _]) _); refine g_ot rfl ?_))
local macro_rules | `(tactic| wtm_at "y_fn") => `(tactic| first | (with_reducible refine sp_nr ?_) | (with_reducible refine sp_retL ?_) | (with_reducible refine is_l ?_) | (with_reducible refine sp_setO ?_) | ((with_reducible show SR.wp (sRetO _ _) _ _ _); refine sp_retO rfl ?_))

/-! ### texts alike -/
theorem eqD_str {a b : Str} (ha : PyData.strOk a = true) : eqD (.str a) (.str b) = decide (a = b) := by
  by_cases h : a = b
  · subst h
    rw [eqD_refl 40 (.str a) ha, decide_t rfl]
  · rw [decide_f h]
    simp only [eqD, D.py, PyData.eqv]
    exact beq_eq_false_iff_ne.mpr h
theorem w_eqStr {a b : Str} {P : D → Prop} (ha : PyData.strOk a = true) (hb : PyData.strOk b = true) (h : P (.bl (decide (a = b)))) : Got (oEq (.str a) (.str b)) P := w_eq ha hb (by rw [eqD_str ha]; exact h)
theorem w_neStr {a b : Str} {P : D → Prop} (ha : PyData.strOk a = true) (hb : PyData.strOk b = true) (h : P (.bl (!decide (a = b)))) : Got (oNe (.str a) (.str b)) P := w_ne ha hb (by rw [eqD_str ha]; exact h)

/-! ### yards that are drawn -/
def N9 (x : Int) : Prop := -1000000000 ≤ x ∧ x ≤ 1000000000
theorem N9.bd {x : Int} (h : N9 x) : Bd 31 x := by unfold N9 at h; unfold Bd; omega
def G9 (t : Tr) : Prop := N9 t.1 ∧ N9 t.2.1 ∧ N9 t.2.2
def P9 (p : Plate) : Prop := G9 p.1 ∧ G9 p.2.1 ∧ G9 p.2.2
theorem sp_celln (ns : List Int) (k : Int) (h0 : 0 ≤ k) : (f__law_cell_at [.lst (ns.map .int), .int k]).wp (fun d => ∃ c, d = .int c) NoE := by
  wtm_at "y_in"
  wtm_at "y_go"
  · rename_i hlt
    rw [List.length_map] at hlt
    obtain ⟨c, _, e⟩ := ix_map (f := D.int) (xs := ns) rfl h0 hlt
    refine g_ot e ?_
    exact ⟨_, rfl⟩
  · exact ⟨_, rfl⟩
/-! ### names, suns and yards that are drawn -/
/-! #### texts -/
open TL
def Lw (x : Str) : Prop := ∀ c ∈ tl x, 97 ≤ c ∧ c < 123
theorem slen (x : Str) : x.length = (tl x).length := by
  show x.cps.size = x.cps.toList.length
  rw [Array.length_toList]
theorem strOk_tl {x : Str} (h : ∀ c ∈ tl x, c < 0x110000) : PyData.strOk x = true := by
  show x.cps.all (· < 0x110000) = true
  rw [Array.all_eq_true_iff_forall_mem]
  intro c hc
  exact decide_eq_true (h c (Array.mem_toList_iff.mpr hc))
theorem Lw.ok {x : Str} (h : Lw x) : PyData.strOk x = true := strOk_tl fun c hc => by have := h c hc; omega
theorem tl_app (a b : Str) : tl (a ++ b) = tl a ++ tl b := by
  show (a.cps ++ b.cps).toList = _
  rw [Array.toList_append]
theorem Lw.app {a b : Str} (ha : Lw a) (hb : Lw b) : Lw (a ++ b) := fun c hc => by
  rw [tl_app] at hc
  exact (List.mem_append.mp hc).elim (ha c) (hb c)
theorem cat {a b : Str} (h : a.length + b.length ≤ 10000) : oAdd (.str a) (.str b) = some (.str (a ++ b)) := by
  have hl : a.length + b.length ≤ sizeLine := by rw [sizeLine_eq]; omega
  show (oAddI _ _).or ((if a.length + b.length ≤ sizeLine then some (D.str (a ++ b)) else none).or _) = _
  rw [if_pos hl]
  rfl
theorem oLen_str {x : Str} (h : x.length ≤ 10000) : oLen [.str x] = some (.int x.length) := if_pos (by rw [sizeLine_eq]; omega)
theorem cut_lo {z : Str} {a : Int} (h0 : 0 ≤ a) (h1 : a ≤ z.length) : tl (cutS z none (some a)) = (tl z).take a.toNat := by
  unfold cutS
  show (List.toArray _).toList = _
  have e1 : HT.sIx z.length z.length (some a) = a.toNat := by
    show (if a < 0 then (a + (z.length : Int)).toNat else min a.toNat z.length) = _
    rw [if_neg (by omega)]
    omega
  have e2 : HT.sIx z.length 0 none = 0 := rfl
  rw [e1, e2]
  simp
theorem cut_hi {z : Str} {a : Int} (h0 : 0 ≤ a) (h1 : a ≤ z.length) : tl (cutS z (some a) none) = (tl z).drop a.toNat := by
  unfold cutS
  show (List.toArray _).toList = _
  have e1 : HT.sIx z.length 0 (some a) = a.toNat := by
    show (if a < 0 then (a + (z.length : Int)).toNat else min a.toNat z.length) = _
    rw [if_neg (by omega)]
    omega
  have e2 : HT.sIx z.length z.length none = z.length := rfl
  rw [e1, e2, slen]
  rw [List.take_of_length_le]
  rw [List.length_drop]
  show (tl z).length - _ ≤ _
  omega
def Nm (x : Str) : Prop := Lw x ∧ 1 ≤ x.length ∧ x.length ≤ 8
theorem cut_ints (ns : List Int) (lo hi : Option Int) : ∃ cs : List Int, Dy.cutD (ns.map .int) lo hi = cs.map .int ∧ cs.length ≤ ns.length := by
  refine ⟨((ns.drop _).take _), by unfold Dy.cutD; rw [← List.map_drop, ← List.map_take], ?_⟩
  rw [List.length_take, List.length_drop]
  omega
/-! ### numbers as texts -/
open TL
abbrev numS (i : Int) : Str := Str.ofString (toString i)
def digs (n : Nat) : List Nat := (Nat.toDigits 10 n).map Char.toNat
theorem str_ext {x y : Str} (h : tl x = tl y) : x = y := by
  show (⟨x.cps⟩ : Str) = ⟨y.cps⟩
  rw [Array.toList_inj.mp h]
theorem tl_ofString (s : String) : tl (Str.ofString s) = s.toList.map Char.toNat := by
  rw [Str.ofString_eq_toList]
theorem tl_num (i : Int) : tl (numS i) = (if i < 0 then [45] else []) ++ digs i.natAbs := by
  rw [tl_ofString]
  cases i with
  | ofNat m =>
    rw [if_neg (fun z => absurd (Int.natCast_nonneg m) (by have : (m : Int) < 0 := z; omega))]
    show (Nat.repr m).toList.map Char.toNat = _
    rw [Nat.toList_repr]
    rfl
  | negSucc m =>
    rw [if_pos (Int.negSucc_lt_zero m)]
    show ("-" ++ Nat.repr (m + 1)).toList.map Char.toNat = _
    rw [String.toList_append, List.map_append, Nat.toList_repr]
    rfl
theorem digitChar_nat : ∀ d : Nat, d < 10 → (Nat.digitChar d).toNat = 48 + d := by decide
theorem digs_step (n : Nat) : digs n = (if n / 10 = 0 then [] else digs (n / 10)) ++ [48 + n % 10] := by
  unfold digs
  have hm : n % 10 < 10 := Nat.mod_lt n (by decide)
  by_cases h : n < 10
  · rw [Nat.toDigits_of_lt_base h, if_pos (by omega)]
    show [(Nat.digitChar n).toNat] = [48 + n % 10]
    rw [digitChar_nat n h, show n % 10 = n by omega]
  · rw [if_neg (by omega)]
    have t : Nat.toDigits 10 (n / 10) ++ Nat.toDigits 10 (n % 10) = Nat.toDigits 10 (10 * (n / 10) + n % 10) := Nat.toDigits_append_toDigits (by decide) (by omega) hm
    rw [Nat.div_add_mod] at t
    rw [← t, List.map_append, Nat.toDigits_of_lt_base hm]
    show _ ++ [(Nat.digitChar (n % 10)).toNat] = _
    rw [digitChar_nat _ hm]
theorem digs_len : ∀ (k n : Nat), n < 10 ^ (k + 1) → (digs n).length ≤ k + 1
  | 0, n, h => by
    rw [digs_step, if_pos (by omega)]
    simp
  | k + 1, n, h => by
    rw [digs_step]
    have : n / 10 < 10 ^ (k + 1) := by
      rw [Nat.pow_succ] at h
      omega
    have := digs_len k (n / 10) this
    split
    · simp
    · rw [List.length_append, List.length_singleton]
      omega
theorem digs_range : ∀ (k n : Nat), n < 10 ^ (k + 1) → ∀ c ∈ digs n, 48 ≤ c ∧ c < 58
  | 0, n, h, c, hc => by
    rw [digs_step, if_pos (by omega)] at hc
    have hc : c ∈ [48 + n % 10] := hc
    rw [List.mem_singleton.mp hc]
    omega
  | k + 1, n, h, c, hc => by
    rw [digs_step] at hc
    have h2 : n / 10 < 10 ^ (k + 1) := by
      rw [Nat.pow_succ] at h
      omega
    rcases List.mem_append.mp hc with hc | hc
    · split at hc
      · cases hc
      · exact digs_range k _ h2 c hc
    · rw [List.mem_singleton.mp hc]
      omega
theorem digs_ne (n : Nat) : digs n ≠ [] := by
  rw [digs_step]
  simp
/-- a text of plain signs -/
def PlT (n : Nat) (x : Str) : Prop := x.length ≤ n ∧ ∀ c ∈ tl x, c < 1000
theorem PlT.ok {n : Nat} {x : Str} (h : PlT n x) : PyData.strOk x = true := strOk_tl fun c hc => by have := h.2 c hc; omega
theorem PlT.app {n m : Nat} {a b : Str} (ha : PlT n a) (hb : PlT m b) : PlT (n + m) (a ++ b) := ⟨by
  have : (a ++ b).length = a.length + b.length := Array.size_append
  have := ha.1
  have := hb.1
  omega, fun c hc => by
  rw [tl_app] at hc
  exact (List.mem_append.mp hc).elim (ha.2 c) (hb.2 c)⟩
theorem PlT.mono {n m : Nat} {a : Str} (h : PlT n a) (k : n ≤ m) : PlT m a := ⟨Nat.le_trans h.1 k, h.2⟩
theorem num_Pl {i : Int} (h : N9 i) : PlT 11 (numS i) := by
  unfold N9 at h
  have hn : i.natAbs < 10 ^ (9 + 1) := by omega
  have l := digs_len 9 _ hn
  have r := digs_range 9 _ hn
  refine ⟨?_, fun c hc => ?_⟩
  · rw [slen, tl_num, List.length_append]
    split
    · simp; omega
    · simp; omega
  · rw [tl_num] at hc
    rcases List.mem_append.mp hc with hc | hc
    · split at hc
      · rw [List.mem_singleton.mp hc]; decide
      · cases hc
    · have := r c hc
      omega
theorem joinL_len (S : List Nat) : ∀ ps : List (List Nat), (joinL S ps).length ≤ (ps.map List.length).sum + ps.length * S.length
  | [] => by simp [joinL]
  | [p] => by simp [joinL]
  | p :: q :: r => by
    show (p ++ (S ++ joinL S (q :: r))).length ≤ _
    have := joinL_len S (q :: r)
    rw [List.length_append, List.length_append, List.map_cons, List.sum_cons, List.length_cons (a := p), Nat.succ_mul]
    omega
theorem joinL_mem {S : List Nat} {c : Nat} : ∀ {ps : List (List Nat)}, c ∈ joinL S ps → c ∈ S ∨ ∃ p ∈ ps, c ∈ p
  | [], h => nomatch h
  | [p], h => .inr ⟨p, List.mem_cons_self, h⟩
  | p :: q :: r, h => by
    have h : c ∈ p ++ (S ++ joinL S (q :: r)) := h
    rcases List.mem_append.mp h with h | h
    · exact .inr ⟨p, List.mem_cons_self, h⟩
    · rcases List.mem_append.mp h with h | h
      · exact .inl h
      · rcases joinL_mem h with h | ⟨p', hp, h⟩
        · exact .inl h
        · exact .inr ⟨p', List.mem_cons_of_mem _ hp, h⟩
theorem sum_le {α : Type} {f : α → Nat} {n : Nat} : ∀ {xs : List α}, (∀ x ∈ xs, f x ≤ n) → (xs.map f).sum ≤ xs.length * n
  | [], _ => by simp
  | x :: xs, h => by
    have := sum_le fun y hy => h y (List.mem_cons_of_mem _ hy)
    have := h x List.mem_cons_self
    rw [List.map_cons, List.sum_cons, List.length_cons, Nat.succ_mul]
    omega
theorem sum_Pl {n : Nat} {xs : List Str} (h : ∀ x ∈ xs, PlT n x) : (xs.map (·.length)).sum ≤ xs.length * n := sum_le fun x hx => (h x hx).1
theorem join_Pl {a : Str} {n m k : Nat} {xs : List Str} (ha : PlT k a) (h : ∀ x ∈ xs, PlT n x) (hl : xs.length ≤ m) : PlT (m * (n + k)) (Txt.join a xs) := by
  refine ⟨?_, fun c hc => ?_⟩
  · rw [slen, join_eq, tl_join]
    refine Nat.le_trans (joinL_len _ _) ?_
    rw [List.map_map, List.length_map]
    have e : (xs.map (List.length ∘ tl)).sum ≤ xs.length * n := sum_le fun x hx => by
      show (tl x).length ≤ n
      rw [← slen]
      exact (h x hx).1
    have e2 : (tl a).length ≤ k := by rw [← slen]; exact ha.1
    calc _ ≤ xs.length * n + xs.length * k := Nat.add_le_add e (Nat.mul_le_mul_left _ e2)
      _ = xs.length * (n + k) := (Nat.mul_add _ _ _).symm
      _ ≤ _ := Nat.mul_le_mul_right _ hl
  · rw [join_eq, tl_join] at hc
    rcases joinL_mem hc with hc | ⟨p, hp, hc⟩
    · exact ha.2 c hc
    · obtain ⟨x, hx, rfl⟩ := List.mem_map.mp hp
      exact (h x hx).2 c hc
theorem Nm.pl {x : Str} (h : Nm x) : PlT 8 x := ⟨h.2.2, fun c hc => by have := h.1 c hc; omega⟩
theorem lit_Pl {s : String} (n : Nat) (h : (Str.ofString s).length ≤ n ∧ ((tl (Str.ofString s)).all fun c => decide (c < 1000)) = true) : PlT n (Str.ofString s) := ⟨h.1, fun c hc => of_decide_eq_true (List.all_eq_true.mp h.2 c hc)⟩

/-! ### k83: figures, words, rows -/
open TL
/-! ### k83: rows and the law -/
open TL
def spS : Str := Str.ofString " "
def nlS : Str := Str.ofString "\n"
theorem sp_Pl : PlT 1 spS := lit_Pl 1 (by decide +kernel)
theorem nl_Pl : PlT 1 nlS := lit_Pl 1 (by decide +kernel)
def tripS (t : Tr) : Str := Txt.join spS [numS t.1, numS t.2.1, numS t.2.2]
def wordsS (ts : List Tr) : Str := Txt.join spS (ts.map tripS)
theorem trip_Pl {t : Tr} (h : G9 t) : PlT 36 (tripS t) := join_Pl (n := 11) (m := 3) (k := 1) sp_Pl (fun x hx => by
  simp only [List.mem_cons, List.not_mem_nil, or_false] at hx
  rcases hx with rfl | rfl | rfl
  · exact num_Pl h.1
  · exact num_Pl h.2.1
  · exact num_Pl h.2.2) (by simp)
theorem words_Pl {ts : List Tr} (h : ∀ t ∈ ts, G9 t) (hl : ts.length ≤ 4) : PlT 150 (wordsS ts) := (join_Pl (n := 36) (m := 4) (k := 1) sp_Pl (fun x hx => by
  obtain ⟨t, ht, rfl⟩ := List.mem_map.mp hx
  exact trip_Pl (h t ht)) (by rw [List.length_map]; exact hl)).mono (by decide)
section
variable {d : D} {ts : List Tr} {P : D → Prop}
end
def sunS (r : Row) : Str := ((Str.ofString "sun " ++ numS r.1) ++ spS) ++ wordsS [r.2]
def wallS (w : Wall) : Str := ((Str.ofString "wall " ++ w.1) ++ spS) ++ wordsS [w.2.1, w.2.2.1, w.2.2.2]
def dialS (f : Dial) : Str := ((Str.ofString "dial " ++ f.1) ++ spS) ++ wordsS [f.2.1.1, f.2.1.2.1, f.2.1.2.2, f.2.2]
def rowsS (rs : List Row) (ws : List Wall) (fs : List Dial) : List Str := (rs.map sunS ++ ws.map wallS) ++ fs.map dialS
theorem hour9 {h : Int} (k : 0 ≤ h ∧ h ≤ 9999) : N9 h := by unfold N9; omega
theorem sun_Pl {r : Row} (h : (0 ≤ r.1 ∧ r.1 ≤ 9999) ∧ G9 r.2) : PlT 200 (sunS r) := ((((lit_Pl (s := "sun ") 5 (by decide +kernel)).app (num_Pl (hour9 h.1))).app sp_Pl).app (words_Pl (fun t ht => by rw [List.mem_singleton.mp ht]; exact h.2) (by simp))).mono (by decide)
theorem wall_Pl {w : Wall} (h : Nm w.1 ∧ P9 w.2) : PlT 200 (wallS w) := ((((lit_Pl (s := "wall ") 5 (by decide +kernel)).app h.1.pl).app sp_Pl).app (words_Pl (fun t ht => by
  simp only [List.mem_cons, List.not_mem_nil, or_false] at ht
  rcases ht with rfl | rfl | rfl
  · exact h.2.1
  · exact h.2.2.1
  · exact h.2.2.2) (by simp))).mono (by decide)
theorem dial_Pl {f : Dial} (h : Nm f.1 ∧ P9 f.2.1 ∧ G9 f.2.2) : PlT 200 (dialS f) := ((((lit_Pl (s := "dial ") 5 (by decide +kernel)).app h.1.pl).app sp_Pl).app (words_Pl (fun t ht => by
  simp only [List.mem_cons, List.not_mem_nil, or_false] at ht
  rcases ht with rfl | rfl | rfl | rfl
  · exact h.2.1.1
  · exact h.2.1.2.1
  · exact h.2.1.2.2
  · exact h.2.2) (by simp))).mono (by decide)
def RowOk (r : Row) : Prop := (0 ≤ r.1 ∧ r.1 ≤ 9999) ∧ G9 r.2
def WallOk (w : Wall) : Prop := Nm w.1 ∧ P9 w.2
def DialOk (f : Dial) : Prop := Nm f.1 ∧ P9 f.2.1 ∧ G9 f.2.2
theorem rows_Pl {rs : List Row} {ws : List Wall} {fs : List Dial} (hr : ∀ r ∈ rs, RowOk r) (hw : ∀ w ∈ ws, WallOk w) (hf : ∀ f ∈ fs, DialOk f) : ∀ x ∈ rowsS rs ws fs, PlT 200 x := fun x hx => by
  unfold rowsS at hx
  rcases List.mem_append.mp hx with hx | hx
  · rcases List.mem_append.mp hx with hx | hx
    · obtain ⟨r, hr', rfl⟩ := List.mem_map.mp hx
      exact sun_Pl (hr r hr')
    · obtain ⟨w, hw', rfl⟩ := List.mem_map.mp hx
      exact wall_Pl (hw w hw')
  · obtain ⟨f, hf', rfl⟩ := List.mem_map.mp hx
    exact dial_Pl (hf f hf')
section
variable {rs : List Row} {ws : List Wall} {fs : List Dial} {P : D → Prop}
end

/-! ### numbers read from words -/
open TL
def digC (c : Nat) : Bool := decide (48 ≤ c ∧ c ≤ 57)
def lftN : List Nat → List Nat
  | 45 :: r => r
  | cs => cs
def numOk (cs : List Nat) : Bool := decide (1 ≤ (lftN cs).length ∧ (lftN cs).length ≤ 10) && (!(decide ((lftN cs).head? = some 48) && !decide (cs = [48]))) && (lftN cs).all digC
def valN (cs : List Nat) : Int := if cs.head? = some 45 then -((NumText.digitsVal (lftN cs) : Nat) : Int) else ((NumText.digitsVal cs : Nat) : Int)
def optN (x : Option Int) : D := match x with
  | some i => .int i
  | none => .non
def numV (cs : List Nat) : Option Int := if numOk cs = true then some (valN cs) else none
theorem in_09 (c : Nat) : decide (c ∈ (Str.ofString "0123456789").cps.toList) = digC c := by
  have e : (Str.ofString "0123456789").cps.toList = (List.range 10).map (48 + ·) := by decide +kernel
  unfold digC
  rw [e, decide_eq_decide, List.mem_map]
  constructor
  · rintro ⟨i, hi, rfl⟩
    have := List.mem_range.mp hi
    omega
  · intro h
    exact ⟨c - 48, List.mem_range.mpr (by omega), by omega⟩
theorem lft_minus {cs : List Nat} (h : cs.head? = some 45) : cs = 45 :: lftN cs := by
  cases cs with
  | nil => cases h
  | cons c r =>
    have h : some c = some 45 := h
    cases h
    rfl
theorem lft_else {cs : List Nat} (h : cs.head? ≠ some 45) : lftN cs = cs := by
  unfold lftN
  split
  · exact absurd rfl h
  · rfl
theorem sl_cut (z : Str) : tl (cutS z none (some 1)) = (tl z).take 1 := by
  by_cases h : 1 ≤ z.length
  · exact cut_lo (by decide) (by omega)
  · have e : tl z = [] := List.eq_nil_of_length_eq_zero (by rw [← slen]; omega)
    have l := cutS_length z none (some 1)
    rw [e]
    exact List.eq_nil_of_length_eq_zero (by rw [← slen]; omega)
set_option maxHeartbeats 2000000 in
theorem sp_numin {w : Str} (hl : w.length ≤ 600) (ok : ∀ c ∈ tl w, c < 0x110000) {P : D → Prop} (hP : P (optN (numV (tl w)))) : (f_number_in [.str w]).wp P NoE := by
  have okw : PyData.strOk w = true := strOk_tl ok
  have cut1 := sl_cut w
  have okc : PyData.strOk (cutS w none (some 1)) = true := strOk_tl fun c hc => by rw [cut1] at hc; exact ok c (List.mem_of_mem_take hc)
  have eqm : ∀ {P : D → Prop}, P (.bl (decide ((tl w).head? = some 45))) → Got (oEq (.str (cutS w none (some 1))) (.str (Str.ofString "-"))) P := fun {P} h => by
    refine w_eqStr okc (by decide +kernel) ?_
    have : decide (cutS w none (some 1) = Str.ofString "-") = decide ((tl w).head? = some 45) := decide_eq_decide.mpr ⟨fun e => by
      rw [e] at cut1
      cases hw : tl w with
      | nil => rw [hw] at cut1; cases cut1
      | cons c r =>
        rw [hw] at cut1
        have cut1 : [45] = [c] := cut1
        cases cut1
        rfl, fun e => by
      refine str_ext ?_
      rw [cut1, lft_minus e]
      rfl⟩
    rw [this]
    exact h
  have wsz : w.length ≤ sizeLine := by rw [sizeLine_eq]; omega
  have main : ∀ {left : Str} {u : Sl} {N : REnv → Prop}, tl left = lftN (tl w) → ((sSeq (sIf (eOr (eNot (eTest (eChain oLe oLe (eC (.int 1)) (eN oLen (aCons (eVar 1) (aNil))) (eC (.int 10))))) (eAnd (eTest (eBin oEq (eBin oIx (eVar 1) (eC (.int 0))) (eC (.str "0")))) (eTest (eBin oNe (eVar 0) (eC (.str "0")))))) (sRet (eC .non)) (sSkip))
    (sSeq (sFor (iD (eVar 1)) (bName 2) (sIf (eTest (eBin oNinX (eVar 2) (eC (.str "0123456789")))) (sRet (eC .non)) (sSkip)))
    (sRet (eN oIntS (aCons (eVar 0) (aNil)))))) [.val (.str w), .val (.str left), u]).wp N P (fun e _ => NoE e) := by
    intro left u N hlft
    have lsz : left.length ≤ 600 := by
      rw [slen, hlft]
      have : (lftN (tl w)).length ≤ (tl w).length := by
        unfold lftN
        split
        · rename_i r e
          rw [e]
          simp
        · exact Nat.le_refl _
      rw [slen] at hl
      omega
    obtain ⟨L, hL⟩ : ∃ L : Int, (left.length : Int) = L := ⟨_, rfl⟩
    have elen : oLen [.str left] = some (.int L) := by rw [oLen_str (by omega), hL]
    have lL : (lftN (tl w)).length = left.length := by rw [slen, hlft]
    have neg : numOk (tl w) = false → P .non := fun h => by
      unfold numV at hP
      rw [h] at hP
      exact hP
    have loop : ∀ {g : REnv → SR} {N : REnv → Prop} {T : D → Prop} {E : D → REnv → Prop},
        (∀ (c : Nat) (ρ : REnv), (∃ u : Sl, ρ = [.val (.str w), .val (.str left), u]) → Got (bName 2 (.str ⟨#[c]⟩) ρ) fun ρ' => (g ρ').wp (fun ρ => digC c = true ∧ ∃ u : Sl, ρ = [.val (.str w), .val (.str left), u]) (fun d => digC c = false ∧ d = .non) E) →
        ∀ (cs : List Nat) (ρ : REnv), (∃ u : Sl, ρ = [.val (.str w), .val (.str left), u]) → (∀ u : Sl, cs.all digC = true → N [.val (.str w), .val (.str left), u]) → (cs.all digC = false → T .non) → (forS (bName 2) g (cs.map fun c => .str ⟨#[c]⟩) ρ).wp N T E := by
      intro g N T E hg cs
      induction cs with
      | nil =>
        rintro _ ⟨u, rfl⟩ hN hT
        refine fs_nil (hN u rfl)
      | cons c cs ih =>
        intro ρ hρ hN hT
        rw [List.map_cons]
        refine fs_cons ?_
        obtain ⟨ρ', e1, h1⟩ := hg c ρ hρ
        refine ⟨ρ', e1, h1.imp ?_ ?_ fun _ _ z => z⟩
        · rintro ρ2 ⟨hc, hρ2⟩
          refine ih ρ2 hρ2 (fun u hu => hN u (by rw [List.all_cons, hc, hu]; rfl)) fun hu => hT (by rw [List.all_cons, hc, hu]; rfl)
        · rintro d ⟨hc, rfl⟩
          exact hT (by rw [List.all_cons, hc]; rfl)
    have rest : ∀ {N : REnv → Prop} {u : Sl}, (1 ≤ L ∧ L ≤ 10) → ((lftN (tl w)).head? = some 48 → tl w = [48]) → ((sSeq (sFor (iD (eVar 1)) (bName 2) (sIf (eTest (eBin oNinX (eVar 2) (eC (.str "0123456789")))) (sRet (eC .non)) (sSkip)))
        (sRet (eN oIntS (aCons (eVar 0) (aNil))))) [.val (.str w), .val (.str left), u]).wp N P (fun e _ => NoE e) := by
      intro N u h1 h2
      repeat' ((fail_if_success (with_reducible show Dy.Got (iterD _) _)); wtm_at "y_dy")
      refine g_ot (show iterD (.str left) = some (left.cps.toList.map fun c => .str ⟨#[c]⟩) from rfl) ?_
      refine loop ?_ left.cps.toList _ ⟨_, rfl⟩ (fun u hu => ?_) fun hu => ?_
      · rintro c _ ⟨u, rfl⟩
        refine w_bName ?_
        repeat' ((fail_if_success (with_reducible show Dy.Got (oNinX _ _) _)); wtm_at "y_dy")
        refine w_ninXc ?_
        rw [in_09]
        cases e : digC c
        · repeat' wtm_at "y_dy"
          exact ⟨rfl, rfl⟩
        · repeat' wtm_at "y_dy"
          exact ⟨rfl, _, rfl⟩
      · have hu : (lftN (tl w)).all digC = true := by rw [← hlft]; exact hu
        have hd : NumText.AllDigits (lftN (tl w)) := fun c hc => of_decide_eq_true (List.all_eq_true.mp hu c hc)
        have hne : lftN (tl w) ≠ [] := fun e => by rw [e] at lL; simp at lL; omega
        have ok2 : numOk (tl w) = true := by
          unfold numOk
          rw [hu, lL, decide_t (by omega), Bool.true_and, Bool.and_true]
          by_cases hz : (lftN (tl w)).head? = some 48
          · rw [decide_t hz, decide_t (h2 hz)]; rfl
          · rw [decide_f hz]; rfl
        have it : PySem.intText? w = some (valN (tl w)) := by
          unfold valN
          by_cases hm : (tl w).head? = some 45
          · rw [if_pos hm]
            exact PySem.intText_neg (lft_minus hm) hd hne (by omega)
          · rw [if_neg hm]
            rw [lft_else hm] at hd hne
            exact PySem.intText_digits hd hne (by omega)
        have ei : oIntS [.str w] = some (.int (valN (tl w))) := by
          show (match PySem.intText? w with
            | some n => if w.length ≤ 640 then some (D.int n) else none
            | none => none) = _
          rw [it]
          exact if_pos (by omega)
        unfold numV at hP
        rw [if_pos ok2] at hP
        repeat' ((fail_if_success (with_reducible show Dy.Got (oIntS _) _)); wtm_at "y_dy")
        exact g_ot ei hP
      · have hu : (lftN (tl w)).all digC = false := by rw [← hlft]; exact hu
        refine neg ?_
        unfold numOk
        rw [hu, Bool.and_false]
    have ix0 : 1 ≤ L → ∃ c : Nat, (lftN (tl w)).head? = some c ∧ c < 0x110000 ∧ oIx (.str left) (.int 0) = some (.str ⟨#[c]⟩) := fun h => by
      cases e : lftN (tl w) with
      | nil => rw [e] at lL; simp at lL; omega
      | cons c r =>
        refine ⟨c, rfl, ?_, ?_⟩
        · refine ok c ?_
          have : c ∈ lftN (tl w) := by rw [e]; exact List.mem_cons_self
          by_cases hm : (tl w).head? = some 45
          · rw [lft_minus hm]; exact List.mem_cons_of_mem _ this
          · rw [lft_else hm] at this; exact this
        · show (if left.length ≤ sizeLine then (L2.atI (tl left) ((0 : Nat) : Int)).map fun c => D.str ⟨#[c]⟩ else none) = _
          rw [if_pos (by rw [sizeLine_eq]; omega), hlft, e, atI_nat (j := 0) rfl]
          rfl
    have eq0 : ∀ {c : Nat} {P : D → Prop}, c < 0x110000 → P (.bl (decide (c = 48))) → Got (oEq (.str ⟨#[c]⟩) (.str (Str.ofString "0"))) P := fun {c P} hc h => by
      refine w_eqStr (strOk_tl fun d hd => by
        have hd : d ∈ [c] := hd
        rw [List.mem_singleton.mp hd]; exact hc) (by decide +kernel) ?_
      have : decide ((⟨#[c]⟩ : Str) = Str.ofString "0") = decide (c = 48) := decide_eq_decide.mpr ⟨fun e => by
        have := congrArg tl e
        have this : [c] = [48] := this
        cases this; rfl, fun e => by rw [e]; rfl⟩
      rw [this]
      exact h
    have ne0 : ∀ {P : D → Prop}, P (.bl (!decide (tl w = [48]))) → Got (oNe (.str w) (.str (Str.ofString "0"))) P := fun {P} h => by
      refine w_neStr okw (by decide +kernel) ?_
      have : decide (w = Str.ofString "0") = decide (tl w = [48]) := decide_eq_decide.mpr ⟨fun e => by rw [e]; rfl, fun e => str_ext (by rw [e]; rfl)⟩
      rw [this]
      exact h
    have bad : ¬(1 ≤ L ∧ L ≤ 10) → P .non := fun h => neg (by
      unfold numOk
      rw [lL, decide_f (by omega)]
      rfl)
    repeat' ((fail_if_success (with_reducible show Dy.Got (oLen _) _)); wtm_at "y_dy")
    refine g_ot elen ?_
    repeat' ((fail_if_success (with_reducible show Dy.Got (oIx _ _) _)); wtm_at "y_dy")
    all_goals first
      | exact bad (by omega)
      | skip
    obtain ⟨c, hc, hc2, ec⟩ := ix0 (by omega)
    refine g_ot ec ?_
    repeat' ((fail_if_success (with_reducible show Dy.Got (oEq _ _) _)); wtm_at "y_dy")
    refine eq0 hc2 ?_
    refine ex_bl (k_any (fun hz => ?_) fun hz => ?_)
    · have hz := of_decide_eq_true hz
      repeat' ((fail_if_success (with_reducible show Dy.Got (oNe _ _) _)); wtm_at "y_dy")
      refine ne0 ?_
      refine ex_bl (k_any (fun h2 => ?_) fun h2 => ?_)
      · repeat' wtm_at "y_dy"
        refine neg ?_
        have h2 : ¬ tl w = [48] := by simpa using h2
        unfold numOk
        rw [hc, hz, decide_f h2, decide_t rfl]
        simp
      · have h2 : tl w = [48] := by simpa using h2
        repeat' ((fail_if_success (with_reducible show SR.wp (sSeq (sFor _ _ _) _ _) _ _ _)); wtm_at "y_dy")
        exact rest (by omega) fun _ => h2
    · have hz : ¬ c = 48 := of_decide_eq_false hz
      repeat' ((fail_if_success (with_reducible show SR.wp (sSeq (sFor _ _ _) _ _) _ _ _)); wtm_at "y_dy")
      exact rest (by omega) fun h => absurd (Option.some.inj (hc.symm.trans h)) hz
  wtm_at "y_in"
  repeat' wtm_at "y_dy"
  refine wp_slS ?_
  repeat' wtm_at "y_dy"
  refine ⟨w, rfl, wsz, ?_⟩
  refine eqm ?_
  refine ex_bl (k_any (fun hm => ?_) fun hm => ?_)
  · have hm := of_decide_eq_true hm
    have w1 : 1 ≤ w.length := by rw [slen, lft_minus hm]; simp
    repeat' ((fail_if_success (with_reducible show R.wp (eSlS _ _ _ _) _ _)); wtm_at "y_dy")
    refine wp_slS ?_
    repeat' wtm_at "y_dy"
    refine ⟨w, rfl, wsz, ?_⟩
    refine main ?_
    rw [cut_hi (by decide) (by omega)]
    conv => lhs; rw [lft_minus hm]
    rfl
  · have hm := of_decide_eq_false hm
    repeat' ((fail_if_success (with_reducible show SR.wp (sSeq (sIf _ _ _) _ _) _ _ _)); wtm_at "y_dy")
    exact main (by rw [lft_else hm])
/-! ### weakest conditions for objects -/
section
variable {ρ : REnv} {N : REnv → Prop} {T : D → Prop} {E : D → REnv → Prop} {P : D → Prop} {E' : D → Prop} {f : REnv → R D} {t : REnv → R (List D)} {i : Nat} {w : V} {wo : Option V} {c n : Str} {ks ks' : List Str} {os os' : List O} {d : D}
theorem wp_fnB {n m : Nat} {g : V → REnv → SR} {ds : List D} {ρ0 : REnv} {Q : O × D → Prop} (hl : ds.length + 1 = n) (e : .obj (some w) c ks os :: ds.map .val ++ List.replicate (m - n) .un = ρ0)
    (h : (g w ρ0).wp (fun ρ => ∃ os', ρ[(0 : Nat)]? = some (.obj (some w) c ks' os') ∧ Q (.t os', .non)) (fun z => ∃ os' d, z = withO (.t os') d ∧ Q (.t os', d)) (fun _ _ => False)) : (fnB c ks ks' n m g w os ds).wp Q NoE := by
  classical
  unfold fnB
  rw [if_pos hl, e]
  cases q : g w ρ0 with
  | next ρ =>
    rw [q] at h
    obtain ⟨os', h1, h2⟩ := h
    show (match ρ[(0 : Nat)]? with | some (.obj (some w') c' k2 os) => if w' = w ∧ c' = c ∧ k2 = ks' then R.ok (O.t os, D.non) else .bad | _ => .bad).wp Q NoE
    rw [h1]
    show (if w = w ∧ c = c ∧ ks' = ks' then R.ok (O.t os', D.non) else .bad).wp Q NoE
    rw [if_pos ⟨rfl, rfl, rfl⟩]
    exact h2
  | ret z =>
    rw [q] at h
    obtain ⟨os', d, rfl, h2⟩ := h
    rw [outB_ret]
    exact h2
  | err e ρ => rw [q] at h; exact h.elim
  | bad => rw [q] at h; exact h.elim
theorem retB_eq (e : ρ[(0 : Nat)]? = some (.obj (some w) c ks os)) : retB c ks w ρ d = .ret (withO (.t os) d) := by
  classical
  unfold retB
  rw [e]
  show (if w = w ∧ c = c ∧ ks = ks then SR.ret (withO (.t os) d) else .bad) = _
  rw [if_pos ⟨rfl, rfl, rfl⟩]
theorem sp_retB (e : ρ[(0 : Nat)]? = some (.obj (some w) c ks os)) (h : (f ρ).wp (fun d => T (withO (.t os) d)) (fun e => E e ρ)) : (sRetB c ks w f ρ).wp N T E :=
  wp_toS (h.post fun d hd => by rw [retB_eq e]; exact hd)
theorem sp_retBP {u : REnv → R (D × REnv)} (h : (u ρ).wp (fun p => ∃ os', p.2[(0 : Nat)]? = some (.obj (some w) c ks os') ∧ T (withO (.t os') p.1)) NoE) : (sRetBP c ks w u ρ).wp N T E := by
  unfold sRetBP
  cases q : u ρ with
  | ok p =>
    rw [q] at h
    obtain ⟨os', h1, h2⟩ := h
    show (retB c ks w p.2 p.1).wp N T E
    rw [retB_eq h1]
    exact h2
  | err z => rw [q] at h; exact h.elim
  | bad => rw [q] at h; exact h.elim
theorem wp_pMeth {fn : V → List O → List D → R (O × D)} {Q : D × REnv → Prop} (e : ρ[i]? = some (.obj wo c ks os)) (h : (t ρ).wp (fun ds => ∃ os' d, (∀ v, (fn v os ds).wp (fun p => p = (.t os', d)) NoE) ∧ Q (d, ρ.set i (.obj wo c ks' os'))) NoE) : (pMeth i c ks ks' fn t ρ).wp Q NoE := by
  classical
  unfold pMeth
  cases q : t ρ with
  | err z => rw [q] at h; exact h.elim
  | bad => rw [q] at h; exact h.elim
  | ok ds =>
    rw [q] at h
    obtain ⟨os', d, h1, h2⟩ := h
    show (callB ρ i c ks ks' fn ds).wp Q NoE
    unfold callB
    rw [e]
    show (if c = c ∧ ks = ks then resB ρ i wo c ks' (allV fun v => fn v os ds) else .bad).wp Q NoE
    rw [if_pos ⟨rfl, rfl⟩, allV_eq (r := .ok (.t os', d)) fun v => by
      obtain ⟨a, e1, rfl⟩ := (h1 v).ok
      exact e1]
    exact h2
theorem wp_pAnd {q : REnv → R D} {u : REnv → R (D × REnv)} {Q : D × REnv → Prop} (h : (q ρ).wp (fun d => ∃ b : Bool, d = .bl b ∧ (b = true → (u ρ).wp Q NoE) ∧ (b = false → Q (.bl false, ρ))) NoE) : (pAnd q u ρ).wp Q NoE := by
  unfold pAnd
  cases z : q ρ with
  | err z' => rw [z] at h; exact h.elim
  | bad => rw [z] at h; exact h.elim
  | ok d =>
    rw [z] at h
    obtain ⟨b, rfl, h1, h2⟩ := h
    cases b with
    | true => exact h1 rfl
    | false => exact h2 rfl
theorem wp_uVal {u : REnv → R (D × REnv)} {Q : Bool × REnv → Prop} (h : (u ρ).wp (fun p => ∃ b : Bool, p.1 = .bl b ∧ Q (b, p.2)) NoE) : (uVal u ρ).wp Q NoE := by
  unfold uVal
  cases z : u ρ with
  | err z' => rw [z] at h; exact h.elim
  | bad => rw [z] at h; exact h.elim
  | ok p =>
    obtain ⟨d, ρ'⟩ := p
    rw [z] at h
    obtain ⟨b, e, h1⟩ := h
    have e : d = .bl b := e
    subst e
    exact h1
theorem wp_uNot {u : REnv → R (Bool × REnv)} {Q : Bool × REnv → Prop} (h : (u ρ).wp (fun p => Q (!p.1, p.2)) NoE) : (uNot u ρ).wp Q NoE := by
  unfold uNot
  cases z : u ρ with
  | err z' => rw [z] at h; exact h.elim
  | bad => rw [z] at h; exact h.elim
  | ok p => rw [z] at h; exact h
theorem wp_uOr {u v : REnv → R (Bool × REnv)} {Q : Bool × REnv → Prop} (h : (u ρ).wp (fun p => (p.1 = true → Q (true, p.2)) ∧ (p.1 = false → (v p.2).wp Q NoE)) NoE) : (uOr u v ρ).wp Q NoE := by
  unfold uOr
  cases z : u ρ with
  | err z' => rw [z] at h; exact h.elim
  | bad => rw [z] at h; exact h.elim
  | ok p =>
    obtain ⟨b, ρ'⟩ := p
    rw [z] at h
    cases b with
    | true => exact h.1 rfl
    | false => exact h.2 rfl
theorem sp_ifP {u : REnv → R (Bool × REnv)} {g h : REnv → SR} (hh : (u ρ).wp (fun p => (p.1 = true → (g p.2).wp N T E) ∧ (p.1 = false → (h p.2).wp N T E)) NoE) : (sIfP u g h ρ).wp N T E := by
  unfold sIfP
  cases z : u ρ with
  | err z' => rw [z] at hh; exact hh.elim
  | bad => rw [z] at hh; exact hh.elim
  | ok p =>
    obtain ⟨b, ρ'⟩ := p
    rw [z] at hh
    cases b with
    | true => exact hh.1 rfl
    | false => exact hh.2 rfl
theorem wp_uPeekB {u : REnv → R Bool} {Q : Bool → Prop} {ds : List D} (e : ρ[i]? = some (.obj wo c ks os)) (eo : O.toDs os = ds) (h : (u (ρ.set i (.fob c ks ds))).wp Q NoE) : (uPeekB i u ρ).wp Q E' := by
  unfold uPeekB
  rw [e]
  show (match u (ρ.set i (.fob c ks (O.toDs os))) with | .ok b => R.ok b | _ => .bad).wp Q E'
  rw [eo]
  cases z : u (ρ.set i (.fob c ks ds)) with
  | err z' => rw [z] at h; exact h.elim
  | bad => rw [z] at h; exact h.elim
  | ok b => rw [z] at h; exact h
theorem wp_eFld {ds : List D} (e : ρ[i]? = some (.fob c ks ds)) (l : (ks.zip ds).lookup n = some d) (h : P d) : (eFld i c n ρ).wp P E' := by
  unfold eFld
  rw [e]
  show (if c = c then R.opt ((ks.zip ds).lookup n) else .bad).wp P E'
  rw [if_pos rfl, l]
  exact h
theorem sp_peekB {g : REnv → SR} {ds : List D} (e : ρ[(0 : Nat)]? = some (.obj (some w) c ks os)) (eo : O.toDs os = ds) (h : (g (ρ.set 0 (.fob c ks ds))).wp (fun _ => False) (fun d => noL d = true ∧ T (withO (.t os) d)) (fun _ _ => False)) : (sPeekB c ks w g ρ).wp N T E := by
  unfold sPeekB
  rw [e]
  show (match g (ρ.set 0 (.fob c ks (O.toDs os))) with | .ret d => if noL d = true then retB c ks w ρ d else .bad | _ => .bad).wp N T E
  rw [eo]
  cases z : g (ρ.set 0 (.fob c ks ds)) with
  | next _ => rw [z] at h; exact h.elim
  | err _ _ => rw [z] at h; exact h.elim
  | bad => rw [z] at h; exact h.elim
  | ret d =>
    rw [z] at h
    show (if noL d = true then retB c ks w ρ d else .bad).wp N T E
    rw [if_pos h.1, retB_eq e]
    exact h.2
theorem sp_appF {j : Nat} {ds : List D} (e : ρ[i]? = some (.obj wo c ks os)) (ej : idxS n ks = some j) (eo : os[j]? = some (.l (ds.map .v))) (hl : ds.length < sizeLine) (h : (f ρ).wp (fun d => Upd ρ i (.obj wo c ks (os.set j (.l ((ds ++ [d]).map .v)))) N) (fun e => E e ρ)) : (sAppF i c n f ρ).wp N T E := by
  unfold sAppF
  rw [e]
  show (if c = c then (match idxS n ks with | some j => (match os[j]?.bind O.unL with | some ds => (f ρ).toS ρ (appF i wo c ks os j ds ρ) | none => .bad) | none => .bad) else SR.bad).wp N T E
  rw [if_pos rfl, ej]
  show (match os[j]?.bind O.unL with | some ds => (f ρ).toS ρ (appF i wo c ks os j ds ρ) | none => SR.bad).wp N T E
  rw [show os[j]?.bind O.unL = some ds by rw [eo]; exact unV_map ds]
  refine wp_toS (h.post fun d hd => ?_)
  unfold appF
  rw [if_pos hl]
  exact hd
theorem sp_newF (e : ρ[i]? = some (.obj wo c ks os)) (hk : ks.contains n = false) (hl : ks.length < 1000) (h : Upd ρ i (.obj wo c (ks ++ [n]) (os ++ [.l []])) N) : (sNewF i c n ρ).wp N T E := by
  unfold sNewF
  rw [e]
  show (if c = c ∧ ks.contains n = false ∧ ks.length < 1000 then SR.next _ else SR.bad).wp N T E
  rw [if_pos ⟨rfl, hk, hl⟩]
  exact h
theorem sp_newB {fn : V → List O → List D → R (O × D)} (h : ∀ v, (fn v [] []).wp (fun p => p = (.t os, .non)) NoE) (h2 : Upd ρ i (.obj none c ks os) N) : (sNewB i c ks fn ρ).wp N T E := by
  unfold sNewB
  rw [allV_eq (r := .ok (.t os, .non)) fun v => by
    obtain ⟨a, e1, rfl⟩ := (h v).ok
    exact e1]
  exact h2
theorem sp_retOb {sh : Sh} (e : ρ[i]? = some (.obj wo c ks os)) (hm : mask sh (.tup (O.toDs os)) = .t os) (h : T (.tup (O.toDs os))) : (sRetOb sh i c ks ρ).wp N T E := by
  classical
  unfold sRetOb
  rw [e]
  show (if c = c ∧ ks = ks ∧ mask sh (.tup (O.toDs os)) = .t os then SR.ret _ else SR.bad).wp N T E
  rw [if_pos ⟨rfl, rfl, hm⟩]
  exact h
theorem sp_try2 {ls : List Str} {y y2 : Str} {g h h2 u : REnv → SR} (h1 : (g ρ).wp (fun ρ' => (u ρ').wp N T E) T (fun e ρ' => (catch2 ls y y2 h h2 ρ' e).wp N T E)) : (sTry2 ls y y2 g h h2 u ρ).wp N T E := by
  unfold sTry2
  cases q : g ρ with
  | next ρ' => rw [q] at h1; exact h1
  | ret d => rw [q] at h1; exact h1
  | err e ρ' => rw [q] at h1; exact h1
  | bad => rw [q] at h1; exact h1
theorem wp_split {g : REnv → R D} (h : (f ρ).wp (fun a => ∃ x : Str, a = .str x ∧ (g ρ).wp (fun b => ∃ y : Str, b = .str y ∧ ((y.length == 0) = false ∧ x.length + 2 ≤ sizeLine) ∧ P (.lst ((Txt.split x y).map .str))) E') E') : (eSplit f g ρ).wp P E' := by
  refine wp_bind (h.post ?_)
  rintro _ ⟨x, rfl, h1⟩
  show ((g ρ).bind (splitR x)).wp P E'
  refine wp_bind (h1.post ?_)
  rintro _ ⟨y, rfl, hc, h2⟩
  show (if (y.length == 0) = false ∧ x.length + 2 ≤ sizeLine then R.ok (D.lst ((Txt.split x y).map .str)) else .bad).wp P E'
  rw [if_pos hc]
  exact h2
end

/-! ### a paper of rows -/
open TL
def WdOk (w : Str) : Prop := w.length ≤ 600 ∧ ∀ c ∈ tl w, c < 0x110000
theorem WdOk.ok {w : Str} (h : WdOk w) : PyData.strOk w = true := strOk_tl h.2
def grpT (ns : List Int) (k : Nat) : Tr := (ns.getD (3 * k) 0, ns.getD (3 * k + 1) 0, ns.getD (3 * k + 2) 0)
def triV (m : Nat) (ws : List Str) : Option (List Tr) := if ws.length = 3 * m ∧ ws.all (fun w => numOk (tl w)) = true then some ((List.range m).map (grpT (ws.map fun w => valN (tl w)))) else none
def optT : Option (List Tr) → D
  | some ts => .tup (ts.map tD)
  | none => .non
theorem flat_optN (x : Option Int) : flatD (optN x) = true := by cases x <;> rfl
theorem cut3 {ns : List Int} {k : Nat} (h : 3 * k + 3 ≤ ns.length) : Dy.cutD (ns.map .int) (some ((3 * k : Nat) : Int)) (some ((3 * k + 3 : Nat) : Int)) = [.int (grpT ns k).1, .int (grpT ns k).2.1, .int (grpT ns k).2.2] := by
  unfold Dy.cutD
  have e1 : HT.sIx (ns.map D.int).length 0 (some ((3 * k : Nat) : Int)) = 3 * k := by
    show (if ((3 * k : Nat) : Int) < 0 then (((3 * k : Nat) : Int) + ((ns.map D.int).length : Int)).toNat else min ((3 * k : Nat) : Int).toNat (ns.map D.int).length) = _
    rw [if_neg (by omega), List.length_map, Int.toNat_natCast]
    omega
  have e2 : HT.sIx (ns.map D.int).length (ns.map D.int).length (some ((3 * k + 3 : Nat) : Int)) = 3 * k + 3 := by
    show (if ((3 * k + 3 : Nat) : Int) < 0 then (((3 * k + 3 : Nat) : Int) + ((ns.map D.int).length : Int)).toNat else min ((3 * k + 3 : Nat) : Int).toNat (ns.map D.int).length) = _
    rw [if_neg (by omega), List.length_map, Int.toNat_natCast]
    omega
  rw [e1, e2, ← List.map_drop, ← List.map_take, show 3 * k + 3 - 3 * k = 3 by omega]
  have d1 : ns.drop (3 * k) = ns[3 * k]'(by omega) :: ns[3 * k + 1]'(by omega) :: ns[3 * k + 2]'(by omega) :: ns.drop (3 * k + 3) := by
    rw [List.drop_eq_getElem_cons (by omega), List.drop_eq_getElem_cons (i := 3 * k + 1) (by omega), List.drop_eq_getElem_cons (i := 3 * k + 1 + 1) (by omega)]
  rw [d1]
  unfold grpT
  simp only [List.take_succ_cons, List.take_zero, List.map_cons, List.map_nil, List.getD_eq_getElem?_getD, List.getElem?_eq_getElem (show 3 * k < ns.length by omega), List.getElem?_eq_getElem (show 3 * k + 1 < ns.length by omega), List.getElem?_eq_getElem (show 3 * k + 2 < ns.length by omega), Option.getD_some]
theorem sp_triples {ws : List Str} {m : Nat} {M : Int} (eM : (m : Int) = M) (hm : m ≤ 4) (hw : ∀ w ∈ ws, WdOk w) (hl : ws.length ≤ 10000) {P : D → Prop} (hP : P (optT (triV m ws))) : (f_triples_in [.lst (ws.map .str), .int M]).wp P NoE := by
  have num := fun w (h : w ∈ ws) => fun {P : D → Prop} => sp_numin (hw w h).1 (hw w h).2 (P := P)
  obtain ⟨WD, hWD⟩ : ∃ WD, D.lst (ws.map .str) = WD := ⟨_, rfl⟩
  have it : iterD WD = some (ws.map .str) := by rw [← hWD]; rfl
  have fit : (ws.map D.str).length ≤ sizeLine := by rw [List.length_map, sizeLine_eq]; omega
  obtain ⟨L, hL⟩ : ∃ L : Int, (ws.length : Int) = L := ⟨_, rfl⟩
  have elen : oLen [WD] = some (.int L) := by rw [len_map hWD, hL]
  have inN : ∀ {P : D → Prop}, P (.bl (!ws.all (fun w => numOk (tl w)))) → Got (oInX .non (.lst (ws.map fun w => optN (numV (tl w))))) P := fun {P} h => by
    refine w_inXl rfl (by
      rw [List.all_eq_true]
      intro d hd
      obtain ⟨w, _, rfl⟩ := List.mem_map.mp hd
      exact flat_optN _) ?_
    have e : ((ws.map fun w => optN (numV (tl w))).any fun y => eqF y .non) = !ws.all (fun w => numOk (tl w)) := by
      rw [List.any_map, Bool.eq_iff_iff, List.any_eq_true, Bool.not_eq_true', ← Bool.not_eq_true, List.all_eq_true]
      constructor
      · rintro ⟨w, hw, e⟩ hall
        have := hall w hw
        simp only [Function.comp, numV, if_pos this] at e
        exact nomatch e
      · intro h
        apply Classical.byContradiction
        intro h2
        refine h fun w hw => ?_
        cases q : numOk (tl w) with
        | true => rfl
        | false =>
          refine absurd ⟨w, hw, ?_⟩ h2
          simp only [Function.comp, numV, q]
          rfl
    rw [e]
    exact h
  have bad : ¬(ws.length = 3 * m ∧ ws.all (fun w => numOk (tl w)) = true) → P .non := fun h => by
    unfold triV at hP
    rw [if_neg h] at hP
    exact hP
  rw [hWD]
  wtm_at "y_in"
  repeat' ((fail_if_success (with_reducible show Dy.Got (iterD _) _)); wtm_at "y_dy")
  refine g_ot it ⟨fit, ?_⟩
  repeat' ((fail_if_success (with_reducible show Dy.Got (compS _ _ _ _ _) _)); wtm_at "y_dy")
  refine c_mapG (f := D.str) (g := fun w => optN (numV (tl w))) (fun w hw' => ?_) ?_
  · have n1 := fun {P : D → Prop} => num w hw' (P := P)
    repeat' wtm_at "y_dy"
    exact n1 rfl
  obtain ⟨ND, hND⟩ : ∃ ND, D.lst (ws.map fun w => optN (numV (tl w))) = ND := ⟨_, rfl⟩
  rw [hND] at inN ⊢
  repeat' ((fail_if_success (with_reducible show Dy.Got (oLen _) _)); wtm_at "y_dy")
  refine g_ot elen ?_
  have bM : Bd 10 M := by unfold Bd; omega
  repeat' ((fail_if_success (with_reducible show Fork _ _ _)); wtm_at "y_dy")
  refine k_any (fun hz => ?_) fun hz => ?_
  · have hz : ¬ L = 3 * M := by simpa using hz
    repeat' wtm_at "y_dy"
    exact bad fun h => hz (by omega)
  have hz : L = 3 * M := by simpa using hz
  repeat' ((fail_if_success (with_reducible show Dy.Got (oInX _ _) _)); wtm_at "y_dy")
  refine inN ?_
  repeat' ((fail_if_success (with_reducible show Fork _ _ _)); wtm_at "y_dy")
  refine k_any (fun ha => ?_) fun ha => ?_
  · repeat' wtm_at "y_dy"
    exact bad fun h => by rw [h.2] at ha; cases ha
  have ha : ws.all (fun w => numOk (tl w)) = true := by simpa using ha
  have eT : triV m ws = some ((List.range m).map (grpT (ws.map fun w => valN (tl w)))) := if_pos ⟨by omega, ha⟩
  rw [eT] at hP
  have eN : (ws.map fun w => optN (numV (tl w))) = (ws.map fun w => valN (tl w)).map D.int := by
    rw [List.map_map]
    refine List.map_congr_left fun w hw => ?_
    unfold numV
    rw [if_pos (List.all_eq_true.mp ha w hw)]
    rfl
  have nl : (ws.map fun w => valN (tl w)).length = 3 * m := by rw [List.length_map]; omega
  rw [eN] at hND
  generalize (ws.map fun w => valN (tl w)) = ns at hP hND nl
  have rgM : ∀ {P : List D → Prop}, P ((List.range m).map fun i : Nat => D.int (i : Int)) → Got (range1 [.int M]) P := fun {P} h => by
    rw [← eM]
    refine w_range1 (by constructor <;> omega) ?_
    have : rangeD 0 (m : Int).toNat = (List.range m).map fun i : Nat => D.int (i : Int) := by
      rw [Int.toNat_natCast]
      unfold rangeD
      exact List.map_congr_left fun i _ => by rw [Int.zero_add]
    rw [this]
    exact h
  repeat' ((fail_if_success (with_reducible show Dy.Got (range1 _) _)); wtm_at "y_dy")
  refine rgM ⟨by rw [List.length_map, List.length_range, sizeLine_eq]; omega, ?_⟩
  repeat' ((fail_if_success (with_reducible show Dy.Got (compS _ _ _ _ _) _)); wtm_at "y_dy")
  refine c_mapG (f := fun i : Nat => D.int (i : Int)) (g := fun k => tD (grpT ns k)) (fun k hk => ?_) ?_
  · have hk := List.mem_range.mp hk
    have cut := cut3 (ns := ns) (k := k) (by omega)
    obtain ⟨K, hK⟩ : ∃ K : Int, (k : Int) = K := ⟨_, rfl⟩
    have es : oSl ND (some (3 * K)) (some (3 * K + 3)) = some (.lst [.int (grpT ns k).1, .int (grpT ns k).2.1, .int (grpT ns k).2.2]) := by
      rw [← hND, show 3 * K = ((3 * k : Nat) : Int) by omega, show ((3 * k : Nat) : Int) + 3 = ((3 * k + 3 : Nat) : Int) by omega]
      show some (D.lst (Dy.cutD _ _ _)) = _
      rw [cut]
    have bK : Bd 10 K := by unfold Bd; omega
    rw [hK]
    repeat' ((fail_if_success (with_reducible show Dy.Got (oSl _ _ _) _)); wtm_at "y_dy")
    refine g_ot es (g_ot rfl ?_)
    rfl
  have eR : ((List.range m).map fun k => tD (grpT ns k)) = ((List.range m).map (grpT ns)).map tD := by rw [List.map_map]; rfl
  rw [eR]
  repeat' ((fail_if_success (with_reducible show Dy.Got (oTuple _) _)); wtm_at "y_dy")
  exact g_ot rfl hP

/-! ### what a paper takes -/
open TL
abbrev PSt := List Row × List Wall × List Dial
def osP (st : PSt) : List O := [.l ((st.1.map rowD).map .v), .l ((st.2.1.map wallD).map .v), .l ((st.2.2.map dialD).map .v)]
theorem toDs_osP (st : PSt) : O.toDs (osP st) = [.lst (st.1.map rowD), .lst (st.2.1.map wallD), .lst (st.2.2.map dialD)] := by
  unfold osP
  simp only [O.toDs, O.toD, toDs_map]
structure StOk (st : PSt) : Prop where
  l1 : st.1.length ≤ 10000
  l2 : st.2.1.length ≤ 10000
  l3 : st.2.2.length ≤ 10000
  w : ∀ x ∈ st.2.1, PyData.strOk x.1 = true
  f : ∀ x ∈ st.2.2, PyData.strOk x.1 = true
theorem okq_row (n : Nat) (r : Row) : okq (n + 3) (rowD r) = true := rfl
theorem okq_wall {n : Nat} {w : Wall} (h : PyData.strOk w.1 = true) : okq (n + 4) (wallD w) = true := by
  show (PyData.strOk w.1 && (true && true)) = true
  rw [h]
  rfl
theorem okq_dial {n : Nat} {w : Dial} (h : PyData.strOk w.1 = true) : okq (n + 4) (dialD w) = true := by
  show (PyData.strOk w.1 && (true && (true && true))) = true
  rw [h]
  rfl
theorem StOk.q1 {st : PSt} (h : StOk st) : okq 40 (.lst (st.1.map rowD)) = true := by
  show (st.1.map rowD).all (okq 39) = true
  rw [List.all_eq_true]
  intro d hd
  obtain ⟨r, _, rfl⟩ := List.mem_map.mp hd
  exact okq_row 36 r
theorem StOk.q2 {st : PSt} (h : StOk st) : (st.2.1.map wallD).all (okq 39) = true := by
  rw [List.all_eq_true]
  intro d hd
  obtain ⟨r, hr, rfl⟩ := List.mem_map.mp hd
  exact okq_wall (h.w r hr)
theorem StOk.q3 {st : PSt} (h : StOk st) : (st.2.2.map dialD).all (okq 39) = true := by
  rw [List.all_eq_true]
  intro d hd
  obtain ⟨r, hr, rfl⟩ := List.mem_map.mp hd
  exact okq_dial (h.f r hr)
theorem isN_optT (x : Option (List Tr)) : oIsN (optT x) .non = some (.bl x.isNone) := by cases x <;> rfl
theorem isN_optN (x : Option Int) : oIsN (optN x) .non = some (.bl x.isNone) := by cases x <;> rfl
theorem cut_tail (xs : List D) : Dy.cutD xs (some 1) none = xs.tail := by
  cases xs with
  | nil => rfl
  | cons x xs => simp [Dy.cutD, HT.sIx]
theorem cut_tail2 (xs : List D) : Dy.cutD xs (some 2) none = xs.tail.tail := by
  match xs with
  | [] => rfl
  | [x] => rfl
  | x :: y :: xs => simp [Dy.cutD, HT.sIx]
theorem sl_tail (ws : List Str) : oSl (.lst (ws.map .str)) (some 1) none = some (.lst (ws.tail.map .str)) := by
  show some (D.lst (Dy.cutD _ _ _)) = _
  rw [cut_tail, List.map_tail]
theorem sl_tail2 (ws : List Str) : oSl (.lst (ws.map .str)) (some 2) none = some (.lst (ws.tail.tail.map .str)) := by
  show some (D.lst (Dy.cutD _ _ _)) = _
  rw [cut_tail2, List.map_tail, List.map_tail]
def hourV (ws : List Str) : Option Row := match triV 1 ws.tail, numV (tl (ws.headD "")) with
  | some (t :: _), some i => some (i, t)
  | _, _ => none
def tookR (st : PSt) : Option PSt → O × D
  | some st' => (.t (osP st'), .bl true)
  | none => (.t (osP st), .bl false)
theorem tri_len {m : Nat} {ws : List Str} {ts : List Tr} (h : triV m ws = some ts) : ts.length = m ∧ ws.length = 3 * m := by
  unfold triV at h
  split at h
  · rename_i hc
    cases h
    exact ⟨by simp, hc.1⟩
  · cases h
def hourP (st : PSt) (ws : List Str) : Option PSt := if st.2.1 = [] ∧ st.2.2 = [] then (hourV ws).map fun x => (st.1 ++ [x], st.2.1, st.2.2) else none
set_option maxHeartbeats 2000000 in
theorem sp_tookhour {st : PSt} (hs : StOk st) {ws : List Str} (hw : ∀ w ∈ ws, WdOk w) (hl : ws.length ≤ 10000) (v : V) : (f_Paper_took_hour v (osP st) [.lst (ws.map .str)]).wp (fun p => p = tookR st (hourP st ws)) NoE := by
  have tri := fun {P : D → Prop} => sp_triples (ws := ws.tail) (m := 1) (M := 1) rfl (by decide) (fun w h => hw w (List.mem_of_mem_tail h)) (by rw [List.length_tail]; omega) (P := P)
  have sl := sl_tail ws
  have ix0 : ws ≠ [] → oIx (.lst (ws.map .str)) (.int 0) = some (.str (ws.headD "")) := fun h => by
    cases ws with
    | nil => exact absurd rfl h
    | cons a r => exact atI_nat (j := 0) rfl
  have num : ws ≠ [] → ∀ {P : D → Prop}, P (optN (numV (tl (ws.headD "")))) → (f_number_in [.str (ws.headD "")]).wp P NoE := fun h {P} hP => by
    cases ws with
    | nil => exact absurd rfl h
    | cons a r => exact sp_numin (hw a List.mem_cons_self).1 (hw a List.mem_cons_self).2 hP
  have add : ∀ {P : D → Prop}, P (.lst (st.2.1.map wallD ++ st.2.2.map dialD)) → Got (oAdd (.lst (st.2.1.map wallD)) (.lst (st.2.2.map dialD))) P := fun h => w_addL (by have := hs.l2; have := hs.l3; rw [List.length_map, List.length_map, sizeLine_eq]; omega) h
  have okA : okq 40 (.lst (st.2.1.map wallD ++ st.2.2.map dialD)) = true := by
    show (st.2.1.map wallD ++ st.2.2.map dialD).all (okq 39) = true
    rw [List.all_append, hs.q2, hs.q3]
    rfl
  have eA : (st.2.1.map wallD ++ st.2.2.map dialD).isEmpty = decide (st.2.1 = [] ∧ st.2.2 = []) := by
    cases h1 : st.2.1 with
    | nil =>
      cases h2 : st.2.2 with
      | nil => rfl
      | cons a b => simp
    | cons a b => simp
  have td := toDs_osP st
  have isn := isN_optT (triV 1 ws.tail)
  obtain ⟨AD, hAD⟩ : ∃ AD, D.lst (st.2.1.map wallD) = AD := ⟨_, rfl⟩
  obtain ⟨BD, hBD⟩ : ∃ AD, D.lst (st.2.2.map dialD) = AD := ⟨_, rfl⟩
  obtain ⟨CD, hCD⟩ : ∃ AD, D.lst (st.2.1.map wallD ++ st.2.2.map dialD) = AD := ⟨_, rfl⟩
  obtain ⟨SD, hSD⟩ : ∃ AD, D.lst (st.1.map rowD) = AD := ⟨_, rfl⟩
  obtain ⟨WD, hWD⟩ : ∃ AD, D.lst (ws.map D.str) = AD := ⟨_, rfl⟩
  obtain ⟨VD, hVD⟩ : ∃ AD, D.lst (ws.tail.map D.str) = AD := ⟨_, rfl⟩
  obtain ⟨TD, hTD⟩ : ∃ AD, optT (triV 1 ws.tail) = AD := ⟨_, rfl⟩
  have neA : ∀ {P : D → Prop}, P (.bl (!decide (st.2.1 = [] ∧ st.2.2 = []))) → Got (oNe CD (.lst [])) P := fun h => by
    rw [← hCD]
    refine w_neNil okA ?_
    rw [eA]
    exact h
  obtain ⟨OS, hOS⟩ : ∃ AD, osP st = AD := ⟨_, rfl⟩
  rw [hAD, hBD, hCD] at add
  rw [hAD, hBD, hSD, hOS] at td
  rw [hWD] at sl ix0 ⊢
  rw [hVD] at sl tri
  rw [hTD] at isn tri
  rw [hOS]
  unfold f_Paper_took_hour
  refine wp_fnB (ρ0 := [.obj (some v) "Paper" ["sun", "walls", "dials"] OS, .val WD, .un, .un]) rfl rfl ?_
  refine sp_seq (sp_nr ?_)
  repeat' ((fail_if_success (with_reducible show Dy.Got (oSl _ _ _) _)); wtm_at "y_dy")
  refine g_ot sl ?_
  repeat' wtm_at "y_dy"
  refine tri ?_
  repeat' ((fail_if_success (with_reducible show R.wp (uPeekB _ _ _) _ _)); wtm_at "y_dy")
  refine wp_uPeekB (by rfl) td ?_
  have no : hourP st ws = none → (O.t OS, D.bl false) = tookR st (hourP st ws) := fun h => by rw [h, ← hOS]; rfl
  repeat' ((fail_if_success (with_reducible show R.wp (eFld _ _ _ _) _ _)); wtm_at "y_dy")
  refine wp_eFld rfl rfl ?_
  repeat' ((fail_if_success (with_reducible show R.wp (eFld _ _ _ _) _ _)); wtm_at "y_dy")
  refine wp_eFld rfl rfl ?_
  repeat' ((fail_if_success (with_reducible show Dy.Got (oAdd _ _) _)); wtm_at "y_dy")
  refine add ?_
  repeat' ((fail_if_success (with_reducible show Dy.Got (oNe _ _) _)); wtm_at "y_dy")
  refine neA ?_
  refine ex_bl (k_any (fun hz => ?_) fun hz => ?_)
  · have hz : ¬(st.2.1 = [] ∧ st.2.2 = []) := fun h => by rw [decide_t h] at hz; cases hz
    repeat' ((fail_if_success (with_reducible show SR.wp (sRetB _ _ _ _ _) _ _ _)); wtm_at "y_dy")
    exact sp_retB (by rfl) (wp_c ⟨OS, _, rfl, no (if_neg hz)⟩)
  have hz : st.2.1 = [] ∧ st.2.2 = [] := by simpa using hz
  have eP : hourP st ws = (hourV ws).map fun x => (st.1 ++ [x], st.2.1, st.2.2) := if_pos hz
  repeat' ((fail_if_success (with_reducible show Dy.Got (oIsN _ _) _)); wtm_at "y_dy")
  refine g_ot isn ?_
  refine ex_bl (k_any (fun hz => ?_) fun hz => ?_)
  · have eT : triV 1 ws.tail = none := Option.isNone_iff_eq_none.mp hz
    have hN : hourV ws = none := by unfold hourV; rw [eT]
    repeat' ((fail_if_success (with_reducible show SR.wp (sRetB _ _ _ _ _) _ _ _)); wtm_at "y_dy")
    exact sp_retB (by rfl) (wp_c ⟨OS, _, rfl, no (by rw [eP, hN]; rfl)⟩)
  obtain ⟨ts, eT⟩ : ∃ ts, triV 1 ws.tail = some ts := by
    cases q : triV 1 ws.tail with
    | none => rw [q] at hz; cases hz
    | some ts => exact ⟨ts, rfl⟩
  obtain ⟨tl1, tl2⟩ := tri_len eT
  have wne : ws ≠ [] := fun e => by rw [e] at tl2; simp at tl2
  match ts, tl1 with
  | [t], _ =>
  rw [eT] at hTD
  have ixT : oIx TD (.int 0) = some (tD t) := by rw [← hTD]; rfl
  have ix0 := ix0 wne
  have num := fun {P : D → Prop} => num wne (P := P)
  have isN2 := isN_optN (numV (tl (ws.headD "")))
  have eV : hourV ws = (numV (tl (ws.headD ""))).map fun i => (i, t) := by
    unfold hourV
    rw [eT]
    cases numV (tl (ws.headD "")) <;> rfl
  generalize numV (tl (ws.headD "")) = x at num isN2 eV
  repeat' ((fail_if_success (with_reducible show SR.wp (sNR _ _) _ _ _)); wtm_at "y_dy")
  refine sp_nr ?_
  repeat' ((fail_if_success (with_reducible show Dy.Got (oIx _ _) _)); wtm_at "y_dy")
  refine g_ot ix0 ?_
  repeat' wtm_at "y_dy"
  refine num ?_
  repeat' ((fail_if_success (with_reducible show Dy.Got (oIsN _ _) _)); wtm_at "y_dy")
  refine g_ot isN2 ?_
  refine ex_bl (k_any (fun hz => ?_) fun hz => ?_)
  · have ex : x = none := Option.isNone_iff_eq_none.mp hz
    repeat' ((fail_if_success (with_reducible show SR.wp (sRetB _ _ _ _ _) _ _ _)); wtm_at "y_dy")
    exact sp_retB (by rfl) (wp_c ⟨OS, _, rfl, no (by rw [eP, eV, ex]; rfl)⟩)
  obtain ⟨i, rfl⟩ : ∃ i, x = some i := by
    cases x with
    | none => cases hz
    | some i => exact ⟨i, rfl⟩
  have hl1 := hs.l1
  repeat' ((fail_if_success (with_reducible show SR.wp (sNR _ _) _ _ _)); wtm_at "y_dy")
  refine sp_nr ?_
  refine sp_appF (j := 0) (ds := st.1.map rowD) (by rfl) (by decide +kernel) (by rw [← hOS]; rfl) (by rw [List.length_map, sizeLine_eq]; omega) ?_
  repeat' ((fail_if_success (with_reducible show Dy.Got (oIx TD _) _)); wtm_at "y_dy")
  refine g_ot ixT ?_
  repeat' ((fail_if_success (with_reducible show SR.wp (sRetB _ _ _ _ _) _ _ _)); wtm_at "y_dy")
  refine sp_retB (by rfl) (wp_c ⟨_, _, rfl, ?_⟩)
  rw [eP, eV, ← hOS]
  show _ = (O.t (osP (st.1 ++ [(i, t)], st.2.1, st.2.2)), D.bl true)
  unfold osP
  simp only [List.map_append]
  rfl

/-! ### what a paper takes, whether it stands -/
open TL
def wallP (st : PSt) (nm : Str) (ws : List Str) : Option PSt := if st.2.2 = [] then (match triV 3 ws with
  | some [a, b, c] => some (st.1, st.2.1 ++ [(nm, (a, b, c))], st.2.2)
  | _ => none) else none
def dialP (st : PSt) (nm : Str) (ws : List Str) : Option PSt := match triV 4 ws with
  | some [a, b, c, t] => some (st.1, st.2.1, st.2.2 ++ [(nm, (a, b, c), t)])
  | _ => none
set_option maxHeartbeats 2000000 in
theorem sp_tookwall {st : PSt} (hs : StOk st) {nm : Str} {ws : List Str} (hw : ∀ w ∈ ws, WdOk w) (hl : ws.length ≤ 10000) (v : V) : (f_Paper_took_wall v (osP st) [.str nm, .lst (ws.map .str)]).wp (fun p => p = tookR st (wallP st nm ws)) NoE := by
  have tri := fun {P : D → Prop} => sp_triples (ws := ws) (m := 3) (M := 3) rfl (by decide) hw hl (P := P)
  have okA : okq 40 (.lst (st.2.2.map dialD)) = true := hs.q3
  have td := toDs_osP st
  have isn := isN_optT (triV 3 ws)
  obtain ⟨AD, hAD⟩ : ∃ AD, D.lst (st.2.1.map wallD) = AD := ⟨_, rfl⟩
  obtain ⟨BD, hBD⟩ : ∃ AD, D.lst (st.2.2.map dialD) = AD := ⟨_, rfl⟩
  obtain ⟨SD, hSD⟩ : ∃ AD, D.lst (st.1.map rowD) = AD := ⟨_, rfl⟩
  obtain ⟨WD, hWD⟩ : ∃ AD, D.lst (ws.map D.str) = AD := ⟨_, rfl⟩
  obtain ⟨TD, hTD⟩ : ∃ AD, optT (triV 3 ws) = AD := ⟨_, rfl⟩
  have eA : (st.2.2.map dialD).isEmpty = decide (st.2.2 = []) := by
    cases st.2.2 <;> rfl
  have neA : ∀ {P : D → Prop}, P (.bl (!decide (st.2.2 = []))) → Got (oNe BD (.lst [])) P := fun h => by
    rw [← hBD]
    refine w_neNil okA ?_
    rw [eA]
    exact h
  obtain ⟨OS, hOS⟩ : ∃ AD, osP st = AD := ⟨_, rfl⟩
  have no : wallP st nm ws = none → (O.t OS, D.bl false) = tookR st (wallP st nm ws) := fun h => by rw [h, ← hOS]; rfl
  rw [hAD, hBD, hSD, hOS] at td
  rw [hWD] at tri ⊢
  rw [hTD] at isn tri
  rw [hOS]
  unfold f_Paper_took_wall
  refine wp_fnB (ρ0 := [.obj (some v) "Paper" ["sun", "walls", "dials"] OS, .val (.str nm), .val WD, .un]) rfl rfl ?_
  refine sp_seq (sp_nr ?_)
  repeat' wtm_at "y_dy"
  refine tri ?_
  repeat' ((fail_if_success (with_reducible show R.wp (uPeekB _ _ _) _ _)); wtm_at "y_dy")
  refine wp_uPeekB (by rfl) td ?_
  repeat' ((fail_if_success (with_reducible show R.wp (eFld _ _ _ _) _ _)); wtm_at "y_dy")
  refine wp_eFld rfl rfl ?_
  repeat' ((fail_if_success (with_reducible show Dy.Got (oNe _ _) _)); wtm_at "y_dy")
  refine neA ?_
  refine ex_bl (k_any (fun hz => ?_) fun hz => ?_)
  · have hz : ¬(st.2.2 = []) := fun h => by rw [decide_t h] at hz; cases hz
    repeat' ((fail_if_success (with_reducible show SR.wp (sRetB _ _ _ _ _) _ _ _)); wtm_at "y_dy")
    exact sp_retB (by rfl) (wp_c ⟨OS, _, rfl, no (if_neg hz)⟩)
  have hz : st.2.2 = [] := by simpa using hz
  have eP : wallP st nm ws = (match triV 3 ws with
    | some [a, b, c] => some (st.1, st.2.1 ++ [(nm, (a, b, c))], st.2.2)
    | _ => none) := if_pos hz
  repeat' ((fail_if_success (with_reducible show Dy.Got (oIsN _ _) _)); wtm_at "y_dy")
  refine g_ot isn ?_
  refine ex_bl (k_any (fun hz => ?_) fun hz => ?_)
  · have eT : triV 3 ws = none := Option.isNone_iff_eq_none.mp hz
    repeat' ((fail_if_success (with_reducible show SR.wp (sRetB _ _ _ _ _) _ _ _)); wtm_at "y_dy")
    exact sp_retB (by rfl) (wp_c ⟨OS, _, rfl, no (by rw [eP, eT])⟩)
  obtain ⟨ts, eT⟩ : ∃ ts, triV 3 ws = some ts := by
    cases q : triV 3 ws with
    | none => rw [q] at hz; cases hz
    | some ts => exact ⟨ts, rfl⟩
  obtain ⟨tl1, tl2⟩ := tri_len eT
  match ts, tl1 with
  | [a, b, c], _ =>
  have hl1 := hs.l2
  repeat' ((fail_if_success (with_reducible show SR.wp (sNR _ _) _ _ _)); wtm_at "y_dy")
  refine sp_nr ?_
  refine sp_appF (j := 1) (ds := st.2.1.map wallD) (by rfl) (by decide +kernel) (by rw [← hOS]; rfl) (by rw [List.length_map, sizeLine_eq]; omega) ?_
  repeat' ((fail_if_success (with_reducible show SR.wp (sRetB _ _ _ _ _) _ _ _)); wtm_at "y_dy")
  refine sp_retB (by rfl) (wp_c ⟨_, _, rfl, ?_⟩)
  rw [eP, ← hOS, ← hTD, eT]
  show _ = (O.t (osP (st.1, st.2.1 ++ [(nm, (a, b, c))], st.2.2)), D.bl true)
  unfold osP
  simp only [List.map_append]
  rfl
set_option maxHeartbeats 2000000 in
theorem sp_tookdial {st : PSt} (hs : StOk st) {nm : Str} {ws : List Str} (hw : ∀ w ∈ ws, WdOk w) (hl : ws.length ≤ 10000) (v : V) : (f_Paper_took_dial v (osP st) [.str nm, .lst (ws.map .str)]).wp (fun p => p = tookR st (dialP st nm ws)) NoE := by
  have tri := fun {P : D → Prop} => sp_triples (ws := ws) (m := 4) (M := 4) rfl (by decide) hw hl (P := P)
  have isn := isN_optT (triV 4 ws)
  obtain ⟨WD, hWD⟩ : ∃ AD, D.lst (ws.map D.str) = AD := ⟨_, rfl⟩
  obtain ⟨TD, hTD⟩ : ∃ AD, optT (triV 4 ws) = AD := ⟨_, rfl⟩
  obtain ⟨OS, hOS⟩ : ∃ AD, osP st = AD := ⟨_, rfl⟩
  have no : dialP st nm ws = none → (O.t OS, D.bl false) = tookR st (dialP st nm ws) := fun h => by rw [h, ← hOS]; rfl
  rw [hWD] at tri ⊢
  rw [hTD] at isn tri
  rw [hOS]
  unfold f_Paper_took_dial
  refine wp_fnB (ρ0 := [.obj (some v) "Paper" ["sun", "walls", "dials"] OS, .val (.str nm), .val WD, .un]) rfl rfl ?_
  refine sp_seq (sp_nr ?_)
  repeat' wtm_at "y_dy"
  refine tri ?_
  repeat' ((fail_if_success (with_reducible show Dy.Got (oIsN _ _) _)); wtm_at "y_dy")
  refine g_ot isn ?_
  refine ex_bl (k_any (fun hz => ?_) fun hz => ?_)
  · have eT : triV 4 ws = none := Option.isNone_iff_eq_none.mp hz
    repeat' ((fail_if_success (with_reducible show SR.wp (sRetB _ _ _ _ _) _ _ _)); wtm_at "y_dy")
    exact sp_retB (by rfl) (wp_c ⟨OS, _, rfl, no (by unfold dialP; rw [eT])⟩)
  obtain ⟨ts, eT⟩ : ∃ ts, triV 4 ws = some ts := by
    cases q : triV 4 ws with
    | none => rw [q] at hz; cases hz
    | some ts => exact ⟨ts, rfl⟩
  obtain ⟨tl1, tl2⟩ := tri_len eT
  match ts, tl1 with
  | [a, b, c, t], _ =>
  have hl1 := hs.l3
  have e3 : oSl TD none (some 3) = some (plD (a, b, c)) := by rw [← hTD, eT]; rfl
  have e4 : oIx TD (.int 3) = some (tD t) := by rw [← hTD, eT]; exact atI_nat (j := 3) rfl
  repeat' ((fail_if_success (with_reducible show SR.wp (sNR _ _) _ _ _)); wtm_at "y_dy")
  refine sp_nr ?_
  refine sp_appF (j := 2) (ds := st.2.2.map dialD) (by rfl) (by decide +kernel) (by rw [← hOS]; rfl) (by rw [List.length_map, sizeLine_eq]; omega) ?_
  repeat' ((fail_if_success (with_reducible show Dy.Got (oSl _ _ _) _)); wtm_at "y_dy")
  refine g_ot e3 ?_
  repeat' ((fail_if_success (with_reducible show Dy.Got (oIx TD _) _)); wtm_at "y_dy")
  refine g_ot e4 ?_
  repeat' ((fail_if_success (with_reducible show SR.wp (sRetB _ _ _ _ _) _ _ _)); wtm_at "y_dy")
  refine sp_retB (by rfl) (wp_c ⟨_, _, rfl, ?_⟩)
  unfold dialP
  rw [← hOS, eT]
  show _ = (O.t (osP (st.1, st.2.1, st.2.2 ++ [(nm, (a, b, c), t)])), D.bl true)
  unfold osP
  simp only [List.map_append]
  rfl
def yardP (st : PSt) : D := .tup [.lst (st.1.map rowD), .lst (st.2.1.map wallD), .lst (st.2.2.map dialD)]
theorem sp_catch2a {ls : List Str} {y y2 : Str} {h h2 : REnv → SR} {ρ : REnv} {N : REnv → Prop} {T : D → Prop} {E : D → REnv → Prop} {c : Str} {fs : List Str} {xs : List D} (hk : ls.contains c = true) (hy : isaC c y = true) (h1 : (h ρ).wp N T fun _ _ => False) : (catch2 ls y y2 h h2 ρ (.exc c fs xs)).wp N T E := by
  show SR.wp (if ls.contains c = true then (if isaC c y = true then noErr (h ρ) else if isaC c y2 = true then noErr (h2 ρ) else .err (.exc c fs xs) ρ) else .bad) N T E
  rw [if_pos hk, if_pos hy]
  unfold noErr
  cases e : h ρ with
  | next ρ' => rw [e] at h1; exact h1
  | ret d => rw [e] at h1; exact h1
  | err u ρ' => rw [e] at h1; exact h1.elim
  | bad => rw [e] at h1; exact h1.elim
theorem sp_catch2b {ls : List Str} {y y2 : Str} {h h2 : REnv → SR} {ρ : REnv} {N : REnv → Prop} {T : D → Prop} {E : D → REnv → Prop} {c : Str} {fs : List Str} {xs : List D} (hk : ls.contains c = true) (hy : isaC c y = false) (hy2 : isaC c y2 = true) (h1 : (h2 ρ).wp N T fun _ _ => False) : (catch2 ls y y2 h h2 ρ (.exc c fs xs)).wp N T E := by
  show SR.wp (if ls.contains c = true then (if isaC c y = true then noErr (h ρ) else if isaC c y2 = true then noErr (h2 ρ) else .err (.exc c fs xs) ρ) else .bad) N T E
  rw [if_pos hk, if_neg (by rw [hy]; decide), if_pos hy2]
  unfold noErr
  cases e : h2 ρ with
  | next ρ' => rw [e] at h1; exact h1
  | ret d => rw [e] at h1; exact h1
  | err u ρ' => rw [e] at h1; exact h1.elim
  | bad => rw [e] at h1; exact h1.elim
theorem yardV_kinds {d e : D} (h : yardV d = some e) : (∃ a, e = .exc "NoSun" ["at"] [a]) ∨ ∃ a, e = .exc "NoYard" ["name"] [a] := by
  unfold yardV at h
  split at h
  · split at h
    · cases h; exact .inl ⟨_, rfl⟩
    · split at h
      · cases h; exact .inr ⟨_, rfl⟩
      · split at h
        · cases h; exact .inr ⟨_, rfl⟩
        · cases h
  · cases h; exact .inr ⟨_, rfl⟩
set_option maxHeartbeats 2000000 in
theorem sp_stands {st : PSt} (hp : Pl (yardP st) = true) (v : V) : (f_Paper_stands v (osP st) []).wp (fun p => p = (.t (osP st), .bl (yardV (yardP st)).isNone)) NoE := by
  have hps : Pl (.lst (st.1.map rowD)) = true := by
    unfold yardP at hp
    have h : (decide (3 ≤ 100000) && Pls [.lst (st.1.map rowD), .lst (st.2.1.map wallD), .lst (st.2.2.map dialD)]) = true := hp
    rw [Bool.and_eq_true] at h
    exact Pls.mem h.2 _ List.mem_cons_self
  have sun := fun {P E : D → Prop} => sp_looksun (P := P) (E := E) hps
  have yard := fun {P E : D → Prop} => sp_lookyard (P := P) (E := E) hp
  have sy : ∀ a, sunV (.lst (st.1.map rowD)) = some a → yardV (yardP st) = some (.exc "NoSun" ["at"] [a]) := fun a e => by
    unfold yardP yardV
    dsimp only
    rw [e]
  have eY : yardP st = .tup [.lst (st.1.map rowD), .lst (st.2.1.map wallD), .lst (st.2.2.map dialD)] := rfl
  have kinds := fun {e : D} => yardV_kinds (d := yardP st) (e := e)
  have td := toDs_osP st
  obtain ⟨AD, hAD⟩ : ∃ AD, D.lst (st.2.1.map wallD) = AD := ⟨_, rfl⟩
  obtain ⟨BD, hBD⟩ : ∃ AD, D.lst (st.2.2.map dialD) = AD := ⟨_, rfl⟩
  obtain ⟨SD, hSD⟩ : ∃ AD, D.lst (st.1.map rowD) = AD := ⟨_, rfl⟩
  obtain ⟨OS, hOS⟩ : ∃ AD, osP st = AD := ⟨_, rfl⟩
  rw [hAD, hBD, hSD, hOS] at td
  rw [hAD, hBD, hSD] at eY
  rw [hSD] at sun sy
  rw [eY] at yard sy kinds ⊢
  rw [hOS]
  unfold f_Paper_stands
  refine wp_fnB (ρ0 := [.obj (some v) "Paper" ["sun", "walls", "dials"] OS]) rfl rfl ?_
  refine sp_peekB (by rfl) td ?_
  refine sp_try2 ?_
  have c1 : ∀ {ρ : REnv} {a : D} {T : D → Prop}, T (.bl false) → (catch2 xks "NoSun" "NoYard" (sRet (eC (.bl false))) (sRet (eC (.bl false))) ρ (.exc "NoSun" ["at"] [a])).wp (fun _ => False) T (fun _ _ => False) := fun h => sp_catch2a (by decide +kernel) (by decide +kernel) (wp_toS (wp_c h))
  have c2 : ∀ {ρ : REnv} {a : D} {T : D → Prop}, T (.bl false) → (catch2 xks "NoSun" "NoYard" (sRet (eC (.bl false))) (sRet (eC (.bl false))) ρ (.exc "NoYard" ["name"] [a])).wp (fun _ => False) T (fun _ _ => False) := fun h => sp_catch2b (by decide +kernel) (by decide +kernel) (by decide +kernel) (wp_toS (wp_c h))
  repeat' ((fail_if_success (with_reducible show R.wp (eFld _ _ _ _) _ _)); wtm_at "y_dy")
  refine wp_eFld rfl rfl ?_
  repeat' wtm_at "y_dy"
  refine sun (fun _ => ?_) fun a ea => ?_
  rotate_left
  · refine c1 ⟨rfl, OS, _, rfl, ?_⟩
    rw [sy a ea]
    rfl
  repeat' ((fail_if_success (with_reducible show R.wp (eFld _ _ _ _) _ _)); wtm_at "y_dy")
  refine wp_eFld rfl rfl ?_
  repeat' ((fail_if_success (with_reducible show R.wp (eFld _ _ _ _) _ _)); wtm_at "y_dy")
  refine wp_eFld rfl rfl ?_
  repeat' ((fail_if_success (with_reducible show R.wp (eFld _ _ _ _) _ _)); wtm_at "y_dy")
  refine wp_eFld rfl rfl ?_
  repeat' wtm_at "y_dy"
  refine yard (fun e => ?_) fun e ee => ?_
  · repeat' wtm_at "y_dy"
    refine ⟨rfl, OS, _, rfl, ?_⟩
    rw [e]
    rfl
  · rcases kinds ee with ⟨a, rfl⟩ | ⟨a, rfl⟩
    · refine c1 ⟨rfl, OS, _, rfl, ?_⟩
      rw [ee]
      rfl
    · refine c2 ⟨rfl, OS, _, rfl, ?_⟩
      rw [ee]
      rfl

/-! ### a row taken -/
open TL
def osN (st : PSt) (x : Option PSt) : List O := osP (x.getD st)
theorem tookR_eq (st : PSt) (x : Option PSt) : tookR st x = (.t (osN st x), .bl x.isSome) := by
  cases x <;> rfl
def tookP (st : PSt) (ws : List Str) : Option PSt :=
  if ws.headD "" = Str.ofString "sun" then hourP st ws.tail
  else if ws.length < 2 ∨ st.1 = [] then none
  else if ws.headD "" = Str.ofString "wall" then wallP st (ws.tail.headD "") ws.tail.tail
  else if ws.headD "" = Str.ofString "dial" then dialP st (ws.tail.headD "") ws.tail.tail
  else none
set_option maxHeartbeats 2000000 in
theorem sp_took {st : PSt} (hs : StOk st) {ws : List Str} (hw : ∀ w ∈ ws, WdOk w) (hl : ws.length ≤ 10000) (hne : ws ≠ []) (v : V) : (f_Paper_took v (osP st) [.lst (ws.map .str)]).wp (fun p => p = (.t (osN st (tookP st ws)), .bl (tookP st ws).isSome)) NoE := by
  have m1 : ∀ {x : Str}, x ∈ ws.tail → x ∈ ws := fun h => List.mem_of_mem_tail h
  have hour := fun v => sp_tookhour hs (ws := ws.tail) (fun w h => hw w (m1 h)) (by rw [List.length_tail]; omega) v
  have wall := fun v nm => sp_tookwall hs (nm := nm) (ws := ws.tail.tail) (fun w h => hw w (m1 (List.mem_of_mem_tail h))) (by rw [List.length_tail, List.length_tail]; omega) v
  have dial := fun v nm => sp_tookdial hs (nm := nm) (ws := ws.tail.tail) (fun w h => hw w (m1 (List.mem_of_mem_tail h))) (by rw [List.length_tail, List.length_tail]; omega) v
  simp only [tookR_eq] at hour wall dial
  have sl1 := sl_tail ws
  have sl2 := sl_tail2 ws
  have ix0 : oIx (.lst (ws.map .str)) (.int 0) = some (.str (ws.headD "")) := by
    cases ws with
    | nil => exact absurd rfl hne
    | cons a r => exact atI_nat (j := 0) rfl
  have ok0 : PyData.strOk (ws.headD "") = true := by
    cases ws with
    | nil => exact absurd rfl hne
    | cons a r => exact (hw a List.mem_cons_self).ok
  have ix1 : ¬ ws.length < 2 → oIx (.lst (ws.map .str)) (.int 1) = some (.str (ws.tail.headD "")) := fun h => by
    match ws, h with
    | [], h => exact absurd (by simp) h
    | [a], h => exact absurd (by simp) h
    | a :: b :: r, _ => exact atI_nat (j := 1) rfl
  have td := toDs_osP st
  have eN : (st.1.map rowD).isEmpty = decide (st.1 = []) := by
    cases st.1 <;> rfl
  obtain ⟨AD, hAD⟩ : ∃ AD, D.lst (st.2.1.map wallD) = AD := ⟨_, rfl⟩
  obtain ⟨BD, hBD⟩ : ∃ AD, D.lst (st.2.2.map dialD) = AD := ⟨_, rfl⟩
  obtain ⟨SD, hSD⟩ : ∃ AD, D.lst (st.1.map rowD) = AD := ⟨_, rfl⟩
  have q1 : ∀ {P : D → Prop}, P (.bl (decide (st.1 = []))) → Got (oEq SD (.lst [])) P := fun {P} h => by
    rw [← hSD]
    refine w_eqNil hs.q1 ?_
    rw [eN]
    exact h
  obtain ⟨OS, hOS⟩ : ∃ AD, osP st = AD := ⟨_, rfl⟩
  have no : tookP st ws = none → (O.t OS, D.bl false) = (.t (osN st (tookP st ws)), .bl (tookP st ws).isSome) := fun h => by rw [h, ← hOS]; rfl
  obtain ⟨WD, hWD⟩ : ∃ AD, D.lst (ws.map D.str) = AD := ⟨_, rfl⟩
  obtain ⟨VD, hVD⟩ : ∃ AD, D.lst (ws.tail.map D.str) = AD := ⟨_, rfl⟩
  obtain ⟨TD, hTD⟩ : ∃ AD, D.lst (ws.tail.tail.map D.str) = AD := ⟨_, rfl⟩
  have elen : oLen [WD] = some (.int (ws.length : Int)) := len_map hWD
  have eT : tookP st ws = if ws.headD "" = Str.ofString "sun" then hourP st ws.tail
    else if ws.length < 2 ∨ st.1 = [] then none
    else if ws.headD "" = Str.ofString "wall" then wallP st (ws.tail.headD "") ws.tail.tail
    else if ws.headD "" = Str.ofString "dial" then dialP st (ws.tail.headD "") ws.tail.tail
    else none := rfl
  generalize tookP st ws = X at eT no ⊢
  rw [hAD, hBD, hSD, hOS] at td
  rw [hOS] at hour wall dial
  rw [hWD] at sl1 sl2 ix0 ix1 ⊢
  rw [hVD] at sl1 hour
  rw [hTD] at sl2 wall dial
  rw [hOS]
  obtain ⟨L, hL⟩ : ∃ L : Int, (ws.length : Int) = L := ⟨_, rfl⟩
  rw [hL] at elen
  generalize ws.headD "" = w0 at eT ix0 ok0
  generalize ws.tail.headD "" = nm at eT ix1 
  have wall := fun v => wall v nm
  have dial := fun v => dial v nm
  generalize ws.tail.tail = ws2 at eT wall dial
  generalize ws.tail = ws1 at eT hour
  have eqw : ∀ {s : Str} {P : D → Prop}, PyData.strOk s = true → P (.bl (decide (w0 = s))) → Got (oEq (.str w0) (.str s)) P := fun hk h => w_eqStr ok0 hk h
  unfold f_Paper_took
  refine wp_fnB (ρ0 := [.obj (some v) "Paper" ["sun", "walls", "dials"] OS, .val WD]) rfl rfl ?_
  repeat' ((fail_if_success (with_reducible show Dy.Got (oIx _ _) _)); wtm_at "y_dy")
  refine g_ot ix0 ?_
  repeat' ((fail_if_success (with_reducible show Dy.Got (oEq _ _) _)); wtm_at "y_dy")
  refine eqw (by decide +kernel) ?_
  refine ex_bl (k_any (fun hz => ?_) fun hz => ?_)
  · have hz := of_decide_eq_true hz
    repeat' ((fail_if_success (with_reducible show SR.wp (sRetBP _ _ _ _ _) _ _ _)); wtm_at "y_dy")
    refine sp_retBP (wp_pMeth (by rfl) ?_)
    repeat' ((fail_if_success (with_reducible show Dy.Got (oSl _ _ _) _)); wtm_at "y_dy")
    refine g_ot sl1 ?_
    repeat' wtm_at "y_dy"
    rw [if_pos hz] at eT
    exact ⟨_, _, hour, _, rfl, _, _, rfl, by rw [eT]⟩
  have hz := of_decide_eq_false hz
  rw [if_neg hz] at eT
  repeat' ((fail_if_success (with_reducible show R.wp (uPeekB _ _ _) _ _)); wtm_at "y_dy")
  refine wp_uPeekB (by rfl) td ?_
  have ret : ∀ {N : REnv → Prop} {E : D → REnv → Prop}, X = none → ((sRetB "Paper" ["sun", "walls", "dials"] v (eC (.bl false))) [.obj (some v) "Paper" ["sun", "walls", "dials"] OS, .val WD]).wp N (fun z => ∃ os' d, z = withO (.t os') d ∧ (O.t os', d) = (.t (osN st X), .bl X.isSome)) E := fun h =>
    sp_retB (by rfl) (wp_c ⟨OS, _, rfl, no h⟩)
  have tail : ¬(ws.length < 2 ∨ st.1 = []) → oIx WD (.int 1) = some (.str nm) → (SR.wp (sSeq (sIf (eTest (eBin oEq (eBin oIx (eVar 1) (eC (.int 0))) (eC (.str "wall")))) (sRetBP "Paper" ["sun", "walls", "dials"] v (pMeth 0 "Paper" ["sun", "walls", "dials"] ["sun", "walls", "dials"] f_Paper_took_wall (aCons (eBin oIx (eVar 1) (eC (.int 1))) (aCons (eSl (eVar 1) (oSome (eC (.int 2))) (oNo)) (aNil))))) (sSkip))
      (sRetBP "Paper" ["sun", "walls", "dials"] v (pAnd (eBin oEq (eBin oIx (eVar 1) (eC (.int 0))) (eC (.str "dial"))) (pMeth 0 "Paper" ["sun", "walls", "dials"] ["sun", "walls", "dials"] f_Paper_took_dial (aCons (eBin oIx (eVar 1) (eC (.int 1))) (aCons (eSl (eVar 1) (oSome (eC (.int 2))) (oNo)) (aNil)))))) [.obj (some v) "Paper" ["sun", "walls", "dials"] OS, .val WD]) (fun ρ => ∃ os', ρ[(0 : Nat)]? = some (.obj (some v) "Paper" ["sun", "walls", "dials"] os') ∧ (O.t os', D.non) = (.t (osN st X), .bl X.isSome)) (fun z => ∃ os' d, z = withO (.t os') d ∧ (O.t os', d) = (.t (osN st X), .bl X.isSome)) (fun _ _ => False)) := fun hc i1 => by
    rw [if_neg hc] at eT
    repeat' ((fail_if_success (with_reducible show Dy.Got (oIx _ _) _)); wtm_at "y_dy")
    refine g_ot ix0 ?_
    repeat' ((fail_if_success (with_reducible show Dy.Got (oEq _ _) _)); wtm_at "y_dy")
    refine eqw (by decide +kernel) ?_
    refine ex_bl (k_any (fun hz => ?_) fun hz => ?_)
    · have hz := of_decide_eq_true hz
      repeat' ((fail_if_success (with_reducible show SR.wp (sRetBP _ _ _ _ _) _ _ _)); wtm_at "y_dy")
      refine sp_retBP (wp_pMeth (by rfl) ?_)
      repeat' ((fail_if_success (with_reducible show Dy.Got (oIx _ _) _)); wtm_at "y_dy")
      refine g_ot i1 ?_
      repeat' ((fail_if_success (with_reducible show Dy.Got (oSl _ _ _) _)); wtm_at "y_dy")
      refine g_ot sl2 ?_
      repeat' wtm_at "y_dy"
      rw [if_pos hz] at eT
      exact ⟨_, _, wall, _, rfl, _, _, rfl, by rw [eT]⟩
    have hz := of_decide_eq_false hz
    rw [if_neg hz] at eT
    repeat' ((fail_if_success (with_reducible show SR.wp (sRetBP _ _ _ _ _) _ _ _)); wtm_at "y_dy")
    refine sp_retBP (wp_pAnd ?_)
    repeat' ((fail_if_success (with_reducible show Dy.Got (oIx _ _) _)); wtm_at "y_dy")
    refine g_ot ix0 ?_
    repeat' ((fail_if_success (with_reducible show Dy.Got (oEq _ _) _)); wtm_at "y_dy")
    refine eqw (by decide +kernel) ?_
    refine ⟨_, rfl, fun hz => ?_, fun hz => ?_⟩
    · have hz := of_decide_eq_true hz
      refine wp_pMeth (by rfl) ?_
      repeat' ((fail_if_success (with_reducible show Dy.Got (oIx _ _) _)); wtm_at "y_dy")
      refine g_ot i1 ?_
      repeat' ((fail_if_success (with_reducible show Dy.Got (oSl _ _ _) _)); wtm_at "y_dy")
      refine g_ot sl2 ?_
      repeat' wtm_at "y_dy"
      rw [if_pos hz] at eT
      exact ⟨_, _, dial, _, rfl, _, _, rfl, by rw [eT]⟩
    · have hz := of_decide_eq_false hz
      rw [if_neg hz] at eT
      exact ⟨_, rfl, OS, _, rfl, no eT⟩
  repeat' ((fail_if_success (with_reducible show Dy.Got (oLen _) _)); wtm_at "y_dy")
  refine g_ot elen ?_
  have bL : Bd 20 L := by unfold Bd; omega
  repeat' ((fail_if_success (with_reducible show R.wp (eFld _ _ _ _) _ _)); wtm_at "y_dy")
  · repeat' ((fail_if_success (with_reducible show SR.wp (sRetB _ _ _ _ _) _ _ _)); wtm_at "y_dy")
    exact ret (by rw [eT, if_pos (.inl (by omega))])
  refine wp_eFld rfl rfl ?_
  repeat' ((fail_if_success (with_reducible show Dy.Got (oEq _ _) _)); wtm_at "y_dy")
  refine q1 ?_
  refine ex_bl (k_any (fun hz => ?_) fun hz => ?_)
  · have hz := of_decide_eq_true hz
    repeat' ((fail_if_success (with_reducible show SR.wp (sRetB _ _ _ _ _) _ _ _)); wtm_at "y_dy")
    exact ret (by rw [eT, if_pos (.inr hz)])
  · have hz := of_decide_eq_false hz
    wtm_at "y_dy"
    exact tail (fun h => h.elim (fun h => by omega) hz) (ix1 (by omega))

/-! ### a paper read, row by row -/
open TL
theorem sp_init (v : V) : (f_Paper___init__ v [] []).wp (fun p => p = (.t (osP ([], [], [])), .non)) NoE := by
  unfold f_Paper___init__
  refine wp_fnB (ρ0 := [.obj (some v) "Paper" [] []]) rfl rfl ?_
  refine sp_seq (sp_nr ?_)
  refine sp_newF (by rfl) (by decide +kernel) (by decide) ?_
  repeat' ((fail_if_success (with_reducible show SR.wp (sNR _ _) _ _ _)); wtm_at "y_dy")
  refine sp_nr ?_
  refine sp_newF (by rfl) (by decide +kernel) (by decide) ?_
  repeat' ((fail_if_success (with_reducible show SR.wp (sNR _ _) _ _ _)); wtm_at "y_dy")
  refine sp_nr ?_
  refine sp_newF (by rfl) (by decide +kernel) (by decide) ?_
  repeat' wtm_at "y_dy"
  exact ⟨_, rfl, rfl⟩
structure StP (n : Nat) (st : PSt) : Prop where
  r : ∀ x ∈ st.1, Pl (rowD x) = true
  w : ∀ x ∈ st.2.1, Pl (wallD x) = true
  f : ∀ x ∈ st.2.2, Pl (dialD x) = true
  l : st.1.length + st.2.1.length + st.2.2.length ≤ n
theorem Pl_tup0 {a : D} {xs : List D} (h : Pl (.tup (a :: xs)) = true) : Pl a = true := (Pls.cons (Pl.tup h).2).1
theorem StP.ok {n : Nat} {st : PSt} (h : StP n st) (k : n ≤ 10000) : StOk st := by
  have hl := h.l
  refine ⟨by omega, by omega, by omega, fun x hx => ?_, fun x hx => ?_⟩
  · have q : (PyData.strOk x.1 && decide (x.1.length ≤ 100000)) = true := Pl_tup0 (h.w x hx)
    rw [Bool.and_eq_true] at q
    exact q.1
  · have q : (PyData.strOk x.1 && decide (x.1.length ≤ 100000)) = true := Pl_tup0 (h.f x hx)
    rw [Bool.and_eq_true] at q
    exact q.1
theorem Pl_lst {xs : List D} (hl : xs.length ≤ 100000) (h : ∀ x ∈ xs, Pl x = true) : Pl (.lst xs) = true := by
  show (decide (xs.length ≤ 100000) && Pls xs) = true
  rw [decide_t hl, Pls.of h]
  rfl
theorem Pl_tup {xs : List D} (hl : xs.length ≤ 100000) (h : ∀ x ∈ xs, Pl x = true) : Pl (.tup xs) = true := by
  show (decide (xs.length ≤ 100000) && Pls xs) = true
  rw [decide_t hl, Pls.of h]
  rfl
theorem StP.pl {n : Nat} {st : PSt} (h : StP n st) (k : n ≤ 10000) : Pl (yardP st) = true := by
  have hl := h.l
  unfold yardP
  refine Pl_tup (by simp) fun x hx => ?_
  simp only [List.mem_cons, List.not_mem_nil, or_false] at hx
  rcases hx with rfl | rfl | rfl
  · refine Pl_lst (by rw [List.length_map]; omega) fun y hy => ?_
    obtain ⟨z, hz, rfl⟩ := List.mem_map.mp hy
    exact h.r z hz
  · refine Pl_lst (by rw [List.length_map]; omega) fun y hy => ?_
    obtain ⟨z, hz, rfl⟩ := List.mem_map.mp hy
    exact h.w z hz
  · refine Pl_lst (by rw [List.length_map]; omega) fun y hy => ?_
    obtain ⟨z, hz, rfl⟩ := List.mem_map.mp hy
    exact h.f z hz
theorem digV_lt {cs : List Nat} (h : cs.all digC = true) : NumText.digitsVal cs < 10 ^ cs.length := by
  have : ∀ (cs : List Nat) (k : Nat), cs.all digC = true → cs.foldl (fun n c => n * 10 + (c - 48)) k < (k + 1) * 10 ^ cs.length := by
    intro cs
    induction cs with
    | nil => intro k _; simp
    | cons c cs ih =>
      intro k h
      rw [List.all_cons, Bool.and_eq_true] at h
      have hc := of_decide_eq_true h.1
      rw [List.foldl_cons, List.length_cons]
      refine Nat.lt_of_lt_of_le (ih _ h.2) ?_
      rw [Nat.pow_succ, Nat.mul_comm (10 ^ cs.length) 10, ← Nat.mul_assoc]
      exact Nat.mul_le_mul_right _ (by omega)
  have := this cs 0 h
  rw [Nat.zero_add, Nat.one_mul] at this
  exact this
theorem numV_bd {cs : List Nat} {i : Int} (h : numV cs = some i) : i.natAbs < 10 ^ 10 := by
  unfold numV at h
  split at h
  · rename_i ok
    cases h
    unfold numOk at ok
    rw [Bool.and_eq_true, Bool.and_eq_true] at ok
    obtain ⟨⟨o1, _⟩, o3⟩ := ok
    have o1 := of_decide_eq_true o1
    have := digV_lt o3
    have := Nat.lt_of_lt_of_le this (Nat.pow_le_pow_right (by decide) o1.2)
    unfold valN
    split
    · omega
    · rename_i hm
      rw [lft_else hm] at this
      omega
  · cases h
theorem Pl_num {cs : List Nat} {i : Int} (h : numV cs = some i) : Pl (.int i) = true := decide_t (p := i.natAbs < 2 ^ 200) (Nat.lt_of_lt_of_le (numV_bd h) (by decide))
theorem tri_Pl {m : Nat} {ws : List Str} {ts : List Tr} (h : triV m ws = some ts) : ∀ t ∈ ts, Pl (tD t) = true := by
  unfold triV at h
  split at h
  · rename_i hc
    cases h
    intro t ht
    obtain ⟨k, hk, rfl⟩ := List.mem_map.mp ht
    have hk := List.mem_range.mp hk
    have one : ∀ j : Nat, j < ws.length → Pl (.int ((ws.map fun w => valN (tl w)).getD j 0)) = true := fun j hj => by
      rw [List.getD_eq_getElem?_getD, List.getElem?_map, List.getElem?_eq_getElem hj]
      refine Pl_num (cs := tl (ws[j])) ?_
      unfold numV
      rw [if_pos (List.all_eq_true.mp hc.2 _ (List.getElem_mem hj))]
      rfl
    unfold grpT
    refine Pl_tup (by simp) fun x hx => ?_
    simp only [List.mem_cons, List.not_mem_nil, or_false] at hx
    rcases hx with rfl | rfl | rfl <;> exact one _ (by omega)
  · cases h
theorem Pl_nm {w : Str} (h : WdOk w) : Pl (.str w) = true := by
  show (PyData.strOk w && decide (w.length ≤ 100000)) = true
  rw [h.ok, decide_t (by have := h.1; omega)]
  rfl
theorem memS {α : Type} {xs : List α} {y z : α} (h : z ∈ xs ++ [y]) : z ∈ xs ∨ z = y := by simpa using h
theorem hour_P {n : Nat} {st st' : PSt} (hs : StP n st) {ws : List Str} (h : hourP st ws = some st') : StP (n + 1) st' := by
  have hl := hs.l
  unfold hourP at h
  split at h
  · cases q : hourV ws with
    | none => rw [q] at h; cases h
    | some x =>
      rw [q] at h
      cases h
      refine ⟨fun y hy => ?_, hs.w, hs.f, by dsimp only; rw [List.length_append, List.length_singleton]; omega⟩
      rcases memS hy with hy | rfl
      · exact hs.r y hy
      · unfold hourV at q
        split at q
        · rename_i t r i e1 e2
          cases q
          refine Pl_tup (by simp) fun x hx => ?_
          simp only [List.mem_cons, List.not_mem_nil, or_false] at hx
          rcases hx with rfl | rfl
          · exact Pl_num e2
          · exact tri_Pl e1 _ List.mem_cons_self
        · cases q
  · cases h
theorem wall_P {n : Nat} {st st' : PSt} (hs : StP n st) {nm : Str} (hn : WdOk nm) {ws : List Str} (h : wallP st nm ws = some st') : StP (n + 1) st' := by
  have hl := hs.l
  unfold wallP at h
  split at h
  · split at h
    · rename_i a b c e
      cases h
      have p := tri_Pl e
      refine ⟨hs.r, fun y hy => ?_, hs.f, by dsimp only; rw [List.length_append, List.length_singleton]; omega⟩
      rcases memS hy with hy | rfl
      · exact hs.w y hy
      · refine Pl_tup (by simp) fun x hx => ?_
        simp only [List.mem_cons, List.not_mem_nil, or_false] at hx
        rcases hx with rfl | rfl
        · exact Pl_nm hn
        · refine Pl_tup (by simp) fun x hx => ?_
          simp only [List.mem_cons, List.not_mem_nil, or_false] at hx
          rcases hx with rfl | rfl | rfl <;> exact p _ (by simp)
    · cases h
  · cases h
theorem dial_P {n : Nat} {st st' : PSt} (hs : StP n st) {nm : Str} (hn : WdOk nm) {ws : List Str} (h : dialP st nm ws = some st') : StP (n + 1) st' := by
  have hl := hs.l
  unfold dialP at h
  split at h
  · rename_i a b c t e
    cases h
    have p := tri_Pl e
    refine ⟨hs.r, hs.w, fun y hy => ?_, by dsimp only; rw [List.length_append, List.length_singleton]; omega⟩
    rcases memS hy with hy | rfl
    · exact hs.f y hy
    · refine Pl_tup (by simp) fun x hx => ?_
      simp only [List.mem_cons, List.not_mem_nil, or_false] at hx
      rcases hx with rfl | rfl | rfl
      · exact Pl_nm hn
      · refine Pl_tup (by simp) fun x hx => ?_
        simp only [List.mem_cons, List.not_mem_nil, or_false] at hx
        rcases hx with rfl | rfl | rfl <;> exact p _ (by simp)
      · exact p _ (by simp)
  · cases h
theorem headD_mem {α : Type} {xs : List α} {d : α} (h : xs ≠ []) : xs.headD d ∈ xs := by
  cases xs with
  | nil => exact absurd rfl h
  | cons a r => exact List.mem_cons_self
theorem took_P {n : Nat} {st st' : PSt} (hs : StP n st) {ws : List Str} (hw : ∀ w ∈ ws, WdOk w) (h : tookP st ws = some st') : StP (n + 1) st' := by
  unfold tookP at h
  split at h
  · exact hour_P hs h
  · split at h
    · cases h
    · rename_i _ hc
      have hn : WdOk (ws.tail.headD "") := hw _ (List.mem_of_mem_tail (headD_mem fun e => hc (.inl (by
        have := congrArg List.length e
        rw [List.length_tail] at this
        simp at this
        omega))))
      split at h
      · exact wall_P hs hn h
      · split at h
        · exact dial_P hs hn h
        · cases h
def readP : PSt → Nat → List (List Str) → Nat ⊕ PSt
  | st, _, [] => .inr st
  | st, i, ws :: r => match tookP st ws with
    | none => .inl i
    | some st' => if (yardV (yardP st')).isNone = true then readP st' (i + 1) r else .inl i

/-! ### a text read -/
open TL
theorem mask_P (st : PSt) : mask (.t [.l, .l, .l]) (.tup (O.toDs (osP st))) = .t (osP st) := by
  rw [toDs_osP]
  rfl
set_option maxHeartbeats 2000000 in
theorem sp_read {x : Str} {rows : List (List Str)} (hx : x.length ≤ 100000) (er : (Txt.split x (Str.ofString "\n")).map (fun r => Txt.split r (Str.ofString " ")) = rows) (hlr : ∀ r ∈ Txt.split x (Str.ofString "\n"), r.length ≤ 100000)
    (hw : ∀ ws ∈ rows, (∀ w ∈ ws, WdOk w) ∧ ws.length ≤ 10000 ∧ ws ≠ []) (hl : rows.length ≤ 9000) {P : O → Prop} {E : D → Prop}
    (h1 : ∀ st, readP ([], [], []) 0 rows = .inr st → P (.t (osP st))) (h2 : ∀ i : Nat, readP ([], [], []) 0 rows = .inl i → E (.exc "NoRow" ["row"] [.int i])) : (f_read_yard [.str x]).wp P E := by
  have hxz : x.length + 2 ≤ sizeLine := by rw [sizeLine_eq]; omega
  generalize hrs : Txt.split x (Str.ofString "\n") = rs at er hlr
  have rl : rs.length = rows.length := by rw [← er, List.length_map]
  have eEn : enum1 [.lst (rs.map .str)] = some (enumD (rs.map .str)) := rfl
  refine wp_fnT ?_
  wtm_at "y_in"
  repeat' ((fail_if_success (with_reducible show SR.wp (sNR _ _) _ _ _)); wtm_at "y_dy")
  refine sp_nr ?_
  repeat' wtm_at "y_dy"
  refine sp_nr ?_
  refine sp_newB sp_init ?_
  repeat' ((fail_if_success (with_reducible show SR.wp (sNR _ _) _ _ _)); wtm_at "y_dy")
  refine sp_nr ?_
  repeat' ((fail_if_success (with_reducible show R.wp (eSplit _ _ _) _ _)); wtm_at "y_dy")
  refine wp_split ?_
  repeat' wtm_at "y_dy"
  refine ⟨_, rfl, ?_⟩
  repeat' wtm_at "y_dy"
  refine ⟨_, rfl, ⟨by decide +kernel, hxz⟩, ?_⟩
  rw [hrs]
  obtain ⟨RD, hRD⟩ : ∃ AD, D.lst (rs.map D.str) = AD := ⟨_, rfl⟩
  rw [hRD] at eEn ⊢
  repeat' ((fail_if_success (with_reducible show Dy.Got (enum1 _) _)); wtm_at "y_dy")
  refine g_ot eEn ?_
  refine forS_inv (fun i ρ => ∃ (st : PSt) (u w : Sl), ρ = [.val (.str x), .obj none "Paper" ["sun", "walls", "dials"] (osP st), u, w] ∧ readP ([], [], []) 0 rows = readP st i (rows.drop i) ∧ StP i st) ⟨_, _, _, rfl, rfl, (fun _ h => nomatch h), (fun _ h => nomatch h), (fun _ h => nomatch h), by simp⟩ ?_ ?_
  · rintro i d _ ed ⟨st, _, _, rfl, hR, hS⟩
    obtain ⟨y, ey, rfl⟩ := enum_get ed
    rw [List.getElem?_map] at ey
    obtain ⟨r, er', rfl⟩ : ∃ r, rs[i]? = some r ∧ D.str r = y := by
      cases q : rs[i]? with
      | none => rw [q] at ey; cases ey
      | some r => rw [q] at ey; exact ⟨r, rfl, Option.some.inj ey⟩
    have ew : rows[i]? = some (Txt.split r (Str.ofString " ")) := by rw [← er, List.getElem?_map, er']; rfl
    have hrl := hlr r (List.mem_of_getElem? er')
    have hi := (List.getElem?_eq_some_iff.mp ew).1
    obtain ⟨hw1, hw2, hw3⟩ := hw _ (List.mem_of_getElem? ew)
    have hR : readP ([], [], []) 0 rows = match tookP st (Txt.split r (Str.ofString " ")) with
      | none => .inl i
      | some st' => if (yardV (yardP st')).isNone = true then readP st' (i + 1) (rows.drop (i + 1)) else .inl i := by
      rw [hR, List.drop_eq_getElem_cons hi, (List.getElem?_eq_some_iff.mp ew).2]
      rfl
    have hrz : r.length + 2 ≤ sizeLine := by rw [sizeLine_eq]; omega
    have tk := fun v => sp_took (hS.ok (by omega)) hw1 hw2 hw3 v
    have tP := fun st' => took_P (st' := st') hS hw1
    generalize hws : Txt.split r (Str.ofString " ") = ws at hR tk tP
    repeat' ((fail_if_success (with_reducible show SR.wp (sIfP _ _ _ _) _ _ _)); wtm_at "y_dy")
    refine sp_ifP (wp_uOr (wp_uNot (wp_uVal (wp_pMeth (by rfl) ?_))))
    repeat' ((fail_if_success (with_reducible show R.wp (eSplit _ _ _) _ _)); wtm_at "y_dy")
    refine wp_split ?_
    repeat' wtm_at "y_dy"
    refine ⟨_, rfl, ?_⟩
    repeat' wtm_at "y_dy"
    refine ⟨_, rfl, ⟨by decide +kernel, hrz⟩, ?_⟩
    rw [hws]
    repeat' wtm_at "y_dy"
    refine ⟨_, _, tk, _, rfl, ?_⟩
    obtain ⟨K, hK⟩ : ∃ K : Int, (i : Int) = K := ⟨_, rfl⟩
    have h2 : readP ([], [], []) 0 rows = .inl i → E (.exc "NoRow" ["row"] [.int K]) := fun h => by rw [← hK]; exact h2 i h
    rw [hK]
    cases q : tookP st ws with
    | none =>
      rw [q] at hR
      refine ⟨fun _ => ⟨fun _ => ?_, fun z => (nomatch z)⟩, fun z => (nomatch z)⟩
      refine sp_raiseF ?_
      repeat' wtm_at "y_dy"
      exact ⟨_, rfl, h2 hR⟩
    | some st' =>
      rw [q] at hR
      have hR : readP ([], [], []) 0 rows = if (yardV (yardP st')).isNone = true then readP st' (i + 1) (rows.drop (i + 1)) else .inl i := hR
      have hS' := tP st' q
      have sd := sp_stands (hS'.pl (by omega))
      refine ⟨fun z => (nomatch z), fun _ => wp_uNot (wp_uVal (wp_pMeth (by rfl) ?_))⟩
      repeat' wtm_at "y_dy"
      refine ⟨_, _, sd, _, rfl, ?_⟩
      cases z : (yardV (yardP st')).isNone with
      | true =>
        rw [if_pos z] at hR
        refine ⟨fun z => (nomatch z), fun _ => ?_⟩
        repeat' wtm_at "y_dy"
        exact ⟨st', _, _, rfl, hR, hS'⟩
      | false =>
        rw [if_neg (by rw [z]; decide)] at hR
        refine ⟨fun _ => ?_, fun z => (nomatch z)⟩
        refine sp_raiseF ?_
        repeat' wtm_at "y_dy"
        exact ⟨_, rfl, h2 hR⟩
  · rintro _ ⟨st, _, _, rfl, hR, hS⟩
    have hE : readP ([], [], []) 0 rows = .inr st := by
      rw [hR]
      have : (enumD (rs.map D.str)).length = rows.length := by simp [enumD, rl]
      rw [this, List.drop_length]
      rfl
    refine sp_retOb (by rfl) (mask_P st) ?_
    rw [mask_P]
    exact h1 st hE

/-! ### texts joined and split again -/
open TL
theorem app_mid {c : Nat} : ∀ {p q X Y : List Nat}, c ∉ p → c ∉ q → p ++ c :: X = q ++ c :: Y → p = q ∧ X = Y
  | [], [], X, Y, _, _, h => ⟨rfl, (List.cons.inj h).2⟩
  | [], b :: q, X, Y, _, hq, h => by
    have h := List.cons.inj h
    rw [h.1] at hq
    exact absurd List.mem_cons_self hq
  | a :: p, [], X, Y, hp, _, h => by
    have h := List.cons.inj h
    rw [← h.1] at hp
    exact absurd List.mem_cons_self hp
  | a :: p, b :: q, X, Y, hp, hq, h => by
    have h := List.cons.inj h
    obtain ⟨e, e2⟩ := app_mid (fun z => hp (List.mem_cons_of_mem _ z)) (fun z => hq (List.mem_cons_of_mem _ z)) h.2
    exact ⟨by rw [h.1, e], e2⟩
theorem joinL_inj {c : Nat} : ∀ {ps qs : List (List Nat)}, ps ≠ [] → qs ≠ [] → (∀ p ∈ ps, c ∉ p) → (∀ q ∈ qs, c ∉ q) → joinL [c] ps = joinL [c] qs → ps = qs
  | [], _, h, _, _, _, _ => absurd rfl h
  | _, [], _, h, _, _, _ => absurd rfl h
  | [p], [q], _, _, _, _, h => by
    have h : p = q := h
    rw [h]
  | [p], q :: q2 :: r, _, _, hp, _, h => by
    have h : p = q ++ (c :: joinL [c] (q2 :: r)) := h
    exact absurd (by rw [h]; simp) (hp p List.mem_cons_self)
  | p :: p2 :: r, [q], _, _, _, hq, h => by
    have h : p ++ (c :: joinL [c] (p2 :: r)) = q := h
    exact absurd (by rw [← h]; simp) (hq q List.mem_cons_self)
  | p :: p2 :: r, q :: q2 :: s, _, _, hp, hq, h => by
    have h : p ++ (c :: joinL [c] (p2 :: r)) = q ++ (c :: joinL [c] (q2 :: s)) := h
    obtain ⟨e, e2⟩ := app_mid (hp p List.mem_cons_self) (hq q List.mem_cons_self) h
    have := joinL_inj (by simp) (by simp) (fun x hx => hp x (List.mem_cons_of_mem _ hx)) (fun x hx => hq x (List.mem_cons_of_mem _ hx)) e2
    rw [e, this]
def chS (c : Nat) : Str := ⟨#[c]⟩
theorem tl_join' (a : Str) (xs : List Str) : tl (Txt.join a xs) = joinL (tl a) (xs.map tl) := by
  rw [join_eq, tl_join]
theorem tl_Sjoin (a : Str) (xs : List Str) : tl (PySem.Str.join a xs) = joinL (tl a) (xs.map tl) := by
  rw [← join_eq, tl_join']
theorem map_tl_inj {xs ys : List Str} (h : xs.map tl = ys.map tl) : xs = ys := by
  induction xs generalizing ys with
  | nil =>
    cases ys with
    | nil => rfl
    | cons y ys => cases h
  | cons x xs ih =>
    cases ys with
    | nil => cases h
    | cons y ys =>
      rw [List.map_cons, List.map_cons, List.cons.injEq] at h
      rw [str_ext h.1, ih h.2]
theorem split_of {c : Nat} {x : Str} {xs : List Str} (hne : xs ≠ []) (hf : ∀ y ∈ xs, c ∉ tl y) (e : tl x = joinL [c] (xs.map tl)) : Txt.split x (chS c) = xs := by
  have h1 := StrLaws.join_split x (chS c)
  have h2 := StrLaws.split_free x c
  have h3 := split_pos x (chS c)
  refine map_tl_inj (joinL_inj (c := c) ?_ ?_ ?_ ?_ ?_)
  · intro z
    rw [List.map_eq_nil_iff.mp z] at h3
    simp at h3
  · intro z
    exact hne (List.map_eq_nil_iff.mp z)
  · intro p hp
    obtain ⟨y, hy, rfl⟩ := List.mem_map.mp hp
    exact h2 y hy
  · intro p hp
    obtain ⟨y, hy, rfl⟩ := List.mem_map.mp hp
    exact hf y hy
  · rw [← e]
    have := congrArg tl h1
    rw [tl_Sjoin] at this
    exact this
theorem split_join {c : Nat} {xs : List Str} (hne : xs ≠ []) (hf : ∀ y ∈ xs, c ∉ tl y) : Txt.split (Txt.join (chS c) xs) (chS c) = xs := split_of hne hf (by rw [tl_join']; rfl)
/-! ### figures read -/
theorem digs_head : ∀ (k n : Nat), n < 10 ^ (k + 1) → n ≠ 0 → (digs n).head? ≠ some 48
  | 0, n, h, h0 => by
    rw [digs_step, if_pos (by omega)]
    show some (48 + n % 10) ≠ some 48
    intro z
    have := Option.some.inj z
    omega
  | k + 1, n, h, h0 => by
    rw [digs_step]
    have h2 : n / 10 < 10 ^ (k + 1) := by
      rw [Nat.pow_succ] at h
      omega
    split
    · show some (48 + n % 10) ≠ some 48
      intro z
      have := Option.some.inj z
      omega
    · rename_i hz
      have ih := digs_head k _ h2 hz
      cases q : digs (n / 10) with
      | nil => exact absurd q (digs_ne _)
      | cons a b =>
        rw [q] at ih
        exact ih
theorem digs_val : ∀ (k n : Nat), n < 10 ^ (k + 1) → NumText.digitsVal (digs n) = n
  | 0, n, h => by
    rw [digs_step, if_pos (by omega)]
    show 0 * 10 + (48 + n % 10 - 48) = n
    omega
  | k + 1, n, h => by
    have h2 : n / 10 < 10 ^ (k + 1) := by
      rw [Nat.pow_succ] at h
      omega
    have ih := digs_val k _ h2
    rw [digs_step]
    split
    · show 0 * 10 + (48 + n % 10 - 48) = n
      omega
    · unfold NumText.digitsVal at ih ⊢
      rw [List.foldl_append, ih]
      show n / 10 * 10 + (48 + n % 10 - 48) = n
      omega
theorem digs_all {k n : Nat} (h : n < 10 ^ (k + 1)) : (digs n).all digC = true := by
  rw [List.all_eq_true]
  intro c hc
  have := digs_range k n h c hc
  exact decide_eq_true (by omega)
theorem digs_zero : digs 0 = [48] := by decide
theorem numV_num {i : Int} (h : i.natAbs < 10 ^ 10) : numV (tl (numS i)) = some i := by
  have hl := digs_len 9 _ h
  have hd := digs_head 9 _ h
  have hv := digs_val 9 _ h
  have ha := digs_all (k := 9) h
  have hn := digs_ne i.natAbs
  have hpos : 1 ≤ (digs i.natAbs).length := by
    cases q : digs i.natAbs with
    | nil => exact absurd q hn
    | cons a b => simp
  rw [tl_num]
  by_cases h0 : i < 0
  · rw [if_pos h0]
    show numV (45 :: digs i.natAbs) = _
    have e1 : lftN (45 :: digs i.natAbs) = digs i.natAbs := rfl
    have ok : numOk (45 :: digs i.natAbs) = true := by
      unfold numOk
      rw [e1, ha, decide_eq_true (show 1 ≤ (digs i.natAbs).length ∧ (digs i.natAbs).length ≤ 10 from ⟨hpos, hl⟩), decide_eq_false (hd (by omega))]
      rfl
    unfold numV
    rw [if_pos ok]
    unfold valN
    rw [if_pos (show (45 :: digs i.natAbs).head? = some 45 from rfl), e1, hv]
    congr 1
    omega
  · rw [if_neg h0, List.nil_append]
    have hh : (digs i.natAbs).head? ≠ some 45 := fun z => by
      cases q : digs i.natAbs with
      | nil => exact absurd q hn
      | cons a b =>
        rw [q] at z
        have z : some a = some 45 := z
        have := digs_range 9 _ h a (by rw [q]; exact List.mem_cons_self)
        have := Option.some.inj z
        omega
    have e1 : lftN (digs i.natAbs) = digs i.natAbs := lft_else hh
    have ok : numOk (digs i.natAbs) = true := by
      unfold numOk
      rw [e1, ha, decide_eq_true (show 1 ≤ (digs i.natAbs).length ∧ (digs i.natAbs).length ≤ 10 from ⟨hpos, hl⟩)]
      by_cases hz : i.natAbs = 0
      · rw [hz, digs_zero]
        rfl
      · rw [decide_eq_false (hd hz)]
        rfl
    unfold numV
    rw [if_pos ok]
    unfold valN
    rw [if_neg hh, hv]
    congr 1
    omega

/-! ### a good yard's rows are read to it -/
open TL
structure YdH (rs : List Row) (ws : List Wall) (fs : List Dial) : Prop where
  rows : rs.Pairwise fun r q => r.1 < q.1
  row : ∀ r ∈ rs, (0 ≤ r.1 ∧ r.1 ≤ 9999) ∧ okDr (tD r.2) = true
  wall : ∀ w ∈ ws, okNm (.str w.1) = true ∧ okP (plD w.2) = true
  dial : ∀ f ∈ fs, okNm (.str f.1) = true ∧ okP (plD f.2.1) = true ∧ okTip (plD f.2.1) (tD f.2.2) = true
  nms : (ws.map (·.1) ++ fs.map (·.1)).Nodup
theorem scan_H : ∀ (rs : List Row) (last : Int) (k : Nat), (∀ r ∈ rs, last < r.1) → rs.Pairwise (fun r q => r.1 < q.1) → (∀ r ∈ rs, (0 ≤ r.1 ∧ r.1 ≤ 9999) ∧ okDr (tD r.2) = true) → scan last (rs.map rowD) k = none
  | [], _, _, _, _, _ => rfl
  | r :: rs, last, k, h1, h2, h3 => by
    obtain ⟨⟨_, h9⟩, hz⟩ := h3 r List.mem_cons_self
    have e : rowN last (rowD r) = some r.1 := if_pos ⟨h1 r List.mem_cons_self, h9, hz⟩
    rw [List.pairwise_cons] at h2
    rw [List.map_cons]
    unfold scan
    rw [e]
    exact scan_H rs r.1 (k + 1) h2.1 h2.2 fun q hq => h3 q (List.mem_cons_of_mem _ hq)
theorem goV2_H : ∀ (ws : List Wall) (ns : List Str) (k : Nat), k + ws.length ≤ 20 → (ns ++ ws.map (·.1)).Nodup → (∀ w ∈ ws, okNm (.str w.1) = true ∧ okP (plD w.2) = true) → goV 2 ns k (ws.map wallD) = .inl (ns ++ ws.map (·.1))
  | [], ns, k, _, _, _ => by
    show Sum.inl ns = Sum.inl (ns ++ [])
    rw [List.append_nil]
  | w :: ws, ns, k, hl, hn, hw => by
    obtain ⟨h1, h2⟩ := hw w List.mem_cons_self
    rw [List.length_cons] at hl
    have hx : ¬ w.1 ∈ ns := fun z => by
      rw [List.nodup_append] at hn
      exact hn.2.2 _ z _ (by simp) rfl
    have e : thV 2 ns k (wallD w) = .inr w.1 := by
      show (if 2 = 2 ∧ okNm (.str w.1) = true ∧ k ≠ 20 then (if (decide (w.1 ∈ ns) || !okP (plD w.2)) = true then Sum.inl (some w.1) else .inr w.1) else .inl none) = _
      rw [if_pos ⟨rfl, h1, by omega⟩, decide_f hx, h2]
      rfl
    rw [List.map_cons]
    unfold goV
    rw [e]
    show goV 2 (ns ++ [w.1]) (k + 1) (ws.map wallD) = _
    rw [goV2_H ws (ns ++ [w.1]) (k + 1) (by omega) (by rw [List.append_assoc]; exact hn) fun x hx => hw x (List.mem_cons_of_mem _ hx), List.append_assoc]
    rfl
theorem goV3_H : ∀ (ws : List Dial) (ns : List Str) (k : Nat), k + ws.length ≤ 20 → (ns ++ ws.map (·.1)).Nodup → (∀ f ∈ ws, okNm (.str f.1) = true ∧ okP (plD f.2.1) = true ∧ okTip (plD f.2.1) (tD f.2.2) = true) → goV 3 ns k (ws.map dialD) = .inl (ns ++ ws.map (·.1))
  | [], ns, k, _, _, _ => by
    show Sum.inl ns = Sum.inl (ns ++ [])
    rw [List.append_nil]
  | w :: ws, ns, k, hl, hn, hw => by
    obtain ⟨h1, h2, h3⟩ := hw w List.mem_cons_self
    rw [List.length_cons] at hl
    have hx : ¬ w.1 ∈ ns := fun z => by
      rw [List.nodup_append] at hn
      exact hn.2.2 _ z _ (by simp) rfl
    have e : thV 3 ns k (dialD w) = .inr w.1 := by
      show (if 3 = 3 ∧ okNm (.str w.1) = true ∧ k ≠ 20 then (if (decide (w.1 ∈ ns) || !okP (plD w.2.1) || !okTip (plD w.2.1) (tD w.2.2)) = true then Sum.inl (some w.1) else .inr w.1) else .inl none) = _
      rw [if_pos ⟨rfl, h1, by omega⟩, decide_f hx, h2, h3]
      rfl
    rw [List.map_cons]
    unfold goV
    rw [e]
    show goV 3 (ns ++ [w.1]) (k + 1) (ws.map dialD) = _
    rw [goV3_H ws (ns ++ [w.1]) (k + 1) (by omega) (by rw [List.append_assoc]; exact hn) fun x hx => hw x (List.mem_cons_of_mem _ hx), List.append_assoc]
    rfl
section
variable {rs : List Row} {ws : List Wall} {fs : List Dial}
theorem yardV_H (h : YdH rs ws fs) (h1 : 1 ≤ rs.length) (h2 : rs.length ≤ 80) (h3 : ws.length ≤ 20) (h4 : fs.length ≤ 20) : yardV (yardD rs ws fs) = none := by
  have e1 : sunV (.lst (rs.map rowD)) = none := by
    show verd (rs.map rowD) = none
    unfold verd
    rw [List.length_map, if_pos ⟨h1, h2⟩, scan_H rs (-1) 0 (fun r hr => by have := (h.row r hr).1.1; omega) h.rows h.row]
    rfl
  have hn := h.nms
  have e2 : thsV 2 [] (.lst (ws.map wallD)) = .inl (ws.map (·.1)) := by
    show goV 2 [] 0 (ws.map wallD) = _
    rw [goV2_H ws [] 0 (by omega) (by rw [List.nil_append]; exact (List.nodup_append.mp hn).1) h.wall]
    rfl
  have e3 : thsV 3 (ws.map (·.1)) (.lst (fs.map dialD)) = .inl (ws.map (·.1) ++ fs.map (·.1)) :=
    show goV 3 (ws.map (·.1)) 0 (fs.map dialD) = _ from goV3_H fs (ws.map (·.1)) 0 (by omega) hn h.dial
  show (match sunV (.lst (rs.map rowD)) with
      | some a => some (D.exc "NoSun" ["at"] [a])
      | none => match thsV 2 [] (.lst (ws.map wallD)) with
        | .inr p => some (D.exc "NoYard" ["name"] [optS p.2])
        | .inl ns => match thsV 3 ns (.lst (fs.map dialD)) with
          | .inr p => some (D.exc "NoYard" ["name"] [optS p.2])
          | .inl _ => none) = none
  rw [e1, e2]
  dsimp only
  rw [e3]
theorem YdH.sub {rs' : List Row} {ws' : List Wall} {fs' : List Dial} (h : YdH rs ws fs) (h1 : List.Sublist rs' rs) (h2 : List.Sublist ws' ws) (h3 : List.Sublist fs' fs) : YdH rs' ws' fs' :=
  ⟨h.rows.sublist h1, fun r hr => h.row r (h1.subset hr), fun r hr => h.wall r (h2.subset hr), fun r hr => h.dial r (h3.subset hr), h.nms.sublist ((h2.map _).append (h3.map _))⟩
end
/-! #### the words of the rows -/
def trW (t : Tr) : List Str := [numS t.1, numS t.2.1, numS t.2.2]
def sunW (r : Row) : List Str := Str.ofString "sun" :: numS r.1 :: trW r.2
def wallW (w : Wall) : List Str := Str.ofString "wall" :: w.1 :: (trW w.2.1 ++ (trW w.2.2.1 ++ trW w.2.2.2))
def dialW (f : Dial) : List Str := Str.ofString "dial" :: f.1 :: (trW f.2.1.1 ++ (trW f.2.1.2.1 ++ (trW f.2.1.2.2 ++ trW f.2.2)))
theorem joinL_cons (S p : List Nat) {ps : List (List Nat)} (h : ps ≠ []) : joinL S (p :: ps) = p ++ (S ++ joinL S ps) := by
  cases ps with
  | nil => exact absurd rfl h
  | cons a b => rfl
theorem tl_sp : tl spS = [32] := by decide +kernel
theorem tl_trip (t : Tr) : tl (tripS t) = joinL [32] ((trW t).map tl) := by
  show tl (Txt.join spS _) = _
  rw [tl_join', tl_sp]
  rfl
theorem tl_words (ts : List Tr) : tl (wordsS ts) = joinL [32] (ts.map fun t => joinL [32] ((trW t).map tl)) := by
  show tl (Txt.join spS _) = _
  rw [tl_join', tl_sp, List.map_map]
  congr 1
  exact List.map_congr_left fun t _ => tl_trip t
theorem sunW_tl (r : Row) : tl (sunS r) = joinL [32] ((sunW r).map tl) := by
  unfold sunS sunW
  rw [tl_app, tl_app, tl_app, tl_sp, tl_words, show tl (Str.ofString "sun ") = tl (Str.ofString "sun") ++ [32] by decide +kernel]
  simp only [joinL, trW, List.map_cons, List.map_nil, List.append_assoc]
theorem wallW_tl (w : Wall) : tl (wallS w) = joinL [32] ((wallW w).map tl) := by
  unfold wallS wallW
  rw [tl_app, tl_app, tl_app, tl_sp, tl_words, show tl (Str.ofString "wall ") = tl (Str.ofString "wall") ++ [32] by decide +kernel]
  simp only [joinL, trW, List.map_cons, List.map_nil, List.append_assoc, List.cons_append, List.nil_append]
theorem dialW_tl (f : Dial) : tl (dialS f) = joinL [32] ((dialW f).map tl) := by
  unfold dialS dialW
  rw [tl_app, tl_app, tl_app, tl_sp, tl_words, show tl (Str.ofString "dial ") = tl (Str.ofString "dial") ++ [32] by decide +kernel]
  simp only [joinL, trW, List.map_cons, List.map_nil, List.append_assoc, List.cons_append, List.nil_append]
/-- a word: its signs are below 1000, none is a blank or a line feed -/
def Wd (n : Nat) (w : Str) : Prop := w.length ≤ n ∧ ∀ c ∈ tl w, 32 < c ∧ c < 1000
theorem num_Wd {i : Int} (h : i.natAbs < 10 ^ 10) : Wd 11 (numS i) := by
  have l := digs_len 9 _ h
  have r := digs_range 9 _ h
  refine ⟨?_, fun c hc => ?_⟩
  · rw [slen, tl_num, List.length_append]
    split
    · simp; omega
    · simp; omega
  · rw [tl_num] at hc
    rcases List.mem_append.mp hc with hc | hc
    · split at hc
      · rw [List.mem_singleton.mp hc]; decide
      · cases hc
    · have := r c hc
      omega
theorem lit_Wd {s : String} (n : Nat) (h : (Str.ofString s).length ≤ n ∧ ((tl (Str.ofString s)).all fun c => decide (32 < c ∧ c < 1000)) = true) : Wd n (Str.ofString s) := ⟨h.1, fun c hc => of_decide_eq_true (List.all_eq_true.mp h.2 c hc)⟩
def B10 (t : Tr) : Prop := t.1.natAbs < 10 ^ 10 ∧ t.2.1.natAbs < 10 ^ 10 ∧ t.2.2.natAbs < 10 ^ 10
theorem trW_Wd {t : Tr} (h : B10 t) : ∀ w ∈ trW t, Wd 11 w := fun w hw => by
  unfold trW at hw
  simp only [List.mem_cons, List.not_mem_nil, or_false] at hw
  rcases hw with rfl | rfl | rfl
  · exact num_Wd h.1
  · exact num_Wd h.2.1
  · exact num_Wd h.2.2
def RowB (r : Row) : Prop := r.1.natAbs < 10 ^ 10 ∧ B10 r.2
def WallB (w : Wall) : Prop := Wd 11 w.1 ∧ B10 w.2.1 ∧ B10 w.2.2.1 ∧ B10 w.2.2.2
def DialB (f : Dial) : Prop := Wd 11 f.1 ∧ (B10 f.2.1.1 ∧ B10 f.2.1.2.1 ∧ B10 f.2.1.2.2) ∧ B10 f.2.2
theorem sunW_Wd {r : Row} (h : RowB r) : ∀ w ∈ sunW r, Wd 11 w := fun w hw => by
  rcases List.mem_cons.mp hw with rfl | hw
  · exact lit_Wd 11 (by decide +kernel)
  · rcases List.mem_cons.mp hw with rfl | hw
    · exact num_Wd h.1
    · exact trW_Wd h.2 w hw
theorem wallW_Wd {r : Wall} (h : WallB r) : ∀ w ∈ wallW r, Wd 11 w := fun w hw => by
  rcases List.mem_cons.mp hw with rfl | hw
  · exact lit_Wd 11 (by decide +kernel)
  · rcases List.mem_cons.mp hw with rfl | hw
    · exact h.1
    · rcases List.mem_append.mp hw with hw | hw
      · exact trW_Wd h.2.1 w hw
      · rcases List.mem_append.mp hw with hw | hw
        · exact trW_Wd h.2.2.1 w hw
        · exact trW_Wd h.2.2.2 w hw
theorem dialW_Wd {r : Dial} (h : DialB r) : ∀ w ∈ dialW r, Wd 11 w := fun w hw => by
  rcases List.mem_cons.mp hw with rfl | hw
  · exact lit_Wd 11 (by decide +kernel)
  · rcases List.mem_cons.mp hw with rfl | hw
    · exact h.1
    · rcases List.mem_append.mp hw with hw | hw
      · exact trW_Wd h.2.1.1 w hw
      · rcases List.mem_append.mp hw with hw | hw
        · exact trW_Wd h.2.1.2.1 w hw
        · rcases List.mem_append.mp hw with hw | hw
          · exact trW_Wd h.2.1.2.2 w hw
          · exact trW_Wd h.2.2 w hw
theorem Wd.nosp {n : Nat} {w : Str} (h : Wd n w) : 32 ∉ tl w := fun z => by have := h.2 _ z; omega
theorem words_split {x : Str} {ws : List Str} (hne : ws ≠ []) (h : ∀ w ∈ ws, Wd 11 w) (e : tl x = joinL [32] (ws.map tl)) : Txt.split x (Str.ofString " ") = ws := split_of hne (fun y hy => (h y hy).nosp) e
/-! #### what a good row makes of the paper -/
theorem triV_of {m : Nat} {ws : List Str} {ns : List Int} (hl : ns.length = 3 * m) (hw : ws = ns.map numS) (hb : ∀ n ∈ ns, n.natAbs < 10 ^ 10) : triV m ws = some ((List.range m).map (grpT ns)) := by
  have each : ∀ n ∈ ns, numOk (tl (numS n)) = true ∧ valN (tl (numS n)) = n := fun n hn => by
    have := numV_num (hb n hn)
    unfold numV at this
    split at this
    · rename_i h
      exact ⟨h, Option.some.inj this⟩
    · cases this
  have e : (ws.map fun w => valN (tl w)) = ns := by
    rw [hw, List.map_map]
    conv => rhs; rw [← List.map_id ns]
    exact List.map_congr_left fun n hn => (each n hn).2
  have ha : ws.all (fun w => numOk (tl w)) = true := by
    rw [hw, List.all_map, List.all_eq_true]
    intro n hn
    exact (each n hn).1
  unfold triV
  rw [if_pos ⟨by rw [hw, List.length_map, hl], ha⟩, e]
theorem tookP_sun {st : PSt} {r : Row} (h : RowB r) (h2 : st.2.1 = []) (h3 : st.2.2 = []) : tookP st (sunW r) = some (st.1 ++ [r], st.2.1, st.2.2) := by
  have e1 : triV 1 (trW r.2) = some [r.2] := by
    rw [triV_of (ws := trW r.2) (ns := [r.2.1, r.2.2.1, r.2.2.2]) rfl rfl (fun n hn => by
      simp only [List.mem_cons, List.not_mem_nil, or_false] at hn
      rcases hn with rfl | rfl | rfl
      · exact h.2.1
      · exact h.2.2.1
      · exact h.2.2.2)]
    rfl
  have e : hourV (numS r.1 :: trW r.2) = some r := by
    show (match triV 1 (trW r.2), numV (tl (numS r.1)) with
      | some (t :: _), some i => some (i, t)
      | _, _ => none) = _
    rw [e1, numV_num h.1]
  show (if Str.ofString "sun" = Str.ofString "sun" then hourP st (numS r.1 :: trW r.2) else _) = _
  rw [if_pos rfl]
  unfold hourP
  rw [if_pos ⟨h2, h3⟩, e]
  rfl
theorem tookP_wall {st : PSt} {w : Wall} (h : WallB w) (h1 : st.1 ≠ []) (h3 : st.2.2 = []) : tookP st (wallW w) = some (st.1, st.2.1 ++ [w], st.2.2) := by
  obtain ⟨nm, a, b, c⟩ := w
  have e1 : triV 3 (trW a ++ (trW b ++ trW c)) = some [a, b, c] := by
    rw [triV_of (ws := trW a ++ (trW b ++ trW c)) (ns := [a.1, a.2.1, a.2.2, b.1, b.2.1, b.2.2, c.1, c.2.1, c.2.2]) rfl rfl (fun n hn => by
      obtain ⟨_, ha, hb, hc⟩ := h
      simp only [List.mem_cons, List.not_mem_nil, or_false] at hn
      rcases hn with rfl | rfl | rfl | rfl | rfl | rfl | rfl | rfl | rfl
      · exact ha.1
      · exact ha.2.1
      · exact ha.2.2
      · exact hb.1
      · exact hb.2.1
      · exact hb.2.2
      · exact hc.1
      · exact hc.2.1
      · exact hc.2.2)]
    rfl
  have hq : ¬ Str.ofString "wall" = Str.ofString "sun" := by decide +kernel
  show (if Str.ofString "wall" = Str.ofString "sun" then _ else if (Str.ofString "wall" :: nm :: (trW a ++ (trW b ++ trW c))).length < 2 ∨ st.1 = [] then none else if Str.ofString "wall" = Str.ofString "wall" then wallP st nm (trW a ++ (trW b ++ trW c)) else _) = _
  rw [if_neg hq, if_neg (fun z => z.elim (fun z => by simp at z; omega) h1), if_pos rfl]
  unfold wallP
  rw [if_pos h3, e1]
theorem tookP_dial {st : PSt} {w : Dial} (h : DialB w) (h1 : st.1 ≠ []) : tookP st (dialW w) = some (st.1, st.2.1, st.2.2 ++ [w]) := by
  obtain ⟨nm, ⟨a, b, c⟩, t⟩ := w
  have e1 : triV 4 (trW a ++ (trW b ++ (trW c ++ trW t))) = some [a, b, c, t] := by
    rw [triV_of (ws := trW a ++ (trW b ++ (trW c ++ trW t))) (ns := [a.1, a.2.1, a.2.2, b.1, b.2.1, b.2.2, c.1, c.2.1, c.2.2, t.1, t.2.1, t.2.2]) rfl rfl (fun n hn => by
      obtain ⟨_, ⟨ha, hb, hc⟩, ht⟩ := h
      simp only [List.mem_cons, List.not_mem_nil, or_false] at hn
      rcases hn with rfl | rfl | rfl | rfl | rfl | rfl | rfl | rfl | rfl | rfl | rfl | rfl
      · exact ha.1
      · exact ha.2.1
      · exact ha.2.2
      · exact hb.1
      · exact hb.2.1
      · exact hb.2.2
      · exact hc.1
      · exact hc.2.1
      · exact hc.2.2
      · exact ht.1
      · exact ht.2.1
      · exact ht.2.2)]
    rfl
  have hq : ¬ Str.ofString "dial" = Str.ofString "sun" := by decide +kernel
  have hq2 : ¬ Str.ofString "dial" = Str.ofString "wall" := by decide +kernel
  show (if Str.ofString "dial" = Str.ofString "sun" then _ else if (Str.ofString "dial" :: nm :: (trW a ++ (trW b ++ (trW c ++ trW t)))).length < 2 ∨ st.1 = [] then none else if Str.ofString "dial" = Str.ofString "wall" then _ else if Str.ofString "dial" = Str.ofString "dial" then dialP st nm (trW a ++ (trW b ++ (trW c ++ trW t))) else _) = _
  rw [if_neg hq, if_neg (fun z => z.elim (fun z => by simp at z; omega) h1), if_neg hq2, if_pos rfl]
  unfold dialP
  rw [e1]
theorem readP_cons (st : PSt) (i : Nat) (ws : List Str) (r : List (List Str)) : readP st i (ws :: r) = match tookP st ws with
    | none => .inl i
    | some st' => if (yardV (yardP st')).isNone = true then readP st' (i + 1) r else .inl i := rfl
theorem readP_app : ∀ (xs ys : List (List Str)) (st : PSt) (i : Nat), readP st i (xs ++ ys) = match readP st i xs with
    | .inl j => .inl j
    | .inr st' => readP st' (i + xs.length) ys
  | [], ys, st, i => rfl
  | x :: xs, ys, st, i => by
    rw [List.cons_append, readP_cons, readP_cons]
    cases tookP st x with
    | none => rfl
    | some st' =>
      dsimp only
      cases (yardV (yardP st')).isNone with
      | false => rfl
      | true =>
        show readP st' (i + 1) (xs ++ ys) = match readP st' (i + 1) xs with
          | .inl j => .inl j
          | .inr st' => readP st' (i + (x :: xs).length) ys
        rw [readP_app xs ys st' (i + 1), List.length_cons, show i + 1 + xs.length = i + (xs.length + 1) by omega]
theorem readP_suns : ∀ (rs' rs : List Row) (i : Nat), (∀ r ∈ rs', RowB r) → YdH (rs ++ rs') [] [] → (rs ++ rs').length ≤ 80 → readP (rs, [], []) i (rs'.map sunW) = .inr (rs ++ rs', [], [])
  | [], rs, i, _, _, _ => by rw [List.append_nil]; rfl
  | r :: rs', rs, i, hb, hy, hl => by
    rw [List.map_cons, readP_cons, tookP_sun (hb r List.mem_cons_self) rfl rfl]
    dsimp only
    have e : rs ++ r :: rs' = (rs ++ [r]) ++ rs' := by simp
    rw [e] at hy hl ⊢
    have y := yardV_H (hy.sub (List.sublist_append_left (rs ++ [r]) rs') (List.Sublist.refl _) (List.Sublist.refl _)) (by simp) (by rw [List.length_append] at hl; omega) (by simp) (by simp)
    have y : yardV (yardP (rs ++ [r], [], [])) = none := y
    rw [y, if_pos (by rfl)]
    exact readP_suns rs' (rs ++ [r]) (i + 1) (fun q hq => hb q (List.mem_cons_of_mem _ hq)) hy hl
theorem readP_walls {rs : List Row} (h1 : 1 ≤ rs.length) (h2 : rs.length ≤ 80) : ∀ (rs' ws : List Wall) (i : Nat), (∀ r ∈ rs', WallB r) → YdH rs (ws ++ rs') [] → (ws ++ rs').length ≤ 20 → readP (rs, ws, []) i (rs'.map wallW) = .inr (rs, ws ++ rs', [])
  | [], ws, i, _, _, _ => by rw [List.append_nil]; rfl
  | r :: rs', ws, i, hb, hy, hl => by
    rw [List.map_cons, readP_cons, tookP_wall (hb r List.mem_cons_self) (fun e => by have e : rs = [] := e; rw [e] at h1; simp at h1) rfl]
    dsimp only
    have e : ws ++ r :: rs' = (ws ++ [r]) ++ rs' := by simp
    rw [e] at hy hl ⊢
    have y := yardV_H (hy.sub (List.Sublist.refl _) (List.sublist_append_left (ws ++ [r]) rs') (List.Sublist.refl _)) h1 h2 (by rw [List.length_append] at hl; omega) (by simp)
    have y : yardV (yardP (rs, ws ++ [r], [])) = none := y
    rw [y, if_pos (by rfl)]
    exact readP_walls h1 h2 rs' (ws ++ [r]) (i + 1) (fun q hq => hb q (List.mem_cons_of_mem _ hq)) hy hl
theorem readP_dials {rs : List Row} {ws : List Wall} (h1 : 1 ≤ rs.length) (h2 : rs.length ≤ 80) (h3 : ws.length ≤ 20) : ∀ (rs' fs : List Dial) (i : Nat), (∀ r ∈ rs', DialB r) → YdH rs ws (fs ++ rs') → (fs ++ rs').length ≤ 20 → readP (rs, ws, fs) i (rs'.map dialW) = .inr (rs, ws, fs ++ rs')
  | [], fs, i, _, _, _ => by rw [List.append_nil]; rfl
  | r :: rs', fs, i, hb, hy, hl => by
    rw [List.map_cons, readP_cons, tookP_dial (hb r List.mem_cons_self) (fun e => by have e : rs = [] := e; rw [e] at h1; simp at h1)]
    dsimp only
    have e : fs ++ r :: rs' = (fs ++ [r]) ++ rs' := by simp
    rw [e] at hy hl ⊢
    have y := yardV_H (hy.sub (List.Sublist.refl _) (List.Sublist.refl _) (List.sublist_append_left (fs ++ [r]) rs')) h1 h2 h3 (by rw [List.length_append] at hl; omega)
    have y : yardV (yardP (rs, ws, fs ++ [r])) = none := y
    rw [y, if_pos (by rfl)]
    exact readP_dials h1 h2 h3 rs' (fs ++ [r]) (i + 1) (fun q hq => hb q (List.mem_cons_of_mem _ hq)) hy hl
def rowsW (rs : List Row) (ws : List Wall) (fs : List Dial) : List (List Str) := (rs.map sunW ++ ws.map wallW) ++ fs.map dialW
theorem readP_yard {rs : List Row} {ws : List Wall} {fs : List Dial} (h : YdH rs ws fs) (hr : ∀ r ∈ rs, RowB r) (hw : ∀ w ∈ ws, WallB w) (hf : ∀ f ∈ fs, DialB f) (h1 : 1 ≤ rs.length) (h2 : rs.length ≤ 80) (h3 : ws.length ≤ 20) (h4 : fs.length ≤ 20) : readP ([], [], []) 0 (rowsW rs ws fs) = .inr (rs, ws, fs) := by
  unfold rowsW
  have nil : ∀ {α : Type} (xs : List α), List.Sublist [] xs := fun xs => List.nil_sublist xs
  rw [readP_app, readP_app, readP_suns rs [] 0 hr (by rw [List.nil_append]; exact h.sub (List.Sublist.refl _) (nil _) (nil _)) (by rw [List.nil_append]; exact h2)]
  dsimp only
  rw [List.nil_append, readP_walls h1 h2 ws [] _ hw (by rw [List.nil_append]; exact h.sub (List.Sublist.refl _) (List.Sublist.refl _) (nil _)) (by rw [List.nil_append]; exact h3)]
  dsimp only
  rw [List.nil_append, readP_dials h1 h2 h3 fs [] _ hf (by rw [List.nil_append]; exact h) (by rw [List.nil_append]; exact h4), List.nil_append]

/-! ### a yard that is looked through is a good one -/
theorem scan_inv : ∀ (rs : List Row) (last : Int) (k : Nat), scan last (rs.map rowD) k = none → (∀ r ∈ rs, last < r.1) ∧ rs.Pairwise (fun r q => r.1 < q.1) ∧ ∀ r ∈ rs, r.1 ≤ 9999 ∧ okDr (tD r.2) = true
  | [], _, _, _ => ⟨(fun _ h => nomatch h), .nil, fun _ h => nomatch h⟩
  | r :: rs, last, k, h => by
    rw [List.map_cons] at h
    unfold scan at h
    have e : rowN last (rowD r) = if last < r.1 ∧ r.1 ≤ 9999 ∧ okDr (tD r.2) = true then some r.1 else none := rfl
    rw [e] at h
    by_cases hc : last < r.1 ∧ r.1 ≤ 9999 ∧ okDr (tD r.2) = true
    · rw [if_pos hc] at h
      obtain ⟨a, b, c⟩ := scan_inv rs r.1 (k + 1) h
      refine ⟨fun q hq => ?_, List.pairwise_cons.mpr ⟨a, b⟩, fun q hq => ?_⟩
      · rcases List.mem_cons.mp hq with rfl | hq
        · exact hc.1
        · have := a q hq
          omega
      · rcases List.mem_cons.mp hq with rfl | hq
        · exact hc.2
        · exact c q hq
    · rw [if_neg hc] at h
      cases h
theorem goV2_inv : ∀ (ws : List Wall) (ns ms : List Str) (k : Nat), k ≤ 20 → ns.Nodup → goV 2 ns k (ws.map wallD) = .inl ms → ms = ns ++ ws.map (·.1) ∧ ms.Nodup ∧ (∀ w ∈ ws, okNm (.str w.1) = true ∧ okP (plD w.2) = true) ∧ k + ws.length ≤ 20
  | [], ns, ms, k, hk, hn, h => by
    have h : Sum.inl ns = Sum.inl ms := h
    cases h
    exact ⟨by simp, hn, (fun _ h => nomatch h), by simpa using hk⟩
  | w :: ws, ns, ms, k, hk, hn, h => by
    rw [List.map_cons] at h
    unfold goV at h
    have e : thV 2 ns k (wallD w) = (if 2 = 2 ∧ okNm (.str w.1) = true ∧ k ≠ 20 then (if (decide (w.1 ∈ ns) || !okP (plD w.2)) = true then Sum.inl (some w.1) else .inr w.1) else .inl none) := rfl
    rw [e] at h
    by_cases hc : 2 = 2 ∧ okNm (.str w.1) = true ∧ k ≠ 20
    · rw [if_pos hc] at h
      by_cases hd : (decide (w.1 ∈ ns) || !okP (plD w.2)) = true
      · rw [if_pos hd] at h
        cases h
      · rw [if_neg hd] at h
        have hd : (decide (w.1 ∈ ns) || !okP (plD w.2)) = false := by simpa using hd
        rw [Bool.or_eq_false_iff, decide_eq_false_iff_not] at hd
        obtain ⟨h1, h2, h3, h4⟩ := goV2_inv ws (ns ++ [w.1]) ms (k + 1) (by omega) (by
          rw [List.nodup_append]
          refine ⟨hn, by simp, fun a ha b hb e => ?_⟩
          rw [List.mem_singleton.mp hb] at e
          rw [e] at ha
          exact hd.1 ha) h
        refine ⟨by rw [h1]; simp, h2, fun q hq => ?_, by simp; omega⟩
        rcases List.mem_cons.mp hq with rfl | hq
        · exact ⟨hc.2.1, by simpa using hd.2⟩
        · exact h3 q hq
    · rw [if_neg hc] at h
      cases h
theorem goV3_inv : ∀ (ws : List Dial) (ns ms : List Str) (k : Nat), k ≤ 20 → ns.Nodup → goV 3 ns k (ws.map dialD) = .inl ms → ms = ns ++ ws.map (·.1) ∧ ms.Nodup ∧ (∀ w ∈ ws, okNm (.str w.1) = true ∧ okP (plD w.2.1) = true ∧ okTip (plD w.2.1) (tD w.2.2) = true) ∧ k + ws.length ≤ 20
  | [], ns, ms, k, hk, hn, h => by
    have h : Sum.inl ns = Sum.inl ms := h
    cases h
    exact ⟨by simp, hn, (fun _ h => nomatch h), by simpa using hk⟩
  | w :: ws, ns, ms, k, hk, hn, h => by
    rw [List.map_cons] at h
    unfold goV at h
    have e : thV 3 ns k (dialD w) = (if 3 = 3 ∧ okNm (.str w.1) = true ∧ k ≠ 20 then (if (decide (w.1 ∈ ns) || !okP (plD w.2.1) || !okTip (plD w.2.1) (tD w.2.2)) = true then Sum.inl (some w.1) else .inr w.1) else .inl none) := rfl
    rw [e] at h
    by_cases hc : 3 = 3 ∧ okNm (.str w.1) = true ∧ k ≠ 20
    · rw [if_pos hc] at h
      by_cases hd : (decide (w.1 ∈ ns) || !okP (plD w.2.1) || !okTip (plD w.2.1) (tD w.2.2)) = true
      · rw [if_pos hd] at h
        cases h
      · rw [if_neg hd] at h
        have hd : (decide (w.1 ∈ ns) || !okP (plD w.2.1) || !okTip (plD w.2.1) (tD w.2.2)) = false := by simpa using hd
        rw [Bool.or_eq_false_iff, Bool.or_eq_false_iff, decide_eq_false_iff_not] at hd
        obtain ⟨h1, h2, h3, h4⟩ := goV3_inv ws (ns ++ [w.1]) ms (k + 1) (by omega) (by
          rw [List.nodup_append]
          refine ⟨hn, by simp, fun a ha b hb e => ?_⟩
          rw [List.mem_singleton.mp hb] at e
          rw [e] at ha
          exact hd.1.1 ha) h
        refine ⟨by rw [h1]; simp, h2, fun q hq => ?_, by simp; omega⟩
        rcases List.mem_cons.mp hq with rfl | hq
        · exact ⟨hc.2.1, by simpa using hd.1.2, by simpa using hd.2⟩
        · exact h3 q hq
    · rw [if_neg hc] at h
      cases h
theorem yardV_inv {rs : List Row} {ws : List Wall} {fs : List Dial} (h : yardV (yardD rs ws fs) = none) (h0 : ∀ r ∈ rs, 0 ≤ r.1) : YdH rs ws fs ∧ 1 ≤ rs.length ∧ rs.length ≤ 80 ∧ ws.length ≤ 20 ∧ fs.length ≤ 20 := by
  have h : (match sunV (.lst (rs.map rowD)) with
      | some a => some (D.exc "NoSun" ["at"] [a])
      | none => match thsV 2 [] (.lst (ws.map wallD)) with
        | .inr p => some (D.exc "NoYard" ["name"] [optS p.2])
        | .inl ns => match thsV 3 ns (.lst (fs.map dialD)) with
          | .inr p => some (D.exc "NoYard" ["name"] [optS p.2])
          | .inl _ => none) = none := h
  cases q : sunV (.lst (rs.map rowD)) with
  | some a => rw [q] at h; cases h
  | none =>
    rw [q] at h
    dsimp only at h
    have q : verd (rs.map rowD) = none := q
    unfold verd at q
    rw [List.length_map] at q
    by_cases hl : 1 ≤ rs.length ∧ rs.length ≤ 80
    · rw [if_pos hl] at q
      have q : scan (-1) (rs.map rowD) 0 = none := Option.map_eq_none_iff.mp q
      obtain ⟨_, s2, s3⟩ := scan_inv rs (-1) 0 q
      cases q2 : thsV 2 [] (.lst (ws.map wallD)) with
      | inr p => rw [q2] at h; cases h
      | inl ns =>
        rw [q2] at h
        dsimp only at h
        obtain ⟨w1, w2, w3, w4⟩ := goV2_inv ws [] ns 0 (by decide) .nil q2
        cases q3 : thsV 3 ns (.lst (fs.map dialD)) with
        | inr p => rw [q3] at h; cases h
        | inl ms =>
          obtain ⟨d1, d2, d3, d4⟩ := goV3_inv fs ns ms 0 (by decide) w2 q3
          rw [w1, List.nil_append] at d1
          exact ⟨⟨s2, fun r hr => ⟨⟨h0 r hr, (s3 r hr).1⟩, (s3 r hr).2⟩, w3, d3, by rw [← d1]; exact d2⟩, hl.1, hl.2, by omega, by omega⟩
    · rw [if_neg hl] at q
      cases q
theorem yardV_neg {rs : List Row} {ws : List Wall} {fs : List Dial} (h : yardV (yardD rs ws fs) = none) : ∀ r ∈ rs, 0 ≤ r.1 := by
  have h : (match sunV (.lst (rs.map rowD)) with
      | some a => some (D.exc "NoSun" ["at"] [a])
      | none => match thsV 2 [] (.lst (ws.map wallD)) with
        | .inr p => some (D.exc "NoYard" ["name"] [optS p.2])
        | .inl ns => match thsV 3 ns (.lst (fs.map dialD)) with
          | .inr p => some (D.exc "NoYard" ["name"] [optS p.2])
          | .inl _ => none) = none := h
  cases q : sunV (.lst (rs.map rowD)) with
  | some a => rw [q] at h; cases h
  | none =>
    have q : verd (rs.map rowD) = none := q
    unfold verd at q
    rw [List.length_map] at q
    by_cases hl : 1 ≤ rs.length ∧ rs.length ≤ 80
    · rw [if_pos hl] at q
      have q : scan (-1) (rs.map rowD) 0 = none := Option.map_eq_none_iff.mp q
      intro r hr
      have := (scan_inv rs (-1) 0 q).1 r hr
      omega
    · rw [if_neg hl] at q
      cases q
theorem yardV_iff {rs : List Row} {ws : List Wall} {fs : List Dial} : yardV (yardD rs ws fs) = none ↔ YdH rs ws fs ∧ 1 ≤ rs.length ∧ rs.length ≤ 80 ∧ ws.length ≤ 20 ∧ fs.length ≤ 20 :=
  ⟨fun h => yardV_inv h (yardV_neg h), fun ⟨h, h1, h2, h3, h4⟩ => yardV_H h h1 h2 h3 h4⟩
/-! #### a text's parts, reckoned -/
open TL
def spL (c : Nat) : List Nat → List (List Nat)
  | [] => [[]]
  | a :: r => if a = c then [] :: spL c r else match spL c r with
    | [] => [[a]]
    | p :: q => (a :: p) :: q
theorem spL_ne (c : Nat) : ∀ xs : List Nat, spL c xs ≠ []
  | [] => by simp [spL]
  | a :: r => by
    unfold spL
    split
    · simp
    · split <;> simp
theorem spL_join (c : Nat) : ∀ xs : List Nat, joinL [c] (spL c xs) = xs
  | [] => rfl
  | a :: r => by
    have ih := spL_join c r
    have ne := spL_ne c r
    unfold spL
    by_cases h : a = c
    · rw [if_pos h, joinL_cons _ _ ne, ih, h]
      rfl
    · rw [if_neg h]
      cases q : spL c r with
      | nil => exact absurd q ne
      | cons p t =>
        rw [q] at ih
        show joinL [c] ((a :: p) :: t) = a :: r
        cases t with
        | nil =>
          show a :: p = a :: r
          rw [show p = r from ih]
        | cons p2 t =>
          have ih : p ++ ([c] ++ joinL [c] (p2 :: t)) = r := ih
          show (a :: p) ++ ([c] ++ joinL [c] (p2 :: t)) = a :: r
          rw [List.cons_append, ih]
theorem spL_free (c : Nat) : ∀ xs : List Nat, ∀ p ∈ spL c xs, c ∉ p
  | [], p, h => by
    have h : p ∈ [[]] := h
    rw [List.mem_singleton.mp h]
    simp
  | a :: r, p, h => by
    have ih := spL_free c r
    unfold spL at h
    by_cases hc : a = c
    · rw [if_pos hc] at h
      rcases List.mem_cons.mp h with rfl | h
      · simp
      · exact ih p h
    · rw [if_neg hc] at h
      cases q : spL c r with
      | nil =>
        rw [q] at h
        have h : p ∈ [[a]] := h
        rw [List.mem_singleton.mp h]
        simp
        exact fun z => hc z.symm
      | cons p1 t =>
        rw [q] at h ih
        have h : p ∈ (a :: p1) :: t := h
        rcases List.mem_cons.mp h with rfl | h
        · intro z
          rcases List.mem_cons.mp z with z | z
          · exact hc z.symm
          · exact ih p1 List.mem_cons_self z
        · exact ih p (List.mem_cons_of_mem _ h)
def mkS (l : List Nat) : Str := ⟨l.toArray⟩
theorem tl_mkS (l : List Nat) : tl (mkS l) = l := rfl
theorem split_spL (x : Str) (c : Nat) : Txt.split x (chS c) = (spL c (tl x)).map mkS := by
  refine split_of (by simpa using spL_ne c (tl x)) (fun y hy => ?_) ?_
  · obtain ⟨p, hp, rfl⟩ := List.mem_map.mp hy
    exact spL_free c _ p hp
  · rw [List.map_map, show (tl ∘ mkS) = id from rfl, List.map_id, spL_join]
/-! #### rows that never stand -/
inductive RwV where
  | sun (r : Row) | wall (w : Wall) | dial (f : Dial)
def formV (ws : List Str) : Option RwV :=
  if ws.headD "" = Str.ofString "sun" then (hourV ws.tail).map .sun
  else if ws.length < 2 then none
  else if ws.headD "" = Str.ofString "wall" then (match triV 3 ws.tail.tail with
    | some [a, b, c] => some (.wall (ws.tail.headD "", (a, b, c)))
    | _ => none)
  else if ws.headD "" = Str.ofString "dial" then (match triV 4 ws.tail.tail with
    | some [a, b, c, t] => some (.dial (ws.tail.headD "", (a, b, c), t))
    | _ => none)
  else none
def goodV : RwV → Bool
  | .sun r => decide (0 ≤ r.1 ∧ r.1 ≤ 9999) && okDr (tD r.2)
  | .wall w => okNm (.str w.1) && okP (plD w.2)
  | .dial f => okNm (.str f.1) && (okP (plD f.2.1) && okTip (plD f.2.1) (tD f.2.2))
/-- what a row of a form makes of the paper -/
def addV (st : PSt) : RwV → Option PSt
  | .sun r => if st.2.1 = [] ∧ st.2.2 = [] then some (st.1 ++ [r], st.2.1, st.2.2) else none
  | .wall w => if st.1 ≠ [] ∧ st.2.2 = [] then some (st.1, st.2.1 ++ [w], st.2.2) else none
  | .dial f => if st.1 ≠ [] then some (st.1, st.2.1, st.2.2 ++ [f]) else none
theorem addV_sun (st : PSt) (r : Row) : addV st (.sun r) = if st.2.1 = [] ∧ st.2.2 = [] then some (st.1 ++ [r], st.2.1, st.2.2) else none := rfl
theorem addV_wall (st : PSt) (w : Wall) : addV st (.wall w) = if st.1 ≠ [] ∧ st.2.2 = [] then some (st.1, st.2.1 ++ [w], st.2.2) else none := rfl
theorem addV_dial (st : PSt) (f : Dial) : addV st (.dial f) = if st.1 ≠ [] then some (st.1, st.2.1, st.2.2 ++ [f]) else none := rfl
theorem wall_form (st : PSt) (nm : Str) (ws : List Str) : (if st.1 = [] then none else wallP st nm ws) = (match triV 3 ws with
    | some [a, b, c] => some (RwV.wall (nm, (a, b, c)))
    | _ => none).bind (addV st) := by
  unfold wallP
  cases q : triV 3 ws with
  | none => simp
  | some ts =>
    match ts, (tri_len q).1 with
    | [a, b, c], _ =>
      show (if st.1 = [] then none else if st.2.2 = [] then some (st.1, st.2.1 ++ [(nm, (a, b, c))], st.2.2) else none) = addV st (.wall (nm, (a, b, c)))
      rw [addV_wall]
      by_cases h1 : st.1 = []
      · rw [if_pos h1, if_neg fun z => z.1 h1]
      · rw [if_neg h1]
        by_cases h2 : st.2.2 = []
        · rw [if_pos h2, if_pos ⟨h1, h2⟩]
        · rw [if_neg h2, if_neg fun z => h2 z.2]
theorem dial_form (st : PSt) (nm : Str) (ws : List Str) : (if st.1 = [] then none else dialP st nm ws) = (match triV 4 ws with
    | some [a, b, c, t] => some (RwV.dial (nm, (a, b, c), t))
    | _ => none).bind (addV st) := by
  unfold dialP
  cases q : triV 4 ws with
  | none => simp
  | some ts =>
    match ts, (tri_len q).1 with
    | [a, b, c, t], _ =>
      show (if st.1 = [] then none else some (st.1, st.2.1, st.2.2 ++ [(nm, (a, b, c), t)])) = addV st (.dial (nm, (a, b, c), t))
      rw [addV_dial]
      by_cases h1 : st.1 = []
      · rw [if_pos h1, if_neg fun z => z h1]
      · rw [if_neg h1, if_pos h1]
theorem hour_form (st : PSt) (ws : List Str) : hourP st ws = ((hourV ws).map RwV.sun).bind (addV st) := by
  unfold hourP
  cases hourV ws with
  | none => simp
  | some r => rfl
theorem tookP_form (st : PSt) (ws : List Str) : tookP st ws = (formV ws).bind (addV st) := by
  unfold tookP formV
  by_cases h1 : ws.headD "" = Str.ofString "sun"
  · rw [if_pos h1, if_pos h1]
    exact hour_form st _
  rw [if_neg h1, if_neg h1]
  by_cases h2 : ws.length < 2
  · rw [if_pos (.inl h2), if_pos h2]
    rfl
  rw [if_neg h2]
  have e : ∀ x : Option PSt, (if ws.length < 2 ∨ st.1 = [] then none else x) = if st.1 = [] then none else x := fun x => by
    by_cases hs : st.1 = []
    · rw [if_pos (.inr hs), if_pos hs]
    · rw [if_neg (fun z => z.elim h2 hs), if_neg hs]
  rw [e]
  by_cases h3 : ws.headD "" = Str.ofString "wall"
  · rw [if_pos h3, if_pos h3]
    exact wall_form st _ _
  rw [if_neg h3, if_neg h3]
  by_cases h4 : ws.headD "" = Str.ofString "dial"
  · rw [if_pos h4, if_pos h4]
    exact dial_form st _ _
  rw [if_neg h4, if_neg h4]
  split <;> rfl
theorem bad_row {st : PSt} {ws : List Str} (h : ((formV ws).all fun v => !goodV v) = true) : tookP st ws = none ∨ ∃ st', tookP st ws = some st' ∧ (yardV (yardP st')).isNone = false := by
  rw [tookP_form]
  cases q : formV ws with
  | none => exact .inl rfl
  | some v =>
    rw [q] at h
    have h : (!goodV v) = true := h
    have h : goodV v = false := by simpa using h
    show addV st v = none ∨ ∃ st', addV st v = some st' ∧ _
    cases e : addV st v with
    | none => exact .inl rfl
    | some st' =>
      refine .inr ⟨st', rfl, ?_⟩
      cases z : yardV (yardP st') with
      | some a => rfl
      | none =>
        exfalso
        have z := (yardV_iff.mp (show yardV (yardD st'.1 st'.2.1 st'.2.2) = none from z)).1
        cases v with
        | sun r =>
          rw [addV_sun] at e
          split at e
          · cases e
            obtain ⟨a, b⟩ := z.row r (by simp)
            have h : (decide (0 ≤ r.1 ∧ r.1 ≤ 9999) && okDr (tD r.2)) = false := h
            rw [b, decide_t a] at h
            cases h
          · cases e
        | wall w =>
          rw [addV_wall] at e
          split at e
          · cases e
            obtain ⟨a, b⟩ := z.wall w (by simp)
            have h : (okNm (.str w.1) && okP (plD w.2)) = false := h
            rw [a, b] at h
            cases h
          · cases e
        | dial w =>
          rw [addV_dial] at e
          split at e
          · cases e
            obtain ⟨a, b, c⟩ := z.dial w (by simp)
            have h : (okNm (.str w.1) && (okP (plD w.2.1) && okTip (plD w.2.1) (tD w.2.2))) = false := h
            rw [a, b, c] at h
            cases h
          · cases e
theorem readP_bad {st st' : PSt} {i : Nat} {pre rest : List (List Str)} {ws : List Str} (hp : readP st i pre = .inr st') (h : ((formV ws).all fun v => !goodV v) = true) : readP st i (pre ++ ws :: rest) = .inl (i + pre.length) := by
  rw [readP_app, hp]
  show readP st' (i + pre.length) (ws :: rest) = _
  rw [readP_cons]
  rcases bad_row (st := st') h with e | ⟨st2, e, e2⟩
  · rw [e]
  · rw [e]
    show (if (yardV (yardP st2)).isNone = true then _ else _) = _
    rw [e2, if_neg (by decide)]
/-! ### a good yard: its rows, its words, read -/
open TL
structure GdB (rs : List Row) (ws : List Wall) (fs : List Dial) : Prop where
  h : YdH rs ws fs
  l0 : 1 ≤ rs.length
  l1 : rs.length ≤ 80
  l2 : ws.length ≤ 20
  l3 : fs.length ≤ 20
theorem nN_b {i : Int} (h : nN i = true) : i.natAbs < 10 ^ 10 := by
  have := of_decide_eq_true (p := -1000000000 ≤ i ∧ i ≤ 1000000000) h
  omega
theorem nN_9 {i : Int} (h : nN i = true) : N9 i := of_decide_eq_true (p := -1000000000 ≤ i ∧ i ≤ 1000000000) h
theorem okPt_b {t : Tr} (h : okPt (tD t) = true) : B10 t ∧ G9 t := by
  have h : (nN t.1 && (nN t.2.1 && nN t.2.2)) = true := h
  rw [Bool.and_eq_true, Bool.and_eq_true] at h
  exact ⟨⟨nN_b h.1, nN_b h.2.1, nN_b h.2.2⟩, nN_9 h.1, nN_9 h.2.1, nN_9 h.2.2⟩
theorem okDr_b {t : Tr} (h : okDr (tD t) = true) : B10 t ∧ G9 t := by
  unfold okDr at h
  rw [Bool.and_eq_true] at h
  exact okPt_b h.2
theorem okP_b {p : Plate} (h : okP (plD p) = true) : (B10 p.1 ∧ B10 p.2.1 ∧ B10 p.2.2) ∧ P9 p := by
  have h : (okPt (tD p.1) && (okPt (tD p.2.1) && (okPt (tD p.2.2) && nzc (tD p.2.1) (tD p.2.2)))) = true := h
  rw [Bool.and_eq_true, Bool.and_eq_true, Bool.and_eq_true] at h
  exact ⟨⟨(okPt_b h.1).1, (okPt_b h.2.1).1, (okPt_b h.2.2.1).1⟩, (okPt_b h.1).2, (okPt_b h.2.1).2, (okPt_b h.2.2.1).2⟩
theorem okTip_b {p : Plate} {t : Tr} (h : okTip (plD p) (tD t) = true) : B10 t ∧ G9 t := by
  unfold okTip at h
  rw [Bool.and_eq_true] at h
  exact okPt_b h.1
theorem okNm_N {x : Str} (h : okNm (.str x) = true) : Nm x := by
  have h : (decide (1 ≤ x.length ∧ x.length ≤ 8) && lowS x) = true := h
  rw [Bool.and_eq_true] at h
  have h1 := of_decide_eq_true h.1
  refine ⟨fun c hc => ?_, h1⟩
  have := of_decide_eq_true (p := 97 ≤ c ∧ c ≤ 122) (List.all_eq_true.mp (show (tl x).all lowC = true from h.2) c hc)
  omega
theorem Nm_wd {x : Str} (h : Nm x) : Wd 11 x := ⟨by have := h.2.2; omega, fun c hc => by have := h.1 c hc; omega⟩
section
variable {rs : List Row} {ws : List Wall} {fs : List Dial}
theorem YdH.rB (g : YdH rs ws fs) : ∀ r ∈ rs, RowB r := fun r h => ⟨by have := (g.row r h).1; omega, (okDr_b (g.row r h).2).1⟩
theorem YdH.wB (g : YdH rs ws fs) : ∀ r ∈ ws, WallB r := fun r h => ⟨Nm_wd (okNm_N (g.wall r h).1), (okP_b (g.wall r h).2).1⟩
theorem YdH.fB (g : YdH rs ws fs) : ∀ r ∈ fs, DialB r := fun r h => ⟨Nm_wd (okNm_N (g.dial r h).1), (okP_b (g.dial r h).2.1).1, (okTip_b (g.dial r h).2.2).1⟩
theorem YdH.r9 (g : YdH rs ws fs) : ∀ r ∈ rs, RowOk r := fun r h => ⟨(g.row r h).1, (okDr_b (g.row r h).2).2⟩
theorem YdH.w9 (g : YdH rs ws fs) : ∀ r ∈ ws, WallOk r := fun r h => ⟨okNm_N (g.wall r h).1, (okP_b (g.wall r h).2).2⟩
theorem YdH.f9 (g : YdH rs ws fs) : ∀ r ∈ fs, DialOk r := fun r h => ⟨okNm_N (g.dial r h).1, (okP_b (g.dial r h).2.1).2, (okTip_b (g.dial r h).2.2).2⟩
theorem rowsS_len : (rowsS rs ws fs).length = rs.length + ws.length + fs.length := by
  unfold rowsS
  simp
  omega
theorem row_no10 {x : Str} {wds : List Str} (h : ∀ w ∈ wds, Wd 11 w) (e : tl x = joinL [32] (wds.map tl)) : 10 ∉ tl x := by
  rw [e]
  intro z
  rcases joinL_mem z with z | ⟨p, hp, z⟩
  · simp at z
  · obtain ⟨w, hw, rfl⟩ := List.mem_map.mp hp
    have := (h w hw).2 10 z
    omega
theorem YdH.n10 (g : YdH rs ws fs) : ∀ x ∈ rowsS rs ws fs, 10 ∉ tl x := fun x hx => by
  unfold rowsS at hx
  rcases List.mem_append.mp hx with hx | hx
  · rcases List.mem_append.mp hx with hx | hx
    · obtain ⟨r, hr, rfl⟩ := List.mem_map.mp hx
      exact row_no10 (sunW_Wd (g.rB r hr)) (sunW_tl r)
    · obtain ⟨r, hr, rfl⟩ := List.mem_map.mp hx
      exact row_no10 (wallW_Wd (g.wB r hr)) (wallW_tl r)
  · obtain ⟨r, hr, rfl⟩ := List.mem_map.mp hx
    exact row_no10 (dialW_Wd (g.fB r hr)) (dialW_tl r)
theorem YdH.rPl (g : YdH rs ws fs) : ∀ x ∈ rowsS rs ws fs, PlT 200 x := rows_Pl g.r9 g.w9 g.f9
theorem YdH.words (g : YdH rs ws fs) : (rowsS rs ws fs).map (fun r => Txt.split r (Str.ofString " ")) = rowsW rs ws fs := by
  unfold rowsS rowsW
  rw [List.map_append, List.map_append, List.map_map, List.map_map, List.map_map]
  congr 1
  · congr 1
    · exact List.map_congr_left fun r hr => words_split (by simp [sunW]) (sunW_Wd (g.rB r hr)) (sunW_tl r)
    · exact List.map_congr_left fun r hr => words_split (by simp [wallW]) (wallW_Wd (g.wB r hr)) (wallW_tl r)
  · exact List.map_congr_left fun r hr => words_split (by simp [dialW]) (dialW_Wd (g.fB r hr)) (dialW_tl r)
theorem YdH.nmOk (g : YdH rs ws fs) : (∀ w ∈ ws, PyData.strOk w.1 = true) ∧ ∀ f ∈ fs, PyData.strOk f.1 = true := ⟨fun w h => (g.w9 w h).1.1.ok, fun w h => (g.f9 w h).1.1.ok⟩
theorem GdB.read (g : GdB rs ws fs) : readP ([], [], []) 0 (rowsW rs ws fs) = .inr (rs, ws, fs) := readP_yard g.h g.h.rB g.h.wB g.h.fB g.l0 g.l1 g.l2 g.l3
theorem GdB.len (g : GdB rs ws fs) : (rowsS rs ws fs).length ≤ 120 := by
  have := g.l1
  have := g.l2
  have := g.l3
  rw [rowsS_len]
  omega
theorem GdB.fit (g : GdB rs ws fs) : ((rowsS rs ws fs).map (·.length)).sum + (rowsS rs ws fs).length * nlS.length ≤ 16777216 := by
  have h1 := sum_Pl g.h.rPl
  have h4 := nl_Pl.1
  have := g.len
  have : (rowsS rs ws fs).length * nlS.length ≤ 120 * 1 := Nat.mul_le_mul this h4
  have : (rowsS rs ws fs).length * 200 ≤ 120 * 200 := Nat.mul_le_mul_right _ g.len
  omega
theorem GdB.pl (g : GdB rs ws fs) : PlT 24120 (Txt.join nlS (rowsS rs ws fs)) := (join_Pl nl_Pl g.h.rPl g.len).mono (by decide)
theorem GdB.okq (g : GdB rs ws fs) : okq 40 (yardD rs ws fs) = true := by
  have a1 : Dy.okq 39 (.lst (rs.map rowD)) = true := by
    show (rs.map rowD).all (Dy.okq 38) = true
    rw [List.all_eq_true]
    intro d hd
    obtain ⟨e, _, rfl⟩ := List.mem_map.mp hd
    rfl
  have a2 : Dy.okq 39 (.lst (ws.map wallD)) = true := by
    show (ws.map wallD).all (Dy.okq 38) = true
    rw [List.all_eq_true]
    intro d hd
    obtain ⟨e, he, rfl⟩ := List.mem_map.mp hd
    show (PyData.strOk e.1 && _) = true
    rw [g.h.nmOk.1 e he]
    rfl
  have a3 : Dy.okq 39 (.lst (fs.map dialD)) = true := by
    show (fs.map dialD).all (Dy.okq 38) = true
    rw [List.all_eq_true]
    intro d hd
    obtain ⟨e, he, rfl⟩ := List.mem_map.mp hd
    show (PyData.strOk e.1 && _) = true
    rw [g.h.nmOk.2 e he]
    rfl
  show (Dy.okq 39 _ && (Dy.okq 39 _ && (Dy.okq 39 _ && true))) = true
  rw [a1, a2, a3]
  rfl
theorem osP_D : (O.t (osP (rs, ws, fs))).toD = yardD rs ws fs := by
  show D.tup (O.toDs _) = _
  rw [toDs_osP]
end
theorem joinL_sub {S : List Nat} {c : Nat} : ∀ {ps : List (List Nat)} {p : List Nat}, p ∈ ps → c ∈ p → c ∈ joinL S ps
  | [q], p, h, hc => by
    rw [List.mem_singleton.mp h] at hc
    exact hc
  | q :: q2 :: r, p, h, hc => by
    show c ∈ q ++ (S ++ joinL S (q2 :: r))
    rcases List.mem_cons.mp h with rfl | h
    · exact List.mem_append_left _ hc
    · exact List.mem_append_right _ (List.mem_append_right _ (joinL_sub h hc))
theorem split_chars {x w : Str} {c k : Nat} (h : w ∈ Txt.split x (chS k)) (hc : c ∈ tl w) : c ∈ tl x := by
  rw [split_spL] at h
  obtain ⟨p, hp, rfl⟩ := List.mem_map.mp h
  rw [← spL_join k (tl x)]
  exact joinL_sub hp hc
theorem split_ok {x : Str} (h : PlT 600 x) : (∀ w ∈ Txt.split x (Str.ofString " "), WdOk w) ∧ (Txt.split x (Str.ofString " ")).length ≤ 10000 ∧ Txt.split x (Str.ofString " ") ≠ [] := by
  refine ⟨fun w hw => ⟨Nat.le_trans (part_short hw) h.1, fun c hc => ?_⟩, ?_, fun e => ?_⟩
  · have := h.2 c (split_chars (k := 32) hw hc)
    omega
  · have := split_le x (Str.ofString " ")
    have := h.1
    omega
  · have := split_pos x (Str.ofString " ")
    rw [e] at this
    simp at this
/-- rows of any kind, read -/
theorem sp_readX {xs : List Str} (hne : xs ≠ []) (hx : ∀ x ∈ xs, 10 ∉ tl x ∧ PlT 600 x) (hl : xs.length ≤ 150) {rows : List (List Str)} (er : xs.map (fun r => Txt.split r (Str.ofString " ")) = rows) {P : O → Prop} {E : D → Prop}
    (h1 : ∀ st, readP ([], [], []) 0 rows = .inr st → P (.t (osP st))) (h2 : ∀ i : Nat, readP ([], [], []) 0 rows = .inl i → E (.exc "NoRow" ["row"] [.int i])) : (f_read_yard [.str (Txt.join nlS xs)]).wp P E := by
  have sp : Txt.split (Txt.join nlS xs) (Str.ofString "\n") = xs := split_join (c := 10) hne fun y hy => (hx y hy).1
  have tlen : (Txt.join nlS xs).length ≤ 150 * 601 := (join_Pl (n := 600) (m := 150) (k := 1) nl_Pl (fun x hx' => (hx x hx').2) hl).1
  refine sp_read (rows := rows) (Nat.le_trans tlen (by decide)) (by rw [sp, er]) (fun r hr => ?_) (fun wds hw => ?_) (by rw [← er, List.length_map]; omega) h1 h2
  · rw [sp] at hr
    exact Nat.le_trans (hx r hr).2.1 (by decide)
  · rw [← er] at hw
    obtain ⟨x, hx', rfl⟩ := List.mem_map.mp hw
    exact split_ok (hx x hx').2
theorem YdH.rX {rs : List Row} {ws : List Wall} {fs : List Dial} (g : YdH rs ws fs) : ∀ x ∈ rowsS rs ws fs, 10 ∉ tl x ∧ PlT 600 x := fun x hx => ⟨g.n10 x hx, (g.rPl x hx).mono (by decide)⟩
theorem GdB.ne {rs : List Row} {ws : List Wall} {fs : List Dial} (g : GdB rs ws fs) : rowsS rs ws fs ≠ [] := fun e => by
  have := congrArg List.length e
  rw [rowsS_len] at this
  have h0 := g.l0
  have this : rs.length + ws.length + fs.length = 0 := this
  omega
theorem GdB.sp {rs : List Row} {ws : List Wall} {fs : List Dial} (g : GdB rs ws fs) {P : O → Prop} {E : D → Prop} (h : P (.t (osP (rs, ws, fs)))) : (f_read_yard [.str (Txt.join nlS (rowsS rs ws fs))]).wp P E := by
  refine sp_readX g.ne g.h.rX (by have := g.len; omega) g.h.words (fun st e => ?_) fun i e => ?_
  · rw [g.read] at e
    cases e
    exact h
  · rw [g.read] at e
    cases e
/-! ### k86: rows, the first that cannot stand -/
open TL
inductive I86 where
  | sun (r : Row) | wall (w : Wall) (bad : Bool) | dial (f : Dial) (bad : Bool) | none (x : Str)
def I86.txt : I86 → Str
  | .sun r => sunS r
  | .wall w _ => wallS w
  | .dial f _ => dialS f
  | .none x => x
def I86.d : I86 → D
  | .sun r => .tup [.str "sun", .int r.1, .str (sunS r)]
  | .wall w b => .tup [.str "wall", .tup [.str w.1, .bl b], .str (wallS w)]
  | .dial f b => .tup [.str "dial", .tup [.str f.1, .bl b], .str (dialS f)]
  | .none x => .tup [.str "none", .non, .str x]
def I86.wds (v : I86) : List Str := Txt.split v.txt (Str.ofString " ")
def Ok86 : I86 → Prop
  | .sun r => (0 ≤ r.1 ∧ r.1 ≤ 9999) ∧ okDr (tD r.2) = true
  | .wall w b => okNm (.str w.1) = true ∧ P9 w.2 ∧ okP (plD w.2) = !b
  | .dial f b => okNm (.str f.1) = true ∧ (P9 f.2.1 ∧ G9 f.2.2) ∧ (okP (plD f.2.1) && okTip (plD f.2.1) (tD f.2.2)) = !b
  | .none x => (10 ∉ tl x ∧ PlT 600 x) ∧ ((formV (Txt.split x (Str.ofString " "))).all fun v => !goodV v) = true
theorem N9_b {x : Int} (h : N9 x) : x.natAbs < 10 ^ 10 := by unfold N9 at h; omega
theorem G9_b {t : Tr} (h : G9 t) : B10 t := ⟨N9_b h.1, N9_b h.2.1, N9_b h.2.2⟩
def sun0 : Row := (0, 0, 0, 1)
theorem form_sun {r : Row} (h : RowB r) : formV (sunW r) = some (.sun r) := by
  have e := tookP_sun (st := ([], [], [])) h rfl rfl
  rw [tookP_form] at e
  cases q : formV (sunW r) with
  | none => rw [q] at e; cases e
  | some v =>
    rw [q] at e
    have e : addV ([], [], []) v = some ([] ++ [r], [], []) := e
    cases v with
    | sun r' =>
      rw [addV_sun, if_pos ⟨rfl, rfl⟩] at e
      cases e
      rfl
    | wall w =>
      rw [addV_wall, if_neg fun z => z.1 rfl] at e
      cases e
    | dial w =>
      rw [addV_dial, if_neg fun z => z rfl] at e
      cases e
theorem form_wall {w : Wall} (h : WallB w) : formV (wallW w) = some (.wall w) := by
  have e := tookP_wall (st := ([sun0], [], [])) h (by simp) rfl
  rw [tookP_form] at e
  cases q : formV (wallW w) with
  | none => rw [q] at e; cases e
  | some v =>
    rw [q] at e
    have e : addV ([sun0], [], []) v = some ([sun0], [] ++ [w], []) := e
    cases v with
    | sun r' =>
      rw [addV_sun, if_pos ⟨rfl, rfl⟩] at e
      cases e
    | wall w =>
      rw [addV_wall, if_pos ⟨by simp, rfl⟩] at e
      cases e
      rfl
    | dial w =>
      rw [addV_dial, if_pos (by simp)] at e
      cases e
theorem form_dial {w : Dial} (h : DialB w) : formV (dialW w) = some (.dial w) := by
  have e := tookP_dial (st := ([sun0], [], [])) h (by simp)
  rw [tookP_form] at e
  cases q : formV (dialW w) with
  | none => rw [q] at e; cases e
  | some v =>
    rw [q] at e
    have e : addV ([sun0], [], []) v = some ([sun0], [], [] ++ [w]) := e
    cases v with
    | sun r' =>
      rw [addV_sun, if_pos ⟨rfl, rfl⟩] at e
      cases e
    | wall w =>
      rw [addV_wall, if_pos ⟨by simp, rfl⟩] at e
      cases e
    | dial w =>
      rw [addV_dial, if_pos (by simp)] at e
      cases e
      rfl
def lastH (rs : List Row) : Int := (rs.getLast?.map (·.1)).getD (-1)
theorem lastH_snoc (rs : List Row) (r : Row) : lastH (rs ++ [r]) = r.1 := by simp [lastH]
def nmsP (st : PSt) : List Str := st.2.1.map (·.1) ++ st.2.2.map (·.1)
def bad86 (st : PSt) : I86 → Bool
  | .none _ => true
  | .sun r => !decide (nmsP st = []) || (decide (r.1 ≤ lastH st.1) || decide (80 < st.1.length + 1))
  | .wall w b => decide (st.1.length = 0) || (decide (w.1 ∈ nmsP st) || (b || (decide (20 < st.2.1.length + 1) || decide (0 < st.2.2.length))))
  | .dial w b => decide (st.1.length = 0) || (decide (w.1 ∈ nmsP st) || (b || decide (20 < st.2.2.length + 1)))
def add86 (st : PSt) : I86 → PSt
  | .none _ => st
  | .sun r => (st.1 ++ [r], st.2.1, st.2.2)
  | .wall w _ => (st.1, st.2.1 ++ [w], st.2.2)
  | .dial f _ => (st.1, st.2.1, st.2.2 ++ [f])
def first86 : PSt → Nat → List I86 → Option Nat
  | _, _, [] => .none
  | st, i, v :: r => if bad86 st v = true then some i else first86 (add86 st v) (i + 1) r
def fin86 : PSt → List I86 → PSt
  | st, [] => st
  | st, v :: r => fin86 (add86 st v) r
structure Inv86 (st : PSt) : Prop where
  h : YdH st.1 st.2.1 st.2.2
  l1 : st.1.length ≤ 80
  l2 : st.2.1.length ≤ 20
  l3 : st.2.2.length ≤ 20
  e : st.1 = [] → st.2.1 = [] ∧ st.2.2 = []
theorem lastH_gt : ∀ {rs : List Row} {h : Int}, rs.Pairwise (fun r q => r.1 < q.1) → (∀ r ∈ rs, 0 ≤ r.1) → (lastH rs < h ↔ ∀ r ∈ rs, r.1 < h) ∨ rs = []
  | [], h, _, _ => .inr rfl
  | r :: rs, h, hp, h0 => by
    left
    have e : ∀ (rs : List Row) (r : Row), (r :: rs).Pairwise (fun r q => r.1 < q.1) → ∀ q ∈ r :: rs, q.1 ≤ lastH (r :: rs) := by
      intro rs
      induction rs with
      | nil =>
        intro r _ q hq
        rw [List.mem_singleton.mp hq]
        exact Int.le_refl _
      | cons a rs ih =>
        intro r hp q hq
        have e1 : lastH (r :: a :: rs) = lastH (a :: rs) := by
          unfold lastH
          rw [List.getLast?_cons_cons]
        rw [e1]
        rw [List.pairwise_cons] at hp
        rcases List.mem_cons.mp hq with rfl | hq
        · have h1 := hp.1 a List.mem_cons_self
          have h2 := ih a hp.2 a List.mem_cons_self
          omega
        · exact ih a hp.2 q hq
    constructor
    · intro hl q hq
      have := e rs r hp q hq
      omega
    · intro hq
      have hne : (r :: rs).getLast? = some ((r :: rs).getLast (by simp)) := List.getLast?_eq_some_getLast (by simp)
      unfold lastH
      rw [hne]
      exact hq _ (List.getLast_mem _)
theorem nms_nil (st : PSt) : nmsP st = [] ↔ st.2.1 = [] ∧ st.2.2 = [] := by
  unfold nmsP
  rw [List.append_eq_nil_iff, List.map_eq_nil_iff, List.map_eq_nil_iff]
theorem step86 {st : PSt} (hi : Inv86 st) {v : I86} (ok : Ok86 v) : (bad86 st v = true → tookP st v.wds = none ∨ ∃ st', tookP st v.wds = some st' ∧ (yardV (yardP st')).isNone = false) ∧
    (bad86 st v = false → tookP st v.wds = some (add86 st v) ∧ (yardV (yardP (add86 st v))).isNone = true ∧ Inv86 (add86 st v)) := by
  have neg : ∀ {st' : PSt}, (¬(YdH st'.1 st'.2.1 st'.2.2 ∧ 1 ≤ st'.1.length ∧ st'.1.length ≤ 80 ∧ st'.2.1.length ≤ 20 ∧ st'.2.2.length ≤ 20)) → (yardV (yardP st')).isNone = false := fun {st'} h => by
    cases z : yardV (yardP st') with
    | some a => rfl
    | none => exact absurd (yardV_iff.mp (show yardV (yardD st'.1 st'.2.1 st'.2.2) = none from z)) h
  have pos : ∀ {st' : PSt}, (YdH st'.1 st'.2.1 st'.2.2 ∧ 1 ≤ st'.1.length ∧ st'.1.length ≤ 80 ∧ st'.2.1.length ≤ 20 ∧ st'.2.2.length ≤ 20) → (yardV (yardP st')).isNone = true := fun {st'} h => by
    rw [show yardV (yardP st') = none from yardV_iff.mpr h]
    rfl
  cases v with
  | none x =>
    refine ⟨fun _ => ?_, fun z => nomatch z⟩
    exact bad_row ok.2
  | sun r =>
    have hb : RowB r := ⟨by have := ok.1; omega, (okDr_b ok.2).1⟩
    have ew : (I86.sun r).wds = sunW r := words_split (by simp [sunW]) (sunW_Wd hb) (sunW_tl r)
    have et : tookP st (I86.sun r).wds = addV st (.sun r) := by rw [ew, tookP_form, form_sun hb]; rfl
    rw [et, addV_sun]
    have eb : bad86 st (.sun r) = (!decide (nmsP st = []) || (decide (r.1 ≤ lastH st.1) || decide (80 < st.1.length + 1))) := rfl
    by_cases hn : nmsP st = []
    · have hn2 := (nms_nil st).mp hn
      rw [eb, decide_t hn, if_pos hn2]
      have key : (∀ q ∈ st.1, q.1 < r.1) ↔ ¬ r.1 ≤ lastH st.1 ∨ st.1 = [] := by
        rcases lastH_gt (h := r.1) hi.h.rows (fun q hq => (hi.h.row q hq).1.1) with k | k
        · rw [← k]
          constructor
          · intro h; left; omega
          · rintro (h | h)
            · omega
            · rw [h]
              show (-1 : Int) < _
              have := ok.1.1
              omega
        · rw [k]
          simp
      constructor
      · intro hbad
        refine .inr ⟨_, rfl, neg fun z => ?_⟩
        have hp := z.1.rows
        dsimp only at hp
        rw [List.pairwise_append] at hp
        have hq : ∀ q ∈ st.1, q.1 < r.1 := fun q hq => hp.2.2 q hq r (by simp)
        have hl := z.2.2.1
        dsimp only at hl
        rw [List.length_append, List.length_singleton] at hl
        simp only [Bool.not_true, Bool.false_or, Bool.or_eq_true, decide_eq_true_eq] at hbad
        rcases hbad with hbad | hbad
        · rcases key.mp hq with k | k
          · exact k hbad
          · rw [k] at hbad
            have hbad : r.1 ≤ -1 := hbad
            have := ok.1.1
            omega
        · omega
      · intro hg
        simp only [Bool.not_true, Bool.false_or, Bool.or_eq_false_iff, decide_eq_false_iff_not] at hg
        have hy : YdH (st.1 ++ [r]) st.2.1 st.2.2 := by
          refine ⟨?_, fun q hq => ?_, hi.h.wall, hi.h.dial, hi.h.nms⟩
          · rw [List.pairwise_append]
            refine ⟨hi.h.rows, List.pairwise_singleton _ _, fun q hq s hs => ?_⟩
            rw [List.mem_singleton.mp hs]
            exact key.mpr (.inl hg.1) q hq
          · rcases memS hq with hq | rfl
            · exact hi.h.row q hq
            · exact ok
        have a1 : 1 ≤ (st.1 ++ [r]).length := by simp
        have a2 : (st.1 ++ [r]).length ≤ 80 := by simp; omega
        have a3 : st.1 ++ [r] ≠ [] := by simp
        exact ⟨rfl, pos ⟨hy, a1, a2, hi.l2, hi.l3⟩, hy, a2, hi.l2, hi.l3, fun z => absurd z a3⟩
    · have hn2 : ¬(st.2.1 = [] ∧ st.2.2 = []) := fun z => hn ((nms_nil st).mpr z)
      rw [eb, decide_f hn, if_neg hn2]
      exact ⟨fun _ => .inl rfl, fun z => by simp at z⟩
  | wall w b =>
    have hb : WallB w := ⟨Nm_wd (okNm_N ok.1), G9_b ok.2.1.1, G9_b ok.2.1.2.1, G9_b ok.2.1.2.2⟩
    have ew : (I86.wall w b).wds = wallW w := words_split (by simp [wallW]) (wallW_Wd hb) (wallW_tl w)
    have et : tookP st (I86.wall w b).wds = addV st (.wall w) := by rw [ew, tookP_form, form_wall hb]; rfl
    rw [et, addV_wall]
    have eb : bad86 st (.wall w b) = (decide (st.1.length = 0) || (decide (w.1 ∈ nmsP st) || (b || (decide (20 < st.2.1.length + 1) || decide (0 < st.2.2.length))))) := rfl
    rw [eb]
    by_cases hc : st.1 ≠ [] ∧ st.2.2 = []
    · rw [if_pos hc]
      have h0 : ¬ st.1.length = 0 := fun z => hc.1 (List.eq_nil_of_length_eq_zero z)
      have hd : ¬ 0 < st.2.2.length := by rw [hc.2]; simp
      have en : nmsP st = st.2.1.map (·.1) := by unfold nmsP; rw [hc.2]; simp
      rw [decide_f h0, decide_f hd, en]
      constructor
      · intro hbad
        simp only [Bool.false_or, Bool.or_false, Bool.or_eq_true, decide_eq_true_eq] at hbad
        refine .inr ⟨_, rfl, neg fun z => ?_⟩
        obtain ⟨z1, _, _, z4, _⟩ := z
        dsimp only at z1 z4
        rcases hbad with hbad | hbad | hbad
        · have hn := z1.nms
          rw [hc.2] at hn
          simp only [List.map_append, List.map_cons, List.map_nil, List.append_nil] at hn
          rw [List.nodup_append] at hn
          exact hn.2.2 _ hbad _ (by simp) rfl
        · have := (z1.wall w (by simp)).2
          rw [ok.2.2, hbad] at this
          cases this
        · rw [List.length_append, List.length_singleton] at z4
          omega
      · intro hg
        simp only [Bool.false_or, Bool.or_false, Bool.or_eq_false_iff, decide_eq_false_iff_not] at hg
        obtain ⟨g1, g2, g3⟩ := hg
        have hy : YdH st.1 (st.2.1 ++ [w]) st.2.2 := by
          refine ⟨hi.h.rows, hi.h.row, fun q hq => ?_, hi.h.dial, ?_⟩
          · rcases memS hq with hq | rfl
            · exact hi.h.wall q hq
            · exact ⟨ok.1, by rw [ok.2.2, g2]; rfl⟩
          · have hn := hi.h.nms
            rw [hc.2] at hn ⊢
            simp only [List.map_append, List.map_cons, List.map_nil, List.append_nil] at hn ⊢
            rw [List.nodup_append]
            refine ⟨hn, by simp, fun a ha c hc' e => ?_⟩
            rw [List.mem_singleton.mp hc'] at e
            rw [e] at ha
            exact g1 ha
        have l0 : 1 ≤ st.1.length := by omega
        have a2 : (st.2.1 ++ [w]).length ≤ 20 := by simp; omega
        exact ⟨rfl, pos ⟨hy, l0, hi.l1, a2, hi.l3⟩, hy, hi.l1, a2, hi.l3, fun z => absurd z hc.1⟩
    · rw [if_neg hc]
      refine ⟨fun _ => .inl rfl, fun hg => ?_⟩
      exfalso
      simp only [Bool.or_eq_false_iff, decide_eq_false_iff_not] at hg
      obtain ⟨g1, _, _, _, g5⟩ := hg
      exact hc ⟨fun z => g1 (by rw [z]; rfl), List.eq_nil_of_length_eq_zero (by omega)⟩
  | dial w b =>
    have hb : DialB w := ⟨Nm_wd (okNm_N ok.1), ⟨G9_b ok.2.1.1.1, G9_b ok.2.1.1.2.1, G9_b ok.2.1.1.2.2⟩, G9_b ok.2.1.2⟩
    have ew : (I86.dial w b).wds = dialW w := words_split (by simp [dialW]) (dialW_Wd hb) (dialW_tl w)
    have et : tookP st (I86.dial w b).wds = addV st (.dial w) := by rw [ew, tookP_form, form_dial hb]; rfl
    rw [et, addV_dial]
    have eb : bad86 st (.dial w b) = (decide (st.1.length = 0) || (decide (w.1 ∈ nmsP st) || (b || decide (20 < st.2.2.length + 1)))) := rfl
    rw [eb]
    by_cases hc : st.1 ≠ []
    · rw [if_pos hc]
      have h0 : ¬ st.1.length = 0 := fun z => hc (List.eq_nil_of_length_eq_zero z)
      have en : nmsP (st.1, st.2.1, st.2.2 ++ [w]) = nmsP st ++ [w.1] := by unfold nmsP; simp
      rw [decide_f h0]
      constructor
      · intro hbad
        simp only [Bool.false_or, Bool.or_eq_true, decide_eq_true_eq] at hbad
        refine .inr ⟨_, rfl, neg fun z => ?_⟩
        obtain ⟨z1, _, _, _, z4⟩ := z
        dsimp only at z1 z4
        rcases hbad with hbad | hbad | hbad
        · have hn : (nmsP (st.1, st.2.1, st.2.2 ++ [w])).Nodup := z1.nms
          rw [en, List.nodup_append] at hn
          exact hn.2.2 _ hbad _ (by simp) rfl
        · obtain ⟨_, q1, q2⟩ := z1.dial w (by simp)
          have := ok.2.2
          rw [q1, q2, hbad] at this
          cases this
        · rw [List.length_append, List.length_singleton] at z4
          omega
      · intro hg
        simp only [Bool.false_or, Bool.or_eq_false_iff, decide_eq_false_iff_not] at hg
        obtain ⟨g1, g2, g3⟩ := hg
        have hok := ok.2.2
        rw [g2] at hok
        have hok : (okP (plD w.2.1) && okTip (plD w.2.1) (tD w.2.2)) = true := hok
        rw [Bool.and_eq_true] at hok
        have hy : YdH st.1 st.2.1 (st.2.2 ++ [w]) := by
          refine ⟨hi.h.rows, hi.h.row, hi.h.wall, fun q hq => ?_, ?_⟩
          · rcases memS hq with hq | rfl
            · exact hi.h.dial q hq
            · exact ⟨ok.1, hok.1, hok.2⟩
          · show (nmsP (st.1, st.2.1, st.2.2 ++ [w])).Nodup
            rw [en, List.nodup_append]
            refine ⟨hi.h.nms, by simp, fun a ha c hc' e => ?_⟩
            rw [List.mem_singleton.mp hc'] at e
            rw [e] at ha
            exact g1 ha
        have l0 : 1 ≤ st.1.length := by omega
        have a2 : (st.2.2 ++ [w]).length ≤ 20 := by simp; omega
        exact ⟨rfl, pos ⟨hy, l0, hi.l1, hi.l2, a2⟩, hy, hi.l1, hi.l2, a2, fun z => absurd z hc⟩
    · rw [if_neg hc]
      refine ⟨fun _ => .inl rfl, fun hg => ?_⟩
      exfalso
      simp only [Bool.or_eq_false_iff, decide_eq_false_iff_not] at hg
      exact hg.1 (by rw [show st.1 = [] from Classical.not_not.mp hc]; rfl)
theorem read86 : ∀ (vs : List I86) (st : PSt) (i : Nat), Inv86 st → (∀ v ∈ vs, Ok86 v) → readP st i (vs.map I86.wds) = match first86 st i vs with
    | some k => .inl k
    | .none => .inr (fin86 st vs)
  | [], st, i, _, _ => rfl
  | v :: vs, st, i, hi, ok => by
    obtain ⟨s1, s2⟩ := step86 hi (ok v List.mem_cons_self)
    rw [List.map_cons, readP_cons]
    have e : first86 st i (v :: vs) = if bad86 st v = true then some i else first86 (add86 st v) (i + 1) vs := rfl
    rw [e]
    cases hb : bad86 st v with
    | true =>
      rw [if_pos rfl]
      rcases s1 hb with q | ⟨st', q, q2⟩
      · rw [q]
      · rw [q]
        show (if (yardV (yardP st')).isNone = true then _ else _) = _
        rw [q2, if_neg (by decide)]
    | false =>
      rw [if_neg (by decide)]
      obtain ⟨q1, q2, q3⟩ := s2 hb
      rw [q1]
      show (if (yardV (yardP (add86 st v))).isNone = true then _ else _) = _
      rw [if_pos q2, read86 vs (add86 st v) (i + 1) q3 fun x hx => ok x (List.mem_cons_of_mem _ hx)]
      rfl

/-! ### k86: a row drawn -/
open TL
def s1_86 (b : Bool) : Tr := if b = true then (2, 4, 6) else (2, 0, 0)
def s2_86 (b : Bool) : Tr := if b = true then (-1, -2, -3) else (0, 5, 0)
def p86 (c : Int) (b : Bool) : Plate := ((c, 0, -3), s1_86 b, s2_86 b)
def sd86 (b : Bool) : Str := if b = true then Str.ofString "2 4 6 -1 -2 -3" else Str.ofString "2 0 0 0 5 0"
def up86 (u : Nat) : Int := -2 - u
def tip86 (u : Nat) : Tr := (1, 1, up86 u)
def ups86 (u : Nat) : Str := numS (up86 u)
theorem wtx86 : ∀ c : Fin 9, ∀ b : Bool, (numS (c.val : Int) ++ Str.ofString " 0 -3 ") ++ sd86 b = wordsS [(p86 (c.val : Int) b).1, (p86 (c.val : Int) b).2.1, (p86 (c.val : Int) b).2.2] := by decide +kernel
theorem dtx86 : ∀ c : Fin 9, ∀ b : Bool, ∀ u : Fin 3, (((numS (c.val : Int) ++ Str.ofString " 0 -3 ") ++ sd86 b) ++ Str.ofString " 1 1 ") ++ ups86 u.val = wordsS [(p86 (c.val : Int) b).1, (p86 (c.val : Int) b).2.1, (p86 (c.val : Int) b).2.2, tip86 u.val] := by decide +kernel
theorem okp86 : ∀ c : Fin 9, ∀ b : Bool, okP (plD (p86 (c.val : Int) b)) = !b ∧ (∀ u : Fin 3, (okP (plD (p86 (c.val : Int) b)) && okTip (plD (p86 (c.val : Int) b)) (tD (tip86 u.val))) = !(b || decide (0 < u.val))) := by decide +kernel
theorem app_as (a b c : Str) : a ++ (b ++ c) = (a ++ b) ++ c := str_ext (by rw [tl_app, tl_app, tl_app, tl_app, List.append_assoc])
theorem stx86 (h : Int) : (Str.ofString "sun " ++ numS h) ++ Str.ofString " 1 0 0" = sunS (h, (1, 0, 0)) := by
  unfold sunS
  rw [show Str.ofString " 1 0 0" = spS ++ wordsS [(1, 0, 0)] by decide +kernel, app_as]
theorem stx0 (h : Int) : (Str.ofString "sun " ++ numS h) ++ Str.ofString " 0 0 1" = sunS (h, (0, 0, 1)) := by
  unfold sunS
  rw [show Str.ofString " 0 0 1" = spS ++ wordsS [(0, 0, 1)] by decide +kernel, app_as]
theorem wtx0 (n : Str) : (Str.ofString "wall " ++ n) ++ Str.ofString " 0 0 0 1 0 0 0 1 0" = wallS (n, ((0, 0, 0), (1, 0, 0), (0, 1, 0))) := by
  unfold wallS
  rw [show Str.ofString " 0 0 0 1 0 0 0 1 0" = spS ++ wordsS [(0, 0, 0), (1, 0, 0), (0, 1, 0)] by decide +kernel, app_as]
theorem P9_86 {c : Int} (h0 : 0 ≤ c) (h1 : c < 9) (b : Bool) : P9 (p86 c b) := by
  unfold p86 s1_86 s2_86 P9 G9 N9
  cases b <;> simp <;> omega
theorem G9_tip (u : Nat) (h : u < 3) : G9 (tip86 u) := by
  unfold tip86 up86 G9 N9
  dsimp only
  omega
theorem lit_at : ∀ k : Fin 6, oIx (.str (Str.ofString "abcdef")) (.int (k.val : Int)) = some (.str (mkS [97 + k.val])) := fun k => by
  match k with
  | ⟨0, _⟩ => rfl
  | ⟨1, _⟩ => rfl
  | ⟨2, _⟩ => rfl
  | ⟨3, _⟩ => rfl
  | ⟨4, _⟩ => rfl
  | ⟨5, _⟩ => rfl
theorem abc_let {i : Int} (h0 : 0 ≤ i) (h1 : i < 26) : oIx (.str (Str.ofString "abcdefghijklmnopqrstuvwxyz")) (.int i) = some (.str (mkS [97 + i.toNat])) := by
  have e : ∀ j : Fin 26, (Str.ofString "abcdefghijklmnopqrstuvwxyz").cps.toList[j.val]? = some (97 + j.val) := by decide +kernel
  have hj : i.toNat < 26 := by omega
  have z := atI_nat (e ⟨i.toNat, hj⟩)
  rw [show ((i.toNat : Nat) : Int) = i by omega] at z
  show (if (Str.ofString "abcdefghijklmnopqrstuvwxyz").length ≤ sizeLine then (L2.atI (Str.ofString "abcdefghijklmnopqrstuvwxyz").cps.toList i).map fun c => D.str ⟨#[c]⟩ else none) = _
  rw [if_pos (by rw [sizeLine_eq]; decide +kernel), z]
  rfl
theorem mul01 (x : Str) (hx : x.length = 1) (k : Int) (hk : k = 0 ∨ k = 1) : oMulS (.str x) (.int k) = some (.str (if k = 1 then x else Str.empty)) := by
  show (if 0 ≤ k ∧ k ≤ 1000 ∧ x.length ≤ 1000 then some (D.str (repS x k)) else none) = _
  rcases hk with rfl | rfl
  · rw [if_pos ⟨by decide, by decide, by omega⟩]
    rfl
  · rw [if_pos ⟨by decide, by decide, by omega⟩]
    unfold repS
    rw [if_neg (by decide), if_pos (by rfl)]
    rfl
theorem okNm_of {l : List Nat} (h1 : 1 ≤ l.length) (h2 : l.length ≤ 8) (h3 : ∀ c ∈ l, 97 ≤ c ∧ c ≤ 122) : okNm (.str (mkS l)) = true := by
  show (decide (1 ≤ (mkS l).length ∧ (mkS l).length ≤ 8) && lowS (mkS l)) = true
  rw [decide_t (by rw [slen, tl_mkS]; exact ⟨h1, h2⟩), Bool.true_and]
  unfold lowS
  rw [List.all_eq_true]
  intro c hc
  exact decide_t (h3 c hc)
theorem oInt_b (b : Bool) : oInt [.bl b] = some (.int (if b = true then 1 else 0)) := by cases b <;> rfl
theorem num9 {i : Int} (h : i.natAbs < 10 ^ 10) : (Str.ofString (toString i)).length ≤ 11 := (num_Wd h).1
theorem log99 {i : Int} (h : i.natAbs < 10 ^ 10) : i.natAbs.log2 < 1920 := by
  by_cases h0 : i.natAbs = 0
  · rw [h0]; decide
  · exact Nat.lt_trans ((Nat.log2_lt h0).mpr (Nat.lt_of_lt_of_le h (show 10 ^ 10 ≤ 2 ^ 40 by decide))) (by decide)
theorem Str.len2 (a b : Str) : (a ++ b).length = a.length + b.length := Array.size_append
theorem len_mk (l : List Nat) : (mkS l).length = l.length := by rw [slen, tl_mkS]
set_option maxHeartbeats 4000000 in
theorem sp_drawn (c : Int) {n : Int} (h0 : 0 ≤ n) (h1 : n ≤ 1000) (dl : Bool) : (f__law_drawn_row [.int c, .int n, .bl dl]).wp (fun d => ∃ v, d = I86.d v ∧ Ok86 v) NoE := by
  have l1 : (Str.ofString "sun ").length = 4 := by decide +kernel
  have l2 : (Str.ofString " 1 0 0").length = 6 := by decide +kernel
  have l3 : (Str.ofString " 0 -3 ").length = 6 := by decide +kernel
  have l4 : (Str.ofString "wall ").length = 5 := by decide +kernel
  have l5 : (Str.ofString " ").length = 1 := by decide +kernel
  have l6 : ∀ b, (sd86 b).length ≤ 20 := by decide +kernel
  have l7 : (Str.ofString "dial ").length = 5 := by decide +kernel
  have l8 : (Str.ofString " 1 1 ").length = 5 := by decide +kernel
  have bn : Bd 20 n := by unfold Bd; omega
  have hours : ∀ {v : Int}, 0 ≤ v → v < 4 → ∃ s, oIx (.lst [.int n, .int (n + 1), .int (if n - 1 > 0 then n - 1 else 0), .int 9999]) (.int v) = some (.int s) ∧ 0 ≤ s ∧ s ≤ 9999 := fun {v} h0 h1 => by
    have : v = 0 ∨ v = 1 ∨ v = 2 ∨ v = 3 := by omega
    rcases this with rfl | rfl | rfl | rfl
    · exact ⟨n, rfl, by omega, by omega⟩
    · exact ⟨n + 1, rfl, by omega, by omega⟩
    · exact ⟨_, rfl, by split <;> omega, by split <;> omega⟩
    · exact ⟨9999, rfl, by omega, by omega⟩
  have sides : ∀ b : Bool, oIx (.lst [.str (Str.ofString "2 0 0 0 5 0"), .str (Str.ofString "2 4 6 -1 -2 -3")]) (.int (if b = true then 1 else 0)) = some (.str (sd86 b)) := fun b => by cases b <;> rfl
  have tips : ∀ {v : Int}, 0 ≤ v → v < 9 → ∃ s u : Nat, oIx (.lst [.int 0, .int 0, .int 0, .int 0, .int 0, .int 0, .int 0, .int 1, .int 2]) (.int v) = some (.int s) ∧ oIx (.lst [.str (Str.ofString "-2"), .str (Str.ofString "-3"), .str (Str.ofString "-4")]) (.int s) = some (.str (ups86 u)) ∧ u < 3 ∧ decide (v > 6) = decide (0 < u) := fun {v} h0 h1 => by
    have : v = 0 ∨ v = 1 ∨ v = 2 ∨ v = 3 ∨ v = 4 ∨ v = 5 ∨ v = 6 ∨ v = 7 ∨ v = 8 := by omega
    rcases this with rfl | rfl | rfl | rfl | rfl | rfl | rfl | rfl | rfl
    all_goals first
      | exact ⟨0, 0, rfl, rfl, by decide, by decide⟩
      | exact ⟨1, 1, rfl, rfl, by decide, by decide⟩
      | exact ⟨2, 2, rfl, rfl, by decide, by decide⟩
  have rest : ∀ {k : Int} {N : REnv → Prop} {E : D → REnv → Prop}, ¬ k < 2 → (SR.wp (sSeq (sSet 5 (eBin oAdd (eBin oIx (eC (.str "abcdef")) (eCall f__law_draw (aCons (eVar 0) (aCons (eC (.int 2)) (aCons (eC (.int 6)) (aNil)))))) (eBin oMulS (eBin oIx (eC (.str "abcdefghijklmnopqrstuvwxyz")) (eCall f__law_draw (aCons (eVar 0) (aCons (eC (.int 3)) (aCons (eC (.int 26)) (aNil)))))) (eN oInt (aCons (eBin oGt (eVar 3) (eC (.int 3))) (aNil))))))
    sSkip [.val (.int c), .val (.int n), .val (.bl dl), .val (.int k), .un, .un, .un, .un, .un, .un, .un]) N (fun _ => False) E) → True := fun _ _ => trivial
  wtm_at "y_in"
  repeat' wtm_at "y_dy"
  refine (sp_draw (by decide) (by decide) (by decide) (by decide)).no ?_
  rintro _ ⟨k, rfl, hk0, hk1⟩
  obtain ⟨k', hk'⟩ : ∃ k' : Int, (if dl = true then 6 else k) = k' := ⟨_, rfl⟩
  repeat' ((fail_if_success (with_reducible show SR.wp (sSeq (sIf _ _ _) _ _) _ _ _)); wtm_at "y_dy")
  refine sp_seq (SR.wp.imp (N := fun ρ => ρ = [.val (.int c), .val (.int n), .val (.bl dl), .val (.int k'), .un, .un, .un, .un, .un, .un, .un]) ?_ ?_ (fun _ z => z) fun _ _ z => z)
  · cases dl
    · repeat' wtm_at "y_dy"
      rw [← hk']
      rfl
    · repeat' wtm_at "y_dy"
      rw [← hk']
      rfl
  rintro _ rfl
  repeat' ((fail_if_success (with_reducible show Fork _ _ _)); wtm_at "y_dy")
  refine k_any (fun hz => ?_) fun hz => ?_
  · repeat' wtm_at "y_dy"
    refine (sp_draw (by decide) (by decide) (by decide) (by decide)).no ?_
    rintro _ ⟨v, rfl, hv0, hv1⟩
    obtain ⟨s, es, hs0, hs1⟩ := hours hv0 hv1
    refine g_ot es ?_
    have b2 := num9 (i := s) (by omega)
    have e := stx86 s
    rw [show numS s = Str.ofString (toString s) from rfl] at e
    repeat' ((fail_if_success (with_reducible show Dy.Got (oStrI _) _)); wtm_at "y_dy")
    refine w_strI (log99 (by omega)) ?_
    refine g_ot (cat (by omega)) ?_
    repeat' ((fail_if_success (with_reducible show Dy.Got (oAdd _ _) _)); wtm_at "y_dy")
    refine g_ot (cat (by rw [Str.len2]; omega)) ?_
    repeat' wtm_at "y_dy"
    exact ⟨.sun (s, (1, 0, 0)), by rw [e]; rfl, ⟨hs0, hs1⟩, show okDr (tD (1, 0, 0)) = true by decide +kernel⟩
  repeat' wtm_at "y_dy"
  refine (sp_draw (by decide) (by decide) (by decide) (by decide)).no ?_
  rintro _ ⟨i, rfl, hi0, hi1⟩
  obtain ⟨I, hI⟩ : ∃ I : Nat, i = (I : Int) := ⟨i.toNat, by omega⟩
  have el := lit_at ⟨I, by omega⟩
  dsimp only at el
  rw [← hI] at el
  refine g_ot el ?_
  repeat' wtm_at "y_dy"
  refine (sp_draw (by decide) (by decide) (by decide) (by decide)).no ?_
  rintro _ ⟨j, rfl, hj0, hj1⟩
  refine g_ot (abc_let hj0 hj1) ?_
  repeat' ((fail_if_success (with_reducible show Dy.Got (oInt _) _)); wtm_at "y_dy")
  refine g_ot (oInt_b _) ?_
  repeat' ((fail_if_success (with_reducible show Dy.Got (oMulS _ _) _)); wtm_at "y_dy")
  refine g_ot (mul01 _ (len_mk _) _ (by split <;> omega)) ?_
  obtain ⟨nm, hnm, enm, lnm⟩ : ∃ nm : Str, okNm (.str nm) = true ∧ oAdd (.str (mkS [97 + I])) (.str (if (if decide (k' > 3) = true then (1 : Int) else 0) = 1 then mkS [97 + j.toNat] else Str.empty)) = some (.str nm) ∧ nm.length ≤ 8 := by
    by_cases q : k' > 3
    · rw [decide_t q, if_pos (by rfl)]
      have hok : okNm (.str (mkS [97 + I, 97 + j.toNat])) = true := okNm_of (by simp) (by simp) fun x hx => by
        simp only [List.mem_cons, List.not_mem_nil, or_false] at hx
        rcases hx with rfl | rfl <;> omega
      refine ⟨mkS [97 + I, 97 + j.toNat], hok, ?_, by rw [len_mk]; simp⟩
      rw [cat (by rw [len_mk, len_mk]; show 1 + 1 ≤ 10000; decide)]
      rfl
    · rw [decide_f q, if_neg (by decide)]
      have hok : okNm (.str (mkS [97 + I])) = true := okNm_of (by simp) (by simp) fun x hx => by
        rw [List.mem_singleton.mp hx]
        omega
      refine ⟨mkS [97 + I], hok, ?_, by rw [len_mk]; simp⟩
      rw [cat (by rw [len_mk]; show 1 + 0 ≤ 10000; decide)]
      rfl
  refine g_ot enm ?_
  repeat' wtm_at "y_dy"
  refine (sp_draw (by decide) (by decide) (by decide) (by decide)).no ?_
  rintro _ ⟨w, rfl, hw0, hw1⟩
  obtain ⟨W, hW⟩ : ∃ I : Nat, w = (I : Int) := ⟨w.toNat, by omega⟩
  have lw := num9 (i := w) (by omega)
  repeat' ((fail_if_success (with_reducible show Dy.Got (oStrI _) _)); wtm_at "y_dy")
  refine w_strI (log99 (by omega)) ?_
  refine g_ot (cat (by omega)) ?_
  have tw := fun b => wtx86 ⟨W, by omega⟩ b
  have td := fun b u => dtx86 ⟨W, by omega⟩ b u
  have ok := fun b => okp86 ⟨W, by omega⟩ b
  dsimp only at tw td ok
  rw [← hW] at tw td ok
  rw [show numS w = Str.ofString (toString w) from rfl] at tw td
  have lc : (Str.ofString (toString w) ++ Str.ofString " 0 -3 ").length ≤ 17 := by rw [Str.len2]; omega
  generalize Str.ofString (toString w) ++ Str.ofString " 0 -3 " = CS at tw td lc
  repeat' wtm_at "y_dy"
  refine (sp_draw (by decide) (by decide) (by decide) (by decide)).no ?_
  rintro _ ⟨z, rfl, hz0, hz1⟩
  repeat' ((fail_if_success (with_reducible show Dy.Got (oInt _) _)); wtm_at "y_dy")
  generalize decide (z = 1) = b
  refine g_ot (oInt_b _) ?_
  refine g_ot (sides b) ?_
  have lb := l6 b
  have tw := tw b
  have td := td b
  have ok := ok b
  have pb := P9_86 hw0 hw1 b
  generalize sd86 b = SD at lb tw td
  repeat' ((fail_if_success (with_reducible show Fork _ _ _)); wtm_at "y_dy")
  refine k_any (fun hz => ?_) fun hz => ?_
  · repeat' ((fail_if_success (with_reducible show Dy.Got (oAdd _ _) _)); wtm_at "y_dy")
    refine g_ot (cat (by omega)) ?_
    repeat' ((fail_if_success (with_reducible show Dy.Got (oAdd _ _) _)); wtm_at "y_dy")
    refine g_ot (cat (by rw [Str.len2]; omega)) ?_
    repeat' ((fail_if_success (with_reducible show Dy.Got (oAdd _ _) _)); wtm_at "y_dy")
    refine g_ot (cat (by rw [Str.len2, Str.len2]; omega)) ?_
    repeat' ((fail_if_success (with_reducible show Dy.Got (oAdd _ _) _)); wtm_at "y_dy")
    refine g_ot (cat (by rw [Str.len2, Str.len2, Str.len2]; omega)) ?_
    repeat' wtm_at "y_dy"
    refine ⟨.wall (nm, p86 w b) b, ?_, hnm, pb, ok.1⟩
    show D.tup [_, _, .str _] = D.tup [_, _, .str (((Str.ofString "wall " ++ nm) ++ spS) ++ wordsS _)]
    rw [← tw, app_as]
    rfl
  repeat' wtm_at "y_dy"
  refine (sp_draw (by decide) (by decide) (by decide) (by decide)).no ?_
  rintro _ ⟨y, rfl, hy0, hy1⟩
  obtain ⟨s, u, e1, e2, hu, e3⟩ := tips hy0 hy1
  have td := td ⟨u, hu⟩
  have ok := ok.2 ⟨u, hu⟩
  have gt := G9_tip u hu
  dsimp only at td ok
  have lu : (ups86 u).length ≤ 11 := num9 (by unfold up86; omega)
  repeat' ((fail_if_success (with_reducible show Dy.Got (oIx _ _) _)); wtm_at "y_dy")
  refine g_ot e1 ?_
  refine g_ot e2 ?_
  generalize ups86 u = US at td lu
  repeat' ((fail_if_success (with_reducible show R.wp (eOrV _ _ _) _ _)); wtm_at "y_dy")
  have fin : ∀ {q : Bool} {P : D → Prop}, q = (b || decide (0 < u)) → (∀ d, (∃ v, d = I86.d v ∧ Ok86 v) → P d) → P (.tup [.str (Str.ofString "dial"), .tup [.str nm, .bl q], .str ((((((Str.ofString "dial " ++ nm) ++ Str.ofString " ") ++ CS) ++ SD) ++ Str.ofString " 1 1 ") ++ US)]) := fun {q P} hq hP => by
    refine hP _ ⟨.dial (nm, p86 w b, tip86 u) q, ?_, hnm, ⟨pb, gt⟩, by rw [hq]; exact ok⟩
    show D.tup [_, _, .str _] = D.tup [_, _, .str (((Str.ofString "dial " ++ nm) ++ spS) ++ wordsS _)]
    rw [← td, app_as, app_as, app_as]
    rfl
  have f1 : b = true → true = (b || decide (0 < u)) := fun h => by rw [h]; rfl
  have f2 : b = false → decide (y > 6) = (b || decide (0 < u)) := fun h => by rw [h, e3]; rfl
  refine wp_orV (wp_var rfl ⟨b, rfl, fun hb => ?_, fun hb => ?_⟩)
  · have fin := fun {P : D → Prop} => fin (f1 hb) (P := P)
    repeat' ((fail_if_success (with_reducible show Dy.Got (oAdd _ _) _)); wtm_at "y_dy")
    refine g_ot (cat (by omega)) ?_
    repeat' ((fail_if_success (with_reducible show Dy.Got (oAdd _ _) _)); wtm_at "y_dy")
    refine g_ot (cat (by rw [Str.len2]; omega)) ?_
    repeat' ((fail_if_success (with_reducible show Dy.Got (oAdd _ _) _)); wtm_at "y_dy")
    refine g_ot (cat (by rw [Str.len2, Str.len2]; omega)) ?_
    repeat' ((fail_if_success (with_reducible show Dy.Got (oAdd _ _) _)); wtm_at "y_dy")
    refine g_ot (cat (by rw [Str.len2, Str.len2, Str.len2]; omega)) ?_
    repeat' ((fail_if_success (with_reducible show Dy.Got (oAdd _ _) _)); wtm_at "y_dy")
    refine g_ot (cat (by rw [Str.len2, Str.len2, Str.len2, Str.len2]; omega)) ?_
    repeat' ((fail_if_success (with_reducible show Dy.Got (oAdd _ _) _)); wtm_at "y_dy")
    refine g_ot (cat (by rw [Str.len2, Str.len2, Str.len2, Str.len2, Str.len2]; omega)) ?_
    repeat' wtm_at "y_dy"
    exact fin fun d hd => hd
  · have fin := fun {P : D → Prop} => fin (f2 hb) (P := P)
    repeat' ((fail_if_success (with_reducible show Dy.Got (oAdd _ _) _)); wtm_at "y_dy")
    refine g_ot (cat (by omega)) ?_
    repeat' ((fail_if_success (with_reducible show Dy.Got (oAdd _ _) _)); wtm_at "y_dy")
    refine g_ot (cat (by rw [Str.len2]; omega)) ?_
    repeat' ((fail_if_success (with_reducible show Dy.Got (oAdd _ _) _)); wtm_at "y_dy")
    refine g_ot (cat (by rw [Str.len2, Str.len2]; omega)) ?_
    repeat' ((fail_if_success (with_reducible show Dy.Got (oAdd _ _) _)); wtm_at "y_dy")
    refine g_ot (cat (by rw [Str.len2, Str.len2, Str.len2]; omega)) ?_
    repeat' ((fail_if_success (with_reducible show Dy.Got (oAdd _ _) _)); wtm_at "y_dy")
    refine g_ot (cat (by rw [Str.len2, Str.len2, Str.len2, Str.len2]; omega)) ?_
    repeat' ((fail_if_success (with_reducible show Dy.Got (oAdd _ _) _)); wtm_at "y_dy")
    refine g_ot (cat (by rw [Str.len2, Str.len2, Str.len2, Str.len2, Str.len2]; omega)) ?_
    repeat' wtm_at "y_dy"
    exact fin fun d hd => hd

/-! ### k86: the rows drawn -/
open TL
def some86 : List Str := ["", "sun 1", "wall a 1", "dial", "sun 9999 0 0 0 0", "hour", "wall a b", "sun 1 1 1 x"]
theorem some86_ok : ∀ x ∈ some86, Ok86 (.none x) := by
  have h : (some86.all fun x => (tl x).all (fun c => decide (c < 128) && !(c == 10)) && (decide (x.length ≤ 600) && ((formV ((spL 32 (tl x)).map mkS)).all fun v => !goodV v))) = true := by decide +kernel
  intro x hx
  have b := List.all_eq_true.mp h x hx
  rw [Bool.and_eq_true, Bool.and_eq_true] at b
  obtain ⟨b1, b2, b3⟩ := b
  have each : ∀ c ∈ tl x, c < 128 ∧ c ≠ 10 := fun c hc => by
    have := List.all_eq_true.mp b1 c hc
    rw [Bool.and_eq_true] at this
    exact ⟨of_decide_eq_true this.1, by simpa using this.2⟩
  refine ⟨⟨fun z => (each 10 z).2 rfl, of_decide_eq_true b2, fun c hc => by have := (each c hc).1; omega⟩, ?_⟩
  rw [show Txt.split x (Str.ofString " ") = (spL 32 (tl x)).map mkS from split_spL _ 32]
  exact b3
theorem mem_snoc {α : Type} {P : α → Prop} {xs : List α} {y : α} (h : ∀ x ∈ xs, P x) (hy : P y) : ∀ x ∈ xs ++ [y], P x := fun x hx => by
  rcases List.mem_append.mp hx with hx | hx
  · exact h x hx
  · rw [List.mem_singleton.mp hx]; exact hy
theorem map_snoc {α : Type} (f : α → D) (xs : List α) (y : α) : xs.map f ++ [f y] = (xs ++ [y]).map f := by rw [List.map_append]; rfl
set_option maxHeartbeats 4000000 in
theorem sp_lrows (ns : List Int) (hl : ns.length ≤ 63) : (f__law_rows [.lst (ns.map .int)]).wp (fun d => ∃ vs : List I86, d = .lst (vs.map I86.d) ∧ (∀ v ∈ vs, Ok86 v) ∧ vs.length ≤ 130) NoE := by
  have l1 : (Str.ofString "sun ").length = 4 := by decide +kernel
  have l2 : (Str.ofString " 0 0 1").length = 6 := by decide +kernel
  have l4 : (Str.ofString "wall ").length = 5 := by decide +kernel
  have l5 : (Str.ofString "w").length = 1 := by decide +kernel
  have l6 : (Str.ofString " 0 0 0 1 0 0 0 1 0").length = 18 := by decide +kernel
  obtain ⟨dn, hdn⟩ : ∃ dn, D.lst (ns.map .int) = dn := ⟨_, rfl⟩
  have cell : ∀ {k : Int}, 0 ≤ k → (f__law_cell_at [dn, .int k]).wp (fun d => ∃ c, d = .int c) NoE := fun h => by rw [← hdn]; exact sp_celln ns _ h
  obtain ⟨cs, ecs, hcs⟩ := cut_ints ns (some 2) (some 24)
  have esl : oSl dn (some 2) (some 24) = some (.lst (cs.map .int)) := by rw [← hdn, ← ecs]; rfl
  have hcs2 : cs.length ≤ 22 := by
    have := congrArg List.length ecs
    rw [List.length_map] at this
    rw [← this]
    unfold Dy.cutD
    rw [List.length_take]
    have e1 : HT.sIx (ns.map D.int).length 0 (some 2) = min 2 (ns.map D.int).length := rfl
    have e2 : HT.sIx (ns.map D.int).length (ns.map D.int).length (some 24) = min 24 (ns.map D.int).length := rfl
    rw [e1, e2]
    omega
  rw [hdn]
  wtm_at "y_in"
  repeat' wtm_at "y_dy"
  refine (cell (by decide)).no ?_
  rintro _ ⟨c0, rfl⟩
  have cnt1 : ∀ {a v : Int}, 0 ≤ a → a < 3 → 0 ≤ v → v < 4 → ∃ s : Nat, oIx (.lst [.int 1, .int 1, .int (79 + a), .int 0]) (.int v) = some (.int (s : Int)) ∧ s ≤ 81 := fun {a v} a0 a1 h0 h1 => by
    have : v = 0 ∨ v = 1 ∨ v = 2 ∨ v = 3 := by omega
    rcases this with rfl | rfl | rfl | rfl
    · exact ⟨1, rfl, by decide⟩
    · exact ⟨1, rfl, by decide⟩
    · exact ⟨(79 + a).toNat, by rw [show (((79 + a).toNat : Nat) : Int) = 79 + a by omega]; rfl, by omega⟩
    · exact ⟨0, rfl, by decide⟩
  have cnt2 : ∀ {a v : Int}, 0 ≤ a → a < 3 → 0 ≤ v → v < 3 → ∃ s : Nat, oIx (.lst [.int 0, .int 0, .int (19 + a)]) (.int v) = some (.int (s : Int)) ∧ s ≤ 21 := fun {a v} a0 a1 h0 h1 => by
    have : v = 0 ∨ v = 1 ∨ v = 2 := by omega
    rcases this with rfl | rfl | rfl
    · exact ⟨0, rfl, by decide⟩
    · exact ⟨0, rfl, by decide⟩
    · exact ⟨(19 + a).toNat, by rw [show (((19 + a).toNat : Nat) : Int) = 19 + a by omega]; rfl, by omega⟩
  have rgN : ∀ (m : Nat), m ≤ 1000 → ∀ {P : List D → Prop}, P ((List.range m).map fun i : Nat => D.int (i : Int)) → Got (range1 [.int (m : Int)]) P := fun m hm {P} h => by
    refine w_range1 (by constructor <;> omega) ?_
    have : rangeD 0 (m : Int).toNat = (List.range m).map fun i : Nat => D.int (i : Int) := by
      rw [Int.toNat_natCast]
      unfold rangeD
      exact List.map_congr_left fun i _ => by rw [Int.zero_add]
    rw [this]
    exact h
  have rget : ∀ {m i : Nat} {d : D}, ((List.range m).map fun i : Nat => D.int (i : Int))[i]? = some d → d = .int (i : Int) ∧ i < m := fun {m i d} ed => by
    rw [List.getElem?_map] at ed
    by_cases q : i < m
    · rw [List.getElem?_range q] at ed
      exact ⟨(Option.some.inj ed).symm, q⟩
    · rw [List.getElem?_eq_none (by rw [List.length_range]; omega)] at ed
      cases ed
  repeat' wtm_at "y_dy"
  refine (sp_draw (by decide) (by decide) (by decide) (by decide)).no ?_
  rintro _ ⟨a, rfl, a0, a1⟩
  repeat' wtm_at "y_dy"
  refine (sp_draw (by decide) (by decide) (by decide) (by decide)).no ?_
  rintro _ ⟨v, rfl, v0, v1⟩
  obtain ⟨m, em, hm⟩ := cnt1 a0 a1 v0 v1
  refine g_ot em ?_
  have rg := fun {P : List D → Prop} => rgN m (by omega) (P := P)
  generalize (m : Int) = MI at rg
  repeat' ((fail_if_success (with_reducible show Dy.Got (range1 _) _)); wtm_at "y_dy")
  refine rg ?_
  refine forS_inv (fun i ρ => ∃ (vs : List I86) (u : Sl), ρ = [.val dn, .val (.int c0), .own (vs.map I86.d), u, .un, .un, .un, .un, .un] ∧ (∀ v ∈ vs, Ok86 v) ∧ vs.length = i) ⟨[], _, rfl, (fun _ h => nomatch h), rfl⟩ ?_ ?_
  · rintro i d _ ed ⟨vs, u, rfl, hv, hvl⟩
    obtain ⟨rfl, hi⟩ := rget ed
    have hsz : (vs.map I86.d).length < sizeLine := by rw [List.length_map, sizeLine_eq]; omega
    have e := stx0 (i : Int)
    rw [show numS (i : Int) = Str.ofString (toString (i : Int)) from rfl] at e
    have b2 := num9 (i := (i : Int)) (by omega)
    have g2 := log99 (i := (i : Int)) (by omega)
    have okk : Ok86 (.sun ((i : Int), (0, 0, 1))) := ⟨⟨by show (0 : Int) ≤ (i : Int); omega, by show (i : Int) ≤ 9999; omega⟩, show okDr (tD (0, 0, 1)) = true by decide +kernel⟩
    have ed2 : I86.d (.sun ((i : Int), (0, 0, 1))) = .tup [.str "sun", .int (i : Int), .str (sunS ((i : Int), (0, 0, 1)))] := rfl
    rw [← e] at ed2
    generalize (i : Int) = K at e b2 g2 okk ed2 ⊢
    repeat' ((fail_if_success (with_reducible show Dy.Got (oStrI _) _)); wtm_at "y_dy")
    refine w_strI g2 ?_
    refine g_ot (cat (by omega)) ?_
    repeat' ((fail_if_success (with_reducible show Dy.Got (oAdd _ _) _)); wtm_at "y_dy")
    refine g_ot (cat (by rw [Str.len2]; omega)) ?_
    repeat' wtm_at "y_dy"
    refine ⟨vs ++ [.sun (K, (0, 0, 1))], .val (.int K), ?_, mem_snoc hv okk, by simp [hvl]⟩
    rw [← map_snoc, ed2]
  rintro _ ⟨vs, u, rfl, hv, hvl⟩
  rw [List.length_map, List.length_range] at hvl
  have hvl : vs.length ≤ 81 := by omega
  repeat' wtm_at "y_dy"
  refine (sp_draw (by decide) (by decide) (by decide) (by decide)).no ?_
  rintro _ ⟨a, rfl, a0, a1⟩
  repeat' wtm_at "y_dy"
  refine (sp_draw (by decide) (by decide) (by decide) (by decide)).no ?_
  rintro _ ⟨v, rfl, v0, v1⟩
  obtain ⟨m, em, hm⟩ := cnt2 a0 a1 v0 v1
  refine g_ot em ?_
  have rg := fun {P : List D → Prop} => rgN m (by omega) (P := P)
  generalize (m : Int) = MI at rg
  repeat' ((fail_if_success (with_reducible show Dy.Got (range1 _) _)); wtm_at "y_dy")
  refine rg ?_
  refine forS_inv (fun i ρ => ∃ (vs : List I86) (u w : Sl), ρ = [.val dn, .val (.int c0), .own (vs.map I86.d), u, w, .un, .un, .un, .un] ∧ (∀ v ∈ vs, Ok86 v) ∧ vs.length ≤ 81 + i) ⟨vs, _, _, rfl, hv, by omega⟩ ?_ ?_
  · rintro i d _ ed ⟨vs, u, w, rfl, hv, hvl⟩
    obtain ⟨rfl, hi⟩ := rget ed
    have hsz : (vs.map I86.d).length < sizeLine := by rw [List.length_map, sizeLine_eq]; omega
    have el := abc_let (i := (i : Int)) (by omega) (by omega)
    rw [Int.toNat_natCast] at el
    have en : oAdd (.str (Str.ofString "w")) (.str (mkS [97 + i])) = some (.str (mkS [119, 97 + i])) := by
      rw [cat (by rw [l5, len_mk]; show 1 + 1 ≤ 10000; decide)]
      rfl
    have hnm : okNm (.str (mkS [119, 97 + i])) = true := okNm_of (by simp) (by simp) fun x hx => by
      simp only [List.mem_cons, List.not_mem_nil, or_false] at hx
      rcases hx with rfl | rfl <;> omega
    have ln : (mkS [119, 97 + i]).length = 2 := len_mk _
    have okk : Ok86 (.wall (mkS [119, 97 + i], ((0, 0, 0), (1, 0, 0), (0, 1, 0))) false) := ⟨hnm, by unfold P9 G9 N9; simp, show okP (plD ((0, 0, 0), (1, 0, 0), (0, 1, 0))) = !false by decide +kernel⟩
    have e := wtx0 (mkS [119, 97 + i])
    have ed2 : I86.d (.wall (mkS [119, 97 + i], ((0, 0, 0), (1, 0, 0), (0, 1, 0))) false) = .tup [.str "wall", .tup [.str (mkS [119, 97 + i]), .bl false], .str (wallS (mkS [119, 97 + i], ((0, 0, 0), (1, 0, 0), (0, 1, 0))))] := rfl
    rw [← e] at ed2
    generalize mkS [119, 97 + i] = NM at en ln okk ed2
    generalize mkS [97 + i] = LT at el en
    generalize (i : Int) = K at el ⊢
    repeat' ((fail_if_success (with_reducible show Dy.Got (oIx _ _) _)); wtm_at "y_dy")
    refine g_ot el ?_
    refine g_ot en ?_
    repeat' ((fail_if_success (with_reducible show Dy.Got (oAdd _ _) _)); wtm_at "y_dy")
    refine g_ot (cat (by omega)) ?_
    repeat' ((fail_if_success (with_reducible show Dy.Got (oAdd _ _) _)); wtm_at "y_dy")
    refine g_ot (cat (by rw [Str.len2]; omega)) ?_
    repeat' wtm_at "y_dy"
    refine ⟨vs ++ [.wall (NM, ((0, 0, 0), (1, 0, 0), (0, 1, 0))) false], .val (.int K), .val (.str NM), ?_, mem_snoc hv okk, by simp; omega⟩
    rw [← map_snoc, ed2]
  rintro _ ⟨vs, u, w, rfl, hv, hvl⟩
  rw [List.length_map, List.length_range] at hvl
  have hvl : vs.length ≤ 102 := by omega
  repeat' wtm_at "y_dy"
  refine (sp_draw (by decide) (by decide) (by decide) (by decide)).no ?_
  rintro _ ⟨a, rfl, a0, a1⟩
  repeat' ((fail_if_success (with_reducible show Dy.Got (oSl _ _ _) _)); wtm_at "y_dy")
  generalize decide (a = 1) = dl
  refine g_ot esl ?_
  refine g_ot (a := enumD (cs.map .int)) rfl ?_
  refine forS_inv (fun i ρ => ∃ (vs : List I86) (u w x : Sl), ρ = [.val dn, .val (.int c0), .own (vs.map I86.d), u, w, .val (.bl dl), x, .un, .un] ∧ (∀ v ∈ vs, Ok86 v) ∧ vs.length ≤ 102 + i) ⟨vs, _, _, _, rfl, hv, by omega⟩ ?_ ?_
  · rintro i d _ ed ⟨vs, u, w, x, rfl, hv, hvl⟩
    have hi : i < cs.length := by
      have := (List.getElem?_eq_some_iff.mp ed).1
      simpa [enumD] using this
    have ed2 := enumD_get (ds := cs.map D.int) (i := i) (d := .int cs[i]) (by rw [List.getElem?_map, List.getElem?_eq_getElem hi]; rfl)
    rw [ed] at ed2
    have ed2 := Option.some.inj ed2
    subst ed2
    have hsz : (vs.map I86.d).length < sizeLine := by rw [List.length_map, sizeLine_eq]; omega
    have elen : oLen [.lst (vs.map I86.d)] = some (.int (vs.length : Int)) := len_map rfl
    have dr := sp_drawn cs[i] (n := (vs.length : Int)) (by omega) (by omega) dl
    generalize (vs.length : Int) = LL at elen dr
    generalize (i : Int) = K
    generalize cs[i] = cc at dr
    repeat' ((fail_if_success (with_reducible show Dy.Got (oLen _) _)); wtm_at "y_dy")
    refine g_ot elen ?_
    repeat' ((fail_if_success (with_reducible show R.wp (f__law_drawn_row _) _ _)); wtm_at "y_dy")
    refine R.wp.no dr ?_
    rintro _ ⟨v, rfl, hv2⟩
    refine ⟨hsz, ?_⟩
    repeat' wtm_at "y_dy"
    exact ⟨vs ++ [v], .val (.int K), w, .val (.int cc), by rw [← map_snoc], mem_snoc hv hv2, by simp; omega⟩
  rintro _ ⟨vs, u, w, x0, rfl, hv, hvl⟩
  have el : (enumD (cs.map D.int)).length = cs.length := by simp [enumD]
  rw [el] at hvl
  have hvl : vs.length ≤ 124 := by omega
  repeat' wtm_at "y_dy"
  refine (sp_draw (by decide) (by decide) (by decide) (by decide)).no ?_
  rintro _ ⟨q, rfl, q0, q1⟩
  obtain ⟨m, hm⟩ : ∃ m : Nat, q = (m : Int) := ⟨q.toNat, by omega⟩
  have rg := fun {P : List D → Prop} => rgN m (by omega) (P := P)
  rw [← hm] at rg
  refine rg ?_
  have eSm : D.lst (some86.map D.str) = .lst [.str "", .str "sun 1", .str "wall a 1", .str "dial", .str "sun 9999 0 0 0 0", .str "hour", .str "wall a b", .str "sun 1 1 1 x"] := rfl
  have slen := len_map eSm
  have six := fun {K : Int} => ix_map eSm (K := K)
  rw [show some86.length = 8 from rfl] at slen six
  rw [← eSm] at slen six ⊢
  generalize D.lst (some86.map D.str) = SM at slen six
  refine forS_inv (fun i ρ => ∃ (vs : List I86) (u x : Sl), ρ = [.val dn, .val (.int c0), .own (vs.map I86.d), u, w, .val (.bl dl), x0, .val SM, x] ∧ (∀ v ∈ vs, Ok86 v) ∧ vs.length ≤ 124 + i) ⟨vs, _, _, rfl, hv, by omega⟩ ?_ ?_
  · rintro i d _ ed ⟨vs, u, x, rfl, hv, hvl⟩
    obtain ⟨rfl, hi⟩ := rget ed
    have hi2 : i < 3 := by omega
    have hsz : (vs.map I86.d).length < sizeLine := by rw [List.length_map, sizeLine_eq]; omega
    have elen : oLen [.lst (vs.map I86.d)] = some (.int (vs.length : Int)) := len_map rfl
    obtain ⟨LL, hLL⟩ : ∃ L : Int, (vs.length : Int) = L := ⟨_, rfl⟩
    obtain ⟨K, hK⟩ : ∃ L : Int, (i : Int) = L := ⟨_, rfl⟩
    have bK : Bd 10 K := by unfold Bd; omega
    rw [hLL] at elen
    rw [hK]
    repeat' ((fail_if_success (with_reducible show Dy.Got (oLen _) _)); wtm_at "y_dy")
    refine g_ot elen ?_
    repeat' wtm_at "y_dy"
    refine (sp_draw (by omega) (by omega) (by omega) (by omega)).no ?_
    rintro _ ⟨p, rfl, hp0, hp1⟩
    repeat' ((fail_if_success (with_reducible show SR.wp (sInsO _ _ _ _) _ _ _)); wtm_at "y_dy")
    refine sp_insO rfl ?_
    repeat' ((fail_if_success (with_reducible show Dy.Got (oLen _) _)); wtm_at "y_dy")
    refine g_ot slen ?_
    repeat' wtm_at "y_dy"
    refine (sp_draw (by omega) (by omega) (by decide) (by decide)).no ?_
    rintro _ ⟨z, rfl, hz0, hz1⟩
    obtain ⟨y, hy, ey⟩ := six hz0 hz1
    refine g_ot ey ?_
    repeat' wtm_at "y_dy"
    refine ⟨⟨hsz, hp0, by omega⟩, ?_⟩
    repeat' wtm_at "y_dy"
    refine ⟨vs.take p.toNat ++ [.none y] ++ vs.drop p.toNat, .val (.int K), .val (.int p), ?_, fun v hv' => ?_, ?_⟩
    · rw [List.map_append, List.map_append, List.map_take, List.map_drop]
      rfl
    · rcases List.mem_append.mp hv' with hv' | hv'
      · rcases List.mem_append.mp hv' with hv' | hv'
        · exact hv v (List.mem_of_mem_take hv')
        · rw [List.mem_singleton.mp hv']
          exact some86_ok y hy
      · exact hv v (List.mem_of_mem_drop hv')
    · simp
      omega
  · rintro _ ⟨vs, u, x, rfl, hv, hvl⟩
    rw [List.length_map, List.length_range] at hvl
    repeat' wtm_at "y_dy"
    exact ⟨vs, rfl, hv, by omega⟩

/-! ### k86: the first that cannot stand, by the law -/
open TL
abbrev ks86 : List Key := [.inr (Str.ofString "sun"), .inr (Str.ofString "wall"), .inr (Str.ofString "dial")]
theorem inrK (a b : Str) : decide ((Sum.inr a : Key) = .inr b) = decide (a = b) := decide_eq_decide.mpr ⟨fun h => by cases h; rfl, fun h => by rw [h]⟩
theorem ne1 : decide (Str.ofString "sun" = Str.ofString "wall") = false ∧ decide (Str.ofString "sun" = Str.ofString "dial") = false ∧ decide (Str.ofString "wall" = Str.ofString "dial") = false ∧ decide (Str.ofString "wall" = Str.ofString "sun") = false ∧ decide (Str.ofString "dial" = Str.ofString "sun") = false ∧ decide (Str.ofString "dial" = Str.ofString "wall") = false := by decide +kernel
theorem look86 (a b c : D) : lookK ks86 [a, b, c] (.inr (Str.ofString "sun")) = some a ∧ lookK ks86 [a, b, c] (.inr (Str.ofString "wall")) = some b ∧ lookK ks86 [a, b, c] (.inr (Str.ofString "dial")) = some c := by
  obtain ⟨n1, n2, n3, n4, n5, n6⟩ := ne1
  unfold lookK
  simp only [List.zip_cons_cons, List.zip_nil_right, List.find?_cons, List.find?_nil, inrK, n1, n2, n3, n4, n5, n6, decide_true, Option.map_some, and_self]
theorem inrI (a b : Str) : ((Sum.inr a : Key) = .inr b) ↔ (a = b) := ⟨fun h => by cases h; rfl, fun h => by rw [h]⟩
theorem put86 (a b c d : D) : putD ks86 [a, b, c] (.inr (Str.ofString "sun")) d = (ks86, [d, b, c]) ∧ putD ks86 [a, b, c] (.inr (Str.ofString "wall")) d = (ks86, [a, d, c]) ∧ putD ks86 [a, b, c] (.inr (Str.ofString "dial")) d = (ks86, [a, b, d]) := by
  obtain ⟨n1, n2, n3, n4, n5, n6⟩ := ne1
  have m1 := of_decide_eq_false n1
  have m2 := of_decide_eq_false n2
  have m3 := of_decide_eq_false n3
  have m4 := of_decide_eq_false n4
  have m5 := of_decide_eq_false n5
  have m6 := of_decide_eq_false n6
  unfold putD
  simp [inrI, m1, m2, m3, m4, m5, m6]
def optK : Option Nat → D
  | some k => .int (k : Int)
  | .none => .non
theorem eqc {a b : Str} {r : Bool} {P : D → Prop} (ha : PyData.strOk a = true) (hb : PyData.strOk b = true) (hr : decide (a = b) = r) (h : P (.bl r)) : Got (oEq (.str a) (.str b)) P := w_eqStr ha hb (by rw [hr]; exact h)
theorem nms_wall {st : PSt} {w : Wall} {b : Bool} (h : st.2.2 = []) : nmsP (add86 st (.wall w b)) = nmsP st ++ [w.1] := by
  unfold nmsP add86
  rw [h]
  simp
theorem nms_dial {st : PSt} {w : Dial} {b : Bool} : nmsP (add86 st (.dial w b)) = nmsP st ++ [w.1] := by
  unfold nmsP add86
  simp
set_option maxHeartbeats 4000000 in
theorem sp_first {vs : List I86} {LD : D} (hLD : D.lst (vs.map I86.d) = LD) (hv : ∀ v ∈ vs, Ok86 v) (hl : vs.length ≤ 130) {P : D → Prop} (hP : P (optK (first86 ([], [], []) 0 vs))) : (f__law_first_bad [LD]).wp P NoE := by
  have elen := len_map hLD
  have hget : ∀ {i : Nat} {v : I86}, vs[i]? = some v → oIx LD (.int (i : Int)) = some v.d := fun {i v} h => by
    rw [← hLD]
    show L2.atI (vs.map I86.d) (i : Int) = _
    exact atI_nat (by rw [List.getElem?_map, h]; rfl)
  have rgN : ∀ {P : List D → Prop}, P ((List.range vs.length).map fun i : Nat => D.int (i : Int)) → Got (range1 [.int (vs.length : Int)]) P := fun {P} h => by
    refine w_range1 (by constructor <;> omega) ?_
    have : rangeD 0 (vs.length : Int).toNat = (List.range vs.length).map fun i : Nat => D.int (i : Int) := by
      rw [Int.toNat_natCast]
      unfold rangeD
      exact List.map_congr_left fun i _ => by rw [Int.zero_add]
    rw [this]
    exact h
  have rget : ∀ {m i : Nat} {d : D}, ((List.range m).map fun i : Nat => D.int (i : Int))[i]? = some d → d = .int (i : Int) ∧ i < m := fun {m i d} ed => by
    rw [List.getElem?_map] at ed
    by_cases q : i < m
    · rw [List.getElem?_range q] at ed
      exact ⟨(Option.some.inj ed).symm, q⟩
    · rw [List.getElem?_eq_none (by rw [List.length_range]; omega)] at ed
      cases ed
  have okS : ∀ s ∈ [Str.ofString "sun", Str.ofString "wall", Str.ofString "dial", Str.ofString "none"], PyData.strOk s = true := by decide +kernel
  have k1 : PyData.strOk (Str.ofString "sun") = true := okS _ (by simp)
  have k2 : PyData.strOk (Str.ofString "wall") = true := okS _ (by simp)
  have k3 : PyData.strOk (Str.ofString "dial") = true := okS _ (by simp)
  have k4 : PyData.strOk (Str.ofString "none") = true := okS _ (by simp)
  have q1 : decide (Str.ofString "sun" = Str.ofString "none") = false ∧ decide (Str.ofString "wall" = Str.ofString "none") = false ∧ decide (Str.ofString "dial" = Str.ofString "none") = false := by decide +kernel
  obtain ⟨n1, n2, n3, n4, n5, n6⟩ := ne1
  obtain ⟨VL, hVL⟩ : ∃ L : Int, (vs.length : Int) = L := ⟨_, rfl⟩
  rw [hVL] at elen rgN
  wtm_at "y_in"
  repeat' ((fail_if_success (with_reducible show SR.wp (sOwnK _ _ _ _) _ _ _)); wtm_at "y_dy")
  refine sp_ownK ?_
  repeat' wtm_at "y_dy"
  refine ⟨⟨rfl, by decide +kernel, by decide⟩, ?_⟩
  repeat' ((fail_if_success (with_reducible show Dy.Got (oLen _) _)); wtm_at "y_dy")
  refine g_ot elen ?_
  refine rgN ?_
  refine forS_inv (fun i ρ => ∃ (st : PSt) (u w x y : Sl), ρ = [.val LD, .val (.int (lastH st.1)), .own ((nmsP st).map .str), .ownD ks86 [.int (st.1.length : Int), .int (st.2.1.length : Int), .int (st.2.2.length : Int)], u, w, x, y] ∧
    first86 ([], [], []) 0 vs = first86 st i (vs.drop i) ∧ (∀ x ∈ nmsP st, PyData.strOk x = true) ∧ (nmsP st).length ≤ i ∧ st.1.length ≤ i) ⟨([], [], []), _, _, _, _, rfl, rfl, (fun _ h => nomatch h), by simp [nmsP], by simp⟩ ?_ ?_
  · rintro i d _ ed ⟨st, u, w, x, y, rfl, hF, hok, hnl, hsl⟩
    obtain ⟨rfl, hi⟩ := rget ed
    have ev : vs[i]? = some vs[i] := List.getElem?_eq_getElem hi
    have hx := hget ev
    have hv1 := hv _ (List.getElem_mem hi)
    rw [List.drop_eq_getElem_cons hi] at hF
    generalize vs[i] = v at hx hv1 hF
    have hF : first86 ([], [], []) 0 vs = if bad86 st v = true then some i else first86 (add86 st v) (i + 1) (vs.drop (i + 1)) := hF
    have hbad : bad86 st v = true → P (.int (i : Int)) := fun h => by
      rw [hF, if_pos h] at hP
      exact hP
    have hgood : bad86 st v = false → first86 ([], [], []) 0 vs = first86 (add86 st v) (i + 1) (vs.drop (i + 1)) := fun h => by
      rw [hF, if_neg (by rw [h]; decide)]
    have hsz : ((nmsP st).map D.str).length < sizeLine := by rw [List.length_map, sizeLine_eq]; omega
    have neN : ∀ {P : D → Prop}, P (.bl (!decide (nmsP st = []))) → Got (oNe (.lst ((nmsP st).map .str)) (.lst [])) P := fun {P} h => by
      refine w_neNil (by
        show ((nmsP st).map D.str).all (Dy.okq 39) = true
        rw [List.all_eq_true]
        intro d hd
        obtain ⟨s, hs, rfl⟩ := List.mem_map.mp hd
        exact hok s hs) ?_
      have : ((nmsP st).map D.str).isEmpty = decide (nmsP st = []) := by cases nmsP st <;> rfl
      rw [this]
      exact h
    have look := look86 (.int (st.1.length : Int)) (.int (st.2.1.length : Int)) (.int (st.2.2.length : Int))
    have put := put86 (.int (st.1.length : Int)) (.int (st.2.1.length : Int)) (.int (st.2.2.length : Int))
    generalize (i : Int) = K at hx hbad ⊢
    repeat' ((fail_if_success (with_reducible show Dy.Got (oIx _ _) _)); wtm_at "y_dy")
    refine g_ot hx ?_
    cases v with
    | none x =>
      unfold I86.d
      repeat' ((fail_if_success (with_reducible show Dy.Got (oEq _ _) _)); wtm_at "y_dy")
      refine eqc k4 k4 (decide_t rfl) ?_
      repeat' wtm_at "y_dy"
      exact hbad rfl
    | sun r =>
      have eb : bad86 st (.sun r) = (!decide (nmsP st = []) || (decide (r.1 ≤ lastH st.1) || decide (80 < st.1.length + 1))) := rfl
      rw [eb] at hbad hgood
      unfold I86.d
      repeat' ((fail_if_success (with_reducible show Dy.Got (oEq _ _) _)); wtm_at "y_dy")
      refine eqc k1 k4 q1.1 ?_
      repeat' ((fail_if_success (with_reducible show SR.wp (sPutK _ _ _ _) _ _ _)); wtm_at "y_dy")
      refine sp_putK rfl (by decide) ?_
      repeat' ((fail_if_success (with_reducible show R.wp (eIxK _ _ _) _ _)); wtm_at "y_dy")
      refine wp_ixK rfl ?_
      repeat' wtm_at "y_dy"
      refine ⟨_, rfl, g_ot look.1 ?_⟩
      repeat' wtm_at "y_dy"
      refine ⟨_, rfl, ?_⟩
      rw [(put (.int ((st.1.length : Int) + 1))).1]
      have look := look86 (.int ((st.1.length : Int) + 1)) (.int (st.2.1.length : Int)) (.int (st.2.2.length : Int))
      repeat' ((fail_if_success (with_reducible show Dy.Got (oEq _ _) _)); wtm_at "y_dy")
      refine eqc k1 k1 (decide_t rfl) ?_
      repeat' ((fail_if_success (with_reducible show Dy.Got (oNe _ _) _)); wtm_at "y_dy")
      refine neN ?_
      refine ex_bl (k_any (fun h1 => ?_) fun h1 => ?_)
      · repeat' wtm_at "y_dy"
        exact hbad (by rw [h1]; rfl)
      repeat' ((fail_if_success (with_reducible show Fork (decide _) _ _)); wtm_at "y_dy")
      refine k_any (fun h2 => ?_) fun h2 => ?_
      · repeat' wtm_at "y_dy"
        exact hbad (by rw [h1, h2]; rfl)
      repeat' ((fail_if_success (with_reducible show R.wp (eIxK _ _ _) _ _)); wtm_at "y_dy")
      refine wp_ixK rfl ?_
      repeat' wtm_at "y_dy"
      refine ⟨_, rfl, g_ot look.1 ?_⟩
      repeat' ((fail_if_success (with_reducible show Fork (decide _) _ _)); wtm_at "y_dy")
      have e3 : decide ((st.1.length : Int) + 1 > 80) = decide (80 < st.1.length + 1) := decide_eq_decide.mpr (by omega)
      rw [e3]
      refine k_any (fun h3 => ?_) fun h3 => ?_
      · repeat' wtm_at "y_dy"
        exact hbad (by rw [h1, h2, h3]; rfl)
      repeat' wtm_at "y_dy"
      have h1 : nmsP st = [] := by simpa using h1
      refine ⟨add86 st (.sun r), .val (.int K), .val (.str (Str.ofString "sun")), .val (.int r.1), .val (.str (sunS r)), ?_, hgood (by rw [decide_t h1, h2, h3]; rfl), hok, ?_, ?_⟩
      · show _ = [Sl.val LD, .val (.int (lastH (st.1 ++ [r]))), .own ((nmsP st).map .str), .ownD ks86 [.int ((st.1 ++ [r]).length : Int), _, _], _, _, _, _]
        rw [lastH_snoc, List.length_append, List.length_singleton]
        rfl
      · show (nmsP st).length ≤ i + 1
        omega
      · show (st.1 ++ [r]).length ≤ i + 1
        rw [List.length_append, List.length_singleton]
        omega
    | wall w b =>
      have eb : bad86 st (.wall w b) = (decide (st.1.length = 0) || (decide (w.1 ∈ nmsP st) || (b || (decide (20 < st.2.1.length + 1) || decide (0 < st.2.2.length))))) := rfl
      rw [eb] at hbad hgood
      have okw : PyData.strOk w.1 = true := (okNm_N hv1.1).1.ok
      unfold I86.d
      repeat' ((fail_if_success (with_reducible show Dy.Got (oEq _ _) _)); wtm_at "y_dy")
      refine eqc k2 k4 q1.2.1 ?_
      repeat' ((fail_if_success (with_reducible show SR.wp (sPutK _ _ _ _) _ _ _)); wtm_at "y_dy")
      refine sp_putK rfl (by decide) ?_
      repeat' ((fail_if_success (with_reducible show R.wp (eIxK _ _ _) _ _)); wtm_at "y_dy")
      refine wp_ixK rfl ?_
      repeat' wtm_at "y_dy"
      refine ⟨_, rfl, g_ot look.2.1 ?_⟩
      repeat' wtm_at "y_dy"
      refine ⟨_, rfl, ?_⟩
      rw [(put (.int ((st.2.1.length : Int) + 1))).2.1]
      have look := look86 (.int (st.1.length : Int)) (.int ((st.2.1.length : Int) + 1)) (.int (st.2.2.length : Int))
      repeat' ((fail_if_success (with_reducible show Dy.Got (oEq _ _) _)); wtm_at "y_dy")
      refine eqc k2 k1 n4 ?_
      repeat' ((fail_if_success (with_reducible show R.wp (eIxK _ _ _) _ _)); wtm_at "y_dy")
      refine wp_ixK rfl ?_
      repeat' wtm_at "y_dy"
      refine ⟨_, rfl, g_ot look.1 ?_⟩
      repeat' ((fail_if_success (with_reducible show Fork (decide _) _ _)); wtm_at "y_dy")
      have e0 : decide ((st.1.length : Int) = 0) = decide (st.1.length = 0) := decide_eq_decide.mpr (by omega)
      rw [e0]
      refine k_any (fun h1 => ?_) fun h1 => ?_
      · repeat' wtm_at "y_dy"
        exact hbad (by rw [h1]; rfl)
      repeat' ((fail_if_success (with_reducible show Dy.Got (oInX _ _) _)); wtm_at "y_dy")
      refine w_inXl rfl (flat_names _) ?_
      rw [any_names]
      repeat' ((fail_if_success (with_reducible show Fork (decide _) _ _)); wtm_at "y_dy")
      refine k_any (fun h2 => ?_) fun h2 => ?_
      · repeat' wtm_at "y_dy"
        exact hbad (by rw [h1, h2]; rfl)
      repeat' ((fail_if_success (with_reducible show Fork b _ _)); wtm_at "y_dy")
      refine k_any (fun h3 => ?_) fun h3 => ?_
      · repeat' wtm_at "y_dy"
        exact hbad (by rw [h1, h2, h3]; rfl)
      repeat' ((fail_if_success (with_reducible show R.wp (eIxK _ _ _) _ _)); wtm_at "y_dy")
      refine wp_ixK rfl ?_
      repeat' wtm_at "y_dy"
      refine ⟨_, rfl, g_ot look.2.1 ?_⟩
      repeat' ((fail_if_success (with_reducible show Fork (decide _) _ _)); wtm_at "y_dy")
      have e4 : decide ((st.2.1.length : Int) + 1 > 20) = decide (20 < st.2.1.length + 1) := decide_eq_decide.mpr (by omega)
      rw [e4]
      refine k_any (fun h4 => ?_) fun h4 => ?_
      · repeat' wtm_at "y_dy"
        exact hbad (by rw [h1, h2, h3, h4]; rfl)
      repeat' ((fail_if_success (with_reducible show Dy.Got (oEq _ _) _)); wtm_at "y_dy")
      refine eqc k2 k2 (decide_t rfl) ?_
      repeat' ((fail_if_success (with_reducible show R.wp (eIxK _ _ _) _ _)); wtm_at "y_dy")
      refine wp_ixK rfl ?_
      repeat' wtm_at "y_dy"
      refine ⟨_, rfl, g_ot look.2.2 ?_⟩
      repeat' ((fail_if_success (with_reducible show Fork (decide _) _ _)); wtm_at "y_dy")
      have e5 : decide ((st.2.2.length : Int) > 0) = decide (0 < st.2.2.length) := decide_eq_decide.mpr (by omega)
      rw [e5]
      refine k_any (fun h5 => ?_) fun h5 => ?_
      · repeat' wtm_at "y_dy"
        exact hbad (by rw [h1, h2, h3, h4, h5]; rfl)
      repeat' ((fail_if_success (with_reducible show SR.wp (sApp _ _ _) _ _ _)); wtm_at "y_dy")
      refine sp_app rfl ?_
      repeat' wtm_at "y_dy"
      have d0 : st.2.2 = [] := List.eq_nil_of_length_eq_zero (by have := of_decide_eq_false h5; omega)
      have en := nms_wall (w := w) (b := b) d0
      refine ⟨add86 st (.wall w b), .val (.int K), .val (.str (Str.ofString "wall")), .val (.tup [.str w.1, .bl b]), .val (.str (wallS w)), ?_, hgood (by rw [h1, h2, h3, h4, h5]; rfl), ?_, ?_, ?_⟩
      · rw [en, ← map_snoc]
        show _ = [Sl.val LD, _, _, .ownD ks86 [_, .int ((st.2.1 ++ [w]).length : Int), _], _, _, _, _]
        rw [List.length_append, List.length_singleton]
        first | rfl | skip
      · rw [en]
        exact mem_snoc hok okw
      · rw [en, List.length_append, List.length_singleton]
        omega
      · show st.1.length ≤ i + 1
        omega
    | dial w b =>
      have eb : bad86 st (.dial w b) = (decide (st.1.length = 0) || (decide (w.1 ∈ nmsP st) || (b || decide (20 < st.2.2.length + 1)))) := rfl
      rw [eb] at hbad hgood
      have okw : PyData.strOk w.1 = true := (okNm_N hv1.1).1.ok
      unfold I86.d
      repeat' ((fail_if_success (with_reducible show Dy.Got (oEq _ _) _)); wtm_at "y_dy")
      refine eqc k3 k4 q1.2.2 ?_
      repeat' ((fail_if_success (with_reducible show SR.wp (sPutK _ _ _ _) _ _ _)); wtm_at "y_dy")
      refine sp_putK rfl (by decide) ?_
      repeat' ((fail_if_success (with_reducible show R.wp (eIxK _ _ _) _ _)); wtm_at "y_dy")
      refine wp_ixK rfl ?_
      repeat' wtm_at "y_dy"
      refine ⟨_, rfl, g_ot look.2.2 ?_⟩
      repeat' wtm_at "y_dy"
      refine ⟨_, rfl, ?_⟩
      rw [(put (.int ((st.2.2.length : Int) + 1))).2.2]
      have look := look86 (.int (st.1.length : Int)) (.int (st.2.1.length : Int)) (.int ((st.2.2.length : Int) + 1))
      repeat' ((fail_if_success (with_reducible show Dy.Got (oEq _ _) _)); wtm_at "y_dy")
      refine eqc k3 k1 n5 ?_
      repeat' ((fail_if_success (with_reducible show R.wp (eIxK _ _ _) _ _)); wtm_at "y_dy")
      refine wp_ixK rfl ?_
      repeat' wtm_at "y_dy"
      refine ⟨_, rfl, g_ot look.1 ?_⟩
      repeat' ((fail_if_success (with_reducible show Fork (decide _) _ _)); wtm_at "y_dy")
      have e0 : decide ((st.1.length : Int) = 0) = decide (st.1.length = 0) := decide_eq_decide.mpr (by omega)
      rw [e0]
      refine k_any (fun h1 => ?_) fun h1 => ?_
      · repeat' wtm_at "y_dy"
        exact hbad (by rw [h1]; rfl)
      repeat' ((fail_if_success (with_reducible show Dy.Got (oInX _ _) _)); wtm_at "y_dy")
      refine w_inXl rfl (flat_names _) ?_
      rw [any_names]
      repeat' ((fail_if_success (with_reducible show Fork (decide _) _ _)); wtm_at "y_dy")
      refine k_any (fun h2 => ?_) fun h2 => ?_
      · repeat' wtm_at "y_dy"
        exact hbad (by rw [h1, h2]; rfl)
      repeat' ((fail_if_success (with_reducible show Fork b _ _)); wtm_at "y_dy")
      refine k_any (fun h3 => ?_) fun h3 => ?_
      · repeat' wtm_at "y_dy"
        exact hbad (by rw [h1, h2, h3]; rfl)
      repeat' ((fail_if_success (with_reducible show R.wp (eIxK _ _ _) _ _)); wtm_at "y_dy")
      refine wp_ixK rfl ?_
      repeat' wtm_at "y_dy"
      refine ⟨_, rfl, g_ot look.2.2 ?_⟩
      repeat' ((fail_if_success (with_reducible show Fork (decide _) _ _)); wtm_at "y_dy")
      have e4 : decide ((st.2.2.length : Int) + 1 > 20) = decide (20 < st.2.2.length + 1) := decide_eq_decide.mpr (by omega)
      rw [e4]
      refine k_any (fun h4 => ?_) fun h4 => ?_
      · repeat' wtm_at "y_dy"
        exact hbad (by rw [h1, h2, h3, h4]; rfl)
      repeat' ((fail_if_success (with_reducible show Dy.Got (oEq _ _) _)); wtm_at "y_dy")
      refine eqc k3 k2 n6 ?_
      repeat' ((fail_if_success (with_reducible show SR.wp (sApp _ _ _) _ _ _)); wtm_at "y_dy")
      refine sp_app rfl ?_
      repeat' wtm_at "y_dy"
      have en := nms_dial (st := st) (w := w) (b := b)
      refine ⟨add86 st (.dial w b), .val (.int K), .val (.str (Str.ofString "dial")), .val (.tup [.str w.1, .bl b]), .val (.str (dialS w)), ?_, hgood (by rw [h1, h2, h3, h4]; rfl), ?_, ?_, ?_⟩
      · rw [en, ← map_snoc]
        show _ = [Sl.val LD, _, _, .ownD ks86 [_, _, .int ((st.2.2 ++ [w]).length : Int)], _, _, _, _]
        rw [List.length_append, List.length_singleton]
        first | rfl | skip
      · rw [en]
        exact mem_snoc hok okw
      · rw [en, List.length_append, List.length_singleton]
        omega
      · show st.1.length ≤ i + 1
        omega
  · rintro _ ⟨st, u, w, x, y, rfl, hF, hok, hnl, hsl⟩
    rw [List.length_map, List.length_range, List.drop_length] at hF
    repeat' wtm_at "y_dy"
    rw [hF] at hP
    exact hP

local macro_rules | `(tactic| wtm_at "y_fn") => `(tactic| ((with_reducible show Got (oIsX _ _ [_, D.tup _]) _); first | ((refine w_isxT (b := true) rfl ?_ ?_ ?_); (focus (decide +kernel)); (focus (decide +kernel))) | ((refine w_isxT (b := false) rfl ?_ ?_ ?_); (focus (decide +kernel)); (focus (decide +kernel)))))
local macro_rules | `(tactic| wtm_at "y_fn") => `(tactic| ((with_reducible show Got (oIsX _ _ [_, D.cls _]) _); first | ((refine w_isxC (b := true) ?_ ?_ ?_); (focus (decide +kernel)); (focus (decide +kernel))) | ((refine w_isxC (b := false) ?_ ?_ ?_); (focus (decide +kernel)); (focus (decide +kernel)))))
local macro_rules | `(tactic| wtm_at "y_fn") => `(tactic| ((with_reducible show Got (oIsX _ _ [_, D.ty _]) _); refine w_isxV (by decide +kernel) ?_))
local macro_rules | `(tactic| wtm_at "y_fn") => `(tactic| ((with_reducible show Got (oAt _ _ (D.exc _ _ _)) _); refine w_xat (by decide +kernel) rfl ?_))
local macro_rules | `(tactic| wtm_at "y_fn") => `(tactic| (with_reducible refine sp_tryAs ?_))
local macro_rules | `(tactic| wtm_at "y_fn") => `(tactic| ((with_reducible show SR.wp (catchS _ _ _ _ _ (D.exc _ _ _)) _ _ _); refine sp_catch (by decide +kernel) (by decide +kernel) ?_))
local macro_rules | `(tactic| wtm_at "y_fn") => `(tactic| (with_reducible refine sp_raise ?_))

/-! ### k86: the law -/
open TL
theorem sp_refusedG {d : D} {i : Int} (h : (f_read_yard [d]).wp (fun _ => False) (fun e => e = .exc "NoRow" ["row"] [.int i])) {P : D → Prop} (hP : P (.int i)) : (f__law_refused [d]).wp P NoE := by
  wtm_at "y_in"
  repeat' ((fail_if_success (with_reducible show R.wp (eCallK _ _ _) _ _)); first | wtm_at "y_dy" | (with_reducible refine sp_tryAs ?_))
  refine wp_callK ?_
  repeat' wtm_at "y_dy"
  refine h.imp (fun _ z => z.elim) fun e he => ?_
  subst he
  wtm_at "y_go"
  exact hP
theorem c_filtG {α : Type} {b : D → REnv → Option REnv} {c : REnv → R Bool} {e : REnv → R D} {ρ : REnv} {P : List D → Prop} {xs : List α} {F G : α → D} {p : α → Bool} (hx : ∀ x ∈ xs, Got (b (F x) ρ) fun ρ' => (c ρ').wp (fun k => k = p x ∧ (p x = true → (e ρ').wp (fun d => d = G x) NoE)) NoE) (h : P ((xs.filter p).map G)) :
    Got (compS b c e (xs.map F) ρ) P := by
  refine ⟨_, compS_filter F G p xs fun x hx' => ?_, h⟩
  obtain ⟨ρ', e1, h1⟩ := hx x hx'
  refine ⟨ρ', e1, h1.post fun k z => z.1, ?_⟩
  obtain ⟨k, _, _, z⟩ := h1.ok
  exact z
def isS : I86 → Bool
  | .sun _ => true
  | _ => false
def isW : I86 → Bool
  | .wall _ _ => true
  | _ => false
def isF : I86 → Bool
  | .dial _ _ => true
  | _ => false
def gS : I86 → D
  | .sun r => .int r.1
  | _ => .non
def gW : I86 → D
  | .wall w _ => .str w.1
  | _ => .non
def gF : I86 → D
  | .dial w _ => .str w.1
  | _ => .non
theorem fin_S : ∀ (vs : List I86) (st : PSt), (fin86 st vs).1.map (fun r => D.int r.1) = st.1.map (fun r => D.int r.1) ++ (vs.filter isS).map gS
  | [], st => by simp [fin86]
  | v :: vs, st => by
    show (fin86 (add86 st v) vs).1.map _ = _
    rw [fin_S vs]
    cases v <;> simp [add86, List.filter_cons, isS, gS]
theorem fin_W : ∀ (vs : List I86) (st : PSt), (fin86 st vs).2.1.map (fun r => D.str r.1) = st.2.1.map (fun r => D.str r.1) ++ (vs.filter isW).map gW
  | [], st => by simp [fin86]
  | v :: vs, st => by
    show (fin86 (add86 st v) vs).2.1.map _ = _
    rw [fin_W vs]
    cases v <;> simp [add86, List.filter_cons, isW, gW]
theorem fin_F : ∀ (vs : List I86) (st : PSt), (fin86 st vs).2.2.map (fun r => D.str r.1) = st.2.2.map (fun r => D.str r.1) ++ (vs.filter isF).map gF
  | [], st => by simp [fin86]
  | v :: vs, st => by
    show (fin86 (add86 st v) vs).2.2.map _ = _
    rw [fin_F vs]
    cases v <;> simp [add86, List.filter_cons, isF, gF]
theorem ok86_txt {v : I86} (h : Ok86 v) : 10 ∉ tl v.txt ∧ PlT 600 v.txt := by
  cases v with
  | none x => exact h.1
  | sun r =>
    have hb : RowB r := ⟨by have := h.1; omega, (okDr_b h.2).1⟩
    exact ⟨row_no10 (sunW_Wd hb) (sunW_tl r), (sun_Pl ⟨h.1, (okDr_b h.2).2⟩).mono (by decide)⟩
  | wall w b =>
    have hb : WallB w := ⟨Nm_wd (okNm_N h.1), G9_b h.2.1.1, G9_b h.2.1.2.1, G9_b h.2.1.2.2⟩
    exact ⟨row_no10 (wallW_Wd hb) (wallW_tl w), (wall_Pl ⟨okNm_N h.1, h.2.1⟩).mono (by decide)⟩
  | dial w b =>
    have hb : DialB w := ⟨Nm_wd (okNm_N h.1), ⟨G9_b h.2.1.1.1, G9_b h.2.1.1.2.1, G9_b h.2.1.1.2.2⟩, G9_b h.2.1.2⟩
    exact ⟨row_no10 (dialW_Wd hb) (dialW_tl w), (dial_Pl ⟨okNm_N h.1, h.2.1.1, h.2.1.2⟩).mono (by decide)⟩
theorem ok86_q {v : I86} (h : Ok86 v) : Dy.okq 39 v.d = true := by
  have ht := (ok86_txt h).2.ok
  have a : ∀ s ∈ [Str.ofString "sun", Str.ofString "wall", Str.ofString "dial", Str.ofString "none"], PyData.strOk s = true := by decide +kernel
  cases v with
  | none x =>
    show (PyData.strOk (Str.ofString "none") && (true && (PyData.strOk x && true))) = true
    rw [a _ (by simp), show PyData.strOk x = true from ht]
    rfl
  | sun r =>
    show (PyData.strOk (Str.ofString "sun") && (true && (PyData.strOk (sunS r) && true))) = true
    rw [a _ (by simp), show PyData.strOk (sunS r) = true from ht]
    rfl
  | wall w b =>
    show (PyData.strOk (Str.ofString "wall") && ((PyData.strOk w.1 && (true && true)) && (PyData.strOk (wallS w) && true))) = true
    rw [a _ (by simp), show PyData.strOk (wallS w) = true from ht, (okNm_N h.1).1.ok]
    rfl
  | dial w b =>
    show (PyData.strOk (Str.ofString "dial") && ((PyData.strOk w.1 && (true && true)) && (PyData.strOk (dialS w) && true))) = true
    rw [a _ (by simp), show PyData.strOk (dialS w) = true from ht, (okNm_N h.1).1.ok]
    rfl
theorem inv0 : Inv86 ([], [], []) := ⟨⟨.nil, (fun _ h => nomatch h), (fun _ h => nomatch h), (fun _ h => nomatch h), .nil⟩, by simp, by simp, by simp, fun _ => ⟨rfl, rfl⟩⟩
theorem read_vs {vs : List I86} (hv : ∀ v ∈ vs, Ok86 v) (hl : vs.length ≤ 130) (hne : vs ≠ []) {P : O → Prop} {E : D → Prop} (h1 : first86 ([], [], []) 0 vs = none → P (.t (osP (fin86 ([], [], []) vs)))) (h2 : ∀ k : Nat, first86 ([], [], []) 0 vs = some k → E (.exc "NoRow" ["row"] [.int k])) :
    (f_read_yard [.str (Txt.join nlS (vs.map I86.txt))]).wp P E := by
  have rd := read86 vs ([], [], []) 0 inv0 hv
  refine sp_readX (xs := vs.map I86.txt) (by simpa using hne) (fun x hx => ?_) (by rw [List.length_map]; omega) (rows := vs.map I86.wds) (by rw [List.map_map]; rfl) (fun st e => ?_) fun i e => ?_
  · obtain ⟨v, hv', rfl⟩ := List.mem_map.mp hx
    exact ok86_txt (hv v hv')
  · rw [rd] at e
    cases q : first86 ([], [], []) 0 vs with
    | some k => rw [q] at e; cases e
    | none =>
      rw [q] at e
      cases e
      exact h1 q
  · rw [rd] at e
    cases q : first86 ([], [], []) 0 vs with
    | some k =>
      rw [q] at e
      cases e
      exact h2 _ q
    | none => rw [q] at e; cases e
set_option maxHeartbeats 4000000 in
theorem law_true (ns : List Int) (hl : ns.length ≤ 63) : f_law [.lst (ns.map .int)] = .ok (.bl true) := by
  refine law_of_wp ?_
  have emp : ((formV (Txt.split (Str.ofString "") (Str.ofString " "))).all fun v => !goodV v) = true := by
    rw [show Txt.split (Str.ofString "") (Str.ofString " ") = (spL 32 (tl (Str.ofString ""))).map mkS from split_spL _ 32]
    decide +kernel
  have empX : 10 ∉ tl (Str.ofString "") ∧ PlT 600 (Str.ofString "") := ⟨by decide +kernel, lit_Pl 600 (by decide +kernel)⟩
  have none0 : ∀ {P : O → Prop} {E : D → Prop}, E (.exc "NoRow" ["row"] [.int 0]) → (f_read_yard [.str (Txt.join nlS [])]).wp P E := fun {P E} hE => by
    have e : Txt.join nlS [] = Txt.join nlS [Str.ofString ""] := by rw [join_eq, join_eq]; rfl
    have rdE : readP ([], [], []) 0 [Txt.split (Str.ofString "") (Str.ofString " ")] = .inl 0 := readP_bad (st' := ([], [], [])) (pre := []) rfl emp
    rw [e]
    refine sp_readX (rows := [Txt.split (Str.ofString "") (Str.ofString " ")]) (by simp) (fun x hx => by rw [List.mem_singleton.mp hx]; exact empX) (by simp) rfl (fun st e => ?_) fun i e => ?_
    · rw [rdE] at e
      cases e
    · rw [rdE] at e
      cases e
      exact hE
  wtm_at "y_in"
  repeat' ((fail_if_success (with_reducible show R.wp (f__law_rows _) _ _)); wtm_at "y_dy")
  refine R.wp.no (sp_lrows ns hl) ?_
  rintro LD ⟨vs, hLD, hv, hvl⟩
  have hLD := hLD.symm
  have okL : okq 40 (.lst (vs.map I86.d)) = true := by
    show (vs.map I86.d).all (Dy.okq 39) = true
    rw [List.all_eq_true]
    intro d hd
    obtain ⟨v, hv', rfl⟩ := List.mem_map.mp hd
    exact ok86_q (hv v hv')
  have sums : ((vs.map I86.txt).map (·.length)).sum + (vs.map I86.txt).length * (Str.ofString "\n").length ≤ 16777216 := by
    have h1 : ∀ y ∈ vs.map I86.txt, PlT 600 y := fun y hy => by
      obtain ⟨v, hv', rfl⟩ := List.mem_map.mp hy
      exact (ok86_txt (hv v hv')).2
    have h2 := sum_Pl h1
    have h3 : (vs.map I86.txt).length ≤ 130 := by rw [List.length_map]; exact hvl
    have h4 : (vs.map I86.txt).length * (Str.ofString "\n").length ≤ 130 * 1 := Nat.mul_le_mul h3 (by decide +kernel)
    have h5 : (vs.map I86.txt).length * 600 ≤ 130 * 600 := Nat.mul_le_mul_right _ h3
    omega
  have rv := fun hne => fun {P : O → Prop} {E : D → Prop} => read_vs hv hvl hne (P := P) (E := E)
  have emE : (vs.map I86.d).isEmpty = decide (vs = []) := by cases vs <;> rfl
  rw [hLD] at okL
  have itL : iterD LD = some (vs.map I86.d) := by rw [← hLD]; rfl
  have eqN : ∀ {P : D → Prop}, P (.bl (decide (vs = []))) → Got (oEq LD (.lst [])) P := fun {P} h => by
    rw [← hLD] at okL ⊢
    refine w_eqNil okL ?_
    rw [emE]
    exact h
  have fitL : (vs.map I86.d).length ≤ sizeLine := by rw [List.length_map, sizeLine_eq]; omega
  repeat' ((fail_if_success (with_reducible show R.wp (f__law_first_bad _) _ _)); wtm_at "y_dy")
  with_reducible refine sp_first hLD hv hvl ?_
  repeat' ((fail_if_success (with_reducible show Dy.Got (oEq _ _) _)); wtm_at "y_dy")
  refine eqN ?_
  have nnN : ∀ x : Option Nat, oNotN (optK x) .non = some (.bl x.isSome) := fun x => by cases x <;> rfl
  have tx : ∀ (v : I86) (w : Sl) (env : REnv), True := fun _ _ _ => trivial
  refine ex_bl (k_any (fun hz => ?_) fun hz => ?_)
  · have hz : vs = [] := of_decide_eq_true hz
    subst hz
    repeat' ((fail_if_success (with_reducible show R.wp (eJoin _ _ _) _ _)); wtm_at "y_dy")
    refine wp_join (wp_c ⟨_, rfl, ?_⟩)
    repeat' ((fail_if_success (with_reducible show Dy.Got (iterD _) _)); wtm_at "y_dy")
    refine g_ot itL ⟨fitL, ?_⟩
    repeat' wtm_at "y_dy"
    refine ⟨[], rfl, by decide, ?_⟩
    repeat' wtm_at "y_dy"
    refine sp_refusedG (none0 rfl) ?_
    repeat' wtm_at "y_dy"
    rfl
  have hne : vs ≠ [] := of_decide_eq_false hz
  have rv := fun {P : O → Prop} {E : D → Prop} => rv hne (P := P) (E := E)
  repeat' ((fail_if_success (with_reducible show R.wp (eJoin _ _ _) _ _)); wtm_at "y_dy")
  refine wp_join (wp_c ⟨_, rfl, ?_⟩)
  repeat' ((fail_if_success (with_reducible show Dy.Got (iterD _) _)); wtm_at "y_dy")
  refine g_ot itL ⟨fitL, ?_⟩
  repeat' ((fail_if_success (with_reducible show Dy.Got (compS _ _ _ _ _) _)); wtm_at "y_dy")
  refine c_mapG (f := I86.d) (g := fun v => .str v.txt) (fun v hv' => ?_) ?_
  · cases v <;> (unfold I86.d; repeat' wtm_at "y_dy") <;> rfl
  refine ⟨vs.map I86.txt, by rw [List.map_map]; rfl, sums, ?_⟩
  rw [show Txt.join nlS (vs.map I86.txt) = Txt.join (Str.ofString "\n") (vs.map I86.txt) from rfl] at rv
  have finS := fin_S vs ([], [], [])
  have finW := fin_W vs ([], [], [])
  have finF := fin_F vs ([], [], [])
  generalize Txt.join (Str.ofString "\n") (vs.map I86.txt) = T at rv
  repeat' ((fail_if_success (with_reducible show Dy.Got (oNotN _ _) _)); wtm_at "y_dy")
  refine g_ot (nnN _) ?_
  cases q : first86 ([], [], []) 0 vs with
  | some k =>
    have rd : (f_read_yard [.str T]).wp (fun _ => False) (fun e => e = .exc "NoRow" ["row"] [.int (k : Int)]) := rv (fun e => by rw [q] at e; cases e) fun k' e => by
      rw [q] at e
      cases e
      rfl
    show HasB (.bl true) _
    show HasB _ fun b => Fork b ((sRet (eBin oEq (eCall f__law_refused (aCons (eVar 3) aNil)) (eVar 2)) [_, _, .val (.int (k : Int)), _, _, _, _, _, _, _]).wp _ _ _) _
    generalize (k : Int) = K at rd ⊢
    repeat' wtm_at "y_dy"
    refine sp_refusedG rd ?_
    repeat' wtm_at "y_dy"
    exact congrArg D.bl (decide_t rfl)
  | none =>
    have rd : ∀ {P : O → Prop} {E : D → Prop}, P (.t (osP (fin86 ([], [], []) vs))) → (f_read_yard [.str T]).wp P E := fun {P E} h => rv (fun _ => h) fun k' e => by
      rw [q] at e
      cases e
    have oD : (O.t (osP (fin86 ([], [], []) vs))).toD = yardD (fin86 ([], [], []) vs).1 (fin86 ([], [], []) vs).2.1 (fin86 ([], [], []) vs).2.2 := osP_D
    generalize fin86 ([], [], []) vs = st at finS finW finF rd oD
    show HasB (.bl false) _
    repeat' wtm_at "y_dy"
    refine wp_callK ?_
    repeat' wtm_at "y_dy"
    refine rd ?_
    rw [oD]
    have finS : st.1.map (fun r => D.int r.1) = (vs.filter isS).map gS := finS
    have finW : st.2.1.map (fun r => D.str r.1) = (vs.filter isW).map gW := finW
    have finF : st.2.2.map (fun r => D.str r.1) = (vs.filter isF).map gF := finF
    have l1 : st.1.length ≤ 130 := by
      have := congrArg List.length finS
      rw [List.length_map, List.length_map] at this
      have := List.length_filter_le isS vs
      omega
    have l2 : st.2.1.length ≤ 130 := by
      have := congrArg List.length finW
      rw [List.length_map, List.length_map] at this
      have := List.length_filter_le isW vs
      omega
    have l3 : st.2.2.length ≤ 130 := by
      have := congrArg List.length finF
      rw [List.length_map, List.length_map] at this
      have := List.length_filter_le isF vs
      omega
    have q1 : Dy.okq 40 (.lst ((vs.filter isS).map gS)) = true := by
      rw [← finS]
      show (st.1.map fun r => D.int r.1).all (Dy.okq 39) = true
      rw [List.all_eq_true]
      intro d hd
      obtain ⟨r, _, rfl⟩ := List.mem_map.mp hd
      rfl
    have qs : ∀ {p : I86 → Bool} {g : I86 → D}, (∀ v ∈ vs, p v = true → Dy.okq 39 (g v) = true) → Dy.okq 40 (.lst ((vs.filter p).map g)) = true := fun {p g} h => by
      show ((vs.filter p).map g).all (Dy.okq 39) = true
      rw [List.all_eq_true]
      intro d hd
      obtain ⟨v, hv', rfl⟩ := List.mem_map.mp hd
      obtain ⟨a1, a2⟩ := List.mem_filter.mp hv'
      exact h v a1 a2
    have q2 := qs (p := isW) (g := gW) fun v hv' hp => by
      cases v with
      | wall w b => exact (okNm_N (hv _ hv').1).1.ok
      | _ => cases hp
    have q3 := qs (p := isF) (g := gF) fun v hv' hp => by
      cases v with
      | dial w b => exact (okNm_N (hv _ hv').1).1.ok
      | _ => cases hp
    have okS : ∀ s ∈ [Str.ofString "sun", Str.ofString "wall", Str.ofString "dial", Str.ofString "none"], PyData.strOk s = true := by decide +kernel
    have k1 : PyData.strOk (Str.ofString "sun") = true := okS _ (by simp)
    have k2 : PyData.strOk (Str.ofString "wall") = true := okS _ (by simp)
    have k3 : PyData.strOk (Str.ofString "dial") = true := okS _ (by simp)
    have k4 : PyData.strOk (Str.ofString "none") = true := okS _ (by simp)
    have d1 : decide (Str.ofString "none" = Str.ofString "sun") = false ∧ decide (Str.ofString "none" = Str.ofString "wall") = false ∧ decide (Str.ofString "none" = Str.ofString "dial") = false := by decide +kernel
    obtain ⟨n1, n2, n3, n4, n5, n6⟩ := ne1
    have kS : ∀ v : I86, ∃ s, oIx v.d (.int 0) = some (.str s) ∧ PyData.strOk s = true ∧ decide (s = Str.ofString "sun") = isS v ∧ decide (s = Str.ofString "wall") = isW v ∧ decide (s = Str.ofString "dial") = isF v := fun v => by
      cases v with
      | none x => exact ⟨_, rfl, k4, d1⟩
      | sun r => exact ⟨_, rfl, k1, decide_t rfl, n1, n2⟩
      | wall w b => exact ⟨_, rfl, k2, n4, decide_t rfl, n3⟩
      | dial w b => exact ⟨_, rfl, k3, n5, n6, decide_t rfl⟩
    have iS : ∀ v : I86, isS v = true → oIx v.d (.int 1) = some (gS v) := fun v h => by
      cases v with
      | sun r => rfl
      | _ => cases h
    have iW : ∀ v : I86, isW v = true → ∃ d, oIx v.d (.int 1) = some d ∧ oIx d (.int 0) = some (gW v) := fun v h => by
      cases v with
      | wall r b => exact ⟨_, rfl, rfl⟩
      | _ => cases h
    have iF : ∀ v : I86, isF v = true → ∃ d, oIx v.d (.int 1) = some d ∧ oIx d (.int 0) = some (gF v) := fun v h => by
      cases v with
      | dial r b => exact ⟨_, rfl, rfl⟩
      | _ => cases h
    obtain ⟨SD, hSD⟩ : ∃ A, D.lst (st.1.map rowD) = A := ⟨_, rfl⟩
    obtain ⟨WD, hWD⟩ : ∃ A, D.lst (st.2.1.map wallD) = A := ⟨_, rfl⟩
    obtain ⟨FD, hFD⟩ : ∃ A, D.lst (st.2.2.map dialD) = A := ⟨_, rfl⟩
    have t1 : iterD SD = some (st.1.map rowD) := by rw [← hSD]; rfl
    have t2 : iterD WD = some (st.2.1.map wallD) := by rw [← hWD]; rfl
    have t3 : iterD FD = some (st.2.2.map dialD) := by rw [← hFD]; rfl
    have f1 : (st.1.map rowD).length ≤ sizeLine := by rw [List.length_map, sizeLine_eq]; omega
    have f2 : (st.2.1.map wallD).length ≤ sizeLine := by rw [List.length_map, sizeLine_eq]; omega
    have f3 : (st.2.2.map dialD).length ≤ sizeLine := by rw [List.length_map, sizeLine_eq]; omega
    rw [show yardD st.1 st.2.1 st.2.2 = .tup [SD, WD, FD] by rw [← hSD, ← hWD, ← hFD]]
    clear hSD hWD hFD
    repeat' ((fail_if_success (with_reducible show Dy.Got (iterD _) _)); wtm_at "y_dy")
    refine g_ot t1 ⟨f1, ?_⟩
    repeat' ((fail_if_success (with_reducible show Dy.Got (compS _ _ _ _ _) _)); wtm_at "y_dy")
    refine c_mapG (f := rowD) (g := fun r => .int r.1) (fun r _ => ?_) ?_
    · repeat' wtm_at "y_dy"
      rfl
    repeat' ((fail_if_success (with_reducible show Dy.Got (iterD _) _)); wtm_at "y_dy")
    refine g_ot itL ⟨fitL, ?_⟩
    repeat' ((fail_if_success (with_reducible show Dy.Got (compS _ _ _ _ _) _)); wtm_at "y_dy")
    refine c_filtG (F := I86.d) (G := gS) (p := isS) (fun v _ => ?_) ?_
    · obtain ⟨s, e1, e2, e3, _, _⟩ := kS v
      have iS := iS v
      generalize v.d = vd at e1 iS
      repeat' ((fail_if_success (with_reducible show Dy.Got (oIx _ _) _)); wtm_at "y_dy")
      refine g_ot e1 ?_
      repeat' ((fail_if_success (with_reducible show Dy.Got (oEq _ _) _)); wtm_at "y_dy")
      refine eqc e2 k1 e3 ⟨_, rfl, rfl, fun hp => ?_⟩
      repeat' ((fail_if_success (with_reducible show Dy.Got (oIx _ _) _)); wtm_at "y_dy")
      exact g_ot (iS hp) rfl
    repeat' ((fail_if_success (with_reducible show Dy.Got (oNe _ _) _)); wtm_at "y_dy")
    refine w_neS (congrArg D.lst finS) (by rw [finS]; exact q1) ?_
    repeat' ((fail_if_success (with_reducible show Dy.Got (iterD _) _)); wtm_at "y_dy")
    refine g_ot t2 ⟨f2, ?_⟩
    repeat' ((fail_if_success (with_reducible show Dy.Got (compS _ _ _ _ _) _)); wtm_at "y_dy")
    refine c_mapG (f := wallD) (g := fun r => .str r.1) (fun r _ => ?_) ?_
    · repeat' wtm_at "y_dy"
      rfl
    repeat' ((fail_if_success (with_reducible show Dy.Got (iterD _) _)); wtm_at "y_dy")
    refine g_ot itL ⟨fitL, ?_⟩
    repeat' ((fail_if_success (with_reducible show Dy.Got (compS _ _ _ _ _) _)); wtm_at "y_dy")
    refine c_filtG (F := I86.d) (G := gW) (p := isW) (fun v _ => ?_) ?_
    · obtain ⟨s, e1, e2, _, e3, _⟩ := kS v
      have iS := iW v
      generalize v.d = vd at e1 iS
      repeat' ((fail_if_success (with_reducible show Dy.Got (oIx _ _) _)); wtm_at "y_dy")
      refine g_ot e1 ?_
      repeat' ((fail_if_success (with_reducible show Dy.Got (oEq _ _) _)); wtm_at "y_dy")
      refine eqc e2 k2 e3 ⟨_, rfl, rfl, fun hp => ?_⟩
      obtain ⟨d, i1, i2⟩ := iS hp
      repeat' ((fail_if_success (with_reducible show Dy.Got (oIx _ _) _)); wtm_at "y_dy")
      refine g_ot i1 ?_
      repeat' ((fail_if_success (with_reducible show Dy.Got (oIx _ _) _)); wtm_at "y_dy")
      exact g_ot i2 rfl
    repeat' ((fail_if_success (with_reducible show Dy.Got (oNe _ _) _)); wtm_at "y_dy")
    refine w_neS (congrArg D.lst finW) (by rw [finW]; exact q2) ?_
    repeat' ((fail_if_success (with_reducible show Dy.Got (iterD _) _)); wtm_at "y_dy")
    refine g_ot t3 ⟨f3, ?_⟩
    repeat' ((fail_if_success (with_reducible show Dy.Got (compS _ _ _ _ _) _)); wtm_at "y_dy")
    refine c_mapG (f := dialD) (g := fun r => .str r.1) (fun r _ => ?_) ?_
    · repeat' wtm_at "y_dy"
      rfl
    repeat' ((fail_if_success (with_reducible show Dy.Got (iterD _) _)); wtm_at "y_dy")
    refine g_ot itL ⟨fitL, ?_⟩
    repeat' ((fail_if_success (with_reducible show Dy.Got (compS _ _ _ _ _) _)); wtm_at "y_dy")
    refine c_filtG (F := I86.d) (G := gF) (p := isF) (fun v _ => ?_) ?_
    · obtain ⟨s, e1, e2, _, _, e3⟩ := kS v
      have iS := iF v
      generalize v.d = vd at e1 iS
      repeat' ((fail_if_success (with_reducible show Dy.Got (oIx _ _) _)); wtm_at "y_dy")
      refine g_ot e1 ?_
      repeat' ((fail_if_success (with_reducible show Dy.Got (oEq _ _) _)); wtm_at "y_dy")
      refine eqc e2 k3 e3 ⟨_, rfl, rfl, fun hp => ?_⟩
      obtain ⟨d, i1, i2⟩ := iS hp
      repeat' ((fail_if_success (with_reducible show Dy.Got (oIx _ _) _)); wtm_at "y_dy")
      refine g_ot i1 ?_
      repeat' ((fail_if_success (with_reducible show Dy.Got (oIx _ _) _)); wtm_at "y_dy")
      exact g_ot i2 rfl
    repeat' ((fail_if_success (with_reducible show Dy.Got (oEq _ _) _)); wtm_at "y_dy")
    refine w_eqS (congrArg D.lst finF) (by rw [finF]; exact q3) ?_
    rfl

end Gn
end
theorem PySem.Challenge.cw_dialyard_k86_rows_that_cannot_stand_holds : PySem.Challenge.rw_dialyard_k86_rows_that_cannot_stand.Holds :=
  Gn.holds_of Gn.law_true
