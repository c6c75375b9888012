import PyProof.Rows.All
import Wide.All
import OpenK.AllK
import Wide.FinOn
import HandS.ForMost
import HandS.ForSpec
import HandS.IsInst
import HandS.Zip
import HandS.Wide
import HandS.Deep
import HandS.Flow
import HandS.Defaults
import HandS.HeadHook2
import HandS.ExcValue
import HandS.ExcInit
import HandS.ExcIs
import HandS.ExcField
import HandS.TryMany
import HandS.TupAny
import HandS.Style
import HandS.Head0
import HandS.Head1
import HandS.Head2
import HandS.HeadEnd
import HandS.Flt
import HandS.ExcOwn
import PyProof.ExcBaseAll.ValueError
import HandS.TryOnly
import PyProof.EqKinds
import PyProof.FactsAll.dict_1
import HandS.FltList
import PyProof.Rows.RuleB_bool
import HandS.EndBits
import PyProof.NeKinds
import HandS.FStr
import HandS.Text
import KE.GoesComp
import KE.GoesRaise
import HandS.SetFor
import KE.DataMinMax
import PyProof.Rows.CallKwBuiltin
import PySem.Challenge.RW_dialyard_k77_whole_lit_by_parts
set_option Elab.async false
set_option linter.all false
set_option maxRecDepth 100000
/-! A layer of plain data over the hand layer: values without addresses, and what the def's pieces make of them. -/
namespace Dy
open PySem PySem.Spec PyProof.Rows L2

abbrev St := L2.St
/-! ### data -/
inductive D where
  | non | bl (b : Bool) | int (i : Int) | str (x : Str) | ty (n : String) | cls (n : Str)
  | tup (xs : List D) | lst (xs : List D)
  | dct (ks : List Key) (xs : List D)
  | exc (c : Str) (fs : List Str) (xs : List D)
  deriving Inhabited

/-- an exception's object, kept -/
def xO (cls : Value) (a : Addr) (dd : Option Addr) : HO := .ext fun h => ∃ (oe : Obj) (vs : Array Value), h.get? a = some oe ∧ Zc cls dd oe ∧ oe.data = .fields vs

mutual
def Rep (K : PySem.W.Frag) (F : Hp) : D → V → Prop
  | .non, v => v = .non
  | .bl b, v => v = .bl b
  | .int i, v => v = .int i
  | .str x, v => v = .str x
  | .ty n, v => v = .ty n
  | .cls n, v => v = .ref (He.ga K n)
  | .tup xs, v => ∃ a vs, v = .ref a ∧ SqT K F a vs ∧ RepL K F xs vs
  | .lst xs, v => ∃ a vs, v = .ref a ∧ SqL K F a vs ∧ RepL K F xs vs
  | .dct ks xs, v => ∃ a vs, v = .ref a ∧ Rd F a (.dK (ks.zip vs)) ∧ ks.length = vs.length ∧ RepL K F xs vs
  | .exc c fs xs, v => ∃ a dd vs, v = .ref a ∧ F a = some (xO (.ref (He.ga K c)) a dd) ∧ fs.length = vs.length ∧ RepL K F xs vs ∧
      (match dd with | none => fs = [] | some d => F d = some (.xd (fs.zip vs)))
def RepL (K : PySem.W.Frag) (F : Hp) : List D → List V → Prop
  | [], vs => vs = []
  | d :: ds, vs => ∃ v r, vs = v :: r ∧ Rep K F d v ∧ RepL K F ds r
end

section
variable {K : PySem.W.Frag} {F F' H H' : Hp}
theorem Same.seqT {a : Addr} {xs : List V} (e : Same H H') (h : SqT K H a xs) : SqT K H' a xs := by
  rcases h with (h | ⟨o, h⟩) | h
  · exact .inl (.inl (e _ _ h))
  · exact .inl (.inr ⟨o, e _ _ h⟩)
  · exact .inr h
theorem Same.rd {a : Addr} {u : HO} (e : Same H H') (h : Rd H a u) : Rd H' a u := by
  rcases h with h | ⟨o, h⟩
  · exact .inl (e _ _ h)
  · exact .inr ⟨o, e _ _ h⟩
mutual
theorem Rep.mono (e : Same F F') : ∀ (d : D) (v : V), Rep K F d v → Rep K F' d v
  | .non, v, h => by simpa [Rep] using h
  | .bl b, v, h => by simpa [Rep] using h
  | .int i, v, h => by simpa [Rep] using h
  | .str x, v, h => by simpa [Rep] using h
  | .ty n, v, h => by simpa [Rep] using h
  | .cls n, v, h => by simpa [Rep] using h
  | .tup xs, v, h => by
    simp only [Rep] at h ⊢
    obtain ⟨a, vs, h1, h2, h3⟩ := h
    exact ⟨a, vs, h1, Same.seqT e h2, RepL.mono e xs vs h3⟩
  | .lst xs, v, h => by
    simp only [Rep] at h ⊢
    obtain ⟨a, vs, h1, h2, h3⟩ := h
    exact ⟨a, vs, h1, Same.seq e h2, RepL.mono e xs vs h3⟩
  | .dct ks xs, v, h => by
    simp only [Rep] at h ⊢
    obtain ⟨a, vs, h1, h2, h3, h4⟩ := h
    exact ⟨a, vs, h1, Same.rd e h2, h3, RepL.mono e xs vs h4⟩
  | .exc c fs xs, v, h => by
    simp only [Rep] at h ⊢
    obtain ⟨a, dd, vs, h1, h2, h3, h4, h5⟩ := h
    refine ⟨a, dd, vs, h1, e _ _ h2, h3, RepL.mono e xs vs h4, ?_⟩
    cases dd with
    | none => exact h5
    | some d => exact e _ _ h5
theorem RepL.mono (e : Same F F') : ∀ (ds : List D) (vs : List V), RepL K F ds vs → RepL K F' ds vs
  | [], vs, h => by simpa [RepL] using h
  | d :: ds, vs, h => by
    simp only [RepL] at h ⊢
    obtain ⟨v, r, h1, h2, h3⟩ := h
    exact ⟨v, r, h1, Rep.mono e d v h2, RepL.mono e ds r h3⟩
end
theorem RepL.length : ∀ {ds : List D} {vs : List V}, RepL K F ds vs → ds.length = vs.length
  | [], vs, h => by simp only [RepL] at h; subst h; rfl
  | d :: ds, vs, h => by
    simp only [RepL] at h
    obtain ⟨v, r, rfl, _, h3⟩ := h
    simp [RepL.length h3]
theorem RepL.get : ∀ {ds : List D} {vs : List V} {i : Nat} {d : D}, RepL K F ds vs → ds[i]? = some d → ∃ v, vs[i]? = some v ∧ Rep K F d v
  | [], vs, i, d, h, e => by simp at e
  | d0 :: ds, vs, 0, d, h, e => by
    simp only [RepL] at h
    obtain ⟨v, r, rfl, h2, _⟩ := h
    simp at e
    subst e
    exact ⟨v, rfl, h2⟩
  | d0 :: ds, vs, i + 1, d, h, e => by
    simp only [RepL] at h
    obtain ⟨v, r, rfl, _, h3⟩ := h
    simp only [List.getElem?_cons_succ] at e ⊢
    exact RepL.get h3 e
theorem RepL.get' {ds : List D} {vs : List V} {i : Nat} {v : V} (h : RepL K F ds vs) (e : vs[i]? = some v) : ∃ d, ds[i]? = some d ∧ Rep K F d v := by
  obtain ⟨hi, _⟩ := List.getElem?_eq_some_iff.mp e
  have hi2 : i < ds.length := by rw [h.length]; exact hi
  obtain ⟨v', e', r⟩ := h.get (List.getElem?_eq_getElem hi2)
  rw [e] at e'
  cases e'
  exact ⟨_, List.getElem?_eq_getElem hi2, r⟩
theorem RepL.nil : RepL K F [] [] := by simp [RepL]
theorem RepL.cons {d : D} {v : V} {ds : List D} {vs : List V} (h : Rep K F d v) (t : RepL K F ds vs) : RepL K F (d :: ds) (v :: vs) := by
  simp only [RepL]; exact ⟨v, vs, rfl, h, t⟩
theorem RepL.append : ∀ {ds es : List D} {vs ws : List V}, RepL K F ds vs → RepL K F es ws → RepL K F (ds ++ es) (vs ++ ws)
  | [], es, vs, ws, h, t => by simp only [RepL] at h; subst h; simpa using t
  | d :: ds, es, vs, ws, h, t => by
    simp only [RepL] at h
    obtain ⟨v, r, rfl, h2, h3⟩ := h
    exact RepL.cons h2 (RepL.append h3 t)
theorem RepL.drop : ∀ {ds : List D} {vs : List V} (n : Nat), RepL K F ds vs → RepL K F (ds.drop n) (vs.drop n)
  | ds, vs, 0, h => by simpa using h
  | [], vs, n + 1, h => by simp only [RepL] at h; subst h; simpa using RepL.nil
  | d :: ds, vs, n + 1, h => by
    simp only [RepL] at h
    obtain ⟨v, r, rfl, _, h3⟩ := h
    simpa using RepL.drop n h3
theorem RepL.take : ∀ {ds : List D} {vs : List V} (n : Nat), RepL K F ds vs → RepL K F (ds.take n) (vs.take n)
  | ds, vs, 0, h => by simpa using RepL.nil
  | [], vs, n + 1, h => by simp only [RepL] at h; subst h; simpa using RepL.nil
  | d :: ds, vs, n + 1, h => by
    simp only [RepL] at h
    obtain ⟨v, r, rfl, h2, h3⟩ := h
    simpa using RepL.cons h2 (RepL.take n h3)
theorem RepL.reverse : ∀ {ds : List D} {vs : List V}, RepL K F ds vs → RepL K F ds.reverse vs.reverse
  | [], vs, h => by simp only [RepL] at h; subst h; simpa using RepL.nil
  | d :: ds, vs, h => by
    simp only [RepL] at h
    obtain ⟨v, r, rfl, h2, h3⟩ := h
    simpa using RepL.append (RepL.reverse h3) (RepL.cons h2 RepL.nil)
theorem RepL.set {d : D} {v : V} (h : Rep K F d v) : ∀ {ds : List D} {vs : List V} (i : Nat), RepL K F ds vs → RepL K F (ds.set i d) (vs.set i v)
  | [], vs, i, t => by simp only [RepL] at t; subst t; simpa using RepL.nil
  | e :: ds, vs, 0, t => by
    simp only [RepL] at t
    obtain ⟨w, r, rfl, _, h3⟩ := t
    exact RepL.cons h h3
  | e :: ds, vs, i + 1, t => by
    simp only [RepL] at t
    obtain ⟨w, r, rfl, h2, h3⟩ := t
    exact RepL.cons h2 (RepL.set h i h3)
theorem RepL.snoc {ds : List D} {vs : List V} {d : D} {v : V} (h : RepL K F ds vs) (t : Rep K F d v) : RepL K F (ds ++ [d]) (vs ++ [v]) := h.append (RepL.cons t RepL.nil)

theorem Rep.int_inv {i : Int} {v : V} (h : Rep K F (.int i) v) : v = .int i := by simpa [Rep] using h
theorem Rep.bl_inv {i : Bool} {v : V} (h : Rep K F (.bl i) v) : v = .bl i := by simpa [Rep] using h
theorem Rep.str_inv {i : Str} {v : V} (h : Rep K F (.str i) v) : v = .str i := by simpa [Rep] using h
theorem Rep.non_inv {v : V} (h : Rep K F .non v) : v = .non := by simpa [Rep] using h
theorem Rep.mk_int {i : Int} : Rep K F (.int i) (.int i) := by simp [Rep]
theorem Rep.mk_bl {i : Bool} : Rep K F (.bl i) (.bl i) := by simp [Rep]
theorem Rep.mk_str {i : Str} : Rep K F (.str i) (.str i) := by simp [Rep]
theorem Rep.mk_non : Rep K F .non .non := by simp [Rep]
theorem Rep.mk_ty {n : String} : Rep K F (.ty n) (.ty n) := by simp [Rep]
theorem Rep.tup_inv {xs : List D} {v : V} (h : Rep K F (.tup xs) v) : ∃ a vs, v = .ref a ∧ SqT K F a vs ∧ RepL K F xs vs := by simpa [Rep] using h
theorem Rep.lst_inv {xs : List D} {v : V} (h : Rep K F (.lst xs) v) : ∃ a vs, v = .ref a ∧ SqL K F a vs ∧ RepL K F xs vs := by simpa [Rep] using h
theorem Rep.mk_tup {xs : List D} {a : Addr} {vs : List V} (h : SqT K F a vs) (t : RepL K F xs vs) : Rep K F (.tup xs) (.ref a) := by
  simp only [Rep]; exact ⟨a, vs, rfl, h, t⟩
theorem Rep.mk_lst {xs : List D} {a : Addr} {vs : List V} (h : SqL K F a vs) (t : RepL K F xs vs) : Rep K F (.lst xs) (.ref a) := by
  simp only [Rep]; exact ⟨a, vs, rfl, h, t⟩
end

/-! ### how the heap grows -/
structure Ext (F H F' H' : Hp) : Prop where
  f : Same F F'
  h : Same H H'
  s : Same F' H'
  n : ∀ a o, F' a = some o → F a = none → H a = none
section
variable {F H F' H' F'' H'' : Hp}
theorem Ext.refl (e : Same F H) : Ext F H F H := ⟨.refl _, .refl _, e, fun a o h1 h2 => by rw [h2] at h1; cases h1⟩
theorem Ext.trans (a : Ext F H F' H') (b : Ext F' H' F'' H'') : Ext F H F'' H'' := by
  refine ⟨a.f.trans b.f, a.h.trans b.h, b.s, fun c o h1 h2 => ?_⟩
  cases q : F' c with
  | none => exact a.h.free (b.n c o h1 q)
  | some u => exact a.n c u q h2
theorem same_upd {p : Addr} {o : HO} (h : H p = none) : Same H (upd H p o) := fun b x e => by
  rw [upd_ne (ne_of_none e h)]
  exact e
/-- a new object, kept -/
theorem Ext.new {p : Addr} {o : HO} (e : Same F H) (h : H p = none) : Ext F H (upd F p o) (upd H p o) := by
  have hf : F p = none := e.free h
  refine ⟨same_upd hf, same_upd h, fun b x q => ?_, fun b x q r => ?_⟩
  · by_cases hb : b = p
    · subst hb; rw [upd_same] at q ⊢; exact q
    · rw [upd_ne hb] at q ⊢; exact e _ _ q
  · by_cases hb : b = p
    · subst hb; exact h
    · rw [upd_ne hb, r] at q; cases q
/-- a new object, not kept -/
theorem Ext.newH {p : Addr} {o : HO} (e : Same F H) (h : H p = none) : Ext F H F (upd H p o) :=
  ⟨.refl _, same_upd h, e.trans (same_upd h), fun b x q r => by rw [r] at q; cases q⟩
end

/-! ### things of one's own: lists that nothing else knows, and tuples with such in them -/
inductive O where
  | v (d : D) | l (os : List O) | t (os : List O) | m (ks : List Key) (os : List O)
  deriving Inhabited
mutual
def O.toD : O → D
  | .v d => d
  | .l os => .lst (O.toDs os)
  | .t os => .tup (O.toDs os)
  | .m ks os => .dct ks (O.toDs os)
def O.toDs : List O → List D
  | [] => []
  | o :: os => O.toD o :: O.toDs os
end
mutual
def OwR (K : PySem.W.Frag) (F H : Hp) : O → V → List Addr → Prop
  | .v d, v, fp => Rep K F d v ∧ fp = []
  | .l os, v, fp => ∃ a vs fq, v = .ref a ∧ H a = some (.lst vs) ∧ fp = a :: fq ∧ OwRs K F H os vs fq
  | .t os, v, fp => ∃ a vs, v = .ref a ∧ F a = some (.tup vs) ∧ OwRs K F H os vs fp
  | .m ks os, v, fp => ∃ a vs fq, v = .ref a ∧ H a = some (.dK (ks.zip vs)) ∧ ks.length = vs.length ∧ fp = a :: fq ∧ OwRs K F H os vs fq
def OwRs (K : PySem.W.Frag) (F H : Hp) : List O → List V → List Addr → Prop
  | [], vs, fp => vs = [] ∧ fp = []
  | o :: os, vs, fp => ∃ v r f1 f2, vs = v :: r ∧ fp = f1 ++ f2 ∧ OwR K F H o v f1 ∧ OwRs K F H os r f2
end
section
variable {K : PySem.W.Frag} {F F' H H' : Hp}
mutual
theorem OwR.move (s : Same F F') : ∀ (o : O) (v : V) (fp : List Addr), OwR K F H o v fp → (∀ b ∈ fp, H' b = H b) → OwR K F' H' o v fp
  | .v d, v, fp, h, _ => by
    simp only [OwR] at h ⊢
    exact ⟨Rep.mono s _ _ h.1, h.2⟩
  | .l os, v, fp, h, k => by
    simp only [OwR] at h ⊢
    obtain ⟨a, vs, fq, h1, h2, h3, h4⟩ := h
    subst h3
    exact ⟨a, vs, fq, h1, by rw [k a List.mem_cons_self]; exact h2, rfl, OwRs.move s os vs fq h4 fun b hb => k b (List.mem_cons_of_mem _ hb)⟩
  | .t os, v, fp, h, k => by
    simp only [OwR] at h ⊢
    obtain ⟨a, vs, h1, h2, h4⟩ := h
    exact ⟨a, vs, h1, s _ _ h2, OwRs.move s os vs fp h4 k⟩
  | .m ks os, v, fp, h, k => by
    simp only [OwR] at h ⊢
    obtain ⟨a, vs, fq, h1, h2, h5, h3, h4⟩ := h
    subst h3
    exact ⟨a, vs, fq, h1, by rw [k a List.mem_cons_self]; exact h2, h5, rfl, OwRs.move s os vs fq h4 fun b hb => k b (List.mem_cons_of_mem _ hb)⟩
theorem OwRs.move (s : Same F F') : ∀ (os : List O) (vs : List V) (fp : List Addr), OwRs K F H os vs fp → (∀ b ∈ fp, H' b = H b) → OwRs K F' H' os vs fp
  | [], vs, fp, h, _ => by simpa only [OwRs] using h
  | o :: os, vs, fp, h, k => by
    simp only [OwRs] at h ⊢
    obtain ⟨v, r, f1, f2, h1, h2, h3, h4⟩ := h
    subst h2
    exact ⟨v, r, f1, f2, h1, rfl, OwR.move s o v f1 h3 fun b hb => k b (List.mem_append_left _ hb), OwRs.move s os r f2 h4 fun b hb => k b (List.mem_append_right _ hb)⟩
end
theorem zip_inj {κ : Type} : ∀ {ks : List κ} {vs ws : List V}, ks.length = vs.length → ks.length = ws.length → ks.zip vs = ks.zip ws → vs = ws
  | [], [], [], _, _, _ => rfl
  | [], _ :: _, _, h, _, _ => nomatch h
  | [], [], _ :: _, _, h, _ => nomatch h
  | _ :: _, [], _, h, _, _ => nomatch h
  | _ :: _, _ :: _, [], _, h, _ => nomatch h
  | k :: ks, v :: vs, w :: ws, h1, h2, h3 => by
    rw [List.zip_cons_cons, List.zip_cons_cons, List.cons.injEq, Prod.mk.injEq] at h3
    rw [h3.1.2, zip_inj (by simpa using h1) (by simpa using h2) h3.2]
mutual
theorem OwR.uniq : ∀ (o : O) (v : V) (fp fp' : List Addr), OwR K F H o v fp → OwR K F H o v fp' → fp = fp'
  | .v d, v, fp, fp', h, h' => by
    simp only [OwR] at h h'
    rw [h.2, h'.2]
  | .l os, v, fp, fp', h, h' => by
    simp only [OwR] at h h'
    obtain ⟨a, vs, fq, h1, h2, h3, h4⟩ := h
    obtain ⟨a', vs', fq', h1', h2', h3', h4'⟩ := h'
    rw [h1] at h1'
    cases h1'
    rw [h2] at h2'
    cases h2'
    rw [h3, h3', OwRs.uniq os vs fq fq' h4 h4']
  | .t os, v, fp, fp', h, h' => by
    simp only [OwR] at h h'
    obtain ⟨a, vs, h1, h2, h4⟩ := h
    obtain ⟨a', vs', h1', h2', h4'⟩ := h'
    rw [h1] at h1'
    cases h1'
    rw [h2] at h2'
    cases h2'
    exact OwRs.uniq os vs fp fp' h4 h4'
  | .m ks os, v, fp, fp', h, h' => by
    simp only [OwR] at h h'
    obtain ⟨a, vs, fq, h1, h2, h5, h3, h4⟩ := h
    obtain ⟨a', vs', fq', h1', h2', h5', h3', h4'⟩ := h'
    rw [h1] at h1'
    cases h1'
    rw [h2] at h2'
    have e : vs = vs' := zip_inj h5 h5' (by injection h2' with q; injection q)
    subst e
    rw [h3, h3', OwRs.uniq os vs fq fq' h4 h4']
theorem OwRs.uniq : ∀ (os : List O) (vs : List V) (fp fp' : List Addr), OwRs K F H os vs fp → OwRs K F H os vs fp' → fp = fp'
  | [], vs, fp, fp', h, h' => by
    simp only [OwRs] at h h'
    rw [h.2, h'.2]
  | o :: os, vs, fp, fp', h, h' => by
    simp only [OwRs] at h h'
    obtain ⟨v, r, f1, f2, h1, h2, h3, h4⟩ := h
    obtain ⟨v', r', f1', f2', h1', h2', h3', h4'⟩ := h'
    rw [h1] at h1'
    cases h1'
    rw [h2, h2', OwR.uniq o v f1 f1' h3 h3', OwRs.uniq os r f2 f2' h4 h4']
end
mutual
theorem OwR.inHL : ∀ (o : O) (v : V) (fp : List Addr), OwR K F H o v fp → ∀ a ∈ fp, (∃ vs, H a = some (.lst vs)) ∨ ∃ z, H a = some (.dK z)
  | .v d, v, fp, h, a, ha => by
    simp only [OwR] at h
    rw [h.2] at ha
    cases ha
  | .l os, v, fp, h, a, ha => by
    simp only [OwR] at h
    obtain ⟨a', vs, fq, h1, h2, h3, h4⟩ := h
    subst h3
    rcases List.mem_cons.mp ha with rfl | ha
    · exact .inl ⟨_, h2⟩
    · exact OwRs.inHL os vs fq h4 a ha
  | .m ks os, v, fp, h, a, ha => by
    simp only [OwR] at h
    obtain ⟨a', vs, fq, h1, h2, h5, h3, h4⟩ := h
    subst h3
    rcases List.mem_cons.mp ha with rfl | ha
    · exact .inr ⟨_, h2⟩
    · exact OwRs.inHL os vs fq h4 a ha
  | .t os, v, fp, h, a, ha => by
    simp only [OwR] at h
    obtain ⟨a', vs, h1, h2, h4⟩ := h
    exact OwRs.inHL os vs fp h4 a ha
theorem OwRs.inHL : ∀ (os : List O) (vs : List V) (fp : List Addr), OwRs K F H os vs fp → ∀ a ∈ fp, (∃ vs, H a = some (.lst vs)) ∨ ∃ z, H a = some (.dK z)
  | [], vs, fp, h, a, ha => by
    simp only [OwRs] at h
    rw [h.2] at ha
    cases ha
  | o :: os, vs, fp, h, a, ha => by
    simp only [OwRs] at h
    obtain ⟨v, r, f1, f2, h1, h2, h3, h4⟩ := h
    subst h2
    rcases List.mem_append.mp ha with ha | ha
    · exact OwR.inHL o v f1 h3 a ha
    · exact OwRs.inHL os r f2 h4 a ha
end
theorem OwR.inH (o : O) (v : V) (fp : List Addr) (h : OwR K F H o v fp) (a : Addr) (ha : a ∈ fp) : ∃ u, H a = some u := by
  rcases OwR.inHL o v fp h a ha with ⟨_, e⟩ | ⟨_, e⟩
  · exact ⟨_, e⟩
  · exact ⟨_, e⟩
theorem OwRs.inH (os : List O) (vs : List V) (fp : List Addr) (h : OwRs K F H os vs fp) (a : Addr) (ha : a ∈ fp) : ∃ u, H a = some u := by
  rcases OwRs.inHL os vs fp h a ha with ⟨_, e⟩ | ⟨_, e⟩
  · exact ⟨_, e⟩
  · exact ⟨_, e⟩
/-- an object of a class, its fields, what they hold -/
def ObR (K : PySem.W.Frag) (F H : Hp) (c : Str) (ks : List Str) (os : List O) (v : V) (fp : List Addr) : Prop :=
  ∃ a dx vs fq, v = .ref a ∧ H a = some (.ins (He.ga K c) dx (ks.zip vs)) ∧ H dx = some (.own a) ∧ ks.length = vs.length ∧ fp = a :: dx :: fq ∧ OwRs K F H os vs fq
theorem ObR.move {c : Str} {ks : List Str} {os : List O} {v : V} {fp : List Addr} (s : Same F F') (h : ObR K F H c ks os v fp) (k : ∀ b ∈ fp, H' b = H b) : ObR K F' H' c ks os v fp := by
  obtain ⟨a, dx, vs, fq, h1, h2, h3, h4, rfl, h6⟩ := h
  exact ⟨a, dx, vs, fq, h1, by rw [k a List.mem_cons_self]; exact h2, by rw [k dx (List.mem_cons_of_mem _ List.mem_cons_self)]; exact h3, h4, rfl, OwRs.move s os vs fq h6 fun b hb => k b (List.mem_cons_of_mem _ (List.mem_cons_of_mem _ hb))⟩
theorem ObR.uniq {c : Str} {ks : List Str} {os : List O} {v : V} {fp fp' : List Addr} (h : ObR K F H c ks os v fp) (h' : ObR K F H c ks os v fp') : fp = fp' := by
  obtain ⟨a, dx, vs, fq, h1, h2, h3, h4, rfl, h6⟩ := h
  obtain ⟨a', dx', vs', fq', h1', h2', h3', h4', rfl, h6'⟩ := h'
  rw [h1] at h1'
  cases h1'
  rw [h2] at h2'
  injection h2' with q
  injection q with q1 q2 q3
  subst q2
  have e : vs = vs' := zip_inj h4 h4' q3
  subst e
  rw [OwRs.uniq os vs fq fq' h6 h6']
theorem ObR.inH {c : Str} {ks : List Str} {os : List O} {v : V} {fp : List Addr} (h : ObR K F H c ks os v fp) (b : Addr) (hb : b ∈ fp) : ∃ u, H b = some u := by
  obtain ⟨a, dx, vs, fq, h1, h2, h3, h4, rfl, h6⟩ := h
  rcases List.mem_cons.mp hb with rfl | hb
  · exact ⟨_, h2⟩
  · rcases List.mem_cons.mp hb with rfl | hb
    · exact ⟨_, h3⟩
    · exact OwRs.inH os vs fq h6 b hb
open Classical in
/-- the heap of kept things with more kept from another one -/
noncomputable def addF (F H : Hp) (fp : List Addr) : Hp := fun a => if a ∈ fp then H a else F a
theorem addF_in {a : Addr} {fp : List Addr} (h : a ∈ fp) : addF F H fp a = H a := by
  unfold addF
  rw [if_pos h]
theorem addF_out {a : Addr} {fp : List Addr} (h : a ∉ fp) : addF F H fp a = F a := by
  unfold addF
  rw [if_neg h]
theorem addF_same {fp : List Addr} (h : ∀ a ∈ fp, F a = none) : Same F (addF F H fp) := fun a o e => by
  by_cases q : a ∈ fp
  · rw [h a q] at e; cases e
  · rw [addF_out q]; exact e
theorem addF_H {fp : List Addr} (s : Same F H) : Same (addF F H fp) H := fun a o e => by
  by_cases q : a ∈ fp
  · rw [addF_in q] at e; exact e
  · rw [addF_out q] at e; exact s _ _ e
mutual
/-- all of one's own is kept from here on -/
theorem OwR.frz (s : Same F F') : ∀ (o : O) (v : V) (fp : List Addr), OwR K F H o v fp → (∀ a ∈ fp, F' a = H a) → Rep K F' o.toD v
  | .v d, v, fp, h, _ => by
    simp only [OwR] at h
    simp only [O.toD]
    exact Rep.mono s _ _ h.1
  | .l os, v, fp, h, k => by
    simp only [OwR] at h
    simp only [O.toD]
    obtain ⟨a, vs, fq, h1, h2, h3, h4⟩ := h
    subst h3
    subst h1
    exact Rep.mk_lst (.of (by rw [k a List.mem_cons_self]; exact h2)) (OwRs.frz s os vs fq h4 fun b hb => k b (List.mem_cons_of_mem _ hb))
  | .t os, v, fp, h, k => by
    simp only [OwR] at h
    simp only [O.toD]
    obtain ⟨a, vs, h1, h2, h4⟩ := h
    subst h1
    exact Rep.mk_tup (.of (s _ _ h2)) (OwRs.frz s os vs fp h4 k)
  | .m ks os, v, fp, h, k => by
    simp only [OwR] at h
    simp only [O.toD]
    obtain ⟨a, vs, fq, h1, h2, h5, h3, h4⟩ := h
    subst h3
    subst h1
    simp only [Rep]
    exact ⟨a, vs, rfl, .inl (by rw [k a List.mem_cons_self]; exact h2), h5, OwRs.frz s os vs fq h4 fun b hb => k b (List.mem_cons_of_mem _ hb)⟩
theorem OwRs.frz (s : Same F F') : ∀ (os : List O) (vs : List V) (fp : List Addr), OwRs K F H os vs fp → (∀ a ∈ fp, F' a = H a) → RepL K F' (O.toDs os) vs
  | [], vs, fp, h, _ => by
    simp only [OwRs] at h
    simp only [O.toDs, RepL]
    exact h.1
  | o :: os, vs, fp, h, k => by
    simp only [OwRs] at h
    simp only [O.toDs]
    obtain ⟨v, r, f1, f2, h1, h2, h3, h4⟩ := h
    subst h2
    subst h1
    exact RepL.cons (OwR.frz s o v f1 h3 fun b hb => k b (List.mem_append_left _ hb)) (OwRs.frz s os r f2 h4 fun b hb => k b (List.mem_append_right _ hb))
end
end

/-! ### slots -/
inductive Sl where
  | un | val (d : D) | own (ds : List D) | ownD (ks : List Key) (ds : List D) | tree (o : O) | pin (w : V) (o : O) | obj (w : Option V) (c : Str) (ks : List Str) (os : List O) | fob (c : Str) (ks : List Str) (ds : List D)
instance : Inhabited Sl := ⟨.un⟩
abbrev REnv := List Sl

def SlOk (K : PySem.W.Frag) (G F H : Hp) : Sl → Option V → Prop
  | .un, _ => True
  | .val d, x => ∃ v, x = some v ∧ Rep K F d v
  | .own ds, x => ∃ a vs, x = some (.ref a) ∧ H a = some (.lst vs) ∧ RepL K F ds vs ∧ F a = none ∧ G a = none
  | .ownD ks ds, x => ∃ a vs, x = some (.ref a) ∧ H a = some (.dK (ks.zip vs)) ∧ ks.length = vs.length ∧ RepL K F ds vs ∧ F a = none ∧ G a = none
  | .tree o, x => ∃ v fp, x = some v ∧ OwR K F H o v fp ∧ fp.Nodup ∧ ∀ a ∈ fp, F a = none ∧ G a = none
  | .pin w o, x => x = some w ∧ ∃ v fp, x = some v ∧ OwR K F H o v fp ∧ fp.Nodup ∧ ∀ a ∈ fp, F a = none ∧ G a = none
  | .obj w c ks os, x => (∀ u, w = some u → x = some u) ∧ ∃ v fp, x = some v ∧ ObR K F H c ks os v fp ∧ fp.Nodup ∧ ∀ a ∈ fp, F a = none ∧ G a = none
  | .fob c ks ds, x => ∃ a dx vs, x = some (.ref a) ∧ F a = some (.ins (He.ga K c) dx (ks.zip vs)) ∧ ks.length = vs.length ∧ RepL K F ds vs
/-- what a slot has of its own -/
def Owned (K : PySem.W.Frag) (F H : Hp) : Sl → Option V → Addr → Prop
  | .own _, x, a => x = some (.ref a)
  | .ownD _ _, x, a => x = some (.ref a)
  | .tree o, x, a => ∃ v fp, x = some v ∧ OwR K F H o v fp ∧ a ∈ fp
  | .pin _ o, x, a => ∃ v fp, x = some v ∧ OwR K F H o v fp ∧ a ∈ fp
  | .obj _ c ks os, x, a => ∃ v fp, x = some v ∧ ObR K F H c ks os v fp ∧ a ∈ fp
  | _, _, _ => False

structure RepE (K : PySem.W.Frag) (G F H : Hp) (σ : St) (ρ : REnv) : Prop where
  g : Same G H
  f : Same F H
  len : ρ.length = σ.length
  at_ : ∀ (i : Nat) (s : Sl) (x : Option V), ρ[i]? = some s → σ[i]? = some x → SlOk K G F H s x
  ap : ∀ (i j : Nat) (s t : Sl) (x y : Option V) (a : Addr), i ≠ j → ρ[i]? = some s → ρ[j]? = some t → σ[i]? = some x → σ[j]? = some y → Owned K F H s x a → Owned K F H t y a → False

/-- new kept objects are younger than G -/
def NewG (G F F' : Hp) : Prop := ∀ a o, F' a = some o → F a = none → G a = none

section
variable {K : PySem.W.Frag} {G F H F' H' : Hp} {σ : St} {ρ : REnv}
theorem NewG.refl : NewG G F F := fun a o h1 h2 => by rw [h2] at h1; cases h1
theorem NewG.trans {F'' : Hp} (a : NewG G F F') (b : NewG G F' F'') : NewG G F F'' := fun c o h1 h2 => by
  cases q : F' c with
  | none => exact b c o h1 q
  | some u => exact a c u q h2
theorem Ext.newG (e : Ext F H F' H') (g : Same G H) : NewG G F F' := fun a o h1 h2 => g.free (e.n a o h1 h2)
/-- what is one's own is known, and not kept -/
theorem SlOk.own {s : Sl} {x : Option V} (h : SlOk K G F H s x) {a : Addr} (o : Owned K F H s x a) : (∃ u, H a = some u) ∧ F a = none ∧ G a = none := by
  cases s with
  | un => exact o.elim
  | val d => exact o.elim
  | own ds =>
    obtain ⟨b, vs, e1, e2, e3, e4, e5⟩ := h
    have o : x = some (.ref a) := o
    rw [e1] at o
    cases o
    exact ⟨⟨_, e2⟩, e4, e5⟩
  | ownD ks ds =>
    obtain ⟨b, vs, e1, e2, e3, e6, e4, e5⟩ := h
    have o : x = some (.ref a) := o
    rw [e1] at o
    cases o
    exact ⟨⟨_, e2⟩, e4, e5⟩
  | tree q =>
    obtain ⟨v, fp, e1, e2, e3, e4⟩ := h
    obtain ⟨v', fp', e1', e2', e3'⟩ := o
    rw [e1] at e1'
    cases e1'
    rw [OwR.uniq q v fp' fp e2' e2] at e3'
    obtain ⟨vs, hv⟩ := OwR.inH q v fp e2 a e3'
    exact ⟨⟨_, hv⟩, e4 a e3'⟩
  | pin w q =>
    obtain ⟨_, v, fp, e1, e2, e3, e4⟩ := h
    obtain ⟨v', fp', e1', e2', e3'⟩ := o
    rw [e1] at e1'
    cases e1'
    rw [OwR.uniq q v fp' fp e2' e2] at e3'
    obtain ⟨vs, hv⟩ := OwR.inH q v fp e2 a e3'
    exact ⟨⟨_, hv⟩, e4 a e3'⟩
  | obj w c ks os =>
    obtain ⟨_, v, fp, e1, e2, e3, e4⟩ := h
    obtain ⟨v', fp', e1', e2', e3'⟩ := o
    rw [e1] at e1'
    cases e1'
    rw [ObR.uniq e2' e2] at e3'
    obtain ⟨vs, hv⟩ := ObR.inH e2 a e3'
    exact ⟨⟨_, hv⟩, e4 a e3'⟩
  | fob c ks ds => exact o.elim
theorem SlOk.move {s : Sl} {x : Option V} (h : SlOk K G F H s x) (m : Same F F') (k : ∀ b, Owned K F H s x b → H' b = H b ∧ F' b = none) : SlOk K G F' H' s x ∧ ∀ a, Owned K F' H' s x a → Owned K F H s x a := by
  cases s with
  | un => exact ⟨trivial, fun a o => o.elim⟩
  | val d =>
    obtain ⟨v, e1, e2⟩ := h
    exact ⟨⟨v, e1, Rep.mono m _ _ e2⟩, fun a o => o.elim⟩
  | own ds =>
    obtain ⟨a, vs, e1, e2, e3, e4, e5⟩ := h
    obtain ⟨k1, k2⟩ := k a e1
    exact ⟨⟨a, vs, e1, by rw [k1]; exact e2, RepL.mono m _ _ e3, k2, e5⟩, fun a o => o⟩
  | ownD ks ds =>
    obtain ⟨a, vs, e1, e2, e3, e6, e4, e5⟩ := h
    obtain ⟨k1, k2⟩ := k a e1
    exact ⟨⟨a, vs, e1, by rw [k1]; exact e2, e3, RepL.mono m _ _ e6, k2, e5⟩, fun a o => o⟩
  | tree q =>
    obtain ⟨v, fp, e1, e2, e3, e4⟩ := h
    have kk : ∀ b ∈ fp, H' b = H b ∧ F' b = none := fun b hb => k b ⟨v, fp, e1, e2, hb⟩
    have e2' := OwR.move m q v fp e2 fun b hb => (kk b hb).1
    refine ⟨⟨v, fp, e1, e2', e3, fun b hb => ⟨(kk b hb).2, (e4 b hb).2⟩⟩, fun a o => ?_⟩
    obtain ⟨v', fp', o1, o2, o3⟩ := o
    rw [e1] at o1
    cases o1
    rw [OwR.uniq q v fp' fp o2 e2'] at o3
    exact ⟨v, fp, e1, e2, o3⟩
  | pin w q =>
    obtain ⟨e0, v, fp, e1, e2, e3, e4⟩ := h
    have kk : ∀ b ∈ fp, H' b = H b ∧ F' b = none := fun b hb => k b ⟨v, fp, e1, e2, hb⟩
    have e2' := OwR.move m q v fp e2 fun b hb => (kk b hb).1
    refine ⟨⟨e0, v, fp, e1, e2', e3, fun b hb => ⟨(kk b hb).2, (e4 b hb).2⟩⟩, fun a o => ?_⟩
    obtain ⟨v', fp', o1, o2, o3⟩ := o
    rw [e1] at o1
    cases o1
    rw [OwR.uniq q v fp' fp o2 e2'] at o3
    exact ⟨v, fp, e1, e2, o3⟩
  | obj w c ks os =>
    obtain ⟨e0, v, fp, e1, e2, e3, e4⟩ := h
    have kk : ∀ b ∈ fp, H' b = H b ∧ F' b = none := fun b hb => k b ⟨v, fp, e1, e2, hb⟩
    have e2' := ObR.move m e2 fun b hb => (kk b hb).1
    refine ⟨⟨e0, v, fp, e1, e2', e3, fun b hb => ⟨(kk b hb).2, (e4 b hb).2⟩⟩, fun a o => ?_⟩
    obtain ⟨v', fp', o1, o2, o3⟩ := o
    rw [e1] at o1
    cases o1
    rw [ObR.uniq o2 e2'] at o3
    exact ⟨v, fp, e1, e2, o3⟩
  | fob c ks ds =>
    obtain ⟨a, dx, vs, e1, e2, e3, e4⟩ := h
    exact ⟨⟨a, dx, vs, e1, m _ _ e2, e3, RepL.mono m _ _ e4⟩, fun a o => o.elim⟩
/-- all slots as they were -/
theorem RepE.keep (r : RepE K G F H σ ρ) (g : Same G H') (f : Same F' H') (m : Same F F') (k : ∀ (i : Nat) (s : Sl) (x : Option V) (b : Addr), ρ[i]? = some s → σ[i]? = some x → Owned K F H s x b → H' b = H b ∧ F' b = none) : RepE K G F' H' σ ρ :=
  ⟨g, f, r.len, fun i s x h1 h2 => ((r.at_ i s x h1 h2).move m (fun b o => k i s x b h1 h2 o)).1, fun i j s t x y a hij h1 h2 h3 h4 o1 o2 =>
    r.ap i j s t x y a hij h1 h2 h3 h4 (((r.at_ i s x h1 h3).move (F' := F') (H' := H') m (fun b o => k i s x b h1 h3 o)).2 a o1) (((r.at_ j t y h2 h4).move (F' := F') (H' := H') m (fun b o => k j t y b h2 h4 o)).2 a o2)⟩
/-- one slot takes another thing -/
theorem RepE.put (r : RepE K G F H σ ρ) {i : Nat} {s' : Sl} {x' : Option V} (g : Same G H') (f : Same F' H') (m : Same F F')
    (k : ∀ (j : Nat) (s : Sl) (x : Option V) (b : Addr), j ≠ i → ρ[j]? = some s → σ[j]? = some x → Owned K F H s x b → H' b = H b ∧ F' b = none)
    (new : SlOk K G F' H' s' x') (dis : ∀ a, Owned K F' H' s' x' a → ∀ (j : Nat) (s : Sl) (x : Option V), j ≠ i → ρ[j]? = some s → σ[j]? = some x → Owned K F H s x a → False) : RepE K G F' H' (σ.set i x') (ρ.set i s') := by
  have hlen : (ρ.set i s').length = (σ.set i x').length := by simp [r.len]
  have self : ∀ (s : Sl) (x : Option V), (ρ.set i s')[i]? = some s → (σ.set i x')[i]? = some x → s = s' ∧ x = x' := fun s x h1 h2 => by
    have hi : i < ρ.length := by
      obtain ⟨q, _⟩ := List.getElem?_eq_some_iff.mp h1
      simpa using q
    rw [List.getElem?_set_self hi] at h1
    rw [List.getElem?_set_self (by rw [← r.len]; exact hi)] at h2
    cases h1
    cases h2
    exact ⟨rfl, rfl⟩
  have other : ∀ (j : Nat) (s : Sl) (x : Option V), j ≠ i → (ρ.set i s')[j]? = some s → (σ.set i x')[j]? = some x → ρ[j]? = some s ∧ σ[j]? = some x ∧ SlOk K G F' H' s x ∧ ∀ a, Owned K F' H' s x a → Owned K F H s x a := fun j s x hj h1 h2 => by
    rw [List.getElem?_set_ne (fun z => hj z.symm)] at h1 h2
    exact ⟨h1, h2, (r.at_ j s x h1 h2).move m fun b o => k j s x b hj h1 h2 o⟩
  refine ⟨g, f, hlen, fun j s x h1 h2 => ?_, fun j l s t x y a hjl h1 h2 h3 h4 o1 o2 => ?_⟩
  · by_cases hj : j = i
    · subst hj
      obtain ⟨rfl, rfl⟩ := self s x h1 h2
      exact new
    · exact (other j s x hj h1 h2).2.2.1
  · by_cases hj : j = i
    · subst hj
      obtain ⟨rfl, rfl⟩ := self s x h1 h3
      obtain ⟨q1, q2, _, q4⟩ := other l t y (fun z => hjl z.symm) h2 h4
      exact dis a o1 l t y (fun z => hjl z.symm) q1 q2 (q4 a o2)
    · obtain ⟨p1, p2, _, p4⟩ := other j s x hj h1 h3
      by_cases hl : l = i
      · subst hl
        obtain ⟨rfl, rfl⟩ := self t y h2 h4
        exact dis a o2 j s x hj p1 p2 (p4 a o1)
      · obtain ⟨q1, q2, _, q4⟩ := other l t y hl h2 h4
        exact r.ap j l s t x y a hjl p1 q1 p2 q2 (p4 a o1) (q4 a o2)
theorem RepE.ext (r : RepE K G F H σ ρ) (e : Ext F H F' H') : RepE K G F' H' σ ρ := by
  refine r.keep (r.g.trans e.h) e.s e.f fun i s x b h1 h2 o => ?_
  obtain ⟨⟨u, hu⟩, hf, _⟩ := (r.at_ i s x h1 h2).own o
  refine ⟨by rw [hu]; exact e.h _ _ hu, ?_⟩
  cases q : F' b with
  | none => rfl
  | some w =>
    have := e.n b w q hf
    rw [hu] at this
    cases this
/-- a slot takes a kept value -/
theorem RepE.setV (r : RepE K G F H σ ρ) {i : Nat} {d : D} {v : V} (h : Rep K F d v) : RepE K G F H (σ.set i (some v)) (ρ.set i (.val d)) :=
  r.put r.g r.f (.refl _) (fun j s x b _ h1 h2 o => ⟨rfl, ((r.at_ j s x h1 h2).own o).2.1⟩) ⟨v, rfl, h⟩ fun a o => o.elim
/-- a slot is forgotten -/
theorem RepE.unset (r : RepE K G F H σ ρ) {i : Nat} {x : Option V} : RepE K G F H (σ.set i x) (ρ.set i .un) :=
  r.put r.g r.f (.refl _) (fun j s x b _ h1 h2 o => ⟨rfl, ((r.at_ j s x h1 h2).own o).2.1⟩) trivial fun a o => o.elim
/-- a slot takes a new list of its own -/
theorem RepE.setO (r : RepE K G F H σ ρ) {i : Nat} {ds : List D} {a : Addr} {vs : List V} (h : RepL K F ds vs) (ha : H a = none) : RepE K G F (upd H a (.lst vs)) (σ.set i (some (.ref a))) (ρ.set i (.own ds)) := by
  have hf : F a = none := r.f.free ha
  have hg : G a = none := r.g.free ha
  have nab : ∀ (j : Nat) (s : Sl) (x : Option V) (b : Addr), ρ[j]? = some s → σ[j]? = some x → Owned K F H s x b → b ≠ a := fun j s x b h1 h2 o e => by
    obtain ⟨⟨u, hu⟩, _⟩ := (r.at_ j s x h1 h2).own o
    rw [e, ha] at hu
    cases hu
  refine r.put (fun b o q => ?_) (fun b o q => ?_) (.refl _) (fun j s x b _ h1 h2 o => ⟨upd_ne (nab j s x b h1 h2 o), ((r.at_ j s x h1 h2).own o).2.1⟩) ⟨a, vs, rfl, upd_same, h, hf, hg⟩ fun b o j s x _ h1 h2 o2 => ?_
  · rw [upd_ne (ne_of_none q hg)]; exact r.g _ _ q
  · rw [upd_ne (ne_of_none q hf)]; exact r.f _ _ q
  · have o : some (V.ref a) = some (.ref b) := o
    cases o
    exact nab j s x a h1 h2 o2 rfl
/-- the list of one's own at slot i turns -/
theorem RepE.turnO (r : RepE K G F H σ ρ) {i : Nat} {ds es : List D} {a : Addr} {ws : List V} (hi : ρ[i]? = some (.own ds)) (hs : σ[i]? = some (some (.ref a))) (h : RepL K F es ws) :
    RepE K G F (upd H a (.lst ws)) σ (ρ.set i (.own es)) := by
  obtain ⟨a', vs, e1, e2, e3, hf, hg⟩ := r.at_ i _ _ hi hs
  cases e1
  have es : σ.set i (some (.ref a)) = σ := by
    have hl := (List.getElem?_eq_some_iff.mp hs)
    obtain ⟨hl, he⟩ := hl
    rw [← he]
    exact List.set_getElem_self hl
  have nab : ∀ (j : Nat) (s : Sl) (x : Option V) (b : Addr), j ≠ i → ρ[j]? = some s → σ[j]? = some x → Owned K F H s x b → b ≠ a := fun j s x b hj h1 h2 o e => by
    subst e
    exact r.ap j i s _ x _ b hj h1 hi h2 hs o rfl
  have q := r.put (F' := F) (H' := upd H a (.lst ws)) (i := i) (s' := .own _) (x' := some (.ref a)) (fun b o q => by rw [upd_ne (ne_of_none q hg)]; exact r.g _ _ q) (fun b o q => by rw [upd_ne (ne_of_none q hf)]; exact r.f _ _ q) (.refl _)
    (fun j s x b hj h1 h2 o => ⟨upd_ne (nab j s x b hj h1 h2 o), ((r.at_ j s x h1 h2).own o).2.1⟩) ⟨a, ws, rfl, upd_same, h, hf, hg⟩ fun b o j s x hj h1 h2 o2 => by
      have o : some (V.ref a) = some (.ref b) := o
      cases o
      exact nab j s x a hj h1 h2 o2 rfl
  rw [es] at q
  exact q
/-- the list of one's own at slot i is kept from here on -/
theorem RepE.freezeE (r : RepE K G F H σ ρ) {i : Nat} {ds : List D} (hi : ρ[i]? = some (.own ds)) :
    ∃ a vs, σ[i]? = some (some (.ref a)) ∧ H a = some (.lst vs) ∧ F a = none ∧ Same F (upd F a (.lst vs)) ∧ NewG G F (upd F a (.lst vs)) ∧ RepE K G (upd F a (.lst vs)) H σ (ρ.set i (.val (.lst ds))) := by
  have hl : i < ρ.length := (List.getElem?_eq_some_iff.mp hi).1
  have hsl : i < σ.length := by rw [← r.len]; exact hl
  have hs0 : σ[i]? = some σ[i] := List.getElem?_eq_getElem hsl
  obtain ⟨a, vs, e1, e2, e3, hf, hg⟩ := r.at_ i _ _ hi hs0
  have hs : σ[i]? = some (some (.ref a)) := by rw [hs0, e1]
  have sm : Same F (upd F a (.lst vs)) := same_upd hf
  have es : σ.set i (some (.ref a)) = σ := by
    rw [← e1]
    exact List.set_getElem_self hsl
  have nab : ∀ (j : Nat) (s : Sl) (x : Option V) (b : Addr), j ≠ i → ρ[j]? = some s → σ[j]? = some x → Owned K F H s x b → b ≠ a := fun j s x b hj h1 h2 o e => by
    subst e
    exact r.ap j i s _ x _ b hj h1 hi h2 hs o rfl
  refine ⟨a, vs, hs, e2, hf, sm, fun b o q z => ?_, ?_⟩
  · by_cases hb : b = a
    · subst hb; exact hg
    · rw [upd_ne hb, z] at q; cases q
  have q := r.put (F' := upd F a (.lst vs)) (H' := H) (i := i) (s' := .val (.lst ds)) (x' := some (.ref a)) r.g (fun b o q => by
      by_cases hb : b = a
      · subst hb; rw [upd_same] at q; rw [← q]; exact e2
      · rw [upd_ne hb] at q; exact r.f _ _ q) sm
    (fun j s x b hj h1 h2 o => ⟨rfl, by rw [upd_ne (nab j s x b hj h1 h2 o)]; exact ((r.at_ j s x h1 h2).own o).2.1⟩) ⟨.ref a, rfl, Rep.mk_lst (.of upd_same) (RepL.mono sm _ _ e3)⟩ fun b o => o.elim
  rw [es] at q
  exact q
theorem RepE.freeze (r : RepE K G F H σ ρ) {i : Nat} {ds : List D} (hi : ρ[i]? = some (.own ds)) :
    ∃ F', Same F F' ∧ NewG G F F' ∧ RepE K G F' H σ (ρ.set i (.val (.lst ds))) := by
  obtain ⟨a, vs, _, _, _, h1, h2, h3⟩ := r.freezeE hi
  exact ⟨_, h1, h2, h3⟩
/-- what is one's own at slot i is kept from here on -/
theorem RepE.freezeT (r : RepE K G F H σ ρ) {i : Nat} {o : O} (hi : ρ[i]? = some (.tree o)) :
    ∃ F', Same F F' ∧ NewG G F F' ∧ RepE K G F' H σ (ρ.set i (.val o.toD)) := by
  have hl : i < ρ.length := (List.getElem?_eq_some_iff.mp hi).1
  have hsl : i < σ.length := by rw [← r.len]; exact hl
  have hs0 : σ[i]? = some σ[i] := List.getElem?_eq_getElem hsl
  obtain ⟨v, fp, e1, e2, e3, e4⟩ := r.at_ i _ _ hi hs0
  have hs : σ[i]? = some (some v) := by rw [hs0, e1]
  have sm : Same F (addF F H fp) := addF_same fun a ha => (e4 a ha).1
  have es : σ.set i (some v) = σ := by
    rw [← e1]
    exact List.set_getElem_self hsl
  have nab : ∀ (j : Nat) (s : Sl) (x : Option V) (b : Addr), j ≠ i → ρ[j]? = some s → σ[j]? = some x → Owned K F H s x b → b ∉ fp := fun j s x b hj h1 h2 o' e =>
    r.ap j i s _ x _ b hj h1 hi h2 hs o' ⟨v, fp, rfl, e2, e⟩
  refine ⟨addF F H fp, sm, fun b u q z => ?_, ?_⟩
  · by_cases hb : b ∈ fp
    · exact (e4 b hb).2
    · rw [addF_out hb, z] at q; cases q
  have q := r.put (F' := addF F H fp) (H' := H) (i := i) (s' := .val o.toD) (x' := some v) r.g (addF_H r.f) sm
    (fun j s x b hj h1 h2 o => ⟨rfl, by rw [addF_out (nab j s x b hj h1 h2 o)]; exact ((r.at_ j s x h1 h2).own o).2.1⟩) ⟨v, rfl, OwR.frz sm o v fp e2 fun a ha => addF_in ha⟩ fun b o => o.elim
  rw [es] at q
  exact q
/-- a thing with its place told, without that -/
theorem RepE.pinTree (r : RepE K G F H σ ρ) {i : Nat} {w : V} {o : O} (hi : ρ[i]? = some (.pin w o)) : RepE K G F H σ (ρ.set i (.tree o)) := by
  have hl : i < ρ.length := (List.getElem?_eq_some_iff.mp hi).1
  have hsl : i < σ.length := by rw [← r.len]; exact hl
  have hs0 : σ[i]? = some σ[i] := List.getElem?_eq_getElem hsl
  have q := r.put (F' := F) (H' := H) (i := i) (s' := .tree o) (x' := σ[i]) r.g r.f (.refl _) (fun j s x b _ h1 h2 o => ⟨rfl, ((r.at_ j s x h1 h2).own o).2.1⟩) (r.at_ i _ _ hi hs0).2 fun b ob j s x hj h1 h2 o2 =>
    r.ap j i s _ x _ b hj h1 hi h2 hs0 o2 ob
  rw [List.set_getElem_self hsl] at q
  exact q
theorem RepE.freezeP (r : RepE K G F H σ ρ) {i : Nat} {w : V} {o : O} (hi : ρ[i]? = some (.pin w o)) :
    ∃ F', Same F F' ∧ NewG G F F' ∧ RepE K G F' H σ (ρ.set i (.val o.toD)) := by
  have hl : i < ρ.length := (List.getElem?_eq_some_iff.mp hi).1
  obtain ⟨F', h1, h2, h3⟩ := (r.pinTree hi).freezeT (List.getElem?_set_self hl)
  rw [List.set_set] at h3
  exact ⟨F', h1, h2, h3⟩
end
end Dy

set_option Elab.async false
set_option linter.all false
set_option maxRecDepth 100000
namespace Dy
open PySem PySem.Spec PyProof.Rows L2

/-! ### results -/
inductive R (α : Type) where
  | ok (a : α) | err (e : D) | bad
def R.bind {α β : Type} (x : R α) (f : α → R β) : R β := match x with
  | .ok a => f a
  | .err e => .err e
  | .bad => .bad
def R.opt {α : Type} : Option α → R α
  | some a => .ok a
  | none => .bad

/-- an exception in the air -/
def XD (K : PySem.W.Frag) (F : Hp) (e : D) (cls : Value) (dd : Option Addr) : Prop :=
  ∃ c fs xs vs, e = .exc c fs xs ∧ cls = .ref (He.ga K c) ∧ fs.length = vs.length ∧ RepL K F xs vs ∧ (match dd with | none => fs = [] | some d => F d = some (.xd (fs.zip vs)))
theorem XD.mono {K : PySem.W.Frag} {F F' : Hp} {e : D} {cls : Value} {dd : Option Addr} (s : Same F F') (h : XD K F e cls dd) : XD K F' e cls dd := by
  obtain ⟨c, fs, xs, vs, h1, h2, h3, h4, h5⟩ := h
  refine ⟨c, fs, xs, vs, h1, h2, h3, RepL.mono s _ _ h4, ?_⟩
  cases dd with
  | none => exact h5
  | some d => exact s _ _ h5

/-- what is wanted behind a piece whose result is x -/
def Post {α β : Type} (K : PySem.W.Frag) (W : WX) (rel : Hp → α → β → Prop) (σ : St) (F H : Hp) (x : R α) (Q : β → Hp → Prop) : Prop := match x with
  | .ok a => ∀ v F' H', Ext F H F' H' → rel F' a v → Q v H'
  | .err e => ∀ cls dd F' H', Ext F H F' H' → XD K F' e cls dd → W cls dd σ H'
  | .bad => False
section
variable {α β γ δ : Type} {K : PySem.W.Frag} {W : WX} {rel : Hp → α → β → Prop} {rel2 : Hp → γ → δ → Prop} {σ : St} {F H F' H' : Hp}
theorem Post.ext {x : R α} {Q : β → Hp → Prop} (e : Ext F H F' H') (h : Post K W rel σ F H x Q) : Post K W rel σ F' H' x Q := by
  cases x with
  | ok a => exact fun v F2 H2 e2 r => h v F2 H2 (e.trans e2) r
  | err d => exact fun cls dd F2 H2 e2 r => h cls dd F2 H2 (e.trans e2) r
  | bad => exact h
theorem Post.bind {x : R α} {k : α → R γ} {Q : δ → Hp → Prop} {Q' : β → Hp → Prop} (h : Post K W rel2 σ F H (x.bind k) Q)
    (f : ∀ a v F' H', x = .ok a → Ext F H F' H' → rel F' a v → Post K W rel2 σ F' H' (k a) Q → Q' v H') : Post K W rel σ F H x Q' := by
  cases x with
  | ok a => exact fun v F2 H2 e2 r => f a v F2 H2 rfl e2 r (Post.ext e2 h)
  | err d => exact h
  | bad => exact h
end

/-- the readings: of an expression, a test, arguments -/
def rg {α β : Type} (K : PySem.W.Frag) (W : WX) (rel : Hp → α → β → Prop) (f : REnv → R α) : St → Hp → (β → Hp → Prop) → Prop :=
  fun σ H Q => ∃ G F ρ, RepE K G F H σ ρ ∧ Post K W rel σ F H (f ρ) Q
abbrev rd (K : PySem.W.Frag) (W : WX) (f : REnv → R D) : TE := rg K W (Rep K) f
abbrev rt (K : PySem.W.Frag) (W : WX) (f : REnv → R Bool) : TT := rg K W (fun _ (a b : Bool) => a = b) f
abbrev ra (K : PySem.W.Frag) (W : WX) (f : REnv → R (List D)) : TA := rg K W (RepL K) f
abbrev SE (X : Cx) (W : WX) (e : Expr) (f : REnv → R D) : Prop := PE X e (rd X.K W f)
abbrev ST (X : Cx) (W : WX) (e : Expr) (f : REnv → R Bool) : Prop := PT X e (rt X.K W f)
abbrev SW (X : Cx) (W : WX) (e : Expr) (f : REnv → R Bool) : Prop := PW X e (rt X.K W f)
abbrev SA (X : Cx) (W : WX) (es : List Expr) (f : REnv → R (List D)) : Prop := PA X es (ra X.K W f)

end Dy
namespace L2
open PySem PySem.Spec PyProof.Rows
theorem PE.dy {X : Cx} {e : Expr} {t t' : TE} (h : PE X e t) (i : ∀ σ H Q, t' σ H Q → t σ H Q) : PE X e t' := ⟨fun pins s σ H Q I q => h.run pins s σ H Q I (i _ _ _ q)⟩
theorem PT.dy {X : Cx} {e : Expr} {t t' : TT} (h : PT X e t) (i : ∀ σ H Q, t' σ H Q → t σ H Q) : PT X e t' := ⟨fun pins s σ H Q I q => h.run pins s σ H Q I (i _ _ _ q)⟩
theorem PW.dy {X : Cx} {e : Expr} {t t' : TT} (h : PW X e t) (i : ∀ σ H Q, t' σ H Q → t σ H Q) : PW X e t' := ⟨fun wh pins s σ H Q I q => h.run wh pins s σ H Q I (i _ _ _ q)⟩
theorem PA.dy {X : Cx} {e : List Expr} {t t' : TA} (h : PA X e t) (i : ∀ σ H Q, t' σ H Q → t σ H Q) : PA X e t' := ⟨fun p pins s σ H Q I q => h.run p pins s σ H Q I (i _ _ _ q)⟩
theorem PS.dy {X : Cx} {e : Stmt} {t t' : TS} (h : PS X e t) (i : ∀ D σ H, t' D σ H → t D σ H) : PS X e t' := ⟨fun pins s σ H D I q => h.run pins s σ H D I (i _ _ _ q)⟩
theorem PSs.dy {X : Cx} {e : List Stmt} {t t' : TS} (h : PSs X e t) (i : ∀ D σ H, t' D σ H → t D σ H) : PSs X e t' := ⟨fun pins s σ H D I q => h.run pins s σ H D I (i _ _ _ q)⟩

end L2
namespace Dy
open PySem PySem.Spec PyProof.Rows L2

/-! ### operations by values -/
/-- the rule r does what o says -/
def Op2 (K : PySem.W.Frag) (r : R2) (o : D → D → Option D) : Prop := ∀ F H x y a b d Q, Same F H → Rep K F a x → Rep K F b y → o a b = some d → (∀ v F' H', Ext F H F' H' → Rep K F' d v → Q v H') → r x y H Q
theorem Op2.or {K : PySem.W.Frag} {r r' : R2} {o o' : D → D → Option D} (h : Op2 K r o) (h' : Op2 K r' o') : Op2 K (fun x y H Q => r x y H Q ∨ r' x y H Q) (fun a b => (o a b).or (o' a b)) := by
  intro F H x y a b d Q s ra rb e q
  have e : (o a b).or (o' a b) = some d := e
  cases e1 : o a b with
  | some d' => rw [e1] at e; cases e; exact .inl (h F H x y a b d Q s ra rb e1 q)
  | none => rw [e1] at e; exact .inr (h' F H x y a b d Q s ra rb e q)
/-- a rule over one thing -/
def Op1 (K : PySem.W.Frag) (r : V → Hp → VK → Prop) (o : D → Option D) : Prop := ∀ F H x a d Q, Same F H → Rep K F a x → o a = some d → (∀ v F' H', Ext F H F' H' → Rep K F' d v → Q v H') → r x H Q
/-- a call's rule -/
def OpN (K : PySem.W.Frag) (r : List V → Hp → VK → Prop) (o : List D → Option D) : Prop := ∀ F H xs as d Q, Same F H → RepL K F as xs → o as = some d → (∀ v F' H', Ext F H F' H' → Rep K F' d v → Q v H') → r xs H Q
theorem OpN.or {K : PySem.W.Frag} {r r' : List V → Hp → VK → Prop} {o o' : List D → Option D} (h : OpN K r o) (h' : OpN K r' o') : OpN K (fun x H Q => r x H Q ∨ r' x H Q) (fun a => (o a).or (o' a)) := by
  intro F H x a d Q s ra e q
  have e : (o a).or (o' a) = some d := e
  cases e1 : o a with
  | some d' => rw [e1] at e; cases e; exact .inl (h F H x a d Q s ra e1 q)
  | none => rw [e1] at e; exact .inr (h' F H x a d Q s ra e q)
/-- what asks nothing of the heap -/
theorem now {K : PySem.W.Frag} {F H : Hp} {d : D} {v : V} {Q : VK} (q : ∀ v F' H', Ext F H F' H' → Rep K F' d v → Q v H') (s : Same F H) (r : Rep K F d v) : Q v H := q v F H (.refl s) r
/-- a new object -/
theorem anew {K : PySem.W.Frag} {F H : Hp} {d : D} {o : HO} {Q : VK} (q : ∀ v F' H', Ext F H F' H' → Rep K F' d v → Q v H') (s : Same F H) (r : ∀ p, Same F (upd F p o) → Rep K (upd F p o) d (.ref p)) : ∀ p, H p = none → Q (.ref p) (upd H p o) :=
  fun p hp => q (.ref p) _ _ (Ext.new s hp) (r p (same_upd (s.free hp)))

section
variable {X : Cx} {W : WX} {a b c : Expr} {e : Expr} {es : List Expr} {f g h : REnv → R D} {pos : Pos}

/-! ### names, constants -/
def eVar (i : Nat) : REnv → R D := fun ρ => match ρ[i]? with
  | some (.val d) => .ok d
  | _ => .bad
def eC (d : D) : REnv → R D := fun _ => .ok d
theorem se_var (i : Nat) {x : Str} (hN : X.N[i]? = some x := by rfl) (hv : Vis X.env.scope x := by first | exact Or.inl rfl | exact Or.inr (Or.inl rfl) | exact Or.inr (Or.inr rfl)) (hd : (x == ("__debug__" : Str)) = false := by decide)
    (hcd : (x == ("__classdict__" : Str)) = false := by decide) : SE X W (.Name x pos) (eVar i) := by
  refine (pe_var hN hv hd hcd).dy fun σ H Q ⟨G, F, ρ, r, p⟩ => ?_
  unfold eVar at p
  cases q : ρ[i]? with
  | none => rw [q] at p; exact p.elim
  | some s =>
    rw [q] at p
    cases s with
    | val d =>
      have hi : i < σ.length := by
        rw [← r.len]
        exact (List.getElem?_eq_some_iff.mp q).1
      obtain ⟨v, e1, e2⟩ := r.at_ i _ _ q (List.getElem?_eq_getElem hi)
      exact ⟨v, by rw [List.getElem?_eq_getElem hi, e1], p v F H (.refl r.f) e2⟩
    | un => exact p.elim
    | own ds => exact p.elim
    | ownD ks ds => exact p.elim
    | tree o => exact p.elim
    | pin w o => exact p.elim
    | obj w c ks os => exact p.elim
    | fob c ks ds => exact p.elim
theorem se_const {v : V} {d : D} (hp : PE X e (tC v)) (hr : ∀ K F, Rep K F d v) : SE X W e (eC d) :=
  hp.dy fun σ H Q ⟨G, F, ρ, r, p⟩ => p v F H (.refl r.f) (hr _ _)
theorem se_int {i : Int} {j} : SE X W (.Constant (.int i) j pos) (eC (.int i)) := se_const pe_int fun _ _ => Rep.mk_int
theorem se_bl {i : Bool} {j} : SE X W (.Constant (.bool i) j pos) (eC (.bl i)) := se_const pe_bl fun _ _ => Rep.mk_bl
theorem se_non {j} : SE X W (.Constant .none j pos) (eC .non) := se_const pe_non fun _ _ => Rep.mk_non
theorem se_str {x : Str} {j} : SE X W (.Constant (.str x) j pos) (eC (.str x)) := se_const pe_str fun _ _ => Rep.mk_str
/-- a global: an int, a text -/
theorem se_gint {x : Str} {i : Int} (hg : Gl X x) (hm : ∃ t, X.mg x = some (.int i t)) (hd : (x == ("__debug__" : Str)) = false := by decide) : SE X W (.Name x pos) (eC (.int i)) := by
  obtain ⟨t, hm⟩ := hm
  exact se_const (pe_glob hg hm (v := .int i) ⟨t, rfl⟩ hd) fun _ _ => Rep.mk_int
/-- a global: a tuple, a list of the written part -/
theorem se_gref {x : Str} {d : D} (hg : Gl X x) (hm : X.mg x = some (.ref (He.ga X.K x))) (hr : ∀ F, Rep X.K F d (.ref (He.ga X.K x))) (hd : (x == ("__debug__" : Str)) = false := by decide) : SE X W (.Name x pos) (eC d) :=
  (pe_glob hg hm (v := .ref (He.ga X.K x)) rfl hd).dy fun σ H Q ⟨G, F, ρ, r, p⟩ => p _ F H (.refl r.f) (hr _)

/-! ### operators -/
def eBin (o : D → D → Option D) (f g : REnv → R D) : REnv → R D := fun ρ => (f ρ).bind fun a => (g ρ).bind fun b => .opt (o a b)
theorem bin_read {r : R2} {o : D → D → Option D} (ho : Op2 X.K r o) {σ : St} {H : Hp} {Q : VK} (hh : rd X.K W (eBin o f g) σ H Q) : tOp r (rd X.K W f) (rd X.K W g) σ H Q := by
  obtain ⟨G, F, ρ, hr, p⟩ := hh
  refine ⟨G, F, ρ, hr, Post.bind p fun d1 v1 F1 H1 _ e1 r1 p1 => ⟨G, F1, ρ, hr.ext e1, Post.bind p1 fun d2 v2 F2 H2 _ e2 r2 p2 => ?_⟩⟩
  cases q : o d1 d2 with
  | none => rw [q] at p2; exact p2.elim
  | some d => rw [q] at p2; exact ho F2 H2 v1 v2 d1 d2 d Q e2.s (Rep.mono e2.f _ _ r1) r2 q p2
theorem se_op {op : Operator} {r : R2} {o : D → D → Option D} (ho : OpR X (binaryOp op) r ∧ Op2 X.K r o) (ha : SE X W a f) (hb : SE X W b g) : SE X W (.BinOp a op b pos) (eBin o f g) :=
  (pe_op ho.1 ha hb).dy fun _ _ _ hh => bin_read ho.2 hh
theorem se_cmp {op : CmpOp} {r : R2} {o : D → D → Option D} (ho : OpR X (compareOp op) r ∧ Op2 X.K r o) (ha : SE X W a f) (hb : SE X W b g) (hm : behindInMarks op b = false) : SE X W (.Compare a [op] [b] pos) (eBin o f g) :=
  (pe_cmpR ho.1 ha hb hm).dy fun _ _ _ hh => bin_read ho.2 hh
/-- a comparison's answer is a truth -/
def eTest (f : REnv → R D) : REnv → R Bool := fun ρ => (f ρ).bind fun d => match d with
  | .bl b => .ok b
  | _ => .bad
theorem test_read {σ : St} {H : Hp} {t : TE} {f : REnv → R D} (ht : ∀ Q, rd X.K W f σ H Q → t σ H Q) {Q : Bool → Hp → Prop} (hh : rt X.K W (eTest f) σ H Q) : tTest t σ H Q := by
  obtain ⟨G, F, ρ, hr, p⟩ := hh
  refine ht _ ⟨G, F, ρ, hr, Post.bind p fun d v F1 H1 _ e1 r1 p1 => ?_⟩
  cases d with
  | bl k => exact ⟨k, r1.bl_inv, p1 k F1 H1 (.refl e1.s) rfl⟩
  | non => exact p1.elim
  | int i => exact p1.elim
  | str i => exact p1.elim
  | ty i => exact p1.elim
  | cls i => exact p1.elim
  | tup i => exact p1.elim
  | lst i => exact p1.elim
  | dct i j => exact p1.elim
  | exc i j k => exact p1.elim
theorem st_cmp {op : CmpOp} {r : R2} {o : D → D → Option D} (ho : OpR X (compareOp op) r ∧ Op2 X.K r o) (ha : SE X W a f) (hb : SE X W b g) (hm : behindInMarks op b = false) : ST X W (.Compare a [op] [b] pos) (eTest (eBin o f g)) :=
  (pt_cmpR ho.1 ha hb hm).dy fun _ _ _ hh => test_read (fun _ h => bin_read ho.2 h) hh
/-- any expression whose value is a truth -/
theorem st_val (ha : SE X W e f) (he : ∀ whole, isTrue e X.env whole = (do let v ← whole; standAt e.pos; holding [v] (truthy v)) := by intro _; rfl) : ST X W e (eTest f) :=
  (pt_val ha he).dy fun _ _ _ hh => test_read (t := rd X.K W f) (fun _ h => h) hh
/-- a < b < c -/
def goOn (x : R D) : D → R D
  | .bl true => x
  | .bl false => .ok (.bl false)
  | _ => .bad
def eChain (o o' : D → D → Option D) (f g h : REnv → R D) : REnv → R D := fun ρ => (f ρ).bind fun a => (g ρ).bind fun b => (R.opt (o a b)).bind (goOn ((h ρ).bind fun c => .opt (o' b c)))

/-! ### arguments, displays -/
def aNil : REnv → R (List D) := fun _ => .ok []
def aCons (f : REnv → R D) (t : REnv → R (List D)) : REnv → R (List D) := fun ρ => (f ρ).bind fun a => (t ρ).bind fun r => .ok (a :: r)
theorem sa_nil : SA X W [] aNil := pa_nil.dy fun σ H Q ⟨G, F, ρ, r, p⟩ => p [] F H (.refl r.f) RepL.nil
theorem sa_cons {t : REnv → R (List D)} (ha : SE X W e f) (hr : SA X W es t) (hs : starEach (e :: es) X.env = (false, eval e X.env) :: starEach es X.env := by rfl) : SA X W (e :: es) (aCons f t) :=
  (pa_cons ha hr hs).dy fun σ H Q ⟨G, F, ρ, r, p⟩ => ⟨G, F, ρ, r, Post.bind p fun d v F1 H1 _ e1 r1 p1 => ⟨G, F1, ρ, r.ext e1, Post.bind p1 fun ds vs F2 H2 _ e2 r2 p2 => p2 (v :: vs) F2 H2 (.refl e2.s) (RepL.cons (Rep.mono e2.f _ _ r1) r2)⟩⟩
def eTup (t : REnv → R (List D)) : REnv → R D := fun ρ => (t ρ).bind fun ds => if ds.length ≤ sizeLine then .ok (.tup ds) else .bad
def eLst (t : REnv → R (List D)) : REnv → R D := fun ρ => (t ρ).bind fun ds => if ds.length ≤ sizeLine then .ok (.lst ds) else .bad
theorem se_tup {t : REnv → R (List D)} {k} (h : SA X W es t) : SE X W (.Tuple es k pos) (eTup t) :=
  (pe_tup h).dy fun σ H Q ⟨G, F, ρ, r, p⟩ => ⟨G, F, ρ, r, Post.bind p fun ds vs F1 H1 _ e1 r1 p1 => by
    by_cases hl : ds.length ≤ sizeLine
    · rw [if_pos hl] at p1
      exact ⟨by rw [← r1.length]; exact hl, anew p1 e1.s fun q s => Rep.mk_tup (.of upd_same) (RepL.mono s _ _ r1)⟩
    · rw [if_neg hl] at p1; exact p1.elim⟩
theorem se_lst {t : REnv → R (List D)} (h : SA X W es t) : SE X W (.List es pos) (eLst t) :=
  (pe_lst h).dy fun σ H Q ⟨G, F, ρ, r, p⟩ => ⟨G, F, ρ, r, Post.bind p fun ds vs F1 H1 _ e1 r1 p1 => by
    by_cases hl : ds.length ≤ sizeLine
    · rw [if_pos hl] at p1
      exact ⟨by rw [← r1.length]; exact hl, anew p1 e1.s fun q s => Rep.mk_lst (.of upd_same) (RepL.mono s _ _ r1)⟩
    · rw [if_neg hl] at p1; exact p1.elim⟩
/-- built-ins by their rules -/
def eN (o : List D → Option D) (t : REnv → R (List D)) : REnv → R D := fun ρ => (t ρ).bind fun ds => .opt (o ds)
theorem callN_read {r : List V → Hp → VK → Prop} {o : List D → Option D} {t : REnv → R (List D)} (ho : OpN X.K r o) {σ : St} {H : Hp} {Q : VK} (hh : rd X.K W (eN o t) σ H Q) : tCB r (ra X.K W t) σ H Q := by
  obtain ⟨G, F, ρ, hr, p⟩ := hh
  refine ⟨G, F, ρ, hr, Post.bind p fun ds vs F1 H1 _ e1 r1 p1 => ?_⟩
  cases q : o ds with
  | none => rw [q] at p1; exact p1.elim
  | some d => rw [q] at p1; exact ho F1 H1 vs ds d Q e1.s r1 q p1
variable {t : REnv → R (List D)} {x : Str} {p : Pos}
theorem se_blt {id : String} {r : List V → Hp → VK → Prop} {o : List D → Option D} (ho : CallR X (.builtin id) r ∧ OpN X.K r o) (hm : X.mg x = none) (ha : SA X W (e :: es) t) (hg : Gl X x := by rfl) (hv : bootBuiltins x = some (.builtin id) := by decide +kernel)
    (hn : x ≠ "__name__" := by decide) (hd : (x == ("__debug__" : Str)) = false := by decide) (he : starEach (e :: es) X.env = (false, eval e X.env) :: starEach es X.env := by rfl) (hpl : (backTo pos (starEach es X.env)).any (·.1) = false := by rfl) :
    SE X W (.Call (.Name x p) (e :: es) [] pos) (eN o t) :=
  (pe_callB ho.1 hg hm hv ha hn hd he hpl).dy fun _ _ _ hh => callN_read ho.2 hh
theorem se_bty {id : String} {r : List V → Hp → VK → Prop} {o : List D → Option D} (ho : CallR X (.type id) r ∧ OpN X.K r o) (hm : X.mg x = none) (ha : SA X W (e :: es) t) (hg : Gl X x := by rfl) (hv : bootBuiltins x = some (.type id) := by decide +kernel)
    (hn : x ≠ "__name__" := by decide) (hd : (x == ("__debug__" : Str)) = false := by decide) (he : starEach (e :: es) X.env = (false, eval e X.env) :: starEach es X.env := by rfl) (hpl : (backTo pos (starEach es X.env)).any (·.1) = false := by rfl) :
    SE X W (.Call (.Name x p) (e :: es) [] pos) (eN o t) :=
  (pe_callTy ho.1 hg hm hv ha hn hd he hpl).dy fun _ _ _ hh => callN_read ho.2 hh
/-- o[i] -/
theorem se_ix {r : R2} {o : D → D → Option D} (ho : IxR X r ∧ Op2 X.K r o) (ha : SE X W a f) (hb : SE X W b g) (hs : PlainIx b := by exact fun _ _ => rfl) : SE X W (.Subscript a b pos) (eBin o f g) :=
  (pe_ix ho.1 ha hb hs).dy fun _ _ _ hh => bin_read ho.2 hh
/-- -a -/
def eUn (o : D → Option D) (f : REnv → R D) : REnv → R D := fun ρ => (f ρ).bind fun a => .opt (o a)
theorem se_un {op : UnaryOp} {r : V → Hp → VK → Prop} {o : D → Option D} (ho : UnR X (unaryOp op) r ∧ Op1 X.K r o) (ha : SE X W a f) : SE X W (.UnaryOp op a pos) (eUn o f) :=
  (pe_un ho.1 ha).dy fun σ H Q ⟨G, F, ρ, hr, p⟩ => ⟨G, F, ρ, hr, Post.bind p fun d1 v1 F1 H1 _ e1 r1 p1 => by
    cases q : o d1 with
    | none => rw [q] at p1; exact p1.elim
    | some d => rw [q] at p1; exact ho.2 F1 H1 v1 d1 d Q e1.s r1 q p1⟩

/-! ### and, or, not -/
def eAnd (f g : REnv → R Bool) : REnv → R Bool := fun ρ => (f ρ).bind fun k => if k = true then g ρ else .ok false
def eOr (f g : REnv → R Bool) : REnv → R Bool := fun ρ => (f ρ).bind fun k => if k = true then .ok true else g ρ
def eNot (f : REnv → R Bool) : REnv → R Bool := fun ρ => (f ρ).bind fun k => .ok (!k)
def eB (f : REnv → R Bool) : REnv → R D := fun ρ => (f ρ).bind fun k => .ok (.bl k)
variable {u v : REnv → R Bool} {rest : List Expr}
theorem sw_or1 (ha : ST X W a u) : SW X W (.BoolOp .Or [a] pos) u := pw_or1 ha
theorem sw_or (ha : ST X W a u) (hb : SW X W (.BoolOp .Or (b :: rest) pos) v) : SW X W (.BoolOp .Or (a :: b :: rest) pos) (eOr u v) :=
  (pw_or ha hb).dy fun σ H Q ⟨G, F, ρ, hr, p⟩ => ⟨G, F, ρ, hr, Post.bind p fun k k' F1 H1 _ e1 r1 p1 => by
    subst r1
    cases k with
    | false => exact ⟨G, F1, ρ, hr.ext e1, p1⟩
    | true => exact p1 true F1 H1 (.refl e1.s) rfl⟩
theorem st_bool {op} {l : List Expr} (h : SW X W (.BoolOp op l pos) u) : ST X W (.BoolOp op l pos) u := PW.pt h
theorem st_not (ha : ST X W a u) : ST X W (.UnaryOp .Not a pos) (eNot u) :=
  (pt_not ha).dy fun σ H Q ⟨G, F, ρ, hr, p⟩ => ⟨G, F, ρ, hr, Post.bind p fun k k' F1 H1 _ e1 r1 p1 => by
    subst r1
    exact p1 (!k) F1 H1 (.refl e1.s) rfl⟩
/-- .. as values -/
def eAndV (f g : REnv → R D) : REnv → R D := fun ρ => (f ρ).bind fun k => match k with
  | .bl true => g ρ
  | .bl false => .ok (.bl false)
  | _ => .bad
def eOrV (f g : REnv → R D) : REnv → R D := fun ρ => (f ρ).bind fun k => match k with
  | .bl false => g ρ
  | .bl true => .ok (.bl true)
  | _ => .bad
def eNotV (f : REnv → R D) : REnv → R D := fun ρ => (f ρ).bind fun k => match k with
  | .bl b => .ok (.bl (!b))
  | _ => .bad
theorem se_one {op} (ha : SE X W a f) : SE X W (.BoolOp op [a] pos) f := pe_one ha
theorem se_and (ha : SE X W a f) (hb : SE X W (.BoolOp .And (b :: rest) pos) g) : SE X W (.BoolOp .And (a :: b :: rest) pos) (eAndV f g) :=
  (pe_and ha hb).dy fun σ H Q ⟨G, F, ρ, hr, p⟩ => ⟨G, F, ρ, hr, Post.bind p fun k k' F1 H1 _ e1 r1 p1 => by
    cases k with
    | bl k =>
      refine ⟨k, r1.bl_inv, ?_⟩
      cases k with
      | true => exact ⟨G, F1, ρ, hr.ext e1, p1⟩
      | false => exact p1 _ F1 H1 (.refl e1.s) Rep.mk_bl
    | _ => exact p1.elim⟩
theorem se_not (ha : SE X W a f) : SE X W (.UnaryOp .Not a pos) (eNotV f) :=
  (pe_not ha).dy fun σ H Q ⟨G, F, ρ, hr, p⟩ => ⟨G, F, ρ, hr, Post.bind p fun k k' F1 H1 _ e1 r1 p1 => by
    cases k with
    | bl k => exact ⟨k, r1.bl_inv, p1 _ F1 H1 (.refl e1.s) Rep.mk_bl⟩
    | _ => exact p1.elim⟩
end

section
variable {X : Cx} {W : WX} {a b c : Expr} {f g h : REnv → R D} {pos : Pos}
end
end Dy

set_option Elab.async false
set_option linter.all false
set_option maxRecDepth 100000
namespace Dy
open PySem PySem.Spec PyProof.Rows L2

/-! ### statements -/
inductive SR where
  | next (ρ : REnv) | ret (d : D) | err (e : D) (ρ : REnv) | bad
def SR.seq (x : SR) (g : REnv → SR) : SR := match x with
  | .next ρ => g ρ
  | y => y
def R.toS {α : Type} (x : R α) (ρ : REnv) (k : α → SR) : SR := match x with
  | .ok a => k a
  | .err e => .err e ρ
  | .bad => .bad
def PostS (K : PySem.W.Frag) (W : WX) (D : Ends) (G F : Hp) (x : SR) : Prop := match x with
  | .next ρ => ∀ σ' F' H', Same F F' → NewG G F F' → RepE K G F' H' σ' ρ → D.nx σ' H'
  | .ret d => ∀ v F' H', Same F F' → NewG G F F' → Same G H' → Same F' H' → Rep K F' d v → D.rt v H'
  | .err e ρ => ∀ σ' F' H' cls dd, Same F F' → NewG G F F' → RepE K G F' H' σ' ρ → XD K F' e cls dd → W cls dd σ' H'
  | .bad => False
section
variable {α β : Type} {K : PySem.W.Frag} {W : WX} {D D' : Ends} {G F F' H : Hp} {σ : St} {ρ : REnv}
theorem PostS.ext {x : SR} (s : Same F F') (n : NewG G F F') (h : PostS K W D G F x) : PostS K W D G F' x := by
  cases x with
  | next ρ => exact fun σ' F2 H' s2 n2 r => h σ' F2 H' (s.trans s2) (n.trans n2) r
  | ret d => exact fun v F2 H' s2 n2 g f r => h v F2 H' (s.trans s2) (n.trans n2) g f r
  | err e ρ => exact fun σ' F2 H' cls dd s2 n2 r x => h σ' F2 H' cls dd (s.trans s2) (n.trans n2) r x
  | bad => exact h
theorem PostS.toS {rel : Hp → α → β → Prop} {x : R α} {k : α → SR} {Q : β → Hp → Prop} (r : RepE K G F H σ ρ) (h : PostS K W D G F (x.toS ρ k))
    (f : ∀ a v F' H', x = .ok a → Ext F H F' H' → rel F' a v → RepE K G F' H' σ ρ → PostS K W D G F' (k a) → Q v H') : Post K W rel σ F H x Q := by
  cases x with
  | ok a => exact fun v F' H' e p => f a v F' H' rfl e p (r.ext e) (PostS.ext e.f (e.newG r.g) h)
  | err e => exact fun cls dd F' H' ex p => h σ F' H' cls dd ex.f (ex.newG r.g) (r.ext ex) p
  | bad => exact h
/-- another end behind the statement's own -/
theorem PostS.seq {x : SR} {g : REnv → SR} {nx : St → Hp → Prop} (h : PostS K W D G F (x.seq g))
    (f : ∀ ρ σ' F' H', x = .next ρ → Same F F' → NewG G F F' → RepE K G F' H' σ' ρ → PostS K W D G F' (g ρ) → nx σ' H') : PostS K W { D with nx := nx } G F x := by
  cases x with
  | next ρ => exact fun σ' F' H' s n r => f ρ σ' F' H' rfl s n r (PostS.ext s n h)
  | ret d => exact h
  | err e ρ => exact h
  | bad => exact h
theorem PostS.ends {x : SR} {bk ct : St → Hp → Prop} (h : PostS K W D G F x) : PostS K W { D with bk := bk, ct := ct } G F x := by
  cases x with
  | next ρ => exact h
  | ret d => exact h
  | err e ρ => exact h
  | bad => exact h
end
def rs (K : PySem.W.Frag) (W : WX) (g : REnv → SR) : TS := fun D σ H => ∃ G F ρ, RepE K G F H σ ρ ∧ PostS K W D G F (g ρ)
abbrev SS (X : Cx) (W : WX) (s : Stmt) (g : REnv → SR) : Prop := PS X s (rs X.K W g)
abbrev SSs (X : Cx) (W : WX) (s : List Stmt) (g : REnv → SR) : Prop := PSs X s (rs X.K W g)

section
variable {X : Cx} {W : WX} {st : Stmt} {rest : List Stmt} {g h : REnv → SR} {e : Expr} {f : REnv → R D} {pos : Pos}
def sSkip : REnv → SR := .next
def sSeq (g h : REnv → SR) : REnv → SR := fun ρ => (g ρ).seq h
def sRet (f : REnv → R D) : REnv → SR := fun ρ => (f ρ).toS ρ .ret
def sSet (i : Nat) (f : REnv → R D) : REnv → SR := fun ρ => (f ρ).toS ρ fun d => .next (ρ.set i (.val d))
def sExpr (f : REnv → R D) : REnv → SR := fun ρ => (f ρ).toS ρ fun _ => .next ρ
def sIf (c : REnv → R Bool) (g h : REnv → SR) : REnv → SR := fun ρ => (c ρ).toS ρ fun b => if b = true then g ρ else h ρ
theorem sss_nil : SSs X W [] sSkip := pss_nil.dy fun D σ H ⟨G, F, ρ, r, p⟩ => p σ F H (.refl _) .refl r
theorem sss_cons (h1 : SS X W st g) (h2 : SSs X W rest h) : SSs X W (st :: rest) (sSeq g h) :=
  (pss_cons h1 h2).dy fun D σ H ⟨G, F, ρ, r, p⟩ => ⟨G, F, ρ, r, PostS.seq p fun ρ' σ' F' H' _ s n r' p' => ⟨G, F', ρ', r', p'⟩⟩
theorem sss_one (h1 : SS X W st g) : SSs X W [st] g := pss_one h1
theorem ss_ret (he : SE X W e f) : SS X W (.Return (some e) pos) (sRet f) :=
  (ps_ret he).dy fun D σ H ⟨G, F, ρ, r, p⟩ => ⟨G, F, ρ, r, PostS.toS r p fun d v F' H' _ ex rp r' p' => p' v F' H' (.refl _) .refl r'.g r'.f rp⟩
theorem ss_set {i : Nat} {x : Str} {pos' : Pos} (hN : X.N.Nodup) (he : SE X W e f) (hi : X.N[i]? = some x := by rfl) (hx : Loc X.env.scope x := by first | exact Or.inl rfl | exact Or.inr rfl) (hs : swapsWith e (some (.Name x pos')) pos.line X.env = pure false := by rfl)
    (hf : X.fn x = true ∨ X.env.scope.names.lookup x = some .local := by first | exact .inl rfl | exact .inr rfl | assumption) : SS X W (.Assign [.Name x pos'] e pos) (sSet i f) :=
  (ps_set hN hi hx he hs hf).dy fun D σ H ⟨G, F, ρ, r, p⟩ => ⟨G, F, ρ, r, PostS.toS r p fun d v F' H' _ ex rp r' p' => p' _ F' H' (.refl _) .refl (r'.setV rp)⟩
theorem ss_if {c : Expr} {a b : List Stmt} {u : REnv → R Bool} (hc : ST X W c u) (ha : SSs X W a g) (hb : SSs X W b h) : SS X W (.If c a b pos) (sIf u g h) :=
  (ps_if hc ha hb).dy fun D σ H ⟨G, F, ρ, r, p⟩ => ⟨G, F, ρ, r, PostS.toS r p fun k v F' H' _ ex rp r' p' => by
    subst rp
    cases k with
    | true => exact ⟨G, F', ρ, r', p'⟩
    | false => exact ⟨G, F', ρ, r', p'⟩⟩
/-- a, b = b, a % b of two plain locals -/
def sPar (i j : Nat) (t : REnv → R (List D)) : REnv → SR := fun ρ => (t ρ).toS ρ fun ds => match ds with
  | [a, b] => .next ((ρ.set i (.val a)).set j (.val b))
  | _ => .bad
theorem ss_par {i j : Nat} {x y : Str} {a b : Expr} {t : REnv → R (List D)} {px py pt : Pos} {kt k2 pt2} (hc : X.calm = true) (hN : X.N.Nodup) (ha : SA X W [a, b] t) (hi : X.N[i]? = some x := by rfl) (hj : X.N[j]? = some y := by rfl) (hij : i ≠ j := by decide)
    (hx : X.env.scope.names.lookup x = some .local := by rfl) (hy : X.env.scope.names.lookup y = some .local := by rfl)
    (hw : swappedStores [.Tuple [.Name x px, .Name y py] kt pt] (.Tuple [a, b] k2 pt2) X.env = pure (some [x, y]) := by rfl)
    (hs : swapsWithSole [.Tuple [.Name x px, .Name y py] kt pt] (.Tuple [a, b] k2 pt2) pos.line X.env = pure false := by rfl) :
    SS X W (.Assign [.Tuple [.Name x px, .Name y py] kt pt] (.Tuple [a, b] k2 pt2) pos) (sPar i j t) :=
  (ps_par hc hN hi hj hij hx hy ha hw hs).dy fun D σ H ⟨G, F, ρ, r, p⟩ => ⟨G, F, ρ, r, PostS.toS r p fun ds vs F' H' _ ex rp r' p' => by
    match ds, rp, p' with
    | [a, b], rp, p' =>
      simp only [RepL] at rp
      obtain ⟨v, r1, e1, h1, w, r2, e2, h2, e3⟩ := rp
      subst e3; subst e2; subst e1
      exact ⟨v, w, rfl, p' _ F' H' (.refl _) .refl ((r'.setV h1).setV h2)⟩
    | [], _, p' => exact p'.elim
    | [_], _, p' => exact p'.elim
    | _ :: _ :: _ :: _, _, p' => exact p'.elim⟩

/-! ### targets -/
/-- the slots of `is` alone may differ -/
def OnlyAt (is : List Nat) (σ σ' : St) : Prop := σ'.length = σ.length ∧ ∀ j, j ∉ is → σ'[j]? = σ[j]?
theorem OnlyAt.refl {is : List Nat} {σ : St} : OnlyAt is σ σ := ⟨rfl, fun _ _ => rfl⟩
theorem OnlyAt.trans {is js : List Nat} {σ σ' σ'' : St} (a : OnlyAt is σ σ') (b : OnlyAt js σ' σ'') : OnlyAt (is ++ js) σ σ'' := ⟨b.1.trans a.1, fun j h => by
  rw [List.mem_append, not_or] at h
  exact (b.2 j h.2).trans (a.2 j h.1)⟩
def TgOk (K : PySem.W.Frag) (t : TG) (b : D → REnv → Option REnv) (is : List Nat) : Prop := ∀ G F H σ ρ ρ' d v Q, RepE K G F H σ ρ → Rep K F d v → b d ρ = some ρ' → (∀ σ', RepE K G F H σ' ρ' → OnlyAt is σ σ' → Q σ' H) → t v σ H Q
def TgsOk (K : PySem.W.Frag) (t : TGs) (b : List D → REnv → Option REnv) (is : List Nat) : Prop := ∀ G F H σ ρ ρ' ds vs Q, RepE K G F H σ ρ → RepL K F ds vs → b ds ρ = some ρ' → (∀ σ', RepE K G F H σ' ρ' → OnlyAt is σ σ' → Q σ' H) → t vs σ H Q
def bName (i : Nat) : D → REnv → Option REnv := fun d ρ => some (ρ.set i (.val d))
def bNil : List D → REnv → Option REnv := fun ds ρ => match ds with
  | [] => some ρ
  | _ => none
def bCons (b : D → REnv → Option REnv) (c : List D → REnv → Option REnv) : List D → REnv → Option REnv := fun ds ρ => match ds with
  | d :: r => (b d ρ).bind (c r)
  | [] => none
def bSeq (n : Nat) (c : List D → REnv → Option REnv) : D → REnv → Option REnv := fun d ρ => match d with
  | .tup xs => if xs.length = n then c xs ρ else none
  | .lst xs => if xs.length = n then c xs ρ else none
  | _ => none
theorem tg_name {K : PySem.W.Frag} (i : Nat) : TgOk K (gName i) (bName i) [i] := fun G F H σ ρ ρ' d v Q r rp e q => by
  cases e
  exact q _ (r.setV rp) ⟨by simp, fun j h => List.getElem?_set_ne (fun z => h (by simp [z]))⟩
theorem tgs_nil {K : PySem.W.Frag} : TgsOk K gNil bNil [] := fun G F H σ ρ ρ' ds vs Q r rp e q => by
  cases ds with
  | nil =>
    cases e
    simp only [RepL] at rp
    exact ⟨rp, q σ r .refl⟩
  | cons d ds => cases e
theorem tgs_cons {K : PySem.W.Frag} {t : TG} {t2 : TGs} {b : D → REnv → Option REnv} {c : List D → REnv → Option REnv} {is js : List Nat} (k : TgOk K t b is) (k2 : TgsOk K t2 c js) : TgsOk K (gCons t t2) (bCons b c) (is ++ js) := fun G F H σ ρ ρ' ds vs Q r rp e q => by
  cases ds with
  | nil => cases e
  | cons d ds =>
    simp only [RepL] at rp
    obtain ⟨v, rr, e1, h1, h2⟩ := rp
    have e : (b d ρ).bind (c ds) = some ρ' := e
    cases e2 : b d ρ with
    | none => rw [e2] at e; cases e
    | some ρ1 =>
      rw [e2] at e
      exact ⟨v, rr, e1, k G F H σ ρ ρ1 d v _ r h1 e2 fun σ1 r1 o1 => k2 G F H σ1 ρ1 ρ' ds rr Q r1 h2 e fun σ2 r2 o2 => q σ2 r2 (o1.trans o2)⟩
/-- (a, b, ..) = a tuple or a list of that length -/
def gSeq (K : PySem.W.Frag) (n : Nat) (t : TGs) : TG := fun v σ H Q => ∃ a xs, v = .ref a ∧ (SqT K H a xs ∨ SqL K H a xs) ∧ xs.length = n ∧ t xs σ H Q
theorem pg_seq {es : List Expr} {k : Nat} {t : TGs} {n : Nat} (hc : X.calm = true) (h : PGs X es t)
    (hn : (assignEach es X.env).length = n := by rfl) (hst : (assignEach es X.env).findIdx? (·.1) = none := by rfl) : PG X (.Tuple es k pos) (gSeq X.K n t) := by
  refine ⟨fun pins s σ H v u Q I r hw => ?_⟩
  obtain ⟨a, xs, e1, hq, hl, hw⟩ := hw
  rcases hq with hq | hq
  · exact (pg_tup hc h hn hst).run pins s σ H v u Q I r ⟨a, xs, e1, hq, hl, hw⟩
  · exact (pg_lst hc h hn hst).run pins s σ H v u Q I r ⟨a, xs, e1, hq, hl, hw⟩
theorem tg_seq {K : PySem.W.Frag} {t : TGs} {b : List D → REnv → Option REnv} {n : Nat} {is : List Nat} (kk : TgsOk K t b is) : TgOk K (gSeq K n t) (bSeq n b) is := fun G F H σ ρ ρ' d v Q r rp e q => by
  cases d with
  | tup xs =>
    obtain ⟨a, vs, h1, h2, h3⟩ := rp.tup_inv
    by_cases hl : xs.length = n
    · have e : b xs ρ = some ρ' := by
        have e0 : (if xs.length = n then b xs ρ else none) = some ρ' := e
        rw [if_pos hl] at e0
        exact e0
      exact ⟨a, vs, h1, .inl (Same.seqT r.f h2), by rw [← h3.length]; exact hl, kk G F H σ ρ ρ' xs vs Q r h3 e q⟩
    · have e0 : (if xs.length = n then b xs ρ else none) = some ρ' := e
      rw [if_neg hl] at e0
      cases e0
  | lst xs =>
    obtain ⟨a, vs, h1, h2, h3⟩ := rp.lst_inv
    by_cases hl : xs.length = n
    · have e : b xs ρ = some ρ' := by
        have e0 : (if xs.length = n then b xs ρ else none) = some ρ' := e
        rw [if_pos hl] at e0
        exact e0
      exact ⟨a, vs, h1, .inr (Same.seq r.f h2), by rw [← h3.length]; exact hl, kk G F H σ ρ ρ' xs vs Q r h3 e q⟩
    · have e0 : (if xs.length = n then b xs ρ else none) = some ρ' := e
      rw [if_neg hl] at e0
      cases e0
  | _ => cases e
def sAsg (f : REnv → R D) (b : D → REnv → Option REnv) : REnv → SR := fun ρ => (f ρ).toS ρ fun d => match b d ρ with
  | some ρ' => .next ρ'
  | none => .bad
theorem ss_asg {tg : Expr} {t : TG} {b : D → REnv → Option REnv} {is : List Nat} (he : SE X W e f) (hp : PG X tg t) (k : TgOk X.K t b is) (hs : swapsWithSole [tg] e pos.line X.env = pure false := by rfl) (hw : swappedStores [tg] e X.env = pure none := by rfl)
    (h1 : (assignEach [tg] X.env).map (·.2) = [assign tg X.env] := by rfl) : SS X W (.Assign [tg] e pos) (sAsg f b) := by
  refine (ps_asg he hp hs hw h1).dy fun D σ H ⟨G, F, ρ, r, p⟩ => ⟨G, F, ρ, r, PostS.toS r p fun d v F' H' _ ex rp r' p' => ?_⟩
  cases q : b d ρ with
  | none => rw [q] at p'; exact p'.elim
  | some ρ' =>
    rw [q] at p'
    exact k G F' H' σ ρ ρ' d v _ r' rp q fun σ' r2 _ => p' σ' F' H' (.refl _) .refl r2

/-! ### loops -/
/-- J yields the things ds -/
structure ItOk (K : PySem.W.Frag) (J : It) (ds : List D) (F : Hp) : Prop where
  go : ∀ i H, i < ds.length → Same F H → J.go i H
  stop : ∀ H, Same F H → J.stop ds.length H
  yld : ∀ i H x H' F1, i < ds.length → Same F F1 → Same F1 H → J.yld i H x H' → ∃ F2 d, Ext F1 H F2 H' ∧ ds[i]? = some d ∧ Rep K F2 d x
theorem ItOk.mono {K : PySem.W.Frag} {J : It} {ds : List D} {F F' : Hp} (h : ItOk K J ds F) (s : Same F F') : ItOk K J ds F' :=
  ⟨fun i H hi q => h.go i H hi (s.trans q), fun H q => h.stop H (s.trans q), fun i H x H' F1 hi q q1 y => h.yld i H x H' F1 hi (s.trans q) q1 y⟩
def ri (K : PySem.W.Frag) (W : WX) (f : REnv → R (List D)) : TI := fun σ H R => ∃ G F ρ, RepE K G F H σ ρ ∧ Post K W (fun F' ds (J : It) => ItOk K J ds F') σ F H (f ρ) R
abbrev SI (X : Cx) (W : WX) (tg iter : Expr) (f : REnv → R (List D)) : Prop := PI X tg iter (ri X.K W f)
def forS (b : D → REnv → Option REnv) (body : REnv → SR) : List D → REnv → SR
  | [], ρ => .next ρ
  | d :: ds, ρ => match b d ρ with
    | some ρ' => (body ρ').seq (forS b body ds)
    | none => .bad
def sFor (f : REnv → R (List D)) (b : D → REnv → Option REnv) (body : REnv → SR) : REnv → SR := fun ρ => (f ρ).toS ρ fun ds => forS b body ds ρ
theorem for_read {J : It} {ds : List D} {t : TG} {b : D → REnv → Option REnv} {body : REnv → SR} {K : PySem.W.Frag} {is : List Nat} (hg : TgOk K t b is) {D : Ends} {G F1 H1 : Hp} {σ : St} {ρ : REnv} (hJ : ItOk K J ds F1) (r : RepE K G F1 H1 σ ρ) (p : PostS K W D G F1 (forS b body ds ρ)) :
    ∃ Wv : Nat → Nat → St → Hp → Prop, (∃ m, Wv 0 m σ H1) ∧ ∀ i m σ H, Wv i m σ H →
      (J.stop i H ∧ D.nx σ H) ∨ (J.go i H ∧ ∃ N : St → Hp → Prop, (∀ σ' H', N σ' H' → ∃ m', m' < m ∧ Wv (i + 1) m' σ' H') ∧ ∀ x H', J.yld i H x H' → t x σ H' fun σ2 H2 => rs K W body { D with nx := N, ct := N, bk := D.nx } σ2 H2) := by
  let Pv : Nat → St → Hp → Prop := fun i σ H => ∃ F' ρ', Same F1 F' ∧ NewG G F1 F' ∧ RepE K G F' H σ ρ' ∧ PostS K W D G F' (forS b body (ds.drop i) ρ')
  refine ⟨fun i m σ H => m = ds.length - i ∧ i ≤ ds.length ∧ Pv i σ H, ⟨ds.length, by simp, Nat.zero_le _, F1, ρ, .refl _, .refl, r, by simpa using p⟩, ?_⟩
  rintro i m σ H ⟨rfl, hi, F', ρ', s, n, r, p⟩
  by_cases hlt : i < ds.length
  · refine .inr ⟨hJ.go i H hlt (s.trans r.f), Pv (i + 1), fun σ' H' q => ⟨ds.length - (i + 1), by omega, rfl, hlt, q⟩, fun x H' y => ?_⟩
    obtain ⟨F2, d, ex, ed, rp⟩ := hJ.yld i H x H' F' hlt s r.f y
    have dr : ds.drop i = d :: ds.drop (i + 1) := by
      obtain ⟨h1, h2⟩ := List.getElem?_eq_some_iff.mp ed
      rw [← h2]
      exact List.drop_eq_getElem_cons h1
    rw [dr] at p
    have r2 := r.ext ex
    have p2 := PostS.ext ex.f (ex.newG r.g) p
    have p3 : PostS K W D G F2 (match b d ρ' with | some ρ2 => (body ρ2).seq (forS b body (ds.drop (i + 1))) | none => .bad) := p2
    cases q : b d ρ' with
    | none => rw [q] at p3; exact p3.elim
    | some ρ2 =>
      rw [q] at p3
      refine hg G F2 H' σ ρ' ρ2 d x _ r2 rp q fun σ2 r3 _ => ⟨G, F2, ρ2, r3, ?_⟩
      refine PostS.ends (D := { D with nx := Pv (i + 1) }) (PostS.seq p3 fun ρ3 σ3 F3 H3 _ s3 n3 r4 p4 => ?_)
      exact ⟨F3, ρ3, s.trans (ex.f.trans s3), n.trans ((ex.newG r.g).trans n3), r4, p4⟩
  · have e : i = ds.length := by omega
    subst e
    rw [List.drop_length] at p
    exact .inl ⟨hJ.stop H (s.trans r.f), p σ F' H (.refl _) .refl r⟩
theorem ss_for {tg iter : Expr} {body : List Stmt} {fi : REnv → R (List D)} {t : TG} {b : D → REnv → Option REnv} {is : List Nat} (hp : PassesOwn (model X.prog X.w) X.A X.env X.xe) (hc : X.calm = true) (hi : SI X W tg iter fi) (pg : PG X tg t) (k : TgOk X.K t b is) (hb : SSs X W body g)
    (hs : ∀ x, foldedSetIterable iter X.env x = pure x := by intro _; rfl) : SS X W (.For tg iter body [] pos) (sFor fi b g) := by
  exact (ps_for hp hc hi pg hb hs).dy fun D σ H ⟨G, F, ρ, r, p⟩ => ⟨G, F, ρ, r, PostS.toS r p fun ds J F' H' _ ex rp r' p' => for_read k rp r' p'⟩

/-! ### while -/
def whileN (t : REnv → R Bool) (body : REnv → SR) : Nat → REnv → SR
  | 0, _ => .bad
  | n + 1, ρ => (t ρ).toS ρ fun k => if k = true then (body ρ).seq (whileN t body n) else .next ρ
open Classical in
noncomputable def whileS (t : REnv → R Bool) (body : REnv → SR) : REnv → SR := fun ρ => if h : ∃ n, whileN t body n ρ ≠ .bad then whileN t body (choose h) ρ else .bad
theorem whileN_mono {t : REnv → R Bool} {body : REnv → SR} : ∀ (n k : Nat) (ρ : REnv), whileN t body n ρ ≠ .bad → whileN t body (n + k) ρ = whileN t body n ρ
  | 0, k, ρ, h => absurd rfl h
  | n + 1, k, ρ, h => by
    rw [show n + 1 + k = (n + k) + 1 by omega]
    unfold whileN at h ⊢
    cases e : t ρ with
    | err e' => rfl
    | bad => rfl
    | ok c =>
      rw [e] at h
      cases c with
      | false => rfl
      | true =>
        simp only [R.toS, if_true] at h ⊢
        cases e2 : body ρ with
        | next ρ' =>
          rw [e2] at h
          exact whileN_mono n k ρ' h
        | ret d => rfl
        | err d r => rfl
        | bad => rfl
theorem whileS_of {t : REnv → R Bool} {body : REnv → SR} {n : Nat} {ρ : REnv} (h : whileN t body n ρ ≠ .bad) : whileS t body ρ = whileN t body n ρ := by
  classical
  have hx : ∃ n, whileN t body n ρ ≠ .bad := ⟨n, h⟩
  unfold whileS
  rw [dif_pos hx]
  have h2 := Classical.choose_spec hx
  have e1 := whileN_mono n (Classical.choose hx) ρ h
  have e2 := whileN_mono (Classical.choose hx) n ρ h2
  rw [← e1, Nat.add_comm, e2]
theorem whileS_ex {t : REnv → R Bool} {body : REnv → SR} {ρ : REnv} (h : whileS t body ρ ≠ .bad) : ∃ n, whileS t body ρ = whileN t body n ρ := by
  classical
  unfold whileS at h ⊢
  by_cases hx : ∃ n, whileN t body n ρ ≠ .bad
  · rw [dif_pos hx]; exact ⟨_, rfl⟩
  · rw [dif_neg hx] at h; exact absurd rfl h
theorem whileS_eq (t : REnv → R Bool) (body : REnv → SR) (ρ : REnv) : whileS t body ρ = (t ρ).toS ρ fun k => if k = true then (body ρ).seq (whileS t body) else .next ρ := by
  have one : ∀ n, whileN t body (n + 1) ρ = (t ρ).toS ρ fun k => if k = true then (body ρ).seq (whileN t body n) else .next ρ := fun n => rfl
  cases e : t ρ with
  | err e' =>
    rw [whileS_of (n := 1)]
    · rw [one, e]; rfl
    · rw [one, e]; exact fun z => by cases z
  | bad =>
    have z : ∀ n, whileN t body n ρ = .bad := fun n => by
      cases n with
      | zero => rfl
      | succ n => rw [one, e]; rfl
    unfold whileS
    rw [dif_neg (fun ⟨n, h⟩ => h (z n))]; rfl
  | ok c =>
    cases c with
    | false =>
      rw [whileS_of (n := 1)]
      · rw [one, e]; rfl
      · rw [one, e]; exact fun z => by cases z
    | true =>
      show whileS t body ρ = (body ρ).seq (whileS t body)
      have one' : ∀ n, whileN t body (n + 1) ρ = (body ρ).seq (whileN t body n) := fun n => by rw [one, e]; rfl
      cases e2 : body ρ with
      | next ρ' =>
        show whileS t body ρ = whileS t body ρ'
        by_cases hx : ∃ n, whileN t body n ρ' ≠ .bad
        · obtain ⟨n, hn⟩ := hx
          have q : whileN t body (n + 1) ρ = whileN t body n ρ' := by rw [one', e2]; rfl
          rw [whileS_of hn, whileS_of (n := n + 1) (by rw [q]; exact hn), q]
        · have z : ∀ n, whileN t body n ρ' = .bad := fun n => Classical.byContradiction fun h => hx ⟨n, h⟩
          have z2 : ∀ n, whileN t body n ρ = .bad := fun n => by
            cases n with
            | zero => rfl
            | succ n => rw [one', e2]; exact z n
          unfold whileS
          rw [dif_neg (fun ⟨n, h⟩ => h (z2 n)), dif_neg hx]
      | ret d =>
        rw [whileS_of (n := 1)]
        · rw [one', e2]; rfl
        · rw [one', e2]; exact fun z => by cases z
      | err d r =>
        rw [whileS_of (n := 1)]
        · rw [one', e2]; rfl
        · rw [one', e2]; exact fun z => by cases z
      | bad =>
        have z2 : ∀ n, whileN t body n ρ = .bad := fun n => by
          cases n with
          | zero => rfl
          | succ n => rw [one', e2]; rfl
        unfold whileS
        rw [dif_neg (fun ⟨n, h⟩ => h (z2 n))]; rfl
theorem ss_while {c : Expr} {body : List Stmt} {u : REnv → R Bool} (hp : PassesOwn (model X.prog X.w) X.A X.env X.xe) (hc : ST X W c u) (hb : SSs X W body g) : SS X W (.While c body [] pos) (whileS u g) := by
  refine (ps_while hp hc hb).dy fun D σ H ⟨G, F, ρ, r, p⟩ => ?_
  have hne : whileS u g ρ ≠ .bad := fun z => by rw [z] at p; exact p
  obtain ⟨n, en⟩ := whileS_ex hne
  rw [en] at p
  let Pv : Nat → St → Hp → Prop := fun m σ H => ∃ F' ρ', Same F F' ∧ NewG G F F' ∧ RepE X.K G F' H σ ρ' ∧ PostS X.K W D G F' (whileN u g m ρ')
  refine ⟨Pv, ⟨n, F, ρ, .refl _, .refl, r, p⟩, ?_⟩
  rintro m σ H ⟨F', ρ', s, nn, r, p⟩
  cases m with
  | zero => exact p.elim
  | succ m =>
    unfold whileN at p
    refine ⟨G, F', ρ', r, PostS.toS r p fun k v F2 H2 _ ex rp r' p' => ?_⟩
    subst rp
    cases k with
    | false => exact iteF (p' σ F2 H2 (.refl _) .refl r')
    | true =>
      refine iteT ⟨Pv m, fun σ' H' q => ⟨m, Nat.lt_succ_self m, q⟩, G, F2, ρ', r', ?_⟩
      have p' : PostS X.K W D G F2 ((g ρ').seq (whileN u g m)) := p'
      refine PostS.ends (D := { D with nx := Pv m }) (PostS.seq p' fun ρ3 σ3 F3 H3 _ s3 n3 r4 p4 => ?_)
      exact ⟨F3, ρ3, s.trans (ex.f.trans s3), nn.trans ((ex.newG r.g).trans n3), r4, p4⟩
end
end Dy

set_option Elab.async false
set_option linter.all false
set_option maxRecDepth 100000
namespace Dy
open PySem PySem.Spec PyProof.Rows L2

/-! ### what is walked -/
def iterD : D → Option (List D)
  | .lst xs => some xs
  | .tup xs => some xs
  | .str z => some (z.cps.toList.map fun c => .str ⟨#[c]⟩)
  | _ => none
section
variable {K : PySem.W.Frag} {F : Hp}
theorem it_list {a : Addr} {vs : List V} {ds : List D} (h : SqL K F a vs) (r : RepL K F ds vs) : ItOk K (Itl K a) ds F where
  go := fun i H hi s => by
    obtain ⟨v, e, _⟩ := r.get (List.getElem?_eq_getElem hi)
    exact ⟨vs, v, Same.seq s h, e⟩
  stop := fun H s => ⟨vs, Same.seq s h, by rw [← r.length]; exact Nat.le_refl _⟩
  yld := fun i H x H' F1 hi s s1 y => by
    obtain ⟨e, y⟩ := y
    subst e
    have ex := y vs (Same.seq (s.trans s1) h)
    obtain ⟨d, ed, rp⟩ := r.get' ex
    exact ⟨F1, d, .refl s1, ed, Rep.mono s _ _ rp⟩
theorem it_tup {a : Addr} {vs : List V} {ds : List D} (h : SqT K F a vs) (r : RepL K F ds vs) : ItOk K (Itt K a) ds F where
  go := fun i H hi s => by
    obtain ⟨v, e, _⟩ := r.get (List.getElem?_eq_getElem hi)
    exact ⟨vs, v, Same.seqT s h, e⟩
  stop := fun H s => ⟨vs, Same.seqT s h, by rw [← r.length]; exact Nat.le_refl _⟩
  yld := fun i H x H' F1 hi s s1 y => by
    obtain ⟨e, y⟩ := y
    subst e
    have ex := y vs (Same.seqT (s.trans s1) h)
    obtain ⟨d, ed, rp⟩ := r.get' ex
    exact ⟨F1, d, .refl s1, ed, Rep.mono s _ _ rp⟩
theorem it_str {z : Str} : ItOk K (Its z) (z.cps.toList.map fun c => .str ⟨#[c]⟩) F where
  go := fun i H hi s => by
    show i < z.cps.size
    simpa using hi
  stop := fun H s => by
    show z.cps.size ≤ _
    simp
  yld := fun i H x H' F1 hi s s1 y => by
    obtain ⟨e, c, ec, ex⟩ := y
    subst e
    subst ex
    refine ⟨F1, .str ⟨#[c]⟩, .refl s1, ?_, Rep.mk_str⟩
    simp [ec]
def rangeD (lo : Int) (n : Nat) : List D := (List.range n).map fun (i : Nat) => .int (lo + (i : Int))
theorem it_range {lo : Int} {n : Nat} : ItOk K (Itr lo n) (rangeD lo n) F where
  go := fun i H hi s => by
    show i < n
    simpa [rangeD] using hi
  stop := fun H s => by show n ≤ _; simp [rangeD]
  yld := fun i H x H' F1 hi s s1 y => by
    obtain ⟨e, ex⟩ := y
    subst e
    subst ex
    have hi : i < n := by simpa [rangeD] using hi
    refine ⟨F1, .int (lo + i), .refl s1, ?_, Rep.mk_int⟩
    simp [rangeD, hi]
def rangeC (lo c : Int) (n : Nat) : List D := (List.range n).map fun (i : Nat) => .int (lo + (i : Int) * c)
def enumD (ds : List D) : List D := (List.range ds.length).map fun (i : Nat) => .tup [.int (i : Int), ds.getD i .non]
def zipD (xs ys : List D) : List D := (xs.zip ys).map fun p => .tup [p.1, p.2]
theorem zipD_get {xs ys : List D} {i : Nat} {x y : D} (h : xs[i]? = some x) (h2 : ys[i]? = some y) : (zipD xs ys)[i]? = some (.tup [x, y]) := by
  have q : (xs.zip ys)[i]? = some (x, y) := List.getElem?_zip_eq_some.mpr ⟨h, h2⟩
  simp [zipD, q]
theorem it_zip {a b : Addr} {vs ws : List V} {xs ys : List D} (h : SqL K F a vs) (r : RepL K F xs vs) (h2 : SqL K F b ws) (r2 : RepL K F ys ws) : ItOk K (Itz K a b) (zipD xs ys) F where
  go := fun i H hi s => by
    have hi : i < xs.length ∧ i < ys.length := by simpa [zipD, Nat.lt_min] using hi
    obtain ⟨v, e, _⟩ := r.get (List.getElem?_eq_getElem hi.1)
    obtain ⟨w, e2, _⟩ := r2.get (List.getElem?_eq_getElem hi.2)
    exact ⟨vs, ws, v, w, Same.seq s h, Same.seq s h2, e, e2⟩
  stop := fun H s => ⟨vs, ws, Same.seq s h, Same.seq s h2, by
    rw [← r.length, ← r2.length]
    simp only [zipD, List.length_map, List.length_zip]
    omega⟩
  yld := fun i H x H' F1 hi s s1 y => by
    obtain ⟨T, v, w, e1, hT, e2, y, y2⟩ := y
    subst e1
    subst e2
    obtain ⟨d, ed, rp⟩ := r.get' (y vs (Same.seq (s.trans s1) h))
    obtain ⟨d2, ed2, rp2⟩ := r2.get' (y2 ws (Same.seq (s.trans s1) h2))
    have ex : Ext F1 H (upd F1 T (.tup [v, w])) (upd H T (.tup [v, w])) := Ext.new s1 hT
    exact ⟨_, _, ex, zipD_get ed ed2, Rep.mk_tup (.of upd_same) (RepL.cons (Rep.mono (s.trans ex.f) _ _ rp) (RepL.cons (Rep.mono (s.trans ex.f) _ _ rp2) RepL.nil))⟩
theorem it_zipT {a b : Addr} {vs ws : List V} {xs ys : List D} (h : SqT K F a vs) (r : RepL K F xs vs) (h2 : SqT K F b ws) (r2 : RepL K F ys ws) : ItOk K (RZ.ItzT K a b) (zipD xs ys) F where
  go := fun i H hi s => by
    have hi : i < xs.length ∧ i < ys.length := by simpa [zipD, Nat.lt_min] using hi
    obtain ⟨v, e, _⟩ := r.get (List.getElem?_eq_getElem hi.1)
    obtain ⟨w, e2, _⟩ := r2.get (List.getElem?_eq_getElem hi.2)
    exact ⟨vs, ws, v, w, Same.seqT s h, Same.seqT s h2, e, e2⟩
  stop := fun H s => ⟨vs, ws, Same.seqT s h, Same.seqT s h2, by
    rw [← r.length, ← r2.length]
    simp only [zipD, List.length_map, List.length_zip]
    omega⟩
  yld := fun i H x H' F1 hi s s1 y => by
    obtain ⟨T, v, w, e1, hT, e2, y, y2⟩ := y
    subst e1
    subst e2
    obtain ⟨d, ed, rp⟩ := r.get' (y vs (Same.seqT (s.trans s1) h))
    obtain ⟨d2, ed2, rp2⟩ := r2.get' (y2 ws (Same.seqT (s.trans s1) h2))
    have ex : Ext F1 H (upd F1 T (.tup [v, w])) (upd H T (.tup [v, w])) := Ext.new s1 hT
    exact ⟨_, _, ex, zipD_get ed ed2, Rep.mk_tup (.of upd_same) (RepL.cons (Rep.mono (s.trans ex.f) _ _ rp) (RepL.cons (Rep.mono (s.trans ex.f) _ _ rp2) RepL.nil))⟩
end

/-- a list, a tuple or a text, walked -/
def iAny (K : PySem.W.Frag) (tl : TE) : TI := fun σ H R => tl σ H fun x H1 => (∃ a, x = .ref a ∧ (∃ xs, SqL K H1 a xs) ∧ R (Itl K a) H1) ∨ (∃ a, x = .ref a ∧ (∃ xs, SqT K H1 a xs) ∧ R (Itt K a) H1) ∨ ∃ z, x = .str z ∧ R (Its z) H1
theorem pi_any {X : Cx} {tg l : Expr} {tl : TE} (hl : PE X l tl) : PI X tg l (iAny X.K tl) := by
  refine ⟨fun pins s σ H R I h => ?_⟩
  refine thn (hl.run pins s σ H _ I h) fun v s1 ⟨x, H1, I1, r1, q1⟩ => ?_
  rcases q1 with ⟨a, e, ⟨xs, hq⟩, q⟩ | ⟨a, e, ⟨xs, hq⟩, q⟩ | ⟨z, e, q⟩
  · subst e
    cases r1
    obtain ⟨its, rv, p, hz⟩ := I1.list hq
    refine wpAny_pyIter_list p.isList ?_
    refine ⟨s1.heap.objs.size, [s1.heap.objs.size], _, _, H1, rfl, I1.kept (t' := s1.toks) fun b o e => Heap.get?_push_of_some _ e, turn_list a _, ⟨_, Heap.get?_push_size _ rfl, rfl, rfl⟩, fun b hb => ?_, q⟩
    have e : b = s1.heap.objs.size := by simpa using hb
    subst e
    exact I1.fpOk (Nat.le_refl _) (I1.hok.fresh (Nat.le_refl _))
  · subst e
    cases r1
    obtain ⟨its, rv, p, hz⟩ := I1.tuple hq
    refine wpAny_pyIter_tuple (show s1.heap.IsTuple a its.toArray from p) ?_
    refine ⟨s1.heap.objs.size, [s1.heap.objs.size], _, _, H1, rfl, I1.kept (t' := s1.toks) fun b o e => Heap.get?_push_of_some _ e, turn_tuple a _, ⟨_, Heap.get?_push_size _ rfl, rfl, rfl⟩, fun b hb => ?_, q⟩
    have e : b = s1.heap.objs.size := by simpa using hb
    subst e
    exact I1.fpOk (Nat.le_refl _) (I1.hok.fresh (Nat.le_refl _))
  · subst e
    obtain ⟨t, rfl⟩ := r1
    cases ha : z.cps.all (· < 128)
    · exact wpAny_pyIter_wide ha (pi_one (tk := s1.toks) I1 _ (turn_str _ z t "str_iterator" (.inr rfl)) ⟨_, Heap.get?_push_size _ rfl, rfl, rfl⟩ q)
    · exact wpAny_pyIter_ascii ha (pi_one (tk := s1.toks) I1 _ (turn_str _ z t "str_ascii_iterator" (.inl rfl)) ⟨_, Heap.get?_push_size _ rfl, rfl, rfl⟩ q)
section
variable {X : Cx} {W : WX} {tg e e1 e2 e3 : Expr} {es elts : List Expr} {f : REnv → R D} {t : REnv → R (List D)} {pos p tpos : Pos} {kk : Nat}
def iD (f : REnv → R D) : REnv → R (List D) := fun ρ => (f ρ).bind fun d => .opt (iterD d)
theorem si_any (h : SE X W e f) : SI X W tg e (iD f) := by
  refine ⟨fun pins s σ H R I q => (pi_any (tg := tg) h).run pins s σ H R I ?_⟩
  obtain ⟨G, F, ρ, r, p⟩ := q
  refine ⟨G, F, ρ, r, Post.bind p fun d v F' H' _ ex rp p' => ?_⟩
  cases d with
  | lst xs =>
    obtain ⟨a, vs, e1, h1, h2⟩ := rp.lst_inv
    exact .inl ⟨a, e1, ⟨vs, Same.seq ex.s h1⟩, p' _ F' H' (.refl ex.s) (it_list h1 h2)⟩
  | tup xs =>
    obtain ⟨a, vs, e1, h1, h2⟩ := rp.tup_inv
    exact .inr (.inl ⟨a, e1, ⟨vs, Same.seqT ex.s h1⟩, p' _ F' H' (.refl ex.s) (it_tup h1 h2)⟩)
  | str z => exact .inr (.inr ⟨z, rp.str_inv, p' _ F' H' (.refl ex.s) it_str⟩)
  | _ => exact p'.elim
def Sm (i : Int) : Prop := -(2 ^ 62) ≤ i ∧ i < 2 ^ 62
instance (i : Int) : Decidable (Sm i) := inferInstanceAs (Decidable (_ ∧ _))
def range1 : List D → Option (List D)
  | [.int n] => if Sm n then some (rangeD 0 n.toNat) else none
  | _ => none
def range2 : List D → Option (List D)
  | [.int m, .int n] => if Sm m ∧ Sm n then some (rangeD m (n - m).toNat) else none
  | _ => none
def iArgs (o : List D → Option (List D)) (t : REnv → R (List D)) : REnv → R (List D) := fun ρ => (t ρ).bind fun ds => .opt (o ds)
theorem Post.opt {α β : Type} {K : PySem.W.Frag} {W : WX} {rel : Hp → α → β → Prop} {σ : St} {F H : Hp} {x : Option α} {Q : β → Hp → Prop} (h : Post K W rel σ F H (.opt x) Q) : ∃ a, x = some a ∧ ∀ v F' H', Ext F H F' H' → rel F' a v → Q v H' := by
  cases x with
  | none => exact h.elim
  | some a => exact ⟨a, rfl, h⟩
theorem RepL.one {K : PySem.W.Frag} {F : Hp} {a : D} {vs : List V} (h : RepL K F [a] vs) : ∃ v, vs = [v] ∧ Rep K F a v := by
  simp only [RepL] at h
  obtain ⟨v, r, e, h1, h2⟩ := h
  subst h2
  exact ⟨v, e, h1⟩
theorem RepL.two {K : PySem.W.Frag} {F : Hp} {a b : D} {vs : List V} (h : RepL K F [a, b] vs) : ∃ v w, vs = [v, w] ∧ Rep K F a v ∧ Rep K F b w := by
  simp only [RepL] at h
  obtain ⟨v, r, e, h1, w, r2, e2, h2, h3⟩ := h
  subst h3
  subst e2
  exact ⟨v, w, e, h1, h2⟩
theorem range1_inv {ds rs : List D} (h : range1 ds = some rs) : ∃ n, ds = [.int n] ∧ Sm n ∧ rs = rangeD 0 n.toNat := by
  unfold range1 at h
  split at h
  · split at h
    · cases h; exact ⟨_, rfl, by assumption, rfl⟩
    · cases h
  · cases h
theorem range2_inv {ds rs : List D} (h : range2 ds = some rs) : ∃ m n, ds = [.int m, .int n] ∧ Sm m ∧ Sm n ∧ rs = rangeD m (n - m).toNat := by
  unfold range2 at h
  split at h
  · split at h
    · rename_i z
      cases h; exact ⟨_, _, rfl, z.1, z.2, rfl⟩
    · cases h
  · cases h
theorem si_range1 (hm : X.mg "range" = none) (ha : SA X W [e] t) (hg : Gl X "range" := by rfl) (hs : starEach [e] X.env = [(false, eval e X.env)] := by rfl) : SI X W tg (.Call (.Name "range" p) [e] [] pos) (iArgs range1 t) := by
  refine ⟨fun pins s σ H R I q => (pi_range1 (tg := tg) hg hm ha hs).run pins s σ H R I ?_⟩
  obtain ⟨G, F, ρ, r, p⟩ := q
  refine ⟨G, F, ρ, r, Post.bind p fun ds vs F' H' _ ex rp p' => ?_⟩
  obtain ⟨rs, e1, q⟩ := Post.opt p'
  obtain ⟨n, rfl, hS, rfl⟩ := range1_inv e1
  obtain ⟨v, rfl, h1⟩ := rp.one
  exact ⟨n, by rw [h1.int_inv], hS.1, hS.2, q _ F' H' (.refl ex.s) it_range⟩
theorem si_range2 (hm : X.mg "range" = none) (ha : SA X W [e1, e2] t) (hg : Gl X "range" := by rfl) (hs : starEach [e1, e2] X.env = [(false, eval e1 X.env), (false, eval e2 X.env)] := by rfl) (hs2 : starEach [e2] X.env = [(false, eval e2 X.env)] := by rfl) :
    SI X W tg (.Call (.Name "range" p) [e1, e2] [] pos) (iArgs range2 t) := by
  refine ⟨fun pins s σ H R I q => (pi_range2 (tg := tg) hg hm ha hs hs2).run pins s σ H R I ?_⟩
  obtain ⟨G, F, ρ, r, p⟩ := q
  refine ⟨G, F, ρ, r, Post.bind p fun ds vs F' H' _ ex rp p' => ?_⟩
  obtain ⟨rs, e1, q⟩ := Post.opt p'
  obtain ⟨m, n, rfl, hS, hS2, rfl⟩ := range2_inv e1
  obtain ⟨v, w, rfl, h1, h2⟩ := rp.two
  exact ⟨m, n, by rw [h1.int_inv, h2.int_inv], ⟨hS.1, hS.2, hS2.1, hS2.2⟩, q _ F' H' (.refl ex.s) it_range⟩
def enum1 : List D → Option (List D)
  | [.lst xs] => some (enumD xs)
  | _ => none
def zip2 : List D → Option (List D)
  | [.lst xs, .lst ys] => some (zipD xs ys)
  | [.tup xs, .tup ys] => some (zipD xs ys)
  | _ => none
theorem zip2_inv {ds rs : List D} (h : zip2 ds = some rs) : ∃ xs ys, (ds = [.lst xs, .lst ys] ∨ ds = [.tup xs, .tup ys]) ∧ rs = zipD xs ys := by
  unfold zip2 at h
  split at h
  · cases h; exact ⟨_, _, .inl rfl, rfl⟩
  · cases h; exact ⟨_, _, .inr rfl, rfl⟩
  · cases h
theorem si_zip (hm : X.mg "zip" = none) (ha : SA X W [e1, e2] t) (hg : Gl X "zip" := by rfl) (hs : starEach [e1, e2] X.env = (false, eval e1 X.env) :: starEach [e2] X.env := by rfl) (hpl : (backTo pos (starEach [e2] X.env)).any (·.1) = false := by rfl) :
    SI X W (.Tuple elts kk tpos) (.Call (.Name "zip" p) [e1, e2] [] pos) (iArgs zip2 t) := by
  refine ⟨fun pins s σ H R I q => (RZ.pi_zipA hg hm ha hs hpl).run pins s σ H R I ?_⟩
  obtain ⟨G, F, ρ, r, p⟩ := q
  refine ⟨G, F, ρ, r, Post.bind p fun ds vs F' H' _ ex rp p' => ?_⟩
  obtain ⟨rs, e1, q⟩ := Post.opt p'
  obtain ⟨xs, ys, hds, rfl⟩ := zip2_inv e1
  rcases hds with rfl | rfl
  · obtain ⟨v, w, rfl, h1, h2⟩ := rp.two
    obtain ⟨a, ws, rfl, h3, h4⟩ := h1.lst_inv
    obtain ⟨b, us, rfl, h6, h7⟩ := h2.lst_inv
    exact ⟨a, b, ws, us, rfl, .inl ⟨Same.seq ex.s h3, Same.seq ex.s h6, q _ F' H' (.refl ex.s) (it_zip h3 h4 h6 h7)⟩⟩
  · obtain ⟨v, w, rfl, h1, h2⟩ := rp.two
    obtain ⟨a, ws, rfl, h3, h4⟩ := h1.tup_inv
    obtain ⟨b, us, rfl, h6, h7⟩ := h2.tup_inv
    exact ⟨a, b, ws, us, rfl, .inr ⟨Same.seqT ex.s h3, Same.seqT ex.s h6, q _ F' H' (.refl ex.s) (it_zipT h3 h4 h6 h7)⟩⟩
end

/-! ### comprehensions -/
def R.get {α : Type} : R α → Option α
  | .ok a => some a
  | _ => none
def wipeE (ρ : REnv) : List Nat → REnv
  | [] => ρ
  | v :: vs => (wipeE ρ vs).set v .un
theorem RepE.wipe {K : PySem.W.Frag} {G F H : Hp} {σ : St} {ρ : REnv} (r : RepE K G F H σ ρ) : ∀ vs : List Nat, RepE K G F H (L2.wipe σ vs) (wipeE ρ vs)
  | [] => r
  | v :: vs => (RepE.wipe r vs).unset
theorem wipe_in {σ : St} {j : Nat} : ∀ {vs : List Nat}, j ∈ vs → (L2.wipe σ vs)[j]? = if j < σ.length then some none else none
  | v :: vs, h => by
    unfold L2.wipe
    by_cases e : v = j
    · subst e
      rw [List.getElem?_set, if_pos rfl]
      rw [wipe_length]
    · rw [List.getElem?_set_ne e]
      exact wipe_in (by rcases List.mem_cons.mp h with z | z; exact absurd z.symm e; exact z)
theorem wipe_only {σ σ' : St} {vs is : List Nat} (h : OnlyAt is (L2.wipe σ vs) σ') (hs : ∀ i ∈ is, i ∈ vs) : L2.wipe σ' vs = L2.wipe σ vs := by
  have hl : σ'.length = σ.length := by rw [h.1, wipe_length]
  apply List.ext_getElem?
  intro j
  by_cases hj : j ∈ vs
  · rw [wipe_in hj, wipe_in hj, hl]
  · rw [wipe_out hj, h.2 j fun z => hj (hs j z)]
def compS (b : D → REnv → Option REnv) (c : REnv → R Bool) (e : REnv → R D) : List D → REnv → Option (List D)
  | [], _ => some []
  | d :: ds, ρ => (b d ρ).bind fun ρ' => (c ρ').get.bind fun k => if k = true then (e ρ').get.bind fun v => (compS b c e ds ρ).bind fun r => some (v :: r) else compS b c e ds ρ
def eComp (vs : List Nat) (f : REnv → R (List D)) (b : D → REnv → Option REnv) (c : REnv → R Bool) (e : REnv → R D) : REnv → R D :=
  fun ρ => (f ρ).bind fun ds => if ds.length ≤ sizeLine then .opt ((compS b c e ds (wipeE ρ vs)).map .lst) else .bad
/-- inside a comprehension nothing may be raised -/
abbrev W0 : WX := fun _ _ _ _ => False
theorem Post.get {α β : Type} {K : PySem.W.Frag} {rel : Hp → α → β → Prop} {σ : St} {F H : Hp} {x : R α} {a : α} {Q : β → Hp → Prop} (e : x.get = some a) (q : ∀ v F' H', Ext F H F' H' → rel F' a v → Q v H') : Post K W0 rel σ F H x Q := by
  cases x with
  | ok b => cases e; exact q
  | err d => cases e
  | bad => cases e
theorem comp_core {K : PySem.W.Frag} {vs is : List Nat} {t : TG} {b : D → REnv → Option REnv} {c : REnv → R Bool} {e : REnv → R D} (hk : TgOk K t b is) (hs : ∀ i ∈ is, i ∈ vs) {σ : St} {Q : VK} {G F1 H1 : Hp} {ρ0 : REnv} {ds res : List D} {J : It}
    (r1 : RepE K G F1 H1 (L2.wipe σ vs) ρ0) (hJ : ItOk K J ds F1) (hl : ds.length ≤ sizeLine) (hr : compS b c e ds ρ0 = some res) (p2 : ∀ v F' H', Ext F1 H1 F' H' → Rep K F' (.lst res) v → Q v H') :
    ∀ D, H1 D = none → ∃ W : Nat → Nat → Hp → Prop, (∃ m, W 0 m (upd H1 D (.lst []))) ∧ ∀ i m H, W i m H →
  (J.stop i H ∧ Q (.ref D) H) ∨ (J.go i H ∧ ∃ Nx : Hp → Prop, (∀ H', Nx H' → ∃ m', m' < m ∧ W (i + 1) m' H') ∧ ∀ x H', J.yld i H x H' → t x (L2.wipe σ vs) H' fun σ2 H2 => L2.wipe σ2 vs = L2.wipe σ vs ∧ (rt K W0 c) σ2 H2 fun b H3 =>
    if b = true then (rd K W0 e) σ2 H3 fun y H4 => ∃ acc, H4 D = some (.lst acc) ∧ acc.length < sizeLine ∧ Nx (upd H4 D (.lst (acc ++ [y]))) else Nx H3) := by
  intro A hA
  let Pv : Nat → Hp → Prop := fun i H => ∃ F' acc ws rest, Ext F1 H1 F' H ∧ F' A = none ∧ H A = some (.lst ws) ∧ RepL K F' acc ws ∧ acc.length ≤ i ∧ compS b c e (ds.drop i) ρ0 = some rest ∧ acc ++ rest = res
  have hF1 : F1 A = none := r1.f.free hA
  refine ⟨fun i m H => m = ds.length - i ∧ i ≤ ds.length ∧ Pv i H, ⟨ds.length, by simp, Nat.zero_le _, F1, [], [], res, Ext.newH r1.f hA, hF1, upd_same, RepL.nil, Nat.le_refl _, by simpa using hr, rfl⟩, ?_⟩
  rintro i m H2 ⟨rfl, hi, F', acc, ws, rest, ex, hFA, hHA, rl, hal, hc, he⟩
  by_cases hlt : i < ds.length
  · refine .inr ⟨hJ.go i H2 hlt (ex.f.trans ex.s), Pv (i + 1), fun H' q => ⟨ds.length - (i + 1), by omega, rfl, hlt, q⟩, fun x H' y => ?_⟩
    obtain ⟨F2, d, ex2, ed, rp⟩ := hJ.yld i H2 x H' F' hlt ex.f ex.s y
    have dr : ds.drop i = d :: ds.drop (i + 1) := by
      obtain ⟨h1, h2⟩ := List.getElem?_eq_some_iff.mp ed
      rw [← h2]
      exact List.drop_eq_getElem_cons h1
    rw [dr] at hc
    unfold compS at hc
    obtain ⟨ρ', hb, hc⟩ := Option.bind_eq_some_iff.mp hc
    obtain ⟨k, hk1, hc⟩ := Option.bind_eq_some_iff.mp hc
    have r2 : RepE K G F2 H' (L2.wipe σ vs) ρ0 := r1.ext (ex.trans ex2)
    refine hk G F2 H' _ _ ρ' d x _ r2 rp hb fun σ2 r3 o2 => ⟨wipe_only o2 hs, G, F2, ρ', r3, Post.get hk1 fun k' F3 H3 ex3 ek => ?_⟩
    subst ek
    have stay : ∀ {Fa Ha Fb Hb : Hp}, Ext Fa Ha Fb Hb → Fa A = none → Ha A = some (.lst ws) → Fb A = none ∧ Hb A = some (.lst ws) := fun {Fa Ha Fb Hb} z h1 h2 => by
      refine ⟨?_, z.h _ _ h2⟩
      cases q : Fb A with
      | none => rfl
      | some o =>
        have := z.n A o q h1
        rw [h2] at this
        cases this
    obtain ⟨a2, b2⟩ := stay ex2 hFA hHA
    obtain ⟨a3, b3⟩ := stay ex3 a2 b2
    cases k with
    | false =>
      refine iteF ?_
      rw [if_neg Bool.false_ne_true] at hc
      exact ⟨F3, acc, ws, rest, (ex.trans ex2).trans ex3, a3, b3, RepL.mono (ex2.f.trans ex3.f) _ _ rl, Nat.le_succ_of_le hal, hc, he⟩
    | true =>
      refine iteT ?_
      rw [if_pos rfl] at hc
      obtain ⟨v, hv, hc⟩ := Option.bind_eq_some_iff.mp hc
      obtain ⟨rr, hr2, hc⟩ := Option.bind_eq_some_iff.mp hc
      cases hc
      refine ⟨G, F3, ρ', r3.ext ex3, Post.get hv fun y F4 H4 ex4 ry => ?_⟩
      obtain ⟨a4, b4⟩ := stay ex4 a3 b3
      have exA := ((ex.trans ex2).trans ex3).trans ex4
      refine ⟨ws, b4, ?_, F4, acc ++ [v], ws ++ [y], rr, ⟨exA.f, fun q o z => ?_, fun q o z => ?_, exA.n⟩, a4, upd_same, (RepL.mono ((ex2.f.trans ex3.f).trans ex4.f) _ _ rl).snoc ry, ?_, hr2, by simpa using he⟩
      · rw [← rl.length]; omega
      · rw [upd_ne (ne_of_none z hA)]; exact exA.h _ _ z
      · rw [upd_ne (ne_of_none z a4)]; exact exA.s _ _ z
      · simp; omega
  · have e : i = ds.length := by omega
    subst e
    rw [List.drop_length] at hc
    unfold compS at hc
    cases hc
    rw [List.append_nil] at he
    subst he
    refine .inl ⟨hJ.stop H2 (ex.f.trans ex.s), p2 (.ref A) (upd F' A (.lst ws)) H2 ⟨ex.f.trans (same_upd hFA), ex.h, fun q o z => ?_, fun q o z z2 => ?_⟩ (Rep.mk_lst (.of upd_same) (RepL.mono (same_upd hFA) _ _ rl))⟩
    · by_cases hq : q = A
      · subst hq; rw [upd_same] at z; rw [← z]; exact hHA
      · rw [upd_ne hq] at z; exact ex.s _ _ z
    · by_cases hq : q = A
      · subst hq; exact hA
      · rw [upd_ne hq] at z; exact ex.n _ _ z z2
theorem comp_read {K : PySem.W.Frag} {W : WX} {vs is : List Nat} {fi : REnv → R (List D)} {t : TG} {b : D → REnv → Option REnv} {c : REnv → R Bool} {e : REnv → R D} (hk : TgOk K t b is) (hs : ∀ i ∈ is, i ∈ vs) {σ : St} {H : Hp} {Q : VK}
    (hh : rd K W (eComp vs fi b c e) σ H Q) : tLc (ri K W fi) t (rt K W0 c) (rd K W0 e) vs σ H Q := by
  obtain ⟨G, F, ρ, r0, p⟩ := hh
  refine ⟨G, F, ρ, r0, Post.bind p fun ds J F1 H1 _ ex1 hJ p1 => ?_⟩
  have r1 := (r0.ext ex1).wipe vs
  by_cases hl : ds.length ≤ sizeLine
  case neg => rw [if_neg hl] at p1; exact p1.elim
  rw [if_pos hl] at p1
  cases hr : compS b c e ds (wipeE ρ vs) with
  | none => rw [hr] at p1; exact p1.elim
  | some res =>
    rw [hr] at p1
    exact comp_core hk hs r1 hJ hl hr p1
section
variable {X : Cx} {W : WX} {elt tg iter : Expr} {ifs : List Expr} {scope : Scope} {own : List (Str × Nat)} {pos : Pos} {fi : REnv → R (List D)} {t : TG} {b : D → REnv → Option REnv} {c : REnv → R Bool} {e : REnv → R D} {is : List Nat}
abbrev SIf (X : Cx) (W : WX) (ifs : List Expr) (f : REnv → R Bool) : Prop := PTs X ifs (rt X.K W f)
def eYes : REnv → R Bool := fun _ => .ok true
theorem sif_nil : SIf X W [] eYes := ⟨fun pins s σ H Q I ⟨G, F, ρ, r, p⟩ => pts_nil.run pins s σ H Q I (p true F H (.refl r.f) rfl)⟩
theorem sif_one {a : Expr} (h : ST X W a c) : SIf X W [a] c := pts_one h
/-- the block's context -/
abbrev Bl (X : Cx) (s : Shared) (H : Hp) (scope : Scope) (C : Addr) (cl : List (Str × Addr)) (fp : List Addr) : Cx := X.blk s H scope (compEnvC scope cl C X.env) fp
theorem se_comp (hc : X.calm = true) (hN : X.N.Nodup) (ok : BlkOk X.N X.env.scope scope own) (hi : SI X W tg iter fi) (hk : TgOk X.K t b is) (hg : ∀ s H C cl fp, PG (Bl X s H scope C cl fp) tg t) (ht : ∀ s H C cl fp, SIf (Bl X s H scope C cl fp) W0 ifs c)
    (he : ∀ s H C cl fp, SE (Bl X s H scope C cl fp) W0 elt e) (hsub : (is.all fun i => (own.map (·.2)).contains i) = true := by decide)
    (hs : ∀ x, foldedSetIterable iter X.env x = pure x := by intro _; rfl) : SE X W (.ListComp elt [⟨tg, iter, ifs, 0⟩] scope pos) (eComp (own.map (·.2)) fi b c e) :=
  (pe_lc hc hN hi ok hg ht he hs).dy fun σ H Q hh => comp_read hk (fun i h => List.contains_iff_mem.mp (List.all_eq_true.mp hsub i h)) hh
theorem ss_setc {i : Nat} {y : Str} {py spos : Pos} (hc : X.calm = true) (hN : X.N.Nodup) (hsw : swapsWith (.ListComp elt [⟨tg, iter, ifs, 0⟩] scope pos) (some (.Name y py)) spos.line X.env = pure true) (ok : BlkOk X.N X.env.scope scope own)
    (hi : SI X W tg iter fi) (hk : TgOk X.K t b is) (hg : ∀ s H C cl fp, PG (Bl X s H scope C cl fp) tg t) (ht : ∀ s H C cl fp, SIf (Bl X s H scope C cl fp) W0 ifs c)
    (he : ∀ s H C cl fp, SE (Bl X s H scope C cl fp) W0 elt e) (hy : X.N[i]? = some y := by rfl) (hyl : X.env.scope.names.lookup y = some .local := by rfl) (hsub : (is.all fun i => (own.map (·.2)).contains i) = true := by decide)
    (hs : ∀ x, foldedSetIterable iter X.env x = pure x := by intro _; rfl) : SS X W (.Assign [.Name y py] (.ListComp elt [⟨tg, iter, ifs, 0⟩] scope pos) spos) (sSet i (eComp (own.map (·.2)) fi b c e)) :=
  (ps_setLc hc hN hy hyl hsw hi ok hg ht he hs).dy fun D σ H ⟨G, F, ρ, r, p⟩ => comp_read (Q := fun x H1 => gName i x σ H1 D.nx) hk (fun i h => List.contains_iff_mem.mp (List.all_eq_true.mp hsub i h))
    ⟨G, F, ρ, r, PostS.toS r p fun d v F' H' _ ex rp r' p' => p' _ F' H' (.refl _) .refl (r'.setV rp)⟩
end

/-! ### defs -/
def spD (K : PySem.W.Frag) (n : Nat) (fn : List D → R D) : Sp := fun vs H Q E => vs.length = n ∧ ∃ F ds, Same F H ∧ RepL K F ds vs ∧ Post K (fun cls dd _ H' => E cls dd H') (Rep K) [] F H (fn ds) Q
def SR.out : SR → R D
  | .next _ => .ok .non
  | .ret d => .ok d
  | .err e _ => .err e
  | .bad => .bad
/-- a def by its body: n parameters, m slots in all -/
def fnD (n m : Nat) (g : REnv → SR) : List D → R D := fun ds => if ds.length = n then (g (ds.map .val ++ List.replicate (m - n) .un)).out else .bad
theorem fnD_len {n m : Nat} {g : REnv → SR} {ds : List D} (h : ds.length ≠ n) : fnD n m g ds = .bad := if_neg h
section
variable {P : Program} {w : World} {K : PySem.W.Frag} {mg : Str → Option Value} {base : Heap} {x qual : Str} {params : Arguments} {body : List Stmt} {scope : Scope} {f : Addr} {fd : FuncData} {N ps : List Str} {k : Nat}
abbrev CxD (P : Program) (w : World) (K : PySem.W.Frag) (mg : Str → Option Value) (base : Heap) (N : List Str) (qual : Str) (scope : Scope) (f : Addr) (cd : Value) (A : Around) (outer : List Env) (s : Shared) (H : Hp) (E : XK) : Cx := cxOf (L2.CX P w) P w K mg base N qual scope f cd A outer s H E
abbrev WD (E : XK) : WX := fun cls dd _ H => E cls dd H
theorem repE_start {F H : Hp} {ds : List D} {vs : List V} (s : Same F H) (r : RepL K F ds vs) : RepE K H F H (L2.start N vs) (ds.map .val ++ List.replicate (N.length - ds.length) .un) := by
  have hl := r.length
  refine ⟨.refl _, s, by unfold L2.start; simp [hl], fun i sl x h1 h2 => ?_, fun i j sl t x y a hij h1 h2 h3 h4 m1 m2 => ?_⟩
  · by_cases hi : i < ds.length
    · rw [List.getElem?_append_left (by simpa using hi), List.getElem?_map] at h1
      obtain ⟨v, ev, rv⟩ := r.get (List.getElem?_eq_getElem hi)
      rw [List.getElem?_eq_getElem hi] at h1
      cases h1
      unfold L2.start at h2
      rw [List.getElem?_append_left (by simpa [← hl] using hi), List.getElem?_map, ev] at h2
      cases h2
      exact ⟨v, rfl, rv⟩
    · rw [List.getElem?_append_right (by simpa using hi), List.getElem?_replicate] at h1
      split at h1
      · cases h1; trivial
      · cases h1
  · by_cases hi : i < ds.length
    · rw [List.getElem?_append_left (by simpa using hi), List.getElem?_map, List.getElem?_eq_getElem hi] at h1
      cases h1
      exact m1.elim
    · rw [List.getElem?_append_right (by simpa using hi), List.getElem?_replicate] at h1
      split at h1
      · cases h1; exact m1.elim
      · cases h1
theorem ok_def {n : Nat} {g : REnv → SR} (Fn : FunD K x qual params body scope [] [] f fd) (S : FnScope N ps scope) (hn : ps.length = n)
    (hb : ∀ (cdv : Value) (A : Around) (outer : List Env) (s : Shared) (H : Hp) (E : XK), Room k (CxD P w K mg base N qual scope f cdv A outer s H E).A → Takes (CxD P w K mg base N qual scope f cdv A outer s H E) (WD E) →
      PassesOwn (model P w) (CxD P w K mg base N qual scope f cdv A outer s H E).A (CxD P w K mg base N qual scope f cdv A outer s H E).env (CxD P w K mg base N qual scope f cdv A outer s H E).xe → SSs (CxD P w K mg base N qual scope f cdv A outer s H E) (WD E) body g) :
    FnOk P w K mg base (L2.CX P w) (k + 1) f fd ps (spD K n (fnD n N.length g)) := by
  refine Fn.ok S (fun vs H Q E h => by rw [hn]; exact h.1) fun cdv A outer s H vs Q E hr hsp => ⟨_, hb cdv A outer s H E hr (takes_of rfl rfl rfl rfl) (passes_of rfl), ?_⟩
  obtain ⟨hv, F, ds, sm, rl, p⟩ := hsp
  have hd : ds.length = n := by rw [rl.length, hv]
  unfold fnD at p
  rw [if_pos hd] at p
  refine ⟨H, F, _, repE_start sm rl, ?_⟩
  rw [hd]
  cases e : g (ds.map .val ++ List.replicate (N.length - n) .un) with
  | next ρ =>
    rw [e] at p
    exact fun σ' F' H' s1 n1 r => p .non F' H' ⟨s1, r.g, r.f, n1⟩ Rep.mk_non
  | ret d =>
    rw [e] at p
    exact fun v F' H' s1 n1 g1 f1 r => p v F' H' ⟨s1, g1, f1, n1⟩ r
  | err d ρ =>
    rw [e] at p
    exact fun σ' F' H' cls dd s1 n1 r q => p cls dd F' H' ⟨s1, r.g, r.f, n1⟩ q
  | bad => rw [e] at p; exact p.elim
end
section
variable {X : Cx} {W : WX} {e : Expr} {es : List Expr} {x : Str} {p pos : Pos} {k n : Nat} {f : Addr} {fd : FuncData} {ps : List Str} {t : REnv → R (List D)} {fn : List D → R D}
def eCall (fn : List D → R D) (t : REnv → R (List D)) : REnv → R D := fun ρ => (t ρ).bind fn
theorem se_call (Fo : FnOk X.prog X.w X.K X.mg X.base (L2.CX X.prog X.w) k f fd ps (spD X.K n fn)) (hl : ∀ ds, ds.length ≠ n → fn ds = .bad) (tk : Takes X W) (hr : Room k X.A) (hm : X.mg x = some (.ref f)) (hk : PySem.W.keepIn X.K (.ref f) = true) (hb : Binds X.K fd ps [])
    (ha : SA X W (e :: es) t) (hg : Gl X x := by rfl) (hdb : (x == ("__debug__" : Str)) = false := by decide) (he : starEach (e :: es) X.env = (false, eval e X.env) :: starEach es X.env := by rfl) (hpl : (backTo pos (starEach es X.env)).any (·.1) = false := by rfl) :
    SE X W (.Call (.Name x p) (e :: es) [] pos) (eCall fn t) :=
  (pe_callS (E := WE W) Fo hr hg hm hk hb (fun σ => passAt tk σ) ha hdb he hpl).dy fun σ H Q ⟨G, F, ρ, r, p⟩ => ⟨G, F, ρ, r, Post.bind p fun ds vs F' H' _ ex rp p' => by
    have hn : ds.length = n := Classical.byContradiction fun z => by
      rw [hl ds z] at p'
      exact p'
    refine ⟨by rw [← rp.length]; exact hn, F', ds, ex.s, rp, ?_⟩
    cases q : fn ds with
    | ok d => rw [q] at p'; exact p'
    | err d => rw [q] at p'; exact p'
    | bad => rw [q] at p'; exact p'⟩
end

/-! ### lists of one's own -/
section
variable {X : Cx} {W : WX} {st : Stmt} {g : REnv → SR} {e : Expr} {f : REnv → R D} {pos : Pos}
/-- ahead of a statement the list at slot i is let go: it is kept from here on -/
def eFreeze (i : Nat) (ρ : REnv) : REnv := match ρ[i]? with
  | some (.own ds) => ρ.set i (.val (.lst ds))
  | some (.tree o) => ρ.set i (.val o.toD)
  | some (.pin _ o) => ρ.set i (.val o.toD)
  | _ => ρ
def sFreeze (i : Nat) (g : REnv → SR) : REnv → SR := fun ρ => g (eFreeze i ρ)
theorem ss_freeze (i : Nat) (h : SS X W st g) : SS X W st (sFreeze i g) := PS.dy h fun D σ H ⟨G, F, ρ, r, p⟩ => by
  unfold sFreeze eFreeze at p
  cases q : ρ[i]? with
  | none => rw [q] at p; exact ⟨G, F, ρ, r, p⟩
  | some s =>
    rw [q] at p
    cases s with
    | own ds =>
      obtain ⟨F', s1, n1, r1⟩ := r.freeze q
      exact ⟨G, F', _, r1, PostS.ext s1 n1 p⟩
    | tree o =>
      obtain ⟨F', s1, n1, r1⟩ := r.freezeT q
      exact ⟨G, F', _, r1, PostS.ext s1 n1 p⟩
    | pin w o =>
      obtain ⟨F', s1, n1, r1⟩ := r.freezeP q
      exact ⟨G, F', _, r1, PostS.ext s1 n1 p⟩
    | _ => exact ⟨G, F, ρ, r, p⟩
/-- x = [..], a list of one's own -/
def sOwn (i : Nat) (t : REnv → R (List D)) : REnv → SR := fun ρ => (t ρ).toS ρ fun ds => if ds.length ≤ sizeLine then .next (ρ.set i (.own ds)) else .bad
theorem ss_own {i : Nat} {x : Str} {pos' lp : Pos} {es : List Expr} {t : REnv → R (List D)} (hN : X.N.Nodup) (ha : SA X W es t) (hi : X.N[i]? = some x := by rfl) (hx : Loc X.env.scope x := by first | exact Or.inl rfl | exact Or.inr rfl) (hs : swapsWith (.List es lp) (some (.Name x pos')) pos.line X.env = pure false := by rfl)
    (hf : X.fn x = true ∨ X.env.scope.names.lookup x = some .local := by first | exact .inl rfl | exact .inr rfl | assumption) : SS X W (.Assign [.Name x pos'] (.List es lp) pos) (sOwn i t) :=
  (ps_set hN hi hx (pe_lst ha) hs hf).dy fun D σ H ⟨G, F, ρ, r, p⟩ => ⟨G, F, ρ, r, PostS.toS r p fun ds vs F' H' _ ex rp r' p' => by
    by_cases hl : ds.length ≤ sizeLine
    · rw [if_pos hl] at p'
      exact ⟨by rw [← rp.length]; exact hl, fun q hq => p' _ F' _ (.refl _) .refl (r'.setO rp hq)⟩
    · rw [if_neg hl] at p'; exact p'.elim⟩
/-- x.append(e) -/
def sApp (i : Nat) (f : REnv → R D) : REnv → SR := fun ρ => match ρ[i]? with
  | some (.own ds) => (f ρ).toS ρ fun d => if ds.length < sizeLine then .next (ρ.set i (.own (ds ++ [d]))) else .bad
  | _ => .bad
theorem own_at {K : PySem.W.Frag} {G F H : Hp} {σ : St} {ρ : REnv} (r : RepE K G F H σ ρ) {i : Nat} {ds : List D} (h : ρ[i]? = some (.own ds)) : ∃ a vs, σ[i]? = some (some (.ref a)) ∧ H a = some (.lst vs) ∧ RepL K F ds vs := by
  have hl : i < σ.length := by
    rw [← r.len]
    exact (List.getElem?_eq_some_iff.mp h).1
  obtain ⟨a, vs, e1, e2, e3, _⟩ := r.at_ i _ _ h (List.getElem?_eq_getElem hl)
  exact ⟨a, vs, by rw [List.getElem?_eq_getElem hl, e1], e2, e3⟩
theorem ss_app (i : Nat) {x : Str} {ap np : Pos} {xp : Pos} (he : SE X W e f) (hN : X.N[i]? = some x := by rfl) (hv : Vis X.env.scope x := by first | exact Or.inl rfl | exact Or.inr (Or.inl rfl) | exact Or.inr (Or.inr rfl)) (hd : (x == ("__debug__" : Str)) = false := by decide) (hcd : (x == ("__classdict__" : Str)) = false := by decide)
    (hbm : ∀ {te : TE} {ta : TA}, PE X (.Name x np) te → PA X [e] ta → PE X (.Call (.Attribute (.Name x np) "append" ap) [e] [] xp) (tBM X.K "list" rAppend te ta) := by exact fun h1 h2 => pe_bm PySem.F.plainAttrs_list PySem.F.slot_list_append PySem.F.type_list_append mt_append h1 h2)
    (hse : starEach (e :: []) X.env = (false, eval e X.env) :: starEach [] X.env := by rfl)
    (hs : swapsWith (.Call (.Attribute (.Name x np) "append" ap) [e] [] xp) none pos.line X.env = pure false := by rfl) : SS X W (.Expr (.Call (.Attribute (.Name x np) "append" ap) [e] [] xp) pos) (sApp i f) :=
  (ps_expr (hbm (pe_var hN hv hd hcd) (pa_cons he pa_nil hse)) hs).dy fun D σ H ⟨G, F, ρ, r, p⟩ => by
    unfold sApp at p
    split at p
    · rename_i ds z
      obtain ⟨a, vs, h1, h2, h3⟩ := own_at r z
      refine ⟨.ref a, h1, .inl ⟨rfl, _, SqL.of h2⟩, G, F, ρ, r, PostS.toS r p fun d v F' H' _ ex rp r' p' => ?_⟩
      by_cases hl : ds.length < sizeLine
      · rw [if_pos hl] at p'
        exact ⟨a, vs, v, rfl, rfl, ex.h _ _ h2, by rw [← h3.length]; exact hl, p' σ F' _ (.refl _) .refl (r'.turnO z h1 ((RepL.mono ex.f _ _ h3).snoc rp))⟩
      · rw [if_neg hl] at p'; exact p'.elim
    · exact p.elim
end
end Dy

set_option Elab.async false
set_option linter.all false
set_option maxRecDepth 100000
namespace Dy
open PySem PySem.Spec PyProof.Rows L2

/-! ### arithmetic -/
def MuOk (i j : Int) : Prop := i.natAbs.log2 + j.natAbs.log2 < 100000000
instance (i j : Int) : Decidable (MuOk i j) := inferInstanceAs (Decidable (_ < _))
theorem MuOk.ok {i j : Int} (h : MuOk i j) : IntMulOk i j := by
  have b : ∀ x : Int, Builtin.Int.intBits x ≤ x.natAbs.log2 + 1 := fun x => by
    unfold Builtin.Int.intBits
    split <;> omega
  have h1 := b i
  have h2 := b j
  have h3 : i.natAbs.log2 + j.natAbs.log2 < 100000000 := h
  have e : bitsLine = 134217728 := by decide
  unfold IntMulOk
  intro z
  rw [Bool.and_eq_true] at z
  have z2 := z.2
  unfold Builtin.Int.intTooBig at z2
  have z3 := of_decide_eq_true z2
  rw [e] at z3
  omega
def DivOk (j : Int) : Prop := j ≠ 0 ∧ j.natAbs.log2 < 9000
instance (j : Int) : Decidable (DivOk j) := inferInstanceAs (Decidable (_ ∧ _))
def oII (f : Int → Int → Option D) : D → D → Option D
  | .int i, .int j => f i j
  | _, _ => none
theorem oII_inv {f : Int → Int → Option D} {a b d : D} (h : oII f a b = some d) : ∃ i j, a = .int i ∧ b = .int j ∧ f i j = some d := by
  unfold oII at h
  split at h
  · exact ⟨_, _, rfl, rfl, h⟩
  · cases h
section
variable {X : Cx}
theorem op2_ii {C : Int → Int → Prop} {g : Int → Int → V} {f : Int → Int → Option D} {K : PySem.W.Frag} (h : ∀ i j d, f i j = some d → C i j ∧ ∀ F, Rep K F d (g i j)) : Op2 K (rI C g) (oII f) := fun F H x y a b d Q s ra rb e q => by
  obtain ⟨i, j, rfl, rfl, e2⟩ := oII_inv e
  obtain ⟨h1, h2⟩ := h i j d e2
  exact ⟨i, j, ra.int_inv, rb.int_inv, h1, now q s (h2 F)⟩
theorem op2_ii0 {g : Int → Int → V} {f : Int → Int → Option D} {K : PySem.W.Frag} (h : ∀ i j d, f i j = some d → ∀ F, Rep K F d (g i j)) : Op2 K (rI0 g) (oII f) := fun F H x y a b d Q s ra rb e q => by
  obtain ⟨i, j, rfl, rfl, e2⟩ := oII_inv e
  exact ⟨i, j, ra.int_inv, rb.int_inv, now q s (h i j d e2 F)⟩
def oSub : D → D → Option D := oII fun i j => some (.int (i - j))
def oMul : D → D → Option D := oII fun i j => if MuOk i j then some (.int (i * j)) else none
def oDiv : D → D → Option D := oII fun i j => if DivOk j then some (.int (i.fdiv j)) else none
def oMod : D → D → Option D := oII fun i j => if j ≠ 0 then some (.int (i.fmod j)) else none
def oPow : D → D → Option D := oII fun i j => if 0 ≤ j ∧ j ≤ 1000000 ∧ i.natAbs < 2 ^ 64 then some (.int (i ^ j.toNat)) else none
def oLt : D → D → Option D := oII fun i j => some (.bl (decide (i < j)))
def oLe : D → D → Option D := oII fun i j => some (.bl (decide (i ≤ j)))
def oGt : D → D → Option D := oII fun i j => some (.bl (decide (j < i)))
def oGe : D → D → Option D := oII fun i j => some (.bl (decide (j ≤ i)))
theorem d_sub : OpR X (binaryOp .Sub) (rI0 fun i j => .int (i - j)) ∧ Op2 X.K (rI0 fun i j => .int (i - j)) oSub := ⟨op_sub, op2_ii0 fun i j d e F => by cases e; exact Rep.mk_int⟩
theorem d_mul : OpR X (binaryOp .Mult) (rI MuOk fun i j => .int (i * j)) ∧ Op2 X.K (rI MuOk fun i j => .int (i * j)) oMul :=
  ⟨opI fun _ _ _ _ _ _ _ hc q => mul_int q hc.ok, op2_ii fun i j d e => by
    by_cases h : MuOk i j
    · simp only [if_pos h] at e
      cases e
      exact ⟨h, fun F => Rep.mk_int⟩
    · simp only [if_neg h] at e; cases e⟩
theorem d_div : OpR X (binaryOp .FloorDiv) (rI (fun _ j => DivOk j) fun i j => .int (i.fdiv j)) ∧ Op2 X.K (rI (fun _ j => DivOk j) fun i j => .int (i.fdiv j)) oDiv :=
  ⟨opI fun _ _ _ _ _ _ _ hc q => floordiv_int hc.1 q (.inl (PyProof.noPylong_of_log2 hc.2)), op2_ii fun i j d e => by
    by_cases h : DivOk j
    · simp only [if_pos h] at e
      cases e
      exact ⟨h, fun F => Rep.mk_int⟩
    · simp only [if_neg h] at e; cases e⟩
theorem d_mod : OpR X (binaryOp .Mod) (rI (fun _ j => j ≠ 0) fun i j => .int (i.fmod j)) ∧ Op2 X.K (rI (fun _ j => j ≠ 0) fun i j => .int (i.fmod j)) oMod :=
  ⟨op_modN, op2_ii fun i j d e => by
    by_cases h : j ≠ 0
    · simp only [if_pos h] at e
      cases e
      exact ⟨h, fun F => Rep.mk_int⟩
    · simp only [if_neg h] at e; cases e⟩
theorem d_pow : OpR X (binaryOp .Pow) (rI CPow fun i j => .int (i ^ j.toNat)) ∧ Op2 X.K (rI CPow fun i j => .int (i ^ j.toNat)) oPow :=
  ⟨op_pow, op2_ii fun i j d e => by
    by_cases h : 0 ≤ j ∧ j ≤ 1000000 ∧ i.natAbs < 2 ^ 64
    · simp only [if_pos h] at e
      cases e
      exact ⟨h, fun F => Rep.mk_int⟩
    · simp only [if_neg h] at e; cases e⟩
theorem d_lt : OpR X (compareOp .Lt) (rI0 fun i j => .bl (decide (i < j))) ∧ Op2 X.K (rI0 fun i j => .bl (decide (i < j))) oLt := ⟨op_lt, op2_ii0 fun i j d e F => by cases e; exact Rep.mk_bl⟩
theorem d_le : OpR X (compareOp .LtE) (rI0 fun i j => .bl (decide (i ≤ j))) ∧ Op2 X.K (rI0 fun i j => .bl (decide (i ≤ j))) oLe := ⟨op_le, op2_ii0 fun i j d e F => by cases e; exact Rep.mk_bl⟩
theorem d_gt : OpR X (compareOp .Gt) (rI0 fun i j => .bl (decide (j < i))) ∧ Op2 X.K (rI0 fun i j => .bl (decide (j < i))) oGt := ⟨op_gt, op2_ii0 fun i j d e F => by cases e; exact Rep.mk_bl⟩
theorem d_ge : OpR X (compareOp .GtE) (rI0 fun i j => .bl (decide (j ≤ i))) ∧ Op2 X.K (rI0 fun i j => .bl (decide (j ≤ i))) oGe := ⟨op_ge, op2_ii0 fun i j d e F => by cases e; exact Rep.mk_bl⟩
def oNeg : D → Option D
  | .int i => some (.int (-i))
  | _ => none
theorem d_neg : UnR X (unaryOp .USub) (rU fun i => .int (-i)) ∧ Op1 X.K (rU fun i => .int (-i)) oNeg := ⟨un_neg, fun F H x a d Q s ra e q => by
  unfold oNeg at e
  split at e
  · cases e; exact ⟨_, ra.int_inv, now q s Rep.mk_int⟩
  · cases e⟩

/-! ### + of ints, texts, lists, tuples -/
def oAddS : D → D → Option D
  | .str a, .str b => if a.length + b.length ≤ sizeLine then some (.str (a ++ b)) else none
  | _, _ => none
def oAddL : D → D → Option D
  | .lst a, .lst b => if a.length + b.length ≤ sizeLine then some (.lst (a ++ b)) else none
  | _, _ => none
def oAddT : D → D → Option D
  | .tup a, .tup b => if a.length + b.length ≤ sizeLine then some (.tup (a ++ b)) else none
  | _, _ => none
def rCatW (K : PySem.W.Frag) : R2 := fun x y H Q => ∃ l b xs zs, x = .ref l ∧ y = .ref b ∧ SqL K H l xs ∧ SqL K H b zs ∧ xs.length + zs.length ≤ sizeLine ∧ ∀ p, H p = none → Q (.ref p) (upd H p (.lst (xs ++ zs)))
theorem op_catW : OpR X (binaryOp .Add) (rCatW X.K) := by
  intro pins s σ H x y v u Q I rx ry h
  obtain ⟨l, b, xs, zs, rfl, rfl, hH, hB, hz, q⟩ := h
  cases rx
  cases ry
  obtain ⟨its, r, pl, hl⟩ := I.list hH
  obtain ⟨its2, r2, pl2, hl2⟩ := I.list hB
  obtain ⟨⟨cls, dd, data, sl⟩, n, ho, hc, hdd, hd⟩ := pl
  obtain ⟨⟨cls2, dd2, data2, sl2⟩, n2, ho2, hc2, hdd2, hd2⟩ := pl2
  simp only at hc hd hc2 hd2
  subst hc hd hc2 hd2
  have e : its.toArray ++ its2.toArray = (its ++ its2).toArray := by simp
  have l1 := r.length
  have l2 := r2.length
  refine concat_meets ⟨_, ho, rfl⟩ ⟨_, ho2, rfl⟩ noFill_list_add seq_list_add PySem.F.slot_list_add PySem.F.entry_list_add (PySem.F.args_list_add_2 _ _) (list_addW l b its.toArray its2.toArray n n2 dd dd2 sl sl2 (by simp; omega)) ⟨ho, ho2, ?_⟩
  rw [e]
  exact ⟨.ref _, _, I.lnew (t' := s.toks) (r.append r2) (by rw [List.length_append]; omega), rfl, q _ I.fresh⟩
abbrev rAddS : R2 := fun x y H Q => ∃ i j, x = .str i ∧ y = .str j ∧ i.length + j.length ≤ sizeLine ∧ Q (.str (i ++ j)) H
theorem o_addS : Op2 X.K rAddS oAddS := fun F H x y a b d Q s ra rb e q => by
  unfold oAddS at e
  split at e
  · split at e
    · cases e; exact ⟨_, _, ra.str_inv, rb.str_inv, by assumption, now q s Rep.mk_str⟩
    · cases e
  · cases e
theorem o_addL : Op2 X.K (rCatW X.K) oAddL := fun F H x y a b d Q s ra rb e q => by
  unfold oAddL at e
  split at e
  · split at e
    · rename_i hl
      cases e
      obtain ⟨l, vs, rfl, h1, h2⟩ := ra.lst_inv
      obtain ⟨m, ws, rfl, h3, h4⟩ := rb.lst_inv
      exact ⟨l, m, vs, ws, rfl, rfl, Same.seq s h1, Same.seq s h3, by rw [← h2.length, ← h4.length]; exact hl, anew q s fun p s2 => Rep.mk_lst (.of upd_same) ((RepL.mono s2 _ _ h2).append (RepL.mono s2 _ _ h4))⟩
    · cases e
  · cases e
theorem RepL.nil_iff {K : PySem.W.Frag} {F : Hp} {ds : List D} {vs : List V} (h : RepL K F ds vs) : vs = [] ↔ ds = [] := by
  have := h.length
  constructor
  · intro e; subst e; exact List.eq_nil_of_length_eq_zero this
  · intro e; subst e; exact List.eq_nil_of_length_eq_zero this.symm
theorem o_addT : Op2 X.K (rCatA X.K) oAddT := fun F H x y a b d Q s ra rb e q => by
  unfold oAddT at e
  split at e
  · rename_i xs ys
    split at e
    · rename_i hl
      cases e
      obtain ⟨l, vs, rfl, h1, h2⟩ := ra.tup_inv
      obtain ⟨m, ws, rfl, h3, h4⟩ := rb.tup_inv
      refine ⟨l, m, vs, ws, rfl, rfl, Same.seqT s h1, Same.seqT s h3, by rw [← h2.length, ← h4.length]; exact hl, fun z => ?_, fun z1 z => ?_, fun z1 z => ?_⟩
      · have e1 := h2.nil_iff.mp z
        subst e1
        exact now q s rb
      · have e1 := h4.nil_iff.mp z
        subst e1
        rw [List.append_nil] at q
        exact now q s ra
      · exact anew q s fun p s2 => Rep.mk_tup (.of upd_same) ((RepL.mono s2 _ _ h2).append (RepL.mono s2 _ _ h4))
    · cases e
  · cases e
def oAddI : D → D → Option D := oII fun i j => some (.int (i + j))
def oAdd : D → D → Option D := fun a b => (oAddI a b).or ((oAddS a b).or ((oAddL a b).or (oAddT a b)))
abbrev rAddAll (K : PySem.W.Frag) : R2 := fun x y H Q => rI0 (fun i j => .int (i + j)) x y H Q ∨ rAddS x y H Q ∨ rCatW K x y H Q ∨ rCatA K x y H Q
theorem d_add : OpR X (binaryOp .Add) (rAddAll X.K) ∧ Op2 X.K (rAddAll X.K) oAdd :=
  ⟨op_add.or (op_add_str.or (op_catW.or op_catA)), Op2.or (op2_ii0 (f := fun i j => some (.int (i + j))) fun i j d e F => by cases e; exact Rep.mk_int) (Op2.or o_addS (Op2.or o_addL o_addT))⟩

/-! ### ==, != -/
mutual
def _root_.Dy.D.py : D → PyData
  | .non => .none
  | .bl b => .bool b
  | .int i => .int i
  | .str x => .str x
  | .tup xs => .tuple (pyL xs)
  | .lst xs => .list (pyL xs)
  | .ty _ => .none
  | .cls _ => .none
  | .dct _ _ => .none
  | .exc _ _ _ => .none
def pyL : List D → List PyData
  | [] => []
  | d :: ds => d.py :: pyL ds
end
/-- data of a depth below n -/
def okq : Nat → D → Bool
  | _, .non => true
  | _, .bl _ => true
  | _, .int _ => true
  | _, .str x => PyData.strOk x
  | n + 1, .tup xs => xs.all (okq n)
  | n + 1, .lst xs => xs.all (okq n)
  | _, _ => false
theorem okq_all {n : Nat} (ih : ∀ (d : D) {K : PySem.W.Frag} {F : Hp} (v : V), okq n d = true → Rep K F d v → Dp K F v d.py ∧ d.py.canLay0 = true ∧ d.py.depth ≤ n) : ∀ (ds : List D) {K : PySem.W.Frag} {F : Hp} (vs : List V), ds.all (okq n) = true → RepL K F ds vs → DpAll K F vs (pyL ds) ∧ PyData.canLayAll0 (pyL ds) = true ∧ PyData.depthAll (pyL ds) ≤ n
  | [], K, F, vs, _, h => by
    simp only [RepL] at h
    subst h
    exact ⟨by simp only [pyL]; exact .nil, by simp [pyL, PyData.canLayAll0], by simp [pyL, PyData.depthAll]⟩
  | d :: ds, K, F, vs, ha, h => by
    simp only [RepL] at h
    obtain ⟨v, r, rfl, h1, h2⟩ := h
    rw [List.all_cons, Bool.and_eq_true] at ha
    obtain ⟨a1, a2, a3⟩ := ih d v ha.1 h1
    obtain ⟨b1, b2, b3⟩ := okq_all ih ds r ha.2 h2
    refine ⟨by simp only [pyL]; exact .cons a1 b1, by simp [pyL, PyData.canLayAll0, a2, b2], ?_⟩
    simp only [pyL, PyData.depthAll]
    exact Nat.max_le.mpr ⟨a3, b3⟩
theorem okq_dp : ∀ (n : Nat) (d : D) {K : PySem.W.Frag} {F : Hp} (v : V), okq n d = true → Rep K F d v → Dp K F v d.py ∧ d.py.canLay0 = true ∧ d.py.depth ≤ n := by
  intro n
  induction n with
  | zero =>
    intro d K F v h r
    cases d with
    | non => rw [r.non_inv]; exact ⟨.non, by simp [D.py, PyData.canLay0], by simp [D.py, PyData.depth]⟩
    | bl b => rw [r.bl_inv]; exact ⟨.bl b, by simp [D.py, PyData.canLay0], by simp [D.py, PyData.depth]⟩
    | int b => rw [r.int_inv]; exact ⟨.int b, by simp [D.py, PyData.canLay0], by simp [D.py, PyData.depth]⟩
    | str b => rw [r.str_inv]; exact ⟨.str b, by simpa [D.py, PyData.canLay0, okq] using h, by simp [D.py, PyData.depth]⟩
    | _ => simp [okq] at h
  | succ n ih =>
    intro d K F v h r
    cases d with
    | non => rw [r.non_inv]; exact ⟨.non, by simp [D.py, PyData.canLay0], by simp [D.py, PyData.depth]⟩
    | bl b => rw [r.bl_inv]; exact ⟨.bl b, by simp [D.py, PyData.canLay0], by simp [D.py, PyData.depth]⟩
    | int b => rw [r.int_inv]; exact ⟨.int b, by simp [D.py, PyData.canLay0], by simp [D.py, PyData.depth]⟩
    | str b => rw [r.str_inv]; exact ⟨.str b, by simpa [D.py, PyData.canLay0, okq] using h, by simp [D.py, PyData.depth]⟩
    | tup xs =>
      obtain ⟨a, vs, rfl, h1, h2⟩ := r.tup_inv
      obtain ⟨c1, c2, c3⟩ := okq_all ih xs vs (by simpa [okq] using h) h2
      exact ⟨by simp only [D.py]; exact .tup h1 c1, by simpa [D.py, PyData.canLay0] using c2, by simp only [D.py, PyData.depth]; omega⟩
    | lst xs =>
      obtain ⟨a, vs, rfl, h1, h2⟩ := r.lst_inv
      obtain ⟨c1, c2, c3⟩ := okq_all ih xs vs (by simpa [okq] using h) h2
      exact ⟨by simp only [D.py]; exact .lst h1 c1, by simpa [D.py, PyData.canLay0] using c2, by simp only [D.py, PyData.depth]; omega⟩
    | _ => simp [okq] at h
theorem okq_shaped {d : D} {K : PySem.W.Frag} {F : Hp} {v : V} (h : okq 40 d = true) (r : Rep K F d v) : Dp K F v d.py ∧ SeqAt.shaped d.py = true := by
  obtain ⟨h1, h2, h3⟩ := okq_dp 40 d v h r
  refine ⟨h1, ?_⟩
  unfold SeqAt.shaped
  rw [h2, Bool.true_and]
  exact decide_eq_true (by omega)
def eqD (a b : D) : Bool := PyData.eqv a.py b.py
def oEq (a b : D) : Option D := if (okq 40 a && okq 40 b) = true then some (.bl (eqD a b)) else none
def oNe (a b : D) : Option D := if (okq 40 a && okq 40 b) = true then some (.bl (!eqD a b)) else none
theorem d_eq (hu : X.A.units + 64 < cLine) : OpR X (compareOp .Eq) (rEqD X.K) ∧ Op2 X.K (rEqD X.K) oEq := ⟨op_eqD hu, fun F H x y a b d Q s ra rb e q => by
  unfold oEq at e
  split at e
  · rename_i h
    rw [Bool.and_eq_true] at h
    cases e
    obtain ⟨h1, h2⟩ := okq_shaped h.1 (Rep.mono s _ _ ra)
    obtain ⟨h3, h4⟩ := okq_shaped h.2 (Rep.mono s _ _ rb)
    exact ⟨_, _, h1, h3, h2, h4, now q s Rep.mk_bl⟩
  · cases e⟩
theorem d_ne (hu : X.A.units + 64 < cLine) : OpR X (compareOp .NotEq) (rNeD X.K) ∧ Op2 X.K (rNeD X.K) oNe := ⟨op_neD hu, fun F H x y a b d Q s ra rb e q => by
  unfold oNe at e
  split at e
  · rename_i h
    rw [Bool.and_eq_true] at h
    cases e
    obtain ⟨h1, h2⟩ := okq_shaped h.1 (Rep.mono s _ _ ra)
    obtain ⟨h3, h4⟩ := okq_shaped h.2 (Rep.mono s _ _ rb)
    exact ⟨_, _, h1, h3, h2, h4, now q s Rep.mk_bl⟩
  · cases e⟩
/-! ### is None -/
def _root_.Dy.D.isNon : D → Bool
  | .non => true
  | _ => false
theorem Rep.non_iff {K : PySem.W.Frag} {F : Hp} {d : D} {v : V} (h : Rep K F d v) : decide (v = .non) = d.isNon := by
  cases d with
  | non => simp [h.non_inv, D.isNon]
  | bl _ => simp [h.bl_inv, D.isNon]
  | int _ => simp [h.int_inv, D.isNon]
  | str _ => simp [h.str_inv, D.isNon]
  | ty _ => simp only [Rep] at h; simp [h, D.isNon]
  | cls _ => simp only [Rep] at h; simp [h, D.isNon]
  | tup _ => obtain ⟨a, vs, e, _⟩ := h.tup_inv; simp [e, D.isNon]
  | lst _ => obtain ⟨a, vs, e, _⟩ := h.lst_inv; simp [e, D.isNon]
  | dct _ _ => simp only [Rep] at h; obtain ⟨a, vs, e, _⟩ := h; simp [e, D.isNon]
  | exc _ _ _ => simp only [Rep] at h; obtain ⟨a, dd, vs, e, _⟩ := h; simp [e, D.isNon]
def oIsN (a b : D) : Option D := match b with
  | .non => some (.bl a.isNon)
  | _ => none
def oNotN (a b : D) : Option D := match b with
  | .non => some (.bl (!a.isNon))
  | _ => none
theorem d_isN : OpR X (compareOp .Is) (fun x y H Q => y = .non ∧ Q (.bl (decide (x = .non))) H) ∧ Op2 X.K (fun x y H Q => y = .non ∧ Q (.bl (decide (x = .non))) H) oIsN := ⟨op_isN, fun F H x y a b d Q s ra rb e q => by
  unfold oIsN at e
  split at e
  · cases e
    exact ⟨rb.non_inv, by rw [ra.non_iff]; exact now q s Rep.mk_bl⟩
  · cases e⟩
/-! ### isinstance of built-in classes -/
def tyD : D → Option String
  | .non => some "NoneType"
  | .bl _ => some "bool"
  | .int _ => some "int"
  | .str _ => some "str"
  | .tup _ => some "tuple"
  | .lst _ => some "list"
  | .dct _ _ => some "dict"
  | _ => none
theorem tyX_of {K : PySem.W.Frag} {F H : Hp} {d : D} {v : V} {t : String} (s : Same F H) (h : Rep K F d v) (e : tyD d = some t) : TyX K H v (.type t) := by
  cases d with
  | non => cases e; rw [h.non_inv]; exact .base .non
  | bl _ => cases e; rw [h.bl_inv]; exact .base (.bl _)
  | int _ => cases e; rw [h.int_inv]; exact .base (.int _)
  | str _ => cases e; rw [h.str_inv]; exact .base (.str _)
  | tup _ =>
    cases e
    obtain ⟨a, vs, rfl, h1, _⟩ := h.tup_inv
    rcases Same.seqT s h1 with (h1 | ⟨o, h1⟩) | ⟨o, its, n, h1, h2, _⟩
    · exact .base (.tup h1)
    · exact .fTuple h1
    · exact .kTuple h1 h2
  | lst _ =>
    cases e
    obtain ⟨a, vs, rfl, h1, _⟩ := h.lst_inv
    rcases Same.seq s h1 with (h1 | ⟨o, h1⟩) | ⟨o, its, n, h1, h2, _⟩
    · exact .base (.lst h1)
    · exact .base (.frz h1)
    · exact .kList h1 h2
  | dct _ _ =>
    cases e
    simp only [Rep] at h
    obtain ⟨a, vs, rfl, h1, _⟩ := h
    rcases h1 with h1 | ⟨o, h1⟩
    · exact .base (.dK (s _ _ h1))
    · exact .fDict (s _ _ h1)
  | ty _ => cases e
  | cls _ => cases e
  | exc _ _ _ => cases e
def oIsi : List D → Option D
  | [x, .ty c] => (tyD x).bind fun t => (kitB t c).map .bl
  | _ => none
theorem d_isi : CallR X (.builtin "isinstance") (rIsi X.K) ∧ OpN X.K (rIsi X.K) oIsi := ⟨call_isi, fun F H xs as d Q s ra e q => by
  unfold oIsi at e
  split at e
  · rename_i x c
    obtain ⟨t, e1, e2⟩ := Option.bind_eq_some_iff.mp e
    obtain ⟨b, e3, e4⟩ := Option.map_eq_some_iff.mp e2
    obtain ⟨v, w, rfl, h1, h2⟩ := ra.two
    simp only [Rep] at h2
    subst h2
    subst e4
    exact ⟨v, .ty c, .type t, .type c, b, rfl, .ty c, tyX_of s h1 e1, kit_ty e3, now q s Rep.mk_bl⟩
  · cases e⟩
theorem se_ty {W : WX} {x : Str} {n : String} {pos : Pos} (hm : X.mg x = none) (hg : Gl X x := by rfl) (hv : bootBuiltins x = some (.type n) := by decide +kernel) (hn : x ≠ "__name__" := by decide) (hd : (x == ("__debug__" : Str)) = false := by decide) : SE X W (.Name x pos) (eC (.ty n)) :=
  se_const (pe_bltn (v := V.ty n) hg hm hv rfl hn hd) fun _ _ => Rep.mk_ty

/-! ### len, items, slices -/
def oLen : List D → Option D
  | [.lst xs] => some (.int xs.length)
  | [.tup xs] => some (.int xs.length)
  | [.str z] => if z.length ≤ sizeLine then some (.int z.length) else none
  | _ => none
abbrev rLenAll (K : PySem.W.Frag) : List V → Hp → VK → Prop := fun xs H Q => (∃ p ys, xs = [.ref p] ∧ (SqL K H p ys ∨ SqT K H p ys) ∧ Q (.int ys.length) H) ∨ ∃ z, xs = [.str z] ∧ z.length ≤ sizeLine ∧ Q (.int z.length) H
theorem d_len : CallR X (.builtin "len") (rLenAll X.K) ∧ OpN X.K (rLenAll X.K) oLen := ⟨call_len_seq.or call_len_str, fun F H xs as d Q s ra e q => by
  unfold oLen at e
  split at e
  · cases e
    obtain ⟨v, rfl, h⟩ := ra.one
    obtain ⟨a, vs, rfl, h1, h2⟩ := h.lst_inv
    rw [h2.length] at q
    exact .inl ⟨a, vs, rfl, .inl (Same.seq s h1), now q s Rep.mk_int⟩
  · cases e
    obtain ⟨v, rfl, h⟩ := ra.one
    obtain ⟨a, vs, rfl, h1, h2⟩ := h.tup_inv
    rw [h2.length] at q
    exact .inl ⟨a, vs, rfl, .inr (Same.seqT s h1), now q s Rep.mk_int⟩
  · split at e
    · cases e
      obtain ⟨v, rfl, h⟩ := ra.one
      exact .inr ⟨_, by rw [h.str_inv], by assumption, now q s Rep.mk_int⟩
    · cases e
  · cases e⟩
theorem RepL.atI {K : PySem.W.Frag} {F : Hp} {ds : List D} {vs : List V} {i : Int} {d : D} (h : RepL K F ds vs) (e : L2.atI ds i = some d) : ∃ v, L2.atI vs i = some v ∧ Rep K F d v := by
  unfold L2.atI at e ⊢
  obtain ⟨j, e1, e2⟩ := Option.bind_eq_some_iff.mp e
  obtain ⟨v, e3, r⟩ := h.get e2
  exact ⟨v, by rw [← h.length, e1]; exact e3, r⟩
def oIx : D → D → Option D
  | .lst xs, .int i => L2.atI xs i
  | .tup xs, .int i => L2.atI xs i
  | .str z, .int i => if z.length ≤ sizeLine then (L2.atI z.cps.toList i).map fun c => .str ⟨#[c]⟩ else none
  | _, _ => none
theorem d_ix : IxR X (rIx X.K) ∧ Op2 X.K (rIx X.K) oIx := ⟨ix_seq, fun F H x y a b d Q s ra rb e q => by
  unfold oIx at e
  split at e
  · obtain ⟨l, vs, rfl, h1, h2⟩ := ra.lst_inv
    obtain ⟨v, e1, r⟩ := h2.atI e
    exact .inl ⟨l, vs, _, v, rfl, rb.int_inv, Same.seq s h1, e1, now q s r⟩
  · obtain ⟨l, vs, rfl, h1, h2⟩ := ra.tup_inv
    obtain ⟨v, e1, r⟩ := h2.atI e
    exact .inr (.inl ⟨l, vs, _, v, rfl, rb.int_inv, Same.seqT s h1, e1, now q s r⟩)
  · split at e
    · obtain ⟨c, e1, e2⟩ := Option.map_eq_some_iff.mp e
      subst e2
      exact .inr (.inr ⟨_, _, c, ra.str_inv, rb.int_inv, by assumption, e1, now q s Rep.mk_str⟩)
    · cases e
  · cases e⟩
/-- an end of a slice -/
abbrev SO (X : Cx) (W : WX) (o : Option Expr) (f : REnv → R (Option Int)) : Prop := PO X o (rg X.K W (fun _ (a b : Option Int) => a = b) f)
def oNo : REnv → R (Option Int) := fun _ => .ok none
def oSome (f : REnv → R D) : REnv → R (Option Int) := fun ρ => (f ρ).bind fun d => match d with
  | .int i => .ok (some i)
  | _ => .bad
theorem so_none {W : WX} : SO X W none oNo := ⟨fun pins s σ H Q I ⟨G, F, ρ, r, p⟩ => po_none.run pins s σ H Q I (p none F H (.refl r.f) rfl)⟩
theorem so_some {W : WX} {e : Expr} {f : REnv → R D} (h : SE X W e f) : SO X W (some e) (oSome f) := ⟨fun pins s σ H Q I ⟨G, F, ρ, r, p⟩ => (po_some h).run pins s σ H Q I ⟨G, F, ρ, r, Post.bind p fun d v F' H' _ ex rp p' => by
  cases d with
  | int i => exact ⟨i, rp.int_inv, p' _ F' H' (.refl ex.s) rfl⟩
  | _ => exact p'.elim⟩⟩
def cutD (xs : List D) (lo hi : Option Int) : List D := (xs.drop (HT.sIx xs.length 0 lo)).take (HT.sIx xs.length xs.length hi - HT.sIx xs.length 0 lo)
theorem RepL.cut {K : PySem.W.Frag} {F : Hp} {ds : List D} {vs : List V} {lo hi : Option Int} (h : RepL K F ds vs) : RepL K F (cutD ds lo hi) (cutV vs lo hi) := by
  unfold cutD cutV
  rw [h.length]
  exact (h.drop _).take _
def oSl : D → Option Int → Option Int → Option D
  | .lst xs, lo, hi => some (.lst (cutD xs lo hi))
  | .tup xs, lo, hi => some (.tup (cutD xs lo hi))
  | _, _, _ => none
def eSl (f : REnv → R D) (lo hi : REnv → R (Option Int)) : REnv → R D := fun ρ => (f ρ).bind fun a => (lo ρ).bind fun l => (hi ρ).bind fun h => .opt (oSl a l h)
theorem cut_whole {xs : List D} {lo hi : Option Int} (h : HT.sIx xs.length 0 lo = 0 ∧ HT.sIx xs.length xs.length hi = xs.length) : cutD xs lo hi = xs := by
  unfold cutD
  rw [h.1, h.2]
  simp
theorem se_slice {W : WX} {e : Expr} {lo hi : Option Expr} {f : REnv → R D} {fl fh : REnv → R (Option Int)} {p2 pos : Pos} (he : SE X W e f) (hl : SO X W lo fl) (hh : SO X W hi fh) : SE X W (.Subscript e (.Slice lo hi none p2) pos) (eSl f fl fh) :=
  (pe_slice (sl_list.or sl_tupA) he hl hh).dy fun σ H Q ⟨G, F, ρ, r, p⟩ => ⟨G, F, ρ, r, Post.bind p fun d v F1 H1 _ ex1 rp p1 => ⟨G, F1, ρ, r.ext ex1, Post.bind p1 fun l l' F2 H2 _ ex2 e2 p2 => ⟨G, F2, ρ, (r.ext ex1).ext ex2, Post.bind p2 fun h h' F3 H3 _ ex3 e3 p3 => by
    subst e2
    subst e3
    obtain ⟨d', e4, q⟩ := Post.opt p3
    have rp3 := Rep.mono (ex2.f.trans ex3.f) _ _ rp
    unfold oSl at e4
    split at e4
    · cases e4
      obtain ⟨a, vs, rfl, h1, h2⟩ := rp3.lst_inv
      exact .inl ⟨a, vs, rfl, Same.seq ex3.s h1, anew q ex3.s fun p s2 => Rep.mk_lst (.of upd_same) (RepL.mono s2 _ _ h2.cut)⟩
    · cases e4
      obtain ⟨a, vs, rfl, h1, h2⟩ := rp3.tup_inv
      refine .inr ⟨a, vs, rfl, Same.seqT ex3.s h1, fun z => ?_, fun z => anew q ex3.s fun p s2 => Rep.mk_tup (.of upd_same) (RepL.mono s2 _ _ h2.cut)⟩
      rw [← h2.length] at z
      rw [cut_whole z] at q
      exact now q ex3.s rp3
    · cases e4⟩⟩⟩
def oRev : D → Option D
  | .lst xs => some (.lst xs.reverse)
  | _ => none
theorem se_rev {W : WX} {e : Expr} {f : REnv → R D} {k : Nat} {p1 p2 p3 pos : Pos} (he : SE X W e f) : SE X W (.Subscript e (.Slice none none (some (.UnaryOp .USub (.Constant (.int 1) k p1) p2)) p3) pos) (eUn oRev f) :=
  (pe_revL he).dy fun σ H Q ⟨G, F, ρ, r, p⟩ => ⟨G, F, ρ, r, Post.bind p fun d v F1 H1 _ ex1 rp p1 => by
    obtain ⟨d', e4, q⟩ := Post.opt p1
    unfold oRev at e4
    split at e4
    · cases e4
      obtain ⟨a, vs, rfl, h1, h2⟩ := rp.lst_inv
      exact ⟨a, vs, rfl, Same.seq ex1.s h1, anew q ex1.s fun p s2 => Rep.mk_lst (.of upd_same) (RepL.mono s2 _ _ h2.reverse)⟩
    · cases e4⟩

/-! ### list, tuple, abs, max, min, sum, int -/
def oList : List D → Option D
  | [.lst xs] => some (.lst xs)
  | [.tup xs] => some (.lst xs)
  | _ => none
theorem d_list : CallR X (.type "list") (fun xs H Q => ∃ p ys, xs = [.ref p] ∧ (SqL X.K H p ys ∨ SqT X.K H p ys) ∧ ∀ l, H l = none → Q (.ref l) (upd H l (.lst ys))) ∧
    OpN X.K (fun xs H Q => ∃ p ys, xs = [.ref p] ∧ (SqL X.K H p ys ∨ SqT X.K H p ys) ∧ ∀ l, H l = none → Q (.ref l) (upd H l (.lst ys))) oList := ⟨call_list_of, fun F H xs as d Q s ra e q => by
  unfold oList at e
  split at e
  · cases e
    obtain ⟨v, rfl, h⟩ := ra.one
    obtain ⟨a, vs, rfl, h1, h2⟩ := h.lst_inv
    exact ⟨a, vs, rfl, .inl (Same.seq s h1), anew q s fun p s2 => Rep.mk_lst (.of upd_same) (RepL.mono s2 _ _ h2)⟩
  · cases e
    obtain ⟨v, rfl, h⟩ := ra.one
    obtain ⟨a, vs, rfl, h1, h2⟩ := h.tup_inv
    exact ⟨a, vs, rfl, .inr (Same.seqT s h1), anew q s fun p s2 => Rep.mk_lst (.of upd_same) (RepL.mono s2 _ _ h2)⟩
  · cases e⟩
def oTuple : List D → Option D
  | [.lst xs] => some (.tup xs)
  | [.tup xs] => some (.tup xs)
  | _ => none
theorem d_tuple : CallR X (.type "tuple") (fun xs H Q => ∃ p ys, xs = [.ref p] ∧ ((SqL X.K H p ys ∧ ∀ l, H l = none → Q (.ref l) (upd H l (.tup ys))) ∨ (SqT X.K H p ys ∧ Q (.ref p) H))) ∧
    OpN X.K (fun xs H Q => ∃ p ys, xs = [.ref p] ∧ ((SqL X.K H p ys ∧ ∀ l, H l = none → Q (.ref l) (upd H l (.tup ys))) ∨ (SqT X.K H p ys ∧ Q (.ref p) H))) oTuple := ⟨call_tuple_of, fun F H xs as d Q s ra e q => by
  unfold oTuple at e
  split at e
  · cases e
    obtain ⟨v, rfl, h⟩ := ra.one
    obtain ⟨a, vs, rfl, h1, h2⟩ := h.lst_inv
    exact ⟨a, vs, rfl, .inl ⟨Same.seq s h1, anew q s fun p s2 => Rep.mk_tup (.of upd_same) (RepL.mono s2 _ _ h2)⟩⟩
  · cases e
    obtain ⟨v, rfl, h⟩ := ra.one
    obtain ⟨a, vs, rfl, h1, h2⟩ := h.tup_inv
    exact ⟨a, vs, rfl, .inr ⟨Same.seqT s h1, now q s (Rep.mk_tup h1 h2)⟩⟩
  · cases e⟩
def oAbs : List D → Option D
  | [.int i] => some (.int (if i < 0 then -i else i))
  | _ => none
theorem d_abs : CallR X (.builtin "abs") (fun xs H Q => ∃ i, xs = [.int i] ∧ Q (.int (if i < 0 then -i else i)) H) ∧ OpN X.K (fun xs H Q => ∃ i, xs = [.int i] ∧ Q (.int (if i < 0 then -i else i)) H) oAbs := ⟨call_abs, fun F H xs as d Q s ra e q => by
  unfold oAbs at e
  split at e
  · cases e
    obtain ⟨v, rfl, h⟩ := ra.one
    exact ⟨_, by rw [h.int_inv], now q s Rep.mk_int⟩
  · cases e⟩
def oMax2 : List D → Option D
  | [.int i, .int j] => some (.int (if j > i then j else i))
  | _ => none
def oMin2 : List D → Option D
  | [.int i, .int j] => some (.int (if j < i then j else i))
  | _ => none
theorem d_max2 (hc : X.calm = true) : CallR X (.builtin "max") (fun xs H Q => ∃ i j, xs = [.int i, .int j] ∧ Q (.int (if j > i then j else i)) H) ∧ OpN X.K (fun xs H Q => ∃ i j, xs = [.int i, .int j] ∧ Q (.int (if j > i then j else i)) H) oMax2 := ⟨call_max2 hc, fun F H xs as d Q s ra e q => by
  unfold oMax2 at e
  split at e
  · cases e
    obtain ⟨v, w, rfl, h, h2⟩ := ra.two
    exact ⟨_, _, by rw [h.int_inv, h2.int_inv], now q s Rep.mk_int⟩
  · cases e⟩
/-- the ints of a list -/
def intsD : List D → Option (List Int)
  | [] => some []
  | .int i :: r => (intsD r).map (i :: ·)
  | _ => none
theorem intsD_rep {K : PySem.W.Frag} {F : Hp} : ∀ {ds : List D} {vs : List V} {ns : List Int}, intsD ds = some ns → RepL K F ds vs → vs = ns.map V.int
  | [], vs, ns, e, h => by
    simp only [intsD] at e
    cases e
    simpa [RepL] using h
  | d :: ds, vs, ns, e, h => by
    simp only [RepL] at h
    obtain ⟨v, r, rfl, h1, h2⟩ := h
    cases d with
    | int i =>
      simp only [intsD] at e
      obtain ⟨ms, e1, rfl⟩ := Option.map_eq_some_iff.mp e
      rw [h1.int_inv, intsD_rep e1 h2]
      rfl
    | _ => simp [intsD] at e
def oSum : List D → Option D
  | [.lst xs] => (intsD xs).map fun ns => .int ns.sum
  | _ => none
def oInt : List D → Option D
  | [.int i] => some (.int i)
  | [.bl k] => some (.int (if k then 1 else 0))
  | _ => none
theorem d_int : CallR X (.type "int") (fun xs H Q => (∃ i, xs = [.int i] ∧ Q (.int i) H) ∨ ∃ k, xs = [.bl k] ∧ Q (.int (if k then 1 else 0)) H) ∧ OpN X.K (fun xs H Q => (∃ i, xs = [.int i] ∧ Q (.int i) H) ∨ ∃ k, xs = [.bl k] ∧ Q (.int (if k then 1 else 0)) H) oInt := ⟨call_int1, fun F H xs as d Q s ra e q => by
  unfold oInt at e
  split at e
  · cases e
    obtain ⟨v, rfl, h⟩ := ra.one
    exact .inl ⟨_, by rw [h.int_inv], now q s Rep.mk_int⟩
  · cases e
    obtain ⟨v, rfl, h⟩ := ra.one
    exact .inr ⟨_, by rw [h.bl_inv], now q s Rep.mk_int⟩
  · cases e⟩
end
end Dy

set_option Elab.async false
set_option linter.all false
set_option maxRecDepth 100000
namespace Dy
open PySem PySem.Spec PyProof.Rows L2

/-! ### a def of the text, for its callers -/
structure Cal (P : Program) (w : World) (K : PySem.W.Frag) (mg : Str → Option Value) (base : Heap) (x : Str) (k n : Nat) (fn : List D → R D) : Prop where
  ex : ∃ (f : Addr) (fd : FuncData) (ps : List Str), FnOk P w K mg base (L2.CX P w) k f fd ps (spD K n fn) ∧ mg x = some (.ref f) ∧ PySem.W.keepIn K (.ref f) = true ∧ Binds K fd ps []
  len : ∀ ds, ds.length ≠ n → fn ds = .bad
section
variable {P : Program} {w : World} {K : PySem.W.Frag} {mg : Str → Option Value} {base : Heap} {x : Str} {params : Arguments} {body : List Stmt} {scope : Scope} {f : Addr} {fd : FuncData} {N ps : List Str} {k n : Nat} {g : REnv → SR}
theorem cal_mk (Fn : FunD K x x params body scope [] [] f fd) (hm : mg x = some (.ref f))
    (hb : ∀ (kV doc pm : Value) (an : Option Addr) (cdv ct : Value) (us : List Value), us.length = ps.length → bindArgs (PySem.W.fnOf x x params body scope .none kV doc pm an cdv ct) ⟨us, []⟩ = pure (ps.zip us))
    (ok : FnOk P w K mg base (L2.CX P w) k f fd ps (spD K n (fnD n N.length g))) : Cal P w K mg base x k n (fnD n N.length g) :=
  ⟨⟨f, fd, ps, ok, hm, Fn.kp, Fn.bindsN hb⟩, fun ds h => fnD_len h⟩
end
section
variable {X : Cx} {W : WX} {e : Expr} {es : List Expr} {x : Str} {p pos : Pos} {k n : Nat} {t : REnv → R (List D)} {fn : List D → R D}
theorem se_callC (C : Cal X.prog X.w X.K X.mg X.base x k n fn) (tk : Takes X W) (hr : Room k X.A)
    (ha : SA X W (e :: es) t) (hg : Gl X x := by rfl) (hdb : (x == ("__debug__" : Str)) = false := by decide) (he : starEach (e :: es) X.env = (false, eval e X.env) :: starEach es X.env := by rfl) (hpl : (backTo pos (starEach es X.env)).any (·.1) = false := by rfl) :
    SE X W (.Call (.Name x p) (e :: es) [] pos) (eCall fn t) := by
  obtain ⟨f, fd, ps, Fo, hm, hk, hb⟩ := C.ex
  exact se_call Fo C.len tk hr hm hk hb ha hg hdb he hpl
/-- {} -/
def eDct0 : REnv → R D := fun _ => .ok (.dct [] [])
end

/-! ### built-ins that the module has not bound -/
def Blts (mg : Str → Option Value) (l : List Str) : Prop := ∀ (i : Nat) (x : Str), l[i]? = some x → mg x = none
theorem Blts.at {mg : Str → Option Value} {l : List Str} (B : Blts mg l) (i : Nat) {x : Str} (h : l[i]? = some x := by rfl) : mg x = none := B i x h

/-! ### the end -/
theorem walk_ofW {l : PySem.W.OpenLaw} {n k : Nat} {q : Program} {loose : List Str} {XP : (Str → Option Value) → Heap → Prop} {YP : World → Heap → Prop} {d : DefRec} {CX : World → CXT} {x : Str}
    (hn : l.most = some n) (hn2 : n ≤ sizeLine) (hdf : d.params.defaults = []) (hr : Room k callerA)
    (F : ∀ (w : World) (mg : Str → Option Value) (fa : Addr) (h : Heap), YP w h → h.Ns mainGlobals mg → mg d.name = some (.ref fa) →
      ∃ (K : PySem.W.Frag) (fd : FuncData) (sp : Sp), K.In h ∧ (∀ (s : Shared) (u : Value), BindsTo s fd ⟨[u], []⟩ [(x, u)]) ∧
        (∀ (H : Hp) (a : Addr) (ns : List Int), ns.length ≤ n → Only H → SqL K H a (ns.map V.int) → sp [.ref a] H (fun v _ => v = .bl true) fun _ _ _ => False) ∧
        ∀ base : Heap, K.In base → base.Ns mainGlobals mg → FnOk l.prog w K mg base (CX w) k fa fd [x] sp)
    (hCX : ∀ (w : World) (H : Hp) (s : Shared) (e : Value) (s' : Shared), CX w [] H s (fun _ _ _ => False) e s' → False) :
    PySem.W.WalkO q loose XP YP l.row.toRowW d [] (fun f vs => PySem.call f vs) := by
  refine Att.attach_call hn hdf fun w s₀ s₁ mg mb fa o pm cd doc a vs ns G Y ho hd hcd hmg hobj hints hlen hg => ?_
  obtain ⟨K, fd, sp, KX, hb, hsp, hF⟩ := F w mg fa _ Y G.T.g hmg
  exact law_call KX G.T.g G.T.b G.T.builtins G.T.nolimit hg hobj hints (Nat.le_trans hlen hn2) hr hF hb (fun H hO hS => hsp H a ns hlen hO hS) fun H e s' => hCX w H s₁ e s'
theorem cx_false {P : Program} {w : World} {H : Hp} {s : Shared} {e : Value} {s' : Shared} : L2.CX P w [] H s (fun _ _ _ => False) e s' → False := fun h => by
  obtain ⟨_, _, _, _, _, _, _, _, _, _, _, _, z⟩ := h
  exact z
theorem repL_ints {K : PySem.W.Frag} {F : Hp} : ∀ ns : List Int, RepL K F (ns.map .int) (ns.map V.int)
  | [] => RepL.nil
  | n :: r => RepL.cons Rep.mk_int (repL_ints r)
theorem law_sp {K : PySem.W.Frag} {fn : List D → R D} {ns : List Int} {H : Hp} {a : Addr} (hS : SqL K H a (ns.map V.int)) (h : fn [.lst (ns.map .int)] = .ok (.bl true)) : spD K 1 fn [.ref a] H (fun v _ => v = .bl true) fun _ _ _ => False := by
  refine ⟨rfl, H, [.lst (ns.map .int)], .refl _, RepL.cons (Rep.mk_lst hS (repL_ints ns)) RepL.nil, ?_⟩
  rw [h]
  exact fun v F' H' _ r => r.bl_inv
end Dy

set_option Elab.async false
set_option linter.all false
set_option maxRecDepth 100000
/-! What a def's meaning comes to, step by step: weakest conditions over plain data. -/
namespace Dy
open PySem PySem.Spec PyProof.Rows L2

def R.wp {α : Type} (x : R α) (P : α → Prop) (E : D → Prop) : Prop := match x with
  | .ok a => P a
  | .err e => E e
  | .bad => False
def SR.wp (x : SR) (N : REnv → Prop) (T : D → Prop) (E : D → REnv → Prop) : Prop := match x with
  | .next ρ => N ρ
  | .ret d => T d
  | .err e ρ => E e ρ
  | .bad => False
abbrev NoE : D → Prop := fun _ => False
/-- marks, so that a step is known by its head -/
def Got {α : Type} (o : Option α) (P : α → Prop) : Prop := ∃ a, o = some a ∧ P a
def HasB (d : D) (P : Bool → Prop) : Prop := ∃ b, d = .bl b ∧ P b
def HasI (d : D) (P : Int → Prop) : Prop := ∃ i, d = .int i ∧ P i
def Has2 (ds : List D) (P : D → D → Prop) : Prop := ∃ a b, ds = [a, b] ∧ P a b
def Fork (k : Bool) (A B : Prop) : Prop := (k = true → A) ∧ (k = false → B)
def Fits (n : Nat) (A : Prop) : Prop := n ≤ sizeLine ∧ A
def Grows (n : Nat) (A : Prop) : Prop := n < sizeLine ∧ A
theorem R.wp.imp {α : Type} {x : R α} {P P' : α → Prop} {E E' : D → Prop} (h : x.wp P E) (f : ∀ a, P a → P' a) (g : ∀ e, E e → E' e) : x.wp P' E' := by
  cases x with
  | ok a => exact f a h
  | err e => exact g e h
  | bad => exact h
theorem R.wp.post {α : Type} {x : R α} {P P' : α → Prop} {E : D → Prop} (h : x.wp P E) (f : ∀ a, P a → P' a) : x.wp P' E := h.imp f fun _ z => z
theorem R.wp.no {α : Type} {x : R α} {P P' : α → Prop} {E : D → Prop} (h : x.wp P NoE) (f : ∀ a, P a → P' a) : x.wp P' E := h.imp f fun _ z => z.elim
theorem R.wp.ok {α : Type} {x : R α} {P : α → Prop} (h : x.wp P NoE) : ∃ a, x = .ok a ∧ P a := by
  cases x with
  | ok a => exact ⟨a, rfl, h⟩
  | err e => exact h.elim
  | bad => exact h.elim
theorem wp_bind {α β : Type} {x : R α} {k : α → R β} {P : β → Prop} {E : D → Prop} (h : x.wp (fun a => (k a).wp P E) E) : (x.bind k).wp P E := by
  cases x with
  | ok a => exact h
  | err e => exact h
  | bad => exact h
theorem wp_toS {α : Type} {x : R α} {ρ : REnv} {k : α → SR} {N : REnv → Prop} {T : D → Prop} {E : D → REnv → Prop} (h : x.wp (fun a => (k a).wp N T E) (fun e => E e ρ)) : (x.toS ρ k).wp N T E := by
  cases x with
  | ok a => exact h
  | err e => exact h
  | bad => exact h
theorem wp_opt {α : Type} {x : Option α} {P : α → Prop} {E : D → Prop} (h : Got x P) : (R.opt x).wp P E := by
  obtain ⟨a, rfl, h⟩ := h
  exact h
section
variable {ρ : REnv} {P : D → Prop} {PB : Bool → Prop} {PA : List D → Prop} {E : D → Prop} {f g h : REnv → R D} {u v : REnv → R Bool} {t : REnv → R (List D)} {d : D}
theorem wp_var {i : Nat} (e : ρ[i]? = some (.val d)) (h : P d) : (eVar i ρ).wp P E := by
  unfold eVar; rw [e]; exact h
theorem wp_c (h : P d) : (eC d ρ).wp P E := h
theorem wp_bin {o : D → D → Option D} (h : (f ρ).wp (fun a => (g ρ).wp (fun b => Got (o a b) P) E) E) : (eBin o f g ρ).wp P E :=
  wp_bind (h.post fun _ h1 => wp_bind (h1.post fun _ h2 => wp_opt h2))
theorem wp_un {o : D → Option D} (h : (f ρ).wp (fun a => Got (o a) P) E) : (eUn o f ρ).wp P E := wp_bind (h.post fun _ h2 => wp_opt h2)
theorem wp_n {o : List D → Option D} (h : (t ρ).wp (fun a => Got (o a) P) E) : (eN o t ρ).wp P E := wp_bind (h.post fun _ h2 => wp_opt h2)
theorem wp_nil (h : PA []) : (aNil ρ).wp PA E := h
theorem wp_cons (h : (f ρ).wp (fun a => (t ρ).wp (fun r => PA (a :: r)) E) E) : (aCons f t ρ).wp PA E := wp_bind (h.post fun _ h1 => wp_bind h1)
theorem wp_tup (h : (t ρ).wp (fun ds => Fits ds.length (P (.tup ds))) E) : (eTup t ρ).wp P E := wp_bind (h.post fun ds h1 => by rw [if_pos h1.1]; exact h1.2)
theorem wp_lst (h : (t ρ).wp (fun ds => Fits ds.length (P (.lst ds))) E) : (eLst t ρ).wp P E := wp_bind (h.post fun ds h1 => by rw [if_pos h1.1]; exact h1.2)
theorem wp_call {fn : List D → R D} (h : (t ρ).wp (fun ds => (fn ds).wp P E) E) : (eCall fn t ρ).wp P E := wp_bind h
theorem wp_test (h : (f ρ).wp (fun d => HasB d PB) E) : (eTest f ρ).wp PB E := wp_bind (h.post fun d ⟨b, e, q⟩ => by subst e; exact q)
theorem wp_and (h : (u ρ).wp (fun k => Fork k ((v ρ).wp PB E) (PB false)) E) : (eAnd u v ρ).wp PB E := wp_bind (h.post fun k ⟨h1, h2⟩ => by
  cases k with
  | true => exact h1 rfl
  | false => exact h2 rfl)
theorem wp_or (h : (u ρ).wp (fun k => Fork k (PB true) ((v ρ).wp PB E)) E) : (eOr u v ρ).wp PB E := wp_bind (h.post fun k ⟨h1, h2⟩ => by
  cases k with
  | true => exact h1 rfl
  | false => exact h2 rfl)
theorem wp_not (h : (u ρ).wp (fun k => PB (!k)) E) : (eNot u ρ).wp PB E := wp_bind h
theorem wp_andV (h : (f ρ).wp (fun d => HasB d fun k => Fork k ((g ρ).wp P E) (P (.bl false))) E) : (eAndV f g ρ).wp P E := wp_bind (h.post fun d ⟨k, e, h1, h2⟩ => by
  subst e
  cases k with
  | true => exact h1 rfl
  | false => exact h2 rfl)
theorem wp_orV (h : (f ρ).wp (fun d => HasB d fun k => Fork k (P (.bl true)) ((g ρ).wp P E)) E) : (eOrV f g ρ).wp P E := wp_bind (h.post fun d ⟨k, e, h1, h2⟩ => by
  subst e
  cases k with
  | true => exact h1 rfl
  | false => exact h2 rfl)
theorem wp_notV (h : (f ρ).wp (fun d => HasB d fun k => P (.bl (!k))) E) : (eNotV f ρ).wp P E := wp_bind (h.post fun d ⟨k, e, h1⟩ => by subst e; exact h1)
theorem wp_chain {o o' : D → D → Option D} (hh : (f ρ).wp (fun a => (g ρ).wp (fun b => Got (o a b) fun z => HasB z fun k => Fork k ((h ρ).wp (fun c => Got (o' b c) P) E) (P (.bl false))) E) E) : (eChain o o' f g h ρ).wp P E :=
  wp_bind (hh.post fun a h1 => wp_bind (h1.post fun b ⟨z, e, k, ez, h2, h3⟩ => by
    subst ez
    rw [e]
    show (goOn _ (.bl k)).wp P E
    cases k with
    | true => exact wp_bind ((h2 rfl).post fun c q => wp_opt q)
    | false => exact h3 rfl))
theorem wp_dct0 (h : P (.dct [] [])) : (eDct0 ρ).wp P E := h
theorem wp_sl {lo hi : REnv → R (Option Int)} (h : (f ρ).wp (fun a => (lo ρ).wp (fun l => (hi ρ).wp (fun r => Got (oSl a l r) P) E) E) E) : (eSl f lo hi ρ).wp P E :=
  wp_bind (h.post fun a h1 => wp_bind (h1.post fun l h2 => wp_bind (h2.post fun r h3 => wp_opt h3)))
theorem wp_no {PO : Option Int → Prop} (h : PO none) : (oNo ρ).wp PO E := h
theorem wp_some {PO : Option Int → Prop} (h : (f ρ).wp (fun d => HasI d fun i => PO (some i)) E) : (oSome f ρ).wp PO E := wp_bind (h.post fun d ⟨i, e, q⟩ => by subst e; exact q)
theorem wp_iD (h : (f ρ).wp (fun d => Got (iterD d) PA) E) : (iD f ρ).wp PA E := wp_bind (h.post fun _ q => wp_opt q)
theorem wp_iArgs {o : List D → Option (List D)} (h : (t ρ).wp (fun d => Got (o d) PA) E) : (iArgs o t ρ).wp PA E := wp_bind (h.post fun _ q => wp_opt q)
theorem wp_comp {vs : List Nat} {fi : REnv → R (List D)} {b : D → REnv → Option REnv} {c : REnv → R Bool} {e : REnv → R D} (h : (fi ρ).wp (fun ds => Fits ds.length (Got (compS b c e ds (wipeE ρ vs)) fun rs => P (.lst rs))) E) : (eComp vs fi b c e ρ).wp P E :=
  wp_bind (h.post fun ds ⟨h1, rs, h2, h3⟩ => by rw [if_pos h1, h2]; exact h3)
end
section
variable {ρ : REnv} {N : REnv → Prop} {T : D → Prop} {E : D → REnv → Prop} {g h : REnv → SR} {f : REnv → R D} {u : REnv → R Bool} {t : REnv → R (List D)}
theorem SR.wp.imp {x : SR} {N N' : REnv → Prop} {T T' : D → Prop} {E E' : D → REnv → Prop} (h : x.wp N T E) (f : ∀ a, N a → N' a) (g : ∀ a, T a → T' a) (k : ∀ e r, E e r → E' e r) : x.wp N' T' E' := by
  cases x with
  | next a => exact f a h
  | ret a => exact g a h
  | err e r => exact k e r h
  | bad => exact h
theorem sp_seq (hh : (g ρ).wp (fun ρ' => (h ρ').wp N T E) T E) : (sSeq g h ρ).wp N T E := by
  unfold sSeq SR.seq
  cases e : g ρ with
  | next a => rw [e] at hh; exact hh
  | ret a => rw [e] at hh; exact hh
  | err a r => rw [e] at hh; exact hh
  | bad => rw [e] at hh; exact hh
theorem sp_skip (h : N ρ) : (sSkip ρ).wp N T E := h
theorem sp_ret (h : (f ρ).wp T (fun e => E e ρ)) : (sRet f ρ).wp N T E := wp_toS h
theorem sp_set {i : Nat} (h : (f ρ).wp (fun d => N (ρ.set i (.val d))) (fun e => E e ρ)) : (sSet i f ρ).wp N T E := wp_toS h
theorem sp_expr (h : (f ρ).wp (fun _ => N ρ) (fun e => E e ρ)) : (sExpr f ρ).wp N T E := wp_toS h
theorem sp_if (hh : (u ρ).wp (fun b => Fork b ((g ρ).wp N T E) ((h ρ).wp N T E)) (fun e => E e ρ)) : (sIf u g h ρ).wp N T E := wp_toS (hh.post fun b ⟨h1, h2⟩ => by
  cases b with
  | true => exact h1 rfl
  | false => exact h2 rfl)
theorem sp_par {i j : Nat} (h : (t ρ).wp (fun ds => Has2 ds fun a b => N ((ρ.set i (.val a)).set j (.val b))) (fun e => E e ρ)) : (sPar i j t ρ).wp N T E := wp_toS (h.post fun ds ⟨a, b, e, q⟩ => by subst e; exact q)
theorem sp_asg {b : D → REnv → Option REnv} (h : (f ρ).wp (fun d => Got (b d ρ) N) (fun e => E e ρ)) : (sAsg f b ρ).wp N T E := wp_toS (h.post fun d ⟨r, e, q⟩ => by rw [e]; exact q)
theorem sp_own {i : Nat} (h : (t ρ).wp (fun ds => Fits ds.length (N (ρ.set i (.own ds)))) (fun e => E e ρ)) : (sOwn i t ρ).wp N T E := wp_toS (h.post fun ds ⟨h1, h2⟩ => by rw [if_pos h1]; exact h2)
theorem sp_app {i : Nat} {ds : List D} (e : ρ[i]? = some (.own ds)) (h : (f ρ).wp (fun d => Grows ds.length (N (ρ.set i (.own (ds ++ [d]))))) (fun e => E e ρ)) : (sApp i f ρ).wp N T E := by
  unfold sApp
  rw [e]
  exact wp_toS (h.post fun d ⟨h1, h2⟩ => by rw [if_pos h1]; exact h2)
theorem sp_for {fi : REnv → R (List D)} {b : D → REnv → Option REnv} (h : (fi ρ).wp (fun ds => (forS b g ds ρ).wp N T E) (fun e => E e ρ)) : (sFor fi b g ρ).wp N T E := wp_toS h
theorem forS_inv {b : D → REnv → Option REnv} {ds : List D} (I : Nat → REnv → Prop) (h0 : I 0 ρ) (hs : ∀ i d ρ, ds[i]? = some d → I i ρ → Got (b d ρ) fun ρ' => (g ρ').wp (I (i + 1)) T E) (hd : ∀ ρ, I ds.length ρ → N ρ) : (forS b g ds ρ).wp N T E := by
  have key : ∀ (n i : Nat) (ρ : REnv), n + i = ds.length → I i ρ → (forS b g (ds.drop i) ρ).wp N T E := by
    intro n
    induction n with
    | zero =>
      intro i ρ e q
      have e2 : i = ds.length := by omega
      subst e2
      rw [List.drop_length]
      exact hd ρ q
    | succ n ih =>
      intro i ρ e q
      have hi : i < ds.length := by omega
      rw [List.drop_eq_getElem_cons hi]
      obtain ⟨ρ', e1, h1⟩ := hs i ds[i] ρ (List.getElem?_eq_getElem hi) q
      unfold forS
      rw [e1]
      show ((g ρ').seq (forS b g (ds.drop (i + 1)))).wp N T E
      exact sp_seq (g := g) (h := forS b g (ds.drop (i + 1))) (h1.imp (fun a qa => ih (i + 1) a (by omega) qa) (fun _ z => z) fun _ _ z => z)
  have := key ds.length 0 ρ (by simp) h0
  simpa using this
theorem sp_while (I : REnv → Prop) (μ : REnv → Nat) (h0 : I ρ) (hs : ∀ ρ, I ρ → (u ρ).wp (fun k => Fork k ((g ρ).wp (fun ρ' => I ρ' ∧ μ ρ' < μ ρ) T E) (N ρ)) (fun e => E e ρ)) : (whileS u g ρ).wp N T E := by
  have key : ∀ (n : Nat) (ρ : REnv), μ ρ < n → I ρ → (whileS u g ρ).wp N T E := by
    intro n
    induction n with
    | zero => intro ρ h; omega
    | succ n ih =>
      intro ρ hn hI
      rw [whileS_eq]
      refine wp_toS ((hs ρ hI).post fun k ⟨h1, h2⟩ => ?_)
      cases k with
      | true => exact sp_seq (g := g) (h := whileS u g) ((h1 rfl).imp (fun a ⟨q1, q2⟩ => ih a (by omega) q1) (fun _ z => z) fun _ _ z => z)
      | false => exact h2 rfl
  exact key (μ ρ + 1) ρ (by omega) h0
theorem wp_fn {n m : Nat} {ds : List D} {P : D → Prop} {E : D → Prop} (hl : ds.length = n) (h : (g (ds.map .val ++ List.replicate (m - n) .un)).wp (fun _ => P .non) P (fun e _ => E e)) : (fnD n m g ds).wp P E := by
  unfold fnD
  rw [if_pos hl]
  cases e : g (ds.map .val ++ List.replicate (m - n) .un) with
  | next a => rw [e] at h; exact h
  | ret a => rw [e] at h; exact h
  | err a r => rw [e] at h; exact h
  | bad => rw [e] at h; exact h.elim
end
theorem law_of_wp {x : R D} (h : x.wp (fun d => d = .bl true) NoE) : x = .ok (.bl true) := by
  obtain ⟨a, e, rfl⟩ := h.ok
  exact e

/-! ### operations on data of known make -/
section
variable {P : D → Prop} {i j : Int} {xs ys : List D} {a b d : D}
theorem w_addI (h : P (.int (i + j))) : Got (oAdd (.int i) (.int j)) P := ⟨_, rfl, h⟩
theorem w_addL (hl : xs.length + ys.length ≤ sizeLine) (h : P (.lst (xs ++ ys))) : Got (oAdd (.lst xs) (.lst ys)) P := ⟨.lst (xs ++ ys), by simp only [oAdd, oAddI, oII, oAddS, oAddL, if_pos hl]; rfl, h⟩
theorem w_addT (hl : xs.length + ys.length ≤ sizeLine) (h : P (.tup (xs ++ ys))) : Got (oAdd (.tup xs) (.tup ys)) P := ⟨.tup (xs ++ ys), by simp only [oAdd, oAddI, oII, oAddS, oAddL, oAddT, if_pos hl]; rfl, h⟩
theorem w_sub (h : P (.int (i - j))) : Got (oSub (.int i) (.int j)) P := ⟨_, rfl, h⟩
theorem w_mul (hm : MuOk i j) (h : P (.int (i * j))) : Got (oMul (.int i) (.int j)) P := ⟨_, by simp only [oMul, oII, if_pos hm], h⟩
theorem w_mod (hj : 0 < j) (h : P (.int (i % j))) : Got (oMod (.int i) (.int j)) P := ⟨.int (i.fmod j), by simp only [oMod, oII, if_pos (show j ≠ 0 by omega)], by rw [Int.fmod_eq_emod_of_nonneg i (by omega)]; exact h⟩
theorem w_div (hj : 0 < j) (hl : j.natAbs.log2 < 9000) (h : P (.int (i / j))) : Got (oDiv (.int i) (.int j)) P := ⟨.int (i.fdiv j), by simp only [oDiv, oII, if_pos (show DivOk j from ⟨by omega, hl⟩)], by rw [Int.fdiv_eq_ediv_of_nonneg i (by omega)]; exact h⟩
theorem w_pow (hc : 0 ≤ j ∧ j ≤ 1000000 ∧ i.natAbs < 2 ^ 64) (h : P (.int (i ^ j.toNat))) : Got (oPow (.int i) (.int j)) P := ⟨_, by simp only [oPow, oII, if_pos hc], h⟩
theorem w_lt (h : P (.bl (decide (i < j)))) : Got (oLt (.int i) (.int j)) P := ⟨_, rfl, h⟩
theorem w_le (h : P (.bl (decide (i ≤ j)))) : Got (oLe (.int i) (.int j)) P := ⟨_, rfl, h⟩
theorem w_gt (h : P (.bl (decide (j < i)))) : Got (oGt (.int i) (.int j)) P := ⟨_, rfl, h⟩
theorem w_ge (h : P (.bl (decide (j ≤ i)))) : Got (oGe (.int i) (.int j)) P := ⟨_, rfl, h⟩
theorem w_neg (h : P (.int (-i))) : Got (oNeg (.int i)) P := ⟨_, rfl, h⟩
theorem eqD_int : eqD (.int i) (.int j) = decide (i = j) := by
  simp only [eqD, D.py, PyData.eqv]
  by_cases h : i = j <;> simp [h]
theorem w_eqI (h : P (.bl (decide (i = j)))) : Got (oEq (.int i) (.int j)) P := ⟨.bl (eqD (.int i) (.int j)), by simp [oEq, okq], by rw [eqD_int]; exact h⟩
theorem w_neI (h : P (.bl (!decide (i = j)))) : Got (oNe (.int i) (.int j)) P := ⟨.bl (!eqD (.int i) (.int j)), by simp [oNe, okq], by rw [eqD_int]; exact h⟩
theorem w_eq (ha : okq 40 a = true) (hb : okq 40 b = true) (h : P (.bl (eqD a b))) : Got (oEq a b) P := ⟨_, by simp only [oEq, ha, hb, Bool.and_self, if_true], h⟩
theorem w_ne (ha : okq 40 a = true) (hb : okq 40 b = true) (h : P (.bl (!eqD a b))) : Got (oNe a b) P := ⟨_, by simp only [oNe, ha, hb, Bool.and_self, if_true], h⟩
theorem w_isN (h : P (.bl a.isNon)) : Got (oIsN a .non) P := ⟨_, rfl, h⟩
theorem w_notN (h : P (.bl (!a.isNon))) : Got (oNotN a .non) P := ⟨_, rfl, h⟩
theorem w_lenL (h : P (.int xs.length)) : Got (oLen [.lst xs]) P := ⟨_, rfl, h⟩
theorem w_lenT (h : P (.int xs.length)) : Got (oLen [.tup xs]) P := ⟨_, rfl, h⟩
theorem w_ixL (e : L2.atI xs i = some d) (h : P d) : Got (oIx (.lst xs) (.int i)) P := ⟨d, e, h⟩
theorem w_ixT (e : L2.atI xs i = some d) (h : P d) : Got (oIx (.tup xs) (.int i)) P := ⟨d, e, h⟩
theorem w_max2 (h : P (.int (if j > i then j else i))) : Got (oMax2 [.int i, .int j]) P := ⟨_, rfl, h⟩
theorem w_min2 (h : P (.int (if j < i then j else i))) : Got (oMin2 [.int i, .int j]) P := ⟨_, rfl, h⟩
theorem w_abs (h : P (.int (if i < 0 then -i else i))) : Got (oAbs [.int i]) P := ⟨_, rfl, h⟩
theorem w_listL (h : P (.lst xs)) : Got (oList [.lst xs]) P := ⟨_, rfl, h⟩
theorem w_listT (h : P (.lst xs)) : Got (oList [.tup xs]) P := ⟨_, rfl, h⟩
theorem w_tupleL (h : P (.tup xs)) : Got (oTuple [.lst xs]) P := ⟨_, rfl, h⟩
theorem w_tupleT (h : P (.tup xs)) : Got (oTuple [.tup xs]) P := ⟨_, rfl, h⟩
theorem w_sum {ns : List Int} (e : intsD xs = some ns) (h : P (.int ns.sum)) : Got (oSum [.lst xs]) P := ⟨.int ns.sum, by simp only [oSum, e]; rfl, h⟩
theorem kit_ib : kitB "int" "bool" = some false := by decide +kernel
theorem kit_ii : kitB "int" "int" = some true := by decide +kernel
theorem kit_it : kitB "int" "tuple" = some false := by decide +kernel
theorem kit_il : kitB "int" "list" = some false := by decide +kernel
theorem kit_is : kitB "int" "str" = some false := by decide +kernel
theorem kit_bb : kitB "bool" "bool" = some true := by decide +kernel
theorem kit_bi : kitB "bool" "int" = some true := by decide +kernel
theorem kit_bt : kitB "bool" "tuple" = some false := by decide +kernel
theorem kit_bl : kitB "bool" "list" = some false := by decide +kernel
theorem kit_bs : kitB "bool" "str" = some false := by decide +kernel
theorem kit_tt : kitB "tuple" "tuple" = some true := by decide +kernel
theorem kit_tb : kitB "tuple" "bool" = some false := by decide +kernel
theorem kit_ti : kitB "tuple" "int" = some false := by decide +kernel
theorem kit_tl : kitB "tuple" "list" = some false := by decide +kernel
theorem kit_ts : kitB "tuple" "str" = some false := by decide +kernel
theorem kit_ll : kitB "list" "list" = some true := by decide +kernel
theorem kit_lb : kitB "list" "bool" = some false := by decide +kernel
theorem kit_li : kitB "list" "int" = some false := by decide +kernel
theorem kit_lt : kitB "list" "tuple" = some false := by decide +kernel
theorem kit_ls : kitB "list" "str" = some false := by decide +kernel
theorem kit_ss : kitB "str" "str" = some true := by decide +kernel
theorem kit_sb : kitB "str" "bool" = some false := by decide +kernel
theorem kit_si : kitB "str" "int" = some false := by decide +kernel
theorem kit_st : kitB "str" "tuple" = some false := by decide +kernel
theorem kit_sl : kitB "str" "list" = some false := by decide +kernel
theorem kit_nb : kitB "NoneType" "bool" = some false := by decide +kernel
theorem kit_ni : kitB "NoneType" "int" = some false := by decide +kernel
theorem kit_nt : kitB "NoneType" "tuple" = some false := by decide +kernel
theorem kit_nl : kitB "NoneType" "list" = some false := by decide +kernel
theorem kit_ds : kitB "dict" "str" = some false := by decide +kernel
theorem kit_db : kitB "dict" "bool" = some false := by decide +kernel
theorem kit_di : kitB "dict" "int" = some false := by decide +kernel
theorem kit_dt : kitB "dict" "tuple" = some false := by decide +kernel
theorem kit_dl : kitB "dict" "list" = some false := by decide +kernel
def kitT (d : D) (c : String) : Option Bool := (tyD d).bind fun t => kitB t c
theorem kit_id : kitB "int" "dict" = some false := by decide +kernel
theorem kit_bd : kitB "bool" "dict" = some false := by decide +kernel
theorem kit_td : kitB "tuple" "dict" = some false := by decide +kernel
theorem kit_ld : kitB "list" "dict" = some false := by decide +kernel
theorem kit_sd : kitB "str" "dict" = some false := by decide +kernel
theorem kit_ns : kitB "NoneType" "str" = some false := by decide +kernel
theorem kit_nd : kitB "NoneType" "dict" = some false := by decide +kernel
theorem kit_dd : kitB "dict" "dict" = some true := by decide +kernel
theorem kt_ib {i : Int} : kitT (.int i) "bool" = some false := by show kitB "int" "bool" = _; exact kit_ib
theorem kt_ii {i : Int} : kitT (.int i) "int" = some true := by show kitB "int" "int" = _; exact kit_ii
theorem kt_it {i : Int} : kitT (.int i) "tuple" = some false := by show kitB "int" "tuple" = _; exact kit_it
theorem kt_il {i : Int} : kitT (.int i) "list" = some false := by show kitB "int" "list" = _; exact kit_il
theorem kt_is {i : Int} : kitT (.int i) "str" = some false := by show kitB "int" "str" = _; exact kit_is
theorem kt_id {i : Int} : kitT (.int i) "dict" = some false := by show kitB "int" "dict" = _; exact kit_id
theorem kt_bb {b : Bool} : kitT (.bl b) "bool" = some true := by show kitB "bool" "bool" = _; exact kit_bb
theorem kt_bi {b : Bool} : kitT (.bl b) "int" = some true := by show kitB "bool" "int" = _; exact kit_bi
theorem kt_bt {b : Bool} : kitT (.bl b) "tuple" = some false := by show kitB "bool" "tuple" = _; exact kit_bt
theorem kt_bl {b : Bool} : kitT (.bl b) "list" = some false := by show kitB "bool" "list" = _; exact kit_bl
theorem kt_bs {b : Bool} : kitT (.bl b) "str" = some false := by show kitB "bool" "str" = _; exact kit_bs
theorem kt_bd {b : Bool} : kitT (.bl b) "dict" = some false := by show kitB "bool" "dict" = _; exact kit_bd
theorem kt_tb {xs : List D} : kitT (.tup xs) "bool" = some false := by show kitB "tuple" "bool" = _; exact kit_tb
theorem kt_ti {xs : List D} : kitT (.tup xs) "int" = some false := by show kitB "tuple" "int" = _; exact kit_ti
theorem kt_tt {xs : List D} : kitT (.tup xs) "tuple" = some true := by show kitB "tuple" "tuple" = _; exact kit_tt
theorem kt_tl {xs : List D} : kitT (.tup xs) "list" = some false := by show kitB "tuple" "list" = _; exact kit_tl
theorem kt_ts {xs : List D} : kitT (.tup xs) "str" = some false := by show kitB "tuple" "str" = _; exact kit_ts
theorem kt_td {xs : List D} : kitT (.tup xs) "dict" = some false := by show kitB "tuple" "dict" = _; exact kit_td
theorem kt_lb {xs : List D} : kitT (.lst xs) "bool" = some false := by show kitB "list" "bool" = _; exact kit_lb
theorem kt_li {xs : List D} : kitT (.lst xs) "int" = some false := by show kitB "list" "int" = _; exact kit_li
theorem kt_lt {xs : List D} : kitT (.lst xs) "tuple" = some false := by show kitB "list" "tuple" = _; exact kit_lt
theorem kt_ll {xs : List D} : kitT (.lst xs) "list" = some true := by show kitB "list" "list" = _; exact kit_ll
theorem kt_ls {xs : List D} : kitT (.lst xs) "str" = some false := by show kitB "list" "str" = _; exact kit_ls
theorem kt_ld {xs : List D} : kitT (.lst xs) "dict" = some false := by show kitB "list" "dict" = _; exact kit_ld
theorem kt_sb {s : String} : kitT (.str s) "bool" = some false := by show kitB "str" "bool" = _; exact kit_sb
theorem kt_si {s : String} : kitT (.str s) "int" = some false := by show kitB "str" "int" = _; exact kit_si
theorem kt_st {s : String} : kitT (.str s) "tuple" = some false := by show kitB "str" "tuple" = _; exact kit_st
theorem kt_sl {s : String} : kitT (.str s) "list" = some false := by show kitB "str" "list" = _; exact kit_sl
theorem kt_ss {s : String} : kitT (.str s) "str" = some true := by show kitB "str" "str" = _; exact kit_ss
theorem kt_sd {s : String} : kitT (.str s) "dict" = some false := by show kitB "str" "dict" = _; exact kit_sd
theorem kt_nb  : kitT (.non) "bool" = some false := by show kitB "NoneType" "bool" = _; exact kit_nb
theorem kt_ni  : kitT (.non) "int" = some false := by show kitB "NoneType" "int" = _; exact kit_ni
theorem kt_nt  : kitT (.non) "tuple" = some false := by show kitB "NoneType" "tuple" = _; exact kit_nt
theorem kt_nl  : kitT (.non) "list" = some false := by show kitB "NoneType" "list" = _; exact kit_nl
theorem kt_ns  : kitT (.non) "str" = some false := by show kitB "NoneType" "str" = _; exact kit_ns
theorem kt_nd  : kitT (.non) "dict" = some false := by show kitB "NoneType" "dict" = _; exact kit_nd
theorem kt_db {ks : List Key} {ys : List D} : kitT (.dct ks ys) "bool" = some false := by show kitB "dict" "bool" = _; exact kit_db
theorem kt_di {ks : List Key} {ys : List D} : kitT (.dct ks ys) "int" = some false := by show kitB "dict" "int" = _; exact kit_di
theorem kt_dt {ks : List Key} {ys : List D} : kitT (.dct ks ys) "tuple" = some false := by show kitB "dict" "tuple" = _; exact kit_dt
theorem kt_dl {ks : List Key} {ys : List D} : kitT (.dct ks ys) "list" = some false := by show kitB "dict" "list" = _; exact kit_dl
theorem kt_ds {ks : List Key} {ys : List D} : kitT (.dct ks ys) "str" = some false := by show kitB "dict" "str" = _; exact kit_ds
theorem kt_dd {ks : List Key} {ys : List D} : kitT (.dct ks ys) "dict" = some true := by show kitB "dict" "dict" = _; exact kit_dd
theorem w_isi {c : String} {k : Bool} (e : kitT a c = some k) (h : P (.bl k)) : Got (oIsi [a, .ty c]) P := ⟨.bl k, by
  unfold kitT at e
  obtain ⟨t, e1, e2⟩ := Option.bind_eq_some_iff.mp e
  simp only [oIsi, e1, e2, Option.bind_some, Option.map_some], h⟩
end
/-! ### sizes of ints -/
def Bd (n : Nat) (i : Int) : Prop := i.natAbs < 2 ^ n
section
variable {i j : Int} {n m : Nat}
theorem Bd.mul (h : Bd n i) (k : Bd m j) : Bd (n + m) (i * j) := wide_lt h k
theorem Bd.add (h : Bd n i) (k : Bd m j) : Bd (n + m + 1) (i + j) := by
  unfold Bd at *
  have h1 : (2 : Nat) ^ n ≤ 2 ^ (n + m) := Nat.pow_le_pow_right (by omega) (by omega)
  have h2 : (2 : Nat) ^ m ≤ 2 ^ (n + m) := Nat.pow_le_pow_right (by omega) (by omega)
  have h3 : (2 : Nat) ^ (n + m + 1) = 2 ^ (n + m) * 2 := Nat.pow_succ ..
  omega
theorem Bd.neg (h : Bd n i) : Bd n (-i) := by unfold Bd at *; omega
theorem Bd.sub (h : Bd n i) (k : Bd m j) : Bd (n + m + 1) (i - j) := by
  rw [Int.sub_eq_add_neg]
  exact h.add k.neg
theorem Bd.mono (h : Bd n i) (k : n ≤ m) : Bd m i := Nat.lt_of_lt_of_le h (Nat.pow_le_pow_right (by omega) k)
theorem Bd.le {i j : Int} (h : Bd n j) (h0 : 0 ≤ i) (h1 : i ≤ j) : Bd n i := by unfold Bd at *; omega
theorem Bd.mod (hj : 0 < j) (h : Bd m j) : Bd m (i % j) := by
  have h1 := Int.emod_nonneg i (show j ≠ 0 by omega)
  have h2 := Int.emod_lt_of_pos i hj
  unfold Bd at *
  omega
theorem MuOk.of (h : Bd n i) (k : Bd m j) (hs : n + m < 100000000) : MuOk i j := by
  have x : i.natAbs.log2 ≤ n := by
    by_cases h0 : i.natAbs = 0
    · rw [h0]; exact Nat.zero_le _
    · exact Nat.le_of_lt ((Nat.log2_lt h0).mpr h)
  have y : j.natAbs.log2 ≤ m := by
    by_cases h0 : j.natAbs = 0
    · rw [h0]; exact Nat.zero_le _
    · exact Nat.le_of_lt ((Nat.log2_lt h0).mpr k)
  unfold MuOk
  omega
end
end Dy

set_option Elab.async false
set_option linter.all false
set_option maxRecDepth 100000
namespace Dy
open PySem PySem.Spec PyProof.Rows L2
/-! ### for the stepping words -/
section
variable {A B : Prop} {p : Prop} [Decidable p]
theorem k_tt (h : A) : Fork (true) A B := ⟨fun _ => h, fun z => by cases z⟩
theorem k_ff (h : B) : Fork (false) A B := ⟨fun z => (by cases z), fun _ => h⟩
theorem k_nt (h : B) : Fork ((!true)) A B := ⟨fun z => (by cases z), fun _ => h⟩
theorem k_nf (h : A) : Fork ((!false)) A B := ⟨fun _ => h, fun z => by cases z⟩
theorem k_dT (hp : p) (h : A) : Fork (decide p) A B := ⟨fun _ => h, fun z => absurd hp (of_decide_eq_false z)⟩
theorem k_dF (hp : ¬ p) (h : B) : Fork (decide p) A B := ⟨fun z => absurd (of_decide_eq_true z) hp, fun _ => h⟩
theorem k_d (h1 : p → A) (h2 : ¬ p → B) : Fork (decide p) A B := ⟨fun z => h1 (of_decide_eq_true z), fun z => h2 (of_decide_eq_false z)⟩
theorem k_ndT (hp : p) (h : B) : Fork ((!decide p)) A B := ⟨fun z => absurd hp (by simpa using z), fun _ => h⟩
theorem k_ndF (hp : ¬ p) (h : A) : Fork ((!decide p)) A B := ⟨fun _ => h, fun z => absurd (by simpa using z) hp⟩
theorem k_nd (h1 : ¬ p → A) (h2 : p → B) : Fork ((!decide p)) A B := ⟨fun z => h1 (by simpa using z), fun z => h2 (by simpa using z)⟩
theorem k_nndT (hp : p) (h : A) : Fork ((!(!decide p))) A B := ⟨fun _ => h, fun z => absurd hp (by simpa using z)⟩
theorem k_nndF (hp : ¬ p) (h : B) : Fork ((!(!decide p))) A B := ⟨fun z => absurd (by simpa using z) hp, fun _ => h⟩
theorem k_nnd (h1 : p → A) (h2 : ¬ p → B) : Fork ((!(!decide p))) A B := ⟨fun z => h1 (by simpa using z), fun z => h2 (by simpa using z)⟩
theorem k_any {k : Bool} (h1 : k = true → A) (h2 : k = false → B) : Fork k A B := ⟨h1, h2⟩
theorem ex_bl {b : Bool} {P : Bool → Prop} (h : P b) : HasB (.bl b) P := ⟨b, rfl, h⟩
theorem ex_int {b : Int} {P : Int → Prop} (h : P b) : HasI (.int b) P := ⟨b, rfl, h⟩
theorem ex_two {a b : D} {P : D → D → Prop} (h : P a b) : Has2 [a, b] P := ⟨a, b, rfl, h⟩
theorem g_ot {α : Type} {o : Option α} {a : α} {P : α → Prop} (e : o = some a) (h : P a) : Got o P := ⟨a, e, h⟩
theorem f_its {n : Nat} {A : Prop} (e : n ≤ sizeLine) (h : A) : Fits n A := ⟨e, h⟩
theorem g_rows {n : Nat} {A : Prop} (e : n < sizeLine) (h : A) : Grows n A := ⟨e, h⟩
theorem w_range1 {n : Int} {P : List D → Prop} (h : Sm n) (k : P (rangeD 0 n.toNat)) : Got (range1 [.int n]) P := ⟨_, by simp only [range1, if_pos h], k⟩
theorem w_range2 {m n : Int} {P : List D → Prop} (h : Sm m) (h2 : Sm n) (k : P (rangeD m (n - m).toNat)) : Got (range2 [.int m, .int n]) P := ⟨_, by simp only [range2, if_pos (And.intro h h2)], k⟩
end
/-! ### lists of ints -/
theorem atI_ints {ns : List Int} {k : Int} (h0 : 0 ≤ k) (h1 : k < ns.length) : ∃ x, x ∈ ns ∧ L2.atI (ns.map D.int) k = some (.int x) := by
  have hk : k.toNat < ns.length := by omega
  have q : (ns.map D.int)[k.toNat]? = some (.int ns[k.toNat]) := by rw [List.getElem?_map, List.getElem?_eq_getElem hk]; rfl
  have e : ((k.toNat : Nat) : Int) = k := by omega
  refine ⟨ns[k.toNat], List.getElem_mem hk, ?_⟩
  have z := atI_nat q
  rw [e] at z
  exact z
theorem eqD_lst_nil {xs : List D} : eqD (.lst xs) (.lst []) = xs.isEmpty := by
  cases xs with
  | nil => simp [eqD, D.py, pyL, PyData.eqv, PyData.eqvAll]
  | cons x r => simp [eqD, D.py, pyL, PyData.eqv, PyData.eqvAll]
theorem okq_ints {n : Nat} (ns : List Int) : okq (n + 1) (.lst (ns.map .int)) = true := by
  simp only [okq, List.all_map, List.all_eq_true]
  intro x _
  cases n <;> rfl
theorem w_eqNil {xs : List D} {P : D → Prop} (hq : okq 40 (.lst xs) = true) (h : P (.bl xs.isEmpty)) : Got (oEq (.lst xs) (.lst [])) P := w_eq hq rfl (by rw [eqD_lst_nil]; exact h)
theorem w_neNil {xs : List D} {P : D → Prop} (hq : okq 40 (.lst xs) = true) (h : P (.bl (!xs.isEmpty))) : Got (oNe (.lst xs) (.lst [])) P := w_ne hq rfl (by rw [eqD_lst_nil]; exact h)
theorem c_nil {b : D → REnv → Option REnv} {c : REnv → R Bool} {e : REnv → R D} {ρ : REnv} {P : List D → Prop} (h : P []) : Got (compS b c e [] ρ) P := ⟨[], rfl, h⟩
theorem c_cons {b : D → REnv → Option REnv} {c : REnv → R Bool} {e : REnv → R D} {ρ : REnv} {d : D} {ds : List D} {P : List D → Prop}
    (h : Got (b d ρ) fun ρ' => (c ρ').wp (fun k => Fork k ((e ρ').wp (fun v => Got (compS b c e ds ρ) fun r => P (v :: r)) NoE) (Got (compS b c e ds ρ) P)) NoE) : Got (compS b c e (d :: ds) ρ) P := by
  obtain ⟨ρ', e1, h⟩ := h
  obtain ⟨k, e2, h1, h2⟩ := h.ok
  cases k with
  | true =>
    obtain ⟨v, e3, r, e4, hp⟩ := (h1 rfl).ok
    exact ⟨v :: r, by simp only [compS, e1, e2, e3, e4, R.get, Option.bind_some, if_true], hp⟩
  | false =>
    obtain ⟨r, e4, hp⟩ := h2 rfl
    exact ⟨r, by simp only [compS, e1, e2, e4, R.get, Option.bind_some, Bool.false_eq_true, if_false], hp⟩
theorem wp_yes {ρ : REnv} {P : Bool → Prop} {E : D → Prop} (h : P true) : (eYes ρ).wp P E := h
/-! ### a thing equals itself -/
theorem eqvAll_refl : ∀ xs : List D, (∀ x ∈ xs, PyData.eqv x.py x.py = true) → PyData.eqvAll (pyL xs) (pyL xs) = true
  | [], _ => by simp [pyL, PyData.eqvAll]
  | x :: xs, h => by
    simp only [pyL, PyData.eqvAll, h x (List.mem_cons_self ..), Bool.true_and]
    exact eqvAll_refl xs fun y hy => h y (List.mem_cons_of_mem _ hy)
theorem eqD_refl : ∀ (n : Nat) (a : D), okq n a = true → eqD a a = true := by
  intro n
  induction n with
  | zero => intro a h; cases a <;> simp_all [okq, eqD, D.py, PyData.eqv]
  | succ n ih =>
    intro a h
    cases a with
    | tup xs =>
      simp only [eqD, D.py, PyData.eqv]
      exact eqvAll_refl xs fun x hx => ih x (List.all_eq_true.mp (by simpa [okq] using h) x hx)
    | lst xs =>
      simp only [eqD, D.py, PyData.eqv]
      exact eqvAll_refl xs fun x hx => ih x (List.all_eq_true.mp (by simpa [okq] using h) x hx)
    | _ => simp_all [okq, eqD, D.py, PyData.eqv]
theorem w_eqS {a b : D} {P : D → Prop} (e : a = b) (ha : okq 40 a = true) (h : P (.bl true)) : Got (oEq a b) P := by
  subst e
  exact w_eq ha ha (by rw [eqD_refl 40 a ha]; exact h)
theorem w_neS {a b : D} {P : D → Prop} (e : a = b) (ha : okq 40 a = true) (h : P (.bl false)) : Got (oNe a b) P := by
  subst e
  exact w_ne ha ha (by rw [eqD_refl 40 a ha]; exact h)
theorem tup3 {a b c d e f : Int} (h1 : a = d) (h2 : b = e) (h3 : c = f) : D.tup [.int a, .int b, .int c] = .tup [.int d, .int e, .int f] := by rw [h1, h2, h3]
theorem Bd.log {n : Nat} {j : Int} (h : Bd n j) (hn : n < 9000) : j.natAbs.log2 < 9000 := by
  by_cases h0 : j.natAbs = 0
  · rw [h0]; decide
  · exact Nat.lt_trans ((Nat.log2_lt h0).mpr h) hn
theorem Bd.lt {n : Nat} {i : Int} (h : 0 ≤ i) (h2 : i < 2 ^ n) : Bd n i := by
  unfold Bd
  have e : ((i.natAbs : Nat) : Int) = i := by omega
  have : ((i.natAbs : Nat) : Int) < ((2 ^ n : Nat) : Int) := by rw [e, Int.natCast_pow]; exact h2
  omega
theorem Bd.lit {n : Nat} {i : Int} (h : i.natAbs < 2 ^ n := by decide) : Bd n i := h
end Dy

set_option Elab.async false
set_option linter.all false
set_option maxRecDepth 100000
namespace Dy
open PySem PySem.Spec PyProof.Rows L2
/-! ### what is never reached -/
def sBad : REnv → SR := fun _ => .bad
/-! ### range(a, b, c) -/
def rg3 (m n c : Int) : Prop := c ≠ 0 ∧ c.natAbs < 1073741824 ∧ Builtin.Range.small m n c = true ∧ 0 ≤ Builtin.Range.rangeSize m n c
instance (m n c : Int) : Decidable (rg3 m n c) := inferInstanceAs (Decidable (_ ∧ _))
def range3c : List D → Option (List D)
  | [.int m, .int n, .int c] => if rg3 m n c then some (rangeC m c (Builtin.Range.rangeSize m n c).toNat) else none
  | _ => none
theorem RepL.three {K : PySem.W.Frag} {F : Hp} {a b c : D} {vs : List V} (h : RepL K F [a, b, c] vs) : ∃ v w x, vs = [v, w, x] ∧ Rep K F a v ∧ Rep K F b w ∧ Rep K F c x := by
  simp only [RepL] at h
  obtain ⟨v, r, e, h1, w, r2, e2, h2, x, r3, e3, h3, h4⟩ := h
  subst h4
  subst e3
  subst e2
  exact ⟨v, w, x, e, h1, h2, h3⟩
/-- the turns' numbers: lo, lo + c, .., all below n -/
theorem w_range3 {m n c : Int} {P : List D → Prop} (hc : 0 < c ∧ c < 1000000) (hm : 0 ≤ m ∧ m < 1000000) (hn : 0 ≤ n ∧ n < 1000000) (k : P (rangeC m c (Builtin.Range.rangeSize m n c).toNat)) : Got (range3c [.int m, .int n, .int c]) P := by
  have z4 : 0 ≤ Builtin.Range.rangeSize m n c ∧ (Builtin.Range.rangeSize m n c ≤ 1000000 ∧ (Builtin.Range.rangeSize m n c) * c < 3000000) := by
    unfold Builtin.Range.rangeSize
    rw [if_pos (show c > 0 from hc.1)]
    by_cases h : m < n
    · rw [if_pos h]
      have h1 : 0 ≤ (n - m - 1) / c := Int.ediv_nonneg (by omega) (by omega)
      have h2 : (n - m - 1) / c ≤ n - m - 1 := Int.ediv_le_self _ (by omega)
      have h3 : (n - m - 1) / c * c ≤ n - m - 1 := Int.ediv_mul_le _ (by omega)
      rw [Int.add_mul, Int.one_mul]
      refine ⟨by omega, by omega, by omega⟩
    · rw [if_neg h]; refine ⟨by omega, by omega, by omega⟩
  refine ⟨_, by rw [range3c, if_pos ⟨by omega, by omega, ?_, z4.1⟩], k⟩
  unfold Builtin.Range.small
  generalize Builtin.Range.rangeSize m n c = q at *
  simp only [Builtin.Range.rangeFitsLong, Bool.and_eq_true, Bool.or_eq_true, decide_eq_true_eq, beq_iff_eq, show c > 0 from hc.1, if_true]
  have z5 : (q + 1) * c < 4000000 := by rw [Int.add_mul, Int.one_mul]; omega
  have z6 : (q - 1) * c < 4000000 := by rw [Int.sub_mul, Int.one_mul]; omega
  have z7 : 0 ≤ q * c := Int.mul_nonneg z4.1 (by omega)
  have z8 : -1000000 < (q - 1) * c := by rw [Int.sub_mul, Int.one_mul]; omega
  omega
theorem rangeD_get {m : Int} {n i : Nat} {d : D} (h : (rangeD m n)[i]? = some d) : d = .int (m + i) ∧ i < n := by
  obtain ⟨hi, e⟩ := List.getElem?_eq_some_iff.mp h
  have hi2 : i < n := by simpa [rangeD] using hi
  exact ⟨by rw [← e]; simp [rangeD], hi2⟩
end Dy

set_option Elab.async false
set_option linter.all false
set_option maxRecDepth 100000
namespace Dy
open PySem PySem.Spec PyProof.Rows L2
/-! ### whole numbers' divisors, and fractions -/
theorem gcd_fmod (a b : Int) : Int.gcd b (a.fmod b) = Int.gcd a b := by
  have h : a.fmod b = a - b * a.fdiv b := by have := Int.mul_fdiv_add_fmod a b; omega
  rw [h, Int.gcd_comm a b]
  have : a - b * a.fdiv b = a + b * (- a.fdiv b) := by rw [Int.mul_neg, Int.sub_eq_add_neg]
  rw [this]
  exact Int.gcd_add_mul_left_right ..
theorem fmod_lt (a b : Int) (h : b ≠ 0) : (a.fmod b).natAbs < b.natAbs := by
  rcases Int.lt_or_gt_of_ne h with h | h
  · have h1 := Int.fmod_eq_emod (a := a) (b := b)
    have := Int.emod_nonneg a (show b ≠ 0 by omega)
    have := Int.emod_lt_of_neg a h
    rw [h1]; split <;> omega
  · rw [Int.fmod_eq_emod_of_nonneg a (by omega)]
    have := Int.emod_nonneg a (show b ≠ 0 by omega)
    have := Int.emod_lt_of_pos a h
    omega
theorem ratio_num (a b : Int) (hb : b ≠ 0) : (Rat.divInt a b).num = if b < 0 then a.fdiv (-(Int.gcd a b : Int)) else a.fdiv (Int.gcd a b) := by
  have hg : 0 < Int.gcd a b := Int.gcd_pos_of_ne_zero_right a hb
  rw [Rat.num_divInt, Int.gcd_comm b a]
  by_cases h : b < 0
  · rw [if_pos h, Int.sign_eq_neg_one_of_neg h]
    obtain ⟨k, hk⟩ := Int.gcd_dvd_left a b
    generalize hgg : (Int.gcd a b : Int) = g at *
    have g0 : g ≠ 0 := by omega
    rw [hk]
    rw [show -1 * (g * k) = g * (-k) by grind, Int.mul_ediv_cancel_left _ g0, show g * k = (-g) * (-k) by grind, Int.mul_fdiv_cancel_left _ (by omega)]
  · rw [if_neg h, Int.sign_eq_one_of_pos (by omega), Int.one_mul, Int.fdiv_eq_ediv_of_nonneg _ (by omega)]
theorem ratio_den (a b : Int) (hb : b ≠ 0) : ((Rat.divInt a b).den : Int) = if b < 0 then b.fdiv (-(Int.gcd a b : Int)) else b.fdiv (Int.gcd a b) := by
  have hg : 0 < Int.gcd a b := Int.gcd_pos_of_ne_zero_right a hb
  rw [Rat.den_divInt, Int.gcd_comm b a, if_neg hb]
  have e : ((b.natAbs / Int.gcd a b : Nat) : Int) = (b.natAbs : Int) / (Int.gcd a b : Int) := by simp
  rw [e]
  by_cases h : b < 0
  · rw [if_pos h]
    obtain ⟨k, hk⟩ := Int.gcd_dvd_right a b
    have ea : (b.natAbs : Int) = -b := by omega
    rw [ea]
    generalize hgg : (Int.gcd a b : Int) = g at *
    have g0 : g ≠ 0 := by omega
    rw [hk]
    rw [show -(g * k) = g * (-k) by grind, Int.mul_ediv_cancel_left _ g0, show g * k = (-g) * (-k) by grind, Int.mul_fdiv_cancel_left _ (by omega)]
  · rw [if_neg h, Int.fdiv_eq_ediv_of_nonneg _ (by omega)]
    have ea : (b.natAbs : Int) = b := by omega
    rw [ea]
theorem divInt_add (a b : Rat) : Rat.divInt (a.num * b.den + b.num * a.den) (a.den * b.den) = a + b := by
  rw [Rat.add_def', ← Rat.divInt_ofNat]; simp
theorem divInt_sub (a b : Rat) : Rat.divInt (a.num * b.den - b.num * a.den) (a.den * b.den) = a - b := by
  rw [Rat.sub_def', ← Rat.divInt_ofNat]; simp
theorem divInt_mul (a b : Rat) : Rat.divInt (a.num * b.num) (a.den * b.den) = a * b := by
  rw [Rat.mul_def', ← Rat.divInt_ofNat]; simp
theorem divInt_div (a b : Rat) : Rat.divInt (a.num * b.den) (a.den * b.num) = a / b := by
  rw [Rat.div_def, Rat.inv_def]
  rw [← Rat.divInt_mul_divInt, Rat.num_divInt_den]
theorem den_ne (a : Rat) : (a.den : Int) ≠ 0 := by have := a.den_nz; omega
theorem den_pos (a : Rat) : 0 < (a.den : Int) := by have := a.den_pos; omega
/-- cross products -/
theorem rat_cross {r : Rat} {p q : Int} (hq : q ≠ 0) (h : r = (p : Rat) / q) : r.num * q = p * r.den := by
  rw [← Rat.divInt_eq_div] at h
  have h2 : Rat.divInt r.num r.den = Rat.divInt p q := by rw [Rat.num_divInt_den]; exact h
  exact (Rat.divInt_eq_divInt_iff (den_ne r) hq).mp h2
theorem size_num (a b : Int) (hb : b ≠ 0) : (Rat.divInt a b).num.natAbs ≤ a.natAbs := by
  rw [Rat.num_divInt]
  have hs : (b.sign * a).natAbs = a.natAbs := by
    rw [Int.natAbs_mul, Int.natAbs_sign_of_ne_zero hb, Nat.one_mul]
  rw [← hs]
  exact Int.natAbs_ediv_le_natAbs ..
theorem size_den (a b : Int) (hb : b ≠ 0) : (Rat.divInt a b).den ≤ b.natAbs := by
  rw [Rat.den_divInt, if_neg hb]
  exact Nat.div_le_self ..

def rD (r : Rat) : D := .tup [.int r.num, .int r.den]
def RB (n m : Nat) (r : Rat) : Prop := Bd n r.num ∧ Bd m r.den
theorem Bd.addM {n m : Nat} {i j : Int} (h : Bd n i) (k : Bd m j) : Bd (max n m + 1) (i + j) := by
  have h1 := h.mono (Nat.le_max_left n m)
  have h2 := k.mono (Nat.le_max_right n m)
  unfold Bd at *
  have h3 : (2 : Nat) ^ (max n m + 1) = 2 ^ max n m * 2 := Nat.pow_succ ..
  omega
theorem Bd.subM {n m : Nat} {i j : Int} (h : Bd n i) (k : Bd m j) : Bd (max n m + 1) (i - j) := by
  rw [Int.sub_eq_add_neg]
  exact h.addM k.neg
theorem RB.of {n m : Nat} {a b : Int} (hb : b ≠ 0) (h : Bd n a) (k : Bd m b) : RB n m (Rat.divInt a b) :=
  ⟨Nat.lt_of_le_of_lt (size_num a b hb) h, Nat.lt_of_le_of_lt (size_den a b hb) k⟩
theorem den_mul_ne (a b : Rat) : (a.den : Int) * b.den ≠ 0 := Int.mul_ne_zero (den_ne a) (den_ne b)
section
variable {n m n' m' : Nat} {x y : Rat}
theorem RB.mono {k l : Nat} (h : RB n m x) (h1 : n ≤ k) (h2 : m ≤ l) : RB k l x := ⟨h.1.mono h1, h.2.mono h2⟩
theorem RB.add (h : RB n m x) (k : RB n' m' y) : RB (max (n + m') (n' + m) + 1) (m + m') (x + y) := by
  rw [← divInt_add]
  exact .of (den_mul_ne x y) ((h.1.mul k.2).addM (k.1.mul h.2)) (h.2.mul k.2)
theorem RB.sub (h : RB n m x) (k : RB n' m' y) : RB (max (n + m') (n' + m) + 1) (m + m') (x - y) := by
  rw [← divInt_sub]
  exact .of (den_mul_ne x y) ((h.1.mul k.2).subM (k.1.mul h.2)) (h.2.mul k.2)
theorem RB.mul (h : RB n m x) (k : RB n' m' y) : RB (n + n') (m + m') (x * y) := by
  rw [← divInt_mul]
  exact .of (den_mul_ne x y) (h.1.mul k.1) (h.2.mul k.2)
theorem RB.div (hy : y ≠ 0) (h : RB n m x) (k : RB n' m' y) : RB (n + m') (m + n') (x / y) := by
  rw [← divInt_div]
  exact .of (Int.mul_ne_zero (den_ne x) fun z => hy (Rat.num_eq_zero.mp z)) (h.1.mul k.2) (h.2.mul k.1)
theorem RB.int {i : Int} (h : Bd n i) : RB n 1 (i : Rat) := ⟨h, by show Bd 1 ((1 : Nat) : Int); exact Bd.lit (by decide)⟩
theorem RB.frac {a b : Int} (hb : b ≠ 0) (h : Bd n a) (k : Bd m b) : RB n m ((a : Rat) / b) := by
  rw [← Rat.divInt_eq_div]
  exact .of hb h k
end
section
variable {P : D → Prop} {i j : Int} {a b : D}
theorem w_modG (hj : j ≠ 0) (h : P (.int (i.fmod j))) : Got (oMod (.int i) (.int j)) P := ⟨.int (i.fmod j), by simp only [oMod, oII, if_pos hj], h⟩
theorem w_divG (hj : j ≠ 0) (hl : j.natAbs.log2 < 9000) (h : P (.int (i.fdiv j))) : Got (oDiv (.int i) (.int j)) P := ⟨.int (i.fdiv j), by simp only [oDiv, oII, if_pos (show DivOk j from ⟨hj, hl⟩)], h⟩
end
theorem sl1 {α : Type} {xs : List α} (h : xs.length = 1) : ∃ a0, xs = [a0] := match xs, h with
  | [a0], _ => ⟨a0, rfl⟩
theorem sl2 {α : Type} {xs : List α} (h : xs.length = 2) : ∃ a0 a1, xs = [a0, a1] := match xs, h with
  | [a0, a1], _ => ⟨a0, a1, rfl⟩
end Dy

set_option Elab.async false
set_option linter.all false
set_option maxRecDepth 100000
namespace Dy
open PySem PySem.Spec PyProof.Rows L2
/-! ### the slots are kept written out -/
def Upd (ρ : REnv) (i : Nat) (s : Sl) (N : REnv → Prop) : Prop := N (ρ.set i s)
def Wipe (ρ : REnv) (vs : List Nat) (N : REnv → Prop) : Prop := N (wipeE ρ vs)
theorem upd_step {ρ ρ' : REnv} {i : Nat} {s : Sl} {N : REnv → Prop} (e : ρ.set i s = ρ') (h : N ρ') : Upd ρ i s N := by unfold Upd; rw [e]; exact h
theorem wipe_nil {ρ : REnv} {N : REnv → Prop} (h : N ρ) : Wipe ρ [] N := h
theorem wipe_cons {ρ : REnv} {v : Nat} {vs : List Nat} {N : REnv → Prop} (h : Wipe ρ vs fun ρ' => Upd ρ' v .un N) : Wipe ρ (v :: vs) N := h
section
variable {ρ : REnv} {N : REnv → Prop} {T : D → Prop} {E : D → REnv → Prop} {g h : REnv → SR} {f : REnv → R D} {u : REnv → R Bool} {t : REnv → R (List D)}
theorem sp_setU {i : Nat} (h : (f ρ).wp (fun d => Upd ρ i (.val d) N) (fun e => E e ρ)) : (sSet i f ρ).wp N T E := sp_set h
theorem sp_parU {i j : Nat} (h : (t ρ).wp (fun ds => Has2 ds fun a b => Upd ρ i (.val a) fun ρ' => Upd ρ' j (.val b) N) (fun e => E e ρ)) : (sPar i j t ρ).wp N T E := sp_par h
theorem sp_ownU {i : Nat} (h : (t ρ).wp (fun ds => Fits ds.length (Upd ρ i (.own ds) N)) (fun e => E e ρ)) : (sOwn i t ρ).wp N T E := sp_own h
theorem sp_appU {i : Nat} {ds : List D} (e : ρ[i]? = some (.own ds)) (h : (f ρ).wp (fun d => Grows ds.length (Upd ρ i (.own (ds ++ [d])) N)) (fun e => E e ρ)) : (sApp i f ρ).wp N T E := sp_app e h
theorem sp_frO {i : Nat} {ds : List D} (e : ρ[i]? = some (.own ds)) (h : Upd ρ i (.val (.lst ds)) fun ρ' => (g ρ').wp N T E) : (sFreeze i g ρ).wp N T E := by
  unfold sFreeze eFreeze
  rw [e]
  exact h
theorem sp_frV {i : Nat} {d : D} (e : ρ[i]? = some (.val d)) (h : (g ρ).wp N T E) : (sFreeze i g ρ).wp N T E := by
  unfold sFreeze eFreeze
  rw [e]
  exact h
theorem sp_frU {i : Nat} (e : ρ[i]? = some .un) (h : (g ρ).wp N T E) : (sFreeze i g ρ).wp N T E := by
  unfold sFreeze eFreeze
  rw [e]
  exact h
theorem w_bName {i : Nat} {d : D} (h : Upd ρ i (.val d) N) : Got (bName i d ρ) N := ⟨_, rfl, h⟩
theorem w_bNil (h : N ρ) : Got (bNil [] ρ) N := ⟨_, rfl, h⟩
theorem w_bCons {b : D → REnv → Option REnv} {c : List D → REnv → Option REnv} {d : D} {r : List D} (h : Got (b d ρ) fun ρ' => Got (c r ρ') N) : Got (bCons b c (d :: r) ρ) N := by
  obtain ⟨ρ', e, ρ'', e2, h⟩ := h
  exact ⟨ρ'', by unfold bCons; simp only [e, Option.bind_some, e2], h⟩
theorem w_bSeqT {n : Nat} {c : List D → REnv → Option REnv} {xs : List D} (hl : xs.length = n) (h : Got (c xs ρ) N) : Got (bSeq n c (.tup xs) ρ) N := by
  obtain ⟨ρ', e, h⟩ := h
  exact ⟨ρ', by unfold bSeq; simp only [hl, if_true, e], h⟩
theorem w_bSeqL {n : Nat} {c : List D → REnv → Option REnv} {xs : List D} (hl : xs.length = n) (h : Got (c xs ρ) N) : Got (bSeq n c (.lst xs) ρ) N := by
  obtain ⟨ρ', e, h⟩ := h
  exact ⟨ρ', by unfold bSeq; simp only [hl, if_true, e], h⟩
theorem wp_compU {E : D → Prop} {P : D → Prop} {vs : List Nat} {fi : REnv → R (List D)} {b : D → REnv → Option REnv} {c : REnv → R Bool} {e : REnv → R D} (h : (fi ρ).wp (fun ds => Fits ds.length (Wipe ρ vs fun ρ' => Got (compS b c e ds ρ') fun rs => P (.lst rs))) E) : (eComp vs fi b c e ρ).wp P E := wp_comp h
end
theorem wp_fnU {n m : Nat} {ds : List D} {g : REnv → SR} {ρ0 : REnv} {P : D → Prop} {E : D → Prop} (hl : ds.length = n) (e : ds.map .val ++ List.replicate (m - n) .un = ρ0) (h : (g ρ0).wp (fun _ => P .non) P (fun e _ => E e)) : (fnD n m g ds).wp P E := wp_fn hl (by rw [e]; exact h)
section
variable {ρ : REnv} {N : REnv → Prop} {T : D → Prop} {E : D → REnv → Prop} {g : REnv → SR} {b : D → REnv → Option REnv} {d : D} {ds : List D}
theorem fs_nil (h : N ρ) : (forS b g [] ρ).wp N T E := by unfold forS; exact h
theorem fs_cons (h : Got (b d ρ) fun ρ' => (g ρ').wp (fun ρ'' => (forS b g ds ρ'').wp N T E) T E) : (forS b g (d :: ds) ρ).wp N T E := by
  obtain ⟨ρ', e1, h1⟩ := h
  unfold forS
  rw [e1]
  show ((g ρ').seq (forS b g ds)).wp N T E
  exact sp_seq (g := g) (h := forS b g ds) h1
end
section
variable {ρ : REnv} {P : D → Prop} {x y : Rat}
theorem w_ixR0 (h : P (.int x.num)) : Got (oIx (rD x) (.int 0)) P := w_ixT rfl h
theorem w_ixR1 (h : P (.int x.den)) : Got (oIx (rD x) (.int 1)) P := w_ixT rfl h
theorem w_lenR (h : P (.int 2)) : Got (oLen [rD x]) P := w_lenT h
theorem kt_rt : kitT (rD x) "tuple" = some true := kt_tt
theorem kt_rb : kitT (rD x) "bool" = some false := kt_tb
theorem kt_ri : kitT (rD x) "int" = some false := kt_ti
theorem kt_rl : kitT (rD x) "list" = some false := kt_tl
theorem w_iterR {P : List D → Prop} (h : P [.int x.num, .int x.den]) : Got (iterD (rD x)) P := g_ot rfl h
theorem w_bSeqR {c : List D → REnv → Option REnv} {N : REnv → Prop} (h : Got (c [.int x.num, .int x.den] ρ) N) : Got (bSeq 2 c (rD x) ρ) N := w_bSeqT rfl h
theorem eqD_rat : eqD (rD x) (rD y) = decide (x = y) := by
  have e : eqD (rD x) (rD y) = (eqD (.int x.num) (.int y.num) && eqD (.int x.den) (.int y.den)) := by
    simp [rD, eqD, D.py, pyL, PyData.eqv, PyData.eqvAll]
  rw [e, eqD_int, eqD_int]
  by_cases h : x = y
  · subst h; simp
  · have : ¬ (x.num = y.num ∧ (x.den : Int) = y.den) := fun z => h (Rat.ext z.1 (by omega))
    simp only [h, decide_false]
    by_cases h1 : x.num = y.num
    · have h2 : ¬ ((x.den : Int) = y.den) := fun z => this ⟨h1, z⟩
      simp only [h2, decide_false, Bool.and_false]
    · simp only [h1, decide_false, Bool.false_and]
theorem okq_rat : okq 40 (rD x) = true := rfl
theorem w_eqR (h : P (.bl (decide (x = y)))) : Got (oEq (rD x) (rD y)) P := w_eq okq_rat okq_rat (by rw [eqD_rat]; exact h)
theorem w_neR (h : P (.bl (!decide (x = y)))) : Got (oNe (rD x) (rD y)) P := w_ne okq_rat okq_rat (by rw [eqD_rat]; exact h)
end
theorem RB.n {n m : Nat} {x : Rat} (h : RB n m x) : Bd n x.num := h.1
theorem RB.d {n m : Nat} {x : Rat} (h : RB n m x) : Bd m x.den := h.2
theorem cross_of {r : Rat} {p q : Int} (hq : q ≠ 0) (h : Rat.divInt p q = r) : r.num * q = p * r.den := rat_cross hq (by rw [← h, Rat.divInt_eq_div])
/-! ### triples -/
abbrev t3 (a b c : Int) : D := .tup [.int a, .int b, .int c]
def T3 (n : Nat) (d : D) : Prop := ∃ a b c, d = t3 a b c ∧ Bd n a ∧ Bd n b ∧ Bd n c
theorem T3.mk {n : Nat} {a b c : Int} (ha : Bd n a) (hb : Bd n b) (hc : Bd n c) : T3 n (t3 a b c) := ⟨a, b, c, rfl, ha, hb, hc⟩
section
variable {P : D → Prop} {a b c d e f : Int}
theorem eqD_t3 : eqD (t3 a b c) (t3 d e f) = decide (a = d ∧ b = e ∧ c = f) := by
  have z : eqD (t3 a b c) (t3 d e f) = (eqD (.int a) (.int d) && (eqD (.int b) (.int e) && eqD (.int c) (.int f))) := by
    simp [eqD, D.py, pyL, PyData.eqv, PyData.eqvAll]
  rw [z, eqD_int, eqD_int, eqD_int]
  simp only [Bool.decide_and]
theorem w_eq3 (h : P (.bl (decide (a = d ∧ b = e ∧ c = f)))) : Got (oEq (.tup [.int a, .int b, .int c]) (.tup [.int d, .int e, .int f])) P := w_eq rfl rfl (by rw [show eqD _ _ = _ from eqD_t3]; exact h)
theorem w_ne3 (h : P (.bl (!decide (a = d ∧ b = e ∧ c = f)))) : Got (oNe (.tup [.int a, .int b, .int c]) (.tup [.int d, .int e, .int f])) P := w_ne rfl rfl (by rw [show eqD _ _ = _ from eqD_t3]; exact h)
theorem w_rng3 {P : List D → Prop} (h : P [.int 0, .int 1, .int 2]) : Got (range1 [.int 3]) P := g_ot rfl h
theorem w_zip3 {P : List D → Prop} {a b c d e f : D} (h : P [.tup [a, d], .tup [b, e], .tup [c, f]]) : Got (zip2 [.tup [a, b, c], .tup [d, e, f]]) P := g_ot rfl h
theorem w_sum3 (h : P (.int (a + b + c))) : Got (oSum [.lst [.int a, .int b, .int c]]) P := w_sum rfl (by rw [show [a, b, c].sum = a + b + c by simp; omega]; exact h)
end
theorem RB.zero : RB 1 1 0 := ⟨Bd.lit (by decide), Bd.lit (by decide)⟩
theorem RB.one : RB 1 1 1 := ⟨Bd.lit (by decide), Bd.lit (by decide)⟩
theorem decide_t {p : Prop} [Decidable p] (h : p) : decide p = true := decide_eq_true h
theorem decide_f {p : Prop} [Decidable p] (h : ¬ p) : decide p = false := decide_eq_false h
end Dy

set_option Elab.async false
set_option linter.all false
set_option maxRecDepth 100000
namespace Dy
open PySem PySem.Spec PyProof.Rows L2
section
variable {P : D → Prop} {x y z x' y' z' : Rat}
theorem eqD_pair {a b c d : D} : eqD (.tup [a, b]) (.tup [c, d]) = (eqD a c && eqD b d) := by
  simp [eqD, D.py, pyL, PyData.eqv, PyData.eqvAll]
theorem eqD_three {a b c a' b' c' : D} : eqD (.tup [a, b, c]) (.tup [a', b', c']) = (eqD a a' && (eqD b b' && eqD c c')) := by
  simp [eqD, D.py, pyL, PyData.eqv, PyData.eqvAll]
theorem w_eqRR (h : P (.bl (decide (x = x' ∧ y = y')))) : Got (oEq (.tup [rD x, rD y]) (.tup [rD x', rD y'])) P := w_eq rfl rfl (by rw [eqD_pair, eqD_rat, eqD_rat, ← Bool.decide_and]; exact h)
theorem w_neRR (h : P (.bl (!decide (x = x' ∧ y = y')))) : Got (oNe (.tup [rD x, rD y]) (.tup [rD x', rD y'])) P := w_ne rfl rfl (by rw [eqD_pair, eqD_rat, eqD_rat, ← Bool.decide_and]; exact h)
theorem w_eqRRR (h : P (.bl (decide (x = x' ∧ y = y' ∧ z = z')))) : Got (oEq (.tup [rD x, rD y, rD z]) (.tup [rD x', rD y', rD z'])) P := w_eq rfl rfl (by rw [eqD_three, eqD_rat, eqD_rat, eqD_rat, ← Bool.decide_and, ← Bool.decide_and]; exact h)
theorem w_neRRR (h : P (.bl (!decide (x = x' ∧ y = y' ∧ z = z')))) : Got (oNe (.tup [rD x, rD y, rD z]) (.tup [rD x', rD y', rD z'])) P := w_ne rfl rfl (by rw [eqD_three, eqD_rat, eqD_rat, eqD_rat, ← Bool.decide_and, ← Bool.decide_and]; exact h)
end
theorem kt_zb {s : Str} : kitT (.str s) "bool" = some false := by show kitB "str" "bool" = _; exact kit_sb
theorem kt_zi {s : Str} : kitT (.str s) "int" = some false := by show kitB "str" "int" = _; exact kit_si
theorem kt_zt {s : Str} : kitT (.str s) "tuple" = some false := by show kitB "str" "tuple" = _; exact kit_st
theorem kt_zl {s : Str} : kitT (.str s) "list" = some false := by show kitB "str" "list" = _; exact kit_sl
theorem kt_zs {s : Str} : kitT (.str s) "str" = some true := by show kitB "str" "str" = _; exact kit_ss
theorem kt_zd {s : Str} : kitT (.str s) "dict" = some false := by show kitB "str" "dict" = _; exact kit_sd
end Dy

set_option Elab.async false
set_option linter.all false
set_option maxRecDepth 100000
namespace Dy
open PySem PySem.Spec PyProof.Rows L2
/-- min(a, b, c) of three ints -/
def oMin3 : List D → Option D
  | [.int i, .int j, .int k] => some (.int (if k < (if j < i then j else i) then k else (if j < i then j else i)))
  | _ => none
theorem w_min3 {i j k : Int} {P : D → Prop} (h : P (.int (if k < (if j < i then j else i) then k else (if j < i then j else i)))) : Got (oMin3 [.int i, .int j, .int k]) P := ⟨_, rfl, h⟩
end Dy

set_option Elab.async false
set_option linter.all false
set_option maxRecDepth 100000
namespace Dy
open PySem PySem.Spec PyProof.Rows L2
/-! ### refusals -/
/-- what is known of a class of refusals -/
structure ExcC (K : PySem.W.Frag) (mg : Str → Option Value) (c : Str) : Prop where
  ref : mg c = some (.ref (He.ga K c))
  q : PySem.W.excIn K (He.ga K c) He.veBase "ValueError.__new__" = true
  keep : PySem.W.keepIn K (.ref (He.ga K c)) = true
  sub : PySem.W.subIn K (.ref (He.ga K c)) (.type "BaseException") = some true
  ty : PySem.W.typeIn K (.ref (He.ga K c)) = some (.type "type")
def sRaise (c : Str) : REnv → SR := fun ρ => .err (.exc c [] []) ρ
theorem ss_raise0 {X : Cx} {W : WX} {c m : Str} {j : Nat} {p p2 pos' pos : Pos} (E : ExcC X.K X.mg c) (hc : X.calm = true) (tk : Takes X W) (hg : Gl X c := by rfl) (hdb : (c == ("__debug__" : Str)) = false := by decide) :
    SS X W (.Raise (some (.Call (.Name c p) [.Constant (.str m) j p2] [] pos')) none pos) (sRaise c) :=
  (ps_raise hc tk (pmk_own PySem.F.excBase_ValueError E.q E.ref E.keep (raises_own E.sub E.ty) hg hdb)).dy fun D σ H ⟨G, F, ρ, r, p⟩ =>
    p σ F H _ none (.refl _) .refl r ⟨c, [], [], [], rfl, rfl, rfl, RepL.nil, rfl⟩
end Dy

set_option Elab.async false
set_option linter.all false
set_option maxRecDepth 100000
namespace Dy
open PySem PySem.Spec PyProof.Rows L2
/-! ### own lists, read and kept as one's own -/
/-- a test over the slots with x frozen; behind it x is as it was -/
def uPeek (i : Nat) (u : REnv → R Bool) : REnv → R Bool := fun ρ => match u (eFreeze i ρ) with
  | .ok b => .ok b
  | _ => .bad
/-- the same of an expression that gives a whole number or a truth -/
def ePeek (i : Nat) (f : REnv → R D) : REnv → R D := fun ρ => match f (eFreeze i ρ) with
  | .ok (.int n) => .ok (.int n)
  | .ok (.bl b) => .ok (.bl b)
  | _ => .bad
theorem RepE.frz {K : PySem.W.Frag} {G F H : Hp} {σ : St} {ρ : REnv} (r : RepE K G F H σ ρ) (i : Nat) : ∃ F1, Same F F1 ∧ RepE K G F1 H σ (eFreeze i ρ) := by
  unfold eFreeze
  cases q : ρ[i]? with
  | none => exact ⟨F, .refl _, r⟩
  | some s =>
    cases s with
    | own ds =>
      obtain ⟨F', s1, n1, r1⟩ := r.freeze q
      exact ⟨F', s1, r1⟩
    | tree o =>
      obtain ⟨F', s1, n1, r1⟩ := r.freezeT q
      exact ⟨F', s1, r1⟩
    | pin w o =>
      obtain ⟨F', s1, n1, r1⟩ := r.freezeP q
      exact ⟨F', s1, r1⟩
    | _ => exact ⟨F, .refl _, r⟩
def Sc (d : D) (P : D → Prop) : Prop := (∃ n, d = D.int n ∧ P (D.int n)) ∨ ∃ b, d = D.bl b ∧ P (D.bl b)
theorem sc_int {n : Int} {P : D → Prop} (h : P (.int n)) : Sc (.int n) P := .inl ⟨n, rfl, h⟩
theorem sc_bl {b : Bool} {P : D → Prop} (h : P (.bl b)) : Sc (.bl b) P := .inr ⟨b, rfl, h⟩
section
variable {ρ : REnv} {i : Nat} {ds : List D} {E : D → Prop}
theorem wp_uPeek {u : REnv → R Bool} {P : Bool → Prop} (e : ρ[i]? = some (.own ds)) (h : Upd ρ i (.val (.lst ds)) fun ρ' => (u ρ').wp P NoE) : (uPeek i u ρ).wp P E := by
  unfold Upd at h
  obtain ⟨b, e1, hp⟩ := h.ok
  unfold uPeek eFreeze
  rw [e]
  show (match u (ρ.set i (.val (.lst ds))) with | .ok b => R.ok b | _ => .bad).wp P E
  rw [e1]; exact hp
theorem wp_ePeek {f : REnv → R D} {P : D → Prop} (e : ρ[i]? = some (.own ds)) (h : Upd ρ i (.val (.lst ds)) fun ρ' => (f ρ').wp (fun d => Sc d P) NoE) : (ePeek i f ρ).wp P E := by
  unfold Upd at h
  obtain ⟨d, e1, hp⟩ := h.ok
  have e2 : eFreeze i ρ = ρ.set i (.val (.lst ds)) := by unfold eFreeze; rw [e]
  unfold ePeek
  rw [e2, e1]
  rcases hp with ⟨n, rfl, hp⟩ | ⟨b, rfl, hp⟩
  · exact hp
  · exact hp
end
/-- x[e], x one's own list -/
def eIxO (i : Nat) (g : REnv → R D) : REnv → R D := fun ρ => match ρ[i]? with
  | some (.own ds) => (g ρ).bind fun d => match d with
    | .int k => .opt (L2.atI ds k)
    | _ => .bad
  | _ => .bad
theorem se_ixO {X : Cx} {W : WX} {b : Expr} {g : REnv → R D} {x : Str} {np pos : Pos} (i : Nat) (hb : SE X W b g) (hN : X.N[i]? = some x := by rfl) (hv : Vis X.env.scope x := by first | exact Or.inl rfl | exact Or.inr (Or.inl rfl) | exact Or.inr (Or.inr rfl)) (hd : (x == ("__debug__" : Str)) = false := by decide) (hcd : (x == ("__classdict__" : Str)) = false := by decide) (hs : PlainIx b := by exact fun _ _ => rfl) :
    SE X W (.Subscript (.Name x np) b pos) (eIxO i g) :=
  (pe_ix ix_seq (pe_var hN hv hd hcd) hb hs).dy fun σ H Q ⟨G, F, ρ, r, p⟩ => by
    unfold eIxO at p
    split at p
    · rename_i ds z
      obtain ⟨a, vs, h1, h2, h3⟩ := own_at r z
      refine ⟨.ref a, h1, G, F, ρ, r, Post.bind p fun d w F' H' _ ex rd p' => ?_⟩
      cases d with
      | int k =>
        obtain ⟨d', e4, q⟩ := Post.opt p'
        obtain ⟨v, e5, rv⟩ := (RepL.mono ex.f _ _ h3).atI e4
        exact .inl ⟨a, vs, k, v, rfl, rd.int_inv, SqL.of (ex.h _ _ h2), e5, q _ F' H' (.refl ex.s) rv⟩
      | _ => exact p'.elim
    · exact p.elim
theorem wp_ixO {ρ : REnv} {i : Nat} {ds : List D} {g : REnv → R D} {P E : D → Prop} (e : ρ[i]? = some (.own ds)) (h : (g ρ).wp (fun d => HasI d fun k => Got (L2.atI ds k) P) E) : (eIxO i g ρ).wp P E := by
  unfold eIxO
  rw [e]
  refine wp_bind (h.post ?_)
  rintro _ ⟨k, rfl, h⟩
  exact wp_opt h
end Dy

set_option Elab.async false
set_option linter.all false
set_option maxRecDepth 100000
set_option maxHeartbeats 2000000
namespace Dy
open PySem PySem.Spec PyProof.Rows L2
/-! ### an exception caught and kept -/
section
variable {X : Cx} {pins : List (Addr × Obj)} {σ : St} {H : Hp} {sI s : Shared} {B : Heap} {a : Addr} {cls : Value} {d : Option Addr}
theorem xo_ok {P : Program} {w : World} {h : Heap} {oe : Obj} {vs : Array Value} (he : h.get? a = some oe) (hz : Zc cls d oe) (hd : oe.data = .fields vs) : ObjOk P w H h a (xO cls a d) :=
  ⟨⟨oe, vs, he, hz, hd⟩, ⟨oe, he⟩, fun h1 h2 ⟨u, us, q, r⟩ k => ⟨u, us, k u q, r⟩⟩
/-- back on the ground, the exception's object tracked -/
theorem down (I : Inv X pins σ H sI) (nb : ∀ b o, sI.heap.get? b = some o → b ∉ frs X.stack → B.get? b = some o) (st : B.StaysIn s.heap) (up : sI.heap.UpToSlots s.heap) (os : s.os = sI.os) (ag : AllBare s.gens)
    (na : H a = none) (nB : B.get? a = none) (nf : a ∉ frs X.stack) {oe : Obj} {vs : Array Value} (he : s.heap.get? a = some oe) (hz : Zc cls d oe) (hd : oe.data = .fields vs) : Inv X pins σ (upd H a (xO cls a d)) s := by
  have nI : ∀ b o, sI.heap.get? b = some o → b ≠ a := fun b o e z => by
    subst z
    rw [nb _ o e nf] at nB
    cases nB
  have slots : ∀ b ∈ frs X.stack, ∀ o, sI.heap.get? b = some o → ∃ sl, s.heap.get? b = some { o with slots := sl } := fun b hb o e => by
    obtain ⟨_, o1, e1, hnf⟩ := I.stack.mem hb
    rw [e] at e1
    cases e1
    exact up b o e hnf
  have un : Un (frs X.stack) [] H (upd H a (xO cls a d)) sI.heap s.heap := {
    keep := fun b o e _ hb _ => st b o (nb b o e hb)
    slot := fun b o e _ hb _ => slots b hb o e
    free := fun b o e n _ => by rw [upd_ne (nI b o e)]; exact n
    there := fun b o e _ => by
      by_cases hb : b ∈ frs X.stack
      · obtain ⟨sl, q⟩ := slots b hb o e
        exact ⟨_, q⟩
      · exact ⟨o, st b o (nb b o e hb)⟩
    tups := fun b xs e => by rw [upd_ne (ne_of_none e na)]; exact e
    frzs := fun b o u e => by rw [upd_ne (ne_of_none e na)]; exact e
    tbls := fun b ps e => ⟨#[], by rw [upd_ne (ne_of_none e na), e]; simp⟩ }
  have hk : HOk X.prog X.w (upd H a (xO cls a d)) s.heap := fun b u e => by
    by_cases hb : b = a
    · subst hb
      rw [upd_same] at e
      cases e
      exact xo_ok he hz hd
    · rw [upd_ne hb] at e
      exact ((I.inGround nb).kept st b u e).stay (fun _ _ _ q => q) (fun c q => by rw [upd_ne (ne_of_none q na)]; exact q) fun c xs q => by rw [upd_ne (ne_of_none q na)]; exact q
  exact I.call' (ch := []) os un hk ag (fun _ z => nomatch z)
end
section
variable {X : Cx} {x n : Str} {c : Value} {i : Nat} {body suite : List Stmt} {b₀ : Stmt} {np pos pos' : Pos} {tb : WX → TS} {ts : Value → Option Addr → TS} {Wo : WX}
end
end Dy
/-! ### what is asked of the classes of refusals -/
namespace Dy
open PySem PySem.Spec PyProof.Rows L2
/-- the one class beneath the other, by their names (all stand under YardError) -/
def isaC (c y : Str) : Bool := c == y || y == ("YardError" : Str)
def exD (K : PySem.W.Frag) (C : Addr) : Bool :=
  He.eqO (PySem.W.findIn K (.ref C) "__getattribute__") (some (some (.builtin "BaseException.__getattribute__"))) && (He.eqO (PySem.W.findIn K (.ref C) "__getattr__") (some none) &&
  (decide (PySem.W.subIn K (.ref C) (.type "BaseException") = some true) && (PySem.W.hasDictIn K C && (He.eqO (PySem.W.findIn K (.ref C) "__class__") (some (some (.builtin "object.__class__"))) &&
  (He.eqO (PySem.W.specialIn K (.builtin "object.__class__") "__get__") (some (some (.builtin "getset_descriptor.__get__"))) && (decide (PySem.W.takesIn K (.builtin "object.__class__") = some true) &&
  decide (PySem.W.mroIn K C (.type "object") = some true)))))))
theorem exD_ok {K : PySem.W.Frag} {C : Addr} (h : exD K C = true) : L2.ExcC K C := by
  obtain ⟨h1, h⟩ := He.ba h
  obtain ⟨h2, h⟩ := He.ba h
  obtain ⟨h3, h⟩ := He.ba h
  obtain ⟨h4, h⟩ := He.ba h
  obtain ⟨h5, h⟩ := He.ba h
  obtain ⟨h6, h⟩ := He.ba h
  obtain ⟨h7, h8⟩ := He.ba h
  exact ⟨He.eqO_ok h1, He.eqO_ok h2, of_decide_eq_true h3, h4, He.eqO_ok h5, He.eqO_ok h6, of_decide_eq_true h7, of_decide_eq_true h8⟩
/-- ks: the classes raised; cs: those asked after -/
def exB (ks cs : List Str) (K : PySem.W.Frag) : Bool := ks.all fun c => exD K (He.ga K c) && (decide (PySem.W.kitOne K (.ref (He.ga K c)) (.type "ValueError") = some true) &&
  cs.all fun y => decide (PySem.W.exmOne K (.ref (He.ga K c)) (.ref (He.ga K y)) = some (isaC c y)) && decide (PySem.W.kitOne K (.ref (He.ga K c)) (.ref (He.ga K y)) = some (isaC c y)))
structure ExF (K : PySem.W.Frag) (mg : Str → Option Value) (ks cs : List Str) : Prop where
  glo : ∀ y ∈ cs, mg y = some (.ref (He.ga K y))
  d : ∀ c ∈ ks, L2.ExcC K (He.ga K c)
  ve : ∀ c ∈ ks, PySem.W.kitOne K (.ref (He.ga K c)) (.type "ValueError") = some true
  exm : ∀ c ∈ ks, ∀ y ∈ cs, PySem.W.exmOne K (.ref (He.ga K c)) (.ref (He.ga K y)) = some (isaC c y)
  isi : ∀ c ∈ ks, ∀ y ∈ cs, PySem.W.kitOne K (.ref (He.ga K c)) (.ref (He.ga K y)) = some (isaC c y)
theorem exB_ok {ks cs : List Str} {K : PySem.W.Frag} {mg : Str → Option Value} (h : exB ks cs K = true) (g : ∀ y ∈ cs, mg y = some (.ref (He.ga K y))) : ExF K mg ks cs := by
  have one : ∀ c ∈ ks, L2.ExcC K (He.ga K c) ∧ PySem.W.kitOne K (.ref (He.ga K c)) (.type "ValueError") = some true ∧
      ∀ y ∈ cs, PySem.W.exmOne K (.ref (He.ga K c)) (.ref (He.ga K y)) = some (isaC c y) ∧ PySem.W.kitOne K (.ref (He.ga K c)) (.ref (He.ga K y)) = some (isaC c y) := fun c hc => by
    have h1 := List.all_eq_true.mp h c hc
    obtain ⟨h2, h1⟩ := He.ba h1
    obtain ⟨h3, h1⟩ := He.ba h1
    refine ⟨exD_ok h2, of_decide_eq_true h3, fun y hy => ?_⟩
    obtain ⟨h4, h5⟩ := He.ba (List.all_eq_true.mp h1 y hy)
    exact ⟨of_decide_eq_true h4, of_decide_eq_true h5⟩
  exact ⟨g, fun c hc => (one c hc).1, fun c hc => (one c hc).2.1, fun c hc y hy => ((one c hc).2.2 y hy).1, fun c hc y hy => ((one c hc).2.2 y hy).2⟩
/-! ### try .. except C as e -/
section
variable {X : Cx} {W : WX} {y n : Str} {i : Nat} {body suite : List Stmt} {b₀ : Stmt} {np pos pos' : Pos} {g h : REnv → SR} {ks cs : List Str}
end
/-! ### isinstance of a kept refusal -/
section
variable {K : PySem.W.Frag} {x D : Addr} {ox : Obj} {od : Option Obj}
end
section
variable {X : Cx} {pins : List (Addr × Obj)} {σ : St} {H : Hp} {s : Shared} {a C : Addr} {dd : Option Addr}
end
/-! ### the field of a kept refusal -/
section
variable {X : Cx} {W : WX} {e : Expr} {f : REnv → R D} {pos : Pos} {n : Str} {te : TE}
end
/-! ### the head's facts, with one more asked -/
def obsE (fa : List He.Fa) (fn : List He.DefD) (ex : PySem.W.Frag → Bool) (K : PySem.W.Frag) : He.AlD := ((He.obsD fa fn K).1 && ex K, (He.obsD fa fn K).2)
def obsEG (n : Nat) (fa : List He.Fa) (fn : List He.DefD) (ex : PySem.W.Frag → Bool) (g : Addr → Option Obj) : He.AlD := obsE fa fn ex (He.frG g (PySem.cStatics :: He.asD g n))
def SaysE (fa : List He.Fa) (fn : List He.DefD) (ex : PySem.W.Frag → Bool) (K : PySem.W.Frag) : Prop := obsE fa fn ex K = He.valD fn
theorem SaysE.d {fa : List He.Fa} {fn : List He.DefD} {ex : PySem.W.Frag → Bool} {K : PySem.W.Frag} (c : SaysE fa fn ex K) : He.SaysD fa fn K := by
  have h : obsE fa fn ex K = He.valD fn := c
  have h1 := congrArg Prod.fst h
  have h2 := congrArg Prod.snd h
  exact Prod.ext (He.ba h1).1 h2
theorem SaysE.ex {fa : List He.Fa} {fn : List He.DefD} {ex : PySem.W.Frag → Bool} {K : PySem.W.Frag} (c : SaysE fa fn ex K) : ex K = true := (He.ba (show ((He.obsD fa fn K).1 && ex K) = true from congrArg (fun z : He.AlD => z.1) (show obsE fa fn ex K = He.valD fn from c))).2
def hookE (n : Nat) (fa : List He.Fa) (fn : List He.DefD) (ex : PySem.W.Frag → Bool) : PySem.W.Hook where
  α := He.AlD
  obs := fun s => obsEG n fa fn ex s.heap.get?
  val := fun _ => He.valD fn
  says := fun _ h => ∃ K : PySem.W.Frag, K.In h ∧ SaysE fa fn ex K
  of := fun _ _ e => ⟨_, He.frG_in, e⟩
  keeps := fun _ _ _ ⟨K, hK, c⟩ k => ⟨K, PySem.W.Frag.In.keeps hK k, c⟩
theorem obsEG_eq {n : Nat} {fa : List He.Fa} {fn : List He.DefD} {ex : PySem.W.Frag → Bool} {g : Addr → Option Obj} {s : Shared} (h : ∀ a, g a = s.heap.get? a) : obsEG n fa fn ex g = (hookE n fa fn ex).obs s := by
  have e : g = s.heap.get? := funext h
  rw [e] <;> rfl
section
variable {ρ : REnv} {N : REnv → Prop} {T : D → Prop} {E : D → REnv → Prop} {g h : REnv → SR} {ks cs : List Str} {y : Str} {i : Nat}
end
section
variable {ks cs ns : List Str} {c y : Str} {fs : List Str} {xs ys : List D} {P : D → Prop} {b : Bool}
end
end Dy

set_option Elab.async false
set_option linter.all false
set_option maxRecDepth 100000
set_option maxHeartbeats 2000000
/-! A dict is no tuple. -/
namespace Dy
open PySem PySem.Spec PyProof.Rows PySem.SeqAt
open AutoSeq1 (wpAny_loadPart')
open MeetsSeq MeetsSeq2 MeetsSeq3 SeqRoads2
open L2
end Dy

set_option Elab.async false
set_option linter.all false
set_option maxRecDepth 100000
set_option maxHeartbeats 2000000
/-! min of a list of truths that are all True; max, min of a list of whole numbers. -/
namespace Dy
open PySem PySem.Spec PyProof.Rows L2
theorem min_true {prog : Program} {w : World} {A : Around} {E : Value → Shared → Prop} {s : Shared} {l : Addr} {its : Array Value} {Q : Value → Shared → Prop} (hh : A.handled = none) (hl : s.heap.IsList l its) (hn : 0 < its.size) (ha : ∀ v ∈ its.toList, v = .bool true)
    (h : ∀ h' tk, (∀ d o, s.heap.get? d = some o → h'.get? d = some o) → Q (.bool true) { s with heap := h', toks := tk }) : wpAny (model prog w) A (call (.builtin "min") [.ref l]) Q E s := by
  have el : ∀ (i : Nat) (v : Value), its[i]? = some v → v = .bool true := fun i v e => ha v (by
    obtain ⟨h1, h2⟩ := Array.getElem?_eq_some_iff.mp e
    rw [← h2]
    exact Array.getElem_mem_toList h1)
  refine call_min_walk (iter_anyList hl fun s₂ e st hfp hlI => ?_)
  subst e
  refine ⟨_, _, _, _, _, _, fun _ _ => false, rfl, Walks.list (A := A.in1) hh _ l hlI its, st, hfp, hn, fun i j vi vj s Q E hi hj hq => ?_, fun v h' tk hP hk => ?_⟩
  · obtain rfl := el i vi hi
    obtain rfl := el j vj hj
    exact PyProof.Rows.lt_bool (p := true) (q := true) hq
  · obtain rfl := el _ v hP
    exact h h' tk (PySem.old_kept hk)
def rMinT (K : PySem.W.Frag) : List V → Hp → VK → Prop := fun vs H Q => ∃ (p : Addr) (xs : List V), vs = [.ref p] ∧ SqL K H p xs ∧ 0 < xs.length ∧ (∀ x ∈ xs, x = .bl true) ∧ Q (.bl true) H
theorem vals_true : ∀ {xs : List V} {us : List Value}, Vals xs us → (∀ x ∈ xs, x = .bl true) → ∀ u ∈ us, u = .bool true
  | _, _, .nil, _ => fun _ h => nomatch h
  | _, _, .cons r t, h => fun u hu => by
    rcases List.mem_cons.mp hu with rfl | hu
    · have e := h _ List.mem_cons_self
      subst e
      exact r
    · exact vals_true t (fun x hx => h x (List.mem_cons_of_mem _ hx)) u hu
theorem call_minT {X : Cx} (hc : X.calm = true) : CallR X (.builtin "min") (rMinT X.K) := fun pins s σ H vs us Q I r h => by
  obtain ⟨p, xs, rfl, hs, hn, ha, q⟩ := h
  obtain ⟨its, rv, hl, _⟩ := I.list hs
  rw [Vals.ref1 r]
  exact min_true (I.ok.hd hc) hl.isList (by have := rv.length; simp; omega) (by simpa using vals_true rv ha) fun h' tk k => ⟨.bl true, H, I.kept k, rfl, q⟩
def isT : D → Bool
  | .bl b => b
  | _ => false
def oMinT : List D → Option D
  | [.lst xs] => if xs ≠ [] ∧ xs.all isT = true then some (.bl true) else none
  | _ => none
theorem allT_rep {K : PySem.W.Frag} {F : Hp} : ∀ {ds : List D} {vs : List V}, RepL K F ds vs → ds.all isT = true → ∀ x ∈ vs, x = .bl true
  | [], vs, r, _ => by
    simp only [RepL] at r
    subst r
    exact fun _ h => nomatch h
  | d :: ds, vs, r, h => by
    simp only [RepL] at r
    obtain ⟨v, rr, rfl, h1, h2⟩ := r
    rw [List.all_cons, Bool.and_eq_true] at h
    intro x hx
    rcases List.mem_cons.mp hx with rfl | hx
    · cases d with
      | bl b =>
        have e : b = true := h.1
        subst e
        exact h1.bl_inv
      | _ => exact absurd h.1 (by simp [isT])
    · exact allT_rep h2 h.2 x hx
theorem d_minT {X : Cx} (hc : X.calm = true) : CallR X (.builtin "min") (rMinT X.K) ∧ OpN X.K (rMinT X.K) oMinT := ⟨call_minT hc, fun F H xs as d Q s ra e q => by
  unfold oMinT at e
  split at e
  · rename_i ys
    split at e
    · rename_i hh
      cases e
      simp only [RepL] at ra
      obtain ⟨v, rr, rfl, h1, rfl⟩ := ra
      obtain ⟨a, vs, rfl, h2, h3⟩ := h1.lst_inv
      refine ⟨a, vs, rfl, Same.seq s h2, ?_, allT_rep h3 hh.2, now q s Rep.mk_bl⟩
      rw [← h3.length]
      exact List.length_pos_iff.mpr hh.1
    · cases e
  · cases e⟩
/-! ### max, min of whole numbers -/
def topI (f : Int → Int → Int) : List Int → Option Int
  | [] => none
  | i :: r => some (r.foldl f i)
def oBest (f : Int → Int → Int) : List D → Option D
  | [.lst xs] => (intsD xs).bind fun ns => (topI f ns).map .int
  | _ => none
theorem fold_max : ∀ (r : List Int) (i : Int), (r.foldl max i ∈ i :: r) ∧ ∀ y ∈ i :: r, y ≤ r.foldl max i
  | [], i => ⟨by simp, by simp⟩
  | j :: r, i => by
    obtain ⟨h1, h2⟩ := fold_max r (max i j)
    refine ⟨?_, fun y hy => ?_⟩
    · rw [List.foldl_cons]
      rcases List.mem_cons.mp h1 with e | e
      · rw [e]
        by_cases hij : i ≤ j
        · rw [Int.max_eq_right hij]; simp
        · rw [Int.max_eq_left (by omega)]; simp
      · exact List.mem_cons_of_mem _ (List.mem_cons_of_mem _ e)
    · rw [List.foldl_cons]
      have hm := h2 (max i j) List.mem_cons_self
      rcases List.mem_cons.mp hy with rfl | hy
      · omega
      · rcases List.mem_cons.mp hy with rfl | hy
        · omega
        · exact h2 y (List.mem_cons_of_mem _ hy)
theorem fold_min : ∀ (r : List Int) (i : Int), (r.foldl min i ∈ i :: r) ∧ ∀ y ∈ i :: r, r.foldl min i ≤ y
  | [], i => ⟨by simp, by simp⟩
  | j :: r, i => by
    obtain ⟨h1, h2⟩ := fold_min r (min i j)
    refine ⟨?_, fun y hy => ?_⟩
    · rw [List.foldl_cons]
      rcases List.mem_cons.mp h1 with e | e
      · rw [e]
        by_cases hij : i ≤ j
        · rw [Int.min_eq_left hij]; simp
        · rw [Int.min_eq_right (by omega)]; simp
      · exact List.mem_cons_of_mem _ (List.mem_cons_of_mem _ e)
    · rw [List.foldl_cons]
      have hm := h2 (min i j) List.mem_cons_self
      rcases List.mem_cons.mp hy with rfl | hy
      · omega
      · rcases List.mem_cons.mp hy with rfl | hy
        · omega
        · exact h2 y (List.mem_cons_of_mem _ hy)
theorem d_maxL {X : Cx} (hc : X.calm = true) : CallR X (.builtin "max") (rMax X.K) ∧ OpN X.K (rMax X.K) (oBest max) := ⟨cr_max hc, fun F H xs as d Q s ra e q => by
  unfold oBest at e
  split at e
  · rename_i ys
    cases en : intsD ys with
    | none => rw [en] at e; cases e
    | some ns =>
      rw [en, Option.bind_some] at e
      cases ns with
      | nil => cases e
      | cons i r =>
        cases e
        simp only [RepL] at ra
        obtain ⟨v, rr, rfl, h1, rfl⟩ := ra
        obtain ⟨a, vs, rfl, h2, h3⟩ := h1.lst_inv
        rw [intsD_rep en h3] at h2
        obtain ⟨m1, m2⟩ := fold_max r i
        refine ⟨a, i :: r, rfl, Same.seq s h2, Nat.succ_pos _, fun m hm ha => ?_⟩
        have e : m = r.foldl max i := Int.le_antisymm (m2 m hm) (ha _ m1)
        subst e
        exact now q s Rep.mk_int
  · cases e⟩
theorem d_minL {X : Cx} (hc : X.calm = true) : CallR X (.builtin "min") (rMin X.K) ∧ OpN X.K (rMin X.K) (oBest min) := ⟨cr_min hc, fun F H xs as d Q s ra e q => by
  unfold oBest at e
  split at e
  · rename_i ys
    cases en : intsD ys with
    | none => rw [en] at e; cases e
    | some ns =>
      rw [en, Option.bind_some] at e
      cases ns with
      | nil => cases e
      | cons i r =>
        cases e
        simp only [RepL] at ra
        obtain ⟨v, rr, rfl, h1, rfl⟩ := ra
        obtain ⟨a, vs, rfl, h2, h3⟩ := h1.lst_inv
        rw [intsD_rep en h3] at h2
        obtain ⟨m1, m2⟩ := fold_min r i
        refine ⟨a, i :: r, rfl, Same.seq s h2, Nat.succ_pos _, fun m hm ha => ?_⟩
        have e : m = r.foldl min i := Int.le_antisymm (ha _ m1) (m2 m hm)
        subst e
        exact now q s Rep.mk_int
  · cases e⟩
theorem w_best {f : Int → Int → Int} {xs : List D} {ns : List Int} {m : Int} {P : D → Prop} (e : intsD xs = some ns) (e2 : topI f ns = some m) (h : P (.int m)) : Got (oBest f [.lst xs]) P := ⟨_, by show (intsD xs).bind _ = _; rw [e, Option.bind_some, e2]; rfl, h⟩
abbrev oMax1 : List D → Option D := oBest max
theorem d_max1 {X : Cx} (hc : X.calm = true) : CallR X (.builtin "max") (rMax X.K) ∧ OpN X.K (rMax X.K) oMax1 := d_maxL hc
def oMin1 (ds : List D) : Option D := (oMinT ds).or (oBest min ds)
end Dy

set_option Elab.async false
set_option linter.all false
set_option maxRecDepth 100000
/-! The end, with the script's size. -/
namespace Dy
open PySem PySem.Spec PyProof.Rows L2
end Dy

set_option Elab.async false
set_option linter.all false
set_option maxRecDepth 100000
set_option maxHeartbeats 2000000
/-! Refusals with a field: classes whose own __init__ hands on to the class above and sets one field. -/
namespace Dy
open PySem PySem.Spec PyProof.Rows L2
/-! ### what is asked of such a class, and of the class above -/
def yrB (K : PySem.W.Frag) (Y : Addr) : Bool := He.eqO (PySem.W.specialIn K (.ref Y) "__getattribute__") (some (some (.builtin "type.__getattribute__"))) && (PySem.W.readsIn K Y (.type "type") && (match PySem.W.findCls K (.ref Y) (.type "type") "__init__" with
  | some (.val v) => decide (v = .builtin "ValueError.__init__")
  | _ => false))
structure YrC (K : PySem.W.Frag) (Y : Addr) : Prop where
  sp : PySem.W.specialIn K (.ref Y) "__getattribute__" = some (some (.builtin "type.__getattribute__"))
  rd : PySem.W.readsIn K Y (.type "type") = true
  fd : PySem.W.findCls K (.ref Y) (.type "type") "__init__" = some (.val (.builtin "ValueError.__init__"))
theorem yrB_ok {K : PySem.W.Frag} {Y : Addr} (h : yrB K Y = true) : YrC K Y := by
  obtain ⟨h1, h2⟩ := He.ba h
  obtain ⟨h2, h3⟩ := He.ba h2
  refine ⟨He.eqO_ok h1, h2, ?_⟩
  split at h3
  · rename_i v e
    rw [e, of_decide_eq_true h3]
  · cases h3
def oxB (K : PySem.W.Frag) (C : Addr) : Bool := (match K.lookup C with
  | some ⟨.type "type", _, .cls cd, sl⟩ => (match cd.mro, sl.toList with
    | .ref C' :: bm, [_, _, _, _, some (.builtin n), _] => C' == C && (n == "ValueError.__new__" && (!cd.hasDel && (cd.hasDict && PySem.HandSPX.refsVE bm)))
    | _, _ => false)
  | _ => false) && (He.eqO (PySem.W.findIn K (.ref C) "__setattr__") (some (some (.builtin "object.__setattr__"))) && (decide (PySem.W.subIn K (.ref C) (.type "BaseException") = some true) &&
    (decide (PySem.W.typeIn K (.ref C) = some (.type "type")) && PySem.W.keepIn K (.ref C))))
theorem oxB_ok {K : PySem.W.Frag} {C : Addr} (h : oxB K C = true) : OexC K C := by
  obtain ⟨q, h⟩ := He.ba h
  obtain ⟨h1, h⟩ := He.ba h
  obtain ⟨h2, h⟩ := He.ba h
  obtain ⟨h3, h4⟩ := He.ba h
  refine ⟨?_, He.eqO_ok h1, of_decide_eq_true h2, of_decide_eq_true h3, h4⟩
  split at q
  · rename_i dd cd sl ho
    split at q
    · rename_i C' bm k0 k1 k2 k3 n k5 hm hs
      obtain ⟨q1, q⟩ := He.ba q
      obtain ⟨q2, q⟩ := He.ba q
      obtain ⟨q3, q⟩ := He.ba q
      obtain ⟨q4, q5⟩ := He.ba q
      obtain rfl := beq_iff_eq.mp q1
      obtain rfl := beq_iff_eq.mp q2
      obtain ⟨nm, bs, mro, ns, qn, hd, sn, sub, ab, col, del⟩ := cd
      dsimp only at hm q3 q4
      have q3 : del = false := by simpa using q3
      subst hm q3 q4
      have hsl : sl = #[k0, k1, k2, k3, some (.builtin "ValueError.__new__"), k5] := by
        obtain ⟨l⟩ := sl
        simp only at hs
        rw [hs]
      subst hsl
      exact ⟨nm, qn, ns, bs, bm, sn, sub, ab, col, dd, k0, k1, k2, k3, k5, ho, q5⟩
    · cases q
  · cases q
/-! ### Y.__init__(self, ..) -/
section
variable {X : Cx} {o e : Expr} {es : List Expr} {to te : TE} {ta : TA} {f : Str} {p p' p1 p2 pos : Pos}
theorem pe_yinit {Y : Addr} {y : Str} {pl : Sem Bool} (hg : Gl X y) (gm : X.mg y = some (.ref Y)) (T : YrC X.K Y) (ha : PA X (e :: es) ta)
    (hc : eval (.Call (.Attribute (.Name y p1) "__init__" p2) (e :: es) [] pos) X.env = (do
      let ov ← eval (.Name y p1) X.env
      standAt p2.atName
      let (f, first) ← holding [ov] (getMethod ov "__init__" pl)
      callWith pos f first (backTo pos (starEach (e :: es) X.env)) (backToKw pos (keywordEach [] X.env))) := by rfl)
    (hdb : (y == ("__debug__" : Str)) = false := by decide) (he : starEach (e :: es) X.env = (false, eval e X.env) :: starEach es X.env := by rfl) (hpl : (backTo pos (starEach es X.env)).any (·.1) = false := by rfl) :
    PE X (.Call (.Attribute (.Name y p1) "__init__" p2) (e :: es) [] pos) (tVeI X.K ta) := ⟨fun pins s σ H Q I h => by
  refine PySem.W.methodCall_KW (ld_glob I hg gm ?_ hdb) hc
  refine PySem.W.method_cls I.kIn T.sp (PySem.W.cls_value I.kIn T.rd T.fd (by decide +kernel) ?_)
  show wpAny _ _ (callWith pos (Value.builtin "ValueError.__init__") [] (backTo pos (starEach (e :: es) X.env)) []) _ _ _
  refine PyProof.Rows.callWith_method1 (thn (ha.run pos pins _ σ H _ (I.tok _) h) fun us s1 ⟨vs, H1, I1, r1, a, C, ws, ev, hl, T2, ea, q⟩ => ?_) he hpl
  subst ev
  cases r1 with
  | @cons _ u0 _ ur ra rw2 =>
    obtain rfl : u0 = Value.ref a := ra
    exact oinit_ok T2 I1 ea (by rw [← Paired.length rw2, sizeLine_eq]; omega) fun s2 J => ⟨.non, H1, J, rfl, q⟩⟩
end
/-- the i-th statement of a class's body -/
def clsStmt (s : Stmt) (i : Nat) : Stmt := match s with
  | .ClassDef _ _ _ b _ _ _ _ _ _ _ => b.getD i (.Pass ⟨0, 0, 0, 0⟩)
  | _ => .Pass ⟨0, 0, 0, 0⟩
def spI (K : PySem.W.Frag) (f : Str) : Sp := fun vs H Q _ => ∃ (a C : Addr) (y : V), vs = [.ref a, y] ∧ OexC K C ∧ PySem.W.findIn K (.ref C) f = some none ∧ H a = some (exo a C none) ∧
  ∀ dx, H dx = none → dx ≠ a → Q .non (upd (upd H dx (exd dx [(f, y)])) a (exo a C (some dx)))
/-- such a class: its __init__ keeps what is said of it -/
structure InC (P : Program) (w : World) (K : PySem.W.Frag) (mg : Str → Option Value) (base : Heap) (c f : Str) : Prop where
  fn : ∃ (fI : Addr) (fd : FuncData) (ps : List Str), FnOk P w K mg base (L2.CX P w) 1 fI fd ps (spI K f) ∧ Binds K fd ps [] ∧ PySem.W.findIn K (.ref (He.ga K c)) "__init__" = some (some (.ref fI)) ∧ PySem.W.typeIn K (.ref fI) = some (.type "function")
  ox : OexC K (He.ga K c)
  no : PySem.W.findIn K (.ref (He.ga K c)) f = some none
  gl : mg c = some (.ref (He.ga K c))
section
variable {P : Program} {w : World} {K : PySem.W.Frag} {mg : Str → Option Value} {base : Heap} {f : Addr} {fd : FuncData} {qual : Str} {params : Arguments} {body : List Stmt} {scope : Scope} {Y : Addr} {p : Str}
theorem init_ok {N : List Str} {fl : Str} (Fn : FunD K "__init__" qual params body scope [] [] f fd) (S : FnScope N ["self", p] scope)
    (hb : ∀ (cdv : Value) (A : Around) (outer : List Env) (s : Shared) (H : Hp) (E : XK), PSs (CxD P w K mg base N qual scope f cdv A outer s H E) body (fun D σ H => ∃ (a C : Addr) (y : V), σ[0]? = some (some (.ref a)) ∧ σ[1]? = some (some y) ∧ OexC K C ∧ PySem.W.findIn K (.ref C) fl = some none ∧ H a = some (exo a C none) ∧
      ∀ dx, H dx = none → dx ≠ a → D.nx σ (upd (upd H dx (exd dx [(fl, y)])) a (exo a C (some dx))))) : FnOk P w K mg base (L2.CX P w) 1 f fd ["self", p] (spI K fl) := by
  refine Fn.ok S (fun vs H Q E ⟨a, C, y, e, _⟩ => by rw [e]; rfl) fun cdv A outer s H vs Q E hr ⟨a, C, y, e, h1, h2, h3, h4⟩ => ⟨_, hb cdv A outer s H E, ?_⟩
  subst e
  exact ⟨a, C, y, rfl, rfl, h1, h2, h3, h4⟩
theorem init_body {X : Cx} {y m fl : Str} {j : Nat} {p0 p1 p2 p3 p4 p5 p6 p7 p8 p9 : Pos} (hg : Gl X y) (gm : X.mg y = some (.ref Y)) (T : YrC X.K Y) (h0 : X.N[0]? = some ("self" : Str)) (h1 : X.N[1]? = some p) (v0 : Vis X.env.scope "self") (v1 : Vis X.env.scope p)
    (d1 : (p == ("__debug__" : Str)) = false) (d2 : (p == ("__classdict__" : Str)) = false) (hdb : (y == ("__debug__" : Str)) = false) {pl : Sem Bool}
    (hc : eval (.Call (.Attribute (.Name y p1) "__init__" p2) [.Name "self" p3, .Constant (.str m) j p4] [] p0) X.env = (do
      let ov ← eval (.Name y p1) X.env
      standAt p2.atName
      let (f, first) ← holding [ov] (getMethod ov "__init__" pl)
      callWith p0 f first (backTo p0 (starEach [.Name "self" p3, .Constant (.str m) j p4] X.env)) (backToKw p0 (keywordEach [] X.env))))
    (he : starEach [.Name "self" p3, .Constant (.str m) j p4] X.env = (false, eval (.Name "self" p3) X.env) :: starEach [.Constant (.str m) j p4] X.env) (he2 : starEach [.Constant (.str m) j p4] X.env = (false, eval (.Constant (.str m) j p4) X.env) :: starEach [] X.env)
    (hpl : (backTo p0 (starEach [.Constant (.str m) j p4] X.env)).any (·.1) = false)
    (hs : swapsWith (.Call (.Attribute (.Name y p1) "__init__" p2) [.Name "self" p3, .Constant (.str m) j p4] [] p0) none p5.line X.env = pure false)
    (hs2 : swapsWith (.Name p p8) (some (.Attribute (.Name "self" p6) fl p7)) p9.line X.env = pure false) :
    PSs X [.Expr (.Call (.Attribute (.Name y p1) "__init__" p2) [.Name "self" p3, .Constant (.str m) j p4] [] p0) p5, .Assign [.Attribute (.Name "self" p6) fl p7] (.Name p p8) p9]
      (fun D σ H => ∃ (a C : Addr) (y : V), σ[0]? = some (some (.ref a)) ∧ σ[1]? = some (some y) ∧ OexC X.K C ∧ PySem.W.findIn X.K (.ref C) fl = some none ∧ H a = some (exo a C none) ∧
        ∀ dx, H dx = none → dx ≠ a → D.nx σ (upd (upd H dx (exd dx [(fl, y)])) a (exo a C (some dx)))) :=
  (pss_cons (ps_expr (pe_yinit hg gm T (pa_cons (pe_var h0 v0) (pa_cons pe_str pa_nil he2) he) hc hdb he hpl) hs) (pss_one (ps_ost (pe_var h0 v0) (pe_var h1 v1 d1 d2) hs2))).dy fun D σ H ⟨a, C, y, e0, e1, T1, no, ea, q⟩ =>
    ⟨.ref a, e0, a, C, [.str m], rfl, by simp, T1, ea, y, e1, .ref a, e0, a, C, rfl, T1, no, .inl ⟨ea, q⟩⟩
end
/-! ### raise C(e) -/
def sRaiseF (c f : Str) (t : REnv → R (List D)) : REnv → SR := fun ρ => (t ρ).toS ρ fun ds => match ds with
  | [d] => .err (.exc c [f] [d]) ρ
  | _ => .bad
theorem cx_no {P : Program} {w : World} {l : List Env} {H : Hp} {s : Shared} {e : Value} {s' : Shared} (h : L2.CX P w l H s (fun _ _ _ => False) e s') : False := by
  obtain ⟨_, _, _, _, _, _, _, _, _, _, _, _, z⟩ := h
  exact z
section
variable {X : Cx} {W : WX} {c f : Str} {e : Expr} {t : REnv → R (List D)} {p pos' pos : Pos}
theorem ss_raiseF (I : InC X.prog X.w X.K X.mg X.base c f) (hc : X.calm = true) (tk : Takes X W) (hr : Room 2 X.A) (ha : SA X W [e] t) (hg : Gl X c := by rfl) (hdb : (c == ("__debug__" : Str)) = false := by decide)
    (he : starEach [e] X.env = (false, eval e X.env) :: starEach [] X.env := by rfl) (hpl : (backTo pos' (starEach [] X.env)).any (·.1) = false := by rfl) :
    SS X W (.Raise (some (.Call (.Name c p) [e] [] pos')) none pos) (sRaiseF c f t) := by
  obtain ⟨fI, fd, ps, Fo, hb, i1, i2⟩ := I.fn
  refine (ps_raise hc tk (pmk_oex (es := []) I.ox i1 i2 Fo hr hb .nil (fun _ _ _ _ _ _ _ z => (cx_no z).elim) hg I.gl ha hdb he hpl)).dy fun D σ H ⟨G, F, ρ, r, p⟩ => ⟨G, F, ρ, r, PostS.toS r p fun ds vs F1 H1 _ ex rp r1 p1 => ?_⟩
  match ds, rp, p1 with
  | [d], rp, p1 =>
    have p1 : PostS X.K W D G F1 (.err (.exc c [f] [d]) ρ) := p1
    simp only [RepL] at rp
    obtain ⟨v, rr, rfl, rv, rfl⟩ := rp
    refine ⟨by simp, fun a na => ⟨a, _, v, rfl, I.ox, I.no, upd_same, fun dx hdx hne => ?_⟩⟩
    have hdx1 : H1 dx = none := by rw [upd_ne hne] at hdx; exact hdx
    have eH : upd (L2.del (upd (upd (upd H1 a (exo a (He.ga X.K c) none)) dx (exd dx [(f, v)])) a (exo a (He.ga X.K c) (some dx))) a) dx (.xd [(f, v)]) = upd H1 dx (.xd [(f, v)]) := by
      funext b
      by_cases hb : b = dx
      · subst hb
        rw [upd_same, upd_same]
      · rw [upd_ne hb, upd_ne hb]
        by_cases hba : b = a
        · subst hba
          rw [L2.del_same, na]
        · rw [L2.del_ne hba, upd_ne hba, upd_ne hb, upd_ne hba]
    refine ⟨rfl, dx, [(f, v)], upd_same, by rw [upd_ne hne, upd_same], hdx1, ?_⟩
    rw [eH]
    have ex2 : Ext F1 H1 (upd F1 dx (.xd [(f, v)])) (upd H1 dx (.xd [(f, v)])) := Ext.new r1.f hdx1
    exact p1 σ _ _ _ _ ex2.f (ex2.newG r1.g) (r1.ext ex2) ⟨c, [f], [d], [v], rfl, rfl, rfl, RepL.cons (Rep.mono ex2.f _ _ rv) RepL.nil, upd_same⟩
  | [], _, p1 => exact p1.elim
  | _ :: _ :: _, _, p1 => exact p1.elim
end
section
variable {ρ : REnv} {N : REnv → Prop} {T : D → Prop} {E : D → REnv → Prop} {t : REnv → R (List D)} {c f : Str}
end
/-! ### the head's facts of such a class -/
def fxB (K : PySem.W.Frag) (c f : Str) : Bool := oxB K (He.ga K c) && (He.eqO (PySem.W.findIn K (.ref (He.ga K c)) f) (some none) && (He.eqO (PySem.W.findIn K (.ref (He.ga K c)) "__init__") (some (some (.ref (He.ma K (He.ga K c) "__init__")))) &&
  decide (PySem.W.typeIn K (.ref (He.ma K (He.ga K c) "__init__")) = some (.type "function"))))
structure FxC (K : PySem.W.Frag) (c f : Str) : Prop where
  ox : OexC K (He.ga K c)
  no : PySem.W.findIn K (.ref (He.ga K c)) f = some none
  fi : PySem.W.findIn K (.ref (He.ga K c)) "__init__" = some (some (.ref (He.ma K (He.ga K c) "__init__")))
  ft : PySem.W.typeIn K (.ref (He.ma K (He.ga K c) "__init__")) = some (.type "function")
theorem fxB_ok {K : PySem.W.Frag} {c f : Str} (h : fxB K c f = true) : FxC K c f := by
  obtain ⟨h1, h⟩ := He.ba h
  obtain ⟨h2, h⟩ := He.ba h
  obtain ⟨h3, h4⟩ := He.ba h
  exact ⟨oxB_ok h1, He.eqO_ok h2, He.eqO_ok h3, of_decide_eq_true h4⟩
end Dy

set_option Elab.async false
set_option linter.all false
set_option maxRecDepth 100000
set_option maxHeartbeats 2000000
/-! A list with something in it is not the empty one, whatever is in it. -/
namespace Dy
open PySem PySem.Spec PyProof.Rows PySem.SeqAt L2
end Dy

set_option Elab.async false
set_option linter.all false
set_option maxRecDepth 100000
/-! ### texts: join, f-strings, str(int) -/
namespace Dy
open PySem PySem.Spec PyProof.Rows L2
section
variable {X : Cx} {W : WX} {o e : Expr} {f g : REnv → R D} {ap xp pos : Pos}
end
section
variable {ρ : REnv} {f g : REnv → R D} {P E : D → Prop}
end
end Dy

set_option Elab.async false
set_option linter.all false
set_option maxRecDepth 100000
set_option maxHeartbeats 2000000
/-! dict of a list of pairs, its reading. -/
namespace Dy
open PySem PySem.Spec PyProof.Rows L2
/-! ### dict(pairs) -/
section
variable {K : PySem.W.Frag} {F H : Hp}
end
section
variable {X : Cx}
end
end Dy

set_option Elab.async false
set_option linter.all false
set_option maxRecDepth 100000
/-! ### a comprehension whose step may raise -/
namespace Dy
open PySem PySem.Spec PyProof.Rows L2

section
variable {X : Cx} {W : WX} {pins : List (Addr × Obj)} {σ : L2.St} {H H' : Hp} {s sr : Shared} {B : Heap} {a : Addr} {cls : Value} {d : Option Addr}
end

section
variable {X : Cx}
end

/-! #### what it makes of data -/
section
variable {X : Cx} {W : WX} {elt tg iter : Expr} {ifs : List Expr} {scope : Scope} {own : List (Str × Nat)} {pos : Pos} {fi : REnv → R (List D)} {t : TG} {b : D → REnv → Option REnv} {c : REnv → R Bool} {e : REnv → R D} {is : List Nat}
end
section
variable {X : Cx} {W : WX} {e : Expr} {es : List Expr} {x : Str} {p pos : Pos} {k n : Nat} {t : REnv → R (List D)} {fn : List D → R D}
end
/-! #### weakest conditions -/
section
variable {b : D → REnv → Option REnv} {c : REnv → R Bool} {e : REnv → R D} {ρ : REnv} {P : D → Prop} {E : D → Prop} {vs : List Nat} {fi : REnv → R (List D)}
end
end Dy

set_option Elab.async false
set_option linter.all false
set_option maxRecDepth 100000
set_option maxHeartbeats 2000000
/-! sorted of texts, in, a text times a whole number. -/
namespace Dy
open PySem PySem.Spec PyProof.Rows L2
/-! ### the order of texts -/
/-! ### sorted -/
section
variable {K : PySem.W.Frag} {F H : Hp}
end
section
variable {X : Cx}
/-! ### in -/
/-! ### a text times a whole number -/
end
end Dy

set_option Elab.async false
set_option linter.all false
set_option maxRecDepth 100000
/-! ### in a tuple; list.count of whole numbers -/
namespace Dy
open PySem PySem.Spec PyProof.Rows L2
theorem intsD_ints : ∀ ns : List Int, intsD (ns.map D.int) = some ns
  | [] => rfl
  | a :: r => by
    show (intsD (r.map D.int)).map (a :: ·) = _
    rw [intsD_ints r]
    rfl
section
variable {X : Cx} {W : WX} {o e : Expr} {f g : REnv → R D} {ap xp : Pos}
end
end Dy

set_option Elab.async false
set_option linter.all false
set_option maxRecDepth 100000
set_option maxHeartbeats 2000000
/-! ### min([..], default=True) of truths that are all True -/
namespace Dy
open PySem PySem.Spec PyProof.Rows L2
section
variable {X : Cx} {W : WX} {e d : Expr} {f g : REnv → R D} {x : Str} {p kp pos : Pos}
end
end Dy

set_option Elab.async false
set_option linter.all false
set_option maxRecDepth 100000
/-! ### a def's result as the caller's own list -/
namespace Dy
open PySem PySem.Spec PyProof.Rows L2

section
variable {K : PySem.W.Frag} {G F H F' H' : Hp} {σ : St} {ρ : REnv}
/-- a list that came in between is kept -/
theorem Ext.keep {a : Addr} {vs : List V} (ex : Ext F H F' H') (ha : H a = none) (h' : H' a = some (.lst vs)) (hf : F' a = none) : Ext F H (upd F' a (.lst vs)) H' ∧ Same F' (upd F' a (.lst vs)) := by
  have sm : Same F' (upd F' a (.lst vs)) := same_upd hf
  refine ⟨⟨ex.f.trans sm, ex.h, fun b o q => ?_, fun b o q z => ?_⟩, sm⟩
  · by_cases hb : b = a
    · subst hb; rw [upd_same] at q; rw [← q]; exact h'
    · rw [upd_ne hb] at q; exact ex.s _ _ q
  · by_cases hb : b = a
    · subst hb; exact ha
    · rw [upd_ne hb] at q; exact ex.n b o q z
end
/-! ### results -/
def asL : D → R (List D)
  | .lst es => .ok es
  | _ => .bad
def PostO (K : PySem.W.Frag) (W : WX) (σ : St) (F H : Hp) (x : R (List D)) (Q : V → Hp → Prop) : Prop := match x with
  | .ok es => ∀ a ws F' H', Ext F H F' H' → H' a = some (.lst ws) → RepL K F' es ws → F' a = none → H a = none → Q (.ref a) H'
  | .err e => ∀ cls dd F' H', Ext F H F' H' → XD K F' e cls dd → W cls dd σ H'
  | .bad => False
def spO (K : PySem.W.Frag) (n : Nat) (fn : List D → R D) : Sp := fun vs H Q E => vs.length = n ∧ ∃ F ds, Same F H ∧ RepL K F ds vs ∧ PostO K (fun cls dd _ H' => E cls dd H') [] F H ((fn ds).bind asL) Q
def PostSO (K : PySem.W.Frag) (W : WX) (D : Ends) (G F : Hp) (x : SR) : Prop := match x with
  | .next ρ => ∀ σ' F' H', Same F F' → NewG G F F' → RepE K G F' H' σ' ρ → D.nx σ' H'
  | .ret d => ∃ es, d = .lst es ∧ ∀ a ws F' H', Same F F' → NewG G F F' → Same G H' → Same F' H' → H' a = some (.lst ws) → RepL K F' es ws → F' a = none → G a = none → D.rt (.ref a) H'
  | .err e ρ => ∀ σ' F' H' cls dd, Same F F' → NewG G F F' → RepE K G F' H' σ' ρ → XD K F' e cls dd → W cls dd σ' H'
  | .bad => False
section
variable {α β : Type} {K : PySem.W.Frag} {W : WX} {D D' : Ends} {G F F' H : Hp} {σ : St} {ρ : REnv}
theorem PostSO.ext {x : SR} (s : Same F F') (n : NewG G F F') (h : PostSO K W D G F x) : PostSO K W D G F' x := by
  cases x with
  | next ρ => exact fun σ' F2 H' s2 n2 r => h σ' F2 H' (s.trans s2) (n.trans n2) r
  | ret d =>
    obtain ⟨es, e, h⟩ := h
    exact ⟨es, e, fun a ws F2 H' s2 n2 => h a ws F2 H' (s.trans s2) (n.trans n2)⟩
  | err e ρ => exact fun σ' F2 H' cls dd s2 n2 r x => h σ' F2 H' cls dd (s.trans s2) (n.trans n2) r x
  | bad => exact h
theorem PostSO.toS {rel : Hp → α → β → Prop} {x : R α} {k : α → SR} {Q : β → Hp → Prop} (r : RepE K G F H σ ρ) (h : PostSO K W D G F (x.toS ρ k))
    (f : ∀ a v F' H', x = .ok a → Ext F H F' H' → rel F' a v → RepE K G F' H' σ ρ → PostSO K W D G F' (k a) → Q v H') : Post K W rel σ F H x Q := by
  cases x with
  | ok a => exact fun v F' H' e p => f a v F' H' rfl e p (r.ext e) (PostSO.ext e.f (e.newG r.g) h)
  | err e => exact fun cls dd F' H' ex p => h σ F' H' cls dd ex.f (ex.newG r.g) (r.ext ex) p
  | bad => exact h
theorem PostSO.seq {x : SR} {g : REnv → SR} {nx : St → Hp → Prop} (h : PostSO K W D G F (x.seq g))
    (f : ∀ ρ σ' F' H', x = .next ρ → Same F F' → NewG G F F' → RepE K G F' H' σ' ρ → PostSO K W D G F' (g ρ) → nx σ' H') : PostSO K W { D with nx := nx } G F x := by
  cases x with
  | next ρ => exact fun σ' F' H' s n r => f ρ σ' F' H' rfl s n r (PostSO.ext s n h)
  | ret d => exact h
  | err e ρ => exact h
  | bad => exact h
end
/-- no return in it -/
def sNR (g : REnv → SR) : REnv → SR := fun ρ => match g ρ with
  | .ret _ => .bad
  | x => x
section
variable {X : Cx} {W : WX} {st : Stmt} {rest : List Stmt} {g h : REnv → SR} {e : Expr} {f : REnv → R D} {pos : Pos}
/-! ### defs -/
end
section
variable {P : Program} {w : World} {K : PySem.W.Frag} {mg : Str → Option Value} {base : Heap} {x qual : Str} {params : Arguments} {body : List Stmt} {scope : Scope} {f : Addr} {fd : FuncData} {N ps : List Str} {k : Nat}
structure CalO (P : Program) (w : World) (K : PySem.W.Frag) (mg : Str → Option Value) (base : Heap) (x : Str) (k n : Nat) (fn : List D → R D) : Prop where
  ex : ∃ (f : Addr) (fd : FuncData) (ps : List Str), FnOk P w K mg base (L2.CX P w) k f fd ps (spO K n fn) ∧ mg x = some (.ref f) ∧ PySem.W.keepIn K (.ref f) = true ∧ Binds K fd ps []
  len : ∀ ds, ds.length ≠ n → fn ds = .bad
  lst : ∀ ds d, fn ds = .ok d → ∃ es, d = .lst es
end
section
variable {X : Cx} {W : WX} {e : Expr} {es : List Expr} {x y : Str} {p pos pos' cp : Pos} {k n : Nat} {t : REnv → R (List D)} {fn : List D → R D}
end
/-! ### weakest conditions -/
section
variable {ρ : REnv} {N : REnv → Prop} {T : D → Prop} {E : D → REnv → Prop} {g : REnv → SR} {t : REnv → R (List D)}
end
end Dy

set_option Elab.async false
set_option linter.all false
set_option maxRecDepth 100000
/-! ### for t in x: if c: return e -- x one's own list, and so it stays -/
namespace Dy
open PySem PySem.Spec PyProof.Rows L2
section
variable {X : Cx} {W : WX} {tg c e : Expr} {t : TG} {b : D → REnv → Option REnv} {u : REnv → R Bool} {f : REnv → R D} {is : List Nat} {x : Str} {np ip rp pos : Pos}
end
/-! ### one's own list handed to a def that tells numbers -/
mutual
def noL : D → Bool
  | .non => true
  | .bl _ => true
  | .int _ => true
  | .str _ => true
  | .tup xs => noLs xs
  | _ => false
def noLs : List D → Bool
  | [] => true
  | x :: xs => noL x && noLs xs
end
section
variable {K : PySem.W.Frag} {F F' : Hp} {a : Addr} {vs : List V}
theorem seqT_drop {p : Addr} {us : List V} (e : F a = some (.lst vs)) (h : ∀ b, b ≠ a → F' b = F b) (q : SqT K F p us) : SqT K F' p us := by
  rcases q with (q | ⟨o, q⟩) | q
  · exact .inl (.inl (by rw [h p (fun z => by rw [z, e] at q; cases q)]; exact q))
  · exact .inl (.inr ⟨o, by rw [h p (fun z => by rw [z, e] at q; cases q)]; exact q⟩)
  · exact .inr q
mutual
theorem rep_drop (e : F a = some (.lst vs)) (h : ∀ b, b ≠ a → F' b = F b) : ∀ (d : D) (v : V), noL d = true → Rep K F d v → Rep K F' d v
  | .non, v, _, r => by simpa [Rep] using r
  | .bl b, v, _, r => by simpa [Rep] using r
  | .int i, v, _, r => by simpa [Rep] using r
  | .str x, v, _, r => by simpa [Rep] using r
  | .tup xs, v, n, r => by
    simp only [Rep] at r ⊢
    obtain ⟨p, us, h1, h2, h3⟩ := r
    exact ⟨p, us, h1, seqT_drop e h h2, repL_drop e h xs us n h3⟩
theorem repL_drop (e : F a = some (.lst vs)) (h : ∀ b, b ≠ a → F' b = F b) : ∀ (ds : List D) (us : List V), noLs ds = true → RepL K F ds us → RepL K F' ds us
  | [], us, _, r => by simpa [RepL] using r
  | d :: ds, us, n, r => by
    simp only [RepL] at r ⊢
    obtain ⟨v, rr, h1, h2, h3⟩ := r
    have n : (noL d && noLs ds) = true := n
    rw [Bool.and_eq_true] at n
    exact ⟨v, rr, h1, rep_drop e h d v n.1 h2, repL_drop e h ds rr n.2 h3⟩
end
end
end Dy

set_option Elab.async false
set_option linter.all false
set_option maxRecDepth 100000
/-! ### return [.. for .. if ..], the test and the step may raise, the list the asker's own -/
namespace Dy
open PySem PySem.Spec PyProof.Rows L2
section
variable {X : Cx}
end
/-! #### what it makes of data -/
section
variable {X : Cx} {W : WX} {elt tg iter : Expr} {ifs : List Expr} {scope : Scope} {own : List (Str × Nat)} {pos rp : Pos} {fi : REnv → R (List D)} {t : TG} {b : D → REnv → Option REnv} {c : REnv → R Bool} {e : REnv → R D} {is : List Nat}
end
/-! #### weakest conditions -/
section
variable {b : D → REnv → Option REnv} {c : REnv → R Bool} {e : REnv → R D} {ρ : REnv} {vs : List Nat} {fi : REnv → R (List D)}
end
end Dy

set_option Elab.async false
set_option linter.all false
set_option maxRecDepth 100000
/-! ### a def's result as a tuple with the caller's own lists in it -/
namespace Dy
open PySem PySem.Spec PyProof.Rows L2
/-- which lists of a result are the caller's own -/
inductive Sh where
  | v | l | t (ss : List Sh)
mutual
def mask : Sh → D → O
  | .l, .lst ds => .l (ds.map .v)
  | .t ss, .tup ds => if ss.length = ds.length then .t (masks ss ds) else .v (.tup ds)
  | _, d => .v d
def masks : List Sh → List D → List O
  | s :: ss, d :: ds => mask s d :: masks ss ds
  | _, ds => ds.map .v
end
def O.unV : List O → Option (List D)
  | [] => some []
  | .v d :: r => (O.unV r).map (d :: ·)
  | _ :: _ => none
def O.unL : O → Option (List D)
  | .l us => O.unV us
  | _ => none
theorem of_unV : ∀ {us : List O} {ds : List D}, O.unV us = some ds → us = ds.map .v
  | [], ds, e => by cases e; rfl
  | o :: us, ds, e => by
    unfold O.unV at e
    split at e
    · rename_i heq; cases heq
    · rename_i d r heq
      cases heq
      cases q : O.unV us with
      | none => rw [q] at e; cases e
      | some es =>
        rw [q] at e
        cases e
        rw [of_unV q]
        rfl
    · cases e
theorem of_unL {o : O} {ds : List D} (e : O.unL o = some ds) : o = .l (ds.map .v) := by
  unfold O.unL at e
  split at e
  · rw [of_unV e]
  · cases e
section
variable {K : PySem.W.Frag} {G F H F' H' : Hp} {σ : St} {ρ : REnv}
theorem OwRs.vals : ∀ {ds : List D} {vs : List V} {fp : List Addr}, OwRs K F H (ds.map .v) vs fp → RepL K F ds vs ∧ fp = []
  | [], vs, fp, h => by
    simp only [List.map_nil, OwRs] at h
    exact ⟨by simp only [RepL]; exact h.1, h.2⟩
  | d :: ds, vs, fp, h => by
    simp only [List.map_cons, OwRs, OwR] at h
    obtain ⟨v, r, f1, f2, h1, h2, ⟨h3, h4⟩, h5⟩ := h
    obtain ⟨q1, q2⟩ := OwRs.vals h5
    subst h1
    exact ⟨RepL.cons h3 q1, by rw [h2, h4, q2]; rfl⟩
theorem OwRs.ofVals : ∀ {ds : List D} {vs : List V}, RepL K F ds vs → OwRs K F H (ds.map .v) vs []
  | [], vs, h => by
    simp only [RepL] at h
    simp only [List.map_nil, OwRs]
    exact ⟨h, trivial⟩
  | d :: ds, vs, h => by
    simp only [RepL] at h
    obtain ⟨v, r, h1, h2, h3⟩ := h
    simp only [List.map_cons, OwRs, OwR]
    exact ⟨v, r, [], [], h1, rfl, ⟨h2, rfl⟩, OwRs.ofVals h3⟩
theorem OwR.ofL {ds : List D} {a : Addr} {ws : List V} (h : H a = some (.lst ws)) (r : RepL K F ds ws) : OwR K F H (.l (ds.map .v)) (.ref a) [a] := by
  simp only [OwR]
  exact ⟨a, ws, [], rfl, h, rfl, OwRs.ofVals r⟩
theorem OwR.inL {ds : List D} {v : V} {fp : List Addr} (h : OwR K F H (.l (ds.map .v)) v fp) : ∃ a ws, v = .ref a ∧ H a = some (.lst ws) ∧ RepL K F ds ws ∧ fp = [a] := by
  simp only [OwR] at h
  obtain ⟨a, ws, fq, h1, h2, h3, h4⟩ := h
  obtain ⟨q1, q2⟩ := OwRs.vals h4
  exact ⟨a, ws, h1, h2, q1, by rw [h3, q2]⟩
/-- one of the lists turns -/
theorem OwRs.at_ : ∀ {os : List O} {vs : List V} {fp : List Addr} {k : Nat} {ds : List D}, OwRs K F H os vs fp → fp.Nodup → os[k]? = some (.l (ds.map .v)) →
    ∃ b ws, vs[k]? = some (.ref b) ∧ H b = some (.lst ws) ∧ b ∈ fp ∧ RepL K F ds ws ∧ ∀ es us, RepL K F es us → OwRs K F (upd H b (.lst us)) (os.set k (.l (es.map .v))) vs fp
  | [], vs, fp, k, ds, h, nd, e => by simp at e
  | o :: os, vs, fp, 0, ds, h, nd, e => by
    simp only [OwRs] at h
    obtain ⟨v, r, f1, f2, h1, h2, h3, h4⟩ := h
    have e : some o = some (O.l (ds.map .v)) := e
    cases e
    obtain ⟨a, ws, e1, e2, e3, e4⟩ := h3.inL
    subst h1; subst h2; subst e1; subst e4
    have na : a ∉ f2 := (List.nodup_cons.mp (show (a :: f2).Nodup from nd)).1
    refine ⟨a, ws, rfl, e2, by simp, e3, fun es us r' => ?_⟩
    simp only [List.set_cons_zero, OwRs]
    exact ⟨.ref a, r, [a], f2, rfl, rfl, OwR.ofL upd_same r', OwRs.move (.refl _) os r f2 h4 fun b hb => upd_ne fun z => na (z ▸ hb)⟩
  | o :: os, vs, fp, k + 1, ds, h, nd, e => by
    simp only [OwRs] at h
    obtain ⟨v, r, f1, f2, h1, h2, h3, h4⟩ := h
    subst h1; subst h2
    obtain ⟨nd1, nd2, nd3⟩ := List.nodup_append.mp nd
    obtain ⟨b, ws, q1, q2, q3, q4, q5⟩ := OwRs.at_ h4 nd2 (show os[k]? = _ from e)
    refine ⟨b, ws, q1, q2, List.mem_append_right _ q3, q4, fun es us r' => ?_⟩
    simp only [List.set_cons_succ, OwRs]
    exact ⟨v, r, f1, f2, rfl, rfl, OwR.move (.refl _) o v f1 h3 fun c hc => upd_ne fun z => nd3 c hc b q3 z, q5 es us r'⟩
theorem OwRs.length : ∀ {os : List O} {vs : List V} {fp : List Addr}, OwRs K F H os vs fp → os.length = vs.length
  | [], vs, fp, h => by
    simp only [OwRs] at h
    rw [h.1]
    rfl
  | o :: os, vs, fp, h => by
    simp only [OwRs] at h
    obtain ⟨v, r, f1, f2, h1, h2, h3, h4⟩ := h
    rw [h1, List.length_cons, List.length_cons, OwRs.length h4]
/-- the thing of one's own at a slot -/
theorem tree_at (r : RepE K G F H σ ρ) {i : Nat} {o : O} (h : ρ[i]? = some (.tree o)) : ∃ v fp, σ[i]? = some (some v) ∧ OwR K F H o v fp ∧ fp.Nodup ∧ ∀ a ∈ fp, F a = none ∧ G a = none := by
  have hl : i < σ.length := by
    rw [← r.len]
    exact (List.getElem?_eq_some_iff.mp h).1
  obtain ⟨v, fp, e1, e2, e3, e4⟩ := r.at_ i _ _ h (List.getElem?_eq_getElem hl)
  exact ⟨v, fp, by rw [List.getElem?_eq_getElem hl, e1], e2, e3, e4⟩
end
/-! #### results -/
def PostT (K : PySem.W.Frag) (W : WX) (σ : St) (F H : Hp) (x : R O) (Q : V → Hp → Prop) : Prop := match x with
  | .ok o => ∀ v fp F' H', Ext F H F' H' → OwR K F' H' o v fp → fp.Nodup → (∀ a ∈ fp, F' a = none ∧ H a = none) → Q v H'
  | .err e => ∀ cls dd F' H', Ext F H F' H' → XD K F' e cls dd → W cls dd σ H'
  | .bad => False
def spT (K : PySem.W.Frag) (n : Nat) (fn : List D → R O) : Sp := fun vs H Q E => vs.length = n ∧ ∃ F ds, Same F H ∧ RepL K F ds vs ∧ PostT K (fun cls dd _ H' => E cls dd H') [] F H (fn ds) Q
def PostST (K : PySem.W.Frag) (W : WX) (sh : Sh) (D : Ends) (G F : Hp) (x : SR) : Prop := match x with
  | .next ρ => ∀ σ' F' H', Same F F' → NewG G F F' → RepE K G F' H' σ' ρ → D.nx σ' H'
  | .ret d => ∀ v fp F' H', Same F F' → NewG G F F' → Same G H' → Same F' H' → OwR K F' H' (mask sh d) v fp → fp.Nodup → (∀ a ∈ fp, F' a = none ∧ G a = none) → D.rt v H'
  | .err e ρ => ∀ σ' F' H' cls dd, Same F F' → NewG G F F' → RepE K G F' H' σ' ρ → XD K F' e cls dd → W cls dd σ' H'
  | .bad => False
section
variable {α β : Type} {K : PySem.W.Frag} {W : WX} {sh : Sh} {D D' : Ends} {G F F' H : Hp} {σ : St} {ρ : REnv}
theorem PostST.ext {x : SR} (s : Same F F') (n : NewG G F F') (h : PostST K W sh D G F x) : PostST K W sh D G F' x := by
  cases x with
  | next ρ => exact fun σ' F2 H' s2 n2 r => h σ' F2 H' (s.trans s2) (n.trans n2) r
  | ret d => exact fun v fp F2 H' s2 n2 => h v fp F2 H' (s.trans s2) (n.trans n2)
  | err e ρ => exact fun σ' F2 H' cls dd s2 n2 r x => h σ' F2 H' cls dd (s.trans s2) (n.trans n2) r x
  | bad => exact h
theorem PostST.toS {rel : Hp → α → β → Prop} {x : R α} {k : α → SR} {Q : β → Hp → Prop} (r : RepE K G F H σ ρ) (h : PostST K W sh D G F (x.toS ρ k))
    (f : ∀ a v F' H', x = .ok a → Ext F H F' H' → rel F' a v → RepE K G F' H' σ ρ → PostST K W sh D G F' (k a) → Q v H') : Post K W rel σ F H x Q := by
  cases x with
  | ok a => exact fun v F' H' e p => f a v F' H' rfl e p (r.ext e) (PostST.ext e.f (e.newG r.g) h)
  | err e => exact fun cls dd F' H' ex p => h σ F' H' cls dd ex.f (ex.newG r.g) (r.ext ex) p
  | bad => exact h
theorem PostST.seq {x : SR} {g : REnv → SR} {nx : St → Hp → Prop} (h : PostST K W sh D G F (x.seq g))
    (f : ∀ ρ σ' F' H', x = .next ρ → Same F F' → NewG G F F' → RepE K G F' H' σ' ρ → PostST K W sh D G F' (g ρ) → nx σ' H') : PostST K W sh { D with nx := nx } G F x := by
  cases x with
  | next ρ => exact fun σ' F' H' s n r => f ρ σ' F' H' rfl s n r (PostST.ext s n h)
  | ret d => exact h
  | err e ρ => exact h
  | bad => exact h
end
section
variable {X : Cx} {W : WX} {sh : Sh} {st : Stmt} {rest : List Stmt} {g h : REnv → SR} {e : Expr} {f : REnv → R D} {pos : Pos}
/-! #### the pieces of a tuple that is told -/
/-- new, or of one's own at one of the slots -/
def Fr (H : Hp) (σ : St) (ρ : REnv) (I : List Nat) (a : Addr) : Prop := H a = none ∨ ∃ i ∈ I, ∃ ds, ρ[i]? = some (.own ds) ∧ σ[i]? = some (some (.ref a))
def PostA (K : PySem.W.Frag) (W : WX) (σ : St) (ρ : REnv) (I : List Nat) (F H : Hp) (x : R (List O)) (Q : List V → Hp → Prop) : Prop := match x with
  | .ok os => ∀ vs fp F' H', Ext F H F' H' → OwRs K F' H' os vs fp → fp.Nodup → (∀ a ∈ fp, F' a = none ∧ Fr H σ ρ I a) → Q vs H'
  | .err e => ∀ cls dd F' H', Ext F H F' H' → XD K F' e cls dd → W cls dd σ H'
  | .bad => False
theorem PostA.bind {K : PySem.W.Frag} {σ : St} {ρ : REnv} {I : List Nat} {F H F1 H1 : Hp} {x : R (List O)} {k : List O → List O} {Q Q' : List V → Hp → Prop} (h : PostA K W σ ρ I F H (x.bind fun os => .ok (k os)) Q) (ex : Ext F H F1 H1)
    (f : ∀ os vs fp F' H', x = .ok os → Ext F1 H1 F' H' → OwRs K F' H' os vs fp → fp.Nodup → (∀ a ∈ fp, F' a = none ∧ Fr H1 σ ρ I a) → (∀ vs' fp', OwRs K F' H' (k os) vs' fp' → fp'.Nodup → (∀ a ∈ fp', F' a = none ∧ Fr H σ ρ I a) → Q vs' H') → Q' vs H') : PostA K W σ ρ I F1 H1 x Q' := by
  cases x with
  | ok os => exact fun vs fp F' H' ex2 o nd fr => f os vs fp F' H' rfl ex2 o nd fr fun vs' fp' o' nd' fr' => h vs' fp' F' H' (ex.trans ex2) o' nd' fr'
  | err e => exact fun cls dd F' H' ex2 xd => h cls dd F' H' (ex.trans ex2) xd
  | bad => exact h
open Classical in
end
section
variable {X : Cx} {W : WX} {elt tg iter : Expr} {ifs : List Expr} {scope : Scope} {own : List (Str × Nat)} {pos rp : Pos} {fi : REnv → R (List D)} {t : TG} {b : D → REnv → Option REnv} {c : REnv → R Bool} {e : REnv → R D} {is : List Nat}
end
/-! #### defs -/
section
variable {P : Program} {w : World} {K : PySem.W.Frag} {mg : Str → Option Value} {base : Heap} {x qual : Str} {params : Arguments} {body : List Stmt} {scope : Scope} {f : Addr} {fd : FuncData} {N ps : List Str} {k : Nat} {sh : Sh}
structure CalT (P : Program) (w : World) (K : PySem.W.Frag) (mg : Str → Option Value) (base : Heap) (x : Str) (k n : Nat) (fn : List D → R O) : Prop where
  ex : ∃ (f : Addr) (fd : FuncData) (ps : List Str), FnOk P w K mg base (L2.CX P w) k f fd ps (spT K n fn) ∧ mg x = some (.ref f) ∧ PySem.W.keepIn K (.ref f) = true ∧ Binds K fd ps []
  len : ∀ ds, ds.length ≠ n → fn ds = .bad
end
section
variable {X : Cx} {W : WX} {e : Expr} {es : List Expr} {x y : Str} {p pos pos' cp : Pos} {k n : Nat} {t : REnv → R (List D)} {fn : List D → R O}
end
/-! #### for p in x: p.clear() -/
theorem set_same {α : Type} {l : List α} {j : Nat} {x : α} (h : l[j]? = some x) : l.set j x = l := by
  obtain ⟨hl, he⟩ := List.getElem?_eq_some_iff.mp h
  rw [← he]
  exact List.set_getElem_self hl
section
variable {X : Cx} {W : WX} {pos p1 p2 p3 p4 p5 p6 : Pos} {x y : Str}
end
end Dy
namespace Dy
open PySem PySem.Spec PyProof.Rows L2
section
variable {ρ : REnv} {N : REnv → Prop} {T : D → Prop} {E : D → REnv → Prop} {g : REnv → SR} {f : REnv → R D} {P E' : D → Prop}
end
end Dy

set_option Elab.async false
set_option linter.all false
set_option maxRecDepth 100000
/-! ### new lists as one's own; reading and adding to lists within one's own tuple -/
namespace Dy
open PySem PySem.Spec PyProof.Rows L2
section
variable {X : Cx} {W : WX} {sh : Sh} {e : Expr} {x : REnv → R (List D)} {f : REnv → R D} {pos pos' p : Pos} {y : Str}
end
section
variable {X : Cx} {W : WX} {sh : Sh} {st : Stmt} {g : REnv → SR}
end
/-! #### reading what is one's own, the answer without lists -/
section
variable {K : PySem.W.Frag} {F F' : Hp} {fp : List Addr}
theorem seqT_dropN {p : Addr} {us : List V} (e : ∀ a ∈ fp, (∃ vs, F a = some (.lst vs)) ∨ ∃ z, F a = some (.dK z)) (h : ∀ b, b ∉ fp → F' b = F b) (q : SqT K F p us) : SqT K F' p us := by
  rcases q with (q | ⟨o, q⟩) | q
  · exact .inl (.inl (by rw [h p (fun z => by rcases e p z with ⟨vs, e1⟩ | ⟨vs, e1⟩ <;> (rw [e1] at q; cases q))]; exact q))
  · exact .inl (.inr ⟨o, by rw [h p (fun z => by rcases e p z with ⟨vs, e1⟩ | ⟨vs, e1⟩ <;> (rw [e1] at q; cases q))]; exact q⟩)
  · exact .inr q
mutual
theorem rep_dropN (e : ∀ a ∈ fp, (∃ vs, F a = some (.lst vs)) ∨ ∃ z, F a = some (.dK z)) (h : ∀ b, b ∉ fp → F' b = F b) : ∀ (d : D) (v : V), noL d = true → Rep K F d v → Rep K F' d v
  | .non, v, _, r => by simpa [Rep] using r
  | .bl b, v, _, r => by simpa [Rep] using r
  | .int i, v, _, r => by simpa [Rep] using r
  | .str x, v, _, r => by simpa [Rep] using r
  | .tup xs, v, n, r => by
    simp only [Rep] at r ⊢
    obtain ⟨p, us, h1, h2, h3⟩ := r
    exact ⟨p, us, h1, seqT_dropN e h h2, repL_dropN e h xs us n h3⟩
theorem repL_dropN (e : ∀ a ∈ fp, (∃ vs, F a = some (.lst vs)) ∨ ∃ z, F a = some (.dK z)) (h : ∀ b, b ∉ fp → F' b = F b) : ∀ (ds : List D) (us : List V), noLs ds = true → RepL K F ds us → RepL K F' ds us
  | [], us, _, r => by simpa [RepL] using r
  | d :: ds, us, n, r => by
    simp only [RepL] at r ⊢
    obtain ⟨v, rr, h1, h2, h3⟩ := r
    have n : (noL d && noLs ds) = true := n
    rw [Bool.and_eq_true] at n
    exact ⟨v, rr, h1, rep_dropN e h d v n.1 h2, repL_dropN e h ds rr n.2 h3⟩
end
end
/-! #### x[k].append(e), x one's own -/
section
variable {X : Cx} {W : WX} {e : Expr} {f : REnv → R D} {pos np cp sp ap xp : Pos} {x : Str} {j : Nat}
end
section
variable {ρ : REnv} {N : REnv → Prop} {T : D → Prop} {E : D → REnv → Prop} {f : REnv → R D} {P E' : D → Prop}
end
end Dy

set_option Elab.async false
set_option linter.all false
set_option maxRecDepth 100000
/-! ### all(truths); a def that calls itself, by so many turns -/
namespace Dy
open PySem PySem.Spec PyProof.Rows L2
theorem sss_bad {X : Cx} {W : WX} {ss : List Stmt} : SSs X W ss sBad := ⟨fun pins s σ H D I q => by
  obtain ⟨G, F, ρ, r, p⟩ := q
  exact p.elim⟩
section
variable {P : Program} {w : World} {K : PySem.W.Frag} {mg : Str → Option Value} {base : Heap} {x : Str} {params : Arguments} {body : List Stmt} {scope : Scope} {f : Addr} {fd : FuncData} {ps : List Str} {k : Nat}
theorem cal_of {n : Nat} {fn : List D → R D} (Fn : FunD K x x params body scope [] [] f fd) (hm : mg x = some (.ref f))
    (hb : ∀ (kV doc pm : Value) (an : Option Addr) (cdv ct : Value) (us : List Value), us.length = ps.length → bindArgs (PySem.W.fnOf x x params body scope .none kV doc pm an cdv ct) ⟨us, []⟩ = pure (ps.zip us))
    (ok : FnOk P w K mg base (L2.CX P w) k f fd ps (spD K n fn)) (hl : ∀ ds, ds.length ≠ n → fn ds = .bad) : Cal P w K mg base x k n fn :=
  ⟨⟨f, fd, ps, ok, hm, Fn.kp, Fn.bindsN hb⟩, hl⟩
end
end Dy

set_option Elab.async false
set_option linter.all false
set_option maxRecDepth 100000
/-! ### x[k] = e, x one's own list -/
namespace Dy
open PySem PySem.Spec PyProof.Rows L2

section
variable {X : Cx} {W : WX} {e b : Expr} {f g : REnv → R D} {pos sp np : Pos} {x : Str}
end
section
variable {ρ : REnv} {N : REnv → Prop} {T : D → Prop} {E : D → REnv → Prop} {f g : REnv → R D} {i : Nat} {ds : List D}
end
end Dy

set_option Elab.async false
set_option linter.all false
set_option maxRecDepth 100000
/-! ### more new lists; a list of lists as one's own; x[k][j] = e there -/
namespace Dy
open PySem PySem.Spec PyProof.Rows L2
section
variable {X : Cx} {W : WX} {a b e : Expr} {es : List Expr} {f g : REnv → R D} {t : REnv → R (List D)} {pos pos' lp p np cp sp sq : Pos} {x y : Str} {k n : Nat} {fn : List D → R D}
end
section
variable {ρ : REnv} {N : REnv → Prop} {T : D → Prop} {E : D → REnv → Prop} {f g : REnv → R D} {t : REnv → R (List D)} {Q : List D → Prop} {E' : D → Prop}
end
end Dy

set_option Elab.async false
set_option linter.all false
set_option maxRecDepth 100000
/-! ### x.extend(a tuple), x one's own list -/
namespace Dy
open PySem PySem.Spec PyProof.Rows L2
section
variable {X : Cx}
end
section
variable {X : Cx} {W : WX} {e : Expr} {f : REnv → R D} {pos : Pos}
end
section
variable {ρ : REnv} {N : REnv → Prop} {T : D → Prop} {E : D → REnv → Prop} {f : REnv → R D}
end
/-! ### x[k].append(e), x a list of lists of one's own -/
section
variable {X : Cx} {W : WX} {e b : Expr} {f g : REnv → R D} {pos np sp ap xp : Pos} {x : Str}
end
section
variable {ρ : REnv} {N : REnv → Prop} {T : D → Prop} {E : D → REnv → Prop} {f g : REnv → R D}
end
end Dy

set_option Elab.async false
set_option linter.all false
set_option maxRecDepth 100000
/-! ### a def that changes, in its place, a thing that is its caller's own -/
namespace Dy
open PySem PySem.Spec PyProof.Rows L2
open Classical (choose choose_spec)
mutual
def encO : O → D
  | .v d => .tup [d]
  | .l os => .lst (encOs os)
  | .t os => .dct [] (encOs os)
  | .m ks os => .dct (.inl 0 :: ks) (encOs os)
def encOs : List O → List D
  | [] => []
  | o :: os => encO o :: encOs os
end
mutual
def decO : D → O
  | .tup [d] => .v d
  | .lst xs => .l (decOs xs)
  | .dct (_ :: ks) xs => .m ks (decOs xs)
  | .dct [] xs => .t (decOs xs)
  | _ => .v .non
def decOs : List D → List O
  | [] => []
  | d :: ds => decO d :: decOs ds
end
mutual
theorem decO_enc : ∀ o : O, decO (encO o) = o
  | .v d => by simp only [encO, decO]
  | .l os => by simp only [encO, decO, decOs_enc os]
  | .t os => by simp only [encO, decO, decOs_enc os]
  | .m ks os => by simp only [encO, decO, decOs_enc os]
theorem decOs_enc : ∀ os : List O, decOs (encOs os) = os
  | [] => by simp only [encOs, decOs]
  | o :: os => by simp only [encOs, decOs, decO_enc o, decOs_enc os]
end
/-- what is told, with the thing's new state -/
def withO (o : O) (d : D) : D := .tup [encO o, d]
open Classical in
noncomputable def less (H : Hp) (fp : List Addr) : Hp := fun a => if a ∈ fp then none else H a
theorem less_in {H : Hp} {fp : List Addr} {a : Addr} (h : a ∈ fp) : less H fp a = none := by
  unfold less
  rw [if_pos h]
theorem less_out {H : Hp} {fp : List Addr} {a : Addr} (h : a ∉ fp) : less H fp a = H a := by
  unfold less
  rw [if_neg h]
theorem less_same (H : Hp) (fp : List Addr) : Same (less H fp) H := fun a o e => by
  by_cases q : a ∈ fp
  · rw [less_in q] at e; cases e
  · rw [less_out q] at e; exact e
theorem less_of {G H : Hp} {fp : List Addr} (s : Same G H) (h : ∀ a ∈ fp, G a = none) : Same G (less H fp) := fun a o e => by
  by_cases q : a ∈ fp
  · rw [h a q] at e; cases e
  · rw [less_out q]; exact s _ _ e
def ownAt (ρ : REnv) (i : Nat) : Option O := match ρ[i]? with
  | some (.own ds) => some (.l (ds.map .v))
  | some (.tree o) => some o
  | some (.pin _ o) => some o
  | _ => none
def backAt (ρ : REnv) (i : Nat) (o : O) : Option REnv := match ρ[i]? with
  | some (.own _) => o.unL.map fun ds => ρ.set i (.own ds)
  | some (.tree _) => some (ρ.set i (.tree o))
  | some (.pin w _) => some (ρ.set i (.pin w o))
  | _ => none
section
variable {K : PySem.W.Frag} {G F H F' H' : Hp} {σ : St} {ρ ρ' : REnv} {i : Nat} {o o' : O} {v : V} {fp fp' : List Addr}
theorem own_get (r : RepE K G F H σ ρ) (h : ownAt ρ i = some o) : ∃ v fp, σ[i]? = some (some v) ∧ OwR K F H o v fp ∧ fp.Nodup ∧ (∀ a ∈ fp, F a = none ∧ G a = none) ∧
    (∀ (j : Nat) (s : Sl) (x : Option V) (b : Addr), j ≠ i → ρ[j]? = some s → σ[j]? = some x → Owned K F H s x b → b ∉ fp) := by
  unfold ownAt at h
  split at h
  · rename_i ds z
    cases h
    obtain ⟨a, vs, e1, e2, e3⟩ := own_at r z
    obtain ⟨a', vs', f1, f2, f3, f4, f5⟩ := r.at_ i _ _ z e1
    cases f1
    refine ⟨.ref a, [a], e1, OwR.ofL e2 e3, by simp, fun b hb => ?_, fun j s x b hj h1 h2 ob hb => ?_⟩
    · rw [List.mem_singleton.mp hb]; exact ⟨f4, f5⟩
    · rw [List.mem_singleton.mp hb] at ob
      exact r.ap j i s _ x _ a hj h1 z h2 e1 ob rfl
  · rename_i o1 z
    cases h
    obtain ⟨v, fp, e1, e2, e3, e4⟩ := tree_at r z
    exact ⟨v, fp, e1, e2, e3, e4, fun j s x b hj h1 h2 ob hb => r.ap j i s _ x _ b hj h1 z h2 e1 ob ⟨v, fp, rfl, e2, hb⟩⟩
  · rename_i w o1 z
    cases h
    have hl : i < σ.length := by
      rw [← r.len]
      exact (List.getElem?_eq_some_iff.mp z).1
    obtain ⟨e0, v, fp, e1, e2, e3, e4⟩ := r.at_ i _ _ z (List.getElem?_eq_getElem hl)
    have hs : σ[i]? = some (some v) := by rw [List.getElem?_eq_getElem hl, e1]
    exact ⟨v, fp, hs, e2, e3, e4, fun j s x b hj h1 h2 ob hb => r.ap j i s _ x _ b hj h1 z h2 hs ob ⟨v, fp, rfl, e2, hb⟩⟩
  · cases h
/-- the heap behind such a def: what is not the thing's own stays -/
structure Back (F H : Hp) (fp : List Addr) (F' H' : Hp) : Prop where
  f : Same F F'
  h : Same (less H fp) H'
  s : Same F' H'
  n : ∀ a u, F' a = some u → F a = none → less H fp a = none
theorem Back.newG (b : Back F H fp F' H') (g : Same G H) (k : ∀ a ∈ fp, G a = none) : NewG G F F' := fun a u h1 h2 => (less_of g k).free (b.n a u h1 h2)
theorem Back.refl (s : Same F H) (k : ∀ a ∈ fp, F a = none) : Back F H fp F H := ⟨.refl _, less_same _ _, s, fun a u h1 h2 => by rw [h2] at h1; cases h1⟩
theorem RepE.back (r : RepE K G F H σ ρ) (h : ownAt ρ i = some o) (hs : σ[i]? = some (some v)) (hv : OwR K F H o v fp) (b : Back F H fp F' H') (hv' : OwR K F' H' o' v fp') (nd : fp'.Nodup) (fr : ∀ a ∈ fp', F' a = none ∧ less H fp a = none)
    (hb : backAt ρ i o' = some ρ') : RepE K G F' H' σ ρ' ∧ NewG G F F' := by
  obtain ⟨v1, fp1, g1, g2, g3, g4, g5⟩ := own_get r h
  rw [hs] at g1
  cases g1
  rw [OwR.uniq o v fp1 fp g2 hv] at g3 g4 g5
  have gk : ∀ a ∈ fp, G a = none := fun a ha => (g4 a ha).2
  have gl := less_of r.g gk
  have ng := b.newG r.g gk
  refine ⟨?_, ng⟩
  have es : σ.set i (some v) = σ := set_same hs
  have keep : ∀ (j : Nat) (s : Sl) (x : Option V) (c : Addr), j ≠ i → ρ[j]? = some s → σ[j]? = some x → Owned K F H s x c → H' c = H c ∧ F' c = none := fun j s x c hj h1 h2 oc => by
    obtain ⟨⟨u, hu⟩, hf, _⟩ := (r.at_ j s x h1 h2).own oc
    have hc := g5 j s x c hj h1 h2 oc
    have hl : less H fp c = some u := by rw [less_out hc]; exact hu
    refine ⟨by rw [hu]; exact b.h _ _ hl, ?_⟩
    cases q : F' c with
    | none => rfl
    | some w =>
      have := b.n c w q hf
      rw [hl] at this
      cases this
  have dis : ∀ c ∈ fp', ∀ (j : Nat) (s : Sl) (x : Option V), j ≠ i → ρ[j]? = some s → σ[j]? = some x → Owned K F H s x c → False := fun c hc j s x hj h1 h2 oc => by
    obtain ⟨⟨u, hu⟩, _, _⟩ := (r.at_ j s x h1 h2).own oc
    have hl : less H fp c = some u := by rw [less_out (g5 j s x c hj h1 h2 oc)]; exact hu
    rw [(fr c hc).2] at hl
    cases hl
  have fg : ∀ a ∈ fp', F' a = none ∧ G a = none := fun a ha => ⟨(fr a ha).1, gl.free (fr a ha).2⟩
  unfold ownAt at h
  unfold backAt at hb
  split at h
  · rename_i ds z
    rw [z] at hb
    obtain ⟨es', e1, rfl⟩ := Option.map_eq_some_iff.mp hb
    have e1 := of_unL e1
    subst e1
    obtain ⟨a, ws, rfl, k1, k2, rfl⟩ := hv'.inL
    have q := r.put (F' := F') (H' := H') (i := i) (s' := .own es') (x' := some (.ref a)) (gl.trans b.h) b.s b.f keep ⟨a, ws, rfl, k1, k2, (fg a List.mem_cons_self).1, (fg a List.mem_cons_self).2⟩ fun c oc => by
      have oc : some (V.ref a) = some (.ref c) := oc
      cases oc
      exact dis a List.mem_cons_self
    rw [es] at q
    exact q
  · rename_i o1 z
    rw [z] at hb
    cases hb
    have q := r.put (F' := F') (H' := H') (i := i) (s' := .tree o') (x' := some v) (gl.trans b.h) b.s b.f keep ⟨v, fp', rfl, hv', nd, fg⟩ fun c oc => by
      obtain ⟨v2, fp2, q1, q2, q3⟩ := oc
      cases q1
      rw [OwR.uniq o' v fp2 fp' q2 hv'] at q3
      exact dis c q3
    rw [es] at q
    exact q
  · rename_i w o1 z
    rw [z] at hb
    cases hb
    obtain ⟨e0, _⟩ := r.at_ i _ _ z hs
    cases e0
    have q := r.put (F' := F') (H' := H') (i := i) (s' := .pin v o') (x' := some v) (gl.trans b.h) b.s b.f keep ⟨rfl, v, fp', rfl, hv', nd, fg⟩ fun c oc => by
      obtain ⟨v2, fp2, q1, q2, q3⟩ := oc
      cases q1
      rw [OwR.uniq o' v fp2 fp' q2 hv'] at q3
      exact dis c q3
    rw [es] at q
    exact q
  · cases h
end
/-! #### the promise of such a def -/
def PostM (K : PySem.W.Frag) (E : XK) (v : V) (F H : Hp) (fp : List Addr) (x : R (O × D)) (Q : V → Hp → Prop) : Prop := match x with
  | .ok p => ∀ u F' H' fp', Back F H fp F' H' → OwR K F' H' p.1 v fp' → fp'.Nodup → (∀ a ∈ fp', F' a = none ∧ less H fp a = none) → Rep K F' p.2 u → Q u H'
  | .err z => ∃ o' e, z = withO o' e ∧ ∀ cls dd F' H' fp', Back F H fp F' H' → OwR K F' H' o' v fp' → fp'.Nodup → (∀ a ∈ fp', F' a = none ∧ less H fp a = none) → XD K F' e cls dd → E cls dd H'
  | .bad => False
/-- n parameters, the j-th one is the caller's own thing -/
def spM (K : PySem.W.Frag) (j n : Nat) (fn : V → O → List D → R (O × D)) : Sp := fun vs H Q E => vs.length = n ∧ ∃ F o ds us v fp, vs = us.insertIdx j v ∧ j ≤ us.length ∧ Same F H ∧ RepL K F ds us ∧ OwR K F H o v fp ∧ fp.Nodup ∧ (∀ a ∈ fp, F a = none) ∧
  PostM K (fun cls dd H' => E cls dd H') v F H fp (fn v o ds) Q
def PostSM (K : PySem.W.Frag) (W : WX) (v : V) (D : Ends) (G F : Hp) (x : SR) : Prop := match x with
  | .next ρ => ∀ σ' F' H', Same F F' → NewG G F F' → RepE K G F' H' σ' ρ → D.nx σ' H'
  | .ret z => ∃ o' d, z = withO o' d ∧ ∀ u F' H' fp', Same F F' → NewG G F F' → Same G H' → Same F' H' → OwR K F' H' o' v fp' → fp'.Nodup → (∀ a ∈ fp', F' a = none ∧ G a = none) → Rep K F' d u → D.rt u H'
  | .err e ρ => ∀ σ' F' H' cls dd, Same F F' → NewG G F F' → RepE K G F' H' σ' ρ → XD K F' e cls dd → W cls dd σ' H'
  | .bad => False
section
variable {α β : Type} {K : PySem.W.Frag} {W : WX} {w : V} {D D' : Ends} {G F F' H : Hp} {σ : St} {ρ : REnv}
theorem PostSM.ext {x : SR} (s : Same F F') (n : NewG G F F') (h : PostSM K W w D G F x) : PostSM K W w D G F' x := by
  cases x with
  | next ρ => exact fun σ' F2 H' s2 n2 r => h σ' F2 H' (s.trans s2) (n.trans n2) r
  | ret d =>
    obtain ⟨o', d', e, h⟩ := h
    exact ⟨o', d', e, fun u F2 H' fp' s2 n2 => h u F2 H' fp' (s.trans s2) (n.trans n2)⟩
  | err e ρ => exact fun σ' F2 H' cls dd s2 n2 r x => h σ' F2 H' cls dd (s.trans s2) (n.trans n2) r x
  | bad => exact h
theorem PostSM.toS {rel : Hp → α → β → Prop} {x : R α} {k : α → SR} {Q : β → Hp → Prop} (r : RepE K G F H σ ρ) (h : PostSM K W w D G F (x.toS ρ k))
    (f : ∀ a v F' H', x = .ok a → Ext F H F' H' → rel F' a v → RepE K G F' H' σ ρ → PostSM K W w D G F' (k a) → Q v H') : Post K W rel σ F H x Q := by
  cases x with
  | ok a => exact fun v F' H' e p => f a v F' H' rfl e p (r.ext e) (PostSM.ext e.f (e.newG r.g) h)
  | err e => exact fun cls dd F' H' ex p => h σ F' H' cls dd ex.f (ex.newG r.g) (r.ext ex) p
  | bad => exact h
theorem PostSM.seq {x : SR} {g : REnv → SR} {nx : St → Hp → Prop} (h : PostSM K W w D G F (x.seq g))
    (f : ∀ ρ σ' F' H', x = .next ρ → Same F F' → NewG G F F' → RepE K G F' H' σ' ρ → PostSM K W w D G F' (g ρ) → nx σ' H') : PostSM K W w { D with nx := nx } G F x := by
  cases x with
  | next ρ => exact fun σ' F' H' s n r => f ρ σ' F' H' rfl s n r (PostSM.ext s n h)
  | ret d => exact h
  | err e ρ => exact h
  | bad => exact h
theorem PostSM.ends {x : SR} {bk ct : St → Hp → Prop} (h : PostSM K W w D G F x) : PostSM K W w { D with bk := bk, ct := ct } G F x := by
  cases x with
  | next ρ => exact h
  | ret d => exact h
  | err e ρ => exact h
  | bad => exact h
end
section
variable {X : Cx} {W : WX} {w : V} {st : Stmt} {rest : List Stmt} {g h : REnv → SR} {e : Expr} {f : REnv → R D} {pos : Pos}
end
/-! #### defs -/
section
variable {P : Program} {w : World} {K : PySem.W.Frag} {mg : Str → Option Value} {base : Heap} {x qual : Str} {params : Arguments} {body : List Stmt} {scope : Scope} {f : Addr} {fd : FuncData} {N ps : List Str} {k : Nat}
structure CalM (P : Program) (w : World) (K : PySem.W.Frag) (mg : Str → Option Value) (base : Heap) (x : Str) (k j n : Nat) (fn : V → O → List D → R (O × D)) : Prop where
  ex : ∃ (f : Addr) (fd : FuncData) (ps : List Str), FnOk P w K mg base (L2.CX P w) k f fd ps (spM K j n fn) ∧ mg x = some (.ref f) ∧ PySem.W.keepIn K (.ref f) = true ∧ Binds K fd ps []
  len : ∀ w o ds, ds.length + 1 ≠ n → fn w o ds = .bad
end
/-! #### calls of such a def -/
open Classical in
section
variable {X : Cx} {W : WX} {e : Expr} {es : List Expr} {f : REnv → R D} {t : REnv → R (List D)} {pos : Pos} {x : Str}
end
open Classical in
section
variable {X : Cx} {W : WX} {e : Expr} {es : List Expr} {x y : Str} {p pos pos' cp : Pos} {k j n i : Nat} {t : REnv → R (List D)} {fn : V → O → List D → R (O × D)}
end
/-! ### weakest conditions -/
section
variable {ρ : REnv} {N : REnv → Prop} {T : D → Prop} {E : D → REnv → Prop} {f : REnv → R D} {P E' : D → Prop} {t : REnv → R (List D)} {i : Nat} {dst : Option Nat} {fn : V → O → List D → R (O × D)}
end
end Dy

set_option Elab.async false
set_option linter.all false
set_option maxRecDepth 100000
/-! ### try .. except C, without a name; a def under another name -/
namespace Dy
open PySem PySem.Spec PyProof.Rows L2
section
variable {X : Cx} {W : WX} {y : Str} {body suite : List Stmt} {b₀ : Stmt} {np pos pos' : Pos} {g h : REnv → SR} {ks cs : List Str}
end
section
variable {ρ : REnv} {N : REnv → Prop} {T : D → Prop} {E : D → REnv → Prop} {g h : REnv → SR} {ks cs : List Str} {y : Str}
end
section
variable {P : Program} {w : World} {K : PySem.W.Frag} {mg : Str → Option Value} {base : Heap} {x q : Str} {params : Arguments} {body : List Stmt} {scope : Scope} {f : Addr} {fd : FuncData} {ps : List Str} {k : Nat}
end
/-! ### a sign in a text -/
end Dy

set_option Elab.async false
set_option linter.all false
set_option maxRecDepth 100000
/-! ### a def that hands back its own parameter; trees within an own list -/
namespace Dy
open PySem PySem.Spec PyProof.Rows L2
def PostJ (K : PySem.W.Frag) (E : XK) (v : V) (F H : Hp) (x : R D) (Q : V → Hp → Prop) : Prop := match x with
  | .ok _ => ∀ F' H', Ext F H F' H' → Q v H'
  | .err e => ∀ cls dd F' H', Ext F H F' H' → XD K F' e cls dd → E cls dd H'
  | .bad => False
/-- one parameter, which is what is told -/
def spJ (K : PySem.W.Frag) (fn : V → D → R D) : Sp := fun vs H Q E => vs.length = 1 ∧ ∃ F d v, vs = [v] ∧ Same F H ∧ Rep K F d v ∧ PostJ K (fun cls dd H' => E cls dd H') v F H (fn v d) Q
def PostSJ (K : PySem.W.Frag) (W : WX) (v : V) (D : Ends) (G F : Hp) (x : SR) : Prop := match x with
  | .next ρ => ∀ σ' F' H', Same F F' → NewG G F F' → RepE K G F' H' σ' ρ → D.nx σ' H'
  | .ret _ => ∀ F' H', Same F F' → NewG G F F' → Same G H' → Same F' H' → D.rt v H'
  | .err e ρ => ∀ σ' F' H' cls dd, Same F F' → NewG G F F' → RepE K G F' H' σ' ρ → XD K F' e cls dd → W cls dd σ' H'
  | .bad => False
section
variable {α β : Type} {K : PySem.W.Frag} {W : WX} {w : V} {D D' : Ends} {G F F' H : Hp} {σ : St} {ρ : REnv}
theorem PostSJ.ext {x : SR} (s : Same F F') (n : NewG G F F') (h : PostSJ K W w D G F x) : PostSJ K W w D G F' x := by
  cases x with
  | next ρ => exact fun σ' F2 H' s2 n2 r => h σ' F2 H' (s.trans s2) (n.trans n2) r
  | ret d => exact fun F2 H' s2 n2 => h F2 H' (s.trans s2) (n.trans n2)
  | err e ρ => exact fun σ' F2 H' cls dd s2 n2 r x => h σ' F2 H' cls dd (s.trans s2) (n.trans n2) r x
  | bad => exact h
theorem PostSJ.seq {x : SR} {g : REnv → SR} {nx : St → Hp → Prop} (h : PostSJ K W w D G F (x.seq g))
    (f : ∀ ρ σ' F' H', x = .next ρ → Same F F' → NewG G F F' → RepE K G F' H' σ' ρ → PostSJ K W w D G F' (g ρ) → nx σ' H') : PostSJ K W w { D with nx := nx } G F x := by
  cases x with
  | next ρ => exact fun σ' F' H' s n r => f ρ σ' F' H' rfl s n r (PostSJ.ext s n h)
  | ret d => exact h
  | err e ρ => exact h
  | bad => exact h
end
open Classical in
section
variable {X : Cx} {W : WX} {w : V} {st : Stmt} {rest : List Stmt} {g h : REnv → SR} {e : Expr} {f : REnv → R D} {pos : Pos}
end
section
variable {P : Program} {w : World} {K : PySem.W.Frag} {mg : Str → Option Value} {base : Heap} {x qual : Str} {params : Arguments} {body : List Stmt} {scope : Scope} {f : Addr} {fd : FuncData} {N ps : List Str} {k : Nat}
structure CalJ (P : Program) (w : World) (K : PySem.W.Frag) (mg : Str → Option Value) (base : Heap) (x : Str) (k n : Nat) (fn : V → D → R D) : Prop where
  ex : ∃ (f : Addr) (fd : FuncData) (ps : List Str), FnOk P w K mg base (L2.CX P w) k f fd ps (spJ K fn) ∧ mg x = some (.ref f) ∧ PySem.W.keepIn K (.ref f) = true ∧ Binds K fd ps []
end
/-! #### return f((.., ..)), f telling its parameter -/
open Classical in
section
variable {X : Cx} {W : WX} {sh : Sh} {x : Str} {p pos cp tp : Pos} {k n kk : Nat} {es : List Expr} {I : List Nat} {t : REnv → R (List O)} {fn : V → D → R D}
end
/-! #### return x, x a tree; calls that make trees; x.append(tree) -/
open Classical in
def tC (x : REnv → R O) (t : REnv → R (List O)) : REnv → R (List O) := fun ρ => (x ρ).bind fun o => (t ρ).bind fun os => .ok (o :: os)
theorem OwRs.append {K : PySem.W.Frag} {F H : Hp} : ∀ {os ps : List O} {vs ws : List V} {f1 f2 : List Addr}, OwRs K F H os vs f1 → OwRs K F H ps ws f2 → OwRs K F H (os ++ ps) (vs ++ ws) (f1 ++ f2)
  | [], ps, vs, ws, f1, f2, h, t => by
    simp only [OwRs] at h
    rw [h.1, h.2]
    exact t
  | o :: os, ps, vs, ws, f1, f2, h, t => by
    simp only [OwRs] at h
    obtain ⟨v, r, g1, g2, rfl, rfl, h3, h4⟩ := h
    simp only [List.cons_append, OwRs]
    exact ⟨v, r ++ ws, g1, g2 ++ f2, rfl, by rw [List.append_assoc], h3, OwRs.append h4 t⟩
theorem OwRs.one {K : PySem.W.Frag} {F H : Hp} {o : O} {v : V} {fp : List Addr} (h : OwR K F H o v fp) : OwRs K F H [o] [v] fp := by
  simp only [OwRs]
  exact ⟨v, [], fp, [], rfl, by simp, h, rfl, rfl⟩
section
variable {X : Cx} {W : WX} {sh : Sh} {e : Expr} {es : List Expr} {x y : Str} {p pos np ap xp : Pos} {k n : Nat} {I : List Nat} {t : REnv → R (List O)} {u : REnv → R (List D)} {fn : List D → R O}
end
end Dy

set_option Elab.async false
set_option linter.all false
set_option maxRecDepth 100000
/-! ### one's own list handed to a def that tells another list; copied; cleared -/
namespace Dy
open PySem PySem.Spec PyProof.Rows L2
/-! ### lists that stand at the module's top -/
section
variable {K : PySem.W.Frag}
mutual
/-- the value holds these data, all of the module -/
def repB (K : PySem.W.Frag) : D → Value → Bool
  | .non, .none => true
  | .bl b, .bool c => b == c
  | .int i, .int j _ => decide (i = j)
  | .str x, .str y _ => decide (x = y)
  | .tup xs, .ref a => match K.lookup a with
    | some ⟨.type c, _, .seq its _, _⟩ => decide (c = "tuple") && (decide (its.size ≤ sizeLine) && repBs K xs its.toList)
    | _ => false
  | .lst xs, .ref a => match K.lookup a with
    | some ⟨.type c, none, .seq its _, _⟩ => decide (c = "list") && (decide (its.size ≤ sizeLine) && repBs K xs its.toList)
    | _ => false
  | _, _ => false
def repBs (K : PySem.W.Frag) : List D → List Value → Bool
  | [], us => us.isEmpty
  | d :: ds, u :: us => repB K d u && repBs K ds us
  | _ :: _, [] => false
end
mutual
theorem repB_ok : ∀ (d : D) (u : Value), repB K d u = true → ∃ v : V, RelV v u ∧ ∀ F, Rep K F d v
  | .non, u, h => by
    cases u <;> first | (simp [repB] at h; done) | skip
    exact ⟨.non, rfl, fun F => by simp [Rep]⟩
  | .bl b, u, h => by
    cases u <;> first | (simp [repB] at h; done) | skip
    rename_i c
    simp only [repB, beq_iff_eq] at h
    subst h
    exact ⟨.bl b, rfl, fun F => by simp [Rep]⟩
  | .int i, u, h => by
    cases u <;> first | (simp [repB] at h; done) | skip
    rename_i j t
    simp only [repB, decide_eq_true_eq] at h
    subst h
    exact ⟨.int i, ⟨t, rfl⟩, fun F => by simp [Rep]⟩
  | .str x, u, h => by
    cases u <;> first | (simp [repB] at h; done) | skip
    rename_i y t
    simp only [repB, decide_eq_true_eq] at h
    subst h
    exact ⟨.str x, ⟨t, rfl⟩, fun F => by simp [Rep]⟩
  | .tup xs, u, h => by
    cases u <;> first | (simp [repB] at h; done) | skip
    rename_i a
    simp only [repB] at h
    split at h
    · rename_i c od its n osl q
      rw [Bool.and_eq_true, Bool.and_eq_true, decide_eq_true_eq, decide_eq_true_eq] at h
      obtain ⟨h1, h2, h3⟩ := h
      obtain ⟨vs, hv, hr⟩ := repBs_ok xs _ h3
      exact ⟨.ref a, rfl, fun F => Rep.mk_tup (.inr ⟨_, its, n, q, congrArg Value.type h1, rfl, h2, hv⟩) (hr F)⟩
    · cases h
  | .lst xs, u, h => by
    cases u <;> first | (simp [repB] at h; done) | skip
    rename_i a
    simp only [repB] at h
    split at h
    · rename_i c its n osl q
      rw [Bool.and_eq_true, Bool.and_eq_true, decide_eq_true_eq, decide_eq_true_eq] at h
      obtain ⟨h1, h2, h3⟩ := h
      obtain ⟨vs, hv, hr⟩ := repBs_ok xs _ h3
      exact ⟨.ref a, rfl, fun F => Rep.mk_lst (.inr ⟨_, its, n, q, congrArg Value.type h1, rfl, rfl, h2, hv⟩) (hr F)⟩
    · cases h
  | .ty _, u, h => by cases u <;> simp [repB] at h
  | .cls _, u, h => by cases u <;> simp [repB] at h
  | .dct _ _, u, h => by cases u <;> simp [repB] at h
  | .exc _ _ _, u, h => by cases u <;> simp [repB] at h
theorem repBs_ok : ∀ (ds : List D) (us : List Value), repBs K ds us = true → ∃ vs : List V, Vals vs us ∧ ∀ F, RepL K F ds vs
  | [], us, h => by
    cases us with
    | nil => exact ⟨[], .nil, fun F => RepL.nil⟩
    | cons _ _ => simp [repBs] at h
  | d :: ds, us, h => by
    cases us with
    | nil => simp [repBs] at h
    | cons u us =>
      simp only [repBs, Bool.and_eq_true] at h
      obtain ⟨v, h1, h2⟩ := repB_ok d u h.1
      obtain ⟨vs, h3, h4⟩ := repBs_ok ds us h.2
      exact ⟨v :: vs, .cons h1 h3, fun F => RepL.cons (h2 F) (h4 F)⟩
end
theorem topB_ok {x : Str} {d : D} (h : repB K d (.ref (He.ga K x)) = true) (F : Hp) : Rep K F d (.ref (He.ga K x)) := by
  obtain ⟨v, h1, h2⟩ := repB_ok d _ h
  have e : v = .ref (He.ga K x) := by
    have := h1.abs
    have h3 : absV (Value.ref (He.ga K x)) = some (.ref (He.ga K x)) := rfl
    rw [h3] at this
    exact (Option.some.inj this).symm
  rw [← e]
  exact h2 F
end
end Dy

set_option Elab.async false
set_option linter.all false
set_option maxRecDepth 100000
set_option maxHeartbeats 2000000
/-! ### max, min of a tuple of whole numbers -/
namespace Dy
open PySem PySem.Spec PyProof.Rows L2
section
variable {prog : Program} {w : World} {A : Around} {E : Value → Shared → Prop} {s : Shared} {l : Addr} {xs : Array (Int × Tok)} {Q : Value → Shared → Prop}
theorem iter_intTup (hl : s.heap.IsTuple l (intItems xs))
    (h : ∀ s₂ : Shared, s₂ = { s with heap := s.heap.push { cls := .type "tuple_iterator", data := .fields #[.ref l, .int 0 0] } } →
      (s₂.heap.IsTupleIter s.heap.objs.size l 0 ∧ s₂.heap.IsTuple l (intItems xs)) → (∀ b ∈ [s.heap.objs.size, l], b < s₂.heap.objs.size) → l ≠ s.heap.objs.size → Q (.ref s.heap.objs.size) s₂) :
    wpAny (model prog w) A (pyIter (.ref l)) Q E s := by
  have hlt : l < s.heap.objs.size := by obtain ⟨_, e, _⟩ := hl; exact Heap.lt_size e
  refine wpAny_pyIter_tuple hl (h _ rfl ⟨⟨_, Heap.get?_push_size _ rfl, rfl, rfl⟩, hl.push _⟩ (fun b hb => ?_) (Nat.ne_of_lt hlt))
  show b < (s.heap.push _).objs.size
  rw [Heap.size_push]
  rcases List.mem_cons.mp hb with rfl | hb
  · exact Nat.lt_succ_self _
  · rcases List.mem_cons.mp hb with rfl | hb
    · exact Nat.lt_succ_of_lt hlt
    · cases hb
theorem old_keptT {h' : Heap} (hk : ∀ b o, b ∉ [s.heap.objs.size] → (s.heap.push { cls := .type "tuple_iterator", data := .fields #[.ref l, .int 0 0] }).get? b = some o → h'.get? b = some o) :
    ∀ b o, s.heap.get? b = some o → h'.get? b = some o := fun b o e => by
  refine hk b o (fun hm => ?_) (Heap.get?_push_of_some _ e)
  rcases List.mem_cons.mp hm with e1 | hm
  · exact absurd (e1 ▸ Heap.lt_size e) (Nat.lt_irrefl _)
  · cases hm
theorem max_intTup (hh : A.handled = none) (hl : s.heap.IsTuple l (intItems xs)) (hne : 0 < xs.size)
    (h : ∀ v h' tk, (intItems xs)[argBest (fun i j => decide (numAt xs i > numAt xs j)) (xs.size - 1)]? = some v → (∀ b o, s.heap.get? b = some o → h'.get? b = some o) → Q v { s with heap := h', toks := tk }) :
    wpAny (model prog w) A (call (.builtin "max") [.ref l]) Q E s := by
  refine call_max_walk (iter_intTup hl fun s₂ e st hfp hlI => ?_)
  subst e
  refine ⟨_, _, _, _, _, _, _, rfl, Walks.tuple (A := A.in1) hh _ l hlI (intItems xs), st, hfp, by simpa [intItems] using hne, CmpOf.ints_gt (numAt xs) (fun _ _ => intItems_at), fun v h' tk hP hk => ?_⟩
  exact h v h' tk (by simpa [intItems] using hP) (old_keptT hk)
theorem min_intTup (hh : A.handled = none) (hl : s.heap.IsTuple l (intItems xs)) (hne : 0 < xs.size)
    (h : ∀ v h' tk, (intItems xs)[argBest (fun i j => decide (numAt xs i < numAt xs j)) (xs.size - 1)]? = some v → (∀ b o, s.heap.get? b = some o → h'.get? b = some o) → Q v { s with heap := h', toks := tk }) :
    wpAny (model prog w) A (call (.builtin "min") [.ref l]) Q E s := by
  refine call_min_walk (iter_intTup hl fun s₂ e st hfp hlI => ?_)
  subst e
  refine ⟨_, _, _, _, _, _, _, rfl, Walks.tuple (A := A.in1) hh _ l hlI (intItems xs), st, hfp, by simpa [intItems] using hne, CmpOf.ints_lt (numAt xs) (fun _ _ => intItems_at), fun v h' tk hP hk => ?_⟩
  exact h v h' tk (by simpa [intItems] using hP) (old_keptT hk)
end
section
variable {prog : Program} {w : World} {A : Around} {E : Value → Shared → Prop} {s : Shared} {l : Addr} {its : List Value} {ns : List Int} {Q : Value → Shared → Prop}
theorem max_rawT (hh : A.handled = none) (hl : s.heap.IsTuple l its.toArray) (hi : IntsAre its ns) (hne : 0 < ns.length)
    (h : ∀ h' tk M t', (∀ b o, s.heap.get? b = some o → h'.get? b = some o) → M ∈ ns → (∀ a, a ∈ ns → a ≤ M) → Q (.int M t') { s with heap := h', toks := tk }) : wpAny (model prog w) A (call (.builtin "max") [.ref l]) Q E s := by
  obtain ⟨xs, e⟩ := hi.allInts.items
  have hn : numsOf (intItems xs).toList = ns := by rw [← e]; exact hi.numsOf
  rw [nums_intItems] at hn
  subst hn
  rw [e] at hl
  have hsz : 0 < xs.size := by simpa using hne
  refine max_intTup hh hl hsz fun v h' tk hv hk => ?_
  obtain ⟨t, rfl⟩ := intItems_at hv
  obtain ⟨h1, h2⟩ := argBest_gt (numAt xs) (xs.size - 1)
  refine h h' tk _ t hk ?_ fun a ha => ?_
  · rw [numAt_eq]; exact PySem.getD_mem (by rw [List.length_map, Array.length_toList]; omega)
  · obtain ⟨j, hj, rfl⟩ := mem_getD ha
    rw [List.length_map, Array.length_toList] at hj
    rw [← numAt_eq]; exact h2 j (by omega)
theorem min_rawT (hh : A.handled = none) (hl : s.heap.IsTuple l its.toArray) (hi : IntsAre its ns) (hne : 0 < ns.length)
    (h : ∀ h' tk M t', (∀ b o, s.heap.get? b = some o → h'.get? b = some o) → M ∈ ns → (∀ a, a ∈ ns → M ≤ a) → Q (.int M t') { s with heap := h', toks := tk }) : wpAny (model prog w) A (call (.builtin "min") [.ref l]) Q E s := by
  obtain ⟨xs, e⟩ := hi.allInts.items
  have hn : numsOf (intItems xs).toList = ns := by rw [← e]; exact hi.numsOf
  rw [nums_intItems] at hn
  subst hn
  rw [e] at hl
  have hsz : 0 < xs.size := by simpa using hne
  refine min_intTup hh hl hsz fun v h' tk hv hk => ?_
  obtain ⟨t, rfl⟩ := intItems_at hv
  obtain ⟨h1, h2⟩ := argBest_lt (numAt xs) (xs.size - 1)
  refine h h' tk _ t hk ?_ fun a ha => ?_
  · rw [numAt_eq]; exact PySem.getD_mem (by rw [List.length_map, Array.length_toList]; omega)
  · obtain ⟨j, hj, rfl⟩ := mem_getD ha
    rw [List.length_map, Array.length_toList] at hj
    rw [← numAt_eq]; exact h2 j (by omega)
end
def rMaxTp (K : PySem.W.Frag) : List V → Hp → VK → Prop := fun vs H Q => ∃ (a : Addr) (ns : List Int), vs = [V.ref a] ∧ SqT K H a (ns.map V.int) ∧ 0 < ns.length ∧ ∀ m, m ∈ ns → (∀ y, y ∈ ns → y ≤ m) → Q (.int m) H
def rMinTp (K : PySem.W.Frag) : List V → Hp → VK → Prop := fun vs H Q => ∃ (a : Addr) (ns : List Int), vs = [V.ref a] ∧ SqT K H a (ns.map V.int) ∧ 0 < ns.length ∧ ∀ m, m ∈ ns → (∀ y, y ∈ ns → m ≤ y) → Q (.int m) H
theorem cr_maxTp {X : Cx} (hc : X.calm = true) : CallR X (.builtin "max") (rMaxTp X.K) := by
  intro pins s σ H vs us Q I r h
  obtain ⟨a, ns, rfl, hs, hne, q⟩ := h
  obtain ⟨its, rv, hl, _⟩ := I.tuple hs
  rw [Vals.ref1 r]
  exact max_rawT (I.ok.hd hc) hl rv.ints hne fun h' tk m t' hk h1 h2 => ⟨.int _, H, I.kept hk, ⟨_, rfl⟩, q m h1 h2⟩
theorem cr_minTp {X : Cx} (hc : X.calm = true) : CallR X (.builtin "min") (rMinTp X.K) := by
  intro pins s σ H vs us Q I r h
  obtain ⟨a, ns, rfl, hs, hne, q⟩ := h
  obtain ⟨its, rv, hl, _⟩ := I.tuple hs
  rw [Vals.ref1 r]
  exact min_rawT (I.ok.hd hc) hl rv.ints hne fun h' tk m t' hk h1 h2 => ⟨.int _, H, I.kept hk, ⟨_, rfl⟩, q m h1 h2⟩
def oBestT (f : Int → Int → Int) : List D → Option D
  | [.tup xs] => (intsD xs).bind fun ns => (topI f ns).map .int
  | _ => none
def oMaxU (ds : List D) : Option D := (oMax1 ds).or (oBestT max ds)
def oMinU (ds : List D) : Option D := (oMin1 ds).or (oBestT min ds)
theorem d_maxTp {X : Cx} (hc : X.calm = true) : CallR X (.builtin "max") (rMaxTp X.K) ∧ OpN X.K (rMaxTp X.K) (oBestT max) := ⟨cr_maxTp hc, fun F H xs as d Q s ra e q => by
  unfold oBestT at e
  split at e
  · rename_i ys
    cases en : intsD ys with
    | none => rw [en] at e; cases e
    | some ns =>
      rw [en, Option.bind_some] at e
      cases ns with
      | nil => cases e
      | cons i r =>
        cases e
        simp only [RepL] at ra
        obtain ⟨v, rr, rfl, h1, rfl⟩ := ra
        obtain ⟨a, vs, rfl, h2, h3⟩ := h1.tup_inv
        rw [intsD_rep en h3] at h2
        obtain ⟨m1, m2⟩ := fold_max r i
        refine ⟨a, i :: r, rfl, Same.seqT s h2, Nat.succ_pos _, fun m hm ha => ?_⟩
        have e : m = r.foldl max i := Int.le_antisymm (m2 m hm) (ha _ m1)
        subst e
        exact now q s Rep.mk_int
  · cases e⟩
theorem d_minTp {X : Cx} (hc : X.calm = true) : CallR X (.builtin "min") (rMinTp X.K) ∧ OpN X.K (rMinTp X.K) (oBestT min) := ⟨cr_minTp hc, fun F H xs as d Q s ra e q => by
  unfold oBestT at e
  split at e
  · rename_i ys
    cases en : intsD ys with
    | none => rw [en] at e; cases e
    | some ns =>
      rw [en, Option.bind_some] at e
      cases ns with
      | nil => cases e
      | cons i r =>
        cases e
        simp only [RepL] at ra
        obtain ⟨v, rr, rfl, h1, rfl⟩ := ra
        obtain ⟨a, vs, rfl, h2, h3⟩ := h1.tup_inv
        rw [intsD_rep en h3] at h2
        obtain ⟨m1, m2⟩ := fold_min r i
        refine ⟨a, i :: r, rfl, Same.seqT s h2, Nat.succ_pos _, fun m hm ha => ?_⟩
        have e : m = r.foldl min i := Int.le_antisymm (ha _ m1) (m2 m hm)
        subst e
        exact now q s Rep.mk_int
  · cases e⟩
theorem d_maxU {X : Cx} (hc : X.calm = true) : CallR X (.builtin "max") (fun xs H Q => rMax X.K xs H Q ∨ rMaxTp X.K xs H Q) ∧ OpN X.K (fun xs H Q => rMax X.K xs H Q ∨ rMaxTp X.K xs H Q) oMaxU := ⟨(cr_max hc).or (cr_maxTp hc), (d_maxL hc).2.or (d_maxTp hc).2⟩
theorem d_minU {X : Cx} (hc : X.calm = true) : CallR X (.builtin "min") (fun xs H Q => (rMinT X.K xs H Q ∨ rMin X.K xs H Q) ∨ rMinTp X.K xs H Q) ∧ OpN X.K (fun xs H Q => (rMinT X.K xs H Q ∨ rMin X.K xs H Q) ∨ rMinTp X.K xs H Q) oMinU := ⟨((call_minT hc).or (cr_min hc)).or (cr_minTp hc), ((d_minT hc).2.or (d_minL hc).2).or (d_minTp hc).2⟩
theorem w_maxUT {xs : List D} {ns : List Int} {m : Int} {P : D → Prop} (e : intsD xs = some ns) (e2 : topI max ns = some m) (h : P (.int m)) : Got (oMaxU [.tup xs]) P := ⟨_, by show (oBestT max [.tup xs]) = _; show (intsD xs).bind _ = _; rw [e, Option.bind_some, e2]; rfl, h⟩
theorem w_minUT {xs : List D} {ns : List Int} {m : Int} {P : D → Prop} (e : intsD xs = some ns) (e2 : topI min ns = some m) (h : P (.int m)) : Got (oMinU [.tup xs]) P := ⟨_, by show (oBestT min [.tup xs]) = _; show (intsD xs).bind _ = _; rw [e, Option.bind_some, e2]; rfl, h⟩
end Dy

set_option Elab.async false
set_option linter.all false
set_option maxRecDepth 100000
set_option maxHeartbeats 4000000
namespace Gn
open PySem PySem.Spec PyProof.Rows L2 Dy
/-! ### what the defs make of data -/
def xks : List Str := ["NoNumber", "NoHour", "TooMany", "NoName"]
def xcs : List Str := []
noncomputable def f_is_whole : List D → R D := fnD 1 1 (sRet (eAndV (eN oIsi (aCons (eVar 0) (aCons (eC (.ty "int")) (aNil)))) (eNotV (eN oIsi (aCons (eVar 0) (aCons (eC (.ty "bool")) (aNil)))))))
noncomputable def f_divisor_of : List D → R D := fnD 2 2 (sSeq (whileS (eTest (eBin oNe (eVar 1) (eC (.int 0)))) (sPar 0 1 (aCons (eVar 1) (aCons (eBin oMod (eVar 0) (eVar 1)) (aNil)))))
    (sRet (eN oAbs (aCons (eVar 0) (aNil)))))
noncomputable def f_ratio_of : List D → R D := fnD 2 3 (sSeq (sIf (eOr (eNot (eTest (eCall f_is_whole (aCons (eVar 0) (aNil))))) (eOr (eNot (eTest (eCall f_is_whole (aCons (eVar 1) (aNil))))) (eTest (eBin oEq (eVar 1) (eC (.int 0)))))) (sRaise "NoNumber") (sSkip))
    (sSeq (sSet 2 (eCall f_divisor_of (aCons (eVar 0) (aCons (eVar 1) (aNil)))))
    (sSeq (sIf (eTest (eBin oLt (eVar 1) (eC (.int 0)))) (sSet 2 (eUn oNeg (eVar 2))) (sSkip))
    (sRet (eTup (aCons (eBin oDiv (eVar 0) (eVar 2)) (aCons (eBin oDiv (eVar 1) (eVar 2)) (aNil))))))))
noncomputable def f_ratio_sum : List D → R D := fnD 2 2 (sRet (eCall f_ratio_of (aCons (eBin oAdd (eBin oMul (eBin oIx (eVar 0) (eC (.int 0))) (eBin oIx (eVar 1) (eC (.int 1)))) (eBin oMul (eBin oIx (eVar 1) (eC (.int 0))) (eBin oIx (eVar 0) (eC (.int 1))))) (aCons (eBin oMul (eBin oIx (eVar 0) (eC (.int 1))) (eBin oIx (eVar 1) (eC (.int 1)))) (aNil)))))
noncomputable def f_ratio_less : List D → R D := fnD 2 2 (sRet (eCall f_ratio_of (aCons (eBin oSub (eBin oMul (eBin oIx (eVar 0) (eC (.int 0))) (eBin oIx (eVar 1) (eC (.int 1)))) (eBin oMul (eBin oIx (eVar 1) (eC (.int 0))) (eBin oIx (eVar 0) (eC (.int 1))))) (aCons (eBin oMul (eBin oIx (eVar 0) (eC (.int 1))) (eBin oIx (eVar 1) (eC (.int 1)))) (aNil)))))
noncomputable def f_ratio_times : List D → R D := fnD 2 2 (sRet (eCall f_ratio_of (aCons (eBin oMul (eBin oIx (eVar 0) (eC (.int 0))) (eBin oIx (eVar 1) (eC (.int 0)))) (aCons (eBin oMul (eBin oIx (eVar 0) (eC (.int 1))) (eBin oIx (eVar 1) (eC (.int 1)))) (aNil)))))
noncomputable def f_ratio_by : List D → R D := fnD 2 2 (sRet (eCall f_ratio_of (aCons (eBin oMul (eBin oIx (eVar 0) (eC (.int 0))) (eBin oIx (eVar 1) (eC (.int 1)))) (aCons (eBin oMul (eBin oIx (eVar 0) (eC (.int 1))) (eBin oIx (eVar 1) (eC (.int 0)))) (aNil)))))
noncomputable def f_is_under : List D → R D := fnD 2 2 (sRet (eBin oLt (eBin oMul (eBin oIx (eVar 0) (eC (.int 0))) (eBin oIx (eVar 1) (eC (.int 1)))) (eBin oMul (eBin oIx (eVar 1) (eC (.int 0))) (eBin oIx (eVar 0) (eC (.int 1))))))
noncomputable def f_share_of : List D → R D := fnD 1 5 (sSeq (sSet 1 (eC (.tup [.int 0, .int 1])))
    (sSeq (sFor (iArgs range1 (aCons (eN oLen (aCons (eVar 0) (aNil))) (aNil))) (bName 2) (sSeq (sSet 3 (eBin oIx (eVar 0) (eVar 2)))
     (sSeq (sSet 4 (eBin oIx (eVar 0) (eBin oMod (eBin oAdd (eVar 2) (eC (.int 1))) (eN oLen (aCons (eVar 0) (aNil))))))
     (sSet 1 (eCall f_ratio_sum (aCons (eVar 1) (aCons (eCall f_ratio_less (aCons (eCall f_ratio_times (aCons (eBin oIx (eVar 3) (eC (.int 0))) (aCons (eBin oIx (eVar 4) (eC (.int 1))) (aNil)))) (aCons (eCall f_ratio_times (aCons (eBin oIx (eVar 4) (eC (.int 0))) (aCons (eBin oIx (eVar 3) (eC (.int 1))) (aNil)))) (aNil)))) (aNil))))))))
    (sRet (eCall f_ratio_times (aCons (eCall f_ratio_of (aCons (eC (.int 1)) (aCons (eC (.int 2)) (aNil)))) (aCons (eVar 1) (aNil)))))))
noncomputable def f_turn_at : List D → R D := fnD 3 4 (sSeq (sSet 3 (eCall f_ratio_times (aCons (eCall f_ratio_less (aCons (eBin oIx (eVar 1) (eC (.int 0))) (aCons (eBin oIx (eVar 0) (eC (.int 0))) (aNil)))) (aCons (eCall f_ratio_less (aCons (eBin oIx (eVar 2) (eC (.int 1))) (aCons (eBin oIx (eVar 0) (eC (.int 1))) (aNil)))) (aNil)))))
    (sRet (eCall f_ratio_less (aCons (eVar 3) (aCons (eCall f_ratio_times (aCons (eCall f_ratio_less (aCons (eBin oIx (eVar 1) (eC (.int 1))) (aCons (eBin oIx (eVar 0) (eC (.int 1))) (aNil)))) (aCons (eCall f_ratio_less (aCons (eBin oIx (eVar 2) (eC (.int 0))) (aCons (eBin oIx (eVar 0) (eC (.int 0))) (aNil)))) (aNil)))) (aNil))))))
noncomputable def f_between : List D → R D := fnD 4 7 (sSeq (sSet 4 (eCall f_ratio_by (aCons (eVar 2) (aCons (eCall f_ratio_less (aCons (eVar 2) (aCons (eVar 3) (aNil)))) (aNil)))))
    (sRet (eN oTuple (aCons (eComp [5, 6] (iArgs zip2 (aCons (eVar 0) (aCons (eVar 1) (aNil)))) (bSeq 2 (bCons (bName 5) (bCons (bName 6) (bNil)))) (eYes) (eCall f_ratio_sum (aCons (eVar 5) (aCons (eCall f_ratio_times (aCons (eVar 4) (aCons (eCall f_ratio_less (aCons (eVar 6) (aCons (eVar 5) (aNil)))) (aNil)))) (aNil))))) (aNil)))))
noncomputable def f_kept_side : List D → R D := fnD 2 5 (sSeq (sOwn 2 (aNil))
    (sSeq (sFor (iArgs range1 (aCons (eN oLen (aCons (eVar 0) (aNil))) (aNil))) (bName 3) (sSeq (sSet 4 (eBin oMod (eBin oAdd (eVar 3) (eC (.int 1))) (eN oLen (aCons (eVar 0) (aNil)))))
     (sSeq (sIf (eNot (eTest (eCall f_is_under (aCons (eBin oIx (eVar 1) (eVar 3)) (aCons (eC (.tup [.int 0, .int 1])) (aNil)))))) (sApp 2 (eBin oIx (eVar 0) (eVar 3))) (sSkip))
     (sIf (eTest (eCall f_is_under (aCons (eCall f_ratio_times (aCons (eBin oIx (eVar 1) (eVar 3)) (aCons (eBin oIx (eVar 1) (eVar 4)) (aNil)))) (aCons (eC (.tup [.int 0, .int 1])) (aNil))))) (sApp 2 (eCall f_between (aCons (eBin oIx (eVar 0) (eVar 3)) (aCons (eBin oIx (eVar 0) (eVar 4)) (aCons (eBin oIx (eVar 1) (eVar 3)) (aCons (eBin oIx (eVar 1) (eVar 4)) (aNil))))))) (sSkip)))))
    (sFreeze 2 (sRet (eVar 2)))))
noncomputable def f_is_before : List D → R D := fnD 2 2 (sSeq (sIf (eTest (eBin oNe (eBin oIx (eVar 0) (eC (.int 0))) (eBin oIx (eVar 1) (eC (.int 0))))) (sRet (eCall f_is_under (aCons (eBin oIx (eVar 0) (eC (.int 0))) (aCons (eBin oIx (eVar 1) (eC (.int 0))) (aNil))))) (sSkip))
    (sRet (eCall f_is_under (aCons (eBin oIx (eVar 0) (eC (.int 1))) (aCons (eBin oIx (eVar 1) (eC (.int 1))) (aNil))))))
noncomputable def f_tidied_part : List D → R D := fnD 1 6 (sSeq (sSet 1 (eComp [4] (iArgs range1 (aCons (eN oLen (aCons (eVar 0) (aNil))) (aNil))) (bName 4) (eOr (eTest (eBin oNe (eBin oIx (eVar 0) (eVar 4)) (eBin oIx (eVar 0) (eBin oSub (eVar 4) (eC (.int 1)))))) (eTest (eBin oEq (eN oLen (aCons (eVar 0) (aNil))) (eC (.int 1))))) (eBin oIx (eVar 0) (eVar 4))))
    (sSeq (sSet 2 (eN oLen (aCons (eVar 1) (aNil))))
    (sSeq (sOwn 3 (aNil))
    (sSeq (sFor (iArgs range1 (aCons (eVar 2) (aNil))) (bName 4) (sIf (eTest (eBin oNe (eCall f_turn_at (aCons (eBin oIx (eVar 1) (eBin oSub (eVar 4) (eC (.int 1)))) (aCons (eBin oIx (eVar 1) (eVar 4)) (aCons (eBin oIx (eVar 1) (eBin oMod (eBin oAdd (eVar 4) (eC (.int 1))) (eVar 2))) (aNil))))) (eC (.tup [.int 0, .int 1])))) (sApp 3 (eBin oIx (eVar 1) (eVar 4))) (sSkip)))
    (sSeq (sFreeze 3 (sIf (eTest (eBin oLt (eN oLen (aCons (eVar 3) (aNil))) (eC (.int 3)))) (sRet (eLst (aNil))) (sSkip)))
    (sSeq (sFreeze 3 (sIf (eTest (eCall f_is_under (aCons (eCall f_share_of (aCons (eVar 3) (aNil))) (aCons (eC (.tup [.int 0, .int 1])) (aNil))))) (sFreeze 3 (sSet 3 (eUn oRev (eVar 3)))) (sSkip)))
    (sSeq (sSet 5 (eC (.int 0)))
    (sSeq (sFreeze 3 (sFor (iArgs range2 (aCons (eC (.int 1)) (aCons (eN oLen (aCons (eVar 3) (aNil))) (aNil)))) (bName 4) (sFreeze 3 (sIf (eTest (eCall f_is_before (aCons (eBin oIx (eVar 3) (eVar 4)) (aCons (eBin oIx (eVar 3) (eVar 5)) (aNil))))) (sSet 5 (eVar 4)) (sSkip)))))
    (sFreeze 3 (sRet (eBin oAdd (eSl (eVar 3) (oSome (eVar 5)) (oNo)) (eSl (eVar 3) (oNo) (oSome (eVar 5))))))))))))))
noncomputable def f_both_of : List D → R D := fnD 2 7 (sSeq (sIf (eOr (eTest (eBin oEq (eVar 0) (eLst (aNil)))) (eTest (eBin oEq (eVar 1) (eLst (aNil))))) (sRet (eLst (aNil))) (sSkip))
    (sSeq (sSet 2 (eVar 0))
    (sSeq (sFor (iArgs range1 (aCons (eN oLen (aCons (eVar 1) (aNil))) (aNil))) (bName 3) (sSeq (sSet 4 (eBin oIx (eVar 1) (eVar 3)))
     (sSeq (sSet 5 (eBin oIx (eVar 1) (eBin oMod (eBin oAdd (eVar 3) (eC (.int 1))) (eN oLen (aCons (eVar 1) (aNil))))))
     (sSet 2 (eCall f_kept_side (aCons (eVar 2) (aCons (eComp [6] (iD (eVar 2)) (bName 6) (eYes) (eCall f_turn_at (aCons (eVar 4) (aCons (eVar 5) (aCons (eVar 6) (aNil)))))) (aNil))))))))
    (sRet (eCall f_tidied_part (aCons (eVar 2) (aNil)))))))
noncomputable def f_triple_sum : List D → R D := fnD 2 2 (sRet (eTup (aCons (eBin oAdd (eBin oIx (eVar 0) (eC (.int 0))) (eBin oIx (eVar 1) (eC (.int 0)))) (aCons (eBin oAdd (eBin oIx (eVar 0) (eC (.int 1))) (eBin oIx (eVar 1) (eC (.int 1)))) (aCons (eBin oAdd (eBin oIx (eVar 0) (eC (.int 2))) (eBin oIx (eVar 1) (eC (.int 2)))) (aNil))))))
noncomputable def f_triple_less : List D → R D := fnD 2 2 (sRet (eTup (aCons (eBin oSub (eBin oIx (eVar 0) (eC (.int 0))) (eBin oIx (eVar 1) (eC (.int 0)))) (aCons (eBin oSub (eBin oIx (eVar 0) (eC (.int 1))) (eBin oIx (eVar 1) (eC (.int 1)))) (aCons (eBin oSub (eBin oIx (eVar 0) (eC (.int 2))) (eBin oIx (eVar 1) (eC (.int 2)))) (aNil))))))
noncomputable def f_dot_of : List D → R D := fnD 2 2 (sRet (eBin oAdd (eBin oAdd (eBin oMul (eBin oIx (eVar 0) (eC (.int 0))) (eBin oIx (eVar 1) (eC (.int 0)))) (eBin oMul (eBin oIx (eVar 0) (eC (.int 1))) (eBin oIx (eVar 1) (eC (.int 1))))) (eBin oMul (eBin oIx (eVar 0) (eC (.int 2))) (eBin oIx (eVar 1) (eC (.int 2))))))
noncomputable def f_cross_of : List D → R D := fnD 2 8 (sSeq (sAsg (eVar 0) (bSeq 3 (bCons (bName 2) (bCons (bName 3) (bCons (bName 4) (bNil))))))
    (sSeq (sAsg (eVar 1) (bSeq 3 (bCons (bName 5) (bCons (bName 6) (bCons (bName 7) (bNil))))))
    (sRet (eTup (aCons (eBin oSub (eBin oMul (eVar 3) (eVar 7)) (eBin oMul (eVar 4) (eVar 6))) (aCons (eBin oSub (eBin oMul (eVar 4) (eVar 5)) (eBin oMul (eVar 2) (eVar 7))) (aCons (eBin oSub (eBin oMul (eVar 2) (eVar 6)) (eBin oMul (eVar 3) (eVar 5))) (aNil))))))))
noncomputable def f_front_of : List D → R D := fnD 1 1 (sRet (eCall f_cross_of (aCons (eBin oIx (eVar 0) (eC (.int 1))) (aCons (eBin oIx (eVar 0) (eC (.int 2))) (aNil)))))
noncomputable def f_comes_from_ahead : List D → R D := fnD 2 2 (sRet (eBin oGt (eCall f_dot_of (aCons (eCall f_front_of (aCons (eVar 0) (aNil))) (aCons (eVar 1) (aNil)))) (eC (.int 0))))
noncomputable def f_point_less : List D → R D := fnD 2 4 (sRet (eN oTuple (aCons (eComp [2, 3] (iArgs zip2 (aCons (eVar 0) (aCons (eVar 1) (aNil)))) (bSeq 2 (bCons (bName 2) (bCons (bName 3) (bNil)))) (eYes) (eCall f_ratio_less (aCons (eVar 2) (aCons (eTup (aCons (eVar 3) (aCons (eC (.int 1)) (aNil)))) (aNil))))) (aNil))))
noncomputable def f_point_dot : List D → R D := fnD 2 5 (sSeq (sSet 2 (eTup (aCons (eC (.int 0)) (aCons (eC (.int 1)) (aNil)))))
    (sSeq (sFor (iArgs zip2 (aCons (eVar 0) (aCons (eVar 1) (aNil)))) (bSeq 2 (bCons (bName 3) (bCons (bName 4) (bNil)))) (sSet 2 (eCall f_ratio_sum (aCons (eVar 2) (aCons (eCall f_ratio_times (aCons (eVar 3) (aCons (eTup (aCons (eVar 4) (aCons (eC (.int 1)) (aNil)))) (aNil)))) (aNil))))))
    (sRet (eVar 2))))
noncomputable def f_meeting_of : List D → R D := fnD 3 10 (sSeq (sAsg (eVar 0) (bSeq 3 (bCons (bName 3) (bCons (bName 4) (bCons (bName 5) (bNil))))))
    (sSeq (sSet 6 (eCall f_dot_of (aCons (eCall f_front_of (aCons (eVar 0) (aNil))) (aCons (eVar 2) (aNil)))))
    (sSeq (sIf (eTest (eBin oEq (eVar 6) (eC (.int 0)))) (sRet (eC .non)) (sSkip))
    (sSeq (sSet 7 (eCall f_point_less (aCons (eVar 1) (aCons (eVar 3) (aNil)))))
    (sSeq (sSet 8 (eCall f_ratio_by (aCons (eCall f_point_dot (aCons (eVar 7) (aCons (eCall f_cross_of (aCons (eVar 5) (aCons (eVar 2) (aNil)))) (aNil)))) (aCons (eTup (aCons (eVar 6) (aCons (eC (.int 1)) (aNil)))) (aNil)))))
    (sSeq (sSet 9 (eCall f_ratio_by (aCons (eCall f_point_dot (aCons (eVar 7) (aCons (eCall f_cross_of (aCons (eVar 2) (aCons (eVar 4) (aNil)))) (aNil)))) (aCons (eTup (aCons (eVar 6) (aCons (eC (.int 1)) (aNil)))) (aNil)))))
    (sRet (eTup (aCons (eVar 8) (aCons (eVar 9) (aNil)))))))))))
noncomputable def f_direction_at : List D → R D := fnD 2 4 (sSeq (sFor (iD (eVar 0)) (bSeq 2 (bCons (bName 2) (bCons (bName 3) (bNil)))) (sIf (eTest (eBin oEq (eVar 2) (eVar 1))) (sRet (eVar 3)) (sSkip)))
    (sRaiseF "NoHour" "hour" (aCons (eVar 1) (aNil))))
noncomputable def f_is_up : List D → R D := fnD 2 2 (sRet (eBin oGt (eBin oIx (eCall f_direction_at (aCons (eVar 0) (aCons (eVar 1) (aNil)))) (eC (.int 2))) (eC (.int 0))))
noncomputable def f_corners_of : List D → R D := fnD 1 5 (sSeq (sAsg (eVar 0) (bSeq 3 (bCons (bName 1) (bCons (bName 2) (bCons (bName 3) (bNil))))))
    (sSeq (sSet 4 (eCall f_triple_sum (aCons (eVar 1) (aCons (eVar 2) (aNil)))))
    (sRet (eLst (aCons (eVar 1) (aCons (eVar 4) (aCons (eCall f_triple_sum (aCons (eVar 4) (aCons (eVar 3) (aNil)))) (aCons (eCall f_triple_sum (aCons (eVar 1) (aCons (eVar 3) (aNil)))) (aNil)))))))))
noncomputable def f_as_point : List D → R D := fnD 1 2 (sRet (eN oTuple (aCons (eComp [1] (iD (eVar 0)) (bName 1) (eYes) (eTup (aCons (eVar 1) (aCons (eC (.int 1)) (aNil))))) (aNil))))
noncomputable def f_shaded_by : List D → R D := fnD 3 10 (sSeq (sSet 3 (eCall f_front_of (aCons (eVar 0) (aNil))))
    (sSeq (sSet 4 (eCall f_corners_of (aCons (eVar 1) (aNil))))
    (sSeq (sSet 5 (eComp [7] (iD (eVar 4)) (bName 7) (eYes) (eCall f_dot_of (aCons (eVar 3) (aCons (eCall f_triple_less (aCons (eVar 7) (aCons (eBin oIx (eVar 0) (eC (.int 0))) (aNil)))) (aNil))))))
    (sSeq (sIf (eOr (eTest (eBin oEq (eCall f_dot_of (aCons (eCall f_front_of (aCons (eVar 1) (aNil))) (aCons (eVar 2) (aNil)))) (eC (.int 0)))) (eTest (eBin oLe (eN oMax1 (aCons (eVar 5) (aNil))) (eC (.int 0))))) (sRet (eLst (aNil))) (sSkip))
    (sSeq (sSet 6 (eCall f_kept_side (aCons (eComp [7] (iD (eVar 4)) (bName 7) (eYes) (eCall f_as_point (aCons (eVar 7) (aNil)))) (aCons (eComp [8] (iD (eVar 5)) (bName 8) (eYes) (eTup (aCons (eVar 8) (aCons (eC (.int 1)) (aNil))))) (aNil)))))
    (sRet (eCall f_both_of (aCons (eCall f_tidied_part (aCons (eComp [9] (iD (eVar 6)) (bName 9) (eYes) (eCall f_meeting_of (aCons (eVar 0) (aCons (eVar 9) (aCons (eVar 2) (aNil)))))) (aNil))) (aCons (eN oList (aCons (eC (.lst [.tup [.tup [.int 0, .int 1], .tup [.int 0, .int 1]], .tup [.tup [.int 1, .int 1], .tup [.int 0, .int 1]], .tup [.tup [.int 1, .int 1], .tup [.int 1, .int 1]], .tup [.tup [.int 0, .int 1], .tup [.int 1, .int 1]]])) (aNil))) (aNil))))))))))
noncomputable def r_left_of : Nat → List D → R D
  | 0 => fnD 2 2 sBad
  | n + 1 => fnD 2 2 (sSeq (sIf (eOr (eTest (eBin oEq (eVar 1) (eLst (aNil)))) (eTest (eBin oEq (eVar 0) (eLst (aNil))))) (sRet (eCall f_share_of (aCons (eVar 0) (aNil)))) (sSkip))
    (sRet (eCall f_ratio_less (aCons (eCall (r_left_of n) (aCons (eVar 0) (aCons (eSl (eVar 1) (oSome (eC (.int 1))) (oNo)) (aNil)))) (aCons (eCall (r_left_of n) (aCons (eCall f_both_of (aCons (eVar 0) (aCons (eBin oIx (eVar 1) (eC (.int 0))) (aNil)))) (aCons (eSl (eVar 1) (oSome (eC (.int 1))) (oNo)) (aNil)))) (aNil))))))
noncomputable def f_left_of : List D → R D := r_left_of 8
noncomputable def f_lit_share : List D → R D := fnD 3 13 (sSeq (sAsg (eVar 0) (bSeq 3 (bCons (bName 3) (bCons (bName 4) (bCons (bName 5) (bNil))))))
    (sSeq (sSet 6 (eCall f_direction_at (aCons (eVar 3) (aCons (eVar 1) (aNil)))))
    (sSeq (sSet 7 (eComp [11] (iD (eVar 5)) (bName 11) (eTest (eBin oEq (eBin oIx (eVar 11) (eC (.int 0))) (eVar 2))) (eVar 11)))
    (sSeq (sIf (eTest (eBin oEq (eVar 7) (eLst (aNil)))) (sRaise "NoName") (sSkip))
    (sSeq (sSet 8 (eBin oIx (eBin oIx (eVar 7) (eC (.int 0))) (eC (.int 1))))
    (sSeq (sIf (eOr (eNot (eTest (eCall f_is_up (aCons (eVar 3) (aCons (eVar 1) (aNil)))))) (eNot (eTest (eCall f_comes_from_ahead (aCons (eVar 8) (aCons (eVar 6) (aNil))))))) (sRet (eTup (aCons (eC (.int 0)) (aCons (eC (.int 1)) (aNil))))) (sSkip))
    (sSeq (sSet 9 (eComp [11] (iD (eBin oAdd (eVar 4) (eVar 5))) (bName 11) (eTest (eBin oNe (eBin oIx (eVar 11) (eC (.int 0))) (eVar 2))) (eBin oIx (eVar 11) (eC (.int 1)))))
    (sSeq (sSet 10 (eComp [12] (iD (eComp [11] (iD (eVar 9)) (bName 11) (eYes) (eCall f_shaded_by (aCons (eVar 8) (aCons (eVar 11) (aCons (eVar 6) (aNil))))))) (bName 12) (eTest (eBin oNe (eVar 12) (eLst (aNil)))) (eVar 12)))
    (sSeq (sIf (eTest (eBin oGt (eN oLen (aCons (eVar 10) (aNil))) (eC (.int 6)))) (sRaise "TooMany") (sSkip))
    (sRet (eCall f_left_of (aCons (eN oList (aCons (eC (.lst [.tup [.tup [.int 0, .int 1], .tup [.int 0, .int 1]], .tup [.tup [.int 1, .int 1], .tup [.int 0, .int 1]], .tup [.tup [.int 1, .int 1], .tup [.int 1, .int 1]], .tup [.tup [.int 0, .int 1], .tup [.int 1, .int 1]]])) (aNil))) (aCons (eVar 10) (aNil))))))))))))))
noncomputable def f__law_cell_at : List D → R D := fnD 2 2 (sSeq (sIf (eTest (eBin oLt (eVar 1) (eN oLen (aCons (eVar 0) (aNil))))) (sRet (eBin oIx (eVar 0) (eVar 1))) (sSkip))
    (sRet (eC (.int 0))))
noncomputable def f__law_draw : List D → R D := fnD 3 6 (sSeq (sIf (eTest (eBin oGe (eVar 0) (eBin oPow (eC (.int 10)) (eC (.int 18))))) (sSeq (sSet 3 (eVar 0))
     (sSeq (sFor (iArgs range1 (aCons (eVar 1) (aNil))) (bName 4) (sSet 3 (eBin oDiv (eVar 3) (eBin oPow (eC (.int 10)) (eC (.int 10))))))
     (sIf (eTest (eBin oGt (eVar 3) (eC (.int 0)))) (sRet (eBin oMod (eBin oMod (eVar 3) (eBin oPow (eC (.int 10)) (eC (.int 10)))) (eVar 2))) (sSkip)))) (sSkip))
    (sSeq (sSet 5 (eBin oMod (eBin oMul (eBin oAdd (eBin oAdd (eBin oAdd (eBin oMod (eVar 0) (eC (.int 2147483647))) (eBin oMul (eBin oMul (eC (.int 7919)) (eVar 1)) (eVar 1))) (eBin oMul (eC (.int 31)) (eVar 1))) (eC (.int 1))) (eC (.int 48271))) (eC (.int 2147483647))))
    (sSeq (sSet 5 (eBin oMod (eBin oAdd (eBin oAdd (eBin oMul (eVar 5) (eVar 5)) (eBin oMul (eC (.int 69621)) (eVar 1))) (eC (.int 7))) (eC (.int 2147483629))))
    (sRet (eBin oMod (eBin oMod (eBin oMul (eVar 5) (eVar 5)) (eC (.int 2147483587))) (eVar 2))))))
noncomputable def f__law_low : List D → R D := fnD 2 4 (sSeq (sSet 2 (eN oAbs (aCons (eVar 0) (aNil))))
    (sSeq (sSet 3 (eVar 1))
    (sSeq (whileS (eTest (eBin oNe (eVar 3) (eC (.int 0)))) (sPar 2 3 (aCons (eVar 3) (aCons (eBin oMod (eVar 2) (eVar 3)) (aNil)))))
    (sRet (eTup (aCons (eBin oDiv (eVar 0) (eVar 2)) (aCons (eBin oDiv (eVar 1) (eVar 2)) (aNil))))))))
noncomputable def f__law_add : List D → R D := fnD 2 2 (sRet (eCall f__law_low (aCons (eBin oAdd (eBin oMul (eBin oIx (eVar 0) (eC (.int 0))) (eBin oIx (eVar 1) (eC (.int 1)))) (eBin oMul (eBin oIx (eVar 1) (eC (.int 0))) (eBin oIx (eVar 0) (eC (.int 1))))) (aCons (eBin oMul (eBin oIx (eVar 0) (eC (.int 1))) (eBin oIx (eVar 1) (eC (.int 1)))) (aNil)))))
noncomputable def f__law_under : List D → R D := fnD 2 2 (sRet (eBin oLt (eBin oMul (eBin oIx (eVar 0) (eC (.int 0))) (eBin oIx (eVar 1) (eC (.int 1)))) (eBin oMul (eBin oIx (eVar 1) (eC (.int 0))) (eBin oIx (eVar 0) (eC (.int 1))))))
noncomputable def f__law_number : List D → R D := fnD 2 3 (sSeq (sSet 2 (eCall f__law_draw (aCons (eVar 0) (aCons (eBin oMul (eC (.int 2)) (eVar 1)) (aCons (eC (.int 8)) (aNil))))))
    (sSeq (sIf (eTest (eBin oLt (eVar 2) (eC (.int 5)))) (sRet (eBin oSub (eCall f__law_draw (aCons (eVar 0) (aCons (eBin oAdd (eBin oMul (eC (.int 2)) (eVar 1)) (eC (.int 1))) (aCons (eC (.int 9)) (aNil))))) (eC (.int 4)))) (sSkip))
    (sSeq (sIf (eTest (eBin oLt (eVar 2) (eC (.int 7)))) (sRet (eBin oSub (eCall f__law_draw (aCons (eVar 0) (aCons (eBin oAdd (eBin oMul (eC (.int 2)) (eVar 1)) (eC (.int 1))) (aCons (eC (.int 61)) (aNil))))) (eC (.int 30)))) (sSkip))
    (sRet (eBin oMul (eBin oIx (eLst (aCons (eC (.int 1)) (aCons (eUn oNeg (eC (.int 1))) (aNil)))) (eCall f__law_draw (aCons (eVar 0) (aCons (eBin oAdd (eBin oMul (eC (.int 2)) (eVar 1)) (eC (.int 1))) (aCons (eC (.int 2)) (aNil)))))) (eBin oSub (eC (.int 60)) (eBin oDiv (eCall f__law_draw (aCons (eVar 0) (aCons (eBin oMul (eC (.int 2)) (eVar 1)) (aCons (eC (.int 64)) (aNil))))) (eC (.int 8)))))))))
noncomputable def f__law_triple : List D → R D := fnD 2 2 (sRet (eTup (aCons (eCall f__law_number (aCons (eVar 0) (aCons (eVar 1) (aNil)))) (aCons (eCall f__law_number (aCons (eVar 0) (aCons (eBin oAdd (eVar 1) (eC (.int 1))) (aNil)))) (aCons (eCall f__law_number (aCons (eVar 0) (aCons (eBin oAdd (eVar 1) (eC (.int 2))) (aNil)))) (aNil))))))
noncomputable def f__law_cross : List D → R D := fnD 2 8 (sSeq (sAsg (eVar 0) (bSeq 3 (bCons (bName 2) (bCons (bName 3) (bCons (bName 4) (bNil))))))
    (sSeq (sAsg (eVar 1) (bSeq 3 (bCons (bName 5) (bCons (bName 6) (bCons (bName 7) (bNil))))))
    (sRet (eTup (aCons (eBin oSub (eBin oMul (eVar 3) (eVar 7)) (eBin oMul (eVar 4) (eVar 6))) (aCons (eBin oSub (eBin oMul (eVar 4) (eVar 5)) (eBin oMul (eVar 2) (eVar 7))) (aCons (eBin oSub (eBin oMul (eVar 2) (eVar 6)) (eBin oMul (eVar 3) (eVar 5))) (aNil))))))))
noncomputable def f__law_dot : List D → R D := fnD 2 2 (sRet (eBin oAdd (eBin oAdd (eBin oMul (eBin oIx (eVar 0) (eC (.int 0))) (eBin oIx (eVar 1) (eC (.int 0)))) (eBin oMul (eBin oIx (eVar 0) (eC (.int 1))) (eBin oIx (eVar 1) (eC (.int 1))))) (eBin oMul (eBin oIx (eVar 0) (eC (.int 2))) (eBin oIx (eVar 1) (eC (.int 2))))))
noncomputable def f__law_plate : List D → R D := fnD 2 5 (sSeq (sSet 2 (eCall f__law_triple (aCons (eVar 0) (aCons (eBin oAdd (eVar 1) (eC (.int 3))) (aNil)))))
    (sSeq (sIf (eTest (eBin oEq (eVar 2) (eTup (aCons (eC (.int 0)) (aCons (eC (.int 0)) (aCons (eC (.int 0)) (aNil))))))) (sSet 2 (eTup (aCons (eC (.int 1)) (aCons (eC (.int 0)) (aCons (eC (.int 0)) (aNil)))))) (sSkip))
    (sSeq (sSet 3 (eCall f__law_triple (aCons (eVar 0) (aCons (eBin oAdd (eVar 1) (eC (.int 6))) (aNil)))))
    (sSeq (sFor (iD (eLst (aCons (eTup (aCons (eC (.int 0)) (aCons (eC (.int 1)) (aCons (eC (.int 0)) (aNil))))) (aCons (eTup (aCons (eC (.int 0)) (aCons (eC (.int 0)) (aCons (eC (.int 1)) (aNil))))) (aCons (eTup (aCons (eC (.int 1)) (aCons (eC (.int 0)) (aCons (eC (.int 0)) (aNil))))) (aNil)))))) (bName 4) (sIf (eTest (eBin oEq (eCall f__law_cross (aCons (eVar 2) (aCons (eVar 3) (aNil)))) (eTup (aCons (eC (.int 0)) (aCons (eC (.int 0)) (aCons (eC (.int 0)) (aNil))))))) (sSet 3 (eVar 4)) (sSkip)))
    (sRet (eTup (aCons (eCall f__law_triple (aCons (eVar 0) (aCons (eVar 1) (aNil)))) (aCons (eVar 2) (aCons (eVar 3) (aNil))))))))))
noncomputable def f__law_ahead : List D → R D := fnD 2 6 (sSeq (sIf (eTest (eBin oLt (eCall f__law_dot (aCons (eVar 0) (aCons (eVar 1) (aNil)))) (eC (.int 0)))) (sSet 1 (eTup (aCons (eBin oSub (eC (.int 0)) (eBin oIx (eVar 1) (eC (.int 0)))) (aCons (eBin oSub (eC (.int 0)) (eBin oIx (eVar 1) (eC (.int 1)))) (aCons (eBin oSub (eC (.int 0)) (eBin oIx (eVar 1) (eC (.int 2)))) (aNil)))))) (sSkip))
    (sSeq (sFor (iD (eLst (aCons (eTup (aCons (eC (.int 0)) (aCons (eC (.int 0)) (aCons (eC (.int 1)) (aNil))))) (aCons (eTup (aCons (eC (.int 0)) (aCons (eC (.int 1)) (aCons (eC (.int 0)) (aNil))))) (aCons (eTup (aCons (eC (.int 1)) (aCons (eC (.int 0)) (aCons (eC (.int 0)) (aNil))))) (aNil)))))) (bName 2) (sIf (eTest (eBin oEq (eCall f__law_dot (aCons (eVar 0) (aCons (eVar 1) (aNil)))) (eC (.int 0)))) (sSeq (sSet 3 (eBin oIx (eLst (aCons (eC (.int 1)) (aCons (eUn oNeg (eC (.int 1))) (aNil)))) (eN oInt (aCons (eBin oLt (eCall f__law_dot (aCons (eVar 0) (aCons (eVar 2) (aNil)))) (eC (.int 0))) (aNil)))))
      (sSet 1 (eN oTuple (aCons (eComp [4, 5] (iArgs zip2 (aCons (eVar 1) (aCons (eVar 2) (aNil)))) (bSeq 2 (bCons (bName 4) (bCons (bName 5) (bNil)))) (eYes) (eBin oAdd (eVar 4) (eBin oMul (eVar 3) (eVar 5)))) (aNil))))) (sSkip)))
    (sRet (eVar 1))))
noncomputable def f__law_sum : List D → R D := fnD 3 5 (sRet (eN oTuple (aCons (eComp [3, 4] (iArgs zip2 (aCons (eVar 0) (aCons (eVar 1) (aNil)))) (bSeq 2 (bCons (bName 3) (bCons (bName 4) (bNil)))) (eYes) (eBin oAdd (eVar 3) (eBin oMul (eVar 2) (eVar 4)))) (aNil))))
noncomputable def f__law_far : List D → R D := fnD 1 2 (sRet (eBin oNe (eComp [1] (iD (eVar 0)) (bName 1) (eTest (eBin oGt (eN oMax2 (aCons (eN oMaxU (aCons (eVar 1) (aNil))) (aCons (eBin oSub (eC (.int 0)) (eN oMinU (aCons (eVar 1) (aNil)))) (aNil)))) (eBin oPow (eC (.int 10)) (eC (.int 9))))) (eVar 1)) (eLst (aNil))))
noncomputable def f__law_about : List D → R D := fnD 3 7 (sSeq (sSet 3 (eCall f__law_sum (aCons (eBin oIx (eVar 0) (eC (.int 0))) (aCons (eBin oIx (eVar 0) (eC (.int 1))) (aCons (eBin oSub (eCall f__law_draw (aCons (eVar 2) (aCons (eC (.int 41)) (aCons (eC (.int 4)) (aNil))))) (eC (.int 2))) (aNil))))))
    (sSeq (sSet 3 (eCall f__law_sum (aCons (eVar 3) (aCons (eBin oIx (eVar 0) (eC (.int 2))) (aCons (eBin oSub (eCall f__law_draw (aCons (eVar 2) (aCons (eC (.int 42)) (aCons (eC (.int 4)) (aNil))))) (eC (.int 2))) (aNil))))))
    (sSeq (sSet 3 (eCall f__law_sum (aCons (eVar 3) (aCons (eVar 1) (aCons (eBin oAdd (eC (.int 1)) (eCall f__law_draw (aCons (eVar 2) (aCons (eC (.int 43)) (aCons (eC (.int 3)) (aNil)))))) (aNil))))))
    (sSeq (sSet 4 (eCall f__law_plate (aCons (eVar 2) (aCons (eC (.int 20)) (aNil)))))
    (sSeq (sSet 5 (eBin oIx (eLst (aCons (eBin oIx (eVar 4) (eC (.int 1))) (aCons (eBin oIx (eVar 0) (eC (.int 1))) (aCons (eCall f__law_sum (aCons (eBin oIx (eVar 0) (eC (.int 1))) (aCons (eBin oIx (eVar 4) (eC (.int 1))) (aCons (eC (.int 1)) (aNil))))) (aNil))))) (eCall f__law_draw (aCons (eVar 2) (aCons (eC (.int 45)) (aCons (eC (.int 3)) (aNil)))))))
    (sSeq (sSet 6 (eBin oIx (eLst (aCons (eBin oIx (eVar 4) (eC (.int 2))) (aCons (eBin oIx (eVar 0) (eC (.int 2))) (aCons (eCall f__law_sum (aCons (eBin oIx (eVar 0) (eC (.int 2))) (aCons (eBin oIx (eVar 4) (eC (.int 2))) (aCons (eC (.int 1)) (aNil))))) (aNil))))) (eCall f__law_draw (aCons (eVar 2) (aCons (eC (.int 46)) (aCons (eC (.int 3)) (aNil)))))))
    (sSeq (sIf (eOr (eTest (eBin oEq (eCall f__law_cross (aCons (eVar 5) (aCons (eVar 6) (aNil)))) (eTup (aCons (eC (.int 0)) (aCons (eC (.int 0)) (aCons (eC (.int 0)) (aNil))))))) (eTest (eCall f__law_far (aCons (eLst (aCons (eVar 3) (aCons (eVar 5) (aCons (eVar 6) (aNil))))) (aNil))))) (sRet (eVar 4)) (sSkip))
    (sRet (eTup (aCons (eVar 3) (aCons (eVar 5) (aCons (eVar 6) (aNil)))))))))))))
noncomputable def f__law_tip : List D → R D := fnD 2 6 (sSeq (sSet 2 (eCall f__law_cross (aCons (eBin oIx (eVar 0) (eC (.int 1))) (aCons (eBin oIx (eVar 0) (eC (.int 2))) (aNil)))))
    (sSeq (sSet 3 (eCall f__law_ahead (aCons (eVar 2) (aCons (eN oTuple (aCons (eComp [5] (iArgs range1 (aCons (eC (.int 3)) (aNil))) (bName 5) (eYes) (eBin oSub (eCall f__law_draw (aCons (eVar 1) (aCons (eBin oAdd (eC (.int 60)) (eVar 5)) (aCons (eC (.int 9)) (aNil))))) (eC (.int 4)))) (aNil))) (aNil)))))
    (sSeq (sSet 4 (eCall f__law_sum (aCons (eBin oIx (eVar 0) (eC (.int 0))) (aCons (eVar 3) (aCons (eC (.int 1)) (aNil))))))
    (sSeq (sIf (eTest (eCall f__law_far (aCons (eLst (aCons (eVar 4) (aNil))) (aNil)))) (sRet (eC .non)) (sSkip))
    (sRet (eVar 4))))))
noncomputable def f__law_left : List D → R D := fnD 1 9 (sSeq (sSet 1 (eTup (aCons (eC (.int 1)) (aCons (eC (.int 1)) (aNil)))))
    (sSeq (sSet 2 (eLst (aCons (eTup (aCons (eC (.int 0)) (aCons (eLst (aNil)) (aNil)))) (aNil))))
    (sSeq (sFor (iD (eVar 0)) (bName 3) (sSeq (sOwn 4 (aNil))
     (sSeq (sFor (iD (eVar 2)) (bSeq 2 (bCons (bName 5) (bCons (bName 6) (bNil)))) (sSeq (sSet 7 (eVar 3))
      (sSeq (sIf (eTest (eBin oGt (eVar 5) (eC (.int 0)))) (sSet 7 (eCall f_both_of (aCons (eVar 6) (aCons (eVar 3) (aNil))))) (sSkip))
      (sApp 4 (eTup (aCons (eBin oAdd (eVar 5) (eC (.int 1))) (aCons (eVar 7) (aNil))))))))
     (sFreeze 4 (sSet 2 (eBin oAdd (eVar 2) (eVar 4)))))))
    (sSeq (sFor (iD (eSl (eVar 2) (oSome (eC (.int 1))) (oNo))) (bSeq 2 (bCons (bName 5) (bCons (bName 3) (bNil)))) (sSeq (sSet 8 (eCall f_share_of (aCons (eVar 3) (aNil))))
     (sSet 1 (eCall f__law_add (aCons (eVar 1) (aCons (eTup (aCons (eBin oIx (eLst (aCons (eBin oSub (eC (.int 0)) (eBin oIx (eVar 8) (eC (.int 0)))) (aCons (eBin oIx (eVar 8) (eC (.int 0))) (aNil)))) (eBin oMod (eBin oAdd (eVar 5) (eC (.int 1))) (eC (.int 2)))) (aCons (eBin oIx (eVar 8) (eC (.int 1))) (aNil)))) (aNil)))))))
    (sRet (eVar 1))))))
noncomputable def f__law_yard : List D → R D := fnD 3 7 (sSeq (sOwn 3 (aNil))
    (sSeq (sOwn 4 (aNil))
    (sSeq (sFor (iArgs range1 (aCons (eN oLen (aCons (eVar 1) (aNil))) (aNil))) (bName 5) (sSeq (sSet 6 (eBin oIx (eC (.str "abcdefgh")) (eVar 5)))
     (sIf (eOr (eTest (eBin oIsN (eBin oIx (eVar 2) (eVar 5)) (eC .non))) (eTest (eBin oEq (eBin oMod (eVar 5) (eC (.int 3))) (eC (.int 1))))) (sApp 3 (eTup (aCons (eVar 6) (aCons (eBin oIx (eVar 1) (eVar 5)) (aNil))))) (sApp 4 (eTup (aCons (eVar 6) (aCons (eBin oIx (eVar 1) (eVar 5)) (aCons (eBin oIx (eVar 2) (eVar 5)) (aNil)))))))))
    (sFreeze 4 (sFreeze 3 (sRet (eTup (aCons (eVar 0) (aCons (eVar 3) (aCons (eVar 4) (aNil)))))))))))
noncomputable def f__law_hour : List D → R D := fnD 4 12 (sSeq (sAsg (eBin oIx (eVar 0) (eVar 3)) (bSeq 2 (bCons (bName 4) (bCons (bName 5) (bNil)))))
    (sSeq (sSet 6 (eBin oIx (eVar 1) (eC (.int 0))))
    (sSeq (sSet 7 (eCall f_lit_share (aCons (eCall f__law_yard (aCons (eVar 0) (aCons (eVar 1) (aCons (eVar 2) (aNil))))) (aCons (eVar 4) (aCons (eC (.str "a")) (aNil))))))
    (sSeq (sIf (eOr (eTest (eBin oLe (eBin oIx (eVar 5) (eC (.int 2))) (eC (.int 0)))) (eTest (eBin oLe (eCall f__law_dot (aCons (eCall f__law_cross (aCons (eBin oIx (eVar 6) (eC (.int 1))) (aCons (eBin oIx (eVar 6) (eC (.int 2))) (aNil)))) (aCons (eVar 5) (aNil)))) (eC (.int 0))))) (sRet (eBin oEq (eVar 7) (eTup (aCons (eC (.int 0)) (aCons (eC (.int 1)) (aNil)))))) (sSkip))
    (sSeq (sSet 8 (eComp [11] (iD (eSl (eVar 1) (oSome (eC (.int 1))) (oNo))) (bName 11) (eYes) (eCall f_shaded_by (aCons (eVar 6) (aCons (eVar 11) (aCons (eVar 5) (aNil)))))))
    (sSeq (sIf (eTest (eBin oNe (eVar 7) (eCall f__law_left (aCons (eVar 8) (aNil))))) (sRet (eC (.bl false))) (sSkip))
    (sSeq (sFor (iArgs range2 (aCons (eC (.int 1)) (aCons (eN oLen (aCons (eVar 1) (aNil))) (aNil)))) (bName 9) (sSeq (sSet 10 (eCall f__law_yard (aCons (eVar 0) (aCons (eBin oAdd (eSl (eVar 1) (oNo) (oSome (eVar 9))) (eSl (eVar 1) (oSome (eBin oAdd (eVar 9) (eC (.int 1)))) (oNo))) (aCons (eBin oAdd (eSl (eVar 2) (oNo) (oSome (eVar 9))) (eSl (eVar 2) (oSome (eBin oAdd (eVar 9) (eC (.int 1)))) (oNo))) (aNil))))))
     (sIf (eTest (eCall f__law_under (aCons (eCall f_lit_share (aCons (eVar 10) (aCons (eVar 4) (aCons (eC (.str "a")) (aNil))))) (aCons (eVar 7) (aNil))))) (sRet (eC (.bl false))) (sSkip))))
    (sRet (eBin oEq (eCall f_lit_share (aCons (eTup (aCons (eVar 0) (aCons (eLst (aNil)) (aCons (eLst (aCons (eTup (aCons (eC (.str "a")) (aCons (eVar 6) (aCons (eBin oIx (eVar 2) (eC (.int 0))) (aNil))))) (aNil))) (aNil))))) (aCons (eVar 4) (aCons (eC (.str "a")) (aNil))))) (eTup (aCons (eC (.int 1)) (aCons (eC (.int 1)) (aNil)))))))))))))
noncomputable def f_law : List D → R D := fnD 1 11 (sSeq (sSet 1 (eCall f__law_cell_at (aCons (eVar 0) (aCons (eC (.int 0)) (aNil)))))
    (sSeq (sSet 2 (eCall f__law_plate (aCons (eVar 1) (aCons (eC (.int 0)) (aNil)))))
    (sSeq (sSet 3 (eCall f__law_tip (aCons (eVar 2) (aCons (eVar 1) (aNil)))))
    (sSeq (sSet 4 (eCall f__law_triple (aCons (eVar 1) (aCons (eC (.int 10)) (aNil)))))
    (sSeq (sIf (eTest (eBin oGt (eCall f__law_draw (aCons (eVar 1) (aCons (eC (.int 70)) (aCons (eC (.int 6)) (aNil))))) (eC (.int 0)))) (sSet 4 (eCall f__law_ahead (aCons (eCall f__law_cross (aCons (eBin oIx (eVar 2) (eC (.int 1))) (aCons (eBin oIx (eVar 2) (eC (.int 2))) (aNil)))) (aCons (eVar 4) (aNil))))) (sSkip))
    (sSeq (sIf (eOr (eTest (eBin oIsN (eVar 3) (eC .non))) (eOr (eTest (eBin oEq (eVar 4) (eTup (aCons (eC (.int 0)) (aCons (eC (.int 0)) (aCons (eC (.int 0)) (aNil))))))) (eTest (eCall f__law_far (aCons (eLst (aCons (eVar 4) (aNil))) (aNil)))))) (sRet (eC (.bl true))) (sSkip))
    (sSeq (sOwn 5 (aCons (eVar 2) (aNil)))
    (sSeq (sOwn 6 (aCons (eVar 3) (aNil)))
    (sSeq (sFor (iArgs range1 (aCons (eBin oAdd (eC (.int 1)) (eCall f__law_draw (aCons (eVar 1) (aCons (eC (.int 71)) (aCons (eC (.int 3)) (aNil)))))) (aNil))) (bName 7) (sSeq (sSet 8 (eBin oAdd (eCall f__law_cell_at (aCons (eVar 0) (aCons (eBin oAdd (eC (.int 5)) (eBin oMul (eVar 7) (eC (.int 2)))) (aNil)))) (eVar 7)))
     (sSeq (sApp 5 (eCall f__law_about (aCons (eVar 2) (aCons (eVar 4) (aCons (eVar 8) (aNil))))))
     (sApp 6 (eCall f__law_tip (aCons (eIxO 5 (eUn oNeg (eC (.int 1)))) (aCons (eVar 8) (aNil))))))))
    (sSeq (sSet 9 (eLst (aCons (eTup (aCons (eC (.int 7)) (aCons (eVar 4) (aNil)))) (aCons (eTup (aCons (eC (.int 9)) (aCons (eCall f__law_ahead (aCons (eCall f__law_cross (aCons (eBin oIx (eVar 2) (eC (.int 1))) (aCons (eBin oIx (eVar 2) (eC (.int 2))) (aNil)))) (aCons (eCall f__law_triple (aCons (eVar 1) (aCons (eC (.int 50)) (aNil)))) (aNil)))) (aNil)))) (aNil)))))
    (sSeq (sFreeze 6 (sFreeze 5 (sSet 10 (eCall f_lit_share (aCons (eCall f__law_yard (aCons (eVar 9) (aCons (eVar 5) (aCons (eVar 6) (aNil))))) (aCons (eC (.int 7)) (aCons (eC (.str "a")) (aNil))))))))
    (sSeq (sFreeze 6 (sFreeze 5 (sIf (eOr (eNot (eTest (eCall f__law_hour (aCons (eVar 9) (aCons (eVar 5) (aCons (eVar 6) (aCons (eC (.int 0)) (aNil)))))))) (eNot (eTest (eCall f__law_hour (aCons (eVar 9) (aCons (eVar 5) (aCons (eVar 6) (aCons (eC (.int 1)) (aNil))))))))) (sRet (eC (.bl false))) (sSkip))))
    (sFreeze 6 (sFreeze 5 (sRet (eBin oEq (eCall f_lit_share (aCons (eCall f__law_yard (aCons (eVar 9) (aCons (eVar 5) (aCons (eVar 6) (aNil))))) (aCons (eC (.int 7)) (aCons (eC (.str "a")) (aNil))))) (eVar 10)))))))))))))))))
end Gn

section
set_option Elab.async false
set_option linter.all false
set_option maxRecDepth 100000
set_option maxHeartbeats 0
namespace Gn
open PySem PySem.Spec PyProof.Rows L2 Dy
/-! ### the text -/
def topS (i : Nat) : Stmt := PySem.Challenge.pw_dialyard_k77_whole_lit_by_parts.main.body.getD i (.Pass ⟨0, 0, 0, 0⟩)
abbrev s_is_whole : Stmt := topS 7
abbrev N_is_whole : List Str := ["thing"]
theorem sc_is_whole : FnScope N_is_whole ["thing"] (defScope s_is_whole) := ⟨rfl, rfl, rfl, by decide +kernel, rfl, by decide +kernel, by decide +kernel⟩
abbrev s_divisor_of : Stmt := topS 8
abbrev N_divisor_of : List Str := ["one", "other"]
theorem sc_divisor_of : FnScope N_divisor_of ["one", "other"] (defScope s_divisor_of) := ⟨rfl, rfl, rfl, by decide +kernel, rfl, by decide +kernel, by decide +kernel⟩
abbrev s_ratio_of : Stmt := topS 9
abbrev N_ratio_of : List Str := ["top", "bottom", "by"]
theorem sc_ratio_of : FnScope N_ratio_of ["top", "bottom"] (defScope s_ratio_of) := ⟨rfl, rfl, rfl, by decide +kernel, rfl, by decide +kernel, by decide +kernel⟩
abbrev s_ratio_sum : Stmt := topS 10
abbrev N_ratio_sum : List Str := ["one", "other"]
theorem sc_ratio_sum : FnScope N_ratio_sum ["one", "other"] (defScope s_ratio_sum) := ⟨rfl, rfl, rfl, by decide +kernel, rfl, by decide +kernel, by decide +kernel⟩
abbrev s_ratio_less : Stmt := topS 11
abbrev N_ratio_less : List Str := ["one", "other"]
theorem sc_ratio_less : FnScope N_ratio_less ["one", "other"] (defScope s_ratio_less) := ⟨rfl, rfl, rfl, by decide +kernel, rfl, by decide +kernel, by decide +kernel⟩
abbrev s_ratio_times : Stmt := topS 12
abbrev N_ratio_times : List Str := ["one", "other"]
theorem sc_ratio_times : FnScope N_ratio_times ["one", "other"] (defScope s_ratio_times) := ⟨rfl, rfl, rfl, by decide +kernel, rfl, by decide +kernel, by decide +kernel⟩
abbrev s_ratio_by : Stmt := topS 13
abbrev N_ratio_by : List Str := ["one", "other"]
theorem sc_ratio_by : FnScope N_ratio_by ["one", "other"] (defScope s_ratio_by) := ⟨rfl, rfl, rfl, by decide +kernel, rfl, by decide +kernel, by decide +kernel⟩
abbrev s_is_under : Stmt := topS 14
abbrev N_is_under : List Str := ["one", "other"]
theorem sc_is_under : FnScope N_is_under ["one", "other"] (defScope s_is_under) := ⟨rfl, rfl, rfl, by decide +kernel, rfl, by decide +kernel, by decide +kernel⟩
abbrev s_share_of : Stmt := topS 17
abbrev N_share_of : List Str := ["part", "found", "k", "one", "other"]
theorem sc_share_of : FnScope N_share_of ["part"] (defScope s_share_of) := ⟨rfl, rfl, rfl, by decide +kernel, rfl, by decide +kernel, by decide +kernel⟩
abbrev s_turn_at : Stmt := topS 18
abbrev N_turn_at : List Str := ["one", "other", "place", "first"]
theorem sc_turn_at : FnScope N_turn_at ["one", "other", "place"] (defScope s_turn_at) := ⟨rfl, rfl, rfl, by decide +kernel, rfl, by decide +kernel, by decide +kernel⟩
abbrev s_between : Stmt := topS 19
abbrev N_between : List Str := ["one", "other", "here", "there", "share", "a", "b"]
theorem sc_between : FnScope N_between ["one", "other", "here", "there"] (defScope s_between) := ⟨rfl, rfl, rfl, by decide +kernel, rfl, by decide +kernel, by decide +kernel⟩
abbrev s_kept_side : Stmt := topS 20
abbrev N_kept_side : List Str := ["corners", "heights", "found", "k", "later"]
theorem sc_kept_side : FnScope N_kept_side ["corners", "heights"] (defScope s_kept_side) := ⟨rfl, rfl, rfl, by decide +kernel, rfl, by decide +kernel, by decide +kernel⟩
abbrev s_is_before : Stmt := topS 21
abbrev N_is_before : List Str := ["one", "other"]
theorem sc_is_before : FnScope N_is_before ["one", "other"] (defScope s_is_before) := ⟨rfl, rfl, rfl, by decide +kernel, rfl, by decide +kernel, by decide +kernel⟩
abbrev s_tidied_part : Stmt := topS 22
abbrev N_tidied_part : List Str := ["corners", "unlike", "many", "found", "k", "first"]
theorem sc_tidied_part : FnScope N_tidied_part ["corners"] (defScope s_tidied_part) := ⟨rfl, rfl, rfl, by decide +kernel, rfl, by decide +kernel, by decide +kernel⟩
abbrev s_both_of : Stmt := topS 23
abbrev N_both_of : List Str := ["one", "other", "found", "k", "here", "there", "place"]
theorem sc_both_of : FnScope N_both_of ["one", "other"] (defScope s_both_of) := ⟨rfl, rfl, rfl, by decide +kernel, rfl, by decide +kernel, by decide +kernel⟩
abbrev s_triple_sum : Stmt := topS 25
abbrev N_triple_sum : List Str := ["one", "other"]
theorem sc_triple_sum : FnScope N_triple_sum ["one", "other"] (defScope s_triple_sum) := ⟨rfl, rfl, rfl, by decide +kernel, rfl, by decide +kernel, by decide +kernel⟩
abbrev s_triple_less : Stmt := topS 26
abbrev N_triple_less : List Str := ["one", "other"]
theorem sc_triple_less : FnScope N_triple_less ["one", "other"] (defScope s_triple_less) := ⟨rfl, rfl, rfl, by decide +kernel, rfl, by decide +kernel, by decide +kernel⟩
abbrev s_dot_of : Stmt := topS 27
abbrev N_dot_of : List Str := ["one", "other"]
theorem sc_dot_of : FnScope N_dot_of ["one", "other"] (defScope s_dot_of) := ⟨rfl, rfl, rfl, by decide +kernel, rfl, by decide +kernel, by decide +kernel⟩
abbrev s_cross_of : Stmt := topS 28
abbrev N_cross_of : List Str := ["one", "other", "a", "b", "c", "d", "e", "f"]
theorem sc_cross_of : FnScope N_cross_of ["one", "other"] (defScope s_cross_of) := ⟨rfl, rfl, rfl, by decide +kernel, rfl, by decide +kernel, by decide +kernel⟩
abbrev s_front_of : Stmt := topS 30
abbrev N_front_of : List Str := ["plate"]
theorem sc_front_of : FnScope N_front_of ["plate"] (defScope s_front_of) := ⟨rfl, rfl, rfl, by decide +kernel, rfl, by decide +kernel, by decide +kernel⟩
abbrev s_comes_from_ahead : Stmt := topS 31
abbrev N_comes_from_ahead : List Str := ["plate", "direction"]
theorem sc_comes_from_ahead : FnScope N_comes_from_ahead ["plate", "direction"] (defScope s_comes_from_ahead) := ⟨rfl, rfl, rfl, by decide +kernel, rfl, by decide +kernel, by decide +kernel⟩
abbrev s_point_less : Stmt := topS 33
abbrev N_point_less : List Str := ["one", "other", "here", "there"]
theorem sc_point_less : FnScope N_point_less ["one", "other"] (defScope s_point_less) := ⟨rfl, rfl, rfl, by decide +kernel, rfl, by decide +kernel, by decide +kernel⟩
abbrev s_point_dot : Stmt := topS 34
abbrev N_point_dot : List Str := ["point", "triple", "found", "here", "there"]
theorem sc_point_dot : FnScope N_point_dot ["point", "triple"] (defScope s_point_dot) := ⟨rfl, rfl, rfl, by decide +kernel, rfl, by decide +kernel, by decide +kernel⟩
abbrev s_meeting_of : Stmt := topS 35
abbrev N_meeting_of : List Str := ["plate", "point", "direction", "corner", "side", "other", "bottom", "gap", "s", "t"]
theorem sc_meeting_of : FnScope N_meeting_of ["plate", "point", "direction"] (defScope s_meeting_of) := ⟨rfl, rfl, rfl, by decide +kernel, rfl, by decide +kernel, by decide +kernel⟩
abbrev s_direction_at : Stmt := topS 37
abbrev N_direction_at : List Str := ["sun", "hour", "told", "direction"]
theorem sc_direction_at : FnScope N_direction_at ["sun", "hour"] (defScope s_direction_at) := ⟨rfl, rfl, rfl, by decide +kernel, rfl, by decide +kernel, by decide +kernel⟩
abbrev s_is_up : Stmt := topS 38
abbrev N_is_up : List Str := ["sun", "hour"]
theorem sc_is_up : FnScope N_is_up ["sun", "hour"] (defScope s_is_up) := ⟨rfl, rfl, rfl, by decide +kernel, rfl, by decide +kernel, by decide +kernel⟩
abbrev s_corners_of : Stmt := topS 42
abbrev N_corners_of : List Str := ["plate", "corner", "side", "other", "far"]
theorem sc_corners_of : FnScope N_corners_of ["plate"] (defScope s_corners_of) := ⟨rfl, rfl, rfl, by decide +kernel, rfl, by decide +kernel, by decide +kernel⟩
abbrev s_as_point : Stmt := topS 43
abbrev N_as_point : List Str := ["triple", "number"]
theorem sc_as_point : FnScope N_as_point ["triple"] (defScope s_as_point) := ⟨rfl, rfl, rfl, by decide +kernel, rfl, by decide +kernel, by decide +kernel⟩
abbrev s_shaded_by : Stmt := topS 44
abbrev N_shaded_by : List Str := ["plate", "other", "direction", "front", "corners", "heights", "ahead", "corner", "height", "point"]
theorem sc_shaded_by : FnScope N_shaded_by ["plate", "other", "direction"] (defScope s_shaded_by) := ⟨rfl, rfl, rfl, by decide +kernel, rfl, by decide +kernel, by decide +kernel⟩
abbrev s_left_of : Stmt := topS 45
abbrev N_left_of : List Str := ["part", "parts"]
theorem sc_left_of : FnScope N_left_of ["part", "parts"] (defScope s_left_of) := ⟨rfl, rfl, rfl, by decide +kernel, rfl, by decide +kernel, by decide +kernel⟩
abbrev s_lit_share : Stmt := topS 46
abbrev N_lit_share : List Str := ["yard", "hour", "name", "sun", "walls", "dials", "direction", "plates", "plate", "others", "parts", "one", "part"]
theorem sc_lit_share : FnScope N_lit_share ["yard", "hour", "name"] (defScope s_lit_share) := ⟨rfl, rfl, rfl, by decide +kernel, rfl, by decide +kernel, by decide +kernel⟩
abbrev s__law_cell_at : Stmt := topS 48
abbrev N__law_cell_at : List Str := ["_law_script", "_law_k"]
theorem sc__law_cell_at : FnScope N__law_cell_at ["_law_script", "_law_k"] (defScope s__law_cell_at) := ⟨rfl, rfl, rfl, by decide +kernel, rfl, by decide +kernel, by decide +kernel⟩
abbrev s__law_draw : Stmt := topS 49
abbrev N__law_draw : List Str := ["_law_cell", "_law_k", "_law_many", "_law_left_here", "_law_j", "_law_number_here"]
theorem sc__law_draw : FnScope N__law_draw ["_law_cell", "_law_k", "_law_many"] (defScope s__law_draw) := ⟨rfl, rfl, rfl, by decide +kernel, rfl, by decide +kernel, by decide +kernel⟩
abbrev s__law_low : Stmt := topS 50
abbrev N__law_low : List Str := ["_law_top", "_law_bottom", "_law_one", "_law_other"]
theorem sc__law_low : FnScope N__law_low ["_law_top", "_law_bottom"] (defScope s__law_low) := ⟨rfl, rfl, rfl, by decide +kernel, rfl, by decide +kernel, by decide +kernel⟩
abbrev s__law_add : Stmt := topS 51
abbrev N__law_add : List Str := ["_law_one", "_law_other"]
theorem sc__law_add : FnScope N__law_add ["_law_one", "_law_other"] (defScope s__law_add) := ⟨rfl, rfl, rfl, by decide +kernel, rfl, by decide +kernel, by decide +kernel⟩
abbrev s__law_under : Stmt := topS 54
abbrev N__law_under : List Str := ["_law_one", "_law_other"]
theorem sc__law_under : FnScope N__law_under ["_law_one", "_law_other"] (defScope s__law_under) := ⟨rfl, rfl, rfl, by decide +kernel, rfl, by decide +kernel, by decide +kernel⟩
abbrev s__law_number : Stmt := topS 55
abbrev N__law_number : List Str := ["_law_cell", "_law_k", "_law_kind"]
theorem sc__law_number : FnScope N__law_number ["_law_cell", "_law_k"] (defScope s__law_number) := ⟨rfl, rfl, rfl, by decide +kernel, rfl, by decide +kernel, by decide +kernel⟩
abbrev s__law_triple : Stmt := topS 56
abbrev N__law_triple : List Str := ["_law_cell", "_law_k"]
theorem sc__law_triple : FnScope N__law_triple ["_law_cell", "_law_k"] (defScope s__law_triple) := ⟨rfl, rfl, rfl, by decide +kernel, rfl, by decide +kernel, by decide +kernel⟩
abbrev s__law_cross : Stmt := topS 57
abbrev N__law_cross : List Str := ["_law_one", "_law_other", "_law_a", "_law_b", "_law_c", "_law_d", "_law_e", "_law_f"]
theorem sc__law_cross : FnScope N__law_cross ["_law_one", "_law_other"] (defScope s__law_cross) := ⟨rfl, rfl, rfl, by decide +kernel, rfl, by decide +kernel, by decide +kernel⟩
abbrev s__law_dot : Stmt := topS 58
abbrev N__law_dot : List Str := ["_law_one", "_law_other"]
theorem sc__law_dot : FnScope N__law_dot ["_law_one", "_law_other"] (defScope s__law_dot) := ⟨rfl, rfl, rfl, by decide +kernel, rfl, by decide +kernel, by decide +kernel⟩
abbrev s__law_plate : Stmt := topS 59
abbrev N__law_plate : List Str := ["_law_cell", "_law_k", "_law_side", "_law_other", "_law_unit"]
theorem sc__law_plate : FnScope N__law_plate ["_law_cell", "_law_k"] (defScope s__law_plate) := ⟨rfl, rfl, rfl, by decide +kernel, rfl, by decide +kernel, by decide +kernel⟩
abbrev s__law_ahead : Stmt := topS 60
abbrev N__law_ahead : List Str := ["_law_front", "_law_found", "_law_unit", "_law_sign", "_law_one", "_law_more"]
theorem sc__law_ahead : FnScope N__law_ahead ["_law_front", "_law_found"] (defScope s__law_ahead) := ⟨rfl, rfl, rfl, by decide +kernel, rfl, by decide +kernel, by decide +kernel⟩
abbrev s__law_sum : Stmt := topS 61
abbrev N__law_sum : List Str := ["_law_one", "_law_other", "_law_many", "_law_a", "_law_b"]
theorem sc__law_sum : FnScope N__law_sum ["_law_one", "_law_other", "_law_many"] (defScope s__law_sum) := ⟨rfl, rfl, rfl, by decide +kernel, rfl, by decide +kernel, by decide +kernel⟩
abbrev s__law_far : Stmt := topS 62
abbrev N__law_far : List Str := ["_law_triples", "_law_triple_here"]
theorem sc__law_far : FnScope N__law_far ["_law_triples"] (defScope s__law_far) := ⟨rfl, rfl, rfl, by decide +kernel, rfl, by decide +kernel, by decide +kernel⟩
abbrev s__law_about : Stmt := topS 63
abbrev N__law_about : List Str := ["_law_plate_here", "_law_direction", "_law_cell", "_law_corner", "_law_made", "_law_side", "_law_other"]
theorem sc__law_about : FnScope N__law_about ["_law_plate_here", "_law_direction", "_law_cell"] (defScope s__law_about) := ⟨rfl, rfl, rfl, by decide +kernel, rfl, by decide +kernel, by decide +kernel⟩
abbrev s__law_tip : Stmt := topS 64
abbrev N__law_tip : List Str := ["_law_plate_here", "_law_cell", "_law_front", "_law_near", "_law_tip_here", "_law_k"]
theorem sc__law_tip : FnScope N__law_tip ["_law_plate_here", "_law_cell"] (defScope s__law_tip) := ⟨rfl, rfl, rfl, by decide +kernel, rfl, by decide +kernel, by decide +kernel⟩
abbrev s__law_left : Stmt := topS 65
abbrev N__law_left : List Str := ["_law_parts", "_law_found", "_law_some", "_law_part", "_law_more", "_law_many", "_law_inner", "_law_both", "_law_share"]
theorem sc__law_left : FnScope N__law_left ["_law_parts"] (defScope s__law_left) := ⟨rfl, rfl, rfl, by decide +kernel, rfl, by decide +kernel, by decide +kernel⟩
abbrev s__law_yard : Stmt := topS 66
abbrev N__law_yard : List Str := ["_law_sun", "_law_plates", "_law_tips", "_law_shuts", "_law_dials", "_law_k", "_law_name"]
theorem sc__law_yard : FnScope N__law_yard ["_law_sun", "_law_plates", "_law_tips"] (defScope s__law_yard) := ⟨rfl, rfl, rfl, by decide +kernel, rfl, by decide +kernel, by decide +kernel⟩
abbrev s__law_hour : Stmt := topS 67
abbrev N__law_hour : List Str := ["_law_sun", "_law_plates", "_law_tips", "_law_at", "_law_hour_here", "_law_direction", "_law_face", "_law_found", "_law_parts", "_law_k", "_law_fewer", "_law_plate_here"]
theorem sc__law_hour : FnScope N__law_hour ["_law_sun", "_law_plates", "_law_tips", "_law_at"] (defScope s__law_hour) := ⟨rfl, rfl, rfl, by decide +kernel, rfl, by decide +kernel, by decide +kernel⟩
abbrev s_law : Stmt := topS 68
abbrev N_law : List Str := ["_law_script", "_law_cell", "_law_face", "_law_tip_here", "_law_direction", "_law_plates", "_law_tips", "_law_k", "_law_one", "_law_sun", "_law_first"]
theorem sc_law : FnScope N_law ["_law_script"] (defScope s_law) := ⟨rfl, rfl, rfl, by decide +kernel, rfl, by decide +kernel, by decide +kernel⟩
abbrev si_NoHour : Stmt := clsStmt (topS 3) 0
abbrev Ni_NoHour : List Str := ["self", "hour"]
theorem sci_NoHour : FnScope Ni_NoHour ["self", "hour"] (defScope si_NoHour) := ⟨rfl, rfl, rfl, by decide +kernel, rfl, by decide +kernel, by decide +kernel⟩
def blts : List Str := ["bool", "isinstance", "int", "abs", "len", "range", "zip", "tuple", "max", "list", "min"]
def gints : List (Str × Int) := [("MOST", 6)]
def gstrs : List (Str × Str) := []
structure Facts (K : PySem.W.Frag) (mg : Str → Option Value) : Prop where
  int : ∀ (i : Nat) (x : Str × Int), gints[i]? = some x → ∃ t, mg x.1 = some (.int x.2 t)
  str : ∀ (i : Nat) (x : Str × Str), gstrs[i]? = some x → ∃ t, mg x.1 = some (.str x.2 t)
  glo_YardError : mg "YardError" = some (.ref (He.ga K "YardError"))
  glo_NoNumber : mg "NoNumber" = some (.ref (He.ga K "NoNumber"))
  glo_NoHour : mg "NoHour" = some (.ref (He.ga K "NoHour"))
  glo_TooMany : mg "TooMany" = some (.ref (He.ga K "TooMany"))
  glo_NoName : mg "NoName" = some (.ref (He.ga K "NoName"))
  glo_NOUGHT : mg "NOUGHT" = some (.ref (He.ga K "NOUGHT"))
  glo_WHOLE : mg "WHOLE" = some (.ref (He.ga K "WHOLE"))
  exc_NoNumber : Dy.ExcC K mg "NoNumber"
  exc_TooMany : Dy.ExcC K mg "TooMany"
  exc_NoName : Dy.ExcC K mg "NoName"
  xf : ExF K mg xks xcs
  yr : YrC K (He.ga K "YardError")
  fx_NoHour : FxC K "NoHour" "hour"
  tup_NOUGHT : ∀ F, Rep K F (.tup [.int 0, .int 1]) (.ref (He.ga K "NOUGHT"))
  lst_WHOLE : ∀ F, Rep K F (.lst [.tup [.tup [.int 0, .int 1], .tup [.int 0, .int 1]], .tup [.tup [.int 1, .int 1], .tup [.int 0, .int 1]], .tup [.tup [.int 1, .int 1], .tup [.int 1, .int 1]], .tup [.tup [.int 0, .int 1], .tup [.int 1, .int 1]]]) (.ref (He.ga K "WHOLE"))
/-! ### the defs do so -/
section
variable {P : Program} {w : World} {K : PySem.W.Frag} {mg : Str → Option Value} {base : Heap} {f : Addr} {fd : FuncData}
theorem init_NoHour (M : Facts K mg) (Fn : FunD K "__init__" "NoHour.__init__" (defArgs si_NoHour) (defBody si_NoHour) (defScope si_NoHour) [] [] f fd) : FnOk P w K mg base (L2.CX P w) 1 f fd ["self", "hour"] (spI K "hour") :=
  init_ok (N := Ni_NoHour) Fn sci_NoHour fun cdv A outer s H E => init_body rfl M.glo_YardError M.yr rfl rfl (Or.inl rfl) (Or.inl rfl) (by decide) (by decide) (by decide) rfl rfl rfl rfl rfl rfl
theorem ok_is_whole (B : Blts mg blts) (M : Facts K mg)  (Fn : FunD K "is_whole" "is_whole" (defArgs s_is_whole) (defBody s_is_whole) (defScope s_is_whole) [] [] f fd) : FnOk P w K mg base (L2.CX P w) 1 f fd ["thing"] (spD K 1 f_is_whole) :=
  have nd := (sc_is_whole).nd
  ok_def (N := N_is_whole) Fn sc_is_whole rfl fun cdv A outer s H E hr tk hp =>
    sss_one (ss_ret (se_and (se_blt d_isi (B.at 1) (sa_cons (se_var 0) (sa_cons (se_ty (B.at 2)) (sa_nil)))) (se_one (se_not (se_blt d_isi (B.at 1) (sa_cons (se_var 0) (sa_cons (se_ty (B.at 0)) (sa_nil))))))))
theorem cal_is_whole (B : Blts mg blts) (M : Facts K mg)  (Fn : FunD K "is_whole" "is_whole" (defArgs s_is_whole) (defBody s_is_whole) (defScope s_is_whole) [] [] f fd) (hm : mg "is_whole" = some (.ref f)) : Cal P w K mg base "is_whole" 1 1 f_is_whole :=
  cal_mk (N := N_is_whole) (ps := ["thing"]) Fn hm (fun _ _ _ _ _ _ us hl => match us, hl with | [_], _ => rfl) (ok_is_whole B M  Fn)
theorem ok_divisor_of (B : Blts mg blts) (M : Facts K mg)  (Fn : FunD K "divisor_of" "divisor_of" (defArgs s_divisor_of) (defBody s_divisor_of) (defScope s_divisor_of) [] [] f fd) : FnOk P w K mg base (L2.CX P w) 1 f fd ["one", "other"] (spD K 2 f_divisor_of) :=
  have nd := (sc_divisor_of).nd
  ok_def (N := N_divisor_of) Fn sc_divisor_of rfl fun cdv A outer s H E hr tk hp =>
    sss_cons (ss_while hp (st_cmp (d_ne hr.units) (se_var 1) (se_int) (nomark _)) (sss_one (ss_par rfl nd (sa_cons (se_var 1) (sa_cons (se_op d_mod (se_var 0) (se_var 1)) (sa_nil))))))
    (sss_one (ss_ret (se_blt d_abs (B.at 3) (sa_cons (se_var 0) (sa_nil)))))
theorem cal_divisor_of (B : Blts mg blts) (M : Facts K mg)  (Fn : FunD K "divisor_of" "divisor_of" (defArgs s_divisor_of) (defBody s_divisor_of) (defScope s_divisor_of) [] [] f fd) (hm : mg "divisor_of" = some (.ref f)) : Cal P w K mg base "divisor_of" 1 2 f_divisor_of :=
  cal_mk (N := N_divisor_of) (ps := ["one", "other"]) Fn hm (fun _ _ _ _ _ _ us hl => match us, hl with | [_, _], _ => rfl) (ok_divisor_of B M  Fn)
theorem ok_ratio_of (B : Blts mg blts) (M : Facts K mg) (C_is_whole : Cal P w K mg base "is_whole" 1 1 f_is_whole) (C_divisor_of : Cal P w K mg base "divisor_of" 1 2 f_divisor_of) (Fn : FunD K "ratio_of" "ratio_of" (defArgs s_ratio_of) (defBody s_ratio_of) (defScope s_ratio_of) [] [] f fd) : FnOk P w K mg base (L2.CX P w) 2 f fd ["top", "bottom"] (spD K 2 f_ratio_of) :=
  have nd := (sc_ratio_of).nd
  ok_def (N := N_ratio_of) Fn sc_ratio_of rfl fun cdv A outer s H E hr tk hp =>
    sss_cons (ss_if (st_bool (sw_or (st_not (st_val (se_callC C_is_whole tk (hr.mono (by decide)) (sa_cons (se_var 0) (sa_nil))))) (sw_or (st_not (st_val (se_callC C_is_whole tk (hr.mono (by decide)) (sa_cons (se_var 1) (sa_nil))))) (sw_or1 (st_cmp (d_eq hr.units) (se_var 1) (se_int) (nomark _)))))) (sss_one (ss_raise0 M.exc_NoNumber rfl tk)) (sss_nil))
    (sss_cons (ss_set nd (se_callC C_divisor_of tk (hr.mono (by decide)) (sa_cons (se_var 0) (sa_cons (se_var 1) (sa_nil)))))
    (sss_cons (ss_if (st_cmp (d_lt) (se_var 1) (se_int) (nomark _)) (sss_one (ss_set nd (se_un d_neg (se_var 2)))) (sss_nil))
    (sss_one (ss_ret (se_tup (sa_cons (se_op d_div (se_var 0) (se_var 2)) (sa_cons (se_op d_div (se_var 1) (se_var 2)) (sa_nil))))))))
theorem cal_ratio_of (B : Blts mg blts) (M : Facts K mg) (C_is_whole : Cal P w K mg base "is_whole" 1 1 f_is_whole) (C_divisor_of : Cal P w K mg base "divisor_of" 1 2 f_divisor_of) (Fn : FunD K "ratio_of" "ratio_of" (defArgs s_ratio_of) (defBody s_ratio_of) (defScope s_ratio_of) [] [] f fd) (hm : mg "ratio_of" = some (.ref f)) : Cal P w K mg base "ratio_of" 2 2 f_ratio_of :=
  cal_mk (N := N_ratio_of) (ps := ["top", "bottom"]) Fn hm (fun _ _ _ _ _ _ us hl => match us, hl with | [_, _], _ => rfl) (ok_ratio_of B M C_is_whole C_divisor_of Fn)
theorem ok_ratio_sum (B : Blts mg blts) (M : Facts K mg) (C_ratio_of : Cal P w K mg base "ratio_of" 2 2 f_ratio_of) (Fn : FunD K "ratio_sum" "ratio_sum" (defArgs s_ratio_sum) (defBody s_ratio_sum) (defScope s_ratio_sum) [] [] f fd) : FnOk P w K mg base (L2.CX P w) 3 f fd ["one", "other"] (spD K 2 f_ratio_sum) :=
  have nd := (sc_ratio_sum).nd
  ok_def (N := N_ratio_sum) Fn sc_ratio_sum rfl fun cdv A outer s H E hr tk hp =>
    sss_one (ss_ret (se_callC C_ratio_of tk (hr.mono (by decide)) (sa_cons (se_op d_add (se_op d_mul (se_ix d_ix (se_var 0) (se_int)) (se_ix d_ix (se_var 1) (se_int))) (se_op d_mul (se_ix d_ix (se_var 1) (se_int)) (se_ix d_ix (se_var 0) (se_int)))) (sa_cons (se_op d_mul (se_ix d_ix (se_var 0) (se_int)) (se_ix d_ix (se_var 1) (se_int))) (sa_nil)))))
theorem cal_ratio_sum (B : Blts mg blts) (M : Facts K mg) (C_ratio_of : Cal P w K mg base "ratio_of" 2 2 f_ratio_of) (Fn : FunD K "ratio_sum" "ratio_sum" (defArgs s_ratio_sum) (defBody s_ratio_sum) (defScope s_ratio_sum) [] [] f fd) (hm : mg "ratio_sum" = some (.ref f)) : Cal P w K mg base "ratio_sum" 3 2 f_ratio_sum :=
  cal_mk (N := N_ratio_sum) (ps := ["one", "other"]) Fn hm (fun _ _ _ _ _ _ us hl => match us, hl with | [_, _], _ => rfl) (ok_ratio_sum B M C_ratio_of Fn)
theorem ok_ratio_less (B : Blts mg blts) (M : Facts K mg) (C_ratio_of : Cal P w K mg base "ratio_of" 2 2 f_ratio_of) (Fn : FunD K "ratio_less" "ratio_less" (defArgs s_ratio_less) (defBody s_ratio_less) (defScope s_ratio_less) [] [] f fd) : FnOk P w K mg base (L2.CX P w) 3 f fd ["one", "other"] (spD K 2 f_ratio_less) :=
  have nd := (sc_ratio_less).nd
  ok_def (N := N_ratio_less) Fn sc_ratio_less rfl fun cdv A outer s H E hr tk hp =>
    sss_one (ss_ret (se_callC C_ratio_of tk (hr.mono (by decide)) (sa_cons (se_op d_sub (se_op d_mul (se_ix d_ix (se_var 0) (se_int)) (se_ix d_ix (se_var 1) (se_int))) (se_op d_mul (se_ix d_ix (se_var 1) (se_int)) (se_ix d_ix (se_var 0) (se_int)))) (sa_cons (se_op d_mul (se_ix d_ix (se_var 0) (se_int)) (se_ix d_ix (se_var 1) (se_int))) (sa_nil)))))
theorem cal_ratio_less (B : Blts mg blts) (M : Facts K mg) (C_ratio_of : Cal P w K mg base "ratio_of" 2 2 f_ratio_of) (Fn : FunD K "ratio_less" "ratio_less" (defArgs s_ratio_less) (defBody s_ratio_less) (defScope s_ratio_less) [] [] f fd) (hm : mg "ratio_less" = some (.ref f)) : Cal P w K mg base "ratio_less" 3 2 f_ratio_less :=
  cal_mk (N := N_ratio_less) (ps := ["one", "other"]) Fn hm (fun _ _ _ _ _ _ us hl => match us, hl with | [_, _], _ => rfl) (ok_ratio_less B M C_ratio_of Fn)
theorem ok_ratio_times (B : Blts mg blts) (M : Facts K mg) (C_ratio_of : Cal P w K mg base "ratio_of" 2 2 f_ratio_of) (Fn : FunD K "ratio_times" "ratio_times" (defArgs s_ratio_times) (defBody s_ratio_times) (defScope s_ratio_times) [] [] f fd) : FnOk P w K mg base (L2.CX P w) 3 f fd ["one", "other"] (spD K 2 f_ratio_times) :=
  have nd := (sc_ratio_times).nd
  ok_def (N := N_ratio_times) Fn sc_ratio_times rfl fun cdv A outer s H E hr tk hp =>
    sss_one (ss_ret (se_callC C_ratio_of tk (hr.mono (by decide)) (sa_cons (se_op d_mul (se_ix d_ix (se_var 0) (se_int)) (se_ix d_ix (se_var 1) (se_int))) (sa_cons (se_op d_mul (se_ix d_ix (se_var 0) (se_int)) (se_ix d_ix (se_var 1) (se_int))) (sa_nil)))))
theorem cal_ratio_times (B : Blts mg blts) (M : Facts K mg) (C_ratio_of : Cal P w K mg base "ratio_of" 2 2 f_ratio_of) (Fn : FunD K "ratio_times" "ratio_times" (defArgs s_ratio_times) (defBody s_ratio_times) (defScope s_ratio_times) [] [] f fd) (hm : mg "ratio_times" = some (.ref f)) : Cal P w K mg base "ratio_times" 3 2 f_ratio_times :=
  cal_mk (N := N_ratio_times) (ps := ["one", "other"]) Fn hm (fun _ _ _ _ _ _ us hl => match us, hl with | [_, _], _ => rfl) (ok_ratio_times B M C_ratio_of Fn)
theorem ok_ratio_by (B : Blts mg blts) (M : Facts K mg) (C_ratio_of : Cal P w K mg base "ratio_of" 2 2 f_ratio_of) (Fn : FunD K "ratio_by" "ratio_by" (defArgs s_ratio_by) (defBody s_ratio_by) (defScope s_ratio_by) [] [] f fd) : FnOk P w K mg base (L2.CX P w) 3 f fd ["one", "other"] (spD K 2 f_ratio_by) :=
  have nd := (sc_ratio_by).nd
  ok_def (N := N_ratio_by) Fn sc_ratio_by rfl fun cdv A outer s H E hr tk hp =>
    sss_one (ss_ret (se_callC C_ratio_of tk (hr.mono (by decide)) (sa_cons (se_op d_mul (se_ix d_ix (se_var 0) (se_int)) (se_ix d_ix (se_var 1) (se_int))) (sa_cons (se_op d_mul (se_ix d_ix (se_var 0) (se_int)) (se_ix d_ix (se_var 1) (se_int))) (sa_nil)))))
theorem cal_ratio_by (B : Blts mg blts) (M : Facts K mg) (C_ratio_of : Cal P w K mg base "ratio_of" 2 2 f_ratio_of) (Fn : FunD K "ratio_by" "ratio_by" (defArgs s_ratio_by) (defBody s_ratio_by) (defScope s_ratio_by) [] [] f fd) (hm : mg "ratio_by" = some (.ref f)) : Cal P w K mg base "ratio_by" 3 2 f_ratio_by :=
  cal_mk (N := N_ratio_by) (ps := ["one", "other"]) Fn hm (fun _ _ _ _ _ _ us hl => match us, hl with | [_, _], _ => rfl) (ok_ratio_by B M C_ratio_of Fn)
theorem ok_is_under (B : Blts mg blts) (M : Facts K mg)  (Fn : FunD K "is_under" "is_under" (defArgs s_is_under) (defBody s_is_under) (defScope s_is_under) [] [] f fd) : FnOk P w K mg base (L2.CX P w) 1 f fd ["one", "other"] (spD K 2 f_is_under) :=
  have nd := (sc_is_under).nd
  ok_def (N := N_is_under) Fn sc_is_under rfl fun cdv A outer s H E hr tk hp =>
    sss_one (ss_ret (se_cmp (d_lt) (se_op d_mul (se_ix d_ix (se_var 0) (se_int)) (se_ix d_ix (se_var 1) (se_int))) (se_op d_mul (se_ix d_ix (se_var 1) (se_int)) (se_ix d_ix (se_var 0) (se_int))) (nomark _)))
theorem cal_is_under (B : Blts mg blts) (M : Facts K mg)  (Fn : FunD K "is_under" "is_under" (defArgs s_is_under) (defBody s_is_under) (defScope s_is_under) [] [] f fd) (hm : mg "is_under" = some (.ref f)) : Cal P w K mg base "is_under" 1 2 f_is_under :=
  cal_mk (N := N_is_under) (ps := ["one", "other"]) Fn hm (fun _ _ _ _ _ _ us hl => match us, hl with | [_, _], _ => rfl) (ok_is_under B M  Fn)
theorem ok_share_of (B : Blts mg blts) (M : Facts K mg) (C_ratio_sum : Cal P w K mg base "ratio_sum" 3 2 f_ratio_sum) (C_ratio_less : Cal P w K mg base "ratio_less" 3 2 f_ratio_less) (C_ratio_times : Cal P w K mg base "ratio_times" 3 2 f_ratio_times) (C_ratio_of : Cal P w K mg base "ratio_of" 2 2 f_ratio_of) (Fn : FunD K "share_of" "share_of" (defArgs s_share_of) (defBody s_share_of) (defScope s_share_of) [] [] f fd) : FnOk P w K mg base (L2.CX P w) 4 f fd ["part"] (spD K 1 f_share_of) :=
  have nd := (sc_share_of).nd
  ok_def (N := N_share_of) Fn sc_share_of rfl fun cdv A outer s H E hr tk hp =>
    sss_cons (ss_set nd (se_gref rfl M.glo_NOUGHT M.tup_NOUGHT))
    (sss_cons (ss_for hp rfl (si_range1 (B.at 5) (sa_cons (se_blt d_len (B.at 4) (sa_cons (se_var 0) (sa_nil))) (sa_nil))) (pg_name (i := 2) nd rfl (by first | exact Or.inl rfl | exact Or.inr rfl)) (tg_name 2) (sss_cons (ss_set nd (se_ix d_ix (se_var 0) (se_var 2)))
     (sss_cons (ss_set nd (se_ix d_ix (se_var 0) (se_op d_mod (se_op d_add (se_var 2) (se_int)) (se_blt d_len (B.at 4) (sa_cons (se_var 0) (sa_nil))))))
     (sss_one (ss_set nd (se_callC C_ratio_sum tk (hr.mono (by decide)) (sa_cons (se_var 1) (sa_cons (se_callC C_ratio_less tk (hr.mono (by decide)) (sa_cons (se_callC C_ratio_times tk (hr.mono (by decide)) (sa_cons (se_ix d_ix (se_var 3) (se_int)) (sa_cons (se_ix d_ix (se_var 4) (se_int)) (sa_nil)))) (sa_cons (se_callC C_ratio_times tk (hr.mono (by decide)) (sa_cons (se_ix d_ix (se_var 4) (se_int)) (sa_cons (se_ix d_ix (se_var 3) (se_int)) (sa_nil)))) (sa_nil)))) (sa_nil)))))))))
    (sss_one (ss_ret (se_callC C_ratio_times tk (hr.mono (by decide)) (sa_cons (se_callC C_ratio_of tk (hr.mono (by decide)) (sa_cons (se_int) (sa_cons (se_int) (sa_nil)))) (sa_cons (se_var 1) (sa_nil)))))))
theorem cal_share_of (B : Blts mg blts) (M : Facts K mg) (C_ratio_sum : Cal P w K mg base "ratio_sum" 3 2 f_ratio_sum) (C_ratio_less : Cal P w K mg base "ratio_less" 3 2 f_ratio_less) (C_ratio_times : Cal P w K mg base "ratio_times" 3 2 f_ratio_times) (C_ratio_of : Cal P w K mg base "ratio_of" 2 2 f_ratio_of) (Fn : FunD K "share_of" "share_of" (defArgs s_share_of) (defBody s_share_of) (defScope s_share_of) [] [] f fd) (hm : mg "share_of" = some (.ref f)) : Cal P w K mg base "share_of" 4 1 f_share_of :=
  cal_mk (N := N_share_of) (ps := ["part"]) Fn hm (fun _ _ _ _ _ _ us hl => match us, hl with | [_], _ => rfl) (ok_share_of B M C_ratio_sum C_ratio_less C_ratio_times C_ratio_of Fn)
theorem ok_turn_at (B : Blts mg blts) (M : Facts K mg) (C_ratio_times : Cal P w K mg base "ratio_times" 3 2 f_ratio_times) (C_ratio_less : Cal P w K mg base "ratio_less" 3 2 f_ratio_less) (Fn : FunD K "turn_at" "turn_at" (defArgs s_turn_at) (defBody s_turn_at) (defScope s_turn_at) [] [] f fd) : FnOk P w K mg base (L2.CX P w) 4 f fd ["one", "other", "place"] (spD K 3 f_turn_at) :=
  have nd := (sc_turn_at).nd
  ok_def (N := N_turn_at) Fn sc_turn_at rfl fun cdv A outer s H E hr tk hp =>
    sss_cons (ss_set nd (se_callC C_ratio_times tk (hr.mono (by decide)) (sa_cons (se_callC C_ratio_less tk (hr.mono (by decide)) (sa_cons (se_ix d_ix (se_var 1) (se_int)) (sa_cons (se_ix d_ix (se_var 0) (se_int)) (sa_nil)))) (sa_cons (se_callC C_ratio_less tk (hr.mono (by decide)) (sa_cons (se_ix d_ix (se_var 2) (se_int)) (sa_cons (se_ix d_ix (se_var 0) (se_int)) (sa_nil)))) (sa_nil)))))
    (sss_one (ss_ret (se_callC C_ratio_less tk (hr.mono (by decide)) (sa_cons (se_var 3) (sa_cons (se_callC C_ratio_times tk (hr.mono (by decide)) (sa_cons (se_callC C_ratio_less tk (hr.mono (by decide)) (sa_cons (se_ix d_ix (se_var 1) (se_int)) (sa_cons (se_ix d_ix (se_var 0) (se_int)) (sa_nil)))) (sa_cons (se_callC C_ratio_less tk (hr.mono (by decide)) (sa_cons (se_ix d_ix (se_var 2) (se_int)) (sa_cons (se_ix d_ix (se_var 0) (se_int)) (sa_nil)))) (sa_nil)))) (sa_nil))))))
theorem cal_turn_at (B : Blts mg blts) (M : Facts K mg) (C_ratio_times : Cal P w K mg base "ratio_times" 3 2 f_ratio_times) (C_ratio_less : Cal P w K mg base "ratio_less" 3 2 f_ratio_less) (Fn : FunD K "turn_at" "turn_at" (defArgs s_turn_at) (defBody s_turn_at) (defScope s_turn_at) [] [] f fd) (hm : mg "turn_at" = some (.ref f)) : Cal P w K mg base "turn_at" 4 3 f_turn_at :=
  cal_mk (N := N_turn_at) (ps := ["one", "other", "place"]) Fn hm (fun _ _ _ _ _ _ us hl => match us, hl with | [_, _, _], _ => rfl) (ok_turn_at B M C_ratio_times C_ratio_less Fn)
theorem ok_between (B : Blts mg blts) (M : Facts K mg) (C_ratio_by : Cal P w K mg base "ratio_by" 3 2 f_ratio_by) (C_ratio_less : Cal P w K mg base "ratio_less" 3 2 f_ratio_less) (C_ratio_sum : Cal P w K mg base "ratio_sum" 3 2 f_ratio_sum) (C_ratio_times : Cal P w K mg base "ratio_times" 3 2 f_ratio_times) (Fn : FunD K "between" "between" (defArgs s_between) (defBody s_between) (defScope s_between) [] [] f fd) : FnOk P w K mg base (L2.CX P w) 4 f fd ["one", "other", "here", "there"] (spD K 4 f_between) :=
  have nd := (sc_between).nd
  ok_def (N := N_between) Fn sc_between rfl fun cdv A outer s H E hr tk hp =>
    sss_cons (ss_set nd (se_callC C_ratio_by tk (hr.mono (by decide)) (sa_cons (se_var 2) (sa_cons (se_callC C_ratio_less tk (hr.mono (by decide)) (sa_cons (se_var 2) (sa_cons (se_var 3) (sa_nil)))) (sa_nil)))))
    (sss_one (ss_ret (se_bty d_tuple (B.at 7) (sa_cons (se_comp (own := [("a", 5), ("b", 6)]) rfl nd (blkOk_by (N := N_between) (sc := defScope s_between) (by decide +kernel)) (si_zip (B.at 6) (sa_cons (se_var 0) (sa_cons (se_var 1) (sa_nil)))) (tg_seq (tgs_cons (tg_name 5) (tgs_cons (tg_name 6) (tgs_nil)))) (fun _ _ _ _ _ => pg_seq rfl (pgs_cons (pg_name (i := 5) nd rfl (by first | exact Or.inl rfl | exact Or.inr rfl)) (pgs_cons (pg_name (i := 6) nd rfl (by first | exact Or.inl rfl | exact Or.inr rfl)) (pgs_nil)))) (fun _ _ _ _ _ => sif_nil) (fun _ _ _ _ _ => se_callC C_ratio_sum takes0 (hr.mono (by decide)) (sa_cons (se_var 5) (sa_cons (se_callC C_ratio_times takes0 (hr.mono (by decide)) (sa_cons (se_var 4) (sa_cons (se_callC C_ratio_less takes0 (hr.mono (by decide)) (sa_cons (se_var 6) (sa_cons (se_var 5) (sa_nil)))) (sa_nil)))) (sa_nil))))) (sa_nil)))))
theorem cal_between (B : Blts mg blts) (M : Facts K mg) (C_ratio_by : Cal P w K mg base "ratio_by" 3 2 f_ratio_by) (C_ratio_less : Cal P w K mg base "ratio_less" 3 2 f_ratio_less) (C_ratio_sum : Cal P w K mg base "ratio_sum" 3 2 f_ratio_sum) (C_ratio_times : Cal P w K mg base "ratio_times" 3 2 f_ratio_times) (Fn : FunD K "between" "between" (defArgs s_between) (defBody s_between) (defScope s_between) [] [] f fd) (hm : mg "between" = some (.ref f)) : Cal P w K mg base "between" 4 4 f_between :=
  cal_mk (N := N_between) (ps := ["one", "other", "here", "there"]) Fn hm (fun _ _ _ _ _ _ us hl => match us, hl with | [_, _, _, _], _ => rfl) (ok_between B M C_ratio_by C_ratio_less C_ratio_sum C_ratio_times Fn)
theorem ok_kept_side (B : Blts mg blts) (M : Facts K mg) (C_is_under : Cal P w K mg base "is_under" 1 2 f_is_under) (C_ratio_times : Cal P w K mg base "ratio_times" 3 2 f_ratio_times) (C_between : Cal P w K mg base "between" 4 4 f_between) (Fn : FunD K "kept_side" "kept_side" (defArgs s_kept_side) (defBody s_kept_side) (defScope s_kept_side) [] [] f fd) : FnOk P w K mg base (L2.CX P w) 5 f fd ["corners", "heights"] (spD K 2 f_kept_side) :=
  have nd := (sc_kept_side).nd
  ok_def (N := N_kept_side) Fn sc_kept_side rfl fun cdv A outer s H E hr tk hp =>
    sss_cons (ss_own nd (sa_nil))
    (sss_cons (ss_for hp rfl (si_range1 (B.at 5) (sa_cons (se_blt d_len (B.at 4) (sa_cons (se_var 0) (sa_nil))) (sa_nil))) (pg_name (i := 3) nd rfl (by first | exact Or.inl rfl | exact Or.inr rfl)) (tg_name 3) (sss_cons (ss_set nd (se_op d_mod (se_op d_add (se_var 3) (se_int)) (se_blt d_len (B.at 4) (sa_cons (se_var 0) (sa_nil)))))
     (sss_cons (ss_if (st_not (st_val (se_callC C_is_under tk (hr.mono (by decide)) (sa_cons (se_ix d_ix (se_var 1) (se_var 3)) (sa_cons (se_gref rfl M.glo_NOUGHT M.tup_NOUGHT) (sa_nil)))))) (sss_one (ss_app 2 (se_ix d_ix (se_var 0) (se_var 3)))) (sss_nil))
     (sss_one (ss_if (st_val (se_callC C_is_under tk (hr.mono (by decide)) (sa_cons (se_callC C_ratio_times tk (hr.mono (by decide)) (sa_cons (se_ix d_ix (se_var 1) (se_var 3)) (sa_cons (se_ix d_ix (se_var 1) (se_var 4)) (sa_nil)))) (sa_cons (se_gref rfl M.glo_NOUGHT M.tup_NOUGHT) (sa_nil))))) (sss_one (ss_app 2 (se_callC C_between tk (hr.mono (by decide)) (sa_cons (se_ix d_ix (se_var 0) (se_var 3)) (sa_cons (se_ix d_ix (se_var 0) (se_var 4)) (sa_cons (se_ix d_ix (se_var 1) (se_var 3)) (sa_cons (se_ix d_ix (se_var 1) (se_var 4)) (sa_nil)))))))) (sss_nil))))))
    (sss_one (ss_freeze 2 (ss_ret (se_var 2)))))
theorem cal_kept_side (B : Blts mg blts) (M : Facts K mg) (C_is_under : Cal P w K mg base "is_under" 1 2 f_is_under) (C_ratio_times : Cal P w K mg base "ratio_times" 3 2 f_ratio_times) (C_between : Cal P w K mg base "between" 4 4 f_between) (Fn : FunD K "kept_side" "kept_side" (defArgs s_kept_side) (defBody s_kept_side) (defScope s_kept_side) [] [] f fd) (hm : mg "kept_side" = some (.ref f)) : Cal P w K mg base "kept_side" 5 2 f_kept_side :=
  cal_mk (N := N_kept_side) (ps := ["corners", "heights"]) Fn hm (fun _ _ _ _ _ _ us hl => match us, hl with | [_, _], _ => rfl) (ok_kept_side B M C_is_under C_ratio_times C_between Fn)
theorem ok_is_before (B : Blts mg blts) (M : Facts K mg) (C_is_under : Cal P w K mg base "is_under" 1 2 f_is_under) (Fn : FunD K "is_before" "is_before" (defArgs s_is_before) (defBody s_is_before) (defScope s_is_before) [] [] f fd) : FnOk P w K mg base (L2.CX P w) 2 f fd ["one", "other"] (spD K 2 f_is_before) :=
  have nd := (sc_is_before).nd
  ok_def (N := N_is_before) Fn sc_is_before rfl fun cdv A outer s H E hr tk hp =>
    sss_cons (ss_if (st_cmp (d_ne hr.units) (se_ix d_ix (se_var 0) (se_int)) (se_ix d_ix (se_var 1) (se_int)) (nomark _)) (sss_one (ss_ret (se_callC C_is_under tk (hr.mono (by decide)) (sa_cons (se_ix d_ix (se_var 0) (se_int)) (sa_cons (se_ix d_ix (se_var 1) (se_int)) (sa_nil)))))) (sss_nil))
    (sss_one (ss_ret (se_callC C_is_under tk (hr.mono (by decide)) (sa_cons (se_ix d_ix (se_var 0) (se_int)) (sa_cons (se_ix d_ix (se_var 1) (se_int)) (sa_nil))))))
theorem cal_is_before (B : Blts mg blts) (M : Facts K mg) (C_is_under : Cal P w K mg base "is_under" 1 2 f_is_under) (Fn : FunD K "is_before" "is_before" (defArgs s_is_before) (defBody s_is_before) (defScope s_is_before) [] [] f fd) (hm : mg "is_before" = some (.ref f)) : Cal P w K mg base "is_before" 2 2 f_is_before :=
  cal_mk (N := N_is_before) (ps := ["one", "other"]) Fn hm (fun _ _ _ _ _ _ us hl => match us, hl with | [_, _], _ => rfl) (ok_is_before B M C_is_under Fn)
theorem ok_tidied_part (B : Blts mg blts) (M : Facts K mg) (C_turn_at : Cal P w K mg base "turn_at" 4 3 f_turn_at) (C_is_under : Cal P w K mg base "is_under" 1 2 f_is_under) (C_share_of : Cal P w K mg base "share_of" 4 1 f_share_of) (C_is_before : Cal P w K mg base "is_before" 2 2 f_is_before) (Fn : FunD K "tidied_part" "tidied_part" (defArgs s_tidied_part) (defBody s_tidied_part) (defScope s_tidied_part) [] [] f fd) : FnOk P w K mg base (L2.CX P w) 5 f fd ["corners"] (spD K 1 f_tidied_part) :=
  have nd := (sc_tidied_part).nd
  ok_def (N := N_tidied_part) Fn sc_tidied_part rfl fun cdv A outer s H E hr tk hp =>
    sss_cons (ss_setc (own := [("k", 4)]) rfl nd (sw_true rfl rfl rfl (by decide +kernel)) (blkOk_by (N := N_tidied_part) (sc := defScope s_tidied_part) (by decide +kernel)) (si_range1 (B.at 5) (sa_cons (se_blt d_len (B.at 4) (sa_cons (se_var 0) (sa_nil))) (sa_nil))) (tg_name 4) (fun _ _ _ _ _ => pg_name (i := 4) nd rfl (by first | exact Or.inl rfl | exact Or.inr rfl)) (fun _ _ _ _ _ => sif_one (st_bool (sw_or (st_cmp (d_ne hr.units) (se_ix d_ix (se_var 0) (se_var 4)) (se_ix d_ix (se_var 0) (se_op d_sub (se_var 4) (se_int))) (nomark _)) (sw_or1 (st_cmp (d_eq hr.units) (se_blt d_len (B.at 4) (sa_cons (se_var 0) (sa_nil))) (se_int) (nomark _)))))) (fun _ _ _ _ _ => se_ix d_ix (se_var 0) (se_var 4)))
    (sss_cons (ss_set nd (se_blt d_len (B.at 4) (sa_cons (se_var 1) (sa_nil))))
    (sss_cons (ss_own nd (sa_nil))
    (sss_cons (ss_for hp rfl (si_range1 (B.at 5) (sa_cons (se_var 2) (sa_nil))) (pg_name (i := 4) nd rfl (by first | exact Or.inl rfl | exact Or.inr rfl)) (tg_name 4) (sss_one (ss_if (st_cmp (d_ne hr.units) (se_callC C_turn_at tk (hr.mono (by decide)) (sa_cons (se_ix d_ix (se_var 1) (se_op d_sub (se_var 4) (se_int))) (sa_cons (se_ix d_ix (se_var 1) (se_var 4)) (sa_cons (se_ix d_ix (se_var 1) (se_op d_mod (se_op d_add (se_var 4) (se_int)) (se_var 2))) (sa_nil))))) (se_gref rfl M.glo_NOUGHT M.tup_NOUGHT) (nomark _)) (sss_one (ss_app 3 (se_ix d_ix (se_var 1) (se_var 4)))) (sss_nil))))
    (sss_cons (ss_freeze 3 (ss_if (st_cmp (d_lt) (se_blt d_len (B.at 4) (sa_cons (se_var 3) (sa_nil))) (se_int) (nomark _)) (sss_one (ss_ret (se_lst (sa_nil)))) (sss_nil)))
    (sss_cons (ss_freeze 3 (ss_if (st_val (se_callC C_is_under tk (hr.mono (by decide)) (sa_cons (se_callC C_share_of tk (hr.mono (by decide)) (sa_cons (se_var 3) (sa_nil))) (sa_cons (se_gref rfl M.glo_NOUGHT M.tup_NOUGHT) (sa_nil))))) (sss_one (ss_freeze 3 (ss_set nd (se_rev (se_var 3))))) (sss_nil)))
    (sss_cons (ss_set nd (se_int))
    (sss_cons (ss_freeze 3 (ss_for hp rfl (si_range2 (B.at 5) (sa_cons (se_int) (sa_cons (se_blt d_len (B.at 4) (sa_cons (se_var 3) (sa_nil))) (sa_nil)))) (pg_name (i := 4) nd rfl (by first | exact Or.inl rfl | exact Or.inr rfl)) (tg_name 4) (sss_one (ss_freeze 3 (ss_if (st_val (se_callC C_is_before tk (hr.mono (by decide)) (sa_cons (se_ix d_ix (se_var 3) (se_var 4)) (sa_cons (se_ix d_ix (se_var 3) (se_var 5)) (sa_nil))))) (sss_one (ss_set nd (se_var 4))) (sss_nil))))))
    (sss_one (ss_freeze 3 (ss_ret (se_op d_add (se_slice (se_var 3) (so_some (se_var 5)) (so_none)) (se_slice (se_var 3) (so_none) (so_some (se_var 5))))))))))))))
theorem cal_tidied_part (B : Blts mg blts) (M : Facts K mg) (C_turn_at : Cal P w K mg base "turn_at" 4 3 f_turn_at) (C_is_under : Cal P w K mg base "is_under" 1 2 f_is_under) (C_share_of : Cal P w K mg base "share_of" 4 1 f_share_of) (C_is_before : Cal P w K mg base "is_before" 2 2 f_is_before) (Fn : FunD K "tidied_part" "tidied_part" (defArgs s_tidied_part) (defBody s_tidied_part) (defScope s_tidied_part) [] [] f fd) (hm : mg "tidied_part" = some (.ref f)) : Cal P w K mg base "tidied_part" 5 1 f_tidied_part :=
  cal_mk (N := N_tidied_part) (ps := ["corners"]) Fn hm (fun _ _ _ _ _ _ us hl => match us, hl with | [_], _ => rfl) (ok_tidied_part B M C_turn_at C_is_under C_share_of C_is_before Fn)
theorem ok_both_of (B : Blts mg blts) (M : Facts K mg) (C_kept_side : Cal P w K mg base "kept_side" 5 2 f_kept_side) (C_turn_at : Cal P w K mg base "turn_at" 4 3 f_turn_at) (C_tidied_part : Cal P w K mg base "tidied_part" 5 1 f_tidied_part) (Fn : FunD K "both_of" "both_of" (defArgs s_both_of) (defBody s_both_of) (defScope s_both_of) [] [] f fd) : FnOk P w K mg base (L2.CX P w) 6 f fd ["one", "other"] (spD K 2 f_both_of) :=
  have nd := (sc_both_of).nd
  ok_def (N := N_both_of) Fn sc_both_of rfl fun cdv A outer s H E hr tk hp =>
    sss_cons (ss_if (st_bool (sw_or (st_cmp (d_eq hr.units) (se_var 0) (se_lst (sa_nil)) (nomark _)) (sw_or1 (st_cmp (d_eq hr.units) (se_var 1) (se_lst (sa_nil)) (nomark _))))) (sss_one (ss_ret (se_lst (sa_nil)))) (sss_nil))
    (sss_cons (ss_set nd (se_var 0))
    (sss_cons (ss_for hp rfl (si_range1 (B.at 5) (sa_cons (se_blt d_len (B.at 4) (sa_cons (se_var 1) (sa_nil))) (sa_nil))) (pg_name (i := 3) nd rfl (by first | exact Or.inl rfl | exact Or.inr rfl)) (tg_name 3) (sss_cons (ss_set nd (se_ix d_ix (se_var 1) (se_var 3)))
     (sss_cons (ss_set nd (se_ix d_ix (se_var 1) (se_op d_mod (se_op d_add (se_var 3) (se_int)) (se_blt d_len (B.at 4) (sa_cons (se_var 1) (sa_nil))))))
     (sss_one (ss_set nd (se_callC C_kept_side tk (hr.mono (by decide)) (sa_cons (se_var 2) (sa_cons (se_comp (own := [("place", 6)]) rfl nd (blkOk_by (N := N_both_of) (sc := defScope s_both_of) (by decide +kernel)) (si_any (se_var 2)) (tg_name 6) (fun _ _ _ _ _ => pg_name (i := 6) nd rfl (by first | exact Or.inl rfl | exact Or.inr rfl)) (fun _ _ _ _ _ => sif_nil) (fun _ _ _ _ _ => se_callC C_turn_at takes0 (hr.mono (by decide)) (sa_cons (se_var 4) (sa_cons (se_var 5) (sa_cons (se_var 6) (sa_nil)))))) (sa_nil)))))))))
    (sss_one (ss_ret (se_callC C_tidied_part tk (hr.mono (by decide)) (sa_cons (se_var 2) (sa_nil)))))))
theorem cal_both_of (B : Blts mg blts) (M : Facts K mg) (C_kept_side : Cal P w K mg base "kept_side" 5 2 f_kept_side) (C_turn_at : Cal P w K mg base "turn_at" 4 3 f_turn_at) (C_tidied_part : Cal P w K mg base "tidied_part" 5 1 f_tidied_part) (Fn : FunD K "both_of" "both_of" (defArgs s_both_of) (defBody s_both_of) (defScope s_both_of) [] [] f fd) (hm : mg "both_of" = some (.ref f)) : Cal P w K mg base "both_of" 6 2 f_both_of :=
  cal_mk (N := N_both_of) (ps := ["one", "other"]) Fn hm (fun _ _ _ _ _ _ us hl => match us, hl with | [_, _], _ => rfl) (ok_both_of B M C_kept_side C_turn_at C_tidied_part Fn)
theorem ok_triple_sum (B : Blts mg blts) (M : Facts K mg)  (Fn : FunD K "triple_sum" "triple_sum" (defArgs s_triple_sum) (defBody s_triple_sum) (defScope s_triple_sum) [] [] f fd) : FnOk P w K mg base (L2.CX P w) 1 f fd ["one", "other"] (spD K 2 f_triple_sum) :=
  have nd := (sc_triple_sum).nd
  ok_def (N := N_triple_sum) Fn sc_triple_sum rfl fun cdv A outer s H E hr tk hp =>
    sss_one (ss_ret (se_tup (sa_cons (se_op d_add (se_ix d_ix (se_var 0) (se_int)) (se_ix d_ix (se_var 1) (se_int))) (sa_cons (se_op d_add (se_ix d_ix (se_var 0) (se_int)) (se_ix d_ix (se_var 1) (se_int))) (sa_cons (se_op d_add (se_ix d_ix (se_var 0) (se_int)) (se_ix d_ix (se_var 1) (se_int))) (sa_nil))))))
theorem cal_triple_sum (B : Blts mg blts) (M : Facts K mg)  (Fn : FunD K "triple_sum" "triple_sum" (defArgs s_triple_sum) (defBody s_triple_sum) (defScope s_triple_sum) [] [] f fd) (hm : mg "triple_sum" = some (.ref f)) : Cal P w K mg base "triple_sum" 1 2 f_triple_sum :=
  cal_mk (N := N_triple_sum) (ps := ["one", "other"]) Fn hm (fun _ _ _ _ _ _ us hl => match us, hl with | [_, _], _ => rfl) (ok_triple_sum B M  Fn)
theorem ok_triple_less (B : Blts mg blts) (M : Facts K mg)  (Fn : FunD K "triple_less" "triple_less" (defArgs s_triple_less) (defBody s_triple_less) (defScope s_triple_less) [] [] f fd) : FnOk P w K mg base (L2.CX P w) 1 f fd ["one", "other"] (spD K 2 f_triple_less) :=
  have nd := (sc_triple_less).nd
  ok_def (N := N_triple_less) Fn sc_triple_less rfl fun cdv A outer s H E hr tk hp =>
    sss_one (ss_ret (se_tup (sa_cons (se_op d_sub (se_ix d_ix (se_var 0) (se_int)) (se_ix d_ix (se_var 1) (se_int))) (sa_cons (se_op d_sub (se_ix d_ix (se_var 0) (se_int)) (se_ix d_ix (se_var 1) (se_int))) (sa_cons (se_op d_sub (se_ix d_ix (se_var 0) (se_int)) (se_ix d_ix (se_var 1) (se_int))) (sa_nil))))))
theorem cal_triple_less (B : Blts mg blts) (M : Facts K mg)  (Fn : FunD K "triple_less" "triple_less" (defArgs s_triple_less) (defBody s_triple_less) (defScope s_triple_less) [] [] f fd) (hm : mg "triple_less" = some (.ref f)) : Cal P w K mg base "triple_less" 1 2 f_triple_less :=
  cal_mk (N := N_triple_less) (ps := ["one", "other"]) Fn hm (fun _ _ _ _ _ _ us hl => match us, hl with | [_, _], _ => rfl) (ok_triple_less B M  Fn)
theorem ok_dot_of (B : Blts mg blts) (M : Facts K mg)  (Fn : FunD K "dot_of" "dot_of" (defArgs s_dot_of) (defBody s_dot_of) (defScope s_dot_of) [] [] f fd) : FnOk P w K mg base (L2.CX P w) 1 f fd ["one", "other"] (spD K 2 f_dot_of) :=
  have nd := (sc_dot_of).nd
  ok_def (N := N_dot_of) Fn sc_dot_of rfl fun cdv A outer s H E hr tk hp =>
    sss_one (ss_ret (se_op d_add (se_op d_add (se_op d_mul (se_ix d_ix (se_var 0) (se_int)) (se_ix d_ix (se_var 1) (se_int))) (se_op d_mul (se_ix d_ix (se_var 0) (se_int)) (se_ix d_ix (se_var 1) (se_int)))) (se_op d_mul (se_ix d_ix (se_var 0) (se_int)) (se_ix d_ix (se_var 1) (se_int)))))
theorem cal_dot_of (B : Blts mg blts) (M : Facts K mg)  (Fn : FunD K "dot_of" "dot_of" (defArgs s_dot_of) (defBody s_dot_of) (defScope s_dot_of) [] [] f fd) (hm : mg "dot_of" = some (.ref f)) : Cal P w K mg base "dot_of" 1 2 f_dot_of :=
  cal_mk (N := N_dot_of) (ps := ["one", "other"]) Fn hm (fun _ _ _ _ _ _ us hl => match us, hl with | [_, _], _ => rfl) (ok_dot_of B M  Fn)
theorem ok_cross_of (B : Blts mg blts) (M : Facts K mg)  (Fn : FunD K "cross_of" "cross_of" (defArgs s_cross_of) (defBody s_cross_of) (defScope s_cross_of) [] [] f fd) : FnOk P w K mg base (L2.CX P w) 1 f fd ["one", "other"] (spD K 2 f_cross_of) :=
  have nd := (sc_cross_of).nd
  ok_def (N := N_cross_of) Fn sc_cross_of rfl fun cdv A outer s H E hr tk hp =>
    sss_cons (ss_asg (se_var 0) (pg_seq rfl (pgs_cons (pg_name (i := 2) nd rfl (by first | exact Or.inl rfl | exact Or.inr rfl)) (pgs_cons (pg_name (i := 3) nd rfl (by first | exact Or.inl rfl | exact Or.inr rfl)) (pgs_cons (pg_name (i := 4) nd rfl (by first | exact Or.inl rfl | exact Or.inr rfl)) (pgs_nil))))) (tg_seq (tgs_cons (tg_name 2) (tgs_cons (tg_name 3) (tgs_cons (tg_name 4) (tgs_nil))))))
    (sss_cons (ss_asg (se_var 1) (pg_seq rfl (pgs_cons (pg_name (i := 5) nd rfl (by first | exact Or.inl rfl | exact Or.inr rfl)) (pgs_cons (pg_name (i := 6) nd rfl (by first | exact Or.inl rfl | exact Or.inr rfl)) (pgs_cons (pg_name (i := 7) nd rfl (by first | exact Or.inl rfl | exact Or.inr rfl)) (pgs_nil))))) (tg_seq (tgs_cons (tg_name 5) (tgs_cons (tg_name 6) (tgs_cons (tg_name 7) (tgs_nil))))))
    (sss_one (ss_ret (se_tup (sa_cons (se_op d_sub (se_op d_mul (se_var 3) (se_var 7)) (se_op d_mul (se_var 4) (se_var 6))) (sa_cons (se_op d_sub (se_op d_mul (se_var 4) (se_var 5)) (se_op d_mul (se_var 2) (se_var 7))) (sa_cons (se_op d_sub (se_op d_mul (se_var 2) (se_var 6)) (se_op d_mul (se_var 3) (se_var 5))) (sa_nil))))))))
theorem cal_cross_of (B : Blts mg blts) (M : Facts K mg)  (Fn : FunD K "cross_of" "cross_of" (defArgs s_cross_of) (defBody s_cross_of) (defScope s_cross_of) [] [] f fd) (hm : mg "cross_of" = some (.ref f)) : Cal P w K mg base "cross_of" 1 2 f_cross_of :=
  cal_mk (N := N_cross_of) (ps := ["one", "other"]) Fn hm (fun _ _ _ _ _ _ us hl => match us, hl with | [_, _], _ => rfl) (ok_cross_of B M  Fn)
theorem ok_front_of (B : Blts mg blts) (M : Facts K mg) (C_cross_of : Cal P w K mg base "cross_of" 1 2 f_cross_of) (Fn : FunD K "front_of" "front_of" (defArgs s_front_of) (defBody s_front_of) (defScope s_front_of) [] [] f fd) : FnOk P w K mg base (L2.CX P w) 2 f fd ["plate"] (spD K 1 f_front_of) :=
  have nd := (sc_front_of).nd
  ok_def (N := N_front_of) Fn sc_front_of rfl fun cdv A outer s H E hr tk hp =>
    sss_one (ss_ret (se_callC C_cross_of tk (hr.mono (by decide)) (sa_cons (se_ix d_ix (se_var 0) (se_int)) (sa_cons (se_ix d_ix (se_var 0) (se_int)) (sa_nil)))))
theorem cal_front_of (B : Blts mg blts) (M : Facts K mg) (C_cross_of : Cal P w K mg base "cross_of" 1 2 f_cross_of) (Fn : FunD K "front_of" "front_of" (defArgs s_front_of) (defBody s_front_of) (defScope s_front_of) [] [] f fd) (hm : mg "front_of" = some (.ref f)) : Cal P w K mg base "front_of" 2 1 f_front_of :=
  cal_mk (N := N_front_of) (ps := ["plate"]) Fn hm (fun _ _ _ _ _ _ us hl => match us, hl with | [_], _ => rfl) (ok_front_of B M C_cross_of Fn)
theorem ok_comes_from_ahead (B : Blts mg blts) (M : Facts K mg) (C_dot_of : Cal P w K mg base "dot_of" 1 2 f_dot_of) (C_front_of : Cal P w K mg base "front_of" 2 1 f_front_of) (Fn : FunD K "comes_from_ahead" "comes_from_ahead" (defArgs s_comes_from_ahead) (defBody s_comes_from_ahead) (defScope s_comes_from_ahead) [] [] f fd) : FnOk P w K mg base (L2.CX P w) 3 f fd ["plate", "direction"] (spD K 2 f_comes_from_ahead) :=
  have nd := (sc_comes_from_ahead).nd
  ok_def (N := N_comes_from_ahead) Fn sc_comes_from_ahead rfl fun cdv A outer s H E hr tk hp =>
    sss_one (ss_ret (se_cmp (d_gt) (se_callC C_dot_of tk (hr.mono (by decide)) (sa_cons (se_callC C_front_of tk (hr.mono (by decide)) (sa_cons (se_var 0) (sa_nil))) (sa_cons (se_var 1) (sa_nil)))) (se_int) (nomark _)))
theorem cal_comes_from_ahead (B : Blts mg blts) (M : Facts K mg) (C_dot_of : Cal P w K mg base "dot_of" 1 2 f_dot_of) (C_front_of : Cal P w K mg base "front_of" 2 1 f_front_of) (Fn : FunD K "comes_from_ahead" "comes_from_ahead" (defArgs s_comes_from_ahead) (defBody s_comes_from_ahead) (defScope s_comes_from_ahead) [] [] f fd) (hm : mg "comes_from_ahead" = some (.ref f)) : Cal P w K mg base "comes_from_ahead" 3 2 f_comes_from_ahead :=
  cal_mk (N := N_comes_from_ahead) (ps := ["plate", "direction"]) Fn hm (fun _ _ _ _ _ _ us hl => match us, hl with | [_, _], _ => rfl) (ok_comes_from_ahead B M C_dot_of C_front_of Fn)
theorem ok_point_less (B : Blts mg blts) (M : Facts K mg) (C_ratio_less : Cal P w K mg base "ratio_less" 3 2 f_ratio_less) (Fn : FunD K "point_less" "point_less" (defArgs s_point_less) (defBody s_point_less) (defScope s_point_less) [] [] f fd) : FnOk P w K mg base (L2.CX P w) 4 f fd ["one", "other"] (spD K 2 f_point_less) :=
  have nd := (sc_point_less).nd
  ok_def (N := N_point_less) Fn sc_point_less rfl fun cdv A outer s H E hr tk hp =>
    sss_one (ss_ret (se_bty d_tuple (B.at 7) (sa_cons (se_comp (own := [("here", 2), ("there", 3)]) rfl nd (blkOk_by (N := N_point_less) (sc := defScope s_point_less) (by decide +kernel)) (si_zip (B.at 6) (sa_cons (se_var 0) (sa_cons (se_var 1) (sa_nil)))) (tg_seq (tgs_cons (tg_name 2) (tgs_cons (tg_name 3) (tgs_nil)))) (fun _ _ _ _ _ => pg_seq rfl (pgs_cons (pg_name (i := 2) nd rfl (by first | exact Or.inl rfl | exact Or.inr rfl)) (pgs_cons (pg_name (i := 3) nd rfl (by first | exact Or.inl rfl | exact Or.inr rfl)) (pgs_nil)))) (fun _ _ _ _ _ => sif_nil) (fun _ _ _ _ _ => se_callC C_ratio_less takes0 (hr.mono (by decide)) (sa_cons (se_var 2) (sa_cons (se_tup (sa_cons (se_var 3) (sa_cons (se_int) (sa_nil)))) (sa_nil))))) (sa_nil))))
theorem cal_point_less (B : Blts mg blts) (M : Facts K mg) (C_ratio_less : Cal P w K mg base "ratio_less" 3 2 f_ratio_less) (Fn : FunD K "point_less" "point_less" (defArgs s_point_less) (defBody s_point_less) (defScope s_point_less) [] [] f fd) (hm : mg "point_less" = some (.ref f)) : Cal P w K mg base "point_less" 4 2 f_point_less :=
  cal_mk (N := N_point_less) (ps := ["one", "other"]) Fn hm (fun _ _ _ _ _ _ us hl => match us, hl with | [_, _], _ => rfl) (ok_point_less B M C_ratio_less Fn)
theorem ok_point_dot (B : Blts mg blts) (M : Facts K mg) (C_ratio_sum : Cal P w K mg base "ratio_sum" 3 2 f_ratio_sum) (C_ratio_times : Cal P w K mg base "ratio_times" 3 2 f_ratio_times) (Fn : FunD K "point_dot" "point_dot" (defArgs s_point_dot) (defBody s_point_dot) (defScope s_point_dot) [] [] f fd) : FnOk P w K mg base (L2.CX P w) 4 f fd ["point", "triple"] (spD K 2 f_point_dot) :=
  have nd := (sc_point_dot).nd
  ok_def (N := N_point_dot) Fn sc_point_dot rfl fun cdv A outer s H E hr tk hp =>
    sss_cons (ss_set nd (se_tup (sa_cons (se_int) (sa_cons (se_int) (sa_nil)))))
    (sss_cons (ss_for hp rfl (si_zip (B.at 6) (sa_cons (se_var 0) (sa_cons (se_var 1) (sa_nil)))) (pg_seq rfl (pgs_cons (pg_name (i := 3) nd rfl (by first | exact Or.inl rfl | exact Or.inr rfl)) (pgs_cons (pg_name (i := 4) nd rfl (by first | exact Or.inl rfl | exact Or.inr rfl)) (pgs_nil)))) (tg_seq (tgs_cons (tg_name 3) (tgs_cons (tg_name 4) (tgs_nil)))) (sss_one (ss_set nd (se_callC C_ratio_sum tk (hr.mono (by decide)) (sa_cons (se_var 2) (sa_cons (se_callC C_ratio_times tk (hr.mono (by decide)) (sa_cons (se_var 3) (sa_cons (se_tup (sa_cons (se_var 4) (sa_cons (se_int) (sa_nil)))) (sa_nil)))) (sa_nil)))))))
    (sss_one (ss_ret (se_var 2))))
theorem cal_point_dot (B : Blts mg blts) (M : Facts K mg) (C_ratio_sum : Cal P w K mg base "ratio_sum" 3 2 f_ratio_sum) (C_ratio_times : Cal P w K mg base "ratio_times" 3 2 f_ratio_times) (Fn : FunD K "point_dot" "point_dot" (defArgs s_point_dot) (defBody s_point_dot) (defScope s_point_dot) [] [] f fd) (hm : mg "point_dot" = some (.ref f)) : Cal P w K mg base "point_dot" 4 2 f_point_dot :=
  cal_mk (N := N_point_dot) (ps := ["point", "triple"]) Fn hm (fun _ _ _ _ _ _ us hl => match us, hl with | [_, _], _ => rfl) (ok_point_dot B M C_ratio_sum C_ratio_times Fn)
theorem ok_meeting_of (B : Blts mg blts) (M : Facts K mg) (C_dot_of : Cal P w K mg base "dot_of" 1 2 f_dot_of) (C_front_of : Cal P w K mg base "front_of" 2 1 f_front_of) (C_point_less : Cal P w K mg base "point_less" 4 2 f_point_less) (C_ratio_by : Cal P w K mg base "ratio_by" 3 2 f_ratio_by) (C_point_dot : Cal P w K mg base "point_dot" 4 2 f_point_dot) (C_cross_of : Cal P w K mg base "cross_of" 1 2 f_cross_of) (Fn : FunD K "meeting_of" "meeting_of" (defArgs s_meeting_of) (defBody s_meeting_of) (defScope s_meeting_of) [] [] f fd) : FnOk P w K mg base (L2.CX P w) 5 f fd ["plate", "point", "direction"] (spD K 3 f_meeting_of) :=
  have nd := (sc_meeting_of).nd
  ok_def (N := N_meeting_of) Fn sc_meeting_of rfl fun cdv A outer s H E hr tk hp =>
    sss_cons (ss_asg (se_var 0) (pg_seq rfl (pgs_cons (pg_name (i := 3) nd rfl (by first | exact Or.inl rfl | exact Or.inr rfl)) (pgs_cons (pg_name (i := 4) nd rfl (by first | exact Or.inl rfl | exact Or.inr rfl)) (pgs_cons (pg_name (i := 5) nd rfl (by first | exact Or.inl rfl | exact Or.inr rfl)) (pgs_nil))))) (tg_seq (tgs_cons (tg_name 3) (tgs_cons (tg_name 4) (tgs_cons (tg_name 5) (tgs_nil))))))
    (sss_cons (ss_set nd (se_callC C_dot_of tk (hr.mono (by decide)) (sa_cons (se_callC C_front_of tk (hr.mono (by decide)) (sa_cons (se_var 0) (sa_nil))) (sa_cons (se_var 2) (sa_nil)))))
    (sss_cons (ss_if (st_cmp (d_eq hr.units) (se_var 6) (se_int) (nomark _)) (sss_one (ss_ret (se_non))) (sss_nil))
    (sss_cons (ss_set nd (se_callC C_point_less tk (hr.mono (by decide)) (sa_cons (se_var 1) (sa_cons (se_var 3) (sa_nil)))))
    (sss_cons (ss_set nd (se_callC C_ratio_by tk (hr.mono (by decide)) (sa_cons (se_callC C_point_dot tk (hr.mono (by decide)) (sa_cons (se_var 7) (sa_cons (se_callC C_cross_of tk (hr.mono (by decide)) (sa_cons (se_var 5) (sa_cons (se_var 2) (sa_nil)))) (sa_nil)))) (sa_cons (se_tup (sa_cons (se_var 6) (sa_cons (se_int) (sa_nil)))) (sa_nil)))))
    (sss_cons (ss_set nd (se_callC C_ratio_by tk (hr.mono (by decide)) (sa_cons (se_callC C_point_dot tk (hr.mono (by decide)) (sa_cons (se_var 7) (sa_cons (se_callC C_cross_of tk (hr.mono (by decide)) (sa_cons (se_var 2) (sa_cons (se_var 4) (sa_nil)))) (sa_nil)))) (sa_cons (se_tup (sa_cons (se_var 6) (sa_cons (se_int) (sa_nil)))) (sa_nil)))))
    (sss_one (ss_ret (se_tup (sa_cons (se_var 8) (sa_cons (se_var 9) (sa_nil)))))))))))
theorem cal_meeting_of (B : Blts mg blts) (M : Facts K mg) (C_dot_of : Cal P w K mg base "dot_of" 1 2 f_dot_of) (C_front_of : Cal P w K mg base "front_of" 2 1 f_front_of) (C_point_less : Cal P w K mg base "point_less" 4 2 f_point_less) (C_ratio_by : Cal P w K mg base "ratio_by" 3 2 f_ratio_by) (C_point_dot : Cal P w K mg base "point_dot" 4 2 f_point_dot) (C_cross_of : Cal P w K mg base "cross_of" 1 2 f_cross_of) (Fn : FunD K "meeting_of" "meeting_of" (defArgs s_meeting_of) (defBody s_meeting_of) (defScope s_meeting_of) [] [] f fd) (hm : mg "meeting_of" = some (.ref f)) : Cal P w K mg base "meeting_of" 5 3 f_meeting_of :=
  cal_mk (N := N_meeting_of) (ps := ["plate", "point", "direction"]) Fn hm (fun _ _ _ _ _ _ us hl => match us, hl with | [_, _, _], _ => rfl) (ok_meeting_of B M C_dot_of C_front_of C_point_less C_ratio_by C_point_dot C_cross_of Fn)
theorem ok_direction_at (B : Blts mg blts) (M : Facts K mg) (I_NoHour : InC P w K mg base "NoHour" "hour")  (Fn : FunD K "direction_at" "direction_at" (defArgs s_direction_at) (defBody s_direction_at) (defScope s_direction_at) [] [] f fd) : FnOk P w K mg base (L2.CX P w) 3 f fd ["sun", "hour"] (spD K 2 f_direction_at) :=
  have nd := (sc_direction_at).nd
  ok_def (N := N_direction_at) Fn sc_direction_at rfl fun cdv A outer s H E hr tk hp =>
    sss_cons (ss_for hp rfl (si_any (se_var 0)) (pg_seq rfl (pgs_cons (pg_name (i := 2) nd rfl (by first | exact Or.inl rfl | exact Or.inr rfl)) (pgs_cons (pg_name (i := 3) nd rfl (by first | exact Or.inl rfl | exact Or.inr rfl)) (pgs_nil)))) (tg_seq (tgs_cons (tg_name 2) (tgs_cons (tg_name 3) (tgs_nil)))) (sss_one (ss_if (st_cmp (d_eq hr.units) (se_var 2) (se_var 1) (nomark _)) (sss_one (ss_ret (se_var 3))) (sss_nil))))
    (sss_one (ss_raiseF I_NoHour rfl tk (hr.mono (by decide)) (sa_cons (se_var 1) (sa_nil))))
theorem cal_direction_at (B : Blts mg blts) (M : Facts K mg) (I_NoHour : InC P w K mg base "NoHour" "hour")  (Fn : FunD K "direction_at" "direction_at" (defArgs s_direction_at) (defBody s_direction_at) (defScope s_direction_at) [] [] f fd) (hm : mg "direction_at" = some (.ref f)) : Cal P w K mg base "direction_at" 3 2 f_direction_at :=
  cal_mk (N := N_direction_at) (ps := ["sun", "hour"]) Fn hm (fun _ _ _ _ _ _ us hl => match us, hl with | [_, _], _ => rfl) (ok_direction_at B M I_NoHour Fn)
theorem ok_is_up (B : Blts mg blts) (M : Facts K mg) (C_direction_at : Cal P w K mg base "direction_at" 3 2 f_direction_at) (Fn : FunD K "is_up" "is_up" (defArgs s_is_up) (defBody s_is_up) (defScope s_is_up) [] [] f fd) : FnOk P w K mg base (L2.CX P w) 4 f fd ["sun", "hour"] (spD K 2 f_is_up) :=
  have nd := (sc_is_up).nd
  ok_def (N := N_is_up) Fn sc_is_up rfl fun cdv A outer s H E hr tk hp =>
    sss_one (ss_ret (se_cmp (d_gt) (se_ix d_ix (se_callC C_direction_at tk (hr.mono (by decide)) (sa_cons (se_var 0) (sa_cons (se_var 1) (sa_nil)))) (se_int)) (se_int) (nomark _)))
theorem cal_is_up (B : Blts mg blts) (M : Facts K mg) (C_direction_at : Cal P w K mg base "direction_at" 3 2 f_direction_at) (Fn : FunD K "is_up" "is_up" (defArgs s_is_up) (defBody s_is_up) (defScope s_is_up) [] [] f fd) (hm : mg "is_up" = some (.ref f)) : Cal P w K mg base "is_up" 4 2 f_is_up :=
  cal_mk (N := N_is_up) (ps := ["sun", "hour"]) Fn hm (fun _ _ _ _ _ _ us hl => match us, hl with | [_, _], _ => rfl) (ok_is_up B M C_direction_at Fn)
theorem ok_corners_of (B : Blts mg blts) (M : Facts K mg) (C_triple_sum : Cal P w K mg base "triple_sum" 1 2 f_triple_sum) (Fn : FunD K "corners_of" "corners_of" (defArgs s_corners_of) (defBody s_corners_of) (defScope s_corners_of) [] [] f fd) : FnOk P w K mg base (L2.CX P w) 2 f fd ["plate"] (spD K 1 f_corners_of) :=
  have nd := (sc_corners_of).nd
  ok_def (N := N_corners_of) Fn sc_corners_of rfl fun cdv A outer s H E hr tk hp =>
    sss_cons (ss_asg (se_var 0) (pg_seq rfl (pgs_cons (pg_name (i := 1) nd rfl (by first | exact Or.inl rfl | exact Or.inr rfl)) (pgs_cons (pg_name (i := 2) nd rfl (by first | exact Or.inl rfl | exact Or.inr rfl)) (pgs_cons (pg_name (i := 3) nd rfl (by first | exact Or.inl rfl | exact Or.inr rfl)) (pgs_nil))))) (tg_seq (tgs_cons (tg_name 1) (tgs_cons (tg_name 2) (tgs_cons (tg_name 3) (tgs_nil))))))
    (sss_cons (ss_set nd (se_callC C_triple_sum tk (hr.mono (by decide)) (sa_cons (se_var 1) (sa_cons (se_var 2) (sa_nil)))))
    (sss_one (ss_ret (se_lst (sa_cons (se_var 1) (sa_cons (se_var 4) (sa_cons (se_callC C_triple_sum tk (hr.mono (by decide)) (sa_cons (se_var 4) (sa_cons (se_var 3) (sa_nil)))) (sa_cons (se_callC C_triple_sum tk (hr.mono (by decide)) (sa_cons (se_var 1) (sa_cons (se_var 3) (sa_nil)))) (sa_nil)))))))))
theorem cal_corners_of (B : Blts mg blts) (M : Facts K mg) (C_triple_sum : Cal P w K mg base "triple_sum" 1 2 f_triple_sum) (Fn : FunD K "corners_of" "corners_of" (defArgs s_corners_of) (defBody s_corners_of) (defScope s_corners_of) [] [] f fd) (hm : mg "corners_of" = some (.ref f)) : Cal P w K mg base "corners_of" 2 1 f_corners_of :=
  cal_mk (N := N_corners_of) (ps := ["plate"]) Fn hm (fun _ _ _ _ _ _ us hl => match us, hl with | [_], _ => rfl) (ok_corners_of B M C_triple_sum Fn)
theorem ok_as_point (B : Blts mg blts) (M : Facts K mg)  (Fn : FunD K "as_point" "as_point" (defArgs s_as_point) (defBody s_as_point) (defScope s_as_point) [] [] f fd) : FnOk P w K mg base (L2.CX P w) 1 f fd ["triple"] (spD K 1 f_as_point) :=
  have nd := (sc_as_point).nd
  ok_def (N := N_as_point) Fn sc_as_point rfl fun cdv A outer s H E hr tk hp =>
    sss_one (ss_ret (se_bty d_tuple (B.at 7) (sa_cons (se_comp (own := [("number", 1)]) rfl nd (blkOk_by (N := N_as_point) (sc := defScope s_as_point) (by decide +kernel)) (si_any (se_var 0)) (tg_name 1) (fun _ _ _ _ _ => pg_name (i := 1) nd rfl (by first | exact Or.inl rfl | exact Or.inr rfl)) (fun _ _ _ _ _ => sif_nil) (fun _ _ _ _ _ => se_tup (sa_cons (se_var 1) (sa_cons (se_int) (sa_nil))))) (sa_nil))))
theorem cal_as_point (B : Blts mg blts) (M : Facts K mg)  (Fn : FunD K "as_point" "as_point" (defArgs s_as_point) (defBody s_as_point) (defScope s_as_point) [] [] f fd) (hm : mg "as_point" = some (.ref f)) : Cal P w K mg base "as_point" 1 1 f_as_point :=
  cal_mk (N := N_as_point) (ps := ["triple"]) Fn hm (fun _ _ _ _ _ _ us hl => match us, hl with | [_], _ => rfl) (ok_as_point B M  Fn)
theorem ok_shaded_by (B : Blts mg blts) (M : Facts K mg) (C_front_of : Cal P w K mg base "front_of" 2 1 f_front_of) (C_corners_of : Cal P w K mg base "corners_of" 2 1 f_corners_of) (C_dot_of : Cal P w K mg base "dot_of" 1 2 f_dot_of) (C_triple_less : Cal P w K mg base "triple_less" 1 2 f_triple_less) (C_kept_side : Cal P w K mg base "kept_side" 5 2 f_kept_side) (C_as_point : Cal P w K mg base "as_point" 1 1 f_as_point) (C_both_of : Cal P w K mg base "both_of" 6 2 f_both_of) (C_tidied_part : Cal P w K mg base "tidied_part" 5 1 f_tidied_part) (C_meeting_of : Cal P w K mg base "meeting_of" 5 3 f_meeting_of) (Fn : FunD K "shaded_by" "shaded_by" (defArgs s_shaded_by) (defBody s_shaded_by) (defScope s_shaded_by) [] [] f fd) : FnOk P w K mg base (L2.CX P w) 7 f fd ["plate", "other", "direction"] (spD K 3 f_shaded_by) :=
  have nd := (sc_shaded_by).nd
  ok_def (N := N_shaded_by) Fn sc_shaded_by rfl fun cdv A outer s H E hr tk hp =>
    sss_cons (ss_set nd (se_callC C_front_of tk (hr.mono (by decide)) (sa_cons (se_var 0) (sa_nil))))
    (sss_cons (ss_set nd (se_callC C_corners_of tk (hr.mono (by decide)) (sa_cons (se_var 1) (sa_nil))))
    (sss_cons (ss_setc (own := [("corner", 7)]) rfl nd (sw_true rfl rfl rfl (by decide +kernel)) (blkOk_by (N := N_shaded_by) (sc := defScope s_shaded_by) (by decide +kernel)) (si_any (se_var 4)) (tg_name 7) (fun _ _ _ _ _ => pg_name (i := 7) nd rfl (by first | exact Or.inl rfl | exact Or.inr rfl)) (fun _ _ _ _ _ => sif_nil) (fun _ _ _ _ _ => se_callC C_dot_of takes0 (hr.mono (by decide)) (sa_cons (se_var 3) (sa_cons (se_callC C_triple_less takes0 (hr.mono (by decide)) (sa_cons (se_var 7) (sa_cons (se_ix d_ix (se_var 0) (se_int)) (sa_nil)))) (sa_nil)))))
    (sss_cons (ss_if (st_bool (sw_or (st_cmp (d_eq hr.units) (se_callC C_dot_of tk (hr.mono (by decide)) (sa_cons (se_callC C_front_of tk (hr.mono (by decide)) (sa_cons (se_var 1) (sa_nil))) (sa_cons (se_var 2) (sa_nil)))) (se_int) (nomark _)) (sw_or1 (st_cmp (d_le) (se_blt (d_max1 rfl) (B.at 8) (sa_cons (se_var 5) (sa_nil))) (se_int) (nomark _))))) (sss_one (ss_ret (se_lst (sa_nil)))) (sss_nil))
    (sss_cons (ss_set nd (se_callC C_kept_side tk (hr.mono (by decide)) (sa_cons (se_comp (own := [("corner", 7)]) rfl nd (blkOk_by (N := N_shaded_by) (sc := defScope s_shaded_by) (by decide +kernel)) (si_any (se_var 4)) (tg_name 7) (fun _ _ _ _ _ => pg_name (i := 7) nd rfl (by first | exact Or.inl rfl | exact Or.inr rfl)) (fun _ _ _ _ _ => sif_nil) (fun _ _ _ _ _ => se_callC C_as_point takes0 (hr.mono (by decide)) (sa_cons (se_var 7) (sa_nil)))) (sa_cons (se_comp (own := [("height", 8)]) rfl nd (blkOk_by (N := N_shaded_by) (sc := defScope s_shaded_by) (by decide +kernel)) (si_any (se_var 5)) (tg_name 8) (fun _ _ _ _ _ => pg_name (i := 8) nd rfl (by first | exact Or.inl rfl | exact Or.inr rfl)) (fun _ _ _ _ _ => sif_nil) (fun _ _ _ _ _ => se_tup (sa_cons (se_var 8) (sa_cons (se_int) (sa_nil))))) (sa_nil)))))
    (sss_one (ss_ret (se_callC C_both_of tk (hr.mono (by decide)) (sa_cons (se_callC C_tidied_part tk (hr.mono (by decide)) (sa_cons (se_comp (own := [("point", 9)]) rfl nd (blkOk_by (N := N_shaded_by) (sc := defScope s_shaded_by) (by decide +kernel)) (si_any (se_var 6)) (tg_name 9) (fun _ _ _ _ _ => pg_name (i := 9) nd rfl (by first | exact Or.inl rfl | exact Or.inr rfl)) (fun _ _ _ _ _ => sif_nil) (fun _ _ _ _ _ => se_callC C_meeting_of takes0 (hr.mono (by decide)) (sa_cons (se_var 0) (sa_cons (se_var 9) (sa_cons (se_var 2) (sa_nil)))))) (sa_nil))) (sa_cons (se_bty d_list (B.at 9) (sa_cons (se_gref rfl M.glo_WHOLE M.lst_WHOLE) (sa_nil))) (sa_nil))))))))))
theorem cal_shaded_by (B : Blts mg blts) (M : Facts K mg) (C_front_of : Cal P w K mg base "front_of" 2 1 f_front_of) (C_corners_of : Cal P w K mg base "corners_of" 2 1 f_corners_of) (C_dot_of : Cal P w K mg base "dot_of" 1 2 f_dot_of) (C_triple_less : Cal P w K mg base "triple_less" 1 2 f_triple_less) (C_kept_side : Cal P w K mg base "kept_side" 5 2 f_kept_side) (C_as_point : Cal P w K mg base "as_point" 1 1 f_as_point) (C_both_of : Cal P w K mg base "both_of" 6 2 f_both_of) (C_tidied_part : Cal P w K mg base "tidied_part" 5 1 f_tidied_part) (C_meeting_of : Cal P w K mg base "meeting_of" 5 3 f_meeting_of) (Fn : FunD K "shaded_by" "shaded_by" (defArgs s_shaded_by) (defBody s_shaded_by) (defScope s_shaded_by) [] [] f fd) (hm : mg "shaded_by" = some (.ref f)) : Cal P w K mg base "shaded_by" 7 3 f_shaded_by :=
  cal_mk (N := N_shaded_by) (ps := ["plate", "other", "direction"]) Fn hm (fun _ _ _ _ _ _ us hl => match us, hl with | [_, _, _], _ => rfl) (ok_shaded_by B M C_front_of C_corners_of C_dot_of C_triple_less C_kept_side C_as_point C_both_of C_tidied_part C_meeting_of Fn)
theorem rl_left_of : ∀ n : Nat, ∀ ds : List D, ds.length ≠ 2 → r_left_of n ds = .bad
  | 0, _, h => fnD_len h
  | _ + 1, _, h => fnD_len h
theorem okr_left_of (B : Blts mg blts) (M : Facts K mg) (C_share_of : Cal P w K mg base "share_of" 4 1 f_share_of) (C_ratio_less : Cal P w K mg base "ratio_less" 3 2 f_ratio_less) (C_both_of : Cal P w K mg base "both_of" 6 2 f_both_of) (Fn : FunD K "left_of" "left_of" (defArgs s_left_of) (defBody s_left_of) (defScope s_left_of) [] [] f fd) (hm : mg "left_of" = some (.ref f)) : ∀ n : Nat, FnOk P w K mg base (L2.CX P w) (7 + n) f fd ["part", "parts"] (spD K 2 (r_left_of n))
  | 0 => ok_def (N := N_left_of) (k := 6) Fn sc_left_of rfl fun cdv A outer s H E hr tk hp => sss_bad
  | n + 1 => by
    have nd := (sc_left_of).nd
    have C_left_of : Cal P w K mg base "left_of" (7 + n) 2 (r_left_of n) := cal_of (ps := ["part", "parts"]) Fn hm (fun _ _ _ _ _ _ us hl => match us, hl with | [_, _], _ => rfl) (okr_left_of B M C_share_of C_ratio_less C_both_of Fn hm n) (rl_left_of n)
    exact ok_def (N := N_left_of) (k := 7 + n) Fn sc_left_of rfl fun cdv A outer s H E hr tk hp =>
        sss_cons (ss_if (st_bool (sw_or (st_cmp (d_eq hr.units) (se_var 1) (se_lst (sa_nil)) (nomark _)) (sw_or1 (st_cmp (d_eq hr.units) (se_var 0) (se_lst (sa_nil)) (nomark _))))) (sss_one (ss_ret (se_callC C_share_of tk (hr.mono (by omega)) (sa_cons (se_var 0) (sa_nil))))) (sss_nil))
        (sss_one (ss_ret (se_callC C_ratio_less tk (hr.mono (by omega)) (sa_cons (se_callC C_left_of tk (hr.mono (by omega)) (sa_cons (se_var 0) (sa_cons (se_slice (se_var 1) (so_some (se_int)) (so_none)) (sa_nil)))) (sa_cons (se_callC C_left_of tk (hr.mono (by omega)) (sa_cons (se_callC C_both_of tk (hr.mono (by omega)) (sa_cons (se_var 0) (sa_cons (se_ix d_ix (se_var 1) (se_int)) (sa_nil)))) (sa_cons (se_slice (se_var 1) (so_some (se_int)) (so_none)) (sa_nil)))) (sa_nil))))))
theorem cal_left_of (B : Blts mg blts) (M : Facts K mg) (C_share_of : Cal P w K mg base "share_of" 4 1 f_share_of) (C_ratio_less : Cal P w K mg base "ratio_less" 3 2 f_ratio_less) (C_both_of : Cal P w K mg base "both_of" 6 2 f_both_of) (Fn : FunD K "left_of" "left_of" (defArgs s_left_of) (defBody s_left_of) (defScope s_left_of) [] [] f fd) (hm : mg "left_of" = some (.ref f)) : Cal P w K mg base "left_of" 15 2 f_left_of :=
  cal_of (ps := ["part", "parts"]) Fn hm (fun _ _ _ _ _ _ us hl => match us, hl with | [_, _], _ => rfl) (okr_left_of B M C_share_of C_ratio_less C_both_of Fn hm 8) (rl_left_of 8)
theorem ok_lit_share (B : Blts mg blts) (M : Facts K mg) (C_direction_at : Cal P w K mg base "direction_at" 3 2 f_direction_at) (C_comes_from_ahead : Cal P w K mg base "comes_from_ahead" 3 2 f_comes_from_ahead) (C_is_up : Cal P w K mg base "is_up" 4 2 f_is_up) (C_shaded_by : Cal P w K mg base "shaded_by" 7 3 f_shaded_by) (C_left_of : Cal P w K mg base "left_of" 15 2 f_left_of) (Fn : FunD K "lit_share" "lit_share" (defArgs s_lit_share) (defBody s_lit_share) (defScope s_lit_share) [] [] f fd) : FnOk P w K mg base (L2.CX P w) 16 f fd ["yard", "hour", "name"] (spD K 3 f_lit_share) :=
  have nd := (sc_lit_share).nd
  ok_def (N := N_lit_share) Fn sc_lit_share rfl fun cdv A outer s H E hr tk hp =>
    sss_cons (ss_asg (se_var 0) (pg_seq rfl (pgs_cons (pg_name (i := 3) nd rfl (by first | exact Or.inl rfl | exact Or.inr rfl)) (pgs_cons (pg_name (i := 4) nd rfl (by first | exact Or.inl rfl | exact Or.inr rfl)) (pgs_cons (pg_name (i := 5) nd rfl (by first | exact Or.inl rfl | exact Or.inr rfl)) (pgs_nil))))) (tg_seq (tgs_cons (tg_name 3) (tgs_cons (tg_name 4) (tgs_cons (tg_name 5) (tgs_nil))))))
    (sss_cons (ss_set nd (se_callC C_direction_at tk (hr.mono (by decide)) (sa_cons (se_var 3) (sa_cons (se_var 1) (sa_nil)))))
    (sss_cons (ss_setc (own := [("one", 11)]) rfl nd (sw_true rfl rfl rfl (by decide +kernel)) (blkOk_by (N := N_lit_share) (sc := defScope s_lit_share) (by decide +kernel)) (si_any (se_var 5)) (tg_name 11) (fun _ _ _ _ _ => pg_name (i := 11) nd rfl (by first | exact Or.inl rfl | exact Or.inr rfl)) (fun _ _ _ _ _ => sif_one (st_cmp (d_eq hr.units) (se_ix d_ix (se_var 11) (se_int)) (se_var 2) (nomark _))) (fun _ _ _ _ _ => se_var 11))
    (sss_cons (ss_if (st_cmp (d_eq hr.units) (se_var 7) (se_lst (sa_nil)) (nomark _)) (sss_one (ss_raise0 M.exc_NoName rfl tk)) (sss_nil))
    (sss_cons (ss_set nd (se_ix d_ix (se_ix d_ix (se_var 7) (se_int)) (se_int)))
    (sss_cons (ss_if (st_bool (sw_or (st_not (st_val (se_callC C_is_up tk (hr.mono (by decide)) (sa_cons (se_var 3) (sa_cons (se_var 1) (sa_nil)))))) (sw_or1 (st_not (st_val (se_callC C_comes_from_ahead tk (hr.mono (by decide)) (sa_cons (se_var 8) (sa_cons (se_var 6) (sa_nil))))))))) (sss_one (ss_ret (se_tup (sa_cons (se_int) (sa_cons (se_int) (sa_nil)))))) (sss_nil))
    (sss_cons (ss_setc (own := [("one", 11)]) rfl nd (sw_true rfl rfl rfl (by decide +kernel)) (blkOk_by (N := N_lit_share) (sc := defScope s_lit_share) (by decide +kernel)) (si_any (se_op d_add (se_var 4) (se_var 5))) (tg_name 11) (fun _ _ _ _ _ => pg_name (i := 11) nd rfl (by first | exact Or.inl rfl | exact Or.inr rfl)) (fun _ _ _ _ _ => sif_one (st_cmp (d_ne hr.units) (se_ix d_ix (se_var 11) (se_int)) (se_var 2) (nomark _))) (fun _ _ _ _ _ => se_ix d_ix (se_var 11) (se_int)))
    (sss_cons (ss_setc (own := [("part", 12)]) rfl nd (sw_true rfl rfl rfl (by decide +kernel)) (blkOk_by (N := N_lit_share) (sc := defScope s_lit_share) (by decide +kernel)) (si_any (se_comp (own := [("one", 11)]) rfl nd (blkOk_by (N := N_lit_share) (sc := defScope s_lit_share) (by decide +kernel)) (si_any (se_var 9)) (tg_name 11) (fun _ _ _ _ _ => pg_name (i := 11) nd rfl (by first | exact Or.inl rfl | exact Or.inr rfl)) (fun _ _ _ _ _ => sif_nil) (fun _ _ _ _ _ => se_callC C_shaded_by takes0 (hr.mono (by decide)) (sa_cons (se_var 8) (sa_cons (se_var 11) (sa_cons (se_var 6) (sa_nil))))))) (tg_name 12) (fun _ _ _ _ _ => pg_name (i := 12) nd rfl (by first | exact Or.inl rfl | exact Or.inr rfl)) (fun _ _ _ _ _ => sif_one (st_cmp (d_ne hr.units) (se_var 12) (se_lst (sa_nil)) (nomark _))) (fun _ _ _ _ _ => se_var 12))
    (sss_cons (ss_if (st_cmp (d_gt) (se_blt d_len (B.at 4) (sa_cons (se_var 10) (sa_nil))) (se_gint rfl (M.int 0 ("MOST", 6) rfl)) (nomark _)) (sss_one (ss_raise0 M.exc_TooMany rfl tk)) (sss_nil))
    (sss_one (ss_ret (se_callC C_left_of tk (hr.mono (by decide)) (sa_cons (se_bty d_list (B.at 9) (sa_cons (se_gref rfl M.glo_WHOLE M.lst_WHOLE) (sa_nil))) (sa_cons (se_var 10) (sa_nil))))))))))))))
theorem cal_lit_share (B : Blts mg blts) (M : Facts K mg) (C_direction_at : Cal P w K mg base "direction_at" 3 2 f_direction_at) (C_comes_from_ahead : Cal P w K mg base "comes_from_ahead" 3 2 f_comes_from_ahead) (C_is_up : Cal P w K mg base "is_up" 4 2 f_is_up) (C_shaded_by : Cal P w K mg base "shaded_by" 7 3 f_shaded_by) (C_left_of : Cal P w K mg base "left_of" 15 2 f_left_of) (Fn : FunD K "lit_share" "lit_share" (defArgs s_lit_share) (defBody s_lit_share) (defScope s_lit_share) [] [] f fd) (hm : mg "lit_share" = some (.ref f)) : Cal P w K mg base "lit_share" 16 3 f_lit_share :=
  cal_mk (N := N_lit_share) (ps := ["yard", "hour", "name"]) Fn hm (fun _ _ _ _ _ _ us hl => match us, hl with | [_, _, _], _ => rfl) (ok_lit_share B M C_direction_at C_comes_from_ahead C_is_up C_shaded_by C_left_of Fn)
theorem ok__law_cell_at (B : Blts mg blts) (M : Facts K mg)  (Fn : FunD K "_law_cell_at" "_law_cell_at" (defArgs s__law_cell_at) (defBody s__law_cell_at) (defScope s__law_cell_at) [] [] f fd) : FnOk P w K mg base (L2.CX P w) 1 f fd ["_law_script", "_law_k"] (spD K 2 f__law_cell_at) :=
  have nd := (sc__law_cell_at).nd
  ok_def (N := N__law_cell_at) Fn sc__law_cell_at rfl fun cdv A outer s H E hr tk hp =>
    sss_cons (ss_if (st_cmp (d_lt) (se_var 1) (se_blt d_len (B.at 4) (sa_cons (se_var 0) (sa_nil))) (nomark _)) (sss_one (ss_ret (se_ix d_ix (se_var 0) (se_var 1)))) (sss_nil))
    (sss_one (ss_ret (se_int)))
theorem cal__law_cell_at (B : Blts mg blts) (M : Facts K mg)  (Fn : FunD K "_law_cell_at" "_law_cell_at" (defArgs s__law_cell_at) (defBody s__law_cell_at) (defScope s__law_cell_at) [] [] f fd) (hm : mg "_law_cell_at" = some (.ref f)) : Cal P w K mg base "_law_cell_at" 1 2 f__law_cell_at :=
  cal_mk (N := N__law_cell_at) (ps := ["_law_script", "_law_k"]) Fn hm (fun _ _ _ _ _ _ us hl => match us, hl with | [_, _], _ => rfl) (ok__law_cell_at B M  Fn)
theorem ok__law_draw (B : Blts mg blts) (M : Facts K mg)  (Fn : FunD K "_law_draw" "_law_draw" (defArgs s__law_draw) (defBody s__law_draw) (defScope s__law_draw) [] [] f fd) : FnOk P w K mg base (L2.CX P w) 1 f fd ["_law_cell", "_law_k", "_law_many"] (spD K 3 f__law_draw) :=
  have nd := (sc__law_draw).nd
  ok_def (N := N__law_draw) Fn sc__law_draw rfl fun cdv A outer s H E hr tk hp =>
    sss_cons (ss_if (st_cmp (d_ge) (se_var 0) (se_op d_pow (se_int) (se_int)) (nomark _)) (sss_cons (ss_set nd (se_var 0))
     (sss_cons (ss_for hp rfl (si_range1 (B.at 5) (sa_cons (se_var 1) (sa_nil))) (pg_name (i := 4) nd rfl (by first | exact Or.inl rfl | exact Or.inr rfl)) (tg_name 4) (sss_one (ss_set nd (se_op d_div (se_var 3) (se_op d_pow (se_int) (se_int))))))
     (sss_one (ss_if (st_cmp (d_gt) (se_var 3) (se_int) (nomark _)) (sss_one (ss_ret (se_op d_mod (se_op d_mod (se_var 3) (se_op d_pow (se_int) (se_int))) (se_var 2)))) (sss_nil))))) (sss_nil))
    (sss_cons (ss_set nd (se_op d_mod (se_op d_mul (se_op d_add (se_op d_add (se_op d_add (se_op d_mod (se_var 0) (se_int)) (se_op d_mul (se_op d_mul (se_int) (se_var 1)) (se_var 1))) (se_op d_mul (se_int) (se_var 1))) (se_int)) (se_int)) (se_int)))
    (sss_cons (ss_set nd (se_op d_mod (se_op d_add (se_op d_add (se_op d_mul (se_var 5) (se_var 5)) (se_op d_mul (se_int) (se_var 1))) (se_int)) (se_int)))
    (sss_one (ss_ret (se_op d_mod (se_op d_mod (se_op d_mul (se_var 5) (se_var 5)) (se_int)) (se_var 2))))))
theorem cal__law_draw (B : Blts mg blts) (M : Facts K mg)  (Fn : FunD K "_law_draw" "_law_draw" (defArgs s__law_draw) (defBody s__law_draw) (defScope s__law_draw) [] [] f fd) (hm : mg "_law_draw" = some (.ref f)) : Cal P w K mg base "_law_draw" 1 3 f__law_draw :=
  cal_mk (N := N__law_draw) (ps := ["_law_cell", "_law_k", "_law_many"]) Fn hm (fun _ _ _ _ _ _ us hl => match us, hl with | [_, _, _], _ => rfl) (ok__law_draw B M  Fn)
theorem ok__law_low (B : Blts mg blts) (M : Facts K mg)  (Fn : FunD K "_law_low" "_law_low" (defArgs s__law_low) (defBody s__law_low) (defScope s__law_low) [] [] f fd) : FnOk P w K mg base (L2.CX P w) 1 f fd ["_law_top", "_law_bottom"] (spD K 2 f__law_low) :=
  have nd := (sc__law_low).nd
  ok_def (N := N__law_low) Fn sc__law_low rfl fun cdv A outer s H E hr tk hp =>
    sss_cons (ss_set nd (se_blt d_abs (B.at 3) (sa_cons (se_var 0) (sa_nil))))
    (sss_cons (ss_set nd (se_var 1))
    (sss_cons (ss_while hp (st_cmp (d_ne hr.units) (se_var 3) (se_int) (nomark _)) (sss_one (ss_par rfl nd (sa_cons (se_var 3) (sa_cons (se_op d_mod (se_var 2) (se_var 3)) (sa_nil))))))
    (sss_one (ss_ret (se_tup (sa_cons (se_op d_div (se_var 0) (se_var 2)) (sa_cons (se_op d_div (se_var 1) (se_var 2)) (sa_nil))))))))
theorem cal__law_low (B : Blts mg blts) (M : Facts K mg)  (Fn : FunD K "_law_low" "_law_low" (defArgs s__law_low) (defBody s__law_low) (defScope s__law_low) [] [] f fd) (hm : mg "_law_low" = some (.ref f)) : Cal P w K mg base "_law_low" 1 2 f__law_low :=
  cal_mk (N := N__law_low) (ps := ["_law_top", "_law_bottom"]) Fn hm (fun _ _ _ _ _ _ us hl => match us, hl with | [_, _], _ => rfl) (ok__law_low B M  Fn)
theorem ok__law_add (B : Blts mg blts) (M : Facts K mg) (C__law_low : Cal P w K mg base "_law_low" 1 2 f__law_low) (Fn : FunD K "_law_add" "_law_add" (defArgs s__law_add) (defBody s__law_add) (defScope s__law_add) [] [] f fd) : FnOk P w K mg base (L2.CX P w) 2 f fd ["_law_one", "_law_other"] (spD K 2 f__law_add) :=
  have nd := (sc__law_add).nd
  ok_def (N := N__law_add) Fn sc__law_add rfl fun cdv A outer s H E hr tk hp =>
    sss_one (ss_ret (se_callC C__law_low tk (hr.mono (by decide)) (sa_cons (se_op d_add (se_op d_mul (se_ix d_ix (se_var 0) (se_int)) (se_ix d_ix (se_var 1) (se_int))) (se_op d_mul (se_ix d_ix (se_var 1) (se_int)) (se_ix d_ix (se_var 0) (se_int)))) (sa_cons (se_op d_mul (se_ix d_ix (se_var 0) (se_int)) (se_ix d_ix (se_var 1) (se_int))) (sa_nil)))))
theorem cal__law_add (B : Blts mg blts) (M : Facts K mg) (C__law_low : Cal P w K mg base "_law_low" 1 2 f__law_low) (Fn : FunD K "_law_add" "_law_add" (defArgs s__law_add) (defBody s__law_add) (defScope s__law_add) [] [] f fd) (hm : mg "_law_add" = some (.ref f)) : Cal P w K mg base "_law_add" 2 2 f__law_add :=
  cal_mk (N := N__law_add) (ps := ["_law_one", "_law_other"]) Fn hm (fun _ _ _ _ _ _ us hl => match us, hl with | [_, _], _ => rfl) (ok__law_add B M C__law_low Fn)
theorem ok__law_under (B : Blts mg blts) (M : Facts K mg)  (Fn : FunD K "_law_under" "_law_under" (defArgs s__law_under) (defBody s__law_under) (defScope s__law_under) [] [] f fd) : FnOk P w K mg base (L2.CX P w) 1 f fd ["_law_one", "_law_other"] (spD K 2 f__law_under) :=
  have nd := (sc__law_under).nd
  ok_def (N := N__law_under) Fn sc__law_under rfl fun cdv A outer s H E hr tk hp =>
    sss_one (ss_ret (se_cmp (d_lt) (se_op d_mul (se_ix d_ix (se_var 0) (se_int)) (se_ix d_ix (se_var 1) (se_int))) (se_op d_mul (se_ix d_ix (se_var 1) (se_int)) (se_ix d_ix (se_var 0) (se_int))) (nomark _)))
theorem cal__law_under (B : Blts mg blts) (M : Facts K mg)  (Fn : FunD K "_law_under" "_law_under" (defArgs s__law_under) (defBody s__law_under) (defScope s__law_under) [] [] f fd) (hm : mg "_law_under" = some (.ref f)) : Cal P w K mg base "_law_under" 1 2 f__law_under :=
  cal_mk (N := N__law_under) (ps := ["_law_one", "_law_other"]) Fn hm (fun _ _ _ _ _ _ us hl => match us, hl with | [_, _], _ => rfl) (ok__law_under B M  Fn)
theorem ok__law_number (B : Blts mg blts) (M : Facts K mg) (C__law_draw : Cal P w K mg base "_law_draw" 1 3 f__law_draw) (Fn : FunD K "_law_number" "_law_number" (defArgs s__law_number) (defBody s__law_number) (defScope s__law_number) [] [] f fd) : FnOk P w K mg base (L2.CX P w) 2 f fd ["_law_cell", "_law_k"] (spD K 2 f__law_number) :=
  have nd := (sc__law_number).nd
  ok_def (N := N__law_number) Fn sc__law_number rfl fun cdv A outer s H E hr tk hp =>
    sss_cons (ss_set nd (se_callC C__law_draw tk (hr.mono (by decide)) (sa_cons (se_var 0) (sa_cons (se_op d_mul (se_int) (se_var 1)) (sa_cons (se_int) (sa_nil))))))
    (sss_cons (ss_if (st_cmp (d_lt) (se_var 2) (se_int) (nomark _)) (sss_one (ss_ret (se_op d_sub (se_callC C__law_draw tk (hr.mono (by decide)) (sa_cons (se_var 0) (sa_cons (se_op d_add (se_op d_mul (se_int) (se_var 1)) (se_int)) (sa_cons (se_int) (sa_nil))))) (se_int)))) (sss_nil))
    (sss_cons (ss_if (st_cmp (d_lt) (se_var 2) (se_int) (nomark _)) (sss_one (ss_ret (se_op d_sub (se_callC C__law_draw tk (hr.mono (by decide)) (sa_cons (se_var 0) (sa_cons (se_op d_add (se_op d_mul (se_int) (se_var 1)) (se_int)) (sa_cons (se_int) (sa_nil))))) (se_int)))) (sss_nil))
    (sss_one (ss_ret (se_op d_mul (se_ix d_ix (se_lst (sa_cons (se_int) (sa_cons (se_un d_neg (se_int)) (sa_nil)))) (se_callC C__law_draw tk (hr.mono (by decide)) (sa_cons (se_var 0) (sa_cons (se_op d_add (se_op d_mul (se_int) (se_var 1)) (se_int)) (sa_cons (se_int) (sa_nil)))))) (se_op d_sub (se_int) (se_op d_div (se_callC C__law_draw tk (hr.mono (by decide)) (sa_cons (se_var 0) (sa_cons (se_op d_mul (se_int) (se_var 1)) (sa_cons (se_int) (sa_nil))))) (se_int))))))))
theorem cal__law_number (B : Blts mg blts) (M : Facts K mg) (C__law_draw : Cal P w K mg base "_law_draw" 1 3 f__law_draw) (Fn : FunD K "_law_number" "_law_number" (defArgs s__law_number) (defBody s__law_number) (defScope s__law_number) [] [] f fd) (hm : mg "_law_number" = some (.ref f)) : Cal P w K mg base "_law_number" 2 2 f__law_number :=
  cal_mk (N := N__law_number) (ps := ["_law_cell", "_law_k"]) Fn hm (fun _ _ _ _ _ _ us hl => match us, hl with | [_, _], _ => rfl) (ok__law_number B M C__law_draw Fn)
theorem ok__law_triple (B : Blts mg blts) (M : Facts K mg) (C__law_number : Cal P w K mg base "_law_number" 2 2 f__law_number) (Fn : FunD K "_law_triple" "_law_triple" (defArgs s__law_triple) (defBody s__law_triple) (defScope s__law_triple) [] [] f fd) : FnOk P w K mg base (L2.CX P w) 3 f fd ["_law_cell", "_law_k"] (spD K 2 f__law_triple) :=
  have nd := (sc__law_triple).nd
  ok_def (N := N__law_triple) Fn sc__law_triple rfl fun cdv A outer s H E hr tk hp =>
    sss_one (ss_ret (se_tup (sa_cons (se_callC C__law_number tk (hr.mono (by decide)) (sa_cons (se_var 0) (sa_cons (se_var 1) (sa_nil)))) (sa_cons (se_callC C__law_number tk (hr.mono (by decide)) (sa_cons (se_var 0) (sa_cons (se_op d_add (se_var 1) (se_int)) (sa_nil)))) (sa_cons (se_callC C__law_number tk (hr.mono (by decide)) (sa_cons (se_var 0) (sa_cons (se_op d_add (se_var 1) (se_int)) (sa_nil)))) (sa_nil))))))
theorem cal__law_triple (B : Blts mg blts) (M : Facts K mg) (C__law_number : Cal P w K mg base "_law_number" 2 2 f__law_number) (Fn : FunD K "_law_triple" "_law_triple" (defArgs s__law_triple) (defBody s__law_triple) (defScope s__law_triple) [] [] f fd) (hm : mg "_law_triple" = some (.ref f)) : Cal P w K mg base "_law_triple" 3 2 f__law_triple :=
  cal_mk (N := N__law_triple) (ps := ["_law_cell", "_law_k"]) Fn hm (fun _ _ _ _ _ _ us hl => match us, hl with | [_, _], _ => rfl) (ok__law_triple B M C__law_number Fn)
theorem ok__law_cross (B : Blts mg blts) (M : Facts K mg)  (Fn : FunD K "_law_cross" "_law_cross" (defArgs s__law_cross) (defBody s__law_cross) (defScope s__law_cross) [] [] f fd) : FnOk P w K mg base (L2.CX P w) 1 f fd ["_law_one", "_law_other"] (spD K 2 f__law_cross) :=
  have nd := (sc__law_cross).nd
  ok_def (N := N__law_cross) Fn sc__law_cross rfl fun cdv A outer s H E hr tk hp =>
    sss_cons (ss_asg (se_var 0) (pg_seq rfl (pgs_cons (pg_name (i := 2) nd rfl (by first | exact Or.inl rfl | exact Or.inr rfl)) (pgs_cons (pg_name (i := 3) nd rfl (by first | exact Or.inl rfl | exact Or.inr rfl)) (pgs_cons (pg_name (i := 4) nd rfl (by first | exact Or.inl rfl | exact Or.inr rfl)) (pgs_nil))))) (tg_seq (tgs_cons (tg_name 2) (tgs_cons (tg_name 3) (tgs_cons (tg_name 4) (tgs_nil))))))
    (sss_cons (ss_asg (se_var 1) (pg_seq rfl (pgs_cons (pg_name (i := 5) nd rfl (by first | exact Or.inl rfl | exact Or.inr rfl)) (pgs_cons (pg_name (i := 6) nd rfl (by first | exact Or.inl rfl | exact Or.inr rfl)) (pgs_cons (pg_name (i := 7) nd rfl (by first | exact Or.inl rfl | exact Or.inr rfl)) (pgs_nil))))) (tg_seq (tgs_cons (tg_name 5) (tgs_cons (tg_name 6) (tgs_cons (tg_name 7) (tgs_nil))))))
    (sss_one (ss_ret (se_tup (sa_cons (se_op d_sub (se_op d_mul (se_var 3) (se_var 7)) (se_op d_mul (se_var 4) (se_var 6))) (sa_cons (se_op d_sub (se_op d_mul (se_var 4) (se_var 5)) (se_op d_mul (se_var 2) (se_var 7))) (sa_cons (se_op d_sub (se_op d_mul (se_var 2) (se_var 6)) (se_op d_mul (se_var 3) (se_var 5))) (sa_nil))))))))
theorem cal__law_cross (B : Blts mg blts) (M : Facts K mg)  (Fn : FunD K "_law_cross" "_law_cross" (defArgs s__law_cross) (defBody s__law_cross) (defScope s__law_cross) [] [] f fd) (hm : mg "_law_cross" = some (.ref f)) : Cal P w K mg base "_law_cross" 1 2 f__law_cross :=
  cal_mk (N := N__law_cross) (ps := ["_law_one", "_law_other"]) Fn hm (fun _ _ _ _ _ _ us hl => match us, hl with | [_, _], _ => rfl) (ok__law_cross B M  Fn)
theorem ok__law_dot (B : Blts mg blts) (M : Facts K mg)  (Fn : FunD K "_law_dot" "_law_dot" (defArgs s__law_dot) (defBody s__law_dot) (defScope s__law_dot) [] [] f fd) : FnOk P w K mg base (L2.CX P w) 1 f fd ["_law_one", "_law_other"] (spD K 2 f__law_dot) :=
  have nd := (sc__law_dot).nd
  ok_def (N := N__law_dot) Fn sc__law_dot rfl fun cdv A outer s H E hr tk hp =>
    sss_one (ss_ret (se_op d_add (se_op d_add (se_op d_mul (se_ix d_ix (se_var 0) (se_int)) (se_ix d_ix (se_var 1) (se_int))) (se_op d_mul (se_ix d_ix (se_var 0) (se_int)) (se_ix d_ix (se_var 1) (se_int)))) (se_op d_mul (se_ix d_ix (se_var 0) (se_int)) (se_ix d_ix (se_var 1) (se_int)))))
theorem cal__law_dot (B : Blts mg blts) (M : Facts K mg)  (Fn : FunD K "_law_dot" "_law_dot" (defArgs s__law_dot) (defBody s__law_dot) (defScope s__law_dot) [] [] f fd) (hm : mg "_law_dot" = some (.ref f)) : Cal P w K mg base "_law_dot" 1 2 f__law_dot :=
  cal_mk (N := N__law_dot) (ps := ["_law_one", "_law_other"]) Fn hm (fun _ _ _ _ _ _ us hl => match us, hl with | [_, _], _ => rfl) (ok__law_dot B M  Fn)
theorem ok__law_plate (B : Blts mg blts) (M : Facts K mg) (C__law_triple : Cal P w K mg base "_law_triple" 3 2 f__law_triple) (C__law_cross : Cal P w K mg base "_law_cross" 1 2 f__law_cross) (Fn : FunD K "_law_plate" "_law_plate" (defArgs s__law_plate) (defBody s__law_plate) (defScope s__law_plate) [] [] f fd) : FnOk P w K mg base (L2.CX P w) 4 f fd ["_law_cell", "_law_k"] (spD K 2 f__law_plate) :=
  have nd := (sc__law_plate).nd
  ok_def (N := N__law_plate) Fn sc__law_plate rfl fun cdv A outer s H E hr tk hp =>
    sss_cons (ss_set nd (se_callC C__law_triple tk (hr.mono (by decide)) (sa_cons (se_var 0) (sa_cons (se_op d_add (se_var 1) (se_int)) (sa_nil)))))
    (sss_cons (ss_if (st_cmp (d_eq hr.units) (se_var 2) (se_tup (sa_cons (se_int) (sa_cons (se_int) (sa_cons (se_int) (sa_nil))))) (nomark _)) (sss_one (ss_set nd (se_tup (sa_cons (se_int) (sa_cons (se_int) (sa_cons (se_int) (sa_nil))))))) (sss_nil))
    (sss_cons (ss_set nd (se_callC C__law_triple tk (hr.mono (by decide)) (sa_cons (se_var 0) (sa_cons (se_op d_add (se_var 1) (se_int)) (sa_nil)))))
    (sss_cons (ss_for hp rfl (si_any (se_lst (sa_cons (se_tup (sa_cons (se_int) (sa_cons (se_int) (sa_cons (se_int) (sa_nil))))) (sa_cons (se_tup (sa_cons (se_int) (sa_cons (se_int) (sa_cons (se_int) (sa_nil))))) (sa_cons (se_tup (sa_cons (se_int) (sa_cons (se_int) (sa_cons (se_int) (sa_nil))))) (sa_nil)))))) (pg_name (i := 4) nd rfl (by first | exact Or.inl rfl | exact Or.inr rfl)) (tg_name 4) (sss_one (ss_if (st_cmp (d_eq hr.units) (se_callC C__law_cross tk (hr.mono (by decide)) (sa_cons (se_var 2) (sa_cons (se_var 3) (sa_nil)))) (se_tup (sa_cons (se_int) (sa_cons (se_int) (sa_cons (se_int) (sa_nil))))) (nomark _)) (sss_one (ss_set nd (se_var 4))) (sss_nil))))
    (sss_one (ss_ret (se_tup (sa_cons (se_callC C__law_triple tk (hr.mono (by decide)) (sa_cons (se_var 0) (sa_cons (se_var 1) (sa_nil)))) (sa_cons (se_var 2) (sa_cons (se_var 3) (sa_nil))))))))))
theorem cal__law_plate (B : Blts mg blts) (M : Facts K mg) (C__law_triple : Cal P w K mg base "_law_triple" 3 2 f__law_triple) (C__law_cross : Cal P w K mg base "_law_cross" 1 2 f__law_cross) (Fn : FunD K "_law_plate" "_law_plate" (defArgs s__law_plate) (defBody s__law_plate) (defScope s__law_plate) [] [] f fd) (hm : mg "_law_plate" = some (.ref f)) : Cal P w K mg base "_law_plate" 4 2 f__law_plate :=
  cal_mk (N := N__law_plate) (ps := ["_law_cell", "_law_k"]) Fn hm (fun _ _ _ _ _ _ us hl => match us, hl with | [_, _], _ => rfl) (ok__law_plate B M C__law_triple C__law_cross Fn)
theorem ok__law_ahead (B : Blts mg blts) (M : Facts K mg) (C__law_dot : Cal P w K mg base "_law_dot" 1 2 f__law_dot) (Fn : FunD K "_law_ahead" "_law_ahead" (defArgs s__law_ahead) (defBody s__law_ahead) (defScope s__law_ahead) [] [] f fd) : FnOk P w K mg base (L2.CX P w) 2 f fd ["_law_front", "_law_found"] (spD K 2 f__law_ahead) :=
  have nd := (sc__law_ahead).nd
  ok_def (N := N__law_ahead) Fn sc__law_ahead rfl fun cdv A outer s H E hr tk hp =>
    sss_cons (ss_if (st_cmp (d_lt) (se_callC C__law_dot tk (hr.mono (by decide)) (sa_cons (se_var 0) (sa_cons (se_var 1) (sa_nil)))) (se_int) (nomark _)) (sss_one (ss_set nd (se_tup (sa_cons (se_op d_sub (se_int) (se_ix d_ix (se_var 1) (se_int))) (sa_cons (se_op d_sub (se_int) (se_ix d_ix (se_var 1) (se_int))) (sa_cons (se_op d_sub (se_int) (se_ix d_ix (se_var 1) (se_int))) (sa_nil))))))) (sss_nil))
    (sss_cons (ss_for hp rfl (si_any (se_lst (sa_cons (se_tup (sa_cons (se_int) (sa_cons (se_int) (sa_cons (se_int) (sa_nil))))) (sa_cons (se_tup (sa_cons (se_int) (sa_cons (se_int) (sa_cons (se_int) (sa_nil))))) (sa_cons (se_tup (sa_cons (se_int) (sa_cons (se_int) (sa_cons (se_int) (sa_nil))))) (sa_nil)))))) (pg_name (i := 2) nd rfl (by first | exact Or.inl rfl | exact Or.inr rfl)) (tg_name 2) (sss_one (ss_if (st_cmp (d_eq hr.units) (se_callC C__law_dot tk (hr.mono (by decide)) (sa_cons (se_var 0) (sa_cons (se_var 1) (sa_nil)))) (se_int) (nomark _)) (sss_cons (ss_set nd (se_ix d_ix (se_lst (sa_cons (se_int) (sa_cons (se_un d_neg (se_int)) (sa_nil)))) (se_bty d_int (B.at 2) (sa_cons (se_cmp (d_lt) (se_callC C__law_dot tk (hr.mono (by decide)) (sa_cons (se_var 0) (sa_cons (se_var 2) (sa_nil)))) (se_int) (nomark _)) (sa_nil)))))
      (sss_one (ss_set nd (se_bty d_tuple (B.at 7) (sa_cons (se_comp (own := [("_law_one", 4), ("_law_more", 5)]) rfl nd (blkOk_by (N := N__law_ahead) (sc := defScope s__law_ahead) (by decide +kernel)) (si_zip (B.at 6) (sa_cons (se_var 1) (sa_cons (se_var 2) (sa_nil)))) (tg_seq (tgs_cons (tg_name 4) (tgs_cons (tg_name 5) (tgs_nil)))) (fun _ _ _ _ _ => pg_seq rfl (pgs_cons (pg_name (i := 4) nd rfl (by first | exact Or.inl rfl | exact Or.inr rfl)) (pgs_cons (pg_name (i := 5) nd rfl (by first | exact Or.inl rfl | exact Or.inr rfl)) (pgs_nil)))) (fun _ _ _ _ _ => sif_nil) (fun _ _ _ _ _ => se_op d_add (se_var 4) (se_op d_mul (se_var 3) (se_var 5)))) (sa_nil)))))) (sss_nil))))
    (sss_one (ss_ret (se_var 1))))
theorem cal__law_ahead (B : Blts mg blts) (M : Facts K mg) (C__law_dot : Cal P w K mg base "_law_dot" 1 2 f__law_dot) (Fn : FunD K "_law_ahead" "_law_ahead" (defArgs s__law_ahead) (defBody s__law_ahead) (defScope s__law_ahead) [] [] f fd) (hm : mg "_law_ahead" = some (.ref f)) : Cal P w K mg base "_law_ahead" 2 2 f__law_ahead :=
  cal_mk (N := N__law_ahead) (ps := ["_law_front", "_law_found"]) Fn hm (fun _ _ _ _ _ _ us hl => match us, hl with | [_, _], _ => rfl) (ok__law_ahead B M C__law_dot Fn)
theorem ok__law_sum (B : Blts mg blts) (M : Facts K mg)  (Fn : FunD K "_law_sum" "_law_sum" (defArgs s__law_sum) (defBody s__law_sum) (defScope s__law_sum) [] [] f fd) : FnOk P w K mg base (L2.CX P w) 1 f fd ["_law_one", "_law_other", "_law_many"] (spD K 3 f__law_sum) :=
  have nd := (sc__law_sum).nd
  ok_def (N := N__law_sum) Fn sc__law_sum rfl fun cdv A outer s H E hr tk hp =>
    sss_one (ss_ret (se_bty d_tuple (B.at 7) (sa_cons (se_comp (own := [("_law_a", 3), ("_law_b", 4)]) rfl nd (blkOk_by (N := N__law_sum) (sc := defScope s__law_sum) (by decide +kernel)) (si_zip (B.at 6) (sa_cons (se_var 0) (sa_cons (se_var 1) (sa_nil)))) (tg_seq (tgs_cons (tg_name 3) (tgs_cons (tg_name 4) (tgs_nil)))) (fun _ _ _ _ _ => pg_seq rfl (pgs_cons (pg_name (i := 3) nd rfl (by first | exact Or.inl rfl | exact Or.inr rfl)) (pgs_cons (pg_name (i := 4) nd rfl (by first | exact Or.inl rfl | exact Or.inr rfl)) (pgs_nil)))) (fun _ _ _ _ _ => sif_nil) (fun _ _ _ _ _ => se_op d_add (se_var 3) (se_op d_mul (se_var 2) (se_var 4)))) (sa_nil))))
theorem cal__law_sum (B : Blts mg blts) (M : Facts K mg)  (Fn : FunD K "_law_sum" "_law_sum" (defArgs s__law_sum) (defBody s__law_sum) (defScope s__law_sum) [] [] f fd) (hm : mg "_law_sum" = some (.ref f)) : Cal P w K mg base "_law_sum" 1 3 f__law_sum :=
  cal_mk (N := N__law_sum) (ps := ["_law_one", "_law_other", "_law_many"]) Fn hm (fun _ _ _ _ _ _ us hl => match us, hl with | [_, _, _], _ => rfl) (ok__law_sum B M  Fn)
theorem ok__law_far (B : Blts mg blts) (M : Facts K mg)  (Fn : FunD K "_law_far" "_law_far" (defArgs s__law_far) (defBody s__law_far) (defScope s__law_far) [] [] f fd) : FnOk P w K mg base (L2.CX P w) 1 f fd ["_law_triples"] (spD K 1 f__law_far) :=
  have nd := (sc__law_far).nd
  ok_def (N := N__law_far) Fn sc__law_far rfl fun cdv A outer s H E hr tk hp =>
    sss_one (ss_ret (se_cmp (d_ne hr.units) (se_comp (own := [("_law_triple_here", 1)]) rfl nd (blkOk_by (N := N__law_far) (sc := defScope s__law_far) (by decide +kernel)) (si_any (se_var 0)) (tg_name 1) (fun _ _ _ _ _ => pg_name (i := 1) nd rfl (by first | exact Or.inl rfl | exact Or.inr rfl)) (fun _ _ _ _ _ => sif_one (st_cmp (d_gt) (se_blt (d_max2 rfl) (B.at 8) (sa_cons (se_blt (d_maxU rfl) (B.at 8) (sa_cons (se_var 1) (sa_nil))) (sa_cons (se_op d_sub (se_int) (se_blt (d_minU rfl) (B.at 10) (sa_cons (se_var 1) (sa_nil)))) (sa_nil)))) (se_op d_pow (se_int) (se_int)) (nomark _))) (fun _ _ _ _ _ => se_var 1)) (se_lst (sa_nil)) (nomark _)))
theorem cal__law_far (B : Blts mg blts) (M : Facts K mg)  (Fn : FunD K "_law_far" "_law_far" (defArgs s__law_far) (defBody s__law_far) (defScope s__law_far) [] [] f fd) (hm : mg "_law_far" = some (.ref f)) : Cal P w K mg base "_law_far" 1 1 f__law_far :=
  cal_mk (N := N__law_far) (ps := ["_law_triples"]) Fn hm (fun _ _ _ _ _ _ us hl => match us, hl with | [_], _ => rfl) (ok__law_far B M  Fn)
theorem ok__law_about (B : Blts mg blts) (M : Facts K mg) (C__law_sum : Cal P w K mg base "_law_sum" 1 3 f__law_sum) (C__law_draw : Cal P w K mg base "_law_draw" 1 3 f__law_draw) (C__law_plate : Cal P w K mg base "_law_plate" 4 2 f__law_plate) (C__law_far : Cal P w K mg base "_law_far" 1 1 f__law_far) (C__law_cross : Cal P w K mg base "_law_cross" 1 2 f__law_cross) (Fn : FunD K "_law_about" "_law_about" (defArgs s__law_about) (defBody s__law_about) (defScope s__law_about) [] [] f fd) : FnOk P w K mg base (L2.CX P w) 5 f fd ["_law_plate_here", "_law_direction", "_law_cell"] (spD K 3 f__law_about) :=
  have nd := (sc__law_about).nd
  ok_def (N := N__law_about) Fn sc__law_about rfl fun cdv A outer s H E hr tk hp =>
    sss_cons (ss_set nd (se_callC C__law_sum tk (hr.mono (by decide)) (sa_cons (se_ix d_ix (se_var 0) (se_int)) (sa_cons (se_ix d_ix (se_var 0) (se_int)) (sa_cons (se_op d_sub (se_callC C__law_draw tk (hr.mono (by decide)) (sa_cons (se_var 2) (sa_cons (se_int) (sa_cons (se_int) (sa_nil))))) (se_int)) (sa_nil))))))
    (sss_cons (ss_set nd (se_callC C__law_sum tk (hr.mono (by decide)) (sa_cons (se_var 3) (sa_cons (se_ix d_ix (se_var 0) (se_int)) (sa_cons (se_op d_sub (se_callC C__law_draw tk (hr.mono (by decide)) (sa_cons (se_var 2) (sa_cons (se_int) (sa_cons (se_int) (sa_nil))))) (se_int)) (sa_nil))))))
    (sss_cons (ss_set nd (se_callC C__law_sum tk (hr.mono (by decide)) (sa_cons (se_var 3) (sa_cons (se_var 1) (sa_cons (se_op d_add (se_int) (se_callC C__law_draw tk (hr.mono (by decide)) (sa_cons (se_var 2) (sa_cons (se_int) (sa_cons (se_int) (sa_nil)))))) (sa_nil))))))
    (sss_cons (ss_set nd (se_callC C__law_plate tk (hr.mono (by decide)) (sa_cons (se_var 2) (sa_cons (se_int) (sa_nil)))))
    (sss_cons (ss_set nd (se_ix d_ix (se_lst (sa_cons (se_ix d_ix (se_var 4) (se_int)) (sa_cons (se_ix d_ix (se_var 0) (se_int)) (sa_cons (se_callC C__law_sum tk (hr.mono (by decide)) (sa_cons (se_ix d_ix (se_var 0) (se_int)) (sa_cons (se_ix d_ix (se_var 4) (se_int)) (sa_cons (se_int) (sa_nil))))) (sa_nil))))) (se_callC C__law_draw tk (hr.mono (by decide)) (sa_cons (se_var 2) (sa_cons (se_int) (sa_cons (se_int) (sa_nil)))))))
    (sss_cons (ss_set nd (se_ix d_ix (se_lst (sa_cons (se_ix d_ix (se_var 4) (se_int)) (sa_cons (se_ix d_ix (se_var 0) (se_int)) (sa_cons (se_callC C__law_sum tk (hr.mono (by decide)) (sa_cons (se_ix d_ix (se_var 0) (se_int)) (sa_cons (se_ix d_ix (se_var 4) (se_int)) (sa_cons (se_int) (sa_nil))))) (sa_nil))))) (se_callC C__law_draw tk (hr.mono (by decide)) (sa_cons (se_var 2) (sa_cons (se_int) (sa_cons (se_int) (sa_nil)))))))
    (sss_cons (ss_if (st_bool (sw_or (st_cmp (d_eq hr.units) (se_callC C__law_cross tk (hr.mono (by decide)) (sa_cons (se_var 5) (sa_cons (se_var 6) (sa_nil)))) (se_tup (sa_cons (se_int) (sa_cons (se_int) (sa_cons (se_int) (sa_nil))))) (nomark _)) (sw_or1 (st_val (se_callC C__law_far tk (hr.mono (by decide)) (sa_cons (se_lst (sa_cons (se_var 3) (sa_cons (se_var 5) (sa_cons (se_var 6) (sa_nil))))) (sa_nil))))))) (sss_one (ss_ret (se_var 4))) (sss_nil))
    (sss_one (ss_ret (se_tup (sa_cons (se_var 3) (sa_cons (se_var 5) (sa_cons (se_var 6) (sa_nil)))))))))))))
theorem cal__law_about (B : Blts mg blts) (M : Facts K mg) (C__law_sum : Cal P w K mg base "_law_sum" 1 3 f__law_sum) (C__law_draw : Cal P w K mg base "_law_draw" 1 3 f__law_draw) (C__law_plate : Cal P w K mg base "_law_plate" 4 2 f__law_plate) (C__law_far : Cal P w K mg base "_law_far" 1 1 f__law_far) (C__law_cross : Cal P w K mg base "_law_cross" 1 2 f__law_cross) (Fn : FunD K "_law_about" "_law_about" (defArgs s__law_about) (defBody s__law_about) (defScope s__law_about) [] [] f fd) (hm : mg "_law_about" = some (.ref f)) : Cal P w K mg base "_law_about" 5 3 f__law_about :=
  cal_mk (N := N__law_about) (ps := ["_law_plate_here", "_law_direction", "_law_cell"]) Fn hm (fun _ _ _ _ _ _ us hl => match us, hl with | [_, _, _], _ => rfl) (ok__law_about B M C__law_sum C__law_draw C__law_plate C__law_far C__law_cross Fn)
theorem ok__law_tip (B : Blts mg blts) (M : Facts K mg) (C__law_cross : Cal P w K mg base "_law_cross" 1 2 f__law_cross) (C__law_ahead : Cal P w K mg base "_law_ahead" 2 2 f__law_ahead) (C__law_draw : Cal P w K mg base "_law_draw" 1 3 f__law_draw) (C__law_sum : Cal P w K mg base "_law_sum" 1 3 f__law_sum) (C__law_far : Cal P w K mg base "_law_far" 1 1 f__law_far) (Fn : FunD K "_law_tip" "_law_tip" (defArgs s__law_tip) (defBody s__law_tip) (defScope s__law_tip) [] [] f fd) : FnOk P w K mg base (L2.CX P w) 3 f fd ["_law_plate_here", "_law_cell"] (spD K 2 f__law_tip) :=
  have nd := (sc__law_tip).nd
  ok_def (N := N__law_tip) Fn sc__law_tip rfl fun cdv A outer s H E hr tk hp =>
    sss_cons (ss_set nd (se_callC C__law_cross tk (hr.mono (by decide)) (sa_cons (se_ix d_ix (se_var 0) (se_int)) (sa_cons (se_ix d_ix (se_var 0) (se_int)) (sa_nil)))))
    (sss_cons (ss_set nd (se_callC C__law_ahead tk (hr.mono (by decide)) (sa_cons (se_var 2) (sa_cons (se_bty d_tuple (B.at 7) (sa_cons (se_comp (own := [("_law_k", 5)]) rfl nd (blkOk_by (N := N__law_tip) (sc := defScope s__law_tip) (by decide +kernel)) (si_range1 (B.at 5) (sa_cons (se_int) (sa_nil))) (tg_name 5) (fun _ _ _ _ _ => pg_name (i := 5) nd rfl (by first | exact Or.inl rfl | exact Or.inr rfl)) (fun _ _ _ _ _ => sif_nil) (fun _ _ _ _ _ => se_op d_sub (se_callC C__law_draw takes0 (hr.mono (by decide)) (sa_cons (se_var 1) (sa_cons (se_op d_add (se_int) (se_var 5)) (sa_cons (se_int) (sa_nil))))) (se_int))) (sa_nil))) (sa_nil)))))
    (sss_cons (ss_set nd (se_callC C__law_sum tk (hr.mono (by decide)) (sa_cons (se_ix d_ix (se_var 0) (se_int)) (sa_cons (se_var 3) (sa_cons (se_int) (sa_nil))))))
    (sss_cons (ss_if (st_val (se_callC C__law_far tk (hr.mono (by decide)) (sa_cons (se_lst (sa_cons (se_var 4) (sa_nil))) (sa_nil)))) (sss_one (ss_ret (se_non))) (sss_nil))
    (sss_one (ss_ret (se_var 4))))))
theorem cal__law_tip (B : Blts mg blts) (M : Facts K mg) (C__law_cross : Cal P w K mg base "_law_cross" 1 2 f__law_cross) (C__law_ahead : Cal P w K mg base "_law_ahead" 2 2 f__law_ahead) (C__law_draw : Cal P w K mg base "_law_draw" 1 3 f__law_draw) (C__law_sum : Cal P w K mg base "_law_sum" 1 3 f__law_sum) (C__law_far : Cal P w K mg base "_law_far" 1 1 f__law_far) (Fn : FunD K "_law_tip" "_law_tip" (defArgs s__law_tip) (defBody s__law_tip) (defScope s__law_tip) [] [] f fd) (hm : mg "_law_tip" = some (.ref f)) : Cal P w K mg base "_law_tip" 3 2 f__law_tip :=
  cal_mk (N := N__law_tip) (ps := ["_law_plate_here", "_law_cell"]) Fn hm (fun _ _ _ _ _ _ us hl => match us, hl with | [_, _], _ => rfl) (ok__law_tip B M C__law_cross C__law_ahead C__law_draw C__law_sum C__law_far Fn)
theorem ok__law_left (B : Blts mg blts) (M : Facts K mg) (C_both_of : Cal P w K mg base "both_of" 6 2 f_both_of) (C_share_of : Cal P w K mg base "share_of" 4 1 f_share_of) (C__law_add : Cal P w K mg base "_law_add" 2 2 f__law_add) (Fn : FunD K "_law_left" "_law_left" (defArgs s__law_left) (defBody s__law_left) (defScope s__law_left) [] [] f fd) : FnOk P w K mg base (L2.CX P w) 7 f fd ["_law_parts"] (spD K 1 f__law_left) :=
  have nd := (sc__law_left).nd
  ok_def (N := N__law_left) Fn sc__law_left rfl fun cdv A outer s H E hr tk hp =>
    sss_cons (ss_set nd (se_tup (sa_cons (se_int) (sa_cons (se_int) (sa_nil)))))
    (sss_cons (ss_set nd (se_lst (sa_cons (se_tup (sa_cons (se_int) (sa_cons (se_lst (sa_nil)) (sa_nil)))) (sa_nil))))
    (sss_cons (ss_for hp rfl (si_any (se_var 0)) (pg_name (i := 3) nd rfl (by first | exact Or.inl rfl | exact Or.inr rfl)) (tg_name 3) (sss_cons (ss_own nd (sa_nil))
     (sss_cons (ss_for hp rfl (si_any (se_var 2)) (pg_seq rfl (pgs_cons (pg_name (i := 5) nd rfl (by first | exact Or.inl rfl | exact Or.inr rfl)) (pgs_cons (pg_name (i := 6) nd rfl (by first | exact Or.inl rfl | exact Or.inr rfl)) (pgs_nil)))) (tg_seq (tgs_cons (tg_name 5) (tgs_cons (tg_name 6) (tgs_nil)))) (sss_cons (ss_set nd (se_var 3))
      (sss_cons (ss_if (st_cmp (d_gt) (se_var 5) (se_int) (nomark _)) (sss_one (ss_set nd (se_callC C_both_of tk (hr.mono (by decide)) (sa_cons (se_var 6) (sa_cons (se_var 3) (sa_nil)))))) (sss_nil))
      (sss_one (ss_app 4 (se_tup (sa_cons (se_op d_add (se_var 5) (se_int)) (sa_cons (se_var 7) (sa_nil)))))))))
     (sss_one (ss_freeze 4 (ss_set nd (se_op d_add (se_var 2) (se_var 4))))))))
    (sss_cons (ss_for hp rfl (si_any (se_slice (se_var 2) (so_some (se_int)) (so_none))) (pg_seq rfl (pgs_cons (pg_name (i := 5) nd rfl (by first | exact Or.inl rfl | exact Or.inr rfl)) (pgs_cons (pg_name (i := 3) nd rfl (by first | exact Or.inl rfl | exact Or.inr rfl)) (pgs_nil)))) (tg_seq (tgs_cons (tg_name 5) (tgs_cons (tg_name 3) (tgs_nil)))) (sss_cons (ss_set nd (se_callC C_share_of tk (hr.mono (by decide)) (sa_cons (se_var 3) (sa_nil))))
     (sss_one (ss_set nd (se_callC C__law_add tk (hr.mono (by decide)) (sa_cons (se_var 1) (sa_cons (se_tup (sa_cons (se_ix d_ix (se_lst (sa_cons (se_op d_sub (se_int) (se_ix d_ix (se_var 8) (se_int))) (sa_cons (se_ix d_ix (se_var 8) (se_int)) (sa_nil)))) (se_op d_mod (se_op d_add (se_var 5) (se_int)) (se_int))) (sa_cons (se_ix d_ix (se_var 8) (se_int)) (sa_nil)))) (sa_nil))))))))
    (sss_one (ss_ret (se_var 1))))))
theorem cal__law_left (B : Blts mg blts) (M : Facts K mg) (C_both_of : Cal P w K mg base "both_of" 6 2 f_both_of) (C_share_of : Cal P w K mg base "share_of" 4 1 f_share_of) (C__law_add : Cal P w K mg base "_law_add" 2 2 f__law_add) (Fn : FunD K "_law_left" "_law_left" (defArgs s__law_left) (defBody s__law_left) (defScope s__law_left) [] [] f fd) (hm : mg "_law_left" = some (.ref f)) : Cal P w K mg base "_law_left" 7 1 f__law_left :=
  cal_mk (N := N__law_left) (ps := ["_law_parts"]) Fn hm (fun _ _ _ _ _ _ us hl => match us, hl with | [_], _ => rfl) (ok__law_left B M C_both_of C_share_of C__law_add Fn)
theorem ok__law_yard (B : Blts mg blts) (M : Facts K mg)  (Fn : FunD K "_law_yard" "_law_yard" (defArgs s__law_yard) (defBody s__law_yard) (defScope s__law_yard) [] [] f fd) : FnOk P w K mg base (L2.CX P w) 1 f fd ["_law_sun", "_law_plates", "_law_tips"] (spD K 3 f__law_yard) :=
  have nd := (sc__law_yard).nd
  ok_def (N := N__law_yard) Fn sc__law_yard rfl fun cdv A outer s H E hr tk hp =>
    sss_cons (ss_own nd (sa_nil))
    (sss_cons (ss_own nd (sa_nil))
    (sss_cons (ss_for hp rfl (si_range1 (B.at 5) (sa_cons (se_blt d_len (B.at 4) (sa_cons (se_var 1) (sa_nil))) (sa_nil))) (pg_name (i := 5) nd rfl (by first | exact Or.inl rfl | exact Or.inr rfl)) (tg_name 5) (sss_cons (ss_set nd (se_ix d_ix (se_str) (se_var 5)))
     (sss_one (ss_if (st_bool (sw_or (st_cmp (d_isN) (se_ix d_ix (se_var 2) (se_var 5)) (se_non) (nomark _)) (sw_or1 (st_cmp (d_eq hr.units) (se_op d_mod (se_var 5) (se_int)) (se_int) (nomark _))))) (sss_one (ss_app 3 (se_tup (sa_cons (se_var 6) (sa_cons (se_ix d_ix (se_var 1) (se_var 5)) (sa_nil)))))) (sss_one (ss_app 4 (se_tup (sa_cons (se_var 6) (sa_cons (se_ix d_ix (se_var 1) (se_var 5)) (sa_cons (se_ix d_ix (se_var 2) (se_var 5)) (sa_nil)))))))))))
    (sss_one (ss_freeze 4 (ss_freeze 3 (ss_ret (se_tup (sa_cons (se_var 0) (sa_cons (se_var 3) (sa_cons (se_var 4) (sa_nil)))))))))))
theorem cal__law_yard (B : Blts mg blts) (M : Facts K mg)  (Fn : FunD K "_law_yard" "_law_yard" (defArgs s__law_yard) (defBody s__law_yard) (defScope s__law_yard) [] [] f fd) (hm : mg "_law_yard" = some (.ref f)) : Cal P w K mg base "_law_yard" 1 3 f__law_yard :=
  cal_mk (N := N__law_yard) (ps := ["_law_sun", "_law_plates", "_law_tips"]) Fn hm (fun _ _ _ _ _ _ us hl => match us, hl with | [_, _, _], _ => rfl) (ok__law_yard B M  Fn)
theorem ok__law_hour (B : Blts mg blts) (M : Facts K mg) (C_lit_share : Cal P w K mg base "lit_share" 16 3 f_lit_share) (C__law_yard : Cal P w K mg base "_law_yard" 1 3 f__law_yard) (C__law_dot : Cal P w K mg base "_law_dot" 1 2 f__law_dot) (C__law_cross : Cal P w K mg base "_law_cross" 1 2 f__law_cross) (C_shaded_by : Cal P w K mg base "shaded_by" 7 3 f_shaded_by) (C__law_left : Cal P w K mg base "_law_left" 7 1 f__law_left) (C__law_under : Cal P w K mg base "_law_under" 1 2 f__law_under) (Fn : FunD K "_law_hour" "_law_hour" (defArgs s__law_hour) (defBody s__law_hour) (defScope s__law_hour) [] [] f fd) : FnOk P w K mg base (L2.CX P w) 17 f fd ["_law_sun", "_law_plates", "_law_tips", "_law_at"] (spD K 4 f__law_hour) :=
  have nd := (sc__law_hour).nd
  ok_def (N := N__law_hour) Fn sc__law_hour rfl fun cdv A outer s H E hr tk hp =>
    sss_cons (ss_asg (se_ix d_ix (se_var 0) (se_var 3)) (pg_seq rfl (pgs_cons (pg_name (i := 4) nd rfl (by first | exact Or.inl rfl | exact Or.inr rfl)) (pgs_cons (pg_name (i := 5) nd rfl (by first | exact Or.inl rfl | exact Or.inr rfl)) (pgs_nil)))) (tg_seq (tgs_cons (tg_name 4) (tgs_cons (tg_name 5) (tgs_nil)))))
    (sss_cons (ss_set nd (se_ix d_ix (se_var 1) (se_int)))
    (sss_cons (ss_set nd (se_callC C_lit_share tk (hr.mono (by decide)) (sa_cons (se_callC C__law_yard tk (hr.mono (by decide)) (sa_cons (se_var 0) (sa_cons (se_var 1) (sa_cons (se_var 2) (sa_nil))))) (sa_cons (se_var 4) (sa_cons (se_str) (sa_nil))))))
    (sss_cons (ss_if (st_bool (sw_or (st_cmp (d_le) (se_ix d_ix (se_var 5) (se_int)) (se_int) (nomark _)) (sw_or1 (st_cmp (d_le) (se_callC C__law_dot tk (hr.mono (by decide)) (sa_cons (se_callC C__law_cross tk (hr.mono (by decide)) (sa_cons (se_ix d_ix (se_var 6) (se_int)) (sa_cons (se_ix d_ix (se_var 6) (se_int)) (sa_nil)))) (sa_cons (se_var 5) (sa_nil)))) (se_int) (nomark _))))) (sss_one (ss_ret (se_cmp (d_eq hr.units) (se_var 7) (se_tup (sa_cons (se_int) (sa_cons (se_int) (sa_nil)))) (nomark _)))) (sss_nil))
    (sss_cons (ss_setc (own := [("_law_plate_here", 11)]) rfl nd (sw_true rfl rfl rfl (by decide +kernel)) (blkOk_by (N := N__law_hour) (sc := defScope s__law_hour) (by decide +kernel)) (si_any (se_slice (se_var 1) (so_some (se_int)) (so_none))) (tg_name 11) (fun _ _ _ _ _ => pg_name (i := 11) nd rfl (by first | exact Or.inl rfl | exact Or.inr rfl)) (fun _ _ _ _ _ => sif_nil) (fun _ _ _ _ _ => se_callC C_shaded_by takes0 (hr.mono (by decide)) (sa_cons (se_var 6) (sa_cons (se_var 11) (sa_cons (se_var 5) (sa_nil))))))
    (sss_cons (ss_if (st_cmp (d_ne hr.units) (se_var 7) (se_callC C__law_left tk (hr.mono (by decide)) (sa_cons (se_var 8) (sa_nil))) (nomark _)) (sss_one (ss_ret (se_bl))) (sss_nil))
    (sss_cons (ss_for hp rfl (si_range2 (B.at 5) (sa_cons (se_int) (sa_cons (se_blt d_len (B.at 4) (sa_cons (se_var 1) (sa_nil))) (sa_nil)))) (pg_name (i := 9) nd rfl (by first | exact Or.inl rfl | exact Or.inr rfl)) (tg_name 9) (sss_cons (ss_set nd (se_callC C__law_yard tk (hr.mono (by decide)) (sa_cons (se_var 0) (sa_cons (se_op d_add (se_slice (se_var 1) (so_none) (so_some (se_var 9))) (se_slice (se_var 1) (so_some (se_op d_add (se_var 9) (se_int))) (so_none))) (sa_cons (se_op d_add (se_slice (se_var 2) (so_none) (so_some (se_var 9))) (se_slice (se_var 2) (so_some (se_op d_add (se_var 9) (se_int))) (so_none))) (sa_nil))))))
     (sss_one (ss_if (st_val (se_callC C__law_under tk (hr.mono (by decide)) (sa_cons (se_callC C_lit_share tk (hr.mono (by decide)) (sa_cons (se_var 10) (sa_cons (se_var 4) (sa_cons (se_str) (sa_nil))))) (sa_cons (se_var 7) (sa_nil))))) (sss_one (ss_ret (se_bl))) (sss_nil)))))
    (sss_one (ss_ret (se_cmp (d_eq hr.units) (se_callC C_lit_share tk (hr.mono (by decide)) (sa_cons (se_tup (sa_cons (se_var 0) (sa_cons (se_lst (sa_nil)) (sa_cons (se_lst (sa_cons (se_tup (sa_cons (se_str) (sa_cons (se_var 6) (sa_cons (se_ix d_ix (se_var 2) (se_int)) (sa_nil))))) (sa_nil))) (sa_nil))))) (sa_cons (se_var 4) (sa_cons (se_str) (sa_nil))))) (se_tup (sa_cons (se_int) (sa_cons (se_int) (sa_nil)))) (nomark _))))))))))
theorem cal__law_hour (B : Blts mg blts) (M : Facts K mg) (C_lit_share : Cal P w K mg base "lit_share" 16 3 f_lit_share) (C__law_yard : Cal P w K mg base "_law_yard" 1 3 f__law_yard) (C__law_dot : Cal P w K mg base "_law_dot" 1 2 f__law_dot) (C__law_cross : Cal P w K mg base "_law_cross" 1 2 f__law_cross) (C_shaded_by : Cal P w K mg base "shaded_by" 7 3 f_shaded_by) (C__law_left : Cal P w K mg base "_law_left" 7 1 f__law_left) (C__law_under : Cal P w K mg base "_law_under" 1 2 f__law_under) (Fn : FunD K "_law_hour" "_law_hour" (defArgs s__law_hour) (defBody s__law_hour) (defScope s__law_hour) [] [] f fd) (hm : mg "_law_hour" = some (.ref f)) : Cal P w K mg base "_law_hour" 17 4 f__law_hour :=
  cal_mk (N := N__law_hour) (ps := ["_law_sun", "_law_plates", "_law_tips", "_law_at"]) Fn hm (fun _ _ _ _ _ _ us hl => match us, hl with | [_, _, _, _], _ => rfl) (ok__law_hour B M C_lit_share C__law_yard C__law_dot C__law_cross C_shaded_by C__law_left C__law_under Fn)
theorem ok_law (B : Blts mg blts) (M : Facts K mg) (C__law_cell_at : Cal P w K mg base "_law_cell_at" 1 2 f__law_cell_at) (C__law_plate : Cal P w K mg base "_law_plate" 4 2 f__law_plate) (C__law_tip : Cal P w K mg base "_law_tip" 3 2 f__law_tip) (C__law_triple : Cal P w K mg base "_law_triple" 3 2 f__law_triple) (C__law_draw : Cal P w K mg base "_law_draw" 1 3 f__law_draw) (C__law_ahead : Cal P w K mg base "_law_ahead" 2 2 f__law_ahead) (C__law_cross : Cal P w K mg base "_law_cross" 1 2 f__law_cross) (C__law_far : Cal P w K mg base "_law_far" 1 1 f__law_far) (C__law_about : Cal P w K mg base "_law_about" 5 3 f__law_about) (C_lit_share : Cal P w K mg base "lit_share" 16 3 f_lit_share) (C__law_yard : Cal P w K mg base "_law_yard" 1 3 f__law_yard) (C__law_hour : Cal P w K mg base "_law_hour" 17 4 f__law_hour) (Fn : FunD K "law" "law" (defArgs s_law) (defBody s_law) (defScope s_law) [] [] f fd) : FnOk P w K mg base (L2.CX P w) 18 f fd ["_law_script"] (spD K 1 f_law) :=
  have nd := (sc_law).nd
  ok_def (N := N_law) Fn sc_law rfl fun cdv A outer s H E hr tk hp =>
    sss_cons (ss_set nd (se_callC C__law_cell_at tk (hr.mono (by decide)) (sa_cons (se_var 0) (sa_cons (se_int) (sa_nil)))))
    (sss_cons (ss_set nd (se_callC C__law_plate tk (hr.mono (by decide)) (sa_cons (se_var 1) (sa_cons (se_int) (sa_nil)))))
    (sss_cons (ss_set nd (se_callC C__law_tip tk (hr.mono (by decide)) (sa_cons (se_var 2) (sa_cons (se_var 1) (sa_nil)))))
    (sss_cons (ss_set nd (se_callC C__law_triple tk (hr.mono (by decide)) (sa_cons (se_var 1) (sa_cons (se_int) (sa_nil)))))
    (sss_cons (ss_if (st_cmp (d_gt) (se_callC C__law_draw tk (hr.mono (by decide)) (sa_cons (se_var 1) (sa_cons (se_int) (sa_cons (se_int) (sa_nil))))) (se_int) (nomark _)) (sss_one (ss_set nd (se_callC C__law_ahead tk (hr.mono (by decide)) (sa_cons (se_callC C__law_cross tk (hr.mono (by decide)) (sa_cons (se_ix d_ix (se_var 2) (se_int)) (sa_cons (se_ix d_ix (se_var 2) (se_int)) (sa_nil)))) (sa_cons (se_var 4) (sa_nil)))))) (sss_nil))
    (sss_cons (ss_if (st_bool (sw_or (st_cmp (d_isN) (se_var 3) (se_non) (nomark _)) (sw_or (st_cmp (d_eq hr.units) (se_var 4) (se_tup (sa_cons (se_int) (sa_cons (se_int) (sa_cons (se_int) (sa_nil))))) (nomark _)) (sw_or1 (st_val (se_callC C__law_far tk (hr.mono (by decide)) (sa_cons (se_lst (sa_cons (se_var 4) (sa_nil))) (sa_nil)))))))) (sss_one (ss_ret (se_bl))) (sss_nil))
    (sss_cons (ss_own nd (sa_cons (se_var 2) (sa_nil)))
    (sss_cons (ss_own nd (sa_cons (se_var 3) (sa_nil)))
    (sss_cons (ss_for hp rfl (si_range1 (B.at 5) (sa_cons (se_op d_add (se_int) (se_callC C__law_draw tk (hr.mono (by decide)) (sa_cons (se_var 1) (sa_cons (se_int) (sa_cons (se_int) (sa_nil)))))) (sa_nil))) (pg_name (i := 7) nd rfl (by first | exact Or.inl rfl | exact Or.inr rfl)) (tg_name 7) (sss_cons (ss_set nd (se_op d_add (se_callC C__law_cell_at tk (hr.mono (by decide)) (sa_cons (se_var 0) (sa_cons (se_op d_add (se_int) (se_op d_mul (se_var 7) (se_int))) (sa_nil)))) (se_var 7)))
     (sss_cons (ss_app 5 (se_callC C__law_about tk (hr.mono (by decide)) (sa_cons (se_var 2) (sa_cons (se_var 4) (sa_cons (se_var 8) (sa_nil))))))
     (sss_one (ss_app 6 (se_callC C__law_tip tk (hr.mono (by decide)) (sa_cons (se_ixO 5 (se_un d_neg (se_int))) (sa_cons (se_var 8) (sa_nil)))))))))
    (sss_cons (ss_set nd (se_lst (sa_cons (se_tup (sa_cons (se_int) (sa_cons (se_var 4) (sa_nil)))) (sa_cons (se_tup (sa_cons (se_int) (sa_cons (se_callC C__law_ahead tk (hr.mono (by decide)) (sa_cons (se_callC C__law_cross tk (hr.mono (by decide)) (sa_cons (se_ix d_ix (se_var 2) (se_int)) (sa_cons (se_ix d_ix (se_var 2) (se_int)) (sa_nil)))) (sa_cons (se_callC C__law_triple tk (hr.mono (by decide)) (sa_cons (se_var 1) (sa_cons (se_int) (sa_nil)))) (sa_nil)))) (sa_nil)))) (sa_nil)))))
    (sss_cons (ss_freeze 6 (ss_freeze 5 (ss_set nd (se_callC C_lit_share tk (hr.mono (by decide)) (sa_cons (se_callC C__law_yard tk (hr.mono (by decide)) (sa_cons (se_var 9) (sa_cons (se_var 5) (sa_cons (se_var 6) (sa_nil))))) (sa_cons (se_int) (sa_cons (se_str) (sa_nil))))))))
    (sss_cons (ss_freeze 6 (ss_freeze 5 (ss_if (st_bool (sw_or (st_not (st_val (se_callC C__law_hour tk (hr.mono (by decide)) (sa_cons (se_var 9) (sa_cons (se_var 5) (sa_cons (se_var 6) (sa_cons (se_int) (sa_nil)))))))) (sw_or1 (st_not (st_val (se_callC C__law_hour tk (hr.mono (by decide)) (sa_cons (se_var 9) (sa_cons (se_var 5) (sa_cons (se_var 6) (sa_cons (se_int) (sa_nil))))))))))) (sss_one (ss_ret (se_bl))) (sss_nil))))
    (sss_one (ss_freeze 6 (ss_freeze 5 (ss_ret (se_cmp (d_eq hr.units) (se_callC C_lit_share tk (hr.mono (by decide)) (sa_cons (se_callC C__law_yard tk (hr.mono (by decide)) (sa_cons (se_var 9) (sa_cons (se_var 5) (sa_cons (se_var 6) (sa_nil))))) (sa_cons (se_int) (sa_cons (se_str) (sa_nil))))) (se_var 10) (nomark _)))))))))))))))))
end
/-! ### the head -/
def d_is_whole : He.DefD := ⟨("is_whole", none), "is_whole", "is_whole", defArgs s_is_whole, defBody s_is_whole, defScope s_is_whole, [], []⟩
def d_divisor_of : He.DefD := ⟨("divisor_of", none), "divisor_of", "divisor_of", defArgs s_divisor_of, defBody s_divisor_of, defScope s_divisor_of, [], []⟩
def d_ratio_of : He.DefD := ⟨("ratio_of", none), "ratio_of", "ratio_of", defArgs s_ratio_of, defBody s_ratio_of, defScope s_ratio_of, [], []⟩
def d_ratio_sum : He.DefD := ⟨("ratio_sum", none), "ratio_sum", "ratio_sum", defArgs s_ratio_sum, defBody s_ratio_sum, defScope s_ratio_sum, [], []⟩
def d_ratio_less : He.DefD := ⟨("ratio_less", none), "ratio_less", "ratio_less", defArgs s_ratio_less, defBody s_ratio_less, defScope s_ratio_less, [], []⟩
def d_ratio_times : He.DefD := ⟨("ratio_times", none), "ratio_times", "ratio_times", defArgs s_ratio_times, defBody s_ratio_times, defScope s_ratio_times, [], []⟩
def d_ratio_by : He.DefD := ⟨("ratio_by", none), "ratio_by", "ratio_by", defArgs s_ratio_by, defBody s_ratio_by, defScope s_ratio_by, [], []⟩
def d_is_under : He.DefD := ⟨("is_under", none), "is_under", "is_under", defArgs s_is_under, defBody s_is_under, defScope s_is_under, [], []⟩
def d_share_of : He.DefD := ⟨("share_of", none), "share_of", "share_of", defArgs s_share_of, defBody s_share_of, defScope s_share_of, [], []⟩
def d_turn_at : He.DefD := ⟨("turn_at", none), "turn_at", "turn_at", defArgs s_turn_at, defBody s_turn_at, defScope s_turn_at, [], []⟩
def d_between : He.DefD := ⟨("between", none), "between", "between", defArgs s_between, defBody s_between, defScope s_between, [], []⟩
def d_kept_side : He.DefD := ⟨("kept_side", none), "kept_side", "kept_side", defArgs s_kept_side, defBody s_kept_side, defScope s_kept_side, [], []⟩
def d_is_before : He.DefD := ⟨("is_before", none), "is_before", "is_before", defArgs s_is_before, defBody s_is_before, defScope s_is_before, [], []⟩
def d_tidied_part : He.DefD := ⟨("tidied_part", none), "tidied_part", "tidied_part", defArgs s_tidied_part, defBody s_tidied_part, defScope s_tidied_part, [], []⟩
def d_both_of : He.DefD := ⟨("both_of", none), "both_of", "both_of", defArgs s_both_of, defBody s_both_of, defScope s_both_of, [], []⟩
def d_triple_sum : He.DefD := ⟨("triple_sum", none), "triple_sum", "triple_sum", defArgs s_triple_sum, defBody s_triple_sum, defScope s_triple_sum, [], []⟩
def d_triple_less : He.DefD := ⟨("triple_less", none), "triple_less", "triple_less", defArgs s_triple_less, defBody s_triple_less, defScope s_triple_less, [], []⟩
def d_dot_of : He.DefD := ⟨("dot_of", none), "dot_of", "dot_of", defArgs s_dot_of, defBody s_dot_of, defScope s_dot_of, [], []⟩
def d_cross_of : He.DefD := ⟨("cross_of", none), "cross_of", "cross_of", defArgs s_cross_of, defBody s_cross_of, defScope s_cross_of, [], []⟩
def d_front_of : He.DefD := ⟨("front_of", none), "front_of", "front_of", defArgs s_front_of, defBody s_front_of, defScope s_front_of, [], []⟩
def d_comes_from_ahead : He.DefD := ⟨("comes_from_ahead", none), "comes_from_ahead", "comes_from_ahead", defArgs s_comes_from_ahead, defBody s_comes_from_ahead, defScope s_comes_from_ahead, [], []⟩
def d_point_less : He.DefD := ⟨("point_less", none), "point_less", "point_less", defArgs s_point_less, defBody s_point_less, defScope s_point_less, [], []⟩
def d_point_dot : He.DefD := ⟨("point_dot", none), "point_dot", "point_dot", defArgs s_point_dot, defBody s_point_dot, defScope s_point_dot, [], []⟩
def d_meeting_of : He.DefD := ⟨("meeting_of", none), "meeting_of", "meeting_of", defArgs s_meeting_of, defBody s_meeting_of, defScope s_meeting_of, [], []⟩
def d_direction_at : He.DefD := ⟨("direction_at", none), "direction_at", "direction_at", defArgs s_direction_at, defBody s_direction_at, defScope s_direction_at, [], []⟩
def d_is_up : He.DefD := ⟨("is_up", none), "is_up", "is_up", defArgs s_is_up, defBody s_is_up, defScope s_is_up, [], []⟩
def d_corners_of : He.DefD := ⟨("corners_of", none), "corners_of", "corners_of", defArgs s_corners_of, defBody s_corners_of, defScope s_corners_of, [], []⟩
def d_as_point : He.DefD := ⟨("as_point", none), "as_point", "as_point", defArgs s_as_point, defBody s_as_point, defScope s_as_point, [], []⟩
def d_shaded_by : He.DefD := ⟨("shaded_by", none), "shaded_by", "shaded_by", defArgs s_shaded_by, defBody s_shaded_by, defScope s_shaded_by, [], []⟩
def d_left_of : He.DefD := ⟨("left_of", none), "left_of", "left_of", defArgs s_left_of, defBody s_left_of, defScope s_left_of, [], []⟩
def d_lit_share : He.DefD := ⟨("lit_share", none), "lit_share", "lit_share", defArgs s_lit_share, defBody s_lit_share, defScope s_lit_share, [], []⟩
def d__law_cell_at : He.DefD := ⟨("_law_cell_at", none), "_law_cell_at", "_law_cell_at", defArgs s__law_cell_at, defBody s__law_cell_at, defScope s__law_cell_at, [], []⟩
def d__law_draw : He.DefD := ⟨("_law_draw", none), "_law_draw", "_law_draw", defArgs s__law_draw, defBody s__law_draw, defScope s__law_draw, [], []⟩
def d__law_low : He.DefD := ⟨("_law_low", none), "_law_low", "_law_low", defArgs s__law_low, defBody s__law_low, defScope s__law_low, [], []⟩
def d__law_add : He.DefD := ⟨("_law_add", none), "_law_add", "_law_add", defArgs s__law_add, defBody s__law_add, defScope s__law_add, [], []⟩
def d__law_under : He.DefD := ⟨("_law_under", none), "_law_under", "_law_under", defArgs s__law_under, defBody s__law_under, defScope s__law_under, [], []⟩
def d__law_number : He.DefD := ⟨("_law_number", none), "_law_number", "_law_number", defArgs s__law_number, defBody s__law_number, defScope s__law_number, [], []⟩
def d__law_triple : He.DefD := ⟨("_law_triple", none), "_law_triple", "_law_triple", defArgs s__law_triple, defBody s__law_triple, defScope s__law_triple, [], []⟩
def d__law_cross : He.DefD := ⟨("_law_cross", none), "_law_cross", "_law_cross", defArgs s__law_cross, defBody s__law_cross, defScope s__law_cross, [], []⟩
def d__law_dot : He.DefD := ⟨("_law_dot", none), "_law_dot", "_law_dot", defArgs s__law_dot, defBody s__law_dot, defScope s__law_dot, [], []⟩
def d__law_plate : He.DefD := ⟨("_law_plate", none), "_law_plate", "_law_plate", defArgs s__law_plate, defBody s__law_plate, defScope s__law_plate, [], []⟩
def d__law_ahead : He.DefD := ⟨("_law_ahead", none), "_law_ahead", "_law_ahead", defArgs s__law_ahead, defBody s__law_ahead, defScope s__law_ahead, [], []⟩
def d__law_sum : He.DefD := ⟨("_law_sum", none), "_law_sum", "_law_sum", defArgs s__law_sum, defBody s__law_sum, defScope s__law_sum, [], []⟩
def d__law_far : He.DefD := ⟨("_law_far", none), "_law_far", "_law_far", defArgs s__law_far, defBody s__law_far, defScope s__law_far, [], []⟩
def d__law_about : He.DefD := ⟨("_law_about", none), "_law_about", "_law_about", defArgs s__law_about, defBody s__law_about, defScope s__law_about, [], []⟩
def d__law_tip : He.DefD := ⟨("_law_tip", none), "_law_tip", "_law_tip", defArgs s__law_tip, defBody s__law_tip, defScope s__law_tip, [], []⟩
def d__law_left : He.DefD := ⟨("_law_left", none), "_law_left", "_law_left", defArgs s__law_left, defBody s__law_left, defScope s__law_left, [], []⟩
def d__law_yard : He.DefD := ⟨("_law_yard", none), "_law_yard", "_law_yard", defArgs s__law_yard, defBody s__law_yard, defScope s__law_yard, [], []⟩
def d__law_hour : He.DefD := ⟨("_law_hour", none), "_law_hour", "_law_hour", defArgs s__law_hour, defBody s__law_hour, defScope s__law_hour, [], []⟩
def d_law : He.DefD := ⟨("law", none), "law", "law", defArgs s_law, defBody s_law, defScope s_law, [], []⟩
def di_NoHour : He.DefD := ⟨("NoHour", some "__init__"), "__init__", "NoHour.__init__", defArgs si_NoHour, defBody si_NoHour, defScope si_NoHour, [], []⟩
def fn : List He.DefD := [d_is_whole, d_divisor_of, d_ratio_of, d_ratio_sum, d_ratio_less, d_ratio_times, d_ratio_by, d_is_under, d_share_of, d_turn_at, d_between, d_kept_side, d_is_before, d_tidied_part, d_both_of, d_triple_sum, d_triple_less, d_dot_of, d_cross_of, d_front_of, d_comes_from_ahead, d_point_less, d_point_dot, d_meeting_of, d_direction_at, d_is_up, d_corners_of, d_as_point, d_shaded_by, d_left_of, d_lit_share, d__law_cell_at, d__law_draw, d__law_low, d__law_add, d__law_under, d__law_number, d__law_triple, d__law_cross, d__law_dot, d__law_plate, d__law_ahead, d__law_sum, d__law_far, d__law_about, d__law_tip, d__law_left, d__law_yard, d__law_hour, d_law, di_NoHour]
def fa : List He.Fa := [.glo "is_whole", .glo "divisor_of", .glo "ratio_of", .glo "ratio_sum", .glo "ratio_less", .glo "ratio_times", .glo "ratio_by", .glo "is_under", .glo "share_of", .glo "turn_at", .glo "between", .glo "kept_side", .glo "is_before", .glo "tidied_part", .glo "both_of", .glo "triple_sum", .glo "triple_less", .glo "dot_of", .glo "cross_of", .glo "front_of", .glo "comes_from_ahead", .glo "point_less", .glo "point_dot", .glo "meeting_of", .glo "direction_at", .glo "is_up", .glo "corners_of", .glo "as_point", .glo "shaded_by", .glo "left_of", .glo "lit_share", .glo "_law_cell_at", .glo "_law_draw", .glo "_law_low", .glo "_law_add", .glo "_law_under", .glo "_law_number", .glo "_law_triple", .glo "_law_cross", .glo "_law_dot", .glo "_law_plate", .glo "_law_ahead", .glo "_law_sum", .glo "_law_far", .glo "_law_about", .glo "_law_tip", .glo "_law_left", .glo "_law_yard", .glo "_law_hour", .glo "law", .free "bool", .free "isinstance", .free "int", .free "abs", .free "len", .free "range", .free "zip", .free "tuple", .free "max", .free "list", .free "min", .int "MOST" 6, .glo "YardError", .glo "NoNumber", .glo "NoHour", .glo "TooMany", .glo "NoName", .glo "NOUGHT", .glo "WHOLE", .exc "NoNumber", .exc "TooMany", .exc "NoName"]
abbrev Rw : PySem.W.OpenRow := PySem.W.OpenLaw.row PySem.Challenge.rw_dialyard_k77_whole_lit_by_parts
def exF : PySem.W.Frag → Bool := fun K => exB xks xcs K && (yrB K (He.ga K "YardError") && (fxB K "NoHour" "hour" && (He.tupB K "NOUGHT" [.int 0, .int 1] && (repB K (.lst [.tup [.tup [.int 0, .int 1], .tup [.int 0, .int 1]], .tup [.tup [.int 1, .int 1], .tup [.int 0, .int 1]], .tup [.tup [.int 1, .int 1], .tup [.int 1, .int 1]], .tup [.tup [.int 0, .int 1], .tup [.int 1, .int 1]]]) (.ref (He.ga K "WHOLE"))))))
abbrev hk : PySem.W.Hook := hookE 4 fa fn exF
def ob (s : PySem.W.SharedT) : He.AlD := obsEG 4 fa fn exF (HandSHeadRun.getT s)
theorem ob_eq (s : PySem.W.SharedT) : ob s = hk.obs s.abs := obsEG_eq (HandSHeadRun.getT_eq s)
def loose0 : List PySem.Str := ["YardError", "NoNumber", "NoHour", "TooMany", "NoName", "is_whole", "divisor_of", "ratio_of", "ratio_sum", "ratio_less", "ratio_times", "ratio_by", "is_under", "NOUGHT", "share_of", "turn_at", "between", "kept_side", "is_before", "tidied_part", "both_of", "triple_sum", "triple_less", "dot_of", "cross_of", "front_of", "comes_from_ahead", "point_less", "point_dot", "meeting_of"]
def loose1 : List PySem.Str := ["direction_at", "is_up", "WHOLE", "MOST", "corners_of", "as_point", "shaded_by", "left_of", "lit_share", "_law_cell_at", "_law_draw", "_law_low", "_law_add", "_law_less", "_law_mul", "_law_under", "_law_number", "_law_triple", "_law_cross", "_law_dot", "_law_plate", "_law_ahead", "_law_sum", "_law_far", "_law_about", "_law_tip", "_law_left", "_law_yard", "_law_hour"]
def loose : List PySem.Str := loose0 ++ loose1
theorem run (w : World) : HandSHeadRun.RunEq Rw (PySem.W.view Rw.prog [68]) hk ob 20000 loose w := by
  intro os
  kernel_rfl
theorem blts_ok {K : PySem.W.Frag} {h : Heap} {mg : Str → Option Value} (X : K.In h) (G : h.Ns mainGlobals mg) (c : He.SaysD fa fn K) : Blts mg blts := by
  intro i x e
  match i, e with
  | 0, e => cases e; exact He.free_ok X G (c.fact 50 (f := .free "bool") rfl)
  | 1, e => cases e; exact He.free_ok X G (c.fact 51 (f := .free "isinstance") rfl)
  | 2, e => cases e; exact He.free_ok X G (c.fact 52 (f := .free "int") rfl)
  | 3, e => cases e; exact He.free_ok X G (c.fact 53 (f := .free "abs") rfl)
  | 4, e => cases e; exact He.free_ok X G (c.fact 54 (f := .free "len") rfl)
  | 5, e => cases e; exact He.free_ok X G (c.fact 55 (f := .free "range") rfl)
  | 6, e => cases e; exact He.free_ok X G (c.fact 56 (f := .free "zip") rfl)
  | 7, e => cases e; exact He.free_ok X G (c.fact 57 (f := .free "tuple") rfl)
  | 8, e => cases e; exact He.free_ok X G (c.fact 58 (f := .free "max") rfl)
  | 9, e => cases e; exact He.free_ok X G (c.fact 59 (f := .free "list") rfl)
  | 10, e => cases e; exact He.free_ok X G (c.fact 60 (f := .free "min") rfl)
  | i + 11, e => exact absurd e (by simp [blts])
theorem facts_ok {K : PySem.W.Frag} {h : Heap} {mg : Str → Option Value} (X : K.In h) (G : h.Ns mainGlobals mg) (ce : SaysE fa fn exF K) : Facts K mg := by
  have c := ce.d
  refine ⟨?_, ?_, ?_, ?_, ?_, ?_, ?_, ?_, ?_, ?_, ?_, ?_, ?_, ?_, ?_, ?_, ?_⟩
  · intro i x e
    match i, e with
    | 0, e => cases e; exact He.int_ok X G (c.fact 61 (f := .int "MOST" 6) rfl)
    | i + 1, e => exact absurd e (by simp [gints])
  · intro i x e
    match i, e with
    | i + 0, e => exact absurd e (by simp [gstrs])
  · exact (He.glo_ok X G (c.fact 62 (f := .glo "YardError") rfl))
  · exact (He.glo_ok X G (c.fact 63 (f := .glo "NoNumber") rfl))
  · exact (He.glo_ok X G (c.fact 64 (f := .glo "NoHour") rfl))
  · exact (He.glo_ok X G (c.fact 65 (f := .glo "TooMany") rfl))
  · exact (He.glo_ok X G (c.fact 66 (f := .glo "NoName") rfl))
  · exact (He.glo_ok X G (c.fact 67 (f := .glo "NOUGHT") rfl))
  · exact (He.glo_ok X G (c.fact 68 (f := .glo "WHOLE") rfl))
  · obtain ⟨h1, h2, h3, h4⟩ := He.exc_ok (c.fact 69 (f := .exc "NoNumber") rfl)
    exact ⟨(He.glo_ok X G (c.fact 63 (f := .glo "NoNumber") rfl)), h1, h2, h3, h4⟩
  · obtain ⟨h1, h2, h3, h4⟩ := He.exc_ok (c.fact 70 (f := .exc "TooMany") rfl)
    exact ⟨(He.glo_ok X G (c.fact 65 (f := .glo "TooMany") rfl)), h1, h2, h3, h4⟩
  · obtain ⟨h1, h2, h3, h4⟩ := He.exc_ok (c.fact 71 (f := .exc "NoName") rfl)
    exact ⟨(He.glo_ok X G (c.fact 66 (f := .glo "NoName") rfl)), h1, h2, h3, h4⟩
  · exact exB_ok (mg := mg) (show (exB xks xcs K) = true from (He.ba ce.ex).1) (fun _ h => absurd h List.not_mem_nil)
  · exact yrB_ok (show (yrB K (He.ga K "YardError")) = true from (He.ba (He.ba ce.ex).2).1)
  · exact fxB_ok (show (fxB K "NoHour" "hour") = true from (He.ba (He.ba (He.ba ce.ex).2).2).1)
  · exact fun F => Rep.mk_tup (He.tupB_ok (show (He.tupB K "NOUGHT" [.int 0, .int 1]) = true from (He.ba (He.ba (He.ba (He.ba ce.ex).2).2).2).1) F) (RepL.cons Rep.mk_int (RepL.cons Rep.mk_int (RepL.nil)))
  · exact fun F => topB_ok (show (repB K (.lst [.tup [.tup [.int 0, .int 1], .tup [.int 0, .int 1]], .tup [.tup [.int 1, .int 1], .tup [.int 0, .int 1]], .tup [.tup [.int 1, .int 1], .tup [.int 1, .int 1]], .tup [.tup [.int 0, .int 1], .tup [.int 1, .int 1]]]) (.ref (He.ga K "WHOLE"))) = true from (He.ba (He.ba (He.ba (He.ba ce.ex).2).2).2).2) F
theorem facts {P : Program} {w : World} {K : PySem.W.Frag} {h : Heap} {mg : Str → Option Value} {f : Addr} (X : K.In h) (G : h.Ns mainGlobals mg) (hfa : mg ("law" : Str) = some (.ref f)) (ce : SaysE fa fn exF K) :
    ∃ fd : FuncData, (∀ (s : Shared) (v : Value), BindsTo s fd ⟨[v], []⟩ [("_law_script", v)]) ∧ ∀ base : Heap, K.In base → base.Ns mainGlobals mg → FnOk P w K mg base (L2.CX P w) 18 f fd ["_law_script"] (spD K 1 f_law) := by
  have c := ce.d
  obtain ⟨fd_is_whole, F_is_whole⟩ := c.def_ 0 (d := d_is_whole) rfl
  obtain ⟨fd_divisor_of, F_divisor_of⟩ := c.def_ 1 (d := d_divisor_of) rfl
  obtain ⟨fd_ratio_of, F_ratio_of⟩ := c.def_ 2 (d := d_ratio_of) rfl
  obtain ⟨fd_ratio_sum, F_ratio_sum⟩ := c.def_ 3 (d := d_ratio_sum) rfl
  obtain ⟨fd_ratio_less, F_ratio_less⟩ := c.def_ 4 (d := d_ratio_less) rfl
  obtain ⟨fd_ratio_times, F_ratio_times⟩ := c.def_ 5 (d := d_ratio_times) rfl
  obtain ⟨fd_ratio_by, F_ratio_by⟩ := c.def_ 6 (d := d_ratio_by) rfl
  obtain ⟨fd_is_under, F_is_under⟩ := c.def_ 7 (d := d_is_under) rfl
  obtain ⟨fd_share_of, F_share_of⟩ := c.def_ 8 (d := d_share_of) rfl
  obtain ⟨fd_turn_at, F_turn_at⟩ := c.def_ 9 (d := d_turn_at) rfl
  obtain ⟨fd_between, F_between⟩ := c.def_ 10 (d := d_between) rfl
  obtain ⟨fd_kept_side, F_kept_side⟩ := c.def_ 11 (d := d_kept_side) rfl
  obtain ⟨fd_is_before, F_is_before⟩ := c.def_ 12 (d := d_is_before) rfl
  obtain ⟨fd_tidied_part, F_tidied_part⟩ := c.def_ 13 (d := d_tidied_part) rfl
  obtain ⟨fd_both_of, F_both_of⟩ := c.def_ 14 (d := d_both_of) rfl
  obtain ⟨fd_triple_sum, F_triple_sum⟩ := c.def_ 15 (d := d_triple_sum) rfl
  obtain ⟨fd_triple_less, F_triple_less⟩ := c.def_ 16 (d := d_triple_less) rfl
  obtain ⟨fd_dot_of, F_dot_of⟩ := c.def_ 17 (d := d_dot_of) rfl
  obtain ⟨fd_cross_of, F_cross_of⟩ := c.def_ 18 (d := d_cross_of) rfl
  obtain ⟨fd_front_of, F_front_of⟩ := c.def_ 19 (d := d_front_of) rfl
  obtain ⟨fd_comes_from_ahead, F_comes_from_ahead⟩ := c.def_ 20 (d := d_comes_from_ahead) rfl
  obtain ⟨fd_point_less, F_point_less⟩ := c.def_ 21 (d := d_point_less) rfl
  obtain ⟨fd_point_dot, F_point_dot⟩ := c.def_ 22 (d := d_point_dot) rfl
  obtain ⟨fd_meeting_of, F_meeting_of⟩ := c.def_ 23 (d := d_meeting_of) rfl
  obtain ⟨fd_direction_at, F_direction_at⟩ := c.def_ 24 (d := d_direction_at) rfl
  obtain ⟨fd_is_up, F_is_up⟩ := c.def_ 25 (d := d_is_up) rfl
  obtain ⟨fd_corners_of, F_corners_of⟩ := c.def_ 26 (d := d_corners_of) rfl
  obtain ⟨fd_as_point, F_as_point⟩ := c.def_ 27 (d := d_as_point) rfl
  obtain ⟨fd_shaded_by, F_shaded_by⟩ := c.def_ 28 (d := d_shaded_by) rfl
  obtain ⟨fd_left_of, F_left_of⟩ := c.def_ 29 (d := d_left_of) rfl
  obtain ⟨fd_lit_share, F_lit_share⟩ := c.def_ 30 (d := d_lit_share) rfl
  obtain ⟨fd__law_cell_at, F__law_cell_at⟩ := c.def_ 31 (d := d__law_cell_at) rfl
  obtain ⟨fd__law_draw, F__law_draw⟩ := c.def_ 32 (d := d__law_draw) rfl
  obtain ⟨fd__law_low, F__law_low⟩ := c.def_ 33 (d := d__law_low) rfl
  obtain ⟨fd__law_add, F__law_add⟩ := c.def_ 34 (d := d__law_add) rfl
  obtain ⟨fd__law_under, F__law_under⟩ := c.def_ 35 (d := d__law_under) rfl
  obtain ⟨fd__law_number, F__law_number⟩ := c.def_ 36 (d := d__law_number) rfl
  obtain ⟨fd__law_triple, F__law_triple⟩ := c.def_ 37 (d := d__law_triple) rfl
  obtain ⟨fd__law_cross, F__law_cross⟩ := c.def_ 38 (d := d__law_cross) rfl
  obtain ⟨fd__law_dot, F__law_dot⟩ := c.def_ 39 (d := d__law_dot) rfl
  obtain ⟨fd__law_plate, F__law_plate⟩ := c.def_ 40 (d := d__law_plate) rfl
  obtain ⟨fd__law_ahead, F__law_ahead⟩ := c.def_ 41 (d := d__law_ahead) rfl
  obtain ⟨fd__law_sum, F__law_sum⟩ := c.def_ 42 (d := d__law_sum) rfl
  obtain ⟨fd__law_far, F__law_far⟩ := c.def_ 43 (d := d__law_far) rfl
  obtain ⟨fd__law_about, F__law_about⟩ := c.def_ 44 (d := d__law_about) rfl
  obtain ⟨fd__law_tip, F__law_tip⟩ := c.def_ 45 (d := d__law_tip) rfl
  obtain ⟨fd__law_left, F__law_left⟩ := c.def_ 46 (d := d__law_left) rfl
  obtain ⟨fd__law_yard, F__law_yard⟩ := c.def_ 47 (d := d__law_yard) rfl
  obtain ⟨fd__law_hour, F__law_hour⟩ := c.def_ 48 (d := d__law_hour) rfl
  obtain ⟨fd_law, F_law⟩ := c.def_ 49 (d := d_law) rfl
  have e := hfa.symm.trans (He.glo_ok X G (c.fact 49 (f := .glo "law") rfl))
  cases e
  have B := blts_ok X G c
  have M : Facts K mg := facts_ok X G ce
  obtain ⟨fdi_NoHour, Fi_NoHour⟩ := c.def_ 50 (d := di_NoHour) rfl
  have b := FunD.bindsA (ps := ["_law_script"]) F_law fun _ _ _ _ _ _ us hl => match us, hl with | [_], _ => rfl
  refine ⟨fd_law, fun s v => b s [v] rfl, fun base _ _ => ?_⟩
  have I_NoHour : InC P w K mg base "NoHour" "hour" := ⟨⟨_, fdi_NoHour, _, init_NoHour M Fi_NoHour, FunD.bindsN Fi_NoHour (fun _ _ _ _ _ _ us hl => match us, hl with | [_, _], _ => rfl), M.fx_NoHour.fi, M.fx_NoHour.ft⟩, M.fx_NoHour.ox, M.fx_NoHour.no, M.glo_NoHour⟩
  have C_is_whole := cal_is_whole (P := P) (w := w) (base := base) B M  F_is_whole (He.glo_ok X G (c.fact 0 (f := .glo "is_whole") rfl))
  have C_divisor_of := cal_divisor_of (P := P) (w := w) (base := base) B M  F_divisor_of (He.glo_ok X G (c.fact 1 (f := .glo "divisor_of") rfl))
  have C_ratio_of := cal_ratio_of (P := P) (w := w) (base := base) B M C_is_whole C_divisor_of F_ratio_of (He.glo_ok X G (c.fact 2 (f := .glo "ratio_of") rfl))
  have C_ratio_sum := cal_ratio_sum (P := P) (w := w) (base := base) B M C_ratio_of F_ratio_sum (He.glo_ok X G (c.fact 3 (f := .glo "ratio_sum") rfl))
  have C_ratio_less := cal_ratio_less (P := P) (w := w) (base := base) B M C_ratio_of F_ratio_less (He.glo_ok X G (c.fact 4 (f := .glo "ratio_less") rfl))
  have C_ratio_times := cal_ratio_times (P := P) (w := w) (base := base) B M C_ratio_of F_ratio_times (He.glo_ok X G (c.fact 5 (f := .glo "ratio_times") rfl))
  have C_ratio_by := cal_ratio_by (P := P) (w := w) (base := base) B M C_ratio_of F_ratio_by (He.glo_ok X G (c.fact 6 (f := .glo "ratio_by") rfl))
  have C_is_under := cal_is_under (P := P) (w := w) (base := base) B M  F_is_under (He.glo_ok X G (c.fact 7 (f := .glo "is_under") rfl))
  have C_share_of := cal_share_of (P := P) (w := w) (base := base) B M C_ratio_sum C_ratio_less C_ratio_times C_ratio_of F_share_of (He.glo_ok X G (c.fact 8 (f := .glo "share_of") rfl))
  have C_turn_at := cal_turn_at (P := P) (w := w) (base := base) B M C_ratio_times C_ratio_less F_turn_at (He.glo_ok X G (c.fact 9 (f := .glo "turn_at") rfl))
  have C_between := cal_between (P := P) (w := w) (base := base) B M C_ratio_by C_ratio_less C_ratio_sum C_ratio_times F_between (He.glo_ok X G (c.fact 10 (f := .glo "between") rfl))
  have C_kept_side := cal_kept_side (P := P) (w := w) (base := base) B M C_is_under C_ratio_times C_between F_kept_side (He.glo_ok X G (c.fact 11 (f := .glo "kept_side") rfl))
  have C_is_before := cal_is_before (P := P) (w := w) (base := base) B M C_is_under F_is_before (He.glo_ok X G (c.fact 12 (f := .glo "is_before") rfl))
  have C_tidied_part := cal_tidied_part (P := P) (w := w) (base := base) B M C_turn_at C_is_under C_share_of C_is_before F_tidied_part (He.glo_ok X G (c.fact 13 (f := .glo "tidied_part") rfl))
  have C_both_of := cal_both_of (P := P) (w := w) (base := base) B M C_kept_side C_turn_at C_tidied_part F_both_of (He.glo_ok X G (c.fact 14 (f := .glo "both_of") rfl))
  have C_triple_sum := cal_triple_sum (P := P) (w := w) (base := base) B M  F_triple_sum (He.glo_ok X G (c.fact 15 (f := .glo "triple_sum") rfl))
  have C_triple_less := cal_triple_less (P := P) (w := w) (base := base) B M  F_triple_less (He.glo_ok X G (c.fact 16 (f := .glo "triple_less") rfl))
  have C_dot_of := cal_dot_of (P := P) (w := w) (base := base) B M  F_dot_of (He.glo_ok X G (c.fact 17 (f := .glo "dot_of") rfl))
  have C_cross_of := cal_cross_of (P := P) (w := w) (base := base) B M  F_cross_of (He.glo_ok X G (c.fact 18 (f := .glo "cross_of") rfl))
  have C_front_of := cal_front_of (P := P) (w := w) (base := base) B M C_cross_of F_front_of (He.glo_ok X G (c.fact 19 (f := .glo "front_of") rfl))
  have C_comes_from_ahead := cal_comes_from_ahead (P := P) (w := w) (base := base) B M C_dot_of C_front_of F_comes_from_ahead (He.glo_ok X G (c.fact 20 (f := .glo "comes_from_ahead") rfl))
  have C_point_less := cal_point_less (P := P) (w := w) (base := base) B M C_ratio_less F_point_less (He.glo_ok X G (c.fact 21 (f := .glo "point_less") rfl))
  have C_point_dot := cal_point_dot (P := P) (w := w) (base := base) B M C_ratio_sum C_ratio_times F_point_dot (He.glo_ok X G (c.fact 22 (f := .glo "point_dot") rfl))
  have C_meeting_of := cal_meeting_of (P := P) (w := w) (base := base) B M C_dot_of C_front_of C_point_less C_ratio_by C_point_dot C_cross_of F_meeting_of (He.glo_ok X G (c.fact 23 (f := .glo "meeting_of") rfl))
  have C_direction_at := cal_direction_at (P := P) (w := w) (base := base) B M I_NoHour F_direction_at (He.glo_ok X G (c.fact 24 (f := .glo "direction_at") rfl))
  have C_is_up := cal_is_up (P := P) (w := w) (base := base) B M C_direction_at F_is_up (He.glo_ok X G (c.fact 25 (f := .glo "is_up") rfl))
  have C_corners_of := cal_corners_of (P := P) (w := w) (base := base) B M C_triple_sum F_corners_of (He.glo_ok X G (c.fact 26 (f := .glo "corners_of") rfl))
  have C_as_point := cal_as_point (P := P) (w := w) (base := base) B M  F_as_point (He.glo_ok X G (c.fact 27 (f := .glo "as_point") rfl))
  have C_shaded_by := cal_shaded_by (P := P) (w := w) (base := base) B M C_front_of C_corners_of C_dot_of C_triple_less C_kept_side C_as_point C_both_of C_tidied_part C_meeting_of F_shaded_by (He.glo_ok X G (c.fact 28 (f := .glo "shaded_by") rfl))
  have C_left_of := cal_left_of (P := P) (w := w) (base := base) B M C_share_of C_ratio_less C_both_of F_left_of (He.glo_ok X G (c.fact 29 (f := .glo "left_of") rfl))
  have C_lit_share := cal_lit_share (P := P) (w := w) (base := base) B M C_direction_at C_comes_from_ahead C_is_up C_shaded_by C_left_of F_lit_share (He.glo_ok X G (c.fact 30 (f := .glo "lit_share") rfl))
  have C__law_cell_at := cal__law_cell_at (P := P) (w := w) (base := base) B M  F__law_cell_at (He.glo_ok X G (c.fact 31 (f := .glo "_law_cell_at") rfl))
  have C__law_draw := cal__law_draw (P := P) (w := w) (base := base) B M  F__law_draw (He.glo_ok X G (c.fact 32 (f := .glo "_law_draw") rfl))
  have C__law_low := cal__law_low (P := P) (w := w) (base := base) B M  F__law_low (He.glo_ok X G (c.fact 33 (f := .glo "_law_low") rfl))
  have C__law_add := cal__law_add (P := P) (w := w) (base := base) B M C__law_low F__law_add (He.glo_ok X G (c.fact 34 (f := .glo "_law_add") rfl))
  have C__law_under := cal__law_under (P := P) (w := w) (base := base) B M  F__law_under (He.glo_ok X G (c.fact 35 (f := .glo "_law_under") rfl))
  have C__law_number := cal__law_number (P := P) (w := w) (base := base) B M C__law_draw F__law_number (He.glo_ok X G (c.fact 36 (f := .glo "_law_number") rfl))
  have C__law_triple := cal__law_triple (P := P) (w := w) (base := base) B M C__law_number F__law_triple (He.glo_ok X G (c.fact 37 (f := .glo "_law_triple") rfl))
  have C__law_cross := cal__law_cross (P := P) (w := w) (base := base) B M  F__law_cross (He.glo_ok X G (c.fact 38 (f := .glo "_law_cross") rfl))
  have C__law_dot := cal__law_dot (P := P) (w := w) (base := base) B M  F__law_dot (He.glo_ok X G (c.fact 39 (f := .glo "_law_dot") rfl))
  have C__law_plate := cal__law_plate (P := P) (w := w) (base := base) B M C__law_triple C__law_cross F__law_plate (He.glo_ok X G (c.fact 40 (f := .glo "_law_plate") rfl))
  have C__law_ahead := cal__law_ahead (P := P) (w := w) (base := base) B M C__law_dot F__law_ahead (He.glo_ok X G (c.fact 41 (f := .glo "_law_ahead") rfl))
  have C__law_sum := cal__law_sum (P := P) (w := w) (base := base) B M  F__law_sum (He.glo_ok X G (c.fact 42 (f := .glo "_law_sum") rfl))
  have C__law_far := cal__law_far (P := P) (w := w) (base := base) B M  F__law_far (He.glo_ok X G (c.fact 43 (f := .glo "_law_far") rfl))
  have C__law_about := cal__law_about (P := P) (w := w) (base := base) B M C__law_sum C__law_draw C__law_plate C__law_far C__law_cross F__law_about (He.glo_ok X G (c.fact 44 (f := .glo "_law_about") rfl))
  have C__law_tip := cal__law_tip (P := P) (w := w) (base := base) B M C__law_cross C__law_ahead C__law_draw C__law_sum C__law_far F__law_tip (He.glo_ok X G (c.fact 45 (f := .glo "_law_tip") rfl))
  have C__law_left := cal__law_left (P := P) (w := w) (base := base) B M C_both_of C_share_of C__law_add F__law_left (He.glo_ok X G (c.fact 46 (f := .glo "_law_left") rfl))
  have C__law_yard := cal__law_yard (P := P) (w := w) (base := base) B M  F__law_yard (He.glo_ok X G (c.fact 47 (f := .glo "_law_yard") rfl))
  have C__law_hour := cal__law_hour (P := P) (w := w) (base := base) B M C_lit_share C__law_yard C__law_dot C__law_cross C_shaded_by C__law_left C__law_under F__law_hour (He.glo_ok X G (c.fact 48 (f := .glo "_law_hour") rfl))
  exact ok_law B M C__law_cell_at C__law_plate C__law_tip C__law_triple C__law_draw C__law_ahead C__law_cross C__law_far C__law_about C_lit_share C__law_yard C__law_hour F_law
end Gn
open PySem PySem.W PySem.Calls PyProof.Rows
set_option maxRecDepth 100000 in
set_option maxHeartbeats 0 in
theorem Gn.holds_of (LT : ∀ (ns : List Int), ns.length ≤ 63 → Gn.f_law [.lst (ns.map .int)] = .ok (.bl true)) : PySem.Challenge.rw_dialyard_k77_whole_lit_by_parts.Holds := by
  w_on; o_law
  refine HandSHeadRun.head_any (r := OpenLaw.row PySem.Challenge.rw_dialyard_k77_whole_lit_by_parts) (q := view (OpenLaw.row PySem.Challenge.rw_dialyard_k77_whole_lit_by_parts).prog [68]) (H := Gn.hk) (ob := Gn.ob) (M := 20000) (loose := Gn.loose) (d := HandSHeadRun.topDef (OpenLaw.row PySem.Challenge.rw_dialyard_k77_whole_lit_by_parts).prog 68) (kwd := []) Gn.ob_eq
    (by kernel_rfl) (fun s => by kernel_rfl) Gn.run (by kernel_rfl) (by kernel_rfl) (by kernel_rfl) (by rfl) (by first | assumption | decide +kernel) (by decide +kernel) ⟨rfl, rfl, rfl, rfl, rfl, by decide +kernel⟩ ?hw ?hc
  case hw => w_witness2
  case hc =>
    refine Dy.walk_ofW (l := PySem.Challenge.rw_dialyard_k77_whole_lit_by_parts) (n := 63) (k := 18) (x := "_law_script") (CX := fun w => L2.CX (PySem.Challenge.rw_dialyard_k77_whole_lit_by_parts).prog w) rfl (by decide) (by kernel_rfl) ⟨rfl, by decide, by decide⟩ ?F (fun _ _ _ _ _ z => Dy.cx_false z)
    intro w mg fa h Y G hmg0
    obtain ⟨K, KX, c⟩ := Y
    have hmg : mg ("law" : PySem.Str) = some (.ref fa) := by
      have e : (HandSHeadRun.topDef (OpenLaw.row PySem.Challenge.rw_dialyard_k77_whole_lit_by_parts).prog 68).name = ("law" : PySem.Str) := by kernel_rfl
      rw [← e]
      exact hmg0
    obtain ⟨fd, hb, hF⟩ := Gn.facts (P := (PySem.Challenge.rw_dialyard_k77_whole_lit_by_parts).prog) (w := w) KX G hmg c
    exact ⟨K, fd, Dy.spD K 1 Gn.f_law, KX, hb, fun H a ns hl _ hS => Dy.law_sp hS (LT ns hl), hF⟩

end
section
set_option maxHeartbeats 4000000
namespace Gn
open PySem PySem.Spec PyProof.Rows L2 Dy
local macro_rules | `(tactic| wtm_at "y_bd") => `(tactic| ((repeat' (first | assumption | (with_reducible apply Bd.mul) | (with_reducible apply RB.n) | (with_reducible apply RB.d) | (with_reducible apply RB.add) | (with_reducible apply RB.sub) | (with_reducible apply RB.mul) | (with_reducible apply RB.int) | (with_reducible apply Bd.addM) | (with_reducible apply Bd.subM) | (with_reducible apply Bd.neg) | (with_reducible apply Bd.mod; (first | decide | omega)) | exact Bd.lit (n := 2) (by decide) | exact Bd.lit (n := 36) (by decide) | exact Bd.lit (n := 200) (by decide))) <;> done))
local macro_rules | `(tactic| wtm_at "y_mulok") => `(tactic| first | exact MuOk.of (n := 200) (m := 200) (Bd.lit (by decide)) (Bd.lit (by decide)) (by decide) | exact MuOk.of (by wtm_at "y_bd") (by wtm_at "y_bd") (by first | decide | omega))
local macro_rules | `(tactic| wtm_at "y_line") => `(tactic| first | assumption | exact Nat.le_of_ble_eq_true rfl | (simp only [List.length_append, List.length_map, List.length_cons, List.length_nil, sizeLine_eq]; omega))
local macro_rules | `(tactic| wtm_at "y_pos") => `(tactic| first | assumption | decide | omega)
local macro_rules | `(tactic| wtm_at "y_known") => `(tactic| first | assumption | (with_reducible rfl) | ((with_reducible show ((List.length (_ :: _) : Nat) : Int) = _); exact rfl) | omega | exact ⟨rfl, rfl⟩ | exact ⟨rfl, rfl, rfl⟩)
local macro_rules | `(tactic| wtm_at "y_okq") => `(tactic| first | rfl | exact okq_ints _ | simp [okq])
local macro_rules | `(tactic| wtm_at "y_dyop") => `(tactic| first
  | (with_reducible refine w_bSeqR ?_)
  | (with_reducible refine w_bSeqT rfl ?_)
  | (with_reducible refine w_bSeqL rfl ?_)
  | (with_reducible refine w_bName ?_)
  | ((with_reducible show Got (bCons _ _ (List.map _ _) _) _); simp only [List.map_cons, List.map_nil])
  | (with_reducible refine w_bCons ?_)
  | (with_reducible refine w_bNil ?_)
  | ((with_reducible show Got (oIx _ _) _); first | ((with_reducible show Got (oIx (D.lst _) (D.int _)) _); refine w_ixL rfl ?_) | ((with_reducible show Got (oIx (D.tup _) (D.int _)) _); refine w_ixT rfl ?_) | (with_reducible refine w_ixR0 ?_) | (with_reducible refine w_ixR1 ?_))
  | ((with_reducible show Got (oAdd _ _) _); first | (with_reducible refine w_addI ?_) | ((with_reducible refine w_addL ?_ ?_); (focus (wtm_at "y_line"; done))) | ((with_reducible refine w_addT ?_ ?_); (focus (wtm_at "y_line"; done))))
  | ((with_reducible refine w_mul ?_ ?_); (focus (wtm_at "y_mulok"; done)))
  | ((with_reducible refine w_mod ?_ ?_); (focus (wtm_at "y_pos"; done)))
  | ((with_reducible refine w_div ?_ ?_ ?_); (focus (wtm_at "y_pos"; done)); (focus (first | (exact Bd.log (n := 200) (Bd.lit (by decide)) (by decide)) | (exact Bd.log (n := 200) (by assumption) (by decide)) | (exact Bd.log (by wtm_at "y_bd") (by decide)))))
  | ((with_reducible show Got (oEq _ _) _); first | (with_reducible refine w_eqI ?_) | ((with_reducible refine w_eqNil ?_ ?_); (focus (wtm_at "y_okq"; done))) | (with_reducible refine w_eq3 ?_) | (with_reducible refine w_eqRR ?_) | (with_reducible refine w_eqRRR ?_) | (with_reducible refine w_eqR ?_))
  | ((with_reducible show Got (oNe _ _) _); first | (with_reducible refine w_neI ?_) | ((with_reducible refine w_neNil ?_ ?_); (focus (wtm_at "y_okq"; done))) | (with_reducible refine w_ne3 ?_) | (with_reducible refine w_neRR ?_) | (with_reducible refine w_neRRR ?_) | (with_reducible refine w_neR ?_))
  | (with_reducible refine w_sub ?_)
  | ((with_reducible refine w_pow ?_ ?_); (focus decide); simp only [Int.reducePow, Int.reduceToNat])
  | (with_reducible refine w_lt ?_)
  | (with_reducible refine w_le ?_)
  | (with_reducible refine w_gt ?_)
  | (with_reducible refine w_ge ?_)
  | (with_reducible refine w_neg ?_)
  | (with_reducible refine w_isN ?_)
  | (with_reducible refine w_notN ?_)
  | (with_reducible refine w_lenL ?_)
  | (with_reducible refine w_lenT ?_)
  | (with_reducible refine w_max2 ?_)
  | (with_reducible refine w_min2 ?_)
  | (with_reducible refine w_min3 ?_)
  | (with_reducible refine w_abs ?_)
  | (with_reducible refine w_listL ?_)
  | (with_reducible refine w_listT ?_)
  | (with_reducible refine w_tupleL ?_)
  | (with_reducible refine w_tupleT ?_)
  | ((with_reducible show Got (oIsi [_, D.ty _]) _); refine w_isi (by with_reducible first | exact kt_zb | exact kt_zi | exact kt_zt | exact kt_zl | exact kt_zs | exact kt_zd | exact kt_rt | exact kt_rb | exact kt_ri | exact kt_rl | exact kt_ib | exact kt_ii | exact kt_it | exact kt_il | exact kt_is | exact kt_id | exact kt_bb | exact kt_bi | exact kt_bt | exact kt_bl | exact kt_bs | exact kt_bd | exact kt_tb | exact kt_ti | exact kt_tt | exact kt_tl | exact kt_ts | exact kt_td | exact kt_lb | exact kt_li | exact kt_lt | exact kt_ll | exact kt_ls | exact kt_ld | exact kt_sb | exact kt_si | exact kt_st | exact kt_sl | exact kt_ss | exact kt_sd | exact kt_nb | exact kt_ni | exact kt_nt | exact kt_nl | exact kt_ns | exact kt_nd | exact kt_db | exact kt_di | exact kt_dt | exact kt_dl | exact kt_ds | exact kt_dd) ?_)
  | ((with_reducible refine w_range3 ?_ ?_ ?_ ?_); (focus decide); (focus (first | decide | (constructor <;> omega))); (focus (first | decide | (constructor <;> omega))))
  | (with_reducible refine w_rng3 ?_)
  | (with_reducible refine w_zip3 ?_)
  | (with_reducible refine w_sum3 ?_)
  | ((with_reducible refine w_range1 ?_ ?_); (focus (first | decide | (constructor <;> omega))))
  | ((with_reducible refine w_range2 ?_ ?_ ?_); (focus (first | decide | (constructor <;> omega))); (focus (first | decide | (constructor <;> omega))))
  | ((with_reducible show Got (oSum _) _); refine w_sum rfl ?_)
  | ((with_reducible show Got (oSl _ _ _) _); refine g_ot rfl ?_)
  | ((with_reducible show Got (enum1 _) _); refine g_ot rfl ?_)
  | ((with_reducible show Got (zip2 _) _); refine g_ot rfl ?_)
  | (with_reducible refine w_iterR ?_)
  | ((with_reducible show Got (iterD (D.lst _)) _); refine g_ot rfl ?_)
  | ((with_reducible show Got (iterD (D.tup _)) _); refine g_ot rfl ?_)
  | (with_reducible refine w_lenR ?_))
local macro_rules | `(tactic| wtm_at "y_dyk") => `(tactic| first
  | (with_reducible refine k_tt ?_) | (with_reducible refine k_ff ?_) | (with_reducible refine k_nt ?_) | (with_reducible refine k_nf ?_)
  | ((with_reducible refine k_dT ?_ ?_); (focus (wtm_at "y_known"; done))) | ((with_reducible refine k_dF ?_ ?_); (focus (wtm_at "y_known"; done))) | ((with_reducible refine k_ndT ?_ ?_); (focus (wtm_at "y_known"; done))) | ((with_reducible refine k_ndF ?_ ?_); (focus (wtm_at "y_known"; done)))
  | ((with_reducible refine k_nndT ?_ ?_); (focus (wtm_at "y_known"; done))) | ((with_reducible refine k_nndF ?_ ?_); (focus (wtm_at "y_known"; done)))
  | (with_reducible refine k_d (fun _ => ?_) (fun _ => ?_)) | (with_reducible refine k_nd (fun _ => ?_) (fun _ => ?_)) | (with_reducible refine k_nnd (fun _ => ?_) (fun _ => ?_)) | ((with_reducible show Fork (D.isNon _) _ _); first | refine k_tt ?_ | refine k_ff ?_) | ((with_reducible show Fork (!(D.isNon _)) _ _); first | refine k_nt ?_ | refine k_nf ?_) | ((with_reducible show Fork (List.isEmpty _) _ _); first | refine k_tt ?_ | refine k_ff ?_) | ((with_reducible show Fork (!(List.isEmpty _)) _ _); first | refine k_nt ?_ | refine k_nf ?_) | (with_reducible refine k_any (fun _ => ?_) (fun _ => ?_)))
local macro_rules | `(tactic| wtm_at "q_wp") => `(tactic| first
  | ((with_reducible show R.wp (eVar _ _) _ _); refine wp_var rfl ?_)
  | (with_reducible refine wp_c ?_)
  | ((with_reducible show R.wp (uPeek _ _ _) _ _); refine wp_uPeek rfl ?_)
  | ((with_reducible show R.wp (ePeek _ _ _) _ _); refine wp_ePeek rfl ?_)
  | ((with_reducible show R.wp (eIxO _ _ _) _ _); refine wp_ixO rfl ?_)
  | (with_reducible refine wp_bin ?_)
  | (with_reducible refine wp_cons ?_)
  | (with_reducible refine wp_nil ?_)
  | (with_reducible refine wp_tup ?_)
  | (with_reducible refine wp_lst ?_)
  | (with_reducible refine wp_call ?_)
  | (with_reducible refine wp_n ?_)
  | (with_reducible refine wp_un ?_)
  | (with_reducible refine wp_test ?_)
  | (with_reducible refine wp_and ?_)
  | (with_reducible refine wp_or ?_)
  | (with_reducible refine wp_not ?_)
  | (with_reducible refine wp_andV ?_)
  | (with_reducible refine wp_orV ?_)
  | (with_reducible refine wp_notV ?_)
  | (with_reducible refine wp_chain ?_)
  | (with_reducible refine wp_dct0 ?_)
  | (with_reducible refine wp_sl ?_)
  | (with_reducible refine wp_no ?_)
  | (with_reducible refine wp_some ?_)
  | (with_reducible refine wp_iD ?_)
  | (with_reducible refine wp_iArgs ?_)
  | (with_reducible refine wp_compU ?_)
  | (with_reducible refine wp_yes ?_))
local macro_rules | `(tactic| wtm_at "q_sp") => `(tactic| first
  | (with_reducible refine sp_seq ?_)
  | (with_reducible refine sp_skip ?_)
  | (with_reducible refine sp_ret ?_)
  | (with_reducible refine sp_setU ?_)
  | (with_reducible refine sp_expr ?_)
  | (with_reducible refine sp_if ?_)
  | (with_reducible refine sp_parU ?_)
  | (with_reducible refine sp_asg ?_)
  | (with_reducible refine sp_ownU ?_)
  | ((with_reducible show SR.wp (sFreeze _ _ _) _ _ _); first | refine sp_frO rfl ?_ | refine sp_frV rfl ?_ | refine sp_frU rfl ?_)
  | (with_reducible refine sp_for ?_)
  | ((with_reducible show SR.wp (sApp _ _ _) _ _ _); refine sp_appU rfl ?_))
local macro_rules | `(tactic| wtm_at "q_got") => `(tactic| first
  | ((with_reducible show Got (compS _ _ _ _ _) _); first | refine c_cons ?_ | refine c_nil ?_)
  | wtm_at "y_dyop")
local macro_rules | `(tactic| wtm_at "y_dy") => `(tactic| first
  | ((with_reducible show R.wp _ _ _); wtm_at "q_wp")
  | ((with_reducible show SR.wp _ _ _ _); wtm_at "q_sp")
  | ((with_reducible show Upd _ _ _ _); refine upd_step (by ((simp only [List.set_cons_zero, List.set_cons_succ]) <;> rfl)) ?_)
  | ((with_reducible show Got _ _); wtm_at "q_got")
  | ((with_reducible show Fork _ _ _); wtm_at "y_dyk")
  | (with_reducible refine sc_int ?_)
  | (with_reducible refine sc_bl ?_)
  | (with_reducible refine ex_bl ?_)
  | (with_reducible refine ex_int ?_)
  | (with_reducible refine ex_two ?_)
  | (with_reducible refine wipe_cons ?_)
  | (with_reducible refine wipe_nil ?_)
  | (with_reducible refine fs_cons ?_)
  | (with_reducible refine fs_nil ?_)
  | ((with_reducible refine f_its ?_ ?_); (focus (wtm_at "y_line"; done)))
  | ((with_reducible refine g_rows ?_ ?_); (focus (wtm_at "y_line"; done))))
local macro_rules | `(tactic| wtm_at "y_bdn") => `(tactic| (exact Bd.mono (by wtm_at "y_bd") (by decide)))
local macro_rules | `(tactic| wtm_at "y_fn") => `(tactic| fail)
local macro_rules | `(tactic| wtm_at "y_go") => `(tactic| repeat' (first | wtm_at "y_dy" | wtm_at "y_fn"))
local macro_rules | `(tactic| wtm_at "y_in") => `(tactic| refine wp_fnU rfl (by ((simp only [List.map_cons, List.map_nil, List.cons_append, List.nil_append, List.replicate_succ, List.replicate_zero, Nat.reduceSub, Nat.sub_self]) <;> rfl)) ?_)
local macro_rules | `(tactic| wtm_at "y_false") => `(tactic| (exfalso; first | omega | grind | (simp_all; done)))
local macro_rules | `(tactic| wtm_at "y_ne3") => `(tactic| (with_reducible refine w_neS (tup3 (by first | rfl | omega | grind) (by first | rfl | omega | grind) (by first | rfl | omega | grind)) rfl ?_))
local macro_rules | `(tactic| wtm_at "y_rb") => `(tactic| wtm_at "y_bd")
local macro_rules | `(tactic| wtm_at "y_sz") => `(tactic| first | decide | omega)
local macro_rules | `(tactic| wtm_at "y_all") => `(tactic| repeat' (first | exact List.forall_mem_nil _ | refine List.forall_mem_cons.mpr ⟨?_, ?_⟩ | exact ⟨_, rfl, by wtm_at "y_bdn"⟩))
/-! ### fractions -/
theorem sp_is_whole {i : Int} {P : D → Prop} (h : P (.bl true)) : (f_is_whole [.int i]).wp P NoE := by
  wtm_at "y_in"
  repeat' wtm_at "y_dy"
  exact h
theorem sp_divisor_of {a b : Int} {P : D → Prop} (h : P (.int (Int.gcd a b))) : (f_divisor_of [.int a, .int b]).wp P NoE := by
  wtm_at "y_in"
  refine sp_seq ?_
  refine sp_while (fun ρ => ∃ x y : Int, ρ = [.val (.int x), .val (.int y)] ∧ Int.gcd x y = Int.gcd a b) (fun ρ => match ρ with | [_, .val (.int y)] => y.natAbs | _ => 0) ⟨a, b, rfl, rfl⟩ ?_
  rintro _ ⟨x, y, rfl, hg⟩
  refine wp_test ?_
  repeat' wtm_at "y_dy"
  · rename_i hy
    refine w_modG hy ?_
    repeat' wtm_at "y_dy"
    exact ⟨⟨y, x.fmod y, rfl, by rw [gcd_fmod]; exact hg⟩, fmod_lt x y hy⟩
  · rename_i hy
    have hy0 : y = 0 := by omega
    subst hy0
    repeat' wtm_at "y_dy"
    have e : (if x < 0 then -x else x) = (Int.gcd a b : Int) := by
      rw [← hg, Int.gcd_zero_right]; split <;> omega
    rw [e]; exact h
theorem sp_ratio_of {a b : Int} {P : D → Prop} {m : Nat} (hb : b ≠ 0) (hs : Bd m b) (hm : m < 9000) (h : P (rD (Rat.divInt a b))) : (f_ratio_of [.int a, .int b]).wp P NoE := by
  have hg : 0 < Int.gcd a b := Int.gcd_pos_of_ne_zero_right a hb
  have hgb : (Int.gcd a b : Int).natAbs ≤ b.natAbs := by
    rw [Int.natAbs_natCast]
    exact Nat.le_of_dvd (by omega) (Int.natAbs_dvd_natAbs.mpr (Int.gcd_dvd_right a b))
  have hl : (Int.gcd a b : Int).natAbs.log2 < 9000 := Bd.log (Nat.lt_of_le_of_lt hgb hs) hm
  wtm_at "y_in"
  repeat' wtm_at "y_dy"
  refine sp_is_whole ?_
  repeat' wtm_at "y_dy"
  refine sp_is_whole ?_
  repeat' wtm_at "y_dy"
  refine sp_divisor_of ?_
  repeat' wtm_at "y_dy"
  · rename_i hb0
    refine w_divG (by omega) (by rw [Int.natAbs_neg]; exact hl) ?_
    repeat' wtm_at "y_dy"
    refine w_divG (by omega) (by rw [Int.natAbs_neg]; exact hl) ?_
    repeat' wtm_at "y_dy"
    unfold rD at h
    rw [ratio_num a b hb, ratio_den a b hb, if_pos hb0, if_pos hb0] at h
    exact h
  · rename_i hb0
    refine w_divG (by omega) hl ?_
    repeat' wtm_at "y_dy"
    refine w_divG (by omega) hl ?_
    repeat' wtm_at "y_dy"
    unfold rD at h
    rw [ratio_num a b hb, ratio_den a b hb, if_neg hb0, if_neg hb0] at h
    exact h
theorem sp_ratio_int {a : Int} {P : D → Prop} (h : P (rD (a : Rat))) : (f_ratio_of [.int a, .int 1]).wp P NoE := by
  refine sp_ratio_of (m := 1) (by decide) (Bd.lit (by decide)) (by decide) ?_
  rw [Rat.divInt_eq_div, show ((1 : Int) : Rat) = 1 from rfl, show (a : Rat) / 1 = a by grind]
  exact h
section
variable {x y : Rat} {P : D → Prop} {n m n' m' : Nat}
theorem sp_ratio_sum (hx : RB n m x) (hy : RB n' m' y) (hs : n + m' < 100000000 ∧ n' + m < 100000000 ∧ m + m' < 9000) (h : P (rD (x + y))) : (f_ratio_sum [rD x, rD y]).wp P NoE := by
  obtain ⟨x1, x2⟩ := hx
  obtain ⟨y1, y2⟩ := hy
  unfold rD at *
  wtm_at "y_in"
  repeat' wtm_at "y_dy"
  refine sp_ratio_of (den_mul_ne x y) (x2.mul y2) hs.2.2 ?_
  rw [divInt_add]
  exact h
theorem sp_ratio_less (hx : RB n m x) (hy : RB n' m' y) (hs : n + m' < 100000000 ∧ n' + m < 100000000 ∧ m + m' < 9000) (h : P (rD (x - y))) : (f_ratio_less [rD x, rD y]).wp P NoE := by
  obtain ⟨x1, x2⟩ := hx
  obtain ⟨y1, y2⟩ := hy
  unfold rD at *
  wtm_at "y_in"
  repeat' wtm_at "y_dy"
  refine sp_ratio_of (den_mul_ne x y) (x2.mul y2) hs.2.2 ?_
  rw [divInt_sub]
  exact h
theorem sp_ratio_times (hx : RB n m x) (hy : RB n' m' y) (hs : n + n' < 100000000 ∧ m + m' < 9000) (h : P (rD (x * y))) : (f_ratio_times [rD x, rD y]).wp P NoE := by
  obtain ⟨x1, x2⟩ := hx
  obtain ⟨y1, y2⟩ := hy
  have hs2 : m + m' < 100000000 := by omega
  unfold rD at *
  wtm_at "y_in"
  repeat' wtm_at "y_dy"
  refine sp_ratio_of (den_mul_ne x y) (x2.mul y2) hs.2 ?_
  rw [divInt_mul]
  exact h
theorem sp_ratio_by (h0 : y ≠ 0) (hx : RB n m x) (hy : RB n' m' y) (hs : n + m' < 100000000 ∧ m + n' < 9000) (h : P (rD (x / y))) : (f_ratio_by [rD x, rD y]).wp P NoE := by
  obtain ⟨x1, x2⟩ := hx
  obtain ⟨y1, y2⟩ := hy
  have hs2 : m + n' < 100000000 := by omega
  unfold rD at *
  wtm_at "y_in"
  repeat' wtm_at "y_dy"
  refine sp_ratio_of (Int.mul_ne_zero (den_ne x) fun z => h0 (Rat.num_eq_zero.mp z)) (x2.mul y1) hs.2 ?_
  rw [divInt_div]
  exact h
theorem sp_is_under (hx : RB n m x) (hy : RB n' m' y) (hs : n + m' < 100000000 ∧ n' + m < 100000000) (h : P (.bl (decide (x < y)))) : (f_is_under [rD x, rD y]).wp P NoE := by
  obtain ⟨x1, x2⟩ := hx
  obtain ⟨y1, y2⟩ := hy
  unfold rD at *
  wtm_at "y_in"
  repeat' wtm_at "y_dy"
  have e : decide (x.num * ↑y.den < y.num * ↑x.den) = decide (x < y) := by simp only [Rat.lt_iff]
  rw [e]
  exact h
end
theorem sp_under_0 {x : Rat} {P : D → Prop} {n m : Nat} (hx : RB n m x) (hs : n < 1000000 ∧ m < 1000000) (h : P (.bl (decide (x < 0)))) : (f_is_under [rD x, .tup [.int 0, .int 1]]).wp P NoE :=
  sp_is_under (y := 0) hx RB.zero (by omega) h
theorem sp_under_1 {x : Rat} {P : D → Prop} {n m : Nat} (hx : RB n m x) (hs : n < 1000000 ∧ m < 1000000) (h : P (.bl (decide (1 < x)))) : (f_is_under [.tup [.int 1, .int 1], rD x]).wp P NoE :=
  sp_is_under (x := 1) RB.one hx (by omega) h

/-! ### numbers drawn by two roads -/
theorem sp_draw {c k many : Int} (h0 : 0 ≤ k) (h1 : k < 1000) (hm0 : 0 < many) (hm1 : many < 1000000) : (f__law_draw [.int c, .int k, .int many]).wp (fun d => ∃ v, d = .int v ∧ 0 ≤ v ∧ v < many) NoE := by
  have hk : Bd 10 k := Bd.le (j := 1000) (Bd.lit (by decide)) h0 (by omega)
  have e1 : ∀ z : Int, 0 ≤ z % many ∧ z % many < many := fun z => ⟨Int.emod_nonneg _ (by omega), Int.emod_lt_of_pos _ hm0⟩
  wtm_at "y_in"
  wtm_at "y_go"
  · refine forS_inv (fun i ρ => ∃ l w, ρ = [.val (.int c), .val (.int k), .val (.int many), .val (.int l), w, .un]) ⟨_, _, rfl⟩ ?_ ?_
    · rintro i d _ ed ⟨l, w, rfl⟩
      obtain ⟨rfl, hi⟩ := rangeD_get ed
      wtm_at "y_go"
      exact ⟨_, _, rfl⟩
    · rintro _ ⟨l, w, rfl⟩
      wtm_at "y_go"
      · exact ⟨_, rfl, e1 _⟩
      · exact ⟨_, rfl, e1 _⟩
  · exact ⟨_, rfl, e1 _⟩

/-! ### comprehensions over a list of any length -/
section
variable {α : Type} {b : D → REnv → Option REnv} {c : REnv → R Bool} {e : REnv → R D} {ρ : REnv} {f g : α → D} {keep : α → Bool} {P : List D → Prop}
theorem c_list : ∀ (xs : List α), (∀ x ∈ xs, Got (b (f x) ρ) fun ρ' => (c ρ').wp (fun k => k = keep x ∧ (k = true → (e ρ').wp (fun v => v = g x) NoE)) NoE) → Got (compS b c e (xs.map f) ρ) fun rs => rs = (xs.filter keep).map g
  | [], _ => c_nil rfl
  | x :: xs, h => by
    have hx := h x List.mem_cons_self
    obtain ⟨ρ', e1, h1⟩ := hx
    refine c_cons ⟨ρ', e1, h1.imp (fun k hk => ?_) fun _ z => z⟩
    obtain ⟨rs, er, hr⟩ := c_list xs fun y hy => h y (List.mem_cons_of_mem _ hy)
    refine ⟨fun k1 => (hk.2 k1).imp (fun v hv => ⟨rs, er, ?_⟩) fun _ z => z, fun k0 => ⟨rs, er, ?_⟩⟩
    · rw [hr, hv, List.filter_cons_of_pos (by rw [← hk.1, k1])]
      rfl
    · rw [hr, List.filter_cons_of_neg (by rw [← hk.1, k0]; decide)]
theorem c_listG {xs : List α} (h : ∀ x ∈ xs, Got (b (f x) ρ) fun ρ' => (c ρ').wp (fun k => k = keep x ∧ (k = true → (e ρ').wp (fun v => v = g x) NoE)) NoE) (hp : P ((xs.filter keep).map g)) : Got (compS b c e (xs.map f) ρ) P := by
  obtain ⟨rs, e1, e2⟩ := c_list xs h
  exact ⟨rs, e1, by rw [e2]; exact hp⟩
theorem c_mapG {xs : List α} (h : ∀ x ∈ xs, Got (b (f x) ρ) fun ρ' => (e ρ').wp (fun v => v = g x) NoE) (hp : P (xs.map g)) : Got (compS b eYes e (xs.map f) ρ) P := by
  refine c_listG (keep := fun _ => true) (g := g) (fun x hx => ?_) ?_
  · obtain ⟨ρ', e1, h1⟩ := h x hx
    exact ⟨ρ', e1, wp_yes ⟨rfl, fun _ => h1⟩⟩
  · rw [List.filter_eq_self.mpr (fun _ _ => rfl)]
    exact hp
end

/-! ### parts: corners all round, sums over them -/
abbrev Pt := Rat × Rat
def pD (p : Pt) : D := .tup [rD p.1, rD p.2]
def cr (p q : Pt) : Rat := p.1 * q.2 - q.1 * p.2
def sumN (f : Nat → Rat) : Nat → Rat
  | 0 => 0
  | n + 1 => sumN f n + f n
def pt (ps : List Pt) (k : Nat) : Pt := ps.getD k (0, 0)
def cyc (ps : List Pt) : Rat := sumN (fun k => cr (pt ps k) (pt ps ((k + 1) % ps.length))) ps.length
def prev (n k : Nat) : Nat := if k = 0 then n - 1 else k - 1
theorem cr_turn (p q : Pt) : cr q p = -cr p q := by unfold cr; grind
/-! ### sizes -/
def PB (p : Pt) : Prop := RB 20 10 p.1 ∧ RB 20 10 p.2
theorem PB.zero : PB (0, 0) := ⟨RB.zero.mono (by decide) (by decide), RB.zero.mono (by decide) (by decide)⟩
theorem half_RB : RB 2 2 (Rat.divInt 1 2) := .of (by decide) (Bd.lit (by decide)) (Bd.lit (by decide))
/-! ### what is read of them -/
theorem pt_get {ps : List Pt} {k : Nat} (hk : k < ps.length) : (ps.map pD)[k]? = some (pD (pt ps k)) := by
  rw [List.getElem?_map, List.getElem?_eq_getElem hk]
  unfold pt
  rw [List.getD_eq_getElem?_getD, List.getElem?_eq_getElem hk]
  rfl
theorem ix_pt {ps : List Pt} {d : D} (hd : D.lst (ps.map pD) = d) {K : Int} (h0 : 0 ≤ K) (h1 : K < ps.length) : oIx d (.int K) = some (.tup [rD (pt ps K.toNat).1, rD (pt ps K.toNat).2]) := by
  have e := atI_nat (pt_get (ps := ps) (k := K.toNat) (by omega))
  rw [show ((K.toNat : Nat) : Int) = K by omega] at e
  rw [← hd]
  exact e
theorem ix_prev {ps : List Pt} {d : D} (hd : D.lst (ps.map pD) = d) {K : Int} (h0 : 0 ≤ K) (h1 : K < ps.length) : oIx d (.int (K - 1)) = some (.tup [rD (pt ps (prev ps.length K.toNat)).1, rD (pt ps (prev ps.length K.toNat)).2]) := by
  by_cases hk : K = 0
  · subst hk
    have e := pt_get (ps := ps) (k := ps.length - 1) (by omega)
    rw [← hd]
    show L2.atI (ps.map pD) (0 - 1) = some (pD _)
    unfold L2.atI L2.ixN
    rw [List.length_map, if_neg (by decide), if_pos (by omega), Option.bind_some, show ((0 : Int) - 1 + ps.length).toNat = ps.length - 1 by omega]
    exact e
  · have e := ix_pt hd (K := K - 1) (by omega) (by omega)
    rw [e]
    have : (K - 1).toNat = prev ps.length K.toNat := by unfold prev; rw [if_neg (by omega)]; omega
    rw [this]
theorem len_pt {ps : List Pt} {d : D} (hd : D.lst (ps.map pD) = d) : oLen [d] = some (.int ps.length) := by
  rw [← hd]
  show some (D.int ((ps.map pD).length : Nat)) = _
  rw [List.length_map]
/-! ### the law's own sums -/
theorem sp_llow {a b : Int} {P : D → Prop} {m : Nat} (hb : 0 < b) (hs : Bd m b) (hm : m < 9000) (h : P (rD (Rat.divInt a b))) : (f__law_low [.int a, .int b]).wp P NoE := by
  have hb0 : b ≠ 0 := by omega
  have hg : 0 < Int.gcd a b := Int.gcd_pos_of_ne_zero_right a hb0
  have hgb : (Int.gcd a b : Int).natAbs ≤ b.natAbs := by
    rw [Int.natAbs_natCast]
    exact Nat.le_of_dvd (by omega) (Int.natAbs_dvd_natAbs.mpr (Int.gcd_dvd_right a b))
  have hl : (Int.gcd a b : Int).natAbs.log2 < 9000 := Bd.log (Nat.lt_of_le_of_lt hgb hs) hm
  wtm_at "y_in"
  refine sp_seq ?_
  wtm_at "y_go"
  refine sp_while (fun ρ => ∃ x y : Int, 0 ≤ x ∧ 0 ≤ y ∧ ρ = [.val (.int a), .val (.int b), .val (.int x), .val (.int y)] ∧ Int.gcd x y = Int.gcd a b) (fun ρ => match ρ with | [_, _, _, .val (.int y)] => y.natAbs | _ => 0) ⟨_, _, by split <;> omega, by omega, rfl, ?_⟩ ?_
  · have e (i : Int) : (if i < 0 then -i else i) = (i.natAbs : Int) := by split <;> omega
    rw [e]
    simp [Int.gcd]
  rintro _ ⟨x, y, hx, hy, rfl, hG⟩
  refine wp_test ?_
  wtm_at "y_go"
  · rename_i h0
    have h1 := fmod_lt x y (by omega)
    rw [Int.fmod_eq_emod_of_nonneg x hy] at h1
    exact ⟨⟨y, x % y, hy, Int.emod_nonneg x (by omega), rfl, by rw [← Int.fmod_eq_emod_of_nonneg x hy, gcd_fmod]; exact hG⟩, h1⟩
  · rename_i h0
    have hy0 : y = 0 := by omega
    subst hy0
    have e : x = (Int.gcd a b : Int) := by rw [← hG, Int.gcd_zero_right]; omega
    rw [e]
    refine w_divG (by omega) hl ?_
    wtm_at "y_go"
    refine w_divG (by omega) hl ?_
    wtm_at "y_go"
    unfold rD at h
    rw [ratio_num a b hb0, ratio_den a b hb0, if_neg (by omega), if_neg (by omega)] at h
    exact h
section
variable {x y : Rat} {P : D → Prop} {n m n' m' : Nat}
theorem sp_ladd (hx : RB n m x) (hy : RB n' m' y) (hs : n + m' < 100000000 ∧ n' + m < 100000000 ∧ m + m' < 9000) (h : P (rD (x + y))) : (f__law_add [rD x, rD y]).wp P NoE := by
  obtain ⟨x1, x2⟩ := hx
  obtain ⟨y1, y2⟩ := hy
  unfold rD at *
  wtm_at "y_in"
  repeat' wtm_at "y_dy"
  refine sp_llow (Int.mul_pos (den_pos x) (den_pos y)) (x2.mul y2) hs.2.2 ?_
  rw [divInt_add]
  exact h
end
/-! ### the share -/
/-! ### k72: cutting boxes along axes, in plain numbers -/
def turnR (a b p : Pt) : Rat := (b.1 - a.1) * (p.2 - a.2) - (b.2 - a.2) * (p.1 - a.1)
def btw (p q : Pt) (h g : Rat) : Pt := (p.1 + h / (h - g) * (q.1 - p.1), p.2 + h / (h - g) * (q.2 - p.2))
def keepAt (ps : List Pt) (h : Pt → Rat) (k : Nat) : List Pt := (if h (pt ps k) < 0 then [] else [pt ps k]) ++ (if h (pt ps k) * h (pt ps ((k + 1) % ps.length)) < 0 then [btw (pt ps k) (pt ps ((k + 1) % ps.length)) (h (pt ps k)) (h (pt ps ((k + 1) % ps.length)))] else [])
def keptR (ps : List Pt) (h : Pt → Rat) : Nat → List Pt
  | 0 => []
  | n + 1 => keptR ps h n ++ keepAt ps h n
def kept (ps : List Pt) (h : Pt → Rat) : List Pt := keptR ps h ps.length
theorem pt_mem {ps : List Pt} {k : Nat} (h : k < ps.length) : pt ps k ∈ ps := by
  unfold pt
  rw [List.getD_eq_getElem?_getD, List.getElem?_eq_getElem h]
  exact List.getElem_mem h
theorem len_keptR {ps : List Pt} {h : Pt → Rat} : ∀ n, (keptR ps h n).length ≤ 2 * n
  | 0 => Nat.le_refl _
  | n + 1 => by
    have := len_keptR (ps := ps) (h := h) n
    unfold keptR keepAt
    rw [List.length_append, List.length_append]
    have e1 : (if h (pt ps n) < 0 then ([] : List Pt) else [pt ps n]).length ≤ 1 := by split <;> simp
    have e2 : (if h (pt ps n) * h (pt ps ((n + 1) % ps.length)) < 0 then [btw (pt ps n) (pt ps ((n + 1) % ps.length)) (h (pt ps n)) (h (pt ps ((n + 1) % ps.length)))] else ([] : List Pt)).length ≤ 1 := by split <;> simp
    omega
theorem sq_pos (u : Rat) : ¬ u * u < 0 := by
  rcases Rat.le_total (a := u) (b := 0) with z | z
  · have := Rat.mul_nonneg (show 0 ≤ -u by grind) (show 0 ≤ -u by grind)
    grind
  · have := Rat.mul_nonneg z z
    grind
/-! #### four corners -/
section
variable {A B C D' : Pt} {h : Pt → Rat} {u v : Rat}
end

/-! ### rings of places, cut along a line: the sides stay along the first lines -/
structure Ln where
  a : Pt
  d : Pt
def crs (p q : Pt) : Rat := p.1 * q.2 - p.2 * q.1
/-- above 0: to the left -/
def ev (l : Ln) (x : Pt) : Rat := l.d.1 * (x.2 - l.a.2) - l.d.2 * (x.1 - l.a.1)
def lnOf (a b : Pt) : Ln := ⟨a, (b.1 - a.1, b.2 - a.2)⟩
theorem turn_ev (a b p : Pt) : turnR a b p = ev (lnOf a b) p := rfl
/-- from p on to q along l -/
def Al (l : Ln) (p q : Pt) : Prop := ev l p = 0 ∧ ∃ t : Rat, 0 ≤ t ∧ q.1 = p.1 + t * l.d.1 ∧ q.2 = p.2 + t * l.d.2
theorem Al.on {l : Ln} {p q : Pt} (h : Al l p q) : ev l q = 0 := by
  obtain ⟨h0, t, _, h1, h2⟩ := h
  unfold ev at *
  rw [h1, h2]
  grind
theorem Al.turn {l : Ln} {p q : Pt} (h : Al l p q) (x : Pt) : ∃ t : Rat, 0 ≤ t ∧ turnR p q x = t * ev l x := by
  obtain ⟨h0, t, ht, h1, h2⟩ := h
  refine ⟨t, ht, ?_⟩
  unfold turnR
  unfold ev at *
  rw [h1, h2]
  grind
/-- what is told of the lines and the places at a time -/
structure Rg (Ls : List Ln) (C : List Pt) : Prop where
  left : ∀ l ∈ Ls, ∀ c ∈ C, 0 ≤ ev l c
/-- the sides of a ring -/
def sides (z : Pt) : List Pt → List (Pt × Pt)
  | [] => []
  | [x] => [(x, z)]
  | x :: y :: r => (x, y) :: sides z (y :: r)
def keepE (h : Pt → Rat) (e : Pt × Pt) : List Pt := (if h e.1 < 0 then [] else [e.1]) ++ (if h e.1 * h e.2 < 0 then [btw e.1 e.2 (h e.1) (h e.2)] else [])
def pathOK : Pt → List (Pt × Pt) → Pt → Prop
  | p, [], z => p = z
  | p, e :: r, z => e.1 = p ∧ pathOK e.2 r z
theorem sides_path : ∀ (C : List Pt) (z x : Pt), pathOK x (sides z (x :: C)) z
  | [], z, x => ⟨rfl, rfl⟩
  | y :: r, z, x => ⟨rfl, sides_path r z y⟩
def chain (A : Pt → Pt → Prop) : Option Pt → List Pt → Prop
  | _, [] => True
  | u, o :: r => (∀ a, u = some a → A a o) ∧ chain A (some o) r
def lastO : Option Pt → List Pt → Option Pt
  | u, [] => u
  | _, o :: r => lastO (some o) r
theorem chain_app {A : Pt → Pt → Prop} : ∀ (X Y : List Pt) (u : Option Pt), chain A u (X ++ Y) ↔ chain A u X ∧ chain A (lastO u X) Y
  | [], Y, u => by simp [chain, lastO]
  | o :: r, Y, u => by
    show (_ ∧ chain A (some o) (r ++ Y)) ↔ (_ ∧ chain A (some o) r) ∧ chain A (lastO (some o) r) Y
    rw [chain_app r Y (some o), and_assoc]
theorem lastO_app : ∀ (X Y : List Pt) (u : Option Pt), lastO u (X ++ Y) = lastO (lastO u X) Y
  | [], Y, u => rfl
  | o :: r, Y, u => lastO_app r Y (some o)
section
variable {Ls : List Ln} {C : List Pt} {h : Ln}
/-- u lies on the cut, on a side's line that goes out -/
def Exit (Ls : List Ln) (h : Ln) (u : Pt) : Prop := ev h u = 0 ∧ ∃ l ∈ Ls, ev l u = 0 ∧ 0 < crs l.d h.d
def AlL (Ls : List Ln) (h : Ln) (p q : Pt) : Prop := ∃ l, (l ∈ Ls ∨ l = h) ∧ Al l p q
def Jn (Ls : List Ln) (h : Ln) : Option Pt → Pt → Prop
  | none, _ => True
  | some u, p => if ev h p < 0 then Exit Ls h u else AlL Ls h u p
theorem share_in {u v : Rat} (hc : u * v < 0) : ∃ s : Rat, 0 ≤ s ∧ s ≤ 1 ∧ u / (u - v) = s ∧ u + s * (v - u) = 0 := by
  have hn : u - v ≠ 0 := fun e => by
    have : u = v := by grind
    rw [this] at hc
    exact sq_pos v hc
  have e : u / (u - v) * (u - v) = u := by grind
  refine ⟨u / (u - v), ?_, ?_, rfl, by grind⟩
  · refine Classical.byContradiction fun z => ?_
    have z : 0 ≤ -(u / (u - v)) := by grind
    rcases Rat.le_total (a := u) (b := v) with k | k
    · have k1 : 0 ≤ v - u := by grind
      have m := Rat.mul_nonneg z k1
      have : 0 ≤ u := by grind
      have : 0 ≤ v := by grind
      have := Rat.mul_nonneg (a := u) (b := v) (by assumption) (by assumption)
      grind
    · have k1 : 0 ≤ u - v := by grind
      have m := Rat.mul_nonneg z k1
      have h1 : 0 ≤ -u := by grind
      have h2 : 0 ≤ -v := by grind
      have := Rat.mul_nonneg h1 h2
      grind
  · refine Classical.byContradiction fun z => ?_
    have z : 0 ≤ u / (u - v) - 1 := by grind
    rcases Rat.le_total (a := u) (b := v) with k | k
    · have k1 : 0 ≤ v - u := by grind
      have m := Rat.mul_nonneg z k1
      have h1 : 0 ≤ -u := by grind
      have h2 : 0 ≤ -v := by grind
      have := Rat.mul_nonneg h1 h2
      grind
    · have k1 : 0 ≤ u - v := by grind
      have m := Rat.mul_nonneg z k1
      have h1 : 0 ≤ u := by grind
      have h2 : 0 ≤ v := by grind
      have := Rat.mul_nonneg h1 h2
      grind
theorem btw_mix {p q : Pt} {u v : Rat} (hc : u * v < 0) (l : Ln) (hp : 0 ≤ ev l p) (hq : 0 ≤ ev l q) : 0 ≤ ev l (btw p q u v) := by
  obtain ⟨s, s0, s1, e, _⟩ := share_in hc
  have k : ev l (btw p q u v) = (1 - s) * ev l p + s * ev l q := by
    unfold btw
    rw [e]
    unfold ev
    grind
  rw [k]
  have a := Rat.mul_nonneg (show 0 ≤ 1 - s by grind) hp
  have b := Rat.mul_nonneg s0 hq
  grind
/-- where the cut meets a side -/
theorem btw_cut {p q : Pt} (hc : ev h p * ev h q < 0) : ev h (btw p q (ev h p) (ev h q)) = 0 := by
  obtain ⟨s, s0, s1, e, e2⟩ := share_in hc
  unfold btw
  rw [e]
  have : ev h (p.1 + s * (q.1 - p.1), p.2 + s * (q.2 - p.2)) = ev h p + s * (ev h q - ev h p) := by
    unfold ev
    grind
  rw [this, e2]
theorem al_btw {l : Ln} {p q : Pt} {u v : Rat} (ha : Al l p q) (hc : u * v < 0) : Al l p (btw p q u v) ∧ Al l (btw p q u v) q := by
  obtain ⟨s, s0, s1, e, _⟩ := share_in hc
  obtain ⟨h0, t, ht, h1, h2⟩ := ha
  unfold btw
  rw [e]
  have a := Rat.mul_nonneg s0 ht
  have b := Rat.mul_nonneg (show 0 ≤ 1 - s by grind) ht
  refine ⟨⟨h0, s * t, a, ?_, ?_⟩, ?_, (1 - s) * t, b, ?_, ?_⟩
  · show p.1 + s * (q.1 - p.1) = _
    rw [h1]; grind
  · show p.2 + s * (q.2 - p.2) = _
    rw [h2]; grind
  · unfold ev at *
    dsimp only
    rw [h1, h2]
    grind
  · show _ = p.1 + s * (q.1 - p.1) + _
    rw [h1]; grind
  · show _ = p.2 + s * (q.2 - p.2) + _
    rw [h2]; grind
/-- a side that falls below the cut goes out -/
theorem out_cross {l : Ln} {p q : Pt} (ha : Al l p q) (hf : ev h q < ev h p) : 0 < crs l.d h.d := by
  obtain ⟨h0, t, ht, h1, h2⟩ := ha
  have e : ev h p - ev h q = t * crs l.d h.d := by
    unfold ev crs
    rw [h1, h2]
    grind
  refine Classical.byContradiction fun z => ?_
  have z : 0 ≤ -crs l.d h.d := by grind
  have := Rat.mul_nonneg ht z
  grind
/-- from the way out on along the cut -/
theorem exit_al {u q : Pt} (hx : Exit Ls h u) (hq : ev h q = 0) (hl : ∀ l ∈ Ls, 0 ≤ ev l q) : AlL Ls h u q := by
  obtain ⟨h0, l, hl', l0, lc⟩ := hx
  refine ⟨h, .inr rfl, h0, ?_⟩
  have hd : h.d.1 ≠ 0 ∨ h.d.2 ≠ 0 := by
    by_cases k : h.d.1 = 0
    · refine .inr fun k2 => ?_
      unfold crs at lc
      rw [k, k2] at lc
      grind
    · exact .inl k
  have par : h.d.1 * (q.2 - u.2) = h.d.2 * (q.1 - u.1) := by
    unfold ev at h0 hq
    grind
  obtain ⟨t, t1, t2⟩ : ∃ t : Rat, q.1 = u.1 + t * h.d.1 ∧ q.2 = u.2 + t * h.d.2 := by
    rcases hd with k | k
    · refine ⟨(q.1 - u.1) / h.d.1, by grind, by grind⟩
    · refine ⟨(q.2 - u.2) / h.d.2, by grind, by grind⟩
  refine ⟨t, ?_, t1, t2⟩
  have lq := hl l hl'
  have e : ev l q = t * crs l.d h.d := by
    unfold ev at l0 ⊢
    unfold crs
    rw [t1, t2]
    grind
  refine Classical.byContradiction fun z => ?_
  have z : 0 < -t := by grind
  have := Rat.mul_pos z lc
  grind
end
section
variable {Ls : List Ln} {h : Ln}
/-- one side, cut -/
theorem side_run {p q : Pt} (hs : ∃ l ∈ Ls, Al l p q) (lp : ∀ l ∈ Ls, 0 ≤ ev l p) (lq : ∀ l ∈ Ls, 0 ≤ ev l q) {u : Option Pt} (hu : Jn Ls h u p) :
    chain (AlL Ls h) u (keepE (ev h) (p, q)) ∧ Jn Ls h (lastO u (keepE (ev h) (p, q))) q := by
  obtain ⟨l, hl, ha⟩ := hs
  unfold keepE
  dsimp only
  by_cases h1 : ev h p < 0
  · rw [if_pos h1, List.nil_append]
    by_cases h2 : ev h p * ev h q < 0
    · rw [if_pos h2]
      have hq : 0 < ev h q := by
        refine Classical.byContradiction fun z => ?_
        have := Rat.mul_nonneg (show 0 ≤ -ev h p by grind) (show 0 ≤ -ev h q by grind)
        grind
      have hx0 := btw_cut h2
      refine ⟨⟨fun a e => ?_, trivial⟩, ?_⟩
      · subst e
        have hu : (if ev h p < 0 then Exit Ls h a else AlL Ls h a p) := hu
        rw [if_pos h1] at hu
        exact exit_al hu hx0 fun l' hl' => btw_mix h2 l' (lp l' hl') (lq l' hl')
      · show (if ev h q < 0 then _ else AlL Ls h _ q)
        rw [if_neg (by grind)]
        exact ⟨l, .inl hl, (al_btw ha h2).2⟩
    · rw [if_neg h2]
      refine ⟨trivial, ?_⟩
      cases u with
      | none => exact trivial
      | some a =>
        have hu : (if ev h p < 0 then Exit Ls h a else AlL Ls h a p) := hu
        rw [if_pos h1] at hu
        show (if ev h q < 0 then Exit Ls h a else AlL Ls h a q)
        by_cases h3 : ev h q < 0
        · rw [if_pos h3]
          exact hu
        · rw [if_neg h3]
          refine exit_al hu ?_ lq
          refine Classical.byContradiction fun z => ?_
          have hq : 0 < ev h q := by grind
          have := Rat.mul_pos (show 0 < -ev h p by grind) hq
          grind
  · rw [if_neg h1]
    have first : ∀ a, u = some a → AlL Ls h a p := fun a e => by
      subst e
      have hu : (if ev h p < 0 then Exit Ls h a else AlL Ls h a p) := hu
      rw [if_neg h1] at hu
      exact hu
    by_cases h2 : ev h p * ev h q < 0
    · rw [if_pos h2]
      have hq : ev h q < 0 := by
        refine Classical.byContradiction fun z => ?_
        have := Rat.mul_nonneg (show 0 ≤ ev h p by grind) (show 0 ≤ ev h q by grind)
        grind
      refine ⟨⟨first, fun a e => ?_, trivial⟩, ?_⟩
      · cases e
        exact ⟨l, .inl hl, (al_btw ha h2).1⟩
      · show (if ev h q < 0 then Exit Ls h _ else _)
        rw [if_pos hq]
        exact ⟨btw_cut h2, l, hl, (al_btw ha h2).1.on, out_cross ha (by grind)⟩
    · rw [if_neg h2, List.append_nil]
      refine ⟨⟨first, trivial⟩, ?_⟩
      show (if ev h q < 0 then Exit Ls h p else AlL Ls h p q)
      by_cases h3 : ev h q < 0
      · rw [if_pos h3]
        have hp0 : ev h p = 0 := by
          refine Classical.byContradiction fun z => ?_
          have := Rat.mul_pos (show 0 < ev h p by grind) (show 0 < -ev h q by grind)
          grind
        exact ⟨hp0, l, hl, ha.1, out_cross ha (by grind)⟩
      · rw [if_neg h3]
        exact ⟨l, .inl hl, ha⟩
theorem path_run : ∀ (es : List (Pt × Pt)) (p z : Pt) (u : Option Pt), pathOK p es z → (∀ e ∈ es, (∃ l ∈ Ls, Al l e.1 e.2) ∧ (∀ l ∈ Ls, 0 ≤ ev l e.1) ∧ ∀ l ∈ Ls, 0 ≤ ev l e.2) → Jn Ls h u p →
    chain (AlL Ls h) u (es.flatMap (keepE (ev h))) ∧ Jn Ls h (lastO u (es.flatMap (keepE (ev h)))) z
  | [], p, z, u, hp, _, hu => by
    have hp : p = z := hp
    subst hp
    exact ⟨trivial, hu⟩
  | (a, b) :: es, p, z, u, hp, he, hu => by
    obtain ⟨rfl, hp⟩ := hp
    obtain ⟨e1, e2, e3⟩ := he _ List.mem_cons_self
    obtain ⟨c1, c2⟩ := side_run e1 e2 e3 hu
    obtain ⟨d1, d2⟩ := path_run es b z _ hp (fun e h => he e (List.mem_cons_of_mem _ h)) c2
    rw [List.flatMap_cons, chain_app, lastO_app]
    exact ⟨⟨c1, d1⟩, d2⟩
end
/-! #### the ring closed -/
def ringS : List Pt → List (Pt × Pt)
  | [] => []
  | c :: r => sides c (c :: r)
def cut (h : Ln) (C : List Pt) : List Pt := (ringS C).flatMap (keepE (ev h))
/-- two lines, not parallel, meet there -/
def Meet (Ls : List Ln) (p : Pt) : Prop := ∃ l ∈ Ls, ∃ m ∈ Ls, ev l p = 0 ∧ ev m p = 0 ∧ crs l.d m.d ≠ 0
structure Ring (Ls : List Ln) (C : List Pt) : Prop where
  left : ∀ c ∈ C, ∀ l ∈ Ls, 0 ≤ ev l c
  side : ∀ e ∈ ringS C, ∃ l ∈ Ls, Al l e.1 e.2
  meet : ∀ c ∈ C, Meet Ls c
theorem sides_mem : ∀ (C : List Pt) (z : Pt) (e : Pt × Pt), e ∈ sides z C → e.1 ∈ C ∧ (e.2 ∈ C ∨ e.2 = z)
  | [], z, e, h => nomatch h
  | [x], z, e, h => by
    have h : e ∈ [(x, z)] := h
    rw [List.mem_singleton.mp h]
    exact ⟨List.mem_cons_self, .inr rfl⟩
  | x :: y :: r, z, e, h => by
    have h : e ∈ (x, y) :: sides z (y :: r) := h
    rcases List.mem_cons.mp h with rfl | h
    · exact ⟨List.mem_cons_self, .inl (List.mem_cons_of_mem _ List.mem_cons_self)⟩
    · obtain ⟨a, b⟩ := sides_mem (y :: r) z e h
      exact ⟨List.mem_cons_of_mem _ a, b.imp (List.mem_cons_of_mem _) id⟩
theorem ringS_mem {C : List Pt} {e : Pt × Pt} (h : e ∈ ringS C) : e.1 ∈ C ∧ e.2 ∈ C := by
  cases C with
  | nil => exact nomatch h
  | cons c r =>
    obtain ⟨a, b⟩ := sides_mem (c :: r) c e h
    exact ⟨a, b.elim id fun e => by rw [e]; exact List.mem_cons_self⟩
theorem lastO_some : ∀ (O : List Pt) (o : Pt), ∃ w, lastO (some o) O = some w
  | [], o => ⟨o, rfl⟩
  | a :: r, _ => lastO_some r a
theorem lastO_cons (u : Option Pt) (o : Pt) (r : List Pt) : lastO u (o :: r) = lastO (some o) r := rfl
theorem chain_sides {A : Pt → Pt → Prop} : ∀ (r : List Pt) (o z w : Pt), chain A (some o) r → lastO (some o) r = some w → A w z → ∀ e ∈ sides z (o :: r), A e.1 e.2
  | [], o, z, w, _, hw, hz, e, he => by
    have he : e ∈ [(o, z)] := he
    rw [List.mem_singleton.mp he]
    cases hw
    exact hz
  | a :: r, o, z, w, hc, hw, hz, e, he => by
    have he : e ∈ (o, a) :: sides z (a :: r) := he
    rcases List.mem_cons.mp he with rfl | he
    · exact hc.1 o rfl
    · exact chain_sides r a z w hc.2 hw hz e he
section
variable {Ls : List Ln} {C : List Pt} {h : Ln}
theorem cut_mem {x : Pt} (hx : x ∈ cut h C) : ∃ e ∈ ringS C, (x = e.1 ∧ 0 ≤ ev h e.1) ∨ (ev h e.1 * ev h e.2 < 0 ∧ x = btw e.1 e.2 (ev h e.1) (ev h e.2)) := by
  obtain ⟨e, he, hx⟩ := List.mem_flatMap.mp hx
  refine ⟨e, he, ?_⟩
  unfold keepE at hx
  rcases List.mem_append.mp hx with hx | hx
  · split at hx
    · exact nomatch hx
    · exact .inl ⟨List.mem_singleton.mp hx, by grind⟩
  · split at hx
    · rename_i hc
      exact .inr ⟨hc, List.mem_singleton.mp hx⟩
    · exact nomatch hx
theorem ring_cut (g : Ring Ls C) : Ring (h :: Ls) (cut h C) := by
  have es : ∀ e ∈ ringS C, (∃ l ∈ Ls, Al l e.1 e.2) ∧ (∀ l ∈ Ls, 0 ≤ ev l e.1) ∧ ∀ l ∈ Ls, 0 ≤ ev l e.2 := fun e he => by
    obtain ⟨a, b⟩ := ringS_mem he
    exact ⟨g.side e he, g.left _ a, g.left _ b⟩
  refine ⟨fun x hx l hl => ?_, ?_, fun x hx => ?_⟩
  · obtain ⟨e, he, hx⟩ := cut_mem hx
    obtain ⟨_, e2, e3⟩ := es e he
    rcases List.mem_cons.mp hl with rfl | hl
    · rcases hx with ⟨rfl, hx'⟩ | ⟨hc, rfl⟩
      · exact hx'
      · rw [btw_cut hc]
        exact Rat.le_refl
    · rcases hx with ⟨rfl, hx⟩ | ⟨hc, rfl⟩
      · exact e2 l hl
      · exact btw_mix hc l (e2 l hl) (e3 l hl)
  · cases hC : C with
    | nil => intro e he; exact nomatch he
    | cons c r =>
      have hp : pathOK c (ringS C) c := by rw [hC]; exact sides_path r c c
      obtain ⟨_, j1⟩ := path_run (Ls := Ls) (h := h) (ringS C) c c none hp es trivial
      have j1 : Jn Ls h (lastO none (cut h C)) c := j1
      rw [← hC]
      cases hO : cut h C with
      | nil => intro e he; exact nomatch he
      | cons o O =>
        rw [hO, lastO_cons] at j1
        obtain ⟨w, hw⟩ := lastO_some O o
        rw [hw] at j1
        obtain ⟨c1, _⟩ := path_run (Ls := Ls) (h := h) (ringS C) c c (some w) hp es j1
        have c1 : chain (AlL Ls h) (some w) (cut h C) := c1
        rw [hO] at c1
        intro e he
        obtain ⟨l, hl, ha⟩ := chain_sides O o o w c1.2 hw (c1.1 w rfl) e he
        exact ⟨l, hl.elim (fun h => List.mem_cons_of_mem _ h) (fun h => by rw [h]; exact List.mem_cons_self), ha⟩
  · obtain ⟨e, he, hx⟩ := cut_mem hx
    rcases hx with ⟨rfl, _⟩ | ⟨hc, rfl⟩
    · obtain ⟨l, hl, m, hm, q⟩ := g.meet _ (ringS_mem he).1
      exact ⟨l, List.mem_cons_of_mem _ hl, m, List.mem_cons_of_mem _ hm, q⟩
    · obtain ⟨l, hl, ha⟩ := g.side e he
      refine ⟨l, List.mem_cons_of_mem _ hl, h, List.mem_cons_self, (al_btw ha hc).1.on, btw_cut hc, fun z => ?_⟩
      obtain ⟨h0, t, ht, h1, h2⟩ := ha
      have : ev h e.1 - ev h e.2 = t * crs l.d h.d := by
        unfold ev crs
        rw [h1, h2]
        grind
      rw [z] at this
      have e2 : ev h e.1 = ev h e.2 := by grind
      rw [e2] at hc
      exact sq_pos _ hc
end
/-! #### places that stand twice in a row left out -/
def unlL : Pt → List Pt → List Pt
  | _, [] => []
  | u, x :: r => if x = u then unlL x r else x :: unlL x r
/-- from p on to q along l, not the same -/
def Als (l : Ln) (p q : Pt) : Prop := ev l p = 0 ∧ ∃ t : Rat, 0 < t ∧ q.1 = p.1 + t * l.d.1 ∧ q.2 = p.2 + t * l.d.2
theorem Als.al {l : Ln} {p q : Pt} (h : Als l p q) : Al l p q := by
  obtain ⟨h0, t, ht, h1, h2⟩ := h
  exact ⟨h0, t, by grind, h1, h2⟩
theorem unl_chain {A : Pt → Pt → Prop} : ∀ (C : List Pt) (u : Pt), chain A (some u) C → chain (fun p q => A p q ∧ p ≠ q) (some u) (unlL u C)
  | [], u, _ => trivial
  | x :: r, u, hc => by
    unfold unlL
    by_cases e : x = u
    · rw [if_pos e, ← e]
      exact unl_chain r x hc.2
    · rw [if_neg e]
      refine ⟨fun a ha => ?_, unl_chain r x hc.2⟩
      cases ha
      exact ⟨hc.1 u rfl, fun z => e z.symm⟩
theorem unl_sub : ∀ (C : List Pt) (u : Pt), ∀ x ∈ unlL u C, x ∈ C
  | [], _, _, h => nomatch h
  | x :: r, u, y, h => by
    unfold unlL at h
    split at h
    · exact List.mem_cons_of_mem _ (unl_sub r x y h)
    · rcases List.mem_cons.mp h with rfl | h
      · exact List.mem_cons_self
      · exact List.mem_cons_of_mem _ (unl_sub r x y h)
theorem unl_last : ∀ (C : List Pt) (u w : Pt), lastO (some u) C = some w → lastO (some u) (unlL u C) = some w
  | [], _, _, h => h
  | x :: r, u, w, h => by
    unfold unlL
    split
    · rename_i e
      rw [← e]
      exact unl_last r x w h
    · exact unl_last r x w h

/-! ### a ring made tidy: only places where it turns -/
abbrev PL := Pt × Ln
def AlN (l : Ln) (p q : Pt) : Prop := Al l p q ∧ p ≠ q
def hd2 (z : Pt) : List PL → Pt
  | [] => z
  | a :: _ => a.1
def ann (Ls : List Ln) (z : Pt) : List PL → Prop
  | [] => True
  | a :: r => a.2 ∈ Ls ∧ AlN a.2 a.1 (hd2 z r) ∧ ann Ls z r
theorem ann_of {Ls : List Ln} : ∀ (L : List Pt) (z : Pt), (∀ e ∈ sides z L, ∃ l ∈ Ls, AlN l e.1 e.2) → ∃ M : List PL, M.map Prod.fst = L ∧ ann Ls z M
  | [], z, _ => ⟨[], rfl, trivial⟩
  | [x], z, h => by
    obtain ⟨l, hl, ha⟩ := h (x, z) List.mem_cons_self
    exact ⟨[(x, l)], rfl, hl, ha, trivial⟩
  | x :: y :: r, z, h => by
    obtain ⟨l, hl, ha⟩ := h (x, y) List.mem_cons_self
    obtain ⟨M, e, hM⟩ := ann_of (y :: r) z fun e he => h e (List.mem_cons_of_mem _ he)
    refine ⟨(x, l) :: M, by rw [List.map_cons, e], hl, ?_, hM⟩
    cases M with
    | nil => cases e
    | cons a M =>
      have : a.1 = y := by
        have := List.cons.inj e
        exact this.1
      show AlN l x a.1
      rw [this]
      exact ha
def fndA (u z : Pt) : List PL → List PL
  | [] => []
  | a :: r => (if turnR u a.1 (hd2 z r) = 0 then [] else [a]) ++ fndA a.1 z r
def lastA : Option PL → List PL → Option PL
  | w, [] => w
  | _, a :: r => lastA (some a) r
def lastP : Pt → List PL → Pt
  | u, [] => u
  | _, a :: r => lastP a.1 r
def chB : Option PL → List PL → Prop
  | _, [] => True
  | w, a :: r => (∀ w0, w = some w0 → AlN w0.2 w0.1 a.1 ∧ 0 < crs w0.2.d a.2.d) ∧ chB (some a) r
theorem AlN.d {l : Ln} {p q : Pt} (h : AlN l p q) : ¬(l.d.1 = 0 ∧ l.d.2 = 0) := fun z => by
  obtain ⟨⟨h0, t, ht, h1, h2⟩, hn⟩ := h
  refine hn (Prod.ext ?_ ?_)
  · rw [h1, z.1]; grind
  · rw [h2, z.2]; grind
theorem turn_al {l m : Ln} {u x y : Pt} (h : AlN l u x) (k : AlN m x y) : ∃ c : Rat, 0 < c ∧ turnR u x y = c * crs l.d m.d := by
  obtain ⟨⟨h0, t, ht, h1, h2⟩, hn⟩ := h
  obtain ⟨⟨k0, s, hs, k1, k2⟩, kn⟩ := k
  have ht' : t ≠ 0 := fun e => hn (Prod.ext (by rw [h1, e]; grind) (by rw [h2, e]; grind))
  have hs' : s ≠ 0 := fun e => kn (Prod.ext (by rw [k1, e]; grind) (by rw [k2, e]; grind))
  refine ⟨t * s, Rat.mul_pos (by grind) (by grind), ?_⟩
  unfold turnR crs
  rw [k1, k2, h1, h2]
  grind
/-- the same way along one line -/
theorem al_on {l m : Ln} {u x y : Pt} (h : AlN l u x) (k : AlN m x y) (hz : crs l.d m.d = 0) {c : Pt} (hc : 0 < ev l c) (hm : 0 ≤ ev m c) : AlN l x y ∧ ∀ {w : Pt}, AlN l w x → AlN l w y := by
  have hd := h.d
  have kd := k.d
  obtain ⟨⟨k0, s, hs, k1, k2⟩, kn⟩ := k
  have hs' : s ≠ 0 := fun e => kn (Prod.ext (by rw [k1, e]; grind) (by rw [k2, e]; grind))
  have hx := h.1.on
  obtain ⟨r, r1, r2⟩ : ∃ r : Rat, m.d.1 = r * l.d.1 ∧ m.d.2 = r * l.d.2 := by
    unfold crs at hz
    by_cases q : l.d.1 = 0
    · have q2 : l.d.2 ≠ 0 := fun z => hd ⟨q, z⟩
      refine ⟨m.d.2 / l.d.2, ?_, by grind⟩
      have : m.d.1 * l.d.2 = 0 := by grind
      have := (Rat.mul_eq_zero.mp this).resolve_right q2
      grind
    · refine ⟨m.d.1 / l.d.1, by grind, ?_⟩
      have : l.d.1 * m.d.2 = l.d.2 * m.d.1 := by grind
      grind
  have em : ev m c = r * ev l c := by
    unfold ev at k0 hx ⊢
    rw [r1, r2] at k0 ⊢
    grind
  have hr : 0 ≤ r := by
    refine Classical.byContradiction fun z => ?_
    have := Rat.mul_pos (show 0 < -r by grind) hc
    grind
  have hr' : r ≠ 0 := fun z => kd ⟨by rw [r1, z]; grind, by rw [r2, z]; grind⟩
  have sr : 0 < s * r := Rat.mul_pos (by grind) (by grind)
  have y1 : y.1 = x.1 + s * r * l.d.1 := by rw [k1, r1]; grind
  have y2 : y.2 = x.2 + s * r * l.d.2 := by rw [k2, r2]; grind
  refine ⟨⟨⟨hx, s * r, by grind, y1, y2⟩, kn⟩, fun {w} hw => ?_⟩
  obtain ⟨⟨w0, t, ht, w1, w2⟩, wn⟩ := hw
  refine ⟨⟨w0, t + s * r, by grind, by rw [y1, w1]; grind, by rw [y2, w2]; grind⟩, fun e => ?_⟩
  have e1 : (t + s * r) * l.d.1 = 0 := by
    have : w.1 = y.1 := by rw [e]
    rw [y1, w1] at this
    grind
  have e2 : (t + s * r) * l.d.2 = 0 := by
    have : w.2 = y.2 := by rw [e]
    rw [y2, w2] at this
    grind
  have n : t + s * r ≠ 0 := by grind
  exact hd ⟨(Rat.mul_eq_zero.mp e1).resolve_left n, (Rat.mul_eq_zero.mp e2).resolve_left n⟩
section
variable {Ls : List Ln} {Cs : List Pt}
theorem fnd_run (left : ∀ c ∈ Cs, ∀ l ∈ Ls, 0 ≤ ev l c) (nf : ∀ l ∈ Ls, ¬(l.d.1 = 0 ∧ l.d.2 = 0) → ∃ c ∈ Cs, 0 < ev l c) : ∀ (M : List PL) (u z : Pt) (w : Option PL) (l : Ln), l ∈ Ls → ann Ls z M → (∀ a ∈ M, a.1 ∈ Cs) → z ∈ Cs → AlN l u (hd2 z M) → (∀ w0, w = some w0 → w0.2 = l ∧ AlN l w0.1 (hd2 z M)) →
    chB w (fndA u z M) ∧ ∃ lf ∈ Ls, AlN lf (lastP u M) z ∧ ∀ w1, lastA w (fndA u z M) = some w1 → w1.2 = lf ∧ AlN lf w1.1 z
  | [], u, z, w, l, hl, _, _, _, hu, hw => ⟨trivial, l, hl, hu, hw⟩
  | a :: M, u, z, w, l, hl, hM, hC, hz, hu, hw => by
    obtain ⟨m1, m2, m3⟩ := hM
    have hu : AlN l u a.1 := hu
    obtain ⟨c, c0, ct⟩ := turn_al hu m2
    have hy : hd2 z M ∈ Cs := by
      cases M with
      | nil => exact hz
      | cons b M => exact hC b (List.mem_cons_of_mem _ List.mem_cons_self)
    have t0 : 0 ≤ turnR u a.1 (hd2 z M) := by
      obtain ⟨t, ht, e⟩ := hu.1.turn (hd2 z M)
      rw [e]
      exact Rat.mul_nonneg ht (left _ hy l hl)
    show chB w ((if turnR u a.1 (hd2 z M) = 0 then [] else [a]) ++ fndA a.1 z M) ∧ ∃ lf ∈ Ls, AlN lf (lastP a.1 M) z ∧ ∀ w1, lastA w ((if turnR u a.1 (hd2 z M) = 0 then [] else [a]) ++ fndA a.1 z M) = some w1 → w1.2 = lf ∧ AlN lf w1.1 z
    by_cases h : turnR u a.1 (hd2 z M) = 0
    · rw [if_pos h, List.nil_append]
      have hz0 : crs l.d a.2.d = 0 := by
        rw [ct] at h
        exact (Rat.mul_eq_zero.mp h).resolve_left (by grind)
      obtain ⟨q, hq, hq0⟩ := nf l hl hu.d
      obtain ⟨n1, n2⟩ := al_on hu m2 hz0 hq0 (left q hq _ m1)
      exact fnd_run left nf M a.1 z w l hl m3 (fun b hb => hC b (List.mem_cons_of_mem _ hb)) hz n1 fun w0 e => ⟨(hw w0 e).1, n2 (hw w0 e).2⟩
    · rw [if_neg h]
      have hp : 0 < crs l.d a.2.d := by
        refine Classical.byContradiction fun z' => ?_
        have := Rat.mul_nonneg (show 0 ≤ c by grind) (show 0 ≤ -crs l.d a.2.d by grind)
        grind
      obtain ⟨r1, r2⟩ := fnd_run left nf M a.1 z (some a) a.2 m1 m3 (fun b hb => hC b (List.mem_cons_of_mem _ hb)) hz m2 fun w0 e => by
        cases e
        exact ⟨rfl, m2⟩
      refine ⟨⟨fun w0 e => ?_, r1⟩, r2⟩
      obtain ⟨q1, q2⟩ := hw w0 e
      rw [q1]
      exact ⟨q2, hp⟩
end

/-! ### a tidy ring: what lies within it -/
theorem lastA_some : ∀ (A : List PL) (a : PL), ∃ w, lastA (some a) A = some w ∧ (w = a ∨ w ∈ A)
  | [], a => ⟨a, rfl, .inl rfl⟩
  | b :: r, a => by
    obtain ⟨w, e, h⟩ := lastA_some r b
    exact ⟨w, e, .inr (h.elim (fun h => by rw [h]; exact List.mem_cons_self) fun h => List.mem_cons_of_mem _ h)⟩
/-- a tidy ring: each side along its line, each place a turn to the left -/
structure Tdy (A : List PL) : Prop where
  prev : ∀ a ∈ A, ∃ p ∈ A, AlN p.2 p.1 a.1 ∧ 0 < crs p.2.d a.2.d
  next : ∀ a ∈ A, ∃ x ∈ A, AlN a.2 a.1 x.1 ∧ 0 < crs a.2.d x.2.d
theorem chB_prev : ∀ (A : List PL) (w : PL), chB (some w) A → ∀ a ∈ A, ∃ p, (p = w ∨ p ∈ A) ∧ AlN p.2 p.1 a.1 ∧ 0 < crs p.2.d a.2.d
  | b :: r, w, h, a, ha => by
    rcases List.mem_cons.mp ha with rfl | ha
    · exact ⟨w, .inl rfl, h.1 w rfl⟩
    · obtain ⟨p, hp, q⟩ := chB_prev r b h.2 a ha
      exact ⟨p, .inr (hp.elim (fun h => by rw [h]; exact List.mem_cons_self) fun h => List.mem_cons_of_mem _ h), q⟩
theorem chB_next : ∀ (A : List PL) (w : PL), chB (some w) A → ∀ a, (a = w ∨ a ∈ A) → lastA (some w) A = some a ∨ ∃ x ∈ A, AlN a.2 a.1 x.1 ∧ 0 < crs a.2.d x.2.d
  | [], w, _, a, ha => by
    rcases ha with rfl | ha
    · exact .inl rfl
    · exact nomatch ha
  | b :: r, w, h, a, ha => by
    rcases ha with rfl | ha
    · exact .inr ⟨b, List.mem_cons_self, h.1 a rfl⟩
    · rcases chB_next r b h.2 a (List.mem_cons.mp ha) with e | ⟨x, hx, q⟩
      · exact .inl e
      · exact .inr ⟨x, List.mem_cons_of_mem _ hx, q⟩
theorem tdy_of {A : List PL} {w : PL} (h : chB (some w) A) (hw : lastA none A = some w) : Tdy A := by
  cases A with
  | nil => cases hw
  | cons b r =>
    have hl : lastA (some b) r = some w := hw
    have wm : w ∈ b :: r := by
      obtain ⟨w', e, k⟩ := lastA_some r b
      rw [hl] at e
      cases e
      exact List.mem_cons.mpr k
    refine ⟨fun a ha => ?_, fun a ha => ?_⟩
    · obtain ⟨p, hp, q⟩ := chB_prev _ w h a ha
      exact ⟨p, hp.elim (fun e => by rw [e]; exact wm) id, q⟩
    · rcases chB_next _ w h a (.inr ha) with e | q
      · have e : lastA (some b) r = some a := e
        rw [hl] at e
        cases e
        exact ⟨b, List.mem_cons_self, h.1 w rfl⟩
      · exact q
theorem least_of {α : Type} (f : α → Rat) : ∀ (A : List α), A ≠ [] → ∃ v ∈ A, ∀ c ∈ A, f v ≤ f c
  | [], h => absurd rfl h
  | [a], _ => ⟨a, List.mem_cons_self, fun c hc => by rw [List.mem_singleton.mp hc]; exact Rat.le_refl⟩
  | a :: b :: r, _ => by
    obtain ⟨v, hv, h⟩ := least_of f (b :: r) (by simp)
    rcases Rat.le_total (a := f a) (b := f v) with k | k
    · refine ⟨a, List.mem_cons_self, fun c hc => ?_⟩
      rcases List.mem_cons.mp hc with rfl | hc
      · exact Rat.le_refl
      · have := h c hc
        grind
    · refine ⟨v, List.mem_cons_of_mem _ hv, fun c hc => ?_⟩
      rcases List.mem_cons.mp hc with rfl | hc
      · exact k
      · exact h c hc
/-- left of both sides at a corner: above what is least there -/
theorem cone {l m : Ln} {p v x y : Pt} (h : AlN l p v) (k : AlN m v x) (hp : 0 < crs l.d m.d) (f : Ln) (f1 : ev f v ≤ ev f p) (f2 : ev f v ≤ ev f x) (y1 : 0 ≤ ev l y) (y2 : 0 ≤ ev m y) : ev f v ≤ ev f y := by
  have lv := h.1.on
  obtain ⟨⟨l0, t, ht, a1, a2⟩, hn⟩ := h
  obtain ⟨⟨m0, s, hs, b1, b2⟩, kn⟩ := k
  have ht' : t ≠ 0 := fun e => hn (Prod.ext (by rw [a1, e]; grind) (by rw [a2, e]; grind))
  have hs' : s ≠ 0 := fun e => kn (Prod.ext (by rw [b1, e]; grind) (by rw [b2, e]; grind))
  have g1 : 0 ≤ -(f.d.1 * l.d.2 - f.d.2 * l.d.1) := by
    refine Classical.byContradiction fun z => ?_
    have q := Rat.mul_pos (show 0 < t by grind) (show 0 < f.d.1 * l.d.2 - f.d.2 * l.d.1 by grind)
    have : ev f v - ev f p = t * (f.d.1 * l.d.2 - f.d.2 * l.d.1) := by
      unfold ev
      rw [a1, a2]
      grind
    grind
  have g2 : 0 ≤ f.d.1 * m.d.2 - f.d.2 * m.d.1 := by
    refine Classical.byContradiction fun z => ?_
    have q := Rat.mul_pos (show 0 < s by grind) (show 0 < -(f.d.1 * m.d.2 - f.d.2 * m.d.1) by grind)
    have : ev f x - ev f v = s * (f.d.1 * m.d.2 - f.d.2 * m.d.1) := by
      unfold ev
      rw [b1, b2]
      grind
    grind
  have e : crs l.d m.d * (ev f y - ev f v) = ev l y * (f.d.1 * m.d.2 - f.d.2 * m.d.1) + ev m y * -(f.d.1 * l.d.2 - f.d.2 * l.d.1) := by
    unfold ev at lv m0 ⊢
    unfold crs
    grind
  have q1 := Rat.mul_nonneg y1 g2
  have q2 := Rat.mul_nonneg y2 g1
  refine Classical.byContradiction fun z => ?_
  have := Rat.mul_pos hp (show 0 < ev f v - ev f y by grind)
  grind
/-- left of all sides: within all lines that all corners are left of -/
theorem tdy_in {A : List PL} (g : Tdy A) (hne : A ≠ []) (f : Ln) (hf : ∀ a ∈ A, 0 ≤ ev f a.1) {y : Pt} (hy : ∀ a ∈ A, 0 ≤ ev a.2 y) : 0 ≤ ev f y := by
  obtain ⟨v, hv, hm⟩ := least_of (fun a : PL => ev f a.1) A hne
  obtain ⟨p, hp, q1, q2⟩ := g.prev v hv
  obtain ⟨x, hx, q3, _⟩ := g.next v hv
  have := cone q1 q3 q2 f (hm p hp) (hm x hx) (hy p hp) (hy v hv)
  have := hf v hv
  grind
theorem lastP_line {Ls : List Ln} : ∀ (M : List PL) (z : Pt), ann Ls z M → ∀ (u : Pt), M ≠ [] → ∃ l ∈ Ls, AlN l (lastP u M) z
  | [a], z, h, u, _ => ⟨a.2, h.1, h.2.1⟩
  | a :: b :: r, z, h, u, _ => lastP_line (b :: r) z h.2.2 a.1 (by simp)
/-- a closed chain of turns -/
def ClA (A : List PL) : Prop := ∃ w, lastA none A = some w ∧ chB (some w) A
/-- the places where an unlike ring turns -/
theorem fnd_cls {Ls : List Ln} {b : PL} {M : List PL} (hM : ann Ls b.1 (b :: M)) (left : ∀ c ∈ b :: M, ∀ l ∈ Ls, 0 ≤ ev l c.1) (nf : ∀ l ∈ Ls, ¬(l.d.1 = 0 ∧ l.d.2 = 0) → ∃ c ∈ b :: M, 0 < ev l c.1) (hA : fndA (lastP b.1 M) b.1 (b :: M) ≠ []) : ClA (fndA (lastP b.1 M) b.1 (b :: M)) := by
  have left' : ∀ c ∈ (b :: M).map Prod.fst, ∀ l ∈ Ls, 0 ≤ ev l c := fun c hc l hl => by
    obtain ⟨a, ha, rfl⟩ := List.mem_map.mp hc
    exact left a ha l hl
  have nf' : ∀ l ∈ Ls, ¬(l.d.1 = 0 ∧ l.d.2 = 0) → ∃ c ∈ (b :: M).map Prod.fst, 0 < ev l c := fun l hl hd => by
    obtain ⟨c, hc, h⟩ := nf l hl hd
    exact ⟨c.1, List.mem_map.mpr ⟨c, hc, rfl⟩, h⟩
  have mem : ∀ a ∈ b :: M, a.1 ∈ (b :: M).map Prod.fst := fun a ha => List.mem_map.mpr ⟨a, ha, rfl⟩
  obtain ⟨l, hl, ha⟩ := lastP_line (b :: M) b.1 hM b.1 (by simp)
  have ha : AlN l (lastP b.1 M) b.1 := ha
  obtain ⟨_, lf, hlf, f1, f2⟩ := fnd_run left' nf' (b :: M) (lastP b.1 M) b.1 none l hl hM mem (mem b List.mem_cons_self) ha fun w0 e => nomatch e
  generalize hAA : fndA (lastP b.1 M) b.1 (b :: M) = A at hA f2 ⊢
  obtain ⟨w, hw⟩ : ∃ w, lastA none A = some w := by
    cases A with
    | nil => exact absurd rfl hA
    | cons a r =>
      obtain ⟨w, e, _⟩ := lastA_some r a
      exact ⟨w, e⟩
  obtain ⟨q1, q2⟩ := f2 w hw
  have f1 : AlN lf (lastP b.1 M) b.1 := f1
  obtain ⟨r1, _⟩ := fnd_run left' nf' (b :: M) (lastP b.1 M) b.1 (some w) lf hlf hM mem (mem b List.mem_cons_self) f1 fun w0 e => by
    cases e
    exact ⟨q1, q2⟩
  rw [hAA] at r1
  exact ⟨w, hw, r1⟩
/-! ### a place strictly within all lines keeps the ring wide -/
theorem sides_chain {A : Pt → Pt → Prop} : ∀ (r : List Pt) (o z : Pt), (∀ e ∈ sides z (o :: r), A e.1 e.2) → chain A (some o) r ∧ ∃ w, lastO (some o) r = some w ∧ A w z ∧ w ∈ o :: r
  | [], o, z, h => ⟨trivial, o, rfl, h (o, z) List.mem_cons_self, List.mem_cons_self⟩
  | a :: r, o, z, h => by
    obtain ⟨h1, w, h2, h3, h4⟩ := sides_chain r a z fun e he => h e (List.mem_cons_of_mem _ he)
    exact ⟨⟨fun b hb => (by cases hb; exact h (o, a) List.mem_cons_self), h1⟩, w, h2, h3, List.mem_cons_of_mem _ h4⟩
theorem unl_nil : ∀ (C : List Pt) (u : Pt), unlL u C = [] → ∀ x ∈ C, x = u
  | [], _, _, _, h => nomatch h
  | a :: r, u, h, x, hx => by
    unfold unlL at h
    by_cases e : a = u
    · rw [if_pos e] at h
      rcases List.mem_cons.mp hx with rfl | hx
      · exact e
      · rw [unl_nil r a h x hx, e]
    · rw [if_neg e] at h
      cases h
def Two (C : List Pt) : Prop := ∃ p ∈ C, ∃ q ∈ C, p ≠ q
/-- the last of a ring -/
def endP : List Pt → Pt
  | [] => (0, 0)
  | o :: r => (lastO (some o) r).getD o
def unlR (C : List Pt) : List Pt := unlL (endP C) C
theorem unlR_sides {Ls : List Ln} {C : List Pt} (g : Ring Ls C) (ht : Two C) : ∃ (b : PL) (M : List PL), (b :: M).map Prod.fst = unlR C ∧ ann Ls b.1 (b :: M) := by
  cases hC : C with
  | nil =>
    obtain ⟨p, hp, _⟩ := ht
    rw [hC] at hp
    exact nomatch hp
  | cons o r =>
    have hs : ∀ e ∈ sides o (o :: r), ∃ l ∈ Ls, Al l e.1 e.2 := by
      have := g.side
      rw [hC] at this
      exact this
    obtain ⟨h1, w, h2, h3, h4⟩ := sides_chain (A := fun p q => ∃ l ∈ Ls, Al l p q) r o o hs
    have hw : endP (o :: r) = w := by
      show (lastO (some o) r).getD o = w
      rw [h2]
      rfl
    have hch : chain (fun p q => ∃ l ∈ Ls, Al l p q) (some w) (o :: r) := ⟨fun a ha => (by cases ha; exact h3), h1⟩
    have hun := unl_chain _ w hch
    have hlast := unl_last (o :: r) w w h2
    have hU : unlR (o :: r) = unlL w (o :: r) := by unfold unlR; rw [hw]
    cases hq : unlL w (o :: r) with
    | nil =>
      obtain ⟨p, hp, q, hq', hne⟩ := ht
      rw [hC] at hp hq'
      have e1 := unl_nil _ w hq p hp
      have e2 := unl_nil _ w hq q hq'
      exact absurd (by rw [e1, e2]) hne
    | cons a U =>
      rw [hq] at hun hlast
      have sd : ∀ e ∈ sides a (a :: U), ∃ l ∈ Ls, AlN l e.1 e.2 := fun e he => by
        have := chain_sides U a a w hun.2 hlast (hun.1 w rfl) e he
        obtain ⟨⟨l, hl, k⟩, hn⟩ := this
        exact ⟨l, hl, k, hn⟩
      obtain ⟨M, e, hM⟩ := ann_of (a :: U) a sd
      cases M with
      | nil => cases e
      | cons b M =>
        have e1 : b.1 = a := (List.cons.inj e).1
        refine ⟨b, M, by rw [hU, hq, e], by rw [e1]; exact hM⟩
/-- no ring goes one way for ever -/
theorem no_way {Ls : List Ln} {b : PL} {M : List PL} (hM : ann Ls b.1 (b :: M)) (g : Pt → Rat) (up : ∀ a ∈ b :: M, ∀ q, AlN a.2 a.1 q → g a.1 < g q) : False := by
  have nx : ∀ (N : List PL) (z : Pt), ann Ls z N → ∀ a ∈ N, ∃ q, AlN a.2 a.1 q ∧ (q = z ∨ ∃ c ∈ N, q = c.1) := by
    intro N
    induction N with
    | nil => intro z _ a ha; exact nomatch ha
    | cons c N ih =>
      intro z h a ha
      rcases List.mem_cons.mp ha with rfl | ha
      · refine ⟨hd2 z N, h.2.1, ?_⟩
        cases N with
        | nil => exact .inl rfl
        | cons d N => exact .inr ⟨d, List.mem_cons_of_mem _ List.mem_cons_self, rfl⟩
      · obtain ⟨q, q1, q2⟩ := ih z h.2.2 a ha
        exact ⟨q, q1, q2.imp id fun ⟨c', h1, h2⟩ => ⟨c', List.mem_cons_of_mem _ h1, h2⟩⟩
  obtain ⟨v, hv, hm⟩ := least_of (fun a : PL => -(g a.1)) (b :: M) (by simp)
  obtain ⟨q, q1, q2⟩ := nx (b :: M) b.1 hM v hv
  have k := up v hv q q1
  rcases q2 with rfl | ⟨c, hc, rfl⟩
  · have := hm b List.mem_cons_self
    grind
  · have := hm c hc
    grind
def dotP (d p : Pt) : Rat := d.1 * p.1 + d.2 * p.2
theorem sq_sum {a b : Rat} (h : ¬(a = 0 ∧ b = 0)) : 0 < a * a + b * b := by
  have h1 := sq_pos a
  have h2 := sq_pos b
  refine Classical.byContradiction fun z => h ?_
  have e1 : a * a = 0 := by grind
  have e2 : b * b = 0 := by grind
  exact ⟨(Rat.mul_eq_zero.mp e1).elim id id, (Rat.mul_eq_zero.mp e2).elim id id⟩
section
variable {Ls : List Ln} {b : PL} {M : List PL} {x : Pt}
theorem nf_of (hM : ann Ls b.1 (b :: M)) (left : ∀ c ∈ b :: M, ∀ l ∈ Ls, 0 ≤ ev l c.1) (hx : ∀ l ∈ Ls, 0 < ev l x) : ∀ l ∈ Ls, ¬(l.d.1 = 0 ∧ l.d.2 = 0) → ∃ c ∈ b :: M, 0 < ev l c.1 := by
  intro l hl hd
  refine Classical.byContradiction fun z => ?_
  have zero : ∀ c ∈ b :: M, ev l c.1 = 0 := fun c hc => by
    have := left c hc l hl
    by_cases q : 0 < ev l c.1
    · exact absurd ⟨c, hc, q⟩ z
    · grind
  have line : ∀ (N : List PL) (z' : Pt), ann Ls z' N → ∀ a ∈ N, a.2 ∈ Ls := by
    intro N
    induction N with
    | nil => intro z' _ a ha; exact nomatch ha
    | cons c N ih =>
      intro z' h a ha
      rcases List.mem_cons.mp ha with rfl | ha
      · exact h.1
      · exact ih z' h.2.2 a ha
  have nxz : ∀ (N : List PL) (z' : Pt), ann Ls z' N → ev l z' = 0 → (∀ c ∈ N, ev l c.1 = 0) → ∀ a ∈ N, ∃ q, AlN a.2 a.1 q ∧ ev l q = 0 := by
    intro N
    induction N with
    | nil => intro z' _ _ _ a ha; exact nomatch ha
    | cons c N ih =>
      intro z' h hz hN a ha
      rcases List.mem_cons.mp ha with rfl | ha
      · refine ⟨hd2 z' N, h.2.1, ?_⟩
        cases N with
        | nil => exact hz
        | cons d N => exact hN d (List.mem_cons_of_mem _ List.mem_cons_self)
      · exact ih z' h.2.2 hz (fun c hc => hN c (List.mem_cons_of_mem _ hc)) a ha
  refine no_way hM (dotP l.d) fun a ha q hq => ?_
  have hal := line _ _ hM a ha
  have az := zero a ha
  obtain ⟨q', k1, k2⟩ := nxz (b :: M) b.1 hM (zero b List.mem_cons_self) zero a ha
  have hd2' := k1.d
  -- the side's line is l itself, the same way along
  obtain ⟨⟨m0, s, hs, b1, b2⟩, kn⟩ := k1
  have hs' : s ≠ 0 := fun e => kn (Prod.ext (by rw [b1, e]; grind) (by rw [b2, e]; grind))
  have c0 : s * crs l.d a.2.d = 0 := by
    unfold ev at az k2
    unfold crs
    rw [b1, b2] at k2
    grind
  have c0 := (Rat.mul_eq_zero.mp c0).resolve_left hs'
  obtain ⟨r, r1, r2⟩ : ∃ r : Rat, a.2.d.1 = r * l.d.1 ∧ a.2.d.2 = r * l.d.2 := by
    unfold crs at c0
    by_cases q : l.d.1 = 0
    · have q2 : l.d.2 ≠ 0 := fun z => hd ⟨q, z⟩
      refine ⟨a.2.d.2 / l.d.2, ?_, by grind⟩
      have : a.2.d.1 * l.d.2 = 0 := by grind
      have := (Rat.mul_eq_zero.mp this).resolve_right q2
      grind
    · refine ⟨a.2.d.1 / l.d.1, by grind, ?_⟩
      have : l.d.1 * a.2.d.2 = l.d.2 * a.2.d.1 := by grind
      grind
  have em : ev a.2 x = r * ev l x := by
    unfold ev at m0 az ⊢
    rw [r1, r2] at m0 ⊢
    grind
  have hr : 0 < r := by
    refine Classical.byContradiction fun z => ?_
    have q1 := hx a.2 hal
    have q2 := Rat.mul_nonneg (show 0 ≤ -r by grind) (show 0 ≤ ev l x by have := hx l hl; grind)
    grind
  obtain ⟨⟨_, t, ht, p1, p2⟩, pn⟩ := hq
  have ht' : t ≠ 0 := fun e => pn (Prod.ext (by rw [p1, e]; grind) (by rw [p2, e]; grind))
  have e : dotP l.d q = dotP l.d a.1 + t * r * (l.d.1 * l.d.1 + l.d.2 * l.d.2) := by
    unfold dotP
    rw [p1, p2, r1, r2]
    grind
  have pos := Rat.mul_pos (Rat.mul_pos (show 0 < t by grind) hr) (sq_sum hd)
  rw [e]
  grind
theorem zero_run {Cs : List Pt} (left : ∀ c ∈ Cs, ∀ l ∈ Ls, 0 ≤ ev l c) (nf : ∀ l ∈ Ls, ¬(l.d.1 = 0 ∧ l.d.2 = 0) → ∃ c ∈ Cs, 0 < ev l c) : ∀ (N : List PL) (u z : Pt) (l : Ln), l ∈ Ls → ann Ls z N → AlN l u (hd2 z N) → fndA u z N = [] → ∀ a ∈ N, crs l.d a.2.d = 0 ∧ ∃ q, AlN l a.1 q ∧ AlN a.2 a.1 q
  | [], _, _, _, _, _, _, _, a, ha => nomatch ha
  | c :: N, u, z, l, hl, h, hu, hf, a, ha => by
    obtain ⟨m1, m2, m3⟩ := h
    have hu : AlN l u c.1 := hu
    obtain ⟨k, k0, kt⟩ := turn_al hu m2
    have hf : (if turnR u c.1 (hd2 z N) = 0 then [] else [c]) ++ fndA c.1 z N = [] := hf
    by_cases ht : turnR u c.1 (hd2 z N) = 0
    · rw [if_pos ht, List.nil_append] at hf
      have hz0 : crs l.d c.2.d = 0 := by
        rw [kt] at ht
        exact (Rat.mul_eq_zero.mp ht).resolve_left (by grind)
      obtain ⟨q, hq, hq0⟩ := nf l hl hu.d
      obtain ⟨n1, _⟩ := al_on hu m2 hz0 hq0 (left q hq _ m1)
      rcases List.mem_cons.mp ha with rfl | ha
      · exact ⟨hz0, _, n1, m2⟩
      · exact zero_run left nf N c.1 z l hl m3 n1 hf a ha
    · rw [if_neg ht] at hf
      cases hf
theorem fnd_ne (hM : ann Ls b.1 (b :: M)) (left : ∀ c ∈ b :: M, ∀ l ∈ Ls, 0 ≤ ev l c.1) (hx : ∀ l ∈ Ls, 0 < ev l x) : fndA (lastP b.1 M) b.1 (b :: M) ≠ [] := fun hf => by
  have nf := nf_of hM left hx
  have left' : ∀ c ∈ (b :: M).map Prod.fst, ∀ l ∈ Ls, 0 ≤ ev l c := fun c hc l hl => by
    obtain ⟨a, ha, rfl⟩ := List.mem_map.mp hc
    exact left a ha l hl
  have nf' : ∀ l ∈ Ls, ¬(l.d.1 = 0 ∧ l.d.2 = 0) → ∃ c ∈ (b :: M).map Prod.fst, 0 < ev l c := fun l hl hd => by
    obtain ⟨c, hc, h⟩ := nf l hl hd
    exact ⟨c.1, List.mem_map.mpr ⟨c, hc, rfl⟩, h⟩
  obtain ⟨l, hl, ha⟩ := lastP_line (b :: M) b.1 hM b.1 (by simp)
  have ha : AlN l (lastP b.1 M) b.1 := ha
  have all := zero_run left' nf' (b :: M) (lastP b.1 M) b.1 l hl hM ha hf
  refine no_way hM (dotP l.d) fun a haM q hq => ?_
  obtain ⟨_, q', k1, k2⟩ := all a haM
  have hd := ha.d
  obtain ⟨⟨_, s, hs, b1, b2⟩, kn⟩ := k1
  obtain ⟨⟨_, t, ht, p1, p2⟩, pn⟩ := k2
  obtain ⟨⟨_, r, hr, o1, o2⟩, on⟩ := hq
  have hs' : s ≠ 0 := fun e => kn (Prod.ext (by rw [b1, e]; grind) (by rw [b2, e]; grind))
  have ht' : t ≠ 0 := fun e => pn (Prod.ext (by rw [p1, e]; grind) (by rw [p2, e]; grind))
  have hr' : r ≠ 0 := fun e => on (Prod.ext (by rw [o1, e]; grind) (by rw [o2, e]; grind))
  have e1 : s * l.d.1 = t * a.2.d.1 := by grind
  have e2 : s * l.d.2 = t * a.2.d.2 := by grind
  have pos : 0 < dotP l.d a.2.d := by
    have q1 : t * dotP l.d a.2.d = s * (l.d.1 * l.d.1 + l.d.2 * l.d.2) := by
      unfold dotP
      grind
    have q2 := Rat.mul_pos (show 0 < s by grind) (sq_sum hd)
    refine Classical.byContradiction fun z => ?_
    have := Rat.mul_nonneg ht (show 0 ≤ -(dotP l.d a.2.d) by grind)
    grind
  have e : dotP l.d q = dotP l.d a.1 + r * dotP l.d a.2.d := by
    unfold dotP
    rw [o1, o2]
    grind
  have := Rat.mul_pos (show 0 < r by grind) pos
  rw [e]
  grind
end

/-! ### a cut ring is wide where a place lies strictly within -/
theorem fndA_sub : ∀ (M : List PL) (u z : Pt), ∀ a ∈ fndA u z M, a ∈ M
  | [], _, _, _, h => nomatch h
  | c :: M, u, z, a, h => by
    have h : a ∈ (if turnR u c.1 (hd2 z M) = 0 then [] else [c]) ++ fndA c.1 z M := h
    rcases List.mem_append.mp h with h | h
    · split at h
      · exact nomatch h
      · rw [List.mem_singleton.mp h]
        exact List.mem_cons_self
    · exact List.mem_cons_of_mem _ (fndA_sub M c.1 z a h)
theorem ann_line {Ls : List Ln} : ∀ (N : List PL) (z : Pt), ann Ls z N → ∀ a ∈ N, a.2 ∈ Ls
  | c :: N, z, h, a, ha => by
    rcases List.mem_cons.mp ha with rfl | ha
    · exact h.1
    · exact ann_line N z h.2.2 a ha
theorem unlR_sub {C : List Pt} : ∀ x ∈ unlR C, x ∈ C := unl_sub C _
theorem sides_fst : ∀ (C : List Pt) (z : Pt), ∀ c ∈ C, ∃ e ∈ sides z C, e.1 = c
  | [x], z, c, h => ⟨(x, z), List.mem_cons_self, (List.mem_singleton.mp h).symm⟩
  | x :: y :: r, z, c, h => by
    rcases List.mem_cons.mp h with rfl | h
    · exact ⟨(c, y), List.mem_cons_self, rfl⟩
    · obtain ⟨e, he, h2⟩ := sides_fst (y :: r) z c h
      exact ⟨e, List.mem_cons_of_mem _ he, h2⟩
theorem ringS_fst {C : List Pt} {c : Pt} (h : c ∈ C) : ∃ e ∈ ringS C, e.1 = c := by
  cases C with
  | nil => exact nomatch h
  | cons o r => exact sides_fst (o :: r) o c h
theorem keep_in {C : List Pt} {c : Pt} {h : Ln} (hc : c ∈ C) (hp : 0 ≤ ev h c) : c ∈ cut h C := by
  obtain ⟨e, he, rfl⟩ := ringS_fst hc
  refine List.mem_flatMap.mpr ⟨e, he, ?_⟩
  unfold keepE
  rw [if_neg (show ¬ ev h e.1 < 0 by grind)]
  exact List.mem_append_left _ List.mem_cons_self
theorem cross_in {C : List Pt} {e : Pt × Pt} {h : Ln} (he : e ∈ ringS C) (hp : ev h e.1 * ev h e.2 < 0) : btw e.1 e.2 (ev h e.1) (ev h e.2) ∈ cut h C := by
  refine List.mem_flatMap.mpr ⟨e, he, ?_⟩
  unfold keepE
  rw [if_pos hp]
  exact List.mem_append_right _ List.mem_cons_self
theorem run_all {P : Pt → Prop} : ∀ (r : List Pt) (x z : Pt), (∀ e ∈ sides z (x :: r), P e.1 → P e.2) → P x → (∀ c ∈ x :: r, P c) ∧ P z
  | [], x, z, h, hx => ⟨fun c hc => (by rw [List.mem_singleton.mp hc]; exact hx), h (x, z) List.mem_cons_self hx⟩
  | y :: r, x, z, h, hx => by
    have hy := h (x, y) List.mem_cons_self hx
    obtain ⟨h1, h2⟩ := run_all r y z (fun e he => h e (List.mem_cons_of_mem _ he)) hy
    refine ⟨fun c hc => ?_, h2⟩
    rcases List.mem_cons.mp hc with rfl | hc
    · exact hx
    · exact h1 c hc
theorem run_from {P : Pt → Prop} : ∀ (r : List Pt) (x z : Pt), (∀ e ∈ sides z (x :: r), P e.1 → P e.2) → (∃ c ∈ x :: r, P c) → P z
  | [], x, z, h, ⟨c, hc, hp⟩ => by
    rw [List.mem_singleton.mp hc] at hp
    exact h (x, z) List.mem_cons_self hp
  | y :: r, x, z, h, ⟨c, hc, hp⟩ => by
    rcases List.mem_cons.mp hc with rfl | hc
    · exact (run_all (y :: r) c z h hp).2
    · exact run_from r y z (fun e he => h e (List.mem_cons_of_mem _ he)) ⟨c, hc, hp⟩
/-- somewhere the ring goes out -/
theorem goes_out {P : Pt → Prop} {C : List Pt} {c d : Pt} (hc : c ∈ C) (hp : P c) (hd : d ∈ C) (hn : ¬ P d) : ∃ e ∈ ringS C, P e.1 ∧ ¬ P e.2 := by
  refine Classical.byContradiction fun z => hn ?_
  cases hC : C with
  | nil => rw [hC] at hc; exact nomatch hc
  | cons o r =>
    rw [hC] at hc hd
    have st : ∀ e ∈ sides o (o :: r), P e.1 → P e.2 := fun e he hpe => Classical.byContradiction fun q => z ⟨e, by rw [hC]; exact he, hpe, q⟩
    exact (run_all r o o st (run_from r o o st ⟨c, hc, hp⟩)).1 d hd
section
variable {Ls : List Ln} {C : List Pt} {h : Ln} {x : Pt}
/-- the tidy ring of a wide one -/
theorem tdy_ring (g : Ring Ls C) (ht : Two C) (hx : ∀ l ∈ Ls, 0 < ev l x) : ∃ A : List PL, A ≠ [] ∧ ClA A ∧ (∀ a ∈ A, a.1 ∈ C ∧ a.2 ∈ Ls) ∧ ∃ b M, (b :: M).map Prod.fst = unlR C ∧ ann Ls b.1 (b :: M) ∧ A = fndA (lastP b.1 M) b.1 (b :: M) := by
  obtain ⟨b, M, e, hM⟩ := unlR_sides g ht
  have inC : ∀ a ∈ b :: M, a.1 ∈ C := fun a ha => unlR_sub _ (by rw [← e]; exact List.mem_map.mpr ⟨a, ha, rfl⟩)
  have left : ∀ c ∈ b :: M, ∀ l ∈ Ls, 0 ≤ ev l c.1 := fun c hc l hl => g.left _ (inC c hc) l hl
  have ne := fnd_ne hM left hx
  exact ⟨_, ne, fnd_cls hM left (nf_of hM left hx) ne, fun a ha => ⟨inC a (fndA_sub _ _ _ a ha), ann_line _ _ hM a (fndA_sub _ _ _ a ha)⟩, b, M, e, hM, rfl⟩
theorem two_cut (g : Ring Ls C) (ht : Two C) (hx : ∀ l ∈ Ls, 0 < ev l x) (hh : 0 < ev h x) : Two (cut h C) := by
  obtain ⟨A, hne, ⟨w, hw, hA⟩, hin, _⟩ := tdy_ring g ht hx
  have hA := tdy_of hA hw
  obtain ⟨c, hc, hcp⟩ : ∃ c ∈ C, 0 < ev h c := by
    refine Classical.byContradiction fun z => ?_
    have neg : ∀ p, ev ⟨h.a, (-h.d.1, -h.d.2)⟩ p = -ev h p := fun p => by
      unfold ev
      grind
    have := tdy_in hA hne ⟨h.a, (-h.d.1, -h.d.2)⟩ (fun a ha => by
      rw [neg]
      have : ¬ 0 < ev h a.1 := fun q => z ⟨a.1, (hin a ha).1, q⟩
      grind) (y := x) fun a ha => by
        have := hx _ (hin a ha).2
        grind
    rw [neg] at this
    grind
  obtain ⟨d, hd, hdc⟩ : ∃ d ∈ C, d ≠ c := by
    obtain ⟨p, hp, q, hq, hpq⟩ := ht
    by_cases e : p = c
    · exact ⟨q, hq, fun z => hpq (by rw [e, z])⟩
    · exact ⟨p, hp, e⟩
  have cin := keep_in (h := h) hc (by grind)
  by_cases k : 0 ≤ ev h d
  · exact ⟨d, keep_in hd k, c, cin, hdc⟩
  · obtain ⟨e, he, e1, e2⟩ := goes_out (P := fun p => 0 ≤ ev h p) hc (show 0 ≤ ev h c by grind) hd k
    by_cases z : ev h e.1 = 0
    · refine ⟨e.1, keep_in (ringS_mem he).1 e1, c, cin, fun q => ?_⟩
      rw [q] at z
      grind
    · have hm : ev h e.1 * ev h e.2 < 0 := by
        have := Rat.mul_pos (show 0 < ev h e.1 by grind) (show 0 < -ev h e.2 by grind)
        grind
      refine ⟨_, cross_in he hm, c, cin, fun q => ?_⟩
      have := btw_cut (h := h) hm
      rw [q] at this
      grind
end
/-- three corners at least -/
theorem tdy_three {A : List PL} (g : Tdy A) (hne : A ≠ []) : 3 ≤ A.length := by
  match A, hne with
  | [a], _ =>
    obtain ⟨x, hx, k, _⟩ := g.next a List.mem_cons_self
    rw [List.mem_singleton.mp hx] at k
    exact absurd rfl k.2
  | [a, b], _ =>
    exfalso
    obtain ⟨x, hx, k, kc⟩ := g.next a List.mem_cons_self
    obtain ⟨y, hy, m, mc⟩ := g.next b (List.mem_cons_of_mem _ List.mem_cons_self)
    have ex : x = b := by
      rcases List.mem_cons.mp hx with rfl | hx
      · exact absurd rfl k.2
      · exact List.mem_singleton.mp hx
    have ey : y = a := by
      rcases List.mem_cons.mp hy with e | hy
      · exact e
      · rw [List.mem_singleton.mp hy] at m
        exact absurd rfl m.2
    subst ex ey
    unfold crs at kc mc
    grind
  | a :: b :: c :: r, _ => simp
/-- cut after cut -/
def cuts : List Ln → List Pt → List Pt
  | [], C => C
  | h :: hs, C => cuts hs (cut h C)
theorem cuts_ring : ∀ (hs Ls : List Ln) (C : List Pt), Ring Ls C → Ring (hs.reverse ++ Ls) (cuts hs C)
  | [], Ls, C, g => g
  | h :: hs, Ls, C, g => by
    have := cuts_ring hs (h :: Ls) (cut h C) (ring_cut g)
    rw [List.reverse_cons, List.append_assoc]
    exact this
theorem cuts_two {x : Pt} : ∀ (hs Ls : List Ln) (C : List Pt), Ring Ls C → Two C → (∀ l ∈ Ls, 0 < ev l x) → (∀ l ∈ hs, 0 < ev l x) → Two (cuts hs C)
  | [], Ls, C, _, ht, _, _ => ht
  | h :: hs, Ls, C, g, ht, hx, hh => by
    refine cuts_two hs (h :: Ls) (cut h C) (ring_cut g) (two_cut g ht hx (hh h List.mem_cons_self)) (fun l hl => ?_) fun l hl => hh l (List.mem_cons_of_mem _ hl)
    rcases List.mem_cons.mp hl with rfl | hl
    · exact hh l List.mem_cons_self
    · exact hx l hl

/-! ### how often a ring goes to the right over a number: no more after a cut -/
def upN (c : Rat) (p q : Pt) : Nat := if p.1 < c ∧ c ≤ q.1 then 1 else 0
def chN (c : Rat) : Pt → List Pt → Nat
  | _, [] => 0
  | u, o :: r => upN c u o + chN c o r
def endO : Pt → List Pt → Pt
  | u, [] => u
  | _, o :: r => endO o r
/-- of a ring: from its last place on -/
def ringN (c : Rat) : List Pt → Nat
  | [] => 0
  | o :: r => chN c (endO o r) (o :: r)
theorem up_tri (c : Rat) (p q r : Pt) : upN c p r ≤ upN c p q + upN c q r := by
  unfold upN
  by_cases h1 : p.1 < c ∧ c ≤ r.1
  · rw [if_pos h1]
    by_cases h2 : q.1 < c
    · have e : (if q.1 < c ∧ c ≤ r.1 then 1 else 0) = 1 := if_pos ⟨h2, h1.2⟩
      rw [e]
      omega
    · have e : (if p.1 < c ∧ c ≤ q.1 then 1 else 0) = 1 := if_pos ⟨h1.1, by grind⟩
      rw [e]
      omega
  · rw [if_neg h1]
    omega
theorem up_self (c : Rat) (p : Pt) : upN c p p = 0 := by
  unfold upN
  rw [if_neg]
  intro z
  grind
theorem chN_app (c : Rat) : ∀ (X Y : List Pt) (u : Pt), chN c u (X ++ Y) = chN c u X + chN c (endO u X) Y
  | [], Y, u => by
    show chN c u Y = 0 + chN c u Y
    omega
  | o :: r, Y, u => by
    show upN c u o + chN c o (r ++ Y) = upN c u o + chN c o r + chN c (endO o r) Y
    rw [chN_app c r Y o]
    omega
theorem endO_app : ∀ (X Y : List Pt) (u : Pt), endO u (X ++ Y) = endO (endO u X) Y
  | [], Y, u => rfl
  | o :: r, Y, u => endO_app r Y o
def pathN (c : Rat) : List (Pt × Pt) → Nat
  | [] => 0
  | e :: r => upN c e.1 e.2 + pathN c r
theorem sides_N (c : Rat) : ∀ (r : List Pt) (o z : Pt), pathN c (sides z (o :: r)) = chN c o r + upN c (endO o r) z
  | [], o, z => by
    show upN c o z + 0 = 0 + upN c o z
    omega
  | a :: r, o, z => by
    show upN c o a + pathN c (sides z (a :: r)) = upN c o a + chN c a r + upN c (endO a r) z
    rw [sides_N c r a z]
    omega
/-- places left out -/
inductive Sub : List Pt → List Pt → Prop where
  | nil : Sub [] []
  | skip {x : Pt} {X Y : List Pt} : Sub X Y → Sub X (x :: Y)
  | keep {x : Pt} {X Y : List Pt} : Sub X Y → Sub (x :: X) (x :: Y)
theorem sub_N (c : Rat) {X Y : List Pt} (h : Sub X Y) : ∀ (u p : Pt) (z : Pt), chN c u X + upN c (endO u X) z ≤ upN c u p + (chN c p Y + upN c (endO p Y) z) := by
  induction h with
  | nil => intro u p z; show 0 + upN c u z ≤ upN c u p + (0 + upN c p z); have := up_tri c u p z; omega
  | @skip x X Y _ ih =>
    intro u p z
    have := ih u x z
    have t := up_tri c u p x
    show _ ≤ upN c u p + (upN c p x + chN c x Y + upN c (endO x Y) z)
    omega
  | @keep x X Y _ ih =>
    intro u p z
    have := ih x x z
    rw [up_self] at this
    have t := up_tri c u p x
    show upN c u x + chN c x X + upN c (endO x X) z ≤ upN c u p + (upN c p x + chN c x Y + upN c (endO x Y) z)
    omega

/-! ### the least corner of a tidy ring stands once -/
theorem ringN_path (c : Rat) (C : List Pt) : ringN c C = pathN c (ringS C) := by
  cases C with
  | nil => rfl
  | cons o r =>
    show upN c (endO o r) o + chN c o r = pathN c (sides o (o :: r))
    rw [sides_N]
    omega
def leX (p q : Pt) : Prop := p.1 < q.1 ∨ (p.1 = q.1 ∧ p.2 ≤ q.2)
theorem least_right {l m : Ln} {u v x : Pt} (h : AlN l u v) (k : AlN m v x) (hp : 0 < crs l.d m.d) (h1 : leX v u) (h2 : leX v x) : v.1 < x.1 := by
  obtain ⟨⟨l0, t, ht, a1, a2⟩, hn⟩ := h
  obtain ⟨⟨m0, s, hs, b1, b2⟩, kn⟩ := k
  have ht' : t ≠ 0 := fun e => hn (Prod.ext (by rw [a1, e]; grind) (by rw [a2, e]; grind))
  have hs' : s ≠ 0 := fun e => kn (Prod.ext (by rw [b1, e]; grind) (by rw [b2, e]; grind))
  rcases h2 with h2 | ⟨h2, h3⟩
  · exact h2
  · exfalso
    have m1 : m.d.1 = 0 := by
      have : s * m.d.1 = 0 := by grind
      exact (Rat.mul_eq_zero.mp this).resolve_left hs'
    have m2 : 0 ≤ m.d.2 := by
      refine Classical.byContradiction fun z => ?_
      have := Rat.mul_pos (show 0 < s by grind) (show 0 < -m.d.2 by grind)
      grind
    have lp : 0 < l.d.1 := by
      refine Classical.byContradiction fun z => ?_
      have := Rat.mul_nonneg (show 0 ≤ -l.d.1 by grind) m2
      unfold crs at hp
      rw [m1] at hp
      grind
    have := Rat.mul_pos (show 0 < t by grind) lp
    rcases h1 with h1 | ⟨h1, _⟩ <;> grind
theorem cls_sides : ∀ (A : List PL) (w : PL) (z : Pt), chB (some w) A → (∀ w1, lastA (some w) A = some w1 → AlN w1.2 w1.1 z) → ∀ e ∈ sides z (A.map Prod.fst), ∃ p, (p = w ∨ p ∈ A) ∧ ∃ a ∈ A, a.1 = e.1 ∧ AlN p.2 p.1 e.1 ∧ AlN a.2 e.1 e.2 ∧ 0 < crs p.2.d a.2.d
  | [b], w, z, h, hz, e, he => by
    have he : e = (b.1, z) := List.mem_singleton.mp he
    rw [he]
    exact ⟨w, .inl rfl, b, List.mem_cons_self, rfl, (h.1 w rfl).1, hz b rfl, (h.1 w rfl).2⟩
  | b :: c :: r, w, z, h, hz, e, he => by
    have he : e ∈ (b.1, c.1) :: sides z ((c :: r).map Prod.fst) := he
    rcases List.mem_cons.mp he with he | he
    · rw [he]
      exact ⟨w, .inl rfl, b, List.mem_cons_self, rfl, (h.1 w rfl).1, (h.2.1 b rfl).1, (h.1 w rfl).2⟩
    · obtain ⟨p, hp, a, ha, q⟩ := cls_sides (c :: r) b z h.2 hz e he
      refine ⟨p, .inr ?_, a, List.mem_cons_of_mem _ ha, q⟩
      rcases hp with rfl | hp
      · exact List.mem_cons_self
      · exact List.mem_cons_of_mem _ hp
theorem cls_ring {A : List PL} (g : ClA A) : ∀ e ∈ ringS (A.map Prod.fst), ∃ p ∈ A, ∃ a ∈ A, a.1 = e.1 ∧ AlN p.2 p.1 e.1 ∧ AlN a.2 e.1 e.2 ∧ 0 < crs p.2.d a.2.d := by
  obtain ⟨w, hw, h⟩ := g
  intro e he
  cases A with
  | nil => exact nomatch he
  | cons b r =>
    have hl : lastA (some b) r = some w := hw
    have wm : w ∈ b :: r := by
      obtain ⟨w', e, k⟩ := lastA_some r b
      rw [hl] at e
      cases e
      exact List.mem_cons.mpr k
    obtain ⟨p, hp, q⟩ := cls_sides (b :: r) w b.1 h (fun w1 e1 => by
      have e1 : lastA (some b) r = some w1 := e1
      rw [hl] at e1
      cases e1
      exact (h.1 w rfl).1) e he
    exact ⟨p, hp.elim (fun e => by rw [e]; exact wm) id, q⟩
theorem below_all (v : Pt) : ∀ es : List (Pt × Pt), (∀ e ∈ es, e.1 = v → v.1 < e.2.1) → ∃ c : Rat, v.1 < c ∧ ∀ e ∈ es, e.1 = v → c ≤ e.2.1
  | [], _ => ⟨v.1 + 1, by grind, fun _ h => nomatch h⟩
  | a :: es, h => by
    obtain ⟨c, c1, c2⟩ := below_all v es fun e he => h e (List.mem_cons_of_mem _ he)
    by_cases k : a.1 = v ∧ a.2.1 < c
    · refine ⟨a.2.1, h a List.mem_cons_self k.1, fun e he hv => ?_⟩
      rcases List.mem_cons.mp he with rfl | he
      · exact Rat.le_refl
      · have := c2 e he hv
        have := k.2
        grind
    · refine ⟨c, c1, fun e he hv => ?_⟩
      rcases List.mem_cons.mp he with rfl | he
      · refine Classical.byContradiction fun z => k ⟨hv, by grind⟩
      · exact c2 e he hv
def cntP (v : Pt) : List Pt → Nat
  | [] => 0
  | x :: r => (if x = v then 1 else 0) + cntP v r
theorem cnt_path {v : Pt} {c : Rat} (hc : v.1 < c) : ∀ (L : List Pt) (z : Pt), (∀ e ∈ sides z L, e.1 = v → c ≤ e.2.1) → cntP v L ≤ pathN c (sides z L)
  | [], _, _ => Nat.le_refl _
  | [x], z, h => by
    have a := h (x, z) List.mem_cons_self
    show (if x = v then 1 else 0) + 0 ≤ upN c x z + 0
    by_cases e : x = v
    · have : upN c x z = 1 := if_pos ⟨by rw [e]; exact hc, a e⟩
      rw [if_pos e]
      omega
    · rw [if_neg e]
      omega
  | x :: y :: r, z, h => by
    have a := h (x, y) List.mem_cons_self
    have b := cnt_path hc (y :: r) z fun e he => h e (List.mem_cons_of_mem _ he)
    show (if x = v then 1 else 0) + cntP v (y :: r) ≤ upN c x y + pathN c (sides z (y :: r))
    by_cases e : x = v
    · have : upN c x y = 1 := if_pos ⟨by rw [e]; exact hc, a e⟩
      rw [if_pos e]
      omega
    · rw [if_neg e]
      omega
theorem least_once {A : List PL} (g : ClA A) {v : Pt} (hv : ∀ x ∈ A.map Prod.fst, leX v x) (h1 : ∀ c, ringN c (A.map Prod.fst) ≤ 1) : cntP v (A.map Prod.fst) ≤ 1 := by
  have hr : ∀ e ∈ ringS (A.map Prod.fst), e.1 = v → v.1 < e.2.1 := fun e he hev => by
    obtain ⟨p, hp, a, _, _, q1, q2, q3⟩ := cls_ring g e he
    rw [hev] at q1 q2
    exact least_right q1 q2 q3 (hv _ (List.mem_map.mpr ⟨p, hp, rfl⟩)) (hv _ (ringS_mem he).2)
  obtain ⟨c, c1, c2⟩ := below_all v _ hr
  have a := h1 c
  rw [ringN_path] at a
  cases hA : A.map Prod.fst with
  | nil => exact Nat.zero_le _
  | cons o r =>
    rw [hA] at a c2
    have b := cnt_path c1 (o :: r) o c2
    have a : pathN c (sides o (o :: r)) ≤ 1 := a
    omega
/-! ### places left out of a ring, and a ring begun elsewhere -/
theorem ringN_app (c : Rat) (o p : Pt) (X Y : List Pt) : ringN c ((o :: X) ++ (p :: Y)) = chN c (endO p Y) (o :: X) + chN c (endO o X) (p :: Y) := by
  show chN c (endO o (X ++ p :: Y)) ((o :: X) ++ (p :: Y)) = _
  rw [chN_app, endO_app]
  rfl
theorem ringN_turn (c : Rat) (X Y : List Pt) : ringN c (X ++ Y) = ringN c (Y ++ X) := by
  cases X with
  | nil => rw [List.append_nil, List.nil_append]
  | cons o X =>
    cases Y with
    | nil => rw [List.append_nil, List.nil_append]
    | cons p Y =>
      rw [ringN_app, ringN_app]
      omega
theorem sub_end {X Y : List Pt} (h : Sub X Y) : ∀ (X1 : List Pt) (v : Pt), X = X1 ++ [v] → ∃ Y1 Y2, Y = Y1 ++ v :: Y2 ∧ Sub X1 Y1 := by
  induction h with
  | nil => intro X1 v e; cases X1 <;> cases e
  | @skip x X Y _ ih =>
    intro X1 v e
    obtain ⟨Y1, Y2, e2, s⟩ := ih X1 v e
    exact ⟨x :: Y1, Y2, by rw [e2]; rfl, .skip s⟩
  | @keep x X Y _ ih =>
    intro X1 v e
    cases X1 with
    | nil =>
      cases e
      exact ⟨[], Y, rfl, .nil⟩
    | cons a X1 =>
      obtain ⟨e1, e2⟩ := List.cons.inj e
      obtain ⟨Y1, Y2, e3, s⟩ := ih X1 v e2
      exact ⟨x :: Y1, Y2, by rw [e3]; rfl, by rw [← e1]; exact .keep s⟩
theorem sub_skip {X Y : List Pt} (h : Sub X Y) : ∀ Z : List Pt, Sub X (Z ++ Y)
  | [] => h
  | z :: Z => .skip (sub_skip h Z)
theorem ring_end (c : Rat) (X : List Pt) (v : Pt) : ringN c (X ++ [v]) = chN c v X + upN c (endO v X) v := by
  have : ringN c (X ++ [v]) = ringN c (v :: X) := ringN_turn c X [v]
  rw [this]
  show upN c (endO v X) v + chN c v X = _
  omega
theorem sub_ring (c : Rat) {X Y : List Pt} (h : Sub X Y) : ringN c X ≤ ringN c Y := by
  rcases List.eq_nil_or_concat X with e | ⟨X1, v, e⟩
  · rw [e]
    exact Nat.zero_le _
  · have e : X = X1 ++ [v] := by rw [e]; simp
    obtain ⟨Y1, Y2, e2, s⟩ := sub_end h X1 v e
    have k : ringN c Y = ringN c ((Y2 ++ Y1) ++ [v]) := by
      rw [e2, show Y1 ++ v :: Y2 = (Y1 ++ [v]) ++ Y2 by simp, ringN_turn, List.append_assoc]
    rw [k, e, ring_end, ring_end]
    have := sub_N c (sub_skip s Y2) v v v
    rw [up_self] at this
    omega
theorem fnd_sub : ∀ (M : List PL) (u z : Pt), Sub ((fndA u z M).map Prod.fst) (M.map Prod.fst)
  | [], _, _ => .nil
  | a :: r, u, z => by
    show Sub (((if turnR u a.1 (hd2 z r) = 0 then [] else [a]) ++ fndA a.1 z r).map Prod.fst) (a.1 :: r.map Prod.fst)
    by_cases h : turnR u a.1 (hd2 z r) = 0
    · rw [if_pos h]
      exact .skip (fnd_sub r a.1 z)
    · rw [if_neg h]
      exact .keep (fnd_sub r a.1 z)

/-! ### the same place, the same ring -/
theorem eps_of (v : Pt) : ∀ L : List Pt, (∀ p ∈ L, leX v p) → ∃ e0 : Rat, 0 < e0 ∧ ∀ e : Rat, 0 < e → e ≤ e0 → ∀ p ∈ L, 0 ≤ (p.1 - v.1) + e * (p.2 - v.2)
  | [], _ => ⟨1, by grind, fun _ _ _ _ h => nomatch h⟩
  | q :: L, h => by
    obtain ⟨e0, h0, h1⟩ := eps_of v L fun p hp => h p (List.mem_cons_of_mem _ hp)
    have hq := h q List.mem_cons_self
    by_cases k : v.2 ≤ q.2
    · refine ⟨e0, h0, fun e he hee p hp => ?_⟩
      rcases List.mem_cons.mp hp with rfl | hp
      · have := Rat.mul_nonneg (show 0 ≤ e by grind) (show 0 ≤ p.2 - v.2 by grind)
        rcases hq with hq | hq <;> grind
      · exact h1 e he hee p hp
    · have k1 : v.1 < q.1 := by
        rcases hq with hq | hq
        · exact hq
        · exact absurd hq.2 k
      have kd : 0 < v.2 - q.2 := by grind
      have n : v.2 - q.2 ≠ 0 := by grind
      have e1 : (q.1 - v.1) / (v.2 - q.2) * (v.2 - q.2) = q.1 - v.1 := by grind
      have ep : 0 < (q.1 - v.1) / (v.2 - q.2) := by
        refine Classical.byContradiction fun z => ?_
        have := Rat.mul_nonneg (show 0 ≤ -((q.1 - v.1) / (v.2 - q.2)) by grind) (show 0 ≤ v.2 - q.2 by grind)
        grind
      generalize (q.1 - v.1) / (v.2 - q.2) = g at e1 ep
      have fin : ∀ e : Rat, 0 < e → e ≤ g → 0 ≤ (q.1 - v.1) + e * (q.2 - v.2) := fun e he heg => by
        have := Rat.mul_nonneg (show 0 ≤ g - e by grind) (show 0 ≤ v.2 - q.2 by grind)
        grind
      rcases Rat.le_total (a := e0) (b := g) with m | m
      · refine ⟨e0, h0, fun e he hee p hp => ?_⟩
        rcases List.mem_cons.mp hp with rfl | hp
        · exact fin e he (by grind)
        · exact h1 e he hee p hp
      · refine ⟨g, ep, fun e he hee p hp => ?_⟩
        rcases List.mem_cons.mp hp with rfl | hp
        · exact fin e he hee
        · exact h1 e he (by grind) p hp
/-- what is left of all sides stands not ahead of the least corner -/
theorem least_in {A : List PL} (g : Tdy A) (hne : A ≠ []) {v : Pt} (hv : ∀ x ∈ A.map Prod.fst, leX v x) {y : Pt} (hy : ∀ a ∈ A, 0 ≤ ev a.2 y) : leX v y := by
  obtain ⟨e, he, hp⟩ := eps_of v _ hv
  have h1 := tdy_in g hne ⟨v, (0, -1)⟩ (fun a ha => by
    have := hv a.1 (List.mem_map.mpr ⟨a, ha, rfl⟩)
    unfold ev
    rcases this with h | h <;> grind) hy
  have h2 := tdy_in g hne ⟨v, (e, -1)⟩ (fun a ha => by
    have := hp e he Rat.le_refl a.1 (List.mem_map.mpr ⟨a, ha, rfl⟩)
    unfold ev
    grind) hy
  unfold ev at h1 h2
  by_cases k : v.1 < y.1
  · exact .inl k
  · have k : v.1 = y.1 := by grind
    refine .inr ⟨k, Classical.byContradiction fun z => ?_⟩
    have := Rat.mul_pos he (show 0 < v.2 - y.2 by grind)
    grind
theorem leX_anti {p q : Pt} (h : leX p q) (k : leX q p) : p = q := by
  refine Prod.ext ?_ ?_
  · rcases h with h | h <;> rcases k with k | k <;> grind
  · rcases h with h | h <;> rcases k with k | k <;> grind
/-- on one way out of a corner the next is not further than the other's -/
theorem not_past {m n : Ln} {v x y : Pt} {s t : Rat} (x1 : x.1 = v.1 + s * m.d.1) (x2 : x.2 = v.2 + s * m.d.2) (y1 : y.1 = v.1 + t * m.d.1) (y2 : y.2 = v.2 + t * m.d.2) (hn : ev n x = 0) (hc : 0 < crs m.d n.d) (hy : 0 ≤ ev n y) : t ≤ s := by
  refine Classical.byContradiction fun z => ?_
  have := Rat.mul_pos (show 0 < t - s by grind) hc
  have e : ev n y = ev n x - (t - s) * crs m.d n.d := by
    unfold ev crs
    rw [y1, y2, x1, x2]
    grind
  grind
theorem next_same {l m n m' n' : Ln} {u v x y : Pt} (a1 : AlN l u v) (a2 : 0 < crs l.d m.d) (a3 : AlN m v x) (a4 : 0 < crs m.d n.d) (nx : ev n x = 0) (b3 : AlN m' v y) (b4 : 0 < crs m'.d n'.d) (ny : ev n' y = 0)
    (ly : 0 ≤ ev l y) (my : 0 ≤ ev m y) (ny' : 0 ≤ ev n y) (mx : 0 ≤ ev m' x) (nx' : 0 ≤ ev n' x) : x = y := by
  have lv := a1.1.on
  have md := a3.d
  obtain ⟨⟨m0, s, hs, x1, x2⟩, kx⟩ := a3
  obtain ⟨⟨m0', t, ht, y1, y2⟩, ky⟩ := b3
  have hs' : s ≠ 0 := fun e => kx (Prod.ext (by rw [x1, e]; grind) (by rw [x2, e]; grind))
  have ht' : t ≠ 0 := fun e => ky (Prod.ext (by rw [y1, e]; grind) (by rw [y2, e]; grind))
  have c1 : 0 ≤ crs m.d m'.d := by
    refine Classical.byContradiction fun z => ?_
    have := Rat.mul_pos (show 0 < t by grind) (show 0 < -crs m.d m'.d by grind)
    have e : ev m y = t * crs m.d m'.d := by
      unfold ev at m0 ⊢
      unfold crs
      rw [y1, y2]
      grind
    grind
  have c2 : 0 ≤ crs m'.d m.d := by
    refine Classical.byContradiction fun z => ?_
    have := Rat.mul_pos (show 0 < s by grind) (show 0 < -crs m'.d m.d by grind)
    have e : ev m' x = s * crs m'.d m.d := by
      unfold ev at m0' ⊢
      unfold crs
      rw [x1, x2]
      grind
    grind
  have c0 : crs m.d m'.d = 0 := by
    have : crs m'.d m.d = -crs m.d m'.d := by
      unfold crs
      grind
    grind
  obtain ⟨r, r1, r2⟩ : ∃ r : Rat, m'.d.1 = r * m.d.1 ∧ m'.d.2 = r * m.d.2 := by
    unfold crs at c0
    by_cases q : m.d.1 = 0
    · have q2 : m.d.2 ≠ 0 := fun z => md ⟨q, z⟩
      refine ⟨m'.d.2 / m.d.2, ?_, by grind⟩
      have : m'.d.1 * m.d.2 = 0 := by grind
      have := (Rat.mul_eq_zero.mp this).resolve_right q2
      grind
    · refine ⟨m'.d.1 / m.d.1, by grind, ?_⟩
      have : m.d.1 * m'.d.2 = m.d.2 * m'.d.1 := by grind
      grind
  have hr : 0 ≤ r := by
    refine Classical.byContradiction fun z => ?_
    have q := Rat.mul_pos (Rat.mul_pos (show 0 < t by grind) (show 0 < -r by grind)) a2
    have e : ev l y = t * r * crs l.d m.d := by
      unfold ev at lv ⊢
      unfold crs
      rw [y1, y2, r1, r2]
      grind
    grind
  have hr' : r ≠ 0 := fun e => by
    unfold crs at b4
    rw [r1, r2, e] at b4
    grind
  have y1' : y.1 = v.1 + t * r * m.d.1 := by rw [y1, r1]; grind
  have y2' : y.2 = v.2 + t * r * m.d.2 := by rw [y2, r2]; grind
  have p1 := not_past x1 x2 y1' y2' nx a4 ny'
  have b5 : 0 < crs m.d n'.d := by
    refine Classical.byContradiction fun z => ?_
    have q := Rat.mul_nonneg hr (show 0 ≤ -crs m.d n'.d by grind)
    have e : crs m'.d n'.d = r * crs m.d n'.d := by
      unfold crs
      rw [r1, r2]
      grind
    grind
  have p2 := not_past y1' y2' x1 x2 ny b5 nx'
  have e : s = t * r := by grind
  exact Prod.ext (by rw [x1, y1', e]) (by rw [x2, y2', e])
/-- of the lines `Ls`, and left of them all -/
def Wi (Ls : List Ln) (A : List PL) : Prop := ∀ a ∈ A, a.2 ∈ Ls ∧ ∀ l ∈ Ls, 0 ≤ ev l a.1
theorem AlN.fst {l : Ln} {p q : Pt} (h : AlN l p q) : ev l p = 0 := h.1.1
section
variable {Ls : List Ln} {a0 b0 w w' : PL}
theorem same_run (h0 : a0.1 = b0.1) : ∀ (r r' : List PL) (a b p : PL), a.1 = b.1 → Wi Ls (a0 :: a :: r) → Wi Ls (b0 :: b :: r') → p.2 ∈ Ls → AlN p.2 p.1 a.1 → 0 < crs p.2.d a.2.d → chB (some a) r → chB (some b) r' → lastA (some a) r = some w → lastA (some b) r' = some w' → (AlN w.2 w.1 a0.1 ∧ 0 < crs w.2.d a0.2.d ∧ ev a0.2 a0.1 = 0) → (AlN w'.2 w'.1 b0.1 ∧ 0 < crs w'.2.d b0.2.d ∧ ev b0.2 b0.1 = 0) → (∀ x ∈ r, x.1 ≠ a0.1 ∧ ev x.2 x.1 = 0) → (∀ x ∈ r', x.1 ≠ b0.1 ∧ ev x.2 x.1 = 0) → r.map Prod.fst = r'.map Prod.fst
  | [], [], _, _, _, _, _, _, _, _, _, _, _, _, _, _, _, _, _ => rfl
  | [], y :: r', a, b, p, e, wa, wb, hp, hpa, hpc, ha, hb, la, lb, ca, cb, na, nb => by
    exfalso
    have la : a = w := Option.some.inj la
    rw [← la] at ca
    have k := hb.1 b rfl
    rw [← e] at k
    have wa0 := wa a0 List.mem_cons_self
    have waa := wa a (List.mem_cons_of_mem _ List.mem_cons_self)
    have wbb := wb b (List.mem_cons_of_mem _ List.mem_cons_self)
    have wby := wb y (List.mem_cons_of_mem _ (List.mem_cons_of_mem _ List.mem_cons_self))
    have ny := nb y List.mem_cons_self
    have := next_same hpa hpc ca.1 ca.2.1 ca.2.2 k.1 k.2 ny.2 (wby.2 _ hp) (wby.2 _ waa.1) (wby.2 _ wa0.1) (wa0.2 _ wbb.1) (wa0.2 _ wby.1)
    exact ny.1 (by rw [← h0]; exact this.symm)
  | x :: r, [], a, b, p, e, wa, wb, hp, hpa, hpc, ha, hb, la, lb, ca, cb, na, nb => by
    exfalso
    have lb : b = w' := Option.some.inj lb
    rw [← lb] at cb
    have k := ha.1 a rfl
    rw [← e] at cb
    have wb0 := wb b0 List.mem_cons_self
    have waa := wa a (List.mem_cons_of_mem _ List.mem_cons_self)
    have wbb := wb b (List.mem_cons_of_mem _ List.mem_cons_self)
    have wax := wa x (List.mem_cons_of_mem _ (List.mem_cons_of_mem _ List.mem_cons_self))
    have nx := na x List.mem_cons_self
    have := next_same hpa hpc k.1 k.2 nx.2 cb.1 cb.2.1 cb.2.2 (wb0.2 _ hp) (wb0.2 _ waa.1) (wb0.2 _ wax.1) (wax.2 _ wbb.1) (wax.2 _ wb0.1)
    exact nx.1 (by rw [h0]; exact this)
  | x :: r, y :: r', a, b, p, e, wa, wb, hp, hpa, hpc, ha, hb, la, lb, ca, cb, na, nb => by
    have k := ha.1 a rfl
    have k' := hb.1 b rfl
    rw [← e] at k'
    have waa := wa a (List.mem_cons_of_mem _ List.mem_cons_self)
    have wbb := wb b (List.mem_cons_of_mem _ List.mem_cons_self)
    have wax := wa x (List.mem_cons_of_mem _ (List.mem_cons_of_mem _ List.mem_cons_self))
    have wby := wb y (List.mem_cons_of_mem _ (List.mem_cons_of_mem _ List.mem_cons_self))
    have nx := na x List.mem_cons_self
    have ny := nb y List.mem_cons_self
    have q := next_same hpa hpc k.1 k.2 nx.2 k'.1 k'.2 ny.2 (wby.2 _ hp) (wby.2 _ waa.1) (wby.2 _ wax.1) (wax.2 _ wbb.1) (wax.2 _ wby.1)
    rw [List.map_cons, List.map_cons, q]
    congr 1
    refine same_run h0 r r' x y a q (fun c hc => ?_) (fun c hc => ?_) waa.1 k.1 k.2 ha.2 hb.2 la lb ca cb (fun c hc => na c (List.mem_cons_of_mem _ hc)) fun c hc => nb c (List.mem_cons_of_mem _ hc)
    · rcases List.mem_cons.mp hc with rfl | hc
      · exact wa _ List.mem_cons_self
      · exact wa _ (List.mem_cons_of_mem _ (List.mem_cons_of_mem _ hc))
    · rcases List.mem_cons.mp hc with rfl | hc
      · exact wb _ List.mem_cons_self
      · exact wb _ (List.mem_cons_of_mem _ (List.mem_cons_of_mem _ hc))
end

/-! ### two tidy rings of the same lines, each begun at its least corner, are one list -/
theorem cnt_mem {v : Pt} : ∀ {L : List Pt}, v ∈ L → 1 ≤ cntP v L
  | x :: r, h => by
    show 1 ≤ (if x = v then 1 else 0) + cntP v r
    rcases List.mem_cons.mp h with e | h
    · rw [if_pos e.symm]
      omega
    · have := cnt_mem h
      omega
theorem once_tail {v : Pt} {L : List Pt} (h : cntP v (v :: L) ≤ 1) : ∀ x ∈ L, x ≠ v := fun x hx e => by
  have h : (if v = v then 1 else 0) + cntP v L ≤ 1 := h
  rw [e] at hx
  have := cnt_mem hx
  rw [if_pos rfl] at h
  omega
theorem cls_tdy {A : List PL} (g : ClA A) : Tdy A := by
  obtain ⟨w, hw, h⟩ := g
  exact tdy_of h hw
theorem same_ring {Ls : List Ln} {a0 b0 : PL} {r r' : List PL} (ga : ClA (a0 :: r)) (gb : ClA (b0 :: r')) (wa : Wi Ls (a0 :: r)) (wb : Wi Ls (b0 :: r')) (va : ∀ x ∈ (a0 :: r).map Prod.fst, leX a0.1 x) (vb : ∀ x ∈ (b0 :: r').map Prod.fst, leX b0.1 x)
    (na : ∀ c, ringN c ((a0 :: r).map Prod.fst) ≤ 1) (nb : ∀ c, ringN c ((b0 :: r').map Prod.fst) ≤ 1) : (a0 :: r).map Prod.fst = (b0 :: r').map Prod.fst := by
  have oa := once_tail (least_once ga va na)
  have ob := once_tail (least_once gb vb nb)
  have ta := cls_tdy ga
  have tb := cls_tdy gb
  have e0 : a0.1 = b0.1 := leX_anti (least_in ta (by simp) va fun a ha => (wb b0 List.mem_cons_self).2 _ (wa a ha).1) (least_in tb (by simp) vb fun b hb => (wa a0 List.mem_cons_self).2 _ (wb b hb).1)
  have za : ∀ x ∈ a0 :: r, ev x.2 x.1 = 0 := fun x hx => by
    obtain ⟨_, _, k, _⟩ := ta.next x hx
    exact k.fst
  have zb : ∀ x ∈ b0 :: r', ev x.2 x.1 = 0 := fun x hx => by
    obtain ⟨_, _, k, _⟩ := tb.next x hx
    exact k.fst
  obtain ⟨w, hw, ha⟩ := ga
  obtain ⟨w', hw', hb⟩ := gb
  have hl : lastA (some a0) r = some w := hw
  have hl' : lastA (some b0) r' = some w' := hw'
  have wm : w ∈ a0 :: r := by
    obtain ⟨w1, e, k⟩ := lastA_some r a0
    rw [hl] at e
    cases e
    exact List.mem_cons.mpr k
  have ka := ha.1 w rfl
  have kb := hb.1 w' rfl
  have := same_run (Ls := Ls) (a0 := a0) (b0 := b0) (w := w) (w' := w') e0 r r' a0 b0 w e0
    (fun c hc => (List.mem_cons.mp hc).elim (fun e => by rw [e]; exact wa _ List.mem_cons_self) (wa c))
    (fun c hc => (List.mem_cons.mp hc).elim (fun e => by rw [e]; exact wb _ List.mem_cons_self) (wb c))
    (wa w wm).1 ka.1 ka.2 ha.2 hb.2 hl hl' ⟨ka.1, ka.2, za _ List.mem_cons_self⟩ ⟨kb.1, kb.2, zb _ List.mem_cons_self⟩
    (fun x hx => ⟨oa _ (List.mem_map.mpr ⟨x, hx, rfl⟩), za x (List.mem_cons_of_mem _ hx)⟩)
    (fun x hx => ⟨ob _ (List.mem_map.mpr ⟨x, hx, rfl⟩), zb x (List.mem_cons_of_mem _ hx)⟩)
  rw [List.map_cons, List.map_cons, e0, this]
/-! ### a tidy ring begun elsewhere -/
theorem lastA_app : ∀ (X Y : List PL) (u : Option PL), lastA u (X ++ Y) = lastA (lastA u X) Y
  | [], _, _ => rfl
  | a :: r, Y, _ => lastA_app r Y (some a)
theorem chB_app : ∀ (X Y : List PL) (u : Option PL), chB u (X ++ Y) ↔ chB u X ∧ chB (lastA u X) Y
  | [], _, _ => ⟨fun h => ⟨trivial, h⟩, fun h => h.2⟩
  | a :: r, Y, u => by
    have := chB_app r Y (some a)
    show _ ∧ chB (some a) (r ++ Y) ↔ (_ ∧ chB (some a) r) ∧ chB (lastA (some a) r) Y
    rw [this]
    exact ⟨fun h => ⟨⟨h.1, h.2.1⟩, h.2.2⟩, fun h => ⟨h.1.1, h.1.2, h.2⟩⟩
theorem cls_turn {X Y : List PL} (g : ClA (X ++ Y)) : ClA (Y ++ X) := by
  cases X with
  | nil => rw [List.append_nil]; exact g
  | cons a X =>
    cases Y with
    | nil => rw [List.append_nil] at g; exact g
    | cons b Y =>
      obtain ⟨w, hw, h⟩ := g
      rw [lastA_app] at hw
      have hw : lastA (some b) Y = some w := hw
      obtain ⟨h1, h2⟩ := (chB_app _ _ _).mp h
      obtain ⟨u, hu, _⟩ := lastA_some X a
      refine ⟨u, ?_, (chB_app _ _ _).mpr ⟨?_, ?_⟩⟩
      · rw [lastA_app]
        exact hu
      · have h2 : chB (lastA (some a) X) (b :: Y) := h2
        rw [hu] at h2
        exact h2
      · show chB (lastA (some b) Y) (a :: X)
        rw [hw]
        exact h1
theorem wi_turn {Ls : List Ln} {X Y : List PL} (g : Wi Ls (X ++ Y)) : Wi Ls (Y ++ X) := fun a ha => g a (by
  rcases List.mem_append.mp ha with h | h
  · exact List.mem_append_right _ h
  · exact List.mem_append_left _ h)
/-- of two ways about, and with either part again: only the set of lines counts -/
theorem wi_lines {Ls Ms : List Ln} {A : List PL} (h : ∀ l, l ∈ Ls ↔ l ∈ Ms) (g : Wi Ls A) : Wi Ms A := fun a ha => ⟨(h _).mp (g a ha).1, fun l hl => (g a ha).2 l ((h l).mpr hl)⟩
/-! ### how often goings stand after cuts -/
/-! ### a cut ring made tidy, begun at its least corner -/
theorem leX_tot (p q : Pt) : leX p q ∨ leX q p := by
  unfold leX
  by_cases h : p.1 < q.1
  · exact .inl (.inl h)
  · by_cases k : q.1 < p.1
    · exact .inr (.inl k)
    · have e : p.1 = q.1 := by grind
      rcases Rat.le_total (a := p.2) (b := q.2) with m | m
      · exact .inl (.inr ⟨e, m⟩)
      · exact .inr (.inr ⟨e.symm, m⟩)
theorem leX_trans {p q r : Pt} (h : leX p q) (k : leX q r) : leX p r := by
  unfold leX at h k ⊢
  rcases h with h | h <;> rcases k with k | k
  · exact .inl (by grind)
  · exact .inl (by grind)
  · exact .inl (by grind)
  · exact .inr ⟨by grind, by grind⟩
theorem leX_self (p : Pt) : leX p p := .inr ⟨rfl, Rat.le_refl⟩
theorem least_split : ∀ A : List PL, A ≠ [] → ∃ X a Y, A = X ++ a :: Y ∧ ∀ c ∈ A, leX a.1 c.1
  | [], h => absurd rfl h
  | [a], _ => ⟨[], a, [], rfl, fun c hc => by rw [List.mem_singleton.mp hc]; exact leX_self _⟩
  | a :: b :: r, _ => by
    obtain ⟨X, v, Y, e, h⟩ := least_split (b :: r) (by simp)
    rcases leX_tot a.1 v.1 with k | k
    · refine ⟨[], a, b :: r, rfl, fun c hc => ?_⟩
      rcases List.mem_cons.mp hc with rfl | hc
      · exact leX_self _
      · exact leX_trans k (h c hc)
    · refine ⟨a :: X, v, Y, by rw [e]; rfl, fun c hc => ?_⟩
      rcases List.mem_cons.mp hc with rfl | hc
      · exact k
      · exact h c hc
theorem tdy_least {Ls : List Ln} {C : List Pt} {x : Pt} (g : Ring Ls C) (ht : Two C) (hx : ∀ l ∈ Ls, 0 < ev l x) (hN : ∀ c, ringN c (unlR C) ≤ 1) : ∃ X a Y b M, (b :: M).map Prod.fst = unlR C ∧ fndA (lastP b.1 M) b.1 (b :: M) = X ++ a :: Y ∧ ClA (a :: (Y ++ X)) ∧ Wi Ls (a :: (Y ++ X)) ∧ (∀ y ∈ (a :: (Y ++ X)).map Prod.fst, leX a.1 y) ∧ (∀ c, ringN c ((a :: (Y ++ X)).map Prod.fst) ≤ 1) ∧ 3 ≤ (a :: (Y ++ X)).length := by
  obtain ⟨A, hne, hA, hin, b, M, e, hM, eA⟩ := tdy_ring g ht hx
  obtain ⟨X, a, Y, eX, hv⟩ := least_split A hne
  have wi : Wi Ls A := fun c hc => ⟨(hin c hc).2, fun l hl => g.left _ (hin c hc).1 l hl⟩
  have hl := tdy_three (cls_tdy hA) hne
  have hs : ∀ c, ringN c (A.map Prod.fst) ≤ 1 := fun c => by
    refine Nat.le_trans ?_ (hN c)
    rw [eA, ← e]
    exact sub_ring c (fnd_sub _ _ _)
  rw [eX] at hA wi hl hs
  have t : a :: (Y ++ X) = (a :: Y) ++ X := rfl
  refine ⟨X, a, Y, b, M, e, by rw [← eA, eX], ?_, ?_, fun y hy => ?_, fun c => ?_, ?_⟩
  · rw [t]
    exact cls_turn hA
  · rw [t]
    exact wi_turn wi
  · obtain ⟨d, hd, rfl⟩ := List.mem_map.mp hy
    refine hv d ?_
    rw [eX]
    rw [t] at hd
    rcases List.mem_append.mp hd with h | h
    · exact List.mem_append_right _ h
    · exact List.mem_append_left _ h
  · have := hs c
    rw [List.map_append, ringN_turn, ← List.map_append] at this
    exact this
  · simp only [List.length_append, List.length_cons] at hl ⊢
    omega

/-! ### a turn that is not none gives a place strictly within -/
theorem on_three {l : Ln} {p q r : Pt} (hd : ¬(l.d.1 = 0 ∧ l.d.2 = 0)) (h1 : ev l p = 0) (h2 : ev l q = 0) (h3 : ev l r = 0) : turnR p q r = 0 := by
  unfold ev at h1 h2 h3
  have a : l.d.1 * (q.2 - p.2) = l.d.2 * (q.1 - p.1) := by grind
  have b : l.d.1 * (r.2 - p.2) = l.d.2 * (r.1 - p.1) := by grind
  by_cases k : l.d.1 = 0
  · have k2 : l.d.2 ≠ 0 := fun z => hd ⟨k, z⟩
    have : l.d.2 * turnR p q r = 0 := by
      unfold turnR
      grind
    exact (Rat.mul_eq_zero.mp this).resolve_left k2
  · have : l.d.1 * turnR p q r = 0 := by
      unfold turnR
      grind
    exact (Rat.mul_eq_zero.mp this).resolve_left k
theorem inner_of {Ls : List Ln} (nd : ∀ l ∈ Ls, ¬(l.d.1 = 0 ∧ l.d.2 = 0)) {p q r : Pt} (hp : ∀ l ∈ Ls, 0 ≤ ev l p) (hq : ∀ l ∈ Ls, 0 ≤ ev l q) (hr : ∀ l ∈ Ls, 0 ≤ ev l r) (ht : turnR p q r ≠ 0) : ∃ x : Pt, ∀ l ∈ Ls, 0 < ev l x := by
  refine ⟨((p.1 + q.1 + r.1) / 3, (p.2 + q.2 + r.2) / 3), fun l hl => Classical.byContradiction fun z => ht ?_⟩
  have e : 3 * ev l ((p.1 + q.1 + r.1) / 3, (p.2 + q.2 + r.2) / 3) = ev l p + ev l q + ev l r := by
    unfold ev
    grind
  have a := hp l hl
  have b := hq l hl
  have c := hr l hl
  exact on_three (nd l hl) (by grind) (by grind) (by grind)
/-! ### a ring that is wide, of lines that are lines: cut either way it is one list -/
/-! ### the program's cut, by numbers, is the cut of the ring -/
theorem sides_len : ∀ (L : List Pt) (z : Pt), (sides z L).length = L.length
  | [], _ => rfl
  | [x], _ => rfl
  | x :: y :: r, z => by
    show (sides z (y :: r)).length + 1 = _
    rw [sides_len (y :: r) z]
    rfl
theorem sides_at : ∀ (L : List Pt) (z : Pt) (k : Nat), k < L.length → (sides z L)[k]? = some (L.getD k (0, 0), if k + 1 < L.length then L.getD (k + 1) (0, 0) else z)
  | [x], z, 0, _ => rfl
  | x :: y :: r, z, 0, _ => by
    show some (x, y) = some (x, if 0 + 1 < r.length + 1 + 1 then y else z)
    rw [if_pos (by omega)]
  | x :: y :: r, z, k + 1, h => by
    have h : k < (y :: r).length := by simpa using h
    have e := sides_at (y :: r) z k h
    show (sides z (y :: r))[k]? = some ((y :: r).getD k (0, 0), if k + 1 + 1 < (y :: r).length + 1 then (y :: r).getD (k + 1) (0, 0) else z)
    rw [e]
    by_cases q : k + 1 < (y :: r).length
    · rw [if_pos q, if_pos (by omega)]
    · rw [if_neg q, if_neg (by omega)]
theorem keptR_range (ps : List Pt) (h : Pt → Rat) : ∀ n, keptR ps h n = (List.range n).flatMap (keepAt ps h)
  | 0 => rfl
  | n + 1 => by
    show keptR ps h n ++ keepAt ps h n = _
    rw [List.range_succ, List.flatMap_append, keptR_range ps h n]
    simp
theorem pt_getD (ps : List Pt) (k : Nat) (hk : k < ps.length) (d : Pt) : ps.getD k d = pt ps k := by
  unfold pt
  rw [List.getD_eq_getElem?_getD, List.getD_eq_getElem?_getD, List.getElem?_eq_getElem hk]
  rfl
theorem ringS_idx (ps : List Pt) : ringS ps = (List.range ps.length).map fun k => (pt ps k, pt ps ((k + 1) % ps.length)) := by
  cases ps with
  | nil => rfl
  | cons o r =>
    show sides o (o :: r) = _
    refine List.ext_getElem? fun k => ?_
    by_cases hk : k < (o :: r).length
    · rw [sides_at _ _ _ hk, List.getElem?_map, List.getElem?_range hk, pt_getD _ _ hk]
      show _ = some (pt (o :: r) k, pt (o :: r) ((k + 1) % (o :: r).length))
      by_cases q : k + 1 < (o :: r).length
      · rw [if_pos q, Nat.mod_eq_of_lt q, pt_getD _ _ q]
      · have e : k + 1 = (o :: r).length := by omega
        rw [if_neg q, e, Nat.mod_self]
        rfl
    · rw [List.getElem?_eq_none (by rw [sides_len]; omega), List.getElem?_eq_none (by rw [List.length_map, List.length_range]; omega)]
theorem kept_cut (ps : List Pt) (l : Ln) : kept ps (ev l) = cut l ps := by
  unfold kept cut
  rw [keptR_range, ringS_idx, List.flatMap_map]
  rfl

/-! ### neighbours alike left out: the program's way, by numbers -/
theorem unlL_idx : ∀ (L : List Pt) (u : Pt), unlL u L = ((List.range L.length).filter fun k => !decide (pt L k = if k = 0 then u else pt L (k - 1))).map (pt L)
  | [], _ => rfl
  | x :: r, u => by
    have e : ((fun k => !decide (pt (x :: r) k = if k = 0 then u else pt (x :: r) (k - 1))) ∘ Nat.succ) = fun k => !decide (pt r k = if k = 0 then x else pt r (k - 1)) := by
      funext k
      cases k <;> rfl
    have m : (pt (x :: r)) ∘ Nat.succ = pt r := rfl
    rw [List.length_cons, List.range_succ_eq_map, List.filter_cons, List.filter_map, e]
    have h0 : (!decide (pt (x :: r) 0 = if 0 = 0 then u else pt (x :: r) (0 - 1))) = !decide (x = u) := rfl
    rw [h0]
    unfold unlL
    by_cases h : x = u
    · rw [if_pos h, decide_eq_true h, unlL_idx r x]
      show _ = List.map (pt (x :: r)) (List.map Nat.succ _)
      rw [List.map_map, m]
    · rw [if_neg h, decide_eq_false h, unlL_idx r x]
      show _ = x :: List.map (pt (x :: r)) (List.map Nat.succ _)
      rw [List.map_map, m]

/-! ### a part made tidy, by numbers (as the program does it) -/
def unl (ps : List Pt) : List Pt := ((List.range ps.length).filter fun k => !decide ((pt ps k).1 = (pt ps (prev ps.length k)).1 ∧ (pt ps k).2 = (pt ps (prev ps.length k)).2) || decide (ps.length = 1)).map (pt ps)
def fndN (us : List Pt) : Nat → List Pt
  | 0 => []
  | n + 1 => fndN us n ++ if turnR (pt us (prev us.length n)) (pt us n) (pt us ((n + 1) % us.length)) = 0 then [] else [pt us n]
def fnd (ps : List Pt) : List Pt := fndN (unl ps) (unl ps).length
theorem fndN_len {us : List Pt} : ∀ n, (fndN us n).length ≤ n
  | 0 => Nat.le_refl _
  | n + 1 => by
    have := fndN_len (us := us) n
    unfold fndN
    rw [List.length_append]
    have e1 : (if turnR (pt us (prev us.length n)) (pt us n) (pt us ((n + 1) % us.length)) = 0 then ([] : List Pt) else [pt us n]).length ≤ 1 := by split <;> simp
    omega
theorem unl_len {ps : List Pt} : (unl ps).length ≤ ps.length := by
  unfold unl
  rw [List.length_map]
  exact Nat.le_trans (List.length_filter_le _ _) (by rw [List.length_range]; exact Nat.le_refl _)
theorem unl_mem {ps : List Pt} {p : Pt} (h : p ∈ unl ps) : p ∈ ps := by
  unfold unl at h
  obtain ⟨k, hk, rfl⟩ := List.mem_map.mp h
  exact pt_mem (List.mem_range.mp (List.mem_filter.mp hk).1)
theorem fndN_mem {us : List Pt} : ∀ {n : Nat} {p : Pt}, n ≤ us.length → p ∈ fndN us n → ∃ k, k < us.length ∧ p = pt us k ∧ turnR (pt us (prev us.length k)) (pt us k) (pt us ((k + 1) % us.length)) ≠ 0
  | 0, p, _, h => nomatch h
  | n + 1, p, hn, h => by
    unfold fndN at h
    rcases List.mem_append.mp h with h | h
    · exact fndN_mem (by omega) h
    · split at h
      · exact nomatch h
      · rename_i z
        exact ⟨n, by omega, List.mem_singleton.mp h, z⟩
theorem fnd_mem {ps : List Pt} {p : Pt} (h : p ∈ fnd ps) : p ∈ ps := by
  obtain ⟨k, hk, rfl, _⟩ := fndN_mem (Nat.le_refl _) h
  exact unl_mem (pt_mem hk)
/-- a place left in is one of three places that turn -/
theorem fnd_three {ps : List Pt} (h : fnd ps ≠ []) : ∃ p q r, p ∈ ps ∧ q ∈ ps ∧ r ∈ ps ∧ turnR p q r ≠ 0 := by
  cases e : fnd ps with
  | nil => exact absurd e h
  | cons a r =>
    have ha : a ∈ fnd ps := by rw [e]; exact List.mem_cons_self
    obtain ⟨k, hk, _, ht⟩ := fndN_mem (Nat.le_refl _) ha
    have h1 : prev (unl ps).length k < (unl ps).length := by unfold prev; split <;> omega
    have h2 : (k + 1) % (unl ps).length < (unl ps).length := Nat.mod_lt _ (by omega)
    exact ⟨_, _, _, unl_mem (pt_mem h1), unl_mem (pt_mem hk), unl_mem (pt_mem h2), ht⟩
def before (p q : Pt) : Bool := if p.1 = q.1 then decide (p.2 < q.2) else decide (p.1 < q.1)
def fstN (fs : List Pt) : Nat → Nat
  | 0 => 0
  | n + 1 => if before (pt fs (n + 1)) (pt fs (fstN fs n)) = true then n + 1 else fstN fs n
theorem fstN_le {fs : List Pt} : ∀ n, fstN fs n ≤ n
  | 0 => Nat.le_refl _
  | n + 1 => by
    have := fstN_le (fs := fs) n
    unfold fstN
    split <;> omega
def rotR (fs : List Pt) : List Pt := if fs.length < 3 then [] else fs.drop (fstN fs (fs.length - 1)) ++ fs.take (fstN fs (fs.length - 1))
def tidR (ps : List Pt) : List Pt := rotR (fnd ps)
theorem rotR_len (fs : List Pt) : (rotR fs).length ≤ fs.length := by
  unfold rotR
  split
  · exact Nat.zero_le _
  · rw [List.length_append, List.length_drop, List.length_take]
    omega
theorem rotR_mem {fs : List Pt} {p : Pt} (h : p ∈ rotR fs) : p ∈ fs := by
  unfold rotR at h
  split at h
  · exact nomatch h
  · rcases List.mem_append.mp h with h | h
    · exact List.mem_of_mem_drop h
    · exact List.mem_of_mem_take h
/-- the strictly least one is found -/
theorem fstN_at {fs : List Pt} {j : Nat} (h1 : ∀ i, i < fs.length → i ≠ j → before (pt fs j) (pt fs i) = true) (h2 : ∀ i, i < fs.length → i ≠ j → before (pt fs i) (pt fs j) = false) : ∀ n, n < fs.length → j ≤ n → fstN fs n = j
  | 0, _, hj => by
    show 0 = j
    omega
  | n + 1, hn, hj => by
    have hle := fstN_le (fs := fs) n
    show (if before (pt fs (n + 1)) (pt fs (fstN fs n)) = true then n + 1 else fstN fs n) = j
    by_cases e : j = n + 1
    · rw [← e, h1 _ (by omega) (by omega), if_pos rfl]
    · rw [fstN_at h1 h2 n (by omega) (by omega), h2 _ hn (by omega), if_neg (by decide)]
theorem before_leX {p q : Pt} (h : leX p q) (hn : q ≠ p) : before p q = true ∧ before q p = false := by
  obtain ⟨p1, p2⟩ := p
  obtain ⟨q1, q2⟩ := q
  unfold leX at h
  dsimp only at h
  unfold before
  dsimp only
  rcases h with h | ⟨rfl, h⟩
  · rw [if_neg (by grind), if_neg (by grind)]
    exact ⟨decide_eq_true h, decide_eq_false (by grind)⟩
  · have hne : p2 ≠ q2 := fun e => hn (by rw [e])
    rw [if_pos rfl, if_pos rfl]
    exact ⟨decide_eq_true (by grind), decide_eq_false (by grind)⟩
theorem rotR_split {X Y : List Pt} {a : Pt} (h3 : 3 ≤ (a :: (Y ++ X)).length) (hl : ∀ y ∈ a :: (Y ++ X), leX a y) (ho : ∀ y ∈ Y ++ X, y ≠ a) : rotR (X ++ a :: Y) = a :: (Y ++ X) := by
  have hlen : (X ++ a :: Y).length = (a :: (Y ++ X)).length := by simp only [List.length_append, List.length_cons]; omega
  have pj : pt (X ++ a :: Y) X.length = a := by
    unfold pt
    rw [List.getD_eq_getElem?_getD, List.getElem?_append_right (Nat.le_refl _), Nat.sub_self]
    rfl
  have pi : ∀ i, i < (X ++ a :: Y).length → i ≠ X.length → pt (X ++ a :: Y) i ∈ Y ++ X := fun i hi hne => by
    unfold pt
    rw [List.getD_eq_getElem?_getD]
    by_cases k : i < X.length
    · rw [List.getElem?_append_left k, List.getElem?_eq_getElem k]
      exact List.mem_append_right _ (List.getElem_mem k)
    · rw [List.getElem?_append_right (by omega)]
      obtain ⟨m, hm⟩ : ∃ m, i - X.length = m + 1 := ⟨i - X.length - 1, by omega⟩
      have : m < Y.length := by simp only [List.length_append, List.length_cons] at hi; omega
      rw [hm, List.getElem?_cons_succ, List.getElem?_eq_getElem this]
      exact List.mem_append_left _ (List.getElem_mem this)
  have hf : fstN (X ++ a :: Y) ((X ++ a :: Y).length - 1) = X.length := fstN_at (fun i hi hne => by
      rw [pj]
      exact (before_leX (hl _ (List.mem_cons_of_mem _ (pi i hi hne))) (ho _ (pi i hi hne))).1) (fun i hi hne => by
      rw [pj]
      exact (before_leX (hl _ (List.mem_cons_of_mem _ (pi i hi hne))) (ho _ (pi i hi hne))).2) _ (by omega) (by simp only [List.length_append, List.length_cons]; omega)
  unfold rotR
  rw [if_neg (by omega), hf, List.drop_left, List.take_left]
  rfl

/-! ### the same for `unl` of Q_k72 -/
theorem fnd_pt : ∀ (L : List Pt) (d : Pt), L ≠ [] → endO d L = pt L (L.length - 1)
  | [x], _, _ => rfl
  | x :: y :: r, _, _ => by
    show endO x (y :: r) = pt (y :: r) ((y :: r).length - 1)
    exact fnd_pt (y :: r) x (by simp)
theorem unl_unlL (C : List Pt) (h1 : C.length ≠ 1) (d : Pt) : unl C = unlL (endO d C) C := by
  cases hC : C with
  | nil => rfl
  | cons o r =>
    rw [unlL_idx]
    unfold unl
    congr 1
    refine List.filter_congr fun k _ => ?_
    rw [hC] at h1
    rw [decide_eq_false h1, Bool.or_false]
    congr 1
    have e : (if k = 0 then endO d (o :: r) else pt (o :: r) (k - 1)) = pt (o :: r) (prev (o :: r).length k) := by
      unfold prev
      by_cases k0 : k = 0
      · rw [if_pos k0, if_pos k0, fnd_pt _ _ (by simp)]
      · rw [if_neg k0, if_neg k0]
    rw [e]
    refine decide_eq_decide.mpr ⟨fun h => Prod.ext h.1 h.2, fun h => by rw [h]; exact ⟨rfl, rfl⟩⟩

/-! ### the program's places that turn, by numbers, are those of the ring -/
def hdP (z : Pt) : List Pt → Pt
  | [] => z
  | a :: _ => a
def fndP (u z : Pt) : List Pt → List Pt
  | [] => []
  | x :: r => (if turnR u x (hdP z r) = 0 then [] else [x]) ++ fndP x z r
theorem fndA_P : ∀ (M : List PL) (u z : Pt), (fndA u z M).map Prod.fst = fndP u z (M.map Prod.fst)
  | [], _, _ => rfl
  | a :: r, u, z => by
    have e : hdP z (r.map Prod.fst) = hd2 z r := by cases r <;> rfl
    show ((if turnR u a.1 (hd2 z r) = 0 then [] else [a]) ++ fndA a.1 z r).map Prod.fst = (if turnR u a.1 (hdP z (r.map Prod.fst)) = 0 then [] else [a.1]) ++ fndP a.1 z (r.map Prod.fst)
    rw [e, List.map_append, fndA_P r a.1 z]
    by_cases h : turnR u a.1 (hd2 z r) = 0
    · rw [if_pos h, if_pos h]
      rfl
    · rw [if_neg h, if_neg h]
      rfl
theorem fndP_idx : ∀ (L : List Pt) (u z : Pt), fndP u z L = (List.range L.length).flatMap fun k => if turnR (if k = 0 then u else pt L (k - 1)) (pt L k) (if k + 1 < L.length then pt L (k + 1) else z) = 0 then [] else [pt L k]
  | [], _, _ => rfl
  | x :: r, u, z => by
    rw [List.length_cons, List.range_succ_eq_map, List.flatMap_cons, List.flatMap_map]
    show (if turnR u x (hdP z r) = 0 then [] else [x]) ++ fndP x z r = _
    rw [fndP_idx r x z]
    congr 1
    · have e : (if 0 + 1 < r.length + 1 then pt (x :: r) (0 + 1) else z) = hdP z r := by
        cases r with
        | nil => rfl
        | cons y r => rw [if_pos (by simp)]; rfl
      rw [e]
      rfl
    · refine congrArg (fun f => List.flatMap f (List.range r.length)) (funext fun k => ?_)
      have e1 : (if k.succ = 0 then u else pt (x :: r) (k.succ - 1)) = (if k = 0 then x else pt r (k - 1)) := by
        cases k <;> rfl
      have e2 : (if k.succ + 1 < r.length + 1 then pt (x :: r) (k.succ + 1) else z) = (if k + 1 < r.length then pt r (k + 1) else z) := by
        by_cases q : k + 1 < r.length
        · rw [if_pos q, if_pos (by omega)]
          rfl
        · rw [if_neg q, if_neg (by omega)]
      rw [e1, e2]
      rfl
theorem fndN_range (us : List Pt) : ∀ n, fndN us n = (List.range n).flatMap fun k => if turnR (pt us (prev us.length k)) (pt us k) (pt us ((k + 1) % us.length)) = 0 then [] else [pt us k]
  | 0 => rfl
  | n + 1 => by
    show fndN us n ++ _ = _
    rw [List.range_succ, List.flatMap_append, fndN_range us n]
    simp
theorem flat_ext {α β : Type} {f g : α → List β} : ∀ L : List α, (∀ x ∈ L, f x = g x) → L.flatMap f = L.flatMap g
  | [], _ => rfl
  | x :: r, h => by
    rw [List.flatMap_cons, List.flatMap_cons, h x List.mem_cons_self, flat_ext r fun y hy => h y (List.mem_cons_of_mem _ hy)]
theorem fndN_P (o : Pt) (r : List Pt) : fndN (o :: r) (o :: r).length = fndP (endO o r) o (o :: r) := by
  rw [fndN_range, fndP_idx]
  refine flat_ext _ fun k hk => ?_
  have hk : k < (o :: r).length := List.mem_range.mp hk
  have e1 : (if k = 0 then endO o r else pt (o :: r) (k - 1)) = pt (o :: r) (prev (o :: r).length k) := by
    unfold prev
    by_cases k0 : k = 0
    · rw [if_pos k0, if_pos k0]
      exact fnd_pt (o :: r) o (by simp)
    · rw [if_neg k0, if_neg k0]
  have e2 : (if k + 1 < (o :: r).length then pt (o :: r) (k + 1) else o) = pt (o :: r) ((k + 1) % (o :: r).length) := by
    by_cases q : k + 1 < (o :: r).length
    · rw [if_pos q, Nat.mod_eq_of_lt q]
    · rw [if_neg q, show k + 1 = (o :: r).length by omega, Nat.mod_self]
      rfl
  rw [e1, e2]
theorem lastP_endO : ∀ (M : List PL) (u : Pt), lastP u M = endO u (M.map Prod.fst)
  | [], _ => rfl
  | a :: r, _ => lastP_endO r a.1
theorem endP_endO : ∀ (r : List Pt) (o : Pt), endP (o :: r) = endO o r := fun r o => by
  have h : ∀ (r : List Pt) (o : Pt), lastO (some o) r = some (endO o r) := fun r => by
    induction r with
    | nil => intro o; rfl
    | cons a r ih => intro o; exact ih a
  show (lastO (some o) r).getD o = _
  rw [h]
  rfl
theorem unl_unlR {C : List Pt} (h1 : C.length ≠ 1) : unl C = unlR C := by
  cases hC : C with
  | nil => rfl
  | cons o r =>
    rw [hC] at h1
    rw [unl_unlL _ h1 o]
    unfold unlR
    rw [endP_endO]
    rfl
/-- the program's list, of the ring's -/
theorem fnd_fndA {C : List Pt} (h1 : C.length ≠ 1) {b : PL} {M : List PL} (e : (b :: M).map Prod.fst = unlR C) : fnd C = (fndA (lastP b.1 M) b.1 (b :: M)).map Prod.fst := by
  unfold fnd
  rw [unl_unlR h1, ← e, fndA_P, lastP_endO]
  exact fndN_P b.1 (M.map Prod.fst)
theorem two_len {C : List Pt} (h : Two C) : C.length ≠ 1 := fun e => by
  obtain ⟨p, hp, q, hq, hn⟩ := h
  match C, e with
  | [x], _ => exact hn (by rw [List.mem_singleton.mp hp, List.mem_singleton.mp hq])

/-! ### how often a ring goes over any line: no more after a cut -/
def upF (f : Ln) (p q : Pt) : Nat := if ev f p < 0 ∧ 0 ≤ ev f q then 1 else 0
def chF (f : Ln) : Pt → List Pt → Nat
  | _, [] => 0
  | u, o :: r => upF f u o + chF f o r
def ringF (f : Ln) : List Pt → Nat
  | [] => 0
  | o :: r => chF f (endO o r) (o :: r)
theorem upF_tri (f : Ln) (p q r : Pt) : upF f p r ≤ upF f p q + upF f q r := by
  unfold upF
  by_cases h1 : ev f p < 0 ∧ 0 ≤ ev f r
  · rw [if_pos h1]
    by_cases h2 : ev f q < 0
    · have e : (if ev f q < 0 ∧ 0 ≤ ev f r then 1 else 0) = 1 := if_pos ⟨h2, h1.2⟩
      rw [e]
      omega
    · have e : (if ev f p < 0 ∧ 0 ≤ ev f q then 1 else 0) = 1 := if_pos ⟨h1.1, by grind⟩
      rw [e]
      omega
  · rw [if_neg h1]
    omega
theorem upF_self (f : Ln) (p : Pt) : upF f p p = 0 := by
  unfold upF
  rw [if_neg]
  intro z
  grind
theorem upF_amid (f : Ln) {p q x : Pt} (h : (ev f p ≤ ev f x ∧ ev f x ≤ ev f q) ∨ (ev f q ≤ ev f x ∧ ev f x ≤ ev f p)) : upF f p x + upF f x q ≤ upF f p q := by
  unfold upF
  by_cases h1 : ev f p < 0 ∧ 0 ≤ ev f x
  · have h2 : ¬(ev f x < 0 ∧ 0 ≤ ev f q) := fun z => by grind
    have h3 : ev f p < 0 ∧ 0 ≤ ev f q := by
      refine ⟨h1.1, ?_⟩
      rcases h with h | h <;> grind
    rw [if_pos h1, if_neg h2, if_pos h3]
    omega
  · by_cases h2 : ev f x < 0 ∧ 0 ≤ ev f q
    · have h3 : ev f p < 0 ∧ 0 ≤ ev f q := by
        refine ⟨?_, h2.2⟩
        rcases h with h | h <;> grind
      rw [if_neg h1, if_pos h2, if_pos h3]
      omega
    · rw [if_neg h1, if_neg h2]
      omega
theorem chF_app (f : Ln) : ∀ (X Y : List Pt) (u : Pt), chF f u (X ++ Y) = chF f u X + chF f (endO u X) Y
  | [], Y, u => by
    show chF f u Y = 0 + chF f u Y
    omega
  | o :: r, Y, u => by
    show upF f u o + chF f o (r ++ Y) = upF f u o + chF f o r + chF f (endO o r) Y
    rw [chF_app f r Y o]
    omega
theorem ev_btw {f : Ln} {p q : Pt} {u v s : Rat} (e : u / (u - v) = s) : ev f (btw p q u v) = ev f p + s * (ev f q - ev f p) := by
  unfold btw
  rw [e]
  unfold ev
  grind
theorem btwF_amid {f : Ln} {p q : Pt} {u v : Rat} (hc : u * v < 0) : (ev f p ≤ ev f (btw p q u v) ∧ ev f (btw p q u v) ≤ ev f q) ∨ (ev f q ≤ ev f (btw p q u v) ∧ ev f (btw p q u v) ≤ ev f p) := by
  obtain ⟨s, s0, s1, e, _⟩ := share_in hc
  rw [ev_btw e]
  generalize ev f p = x
  generalize ev f q = y
  rcases Rat.le_total (a := x) (b := y) with h | h
  · left
    have m1 := Rat.mul_nonneg s0 (show 0 ≤ y - x by grind)
    have m2 := Rat.mul_nonneg (show 0 ≤ 1 - s by grind) (show 0 ≤ y - x by grind)
    exact ⟨by grind, by grind⟩
  · right
    have m1 := Rat.mul_nonneg s0 (show 0 ≤ x - y by grind)
    have m2 := Rat.mul_nonneg (show 0 ≤ 1 - s by grind) (show 0 ≤ x - y by grind)
    exact ⟨by grind, by grind⟩
def pathF (f : Ln) : List (Pt × Pt) → Nat
  | [] => 0
  | e :: r => upF f e.1 e.2 + pathF f r
theorem side_F (f : Ln) (h : Pt → Rat) (u : Pt) (e : Pt × Pt) : chF f u (keepE h e) + upF f (endO u (keepE h e)) e.2 ≤ upF f u e.1 + upF f e.1 e.2 := by
  unfold keepE
  by_cases h1 : h e.1 < 0
  · rw [if_pos h1, List.nil_append]
    by_cases h2 : h e.1 * h e.2 < 0
    · rw [if_pos h2]
      have a := upF_tri f u e.1 (btw e.1 e.2 (h e.1) (h e.2))
      have b := upF_amid f (btwF_amid (p := e.1) (q := e.2) h2)
      generalize btw e.1 e.2 (h e.1) (h e.2) = X at a b ⊢
      show upF f u X + 0 + upF f X e.2 ≤ upF f u e.1 + upF f e.1 e.2
      omega
    · rw [if_neg h2]
      show 0 + upF f u e.2 ≤ _
      have := upF_tri f u e.1 e.2
      omega
  · rw [if_neg h1]
    by_cases h2 : h e.1 * h e.2 < 0
    · rw [if_pos h2]
      have b := upF_amid f (btwF_amid (p := e.1) (q := e.2) h2)
      generalize btw e.1 e.2 (h e.1) (h e.2) = X at b ⊢
      show upF f u e.1 + (upF f e.1 X + 0) + upF f X e.2 ≤ upF f u e.1 + upF f e.1 e.2
      omega
    · rw [if_neg h2]
      show upF f u e.1 + 0 + upF f e.1 e.2 ≤ _
      omega
theorem path_F (f : Ln) (h : Pt → Rat) : ∀ (es : List (Pt × Pt)) (p z u : Pt), pathOK p es z → chF f u (es.flatMap (keepE h)) + upF f (endO u (es.flatMap (keepE h))) z ≤ upF f u p + pathF f es
  | [], p, z, u, hp => by
    have hp : p = z := hp
    subst hp
    show 0 + upF f u p ≤ upF f u p + 0
    omega
  | e :: es, p, z, u, hp => by
    obtain ⟨rfl, hp⟩ := hp
    have a := side_F f h u e
    have b := path_F f h es e.2 z (endO u (keepE h e)) hp
    rw [List.flatMap_cons, chF_app, endO_app]
    show _ ≤ upF f u e.1 + (upF f e.1 e.2 + pathF f es)
    omega
theorem sides_F (f : Ln) : ∀ (r : List Pt) (o z : Pt), pathF f (sides z (o :: r)) = chF f o r + upF f (endO o r) z
  | [], o, z => by
    show upF f o z + 0 = 0 + upF f o z
    omega
  | a :: r, o, z => by
    show upF f o a + pathF f (sides z (a :: r)) = upF f o a + chF f a r + upF f (endO a r) z
    rw [sides_F f r a z]
    omega
theorem cut_F (f : Ln) (h : Ln) (C : List Pt) : ringF f (cut h C) ≤ ringF f C := by
  cases hO : cut h C with
  | nil => exact Nat.zero_le _
  | cons o O =>
    cases hC : C with
    | nil =>
      rw [hC] at hO
      cases hO
    | cons p r =>
      have hp : pathOK p (ringS C) p := by rw [hC]; exact sides_path r p p
      have k := path_F f (ev h) (ringS C) p p (endO o O) hp
      have e1 : (ringS C).flatMap (keepE (ev h)) = o :: O := hO
      rw [e1] at k
      have e2 : endO (endO o O) (o :: O) = endO o O := rfl
      rw [e2] at k
      have e3 : pathF f (ringS C) = chF f p r + upF f (endO p r) p := by
        rw [hC]
        exact sides_F f r p p
      show chF f (endO o O) (o :: O) ≤ upF f (endO p r) p + chF f p r
      omega
theorem unl_F (f : Ln) : ∀ (C : List Pt) (u : Pt), chF f u (unlL u C) = chF f u C ∧ endO u (unlL u C) = endO u C
  | [], u => ⟨rfl, rfl⟩
  | x :: r, u => by
    unfold unlL
    by_cases e : x = u
    · rw [if_pos e]
      obtain ⟨a, b⟩ := unl_F f r x
      rw [← e]
      refine ⟨?_, b⟩
      show chF f x (unlL x r) = upF f x x + chF f x r
      rw [a, upF_self]
      omega
    · rw [if_neg e]
      obtain ⟨a, b⟩ := unl_F f r x
      refine ⟨?_, b⟩
      show upF f u x + chF f x (unlL x r) = upF f u x + chF f x r
      rw [a]
theorem sub_F (f : Ln) {X Y : List Pt} (h : Sub X Y) : ∀ (u p : Pt) (z : Pt), chF f u X + upF f (endO u X) z ≤ upF f u p + (chF f p Y + upF f (endO p Y) z) := by
  induction h with
  | nil => intro u p z; show 0 + upF f u z ≤ upF f u p + (0 + upF f p z); have := upF_tri f u p z; omega
  | @skip x X Y _ ih =>
    intro u p z
    have := ih u x z
    have t := upF_tri f u p x
    show _ ≤ upF f u p + (upF f p x + chF f x Y + upF f (endO x Y) z)
    omega
  | @keep x X Y _ ih =>
    intro u p z
    have := ih x x z
    rw [upF_self] at this
    have t := upF_tri f u p x
    show upF f u x + chF f x X + upF f (endO x X) z ≤ upF f u p + (upF f p x + chF f x Y + upF f (endO x Y) z)
    omega
theorem ringF_path (f : Ln) (C : List Pt) : ringF f C = pathF f (ringS C) := by
  cases C with
  | nil => rfl
  | cons o r =>
    show upF f (endO o r) o + chF f o r = pathF f (sides o (o :: r))
    rw [sides_F]
    omega
theorem ringF_app (f : Ln) (o p : Pt) (X Y : List Pt) : ringF f ((o :: X) ++ (p :: Y)) = chF f (endO p Y) (o :: X) + chF f (endO o X) (p :: Y) := by
  show chF f (endO o (X ++ p :: Y)) ((o :: X) ++ (p :: Y)) = _
  rw [chF_app, endO_app]
  rfl
theorem ringF_turn (f : Ln) (X Y : List Pt) : ringF f (X ++ Y) = ringF f (Y ++ X) := by
  cases X with
  | nil => rw [List.append_nil, List.nil_append]
  | cons o X =>
    cases Y with
    | nil => rw [List.append_nil, List.nil_append]
    | cons p Y =>
      rw [ringF_app, ringF_app]
      omega
theorem ring_endF (f : Ln) (X : List Pt) (v : Pt) : ringF f (X ++ [v]) = chF f v X + upF f (endO v X) v := by
  have : ringF f (X ++ [v]) = ringF f (v :: X) := ringF_turn f X [v]
  rw [this]
  show upF f (endO v X) v + chF f v X = _
  omega
theorem sub_ringF (f : Ln) {X Y : List Pt} (h : Sub X Y) : ringF f X ≤ ringF f Y := by
  rcases List.eq_nil_or_concat X with e | ⟨X1, v, e⟩
  · rw [e]
    exact Nat.zero_le _
  · have e : X = X1 ++ [v] := by rw [e]; simp
    obtain ⟨Y1, Y2, e2, s⟩ := sub_end h X1 v e
    have k : ringF f Y = ringF f ((Y2 ++ Y1) ++ [v]) := by
      rw [e2, show Y1 ++ v :: Y2 = (Y1 ++ [v]) ++ Y2 by simp, ringF_turn, List.append_assoc]
    rw [k, e, ring_endF, ring_endF]
    have := sub_F f (sub_skip s Y2) v v v
    rw [upF_self] at this
    omega
theorem unl_ringF (f : Ln) (C : List Pt) : ∀ u, (∀ o r, C = o :: r → u = endO o r) → ringF f (unlL u C) ≤ ringF f C := by
  intro u hu
  cases hC : C with
  | nil => exact Nat.zero_le _
  | cons o r =>
    have e := hu o r hC
    obtain ⟨a, b⟩ := unl_F f (o :: r) u
    cases hO : unlL u (o :: r) with
    | nil => exact Nat.zero_le _
    | cons p X =>
      rw [hO] at a b
      have b : endO p X = endO o r := b
      show chF f (endO p X) (p :: X) ≤ chF f (endO o r) (o :: r)
      rw [b, ← e, a]
      omega
theorem upF_N (c : Rat) (p q : Pt) : upF ⟨(c, 0), (0, -1)⟩ p q = upN c p q := by
  have e : ∀ p : Pt, ev ⟨(c, 0), (0, -1)⟩ p = p.1 - c := fun p => by
    unfold ev
    grind
  unfold upF upN
  rw [e, e]
  have a : (p.1 - c < 0 ∧ 0 ≤ q.1 - c) ↔ (p.1 < c ∧ c ≤ q.1) := ⟨fun h => ⟨by grind, by grind⟩, fun h => ⟨by grind, by grind⟩⟩
  by_cases k : p.1 < c ∧ c ≤ q.1
  · rw [if_pos k, if_pos (a.mpr k)]
  · rw [if_neg k, if_neg (fun z => k (a.mp z))]
theorem chF_N (c : Rat) : ∀ (X : List Pt) (u : Pt), chF ⟨(c, 0), (0, -1)⟩ u X = chN c u X
  | [], _ => rfl
  | o :: r, u => by
    show upF _ u o + chF _ o r = upN c u o + chN c o r
    rw [upF_N, chF_N c r o]
theorem ringF_N (c : Rat) (C : List Pt) : ringF ⟨(c, 0), (0, -1)⟩ C = ringN c C := by
  cases C with
  | nil => rfl
  | cons o r => exact chF_N c (o :: r) (endO o r)
/-- goes over any line once at most -/
def Onc (C : List Pt) : Prop := ∀ f : Ln, ringF f C ≤ 1
theorem Onc.n {C : List Pt} (h : Onc C) (c : Rat) : ringN c C ≤ 1 := by
  rw [← ringF_N]
  exact h _
theorem Onc.cut {C : List Pt} (h : Onc C) (l : Ln) : Onc (Gn.cut l C) := fun f => Nat.le_trans (cut_F f l C) (h f)
theorem Onc.cuts {C : List Pt} (h : Onc C) : ∀ (hs : List Ln), Onc (Gn.cuts hs C) := fun hs => by
  induction hs generalizing C with
  | nil => exact h
  | cons l hs ih => exact ih (h.cut l)
theorem Onc.sub {X Y : List Pt} (h : Onc Y) (s : Sub X Y) : Onc X := fun f => Nat.le_trans (sub_ringF f s) (h f)
theorem Onc.turn {X Y : List Pt} (h : Onc (X ++ Y)) : Onc (Y ++ X) := fun f => by
  rw [← ringF_turn]
  exact h f
theorem Onc.unlR {C : List Pt} (h : Onc C) : Onc (unlR C) := fun f => by
  refine Nat.le_trans ?_ (h f)
  exact unl_ringF f C _ fun o r e => by rw [e, endP_endO]
/-! #### how many corners a cut leaves -/
def negL (l : Ln) : Ln := ⟨l.a, (-l.d.1, -l.d.2)⟩
theorem ev_neg (l : Ln) (p : Pt) : ev (negL l) p = -ev l p := by
  unfold ev negL
  grind
theorem keepE_len (l : Ln) (e : Pt × Pt) : (keepE (ev l) e).length ≤ 1 + upF l e.1 e.2 + upF (negL l) e.1 e.2 := by
  unfold keepE
  by_cases h2 : ev l e.1 * ev l e.2 < 0
  · rw [if_pos h2]
    have k : 1 ≤ upF l e.1 e.2 + upF (negL l) e.1 e.2 := by
      unfold upF
      rw [ev_neg, ev_neg]
      by_cases a : ev l e.1 < 0
      · have : 0 ≤ ev l e.2 := by
          refine Classical.byContradiction fun z => ?_
          have := Rat.mul_nonneg (show 0 ≤ -ev l e.1 by grind) (show 0 ≤ -ev l e.2 by grind)
          grind
        rw [if_pos ⟨a, this⟩]
        omega
      · have b : ev l e.1 ≠ 0 := fun z => by
          rw [z] at h2
          grind
        have : ¬ 0 ≤ ev l e.2 := fun z => by
          have := Rat.mul_nonneg (show 0 ≤ ev l e.1 by grind) z
          grind
        rw [if_pos (show -ev l e.1 < 0 ∧ 0 ≤ -ev l e.2 from ⟨by grind, by grind⟩)]
        omega
    have : (if ev l e.1 < 0 then ([] : List Pt) else [e.1]).length ≤ 1 := by split <;> simp
    rw [List.length_append, List.length_singleton]
    omega
  · rw [if_neg h2, List.append_nil]
    have : (if ev l e.1 < 0 then ([] : List Pt) else [e.1]).length ≤ 1 := by split <;> simp
    omega
theorem flat_len (l : Ln) : ∀ es : List (Pt × Pt), (es.flatMap (keepE (ev l))).length ≤ es.length + pathF l es + pathF (negL l) es
  | [] => Nat.le_refl _
  | e :: es => by
    have a := flat_len l es
    have b := keepE_len l e
    rw [List.flatMap_cons, List.length_append, List.length_cons]
    show _ ≤ es.length + 1 + (upF l e.1 e.2 + pathF l es) + (upF (negL l) e.1 e.2 + pathF (negL l) es)
    omega
theorem ringS_len (C : List Pt) : (ringS C).length = C.length := by
  rw [ringS_idx, List.length_map, List.length_range]
theorem cut_len {C : List Pt} (h : Onc C) (l : Ln) : (Gn.cut l C).length ≤ C.length + 2 := by
  have a := flat_len l (ringS C)
  have b := h l
  have c := h (negL l)
  rw [ringF_path] at b c
  rw [ringS_len] at a
  show ((ringS C).flatMap (keepE (ev l))).length ≤ _
  omega
theorem cuts_len {C : List Pt} : ∀ (hs : List Ln), Onc C → (Gn.cuts hs C).length ≤ C.length + 2 * hs.length := fun hs => by
  induction hs generalizing C with
  | nil => intro _; exact Nat.le_refl _
  | cons l hs ih =>
    intro h
    have a := ih (h.cut l)
    have b := cut_len h l
    show (Gn.cuts hs (Gn.cut l C)).length ≤ C.length + 2 * (hs.length + 1)
    omega

/-! ### the share: no more after a cut, nor where places are left out -/
def areaE : List (Pt × Pt) → Rat
  | [] => 0
  | e :: r => cr e.1 e.2 + areaE r
def areaC : Pt → List Pt → Rat
  | _, [] => 0
  | u, o :: r => cr u o + areaC o r
def ringA : List Pt → Rat
  | [] => 0
  | o :: r => areaC (endO o r) (o :: r)
theorem areaE_app : ∀ X Y : List (Pt × Pt), areaE (X ++ Y) = areaE X + areaE Y
  | [], Y => by
    show areaE Y = 0 + areaE Y
    grind
  | e :: r, Y => by
    show cr e.1 e.2 + areaE (r ++ Y) = cr e.1 e.2 + areaE r + areaE Y
    rw [areaE_app r Y]
    grind
theorem areaC_app : ∀ (X Y : List Pt) (u : Pt), areaC u (X ++ Y) = areaC u X + areaC (endO u X) Y
  | [], Y, u => by
    show areaC u Y = 0 + areaC u Y
    grind
  | o :: r, Y, u => by
    show cr u o + areaC o (r ++ Y) = cr u o + areaC o r + areaC (endO o r) Y
    rw [areaC_app r Y o]
    grind
theorem sides_A : ∀ (r : List Pt) (o z : Pt), areaE (sides z (o :: r)) = areaC o r + cr (endO o r) z
  | [], o, z => by
    show cr o z + 0 = 0 + cr o z
    grind
  | a :: r, o, z => by
    show cr o a + areaE (sides z (a :: r)) = cr o a + areaC a r + cr (endO a r) z
    rw [sides_A r a z]
    grind
theorem ringA_path (C : List Pt) : ringA C = areaE (ringS C) := by
  cases C with
  | nil => rfl
  | cons o r =>
    show cr (endO o r) o + areaC o r = areaE (sides o (o :: r))
    rw [sides_A]
    grind
theorem areaE_map (g : Nat → Pt × Pt) : ∀ n, areaE ((List.range n).map g) = sumN (fun k => cr (g k).1 (g k).2) n
  | 0 => rfl
  | n + 1 => by
    rw [List.range_succ, List.map_append, areaE_app, areaE_map g n]
    show _ + (cr (g n).1 (g n).2 + 0) = sumN _ n + cr (g n).1 (g n).2
    grind
theorem cyc_ringA (C : List Pt) : cyc C = ringA C := by
  rw [ringA_path, ringS_idx, areaE_map]
  rfl
theorem cr_three (p q u : Pt) : turnR p q u = cr p q + cr q u + cr u p := by
  unfold turnR cr
  grind
theorem cr_self (p : Pt) : cr p p = 0 := by
  unfold cr
  grind
/-- a side with all of `P` to its left -/
def LeftE (P : Pt → Prop) (e : Pt × Pt) : Prop := ∀ u, P u → 0 ≤ turnR e.1 e.2 u
theorem side_A {P : Pt → Prop} {h : Pt → Rat} {u : Pt} {e : Pt × Pt} (he : LeftE P e) (hu : P u) : areaC u (keepE h e) + cr (endO u (keepE h e)) e.2 ≤ cr u e.1 + cr e.1 e.2 := by
  have t := he u hu
  obtain ⟨p, q⟩ := e
  dsimp only at t ⊢
  have t' := t
  rw [cr_three, cr_turn u q] at t
  unfold keepE
  dsimp only
  by_cases h1 : h p < 0
  · rw [if_pos h1, List.nil_append]
    by_cases h2 : h p * h q < 0
    · rw [if_pos h2]
      obtain ⟨s, s0, s1, e, _⟩ := share_in h2
      have m := Rat.mul_nonneg s0 t'
      show cr u (btw p q (h p) (h q)) + 0 + cr (btw p q (h p) (h q)) q ≤ cr u p + cr p q
      unfold btw
      rw [e]
      unfold turnR at m
      unfold cr
      dsimp only
      grind
    · rw [if_neg h2]
      show 0 + cr u q ≤ cr u p + cr p q
      grind
  · rw [if_neg h1]
    by_cases h2 : h p * h q < 0
    · rw [if_pos h2]
      obtain ⟨s, s0, s1, e, _⟩ := share_in h2
      show cr u p + (cr p (btw p q (h p) (h q)) + 0) + cr (btw p q (h p) (h q)) q ≤ cr u p + cr p q
      unfold btw
      rw [e]
      unfold cr
      dsimp only
      grind
    · rw [if_neg h2]
      show cr u p + 0 + cr p q ≤ cr u p + cr p q
      grind
theorem endO_mem : ∀ (X : List Pt) (u : Pt), endO u X = u ∨ endO u X ∈ X
  | [], _ => .inl rfl
  | o :: r, _ => by
    rcases endO_mem r o with h | h
    · exact .inr (by show endO o r ∈ _; rw [h]; exact List.mem_cons_self)
    · exact .inr (List.mem_cons_of_mem _ h)
theorem path_A {P : Pt → Prop} {h : Pt → Rat} : ∀ (es : List (Pt × Pt)) (p z u : Pt), pathOK p es z → (∀ e ∈ es, LeftE P e ∧ ∀ x ∈ keepE h e, P x) → P u → areaC u (es.flatMap (keepE h)) + cr (endO u (es.flatMap (keepE h))) z ≤ cr u p + areaE es
  | [], p, z, u, hp, _, _ => by
    have hp : p = z := hp
    subst hp
    show 0 + cr u p ≤ cr u p + 0
    grind
  | e :: es, p, z, u, hp, he, hu => by
    obtain ⟨rfl, hp⟩ := hp
    obtain ⟨e1, e2⟩ := he e List.mem_cons_self
    have a := side_A (h := h) e1 hu
    have hu' : P (endO u (keepE h e)) := by
      rcases endO_mem (keepE h e) u with k | k
      · rw [k]
        exact hu
      · exact e2 _ k
    have b := path_A (h := h) es e.2 z (endO u (keepE h e)) hp (fun e h => he e (List.mem_cons_of_mem _ h)) hu'
    rw [List.flatMap_cons, areaC_app, endO_app]
    show _ ≤ cr u e.1 + (cr e.1 e.2 + areaE es)
    grind
theorem path_nn {P : Pt → Prop} {c : Pt} (hc : P c) : ∀ (es : List (Pt × Pt)) (p z : Pt), pathOK p es z → (∀ e ∈ es, LeftE P e) → 0 ≤ areaE es + cr z c + cr c p
  | [], p, z, hp, _ => by
    have hp : p = z := hp
    subst hp
    rw [cr_turn c p]
    show 0 ≤ 0 + - cr c p + cr c p
    grind
  | e :: es, p, z, hp, he => by
    obtain ⟨rfl, hp⟩ := hp
    have a := path_nn hc es e.2 z hp fun e h => he e (List.mem_cons_of_mem _ h)
    have b := he e List.mem_cons_self c hc
    rw [cr_three, cr_turn c e.2] at b
    show 0 ≤ cr e.1 e.2 + areaE es + cr z c + cr c e.1
    grind
section
variable {Ls : List Ln} {C : List Pt} {h : Ln}
theorem Ring.leftE (g : Ring Ls C) : ∀ e ∈ ringS C, LeftE (fun u => ∀ l ∈ Ls, 0 ≤ ev l u) e := fun e he u hu => by
  obtain ⟨l, hl, ha⟩ := g.side e he
  obtain ⟨t, ht, e⟩ := ha.turn u
  rw [e]
  exact Rat.mul_nonneg ht (hu l hl)
theorem ringA_nn (g : Ring Ls C) : 0 ≤ ringA C := by
  cases hC : C with
  | nil => exact Rat.le_refl
  | cons o r =>
    have hL := g.leftE
    have hc := g.left o (by rw [hC]; exact List.mem_cons_self)
    rw [hC] at hL
    have := path_nn (P := fun u => ∀ l ∈ Ls, 0 ≤ ev l u) hc (ringS (o :: r)) o o (sides_path r o o) hL
    rw [cr_self] at this
    rw [ringA_path]
    grind
theorem cut_A (g : Ring Ls C) : ringA (cut h C) ≤ ringA C := by
  have nn := ringA_nn g
  have gc := ring_cut (h := h) g
  cases hO : cut h C with
  | nil => exact nn
  | cons o O =>
    cases hC : C with
    | nil =>
      rw [hC] at hO
      cases hO
    | cons p r =>
      have hp : pathOK p (ringS C) p := by rw [hC]; exact sides_path r p p
      have inn : ∀ x ∈ cut h C, ∀ l ∈ Ls, 0 ≤ ev l x := fun x hx l hl => gc.left x hx l (List.mem_cons_of_mem _ hl)
      have hu : ∀ l ∈ Ls, 0 ≤ ev l (endO o O) := by
        refine inn _ ?_
        rw [hO]
        rcases endO_mem O o with k | k
        · rw [k]
          exact List.mem_cons_self
        · exact List.mem_cons_of_mem _ k
      have k := path_A (P := fun u => ∀ l ∈ Ls, 0 ≤ ev l u) (h := ev h) (ringS C) p p (endO o O) hp (fun e he => ⟨g.leftE e he, fun x hx => inn x (List.mem_flatMap.mpr ⟨e, he, hx⟩)⟩) hu
      have e1 : (ringS C).flatMap (keepE (ev h)) = o :: O := hO
      rw [e1] at k
      have e2 : endO (endO o O) (o :: O) = endO o O := rfl
      rw [e2, ← ringA_path, hC] at k
      show areaC (endO o O) (o :: O) ≤ ringA (p :: r)
      grind
end
theorem cuts_A : ∀ (hs Ls : List Ln) (C : List Pt), Ring Ls C → ringA (cuts hs C) ≤ ringA C
  | [], _, _, _ => Rat.le_refl
  | h :: hs, Ls, C, g => by
    have a := cuts_A hs (h :: Ls) (cut h C) (ring_cut g)
    have b := cut_A (h := h) g
    show ringA (cuts hs (cut h C)) ≤ _
    grind
/-! #### a ring begun elsewhere -/
theorem sides_app : ∀ (X : List Pt) (x p z : Pt) (Y : List Pt), sides z (x :: X ++ p :: Y) = sides p (x :: X) ++ sides z (p :: Y)
  | [], x, p, z, Y => rfl
  | a :: X, x, p, z, Y => by
    show (x, a) :: sides z (a :: X ++ p :: Y) = (x, a) :: (sides p (a :: X) ++ sides z (p :: Y))
    rw [sides_app X a p z Y]
theorem ringS_turn {X Y : List Pt} {e : Pt × Pt} (h : e ∈ ringS (X ++ Y)) : e ∈ ringS (Y ++ X) := by
  cases X with
  | nil => rw [List.append_nil]; exact h
  | cons o X =>
    cases Y with
    | nil => rw [List.append_nil] at h; exact h
    | cons p Y =>
      have h : e ∈ sides o (o :: X ++ p :: Y) := h
      show e ∈ sides p (p :: Y ++ o :: X)
      rw [sides_app] at h ⊢
      rcases List.mem_append.mp h with h | h
      · exact List.mem_append_right _ h
      · exact List.mem_append_left _ h
theorem ringA_turn (X Y : List Pt) : ringA (X ++ Y) = ringA (Y ++ X) := by
  cases X with
  | nil => rw [List.append_nil, List.nil_append]
  | cons o X =>
    cases Y with
    | nil => rw [List.append_nil, List.nil_append]
    | cons p Y =>
      rw [ringA_path, ringA_path]
      show areaE (sides o (o :: X ++ p :: Y)) = areaE (sides p (p :: Y ++ o :: X))
      rw [sides_app, sides_app, areaE_app, areaE_app]
      grind
/-! #### places left out -/
theorem sub_A {P : Pt → Prop} {X Y : List Pt} (h : Sub X Y) : ∀ (u p z : Pt), P u → (∀ x ∈ X, P x) → (∀ e ∈ sides z (p :: Y), LeftE P e) → areaC u X + cr (endO u X) z ≤ cr u p + (areaC p Y + cr (endO p Y) z) := by
  induction h with
  | nil =>
    intro u p z hu _ he
    have t := he (p, z) List.mem_cons_self u hu
    rw [cr_three, cr_turn u z] at t
    show 0 + cr u z ≤ cr u p + (0 + cr p z)
    grind
  | @skip x X Y _ ih =>
    intro u p z hu hX he
    have t := he (p, x) List.mem_cons_self u hu
    rw [cr_three, cr_turn u x] at t
    have := ih u x z hu hX fun e h => he e (List.mem_cons_of_mem _ h)
    show _ ≤ cr u p + (cr p x + areaC x Y + cr (endO x Y) z)
    grind
  | @keep x X Y _ ih =>
    intro u p z hu hX he
    have t := he (p, x) List.mem_cons_self u hu
    rw [cr_three, cr_turn u x] at t
    have := ih x x z (hX x List.mem_cons_self) (fun y hy => hX y (List.mem_cons_of_mem _ hy)) fun e h => he e (List.mem_cons_of_mem _ h)
    rw [cr_self] at this
    show cr u x + areaC x X + cr (endO x X) z ≤ cr u p + (cr p x + areaC x Y + cr (endO x Y) z)
    grind
theorem ring_endA (X : List Pt) (v : Pt) : ringA (X ++ [v]) = areaC v X + cr (endO v X) v := by
  have : ringA (X ++ [v]) = ringA (v :: X) := ringA_turn X [v]
  rw [this]
  show cr (endO v X) v + areaC v X = _
  grind
theorem sub_ringA {P : Pt → Prop} {X Y : List Pt} (h : Sub X Y) (hX : ∀ x ∈ X, P x) (he : ∀ e ∈ ringS Y, LeftE P e) (h0 : 0 ≤ ringA Y) : ringA X ≤ ringA Y := by
  rcases List.eq_nil_or_concat X with e | ⟨X1, v, e⟩
  · rw [e]
    exact h0
  · have e : X = X1 ++ [v] := by rw [e]; simp
    obtain ⟨Y1, Y2, e2, s⟩ := sub_end h X1 v e
    have eY : Y = (Y1 ++ [v]) ++ Y2 := by rw [e2]; simp
    have k : ringA Y = ringA ((Y2 ++ Y1) ++ [v]) := by
      rw [eY, ringA_turn, List.append_assoc]
    have hS : ∀ e ∈ sides v (v :: (Y2 ++ Y1)), LeftE P e := fun e h => he e (by
      have h : e ∈ ringS ([v] ++ (Y2 ++ Y1)) := h
      have h := ringS_turn h
      rw [List.append_assoc] at h
      rw [eY]
      exact ringS_turn h)
    rw [k, e, ring_endA, ring_endA]
    have := sub_A (P := P) (sub_skip s Y2) v v v (hX v (by rw [e]; exact List.mem_append_right _ List.mem_cons_self)) (fun x hx => hX x (by rw [e]; exact List.mem_append_left _ hx)) hS
    rw [cr_self] at this
    grind
theorem Sub.trans {X Y Z : List Pt} (h : Sub X Y) (k : Sub Y Z) : Sub X Z := by
  induction k generalizing X with
  | nil => exact h
  | skip _ ih => exact .skip (ih h)
  | @keep x Y Z _ ih =>
    cases h with
    | skip h => exact .skip (ih h)
    | keep h => exact .keep (ih h)
theorem unlL_sub : ∀ (C : List Pt) (u : Pt), Sub (unlL u C) C
  | [], _ => .nil
  | x :: r, u => by
    unfold unlL
    split
    · exact .skip (unlL_sub r x)
    · exact .keep (unlL_sub r x)
/-- of a ring made tidy -/
theorem fnd_A {Ls : List Ln} {C : List Pt} (g : Ring Ls C) {b : PL} {M : List PL} (e : (b :: M).map Prod.fst = unlR C) (u z : Pt) : ringA ((fndA u z (b :: M)).map Prod.fst) ≤ ringA C := by
  have s : Sub ((fndA u z (b :: M)).map Prod.fst) C := (fnd_sub (b :: M) u z).trans (by rw [e]; exact unlL_sub _ _)
  have hm : ∀ {X Y : List Pt}, Sub X Y → ∀ x ∈ X, x ∈ Y := fun h => by
    induction h with
    | nil => exact fun _ h => h
    | skip _ ih => exact fun x hx => List.mem_cons_of_mem _ (ih x hx)
    | keep _ ih =>
      intro x hx
      rcases List.mem_cons.mp hx with rfl | hx
      · exact List.mem_cons_self
      · exact List.mem_cons_of_mem _ (ih x hx)
  exact sub_ringA (P := fun u => ∀ l ∈ Ls, 0 ≤ ev l u) s (fun x hx => g.left x (hm s x hx)) g.leftE (ringA_nn g)

/-! ### bulging parts, and what is told of two -/
def linesOf (C : List Pt) : List Ln := (ringS C).map fun e => lnOf e.1 e.2
structure Blg (C : List Pt) : Prop where
  left : ∀ e ∈ ringS C, ∀ c ∈ C, 0 ≤ turnR e.1 e.2 c
  meet : ∀ c ∈ C, Meet (linesOf C) c
  onc : Onc C
  ne : ∀ e ∈ ringS C, e.1 ≠ e.2
  nn : C ≠ []
theorem mem_lines {C : List Pt} {l : Ln} (h : l ∈ linesOf C) : ∃ e ∈ ringS C, l = lnOf e.1 e.2 := by
  obtain ⟨e, he, rfl⟩ := List.mem_map.mp h
  exact ⟨e, he, rfl⟩
theorem Blg.ring {C : List Pt} (h : Blg C) : Ring (linesOf C) C := by
  refine ⟨fun c hc l hl => ?_, fun e he => ⟨_, List.mem_map.mpr ⟨e, he, rfl⟩, ?_⟩, h.meet⟩
  · obtain ⟨e, he, rfl⟩ := mem_lines hl
    rw [← turn_ev]
    exact h.left e he c hc
  · refine ⟨?_, 1, by decide, ?_, ?_⟩
    · unfold ev lnOf
      grind
    · unfold lnOf
      dsimp only
      grind
    · unfold lnOf
      dsimp only
      grind
theorem Blg.two {C : List Pt} (h : Blg C) : Two C := by
  cases hC : C with
  | nil => exact absurd hC h.nn
  | cons o r =>
    obtain ⟨e, he, h1⟩ := ringS_fst (C := C) (c := o) (by rw [hC]; exact List.mem_cons_self)
    obtain ⟨a, b⟩ := ringS_mem he
    rw [hC] at a b
    exact ⟨_, a, _, b, h.ne e he⟩
theorem Blg.nd {C : List Pt} (h : Blg C) : ∀ l ∈ linesOf C, ¬(l.d.1 = 0 ∧ l.d.2 = 0) := fun l hl ⟨h1, h2⟩ => by
  obtain ⟨e, he, rfl⟩ := mem_lines hl
  refine h.ne e he ?_
  unfold lnOf at h1 h2
  dsimp only at h1 h2
  exact Prod.ext (by grind) (by grind)
/-! #### a closed chain, by numbers -/
theorem chB_idx : ∀ (A : List PL) (w : PL), chB (some w) A → (∀ a, A[0]? = some a → AlN w.2 w.1 a.1 ∧ 0 < crs w.2.d a.2.d) ∧ ∀ (k : Nat) (a b : PL), A[k]? = some a → A[k + 1]? = some b → AlN a.2 a.1 b.1 ∧ 0 < crs a.2.d b.2.d
  | [], _, _ => ⟨(fun _ h => nomatch h), (fun _ _ _ h => nomatch h)⟩
  | x :: r, w, h => by
    obtain ⟨i1, i2⟩ := chB_idx r x h.2
    refine ⟨fun a e => ?_, fun k a b ha hb => ?_⟩
    · cases e
      exact h.1 w rfl
    · cases k with
      | zero =>
        cases ha
        exact i1 b hb
      | succ k => exact i2 k a b ha hb
theorem lastA_idx : ∀ (r : List PL) (x w : PL), lastA (some x) r = some w → (x :: r)[r.length]? = some w
  | [], x, w, h => h
  | a :: r, x, w, h => by
    rw [List.length_cons, List.getElem?_cons_succ]
    exact lastA_idx r a w h
theorem cls_idx {A : List PL} (g : ClA A) (k : Nat) (hk : k < A.length) : ∃ a b, A[k]? = some a ∧ A[(k + 1) % A.length]? = some b ∧ AlN a.2 a.1 b.1 ∧ 0 < crs a.2.d b.2.d := by
  obtain ⟨w, hw, h⟩ := g
  obtain ⟨i1, i2⟩ := chB_idx A w h
  cases hA : A with
  | nil => rw [hA] at hk; exact absurd hk (Nat.not_lt_zero _)
  | cons x r =>
    rw [← hA]
    by_cases q : k + 1 < A.length
    · refine ⟨A[k], A[k + 1], List.getElem?_eq_getElem hk, ?_, i2 k _ _ (List.getElem?_eq_getElem hk) (List.getElem?_eq_getElem q)⟩
      rw [Nat.mod_eq_of_lt q]
      exact List.getElem?_eq_getElem q
    · have e : k + 1 = A.length := by omega
      have ex : A[0]? = some x := by rw [hA]; rfl
      refine ⟨w, x, ?_, by rw [e, Nat.mod_self]; exact ex, i1 x ex⟩
      rw [hA] at hw e
      have hw : lastA (some x) r = some w := hw
      have := lastA_idx r x w hw
      rw [hA]
      have : k = r.length := by rw [List.length_cons] at e; omega
      rw [this]
      assumption
theorem pt_map {A : List PL} {k : Nat} {a : PL} (h : A[k]? = some a) : pt (A.map Prod.fst) k = a.1 := by
  unfold pt
  rw [List.getD_eq_getElem?_getD, List.getElem?_map, h]
  rfl
theorem AlN.turnP {l : Ln} {p q : Pt} (h : AlN l p q) (x : Pt) : ∃ t : Rat, 0 < t ∧ turnR p q x = t * ev l x := by
  obtain ⟨⟨h0, t, ht, h1, h2⟩, hn⟩ := h
  refine ⟨t, ?_, ?_⟩
  · have : t ≠ 0 := fun z => hn (Prod.ext (by rw [h1, z]; grind) (by rw [h2, z]; grind))
    grind
  · unfold turnR
    unfold ev at *
    rw [h1, h2]
    grind
theorem crs_turn (a b c : Pt) : crs (lnOf a b).d (lnOf b c).d = turnR a b c := by
  unfold crs lnOf turnR
  dsimp only
  grind
theorem ev_snd (p q : Pt) : ev (lnOf p q) q = 0 := by
  unfold ev lnOf
  grind
theorem ev_fst (p q : Pt) : ev (lnOf p q) p = 0 := by
  unfold ev lnOf
  grind
section
variable {A : List PL}
/-- each corner turns strictly to the left -/
theorem cls_turns (g : ClA A) (k : Nat) (hk : k < A.length) : 0 < turnR (pt (A.map Prod.fst) k) (pt (A.map Prod.fst) ((k + 1) % A.length)) (pt (A.map Prod.fst) (((k + 1) % A.length + 1) % A.length)) := by
  obtain ⟨a, b, ha, hb, h1, h2⟩ := cls_idx g k hk
  obtain ⟨b', c, hb', hc, h3, h4⟩ := cls_idx g ((k + 1) % A.length) (Nat.mod_lt _ (by omega))
  rw [hb] at hb'
  cases hb'
  rw [pt_map ha, pt_map hb, pt_map hc]
  obtain ⟨c0, c1, e⟩ := turn_al h1 h3
  rw [e]
  exact Rat.mul_pos c1 h2
theorem ringS_get {C : List Pt} {e : Pt × Pt} (h : e ∈ ringS C) : ∃ k, k < C.length ∧ e = (pt C k, pt C ((k + 1) % C.length)) := by
  rw [ringS_idx] at h
  obtain ⟨k, hk, rfl⟩ := List.mem_map.mp h
  exact ⟨k, List.mem_range.mp hk, rfl⟩
theorem ringS_put {C : List Pt} {k : Nat} (h : k < C.length) : (pt C k, pt C ((k + 1) % C.length)) ∈ ringS C := by
  rw [ringS_idx]
  exact List.mem_map.mpr ⟨k, List.mem_range.mpr h, rfl⟩
theorem pt_of {C : List Pt} {c : Pt} (h : c ∈ C) : ∃ k, k < C.length ∧ c = pt C k := by
  obtain ⟨k, hk, rfl⟩ := List.mem_iff_getElem.mp h
  refine ⟨k, hk, ?_⟩
  unfold pt
  rw [List.getD_eq_getElem?_getD, List.getElem?_eq_getElem hk]
  rfl
theorem prev_next {n k : Nat} (h : k < n) : prev n k < n ∧ (prev n k + 1) % n = k := by
  unfold prev
  split
  · rename_i z
    subst z
    refine ⟨by omega, ?_⟩
    rw [show n - 1 + 1 = n by omega, Nat.mod_self]
  · refine ⟨by omega, ?_⟩
    rw [show k - 1 + 1 = k by omega, Nat.mod_eq_of_lt h]
/-- the ring of a closed chain within lines is a bulging part -/
theorem cls_side (g : ClA A) {e : Pt × Pt} (h : e ∈ ringS (A.map Prod.fst)) : ∃ a ∈ A, AlN a.2 e.1 e.2 ∧ a.1 = e.1 := by
  obtain ⟨k, hk, rfl⟩ := ringS_get h
  rw [List.length_map] at hk ⊢
  obtain ⟨a, b, ha, hb, h1, h2⟩ := cls_idx g k hk
  rw [pt_map ha, pt_map hb]
  exact ⟨a, List.mem_of_getElem? ha, h1, rfl⟩
theorem cls_side' (g : ClA A) {a : PL} (h : a ∈ A) : ∃ e ∈ ringS (A.map Prod.fst), AlN a.2 e.1 e.2 := by
  obtain ⟨k, hk, rfl⟩ := List.mem_iff_getElem.mp h
  obtain ⟨a, b, ha, hb, h1, h2⟩ := cls_idx g k hk
  rw [List.getElem?_eq_getElem hk] at ha
  cases ha
  refine ⟨_, ringS_put (C := A.map Prod.fst) (k := k) (by rw [List.length_map]; exact hk), ?_⟩
  rw [List.length_map]
  dsimp only
  rw [pt_map (List.getElem?_eq_getElem hk), pt_map hb]
  exact h1
variable {Ls : List Ln}
theorem cls_blg (g : ClA A) (w : Wi Ls A) (o : Onc (A.map Prod.fst)) (hne : A ≠ []) : Blg (A.map Prod.fst) := by
  refine ⟨fun e he c hc => ?_, fun c hc => ?_, o, fun e he => ?_, fun z => hne (List.map_eq_nil_iff.mp z)⟩
  · obtain ⟨a, ha, h1, _⟩ := cls_side g he
    obtain ⟨t, ht, e⟩ := h1.turnP c
    obtain ⟨d, hd, rfl⟩ := List.mem_map.mp hc
    rw [e]
    exact Rat.mul_nonneg (by grind) ((w d hd).2 _ (w a ha).1)
  · obtain ⟨k, hk, rfl⟩ := pt_of hc
    rw [List.length_map] at hk
    obtain ⟨p1, p2⟩ := prev_next hk
    have t := cls_turns g _ p1
    rw [p2] at t
    have m1 := ringS_put (C := A.map Prod.fst) (k := prev A.length k) (by rw [List.length_map]; exact p1)
    have m2 := ringS_put (C := A.map Prod.fst) (k := k) (by rw [List.length_map]; exact hk)
    rw [List.length_map] at m1 m2
    rw [p2] at m1
    refine ⟨_, List.mem_map.mpr ⟨_, m1, rfl⟩, _, List.mem_map.mpr ⟨_, m2, rfl⟩, ev_snd _ _, ev_fst _ _, ?_⟩
    rw [crs_turn]
    grind
  · obtain ⟨a, ha, h1, _⟩ := cls_side g he
    exact h1.2
theorem cls_in (g : ClA A) (w : Wi Ls A) (hne : A ≠ []) (x : Pt) : (∀ e ∈ ringS (A.map Prod.fst), 0 ≤ turnR e.1 e.2 x) ↔ ∀ l ∈ Ls, 0 ≤ ev l x := by
  constructor
  · intro h l hl
    refine tdy_in (cls_tdy g) hne l (fun a ha => (w a ha).2 l hl) fun a ha => ?_
    obtain ⟨e, he, h1⟩ := cls_side' g ha
    obtain ⟨t, ht, e2⟩ := h1.turnP x
    have := h e he
    rw [e2] at this
    refine Classical.byContradiction fun z => ?_
    have := Rat.mul_pos ht (show 0 < -ev a.2 x by grind)
    grind
  · intro h e he
    obtain ⟨a, ha, h1, _⟩ := cls_side g he
    obtain ⟨t, ht, e2⟩ := h1.turnP x
    rw [e2]
    exact Rat.mul_nonneg (by grind) (h _ (w a ha).1)
/-- a tidy part made tidy is itself -/
theorem unl_self (g : ClA A) : unl (A.map Prod.fst) = A.map Prod.fst := by
  have e : (List.range (A.map Prod.fst).length).map (pt (A.map Prod.fst)) = A.map Prod.fst := by
    refine List.ext_getElem? fun k => ?_
    by_cases hk : k < (A.map Prod.fst).length
    · rw [List.getElem?_map, List.getElem?_range hk, List.getElem?_eq_getElem hk]
      unfold pt
      rw [Option.map_some, List.getD_eq_getElem?_getD, List.getElem?_eq_getElem hk]
      rfl
    · rw [List.getElem?_eq_none (by rw [List.length_map, List.length_range]; omega), List.getElem?_eq_none (by omega)]
  have f : (List.range (A.map Prod.fst).length).filter (fun k => !decide ((pt (A.map Prod.fst) k).1 = (pt (A.map Prod.fst) (prev (A.map Prod.fst).length k)).1 ∧ (pt (A.map Prod.fst) k).2 = (pt (A.map Prod.fst) (prev (A.map Prod.fst).length k)).2) || decide ((A.map Prod.fst).length = 1)) = List.range (A.map Prod.fst).length := by
    refine List.filter_eq_self.mpr fun k hk => ?_
    have hk := List.mem_range.mp hk
    rw [List.length_map] at hk
    obtain ⟨p1, p2⟩ := prev_next hk
    obtain ⟨a, b, ha, hb, h1, _⟩ := cls_idx g _ p1
    rw [p2] at hb
    rw [List.length_map, pt_map ha, pt_map hb]
    have : ¬(b.1.1 = a.1.1 ∧ b.1.2 = a.1.2) := fun z => h1.2 (Prod.ext z.1.symm z.2.symm)
    rw [decide_eq_false this]
    rfl
  unfold unl
  rw [f, e]
theorem fndN_self (g : ClA A) : ∀ n, n ≤ A.length → fndN (A.map Prod.fst) n = (A.map Prod.fst).take n
  | 0, _ => rfl
  | n + 1, hn => by
    obtain ⟨p1, p2⟩ := prev_next (show n < A.length by omega)
    have t := cls_turns g _ p1
    rw [p2] at t
    unfold fndN
    rw [fndN_self g n (by omega), List.length_map, if_neg (by grind)]
    have hk : n < (A.map Prod.fst).length := by rw [List.length_map]; omega
    rw [← List.take_append_getElem hk]
    congr 1
    unfold pt
    rw [List.getD_eq_getElem?_getD, List.getElem?_eq_getElem hk]
    rfl
theorem fnd_self (g : ClA A) : fnd (A.map Prod.fst) = A.map Prod.fst := by
  unfold fnd
  rw [unl_self g, List.length_map, fndN_self g _ (Nat.le_refl _), List.take_of_length_le (by rw [List.length_map]; exact Nat.le_refl _)]
end
/-- begun at the strictly least -/
def Beg (F : List Pt) : Prop := ∃ a r, F = a :: r ∧ ∀ y ∈ r, leX a y ∧ y ≠ a
theorem tid_self {A : List PL} (g : ClA A) (h3 : 3 ≤ A.length) (hb : Beg (A.map Prod.fst)) : tidR (A.map Prod.fst) = A.map Prod.fst := by
  unfold tidR
  rw [fnd_self g]
  obtain ⟨a, r, e, h⟩ := hb
  have hl : 3 ≤ (a :: r).length := by rw [← e, List.length_map]; exact h3
  rw [e]
  have := rotR_split (X := []) (a := a) (Y := r) (by rw [List.append_nil]; exact hl) (fun y hy => by
    rw [List.append_nil] at hy
    rcases List.mem_cons.mp hy with rfl | hy
    · exact leX_self _
    · exact (h y hy).1) fun y hy => by
      rw [List.append_nil] at hy
      exact (h y hy).2
  rw [List.append_nil] at this
  exact this
theorem cut_in {l : Ln} {F : List Pt} (h : ∀ p ∈ F, 0 ≤ ev l p) : cut l F = F := by
  have e : ∀ es : List (Pt × Pt), (∀ e ∈ es, e.1 ∈ F ∧ e.2 ∈ F) → es.flatMap (keepE (ev l)) = es.map Prod.fst := fun es => by
    induction es with
    | nil => exact fun _ => rfl
    | cons e es ih =>
      intro he
      obtain ⟨h1, h2⟩ := he e List.mem_cons_self
      have k : keepE (ev l) e = [e.1] := by
        unfold keepE
        rw [if_neg (show ¬ ev l e.1 < 0 by have := h _ h1; grind), if_neg (show ¬ ev l e.1 * ev l e.2 < 0 from fun z => by have := Rat.mul_nonneg (h _ h1) (h _ h2); grind)]
        rfl
      rw [List.flatMap_cons, ih fun e h => he e (List.mem_cons_of_mem _ h), k]
      rfl
  unfold cut
  rw [e _ fun e he => ringS_mem he, ringS_idx, List.map_map]
  refine List.ext_getElem? fun k => ?_
  by_cases hk : k < F.length
  · rw [List.getElem?_map, List.getElem?_range hk, List.getElem?_eq_getElem hk]
    show some (pt F k) = _
    unfold pt
    rw [List.getD_eq_getElem?_getD, List.getElem?_eq_getElem hk]
    rfl
  · rw [List.getElem?_eq_none (by rw [List.length_map, List.length_range]; omega), List.getElem?_eq_none (by omega)]
theorem cuts_in {F : List Pt} : ∀ hs : List Ln, (∀ l ∈ hs, ∀ p ∈ F, 0 ≤ ev l p) → cuts hs F = F
  | [], _ => rfl
  | l :: hs, h => by
    show cuts hs (cut l F) = F
    rw [cut_in (h l List.mem_cons_self)]
    exact cuts_in hs fun m hm => h m (List.mem_cons_of_mem _ hm)

/-! ### the part of two bulging parts -/
structure Tid (Ls : List Ln) (A : List PL) : Prop where
  cl : ClA A
  wi : Wi Ls A
  three : 3 ≤ A.length
  beg : Beg (A.map Prod.fst)
  onc : Onc (A.map Prod.fst)
section
variable {Ls Ms : List Ln} {A B : List PL} {C O : List Pt}
theorem Tid.ne (h : Tid Ls A) : A ≠ [] := fun e => by
  have := h.three
  rw [e] at this
  exact absurd this (by decide)
theorem Tid.blg (h : Tid Ls A) : Blg (A.map Prod.fst) := cls_blg h.cl h.wi h.onc h.ne
theorem Tid.least (h : Tid Ls A) : ∃ a r, A = a :: r ∧ (∀ x ∈ (a :: r).map Prod.fst, leX a.1 x) := by
  obtain ⟨p, q, e, hb⟩ := h.beg
  cases hA : A with
  | nil => exact absurd hA h.ne
  | cons a r =>
    rw [hA] at e
    obtain ⟨e1, e2⟩ := List.cons.inj e
    refine ⟨a, r, rfl, fun x hx => ?_⟩
    rcases List.mem_cons.mp hx with rfl | hx
    · exact leX_self _
    · rw [e1]
      rw [e2] at hx
      exact (hb x hx).1
theorem Tid.same (h : Tid Ls A) (k : Tid Ms B) (hl : ∀ l, l ∈ Ls ↔ l ∈ Ms) : A.map Prod.fst = B.map Prod.fst := by
  obtain ⟨a, r, eA, ha⟩ := h.least
  obtain ⟨b, s, eB, hb⟩ := k.least
  have h1 := h.cl
  have h2 := h.wi
  have h3 := h.onc
  have k1 := k.cl
  have k2 := k.wi
  have k3 := k.onc
  rw [eA] at h1 h2 h3 ⊢
  rw [eB] at k1 k2 k3 ⊢
  exact same_ring h1 k1 h2 (wi_lines (fun l => (hl l).symm) k2) ha hb (fun c => h3.n c) fun c => k3.n c
theorem tid_wide {K : List Pt} {x : Pt} (g : Ring Ls K) (tK : Two K) (hx : ∀ l ∈ Ls, 0 < ev l x) (ho : Onc K) : ∃ A : List PL, tidR K = A.map Prod.fst ∧ Tid Ls A ∧ ringA (A.map Prod.fst) ≤ ringA K ∧ 0 ≤ cyc (fnd K) ∧ (fnd K).length = A.length ∧ ∀ p ∈ fnd K, p ∈ A.map Prod.fst := by
  obtain ⟨X, a, Y, b, M, e1, e2, e3, e4, e5, e6, e7⟩ := tdy_least g tK hx fun c => ho.unlR.n c
  have ef := fnd_fndA (two_len tK) e1
  rw [e2] at ef
  have once := once_tail (least_once e3 e5 e6)
  have ef2 : fnd K = X.map Prod.fst ++ a.1 :: Y.map Prod.fst := by
    rw [ef, List.map_append]
    rfl
  have eA : (a :: (Y ++ X)).map Prod.fst = a.1 :: (Y.map Prod.fst ++ X.map Prod.fst) := by
    rw [List.map_cons, List.map_append]
  have l3 : 3 ≤ (a.1 :: (Y.map Prod.fst ++ X.map Prod.fst)).length := by
    rw [← eA, List.length_map]
    exact e7
  have hon : ∀ y ∈ Y.map Prod.fst ++ X.map Prod.fst, y ≠ a.1 := fun y hy => once y (by rw [List.map_append]; exact hy)
  have hle : ∀ y ∈ a.1 :: (Y.map Prod.fst ++ X.map Prod.fst), leX a.1 y := fun y hy => e5 y (by rw [eA]; exact hy)
  have hO : Onc ((a :: (Y ++ X)).map Prod.fst) := by
    have o1 : Onc ((X ++ a :: Y).map Prod.fst) := by
      rw [← e2]
      refine Onc.sub ?_ (fnd_sub _ _ _)
      rw [e1]
      exact ho.unlR
    rw [List.map_append] at o1
    have o2 := o1.turn
    rw [eA]
    exact o2
  have hT : Tid Ls (a :: (Y ++ X)) := ⟨e3, e4, e7, ⟨a.1, _, eA, fun y hy => ⟨hle y (List.mem_cons_of_mem _ hy), hon y hy⟩⟩, hO⟩
  have eR : ringA (fnd K) = ringA ((a :: (Y ++ X)).map Prod.fst) := by
    rw [ef2, eA, ringA_turn]
    rfl
  refine ⟨a :: (Y ++ X), ?_, hT, ?_, ?_, ?_, fun p hp => ?_⟩
  · unfold tidR
    rw [ef2, rotR_split l3 hle hon, eA]
  · rw [← eR, ef, ← e2]
    exact fnd_A g e1 _ _
  · rw [cyc_ringA, eR]
    exact ringA_nn hT.blg.ring
  · rw [ef, List.length_map, List.length_append, List.length_cons, List.length_cons, List.length_append]
    omega
  · rw [ef2] at hp
    rw [eA]
    rcases List.mem_append.mp hp with h | h
    · exact List.mem_cons_of_mem _ (List.mem_append_right _ h)
    · rcases List.mem_cons.mp h with rfl | h
      · exact List.mem_cons_self
      · exact List.mem_cons_of_mem _ (List.mem_append_left _ h)
theorem tid_none {K : List Pt} (g : Ring Ls K) (nd : ∀ l ∈ Ls, ¬(l.d.1 = 0 ∧ l.d.2 = 0)) (hx : ¬ ∃ x : Pt, ∀ l ∈ Ls, 0 < ev l x) : fnd K = [] := by
  refine Classical.byContradiction fun h => hx ?_
  obtain ⟨p, q, r, hp, hq, hr, ht⟩ := fnd_three h
  exact inner_of nd (g.left p hp) (g.left q hq) (g.left r hr) ht
def linesAll (C O : List Pt) : List Ln := (linesOf O).reverse ++ linesOf C
def bothP (C O : List Pt) : List Pt := tidR (cuts (linesOf O) C)
theorem mem_all {l : Ln} : l ∈ linesAll C O ↔ l ∈ linesOf C ∨ l ∈ linesOf O := by
  unfold linesAll
  rw [List.mem_append, List.mem_reverse]
  exact or_comm
structure Both (C O : List Pt) (A : List PL) : Prop where
  e : bothP C O = A.map Prod.fst
  tid : Tid (linesAll C O) A
  less : ringA (A.map Prod.fst) ≤ ringA C
  nn : 0 ≤ cyc (fnd (cuts (linesOf O) C))
  len : (fnd (cuts (linesOf O) C)).length = A.length
  mem : ∀ p ∈ fnd (cuts (linesOf O) C), p ∈ A.map Prod.fst
theorem Tid.inner (h : Tid Ls A) (nd : ∀ l ∈ Ls, ¬(l.d.1 = 0 ∧ l.d.2 = 0)) : ∃ x : Pt, ∀ l ∈ Ls, 0 < ev l x := by
  have hl : 0 < A.length := by have := h.three; omega
  have t := cls_turns h.cl 0 hl
  have m : ∀ k, k < A.length → ∀ l ∈ Ls, 0 ≤ ev l (pt (A.map Prod.fst) k) := fun k hk l hl => by
    rw [pt_map (List.getElem?_eq_getElem hk)]
    exact (h.wi _ (List.getElem_mem hk)).2 l hl
  exact inner_of nd (m 0 hl) (m ((0 + 1) % A.length) (Nat.mod_lt _ hl)) (m (((0 + 1) % A.length + 1) % A.length) (Nat.mod_lt _ hl)) (fun z => by rw [z] at t; exact absurd t (by decide))
theorem Both.again (h : Both C O A) (D : List Pt) (hD : ∀ l ∈ linesOf D, l ∈ linesAll C O) : bothP (A.map Prod.fst) D = A.map Prod.fst := by
  unfold bothP
  rw [cuts_in _ fun l hl p hp => ?_]
  · exact tid_self h.tid.cl h.tid.three h.tid.beg
  · obtain ⟨a, ha, rfl⟩ := List.mem_map.mp hp
    exact (h.tid.wi a ha).2 l (hD l hl)
theorem Both.cuts (h : Both C O A) (D : List Pt) (hD : ∀ l ∈ linesOf D, l ∈ linesAll C O) : Gn.cuts (linesOf D) (A.map Prod.fst) = A.map Prod.fst := cuts_in _ fun l hl p hp => by
  obtain ⟨a, ha, rfl⟩ := List.mem_map.mp hp
  exact (h.tid.wi a ha).2 l (hD l hl)
/-- within the part of both: within both -/
theorem Both.within (h : Both C O A) (x : Pt) : (∀ e ∈ ringS (A.map Prod.fst), 0 ≤ turnR e.1 e.2 x) ↔ (∀ e ∈ ringS C, 0 ≤ turnR e.1 e.2 x) ∧ ∀ e ∈ ringS O, 0 ≤ turnR e.1 e.2 x := by
  rw [cls_in h.tid.cl h.tid.wi h.tid.ne x]
  constructor
  · intro k
    exact ⟨fun e he => k _ (mem_all.mpr (.inl (List.mem_map.mpr ⟨e, he, rfl⟩))), fun e he => k _ (mem_all.mpr (.inr (List.mem_map.mpr ⟨e, he, rfl⟩)))⟩
  · intro k l hl
    rcases mem_all.mp hl with hl | hl
    · obtain ⟨e, he, rfl⟩ := mem_lines hl
      exact k.1 e he
    · obtain ⟨e, he, rfl⟩ := mem_lines hl
      exact k.2 e he
end

/-! ### sizes: places and lines by whole numbers -/
structure HP (n : Nat) (p : Pt) : Prop where
  ex : ∃ X Y Z : Int, Z ≠ 0 ∧ Bd n X ∧ Bd n Y ∧ Bd n Z ∧ p.1 * (Z : Rat) = X ∧ p.2 * (Z : Rat) = Y
structure HL (n : Nat) (l : Ln) : Prop where
  ex : ∃ (A B C : Int) (D : Rat), D ≠ 0 ∧ Bd n A ∧ Bd n B ∧ Bd n C ∧ D * l.d.1 = A ∧ D * l.d.2 = B ∧ D * (l.d.1 * l.a.2 - l.d.2 * l.a.1) = C
theorem HP.mono {n m : Nat} {p : Pt} (h : HP n p) (k : n ≤ m) : HP m p := by
  obtain ⟨X, Y, Z, h0, h1, h2, h3, e⟩ := h.ex
  exact ⟨X, Y, Z, h0, h1.mono k, h2.mono k, h3.mono k, e⟩
theorem cast_ne {z : Int} (h : z ≠ 0) : (z : Rat) ≠ 0 := fun e => h (Rat.intCast_eq_zero_iff.mp e)
theorem HP.rb {n : Nat} {p : Pt} (h : HP n p) : RB n n p.1 ∧ RB n n p.2 := by
  obtain ⟨X, Y, Z, h0, h1, h2, h3, e1, e2⟩ := h.ex
  have hz := cast_ne h0
  have a : p.1 = (X : Rat) / Z := by grind
  have b : p.2 = (Y : Rat) / Z := by grind
  rw [a, b]
  exact ⟨RB.frac h0 h1 h3, RB.frac h0 h2 h3⟩
theorem HP.cr {n : Nat} {p q : Pt} (h : HP n p) (k : HP n q) : RB (2 * n + 1) (2 * n) (cr p q) := by
  obtain ⟨X, Y, Z, h0, h1, h2, h3, e1, e2⟩ := h.ex
  obtain ⟨X', Y', Z', k0, k1, k2, k3, f1, f2⟩ := k.ex
  have hz := cast_ne h0
  have kz := cast_ne k0
  have e : Gn.cr p q = ((X * Y' - X' * Y : Int) : Rat) / ((Z * Z' : Int) : Rat) := by
    rw [Rat.intCast_sub, Rat.intCast_mul, Rat.intCast_mul, Rat.intCast_mul, ← e1, ← e2, ← f1, ← f2]
    unfold Gn.cr
    grind
  rw [e]
  refine RB.frac (Int.mul_ne_zero h0 k0) ?_ ?_
  · exact ((h1.mul k2).subM (k1.mul h2)).mono (by omega)
  · exact (h3.mul k3).mono (by omega)
theorem HP.ln {n : Nat} {p q : Pt} (h : HP n p) (k : HP n q) : HL (2 * n + 1) (lnOf p q) := by
  obtain ⟨X, Y, Z, h0, h1, h2, h3, e1, e2⟩ := h.ex
  obtain ⟨X', Y', Z', k0, k1, k2, k3, f1, f2⟩ := k.ex
  refine ⟨X' * Z - X * Z', Y' * Z - Y * Z', X' * Y - Y' * X, (Z : Rat) * Z', (fun z => (Rat.mul_eq_zero.mp z).elim (cast_ne h0) (cast_ne k0)), ((k1.mul h3).subM (h1.mul k3)).mono (by omega), ((k2.mul h3).subM (h2.mul k3)).mono (by omega), ((k1.mul h2).subM (k2.mul h1)).mono (by omega), ?_, ?_, ?_⟩
  · rw [Rat.intCast_sub, Rat.intCast_mul, Rat.intCast_mul, ← e1, ← f1]
    unfold lnOf
    dsimp only
    grind
  · rw [Rat.intCast_sub, Rat.intCast_mul, Rat.intCast_mul, ← e2, ← f2]
    unfold lnOf
    dsimp only
    grind
  · rw [Rat.intCast_sub, Rat.intCast_mul, Rat.intCast_mul, ← e1, ← f1, ← e2, ← f2]
    unfold lnOf
    dsimp only
    grind
theorem HL.meet {n : Nat} {l m : Ln} {p : Pt} (h : HL n l) (k : HL n m) (h0 : ev l p = 0) (k0 : ev m p = 0) (hc : crs l.d m.d ≠ 0) : HP (2 * n + 1) p := by
  obtain ⟨A, B, C, D, hD, h1, h2, h3, e1, e2, e3⟩ := h.ex
  obtain ⟨A', B', C', D', kD, k1, k2, k3, f1, f2, f3⟩ := k.ex
  have dz := hD
  have dz' := kD
  have eZ : ((A * B' - A' * B : Int) : Rat) = D * D' * crs l.d m.d := by
    rw [Rat.intCast_sub, Rat.intCast_mul, Rat.intCast_mul, ← e1, ← e2, ← f1, ← f2]
    unfold crs
    grind
  have l0 : l.d.1 * p.2 - l.d.2 * p.1 = l.d.1 * l.a.2 - l.d.2 * l.a.1 := by
    unfold ev at h0
    grind
  have m0 : m.d.1 * p.2 - m.d.2 * p.1 = m.d.1 * m.a.2 - m.d.2 * m.a.1 := by
    unfold ev at k0
    grind
  refine ⟨A' * C - A * C', B' * C - B * C', A * B' - A' * B, fun z => ?_, ((k1.mul h3).subM (h1.mul k3)).mono (by omega), ((k2.mul h3).subM (h2.mul k3)).mono (by omega), ((h1.mul k2).subM (k1.mul h2)).mono (by omega), ?_, ?_⟩
  · rw [z] at eZ
    have eZ : (0 : Rat) = D * D' * crs l.d m.d := eZ
    rcases Rat.mul_eq_zero.mp eZ.symm with q | q
    · exact (Rat.mul_eq_zero.mp q).elim dz dz'
    · exact hc q
  · rw [eZ, Rat.intCast_sub, Rat.intCast_mul, Rat.intCast_mul, ← e3, ← f3, ← e1, ← f1, ← l0, ← m0]
    unfold crs
    grind
  · rw [eZ, Rat.intCast_sub, Rat.intCast_mul, Rat.intCast_mul, ← e3, ← f3, ← e2, ← f2, ← l0, ← m0]
    unfold crs
    grind
section
variable {C O : List Pt} {n : Nat}
theorem lines_HL (h : ∀ p ∈ C, HP n p) : ∀ l ∈ linesOf C, HL (2 * n + 1) l := fun l hl => by
  obtain ⟨e, he, rfl⟩ := mem_lines hl
  obtain ⟨a, b⟩ := ringS_mem he
  exact (h _ a).ln (h _ b)
theorem ring_HP {Ls : List Ln} {K : List Pt} {m : Nat} (g : Ring Ls K) (h : ∀ l ∈ Ls, HL m l) : ∀ p ∈ K, HP (2 * m + 1) p := fun p hp => by
  obtain ⟨l, hl, m, hm, h1, h2, h3⟩ := g.meet p hp
  exact (h l hl).meet (h m hm) h1 h2 h3
end
/-! #### cut by cut, by numbers -/
def cutN (ps os : List Pt) : Nat → List Pt
  | 0 => ps
  | n + 1 => kept (cutN ps os n) (turnR (pt os n) (pt os ((n + 1) % os.length)))
theorem cuts_snoc (l : Ln) : ∀ (hs : List Ln) (C : List Pt), cuts (hs ++ [l]) C = cut l (cuts hs C)
  | [], _ => rfl
  | h :: hs, C => cuts_snoc l hs (cut h C)
def lnsN (os : List Pt) (n : Nat) : List Ln := (List.range n).map fun k => lnOf (pt os k) (pt os ((k + 1) % os.length))
theorem cutN_cuts (ps os : List Pt) : ∀ n, cutN ps os n = cuts (lnsN os n) ps
  | 0 => rfl
  | n + 1 => by
    have e : lnsN os (n + 1) = lnsN os n ++ [lnOf (pt os n) (pt os ((n + 1) % os.length))] := by
      unfold lnsN
      rw [List.range_succ, List.map_append]
      rfl
    rw [e, cuts_snoc, ← cutN_cuts ps os n]
    exact kept_cut _ (lnOf (pt os n) (pt os ((n + 1) % os.length)))
theorem lnsN_all (os : List Pt) : lnsN os os.length = linesOf os := by
  unfold lnsN linesOf
  rw [ringS_idx, List.map_map]
  rfl
theorem cutN_all (ps os : List Pt) : cutN ps os os.length = cuts (linesOf os) ps := by
  rw [cutN_cuts, lnsN_all]
theorem lnsN_mem {os : List Pt} {n : Nat} (hn : n ≤ os.length) {l : Ln} (h : l ∈ lnsN os n) : l ∈ linesOf os := by
  obtain ⟨k, hk, rfl⟩ := List.mem_map.mp h
  rw [← lnsN_all]
  exact List.mem_map.mpr ⟨k, List.mem_range.mpr (by have := List.mem_range.mp hk; omega), rfl⟩
theorem cutN_len {C O : List Pt} (hC : Blg C) (n : Nat) : (cutN C O n).length ≤ C.length + 2 * n := by
  rw [cutN_cuts]
  have := cuts_len (lnsN O n) hC.onc
  have e : (lnsN O n).length = n := by
    unfold lnsN
    rw [List.length_map, List.length_range]
  omega
/-! ### the program's steps, sizes told by numbers -/
abbrev RP (n : Nat) (p : Pt) : Prop := RB n n p.1 ∧ RB n n p.2
theorem RP.mono {n m : Nat} {p : Pt} (h : RP n p) (k : n ≤ m) : RP m p := ⟨h.1.mono k k, h.2.mono k k⟩
theorem RP.zero {n : Nat} (h : 1 ≤ n) : RP n (0, 0) := ⟨RB.zero.mono h h, RB.zero.mono h h⟩
theorem pt_RP {ps : List Pt} {n : Nat} (hn : 1 ≤ n) (h : ∀ p ∈ ps, RP n p) (k : Nat) : RP n (pt ps k) := by
  unfold pt
  by_cases hk : k < ps.length
  · rw [List.getD_eq_getElem?_getD, List.getElem?_eq_getElem hk]
    exact h _ (List.getElem_mem hk)
  · rw [List.getD_eq_getElem?_getD, List.getElem?_eq_none (by omega)]
    exact RP.zero hn
section
variable {P : D → Prop} {n m : Nat}
theorem sp_turnW {a b p : Pt} (ha : RP n a) (hb : RP n b) (hp : RP m p) (hs : 6 * n + 2 * m < 9000) (h : P (rD (turnR a b p))) : (f_turn_at [pD a, pD b, pD p]).wp P NoE := by
  obtain ⟨a1, a2⟩ := a
  obtain ⟨b1, b2⟩ := b
  obtain ⟨p1, p2⟩ := p
  obtain ⟨ha1, ha2⟩ := ha
  obtain ⟨hb1, hb2⟩ := hb
  obtain ⟨hp1, hp2⟩ := hp
  dsimp only at ha1 ha2 hb1 hb2 hp1 hp2
  unfold pD
  wtm_at "y_in"
  repeat' wtm_at "y_dy"
  refine sp_ratio_less hb1 ha1 (by omega) ?_
  repeat' wtm_at "y_dy"
  refine sp_ratio_less hp2 ha2 (by omega) ?_
  repeat' wtm_at "y_dy"
  refine sp_ratio_times (hb1.sub ha1) (hp2.sub ha2) (by omega) ?_
  repeat' wtm_at "y_dy"
  refine sp_ratio_less hb2 ha2 (by omega) ?_
  repeat' wtm_at "y_dy"
  refine sp_ratio_less hp1 ha1 (by omega) ?_
  repeat' wtm_at "y_dy"
  refine sp_ratio_times (hb2.sub ha2) (hp1.sub ha1) (by omega) ?_
  repeat' wtm_at "y_dy"
  refine sp_ratio_less ((hb1.sub ha1).mul (hp2.sub ha2)) ((hb2.sub ha2).mul (hp1.sub ha1)) (by omega) ?_
  exact h
theorem turn_RB {a b p : Pt} (ha : RP n a) (hb : RP n b) (hp : RP m p) : RB (6 * n + 2 * m + 3) (6 * n + 2 * m + 3) (turnR a b p) := (((hb.1.sub ha.1).mul (hp.2.sub ha.2)).sub ((hb.2.sub ha.2).mul (hp.1.sub ha.1))).mono (by omega) (by omega)
theorem sp_betweenW {p q : Pt} {u v : Rat} (hp : RP m p) (hq : RP m q) (hu : RB n n u) (hv : RB n n v) (hs0 : 3 * n + 3 * m + 10 < 9000) (hd : u - v ≠ 0) (h : P (pD (btw p q u v))) : (f_between [pD p, pD q, rD u, rD v]).wp P NoE := by
  have h : P (.tup [rD (p.1 + u / (u - v) * (q.1 - p.1)), rD (p.2 + u / (u - v) * (q.2 - p.2))]) := h
  have hs : RB (3 * n + 1) (3 * n + 1) (u / (u - v)) := (hu.div hd (hu.sub hv)).mono (by omega) (by omega)
  obtain ⟨p1, p2⟩ := p
  obtain ⟨q1, q2⟩ := q
  obtain ⟨hp1, hp2⟩ := hp
  obtain ⟨hq1, hq2⟩ := hq
  dsimp only at hp1 hp2 hq1 hq2 h
  unfold pD
  wtm_at "y_in"
  repeat' wtm_at "y_dy"
  refine sp_ratio_less hu hv (by omega) ?_
  repeat' wtm_at "y_dy"
  refine sp_ratio_by hd hu (hu.sub hv) (by omega) ?_
  generalize u / (u - v) = s at h hs ⊢
  repeat' wtm_at "y_dy"
  refine sp_ratio_less hq1 hp1 (by omega) ?_
  repeat' wtm_at "y_dy"
  refine sp_ratio_times hs (hq1.sub hp1) (by omega) ?_
  repeat' wtm_at "y_dy"
  refine sp_ratio_sum hp1 (hs.mul (hq1.sub hp1)) (by omega) ?_
  repeat' wtm_at "y_dy"
  refine sp_ratio_less hq2 hp2 (by omega) ?_
  repeat' wtm_at "y_dy"
  refine sp_ratio_times hs (hq2.sub hp2) (by omega) ?_
  repeat' wtm_at "y_dy"
  refine sp_ratio_sum hp2 (hs.mul (hq2.sub hp2)) (by omega) ?_
  repeat' wtm_at "y_dy"
  exact h
theorem sp_keptW {ps : List Pt} {h : Pt → Rat} (hl : ps.length ≤ 2000) (hb : ∀ p ∈ ps, RP m p) (hh : ∀ p ∈ ps, RB n n (h p)) (hz : 3 * n + 3 * m + 10 < 9000) (hP : P (.lst ((kept ps h).map pD))) {dp dh : D} (hdp : D.lst (ps.map pD) = dp) (hdh : D.lst (ps.map fun p => rD (h p)) = dh) : (f_kept_side [dp, dh]).wp P NoE := by
  have hx : ∀ k : Nat, k < ps.length → oIx dp (.int k) = some (pD (pt ps k)) := fun k hk => by
    have := ix_pt hdp (K := k) (by omega) (by omega)
    rw [Int.toNat_natCast] at this
    exact this
  have hy : ∀ k : Nat, k < ps.length → oIx dh (.int k) = some (rD (h (pt ps k))) := fun k hk => by
    rw [← hdh]
    refine atI_nat ?_
    rw [List.getElem?_map, List.getElem?_eq_getElem hk]
    unfold pt
    rw [List.getD_eq_getElem?_getD, List.getElem?_eq_getElem hk]
    rfl
  have hn := len_pt hdp
  obtain ⟨L, hL⟩ : ∃ L : Int, (ps.length : Int) = L := ⟨_, rfl⟩
  rw [hL] at hn
  wtm_at "y_in"
  repeat' wtm_at "y_dy"
  refine g_ot hn ?_
  repeat' ((fail_if_success (with_reducible show SR.wp (forS _ _ _ _) _ _ _)); wtm_at "y_dy")
  refine forS_inv (fun k ρ => ∃ (w1 w2 : Sl), ρ = [.val dp, .val dh, .own ((keptR ps h k).map pD), w1, w2]) ⟨_, _, rfl⟩ ?_ ?_
  · rintro k _ _ ed ⟨w1, w2, rfl⟩
    obtain ⟨rfl, hk⟩ := rangeD_get ed
    have hk2 : k < ps.length := by omega
    have hm2 : (k + 1) % ps.length < ps.length := Nat.mod_lt _ (by omega)
    have hlk := len_keptR (ps := ps) (h := h) k
    have ek := hx k hk2
    have eh := hy k hk2
    have ek' := hx _ hm2
    have eh' := hy _ hm2
    have em : ((k : Int) + 1) % L = (((k + 1) % ps.length : Nat) : Int) := by rw [← hL]; rfl
    have b1 := hb _ (pt_mem hk2)
    have b2 := hb _ (pt_mem hm2)
    have c1 := hh _ (pt_mem hk2)
    have c2 := hh _ (pt_mem hm2)
    have kA : keptR ps h (k + 1) = keptR ps h k ++ keepAt ps h k := rfl
    unfold keepAt at kA
    generalize hm : (k + 1) % ps.length = m' at ek' eh' em b2 c2 kA
    generalize pt ps k = p at ek eh b1 c1 kA
    generalize pt ps m' = q at ek' eh' b2 c2 kA
    rw [Int.zero_add]
    obtain ⟨K, hK⟩ : ∃ K : Int, (k : Int) = K := ⟨_, rfl⟩
    obtain ⟨M, hM⟩ : ∃ M : Int, (m' : Int) = M := ⟨_, rfl⟩
    rw [hK] at ek eh em ⊢
    rw [hM] at ek' eh' em
    have hs0 : ((keptR ps h k).map pD).length < sizeLine := by rw [List.length_map, sizeLine_eq]; omega
    repeat' wtm_at "y_dy"
    refine g_ot hn ?_
    repeat' ((fail_if_success (with_reducible show SR.wp (sSeq (sIf _ _ _) _ _) _ _ _)); wtm_at "y_dy")
    rw [em]
    generalize hR : keptR ps h k = R at hlk kA hs0 ⊢
    generalize hu : h p = u at *
    generalize hv : h q = v at *
    refine sp_seq (SR.wp.imp (N := fun ρ => ρ = [.val dp, .val dh, .own ((R ++ if u < 0 then [] else [p]).map pD), .val (.int K), .val (.int M)]) (T := P) (E := fun _ _ => False) ?_ ?_ (fun _ z => z) fun _ _ z => z)
    · repeat' wtm_at "y_dy"
      refine g_ot eh ?_
      repeat' wtm_at "y_dy"
      refine sp_under_0 c1 (by omega) ?_
      repeat' wtm_at "y_dy"
      · rename_i z
        refine g_ot ek ?_
        repeat' wtm_at "y_dy"
        rw [if_neg z, List.map_append]
        rfl
      · rename_i z
        rw [if_pos (by grind), List.append_nil]
    rintro _ rfl
    have l1 : (if u < 0 then ([] : List Pt) else [p]).length ≤ 1 := by split <;> simp
    have hs1 : ((R ++ if u < 0 then [] else [p]).map pD).length < sizeLine := by rw [List.length_map, List.length_append, sizeLine_eq]; omega
    rw [← List.append_assoc] at kA
    generalize (R ++ if u < 0 then [] else [p]) = R1 at kA hs1 ⊢
    repeat' wtm_at "y_dy"
    refine g_ot eh ?_
    repeat' wtm_at "y_dy"
    refine g_ot eh' ?_
    repeat' wtm_at "y_dy"
    refine sp_ratio_times c1 c2 (by omega) ?_
    repeat' wtm_at "y_dy"
    refine sp_under_0 (c1.mul c2) (by omega) ?_
    repeat' wtm_at "y_dy"
    · rename_i z
      refine g_ot ek ?_
      repeat' wtm_at "y_dy"
      refine g_ot ek' ?_
      repeat' wtm_at "y_dy"
      refine g_ot eh ?_
      repeat' wtm_at "y_dy"
      refine g_ot eh' ?_
      repeat' wtm_at "y_dy"
      refine sp_betweenW b1 b2 c1 c2 hz (fun e => ?_) ?_
      · have e2 : u = v := by grind
        rw [e2] at z
        exact sq_pos v z
      repeat' wtm_at "y_dy"
      refine ⟨.val (.int K), .val (.int M), ?_⟩
      rw [kA, if_pos z, List.map_append]
      rfl
    · rename_i z
      refine ⟨.val (.int K), .val (.int M), ?_⟩
      rw [kA, if_neg z, List.append_nil]
  · rintro _ ⟨w1, w2, rfl⟩
    have eL : (rangeD 0 L.toNat).length = ps.length := by simp only [rangeD, List.length_map, List.length_range]; omega
    rw [eL]
    repeat' wtm_at "y_dy"
    exact hP
theorem sp_beforeW {p q : Pt} (hp : RP m p) (hq : RP m q) (hm : 2 * m < 100000000) (h : P (.bl (before p q))) : (f_is_before [pD p, pD q]).wp P NoE := by
  obtain ⟨p1, p2⟩ := p
  obtain ⟨q1, q2⟩ := q
  obtain ⟨hp1, hp2⟩ := hp
  obtain ⟨hq1, hq2⟩ := hq
  dsimp only at hp1 hp2 hq1 hq2
  unfold before at h
  dsimp only at h
  unfold pD
  wtm_at "y_in"
  repeat' wtm_at "y_dy"
  · rename_i z
    rw [if_neg z] at h
    refine sp_is_under hp1 hq1 (by omega) h
  · rename_i z
    rw [if_pos z] at h
    refine sp_is_under hp2 hq2 (by omega) h
end
/-! ### the share, of places by whole numbers -/
theorem sumN_RBW {f : Nat → Rat} {a : Nat} (hf : ∀ k, RB (a + 1) a (f k)) : ∀ n, RB ((a + 3) * (n + 1)) (a * n + 1) (sumN f n)
  | 0 => RB.zero.mono (by omega) (by omega)
  | n + 1 => by
    have h1 : a * (n + 1) = a * n + a := Nat.mul_succ a n
    have h2 : (a + 3) * (n + 1 + 1) = (a + 3) * (n + 1) + (a + 3) := Nat.mul_succ (a + 3) (n + 1)
    have h3 : (a + 3) * (n + 1) = (a + 3) * n + (a + 3) := Nat.mul_succ (a + 3) n
    have h4 : (a + 3) * n = a * n + 3 * n := Nat.add_mul _ _ _
    exact ((sumN_RBW hf n).add (hf n)).mono (by omega) (by omega)
theorem HP.zero {n : Nat} (h : 1 ≤ n) : HP n (0, 0) := ⟨0, 0, 1, by decide, Bd.lit (Nat.two_pow_pos n), Bd.lit (Nat.two_pow_pos n), (Bd.lit (by decide) : Bd 1 1).mono h, by decide +kernel, by decide +kernel⟩
theorem pt_HP {ps : List Pt} {n : Nat} (hn : 1 ≤ n) (h : ∀ p ∈ ps, HP n p) (k : Nat) : HP n (pt ps k) := by
  unfold pt
  by_cases hk : k < ps.length
  · rw [List.getD_eq_getElem?_getD, List.getElem?_eq_getElem hk]
    exact h _ (List.getElem_mem hk)
  · rw [List.getD_eq_getElem?_getD, List.getElem?_eq_none (by omega)]
    exact HP.zero hn
theorem cyc_RBW {ps : List Pt} {n N : Nat} (hn : 1 ≤ n) (h : ∀ p ∈ ps, HP n p) (hl : ps.length ≤ N) : RB ((2 * n + 3) * (N + 1) + 2) (2 * n * N + 3) (Rat.divInt 1 2 * cyc ps) := by
  have h1 : (2 * n + 3) * (ps.length + 1) ≤ (2 * n + 3) * (N + 1) := Nat.mul_le_mul_left _ (by omega)
  have h2 : 2 * n * ps.length ≤ 2 * n * N := Nat.mul_le_mul_left _ hl
  exact (half_RB.mul (sumN_RBW (a := 2 * n) (fun _ => (pt_HP hn h _).cr (pt_HP hn h _)) ps.length)).mono (by omega) (by omega)
theorem sp_shareW {ps : List Pt} {d : D} {P : D → Prop} {n N : Nat} (hn1 : 1 ≤ n) (hd : D.lst (ps.map pD) = d) (hl : ps.length ≤ N) (hN : N ≤ 1000) (hb : ∀ p ∈ ps, HP n p) (hz : 2 * n * N + 2 * n + 4 < 9000) (h : P (rD (Rat.divInt 1 2 * cyc ps))) : (f_share_of [d]).wp P NoE := by
  have hbt := pt_HP hn1 hb
  have hx := fun {K : Int} => ix_pt hd (K := K)
  have hn := len_pt hd
  obtain ⟨L, hL⟩ : ∃ L : Int, (ps.length : Int) = L := ⟨_, rfl⟩
  rw [hL] at hn
  rw [hL] at hx
  have hL0 : 0 ≤ L := by omega
  have hn2 : 2 * n ≤ 2 * n * N ∨ N = 0 := by
    cases N with
    | zero => exact .inr rfl
    | succ N => exact .inl (by rw [Nat.mul_succ]; omega)
  wtm_at "y_in"
  wtm_at "y_go"
  refine g_ot hn ?_
  wtm_at "y_go"
  refine forS_inv (fun K ρ => ∃ (w1 w2 w3 : Sl), ρ = [.val d, .val (rD (sumN (fun k => cr (pt ps k) (pt ps ((k + 1) % ps.length))) K)), w1, w2, w3]) ⟨_, _, _, rfl⟩ ?_ ?_
  · rintro k _ _ ed ⟨w1, w2, w3, rfl⟩
    obtain ⟨rfl, hk⟩ := rangeD_get ed
    have hk2 : k < ps.length := by omega
    have hS := sumN_RBW (f := fun k => cr (pt ps k) (pt ps ((k + 1) % ps.length))) (a := 2 * n) (fun _ => (hbt _).cr (hbt _)) k
    have q1 : 2 * n * (k + 1) ≤ 2 * n * N := Nat.mul_le_mul_left _ (by omega)
    have q2 : (2 * n + 3) * (k + 1) ≤ (2 * n + 3) * N := Nat.mul_le_mul_left _ (by omega)
    have q3 : (2 * n + 3) * N = 2 * n * N + 3 * N := Nat.add_mul _ _ _
    have q4 : 2 * n * (k + 1) = 2 * n * k + 2 * n := Nat.mul_succ (2 * n) k
    generalize hSS : sumN (fun k => cr (pt ps k) (pt ps ((k + 1) % ps.length))) k = S at hS
    obtain ⟨K, hK⟩ : ∃ K : Int, 0 + (k : Int) = K := ⟨_, rfl⟩
    rw [hK]
    have ek : K.toNat = k := by omega
    have ej : ((K + 1) % L).toNat = (k + 1) % ps.length := by
      rw [← hK, ← hL]
      have : ((0 : Int) + k + 1) % (ps.length : Int) = (((k + 1) % ps.length : Nat) : Int) := by rw [show (0 : Int) + k + 1 = ((k + 1 : Nat) : Int) by omega]; rfl
      omega
    wtm_at "y_go"
    refine g_ot (hx (by omega) (by omega)) ?_
    rw [ek]
    wtm_at "y_go"
    refine g_ot hn ?_
    wtm_at "y_go"
    refine g_ot (hx (Int.emod_nonneg _ (by omega)) (Int.emod_lt_of_pos _ (by omega))) ?_
    rw [ej]
    have hp := hbt k
    have hq := hbt ((k + 1) % ps.length)
    generalize hP : pt ps k = p at hp
    generalize hQ : pt ps ((k + 1) % ps.length) = q at hq
    have hc := hp.cr hq
    have hp := hp.rb
    have hq := hq.rb
    wtm_at "y_go"
    refine sp_ratio_times hp.1 hq.2 (by omega) ?_
    wtm_at "y_go"
    refine sp_ratio_times hq.1 hp.2 (by omega) ?_
    wtm_at "y_go"
    refine sp_ratio_less (hp.1.mul hq.2) (hq.1.mul hp.2) (by omega) ?_
    wtm_at "y_go"
    refine sp_ratio_sum hS hc (by omega) ?_
    wtm_at "y_go"
    have e : S + (p.1 * q.2 - q.1 * p.2) = sumN (fun k => cr (pt ps k) (pt ps ((k + 1) % ps.length))) (k + 1) := by
      simp only [sumN]
      rw [hSS, hP, hQ]
      rfl
    rw [e]
    exact ⟨_, _, _, rfl⟩
  · rintro _ ⟨w1, w2, w3, rfl⟩
    have hS := sumN_RBW (f := fun k => cr (pt ps k) (pt ps ((k + 1) % ps.length))) (a := 2 * n) (fun _ => (hbt _).cr (hbt _)) ps.length
    have q1 : 2 * n * ps.length ≤ 2 * n * N := Nat.mul_le_mul_left _ (by omega)
    have q2 : (2 * n + 3) * (ps.length + 1) ≤ (2 * n + 3) * (N + 1) := Nat.mul_le_mul_left _ (by omega)
    have q3 : (2 * n + 3) * (N + 1) = 2 * n * N + 2 * n + 3 * N + 3 := by rw [Nat.mul_succ, Nat.add_mul]; omega
    have eL : (rangeD 0 L.toNat).length = ps.length := by simp only [rangeD, List.length_map, List.length_range]; omega
    rw [eL]
    wtm_at "y_go"
    refine sp_ratio_of (m := 2) (by decide) (Bd.lit (by decide)) (by decide) ?_
    wtm_at "y_go"
    refine sp_ratio_times half_RB hS (by omega) ?_
    exact h

/-! ### a part made tidy: the program's steps -/
theorem okq_ptsW {ps : List Pt} : okq 40 (.lst (ps.map pD)) = true := by
  show (ps.map pD).all (okq 39) = true
  rw [List.all_map, List.all_eq_true]
  intro p _
  rfl
theorem fst_lt {fs : List Pt} (h : 3 ≤ fs.length) : fstN fs (fs.length - 1) < fs.length := by
  have := fstN_le (fs := fs) (fs.length - 1)
  omega
theorem sIx_at {n d k : Nat} (h : k ≤ n) : HT.sIx n d (some (k : Int)) = k := by
  show (if (k : Int) < 0 then ((k : Int) + (n : Int)).toNat else min (k : Int).toNat n) = k
  rw [if_neg (by omega), Int.toNat_natCast]
  omega
theorem cut_from {fs : List Pt} {k : Nat} (h : k ≤ fs.length) : Dy.cutD (fs.map pD) (some (k : Int)) none = (fs.drop k).map pD := by
  unfold Dy.cutD
  have e1 : HT.sIx (fs.map pD).length 0 (some (k : Int)) = k := sIx_at (by rw [List.length_map]; exact h)
  have e2 : HT.sIx (fs.map pD).length (fs.map pD).length none = (fs.map pD).length := rfl
  rw [e1, e2, ← List.map_drop, List.take_of_length_le]
  rw [List.length_map, List.length_map, List.length_drop]
  exact Nat.le_refl _
theorem cut_upto {fs : List Pt} {k : Nat} (h : k ≤ fs.length) : Dy.cutD (fs.map pD) none (some (k : Int)) = (fs.take k).map pD := by
  unfold Dy.cutD
  have e1 : HT.sIx (fs.map pD).length (fs.map pD).length (some (k : Int)) = k := sIx_at (by rw [List.length_map]; exact h)
  have e2 : HT.sIx (fs.map pD).length 0 none = 0 := rfl
  rw [e1, e2, List.drop_zero, Nat.sub_zero, List.map_take]
/-! ### the part of both: the program's steps -/
theorem eq_nilW {ps : List Pt} {d : D} (hd : D.lst (ps.map pD) = d) : oEq d (.lst []) = some (.bl (decide (ps = []))) := by
  obtain ⟨z, e, h'⟩ := w_eqNil (P := fun d => d = .bl (ps.map pD).isEmpty) (okq_ptsW (ps := ps)) rfl
  rw [← hd, e, h']
  cases ps with
  | nil => rfl
  | cons a b => rfl
/-! ### parts that bulge: triangles, boxes, bows, made greater and moved -/
section
variable {s e n : Rat} {C : List Pt}
theorem endO_map (T : Pt → Pt) : ∀ (X : List Pt) (u : Pt), endO (T u) (X.map T) = T (endO u X)
  | [], _ => rfl
  | o :: r, _ => endO_map T r o
end
/-! #### corners that turn strictly -/
theorem meet_turn {C : List Pt} (h : ∀ k, k < C.length → turnR (pt C k) (pt C ((k + 1) % C.length)) (pt C (((k + 1) % C.length + 1) % C.length)) ≠ 0) : ∀ c ∈ C, Meet (linesOf C) c := fun c hc => by
  obtain ⟨k, hk, rfl⟩ := pt_of hc
  obtain ⟨p1, p2⟩ := prev_next hk
  have t := h _ p1
  rw [p2] at t
  have m1 := ringS_put (C := C) (k := prev C.length k) p1
  have m2 := ringS_put (C := C) (k := k) hk
  rw [p2] at m1
  refine ⟨_, List.mem_map.mpr ⟨_, m1, rfl⟩, _, List.mem_map.mpr ⟨_, m2, rfl⟩, ev_snd _ _, ev_fst _ _, ?_⟩
  rw [crs_turn]
  exact t
theorem ne_turn {C : List Pt} (h : ∀ k, k < C.length → turnR (pt C k) (pt C ((k + 1) % C.length)) (pt C (((k + 1) % C.length + 1) % C.length)) ≠ 0) : ∀ e ∈ ringS C, e.1 ≠ e.2 := fun e he z => by
  obtain ⟨k, hk, rfl⟩ := ringS_get he
  refine h k hk ?_
  dsimp only at z
  rw [z]
  unfold turnR
  grind
theorem box_blg {w h : Rat} (hw : 0 < w) (hh : 0 < h) : Blg [(0, 0), (w, 0), (w, h), (0, h)] := by
  have p := Rat.mul_pos hw hh
  have hk : ∀ k, k < [((0 : Rat), (0 : Rat)), (w, 0), (w, h), (0, h)].length → turnR (pt [(0, 0), (w, 0), (w, h), (0, h)] k) (pt [(0, 0), (w, 0), (w, h), (0, h)] ((k + 1) % [((0 : Rat), (0 : Rat)), (w, 0), (w, h), (0, h)].length)) (pt [(0, 0), (w, 0), (w, h), (0, h)] (((k + 1) % [((0 : Rat), (0 : Rat)), (w, 0), (w, h), (0, h)].length + 1) % [((0 : Rat), (0 : Rat)), (w, 0), (w, h), (0, h)].length)) ≠ 0 := fun k hk => by
    have hk : k < 4 := hk
    rw [show [((0 : Rat), (0 : Rat)), (w, 0), (w, h), (0, h)].length = 4 from rfl]
    match k, hk with
    | 0, _ => show turnR (0, 0) (w, 0) (w, h) ≠ 0; unfold turnR; grind
    | 1, _ => show turnR (w, 0) (w, h) (0, h) ≠ 0; unfold turnR; grind
    | 2, _ => show turnR (w, h) (0, h) (0, 0) ≠ 0; unfold turnR; grind
    | 3, _ => show turnR (0, h) (0, 0) (w, 0) ≠ 0; unfold turnR; grind
  refine ⟨fun e he c hc => ?_, meet_turn hk, fun f => ?_, ne_turn hk, by simp⟩
  · have he : e ∈ [(((0 : Rat), (0 : Rat)), (w, (0 : Rat))), ((w, 0), (w, h)), ((w, h), (0, h)), ((0, h), (0, 0))] := he
    simp only [List.mem_cons, List.not_mem_nil, or_false] at he hc
    unfold turnR
    rcases he with rfl | rfl | rfl | rfl <;> rcases hc with rfl | rfl | rfl | rfl <;> (dsimp only; grind)
  · show upF f (0, h) (0, 0) + (upF f (0, 0) (w, 0) + (upF f (w, 0) (w, h) + (upF f (w, h) (0, h) + 0))) ≤ 1
    have par : ev f (0, 0) + ev f (w, h) = ev f (w, 0) + ev f (0, h) := by
      unfold ev
      dsimp only
      grind
    unfold upF
    generalize ev f (0, 0) = a at par ⊢
    generalize ev f (w, 0) = b at par ⊢
    generalize ev f (w, h) = c at par ⊢
    generalize ev f (0, h) = d at par ⊢
    have ha' : (0 ≤ a) = ¬ a < 0 := propext ⟨fun h => by grind, fun h => by grind⟩
    have hb' : (0 ≤ b) = ¬ b < 0 := propext ⟨fun h => by grind, fun h => by grind⟩
    have hc' : (0 ≤ c) = ¬ c < 0 := propext ⟨fun h => by grind, fun h => by grind⟩
    have hd' : (0 ≤ d) = ¬ d < 0 := propext ⟨fun h => by grind, fun h => by grind⟩
    by_cases ha : a < 0 <;> by_cases hb : b < 0 <;> by_cases hc : c < 0 <;> by_cases hd : d < 0
    all_goals first
      | (exfalso; grind)
      | (simp [ha', hb', hc', hd', ha, hb, hc, hd]; done)
/-! #### bows -/
/-! ### rings the other way about -/
def mirP (p : Pt) : Pt := (p.2, p.1)
def mirL (l : Ln) : Ln := ⟨(l.a.2, l.a.1), (-l.d.2, -l.d.1)⟩
theorem mir_mir (p : Pt) : mirP (mirP p) = p := rfl
theorem ev_mir (l : Ln) (x : Pt) : ev (mirL l) (mirP x) = ev l x := by
  unfold ev mirL mirP
  dsimp only
  grind
theorem ev_mir' (l : Ln) (x : Pt) : ev l (mirP x) = ev (mirL l) x := by
  unfold ev mirL mirP
  dsimp only
  grind
theorem crs_mir (l m : Ln) : crs (mirL l).d (mirL m).d = crs m.d l.d := by
  unfold crs mirL
  dsimp only
  grind
theorem turn_mir (a b c : Pt) : turnR (mirP a) (mirP b) (mirP c) = -turnR a b c := by
  unfold turnR mirP
  dsimp only
  grind
theorem AlN.mir {l : Ln} {p q : Pt} (h : AlN l p q) : AlN (mirL l) (mirP q) (mirP p) := by
  obtain ⟨⟨h0, t, ht, h1, h2⟩, hn⟩ := h
  have hq := (show Al l p q from ⟨h0, t, ht, h1, h2⟩).on
  refine ⟨⟨by rw [ev_mir]; exact hq, t, ht, ?_, ?_⟩, fun e => hn ?_⟩
  · unfold mirP mirL
    dsimp only
    rw [h2]
    grind
  · unfold mirP mirL
    dsimp only
    rw [h1]
    grind
  · have := congrArg mirP e
    rw [mir_mir, mir_mir] at this
    exact this.symm
/-! #### chains by numbers -/
def rel (a b : PL) : Prop := AlN a.2 a.1 b.1 ∧ 0 < crs a.2.d b.2.d
theorem chB_of : ∀ (L : List PL) (w : PL), (∀ a, L[0]? = some a → rel w a) → (∀ (k : Nat) (a b : PL), L[k]? = some a → L[k + 1]? = some b → rel a b) → chB (some w) L
  | [], _, _, _ => trivial
  | x :: r, w, h1, h2 => ⟨fun w0 e => (by cases e; exact h1 x rfl), chB_of r x (fun a e => h2 0 x a rfl e) fun k a b ha hb => h2 (k + 1) a b ha hb⟩
theorem lastA_at : ∀ (r : List PL) (x : PL), lastA (some x) r = (x :: r)[r.length]?
  | [], _ => rfl
  | a :: r, x => by
    rw [List.length_cons, List.getElem?_cons_succ]
    exact lastA_at r a
theorem cls_of {L : List PL} (hne : L ≠ []) (h : ∀ k, k < L.length → ∃ a b, L[k]? = some a ∧ L[(k + 1) % L.length]? = some b ∧ rel a b) : ClA L := by
  cases hL : L with
  | nil => exact absurd hL hne
  | cons x r =>
    rw [hL] at h
    obtain ⟨w, x', h1, h2, h3⟩ := h r.length (by simp)
    have e0 : (r.length + 1) % (x :: r).length = 0 := by rw [List.length_cons, Nat.mod_self]
    rw [e0] at h2
    cases h2
    refine ⟨w, ?_, chB_of _ _ (fun a e => (by cases e; exact h3)) fun k a b ha hb => ?_⟩
    · show lastA (some x) r = some w
      rw [lastA_at]
      exact h1
    · have hk : k + 1 < (x :: r).length := (List.getElem?_eq_some_iff.mp hb).1
      obtain ⟨a', b', g1, g2, g3⟩ := h k (by omega)
      rw [Nat.mod_eq_of_lt hk, hb] at g2
      rw [ha] at g1
      cases g1
      cases g2
      exact g3
/-! #### goings down -/
def dnF (f : Ln) (p q : Pt) : Nat := upF f q p
def chD (f : Ln) : Pt → List Pt → Nat
  | _, [] => 0
  | u, o :: r => dnF f u o + chD f o r
theorem chF_rev (f : Ln) : ∀ (L : List Pt) (u v : Pt), chF f v (L.reverse ++ [u]) = upF f v (endO u L) + chD f u L
  | [], u, v => rfl
  | x :: r, u, v => by
    have i := chF_rev f r x v
    have e : endO v (r.reverse ++ [x]) = x := by
      rw [endO_app]
      rfl
    rw [List.reverse_cons, chF_app, i, e]
    show upF f v (endO x r) + chD f x r + (upF f x u + 0) = upF f v (endO x r) + (upF f x u + chD f x r)
    omega
def indF (f : Ln) (p : Pt) : Nat := if 0 ≤ ev f p then 1 else 0
theorem up_dn (f : Ln) (p q : Pt) : upF f p q + indF f p = dnF f p q + indF f q := by
  unfold dnF upF indF
  by_cases h1 : ev f p < 0 <;> by_cases h2 : ev f q < 0
  · rw [if_neg (by grind), if_neg (by grind), if_neg (by grind), if_neg (by grind)]
  · rw [if_pos ⟨h1, by grind⟩, if_neg (by grind), if_neg (by grind), if_pos (by grind)]
  · rw [if_neg (by grind), if_pos (by grind), if_pos ⟨h2, by grind⟩, if_neg (by grind)]
  · rw [if_neg (by grind), if_pos (by grind), if_neg (by grind), if_pos (by grind)]
theorem ch_dn (f : Ln) : ∀ (L : List Pt) (u : Pt), chF f u L + indF f u = chD f u L + indF f (endO u L)
  | [], u => rfl
  | o :: r, u => by
    have a := ch_dn f r o
    have b := up_dn f u o
    show upF f u o + chF f o r + indF f u = dnF f u o + chD f o r + indF f (endO o r)
    omega
theorem ringF_rev (f : Ln) (C : List Pt) : ringF f C.reverse = ringF f C := by
  cases C with
  | nil => rfl
  | cons o r =>
    rw [List.reverse_cons, ring_endF]
    have a := chF_rev f r o o
    rw [chF_app] at a
    have a : chF f o r.reverse + (upF f (endO o r.reverse) o + 0) = upF f o (endO o r) + chD f o r := a
    have b := ch_dn f (o :: r) (endO o r)
    have b : chF f (endO o r) (o :: r) + indF f (endO o r) = (upF f o (endO o r) + chD f o r) + indF f (endO o r) := b
    show _ = chF f (endO o r) (o :: r)
    omega
theorem chF_mir (f : Ln) : ∀ (X : List Pt) (u : Pt), chF f (mirP u) (X.map mirP) = chF (mirL f) u X
  | [], _ => rfl
  | o :: r, u => by
    have k : upF f (mirP u) (mirP o) = upF (mirL f) u o := by
      unfold upF
      rw [ev_mir', ev_mir']
    show upF f (mirP u) (mirP o) + chF f (mirP o) (r.map mirP) = upF (mirL f) u o + chF (mirL f) o r
    rw [k, chF_mir f r o]
theorem ringF_mir (f : Ln) (C : List Pt) : ringF f (C.map mirP) = ringF (mirL f) C := by
  cases C with
  | nil => rfl
  | cons o r =>
    show chF f (endO (mirP o) (r.map mirP)) ((o :: r).map mirP) = chF (mirL f) (endO o r) (o :: r)
    rw [endO_map, chF_mir]
theorem Onc.mir {C : List Pt} (h : Onc C) : Onc (C.map mirP).reverse := fun f => by
  rw [ringF_rev, ringF_mir]
  exact h _
/-! #### the program's steps, mirrored -/
theorem pt_map2 (g : Pt → Pt) (C : List Pt) {k : Nat} (hk : k < C.length) : pt (C.map g) k = g (pt C k) := by
  unfold pt
  rw [List.getD_eq_getElem?_getD, List.getD_eq_getElem?_getD, List.getElem?_map, List.getElem?_eq_getElem hk]
  rfl
theorem kept_mir (C : List Pt) (h : Pt → Rat) : kept (C.map mirP) h = (kept C fun x => h (mirP x)).map mirP := by
  unfold kept
  rw [keptR_range, keptR_range, List.length_map, List.map_flatMap]
  refine flat_ext _ fun k hk => ?_
  have hk := List.mem_range.mp hk
  unfold keepAt
  rw [List.length_map, pt_map2 _ _ hk, pt_map2 _ _ (Nat.mod_lt _ (by omega)), List.map_append]
  congr 1
  · split <;> rfl
  · split <;> rfl
theorem unl_mir (C : List Pt) : unl (C.map mirP) = (unl C).map mirP := by
  unfold unl
  rw [List.length_map, List.map_map]
  have e : (List.range C.length).filter (fun k => !decide ((pt (C.map mirP) k).1 = (pt (C.map mirP) (prev C.length k)).1 ∧ (pt (C.map mirP) k).2 = (pt (C.map mirP) (prev C.length k)).2) || decide (C.length = 1)) = (List.range C.length).filter (fun k => !decide ((pt C k).1 = (pt C (prev C.length k)).1 ∧ (pt C k).2 = (pt C (prev C.length k)).2) || decide (C.length = 1)) := by
    refine List.filter_congr fun k hk => ?_
    have hk := List.mem_range.mp hk
    rw [pt_map2 _ _ hk, pt_map2 _ _ (prev_next hk).1]
    congr 2
    exact decide_eq_decide.mpr ⟨fun h => ⟨h.2, h.1⟩, fun h => ⟨h.2, h.1⟩⟩
  rw [e]
  refine List.map_congr_left fun k hk => ?_
  have hk := List.mem_range.mp (List.mem_filter.mp hk).1
  exact pt_map2 _ _ hk
theorem fndN_mir (C : List Pt) : ∀ n, n ≤ C.length → fndN (C.map mirP) n = (fndN C n).map mirP
  | 0, _ => rfl
  | n + 1, hn => by
    unfold fndN
    rw [fndN_mir C n (by omega), List.length_map, pt_map2 _ _ (prev_next (show n < C.length by omega)).1, pt_map2 _ _ (show n < C.length by omega), pt_map2 _ _ (Nat.mod_lt _ (show 0 < C.length by omega)), turn_mir, List.map_append]
    congr 1
    by_cases h : turnR (pt C (prev C.length n)) (pt C n) (pt C ((n + 1) % C.length)) = 0
    · rw [if_pos h, if_pos (by rw [h]; rfl)]
      rfl
    · rw [if_neg h, if_neg (fun z => h (by grind))]
      rfl
theorem fnd_mir (C : List Pt) : fnd (C.map mirP) = (fnd C).map mirP := by
  unfold fnd
  rw [unl_mir, List.length_map]
  exact fndN_mir _ _ (Nat.le_refl _)
theorem cyc_mir (C : List Pt) : cyc (C.map mirP) = -cyc C := by
  unfold cyc
  rw [List.length_map]
  have key : ∀ n, n ≤ C.length → sumN (fun k => cr (pt (C.map mirP) k) (pt (C.map mirP) ((k + 1) % C.length))) n = -sumN (fun k => cr (pt C k) (pt C ((k + 1) % C.length))) n := fun n => by
    induction n with
    | zero => intro _; show (0 : Rat) = -0; grind
    | succ n ih =>
      intro hn
      show sumN _ n + _ = -(sumN _ n + _)
      rw [ih (by omega)]
      dsimp only
      rw [pt_map2 _ _ (show n < C.length by omega), pt_map2 _ _ (Nat.mod_lt _ (show 0 < C.length by omega))]
      unfold cr mirP
      dsimp only
      grind
  exact key _ (Nat.le_refl _)
/-! #### a closed chain mirrored -/
section
variable {Ls : List Ln} {A : List PL}
instance : Inhabited Ln := ⟨⟨(0, 0), (0, 0)⟩⟩
def atP (A : List PL) (k : Nat) : PL := A.getD k default
theorem atP_get {k : Nat} (hk : k < A.length) : A[k]? = some (atP A k) := by
  unfold atP
  rw [List.getD_eq_getElem?_getD, List.getElem?_eq_getElem hk]
  rfl
def mirA (A : List PL) : List PL := (List.range A.length).map fun j => (mirP (atP A (A.length - 1 - j)).1, mirL (atP A (prev A.length (A.length - 1 - j))).2)
theorem mirA_len : (mirA A).length = A.length := by unfold mirA; rw [List.length_map, List.length_range]
theorem mirA_get {j : Nat} (hj : j < A.length) : (mirA A)[j]? = some (mirP (atP A (A.length - 1 - j)).1, mirL (atP A (prev A.length (A.length - 1 - j))).2) := by
  unfold mirA
  rw [List.getElem?_map, List.getElem?_range hj]
  rfl
theorem mirA_fst : (mirA A).map Prod.fst = ((A.map Prod.fst).map mirP).reverse := by
  refine List.ext_getElem? fun j => ?_
  by_cases hj : j < A.length
  · rw [List.getElem?_map, mirA_get hj, List.getElem?_reverse (by rw [List.length_map, List.length_map]; exact hj), List.length_map, List.length_map, List.getElem?_map, List.getElem?_map, atP_get (by omega)]
    rfl
  · rw [List.getElem?_eq_none (by rw [List.length_map, mirA_len]; omega), List.getElem?_eq_none (by rw [List.length_reverse, List.length_map, List.length_map]; omega)]
theorem prev_mir {n j : Nat} (h : j < n) : n - 1 - (j + 1) % n = prev n (n - 1 - j) := by
  unfold prev
  by_cases q : j + 1 < n
  · rw [Nat.mod_eq_of_lt q, if_neg (by omega)]
    omega
  · rw [show j + 1 = n by omega, Nat.mod_self, if_pos (by omega)]
    omega
theorem cls_rel (g : ClA A) {k : Nat} (hk : k < A.length) : rel (atP A k) (atP A ((k + 1) % A.length)) := by
  obtain ⟨a, b, h1, h2, h3⟩ := cls_idx g k hk
  rw [atP_get hk] at h1
  rw [atP_get (Nat.mod_lt _ (by omega))] at h2
  cases h1
  cases h2
  exact h3
theorem cls_mir (g : ClA A) (hne : A ≠ []) : ClA (mirA A) := by
  have hl : 0 < A.length := List.length_pos_iff.mpr hne
  refine cls_of (fun z => ?_) fun j hj => ?_
  · have := mirA_len (A := A)
    rw [z] at this
    have : 0 = A.length := this
    omega
  · rw [mirA_len] at hj ⊢
    refine ⟨_, _, mirA_get hj, mirA_get (Nat.mod_lt _ hl), ?_⟩
    rw [prev_mir hj]
    have hk : A.length - 1 - j < A.length := by omega
    generalize A.length - 1 - j = k at hk
    obtain ⟨p1, p2⟩ := prev_next hk
    obtain ⟨p3, p4⟩ := prev_next p1
    have r1 := cls_rel g p1
    have r2 := cls_rel g p3
    rw [p2] at r1
    rw [p4] at r2
    refine ⟨r1.1.mir, ?_⟩
    dsimp only
    rw [crs_mir]
    exact r2.2
theorem wi_mir (w : Wi Ls A) : Wi (Ls.map mirL) (mirA A) := fun b hb => by
  unfold mirA at hb
  obtain ⟨j, hj, rfl⟩ := List.mem_map.mp hb
  have hj := List.mem_range.mp hj
  have hk : A.length - 1 - j < A.length := by omega
  have m1 := List.mem_of_getElem? (atP_get (A := A) hk)
  have m2 := List.mem_of_getElem? (atP_get (A := A) (prev_next hk).1)
  refine ⟨List.mem_map.mpr ⟨_, (w _ m2).1, rfl⟩, fun l hl => ?_⟩
  obtain ⟨m, hm, rfl⟩ := List.mem_map.mp hl
  dsimp only
  rw [ev_mir]
  exact (w _ m1).2 m hm
end

/-! ### a plate's outline in another one's plane, cut by a height: a part -/
/-- a tidy chain begun at its least corner -/
theorem rot_tid {Ls : List Ln} {A : List PL} (h1 : ClA A) (h2 : Wi Ls A) (h3 : 3 ≤ A.length) (h4 : Onc (A.map Prod.fst)) : ∃ B : List PL, rotR (A.map Prod.fst) = B.map Prod.fst ∧ Tid Ls B ∧ B.length = A.length ∧ ringA (B.map Prod.fst) = ringA (A.map Prod.fst) := by
  have hne : A ≠ [] := fun z => by rw [z] at h3; exact absurd h3 (by decide)
  obtain ⟨X, a, Y, rfl, hv⟩ := least_split A hne
  have t : a :: (Y ++ X) = (a :: Y) ++ X := rfl
  have e3 : ClA (a :: (Y ++ X)) := by rw [t]; exact cls_turn h1
  have e4 : Wi Ls (a :: (Y ++ X)) := by rw [t]; exact wi_turn h2
  have eM : (X ++ a :: Y).map Prod.fst = X.map Prod.fst ++ a.1 :: Y.map Prod.fst := by rw [List.map_append, List.map_cons]
  have eA : (a :: (Y ++ X)).map Prod.fst = a.1 :: (Y.map Prod.fst ++ X.map Prod.fst) := by rw [List.map_cons, List.map_append]
  have e5 : ∀ y ∈ (a :: (Y ++ X)).map Prod.fst, leX a.1 y := fun y hy => by
    obtain ⟨d, hd, rfl⟩ := List.mem_map.mp hy
    refine hv d ?_
    rw [t] at hd
    rcases List.mem_append.mp hd with h | h
    · exact List.mem_append_right _ h
    · exact List.mem_append_left _ h
  have hO : Onc ((a :: (Y ++ X)).map Prod.fst) := by
    rw [eM] at h4
    rw [eA]
    exact h4.turn
  have once := once_tail (least_once e3 e5 fun c => hO.n c)
  have l3 : 3 ≤ (a.1 :: (Y.map Prod.fst ++ X.map Prod.fst)).length := by
    simp only [List.length_append, List.length_cons, List.length_map] at h3 ⊢
    omega
  have hon : ∀ y ∈ Y.map Prod.fst ++ X.map Prod.fst, y ≠ a.1 := fun y hy => once y (by rw [List.map_append]; exact hy)
  have hle : ∀ y ∈ a.1 :: (Y.map Prod.fst ++ X.map Prod.fst), leX a.1 y := fun y hy => e5 y (by rw [eA]; exact hy)
  refine ⟨a :: (Y ++ X), by rw [eM, rotR_split l3 hle hon, eA], ⟨e3, e4, ?_, ⟨a.1, _, eA, fun y hy => ⟨hle y (List.mem_cons_of_mem _ hy), hon y hy⟩⟩, hO⟩, ?_, ?_⟩
  · simp only [List.length_append, List.length_cons] at h3 ⊢
    omega
  · simp only [List.length_append, List.length_cons]
    omega
  · rw [eA, eM]
    exact (ringA_turn (X.map Prod.fst) (a.1 :: Y.map Prod.fst)).symm
/-- a chain of turns has a share -/
theorem cls_area {Ls : List Ln} {A : List PL} (h1 : ClA A) (h2 : Wi Ls A) (h3 : 3 ≤ A.length) (h4 : Onc (A.map Prod.fst)) : 0 < ringA (A.map Prod.fst) := by
  have hne : A ≠ [] := fun z => by rw [z] at h3; exact absurd h3 (by decide)
  have g := (cls_blg h1 h2 h4 hne).ring
  have t := cls_turns h1 0 (by omega)
  rw [Nat.mod_eq_of_lt (show 0 + 1 < A.length by omega), Nat.mod_eq_of_lt (show 0 + 1 + 1 < A.length by omega)] at t
  have hl : 3 ≤ (A.map Prod.fst).length := by rw [List.length_map]; exact h3
  generalize A.map Prod.fst = F at g t hl
  match F, hl with
  | o :: p :: q :: r, _ =>
    have t : 0 < turnR o p q := t
    have hL := g.leftE
    have hc := g.left o List.mem_cons_self
    have nn := path_nn (P := fun u => ∀ l ∈ linesOf (o :: p :: q :: r), 0 ≤ ev l u) hc (sides o (q :: r)) q o (sides_path r o q) fun e he => hL e (List.mem_cons_of_mem _ (List.mem_cons_of_mem _ he))
    rw [cr_self] at nn
    rw [ringA_path]
    show 0 < cr o p + (cr p q + areaE (sides o (q :: r)))
    rw [cr_three, cr_turn o q] at t
    grind
/-- the places that turn of a wide ring, as they stand -/
theorem fnd_wide {Ls : List Ln} {K : List Pt} {x : Pt} (g : Ring Ls K) (tK : Two K) (hx : ∀ l ∈ Ls, 0 < ev l x) (ho : Onc K) : ∃ A : List PL, fnd K = A.map Prod.fst ∧ ClA A ∧ Wi Ls A ∧ 3 ≤ A.length ∧ Onc (A.map Prod.fst) := by
  obtain ⟨A, hne, hA, hin, b, M, e, hM, eA⟩ := tdy_ring g tK hx
  have ef := fnd_fndA (two_len tK) e
  rw [← eA] at ef
  refine ⟨A, ef, hA, fun c hc => ⟨(hin c hc).2, fun l hl => g.left _ (hin c hc).1 l hl⟩, tdy_three (cls_tdy hA) hne, ?_⟩
  rw [eA]
  refine Onc.sub ?_ (fnd_sub _ _ _)
  rw [e]
  exact ho.unlR
/-- as the program makes it tidy: turned about where its share is below 0 -/
def tidP (ps : List Pt) : List Pt := rotR (if cyc (fnd ps) < 0 then (fnd ps).reverse else fnd ps)
def parC (m u v : Pt) : List Pt := [m, (m.1 + u.1, m.2 + u.2), (m.1 + u.1 + v.1, m.2 + u.2 + v.2), (m.1 + v.1, m.2 + v.2)]
theorem par_blg {m u v : Pt} (h : 0 < crs u v) : Blg (parC m u v) := by
  obtain ⟨m1, m2⟩ := m
  obtain ⟨u1, u2⟩ := u
  obtain ⟨v1, v2⟩ := v
  unfold parC crs at *
  dsimp only at h ⊢
  have hk : ∀ k, k < [(m1, m2), (m1 + u1, m2 + u2), (m1 + u1 + v1, m2 + u2 + v2), (m1 + v1, m2 + v2)].length → turnR (pt [(m1, m2), (m1 + u1, m2 + u2), (m1 + u1 + v1, m2 + u2 + v2), (m1 + v1, m2 + v2)] k) (pt [(m1, m2), (m1 + u1, m2 + u2), (m1 + u1 + v1, m2 + u2 + v2), (m1 + v1, m2 + v2)] ((k + 1) % [(m1, m2), (m1 + u1, m2 + u2), (m1 + u1 + v1, m2 + u2 + v2), (m1 + v1, m2 + v2)].length)) (pt [(m1, m2), (m1 + u1, m2 + u2), (m1 + u1 + v1, m2 + u2 + v2), (m1 + v1, m2 + v2)] (((k + 1) % [(m1, m2), (m1 + u1, m2 + u2), (m1 + u1 + v1, m2 + u2 + v2), (m1 + v1, m2 + v2)].length + 1) % [(m1, m2), (m1 + u1, m2 + u2), (m1 + u1 + v1, m2 + u2 + v2), (m1 + v1, m2 + v2)].length)) ≠ 0 := fun k hk => by
    have hk : k < 4 := hk
    rw [show [(m1, m2), (m1 + u1, m2 + u2), (m1 + u1 + v1, m2 + u2 + v2), (m1 + v1, m2 + v2)].length = 4 from rfl]
    match k, hk with
    | 0, _ => show turnR (m1, m2) (m1 + u1, m2 + u2) (m1 + u1 + v1, m2 + u2 + v2) ≠ 0; unfold turnR; dsimp only; grind
    | 1, _ => show turnR (m1 + u1, m2 + u2) (m1 + u1 + v1, m2 + u2 + v2) (m1 + v1, m2 + v2) ≠ 0; unfold turnR; dsimp only; grind
    | 2, _ => show turnR (m1 + u1 + v1, m2 + u2 + v2) (m1 + v1, m2 + v2) (m1, m2) ≠ 0; unfold turnR; dsimp only; grind
    | 3, _ => show turnR (m1 + v1, m2 + v2) (m1, m2) (m1 + u1, m2 + u2) ≠ 0; unfold turnR; dsimp only; grind
  refine ⟨fun e he c hc => ?_, meet_turn hk, fun f => ?_, ne_turn hk, by simp⟩
  · have he : e ∈ [((m1, m2), (m1 + u1, m2 + u2)), ((m1 + u1, m2 + u2), (m1 + u1 + v1, m2 + u2 + v2)), ((m1 + u1 + v1, m2 + u2 + v2), (m1 + v1, m2 + v2)), ((m1 + v1, m2 + v2), (m1, m2))] := he
    simp only [List.mem_cons, List.not_mem_nil, or_false] at he hc
    unfold turnR
    rcases he with rfl | rfl | rfl | rfl <;> rcases hc with rfl | rfl | rfl | rfl <;> (dsimp only; grind)
  · show upF f (m1 + v1, m2 + v2) (m1, m2) + (upF f (m1, m2) (m1 + u1, m2 + u2) + (upF f (m1 + u1, m2 + u2) (m1 + u1 + v1, m2 + u2 + v2) + (upF f (m1 + u1 + v1, m2 + u2 + v2) (m1 + v1, m2 + v2) + 0))) ≤ 1
    have par : ev f (m1, m2) + ev f (m1 + u1 + v1, m2 + u2 + v2) = ev f (m1 + u1, m2 + u2) + ev f (m1 + v1, m2 + v2) := by
      unfold ev
      dsimp only
      grind
    unfold upF
    generalize ev f (m1, m2) = a at par ⊢
    generalize ev f (m1 + u1, m2 + u2) = b at par ⊢
    generalize ev f (m1 + u1 + v1, m2 + u2 + v2) = c at par ⊢
    generalize ev f (m1 + v1, m2 + v2) = d at par ⊢
    have ha' : (0 ≤ a) = ¬ a < 0 := propext ⟨fun h => by grind, fun h => by grind⟩
    have hb' : (0 ≤ b) = ¬ b < 0 := propext ⟨fun h => by grind, fun h => by grind⟩
    have hc' : (0 ≤ c) = ¬ c < 0 := propext ⟨fun h => by grind, fun h => by grind⟩
    have hd' : (0 ≤ d) = ¬ d < 0 := propext ⟨fun h => by grind, fun h => by grind⟩
    by_cases ha : a < 0 <;> by_cases hb : b < 0 <;> by_cases hc : c < 0 <;> by_cases hd : d < 0
    all_goals first
      | (exfalso; grind)
      | (simp [ha', hb', hc', hd', ha, hb, hc, hd]; done)
/-- how far along the two sides, times the whole -/
def aP (m v x : Pt) : Rat := (x.1 - m.1) * v.2 - (x.2 - m.2) * v.1
def bP (m u x : Pt) : Rat := u.1 * (x.2 - m.2) - u.2 * (x.1 - m.1)
theorem par_lines (m u v : Pt) (l : Ln) (hl : l ∈ linesOf (parC m u v)) : (∀ x, ev l x = bP m u x) ∨ (∀ x, ev l x = crs u v - aP m v x) ∨ (∀ x, ev l x = crs u v - bP m u x) ∨ (∀ x, ev l x = aP m v x) := by
  obtain ⟨e, he, rfl⟩ := mem_lines hl
  obtain ⟨m1, m2⟩ := m
  obtain ⟨u1, u2⟩ := u
  obtain ⟨v1, v2⟩ := v
  have he : e ∈ [((m1, m2), (m1 + u1, m2 + u2)), ((m1 + u1, m2 + u2), (m1 + u1 + v1, m2 + u2 + v2)), ((m1 + u1 + v1, m2 + u2 + v2), (m1 + v1, m2 + v2)), ((m1 + v1, m2 + v2), (m1, m2))] := he
  simp only [List.mem_cons, List.not_mem_nil, or_false] at he
  rcases he with rfl | rfl | rfl | rfl
  · exact .inl fun x => by unfold ev lnOf bP; dsimp only; grind
  · exact .inr (.inl fun x => by unfold ev lnOf aP crs; dsimp only; grind)
  · exact .inr (.inr (.inl fun x => by unfold ev lnOf bP crs; dsimp only; grind))
  · exact .inr (.inr (.inr fun x => by unfold ev lnOf aP; dsimp only; grind))
theorem par_mem (m u v : Pt) : ∃ l1 ∈ linesOf (parC m u v), ∃ l2 ∈ linesOf (parC m u v), ∃ l3 ∈ linesOf (parC m u v), ∃ l4 ∈ linesOf (parC m u v), (∀ x, ev l1 x = bP m u x) ∧ (∀ x, ev l2 x = crs u v - aP m v x) ∧ (∀ x, ev l3 x = crs u v - bP m u x) ∧ (∀ x, ev l4 x = aP m v x) := by
  obtain ⟨m1, m2⟩ := m
  obtain ⟨u1, u2⟩ := u
  obtain ⟨v1, v2⟩ := v
  have hl : linesOf (parC (m1, m2) (u1, u2) (v1, v2)) = [lnOf (m1, m2) (m1 + u1, m2 + u2), lnOf (m1 + u1, m2 + u2) (m1 + u1 + v1, m2 + u2 + v2), lnOf (m1 + u1 + v1, m2 + u2 + v2) (m1 + v1, m2 + v2), lnOf (m1 + v1, m2 + v2) (m1, m2)] := rfl
  rw [hl]
  refine ⟨_, .head _, _, .tail _ (.head _), _, .tail _ (.tail _ (.head _)), _, .tail _ (.tail _ (.tail _ (.head _))), fun x => ?_, fun x => ?_, fun x => ?_, fun x => ?_⟩
  · unfold ev lnOf bP; dsimp only; grind
  · unfold ev lnOf aP crs; dsimp only; grind
  · unfold ev lnOf bP crs; dsimp only; grind
  · unfold ev lnOf aP; dsimp only; grind
/-- a height over the plane -/
structure Hgt where
  α : Rat
  β : Rat
  γ : Rat
def Hgt.at (h : Hgt) (x : Pt) : Rat := h.α * x.1 + h.β * x.2 + h.γ
def Hgt.mir (h : Hgt) : Hgt := ⟨h.β, h.α, h.γ⟩
theorem Hgt.at_mir (h : Hgt) (x : Pt) : h.mir.at (mirP x) = h.at x := by
  unfold Hgt.at Hgt.mir mirP
  dsimp only
  grind
theorem Hgt.at_mir' (h : Hgt) (x : Pt) : h.at (mirP x) = h.mir.at x := by
  unfold Hgt.at Hgt.mir mirP
  dsimp only
  grind
theorem Hgt.line (h : Hgt) (hn : ¬(h.α = 0 ∧ h.β = 0)) : ∃ l : Ln, ¬(l.d.1 = 0 ∧ l.d.2 = 0) ∧ ∀ x, ev l x = h.at x := by
  by_cases k : h.α = 0
  · have k2 : h.β ≠ 0 := fun z => hn ⟨k, z⟩
    refine ⟨⟨(0, -h.γ / h.β), (h.β, -h.α)⟩, fun z => k2 z.1, fun x => ?_⟩
    unfold ev Hgt.at
    dsimp only
    grind
  · refine ⟨⟨(-h.γ / h.α, 0), (h.β, -h.α)⟩, fun z => k (by have := z.2; dsimp only at this; grind), fun x => ?_⟩
    unfold ev Hgt.at
    dsimp only
    grind
/-- the lines of a shade: what is left of all of them -/
structure ShL (a b : Pt → Rat) (h : Hgt) (Ls : List Ln) : Prop where
  nd : ∀ l ∈ Ls, ¬(l.d.1 = 0 ∧ l.d.2 = 0)
  w : ∀ x, (∀ l ∈ Ls, 0 ≤ ev l x) ↔ (0 ≤ a x ∧ a x ≤ 1 ∧ 0 ≤ b x ∧ b x ≤ 1 ∧ 0 ≤ h.at x)
  s : ∀ x, (∀ l ∈ Ls, 0 < ev l x) ↔ (0 < a x ∧ a x < 1 ∧ 0 < b x ∧ b x < 1 ∧ 0 < h.at x)
  z : ∀ l ∈ Ls, ∃ κ : Rat, κ ≠ 0 ∧ ((∀ x, ev l x = κ * a x) ∨ (∀ x, ev l x = κ * (1 - a x)) ∨ (∀ x, ev l x = κ * b x) ∨ (∀ x, ev l x = κ * (1 - b x)) ∨ ∀ x, ev l x = κ * h.at x)
  n : Ls.length ≤ 5
theorem div_nn {a d : Rat} (hd : 0 < d) : (0 ≤ a / d ↔ 0 ≤ a) ∧ (a / d ≤ 1 ↔ a ≤ d) ∧ (0 < a / d ↔ 0 < a) ∧ (a / d < 1 ↔ a < d) := by
  have e : a = a / d * d := by grind
  generalize a / d = q at e ⊢
  subst e
  have pos : ∀ z : Rat, (0 ≤ z * d ↔ 0 ≤ z) ∧ (0 < z * d ↔ 0 < z) := fun z => by
    refine ⟨⟨fun h => Classical.byContradiction fun k => ?_, fun h => Rat.mul_nonneg h (by grind)⟩, ⟨fun h => Classical.byContradiction fun k => ?_, fun h => Rat.mul_pos h hd⟩⟩
    · have := Rat.mul_pos (show 0 < -z by grind) hd
      grind
    · have := Rat.mul_nonneg (show 0 ≤ -z by grind) (show 0 ≤ d by grind)
      grind
  have p1 := pos q
  have p2 := pos (1 - q)
  refine ⟨p1.1.symm, ⟨fun h => ?_, fun h => ?_⟩, p1.2.symm, ⟨fun h => ?_, fun h => ?_⟩⟩
  · have := p2.1.mpr (by grind); grind
  · have := p2.1.mp (by grind); grind
  · have := p2.2.mpr (by grind); grind
  · have := p2.2.mp (by grind); grind
/-- near a corner that is above, within -/
theorem par_inner {m u v : Pt} {h : Hgt} (hd : 0 < crs u v) (hc : ∃ c ∈ parC m u v, 0 < h.at c) : ∃ x, (0 < aP m v x ∧ aP m v x < crs u v ∧ 0 < bP m u x ∧ bP m u x < crs u v) ∧ 0 < h.at x := by
  obtain ⟨c, hc, h0⟩ := hc
  obtain ⟨m1, m2⟩ := m
  obtain ⟨u1, u2⟩ := u
  obtain ⟨v1, v2⟩ := v
  have mid : ∀ ε : Rat, 0 < ε → ε < 1 → (0 < aP (m1, m2) (v1, v2) (c.1 + ε * (m1 + u1 / 2 + v1 / 2 - c.1), c.2 + ε * (m2 + u2 / 2 + v2 / 2 - c.2)) ∧ aP (m1, m2) (v1, v2) (c.1 + ε * (m1 + u1 / 2 + v1 / 2 - c.1), c.2 + ε * (m2 + u2 / 2 + v2 / 2 - c.2)) < crs (u1, u2) (v1, v2) ∧ 0 < bP (m1, m2) (u1, u2) (c.1 + ε * (m1 + u1 / 2 + v1 / 2 - c.1), c.2 + ε * (m2 + u2 / 2 + v2 / 2 - c.2)) ∧ bP (m1, m2) (u1, u2) (c.1 + ε * (m1 + u1 / 2 + v1 / 2 - c.1), c.2 + ε * (m2 + u2 / 2 + v2 / 2 - c.2)) < crs (u1, u2) (v1, v2)) := fun ε e0 e1 => by
    have k1 := Rat.mul_pos e0 hd
    have k2 := Rat.mul_pos (show 0 < 1 - ε by grind) hd
    have hc : c ∈ [(m1, m2), (m1 + u1, m2 + u2), (m1 + u1 + v1, m2 + u2 + v2), (m1 + v1, m2 + v2)] := hc
    simp only [List.mem_cons, List.not_mem_nil, or_false] at hc
    unfold crs at k1 k2 ⊢
    unfold aP bP
    dsimp only at k1 k2 ⊢
    rcases hc with rfl | rfl | rfl | rfl <;> (dsimp only; refine ⟨?_, ?_, ?_, ?_⟩ <;> grind)
  by_cases k : h.at (m1 + u1 / 2 + v1 / 2, m2 + u2 / 2 + v2 / 2) < h.at c
  · have hp : 0 < 2 * (h.at c - h.at (m1 + u1 / 2 + v1 / 2, m2 + u2 / 2 + v2 / 2)) + 2 * h.at c := by grind
    have q := div_nn (a := h.at c) hp
    have e0 := q.2.2.1.mpr h0
    have e1 := q.2.2.2.mpr (by grind)
    refine ⟨_, mid _ e0 e1, ?_⟩
    have ee : h.at c / (2 * (h.at c - h.at (m1 + u1 / 2 + v1 / 2, m2 + u2 / 2 + v2 / 2)) + 2 * h.at c) * (2 * (h.at c - h.at (m1 + u1 / 2 + v1 / 2, m2 + u2 / 2 + v2 / 2)) + 2 * h.at c) = h.at c := by grind
    generalize h.at c / (2 * (h.at c - h.at (m1 + u1 / 2 + v1 / 2, m2 + u2 / 2 + v2 / 2)) + 2 * h.at c) = ε at e0 e1 ee ⊢
    have hx : h.at (c.1 + ε * (m1 + u1 / 2 + v1 / 2 - c.1), c.2 + ε * (m2 + u2 / 2 + v2 / 2 - c.2)) = h.at c - ε * (h.at c - h.at (m1 + u1 / 2 + v1 / 2, m2 + u2 / 2 + v2 / 2)) := by
      unfold Hgt.at
      dsimp only
      grind
    rw [hx]
    generalize h.at (m1 + u1 / 2 + v1 / 2, m2 + u2 / 2 + v2 / 2) = g at *
    have := Rat.mul_pos e0 (show 0 < h.at c by grind)
    grind
  · refine ⟨_, mid (1 / 2) (by decide +kernel) (by decide +kernel), ?_⟩
    have hx : h.at (c.1 + 1 / 2 * (m1 + u1 / 2 + v1 / 2 - c.1), c.2 + 1 / 2 * (m2 + u2 / 2 + v2 / 2 - c.2)) = 1 / 2 * h.at c + 1 / 2 * h.at (m1 + u1 / 2 + v1 / 2, m2 + u2 / 2 + v2 / 2) := by
      unfold Hgt.at
      dsimp only
      grind
    rw [hx]
    grind

/-! ### the shade: a tidy part, whichever way about it is drawn -/
theorem pt_range (C : List Pt) : (List.range C.length).map (pt C) = C := by
  refine List.ext_getElem? fun k => ?_
  by_cases hk : k < C.length
  · rw [List.getElem?_map, List.getElem?_range hk, List.getElem?_eq_getElem hk]
    show some (pt C k) = _
    unfold pt
    rw [List.getD_eq_getElem?_getD, List.getElem?_eq_getElem hk]
    rfl
  · rw [List.getElem?_eq_none (by rw [List.length_map, List.length_range]; omega), List.getElem?_eq_none (by omega)]
theorem flat_one {α β : Type} (f : α → β) : ∀ L : List α, (L.flatMap fun x => [f x]) = L.map f
  | [] => rfl
  | x :: r => by
    rw [List.flatMap_cons, flat_one f r]
    rfl
theorem kept_all {C : List Pt} {h : Pt → Rat} (hh : ∀ p ∈ C, 0 ≤ h p) : kept C h = C := by
  unfold kept
  rw [keptR_range]
  have e : (List.range C.length).flatMap (keepAt C h) = (List.range C.length).flatMap fun k => [pt C k] := flat_ext _ fun k hk => by
    have hk := List.mem_range.mp hk
    have a := hh _ (pt_mem hk)
    have b := hh _ (pt_mem (ps := C) (Nat.mod_lt (k + 1) (show 0 < C.length by omega)))
    have c := Rat.mul_nonneg a b
    unfold keepAt
    rw [if_neg (by grind), if_neg (by grind)]
    rfl
  rw [e, flat_one, pt_range]
section
variable {m u v : Pt} {h : Hgt}
theorem par_w (x : Pt) (hd : 0 < crs u v) : ((∀ l ∈ linesOf (parC m u v), 0 ≤ ev l x) ↔ (0 ≤ aP m v x / crs u v ∧ aP m v x / crs u v ≤ 1 ∧ 0 ≤ bP m u x / crs u v ∧ bP m u x / crs u v ≤ 1)) ∧ ((∀ l ∈ linesOf (parC m u v), 0 < ev l x) ↔ (0 < aP m v x / crs u v ∧ aP m v x / crs u v < 1 ∧ 0 < bP m u x / crs u v ∧ bP m u x / crs u v < 1)) := by
  obtain ⟨a1, a2, a3, a4⟩ := div_nn (a := aP m v x) hd
  obtain ⟨b1, b2, b3, b4⟩ := div_nn (a := bP m u x) hd
  obtain ⟨l1, h1, l2, h2, l3, h3, l4, h4, e1, e2, e3, e4⟩ := par_mem m u v
  rw [a1, a2, a3, a4, b1, b2, b3, b4]
  constructor
  · constructor
    · intro k
      have k1 := k l1 h1
      have k2 := k l2 h2
      have k3 := k l3 h3
      have k4 := k l4 h4
      rw [e1] at k1
      rw [e2] at k2
      rw [e3] at k3
      rw [e4] at k4
      exact ⟨k4, by grind, k1, by grind⟩
    · intro ⟨k1, k2, k3, k4⟩ l hl
      rcases par_lines m u v l hl with e | e | e | e <;> rw [e] <;> grind
  · constructor
    · intro k
      have k1 := k l1 h1
      have k2 := k l2 h2
      have k3 := k l3 h3
      have k4 := k l4 h4
      rw [e1] at k1
      rw [e2] at k2
      rw [e3] at k3
      rw [e4] at k4
      exact ⟨k4, by grind, k1, by grind⟩
    · intro ⟨k1, k2, k3, k4⟩ l hl
      rcases par_lines m u v l hl with e | e | e | e <;> rw [e] <;> grind
theorem par_z (hd : 0 < crs u v) (l : Ln) (hl : l ∈ linesOf (parC m u v)) : ∃ κ : Rat, κ ≠ 0 ∧ ((∀ x, ev l x = κ * (aP m v x / crs u v)) ∨ (∀ x, ev l x = κ * (1 - aP m v x / crs u v)) ∨ (∀ x, ev l x = κ * (bP m u x / crs u v)) ∨ (∀ x, ev l x = κ * (1 - bP m u x / crs u v)) ∨ ∀ x, ev l x = κ * h.at x) := by
  have hd0 : crs u v ≠ 0 := by grind
  refine ⟨crs u v, hd0, ?_⟩
  rcases par_lines m u v l hl with e | e | e | e
  · exact .inr (.inr (.inl fun x => by rw [e]; grind))
  · exact .inr (.inl fun x => by rw [e]; grind)
  · exact .inr (.inr (.inr (.inl fun x => by rw [e]; grind)))
  · exact .inl fun x => by rw [e]; grind
theorem shade_pos (hd : 0 < crs u v) (hc : ∃ c ∈ parC m u v, 0 < h.at c) : ∃ (A : List PL) (Ls : List Ln), fnd (kept (parC m u v) h.at) = A.map Prod.fst ∧ ClA A ∧ Wi Ls A ∧ 3 ≤ A.length ∧ Onc (A.map Prod.fst) ∧ ShL (fun x => aP m v x / crs u v) (fun x => bP m u x / crs u v) h Ls ∧ Ring Ls (kept (parC m u v) h.at) ∧ (kept (parC m u v) h.at).length ≤ 6 := by
  have hB := par_blg (m := m) hd
  obtain ⟨x, ⟨x1, x2, x3, x4⟩, hx⟩ := par_inner hd hc
  have hd0 : crs u v ≠ 0 := by grind
  have in1 : ∀ l ∈ linesOf (parC m u v), 0 < ev l x := fun l hl => by
    rcases par_lines m u v l hl with e | e | e | e <;> rw [e] <;> grind
  by_cases k : h.α = 0 ∧ h.β = 0
  · have hk : ∀ y, h.at y = h.γ := fun y => by
      unfold Hgt.at
      rw [k.1, k.2]
      grind
    have hp : 0 < h.γ := by rw [← hk x]; exact hx
    have ek : kept (parC m u v) h.at = parC m u v := kept_all fun p _ => by rw [hk]; grind
    rw [ek]
    obtain ⟨A, e1, e2, e3, e4, e5⟩ := fnd_wide hB.ring hB.two in1 hB.onc
    refine ⟨A, _, e1, e2, e3, e4, e5, ⟨hB.nd, fun y => ?_, fun y => ?_, par_z hd, by show 4 ≤ 5; decide⟩, hB.ring, by show 4 ≤ 6; decide⟩
    · rw [(par_w y hd).1, hk]
      exact ⟨fun ⟨a, b, c, d⟩ => ⟨a, b, c, d, by grind⟩, fun ⟨a, b, c, d, _⟩ => ⟨a, b, c, d⟩⟩
    · rw [(par_w y hd).2, hk]
      exact ⟨fun ⟨a, b, c, d⟩ => ⟨a, b, c, d, hp⟩, fun ⟨a, b, c, d, _⟩ => ⟨a, b, c, d⟩⟩
  · obtain ⟨l, hl, el⟩ := h.line k
    have ef : h.at = ev l := funext fun y => (el y).symm
    have ek : kept (parC m u v) h.at = cut l (parC m u v) := by rw [ef, kept_cut]
    rw [ek]
    have hxl : 0 < ev l x := by rw [el]; exact hx
    have in2 : ∀ l' ∈ l :: linesOf (parC m u v), 0 < ev l' x := fun l' h' => (List.mem_cons.mp h').elim (fun e => by rw [e]; exact hxl) (in1 l')
    have g := ring_cut (h := l) hB.ring
    obtain ⟨A, e1, e2, e3, e4, e5⟩ := fnd_wide g (two_cut hB.ring hB.two in1 hxl) in2 (hB.onc.cut l)
    refine ⟨A, _, e1, e2, e3, e4, e5, ⟨fun l' h' => (List.mem_cons.mp h').elim (fun e => by rw [e]; exact hl) (hB.nd l'), fun y => ?_, fun y => ?_, fun l' h' => ?_, by show 5 ≤ 5; decide⟩, g, ?_⟩
    · rw [List.forall_mem_cons, (par_w y hd).1, el]
      exact ⟨fun ⟨e, a, b, c, d⟩ => ⟨a, b, c, d, e⟩, fun ⟨a, b, c, d, e⟩ => ⟨e, a, b, c, d⟩⟩
    · rw [List.forall_mem_cons, (par_w y hd).2, el]
      exact ⟨fun ⟨e, a, b, c, d⟩ => ⟨a, b, c, d, e⟩, fun ⟨a, b, c, d, e⟩ => ⟨e, a, b, c, d⟩⟩
    · rcases List.mem_cons.mp h' with rfl | h'
      · exact ⟨1, by decide, .inr (.inr (.inr (.inr fun y => by rw [el]; grind)))⟩
      · exact par_z hd l' h'
    · have := cut_len hB.onc l
      have e4 : (parC m u v).length = 4 := rfl
      omega
/-- what is told of a shade -/
structure Shade (a b : Pt → Rat) (h : Hgt) (R : List Pt) (Ls : List Ln) (A : List PL) : Prop where
  e : tidP R = A.map Prod.fst
  tid : Tid Ls A
  sh : ShL a b h Ls
  len : R.length ≤ 6
  al : A.length ≤ 6
  fl : (fnd R).length ≤ 6
  pts : ∀ p ∈ R, Meet Ls p
theorem shade (hd : crs u v ≠ 0) (hc : ∃ c ∈ parC m u v, 0 < h.at c) : ∃ Ls A, Shade (fun x => aP m v x / crs u v) (fun x => bP m u x / crs u v) h (kept (parC m u v) h.at) Ls A := by
  have fl : ∀ R : List Pt, R.length ≤ 6 → (fnd R).length ≤ 6 := fun R hR => Nat.le_trans (Nat.le_trans (fndN_len _) unl_len) hR
  by_cases k : 0 < crs u v
  · obtain ⟨A, Ls, e1, e2, e3, e4, e5, e6, e7, e8⟩ := shade_pos k hc
    obtain ⟨B, r1, r2, r3, r4⟩ := rot_tid e2 e3 e4 e5
    have hp := cls_area e2 e3 e4 e5
    have f6 := fl _ e8
    refine ⟨Ls, B, ?_, r2, e6, e8, ?_, f6, e7.meet⟩
    · unfold tidP
      rw [e1, cyc_ringA, if_neg (by grind)]
      exact r1
    · rw [r3, ← List.length_map (f := Prod.fst) (as := A), ← e1]
      exact f6
  · have km : 0 < crs (mirP u) (mirP v) := by
      unfold crs mirP at *
      dsimp only at *
      grind
    have em : crs (mirP u) (mirP v) = -crs u v := by
      unfold crs mirP
      dsimp only
      grind
    have ep : parC m u v = (parC (mirP m) (mirP u) (mirP v)).map mirP := rfl
    have hc' : ∃ c ∈ parC (mirP m) (mirP u) (mirP v), 0 < h.mir.at c := by
      obtain ⟨c, hc, h0⟩ := hc
      rw [ep] at hc
      obtain ⟨d, hd, rfl⟩ := List.mem_map.mp hc
      exact ⟨d, hd, by rw [← Hgt.at_mir']; exact h0⟩
    obtain ⟨A, Ls, e1, e2, e3, e4, e5, e6, e7, e8⟩ := shade_pos km hc'
    have ek : kept (parC m u v) h.at = (kept (parC (mirP m) (mirP u) (mirP v)) h.mir.at).map mirP := by
      rw [ep, kept_mir]
      congr 2
      exact funext fun x => h.at_mir' x
    have hp := cls_area e2 e3 e4 e5
    have hne : A ≠ [] := fun z => by rw [z] at e4; exact absurd e4 (by decide)
    obtain ⟨B, r1, r2, r3, r4⟩ := rot_tid (cls_mir e2 hne) (wi_mir e3) (by rw [mirA_len]; exact e4) (by rw [mirA_fst]; exact e5.mir)
    have ea : ∀ x, aP (mirP m) (mirP v) (mirP x) / crs (mirP u) (mirP v) = aP m v x / crs u v := fun x => by
      have : aP (mirP m) (mirP v) (mirP x) = -aP m v x := by
        unfold aP mirP
        dsimp only
        grind
      rw [this, em]
      grind
    have eb : ∀ x, bP (mirP m) (mirP u) (mirP x) / crs (mirP u) (mirP v) = bP m u x / crs u v := fun x => by
      have : bP (mirP m) (mirP u) (mirP x) = -bP m u x := by
        unfold bP mirP
        dsimp only
        grind
      rw [this, em]
      grind
    have f6 := fl _ (show (kept (parC m u v) h.at).length ≤ 6 by rw [ek, List.length_map]; exact e8)
    refine ⟨Ls.map mirL, B, ?_, r2, ⟨fun l hl => ?_, fun x => ?_, fun x => ?_, fun l hl => ?_, by rw [List.length_map]; exact e6.n⟩, by rw [ek, List.length_map]; exact e8, ?_, f6, fun p hp => ?_⟩
    · unfold tidP
      rw [ek, fnd_mir, e1, cyc_mir, cyc_ringA, if_pos (by grind), ← mirA_fst]
      exact r1
    · obtain ⟨n, hn, rfl⟩ := List.mem_map.mp hl
      intro ⟨z1, z2⟩
      refine e6.nd n hn ⟨?_, ?_⟩
      · unfold mirL at z2
        dsimp only at z2
        grind
      · unfold mirL at z1
        dsimp only at z1
        grind
    · have := e6.w (mirP x)
      rw [ea, eb, Hgt.at_mir] at this
      rw [← this]
      constructor
      · intro q l hl
        rw [ev_mir']
        exact q _ (List.mem_map.mpr ⟨l, hl, rfl⟩)
      · intro q l hl
        obtain ⟨n, hn, rfl⟩ := List.mem_map.mp hl
        rw [← ev_mir']
        exact q n hn
    · have := e6.s (mirP x)
      rw [ea, eb, Hgt.at_mir] at this
      rw [← this]
      constructor
      · intro q l hl
        rw [ev_mir']
        exact q _ (List.mem_map.mpr ⟨l, hl, rfl⟩)
      · intro q l hl
        obtain ⟨n, hn, rfl⟩ := List.mem_map.mp hl
        rw [← ev_mir']
        exact q n hn
    · obtain ⟨n, hn, rfl⟩ := List.mem_map.mp hl
      obtain ⟨κ, hκ, q⟩ := e6.z n hn
      refine ⟨κ, hκ, ?_⟩
      rcases q with q | q | q | q | q
      · exact .inl fun x => by rw [← ev_mir', q, ea]
      · exact .inr (.inl fun x => by rw [← ev_mir', q, ea])
      · exact .inr (.inr (.inl fun x => by rw [← ev_mir', q, eb]))
      · exact .inr (.inr (.inr (.inl fun x => by rw [← ev_mir', q, eb])))
      · exact .inr (.inr (.inr (.inr fun x => by rw [← ev_mir', q, Hgt.at_mir])))
    · rw [r3, mirA_len, ← List.length_map (f := Prod.fst) (as := A), ← e1]
      exact fl _ e8
    · rw [ek] at hp
      obtain ⟨q, hq, rfl⟩ := List.mem_map.mp hp
      obtain ⟨l, hl, n, hn, h1, h2, h3⟩ := e7.meet q hq
      refine ⟨mirL l, List.mem_map.mpr ⟨l, hl, rfl⟩, mirL n, List.mem_map.mpr ⟨n, hn, rfl⟩, by rw [ev_mir]; exact h1, by rw [ev_mir]; exact h2, ?_⟩
      rw [crs_mir]
      intro z
      refine h3 ?_
      unfold crs at z ⊢
      grind
end

/-! ### a part cut by another one, with its own lines -/
section
variable {Ls Ms : List Ln} {A : List PL} {O : List Pt}
theorem Tid.ring (h : Tid Ls A) : Ring Ls (A.map Prod.fst) := by
  refine ⟨fun c hc l hl => ?_, fun e he => ?_, fun c hc => ?_⟩
  · obtain ⟨a, ha, rfl⟩ := List.mem_map.mp hc
    exact (h.wi a ha).2 l hl
  · obtain ⟨a, ha, h1, _⟩ := cls_side h.cl he
    exact ⟨a.2, (h.wi a ha).1, h1.1⟩
  · obtain ⟨k, hk, rfl⟩ := pt_of hc
    rw [List.length_map] at hk
    obtain ⟨p1, p2⟩ := prev_next hk
    obtain ⟨a, b, ha, hb, r1, r2⟩ := cls_idx h.cl _ p1
    obtain ⟨b', c', hb', hc', r3, r4⟩ := cls_idx h.cl k hk
    rw [p2] at hb
    rw [hb] at hb'
    cases hb'
    rw [pt_map hb]
    exact ⟨a.2, (h.wi a (List.mem_of_getElem? ha)).1, b.2, (h.wi b (List.mem_of_getElem? hb)).1, r1.1.on, r3.1.1, by grind⟩
/-- strictly left of all sides: strictly left of all lines -/
theorem Tid.strict (h : Tid Ls A) (nd : ∀ l ∈ Ls, ¬(l.d.1 = 0 ∧ l.d.2 = 0)) {y : Pt} (hy : ∀ e ∈ ringS (A.map Prod.fst), 0 < turnR e.1 e.2 y) : ∀ f ∈ Ls, 0 < ev f y := fun f hf => by
  have hs : ∀ a ∈ A, 0 < ev a.2 y := fun a ha => by
    obtain ⟨e, he, h1⟩ := cls_side' h.cl ha
    obtain ⟨t, ht, e2⟩ := h1.turnP y
    have := hy e he
    rw [e2] at this
    refine Classical.byContradiction fun z => ?_
    have := Rat.mul_nonneg (show 0 ≤ t by grind) (show 0 ≤ -ev a.2 y by grind)
    grind
  have g := cls_tdy h.cl
  obtain ⟨v, hv, hm⟩ := least_of (fun a : PL => ev f a.1) A h.ne
  obtain ⟨p, hp, q1, q2⟩ := g.prev v hv
  obtain ⟨x, hx, q3, _⟩ := g.next v hv
  have f1 := hm p hp
  have f2 := hm x hx
  have y1 := hs p hp
  have y2 := hs v hv
  have fv := (h.wi v hv).2 f hf
  have lv := q1.1.on
  obtain ⟨⟨l0, t, ht, a1, a2⟩, hn⟩ := q1
  obtain ⟨⟨m0, s, hs, b1, b2⟩, kn⟩ := q3
  have ht' : t ≠ 0 := fun e => hn (Prod.ext (by rw [a1, e]; grind) (by rw [a2, e]; grind))
  have hs' : s ≠ 0 := fun e => kn (Prod.ext (by rw [b1, e]; grind) (by rw [b2, e]; grind))
  have g1 : 0 ≤ -(f.d.1 * p.2.d.2 - f.d.2 * p.2.d.1) := by
    refine Classical.byContradiction fun z => ?_
    have q := Rat.mul_pos (show 0 < t by grind) (show 0 < f.d.1 * p.2.d.2 - f.d.2 * p.2.d.1 by grind)
    have : ev f v.1 - ev f p.1 = t * (f.d.1 * p.2.d.2 - f.d.2 * p.2.d.1) := by
      unfold ev
      rw [a1, a2]
      grind
    grind
  have g2 : 0 ≤ f.d.1 * v.2.d.2 - f.d.2 * v.2.d.1 := by
    refine Classical.byContradiction fun z => ?_
    have q := Rat.mul_pos (show 0 < s by grind) (show 0 < -(f.d.1 * v.2.d.2 - f.d.2 * v.2.d.1) by grind)
    have : ev f x.1 - ev f v.1 = s * (f.d.1 * v.2.d.2 - f.d.2 * v.2.d.1) := by
      unfold ev
      rw [b1, b2]
      grind
    grind
  have e : crs p.2.d v.2.d * (ev f y - ev f v.1) = ev p.2 y * (f.d.1 * v.2.d.2 - f.d.2 * v.2.d.1) + ev v.2 y * -(f.d.1 * p.2.d.2 - f.d.2 * p.2.d.1) := by
    unfold ev at lv m0 ⊢
    unfold crs
    grind
  have r1 := Rat.mul_nonneg (show 0 ≤ ev p.2 y by grind) g2
  have r2 := Rat.mul_nonneg (show 0 ≤ ev v.2 y by grind) g1
  refine Classical.byContradiction fun z => nd f hf ?_
  have r3 := Rat.mul_nonneg (show 0 ≤ crs p.2.d v.2.d by grind) (show 0 ≤ ev f v.1 - ev f y by grind)
  have z1 : ev p.2 y * (f.d.1 * v.2.d.2 - f.d.2 * v.2.d.1) = 0 := by grind
  have z2 : ev v.2 y * -(f.d.1 * p.2.d.2 - f.d.2 * p.2.d.1) = 0 := by grind
  have w1 := (Rat.mul_eq_zero.mp z1).resolve_left (by grind)
  have w2 := (Rat.mul_eq_zero.mp z2).resolve_left (by grind)
  unfold crs at q2
  have k1 : (p.2.d.1 * v.2.d.2 - p.2.d.2 * v.2.d.1) * f.d.1 = 0 := by grind
  have k2 : (p.2.d.1 * v.2.d.2 - p.2.d.2 * v.2.d.1) * f.d.2 = 0 := by grind
  exact ⟨(Rat.mul_eq_zero.mp k1).resolve_left (by grind), (Rat.mul_eq_zero.mp k2).resolve_left (by grind)⟩
structure Cut (Ls : List Ln) (A : List PL) (O : List Pt) (B : List PL) : Prop where
  e : bothP (A.map Prod.fst) O = B.map Prod.fst
  tid : Tid ((linesOf O).reverse ++ Ls) B
  less : ringA (B.map Prod.fst) ≤ ringA (A.map Prod.fst)
  nn : 0 ≤ cyc (fnd (cuts (linesOf O) (A.map Prod.fst)))
  len : (fnd (cuts (linesOf O) (A.map Prod.fst))).length = B.length
  mem : ∀ p ∈ fnd (cuts (linesOf O) (A.map Prod.fst)), p ∈ B.map Prod.fst
theorem cut_cases (h : Tid Ls A) (nd : ∀ l ∈ Ls, ¬(l.d.1 = 0 ∧ l.d.2 = 0)) (hO : Blg O) : (fnd (cuts (linesOf O) (A.map Prod.fst)) = [] ∧ bothP (A.map Prod.fst) O = [] ∧ ¬ ∃ x : Pt, ∀ l ∈ (linesOf O).reverse ++ Ls, 0 < ev l x) ∨ ∃ B, Cut Ls A O B := by
  have g := h.ring
  have gc := cuts_ring (linesOf O) Ls _ g
  by_cases k : ∃ x : Pt, ∀ l ∈ (linesOf O).reverse ++ Ls, 0 < ev l x
  · obtain ⟨x, hx⟩ := k
    have two := cuts_two (linesOf O) _ _ g h.blg.two (fun l hl => hx l (List.mem_append_right _ hl)) fun l hl => hx l (List.mem_append_left _ (List.mem_reverse.mpr hl))
    obtain ⟨B, e1, e2, e3, e4, e5, e6⟩ := tid_wide gc two hx (h.onc.cuts _)
    refine .inr ⟨B, e1, e2, ?_, e4, e5, e6⟩
    have := cuts_A (linesOf O) _ _ g
    grind
  · have := tid_none gc (fun l hl => (List.mem_append.mp hl).elim (fun q => hO.nd l (List.mem_reverse.mp q)) (nd l)) k
    refine .inl ⟨this, ?_, k⟩
    unfold bothP tidR
    rw [this]
    rfl
theorem cutN_HP2 {n : Nat} (h : Tid Ls A) (hL : ∀ l ∈ Ls, HL n l) (hM : ∀ l ∈ linesOf O, HL n l) (j : Nat) (hj : j ≤ O.length) : ∀ p ∈ cutN (A.map Prod.fst) O j, HP (2 * n + 1) p := by
  rw [cutN_cuts]
  refine ring_HP (cuts_ring _ _ _ h.ring) fun l hl => ?_
  rcases List.mem_append.mp hl with hl | hl
  · exact hM l (lnsN_mem hj (List.mem_reverse.mp hl))
  · exact hL l hl
end
/-! #### sizes of lines by their numbers at places -/
structure HF (n : Nat) (g : Pt → Rat) : Prop where
  ex : ∃ (A B C : Int) (D : Rat), D ≠ 0 ∧ Bd n A ∧ Bd n B ∧ Bd n C ∧ ∀ x : Pt, D * g x = A * x.2 - B * x.1 - C
theorem HF.hl {n : Nat} {g : Pt → Rat} {l : Ln} {κ : Rat} (h : HF n g) (hk : κ ≠ 0) (e : ∀ x, ev l x = κ * g x) : HL n l := by
  obtain ⟨A, B, C, D, hD, h1, h2, h3, hx⟩ := h.ex
  have a := hx (0, 0)
  have b := hx (1, 0)
  have c := hx (0, 1)
  have a' := e (0, 0)
  have b' := e (1, 0)
  have c' := e (0, 1)
  unfold ev at a' b' c'
  dsimp only at a b c a' b' c'
  refine ⟨A, B, C, D / κ, ?_, h1, h2, h3, ?_, ?_, ?_⟩
  · intro z
    have : D / κ * κ = D := by grind
    rw [z] at this
    grind
  · have k : D / κ * κ = D := by grind
    generalize D / κ = q at k ⊢
    subst k
    grind
  · have k : D / κ * κ = D := by grind
    generalize D / κ = q at k ⊢
    subst k
    grind
  · have k : D / κ * κ = D := by grind
    generalize D / κ = q at k ⊢
    subst k
    grind
theorem HL.mono {n m : Nat} {l : Ln} (h : HL n l) (k : n ≤ m) : HL m l := by
  obtain ⟨A, B, C, D, h0, h1, h2, h3, e⟩ := h.ex
  exact ⟨A, B, C, D, h0, h1.mono k, h2.mono k, h3.mono k, e⟩
theorem HF.one {n : Nat} {g : Pt → Rat} {D : Rat} {A B C : Int} (h0 : D ≠ 0) (h1 : Bd n A) (h2 : Bd n B) (h3 : Bd n C) (h : ∀ x : Pt, D * g x = A * x.2 - B * x.1 - C) : HF n g := ⟨A, B, C, D, h0, h1, h2, h3, h⟩
/-! #### the whole plate -/
def whole : List Pt := [(0, 0), (1, 0), (1, 1), (0, 1)]
theorem whole_blg : Blg whole := box_blg (by decide) (by decide)
theorem whole_HP : ∀ p ∈ whole, HP 1 p := fun p hp => by
  unfold whole at hp
  simp only [List.mem_cons, List.not_mem_nil, or_false] at hp
  have z : Bd 1 0 := Bd.lit (by decide)
  have o : Bd 1 1 := Bd.lit (by decide)
  rcases hp with rfl | rfl | rfl | rfl
  · exact ⟨0, 0, 1, by decide, z, z, o, by decide +kernel, by decide +kernel⟩
  · exact ⟨1, 0, 1, by decide, o, z, o, by decide +kernel, by decide +kernel⟩
  · exact ⟨1, 1, 1, by decide, o, o, o, by decide +kernel, by decide +kernel⟩
  · exact ⟨0, 1, 1, by decide, z, o, o, by decide +kernel, by decide +kernel⟩
theorem whole_ring : ringS whole = [(((0 : Rat), (0 : Rat)), ((1 : Rat), (0 : Rat))), ((1, 0), (1, 1)), ((1, 1), (0, 1)), ((0, 1), (0, 0))] := rfl
theorem whole_in (x : Pt) : ((∀ l ∈ linesOf whole, 0 ≤ ev l x) ↔ (0 ≤ x.1 ∧ x.1 ≤ 1 ∧ 0 ≤ x.2 ∧ x.2 ≤ 1)) ∧ ((∀ l ∈ linesOf whole, 0 < ev l x) ↔ (0 < x.1 ∧ x.1 < 1 ∧ 0 < x.2 ∧ x.2 < 1)) := by
  have e1 : ev (lnOf (0, 0) (1, 0)) x = x.2 := by unfold ev lnOf; dsimp only; grind
  have e2 : ev (lnOf (1, 0) (1, 1)) x = 1 - x.1 := by unfold ev lnOf; dsimp only; grind
  have e3 : ev (lnOf (1, 1) (0, 1)) x = 1 - x.2 := by unfold ev lnOf; dsimp only; grind
  have e4 : ev (lnOf (0, 1) (0, 0)) x = x.1 := by unfold ev lnOf; dsimp only; grind
  unfold linesOf
  rw [whole_ring]
  simp only [List.map_cons, List.map_nil, List.forall_mem_cons, List.not_mem_nil, false_implies, implies_true, and_true, e1, e2, e3, e4]
  constructor
  · constructor
    · intro ⟨a, b, c, d⟩; exact ⟨d, by grind, a, by grind⟩
    · intro ⟨a, b, c, d⟩; exact ⟨c, by grind, by grind, a⟩
  · constructor
    · intro ⟨a, b, c, d⟩; exact ⟨d, by grind, a, by grind⟩
    · intro ⟨a, b, c, d⟩; exact ⟨c, by grind, by grind, a⟩
/-! ### the share: exactly what it was where places that stand twice or on a line are left out -/
theorem unlL_A : ∀ (C : List Pt) (u : Pt), areaC u (unlL u C) = areaC u C ∧ endO u (unlL u C) = endO u C
  | [], u => ⟨rfl, rfl⟩
  | x :: r, u => by
    by_cases h : x = u
    · have e : unlL u (x :: r) = unlL x r := by
        show (if x = u then unlL x r else x :: unlL x r) = _
        rw [if_pos h]
      rw [e]
      have := unlL_A r x
      subst h
      refine ⟨?_, this.2⟩
      show _ = cr x x + areaC x r
      rw [cr_self, this.1]
      grind
    · have e : unlL u (x :: r) = x :: unlL x r := by
        show (if x = u then unlL x r else x :: unlL x r) = _
        rw [if_neg h]
      rw [e]
      have := unlL_A r x
      refine ⟨?_, this.2⟩
      show cr u x + areaC x (unlL x r) = cr u x + areaC x r
      rw [this.1]
def chainNe : Pt → List Pt → Prop
  | _, [] => True
  | p, x :: r => p ≠ x ∧ chainNe x r
theorem turn_on {u p x y : Pt} (hn : p ≠ x) (h : turnR u p x = 0) (k : turnR p x y = 0) : turnR u x y = 0 := by
  obtain ⟨u1, u2⟩ := u
  obtain ⟨p1, p2⟩ := p
  obtain ⟨x1, x2⟩ := x
  obtain ⟨y1, y2⟩ := y
  unfold turnR at *
  dsimp only at *
  by_cases e : p1 = x1
  · have e2 : p2 ≠ x2 := fun z => hn (Prod.ext e z)
    subst e
    have a1 : u1 = p1 := by grind
    have a2 : y1 = p1 := by grind
    subst a1
    subst a2
    grind
  · grind
/-- places left out of a going: what counts -/
theorem fndP_A : ∀ (L : List Pt) (u p z : Pt), (u = p ∨ turnR u p (hdP z L) = 0) → chainNe p L → areaC u (fndP p z L) + cr (endO u (fndP p z L)) (endO p L) = cr u p + areaC p L ∧ (endO u (fndP p z L) = endO p L ∨ turnR (endO u (fndP p z L)) (endO p L) z = 0)
  | [], u, p, z, h, _ => by
    refine ⟨?_, h⟩
    show 0 + cr u p = cr u p + 0
    grind
  | x :: r, u, p, z, h, hn => by
    have ht : turnR u p x = 0 := by
      rcases h with rfl | h
      · unfold turnR
        grind
      · exact h
    have hpx : p ≠ x := hn.1
    by_cases k : turnR p x (hdP z r) = 0
    · have e : fndP p z (x :: r) = fndP x z r := by
        show (if turnR p x (hdP z r) = 0 then [] else [x]) ++ fndP x z r = _
        rw [if_pos k]
        rfl
      have h2 : u = x ∨ turnR u x (hdP z r) = 0 := .inr (turn_on hpx ht k)
      have := fndP_A r u x z h2 hn.2
      rw [e]
      refine ⟨?_, this.2⟩
      show areaC u (fndP x z r) + cr (endO u (fndP x z r)) (endO x r) = cr u p + (cr p x + areaC x r)
      rw [this.1]
      rw [cr_three] at ht
      have : cr x u = -cr u x := by unfold cr; grind
      grind
    · have e : fndP p z (x :: r) = x :: fndP x z r := by
        show (if turnR p x (hdP z r) = 0 then [] else [x]) ++ fndP x z r = _
        rw [if_neg k]
        rfl
      have := fndP_A r x x z (.inl rfl) hn.2
      rw [e]
      refine ⟨?_, this.2⟩
      show cr u x + areaC x (fndP x z r) + cr (endO x (fndP x z r)) (endO x r) = cr u p + (cr p x + areaC x r)
      have e2 := this.1
      rw [cr_self] at e2
      rw [cr_three] at ht
      have : cr x u = -cr u x := by unfold cr; grind
      grind
theorem ringA_end (X : List Pt) (u : Pt) : ringA X = areaC (endO u X) X := by
  cases X with
  | nil => rfl
  | cons o r => rfl
theorem unlL_ne : ∀ (C : List Pt) (u : Pt), chainNe u (unlL u C)
  | [], _ => trivial
  | x :: r, u => by
    show chainNe u (if x = u then unlL x r else x :: unlL x r)
    by_cases h : x = u
    · rw [if_pos h]
      subst h
      exact unlL_ne r x
    · rw [if_neg h]
      exact ⟨fun e => h e.symm, unlL_ne r x⟩
theorem endO_end (X : List Pt) (u v : Pt) (h : X ≠ []) : endO u X = endO v X := by
  cases X with
  | nil => exact absurd rfl h
  | cons o r => rfl
theorem fndP_ring {o : Pt} {r : List Pt} (hn : chainNe (endO o r) (o :: r)) : ringA (fndP (endO o r) o (o :: r)) = ringA (o :: r) := by
  have he : endO (endO o r) (o :: r) = endO o r := rfl
  have h1 := fndP_A (o :: r) (endO o r) (endO o r) o (.inl rfl) hn
  rw [he] at h1
  have hL : ringA (o :: r) = areaC (endO o r) (o :: r) := rfl
  generalize hF : fndP (endO o r) o (o :: r) = F at *
  by_cases hz : F = []
  · subst hz
    have := h1.1
    show 0 = _
    rw [hL]
    have e : areaC (endO o r) [] + cr (endO (endO o r) []) (endO o r) = 0 + cr (endO o r) (endO o r) := rfl
    rw [e] at this
    grind
  · have h2 := fndP_A (o :: r) (endO (endO o r) F) (endO o r) o h1.2 hn
    rw [hF, he] at h2
    have e2 := h2.1
    rw [endO_end F (endO (endO o r) F) (endO o r) hz] at e2
    rw [ringA_end F (endO o r), hL]
    grind
theorem fnd_ringA (K : List Pt) : ringA (fnd K) = ringA K := by
  match K with
  | [] => rfl
  | [x] =>
    have e : fnd [x] = fndP x x [x] := by
      have : unl [x] = [x] := by
        unfold unl
        simp [prev, pt]
      unfold fnd
      rw [this]
      exact fndN_P x []
    have t : turnR x x (hdP x []) = 0 := by unfold turnR; grind
    have e2 : fndP x x [x] = [] := by
      show (if turnR x x (hdP x []) = 0 then [] else [x]) ++ fndP x x [] = _
      rw [if_pos t]
      rfl
    rw [e, e2]
    show 0 = cr x x + 0
    rw [cr_self]
    grind
  | x :: y :: s =>
    have hu := unl_unlL (x :: y :: s) (by simp) x
    have hA := unlL_A (x :: y :: s) (endO x (x :: y :: s))
    have hN := unlL_ne (x :: y :: s) (endO x (x :: y :: s))
    rw [← hu] at hA hN
    have e1 : endO (endO x (x :: y :: s)) (x :: y :: s) = endO x (x :: y :: s) := rfl
    rw [e1] at hA
    have hR : ringA (x :: y :: s) = areaC (endO x (x :: y :: s)) (x :: y :: s) := rfl
    rw [hR]
    generalize endO x (x :: y :: s) = p at *
    unfold fnd
    generalize unl (x :: y :: s) = U at *
    cases U with
    | nil =>
      show 0 = _
      rw [← hA.1]
      rfl
    | cons o r =>
      have ep : endO o r = p := hA.2
      rw [fndN_P o r, fndP_ring (by rw [ep]; exact hN), ← hA.1, ← ep]
      rfl
theorem rotR_ringA (F : List Pt) : ringA (rotR F) = ringA F := by
  unfold rotR
  split
  · rename_i h
    match F, h with
    | [], _ => rfl
    | [x], _ =>
      show 0 = cr x x + 0
      rw [cr_self]
      grind
    | [x, y], _ =>
      show 0 = cr y x + (cr x y + 0)
      unfold cr
      grind
  · rw [ringA_turn, List.take_append_drop]
theorem tidR_ringA (K : List Pt) : ringA (tidR K) = ringA K := by
  unfold tidR
  rw [rotR_ringA, fnd_ringA]

/-! ### shares add up along a cut -/
section
variable {l : Ln} {o : Pt}
def areaO (o : Pt) : Pt → List Pt → Rat
  | _, [] => 0
  | u, x :: r => turnR o u x + areaO o x r
theorem areaO_C (o : Pt) : ∀ (X : List Pt) (u : Pt), areaO o u X = areaC u X + cr (endO u X) o + cr o u
  | [], u => by
    show 0 = 0 + cr u o + cr o u
    unfold cr
    grind
  | x :: r, u => by
    show turnR o u x + areaO o x r = cr u x + areaC x r + cr (endO x r) o + cr o u
    rw [areaO_C o r x, cr_three]
    have : cr x o = -cr o x := by unfold cr; grind
    grind
theorem areaO_app (o : Pt) : ∀ (X Y : List Pt) (u : Pt), areaO o u (X ++ Y) = areaO o u X + areaO o (endO u X) Y
  | [], Y, u => by
    show areaO o u Y = 0 + areaO o u Y
    grind
  | x :: r, Y, u => by
    show turnR o u x + areaO o x (r ++ Y) = turnR o u x + areaO o x r + areaO o (endO x r) Y
    rw [areaO_app o r Y x]
    grind
/-- what a side leaves, seen from o -/
def pcE (h : Pt → Rat) (o : Pt) (e : Pt × Pt) : Rat :=
  if h e.1 < 0 then (if h e.1 * h e.2 < 0 then turnR o (btw e.1 e.2 (h e.1) (h e.2)) e.2 else 0)
  else if h e.1 * h e.2 < 0 then turnR o e.1 (btw e.1 e.2 (h e.1) (h e.2)) else if h e.2 < 0 then 0 else turnR o e.1 e.2
def gE (h : Pt → Rat) (o u p : Pt) : Rat := if h p < 0 then 0 else turnR o u p
theorem on_line {u x : Pt} (nd : ¬(l.d.1 = 0 ∧ l.d.2 = 0)) (h1 : ev l u = 0) (h2 : ev l x = 0) : turnR l.a u x = 0 := by
  unfold ev at *
  unfold turnR
  by_cases e : l.d.1 = 0
  · have : l.d.2 ≠ 0 := fun z => nd ⟨e, z⟩
    grind
  · grind
theorem sign_cross {u v : Rat} (h : u * v < 0) : (u < 0 ∧ 0 < v) ∨ (0 < u ∧ v < 0) := by
  by_cases a : u < 0
  · refine .inl ⟨a, Classical.byContradiction fun z => ?_⟩
    have := Rat.mul_nonneg (show 0 ≤ -u by grind) (show 0 ≤ -v by grind)
    grind
  · refine .inr ⟨Classical.byContradiction fun z => ?_, Classical.byContradiction fun z => ?_⟩
    · have : u = 0 := by grind
      subst this
      grind
    · have := Rat.mul_nonneg (show 0 ≤ u by grind) (show 0 ≤ v by grind)
      grind
theorem sign_none {u v : Rat} (h : ¬ u * v < 0) : ¬(u < 0 ∧ 0 < v) ∧ ¬(0 < u ∧ v < 0) := by
  refine ⟨fun z => h ?_, fun z => h ?_⟩
  · have := Rat.mul_pos (show 0 < -u by grind) z.2
    grind
  · have := Rat.mul_pos z.1 (show 0 < -v by grind)
    grind
theorem btw_on {p q : Pt} (hc : ev l p * ev l q < 0) : ev l (btw p q (ev l p) (ev l q)) = 0 := by
  rw [ev_btw rfl]
  have : ev l p - ev l q ≠ 0 := by
    rcases sign_cross hc with h | h <;> grind
  grind
theorem side_C (nd : ¬(l.d.1 = 0 ∧ l.d.2 = 0)) {u : Pt} {e : Pt × Pt} (hI : ev l e.1 < 0 → ev l u = 0) : areaO l.a u (keepE (ev l) e) + gE (ev l) l.a (endO u (keepE (ev l) e)) e.2 = gE (ev l) l.a u e.1 + pcE (ev l) l.a e ∧ (ev l e.2 < 0 → ev l (endO u (keepE (ev l) e)) = 0) := by
  obtain ⟨p, q⟩ := e
  dsimp only at *
  unfold keepE gE pcE
  dsimp only
  by_cases hp : ev l p < 0
  · by_cases hc : ev l p * ev l q < 0
    · have hq : 0 < ev l q := by rcases sign_cross hc with h | h <;> grind
      have hx := btw_on hc
      have := on_line nd (hI hp) hx
      rw [if_pos hp, if_pos hc, if_pos hp, if_pos hp, if_pos hc, if_neg (by grind)]
      refine ⟨?_, fun z => absurd z (by grind)⟩
      generalize btw p q (ev l p) (ev l q) = x at *
      show turnR l.a u x + 0 + turnR l.a x q = 0 + turnR l.a x q
      rw [this]
      grind
    · have hq := (sign_none hc).1
      have hq' : ¬ 0 < ev l q := fun z => hq ⟨hp, z⟩
      rw [if_pos hp, if_neg hc, if_pos hp, if_pos hp, if_neg hc]
      refine ⟨?_, fun _ => hI hp⟩
      show 0 + (if ev l q < 0 then 0 else turnR l.a u q) = 0 + 0
      split
      · grind
      · rw [on_line nd (hI hp) (by grind)]
  · by_cases hc : ev l p * ev l q < 0
    · have hq : ev l q < 0 := by rcases sign_cross hc with h | h <;> grind
      have hx := btw_on hc
      rw [if_neg hp, if_pos hc, if_neg hp, if_neg hp, if_pos hc, if_pos hq]
      refine ⟨?_, fun _ => hx⟩
      generalize btw p q (ev l p) (ev l q) = x at *
      show turnR l.a u p + (turnR l.a p x + 0) + 0 = turnR l.a u p + turnR l.a p x
      grind
    · rw [if_neg hp, if_neg hc, if_neg hp, if_neg hp, if_neg hc]
      by_cases hq : ev l q < 0
      · have hp0 : ev l p = 0 := by
          have := (sign_none hc).2
          refine Classical.byContradiction fun z => this ⟨by grind, hq⟩
        rw [if_pos hq, if_pos hq]
        refine ⟨?_, fun _ => hp0⟩
        show turnR l.a u p + 0 + 0 = turnR l.a u p + 0
        grind
      · rw [if_neg hq, if_neg hq]
        refine ⟨?_, fun z => absurd z hq⟩
        show turnR l.a u p + 0 + turnR l.a p q = turnR l.a u p + turnR l.a p q
        grind
def pcs (h : Pt → Rat) (o : Pt) : List (Pt × Pt) → Rat
  | [] => 0
  | e :: r => pcE h o e + pcs h o r
theorem path_C (nd : ¬(l.d.1 = 0 ∧ l.d.2 = 0)) : ∀ (es : List (Pt × Pt)) (p z u : Pt), pathOK p es z → (ev l p < 0 → ev l u = 0) → areaO l.a u (es.flatMap (keepE (ev l))) + gE (ev l) l.a (endO u (es.flatMap (keepE (ev l)))) z = gE (ev l) l.a u p + pcs (ev l) l.a es ∧ (ev l z < 0 → ev l (endO u (es.flatMap (keepE (ev l)))) = 0)
  | [], p, z, u, h, hI => by
    have : p = z := h
    subst this
    refine ⟨?_, hI⟩
    show 0 + gE (ev l) l.a u p = gE (ev l) l.a u p + 0
    grind
  | e :: r, p, z, u, h, hI => by
    obtain ⟨h1, h2⟩ := h
    subst h1
    have a := side_C nd (e := e) hI
    have b := path_C nd r e.2 z (endO u (keepE (ev l) e)) h2 a.2
    rw [List.flatMap_cons, areaO_app, endO_app]
    refine ⟨?_, b.2⟩
    show _ = _ + (pcE (ev l) l.a e + pcs (ev l) l.a r)
    have := a.1
    have := b.1
    grind
theorem cut_pcs (nd : ¬(l.d.1 = 0 ∧ l.d.2 = 0)) (C : List Pt) : ringA (cut l C) = pcs (ev l) l.a (ringS C) := by
  cases C with
  | nil => rfl
  | cons c r =>
    have hp : pathOK c (ringS (c :: r)) c := sides_path r c c
    have h0 : ev l l.a = 0 := by unfold ev; grind
    have h1 := path_C nd _ c c l.a hp fun _ => h0
    have hc : (ringS (c :: r)).flatMap (keepE (ev l)) = cut l (c :: r) := rfl
    rw [hc] at h1
    generalize hK : cut l (c :: r) = K at *
    by_cases hz : K = []
    · subst hz
      have e1 : areaO l.a l.a [] = 0 := rfl
      have e2 : endO l.a [] = l.a := rfl
      have := h1.1
      rw [e1, e2] at this
      show 0 = _
      grind
    · have h2 := path_C nd _ c c (endO l.a K) hp h1.2
      rw [hc, endO_end K (endO l.a K) l.a hz] at h2
      have := h2.1
      rw [areaO_C, endO_end K (endO l.a K) l.a hz] at this
      rw [ringA_end K l.a]
      have : cr (endO l.a K) l.a = -cr l.a (endO l.a K) := by unfold cr; grind
      grind
theorem btw_neg {p q : Pt} {u v : Rat} (hc : u * v < 0) : btw p q (-u) (-v) = btw p q u v := by
  have h : u - v ≠ 0 := by rcases sign_cross hc with h | h <;> grind
  have e : -u / (-u - -v) = u / (u - v) := by
    have h2 : -u - -v ≠ 0 := by grind
    grind
  unfold btw
  rw [e]
theorem btw_split {o p q : Pt} (u v : Rat) : turnR o p (btw p q u v) + turnR o (btw p q u v) q = turnR o p q := by
  unfold btw turnR
  dsimp only
  grind
theorem pcE_neg (nd : ¬(l.d.1 = 0 ∧ l.d.2 = 0)) (e : Pt × Pt) : pcE (ev l) l.a e + pcE (ev (negL l)) l.a e = turnR l.a e.1 e.2 := by
  obtain ⟨p, q⟩ := e
  unfold pcE
  dsimp only
  rw [ev_neg, ev_neg]
  have em : -ev l p * -ev l q = ev l p * ev l q := by grind
  rw [em]
  have h0 := fun (h1 : ev l p = 0) (h2 : ev l q = 0) => on_line nd h1 h2
  by_cases hc : ev l p * ev l q < 0
  · simp only [btw_neg hc, if_pos hc]
    have := btw_split (o := l.a) (p := p) (q := q) (ev l p) (ev l q)
    rcases sign_cross hc with h | h
    · rw [if_pos h.1, if_neg (by grind)]
      grind
    · rw [if_neg (by grind), if_pos (by grind)]
      grind
  · have hs := sign_none hc
    simp only [if_neg hc]
    generalize hA : ev l p = A at *
    generalize hB : ev l q = B at *
    have a1 : ¬ (A < 0 ∧ 0 < B) := hs.1
    have a2 : ¬ (0 < A ∧ B < 0) := hs.2
    split <;> split <;> (try split) <;> (try split) <;> (try (have := h0 (by grind) (by grind))) <;> grind
theorem pcs_neg (nd : ¬(l.d.1 = 0 ∧ l.d.2 = 0)) : ∀ (es : List (Pt × Pt)) (p z : Pt), pathOK p es z → pcs (ev l) l.a es + pcs (ev (negL l)) l.a es = areaE es + cr z l.a + cr l.a p
  | [], p, z, h => by
    have : p = z := h
    subst this
    show 0 + 0 = 0 + cr p l.a + cr l.a p
    unfold cr
    grind
  | e :: r, p, z, h => by
    obtain ⟨h1, h2⟩ := h
    subst h1
    have a := pcE_neg nd e
    have b := pcs_neg nd r e.2 z h2
    show pcE (ev l) l.a e + pcs (ev l) l.a r + (pcE (ev (negL l)) l.a e + pcs (ev (negL l)) l.a r) = cr e.1 e.2 + areaE r + cr z l.a + cr l.a e.1
    rw [cr_three] at a
    have : cr e.2 l.a = -cr l.a e.2 := by unfold cr; grind
    grind
theorem neg_nd (nd : ¬(l.d.1 = 0 ∧ l.d.2 = 0)) : ¬((negL l).d.1 = 0 ∧ (negL l).d.2 = 0) := fun z => nd ⟨by have := z.1; unfold negL at this; grind, by have := z.2; unfold negL at this; grind⟩
theorem cut_sum (nd : ¬(l.d.1 = 0 ∧ l.d.2 = 0)) (C : List Pt) : ringA (cut l C) + ringA (cut (negL l) C) = ringA C := by
  rw [cut_pcs nd, cut_pcs (neg_nd nd), ringA_path C]
  cases C with
  | nil =>
    show (0 : Rat) + 0 = 0
    grind
  | cons c r =>
    have hp : pathOK c (ringS (c :: r)) c := sides_path r c c
    have := pcs_neg nd _ c c hp
    have e : (negL l).a = l.a := rfl
    rw [e, this]
    have : cr c l.a = -cr l.a c := by unfold cr; grind
    grind
end

/-! ### parts of lines; what is left of one by others -/
def Nd (Ls : List Ln) : Prop := ∀ l ∈ Ls, ¬(l.d.1 = 0 ∧ l.d.2 = 0)
def Reg (Ls : List Ln) (x : Pt) : Prop := ∀ l ∈ Ls, 0 ≤ ev l x
theorem Reg.app {hs Ls : List Ln} {x : Pt} : Reg (hs.reverse ++ Ls) x ↔ Reg hs x ∧ Reg Ls x := by
  refine ⟨fun h => ⟨fun l hl => h l (List.mem_append_left _ (List.mem_reverse.mpr hl)), fun l hl => h l (List.mem_append_right _ hl)⟩, fun h l hl => ?_⟩
  rcases List.mem_append.mp hl with k | k
  · exact h.1 l (List.mem_reverse.mp k)
  · exact h.2 l k
theorem Nd.app {hs Ls : List Ln} (h : Nd hs) (k : Nd Ls) : Nd (hs.reverse ++ Ls) := fun l hl => (List.mem_append.mp hl).elim (fun q => h l (List.mem_reverse.mp q)) (k l)
structure IsT (Ls : List Ln) (F : List Pt) : Prop where
  nd : Nd Ls
  or : (F = [] ∧ ¬ ∃ x : Pt, ∀ l ∈ Ls, 0 < ev l x) ∨ ∃ A : List PL, F = A.map Prod.fst ∧ Tid Ls A
theorem Tid.tri {Ls : List Ln} {A : List PL} (h : Tid Ls A) : ∃ p q r, Reg Ls p ∧ Reg Ls q ∧ Reg Ls r ∧ turnR p q r ≠ 0 := by
  have hl : 0 < A.length := by have := h.three; omega
  have t := cls_turns h.cl 0 hl
  have m : ∀ k, k < A.length → ∀ l ∈ Ls, 0 ≤ ev l (pt (A.map Prod.fst) k) := fun k hk l hl => by
    rw [pt_map (List.getElem?_eq_getElem hk)]
    exact (h.wi _ (List.getElem_mem hk)).2 l hl
  exact ⟨_, _, _, m 0 hl, m ((0 + 1) % A.length) (Nat.mod_lt _ hl), m (((0 + 1) % A.length + 1) % A.length) (Nat.mod_lt _ hl), fun z => by rw [z] at t; exact absurd t (by decide)⟩
theorem Tid.more {Ls Ms : List Ln} {A : List PL} (h : Tid Ls A) (k : ∀ a ∈ A, Reg Ms a.1) : Tid (Ls ++ Ms) A := ⟨h.cl, fun a ha => ⟨List.mem_append_left _ (h.wi a ha).1, fun l hl => (List.mem_append.mp hl).elim ((h.wi a ha).2 l) (k a ha l)⟩, h.three, h.beg, h.onc⟩
theorem IsT.none_of {Ls Ms : List Ln} {B : List PL} (nd : Nd Ls) (k : Tid Ms B) (hr : ∀ x, Reg Ls x ↔ Reg Ms x) (hn : ¬ ∃ x : Pt, ∀ l ∈ Ls, 0 < ev l x) : False := by
  obtain ⟨p, q, r, h1, h2, h3, ht⟩ := k.tri
  exact hn (inner_of nd ((hr p).mpr h1) ((hr q).mpr h2) ((hr r).mpr h3) ht)
theorem IsT.same {Ls Ms : List Ln} {F G : List Pt} (h : IsT Ls F) (k : IsT Ms G) (hr : ∀ x, Reg Ls x ↔ Reg Ms x) : F = G := by
  rcases h.or with ⟨rfl, hn⟩ | ⟨A, rfl, hA⟩
  · rcases k.or with ⟨rfl, _⟩ | ⟨B, rfl, hB⟩
    · rfl
    · exact (IsT.none_of h.nd hB hr hn).elim
  · rcases k.or with ⟨rfl, hn⟩ | ⟨B, rfl, hB⟩
    · exact (IsT.none_of k.nd hA (fun x => (hr x).symm) hn).elim
    · have a := hA.more fun a ha => (hr a.1).mp (hA.wi a ha).2
      have b := hB.more fun a ha => (hr a.1).mpr (hB.wi a ha).2
      exact a.same b fun l => by rw [List.mem_append, List.mem_append]; exact or_comm
/-- a part cut by lines -/
def inn (F : List Pt) (hs : List Ln) : List Pt := tidR (cuts hs F)
theorem cuts_nil : ∀ hs : List Ln, cuts hs [] = []
  | [] => rfl
  | _ :: hs => cuts_nil hs
theorem IsT.cut {Ls hs : List Ln} {F : List Pt} (h : IsT Ls F) (nh : Nd hs) : IsT (hs.reverse ++ Ls) (inn F hs) := by
  refine ⟨nh.app h.nd, ?_⟩
  rcases h.or with ⟨rfl, hn⟩ | ⟨A, rfl, hA⟩
  · refine .inl ⟨?_, fun ⟨x, hx⟩ => hn ⟨x, fun l hl => hx l (List.mem_append_right _ hl)⟩⟩
    unfold inn
    rw [cuts_nil]
    rfl
  · have g := hA.ring
    have gc := cuts_ring hs Ls _ g
    by_cases k : ∃ x : Pt, ∀ l ∈ hs.reverse ++ Ls, 0 < ev l x
    · obtain ⟨x, hx⟩ := k
      have two := cuts_two hs _ _ g hA.blg.two (fun l hl => hx l (List.mem_append_right _ hl)) fun l hl => hx l (List.mem_append_left _ (List.mem_reverse.mpr hl))
      obtain ⟨B, e1, e2, _⟩ := tid_wide gc two hx (hA.onc.cuts _)
      exact .inr ⟨B, e1, e2⟩
    · have := tid_none gc (nh.app h.nd) k
      refine .inl ⟨?_, k⟩
      unfold inn tidR
      rw [this]
      rfl
theorem IsT.nn {Ls : List Ln} {F : List Pt} (h : IsT Ls F) : 0 ≤ ringA F := by
  rcases h.or with ⟨rfl, _⟩ | ⟨A, rfl, hA⟩
  · exact Rat.le_refl
  · exact ringA_nn hA.ring
section
variable {Ls hs ks : List Ln} {F : List Pt}
theorem inn_comm (h : IsT Ls F) (nh : Nd hs) (nk : Nd ks) : inn (inn F hs) ks = inn (inn F ks) hs :=
  ((h.cut nh).cut nk).same ((h.cut nk).cut nh) fun x => by
    rw [Reg.app, Reg.app, Reg.app, Reg.app]
    exact ⟨fun h => ⟨h.2.1, h.1, h.2.2⟩, fun h => ⟨h.2.1, h.1, h.2.2⟩⟩
theorem inn_none (h : IsT Ls F) : inn F [] = F := (h.cut (hs := []) fun _ h => nomatch h).same h fun x => by
  rw [Reg.app]
  exact ⟨fun h => h.2, fun h => ⟨(fun _ k => nomatch k), h⟩⟩
theorem inn_cons {l : Ln} (h : IsT Ls F) (nl : Nd [l]) (nh : Nd hs) : inn F (l :: hs) = inn (inn F [l]) hs :=
  (h.cut (hs := l :: hs) fun m hm => (List.mem_cons.mp hm).elim (fun e => nl m (by rw [e]; exact .head _)) (nh m)).same ((h.cut nl).cut nh) fun x => by
    rw [Reg.app, Reg.app, Reg.app]
    refine ⟨fun h => ⟨fun m hm => h.1 m (.tail _ hm), fun m hm => h.1 m (by rw [List.mem_singleton.mp hm]; exact .head _), h.2⟩, fun h => ⟨fun m hm => ?_, h.2.2⟩⟩
    rcases List.mem_cons.mp hm with rfl | hm
    · exact h.2.1 m (.head _)
    · exact h.1 m hm
end
/-- what of a part lies in none of others (twice the share) -/
def leftL : List Pt → List (List Ln) → Rat
  | F, [] => ringA F
  | F, hs :: r => leftL F r - leftL (inn F hs) r
theorem nd_one {l : Ln} (h : ¬(l.d.1 = 0 ∧ l.d.2 = 0)) : Nd [l] := fun m hm => by rw [List.mem_singleton.mp hm]; exact h
theorem leftL_add {l : Ln} (nl : ¬(l.d.1 = 0 ∧ l.d.2 = 0)) : ∀ (Ks : List (List Ln)) (Ls : List Ln) (F : List Pt), IsT Ls F → (∀ hs ∈ Ks, Nd hs) → leftL F Ks = leftL (inn F [l]) Ks + leftL (inn F [negL l]) Ks
  | [], Ls, F, _, _ => by
    have := cut_sum nl F
    show ringA F = ringA (tidR (cut l F)) + ringA (tidR (cut (negL l) F))
    rw [tidR_ringA, tidR_ringA, this]
  | hs :: r, Ls, F, h, nk => by
    have nh := nk hs (.head _)
    have nr : ∀ hs ∈ r, Nd hs := fun k hk => nk k (.tail _ hk)
    have a := leftL_add nl r Ls F h nr
    have b := leftL_add nl r _ (inn F hs) (h.cut nh) nr
    have c1 := inn_comm h nh (nd_one nl)
    have c2 := inn_comm h nh (nd_one (neg_nd nl))
    show leftL F r - leftL (inn F hs) r = leftL (inn F [l]) r - leftL (inn (inn F [l]) hs) r + (leftL (inn F [negL l]) r - leftL (inn (inn F [negL l]) hs) r)
    rw [a, b, c1, c2]
    grind
theorem leftL_less {r : List (List Ln)} (nr : ∀ hs ∈ r, Nd hs) (nn : ∀ (Ls : List Ln) (F : List Pt), IsT Ls F → 0 ≤ leftL F r) : ∀ (hs Ls : List Ln) (F : List Pt), IsT Ls F → Nd hs → leftL (inn F hs) r ≤ leftL F r
  | [], Ls, F, h, _ => by
    rw [inn_none h]
    exact Rat.le_refl
  | l :: hs, Ls, F, h, nh => by
    have nl := nh l (.head _)
    have nh' : Nd hs := fun m hm => nh m (.tail _ hm)
    rw [inn_cons h (nd_one nl) nh']
    have a := leftL_less nr nn hs _ _ (h.cut (nd_one nl)) nh'
    have b := leftL_add nl r Ls F h nr
    have c := nn _ _ (h.cut (nd_one (neg_nd nl)))
    grind
theorem leftL_nn : ∀ (Ks : List (List Ln)), (∀ hs ∈ Ks, Nd hs) → ∀ (Ls : List Ln) (F : List Pt), IsT Ls F → 0 ≤ leftL F Ks
  | [], _, Ls, F, h => h.nn
  | hs :: r, nk, Ls, F, h => by
    have nr : ∀ hs ∈ r, Nd hs := fun k hk => nk k (.tail _ hk)
    have := leftL_less nr (leftL_nn r nr) hs Ls F h (nk hs (.head _))
    show 0 ≤ leftL F r - leftL (inn F hs) r
    grind
theorem leftL_perm {K K' : List (List Ln)} (p : K.Perm K') : ∀ (Ls : List Ln) (F : List Pt), IsT Ls F → (∀ hs ∈ K, Nd hs) → leftL F K = leftL F K' := by
  induction p with
  | nil => intros; rfl
  | cons x p ih =>
    rename_i K K'
    intro Ls F h nk
    have nr : ∀ hs ∈ K, Nd hs := fun k hk => nk k (.tail _ hk)
    show leftL F K - leftL (inn F x) K = leftL F K' - leftL (inn F x) K'
    rw [ih Ls F h nr, ih _ _ (h.cut (nk x (.head _))) nr]
  | swap x y r =>
    intro Ls F h nk
    show leftL F r - leftL (inn F x) r - (leftL (inn F y) r - leftL (inn (inn F y) x) r) = leftL F r - leftL (inn F y) r - (leftL (inn F x) r - leftL (inn (inn F x) y) r)
    rw [inn_comm h (nk y (.head _)) (nk x (.tail _ (.head _)))]
    grind
  | trans p q ih1 ih2 =>
    intro Ls F h nk
    rw [ih1 Ls F h nk, ih2 Ls F h fun k hk => nk k (p.mem_iff.mpr hk)]
/-- one fewer: no less is left -/
theorem leftL_fewer {r K : List (List Ln)} {hs : List Ln} (p : K.Perm (hs :: r)) {Ls : List Ln} {F : List Pt} (h : IsT Ls F) (nk : ∀ hs ∈ K, Nd hs) : leftL F K ≤ leftL F r := by
  rw [leftL_perm p Ls F h nk]
  have n : ∀ k ∈ hs :: r, Nd k := fun k hk => nk k (p.mem_iff.mpr hk)
  have := leftL_nn r (fun k hk => n k (.tail _ hk)) _ _ (h.cut (n hs (.head _)))
  show leftL F r - leftL (inn F hs) r ≤ leftL F r
  grind

/-! ### what one shades is a part of few lines -/
theorem IsT.mem {Ls Ms : List Ln} {F : List Pt} (h : IsT Ls F) (hl : ∀ l, l ∈ Ls ↔ l ∈ Ms) : IsT Ms F := by
  refine ⟨fun l k => h.nd l ((hl l).mpr k), ?_⟩
  rcases h.or with ⟨e, hn⟩ | ⟨A, e, hA⟩
  · exact .inl ⟨e, fun ⟨x, hx⟩ => hn ⟨x, fun l k => hx l ((hl l).mp k)⟩⟩
  · exact .inr ⟨A, e, hA.cl, wi_lines hl hA.wi, hA.three, hA.beg, hA.onc⟩
theorem whole_IsT : IsT (linesOf whole) whole := by
  refine ⟨whole_blg.nd, .inr ?_⟩
  obtain ⟨A, h1, h2, h3, h4, h5⟩ : ∃ A : List PL, whole = A.map Prod.fst ∧ ClA A ∧ Wi (linesOf whole) A ∧ 3 ≤ A.length ∧ Beg (A.map Prod.fst) := by
    refine ⟨[((0, 0), lnOf (0, 0) (1, 0)), ((1, 0), lnOf (1, 0) (1, 1)), ((1, 1), lnOf (1, 1) (0, 1)), ((0, 1), lnOf (0, 1) (0, 0))], rfl, ?_, ?_, by decide, ?_⟩
    · refine ⟨((0, 1), lnOf (0, 1) (0, 0)), rfl, fun w0 e => ?_, fun w0 e => ?_, fun w0 e => ?_, fun w0 e => ?_, trivial⟩ <;>
        (cases e; exact ⟨⟨⟨by unfold ev lnOf; grind, 1, by decide, by unfold lnOf; grind, by unfold lnOf; grind⟩, by simp⟩, by unfold crs lnOf; dsimp only; grind⟩)
    · intro a ha
      have hm : ∀ p ∈ whole, ∀ l ∈ linesOf whole, 0 ≤ ev l p := fun p hp => by
        refine (whole_in p).1.mpr ?_
        unfold whole at hp
        simp only [List.mem_cons, List.not_mem_nil, or_false] at hp
        rcases hp with rfl | rfl | rfl | rfl <;> (dsimp only; grind)
      simp only [List.mem_cons, List.not_mem_nil, or_false] at ha
      have hl : linesOf whole = [lnOf (0, 0) (1, 0), lnOf (1, 0) (1, 1), lnOf (1, 1) (0, 1), lnOf (0, 1) (0, 0)] := by
        unfold linesOf
        rw [whole_ring]
        rfl
      rcases ha with rfl | rfl | rfl | rfl <;> refine ⟨by rw [hl]; simp, hm _ (by unfold whole; simp)⟩
    · refine ⟨(0, 0), _, rfl, fun y hy => ?_⟩
      simp only [List.map_cons, List.map_nil, List.mem_cons, List.not_mem_nil, or_false] at hy
      rcases hy with rfl | rfl | rfl <;> (unfold leX; simp <;> grind)
  exact ⟨A, h1, h2, h3, h4, h5, by rw [← h1]; exact whole_blg.onc⟩
theorem HL_neg {n : Nat} {l : Ln} (h : HL n l) : HL n (negL l) := by
  obtain ⟨A, B, C, D, h0, h1, h2, h3, e1, e2, e3⟩ := h.ex
  unfold negL
  exact ⟨A, B, C, -D, by grind, h1, h2, h3, by dsimp only; grind, by dsimp only; grind, by dsimp only; grind⟩

/-! ### plates and the sun's way, in whole numbers -/
structure V3 where
  x : Int
  y : Int
  z : Int
def V3.D (a : V3) : Dy.D := t3 a.x a.y a.z
def dot3 (a b : V3) : Int := a.x * b.x + a.y * b.y + a.z * b.z
def crs3 (a b : V3) : V3 := ⟨a.y * b.z - a.z * b.y, a.z * b.x - a.x * b.z, a.x * b.y - a.y * b.x⟩
def sub3 (a b : V3) : V3 := ⟨a.x - b.x, a.y - b.y, a.z - b.z⟩
def add3 (a b : V3) : V3 := ⟨a.x + b.x, a.y + b.y, a.z + b.z⟩
structure Pl where
  k : V3
  s : V3
  o : V3
def Pl.D (p : Pl) : Dy.D := .tup [p.k.D, p.s.D, p.o.D]
def Pl.n (p : Pl) : V3 := crs3 p.s p.o
structure Bd3 (n : Nat) (a : V3) : Prop where
  x : Bd n a.x
  y : Bd n a.y
  z : Bd n a.z
theorem Bd3.mono {n m : Nat} {a : V3} (h : Bd3 n a) (k : n ≤ m) : Bd3 m a := ⟨h.x.mono k, h.y.mono k, h.z.mono k⟩
theorem Bd3.dot {n m : Nat} {a b : V3} (h : Bd3 n a) (k : Bd3 m b) : Bd (n + m + 2) (dot3 a b) := (((h.x.mul k.x).addM (h.y.mul k.y)).addM (h.z.mul k.z)).mono (by omega)
theorem Bd3.crs {n m : Nat} {a b : V3} (h : Bd3 n a) (k : Bd3 m b) : Bd3 (n + m + 1) (crs3 a b) := ⟨((h.y.mul k.z).subM (h.z.mul k.y)).mono (by omega), ((h.z.mul k.x).subM (h.x.mul k.z)).mono (by omega), ((h.x.mul k.y).subM (h.y.mul k.x)).mono (by omega)⟩
theorem Bd3.sub {n m : Nat} {a b : V3} (h : Bd3 n a) (k : Bd3 m b) : Bd3 (max n m + 1) (sub3 a b) := ⟨h.x.subM k.x, h.y.subM k.y, h.z.subM k.z⟩
theorem Bd3.add {n m : Nat} {a b : V3} (h : Bd3 n a) (k : Bd3 m b) : Bd3 (max n m + 1) (add3 a b) := ⟨h.x.addM k.x, h.y.addM k.y, h.z.addM k.z⟩
/-- over the plane, along the two sides, times the whole -/
def Pl.W (p : Pl) (d : V3) : Int := dot3 p.n d
def Pl.S (p : Pl) (d X : V3) : Int := dot3 (sub3 X p.k) (crs3 p.o d)
def Pl.T (p : Pl) (d X : V3) : Int := dot3 (sub3 X p.k) (crs3 d p.s)
def Pl.H (p : Pl) (X : V3) : Int := dot3 p.n (sub3 X p.k)
def Pl.m (p : Pl) (d X : V3) : Pt := ((p.S d X : Rat) / (p.W d : Rat), (p.T d X : Rat) / (p.W d : Rat))
def Pl.corners (q : Pl) : List V3 := [q.k, add3 q.k q.s, add3 (add3 q.k q.s) q.o, add3 q.k q.o]
theorem vec (p : Pl) (d X : V3) : p.W d * (X.x - p.k.x) = p.S d X * p.s.x + p.T d X * p.o.x + p.H X * d.x ∧ p.W d * (X.y - p.k.y) = p.S d X * p.s.y + p.T d X * p.o.y + p.H X * d.y ∧ p.W d * (X.z - p.k.z) = p.S d X * p.s.z + p.T d X * p.o.z + p.H X * d.z := by
  unfold Pl.W Pl.S Pl.T Pl.H Pl.n dot3 crs3 sub3
  dsimp only
  refine ⟨?_, ?_, ?_⟩ <;> grind
section
variable (p q : Pl) (d : V3)
/-- the other plate's sides, seen in the plane -/
def side (t : V3) : Pt := ((dot3 t (crs3 p.o d) : Int) / (p.W d : Int), (dot3 t (crs3 d p.s) : Int) / (p.W d : Int))
/-- the height over the plane of what lies above a place, on the other plate's plane -/
def hgt : Hgt := ⟨-((p.W d : Rat) * (dot3 q.n p.s : Int)) / (q.W d : Int), -((p.W d : Rat) * (dot3 q.n p.o : Int)) / (q.W d : Int), (p.W d : Rat) * (dot3 q.n (sub3 q.k p.k) : Int) / (q.W d : Int)⟩
def aN (x : Pt) : Rat := ((dot3 (sub3 p.k q.k) (crs3 q.o d) : Int) : Rat) + x.1 * (dot3 p.s (crs3 q.o d) : Int) + x.2 * (dot3 p.o (crs3 q.o d) : Int)
def bN (x : Pt) : Rat := ((dot3 (sub3 p.k q.k) (crs3 d q.s) : Int) : Rat) + x.1 * (dot3 p.s (crs3 d q.s) : Int) + x.2 * (dot3 p.o (crs3 d q.s) : Int)
end
section
variable {p q : Pl} {d : V3}
theorem m_add (hW : p.W d ≠ 0) (X t : V3) : p.m d (add3 X t) = ((p.m d X).1 + (side p d t).1, (p.m d X).2 + (side p d t).2) := by
  have hw := cast_ne hW
  have e1 : p.S d (add3 X t) = p.S d X + dot3 t (crs3 p.o d) := by
    unfold Pl.S dot3 sub3 add3
    dsimp only
    grind
  have e2 : p.T d (add3 X t) = p.T d X + dot3 t (crs3 d p.s) := by
    unfold Pl.T dot3 sub3 add3
    dsimp only
    grind
  unfold Pl.m side
  dsimp only
  rw [e1, e2, Rat.intCast_add, Rat.intCast_add]
  exact Prod.ext (by dsimp only; grind) (by dsimp only; grind)
theorem corners_par (hW : p.W d ≠ 0) : q.corners.map (p.m d) = parC (p.m d q.k) (side p d q.s) (side p d q.o) := by
  unfold Pl.corners parC
  rw [List.map_cons, List.map_cons, List.map_cons, List.map_cons, List.map_nil, m_add hW, m_add hW, m_add hW, m_add hW]
theorem crs_side (hW : p.W d ≠ 0) : crs (side p d q.s) (side p d q.o) = (q.W d : Rat) / (p.W d : Rat) := by
  have hw := cast_ne hW
  have key : dot3 q.s (crs3 p.o d) * dot3 q.o (crs3 d p.s) - dot3 q.s (crs3 d p.s) * dot3 q.o (crs3 p.o d) = q.W d * p.W d := by
    unfold Pl.W Pl.n dot3 crs3
    dsimp only
    grind
  have key2 := congrArg (fun z : Int => (z : Rat)) key
  rw [Rat.intCast_sub, Rat.intCast_mul, Rat.intCast_mul, Rat.intCast_mul] at key2
  unfold crs side
  dsimp only
  grind
theorem hgt_at (hW : p.W d ≠ 0) (hE : q.W d ≠ 0) (X : V3) (hX : dot3 q.n (sub3 X q.k) = 0) : (hgt p q d).at (p.m d X) = (p.H X : Rat) := by
  have hw := cast_ne hW
  have he := cast_ne hE
  obtain ⟨v1, v2, v3⟩ := vec p d X
  have k1 : p.S d X * dot3 q.n p.s + p.T d X * dot3 q.n p.o + p.H X * q.W d = p.W d * dot3 q.n (sub3 X p.k) := by
    unfold Pl.W at *
    unfold dot3 sub3 at *
    dsimp only at *
    grind
  have k2 : dot3 q.n (sub3 X p.k) = dot3 q.n (sub3 q.k p.k) := by
    unfold dot3 sub3 at *
    dsimp only at *
    grind
  rw [k2] at k1
  have k3 := congrArg (fun z : Int => (z : Rat)) k1
  simp only [Rat.intCast_add, Rat.intCast_mul] at k3
  unfold Hgt.at hgt Pl.m
  dsimp only
  grind
theorem corner_in (c : V3) (h : c ∈ q.corners) : dot3 q.n (sub3 c q.k) = 0 := by
  unfold Pl.corners at h
  simp only [List.mem_cons, List.not_mem_nil, or_false] at h
  unfold Pl.n dot3 crs3 sub3
  rcases h with rfl | rfl | rfl | rfl <;> ((try unfold add3); dsimp only; grind)
theorem aP_eq (hW : p.W d ≠ 0) (hE : q.W d ≠ 0) (x : Pt) : aP (p.m d q.k) (side p d q.o) x / crs (side p d q.s) (side p d q.o) = aN p q d x / (q.W d : Int) := by
  have hw := cast_ne hW
  have he := cast_ne hE
  rw [crs_side hW]
  have c1 : dot3 q.o (crs3 d p.s) = dot3 p.s (crs3 q.o d) := by
    unfold dot3 crs3
    dsimp only
    grind
  have c2 : dot3 q.o (crs3 p.o d) = -dot3 p.o (crs3 q.o d) := by
    unfold dot3 crs3
    dsimp only
    grind
  have k1 : p.S d q.k * dot3 p.s (crs3 q.o d) + p.T d q.k * dot3 p.o (crs3 q.o d) = -(p.W d * dot3 (sub3 p.k q.k) (crs3 q.o d)) := by
    obtain ⟨v1, v2, v3⟩ := vec p d q.k
    have z : dot3 d (crs3 q.o d) = 0 := by
      unfold dot3 crs3
      dsimp only
      grind
    generalize crs3 q.o d = w at z ⊢
    unfold dot3 at z ⊢
    unfold sub3
    dsimp only
    have h1 : p.W d * ((q.k.x - p.k.x) * w.x + (q.k.y - p.k.y) * w.y + (q.k.z - p.k.z) * w.z) = p.S d q.k * (p.s.x * w.x + p.s.y * w.y + p.s.z * w.z) + p.T d q.k * (p.o.x * w.x + p.o.y * w.y + p.o.z * w.z) + p.H q.k * (d.x * w.x + d.y * w.y + d.z * w.z) := by grind
    rw [z] at h1
    grind
  have k3 := congrArg (fun z : Int => (z : Rat)) k1
  simp only [Rat.intCast_add, Rat.intCast_mul, Rat.intCast_neg] at k3
  unfold aP aN side Pl.m
  dsimp only
  rw [c1, c2, Rat.intCast_neg]
  grind
theorem bP_eq (hW : p.W d ≠ 0) (hE : q.W d ≠ 0) (x : Pt) : bP (p.m d q.k) (side p d q.s) x / crs (side p d q.s) (side p d q.o) = bN p q d x / (q.W d : Int) := by
  have hw := cast_ne hW
  have he := cast_ne hE
  rw [crs_side hW]
  have c1 : dot3 q.s (crs3 d p.s) = -dot3 p.s (crs3 d q.s) := by
    unfold dot3 crs3
    dsimp only
    grind
  have c2 : dot3 q.s (crs3 p.o d) = dot3 p.o (crs3 d q.s) := by
    unfold dot3 crs3
    dsimp only
    grind
  have k1 : p.S d q.k * dot3 p.s (crs3 d q.s) + p.T d q.k * dot3 p.o (crs3 d q.s) = -(p.W d * dot3 (sub3 p.k q.k) (crs3 d q.s)) := by
    obtain ⟨v1, v2, v3⟩ := vec p d q.k
    have z : dot3 d (crs3 d q.s) = 0 := by
      unfold dot3 crs3
      dsimp only
      grind
    generalize crs3 d q.s = w at z ⊢
    unfold dot3 at z ⊢
    unfold sub3
    dsimp only
    have h1 : p.W d * ((q.k.x - p.k.x) * w.x + (q.k.y - p.k.y) * w.y + (q.k.z - p.k.z) * w.z) = p.S d q.k * (p.s.x * w.x + p.s.y * w.y + p.s.z * w.z) + p.T d q.k * (p.o.x * w.x + p.o.y * w.y + p.o.z * w.z) + p.H q.k * (d.x * w.x + d.y * w.y + d.z * w.z) := by grind
    rw [z] at h1
    grind
  have k3 := congrArg (fun z : Int => (z : Rat)) k1
  simp only [Rat.intCast_add, Rat.intCast_mul, Rat.intCast_neg] at k3
  unfold bP bN side Pl.m
  dsimp only
  rw [c1, c2, Rat.intCast_neg]
  grind
/-! #### sizes -/
variable {n : Nat}
theorem aN_HF (hE : q.W d ≠ 0) (h1 : Bd3 n p.k) (h2 : Bd3 n p.s) (h3 : Bd3 n p.o) (h4 : Bd3 n q.k) (h5 : Bd3 n q.s) (h6 : Bd3 n q.o) (h7 : Bd3 n d) : HF (3 * n + 6) (fun x => aN p q d x / (q.W d : Int)) ∧ HF (3 * n + 6) (fun x => 1 - aN p q d x / (q.W d : Int)) := by
  have he := cast_ne hE
  have hw := h6.crs h7
  have b1 := (h1.sub h4).dot hw
  have b2 := h2.dot hw
  have b3 := h3.dot hw
  have bE : Bd (3 * n + 5) (q.W d) := ((h5.crs h6).dot h7).mono (by omega)
  refine ⟨HF.one he (A := dot3 p.o (crs3 q.o d)) (B := -dot3 p.s (crs3 q.o d)) (C := -dot3 (sub3 p.k q.k) (crs3 q.o d)) (b3.mono (by omega)) (b2.neg.mono (by omega)) (b1.neg.mono (by omega)) fun x => ?_, HF.one he (A := -dot3 p.o (crs3 q.o d)) (B := dot3 p.s (crs3 q.o d)) (C := dot3 (sub3 p.k q.k) (crs3 q.o d) - q.W d) (b3.neg.mono (by omega)) (b2.mono (by omega)) ((b1.subM bE).mono (by omega)) fun x => ?_⟩
  · simp only [Rat.intCast_neg]
    unfold aN
    grind
  · simp only [Rat.intCast_neg, Rat.intCast_sub]
    unfold aN
    grind
theorem bN_HF (hE : q.W d ≠ 0) (h1 : Bd3 n p.k) (h2 : Bd3 n p.s) (h3 : Bd3 n p.o) (h4 : Bd3 n q.k) (h5 : Bd3 n q.s) (h6 : Bd3 n q.o) (h7 : Bd3 n d) : HF (3 * n + 6) (fun x => bN p q d x / (q.W d : Int)) ∧ HF (3 * n + 6) (fun x => 1 - bN p q d x / (q.W d : Int)) := by
  have he := cast_ne hE
  have hw := h7.crs h5
  have b1 := (h1.sub h4).dot hw
  have b2 := h2.dot hw
  have b3 := h3.dot hw
  have bE : Bd (3 * n + 5) (q.W d) := ((h5.crs h6).dot h7).mono (by omega)
  refine ⟨HF.one he (A := dot3 p.o (crs3 d q.s)) (B := -dot3 p.s (crs3 d q.s)) (C := -dot3 (sub3 p.k q.k) (crs3 d q.s)) (b3.mono (by omega)) (b2.neg.mono (by omega)) (b1.neg.mono (by omega)) fun x => ?_, HF.one he (A := -dot3 p.o (crs3 d q.s)) (B := dot3 p.s (crs3 d q.s)) (C := dot3 (sub3 p.k q.k) (crs3 d q.s) - q.W d) (b3.neg.mono (by omega)) (b2.mono (by omega)) ((b1.subM bE).mono (by omega)) fun x => ?_⟩
  · simp only [Rat.intCast_neg]
    unfold bN
    grind
  · simp only [Rat.intCast_neg, Rat.intCast_sub]
    unfold bN
    grind
theorem hgt_HF (hW : p.W d ≠ 0) (hE : q.W d ≠ 0) (h1 : Bd3 n p.k) (h2 : Bd3 n p.s) (h3 : Bd3 n p.o) (h4 : Bd3 n q.k) (h5 : Bd3 n q.s) (h6 : Bd3 n q.o) : HF (3 * n + 6) (hgt p q d).at := by
  have hw := cast_ne hW
  have he := cast_ne hE
  have hn : Bd3 (n + n + 1) q.n := h5.crs h6
  have b1 := hn.dot (h4.sub h1)
  have b2 := hn.dot h2
  have b3 := hn.dot h3
  refine HF.one (D := (q.W d : Rat) / (p.W d : Rat)) (A := -dot3 q.n p.o) (B := dot3 q.n p.s) (C := -dot3 q.n (sub3 q.k p.k)) (fun z => ?_) (b3.neg.mono (by omega)) (b2.mono (by omega)) (b1.neg.mono (by omega)) fun x => ?_
  · have : (q.W d : Rat) / (p.W d : Rat) * (p.W d : Rat) = q.W d := by grind
    rw [z] at this
    grind
  · simp only [Rat.intCast_neg]
    unfold Hgt.at hgt
    dsimp only
    grind
end

/-! ### a part made tidy, turned about where its share is below 0; the part of both: the program's steps -/
def bothT (ps os : List Pt) : List Pt := if ps = [] ∨ os = [] then [] else tidP (cutN ps os os.length)
theorem sp_tidiedT {ps : List Pt} {P : D → Prop} {m n N : Nat} (hl : ps.length ≤ 2000) (hm1 : 1 ≤ m) (hb : ∀ p ∈ ps, RP m p) (hm : 8 * m < 9000) (hn1 : 1 ≤ n) (hf : ∀ p ∈ fnd ps, HP n p) (hfl : (fnd ps).length ≤ N) (hN : N ≤ 1000) (hz : 2 * n * N + 2 * n + 4 < 9000)
    {dp : D} (hdp : D.lst (ps.map pD) = dp) (h : P (.lst ((tidP ps).map pD))) : (f_tidied_part [dp]).wp P NoE := by
  have hx := fun {K : Int} => ix_pt hdp (K := K)
  have hy := fun {K : Int} => ix_prev hdp (K := K)
  have hn := len_pt hdp
  have hpb := fun k => pt_RP hm1 hb k
  obtain ⟨L, hL⟩ : ∃ L : Int, (ps.length : Int) = L := ⟨_, rfl⟩
  rw [hL] at hn
  rw [hL] at hx
  rw [hL] at hy
  wtm_at "y_in"
  repeat' wtm_at "y_dy"
  refine g_ot hn ?_
  repeat' ((fail_if_success (with_reducible show Fits _ _)); wtm_at "y_dy")
  unfold rangeD
  refine f_its (by rw [List.length_map, List.length_range, sizeLine_eq]; omega) ?_
  repeat' ((fail_if_success (with_reducible show Dy.Got (compS _ _ _ _ _) _)); wtm_at "y_dy")
  refine c_listG (f := fun (i : Nat) => D.int (0 + (i : Int))) (keep := fun k => !decide ((pt ps k).1 = (pt ps (prev ps.length k)).1 ∧ (pt ps k).2 = (pt ps (prev ps.length k)).2) || decide (ps.length = 1)) (g := fun i => pD (pt ps i)) (fun i hi => ?_) ?_
  · have hi := List.mem_range.mp hi
    obtain ⟨K, hK⟩ : ∃ K : Int, (0 : Int) + (i : Int) = K := ⟨_, rfl⟩
    have eK : K.toNat = i := by omega
    have e1 := hx (K := K) (by omega) (by omega)
    have e2 := hy (K := K) (by omega) (by omega)
    rw [eK] at e1 e2
    have el : decide (ps.length = 1) = decide (L = 1) := decide_eq_decide.mpr (by omega)
    rw [hK, el]
    generalize pt ps i = p at e1 e2 ⊢
    generalize pt ps (prev ps.length i) = q at e2 ⊢
    repeat' wtm_at "y_dy"
    refine g_ot e1 ?_
    repeat' wtm_at "y_dy"
    refine g_ot e2 ?_
    refine w_neRR ?_
    have fin : (eBin oIx (eVar 0) (eVar 4) [.val dp, .un, .un, .un, .val (.int K), .un]).wp (fun v => v = pD p) NoE := by
      repeat' wtm_at "y_dy"
      exact g_ot e1 rfl
    repeat' wtm_at "y_dy"
    · rename_i z
      exact ⟨by rw [decide_f z]; rfl, fun _ => fin⟩
    · rename_i z
      refine g_ot hn ?_
      repeat' wtm_at "y_dy"
      refine ⟨by rw [decide_t z]; rfl, fun _ => fin⟩
  have eU : List.map (fun i => pD (pt ps i)) (List.filter (fun k => !decide ((pt ps k).1 = (pt ps (prev ps.length k)).1 ∧ (pt ps k).2 = (pt ps (prev ps.length k)).2) || decide (ps.length = 1)) (List.range L.toNat)) = (unl ps).map pD := by
    unfold unl
    rw [List.map_map, show L.toNat = ps.length by omega]
    rfl
  rw [eU]
  have ul : (unl ps).length ≤ 2000 := Nat.le_trans unl_len hl
  have ub : ∀ p ∈ unl ps, RP m p := fun p hp => hb p (unl_mem hp)
  have eF : fnd ps = fndN (unl ps) (unl ps).length := rfl
  unfold tidP at h
  rw [eF] at h hf hfl
  clear eF eU hx hy hn hpb hL hb hl hdp
  generalize unl ps = us at ul ub h hf hfl ⊢
  generalize hdu : D.lst (us.map pD) = du
  have hx := fun {K : Int} => ix_pt hdu (K := K)
  have hy := fun {K : Int} => ix_prev hdu (K := K)
  have hn := len_pt hdu
  have hpb := fun k => pt_RP hm1 ub k
  clear hdu
  obtain ⟨M, hM⟩ : ∃ M : Int, (us.length : Int) = M := ⟨_, rfl⟩
  rw [hM] at hn
  rw [hM] at hx
  rw [hM] at hy
  repeat' (first | wtm_at "y_dy" | (with_reducible refine g_ot hn ?_))
  refine forS_inv (fun k ρ => ∃ w : Sl, ρ = [.val dp, .val du, .val (.int M), .own ((fndN us k).map pD), w, .un]) ⟨_, rfl⟩ ?_ ?_
  · rintro k _ _ ed ⟨w, rfl⟩
    obtain ⟨rfl, hk⟩ := rangeD_get ed
    have hk2 : k < us.length := by omega
    have hm2 : (k + 1) % us.length < us.length := Nat.mod_lt _ (by omega)
    have hlk := fndN_len (us := us) k
    obtain ⟨K, hK⟩ : ∃ K : Int, (0 : Int) + (k : Int) = K := ⟨_, rfl⟩
    have eK : K.toNat = k := by omega
    have em : ((K + 1) % M).toNat = (k + 1) % us.length := by
      rw [← hK, ← hM, show (0 : Int) + k + 1 = ((k + 1 : Nat) : Int) by omega]
      have : ((k + 1 : Nat) : Int) % (us.length : Int) = (((k + 1) % us.length : Nat) : Int) := rfl
      omega
    have e1 := hx (K := K) (by omega) (by omega)
    have e2 := hy (K := K) (by omega) (by omega)
    have e3 := hx (K := (K + 1) % M) (Int.emod_nonneg _ (by omega)) (Int.emod_lt_of_pos _ (by omega))
    rw [eK] at e1 e2
    rw [em] at e3
    have b1 := hpb k
    have b2 := hpb (prev us.length k)
    have b3 := hpb ((k + 1) % us.length)
    have kA : fndN us (k + 1) = fndN us k ++ if turnR (pt us (prev us.length k)) (pt us k) (pt us ((k + 1) % us.length)) = 0 then [] else [pt us k] := rfl
    rw [hK]
    generalize pt us k = p at e1 b1 kA
    generalize pt us (prev us.length k) = q at e2 b2 kA
    generalize pt us ((k + 1) % us.length) = r at e3 b3 kA
    have hs0 : ((fndN us k).map pD).length < sizeLine := by rw [List.length_map, sizeLine_eq]; omega
    generalize hR : fndN us k = R at kA hs0 ⊢
    have e1 : oIx du (.int K) = some (pD p) := e1
    have e2 : oIx du (.int (K - 1)) = some (pD q) := e2
    have e3 : oIx du (.int ((K + 1) % M)) = some (pD r) := e3
    repeat' wtm_at "y_dy"
    refine g_ot e2 ?_
    repeat' wtm_at "y_dy"
    refine g_ot e1 ?_
    repeat' wtm_at "y_dy"
    refine g_ot e3 ?_
    repeat' wtm_at "y_dy"
    refine sp_turnW b2 b1 b3 (by omega) ?_
    repeat' wtm_at "y_dy"
    rw [show D.tup [.int 0, .int 1] = rD 0 from rfl]
    refine w_neR ?_
    repeat' wtm_at "y_dy"
    · rename_i z
      refine g_ot e1 ?_
      repeat' wtm_at "y_dy"
      refine ⟨.val (.int K), ?_⟩
      rw [kA, if_neg z, List.map_append]
      rfl
    · rename_i z
      refine ⟨.val (.int K), ?_⟩
      rw [kA, if_pos z, List.append_nil]
  rintro _ ⟨w, rfl⟩
  have eL : (rangeD 0 M.toNat).length = us.length := by simp only [rangeD, List.length_map, List.length_range]; omega
  rw [eL]
  have fb : ∀ p ∈ fndN us us.length, RP m p := fun p hp => by
    obtain ⟨k, hk, rfl, _⟩ := fndN_mem (Nat.le_refl _) hp
    exact hpb k
  clear hx hy hn hpb hM eL
  generalize fndN us us.length = fs at h hf hfl fb ⊢
  clear ub ul
  repeat' (first | ((fail_if_success (with_reducible show Dy.Got (oLen _) _)); wtm_at "y_dy"))
  generalize hdf : D.lst (fs.map pD) = df
  have hn := len_pt hdf
  obtain ⟨M', hM'⟩ : ∃ M' : Int, (fs.length : Int) = M' := ⟨_, rfl⟩
  rw [hM'] at hn
  refine g_ot hn ?_
  obtain ⟨gs, hgs⟩ : ∃ gs, (if cyc fs < 0 then fs.reverse else fs) = gs := ⟨_, rfl⟩
  rw [hgs] at h
  have hgl : gs.length = fs.length := by
    rw [← hgs]
    split
    · exact List.length_reverse
    · rfl
  repeat' (first | ((fail_if_success (with_reducible show SR.wp (sSeq (sFreeze _ _) _ _) _ _ _)); (fail_if_success (with_reducible show SR.wp (sSeq (sNR (sFreeze _ _)) _ _) _ _ _)); wtm_at "y_dy"))
  · have hr : rotR gs = [] := by unfold rotR; rw [if_pos (by omega)]
    rw [hr] at h
    exact h
  · have h3 : ¬ gs.length < 3 := by omega
    have hr : rotR gs = gs.drop (fstN gs (gs.length - 1)) ++ gs.take (fstN gs (gs.length - 1)) := by unfold rotR; rw [if_neg h3]
    rw [hr] at h
    have hcb := cyc_RBW hn1 hf hfl
    have q3 : (2 * n + 3) * (N + 1) = 2 * n * N + 2 * n + 3 * N + 3 := by rw [Nat.mul_succ, Nat.add_mul]; omega
    have hneg : (Rat.divInt 1 2 * cyc fs < 0) ↔ cyc fs < 0 := by
      rw [show Rat.divInt 1 2 = (1 : Rat) / 2 by decide +kernel]
      exact ⟨fun h => by grind, fun h => by grind⟩
    refine sp_seq (SR.wp.imp (N := fun ρ => ρ = [.val dp, .val du, .val (.int M), .val (D.lst (gs.map pD)), w, .un]) (T := fun _ => False) (E := fun _ _ => False) ?_ ?_ (fun _ z => z.elim) fun _ _ z => z.elim)
    · repeat' (first | wtm_at "y_dy")
      refine sp_shareW hn1 hdf hfl hN hf hz ?_
      repeat' wtm_at "y_dy"
      refine sp_under_0 hcb (by omega) ?_
      by_cases hc : cyc fs < 0
      · rw [decide_t (hneg.mpr hc)]
        have hv : oRev df = some (D.lst (gs.map pD)) := by
          rw [← hdf, ← hgs, if_pos hc, List.map_reverse]
          rfl
        repeat' (first | wtm_at "y_dy" | (with_reducible refine g_ot hv ?_))
        rfl
      · rw [decide_f (fun z => hc (hneg.mp z))]
        repeat' wtm_at "y_dy"
        rw [← hgs, if_neg hc, hdf]
    have fb2 : ∀ p ∈ gs, RP m p := fun p hp => by
      rw [← hgs] at hp
      split at hp
      · exact fb p (List.mem_reverse.mp hp)
      · exact fb p hp
    have hfl2 : gs.length ≤ N := by omega
    rintro _ rfl
    clear hf hfl hneg hcb hn hr
    clear hdf
    rw [← hgl] at hM'
    clear hgl hgs fb
    generalize gs = fs at *
    generalize hdf : D.lst (fs.map pD) = df
    have fb := fb2
    have hn := len_pt hdf
    rw [hM'] at hn
    have ix : ∀ k : Nat, k < fs.length → oIx df (.int k) = some (pD (pt fs k)) := fun k hk => by
      have := ix_pt hdf (K := k) (by omega) (by omega)
      rw [Int.toNat_natCast] at this
      exact this
    have hle := fst_lt (fs := fs) (by omega)
    have sl1 : oSl df (some ((fstN fs (fs.length - 1) : Nat) : Int)) none = some (.lst ((fs.drop (fstN fs (fs.length - 1))).map pD)) := by
      rw [← hdf, ← cut_from (by omega)]
      rfl
    have sl2 : oSl df none (some ((fstN fs (fs.length - 1) : Nat) : Int)) = some (.lst ((fs.take (fstN fs (fs.length - 1))).map pD)) := by
      rw [← hdf, ← cut_upto (by omega)]
      rfl
    have hpb := fun k => pt_RP hm1 fb k
    repeat' (first | wtm_at "y_dy" | (with_reducible refine g_ot hn ?_))
    refine forS_inv (fun k ρ => ∃ w : Sl, ρ = [.val dp, .val du, .val (.int M), .val df, w, .val (.int (fstN fs k : Nat))]) ⟨_, rfl⟩ ?_ ?_
    · rintro k _ _ ed ⟨w, rfl⟩
      obtain ⟨rfl, hk⟩ := rangeD_get ed
      have hk3 : k + 1 < fs.length := by omega
      have h1 := fstN_le (fs := fs) k
      have e1 := ix (k + 1) (by omega)
      have e2 := ix (fstN fs k) (by omega)
      have b1 := hpb (k + 1)
      have b2 := hpb (fstN fs k)
      have eN : fstN fs (k + 1) = if before (pt fs (k + 1)) (pt fs (fstN fs k)) = true then k + 1 else fstN fs k := rfl
      obtain ⟨F, hF⟩ : ∃ F : Int, ((fstN fs k : Nat) : Int) = F := ⟨_, rfl⟩
      obtain ⟨K, hK⟩ : ∃ K : Int, ((k + 1 : Nat) : Int) = K := ⟨_, rfl⟩
      have hK2 : (1 : Int) + (k : Int) = K := by omega
      rw [hF] at e2 ⊢
      rw [hK] at e1
      rw [hK2]
      generalize pt fs (k + 1) = p at e1 b1 eN
      generalize pt fs (fstN fs k) = q at e2 b2 eN
      repeat' wtm_at "y_dy"
      refine g_ot e1 ?_
      repeat' wtm_at "y_dy"
      refine g_ot e2 ?_
      repeat' wtm_at "y_dy"
      refine sp_beforeW b1 b2 (by omega) ?_
      cases hbf : before p q with
      | true =>
        repeat' wtm_at "y_dy"
        exact ⟨.val (.int K), by rw [eN, if_pos hbf, hK]⟩
      | false =>
        repeat' wtm_at "y_dy"
        exact ⟨.val (.int K), by rw [eN, if_neg (by rw [hbf]; decide), hF]⟩
    rintro _ ⟨w2, rfl⟩
    have eR : (rangeD 1 (M' - 1).toNat).length = fs.length - 1 := by simp only [rangeD, List.length_map, List.length_range]; omega
    rw [eR]
    obtain ⟨F, hF⟩ : ∃ F : Int, ((fstN fs (fs.length - 1) : Nat) : Int) = F := ⟨_, rfl⟩
    rw [hF] at sl1 sl2 ⊢
    rw [List.map_append] at h
    have l1 : (fs.drop (fstN fs (fs.length - 1))).length ≤ fs.length := by rw [List.length_drop]; omega
    have l2 : (fs.take (fstN fs (fs.length - 1))).length ≤ fs.length := by rw [List.length_take]; omega
    generalize fs.drop (fstN fs (fs.length - 1)) = d1 at *
    generalize fs.take (fstN fs (fs.length - 1)) = d2 at *
    repeat' (first | ((fail_if_success (with_reducible show Dy.Got (oAdd _ _) _)); wtm_at "y_dy") | (with_reducible refine g_ot sl1 ?_) | (with_reducible refine g_ot sl2 ?_))
    refine w_addL (by simp only [List.length_map]; rw [sizeLine_eq]; omega) ?_
    exact h
theorem sp_bothT {ps os : List Pt} {P : D → Prop} {m k n N : Nat} (hq : ∀ j, j ≤ os.length → (∀ p ∈ cutN ps os j, RP m p) ∧ (cutN ps os j).length ≤ 2000) (hm1 : 1 ≤ m) (ho : ∀ p ∈ os, RP k p) (hz : 18 * k + 9 * m + 30 < 9000)
    (hn1 : 1 ≤ n) (hf : ps ≠ [] → os ≠ [] → (∀ p ∈ fnd (cutN ps os os.length), HP n p) ∧ (fnd (cutN ps os os.length)).length ≤ N) (hN : N ≤ 1000) (hw : 2 * n * N + 2 * n + 4 < 9000) (hol : os.length ≤ 2000)
    {dp dO : D} (hdp : D.lst (ps.map pD) = dp) (hdO : D.lst (os.map pD) = dO) (h : P (.lst ((bothT ps os).map pD))) : (f_both_of [dp, dO]).wp P NoE := by
  have e1 := eq_nilW hdp
  have e2 := eq_nilW hdO
  have hn := len_pt hdO
  obtain ⟨L, hL⟩ : ∃ L : Int, (os.length : Int) = L := ⟨_, rfl⟩
  rw [hL] at hn
  have ix : ∀ k : Nat, k < os.length → oIx dO (.int k) = some (pD (pt os k)) := fun k hk => by
    have := ix_pt hdO (K := k) (by omega) (by omega)
    rw [Int.toNat_natCast] at this
    exact this
  have hpo : ∀ j, j < os.length → RP k (pt os j) := fun j hj => ho _ (pt_mem hj)
  have c0 : D.lst ((cutN ps os 0).map pD) = dp := hdp
  wtm_at "y_in"
  unfold bothT at h
  by_cases z1 : ps = []
  · rw [if_pos (.inl z1)] at h
    rw [decide_eq_true z1] at e1
    repeat' (first | wtm_at "y_dy" | (with_reducible refine g_ot e1 ?_))
    exact h
  rw [decide_eq_false z1] at e1
  by_cases z2 : os = []
  · rw [if_pos (.inr z2)] at h
    rw [decide_eq_true z2] at e2
    repeat' (first | wtm_at "y_dy" | (with_reducible refine g_ot e1 ?_) | (with_reducible refine g_ot e2 ?_))
    exact h
  rw [decide_eq_false z2] at e2
  rw [if_neg (fun z => z.elim z1 z2)] at h
  obtain ⟨f1, f2⟩ := hf z1 z2
  have hE := hq os.length (Nat.le_refl _)
  repeat' (first | wtm_at "y_dy" | (with_reducible refine g_ot e1 ?_) | (with_reducible refine g_ot e2 ?_) | (with_reducible refine g_ot hn ?_))
  refine forS_inv (fun k ρ => ∃ w1 w2 w3 w4 : Sl, ρ = [.val dp, .val dO, .val (.lst ((cutN ps os k).map pD)), w1, w2, w3, w4]) ⟨_, _, _, _, by rw [c0]⟩ ?_ ?_
  · rintro j _ _ ed ⟨w1, w2, w3, w4, rfl⟩
    obtain ⟨rfl, hk⟩ := rangeD_get ed
    have hk4 : j < os.length := by omega
    have hm : (j + 1) % os.length < os.length := Nat.mod_lt _ (by omega)
    have em : ((j : Int) + 1) % L = (((j + 1) % os.length : Nat) : Int) := by rw [← hL]; rfl
    have i1 := ix j hk4
    have i2 := ix _ hm
    have p1 := hpo j hk4
    have p2 := hpo _ hm
    obtain ⟨hq, hl⟩ := hq j (by omega)
    have kA : cutN ps os (j + 1) = kept (cutN ps os j) (turnR (pt os j) (pt os ((j + 1) % os.length))) := rfl
    obtain ⟨K, hK⟩ : ∃ K : Int, (0 : Int) + (j : Int) = K := ⟨_, rfl⟩
    have eK : (j : Int) = K := by omega
    rw [hK]
    rw [← em] at i2
    rw [eK] at i1 i2
    generalize pt os j = a at i1 p1 kA
    generalize pt os ((j + 1) % os.length) = b at i2 p2 kA
    rw [kA]
    clear kA
    generalize cutN ps os j = qs at hq hl ⊢
    generalize hdq : D.lst (qs.map pD) = dq
    have it : iterD dq = some (qs.map pD) := by rw [← hdq]; rfl
    repeat' ((fail_if_success (with_reducible show Dy.Got (compS _ _ _ _ _) _)); first | wtm_at "y_dy" | (with_reducible refine g_ot i1 ?_) | (with_reducible refine g_ot hn ?_) | (with_reducible refine g_ot i2 ?_) | (with_reducible refine g_ot it ?_))
    refine c_mapG (f := pD) (g := fun p => rD (turnR a b p)) (fun p hp => ?_) ?_
    · refine w_bName ?_
      repeat' wtm_at "y_dy"
      exact sp_turnW p1 p2 (hq p hp) (by omega) rfl
    generalize hdh : D.lst (qs.map fun p => rD (turnR a b p)) = dh
    repeat' wtm_at "y_dy"
    refine sp_keptW (h := turnR a b) (n := 6 * k + 2 * m + 3) (m := m) hl hq (fun p hp => turn_RB p1 p2 (hq p hp)) (by omega) ?_ hdq hdh
    repeat' wtm_at "y_dy"
    exact ⟨_, _, _, _, rfl⟩
  rintro _ ⟨w1, w2, w3, w4, rfl⟩
  have eL : (rangeD 0 L.toNat).length = os.length := by simp only [rangeD, List.length_map, List.length_range]; omega
  rw [eL]
  generalize cutN ps os os.length = qs at hE f1 f2 h ⊢
  generalize hdq : D.lst (qs.map pD) = dq
  repeat' wtm_at "y_dy"
  exact sp_tidiedT hE.2 hm1 hE.1 (by omega) hn1 f1 f2 hN hw hdq h

/-! ### what is left of points all round where heights are not below 0, the points of any kind -/
section
variable {α : Type} [Inhabited α]
def atG (ps : List α) (k : Nat) : α := ps.getD k default
theorem atG_get {ps : List α} {k : Nat} (hk : k < ps.length) : ps[k]? = some (atG ps k) := by
  unfold atG
  rw [List.getD_eq_getElem?_getD, List.getElem?_eq_getElem hk]
  rfl
def keepG (bt : α → α → Rat → Rat → α) (ps : List α) (h : Nat → Rat) (k : Nat) : List α := (if h k < 0 then [] else [atG ps k]) ++ (if h k * h ((k + 1) % ps.length) < 0 then [bt (atG ps k) (atG ps ((k + 1) % ps.length)) (h k) (h ((k + 1) % ps.length))] else [])
def keptG (bt : α → α → Rat → Rat → α) (ps : List α) (h : Nat → Rat) : Nat → List α
  | 0 => []
  | n + 1 => keptG bt ps h n ++ keepG bt ps h n
theorem keptG_len {bt : α → α → Rat → Rat → α} {ps : List α} {h : Nat → Rat} : ∀ n, (keptG bt ps h n).length ≤ 2 * n
  | 0 => Nat.le_refl _
  | n + 1 => by
    have := keptG_len (bt := bt) (ps := ps) (h := h) n
    unfold keptG keepG
    rw [List.length_append, List.length_append]
    have e1 : (if h n < 0 then ([] : List α) else [atG ps n]).length ≤ 1 := by split <;> simp
    have e2 : (if h n * h ((n + 1) % ps.length) < 0 then [bt (atG ps n) (atG ps ((n + 1) % ps.length)) (h n) (h ((n + 1) % ps.length))] else ([] : List α)).length ≤ 1 := by split <;> simp
    omega
theorem keptG_all {bt : α → α → Rat → Rat → α} {ps : List α} {h : Nat → Rat} {Q : α → Prop} (h1 : ∀ k, k < ps.length → Q (atG ps k)) (h2 : ∀ k, k < ps.length → h k * h ((k + 1) % ps.length) < 0 → Q (bt (atG ps k) (atG ps ((k + 1) % ps.length)) (h k) (h ((k + 1) % ps.length)))) : ∀ n, n ≤ ps.length → ∀ x ∈ keptG bt ps h n, Q x
  | 0, _, x, hx => nomatch hx
  | n + 1, hn, x, hx => by
    unfold keptG at hx
    rcases List.mem_append.mp hx with hx | hx
    · exact keptG_all h1 h2 n (by omega) x hx
    · unfold keepG at hx
      rcases List.mem_append.mp hx with hx | hx
      · split at hx
        · exact nomatch hx
        · rw [List.mem_singleton.mp hx]
          exact h1 n (by omega)
      · split at hx
        · rename_i z
          rw [List.mem_singleton.mp hx]
          exact h2 n (by omega) z
        · exact nomatch hx
theorem keptG_map {bt : α → α → Rat → Rat → α} {ps : List α} {h : Nat → Rat} {g : α → Pt} {hg : Pt → Rat} (e1 : ∀ k, k < ps.length → hg (g (atG ps k)) = h k) (e2 : ∀ k, k < ps.length → h k * h ((k + 1) % ps.length) < 0 → g (bt (atG ps k) (atG ps ((k + 1) % ps.length)) (h k) (h ((k + 1) % ps.length))) = btw (g (atG ps k)) (g (atG ps ((k + 1) % ps.length))) (h k) (h ((k + 1) % ps.length))) : ∀ n, n ≤ ps.length → (keptG bt ps h n).map g = keptR (ps.map g) hg n
  | 0, _ => rfl
  | n + 1, hn => by
    have ep : ∀ k, k < ps.length → pt (ps.map g) k = g (atG ps k) := fun k hk => by
      unfold pt
      rw [List.getD_eq_getElem?_getD, List.getElem?_map, atG_get hk]
      rfl
    have hm : (n + 1) % ps.length < ps.length := Nat.mod_lt _ (by omega)
    show (keptG bt ps h n ++ keepG bt ps h n).map g = keptR (ps.map g) hg n ++ keepAt (ps.map g) hg n
    rw [List.map_append, keptG_map e1 e2 n (by omega)]
    congr 1
    unfold keepG keepAt
    rw [List.length_map, ep n (by omega), ep _ hm, e1 n (by omega), e1 _ hm, List.map_append]
    congr 1
    · split <;> rfl
    · by_cases z : h n * h ((n + 1) % ps.length) < 0
      · rw [if_pos z, if_pos z]
        show [g _] = _
        rw [e2 n (by omega) z]
      · rw [if_neg z, if_neg z]
        rfl
theorem sp_keptG {fD : α → D} {bt : α → α → Rat → Rat → α} {ps : List α} {h : Nat → Rat} {P : D → Prop} {n : Nat} (hl : ps.length ≤ 2000) (hh : ∀ k, k < ps.length → RB n n (h k)) (hz : 2 * n < 9000) (hb : ∀ k, k < ps.length → h k * h ((k + 1) % ps.length) < 0 → ∀ {P : D → Prop}, P (fD (bt (atG ps k) (atG ps ((k + 1) % ps.length)) (h k) (h ((k + 1) % ps.length)))) → (f_between [fD (atG ps k), fD (atG ps ((k + 1) % ps.length)), rD (h k), rD (h ((k + 1) % ps.length))]).wp P NoE)
    (hP : P (.lst ((keptG bt ps h ps.length).map fD))) {dp dh : D} (hdp : D.lst (ps.map fD) = dp) (hdh : D.lst ((List.range ps.length).map fun k => rD (h k)) = dh) : (f_kept_side [dp, dh]).wp P NoE := by
  have hx : ∀ k : Nat, k < ps.length → oIx dp (.int k) = some (fD (atG ps k)) := fun k hk => by
    rw [← hdp]
    refine atI_nat ?_
    rw [List.getElem?_map, atG_get hk]
    rfl
  have hy : ∀ k : Nat, k < ps.length → oIx dh (.int k) = some (rD (h k)) := fun k hk => by
    rw [← hdh]
    refine atI_nat ?_
    rw [List.getElem?_map, List.getElem?_range hk]
    rfl
  have hn : oLen [dp] = some (.int ps.length) := by
    rw [← hdp]
    show some (D.int ((ps.map fD).length : Nat)) = _
    rw [List.length_map]
  obtain ⟨L, hL⟩ : ∃ L : Int, (ps.length : Int) = L := ⟨_, rfl⟩
  rw [hL] at hn
  wtm_at "y_in"
  repeat' wtm_at "y_dy"
  refine g_ot hn ?_
  repeat' ((fail_if_success (with_reducible show SR.wp (forS _ _ _ _) _ _ _)); wtm_at "y_dy")
  refine forS_inv (fun k ρ => ∃ (w1 w2 : Sl), ρ = [.val dp, .val dh, .own ((keptG bt ps h k).map fD), w1, w2]) ⟨_, _, rfl⟩ ?_ ?_
  · rintro k _ _ ed ⟨w1, w2, rfl⟩
    obtain ⟨rfl, hk⟩ := rangeD_get ed
    have hk2 : k < ps.length := by omega
    have hm2 : (k + 1) % ps.length < ps.length := Nat.mod_lt _ (by omega)
    have hlk := keptG_len (bt := bt) (ps := ps) (h := h) k
    have ek := hx k hk2
    have eh := hy k hk2
    have ek' := hx _ hm2
    have eh' := hy _ hm2
    have em : ((k : Int) + 1) % L = (((k + 1) % ps.length : Nat) : Int) := by rw [← hL]; rfl
    have c1 := hh _ hk2
    have c2 := hh _ hm2
    have bb := fun z {P : D → Prop} => hb k hk2 z (P := P)
    have kA : keptG bt ps h (k + 1) = keptG bt ps h k ++ keepG bt ps h k := rfl
    unfold keepG at kA
    generalize hm : (k + 1) % ps.length = m' at ek' eh' em c2 kA bb
    generalize h k = u at eh c1 kA bb
    generalize h m' = v at eh' c2 kA bb
    generalize atG ps k = p at ek kA bb
    generalize atG ps m' = q at ek' kA bb
    rw [Int.zero_add]
    obtain ⟨K, hK⟩ : ∃ K : Int, (k : Int) = K := ⟨_, rfl⟩
    obtain ⟨M, hM⟩ : ∃ M : Int, (m' : Int) = M := ⟨_, rfl⟩
    rw [hK] at ek eh em ⊢
    rw [hM] at ek' eh' em
    have hs0 : ((keptG bt ps h k).map fD).length < sizeLine := by rw [List.length_map, sizeLine_eq]; omega
    repeat' wtm_at "y_dy"
    refine g_ot hn ?_
    repeat' ((fail_if_success (with_reducible show SR.wp (sSeq (sIf _ _ _) _ _) _ _ _)); wtm_at "y_dy")
    rw [em]
    generalize hR : keptG bt ps h k = R at hlk kA hs0 ⊢
    refine sp_seq (SR.wp.imp (N := fun ρ => ρ = [.val dp, .val dh, .own ((R ++ if u < 0 then [] else [p]).map fD), .val (.int K), .val (.int M)]) (T := P) (E := fun _ _ => False) ?_ ?_ (fun _ z => z) fun _ _ z => z)
    · repeat' wtm_at "y_dy"
      refine g_ot eh ?_
      repeat' wtm_at "y_dy"
      refine sp_under_0 c1 (by omega) ?_
      repeat' wtm_at "y_dy"
      · rename_i z
        refine g_ot ek ?_
        repeat' wtm_at "y_dy"
        rw [if_neg z, List.map_append]
        rfl
      · rename_i z
        rw [if_pos (by grind), List.append_nil]
    rintro _ rfl
    have l1 : (if u < 0 then ([] : List α) else [p]).length ≤ 1 := by split <;> simp
    have hs1 : ((R ++ if u < 0 then [] else [p]).map fD).length < sizeLine := by rw [List.length_map, List.length_append, sizeLine_eq]; omega
    rw [← List.append_assoc] at kA
    generalize (R ++ if u < 0 then [] else [p]) = R1 at kA hs1 ⊢
    repeat' wtm_at "y_dy"
    refine g_ot eh ?_
    repeat' wtm_at "y_dy"
    refine g_ot eh' ?_
    repeat' wtm_at "y_dy"
    refine sp_ratio_times c1 c2 (by omega) ?_
    repeat' wtm_at "y_dy"
    refine sp_under_0 (c1.mul c2) (by omega) ?_
    repeat' wtm_at "y_dy"
    · rename_i z
      refine g_ot ek ?_
      repeat' wtm_at "y_dy"
      refine g_ot ek' ?_
      repeat' wtm_at "y_dy"
      refine g_ot eh ?_
      repeat' wtm_at "y_dy"
      refine g_ot eh' ?_
      repeat' wtm_at "y_dy"
      refine bb z ?_
      repeat' wtm_at "y_dy"
      refine ⟨.val (.int K), .val (.int M), ?_⟩
      rw [kA, if_pos z, List.map_append]
      rfl
    · rename_i z
      refine ⟨.val (.int K), .val (.int M), ?_⟩
      rw [kA, if_neg z, List.append_nil]
  · rintro _ ⟨w1, w2, rfl⟩
    have eL : (rangeD 0 L.toNat).length = ps.length := by simp only [rangeD, List.length_map, List.length_range]; omega
    rw [eL]
    repeat' wtm_at "y_dy"
    exact hP
end
/-! #### points of three fractions -/
abbrev Q3 := Rat × Rat × Rat
def q3D (p : Q3) : D := .tup [rD p.1, rD p.2.1, rD p.2.2]
def btw3 (p q : Q3) (u v : Rat) : Q3 := (p.1 + u / (u - v) * (q.1 - p.1), p.2.1 + u / (u - v) * (q.2.1 - p.2.1), p.2.2 + u / (u - v) * (q.2.2 - p.2.2))
def RP3 (n : Nat) (p : Q3) : Prop := RB n n p.1 ∧ RB n n p.2.1 ∧ RB n n p.2.2
theorem sp_between3 {p q : Q3} {u v : Rat} {P : D → Prop} {n m : Nat} (hp : RP3 m p) (hq : RP3 m q) (hu : RB n n u) (hv : RB n n v) (hs0 : 3 * n + 3 * m + 10 < 9000) (hd : u - v ≠ 0) (h : P (q3D (btw3 p q u v))) : (f_between [q3D p, q3D q, rD u, rD v]).wp P NoE := by
  have h : P (.tup [rD (p.1 + u / (u - v) * (q.1 - p.1)), rD (p.2.1 + u / (u - v) * (q.2.1 - p.2.1)), rD (p.2.2 + u / (u - v) * (q.2.2 - p.2.2))]) := h
  have hs : RB (3 * n + 1) (3 * n + 1) (u / (u - v)) := (hu.div hd (hu.sub hv)).mono (by omega) (by omega)
  obtain ⟨p1, p2, p3⟩ := p
  obtain ⟨q1, q2, q3⟩ := q
  obtain ⟨hp1, hp2, hp3⟩ := hp
  obtain ⟨hq1, hq2, hq3⟩ := hq
  dsimp only at hp1 hp2 hp3 hq1 hq2 hq3 h
  unfold q3D
  wtm_at "y_in"
  repeat' wtm_at "y_dy"
  refine sp_ratio_less hu hv (by omega) ?_
  repeat' wtm_at "y_dy"
  refine sp_ratio_by hd hu (hu.sub hv) (by omega) ?_
  generalize u / (u - v) = s at h hs ⊢
  repeat' wtm_at "y_dy"
  refine sp_ratio_less hq1 hp1 (by omega) ?_
  repeat' wtm_at "y_dy"
  refine sp_ratio_times hs (hq1.sub hp1) (by omega) ?_
  repeat' wtm_at "y_dy"
  refine sp_ratio_sum hp1 (hs.mul (hq1.sub hp1)) (by omega) ?_
  repeat' wtm_at "y_dy"
  refine sp_ratio_less hq2 hp2 (by omega) ?_
  repeat' wtm_at "y_dy"
  refine sp_ratio_times hs (hq2.sub hp2) (by omega) ?_
  repeat' wtm_at "y_dy"
  refine sp_ratio_sum hp2 (hs.mul (hq2.sub hp2)) (by omega) ?_
  repeat' wtm_at "y_dy"
  refine sp_ratio_less hq3 hp3 (by omega) ?_
  repeat' wtm_at "y_dy"
  refine sp_ratio_times hs (hq3.sub hp3) (by omega) ?_
  repeat' wtm_at "y_dy"
  refine sp_ratio_sum hp3 (hs.mul (hq3.sub hp3)) (by omega) ?_
  repeat' wtm_at "y_dy"
  exact h
theorem RB.btw {x y u v : Rat} {n m : Nat} (hx : RB m m x) (hy : RB m m y) (hu : RB n n u) (hv : RB n n v) (hd : u - v ≠ 0) : RB (3 * n + 4 * m + 6) (3 * n + 4 * m + 6) (x + u / (u - v) * (y - x)) := (hx.add ((hu.div hd (hu.sub hv)).mul (hy.sub hx))).mono (by omega) (by omega)

/-! ### what a plate shades of another one -/
/-- a part as the law asks for -/
structure IsPart (F : List Pt) : Prop where
  n : F = [] ∨ 3 ≤ F.length
  t : ∀ k, k < F.length → 0 < turnR (pt F k) (pt F ((k + 1) % F.length)) (pt F (((k + 1) % F.length + 1) % F.length))
  b : ∀ k, 0 < k → k < F.length → before (pt F 0) (pt F k) = true
theorem Tid.part {Ls : List Ln} {A : List PL} (h : Tid Ls A) : IsPart (A.map Prod.fst) := by
  refine ⟨.inr (by rw [List.length_map]; exact h.three), fun k hk => ?_, fun k h0 hk => ?_⟩
  · rw [List.length_map] at hk ⊢
    exact cls_turns h.cl k hk
  · obtain ⟨a, r, e, hb⟩ := h.beg
    rw [e] at hk ⊢
    obtain ⟨j, rfl⟩ : ∃ j, k = j + 1 := ⟨k - 1, by omega⟩
    have hj : j < r.length := by simp only [List.length_cons] at hk; omega
    have e1 : pt (a :: r) (j + 1) = pt r j := rfl
    have e0 : pt (a :: r) 0 = a := rfl
    rw [e0, e1]
    obtain ⟨q1, q2⟩ := hb _ (pt_mem hj)
    exact (before_leX q1 q2).1
theorem part_nil : IsPart [] := ⟨.inl rfl, fun k hk => absurd hk (Nat.not_lt_zero _), fun k _ hk => absurd hk (Nat.not_lt_zero _)⟩
/-- a way so short that it stays strictly left -/
theorem eps_lines (x y : Pt) : ∀ Ls : List Ln, (∀ l ∈ Ls, 0 < ev l x) → ∃ ε : Rat, 0 < ε ∧ ε ≤ 1 ∧ ∀ δ : Rat, 0 ≤ δ → δ ≤ ε → ∀ l ∈ Ls, 0 < (1 - δ) * ev l x + δ * ev l y
  | [], _ => ⟨1, by decide, by decide, fun _ _ _ _ h => nomatch h⟩
  | l :: r, h => by
    obtain ⟨ε, e0, e1, he⟩ := eps_lines x y r fun m hm => h m (List.mem_cons_of_mem _ hm)
    have hx := h l List.mem_cons_self
    have one : ∃ η : Rat, 0 < η ∧ η ≤ 1 ∧ ∀ δ : Rat, 0 ≤ δ → δ ≤ η → 0 < (1 - δ) * ev l x + δ * ev l y := by
      by_cases k : 0 ≤ ev l y
      · refine ⟨1 / 2, by decide +kernel, by decide +kernel, fun δ d0 d1 => ?_⟩
        have a := Rat.mul_pos (show 0 < 1 - δ by grind) hx
        have b := Rat.mul_nonneg d0 k
        grind
      · have hp : 0 < 2 * (ev l x - ev l y) := by grind
        obtain ⟨_, q2, q3, q4⟩ := div_nn (a := ev l x) hp
        have p1 := q3.mpr hx
        have p2 := q2.mpr (by grind)
        have ee : ev l x / (2 * (ev l x - ev l y)) * (2 * (ev l x - ev l y)) = ev l x := by grind
        generalize ev l x / (2 * (ev l x - ev l y)) = η at p1 p2 ee
        refine ⟨η, p1, p2, fun δ d0 d1 => ?_⟩
        have := Rat.mul_nonneg (show 0 ≤ η - δ by grind) (show 0 ≤ ev l x - ev l y by grind)
        grind
    obtain ⟨η, h0, h1, hη⟩ := one
    rcases Rat.le_total (a := ε) (b := η) with q | q
    · refine ⟨ε, e0, e1, fun δ d0 d1 m hm => ?_⟩
      rcases List.mem_cons.mp hm with rfl | hm
      · exact hη δ d0 (by grind)
      · exact he δ d0 d1 m hm
    · refine ⟨η, h0, h1, fun δ d0 d1 m hm => ?_⟩
      rcases List.mem_cons.mp hm with rfl | hm
      · exact hη δ d0 d1
      · exact he δ d0 (by grind) m hm
theorem ev_mid (l : Ln) (x y : Pt) (ε : Rat) : ev l (x.1 + ε * (y.1 - x.1), x.2 + ε * (y.2 - x.2)) = (1 - ε) * ev l x + ε * ev l y := by
  unfold ev
  dsimp only
  grind
section
variable (p q : Pl) (d : V3)
/-- hidden, by the law's own sums -/
def Hid (x : Pt) : Prop := q.W d ≠ 0 ∧ 0 < (hgt p q d).at x ∧ (0 ≤ aN p q d x / (q.W d : Int) ∧ aN p q d x / (q.W d : Int) ≤ 1) ∧ (0 ≤ bN p q d x / (q.W d : Int) ∧ bN p q d x / (q.W d : Int) ≤ 1)
open Classical in
def shadedR : List Pt := if q.W d = 0 ∨ (∀ c ∈ q.corners, p.H c ≤ 0) then [] else bothT (tidP (kept (parC (p.m d q.k) (side p d q.s) (side p d q.o)) (hgt p q d).at)) whole
end
structure Sz (n : Nat) (p q : Pl) (d : V3) : Prop where
  k : Bd3 n p.k
  s : Bd3 n p.s
  o : Bd3 n p.o
  k' : Bd3 n q.k
  s' : Bd3 n q.s
  o' : Bd3 n q.o
  d : Bd3 n d
structure ShF (n : Nat) (p q : Pl) (d : V3) (F : List Pt) : Prop where
  part : IsPart F
  inn : ∀ c ∈ F, ∀ l ∈ linesOf whole, 0 ≤ ev l c
  hp : ∀ c ∈ F, HP (6 * n + 13) c
  len : F.length ≤ 14
  none : F = [] → ∀ x : Pt, Hid p q d x → ¬ ∀ l ∈ linesOf whole, 0 < ev l x
  pos : F ≠ [] → ∀ x : Pt, (∀ e ∈ ringS F, 0 < turnR e.1 e.2 x) → Hid p q d x
  neg : F ≠ [] → ∀ x : Pt, (∀ l ∈ linesOf whole, 0 ≤ ev l x) → Hid p q d x → ∀ e ∈ ringS F, 0 ≤ turnR e.1 e.2 x
/-- what the walk wants of the main way -/
structure ShW (n : Nat) (p q : Pl) (d : V3) : Prop where
  r : ∀ x ∈ kept (parC (p.m d q.k) (side p d q.s) (side p d q.o)) (hgt p q d).at, HP (6 * n + 13) x
  rl : (kept (parC (p.m d q.k) (side p d q.s) (side p d q.o)) (hgt p q d).at).length ≤ 6
  c : ∀ j, j ≤ 4 → (∀ x ∈ cutN (tidP (kept (parC (p.m d q.k) (side p d q.s) (side p d q.o)) (hgt p q d).at)) whole j, HP (6 * n + 13) x) ∧ (cutN (tidP (kept (parC (p.m d q.k) (side p d q.s) (side p d q.o)) (hgt p q d).at)) whole j).length ≤ 14
theorem lines_sz {n : Nat} {p q : Pl} {d : V3} {Ls : List Ln} (hW : 0 < p.W d) (hE : q.W d ≠ 0) (z : Sz n p q d) (sh : ShL (fun x => aN p q d x / (q.W d : Int)) (fun x => bN p q d x / (q.W d : Int)) (hgt p q d) Ls) : ∀ l ∈ Ls, HL (3 * n + 6) l := fun l hl => by
  obtain ⟨κ, hκ, e⟩ := sh.z l hl
  have ha := aN_HF hE z.k z.s z.o z.k' z.s' z.o' z.d
  have hb := bN_HF hE z.k z.s z.o z.k' z.s' z.o' z.d
  have hh := hgt_HF (d := d) (show p.W d ≠ 0 by omega) hE z.k z.s z.o z.k' z.s' z.o'
  rcases e with e | e | e | e | e
  · exact ha.1.hl hκ e
  · exact ha.2.hl hκ e
  · exact hb.1.hl hκ e
  · exact hb.2.hl hκ e
  · exact hh.hl hκ e
theorem whole_HL (n : Nat) : ∀ l ∈ linesOf whole, HL (3 * n + 6) l := fun l hl => (lines_HL whole_HP l hl).mono (by omega)
theorem shaded_facts {n : Nat} {p q : Pl} {d : V3} (hW : 0 < p.W d) (z : Sz n p q d) : ShF n p q d (shadedR p q d) ∧ (q.W d ≠ 0 → (∃ c ∈ q.corners, 0 < p.H c) → ShW n p q d) := by
  have hW0 : p.W d ≠ 0 := by omega
  by_cases hz : q.W d = 0 ∨ ∀ c ∈ q.corners, p.H c ≤ 0
  · have e : shadedR p q d = [] := by unfold shadedR; rw [if_pos hz]
    rw [e]
    refine ⟨⟨part_nil, (fun _ h => nomatch h), (fun _ h => nomatch h), by decide, fun _ x hx _ => ?_, fun h => absurd rfl h, fun h => absurd rfl h⟩, fun hE ⟨c, hc, h0⟩ => ?_⟩
    · obtain ⟨hE, h0, ⟨a0, a1⟩, b0, b1⟩ := hx
      rcases hz with hz | hz
      · exact hE hz
      · have hE' := cast_ne hE
        have hc : crs (side p d q.s) (side p d q.o) ≠ 0 := by
          rw [crs_side hW0]
          intro e
          have : (q.W d : Rat) / (p.W d : Rat) * (p.W d : Rat) = q.W d := by have := cast_ne hW0; grind
          rw [e] at this
          grind
        -- the place is a mean of the corners
        have ha := aP_eq hW0 hE x
        have hb := bP_eq hW0 hE x
        have cor : ∀ c ∈ q.corners, (hgt p q d).at (p.m d c) ≤ 0 := fun c hc' => by
          rw [hgt_at hW0 hE c (corner_in c hc')]
          exact Rat.intCast_nonpos.mpr (hz c hc')
        have cor2 : ∀ y ∈ parC (p.m d q.k) (side p d q.s) (side p d q.o), (hgt p q d).at y ≤ 0 := fun y hy => by
          rw [← corners_par hW0] at hy
          obtain ⟨c, hc', rfl⟩ := List.mem_map.mp hy
          exact cor c hc'
        rw [← ha] at a0 a1
        rw [← hb] at b0 b1
        clear ha hb cor
        generalize p.m d q.k = m at *
        generalize side p d q.s = u at *
        generalize side p d q.o = v at *
        generalize hgt p q d = h at *
        have c0 := cor2 m (.head _)
        have c1 := cor2 (m.1 + u.1, m.2 + u.2) (.tail _ (.head _))
        have c2 := cor2 (m.1 + u.1 + v.1, m.2 + u.2 + v.2) (.tail _ (.tail _ (.head _)))
        have c3 := cor2 (m.1 + v.1, m.2 + v.2) (.tail _ (.tail _ (.tail _ (.head _))))
        have x1 : x.1 = m.1 + aP m v x / crs u v * u.1 + bP m u x / crs u v * v.1 := by
          unfold aP bP
          unfold crs at *
          grind
        have x2 : x.2 = m.2 + aP m v x / crs u v * u.2 + bP m u x / crs u v * v.2 := by
          unfold aP bP
          unfold crs at *
          grind
        generalize aP m v x / crs u v = a at *
        generalize bP m u x / crs u v = b at *
        have key : h.at x = (1 - a) * (1 - b) * h.at m + a * (1 - b) * h.at (m.1 + u.1, m.2 + u.2) + a * b * h.at (m.1 + u.1 + v.1, m.2 + u.2 + v.2) + (1 - a) * b * h.at (m.1 + v.1, m.2 + v.2) := by
          unfold Hgt.at
          dsimp only
          rw [x1, x2]
          grind
        have w1 := Rat.mul_nonneg (Rat.mul_nonneg (show 0 ≤ 1 - a by grind) (show 0 ≤ 1 - b by grind)) (show 0 ≤ -h.at m by grind)
        have w2 := Rat.mul_nonneg (Rat.mul_nonneg a0 (show 0 ≤ 1 - b by grind)) (show 0 ≤ -h.at (m.1 + u.1, m.2 + u.2) by grind)
        have w3 := Rat.mul_nonneg (Rat.mul_nonneg a0 b0) (show 0 ≤ -h.at (m.1 + u.1 + v.1, m.2 + u.2 + v.2) by grind)
        have w4 := Rat.mul_nonneg (Rat.mul_nonneg (show 0 ≤ 1 - a by grind) b0) (show 0 ≤ -h.at (m.1 + v.1, m.2 + v.2) by grind)
        grind
    · exfalso
      rcases hz with hz | hz
      · exact hE hz
      · have := hz c hc
        omega
  · have hE : q.W d ≠ 0 := fun e => hz (.inl e)
    have hc : crs (side p d q.s) (side p d q.o) ≠ 0 := by
      rw [crs_side hW0]
      intro e
      have hE' := cast_ne hE
      have : (q.W d : Rat) / (p.W d : Rat) * (p.W d : Rat) = q.W d := by have := cast_ne hW0; grind
      rw [e] at this
      grind
    have hex : ∃ c ∈ parC (p.m d q.k) (side p d q.s) (side p d q.o), 0 < (hgt p q d).at c := by
      refine Classical.byContradiction fun k => hz (.inr fun c hc' => ?_)
      refine Classical.byContradiction fun k2 => k ⟨p.m d c, ?_, ?_⟩
      · rw [← corners_par hW0]
        exact List.mem_map.mpr ⟨c, hc', rfl⟩
      · rw [hgt_at hW0 hE c (corner_in c hc')]
        exact Rat.intCast_pos.mpr (by omega)
    obtain ⟨Ls, A, S⟩ := shade hc hex
    have fa : (fun x => aP (p.m d q.k) (side p d q.o) x / crs (side p d q.s) (side p d q.o)) = fun x => aN p q d x / (q.W d : Int) := funext fun x => aP_eq hW0 hE x
    have fb : (fun x => bP (p.m d q.k) (side p d q.s) x / crs (side p d q.s) (side p d q.o)) = fun x => bN p q d x / (q.W d : Int) := funext fun x => bP_eq hW0 hE x
    rw [fa, fb] at S
    have sz := lines_sz hW hE z S.sh
    have qe : tidP (kept (parC (p.m d q.k) (side p d q.s) (side p d q.o)) (hgt p q d).at) = A.map Prod.fst := S.e
    have hpts : ∀ x ∈ kept (parC (p.m d q.k) (side p d q.s) (side p d q.o)) (hgt p q d).at, HP (6 * n + 13) x := fun x hx => by
      obtain ⟨l, hl, m, hm, h1, h2, h3⟩ := S.pts x hx
      exact ((sz l hl).meet (sz m hm) h1 h2 h3).mono (by omega)
    have hcut : ∀ j, j ≤ 4 → (∀ x ∈ cutN (A.map Prod.fst) whole j, HP (6 * n + 13) x) ∧ (cutN (A.map Prod.fst) whole j).length ≤ 14 := fun j hj => by
      refine ⟨fun x hx => (cutN_HP2 S.tid sz (whole_HL n) j hj x hx).mono (by omega), ?_⟩
      have := cutN_len (O := whole) S.tid.blg j
      have al := S.al
      rw [List.length_map] at this
      omega
    have hw : (whole : List Pt) ≠ [] := by unfold whole; simp
    have eF : shadedR p q d = tidP (cuts (linesOf whole) (A.map Prod.fst)) := by
      unfold shadedR bothT
      rw [if_neg hz, qe, if_neg (fun k => k.elim S.tid.blg.nn hw), cutN_all]
    have hid : ∀ x, Hid p q d x → ∀ l ∈ Ls, 0 ≤ ev l x := fun x hx => (S.sh.w x).mpr ⟨hx.2.2.1.1, hx.2.2.1.2, hx.2.2.2.1, hx.2.2.2.2, by have := hx.2.1; grind⟩
    refine ⟨?_, fun _ _ => ⟨hpts, S.len, by rw [qe]; exact hcut⟩⟩
    rcases cut_cases S.tid S.sh.nd whole_blg with ⟨f0, _, hn⟩ | ⟨B, C⟩
    · have e : shadedR p q d = [] := by
        rw [eF]
        unfold tidP
        rw [f0]
        split <;> rfl
      rw [e]
      refine ⟨part_nil, (fun _ h => nomatch h), (fun _ h => nomatch h), by decide, fun _ x hx hs => hn ?_, fun h => absurd rfl h, fun h => absurd rfl h⟩
      obtain ⟨y, hy⟩ := S.tid.inner S.sh.nd
      obtain ⟨ε, e0, e1, he⟩ := eps_lines x y (linesOf whole) hs
      have hw := hid x hx
      have e0' : 0 ≤ ε := by grind
      refine ⟨(x.1 + ε * (y.1 - x.1), x.2 + ε * (y.2 - x.2)), fun l hl => ?_⟩
      rw [ev_mid]
      rcases List.mem_append.mp hl with hl | hl
      · exact he ε e0' Rat.le_refl l (List.mem_reverse.mp hl)
      · have a := Rat.mul_nonneg (show 0 ≤ 1 - ε by grind) (hw l hl)
        have b := Rat.mul_pos e0 (hy l hl)
        grind
    · have e : shadedR p q d = B.map Prod.fst := by
        rw [eF]
        unfold tidP
        rw [if_neg (by have := C.nn; grind)]
        exact C.e
      have hle : B.length ≤ 14 := by
        rw [← C.len]
        refine Nat.le_trans (Nat.le_trans (fndN_len _) unl_len) ?_
        rw [← cutN_all]
        exact (hcut 4 (Nat.le_refl _)).2
      have wi : ∀ c ∈ B.map Prod.fst, ∀ l ∈ (linesOf whole).reverse ++ Ls, 0 ≤ ev l c := fun c hc' l hl => by
        obtain ⟨b, hb, rfl⟩ := List.mem_map.mp hc'
        exact (C.tid.wi b hb).2 l hl
      have nd2 : ∀ l ∈ (linesOf whole).reverse ++ Ls, ¬(l.d.1 = 0 ∧ l.d.2 = 0) := fun l hl => (List.mem_append.mp hl).elim (fun k => whole_blg.nd l (List.mem_reverse.mp k)) (S.sh.nd l)
      rw [e]
      refine ⟨C.tid.part, fun c hc' l hl => wi c hc' l (List.mem_append_left _ (List.mem_reverse.mpr hl)), fun c hc' => ?_, by rw [List.length_map]; exact hle, fun k => absurd k C.tid.blg.nn, fun _ x hx => ?_, fun _ x hx hh => ?_⟩
      · rw [← C.e] at hc'
        have hm := fnd_mem (rotR_mem (fs := fnd (cuts (linesOf whole) (A.map Prod.fst))) hc')
        rw [← cutN_all] at hm
        exact (hcut 4 (Nat.le_refl _)).1 _ hm
      · have st := C.tid.strict nd2 hx
        obtain ⟨a0, a1, b0, b1, h0⟩ := (S.sh.s x).mp fun l hl => st l (List.mem_append_right _ hl)
        exact ⟨hE, h0, ⟨by grind, by grind⟩, by grind, by grind⟩
      · rw [cls_in C.tid.cl C.tid.wi C.tid.ne x]
        intro l hl
        rcases List.mem_append.mp hl with hl | hl
        · exact hx l (List.mem_reverse.mp hl)
        · exact hid x hh l hl

structure ShT (m : Nat) (F : List Pt) (Ms : List Ln) : Prop where
  t : IsT (Ms.reverse ++ linesOf whole) F
  nd : Nd Ms
  hl : ∀ l ∈ Ms, HL m l
  n : Ms.length ≤ 5
theorem shaded_lines {n : Nat} {p q : Pl} {d : V3} (hW : 0 < p.W d) (z : Sz n p q d) : ∃ Ms, ShT (3 * n + 6) (shadedR p q d) Ms := by
  have hW0 : p.W d ≠ 0 := by omega
  by_cases hz : q.W d = 0 ∨ ∀ c ∈ q.corners, p.H c ≤ 0
  · have e : shadedR p q d = [] := by unfold shadedR; rw [if_pos hz]
    rw [e]
    have hm : lnOf (0, 0) (1, 0) ∈ linesOf whole := by
      unfold linesOf
      rw [whole_ring]
      exact .head _
    have nd := whole_blg.nd _ hm
    have n2 : Nd [lnOf (0, 0) (1, 0), negL (lnOf (0, 0) (1, 0))] := fun l hl => by
      rcases List.mem_cons.mp hl with rfl | hl
      · exact nd
      · rw [List.mem_singleton.mp hl]
        exact neg_nd nd
    refine ⟨[lnOf (0, 0) (1, 0), negL (lnOf (0, 0) (1, 0))], ⟨n2.app whole_blg.nd, .inl ⟨rfl, fun ⟨x, hx⟩ => ?_⟩⟩, n2, fun l hl => ?_, by decide⟩
    · have a := hx (lnOf (0, 0) (1, 0)) (by simp)
      have b := hx (negL (lnOf (0, 0) (1, 0))) (by simp)
      rw [ev_neg] at b
      grind
    · have hh := whole_HL n _ hm
      rcases List.mem_cons.mp hl with rfl | hl
      · exact hh
      · rw [List.mem_singleton.mp hl]
        exact HL_neg hh
  · have hE : q.W d ≠ 0 := fun e => hz (.inl e)
    have hc : crs (side p d q.s) (side p d q.o) ≠ 0 := by
      rw [crs_side hW0]
      intro e
      have hE' := cast_ne hE
      have : (q.W d : Rat) / (p.W d : Rat) * (p.W d : Rat) = q.W d := by have := cast_ne hW0; grind
      rw [e] at this
      grind
    have hex : ∃ c ∈ parC (p.m d q.k) (side p d q.s) (side p d q.o), 0 < (hgt p q d).at c := by
      refine Classical.byContradiction fun k => hz (.inr fun c hc' => ?_)
      refine Classical.byContradiction fun k2 => k ⟨p.m d c, ?_, ?_⟩
      · rw [← corners_par hW0]
        exact List.mem_map.mpr ⟨c, hc', rfl⟩
      · rw [hgt_at hW0 hE c (corner_in c hc')]
        exact Rat.intCast_pos.mpr (by omega)
    obtain ⟨Ls, A, S⟩ := shade hc hex
    have fa : (fun x => aP (p.m d q.k) (side p d q.o) x / crs (side p d q.s) (side p d q.o)) = fun x => aN p q d x / (q.W d : Int) := funext fun x => aP_eq hW0 hE x
    have fb : (fun x => bP (p.m d q.k) (side p d q.s) x / crs (side p d q.s) (side p d q.o)) = fun x => bN p q d x / (q.W d : Int) := funext fun x => bP_eq hW0 hE x
    rw [fa, fb] at S
    have sz := lines_sz hW hE z S.sh
    have qe : tidP (kept (parC (p.m d q.k) (side p d q.s) (side p d q.o)) (hgt p q d).at) = A.map Prod.fst := S.e
    have hw : (whole : List Pt) ≠ [] := by unfold whole; simp
    have eF : shadedR p q d = tidP (cuts (linesOf whole) (A.map Prod.fst)) := by
      unfold shadedR bothT
      rw [if_neg hz, qe, if_neg (fun k => k.elim S.tid.blg.nn hw), cutN_all]
    have hml : ∀ l, l ∈ (linesOf whole).reverse ++ Ls ↔ l ∈ Ls.reverse ++ linesOf whole := fun l => by
      rw [List.mem_append, List.mem_append, List.mem_reverse, List.mem_reverse]
      exact or_comm
    refine ⟨Ls, IsT.mem (Ls := (linesOf whole).reverse ++ Ls) ⟨Nd.app whole_blg.nd S.sh.nd, ?_⟩ hml, S.sh.nd, sz, S.sh.n⟩
    rcases cut_cases S.tid S.sh.nd whole_blg with ⟨f0, _, hn⟩ | ⟨B, C⟩
    · refine .inl ⟨?_, hn⟩
      rw [eF]
      unfold tidP
      rw [f0]
      split <;> rfl
    · refine .inr ⟨B, ?_, C.tid⟩
      rw [eF]
      unfold tidP
      rw [if_neg (by have := C.nn; grind)]
      exact C.e

/-! ### the program's both_of is a cut along the other's lines; sizes; how many corners -/
theorem HL.along {n : Nat} {l : Ln} {p q : Pt} (h : HL n l) (k : AlN l p q) : HL n (lnOf p q) := by
  obtain ⟨A, B, C, D, h0, h1, h2, h3, e1, e2, e3⟩ := h.ex
  obtain ⟨⟨l0, t, ht, a1, a2⟩, hn⟩ := k
  have ht' : t ≠ 0 := fun e => hn (Prod.ext (by rw [a1, e]; grind) (by rw [a2, e]; grind))
  have hk : D / t * t = D := by grind
  unfold ev at l0
  refine ⟨A, B, C, D / t, fun z => ?_, h1, h2, h3, ?_, ?_, ?_⟩
  · rw [z] at hk
    grind
  · unfold lnOf
    dsimp only
    generalize D / t = s at hk ⊢
    subst hk
    grind
  · unfold lnOf
    dsimp only
    generalize D / t = s at hk ⊢
    subst hk
    grind
  · unfold lnOf
    dsimp only
    generalize D / t = s at hk ⊢
    subst hk
    rw [a1, a2]
    grind
theorem Tid.lines_HL {Ls : List Ln} {A : List PL} {n : Nat} (h : Tid Ls A) (hl : ∀ l ∈ Ls, HL n l) : ∀ l ∈ linesOf (A.map Prod.fst), HL n l := fun l hl' => by
  obtain ⟨e, he, rfl⟩ := mem_lines hl'
  obtain ⟨a, ha, h1, _⟩ := cls_side h.cl he
  exact (hl a.2 (h.wi a ha).1).along h1
theorem Tid.reg {Ls : List Ln} {A : List PL} (h : Tid Ls A) (x : Pt) : Reg (linesOf (A.map Prod.fst)) x ↔ Reg Ls x := by
  unfold Reg
  rw [← cls_in h.cl h.wi h.ne x]
  refine ⟨fun k e he => ?_, fun k l hl => ?_⟩
  · rw [turn_ev]
    exact k _ (List.mem_map.mpr ⟨e, he, rfl⟩)
  · obtain ⟨e, he, rfl⟩ := mem_lines hl
    rw [← turn_ev]
    exact k e he
theorem IsT.empty {Ls : List Ln} {F : List Pt} (h : IsT Ls F) (hn : ¬ ∃ x : Pt, ∀ l ∈ Ls, 0 < ev l x) : F = [] := by
  rcases h.or with ⟨e, _⟩ | ⟨A, _, hA⟩
  · exact e
  · exact (hn (hA.inner h.nd)).elim
theorem IsT.hollow {Ls : List Ln} (h : IsT Ls []) : ¬ ∃ x : Pt, ∀ l ∈ Ls, 0 < ev l x := by
  rcases h.or with ⟨_, hn⟩ | ⟨A, e, hA⟩
  · exact hn
  · exact absurd (List.map_eq_nil_iff.mp e.symm) hA.ne
section
variable {Ls Ms Lw : List Ln} {F Q : List Pt}
theorem both_inn (h : IsT (Ls.reverse ++ Lw) F) (k : IsT (Ms.reverse ++ Lw) Q) (nm : Nd Ms) : bothT F Q = inn F Ms := by
  have hc := h.cut nm
  unfold bothT
  by_cases hz : F = [] ∨ Q = []
  · rw [if_pos hz]
    rcases hz with rfl | rfl
    · unfold inn
      rw [cuts_nil]
      rfl
    · refine (hc.empty fun ⟨x, hx⟩ => k.hollow ⟨x, fun l hl => ?_⟩).symm
      rcases List.mem_append.mp hl with hl | hl
      · exact hx l (List.mem_append_left _ hl)
      · exact hx l (List.mem_append_right _ (List.mem_append_right _ hl))
  · rw [if_neg hz, cutN_all]
    rcases h.or with ⟨rfl, _⟩ | ⟨A, rfl, hA⟩
    · exact absurd (.inl rfl) hz
    rcases k.or with ⟨rfl, _⟩ | ⟨B, rfl, hB⟩
    · exact absurd (.inr rfl) hz
    have nd := hB.blg.nd
    have key : IsT ((linesOf (B.map Prod.fst)).reverse ++ (Ls.reverse ++ Lw)) (tidP (cuts (linesOf (B.map Prod.fst)) (A.map Prod.fst))) := by
      refine ⟨Nd.app nd h.nd, ?_⟩
      rcases cut_cases hA h.nd hB.blg with ⟨f0, _, hn⟩ | ⟨D, C⟩
      · refine .inl ⟨?_, hn⟩
        unfold tidP
        rw [f0]
        split <;> rfl
      · refine .inr ⟨D, ?_, C.tid⟩
        unfold tidP
        rw [if_neg (by have := C.nn; grind)]
        exact C.e
    refine key.same hc fun x => ?_
    exact ⟨fun q => Reg.app.mpr ⟨(Reg.app.mp ((hB.reg x).mp (Reg.app.mp q).1)).1, (Reg.app.mp q).2⟩, fun q => Reg.app.mpr ⟨(hB.reg x).mpr (Reg.app.mpr ⟨(Reg.app.mp q).1, (Reg.app.mp (Reg.app.mp q).2).2⟩), (Reg.app.mp q).2⟩⟩
theorem IsT.hp {n : Nat} (h : IsT Ls F) (hl : ∀ l ∈ Ls, HL n l) : ∀ p ∈ F, HP (2 * n + 1) p := by
  rcases h.or with ⟨rfl, _⟩ | ⟨A, rfl, hA⟩
  · exact fun _ h => nomatch h
  · exact ring_HP hA.ring hl
theorem IsT.cut_hp {n : Nat} (h : IsT Ls F) (k : IsT Ms Q) (hF : F ≠ []) (hQ : Q ≠ []) (hl : ∀ l ∈ Ls, HL n l) (hm : ∀ l ∈ Ms, HL n l) (j : Nat) (hj : j ≤ Q.length) : (∀ p ∈ cutN F Q j, HP (2 * n + 1) p) ∧ (cutN F Q j).length ≤ F.length + 2 * j := by
  rcases h.or with ⟨rfl, _⟩ | ⟨A, rfl, hA⟩
  · exact absurd rfl hF
  rcases k.or with ⟨rfl, _⟩ | ⟨B, rfl, hB⟩
  · exact absurd rfl hQ
  exact ⟨cutN_HP2 hA hl (hB.lines_HL hm) j hj, cutN_len hA.blg j⟩
end

/-! ### a cut: one corner more at most -/
def negs (l : Ln) : List (Pt × Pt) → Nat
  | [] => 0
  | e :: r => (if ev l e.1 < 0 then 1 else 0) + negs l r
theorem keepE_len1 (l : Ln) (e : Pt × Pt) : (keepE (ev l) e).length + (if ev l e.1 < 0 then 1 else 0) ≤ 1 + upF l e.1 e.2 + upF (negL l) e.1 e.2 := by
  obtain ⟨p, q⟩ := e
  unfold keepE upF
  dsimp only
  rw [List.length_append, ev_neg, ev_neg]
  by_cases hp : ev l p < 0
  · by_cases hc : ev l p * ev l q < 0
    · have hq : 0 ≤ ev l q := by rcases sign_cross hc with h | h <;> grind
      rw [if_pos hp, if_pos hc, if_pos hp, if_pos ⟨hp, hq⟩]
      simp only [List.length_nil, List.length_cons]
      omega
    · rw [if_pos hp, if_neg hc, if_pos hp]
      simp only [List.length_nil]
      omega
  · by_cases hc : ev l p * ev l q < 0
    · have hq : -ev l p < 0 ∧ 0 ≤ -ev l q := by rcases sign_cross hc with h | h <;> exact ⟨by grind, by grind⟩
      rw [if_neg hp, if_pos hc, if_neg hp, if_pos hq]
      simp only [List.length_nil, List.length_cons]
      omega
    · rw [if_neg hp, if_neg hc, if_neg hp]
      simp only [List.length_nil, List.length_cons]
      omega
theorem flat_len1 (l : Ln) : ∀ es : List (Pt × Pt), (es.flatMap (keepE (ev l))).length + negs l es ≤ es.length + pathF l es + pathF (negL l) es
  | [] => Nat.le_refl _
  | e :: r => by
    have a := keepE_len1 l e
    have b := flat_len1 l r
    rw [List.flatMap_cons, List.length_append]
    show _ + ((if ev l e.1 < 0 then 1 else 0) + negs l r) ≤ r.length + 1 + (upF l e.1 e.2 + pathF l r) + (upF (negL l) e.1 e.2 + pathF (negL l) r)
    omega
theorem negs_up (l : Ln) : ∀ es : List (Pt × Pt), negs l es = 0 → pathF l es = 0
  | [], _ => rfl
  | e :: r, h => by
    have h' : (if ev l e.1 < 0 then 1 else 0) + negs l r = 0 := h
    have a : ¬ ev l e.1 < 0 := fun z => by
      rw [if_pos z] at h'
      omega
    have b := negs_up l r (by omega)
    show upF l e.1 e.2 + pathF l r = 0
    have : upF l e.1 e.2 = 0 := by
      unfold upF
      rw [if_neg fun z => a z.1]
    omega
theorem cut_len1 {C : List Pt} (h : Onc C) (l : Ln) : (Gn.cut l C).length ≤ C.length + 1 := by
  have a := flat_len1 l (ringS C)
  have b := h l
  have c := h (negL l)
  rw [ringF_path] at b c
  rw [ringS_len] at a
  have d := negs_up l (ringS C)
  unfold Gn.cut
  omega
theorem cuts_len1 : ∀ (hs : List Ln) {C : List Pt}, Onc C → (Gn.cuts hs C).length ≤ C.length + hs.length
  | [], _, _ => Nat.le_refl _
  | l :: hs, C, h => by
    have a := cut_len1 h l
    have b := cuts_len1 hs (h.cut l)
    show (Gn.cuts hs (Gn.cut l C)).length ≤ C.length + (hs.length + 1)
    omega
theorem IsT.len {Ms : List Ln} {F : List Pt} (h : IsT (Ms.reverse ++ linesOf whole) F) : F.length ≤ 4 + Ms.length := by
  have e : F = inn whole Ms := h.same (whole_IsT.cut fun l hl => h.nd l (List.mem_append_left _ (List.mem_reverse.mpr hl))) fun _ => Iff.rfl
  rw [e]
  have a := cuts_len1 Ms whole_blg.onc
  have b := rotR_len (fnd (Gn.cuts Ms whole))
  have c : (fnd (Gn.cuts Ms whole)).length ≤ (Gn.cuts Ms whole).length := Nat.le_trans (fndN_len _) unl_len
  have d : (whole : List Pt).length = 4 := rfl
  unfold inn tidR
  omega

/-! ### divisors of shares: one divisor a corner -/
def IsI (r : Rat) : Prop := ∃ w : Int, r = (w : Rat)
theorem IsI.add {r s : Rat} (h : IsI r) (k : IsI s) : IsI (r + s) := by
  obtain ⟨a, rfl⟩ := h
  obtain ⟨b, rfl⟩ := k
  exact ⟨a + b, (Rat.intCast_add a b).symm⟩
theorem IsI.sub {r s : Rat} (h : IsI r) (k : IsI s) : IsI (r - s) := by
  obtain ⟨a, rfl⟩ := h
  obtain ⟨b, rfl⟩ := k
  exact ⟨a - b, (Rat.intCast_sub a b).symm⟩
theorem IsI.mul {r s : Rat} (h : IsI r) (k : IsI s) : IsI (r * s) := by
  obtain ⟨a, rfl⟩ := h
  obtain ⟨b, rfl⟩ := k
  exact ⟨a * b, (Rat.intCast_mul a b).symm⟩
theorem IsI.int (z : Int) : IsI (z : Rat) := ⟨z, rfl⟩
structure Dn (n : Nat) (r : Rat) : Prop where
  ex : ∃ Z : Int, Z ≠ 0 ∧ Bd n Z ∧ IsI (r * Z)
theorem mul_ne {a b : Int} (h : a ≠ 0) (k : b ≠ 0) : a * b ≠ 0 := fun z => (Int.mul_eq_zero.mp z).elim h k
theorem Dn.sub {n m : Nat} {r s : Rat} (h : Dn n r) (k : Dn m s) : Dn (n + m) (r - s) := by
  obtain ⟨Z, h0, h1, h2⟩ := h.ex
  obtain ⟨Y, k0, k1, k2⟩ := k.ex
  refine ⟨Z * Y, mul_ne h0 k0, h1.mul k1, ?_⟩
  have e : (r - s) * ((Z * Y : Int) : Rat) = r * Z * Y - s * Y * Z := by rw [Rat.intCast_mul]; grind
  rw [e]
  exact (h2.mul (.int Y)).sub (k2.mul (.int Z))
theorem Dn.add {n m : Nat} {r s : Rat} (h : Dn n r) (k : Dn m s) : Dn (n + m) (r + s) := by
  obtain ⟨Z, h0, h1, h2⟩ := h.ex
  obtain ⟨Y, k0, k1, k2⟩ := k.ex
  refine ⟨Z * Y, mul_ne h0 k0, h1.mul k1, ?_⟩
  have e : (r + s) * ((Z * Y : Int) : Rat) = r * Z * Y + s * Y * Z := by rw [Rat.intCast_mul]; grind
  rw [e]
  exact (h2.mul (.int Y)).add (k2.mul (.int Z))
theorem Dn.half {n : Nat} {r : Rat} (h : Dn n r) : Dn (n + 2) (Rat.divInt 1 2 * r) := by
  obtain ⟨Z, h0, h1, h2⟩ := h.ex
  refine ⟨Z * 2, mul_ne h0 (by decide), h1.mul (Bd.lit (by decide)), ?_⟩
  have e : Rat.divInt 1 2 * r * ((Z * 2 : Int) : Rat) = r * Z := by
    have : Rat.divInt 1 2 * ((2 : Int) : Rat) = 1 := by decide +kernel
    rw [Rat.intCast_mul]
    grind
  rw [e]
  exact h2
theorem Dn.rb {n : Nat} {r : Rat} (h : Dn n r) (h0 : 0 ≤ r) (h1 : r ≤ 4) : RB (n + 3) n r := by
  obtain ⟨Z, z0, z1, w, z2⟩ := h.ex
  have hz := cast_ne z0
  have e : r = (w : Rat) / Z := by grind
  have hw : w.natAbs ≤ 4 * Z.natAbs := by
    rcases Int.lt_or_gt_of_ne z0 with hs | hs
    · have hs' : (Z : Rat) < 0 := Rat.intCast_neg_iff.mpr hs
      have a := Rat.mul_nonneg h0 (show 0 ≤ -(Z : Rat) by grind)
      have b := Rat.mul_nonneg (show 0 ≤ 4 - r by grind) (show 0 ≤ -(Z : Rat) by grind)
      have c : (w : Rat) ≤ ((0 : Int) : Rat) := by rw [← z2]; grind
      have d : ((4 * Z : Int) : Rat) ≤ (w : Rat) := by
        rw [← z2, Rat.intCast_mul]
        have : ((4 : Int) : Rat) = 4 := rfl
        grind
      have c' := Rat.intCast_le_intCast.mp c
      have d' := Rat.intCast_le_intCast.mp d
      omega
    · have hs' : 0 < (Z : Rat) := Rat.intCast_pos.mpr hs
      have a := Rat.mul_nonneg h0 (show 0 ≤ (Z : Rat) by grind)
      have b := Rat.mul_nonneg (show 0 ≤ 4 - r by grind) (show 0 ≤ (Z : Rat) by grind)
      have c : ((0 : Int) : Rat) ≤ (w : Rat) := by rw [← z2]; grind
      have d : (w : Rat) ≤ ((4 * Z : Int) : Rat) := by
        rw [← z2, Rat.intCast_mul]
        have : ((4 : Int) : Rat) = 4 := rfl
        grind
      have c' := Rat.intCast_le_intCast.mp c
      have d' := Rat.intCast_le_intCast.mp d
      omega
  have bw : Bd (n + 3) w := by
    unfold Bd at *
    have : 2 ^ (n + 3) = 8 * 2 ^ n := by rw [Nat.pow_add]; omega
    omega
  rw [e]
  exact RB.frac z0 bw z1
theorem areaC_Dn {n : Nat} : ∀ (X : List Pt) (x u : Pt) (U : Int), (∀ p ∈ x :: X, HP n p) → IsI (u.1 * U) → IsI (u.2 * U) → ∃ Z : Int, Z ≠ 0 ∧ Bd (n * (X.length + 1)) Z ∧ IsI (areaC u (x :: X) * (U * Z)) ∧ IsI ((endO u (x :: X)).1 * Z) ∧ IsI ((endO u (x :: X)).2 * Z)
  | [], x, u, U, hX, h1, h2 => by
    obtain ⟨A, B, Z, z0, b1, b2, b3, e1, e2⟩ := (hX x (.head _)).ex
    refine ⟨Z, z0, by rw [List.length_nil, Nat.zero_add, Nat.mul_one]; exact b3, ?_, ⟨A, e1⟩, ⟨B, e2⟩⟩
    have e : areaC u [x] * ((U : Rat) * Z) = u.1 * U * (x.2 * Z) - x.1 * Z * (u.2 * U) := by
      show (cr u x + 0) * _ = _
      unfold cr
      grind
    rw [e]
    exact (h1.mul ⟨B, e2⟩).sub (IsI.mul ⟨A, e1⟩ h2)
  | y :: r, x, u, U, hX, h1, h2 => by
    obtain ⟨A, B, Z, z0, b1, b2, b3, e1, e2⟩ := (hX x (.head _)).ex
    obtain ⟨Y, y0, y1, y2, y3, y4⟩ := areaC_Dn r y x Z (fun p hp => hX p (.tail _ hp)) ⟨A, e1⟩ ⟨B, e2⟩
    refine ⟨Z * Y, mul_ne z0 y0, (b3.mul y1).mono (by rw [List.length_cons, Nat.mul_succ n (r.length + 1)]; omega), ?_, ?_, ?_⟩
    · have e : areaC u (x :: y :: r) * ((U : Rat) * ((Z * Y : Int) : Rat)) = (u.1 * U * (x.2 * Z) - x.1 * Z * (u.2 * U)) * Y + areaC x (y :: r) * ((Z : Rat) * Y) * U := by
        show (cr u x + areaC x (y :: r)) * _ = _
        rw [Rat.intCast_mul]
        unfold cr
        grind
      rw [e]
      exact ((((h1.mul ⟨B, e2⟩).sub (IsI.mul ⟨A, e1⟩ h2)).mul (.int Y)).add (y2.mul (.int U)))
    · have e : (endO u (x :: y :: r)).1 * ((Z * Y : Int) : Rat) = (endO x (y :: r)).1 * Y * Z := by
        show (endO x (y :: r)).1 * _ = _
        rw [Rat.intCast_mul]
        grind
      rw [e]
      exact y3.mul (.int Z)
    · have e : (endO u (x :: y :: r)).2 * ((Z * Y : Int) : Rat) = (endO x (y :: r)).2 * Y * Z := by
        show (endO x (y :: r)).2 * _ = _
        rw [Rat.intCast_mul]
        grind
      rw [e]
      exact y4.mul (.int Z)
theorem ringA_Dn {n : Nat} {F : List Pt} (h : ∀ p ∈ F, HP n p) : Dn (n * F.length + 1) (ringA F) := by
  match F, h with
  | [], _ => exact ⟨1, by decide, Bd.mono (n := 1) (Bd.lit (by decide)) (by omega), 0, by show (0 : Rat) * _ = _; grind⟩
  | [o], _ =>
    refine ⟨1, by decide, Bd.mono (n := 1) (Bd.lit (by decide)) (by omega), 0, ?_⟩
    show (cr o o + 0) * _ = _
    rw [cr_self]
    grind
  | o :: x :: r, h =>
    obtain ⟨A, B, Z, z0, b1, b2, b3, e1, e2⟩ := (h o (.head _)).ex
    obtain ⟨Y, y0, y1, y2, y3, y4⟩ := areaC_Dn r x o Z (fun p hp => h p (.tail _ hp)) ⟨A, e1⟩ ⟨B, e2⟩
    refine ⟨Z * Y, mul_ne z0 y0, (b3.mul y1).mono (by rw [List.length_cons, List.length_cons, Nat.mul_succ n (r.length + 1)]; omega), ?_⟩
    have e : ringA (o :: x :: r) * ((Z * Y : Int) : Rat) = ((endO o (x :: r)).1 * Y * (o.2 * Z) - o.1 * Z * ((endO o (x :: r)).2 * Y)) + areaC o (x :: r) * ((Z : Rat) * Y) := by
      show (cr (endO o (x :: r)) o + areaC o (x :: r)) * _ = _
      rw [Rat.intCast_mul]
      unfold cr
      grind
    rw [e]
    exact ((y3.mul ⟨B, e2⟩).sub (IsI.mul ⟨A, e1⟩ y4)).add y2

/-! ### sizes of what is left -/
def szL (n : Nat) : Nat → Nat → Nat
  | j, 0 => n * (4 + 5 * j) + 1
  | j, k + 1 => szL n j k + szL n (j + 1) k
structure LinesOK (n c : Nat) (Ms : List Ln) : Prop where
  nd : Nd Ms
  hl : ∀ l ∈ Ms, HL (3 * n + 6) l
  len : Ms.length ≤ 5 * c
structure Part (n j : Nat) (F : List Pt) : Prop where
  ex : ∃ Ms, IsT (Ms.reverse ++ linesOf whole) F ∧ LinesOK n j Ms
theorem whole_part (n : Nat) : Part n 0 whole := ⟨[], whole_IsT, (fun _ h => nomatch h), (fun _ h => nomatch h), Nat.zero_le _⟩
theorem Part.hp {n j : Nat} {F : List Pt} (h : Part n j F) : (∀ p ∈ F, HP (6 * n + 13) p) ∧ F.length ≤ 4 + 5 * j := by
  obtain ⟨Ms, t, ok⟩ := h.ex
  refine ⟨fun p hp => (t.hp (n := 3 * n + 6) (fun l hl => ?_) p hp).mono (by omega), Nat.le_trans t.len (by have := ok.len; omega)⟩
  rcases List.mem_append.mp hl with k | k
  · exact ok.hl l (List.mem_reverse.mp k)
  · exact whole_HL n l k
theorem Part.inn {n j : Nat} {F : List Pt} {hs : List Ln} (h : Part n j F) (k : LinesOK n 1 hs) : Part n (j + 1) (inn F hs) := by
  obtain ⟨Ms, t, ok⟩ := h.ex
  refine ⟨Ms ++ hs, ?_, fun l hl => (List.mem_append.mp hl).elim (ok.nd l) (k.nd l), fun l hl => (List.mem_append.mp hl).elim (ok.hl l) (k.hl l), ?_⟩
  · rw [List.reverse_append, List.append_assoc]
    exact t.cut k.nd
  · rw [List.length_append]
    have := ok.len
    have := k.len
    omega
theorem leftL_Dn {n : Nat} : ∀ (Ks : List (List Ln)) (F : List Pt) (j : Nat), Part n j F → (∀ hs ∈ Ks, LinesOK n 1 hs) → Dn (szL (6 * n + 13) j Ks.length) (leftL F Ks)
  | [], F, j, h, _ => by
    obtain ⟨a, b⟩ := h.hp
    obtain ⟨Z, z0, z1, z2⟩ := (ringA_Dn a).ex
    exact ⟨Z, z0, z1.mono (Nat.succ_le_succ (Nat.mul_le_mul_left _ b)), z2⟩
  | hs :: r, F, j, h, k => (leftL_Dn r F j h fun q hq => k q (.tail _ hq)).sub (leftL_Dn r _ (j + 1) (h.inn (k hs (.head _))) fun q hq => k q (.tail _ hq))
theorem Part.isT {n j : Nat} {F : List Pt} (h : Part n j F) : ∃ Ls, IsT Ls F := by
  obtain ⟨Ms, t, _⟩ := h.ex
  exact ⟨_, t⟩
theorem leftL_le {n : Nat} : ∀ (Ks : List (List Ln)) (F : List Pt) (j : Nat), Part n j F → (∀ hs ∈ Ks, LinesOK n 1 hs) → leftL F Ks ≤ ringA F
  | [], F, j, h, _ => Rat.le_refl
  | hs :: r, F, j, h, k => by
    have a := leftL_le r F j h fun q hq => k q (.tail _ hq)
    obtain ⟨Ls, t⟩ := (h.inn (k hs (.head _))).isT
    have b := leftL_nn r (fun q hq => (k q (.tail _ hq)).nd) Ls _ t
    show leftL F r - leftL (Gn.inn F hs) r ≤ ringA F
    grind
theorem whole_A : ringA whole = 2 := by decide +kernel
theorem Part.le {n j : Nat} {F : List Pt} (h : Part n j F) : ringA F ≤ 2 := by
  obtain ⟨Ms, t, ok⟩ := h.ex
  have e : F = Gn.inn whole Ms := t.same (whole_IsT.cut ok.nd) fun _ => Iff.rfl
  rw [e]
  unfold Gn.inn
  rw [tidR_ringA, ← whole_A]
  exact cuts_A Ms _ _ whole_blg.ring
theorem leftL_RB {n j : Nat} {Ks : List (List Ln)} {F : List Pt} (h : Part n j F) (k : ∀ hs ∈ Ks, LinesOK n 1 hs) : RB (szL (6 * n + 13) j Ks.length + 5) (szL (6 * n + 13) j Ks.length + 2) (Rat.divInt 1 2 * leftL F Ks) := by
  have a := (leftL_Dn Ks F j h k).half
  obtain ⟨Ls, t⟩ := h.isT
  have b := leftL_nn Ks (fun q hq => (k q hq).nd) Ls F t
  have c := leftL_le Ks F j h k
  have d := h.le
  have e : Rat.divInt 1 2 = 1 / 2 := by decide +kernel
  rw [e] at a ⊢
  exact a.rb (by grind) (by grind)

/-! ### what the program tells and what the law tells, by rings -/
theorem ShT.whole {m : Nat} {F : List Pt} {Ms : List Ln} (h : ShT m F Ms) : inn Gn.whole Ms = F := (whole_IsT.cut h.nd).same h.t fun _ => Iff.rfl
theorem ShT.both {m : Nat} {F Q : List Pt} {Ls Ms : List Ln} (h : ShT m Q Ms) (k : IsT (Ls.reverse ++ linesOf Gn.whole) F) : inn F Ms = bothT F Q := (both_inn k h.t h.nd).symm
theorem inn_nil (hs : List Ln) : inn [] hs = [] := by
  unfold inn
  rw [cuts_nil]
  rfl
theorem leftL_nil : ∀ Ks : List (List Ln), leftL [] Ks = 0
  | [] => rfl
  | hs :: r => by
    show leftL [] r - leftL (inn [] hs) r = 0
    rw [inn_nil, leftL_nil r]
    grind
theorem IsT.inn2 {F : List Pt} {Ls Ms : List Ln} (k : IsT (Ls.reverse ++ linesOf Gn.whole) F) (n : Nd Ms) : IsT ((Ls ++ Ms).reverse ++ linesOf Gn.whole) (inn F Ms) := by
  rw [List.reverse_append, List.append_assoc]
  exact k.cut n
/-- the program leaves out what is empty -/
theorem leftL_some {m : Nat} : ∀ (qs : List (List Pt × List Ln)) (Ls : List Ln) (F : List Pt), (∀ x ∈ qs, ShT m x.1 x.2) → IsT (Ls.reverse ++ linesOf Gn.whole) F → leftL F ((qs.filter fun x => decide (x.1 ≠ [])).map Prod.snd) = leftL F (qs.map Prod.snd)
  | [], _, _, _, _ => rfl
  | x :: r, Ls, F, h, k => by
    have hx := h x (.head _)
    have hr := fun y hy => h y (.tail _ hy)
    by_cases z : x.1 = []
    · rw [List.filter_cons_of_neg (p := fun x : List Pt × List Ln => decide (x.1 ≠ [])) (by rw [decide_eq_true_iff]; exact fun c => c z), List.map_cons, leftL_some r Ls F hr k]
      show leftL F (r.map Prod.snd) = leftL F (r.map Prod.snd) - leftL (inn F x.2) (r.map Prod.snd)
      have e : inn F x.2 = [] := by
        rw [hx.both k, z]
        unfold bothT
        rw [if_pos (.inr rfl)]
      rw [e, leftL_nil]
      grind
    · rw [List.filter_cons_of_pos (p := fun x : List Pt × List Ln => decide (x.1 ≠ [])) (decide_eq_true z), List.map_cons, List.map_cons]
      show leftL F _ - leftL (inn F x.2) _ = leftL F (r.map Prod.snd) - leftL (inn F x.2) (r.map Prod.snd)
      rw [leftL_some r Ls F hr k, leftL_some r _ _ hr (k.inn2 hx.nd)]
/-- what left_of tells -/
def leftP : List Pt → List (List Pt) → Rat
  | F, [] => Rat.divInt 1 2 * cyc F
  | F, Q :: r => if F = [] then Rat.divInt 1 2 * cyc F else leftP F r - leftP (bothT F Q) r
theorem leftP_L {m : Nat} : ∀ (qs : List (List Pt × List Ln)) (Ls : List Ln) (F : List Pt), (∀ x ∈ qs, ShT m x.1 x.2) → IsT (Ls.reverse ++ linesOf Gn.whole) F → leftP F (qs.map Prod.fst) = Rat.divInt 1 2 * leftL F (qs.map Prod.snd)
  | [], _, F, _, _ => by
    show Rat.divInt 1 2 * cyc F = Rat.divInt 1 2 * ringA F
    rw [cyc_ringA]
  | x :: r, Ls, F, h, k => by
    have hx := h x (.head _)
    have hr := fun y hy => h y (.tail _ hy)
    rw [List.map_cons, List.map_cons]
    show (if F = [] then Rat.divInt 1 2 * cyc F else leftP F (r.map Prod.fst) - leftP (bothT F x.1) (r.map Prod.fst)) = Rat.divInt 1 2 * (leftL F (r.map Prod.snd) - leftL (inn F x.2) (r.map Prod.snd))
    by_cases z : F = []
    · rw [if_pos z, z, inn_nil, leftL_nil, cyc_ringA]
      show _ * (0 : Rat) = _
      grind
    · rw [if_neg z, ← hx.both k, leftP_L r Ls F hr k, leftP_L r _ _ hr (k.inn2 hx.nd)]
      grind
section
variable {m : Nat} {Q1 Q2 Q3 : List Pt} {K1 K2 K3 : List Ln}
theorem left_one (h1 : ShT m Q1 K1) : leftL Gn.whole [K1] = 2 - ringA Q1 := by
  show ringA Gn.whole - ringA (inn Gn.whole K1) = _
  rw [h1.whole, whole_A]
theorem left_two (h1 : ShT m Q1 K1) (h2 : ShT m Q2 K2) : leftL Gn.whole [K1, K2] = 2 - ringA Q1 - ringA Q2 + ringA (bothT Q1 Q2) := by
  show leftL Gn.whole [K2] - (ringA (inn Gn.whole K1) - ringA (inn (inn Gn.whole K1) K2)) = _
  rw [left_one h2, h1.whole, h2.both h1.t]
  grind
theorem left_three (h1 : ShT m Q1 K1) (h2 : ShT m Q2 K2) (h3 : ShT m Q3 K3) : leftL Gn.whole [K1, K2, K3] = 2 - ringA Q1 - ringA Q2 + ringA (bothT Q1 Q2) - ringA Q3 + ringA (bothT Q1 Q3) + ringA (bothT Q2 Q3) - ringA (bothT (bothT Q1 Q2) Q3) := by
  have k := h1.t.inn2 h2.nd
  rw [h2.both h1.t] at k
  show leftL Gn.whole [K2, K3] - (ringA (inn Gn.whole K1) - ringA (inn (inn Gn.whole K1) K3) - (ringA (inn (inn Gn.whole K1) K2) - ringA (inn (inn (inn Gn.whole K1) K2) K3))) = _
  rw [left_two h2 h3, h1.whole, h3.both h1.t, h2.both h1.t, h3.both k]
  grind
end

local macro_rules | `(tactic| wtm_at "y_fn") => `(tactic| ((with_reducible show R.wp (f_ratio_sum [rD _, rD _]) _ _); refine sp_ratio_sum (by wtm_at "y_rb") (by wtm_at "y_rb") (by wtm_at "y_sz") ?_))
local macro_rules | `(tactic| wtm_at "y_fn") => `(tactic| ((with_reducible show R.wp (f_ratio_less [rD _, rD _]) _ _); refine sp_ratio_less (by wtm_at "y_rb") (by wtm_at "y_rb") (by wtm_at "y_sz") ?_))
local macro_rules | `(tactic| wtm_at "y_fn") => `(tactic| ((with_reducible show R.wp (f_ratio_times [rD _, rD _]) _ _); refine sp_ratio_times (by wtm_at "y_rb") (by wtm_at "y_rb") (by wtm_at "y_sz") ?_))
local macro_rules | `(tactic| wtm_at "y_fn") => `(tactic| ((with_reducible show R.wp (f_is_under [rD _, rD _]) _ _); refine sp_is_under (by wtm_at "y_rb") (by wtm_at "y_rb") (by wtm_at "y_sz") ?_))
local macro_rules | `(tactic| wtm_at "y_fn") => `(tactic| ((with_reducible show R.wp (f_is_under [rD _, .tup [.int 0, .int 1]]) _ _); refine sp_under_0 (by wtm_at "y_rb") (by wtm_at "y_sz") ?_))
local macro_rules | `(tactic| wtm_at "y_fn") => `(tactic| ((with_reducible show R.wp (f_is_under [.tup [.int 1, .int 1], rD _]) _ _); refine sp_under_1 (by wtm_at "y_rb") (by wtm_at "y_sz") ?_))
local macro_rules | `(tactic| wtm_at "y_fn") => `(tactic| (with_reducible refine sp_ratio_int ?_))

section
variable {a b c d e f m : Int} {P : D → Prop} {n n' : Nat}
theorem sp_triple_sum (h : P (t3 (a + d) (b + e) (c + f))) : (f_triple_sum [t3 a b c, t3 d e f]).wp P NoE := by
  wtm_at "y_in"
  wtm_at "y_go"
  exact h
theorem sp_triple_less (h : P (t3 (a - d) (b - e) (c - f))) : (f_triple_less [t3 a b c, t3 d e f]).wp P NoE := by
  wtm_at "y_in"
  wtm_at "y_go"
  exact h
theorem sp_cross_of (hn : n < 10000) (hn' : n' < 10000) (ha : Bd n a) (hb : Bd n b) (hc : Bd n c) (hd : Bd n' d) (he : Bd n' e) (hf : Bd n' f) (h : P (t3 (b * f - c * e) (c * d - a * f) (a * e - b * d))) : (f_cross_of [t3 a b c, t3 d e f]).wp P NoE := by
  wtm_at "y_in"
  wtm_at "y_go"
  exact h
theorem sp_dot_of (hn : n < 10000) (hn' : n' < 10000) (ha : Bd n a) (hb : Bd n b) (hc : Bd n c) (hd : Bd n' d) (he : Bd n' e) (hf : Bd n' f) (h : P (.int (a * d + b * e + c * f))) : (f_dot_of [t3 a b c, t3 d e f]).wp P NoE := by
  wtm_at "y_in"
  wtm_at "y_go"
  exact h
end
section
variable {k0 k1 k2 s0 s1 s2 o0 o1 o2 d0 d1 d2 : Int} {P : D → Prop} {n n' : Nat}
theorem sp_front_of {k : D} (hn : n < 10000) (hs0 : Bd n s0) (hs1 : Bd n s1) (hs2 : Bd n s2) (ho0 : Bd n o0) (ho1 : Bd n o1) (ho2 : Bd n o2)
    (h : P (t3 (s1 * o2 - s2 * o1) (s2 * o0 - s0 * o2) (s0 * o1 - s1 * o0))) : (f_front_of [.tup [k, t3 s0 s1 s2, t3 o0 o1 o2]]).wp P NoE := by
  wtm_at "y_in"
  wtm_at "y_go"
  exact sp_cross_of hn hn hs0 hs1 hs2 ho0 ho1 ho2 h
theorem sp_comes {k : D} (hn : n < 1000) (hn' : n' < 1000) (hs0 : Bd n s0) (hs1 : Bd n s1) (hs2 : Bd n s2) (ho0 : Bd n o0) (ho1 : Bd n o1) (ho2 : Bd n o2) (hd0 : Bd n' d0) (hd1 : Bd n' d1) (hd2 : Bd n' d2)
    (h : P (.bl (decide (0 < (s1 * o2 - s2 * o1) * d0 + (s2 * o0 - s0 * o2) * d1 + (s0 * o1 - s1 * o0) * d2)))) : (f_comes_from_ahead [.tup [k, t3 s0 s1 s2, t3 o0 o1 o2], t3 d0 d1 d2]).wp P NoE := by
  wtm_at "y_in"
  wtm_at "y_go"
  refine sp_front_of (by omega) hs0 hs1 hs2 ho0 ho1 ho2 ?_
  wtm_at "y_go"
  have z {a b c d : Int} (ha : Bd n a) (hb : Bd n b) (hc : Bd n c) (hd : Bd n d) : Bd (n + n + 1) (a * b - c * d) := ((ha.mul hb).subM (hc.mul hd)).mono (by omega)
  refine sp_dot_of (n := n + n + 1) (n' := n') (by omega) (by omega) (z hs1 ho2 hs2 ho1) (z hs2 ho0 hs0 ho2) (z hs0 ho1 hs1 ho0) hd0 hd1 hd2 ?_
  wtm_at "y_go"
  exact h
end

local macro_rules | `(tactic| wtm_at "y_fn") => `(tactic| (with_reducible refine sp_triple_sum ?_))
local macro_rules | `(tactic| wtm_at "y_fn") => `(tactic| (with_reducible refine sp_triple_less ?_))
local macro_rules | `(tactic| wtm_at "y_fn") => `(tactic| ((with_reducible show R.wp (f_cross_of [.tup [.int _, .int _, .int _], .tup [.int _, .int _, .int _]]) _ _); refine sp_cross_of (n := 2000) (n' := 2000) (by decide) (by decide) (by wtm_at "y_bdn") (by wtm_at "y_bdn") (by wtm_at "y_bdn") (by wtm_at "y_bdn") (by wtm_at "y_bdn") (by wtm_at "y_bdn") ?_))
local macro_rules | `(tactic| wtm_at "y_fn") => `(tactic| ((with_reducible show R.wp (f_dot_of [.tup [.int _, .int _, .int _], .tup [.int _, .int _, .int _]]) _ _); refine sp_dot_of (n := 2000) (n' := 2000) (by decide) (by decide) (by wtm_at "y_bdn") (by wtm_at "y_bdn") (by wtm_at "y_bdn") (by wtm_at "y_bdn") (by wtm_at "y_bdn") (by wtm_at "y_bdn") ?_))
local macro_rules | `(tactic| wtm_at "y_fn") => `(tactic| ((with_reducible show R.wp (f_front_of [.tup [_, .tup [.int _, .int _, .int _], .tup [.int _, .int _, .int _]]]) _ _); refine sp_front_of (n := 2000) (by decide) (by wtm_at "y_bdn") (by wtm_at "y_bdn") (by wtm_at "y_bdn") (by wtm_at "y_bdn") (by wtm_at "y_bdn") (by wtm_at "y_bdn") ?_))
local macro_rules | `(tactic| wtm_at "y_fn") => `(tactic| ((with_reducible show R.wp (f_comes_from_ahead [.tup [_, .tup [.int _, .int _, .int _], .tup [.int _, .int _, .int _]], .tup [.int _, .int _, .int _]]) _ _); refine sp_comes (n := 900) (n' := 900) (by decide) (by decide) (by wtm_at "y_bdn") (by wtm_at "y_bdn") (by wtm_at "y_bdn") (by wtm_at "y_bdn") (by wtm_at "y_bdn") (by wtm_at "y_bdn") (by wtm_at "y_bdn") (by wtm_at "y_bdn") (by wtm_at "y_bdn") ?_))

/-! ### where lines meet planes -/
section
variable {k0 k1 k2 s0 s1 s2 o0 o1 o2 d0 d1 d2 : Int} {x y z : Rat} {P : D → Prop}
theorem RB.i {i : Int} (h : Bd 700 i) : RB 700 1 (i : Rat) := RB.int h
theorem sp_less_i {k : Int} {n m n' : Nat} (hx : RB n m x) (hk : Bd n' k) (hs : n < 1000000 ∧ m < 8000 ∧ n' < 1000000) (h : P (rD (x - (k : Rat)))) : (f_ratio_less [rD x, .tup [.int k, .int 1]]).wp P NoE :=
  sp_ratio_less (y := (k : Rat)) hx (RB.int hk) (by omega) h
theorem sp_times_i {k : Int} {n m n' : Nat} (hx : RB n m x) (hk : Bd n' k) (hs : n < 1000000 ∧ m < 8000 ∧ n' < 1000000) (h : P (rD (x * (k : Rat)))) : (f_ratio_times [rD x, .tup [.int k, .int 1]]).wp P NoE :=
  sp_ratio_times (y := (k : Rat)) hx (RB.int hk) (by omega) h
theorem sp_by_i {k : Int} {n m n' : Nat} (h0 : k ≠ 0) (hx : RB n m x) (hk : Bd n' k) (hs : n < 1000000 ∧ m + n' < 9000 ∧ n' < 1000000) (h : P (rD (x / (k : Rat)))) : (f_ratio_by [rD x, .tup [.int k, .int 1]]).wp P NoE :=
  sp_ratio_by (y := (k : Rat)) (fun e => h0 (Rat.intCast_eq_zero_iff.mp e)) hx (RB.int hk) (by omega) h
theorem sp_sum_0 {n m : Nat} (hx : RB n m x) (hs : n < 1000000 ∧ m < 8000) (h : P (rD x)) : (f_ratio_sum [.tup [.int 0, .int 1], rD x]).wp P NoE := by
  refine sp_ratio_sum (x := 0) RB.zero hx (by omega) ?_
  rw [Rat.zero_add]; exact h
theorem sp_as_point (h : P (.tup [rD (k0 : Rat), rD (k1 : Rat), rD (k2 : Rat)])) : (f_as_point [t3 k0 k1 k2]).wp P NoE := by
  wtm_at "y_in"
  wtm_at "y_go"
  exact h
theorem sp_point_less (hx : RB 1500 1500 x) (hy : RB 1500 1500 y) (hz : RB 1500 1500 z) (hk0 : Bd 700 k0) (hk1 : Bd 700 k1) (hk2 : Bd 700 k2) (h : P (.tup [rD (x - (k0 : Rat)), rD (y - (k1 : Rat)), rD (z - (k2 : Rat))])) :
    (f_point_less [.tup [rD x, rD y, rD z], t3 k0 k1 k2]).wp P NoE := by
  wtm_at "y_in"
  wtm_at "y_go"
  refine sp_less_i hx hk0 (by decide) ?_
  wtm_at "y_go"
  refine sp_less_i hy hk1 (by decide) ?_
  wtm_at "y_go"
  refine sp_less_i hz hk2 (by decide) ?_
  wtm_at "y_go"
  exact h
theorem sp_point_dot (hx : RB 2201 1501 x) (hy : RB 2201 1501 y) (hz : RB 2201 1501 z) (hk0 : Bd 700 k0) (hk1 : Bd 700 k1) (hk2 : Bd 700 k2) (h : P (rD (x * (k0 : Rat) + y * (k1 : Rat) + z * (k2 : Rat)))) :
    (f_point_dot [.tup [rD x, rD y, rD z], t3 k0 k1 k2]).wp P NoE := by
  wtm_at "y_in"
  wtm_at "y_go"
  refine sp_times_i hx hk0 (by decide) ?_
  wtm_at "y_go"
  refine sp_sum_0 (hx.mul (RB.int hk0)) (by decide) ?_
  wtm_at "y_go"
  refine sp_times_i hy hk1 (by decide) ?_
  wtm_at "y_go"
  refine sp_times_i hz hk2 (by decide) ?_
  wtm_at "y_go"
  exact h
theorem RB.pdot (hx : RB 2201 1501 x) (hy : RB 2201 1501 y) (hz : RB 2201 1501 z) (hk0 : Bd 700 k0) (hk1 : Bd 700 k1) (hk2 : Bd 700 k2) : RB 6000 4600 (x * (k0 : Rat) + y * (k1 : Rat) + z * (k2 : Rat)) :=
  RB.mono (by wtm_at "y_bd") (by decide) (by decide)
/-- the number of directions' plane: front by direction -/
theorem sp_meeting_of (hk0 : Bd 200 k0) (hk1 : Bd 200 k1) (hk2 : Bd 200 k2) (hs0 : Bd 200 s0) (hs1 : Bd 200 s1) (hs2 : Bd 200 s2) (ho0 : Bd 200 o0) (ho1 : Bd 200 o1) (ho2 : Bd 200 o2) (hd0 : Bd 200 d0) (hd1 : Bd 200 d1) (hd2 : Bd 200 d2) (hx : RB 1500 1500 x) (hy : RB 1500 1500 y) (hz : RB 1500 1500 z)
    (h0 : (s1 * o2 - s2 * o1) * d0 + (s2 * o0 - s0 * o2) * d1 + (s0 * o1 - s1 * o0) * d2 = 0 → P .non)
    (h1 : (s1 * o2 - s2 * o1) * d0 + (s2 * o0 - s0 * o2) * d1 + (s0 * o1 - s1 * o0) * d2 ≠ 0 → P (.tup [
      rD (((x - (k0 : Rat)) * ((o1 * d2 - o2 * d1 : Int) : Rat) + (y - (k1 : Rat)) * ((o2 * d0 - o0 * d2 : Int) : Rat) + (z - (k2 : Rat)) * ((o0 * d1 - o1 * d0 : Int) : Rat)) / (((s1 * o2 - s2 * o1) * d0 + (s2 * o0 - s0 * o2) * d1 + (s0 * o1 - s1 * o0) * d2 : Int) : Rat)),
      rD (((x - (k0 : Rat)) * ((d1 * s2 - d2 * s1 : Int) : Rat) + (y - (k1 : Rat)) * ((d2 * s0 - d0 * s2 : Int) : Rat) + (z - (k2 : Rat)) * ((d0 * s1 - d1 * s0 : Int) : Rat)) / (((s1 * o2 - s2 * o1) * d0 + (s2 * o0 - s0 * o2) * d1 + (s0 * o1 - s1 * o0) * d2 : Int) : Rat))])) :
    (f_meeting_of [.tup [t3 k0 k1 k2, t3 s0 s1 s2, t3 o0 o1 o2], .tup [rD x, rD y, rD z], t3 d0 d1 d2]).wp P NoE := by
  wtm_at "y_in"
  wtm_at "y_go"
  · rename_i e; exact h0 e
  rename_i e
  refine sp_point_less hx hy hz (by wtm_at "y_bdn") (by wtm_at "y_bdn") (by wtm_at "y_bdn") ?_
  have a0 : RB 2201 1501 (x - (k0 : Rat)) := (hx.sub (RB.int hk0)).mono (by decide) (by decide)
  have a1 : RB 2201 1501 (y - (k1 : Rat)) := (hy.sub (RB.int hk1)).mono (by decide) (by decide)
  have a2 : RB 2201 1501 (z - (k2 : Rat)) := (hz.sub (RB.int hk2)).mono (by decide) (by decide)
  have hb : Bd 700 ((s1 * o2 - s2 * o1) * d0 + (s2 * o0 - s0 * o2) * d1 + (s0 * o1 - s1 * o0) * d2) := by wtm_at "y_bdn"
  have c {a b c d : Int} (ha : Bd 200 a) (hb : Bd 200 b) (hc : Bd 200 c) (hd : Bd 200 d) : Bd 700 (a * b - c * d) := ((ha.mul hb).subM (hc.mul hd)).mono (by decide)
  wtm_at "y_go"
  refine sp_point_dot a0 a1 a2 (c ho1 hd2 ho2 hd1) (c ho2 hd0 ho0 hd2) (c ho0 hd1 ho1 hd0) ?_
  wtm_at "y_go"
  refine sp_by_i e (RB.pdot a0 a1 a2 (c ho1 hd2 ho2 hd1) (c ho2 hd0 ho0 hd2) (c ho0 hd1 ho1 hd0)) hb (by decide) ?_
  wtm_at "y_go"
  refine sp_point_dot a0 a1 a2 (c hd1 hs2 hd2 hs1) (c hd2 hs0 hd0 hs2) (c hd0 hs1 hd1 hs0) ?_
  wtm_at "y_go"
  refine sp_by_i e (RB.pdot a0 a1 a2 (c hd1 hs2 hd2 hs1) (c hd2 hs0 hd0 hs2) (c hd0 hs1 hd1 hs0)) hb (by decide) ?_
  wtm_at "y_go"
  exact h1 e
end

/-! ### triples and plates: the program's steps -/
section
variable {P : D → Prop} {n m : Nat} {a b c : V3} {p q : Pl} {d : V3}
theorem sp_dotV (hn : n < 10000) (hm : m < 10000) (ha : Bd3 n a) (hb : Bd3 m b) (h : P (.int (dot3 a b))) : (f_dot_of [a.D, b.D]).wp P NoE := sp_dot_of hn hm ha.x ha.y ha.z hb.x hb.y hb.z h
theorem sp_lessV (h : P (sub3 a b).D) : (f_triple_less [a.D, b.D]).wp P NoE := sp_triple_less h
theorem sp_frontV (hn : n < 10000) (hs : Bd3 n p.s) (ho : Bd3 n p.o) (h : P p.n.D) : (f_front_of [p.D]).wp P NoE := sp_front_of hn hs.x hs.y hs.z ho.x ho.y ho.z h
theorem sp_cornersV (h : P (.lst (q.corners.map V3.D))) : (f_corners_of [q.D]).wp P NoE := by
  obtain ⟨⟨c0, c1, c2⟩, ⟨p0, p1, p2⟩, ⟨q0, q1, q2⟩⟩ := q
  unfold Pl.D V3.D
  wtm_at "y_in"
  repeat' wtm_at "y_dy"
  exact h
def c3 (c : V3) : Q3 := ((c.x : Rat), (c.y : Rat), (c.z : Rat))
theorem sp_pointV (h : P (q3D (c3 c))) : (f_as_point [c.D]).wp P NoE := sp_as_point h
/-- where the way through a point meets the plane -/
def mR (p : Pl) (d : V3) (X : Q3) : Pt :=
  (((X.1 - (p.k.x : Rat)) * ((p.o.y * d.z - p.o.z * d.y : Int) : Rat) + (X.2.1 - (p.k.y : Rat)) * ((p.o.z * d.x - p.o.x * d.z : Int) : Rat) + (X.2.2 - (p.k.z : Rat)) * ((p.o.x * d.y - p.o.y * d.x : Int) : Rat)) / (((p.s.y * p.o.z - p.s.z * p.o.y) * d.x + (p.s.z * p.o.x - p.s.x * p.o.z) * d.y + (p.s.x * p.o.y - p.s.y * p.o.x) * d.z : Int) : Rat),
   ((X.1 - (p.k.x : Rat)) * ((d.y * p.s.z - d.z * p.s.y : Int) : Rat) + (X.2.1 - (p.k.y : Rat)) * ((d.z * p.s.x - d.x * p.s.z : Int) : Rat) + (X.2.2 - (p.k.z : Rat)) * ((d.x * p.s.y - d.y * p.s.x : Int) : Rat)) / (((p.s.y * p.o.z - p.s.z * p.o.y) * d.x + (p.s.z * p.o.x - p.s.x * p.o.z) * d.y + (p.s.x * p.o.y - p.s.y * p.o.x) * d.z : Int) : Rat))
theorem sp_meetV {X : Q3} (h1 : Bd3 200 p.k) (h2 : Bd3 200 p.s) (h3 : Bd3 200 p.o) (h4 : Bd3 200 d) (hX : RP3 1500 X) (hW : p.W d ≠ 0) (h : P (pD (mR p d X))) : (f_meeting_of [p.D, q3D X, d.D]).wp P NoE :=
  sp_meeting_of h1.x h1.y h1.z h2.x h2.y h2.z h3.x h3.y h3.z h4.x h4.y h4.z hX.1 hX.2.1 hX.2.2 (fun e => absurd e hW) fun _ => h
theorem mR_c (c : V3) : mR p d (c3 c) = p.m d c := by
  have e1 : ((p.S d c : Int) : Rat) = (((c.x : Rat) - (p.k.x : Rat)) * ((p.o.y * d.z - p.o.z * d.y : Int) : Rat) + ((c.y : Rat) - (p.k.y : Rat)) * ((p.o.z * d.x - p.o.x * d.z : Int) : Rat) + ((c.z : Rat) - (p.k.z : Rat)) * ((p.o.x * d.y - p.o.y * d.x : Int) : Rat)) := by
    unfold Pl.S dot3 sub3 crs3
    dsimp only
    simp only [Rat.intCast_add, Rat.intCast_sub, Rat.intCast_mul]
  have e2 : ((p.T d c : Int) : Rat) = (((c.x : Rat) - (p.k.x : Rat)) * ((d.y * p.s.z - d.z * p.s.y : Int) : Rat) + ((c.y : Rat) - (p.k.y : Rat)) * ((d.z * p.s.x - d.x * p.s.z : Int) : Rat) + ((c.z : Rat) - (p.k.z : Rat)) * ((d.x * p.s.y - d.y * p.s.x : Int) : Rat)) := by
    unfold Pl.T dot3 sub3 crs3
    dsimp only
    simp only [Rat.intCast_add, Rat.intCast_sub, Rat.intCast_mul]
  unfold Pl.m
  rw [e1, e2]
  rfl
theorem mR_btw (X Y : Q3) (u v : Rat) : mR p d (btw3 X Y u v) = btw (mR p d X) (mR p d Y) u v := by
  unfold mR btw3 btw
  dsimp only
  generalize ((p.o.y * d.z - p.o.z * d.y : Int) : Rat) = g1
  generalize ((p.o.z * d.x - p.o.x * d.z : Int) : Rat) = g2
  generalize ((p.o.x * d.y - p.o.y * d.x : Int) : Rat) = g3
  generalize ((d.y * p.s.z - d.z * p.s.y : Int) : Rat) = g4
  generalize ((d.z * p.s.x - d.x * p.s.z : Int) : Rat) = g5
  generalize ((d.x * p.s.y - d.y * p.s.x : Int) : Rat) = g6
  generalize (((p.s.y * p.o.z - p.s.z * p.o.y) * d.x + (p.s.z * p.o.x - p.s.x * p.o.z) * d.y + (p.s.x * p.o.y - p.s.y * p.o.x) * d.z : Int) : Rat) = w
  generalize u / (u - v) = s
  refine Prod.ext ?_ ?_
  · dsimp only
    rw [Rat.div_def, Rat.div_def, Rat.div_def]
    grind
  · dsimp only
    rw [Rat.div_def, Rat.div_def, Rat.div_def]
    grind
end
instance : Inhabited V3 := ⟨⟨0, 0, 0⟩⟩
theorem max_of : ∀ {ns : List Int}, ns ≠ [] → ∃ m, topI max ns = some m ∧ m ∈ ns ∧ ∀ y ∈ ns, y ≤ m
  | [], h => absurd rfl h
  | i :: r, _ => ⟨_, rfl, fold_max r i⟩
theorem c3_RP {n : Nat} (hn : 1 ≤ n) {c : V3} (h : Bd3 n c) : RP3 n (c3 c) := ⟨(RB.int h.x).mono (Nat.le_refl _) hn, (RB.int h.y).mono (Nat.le_refl _) hn, (RB.int h.z).mono (Nat.le_refl _) hn⟩
theorem corner_Bd {n : Nat} {q : Pl} (h1 : Bd3 n q.k) (h2 : Bd3 n q.s) (h3 : Bd3 n q.o) : ∀ c ∈ q.corners, Bd3 (n + 2) c := fun c hc => by
  unfold Pl.corners at hc
  simp only [List.mem_cons, List.not_mem_nil, or_false] at hc
  rcases hc with rfl | rfl | rfl | rfl
  · exact h1.mono (by omega)
  · exact (h1.add h2).mono (by omega)
  · exact ((h1.add h2).add h3).mono (by omega)
  · exact (h1.add h3).mono (by omega)

/-! ### what is shaded: the program's steps -/
theorem whole_D : D.lst [.tup [.tup [.int 0, .int 1], .tup [.int 0, .int 1]], .tup [.tup [.int 1, .int 1], .tup [.int 0, .int 1]], .tup [.tup [.int 1, .int 1], .tup [.int 1, .int 1]], .tup [.tup [.int 0, .int 1], .tup [.int 1, .int 1]]] = D.lst (whole.map pD) := rfl
theorem sp_shaded {p q : Pl} {d : V3} {P : D → Prop} (hW : 0 < p.W d) (z : Sz 40 p q d) (h : P (.lst ((shadedR p q d).map pD))) : (f_shaded_by [p.D, q.D, d.D]).wp P NoE := by
  have hW0 : p.W d ≠ 0 := by omega
  obtain ⟨_, main⟩ := shaded_facts hW z
  have bn : Bd3 81 p.n := z.s.crs z.o
  have bn' : Bd3 81 q.n := z.s'.crs z.o'
  have cB := corner_Bd z.k' z.s' z.o'
  have hf : ∀ {P : D → Prop}, P p.n.D → (f_front_of [p.D]).wp P NoE := fun h => sp_frontV (n := 40) (by decide) z.s z.o h
  have hf' : ∀ {P : D → Prop}, P q.n.D → (f_front_of [q.D]).wp P NoE := fun h => sp_frontV (n := 40) (by decide) z.s' z.o' h
  have hc : ∀ {P : D → Prop}, P (.lst (q.corners.map V3.D)) → (f_corners_of [q.D]).wp P NoE := fun h => sp_cornersV h
  have hdot : ∀ {P : D → Prop}, P (.int (q.W d)) → (f_dot_of [q.n.D, d.D]).wp P NoE := fun h => sp_dotV (n := 81) (m := 40) (by decide) (by decide) bn' z.d h
  have hH : ∀ c ∈ q.corners, ∀ {P : D → Prop}, P (.int (p.H c)) → (f_dot_of [p.n.D, (sub3 c p.k).D]).wp P NoE := fun c hc P h => sp_dotV (n := 81) (m := 43) (by decide) (by decide) bn (((cB c hc).sub z.k).mono (by decide)) h
  have bH : ∀ c ∈ q.corners, Bd 126 (p.H c) := fun c hc => (bn.dot ((cB c hc).sub z.k)).mono (by decide)
  have hm : ∀ X, RP3 1500 X → ∀ {P : D → Prop}, P (pD (mR p d X)) → (f_meeting_of [p.D, q3D X, d.D]).wp P NoE := fun X hX P h => sp_meetV (z.k.mono (by decide)) (z.s.mono (by decide)) (z.o.mono (by decide)) (z.d.mono (by decide)) hX hW0 h
  have ik : oIx p.D (.int 0) = some p.k.D := rfl
  have cl : q.corners.length = 4 := rfl
  have hsh : shadedR p q d = if q.W d = 0 ∨ (∀ c ∈ q.corners, p.H c ≤ 0) then [] else bothT (tidP (kept (parC (p.m d q.k) (side p d q.s) (side p d q.o)) (hgt p q d).at)) whole := by
    unfold shadedR
    congr
  obtain ⟨dp, edp⟩ : ∃ x, p.D = x := ⟨_, rfl⟩
  obtain ⟨dq, edq⟩ : ∃ x, q.D = x := ⟨_, rfl⟩
  obtain ⟨dd, edd⟩ : ∃ x, d.D = x := ⟨_, rfl⟩
  obtain ⟨dn, edn⟩ : ∃ x, p.n.D = x := ⟨_, rfl⟩
  obtain ⟨dn', edn'⟩ : ∃ x, q.n.D = x := ⟨_, rfl⟩
  obtain ⟨dk, edk⟩ : ∃ x, p.k.D = x := ⟨_, rfl⟩
  rw [edp] at hf hm ik ⊢
  rw [edq] at hf' hc ⊢
  rw [edd] at hdot hm ⊢
  rw [edn] at hf hH
  rw [edn'] at hf' hdot
  rw [edk] at ik
  obtain ⟨dcs, edcs⟩ : ∃ x, D.lst (q.corners.map V3.D) = x := ⟨_, rfl⟩
  have itc : iterD dcs = some (q.corners.map V3.D) := by rw [← edcs]; rfl
  rw [edcs] at hc
  wtm_at "y_in"
  repeat' (first | wtm_at "y_dy")
  refine hf ?_
  repeat' (first | wtm_at "y_dy")
  refine hc ?_
  repeat' ((fail_if_success (with_reducible show Dy.Got (compS _ _ _ _ _) _)); first | wtm_at "y_dy" | (with_reducible refine g_ot itc ?_))
  refine c_mapG (f := V3.D) (g := fun c => D.int (p.H c)) (fun c hc' => ?_) ?_
  · refine w_bName ?_
    obtain ⟨dc, edc⟩ : ∃ x, c.D = x := ⟨_, rfl⟩
    rw [edc]
    repeat' (first | ((fail_if_success (with_reducible show R.wp (f_triple_less _) _ _)); wtm_at "y_dy") | (with_reducible refine g_ot ik ?_))
    rw [← edc, ← edk]
    refine sp_lessV ?_
    repeat' ((fail_if_success (with_reducible show R.wp (f_dot_of _) _ _)); wtm_at "y_dy")
    exact hH c hc' rfl
  have eI : q.corners.map (fun c => D.int (p.H c)) = (q.corners.map p.H).map D.int := by rw [List.map_map]; rfl
  rw [eI]
  have hne : q.corners.map p.H ≠ [] := by unfold Pl.corners; simp
  obtain ⟨mx, e1, e2, e3⟩ := max_of hne
  have hmx : mx ≤ 0 ↔ ∀ c ∈ q.corners, p.H c ≤ 0 := by
    constructor
    · intro k c hc'
      have := e3 _ (List.mem_map.mpr ⟨c, hc', rfl⟩)
      omega
    · intro k
      obtain ⟨c, hc', rfl⟩ := List.mem_map.mp e2
      exact k c hc'
  have hbest : oMax1 [D.lst ((q.corners.map p.H).map D.int)] = some (.int mx) := by
    obtain ⟨x, q1, q2⟩ := w_best (P := fun d => d = .int mx) (intsD_ints (q.corners.map p.H)) e1 rfl
    rw [← q2]
    exact q1
  have ith : iterD (D.lst ((q.corners.map p.H).map D.int)) = some ((q.corners.map p.H).map D.int) := rfl
  obtain ⟨dhs, edhs⟩ : ∃ x, D.lst ((q.corners.map p.H).map D.int) = x := ⟨_, rfl⟩
  rw [edhs] at hbest ith ⊢
  clear e1 e2 e3 hne eI
  repeat' (first | ((fail_if_success (with_reducible show R.wp (f_front_of _) _ _)); wtm_at "y_dy"))
  refine hf' ?_
  repeat' ((fail_if_success (with_reducible show R.wp (f_dot_of _) _ _)); wtm_at "y_dy")
  refine hdot ?_
  have nil : shadedR p q d = [] → P (.lst []) := fun e => by
    rw [e] at h
    exact h
  repeat' (first | wtm_at "y_dy" | (with_reducible refine g_ot hbest ?_))
  · rename_i e
    exact nil (by rw [hsh, if_pos (.inl e)])
  · rename_i e
    exact nil (by rw [hsh, if_pos (.inr (hmx.mp e))])
  rename_i hE hx
  have hex : ∃ c ∈ q.corners, 0 < p.H c := by
    refine Classical.byContradiction fun k => hx (hmx.mpr fun c hc' => ?_)
    refine Classical.byContradiction fun k2 => k ⟨c, hc', by omega⟩
  obtain ⟨m1, m2, m3⟩ := main hE hex
  rw [hsh, if_neg (fun k => k.elim hE fun k => hx (hmx.mpr k))] at h
  clear nil hbest hmx main hsh
  have hkept : (keptG btw3 (q.corners.map c3) (fun k => ((p.H (q.corners.getD k default) : Int) : Rat)) 4).map (mR p d) = kept (parC (p.m d q.k) (side p d q.s) (side p d q.o)) (hgt p q d).at := by
    have e := keptG_map (bt := btw3) (ps := q.corners.map c3) (h := fun k => ((p.H (q.corners.getD k default) : Int) : Rat)) (g := mR p d) (hg := (hgt p q d).at) (fun k hk => ?_) (fun k hk _ => mR_btw _ _ _ _) 4 (show 4 ≤ 4 from Nat.le_refl 4)
    · rw [e]
      have ep : (q.corners.map c3).map (mR p d) = parC (p.m d q.k) (side p d q.s) (side p d q.o) := by
        rw [List.map_map, ← corners_par hW0]
        exact List.map_congr_left fun c _ => mR_c c
      rw [ep]
      rfl
    · rw [List.length_map, cl] at hk
      have hk' : k < q.corners.length := by rw [cl]; exact hk
      have ea : atG (q.corners.map c3) k = c3 (q.corners.getD k default) := by
        unfold atG
        rw [List.getD_eq_getElem?_getD, List.getD_eq_getElem?_getD, List.getElem?_map, List.getElem?_eq_getElem hk']
        rfl
      have em : q.corners.getD k default ∈ q.corners := by
        rw [List.getD_eq_getElem?_getD, List.getElem?_eq_getElem hk']
        exact List.getElem_mem hk'
      rw [ea, mR_c]
      exact hgt_at hW0 hE _ (corner_in _ em)
  have hRP : ∀ X ∈ keptG btw3 (q.corners.map c3) (fun k => ((p.H (q.corners.getD k default) : Int) : Rat)) 4, RP3 1500 X := by
    have at42 : ∀ k, k < (q.corners.map c3).length → RP3 42 (atG (q.corners.map c3) k) := fun k hk => by
      have hm := List.mem_of_getElem? (atG_get (ps := q.corners.map c3) hk)
      obtain ⟨c, hc', e⟩ := List.mem_map.mp hm
      rw [← e]
      exact c3_RP (by decide) (cB c hc')
    have hr : ∀ k, k < (q.corners.map c3).length → RB 126 126 ((p.H (q.corners.getD k default) : Int) : Rat) := fun k hk => by
      rw [List.length_map] at hk
      have em : q.corners.getD k default ∈ q.corners := by
        rw [List.getD_eq_getElem?_getD, List.getElem?_eq_getElem hk]
        exact List.getElem_mem hk
      exact (RB.int (bH _ em)).mono (by decide) (by decide)
    have up : ∀ X, RP3 42 X → RP3 1500 X := fun X ⟨a, b, c⟩ => ⟨a.mono (by decide) (by decide), b.mono (by decide) (by decide), c.mono (by decide) (by decide)⟩
    refine keptG_all (fun k hk => up _ (at42 k hk)) (fun k hk z => ?_) 4 (show 4 ≤ 4 from Nat.le_refl 4)
    have hk2 : (k + 1) % (q.corners.map c3).length < (q.corners.map c3).length := Nat.mod_lt _ (show 0 < 4 by decide)
    have a := at42 k hk
    have b := at42 _ hk2
    have u := hr k hk
    have v := hr _ hk2
    have hd : ((p.H (q.corners.getD k default) : Int) : Rat) - ((p.H (q.corners.getD ((k + 1) % (q.corners.map c3).length) default) : Int) : Rat) ≠ 0 := fun e => by
      have e2 : ((p.H (q.corners.getD k default) : Int) : Rat) = ((p.H (q.corners.getD ((k + 1) % (q.corners.map c3).length) default) : Int) : Rat) := by grind
      rw [e2] at z
      exact sq_pos _ z
    exact ⟨(RB.btw a.1 b.1 u v hd).mono (by decide) (by decide), (RB.btw a.2.1 b.2.1 u v hd).mono (by decide) (by decide), (RB.btw a.2.2 b.2.2 u v hd).mono (by decide) (by decide)⟩
  repeat' ((fail_if_success (with_reducible show Dy.Got (compS _ _ _ _ _) _)); first | wtm_at "y_dy" | (with_reducible refine g_ot itc ?_))
  refine c_mapG (f := V3.D) (g := fun c => q3D (c3 c)) (fun c hc' => ?_) ?_
  · refine w_bName ?_
    obtain ⟨dc, edc⟩ : ∃ x, c.D = x := ⟨_, rfl⟩
    rw [edc]
    repeat' ((fail_if_success (with_reducible show R.wp (f_as_point _) _ _)); wtm_at "y_dy")
    rw [← edc]
    exact sp_pointV rfl
  obtain ⟨dps, edps⟩ : ∃ x, D.lst (q.corners.map fun c => q3D (c3 c)) = x := ⟨_, rfl⟩
  rw [edps]
  repeat' ((fail_if_success (with_reducible show Dy.Got (compS _ _ _ _ _) _)); first | wtm_at "y_dy" | (with_reducible refine g_ot ith ?_))
  refine c_mapG (f := D.int) (g := fun i : Int => rD (i : Rat)) (fun i hi => ?_) ?_
  · refine w_bName ?_
    repeat' wtm_at "y_dy"
    rfl
  obtain ⟨dhr, edhr⟩ : ∃ x, D.lst ((q.corners.map p.H).map fun i : Int => rD (i : Rat)) = x := ⟨_, rfl⟩
  rw [edhr]
  repeat' ((fail_if_success (with_reducible show R.wp (f_kept_side _) _ _)); wtm_at "y_dy")
  refine sp_keptG (fD := q3D) (bt := btw3) (ps := q.corners.map c3) (h := fun k => ((p.H (q.corners.getD k default) : Int) : Rat)) (n := 126) (show 4 ≤ 2000 by decide) (fun k hk => ?_) (by decide) (fun k hk zk {P} hP => ?_) ?_ (by rw [List.map_map]; exact edps) (by rw [← edhr]; rfl)
  · rw [List.length_map] at hk
    have em : q.corners.getD k default ∈ q.corners := by
      rw [List.getD_eq_getElem?_getD, List.getElem?_eq_getElem hk]
      exact List.getElem_mem hk
    exact (RB.int (bH _ em)).mono (by decide) (by decide)
  · have at42 : ∀ k, k < (q.corners.map c3).length → RP3 42 (atG (q.corners.map c3) k) := fun k hk => by
      have hm := List.mem_of_getElem? (atG_get (ps := q.corners.map c3) hk)
      obtain ⟨c, hc', e⟩ := List.mem_map.mp hm
      rw [← e]
      exact c3_RP (by decide) (cB c hc')
    have hr : ∀ k, k < (q.corners.map c3).length → RB 126 126 ((p.H (q.corners.getD k default) : Int) : Rat) := fun k hk => by
      rw [List.length_map] at hk
      have em : q.corners.getD k default ∈ q.corners := by
        rw [List.getD_eq_getElem?_getD, List.getElem?_eq_getElem hk]
        exact List.getElem_mem hk
      exact (RB.int (bH _ em)).mono (by decide) (by decide)
    have hk2 : (k + 1) % (q.corners.map c3).length < (q.corners.map c3).length := Nat.mod_lt _ (show 0 < 4 by decide)
    refine sp_between3 (at42 k hk) (at42 _ hk2) (hr k hk) (hr _ hk2) (by decide) (fun e => ?_) hP
    have e2 : ((p.H (q.corners.getD k default) : Int) : Rat) = ((p.H (q.corners.getD ((k + 1) % (q.corners.map c3).length) default) : Int) : Rat) := by grind
    rw [e2] at zk
    exact sq_pos _ zk
  have e4 : (q.corners.map c3).length = 4 := rfl
  rw [e4]
  have hkl := keptG_len (bt := btw3) (ps := q.corners.map c3) (h := fun k => ((p.H (q.corners.getD k default) : Int) : Rat)) 4
  generalize keptG btw3 (q.corners.map c3) (fun k => ((p.H (q.corners.getD k default) : Int) : Rat)) 4 = ks at hkept hRP hkl ⊢
  have itk : iterD (D.lst (ks.map q3D)) = some (ks.map q3D) := rfl
  obtain ⟨dks, edks⟩ : ∃ x, D.lst (ks.map q3D) = x := ⟨_, rfl⟩
  rw [edks] at itk ⊢
  repeat' ((fail_if_success (with_reducible show Dy.Got (compS _ _ _ _ _) _)); first | wtm_at "y_dy" | (with_reducible refine g_ot itk ?_))
  refine c_mapG (f := q3D) (g := fun X => pD (mR p d X)) (fun X hX => ?_) ?_
  · refine w_bName ?_
    have := fun {P : D → Prop} => hm X (hRP X hX) (P := P)
    obtain ⟨dX, edX⟩ : ∃ x, q3D X = x := ⟨_, rfl⟩
    rw [edX] at this ⊢
    repeat' ((fail_if_success (with_reducible show R.wp (f_meeting_of _) _ _)); wtm_at "y_dy")
    exact this rfl
  have eR : ks.map (fun X => pD (mR p d X)) = (kept (parC (p.m d q.k) (side p d q.s) (side p d q.o)) (hgt p q d).at).map pD := by rw [← hkept, List.map_map]; rfl
  rw [eR]
  clear eR hkept hRP
  generalize kept (parC (p.m d q.k) (side p d q.s) (side p d q.o)) (hgt p q d).at = R at m1 m2 m3 h ⊢
  have fl : (fnd R).length ≤ 14 := Nat.le_trans (Nat.le_trans (fndN_len _) unl_len) (Nat.le_trans m2 (by decide))
  have rl : R.length ≤ 2000 := Nat.le_trans m2 (by decide)
  generalize edR : D.lst (R.map pD) = dR
  repeat' ((fail_if_success (with_reducible show R.wp (f_tidied_part _) _ _)); wtm_at "y_dy")
  refine sp_tidiedT (m := 253) (n := 253) (N := 14) rl (by decide) (fun x hx => (m1 x hx).rb) (by decide) (by decide) (fun x hx => m1 x (fnd_mem hx)) fl (by decide) (by decide) edR ?_
  generalize tidP R = Q at m3 h ⊢
  generalize edQ : D.lst (Q.map pD) = dQ
  rw [whole_D]
  generalize edw : D.lst (whole.map pD) = dw
  have lw : oList [dw] = some dw := by rw [← edw]; rfl
  repeat' ((fail_if_success (with_reducible show R.wp (f_both_of _) _ _)); first | wtm_at "y_dy" | (with_reducible refine g_ot lw ?_))
  have hwl : (whole : List Pt).length = 4 := rfl
  refine sp_bothT (m := 253) (k := 1) (n := 253) (N := 14) (fun j hj => ?_) (by decide) (fun x hx => (whole_HP x hx).rb) (by decide) (by decide) (fun _ _ => ⟨fun x hx => ?_, ?_⟩) (by decide) (by decide) (by decide) edQ edw h
  · obtain ⟨a, b⟩ := m3 j hj
    exact ⟨fun x hx => (a x hx).rb, by omega⟩
  · exact (m3 4 (Nat.le_refl _)).1 x (fnd_mem hx)
  · exact Nat.le_trans (Nat.le_trans (fndN_len _) unl_len) (m3 4 (Nat.le_refl _)).2

/-! ### left_of walked -/
theorem sp_left0 {F : List Pt} {dF dQ : D} (k : Nat) {P : D → Prop} (edF : D.lst (F.map pD) = dF) (e1 : oEq dQ (.lst []) = some (.bl true)) (ok : (∀ p ∈ F, HP 73 p) ∧ F.length ≤ 40) (h : P (rD (leftP F []))) : (r_left_of (k + 1) [dF, dQ]).wp P NoE := by
  obtain ⟨v, ev⟩ : ∃ v, rD (leftP F []) = v := ⟨_, rfl⟩
  have hs : ∀ {P : D → Prop}, P v → (f_share_of [dF]).wp P NoE := fun h => sp_shareW (n := 73) (N := 40) (by decide) edF ok.2 (by decide) ok.1 (by decide) (by rw [← ev] at h; exact h)
  rw [ev] at h
  clear ev ok edF
  show (fnD 2 2 _ [dF, dQ]).wp P NoE
  wtm_at "y_in"
  repeat' (first | ((fail_if_success (with_reducible show R.wp (f_share_of _) _ _)); wtm_at "y_dy") | (with_reducible refine g_ot e1 ?_))
  exact hs h

theorem sp_left1 {dF dQ dq dr db vx vy vz : D} (k : Nat) {P : D → Prop} (e1 : oEq dQ (.lst []) = some (.bl false)) (e2 : oEq dF (.lst []) = some (.bl false)) (ix : oIx dQ (.int 0) = some dq) (sl : oSl dQ (some 1) none = some dr)
    (both : ∀ {P : D → Prop}, P db → (f_both_of [dF, dq]).wp P NoE) (ih1 : ∀ {P : D → Prop}, P vx → (r_left_of k [dF, dr]).wp P NoE) (ih2 : ∀ {P : D → Prop}, P vy → (r_left_of k [db, dr]).wp P NoE) (hl : ∀ {P : D → Prop}, P vz → (f_ratio_less [vx, vy]).wp P NoE) (h : P vz) : (r_left_of (k + 1) [dF, dQ]).wp P NoE := by
  show (fnD 2 2 _ [dF, dQ]).wp P NoE
  generalize hr : r_left_of k = rk at ih1 ih2 ⊢
  wtm_at "y_in"
  repeat' (first | ((fail_if_success (with_reducible show R.wp (f_both_of _) _ _)); (fail_if_success (with_reducible show R.wp (rk _) _ _)); wtm_at "y_dy") | (with_reducible refine g_ot e1 ?_) | (with_reducible refine g_ot e2 ?_) | (with_reducible refine g_ot sl ?_))
  refine ih1 ?_
  repeat' (first | ((fail_if_success (with_reducible show R.wp (f_both_of _) _ _)); (fail_if_success (with_reducible show R.wp (rk _) _ _)); wtm_at "y_dy") | (with_reducible refine g_ot ix ?_))
  refine both ?_
  repeat' (first | ((fail_if_success (with_reducible show R.wp (f_ratio_less _) _ _)); (fail_if_success (with_reducible show R.wp (rk _) _ _)); wtm_at "y_dy") | (with_reducible refine g_ot sl ?_))
  refine ih2 ?_
  repeat' ((fail_if_success (with_reducible show R.wp (f_ratio_less _) _ _)); wtm_at "y_dy")
  exact hl h

theorem sp_leftE {dF dQ v : D} (k : Nat) {P : D → Prop} (e1 : oEq dQ (.lst []) = some (.bl false)) (e2 : oEq dF (.lst []) = some (.bl true)) (hs : ∀ {P : D → Prop}, P v → (f_share_of [dF]).wp P NoE) (h : P v) : (r_left_of (k + 1) [dF, dQ]).wp P NoE := by
  show (fnD 2 2 _ [dF, dQ]).wp P NoE
  wtm_at "y_in"
  repeat' (first | ((fail_if_success (with_reducible show R.wp (f_share_of _) _ _)); wtm_at "y_dy") | (with_reducible refine g_ot e1 ?_) | (with_reducible refine g_ot e2 ?_))
  exact hs h
def ringsD (Qs : List (List Pt)) : D := .lst (Qs.map fun Q => D.lst (Q.map pD))
/-- what left_of's steps want -/
inductive LO : List Pt → List (List Pt) → Prop
  | none {F : List Pt} (h : (∀ p ∈ F, HP 73 p) ∧ F.length ≤ 40) : LO F []
  | empty {Q : List Pt} {r : List (List Pt)} : LO [] (Q :: r)
  | step {F Q : List Pt} {r : List (List Pt)} (hF : F ≠ []) (both : ∀ {P : D → Prop}, P (.lst ((bothT F Q).map pD)) → (f_both_of [.lst (F.map pD), .lst (Q.map pD)]).wp P NoE) (a : LO F r) (b : LO (bothT F Q) r) (hl : ∀ {P : D → Prop}, P (rD (leftP F r - leftP (bothT F Q) r)) → (f_ratio_less [rD (leftP F r), rD (leftP (bothT F Q) r)]).wp P NoE) : LO F (Q :: r)
theorem rings_sl (Q : List Pt) (r : List (List Pt)) : oSl (ringsD (Q :: r)) (some 1) none = some (ringsD r) := by
  have e : Dy.cutD ((Q :: r).map fun Q => D.lst (Q.map pD)) (some (1 : Int)) none = r.map fun Q => D.lst (Q.map pD) := by
    unfold Dy.cutD
    have e1 : HT.sIx ((Q :: r).map fun Q => D.lst (Q.map pD)).length 0 (some (1 : Int)) = 1 := sIx_at (k := 1) (by rw [List.length_map, List.length_cons]; omega)
    have e2 : HT.sIx ((Q :: r).map fun Q => D.lst (Q.map pD)).length ((Q :: r).map fun Q => D.lst (Q.map pD)).length none = ((Q :: r).map fun Q => D.lst (Q.map pD)).length := rfl
    rw [e1, e2]
    simp
    exact List.take_of_length_le (by rw [List.length_map]; exact Nat.le_refl _)
  unfold ringsD
  rw [← e]
  rfl
theorem rings_nil : oEq (ringsD []) (.lst []) = some (.bl true) := rfl
theorem rings_okq (Qs : List (List Pt)) : okq 40 (.lst (Qs.map fun Q => D.lst (Q.map pD))) = true := by
  show (Qs.map fun Q => D.lst (Q.map pD)).all (okq 39) = true
  rw [List.all_map, List.all_eq_true]
  intro Q _
  show (Q.map pD).all (okq 38) = true
  rw [List.all_map, List.all_eq_true]
  intro p _
  rfl
theorem rings_ne (Q : List Pt) (r : List (List Pt)) : oEq (ringsD (Q :: r)) (.lst []) = some (.bl false) := by
  obtain ⟨z, e, h'⟩ := w_eqNil (P := fun d => d = .bl ((Q :: r).map fun Q => D.lst (Q.map pD)).isEmpty) (rings_okq (Q :: r)) rfl
  unfold ringsD
  rw [e, h']
  rfl
theorem rings_ix (Q : List Pt) (r : List (List Pt)) : oIx (ringsD (Q :: r)) (.int 0) = some (D.lst (Q.map pD)) := by
  have e := atI_nat (xs := (Q :: r).map fun Q => D.lst (Q.map pD)) (j := 0) (v := D.lst (Q.map pD)) rfl
  exact e
theorem sp_left {F : List Pt} {Qs : List (List Pt)} (h : LO F Qs) : ∀ (k : Nat) {P : D → Prop}, Qs.length < k → P (rD (leftP F Qs)) → (r_left_of k [.lst (F.map pD), ringsD Qs]).wp P NoE := by
  induction h with
  | none ok =>
    intro k P hk hP
    obtain ⟨k, rfl⟩ : ∃ j, k = j + 1 := ⟨k - 1, by have : 0 < k := hk; omega⟩
    generalize edF : D.lst (List.map pD _) = dF
    have e1 := rings_nil
    generalize ringsD [] = dQ at e1 ⊢
    exact sp_left0 k edF e1 ok hP
  | empty =>
    intro k P hk hP
    obtain ⟨k, rfl⟩ : ∃ j, k = j + 1 := ⟨k - 1, by have := Nat.zero_lt_of_lt hk; omega⟩
    refine sp_leftE k (rings_ne _ _) (eq_nilW (ps := []) rfl) (fun h => sp_shareW (n := 73) (N := 40) (ps := []) (by decide) rfl (Nat.zero_le _) (by decide) (fun _ h => nomatch h) (by decide) h) ?_
    exact hP
  | step hF both a b hl iha ihb =>
    rename_i F Q r
    intro k P hk hP
    obtain ⟨k, rfl⟩ : ∃ j, k = j + 1 := ⟨k - 1, by have := Nat.zero_lt_of_lt hk; omega⟩
    have hk' : r.length < k := by rw [List.length_cons] at hk; omega
    have e2 := eq_nilW (ps := F) rfl
    rw [decide_eq_false hF] at e2
    have e : leftP F (Q :: r) = leftP F r - leftP (bothT F Q) r := by
      show (if F = [] then _ else _) = _
      rw [if_neg hF]
    rw [e] at hP
    exact sp_left1 k (rings_ne Q r) e2 (rings_ix Q r) (rings_sl Q r) both (fun h => iha k hk' h) (fun h => ihb k hk' h) hl hP

/-! ### left_of's steps are had by parts of few lines -/
theorem ShT.ok {F : List Pt} {Ms : List Ln} (h : ShT 36 F Ms) : LinesOK 10 1 Ms := ⟨h.nd, h.hl, h.n⟩
theorem ShT.part {F : List Pt} {Ms : List Ln} (h : ShT 36 F Ms) : Part 10 1 F := ⟨Ms, h.t, h.ok⟩
theorem Part.bothS {F Q : List Pt} {Ms : List Ln} {j : Nat} (hF : Part 10 j F) (hj : j ≤ 2) (hQ : ShT 36 Q Ms) {P : D → Prop} {dF dQ : D} (edF : D.lst (F.map pD) = dF) (edQ : D.lst (Q.map pD) = dQ) (h : P (.lst ((bothT F Q).map pD))) : (f_both_of [dF, dQ]).wp P NoE := by
  have f := hF.hp
  have q := hQ.part.hp
  have key : F ≠ [] → ∀ i, i ≤ Q.length → (∀ p ∈ cutN F Q i, HP 73 p) ∧ (cutN F Q i).length ≤ 32 := fun hn i hi => by
    by_cases z : Q = []
    · subst z
      have : i = 0 := Nat.le_zero.mp hi
      subst this
      exact ⟨f.1, Nat.le_trans f.2 (by omega)⟩
    · obtain ⟨Ls, t, ok⟩ := hF.ex
      have c := t.cut_hp hQ.t hn z (n := 36) (fun l hl => (List.mem_append.mp hl).elim (fun k => ok.hl l (List.mem_reverse.mp k)) (whole_HL 10 l)) (fun l hl => (List.mem_append.mp hl).elim (fun k => hQ.hl l (List.mem_reverse.mp k)) (whole_HL 10 l)) i hi
      refine ⟨c.1, ?_⟩
      have := f.2
      have := q.2
      omega
  have nil : F = [] → ∀ i, cutN F Q i = [] := fun e i => by
    subst e
    induction i with
    | zero => rfl
    | succ i ih =>
      show kept (cutN [] Q i) _ = []
      rw [ih]
      rfl
  have key : ∀ i, i ≤ Q.length → (∀ p ∈ cutN F Q i, HP 73 p) ∧ (cutN F Q i).length ≤ 32 := fun i hi => by
    by_cases z : F = []
    · rw [nil z]
      exact ⟨(fun _ h => nomatch h), Nat.zero_le _⟩
    · exact key z i hi
  refine sp_bothT (m := 73) (k := 73) (n := 73) (N := 32) (fun i hi => ⟨fun p hp => ((key i hi).1 p hp).rb, Nat.le_trans (key i hi).2 (by decide)⟩) (by decide) (fun p hp => (q.1 p hp).rb) (by decide) (by decide) (fun _ _ => ?_) (by decide) (by decide) (Nat.le_trans q.2 (by decide)) edF edQ h
  obtain ⟨k1, k2⟩ := key Q.length (Nat.le_refl _)
  exact ⟨fun p hp => k1 p (fnd_mem hp), Nat.le_trans (Nat.le_trans (fndN_len _) unl_len) k2⟩
theorem Part.both {F Q : List Pt} {Ms : List Ln} {j : Nat} (hF : Part 10 j F) (hQ : ShT 36 Q Ms) : Part 10 (j + 1) (bothT F Q) := by
  obtain ⟨Ls, t, ok⟩ := hF.ex
  rw [← hQ.both t]
  exact hF.inn hQ.ok
theorem left_size : ∀ j, j < 3 → ∀ k, k < 3 → j + k < 3 → szL 73 j k + 2 + (szL 73 (j + 1) k + 2) < 9000 := by decide
theorem left_size2 : ∀ j, j < 4 → ∀ k, k < 4 → j + k < 4 → szL 73 j k + 5 < 90000 := by decide
theorem lo_of : ∀ (qs : List (List Pt × List Ln)) (F : List Pt) (j : Nat), (∀ x ∈ qs, ShT 36 x.1 x.2) → Part 10 j F → j + qs.length ≤ 3 → LO F (qs.map Prod.fst)
  | [], F, j, _, hF, hj => by
    obtain ⟨a, b⟩ := hF.hp
    exact .none ⟨a, by have : j + 0 ≤ 3 := hj; omega⟩
  | x :: r, F, j, h, hF, hj => by
    have hx := h x (.head _)
    have hr := fun y hy => h y (.tail _ hy)
    rw [List.length_cons] at hj
    rw [List.map_cons]
    by_cases z : F = []
    · subst z
      exact .empty
    have hB := hF.both hx
    refine .step z (fun h => hF.bothS (by omega) hx rfl rfl h) (lo_of r F j hr hF (by omega)) (lo_of r _ (j + 1) hr hB (by omega)) fun h => ?_
    have k1 := leftL_RB hF (Ks := r.map Prod.snd) fun hs hm => by
      obtain ⟨y, hy, rfl⟩ := List.mem_map.mp hm
      exact (hr y hy).ok
    have k2 := leftL_RB hB (Ks := r.map Prod.snd) fun hs hm => by
      obtain ⟨y, hy, rfl⟩ := List.mem_map.mp hm
      exact (hr y hy).ok
    obtain ⟨Ls, t, _⟩ := hF.ex
    obtain ⟨Ls', t', _⟩ := hB.ex
    rw [← leftP_L r Ls F hr t, List.length_map] at k1
    rw [← leftP_L r Ls' _ hr t', List.length_map] at k2
    have s1 := left_size j (by omega) r.length (by omega) (by omega)
    have s2 := left_size2 j (by omega) r.length (by omega) (by omega)
    have s3 := left_size2 (j + 1) (by omega) r.length (by omega) (by omega)
    change RB (szL 73 j r.length + 5) (szL 73 j r.length + 2) _ at k1
    change RB (szL 73 (j + 1) r.length + 5) (szL 73 (j + 1) r.length + 2) _ at k2
    generalize szL 73 j r.length = u at s1 s2 k1
    generalize szL 73 (j + 1) r.length = v at s1 s3 k2
    exact sp_ratio_less k1 k2 ⟨by omega, by omega, s1⟩ h
/-- how much is lit -/
def litR (p : Pl) (d : V3) (qs : List Pl) : Rat := leftP whole ((qs.map fun q => shadedR p q d).filter fun F => decide (F ≠ []))
theorem lines_of {p : Pl} {d : V3} (hW : 0 < p.W d) : ∀ qs : List Pl, (∀ q ∈ qs, Sz 10 p q d) → ∃ xs : List (List Pt × List Ln), xs.map Prod.fst = qs.map (fun q => shadedR p q d) ∧ ∀ x ∈ xs, ShT 36 x.1 x.2
  | [], _ => ⟨[], rfl, (fun _ h => nomatch h)⟩
  | q :: r, z => by
    obtain ⟨xs, e, k⟩ := lines_of hW r fun y hy => z y (.tail _ hy)
    obtain ⟨Ms, hM⟩ := shaded_lines hW (z q (.head _))
    refine ⟨(shadedR p q d, Ms) :: xs, by rw [List.map_cons, List.map_cons, e], fun x hx => ?_⟩
    rcases List.mem_cons.mp hx with rfl | hx
    · exact hM
    · exact k x hx
theorem whole_T : IsT (([] : List Ln).reverse ++ linesOf whole) whole := whole_IsT
theorem lit_L {p : Pl} {d : V3} {qs : List Pl} {xs : List (List Pt × List Ln)} (e : xs.map Prod.fst = qs.map fun q => shadedR p q d) (k : ∀ x ∈ xs, ShT 36 x.1 x.2) : litR p d qs = Rat.divInt 1 2 * leftL whole (xs.map Prod.snd) := by
  unfold litR
  have e2 : (xs.filter fun x => decide (x.1 ≠ [])).map Prod.fst = (qs.map fun q => shadedR p q d).filter fun F => decide (F ≠ []) := by
    rw [← e, List.filter_map]
    rfl
  rw [← e2, leftP_L _ [] whole (fun x hx => k x ((List.mem_filter.mp hx).1)) whole_T, leftL_some xs [] whole k whole_T]
/-- left_of over what shades -/
theorem sp_lit0 {p : Pl} {d : V3} {qs : List Pl} (hW : 0 < p.W d) (z : ∀ q ∈ qs, Sz 10 p q d) (hl : qs.length ≤ 3) {P : D → Prop} (h : P (rD (litR p d qs))) : (f_left_of [.lst (whole.map pD), ringsD ((qs.map fun q => shadedR p q d).filter fun F => decide (F ≠ []))]).wp P NoE := by
  obtain ⟨xs, e, k⟩ := lines_of hW qs z
  have e2 : (xs.filter fun x => decide (x.1 ≠ [])).map Prod.fst = (qs.map fun q => shadedR p q d).filter fun F => decide (F ≠ []) := by
    rw [← e, List.filter_map]
    rfl
  have hlx : (xs.filter fun x => decide (x.1 ≠ [])).length ≤ 3 := by
    refine Nat.le_trans (List.length_filter_le _ _) ?_
    have : (xs.map Prod.fst).length = (qs.map fun q => shadedR p q d).length := by rw [e]
    rw [List.length_map, List.length_map] at this
    omega
  have lo := lo_of (xs.filter fun x => decide (x.1 ≠ [])) whole 0 (fun x hx => k x ((List.mem_filter.mp hx).1)) (whole_part 10) (by omega)
  have ll : ((xs.filter fun x => decide (x.1 ≠ [])).map Prod.fst).length ≤ 3 := by rw [List.length_map]; exact hlx
  rw [e2] at lo ll
  exact sp_left lo 8 (by omega) h
theorem lit_RB {p : Pl} {d : V3} {qs : List Pl} (hW : 0 < p.W d) (z : ∀ q ∈ qs, Sz 10 p q d) (hl : qs.length ≤ 3) : RB 9000 9000 (litR p d qs) := by
  obtain ⟨xs, e, k⟩ := lines_of hW qs z
  rw [lit_L e k]
  have r := leftL_RB (whole_part 10) (Ks := xs.map Prod.snd) fun hs hm => by
    obtain ⟨y, hy, rfl⟩ := List.mem_map.mp hm
    exact (k y hy).ok
  have hx : xs.length ≤ 3 := by
    have : (xs.map Prod.fst).length = (qs.map fun q => shadedR p q d).length := by rw [e]
    rw [List.length_map, List.length_map] at this
    omega
  rw [List.length_map] at r
  have : ∀ k, k < 4 → szL 73 0 k + 5 ≤ 9000 := by decide
  have := this xs.length (by omega)
  exact r.mono this (by have : szL 73 0 xs.length + 2 ≤ 9000 := by omega
                        exact this)
theorem lit_perm {p : Pl} {d : V3} {qs rs : List Pl} (hW : 0 < p.W d) (z : ∀ q ∈ qs, Sz 10 p q d) (pm : qs.Perm rs) : litR p d qs = litR p d rs := by
  have f : ∀ q, q ∈ qs → ∃ Ms, ShT 36 (shadedR p q d) Ms := fun q hq => shaded_lines hW (z q hq)
  classical
  let g : Pl → List Pt × List Ln := fun q => if h : q ∈ qs then (shadedR p q d, Classical.choose (f q h)) else (shadedR p q d, [])
  have gf : ∀ q, (g q).1 = shadedR p q d := fun q => by
    show (if h : q ∈ qs then (shadedR p q d, Classical.choose (f q h)) else (shadedR p q d, [])).1 = _
    split <;> rfl
  have gs : ∀ q, q ∈ qs → ShT 36 (g q).1 (g q).2 := fun q hq => by
    have : g q = (shadedR p q d, Classical.choose (f q hq)) := dif_pos hq
    rw [this]
    exact Classical.choose_spec (f q hq)
  have e1 : ∀ ks : List Pl, (ks.map g).map Prod.fst = ks.map fun q => shadedR p q d := fun ks => by
    rw [List.map_map]
    exact List.map_congr_left fun q _ => gf q
  have k1 : ∀ x ∈ qs.map g, ShT 36 x.1 x.2 := fun x hx => by
    obtain ⟨q, hq, rfl⟩ := List.mem_map.mp hx
    exact gs q hq
  have k2 : ∀ x ∈ rs.map g, ShT 36 x.1 x.2 := fun x hx => by
    obtain ⟨q, hq, rfl⟩ := List.mem_map.mp hx
    exact gs q (pm.mem_iff.mpr hq)
  rw [lit_L (e1 qs) k1, lit_L (e1 rs) k2, leftL_perm ((pm.map g).map Prod.snd) _ _ whole_T fun hs hm => by
    obtain ⟨x, hx, rfl⟩ := List.mem_map.mp hm
    exact (k1 x hx).nd]
theorem lit_fewer {p q : Pl} {d : V3} {qs rs : List Pl} (hW : 0 < p.W d) (z : ∀ q ∈ qs, Sz 10 p q d) (pm : qs.Perm (q :: rs)) : litR p d qs ≤ litR p d rs := by
  rw [lit_perm hW z pm]
  obtain ⟨xs, e, k⟩ := lines_of hW rs fun y hy => z y (pm.mem_iff.mpr (.tail _ hy))
  obtain ⟨Ms, hM⟩ := shaded_lines hW (z q (pm.mem_iff.mpr (.head _)))
  have e' : ((shadedR p q d, Ms) :: xs).map Prod.fst = (q :: rs).map fun q => shadedR p q d := by rw [List.map_cons, List.map_cons, e]
  have k' : ∀ x ∈ (shadedR p q d, Ms) :: xs, ShT 36 x.1 x.2 := fun x hx => by
    rcases List.mem_cons.mp hx with rfl | hx
    · exact hM
    · exact k x hx
  rw [lit_L e k, lit_L e' k']
  have a := leftL_fewer (List.Perm.refl (Ms :: xs.map Prod.snd)) whole_T fun hs hm => by
    rcases List.mem_cons.mp hm with rfl | hm
    · exact hM.nd
    · obtain ⟨y, hy, rfl⟩ := List.mem_map.mp hm
      exact (k y hy).nd
  have b : (0 : Rat) ≤ Rat.divInt 1 2 := by decide +kernel
  have c := Rat.mul_le_mul_of_nonneg_left a b
  exact c
theorem lit_none {p : Pl} {d : V3} : litR p d [] = 1 := by
  show Rat.divInt 1 2 * cyc whole = 1
  decide +kernel

/-! ### lit_share walked -/
theorem eqD_str {a b : Str} (ha : PyData.strOk a = true) : eqD (.str a) (.str b) = decide (a = b) := by
  by_cases h : a = b
  · subst h
    rw [eqD_refl 40 (.str a) ha, decide_t rfl]
  · rw [decide_f h]
    simp only [eqD, D.py, PyData.eqv]
    exact beq_eq_false_iff_ne.mpr h
theorem w_eqStr {a b : Str} {P : D → Prop} (ha : PyData.strOk a = true) (hb : PyData.strOk b = true) (h : P (.bl (decide (a = b)))) : Got (oEq (.str a) (.str b)) P := w_eq ha hb (by rw [eqD_str ha]; exact h)
theorem w_neStr {a b : Str} {P : D → Prop} (ha : PyData.strOk a = true) (hb : PyData.strOk b = true) (h : P (.bl (!decide (a = b)))) : Got (oNe (.str a) (.str b)) P := w_ne ha hb (by rw [eqD_str ha]; exact h)
abbrev Th := Str × Pl × Option D
def thD (t : Th) : D := match t with
  | (n, p, none) => .tup [.str n, p.D]
  | (n, p, some x) => .tup [.str n, p.D, x]
theorem th0 (t : Th) : oIx (thD t) (.int 0) = some (.str t.1) := by
  obtain ⟨n, p, x⟩ := t
  cases x <;> rfl
theorem th1 (t : Th) : oIx (thD t) (.int 1) = some t.2.1.D := by
  obtain ⟨n, p, x⟩ := t
  cases x <;> rfl
def yD (sun : D) (ws ds : List Th) : D := .tup [sun, .lst (ws.map thD), .lst (ds.map thD)]
def othersT (nm : Str) (ws ds : List Th) : List Pl := ((ws ++ ds).filter fun x => !decide (x.1 = nm)).map fun x => x.2.1
def ringsS (S : Pl → List Pt) (qs : List Pl) : List (List Pt) := (qs.map S).filter fun F => decide (F ≠ [])
theorem pl_okq (p : Pl) : okq 38 p.D = true := rfl
theorem th_okq {x : Th} {t : D} (hx : PyData.strOk x.1 = true) (e : x.2.2 = some t) (ht : okq 38 t = true) : okq 39 (thD x) = true := by
  obtain ⟨n, p, y⟩ := x
  cases e
  show (PyData.strOk n && (okq 38 p.D && (okq 38 t && true))) = true
  rw [show PyData.strOk n = true from hx, pl_okq, ht]
  rfl
theorem ne_nilW {F : List Pt} {P : D → Prop} (h : P (.bl (decide (F ≠ [])))) : Got (oNe (.lst (F.map pD)) (.lst [])) P := by
  refine w_neNil okq_ptsW ?_
  cases F with
  | nil => exact h
  | cons a b => exact h
section
variable {sun dd t r : D} {p : Pl} {nm : Str} {hr : Int} {ws ds : List Th} {S : Pl → List Pt} {P : D → Prop}
theorem sp_litW {g : List D → R D} (hg : f_lit_share = g) (ok : PyData.strOk nm = true) (oks : ∀ x ∈ ws ++ ds, PyData.strOk x.1 = true) (hll : (ws ++ ds).length ≤ 1000) (ht : okq 38 t = true)
    (one : (ds.filter fun x => decide (x.1 = nm)) = [(nm, p, some t)])
    (dir : ∀ {P : D → Prop}, P dd → (f_direction_at [sun, .int hr]).wp P NoE)
    {b1 b2 : Bool} (up : ∀ {P : D → Prop}, P (.bl b1) → (f_is_up [sun, .int hr]).wp P NoE)
    (fr : ∀ {P : D → Prop}, P (.bl b2) → (f_comes_from_ahead [p.D, dd]).wp P NoE)
    (dark : (b1 && b2) = false → P (.tup [.int 0, .int 1]))
    (sh : (b1 && b2) = true → ∀ q ∈ othersT nm ws ds, ∀ {P : D → Prop}, P (.lst ((S q).map pD)) → (f_shaded_by [p.D, q.D, dd]).wp P NoE)
    (six : (b1 && b2) = true → (ringsS S (othersT nm ws ds)).length ≤ 6)
    (lf : (b1 && b2) = true → ∀ {P : D → Prop}, P r → (f_left_of [.lst (whole.map pD), ringsD (ringsS S (othersT nm ws ds))]).wp P NoE)
    (h : (b1 && b2) = true → P r) : (g [yD sun ws ds, .int hr, .str nm]).wp P NoE := by
  have hcat : oAdd (.lst (ws.map thD)) (.lst (ds.map thD)) = some (.lst ((ws ++ ds).map thD)) := by
    obtain ⟨z, e, h⟩ := w_addL (xs := ws.map thD) (ys := ds.map thD) (P := fun z => z = _) (by rw [List.length_append] at hll; rw [List.length_map, List.length_map, sizeLine_eq]; omega) rfl
    rw [e, h, List.map_append]
  have hll2 : ws.length + ds.length ≤ 1000 := by rw [List.length_append] at hll; exact hll
  have hlq : (othersT nm ws ds).length ≤ 1000 := by
    unfold othersT
    rw [List.length_map]
    exact Nat.le_trans (List.length_filter_le _ _) hll
  have itd : iterD (.lst (ds.map thD)) = some (ds.map thD) := rfl
  have itw : iterD (.lst ((ws ++ ds).map thD)) = some ((ws ++ ds).map thD) := rfl
  have okd : ∀ x ∈ ds, PyData.strOk x.1 = true := fun x hx => oks x (List.mem_append_right _ hx)
  have h0 : oIx (.lst [thD (nm, p, some t)]) (.int 0) = some (thD (nm, p, some t)) := rfl
  have h1 : oIx (thD (nm, p, some t)) (.int 1) = some p.D := rfl
  have hq : okq 40 (.lst [thD (nm, p, some t)]) = true := by
    show (okq 39 (thD (nm, p, some t)) && true) = true
    rw [th_okq ok rfl ht]
    rfl
  unfold yD
  obtain ⟨dw, edw⟩ : ∃ x, D.lst (ws.map thD) = x := ⟨_, rfl⟩
  obtain ⟨dl, edl⟩ : ∃ x, D.lst (ds.map thD) = x := ⟨_, rfl⟩
  obtain ⟨da, eda⟩ : ∃ x, D.lst ((ws ++ ds).map thD) = x := ⟨_, rfl⟩
  obtain ⟨dp, edp⟩ : ∃ x, p.D = x := ⟨_, rfl⟩
  obtain ⟨d1, ed1⟩ : ∃ x, thD (nm, p, some t) = x := ⟨_, rfl⟩
  rw [edw, edl, eda] at hcat
  rw [edl] at itd
  rw [eda] at itw
  rw [ed1] at h0 h1 hq
  rw [edp] at h1 fr sh
  rw [edw, edl]
  rw [← hg]
  wtm_at "y_in"
  repeat' ((fail_if_success (with_reducible show R.wp (f_direction_at _) _ _)); wtm_at "y_dy")
  refine dir ?_
  repeat' (first | ((fail_if_success (with_reducible show Dy.Got (compS _ _ _ _ _) _)); wtm_at "y_dy") | (with_reducible refine g_ot itd ?_))
  refine c_listG (f := thD) (keep := fun x => decide (x.1 = nm)) (g := thD) (fun x hx => ?_) ?_
  · refine w_bName ?_
    have i0 := th0 x
    have ox := okd x hx
    obtain ⟨dx, edx⟩ : ∃ y, thD x = y := ⟨_, rfl⟩
    rw [edx] at i0 ⊢
    repeat' (first | ((fail_if_success (with_reducible show Dy.Got (oEq _ _) _)); wtm_at "y_dy") | (with_reducible refine g_ot i0 ?_))
    refine w_eqStr ox ok ?_
    repeat' wtm_at "y_dy"
    exact ⟨rfl, fun _ => wp_var rfl rfl⟩
  rw [one, List.map_cons, List.map_nil, ed1]
  have e0 : oEq (.lst [d1]) (.lst []) = some (.bl false) := by
    obtain ⟨z, e, h'⟩ := w_eqNil (xs := [d1]) (P := fun d => d = .bl false) hq rfl
    rw [e, h']
  repeat' (first | ((fail_if_success (with_reducible show R.wp (f_is_up _) _ _)); wtm_at "y_dy") | (with_reducible refine g_ot e0 ?_) | (with_reducible refine g_ot h0 ?_) | (with_reducible refine g_ot h1 ?_))
  refine up ?_
  cases b1 with
  | false =>
    repeat' wtm_at "y_dy"
    exact dark rfl
  | true =>
    repeat' ((fail_if_success (with_reducible show R.wp (f_comes_from_ahead _) _ _)); wtm_at "y_dy")
    refine fr ?_
    cases b2 with
    | false =>
      repeat' wtm_at "y_dy"
      exact dark rfl
    | true =>
      replace h := h rfl
      replace sh := fun q => sh rfl q
      replace six := six rfl
      replace lf := fun {P : D → Prop} => lf rfl (P := P)
      clear dark
      repeat' (first | ((fail_if_success (with_reducible show Dy.Got (compS _ _ _ _ _) _)); wtm_at "y_dy") | (with_reducible refine g_ot hcat ?_) | (with_reducible refine g_ot itw ?_))
      refine c_listG (f := thD) (keep := fun x => !decide (x.1 = nm)) (g := fun x => x.2.1.D) (fun x hx => ?_) ?_
      · refine w_bName ?_
        have i0 := th0 x
        have i1 := th1 x
        have ox := oks x hx
        obtain ⟨dx, edx⟩ : ∃ y, thD x = y := ⟨_, rfl⟩
        rw [edx] at i0 i1 ⊢
        repeat' (first | ((fail_if_success (with_reducible show Dy.Got (oNe _ _) _)); wtm_at "y_dy") | (with_reducible refine g_ot i0 ?_))
        refine w_neStr ox ok ?_
        repeat' wtm_at "y_dy"
        refine ⟨rfl, fun _ => ?_⟩
        repeat' (first | (with_reducible refine g_ot i1 ?_) | wtm_at "y_dy")
        rfl
      have eo : (((ws ++ ds).filter fun x => !decide (x.1 = nm)).map fun x : Th => x.2.1.D) = (othersT nm ws ds).map Pl.D := by
        unfold othersT
        rw [List.map_map]
        rfl
      rw [eo]
      generalize othersT nm ws ds = qs at sh six lf hlq ⊢
      have itq : iterD (.lst (qs.map Pl.D)) = some (qs.map Pl.D) := rfl
      obtain ⟨dq, edq⟩ : ∃ x, D.lst (qs.map Pl.D) = x := ⟨_, rfl⟩
      rw [edq] at itq ⊢
      repeat' (first | ((fail_if_success (with_reducible show Dy.Got (compS _ _ _ _ _) _)); wtm_at "y_dy") | (with_reducible refine g_ot itq ?_))
      refine c_mapG (f := Pl.D) (g := fun q => D.lst ((S q).map pD)) (fun q hq => ?_) ?_
      · refine w_bName ?_
        obtain ⟨dx, edx⟩ : ∃ y, q.D = y := ⟨_, rfl⟩
        have s := fun {P : D → Prop} => sh q hq (P := P)
        rw [edx] at s ⊢
        repeat' ((fail_if_success (with_reducible show R.wp (f_shaded_by _) _ _)); wtm_at "y_dy")
        exact s rfl
      have es : (qs.map fun q => D.lst ((S q).map pD)) = (qs.map S).map fun F => D.lst (F.map pD) := by
        rw [List.map_map]
        rfl
      rw [es]
      have its : iterD (.lst ((qs.map S).map fun F => D.lst (F.map pD))) = some ((qs.map S).map fun F => D.lst (F.map pD)) := rfl
      obtain ⟨dsq, edsq⟩ : ∃ x, D.lst ((qs.map S).map fun F => D.lst (F.map pD)) = x := ⟨_, rfl⟩
      rw [edsq] at its ⊢
      repeat' (first | ((fail_if_success (with_reducible show Dy.Got (compS _ _ _ _ _) _)); wtm_at "y_dy") | (with_reducible refine g_ot its ?_))
      refine c_listG (f := fun F => D.lst (F.map pD)) (keep := fun F => decide (F ≠ [])) (g := fun F => D.lst (F.map pD)) (fun F hF => ?_) ?_
      · refine w_bName ?_
        have en := fun {P : D → Prop} => ne_nilW (F := F) (P := P)
        obtain ⟨dF, edF⟩ : ∃ x, D.lst (F.map pD) = x := ⟨_, rfl⟩
        rw [edF] at en ⊢
        repeat' ((fail_if_success (with_reducible show Dy.Got (oNe _ _) _)); wtm_at "y_dy")
        refine en ?_
        repeat' wtm_at "y_dy"
        exact ⟨rfl, fun _ => wp_var rfl rfl⟩
      have er : D.lst (((qs.map S).filter fun F => decide (F ≠ [])).map fun F => D.lst (F.map pD)) = ringsD (ringsS S qs) := rfl
      rw [er]
      have hlen : oLen [ringsD (ringsS S qs)] = some (.int ((ringsS S qs).length : Nat)) := by
        show some (D.int ((((ringsS S qs).map fun F => D.lst (F.map pD)).length : Nat) : Int)) = _
        rw [List.length_map]
      obtain ⟨L, hL⟩ : ∃ L : Int, ((ringsS S qs).length : Int) = L := ⟨_, rfl⟩
      rw [hL] at hlen
      generalize ringsD (ringsS S qs) = dR at lf hlen ⊢
      repeat' (first | ((fail_if_success (with_reducible show R.wp (f_left_of _) _ _)); wtm_at "y_dy") | (with_reducible refine g_ot hlen ?_))
      rw [whole_D]
      exact lf h
end

local macro_rules | `(tactic| wtm_at "y_sd") => `(tactic| first
  | ((with_reducible show R.wp (eVar _ _) _ _); (with_reducible refine wp_var (by (with_unfolding_all exact rfl)) ?_))
  | ((with_reducible show Upd _ _ _ _); (with_reducible refine upd_step (by (simp only [List.set_cons_zero, List.set_cons_succ]; rfl)) ?_))
  | ((with_reducible show SR.wp (sFreeze _ _ _) _ _ _); first | (with_reducible refine sp_frO (by (with_unfolding_all exact rfl)) ?_) | (with_reducible refine sp_frV (by (with_unfolding_all exact rfl)) ?_))
  | ((with_reducible show SR.wp (sApp _ _ _) _ _ _); (with_reducible refine sp_appU (by (with_unfolding_all exact rfl)) ?_))
  | ((fail_if_success (with_reducible show R.wp (eVar _ _) _ _)); (fail_if_success (with_reducible show Upd _ _ _ _)); (fail_if_success (with_reducible show SR.wp (sFreeze _ _ _) _ _ _)); (fail_if_success (with_reducible show SR.wp (sApp _ _ _) _ _ _)); wtm_at "y_dy"))

/-! ### the law's sum with signs that change -/
theorem Dn.rb8 {n : Nat} {r : Rat} (h : Dn n r) (h0 : -8 ≤ r) (h1 : r ≤ 8) : RB (n + 4) n r := by
  obtain ⟨Z, z0, z1, w, z2⟩ := h.ex
  have hz := cast_ne z0
  have e : r = (w : Rat) / Z := by grind
  have e8 : ((8 : Int) : Rat) = 8 := rfl
  have hw : w.natAbs ≤ 8 * Z.natAbs := by
    rcases Int.lt_or_gt_of_ne z0 with hs | hs
    · have hs' : (Z : Rat) < 0 := Rat.intCast_neg_iff.mpr hs
      have a := Rat.mul_nonneg (show 0 ≤ 8 + r by grind) (show 0 ≤ -(Z : Rat) by grind)
      have b := Rat.mul_nonneg (show 0 ≤ 8 - r by grind) (show 0 ≤ -(Z : Rat) by grind)
      have c : (w : Rat) ≤ ((-(8 * Z) : Int) : Rat) := by rw [← z2, Rat.intCast_neg, Rat.intCast_mul]; grind
      have d : ((8 * Z : Int) : Rat) ≤ (w : Rat) := by rw [← z2, Rat.intCast_mul]; grind
      have c' := Rat.intCast_le_intCast.mp c
      have d' := Rat.intCast_le_intCast.mp d
      omega
    · have hs' : 0 < (Z : Rat) := Rat.intCast_pos.mpr hs
      have a := Rat.mul_nonneg (show 0 ≤ 8 + r by grind) (show 0 ≤ (Z : Rat) by grind)
      have b := Rat.mul_nonneg (show 0 ≤ 8 - r by grind) (show 0 ≤ (Z : Rat) by grind)
      have c : ((-(8 * Z) : Int) : Rat) ≤ (w : Rat) := by rw [← z2, Rat.intCast_neg, Rat.intCast_mul]; grind
      have d : (w : Rat) ≤ ((8 * Z : Int) : Rat) := by rw [← z2, Rat.intCast_mul]; grind
      have c' := Rat.intCast_le_intCast.mp c
      have d' := Rat.intCast_le_intCast.mp d
      omega
  have bw : Bd (n + 4) w := by
    unfold Bd at *
    have : 2 ^ (n + 4) = 16 * 2 ^ n := by rw [Nat.pow_add]; omega
    omega
  rw [e]
  exact RB.frac z0 bw z1
/-- a share -/
structure Shr (n : Nat) (dF : D) (s : Rat) : Prop where
  w : ∀ {P : D → Prop}, P (rD s) → (f_share_of [dF]).wp P NoE
  dn : Dn n s
  b0 : 0 ≤ s
  b1 : s ≤ 1
theorem Part.shr {j : Nat} {F : List Pt} {dF : D} (h : Part 10 j F) (edF : D.lst (F.map pD) = dF) (hj : j ≤ 3) {n : Nat} (hn : 73 * (4 + 5 * j) + 3 ≤ n) : Shr n dF (Rat.divInt 1 2 * ringA F) := by
  obtain ⟨a, b⟩ := h.hp
  have e : Rat.divInt 1 2 = 1 / 2 := by decide +kernel
  obtain ⟨Ls, t⟩ := h.isT
  have nn := t.nn
  have le := h.le
  refine ⟨fun {P} h => sp_shareW (n := 73) (N := 40) (by decide) edF (by omega) (by decide) a (by decide) (by rw [cyc_ringA]; exact h), ?_, by rw [e]; grind, by rw [e]; grind⟩
  obtain ⟨Z, z0, z1, z2⟩ := ((ringA_Dn a).half).ex
  exact ⟨Z, z0, z1.mono (by have := Nat.mul_le_mul_left 73 b; omega), z2⟩
section
variable {x s : Rat} {P : D → Prop} {n m : Nat}
theorem sp_lplus {dF : D} (hx : Dn n x) (hs : Shr m dF s) (b0 : -8 ≤ x) (b1 : x ≤ 8) (hz : n + m < 9000) (h : P (rD (x + s))) : (f__law_add [rD x, rD s]).wp P NoE :=
  sp_ladd (hx.rb8 b0 b1) (hs.dn.rb8 (by have := hs.b0; grind) (by have := hs.b1; grind)) ⟨by omega, by omega, hz⟩ h
theorem sp_lminus {dF : D} (hx : Dn n x) (hs : Shr m dF s) (b0 : -8 ≤ x) (b1 : x ≤ 8) (hz : n + m < 9000) (h : P (rD (x - s))) : (f__law_add [rD x, .tup [.int (0 - s.num), .int s.den]]).wp P NoE := by
  have e : D.tup [.int (0 - s.num), .int s.den] = rD (-s) := by unfold rD; rw [Rat.neg_num, Rat.neg_den, Int.zero_sub]
  rw [e]
  have hr := hs.dn.rb8 (by have := hs.b0; grind) (by have := hs.b1; grind)
  refine sp_ladd (hx.rb8 b0 b1) (y := -s) ⟨by rw [Rat.neg_num]; exact hr.1.neg, by rw [Rat.neg_den]; exact hr.2⟩ ⟨by omega, by omega, hz⟩ ?_
  rw [← Rat.sub_eq_add_neg]
  exact h
end
theorem one_D : D.tup [.int 1, .int 1] = rD 1 := by
  rfl
theorem Dn.one : Dn 1 1 := ⟨1, by decide, Bd.lit (by decide), 1, by decide +kernel⟩
theorem cut1 {x : D} {xs : List D} : Dy.cutD (x :: xs) (some 1) none = xs := by
  unfold Dy.cutD
  have e1 : HT.sIx (x :: xs).length 0 (some (1 : Int)) = 1 := sIx_at (k := 1) (by rw [List.length_cons]; omega)
  have e2 : HT.sIx (x :: xs).length (x :: xs).length none = (x :: xs).length := rfl
  rw [e1, e2]
  simp
section
variable {d1 d2 d3 d12 d13 d23 d123 : D} {s1 s2 s3 s12 s13 s23 s123 : Rat} {P : D → Prop}
theorem sp_lleft1 {g : List D → R D} (hg : f__law_left = g) (h1 : Shr 700 d1 s1)  (h : P (rD (1 - s1))) : (g [.lst [d1]]).wp P NoE := by
  have a1 := h1.b0; have c1 := h1.b1
  have u0 := Dn.one
  have u1 := u0.sub h1.dn
  have m1 : ∀ {P : D → Prop}, P (rD (1 - s1)) → (f__law_add [.tup [.int 1, .int 1], .tup [.int (0 - s1.num), .int s1.den]]).wp P NoE := fun h => by
    rw [one_D]
    exact sp_lminus u0 h1 (by grind) (by grind) (by decide) h
  have w1 := fun {P : D → Prop} => h1.w (P := P)
  clear h1 a1 c1 u0 u1
  rw [← hg]
  unfold f__law_left
  with_reducible refine wp_fn (n := 1) (m := 9) ?_ ?_
  focus rfl
  simp only [List.map_cons, List.map_nil, List.cons_append, List.nil_append, List.replicate_succ, List.replicate_zero, Nat.reduceSub]
  generalize f_both_of = fb
  generalize f_share_of = fs at w1 ⊢
  generalize f__law_add = fa at m1 ⊢
  have r01 : ∀ s : Rat, oIx (rD s) (.int 0) = some (.int s.num) := fun _ => rfl
  repeat' (first | ((fail_if_success (with_reducible show SR.wp (forS _ _ (_ ++ _) _) _ _ _)); (fail_if_success (with_reducible show SR.wp (forS _ _ (Dy.cutD _ _ _) _) _ _ _)); wtm_at "y_sd") | ((with_reducible show SR.wp (forS _ _ _ _) _ _ _); (simp only [List.cons_append, List.nil_append, cut1])) | (with_reducible refine w1 ?_) | (with_reducible refine m1 ?_))
  exact h
theorem sp_lleft2 {g : List D → R D} (hg : f__law_left = g) (h1 : Shr 700 d1 s1) (h2 : Shr 700 d2 s2) (h12 : Shr 1030 d12 s12) (b12 : ∀ {P : D → Prop}, P d12 → (f_both_of [d1, d2]).wp P NoE) (h : P (rD (1 - s1 - s2 + s12))) : (g [.lst [d1, d2]]).wp P NoE := by
  have a1 := h1.b0; have c1 := h1.b1
  have a2 := h2.b0; have c2 := h2.b1
  have a12 := h12.b0; have c12 := h12.b1
  have u0 := Dn.one
  have u1 := u0.sub h1.dn
  have u2 := u1.sub h2.dn
  have u3 := u2.add h12.dn
  have m1 : ∀ {P : D → Prop}, P (rD (1 - s1)) → (f__law_add [.tup [.int 1, .int 1], .tup [.int (0 - s1.num), .int s1.den]]).wp P NoE := fun h => by
    rw [one_D]
    exact sp_lminus u0 h1 (by grind) (by grind) (by decide) h
  have m2 : ∀ {P : D → Prop}, P (rD (1 - s1 - s2)) → (f__law_add [rD (1 - s1), .tup [.int (0 - s2.num), .int s2.den]]).wp P NoE := fun h => sp_lminus u1 h2 (by grind) (by grind) (by decide) h
  have m3 : ∀ {P : D → Prop}, P (rD (1 - s1 - s2 + s12)) → (f__law_add [rD (1 - s1 - s2), .tup [.int s12.num, .int s12.den]]).wp P NoE := fun h => sp_lplus u2 h12 (by grind) (by grind) (by decide) h
  have w1 := fun {P : D → Prop} => h1.w (P := P)
  have w2 := fun {P : D → Prop} => h2.w (P := P)
  have w12 := fun {P : D → Prop} => h12.w (P := P)
  clear h1 a1 c1 h2 a2 c2 h12 a12 c12 u0 u1 u2 u3
  rw [← hg]
  unfold f__law_left
  with_reducible refine wp_fn (n := 1) (m := 9) ?_ ?_
  focus rfl
  simp only [List.map_cons, List.map_nil, List.cons_append, List.nil_append, List.replicate_succ, List.replicate_zero, Nat.reduceSub]
  generalize f_both_of = fb at b12 ⊢
  generalize f_share_of = fs at w1 w2 w12 ⊢
  generalize f__law_add = fa at m1 m2 m3 ⊢
  have r01 : ∀ s : Rat, oIx (rD s) (.int 0) = some (.int s.num) := fun _ => rfl
  repeat' (first | ((fail_if_success (with_reducible show SR.wp (forS _ _ (_ ++ _) _) _ _ _)); (fail_if_success (with_reducible show SR.wp (forS _ _ (Dy.cutD _ _ _) _) _ _ _)); wtm_at "y_sd") | ((with_reducible show SR.wp (forS _ _ _ _) _ _ _); (simp only [List.cons_append, List.nil_append, cut1])) | (with_reducible refine b12 ?_) | (with_reducible refine w1 ?_) | (with_reducible refine w2 ?_) | (with_reducible refine w12 ?_) | (with_reducible refine m1 ?_) | (with_reducible refine m2 ?_) | (with_reducible refine m3 ?_))
  exact h
theorem sp_lleft3 {g : List D → R D} (hg : f__law_left = g) (h1 : Shr 700 d1 s1) (h2 : Shr 700 d2 s2) (h3 : Shr 700 d3 s3) (h12 : Shr 1030 d12 s12) (h13 : Shr 1030 d13 s13) (h23 : Shr 1030 d23 s23) (h123 : Shr 1400 d123 s123) (b12 : ∀ {P : D → Prop}, P d12 → (f_both_of [d1, d2]).wp P NoE) (b13 : ∀ {P : D → Prop}, P d13 → (f_both_of [d1, d3]).wp P NoE) (b23 : ∀ {P : D → Prop}, P d23 → (f_both_of [d2, d3]).wp P NoE) (b123 : ∀ {P : D → Prop}, P d123 → (f_both_of [d12, d3]).wp P NoE) (h : P (rD (1 - s1 - s2 + s12 - s3 + s13 + s23 - s123))) : (g [.lst [d1, d2, d3]]).wp P NoE := by
  have a1 := h1.b0; have c1 := h1.b1
  have a2 := h2.b0; have c2 := h2.b1
  have a12 := h12.b0; have c12 := h12.b1
  have a3 := h3.b0; have c3 := h3.b1
  have a13 := h13.b0; have c13 := h13.b1
  have a23 := h23.b0; have c23 := h23.b1
  have a123 := h123.b0; have c123 := h123.b1
  have u0 := Dn.one
  have u1 := u0.sub h1.dn
  have u2 := u1.sub h2.dn
  have u3 := u2.add h12.dn
  have u4 := u3.sub h3.dn
  have u5 := u4.add h13.dn
  have u6 := u5.add h23.dn
  have u7 := u6.sub h123.dn
  have m1 : ∀ {P : D → Prop}, P (rD (1 - s1)) → (f__law_add [.tup [.int 1, .int 1], .tup [.int (0 - s1.num), .int s1.den]]).wp P NoE := fun h => by
    rw [one_D]
    exact sp_lminus u0 h1 (by grind) (by grind) (by decide) h
  have m2 : ∀ {P : D → Prop}, P (rD (1 - s1 - s2)) → (f__law_add [rD (1 - s1), .tup [.int (0 - s2.num), .int s2.den]]).wp P NoE := fun h => sp_lminus u1 h2 (by grind) (by grind) (by decide) h
  have m3 : ∀ {P : D → Prop}, P (rD (1 - s1 - s2 + s12)) → (f__law_add [rD (1 - s1 - s2), .tup [.int s12.num, .int s12.den]]).wp P NoE := fun h => sp_lplus u2 h12 (by grind) (by grind) (by decide) h
  have m4 : ∀ {P : D → Prop}, P (rD (1 - s1 - s2 + s12 - s3)) → (f__law_add [rD (1 - s1 - s2 + s12), .tup [.int (0 - s3.num), .int s3.den]]).wp P NoE := fun h => sp_lminus u3 h3 (by grind) (by grind) (by decide) h
  have m5 : ∀ {P : D → Prop}, P (rD (1 - s1 - s2 + s12 - s3 + s13)) → (f__law_add [rD (1 - s1 - s2 + s12 - s3), .tup [.int s13.num, .int s13.den]]).wp P NoE := fun h => sp_lplus u4 h13 (by grind) (by grind) (by decide) h
  have m6 : ∀ {P : D → Prop}, P (rD (1 - s1 - s2 + s12 - s3 + s13 + s23)) → (f__law_add [rD (1 - s1 - s2 + s12 - s3 + s13), .tup [.int s23.num, .int s23.den]]).wp P NoE := fun h => sp_lplus u5 h23 (by grind) (by grind) (by decide) h
  have m7 : ∀ {P : D → Prop}, P (rD (1 - s1 - s2 + s12 - s3 + s13 + s23 - s123)) → (f__law_add [rD (1 - s1 - s2 + s12 - s3 + s13 + s23), .tup [.int (0 - s123.num), .int s123.den]]).wp P NoE := fun h => sp_lminus u6 h123 (by grind) (by grind) (by decide) h
  have w1 := fun {P : D → Prop} => h1.w (P := P)
  have w2 := fun {P : D → Prop} => h2.w (P := P)
  have w12 := fun {P : D → Prop} => h12.w (P := P)
  have w3 := fun {P : D → Prop} => h3.w (P := P)
  have w13 := fun {P : D → Prop} => h13.w (P := P)
  have w23 := fun {P : D → Prop} => h23.w (P := P)
  have w123 := fun {P : D → Prop} => h123.w (P := P)
  clear h1 a1 c1 h2 a2 c2 h12 a12 c12 h3 a3 c3 h13 a13 c13 h23 a23 c23 h123 a123 c123 u0 u1 u2 u3 u4 u5 u6 u7
  rw [← hg]
  unfold f__law_left
  with_reducible refine wp_fn (n := 1) (m := 9) ?_ ?_
  focus rfl
  simp only [List.map_cons, List.map_nil, List.cons_append, List.nil_append, List.replicate_succ, List.replicate_zero, Nat.reduceSub]
  generalize f_both_of = fb at b12 b13 b23 b123 ⊢
  generalize f_share_of = fs at w1 w2 w12 w3 w13 w23 w123 ⊢
  generalize f__law_add = fa at m1 m2 m3 m4 m5 m6 m7 ⊢
  have r01 : ∀ s : Rat, oIx (rD s) (.int 0) = some (.int s.num) := fun _ => rfl
  repeat' (first | ((fail_if_success (with_reducible show SR.wp (forS _ _ (_ ++ _) _) _ _ _)); (fail_if_success (with_reducible show SR.wp (forS _ _ (Dy.cutD _ _ _) _) _ _ _)); wtm_at "y_sd") | ((with_reducible show SR.wp (forS _ _ _ _) _ _ _); (simp only [List.cons_append, List.nil_append, cut1])) | (with_reducible refine b12 ?_) | (with_reducible refine b13 ?_) | (with_reducible refine b23 ?_) | (with_reducible refine b123 ?_) | (with_reducible refine w1 ?_) | (with_reducible refine w2 ?_) | (with_reducible refine w12 ?_) | (with_reducible refine w3 ?_) | (with_reducible refine w13 ?_) | (with_reducible refine w23 ?_) | (with_reducible refine w123 ?_) | (with_reducible refine m1 ?_) | (with_reducible refine m2 ?_) | (with_reducible refine m3 ?_) | (with_reducible refine m4 ?_) | (with_reducible refine m5 ?_) | (with_reducible refine m6 ?_) | (with_reducible refine m7 ?_))
  exact h
end
section
variable {p q1 q2 q3 : Pl} {d : V3} {P : D → Prop}
def shD (p q : Pl) (d : V3) : D := .lst ((shadedR p q d).map pD)
theorem law1_facts (hW : 0 < p.W d) (z1 : Sz 10 p q1 d) : ∃ (s : Nat → Rat) (e : Nat → D), Shr 700 (shD p q1 d) (s 0) ∧ litR p d [q1] = 1 - s 0 := by
  obtain ⟨K1, t1⟩ := shaded_lines hW z1
  rw [lit_L (xs := [(_, K1)]) (by rfl) (fun x hx => by
    simp only [List.mem_cons, List.not_mem_nil, or_false] at hx
    rcases hx with rfl <;> assumption)]
  have e := left_one t1
  simp only [List.map_cons, List.map_nil]
  rw [e]
  clear e
  unfold shD
  generalize shadedR p q1 d = Q1 at t1 ⊢
  refine ⟨fun k => match k with | 0 => Rat.divInt 1 2 * ringA (Q1) | _ => 0, fun _ => .non, t1.part.shr rfl (by decide) (by decide), ?_⟩
  dsimp only
  have half : Rat.divInt 1 2 = 1 / 2 := by decide +kernel
  rw [half]
  grind
theorem sp_law1 {g : List D → R D} (hg : f__law_left = g) (hW : 0 < p.W d) (z1 : Sz 10 p q1 d) (h : P (rD (litR p d [q1]))) : (g [.lst [shD p q1 d]]).wp P NoE := by
  obtain ⟨s, e, a⟩ := law1_facts hW z1
  exact sp_lleft1 hg a.1  (by rw [← a.2]; exact h)
theorem law2_facts (hW : 0 < p.W d) (z1 : Sz 10 p q1 d) (z2 : Sz 10 p q2 d) : ∃ (s : Nat → Rat) (e : Nat → D), Shr 700 (shD p q1 d) (s 0) ∧ Shr 700 (shD p q2 d) (s 1) ∧ Shr 1030 (e 0) (s 2) ∧ (∀ {P : D → Prop}, P (e 0) → (f_both_of [shD p q1 d, shD p q2 d]).wp P NoE) ∧ litR p d [q1, q2] = 1 - s 0 - s 1 + s 2 := by
  obtain ⟨K1, t1⟩ := shaded_lines hW z1
  obtain ⟨K2, t2⟩ := shaded_lines hW z2
  rw [lit_L (xs := [(_, K1), (_, K2)]) (by rfl) (fun x hx => by
    simp only [List.mem_cons, List.not_mem_nil, or_false] at hx
    rcases hx with rfl | rfl <;> assumption)]
  have e := left_two t1 t2
  simp only [List.map_cons, List.map_nil]
  rw [e]
  clear e
  unfold shD
  generalize shadedR p q1 d = Q1 at t1 ⊢
  generalize shadedR p q2 d = Q2 at t2 ⊢
  refine ⟨fun k => match k with | 0 => Rat.divInt 1 2 * ringA (Q1) | 1 => Rat.divInt 1 2 * ringA (Q2) | 2 => Rat.divInt 1 2 * ringA (bothT Q1 Q2) | _ => 0, fun k => match k with | 0 => D.lst ((bothT Q1 Q2).map pD) | _ => .non, t1.part.shr rfl (by decide) (by decide), t2.part.shr rfl (by decide) (by decide), (t1.part.both t2).shr rfl (by decide) (by decide), (fun h => t1.part.bothS (by decide) t2 rfl rfl h), ?_⟩
  dsimp only
  have half : Rat.divInt 1 2 = 1 / 2 := by decide +kernel
  rw [half]
  grind
theorem sp_law2 {g : List D → R D} (hg : f__law_left = g) (hW : 0 < p.W d) (z1 : Sz 10 p q1 d) (z2 : Sz 10 p q2 d) (h : P (rD (litR p d [q1, q2]))) : (g [.lst [shD p q1 d, shD p q2 d]]).wp P NoE := by
  obtain ⟨s, e, a⟩ := law2_facts hW z1 z2
  exact sp_lleft2 hg a.1 a.2.1 a.2.2.1 (fun h => a.2.2.2.1 h) (by rw [← a.2.2.2.2]; exact h)
theorem law3_facts (hW : 0 < p.W d) (z1 : Sz 10 p q1 d) (z2 : Sz 10 p q2 d) (z3 : Sz 10 p q3 d) : ∃ (s : Nat → Rat) (e : Nat → D), Shr 700 (shD p q1 d) (s 0) ∧ Shr 700 (shD p q2 d) (s 1) ∧ Shr 700 (shD p q3 d) (s 2) ∧ Shr 1030 (e 0) (s 3) ∧ Shr 1030 (e 1) (s 4) ∧ Shr 1030 (e 2) (s 5) ∧ Shr 1400 (e 3) (s 6) ∧ (∀ {P : D → Prop}, P (e 0) → (f_both_of [shD p q1 d, shD p q2 d]).wp P NoE) ∧ (∀ {P : D → Prop}, P (e 1) → (f_both_of [shD p q1 d, shD p q3 d]).wp P NoE) ∧ (∀ {P : D → Prop}, P (e 2) → (f_both_of [shD p q2 d, shD p q3 d]).wp P NoE) ∧ (∀ {P : D → Prop}, P (e 3) → (f_both_of [e 0, shD p q3 d]).wp P NoE) ∧ litR p d [q1, q2, q3] = 1 - s 0 - s 1 + s 3 - s 2 + s 4 + s 5 - s 6 := by
  obtain ⟨K1, t1⟩ := shaded_lines hW z1
  obtain ⟨K2, t2⟩ := shaded_lines hW z2
  obtain ⟨K3, t3⟩ := shaded_lines hW z3
  rw [lit_L (xs := [(_, K1), (_, K2), (_, K3)]) (by rfl) (fun x hx => by
    simp only [List.mem_cons, List.not_mem_nil, or_false] at hx
    rcases hx with rfl | rfl | rfl <;> assumption)]
  have e := left_three t1 t2 t3
  simp only [List.map_cons, List.map_nil]
  rw [e]
  clear e
  unfold shD
  generalize shadedR p q1 d = Q1 at t1 ⊢
  generalize shadedR p q2 d = Q2 at t2 ⊢
  generalize shadedR p q3 d = Q3 at t3 ⊢
  refine ⟨fun k => match k with | 0 => Rat.divInt 1 2 * ringA (Q1) | 1 => Rat.divInt 1 2 * ringA (Q2) | 2 => Rat.divInt 1 2 * ringA (Q3) | 3 => Rat.divInt 1 2 * ringA (bothT Q1 Q2) | 4 => Rat.divInt 1 2 * ringA (bothT Q1 Q3) | 5 => Rat.divInt 1 2 * ringA (bothT Q2 Q3) | 6 => Rat.divInt 1 2 * ringA (bothT (bothT Q1 Q2) Q3) | _ => 0, fun k => match k with | 0 => D.lst ((bothT Q1 Q2).map pD) | 1 => D.lst ((bothT Q1 Q3).map pD) | 2 => D.lst ((bothT Q2 Q3).map pD) | 3 => D.lst ((bothT (bothT Q1 Q2) Q3).map pD) | _ => .non, t1.part.shr rfl (by decide) (by decide), t2.part.shr rfl (by decide) (by decide), t3.part.shr rfl (by decide) (by decide), (t1.part.both t2).shr rfl (by decide) (by decide), (t1.part.both t3).shr rfl (by decide) (by decide), (t2.part.both t3).shr rfl (by decide) (by decide), ((t1.part.both t2).both t3).shr rfl (by decide) (by decide), (fun h => t1.part.bothS (by decide) t2 rfl rfl h), (fun h => t1.part.bothS (by decide) t3 rfl rfl h), (fun h => t2.part.bothS (by decide) t3 rfl rfl h), (fun h => (t1.part.both t2).bothS (by decide) t3 rfl rfl h), ?_⟩
  dsimp only
  have half : Rat.divInt 1 2 = 1 / 2 := by decide +kernel
  rw [half]
  grind
theorem sp_law3 {g : List D → R D} (hg : f__law_left = g) (hW : 0 < p.W d) (z1 : Sz 10 p q1 d) (z2 : Sz 10 p q2 d) (z3 : Sz 10 p q3 d) (h : P (rD (litR p d [q1, q2, q3]))) : (g [.lst [shD p q1 d, shD p q2 d, shD p q3 d]]).wp P NoE := by
  obtain ⟨s, e, a⟩ := law3_facts hW z1 z2 z3
  exact sp_lleft3 hg a.1 a.2.1 a.2.2.1 a.2.2.2.1 a.2.2.2.2.1 a.2.2.2.2.2.1 a.2.2.2.2.2.2.1 (fun h => a.2.2.2.2.2.2.2.1 h) (fun h => a.2.2.2.2.2.2.2.2.1 h) (fun h => a.2.2.2.2.2.2.2.2.2.1 h) (fun h => a.2.2.2.2.2.2.2.2.2.2.1 h) (by rw [← a.2.2.2.2.2.2.2.2.2.2.2]; exact h)
end

/-! ### k77: what is drawn -/
def N9 (x : Int) : Prop := -60 ≤ x ∧ x ≤ 60
theorem N9.bd {x : Int} (h : N9 x) : Bd 6 x := by unfold N9 at h; unfold Bd; omega
def T9 (d : D) : Prop := ∃ a b c, d = t3 a b c ∧ N9 a ∧ N9 b ∧ N9 c
theorem sp_lnumber {c k : Int} (h0 : 0 ≤ k) (h1 : k < 100) : (f__law_number [.int c, .int k]).wp (fun d => ∃ v, d = .int v ∧ N9 v) NoE := by
  have hk : Bd 10 k := Bd.le (j := 1000) (Bd.lit (by decide)) h0 (by omega)
  wtm_at "y_in"
  wtm_at "y_go"
  refine (sp_draw (by omega) (by omega) (by decide) (by decide)).no ?_
  rintro _ ⟨kind, rfl, _, _⟩
  wtm_at "y_go"
  · refine (sp_draw (by omega) (by omega) (by decide) (by decide)).no ?_
    rintro _ ⟨v, rfl, _, _⟩
    wtm_at "y_go"
    exact ⟨_, rfl, by unfold N9; omega⟩
  · refine (sp_draw (by omega) (by omega) (by decide) (by decide)).no ?_
    rintro _ ⟨v, rfl, _, _⟩
    wtm_at "y_go"
    exact ⟨_, rfl, by unfold N9; omega⟩
  · refine (sp_draw (by omega) (by omega) (by decide) (by decide)).no ?_
    rintro _ ⟨v, rfl, _, _⟩
    have hv : v = 0 ∨ v = 1 := by omega
    rcases hv with rfl | rfl
    · wtm_at "y_go"
      refine (sp_draw (by omega) (by omega) (by decide) (by decide)).no ?_
      rintro _ ⟨v, rfl, _, _⟩
      have hv2 : Bd 40 (60 - v / 8) := by unfold Bd; omega
      wtm_at "y_go"
      exact ⟨_, rfl, by unfold N9; omega⟩
    · wtm_at "y_go"
      refine (sp_draw (by omega) (by omega) (by decide) (by decide)).no ?_
      rintro _ ⟨v, rfl, _, _⟩
      have hv2 : Bd 40 (60 - v / 8) := by unfold Bd; omega
      wtm_at "y_go"
      exact ⟨_, rfl, by unfold N9; omega⟩
theorem sp_ltriple {c k : Int} (h0 : 0 ≤ k) (h1 : k < 90) : (f__law_triple [.int c, .int k]).wp T9 NoE := by
  wtm_at "y_in"
  wtm_at "y_go"
  refine (sp_lnumber h0 (by omega)).no ?_
  rintro _ ⟨x, rfl, hx⟩
  wtm_at "y_go"
  refine (sp_lnumber (by omega) (by omega)).no ?_
  rintro _ ⟨y, rfl, hy⟩
  wtm_at "y_go"
  refine (sp_lnumber (by omega) (by omega)).no ?_
  rintro _ ⟨z, rfl, hz⟩
  wtm_at "y_go"
  exact ⟨_, _, _, rfl, hx, hy, hz⟩
section
variable {a b c d e f m : Int} {P : D → Prop} {n n' : Nat}
theorem sp_lcross (hn : n < 10000) (hn' : n' < 10000) (ha : Bd n a) (hb : Bd n b) (hc : Bd n c) (hd : Bd n' d) (he : Bd n' e) (hf : Bd n' f) (h : P (t3 (b * f - c * e) (c * d - a * f) (a * e - b * d))) : (f__law_cross [t3 a b c, t3 d e f]).wp P NoE := by
  wtm_at "y_in"
  wtm_at "y_go"
  exact h
theorem sp_ldot (hn : n < 10000) (hn' : n' < 10000) (ha : Bd n a) (hb : Bd n b) (hc : Bd n c) (hd : Bd n' d) (he : Bd n' e) (hf : Bd n' f) (h : P (.int (a * d + b * e + c * f))) : (f__law_dot [t3 a b c, t3 d e f]).wp P NoE := by
  wtm_at "y_in"
  wtm_at "y_go"
  exact h
theorem sp_lsum (hm : Bd 40 m) (hd : Bd 100 d) (he : Bd 100 e) (hf : Bd 100 f) (h : P (t3 (a + m * d) (b + m * e) (c + m * f))) : (f__law_sum [t3 a b c, t3 d e f, .int m]).wp P NoE := by
  wtm_at "y_in"
  wtm_at "y_go"
  exact h
end
def unitD (d : D) : Prop := d = t3 0 1 0 ∨ d = t3 0 0 1 ∨ d = t3 1 0 0
theorem n9_0 : N9 0 := by unfold N9; decide
theorem n9_1 : N9 1 := by unfold N9; decide
theorem unit9 {d : D} (h : unitD d) : T9 d := by
  rcases h with rfl | rfl | rfl
  · exact ⟨_, _, _, rfl, n9_0, n9_1, n9_0⟩
  · exact ⟨_, _, _, rfl, n9_0, n9_0, n9_1⟩
  · exact ⟨_, _, _, rfl, n9_1, n9_0, n9_0⟩
/-! ### k77: plates that stand, directions ahead -/
local macro_rules | `(tactic| wtm_at "y_fn") => `(tactic| ((with_reducible show Got (oInt [D.bl _]) _); refine g_ot rfl ?_))
def CZ (s0 s1 s2 : Int) (o : V3) : Prop := s1 * o.z - s2 * o.y = 0 ∧ s2 * o.x - s0 * o.z = 0 ∧ s0 * o.y - s1 * o.x = 0
theorem sp_lplateK (c : Int) {k : Int} (k0 : 0 ≤ k) (k1 : k < 50) : (f__law_plate [.int c, .int k]).wp (fun d => ∃ p : Pl, d = p.D ∧ Bd3 6 p.k ∧ Bd3 6 p.s ∧ Bd3 6 p.o ∧ ¬(p.n.x = 0 ∧ p.n.y = 0 ∧ p.n.z = 0)) NoE := by
  have bk : Bd 10 k := by unfold Bd; omega
  have loop : ∀ (s0 s1 s2 : Int), N9 s0 → N9 s1 → N9 s2 → ¬(s0 = 0 ∧ s1 = 0 ∧ s2 = 0) → ∀ o : D, T9 o → ∀ {N : REnv → Prop} {T : D → Prop} {E : D → REnv → Prop} (g : REnv → SR),
      (∀ d : D, unitD d → ∀ o0 o1 o2 : Int, N9 o0 → N9 o1 → N9 o2 → ∀ w : Sl, Got (bName 4 d [.val (.int c), .val (.int k), .val (t3 s0 s1 s2), .val (t3 o0 o1 o2), w]) fun ρ' => (g ρ').wp (fun ρ => ∃ w, (CZ s0 s1 s2 ⟨o0, o1, o2⟩ ∧ ρ = [.val (.int c), .val (.int k), .val (t3 s0 s1 s2), .val d, w]) ∨ (¬ CZ s0 s1 s2 ⟨o0, o1, o2⟩ ∧ ρ = [.val (.int c), .val (.int k), .val (t3 s0 s1 s2), .val (t3 o0 o1 o2), w])) T E) →
      (∀ (o0 o1 o2 : Int) w, N9 o0 → N9 o1 → N9 o2 → ¬ CZ s0 s1 s2 ⟨o0, o1, o2⟩ → N [.val (.int c), .val (.int k), .val (t3 s0 s1 s2), .val (t3 o0 o1 o2), w]) →
      (forS (bName 4) g [t3 0 1 0, t3 0 0 1, t3 1 0 0] [.val (.int c), .val (.int k), .val (t3 s0 s1 s2), .val o, .un]).wp N T E := by
    intro s0 s1 s2 hs0 hs1 hs2 hnz o ho N T E g hg hN
    refine forS_inv (fun i ρ => ∃ (o0 o1 o2 : Int) (w : Sl), N9 o0 ∧ N9 o1 ∧ N9 o2 ∧ (i = 1 → CZ s0 s1 s2 ⟨o0, o1, o2⟩ → o0 = 0 ∧ o1 = 1 ∧ o2 = 0) ∧ (2 ≤ i → ¬ CZ s0 s1 s2 ⟨o0, o1, o2⟩) ∧ ρ = [.val (.int c), .val (.int k), .val (t3 s0 s1 s2), .val (t3 o0 o1 o2), w]) ?_ ?_ ?_
    · obtain ⟨a, b, e, rfl, ha, hb, he⟩ := ho
      exact ⟨a, b, e, _, ha, hb, he, fun h => absurd h (by decide), fun h => absurd h (by decide), rfl⟩
    · rintro i d _ ed ⟨o0, o1, o2, w, h0, h1, h2, i1, i2, rfl⟩
      have hi : i < 3 := (List.getElem?_eq_some_iff.mp ed).1
      have hu : unitD d := by
        have := List.mem_of_getElem? ed
        simp only [List.mem_cons, List.not_mem_nil, or_false] at this
        exact this
      have eu : (i = 0 → d = t3 0 1 0) ∧ (i = 1 → d = t3 0 0 1) := ⟨fun e => by subst e; exact (Option.some.inj ed).symm, fun e => by subst e; exact (Option.some.inj ed).symm⟩
      obtain ⟨ρ', q1, q2⟩ := hg d hu o0 o1 o2 h0 h1 h2 w
      refine ⟨ρ', q1, SR.wp.imp q2 (fun ρ hρ => ?_) (fun _ z => z) fun _ _ z => z⟩
      obtain ⟨w', ⟨hz, rfl⟩ | ⟨hz, rfl⟩⟩ := hρ
      · obtain ⟨a, b, e, rfl, ha, hb, he⟩ := unit9 hu
        refine ⟨a, b, e, w', ha, hb, he, fun h _ => ?_, fun h => ?_, rfl⟩
        · have := eu.1 (by omega)
          simp only [D.tup.injEq, List.cons.injEq, D.int.injEq, and_true] at this
          exact ⟨this.1, this.2.1, this.2.2⟩
        · have hi1 : i = 1 := by
            by_cases e2 : i = 2
            · exact absurd hz (i2 (by omega))
            · omega
          have := eu.2 hi1
          simp only [D.tup.injEq, List.cons.injEq, D.int.injEq, and_true] at this
          obtain ⟨rfl, rfl, rfl⟩ := this
          obtain ⟨rfl, rfl, rfl⟩ := i1 hi1 hz
          unfold CZ at hz ⊢
          dsimp only at hz ⊢
          intro ⟨y1, y2, y3⟩
          refine hnz ⟨by omega, by omega, by omega⟩
      · exact ⟨o0, o1, o2, w', h0, h1, h2, fun _ hc => absurd hc hz, fun _ => hz, rfl⟩
    · rintro _ ⟨o0, o1, o2, w, h0, h1, h2, _, i2, rfl⟩
      exact hN o0 o1 o2 w h0 h1 h2 (i2 (by decide))
  wtm_at "y_in"
  wtm_at "y_go"
  refine (sp_ltriple (by omega) (by omega)).no ?_
  rintro _ ⟨s0, s1, s2, rfl, hs0, hs1, hs2⟩
  wtm_at "y_go"
  all_goals
    refine (sp_ltriple (by omega) (by omega)).no ?_
    rintro _ ⟨o0, o1, o2, rfl, ho0, ho1, ho2⟩
    repeat' ((fail_if_success (with_reducible show SR.wp (forS _ _ _ _) _ _ _)); wtm_at "y_dy")
    refine loop _ _ _ (by first | assumption | exact n9_1) (by first | assumption | exact n9_0) (by first | assumption | exact n9_0) (by first | omega | decide) _ ⟨_, _, _, rfl, ho0, ho1, ho2⟩ _ ?_ ?_
    · intro d hd p0 p1 p2 hp0 hp1 hp2 w
      wtm_at "y_go"
      refine sp_lcross (n := 6) (n' := 6) (by decide) (by decide) (N9.bd (by first | assumption | exact n9_1)) (N9.bd (by first | assumption | exact n9_0)) (N9.bd (by first | assumption | exact n9_0)) hp0.bd hp1.bd hp2.bd ?_
      wtm_at "y_go"
      · rename_i h
        exact ⟨_, .inl ⟨h, rfl⟩⟩
      · rename_i h
        exact ⟨_, .inr ⟨h, rfl⟩⟩
    · intro p0 p1 p2 w hp0 hp1 hp2 hz
      wtm_at "y_go"
      refine (sp_ltriple (by omega) (by omega)).no ?_
      rintro _ ⟨c0, c1, c2, rfl, hc0, hc1, hc2⟩
      wtm_at "y_go"
      exact ⟨⟨⟨c0, c1, c2⟩, ⟨_, _, _⟩, ⟨p0, p1, p2⟩⟩, rfl, ⟨hc0.bd, hc1.bd, hc2.bd⟩, ⟨N9.bd (by first | assumption | exact n9_1), N9.bd (by first | assumption | exact n9_0), N9.bd (by first | assumption | exact n9_0)⟩, ⟨hp0.bd, hp1.bd, hp2.bd⟩, hz⟩
def Ne (i : Nat) (x : Int) : Prop := -60 - (i : Int) ≤ x ∧ x ≤ 60 + (i : Int)
theorem Ne.bd {i : Nat} {x : Int} (h : Ne i x) (hi : i ≤ 3) : Bd 6 x := by unfold Ne at h; unfold Bd; omega
theorem sp_laheadK {F0 F1 F2 a b c : Int} (hF : ¬(F0 = 0 ∧ F1 = 0 ∧ F2 = 0)) (hF0 : Bd 70 F0) (hF1 : Bd 70 F1) (hF2 : Bd 70 F2) (ha : N9 a) (hb : N9 b) (hc : N9 c) :
    (f__law_ahead [t3 F0 F1 F2, t3 a b c]).wp (fun d => ∃ d0 d1 d2, d = t3 d0 d1 d2 ∧ (Bd 6 d0 ∧ Bd 6 d1 ∧ Bd 6 d2) ∧ 0 < F0 * d0 + F1 * d1 + F2 * d2) NoE := by
  have loop : ∀ (d0 d1 d2 : Int), N9 d0 → N9 d1 → N9 d2 → 0 ≤ F0 * d0 + F1 * d1 + F2 * d2 → ∀ {N : REnv → Prop} {T : D → Prop} {E : D → REnv → Prop} (g : REnv → SR),
      (∀ (i : Nat) (u v w : Int) (d0 d1 d2 : Int) (s x y z : Sl), i < 3 → ((i = 0 ∧ u = 0 ∧ v = 0 ∧ w = 1) ∨ (i = 1 ∧ u = 0 ∧ v = 1 ∧ w = 0) ∨ (i = 2 ∧ u = 1 ∧ v = 0 ∧ w = 0)) → Ne i d0 → Ne i d1 → Ne i d2 → 0 ≤ F0 * d0 + F1 * d1 + F2 * d2 → (F0 * d0 + F1 * d1 + F2 * d2 = 0 → (1 ≤ i → F2 = 0) ∧ (2 ≤ i → F1 = 0)) →
        Got (bName 2 (t3 u v w) [.val (t3 F0 F1 F2), .val (t3 d0 d1 d2), x, s, y, z]) fun ρ' => (g ρ').wp (fun ρ => ∃ d0 d1 d2 s x y z, ρ = [.val (t3 F0 F1 F2), .val (t3 d0 d1 d2), x, s, y, z] ∧ Ne (i + 1) d0 ∧ Ne (i + 1) d1 ∧ Ne (i + 1) d2 ∧ 0 ≤ F0 * d0 + F1 * d1 + F2 * d2 ∧ (F0 * d0 + F1 * d1 + F2 * d2 = 0 → (1 ≤ i + 1 → F2 = 0) ∧ (2 ≤ i + 1 → F1 = 0) ∧ (3 ≤ i + 1 → F0 = 0))) T E) →
      (∀ d0 d1 d2 (s x y z : Sl), Ne 3 d0 → Ne 3 d1 → Ne 3 d2 → 0 < F0 * d0 + F1 * d1 + F2 * d2 → N [.val (t3 F0 F1 F2), .val (t3 d0 d1 d2), x, s, y, z]) →
      (forS (bName 2) g [t3 0 0 1, t3 0 1 0, t3 1 0 0] [.val (t3 F0 F1 F2), .val (t3 d0 d1 d2), .un, .un, .un, .un]).wp N T E := by
    intro d0 d1 d2 h0 h1 h2 hd N T E g hg hN
    refine forS_inv (fun i ρ => ∃ d0 d1 d2 s x y z, ρ = [.val (t3 F0 F1 F2), .val (t3 d0 d1 d2), x, s, y, z] ∧ Ne i d0 ∧ Ne i d1 ∧ Ne i d2 ∧ 0 ≤ F0 * d0 + F1 * d1 + F2 * d2 ∧ (F0 * d0 + F1 * d1 + F2 * d2 = 0 → (1 ≤ i → F2 = 0) ∧ (2 ≤ i → F1 = 0) ∧ (3 ≤ i → F0 = 0))) ⟨_, _, _, _, _, _, _, rfl, by unfold N9 at h0; unfold Ne; omega, by unfold N9 at h1; unfold Ne; omega, by unfold N9 at h2; unfold Ne; omega, hd, fun _ => ⟨fun h => absurd h (by decide), fun h => absurd h (by decide), fun h => absurd h (by decide)⟩⟩ ?_ ?_
    · rintro i d _ ed ⟨d0, d1, d2, s, x, y, z, rfl, h0, h1, h2, hd, hz⟩
      have hi : i < 3 := (List.getElem?_eq_some_iff.mp ed).1
      have hz' := fun e => (⟨(hz e).1, (hz e).2.1⟩ : (1 ≤ i → F2 = 0) ∧ (2 ≤ i → F1 = 0))
      match i, hi, ed with
      | 0, hi, ed =>
        cases ed
        exact hg 0 0 0 1 d0 d1 d2 s x y z hi (.inl ⟨rfl, rfl, rfl, rfl⟩) h0 h1 h2 hd hz'
      | 1, hi, ed =>
        cases ed
        exact hg 1 0 1 0 d0 d1 d2 s x y z hi (.inr (.inl ⟨rfl, rfl, rfl, rfl⟩)) h0 h1 h2 hd hz'
      | 2, hi, ed =>
        cases ed
        exact hg 2 1 0 0 d0 d1 d2 s x y z hi (.inr (.inr ⟨rfl, rfl, rfl, rfl⟩)) h0 h1 h2 hd hz'
    · rintro _ ⟨d0, d1, d2, s, x, y, z, rfl, h0, h1, h2, hd, hz⟩
      have hz : F0 * d0 + F1 * d1 + F2 * d2 = 0 → (1 ≤ 3 → F2 = 0) ∧ (2 ≤ 3 → F1 = 0) ∧ (3 ≤ 3 → F0 = 0) := hz
      refine hN d0 d1 d2 s x y z h0 h1 h2 ?_
      have : F0 * d0 + F1 * d1 + F2 * d2 ≠ 0 := fun e => by
        obtain ⟨a, b, c⟩ := hz e
        exact hF ⟨c (by decide), b (by decide), a (by decide)⟩
      omega
  have b9 := fun {x : Int} (h : N9 x) => h.bd
  have := b9 ha
  have := b9 hb
  have := b9 hc
  wtm_at "y_in"
  wtm_at "y_go"
  refine sp_ldot (n := 70) (n' := 6) (by decide) (by decide) hF0 hF1 hF2 ha.bd hb.bd hc.bd ?_
  repeat' ((fail_if_success (with_reducible show SR.wp (forS _ _ _ _) _ _ _)); wtm_at "y_dy")
  all_goals
    refine loop _ _ _ (by unfold N9 at *; omega) (by unfold N9 at *; omega) (by unfold N9 at *; omega) (by first | omega | (rename_i h; have e : F0 * (0 - a) + F1 * (0 - b) + F2 * (0 - c) = -(F0 * a + F1 * b + F2 * c) := (by grind); rw [e]; omega)) _ ?_ ?_
    · rintro i u v w e0 e1 e2 s x y z hi huvw h0 h1 h2 hd hz
      have hu : u = 0 ∨ u = 1 := by omega
      have hv : v = 0 ∨ v = 1 := by omega
      have hw : w = 0 ∨ w = 1 := by omega
      have hu1 : Bd 2 u := by unfold Bd; omega
      have hv1 : Bd 2 v := by unfold Bd; omega
      have hw1 : Bd 2 w := by unfold Bd; omega
      have g0 := h0.bd (by omega)
      have g1 := h1.bd (by omega)
      have g2 := h2.bd (by omega)
      have es : F0 * u + F1 * v + F2 * w = if i = 0 then F2 else if i = 1 then F1 else F0 := by
        rcases huvw with ⟨rfl, rfl, rfl, rfl⟩ | ⟨rfl, rfl, rfl, rfl⟩ | ⟨rfl, rfl, rfl, rfl⟩ <;> simp
      wtm_at "y_go"
      refine sp_ldot (n := 70) (n' := 6) (by decide) (by decide) hF0 hF1 hF2 g0 g1 g2 ?_
      wtm_at "y_go"
      · rename_i hq
        have hz := hz hq
        refine sp_ldot (n := 70) (n' := 2) (by decide) (by decide) hF0 hF1 hF2 hu1 hv1 hw1 ?_
        refine wp_c (w_lt ?_)
        by_cases hs : F0 * u + F1 * v + F2 * w < 0
        · rw [decide_t hs]
          wtm_at "y_go"
          have e : F0 * (e0 + -1 * u) + F1 * (e1 + -1 * v) + F2 * (e2 + -1 * w) = (F0 * e0 + F1 * e1 + F2 * e2) - (F0 * u + F1 * v + F2 * w) := by grind
          refine ⟨_, _, _, _, _, _, _, rfl, by unfold Ne at *; omega, by unfold Ne at *; omega, by unfold Ne at *; omega, ?_, ?_⟩
          · rw [e]; omega
          · rw [e]; omega
        · rw [decide_f hs]
          wtm_at "y_go"
          have e : F0 * (e0 + 1 * u) + F1 * (e1 + 1 * v) + F2 * (e2 + 1 * w) = (F0 * e0 + F1 * e1 + F2 * e2) + (F0 * u + F1 * v + F2 * w) := by grind
          refine ⟨_, _, _, _, _, _, _, rfl, by unfold Ne at *; omega, by unfold Ne at *; omega, by unfold Ne at *; omega, ?_, ?_⟩
          · rw [e]; omega
          · rw [e, hq, es]
            intro h
            have h3 : i = 0 ∨ i = 1 ∨ i = 2 := by omega
            rcases h3 with rfl | rfl | rfl
            · have h : F2 = 0 := by simpa using h
              exact ⟨fun _ => h, fun k => absurd k (by decide), fun k => absurd k (by decide)⟩
            · have h : F1 = 0 := by simpa using h
              exact ⟨fun _ => hz.1 (by decide), fun _ => h, fun k => absurd k (by decide)⟩
            · have h : F0 = 0 := by simpa using h
              exact ⟨fun _ => hz.1 (by decide), fun _ => hz.2 (by decide), fun _ => h⟩
      · rename_i hq
        exact ⟨_, _, _, _, _, _, _, rfl, by unfold Ne at *; omega, by unfold Ne at *; omega, by unfold Ne at *; omega, hd, fun e => absurd e hq⟩
    · rintro e0 e1 e2 s x y z h0 h1 h2 hd
      wtm_at "y_go"
      exact ⟨_, _, _, rfl, ⟨h0.bd (by omega), h1.bd (by omega), h2.bd (by omega)⟩, hd⟩

/-! ### k77: the other plates, the tips -/
def mul3 (a b : V3) (m : Int) : V3 := ⟨a.x + m * b.x, a.y + m * b.y, a.z + m * b.z⟩
theorem sp_lsumV {a b : V3} {m : Int} {P : D → Prop} {n : Nat} (hn : n ≤ 60) (hm : Bd 5 m) (hb : Bd3 n b) (h : P (mul3 a b m).D) : (f__law_sum [a.D, b.D, .int m]).wp P NoE := sp_lsum (hm.mono (by decide)) (hb.x.mono (by omega)) (hb.y.mono (by omega)) (hb.z.mono (by omega)) h
def N3 (n : Int) (v : V3) : Prop := (-n ≤ v.x ∧ v.x ≤ n) ∧ (-n ≤ v.y ∧ v.y ≤ n) ∧ (-n ≤ v.z ∧ v.z ≤ n)
theorem mul_in {n m a b : Int} (ha : -n ≤ a ∧ a ≤ n) (hb : -m ≤ b ∧ b ≤ m) : -(n * m) ≤ a * b ∧ a * b ≤ n * m := by
  have h1 := Int.mul_nonneg (show 0 ≤ n - a by omega) (show 0 ≤ m - b by omega)
  have h2 := Int.mul_nonneg (show 0 ≤ n - a by omega) (show 0 ≤ m + b by omega)
  have h3 := Int.mul_nonneg (show 0 ≤ n + a by omega) (show 0 ≤ m - b by omega)
  have h4 := Int.mul_nonneg (show 0 ≤ n + a by omega) (show 0 ≤ m + b by omega)
  constructor <;> grind
theorem N3.add {n m k : Int} {a b : V3} {v : Int} (ha : N3 n a) (hb : N3 m b) (hv : -k ≤ v ∧ v ≤ k) : N3 (n + k * m) (mul3 a b v) := by
  obtain ⟨a1, a2, a3⟩ := ha
  obtain ⟨b1, b2, b3⟩ := hb
  have x := mul_in hv b1
  have y := mul_in hv b2
  have z := mul_in hv b3
  unfold N3 mul3
  dsimp only
  omega
theorem N3.bd {n : Int} {v : V3} (h : N3 n v) {k : Nat} (hk : n < 2 ^ k) (h0 : 0 ≤ n) : Bd3 k v := by
  obtain ⟨a, b, c⟩ := h
  have e : ((2 ^ k : Nat) : Int) = 2 ^ k := by simp
  rw [← e] at hk
  exact ⟨by unfold Bd; omega, by unfold Bd; omega, by unfold Bd; omega⟩
theorem Bd3.n3 {v : V3} (h : Bd3 6 v) : N3 63 v := by
  obtain ⟨a, b, c⟩ := h
  unfold Bd at *
  unfold N3
  omega
structure PlOK (p : Pl) : Prop where
  k : Bd3 10 p.k
  s : Bd3 10 p.s
  o : Bd3 10 p.o
  nz : ¬(p.n.x = 0 ∧ p.n.y = 0 ∧ p.n.z = 0)
theorem okq_v3s {vs : List V3} : okq 40 (.lst (vs.map V3.D)) = true := by
  show (vs.map V3.D).all (okq 39) = true
  rw [List.all_map, List.all_eq_true]
  intro v _
  rfl
theorem sp_lfarG {vs : List V3} {P : D → Prop} (h : ∀ b, P (.bl b)) (hl : vs.length ≤ 3) : (f__law_far [.lst (vs.map V3.D)]).wp P NoE := by
  wtm_at "y_in"
  repeat' ((fail_if_success (with_reducible show Got (compS _ _ _ _ _) _)); wtm_at "y_dy")
  refine c_listG (f := V3.D) (keep := fun v => decide (1000000000 < if 0 - List.foldl min v.x [v.y, v.z] > List.foldl max v.x [v.y, v.z] then 0 - List.foldl min v.x [v.y, v.z] else List.foldl max v.x [v.y, v.z])) (g := V3.D) (fun v hx => ?_) ?_
  · refine w_bName ?_
    repeat' ((fail_if_success (with_reducible show Got (oMaxU _) _)); wtm_at "y_dy")
    refine w_maxUT (ns := [v.x, v.y, v.z]) rfl rfl ?_
    repeat' ((fail_if_success (with_reducible show Got (oMinU _) _)); wtm_at "y_dy")
    refine w_minUT (ns := [v.x, v.y, v.z]) rfl rfl ?_
    repeat' wtm_at "y_dy"
    exact ⟨rfl, fun _ => wp_var rfl rfl⟩
  · repeat' ((fail_if_success (with_reducible show Got (oNe _ _) _)); wtm_at "y_dy")
    exact w_neNil okq_v3s (h _)
theorem sp_lcrossV {s o : V3} {P : D → Prop} (hs : Bd3 10 s) (ho : Bd3 10 o) (h : P (V3.D (crs3 s o))) : (f__law_cross [s.D, o.D]).wp P NoE :=
  sp_lcross (n := 10) (n' := 10) (by decide) (by decide) hs.x hs.y hs.z ho.x ho.y ho.z h
theorem n_bd {p : Pl} (h : PlOK p) : Bd3 21 p.n := h.s.crs h.o
def TipD (t : D) : Prop := t = .non ∨ ∃ v : V3, t = v.D
theorem sp_ltip {p : Pl} (hp : PlOK p) (c : Int) : (f__law_tip [p.D, .int c]).wp TipD NoE := by
  have bn := n_bd hp
  have hc : ∀ {P : D → Prop}, P p.n.D → (f__law_cross [p.s.D, p.o.D]).wp P NoE := fun h => sp_lcrossV hp.s hp.o h
  have ha := fun {a b c : Int} (h1 : N9 a) (h2 : N9 b) (h3 : N9 c) => sp_laheadK hp.nz (bn.x.mono (by decide)) (bn.y.mono (by decide)) (bn.z.mono (by decide)) h1 h2 h3
  have i0 : oIx p.D (.int 0) = some p.k.D := rfl
  have i1 : oIx p.D (.int 1) = some p.s.D := rfl
  have i2 : oIx p.D (.int 2) = some p.o.D := rfl
  have en : t3 p.n.x p.n.y p.n.z = p.n.D := rfl
  rw [en] at ha
  obtain ⟨dp, edp⟩ : ∃ x, p.D = x := ⟨_, rfl⟩
  obtain ⟨ds, eds⟩ : ∃ x, p.s.D = x := ⟨_, rfl⟩
  obtain ⟨dO, edO⟩ : ∃ x, p.o.D = x := ⟨_, rfl⟩
  obtain ⟨dn, edn⟩ : ∃ x, p.n.D = x := ⟨_, rfl⟩
  rw [edp] at i0 i1 i2 ⊢
  rw [eds] at i1 hc
  rw [edO] at i2 hc
  rw [edn] at hc ha
  have b3 : ∀ k : Int, 60 + k = 60 + k := fun _ => rfl
  wtm_at "y_in"
  repeat' (first | ((fail_if_success (with_reducible show R.wp (f__law_cross _) _ _)); wtm_at "y_dy") | (with_reducible refine g_ot i1 ?_) | (with_reducible refine g_ot i2 ?_))
  refine hc ?_
  repeat' wtm_at "y_dy"
  refine (sp_draw (by decide) (by decide) (by decide) (by decide)).no ?_
  rintro _ ⟨v0, rfl, a0, b0⟩
  repeat' wtm_at "y_dy"
  refine (sp_draw (by decide) (by decide) (by decide) (by decide)).no ?_
  rintro _ ⟨v1, rfl, a1, b1⟩
  repeat' wtm_at "y_dy"
  refine (sp_draw (by decide) (by decide) (by decide) (by decide)).no ?_
  rintro _ ⟨v2, rfl, a2, b2⟩
  repeat' ((fail_if_success (with_reducible show R.wp (f__law_ahead _) _ _)); wtm_at "y_dy")
  refine (ha (a := v0 - 4) (b := v1 - 4) (c := v2 - 4) (by unfold N9; omega) (by unfold N9; omega) (by unfold N9; omega)).no ?_
  rintro _ ⟨d0, d1, d2, rfl, ⟨hd0, hd1, hd2⟩, _⟩
  repeat' (first | ((fail_if_success (with_reducible show R.wp (f__law_sum _) _ _)); wtm_at "y_dy") | (with_reducible refine g_ot i0 ?_))
  refine sp_lsumV (a := p.k) (b := ⟨d0, d1, d2⟩) (n := 6) (by decide) (Bd.lit (by decide)) ⟨hd0, hd1, hd2⟩ ?_
  generalize mul3 p.k ⟨d0, d1, d2⟩ 1 = v
  have far : ∀ {P : D → Prop}, (∀ b, P (.bl b)) → (f__law_far [.lst [v.D]]).wp P NoE := fun h => sp_lfarG (vs := [v]) h (show 1 ≤ 3 by decide)
  obtain ⟨dv, edv⟩ : ∃ x, v.D = x := ⟨_, rfl⟩
  rw [edv] at far ⊢
  repeat' ((fail_if_success (with_reducible show R.wp (f__law_far _) _ _)); wtm_at "y_dy")
  refine far fun b => ?_
  cases b with
  | true =>
    repeat' wtm_at "y_dy"
    exact .inl rfl
  | false =>
    repeat' wtm_at "y_dy"
    exact .inr ⟨v, edv.symm⟩
theorem pick3 {a b c : V3} {v : Int} (h0 : 0 ≤ v) (h1 : v < 3) (ha : Bd3 10 a) (hb : Bd3 10 b) (hc : Bd3 10 c) : ∃ s : V3, Bd3 10 s ∧ oIx (.lst [a.D, b.D, c.D]) (.int v) = some s.D := by
  have : v = 0 ∨ v = 1 ∨ v = 2 := by omega
  rcases this with rfl | rfl | rfl
  · exact ⟨a, ha, rfl⟩
  · exact ⟨b, hb, rfl⟩
  · exact ⟨c, hc, rfl⟩
theorem sp_labout {p : Pl} {d : V3} (hk : Bd3 6 p.k) (hs : Bd3 6 p.s) (ho : Bd3 6 p.o) (hd : Bd3 6 d) (c : Int) : (f__law_about [p.D, d.D, .int c]).wp (fun z => ∃ q : Pl, z = q.D ∧ PlOK q) NoE := by
  have i0 : oIx p.D (.int 0) = some p.k.D := rfl
  have i1 : oIx p.D (.int 1) = some p.s.D := rfl
  have i2 : oIx p.D (.int 2) = some p.o.D := rfl
  have s1 := fun {m : Int} {P : D → Prop} (hm : Bd 5 m) => sp_lsumV (a := p.k) (b := p.s) (m := m) (P := P) (n := 6) (by decide) hm hs
  have s2 := fun {a : V3} {m : Int} {P : D → Prop} (hm : Bd 5 m) => sp_lsumV (a := a) (b := p.o) (m := m) (P := P) (n := 6) (by decide) hm ho
  have s3 := fun {a : V3} {m : Int} {P : D → Prop} (hm : Bd 5 m) => sp_lsumV (a := a) (b := d) (m := m) (P := P) (n := 6) (by decide) hm hd
  have s4 := fun {b : V3} {P : D → Prop} (hb : Bd3 6 b) => sp_lsumV (a := p.s) (b := b) (m := 1) (P := P) (n := 6) (by decide) (Bd.lit (by decide)) hb
  have s5 := fun {b : V3} {P : D → Prop} (hb : Bd3 6 b) => sp_lsumV (a := p.o) (b := b) (m := 1) (P := P) (n := 6) (by decide) (Bd.lit (by decide)) hb
  have p5 := fun {b c : V3} {v : Int} (h0 : 0 ≤ v) (h1 : v < 3) (hb : Bd3 10 b) (hc : Bd3 10 c) => pick3 (a := b) (b := p.s) (c := c) h0 h1 hb (hs.mono (by decide)) hc
  have p6 := fun {b c : V3} {v : Int} (h0 : 0 ≤ v) (h1 : v < 3) (hb : Bd3 10 b) (hc : Bd3 10 c) => pick3 (a := b) (b := p.o) (c := c) h0 h1 hb (ho.mono (by decide)) hc
  obtain ⟨dp, edp⟩ : ∃ x, p.D = x := ⟨_, rfl⟩
  obtain ⟨dk, edk⟩ : ∃ x, p.k.D = x := ⟨_, rfl⟩
  obtain ⟨ds, eds⟩ : ∃ x, p.s.D = x := ⟨_, rfl⟩
  obtain ⟨dO, edO⟩ : ∃ x, p.o.D = x := ⟨_, rfl⟩
  obtain ⟨dd, edd⟩ : ∃ x, d.D = x := ⟨_, rfl⟩
  rw [edp] at i0 i1 i2 ⊢
  rw [edk] at i0 s1
  rw [eds] at i1 s1 s4 p5
  rw [edO] at i2 s2 s5 p6
  rw [edd] at s3 ⊢
  have b3 : ∀ {v w : Int}, -3 ≤ v → v ≤ 3 → Bd 5 v := fun h0 h1 => by unfold Bd; omega
  wtm_at "y_in"
  repeat' (first | wtm_at "y_dy" | (with_reducible refine g_ot i0 ?_) | (with_reducible refine g_ot i1 ?_))
  refine (sp_draw (by decide) (by decide) (by decide) (by decide)).no ?_
  rintro _ ⟨v1, rfl, a1, b1⟩
  repeat' ((fail_if_success (with_reducible show R.wp (f__law_sum _) _ _)); wtm_at "y_dy")
  refine s1 (by unfold Bd; omega) ?_
  have n1 := hk.n3.add hs.n3 (k := 2) (v := v1 - 2) (by omega)
  generalize mul3 p.k p.s (v1 - 2) = c1 at n1 ⊢
  repeat' (first | wtm_at "y_dy" | (with_reducible refine g_ot i2 ?_))
  refine (sp_draw (by decide) (by decide) (by decide) (by decide)).no ?_
  rintro _ ⟨v2, rfl, a2, b2⟩
  repeat' ((fail_if_success (with_reducible show R.wp (f__law_sum _) _ _)); wtm_at "y_dy")
  refine s2 (by unfold Bd; omega) ?_
  have n2 := n1.add ho.n3 (k := 2) (v := v2 - 2) (by omega)
  generalize mul3 c1 p.o (v2 - 2) = c2 at n2 ⊢
  repeat' wtm_at "y_dy"
  refine (sp_draw (by decide) (by decide) (by decide) (by decide)).no ?_
  rintro _ ⟨v3, rfl, a3, b3'⟩
  repeat' ((fail_if_success (with_reducible show R.wp (f__law_sum _) _ _)); wtm_at "y_dy")
  refine s3 (by unfold Bd; omega) ?_
  have n3 := n2.add hd.n3 (k := 3) (v := 1 + v3) (by omega)
  generalize mul3 c2 d (1 + v3) = c3' at n3 ⊢
  have k3 : Bd3 10 c3' := n3.bd (by decide) (by decide)
  repeat' ((fail_if_success (with_reducible show R.wp (f__law_plate _) _ _)); wtm_at "y_dy")
  refine (sp_lplateK c (by decide) (by decide)).no ?_
  rintro _ ⟨q, rfl, q1, q2, q3, qn⟩
  have okq : PlOK q := ⟨q1.mono (by decide), q2.mono (by decide), q3.mono (by decide), qn⟩
  have j1 : oIx q.D (.int 1) = some q.s.D := rfl
  have j2 : oIx q.D (.int 2) = some q.o.D := rfl
  obtain ⟨dq, edq⟩ : ∃ x, q.D = x := ⟨_, rfl⟩
  rw [edq] at j1 j2 ⊢
  have m4 := hs.n3.add q2.n3 (k := 1) (v := 1) (by omega)
  have m5 := ho.n3.add q3.n3 (k := 1) (v := 1) (by omega)
  replace s4 := fun {P : D → Prop} => s4 (b := q.s) (P := P) q2
  replace s5 := fun {P : D → Prop} => s5 (b := q.o) (P := P) q3
  generalize mul3 p.s q.s 1 = c4 at m4 s4
  generalize mul3 p.o q.o 1 = c5 at m5 s5
  replace p5 := fun {v : Int} (h0 : 0 ≤ v) (h1 : v < 3) => p5 h0 h1 (q2.mono (by decide)) (m4.bd (k := 10) (by decide) (by decide))
  replace p6 := fun {v : Int} (h0 : 0 ≤ v) (h1 : v < 3) => p6 h0 h1 (q3.mono (by decide)) (m5.bd (k := 10) (by decide) (by decide))
  obtain ⟨dqs, edqs⟩ : ∃ x, q.s.D = x := ⟨_, rfl⟩
  obtain ⟨dqo, edqo⟩ : ∃ x, q.o.D = x := ⟨_, rfl⟩
  obtain ⟨dc3, edc3⟩ : ∃ x, c3'.D = x := ⟨_, rfl⟩
  rw [edqs] at j1 s4 p5
  rw [edqo] at j2 s5 p6
  rw [edc3]
  repeat' (first | ((fail_if_success (with_reducible show R.wp (f__law_sum _) _ _)); wtm_at "y_dy") | (with_reducible refine g_ot i1 ?_) | (with_reducible refine g_ot j1 ?_))
  refine s4 ?_
  repeat' wtm_at "y_dy"
  refine (sp_draw (by decide) (by decide) (by decide) (by decide)).no ?_
  rintro _ ⟨v4, rfl, a4, b4⟩
  obtain ⟨s, ks, ps⟩ := p5 a4 b4
  have cr := fun {o : V3} {P : D → Prop} (h : Bd3 10 o) => sp_lcrossV (P := P) ks h
  have far := fun {o : V3} {P : D → Prop} (h : ∀ b, P (.bl b)) => sp_lfarG (vs := [c3', s, o]) h (show 3 ≤ 3 by decide)
  obtain ⟨dss, edss⟩ : ∃ x, s.D = x := ⟨_, rfl⟩
  rw [edss] at ps cr
  repeat' (first | ((fail_if_success (with_reducible show R.wp (f__law_sum _) _ _)); (fail_if_success (with_reducible show Got (oIx _ _) _)); wtm_at "y_dy") | (with_reducible refine g_ot ps ?_) | (with_reducible refine g_ot i2 ?_) | (with_reducible refine g_ot j2 ?_) | ((with_reducible show Got (oIx _ (.int 2)) _); wtm_at "y_dy"))
  refine s5 ?_
  repeat' ((fail_if_success (with_reducible show Got (oIx _ _) _)); wtm_at "y_dy")
  refine (sp_draw (by decide) (by decide) (by decide) (by decide)).no ?_
  rintro _ ⟨v5, rfl, a5, b5⟩
  obtain ⟨o, ko, po⟩ := p6 a5 b5
  replace cr := fun {P : D → Prop} => cr (o := o) (P := P) ko
  replace far : ∀ {P : D → Prop}, (∀ b, P (.bl b)) → (f__law_far [.lst [dc3, dss, o.D]]).wp P NoE := fun h => by
    rw [← edc3, ← edss]
    exact far h
  have fin : ∀ {P : D → Prop}, ¬((crs3 s o).x = 0 ∧ (crs3 s o).y = 0 ∧ (crs3 s o).z = 0) → ∃ q : Pl, D.tup [dc3, dss, o.D] = q.D ∧ PlOK q := fun {_} h => ⟨⟨c3', s, o⟩, by rw [← edc3, ← edss]; rfl, k3, ks, ko, h⟩
  obtain ⟨dso, edso⟩ : ∃ x, o.D = x := ⟨_, rfl⟩
  rw [edso] at po cr far fin
  repeat' (first | ((fail_if_success (with_reducible show R.wp (f__law_cross _) _ _)); (fail_if_success (with_reducible show Got (oIx _ _) _)); wtm_at "y_dy") | (with_reducible refine g_ot po ?_))
  refine cr ?_
  have ec : (crs3 s o).D = t3 (crs3 s o).x (crs3 s o).y (crs3 s o).z := rfl
  rw [ec]
  have f0 := fin (P := fun _ => True)
  generalize (crs3 s o).x = x0 at f0 ⊢
  generalize (crs3 s o).y = x1 at f0 ⊢
  generalize (crs3 s o).z = x2 at f0 ⊢
  repeat' ((fail_if_success (with_reducible show R.wp (f__law_far _) _ _)); wtm_at "y_dy")
  · exact ⟨q, edq.symm, okq⟩
  rename_i hz
  refine far fun b => ?_
  cases b with
  | true =>
    repeat' wtm_at "y_dy"
    exact ⟨q, edq.symm, okq⟩
  | false =>
    repeat' wtm_at "y_dy"
    exact f0 hz

/-! ### k77: the yard -/
abbrev aS : Str := "a"
def nmK : Nat → Str
  | 0 => "a" | 1 => "b" | 2 => "c" | _ => "d"
theorem nmK_ix : ∀ k, k < 4 → oIx (.str "abcdefgh") (.int (k : Nat)) = some (.str (nmK k))
  | 0, _ => rfl
  | 1, _ => rfl
  | 2, _ => rfl
  | 3, _ => rfl
theorem nmK_ok : ∀ k, k < 4 → PyData.strOk (nmK k) = true
  | 0, _ => by decide +kernel
  | 1, _ => by decide +kernel
  | 2, _ => by decide +kernel
  | 3, _ => by decide +kernel
theorem nmK_ne : ∀ k, 0 < k → nmK k ≠ "a"
  | 1, _ => by decide +kernel
  | 2, _ => by decide +kernel
  | (n + 3), _ => (show ("d" : Str) ≠ "a" by decide +kernel)
structure YOf (p : Pl) (t0 : D) (qs : List Pl) (ws ds : List Th) : Prop where
  pm : ((ws ++ ds).map fun x => x.2.1).Perm qs
  nm : ∀ x ∈ ws ++ ds, x.1 ≠ "a" ∧ PyData.strOk x.1 = true
def YardOf (sun : D) (p : Pl) (t0 : D) (qs : List Pl) (y : D) : Prop := ∃ ws ds, y = yD sun ws ((aS, p, some t0) :: ds) ∧ YOf p t0 qs ws ds
theorem ix_at {xs : List D} {k : Nat} {d : D} (e : xs[k]? = some d) : oIx (.lst xs) (.int (k : Nat)) = some d := atI_nat e
theorem YOf.wall {p : Pl} {t0 : D} {qs : List Pl} {ws ds : List Th} (h : YOf p t0 qs ws ds) {q : Pl} {n : Str} (hn : n ≠ "a") (ho : PyData.strOk n = true) : YOf p t0 (qs ++ [q]) (ws ++ [(n, q, none)]) ds := by
  refine ⟨?_, fun x hx => ?_⟩
  · have := h.pm
    simp only [List.map_append, List.map_cons, List.map_nil, List.append_assoc] at this ⊢
    refine List.Perm.trans ?_ (List.Perm.append_right [q] this)
    rw [List.append_assoc]
    exact List.Perm.append_left _ List.perm_append_comm
  · simp only [List.mem_append, List.mem_cons, List.not_mem_nil, or_false] at hx
    rcases hx with (hx | rfl) | hx
    · exact h.nm x (List.mem_append_left _ hx)
    · exact ⟨hn, ho⟩
    · exact h.nm x (List.mem_append_right _ hx)
theorem YOf.dial {p : Pl} {t0 : D} {qs : List Pl} {ws ds : List Th} (h : YOf p t0 qs ws ds) {q : Pl} {n : Str} {t : D} (hn : n ≠ "a") (ho : PyData.strOk n = true) : YOf p t0 (qs ++ [q]) ws (ds ++ [(n, q, some t)]) := by
  refine ⟨?_, fun x hx => ?_⟩
  · have := h.pm
    simp only [List.map_append, List.map_cons, List.map_nil] at this ⊢
    rw [← List.append_assoc]
    exact List.Perm.append_right [q] this
  · simp only [List.mem_append, List.mem_cons, List.not_mem_nil, or_false] at hx
    rcases hx with hx | hx | rfl
    · exact h.nm x (List.mem_append_left _ hx)
    · exact h.nm x (List.mem_append_right _ hx)
    · exact ⟨hn, ho⟩
theorem sp_lyard {g : List D → R D} (hg : f__law_yard = g) {sun : D} {p : Pl} {v0 : V3} {qs : List Pl} {ts : List D} (hl : ts.length = qs.length) (h3 : qs.length ≤ 3) (ht : ∀ t ∈ ts, TipD t) : (g [sun, .lst ((p :: qs).map Pl.D), .lst (v0.D :: ts)]).wp (YardOf sun p v0.D qs) NoE := by
  have pk : ∀ k q, (p :: qs)[k]? = some q → oIx (.lst ((p :: qs).map Pl.D)) (.int (k : Nat)) = some q.D := fun k q e => ix_at (by rw [List.getElem?_map, e]; rfl)
  have tk : ∀ k t, (v0.D :: ts)[k]? = some t → oIx (.lst (v0.D :: ts)) (.int (k : Nat)) = some t := fun k t e => ix_at e
  have hn : oLen [.lst ((p :: qs).map Pl.D)] = some (.int ((qs.length + 1 : Nat))) := by
    show some (D.int ((((p :: qs).map Pl.D).length : Nat) : Int)) = _
    rw [List.length_map, List.length_cons]
  generalize D.lst ((p :: qs).map Pl.D) = dps at pk hn ⊢
  generalize D.lst (v0.D :: ts) = dts at tk ⊢
  obtain ⟨L, hL⟩ : ∃ L : Int, ((qs.length + 1 : Nat) : Int) = L := ⟨_, rfl⟩
  rw [hL] at hn
  rw [← hg]
  wtm_at "y_in"
  repeat' (first | ((fail_if_success (with_reducible show SR.wp (forS _ _ _ _) _ _ _)); wtm_at "y_dy") | (with_reducible refine g_ot hn ?_))
  refine forS_inv (fun k ρ => ∃ (ws ds : List Th) (w1 w2 : Sl), ρ = [.val sun, .val dps, .val dts, .own (ws.map thD), .own (ds.map thD), w1, w2] ∧ (k = 0 → ws = [] ∧ ds = []) ∧ (0 < k → ∃ ds', ds = (aS, p, some v0.D) :: ds' ∧ YOf p v0.D (qs.take (k - 1)) ws ds')) ⟨[], [], _, _, rfl, fun _ => ⟨rfl, rfl⟩, fun h => absurd h (by decide)⟩ ?_ ?_
  · rintro k _ _ ed ⟨ws, ds, w1, w2, rfl, h0, h1⟩
    obtain ⟨rfl, hk⟩ := rangeD_get ed
    have hkq : k < qs.length + 1 := by omega
    have hk4 : k < 4 := by omega
    have hw : ws.length + ds.length ≤ 10 := by
      rcases Nat.eq_zero_or_pos k with z | z
      · obtain ⟨rfl, rfl⟩ := h0 z
        simp
      · obtain ⟨ds', rfl, y⟩ := h1 z
        have := y.pm.length_eq
        rw [List.length_map, List.length_append, List.length_take] at this
        rw [List.length_cons]
        omega
    obtain ⟨q, eq⟩ : ∃ q, (p :: qs)[k]? = some q := ⟨_, List.getElem?_eq_getElem (by rw [List.length_cons]; exact hkq)⟩
    obtain ⟨t, et⟩ : ∃ t, (v0.D :: ts)[k]? = some t := ⟨_, List.getElem?_eq_getElem (by rw [List.length_cons]; omega)⟩
    have i1 := pk k q eq
    have i2 := tk k t et
    have i3 := nmK_ix k hk4
    have hz : k = 0 → q = p ∧ t = v0.D := fun z => by
      subst z
      exact ⟨(Option.some.inj eq).symm, (Option.some.inj et).symm⟩
    have hp : 0 < k → qs.take k = qs.take (k - 1) ++ [q] := fun z => by
      obtain ⟨j, rfl⟩ : ∃ j, k = j + 1 := ⟨k - 1, by omega⟩
      rw [List.getElem?_cons_succ] at eq
      rw [List.take_succ, eq]
      rfl
    have htp : TipD t := by
      cases k with
      | zero => rw [(hz rfl).2]; exact .inr ⟨_, rfl⟩
      | succ j =>
        rw [List.getElem?_cons_succ] at et
        exact ht t (List.mem_of_getElem? et)
    obtain ⟨K, hK⟩ : ∃ K : Int, (k : Int) = K := ⟨_, rfl⟩
    rw [hK] at i1 i2 i3
    have hs1 : (ws.map thD).length < sizeLine := by rw [List.length_map, sizeLine_eq]; omega
    have hs2 : (ds.map thD).length < sizeLine := by rw [List.length_map, sizeLine_eq]; omega
    have wall : 0 < k → ∃ (ws' ds' : List Th) (w1 w2 : Sl), [Sl.val sun, .val dps, .val dts, .own (ws.map thD ++ [.tup [.str (nmK k), q.D]]), .own (ds.map thD), .val (.int K), .val (.str (nmK k))] = [.val sun, .val dps, .val dts, .own (ws'.map thD), .own (ds'.map thD), w1, w2] ∧ (k + 1 = 0 → ws' = [] ∧ ds' = []) ∧ (0 < k + 1 → ∃ ds'', ds' = (aS, p, some v0.D) :: ds'' ∧ YOf p v0.D (qs.take (k + 1 - 1)) ws' ds'') := fun z => by
      obtain ⟨ds', rfl, y⟩ := h1 z
      refine ⟨ws ++ [(nmK k, q, none)], _, _, _, by rw [List.map_append]; rfl, fun h => absurd h (by omega), fun _ => ⟨ds', rfl, ?_⟩⟩
      rw [Nat.add_sub_cancel, hp z]
      exact y.wall (nmK_ne k z) (nmK_ok k hk4)
    have dial : (k = 0 ∨ ∃ v : V3, t = v.D) → ∃ (ws' ds' : List Th) (w1 w2 : Sl), [Sl.val sun, .val dps, .val dts, .own (ws.map thD), .own (ds.map thD ++ [.tup [.str (nmK k), q.D, t]]), .val (.int K), .val (.str (nmK k))] = [.val sun, .val dps, .val dts, .own (ws'.map thD), .own (ds'.map thD), w1, w2] ∧ (k + 1 = 0 → ws' = [] ∧ ds' = []) ∧ (0 < k + 1 → ∃ ds'', ds' = (aS, p, some v0.D) :: ds'' ∧ YOf p v0.D (qs.take (k + 1 - 1)) ws' ds'') := fun _ => by
      refine ⟨ws, ds ++ [(nmK k, q, some t)], _, _, by rw [List.map_append]; rfl, fun h => absurd h (by omega), fun _ => ?_⟩
      rcases Nat.eq_zero_or_pos k with z | z
      · obtain ⟨rfl, rfl⟩ := h0 z
        obtain ⟨rfl, rfl⟩ := hz z
        subst z
        exact ⟨[], rfl, ⟨List.Perm.refl _, fun x hx => nomatch hx⟩⟩
      · obtain ⟨ds', rfl, y⟩ := h1 z
        refine ⟨ds' ++ [(nmK k, q, some t)], rfl, ?_⟩
        rw [Nat.add_sub_cancel, hp z]
        exact y.dial (nmK_ne k z) (nmK_ok k hk4)
    have eK : (0 : Int) + (k : Int) = K := by omega
    rw [eK]
    have hKm : K % 3 = 1 → 0 < k := by omega
    generalize nmK k = nm at i3 wall dial
    generalize q.D = dq at i1 wall dial
    rcases htp with rfl | ⟨v, rfl⟩
    · have z : 0 < k := by
        rcases Nat.eq_zero_or_pos k with z | z
        · exact absurd (hz z).2 (fun e => nomatch e)
        · exact z
      repeat' (first | ((fail_if_success (with_reducible show Got (oIx _ _) _)); wtm_at "y_dy") | (with_reducible refine g_ot i1 ?_) | (with_reducible refine g_ot i2 ?_) | (with_reducible refine g_ot i3 ?_))
      exact wall z
    · repeat' (first | ((fail_if_success (with_reducible show Got (oIx _ _) _)); wtm_at "y_dy") | (with_reducible refine g_ot i1 ?_) | (with_reducible refine g_ot i2 ?_) | (with_reducible refine g_ot i3 ?_))
      · rename_i h
        exact wall (hKm h)
      · exact dial (.inr ⟨v, rfl⟩)
  · rintro _ ⟨ws, ds, w1, w2, rfl, h0, h1⟩
    have el : (rangeD 0 L.toNat).length = qs.length + 1 := by simp only [rangeD, List.length_map, List.length_range]; omega
    rw [el] at h1
    obtain ⟨ds', rfl, y⟩ := h1 (Nat.succ_pos _)
    rw [Nat.add_sub_cancel, List.take_length] at y
    repeat' wtm_at "y_dy"
    exact ⟨ws, ds', rfl, y⟩

/-! ### k77: the hours -/
theorem filter_nil {α : Type} {f : α → Bool} : ∀ {xs : List α}, (∀ x ∈ xs, f x = false) → xs.filter f = []
  | [], _ => rfl
  | x :: r, h => by
    rw [List.filter_cons_of_neg (by rw [h x (.head _)]; decide)]
    exact filter_nil fun y hy => h y (.tail _ hy)
theorem YOf.one {p : Pl} {t0 : D} {qs : List Pl} {ws ds : List Th} (h : YOf p t0 qs ws ds) : (((aS, p, some t0) :: ds : List Th).filter fun x => decide (x.1 = aS)) = [(aS, p, some t0)] := by
  rw [List.filter_cons_of_pos (by simp)]
  rw [filter_nil (fun x hx => decide_eq_false (h.nm x (List.mem_append_right _ hx)).1)]
theorem YOf.others {p : Pl} {t0 : D} {qs : List Pl} {ws ds : List Th} (h : YOf p t0 qs ws ds) : othersT aS ws ((aS, p, some t0) :: ds) = (ws ++ ds).map fun x => x.2.1 := by
  unfold othersT
  rw [List.filter_append, List.filter_cons_of_neg (by simp), ← List.filter_append]
  rw [List.filter_eq_self.mpr fun x hx => by rw [decide_eq_false (h.nm x hx).1]; rfl]
theorem ringsS_lit {p : Pl} {d : V3} {qs : List Pl} : ringsS (fun q => shadedR p q d) qs = (qs.map fun q => shadedR p q d).filter fun F => decide (F ≠ []) := rfl
structure HourOf (sun : D) (hr : Int) (d : V3) : Prop where
  dir : ∀ {P : D → Prop}, P d.D → (f_direction_at [sun, .int hr]).wp P NoE
  up : ∀ {P : D → Prop}, P (.bl (decide (0 < d.z))) → (f_is_up [sun, .int hr]).wp P NoE
noncomputable def litV (p : Pl) (d : V3) (qs : List Pl) : Rat := if 0 < d.z ∧ 0 < p.W d then litR p d qs else 0
theorem zero_D : D.tup [.int 0, .int 1] = rD 0 := rfl
theorem sp_litY {g : List D → R D} (hg : f_lit_share = g) {sun y : D} {p : Pl} {v0 : V3} {qs : List Pl} {hr : Int} {d : V3} {P : D → Prop} (hy : YardOf sun p v0.D qs y) (hh : HourOf sun hr d) (hp : PlOK p) (hd : Bd3 10 d) (hq : ∀ q ∈ qs, PlOK q) (hl : qs.length ≤ 3) (h : P (rD (litV p d qs))) : (g [y, .int hr, .str aS]).wp P NoE := by
  obtain ⟨ws, ds, rfl, yo⟩ := hy
  have bn := n_bd hp
  have okA : PyData.strOk aS = true := by decide +kernel
  have hm : ∀ q ∈ (ws ++ ds).map (fun x => x.2.1), Sz 10 p q d := fun q hq' => by
    have := hq q (yo.pm.mem_iff.mp hq')
    exact ⟨hp.k, hp.s, hp.o, this.k, this.s, this.o, hd⟩
  have hl' : ((ws ++ ds).map fun x : Th => x.2.1).length ≤ 3 := by rw [yo.pm.length_eq]; exact hl
  have hfr : ∀ {P : D → Prop}, P (.bl (decide (0 < p.W d))) → (f_comes_from_ahead [p.D, d.D]).wp P NoE := fun h =>
    sp_comes (k := p.k.D) (n := 10) (n' := 10) (by decide) (by decide) hp.s.x hp.s.y hp.s.z hp.o.x hp.o.y hp.o.z hd.x hd.y hd.z h
  refine sp_litW hg (S := fun q => shadedR p q d) (r := rD (litR p d qs)) okA (fun x hx => ?_) ?_ rfl yo.one (fun h => hh.dir h) (fun h => hh.up h) (fun h => hfr h) (fun e => ?_) (fun e => ?_) (fun e => ?_) (fun e => ?_) (fun e => ?_)
  · simp only [List.mem_append, List.mem_cons] at hx
    rcases hx with hx | rfl | hx
    · exact (yo.nm x (List.mem_append_left _ hx)).2
    · exact okA
    · exact (yo.nm x (List.mem_append_right _ hx)).2
  · rw [List.length_map, List.length_append] at hl'
    rw [List.length_append, List.length_cons]
    omega
  · rw [Bool.and_eq_false_iff, decide_eq_false_iff_not, decide_eq_false_iff_not] at e
    unfold litV at h
    rw [if_neg (fun k => e.elim (fun z => z k.1) fun z => z k.2)] at h
    exact h
  · rw [Bool.and_eq_true, decide_eq_true_iff, decide_eq_true_iff] at e
    rw [yo.others]
    intro q hq' P h
    have z := hm q hq'
    exact sp_shaded e.2 ⟨z.k.mono (by decide), z.s.mono (by decide), z.o.mono (by decide), z.k'.mono (by decide), z.s'.mono (by decide), z.o'.mono (by decide), z.d.mono (by decide)⟩ h
  · rw [yo.others, ringsS_lit]
    refine Nat.le_trans (List.length_filter_le _ _) ?_
    rw [List.length_map]
    omega
  · rw [Bool.and_eq_true, decide_eq_true_iff, decide_eq_true_iff] at e
    rw [yo.others, ringsS_lit]
    intro P h
    refine sp_lit0 e.2 hm hl' ?_
    rw [lit_perm e.2 hm yo.pm]
    exact h
  · rw [Bool.and_eq_true, decide_eq_true_iff, decide_eq_true_iff] at e
    unfold litV at h
    rw [if_pos e] at h
    exact h
theorem sp_lawN {g : List D → R D} (hg : f__law_left = g) {p : Pl} {d : V3} {P : D → Prop} (hW : 0 < p.W d) : ∀ (qs : List Pl), (∀ q ∈ qs, Sz 10 p q d) → 1 ≤ qs.length → qs.length ≤ 3 → P (rD (litR p d qs)) → (g [.lst (qs.map fun q => shD p q d)]).wp P NoE
  | [], _, h, _, _ => absurd h (by decide)
  | [q1], z, _, _, h => sp_law1 hg hW (z q1 (by simp)) h
  | [q1, q2], z, _, _, h => sp_law2 hg hW (z q1 (by simp)) (z q2 (by simp)) h
  | [q1, q2, q3], z, _, _, h => sp_law3 hg hW (z q1 (by simp)) (z q2 (by simp)) (z q3 (by simp)) h
  | _ :: _ :: _ :: _ :: _, _, _, h, _ => absurd h (by simp)
theorem sp_lunder {x y : Rat} {n m n' m' : Nat} {P : D → Prop} (hx : RB n m x) (hy : RB n' m' y) (hs : n + m' < 100000000 ∧ n' + m < 100000000) (h : P (.bl (decide (x < y)))) : (f__law_under [rD x, rD y]).wp P NoE := by
  obtain ⟨x1, x2⟩ := hx
  obtain ⟨y1, y2⟩ := hy
  unfold rD
  wtm_at "y_in"
  repeat' wtm_at "y_dy"
  have e : decide (x.num * y.den < y.num * x.den) = decide (x < y) := by
    rw [decide_eq_decide, Rat.lt_iff]
  rw [e]
  exact h
theorem sl_take {xs : List D} {k : Nat} (h : k ≤ xs.length) : oSl (.lst xs) none (some (k : Nat)) = some (.lst (xs.take k)) := by
  show some (D.lst (Dy.cutD xs none (some ((k : Nat) : Int)))) = _
  unfold Dy.cutD
  rw [show HT.sIx xs.length 0 none = 0 from rfl, sIx_at (k := k) (by omega)]
  simp
theorem sl_drop {xs : List D} {k : Nat} (h : k ≤ xs.length) : oSl (.lst xs) (some (k : Nat)) none = some (.lst (xs.drop k)) := by
  show some (D.lst (Dy.cutD xs (some ((k : Nat) : Int)) none)) = _
  unfold Dy.cutD
  rw [show HT.sIx xs.length xs.length none = xs.length from rfl, sIx_at (k := k) (by omega)]
  congr 2
  exact List.take_of_length_le (by rw [List.length_drop]; omega)

theorem erase_perm {α : Type} : ∀ {xs : List α} {j : Nat} (h : j < xs.length), xs.Perm (xs[j] :: xs.eraseIdx j)
  | x :: r, 0, _ => List.Perm.refl _
  | x :: r, j + 1, h => by
    have := erase_perm (xs := r) (j := j) (by rw [List.length_cons] at h; omega)
    rw [List.eraseIdx_cons_succ, List.getElem_cons_succ]
    exact (List.Perm.cons x this).trans (List.Perm.swap _ _ _)
/-! ### k77: one hour asked -/
theorem erase_cut {α : Type} {p : α} {qs : List α} {j : Nat} : (p :: qs).take (j + 1) ++ (p :: qs).drop (j + 1 + 1) = p :: qs.eraseIdx j := by
  rw [List.take_succ_cons, List.drop_succ_cons, List.cons_append, List.eraseIdx_eq_take_drop_succ]
theorem cutJ {xs : List D} {j : Nat} (h : j + 2 ≤ xs.length) (hs : xs.length ≤ 100) : ∃ a b, oSl (.lst xs) none (some ((j + 1 : Nat) : Int)) = some a ∧ oSl (.lst xs) (some ((j + 1 + 1 : Nat) : Int)) none = some b ∧ oAdd a b = some (.lst (xs.take (j + 1) ++ xs.drop (j + 1 + 1))) := by
  refine ⟨_, _, sl_take (by omega), sl_drop (by omega), ?_⟩
  obtain ⟨z, e, h'⟩ := w_addL (xs := xs.take (j + 1)) (ys := xs.drop (j + 1 + 1)) (P := fun z => z = _) (by rw [List.length_take, List.length_drop, sizeLine_eq]; omega) rfl
  rw [e, h']
theorem sp_lhour {g : List D → R D} (hg : f__law_hour = g) {sun : D} {p : Pl} {v0 : V3} {qs : List Pl} {ts : List D} {hr i : Int} {d : V3} (hi : oIx sun (.int i) = some (.tup [.int hr, d.D])) (hh : HourOf sun hr d) (hp : PlOK p) (hd : Bd3 10 d) (hq : ∀ q ∈ qs, PlOK q) (h1 : 1 ≤ qs.length) (h3 : qs.length ≤ 3) (hl : ts.length = qs.length) (ht : ∀ t ∈ ts, TipD t) :
    (g [sun, .lst ((p :: qs).map Pl.D), .lst (v0.D :: ts), .int i]).wp (fun z => z = .bl true) NoE := by
  have bn := n_bd hp
  generalize hfy : f__law_yard = fy
  generalize hfl : f_lit_share = fl
  have yard0 : ∀ (qs' : List Pl) (ts' : List D), ts'.length = qs'.length → qs'.length ≤ 3 → (∀ t ∈ ts', TipD t) → (fy [sun, .lst ((p :: qs').map Pl.D), .lst (v0.D :: ts')]).wp (YardOf sun p v0.D qs') NoE := fun qs' ts' b c e => sp_lyard hfy b c e
  have lit0 : ∀ (y : D) (qs' : List Pl), YardOf sun p v0.D qs' y → (∀ q ∈ qs', PlOK q) → qs'.length ≤ 3 → ∀ {P : D → Prop}, P (rD (litV p d qs')) → (fl [y, .int hr, .str aS]).wp P NoE := fun y qs' hy a c {P} h => sp_litY hfl hy hh hp hd a c h
  have yard : ∀ (qs' : List Pl) (ts' : List D), (∀ q ∈ qs', PlOK q) → ts'.length = qs'.length → qs'.length ≤ 3 → (∀ t ∈ ts', TipD t) → (fy [sun, .lst ((p :: qs').map Pl.D), .lst (v0.D :: ts')]).wp (fun y => ∀ {P : D → Prop}, P (rD (litV p d qs')) → (fl [y, .int hr, .str aS]).wp P NoE) NoE := fun qs' ts' a b c e =>
    R.wp.imp (yard0 qs' ts' b c e) (fun y hy {P} h => lit0 y qs' hy a c h) fun _ z => z
  have y0 := yard qs ts hq hl h3 ht
  have alone : ∀ {P : D → Prop}, P (rD (litV p d [])) → (fl [.tup [sun, .lst [], .lst [.tup [.str aS, p.D, v0.D]]], .int hr, .str aS]).wp P NoE := fun h =>
    lit0 _ [] ⟨[], [], rfl, List.Perm.refl _, fun _ h => nomatch h⟩ (fun _ h => nomatch h) (by decide) h
  have ix0 : oIx (.lst ((p :: qs).map Pl.D)) (.int 0) = some p.D := ix_at (k := 0) rfl
  have it0 : oIx (.lst (v0.D :: ts)) (.int 0) = some v0.D := ix_at (k := 0) rfl
  have i1 : oIx p.D (.int 1) = some p.s.D := rfl
  have i2 : oIx p.D (.int 2) = some p.o.D := rfl
  have iz : oIx d.D (.int 2) = some (.int d.z) := rfl
  have hc : ∀ {P : D → Prop}, P p.n.D → (f__law_cross [p.s.D, p.o.D]).wp P NoE := fun h => sp_lcrossV hp.s hp.o h
  have hdot : ∀ {P : D → Prop}, P (.int (p.W d)) → (f__law_dot [p.n.D, d.D]).wp P NoE := fun h => sp_ldot (n := 21) (n' := 10) (by decide) (by decide) bn.x bn.y bn.z hd.x hd.y hd.z h
  have hsl : oSl (.lst ((p :: qs).map Pl.D)) (some 1) none = some (.lst (qs.map Pl.D)) := sl_drop (k := 1) (by rw [List.length_map, List.length_cons]; omega)
  have itq : iterD (.lst (qs.map Pl.D)) = some (qs.map Pl.D) := rfl
  have hm : ∀ q ∈ qs, Sz 10 p q d := fun q k => by
    have := hq q k
    exact ⟨hp.k, hp.s, hp.o, this.k, this.s, this.o, hd⟩
  have sh : 0 < p.W d → ∀ q ∈ qs, ∀ {P : D → Prop}, P (shD p q d) → (f_shaded_by [p.D, q.D, d.D]).wp P NoE := fun hW q k P h => by
    have z := hm q k
    exact sp_shaded hW ⟨z.k.mono (by decide), z.s.mono (by decide), z.o.mono (by decide), z.k'.mono (by decide), z.s'.mono (by decide), z.o'.mono (by decide), z.d.mono (by decide)⟩ h
  have lw : 0 < p.W d → ∀ {P : D → Prop}, P (rD (litR p d qs)) → (f__law_left [.lst (qs.map fun q => shD p q d)]).wp P NoE := fun hW P h => sp_lawN rfl hW qs hm h1 h3 h
  have hn : oLen [.lst ((p :: qs).map Pl.D)] = some (.int ((qs.length + 1 : Nat))) := by
    show some (D.int ((((p :: qs).map Pl.D).length : Nat) : Int)) = _
    rw [List.length_map, List.length_cons]
  have few : 0 < d.z → 0 < p.W d → ∀ j, j < qs.length → ∃ a b a' b' e e', oSl (.lst ((p :: qs).map Pl.D)) none (some ((j + 1 : Nat) : Int)) = some a ∧ oSl (.lst ((p :: qs).map Pl.D)) (some ((j + 1 + 1 : Nat) : Int)) none = some b ∧ oAdd a b = some e ∧
      oSl (.lst (v0.D :: ts)) none (some ((j + 1 : Nat) : Int)) = some a' ∧ oSl (.lst (v0.D :: ts)) (some ((j + 1 + 1 : Nat) : Int)) none = some b' ∧ oAdd a' b' = some e' ∧
      (fy [sun, e, e']).wp (fun y => ∃ r : Rat, RB 9000 9000 r ∧ litR p d qs ≤ r ∧ ∀ {P : D → Prop}, P (rD r) → (fl [y, .int hr, .str aS]).wp P NoE) NoE := fun hz hW j hj => by
    obtain ⟨a, b, c1, c2, c3⟩ := cutJ (xs := (p :: qs).map Pl.D) (j := j) (by rw [List.length_map, List.length_cons]; omega) (by rw [List.length_map, List.length_cons]; omega)
    obtain ⟨a', b', k1, k2, k3⟩ := cutJ (xs := v0.D :: ts) (j := j) (by rw [List.length_cons]; omega) (by rw [List.length_cons]; omega)
    refine ⟨a, b, a', b', _, _, c1, c2, c3, k1, k2, k3, ?_⟩
    rw [← List.map_take, ← List.map_drop, ← List.map_append, erase_cut, erase_cut]
    have sub : ∀ q ∈ qs.eraseIdx j, q ∈ qs := fun q k => List.mem_of_mem_eraseIdx k
    have le : (qs.eraseIdx j).length ≤ 3 := Nat.le_trans (List.length_eraseIdx_le ..) h3
    refine R.wp.imp (yard (qs.eraseIdx j) (ts.eraseIdx j) (fun q k => hq q (sub q k)) (by rw [List.length_eraseIdx, List.length_eraseIdx, hl]) le (fun t k => ht t (List.mem_of_mem_eraseIdx k))) (fun y hy => ⟨litR p d (qs.eraseIdx j), lit_RB hW (fun q k => hm q (sub q k)) le, lit_fewer hW hm (erase_perm hj), fun {P} h => ?_⟩) fun _ z => z
    refine hy ?_
    unfold litV
    rw [if_pos ⟨hz, hW⟩]
    exact h
  generalize hfs : f_shaded_by = fs at sh
  generalize hfw : f__law_left = fw at lw
  have und : ∀ {x y : Rat}, RB 9000 9000 x → RB 9000 9000 y → ∀ {P : D → Prop}, P (.bl (decide (x < y))) → (f__law_under [rD x, rD y]).wp P NoE := fun {x y} hx hy {P} h => sp_lunder (n := 9000) (m := 9000) (n' := 9000) (m' := 9000) hx hy (by decide) h
  generalize hfu : f__law_under = fu at und
  generalize hfc : f__law_cross = fc at hc
  generalize hfd : f__law_dot = fd at hdot
  have rb : 0 < p.W d → RB 9000 9000 (litR p d qs) := fun hW => lit_RB hW hm h3
  have one : 0 < d.z → 0 < p.W d → litV p d [] = 1 := fun hz hW => by
    unfold litV
    rw [if_pos ⟨hz, hW⟩]
    exact lit_none
  have v1 : 0 < d.z → 0 < p.W d → litV p d qs = litR p d qs := fun hz hW => by
    unfold litV
    rw [if_pos ⟨hz, hW⟩]
  have v0' : ¬(0 < d.z ∧ 0 < p.W d) → litV p d qs = 0 := fun h => by
    unfold litV
    rw [if_neg h]
  clear yard yard0 lit0 hp hd hq ht hl hh hm bn
  generalize D.lst ((p :: qs).map Pl.D) = dps at y0 ix0 hsl hn few ⊢
  generalize D.lst (v0.D :: ts) = dts at y0 it0 few ⊢
  generalize v0.D = dv at it0 alone
  generalize p.D = dp at ix0 i1 i2 sh alone
  generalize p.s.D = ds at i1 hc
  generalize p.o.D = dO at i2 hc
  generalize p.n.D = dn at hc hdot
  generalize d.D = dd at hi iz hdot sh
  generalize d.z = dz at iz few one v1 v0'
  generalize p.W d = W at hdot sh lw few rb one v1 v0'
  generalize litV p d [] = z1 at one alone
  generalize litV p d qs = V at y0 v1 v0'
  generalize litR p d qs = R0 at lw few rb v1
  rw [← hg]
  wtm_at "y_in"
  rw [hfy, hfl, hfs, hfw, hfu, hfc, hfd]
  clear hfy hfl hfs hfw hfu hfc hfd hg
  repeat' (first | ((fail_if_success (with_reducible show R.wp (fy _) _ _)); wtm_at "y_dy") | (with_reducible refine g_ot hi ?_) | (with_reducible refine g_ot ix0 ?_))
  refine y0.no ?_
  intro y hl0
  repeat' ((fail_if_success (with_reducible show R.wp (fl _) _ _)); wtm_at "y_dy")
  refine hl0 ?_
  have dark : ¬(0 < dz ∧ 0 < W) → Got (oEq (rD V) (.tup [.int 0, .int 1])) fun z => z = .bl true := fun h => by
    rw [zero_D, v0' h]
    exact w_eqS rfl rfl rfl
  repeat' (first | ((fail_if_success (with_reducible show Dy.Got (compS _ _ _ _ _) _)); (fail_if_success (with_reducible show Got (oEq _ _) _)); wtm_at "y_dy") | (with_reducible refine g_ot iz ?_) | (with_reducible refine g_ot i1 ?_) | (with_reducible refine g_ot i2 ?_) | (with_reducible refine hc ?_) | (with_reducible refine hdot ?_) | (with_reducible refine g_ot hsl ?_) | (with_reducible refine g_ot itq ?_))
  · exact dark (by omega)
  · exact dark (by omega)
  rename_i hz hW
  have hz : 0 < dz := by omega
  have hW : 0 < W := by omega
  replace few := few hz hW
  replace sh := sh hW
  replace lw := fun {P : D → Prop} => lw hW (P := P)
  replace rb := rb hW
  have e1 := v1 hz hW
  have e2 := one hz hW
  subst e1
  subst e2
  clear v1 one dark v0' hc hdot
  refine c_mapG (f := Pl.D) (g := fun q => shD p q d) (fun q hq => ?_) ?_
  · refine w_bName ?_
    have s := fun {P : D → Prop} => sh q hq (P := P)
    generalize q.D = dq at s ⊢
    repeat' ((fail_if_success (with_reducible show R.wp (fs _) _ _)); wtm_at "y_dy")
    exact s rfl
  generalize D.lst (qs.map fun q => shD p q d) = dsh at lw ⊢
  repeat' ((fail_if_success (with_reducible show R.wp (fw _) _ _)); wtm_at "y_dy")
  refine lw ?_
  repeat' ((fail_if_success (with_reducible show Dy.Got (oNe _ _) _)); wtm_at "y_dy")
  refine w_neS rfl rfl ?_
  obtain ⟨L, hL⟩ : ∃ L : Int, ((qs.length + 1 : Nat) : Int) = L := ⟨_, rfl⟩
  rw [hL] at hn
  repeat' (first | ((fail_if_success (with_reducible show SR.wp (forS _ _ _ _) _ _ _)); wtm_at "y_dy") | (with_reducible refine g_ot hn ?_))
  refine forS_inv (fun _ ρ => ∃ w9 w10 : Sl, ρ = [.val sun, .val dps, .val dts, .val (.int i), .val (.int hr), .val dd, .val dp, .val (rD V), .val dsh, w9, w10, .un]) ⟨_, _, rfl⟩ ?_ ?_
  · rintro j _ _ ed ⟨w9, w10, rfl⟩
    obtain ⟨rfl, hj⟩ := rangeD_get ed
    obtain ⟨a, b, a', b', e, e', c1, c2, c3, k1, k2, k3, yy⟩ := few j (by omega)
    obtain ⟨K, hK⟩ : ∃ K : Int, (1 : Int) + (j : Int) = K := ⟨_, rfl⟩
    have eK : ((j + 1 : Nat) : Int) = K := by omega
    have eK1 : ((j + 1 + 1 : Nat) : Int) = K + 1 := by omega
    rw [eK] at c1 k1
    rw [eK1] at c2 k2
    rw [hK]
    clear few
    repeat' (first | ((fail_if_success (with_reducible show R.wp (fy _) _ _)); (fail_if_success (with_reducible show Got (oSl _ _ _) _)); wtm_at "y_dy") | (with_reducible refine g_ot c1 ?_) | (with_reducible refine g_ot c2 ?_) | (with_reducible refine g_ot c3 ?_) | (with_reducible refine g_ot k1 ?_) | (with_reducible refine g_ot k2 ?_) | (with_reducible refine g_ot k3 ?_))
    refine yy.no ?_
    rintro y' ⟨r, hr9, hle, hfl⟩
    repeat' ((fail_if_success (with_reducible show R.wp (fl _) _ _)); wtm_at "y_dy")
    refine hfl ?_
    repeat' ((fail_if_success (with_reducible show R.wp (fu _) _ _)); wtm_at "y_dy")
    refine und hr9 rb ?_
    rw [decide_f (show ¬ r < V by grind)]
    repeat' wtm_at "y_dy"
    exact ⟨_, _, rfl⟩
  · rintro _ ⟨w9, w10, rfl⟩
    repeat' (first | ((fail_if_success (with_reducible show R.wp (fl _) _ _)); wtm_at "y_dy") | (with_reducible refine g_ot it0 ?_))
    refine alone ?_
    repeat' ((fail_if_success (with_reducible show Dy.Got (oEq _ _) _)); wtm_at "y_dy")
    rw [one_D]
    exact w_eqS rfl rfl rfl

/-! ### k77: the law -/
theorem sp_celln (ns : List Int) (k : Int) (h0 : 0 ≤ k) : (f__law_cell_at [.lst (ns.map .int), .int k]).wp (fun d => ∃ c, d = .int c) NoE := by
  wtm_at "y_in"
  repeat' ((fail_if_success (with_reducible show Got (oIx _ _) _)); wtm_at "y_dy")
  · rename_i h
    rw [List.length_map] at h
    obtain ⟨x, _, e⟩ := atI_ints h0 h
    refine g_ot (show oIx (.lst (ns.map .int)) (.int k) = _ from e) ?_
    repeat' wtm_at "y_dy"
    exact ⟨_, rfl⟩
  · exact ⟨_, rfl⟩
theorem at_last {xs : List D} {d : D} : L2.atI (xs ++ [d]) (-1) = some d := by
  unfold L2.atI L2.ixN
  rw [if_neg (by decide), if_pos (by rw [List.length_append, List.length_singleton]; omega), Option.bind_some, show ((-1 : Int) + (xs ++ [d]).length).toNat = xs.length by rw [List.length_append, List.length_singleton]; omega]
  simp
def sunD (d e : V3) : D := .lst [.tup [.int 7, d.D], .tup [.int 9, e.D]]
theorem sun_7 {d e : V3} : HourOf (sunD d e) 7 d := by
  have dir : ∀ {P : D → Prop}, P d.D → (f_direction_at [sunD d e, .int 7]).wp P NoE := fun h => by
    unfold sunD
    generalize d.D = dd at h ⊢
    generalize e.D = de
    wtm_at "y_in"
    repeat' wtm_at "y_dy"
    exact h
  refine ⟨fun h => dir h, fun h => ?_⟩
  have iz : oIx d.D (.int 2) = some (.int d.z) := rfl
  generalize sunD d e = sd at dir ⊢
  generalize d.D = dd at dir iz
  generalize d.z = z at iz h
  wtm_at "y_in"
  repeat' ((fail_if_success (with_reducible show R.wp (f_direction_at _) _ _)); wtm_at "y_dy")
  refine dir ?_
  repeat' (first | (with_reducible refine g_ot iz ?_) | wtm_at "y_dy")
  exact h
theorem sun_9 {d e : V3} : HourOf (sunD d e) 9 e := by
  have dir : ∀ {P : D → Prop}, P e.D → (f_direction_at [sunD d e, .int 9]).wp P NoE := fun h => by
    unfold sunD
    generalize e.D = de at h ⊢
    generalize d.D = dd
    wtm_at "y_in"
    repeat' wtm_at "y_dy"
    exact h
  refine ⟨fun h => dir h, fun h => ?_⟩
  have iz : oIx e.D (.int 2) = some (.int e.z) := rfl
  generalize sunD d e = sd at dir ⊢
  generalize e.D = dd at dir iz
  generalize e.z = z at iz h
  wtm_at "y_in"
  repeat' ((fail_if_success (with_reducible show R.wp (f_direction_at _) _ _)); wtm_at "y_dy")
  refine dir ?_
  repeat' (first | (with_reducible refine g_ot iz ?_) | wtm_at "y_dy")
  exact h
theorem law_true (ns : List Int) (hl : ns.length ≤ 63) : f_law [.lst (ns.map .int)] = .ok (.bl true) := by
  refine law_of_wp ?_
  have hcell := sp_celln ns
  generalize hg : f_law = g
  generalize hsc : D.lst (ns.map .int) = sc at hcell ⊢
  generalize hfcell : f__law_cell_at = fcell at hcell
  have hplate := fun c : Int => sp_lplateK c (k := 0) (by decide) (by decide)
  generalize hfplate : f__law_plate = fplate at hplate
  have htip : ∀ {p : Pl}, PlOK p → ∀ c : Int, (f__law_tip [p.D, .int c]).wp TipD NoE := fun hp c => sp_ltip hp c
  generalize hftip : f__law_tip = ftip at htip
  have htri : ∀ {c k : Int}, 0 ≤ k → k < 90 → (f__law_triple [.int c, .int k]).wp T9 NoE := fun a b => sp_ltriple a b
  generalize hftri : f__law_triple = ftri at htri
  have hdraw : ∀ {c k many : Int}, 0 ≤ k → k < 1000 → 0 < many → many < 1000000 → (f__law_draw [.int c, .int k, .int many]).wp (fun d => ∃ v, d = .int v ∧ 0 ≤ v ∧ v < many) NoE := fun a b c d => sp_draw a b c d
  generalize hfdraw : f__law_draw = fdraw at hdraw
  have hcr : ∀ {p : Pl}, PlOK p → ∀ {P : D → Prop}, P p.n.D → (f__law_cross [p.s.D, p.o.D]).wp P NoE := fun {p} hp {P} h => sp_lcrossV hp.s hp.o h
  generalize hfcr : f__law_cross = fcr at hcr
  have hah : ∀ {p : Pl}, PlOK p → ∀ {a b c : Int}, N9 a → N9 b → N9 c → (f__law_ahead [p.n.D, t3 a b c]).wp (fun z => ∃ d : V3, z = d.D ∧ Bd3 6 d) NoE := fun {p} hp {a b c} h1 h2 h3 => by
    have bn := n_bd hp
    refine R.wp.imp (sp_laheadK hp.nz (bn.x.mono (by decide)) (bn.y.mono (by decide)) (bn.z.mono (by decide)) h1 h2 h3) (fun z hz => ?_) fun _ h => h
    obtain ⟨d0, d1, d2, rfl, ⟨q0, q1, q2⟩, _⟩ := hz
    exact ⟨⟨d0, d1, d2⟩, rfl, q0, q1, q2⟩
  generalize hfah : f__law_ahead = fah at hah
  have hfar : ∀ {v : V3} {P : D → Prop}, (∀ b, P (.bl b)) → (f__law_far [.lst [v.D]]).wp P NoE := fun {v} {P} h => sp_lfarG (vs := [v]) h (show 1 ≤ 3 by decide)
  generalize hffar : f__law_far = ffar at hfar
  have hab : ∀ {p : Pl} {d : V3}, Bd3 6 p.k → Bd3 6 p.s → Bd3 6 p.o → Bd3 6 d → ∀ c : Int, (f__law_about [p.D, d.D, .int c]).wp (fun z => ∃ q : Pl, z = q.D ∧ PlOK q) NoE := fun a b c d e => sp_labout a b c d e
  generalize hfab : f__law_about = fab at hab
  generalize hfy : f__law_yard = fy
  generalize hfl : f_lit_share = fl
  generalize hfh : f__law_hour = fh
  rw [← hg]
  wtm_at "y_in"
  rw [hfcell, hfplate, hftip, hftri, hfdraw, hfcr, hfah, hffar, hfab, hfy, hfl, hfh]
  clear hfcell hfplate hftip hftri hfdraw hfcr hfah hffar hfab hg
  repeat' ((fail_if_success (with_reducible show R.wp (fcell _) _ _)); wtm_at "y_dy")
  refine (hcell 0 (by decide)).no ?_
  rintro _ ⟨c, rfl⟩
  repeat' ((fail_if_success (with_reducible show R.wp (fplate _) _ _)); wtm_at "y_dy")
  refine (hplate c).no ?_
  rintro _ ⟨p, rfl, p1, p2, p3, pn⟩
  have hp : PlOK p := ⟨p1.mono (by decide), p2.mono (by decide), p3.mono (by decide), pn⟩
  have htp := htip hp c
  have hcr0 := fun {P : D → Prop} => hcr hp (P := P)
  have hah0 := fun {x y z : Int} => hah hp (a := x) (b := y) (c := z)
  have hab0 := fun {d : V3} (h : Bd3 6 d) (c : Int) => hab p1 p2 p3 h c
  have i1 : oIx p.D (.int 1) = some p.s.D := rfl
  have i2 : oIx p.D (.int 2) = some p.o.D := rfl
  generalize edp : p.D = dp at htp hab0 i1 i2
  generalize p.s.D = ds at i1 hcr0
  generalize p.o.D = dO at i2 hcr0
  generalize p.n.D = dn at hcr0 hah0
  repeat' ((fail_if_success (with_reducible show R.wp (ftip _) _ _)); wtm_at "y_dy")
  refine htp.no ?_
  intro t ht
  repeat' ((fail_if_success (with_reducible show R.wp (ftri _) _ _)); wtm_at "y_dy")
  refine (htri (by decide) (by decide)).no ?_
  rintro _ ⟨x0, x1, x2, rfl, hx0, hx1, hx2⟩
  have hah1 := hah0 hx0 hx1 hx2
  obtain ⟨d0, ed0, bd0⟩ : ∃ d : V3, t3 x0 x1 x2 = d.D ∧ Bd3 6 d := ⟨⟨x0, x1, x2⟩, rfl, hx0.bd, hx1.bd, hx2.bd⟩
  rw [ed0] at hah1 ⊢
  clear ed0 hx0 hx1 hx2
  repeat' ((fail_if_success (with_reducible show R.wp (fdraw _) _ _)); wtm_at "y_dy")
  refine (hdraw (by decide) (by decide) (by decide) (by decide)).no ?_
  rintro _ ⟨v, rfl, _, _⟩
  have fin : ∀ (d : V3), Bd3 6 d → ∃ b, oEq d.D (.tup [.int 0, .int 0, .int 0]) = some (.bl b) := fun d _ => by
    obtain ⟨z, e, b, rfl⟩ : Got (oEq (t3 d.x d.y d.z) (t3 0 0 0)) fun z => ∃ b, z = .bl b := w_eq3 ⟨_, rfl⟩
    exact ⟨b, e⟩
  repeat' (first | ((fail_if_success (with_reducible show R.wp (fcr _) _ _)); (fail_if_success (with_reducible show Got (oIsN _ _) _)); wtm_at "y_dy") | (with_reducible refine g_ot i1 ?_) | (with_reducible refine g_ot i2 ?_))
  · refine hcr0 ?_
    repeat' ((fail_if_success (with_reducible show R.wp (fah _) _ _)); wtm_at "y_dy")
    refine hah1.no ?_
    rintro _ ⟨d, rfl, bd⟩
    repeat' ((fail_if_success (with_reducible show Got (oIsN _ _) _)); wtm_at "y_dy")
    rcases ht with rfl | ⟨v0, rfl⟩
    · repeat' wtm_at "y_dy"
      rfl
    have hab1 := fun c' : Int => hab0 bd c'
    obtain ⟨bz, ez⟩ := fin d bd
    have hfar1 := fun {P : D → Prop} => hfar (v := d) (P := P)
    repeat' ((fail_if_success (with_reducible show Got (oEq _ _) _)); wtm_at "y_dy")
    refine g_ot ez ?_
    cases bz with
    | true =>
      repeat' wtm_at "y_dy"
      rfl
    | false =>
    repeat' ((fail_if_success (with_reducible show R.wp (ffar _) _ _)); wtm_at "y_dy")
    refine hfar1 fun bf => ?_
    cases bf with
    | true =>
      repeat' wtm_at "y_dy"
      rfl
    | false =>
    repeat' ((fail_if_success (with_reducible show R.wp (fdraw _) _ _)); wtm_at "y_dy")
    refine (hdraw (by decide) (by decide) (by decide) (by decide)).no ?_
    rintro _ ⟨many, rfl, m0, m1⟩
    repeat' ((fail_if_success (with_reducible show SR.wp (forS _ _ _ _) _ _ _)); wtm_at "y_dy")
    rw [← edp]
    refine forS_inv (fun k ρ => ∃ (qs : List Pl) (ts : List D) (w7 w8 : Sl), ρ = [.val sc, .val (.int c), .val p.D, .val v0.D, .val d.D, .own ((p :: qs).map Pl.D), .own (v0.D :: ts), w7, w8, .un, .un] ∧ qs.length = k ∧ ts.length = k ∧ (∀ q ∈ qs, PlOK q) ∧ ∀ t ∈ ts, TipD t) ⟨[], [], _, _, rfl, rfl, rfl, (fun _ h => nomatch h), (fun _ h => nomatch h)⟩ ?_ ?_
    · rintro k _ _ ed ⟨qs, ts, w7, w8, rfl, lq, lt, okqs, oktt⟩
      obtain ⟨rfl, hk⟩ := rangeD_get ed
      have hk3 : k < 3 := by omega
      obtain ⟨K, hK⟩ : ∃ K : Int, (0 : Int) + (k : Int) = K := ⟨_, rfl⟩
      have hK0 : 0 ≤ K ∧ K < 3 := by omega
      rw [hK]
      have bK : Bd 5 K := by unfold Bd; omega
      have hs5 : ((p :: qs).map Pl.D).length < sizeLine := by rw [List.length_map, List.length_cons, sizeLine_eq]; omega
      have hs6 : (v0.D :: ts).length < sizeLine := by rw [List.length_cons, sizeLine_eq]; omega
      repeat' ((fail_if_success (with_reducible show R.wp (fcell _) _ _)); wtm_at "y_dy")
      refine (hcell _ (by omega)).no ?_
      rintro _ ⟨c1, rfl⟩
      repeat' ((fail_if_success (with_reducible show R.wp (fab _) _ _)); wtm_at "y_dy")
      rw [edp]
      refine (hab1 _).no ?_
      rintro _ ⟨q, rfl, hq⟩
      rw [← edp]
      repeat' ((fail_if_success (with_reducible show R.wp (ftip _) _ _)); (fail_if_success (with_reducible show Got (L2.atI _ _) _)); wtm_at "y_dy")
      refine g_ot at_last ?_
      repeat' ((fail_if_success (with_reducible show R.wp (ftip _) _ _)); wtm_at "y_dy")
      refine (htip hq _).no ?_
      intro t' ht'
      repeat' wtm_at "y_dy"
      refine ⟨qs ++ [q], ts ++ [t'], _, _, by rw [← List.cons_append, List.map_append]; rfl, by rw [List.length_append, lq]; rfl, by rw [List.length_append, lt]; rfl, fun x hx => ?_, fun x hx => ?_⟩
      · rcases List.mem_append.mp hx with hx | hx
        · exact okqs x hx
        · rw [List.mem_singleton.mp hx]; exact hq
      · rcases List.mem_append.mp hx with hx | hx
        · exact oktt x hx
        · rw [List.mem_singleton.mp hx]; exact ht'
    · rintro _ ⟨qs, ts, w7, w8, rfl, lq, lt, okqs, oktt⟩
      have lq3 : 1 ≤ qs.length ∧ qs.length ≤ 3 := by
        rw [lq]
        simp only [rangeD, List.length_map, List.length_range]
        omega
      have ltq : ts.length = qs.length := by rw [lq, lt]
      clear lq lt
      rw [edp]
      repeat' (first | ((fail_if_success (with_reducible show R.wp (fcr _) _ _)); wtm_at "y_dy") | (with_reducible refine g_ot i1 ?_) | (with_reducible refine g_ot i2 ?_))
      refine hcr0 ?_
      repeat' ((fail_if_success (with_reducible show R.wp (ftri _) _ _)); wtm_at "y_dy")
      refine (htri (by decide) (by decide)).no ?_
      rintro _ ⟨y0, y1, y2, rfl, hy0, hy1, hy2⟩
      repeat' ((fail_if_success (with_reducible show R.wp (fah _) _ _)); wtm_at "y_dy")
      refine (hah0 hy0 hy1 hy2).no ?_
      rintro _ ⟨e, rfl, be⟩
      have yard : (fy [sunD d e, .lst ((p :: qs).map Pl.D), .lst (v0.D :: ts)]).wp (YardOf (sunD d e) p v0.D qs) NoE := sp_lyard hfy ltq lq3.2 oktt
      have lit : ∀ y, YardOf (sunD d e) p v0.D qs y → ∀ {P : D → Prop}, P (rD (litV p d qs)) → (fl [y, .int 7, .str aS]).wp P NoE := fun y hy {P} h => sp_litY hfl hy sun_7 hp (bd.mono (by decide)) okqs lq3.2 h
      have h0 : (fh [sunD d e, .lst ((p :: qs).map Pl.D), .lst (v0.D :: ts), .int 0]).wp (fun z => z = .bl true) NoE := sp_lhour hfh (i := 0) rfl sun_7 hp (bd.mono (by decide)) okqs lq3.1 lq3.2 ltq oktt
      have h1 : (fh [sunD d e, .lst ((p :: qs).map Pl.D), .lst (v0.D :: ts), .int 1]).wp (fun z => z = .bl true) NoE := sp_lhour hfh (i := 1) rfl sun_9 hp (be.mono (by decide)) okqs lq3.1 lq3.2 ltq oktt
      have es : D.lst [.tup [.int 7, d.D], .tup [.int 9, e.D]] = sunD d e := rfl
      generalize litV p d qs = V at lit
      repeat' ((fail_if_success (with_reducible show Upd _ 9 _ _)); wtm_at "y_dy")
      rw [es]
      generalize YardOf (sunD d e) p v0.D qs = Y at yard lit
      generalize sunD d e = sd at yard h0 h1 ⊢
      generalize d.D = dd
      generalize hA : (p :: qs).map Pl.D = A at yard h0 h1 ⊢
      generalize hB : v0.D :: ts = B at yard h0 h1 ⊢
      repeat' ((fail_if_success (with_reducible show R.wp (fy _) _ _)); wtm_at "y_dy")
      refine yard.no ?_
      intro y hy
      have ly := fun {P : D → Prop} => lit y hy (P := P)
      repeat' ((fail_if_success (with_reducible show R.wp (fl _) _ _)); wtm_at "y_dy")
      refine ly ?_
      repeat' ((fail_if_success (with_reducible show R.wp (fh _) _ _)); wtm_at "y_dy")
      refine h0.no ?_
      rintro _ rfl
      repeat' ((fail_if_success (with_reducible show R.wp (fh _) _ _)); wtm_at "y_dy")
      refine h1.no ?_
      rintro _ rfl
      repeat' ((fail_if_success (with_reducible show R.wp (fy _) _ _)); wtm_at "y_dy")
      refine yard.no ?_
      intro y2 hy2
      have ly2 := fun {P : D → Prop} => lit y2 hy2 (P := P)
      repeat' ((fail_if_success (with_reducible show R.wp (fl _) _ _)); wtm_at "y_dy")
      refine ly2 ?_
      repeat' ((fail_if_success (with_reducible show Got (oEq _ _) _)); wtm_at "y_dy")
      exact w_eqS rfl rfl rfl
  · have bd := bd0
    generalize d0 = d at bd ⊢
    rcases ht with rfl | ⟨v0, rfl⟩
    · repeat' wtm_at "y_dy"
      rfl
    have hab1 := fun c' : Int => hab0 bd c'
    obtain ⟨bz, ez⟩ := fin d bd
    have hfar1 := fun {P : D → Prop} => hfar (v := d) (P := P)
    repeat' ((fail_if_success (with_reducible show Got (oEq _ _) _)); wtm_at "y_dy")
    refine g_ot ez ?_
    cases bz with
    | true =>
      repeat' wtm_at "y_dy"
      rfl
    | false =>
    repeat' ((fail_if_success (with_reducible show R.wp (ffar _) _ _)); wtm_at "y_dy")
    refine hfar1 fun bf => ?_
    cases bf with
    | true =>
      repeat' wtm_at "y_dy"
      rfl
    | false =>
    repeat' ((fail_if_success (with_reducible show R.wp (fdraw _) _ _)); wtm_at "y_dy")
    refine (hdraw (by decide) (by decide) (by decide) (by decide)).no ?_
    rintro _ ⟨many, rfl, m0, m1⟩
    repeat' ((fail_if_success (with_reducible show SR.wp (forS _ _ _ _) _ _ _)); wtm_at "y_dy")
    rw [← edp]
    refine forS_inv (fun k ρ => ∃ (qs : List Pl) (ts : List D) (w7 w8 : Sl), ρ = [.val sc, .val (.int c), .val p.D, .val v0.D, .val d.D, .own ((p :: qs).map Pl.D), .own (v0.D :: ts), w7, w8, .un, .un] ∧ qs.length = k ∧ ts.length = k ∧ (∀ q ∈ qs, PlOK q) ∧ ∀ t ∈ ts, TipD t) ⟨[], [], _, _, rfl, rfl, rfl, (fun _ h => nomatch h), (fun _ h => nomatch h)⟩ ?_ ?_
    · rintro k _ _ ed ⟨qs, ts, w7, w8, rfl, lq, lt, okqs, oktt⟩
      obtain ⟨rfl, hk⟩ := rangeD_get ed
      have hk3 : k < 3 := by omega
      obtain ⟨K, hK⟩ : ∃ K : Int, (0 : Int) + (k : Int) = K := ⟨_, rfl⟩
      have hK0 : 0 ≤ K ∧ K < 3 := by omega
      rw [hK]
      have bK : Bd 5 K := by unfold Bd; omega
      have hs5 : ((p :: qs).map Pl.D).length < sizeLine := by rw [List.length_map, List.length_cons, sizeLine_eq]; omega
      have hs6 : (v0.D :: ts).length < sizeLine := by rw [List.length_cons, sizeLine_eq]; omega
      repeat' ((fail_if_success (with_reducible show R.wp (fcell _) _ _)); wtm_at "y_dy")
      refine (hcell _ (by omega)).no ?_
      rintro _ ⟨c1, rfl⟩
      repeat' ((fail_if_success (with_reducible show R.wp (fab _) _ _)); wtm_at "y_dy")
      rw [edp]
      refine (hab1 _).no ?_
      rintro _ ⟨q, rfl, hq⟩
      rw [← edp]
      repeat' ((fail_if_success (with_reducible show R.wp (ftip _) _ _)); (fail_if_success (with_reducible show Got (L2.atI _ _) _)); wtm_at "y_dy")
      refine g_ot at_last ?_
      repeat' ((fail_if_success (with_reducible show R.wp (ftip _) _ _)); wtm_at "y_dy")
      refine (htip hq _).no ?_
      intro t' ht'
      repeat' wtm_at "y_dy"
      refine ⟨qs ++ [q], ts ++ [t'], _, _, by rw [← List.cons_append, List.map_append]; rfl, by rw [List.length_append, lq]; rfl, by rw [List.length_append, lt]; rfl, fun x hx => ?_, fun x hx => ?_⟩
      · rcases List.mem_append.mp hx with hx | hx
        · exact okqs x hx
        · rw [List.mem_singleton.mp hx]; exact hq
      · rcases List.mem_append.mp hx with hx | hx
        · exact oktt x hx
        · rw [List.mem_singleton.mp hx]; exact ht'
    · rintro _ ⟨qs, ts, w7, w8, rfl, lq, lt, okqs, oktt⟩
      have lq3 : 1 ≤ qs.length ∧ qs.length ≤ 3 := by
        rw [lq]
        simp only [rangeD, List.length_map, List.length_range]
        omega
      have ltq : ts.length = qs.length := by rw [lq, lt]
      clear lq lt
      rw [edp]
      repeat' (first | ((fail_if_success (with_reducible show R.wp (fcr _) _ _)); wtm_at "y_dy") | (with_reducible refine g_ot i1 ?_) | (with_reducible refine g_ot i2 ?_))
      refine hcr0 ?_
      repeat' ((fail_if_success (with_reducible show R.wp (ftri _) _ _)); wtm_at "y_dy")
      refine (htri (by decide) (by decide)).no ?_
      rintro _ ⟨y0, y1, y2, rfl, hy0, hy1, hy2⟩
      repeat' ((fail_if_success (with_reducible show R.wp (fah _) _ _)); wtm_at "y_dy")
      refine (hah0 hy0 hy1 hy2).no ?_
      rintro _ ⟨e, rfl, be⟩
      have yard : (fy [sunD d e, .lst ((p :: qs).map Pl.D), .lst (v0.D :: ts)]).wp (YardOf (sunD d e) p v0.D qs) NoE := sp_lyard hfy ltq lq3.2 oktt
      have lit : ∀ y, YardOf (sunD d e) p v0.D qs y → ∀ {P : D → Prop}, P (rD (litV p d qs)) → (fl [y, .int 7, .str aS]).wp P NoE := fun y hy {P} h => sp_litY hfl hy sun_7 hp (bd.mono (by decide)) okqs lq3.2 h
      have h0 : (fh [sunD d e, .lst ((p :: qs).map Pl.D), .lst (v0.D :: ts), .int 0]).wp (fun z => z = .bl true) NoE := sp_lhour hfh (i := 0) rfl sun_7 hp (bd.mono (by decide)) okqs lq3.1 lq3.2 ltq oktt
      have h1 : (fh [sunD d e, .lst ((p :: qs).map Pl.D), .lst (v0.D :: ts), .int 1]).wp (fun z => z = .bl true) NoE := sp_lhour hfh (i := 1) rfl sun_9 hp (be.mono (by decide)) okqs lq3.1 lq3.2 ltq oktt
      have es : D.lst [.tup [.int 7, d.D], .tup [.int 9, e.D]] = sunD d e := rfl
      generalize litV p d qs = V at lit
      repeat' ((fail_if_success (with_reducible show Upd _ 9 _ _)); wtm_at "y_dy")
      rw [es]
      generalize YardOf (sunD d e) p v0.D qs = Y at yard lit
      generalize sunD d e = sd at yard h0 h1 ⊢
      generalize d.D = dd
      generalize hA : (p :: qs).map Pl.D = A at yard h0 h1 ⊢
      generalize hB : v0.D :: ts = B at yard h0 h1 ⊢
      repeat' ((fail_if_success (with_reducible show R.wp (fy _) _ _)); wtm_at "y_dy")
      refine yard.no ?_
      intro y hy
      have ly := fun {P : D → Prop} => lit y hy (P := P)
      repeat' ((fail_if_success (with_reducible show R.wp (fl _) _ _)); wtm_at "y_dy")
      refine ly ?_
      repeat' ((fail_if_success (with_reducible show R.wp (fh _) _ _)); wtm_at "y_dy")
      refine h0.no ?_
      rintro _ rfl
      repeat' ((fail_if_success (with_reducible show R.wp (fh _) _ _)); wtm_at "y_dy")
      refine h1.no ?_
      rintro _ rfl
      repeat' ((fail_if_success (with_reducible show R.wp (fy _) _ _)); wtm_at "y_dy")
      refine yard.no ?_
      intro y2 hy2
      have ly2 := fun {P : D → Prop} => lit y2 hy2 (P := P)
      repeat' ((fail_if_success (with_reducible show R.wp (fl _) _ _)); wtm_at "y_dy")
      refine ly2 ?_
      repeat' ((fail_if_success (with_reducible show Got (oEq _ _) _)); wtm_at "y_dy")
      exact w_eqS rfl rfl rfl

end Gn
end
theorem PySem.Challenge.cw_dialyard_k77_whole_lit_by_parts_holds : PySem.Challenge.rw_dialyard_k77_whole_lit_by_parts.Holds :=
  Gn.holds_of Gn.law_true
