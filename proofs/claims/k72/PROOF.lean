import PyProof.Rows.All
import Wide.All
import OpenK.AllK
import Wide.FinOn
import HandS.ForMost
import HandS.ForSpec
import HandS.IsInst
import HandS.Zip
import HandS.Wide
import HandS.Deep
import HandS.Flow
import HandS.Defaults
import HandS.HeadHook2
import HandS.ExcValue
import HandS.ExcInit
import HandS.ExcIs
import HandS.ExcField
import HandS.TryMany
import HandS.TupAny
import HandS.Style
import HandS.Head0
import HandS.Head1
import HandS.Head2
import HandS.HeadEnd
import HandS.Flt
import HandS.ExcOwn
import PyProof.ExcBaseAll.ValueError
import HandS.TryOnly
import PyProof.EqKinds
import PyProof.FactsAll.dict_1
import HandS.FltList
import PyProof.Rows.RuleB_bool
import HandS.EndBits
import PyProof.NeKinds
import KE.GoesComp
import KE.GoesRaise
import KE.DataMinMax
import PyProof.Rows.CallKwBuiltin
import PySem.Challenge.RW_dialyard_k72_boxes_together
set_option Elab.async false
set_option linter.all false
set_option maxRecDepth 100000
/-! A layer of plain data over the hand layer: values without addresses, and what the def's pieces make of them. -/
namespace Dy
open PySem PySem.Spec PyProof.Rows L2

abbrev St := L2.St
/-! ### data -/
inductive D where
  | non | bl (b : Bool) | int (i : Int) | str (x : Str) | ty (n : String) | cls (n : Str)
  | tup (xs : List D) | lst (xs : List D)
  | dct (ks : List Key) (xs : List D)
  | exc (c : Str) (fs : List Str) (xs : List D)
  deriving Inhabited

/-- an exception's object, kept -/
def xO (cls : Value) (a : Addr) (dd : Option Addr) : HO := .ext fun h => ∃ (oe : Obj) (vs : Array Value), h.get? a = some oe ∧ Zc cls dd oe ∧ oe.data = .fields vs

mutual
def Rep (K : PySem.W.Frag) (F : Hp) : D → V → Prop
  | .non, v => v = .non
  | .bl b, v => v = .bl b
  | .int i, v => v = .int i
  | .str x, v => v = .str x
  | .ty n, v => v = .ty n
  | .cls n, v => v = .ref (He.ga K n)
  | .tup xs, v => ∃ a vs, v = .ref a ∧ SqT K F a vs ∧ RepL K F xs vs
  | .lst xs, v => ∃ a vs, v = .ref a ∧ SqL K F a vs ∧ RepL K F xs vs
  | .dct ks xs, v => ∃ a vs, v = .ref a ∧ F a = some (.dK (ks.zip vs)) ∧ ks.length = vs.length ∧ RepL K F xs vs
  | .exc c fs xs, v => ∃ a dd vs, v = .ref a ∧ F a = some (xO (.ref (He.ga K c)) a dd) ∧ fs.length = vs.length ∧ RepL K F xs vs ∧
      (match dd with | none => fs = [] | some d => F d = some (.xd (fs.zip vs)))
def RepL (K : PySem.W.Frag) (F : Hp) : List D → List V → Prop
  | [], vs => vs = []
  | d :: ds, vs => ∃ v r, vs = v :: r ∧ Rep K F d v ∧ RepL K F ds r
end

section
variable {K : PySem.W.Frag} {F F' H H' : Hp}
theorem Same.seqT {a : Addr} {xs : List V} (e : Same H H') (h : SqT K H a xs) : SqT K H' a xs := by
  rcases h with (h | ⟨o, h⟩) | h
  · exact .inl (.inl (e _ _ h))
  · exact .inl (.inr ⟨o, e _ _ h⟩)
  · exact .inr h
mutual
theorem Rep.mono (e : Same F F') : ∀ (d : D) (v : V), Rep K F d v → Rep K F' d v
  | .non, v, h => by simpa [Rep] using h
  | .bl b, v, h => by simpa [Rep] using h
  | .int i, v, h => by simpa [Rep] using h
  | .str x, v, h => by simpa [Rep] using h
  | .ty n, v, h => by simpa [Rep] using h
  | .cls n, v, h => by simpa [Rep] using h
  | .tup xs, v, h => by
    simp only [Rep] at h ⊢
    obtain ⟨a, vs, h1, h2, h3⟩ := h
    exact ⟨a, vs, h1, Same.seqT e h2, RepL.mono e xs vs h3⟩
  | .lst xs, v, h => by
    simp only [Rep] at h ⊢
    obtain ⟨a, vs, h1, h2, h3⟩ := h
    exact ⟨a, vs, h1, Same.seq e h2, RepL.mono e xs vs h3⟩
  | .dct ks xs, v, h => by
    simp only [Rep] at h ⊢
    obtain ⟨a, vs, h1, h2, h3, h4⟩ := h
    exact ⟨a, vs, h1, e _ _ h2, h3, RepL.mono e xs vs h4⟩
  | .exc c fs xs, v, h => by
    simp only [Rep] at h ⊢
    obtain ⟨a, dd, vs, h1, h2, h3, h4, h5⟩ := h
    refine ⟨a, dd, vs, h1, e _ _ h2, h3, RepL.mono e xs vs h4, ?_⟩
    cases dd with
    | none => exact h5
    | some d => exact e _ _ h5
theorem RepL.mono (e : Same F F') : ∀ (ds : List D) (vs : List V), RepL K F ds vs → RepL K F' ds vs
  | [], vs, h => by simpa [RepL] using h
  | d :: ds, vs, h => by
    simp only [RepL] at h ⊢
    obtain ⟨v, r, h1, h2, h3⟩ := h
    exact ⟨v, r, h1, Rep.mono e d v h2, RepL.mono e ds r h3⟩
end
theorem RepL.length : ∀ {ds : List D} {vs : List V}, RepL K F ds vs → ds.length = vs.length
  | [], vs, h => by simp only [RepL] at h; subst h; rfl
  | d :: ds, vs, h => by
    simp only [RepL] at h
    obtain ⟨v, r, rfl, _, h3⟩ := h
    simp [RepL.length h3]
theorem RepL.get : ∀ {ds : List D} {vs : List V} {i : Nat} {d : D}, RepL K F ds vs → ds[i]? = some d → ∃ v, vs[i]? = some v ∧ Rep K F d v
  | [], vs, i, d, h, e => by simp at e
  | d0 :: ds, vs, 0, d, h, e => by
    simp only [RepL] at h
    obtain ⟨v, r, rfl, h2, _⟩ := h
    simp at e
    subst e
    exact ⟨v, rfl, h2⟩
  | d0 :: ds, vs, i + 1, d, h, e => by
    simp only [RepL] at h
    obtain ⟨v, r, rfl, _, h3⟩ := h
    simp only [List.getElem?_cons_succ] at e ⊢
    exact RepL.get h3 e
theorem RepL.get' {ds : List D} {vs : List V} {i : Nat} {v : V} (h : RepL K F ds vs) (e : vs[i]? = some v) : ∃ d, ds[i]? = some d ∧ Rep K F d v := by
  obtain ⟨hi, _⟩ := List.getElem?_eq_some_iff.mp e
  have hi2 : i < ds.length := by rw [h.length]; exact hi
  obtain ⟨v', e', r⟩ := h.get (List.getElem?_eq_getElem hi2)
  rw [e] at e'
  cases e'
  exact ⟨_, List.getElem?_eq_getElem hi2, r⟩
theorem RepL.nil : RepL K F [] [] := by simp [RepL]
theorem RepL.cons {d : D} {v : V} {ds : List D} {vs : List V} (h : Rep K F d v) (t : RepL K F ds vs) : RepL K F (d :: ds) (v :: vs) := by
  simp only [RepL]; exact ⟨v, vs, rfl, h, t⟩
theorem RepL.append : ∀ {ds es : List D} {vs ws : List V}, RepL K F ds vs → RepL K F es ws → RepL K F (ds ++ es) (vs ++ ws)
  | [], es, vs, ws, h, t => by simp only [RepL] at h; subst h; simpa using t
  | d :: ds, es, vs, ws, h, t => by
    simp only [RepL] at h
    obtain ⟨v, r, rfl, h2, h3⟩ := h
    exact RepL.cons h2 (RepL.append h3 t)
theorem RepL.drop : ∀ {ds : List D} {vs : List V} (n : Nat), RepL K F ds vs → RepL K F (ds.drop n) (vs.drop n)
  | ds, vs, 0, h => by simpa using h
  | [], vs, n + 1, h => by simp only [RepL] at h; subst h; simpa using RepL.nil
  | d :: ds, vs, n + 1, h => by
    simp only [RepL] at h
    obtain ⟨v, r, rfl, _, h3⟩ := h
    simpa using RepL.drop n h3
theorem RepL.take : ∀ {ds : List D} {vs : List V} (n : Nat), RepL K F ds vs → RepL K F (ds.take n) (vs.take n)
  | ds, vs, 0, h => by simpa using RepL.nil
  | [], vs, n + 1, h => by simp only [RepL] at h; subst h; simpa using RepL.nil
  | d :: ds, vs, n + 1, h => by
    simp only [RepL] at h
    obtain ⟨v, r, rfl, h2, h3⟩ := h
    simpa using RepL.cons h2 (RepL.take n h3)
theorem RepL.reverse : ∀ {ds : List D} {vs : List V}, RepL K F ds vs → RepL K F ds.reverse vs.reverse
  | [], vs, h => by simp only [RepL] at h; subst h; simpa using RepL.nil
  | d :: ds, vs, h => by
    simp only [RepL] at h
    obtain ⟨v, r, rfl, h2, h3⟩ := h
    simpa using RepL.append (RepL.reverse h3) (RepL.cons h2 RepL.nil)
theorem RepL.set {d : D} {v : V} (h : Rep K F d v) : ∀ {ds : List D} {vs : List V} (i : Nat), RepL K F ds vs → RepL K F (ds.set i d) (vs.set i v)
  | [], vs, i, t => by simp only [RepL] at t; subst t; simpa using RepL.nil
  | e :: ds, vs, 0, t => by
    simp only [RepL] at t
    obtain ⟨w, r, rfl, _, h3⟩ := t
    exact RepL.cons h h3
  | e :: ds, vs, i + 1, t => by
    simp only [RepL] at t
    obtain ⟨w, r, rfl, h2, h3⟩ := t
    exact RepL.cons h2 (RepL.set h i h3)
theorem RepL.snoc {ds : List D} {vs : List V} {d : D} {v : V} (h : RepL K F ds vs) (t : Rep K F d v) : RepL K F (ds ++ [d]) (vs ++ [v]) := h.append (RepL.cons t RepL.nil)

theorem Rep.int_inv {i : Int} {v : V} (h : Rep K F (.int i) v) : v = .int i := by simpa [Rep] using h
theorem Rep.bl_inv {i : Bool} {v : V} (h : Rep K F (.bl i) v) : v = .bl i := by simpa [Rep] using h
theorem Rep.str_inv {i : Str} {v : V} (h : Rep K F (.str i) v) : v = .str i := by simpa [Rep] using h
theorem Rep.non_inv {v : V} (h : Rep K F .non v) : v = .non := by simpa [Rep] using h
theorem Rep.mk_int {i : Int} : Rep K F (.int i) (.int i) := by simp [Rep]
theorem Rep.mk_bl {i : Bool} : Rep K F (.bl i) (.bl i) := by simp [Rep]
theorem Rep.mk_str {i : Str} : Rep K F (.str i) (.str i) := by simp [Rep]
theorem Rep.mk_non : Rep K F .non .non := by simp [Rep]
theorem Rep.mk_ty {n : String} : Rep K F (.ty n) (.ty n) := by simp [Rep]
theorem Rep.tup_inv {xs : List D} {v : V} (h : Rep K F (.tup xs) v) : ∃ a vs, v = .ref a ∧ SqT K F a vs ∧ RepL K F xs vs := by simpa [Rep] using h
theorem Rep.lst_inv {xs : List D} {v : V} (h : Rep K F (.lst xs) v) : ∃ a vs, v = .ref a ∧ SqL K F a vs ∧ RepL K F xs vs := by simpa [Rep] using h
theorem Rep.mk_tup {xs : List D} {a : Addr} {vs : List V} (h : SqT K F a vs) (t : RepL K F xs vs) : Rep K F (.tup xs) (.ref a) := by
  simp only [Rep]; exact ⟨a, vs, rfl, h, t⟩
theorem Rep.mk_lst {xs : List D} {a : Addr} {vs : List V} (h : SqL K F a vs) (t : RepL K F xs vs) : Rep K F (.lst xs) (.ref a) := by
  simp only [Rep]; exact ⟨a, vs, rfl, h, t⟩
end

/-! ### how the heap grows -/
structure Ext (F H F' H' : Hp) : Prop where
  f : Same F F'
  h : Same H H'
  s : Same F' H'
  n : ∀ a o, F' a = some o → F a = none → H a = none
section
variable {F H F' H' F'' H'' : Hp}
theorem Ext.refl (e : Same F H) : Ext F H F H := ⟨.refl _, .refl _, e, fun a o h1 h2 => by rw [h2] at h1; cases h1⟩
theorem Ext.trans (a : Ext F H F' H') (b : Ext F' H' F'' H'') : Ext F H F'' H'' := by
  refine ⟨a.f.trans b.f, a.h.trans b.h, b.s, fun c o h1 h2 => ?_⟩
  cases q : F' c with
  | none => exact a.h.free (b.n c o h1 q)
  | some u => exact a.n c u q h2
theorem same_upd {p : Addr} {o : HO} (h : H p = none) : Same H (upd H p o) := fun b x e => by
  rw [upd_ne (ne_of_none e h)]
  exact e
/-- a new object, kept -/
theorem Ext.new {p : Addr} {o : HO} (e : Same F H) (h : H p = none) : Ext F H (upd F p o) (upd H p o) := by
  have hf : F p = none := e.free h
  refine ⟨same_upd hf, same_upd h, fun b x q => ?_, fun b x q r => ?_⟩
  · by_cases hb : b = p
    · subst hb; rw [upd_same] at q ⊢; exact q
    · rw [upd_ne hb] at q ⊢; exact e _ _ q
  · by_cases hb : b = p
    · subst hb; exact h
    · rw [upd_ne hb, r] at q; cases q
/-- a new object, not kept -/
theorem Ext.newH {p : Addr} {o : HO} (e : Same F H) (h : H p = none) : Ext F H F (upd H p o) :=
  ⟨.refl _, same_upd h, e.trans (same_upd h), fun b x q r => by rw [r] at q; cases q⟩
end

/-! ### things of one's own: lists that nothing else knows, and tuples with such in them -/
inductive O where
  | v (d : D) | l (os : List O) | t (os : List O)
  deriving Inhabited
mutual
def O.toD : O → D
  | .v d => d
  | .l os => .lst (O.toDs os)
  | .t os => .tup (O.toDs os)
def O.toDs : List O → List D
  | [] => []
  | o :: os => O.toD o :: O.toDs os
end
mutual
def OwR (K : PySem.W.Frag) (F H : Hp) : O → V → List Addr → Prop
  | .v d, v, fp => Rep K F d v ∧ fp = []
  | .l os, v, fp => ∃ a vs fq, v = .ref a ∧ H a = some (.lst vs) ∧ fp = a :: fq ∧ OwRs K F H os vs fq
  | .t os, v, fp => ∃ a vs, v = .ref a ∧ F a = some (.tup vs) ∧ OwRs K F H os vs fp
def OwRs (K : PySem.W.Frag) (F H : Hp) : List O → List V → List Addr → Prop
  | [], vs, fp => vs = [] ∧ fp = []
  | o :: os, vs, fp => ∃ v r f1 f2, vs = v :: r ∧ fp = f1 ++ f2 ∧ OwR K F H o v f1 ∧ OwRs K F H os r f2
end
section
variable {K : PySem.W.Frag} {F F' H H' : Hp}
mutual
theorem OwR.move (s : Same F F') : ∀ (o : O) (v : V) (fp : List Addr), OwR K F H o v fp → (∀ b ∈ fp, H' b = H b) → OwR K F' H' o v fp
  | .v d, v, fp, h, _ => by
    simp only [OwR] at h ⊢
    exact ⟨Rep.mono s _ _ h.1, h.2⟩
  | .l os, v, fp, h, k => by
    simp only [OwR] at h ⊢
    obtain ⟨a, vs, fq, h1, h2, h3, h4⟩ := h
    subst h3
    exact ⟨a, vs, fq, h1, by rw [k a List.mem_cons_self]; exact h2, rfl, OwRs.move s os vs fq h4 fun b hb => k b (List.mem_cons_of_mem _ hb)⟩
  | .t os, v, fp, h, k => by
    simp only [OwR] at h ⊢
    obtain ⟨a, vs, h1, h2, h4⟩ := h
    exact ⟨a, vs, h1, s _ _ h2, OwRs.move s os vs fp h4 k⟩
theorem OwRs.move (s : Same F F') : ∀ (os : List O) (vs : List V) (fp : List Addr), OwRs K F H os vs fp → (∀ b ∈ fp, H' b = H b) → OwRs K F' H' os vs fp
  | [], vs, fp, h, _ => by simpa only [OwRs] using h
  | o :: os, vs, fp, h, k => by
    simp only [OwRs] at h ⊢
    obtain ⟨v, r, f1, f2, h1, h2, h3, h4⟩ := h
    subst h2
    exact ⟨v, r, f1, f2, h1, rfl, OwR.move s o v f1 h3 fun b hb => k b (List.mem_append_left _ hb), OwRs.move s os r f2 h4 fun b hb => k b (List.mem_append_right _ hb)⟩
end
mutual
theorem OwR.uniq : ∀ (o : O) (v : V) (fp fp' : List Addr), OwR K F H o v fp → OwR K F H o v fp' → fp = fp'
  | .v d, v, fp, fp', h, h' => by
    simp only [OwR] at h h'
    rw [h.2, h'.2]
  | .l os, v, fp, fp', h, h' => by
    simp only [OwR] at h h'
    obtain ⟨a, vs, fq, h1, h2, h3, h4⟩ := h
    obtain ⟨a', vs', fq', h1', h2', h3', h4'⟩ := h'
    rw [h1] at h1'
    cases h1'
    rw [h2] at h2'
    cases h2'
    rw [h3, h3', OwRs.uniq os vs fq fq' h4 h4']
  | .t os, v, fp, fp', h, h' => by
    simp only [OwR] at h h'
    obtain ⟨a, vs, h1, h2, h4⟩ := h
    obtain ⟨a', vs', h1', h2', h4'⟩ := h'
    rw [h1] at h1'
    cases h1'
    rw [h2] at h2'
    cases h2'
    exact OwRs.uniq os vs fp fp' h4 h4'
theorem OwRs.uniq : ∀ (os : List O) (vs : List V) (fp fp' : List Addr), OwRs K F H os vs fp → OwRs K F H os vs fp' → fp = fp'
  | [], vs, fp, fp', h, h' => by
    simp only [OwRs] at h h'
    rw [h.2, h'.2]
  | o :: os, vs, fp, fp', h, h' => by
    simp only [OwRs] at h h'
    obtain ⟨v, r, f1, f2, h1, h2, h3, h4⟩ := h
    obtain ⟨v', r', f1', f2', h1', h2', h3', h4'⟩ := h'
    rw [h1] at h1'
    cases h1'
    rw [h2, h2', OwR.uniq o v f1 f1' h3 h3', OwRs.uniq os r f2 f2' h4 h4']
end
mutual
theorem OwR.inH : ∀ (o : O) (v : V) (fp : List Addr), OwR K F H o v fp → ∀ a ∈ fp, ∃ vs, H a = some (.lst vs)
  | .v d, v, fp, h, a, ha => by
    simp only [OwR] at h
    rw [h.2] at ha
    cases ha
  | .l os, v, fp, h, a, ha => by
    simp only [OwR] at h
    obtain ⟨a', vs, fq, h1, h2, h3, h4⟩ := h
    subst h3
    rcases List.mem_cons.mp ha with rfl | ha
    · exact ⟨vs, h2⟩
    · exact OwRs.inH os vs fq h4 a ha
  | .t os, v, fp, h, a, ha => by
    simp only [OwR] at h
    obtain ⟨a', vs, h1, h2, h4⟩ := h
    exact OwRs.inH os vs fp h4 a ha
theorem OwRs.inH : ∀ (os : List O) (vs : List V) (fp : List Addr), OwRs K F H os vs fp → ∀ a ∈ fp, ∃ vs, H a = some (.lst vs)
  | [], vs, fp, h, a, ha => by
    simp only [OwRs] at h
    rw [h.2] at ha
    cases ha
  | o :: os, vs, fp, h, a, ha => by
    simp only [OwRs] at h
    obtain ⟨v, r, f1, f2, h1, h2, h3, h4⟩ := h
    subst h2
    rcases List.mem_append.mp ha with ha | ha
    · exact OwR.inH o v f1 h3 a ha
    · exact OwRs.inH os r f2 h4 a ha
end
open Classical in
/-- the heap of kept things with more kept from another one -/
noncomputable def addF (F H : Hp) (fp : List Addr) : Hp := fun a => if a ∈ fp then H a else F a
theorem addF_in {a : Addr} {fp : List Addr} (h : a ∈ fp) : addF F H fp a = H a := by
  unfold addF
  rw [if_pos h]
theorem addF_out {a : Addr} {fp : List Addr} (h : a ∉ fp) : addF F H fp a = F a := by
  unfold addF
  rw [if_neg h]
theorem addF_same {fp : List Addr} (h : ∀ a ∈ fp, F a = none) : Same F (addF F H fp) := fun a o e => by
  by_cases q : a ∈ fp
  · rw [h a q] at e; cases e
  · rw [addF_out q]; exact e
theorem addF_H {fp : List Addr} (s : Same F H) : Same (addF F H fp) H := fun a o e => by
  by_cases q : a ∈ fp
  · rw [addF_in q] at e; exact e
  · rw [addF_out q] at e; exact s _ _ e
mutual
/-- all of one's own is kept from here on -/
theorem OwR.frz (s : Same F F') : ∀ (o : O) (v : V) (fp : List Addr), OwR K F H o v fp → (∀ a ∈ fp, F' a = H a) → Rep K F' o.toD v
  | .v d, v, fp, h, _ => by
    simp only [OwR] at h
    simp only [O.toD]
    exact Rep.mono s _ _ h.1
  | .l os, v, fp, h, k => by
    simp only [OwR] at h
    simp only [O.toD]
    obtain ⟨a, vs, fq, h1, h2, h3, h4⟩ := h
    subst h3
    subst h1
    exact Rep.mk_lst (.of (by rw [k a List.mem_cons_self]; exact h2)) (OwRs.frz s os vs fq h4 fun b hb => k b (List.mem_cons_of_mem _ hb))
  | .t os, v, fp, h, k => by
    simp only [OwR] at h
    simp only [O.toD]
    obtain ⟨a, vs, h1, h2, h4⟩ := h
    subst h1
    exact Rep.mk_tup (.of (s _ _ h2)) (OwRs.frz s os vs fp h4 k)
theorem OwRs.frz (s : Same F F') : ∀ (os : List O) (vs : List V) (fp : List Addr), OwRs K F H os vs fp → (∀ a ∈ fp, F' a = H a) → RepL K F' (O.toDs os) vs
  | [], vs, fp, h, _ => by
    simp only [OwRs] at h
    simp only [O.toDs, RepL]
    exact h.1
  | o :: os, vs, fp, h, k => by
    simp only [OwRs] at h
    simp only [O.toDs]
    obtain ⟨v, r, f1, f2, h1, h2, h3, h4⟩ := h
    subst h2
    subst h1
    exact RepL.cons (OwR.frz s o v f1 h3 fun b hb => k b (List.mem_append_left _ hb)) (OwRs.frz s os r f2 h4 fun b hb => k b (List.mem_append_right _ hb))
end
end

/-! ### slots -/
inductive Sl where
  | un | val (d : D) | own (ds : List D) | ownD (ks : List Key) (ds : List D) | tree (o : O) | pin (w : V) (o : O)
instance : Inhabited Sl := ⟨.un⟩
abbrev REnv := List Sl

def SlOk (K : PySem.W.Frag) (G F H : Hp) : Sl → Option V → Prop
  | .un, _ => True
  | .val d, x => ∃ v, x = some v ∧ Rep K F d v
  | .own ds, x => ∃ a vs, x = some (.ref a) ∧ H a = some (.lst vs) ∧ RepL K F ds vs ∧ F a = none ∧ G a = none
  | .ownD ks ds, x => ∃ a vs, x = some (.ref a) ∧ H a = some (.dK (ks.zip vs)) ∧ ks.length = vs.length ∧ RepL K F ds vs ∧ F a = none ∧ G a = none
  | .tree o, x => ∃ v fp, x = some v ∧ OwR K F H o v fp ∧ fp.Nodup ∧ ∀ a ∈ fp, F a = none ∧ G a = none
  | .pin w o, x => x = some w ∧ ∃ v fp, x = some v ∧ OwR K F H o v fp ∧ fp.Nodup ∧ ∀ a ∈ fp, F a = none ∧ G a = none
/-- what a slot has of its own -/
def Owned (K : PySem.W.Frag) (F H : Hp) : Sl → Option V → Addr → Prop
  | .own _, x, a => x = some (.ref a)
  | .ownD _ _, x, a => x = some (.ref a)
  | .tree o, x, a => ∃ v fp, x = some v ∧ OwR K F H o v fp ∧ a ∈ fp
  | .pin _ o, x, a => ∃ v fp, x = some v ∧ OwR K F H o v fp ∧ a ∈ fp
  | _, _, _ => False

structure RepE (K : PySem.W.Frag) (G F H : Hp) (σ : St) (ρ : REnv) : Prop where
  g : Same G H
  f : Same F H
  len : ρ.length = σ.length
  at_ : ∀ (i : Nat) (s : Sl) (x : Option V), ρ[i]? = some s → σ[i]? = some x → SlOk K G F H s x
  ap : ∀ (i j : Nat) (s t : Sl) (x y : Option V) (a : Addr), i ≠ j → ρ[i]? = some s → ρ[j]? = some t → σ[i]? = some x → σ[j]? = some y → Owned K F H s x a → Owned K F H t y a → False

/-- new kept objects are younger than G -/
def NewG (G F F' : Hp) : Prop := ∀ a o, F' a = some o → F a = none → G a = none

section
variable {K : PySem.W.Frag} {G F H F' H' : Hp} {σ : St} {ρ : REnv}
theorem NewG.refl : NewG G F F := fun a o h1 h2 => by rw [h2] at h1; cases h1
theorem NewG.trans {F'' : Hp} (a : NewG G F F') (b : NewG G F' F'') : NewG G F F'' := fun c o h1 h2 => by
  cases q : F' c with
  | none => exact b c o h1 q
  | some u => exact a c u q h2
theorem Ext.newG (e : Ext F H F' H') (g : Same G H) : NewG G F F' := fun a o h1 h2 => g.free (e.n a o h1 h2)
/-- what is one's own is known, and not kept -/
theorem SlOk.own {s : Sl} {x : Option V} (h : SlOk K G F H s x) {a : Addr} (o : Owned K F H s x a) : (∃ u, H a = some u) ∧ F a = none ∧ G a = none := by
  cases s with
  | un => exact o.elim
  | val d => exact o.elim
  | own ds =>
    obtain ⟨b, vs, e1, e2, e3, e4, e5⟩ := h
    have o : x = some (.ref a) := o
    rw [e1] at o
    cases o
    exact ⟨⟨_, e2⟩, e4, e5⟩
  | ownD ks ds =>
    obtain ⟨b, vs, e1, e2, e3, e6, e4, e5⟩ := h
    have o : x = some (.ref a) := o
    rw [e1] at o
    cases o
    exact ⟨⟨_, e2⟩, e4, e5⟩
  | tree q =>
    obtain ⟨v, fp, e1, e2, e3, e4⟩ := h
    obtain ⟨v', fp', e1', e2', e3'⟩ := o
    rw [e1] at e1'
    cases e1'
    rw [OwR.uniq q v fp' fp e2' e2] at e3'
    obtain ⟨vs, hv⟩ := OwR.inH q v fp e2 a e3'
    exact ⟨⟨_, hv⟩, e4 a e3'⟩
  | pin w q =>
    obtain ⟨_, v, fp, e1, e2, e3, e4⟩ := h
    obtain ⟨v', fp', e1', e2', e3'⟩ := o
    rw [e1] at e1'
    cases e1'
    rw [OwR.uniq q v fp' fp e2' e2] at e3'
    obtain ⟨vs, hv⟩ := OwR.inH q v fp e2 a e3'
    exact ⟨⟨_, hv⟩, e4 a e3'⟩
theorem SlOk.move {s : Sl} {x : Option V} (h : SlOk K G F H s x) (m : Same F F') (k : ∀ b, Owned K F H s x b → H' b = H b ∧ F' b = none) : SlOk K G F' H' s x ∧ ∀ a, Owned K F' H' s x a → Owned K F H s x a := by
  cases s with
  | un => exact ⟨trivial, fun a o => o.elim⟩
  | val d =>
    obtain ⟨v, e1, e2⟩ := h
    exact ⟨⟨v, e1, Rep.mono m _ _ e2⟩, fun a o => o.elim⟩
  | own ds =>
    obtain ⟨a, vs, e1, e2, e3, e4, e5⟩ := h
    obtain ⟨k1, k2⟩ := k a e1
    exact ⟨⟨a, vs, e1, by rw [k1]; exact e2, RepL.mono m _ _ e3, k2, e5⟩, fun a o => o⟩
  | ownD ks ds =>
    obtain ⟨a, vs, e1, e2, e3, e6, e4, e5⟩ := h
    obtain ⟨k1, k2⟩ := k a e1
    exact ⟨⟨a, vs, e1, by rw [k1]; exact e2, e3, RepL.mono m _ _ e6, k2, e5⟩, fun a o => o⟩
  | tree q =>
    obtain ⟨v, fp, e1, e2, e3, e4⟩ := h
    have kk : ∀ b ∈ fp, H' b = H b ∧ F' b = none := fun b hb => k b ⟨v, fp, e1, e2, hb⟩
    have e2' := OwR.move m q v fp e2 fun b hb => (kk b hb).1
    refine ⟨⟨v, fp, e1, e2', e3, fun b hb => ⟨(kk b hb).2, (e4 b hb).2⟩⟩, fun a o => ?_⟩
    obtain ⟨v', fp', o1, o2, o3⟩ := o
    rw [e1] at o1
    cases o1
    rw [OwR.uniq q v fp' fp o2 e2'] at o3
    exact ⟨v, fp, e1, e2, o3⟩
  | pin w q =>
    obtain ⟨e0, v, fp, e1, e2, e3, e4⟩ := h
    have kk : ∀ b ∈ fp, H' b = H b ∧ F' b = none := fun b hb => k b ⟨v, fp, e1, e2, hb⟩
    have e2' := OwR.move m q v fp e2 fun b hb => (kk b hb).1
    refine ⟨⟨e0, v, fp, e1, e2', e3, fun b hb => ⟨(kk b hb).2, (e4 b hb).2⟩⟩, fun a o => ?_⟩
    obtain ⟨v', fp', o1, o2, o3⟩ := o
    rw [e1] at o1
    cases o1
    rw [OwR.uniq q v fp' fp o2 e2'] at o3
    exact ⟨v, fp, e1, e2, o3⟩
/-- all slots as they were -/
theorem RepE.keep (r : RepE K G F H σ ρ) (g : Same G H') (f : Same F' H') (m : Same F F') (k : ∀ (i : Nat) (s : Sl) (x : Option V) (b : Addr), ρ[i]? = some s → σ[i]? = some x → Owned K F H s x b → H' b = H b ∧ F' b = none) : RepE K G F' H' σ ρ :=
  ⟨g, f, r.len, fun i s x h1 h2 => ((r.at_ i s x h1 h2).move m (fun b o => k i s x b h1 h2 o)).1, fun i j s t x y a hij h1 h2 h3 h4 o1 o2 =>
    r.ap i j s t x y a hij h1 h2 h3 h4 (((r.at_ i s x h1 h3).move (F' := F') (H' := H') m (fun b o => k i s x b h1 h3 o)).2 a o1) (((r.at_ j t y h2 h4).move (F' := F') (H' := H') m (fun b o => k j t y b h2 h4 o)).2 a o2)⟩
/-- one slot takes another thing -/
theorem RepE.put (r : RepE K G F H σ ρ) {i : Nat} {s' : Sl} {x' : Option V} (g : Same G H') (f : Same F' H') (m : Same F F')
    (k : ∀ (j : Nat) (s : Sl) (x : Option V) (b : Addr), j ≠ i → ρ[j]? = some s → σ[j]? = some x → Owned K F H s x b → H' b = H b ∧ F' b = none)
    (new : SlOk K G F' H' s' x') (dis : ∀ a, Owned K F' H' s' x' a → ∀ (j : Nat) (s : Sl) (x : Option V), j ≠ i → ρ[j]? = some s → σ[j]? = some x → Owned K F H s x a → False) : RepE K G F' H' (σ.set i x') (ρ.set i s') := by
  have hlen : (ρ.set i s').length = (σ.set i x').length := by simp [r.len]
  have self : ∀ (s : Sl) (x : Option V), (ρ.set i s')[i]? = some s → (σ.set i x')[i]? = some x → s = s' ∧ x = x' := fun s x h1 h2 => by
    have hi : i < ρ.length := by
      obtain ⟨q, _⟩ := List.getElem?_eq_some_iff.mp h1
      simpa using q
    rw [List.getElem?_set_self hi] at h1
    rw [List.getElem?_set_self (by rw [← r.len]; exact hi)] at h2
    cases h1
    cases h2
    exact ⟨rfl, rfl⟩
  have other : ∀ (j : Nat) (s : Sl) (x : Option V), j ≠ i → (ρ.set i s')[j]? = some s → (σ.set i x')[j]? = some x → ρ[j]? = some s ∧ σ[j]? = some x ∧ SlOk K G F' H' s x ∧ ∀ a, Owned K F' H' s x a → Owned K F H s x a := fun j s x hj h1 h2 => by
    rw [List.getElem?_set_ne (fun z => hj z.symm)] at h1 h2
    exact ⟨h1, h2, (r.at_ j s x h1 h2).move m fun b o => k j s x b hj h1 h2 o⟩
  refine ⟨g, f, hlen, fun j s x h1 h2 => ?_, fun j l s t x y a hjl h1 h2 h3 h4 o1 o2 => ?_⟩
  · by_cases hj : j = i
    · subst hj
      obtain ⟨rfl, rfl⟩ := self s x h1 h2
      exact new
    · exact (other j s x hj h1 h2).2.2.1
  · by_cases hj : j = i
    · subst hj
      obtain ⟨rfl, rfl⟩ := self s x h1 h3
      obtain ⟨q1, q2, _, q4⟩ := other l t y (fun z => hjl z.symm) h2 h4
      exact dis a o1 l t y (fun z => hjl z.symm) q1 q2 (q4 a o2)
    · obtain ⟨p1, p2, _, p4⟩ := other j s x hj h1 h3
      by_cases hl : l = i
      · subst hl
        obtain ⟨rfl, rfl⟩ := self t y h2 h4
        exact dis a o2 j s x hj p1 p2 (p4 a o1)
      · obtain ⟨q1, q2, _, q4⟩ := other l t y hl h2 h4
        exact r.ap j l s t x y a hjl p1 q1 p2 q2 (p4 a o1) (q4 a o2)
theorem RepE.ext (r : RepE K G F H σ ρ) (e : Ext F H F' H') : RepE K G F' H' σ ρ := by
  refine r.keep (r.g.trans e.h) e.s e.f fun i s x b h1 h2 o => ?_
  obtain ⟨⟨u, hu⟩, hf, _⟩ := (r.at_ i s x h1 h2).own o
  refine ⟨by rw [hu]; exact e.h _ _ hu, ?_⟩
  cases q : F' b with
  | none => rfl
  | some w =>
    have := e.n b w q hf
    rw [hu] at this
    cases this
/-- a slot takes a kept value -/
theorem RepE.setV (r : RepE K G F H σ ρ) {i : Nat} {d : D} {v : V} (h : Rep K F d v) : RepE K G F H (σ.set i (some v)) (ρ.set i (.val d)) :=
  r.put r.g r.f (.refl _) (fun j s x b _ h1 h2 o => ⟨rfl, ((r.at_ j s x h1 h2).own o).2.1⟩) ⟨v, rfl, h⟩ fun a o => o.elim
/-- a slot is forgotten -/
theorem RepE.unset (r : RepE K G F H σ ρ) {i : Nat} {x : Option V} : RepE K G F H (σ.set i x) (ρ.set i .un) :=
  r.put r.g r.f (.refl _) (fun j s x b _ h1 h2 o => ⟨rfl, ((r.at_ j s x h1 h2).own o).2.1⟩) trivial fun a o => o.elim
/-- a slot takes a new list of its own -/
theorem RepE.setO (r : RepE K G F H σ ρ) {i : Nat} {ds : List D} {a : Addr} {vs : List V} (h : RepL K F ds vs) (ha : H a = none) : RepE K G F (upd H a (.lst vs)) (σ.set i (some (.ref a))) (ρ.set i (.own ds)) := by
  have hf : F a = none := r.f.free ha
  have hg : G a = none := r.g.free ha
  have nab : ∀ (j : Nat) (s : Sl) (x : Option V) (b : Addr), ρ[j]? = some s → σ[j]? = some x → Owned K F H s x b → b ≠ a := fun j s x b h1 h2 o e => by
    obtain ⟨⟨u, hu⟩, _⟩ := (r.at_ j s x h1 h2).own o
    rw [e, ha] at hu
    cases hu
  refine r.put (fun b o q => ?_) (fun b o q => ?_) (.refl _) (fun j s x b _ h1 h2 o => ⟨upd_ne (nab j s x b h1 h2 o), ((r.at_ j s x h1 h2).own o).2.1⟩) ⟨a, vs, rfl, upd_same, h, hf, hg⟩ fun b o j s x _ h1 h2 o2 => ?_
  · rw [upd_ne (ne_of_none q hg)]; exact r.g _ _ q
  · rw [upd_ne (ne_of_none q hf)]; exact r.f _ _ q
  · have o : some (V.ref a) = some (.ref b) := o
    cases o
    exact nab j s x a h1 h2 o2 rfl
/-- a slot takes something of its own -/
theorem RepE.setT (r : RepE K G F H σ ρ) (ex : Ext F H F' H') {i : Nat} {o : O} {v : V} {fp : List Addr} (h : OwR K F' H' o v fp) (nd : fp.Nodup) (hn : ∀ a ∈ fp, H a = none ∧ F' a = none) : RepE K G F' H' (σ.set i (some v)) (ρ.set i (.tree o)) := by
  have r2 : RepE K G F' H' σ ρ := r.ext ex
  refine r2.put r2.g r2.f (.refl _) (fun j s x b _ h1 h2 o => ⟨rfl, ((r2.at_ j s x h1 h2).own o).2.1⟩) ⟨v, fp, rfl, h, nd, fun a ha => ⟨(hn a ha).2, r.g.free (hn a ha).1⟩⟩ fun b o' j s x _ h1 h2 o2 => ?_
  obtain ⟨v', fp', e1, e2, e3⟩ := o'
  cases e1
  rw [OwR.uniq o v fp' fp e2 h] at e3
  have q := ((r.at_ j s x h1 h2).move ex.f (F' := F') (H' := H') fun b o => by
    obtain ⟨⟨u, hu⟩, hf, _⟩ := (r.at_ j s x h1 h2).own o
    refine ⟨by rw [hu]; exact ex.h _ _ hu, ?_⟩
    cases q : F' b with
    | none => rfl
    | some w =>
      have := ex.n b w q hf
      rw [hu] at this
      cases this).2 b o2
  obtain ⟨⟨u, hu⟩, _⟩ := (r.at_ j s x h1 h2).own q
  rw [(hn b e3).1] at hu
  cases hu
/-- the list of one's own at slot i turns -/
theorem RepE.turnO (r : RepE K G F H σ ρ) {i : Nat} {ds es : List D} {a : Addr} {ws : List V} (hi : ρ[i]? = some (.own ds)) (hs : σ[i]? = some (some (.ref a))) (h : RepL K F es ws) :
    RepE K G F (upd H a (.lst ws)) σ (ρ.set i (.own es)) := by
  obtain ⟨a', vs, e1, e2, e3, hf, hg⟩ := r.at_ i _ _ hi hs
  cases e1
  have es : σ.set i (some (.ref a)) = σ := by
    have hl := (List.getElem?_eq_some_iff.mp hs)
    obtain ⟨hl, he⟩ := hl
    rw [← he]
    exact List.set_getElem_self hl
  have nab : ∀ (j : Nat) (s : Sl) (x : Option V) (b : Addr), j ≠ i → ρ[j]? = some s → σ[j]? = some x → Owned K F H s x b → b ≠ a := fun j s x b hj h1 h2 o e => by
    subst e
    exact r.ap j i s _ x _ b hj h1 hi h2 hs o rfl
  have q := r.put (F' := F) (H' := upd H a (.lst ws)) (i := i) (s' := .own _) (x' := some (.ref a)) (fun b o q => by rw [upd_ne (ne_of_none q hg)]; exact r.g _ _ q) (fun b o q => by rw [upd_ne (ne_of_none q hf)]; exact r.f _ _ q) (.refl _)
    (fun j s x b hj h1 h2 o => ⟨upd_ne (nab j s x b hj h1 h2 o), ((r.at_ j s x h1 h2).own o).2.1⟩) ⟨a, ws, rfl, upd_same, h, hf, hg⟩ fun b o j s x hj h1 h2 o2 => by
      have o : some (V.ref a) = some (.ref b) := o
      cases o
      exact nab j s x a hj h1 h2 o2 rfl
  rw [es] at q
  exact q
/-- what is one's own at slot i turns, in lists of its own -/
theorem RepE.turnT (r : RepE K G F H σ ρ) {i : Nat} {o o' : O} {v : V} {fp : List Addr} (hi : ρ[i]? = some (.tree o)) (hs : σ[i]? = some (some v)) (h : OwR K F H o v fp) (hh : ∀ b, b ∉ fp → H' b = H b) (h' : OwR K F H' o' v fp) :
    RepE K G F H' σ (ρ.set i (.tree o')) := by
  obtain ⟨v', fp', e1, e2, e3, e4⟩ := r.at_ i _ _ hi hs
  cases e1
  rw [OwR.uniq o v fp' fp e2 h] at e3 e4
  have es : σ.set i (some v) = σ := by
    obtain ⟨hl, he⟩ := List.getElem?_eq_some_iff.mp hs
    rw [← he]
    exact List.set_getElem_self hl
  have nab : ∀ (j : Nat) (s : Sl) (x : Option V) (b : Addr), j ≠ i → ρ[j]? = some s → σ[j]? = some x → Owned K F H s x b → b ∉ fp := fun j s x b hj h1 h2 o e =>
    r.ap j i s _ x _ b hj h1 hi h2 hs o ⟨v, fp, rfl, h, e⟩
  have out : ∀ {E : Hp}, (∀ a ∈ fp, E a = none) → ∀ {b : Addr} {u : HO}, E b = some u → b ∉ fp := fun {E} c {b} {u} q z => by rw [c b z] at q; cases q
  have q := r.put (F' := F) (H' := H') (i := i) (s' := .tree o') (x' := some v) (fun b u q => by rw [hh b (out (fun a ha => (e4 a ha).2) q)]; exact r.g _ _ q) (fun b u q => by rw [hh b (out (fun a ha => (e4 a ha).1) q)]; exact r.f _ _ q) (.refl _)
    (fun j s x b hj h1 h2 o => ⟨hh b (nab j s x b hj h1 h2 o), ((r.at_ j s x h1 h2).own o).2.1⟩) ⟨v, fp, rfl, h', e3, e4⟩ fun b o2 j s x hj h1 h2 o3 => by
      obtain ⟨v2, fp2, q1, q2, q3⟩ := o2
      cases q1
      rw [OwR.uniq o' v fp2 fp q2 h'] at q3
      exact nab j s x b hj h1 h2 o3 q3
  rw [es] at q
  exact q
/-- the list of one's own at slot i is kept from here on -/
theorem RepE.freezeE (r : RepE K G F H σ ρ) {i : Nat} {ds : List D} (hi : ρ[i]? = some (.own ds)) :
    ∃ a vs, σ[i]? = some (some (.ref a)) ∧ H a = some (.lst vs) ∧ F a = none ∧ Same F (upd F a (.lst vs)) ∧ NewG G F (upd F a (.lst vs)) ∧ RepE K G (upd F a (.lst vs)) H σ (ρ.set i (.val (.lst ds))) := by
  have hl : i < ρ.length := (List.getElem?_eq_some_iff.mp hi).1
  have hsl : i < σ.length := by rw [← r.len]; exact hl
  have hs0 : σ[i]? = some σ[i] := List.getElem?_eq_getElem hsl
  obtain ⟨a, vs, e1, e2, e3, hf, hg⟩ := r.at_ i _ _ hi hs0
  have hs : σ[i]? = some (some (.ref a)) := by rw [hs0, e1]
  have sm : Same F (upd F a (.lst vs)) := same_upd hf
  have es : σ.set i (some (.ref a)) = σ := by
    rw [← e1]
    exact List.set_getElem_self hsl
  have nab : ∀ (j : Nat) (s : Sl) (x : Option V) (b : Addr), j ≠ i → ρ[j]? = some s → σ[j]? = some x → Owned K F H s x b → b ≠ a := fun j s x b hj h1 h2 o e => by
    subst e
    exact r.ap j i s _ x _ b hj h1 hi h2 hs o rfl
  refine ⟨a, vs, hs, e2, hf, sm, fun b o q z => ?_, ?_⟩
  · by_cases hb : b = a
    · subst hb; exact hg
    · rw [upd_ne hb, z] at q; cases q
  have q := r.put (F' := upd F a (.lst vs)) (H' := H) (i := i) (s' := .val (.lst ds)) (x' := some (.ref a)) r.g (fun b o q => by
      by_cases hb : b = a
      · subst hb; rw [upd_same] at q; rw [← q]; exact e2
      · rw [upd_ne hb] at q; exact r.f _ _ q) sm
    (fun j s x b hj h1 h2 o => ⟨rfl, by rw [upd_ne (nab j s x b hj h1 h2 o)]; exact ((r.at_ j s x h1 h2).own o).2.1⟩) ⟨.ref a, rfl, Rep.mk_lst (.of upd_same) (RepL.mono sm _ _ e3)⟩ fun b o => o.elim
  rw [es] at q
  exact q
theorem RepE.freeze (r : RepE K G F H σ ρ) {i : Nat} {ds : List D} (hi : ρ[i]? = some (.own ds)) :
    ∃ F', Same F F' ∧ NewG G F F' ∧ RepE K G F' H σ (ρ.set i (.val (.lst ds))) := by
  obtain ⟨a, vs, _, _, _, h1, h2, h3⟩ := r.freezeE hi
  exact ⟨_, h1, h2, h3⟩
/-- what is one's own at slot i is kept from here on -/
theorem RepE.freezeT (r : RepE K G F H σ ρ) {i : Nat} {o : O} (hi : ρ[i]? = some (.tree o)) :
    ∃ F', Same F F' ∧ NewG G F F' ∧ RepE K G F' H σ (ρ.set i (.val o.toD)) := by
  have hl : i < ρ.length := (List.getElem?_eq_some_iff.mp hi).1
  have hsl : i < σ.length := by rw [← r.len]; exact hl
  have hs0 : σ[i]? = some σ[i] := List.getElem?_eq_getElem hsl
  obtain ⟨v, fp, e1, e2, e3, e4⟩ := r.at_ i _ _ hi hs0
  have hs : σ[i]? = some (some v) := by rw [hs0, e1]
  have sm : Same F (addF F H fp) := addF_same fun a ha => (e4 a ha).1
  have es : σ.set i (some v) = σ := by
    rw [← e1]
    exact List.set_getElem_self hsl
  have nab : ∀ (j : Nat) (s : Sl) (x : Option V) (b : Addr), j ≠ i → ρ[j]? = some s → σ[j]? = some x → Owned K F H s x b → b ∉ fp := fun j s x b hj h1 h2 o' e =>
    r.ap j i s _ x _ b hj h1 hi h2 hs o' ⟨v, fp, rfl, e2, e⟩
  refine ⟨addF F H fp, sm, fun b u q z => ?_, ?_⟩
  · by_cases hb : b ∈ fp
    · exact (e4 b hb).2
    · rw [addF_out hb, z] at q; cases q
  have q := r.put (F' := addF F H fp) (H' := H) (i := i) (s' := .val o.toD) (x' := some v) r.g (addF_H r.f) sm
    (fun j s x b hj h1 h2 o => ⟨rfl, by rw [addF_out (nab j s x b hj h1 h2 o)]; exact ((r.at_ j s x h1 h2).own o).2.1⟩) ⟨v, rfl, OwR.frz sm o v fp e2 fun a ha => addF_in ha⟩ fun b o => o.elim
  rw [es] at q
  exact q
/-- a thing with its place told, without that -/
theorem RepE.pinTree (r : RepE K G F H σ ρ) {i : Nat} {w : V} {o : O} (hi : ρ[i]? = some (.pin w o)) : RepE K G F H σ (ρ.set i (.tree o)) := by
  have hl : i < ρ.length := (List.getElem?_eq_some_iff.mp hi).1
  have hsl : i < σ.length := by rw [← r.len]; exact hl
  have hs0 : σ[i]? = some σ[i] := List.getElem?_eq_getElem hsl
  have q := r.put (F' := F) (H' := H) (i := i) (s' := .tree o) (x' := σ[i]) r.g r.f (.refl _) (fun j s x b _ h1 h2 o => ⟨rfl, ((r.at_ j s x h1 h2).own o).2.1⟩) (r.at_ i _ _ hi hs0).2 fun b ob j s x hj h1 h2 o2 =>
    r.ap j i s _ x _ b hj h1 hi h2 hs0 o2 ob
  rw [List.set_getElem_self hsl] at q
  exact q
theorem RepE.freezeP (r : RepE K G F H σ ρ) {i : Nat} {w : V} {o : O} (hi : ρ[i]? = some (.pin w o)) :
    ∃ F', Same F F' ∧ NewG G F F' ∧ RepE K G F' H σ (ρ.set i (.val o.toD)) := by
  have hl : i < ρ.length := (List.getElem?_eq_some_iff.mp hi).1
  obtain ⟨F', h1, h2, h3⟩ := (r.pinTree hi).freezeT (List.getElem?_set_self hl)
  rw [List.set_set] at h3
  exact ⟨F', h1, h2, h3⟩
end
end Dy

set_option Elab.async false
set_option linter.all false
set_option maxRecDepth 100000
namespace Dy
open PySem PySem.Spec PyProof.Rows L2

/-! ### results -/
inductive R (α : Type) where
  | ok (a : α) | err (e : D) | bad
def R.bind {α β : Type} (x : R α) (f : α → R β) : R β := match x with
  | .ok a => f a
  | .err e => .err e
  | .bad => .bad
def R.opt {α : Type} : Option α → R α
  | some a => .ok a
  | none => .bad

/-- an exception in the air -/
def XD (K : PySem.W.Frag) (F : Hp) (e : D) (cls : Value) (dd : Option Addr) : Prop :=
  ∃ c fs xs vs, e = .exc c fs xs ∧ cls = .ref (He.ga K c) ∧ fs.length = vs.length ∧ RepL K F xs vs ∧ (match dd with | none => fs = [] | some d => F d = some (.xd (fs.zip vs)))
theorem XD.mono {K : PySem.W.Frag} {F F' : Hp} {e : D} {cls : Value} {dd : Option Addr} (s : Same F F') (h : XD K F e cls dd) : XD K F' e cls dd := by
  obtain ⟨c, fs, xs, vs, h1, h2, h3, h4, h5⟩ := h
  refine ⟨c, fs, xs, vs, h1, h2, h3, RepL.mono s _ _ h4, ?_⟩
  cases dd with
  | none => exact h5
  | some d => exact s _ _ h5

/-- what is wanted behind a piece whose result is x -/
def Post {α β : Type} (K : PySem.W.Frag) (W : WX) (rel : Hp → α → β → Prop) (σ : St) (F H : Hp) (x : R α) (Q : β → Hp → Prop) : Prop := match x with
  | .ok a => ∀ v F' H', Ext F H F' H' → rel F' a v → Q v H'
  | .err e => ∀ cls dd F' H', Ext F H F' H' → XD K F' e cls dd → W cls dd σ H'
  | .bad => False
section
variable {α β γ δ : Type} {K : PySem.W.Frag} {W : WX} {rel : Hp → α → β → Prop} {rel2 : Hp → γ → δ → Prop} {σ : St} {F H F' H' : Hp}
theorem Post.ext {x : R α} {Q : β → Hp → Prop} (e : Ext F H F' H') (h : Post K W rel σ F H x Q) : Post K W rel σ F' H' x Q := by
  cases x with
  | ok a => exact fun v F2 H2 e2 r => h v F2 H2 (e.trans e2) r
  | err d => exact fun cls dd F2 H2 e2 r => h cls dd F2 H2 (e.trans e2) r
  | bad => exact h
theorem Post.bind {x : R α} {k : α → R γ} {Q : δ → Hp → Prop} {Q' : β → Hp → Prop} (h : Post K W rel2 σ F H (x.bind k) Q)
    (f : ∀ a v F' H', x = .ok a → Ext F H F' H' → rel F' a v → Post K W rel2 σ F' H' (k a) Q → Q' v H') : Post K W rel σ F H x Q' := by
  cases x with
  | ok a => exact fun v F2 H2 e2 r => f a v F2 H2 rfl e2 r (Post.ext e2 h)
  | err d => exact h
  | bad => exact h
end

/-- the readings: of an expression, a test, arguments -/
def rg {α β : Type} (K : PySem.W.Frag) (W : WX) (rel : Hp → α → β → Prop) (f : REnv → R α) : St → Hp → (β → Hp → Prop) → Prop :=
  fun σ H Q => ∃ G F ρ, RepE K G F H σ ρ ∧ Post K W rel σ F H (f ρ) Q
abbrev rd (K : PySem.W.Frag) (W : WX) (f : REnv → R D) : TE := rg K W (Rep K) f
abbrev rt (K : PySem.W.Frag) (W : WX) (f : REnv → R Bool) : TT := rg K W (fun _ (a b : Bool) => a = b) f
abbrev ra (K : PySem.W.Frag) (W : WX) (f : REnv → R (List D)) : TA := rg K W (RepL K) f
abbrev SE (X : Cx) (W : WX) (e : Expr) (f : REnv → R D) : Prop := PE X e (rd X.K W f)
abbrev ST (X : Cx) (W : WX) (e : Expr) (f : REnv → R Bool) : Prop := PT X e (rt X.K W f)
abbrev SW (X : Cx) (W : WX) (e : Expr) (f : REnv → R Bool) : Prop := PW X e (rt X.K W f)
abbrev SA (X : Cx) (W : WX) (es : List Expr) (f : REnv → R (List D)) : Prop := PA X es (ra X.K W f)

end Dy
namespace L2
open PySem PySem.Spec PyProof.Rows
theorem PE.dy {X : Cx} {e : Expr} {t t' : TE} (h : PE X e t) (i : ∀ σ H Q, t' σ H Q → t σ H Q) : PE X e t' := ⟨fun pins s σ H Q I q => h.run pins s σ H Q I (i _ _ _ q)⟩
theorem PT.dy {X : Cx} {e : Expr} {t t' : TT} (h : PT X e t) (i : ∀ σ H Q, t' σ H Q → t σ H Q) : PT X e t' := ⟨fun pins s σ H Q I q => h.run pins s σ H Q I (i _ _ _ q)⟩
theorem PW.dy {X : Cx} {e : Expr} {t t' : TT} (h : PW X e t) (i : ∀ σ H Q, t' σ H Q → t σ H Q) : PW X e t' := ⟨fun wh pins s σ H Q I q => h.run wh pins s σ H Q I (i _ _ _ q)⟩
theorem PA.dy {X : Cx} {e : List Expr} {t t' : TA} (h : PA X e t) (i : ∀ σ H Q, t' σ H Q → t σ H Q) : PA X e t' := ⟨fun p pins s σ H Q I q => h.run p pins s σ H Q I (i _ _ _ q)⟩
theorem PS.dy {X : Cx} {e : Stmt} {t t' : TS} (h : PS X e t) (i : ∀ D σ H, t' D σ H → t D σ H) : PS X e t' := ⟨fun pins s σ H D I q => h.run pins s σ H D I (i _ _ _ q)⟩
theorem PSs.dy {X : Cx} {e : List Stmt} {t t' : TS} (h : PSs X e t) (i : ∀ D σ H, t' D σ H → t D σ H) : PSs X e t' := ⟨fun pins s σ H D I q => h.run pins s σ H D I (i _ _ _ q)⟩

end L2
namespace Dy
open PySem PySem.Spec PyProof.Rows L2

/-! ### operations by values -/
/-- the rule r does what o says -/
def Op2 (K : PySem.W.Frag) (r : R2) (o : D → D → Option D) : Prop := ∀ F H x y a b d Q, Same F H → Rep K F a x → Rep K F b y → o a b = some d → (∀ v F' H', Ext F H F' H' → Rep K F' d v → Q v H') → r x y H Q
theorem Op2.or {K : PySem.W.Frag} {r r' : R2} {o o' : D → D → Option D} (h : Op2 K r o) (h' : Op2 K r' o') : Op2 K (fun x y H Q => r x y H Q ∨ r' x y H Q) (fun a b => (o a b).or (o' a b)) := by
  intro F H x y a b d Q s ra rb e q
  have e : (o a b).or (o' a b) = some d := e
  cases e1 : o a b with
  | some d' => rw [e1] at e; cases e; exact .inl (h F H x y a b d Q s ra rb e1 q)
  | none => rw [e1] at e; exact .inr (h' F H x y a b d Q s ra rb e q)
/-- a rule over one thing -/
def Op1 (K : PySem.W.Frag) (r : V → Hp → VK → Prop) (o : D → Option D) : Prop := ∀ F H x a d Q, Same F H → Rep K F a x → o a = some d → (∀ v F' H', Ext F H F' H' → Rep K F' d v → Q v H') → r x H Q
/-- a call's rule -/
def OpN (K : PySem.W.Frag) (r : List V → Hp → VK → Prop) (o : List D → Option D) : Prop := ∀ F H xs as d Q, Same F H → RepL K F as xs → o as = some d → (∀ v F' H', Ext F H F' H' → Rep K F' d v → Q v H') → r xs H Q
theorem OpN.or {K : PySem.W.Frag} {r r' : List V → Hp → VK → Prop} {o o' : List D → Option D} (h : OpN K r o) (h' : OpN K r' o') : OpN K (fun x H Q => r x H Q ∨ r' x H Q) (fun a => (o a).or (o' a)) := by
  intro F H x a d Q s ra e q
  have e : (o a).or (o' a) = some d := e
  cases e1 : o a with
  | some d' => rw [e1] at e; cases e; exact .inl (h F H x a d Q s ra e1 q)
  | none => rw [e1] at e; exact .inr (h' F H x a d Q s ra e q)
/-- what asks nothing of the heap -/
theorem now {K : PySem.W.Frag} {F H : Hp} {d : D} {v : V} {Q : VK} (q : ∀ v F' H', Ext F H F' H' → Rep K F' d v → Q v H') (s : Same F H) (r : Rep K F d v) : Q v H := q v F H (.refl s) r
/-- a new object -/
theorem anew {K : PySem.W.Frag} {F H : Hp} {d : D} {o : HO} {Q : VK} (q : ∀ v F' H', Ext F H F' H' → Rep K F' d v → Q v H') (s : Same F H) (r : ∀ p, Same F (upd F p o) → Rep K (upd F p o) d (.ref p)) : ∀ p, H p = none → Q (.ref p) (upd H p o) :=
  fun p hp => q (.ref p) _ _ (Ext.new s hp) (r p (same_upd (s.free hp)))

section
variable {X : Cx} {W : WX} {a b c : Expr} {e : Expr} {es : List Expr} {f g h : REnv → R D} {pos : Pos}

/-! ### names, constants -/
def eVar (i : Nat) : REnv → R D := fun ρ => match ρ[i]? with
  | some (.val d) => .ok d
  | _ => .bad
def eC (d : D) : REnv → R D := fun _ => .ok d
theorem se_var (i : Nat) {x : Str} (hN : X.N[i]? = some x := by rfl) (hv : Vis X.env.scope x := by first | exact Or.inl rfl | exact Or.inr (Or.inl rfl) | exact Or.inr (Or.inr rfl)) (hd : (x == ("__debug__" : Str)) = false := by decide)
    (hcd : (x == ("__classdict__" : Str)) = false := by decide) : SE X W (.Name x pos) (eVar i) := by
  refine (pe_var hN hv hd hcd).dy fun σ H Q ⟨G, F, ρ, r, p⟩ => ?_
  unfold eVar at p
  cases q : ρ[i]? with
  | none => rw [q] at p; exact p.elim
  | some s =>
    rw [q] at p
    cases s with
    | val d =>
      have hi : i < σ.length := by
        rw [← r.len]
        exact (List.getElem?_eq_some_iff.mp q).1
      obtain ⟨v, e1, e2⟩ := r.at_ i _ _ q (List.getElem?_eq_getElem hi)
      exact ⟨v, by rw [List.getElem?_eq_getElem hi, e1], p v F H (.refl r.f) e2⟩
    | un => exact p.elim
    | own ds => exact p.elim
    | ownD ks ds => exact p.elim
    | tree o => exact p.elim
    | pin w o => exact p.elim
theorem se_const {v : V} {d : D} (hp : PE X e (tC v)) (hr : ∀ K F, Rep K F d v) : SE X W e (eC d) :=
  hp.dy fun σ H Q ⟨G, F, ρ, r, p⟩ => p v F H (.refl r.f) (hr _ _)
theorem se_int {i : Int} {j} : SE X W (.Constant (.int i) j pos) (eC (.int i)) := se_const pe_int fun _ _ => Rep.mk_int
theorem se_bl {i : Bool} {j} : SE X W (.Constant (.bool i) j pos) (eC (.bl i)) := se_const pe_bl fun _ _ => Rep.mk_bl
/-- a global: a tuple, a list of the written part -/
theorem se_gref {x : Str} {d : D} (hg : Gl X x) (hm : X.mg x = some (.ref (He.ga X.K x))) (hr : ∀ F, Rep X.K F d (.ref (He.ga X.K x))) (hd : (x == ("__debug__" : Str)) = false := by decide) : SE X W (.Name x pos) (eC d) :=
  (pe_glob hg hm (v := .ref (He.ga X.K x)) rfl hd).dy fun σ H Q ⟨G, F, ρ, r, p⟩ => p _ F H (.refl r.f) (hr _)

/-! ### operators -/
def eBin (o : D → D → Option D) (f g : REnv → R D) : REnv → R D := fun ρ => (f ρ).bind fun a => (g ρ).bind fun b => .opt (o a b)
theorem bin_read {r : R2} {o : D → D → Option D} (ho : Op2 X.K r o) {σ : St} {H : Hp} {Q : VK} (hh : rd X.K W (eBin o f g) σ H Q) : tOp r (rd X.K W f) (rd X.K W g) σ H Q := by
  obtain ⟨G, F, ρ, hr, p⟩ := hh
  refine ⟨G, F, ρ, hr, Post.bind p fun d1 v1 F1 H1 _ e1 r1 p1 => ⟨G, F1, ρ, hr.ext e1, Post.bind p1 fun d2 v2 F2 H2 _ e2 r2 p2 => ?_⟩⟩
  cases q : o d1 d2 with
  | none => rw [q] at p2; exact p2.elim
  | some d => rw [q] at p2; exact ho F2 H2 v1 v2 d1 d2 d Q e2.s (Rep.mono e2.f _ _ r1) r2 q p2
theorem se_op {op : Operator} {r : R2} {o : D → D → Option D} (ho : OpR X (binaryOp op) r ∧ Op2 X.K r o) (ha : SE X W a f) (hb : SE X W b g) : SE X W (.BinOp a op b pos) (eBin o f g) :=
  (pe_op ho.1 ha hb).dy fun _ _ _ hh => bin_read ho.2 hh
theorem se_cmp {op : CmpOp} {r : R2} {o : D → D → Option D} (ho : OpR X (compareOp op) r ∧ Op2 X.K r o) (ha : SE X W a f) (hb : SE X W b g) (hm : behindInMarks op b = false) : SE X W (.Compare a [op] [b] pos) (eBin o f g) :=
  (pe_cmpR ho.1 ha hb hm).dy fun _ _ _ hh => bin_read ho.2 hh
/-- a comparison's answer is a truth -/
def eTest (f : REnv → R D) : REnv → R Bool := fun ρ => (f ρ).bind fun d => match d with
  | .bl b => .ok b
  | _ => .bad
theorem test_read {σ : St} {H : Hp} {t : TE} {f : REnv → R D} (ht : ∀ Q, rd X.K W f σ H Q → t σ H Q) {Q : Bool → Hp → Prop} (hh : rt X.K W (eTest f) σ H Q) : tTest t σ H Q := by
  obtain ⟨G, F, ρ, hr, p⟩ := hh
  refine ht _ ⟨G, F, ρ, hr, Post.bind p fun d v F1 H1 _ e1 r1 p1 => ?_⟩
  cases d with
  | bl k => exact ⟨k, r1.bl_inv, p1 k F1 H1 (.refl e1.s) rfl⟩
  | non => exact p1.elim
  | int i => exact p1.elim
  | str i => exact p1.elim
  | ty i => exact p1.elim
  | cls i => exact p1.elim
  | tup i => exact p1.elim
  | lst i => exact p1.elim
  | dct i j => exact p1.elim
  | exc i j k => exact p1.elim
theorem st_cmp {op : CmpOp} {r : R2} {o : D → D → Option D} (ho : OpR X (compareOp op) r ∧ Op2 X.K r o) (ha : SE X W a f) (hb : SE X W b g) (hm : behindInMarks op b = false) : ST X W (.Compare a [op] [b] pos) (eTest (eBin o f g)) :=
  (pt_cmpR ho.1 ha hb hm).dy fun _ _ _ hh => test_read (fun _ h => bin_read ho.2 h) hh
/-- any expression whose value is a truth -/
theorem st_val (ha : SE X W e f) (he : ∀ whole, isTrue e X.env whole = (do let v ← whole; standAt e.pos; holding [v] (truthy v)) := by intro _; rfl) : ST X W e (eTest f) :=
  (pt_val ha he).dy fun _ _ _ hh => test_read (t := rd X.K W f) (fun _ h => h) hh
/-- a < b < c -/
def goOn (x : R D) : D → R D
  | .bl true => x
  | .bl false => .ok (.bl false)
  | _ => .bad
def eChain (o o' : D → D → Option D) (f g h : REnv → R D) : REnv → R D := fun ρ => (f ρ).bind fun a => (g ρ).bind fun b => (R.opt (o a b)).bind (goOn ((h ρ).bind fun c => .opt (o' b c)))

/-! ### arguments, displays -/
def aNil : REnv → R (List D) := fun _ => .ok []
def aCons (f : REnv → R D) (t : REnv → R (List D)) : REnv → R (List D) := fun ρ => (f ρ).bind fun a => (t ρ).bind fun r => .ok (a :: r)
theorem sa_nil : SA X W [] aNil := pa_nil.dy fun σ H Q ⟨G, F, ρ, r, p⟩ => p [] F H (.refl r.f) RepL.nil
theorem sa_cons {t : REnv → R (List D)} (ha : SE X W e f) (hr : SA X W es t) (hs : starEach (e :: es) X.env = (false, eval e X.env) :: starEach es X.env := by rfl) : SA X W (e :: es) (aCons f t) :=
  (pa_cons ha hr hs).dy fun σ H Q ⟨G, F, ρ, r, p⟩ => ⟨G, F, ρ, r, Post.bind p fun d v F1 H1 _ e1 r1 p1 => ⟨G, F1, ρ, r.ext e1, Post.bind p1 fun ds vs F2 H2 _ e2 r2 p2 => p2 (v :: vs) F2 H2 (.refl e2.s) (RepL.cons (Rep.mono e2.f _ _ r1) r2)⟩⟩
def eTup (t : REnv → R (List D)) : REnv → R D := fun ρ => (t ρ).bind fun ds => if ds.length ≤ sizeLine then .ok (.tup ds) else .bad
def eLst (t : REnv → R (List D)) : REnv → R D := fun ρ => (t ρ).bind fun ds => if ds.length ≤ sizeLine then .ok (.lst ds) else .bad
theorem se_tup {t : REnv → R (List D)} {k} (h : SA X W es t) : SE X W (.Tuple es k pos) (eTup t) :=
  (pe_tup h).dy fun σ H Q ⟨G, F, ρ, r, p⟩ => ⟨G, F, ρ, r, Post.bind p fun ds vs F1 H1 _ e1 r1 p1 => by
    by_cases hl : ds.length ≤ sizeLine
    · rw [if_pos hl] at p1
      exact ⟨by rw [← r1.length]; exact hl, anew p1 e1.s fun q s => Rep.mk_tup (.of upd_same) (RepL.mono s _ _ r1)⟩
    · rw [if_neg hl] at p1; exact p1.elim⟩
theorem se_lst {t : REnv → R (List D)} (h : SA X W es t) : SE X W (.List es pos) (eLst t) :=
  (pe_lst h).dy fun σ H Q ⟨G, F, ρ, r, p⟩ => ⟨G, F, ρ, r, Post.bind p fun ds vs F1 H1 _ e1 r1 p1 => by
    by_cases hl : ds.length ≤ sizeLine
    · rw [if_pos hl] at p1
      exact ⟨by rw [← r1.length]; exact hl, anew p1 e1.s fun q s => Rep.mk_lst (.of upd_same) (RepL.mono s _ _ r1)⟩
    · rw [if_neg hl] at p1; exact p1.elim⟩
/-- built-ins by their rules -/
def eN (o : List D → Option D) (t : REnv → R (List D)) : REnv → R D := fun ρ => (t ρ).bind fun ds => .opt (o ds)
theorem callN_read {r : List V → Hp → VK → Prop} {o : List D → Option D} {t : REnv → R (List D)} (ho : OpN X.K r o) {σ : St} {H : Hp} {Q : VK} (hh : rd X.K W (eN o t) σ H Q) : tCB r (ra X.K W t) σ H Q := by
  obtain ⟨G, F, ρ, hr, p⟩ := hh
  refine ⟨G, F, ρ, hr, Post.bind p fun ds vs F1 H1 _ e1 r1 p1 => ?_⟩
  cases q : o ds with
  | none => rw [q] at p1; exact p1.elim
  | some d => rw [q] at p1; exact ho F1 H1 vs ds d Q e1.s r1 q p1
variable {t : REnv → R (List D)} {x : Str} {p : Pos}
theorem se_blt {id : String} {r : List V → Hp → VK → Prop} {o : List D → Option D} (ho : CallR X (.builtin id) r ∧ OpN X.K r o) (hm : X.mg x = none) (ha : SA X W (e :: es) t) (hg : Gl X x := by rfl) (hv : bootBuiltins x = some (.builtin id) := by decide +kernel)
    (hn : x ≠ "__name__" := by decide) (hd : (x == ("__debug__" : Str)) = false := by decide) (he : starEach (e :: es) X.env = (false, eval e X.env) :: starEach es X.env := by rfl) (hpl : (backTo pos (starEach es X.env)).any (·.1) = false := by rfl) :
    SE X W (.Call (.Name x p) (e :: es) [] pos) (eN o t) :=
  (pe_callB ho.1 hg hm hv ha hn hd he hpl).dy fun _ _ _ hh => callN_read ho.2 hh
theorem se_bty {id : String} {r : List V → Hp → VK → Prop} {o : List D → Option D} (ho : CallR X (.type id) r ∧ OpN X.K r o) (hm : X.mg x = none) (ha : SA X W (e :: es) t) (hg : Gl X x := by rfl) (hv : bootBuiltins x = some (.type id) := by decide +kernel)
    (hn : x ≠ "__name__" := by decide) (hd : (x == ("__debug__" : Str)) = false := by decide) (he : starEach (e :: es) X.env = (false, eval e X.env) :: starEach es X.env := by rfl) (hpl : (backTo pos (starEach es X.env)).any (·.1) = false := by rfl) :
    SE X W (.Call (.Name x p) (e :: es) [] pos) (eN o t) :=
  (pe_callTy ho.1 hg hm hv ha hn hd he hpl).dy fun _ _ _ hh => callN_read ho.2 hh
/-- o[i] -/
theorem se_ix {r : R2} {o : D → D → Option D} (ho : IxR X r ∧ Op2 X.K r o) (ha : SE X W a f) (hb : SE X W b g) (hs : PlainIx b := by exact fun _ _ => rfl) : SE X W (.Subscript a b pos) (eBin o f g) :=
  (pe_ix ho.1 ha hb hs).dy fun _ _ _ hh => bin_read ho.2 hh
/-- -a -/
def eUn (o : D → Option D) (f : REnv → R D) : REnv → R D := fun ρ => (f ρ).bind fun a => .opt (o a)
theorem se_un {op : UnaryOp} {r : V → Hp → VK → Prop} {o : D → Option D} (ho : UnR X (unaryOp op) r ∧ Op1 X.K r o) (ha : SE X W a f) : SE X W (.UnaryOp op a pos) (eUn o f) :=
  (pe_un ho.1 ha).dy fun σ H Q ⟨G, F, ρ, hr, p⟩ => ⟨G, F, ρ, hr, Post.bind p fun d1 v1 F1 H1 _ e1 r1 p1 => by
    cases q : o d1 with
    | none => rw [q] at p1; exact p1.elim
    | some d => rw [q] at p1; exact ho.2 F1 H1 v1 d1 d Q e1.s r1 q p1⟩

/-! ### and, or, not -/
def eAnd (f g : REnv → R Bool) : REnv → R Bool := fun ρ => (f ρ).bind fun k => if k = true then g ρ else .ok false
def eOr (f g : REnv → R Bool) : REnv → R Bool := fun ρ => (f ρ).bind fun k => if k = true then .ok true else g ρ
def eNot (f : REnv → R Bool) : REnv → R Bool := fun ρ => (f ρ).bind fun k => .ok (!k)
variable {u v : REnv → R Bool} {rest : List Expr}
theorem sw_or1 (ha : ST X W a u) : SW X W (.BoolOp .Or [a] pos) u := pw_or1 ha
theorem sw_or (ha : ST X W a u) (hb : SW X W (.BoolOp .Or (b :: rest) pos) v) : SW X W (.BoolOp .Or (a :: b :: rest) pos) (eOr u v) :=
  (pw_or ha hb).dy fun σ H Q ⟨G, F, ρ, hr, p⟩ => ⟨G, F, ρ, hr, Post.bind p fun k k' F1 H1 _ e1 r1 p1 => by
    subst r1
    cases k with
    | false => exact ⟨G, F1, ρ, hr.ext e1, p1⟩
    | true => exact p1 true F1 H1 (.refl e1.s) rfl⟩
theorem st_bool {op} {l : List Expr} (h : SW X W (.BoolOp op l pos) u) : ST X W (.BoolOp op l pos) u := PW.pt h
theorem st_not (ha : ST X W a u) : ST X W (.UnaryOp .Not a pos) (eNot u) :=
  (pt_not ha).dy fun σ H Q ⟨G, F, ρ, hr, p⟩ => ⟨G, F, ρ, hr, Post.bind p fun k k' F1 H1 _ e1 r1 p1 => by
    subst r1
    exact p1 (!k) F1 H1 (.refl e1.s) rfl⟩
/-- .. as values -/
def eAndV (f g : REnv → R D) : REnv → R D := fun ρ => (f ρ).bind fun k => match k with
  | .bl true => g ρ
  | .bl false => .ok (.bl false)
  | _ => .bad
def eOrV (f g : REnv → R D) : REnv → R D := fun ρ => (f ρ).bind fun k => match k with
  | .bl false => g ρ
  | .bl true => .ok (.bl true)
  | _ => .bad
def eNotV (f : REnv → R D) : REnv → R D := fun ρ => (f ρ).bind fun k => match k with
  | .bl b => .ok (.bl (!b))
  | _ => .bad
theorem se_one {op} (ha : SE X W a f) : SE X W (.BoolOp op [a] pos) f := pe_one ha
theorem se_and (ha : SE X W a f) (hb : SE X W (.BoolOp .And (b :: rest) pos) g) : SE X W (.BoolOp .And (a :: b :: rest) pos) (eAndV f g) :=
  (pe_and ha hb).dy fun σ H Q ⟨G, F, ρ, hr, p⟩ => ⟨G, F, ρ, hr, Post.bind p fun k k' F1 H1 _ e1 r1 p1 => by
    cases k with
    | bl k =>
      refine ⟨k, r1.bl_inv, ?_⟩
      cases k with
      | true => exact ⟨G, F1, ρ, hr.ext e1, p1⟩
      | false => exact p1 _ F1 H1 (.refl e1.s) Rep.mk_bl
    | _ => exact p1.elim⟩
theorem se_not (ha : SE X W a f) : SE X W (.UnaryOp .Not a pos) (eNotV f) :=
  (pe_not ha).dy fun σ H Q ⟨G, F, ρ, hr, p⟩ => ⟨G, F, ρ, hr, Post.bind p fun k k' F1 H1 _ e1 r1 p1 => by
    cases k with
    | bl k => exact ⟨k, r1.bl_inv, p1 _ F1 H1 (.refl e1.s) Rep.mk_bl⟩
    | _ => exact p1.elim⟩
end

section
variable {X : Cx} {W : WX} {a b c : Expr} {f g h : REnv → R D} {pos : Pos}
end
end Dy

set_option Elab.async false
set_option linter.all false
set_option maxRecDepth 100000
namespace Dy
open PySem PySem.Spec PyProof.Rows L2

/-! ### statements -/
inductive SR where
  | next (ρ : REnv) | ret (d : D) | err (e : D) (ρ : REnv) | bad
def SR.seq (x : SR) (g : REnv → SR) : SR := match x with
  | .next ρ => g ρ
  | y => y
def R.toS {α : Type} (x : R α) (ρ : REnv) (k : α → SR) : SR := match x with
  | .ok a => k a
  | .err e => .err e ρ
  | .bad => .bad
def PostS (K : PySem.W.Frag) (W : WX) (D : Ends) (G F : Hp) (x : SR) : Prop := match x with
  | .next ρ => ∀ σ' F' H', Same F F' → NewG G F F' → RepE K G F' H' σ' ρ → D.nx σ' H'
  | .ret d => ∀ v F' H', Same F F' → NewG G F F' → Same G H' → Same F' H' → Rep K F' d v → D.rt v H'
  | .err e ρ => ∀ σ' F' H' cls dd, Same F F' → NewG G F F' → RepE K G F' H' σ' ρ → XD K F' e cls dd → W cls dd σ' H'
  | .bad => False
section
variable {α β : Type} {K : PySem.W.Frag} {W : WX} {D D' : Ends} {G F F' H : Hp} {σ : St} {ρ : REnv}
theorem PostS.ext {x : SR} (s : Same F F') (n : NewG G F F') (h : PostS K W D G F x) : PostS K W D G F' x := by
  cases x with
  | next ρ => exact fun σ' F2 H' s2 n2 r => h σ' F2 H' (s.trans s2) (n.trans n2) r
  | ret d => exact fun v F2 H' s2 n2 g f r => h v F2 H' (s.trans s2) (n.trans n2) g f r
  | err e ρ => exact fun σ' F2 H' cls dd s2 n2 r x => h σ' F2 H' cls dd (s.trans s2) (n.trans n2) r x
  | bad => exact h
theorem PostS.toS {rel : Hp → α → β → Prop} {x : R α} {k : α → SR} {Q : β → Hp → Prop} (r : RepE K G F H σ ρ) (h : PostS K W D G F (x.toS ρ k))
    (f : ∀ a v F' H', x = .ok a → Ext F H F' H' → rel F' a v → RepE K G F' H' σ ρ → PostS K W D G F' (k a) → Q v H') : Post K W rel σ F H x Q := by
  cases x with
  | ok a => exact fun v F' H' e p => f a v F' H' rfl e p (r.ext e) (PostS.ext e.f (e.newG r.g) h)
  | err e => exact fun cls dd F' H' ex p => h σ F' H' cls dd ex.f (ex.newG r.g) (r.ext ex) p
  | bad => exact h
/-- another end behind the statement's own -/
theorem PostS.seq {x : SR} {g : REnv → SR} {nx : St → Hp → Prop} (h : PostS K W D G F (x.seq g))
    (f : ∀ ρ σ' F' H', x = .next ρ → Same F F' → NewG G F F' → RepE K G F' H' σ' ρ → PostS K W D G F' (g ρ) → nx σ' H') : PostS K W { D with nx := nx } G F x := by
  cases x with
  | next ρ => exact fun σ' F' H' s n r => f ρ σ' F' H' rfl s n r (PostS.ext s n h)
  | ret d => exact h
  | err e ρ => exact h
  | bad => exact h
theorem PostS.ends {x : SR} {bk ct : St → Hp → Prop} (h : PostS K W D G F x) : PostS K W { D with bk := bk, ct := ct } G F x := by
  cases x with
  | next ρ => exact h
  | ret d => exact h
  | err e ρ => exact h
  | bad => exact h
end
def rs (K : PySem.W.Frag) (W : WX) (g : REnv → SR) : TS := fun D σ H => ∃ G F ρ, RepE K G F H σ ρ ∧ PostS K W D G F (g ρ)
abbrev SS (X : Cx) (W : WX) (s : Stmt) (g : REnv → SR) : Prop := PS X s (rs X.K W g)
abbrev SSs (X : Cx) (W : WX) (s : List Stmt) (g : REnv → SR) : Prop := PSs X s (rs X.K W g)

section
variable {X : Cx} {W : WX} {st : Stmt} {rest : List Stmt} {g h : REnv → SR} {e : Expr} {f : REnv → R D} {pos : Pos}
def sSkip : REnv → SR := .next
def sSeq (g h : REnv → SR) : REnv → SR := fun ρ => (g ρ).seq h
def sRet (f : REnv → R D) : REnv → SR := fun ρ => (f ρ).toS ρ .ret
def sSet (i : Nat) (f : REnv → R D) : REnv → SR := fun ρ => (f ρ).toS ρ fun d => .next (ρ.set i (.val d))
def sExpr (f : REnv → R D) : REnv → SR := fun ρ => (f ρ).toS ρ fun _ => .next ρ
def sIf (c : REnv → R Bool) (g h : REnv → SR) : REnv → SR := fun ρ => (c ρ).toS ρ fun b => if b = true then g ρ else h ρ
theorem sss_nil : SSs X W [] sSkip := pss_nil.dy fun D σ H ⟨G, F, ρ, r, p⟩ => p σ F H (.refl _) .refl r
theorem sss_cons (h1 : SS X W st g) (h2 : SSs X W rest h) : SSs X W (st :: rest) (sSeq g h) :=
  (pss_cons h1 h2).dy fun D σ H ⟨G, F, ρ, r, p⟩ => ⟨G, F, ρ, r, PostS.seq p fun ρ' σ' F' H' _ s n r' p' => ⟨G, F', ρ', r', p'⟩⟩
theorem sss_one (h1 : SS X W st g) : SSs X W [st] g := pss_one h1
theorem ss_ret (he : SE X W e f) : SS X W (.Return (some e) pos) (sRet f) :=
  (ps_ret he).dy fun D σ H ⟨G, F, ρ, r, p⟩ => ⟨G, F, ρ, r, PostS.toS r p fun d v F' H' _ ex rp r' p' => p' v F' H' (.refl _) .refl r'.g r'.f rp⟩
theorem ss_set {i : Nat} {x : Str} {pos' : Pos} (hN : X.N.Nodup) (he : SE X W e f) (hi : X.N[i]? = some x := by rfl) (hx : Loc X.env.scope x := by first | exact Or.inl rfl | exact Or.inr rfl) (hs : swapsWith e (some (.Name x pos')) pos.line X.env = pure false := by rfl)
    (hf : X.fn x = true ∨ X.env.scope.names.lookup x = some .local := by first | exact .inl rfl | exact .inr rfl | assumption) : SS X W (.Assign [.Name x pos'] e pos) (sSet i f) :=
  (ps_set hN hi hx he hs hf).dy fun D σ H ⟨G, F, ρ, r, p⟩ => ⟨G, F, ρ, r, PostS.toS r p fun d v F' H' _ ex rp r' p' => p' _ F' H' (.refl _) .refl (r'.setV rp)⟩
theorem ss_if {c : Expr} {a b : List Stmt} {u : REnv → R Bool} (hc : ST X W c u) (ha : SSs X W a g) (hb : SSs X W b h) : SS X W (.If c a b pos) (sIf u g h) :=
  (ps_if hc ha hb).dy fun D σ H ⟨G, F, ρ, r, p⟩ => ⟨G, F, ρ, r, PostS.toS r p fun k v F' H' _ ex rp r' p' => by
    subst rp
    cases k with
    | true => exact ⟨G, F', ρ, r', p'⟩
    | false => exact ⟨G, F', ρ, r', p'⟩⟩
/-- a, b = b, a % b of two plain locals -/
def sPar (i j : Nat) (t : REnv → R (List D)) : REnv → SR := fun ρ => (t ρ).toS ρ fun ds => match ds with
  | [a, b] => .next ((ρ.set i (.val a)).set j (.val b))
  | _ => .bad
theorem ss_par {i j : Nat} {x y : Str} {a b : Expr} {t : REnv → R (List D)} {px py pt : Pos} {kt k2 pt2} (hc : X.calm = true) (hN : X.N.Nodup) (ha : SA X W [a, b] t) (hi : X.N[i]? = some x := by rfl) (hj : X.N[j]? = some y := by rfl) (hij : i ≠ j := by decide)
    (hx : X.env.scope.names.lookup x = some .local := by rfl) (hy : X.env.scope.names.lookup y = some .local := by rfl)
    (hw : swappedStores [.Tuple [.Name x px, .Name y py] kt pt] (.Tuple [a, b] k2 pt2) X.env = pure (some [x, y]) := by rfl)
    (hs : swapsWithSole [.Tuple [.Name x px, .Name y py] kt pt] (.Tuple [a, b] k2 pt2) pos.line X.env = pure false := by rfl) :
    SS X W (.Assign [.Tuple [.Name x px, .Name y py] kt pt] (.Tuple [a, b] k2 pt2) pos) (sPar i j t) :=
  (ps_par hc hN hi hj hij hx hy ha hw hs).dy fun D σ H ⟨G, F, ρ, r, p⟩ => ⟨G, F, ρ, r, PostS.toS r p fun ds vs F' H' _ ex rp r' p' => by
    match ds, rp, p' with
    | [a, b], rp, p' =>
      simp only [RepL] at rp
      obtain ⟨v, r1, e1, h1, w, r2, e2, h2, e3⟩ := rp
      subst e3; subst e2; subst e1
      exact ⟨v, w, rfl, p' _ F' H' (.refl _) .refl ((r'.setV h1).setV h2)⟩
    | [], _, p' => exact p'.elim
    | [_], _, p' => exact p'.elim
    | _ :: _ :: _ :: _, _, p' => exact p'.elim⟩

/-! ### targets -/
/-- the slots of `is` alone may differ -/
def OnlyAt (is : List Nat) (σ σ' : St) : Prop := σ'.length = σ.length ∧ ∀ j, j ∉ is → σ'[j]? = σ[j]?
theorem OnlyAt.refl {is : List Nat} {σ : St} : OnlyAt is σ σ := ⟨rfl, fun _ _ => rfl⟩
theorem OnlyAt.trans {is js : List Nat} {σ σ' σ'' : St} (a : OnlyAt is σ σ') (b : OnlyAt js σ' σ'') : OnlyAt (is ++ js) σ σ'' := ⟨b.1.trans a.1, fun j h => by
  rw [List.mem_append, not_or] at h
  exact (b.2 j h.2).trans (a.2 j h.1)⟩
def TgOk (K : PySem.W.Frag) (t : TG) (b : D → REnv → Option REnv) (is : List Nat) : Prop := ∀ G F H σ ρ ρ' d v Q, RepE K G F H σ ρ → Rep K F d v → b d ρ = some ρ' → (∀ σ', RepE K G F H σ' ρ' → OnlyAt is σ σ' → Q σ' H) → t v σ H Q
def TgsOk (K : PySem.W.Frag) (t : TGs) (b : List D → REnv → Option REnv) (is : List Nat) : Prop := ∀ G F H σ ρ ρ' ds vs Q, RepE K G F H σ ρ → RepL K F ds vs → b ds ρ = some ρ' → (∀ σ', RepE K G F H σ' ρ' → OnlyAt is σ σ' → Q σ' H) → t vs σ H Q
def bName (i : Nat) : D → REnv → Option REnv := fun d ρ => some (ρ.set i (.val d))
def bNil : List D → REnv → Option REnv := fun ds ρ => match ds with
  | [] => some ρ
  | _ => none
def bCons (b : D → REnv → Option REnv) (c : List D → REnv → Option REnv) : List D → REnv → Option REnv := fun ds ρ => match ds with
  | d :: r => (b d ρ).bind (c r)
  | [] => none
def bSeq (n : Nat) (c : List D → REnv → Option REnv) : D → REnv → Option REnv := fun d ρ => match d with
  | .tup xs => if xs.length = n then c xs ρ else none
  | .lst xs => if xs.length = n then c xs ρ else none
  | _ => none
theorem tg_name {K : PySem.W.Frag} (i : Nat) : TgOk K (gName i) (bName i) [i] := fun G F H σ ρ ρ' d v Q r rp e q => by
  cases e
  exact q _ (r.setV rp) ⟨by simp, fun j h => List.getElem?_set_ne (fun z => h (by simp [z]))⟩
theorem tgs_nil {K : PySem.W.Frag} : TgsOk K gNil bNil [] := fun G F H σ ρ ρ' ds vs Q r rp e q => by
  cases ds with
  | nil =>
    cases e
    simp only [RepL] at rp
    exact ⟨rp, q σ r .refl⟩
  | cons d ds => cases e
theorem tgs_cons {K : PySem.W.Frag} {t : TG} {t2 : TGs} {b : D → REnv → Option REnv} {c : List D → REnv → Option REnv} {is js : List Nat} (k : TgOk K t b is) (k2 : TgsOk K t2 c js) : TgsOk K (gCons t t2) (bCons b c) (is ++ js) := fun G F H σ ρ ρ' ds vs Q r rp e q => by
  cases ds with
  | nil => cases e
  | cons d ds =>
    simp only [RepL] at rp
    obtain ⟨v, rr, e1, h1, h2⟩ := rp
    have e : (b d ρ).bind (c ds) = some ρ' := e
    cases e2 : b d ρ with
    | none => rw [e2] at e; cases e
    | some ρ1 =>
      rw [e2] at e
      exact ⟨v, rr, e1, k G F H σ ρ ρ1 d v _ r h1 e2 fun σ1 r1 o1 => k2 G F H σ1 ρ1 ρ' ds rr Q r1 h2 e fun σ2 r2 o2 => q σ2 r2 (o1.trans o2)⟩
/-- (a, b, ..) = a tuple or a list of that length -/
def gSeq (K : PySem.W.Frag) (n : Nat) (t : TGs) : TG := fun v σ H Q => ∃ a xs, v = .ref a ∧ (SqT K H a xs ∨ SqL K H a xs) ∧ xs.length = n ∧ t xs σ H Q
theorem pg_seq {es : List Expr} {k : Nat} {t : TGs} {n : Nat} (hc : X.calm = true) (h : PGs X es t)
    (hn : (assignEach es X.env).length = n := by rfl) (hst : (assignEach es X.env).findIdx? (·.1) = none := by rfl) : PG X (.Tuple es k pos) (gSeq X.K n t) := by
  refine ⟨fun pins s σ H v u Q I r hw => ?_⟩
  obtain ⟨a, xs, e1, hq, hl, hw⟩ := hw
  rcases hq with hq | hq
  · exact (pg_tup hc h hn hst).run pins s σ H v u Q I r ⟨a, xs, e1, hq, hl, hw⟩
  · exact (pg_lst hc h hn hst).run pins s σ H v u Q I r ⟨a, xs, e1, hq, hl, hw⟩
theorem tg_seq {K : PySem.W.Frag} {t : TGs} {b : List D → REnv → Option REnv} {n : Nat} {is : List Nat} (kk : TgsOk K t b is) : TgOk K (gSeq K n t) (bSeq n b) is := fun G F H σ ρ ρ' d v Q r rp e q => by
  cases d with
  | tup xs =>
    obtain ⟨a, vs, h1, h2, h3⟩ := rp.tup_inv
    by_cases hl : xs.length = n
    · have e : b xs ρ = some ρ' := by
        have e0 : (if xs.length = n then b xs ρ else none) = some ρ' := e
        rw [if_pos hl] at e0
        exact e0
      exact ⟨a, vs, h1, .inl (Same.seqT r.f h2), by rw [← h3.length]; exact hl, kk G F H σ ρ ρ' xs vs Q r h3 e q⟩
    · have e0 : (if xs.length = n then b xs ρ else none) = some ρ' := e
      rw [if_neg hl] at e0
      cases e0
  | lst xs =>
    obtain ⟨a, vs, h1, h2, h3⟩ := rp.lst_inv
    by_cases hl : xs.length = n
    · have e : b xs ρ = some ρ' := by
        have e0 : (if xs.length = n then b xs ρ else none) = some ρ' := e
        rw [if_pos hl] at e0
        exact e0
      exact ⟨a, vs, h1, .inr (Same.seq r.f h2), by rw [← h3.length]; exact hl, kk G F H σ ρ ρ' xs vs Q r h3 e q⟩
    · have e0 : (if xs.length = n then b xs ρ else none) = some ρ' := e
      rw [if_neg hl] at e0
      cases e0
  | _ => cases e
def sAsg (f : REnv → R D) (b : D → REnv → Option REnv) : REnv → SR := fun ρ => (f ρ).toS ρ fun d => match b d ρ with
  | some ρ' => .next ρ'
  | none => .bad
/-! ### loops -/
/-- J yields the things ds -/
structure ItOk (K : PySem.W.Frag) (J : It) (ds : List D) (F : Hp) : Prop where
  go : ∀ i H, i < ds.length → Same F H → J.go i H
  stop : ∀ H, Same F H → J.stop ds.length H
  yld : ∀ i H x H' F1, i < ds.length → Same F F1 → Same F1 H → J.yld i H x H' → ∃ F2 d, Ext F1 H F2 H' ∧ ds[i]? = some d ∧ Rep K F2 d x
theorem ItOk.mono {K : PySem.W.Frag} {J : It} {ds : List D} {F F' : Hp} (h : ItOk K J ds F) (s : Same F F') : ItOk K J ds F' :=
  ⟨fun i H hi q => h.go i H hi (s.trans q), fun H q => h.stop H (s.trans q), fun i H x H' F1 hi q q1 y => h.yld i H x H' F1 hi (s.trans q) q1 y⟩
def ri (K : PySem.W.Frag) (W : WX) (f : REnv → R (List D)) : TI := fun σ H R => ∃ G F ρ, RepE K G F H σ ρ ∧ Post K W (fun F' ds (J : It) => ItOk K J ds F') σ F H (f ρ) R
abbrev SI (X : Cx) (W : WX) (tg iter : Expr) (f : REnv → R (List D)) : Prop := PI X tg iter (ri X.K W f)
def forS (b : D → REnv → Option REnv) (body : REnv → SR) : List D → REnv → SR
  | [], ρ => .next ρ
  | d :: ds, ρ => match b d ρ with
    | some ρ' => (body ρ').seq (forS b body ds)
    | none => .bad
def sFor (f : REnv → R (List D)) (b : D → REnv → Option REnv) (body : REnv → SR) : REnv → SR := fun ρ => (f ρ).toS ρ fun ds => forS b body ds ρ
theorem for_read {J : It} {ds : List D} {t : TG} {b : D → REnv → Option REnv} {body : REnv → SR} {K : PySem.W.Frag} {is : List Nat} (hg : TgOk K t b is) {D : Ends} {G F1 H1 : Hp} {σ : St} {ρ : REnv} (hJ : ItOk K J ds F1) (r : RepE K G F1 H1 σ ρ) (p : PostS K W D G F1 (forS b body ds ρ)) :
    ∃ Wv : Nat → Nat → St → Hp → Prop, (∃ m, Wv 0 m σ H1) ∧ ∀ i m σ H, Wv i m σ H →
      (J.stop i H ∧ D.nx σ H) ∨ (J.go i H ∧ ∃ N : St → Hp → Prop, (∀ σ' H', N σ' H' → ∃ m', m' < m ∧ Wv (i + 1) m' σ' H') ∧ ∀ x H', J.yld i H x H' → t x σ H' fun σ2 H2 => rs K W body { D with nx := N, ct := N, bk := D.nx } σ2 H2) := by
  let Pv : Nat → St → Hp → Prop := fun i σ H => ∃ F' ρ', Same F1 F' ∧ NewG G F1 F' ∧ RepE K G F' H σ ρ' ∧ PostS K W D G F' (forS b body (ds.drop i) ρ')
  refine ⟨fun i m σ H => m = ds.length - i ∧ i ≤ ds.length ∧ Pv i σ H, ⟨ds.length, by simp, Nat.zero_le _, F1, ρ, .refl _, .refl, r, by simpa using p⟩, ?_⟩
  rintro i m σ H ⟨rfl, hi, F', ρ', s, n, r, p⟩
  by_cases hlt : i < ds.length
  · refine .inr ⟨hJ.go i H hlt (s.trans r.f), Pv (i + 1), fun σ' H' q => ⟨ds.length - (i + 1), by omega, rfl, hlt, q⟩, fun x H' y => ?_⟩
    obtain ⟨F2, d, ex, ed, rp⟩ := hJ.yld i H x H' F' hlt s r.f y
    have dr : ds.drop i = d :: ds.drop (i + 1) := by
      obtain ⟨h1, h2⟩ := List.getElem?_eq_some_iff.mp ed
      rw [← h2]
      exact List.drop_eq_getElem_cons h1
    rw [dr] at p
    have r2 := r.ext ex
    have p2 := PostS.ext ex.f (ex.newG r.g) p
    have p3 : PostS K W D G F2 (match b d ρ' with | some ρ2 => (body ρ2).seq (forS b body (ds.drop (i + 1))) | none => .bad) := p2
    cases q : b d ρ' with
    | none => rw [q] at p3; exact p3.elim
    | some ρ2 =>
      rw [q] at p3
      refine hg G F2 H' σ ρ' ρ2 d x _ r2 rp q fun σ2 r3 _ => ⟨G, F2, ρ2, r3, ?_⟩
      refine PostS.ends (D := { D with nx := Pv (i + 1) }) (PostS.seq p3 fun ρ3 σ3 F3 H3 _ s3 n3 r4 p4 => ?_)
      exact ⟨F3, ρ3, s.trans (ex.f.trans s3), n.trans ((ex.newG r.g).trans n3), r4, p4⟩
  · have e : i = ds.length := by omega
    subst e
    rw [List.drop_length] at p
    exact .inl ⟨hJ.stop H (s.trans r.f), p σ F' H (.refl _) .refl r⟩
theorem ss_for {tg iter : Expr} {body : List Stmt} {fi : REnv → R (List D)} {t : TG} {b : D → REnv → Option REnv} {is : List Nat} (hp : PassesOwn (model X.prog X.w) X.A X.env X.xe) (hc : X.calm = true) (hi : SI X W tg iter fi) (pg : PG X tg t) (k : TgOk X.K t b is) (hb : SSs X W body g)
    (hs : ∀ x, foldedSetIterable iter X.env x = pure x := by intro _; rfl) : SS X W (.For tg iter body [] pos) (sFor fi b g) := by
  exact (ps_for hp hc hi pg hb hs).dy fun D σ H ⟨G, F, ρ, r, p⟩ => ⟨G, F, ρ, r, PostS.toS r p fun ds J F' H' _ ex rp r' p' => for_read k rp r' p'⟩

/-! ### while -/
def whileN (t : REnv → R Bool) (body : REnv → SR) : Nat → REnv → SR
  | 0, _ => .bad
  | n + 1, ρ => (t ρ).toS ρ fun k => if k = true then (body ρ).seq (whileN t body n) else .next ρ
open Classical in
noncomputable def whileS (t : REnv → R Bool) (body : REnv → SR) : REnv → SR := fun ρ => if h : ∃ n, whileN t body n ρ ≠ .bad then whileN t body (choose h) ρ else .bad
theorem whileN_mono {t : REnv → R Bool} {body : REnv → SR} : ∀ (n k : Nat) (ρ : REnv), whileN t body n ρ ≠ .bad → whileN t body (n + k) ρ = whileN t body n ρ
  | 0, k, ρ, h => absurd rfl h
  | n + 1, k, ρ, h => by
    rw [show n + 1 + k = (n + k) + 1 by omega]
    unfold whileN at h ⊢
    cases e : t ρ with
    | err e' => rfl
    | bad => rfl
    | ok c =>
      rw [e] at h
      cases c with
      | false => rfl
      | true =>
        simp only [R.toS, if_true] at h ⊢
        cases e2 : body ρ with
        | next ρ' =>
          rw [e2] at h
          exact whileN_mono n k ρ' h
        | ret d => rfl
        | err d r => rfl
        | bad => rfl
theorem whileS_of {t : REnv → R Bool} {body : REnv → SR} {n : Nat} {ρ : REnv} (h : whileN t body n ρ ≠ .bad) : whileS t body ρ = whileN t body n ρ := by
  classical
  have hx : ∃ n, whileN t body n ρ ≠ .bad := ⟨n, h⟩
  unfold whileS
  rw [dif_pos hx]
  have h2 := Classical.choose_spec hx
  have e1 := whileN_mono n (Classical.choose hx) ρ h
  have e2 := whileN_mono (Classical.choose hx) n ρ h2
  rw [← e1, Nat.add_comm, e2]
theorem whileS_ex {t : REnv → R Bool} {body : REnv → SR} {ρ : REnv} (h : whileS t body ρ ≠ .bad) : ∃ n, whileS t body ρ = whileN t body n ρ := by
  classical
  unfold whileS at h ⊢
  by_cases hx : ∃ n, whileN t body n ρ ≠ .bad
  · rw [dif_pos hx]; exact ⟨_, rfl⟩
  · rw [dif_neg hx] at h; exact absurd rfl h
theorem whileS_eq (t : REnv → R Bool) (body : REnv → SR) (ρ : REnv) : whileS t body ρ = (t ρ).toS ρ fun k => if k = true then (body ρ).seq (whileS t body) else .next ρ := by
  have one : ∀ n, whileN t body (n + 1) ρ = (t ρ).toS ρ fun k => if k = true then (body ρ).seq (whileN t body n) else .next ρ := fun n => rfl
  cases e : t ρ with
  | err e' =>
    rw [whileS_of (n := 1)]
    · rw [one, e]; rfl
    · rw [one, e]; exact fun z => by cases z
  | bad =>
    have z : ∀ n, whileN t body n ρ = .bad := fun n => by
      cases n with
      | zero => rfl
      | succ n => rw [one, e]; rfl
    unfold whileS
    rw [dif_neg (fun ⟨n, h⟩ => h (z n))]; rfl
  | ok c =>
    cases c with
    | false =>
      rw [whileS_of (n := 1)]
      · rw [one, e]; rfl
      · rw [one, e]; exact fun z => by cases z
    | true =>
      show whileS t body ρ = (body ρ).seq (whileS t body)
      have one' : ∀ n, whileN t body (n + 1) ρ = (body ρ).seq (whileN t body n) := fun n => by rw [one, e]; rfl
      cases e2 : body ρ with
      | next ρ' =>
        show whileS t body ρ = whileS t body ρ'
        by_cases hx : ∃ n, whileN t body n ρ' ≠ .bad
        · obtain ⟨n, hn⟩ := hx
          have q : whileN t body (n + 1) ρ = whileN t body n ρ' := by rw [one', e2]; rfl
          rw [whileS_of hn, whileS_of (n := n + 1) (by rw [q]; exact hn), q]
        · have z : ∀ n, whileN t body n ρ' = .bad := fun n => Classical.byContradiction fun h => hx ⟨n, h⟩
          have z2 : ∀ n, whileN t body n ρ = .bad := fun n => by
            cases n with
            | zero => rfl
            | succ n => rw [one', e2]; exact z n
          unfold whileS
          rw [dif_neg (fun ⟨n, h⟩ => h (z2 n)), dif_neg hx]
      | ret d =>
        rw [whileS_of (n := 1)]
        · rw [one', e2]; rfl
        · rw [one', e2]; exact fun z => by cases z
      | err d r =>
        rw [whileS_of (n := 1)]
        · rw [one', e2]; rfl
        · rw [one', e2]; exact fun z => by cases z
      | bad =>
        have z2 : ∀ n, whileN t body n ρ = .bad := fun n => by
          cases n with
          | zero => rfl
          | succ n => rw [one', e2]; rfl
        unfold whileS
        rw [dif_neg (fun ⟨n, h⟩ => h (z2 n))]; rfl
theorem ss_while {c : Expr} {body : List Stmt} {u : REnv → R Bool} (hp : PassesOwn (model X.prog X.w) X.A X.env X.xe) (hc : ST X W c u) (hb : SSs X W body g) : SS X W (.While c body [] pos) (whileS u g) := by
  refine (ps_while hp hc hb).dy fun D σ H ⟨G, F, ρ, r, p⟩ => ?_
  have hne : whileS u g ρ ≠ .bad := fun z => by rw [z] at p; exact p
  obtain ⟨n, en⟩ := whileS_ex hne
  rw [en] at p
  let Pv : Nat → St → Hp → Prop := fun m σ H => ∃ F' ρ', Same F F' ∧ NewG G F F' ∧ RepE X.K G F' H σ ρ' ∧ PostS X.K W D G F' (whileN u g m ρ')
  refine ⟨Pv, ⟨n, F, ρ, .refl _, .refl, r, p⟩, ?_⟩
  rintro m σ H ⟨F', ρ', s, nn, r, p⟩
  cases m with
  | zero => exact p.elim
  | succ m =>
    unfold whileN at p
    refine ⟨G, F', ρ', r, PostS.toS r p fun k v F2 H2 _ ex rp r' p' => ?_⟩
    subst rp
    cases k with
    | false => exact iteF (p' σ F2 H2 (.refl _) .refl r')
    | true =>
      refine iteT ⟨Pv m, fun σ' H' q => ⟨m, Nat.lt_succ_self m, q⟩, G, F2, ρ', r', ?_⟩
      have p' : PostS X.K W D G F2 ((g ρ').seq (whileN u g m)) := p'
      refine PostS.ends (D := { D with nx := Pv m }) (PostS.seq p' fun ρ3 σ3 F3 H3 _ s3 n3 r4 p4 => ?_)
      exact ⟨F3, ρ3, s.trans (ex.f.trans s3), nn.trans ((ex.newG r.g).trans n3), r4, p4⟩
end
end Dy

set_option Elab.async false
set_option linter.all false
set_option maxRecDepth 100000
namespace Dy
open PySem PySem.Spec PyProof.Rows L2

/-! ### what is walked -/
def iterD : D → Option (List D)
  | .lst xs => some xs
  | .tup xs => some xs
  | .str z => some (z.cps.toList.map fun c => .str ⟨#[c]⟩)
  | _ => none
section
variable {K : PySem.W.Frag} {F : Hp}
theorem it_list {a : Addr} {vs : List V} {ds : List D} (h : SqL K F a vs) (r : RepL K F ds vs) : ItOk K (Itl K a) ds F where
  go := fun i H hi s => by
    obtain ⟨v, e, _⟩ := r.get (List.getElem?_eq_getElem hi)
    exact ⟨vs, v, Same.seq s h, e⟩
  stop := fun H s => ⟨vs, Same.seq s h, by rw [← r.length]; exact Nat.le_refl _⟩
  yld := fun i H x H' F1 hi s s1 y => by
    obtain ⟨e, y⟩ := y
    subst e
    have ex := y vs (Same.seq (s.trans s1) h)
    obtain ⟨d, ed, rp⟩ := r.get' ex
    exact ⟨F1, d, .refl s1, ed, Rep.mono s _ _ rp⟩
theorem it_tup {a : Addr} {vs : List V} {ds : List D} (h : SqT K F a vs) (r : RepL K F ds vs) : ItOk K (Itt K a) ds F where
  go := fun i H hi s => by
    obtain ⟨v, e, _⟩ := r.get (List.getElem?_eq_getElem hi)
    exact ⟨vs, v, Same.seqT s h, e⟩
  stop := fun H s => ⟨vs, Same.seqT s h, by rw [← r.length]; exact Nat.le_refl _⟩
  yld := fun i H x H' F1 hi s s1 y => by
    obtain ⟨e, y⟩ := y
    subst e
    have ex := y vs (Same.seqT (s.trans s1) h)
    obtain ⟨d, ed, rp⟩ := r.get' ex
    exact ⟨F1, d, .refl s1, ed, Rep.mono s _ _ rp⟩
theorem it_str {z : Str} : ItOk K (Its z) (z.cps.toList.map fun c => .str ⟨#[c]⟩) F where
  go := fun i H hi s => by
    show i < z.cps.size
    simpa using hi
  stop := fun H s => by
    show z.cps.size ≤ _
    simp
  yld := fun i H x H' F1 hi s s1 y => by
    obtain ⟨e, c, ec, ex⟩ := y
    subst e
    subst ex
    refine ⟨F1, .str ⟨#[c]⟩, .refl s1, ?_, Rep.mk_str⟩
    simp [ec]
def rangeD (lo : Int) (n : Nat) : List D := (List.range n).map fun (i : Nat) => .int (lo + (i : Int))
theorem it_range {lo : Int} {n : Nat} : ItOk K (Itr lo n) (rangeD lo n) F where
  go := fun i H hi s => by
    show i < n
    simpa [rangeD] using hi
  stop := fun H s => by show n ≤ _; simp [rangeD]
  yld := fun i H x H' F1 hi s s1 y => by
    obtain ⟨e, ex⟩ := y
    subst e
    subst ex
    have hi : i < n := by simpa [rangeD] using hi
    refine ⟨F1, .int (lo + i), .refl s1, ?_, Rep.mk_int⟩
    simp [rangeD, hi]
def rangeC (lo c : Int) (n : Nat) : List D := (List.range n).map fun (i : Nat) => .int (lo + (i : Int) * c)
def enumD (ds : List D) : List D := (List.range ds.length).map fun (i : Nat) => .tup [.int (i : Int), ds.getD i .non]
def zipD (xs ys : List D) : List D := (xs.zip ys).map fun p => .tup [p.1, p.2]
theorem zipD_get {xs ys : List D} {i : Nat} {x y : D} (h : xs[i]? = some x) (h2 : ys[i]? = some y) : (zipD xs ys)[i]? = some (.tup [x, y]) := by
  have q : (xs.zip ys)[i]? = some (x, y) := List.getElem?_zip_eq_some.mpr ⟨h, h2⟩
  simp [zipD, q]
theorem it_zip {a b : Addr} {vs ws : List V} {xs ys : List D} (h : SqL K F a vs) (r : RepL K F xs vs) (h2 : SqL K F b ws) (r2 : RepL K F ys ws) : ItOk K (Itz K a b) (zipD xs ys) F where
  go := fun i H hi s => by
    have hi : i < xs.length ∧ i < ys.length := by simpa [zipD, Nat.lt_min] using hi
    obtain ⟨v, e, _⟩ := r.get (List.getElem?_eq_getElem hi.1)
    obtain ⟨w, e2, _⟩ := r2.get (List.getElem?_eq_getElem hi.2)
    exact ⟨vs, ws, v, w, Same.seq s h, Same.seq s h2, e, e2⟩
  stop := fun H s => ⟨vs, ws, Same.seq s h, Same.seq s h2, by
    rw [← r.length, ← r2.length]
    simp only [zipD, List.length_map, List.length_zip]
    omega⟩
  yld := fun i H x H' F1 hi s s1 y => by
    obtain ⟨T, v, w, e1, hT, e2, y, y2⟩ := y
    subst e1
    subst e2
    obtain ⟨d, ed, rp⟩ := r.get' (y vs (Same.seq (s.trans s1) h))
    obtain ⟨d2, ed2, rp2⟩ := r2.get' (y2 ws (Same.seq (s.trans s1) h2))
    have ex : Ext F1 H (upd F1 T (.tup [v, w])) (upd H T (.tup [v, w])) := Ext.new s1 hT
    exact ⟨_, _, ex, zipD_get ed ed2, Rep.mk_tup (.of upd_same) (RepL.cons (Rep.mono (s.trans ex.f) _ _ rp) (RepL.cons (Rep.mono (s.trans ex.f) _ _ rp2) RepL.nil))⟩
theorem it_zipT {a b : Addr} {vs ws : List V} {xs ys : List D} (h : SqT K F a vs) (r : RepL K F xs vs) (h2 : SqT K F b ws) (r2 : RepL K F ys ws) : ItOk K (RZ.ItzT K a b) (zipD xs ys) F where
  go := fun i H hi s => by
    have hi : i < xs.length ∧ i < ys.length := by simpa [zipD, Nat.lt_min] using hi
    obtain ⟨v, e, _⟩ := r.get (List.getElem?_eq_getElem hi.1)
    obtain ⟨w, e2, _⟩ := r2.get (List.getElem?_eq_getElem hi.2)
    exact ⟨vs, ws, v, w, Same.seqT s h, Same.seqT s h2, e, e2⟩
  stop := fun H s => ⟨vs, ws, Same.seqT s h, Same.seqT s h2, by
    rw [← r.length, ← r2.length]
    simp only [zipD, List.length_map, List.length_zip]
    omega⟩
  yld := fun i H x H' F1 hi s s1 y => by
    obtain ⟨T, v, w, e1, hT, e2, y, y2⟩ := y
    subst e1
    subst e2
    obtain ⟨d, ed, rp⟩ := r.get' (y vs (Same.seqT (s.trans s1) h))
    obtain ⟨d2, ed2, rp2⟩ := r2.get' (y2 ws (Same.seqT (s.trans s1) h2))
    have ex : Ext F1 H (upd F1 T (.tup [v, w])) (upd H T (.tup [v, w])) := Ext.new s1 hT
    exact ⟨_, _, ex, zipD_get ed ed2, Rep.mk_tup (.of upd_same) (RepL.cons (Rep.mono (s.trans ex.f) _ _ rp) (RepL.cons (Rep.mono (s.trans ex.f) _ _ rp2) RepL.nil))⟩
end

/-- a list, a tuple or a text, walked -/
def iAny (K : PySem.W.Frag) (tl : TE) : TI := fun σ H R => tl σ H fun x H1 => (∃ a, x = .ref a ∧ (∃ xs, SqL K H1 a xs) ∧ R (Itl K a) H1) ∨ (∃ a, x = .ref a ∧ (∃ xs, SqT K H1 a xs) ∧ R (Itt K a) H1) ∨ ∃ z, x = .str z ∧ R (Its z) H1
theorem pi_any {X : Cx} {tg l : Expr} {tl : TE} (hl : PE X l tl) : PI X tg l (iAny X.K tl) := by
  refine ⟨fun pins s σ H R I h => ?_⟩
  refine thn (hl.run pins s σ H _ I h) fun v s1 ⟨x, H1, I1, r1, q1⟩ => ?_
  rcases q1 with ⟨a, e, ⟨xs, hq⟩, q⟩ | ⟨a, e, ⟨xs, hq⟩, q⟩ | ⟨z, e, q⟩
  · subst e
    cases r1
    obtain ⟨its, rv, p, hz⟩ := I1.list hq
    refine wpAny_pyIter_list p.isList ?_
    refine ⟨s1.heap.objs.size, [s1.heap.objs.size], _, _, H1, rfl, I1.kept (t' := s1.toks) fun b o e => Heap.get?_push_of_some _ e, turn_list a _, ⟨_, Heap.get?_push_size _ rfl, rfl, rfl⟩, fun b hb => ?_, q⟩
    have e : b = s1.heap.objs.size := by simpa using hb
    subst e
    exact I1.fpOk (Nat.le_refl _) (I1.hok.fresh (Nat.le_refl _))
  · subst e
    cases r1
    obtain ⟨its, rv, p, hz⟩ := I1.tuple hq
    refine wpAny_pyIter_tuple (show s1.heap.IsTuple a its.toArray from p) ?_
    refine ⟨s1.heap.objs.size, [s1.heap.objs.size], _, _, H1, rfl, I1.kept (t' := s1.toks) fun b o e => Heap.get?_push_of_some _ e, turn_tuple a _, ⟨_, Heap.get?_push_size _ rfl, rfl, rfl⟩, fun b hb => ?_, q⟩
    have e : b = s1.heap.objs.size := by simpa using hb
    subst e
    exact I1.fpOk (Nat.le_refl _) (I1.hok.fresh (Nat.le_refl _))
  · subst e
    obtain ⟨t, rfl⟩ := r1
    cases ha : z.cps.all (· < 128)
    · exact wpAny_pyIter_wide ha (pi_one (tk := s1.toks) I1 _ (turn_str _ z t "str_iterator" (.inr rfl)) ⟨_, Heap.get?_push_size _ rfl, rfl, rfl⟩ q)
    · exact wpAny_pyIter_ascii ha (pi_one (tk := s1.toks) I1 _ (turn_str _ z t "str_ascii_iterator" (.inl rfl)) ⟨_, Heap.get?_push_size _ rfl, rfl, rfl⟩ q)
section
variable {X : Cx} {W : WX} {tg e e1 e2 e3 : Expr} {es elts : List Expr} {f : REnv → R D} {t : REnv → R (List D)} {pos p tpos : Pos} {kk : Nat}
def iD (f : REnv → R D) : REnv → R (List D) := fun ρ => (f ρ).bind fun d => .opt (iterD d)
theorem si_any (h : SE X W e f) : SI X W tg e (iD f) := by
  refine ⟨fun pins s σ H R I q => (pi_any (tg := tg) h).run pins s σ H R I ?_⟩
  obtain ⟨G, F, ρ, r, p⟩ := q
  refine ⟨G, F, ρ, r, Post.bind p fun d v F' H' _ ex rp p' => ?_⟩
  cases d with
  | lst xs =>
    obtain ⟨a, vs, e1, h1, h2⟩ := rp.lst_inv
    exact .inl ⟨a, e1, ⟨vs, Same.seq ex.s h1⟩, p' _ F' H' (.refl ex.s) (it_list h1 h2)⟩
  | tup xs =>
    obtain ⟨a, vs, e1, h1, h2⟩ := rp.tup_inv
    exact .inr (.inl ⟨a, e1, ⟨vs, Same.seqT ex.s h1⟩, p' _ F' H' (.refl ex.s) (it_tup h1 h2)⟩)
  | str z => exact .inr (.inr ⟨z, rp.str_inv, p' _ F' H' (.refl ex.s) it_str⟩)
  | _ => exact p'.elim
def Sm (i : Int) : Prop := -(2 ^ 62) ≤ i ∧ i < 2 ^ 62
instance (i : Int) : Decidable (Sm i) := inferInstanceAs (Decidable (_ ∧ _))
def range1 : List D → Option (List D)
  | [.int n] => if Sm n then some (rangeD 0 n.toNat) else none
  | _ => none
def range2 : List D → Option (List D)
  | [.int m, .int n] => if Sm m ∧ Sm n then some (rangeD m (n - m).toNat) else none
  | _ => none
def iArgs (o : List D → Option (List D)) (t : REnv → R (List D)) : REnv → R (List D) := fun ρ => (t ρ).bind fun ds => .opt (o ds)
theorem Post.opt {α β : Type} {K : PySem.W.Frag} {W : WX} {rel : Hp → α → β → Prop} {σ : St} {F H : Hp} {x : Option α} {Q : β → Hp → Prop} (h : Post K W rel σ F H (.opt x) Q) : ∃ a, x = some a ∧ ∀ v F' H', Ext F H F' H' → rel F' a v → Q v H' := by
  cases x with
  | none => exact h.elim
  | some a => exact ⟨a, rfl, h⟩
theorem RepL.one {K : PySem.W.Frag} {F : Hp} {a : D} {vs : List V} (h : RepL K F [a] vs) : ∃ v, vs = [v] ∧ Rep K F a v := by
  simp only [RepL] at h
  obtain ⟨v, r, e, h1, h2⟩ := h
  subst h2
  exact ⟨v, e, h1⟩
theorem RepL.two {K : PySem.W.Frag} {F : Hp} {a b : D} {vs : List V} (h : RepL K F [a, b] vs) : ∃ v w, vs = [v, w] ∧ Rep K F a v ∧ Rep K F b w := by
  simp only [RepL] at h
  obtain ⟨v, r, e, h1, w, r2, e2, h2, h3⟩ := h
  subst h3
  subst e2
  exact ⟨v, w, e, h1, h2⟩
theorem range1_inv {ds rs : List D} (h : range1 ds = some rs) : ∃ n, ds = [.int n] ∧ Sm n ∧ rs = rangeD 0 n.toNat := by
  unfold range1 at h
  split at h
  · split at h
    · cases h; exact ⟨_, rfl, by assumption, rfl⟩
    · cases h
  · cases h
theorem range2_inv {ds rs : List D} (h : range2 ds = some rs) : ∃ m n, ds = [.int m, .int n] ∧ Sm m ∧ Sm n ∧ rs = rangeD m (n - m).toNat := by
  unfold range2 at h
  split at h
  · split at h
    · rename_i z
      cases h; exact ⟨_, _, rfl, z.1, z.2, rfl⟩
    · cases h
  · cases h
theorem si_range1 (hm : X.mg "range" = none) (ha : SA X W [e] t) (hg : Gl X "range" := by rfl) (hs : starEach [e] X.env = [(false, eval e X.env)] := by rfl) : SI X W tg (.Call (.Name "range" p) [e] [] pos) (iArgs range1 t) := by
  refine ⟨fun pins s σ H R I q => (pi_range1 (tg := tg) hg hm ha hs).run pins s σ H R I ?_⟩
  obtain ⟨G, F, ρ, r, p⟩ := q
  refine ⟨G, F, ρ, r, Post.bind p fun ds vs F' H' _ ex rp p' => ?_⟩
  obtain ⟨rs, e1, q⟩ := Post.opt p'
  obtain ⟨n, rfl, hS, rfl⟩ := range1_inv e1
  obtain ⟨v, rfl, h1⟩ := rp.one
  exact ⟨n, by rw [h1.int_inv], hS.1, hS.2, q _ F' H' (.refl ex.s) it_range⟩
theorem si_range2 (hm : X.mg "range" = none) (ha : SA X W [e1, e2] t) (hg : Gl X "range" := by rfl) (hs : starEach [e1, e2] X.env = [(false, eval e1 X.env), (false, eval e2 X.env)] := by rfl) (hs2 : starEach [e2] X.env = [(false, eval e2 X.env)] := by rfl) :
    SI X W tg (.Call (.Name "range" p) [e1, e2] [] pos) (iArgs range2 t) := by
  refine ⟨fun pins s σ H R I q => (pi_range2 (tg := tg) hg hm ha hs hs2).run pins s σ H R I ?_⟩
  obtain ⟨G, F, ρ, r, p⟩ := q
  refine ⟨G, F, ρ, r, Post.bind p fun ds vs F' H' _ ex rp p' => ?_⟩
  obtain ⟨rs, e1, q⟩ := Post.opt p'
  obtain ⟨m, n, rfl, hS, hS2, rfl⟩ := range2_inv e1
  obtain ⟨v, w, rfl, h1, h2⟩ := rp.two
  exact ⟨m, n, by rw [h1.int_inv, h2.int_inv], ⟨hS.1, hS.2, hS2.1, hS2.2⟩, q _ F' H' (.refl ex.s) it_range⟩
def enum1 : List D → Option (List D)
  | [.lst xs] => some (enumD xs)
  | _ => none
def zip2 : List D → Option (List D)
  | [.lst xs, .lst ys] => some (zipD xs ys)
  | [.tup xs, .tup ys] => some (zipD xs ys)
  | _ => none
theorem zip2_inv {ds rs : List D} (h : zip2 ds = some rs) : ∃ xs ys, (ds = [.lst xs, .lst ys] ∨ ds = [.tup xs, .tup ys]) ∧ rs = zipD xs ys := by
  unfold zip2 at h
  split at h
  · cases h; exact ⟨_, _, .inl rfl, rfl⟩
  · cases h; exact ⟨_, _, .inr rfl, rfl⟩
  · cases h
theorem si_zip (hm : X.mg "zip" = none) (ha : SA X W [e1, e2] t) (hg : Gl X "zip" := by rfl) (hs : starEach [e1, e2] X.env = (false, eval e1 X.env) :: starEach [e2] X.env := by rfl) (hpl : (backTo pos (starEach [e2] X.env)).any (·.1) = false := by rfl) :
    SI X W (.Tuple elts kk tpos) (.Call (.Name "zip" p) [e1, e2] [] pos) (iArgs zip2 t) := by
  refine ⟨fun pins s σ H R I q => (RZ.pi_zipA hg hm ha hs hpl).run pins s σ H R I ?_⟩
  obtain ⟨G, F, ρ, r, p⟩ := q
  refine ⟨G, F, ρ, r, Post.bind p fun ds vs F' H' _ ex rp p' => ?_⟩
  obtain ⟨rs, e1, q⟩ := Post.opt p'
  obtain ⟨xs, ys, hds, rfl⟩ := zip2_inv e1
  rcases hds with rfl | rfl
  · obtain ⟨v, w, rfl, h1, h2⟩ := rp.two
    obtain ⟨a, ws, rfl, h3, h4⟩ := h1.lst_inv
    obtain ⟨b, us, rfl, h6, h7⟩ := h2.lst_inv
    exact ⟨a, b, ws, us, rfl, .inl ⟨Same.seq ex.s h3, Same.seq ex.s h6, q _ F' H' (.refl ex.s) (it_zip h3 h4 h6 h7)⟩⟩
  · obtain ⟨v, w, rfl, h1, h2⟩ := rp.two
    obtain ⟨a, ws, rfl, h3, h4⟩ := h1.tup_inv
    obtain ⟨b, us, rfl, h6, h7⟩ := h2.tup_inv
    exact ⟨a, b, ws, us, rfl, .inr ⟨Same.seqT ex.s h3, Same.seqT ex.s h6, q _ F' H' (.refl ex.s) (it_zipT h3 h4 h6 h7)⟩⟩
end

/-! ### comprehensions -/
def R.get {α : Type} : R α → Option α
  | .ok a => some a
  | _ => none
def wipeE (ρ : REnv) : List Nat → REnv
  | [] => ρ
  | v :: vs => (wipeE ρ vs).set v .un
theorem RepE.wipe {K : PySem.W.Frag} {G F H : Hp} {σ : St} {ρ : REnv} (r : RepE K G F H σ ρ) : ∀ vs : List Nat, RepE K G F H (L2.wipe σ vs) (wipeE ρ vs)
  | [] => r
  | v :: vs => (RepE.wipe r vs).unset
theorem wipe_in {σ : St} {j : Nat} : ∀ {vs : List Nat}, j ∈ vs → (L2.wipe σ vs)[j]? = if j < σ.length then some none else none
  | v :: vs, h => by
    unfold L2.wipe
    by_cases e : v = j
    · subst e
      rw [List.getElem?_set, if_pos rfl]
      rw [wipe_length]
    · rw [List.getElem?_set_ne e]
      exact wipe_in (by rcases List.mem_cons.mp h with z | z; exact absurd z.symm e; exact z)
theorem wipe_only {σ σ' : St} {vs is : List Nat} (h : OnlyAt is (L2.wipe σ vs) σ') (hs : ∀ i ∈ is, i ∈ vs) : L2.wipe σ' vs = L2.wipe σ vs := by
  have hl : σ'.length = σ.length := by rw [h.1, wipe_length]
  apply List.ext_getElem?
  intro j
  by_cases hj : j ∈ vs
  · rw [wipe_in hj, wipe_in hj, hl]
  · rw [wipe_out hj, h.2 j fun z => hj (hs j z)]
def compS (b : D → REnv → Option REnv) (c : REnv → R Bool) (e : REnv → R D) : List D → REnv → Option (List D)
  | [], _ => some []
  | d :: ds, ρ => (b d ρ).bind fun ρ' => (c ρ').get.bind fun k => if k = true then (e ρ').get.bind fun v => (compS b c e ds ρ).bind fun r => some (v :: r) else compS b c e ds ρ
def eComp (vs : List Nat) (f : REnv → R (List D)) (b : D → REnv → Option REnv) (c : REnv → R Bool) (e : REnv → R D) : REnv → R D :=
  fun ρ => (f ρ).bind fun ds => if ds.length ≤ sizeLine then .opt ((compS b c e ds (wipeE ρ vs)).map .lst) else .bad
/-- inside a comprehension nothing may be raised -/
abbrev W0 : WX := fun _ _ _ _ => False
theorem Post.get {α β : Type} {K : PySem.W.Frag} {rel : Hp → α → β → Prop} {σ : St} {F H : Hp} {x : R α} {a : α} {Q : β → Hp → Prop} (e : x.get = some a) (q : ∀ v F' H', Ext F H F' H' → rel F' a v → Q v H') : Post K W0 rel σ F H x Q := by
  cases x with
  | ok b => cases e; exact q
  | err d => cases e
  | bad => cases e
theorem comp_read {K : PySem.W.Frag} {W : WX} {vs is : List Nat} {fi : REnv → R (List D)} {t : TG} {b : D → REnv → Option REnv} {c : REnv → R Bool} {e : REnv → R D} (hk : TgOk K t b is) (hs : ∀ i ∈ is, i ∈ vs) {σ : St} {H : Hp} {Q : VK}
    (hh : rd K W (eComp vs fi b c e) σ H Q) : tLc (ri K W fi) t (rt K W0 c) (rd K W0 e) vs σ H Q := by
  obtain ⟨G, F, ρ, r0, p⟩ := hh
  refine ⟨G, F, ρ, r0, Post.bind p fun ds J F1 H1 _ ex1 hJ p1 => ?_⟩
  have r1 := (r0.ext ex1).wipe vs
  by_cases hl : ds.length ≤ sizeLine
  case neg => rw [if_neg hl] at p1; exact p1.elim
  rw [if_pos hl] at p1
  cases hr : compS b c e ds (wipeE ρ vs) with
  | none => rw [hr] at p1; exact p1.elim
  | some res =>
    rw [hr] at p1
    intro A hA
    have p2 : ∀ v F' H', Ext F1 H1 F' H' → Rep K F' (.lst res) v → Q v H' := p1
    let Pv : Nat → Hp → Prop := fun i H => ∃ F' acc ws rest, Ext F1 H1 F' H ∧ F' A = none ∧ H A = some (.lst ws) ∧ RepL K F' acc ws ∧ acc.length ≤ i ∧ compS b c e (ds.drop i) (wipeE ρ vs) = some rest ∧ acc ++ rest = res
    have hF1 : F1 A = none := ex1.s.free hA
    refine ⟨fun i m H => m = ds.length - i ∧ i ≤ ds.length ∧ Pv i H, ⟨ds.length, by simp, Nat.zero_le _, F1, [], [], res, Ext.newH ex1.s hA, hF1, upd_same, RepL.nil, Nat.le_refl _, by simpa using hr, rfl⟩, ?_⟩
    rintro i m H2 ⟨rfl, hi, F', acc, ws, rest, ex, hFA, hHA, rl, hal, hc, he⟩
    by_cases hlt : i < ds.length
    · refine .inr ⟨hJ.go i H2 hlt (ex.f.trans ex.s), Pv (i + 1), fun H' q => ⟨ds.length - (i + 1), by omega, rfl, hlt, q⟩, fun x H' y => ?_⟩
      obtain ⟨F2, d, ex2, ed, rp⟩ := hJ.yld i H2 x H' F' hlt ex.f ex.s y
      have dr : ds.drop i = d :: ds.drop (i + 1) := by
        obtain ⟨h1, h2⟩ := List.getElem?_eq_some_iff.mp ed
        rw [← h2]
        exact List.drop_eq_getElem_cons h1
      rw [dr] at hc
      unfold compS at hc
      obtain ⟨ρ', hb, hc⟩ := Option.bind_eq_some_iff.mp hc
      obtain ⟨k, hk1, hc⟩ := Option.bind_eq_some_iff.mp hc
      have r2 : RepE K G F2 H' (L2.wipe σ vs) (wipeE ρ vs) := r1.ext (ex.trans ex2)
      refine hk G F2 H' _ _ ρ' d x _ r2 rp hb fun σ2 r3 o2 => ⟨wipe_only o2 hs, G, F2, ρ', r3, Post.get hk1 fun k' F3 H3 ex3 ek => ?_⟩
      subst ek
      have stay : ∀ {Fa Ha Fb Hb : Hp}, Ext Fa Ha Fb Hb → Fa A = none → Ha A = some (.lst ws) → Fb A = none ∧ Hb A = some (.lst ws) := fun {Fa Ha Fb Hb} z h1 h2 => by
        refine ⟨?_, z.h _ _ h2⟩
        cases q : Fb A with
        | none => rfl
        | some o =>
          have := z.n A o q h1
          rw [h2] at this
          cases this
      obtain ⟨a2, b2⟩ := stay ex2 hFA hHA
      obtain ⟨a3, b3⟩ := stay ex3 a2 b2
      cases k with
      | false =>
        refine iteF ?_
        rw [if_neg Bool.false_ne_true] at hc
        exact ⟨F3, acc, ws, rest, (ex.trans ex2).trans ex3, a3, b3, RepL.mono (ex2.f.trans ex3.f) _ _ rl, Nat.le_succ_of_le hal, hc, he⟩
      | true =>
        refine iteT ?_
        rw [if_pos rfl] at hc
        obtain ⟨v, hv, hc⟩ := Option.bind_eq_some_iff.mp hc
        obtain ⟨rr, hr2, hc⟩ := Option.bind_eq_some_iff.mp hc
        cases hc
        refine ⟨G, F3, ρ', r3.ext ex3, Post.get hv fun y F4 H4 ex4 ry => ?_⟩
        obtain ⟨a4, b4⟩ := stay ex4 a3 b3
        have exA := ((ex.trans ex2).trans ex3).trans ex4
        refine ⟨ws, b4, ?_, F4, acc ++ [v], ws ++ [y], rr, ⟨exA.f, fun q o z => ?_, fun q o z => ?_, exA.n⟩, a4, upd_same, (RepL.mono ((ex2.f.trans ex3.f).trans ex4.f) _ _ rl).snoc ry, ?_, hr2, by simpa using he⟩
        · rw [← rl.length]; omega
        · rw [upd_ne (ne_of_none z hA)]; exact exA.h _ _ z
        · rw [upd_ne (ne_of_none z a4)]; exact exA.s _ _ z
        · simp; omega
    · have e : i = ds.length := by omega
      subst e
      rw [List.drop_length] at hc
      unfold compS at hc
      cases hc
      rw [List.append_nil] at he
      subst he
      refine .inl ⟨hJ.stop H2 (ex.f.trans ex.s), p2 (.ref A) (upd F' A (.lst ws)) H2 ⟨ex.f.trans (same_upd hFA), ex.h, fun q o z => ?_, fun q o z z2 => ?_⟩ (Rep.mk_lst (.of upd_same) (RepL.mono (same_upd hFA) _ _ rl))⟩
      · by_cases hq : q = A
        · subst hq; rw [upd_same] at z; rw [← z]; exact hHA
        · rw [upd_ne hq] at z; exact ex.s _ _ z
      · by_cases hq : q = A
        · subst hq; exact hA
        · rw [upd_ne hq] at z; exact ex.n _ _ z z2
section
variable {X : Cx} {W : WX} {elt tg iter : Expr} {ifs : List Expr} {scope : Scope} {own : List (Str × Nat)} {pos : Pos} {fi : REnv → R (List D)} {t : TG} {b : D → REnv → Option REnv} {c : REnv → R Bool} {e : REnv → R D} {is : List Nat}
abbrev SIf (X : Cx) (W : WX) (ifs : List Expr) (f : REnv → R Bool) : Prop := PTs X ifs (rt X.K W f)
def eYes : REnv → R Bool := fun _ => .ok true
theorem sif_nil : SIf X W [] eYes := ⟨fun pins s σ H Q I ⟨G, F, ρ, r, p⟩ => pts_nil.run pins s σ H Q I (p true F H (.refl r.f) rfl)⟩
theorem sif_one {a : Expr} (h : ST X W a c) : SIf X W [a] c := pts_one h
/-- the block's context -/
abbrev Bl (X : Cx) (s : Shared) (H : Hp) (scope : Scope) (C : Addr) (cl : List (Str × Addr)) (fp : List Addr) : Cx := X.blk s H scope (compEnvC scope cl C X.env) fp
theorem se_comp (hc : X.calm = true) (hN : X.N.Nodup) (ok : BlkOk X.N X.env.scope scope own) (hi : SI X W tg iter fi) (hk : TgOk X.K t b is) (hg : ∀ s H C cl fp, PG (Bl X s H scope C cl fp) tg t) (ht : ∀ s H C cl fp, SIf (Bl X s H scope C cl fp) W0 ifs c)
    (he : ∀ s H C cl fp, SE (Bl X s H scope C cl fp) W0 elt e) (hsub : (is.all fun i => (own.map (·.2)).contains i) = true := by decide)
    (hs : ∀ x, foldedSetIterable iter X.env x = pure x := by intro _; rfl) : SE X W (.ListComp elt [⟨tg, iter, ifs, 0⟩] scope pos) (eComp (own.map (·.2)) fi b c e) :=
  (pe_lc hc hN hi ok hg ht he hs).dy fun σ H Q hh => comp_read hk (fun i h => List.contains_iff_mem.mp (List.all_eq_true.mp hsub i h)) hh
theorem ss_setc {i : Nat} {y : Str} {py spos : Pos} (hc : X.calm = true) (hN : X.N.Nodup) (hsw : swapsWith (.ListComp elt [⟨tg, iter, ifs, 0⟩] scope pos) (some (.Name y py)) spos.line X.env = pure true) (ok : BlkOk X.N X.env.scope scope own)
    (hi : SI X W tg iter fi) (hk : TgOk X.K t b is) (hg : ∀ s H C cl fp, PG (Bl X s H scope C cl fp) tg t) (ht : ∀ s H C cl fp, SIf (Bl X s H scope C cl fp) W0 ifs c)
    (he : ∀ s H C cl fp, SE (Bl X s H scope C cl fp) W0 elt e) (hy : X.N[i]? = some y := by rfl) (hyl : X.env.scope.names.lookup y = some .local := by rfl) (hsub : (is.all fun i => (own.map (·.2)).contains i) = true := by decide)
    (hs : ∀ x, foldedSetIterable iter X.env x = pure x := by intro _; rfl) : SS X W (.Assign [.Name y py] (.ListComp elt [⟨tg, iter, ifs, 0⟩] scope pos) spos) (sSet i (eComp (own.map (·.2)) fi b c e)) :=
  (ps_setLc hc hN hy hyl hsw hi ok hg ht he hs).dy fun D σ H ⟨G, F, ρ, r, p⟩ => comp_read (Q := fun x H1 => gName i x σ H1 D.nx) hk (fun i h => List.contains_iff_mem.mp (List.all_eq_true.mp hsub i h))
    ⟨G, F, ρ, r, PostS.toS r p fun d v F' H' _ ex rp r' p' => p' _ F' H' (.refl _) .refl (r'.setV rp)⟩
end

/-! ### defs -/
def spD (K : PySem.W.Frag) (n : Nat) (fn : List D → R D) : Sp := fun vs H Q E => vs.length = n ∧ ∃ F ds, Same F H ∧ RepL K F ds vs ∧ Post K (fun cls dd _ H' => E cls dd H') (Rep K) [] F H (fn ds) Q
def SR.out : SR → R D
  | .next _ => .ok .non
  | .ret d => .ok d
  | .err e _ => .err e
  | .bad => .bad
/-- a def by its body: n parameters, m slots in all -/
def fnD (n m : Nat) (g : REnv → SR) : List D → R D := fun ds => if ds.length = n then (g (ds.map .val ++ List.replicate (m - n) .un)).out else .bad
theorem fnD_len {n m : Nat} {g : REnv → SR} {ds : List D} (h : ds.length ≠ n) : fnD n m g ds = .bad := if_neg h
section
variable {P : Program} {w : World} {K : PySem.W.Frag} {mg : Str → Option Value} {base : Heap} {x qual : Str} {params : Arguments} {body : List Stmt} {scope : Scope} {f : Addr} {fd : FuncData} {N ps : List Str} {k : Nat}
abbrev CxD (P : Program) (w : World) (K : PySem.W.Frag) (mg : Str → Option Value) (base : Heap) (N : List Str) (qual : Str) (scope : Scope) (f : Addr) (cd : Value) (A : Around) (outer : List Env) (s : Shared) (H : Hp) (E : XK) : Cx := cxOf (L2.CX P w) P w K mg base N qual scope f cd A outer s H E
abbrev WD (E : XK) : WX := fun cls dd _ H => E cls dd H
theorem repE_start {F H : Hp} {ds : List D} {vs : List V} (s : Same F H) (r : RepL K F ds vs) : RepE K H F H (L2.start N vs) (ds.map .val ++ List.replicate (N.length - ds.length) .un) := by
  have hl := r.length
  refine ⟨.refl _, s, by unfold L2.start; simp [hl], fun i sl x h1 h2 => ?_, fun i j sl t x y a hij h1 h2 h3 h4 m1 m2 => ?_⟩
  · by_cases hi : i < ds.length
    · rw [List.getElem?_append_left (by simpa using hi), List.getElem?_map] at h1
      obtain ⟨v, ev, rv⟩ := r.get (List.getElem?_eq_getElem hi)
      rw [List.getElem?_eq_getElem hi] at h1
      cases h1
      unfold L2.start at h2
      rw [List.getElem?_append_left (by simpa [← hl] using hi), List.getElem?_map, ev] at h2
      cases h2
      exact ⟨v, rfl, rv⟩
    · rw [List.getElem?_append_right (by simpa using hi), List.getElem?_replicate] at h1
      split at h1
      · cases h1; trivial
      · cases h1
  · by_cases hi : i < ds.length
    · rw [List.getElem?_append_left (by simpa using hi), List.getElem?_map, List.getElem?_eq_getElem hi] at h1
      cases h1
      exact m1.elim
    · rw [List.getElem?_append_right (by simpa using hi), List.getElem?_replicate] at h1
      split at h1
      · cases h1; exact m1.elim
      · cases h1
theorem ok_def {n : Nat} {g : REnv → SR} (Fn : FunD K x qual params body scope [] [] f fd) (S : FnScope N ps scope) (hn : ps.length = n)
    (hb : ∀ (cdv : Value) (A : Around) (outer : List Env) (s : Shared) (H : Hp) (E : XK), Room k (CxD P w K mg base N qual scope f cdv A outer s H E).A → Takes (CxD P w K mg base N qual scope f cdv A outer s H E) (WD E) →
      PassesOwn (model P w) (CxD P w K mg base N qual scope f cdv A outer s H E).A (CxD P w K mg base N qual scope f cdv A outer s H E).env (CxD P w K mg base N qual scope f cdv A outer s H E).xe → SSs (CxD P w K mg base N qual scope f cdv A outer s H E) (WD E) body g) :
    FnOk P w K mg base (L2.CX P w) (k + 1) f fd ps (spD K n (fnD n N.length g)) := by
  refine Fn.ok S (fun vs H Q E h => by rw [hn]; exact h.1) fun cdv A outer s H vs Q E hr hsp => ⟨_, hb cdv A outer s H E hr (takes_of rfl rfl rfl rfl) (passes_of rfl), ?_⟩
  obtain ⟨hv, F, ds, sm, rl, p⟩ := hsp
  have hd : ds.length = n := by rw [rl.length, hv]
  unfold fnD at p
  rw [if_pos hd] at p
  refine ⟨H, F, _, repE_start sm rl, ?_⟩
  rw [hd]
  cases e : g (ds.map .val ++ List.replicate (N.length - n) .un) with
  | next ρ =>
    rw [e] at p
    exact fun σ' F' H' s1 n1 r => p .non F' H' ⟨s1, r.g, r.f, n1⟩ Rep.mk_non
  | ret d =>
    rw [e] at p
    exact fun v F' H' s1 n1 g1 f1 r => p v F' H' ⟨s1, g1, f1, n1⟩ r
  | err d ρ =>
    rw [e] at p
    exact fun σ' F' H' cls dd s1 n1 r q => p cls dd F' H' ⟨s1, r.g, r.f, n1⟩ q
  | bad => rw [e] at p; exact p.elim
end
section
variable {X : Cx} {W : WX} {e : Expr} {es : List Expr} {x : Str} {p pos : Pos} {k n : Nat} {f : Addr} {fd : FuncData} {ps : List Str} {t : REnv → R (List D)} {fn : List D → R D}
def eCall (fn : List D → R D) (t : REnv → R (List D)) : REnv → R D := fun ρ => (t ρ).bind fn
theorem se_call (Fo : FnOk X.prog X.w X.K X.mg X.base (L2.CX X.prog X.w) k f fd ps (spD X.K n fn)) (hl : ∀ ds, ds.length ≠ n → fn ds = .bad) (tk : Takes X W) (hr : Room k X.A) (hm : X.mg x = some (.ref f)) (hk : PySem.W.keepIn X.K (.ref f) = true) (hb : Binds X.K fd ps [])
    (ha : SA X W (e :: es) t) (hg : Gl X x := by rfl) (hdb : (x == ("__debug__" : Str)) = false := by decide) (he : starEach (e :: es) X.env = (false, eval e X.env) :: starEach es X.env := by rfl) (hpl : (backTo pos (starEach es X.env)).any (·.1) = false := by rfl) :
    SE X W (.Call (.Name x p) (e :: es) [] pos) (eCall fn t) :=
  (pe_callS (E := WE W) Fo hr hg hm hk hb (fun σ => passAt tk σ) ha hdb he hpl).dy fun σ H Q ⟨G, F, ρ, r, p⟩ => ⟨G, F, ρ, r, Post.bind p fun ds vs F' H' _ ex rp p' => by
    have hn : ds.length = n := Classical.byContradiction fun z => by
      rw [hl ds z] at p'
      exact p'
    refine ⟨by rw [← rp.length]; exact hn, F', ds, ex.s, rp, ?_⟩
    cases q : fn ds with
    | ok d => rw [q] at p'; exact p'
    | err d => rw [q] at p'; exact p'
    | bad => rw [q] at p'; exact p'⟩
end

/-! ### lists of one's own -/
section
variable {X : Cx} {W : WX} {st : Stmt} {g : REnv → SR} {e : Expr} {f : REnv → R D} {pos : Pos}
/-- ahead of a statement the list at slot i is let go: it is kept from here on -/
def eFreeze (i : Nat) (ρ : REnv) : REnv := match ρ[i]? with
  | some (.own ds) => ρ.set i (.val (.lst ds))
  | some (.tree o) => ρ.set i (.val o.toD)
  | some (.pin _ o) => ρ.set i (.val o.toD)
  | _ => ρ
def sFreeze (i : Nat) (g : REnv → SR) : REnv → SR := fun ρ => g (eFreeze i ρ)
theorem ss_freeze (i : Nat) (h : SS X W st g) : SS X W st (sFreeze i g) := PS.dy h fun D σ H ⟨G, F, ρ, r, p⟩ => by
  unfold sFreeze eFreeze at p
  cases q : ρ[i]? with
  | none => rw [q] at p; exact ⟨G, F, ρ, r, p⟩
  | some s =>
    rw [q] at p
    cases s with
    | own ds =>
      obtain ⟨F', s1, n1, r1⟩ := r.freeze q
      exact ⟨G, F', _, r1, PostS.ext s1 n1 p⟩
    | tree o =>
      obtain ⟨F', s1, n1, r1⟩ := r.freezeT q
      exact ⟨G, F', _, r1, PostS.ext s1 n1 p⟩
    | pin w o =>
      obtain ⟨F', s1, n1, r1⟩ := r.freezeP q
      exact ⟨G, F', _, r1, PostS.ext s1 n1 p⟩
    | _ => exact ⟨G, F, ρ, r, p⟩
/-- x = [..], a list of one's own -/
def sOwn (i : Nat) (t : REnv → R (List D)) : REnv → SR := fun ρ => (t ρ).toS ρ fun ds => if ds.length ≤ sizeLine then .next (ρ.set i (.own ds)) else .bad
theorem ss_own {i : Nat} {x : Str} {pos' lp : Pos} {es : List Expr} {t : REnv → R (List D)} (hN : X.N.Nodup) (ha : SA X W es t) (hi : X.N[i]? = some x := by rfl) (hx : Loc X.env.scope x := by first | exact Or.inl rfl | exact Or.inr rfl) (hs : swapsWith (.List es lp) (some (.Name x pos')) pos.line X.env = pure false := by rfl)
    (hf : X.fn x = true ∨ X.env.scope.names.lookup x = some .local := by first | exact .inl rfl | exact .inr rfl | assumption) : SS X W (.Assign [.Name x pos'] (.List es lp) pos) (sOwn i t) :=
  (ps_set hN hi hx (pe_lst ha) hs hf).dy fun D σ H ⟨G, F, ρ, r, p⟩ => ⟨G, F, ρ, r, PostS.toS r p fun ds vs F' H' _ ex rp r' p' => by
    by_cases hl : ds.length ≤ sizeLine
    · rw [if_pos hl] at p'
      exact ⟨by rw [← rp.length]; exact hl, fun q hq => p' _ F' _ (.refl _) .refl (r'.setO rp hq)⟩
    · rw [if_neg hl] at p'; exact p'.elim⟩
/-- x.append(e) -/
def sApp (i : Nat) (f : REnv → R D) : REnv → SR := fun ρ => match ρ[i]? with
  | some (.own ds) => (f ρ).toS ρ fun d => if ds.length < sizeLine then .next (ρ.set i (.own (ds ++ [d]))) else .bad
  | _ => .bad
theorem own_at {K : PySem.W.Frag} {G F H : Hp} {σ : St} {ρ : REnv} (r : RepE K G F H σ ρ) {i : Nat} {ds : List D} (h : ρ[i]? = some (.own ds)) : ∃ a vs, σ[i]? = some (some (.ref a)) ∧ H a = some (.lst vs) ∧ RepL K F ds vs := by
  have hl : i < σ.length := by
    rw [← r.len]
    exact (List.getElem?_eq_some_iff.mp h).1
  obtain ⟨a, vs, e1, e2, e3, _⟩ := r.at_ i _ _ h (List.getElem?_eq_getElem hl)
  exact ⟨a, vs, by rw [List.getElem?_eq_getElem hl, e1], e2, e3⟩
theorem ss_app (i : Nat) {x : Str} {ap np : Pos} {xp : Pos} (he : SE X W e f) (hN : X.N[i]? = some x := by rfl) (hv : Vis X.env.scope x := by first | exact Or.inl rfl | exact Or.inr (Or.inl rfl) | exact Or.inr (Or.inr rfl)) (hd : (x == ("__debug__" : Str)) = false := by decide) (hcd : (x == ("__classdict__" : Str)) = false := by decide)
    (hbm : ∀ {te : TE} {ta : TA}, PE X (.Name x np) te → PA X [e] ta → PE X (.Call (.Attribute (.Name x np) "append" ap) [e] [] xp) (tBM X.K "list" rAppend te ta) := by exact fun h1 h2 => pe_bm PySem.F.plainAttrs_list PySem.F.slot_list_append PySem.F.type_list_append mt_append h1 h2)
    (hse : starEach (e :: []) X.env = (false, eval e X.env) :: starEach [] X.env := by rfl)
    (hs : swapsWith (.Call (.Attribute (.Name x np) "append" ap) [e] [] xp) none pos.line X.env = pure false := by rfl) : SS X W (.Expr (.Call (.Attribute (.Name x np) "append" ap) [e] [] xp) pos) (sApp i f) :=
  (ps_expr (hbm (pe_var hN hv hd hcd) (pa_cons he pa_nil hse)) hs).dy fun D σ H ⟨G, F, ρ, r, p⟩ => by
    unfold sApp at p
    split at p
    · rename_i ds z
      obtain ⟨a, vs, h1, h2, h3⟩ := own_at r z
      refine ⟨.ref a, h1, .inl ⟨rfl, _, SqL.of h2⟩, G, F, ρ, r, PostS.toS r p fun d v F' H' _ ex rp r' p' => ?_⟩
      by_cases hl : ds.length < sizeLine
      · rw [if_pos hl] at p'
        exact ⟨a, vs, v, rfl, rfl, ex.h _ _ h2, by rw [← h3.length]; exact hl, p' σ F' _ (.refl _) .refl (r'.turnO z h1 ((RepL.mono ex.f _ _ h3).snoc rp))⟩
      · rw [if_neg hl] at p'; exact p'.elim
    · exact p.elim
end
end Dy

set_option Elab.async false
set_option linter.all false
set_option maxRecDepth 100000
namespace Dy
open PySem PySem.Spec PyProof.Rows L2

/-! ### arithmetic -/
def MuOk (i j : Int) : Prop := i.natAbs.log2 + j.natAbs.log2 < 100000000
instance (i j : Int) : Decidable (MuOk i j) := inferInstanceAs (Decidable (_ < _))
theorem MuOk.ok {i j : Int} (h : MuOk i j) : IntMulOk i j := by
  have b : ∀ x : Int, Builtin.Int.intBits x ≤ x.natAbs.log2 + 1 := fun x => by
    unfold Builtin.Int.intBits
    split <;> omega
  have h1 := b i
  have h2 := b j
  have h3 : i.natAbs.log2 + j.natAbs.log2 < 100000000 := h
  have e : bitsLine = 134217728 := by decide
  unfold IntMulOk
  intro z
  rw [Bool.and_eq_true] at z
  have z2 := z.2
  unfold Builtin.Int.intTooBig at z2
  have z3 := of_decide_eq_true z2
  rw [e] at z3
  omega
def DivOk (j : Int) : Prop := j ≠ 0 ∧ j.natAbs.log2 < 9000
instance (j : Int) : Decidable (DivOk j) := inferInstanceAs (Decidable (_ ∧ _))
def oII (f : Int → Int → Option D) : D → D → Option D
  | .int i, .int j => f i j
  | _, _ => none
theorem oII_inv {f : Int → Int → Option D} {a b d : D} (h : oII f a b = some d) : ∃ i j, a = .int i ∧ b = .int j ∧ f i j = some d := by
  unfold oII at h
  split at h
  · exact ⟨_, _, rfl, rfl, h⟩
  · cases h
section
variable {X : Cx}
theorem op2_ii {C : Int → Int → Prop} {g : Int → Int → V} {f : Int → Int → Option D} {K : PySem.W.Frag} (h : ∀ i j d, f i j = some d → C i j ∧ ∀ F, Rep K F d (g i j)) : Op2 K (rI C g) (oII f) := fun F H x y a b d Q s ra rb e q => by
  obtain ⟨i, j, rfl, rfl, e2⟩ := oII_inv e
  obtain ⟨h1, h2⟩ := h i j d e2
  exact ⟨i, j, ra.int_inv, rb.int_inv, h1, now q s (h2 F)⟩
theorem op2_ii0 {g : Int → Int → V} {f : Int → Int → Option D} {K : PySem.W.Frag} (h : ∀ i j d, f i j = some d → ∀ F, Rep K F d (g i j)) : Op2 K (rI0 g) (oII f) := fun F H x y a b d Q s ra rb e q => by
  obtain ⟨i, j, rfl, rfl, e2⟩ := oII_inv e
  exact ⟨i, j, ra.int_inv, rb.int_inv, now q s (h i j d e2 F)⟩
def oSub : D → D → Option D := oII fun i j => some (.int (i - j))
def oMul : D → D → Option D := oII fun i j => if MuOk i j then some (.int (i * j)) else none
def oDiv : D → D → Option D := oII fun i j => if DivOk j then some (.int (i.fdiv j)) else none
def oMod : D → D → Option D := oII fun i j => if j ≠ 0 then some (.int (i.fmod j)) else none
def oPow : D → D → Option D := oII fun i j => if 0 ≤ j ∧ j ≤ 1000000 ∧ i.natAbs < 2 ^ 64 then some (.int (i ^ j.toNat)) else none
def oLt : D → D → Option D := oII fun i j => some (.bl (decide (i < j)))
def oLe : D → D → Option D := oII fun i j => some (.bl (decide (i ≤ j)))
def oGt : D → D → Option D := oII fun i j => some (.bl (decide (j < i)))
def oGe : D → D → Option D := oII fun i j => some (.bl (decide (j ≤ i)))
theorem d_sub : OpR X (binaryOp .Sub) (rI0 fun i j => .int (i - j)) ∧ Op2 X.K (rI0 fun i j => .int (i - j)) oSub := ⟨op_sub, op2_ii0 fun i j d e F => by cases e; exact Rep.mk_int⟩
theorem d_mul : OpR X (binaryOp .Mult) (rI MuOk fun i j => .int (i * j)) ∧ Op2 X.K (rI MuOk fun i j => .int (i * j)) oMul :=
  ⟨opI fun _ _ _ _ _ _ _ hc q => mul_int q hc.ok, op2_ii fun i j d e => by
    by_cases h : MuOk i j
    · simp only [if_pos h] at e
      cases e
      exact ⟨h, fun F => Rep.mk_int⟩
    · simp only [if_neg h] at e; cases e⟩
theorem d_div : OpR X (binaryOp .FloorDiv) (rI (fun _ j => DivOk j) fun i j => .int (i.fdiv j)) ∧ Op2 X.K (rI (fun _ j => DivOk j) fun i j => .int (i.fdiv j)) oDiv :=
  ⟨opI fun _ _ _ _ _ _ _ hc q => floordiv_int hc.1 q (.inl (PyProof.noPylong_of_log2 hc.2)), op2_ii fun i j d e => by
    by_cases h : DivOk j
    · simp only [if_pos h] at e
      cases e
      exact ⟨h, fun F => Rep.mk_int⟩
    · simp only [if_neg h] at e; cases e⟩
theorem d_mod : OpR X (binaryOp .Mod) (rI (fun _ j => j ≠ 0) fun i j => .int (i.fmod j)) ∧ Op2 X.K (rI (fun _ j => j ≠ 0) fun i j => .int (i.fmod j)) oMod :=
  ⟨op_modN, op2_ii fun i j d e => by
    by_cases h : j ≠ 0
    · simp only [if_pos h] at e
      cases e
      exact ⟨h, fun F => Rep.mk_int⟩
    · simp only [if_neg h] at e; cases e⟩
theorem d_pow : OpR X (binaryOp .Pow) (rI CPow fun i j => .int (i ^ j.toNat)) ∧ Op2 X.K (rI CPow fun i j => .int (i ^ j.toNat)) oPow :=
  ⟨op_pow, op2_ii fun i j d e => by
    by_cases h : 0 ≤ j ∧ j ≤ 1000000 ∧ i.natAbs < 2 ^ 64
    · simp only [if_pos h] at e
      cases e
      exact ⟨h, fun F => Rep.mk_int⟩
    · simp only [if_neg h] at e; cases e⟩
theorem d_lt : OpR X (compareOp .Lt) (rI0 fun i j => .bl (decide (i < j))) ∧ Op2 X.K (rI0 fun i j => .bl (decide (i < j))) oLt := ⟨op_lt, op2_ii0 fun i j d e F => by cases e; exact Rep.mk_bl⟩
theorem d_gt : OpR X (compareOp .Gt) (rI0 fun i j => .bl (decide (j < i))) ∧ Op2 X.K (rI0 fun i j => .bl (decide (j < i))) oGt := ⟨op_gt, op2_ii0 fun i j d e F => by cases e; exact Rep.mk_bl⟩
theorem d_ge : OpR X (compareOp .GtE) (rI0 fun i j => .bl (decide (j ≤ i))) ∧ Op2 X.K (rI0 fun i j => .bl (decide (j ≤ i))) oGe := ⟨op_ge, op2_ii0 fun i j d e F => by cases e; exact Rep.mk_bl⟩
def oNeg : D → Option D
  | .int i => some (.int (-i))
  | _ => none
theorem d_neg : UnR X (unaryOp .USub) (rU fun i => .int (-i)) ∧ Op1 X.K (rU fun i => .int (-i)) oNeg := ⟨un_neg, fun F H x a d Q s ra e q => by
  unfold oNeg at e
  split at e
  · cases e; exact ⟨_, ra.int_inv, now q s Rep.mk_int⟩
  · cases e⟩

/-! ### + of ints, texts, lists, tuples -/
def oAddS : D → D → Option D
  | .str a, .str b => if a.length + b.length ≤ sizeLine then some (.str (a ++ b)) else none
  | _, _ => none
def oAddL : D → D → Option D
  | .lst a, .lst b => if a.length + b.length ≤ sizeLine then some (.lst (a ++ b)) else none
  | _, _ => none
def oAddT : D → D → Option D
  | .tup a, .tup b => if a.length + b.length ≤ sizeLine then some (.tup (a ++ b)) else none
  | _, _ => none
def rCatW (K : PySem.W.Frag) : R2 := fun x y H Q => ∃ l b xs zs, x = .ref l ∧ y = .ref b ∧ SqL K H l xs ∧ SqL K H b zs ∧ xs.length + zs.length ≤ sizeLine ∧ ∀ p, H p = none → Q (.ref p) (upd H p (.lst (xs ++ zs)))
theorem op_catW : OpR X (binaryOp .Add) (rCatW X.K) := by
  intro pins s σ H x y v u Q I rx ry h
  obtain ⟨l, b, xs, zs, rfl, rfl, hH, hB, hz, q⟩ := h
  cases rx
  cases ry
  obtain ⟨its, r, pl, hl⟩ := I.list hH
  obtain ⟨its2, r2, pl2, hl2⟩ := I.list hB
  obtain ⟨⟨cls, dd, data, sl⟩, n, ho, hc, hdd, hd⟩ := pl
  obtain ⟨⟨cls2, dd2, data2, sl2⟩, n2, ho2, hc2, hdd2, hd2⟩ := pl2
  simp only at hc hd hc2 hd2
  subst hc hd hc2 hd2
  have e : its.toArray ++ its2.toArray = (its ++ its2).toArray := by simp
  have l1 := r.length
  have l2 := r2.length
  refine concat_meets ⟨_, ho, rfl⟩ ⟨_, ho2, rfl⟩ noFill_list_add seq_list_add PySem.F.slot_list_add PySem.F.entry_list_add (PySem.F.args_list_add_2 _ _) (list_addW l b its.toArray its2.toArray n n2 dd dd2 sl sl2 (by simp; omega)) ⟨ho, ho2, ?_⟩
  rw [e]
  exact ⟨.ref _, _, I.lnew (t' := s.toks) (r.append r2) (by rw [List.length_append]; omega), rfl, q _ I.fresh⟩
abbrev rAddS : R2 := fun x y H Q => ∃ i j, x = .str i ∧ y = .str j ∧ i.length + j.length ≤ sizeLine ∧ Q (.str (i ++ j)) H
theorem o_addS : Op2 X.K rAddS oAddS := fun F H x y a b d Q s ra rb e q => by
  unfold oAddS at e
  split at e
  · split at e
    · cases e; exact ⟨_, _, ra.str_inv, rb.str_inv, by assumption, now q s Rep.mk_str⟩
    · cases e
  · cases e
theorem o_addL : Op2 X.K (rCatW X.K) oAddL := fun F H x y a b d Q s ra rb e q => by
  unfold oAddL at e
  split at e
  · split at e
    · rename_i hl
      cases e
      obtain ⟨l, vs, rfl, h1, h2⟩ := ra.lst_inv
      obtain ⟨m, ws, rfl, h3, h4⟩ := rb.lst_inv
      exact ⟨l, m, vs, ws, rfl, rfl, Same.seq s h1, Same.seq s h3, by rw [← h2.length, ← h4.length]; exact hl, anew q s fun p s2 => Rep.mk_lst (.of upd_same) ((RepL.mono s2 _ _ h2).append (RepL.mono s2 _ _ h4))⟩
    · cases e
  · cases e
theorem RepL.nil_iff {K : PySem.W.Frag} {F : Hp} {ds : List D} {vs : List V} (h : RepL K F ds vs) : vs = [] ↔ ds = [] := by
  have := h.length
  constructor
  · intro e; subst e; exact List.eq_nil_of_length_eq_zero this
  · intro e; subst e; exact List.eq_nil_of_length_eq_zero this.symm
theorem o_addT : Op2 X.K (rCatA X.K) oAddT := fun F H x y a b d Q s ra rb e q => by
  unfold oAddT at e
  split at e
  · rename_i xs ys
    split at e
    · rename_i hl
      cases e
      obtain ⟨l, vs, rfl, h1, h2⟩ := ra.tup_inv
      obtain ⟨m, ws, rfl, h3, h4⟩ := rb.tup_inv
      refine ⟨l, m, vs, ws, rfl, rfl, Same.seqT s h1, Same.seqT s h3, by rw [← h2.length, ← h4.length]; exact hl, fun z => ?_, fun z1 z => ?_, fun z1 z => ?_⟩
      · have e1 := h2.nil_iff.mp z
        subst e1
        exact now q s rb
      · have e1 := h4.nil_iff.mp z
        subst e1
        rw [List.append_nil] at q
        exact now q s ra
      · exact anew q s fun p s2 => Rep.mk_tup (.of upd_same) ((RepL.mono s2 _ _ h2).append (RepL.mono s2 _ _ h4))
    · cases e
  · cases e
def oAddI : D → D → Option D := oII fun i j => some (.int (i + j))
def oAdd : D → D → Option D := fun a b => (oAddI a b).or ((oAddS a b).or ((oAddL a b).or (oAddT a b)))
abbrev rAddAll (K : PySem.W.Frag) : R2 := fun x y H Q => rI0 (fun i j => .int (i + j)) x y H Q ∨ rAddS x y H Q ∨ rCatW K x y H Q ∨ rCatA K x y H Q
theorem d_add : OpR X (binaryOp .Add) (rAddAll X.K) ∧ Op2 X.K (rAddAll X.K) oAdd :=
  ⟨op_add.or (op_add_str.or (op_catW.or op_catA)), Op2.or (op2_ii0 (f := fun i j => some (.int (i + j))) fun i j d e F => by cases e; exact Rep.mk_int) (Op2.or o_addS (Op2.or o_addL o_addT))⟩

/-! ### ==, != -/
mutual
def _root_.Dy.D.py : D → PyData
  | .non => .none
  | .bl b => .bool b
  | .int i => .int i
  | .str x => .str x
  | .tup xs => .tuple (pyL xs)
  | .lst xs => .list (pyL xs)
  | .ty _ => .none
  | .cls _ => .none
  | .dct _ _ => .none
  | .exc _ _ _ => .none
def pyL : List D → List PyData
  | [] => []
  | d :: ds => d.py :: pyL ds
end
/-- data of a depth below n -/
def okq : Nat → D → Bool
  | _, .non => true
  | _, .bl _ => true
  | _, .int _ => true
  | _, .str x => PyData.strOk x
  | n + 1, .tup xs => xs.all (okq n)
  | n + 1, .lst xs => xs.all (okq n)
  | _, _ => false
theorem okq_all {n : Nat} (ih : ∀ (d : D) {K : PySem.W.Frag} {F : Hp} (v : V), okq n d = true → Rep K F d v → Dp K F v d.py ∧ d.py.canLay0 = true ∧ d.py.depth ≤ n) : ∀ (ds : List D) {K : PySem.W.Frag} {F : Hp} (vs : List V), ds.all (okq n) = true → RepL K F ds vs → DpAll K F vs (pyL ds) ∧ PyData.canLayAll0 (pyL ds) = true ∧ PyData.depthAll (pyL ds) ≤ n
  | [], K, F, vs, _, h => by
    simp only [RepL] at h
    subst h
    exact ⟨by simp only [pyL]; exact .nil, by simp [pyL, PyData.canLayAll0], by simp [pyL, PyData.depthAll]⟩
  | d :: ds, K, F, vs, ha, h => by
    simp only [RepL] at h
    obtain ⟨v, r, rfl, h1, h2⟩ := h
    rw [List.all_cons, Bool.and_eq_true] at ha
    obtain ⟨a1, a2, a3⟩ := ih d v ha.1 h1
    obtain ⟨b1, b2, b3⟩ := okq_all ih ds r ha.2 h2
    refine ⟨by simp only [pyL]; exact .cons a1 b1, by simp [pyL, PyData.canLayAll0, a2, b2], ?_⟩
    simp only [pyL, PyData.depthAll]
    exact Nat.max_le.mpr ⟨a3, b3⟩
theorem okq_dp : ∀ (n : Nat) (d : D) {K : PySem.W.Frag} {F : Hp} (v : V), okq n d = true → Rep K F d v → Dp K F v d.py ∧ d.py.canLay0 = true ∧ d.py.depth ≤ n := by
  intro n
  induction n with
  | zero =>
    intro d K F v h r
    cases d with
    | non => rw [r.non_inv]; exact ⟨.non, by simp [D.py, PyData.canLay0], by simp [D.py, PyData.depth]⟩
    | bl b => rw [r.bl_inv]; exact ⟨.bl b, by simp [D.py, PyData.canLay0], by simp [D.py, PyData.depth]⟩
    | int b => rw [r.int_inv]; exact ⟨.int b, by simp [D.py, PyData.canLay0], by simp [D.py, PyData.depth]⟩
    | str b => rw [r.str_inv]; exact ⟨.str b, by simpa [D.py, PyData.canLay0, okq] using h, by simp [D.py, PyData.depth]⟩
    | _ => simp [okq] at h
  | succ n ih =>
    intro d K F v h r
    cases d with
    | non => rw [r.non_inv]; exact ⟨.non, by simp [D.py, PyData.canLay0], by simp [D.py, PyData.depth]⟩
    | bl b => rw [r.bl_inv]; exact ⟨.bl b, by simp [D.py, PyData.canLay0], by simp [D.py, PyData.depth]⟩
    | int b => rw [r.int_inv]; exact ⟨.int b, by simp [D.py, PyData.canLay0], by simp [D.py, PyData.depth]⟩
    | str b => rw [r.str_inv]; exact ⟨.str b, by simpa [D.py, PyData.canLay0, okq] using h, by simp [D.py, PyData.depth]⟩
    | tup xs =>
      obtain ⟨a, vs, rfl, h1, h2⟩ := r.tup_inv
      obtain ⟨c1, c2, c3⟩ := okq_all ih xs vs (by simpa [okq] using h) h2
      exact ⟨by simp only [D.py]; exact .tup h1 c1, by simpa [D.py, PyData.canLay0] using c2, by simp only [D.py, PyData.depth]; omega⟩
    | lst xs =>
      obtain ⟨a, vs, rfl, h1, h2⟩ := r.lst_inv
      obtain ⟨c1, c2, c3⟩ := okq_all ih xs vs (by simpa [okq] using h) h2
      exact ⟨by simp only [D.py]; exact .lst h1 c1, by simpa [D.py, PyData.canLay0] using c2, by simp only [D.py, PyData.depth]; omega⟩
    | _ => simp [okq] at h
theorem okq_shaped {d : D} {K : PySem.W.Frag} {F : Hp} {v : V} (h : okq 40 d = true) (r : Rep K F d v) : Dp K F v d.py ∧ SeqAt.shaped d.py = true := by
  obtain ⟨h1, h2, h3⟩ := okq_dp 40 d v h r
  refine ⟨h1, ?_⟩
  unfold SeqAt.shaped
  rw [h2, Bool.true_and]
  exact decide_eq_true (by omega)
def eqD (a b : D) : Bool := PyData.eqv a.py b.py
def oEq (a b : D) : Option D := if (okq 40 a && okq 40 b) = true then some (.bl (eqD a b)) else none
def oNe (a b : D) : Option D := if (okq 40 a && okq 40 b) = true then some (.bl (!eqD a b)) else none
theorem d_eq (hu : X.A.units + 64 < cLine) : OpR X (compareOp .Eq) (rEqD X.K) ∧ Op2 X.K (rEqD X.K) oEq := ⟨op_eqD hu, fun F H x y a b d Q s ra rb e q => by
  unfold oEq at e
  split at e
  · rename_i h
    rw [Bool.and_eq_true] at h
    cases e
    obtain ⟨h1, h2⟩ := okq_shaped h.1 (Rep.mono s _ _ ra)
    obtain ⟨h3, h4⟩ := okq_shaped h.2 (Rep.mono s _ _ rb)
    exact ⟨_, _, h1, h3, h2, h4, now q s Rep.mk_bl⟩
  · cases e⟩
theorem d_ne (hu : X.A.units + 64 < cLine) : OpR X (compareOp .NotEq) (rNeD X.K) ∧ Op2 X.K (rNeD X.K) oNe := ⟨op_neD hu, fun F H x y a b d Q s ra rb e q => by
  unfold oNe at e
  split at e
  · rename_i h
    rw [Bool.and_eq_true] at h
    cases e
    obtain ⟨h1, h2⟩ := okq_shaped h.1 (Rep.mono s _ _ ra)
    obtain ⟨h3, h4⟩ := okq_shaped h.2 (Rep.mono s _ _ rb)
    exact ⟨_, _, h1, h3, h2, h4, now q s Rep.mk_bl⟩
  · cases e⟩
/-! ### is None -/
def _root_.Dy.D.isNon : D → Bool
  | .non => true
  | _ => false
def oIsN (a b : D) : Option D := match b with
  | .non => some (.bl a.isNon)
  | _ => none
def oNotN (a b : D) : Option D := match b with
  | .non => some (.bl (!a.isNon))
  | _ => none
/-! ### isinstance of built-in classes -/
def tyD : D → Option String
  | .non => some "NoneType"
  | .bl _ => some "bool"
  | .int _ => some "int"
  | .str _ => some "str"
  | .tup _ => some "tuple"
  | .lst _ => some "list"
  | .dct _ _ => some "dict"
  | _ => none
theorem tyX_of {K : PySem.W.Frag} {F H : Hp} {d : D} {v : V} {t : String} (s : Same F H) (h : Rep K F d v) (e : tyD d = some t) : TyX K H v (.type t) := by
  cases d with
  | non => cases e; rw [h.non_inv]; exact .base .non
  | bl _ => cases e; rw [h.bl_inv]; exact .base (.bl _)
  | int _ => cases e; rw [h.int_inv]; exact .base (.int _)
  | str _ => cases e; rw [h.str_inv]; exact .base (.str _)
  | tup _ =>
    cases e
    obtain ⟨a, vs, rfl, h1, _⟩ := h.tup_inv
    rcases Same.seqT s h1 with (h1 | ⟨o, h1⟩) | ⟨o, its, n, h1, h2, _⟩
    · exact .base (.tup h1)
    · exact .fTuple h1
    · exact .kTuple h1 h2
  | lst _ =>
    cases e
    obtain ⟨a, vs, rfl, h1, _⟩ := h.lst_inv
    rcases Same.seq s h1 with (h1 | ⟨o, h1⟩) | ⟨o, its, n, h1, h2, _⟩
    · exact .base (.lst h1)
    · exact .base (.frz h1)
    · exact .kList h1 h2
  | dct _ _ =>
    cases e
    simp only [Rep] at h
    obtain ⟨a, vs, rfl, h1, _⟩ := h
    exact .base (.dK (s _ _ h1))
  | ty _ => cases e
  | cls _ => cases e
  | exc _ _ _ => cases e
def oIsi : List D → Option D
  | [x, .ty c] => (tyD x).bind fun t => (kitB t c).map .bl
  | _ => none
theorem d_isi : CallR X (.builtin "isinstance") (rIsi X.K) ∧ OpN X.K (rIsi X.K) oIsi := ⟨call_isi, fun F H xs as d Q s ra e q => by
  unfold oIsi at e
  split at e
  · rename_i x c
    obtain ⟨t, e1, e2⟩ := Option.bind_eq_some_iff.mp e
    obtain ⟨b, e3, e4⟩ := Option.map_eq_some_iff.mp e2
    obtain ⟨v, w, rfl, h1, h2⟩ := ra.two
    simp only [Rep] at h2
    subst h2
    subst e4
    exact ⟨v, .ty c, .type t, .type c, b, rfl, .ty c, tyX_of s h1 e1, kit_ty e3, now q s Rep.mk_bl⟩
  · cases e⟩
theorem se_ty {W : WX} {x : Str} {n : String} {pos : Pos} (hm : X.mg x = none) (hg : Gl X x := by rfl) (hv : bootBuiltins x = some (.type n) := by decide +kernel) (hn : x ≠ "__name__" := by decide) (hd : (x == ("__debug__" : Str)) = false := by decide) : SE X W (.Name x pos) (eC (.ty n)) :=
  se_const (pe_bltn (v := V.ty n) hg hm hv rfl hn hd) fun _ _ => Rep.mk_ty

/-! ### len, items, slices -/
def oLen : List D → Option D
  | [.lst xs] => some (.int xs.length)
  | [.tup xs] => some (.int xs.length)
  | [.str z] => if z.length ≤ sizeLine then some (.int z.length) else none
  | _ => none
abbrev rLenAll (K : PySem.W.Frag) : List V → Hp → VK → Prop := fun xs H Q => (∃ p ys, xs = [.ref p] ∧ (SqL K H p ys ∨ SqT K H p ys) ∧ Q (.int ys.length) H) ∨ ∃ z, xs = [.str z] ∧ z.length ≤ sizeLine ∧ Q (.int z.length) H
theorem d_len : CallR X (.builtin "len") (rLenAll X.K) ∧ OpN X.K (rLenAll X.K) oLen := ⟨call_len_seq.or call_len_str, fun F H xs as d Q s ra e q => by
  unfold oLen at e
  split at e
  · cases e
    obtain ⟨v, rfl, h⟩ := ra.one
    obtain ⟨a, vs, rfl, h1, h2⟩ := h.lst_inv
    rw [h2.length] at q
    exact .inl ⟨a, vs, rfl, .inl (Same.seq s h1), now q s Rep.mk_int⟩
  · cases e
    obtain ⟨v, rfl, h⟩ := ra.one
    obtain ⟨a, vs, rfl, h1, h2⟩ := h.tup_inv
    rw [h2.length] at q
    exact .inl ⟨a, vs, rfl, .inr (Same.seqT s h1), now q s Rep.mk_int⟩
  · split at e
    · cases e
      obtain ⟨v, rfl, h⟩ := ra.one
      exact .inr ⟨_, by rw [h.str_inv], by assumption, now q s Rep.mk_int⟩
    · cases e
  · cases e⟩
theorem RepL.atI {K : PySem.W.Frag} {F : Hp} {ds : List D} {vs : List V} {i : Int} {d : D} (h : RepL K F ds vs) (e : L2.atI ds i = some d) : ∃ v, L2.atI vs i = some v ∧ Rep K F d v := by
  unfold L2.atI at e ⊢
  obtain ⟨j, e1, e2⟩ := Option.bind_eq_some_iff.mp e
  obtain ⟨v, e3, r⟩ := h.get e2
  exact ⟨v, by rw [← h.length, e1]; exact e3, r⟩
def oIx : D → D → Option D
  | .lst xs, .int i => L2.atI xs i
  | .tup xs, .int i => L2.atI xs i
  | .str z, .int i => if z.length ≤ sizeLine then (L2.atI z.cps.toList i).map fun c => .str ⟨#[c]⟩ else none
  | _, _ => none
theorem d_ix : IxR X (rIx X.K) ∧ Op2 X.K (rIx X.K) oIx := ⟨ix_seq, fun F H x y a b d Q s ra rb e q => by
  unfold oIx at e
  split at e
  · obtain ⟨l, vs, rfl, h1, h2⟩ := ra.lst_inv
    obtain ⟨v, e1, r⟩ := h2.atI e
    exact .inl ⟨l, vs, _, v, rfl, rb.int_inv, Same.seq s h1, e1, now q s r⟩
  · obtain ⟨l, vs, rfl, h1, h2⟩ := ra.tup_inv
    obtain ⟨v, e1, r⟩ := h2.atI e
    exact .inr (.inl ⟨l, vs, _, v, rfl, rb.int_inv, Same.seqT s h1, e1, now q s r⟩)
  · split at e
    · obtain ⟨c, e1, e2⟩ := Option.map_eq_some_iff.mp e
      subst e2
      exact .inr (.inr ⟨_, _, c, ra.str_inv, rb.int_inv, by assumption, e1, now q s Rep.mk_str⟩)
    · cases e
  · cases e⟩
/-- an end of a slice -/
abbrev SO (X : Cx) (W : WX) (o : Option Expr) (f : REnv → R (Option Int)) : Prop := PO X o (rg X.K W (fun _ (a b : Option Int) => a = b) f)
def oNo : REnv → R (Option Int) := fun _ => .ok none
def oSome (f : REnv → R D) : REnv → R (Option Int) := fun ρ => (f ρ).bind fun d => match d with
  | .int i => .ok (some i)
  | _ => .bad
theorem so_none {W : WX} : SO X W none oNo := ⟨fun pins s σ H Q I ⟨G, F, ρ, r, p⟩ => po_none.run pins s σ H Q I (p none F H (.refl r.f) rfl)⟩
theorem so_some {W : WX} {e : Expr} {f : REnv → R D} (h : SE X W e f) : SO X W (some e) (oSome f) := ⟨fun pins s σ H Q I ⟨G, F, ρ, r, p⟩ => (po_some h).run pins s σ H Q I ⟨G, F, ρ, r, Post.bind p fun d v F' H' _ ex rp p' => by
  cases d with
  | int i => exact ⟨i, rp.int_inv, p' _ F' H' (.refl ex.s) rfl⟩
  | _ => exact p'.elim⟩⟩
def cutD (xs : List D) (lo hi : Option Int) : List D := (xs.drop (HT.sIx xs.length 0 lo)).take (HT.sIx xs.length xs.length hi - HT.sIx xs.length 0 lo)
theorem RepL.cut {K : PySem.W.Frag} {F : Hp} {ds : List D} {vs : List V} {lo hi : Option Int} (h : RepL K F ds vs) : RepL K F (cutD ds lo hi) (cutV vs lo hi) := by
  unfold cutD cutV
  rw [h.length]
  exact (h.drop _).take _
def oSl : D → Option Int → Option Int → Option D
  | .lst xs, lo, hi => some (.lst (cutD xs lo hi))
  | .tup xs, lo, hi => some (.tup (cutD xs lo hi))
  | _, _, _ => none
def eSl (f : REnv → R D) (lo hi : REnv → R (Option Int)) : REnv → R D := fun ρ => (f ρ).bind fun a => (lo ρ).bind fun l => (hi ρ).bind fun h => .opt (oSl a l h)
theorem cut_whole {xs : List D} {lo hi : Option Int} (h : HT.sIx xs.length 0 lo = 0 ∧ HT.sIx xs.length xs.length hi = xs.length) : cutD xs lo hi = xs := by
  unfold cutD
  rw [h.1, h.2]
  simp
theorem se_slice {W : WX} {e : Expr} {lo hi : Option Expr} {f : REnv → R D} {fl fh : REnv → R (Option Int)} {p2 pos : Pos} (he : SE X W e f) (hl : SO X W lo fl) (hh : SO X W hi fh) : SE X W (.Subscript e (.Slice lo hi none p2) pos) (eSl f fl fh) :=
  (pe_slice (sl_list.or sl_tupA) he hl hh).dy fun σ H Q ⟨G, F, ρ, r, p⟩ => ⟨G, F, ρ, r, Post.bind p fun d v F1 H1 _ ex1 rp p1 => ⟨G, F1, ρ, r.ext ex1, Post.bind p1 fun l l' F2 H2 _ ex2 e2 p2 => ⟨G, F2, ρ, (r.ext ex1).ext ex2, Post.bind p2 fun h h' F3 H3 _ ex3 e3 p3 => by
    subst e2
    subst e3
    obtain ⟨d', e4, q⟩ := Post.opt p3
    have rp3 := Rep.mono (ex2.f.trans ex3.f) _ _ rp
    unfold oSl at e4
    split at e4
    · cases e4
      obtain ⟨a, vs, rfl, h1, h2⟩ := rp3.lst_inv
      exact .inl ⟨a, vs, rfl, Same.seq ex3.s h1, anew q ex3.s fun p s2 => Rep.mk_lst (.of upd_same) (RepL.mono s2 _ _ h2.cut)⟩
    · cases e4
      obtain ⟨a, vs, rfl, h1, h2⟩ := rp3.tup_inv
      refine .inr ⟨a, vs, rfl, Same.seqT ex3.s h1, fun z => ?_, fun z => anew q ex3.s fun p s2 => Rep.mk_tup (.of upd_same) (RepL.mono s2 _ _ h2.cut)⟩
      rw [← h2.length] at z
      rw [cut_whole z] at q
      exact now q ex3.s rp3
    · cases e4⟩⟩⟩
def oRev : D → Option D
  | .lst xs => some (.lst xs.reverse)
  | _ => none
theorem se_rev {W : WX} {e : Expr} {f : REnv → R D} {k : Nat} {p1 p2 p3 pos : Pos} (he : SE X W e f) : SE X W (.Subscript e (.Slice none none (some (.UnaryOp .USub (.Constant (.int 1) k p1) p2)) p3) pos) (eUn oRev f) :=
  (pe_revL he).dy fun σ H Q ⟨G, F, ρ, r, p⟩ => ⟨G, F, ρ, r, Post.bind p fun d v F1 H1 _ ex1 rp p1 => by
    obtain ⟨d', e4, q⟩ := Post.opt p1
    unfold oRev at e4
    split at e4
    · cases e4
      obtain ⟨a, vs, rfl, h1, h2⟩ := rp.lst_inv
      exact ⟨a, vs, rfl, Same.seq ex1.s h1, anew q ex1.s fun p s2 => Rep.mk_lst (.of upd_same) (RepL.mono s2 _ _ h2.reverse)⟩
    · cases e4⟩

/-! ### list, tuple, abs, max, min, sum, int -/
def oList : List D → Option D
  | [.lst xs] => some (.lst xs)
  | [.tup xs] => some (.lst xs)
  | _ => none
theorem d_list : CallR X (.type "list") (fun xs H Q => ∃ p ys, xs = [.ref p] ∧ (SqL X.K H p ys ∨ SqT X.K H p ys) ∧ ∀ l, H l = none → Q (.ref l) (upd H l (.lst ys))) ∧
    OpN X.K (fun xs H Q => ∃ p ys, xs = [.ref p] ∧ (SqL X.K H p ys ∨ SqT X.K H p ys) ∧ ∀ l, H l = none → Q (.ref l) (upd H l (.lst ys))) oList := ⟨call_list_of, fun F H xs as d Q s ra e q => by
  unfold oList at e
  split at e
  · cases e
    obtain ⟨v, rfl, h⟩ := ra.one
    obtain ⟨a, vs, rfl, h1, h2⟩ := h.lst_inv
    exact ⟨a, vs, rfl, .inl (Same.seq s h1), anew q s fun p s2 => Rep.mk_lst (.of upd_same) (RepL.mono s2 _ _ h2)⟩
  · cases e
    obtain ⟨v, rfl, h⟩ := ra.one
    obtain ⟨a, vs, rfl, h1, h2⟩ := h.tup_inv
    exact ⟨a, vs, rfl, .inr (Same.seqT s h1), anew q s fun p s2 => Rep.mk_lst (.of upd_same) (RepL.mono s2 _ _ h2)⟩
  · cases e⟩
def oTuple : List D → Option D
  | [.lst xs] => some (.tup xs)
  | [.tup xs] => some (.tup xs)
  | _ => none
theorem d_tuple : CallR X (.type "tuple") (fun xs H Q => ∃ p ys, xs = [.ref p] ∧ ((SqL X.K H p ys ∧ ∀ l, H l = none → Q (.ref l) (upd H l (.tup ys))) ∨ (SqT X.K H p ys ∧ Q (.ref p) H))) ∧
    OpN X.K (fun xs H Q => ∃ p ys, xs = [.ref p] ∧ ((SqL X.K H p ys ∧ ∀ l, H l = none → Q (.ref l) (upd H l (.tup ys))) ∨ (SqT X.K H p ys ∧ Q (.ref p) H))) oTuple := ⟨call_tuple_of, fun F H xs as d Q s ra e q => by
  unfold oTuple at e
  split at e
  · cases e
    obtain ⟨v, rfl, h⟩ := ra.one
    obtain ⟨a, vs, rfl, h1, h2⟩ := h.lst_inv
    exact ⟨a, vs, rfl, .inl ⟨Same.seq s h1, anew q s fun p s2 => Rep.mk_tup (.of upd_same) (RepL.mono s2 _ _ h2)⟩⟩
  · cases e
    obtain ⟨v, rfl, h⟩ := ra.one
    obtain ⟨a, vs, rfl, h1, h2⟩ := h.tup_inv
    exact ⟨a, vs, rfl, .inr ⟨Same.seqT s h1, now q s (Rep.mk_tup h1 h2)⟩⟩
  · cases e⟩
def oAbs : List D → Option D
  | [.int i] => some (.int (if i < 0 then -i else i))
  | _ => none
theorem d_abs : CallR X (.builtin "abs") (fun xs H Q => ∃ i, xs = [.int i] ∧ Q (.int (if i < 0 then -i else i)) H) ∧ OpN X.K (fun xs H Q => ∃ i, xs = [.int i] ∧ Q (.int (if i < 0 then -i else i)) H) oAbs := ⟨call_abs, fun F H xs as d Q s ra e q => by
  unfold oAbs at e
  split at e
  · cases e
    obtain ⟨v, rfl, h⟩ := ra.one
    exact ⟨_, by rw [h.int_inv], now q s Rep.mk_int⟩
  · cases e⟩
def oMax2 : List D → Option D
  | [.int i, .int j] => some (.int (if j > i then j else i))
  | _ => none
def oMin2 : List D → Option D
  | [.int i, .int j] => some (.int (if j < i then j else i))
  | _ => none
/-- the ints of a list -/
def intsD : List D → Option (List Int)
  | [] => some []
  | .int i :: r => (intsD r).map (i :: ·)
  | _ => none
def oSum : List D → Option D
  | [.lst xs] => (intsD xs).map fun ns => .int ns.sum
  | _ => none
end
end Dy

set_option Elab.async false
set_option linter.all false
set_option maxRecDepth 100000
namespace Dy
open PySem PySem.Spec PyProof.Rows L2

/-! ### a def of the text, for its callers -/
structure Cal (P : Program) (w : World) (K : PySem.W.Frag) (mg : Str → Option Value) (base : Heap) (x : Str) (k n : Nat) (fn : List D → R D) : Prop where
  ex : ∃ (f : Addr) (fd : FuncData) (ps : List Str), FnOk P w K mg base (L2.CX P w) k f fd ps (spD K n fn) ∧ mg x = some (.ref f) ∧ PySem.W.keepIn K (.ref f) = true ∧ Binds K fd ps []
  len : ∀ ds, ds.length ≠ n → fn ds = .bad
section
variable {P : Program} {w : World} {K : PySem.W.Frag} {mg : Str → Option Value} {base : Heap} {x : Str} {params : Arguments} {body : List Stmt} {scope : Scope} {f : Addr} {fd : FuncData} {N ps : List Str} {k n : Nat} {g : REnv → SR}
theorem cal_mk (Fn : FunD K x x params body scope [] [] f fd) (hm : mg x = some (.ref f))
    (hb : ∀ (kV doc pm : Value) (an : Option Addr) (cdv ct : Value) (us : List Value), us.length = ps.length → bindArgs (PySem.W.fnOf x x params body scope .none kV doc pm an cdv ct) ⟨us, []⟩ = pure (ps.zip us))
    (ok : FnOk P w K mg base (L2.CX P w) k f fd ps (spD K n (fnD n N.length g))) : Cal P w K mg base x k n (fnD n N.length g) :=
  ⟨⟨f, fd, ps, ok, hm, Fn.kp, Fn.bindsN hb⟩, fun ds h => fnD_len h⟩
end
section
variable {X : Cx} {W : WX} {e : Expr} {es : List Expr} {x : Str} {p pos : Pos} {k n : Nat} {t : REnv → R (List D)} {fn : List D → R D}
theorem se_callC (C : Cal X.prog X.w X.K X.mg X.base x k n fn) (tk : Takes X W) (hr : Room k X.A)
    (ha : SA X W (e :: es) t) (hg : Gl X x := by rfl) (hdb : (x == ("__debug__" : Str)) = false := by decide) (he : starEach (e :: es) X.env = (false, eval e X.env) :: starEach es X.env := by rfl) (hpl : (backTo pos (starEach es X.env)).any (·.1) = false := by rfl) :
    SE X W (.Call (.Name x p) (e :: es) [] pos) (eCall fn t) := by
  obtain ⟨f, fd, ps, Fo, hm, hk, hb⟩ := C.ex
  exact se_call Fo C.len tk hr hm hk hb ha hg hdb he hpl
/-- {} -/
def eDct0 : REnv → R D := fun _ => .ok (.dct [] [])
end

/-! ### built-ins that the module has not bound -/
def Blts (mg : Str → Option Value) (l : List Str) : Prop := ∀ (i : Nat) (x : Str), l[i]? = some x → mg x = none
theorem Blts.at {mg : Str → Option Value} {l : List Str} (B : Blts mg l) (i : Nat) {x : Str} (h : l[i]? = some x := by rfl) : mg x = none := B i x h

/-! ### the end -/
theorem walk_ofW {l : PySem.W.OpenLaw} {n k : Nat} {q : Program} {loose : List Str} {XP : (Str → Option Value) → Heap → Prop} {YP : World → Heap → Prop} {d : DefRec} {CX : World → CXT} {x : Str}
    (hn : l.most = some n) (hn2 : n ≤ sizeLine) (hdf : d.params.defaults = []) (hr : Room k callerA)
    (F : ∀ (w : World) (mg : Str → Option Value) (fa : Addr) (h : Heap), YP w h → h.Ns mainGlobals mg → mg d.name = some (.ref fa) →
      ∃ (K : PySem.W.Frag) (fd : FuncData) (sp : Sp), K.In h ∧ (∀ (s : Shared) (u : Value), BindsTo s fd ⟨[u], []⟩ [(x, u)]) ∧
        (∀ (H : Hp) (a : Addr) (ns : List Int), ns.length ≤ n → Only H → SqL K H a (ns.map V.int) → sp [.ref a] H (fun v _ => v = .bl true) fun _ _ _ => False) ∧
        ∀ base : Heap, K.In base → base.Ns mainGlobals mg → FnOk l.prog w K mg base (CX w) k fa fd [x] sp)
    (hCX : ∀ (w : World) (H : Hp) (s : Shared) (e : Value) (s' : Shared), CX w [] H s (fun _ _ _ => False) e s' → False) :
    PySem.W.WalkO q loose XP YP l.row.toRowW d [] (fun f vs => PySem.call f vs) := by
  refine Att.attach_call hn hdf fun w s₀ s₁ mg mb fa o pm cd doc a vs ns G Y ho hd hcd hmg hobj hints hlen hg => ?_
  obtain ⟨K, fd, sp, KX, hb, hsp, hF⟩ := F w mg fa _ Y G.T.g hmg
  exact law_call KX G.T.g G.T.b G.T.builtins G.T.nolimit hg hobj hints (Nat.le_trans hlen hn2) hr hF hb (fun H hO hS => hsp H a ns hlen hO hS) fun H e s' => hCX w H s₁ e s'
theorem cx_false {P : Program} {w : World} {H : Hp} {s : Shared} {e : Value} {s' : Shared} : L2.CX P w [] H s (fun _ _ _ => False) e s' → False := fun h => by
  obtain ⟨_, _, _, _, _, _, _, _, _, _, _, _, z⟩ := h
  exact z
theorem repL_ints {K : PySem.W.Frag} {F : Hp} : ∀ ns : List Int, RepL K F (ns.map .int) (ns.map V.int)
  | [] => RepL.nil
  | n :: r => RepL.cons Rep.mk_int (repL_ints r)
theorem law_sp {K : PySem.W.Frag} {fn : List D → R D} {ns : List Int} {H : Hp} {a : Addr} (hS : SqL K H a (ns.map V.int)) (h : fn [.lst (ns.map .int)] = .ok (.bl true)) : spD K 1 fn [.ref a] H (fun v _ => v = .bl true) fun _ _ _ => False := by
  refine ⟨rfl, H, [.lst (ns.map .int)], .refl _, RepL.cons (Rep.mk_lst hS (repL_ints ns)) RepL.nil, ?_⟩
  rw [h]
  exact fun v F' H' _ r => r.bl_inv
end Dy

set_option Elab.async false
set_option linter.all false
set_option maxRecDepth 100000
/-! What a def's meaning comes to, step by step: weakest conditions over plain data. -/
namespace Dy
open PySem PySem.Spec PyProof.Rows L2

def R.wp {α : Type} (x : R α) (P : α → Prop) (E : D → Prop) : Prop := match x with
  | .ok a => P a
  | .err e => E e
  | .bad => False
def SR.wp (x : SR) (N : REnv → Prop) (T : D → Prop) (E : D → REnv → Prop) : Prop := match x with
  | .next ρ => N ρ
  | .ret d => T d
  | .err e ρ => E e ρ
  | .bad => False
abbrev NoE : D → Prop := fun _ => False
/-- marks, so that a step is known by its head -/
def Got {α : Type} (o : Option α) (P : α → Prop) : Prop := ∃ a, o = some a ∧ P a
def HasB (d : D) (P : Bool → Prop) : Prop := ∃ b, d = .bl b ∧ P b
def HasI (d : D) (P : Int → Prop) : Prop := ∃ i, d = .int i ∧ P i
def Has2 (ds : List D) (P : D → D → Prop) : Prop := ∃ a b, ds = [a, b] ∧ P a b
def Fork (k : Bool) (A B : Prop) : Prop := (k = true → A) ∧ (k = false → B)
def Fits (n : Nat) (A : Prop) : Prop := n ≤ sizeLine ∧ A
def Grows (n : Nat) (A : Prop) : Prop := n < sizeLine ∧ A
theorem R.wp.imp {α : Type} {x : R α} {P P' : α → Prop} {E E' : D → Prop} (h : x.wp P E) (f : ∀ a, P a → P' a) (g : ∀ e, E e → E' e) : x.wp P' E' := by
  cases x with
  | ok a => exact f a h
  | err e => exact g e h
  | bad => exact h
theorem R.wp.post {α : Type} {x : R α} {P P' : α → Prop} {E : D → Prop} (h : x.wp P E) (f : ∀ a, P a → P' a) : x.wp P' E := h.imp f fun _ z => z
theorem R.wp.no {α : Type} {x : R α} {P P' : α → Prop} {E : D → Prop} (h : x.wp P NoE) (f : ∀ a, P a → P' a) : x.wp P' E := h.imp f fun _ z => z.elim
theorem R.wp.ok {α : Type} {x : R α} {P : α → Prop} (h : x.wp P NoE) : ∃ a, x = .ok a ∧ P a := by
  cases x with
  | ok a => exact ⟨a, rfl, h⟩
  | err e => exact h.elim
  | bad => exact h.elim
theorem wp_bind {α β : Type} {x : R α} {k : α → R β} {P : β → Prop} {E : D → Prop} (h : x.wp (fun a => (k a).wp P E) E) : (x.bind k).wp P E := by
  cases x with
  | ok a => exact h
  | err e => exact h
  | bad => exact h
theorem wp_toS {α : Type} {x : R α} {ρ : REnv} {k : α → SR} {N : REnv → Prop} {T : D → Prop} {E : D → REnv → Prop} (h : x.wp (fun a => (k a).wp N T E) (fun e => E e ρ)) : (x.toS ρ k).wp N T E := by
  cases x with
  | ok a => exact h
  | err e => exact h
  | bad => exact h
theorem wp_opt {α : Type} {x : Option α} {P : α → Prop} {E : D → Prop} (h : Got x P) : (R.opt x).wp P E := by
  obtain ⟨a, rfl, h⟩ := h
  exact h
section
variable {ρ : REnv} {P : D → Prop} {PB : Bool → Prop} {PA : List D → Prop} {E : D → Prop} {f g h : REnv → R D} {u v : REnv → R Bool} {t : REnv → R (List D)} {d : D}
theorem wp_var {i : Nat} (e : ρ[i]? = some (.val d)) (h : P d) : (eVar i ρ).wp P E := by
  unfold eVar; rw [e]; exact h
theorem wp_c (h : P d) : (eC d ρ).wp P E := h
theorem wp_bin {o : D → D → Option D} (h : (f ρ).wp (fun a => (g ρ).wp (fun b => Got (o a b) P) E) E) : (eBin o f g ρ).wp P E :=
  wp_bind (h.post fun _ h1 => wp_bind (h1.post fun _ h2 => wp_opt h2))
theorem wp_un {o : D → Option D} (h : (f ρ).wp (fun a => Got (o a) P) E) : (eUn o f ρ).wp P E := wp_bind (h.post fun _ h2 => wp_opt h2)
theorem wp_n {o : List D → Option D} (h : (t ρ).wp (fun a => Got (o a) P) E) : (eN o t ρ).wp P E := wp_bind (h.post fun _ h2 => wp_opt h2)
theorem wp_nil (h : PA []) : (aNil ρ).wp PA E := h
theorem wp_cons (h : (f ρ).wp (fun a => (t ρ).wp (fun r => PA (a :: r)) E) E) : (aCons f t ρ).wp PA E := wp_bind (h.post fun _ h1 => wp_bind h1)
theorem wp_tup (h : (t ρ).wp (fun ds => Fits ds.length (P (.tup ds))) E) : (eTup t ρ).wp P E := wp_bind (h.post fun ds h1 => by rw [if_pos h1.1]; exact h1.2)
theorem wp_lst (h : (t ρ).wp (fun ds => Fits ds.length (P (.lst ds))) E) : (eLst t ρ).wp P E := wp_bind (h.post fun ds h1 => by rw [if_pos h1.1]; exact h1.2)
theorem wp_call {fn : List D → R D} (h : (t ρ).wp (fun ds => (fn ds).wp P E) E) : (eCall fn t ρ).wp P E := wp_bind h
theorem wp_test (h : (f ρ).wp (fun d => HasB d PB) E) : (eTest f ρ).wp PB E := wp_bind (h.post fun d ⟨b, e, q⟩ => by subst e; exact q)
theorem wp_and (h : (u ρ).wp (fun k => Fork k ((v ρ).wp PB E) (PB false)) E) : (eAnd u v ρ).wp PB E := wp_bind (h.post fun k ⟨h1, h2⟩ => by
  cases k with
  | true => exact h1 rfl
  | false => exact h2 rfl)
theorem wp_or (h : (u ρ).wp (fun k => Fork k (PB true) ((v ρ).wp PB E)) E) : (eOr u v ρ).wp PB E := wp_bind (h.post fun k ⟨h1, h2⟩ => by
  cases k with
  | true => exact h1 rfl
  | false => exact h2 rfl)
theorem wp_not (h : (u ρ).wp (fun k => PB (!k)) E) : (eNot u ρ).wp PB E := wp_bind h
theorem wp_andV (h : (f ρ).wp (fun d => HasB d fun k => Fork k ((g ρ).wp P E) (P (.bl false))) E) : (eAndV f g ρ).wp P E := wp_bind (h.post fun d ⟨k, e, h1, h2⟩ => by
  subst e
  cases k with
  | true => exact h1 rfl
  | false => exact h2 rfl)
theorem wp_orV (h : (f ρ).wp (fun d => HasB d fun k => Fork k (P (.bl true)) ((g ρ).wp P E)) E) : (eOrV f g ρ).wp P E := wp_bind (h.post fun d ⟨k, e, h1, h2⟩ => by
  subst e
  cases k with
  | true => exact h1 rfl
  | false => exact h2 rfl)
theorem wp_notV (h : (f ρ).wp (fun d => HasB d fun k => P (.bl (!k))) E) : (eNotV f ρ).wp P E := wp_bind (h.post fun d ⟨k, e, h1⟩ => by subst e; exact h1)
theorem wp_chain {o o' : D → D → Option D} (hh : (f ρ).wp (fun a => (g ρ).wp (fun b => Got (o a b) fun z => HasB z fun k => Fork k ((h ρ).wp (fun c => Got (o' b c) P) E) (P (.bl false))) E) E) : (eChain o o' f g h ρ).wp P E :=
  wp_bind (hh.post fun a h1 => wp_bind (h1.post fun b ⟨z, e, k, ez, h2, h3⟩ => by
    subst ez
    rw [e]
    show (goOn _ (.bl k)).wp P E
    cases k with
    | true => exact wp_bind ((h2 rfl).post fun c q => wp_opt q)
    | false => exact h3 rfl))
theorem wp_dct0 (h : P (.dct [] [])) : (eDct0 ρ).wp P E := h
theorem wp_sl {lo hi : REnv → R (Option Int)} (h : (f ρ).wp (fun a => (lo ρ).wp (fun l => (hi ρ).wp (fun r => Got (oSl a l r) P) E) E) E) : (eSl f lo hi ρ).wp P E :=
  wp_bind (h.post fun a h1 => wp_bind (h1.post fun l h2 => wp_bind (h2.post fun r h3 => wp_opt h3)))
theorem wp_no {PO : Option Int → Prop} (h : PO none) : (oNo ρ).wp PO E := h
theorem wp_some {PO : Option Int → Prop} (h : (f ρ).wp (fun d => HasI d fun i => PO (some i)) E) : (oSome f ρ).wp PO E := wp_bind (h.post fun d ⟨i, e, q⟩ => by subst e; exact q)
theorem wp_iD (h : (f ρ).wp (fun d => Got (iterD d) PA) E) : (iD f ρ).wp PA E := wp_bind (h.post fun _ q => wp_opt q)
theorem wp_iArgs {o : List D → Option (List D)} (h : (t ρ).wp (fun d => Got (o d) PA) E) : (iArgs o t ρ).wp PA E := wp_bind (h.post fun _ q => wp_opt q)
theorem wp_comp {vs : List Nat} {fi : REnv → R (List D)} {b : D → REnv → Option REnv} {c : REnv → R Bool} {e : REnv → R D} (h : (fi ρ).wp (fun ds => Fits ds.length (Got (compS b c e ds (wipeE ρ vs)) fun rs => P (.lst rs))) E) : (eComp vs fi b c e ρ).wp P E :=
  wp_bind (h.post fun ds ⟨h1, rs, h2, h3⟩ => by rw [if_pos h1, h2]; exact h3)
end
section
variable {ρ : REnv} {N : REnv → Prop} {T : D → Prop} {E : D → REnv → Prop} {g h : REnv → SR} {f : REnv → R D} {u : REnv → R Bool} {t : REnv → R (List D)}
theorem SR.wp.imp {x : SR} {N N' : REnv → Prop} {T T' : D → Prop} {E E' : D → REnv → Prop} (h : x.wp N T E) (f : ∀ a, N a → N' a) (g : ∀ a, T a → T' a) (k : ∀ e r, E e r → E' e r) : x.wp N' T' E' := by
  cases x with
  | next a => exact f a h
  | ret a => exact g a h
  | err e r => exact k e r h
  | bad => exact h
theorem sp_seq (hh : (g ρ).wp (fun ρ' => (h ρ').wp N T E) T E) : (sSeq g h ρ).wp N T E := by
  unfold sSeq SR.seq
  cases e : g ρ with
  | next a => rw [e] at hh; exact hh
  | ret a => rw [e] at hh; exact hh
  | err a r => rw [e] at hh; exact hh
  | bad => rw [e] at hh; exact hh
theorem sp_skip (h : N ρ) : (sSkip ρ).wp N T E := h
theorem sp_ret (h : (f ρ).wp T (fun e => E e ρ)) : (sRet f ρ).wp N T E := wp_toS h
theorem sp_set {i : Nat} (h : (f ρ).wp (fun d => N (ρ.set i (.val d))) (fun e => E e ρ)) : (sSet i f ρ).wp N T E := wp_toS h
theorem sp_expr (h : (f ρ).wp (fun _ => N ρ) (fun e => E e ρ)) : (sExpr f ρ).wp N T E := wp_toS h
theorem sp_if (hh : (u ρ).wp (fun b => Fork b ((g ρ).wp N T E) ((h ρ).wp N T E)) (fun e => E e ρ)) : (sIf u g h ρ).wp N T E := wp_toS (hh.post fun b ⟨h1, h2⟩ => by
  cases b with
  | true => exact h1 rfl
  | false => exact h2 rfl)
theorem sp_par {i j : Nat} (h : (t ρ).wp (fun ds => Has2 ds fun a b => N ((ρ.set i (.val a)).set j (.val b))) (fun e => E e ρ)) : (sPar i j t ρ).wp N T E := wp_toS (h.post fun ds ⟨a, b, e, q⟩ => by subst e; exact q)
theorem sp_asg {b : D → REnv → Option REnv} (h : (f ρ).wp (fun d => Got (b d ρ) N) (fun e => E e ρ)) : (sAsg f b ρ).wp N T E := wp_toS (h.post fun d ⟨r, e, q⟩ => by rw [e]; exact q)
theorem sp_own {i : Nat} (h : (t ρ).wp (fun ds => Fits ds.length (N (ρ.set i (.own ds)))) (fun e => E e ρ)) : (sOwn i t ρ).wp N T E := wp_toS (h.post fun ds ⟨h1, h2⟩ => by rw [if_pos h1]; exact h2)
theorem sp_app {i : Nat} {ds : List D} (e : ρ[i]? = some (.own ds)) (h : (f ρ).wp (fun d => Grows ds.length (N (ρ.set i (.own (ds ++ [d]))))) (fun e => E e ρ)) : (sApp i f ρ).wp N T E := by
  unfold sApp
  rw [e]
  exact wp_toS (h.post fun d ⟨h1, h2⟩ => by rw [if_pos h1]; exact h2)
theorem sp_for {fi : REnv → R (List D)} {b : D → REnv → Option REnv} (h : (fi ρ).wp (fun ds => (forS b g ds ρ).wp N T E) (fun e => E e ρ)) : (sFor fi b g ρ).wp N T E := wp_toS h
theorem forS_inv {b : D → REnv → Option REnv} {ds : List D} (I : Nat → REnv → Prop) (h0 : I 0 ρ) (hs : ∀ i d ρ, ds[i]? = some d → I i ρ → Got (b d ρ) fun ρ' => (g ρ').wp (I (i + 1)) T E) (hd : ∀ ρ, I ds.length ρ → N ρ) : (forS b g ds ρ).wp N T E := by
  have key : ∀ (n i : Nat) (ρ : REnv), n + i = ds.length → I i ρ → (forS b g (ds.drop i) ρ).wp N T E := by
    intro n
    induction n with
    | zero =>
      intro i ρ e q
      have e2 : i = ds.length := by omega
      subst e2
      rw [List.drop_length]
      exact hd ρ q
    | succ n ih =>
      intro i ρ e q
      have hi : i < ds.length := by omega
      rw [List.drop_eq_getElem_cons hi]
      obtain ⟨ρ', e1, h1⟩ := hs i ds[i] ρ (List.getElem?_eq_getElem hi) q
      unfold forS
      rw [e1]
      show ((g ρ').seq (forS b g (ds.drop (i + 1)))).wp N T E
      exact sp_seq (g := g) (h := forS b g (ds.drop (i + 1))) (h1.imp (fun a qa => ih (i + 1) a (by omega) qa) (fun _ z => z) fun _ _ z => z)
  have := key ds.length 0 ρ (by simp) h0
  simpa using this
theorem sp_while (I : REnv → Prop) (μ : REnv → Nat) (h0 : I ρ) (hs : ∀ ρ, I ρ → (u ρ).wp (fun k => Fork k ((g ρ).wp (fun ρ' => I ρ' ∧ μ ρ' < μ ρ) T E) (N ρ)) (fun e => E e ρ)) : (whileS u g ρ).wp N T E := by
  have key : ∀ (n : Nat) (ρ : REnv), μ ρ < n → I ρ → (whileS u g ρ).wp N T E := by
    intro n
    induction n with
    | zero => intro ρ h; omega
    | succ n ih =>
      intro ρ hn hI
      rw [whileS_eq]
      refine wp_toS ((hs ρ hI).post fun k ⟨h1, h2⟩ => ?_)
      cases k with
      | true => exact sp_seq (g := g) (h := whileS u g) ((h1 rfl).imp (fun a ⟨q1, q2⟩ => ih a (by omega) q1) (fun _ z => z) fun _ _ z => z)
      | false => exact h2 rfl
  exact key (μ ρ + 1) ρ (by omega) h0
theorem wp_fn {n m : Nat} {ds : List D} {P : D → Prop} {E : D → Prop} (hl : ds.length = n) (h : (g (ds.map .val ++ List.replicate (m - n) .un)).wp (fun _ => P .non) P (fun e _ => E e)) : (fnD n m g ds).wp P E := by
  unfold fnD
  rw [if_pos hl]
  cases e : g (ds.map .val ++ List.replicate (m - n) .un) with
  | next a => rw [e] at h; exact h
  | ret a => rw [e] at h; exact h
  | err a r => rw [e] at h; exact h
  | bad => rw [e] at h; exact h.elim
end
theorem law_of_wp {x : R D} (h : x.wp (fun d => d = .bl true) NoE) : x = .ok (.bl true) := by
  obtain ⟨a, e, rfl⟩ := h.ok
  exact e

/-! ### operations on data of known make -/
section
variable {P : D → Prop} {i j : Int} {xs ys : List D} {a b d : D}
theorem w_addI (h : P (.int (i + j))) : Got (oAdd (.int i) (.int j)) P := ⟨_, rfl, h⟩
theorem w_addL (hl : xs.length + ys.length ≤ sizeLine) (h : P (.lst (xs ++ ys))) : Got (oAdd (.lst xs) (.lst ys)) P := ⟨.lst (xs ++ ys), by simp only [oAdd, oAddI, oII, oAddS, oAddL, if_pos hl]; rfl, h⟩
theorem w_addT (hl : xs.length + ys.length ≤ sizeLine) (h : P (.tup (xs ++ ys))) : Got (oAdd (.tup xs) (.tup ys)) P := ⟨.tup (xs ++ ys), by simp only [oAdd, oAddI, oII, oAddS, oAddL, oAddT, if_pos hl]; rfl, h⟩
theorem w_sub (h : P (.int (i - j))) : Got (oSub (.int i) (.int j)) P := ⟨_, rfl, h⟩
theorem w_mul (hm : MuOk i j) (h : P (.int (i * j))) : Got (oMul (.int i) (.int j)) P := ⟨_, by simp only [oMul, oII, if_pos hm], h⟩
theorem w_mod (hj : 0 < j) (h : P (.int (i % j))) : Got (oMod (.int i) (.int j)) P := ⟨.int (i.fmod j), by simp only [oMod, oII, if_pos (show j ≠ 0 by omega)], by rw [Int.fmod_eq_emod_of_nonneg i (by omega)]; exact h⟩
theorem w_div (hj : 0 < j) (hl : j.natAbs.log2 < 9000) (h : P (.int (i / j))) : Got (oDiv (.int i) (.int j)) P := ⟨.int (i.fdiv j), by simp only [oDiv, oII, if_pos (show DivOk j from ⟨by omega, hl⟩)], by rw [Int.fdiv_eq_ediv_of_nonneg i (by omega)]; exact h⟩
theorem w_pow (hc : 0 ≤ j ∧ j ≤ 1000000 ∧ i.natAbs < 2 ^ 64) (h : P (.int (i ^ j.toNat))) : Got (oPow (.int i) (.int j)) P := ⟨_, by simp only [oPow, oII, if_pos hc], h⟩
theorem w_lt (h : P (.bl (decide (i < j)))) : Got (oLt (.int i) (.int j)) P := ⟨_, rfl, h⟩
theorem w_le (h : P (.bl (decide (i ≤ j)))) : Got (oLe (.int i) (.int j)) P := ⟨_, rfl, h⟩
theorem w_gt (h : P (.bl (decide (j < i)))) : Got (oGt (.int i) (.int j)) P := ⟨_, rfl, h⟩
theorem w_ge (h : P (.bl (decide (j ≤ i)))) : Got (oGe (.int i) (.int j)) P := ⟨_, rfl, h⟩
theorem w_neg (h : P (.int (-i))) : Got (oNeg (.int i)) P := ⟨_, rfl, h⟩
theorem eqD_int : eqD (.int i) (.int j) = decide (i = j) := by
  simp only [eqD, D.py, PyData.eqv]
  by_cases h : i = j <;> simp [h]
theorem w_eqI (h : P (.bl (decide (i = j)))) : Got (oEq (.int i) (.int j)) P := ⟨.bl (eqD (.int i) (.int j)), by simp [oEq, okq], by rw [eqD_int]; exact h⟩
theorem w_neI (h : P (.bl (!decide (i = j)))) : Got (oNe (.int i) (.int j)) P := ⟨.bl (!eqD (.int i) (.int j)), by simp [oNe, okq], by rw [eqD_int]; exact h⟩
theorem w_eq (ha : okq 40 a = true) (hb : okq 40 b = true) (h : P (.bl (eqD a b))) : Got (oEq a b) P := ⟨_, by simp only [oEq, ha, hb, Bool.and_self, if_true], h⟩
theorem w_ne (ha : okq 40 a = true) (hb : okq 40 b = true) (h : P (.bl (!eqD a b))) : Got (oNe a b) P := ⟨_, by simp only [oNe, ha, hb, Bool.and_self, if_true], h⟩
theorem w_isN (h : P (.bl a.isNon)) : Got (oIsN a .non) P := ⟨_, rfl, h⟩
theorem w_notN (h : P (.bl (!a.isNon))) : Got (oNotN a .non) P := ⟨_, rfl, h⟩
theorem w_lenL (h : P (.int xs.length)) : Got (oLen [.lst xs]) P := ⟨_, rfl, h⟩
theorem w_lenT (h : P (.int xs.length)) : Got (oLen [.tup xs]) P := ⟨_, rfl, h⟩
theorem w_ixL (e : L2.atI xs i = some d) (h : P d) : Got (oIx (.lst xs) (.int i)) P := ⟨d, e, h⟩
theorem w_ixT (e : L2.atI xs i = some d) (h : P d) : Got (oIx (.tup xs) (.int i)) P := ⟨d, e, h⟩
theorem w_max2 (h : P (.int (if j > i then j else i))) : Got (oMax2 [.int i, .int j]) P := ⟨_, rfl, h⟩
theorem w_min2 (h : P (.int (if j < i then j else i))) : Got (oMin2 [.int i, .int j]) P := ⟨_, rfl, h⟩
theorem w_abs (h : P (.int (if i < 0 then -i else i))) : Got (oAbs [.int i]) P := ⟨_, rfl, h⟩
theorem w_listL (h : P (.lst xs)) : Got (oList [.lst xs]) P := ⟨_, rfl, h⟩
theorem w_listT (h : P (.lst xs)) : Got (oList [.tup xs]) P := ⟨_, rfl, h⟩
theorem w_tupleL (h : P (.tup xs)) : Got (oTuple [.lst xs]) P := ⟨_, rfl, h⟩
theorem w_tupleT (h : P (.tup xs)) : Got (oTuple [.tup xs]) P := ⟨_, rfl, h⟩
theorem w_sum {ns : List Int} (e : intsD xs = some ns) (h : P (.int ns.sum)) : Got (oSum [.lst xs]) P := ⟨.int ns.sum, by simp only [oSum, e]; rfl, h⟩
theorem kit_ib : kitB "int" "bool" = some false := by decide +kernel
theorem kit_ii : kitB "int" "int" = some true := by decide +kernel
theorem kit_it : kitB "int" "tuple" = some false := by decide +kernel
theorem kit_il : kitB "int" "list" = some false := by decide +kernel
theorem kit_is : kitB "int" "str" = some false := by decide +kernel
theorem kit_bb : kitB "bool" "bool" = some true := by decide +kernel
theorem kit_bi : kitB "bool" "int" = some true := by decide +kernel
theorem kit_bt : kitB "bool" "tuple" = some false := by decide +kernel
theorem kit_bl : kitB "bool" "list" = some false := by decide +kernel
theorem kit_bs : kitB "bool" "str" = some false := by decide +kernel
theorem kit_tt : kitB "tuple" "tuple" = some true := by decide +kernel
theorem kit_tb : kitB "tuple" "bool" = some false := by decide +kernel
theorem kit_ti : kitB "tuple" "int" = some false := by decide +kernel
theorem kit_tl : kitB "tuple" "list" = some false := by decide +kernel
theorem kit_ts : kitB "tuple" "str" = some false := by decide +kernel
theorem kit_ll : kitB "list" "list" = some true := by decide +kernel
theorem kit_lb : kitB "list" "bool" = some false := by decide +kernel
theorem kit_li : kitB "list" "int" = some false := by decide +kernel
theorem kit_lt : kitB "list" "tuple" = some false := by decide +kernel
theorem kit_ls : kitB "list" "str" = some false := by decide +kernel
theorem kit_ss : kitB "str" "str" = some true := by decide +kernel
theorem kit_sb : kitB "str" "bool" = some false := by decide +kernel
theorem kit_si : kitB "str" "int" = some false := by decide +kernel
theorem kit_st : kitB "str" "tuple" = some false := by decide +kernel
theorem kit_sl : kitB "str" "list" = some false := by decide +kernel
theorem kit_nb : kitB "NoneType" "bool" = some false := by decide +kernel
theorem kit_ni : kitB "NoneType" "int" = some false := by decide +kernel
theorem kit_nt : kitB "NoneType" "tuple" = some false := by decide +kernel
theorem kit_nl : kitB "NoneType" "list" = some false := by decide +kernel
theorem kit_ds : kitB "dict" "str" = some false := by decide +kernel
theorem kit_db : kitB "dict" "bool" = some false := by decide +kernel
theorem kit_di : kitB "dict" "int" = some false := by decide +kernel
theorem kit_dt : kitB "dict" "tuple" = some false := by decide +kernel
theorem kit_dl : kitB "dict" "list" = some false := by decide +kernel
def kitT (d : D) (c : String) : Option Bool := (tyD d).bind fun t => kitB t c
theorem kit_id : kitB "int" "dict" = some false := by decide +kernel
theorem kit_bd : kitB "bool" "dict" = some false := by decide +kernel
theorem kit_td : kitB "tuple" "dict" = some false := by decide +kernel
theorem kit_ld : kitB "list" "dict" = some false := by decide +kernel
theorem kit_sd : kitB "str" "dict" = some false := by decide +kernel
theorem kit_ns : kitB "NoneType" "str" = some false := by decide +kernel
theorem kit_nd : kitB "NoneType" "dict" = some false := by decide +kernel
theorem kit_dd : kitB "dict" "dict" = some true := by decide +kernel
theorem kt_ib {i : Int} : kitT (.int i) "bool" = some false := by show kitB "int" "bool" = _; exact kit_ib
theorem kt_ii {i : Int} : kitT (.int i) "int" = some true := by show kitB "int" "int" = _; exact kit_ii
theorem kt_it {i : Int} : kitT (.int i) "tuple" = some false := by show kitB "int" "tuple" = _; exact kit_it
theorem kt_il {i : Int} : kitT (.int i) "list" = some false := by show kitB "int" "list" = _; exact kit_il
theorem kt_is {i : Int} : kitT (.int i) "str" = some false := by show kitB "int" "str" = _; exact kit_is
theorem kt_id {i : Int} : kitT (.int i) "dict" = some false := by show kitB "int" "dict" = _; exact kit_id
theorem kt_bb {b : Bool} : kitT (.bl b) "bool" = some true := by show kitB "bool" "bool" = _; exact kit_bb
theorem kt_bi {b : Bool} : kitT (.bl b) "int" = some true := by show kitB "bool" "int" = _; exact kit_bi
theorem kt_bt {b : Bool} : kitT (.bl b) "tuple" = some false := by show kitB "bool" "tuple" = _; exact kit_bt
theorem kt_bl {b : Bool} : kitT (.bl b) "list" = some false := by show kitB "bool" "list" = _; exact kit_bl
theorem kt_bs {b : Bool} : kitT (.bl b) "str" = some false := by show kitB "bool" "str" = _; exact kit_bs
theorem kt_bd {b : Bool} : kitT (.bl b) "dict" = some false := by show kitB "bool" "dict" = _; exact kit_bd
theorem kt_tb {xs : List D} : kitT (.tup xs) "bool" = some false := by show kitB "tuple" "bool" = _; exact kit_tb
theorem kt_ti {xs : List D} : kitT (.tup xs) "int" = some false := by show kitB "tuple" "int" = _; exact kit_ti
theorem kt_tt {xs : List D} : kitT (.tup xs) "tuple" = some true := by show kitB "tuple" "tuple" = _; exact kit_tt
theorem kt_tl {xs : List D} : kitT (.tup xs) "list" = some false := by show kitB "tuple" "list" = _; exact kit_tl
theorem kt_ts {xs : List D} : kitT (.tup xs) "str" = some false := by show kitB "tuple" "str" = _; exact kit_ts
theorem kt_td {xs : List D} : kitT (.tup xs) "dict" = some false := by show kitB "tuple" "dict" = _; exact kit_td
theorem kt_lb {xs : List D} : kitT (.lst xs) "bool" = some false := by show kitB "list" "bool" = _; exact kit_lb
theorem kt_li {xs : List D} : kitT (.lst xs) "int" = some false := by show kitB "list" "int" = _; exact kit_li
theorem kt_lt {xs : List D} : kitT (.lst xs) "tuple" = some false := by show kitB "list" "tuple" = _; exact kit_lt
theorem kt_ll {xs : List D} : kitT (.lst xs) "list" = some true := by show kitB "list" "list" = _; exact kit_ll
theorem kt_ls {xs : List D} : kitT (.lst xs) "str" = some false := by show kitB "list" "str" = _; exact kit_ls
theorem kt_ld {xs : List D} : kitT (.lst xs) "dict" = some false := by show kitB "list" "dict" = _; exact kit_ld
theorem kt_sb {s : String} : kitT (.str s) "bool" = some false := by show kitB "str" "bool" = _; exact kit_sb
theorem kt_si {s : String} : kitT (.str s) "int" = some false := by show kitB "str" "int" = _; exact kit_si
theorem kt_st {s : String} : kitT (.str s) "tuple" = some false := by show kitB "str" "tuple" = _; exact kit_st
theorem kt_sl {s : String} : kitT (.str s) "list" = some false := by show kitB "str" "list" = _; exact kit_sl
theorem kt_ss {s : String} : kitT (.str s) "str" = some true := by show kitB "str" "str" = _; exact kit_ss
theorem kt_sd {s : String} : kitT (.str s) "dict" = some false := by show kitB "str" "dict" = _; exact kit_sd
theorem kt_nb  : kitT (.non) "bool" = some false := by show kitB "NoneType" "bool" = _; exact kit_nb
theorem kt_ni  : kitT (.non) "int" = some false := by show kitB "NoneType" "int" = _; exact kit_ni
theorem kt_nt  : kitT (.non) "tuple" = some false := by show kitB "NoneType" "tuple" = _; exact kit_nt
theorem kt_nl  : kitT (.non) "list" = some false := by show kitB "NoneType" "list" = _; exact kit_nl
theorem kt_ns  : kitT (.non) "str" = some false := by show kitB "NoneType" "str" = _; exact kit_ns
theorem kt_nd  : kitT (.non) "dict" = some false := by show kitB "NoneType" "dict" = _; exact kit_nd
theorem kt_db {ks : List Key} {ys : List D} : kitT (.dct ks ys) "bool" = some false := by show kitB "dict" "bool" = _; exact kit_db
theorem kt_di {ks : List Key} {ys : List D} : kitT (.dct ks ys) "int" = some false := by show kitB "dict" "int" = _; exact kit_di
theorem kt_dt {ks : List Key} {ys : List D} : kitT (.dct ks ys) "tuple" = some false := by show kitB "dict" "tuple" = _; exact kit_dt
theorem kt_dl {ks : List Key} {ys : List D} : kitT (.dct ks ys) "list" = some false := by show kitB "dict" "list" = _; exact kit_dl
theorem kt_ds {ks : List Key} {ys : List D} : kitT (.dct ks ys) "str" = some false := by show kitB "dict" "str" = _; exact kit_ds
theorem kt_dd {ks : List Key} {ys : List D} : kitT (.dct ks ys) "dict" = some true := by show kitB "dict" "dict" = _; exact kit_dd
theorem w_isi {c : String} {k : Bool} (e : kitT a c = some k) (h : P (.bl k)) : Got (oIsi [a, .ty c]) P := ⟨.bl k, by
  unfold kitT at e
  obtain ⟨t, e1, e2⟩ := Option.bind_eq_some_iff.mp e
  simp only [oIsi, e1, e2, Option.bind_some, Option.map_some], h⟩
end
/-! ### sizes of ints -/
def Bd (n : Nat) (i : Int) : Prop := i.natAbs < 2 ^ n
section
variable {i j : Int} {n m : Nat}
theorem Bd.mul (h : Bd n i) (k : Bd m j) : Bd (n + m) (i * j) := wide_lt h k
theorem Bd.add (h : Bd n i) (k : Bd m j) : Bd (n + m + 1) (i + j) := by
  unfold Bd at *
  have h1 : (2 : Nat) ^ n ≤ 2 ^ (n + m) := Nat.pow_le_pow_right (by omega) (by omega)
  have h2 : (2 : Nat) ^ m ≤ 2 ^ (n + m) := Nat.pow_le_pow_right (by omega) (by omega)
  have h3 : (2 : Nat) ^ (n + m + 1) = 2 ^ (n + m) * 2 := Nat.pow_succ ..
  omega
theorem Bd.neg (h : Bd n i) : Bd n (-i) := by unfold Bd at *; omega
theorem Bd.sub (h : Bd n i) (k : Bd m j) : Bd (n + m + 1) (i - j) := by
  rw [Int.sub_eq_add_neg]
  exact h.add k.neg
theorem Bd.mono (h : Bd n i) (k : n ≤ m) : Bd m i := Nat.lt_of_lt_of_le h (Nat.pow_le_pow_right (by omega) k)
theorem Bd.le {i j : Int} (h : Bd n j) (h0 : 0 ≤ i) (h1 : i ≤ j) : Bd n i := by unfold Bd at *; omega
theorem Bd.mod (hj : 0 < j) (h : Bd m j) : Bd m (i % j) := by
  have h1 := Int.emod_nonneg i (show j ≠ 0 by omega)
  have h2 := Int.emod_lt_of_pos i hj
  unfold Bd at *
  omega
theorem MuOk.of (h : Bd n i) (k : Bd m j) (hs : n + m < 100000000) : MuOk i j := by
  have x : i.natAbs.log2 ≤ n := by
    by_cases h0 : i.natAbs = 0
    · rw [h0]; exact Nat.zero_le _
    · exact Nat.le_of_lt ((Nat.log2_lt h0).mpr h)
  have y : j.natAbs.log2 ≤ m := by
    by_cases h0 : j.natAbs = 0
    · rw [h0]; exact Nat.zero_le _
    · exact Nat.le_of_lt ((Nat.log2_lt h0).mpr k)
  unfold MuOk
  omega
end
end Dy

set_option Elab.async false
set_option linter.all false
set_option maxRecDepth 100000
namespace Dy
open PySem PySem.Spec PyProof.Rows L2
/-! ### for the stepping words -/
section
variable {A B : Prop} {p : Prop} [Decidable p]
theorem k_tt (h : A) : Fork (true) A B := ⟨fun _ => h, fun z => by cases z⟩
theorem k_ff (h : B) : Fork (false) A B := ⟨fun z => (by cases z), fun _ => h⟩
theorem k_nt (h : B) : Fork ((!true)) A B := ⟨fun z => (by cases z), fun _ => h⟩
theorem k_nf (h : A) : Fork ((!false)) A B := ⟨fun _ => h, fun z => by cases z⟩
theorem k_dT (hp : p) (h : A) : Fork (decide p) A B := ⟨fun _ => h, fun z => absurd hp (of_decide_eq_false z)⟩
theorem k_dF (hp : ¬ p) (h : B) : Fork (decide p) A B := ⟨fun z => absurd (of_decide_eq_true z) hp, fun _ => h⟩
theorem k_d (h1 : p → A) (h2 : ¬ p → B) : Fork (decide p) A B := ⟨fun z => h1 (of_decide_eq_true z), fun z => h2 (of_decide_eq_false z)⟩
theorem k_ndT (hp : p) (h : B) : Fork ((!decide p)) A B := ⟨fun z => absurd hp (by simpa using z), fun _ => h⟩
theorem k_ndF (hp : ¬ p) (h : A) : Fork ((!decide p)) A B := ⟨fun _ => h, fun z => absurd (by simpa using z) hp⟩
theorem k_nd (h1 : ¬ p → A) (h2 : p → B) : Fork ((!decide p)) A B := ⟨fun z => h1 (by simpa using z), fun z => h2 (by simpa using z)⟩
theorem k_nndT (hp : p) (h : A) : Fork ((!(!decide p))) A B := ⟨fun _ => h, fun z => absurd hp (by simpa using z)⟩
theorem k_nndF (hp : ¬ p) (h : B) : Fork ((!(!decide p))) A B := ⟨fun z => absurd (by simpa using z) hp, fun _ => h⟩
theorem k_nnd (h1 : p → A) (h2 : ¬ p → B) : Fork ((!(!decide p))) A B := ⟨fun z => h1 (by simpa using z), fun z => h2 (by simpa using z)⟩
theorem k_any {k : Bool} (h1 : k = true → A) (h2 : k = false → B) : Fork k A B := ⟨h1, h2⟩
theorem ex_bl {b : Bool} {P : Bool → Prop} (h : P b) : HasB (.bl b) P := ⟨b, rfl, h⟩
theorem ex_int {b : Int} {P : Int → Prop} (h : P b) : HasI (.int b) P := ⟨b, rfl, h⟩
theorem ex_two {a b : D} {P : D → D → Prop} (h : P a b) : Has2 [a, b] P := ⟨a, b, rfl, h⟩
theorem g_ot {α : Type} {o : Option α} {a : α} {P : α → Prop} (e : o = some a) (h : P a) : Got o P := ⟨a, e, h⟩
theorem f_its {n : Nat} {A : Prop} (e : n ≤ sizeLine) (h : A) : Fits n A := ⟨e, h⟩
theorem g_rows {n : Nat} {A : Prop} (e : n < sizeLine) (h : A) : Grows n A := ⟨e, h⟩
theorem w_range1 {n : Int} {P : List D → Prop} (h : Sm n) (k : P (rangeD 0 n.toNat)) : Got (range1 [.int n]) P := ⟨_, by simp only [range1, if_pos h], k⟩
theorem w_range2 {m n : Int} {P : List D → Prop} (h : Sm m) (h2 : Sm n) (k : P (rangeD m (n - m).toNat)) : Got (range2 [.int m, .int n]) P := ⟨_, by simp only [range2, if_pos (And.intro h h2)], k⟩
end
/-! ### lists of ints -/
theorem eqD_lst_nil {xs : List D} : eqD (.lst xs) (.lst []) = xs.isEmpty := by
  cases xs with
  | nil => simp [eqD, D.py, pyL, PyData.eqv, PyData.eqvAll]
  | cons x r => simp [eqD, D.py, pyL, PyData.eqv, PyData.eqvAll]
theorem okq_ints {n : Nat} (ns : List Int) : okq (n + 1) (.lst (ns.map .int)) = true := by
  simp only [okq, List.all_map, List.all_eq_true]
  intro x _
  cases n <;> rfl
theorem w_eqNil {xs : List D} {P : D → Prop} (hq : okq 40 (.lst xs) = true) (h : P (.bl xs.isEmpty)) : Got (oEq (.lst xs) (.lst [])) P := w_eq hq rfl (by rw [eqD_lst_nil]; exact h)
theorem w_neNil {xs : List D} {P : D → Prop} (hq : okq 40 (.lst xs) = true) (h : P (.bl (!xs.isEmpty))) : Got (oNe (.lst xs) (.lst [])) P := w_ne hq rfl (by rw [eqD_lst_nil]; exact h)
theorem c_nil {b : D → REnv → Option REnv} {c : REnv → R Bool} {e : REnv → R D} {ρ : REnv} {P : List D → Prop} (h : P []) : Got (compS b c e [] ρ) P := ⟨[], rfl, h⟩
theorem c_cons {b : D → REnv → Option REnv} {c : REnv → R Bool} {e : REnv → R D} {ρ : REnv} {d : D} {ds : List D} {P : List D → Prop}
    (h : Got (b d ρ) fun ρ' => (c ρ').wp (fun k => Fork k ((e ρ').wp (fun v => Got (compS b c e ds ρ) fun r => P (v :: r)) NoE) (Got (compS b c e ds ρ) P)) NoE) : Got (compS b c e (d :: ds) ρ) P := by
  obtain ⟨ρ', e1, h⟩ := h
  obtain ⟨k, e2, h1, h2⟩ := h.ok
  cases k with
  | true =>
    obtain ⟨v, e3, r, e4, hp⟩ := (h1 rfl).ok
    exact ⟨v :: r, by simp only [compS, e1, e2, e3, e4, R.get, Option.bind_some, if_true], hp⟩
  | false =>
    obtain ⟨r, e4, hp⟩ := h2 rfl
    exact ⟨r, by simp only [compS, e1, e2, e4, R.get, Option.bind_some, Bool.false_eq_true, if_false], hp⟩
theorem wp_yes {ρ : REnv} {P : Bool → Prop} {E : D → Prop} (h : P true) : (eYes ρ).wp P E := h
/-! ### a thing equals itself -/
theorem eqvAll_refl : ∀ xs : List D, (∀ x ∈ xs, PyData.eqv x.py x.py = true) → PyData.eqvAll (pyL xs) (pyL xs) = true
  | [], _ => by simp [pyL, PyData.eqvAll]
  | x :: xs, h => by
    simp only [pyL, PyData.eqvAll, h x (List.mem_cons_self ..), Bool.true_and]
    exact eqvAll_refl xs fun y hy => h y (List.mem_cons_of_mem _ hy)
theorem eqD_refl : ∀ (n : Nat) (a : D), okq n a = true → eqD a a = true := by
  intro n
  induction n with
  | zero => intro a h; cases a <;> simp_all [okq, eqD, D.py, PyData.eqv]
  | succ n ih =>
    intro a h
    cases a with
    | tup xs =>
      simp only [eqD, D.py, PyData.eqv]
      exact eqvAll_refl xs fun x hx => ih x (List.all_eq_true.mp (by simpa [okq] using h) x hx)
    | lst xs =>
      simp only [eqD, D.py, PyData.eqv]
      exact eqvAll_refl xs fun x hx => ih x (List.all_eq_true.mp (by simpa [okq] using h) x hx)
    | _ => simp_all [okq, eqD, D.py, PyData.eqv]
theorem w_neS {a b : D} {P : D → Prop} (e : a = b) (ha : okq 40 a = true) (h : P (.bl false)) : Got (oNe a b) P := by
  subst e
  exact w_ne ha ha (by rw [eqD_refl 40 a ha]; exact h)
theorem tup3 {a b c d e f : Int} (h1 : a = d) (h2 : b = e) (h3 : c = f) : D.tup [.int a, .int b, .int c] = .tup [.int d, .int e, .int f] := by rw [h1, h2, h3]
theorem Bd.log {n : Nat} {j : Int} (h : Bd n j) (hn : n < 9000) : j.natAbs.log2 < 9000 := by
  by_cases h0 : j.natAbs = 0
  · rw [h0]; decide
  · exact Nat.lt_trans ((Nat.log2_lt h0).mpr h) hn
theorem Bd.lit {n : Nat} {i : Int} (h : i.natAbs < 2 ^ n := by decide) : Bd n i := h
end Dy

set_option Elab.async false
set_option linter.all false
set_option maxRecDepth 100000
namespace Dy
open PySem PySem.Spec PyProof.Rows L2
/-! ### what is never reached -/
/-! ### range(a, b, c) -/
def rg3 (m n c : Int) : Prop := c ≠ 0 ∧ c.natAbs < 1073741824 ∧ Builtin.Range.small m n c = true ∧ 0 ≤ Builtin.Range.rangeSize m n c
instance (m n c : Int) : Decidable (rg3 m n c) := inferInstanceAs (Decidable (_ ∧ _))
def range3c : List D → Option (List D)
  | [.int m, .int n, .int c] => if rg3 m n c then some (rangeC m c (Builtin.Range.rangeSize m n c).toNat) else none
  | _ => none
theorem RepL.three {K : PySem.W.Frag} {F : Hp} {a b c : D} {vs : List V} (h : RepL K F [a, b, c] vs) : ∃ v w x, vs = [v, w, x] ∧ Rep K F a v ∧ Rep K F b w ∧ Rep K F c x := by
  simp only [RepL] at h
  obtain ⟨v, r, e, h1, w, r2, e2, h2, x, r3, e3, h3, h4⟩ := h
  subst h4
  subst e3
  subst e2
  exact ⟨v, w, x, e, h1, h2, h3⟩
/-- the turns' numbers: lo, lo + c, .., all below n -/
theorem w_range3 {m n c : Int} {P : List D → Prop} (hc : 0 < c ∧ c < 1000000) (hm : 0 ≤ m ∧ m < 1000000) (hn : 0 ≤ n ∧ n < 1000000) (k : P (rangeC m c (Builtin.Range.rangeSize m n c).toNat)) : Got (range3c [.int m, .int n, .int c]) P := by
  have z4 : 0 ≤ Builtin.Range.rangeSize m n c ∧ (Builtin.Range.rangeSize m n c ≤ 1000000 ∧ (Builtin.Range.rangeSize m n c) * c < 3000000) := by
    unfold Builtin.Range.rangeSize
    rw [if_pos (show c > 0 from hc.1)]
    by_cases h : m < n
    · rw [if_pos h]
      have h1 : 0 ≤ (n - m - 1) / c := Int.ediv_nonneg (by omega) (by omega)
      have h2 : (n - m - 1) / c ≤ n - m - 1 := Int.ediv_le_self _ (by omega)
      have h3 : (n - m - 1) / c * c ≤ n - m - 1 := Int.ediv_mul_le _ (by omega)
      rw [Int.add_mul, Int.one_mul]
      refine ⟨by omega, by omega, by omega⟩
    · rw [if_neg h]; refine ⟨by omega, by omega, by omega⟩
  refine ⟨_, by rw [range3c, if_pos ⟨by omega, by omega, ?_, z4.1⟩], k⟩
  unfold Builtin.Range.small
  generalize Builtin.Range.rangeSize m n c = q at *
  simp only [Builtin.Range.rangeFitsLong, Bool.and_eq_true, Bool.or_eq_true, decide_eq_true_eq, beq_iff_eq, show c > 0 from hc.1, if_true]
  have z5 : (q + 1) * c < 4000000 := by rw [Int.add_mul, Int.one_mul]; omega
  have z6 : (q - 1) * c < 4000000 := by rw [Int.sub_mul, Int.one_mul]; omega
  have z7 : 0 ≤ q * c := Int.mul_nonneg z4.1 (by omega)
  have z8 : -1000000 < (q - 1) * c := by rw [Int.sub_mul, Int.one_mul]; omega
  omega
theorem rangeD_get {m : Int} {n i : Nat} {d : D} (h : (rangeD m n)[i]? = some d) : d = .int (m + i) ∧ i < n := by
  obtain ⟨hi, e⟩ := List.getElem?_eq_some_iff.mp h
  have hi2 : i < n := by simpa [rangeD] using hi
  exact ⟨by rw [← e]; simp [rangeD], hi2⟩
end Dy

set_option Elab.async false
set_option linter.all false
set_option maxRecDepth 100000
namespace Dy
open PySem PySem.Spec PyProof.Rows L2
/-! ### whole numbers' divisors, and fractions -/
theorem gcd_fmod (a b : Int) : Int.gcd b (a.fmod b) = Int.gcd a b := by
  have h : a.fmod b = a - b * a.fdiv b := by have := Int.mul_fdiv_add_fmod a b; omega
  rw [h, Int.gcd_comm a b]
  have : a - b * a.fdiv b = a + b * (- a.fdiv b) := by rw [Int.mul_neg, Int.sub_eq_add_neg]
  rw [this]
  exact Int.gcd_add_mul_left_right ..
theorem fmod_lt (a b : Int) (h : b ≠ 0) : (a.fmod b).natAbs < b.natAbs := by
  rcases Int.lt_or_gt_of_ne h with h | h
  · have h1 := Int.fmod_eq_emod (a := a) (b := b)
    have := Int.emod_nonneg a (show b ≠ 0 by omega)
    have := Int.emod_lt_of_neg a h
    rw [h1]; split <;> omega
  · rw [Int.fmod_eq_emod_of_nonneg a (by omega)]
    have := Int.emod_nonneg a (show b ≠ 0 by omega)
    have := Int.emod_lt_of_pos a h
    omega
theorem ratio_num (a b : Int) (hb : b ≠ 0) : (Rat.divInt a b).num = if b < 0 then a.fdiv (-(Int.gcd a b : Int)) else a.fdiv (Int.gcd a b) := by
  have hg : 0 < Int.gcd a b := Int.gcd_pos_of_ne_zero_right a hb
  rw [Rat.num_divInt, Int.gcd_comm b a]
  by_cases h : b < 0
  · rw [if_pos h, Int.sign_eq_neg_one_of_neg h]
    obtain ⟨k, hk⟩ := Int.gcd_dvd_left a b
    generalize hgg : (Int.gcd a b : Int) = g at *
    have g0 : g ≠ 0 := by omega
    rw [hk]
    rw [show -1 * (g * k) = g * (-k) by grind, Int.mul_ediv_cancel_left _ g0, show g * k = (-g) * (-k) by grind, Int.mul_fdiv_cancel_left _ (by omega)]
  · rw [if_neg h, Int.sign_eq_one_of_pos (by omega), Int.one_mul, Int.fdiv_eq_ediv_of_nonneg _ (by omega)]
theorem ratio_den (a b : Int) (hb : b ≠ 0) : ((Rat.divInt a b).den : Int) = if b < 0 then b.fdiv (-(Int.gcd a b : Int)) else b.fdiv (Int.gcd a b) := by
  have hg : 0 < Int.gcd a b := Int.gcd_pos_of_ne_zero_right a hb
  rw [Rat.den_divInt, Int.gcd_comm b a, if_neg hb]
  have e : ((b.natAbs / Int.gcd a b : Nat) : Int) = (b.natAbs : Int) / (Int.gcd a b : Int) := by simp
  rw [e]
  by_cases h : b < 0
  · rw [if_pos h]
    obtain ⟨k, hk⟩ := Int.gcd_dvd_right a b
    have ea : (b.natAbs : Int) = -b := by omega
    rw [ea]
    generalize hgg : (Int.gcd a b : Int) = g at *
    have g0 : g ≠ 0 := by omega
    rw [hk]
    rw [show -(g * k) = g * (-k) by grind, Int.mul_ediv_cancel_left _ g0, show g * k = (-g) * (-k) by grind, Int.mul_fdiv_cancel_left _ (by omega)]
  · rw [if_neg h, Int.fdiv_eq_ediv_of_nonneg _ (by omega)]
    have ea : (b.natAbs : Int) = b := by omega
    rw [ea]
theorem divInt_add (a b : Rat) : Rat.divInt (a.num * b.den + b.num * a.den) (a.den * b.den) = a + b := by
  rw [Rat.add_def', ← Rat.divInt_ofNat]; simp
theorem divInt_sub (a b : Rat) : Rat.divInt (a.num * b.den - b.num * a.den) (a.den * b.den) = a - b := by
  rw [Rat.sub_def', ← Rat.divInt_ofNat]; simp
theorem divInt_mul (a b : Rat) : Rat.divInt (a.num * b.num) (a.den * b.den) = a * b := by
  rw [Rat.mul_def', ← Rat.divInt_ofNat]; simp
theorem divInt_div (a b : Rat) : Rat.divInt (a.num * b.den) (a.den * b.num) = a / b := by
  rw [Rat.div_def, Rat.inv_def]
  rw [← Rat.divInt_mul_divInt, Rat.num_divInt_den]
theorem den_ne (a : Rat) : (a.den : Int) ≠ 0 := by have := a.den_nz; omega
theorem den_pos (a : Rat) : 0 < (a.den : Int) := by have := a.den_pos; omega
theorem size_num (a b : Int) (hb : b ≠ 0) : (Rat.divInt a b).num.natAbs ≤ a.natAbs := by
  rw [Rat.num_divInt]
  have hs : (b.sign * a).natAbs = a.natAbs := by
    rw [Int.natAbs_mul, Int.natAbs_sign_of_ne_zero hb, Nat.one_mul]
  rw [← hs]
  exact Int.natAbs_ediv_le_natAbs ..
theorem size_den (a b : Int) (hb : b ≠ 0) : (Rat.divInt a b).den ≤ b.natAbs := by
  rw [Rat.den_divInt, if_neg hb]
  exact Nat.div_le_self ..

def rD (r : Rat) : D := .tup [.int r.num, .int r.den]
def RB (n m : Nat) (r : Rat) : Prop := Bd n r.num ∧ Bd m r.den
theorem Bd.addM {n m : Nat} {i j : Int} (h : Bd n i) (k : Bd m j) : Bd (max n m + 1) (i + j) := by
  have h1 := h.mono (Nat.le_max_left n m)
  have h2 := k.mono (Nat.le_max_right n m)
  unfold Bd at *
  have h3 : (2 : Nat) ^ (max n m + 1) = 2 ^ max n m * 2 := Nat.pow_succ ..
  omega
theorem Bd.subM {n m : Nat} {i j : Int} (h : Bd n i) (k : Bd m j) : Bd (max n m + 1) (i - j) := by
  rw [Int.sub_eq_add_neg]
  exact h.addM k.neg
theorem RB.of {n m : Nat} {a b : Int} (hb : b ≠ 0) (h : Bd n a) (k : Bd m b) : RB n m (Rat.divInt a b) :=
  ⟨Nat.lt_of_le_of_lt (size_num a b hb) h, Nat.lt_of_le_of_lt (size_den a b hb) k⟩
theorem den_mul_ne (a b : Rat) : (a.den : Int) * b.den ≠ 0 := Int.mul_ne_zero (den_ne a) (den_ne b)
section
variable {n m n' m' : Nat} {x y : Rat}
theorem RB.mono {k l : Nat} (h : RB n m x) (h1 : n ≤ k) (h2 : m ≤ l) : RB k l x := ⟨h.1.mono h1, h.2.mono h2⟩
theorem RB.add (h : RB n m x) (k : RB n' m' y) : RB (max (n + m') (n' + m) + 1) (m + m') (x + y) := by
  rw [← divInt_add]
  exact .of (den_mul_ne x y) ((h.1.mul k.2).addM (k.1.mul h.2)) (h.2.mul k.2)
theorem RB.sub (h : RB n m x) (k : RB n' m' y) : RB (max (n + m') (n' + m) + 1) (m + m') (x - y) := by
  rw [← divInt_sub]
  exact .of (den_mul_ne x y) ((h.1.mul k.2).subM (k.1.mul h.2)) (h.2.mul k.2)
theorem RB.mul (h : RB n m x) (k : RB n' m' y) : RB (n + n') (m + m') (x * y) := by
  rw [← divInt_mul]
  exact .of (den_mul_ne x y) (h.1.mul k.1) (h.2.mul k.2)
theorem RB.div (hy : y ≠ 0) (h : RB n m x) (k : RB n' m' y) : RB (n + m') (m + n') (x / y) := by
  rw [← divInt_div]
  exact .of (Int.mul_ne_zero (den_ne x) fun z => hy (Rat.num_eq_zero.mp z)) (h.1.mul k.2) (h.2.mul k.1)
theorem RB.int {i : Int} (h : Bd n i) : RB n 1 (i : Rat) := ⟨h, by show Bd 1 ((1 : Nat) : Int); exact Bd.lit (by decide)⟩
end
section
variable {P : D → Prop} {i j : Int} {a b : D}
theorem w_modG (hj : j ≠ 0) (h : P (.int (i.fmod j))) : Got (oMod (.int i) (.int j)) P := ⟨.int (i.fmod j), by simp only [oMod, oII, if_pos hj], h⟩
theorem w_divG (hj : j ≠ 0) (hl : j.natAbs.log2 < 9000) (h : P (.int (i.fdiv j))) : Got (oDiv (.int i) (.int j)) P := ⟨.int (i.fdiv j), by simp only [oDiv, oII, if_pos (show DivOk j from ⟨hj, hl⟩)], h⟩
end
theorem sl2 {α : Type} {xs : List α} (h : xs.length = 2) : ∃ a0 a1, xs = [a0, a1] := match xs, h with
  | [a0, a1], _ => ⟨a0, a1, rfl⟩
theorem sl6 {α : Type} {xs : List α} (h : xs.length = 6) : ∃ a0 a1 a2 a3 a4 a5, xs = [a0, a1, a2, a3, a4, a5] := match xs, h with
  | [a0, a1, a2, a3, a4, a5], _ => ⟨a0, a1, a2, a3, a4, a5, rfl⟩
theorem sl8 {α : Type} {xs : List α} (h : xs.length = 8) : ∃ a0 a1 a2 a3 a4 a5 a6 a7, xs = [a0, a1, a2, a3, a4, a5, a6, a7] := match xs, h with
  | [a0, a1, a2, a3, a4, a5, a6, a7], _ => ⟨a0, a1, a2, a3, a4, a5, a6, a7, rfl⟩
end Dy

set_option Elab.async false
set_option linter.all false
set_option maxRecDepth 100000
namespace Dy
open PySem PySem.Spec PyProof.Rows L2
/-! ### the slots are kept written out -/
def Upd (ρ : REnv) (i : Nat) (s : Sl) (N : REnv → Prop) : Prop := N (ρ.set i s)
def Wipe (ρ : REnv) (vs : List Nat) (N : REnv → Prop) : Prop := N (wipeE ρ vs)
theorem upd_step {ρ ρ' : REnv} {i : Nat} {s : Sl} {N : REnv → Prop} (e : ρ.set i s = ρ') (h : N ρ') : Upd ρ i s N := by unfold Upd; rw [e]; exact h
theorem wipe_nil {ρ : REnv} {N : REnv → Prop} (h : N ρ) : Wipe ρ [] N := h
theorem wipe_cons {ρ : REnv} {v : Nat} {vs : List Nat} {N : REnv → Prop} (h : Wipe ρ vs fun ρ' => Upd ρ' v .un N) : Wipe ρ (v :: vs) N := h
section
variable {ρ : REnv} {N : REnv → Prop} {T : D → Prop} {E : D → REnv → Prop} {g h : REnv → SR} {f : REnv → R D} {u : REnv → R Bool} {t : REnv → R (List D)}
theorem sp_setU {i : Nat} (h : (f ρ).wp (fun d => Upd ρ i (.val d) N) (fun e => E e ρ)) : (sSet i f ρ).wp N T E := sp_set h
theorem sp_parU {i j : Nat} (h : (t ρ).wp (fun ds => Has2 ds fun a b => Upd ρ i (.val a) fun ρ' => Upd ρ' j (.val b) N) (fun e => E e ρ)) : (sPar i j t ρ).wp N T E := sp_par h
theorem sp_ownU {i : Nat} (h : (t ρ).wp (fun ds => Fits ds.length (Upd ρ i (.own ds) N)) (fun e => E e ρ)) : (sOwn i t ρ).wp N T E := sp_own h
theorem sp_appU {i : Nat} {ds : List D} (e : ρ[i]? = some (.own ds)) (h : (f ρ).wp (fun d => Grows ds.length (Upd ρ i (.own (ds ++ [d])) N)) (fun e => E e ρ)) : (sApp i f ρ).wp N T E := sp_app e h
theorem sp_frO {i : Nat} {ds : List D} (e : ρ[i]? = some (.own ds)) (h : Upd ρ i (.val (.lst ds)) fun ρ' => (g ρ').wp N T E) : (sFreeze i g ρ).wp N T E := by
  unfold sFreeze eFreeze
  rw [e]
  exact h
theorem sp_frV {i : Nat} {d : D} (e : ρ[i]? = some (.val d)) (h : (g ρ).wp N T E) : (sFreeze i g ρ).wp N T E := by
  unfold sFreeze eFreeze
  rw [e]
  exact h
theorem sp_frU {i : Nat} (e : ρ[i]? = some .un) (h : (g ρ).wp N T E) : (sFreeze i g ρ).wp N T E := by
  unfold sFreeze eFreeze
  rw [e]
  exact h
theorem w_bName {i : Nat} {d : D} (h : Upd ρ i (.val d) N) : Got (bName i d ρ) N := ⟨_, rfl, h⟩
theorem w_bNil (h : N ρ) : Got (bNil [] ρ) N := ⟨_, rfl, h⟩
theorem w_bCons {b : D → REnv → Option REnv} {c : List D → REnv → Option REnv} {d : D} {r : List D} (h : Got (b d ρ) fun ρ' => Got (c r ρ') N) : Got (bCons b c (d :: r) ρ) N := by
  obtain ⟨ρ', e, ρ'', e2, h⟩ := h
  exact ⟨ρ'', by unfold bCons; simp only [e, Option.bind_some, e2], h⟩
theorem w_bSeqT {n : Nat} {c : List D → REnv → Option REnv} {xs : List D} (hl : xs.length = n) (h : Got (c xs ρ) N) : Got (bSeq n c (.tup xs) ρ) N := by
  obtain ⟨ρ', e, h⟩ := h
  exact ⟨ρ', by unfold bSeq; simp only [hl, if_true, e], h⟩
theorem w_bSeqL {n : Nat} {c : List D → REnv → Option REnv} {xs : List D} (hl : xs.length = n) (h : Got (c xs ρ) N) : Got (bSeq n c (.lst xs) ρ) N := by
  obtain ⟨ρ', e, h⟩ := h
  exact ⟨ρ', by unfold bSeq; simp only [hl, if_true, e], h⟩
theorem wp_compU {E : D → Prop} {P : D → Prop} {vs : List Nat} {fi : REnv → R (List D)} {b : D → REnv → Option REnv} {c : REnv → R Bool} {e : REnv → R D} (h : (fi ρ).wp (fun ds => Fits ds.length (Wipe ρ vs fun ρ' => Got (compS b c e ds ρ') fun rs => P (.lst rs))) E) : (eComp vs fi b c e ρ).wp P E := wp_comp h
end
theorem wp_fnU {n m : Nat} {ds : List D} {g : REnv → SR} {ρ0 : REnv} {P : D → Prop} {E : D → Prop} (hl : ds.length = n) (e : ds.map .val ++ List.replicate (m - n) .un = ρ0) (h : (g ρ0).wp (fun _ => P .non) P (fun e _ => E e)) : (fnD n m g ds).wp P E := wp_fn hl (by rw [e]; exact h)
section
variable {ρ : REnv} {N : REnv → Prop} {T : D → Prop} {E : D → REnv → Prop} {g : REnv → SR} {b : D → REnv → Option REnv} {d : D} {ds : List D}
theorem fs_nil (h : N ρ) : (forS b g [] ρ).wp N T E := by unfold forS; exact h
theorem fs_cons (h : Got (b d ρ) fun ρ' => (g ρ').wp (fun ρ'' => (forS b g ds ρ'').wp N T E) T E) : (forS b g (d :: ds) ρ).wp N T E := by
  obtain ⟨ρ', e1, h1⟩ := h
  unfold forS
  rw [e1]
  show ((g ρ').seq (forS b g ds)).wp N T E
  exact sp_seq (g := g) (h := forS b g ds) h1
end
section
variable {ρ : REnv} {P : D → Prop} {x y : Rat}
theorem w_ixR0 (h : P (.int x.num)) : Got (oIx (rD x) (.int 0)) P := w_ixT rfl h
theorem w_ixR1 (h : P (.int x.den)) : Got (oIx (rD x) (.int 1)) P := w_ixT rfl h
theorem w_lenR (h : P (.int 2)) : Got (oLen [rD x]) P := w_lenT h
theorem kt_rt : kitT (rD x) "tuple" = some true := kt_tt
theorem kt_rb : kitT (rD x) "bool" = some false := kt_tb
theorem kt_ri : kitT (rD x) "int" = some false := kt_ti
theorem kt_rl : kitT (rD x) "list" = some false := kt_tl
theorem w_iterR {P : List D → Prop} (h : P [.int x.num, .int x.den]) : Got (iterD (rD x)) P := g_ot rfl h
theorem w_bSeqR {c : List D → REnv → Option REnv} {N : REnv → Prop} (h : Got (c [.int x.num, .int x.den] ρ) N) : Got (bSeq 2 c (rD x) ρ) N := w_bSeqT rfl h
theorem eqD_rat : eqD (rD x) (rD y) = decide (x = y) := by
  have e : eqD (rD x) (rD y) = (eqD (.int x.num) (.int y.num) && eqD (.int x.den) (.int y.den)) := by
    simp [rD, eqD, D.py, pyL, PyData.eqv, PyData.eqvAll]
  rw [e, eqD_int, eqD_int]
  by_cases h : x = y
  · subst h; simp
  · have : ¬ (x.num = y.num ∧ (x.den : Int) = y.den) := fun z => h (Rat.ext z.1 (by omega))
    simp only [h, decide_false]
    by_cases h1 : x.num = y.num
    · have h2 : ¬ ((x.den : Int) = y.den) := fun z => this ⟨h1, z⟩
      simp only [h2, decide_false, Bool.and_false]
    · simp only [h1, decide_false, Bool.false_and]
theorem okq_rat : okq 40 (rD x) = true := rfl
theorem w_eqR (h : P (.bl (decide (x = y)))) : Got (oEq (rD x) (rD y)) P := w_eq okq_rat okq_rat (by rw [eqD_rat]; exact h)
theorem w_neR (h : P (.bl (!decide (x = y)))) : Got (oNe (rD x) (rD y)) P := w_ne okq_rat okq_rat (by rw [eqD_rat]; exact h)
end
theorem RB.n {n m : Nat} {x : Rat} (h : RB n m x) : Bd n x.num := h.1
theorem RB.d {n m : Nat} {x : Rat} (h : RB n m x) : Bd m x.den := h.2
/-! ### triples -/
abbrev t3 (a b c : Int) : D := .tup [.int a, .int b, .int c]
section
variable {P : D → Prop} {a b c d e f : Int}
theorem eqD_t3 : eqD (t3 a b c) (t3 d e f) = decide (a = d ∧ b = e ∧ c = f) := by
  have z : eqD (t3 a b c) (t3 d e f) = (eqD (.int a) (.int d) && (eqD (.int b) (.int e) && eqD (.int c) (.int f))) := by
    simp [eqD, D.py, pyL, PyData.eqv, PyData.eqvAll]
  rw [z, eqD_int, eqD_int, eqD_int]
  simp only [Bool.decide_and]
theorem w_eq3 (h : P (.bl (decide (a = d ∧ b = e ∧ c = f)))) : Got (oEq (.tup [.int a, .int b, .int c]) (.tup [.int d, .int e, .int f])) P := w_eq rfl rfl (by rw [show eqD _ _ = _ from eqD_t3]; exact h)
theorem w_ne3 (h : P (.bl (!decide (a = d ∧ b = e ∧ c = f)))) : Got (oNe (.tup [.int a, .int b, .int c]) (.tup [.int d, .int e, .int f])) P := w_ne rfl rfl (by rw [show eqD _ _ = _ from eqD_t3]; exact h)
theorem w_rng3 {P : List D → Prop} (h : P [.int 0, .int 1, .int 2]) : Got (range1 [.int 3]) P := g_ot rfl h
theorem w_zip3 {P : List D → Prop} {a b c d e f : D} (h : P [.tup [a, d], .tup [b, e], .tup [c, f]]) : Got (zip2 [.tup [a, b, c], .tup [d, e, f]]) P := g_ot rfl h
theorem w_sum3 (h : P (.int (a + b + c))) : Got (oSum [.lst [.int a, .int b, .int c]]) P := w_sum rfl (by rw [show [a, b, c].sum = a + b + c by simp; omega]; exact h)
end
theorem RB.zero : RB 1 1 0 := ⟨Bd.lit (by decide), Bd.lit (by decide)⟩
theorem RB.one : RB 1 1 1 := ⟨Bd.lit (by decide), Bd.lit (by decide)⟩
theorem decide_t {p : Prop} [Decidable p] (h : p) : decide p = true := decide_eq_true h
theorem decide_f {p : Prop} [Decidable p] (h : ¬ p) : decide p = false := decide_eq_false h
end Dy

set_option Elab.async false
set_option linter.all false
set_option maxRecDepth 100000
namespace Dy
open PySem PySem.Spec PyProof.Rows L2
section
variable {P : D → Prop} {x y z x' y' z' : Rat}
theorem eqD_pair {a b c d : D} : eqD (.tup [a, b]) (.tup [c, d]) = (eqD a c && eqD b d) := by
  simp [eqD, D.py, pyL, PyData.eqv, PyData.eqvAll]
theorem eqD_three {a b c a' b' c' : D} : eqD (.tup [a, b, c]) (.tup [a', b', c']) = (eqD a a' && (eqD b b' && eqD c c')) := by
  simp [eqD, D.py, pyL, PyData.eqv, PyData.eqvAll]
theorem w_eqRR (h : P (.bl (decide (x = x' ∧ y = y')))) : Got (oEq (.tup [rD x, rD y]) (.tup [rD x', rD y'])) P := w_eq rfl rfl (by rw [eqD_pair, eqD_rat, eqD_rat, ← Bool.decide_and]; exact h)
theorem w_neRR (h : P (.bl (!decide (x = x' ∧ y = y')))) : Got (oNe (.tup [rD x, rD y]) (.tup [rD x', rD y'])) P := w_ne rfl rfl (by rw [eqD_pair, eqD_rat, eqD_rat, ← Bool.decide_and]; exact h)
theorem w_eqRRR (h : P (.bl (decide (x = x' ∧ y = y' ∧ z = z')))) : Got (oEq (.tup [rD x, rD y, rD z]) (.tup [rD x', rD y', rD z'])) P := w_eq rfl rfl (by rw [eqD_three, eqD_rat, eqD_rat, eqD_rat, ← Bool.decide_and, ← Bool.decide_and]; exact h)
theorem w_neRRR (h : P (.bl (!decide (x = x' ∧ y = y' ∧ z = z')))) : Got (oNe (.tup [rD x, rD y, rD z]) (.tup [rD x', rD y', rD z'])) P := w_ne rfl rfl (by rw [eqD_three, eqD_rat, eqD_rat, eqD_rat, ← Bool.decide_and, ← Bool.decide_and]; exact h)
end
theorem kt_zb {s : Str} : kitT (.str s) "bool" = some false := by show kitB "str" "bool" = _; exact kit_sb
theorem kt_zi {s : Str} : kitT (.str s) "int" = some false := by show kitB "str" "int" = _; exact kit_si
theorem kt_zt {s : Str} : kitT (.str s) "tuple" = some false := by show kitB "str" "tuple" = _; exact kit_st
theorem kt_zl {s : Str} : kitT (.str s) "list" = some false := by show kitB "str" "list" = _; exact kit_sl
theorem kt_zs {s : Str} : kitT (.str s) "str" = some true := by show kitB "str" "str" = _; exact kit_ss
theorem kt_zd {s : Str} : kitT (.str s) "dict" = some false := by show kitB "str" "dict" = _; exact kit_sd
end Dy

set_option Elab.async false
set_option linter.all false
set_option maxRecDepth 100000
namespace Dy
open PySem PySem.Spec PyProof.Rows L2
/-- min(a, b, c) of three ints -/
def oMin3 : List D → Option D
  | [.int i, .int j, .int k] => some (.int (if k < (if j < i then j else i) then k else (if j < i then j else i)))
  | _ => none
theorem w_min3 {i j k : Int} {P : D → Prop} (h : P (.int (if k < (if j < i then j else i) then k else (if j < i then j else i)))) : Got (oMin3 [.int i, .int j, .int k]) P := ⟨_, rfl, h⟩
end Dy

set_option Elab.async false
set_option linter.all false
set_option maxRecDepth 100000
namespace Dy
open PySem PySem.Spec PyProof.Rows L2
/-! ### refusals -/
/-- what is known of a class of refusals -/
structure ExcC (K : PySem.W.Frag) (mg : Str → Option Value) (c : Str) : Prop where
  ref : mg c = some (.ref (He.ga K c))
  q : PySem.W.excIn K (He.ga K c) He.veBase "ValueError.__new__" = true
  keep : PySem.W.keepIn K (.ref (He.ga K c)) = true
  sub : PySem.W.subIn K (.ref (He.ga K c)) (.type "BaseException") = some true
  ty : PySem.W.typeIn K (.ref (He.ga K c)) = some (.type "type")
def sRaise (c : Str) : REnv → SR := fun ρ => .err (.exc c [] []) ρ
theorem ss_raise0 {X : Cx} {W : WX} {c m : Str} {j : Nat} {p p2 pos' pos : Pos} (E : ExcC X.K X.mg c) (hc : X.calm = true) (tk : Takes X W) (hg : Gl X c := by rfl) (hdb : (c == ("__debug__" : Str)) = false := by decide) :
    SS X W (.Raise (some (.Call (.Name c p) [.Constant (.str m) j p2] [] pos')) none pos) (sRaise c) :=
  (ps_raise hc tk (pmk_own PySem.F.excBase_ValueError E.q E.ref E.keep (raises_own E.sub E.ty) hg hdb)).dy fun D σ H ⟨G, F, ρ, r, p⟩ =>
    p σ F H _ none (.refl _) .refl r ⟨c, [], [], [], rfl, rfl, rfl, RepL.nil, rfl⟩
end Dy

set_option Elab.async false
set_option linter.all false
set_option maxRecDepth 100000
namespace Dy
open PySem PySem.Spec PyProof.Rows L2
/-! ### own lists, read and kept as one's own -/
/-- a test over the slots with x frozen; behind it x is as it was -/
def uPeek (i : Nat) (u : REnv → R Bool) : REnv → R Bool := fun ρ => match u (eFreeze i ρ) with
  | .ok b => .ok b
  | _ => .bad
/-- the same of an expression that gives a whole number or a truth -/
def ePeek (i : Nat) (f : REnv → R D) : REnv → R D := fun ρ => match f (eFreeze i ρ) with
  | .ok (.int n) => .ok (.int n)
  | .ok (.bl b) => .ok (.bl b)
  | _ => .bad
theorem RepE.frz {K : PySem.W.Frag} {G F H : Hp} {σ : St} {ρ : REnv} (r : RepE K G F H σ ρ) (i : Nat) : ∃ F1, Same F F1 ∧ RepE K G F1 H σ (eFreeze i ρ) := by
  unfold eFreeze
  cases q : ρ[i]? with
  | none => exact ⟨F, .refl _, r⟩
  | some s =>
    cases s with
    | own ds =>
      obtain ⟨F', s1, n1, r1⟩ := r.freeze q
      exact ⟨F', s1, r1⟩
    | tree o =>
      obtain ⟨F', s1, n1, r1⟩ := r.freezeT q
      exact ⟨F', s1, r1⟩
    | pin w o =>
      obtain ⟨F', s1, n1, r1⟩ := r.freezeP q
      exact ⟨F', s1, r1⟩
    | _ => exact ⟨F, .refl _, r⟩
theorem se_peek {X : Cx} {W : WX} {c : Expr} {f : REnv → R D} (i : Nat) (h : SE X W c f) : SE X W c (ePeek i f) := PE.dy h fun σ H Q ⟨G, F, ρ, r, p⟩ => by
  obtain ⟨F1, s1, r1⟩ := r.frz i
  refine ⟨G, F1, _, r1, ?_⟩
  unfold ePeek at p
  split at p
  · rename_i n e
    rw [e]
    exact fun v F2 H2 ex rel => p v F H2 ⟨.refl _, ex.h, s1.trans (ex.f.trans ex.s), fun a o h1 h2 => by rw [h2] at h1; cases h1⟩ (by rw [rel.int_inv]; exact Rep.mk_int)
  · rename_i b e
    rw [e]
    exact fun v F2 H2 ex rel => p v F H2 ⟨.refl _, ex.h, s1.trans (ex.f.trans ex.s), fun a o h1 h2 => by rw [h2] at h1; cases h1⟩ (by rw [rel.bl_inv]; exact Rep.mk_bl)
  · exact p.elim
def Sc (d : D) (P : D → Prop) : Prop := (∃ n, d = D.int n ∧ P (D.int n)) ∨ ∃ b, d = D.bl b ∧ P (D.bl b)
theorem sc_int {n : Int} {P : D → Prop} (h : P (.int n)) : Sc (.int n) P := .inl ⟨n, rfl, h⟩
theorem sc_bl {b : Bool} {P : D → Prop} (h : P (.bl b)) : Sc (.bl b) P := .inr ⟨b, rfl, h⟩
section
variable {ρ : REnv} {i : Nat} {ds : List D} {E : D → Prop}
theorem wp_uPeek {u : REnv → R Bool} {P : Bool → Prop} (e : ρ[i]? = some (.own ds)) (h : Upd ρ i (.val (.lst ds)) fun ρ' => (u ρ').wp P NoE) : (uPeek i u ρ).wp P E := by
  unfold Upd at h
  obtain ⟨b, e1, hp⟩ := h.ok
  unfold uPeek eFreeze
  rw [e]
  show (match u (ρ.set i (.val (.lst ds))) with | .ok b => R.ok b | _ => .bad).wp P E
  rw [e1]; exact hp
theorem wp_ePeek {f : REnv → R D} {P : D → Prop} (e : ρ[i]? = some (.own ds)) (h : Upd ρ i (.val (.lst ds)) fun ρ' => (f ρ').wp (fun d => Sc d P) NoE) : (ePeek i f ρ).wp P E := by
  unfold Upd at h
  obtain ⟨d, e1, hp⟩ := h.ok
  have e2 : eFreeze i ρ = ρ.set i (.val (.lst ds)) := by unfold eFreeze; rw [e]
  unfold ePeek
  rw [e2, e1]
  rcases hp with ⟨n, rfl, hp⟩ | ⟨b, rfl, hp⟩
  · exact hp
  · exact hp
end
/-- x[e], x one's own list -/
def eIxO (i : Nat) (g : REnv → R D) : REnv → R D := fun ρ => match ρ[i]? with
  | some (.own ds) => (g ρ).bind fun d => match d with
    | .int k => .opt (L2.atI ds k)
    | _ => .bad
  | _ => .bad
theorem wp_ixO {ρ : REnv} {i : Nat} {ds : List D} {g : REnv → R D} {P E : D → Prop} (e : ρ[i]? = some (.own ds)) (h : (g ρ).wp (fun d => HasI d fun k => Got (L2.atI ds k) P) E) : (eIxO i g ρ).wp P E := by
  unfold eIxO
  rw [e]
  refine wp_bind (h.post ?_)
  rintro _ ⟨k, rfl, h⟩
  exact wp_opt h
end Dy

set_option Elab.async false
set_option linter.all false
set_option maxRecDepth 100000
set_option maxHeartbeats 2000000
namespace Dy
open PySem PySem.Spec PyProof.Rows L2
/-! ### an exception caught and kept -/
section
variable {X : Cx} {pins : List (Addr × Obj)} {σ : St} {H : Hp} {sI s : Shared} {B : Heap} {a : Addr} {cls : Value} {d : Option Addr}
end
section
variable {X : Cx} {x n : Str} {c : Value} {i : Nat} {body suite : List Stmt} {b₀ : Stmt} {np pos pos' : Pos} {tb : WX → TS} {ts : Value → Option Addr → TS} {Wo : WX}
end
end Dy
/-! ### what is asked of the classes of refusals -/
namespace Dy
open PySem PySem.Spec PyProof.Rows L2
/-- the one class beneath the other, by their names (all stand under YardError) -/
def isaC (c y : Str) : Bool := c == y || y == ("YardError" : Str)
def exD (K : PySem.W.Frag) (C : Addr) : Bool :=
  He.eqO (PySem.W.findIn K (.ref C) "__getattribute__") (some (some (.builtin "BaseException.__getattribute__"))) && (He.eqO (PySem.W.findIn K (.ref C) "__getattr__") (some none) &&
  (decide (PySem.W.subIn K (.ref C) (.type "BaseException") = some true) && (PySem.W.hasDictIn K C && (He.eqO (PySem.W.findIn K (.ref C) "__class__") (some (some (.builtin "object.__class__"))) &&
  (He.eqO (PySem.W.specialIn K (.builtin "object.__class__") "__get__") (some (some (.builtin "getset_descriptor.__get__"))) && (decide (PySem.W.takesIn K (.builtin "object.__class__") = some true) &&
  decide (PySem.W.mroIn K C (.type "object") = some true)))))))
theorem exD_ok {K : PySem.W.Frag} {C : Addr} (h : exD K C = true) : L2.ExcC K C := by
  obtain ⟨h1, h⟩ := He.ba h
  obtain ⟨h2, h⟩ := He.ba h
  obtain ⟨h3, h⟩ := He.ba h
  obtain ⟨h4, h⟩ := He.ba h
  obtain ⟨h5, h⟩ := He.ba h
  obtain ⟨h6, h⟩ := He.ba h
  obtain ⟨h7, h8⟩ := He.ba h
  exact ⟨He.eqO_ok h1, He.eqO_ok h2, of_decide_eq_true h3, h4, He.eqO_ok h5, He.eqO_ok h6, of_decide_eq_true h7, of_decide_eq_true h8⟩
/-- ks: the classes raised; cs: those asked after -/
def exB (ks cs : List Str) (K : PySem.W.Frag) : Bool := ks.all fun c => exD K (He.ga K c) && (decide (PySem.W.kitOne K (.ref (He.ga K c)) (.type "ValueError") = some true) &&
  cs.all fun y => decide (PySem.W.exmOne K (.ref (He.ga K c)) (.ref (He.ga K y)) = some (isaC c y)) && decide (PySem.W.kitOne K (.ref (He.ga K c)) (.ref (He.ga K y)) = some (isaC c y)))
structure ExF (K : PySem.W.Frag) (mg : Str → Option Value) (ks cs : List Str) : Prop where
  glo : ∀ y ∈ cs, mg y = some (.ref (He.ga K y))
  d : ∀ c ∈ ks, L2.ExcC K (He.ga K c)
  ve : ∀ c ∈ ks, PySem.W.kitOne K (.ref (He.ga K c)) (.type "ValueError") = some true
  exm : ∀ c ∈ ks, ∀ y ∈ cs, PySem.W.exmOne K (.ref (He.ga K c)) (.ref (He.ga K y)) = some (isaC c y)
  isi : ∀ c ∈ ks, ∀ y ∈ cs, PySem.W.kitOne K (.ref (He.ga K c)) (.ref (He.ga K y)) = some (isaC c y)
theorem exB_ok {ks cs : List Str} {K : PySem.W.Frag} {mg : Str → Option Value} (h : exB ks cs K = true) (g : ∀ y ∈ cs, mg y = some (.ref (He.ga K y))) : ExF K mg ks cs := by
  have one : ∀ c ∈ ks, L2.ExcC K (He.ga K c) ∧ PySem.W.kitOne K (.ref (He.ga K c)) (.type "ValueError") = some true ∧
      ∀ y ∈ cs, PySem.W.exmOne K (.ref (He.ga K c)) (.ref (He.ga K y)) = some (isaC c y) ∧ PySem.W.kitOne K (.ref (He.ga K c)) (.ref (He.ga K y)) = some (isaC c y) := fun c hc => by
    have h1 := List.all_eq_true.mp h c hc
    obtain ⟨h2, h1⟩ := He.ba h1
    obtain ⟨h3, h1⟩ := He.ba h1
    refine ⟨exD_ok h2, of_decide_eq_true h3, fun y hy => ?_⟩
    obtain ⟨h4, h5⟩ := He.ba (List.all_eq_true.mp h1 y hy)
    exact ⟨of_decide_eq_true h4, of_decide_eq_true h5⟩
  exact ⟨g, fun c hc => (one c hc).1, fun c hc => (one c hc).2.1, fun c hc y hy => ((one c hc).2.2 y hy).1, fun c hc y hy => ((one c hc).2.2 y hy).2⟩
/-! ### try .. except C as e -/
section
variable {X : Cx} {W : WX} {y n : Str} {i : Nat} {body suite : List Stmt} {b₀ : Stmt} {np pos pos' : Pos} {g h : REnv → SR} {ks cs : List Str}
end
/-! ### isinstance of a kept refusal -/
section
variable {K : PySem.W.Frag} {x D : Addr} {ox : Obj} {od : Option Obj}
end
section
variable {X : Cx} {pins : List (Addr × Obj)} {σ : St} {H : Hp} {s : Shared} {a C : Addr} {dd : Option Addr}
end
/-! ### the field of a kept refusal -/
section
variable {X : Cx} {W : WX} {e : Expr} {f : REnv → R D} {pos : Pos} {n : Str} {te : TE}
end
/-! ### the head's facts, with one more asked -/
def obsE (fa : List He.Fa) (fn : List He.DefD) (ex : PySem.W.Frag → Bool) (K : PySem.W.Frag) : He.AlD := ((He.obsD fa fn K).1 && ex K, (He.obsD fa fn K).2)
def obsEG (n : Nat) (fa : List He.Fa) (fn : List He.DefD) (ex : PySem.W.Frag → Bool) (g : Addr → Option Obj) : He.AlD := obsE fa fn ex (He.frG g (PySem.cStatics :: He.asD g n))
def SaysE (fa : List He.Fa) (fn : List He.DefD) (ex : PySem.W.Frag → Bool) (K : PySem.W.Frag) : Prop := obsE fa fn ex K = He.valD fn
theorem SaysE.d {fa : List He.Fa} {fn : List He.DefD} {ex : PySem.W.Frag → Bool} {K : PySem.W.Frag} (c : SaysE fa fn ex K) : He.SaysD fa fn K := by
  have h : obsE fa fn ex K = He.valD fn := c
  have h1 := congrArg Prod.fst h
  have h2 := congrArg Prod.snd h
  exact Prod.ext (He.ba h1).1 h2
theorem SaysE.ex {fa : List He.Fa} {fn : List He.DefD} {ex : PySem.W.Frag → Bool} {K : PySem.W.Frag} (c : SaysE fa fn ex K) : ex K = true := (He.ba (show ((He.obsD fa fn K).1 && ex K) = true from congrArg (fun z : He.AlD => z.1) (show obsE fa fn ex K = He.valD fn from c))).2
def hookE (n : Nat) (fa : List He.Fa) (fn : List He.DefD) (ex : PySem.W.Frag → Bool) : PySem.W.Hook where
  α := He.AlD
  obs := fun s => obsEG n fa fn ex s.heap.get?
  val := fun _ => He.valD fn
  says := fun _ h => ∃ K : PySem.W.Frag, K.In h ∧ SaysE fa fn ex K
  of := fun _ _ e => ⟨_, He.frG_in, e⟩
  keeps := fun _ _ _ ⟨K, hK, c⟩ k => ⟨K, PySem.W.Frag.In.keeps hK k, c⟩
theorem obsEG_eq {n : Nat} {fa : List He.Fa} {fn : List He.DefD} {ex : PySem.W.Frag → Bool} {g : Addr → Option Obj} {s : Shared} (h : ∀ a, g a = s.heap.get? a) : obsEG n fa fn ex g = (hookE n fa fn ex).obs s := by
  have e : g = s.heap.get? := funext h
  rw [e] <;> rfl
section
variable {ρ : REnv} {N : REnv → Prop} {T : D → Prop} {E : D → REnv → Prop} {g h : REnv → SR} {ks cs : List Str} {y : Str} {i : Nat}
end
section
variable {ks cs ns : List Str} {c y : Str} {fs : List Str} {xs ys : List D} {P : D → Prop} {b : Bool}
end
end Dy

set_option Elab.async false
set_option linter.all false
set_option maxRecDepth 100000
set_option maxHeartbeats 2000000
/-! A dict is no tuple. -/
namespace Dy
open PySem PySem.Spec PyProof.Rows PySem.SeqAt
open AutoSeq1 (wpAny_loadPart')
open MeetsSeq MeetsSeq2 MeetsSeq3 SeqRoads2
open L2
end Dy

set_option Elab.async false
set_option linter.all false
set_option maxRecDepth 100000
set_option maxHeartbeats 2000000
/-! min of a list of truths that are all True; max, min of a list of whole numbers. -/
namespace Dy
open PySem PySem.Spec PyProof.Rows L2
/-! ### max, min of whole numbers -/
end Dy

set_option Elab.async false
set_option linter.all false
set_option maxRecDepth 100000
/-! The end, with the script's size. -/
namespace Dy
open PySem PySem.Spec PyProof.Rows L2
end Dy

set_option Elab.async false
set_option linter.all false
set_option maxRecDepth 100000
set_option maxHeartbeats 2000000
/-! Refusals with a field: classes whose own __init__ hands on to the class above and sets one field. -/
namespace Dy
open PySem PySem.Spec PyProof.Rows L2
/-! ### what is asked of such a class, and of the class above -/
structure YrC (K : PySem.W.Frag) (Y : Addr) : Prop where
  sp : PySem.W.specialIn K (.ref Y) "__getattribute__" = some (some (.builtin "type.__getattribute__"))
  rd : PySem.W.readsIn K Y (.type "type") = true
  fd : PySem.W.findCls K (.ref Y) (.type "type") "__init__" = some (.val (.builtin "ValueError.__init__"))
/-! ### Y.__init__(self, ..) -/
section
variable {X : Cx} {o e : Expr} {es : List Expr} {to te : TE} {ta : TA} {f : Str} {p p' p1 p2 pos : Pos}
end
def spI (K : PySem.W.Frag) (f : Str) : Sp := fun vs H Q _ => ∃ (a C : Addr) (y : V), vs = [.ref a, y] ∧ OexC K C ∧ PySem.W.findIn K (.ref C) f = some none ∧ H a = some (exo a C none) ∧
  ∀ dx, H dx = none → dx ≠ a → Q .non (upd (upd H dx (exd dx [(f, y)])) a (exo a C (some dx)))
/-- such a class: its __init__ keeps what is said of it -/
structure InC (P : Program) (w : World) (K : PySem.W.Frag) (mg : Str → Option Value) (base : Heap) (c f : Str) : Prop where
  fn : ∃ (fI : Addr) (fd : FuncData) (ps : List Str), FnOk P w K mg base (L2.CX P w) 1 fI fd ps (spI K f) ∧ Binds K fd ps [] ∧ PySem.W.findIn K (.ref (He.ga K c)) "__init__" = some (some (.ref fI)) ∧ PySem.W.typeIn K (.ref fI) = some (.type "function")
  ox : OexC K (He.ga K c)
  no : PySem.W.findIn K (.ref (He.ga K c)) f = some none
  gl : mg c = some (.ref (He.ga K c))
section
variable {P : Program} {w : World} {K : PySem.W.Frag} {mg : Str → Option Value} {base : Heap} {f : Addr} {fd : FuncData} {qual : Str} {params : Arguments} {body : List Stmt} {scope : Scope} {Y : Addr} {p : Str}
end
/-! ### raise C(e) -/
section
variable {X : Cx} {W : WX} {c f : Str} {e : Expr} {t : REnv → R (List D)} {p pos' pos : Pos}
end
section
variable {ρ : REnv} {N : REnv → Prop} {T : D → Prop} {E : D → REnv → Prop} {t : REnv → R (List D)} {c f : Str}
end
/-! ### the head's facts of such a class -/
structure FxC (K : PySem.W.Frag) (c f : Str) : Prop where
  ox : OexC K (He.ga K c)
  no : PySem.W.findIn K (.ref (He.ga K c)) f = some none
  fi : PySem.W.findIn K (.ref (He.ga K c)) "__init__" = some (some (.ref (He.ma K (He.ga K c) "__init__")))
  ft : PySem.W.typeIn K (.ref (He.ma K (He.ga K c) "__init__")) = some (.type "function")
end Dy

set_option Elab.async false
set_option linter.all false
set_option maxRecDepth 100000
set_option maxHeartbeats 2000000
/-! A list with something in it is not the empty one, whatever is in it. -/
namespace Dy
open PySem PySem.Spec PyProof.Rows PySem.SeqAt L2
end Dy

set_option Elab.async false
set_option linter.all false
set_option maxRecDepth 100000
set_option maxHeartbeats 2000000
/-! dict of a list of pairs, its reading. -/
namespace Dy
open PySem PySem.Spec PyProof.Rows L2
/-! ### dict(pairs) -/
section
variable {K : PySem.W.Frag} {F H : Hp}
end
section
variable {X : Cx}
end
end Dy

set_option Elab.async false
set_option linter.all false
set_option maxRecDepth 100000
/-! ### a comprehension whose step may raise -/
namespace Dy
open PySem PySem.Spec PyProof.Rows L2

section
variable {X : Cx} {W : WX} {pins : List (Addr × Obj)} {σ : L2.St} {H H' : Hp} {s sr : Shared} {B : Heap} {a : Addr} {cls : Value} {d : Option Addr}
end

section
variable {X : Cx}
end

/-! #### what it makes of data -/
section
variable {X : Cx} {W : WX} {elt tg iter : Expr} {ifs : List Expr} {scope : Scope} {own : List (Str × Nat)} {pos : Pos} {fi : REnv → R (List D)} {t : TG} {b : D → REnv → Option REnv} {c : REnv → R Bool} {e : REnv → R D} {is : List Nat}
end
section
variable {X : Cx} {W : WX} {e : Expr} {es : List Expr} {x : Str} {p pos : Pos} {k n : Nat} {t : REnv → R (List D)} {fn : List D → R D}
end
/-! #### weakest conditions -/
section
variable {b : D → REnv → Option REnv} {c : REnv → R Bool} {e : REnv → R D} {ρ : REnv} {P : D → Prop} {E : D → Prop} {vs : List Nat} {fi : REnv → R (List D)}
end
end Dy

set_option Elab.async false
set_option linter.all false
set_option maxRecDepth 100000
set_option maxHeartbeats 2000000
/-! sorted of texts, in, a text times a whole number. -/
namespace Dy
open PySem PySem.Spec PyProof.Rows L2
/-! ### the order of texts -/
/-! ### sorted -/
section
variable {K : PySem.W.Frag} {F H : Hp}
end
section
variable {X : Cx}
/-! ### in -/
/-! ### a text times a whole number -/
end
end Dy

set_option Elab.async false
set_option linter.all false
set_option maxRecDepth 100000
set_option maxHeartbeats 2000000
/-! ### min([..], default=True) of truths that are all True -/
namespace Dy
open PySem PySem.Spec PyProof.Rows L2
section
variable {X : Cx} {W : WX} {e d : Expr} {f g : REnv → R D} {x : Str} {p kp pos : Pos}
end
end Dy

set_option Elab.async false
set_option linter.all false
set_option maxRecDepth 100000
/-! ### a def's result as the caller's own list -/
namespace Dy
open PySem PySem.Spec PyProof.Rows L2

section
variable {K : PySem.W.Frag} {G F H F' H' : Hp} {σ : St} {ρ : REnv}
/-- a slot takes a list that came in between -/
theorem RepE.setO2 (r : RepE K G F H σ ρ) (ex : Ext F H F' H') {i : Nat} {ds : List D} {a : Addr} {vs : List V} (h : RepL K F' ds vs) (ha : H a = none) (h' : H' a = some (.lst vs)) (hf : F' a = none) :
    RepE K G F' H' (σ.set i (some (.ref a))) (ρ.set i (.own ds)) := by
  have hg : G a = none := r.g.free ha
  have r2 : RepE K G F' H' σ ρ := r.ext ex
  refine r2.put r2.g r2.f (.refl _) (fun j s x b _ h1 h2 o => ⟨rfl, ((r2.at_ j s x h1 h2).own o).2.1⟩) ⟨a, vs, rfl, h', h, hf, hg⟩ fun b o j s x _ h1 h2 o2 => ?_
  have o : some (V.ref a) = some (.ref b) := o
  cases o
  have q := ((r.at_ j s x h1 h2).move ex.f (F' := F') (H' := H') fun b o => by
    obtain ⟨⟨u, hu⟩, hf, _⟩ := (r.at_ j s x h1 h2).own o
    refine ⟨by rw [hu]; exact ex.h _ _ hu, ?_⟩
    cases q : F' b with
    | none => rfl
    | some w =>
      have := ex.n b w q hf
      rw [hu] at this
      cases this).2 a o2
  obtain ⟨⟨u, hu⟩, _⟩ := (r.at_ j s x h1 h2).own q
  rw [ha] at hu
  cases hu
/-- a list that came in between is kept -/
theorem Ext.keep {a : Addr} {vs : List V} (ex : Ext F H F' H') (ha : H a = none) (h' : H' a = some (.lst vs)) (hf : F' a = none) : Ext F H (upd F' a (.lst vs)) H' ∧ Same F' (upd F' a (.lst vs)) := by
  have sm : Same F' (upd F' a (.lst vs)) := same_upd hf
  refine ⟨⟨ex.f.trans sm, ex.h, fun b o q => ?_, fun b o q z => ?_⟩, sm⟩
  · by_cases hb : b = a
    · subst hb; rw [upd_same] at q; rw [← q]; exact h'
    · rw [upd_ne hb] at q; exact ex.s _ _ q
  · by_cases hb : b = a
    · subst hb; exact ha
    · rw [upd_ne hb] at q; exact ex.n b o q z
end
/-! ### results -/
def asL : D → R (List D)
  | .lst es => .ok es
  | _ => .bad
def PostO (K : PySem.W.Frag) (W : WX) (σ : St) (F H : Hp) (x : R (List D)) (Q : V → Hp → Prop) : Prop := match x with
  | .ok es => ∀ a ws F' H', Ext F H F' H' → H' a = some (.lst ws) → RepL K F' es ws → F' a = none → H a = none → Q (.ref a) H'
  | .err e => ∀ cls dd F' H', Ext F H F' H' → XD K F' e cls dd → W cls dd σ H'
  | .bad => False
def spO (K : PySem.W.Frag) (n : Nat) (fn : List D → R D) : Sp := fun vs H Q E => vs.length = n ∧ ∃ F ds, Same F H ∧ RepL K F ds vs ∧ PostO K (fun cls dd _ H' => E cls dd H') [] F H ((fn ds).bind asL) Q
def PostSO (K : PySem.W.Frag) (W : WX) (D : Ends) (G F : Hp) (x : SR) : Prop := match x with
  | .next ρ => ∀ σ' F' H', Same F F' → NewG G F F' → RepE K G F' H' σ' ρ → D.nx σ' H'
  | .ret d => ∃ es, d = .lst es ∧ ∀ a ws F' H', Same F F' → NewG G F F' → Same G H' → Same F' H' → H' a = some (.lst ws) → RepL K F' es ws → F' a = none → G a = none → D.rt (.ref a) H'
  | .err e ρ => ∀ σ' F' H' cls dd, Same F F' → NewG G F F' → RepE K G F' H' σ' ρ → XD K F' e cls dd → W cls dd σ' H'
  | .bad => False
section
variable {α β : Type} {K : PySem.W.Frag} {W : WX} {D D' : Ends} {G F F' H : Hp} {σ : St} {ρ : REnv}
theorem PostSO.ext {x : SR} (s : Same F F') (n : NewG G F F') (h : PostSO K W D G F x) : PostSO K W D G F' x := by
  cases x with
  | next ρ => exact fun σ' F2 H' s2 n2 r => h σ' F2 H' (s.trans s2) (n.trans n2) r
  | ret d =>
    obtain ⟨es, e, h⟩ := h
    exact ⟨es, e, fun a ws F2 H' s2 n2 => h a ws F2 H' (s.trans s2) (n.trans n2)⟩
  | err e ρ => exact fun σ' F2 H' cls dd s2 n2 r x => h σ' F2 H' cls dd (s.trans s2) (n.trans n2) r x
  | bad => exact h
theorem PostSO.toS {rel : Hp → α → β → Prop} {x : R α} {k : α → SR} {Q : β → Hp → Prop} (r : RepE K G F H σ ρ) (h : PostSO K W D G F (x.toS ρ k))
    (f : ∀ a v F' H', x = .ok a → Ext F H F' H' → rel F' a v → RepE K G F' H' σ ρ → PostSO K W D G F' (k a) → Q v H') : Post K W rel σ F H x Q := by
  cases x with
  | ok a => exact fun v F' H' e p => f a v F' H' rfl e p (r.ext e) (PostSO.ext e.f (e.newG r.g) h)
  | err e => exact fun cls dd F' H' ex p => h σ F' H' cls dd ex.f (ex.newG r.g) (r.ext ex) p
  | bad => exact h
theorem PostSO.seq {x : SR} {g : REnv → SR} {nx : St → Hp → Prop} (h : PostSO K W D G F (x.seq g))
    (f : ∀ ρ σ' F' H', x = .next ρ → Same F F' → NewG G F F' → RepE K G F' H' σ' ρ → PostSO K W D G F' (g ρ) → nx σ' H') : PostSO K W { D with nx := nx } G F x := by
  cases x with
  | next ρ => exact fun σ' F' H' s n r => f ρ σ' F' H' rfl s n r (PostSO.ext s n h)
  | ret d => exact h
  | err e ρ => exact h
  | bad => exact h
end
def rsO (K : PySem.W.Frag) (W : WX) (g : REnv → SR) : TS := fun D σ H => ∃ G F ρ, RepE K G F H σ ρ ∧ PostSO K W D G F (g ρ)
abbrev SSO (X : Cx) (W : WX) (s : Stmt) (g : REnv → SR) : Prop := PS X s (rsO X.K W g)
abbrev SSsO (X : Cx) (W : WX) (s : List Stmt) (g : REnv → SR) : Prop := PSs X s (rsO X.K W g)
/-- no return in it -/
def sNR (g : REnv → SR) : REnv → SR := fun ρ => match g ρ with
  | .ret _ => .bad
  | x => x
section
variable {X : Cx} {W : WX} {st : Stmt} {rest : List Stmt} {g h : REnv → SR} {e : Expr} {f : REnv → R D} {pos : Pos}
theorem sso_lift (hs : SS X W st g) : SSO X W st (sNR g) := PS.dy hs fun D σ H ⟨G, F, ρ, r, p⟩ => ⟨G, F, ρ, r, by
  unfold sNR at p
  cases q : g ρ with
  | next a => rw [q] at p; exact p
  | ret a => rw [q] at p; exact p.elim
  | err a b => rw [q] at p; exact p
  | bad => rw [q] at p; exact p.elim⟩
theorem ssso_nil : SSsO X W [] sSkip := pss_nil.dy fun D σ H ⟨G, F, ρ, r, p⟩ => p σ F H (.refl _) .refl r
theorem ssso_cons (h1 : SSO X W st g) (h2 : SSsO X W rest h) : SSsO X W (st :: rest) (sSeq g h) :=
  (pss_cons h1 h2).dy fun D σ H ⟨G, F, ρ, r, p⟩ => ⟨G, F, ρ, r, PostSO.seq p fun ρ' σ' F' H' _ s n r' p' => ⟨G, F', ρ', r', p'⟩⟩
theorem ssso_one (h1 : SSO X W st g) : SSsO X W [st] g := pss_one h1
theorem sso_if {c : Expr} {a b : List Stmt} {u : REnv → R Bool} (hc : ST X W c u) (ha : SSsO X W a g) (hb : SSsO X W b h) : SSO X W (.If c a b pos) (sIf u g h) :=
  (ps_if hc ha hb).dy fun D σ H ⟨G, F, ρ, r, p⟩ => ⟨G, F, ρ, r, PostSO.toS r p fun k v F' H' _ ex rp r' p' => by
    subst rp
    cases k with
    | true => exact ⟨G, F', ρ, r', p'⟩
    | false => exact ⟨G, F', ρ, r', p'⟩⟩
/-- return [..] -/
def sRetL (t : REnv → R (List D)) : REnv → SR := fun ρ => (t ρ).toS ρ fun ds => if ds.length ≤ sizeLine then .ret (.lst ds) else .bad
theorem sso_retL {es : List Expr} {lp : Pos} {t : REnv → R (List D)} (ha : SA X W es t) : SSO X W (.Return (some (.List es lp)) pos) (sRetL t) :=
  (ps_ret (pe_lst ha)).dy fun D σ H ⟨G, F, ρ, r, p⟩ => ⟨G, F, ρ, r, PostSO.toS r p fun ds vs F' H' _ ex rp r' p' => by
    by_cases hl : ds.length ≤ sizeLine
    · rw [if_pos hl] at p'
      obtain ⟨es, e6, p'⟩ := p'
      cases e6
      have hl2 : vs.length ≤ sizeLine := by rw [← rp.length]; exact hl
      refine ⟨hl2, fun q hq => ?_⟩
      have nx : Ext F' H' F' (upd H' q (.lst vs)) := Ext.newH ex.s hq
      have r2 := r'.ext nx
      exact p' q vs F' _ (.refl _) .refl r2.g r2.f upd_same rp (ex.s.free hq) (r'.g.free hq)
    · rw [if_neg hl] at p'; exact p'.elim⟩
/-! ### defs -/
def fnO (n m : Nat) (g : REnv → SR) : List D → R D := fun ds => (fnD n m g ds).bind fun d => (asL d).bind fun es => .ok (.lst es)
theorem fnO_len {n m : Nat} {ds : List D} (hl : ds.length ≠ n) : fnO n m g ds = .bad := by unfold fnO; rw [fnD_len hl]; rfl
theorem fnO_lst {n m : Nat} {ds : List D} {d : D} (e : fnO n m g ds = .ok d) : ∃ es, d = .lst es := by
  unfold fnO at e
  cases q : fnD n m g ds with
  | ok a =>
    rw [q] at e
    cases a with
    | lst es => exact ⟨es, by cases e; rfl⟩
    | _ => cases e
  | err a => rw [q] at e; cases e
  | bad => rw [q] at e; cases e
end
section
variable {P : Program} {w : World} {K : PySem.W.Frag} {mg : Str → Option Value} {base : Heap} {x qual : Str} {params : Arguments} {body : List Stmt} {scope : Scope} {f : Addr} {fd : FuncData} {N ps : List Str} {k : Nat}
theorem okO_def {n : Nat} {g : REnv → SR} (Fn : FunD K x qual params body scope [] [] f fd) (S : FnScope N ps scope) (hn : ps.length = n)
    (hb : ∀ (cdv : Value) (A : Around) (outer : List Env) (s : Shared) (H : Hp) (E : XK), Room k (CxD P w K mg base N qual scope f cdv A outer s H E).A → Takes (CxD P w K mg base N qual scope f cdv A outer s H E) (WD E) →
      PassesOwn (model P w) (CxD P w K mg base N qual scope f cdv A outer s H E).A (CxD P w K mg base N qual scope f cdv A outer s H E).env (CxD P w K mg base N qual scope f cdv A outer s H E).xe → SSsO (CxD P w K mg base N qual scope f cdv A outer s H E) (WD E) body g) :
    FnOk P w K mg base (L2.CX P w) (k + 1) f fd ps (spO K n (fnO n N.length g)) := by
  refine Fn.ok S (fun vs H Q E h => by rw [hn]; exact h.1) fun cdv A outer s H vs Q E hr hsp => ⟨_, hb cdv A outer s H E hr (takes_of rfl rfl rfl rfl) (passes_of rfl), ?_⟩
  obtain ⟨hv, F, ds, sm, rl, p⟩ := hsp
  have hd : ds.length = n := by rw [rl.length, hv]
  unfold fnO fnD at p
  rw [if_pos hd] at p
  refine ⟨H, F, _, repE_start sm rl, ?_⟩
  rw [hd]
  cases e : g (ds.map .val ++ List.replicate (N.length - n) .un) with
  | next ρ => rw [e] at p; exact p.elim
  | ret d =>
    rw [e] at p
    cases d with
    | lst es => exact ⟨es, rfl, fun a ws F' H' s1 n1 g1 f1 h1 h2 h3 h4 => p a ws F' H' ⟨s1, g1, f1, n1⟩ h1 h2 h3 h4⟩
    | _ => exact p.elim
  | err d ρ =>
    rw [e] at p
    exact fun σ' F' H' cls dd s1 n1 r q => p cls dd F' H' ⟨s1, r.g, r.f, n1⟩ q
  | bad => rw [e] at p; exact p.elim
structure CalO (P : Program) (w : World) (K : PySem.W.Frag) (mg : Str → Option Value) (base : Heap) (x : Str) (k n : Nat) (fn : List D → R D) : Prop where
  ex : ∃ (f : Addr) (fd : FuncData) (ps : List Str), FnOk P w K mg base (L2.CX P w) k f fd ps (spO K n fn) ∧ mg x = some (.ref f) ∧ PySem.W.keepIn K (.ref f) = true ∧ Binds K fd ps []
  len : ∀ ds, ds.length ≠ n → fn ds = .bad
  lst : ∀ ds d, fn ds = .ok d → ∃ es, d = .lst es
theorem calO_mk {n : Nat} {g : REnv → SR} (Fn : FunD K x x params body scope [] [] f fd) (hm : mg x = some (.ref f))
    (hb : ∀ (kV doc pm : Value) (an : Option Addr) (cdv ct : Value) (us : List Value), us.length = ps.length → bindArgs (PySem.W.fnOf x x params body scope .none kV doc pm an cdv ct) ⟨us, []⟩ = pure (ps.zip us))
    (ok : FnOk P w K mg base (L2.CX P w) k f fd ps (spO K n (fnO n N.length g))) : CalO P w K mg base x k n (fnO n N.length g) :=
  ⟨⟨f, fd, ps, ok, hm, Fn.kp, Fn.bindsN hb⟩, fun ds h => fnO_len h, fun ds d h => fnO_lst h⟩
end
section
variable {X : Cx} {W : WX} {e : Expr} {es : List Expr} {x y : Str} {p pos pos' cp : Pos} {k n : Nat} {t : REnv → R (List D)} {fn : List D → R D}
/-- f(..), its list kept -/
theorem se_callO (C : CalO X.prog X.w X.K X.mg X.base x k n fn) (tk : Takes X W) (hr : Room k X.A)
    (ha : SA X W (e :: es) t) (hg : Gl X x := by rfl) (hdb : (x == ("__debug__" : Str)) = false := by decide) (he : starEach (e :: es) X.env = (false, eval e X.env) :: starEach es X.env := by rfl) (hpl : (backTo pos (starEach es X.env)).any (·.1) = false := by rfl) :
    SE X W (.Call (.Name x p) (e :: es) [] pos) (eCall fn t) := by
  obtain ⟨f, fd, ps, Fo, hm, hk, hb⟩ := C.ex
  refine (pe_callS (E := WE W) Fo hr hg hm hk hb (fun σ => passAt tk σ) ha hdb he hpl).dy fun σ H Q ⟨G, F, ρ, r, p⟩ => ⟨G, F, ρ, r, Post.bind p fun ds vs F' H' _ ex rp p' => ?_⟩
  have hn : ds.length = n := Classical.byContradiction fun z => by
    rw [C.len ds z] at p'
    exact p'
  refine ⟨by rw [← rp.length]; exact hn, F', ds, ex.s, rp, ?_⟩
  cases q : fn ds with
  | ok d =>
    rw [q] at p'
    obtain ⟨es', rfl⟩ := C.lst ds d q
    refine fun a ws F2 H2 ex2 h1 h2 h3 h4 => ?_
    obtain ⟨ex3, sm⟩ := ex2.keep h4 h1 h3
    exact p' (.ref a) _ H2 ex3 (Rep.mk_lst (.of upd_same) (RepL.mono sm _ _ h2))
  | err d => rw [q] at p'; exact p'
  | bad => rw [q] at p'; exact p'
/-- y = f(..), the list one's own -/
def sSetO (i : Nat) (fn : List D → R D) (t : REnv → R (List D)) : REnv → SR := fun ρ => (t ρ).toS ρ fun ds => (fn ds).toS ρ fun d => (asL d).toS ρ fun es => .next (ρ.set i (.own es))
theorem ss_setO {i : Nat} (C : CalO X.prog X.w X.K X.mg X.base x k n fn) (tk : Takes X W) (hr : Room k X.A) (hN : X.N.Nodup)
    (ha : SA X W (e :: es) t) (hg : Gl X x := by rfl) (hdb : (x == ("__debug__" : Str)) = false := by decide) (he : starEach (e :: es) X.env = (false, eval e X.env) :: starEach es X.env := by rfl) (hpl : (backTo cp (starEach es X.env)).any (·.1) = false := by rfl)
    (hi : X.N[i]? = some y := by rfl) (hx : Loc X.env.scope y := by first | exact Or.inl rfl | exact Or.inr rfl) (hs : swapsWith (.Call (.Name x p) (e :: es) [] cp) (some (.Name y pos')) pos.line X.env = pure false := by rfl)
    (hf : X.fn y = true ∨ X.env.scope.names.lookup y = some .local := by first | exact .inl rfl | exact .inr rfl | assumption) :
    SS X W (.Assign [.Name y pos'] (.Call (.Name x p) (e :: es) [] cp) pos) (sSetO i fn t) := by
  obtain ⟨f, fd, ps, Fo, hm, hk, hb⟩ := C.ex
  refine (ps_set hN hi hx (pe_callS (E := WE W) Fo hr hg hm hk hb (fun σ => passAt tk σ) ha hdb he hpl) hs hf).dy fun D σ H ⟨G, F, ρ, r, p⟩ => ⟨G, F, ρ, r, PostS.toS r p fun ds vs F' H' _ ex rp r' p' => ?_⟩
  have hn : ds.length = n := Classical.byContradiction fun z => by
    rw [C.len ds z] at p'
    exact p'
  refine ⟨by rw [← rp.length]; exact hn, F', ds, ex.s, rp, ?_⟩
  cases q : fn ds with
  | ok d =>
    rw [q] at p'
    obtain ⟨es', rfl⟩ := C.lst ds d q
    refine fun a ws F2 H2 ex2 h1 h2 h3 h4 => ?_
    exact p' _ F2 H2 ex2.f (ex2.newG r'.g) (r'.setO2 ex2 h2 h4 h1 h3)
  | err d =>
    rw [q] at p'
    exact fun cls dd F2 H2 ex2 xd => p' σ F2 H2 cls dd ex2.f (ex2.newG r'.g) (r'.ext ex2) xd
  | bad => rw [q] at p'; exact p'
end
/-! ### weakest conditions -/
def IsL (d : D) (P : List D → Prop) : Prop := ∃ es, d = .lst es ∧ P es
theorem is_l {es : List D} {P : List D → Prop} (h : P es) : IsL (.lst es) P := ⟨es, rfl, h⟩
section
variable {ρ : REnv} {N : REnv → Prop} {T : D → Prop} {E : D → REnv → Prop} {g : REnv → SR} {t : REnv → R (List D)}
theorem sp_nr (h : (g ρ).wp N (fun _ => False) E) : (sNR g ρ).wp N T E := by
  unfold sNR
  cases q : g ρ with
  | next a => rw [q] at h; exact h
  | ret a => rw [q] at h; exact h.elim
  | err a b => rw [q] at h; exact h
  | bad => rw [q] at h; exact h.elim
theorem sp_retL (h : (t ρ).wp (fun ds => Fits ds.length (T (.lst ds))) (fun e => E e ρ)) : (sRetL t ρ).wp N T E := wp_toS (h.post fun ds ⟨h1, h2⟩ => by rw [if_pos h1]; exact h2)
theorem sp_setO {i : Nat} {fn : List D → R D} (h : (t ρ).wp (fun ds => (fn ds).wp (fun d => IsL d fun es => Upd ρ i (.own es) N) (fun e => E e ρ)) (fun e => E e ρ)) : (sSetO i fn t ρ).wp N T E :=
  wp_toS (h.post fun ds h1 => wp_toS (h1.post fun d ⟨es, e, h2⟩ => by subst e; exact h2))
theorem wp_fnO {n m : Nat} {ds : List D} {P : D → Prop} {E : D → Prop} (h : (fnD n m g ds).wp (fun d => IsL d fun es => P (.lst es)) E) : (fnO n m g ds).wp P E :=
  wp_bind (h.post fun d ⟨es, e, q⟩ => by subst e; exact q)
end
end Dy

set_option Elab.async false
set_option linter.all false
set_option maxRecDepth 100000
/-! ### for t in x: if c: return e -- x one's own list, and so it stays -/
namespace Dy
open PySem PySem.Spec PyProof.Rows L2
section
variable {X : Cx} {W : WX} {tg c e : Expr} {t : TG} {b : D → REnv → Option REnv} {u : REnv → R Bool} {f : REnv → R D} {is : List Nat} {x : Str} {np ip rp pos : Pos}
end
/-! ### one's own list handed to a def that tells numbers -/
mutual
def noL : D → Bool
  | .non => true
  | .bl _ => true
  | .int _ => true
  | .str _ => true
  | .tup xs => noLs xs
  | _ => false
def noLs : List D → Bool
  | [] => true
  | x :: xs => noL x && noLs xs
end
section
variable {K : PySem.W.Frag} {F F' : Hp} {a : Addr} {vs : List V}
theorem seqT_drop {p : Addr} {us : List V} (e : F a = some (.lst vs)) (h : ∀ b, b ≠ a → F' b = F b) (q : SqT K F p us) : SqT K F' p us := by
  rcases q with (q | ⟨o, q⟩) | q
  · exact .inl (.inl (by rw [h p (fun z => by rw [z, e] at q; cases q)]; exact q))
  · exact .inl (.inr ⟨o, by rw [h p (fun z => by rw [z, e] at q; cases q)]; exact q⟩)
  · exact .inr q
mutual
theorem rep_drop (e : F a = some (.lst vs)) (h : ∀ b, b ≠ a → F' b = F b) : ∀ (d : D) (v : V), noL d = true → Rep K F d v → Rep K F' d v
  | .non, v, _, r => by simpa [Rep] using r
  | .bl b, v, _, r => by simpa [Rep] using r
  | .int i, v, _, r => by simpa [Rep] using r
  | .str x, v, _, r => by simpa [Rep] using r
  | .tup xs, v, n, r => by
    simp only [Rep] at r ⊢
    obtain ⟨p, us, h1, h2, h3⟩ := r
    exact ⟨p, us, h1, seqT_drop e h h2, repL_drop e h xs us n h3⟩
theorem repL_drop (e : F a = some (.lst vs)) (h : ∀ b, b ≠ a → F' b = F b) : ∀ (ds : List D) (us : List V), noLs ds = true → RepL K F ds us → RepL K F' ds us
  | [], us, _, r => by simpa [RepL] using r
  | d :: ds, us, n, r => by
    simp only [RepL] at r ⊢
    obtain ⟨v, rr, h1, h2, h3⟩ := r
    have n : (noL d && noLs ds) = true := n
    rw [Bool.and_eq_true] at n
    exact ⟨v, rr, h1, rep_drop e h d v n.1 h2, repL_drop e h ds rr n.2 h3⟩
end
end
end Dy

set_option Elab.async false
set_option linter.all false
set_option maxRecDepth 100000
/-! ### return [.. for .. if ..], the test and the step may raise, the list the asker's own -/
namespace Dy
open PySem PySem.Spec PyProof.Rows L2
section
variable {X : Cx}
end
/-! #### what it makes of data -/
section
variable {X : Cx} {W : WX} {elt tg iter : Expr} {ifs : List Expr} {scope : Scope} {own : List (Str × Nat)} {pos rp : Pos} {fi : REnv → R (List D)} {t : TG} {b : D → REnv → Option REnv} {c : REnv → R Bool} {e : REnv → R D} {is : List Nat}
end
/-! #### weakest conditions -/
section
variable {b : D → REnv → Option REnv} {c : REnv → R Bool} {e : REnv → R D} {ρ : REnv} {vs : List Nat} {fi : REnv → R (List D)}
end
end Dy

set_option Elab.async false
set_option linter.all false
set_option maxRecDepth 100000
/-! ### a def's result as a tuple with the caller's own lists in it -/
namespace Dy
open PySem PySem.Spec PyProof.Rows L2
/-- which lists of a result are the caller's own -/
inductive Sh where
  | v | l | t (ss : List Sh)
mutual
def mask : Sh → D → O
  | .l, .lst ds => .l (ds.map .v)
  | .t ss, .tup ds => if ss.length = ds.length then .t (masks ss ds) else .v (.tup ds)
  | _, d => .v d
def masks : List Sh → List D → List O
  | s :: ss, d :: ds => mask s d :: masks ss ds
  | _, ds => ds.map .v
end
def O.unV : List O → Option (List D)
  | [] => some []
  | .v d :: r => (O.unV r).map (d :: ·)
  | _ :: _ => none
def O.unL : O → Option (List D)
  | .l us => O.unV us
  | _ => none
theorem unV_map : ∀ ds : List D, O.unV (ds.map .v) = some ds
  | [] => rfl
  | d :: r => by
    show (O.unV (r.map .v)).map (d :: ·) = _
    rw [unV_map r]
    rfl
theorem of_unV : ∀ {us : List O} {ds : List D}, O.unV us = some ds → us = ds.map .v
  | [], ds, e => by cases e; rfl
  | o :: us, ds, e => by
    unfold O.unV at e
    split at e
    · rename_i heq; cases heq
    · rename_i d r heq
      cases heq
      cases q : O.unV us with
      | none => rw [q] at e; cases e
      | some es =>
        rw [q] at e
        cases e
        rw [of_unV q]
        rfl
    · cases e
theorem of_unL {o : O} {ds : List D} (e : O.unL o = some ds) : o = .l (ds.map .v) := by
  unfold O.unL at e
  split at e
  · rw [of_unV e]
  · cases e
section
variable {K : PySem.W.Frag} {G F H F' H' : Hp} {σ : St} {ρ : REnv}
theorem OwRs.vals : ∀ {ds : List D} {vs : List V} {fp : List Addr}, OwRs K F H (ds.map .v) vs fp → RepL K F ds vs ∧ fp = []
  | [], vs, fp, h => by
    simp only [List.map_nil, OwRs] at h
    exact ⟨by simp only [RepL]; exact h.1, h.2⟩
  | d :: ds, vs, fp, h => by
    simp only [List.map_cons, OwRs, OwR] at h
    obtain ⟨v, r, f1, f2, h1, h2, ⟨h3, h4⟩, h5⟩ := h
    obtain ⟨q1, q2⟩ := OwRs.vals h5
    subst h1
    exact ⟨RepL.cons h3 q1, by rw [h2, h4, q2]; rfl⟩
theorem OwRs.ofVals : ∀ {ds : List D} {vs : List V}, RepL K F ds vs → OwRs K F H (ds.map .v) vs []
  | [], vs, h => by
    simp only [RepL] at h
    simp only [List.map_nil, OwRs]
    exact ⟨h, trivial⟩
  | d :: ds, vs, h => by
    simp only [RepL] at h
    obtain ⟨v, r, h1, h2, h3⟩ := h
    simp only [List.map_cons, OwRs, OwR]
    exact ⟨v, r, [], [], h1, rfl, ⟨h2, rfl⟩, OwRs.ofVals h3⟩
theorem OwR.ofL {ds : List D} {a : Addr} {ws : List V} (h : H a = some (.lst ws)) (r : RepL K F ds ws) : OwR K F H (.l (ds.map .v)) (.ref a) [a] := by
  simp only [OwR]
  exact ⟨a, ws, [], rfl, h, rfl, OwRs.ofVals r⟩
theorem OwR.inL {ds : List D} {v : V} {fp : List Addr} (h : OwR K F H (.l (ds.map .v)) v fp) : ∃ a ws, v = .ref a ∧ H a = some (.lst ws) ∧ RepL K F ds ws ∧ fp = [a] := by
  simp only [OwR] at h
  obtain ⟨a, ws, fq, h1, h2, h3, h4⟩ := h
  obtain ⟨q1, q2⟩ := OwRs.vals h4
  exact ⟨a, ws, h1, h2, q1, by rw [h3, q2]⟩
/-- one of the lists turns -/
theorem OwRs.at_ : ∀ {os : List O} {vs : List V} {fp : List Addr} {k : Nat} {ds : List D}, OwRs K F H os vs fp → fp.Nodup → os[k]? = some (.l (ds.map .v)) →
    ∃ b ws, vs[k]? = some (.ref b) ∧ H b = some (.lst ws) ∧ b ∈ fp ∧ RepL K F ds ws ∧ ∀ es us, RepL K F es us → OwRs K F (upd H b (.lst us)) (os.set k (.l (es.map .v))) vs fp
  | [], vs, fp, k, ds, h, nd, e => by simp at e
  | o :: os, vs, fp, 0, ds, h, nd, e => by
    simp only [OwRs] at h
    obtain ⟨v, r, f1, f2, h1, h2, h3, h4⟩ := h
    have e : some o = some (O.l (ds.map .v)) := e
    cases e
    obtain ⟨a, ws, e1, e2, e3, e4⟩ := h3.inL
    subst h1; subst h2; subst e1; subst e4
    have na : a ∉ f2 := (List.nodup_cons.mp (show (a :: f2).Nodup from nd)).1
    refine ⟨a, ws, rfl, e2, by simp, e3, fun es us r' => ?_⟩
    simp only [List.set_cons_zero, OwRs]
    exact ⟨.ref a, r, [a], f2, rfl, rfl, OwR.ofL upd_same r', OwRs.move (.refl _) os r f2 h4 fun b hb => upd_ne fun z => na (z ▸ hb)⟩
  | o :: os, vs, fp, k + 1, ds, h, nd, e => by
    simp only [OwRs] at h
    obtain ⟨v, r, f1, f2, h1, h2, h3, h4⟩ := h
    subst h1; subst h2
    obtain ⟨nd1, nd2, nd3⟩ := List.nodup_append.mp nd
    obtain ⟨b, ws, q1, q2, q3, q4, q5⟩ := OwRs.at_ h4 nd2 (show os[k]? = _ from e)
    refine ⟨b, ws, q1, q2, List.mem_append_right _ q3, q4, fun es us r' => ?_⟩
    simp only [List.set_cons_succ, OwRs]
    exact ⟨v, r, f1, f2, rfl, rfl, OwR.move (.refl _) o v f1 h3 fun c hc => upd_ne fun z => nd3 c hc b q3 z, q5 es us r'⟩
theorem OwRs.length : ∀ {os : List O} {vs : List V} {fp : List Addr}, OwRs K F H os vs fp → os.length = vs.length
  | [], vs, fp, h => by
    simp only [OwRs] at h
    rw [h.1]
    rfl
  | o :: os, vs, fp, h => by
    simp only [OwRs] at h
    obtain ⟨v, r, f1, f2, h1, h2, h3, h4⟩ := h
    rw [h1, List.length_cons, List.length_cons, OwRs.length h4]
/-- the thing of one's own at a slot -/
theorem tree_at (r : RepE K G F H σ ρ) {i : Nat} {o : O} (h : ρ[i]? = some (.tree o)) : ∃ v fp, σ[i]? = some (some v) ∧ OwR K F H o v fp ∧ fp.Nodup ∧ ∀ a ∈ fp, F a = none ∧ G a = none := by
  have hl : i < σ.length := by
    rw [← r.len]
    exact (List.getElem?_eq_some_iff.mp h).1
  obtain ⟨v, fp, e1, e2, e3, e4⟩ := r.at_ i _ _ h (List.getElem?_eq_getElem hl)
  exact ⟨v, fp, by rw [List.getElem?_eq_getElem hl, e1], e2, e3, e4⟩
end
/-! #### results -/
def PostT (K : PySem.W.Frag) (W : WX) (σ : St) (F H : Hp) (x : R O) (Q : V → Hp → Prop) : Prop := match x with
  | .ok o => ∀ v fp F' H', Ext F H F' H' → OwR K F' H' o v fp → fp.Nodup → (∀ a ∈ fp, F' a = none ∧ H a = none) → Q v H'
  | .err e => ∀ cls dd F' H', Ext F H F' H' → XD K F' e cls dd → W cls dd σ H'
  | .bad => False
def spT (K : PySem.W.Frag) (n : Nat) (fn : List D → R O) : Sp := fun vs H Q E => vs.length = n ∧ ∃ F ds, Same F H ∧ RepL K F ds vs ∧ PostT K (fun cls dd _ H' => E cls dd H') [] F H (fn ds) Q
def PostST (K : PySem.W.Frag) (W : WX) (sh : Sh) (D : Ends) (G F : Hp) (x : SR) : Prop := match x with
  | .next ρ => ∀ σ' F' H', Same F F' → NewG G F F' → RepE K G F' H' σ' ρ → D.nx σ' H'
  | .ret d => ∀ v fp F' H', Same F F' → NewG G F F' → Same G H' → Same F' H' → OwR K F' H' (mask sh d) v fp → fp.Nodup → (∀ a ∈ fp, F' a = none ∧ G a = none) → D.rt v H'
  | .err e ρ => ∀ σ' F' H' cls dd, Same F F' → NewG G F F' → RepE K G F' H' σ' ρ → XD K F' e cls dd → W cls dd σ' H'
  | .bad => False
section
variable {α β : Type} {K : PySem.W.Frag} {W : WX} {sh : Sh} {D D' : Ends} {G F F' H : Hp} {σ : St} {ρ : REnv}
theorem PostST.ext {x : SR} (s : Same F F') (n : NewG G F F') (h : PostST K W sh D G F x) : PostST K W sh D G F' x := by
  cases x with
  | next ρ => exact fun σ' F2 H' s2 n2 r => h σ' F2 H' (s.trans s2) (n.trans n2) r
  | ret d => exact fun v fp F2 H' s2 n2 => h v fp F2 H' (s.trans s2) (n.trans n2)
  | err e ρ => exact fun σ' F2 H' cls dd s2 n2 r x => h σ' F2 H' cls dd (s.trans s2) (n.trans n2) r x
  | bad => exact h
theorem PostST.toS {rel : Hp → α → β → Prop} {x : R α} {k : α → SR} {Q : β → Hp → Prop} (r : RepE K G F H σ ρ) (h : PostST K W sh D G F (x.toS ρ k))
    (f : ∀ a v F' H', x = .ok a → Ext F H F' H' → rel F' a v → RepE K G F' H' σ ρ → PostST K W sh D G F' (k a) → Q v H') : Post K W rel σ F H x Q := by
  cases x with
  | ok a => exact fun v F' H' e p => f a v F' H' rfl e p (r.ext e) (PostST.ext e.f (e.newG r.g) h)
  | err e => exact fun cls dd F' H' ex p => h σ F' H' cls dd ex.f (ex.newG r.g) (r.ext ex) p
  | bad => exact h
theorem PostST.seq {x : SR} {g : REnv → SR} {nx : St → Hp → Prop} (h : PostST K W sh D G F (x.seq g))
    (f : ∀ ρ σ' F' H', x = .next ρ → Same F F' → NewG G F F' → RepE K G F' H' σ' ρ → PostST K W sh D G F' (g ρ) → nx σ' H') : PostST K W sh { D with nx := nx } G F x := by
  cases x with
  | next ρ => exact fun σ' F' H' s n r => f ρ σ' F' H' rfl s n r (PostST.ext s n h)
  | ret d => exact h
  | err e ρ => exact h
  | bad => exact h
end
section
variable {X : Cx} {W : WX} {sh : Sh} {st : Stmt} {rest : List Stmt} {g h : REnv → SR} {e : Expr} {f : REnv → R D} {pos : Pos}
/-! #### the pieces of a tuple that is told -/
/-- an expression that makes a new list -/
abbrev SEO (X : Cx) (W : WX) (e : Expr) (x : REnv → R (List D)) : Prop := PE X e (fun σ H Q => ∃ G F ρ, RepE X.K G F H σ ρ ∧ PostO X.K W σ F H (x ρ) Q)
/-- new, or of one's own at one of the slots -/
def Fr (H : Hp) (σ : St) (ρ : REnv) (I : List Nat) (a : Addr) : Prop := H a = none ∨ ∃ i ∈ I, ∃ ds, ρ[i]? = some (.own ds) ∧ σ[i]? = some (some (.ref a))
def PostA (K : PySem.W.Frag) (W : WX) (σ : St) (ρ : REnv) (I : List Nat) (F H : Hp) (x : R (List O)) (Q : List V → Hp → Prop) : Prop := match x with
  | .ok os => ∀ vs fp F' H', Ext F H F' H' → OwRs K F' H' os vs fp → fp.Nodup → (∀ a ∈ fp, F' a = none ∧ Fr H σ ρ I a) → Q vs H'
  | .err e => ∀ cls dd F' H', Ext F H F' H' → XD K F' e cls dd → W cls dd σ H'
  | .bad => False
abbrev SAO (X : Cx) (W : WX) (I : List Nat) (es : List Expr) (t : REnv → R (List O)) : Prop := PA X es (fun σ H Q => ∃ G F ρ, RepE X.K G F H σ ρ ∧ PostA X.K W σ ρ I F H (t ρ) Q)
def tNil : REnv → R (List O) := fun _ => .ok []
def tN (x : REnv → R (List D)) (t : REnv → R (List O)) : REnv → R (List O) := fun ρ => (x ρ).bind fun ds => (t ρ).bind fun os => .ok (.l (ds.map .v) :: os)
theorem PostA.bind {K : PySem.W.Frag} {σ : St} {ρ : REnv} {I : List Nat} {F H F1 H1 : Hp} {x : R (List O)} {k : List O → List O} {Q Q' : List V → Hp → Prop} (h : PostA K W σ ρ I F H (x.bind fun os => .ok (k os)) Q) (ex : Ext F H F1 H1)
    (f : ∀ os vs fp F' H', x = .ok os → Ext F1 H1 F' H' → OwRs K F' H' os vs fp → fp.Nodup → (∀ a ∈ fp, F' a = none ∧ Fr H1 σ ρ I a) → (∀ vs' fp', OwRs K F' H' (k os) vs' fp' → fp'.Nodup → (∀ a ∈ fp', F' a = none ∧ Fr H σ ρ I a) → Q vs' H') → Q' vs H') : PostA K W σ ρ I F1 H1 x Q' := by
  cases x with
  | ok os => exact fun vs fp F' H' ex2 o nd fr => f os vs fp F' H' rfl ex2 o nd fr fun vs' fp' o' nd' fr' => h vs' fp' F' H' (ex.trans ex2) o' nd' fr'
  | err e => exact fun cls dd F' H' ex2 xd => h cls dd F' H' (ex.trans ex2) xd
  | bad => exact h
theorem Fr.old {H H1 : Hp} {σ : St} {ρ : REnv} {I : List Nat} {a : Addr} (s : Same H H1) (h : Fr H1 σ ρ I a) : Fr H σ ρ I a := h.elim (fun z => .inl (s.free z)) .inr
theorem sao_nil : SAO X W [] [] tNil := pa_nil.dy fun σ H Q ⟨G, F, ρ, r, p⟩ => p [] [] F H (.refl r.f) (by simp only [OwRs]; exact ⟨trivial, trivial⟩) List.nodup_nil fun a h => nomatch h
theorem sao_n {I : List Nat} {es : List Expr} {x : REnv → R (List D)} {t : REnv → R (List O)} (ha : SEO X W e x) (hr : SAO X W I es t) (hs : starEach (e :: es) X.env = (false, eval e X.env) :: starEach es X.env := by rfl) : SAO X W I (e :: es) (tN x t) :=
  (pa_cons ha hr hs).dy fun σ H Q ⟨G, F, ρ, r, p⟩ => ⟨G, F, ρ, r, by
    unfold tN at p
    cases q : x ρ with
    | bad => rw [q] at p; exact p.elim
    | err z => rw [q] at p; exact p
    | ok ds =>
      rw [q] at p
      intro a ws F1 H1 ex h1 h2 h3 h4
      refine ⟨G, F1, ρ, r.ext ex, PostA.bind p ex fun os vs fp F2 H2 _ ex2 o nd fr k => k (.ref a :: vs) (a :: fp) ?_ ?_ ?_⟩
      · simp only [OwRs]
        exact ⟨.ref a, vs, [a], fp, rfl, rfl, OwR.ofL (ex2.h _ _ h1) (RepL.mono ex2.f _ _ h2), o⟩
      · refine List.nodup_cons.mpr ⟨fun ha => ?_, nd⟩
        rcases (fr a ha).2 with z | ⟨i, _, es', e1, e2⟩
        · rw [h1] at z; cases z
        · obtain ⟨b, us, e3, e4, _⟩ := own_at r e1
          rw [e2] at e3
          cases e3
          rw [h4] at e4
          cases e4
      · intro b hb
        rcases List.mem_cons.mp hb with rfl | hb
        · refine ⟨?_, .inl h4⟩
          cases z : F2 b with
          | none => rfl
          | some u =>
            have := ex2.n b u z h3
            rw [h1] at this
            cases this
        · exact ⟨(fr b hb).1, (fr b hb).2.old ex.h⟩⟩
open Classical in
end
section
variable {X : Cx} {W : WX} {elt tg iter : Expr} {ifs : List Expr} {scope : Scope} {own : List (Str × Nat)} {pos rp : Pos} {fi : REnv → R (List D)} {t : TG} {b : D → REnv → Option REnv} {c : REnv → R Bool} {e : REnv → R D} {is : List Nat}
end
/-! #### defs -/
section
variable {P : Program} {w : World} {K : PySem.W.Frag} {mg : Str → Option Value} {base : Heap} {x qual : Str} {params : Arguments} {body : List Stmt} {scope : Scope} {f : Addr} {fd : FuncData} {N ps : List Str} {k : Nat} {sh : Sh}
structure CalT (P : Program) (w : World) (K : PySem.W.Frag) (mg : Str → Option Value) (base : Heap) (x : Str) (k n : Nat) (fn : List D → R O) : Prop where
  ex : ∃ (f : Addr) (fd : FuncData) (ps : List Str), FnOk P w K mg base (L2.CX P w) k f fd ps (spT K n fn) ∧ mg x = some (.ref f) ∧ PySem.W.keepIn K (.ref f) = true ∧ Binds K fd ps []
  len : ∀ ds, ds.length ≠ n → fn ds = .bad
end
section
variable {X : Cx} {W : WX} {e : Expr} {es : List Expr} {x y : Str} {p pos pos' cp : Pos} {k n : Nat} {t : REnv → R (List D)} {fn : List D → R O}
end
/-! #### for p in x: p.clear() -/
theorem set_same {α : Type} {l : List α} {j : Nat} {x : α} (h : l[j]? = some x) : l.set j x = l := by
  obtain ⟨hl, he⟩ := List.getElem?_eq_some_iff.mp h
  rw [← he]
  exact List.set_getElem_self hl
section
variable {X : Cx} {W : WX} {pos p1 p2 p3 p4 p5 p6 : Pos} {x y : Str}
end
end Dy
namespace Dy
open PySem PySem.Spec PyProof.Rows L2
section
variable {ρ : REnv} {N : REnv → Prop} {T : D → Prop} {E : D → REnv → Prop} {g : REnv → SR} {f : REnv → R D} {P E' : D → Prop}
theorem wp_tNil {Q : List O → Prop} (h : Q []) : (tNil ρ).wp Q E' := h
theorem wp_tN {Q : List O → Prop} {x : REnv → R (List D)} {t : REnv → R (List O)} (h : (x ρ).wp (fun ds => (t ρ).wp (fun os => Q (.l (ds.map .v) :: os)) E') E') : (tN x t ρ).wp Q E' := wp_bind (h.post fun d h1 => wp_bind (h1.post fun os h2 => h2))
theorem sp_frT {i : Nat} {o : O} (e : ρ[i]? = some (.tree o)) (h : Upd ρ i (.val o.toD) fun ρ' => (g ρ').wp N T E) : (sFreeze i g ρ).wp N T E := by
  unfold sFreeze eFreeze
  rw [e]
  exact h
end
end Dy

set_option Elab.async false
set_option linter.all false
set_option maxRecDepth 100000
/-! ### new lists as one's own; reading and adding to lists within one's own tuple -/
namespace Dy
open PySem PySem.Spec PyProof.Rows L2
section
variable {X : Cx} {W : WX} {sh : Sh} {e : Expr} {x : REnv → R (List D)} {f : REnv → R D} {pos pos' p : Pos} {y : Str}
/-- return e, e a new list -/
def sRetN (x : REnv → R (List D)) : REnv → SR := fun ρ => (x ρ).toS ρ fun ds => .ret (.lst ds)
theorem sso_retN (he : SEO X W e x) : SSO X W (.Return (some e) pos) (sRetN x) :=
  (ps_ret he).dy fun D σ H ⟨G, F, ρ, r, p⟩ => ⟨G, F, ρ, r, by
    unfold sRetN at p
    cases q : x ρ with
    | bad => rw [q] at p; exact p.elim
    | err z =>
      rw [q] at p
      exact fun cls dd F2 H2 ex2 xd => p σ F2 H2 cls dd ex2.f (ex2.newG r.g) (r.ext ex2) xd
    | ok ds =>
      rw [q] at p
      obtain ⟨es, e6, p⟩ := p
      cases e6
      exact fun a ws F2 H2 ex2 h1 h2 h3 h4 => p a ws F2 H2 ex2.f (ex2.newG r.g) (r.ext ex2).g ex2.s h1 h2 h3 (r.g.free h4)⟩
end
section
variable {X : Cx} {W : WX} {sh : Sh} {st : Stmt} {g : REnv → SR}
theorem sso_freeze (i : Nat) (h : SSO X W st g) : SSO X W st (sFreeze i g) := PS.dy h fun D σ H ⟨G, F, ρ, r, p⟩ => by
  unfold sFreeze eFreeze at p
  cases q : ρ[i]? with
  | none => rw [q] at p; exact ⟨G, F, ρ, r, p⟩
  | some s =>
    rw [q] at p
    cases s with
    | own ds =>
      obtain ⟨F', s1, n1, r1⟩ := r.freeze q
      exact ⟨G, F', _, r1, PostSO.ext s1 n1 p⟩
    | tree o =>
      obtain ⟨F', s1, n1, r1⟩ := r.freezeT q
      exact ⟨G, F', _, r1, PostSO.ext s1 n1 p⟩
    | pin w o =>
      obtain ⟨F', s1, n1, r1⟩ := r.freezeP q
      exact ⟨G, F', _, r1, PostSO.ext s1 n1 p⟩
    | _ => exact ⟨G, F, ρ, r, p⟩
end
/-! #### reading what is one's own, the answer without lists -/
section
variable {K : PySem.W.Frag} {F F' : Hp} {fp : List Addr}
theorem seqT_dropN {p : Addr} {us : List V} (e : ∀ a ∈ fp, ∃ vs, F a = some (.lst vs)) (h : ∀ b, b ∉ fp → F' b = F b) (q : SqT K F p us) : SqT K F' p us := by
  rcases q with (q | ⟨o, q⟩) | q
  · exact .inl (.inl (by rw [h p (fun z => by obtain ⟨vs, e1⟩ := e p z; rw [e1] at q; cases q)]; exact q))
  · exact .inl (.inr ⟨o, by rw [h p (fun z => by obtain ⟨vs, e1⟩ := e p z; rw [e1] at q; cases q)]; exact q⟩)
  · exact .inr q
mutual
theorem rep_dropN (e : ∀ a ∈ fp, ∃ vs, F a = some (.lst vs)) (h : ∀ b, b ∉ fp → F' b = F b) : ∀ (d : D) (v : V), noL d = true → Rep K F d v → Rep K F' d v
  | .non, v, _, r => by simpa [Rep] using r
  | .bl b, v, _, r => by simpa [Rep] using r
  | .int i, v, _, r => by simpa [Rep] using r
  | .str x, v, _, r => by simpa [Rep] using r
  | .tup xs, v, n, r => by
    simp only [Rep] at r ⊢
    obtain ⟨p, us, h1, h2, h3⟩ := r
    exact ⟨p, us, h1, seqT_dropN e h h2, repL_dropN e h xs us n h3⟩
theorem repL_dropN (e : ∀ a ∈ fp, ∃ vs, F a = some (.lst vs)) (h : ∀ b, b ∉ fp → F' b = F b) : ∀ (ds : List D) (us : List V), noLs ds = true → RepL K F ds us → RepL K F' ds us
  | [], us, _, r => by simpa [RepL] using r
  | d :: ds, us, n, r => by
    simp only [RepL] at r ⊢
    obtain ⟨v, rr, h1, h2, h3⟩ := r
    have n : (noL d && noLs ds) = true := n
    rw [Bool.and_eq_true] at n
    exact ⟨v, rr, h1, rep_dropN e h d v n.1 h2, repL_dropN e h ds rr n.2 h3⟩
end
end
theorem RepE.freezeTE {K : PySem.W.Frag} {G F H : Hp} {σ : St} {ρ : REnv} (r : RepE K G F H σ ρ) {i : Nat} {o : O} (hi : ρ[i]? = some (.tree o)) :
    ∃ v fp, σ[i]? = some (some v) ∧ OwR K F H o v fp ∧ (∀ a ∈ fp, F a = none ∧ G a = none) ∧ Same F (addF F H fp) ∧ RepE K G (addF F H fp) H σ (ρ.set i (.val o.toD)) := by
  obtain ⟨v, fp, hs, e2, e3, e4⟩ := tree_at r hi
  have sm : Same F (addF F H fp) := addF_same fun a ha => (e4 a ha).1
  have es : σ.set i (some v) = σ := set_same hs
  have nab : ∀ (j : Nat) (s : Sl) (x : Option V) (b : Addr), j ≠ i → ρ[j]? = some s → σ[j]? = some x → Owned K F H s x b → b ∉ fp := fun j s x b hj h1 h2 o' e =>
    r.ap j i s _ x _ b hj h1 hi h2 hs o' ⟨v, fp, rfl, e2, e⟩
  refine ⟨v, fp, hs, e2, e4, sm, ?_⟩
  have q := r.put (F' := addF F H fp) (H' := H) (i := i) (s' := .val o.toD) (x' := some v) r.g (addF_H r.f) sm
    (fun j s x b hj h1 h2 o => ⟨rfl, by rw [addF_out (nab j s x b hj h1 h2 o)]; exact ((r.at_ j s x h1 h2).own o).2.1⟩) ⟨v, rfl, OwR.frz sm o v fp e2 fun a ha => addF_in ha⟩ fun b o => o.elim
  rw [es] at q
  exact q
def ePeekN (i : Nat) (f : REnv → R D) : REnv → R D := fun ρ => match ρ[i]? with
  | some (.tree o) => match f (ρ.set i (.val o.toD)) with
    | .ok d => if noL d = true then .ok d else .bad
    | _ => .bad
  | _ => .bad
theorem se_peekN {X : Cx} {W : WX} {c : Expr} {f : REnv → R D} (i : Nat) (h : SE X W c f) : SE X W c (ePeekN i f) := PE.dy h fun σ H Q ⟨G, F, ρ, r, p⟩ => by
  unfold ePeekN at p
  split at p
  · rename_i o z
    obtain ⟨v, fp, h1, h2, hf, s1, r1⟩ := r.freezeTE z
    refine ⟨G, _, _, r1, ?_⟩
    cases q : f (ρ.set i (.val o.toD)) with
    | bad => rw [q] at p; exact p.elim
    | err e => rw [q] at p; exact p.elim
    | ok d =>
      rw [q] at p
      by_cases hn : noL d = true
      case neg =>
        have p : Post X.K W (Rep X.K) σ F H (if noL d = true then .ok d else .bad) Q := p
        rw [if_neg hn] at p
        exact p.elim
      have p : Post X.K W (Rep X.K) σ F H (if noL d = true then .ok d else .bad) Q := p
      rw [if_pos hn] at p
      intro v2 F2 H2 ex rp
      have e2 : ∀ a ∈ fp, ∃ vs, F2 a = some (.lst vs) := fun a ha => by
        obtain ⟨vs, e⟩ := OwR.inH o v fp h2 a ha
        exact ⟨vs, ex.f _ _ (by rw [addF_in ha]; exact e)⟩
      let F3 : Hp := fun b => open Classical in if b ∈ fp then none else F2 b
      have k3 : ∀ b, b ∉ fp → F3 b = F2 b := fun b hb => if_neg hb
      have k0 : ∀ b, b ∈ fp → F3 b = none := fun b hb => if_pos hb
      refine p v2 F3 H2 ⟨fun b o' q => ?_, ex.h, fun b o' q => ?_, fun b o' q z' => ?_⟩ (rep_dropN e2 k3 d v2 hn rp)
      · have hb : b ∉ fp := fun e => by rw [(hf b e).1] at q; cases q
        rw [k3 b hb]
        exact ex.f _ _ (s1 _ _ q)
      · have hb : b ∉ fp := fun e => by rw [k0 b e] at q; cases q
        rw [k3 b hb] at q
        exact ex.s _ _ q
      · have hb : b ∉ fp := fun e => by rw [k0 b e] at q; cases q
        rw [k3 b hb] at q
        exact ex.n b o' q (by rw [addF_out hb]; exact z')
  · exact p.elim
/-! #### x[k].append(e), x one's own -/
section
variable {X : Cx} {W : WX} {e : Expr} {f : REnv → R D} {pos np cp sp ap xp : Pos} {x : Str} {j : Nat}
end
section
variable {ρ : REnv} {N : REnv → Prop} {T : D → Prop} {E : D → REnv → Prop} {f : REnv → R D} {P E' : D → Prop}
theorem sp_retN {x : REnv → R (List D)} (h : (x ρ).wp (fun ds => T (.lst ds)) (fun e => E e ρ)) : (sRetN x ρ).wp N T E := wp_toS h
theorem wp_peekN {i : Nat} {o : O} (e : ρ[i]? = some (.tree o)) (h : Upd ρ i (.val o.toD) fun ρ' => (f ρ').wp (fun d => noL d = true ∧ P d) NoE) : (ePeekN i f ρ).wp P E' := by
  unfold Upd at h
  unfold ePeekN
  rw [e]
  obtain ⟨d, e1, h1, h2⟩ := h.ok
  show (match f (ρ.set i (.val o.toD)) with
    | .ok d => if noL d = true then R.ok d else .bad
    | _ => .bad).wp P E'
  rw [e1]
  show (if noL d = true then R.ok d else .bad).wp P E'
  rw [if_pos h1]
  exact h2
end
end Dy

set_option Elab.async false
set_option linter.all false
set_option maxRecDepth 100000
/-! ### x[k] = e, x one's own list -/
namespace Dy
open PySem PySem.Spec PyProof.Rows L2

section
variable {X : Cx} {W : WX} {e b : Expr} {f g : REnv → R D} {pos sp np : Pos} {x : Str}
end
section
variable {ρ : REnv} {N : REnv → Prop} {T : D → Prop} {E : D → REnv → Prop} {f g : REnv → R D} {i : Nat} {ds : List D}
end
end Dy

set_option Elab.async false
set_option linter.all false
set_option maxRecDepth 100000
/-! ### more new lists; a list of lists as one's own; x[k][j] = e there -/
namespace Dy
open PySem PySem.Spec PyProof.Rows L2
section
variable {X : Cx} {W : WX} {a b e : Expr} {es : List Expr} {f g : REnv → R D} {t : REnv → R (List D)} {pos pos' lp p np cp sp sq : Pos} {x y : Str} {k n : Nat} {fn : List D → R D}
/-- a + b, a new list -/
def catL : D → D → R (List D)
  | .lst xs, .lst ys => if xs.length + ys.length ≤ sizeLine then .ok (xs ++ ys) else .bad
  | _, _ => .bad
theorem catL_of {a b : D} (h : catL a b ≠ .bad) : ∃ xs ys, a = .lst xs ∧ b = .lst ys ∧ xs.length + ys.length ≤ sizeLine ∧ catL a b = .ok (xs ++ ys) := by
  unfold catL at h ⊢
  split at h
  · rename_i xs ys
    by_cases hl : xs.length + ys.length ≤ sizeLine
    · exact ⟨xs, ys, rfl, rfl, hl, if_pos hl⟩
    · rw [if_neg hl] at h
      exact absurd rfl h
  · exact absurd rfl h
def xAddL (f g : REnv → R D) : REnv → R (List D) := fun ρ => (f ρ).bind fun a => (g ρ).bind fun b => catL a b
theorem seo_addL (ha : SE X W a f) (hb : SE X W b g) : SEO X W (.BinOp a .Add b pos) (xAddL f g) :=
  (pe_op op_catW ha hb).dy fun σ H Q ⟨G, F, ρ, r, p⟩ => ⟨G, F, ρ, r, by
    unfold xAddL at p
    cases q : f ρ with
    | bad => rw [q] at p; exact p.elim
    | err z => rw [q] at p; exact p
    | ok d1 =>
      rw [q] at p
      intro v1 F1 H1 ex1 r1
      refine ⟨G, F1, ρ, r.ext ex1, ?_⟩
      cases q2 : g ρ with
      | bad =>
        have p : PostO X.K W σ F H ((g ρ).bind fun b => catL d1 b) Q := p
        rw [q2] at p; exact p.elim
      | err z =>
        have p : PostO X.K W σ F H ((g ρ).bind fun b => catL d1 b) Q := p
        rw [q2] at p
        exact fun cls dd F2 H2 ex2 xd => p cls dd F2 H2 (ex1.trans ex2) xd
      | ok d2 =>
        have p : PostO X.K W σ F H ((g ρ).bind fun b => catL d1 b) Q := p
        rw [q2] at p
        have p : PostO X.K W σ F H (catL d1 d2) Q := p
        intro v2 F2 H2 ex2 r2
        by_cases hc : catL d1 d2 = .bad
        · rw [hc] at p; exact p.elim
        obtain ⟨xs, ys, rfl, rfl, hl, hk⟩ := catL_of hc
        rw [hk] at p
        obtain ⟨l, vs, rfl, h1, h2⟩ := (Rep.mono ex2.f _ _ r1).lst_inv
        obtain ⟨m, ws, rfl, h3, h4⟩ := r2.lst_inv
        refine ⟨l, m, vs, ws, rfl, rfl, Same.seq ex2.s h1, Same.seq ex2.s h3, by rw [← h2.length, ← h4.length]; exact hl, fun q hq => ?_⟩
        have nx : Ext F2 H2 F2 (upd H2 q (.lst (vs ++ ws))) := Ext.newH ex2.s hq
        exact p q (vs ++ ws) F2 _ ((ex1.trans ex2).trans nx) upd_same (h2.append h4) (ex2.s.free hq) (ex1.h.free (ex2.h.free hq))⟩
/-- [..], a new list -/
def xLst (t : REnv → R (List D)) : REnv → R (List D) := fun ρ => (t ρ).bind fun ds => if ds.length ≤ sizeLine then .ok ds else .bad
theorem seo_lst (ha : SA X W es t) : SEO X W (.List es lp) (xLst t) :=
  (pe_lst ha).dy fun σ H Q ⟨G, F, ρ, r, p⟩ => ⟨G, F, ρ, r, by
    unfold xLst at p
    cases q : t ρ with
    | bad => rw [q] at p; exact p.elim
    | err z => rw [q] at p; exact p
    | ok ds =>
      rw [q] at p
      have p : PostO X.K W σ F H (if ds.length ≤ sizeLine then R.ok ds else .bad) Q := p
      intro vs F1 H1 ex rp
      by_cases hl : ds.length ≤ sizeLine
      · rw [if_pos hl] at p
        exact ⟨by rw [← rp.length]; exact hl, fun q hq => p q vs F1 _ (ex.trans (Ext.newH ex.s hq)) upd_same rp (ex.s.free hq) (ex.h.free hq)⟩
      · rw [if_neg hl] at p; exact p.elim⟩
/-- f(..), its list new -/
def xCall (fn : List D → R D) (t : REnv → R (List D)) : REnv → R (List D) := fun ρ => (t ρ).bind fun ds => (fn ds).bind asL
theorem seo_call (C : CalO X.prog X.w X.K X.mg X.base x k n fn) (tk : Takes X W) (hr : Room k X.A)
    (ha : SA X W (e :: es) t) (hg : Gl X x := by rfl) (hdb : (x == ("__debug__" : Str)) = false := by decide) (he : starEach (e :: es) X.env = (false, eval e X.env) :: starEach es X.env := by rfl) (hpl : (backTo pos (starEach es X.env)).any (·.1) = false := by rfl) :
    SEO X W (.Call (.Name x p) (e :: es) [] pos) (xCall fn t) := by
  obtain ⟨f, fd, ps, Fo, hm, hk, hb⟩ := C.ex
  refine (pe_callS (E := WE W) Fo hr hg hm hk hb (fun σ => passAt tk σ) ha hdb he hpl).dy fun σ H Q ⟨G, F, ρ, r, p⟩ => ⟨G, F, ρ, r, ?_⟩
  unfold xCall at p
  cases q : t ρ with
  | bad => rw [q] at p; exact p.elim
  | err z => rw [q] at p; exact p
  | ok ds =>
    rw [q] at p
    have p : PostO X.K W σ F H ((fn ds).bind asL) Q := p
    intro vs F1 H1 ex rp
    have hn : ds.length = n := Classical.byContradiction fun z => by
      rw [C.len ds z] at p
      exact p
    refine ⟨by rw [← rp.length]; exact hn, F1, ds, ex.s, rp, ?_⟩
    cases q2 : (fn ds).bind asL with
    | ok es' =>
      rw [q2] at p
      exact fun a ws F2 H2 ex2 h1 h2 h3 h4 => p a ws F2 H2 (ex.trans ex2) h1 h2 h3 (ex.h.free h4)
    | err d =>
      rw [q2] at p
      exact fun cls dd F2 H2 ex2 xd => p cls dd F2 H2 (ex.trans ex2) xd
    | bad => rw [q2] at p; exact p
/-- y = [.., ..], lists of it one's own too -/
def sOwnT (i : Nat) (t : REnv → R (List O)) : REnv → SR := fun ρ => (t ρ).toS ρ fun os => if os.length ≤ sizeLine then .next (ρ.set i (.tree (.l os))) else .bad
theorem ss_ownT {i : Nat} {t : REnv → R (List O)} (hN : X.N.Nodup) (ha : SAO X W [] es t) (hi : X.N[i]? = some y := by rfl) (hx : Loc X.env.scope y := by first | exact Or.inl rfl | exact Or.inr rfl) (hs : swapsWith (.List es lp) (some (.Name y pos')) pos.line X.env = pure false := by rfl)
    (hf : X.fn y = true ∨ X.env.scope.names.lookup y = some .local := by first | exact .inl rfl | exact .inr rfl | assumption) : SS X W (.Assign [.Name y pos'] (.List es lp) pos) (sOwnT i t) :=
  (ps_set hN hi hx (pe_lst ha) hs hf).dy fun D σ H ⟨G, F, ρ, r, p⟩ => ⟨G, F, ρ, r, by
    unfold sOwnT at p
    cases q : t ρ with
    | bad => rw [q] at p; exact p.elim
    | err z =>
      rw [q] at p
      exact fun cls dd F2 H2 ex2 xd => p σ F2 H2 cls dd ex2.f (ex2.newG r.g) (r.ext ex2) xd
    | ok os =>
      rw [q] at p
      have p : PostS X.K W D G F (if os.length ≤ sizeLine then SR.next (ρ.set i (.tree (.l os))) else .bad) := p
      intro vs fp F1 H1 ex o nd fr
      by_cases hl : os.length ≤ sizeLine
      · rw [if_pos hl] at p
        refine ⟨by rw [← o.length]; exact hl, fun a ha => ?_⟩
        have nx : Ext F1 H1 F1 (upd H1 a (.lst vs)) := Ext.newH ex.s ha
        have ex2 := ex.trans nx
        have nofp : ∀ b ∈ fp, b ≠ a := fun b hb e => by
          obtain ⟨us, hu⟩ := OwRs.inH os vs fp o b hb
          rw [e, ha] at hu
          cases hu
        refine p _ F1 _ ex2.f (ex2.newG r.g) (r.setT ex2 (v := .ref a) (fp := a :: fp) ?_ (List.nodup_cons.mpr ⟨fun h => nofp a h rfl, nd⟩) fun b hb => ?_)
        · simp only [OwR]
          exact ⟨a, vs, fp, rfl, upd_same, rfl, OwRs.move (.refl _) os vs fp o fun b hb => upd_ne (nofp b hb)⟩
        · rcases List.mem_cons.mp hb with rfl | hb
          · exact ⟨ex.h.free ha, ex.s.free ha⟩
          · rcases (fr b hb).2 with z | ⟨i, hi, _⟩
            · exact ⟨z, (fr b hb).1⟩
            · exact nomatch hi
      · rw [if_neg hl] at p; exact p.elim⟩
/-- x[k][j] = e, x a list of lists of one's own -/
def sPutT (i k : Nat) (f g : REnv → R D) : REnv → SR := fun ρ => (f ρ).toS ρ fun d => match ρ[i]? with
  | some (.tree (.l os)) => match os[k]?.bind O.unL with
    | some ds => (g ρ).toS ρ fun m => match m with
      | .int m => match L2.ixN ds.length m with
        | some j => .next (ρ.set i (.tree (.l (os.set k (.l ((ds.set j d).map .v))))))
        | none => .bad
      | _ => .bad
    | none => .bad
  | _ => .bad
theorem ss_putT (i k : Nat) {j : Nat} (he : SE X W e f) (hb : SE X W b g) (hN : X.N[i]? = some x := by rfl) (hv : Vis X.env.scope x := by first | exact Or.inl rfl | exact Or.inr (Or.inl rfl) | exact Or.inr (Or.inr rfl)) (hd : (x == ("__debug__" : Str)) = false := by decide) (hcd : (x == ("__classdict__" : Str)) = false := by decide)
    (hix : PE X (.Subscript (.Name x np) (.Constant (.int (k : Int)) j cp) sp) (tOp (rIx X.K) (tVar i) (tC (.int (k : Int)))) := by exact pe_ix ix_seq (pe_var rfl (by first | exact Or.inl rfl | exact Or.inr (Or.inl rfl) | exact Or.inr (Or.inr rfl)) (by decide) (by decide)) pe_int (fun _ _ => rfl))
    (hp : ∀ {to ti : TE}, PE X (.Subscript (.Name x np) (.Constant (.int (k : Int)) j cp) sp) to → PE X b ti → PG X (.Subscript (.Subscript (.Name x np) (.Constant (.int (k : Int)) j cp) sp) b sq) (gSub to ti rSetL) := by exact fun h1 h2 => pg_sub h1 h2 set_list)
    (hs : swapsWithSole [.Subscript (.Subscript (.Name x np) (.Constant (.int (k : Int)) j cp) sp) b sq] e pos.line X.env = pure false := by rfl) (hw : swappedStores [.Subscript (.Subscript (.Name x np) (.Constant (.int (k : Int)) j cp) sp) b sq] e X.env = pure none := by rfl)
    (h1 : (assignEach [.Subscript (.Subscript (.Name x np) (.Constant (.int (k : Int)) j cp) sp) b sq] X.env).map (·.2) = [assign (.Subscript (.Subscript (.Name x np) (.Constant (.int (k : Int)) j cp) sp) b sq) X.env] := by rfl) :
    SS X W (.Assign [.Subscript (.Subscript (.Name x np) (.Constant (.int (k : Int)) j cp) sp) b sq] e pos) (sPutT i k f g) :=
  (ps_asg he (hp hix hb) hs hw h1).dy fun D σ H ⟨G, F, ρ, r, p⟩ => ⟨G, F, ρ, r, PostS.toS r p fun d v F' H' _ ex rp r' p' => by
    split at p'
    case h_2 => exact p'.elim
    rename_i os z
    split at p'
    case h_2 => exact p'.elim
    rename_i ds hb'
    obtain ⟨o, ho, hu⟩ := Option.bind_eq_some_iff.mp hb'
    have hu := of_unL hu
    subst hu
    obtain ⟨v0, fp, e1, e2, e3, e4⟩ := tree_at r' z
    have e2' := e2
    simp only [OwR] at e2'
    obtain ⟨a, vs, fq, rfl, ha, hfp, hos⟩ := e2'
    subst hfp
    obtain ⟨nda, ndq⟩ := List.nodup_cons.mp e3
    obtain ⟨b, ws, q1, q2, q3, q4, q5⟩ := hos.at_ ndq ho
    have hat : L2.atI vs (k : Int) = some (.ref b) := atI_nat q1
    refine ⟨.ref a, e1, .inl ⟨a, vs, (k : Int), .ref b, rfl, rfl, SqL.of ha, hat, G, F', ρ, r', PostS.toS r' p' fun m w F2 H2 _ ex2 rk r2 p2 => ?_⟩⟩
    cases m with
    | int m =>
      cases q : L2.ixN ds.length m with
      | none => simp only [q] at p2; exact p2.elim
      | some j' =>
        simp only [q] at p2
        refine ⟨b, ws, m, j', rfl, rk.int_inv, ex2.h _ _ q2, by rw [← q4.length]; exact q, ?_⟩
        obtain ⟨v1, fp', g1, g2, g3, g4⟩ := tree_at r2 z
        rw [e1] at g1
        cases g1
        have g2' := g2
        simp only [OwR] at g2'
        obtain ⟨a', vs', fq', k0, k1, k2, k3⟩ := g2'
        cases k0
        subst k2
        rw [ex2.h _ _ ha] at k1
        cases k1
        obtain ⟨nda', ndq'⟩ := List.nodup_cons.mp g3
        obtain ⟨b', ws', l1, l2, l3, l4, l5⟩ := k3.at_ ndq' ho
        rw [q1] at l1
        cases l1
        rw [ex2.h _ _ q2] at l2
        cases l2
        refine p2 σ F2 _ (.refl _) .refl (r2.turnT (H' := upd H2 b (.lst (ws.set j' v))) z e1 g2 (fun c hc => upd_ne fun e => hc (List.mem_cons_of_mem _ (by rw [e]; exact l3))) ?_)
        have hab : a ≠ b := fun e => nda' (by rw [e]; exact l3)
        simp only [OwR]
        exact ⟨a, vs, fq', rfl, by rw [upd_ne hab]; exact ex2.h _ _ ha, rfl, l5 (ds.set j' d) (ws.set j' v) (RepL.set (Rep.mono ex2.f _ _ rp) j' l4)⟩
    | _ => exact p2.elim⟩
end
section
variable {ρ : REnv} {N : REnv → Prop} {T : D → Prop} {E : D → REnv → Prop} {f g : REnv → R D} {t : REnv → R (List D)} {Q : List D → Prop} {E' : D → Prop}
theorem wp_xAddL (h : (f ρ).wp (fun a => (g ρ).wp (fun b => ∃ xs ys, a = .lst xs ∧ b = .lst ys ∧ xs.length + ys.length ≤ sizeLine ∧ Q (xs ++ ys)) E') E') : (xAddL f g ρ).wp Q E' := by
  refine wp_bind (h.post fun a h1 => wp_bind (h1.post ?_))
  rintro _ ⟨xs, ys, rfl, rfl, hl, h2⟩
  show (if xs.length + ys.length ≤ sizeLine then R.ok (xs ++ ys) else .bad).wp Q E'
  rw [if_pos hl]
  exact h2
theorem wp_xLst (h : (t ρ).wp (fun ds => ds.length ≤ sizeLine ∧ Q ds) E') : (xLst t ρ).wp Q E' := by
  refine wp_bind (h.post fun ds ⟨h1, h2⟩ => ?_)
  rw [if_pos h1]
  exact h2
theorem wp_xCall {fn : List D → R D} (h : (t ρ).wp (fun ds => (fn ds).wp (fun d => IsL d Q) E') E') : (xCall fn t ρ).wp Q E' := by
  refine wp_bind (h.post fun ds h1 => wp_bind (h1.post ?_))
  rintro _ ⟨es, rfl, h2⟩
  exact h2
theorem sp_ownT {i : Nat} {t : REnv → R (List O)} (h : (t ρ).wp (fun os => os.length ≤ sizeLine ∧ Upd ρ i (.tree (.l os)) N) (fun e => E e ρ)) : (sOwnT i t ρ).wp N T E := wp_toS (h.post fun os ⟨h1, h2⟩ => by rw [if_pos h1]; exact h2)
theorem sp_putT {i k : Nat} {os : List O} {ds : List D} (e : ρ[i]? = some (.tree (.l os))) (e2 : os[k]? = some (.l (ds.map .v))) (h : (f ρ).wp (fun d => (g ρ).wp (fun m => HasI m fun m => ∃ j, L2.ixN ds.length m = some j ∧ Upd ρ i (.tree (.l (os.set k (.l ((ds.set j d).map .v))))) N) (fun e => E e ρ)) (fun e => E e ρ)) : (sPutT i k f g ρ).wp N T E := by
  have e3 : os[k]?.bind O.unL = some ds := by
    rw [e2]
    exact unV_map ds
  refine wp_toS (h.post fun d h1 => ?_)
  rw [e]
  show (match os[k]?.bind O.unL with
    | some ds => (g ρ).toS ρ fun m => match m with
      | .int m => match L2.ixN ds.length m with
        | some j => .next (ρ.set i (.tree (.l (os.set k (.l ((ds.set j d).map .v))))))
        | none => .bad
      | _ => .bad
    | none => .bad : SR).wp N T E
  rw [e3]
  refine wp_toS (h1.post fun m ⟨k', e', j, q, h2⟩ => ?_)
  subst e'
  simp only [q]
  exact h2
end
end Dy

set_option Elab.async false
set_option linter.all false
set_option maxRecDepth 100000
set_option maxHeartbeats 4000000
namespace Gn
open PySem PySem.Spec PyProof.Rows L2 Dy
/-! ### what the defs make of data -/
def xks : List Str := ["NoNumber"]
def xcs : List Str := []
noncomputable def f_is_whole : List D → R D := fnD 1 1 (sRet (eAndV (eN oIsi (aCons (eVar 0) (aCons (eC (.ty "int")) (aNil)))) (eNotV (eN oIsi (aCons (eVar 0) (aCons (eC (.ty "bool")) (aNil)))))))
noncomputable def f_divisor_of : List D → R D := fnD 2 2 (sSeq (whileS (eTest (eBin oNe (eVar 1) (eC (.int 0)))) (sPar 0 1 (aCons (eVar 1) (aCons (eBin oMod (eVar 0) (eVar 1)) (aNil)))))
    (sRet (eN oAbs (aCons (eVar 0) (aNil)))))
noncomputable def f_ratio_of : List D → R D := fnD 2 3 (sSeq (sIf (eOr (eNot (eTest (eCall f_is_whole (aCons (eVar 0) (aNil))))) (eOr (eNot (eTest (eCall f_is_whole (aCons (eVar 1) (aNil))))) (eTest (eBin oEq (eVar 1) (eC (.int 0)))))) (sRaise "NoNumber") (sSkip))
    (sSeq (sSet 2 (eCall f_divisor_of (aCons (eVar 0) (aCons (eVar 1) (aNil)))))
    (sSeq (sIf (eTest (eBin oLt (eVar 1) (eC (.int 0)))) (sSet 2 (eUn oNeg (eVar 2))) (sSkip))
    (sRet (eTup (aCons (eBin oDiv (eVar 0) (eVar 2)) (aCons (eBin oDiv (eVar 1) (eVar 2)) (aNil))))))))
noncomputable def f_ratio_sum : List D → R D := fnD 2 2 (sRet (eCall f_ratio_of (aCons (eBin oAdd (eBin oMul (eBin oIx (eVar 0) (eC (.int 0))) (eBin oIx (eVar 1) (eC (.int 1)))) (eBin oMul (eBin oIx (eVar 1) (eC (.int 0))) (eBin oIx (eVar 0) (eC (.int 1))))) (aCons (eBin oMul (eBin oIx (eVar 0) (eC (.int 1))) (eBin oIx (eVar 1) (eC (.int 1)))) (aNil)))))
noncomputable def f_ratio_less : List D → R D := fnD 2 2 (sRet (eCall f_ratio_of (aCons (eBin oSub (eBin oMul (eBin oIx (eVar 0) (eC (.int 0))) (eBin oIx (eVar 1) (eC (.int 1)))) (eBin oMul (eBin oIx (eVar 1) (eC (.int 0))) (eBin oIx (eVar 0) (eC (.int 1))))) (aCons (eBin oMul (eBin oIx (eVar 0) (eC (.int 1))) (eBin oIx (eVar 1) (eC (.int 1)))) (aNil)))))
noncomputable def f_ratio_times : List D → R D := fnD 2 2 (sRet (eCall f_ratio_of (aCons (eBin oMul (eBin oIx (eVar 0) (eC (.int 0))) (eBin oIx (eVar 1) (eC (.int 0)))) (aCons (eBin oMul (eBin oIx (eVar 0) (eC (.int 1))) (eBin oIx (eVar 1) (eC (.int 1)))) (aNil)))))
noncomputable def f_ratio_by : List D → R D := fnD 2 2 (sRet (eCall f_ratio_of (aCons (eBin oMul (eBin oIx (eVar 0) (eC (.int 0))) (eBin oIx (eVar 1) (eC (.int 1)))) (aCons (eBin oMul (eBin oIx (eVar 0) (eC (.int 1))) (eBin oIx (eVar 1) (eC (.int 0)))) (aNil)))))
noncomputable def f_is_under : List D → R D := fnD 2 2 (sRet (eBin oLt (eBin oMul (eBin oIx (eVar 0) (eC (.int 0))) (eBin oIx (eVar 1) (eC (.int 1)))) (eBin oMul (eBin oIx (eVar 1) (eC (.int 0))) (eBin oIx (eVar 0) (eC (.int 1))))))
noncomputable def f_share_of : List D → R D := fnD 1 5 (sSeq (sSet 1 (eC (.tup [.int 0, .int 1])))
    (sSeq (sFor (iArgs range1 (aCons (eN oLen (aCons (eVar 0) (aNil))) (aNil))) (bName 2) (sSeq (sSet 3 (eBin oIx (eVar 0) (eVar 2)))
     (sSeq (sSet 4 (eBin oIx (eVar 0) (eBin oMod (eBin oAdd (eVar 2) (eC (.int 1))) (eN oLen (aCons (eVar 0) (aNil))))))
     (sSet 1 (eCall f_ratio_sum (aCons (eVar 1) (aCons (eCall f_ratio_less (aCons (eCall f_ratio_times (aCons (eBin oIx (eVar 3) (eC (.int 0))) (aCons (eBin oIx (eVar 4) (eC (.int 1))) (aNil)))) (aCons (eCall f_ratio_times (aCons (eBin oIx (eVar 4) (eC (.int 0))) (aCons (eBin oIx (eVar 3) (eC (.int 1))) (aNil)))) (aNil)))) (aNil))))))))
    (sRet (eCall f_ratio_times (aCons (eCall f_ratio_of (aCons (eC (.int 1)) (aCons (eC (.int 2)) (aNil)))) (aCons (eVar 1) (aNil)))))))
noncomputable def f_turn_at : List D → R D := fnD 3 4 (sSeq (sSet 3 (eCall f_ratio_times (aCons (eCall f_ratio_less (aCons (eBin oIx (eVar 1) (eC (.int 0))) (aCons (eBin oIx (eVar 0) (eC (.int 0))) (aNil)))) (aCons (eCall f_ratio_less (aCons (eBin oIx (eVar 2) (eC (.int 1))) (aCons (eBin oIx (eVar 0) (eC (.int 1))) (aNil)))) (aNil)))))
    (sRet (eCall f_ratio_less (aCons (eVar 3) (aCons (eCall f_ratio_times (aCons (eCall f_ratio_less (aCons (eBin oIx (eVar 1) (eC (.int 1))) (aCons (eBin oIx (eVar 0) (eC (.int 1))) (aNil)))) (aCons (eCall f_ratio_less (aCons (eBin oIx (eVar 2) (eC (.int 0))) (aCons (eBin oIx (eVar 0) (eC (.int 0))) (aNil)))) (aNil)))) (aNil))))))
noncomputable def f_between : List D → R D := fnD 4 7 (sSeq (sSet 4 (eCall f_ratio_by (aCons (eVar 2) (aCons (eCall f_ratio_less (aCons (eVar 2) (aCons (eVar 3) (aNil)))) (aNil)))))
    (sRet (eN oTuple (aCons (eComp [5, 6] (iArgs zip2 (aCons (eVar 0) (aCons (eVar 1) (aNil)))) (bSeq 2 (bCons (bName 5) (bCons (bName 6) (bNil)))) (eYes) (eCall f_ratio_sum (aCons (eVar 5) (aCons (eCall f_ratio_times (aCons (eVar 4) (aCons (eCall f_ratio_less (aCons (eVar 6) (aCons (eVar 5) (aNil)))) (aNil)))) (aNil))))) (aNil)))))
noncomputable def f_kept_side : List D → R D := fnD 2 5 (sSeq (sOwn 2 (aNil))
    (sSeq (sFor (iArgs range1 (aCons (eN oLen (aCons (eVar 0) (aNil))) (aNil))) (bName 3) (sSeq (sSet 4 (eBin oMod (eBin oAdd (eVar 3) (eC (.int 1))) (eN oLen (aCons (eVar 0) (aNil)))))
     (sSeq (sIf (eNot (eTest (eCall f_is_under (aCons (eBin oIx (eVar 1) (eVar 3)) (aCons (eC (.tup [.int 0, .int 1])) (aNil)))))) (sApp 2 (eBin oIx (eVar 0) (eVar 3))) (sSkip))
     (sIf (eTest (eCall f_is_under (aCons (eCall f_ratio_times (aCons (eBin oIx (eVar 1) (eVar 3)) (aCons (eBin oIx (eVar 1) (eVar 4)) (aNil)))) (aCons (eC (.tup [.int 0, .int 1])) (aNil))))) (sApp 2 (eCall f_between (aCons (eBin oIx (eVar 0) (eVar 3)) (aCons (eBin oIx (eVar 0) (eVar 4)) (aCons (eBin oIx (eVar 1) (eVar 3)) (aCons (eBin oIx (eVar 1) (eVar 4)) (aNil))))))) (sSkip)))))
    (sFreeze 2 (sRet (eVar 2)))))
noncomputable def f_is_before : List D → R D := fnD 2 2 (sSeq (sIf (eTest (eBin oNe (eBin oIx (eVar 0) (eC (.int 0))) (eBin oIx (eVar 1) (eC (.int 0))))) (sRet (eCall f_is_under (aCons (eBin oIx (eVar 0) (eC (.int 0))) (aCons (eBin oIx (eVar 1) (eC (.int 0))) (aNil))))) (sSkip))
    (sRet (eCall f_is_under (aCons (eBin oIx (eVar 0) (eC (.int 1))) (aCons (eBin oIx (eVar 1) (eC (.int 1))) (aNil))))))
noncomputable def f_tidied_part : List D → R D := fnO 1 6 (sSeq (sNR (sSet 1 (eComp [4] (iArgs range1 (aCons (eN oLen (aCons (eVar 0) (aNil))) (aNil))) (bName 4) (eOr (eTest (eBin oNe (eBin oIx (eVar 0) (eVar 4)) (eBin oIx (eVar 0) (eBin oSub (eVar 4) (eC (.int 1)))))) (eTest (eBin oEq (eN oLen (aCons (eVar 0) (aNil))) (eC (.int 1))))) (eBin oIx (eVar 0) (eVar 4)))))
    (sSeq (sNR (sSet 2 (eN oLen (aCons (eVar 1) (aNil)))))
    (sSeq (sNR (sOwn 3 (aNil)))
    (sSeq (sNR (sFor (iArgs range1 (aCons (eVar 2) (aNil))) (bName 4) (sIf (eTest (eBin oNe (eCall f_turn_at (aCons (eBin oIx (eVar 1) (eBin oSub (eVar 4) (eC (.int 1)))) (aCons (eBin oIx (eVar 1) (eVar 4)) (aCons (eBin oIx (eVar 1) (eBin oMod (eBin oAdd (eVar 4) (eC (.int 1))) (eVar 2))) (aNil))))) (eC (.tup [.int 0, .int 1])))) (sApp 3 (eBin oIx (eVar 1) (eVar 4))) (sSkip))))
    (sSeq (sFreeze 3 (sIf (eTest (eBin oLt (eN oLen (aCons (eVar 3) (aNil))) (eC (.int 3)))) (sRetL (aNil)) (sSkip)))
    (sSeq (sNR (sFreeze 3 (sIf (eTest (eCall f_is_under (aCons (eCall f_share_of (aCons (eVar 3) (aNil))) (aCons (eC (.tup [.int 0, .int 1])) (aNil))))) (sFreeze 3 (sSet 3 (eUn oRev (eVar 3)))) (sSkip))))
    (sSeq (sNR (sSet 5 (eC (.int 0))))
    (sSeq (sNR (sFreeze 3 (sFor (iArgs range2 (aCons (eC (.int 1)) (aCons (eN oLen (aCons (eVar 3) (aNil))) (aNil)))) (bName 4) (sFreeze 3 (sIf (eTest (eCall f_is_before (aCons (eBin oIx (eVar 3) (eVar 4)) (aCons (eBin oIx (eVar 3) (eVar 5)) (aNil))))) (sSet 5 (eVar 4)) (sSkip))))))
    (sFreeze 3 (sRetN (xAddL (eSl (eVar 3) (oSome (eVar 5)) (oNo)) (eSl (eVar 3) (oNo) (oSome (eVar 5))))))))))))))
noncomputable def f_both_of : List D → R D := fnO 2 7 (sSeq (sIf (eOr (eTest (eBin oEq (eVar 0) (eLst (aNil)))) (eTest (eBin oEq (eVar 1) (eLst (aNil))))) (sRetL (aNil)) (sSkip))
    (sSeq (sNR (sSet 2 (eVar 0)))
    (sSeq (sNR (sFor (iArgs range1 (aCons (eN oLen (aCons (eVar 1) (aNil))) (aNil))) (bName 3) (sSeq (sSet 4 (eBin oIx (eVar 1) (eVar 3)))
     (sSeq (sSet 5 (eBin oIx (eVar 1) (eBin oMod (eBin oAdd (eVar 3) (eC (.int 1))) (eN oLen (aCons (eVar 1) (aNil))))))
     (sSet 2 (eCall f_kept_side (aCons (eVar 2) (aCons (eComp [6] (iD (eVar 2)) (bName 6) (eYes) (eCall f_turn_at (aCons (eVar 4) (aCons (eVar 5) (aCons (eVar 6) (aNil)))))) (aNil)))))))))
    (sRetN (xCall f_tidied_part (aCons (eVar 2) (aNil)))))))
noncomputable def f__law_draw : List D → R D := fnD 3 6 (sSeq (sIf (eTest (eBin oGe (eVar 0) (eBin oPow (eC (.int 10)) (eC (.int 18))))) (sSeq (sSet 3 (eVar 0))
     (sSeq (sFor (iArgs range1 (aCons (eVar 1) (aNil))) (bName 4) (sSet 3 (eBin oDiv (eVar 3) (eBin oPow (eC (.int 10)) (eC (.int 10))))))
     (sIf (eTest (eBin oGt (eVar 3) (eC (.int 0)))) (sRet (eBin oMod (eBin oMod (eVar 3) (eBin oPow (eC (.int 10)) (eC (.int 10)))) (eVar 2))) (sSkip)))) (sSkip))
    (sSeq (sSet 5 (eBin oMod (eBin oMul (eBin oAdd (eBin oAdd (eBin oAdd (eBin oMod (eVar 0) (eC (.int 2147483647))) (eBin oMul (eBin oMul (eC (.int 7919)) (eVar 1)) (eVar 1))) (eBin oMul (eC (.int 31)) (eVar 1))) (eC (.int 1))) (eC (.int 48271))) (eC (.int 2147483647))))
    (sSeq (sSet 5 (eBin oMod (eBin oAdd (eBin oAdd (eBin oMul (eVar 5) (eVar 5)) (eBin oMul (eC (.int 69621)) (eVar 1))) (eC (.int 7))) (eC (.int 2147483629))))
    (sRet (eBin oMod (eBin oMod (eBin oMul (eVar 5) (eVar 5)) (eC (.int 2147483587))) (eVar 2))))))
noncomputable def f__law_low : List D → R D := fnD 2 4 (sSeq (sSet 2 (eN oAbs (aCons (eVar 0) (aNil))))
    (sSeq (sSet 3 (eVar 1))
    (sSeq (whileS (eTest (eBin oNe (eVar 3) (eC (.int 0)))) (sPar 2 3 (aCons (eVar 3) (aCons (eBin oMod (eVar 2) (eVar 3)) (aNil)))))
    (sRet (eTup (aCons (eBin oDiv (eVar 0) (eVar 2)) (aCons (eBin oDiv (eVar 1) (eVar 2)) (aNil))))))))
noncomputable def f__law_add : List D → R D := fnD 2 2 (sRet (eCall f__law_low (aCons (eBin oAdd (eBin oMul (eBin oIx (eVar 0) (eC (.int 0))) (eBin oIx (eVar 1) (eC (.int 1)))) (eBin oMul (eBin oIx (eVar 1) (eC (.int 0))) (eBin oIx (eVar 0) (eC (.int 1))))) (aCons (eBin oMul (eBin oIx (eVar 0) (eC (.int 1))) (eBin oIx (eVar 1) (eC (.int 1)))) (aNil)))))
noncomputable def f__law_under : List D → R D := fnD 2 2 (sRet (eBin oLt (eBin oMul (eBin oIx (eVar 0) (eC (.int 0))) (eBin oIx (eVar 1) (eC (.int 1)))) (eBin oMul (eBin oIx (eVar 1) (eC (.int 0))) (eBin oIx (eVar 0) (eC (.int 1))))))
noncomputable def f__law_box : List D → R D := fnD 2 4 (sSeq (sSet 2 (eCall f__law_low (aCons (eBin oSub (eCall f__law_draw (aCons (eVar 0) (aCons (eVar 1) (aCons (eC (.int 9)) (aNil))))) (eC (.int 4))) (aCons (eBin oAdd (eC (.int 1)) (eCall f__law_draw (aCons (eVar 0) (aCons (eBin oAdd (eVar 1) (eC (.int 1))) (aCons (eC (.int 4)) (aNil)))))) (aNil)))))
    (sSeq (sSet 3 (eCall f__law_low (aCons (eBin oAdd (eC (.int 1)) (eCall f__law_draw (aCons (eVar 0) (aCons (eBin oAdd (eVar 1) (eC (.int 2))) (aCons (eC (.int 8)) (aNil)))))) (aCons (eBin oAdd (eC (.int 1)) (eCall f__law_draw (aCons (eVar 0) (aCons (eBin oAdd (eVar 1) (eC (.int 3))) (aCons (eC (.int 4)) (aNil)))))) (aNil)))))
    (sRet (eTup (aCons (eVar 2) (aCons (eCall f__law_add (aCons (eVar 2) (aCons (eVar 3) (aNil)))) (aNil)))))))
noncomputable def f__law_corners : List D → R D := fnD 2 2 (sSeq (sIf (eOr (eNot (eTest (eCall f__law_under (aCons (eBin oIx (eVar 0) (eC (.int 0))) (aCons (eBin oIx (eVar 0) (eC (.int 1))) (aNil)))))) (eNot (eTest (eCall f__law_under (aCons (eBin oIx (eVar 1) (eC (.int 0))) (aCons (eBin oIx (eVar 1) (eC (.int 1))) (aNil))))))) (sRet (eLst (aNil))) (sSkip))
    (sRet (eLst (aCons (eTup (aCons (eBin oIx (eVar 0) (eC (.int 0))) (aCons (eBin oIx (eVar 1) (eC (.int 0))) (aNil)))) (aCons (eTup (aCons (eBin oIx (eVar 0) (eC (.int 1))) (aCons (eBin oIx (eVar 1) (eC (.int 0))) (aNil)))) (aCons (eTup (aCons (eBin oIx (eVar 0) (eC (.int 1))) (aCons (eBin oIx (eVar 1) (eC (.int 1))) (aNil)))) (aCons (eTup (aCons (eBin oIx (eVar 0) (eC (.int 0))) (aCons (eBin oIx (eVar 1) (eC (.int 1))) (aNil)))) (aNil))))))))
noncomputable def f__law_both : List D → R D := fnD 2 3 (sSeq (sSet 2 (eBin oIx (eVar 0) (eC (.int 0))))
    (sSeq (sIf (eTest (eCall f__law_under (aCons (eBin oIx (eVar 0) (eC (.int 0))) (aCons (eBin oIx (eVar 1) (eC (.int 0))) (aNil))))) (sSet 2 (eBin oIx (eVar 1) (eC (.int 0)))) (sSkip))
    (sSeq (sIf (eTest (eCall f__law_under (aCons (eBin oIx (eVar 0) (eC (.int 1))) (aCons (eBin oIx (eVar 1) (eC (.int 1))) (aNil))))) (sRet (eTup (aCons (eVar 2) (aCons (eBin oIx (eVar 0) (eC (.int 1))) (aNil))))) (sSkip))
    (sRet (eTup (aCons (eVar 2) (aCons (eBin oIx (eVar 1) (eC (.int 1))) (aNil))))))))
noncomputable def f__law_alike : List D → R D := fnD 2 4 (sSeq (sIf (eOr (eNot (eTest (eN oIsi (aCons (eVar 0) (aCons (eC (.ty "list")) (aNil)))))) (eTest (eBin oNe (eVar 0) (eVar 1)))) (sRet (eC (.bl false))) (sSkip))
    (sSeq (sFor (iD (eVar 0)) (bName 2) (sSeq (sIf (eOr (eNot (eTest (eN oIsi (aCons (eVar 2) (aCons (eC (.ty "tuple")) (aNil)))))) (eOr (eNot (eTest (eN oIsi (aCons (eBin oIx (eVar 2) (eC (.int 0))) (aCons (eC (.ty "tuple")) (aNil)))))) (eNot (eTest (eN oIsi (aCons (eBin oIx (eVar 2) (eC (.int 1))) (aCons (eC (.ty "tuple")) (aNil)))))))) (sRet (eC (.bl false))) (sSkip))
     (sFor (iD (eBin oAdd (eBin oIx (eVar 2) (eC (.int 0))) (eBin oIx (eVar 2) (eC (.int 1))))) (bName 3) (sIf (eOr (eNot (eTest (eN oIsi (aCons (eVar 3) (aCons (eC (.ty "int")) (aNil)))))) (eTest (eN oIsi (aCons (eVar 3) (aCons (eC (.ty "bool")) (aNil)))))) (sRet (eC (.bl false))) (sSkip)))))
    (sRet (eC (.bl true)))))
noncomputable def f_law : List D → R D := fnD 1 9 (sSeq (sFor (iD (eBin oAdd (eLst (aCons (eC (.int 4)) (aNil))) (eSl (eVar 0) (oNo) (oSome (eC (.int 40)))))) (bName 1) (sSeq (sOwnT 2 (tN (xLst (aCons (eCall f__law_box (aCons (eVar 1) (aCons (eC (.int 0)) (aNil)))) (aCons (eCall f__law_box (aCons (eVar 1) (aCons (eC (.int 4)) (aNil)))) (aNil)))) (tN (xLst (aCons (eCall f__law_box (aCons (eVar 1) (aCons (eC (.int 8)) (aNil)))) (aCons (eCall f__law_box (aCons (eVar 1) (aCons (eC (.int 12)) (aNil)))) (aNil)))) (tNil))))
     (sSeq (sIf (eTest (eBin oEq (eCall f__law_draw (aCons (eVar 1) (aCons (eC (.int 16)) (aCons (eC (.int 5)) (aNil))))) (eC (.int 1)))) (sSeq (sSet 3 (ePeekN 2 (eBin oIx (eBin oIx (eBin oIx (eVar 2) (eC (.int 0))) (eC (.int 0))) (eC (.int 1)))))
      (sPutT 2 1 (eTup (aCons (eVar 3) (aCons (eCall f__law_add (aCons (eVar 3) (aCons (eTup (aCons (eC (.int 1)) (aCons (eC (.int 2)) (aNil)))) (aNil)))) (aNil)))) (eC (.int 0)))) (sSkip))
     (sSeq (sFreeze 2 (sSet 4 (eCall f__law_corners (aCons (eBin oIx (eBin oIx (eVar 2) (eC (.int 0))) (eC (.int 0))) (aCons (eBin oIx (eBin oIx (eVar 2) (eC (.int 0))) (eC (.int 1))) (aNil))))))
     (sSeq (sFreeze 2 (sSet 5 (eCall f__law_corners (aCons (eBin oIx (eBin oIx (eVar 2) (eC (.int 1))) (eC (.int 0))) (aCons (eBin oIx (eBin oIx (eVar 2) (eC (.int 1))) (eC (.int 1))) (aNil))))))
     (sSeq (sFreeze 2 (sSet 6 (eCall f__law_corners (aCons (eCall f__law_both (aCons (eBin oIx (eBin oIx (eVar 2) (eC (.int 0))) (eC (.int 0))) (aCons (eBin oIx (eBin oIx (eVar 2) (eC (.int 1))) (eC (.int 0))) (aNil)))) (aCons (eCall f__law_both (aCons (eBin oIx (eBin oIx (eVar 2) (eC (.int 0))) (eC (.int 1))) (aCons (eBin oIx (eBin oIx (eVar 2) (eC (.int 1))) (eC (.int 1))) (aNil)))) (aNil))))))
     (sSeq (sSet 7 (eLst (aCons (eN oList (aCons (eVar 4) (aNil))) (aCons (eN oList (aCons (eVar 5) (aNil))) (aNil)))))
     (sSeq (sSetO 8 f_both_of (aCons (eBin oIx (eVar 7) (eC (.int 0))) (aCons (eBin oIx (eVar 7) (eC (.int 1))) (aNil))))
     (sSeq (sIf (eOr (eNot (eTest (ePeek 8 (eCall f__law_alike (aCons (eVar 8) (aCons (eVar 6) (aNil))))))) (eOr (eTest (eBin oNe (eVar 7) (eLst (aCons (eVar 4) (aCons (eVar 5) (aNil)))))) (eNot (eTest (eCall f__law_alike (aCons (eCall f_both_of (aCons (eVar 5) (aCons (eVar 4) (aNil)))) (aCons (eVar 6) (aNil)))))))) (sRet (eC (.bl false))) (sSkip))
     (sSeq (sApp 8 (eTup (aCons (eTup (aCons (eC (.int 0)) (aCons (eC (.int 1)) (aNil)))) (aCons (eTup (aCons (eC (.int 0)) (aCons (eC (.int 1)) (aNil)))) (aNil)))))
     (sSeq (sIf (eTest (eBin oNe (eVar 7) (eLst (aCons (eVar 4) (aCons (eVar 5) (aNil)))))) (sRet (eC (.bl false))) (sSkip))
     (sSeq (sIf (eOr (eTest (eBin oNe (eCall f_both_of (aCons (eVar 4) (aCons (eVar 5) (aNil)))) (eVar 6))) (eNot (eTest (eCall f__law_alike (aCons (eCall f_both_of (aCons (eVar 4) (aCons (eN oList (aCons (eVar 4) (aNil))) (aNil)))) (aCons (eVar 4) (aNil))))))) (sRet (eC (.bl false))) (sSkip))
     (sIf (eOr (eTest (eBin oNe (eCall f_both_of (aCons (eVar 4) (aCons (eLst (aNil)) (aNil)))) (eLst (aNil)))) (eTest (eBin oNe (eCall f_both_of (aCons (eLst (aNil)) (aCons (eVar 5) (aNil)))) (eLst (aNil))))) (sRet (eC (.bl false))) (sSkip))))))))))))))
    (sRet (eBin oEq (eCall f_both_of (aCons (eLst (aNil)) (aCons (eLst (aNil)) (aNil)))) (eLst (aNil)))))
end Gn

section
set_option Elab.async false
set_option linter.all false
set_option maxRecDepth 100000
set_option maxHeartbeats 0
namespace Gn
open PySem PySem.Spec PyProof.Rows L2 Dy
/-! ### the text -/
def topS (i : Nat) : Stmt := PySem.Challenge.pw_dialyard_k72_boxes_together.main.body.getD i (.Pass ⟨0, 0, 0, 0⟩)
abbrev s_is_whole : Stmt := topS 4
abbrev N_is_whole : List Str := ["thing"]
theorem sc_is_whole : FnScope N_is_whole ["thing"] (defScope s_is_whole) := ⟨rfl, rfl, rfl, by decide +kernel, rfl, by decide +kernel, by decide +kernel⟩
abbrev s_divisor_of : Stmt := topS 5
abbrev N_divisor_of : List Str := ["one", "other"]
theorem sc_divisor_of : FnScope N_divisor_of ["one", "other"] (defScope s_divisor_of) := ⟨rfl, rfl, rfl, by decide +kernel, rfl, by decide +kernel, by decide +kernel⟩
abbrev s_ratio_of : Stmt := topS 6
abbrev N_ratio_of : List Str := ["top", "bottom", "by"]
theorem sc_ratio_of : FnScope N_ratio_of ["top", "bottom"] (defScope s_ratio_of) := ⟨rfl, rfl, rfl, by decide +kernel, rfl, by decide +kernel, by decide +kernel⟩
abbrev s_ratio_sum : Stmt := topS 7
abbrev N_ratio_sum : List Str := ["one", "other"]
theorem sc_ratio_sum : FnScope N_ratio_sum ["one", "other"] (defScope s_ratio_sum) := ⟨rfl, rfl, rfl, by decide +kernel, rfl, by decide +kernel, by decide +kernel⟩
abbrev s_ratio_less : Stmt := topS 8
abbrev N_ratio_less : List Str := ["one", "other"]
theorem sc_ratio_less : FnScope N_ratio_less ["one", "other"] (defScope s_ratio_less) := ⟨rfl, rfl, rfl, by decide +kernel, rfl, by decide +kernel, by decide +kernel⟩
abbrev s_ratio_times : Stmt := topS 9
abbrev N_ratio_times : List Str := ["one", "other"]
theorem sc_ratio_times : FnScope N_ratio_times ["one", "other"] (defScope s_ratio_times) := ⟨rfl, rfl, rfl, by decide +kernel, rfl, by decide +kernel, by decide +kernel⟩
abbrev s_ratio_by : Stmt := topS 10
abbrev N_ratio_by : List Str := ["one", "other"]
theorem sc_ratio_by : FnScope N_ratio_by ["one", "other"] (defScope s_ratio_by) := ⟨rfl, rfl, rfl, by decide +kernel, rfl, by decide +kernel, by decide +kernel⟩
abbrev s_is_under : Stmt := topS 11
abbrev N_is_under : List Str := ["one", "other"]
theorem sc_is_under : FnScope N_is_under ["one", "other"] (defScope s_is_under) := ⟨rfl, rfl, rfl, by decide +kernel, rfl, by decide +kernel, by decide +kernel⟩
abbrev s_share_of : Stmt := topS 14
abbrev N_share_of : List Str := ["part", "found", "k", "one", "other"]
theorem sc_share_of : FnScope N_share_of ["part"] (defScope s_share_of) := ⟨rfl, rfl, rfl, by decide +kernel, rfl, by decide +kernel, by decide +kernel⟩
abbrev s_turn_at : Stmt := topS 15
abbrev N_turn_at : List Str := ["one", "other", "place", "first"]
theorem sc_turn_at : FnScope N_turn_at ["one", "other", "place"] (defScope s_turn_at) := ⟨rfl, rfl, rfl, by decide +kernel, rfl, by decide +kernel, by decide +kernel⟩
abbrev s_between : Stmt := topS 16
abbrev N_between : List Str := ["one", "other", "here", "there", "share", "a", "b"]
theorem sc_between : FnScope N_between ["one", "other", "here", "there"] (defScope s_between) := ⟨rfl, rfl, rfl, by decide +kernel, rfl, by decide +kernel, by decide +kernel⟩
abbrev s_kept_side : Stmt := topS 17
abbrev N_kept_side : List Str := ["corners", "heights", "found", "k", "later"]
theorem sc_kept_side : FnScope N_kept_side ["corners", "heights"] (defScope s_kept_side) := ⟨rfl, rfl, rfl, by decide +kernel, rfl, by decide +kernel, by decide +kernel⟩
abbrev s_is_before : Stmt := topS 18
abbrev N_is_before : List Str := ["one", "other"]
theorem sc_is_before : FnScope N_is_before ["one", "other"] (defScope s_is_before) := ⟨rfl, rfl, rfl, by decide +kernel, rfl, by decide +kernel, by decide +kernel⟩
abbrev s_tidied_part : Stmt := topS 19
abbrev N_tidied_part : List Str := ["corners", "unlike", "many", "found", "k", "first"]
theorem sc_tidied_part : FnScope N_tidied_part ["corners"] (defScope s_tidied_part) := ⟨rfl, rfl, rfl, by decide +kernel, rfl, by decide +kernel, by decide +kernel⟩
abbrev s_both_of : Stmt := topS 20
abbrev N_both_of : List Str := ["one", "other", "found", "k", "here", "there", "place"]
theorem sc_both_of : FnScope N_both_of ["one", "other"] (defScope s_both_of) := ⟨rfl, rfl, rfl, by decide +kernel, rfl, by decide +kernel, by decide +kernel⟩
abbrev s__law_draw : Stmt := topS 23
abbrev N__law_draw : List Str := ["_law_cell", "_law_k", "_law_many", "_law_left", "_law_j", "_law_number"]
theorem sc__law_draw : FnScope N__law_draw ["_law_cell", "_law_k", "_law_many"] (defScope s__law_draw) := ⟨rfl, rfl, rfl, by decide +kernel, rfl, by decide +kernel, by decide +kernel⟩
abbrev s__law_low : Stmt := topS 24
abbrev N__law_low : List Str := ["_law_top", "_law_bottom", "_law_one", "_law_other"]
theorem sc__law_low : FnScope N__law_low ["_law_top", "_law_bottom"] (defScope s__law_low) := ⟨rfl, rfl, rfl, by decide +kernel, rfl, by decide +kernel, by decide +kernel⟩
abbrev s__law_add : Stmt := topS 25
abbrev N__law_add : List Str := ["_law_one", "_law_other"]
theorem sc__law_add : FnScope N__law_add ["_law_one", "_law_other"] (defScope s__law_add) := ⟨rfl, rfl, rfl, by decide +kernel, rfl, by decide +kernel, by decide +kernel⟩
abbrev s__law_under : Stmt := topS 28
abbrev N__law_under : List Str := ["_law_one", "_law_other"]
theorem sc__law_under : FnScope N__law_under ["_law_one", "_law_other"] (defScope s__law_under) := ⟨rfl, rfl, rfl, by decide +kernel, rfl, by decide +kernel, by decide +kernel⟩
abbrev s__law_box : Stmt := topS 29
abbrev N__law_box : List Str := ["_law_cell", "_law_k", "_law_low_here", "_law_wide"]
theorem sc__law_box : FnScope N__law_box ["_law_cell", "_law_k"] (defScope s__law_box) := ⟨rfl, rfl, rfl, by decide +kernel, rfl, by decide +kernel, by decide +kernel⟩
abbrev s__law_corners : Stmt := topS 30
abbrev N__law_corners : List Str := ["_law_wide", "_law_high"]
theorem sc__law_corners : FnScope N__law_corners ["_law_wide", "_law_high"] (defScope s__law_corners) := ⟨rfl, rfl, rfl, by decide +kernel, rfl, by decide +kernel, by decide +kernel⟩
abbrev s__law_both : Stmt := topS 31
abbrev N__law_both : List Str := ["_law_one", "_law_other", "_law_low_here"]
theorem sc__law_both : FnScope N__law_both ["_law_one", "_law_other"] (defScope s__law_both) := ⟨rfl, rfl, rfl, by decide +kernel, rfl, by decide +kernel, by decide +kernel⟩
abbrev s__law_alike : Stmt := topS 32
abbrev N__law_alike : List Str := ["_law_found", "_law_due", "_law_place", "_law_number"]
theorem sc__law_alike : FnScope N__law_alike ["_law_found", "_law_due"] (defScope s__law_alike) := ⟨rfl, rfl, rfl, by decide +kernel, rfl, by decide +kernel, by decide +kernel⟩
abbrev s_law : Stmt := topS 33
abbrev N_law : List Str := ["_law_script", "_law_cell", "_law_boxes", "_law_low_here", "_law_one", "_law_other", "_law_due", "_law_handed", "_law_found"]
theorem sc_law : FnScope N_law ["_law_script"] (defScope s_law) := ⟨rfl, rfl, rfl, by decide +kernel, rfl, by decide +kernel, by decide +kernel⟩
def blts : List Str := ["bool", "isinstance", "int", "abs", "len", "range", "zip", "tuple", "list"]
def gints : List (Str × Int) := []
def gstrs : List (Str × Str) := []
structure Facts (K : PySem.W.Frag) (mg : Str → Option Value) : Prop where
  int : ∀ (i : Nat) (x : Str × Int), gints[i]? = some x → ∃ t, mg x.1 = some (.int x.2 t)
  str : ∀ (i : Nat) (x : Str × Str), gstrs[i]? = some x → ∃ t, mg x.1 = some (.str x.2 t)
  glo_NoNumber : mg "NoNumber" = some (.ref (He.ga K "NoNumber"))
  glo_NOUGHT : mg "NOUGHT" = some (.ref (He.ga K "NOUGHT"))
  exc_NoNumber : Dy.ExcC K mg "NoNumber"
  xf : ExF K mg xks xcs
  tup_NOUGHT : ∀ F, Rep K F (.tup [.int 0, .int 1]) (.ref (He.ga K "NOUGHT"))
/-! ### the defs do so -/
section
variable {P : Program} {w : World} {K : PySem.W.Frag} {mg : Str → Option Value} {base : Heap} {f : Addr} {fd : FuncData}
theorem ok_is_whole (B : Blts mg blts) (M : Facts K mg)  (Fn : FunD K "is_whole" "is_whole" (defArgs s_is_whole) (defBody s_is_whole) (defScope s_is_whole) [] [] f fd) : FnOk P w K mg base (L2.CX P w) 1 f fd ["thing"] (spD K 1 f_is_whole) :=
  have nd := (sc_is_whole).nd
  ok_def (N := N_is_whole) Fn sc_is_whole rfl fun cdv A outer s H E hr tk hp =>
    sss_one (ss_ret (se_and (se_blt d_isi (B.at 1) (sa_cons (se_var 0) (sa_cons (se_ty (B.at 2)) (sa_nil)))) (se_one (se_not (se_blt d_isi (B.at 1) (sa_cons (se_var 0) (sa_cons (se_ty (B.at 0)) (sa_nil))))))))
theorem cal_is_whole (B : Blts mg blts) (M : Facts K mg)  (Fn : FunD K "is_whole" "is_whole" (defArgs s_is_whole) (defBody s_is_whole) (defScope s_is_whole) [] [] f fd) (hm : mg "is_whole" = some (.ref f)) : Cal P w K mg base "is_whole" 1 1 f_is_whole :=
  cal_mk (N := N_is_whole) (ps := ["thing"]) Fn hm (fun _ _ _ _ _ _ us hl => match us, hl with | [_], _ => rfl) (ok_is_whole B M  Fn)
theorem ok_divisor_of (B : Blts mg blts) (M : Facts K mg)  (Fn : FunD K "divisor_of" "divisor_of" (defArgs s_divisor_of) (defBody s_divisor_of) (defScope s_divisor_of) [] [] f fd) : FnOk P w K mg base (L2.CX P w) 1 f fd ["one", "other"] (spD K 2 f_divisor_of) :=
  have nd := (sc_divisor_of).nd
  ok_def (N := N_divisor_of) Fn sc_divisor_of rfl fun cdv A outer s H E hr tk hp =>
    sss_cons (ss_while hp (st_cmp (d_ne hr.units) (se_var 1) (se_int) (nomark _)) (sss_one (ss_par rfl nd (sa_cons (se_var 1) (sa_cons (se_op d_mod (se_var 0) (se_var 1)) (sa_nil))))))
    (sss_one (ss_ret (se_blt d_abs (B.at 3) (sa_cons (se_var 0) (sa_nil)))))
theorem cal_divisor_of (B : Blts mg blts) (M : Facts K mg)  (Fn : FunD K "divisor_of" "divisor_of" (defArgs s_divisor_of) (defBody s_divisor_of) (defScope s_divisor_of) [] [] f fd) (hm : mg "divisor_of" = some (.ref f)) : Cal P w K mg base "divisor_of" 1 2 f_divisor_of :=
  cal_mk (N := N_divisor_of) (ps := ["one", "other"]) Fn hm (fun _ _ _ _ _ _ us hl => match us, hl with | [_, _], _ => rfl) (ok_divisor_of B M  Fn)
theorem ok_ratio_of (B : Blts mg blts) (M : Facts K mg) (C_is_whole : Cal P w K mg base "is_whole" 1 1 f_is_whole) (C_divisor_of : Cal P w K mg base "divisor_of" 1 2 f_divisor_of) (Fn : FunD K "ratio_of" "ratio_of" (defArgs s_ratio_of) (defBody s_ratio_of) (defScope s_ratio_of) [] [] f fd) : FnOk P w K mg base (L2.CX P w) 2 f fd ["top", "bottom"] (spD K 2 f_ratio_of) :=
  have nd := (sc_ratio_of).nd
  ok_def (N := N_ratio_of) Fn sc_ratio_of rfl fun cdv A outer s H E hr tk hp =>
    sss_cons (ss_if (st_bool (sw_or (st_not (st_val (se_callC C_is_whole tk (hr.mono (by decide)) (sa_cons (se_var 0) (sa_nil))))) (sw_or (st_not (st_val (se_callC C_is_whole tk (hr.mono (by decide)) (sa_cons (se_var 1) (sa_nil))))) (sw_or1 (st_cmp (d_eq hr.units) (se_var 1) (se_int) (nomark _)))))) (sss_one (ss_raise0 M.exc_NoNumber rfl tk)) (sss_nil))
    (sss_cons (ss_set nd (se_callC C_divisor_of tk (hr.mono (by decide)) (sa_cons (se_var 0) (sa_cons (se_var 1) (sa_nil)))))
    (sss_cons (ss_if (st_cmp (d_lt) (se_var 1) (se_int) (nomark _)) (sss_one (ss_set nd (se_un d_neg (se_var 2)))) (sss_nil))
    (sss_one (ss_ret (se_tup (sa_cons (se_op d_div (se_var 0) (se_var 2)) (sa_cons (se_op d_div (se_var 1) (se_var 2)) (sa_nil))))))))
theorem cal_ratio_of (B : Blts mg blts) (M : Facts K mg) (C_is_whole : Cal P w K mg base "is_whole" 1 1 f_is_whole) (C_divisor_of : Cal P w K mg base "divisor_of" 1 2 f_divisor_of) (Fn : FunD K "ratio_of" "ratio_of" (defArgs s_ratio_of) (defBody s_ratio_of) (defScope s_ratio_of) [] [] f fd) (hm : mg "ratio_of" = some (.ref f)) : Cal P w K mg base "ratio_of" 2 2 f_ratio_of :=
  cal_mk (N := N_ratio_of) (ps := ["top", "bottom"]) Fn hm (fun _ _ _ _ _ _ us hl => match us, hl with | [_, _], _ => rfl) (ok_ratio_of B M C_is_whole C_divisor_of Fn)
theorem ok_ratio_sum (B : Blts mg blts) (M : Facts K mg) (C_ratio_of : Cal P w K mg base "ratio_of" 2 2 f_ratio_of) (Fn : FunD K "ratio_sum" "ratio_sum" (defArgs s_ratio_sum) (defBody s_ratio_sum) (defScope s_ratio_sum) [] [] f fd) : FnOk P w K mg base (L2.CX P w) 3 f fd ["one", "other"] (spD K 2 f_ratio_sum) :=
  have nd := (sc_ratio_sum).nd
  ok_def (N := N_ratio_sum) Fn sc_ratio_sum rfl fun cdv A outer s H E hr tk hp =>
    sss_one (ss_ret (se_callC C_ratio_of tk (hr.mono (by decide)) (sa_cons (se_op d_add (se_op d_mul (se_ix d_ix (se_var 0) (se_int)) (se_ix d_ix (se_var 1) (se_int))) (se_op d_mul (se_ix d_ix (se_var 1) (se_int)) (se_ix d_ix (se_var 0) (se_int)))) (sa_cons (se_op d_mul (se_ix d_ix (se_var 0) (se_int)) (se_ix d_ix (se_var 1) (se_int))) (sa_nil)))))
theorem cal_ratio_sum (B : Blts mg blts) (M : Facts K mg) (C_ratio_of : Cal P w K mg base "ratio_of" 2 2 f_ratio_of) (Fn : FunD K "ratio_sum" "ratio_sum" (defArgs s_ratio_sum) (defBody s_ratio_sum) (defScope s_ratio_sum) [] [] f fd) (hm : mg "ratio_sum" = some (.ref f)) : Cal P w K mg base "ratio_sum" 3 2 f_ratio_sum :=
  cal_mk (N := N_ratio_sum) (ps := ["one", "other"]) Fn hm (fun _ _ _ _ _ _ us hl => match us, hl with | [_, _], _ => rfl) (ok_ratio_sum B M C_ratio_of Fn)
theorem ok_ratio_less (B : Blts mg blts) (M : Facts K mg) (C_ratio_of : Cal P w K mg base "ratio_of" 2 2 f_ratio_of) (Fn : FunD K "ratio_less" "ratio_less" (defArgs s_ratio_less) (defBody s_ratio_less) (defScope s_ratio_less) [] [] f fd) : FnOk P w K mg base (L2.CX P w) 3 f fd ["one", "other"] (spD K 2 f_ratio_less) :=
  have nd := (sc_ratio_less).nd
  ok_def (N := N_ratio_less) Fn sc_ratio_less rfl fun cdv A outer s H E hr tk hp =>
    sss_one (ss_ret (se_callC C_ratio_of tk (hr.mono (by decide)) (sa_cons (se_op d_sub (se_op d_mul (se_ix d_ix (se_var 0) (se_int)) (se_ix d_ix (se_var 1) (se_int))) (se_op d_mul (se_ix d_ix (se_var 1) (se_int)) (se_ix d_ix (se_var 0) (se_int)))) (sa_cons (se_op d_mul (se_ix d_ix (se_var 0) (se_int)) (se_ix d_ix (se_var 1) (se_int))) (sa_nil)))))
theorem cal_ratio_less (B : Blts mg blts) (M : Facts K mg) (C_ratio_of : Cal P w K mg base "ratio_of" 2 2 f_ratio_of) (Fn : FunD K "ratio_less" "ratio_less" (defArgs s_ratio_less) (defBody s_ratio_less) (defScope s_ratio_less) [] [] f fd) (hm : mg "ratio_less" = some (.ref f)) : Cal P w K mg base "ratio_less" 3 2 f_ratio_less :=
  cal_mk (N := N_ratio_less) (ps := ["one", "other"]) Fn hm (fun _ _ _ _ _ _ us hl => match us, hl with | [_, _], _ => rfl) (ok_ratio_less B M C_ratio_of Fn)
theorem ok_ratio_times (B : Blts mg blts) (M : Facts K mg) (C_ratio_of : Cal P w K mg base "ratio_of" 2 2 f_ratio_of) (Fn : FunD K "ratio_times" "ratio_times" (defArgs s_ratio_times) (defBody s_ratio_times) (defScope s_ratio_times) [] [] f fd) : FnOk P w K mg base (L2.CX P w) 3 f fd ["one", "other"] (spD K 2 f_ratio_times) :=
  have nd := (sc_ratio_times).nd
  ok_def (N := N_ratio_times) Fn sc_ratio_times rfl fun cdv A outer s H E hr tk hp =>
    sss_one (ss_ret (se_callC C_ratio_of tk (hr.mono (by decide)) (sa_cons (se_op d_mul (se_ix d_ix (se_var 0) (se_int)) (se_ix d_ix (se_var 1) (se_int))) (sa_cons (se_op d_mul (se_ix d_ix (se_var 0) (se_int)) (se_ix d_ix (se_var 1) (se_int))) (sa_nil)))))
theorem cal_ratio_times (B : Blts mg blts) (M : Facts K mg) (C_ratio_of : Cal P w K mg base "ratio_of" 2 2 f_ratio_of) (Fn : FunD K "ratio_times" "ratio_times" (defArgs s_ratio_times) (defBody s_ratio_times) (defScope s_ratio_times) [] [] f fd) (hm : mg "ratio_times" = some (.ref f)) : Cal P w K mg base "ratio_times" 3 2 f_ratio_times :=
  cal_mk (N := N_ratio_times) (ps := ["one", "other"]) Fn hm (fun _ _ _ _ _ _ us hl => match us, hl with | [_, _], _ => rfl) (ok_ratio_times B M C_ratio_of Fn)
theorem ok_ratio_by (B : Blts mg blts) (M : Facts K mg) (C_ratio_of : Cal P w K mg base "ratio_of" 2 2 f_ratio_of) (Fn : FunD K "ratio_by" "ratio_by" (defArgs s_ratio_by) (defBody s_ratio_by) (defScope s_ratio_by) [] [] f fd) : FnOk P w K mg base (L2.CX P w) 3 f fd ["one", "other"] (spD K 2 f_ratio_by) :=
  have nd := (sc_ratio_by).nd
  ok_def (N := N_ratio_by) Fn sc_ratio_by rfl fun cdv A outer s H E hr tk hp =>
    sss_one (ss_ret (se_callC C_ratio_of tk (hr.mono (by decide)) (sa_cons (se_op d_mul (se_ix d_ix (se_var 0) (se_int)) (se_ix d_ix (se_var 1) (se_int))) (sa_cons (se_op d_mul (se_ix d_ix (se_var 0) (se_int)) (se_ix d_ix (se_var 1) (se_int))) (sa_nil)))))
theorem cal_ratio_by (B : Blts mg blts) (M : Facts K mg) (C_ratio_of : Cal P w K mg base "ratio_of" 2 2 f_ratio_of) (Fn : FunD K "ratio_by" "ratio_by" (defArgs s_ratio_by) (defBody s_ratio_by) (defScope s_ratio_by) [] [] f fd) (hm : mg "ratio_by" = some (.ref f)) : Cal P w K mg base "ratio_by" 3 2 f_ratio_by :=
  cal_mk (N := N_ratio_by) (ps := ["one", "other"]) Fn hm (fun _ _ _ _ _ _ us hl => match us, hl with | [_, _], _ => rfl) (ok_ratio_by B M C_ratio_of Fn)
theorem ok_is_under (B : Blts mg blts) (M : Facts K mg)  (Fn : FunD K "is_under" "is_under" (defArgs s_is_under) (defBody s_is_under) (defScope s_is_under) [] [] f fd) : FnOk P w K mg base (L2.CX P w) 1 f fd ["one", "other"] (spD K 2 f_is_under) :=
  have nd := (sc_is_under).nd
  ok_def (N := N_is_under) Fn sc_is_under rfl fun cdv A outer s H E hr tk hp =>
    sss_one (ss_ret (se_cmp (d_lt) (se_op d_mul (se_ix d_ix (se_var 0) (se_int)) (se_ix d_ix (se_var 1) (se_int))) (se_op d_mul (se_ix d_ix (se_var 1) (se_int)) (se_ix d_ix (se_var 0) (se_int))) (nomark _)))
theorem cal_is_under (B : Blts mg blts) (M : Facts K mg)  (Fn : FunD K "is_under" "is_under" (defArgs s_is_under) (defBody s_is_under) (defScope s_is_under) [] [] f fd) (hm : mg "is_under" = some (.ref f)) : Cal P w K mg base "is_under" 1 2 f_is_under :=
  cal_mk (N := N_is_under) (ps := ["one", "other"]) Fn hm (fun _ _ _ _ _ _ us hl => match us, hl with | [_, _], _ => rfl) (ok_is_under B M  Fn)
theorem ok_share_of (B : Blts mg blts) (M : Facts K mg) (C_ratio_sum : Cal P w K mg base "ratio_sum" 3 2 f_ratio_sum) (C_ratio_less : Cal P w K mg base "ratio_less" 3 2 f_ratio_less) (C_ratio_times : Cal P w K mg base "ratio_times" 3 2 f_ratio_times) (C_ratio_of : Cal P w K mg base "ratio_of" 2 2 f_ratio_of) (Fn : FunD K "share_of" "share_of" (defArgs s_share_of) (defBody s_share_of) (defScope s_share_of) [] [] f fd) : FnOk P w K mg base (L2.CX P w) 4 f fd ["part"] (spD K 1 f_share_of) :=
  have nd := (sc_share_of).nd
  ok_def (N := N_share_of) Fn sc_share_of rfl fun cdv A outer s H E hr tk hp =>
    sss_cons (ss_set nd (se_gref rfl M.glo_NOUGHT M.tup_NOUGHT))
    (sss_cons (ss_for hp rfl (si_range1 (B.at 5) (sa_cons (se_blt d_len (B.at 4) (sa_cons (se_var 0) (sa_nil))) (sa_nil))) (pg_name (i := 2) nd rfl (by first | exact Or.inl rfl | exact Or.inr rfl)) (tg_name 2) (sss_cons (ss_set nd (se_ix d_ix (se_var 0) (se_var 2)))
     (sss_cons (ss_set nd (se_ix d_ix (se_var 0) (se_op d_mod (se_op d_add (se_var 2) (se_int)) (se_blt d_len (B.at 4) (sa_cons (se_var 0) (sa_nil))))))
     (sss_one (ss_set nd (se_callC C_ratio_sum tk (hr.mono (by decide)) (sa_cons (se_var 1) (sa_cons (se_callC C_ratio_less tk (hr.mono (by decide)) (sa_cons (se_callC C_ratio_times tk (hr.mono (by decide)) (sa_cons (se_ix d_ix (se_var 3) (se_int)) (sa_cons (se_ix d_ix (se_var 4) (se_int)) (sa_nil)))) (sa_cons (se_callC C_ratio_times tk (hr.mono (by decide)) (sa_cons (se_ix d_ix (se_var 4) (se_int)) (sa_cons (se_ix d_ix (se_var 3) (se_int)) (sa_nil)))) (sa_nil)))) (sa_nil)))))))))
    (sss_one (ss_ret (se_callC C_ratio_times tk (hr.mono (by decide)) (sa_cons (se_callC C_ratio_of tk (hr.mono (by decide)) (sa_cons (se_int) (sa_cons (se_int) (sa_nil)))) (sa_cons (se_var 1) (sa_nil)))))))
theorem cal_share_of (B : Blts mg blts) (M : Facts K mg) (C_ratio_sum : Cal P w K mg base "ratio_sum" 3 2 f_ratio_sum) (C_ratio_less : Cal P w K mg base "ratio_less" 3 2 f_ratio_less) (C_ratio_times : Cal P w K mg base "ratio_times" 3 2 f_ratio_times) (C_ratio_of : Cal P w K mg base "ratio_of" 2 2 f_ratio_of) (Fn : FunD K "share_of" "share_of" (defArgs s_share_of) (defBody s_share_of) (defScope s_share_of) [] [] f fd) (hm : mg "share_of" = some (.ref f)) : Cal P w K mg base "share_of" 4 1 f_share_of :=
  cal_mk (N := N_share_of) (ps := ["part"]) Fn hm (fun _ _ _ _ _ _ us hl => match us, hl with | [_], _ => rfl) (ok_share_of B M C_ratio_sum C_ratio_less C_ratio_times C_ratio_of Fn)
theorem ok_turn_at (B : Blts mg blts) (M : Facts K mg) (C_ratio_times : Cal P w K mg base "ratio_times" 3 2 f_ratio_times) (C_ratio_less : Cal P w K mg base "ratio_less" 3 2 f_ratio_less) (Fn : FunD K "turn_at" "turn_at" (defArgs s_turn_at) (defBody s_turn_at) (defScope s_turn_at) [] [] f fd) : FnOk P w K mg base (L2.CX P w) 4 f fd ["one", "other", "place"] (spD K 3 f_turn_at) :=
  have nd := (sc_turn_at).nd
  ok_def (N := N_turn_at) Fn sc_turn_at rfl fun cdv A outer s H E hr tk hp =>
    sss_cons (ss_set nd (se_callC C_ratio_times tk (hr.mono (by decide)) (sa_cons (se_callC C_ratio_less tk (hr.mono (by decide)) (sa_cons (se_ix d_ix (se_var 1) (se_int)) (sa_cons (se_ix d_ix (se_var 0) (se_int)) (sa_nil)))) (sa_cons (se_callC C_ratio_less tk (hr.mono (by decide)) (sa_cons (se_ix d_ix (se_var 2) (se_int)) (sa_cons (se_ix d_ix (se_var 0) (se_int)) (sa_nil)))) (sa_nil)))))
    (sss_one (ss_ret (se_callC C_ratio_less tk (hr.mono (by decide)) (sa_cons (se_var 3) (sa_cons (se_callC C_ratio_times tk (hr.mono (by decide)) (sa_cons (se_callC C_ratio_less tk (hr.mono (by decide)) (sa_cons (se_ix d_ix (se_var 1) (se_int)) (sa_cons (se_ix d_ix (se_var 0) (se_int)) (sa_nil)))) (sa_cons (se_callC C_ratio_less tk (hr.mono (by decide)) (sa_cons (se_ix d_ix (se_var 2) (se_int)) (sa_cons (se_ix d_ix (se_var 0) (se_int)) (sa_nil)))) (sa_nil)))) (sa_nil))))))
theorem cal_turn_at (B : Blts mg blts) (M : Facts K mg) (C_ratio_times : Cal P w K mg base "ratio_times" 3 2 f_ratio_times) (C_ratio_less : Cal P w K mg base "ratio_less" 3 2 f_ratio_less) (Fn : FunD K "turn_at" "turn_at" (defArgs s_turn_at) (defBody s_turn_at) (defScope s_turn_at) [] [] f fd) (hm : mg "turn_at" = some (.ref f)) : Cal P w K mg base "turn_at" 4 3 f_turn_at :=
  cal_mk (N := N_turn_at) (ps := ["one", "other", "place"]) Fn hm (fun _ _ _ _ _ _ us hl => match us, hl with | [_, _, _], _ => rfl) (ok_turn_at B M C_ratio_times C_ratio_less Fn)
theorem ok_between (B : Blts mg blts) (M : Facts K mg) (C_ratio_by : Cal P w K mg base "ratio_by" 3 2 f_ratio_by) (C_ratio_less : Cal P w K mg base "ratio_less" 3 2 f_ratio_less) (C_ratio_sum : Cal P w K mg base "ratio_sum" 3 2 f_ratio_sum) (C_ratio_times : Cal P w K mg base "ratio_times" 3 2 f_ratio_times) (Fn : FunD K "between" "between" (defArgs s_between) (defBody s_between) (defScope s_between) [] [] f fd) : FnOk P w K mg base (L2.CX P w) 4 f fd ["one", "other", "here", "there"] (spD K 4 f_between) :=
  have nd := (sc_between).nd
  ok_def (N := N_between) Fn sc_between rfl fun cdv A outer s H E hr tk hp =>
    sss_cons (ss_set nd (se_callC C_ratio_by tk (hr.mono (by decide)) (sa_cons (se_var 2) (sa_cons (se_callC C_ratio_less tk (hr.mono (by decide)) (sa_cons (se_var 2) (sa_cons (se_var 3) (sa_nil)))) (sa_nil)))))
    (sss_one (ss_ret (se_bty d_tuple (B.at 7) (sa_cons (se_comp (own := [("a", 5), ("b", 6)]) rfl nd (blkOk_by (N := N_between) (sc := defScope s_between) (by decide +kernel)) (si_zip (B.at 6) (sa_cons (se_var 0) (sa_cons (se_var 1) (sa_nil)))) (tg_seq (tgs_cons (tg_name 5) (tgs_cons (tg_name 6) (tgs_nil)))) (fun _ _ _ _ _ => pg_seq rfl (pgs_cons (pg_name (i := 5) nd rfl (by first | exact Or.inl rfl | exact Or.inr rfl)) (pgs_cons (pg_name (i := 6) nd rfl (by first | exact Or.inl rfl | exact Or.inr rfl)) (pgs_nil)))) (fun _ _ _ _ _ => sif_nil) (fun _ _ _ _ _ => se_callC C_ratio_sum takes0 (hr.mono (by decide)) (sa_cons (se_var 5) (sa_cons (se_callC C_ratio_times takes0 (hr.mono (by decide)) (sa_cons (se_var 4) (sa_cons (se_callC C_ratio_less takes0 (hr.mono (by decide)) (sa_cons (se_var 6) (sa_cons (se_var 5) (sa_nil)))) (sa_nil)))) (sa_nil))))) (sa_nil)))))
theorem cal_between (B : Blts mg blts) (M : Facts K mg) (C_ratio_by : Cal P w K mg base "ratio_by" 3 2 f_ratio_by) (C_ratio_less : Cal P w K mg base "ratio_less" 3 2 f_ratio_less) (C_ratio_sum : Cal P w K mg base "ratio_sum" 3 2 f_ratio_sum) (C_ratio_times : Cal P w K mg base "ratio_times" 3 2 f_ratio_times) (Fn : FunD K "between" "between" (defArgs s_between) (defBody s_between) (defScope s_between) [] [] f fd) (hm : mg "between" = some (.ref f)) : Cal P w K mg base "between" 4 4 f_between :=
  cal_mk (N := N_between) (ps := ["one", "other", "here", "there"]) Fn hm (fun _ _ _ _ _ _ us hl => match us, hl with | [_, _, _, _], _ => rfl) (ok_between B M C_ratio_by C_ratio_less C_ratio_sum C_ratio_times Fn)
theorem ok_kept_side (B : Blts mg blts) (M : Facts K mg) (C_is_under : Cal P w K mg base "is_under" 1 2 f_is_under) (C_ratio_times : Cal P w K mg base "ratio_times" 3 2 f_ratio_times) (C_between : Cal P w K mg base "between" 4 4 f_between) (Fn : FunD K "kept_side" "kept_side" (defArgs s_kept_side) (defBody s_kept_side) (defScope s_kept_side) [] [] f fd) : FnOk P w K mg base (L2.CX P w) 5 f fd ["corners", "heights"] (spD K 2 f_kept_side) :=
  have nd := (sc_kept_side).nd
  ok_def (N := N_kept_side) Fn sc_kept_side rfl fun cdv A outer s H E hr tk hp =>
    sss_cons (ss_own nd (sa_nil))
    (sss_cons (ss_for hp rfl (si_range1 (B.at 5) (sa_cons (se_blt d_len (B.at 4) (sa_cons (se_var 0) (sa_nil))) (sa_nil))) (pg_name (i := 3) nd rfl (by first | exact Or.inl rfl | exact Or.inr rfl)) (tg_name 3) (sss_cons (ss_set nd (se_op d_mod (se_op d_add (se_var 3) (se_int)) (se_blt d_len (B.at 4) (sa_cons (se_var 0) (sa_nil)))))
     (sss_cons (ss_if (st_not (st_val (se_callC C_is_under tk (hr.mono (by decide)) (sa_cons (se_ix d_ix (se_var 1) (se_var 3)) (sa_cons (se_gref rfl M.glo_NOUGHT M.tup_NOUGHT) (sa_nil)))))) (sss_one (ss_app 2 (se_ix d_ix (se_var 0) (se_var 3)))) (sss_nil))
     (sss_one (ss_if (st_val (se_callC C_is_under tk (hr.mono (by decide)) (sa_cons (se_callC C_ratio_times tk (hr.mono (by decide)) (sa_cons (se_ix d_ix (se_var 1) (se_var 3)) (sa_cons (se_ix d_ix (se_var 1) (se_var 4)) (sa_nil)))) (sa_cons (se_gref rfl M.glo_NOUGHT M.tup_NOUGHT) (sa_nil))))) (sss_one (ss_app 2 (se_callC C_between tk (hr.mono (by decide)) (sa_cons (se_ix d_ix (se_var 0) (se_var 3)) (sa_cons (se_ix d_ix (se_var 0) (se_var 4)) (sa_cons (se_ix d_ix (se_var 1) (se_var 3)) (sa_cons (se_ix d_ix (se_var 1) (se_var 4)) (sa_nil)))))))) (sss_nil))))))
    (sss_one (ss_freeze 2 (ss_ret (se_var 2)))))
theorem cal_kept_side (B : Blts mg blts) (M : Facts K mg) (C_is_under : Cal P w K mg base "is_under" 1 2 f_is_under) (C_ratio_times : Cal P w K mg base "ratio_times" 3 2 f_ratio_times) (C_between : Cal P w K mg base "between" 4 4 f_between) (Fn : FunD K "kept_side" "kept_side" (defArgs s_kept_side) (defBody s_kept_side) (defScope s_kept_side) [] [] f fd) (hm : mg "kept_side" = some (.ref f)) : Cal P w K mg base "kept_side" 5 2 f_kept_side :=
  cal_mk (N := N_kept_side) (ps := ["corners", "heights"]) Fn hm (fun _ _ _ _ _ _ us hl => match us, hl with | [_, _], _ => rfl) (ok_kept_side B M C_is_under C_ratio_times C_between Fn)
theorem ok_is_before (B : Blts mg blts) (M : Facts K mg) (C_is_under : Cal P w K mg base "is_under" 1 2 f_is_under) (Fn : FunD K "is_before" "is_before" (defArgs s_is_before) (defBody s_is_before) (defScope s_is_before) [] [] f fd) : FnOk P w K mg base (L2.CX P w) 2 f fd ["one", "other"] (spD K 2 f_is_before) :=
  have nd := (sc_is_before).nd
  ok_def (N := N_is_before) Fn sc_is_before rfl fun cdv A outer s H E hr tk hp =>
    sss_cons (ss_if (st_cmp (d_ne hr.units) (se_ix d_ix (se_var 0) (se_int)) (se_ix d_ix (se_var 1) (se_int)) (nomark _)) (sss_one (ss_ret (se_callC C_is_under tk (hr.mono (by decide)) (sa_cons (se_ix d_ix (se_var 0) (se_int)) (sa_cons (se_ix d_ix (se_var 1) (se_int)) (sa_nil)))))) (sss_nil))
    (sss_one (ss_ret (se_callC C_is_under tk (hr.mono (by decide)) (sa_cons (se_ix d_ix (se_var 0) (se_int)) (sa_cons (se_ix d_ix (se_var 1) (se_int)) (sa_nil))))))
theorem cal_is_before (B : Blts mg blts) (M : Facts K mg) (C_is_under : Cal P w K mg base "is_under" 1 2 f_is_under) (Fn : FunD K "is_before" "is_before" (defArgs s_is_before) (defBody s_is_before) (defScope s_is_before) [] [] f fd) (hm : mg "is_before" = some (.ref f)) : Cal P w K mg base "is_before" 2 2 f_is_before :=
  cal_mk (N := N_is_before) (ps := ["one", "other"]) Fn hm (fun _ _ _ _ _ _ us hl => match us, hl with | [_, _], _ => rfl) (ok_is_before B M C_is_under Fn)
theorem ok_tidied_part (B : Blts mg blts) (M : Facts K mg) (C_turn_at : Cal P w K mg base "turn_at" 4 3 f_turn_at) (C_is_under : Cal P w K mg base "is_under" 1 2 f_is_under) (C_share_of : Cal P w K mg base "share_of" 4 1 f_share_of) (C_is_before : Cal P w K mg base "is_before" 2 2 f_is_before) (Fn : FunD K "tidied_part" "tidied_part" (defArgs s_tidied_part) (defBody s_tidied_part) (defScope s_tidied_part) [] [] f fd) : FnOk P w K mg base (L2.CX P w) 5 f fd ["corners"] (spO K 1 f_tidied_part) :=
  have nd := (sc_tidied_part).nd
  okO_def (N := N_tidied_part) Fn sc_tidied_part rfl fun cdv A outer s H E hr tk hp =>
    ssso_cons (sso_lift (ss_setc (own := [("k", 4)]) rfl nd (sw_true rfl rfl rfl (by decide +kernel)) (blkOk_by (N := N_tidied_part) (sc := defScope s_tidied_part) (by decide +kernel)) (si_range1 (B.at 5) (sa_cons (se_blt d_len (B.at 4) (sa_cons (se_var 0) (sa_nil))) (sa_nil))) (tg_name 4) (fun _ _ _ _ _ => pg_name (i := 4) nd rfl (by first | exact Or.inl rfl | exact Or.inr rfl)) (fun _ _ _ _ _ => sif_one (st_bool (sw_or (st_cmp (d_ne hr.units) (se_ix d_ix (se_var 0) (se_var 4)) (se_ix d_ix (se_var 0) (se_op d_sub (se_var 4) (se_int))) (nomark _)) (sw_or1 (st_cmp (d_eq hr.units) (se_blt d_len (B.at 4) (sa_cons (se_var 0) (sa_nil))) (se_int) (nomark _)))))) (fun _ _ _ _ _ => se_ix d_ix (se_var 0) (se_var 4))))
    (ssso_cons (sso_lift (ss_set nd (se_blt d_len (B.at 4) (sa_cons (se_var 1) (sa_nil)))))
    (ssso_cons (sso_lift (ss_own nd (sa_nil)))
    (ssso_cons (sso_lift (ss_for hp rfl (si_range1 (B.at 5) (sa_cons (se_var 2) (sa_nil))) (pg_name (i := 4) nd rfl (by first | exact Or.inl rfl | exact Or.inr rfl)) (tg_name 4) (sss_one (ss_if (st_cmp (d_ne hr.units) (se_callC C_turn_at tk (hr.mono (by decide)) (sa_cons (se_ix d_ix (se_var 1) (se_op d_sub (se_var 4) (se_int))) (sa_cons (se_ix d_ix (se_var 1) (se_var 4)) (sa_cons (se_ix d_ix (se_var 1) (se_op d_mod (se_op d_add (se_var 4) (se_int)) (se_var 2))) (sa_nil))))) (se_gref rfl M.glo_NOUGHT M.tup_NOUGHT) (nomark _)) (sss_one (ss_app 3 (se_ix d_ix (se_var 1) (se_var 4)))) (sss_nil)))))
    (ssso_cons (sso_freeze 3 (sso_if (st_cmp (d_lt) (se_blt d_len (B.at 4) (sa_cons (se_var 3) (sa_nil))) (se_int) (nomark _)) (ssso_one (sso_retL (sa_nil))) (ssso_nil)))
    (ssso_cons (sso_lift (ss_freeze 3 (ss_if (st_val (se_callC C_is_under tk (hr.mono (by decide)) (sa_cons (se_callC C_share_of tk (hr.mono (by decide)) (sa_cons (se_var 3) (sa_nil))) (sa_cons (se_gref rfl M.glo_NOUGHT M.tup_NOUGHT) (sa_nil))))) (sss_one (ss_freeze 3 (ss_set nd (se_rev (se_var 3))))) (sss_nil))))
    (ssso_cons (sso_lift (ss_set nd (se_int)))
    (ssso_cons (sso_lift (ss_freeze 3 (ss_for hp rfl (si_range2 (B.at 5) (sa_cons (se_int) (sa_cons (se_blt d_len (B.at 4) (sa_cons (se_var 3) (sa_nil))) (sa_nil)))) (pg_name (i := 4) nd rfl (by first | exact Or.inl rfl | exact Or.inr rfl)) (tg_name 4) (sss_one (ss_freeze 3 (ss_if (st_val (se_callC C_is_before tk (hr.mono (by decide)) (sa_cons (se_ix d_ix (se_var 3) (se_var 4)) (sa_cons (se_ix d_ix (se_var 3) (se_var 5)) (sa_nil))))) (sss_one (ss_set nd (se_var 4))) (sss_nil)))))))
    (ssso_one (sso_freeze 3 (sso_retN (seo_addL (se_slice (se_var 3) (so_some (se_var 5)) (so_none)) (se_slice (se_var 3) (so_none) (so_some (se_var 5))))))))))))))
theorem cal_tidied_part (B : Blts mg blts) (M : Facts K mg) (C_turn_at : Cal P w K mg base "turn_at" 4 3 f_turn_at) (C_is_under : Cal P w K mg base "is_under" 1 2 f_is_under) (C_share_of : Cal P w K mg base "share_of" 4 1 f_share_of) (C_is_before : Cal P w K mg base "is_before" 2 2 f_is_before) (Fn : FunD K "tidied_part" "tidied_part" (defArgs s_tidied_part) (defBody s_tidied_part) (defScope s_tidied_part) [] [] f fd) (hm : mg "tidied_part" = some (.ref f)) : CalO P w K mg base "tidied_part" 5 1 f_tidied_part :=
  calO_mk (N := N_tidied_part) (ps := ["corners"]) Fn hm (fun _ _ _ _ _ _ us hl => match us, hl with | [_], _ => rfl) (ok_tidied_part B M C_turn_at C_is_under C_share_of C_is_before Fn)
theorem ok_both_of (B : Blts mg blts) (M : Facts K mg) (C_kept_side : Cal P w K mg base "kept_side" 5 2 f_kept_side) (C_turn_at : Cal P w K mg base "turn_at" 4 3 f_turn_at) (C_tidied_part : CalO P w K mg base "tidied_part" 5 1 f_tidied_part) (Fn : FunD K "both_of" "both_of" (defArgs s_both_of) (defBody s_both_of) (defScope s_both_of) [] [] f fd) : FnOk P w K mg base (L2.CX P w) 6 f fd ["one", "other"] (spO K 2 f_both_of) :=
  have nd := (sc_both_of).nd
  okO_def (N := N_both_of) Fn sc_both_of rfl fun cdv A outer s H E hr tk hp =>
    ssso_cons (sso_if (st_bool (sw_or (st_cmp (d_eq hr.units) (se_var 0) (se_lst (sa_nil)) (nomark _)) (sw_or1 (st_cmp (d_eq hr.units) (se_var 1) (se_lst (sa_nil)) (nomark _))))) (ssso_one (sso_retL (sa_nil))) (ssso_nil))
    (ssso_cons (sso_lift (ss_set nd (se_var 0)))
    (ssso_cons (sso_lift (ss_for hp rfl (si_range1 (B.at 5) (sa_cons (se_blt d_len (B.at 4) (sa_cons (se_var 1) (sa_nil))) (sa_nil))) (pg_name (i := 3) nd rfl (by first | exact Or.inl rfl | exact Or.inr rfl)) (tg_name 3) (sss_cons (ss_set nd (se_ix d_ix (se_var 1) (se_var 3)))
     (sss_cons (ss_set nd (se_ix d_ix (se_var 1) (se_op d_mod (se_op d_add (se_var 3) (se_int)) (se_blt d_len (B.at 4) (sa_cons (se_var 1) (sa_nil))))))
     (sss_one (ss_set nd (se_callC C_kept_side tk (hr.mono (by decide)) (sa_cons (se_var 2) (sa_cons (se_comp (own := [("place", 6)]) rfl nd (blkOk_by (N := N_both_of) (sc := defScope s_both_of) (by decide +kernel)) (si_any (se_var 2)) (tg_name 6) (fun _ _ _ _ _ => pg_name (i := 6) nd rfl (by first | exact Or.inl rfl | exact Or.inr rfl)) (fun _ _ _ _ _ => sif_nil) (fun _ _ _ _ _ => se_callC C_turn_at takes0 (hr.mono (by decide)) (sa_cons (se_var 4) (sa_cons (se_var 5) (sa_cons (se_var 6) (sa_nil)))))) (sa_nil))))))))))
    (ssso_one (sso_retN (seo_call C_tidied_part tk (hr.mono (by decide)) (sa_cons (se_var 2) (sa_nil)))))))
theorem cal_both_of (B : Blts mg blts) (M : Facts K mg) (C_kept_side : Cal P w K mg base "kept_side" 5 2 f_kept_side) (C_turn_at : Cal P w K mg base "turn_at" 4 3 f_turn_at) (C_tidied_part : CalO P w K mg base "tidied_part" 5 1 f_tidied_part) (Fn : FunD K "both_of" "both_of" (defArgs s_both_of) (defBody s_both_of) (defScope s_both_of) [] [] f fd) (hm : mg "both_of" = some (.ref f)) : CalO P w K mg base "both_of" 6 2 f_both_of :=
  calO_mk (N := N_both_of) (ps := ["one", "other"]) Fn hm (fun _ _ _ _ _ _ us hl => match us, hl with | [_, _], _ => rfl) (ok_both_of B M C_kept_side C_turn_at C_tidied_part Fn)
theorem ok__law_draw (B : Blts mg blts) (M : Facts K mg)  (Fn : FunD K "_law_draw" "_law_draw" (defArgs s__law_draw) (defBody s__law_draw) (defScope s__law_draw) [] [] f fd) : FnOk P w K mg base (L2.CX P w) 1 f fd ["_law_cell", "_law_k", "_law_many"] (spD K 3 f__law_draw) :=
  have nd := (sc__law_draw).nd
  ok_def (N := N__law_draw) Fn sc__law_draw rfl fun cdv A outer s H E hr tk hp =>
    sss_cons (ss_if (st_cmp (d_ge) (se_var 0) (se_op d_pow (se_int) (se_int)) (nomark _)) (sss_cons (ss_set nd (se_var 0))
     (sss_cons (ss_for hp rfl (si_range1 (B.at 5) (sa_cons (se_var 1) (sa_nil))) (pg_name (i := 4) nd rfl (by first | exact Or.inl rfl | exact Or.inr rfl)) (tg_name 4) (sss_one (ss_set nd (se_op d_div (se_var 3) (se_op d_pow (se_int) (se_int))))))
     (sss_one (ss_if (st_cmp (d_gt) (se_var 3) (se_int) (nomark _)) (sss_one (ss_ret (se_op d_mod (se_op d_mod (se_var 3) (se_op d_pow (se_int) (se_int))) (se_var 2)))) (sss_nil))))) (sss_nil))
    (sss_cons (ss_set nd (se_op d_mod (se_op d_mul (se_op d_add (se_op d_add (se_op d_add (se_op d_mod (se_var 0) (se_int)) (se_op d_mul (se_op d_mul (se_int) (se_var 1)) (se_var 1))) (se_op d_mul (se_int) (se_var 1))) (se_int)) (se_int)) (se_int)))
    (sss_cons (ss_set nd (se_op d_mod (se_op d_add (se_op d_add (se_op d_mul (se_var 5) (se_var 5)) (se_op d_mul (se_int) (se_var 1))) (se_int)) (se_int)))
    (sss_one (ss_ret (se_op d_mod (se_op d_mod (se_op d_mul (se_var 5) (se_var 5)) (se_int)) (se_var 2))))))
theorem cal__law_draw (B : Blts mg blts) (M : Facts K mg)  (Fn : FunD K "_law_draw" "_law_draw" (defArgs s__law_draw) (defBody s__law_draw) (defScope s__law_draw) [] [] f fd) (hm : mg "_law_draw" = some (.ref f)) : Cal P w K mg base "_law_draw" 1 3 f__law_draw :=
  cal_mk (N := N__law_draw) (ps := ["_law_cell", "_law_k", "_law_many"]) Fn hm (fun _ _ _ _ _ _ us hl => match us, hl with | [_, _, _], _ => rfl) (ok__law_draw B M  Fn)
theorem ok__law_low (B : Blts mg blts) (M : Facts K mg)  (Fn : FunD K "_law_low" "_law_low" (defArgs s__law_low) (defBody s__law_low) (defScope s__law_low) [] [] f fd) : FnOk P w K mg base (L2.CX P w) 1 f fd ["_law_top", "_law_bottom"] (spD K 2 f__law_low) :=
  have nd := (sc__law_low).nd
  ok_def (N := N__law_low) Fn sc__law_low rfl fun cdv A outer s H E hr tk hp =>
    sss_cons (ss_set nd (se_blt d_abs (B.at 3) (sa_cons (se_var 0) (sa_nil))))
    (sss_cons (ss_set nd (se_var 1))
    (sss_cons (ss_while hp (st_cmp (d_ne hr.units) (se_var 3) (se_int) (nomark _)) (sss_one (ss_par rfl nd (sa_cons (se_var 3) (sa_cons (se_op d_mod (se_var 2) (se_var 3)) (sa_nil))))))
    (sss_one (ss_ret (se_tup (sa_cons (se_op d_div (se_var 0) (se_var 2)) (sa_cons (se_op d_div (se_var 1) (se_var 2)) (sa_nil))))))))
theorem cal__law_low (B : Blts mg blts) (M : Facts K mg)  (Fn : FunD K "_law_low" "_law_low" (defArgs s__law_low) (defBody s__law_low) (defScope s__law_low) [] [] f fd) (hm : mg "_law_low" = some (.ref f)) : Cal P w K mg base "_law_low" 1 2 f__law_low :=
  cal_mk (N := N__law_low) (ps := ["_law_top", "_law_bottom"]) Fn hm (fun _ _ _ _ _ _ us hl => match us, hl with | [_, _], _ => rfl) (ok__law_low B M  Fn)
theorem ok__law_add (B : Blts mg blts) (M : Facts K mg) (C__law_low : Cal P w K mg base "_law_low" 1 2 f__law_low) (Fn : FunD K "_law_add" "_law_add" (defArgs s__law_add) (defBody s__law_add) (defScope s__law_add) [] [] f fd) : FnOk P w K mg base (L2.CX P w) 2 f fd ["_law_one", "_law_other"] (spD K 2 f__law_add) :=
  have nd := (sc__law_add).nd
  ok_def (N := N__law_add) Fn sc__law_add rfl fun cdv A outer s H E hr tk hp =>
    sss_one (ss_ret (se_callC C__law_low tk (hr.mono (by decide)) (sa_cons (se_op d_add (se_op d_mul (se_ix d_ix (se_var 0) (se_int)) (se_ix d_ix (se_var 1) (se_int))) (se_op d_mul (se_ix d_ix (se_var 1) (se_int)) (se_ix d_ix (se_var 0) (se_int)))) (sa_cons (se_op d_mul (se_ix d_ix (se_var 0) (se_int)) (se_ix d_ix (se_var 1) (se_int))) (sa_nil)))))
theorem cal__law_add (B : Blts mg blts) (M : Facts K mg) (C__law_low : Cal P w K mg base "_law_low" 1 2 f__law_low) (Fn : FunD K "_law_add" "_law_add" (defArgs s__law_add) (defBody s__law_add) (defScope s__law_add) [] [] f fd) (hm : mg "_law_add" = some (.ref f)) : Cal P w K mg base "_law_add" 2 2 f__law_add :=
  cal_mk (N := N__law_add) (ps := ["_law_one", "_law_other"]) Fn hm (fun _ _ _ _ _ _ us hl => match us, hl with | [_, _], _ => rfl) (ok__law_add B M C__law_low Fn)
theorem ok__law_under (B : Blts mg blts) (M : Facts K mg)  (Fn : FunD K "_law_under" "_law_under" (defArgs s__law_under) (defBody s__law_under) (defScope s__law_under) [] [] f fd) : FnOk P w K mg base (L2.CX P w) 1 f fd ["_law_one", "_law_other"] (spD K 2 f__law_under) :=
  have nd := (sc__law_under).nd
  ok_def (N := N__law_under) Fn sc__law_under rfl fun cdv A outer s H E hr tk hp =>
    sss_one (ss_ret (se_cmp (d_lt) (se_op d_mul (se_ix d_ix (se_var 0) (se_int)) (se_ix d_ix (se_var 1) (se_int))) (se_op d_mul (se_ix d_ix (se_var 1) (se_int)) (se_ix d_ix (se_var 0) (se_int))) (nomark _)))
theorem cal__law_under (B : Blts mg blts) (M : Facts K mg)  (Fn : FunD K "_law_under" "_law_under" (defArgs s__law_under) (defBody s__law_under) (defScope s__law_under) [] [] f fd) (hm : mg "_law_under" = some (.ref f)) : Cal P w K mg base "_law_under" 1 2 f__law_under :=
  cal_mk (N := N__law_under) (ps := ["_law_one", "_law_other"]) Fn hm (fun _ _ _ _ _ _ us hl => match us, hl with | [_, _], _ => rfl) (ok__law_under B M  Fn)
theorem ok__law_box (B : Blts mg blts) (M : Facts K mg) (C__law_low : Cal P w K mg base "_law_low" 1 2 f__law_low) (C__law_draw : Cal P w K mg base "_law_draw" 1 3 f__law_draw) (C__law_add : Cal P w K mg base "_law_add" 2 2 f__law_add) (Fn : FunD K "_law_box" "_law_box" (defArgs s__law_box) (defBody s__law_box) (defScope s__law_box) [] [] f fd) : FnOk P w K mg base (L2.CX P w) 3 f fd ["_law_cell", "_law_k"] (spD K 2 f__law_box) :=
  have nd := (sc__law_box).nd
  ok_def (N := N__law_box) Fn sc__law_box rfl fun cdv A outer s H E hr tk hp =>
    sss_cons (ss_set nd (se_callC C__law_low tk (hr.mono (by decide)) (sa_cons (se_op d_sub (se_callC C__law_draw tk (hr.mono (by decide)) (sa_cons (se_var 0) (sa_cons (se_var 1) (sa_cons (se_int) (sa_nil))))) (se_int)) (sa_cons (se_op d_add (se_int) (se_callC C__law_draw tk (hr.mono (by decide)) (sa_cons (se_var 0) (sa_cons (se_op d_add (se_var 1) (se_int)) (sa_cons (se_int) (sa_nil)))))) (sa_nil)))))
    (sss_cons (ss_set nd (se_callC C__law_low tk (hr.mono (by decide)) (sa_cons (se_op d_add (se_int) (se_callC C__law_draw tk (hr.mono (by decide)) (sa_cons (se_var 0) (sa_cons (se_op d_add (se_var 1) (se_int)) (sa_cons (se_int) (sa_nil)))))) (sa_cons (se_op d_add (se_int) (se_callC C__law_draw tk (hr.mono (by decide)) (sa_cons (se_var 0) (sa_cons (se_op d_add (se_var 1) (se_int)) (sa_cons (se_int) (sa_nil)))))) (sa_nil)))))
    (sss_one (ss_ret (se_tup (sa_cons (se_var 2) (sa_cons (se_callC C__law_add tk (hr.mono (by decide)) (sa_cons (se_var 2) (sa_cons (se_var 3) (sa_nil)))) (sa_nil)))))))
theorem cal__law_box (B : Blts mg blts) (M : Facts K mg) (C__law_low : Cal P w K mg base "_law_low" 1 2 f__law_low) (C__law_draw : Cal P w K mg base "_law_draw" 1 3 f__law_draw) (C__law_add : Cal P w K mg base "_law_add" 2 2 f__law_add) (Fn : FunD K "_law_box" "_law_box" (defArgs s__law_box) (defBody s__law_box) (defScope s__law_box) [] [] f fd) (hm : mg "_law_box" = some (.ref f)) : Cal P w K mg base "_law_box" 3 2 f__law_box :=
  cal_mk (N := N__law_box) (ps := ["_law_cell", "_law_k"]) Fn hm (fun _ _ _ _ _ _ us hl => match us, hl with | [_, _], _ => rfl) (ok__law_box B M C__law_low C__law_draw C__law_add Fn)
theorem ok__law_corners (B : Blts mg blts) (M : Facts K mg) (C__law_under : Cal P w K mg base "_law_under" 1 2 f__law_under) (Fn : FunD K "_law_corners" "_law_corners" (defArgs s__law_corners) (defBody s__law_corners) (defScope s__law_corners) [] [] f fd) : FnOk P w K mg base (L2.CX P w) 2 f fd ["_law_wide", "_law_high"] (spD K 2 f__law_corners) :=
  have nd := (sc__law_corners).nd
  ok_def (N := N__law_corners) Fn sc__law_corners rfl fun cdv A outer s H E hr tk hp =>
    sss_cons (ss_if (st_bool (sw_or (st_not (st_val (se_callC C__law_under tk (hr.mono (by decide)) (sa_cons (se_ix d_ix (se_var 0) (se_int)) (sa_cons (se_ix d_ix (se_var 0) (se_int)) (sa_nil)))))) (sw_or1 (st_not (st_val (se_callC C__law_under tk (hr.mono (by decide)) (sa_cons (se_ix d_ix (se_var 1) (se_int)) (sa_cons (se_ix d_ix (se_var 1) (se_int)) (sa_nil))))))))) (sss_one (ss_ret (se_lst (sa_nil)))) (sss_nil))
    (sss_one (ss_ret (se_lst (sa_cons (se_tup (sa_cons (se_ix d_ix (se_var 0) (se_int)) (sa_cons (se_ix d_ix (se_var 1) (se_int)) (sa_nil)))) (sa_cons (se_tup (sa_cons (se_ix d_ix (se_var 0) (se_int)) (sa_cons (se_ix d_ix (se_var 1) (se_int)) (sa_nil)))) (sa_cons (se_tup (sa_cons (se_ix d_ix (se_var 0) (se_int)) (sa_cons (se_ix d_ix (se_var 1) (se_int)) (sa_nil)))) (sa_cons (se_tup (sa_cons (se_ix d_ix (se_var 0) (se_int)) (sa_cons (se_ix d_ix (se_var 1) (se_int)) (sa_nil)))) (sa_nil))))))))
theorem cal__law_corners (B : Blts mg blts) (M : Facts K mg) (C__law_under : Cal P w K mg base "_law_under" 1 2 f__law_under) (Fn : FunD K "_law_corners" "_law_corners" (defArgs s__law_corners) (defBody s__law_corners) (defScope s__law_corners) [] [] f fd) (hm : mg "_law_corners" = some (.ref f)) : Cal P w K mg base "_law_corners" 2 2 f__law_corners :=
  cal_mk (N := N__law_corners) (ps := ["_law_wide", "_law_high"]) Fn hm (fun _ _ _ _ _ _ us hl => match us, hl with | [_, _], _ => rfl) (ok__law_corners B M C__law_under Fn)
theorem ok__law_both (B : Blts mg blts) (M : Facts K mg) (C__law_under : Cal P w K mg base "_law_under" 1 2 f__law_under) (Fn : FunD K "_law_both" "_law_both" (defArgs s__law_both) (defBody s__law_both) (defScope s__law_both) [] [] f fd) : FnOk P w K mg base (L2.CX P w) 2 f fd ["_law_one", "_law_other"] (spD K 2 f__law_both) :=
  have nd := (sc__law_both).nd
  ok_def (N := N__law_both) Fn sc__law_both rfl fun cdv A outer s H E hr tk hp =>
    sss_cons (ss_set nd (se_ix d_ix (se_var 0) (se_int)))
    (sss_cons (ss_if (st_val (se_callC C__law_under tk (hr.mono (by decide)) (sa_cons (se_ix d_ix (se_var 0) (se_int)) (sa_cons (se_ix d_ix (se_var 1) (se_int)) (sa_nil))))) (sss_one (ss_set nd (se_ix d_ix (se_var 1) (se_int)))) (sss_nil))
    (sss_cons (ss_if (st_val (se_callC C__law_under tk (hr.mono (by decide)) (sa_cons (se_ix d_ix (se_var 0) (se_int)) (sa_cons (se_ix d_ix (se_var 1) (se_int)) (sa_nil))))) (sss_one (ss_ret (se_tup (sa_cons (se_var 2) (sa_cons (se_ix d_ix (se_var 0) (se_int)) (sa_nil)))))) (sss_nil))
    (sss_one (ss_ret (se_tup (sa_cons (se_var 2) (sa_cons (se_ix d_ix (se_var 1) (se_int)) (sa_nil))))))))
theorem cal__law_both (B : Blts mg blts) (M : Facts K mg) (C__law_under : Cal P w K mg base "_law_under" 1 2 f__law_under) (Fn : FunD K "_law_both" "_law_both" (defArgs s__law_both) (defBody s__law_both) (defScope s__law_both) [] [] f fd) (hm : mg "_law_both" = some (.ref f)) : Cal P w K mg base "_law_both" 2 2 f__law_both :=
  cal_mk (N := N__law_both) (ps := ["_law_one", "_law_other"]) Fn hm (fun _ _ _ _ _ _ us hl => match us, hl with | [_, _], _ => rfl) (ok__law_both B M C__law_under Fn)
theorem ok__law_alike (B : Blts mg blts) (M : Facts K mg)  (Fn : FunD K "_law_alike" "_law_alike" (defArgs s__law_alike) (defBody s__law_alike) (defScope s__law_alike) [] [] f fd) : FnOk P w K mg base (L2.CX P w) 1 f fd ["_law_found", "_law_due"] (spD K 2 f__law_alike) :=
  have nd := (sc__law_alike).nd
  ok_def (N := N__law_alike) Fn sc__law_alike rfl fun cdv A outer s H E hr tk hp =>
    sss_cons (ss_if (st_bool (sw_or (st_not (st_val (se_blt d_isi (B.at 1) (sa_cons (se_var 0) (sa_cons (se_ty (B.at 8)) (sa_nil)))))) (sw_or1 (st_cmp (d_ne hr.units) (se_var 0) (se_var 1) (nomark _))))) (sss_one (ss_ret (se_bl))) (sss_nil))
    (sss_cons (ss_for hp rfl (si_any (se_var 0)) (pg_name (i := 2) nd rfl (by first | exact Or.inl rfl | exact Or.inr rfl)) (tg_name 2) (sss_cons (ss_if (st_bool (sw_or (st_not (st_val (se_blt d_isi (B.at 1) (sa_cons (se_var 2) (sa_cons (se_ty (B.at 7)) (sa_nil)))))) (sw_or (st_not (st_val (se_blt d_isi (B.at 1) (sa_cons (se_ix d_ix (se_var 2) (se_int)) (sa_cons (se_ty (B.at 7)) (sa_nil)))))) (sw_or1 (st_not (st_val (se_blt d_isi (B.at 1) (sa_cons (se_ix d_ix (se_var 2) (se_int)) (sa_cons (se_ty (B.at 7)) (sa_nil)))))))))) (sss_one (ss_ret (se_bl))) (sss_nil))
     (sss_one (ss_for hp rfl (si_any (se_op d_add (se_ix d_ix (se_var 2) (se_int)) (se_ix d_ix (se_var 2) (se_int)))) (pg_name (i := 3) nd rfl (by first | exact Or.inl rfl | exact Or.inr rfl)) (tg_name 3) (sss_one (ss_if (st_bool (sw_or (st_not (st_val (se_blt d_isi (B.at 1) (sa_cons (se_var 3) (sa_cons (se_ty (B.at 2)) (sa_nil)))))) (sw_or1 (st_val (se_blt d_isi (B.at 1) (sa_cons (se_var 3) (sa_cons (se_ty (B.at 0)) (sa_nil)))))))) (sss_one (ss_ret (se_bl))) (sss_nil)))))))
    (sss_one (ss_ret (se_bl))))
theorem cal__law_alike (B : Blts mg blts) (M : Facts K mg)  (Fn : FunD K "_law_alike" "_law_alike" (defArgs s__law_alike) (defBody s__law_alike) (defScope s__law_alike) [] [] f fd) (hm : mg "_law_alike" = some (.ref f)) : Cal P w K mg base "_law_alike" 1 2 f__law_alike :=
  cal_mk (N := N__law_alike) (ps := ["_law_found", "_law_due"]) Fn hm (fun _ _ _ _ _ _ us hl => match us, hl with | [_, _], _ => rfl) (ok__law_alike B M  Fn)
theorem ok_law (B : Blts mg blts) (M : Facts K mg) (C__law_box : Cal P w K mg base "_law_box" 3 2 f__law_box) (C__law_draw : Cal P w K mg base "_law_draw" 1 3 f__law_draw) (C__law_add : Cal P w K mg base "_law_add" 2 2 f__law_add) (C__law_corners : Cal P w K mg base "_law_corners" 2 2 f__law_corners) (C__law_both : Cal P w K mg base "_law_both" 2 2 f__law_both) (C_both_of : CalO P w K mg base "both_of" 6 2 f_both_of) (C__law_alike : Cal P w K mg base "_law_alike" 1 2 f__law_alike) (Fn : FunD K "law" "law" (defArgs s_law) (defBody s_law) (defScope s_law) [] [] f fd) : FnOk P w K mg base (L2.CX P w) 7 f fd ["_law_script"] (spD K 1 f_law) :=
  have nd := (sc_law).nd
  ok_def (N := N_law) Fn sc_law rfl fun cdv A outer s H E hr tk hp =>
    sss_cons (ss_for hp rfl (si_any (se_op d_add (se_lst (sa_cons (se_int) (sa_nil))) (se_slice (se_var 0) (so_none) (so_some (se_int))))) (pg_name (i := 1) nd rfl (by first | exact Or.inl rfl | exact Or.inr rfl)) (tg_name 1) (sss_cons (ss_ownT nd (sao_n (seo_lst (sa_cons (se_callC C__law_box tk (hr.mono (by decide)) (sa_cons (se_var 1) (sa_cons (se_int) (sa_nil)))) (sa_cons (se_callC C__law_box tk (hr.mono (by decide)) (sa_cons (se_var 1) (sa_cons (se_int) (sa_nil)))) (sa_nil)))) (sao_n (seo_lst (sa_cons (se_callC C__law_box tk (hr.mono (by decide)) (sa_cons (se_var 1) (sa_cons (se_int) (sa_nil)))) (sa_cons (se_callC C__law_box tk (hr.mono (by decide)) (sa_cons (se_var 1) (sa_cons (se_int) (sa_nil)))) (sa_nil)))) (sao_nil))))
     (sss_cons (ss_if (st_cmp (d_eq hr.units) (se_callC C__law_draw tk (hr.mono (by decide)) (sa_cons (se_var 1) (sa_cons (se_int) (sa_cons (se_int) (sa_nil))))) (se_int) (nomark _)) (sss_cons (ss_set nd (se_peekN 2 (se_ix d_ix (se_ix d_ix (se_ix d_ix (se_var 2) (se_int)) (se_int)) (se_int))))
      (sss_one (ss_putT 2 1 (se_tup (sa_cons (se_var 3) (sa_cons (se_callC C__law_add tk (hr.mono (by decide)) (sa_cons (se_var 3) (sa_cons (se_tup (sa_cons (se_int) (sa_cons (se_int) (sa_nil)))) (sa_nil)))) (sa_nil)))) (se_int)))) (sss_nil))
     (sss_cons (ss_freeze 2 (ss_set nd (se_callC C__law_corners tk (hr.mono (by decide)) (sa_cons (se_ix d_ix (se_ix d_ix (se_var 2) (se_int)) (se_int)) (sa_cons (se_ix d_ix (se_ix d_ix (se_var 2) (se_int)) (se_int)) (sa_nil))))))
     (sss_cons (ss_freeze 2 (ss_set nd (se_callC C__law_corners tk (hr.mono (by decide)) (sa_cons (se_ix d_ix (se_ix d_ix (se_var 2) (se_int)) (se_int)) (sa_cons (se_ix d_ix (se_ix d_ix (se_var 2) (se_int)) (se_int)) (sa_nil))))))
     (sss_cons (ss_freeze 2 (ss_set nd (se_callC C__law_corners tk (hr.mono (by decide)) (sa_cons (se_callC C__law_both tk (hr.mono (by decide)) (sa_cons (se_ix d_ix (se_ix d_ix (se_var 2) (se_int)) (se_int)) (sa_cons (se_ix d_ix (se_ix d_ix (se_var 2) (se_int)) (se_int)) (sa_nil)))) (sa_cons (se_callC C__law_both tk (hr.mono (by decide)) (sa_cons (se_ix d_ix (se_ix d_ix (se_var 2) (se_int)) (se_int)) (sa_cons (se_ix d_ix (se_ix d_ix (se_var 2) (se_int)) (se_int)) (sa_nil)))) (sa_nil))))))
     (sss_cons (ss_set nd (se_lst (sa_cons (se_bty d_list (B.at 8) (sa_cons (se_var 4) (sa_nil))) (sa_cons (se_bty d_list (B.at 8) (sa_cons (se_var 5) (sa_nil))) (sa_nil)))))
     (sss_cons (ss_setO C_both_of tk (hr.mono (by decide)) nd (sa_cons (se_ix d_ix (se_var 7) (se_int)) (sa_cons (se_ix d_ix (se_var 7) (se_int)) (sa_nil))))
     (sss_cons (ss_if (st_bool (sw_or (st_not (st_val (se_peek 8 (se_callC C__law_alike tk (hr.mono (by decide)) (sa_cons (se_var 8) (sa_cons (se_var 6) (sa_nil))))))) (sw_or (st_cmp (d_ne hr.units) (se_var 7) (se_lst (sa_cons (se_var 4) (sa_cons (se_var 5) (sa_nil)))) (nomark _)) (sw_or1 (st_not (st_val (se_callC C__law_alike tk (hr.mono (by decide)) (sa_cons (se_callO C_both_of tk (hr.mono (by decide)) (sa_cons (se_var 5) (sa_cons (se_var 4) (sa_nil)))) (sa_cons (se_var 6) (sa_nil)))))))))) (sss_one (ss_ret (se_bl))) (sss_nil))
     (sss_cons (ss_app 8 (se_tup (sa_cons (se_tup (sa_cons (se_int) (sa_cons (se_int) (sa_nil)))) (sa_cons (se_tup (sa_cons (se_int) (sa_cons (se_int) (sa_nil)))) (sa_nil)))))
     (sss_cons (ss_if (st_cmp (d_ne hr.units) (se_var 7) (se_lst (sa_cons (se_var 4) (sa_cons (se_var 5) (sa_nil)))) (nomark _)) (sss_one (ss_ret (se_bl))) (sss_nil))
     (sss_cons (ss_if (st_bool (sw_or (st_cmp (d_ne hr.units) (se_callO C_both_of tk (hr.mono (by decide)) (sa_cons (se_var 4) (sa_cons (se_var 5) (sa_nil)))) (se_var 6) (nomark _)) (sw_or1 (st_not (st_val (se_callC C__law_alike tk (hr.mono (by decide)) (sa_cons (se_callO C_both_of tk (hr.mono (by decide)) (sa_cons (se_var 4) (sa_cons (se_bty d_list (B.at 8) (sa_cons (se_var 4) (sa_nil))) (sa_nil)))) (sa_cons (se_var 4) (sa_nil))))))))) (sss_one (ss_ret (se_bl))) (sss_nil))
     (sss_one (ss_if (st_bool (sw_or (st_cmp (d_ne hr.units) (se_callO C_both_of tk (hr.mono (by decide)) (sa_cons (se_var 4) (sa_cons (se_lst (sa_nil)) (sa_nil)))) (se_lst (sa_nil)) (nomark _)) (sw_or1 (st_cmp (d_ne hr.units) (se_callO C_both_of tk (hr.mono (by decide)) (sa_cons (se_lst (sa_nil)) (sa_cons (se_var 5) (sa_nil)))) (se_lst (sa_nil)) (nomark _))))) (sss_one (ss_ret (se_bl))) (sss_nil)))))))))))))))
    (sss_one (ss_ret (se_cmp (d_eq hr.units) (se_callO C_both_of tk (hr.mono (by decide)) (sa_cons (se_lst (sa_nil)) (sa_cons (se_lst (sa_nil)) (sa_nil)))) (se_lst (sa_nil)) (nomark _))))
end
/-! ### the head -/
def d_is_whole : He.DefD := ⟨("is_whole", none), "is_whole", "is_whole", defArgs s_is_whole, defBody s_is_whole, defScope s_is_whole, [], []⟩
def d_divisor_of : He.DefD := ⟨("divisor_of", none), "divisor_of", "divisor_of", defArgs s_divisor_of, defBody s_divisor_of, defScope s_divisor_of, [], []⟩
def d_ratio_of : He.DefD := ⟨("ratio_of", none), "ratio_of", "ratio_of", defArgs s_ratio_of, defBody s_ratio_of, defScope s_ratio_of, [], []⟩
def d_ratio_sum : He.DefD := ⟨("ratio_sum", none), "ratio_sum", "ratio_sum", defArgs s_ratio_sum, defBody s_ratio_sum, defScope s_ratio_sum, [], []⟩
def d_ratio_less : He.DefD := ⟨("ratio_less", none), "ratio_less", "ratio_less", defArgs s_ratio_less, defBody s_ratio_less, defScope s_ratio_less, [], []⟩
def d_ratio_times : He.DefD := ⟨("ratio_times", none), "ratio_times", "ratio_times", defArgs s_ratio_times, defBody s_ratio_times, defScope s_ratio_times, [], []⟩
def d_ratio_by : He.DefD := ⟨("ratio_by", none), "ratio_by", "ratio_by", defArgs s_ratio_by, defBody s_ratio_by, defScope s_ratio_by, [], []⟩
def d_is_under : He.DefD := ⟨("is_under", none), "is_under", "is_under", defArgs s_is_under, defBody s_is_under, defScope s_is_under, [], []⟩
def d_share_of : He.DefD := ⟨("share_of", none), "share_of", "share_of", defArgs s_share_of, defBody s_share_of, defScope s_share_of, [], []⟩
def d_turn_at : He.DefD := ⟨("turn_at", none), "turn_at", "turn_at", defArgs s_turn_at, defBody s_turn_at, defScope s_turn_at, [], []⟩
def d_between : He.DefD := ⟨("between", none), "between", "between", defArgs s_between, defBody s_between, defScope s_between, [], []⟩
def d_kept_side : He.DefD := ⟨("kept_side", none), "kept_side", "kept_side", defArgs s_kept_side, defBody s_kept_side, defScope s_kept_side, [], []⟩
def d_is_before : He.DefD := ⟨("is_before", none), "is_before", "is_before", defArgs s_is_before, defBody s_is_before, defScope s_is_before, [], []⟩
def d_tidied_part : He.DefD := ⟨("tidied_part", none), "tidied_part", "tidied_part", defArgs s_tidied_part, defBody s_tidied_part, defScope s_tidied_part, [], []⟩
def d_both_of : He.DefD := ⟨("both_of", none), "both_of", "both_of", defArgs s_both_of, defBody s_both_of, defScope s_both_of, [], []⟩
def d__law_draw : He.DefD := ⟨("_law_draw", none), "_law_draw", "_law_draw", defArgs s__law_draw, defBody s__law_draw, defScope s__law_draw, [], []⟩
def d__law_low : He.DefD := ⟨("_law_low", none), "_law_low", "_law_low", defArgs s__law_low, defBody s__law_low, defScope s__law_low, [], []⟩
def d__law_add : He.DefD := ⟨("_law_add", none), "_law_add", "_law_add", defArgs s__law_add, defBody s__law_add, defScope s__law_add, [], []⟩
def d__law_under : He.DefD := ⟨("_law_under", none), "_law_under", "_law_under", defArgs s__law_under, defBody s__law_under, defScope s__law_under, [], []⟩
def d__law_box : He.DefD := ⟨("_law_box", none), "_law_box", "_law_box", defArgs s__law_box, defBody s__law_box, defScope s__law_box, [], []⟩
def d__law_corners : He.DefD := ⟨("_law_corners", none), "_law_corners", "_law_corners", defArgs s__law_corners, defBody s__law_corners, defScope s__law_corners, [], []⟩
def d__law_both : He.DefD := ⟨("_law_both", none), "_law_both", "_law_both", defArgs s__law_both, defBody s__law_both, defScope s__law_both, [], []⟩
def d__law_alike : He.DefD := ⟨("_law_alike", none), "_law_alike", "_law_alike", defArgs s__law_alike, defBody s__law_alike, defScope s__law_alike, [], []⟩
def d_law : He.DefD := ⟨("law", none), "law", "law", defArgs s_law, defBody s_law, defScope s_law, [], []⟩
def fn : List He.DefD := [d_is_whole, d_divisor_of, d_ratio_of, d_ratio_sum, d_ratio_less, d_ratio_times, d_ratio_by, d_is_under, d_share_of, d_turn_at, d_between, d_kept_side, d_is_before, d_tidied_part, d_both_of, d__law_draw, d__law_low, d__law_add, d__law_under, d__law_box, d__law_corners, d__law_both, d__law_alike, d_law]
def fa : List He.Fa := [.glo "is_whole", .glo "divisor_of", .glo "ratio_of", .glo "ratio_sum", .glo "ratio_less", .glo "ratio_times", .glo "ratio_by", .glo "is_under", .glo "share_of", .glo "turn_at", .glo "between", .glo "kept_side", .glo "is_before", .glo "tidied_part", .glo "both_of", .glo "_law_draw", .glo "_law_low", .glo "_law_add", .glo "_law_under", .glo "_law_box", .glo "_law_corners", .glo "_law_both", .glo "_law_alike", .glo "law", .free "bool", .free "isinstance", .free "int", .free "abs", .free "len", .free "range", .free "zip", .free "tuple", .free "list", .glo "NoNumber", .glo "NOUGHT", .exc "NoNumber"]
abbrev Rw : PySem.W.OpenRow := PySem.W.OpenLaw.row PySem.Challenge.rw_dialyard_k72_boxes_together
def exF : PySem.W.Frag → Bool := fun K => exB xks xcs K && (He.tupB K "NOUGHT" [.int 0, .int 1])
abbrev hk : PySem.W.Hook := hookE 4 fa fn exF
def ob (s : PySem.W.SharedT) : He.AlD := obsEG 4 fa fn exF (HandSHeadRun.getT s)
theorem ob_eq (s : PySem.W.SharedT) : ob s = hk.obs s.abs := obsEG_eq (HandSHeadRun.getT_eq s)
def loose0 : List PySem.Str := ["YardError", "NoNumber", "is_whole", "divisor_of", "ratio_of", "ratio_sum", "ratio_less", "ratio_times", "ratio_by", "is_under", "NOUGHT", "share_of", "turn_at", "between", "kept_side", "is_before", "tidied_part", "both_of", "_law_cell_at", "_law_draw", "_law_low", "_law_add", "_law_less", "_law_mul", "_law_under", "_law_box", "_law_corners", "_law_both", "_law_alike"]
def loose : List PySem.Str := loose0
theorem run (w : World) : HandSHeadRun.RunEq Rw (PySem.W.view Rw.prog [33]) hk ob 20000 loose w := by
  intro os
  kernel_rfl
theorem blts_ok {K : PySem.W.Frag} {h : Heap} {mg : Str → Option Value} (X : K.In h) (G : h.Ns mainGlobals mg) (c : He.SaysD fa fn K) : Blts mg blts := by
  intro i x e
  match i, e with
  | 0, e => cases e; exact He.free_ok X G (c.fact 24 (f := .free "bool") rfl)
  | 1, e => cases e; exact He.free_ok X G (c.fact 25 (f := .free "isinstance") rfl)
  | 2, e => cases e; exact He.free_ok X G (c.fact 26 (f := .free "int") rfl)
  | 3, e => cases e; exact He.free_ok X G (c.fact 27 (f := .free "abs") rfl)
  | 4, e => cases e; exact He.free_ok X G (c.fact 28 (f := .free "len") rfl)
  | 5, e => cases e; exact He.free_ok X G (c.fact 29 (f := .free "range") rfl)
  | 6, e => cases e; exact He.free_ok X G (c.fact 30 (f := .free "zip") rfl)
  | 7, e => cases e; exact He.free_ok X G (c.fact 31 (f := .free "tuple") rfl)
  | 8, e => cases e; exact He.free_ok X G (c.fact 32 (f := .free "list") rfl)
  | i + 9, e => exact absurd e (by simp [blts])
theorem facts_ok {K : PySem.W.Frag} {h : Heap} {mg : Str → Option Value} (X : K.In h) (G : h.Ns mainGlobals mg) (ce : SaysE fa fn exF K) : Facts K mg := by
  have c := ce.d
  refine ⟨?_, ?_, ?_, ?_, ?_, ?_, ?_⟩
  · intro i x e
    match i, e with
    | i + 0, e => exact absurd e (by simp [gints])
  · intro i x e
    match i, e with
    | i + 0, e => exact absurd e (by simp [gstrs])
  · exact (He.glo_ok X G (c.fact 33 (f := .glo "NoNumber") rfl))
  · exact (He.glo_ok X G (c.fact 34 (f := .glo "NOUGHT") rfl))
  · obtain ⟨h1, h2, h3, h4⟩ := He.exc_ok (c.fact 35 (f := .exc "NoNumber") rfl)
    exact ⟨(He.glo_ok X G (c.fact 33 (f := .glo "NoNumber") rfl)), h1, h2, h3, h4⟩
  · exact exB_ok (mg := mg) (show (exB xks xcs K) = true from (He.ba ce.ex).1) (fun _ h => absurd h List.not_mem_nil)
  · exact fun F => Rep.mk_tup (He.tupB_ok (show (He.tupB K "NOUGHT" [.int 0, .int 1]) = true from (He.ba ce.ex).2) F) (RepL.cons Rep.mk_int (RepL.cons Rep.mk_int (RepL.nil)))
theorem facts {P : Program} {w : World} {K : PySem.W.Frag} {h : Heap} {mg : Str → Option Value} {f : Addr} (X : K.In h) (G : h.Ns mainGlobals mg) (hfa : mg ("law" : Str) = some (.ref f)) (ce : SaysE fa fn exF K) :
    ∃ fd : FuncData, (∀ (s : Shared) (v : Value), BindsTo s fd ⟨[v], []⟩ [("_law_script", v)]) ∧ ∀ base : Heap, K.In base → base.Ns mainGlobals mg → FnOk P w K mg base (L2.CX P w) 7 f fd ["_law_script"] (spD K 1 f_law) := by
  have c := ce.d
  obtain ⟨fd_is_whole, F_is_whole⟩ := c.def_ 0 (d := d_is_whole) rfl
  obtain ⟨fd_divisor_of, F_divisor_of⟩ := c.def_ 1 (d := d_divisor_of) rfl
  obtain ⟨fd_ratio_of, F_ratio_of⟩ := c.def_ 2 (d := d_ratio_of) rfl
  obtain ⟨fd_ratio_sum, F_ratio_sum⟩ := c.def_ 3 (d := d_ratio_sum) rfl
  obtain ⟨fd_ratio_less, F_ratio_less⟩ := c.def_ 4 (d := d_ratio_less) rfl
  obtain ⟨fd_ratio_times, F_ratio_times⟩ := c.def_ 5 (d := d_ratio_times) rfl
  obtain ⟨fd_ratio_by, F_ratio_by⟩ := c.def_ 6 (d := d_ratio_by) rfl
  obtain ⟨fd_is_under, F_is_under⟩ := c.def_ 7 (d := d_is_under) rfl
  obtain ⟨fd_share_of, F_share_of⟩ := c.def_ 8 (d := d_share_of) rfl
  obtain ⟨fd_turn_at, F_turn_at⟩ := c.def_ 9 (d := d_turn_at) rfl
  obtain ⟨fd_between, F_between⟩ := c.def_ 10 (d := d_between) rfl
  obtain ⟨fd_kept_side, F_kept_side⟩ := c.def_ 11 (d := d_kept_side) rfl
  obtain ⟨fd_is_before, F_is_before⟩ := c.def_ 12 (d := d_is_before) rfl
  obtain ⟨fd_tidied_part, F_tidied_part⟩ := c.def_ 13 (d := d_tidied_part) rfl
  obtain ⟨fd_both_of, F_both_of⟩ := c.def_ 14 (d := d_both_of) rfl
  obtain ⟨fd__law_draw, F__law_draw⟩ := c.def_ 15 (d := d__law_draw) rfl
  obtain ⟨fd__law_low, F__law_low⟩ := c.def_ 16 (d := d__law_low) rfl
  obtain ⟨fd__law_add, F__law_add⟩ := c.def_ 17 (d := d__law_add) rfl
  obtain ⟨fd__law_under, F__law_under⟩ := c.def_ 18 (d := d__law_under) rfl
  obtain ⟨fd__law_box, F__law_box⟩ := c.def_ 19 (d := d__law_box) rfl
  obtain ⟨fd__law_corners, F__law_corners⟩ := c.def_ 20 (d := d__law_corners) rfl
  obtain ⟨fd__law_both, F__law_both⟩ := c.def_ 21 (d := d__law_both) rfl
  obtain ⟨fd__law_alike, F__law_alike⟩ := c.def_ 22 (d := d__law_alike) rfl
  obtain ⟨fd_law, F_law⟩ := c.def_ 23 (d := d_law) rfl
  have e := hfa.symm.trans (He.glo_ok X G (c.fact 23 (f := .glo "law") rfl))
  cases e
  have B := blts_ok X G c
  have M : Facts K mg := facts_ok X G ce
  have b := FunD.bindsA (ps := ["_law_script"]) F_law fun _ _ _ _ _ _ us hl => match us, hl with | [_], _ => rfl
  refine ⟨fd_law, fun s v => b s [v] rfl, fun base _ _ => ?_⟩
  have C_is_whole := cal_is_whole (P := P) (w := w) (base := base) B M  F_is_whole (He.glo_ok X G (c.fact 0 (f := .glo "is_whole") rfl))
  have C_divisor_of := cal_divisor_of (P := P) (w := w) (base := base) B M  F_divisor_of (He.glo_ok X G (c.fact 1 (f := .glo "divisor_of") rfl))
  have C_ratio_of := cal_ratio_of (P := P) (w := w) (base := base) B M C_is_whole C_divisor_of F_ratio_of (He.glo_ok X G (c.fact 2 (f := .glo "ratio_of") rfl))
  have C_ratio_sum := cal_ratio_sum (P := P) (w := w) (base := base) B M C_ratio_of F_ratio_sum (He.glo_ok X G (c.fact 3 (f := .glo "ratio_sum") rfl))
  have C_ratio_less := cal_ratio_less (P := P) (w := w) (base := base) B M C_ratio_of F_ratio_less (He.glo_ok X G (c.fact 4 (f := .glo "ratio_less") rfl))
  have C_ratio_times := cal_ratio_times (P := P) (w := w) (base := base) B M C_ratio_of F_ratio_times (He.glo_ok X G (c.fact 5 (f := .glo "ratio_times") rfl))
  have C_ratio_by := cal_ratio_by (P := P) (w := w) (base := base) B M C_ratio_of F_ratio_by (He.glo_ok X G (c.fact 6 (f := .glo "ratio_by") rfl))
  have C_is_under := cal_is_under (P := P) (w := w) (base := base) B M  F_is_under (He.glo_ok X G (c.fact 7 (f := .glo "is_under") rfl))
  have C_share_of := cal_share_of (P := P) (w := w) (base := base) B M C_ratio_sum C_ratio_less C_ratio_times C_ratio_of F_share_of (He.glo_ok X G (c.fact 8 (f := .glo "share_of") rfl))
  have C_turn_at := cal_turn_at (P := P) (w := w) (base := base) B M C_ratio_times C_ratio_less F_turn_at (He.glo_ok X G (c.fact 9 (f := .glo "turn_at") rfl))
  have C_between := cal_between (P := P) (w := w) (base := base) B M C_ratio_by C_ratio_less C_ratio_sum C_ratio_times F_between (He.glo_ok X G (c.fact 10 (f := .glo "between") rfl))
  have C_kept_side := cal_kept_side (P := P) (w := w) (base := base) B M C_is_under C_ratio_times C_between F_kept_side (He.glo_ok X G (c.fact 11 (f := .glo "kept_side") rfl))
  have C_is_before := cal_is_before (P := P) (w := w) (base := base) B M C_is_under F_is_before (He.glo_ok X G (c.fact 12 (f := .glo "is_before") rfl))
  have C_tidied_part := cal_tidied_part (P := P) (w := w) (base := base) B M C_turn_at C_is_under C_share_of C_is_before F_tidied_part (He.glo_ok X G (c.fact 13 (f := .glo "tidied_part") rfl))
  have C_both_of := cal_both_of (P := P) (w := w) (base := base) B M C_kept_side C_turn_at C_tidied_part F_both_of (He.glo_ok X G (c.fact 14 (f := .glo "both_of") rfl))
  have C__law_draw := cal__law_draw (P := P) (w := w) (base := base) B M  F__law_draw (He.glo_ok X G (c.fact 15 (f := .glo "_law_draw") rfl))
  have C__law_low := cal__law_low (P := P) (w := w) (base := base) B M  F__law_low (He.glo_ok X G (c.fact 16 (f := .glo "_law_low") rfl))
  have C__law_add := cal__law_add (P := P) (w := w) (base := base) B M C__law_low F__law_add (He.glo_ok X G (c.fact 17 (f := .glo "_law_add") rfl))
  have C__law_under := cal__law_under (P := P) (w := w) (base := base) B M  F__law_under (He.glo_ok X G (c.fact 18 (f := .glo "_law_under") rfl))
  have C__law_box := cal__law_box (P := P) (w := w) (base := base) B M C__law_low C__law_draw C__law_add F__law_box (He.glo_ok X G (c.fact 19 (f := .glo "_law_box") rfl))
  have C__law_corners := cal__law_corners (P := P) (w := w) (base := base) B M C__law_under F__law_corners (He.glo_ok X G (c.fact 20 (f := .glo "_law_corners") rfl))
  have C__law_both := cal__law_both (P := P) (w := w) (base := base) B M C__law_under F__law_both (He.glo_ok X G (c.fact 21 (f := .glo "_law_both") rfl))
  have C__law_alike := cal__law_alike (P := P) (w := w) (base := base) B M  F__law_alike (He.glo_ok X G (c.fact 22 (f := .glo "_law_alike") rfl))
  exact ok_law B M C__law_box C__law_draw C__law_add C__law_corners C__law_both C_both_of C__law_alike F_law
end Gn
open PySem PySem.W PySem.Calls PyProof.Rows
set_option maxRecDepth 100000 in
set_option maxHeartbeats 0 in
theorem Gn.holds_of (LT : ∀ (ns : List Int), ns.length ≤ 63 → Gn.f_law [.lst (ns.map .int)] = .ok (.bl true)) : PySem.Challenge.rw_dialyard_k72_boxes_together.Holds := by
  w_on; o_law
  refine HandSHeadRun.head_any (r := OpenLaw.row PySem.Challenge.rw_dialyard_k72_boxes_together) (q := view (OpenLaw.row PySem.Challenge.rw_dialyard_k72_boxes_together).prog [33]) (H := Gn.hk) (ob := Gn.ob) (M := 20000) (loose := Gn.loose) (d := HandSHeadRun.topDef (OpenLaw.row PySem.Challenge.rw_dialyard_k72_boxes_together).prog 33) (kwd := []) Gn.ob_eq
    (by kernel_rfl) (fun s => by kernel_rfl) Gn.run (by kernel_rfl) (by kernel_rfl) (by kernel_rfl) (by rfl) (by first | assumption | decide +kernel) (by decide +kernel) ⟨rfl, rfl, rfl, rfl, rfl, by decide +kernel⟩ ?hw ?hc
  case hw => w_witness2
  case hc =>
    refine Dy.walk_ofW (l := PySem.Challenge.rw_dialyard_k72_boxes_together) (n := 63) (k := 7) (x := "_law_script") (CX := fun w => L2.CX (PySem.Challenge.rw_dialyard_k72_boxes_together).prog w) rfl (by decide) (by kernel_rfl) ⟨rfl, by decide, by decide⟩ ?F (fun _ _ _ _ _ z => Dy.cx_false z)
    intro w mg fa h Y G hmg0
    obtain ⟨K, KX, c⟩ := Y
    have hmg : mg ("law" : PySem.Str) = some (.ref fa) := by
      have e : (HandSHeadRun.topDef (OpenLaw.row PySem.Challenge.rw_dialyard_k72_boxes_together).prog 33).name = ("law" : PySem.Str) := by kernel_rfl
      rw [← e]
      exact hmg0
    obtain ⟨fd, hb, hF⟩ := Gn.facts (P := (PySem.Challenge.rw_dialyard_k72_boxes_together).prog) (w := w) KX G hmg c
    exact ⟨K, fd, Dy.spD K 1 Gn.f_law, KX, hb, fun H a ns hl _ hS => Dy.law_sp hS (LT ns hl), hF⟩

end
section
set_option maxHeartbeats 4000000
namespace Gn
open PySem PySem.Spec PyProof.Rows L2 Dy
local macro_rules | `(tactic| wtm_at "y_bd") => `(tactic| ((repeat' (first | assumption | (with_reducible apply Bd.mul) | (with_reducible apply RB.n) | (with_reducible apply RB.d) | (with_reducible apply RB.add) | (with_reducible apply RB.sub) | (with_reducible apply RB.mul) | (with_reducible apply RB.int) | (with_reducible apply Bd.addM) | (with_reducible apply Bd.subM) | (with_reducible apply Bd.neg) | (with_reducible apply Bd.mod; (first | decide | omega)) | exact Bd.lit (n := 2) (by decide) | exact Bd.lit (n := 36) (by decide) | exact Bd.lit (n := 200) (by decide))) <;> done))
local macro_rules | `(tactic| wtm_at "y_mulok") => `(tactic| first | exact MuOk.of (n := 200) (m := 200) (Bd.lit (by decide)) (Bd.lit (by decide)) (by decide) | exact MuOk.of (by wtm_at "y_bd") (by wtm_at "y_bd") (by first | decide | omega))
local macro_rules | `(tactic| wtm_at "y_line") => `(tactic| first | assumption | exact Nat.le_of_ble_eq_true rfl | (simp only [List.length_append, List.length_map, List.length_cons, List.length_nil, sizeLine_eq]; omega))
local macro_rules | `(tactic| wtm_at "y_pos") => `(tactic| first | assumption | decide | omega)
local macro_rules | `(tactic| wtm_at "y_known") => `(tactic| first | assumption | (with_reducible rfl) | ((with_reducible show ((List.length (_ :: _) : Nat) : Int) = _); exact rfl) | omega | exact ⟨rfl, rfl⟩ | exact ⟨rfl, rfl, rfl⟩)
local macro_rules | `(tactic| wtm_at "y_okq") => `(tactic| first | rfl | exact okq_ints _ | simp [okq])
local macro_rules | `(tactic| wtm_at "y_dyop") => `(tactic| first
  | (with_reducible refine w_bSeqR ?_)
  | (with_reducible refine w_bSeqT rfl ?_)
  | (with_reducible refine w_bSeqL rfl ?_)
  | (with_reducible refine w_bName ?_)
  | ((with_reducible show Got (bCons _ _ (List.map _ _) _) _); simp only [List.map_cons, List.map_nil])
  | (with_reducible refine w_bCons ?_)
  | (with_reducible refine w_bNil ?_)
  | ((with_reducible show Got (oIx _ _) _); first | ((with_reducible show Got (oIx (D.lst _) (D.int _)) _); refine w_ixL rfl ?_) | ((with_reducible show Got (oIx (D.tup _) (D.int _)) _); refine w_ixT rfl ?_) | (with_reducible refine w_ixR0 ?_) | (with_reducible refine w_ixR1 ?_))
  | ((with_reducible show Got (oAdd _ _) _); first | (with_reducible refine w_addI ?_) | ((with_reducible refine w_addL ?_ ?_); (focus (wtm_at "y_line"; done))) | ((with_reducible refine w_addT ?_ ?_); (focus (wtm_at "y_line"; done))))
  | ((with_reducible refine w_mul ?_ ?_); (focus (wtm_at "y_mulok"; done)))
  | ((with_reducible refine w_mod ?_ ?_); (focus (wtm_at "y_pos"; done)))
  | ((with_reducible refine w_div ?_ ?_ ?_); (focus (wtm_at "y_pos"; done)); (focus (first | (exact Bd.log (n := 200) (Bd.lit (by decide)) (by decide)) | (exact Bd.log (n := 200) (by assumption) (by decide)) | (exact Bd.log (by wtm_at "y_bd") (by decide)))))
  | ((with_reducible show Got (oEq _ _) _); first | (with_reducible refine w_eqI ?_) | ((with_reducible refine w_eqNil ?_ ?_); (focus (wtm_at "y_okq"; done))) | (with_reducible refine w_eq3 ?_) | (with_reducible refine w_eqRR ?_) | (with_reducible refine w_eqRRR ?_) | (with_reducible refine w_eqR ?_))
  | ((with_reducible show Got (oNe _ _) _); first | (with_reducible refine w_neI ?_) | ((with_reducible refine w_neNil ?_ ?_); (focus (wtm_at "y_okq"; done))) | (with_reducible refine w_ne3 ?_) | (with_reducible refine w_neRR ?_) | (with_reducible refine w_neRRR ?_) | (with_reducible refine w_neR ?_))
  | (with_reducible refine w_sub ?_)
  | ((with_reducible refine w_pow ?_ ?_); (focus decide); simp only [Int.reducePow, Int.reduceToNat])
  | (with_reducible refine w_lt ?_)
  | (with_reducible refine w_le ?_)
  | (with_reducible refine w_gt ?_)
  | (with_reducible refine w_ge ?_)
  | (with_reducible refine w_neg ?_)
  | (with_reducible refine w_isN ?_)
  | (with_reducible refine w_notN ?_)
  | (with_reducible refine w_lenL ?_)
  | (with_reducible refine w_lenT ?_)
  | (with_reducible refine w_max2 ?_)
  | (with_reducible refine w_min2 ?_)
  | (with_reducible refine w_min3 ?_)
  | (with_reducible refine w_abs ?_)
  | (with_reducible refine w_listL ?_)
  | (with_reducible refine w_listT ?_)
  | (with_reducible refine w_tupleL ?_)
  | (with_reducible refine w_tupleT ?_)
  | ((with_reducible show Got (oIsi [_, D.ty _]) _); refine w_isi (by with_reducible first | exact kt_zb | exact kt_zi | exact kt_zt | exact kt_zl | exact kt_zs | exact kt_zd | exact kt_rt | exact kt_rb | exact kt_ri | exact kt_rl | exact kt_ib | exact kt_ii | exact kt_it | exact kt_il | exact kt_is | exact kt_id | exact kt_bb | exact kt_bi | exact kt_bt | exact kt_bl | exact kt_bs | exact kt_bd | exact kt_tb | exact kt_ti | exact kt_tt | exact kt_tl | exact kt_ts | exact kt_td | exact kt_lb | exact kt_li | exact kt_lt | exact kt_ll | exact kt_ls | exact kt_ld | exact kt_sb | exact kt_si | exact kt_st | exact kt_sl | exact kt_ss | exact kt_sd | exact kt_nb | exact kt_ni | exact kt_nt | exact kt_nl | exact kt_ns | exact kt_nd | exact kt_db | exact kt_di | exact kt_dt | exact kt_dl | exact kt_ds | exact kt_dd) ?_)
  | ((with_reducible refine w_range3 ?_ ?_ ?_ ?_); (focus decide); (focus (first | decide | (constructor <;> omega))); (focus (first | decide | (constructor <;> omega))))
  | (with_reducible refine w_rng3 ?_)
  | (with_reducible refine w_zip3 ?_)
  | (with_reducible refine w_sum3 ?_)
  | ((with_reducible refine w_range1 ?_ ?_); (focus (first | decide | (constructor <;> omega))))
  | ((with_reducible refine w_range2 ?_ ?_ ?_); (focus (first | decide | (constructor <;> omega))); (focus (first | decide | (constructor <;> omega))))
  | ((with_reducible show Got (oSum _) _); refine w_sum rfl ?_)
  | ((with_reducible show Got (oSl _ _ _) _); refine g_ot rfl ?_)
  | ((with_reducible show Got (enum1 _) _); refine g_ot rfl ?_)
  | ((with_reducible show Got (zip2 _) _); refine g_ot rfl ?_)
  | (with_reducible refine w_iterR ?_)
  | ((with_reducible show Got (iterD (D.lst _)) _); refine g_ot rfl ?_)
  | ((with_reducible show Got (iterD (D.tup _)) _); refine g_ot rfl ?_)
  | (with_reducible refine w_lenR ?_))
local macro_rules | `(tactic| wtm_at "y_dyk") => `(tactic| first
  | (with_reducible refine k_tt ?_) | (with_reducible refine k_ff ?_) | (with_reducible refine k_nt ?_) | (with_reducible refine k_nf ?_)
  | ((with_reducible refine k_dT ?_ ?_); (focus (wtm_at "y_known"; done))) | ((with_reducible refine k_dF ?_ ?_); (focus (wtm_at "y_known"; done))) | ((with_reducible refine k_ndT ?_ ?_); (focus (wtm_at "y_known"; done))) | ((with_reducible refine k_ndF ?_ ?_); (focus (wtm_at "y_known"; done)))
  | ((with_reducible refine k_nndT ?_ ?_); (focus (wtm_at "y_known"; done))) | ((with_reducible refine k_nndF ?_ ?_); (focus (wtm_at "y_known"; done)))
  | (with_reducible refine k_d (fun _ => ?_) (fun _ => ?_)) | (with_reducible refine k_nd (fun _ => ?_) (fun _ => ?_)) | (with_reducible refine k_nnd (fun _ => ?_) (fun _ => ?_)) | ((with_reducible show Fork (D.isNon _) _ _); first | refine k_tt ?_ | refine k_ff ?_) | ((with_reducible show Fork (!(D.isNon _)) _ _); first | refine k_nt ?_ | refine k_nf ?_) | ((with_reducible show Fork (List.isEmpty _) _ _); first | refine k_tt ?_ | refine k_ff ?_) | ((with_reducible show Fork (!(List.isEmpty _)) _ _); first | refine k_nt ?_ | refine k_nf ?_) | (with_reducible refine k_any (fun _ => ?_) (fun _ => ?_)))
local macro_rules | `(tactic| wtm_at "q_wp") => `(tactic| first
  | ((with_reducible show R.wp (eVar _ _) _ _); refine wp_var rfl ?_)
  | (with_reducible refine wp_c ?_)
  | ((with_reducible show R.wp (uPeek _ _ _) _ _); refine wp_uPeek rfl ?_)
  | ((with_reducible show R.wp (ePeek _ _ _) _ _); refine wp_ePeek rfl ?_)
  | ((with_reducible show R.wp (eIxO _ _ _) _ _); refine wp_ixO rfl ?_)
  | (with_reducible refine wp_bin ?_)
  | (with_reducible refine wp_cons ?_)
  | (with_reducible refine wp_nil ?_)
  | (with_reducible refine wp_tup ?_)
  | (with_reducible refine wp_lst ?_)
  | (with_reducible refine wp_call ?_)
  | (with_reducible refine wp_n ?_)
  | (with_reducible refine wp_un ?_)
  | (with_reducible refine wp_test ?_)
  | (with_reducible refine wp_and ?_)
  | (with_reducible refine wp_or ?_)
  | (with_reducible refine wp_not ?_)
  | (with_reducible refine wp_andV ?_)
  | (with_reducible refine wp_orV ?_)
  | (with_reducible refine wp_notV ?_)
  | (with_reducible refine wp_chain ?_)
  | (with_reducible refine wp_dct0 ?_)
  | (with_reducible refine wp_sl ?_)
  | (with_reducible refine wp_no ?_)
  | (with_reducible refine wp_some ?_)
  | (with_reducible refine wp_iD ?_)
  | (with_reducible refine wp_iArgs ?_)
  | (with_reducible refine wp_compU ?_)
  | (with_reducible refine wp_yes ?_))
local macro_rules | `(tactic| wtm_at "q_sp") => `(tactic| first
  | (with_reducible refine sp_seq ?_)
  | (with_reducible refine sp_skip ?_)
  | (with_reducible refine sp_ret ?_)
  | (with_reducible refine sp_setU ?_)
  | (with_reducible refine sp_expr ?_)
  | (with_reducible refine sp_if ?_)
  | (with_reducible refine sp_parU ?_)
  | (with_reducible refine sp_asg ?_)
  | (with_reducible refine sp_ownU ?_)
  | ((with_reducible show SR.wp (sFreeze _ _ _) _ _ _); first | refine sp_frO rfl ?_ | refine sp_frV rfl ?_ | refine sp_frU rfl ?_)
  | (with_reducible refine sp_for ?_)
  | ((with_reducible show SR.wp (sApp _ _ _) _ _ _); refine sp_appU rfl ?_))
local macro_rules | `(tactic| wtm_at "q_got") => `(tactic| first
  | ((with_reducible show Got (compS _ _ _ _ _) _); first | refine c_cons ?_ | refine c_nil ?_)
  | wtm_at "y_dyop")
local macro_rules | `(tactic| wtm_at "y_dy") => `(tactic| first
  | ((with_reducible show R.wp _ _ _); wtm_at "q_wp")
  | ((with_reducible show SR.wp _ _ _ _); wtm_at "q_sp")
  | ((with_reducible show Upd _ _ _ _); refine upd_step (by ((simp only [List.set_cons_zero, List.set_cons_succ]) <;> rfl)) ?_)
  | ((with_reducible show Got _ _); wtm_at "q_got")
  | ((with_reducible show Fork _ _ _); wtm_at "y_dyk")
  | (with_reducible refine sc_int ?_)
  | (with_reducible refine sc_bl ?_)
  | (with_reducible refine ex_bl ?_)
  | (with_reducible refine ex_int ?_)
  | (with_reducible refine ex_two ?_)
  | (with_reducible refine wipe_cons ?_)
  | (with_reducible refine wipe_nil ?_)
  | (with_reducible refine fs_cons ?_)
  | (with_reducible refine fs_nil ?_)
  | ((with_reducible refine f_its ?_ ?_); (focus (wtm_at "y_line"; done)))
  | ((with_reducible refine g_rows ?_ ?_); (focus (wtm_at "y_line"; done))))
local macro_rules | `(tactic| wtm_at "y_bdn") => `(tactic| (exact Bd.mono (by wtm_at "y_bd") (by decide)))
local macro_rules | `(tactic| wtm_at "y_fn") => `(tactic| fail)
local macro_rules | `(tactic| wtm_at "y_go") => `(tactic| repeat' (first | wtm_at "y_dy" | wtm_at "y_fn"))
local macro_rules | `(tactic| wtm_at "y_in") => `(tactic| refine wp_fnU rfl (by ((simp only [List.map_cons, List.map_nil, List.cons_append, List.nil_append, List.replicate_succ, List.replicate_zero, Nat.reduceSub, Nat.sub_self]) <;> rfl)) ?_)
local macro_rules | `(tactic| wtm_at "y_false") => `(tactic| (exfalso; first | omega | grind | (simp_all; done)))
local macro_rules | `(tactic| wtm_at "y_ne3") => `(tactic| (with_reducible refine w_neS (tup3 (by first | rfl | omega | grind) (by first | rfl | omega | grind) (by first | rfl | omega | grind)) rfl ?_))
local macro_rules | `(tactic| wtm_at "y_rb") => `(tactic| wtm_at "y_bd")
local macro_rules | `(tactic| wtm_at "y_sz") => `(tactic| first | decide | omega)
local macro_rules | `(tactic| wtm_at "y_all") => `(tactic| repeat' (first | exact List.forall_mem_nil _ | refine List.forall_mem_cons.mpr ⟨?_, ?_⟩ | exact ⟨_, rfl, by wtm_at "y_bdn"⟩))
/-! ### fractions -/
theorem sp_is_whole {i : Int} {P : D → Prop} (h : P (.bl true)) : (f_is_whole [.int i]).wp P NoE := by
  wtm_at "y_in"
  repeat' wtm_at "y_dy"
  exact h
theorem sp_divisor_of {a b : Int} {P : D → Prop} (h : P (.int (Int.gcd a b))) : (f_divisor_of [.int a, .int b]).wp P NoE := by
  wtm_at "y_in"
  refine sp_seq ?_
  refine sp_while (fun ρ => ∃ x y : Int, ρ = [.val (.int x), .val (.int y)] ∧ Int.gcd x y = Int.gcd a b) (fun ρ => match ρ with | [_, .val (.int y)] => y.natAbs | _ => 0) ⟨a, b, rfl, rfl⟩ ?_
  rintro _ ⟨x, y, rfl, hg⟩
  refine wp_test ?_
  repeat' wtm_at "y_dy"
  · rename_i hy
    refine w_modG hy ?_
    repeat' wtm_at "y_dy"
    exact ⟨⟨y, x.fmod y, rfl, by rw [gcd_fmod]; exact hg⟩, fmod_lt x y hy⟩
  · rename_i hy
    have hy0 : y = 0 := by omega
    subst hy0
    repeat' wtm_at "y_dy"
    have e : (if x < 0 then -x else x) = (Int.gcd a b : Int) := by
      rw [← hg, Int.gcd_zero_right]; split <;> omega
    rw [e]; exact h
theorem sp_ratio_of {a b : Int} {P : D → Prop} {m : Nat} (hb : b ≠ 0) (hs : Bd m b) (hm : m < 9000) (h : P (rD (Rat.divInt a b))) : (f_ratio_of [.int a, .int b]).wp P NoE := by
  have hg : 0 < Int.gcd a b := Int.gcd_pos_of_ne_zero_right a hb
  have hgb : (Int.gcd a b : Int).natAbs ≤ b.natAbs := by
    rw [Int.natAbs_natCast]
    exact Nat.le_of_dvd (by omega) (Int.natAbs_dvd_natAbs.mpr (Int.gcd_dvd_right a b))
  have hl : (Int.gcd a b : Int).natAbs.log2 < 9000 := Bd.log (Nat.lt_of_le_of_lt hgb hs) hm
  wtm_at "y_in"
  repeat' wtm_at "y_dy"
  refine sp_is_whole ?_
  repeat' wtm_at "y_dy"
  refine sp_is_whole ?_
  repeat' wtm_at "y_dy"
  refine sp_divisor_of ?_
  repeat' wtm_at "y_dy"
  · rename_i hb0
    refine w_divG (by omega) (by rw [Int.natAbs_neg]; exact hl) ?_
    repeat' wtm_at "y_dy"
    refine w_divG (by omega) (by rw [Int.natAbs_neg]; exact hl) ?_
    repeat' wtm_at "y_dy"
    unfold rD at h
    rw [ratio_num a b hb, ratio_den a b hb, if_pos hb0, if_pos hb0] at h
    exact h
  · rename_i hb0
    refine w_divG (by omega) hl ?_
    repeat' wtm_at "y_dy"
    refine w_divG (by omega) hl ?_
    repeat' wtm_at "y_dy"
    unfold rD at h
    rw [ratio_num a b hb, ratio_den a b hb, if_neg hb0, if_neg hb0] at h
    exact h
section
variable {x y : Rat} {P : D → Prop} {n m n' m' : Nat}
theorem sp_ratio_sum (hx : RB n m x) (hy : RB n' m' y) (hs : n + m' < 100000000 ∧ n' + m < 100000000 ∧ m + m' < 9000) (h : P (rD (x + y))) : (f_ratio_sum [rD x, rD y]).wp P NoE := by
  obtain ⟨x1, x2⟩ := hx
  obtain ⟨y1, y2⟩ := hy
  unfold rD at *
  wtm_at "y_in"
  repeat' wtm_at "y_dy"
  refine sp_ratio_of (den_mul_ne x y) (x2.mul y2) hs.2.2 ?_
  rw [divInt_add]
  exact h
theorem sp_ratio_less (hx : RB n m x) (hy : RB n' m' y) (hs : n + m' < 100000000 ∧ n' + m < 100000000 ∧ m + m' < 9000) (h : P (rD (x - y))) : (f_ratio_less [rD x, rD y]).wp P NoE := by
  obtain ⟨x1, x2⟩ := hx
  obtain ⟨y1, y2⟩ := hy
  unfold rD at *
  wtm_at "y_in"
  repeat' wtm_at "y_dy"
  refine sp_ratio_of (den_mul_ne x y) (x2.mul y2) hs.2.2 ?_
  rw [divInt_sub]
  exact h
theorem sp_ratio_times (hx : RB n m x) (hy : RB n' m' y) (hs : n + n' < 100000000 ∧ m + m' < 9000) (h : P (rD (x * y))) : (f_ratio_times [rD x, rD y]).wp P NoE := by
  obtain ⟨x1, x2⟩ := hx
  obtain ⟨y1, y2⟩ := hy
  have hs2 : m + m' < 100000000 := by omega
  unfold rD at *
  wtm_at "y_in"
  repeat' wtm_at "y_dy"
  refine sp_ratio_of (den_mul_ne x y) (x2.mul y2) hs.2 ?_
  rw [divInt_mul]
  exact h
theorem sp_ratio_by (h0 : y ≠ 0) (hx : RB n m x) (hy : RB n' m' y) (hs : n + m' < 100000000 ∧ m + n' < 9000) (h : P (rD (x / y))) : (f_ratio_by [rD x, rD y]).wp P NoE := by
  obtain ⟨x1, x2⟩ := hx
  obtain ⟨y1, y2⟩ := hy
  have hs2 : m + n' < 100000000 := by omega
  unfold rD at *
  wtm_at "y_in"
  repeat' wtm_at "y_dy"
  refine sp_ratio_of (Int.mul_ne_zero (den_ne x) fun z => h0 (Rat.num_eq_zero.mp z)) (x2.mul y1) hs.2 ?_
  rw [divInt_div]
  exact h
theorem sp_is_under (hx : RB n m x) (hy : RB n' m' y) (hs : n + m' < 100000000 ∧ n' + m < 100000000) (h : P (.bl (decide (x < y)))) : (f_is_under [rD x, rD y]).wp P NoE := by
  obtain ⟨x1, x2⟩ := hx
  obtain ⟨y1, y2⟩ := hy
  unfold rD at *
  wtm_at "y_in"
  repeat' wtm_at "y_dy"
  have e : decide (x.num * ↑y.den < y.num * ↑x.den) = decide (x < y) := by simp only [Rat.lt_iff]
  rw [e]
  exact h
end
theorem sp_under_0 {x : Rat} {P : D → Prop} {n m : Nat} (hx : RB n m x) (hs : n < 1000000 ∧ m < 1000000) (h : P (.bl (decide (x < 0)))) : (f_is_under [rD x, .tup [.int 0, .int 1]]).wp P NoE :=
  sp_is_under (y := 0) hx RB.zero (by omega) h
/-! ### numbers drawn by two roads -/
theorem sp_draw {c k many : Int} (h0 : 0 ≤ k) (h1 : k < 1000) (hm0 : 0 < many) (hm1 : many < 1000) : (f__law_draw [.int c, .int k, .int many]).wp (fun d => ∃ v, d = .int v ∧ 0 ≤ v ∧ v < many) NoE := by
  have hk : Bd 10 k := Bd.le (j := 1000) (Bd.lit (by decide)) h0 (by omega)
  have e1 : ∀ z : Int, 0 ≤ z % many ∧ z % many < many := fun z => ⟨Int.emod_nonneg _ (by omega), Int.emod_lt_of_pos _ hm0⟩
  wtm_at "y_in"
  wtm_at "y_go"
  · refine forS_inv (fun i ρ => ∃ l w, ρ = [.val (.int c), .val (.int k), .val (.int many), .val (.int l), w, .un]) ⟨_, _, rfl⟩ ?_ ?_
    · rintro i d _ ed ⟨l, w, rfl⟩
      obtain ⟨rfl, hi⟩ := rangeD_get ed
      wtm_at "y_go"
      exact ⟨_, _, rfl⟩
    · rintro _ ⟨l, w, rfl⟩
      wtm_at "y_go"
      · exact ⟨_, rfl, e1 _⟩
      · exact ⟨_, rfl, e1 _⟩
  · exact ⟨_, rfl, e1 _⟩

/-! ### comprehensions over a list of any length -/
section
variable {α : Type} {b : D → REnv → Option REnv} {c : REnv → R Bool} {e : REnv → R D} {ρ : REnv} {f g : α → D} {keep : α → Bool} {P : List D → Prop}
theorem c_list : ∀ (xs : List α), (∀ x ∈ xs, Got (b (f x) ρ) fun ρ' => (c ρ').wp (fun k => k = keep x ∧ (k = true → (e ρ').wp (fun v => v = g x) NoE)) NoE) → Got (compS b c e (xs.map f) ρ) fun rs => rs = (xs.filter keep).map g
  | [], _ => c_nil rfl
  | x :: xs, h => by
    have hx := h x List.mem_cons_self
    obtain ⟨ρ', e1, h1⟩ := hx
    refine c_cons ⟨ρ', e1, h1.imp (fun k hk => ?_) fun _ z => z⟩
    obtain ⟨rs, er, hr⟩ := c_list xs fun y hy => h y (List.mem_cons_of_mem _ hy)
    refine ⟨fun k1 => (hk.2 k1).imp (fun v hv => ⟨rs, er, ?_⟩) fun _ z => z, fun k0 => ⟨rs, er, ?_⟩⟩
    · rw [hr, hv, List.filter_cons_of_pos (by rw [← hk.1, k1])]
      rfl
    · rw [hr, List.filter_cons_of_neg (by rw [← hk.1, k0]; decide)]
theorem c_listG {xs : List α} (h : ∀ x ∈ xs, Got (b (f x) ρ) fun ρ' => (c ρ').wp (fun k => k = keep x ∧ (k = true → (e ρ').wp (fun v => v = g x) NoE)) NoE) (hp : P ((xs.filter keep).map g)) : Got (compS b c e (xs.map f) ρ) P := by
  obtain ⟨rs, e1, e2⟩ := c_list xs h
  exact ⟨rs, e1, by rw [e2]; exact hp⟩
theorem c_mapG {xs : List α} (h : ∀ x ∈ xs, Got (b (f x) ρ) fun ρ' => (e ρ').wp (fun v => v = g x) NoE) (hp : P (xs.map g)) : Got (compS b eYes e (xs.map f) ρ) P := by
  refine c_listG (keep := fun _ => true) (g := g) (fun x hx => ?_) ?_
  · obtain ⟨ρ', e1, h1⟩ := h x hx
    exact ⟨ρ', e1, wp_yes ⟨rfl, fun _ => h1⟩⟩
  · rw [List.filter_eq_self.mpr (fun _ _ => rfl)]
    exact hp
end

/-! ### parts: corners all round, sums over them -/
abbrev Pt := Rat × Rat
def pD (p : Pt) : D := .tup [rD p.1, rD p.2]
def cr (p q : Pt) : Rat := p.1 * q.2 - q.1 * p.2
def sumN (f : Nat → Rat) : Nat → Rat
  | 0 => 0
  | n + 1 => sumN f n + f n
theorem sumN_congr {f g : Nat → Rat} : ∀ n, (∀ k, k < n → f k = g k) → sumN f n = sumN g n
  | 0, _ => rfl
  | n + 1, h => by
    have h1 := sumN_congr n fun k hk => h k (by omega)
    have h2 := h n (by omega)
    simp only [sumN]
    rw [h1, h2]
def pt (ps : List Pt) (k : Nat) : Pt := ps.getD k (0, 0)
def cyc (ps : List Pt) : Rat := sumN (fun k => cr (pt ps k) (pt ps ((k + 1) % ps.length))) ps.length
theorem cyc_eq {ps : List Pt} {m : Nat} (h : ps.length = m + 1) : cyc ps = sumN (fun k => cr (pt ps k) (pt ps (k + 1))) m + cr (pt ps m) (pt ps 0) := by
  unfold cyc
  rw [h]
  simp only [sumN]
  rw [Nat.mod_self]
  congr 1
  refine sumN_congr m fun k hk => ?_
  rw [Nat.mod_eq_of_lt (by omega)]
def prev (n k : Nat) : Nat := if k = 0 then n - 1 else k - 1
/-! ### sizes -/
def PB (p : Pt) : Prop := RB 20 10 p.1 ∧ RB 20 10 p.2
theorem PB.zero : PB (0, 0) := ⟨RB.zero.mono (by decide) (by decide), RB.zero.mono (by decide) (by decide)⟩
theorem pt_PB {ps : List Pt} (h : ∀ p ∈ ps, PB p) (k : Nat) : PB (pt ps k) := by
  unfold pt
  by_cases hk : k < ps.length
  · rw [List.getD_eq_getElem?_getD, List.getElem?_eq_getElem hk]
    exact h _ (List.getElem_mem hk)
  · rw [List.getD_eq_getElem?_getD, List.getElem?_eq_none (by omega)]
    exact PB.zero
theorem cr_RB {p q : Pt} (hp : PB p) (hq : PB q) : RB 61 40 (cr p q) := ((hp.1.mul hq.2).sub (hq.1.mul hp.2)).mono (by decide) (by decide)
theorem sumN_RB {f : Nat → Rat} (hf : ∀ k, RB 61 40 (f k)) : ∀ n, RB (100 * (n + 1)) (40 * n + 1) (sumN f n)
  | 0 => RB.zero.mono (by decide) (by decide)
  | n + 1 => ((sumN_RB hf n).add (hf n)).mono (by omega) (by omega)
theorem half_RB : RB 2 2 (Rat.divInt 1 2) := .of (by decide) (Bd.lit (by decide)) (Bd.lit (by decide))
theorem cyc_RB {ps : List Pt} (h : ∀ p ∈ ps, PB p) (hl : ps.length ≤ 20) : RB 2200 900 (Rat.divInt 1 2 * cyc ps) :=
  (half_RB.mul (sumN_RB (fun _ => cr_RB (pt_PB h _) (pt_PB h _)) ps.length)).mono (by omega) (by omega)
/-! ### what is read of them -/
theorem pt_get {ps : List Pt} {k : Nat} (hk : k < ps.length) : (ps.map pD)[k]? = some (pD (pt ps k)) := by
  rw [List.getElem?_map, List.getElem?_eq_getElem hk]
  unfold pt
  rw [List.getD_eq_getElem?_getD, List.getElem?_eq_getElem hk]
  rfl
theorem ix_pt {ps : List Pt} {d : D} (hd : D.lst (ps.map pD) = d) {K : Int} (h0 : 0 ≤ K) (h1 : K < ps.length) : oIx d (.int K) = some (.tup [rD (pt ps K.toNat).1, rD (pt ps K.toNat).2]) := by
  have e := atI_nat (pt_get (ps := ps) (k := K.toNat) (by omega))
  rw [show ((K.toNat : Nat) : Int) = K by omega] at e
  rw [← hd]
  exact e
theorem ix_prev {ps : List Pt} {d : D} (hd : D.lst (ps.map pD) = d) {K : Int} (h0 : 0 ≤ K) (h1 : K < ps.length) : oIx d (.int (K - 1)) = some (.tup [rD (pt ps (prev ps.length K.toNat)).1, rD (pt ps (prev ps.length K.toNat)).2]) := by
  by_cases hk : K = 0
  · subst hk
    have e := pt_get (ps := ps) (k := ps.length - 1) (by omega)
    rw [← hd]
    show L2.atI (ps.map pD) (0 - 1) = some (pD _)
    unfold L2.atI L2.ixN
    rw [List.length_map, if_neg (by decide), if_pos (by omega), Option.bind_some, show ((0 : Int) - 1 + ps.length).toNat = ps.length - 1 by omega]
    exact e
  · have e := ix_pt hd (K := K - 1) (by omega) (by omega)
    rw [e]
    have : (K - 1).toNat = prev ps.length K.toNat := by unfold prev; rw [if_neg (by omega)]; omega
    rw [this]
theorem len_pt {ps : List Pt} {d : D} (hd : D.lst (ps.map pD) = d) : oLen [d] = some (.int ps.length) := by
  rw [← hd]
  show some (D.int ((ps.map pD).length : Nat)) = _
  rw [List.length_map]
/-! ### the law's own sums -/
theorem sp_llow {a b : Int} {P : D → Prop} {m : Nat} (hb : 0 < b) (hs : Bd m b) (hm : m < 9000) (h : P (rD (Rat.divInt a b))) : (f__law_low [.int a, .int b]).wp P NoE := by
  have hb0 : b ≠ 0 := by omega
  have hg : 0 < Int.gcd a b := Int.gcd_pos_of_ne_zero_right a hb0
  have hgb : (Int.gcd a b : Int).natAbs ≤ b.natAbs := by
    rw [Int.natAbs_natCast]
    exact Nat.le_of_dvd (by omega) (Int.natAbs_dvd_natAbs.mpr (Int.gcd_dvd_right a b))
  have hl : (Int.gcd a b : Int).natAbs.log2 < 9000 := Bd.log (Nat.lt_of_le_of_lt hgb hs) hm
  wtm_at "y_in"
  refine sp_seq ?_
  wtm_at "y_go"
  refine sp_while (fun ρ => ∃ x y : Int, 0 ≤ x ∧ 0 ≤ y ∧ ρ = [.val (.int a), .val (.int b), .val (.int x), .val (.int y)] ∧ Int.gcd x y = Int.gcd a b) (fun ρ => match ρ with | [_, _, _, .val (.int y)] => y.natAbs | _ => 0) ⟨_, _, by split <;> omega, by omega, rfl, ?_⟩ ?_
  · have e (i : Int) : (if i < 0 then -i else i) = (i.natAbs : Int) := by split <;> omega
    rw [e]
    simp [Int.gcd]
  rintro _ ⟨x, y, hx, hy, rfl, hG⟩
  refine wp_test ?_
  wtm_at "y_go"
  · rename_i h0
    have h1 := fmod_lt x y (by omega)
    rw [Int.fmod_eq_emod_of_nonneg x hy] at h1
    exact ⟨⟨y, x % y, hy, Int.emod_nonneg x (by omega), rfl, by rw [← Int.fmod_eq_emod_of_nonneg x hy, gcd_fmod]; exact hG⟩, h1⟩
  · rename_i h0
    have hy0 : y = 0 := by omega
    subst hy0
    have e : x = (Int.gcd a b : Int) := by rw [← hG, Int.gcd_zero_right]; omega
    rw [e]
    refine w_divG (by omega) hl ?_
    wtm_at "y_go"
    refine w_divG (by omega) hl ?_
    wtm_at "y_go"
    unfold rD at h
    rw [ratio_num a b hb0, ratio_den a b hb0, if_neg (by omega), if_neg (by omega)] at h
    exact h
section
variable {x y : Rat} {P : D → Prop} {n m n' m' : Nat}
theorem sp_ladd (hx : RB n m x) (hy : RB n' m' y) (hs : n + m' < 100000000 ∧ n' + m < 100000000 ∧ m + m' < 9000) (h : P (rD (x + y))) : (f__law_add [rD x, rD y]).wp P NoE := by
  obtain ⟨x1, x2⟩ := hx
  obtain ⟨y1, y2⟩ := hy
  unfold rD at *
  wtm_at "y_in"
  repeat' wtm_at "y_dy"
  refine sp_llow (Int.mul_pos (den_pos x) (den_pos y)) (x2.mul y2) hs.2.2 ?_
  rw [divInt_add]
  exact h
end
/-! ### the share -/
theorem sp_share_of {ps : List Pt} {d : D} {P : D → Prop} (hd : D.lst (ps.map pD) = d) (hl : ps.length ≤ 20) (hb : ∀ p ∈ ps, PB p) (h : P (rD (Rat.divInt 1 2 * cyc ps))) : (f_share_of [d]).wp P NoE := by
  have hbt := pt_PB hb
  have hx := fun {K : Int} => ix_pt hd (K := K)
  have hn := len_pt hd
  obtain ⟨L, hL⟩ : ∃ L : Int, (ps.length : Int) = L := ⟨_, rfl⟩
  rw [hL] at hn
  rw [hL] at hx
  have hL0 : 0 ≤ L := by omega
  have hL1 : L ≤ 20 := by omega
  wtm_at "y_in"
  wtm_at "y_go"
  refine g_ot hn ?_
  wtm_at "y_go"
  refine forS_inv (fun K ρ => ∃ (w1 w2 w3 : Sl), ρ = [.val d, .val (rD (sumN (fun k => cr (pt ps k) (pt ps ((k + 1) % ps.length))) K)), w1, w2, w3]) ⟨_, _, _, rfl⟩ ?_ ?_
  · rintro k _ _ ed ⟨w1, w2, w3, rfl⟩
    obtain ⟨rfl, hk⟩ := rangeD_get ed
    have hk2 : k < ps.length := by omega
    have hS := sumN_RB (f := fun k => cr (pt ps k) (pt ps ((k + 1) % ps.length))) (fun _ => cr_RB (hbt _) (hbt _)) k
    generalize hSS : sumN (fun k => cr (pt ps k) (pt ps ((k + 1) % ps.length))) k = S at hS
    obtain ⟨K, hK⟩ : ∃ K : Int, 0 + (k : Int) = K := ⟨_, rfl⟩
    rw [hK]
    have ek : K.toNat = k := by omega
    have ej : ((K + 1) % L).toNat = (k + 1) % ps.length := by
      rw [← hK, ← hL]
      have : ((0 : Int) + k + 1) % (ps.length : Int) = (((k + 1) % ps.length : Nat) : Int) := by rw [show (0 : Int) + k + 1 = ((k + 1 : Nat) : Int) by omega]; rfl
      omega
    wtm_at "y_go"
    refine g_ot (hx (by omega) (by omega)) ?_
    rw [ek]
    wtm_at "y_go"
    refine g_ot hn ?_
    wtm_at "y_go"
    refine g_ot (hx (Int.emod_nonneg _ (by omega)) (Int.emod_lt_of_pos _ (by omega))) ?_
    rw [ej]
    have hp := hbt k
    have hq := hbt ((k + 1) % ps.length)
    generalize hP : pt ps k = p at hp
    generalize hQ : pt ps ((k + 1) % ps.length) = q at hq
    wtm_at "y_go"
    refine sp_ratio_times hp.1 hq.2 (by decide) ?_
    wtm_at "y_go"
    refine sp_ratio_times hq.1 hp.2 (by decide) ?_
    wtm_at "y_go"
    refine sp_ratio_less (hp.1.mul hq.2) (hq.1.mul hp.2) (by decide) ?_
    wtm_at "y_go"
    refine sp_ratio_sum hS (cr_RB hp hq) (by omega) ?_
    wtm_at "y_go"
    have e : S + (p.1 * q.2 - q.1 * p.2) = sumN (fun k => cr (pt ps k) (pt ps ((k + 1) % ps.length))) (k + 1) := by
      simp only [sumN]
      rw [hSS, hP, hQ]
      rfl
    rw [e]
    exact ⟨_, _, _, rfl⟩
  · rintro _ ⟨w1, w2, w3, rfl⟩
    have hS := sumN_RB (f := fun k => cr (pt ps k) (pt ps ((k + 1) % ps.length))) (fun _ => cr_RB (hbt _) (hbt _)) ps.length
    have eL : (rangeD 0 L.toNat).length = ps.length := by simp only [rangeD, List.length_map, List.length_range]; omega
    rw [eL]
    wtm_at "y_go"
    refine sp_ratio_of (m := 2) (by decide) (Bd.lit (by decide)) (by decide) ?_
    wtm_at "y_go"
    refine sp_ratio_times half_RB hS (by omega) ?_
    exact h

/-! ### k72: cutting boxes along axes, in plain numbers -/
def turnR (a b p : Pt) : Rat := (b.1 - a.1) * (p.2 - a.2) - (b.2 - a.2) * (p.1 - a.1)
def btw (p q : Pt) (h g : Rat) : Pt := (p.1 + h / (h - g) * (q.1 - p.1), p.2 + h / (h - g) * (q.2 - p.2))
def keepAt (ps : List Pt) (h : Pt → Rat) (k : Nat) : List Pt := (if h (pt ps k) < 0 then [] else [pt ps k]) ++ (if h (pt ps k) * h (pt ps ((k + 1) % ps.length)) < 0 then [btw (pt ps k) (pt ps ((k + 1) % ps.length)) (h (pt ps k)) (h (pt ps ((k + 1) % ps.length)))] else [])
def keptR (ps : List Pt) (h : Pt → Rat) : Nat → List Pt
  | 0 => []
  | n + 1 => keptR ps h n ++ keepAt ps h n
def kept (ps : List Pt) (h : Pt → Rat) : List Pt := keptR ps h ps.length
theorem pt_mem {ps : List Pt} {k : Nat} (h : k < ps.length) : pt ps k ∈ ps := by
  unfold pt
  rw [List.getD_eq_getElem?_getD, List.getElem?_eq_getElem h]
  exact List.getElem_mem h
theorem mem_keptR {ps : List Pt} {h : Pt → Rat} {x : Pt} : ∀ {n : Nat}, x ∈ keptR ps h n → ∃ k, k < n ∧ (x = pt ps k ∨ (h (pt ps k) * h (pt ps ((k + 1) % ps.length)) < 0 ∧ x = btw (pt ps k) (pt ps ((k + 1) % ps.length)) (h (pt ps k)) (h (pt ps ((k + 1) % ps.length)))))
  | 0, hx => nomatch hx
  | n + 1, hx => by
    rcases List.mem_append.mp hx with hx | hx
    · obtain ⟨k, hk, hx⟩ := mem_keptR hx
      exact ⟨k, by omega, hx⟩
    · refine ⟨n, by omega, ?_⟩
      unfold keepAt at hx
      rcases List.mem_append.mp hx with hx | hx
      · split at hx
        · exact nomatch hx
        · exact .inl (List.mem_singleton.mp hx)
      · split at hx
        · rename_i hc
          exact .inr ⟨hc, List.mem_singleton.mp hx⟩
        · exact nomatch hx
theorem len_keptR {ps : List Pt} {h : Pt → Rat} : ∀ n, (keptR ps h n).length ≤ 2 * n
  | 0 => Nat.le_refl _
  | n + 1 => by
    have := len_keptR (ps := ps) (h := h) n
    unfold keptR keepAt
    rw [List.length_append, List.length_append]
    have e1 : (if h (pt ps n) < 0 then ([] : List Pt) else [pt ps n]).length ≤ 1 := by split <;> simp
    have e2 : (if h (pt ps n) * h (pt ps ((n + 1) % ps.length)) < 0 then [btw (pt ps n) (pt ps ((n + 1) % ps.length)) (h (pt ps n)) (h (pt ps ((n + 1) % ps.length)))] else ([] : List Pt)).length ≤ 1 := by split <;> simp
    omega
/-- along one axis alone -/
def Flat (ps : List Pt) : Prop := (∃ c, ∀ p ∈ ps, p.1 = c) ∨ ∃ c, ∀ p ∈ ps, p.2 = c
theorem kept_mem {ps : List Pt} {h : Pt → Rat} {x : Pt} (hx : x ∈ kept ps h) : ∃ p q, p ∈ ps ∧ q ∈ ps ∧ (x = p ∨ (h p * h q < 0 ∧ x = btw p q (h p) (h q) ∧ ∃ k, k < ps.length ∧ p = pt ps k ∧ q = pt ps ((k + 1) % ps.length))) := by
  obtain ⟨k, hk, h1⟩ := mem_keptR hx
  have hk2 : (k + 1) % ps.length < ps.length := Nat.mod_lt _ (by omega)
  exact ⟨_, _, pt_mem hk, pt_mem hk2, h1.imp id fun ⟨a, b⟩ => ⟨a, b, k, hk, rfl, rfl⟩⟩
theorem kept_flat {ps : List Pt} {h : Pt → Rat} (hf : Flat ps) : Flat (kept ps h) := by
  rcases hf with ⟨c, hc⟩ | ⟨c, hc⟩
  · refine .inl ⟨c, fun x hx => ?_⟩
    obtain ⟨p, q, hp, hq, rfl | ⟨_, rfl, _⟩⟩ := kept_mem hx
    · exact hc _ hp
    · show p.1 + _ * (q.1 - p.1) = c
      rw [hc p hp, hc q hq]
      grind
  · refine .inr ⟨c, fun x hx => ?_⟩
    obtain ⟨p, q, hp, hq, rfl | ⟨_, rfl, _⟩⟩ := kept_mem hx
    · exact hc _ hp
    · show p.2 + _ * (q.2 - p.2) = c
      rw [hc p hp, hc q hq]
      grind
/-- neighbours differ in one number alone -/
def Axl (ps : List Pt) : Prop := ∀ k, k < ps.length → (pt ps k).1 = (pt ps ((k + 1) % ps.length)).1 ∨ (pt ps k).2 = (pt ps ((k + 1) % ps.length)).2
theorem Flat.axl {ps : List Pt} (h : Flat ps) : Axl ps := fun k hk => by
  have hk2 : (k + 1) % ps.length < ps.length := Nat.mod_lt _ (by omega)
  rcases h with ⟨c, hc⟩ | ⟨c, hc⟩
  · exact .inl (by rw [hc _ (pt_mem hk), hc _ (pt_mem hk2)])
  · exact .inr (by rw [hc _ (pt_mem hk), hc _ (pt_mem hk2)])
theorem btw_y {x y z κ b : Rat} (hk : κ ≠ 0) (hy : y ≠ z) : btw (x, y) (x, z) (κ * (y - b)) (κ * (z - b)) = (x, b) := by
  have h1 : κ * (y - b) - κ * (z - b) ≠ 0 := by
    rw [show κ * (y - b) - κ * (z - b) = κ * (y - z) by grind]
    exact fun e => (Rat.mul_eq_zero.mp e).elim hk fun e => hy (by grind)
  unfold btw
  refine Prod.ext ?_ ?_
  · show x + _ * (x - x) = x
    grind
  · show y + κ * (y - b) / (κ * (y - b) - κ * (z - b)) * (z - y) = b
    grind
theorem btw_x {x y z κ b : Rat} (hk : κ ≠ 0) (hy : y ≠ z) : btw (y, x) (z, x) (κ * (y - b)) (κ * (z - b)) = (b, x) := by
  have h1 : κ * (y - b) - κ * (z - b) ≠ 0 := by
    rw [show κ * (y - b) - κ * (z - b) = κ * (y - z) by grind]
    exact fun e => (Rat.mul_eq_zero.mp e).elim hk fun e => hy (by grind)
  unfold btw
  refine Prod.ext ?_ ?_
  · show y + κ * (y - b) / (κ * (y - b) - κ * (z - b)) * (z - y) = b
    grind
  · show x + _ * (x - x) = x
    grind
theorem sq_pos (u : Rat) : ¬ u * u < 0 := by
  rcases Rat.le_total (a := u) (b := 0) with z | z
  · have := Rat.mul_nonneg (show 0 ≤ -u by grind) (show 0 ≤ -u by grind)
    grind
  · have := Rat.mul_nonneg z z
    grind
theorem kept_B {B : Rat → Prop} {ps : List Pt} {h : Pt → Rat} {κ b : Rat} (hk : κ ≠ 0) (hh : (∀ p, h p = κ * (p.2 - b)) ∨ ∀ p, h p = κ * (p.1 - b)) (ha : Axl ps) (hb : B b) (hp : ∀ p ∈ ps, B p.1 ∧ B p.2) : ∀ p ∈ kept ps h, B p.1 ∧ B p.2 := fun x hx => by
  obtain ⟨p, q, h1, h2, rfl | ⟨hc, rfl, k, hk', rfl, rfl⟩⟩ := kept_mem hx
  · exact hp _ h1
  · have ax := ha k hk'
    have b1 := hp _ h1
    have b2 := hp _ h2
    generalize pt ps k = p at *
    generalize pt ps ((k + 1) % ps.length) = q at *
    obtain ⟨p1, p2⟩ := p
    obtain ⟨q1, q2⟩ := q
    dsimp only at ax b1 b2
    rcases hh with hh | hh
    · rw [hh, hh] at hc ⊢
      dsimp only at hc ⊢
      have hne : p2 ≠ q2 := fun e => by
        subst e
        exact sq_pos _ hc
      have e : p1 = q1 := ax.resolve_right hne
      subst e
      rw [btw_y hk hne]
      exact ⟨b1.1, hb⟩
    · rw [hh, hh] at hc ⊢
      dsimp only at hc ⊢
      have hne : p1 ≠ q1 := fun e => by
        subst e
        exact sq_pos _ hc
      have e : p2 = q2 := ax.resolve_left hne
      subst e
      rw [btw_x hk hne]
      exact ⟨hb, b1.2⟩
/-! #### four corners -/
section
variable {A B C D' : Pt} {h : Pt → Rat} {u v : Rat}
theorem kept4 (A B C D' : Pt) : kept [A, B, C, D'] h = ((if h A < 0 then [] else [A]) ++ (if h A * h B < 0 then [btw A B (h A) (h B)] else [])) ++ ((if h B < 0 then [] else [B]) ++ (if h B * h C < 0 then [btw B C (h B) (h C)] else [])) ++ ((if h C < 0 then [] else [C]) ++ (if h C * h D' < 0 then [btw C D' (h C) (h D')] else [])) ++ ((if h D' < 0 then [] else [D']) ++ (if h D' * h A < 0 then [btw D' A (h D') (h A)] else [])) := by
  have m0 : (0 + 1) % [A, B, C, D'].length = 1 := show 1 % 4 = 1 from rfl
  have m1 : (1 + 1) % [A, B, C, D'].length = 2 := show 2 % 4 = 2 from rfl
  have m2 : (2 + 1) % [A, B, C, D'].length = 3 := show 3 % 4 = 3 from rfl
  have m3 : (3 + 1) % [A, B, C, D'].length = 0 := show 4 % 4 = 0 from rfl
  have p0 : pt [A, B, C, D'] 0 = A := rfl
  have p1 : pt [A, B, C, D'] 1 = B := rfl
  have p2 : pt [A, B, C, D'] 2 = C := rfl
  have p3 : pt [A, B, C, D'] 3 = D' := rfl
  show keptR [A, B, C, D'] h 4 = _
  simp only [keptR, keepAt, m0, m1, m2, m3, p0, p1, p2, p3, List.nil_append]
theorem neg_mul {u v : Rat} (hu : u < 0) (hv : 0 < v) : u * v < 0 := by
  have := Rat.mul_pos (show 0 < -u by grind) hv
  grind
theorem neg_mul' {u v : Rat} (hu : u < 0) (hv : 0 < v) : v * u < 0 := by
  rw [Rat.mul_comm]
  exact neg_mul hu hv
theorem same_mul {u v : Rat} (hu : 0 ≤ u) (hv : 0 ≤ v) : ¬ u * v < 0 := by
  have := Rat.mul_nonneg hu hv
  grind
theorem same_mul' {u v : Rat} (hu : u < 0) (hv : v < 0) : ¬ u * v < 0 := by
  have := Rat.mul_pos (show 0 < -u by grind) (show 0 < -v by grind)
  grind
/-- which of two heights are below: both above, one below, none -/
theorem pat1 (a : h A = u) (b : h B = u) (c : h C = v) (d : h D' = v) :
    (0 ≤ u → 0 ≤ v → kept [A, B, C, D'] h = [A, B, C, D']) ∧ (u < 0 → v < 0 → kept [A, B, C, D'] h = []) ∧ (u < 0 → v = 0 → kept [A, B, C, D'] h = [C, D']) ∧ (v < 0 → u = 0 → kept [A, B, C, D'] h = [A, B]) ∧
    (u < 0 → 0 < v → kept [A, B, C, D'] h = [btw B C u v, C, D', btw D' A v u]) ∧ (v < 0 → 0 < u → kept [A, B, C, D'] h = [A, B, btw B C u v, btw D' A v u]) := by
  rw [kept4, a, b, c, d]
  have T : ∀ {p : Prop}, p → p = True := fun h => eq_true h
  have F : ∀ {p : Prop}, ¬p → p = False := fun h => eq_false h
  have uu := F (sq_pos u)
  have vv := F (sq_pos v)
  refine ⟨fun h1 h2 => ?_, fun h1 h2 => ?_, fun h1 h2 => ?_, fun h1 h2 => ?_, fun h1 h2 => ?_, fun h1 h2 => ?_⟩
  · simp only [F (show ¬ u < 0 by grind), F (show ¬ v < 0 by grind), uu, vv, F (same_mul h1 h2), F (same_mul h2 h1), if_true, if_false, List.nil_append, List.append_nil, List.cons_append]
  · simp only [T h1, T h2, uu, vv, F (same_mul' h1 h2), F (same_mul' h2 h1), if_true, if_false, List.nil_append, List.append_nil, List.cons_append]
  · subst h2
    simp only [T h1, F (show ¬ (0 : Rat) < 0 by grind), uu, F (sq_pos 0), F (show ¬ u * 0 < 0 by grind), F (show ¬ 0 * u < 0 by grind), if_true, if_false, List.nil_append, List.append_nil, List.cons_append]
  · subst h2
    simp only [T h1, F (show ¬ (0 : Rat) < 0 by grind), vv, F (sq_pos 0), F (show ¬ v * 0 < 0 by grind), F (show ¬ 0 * v < 0 by grind), if_true, if_false, List.nil_append, List.append_nil, List.cons_append]
  · simp only [T h1, F (show ¬ v < 0 by grind), uu, vv, T (neg_mul h1 h2), T (neg_mul' h1 h2), if_true, if_false, List.nil_append, List.append_nil, List.cons_append]
  · simp only [T h1, F (show ¬ u < 0 by grind), uu, vv, T (neg_mul h1 h2), T (neg_mul' h1 h2), if_true, if_false, List.nil_append, List.append_nil, List.cons_append]
theorem pat2 (a : h A = u) (b : h B = v) (c : h C = v) (d : h D' = u) :
    (0 ≤ u → 0 ≤ v → kept [A, B, C, D'] h = [A, B, C, D']) ∧ (u < 0 → v < 0 → kept [A, B, C, D'] h = []) ∧ (u < 0 → v = 0 → kept [A, B, C, D'] h = [B, C]) ∧ (v < 0 → u = 0 → kept [A, B, C, D'] h = [A, D']) ∧
    (u < 0 → 0 < v → kept [A, B, C, D'] h = [btw A B u v, B, C, btw C D' v u]) ∧ (v < 0 → 0 < u → kept [A, B, C, D'] h = [A, btw A B u v, btw C D' v u, D']) := by
  rw [kept4, a, b, c, d]
  have T : ∀ {p : Prop}, p → p = True := fun h => eq_true h
  have F : ∀ {p : Prop}, ¬p → p = False := fun h => eq_false h
  have uu := F (sq_pos u)
  have vv := F (sq_pos v)
  refine ⟨fun h1 h2 => ?_, fun h1 h2 => ?_, fun h1 h2 => ?_, fun h1 h2 => ?_, fun h1 h2 => ?_, fun h1 h2 => ?_⟩
  · simp only [F (show ¬ u < 0 by grind), F (show ¬ v < 0 by grind), uu, vv, F (same_mul h1 h2), F (same_mul h2 h1), if_true, if_false, List.nil_append, List.append_nil, List.cons_append]
  · simp only [T h1, T h2, uu, vv, F (same_mul' h1 h2), F (same_mul' h2 h1), if_true, if_false, List.nil_append, List.append_nil, List.cons_append]
  · subst h2
    simp only [T h1, F (show ¬ (0 : Rat) < 0 by grind), uu, F (sq_pos 0), F (show ¬ u * 0 < 0 by grind), F (show ¬ 0 * u < 0 by grind), if_true, if_false, List.nil_append, List.append_nil, List.cons_append]
  · subst h2
    simp only [T h1, F (show ¬ (0 : Rat) < 0 by grind), vv, F (sq_pos 0), F (show ¬ v * 0 < 0 by grind), F (show ¬ 0 * v < 0 by grind), if_true, if_false, List.nil_append, List.append_nil, List.cons_append]
  · simp only [T h1, F (show ¬ v < 0 by grind), uu, vv, T (neg_mul h1 h2), T (neg_mul' h1 h2), if_true, if_false, List.nil_append, List.append_nil, List.cons_append]
  · simp only [T h1, F (show ¬ u < 0 by grind), uu, vv, T (neg_mul h1 h2), T (neg_mul' h1 h2), if_true, if_false, List.nil_append, List.append_nil, List.cons_append]
end

/-! ### k72: boxes cut along axes -/
def cs (x0 x1 y0 y1 : Rat) : Nat → List Pt
  | 0 => [(x0, y0), (x1, y0), (x1, y1), (x0, y1)]
  | 1 => [(x1, y0), (x1, y1), (x0, y1), (x0, y0)]
  | 2 => [(x1, y1), (x0, y1), (x0, y0), (x1, y0)]
  | _ => [(x0, y1), (x0, y0), (x1, y0), (x1, y1)]
structure Box (ps : List Pt) (x0 x1 y0 y1 : Rat) : Prop where
  hx : x0 < x1
  hy : y0 < y1
  at_ : ∃ r, r < 4 ∧ ps = cs x0 x1 y0 y1 r
theorem flat2y {p q : Pt} (h : p.2 = q.2) : Flat [p, q] := .inr ⟨q.2, fun x hx => by
  rcases List.mem_cons.mp hx with rfl | hx
  · exact h
  · rw [List.mem_singleton.mp hx]⟩
theorem flat2x {p q : Pt} (h : p.1 = q.1) : Flat [p, q] := .inl ⟨q.1, fun x hx => by
  rcases List.mem_cons.mp hx with rfl | hx
  · exact h
  · rw [List.mem_singleton.mp hx]⟩
theorem flat0 : Flat [] := .inl ⟨0, fun _ h => nomatch h⟩
section
variable {h : Pt → Rat} {x0 x1 y0 y1 u v b κ : Rat}
/-- what a cut across the second number leaves -/
structure CutY (ks ps : List Pt) (x0 x1 y0 y1 b u v : Rat) : Prop where
  all : 0 ≤ u → 0 ≤ v → ks = ps
  none : u < 0 → v < 0 → ks = []
  lo : u < 0 → v = 0 → Flat ks
  hi : v < 0 → u = 0 → Flat ks
  up : u < 0 → 0 < v → ∃ r, r < 4 ∧ ks = cs x0 x1 b y1 r
  dn : v < 0 → 0 < u → ∃ r, r < 4 ∧ ks = cs x0 x1 y0 b r
theorem cutY {r : Nat} (hr : r < 4) (h1 : ∀ x, h (x, y0) = u) (h2 : ∀ x, h (x, y1) = v) (c1 : ∀ x, btw (x, y0) (x, y1) u v = (x, b)) (c2 : ∀ x, btw (x, y1) (x, y0) v u = (x, b)) :
    CutY (kept (cs x0 x1 y0 y1 r) h) (cs x0 x1 y0 y1 r) x0 x1 y0 y1 b u v := by
  match r, hr with
  | 0, _ =>
    obtain ⟨p1, p2, p3, p4, p5, p6⟩ := pat1 (h1 x0) (h1 x1) (h2 x1) (h2 x0)
    exact ⟨p1, p2, fun a z => by rw [show kept (cs x0 x1 y0 y1 0) h = _ from p3 a z]; exact flat2y rfl, fun a z => by rw [show kept (cs x0 x1 y0 y1 0) h = _ from p4 a z]; exact flat2y rfl,
      fun a z => ⟨1, by decide, by rw [show kept (cs x0 x1 y0 y1 0) h = _ from p5 a z, c1, c2]; rfl⟩, fun a z => ⟨0, by decide, by rw [show kept (cs x0 x1 y0 y1 0) h = _ from p6 a z, c1, c2]; rfl⟩⟩
  | 1, _ =>
    obtain ⟨p1, p2, p3, p4, p5, p6⟩ := pat2 (h1 x1) (h2 x1) (h2 x0) (h1 x0)
    exact ⟨p1, p2, fun a z => by rw [show kept (cs x0 x1 y0 y1 1) h = _ from p3 a z]; exact flat2y rfl, fun a z => by rw [show kept (cs x0 x1 y0 y1 1) h = _ from p4 a z]; exact flat2y rfl,
      fun a z => ⟨1, by decide, by rw [show kept (cs x0 x1 y0 y1 1) h = _ from p5 a z, c1, c2]; rfl⟩, fun a z => ⟨1, by decide, by rw [show kept (cs x0 x1 y0 y1 1) h = _ from p6 a z, c1, c2]; rfl⟩⟩
  | 2, _ =>
    obtain ⟨p1, p2, p3, p4, p5, p6⟩ := pat1 (h2 x1) (h2 x0) (h1 x0) (h1 x1)
    exact ⟨fun a z => p1 z a, fun a z => p2 z a, fun a z => by rw [show kept (cs x0 x1 y0 y1 2) h = _ from p4 a z]; exact flat2y rfl, fun a z => by rw [show kept (cs x0 x1 y0 y1 2) h = _ from p3 a z]; exact flat2y rfl,
      fun a z => ⟨2, by decide, by rw [show kept (cs x0 x1 y0 y1 2) h = _ from p6 a z, c1, c2]; rfl⟩, fun a z => ⟨3, by decide, by rw [show kept (cs x0 x1 y0 y1 2) h = _ from p5 a z, c1, c2]; rfl⟩⟩
  | 3, _ =>
    obtain ⟨p1, p2, p3, p4, p5, p6⟩ := pat2 (h2 x0) (h1 x0) (h1 x1) (h2 x1)
    exact ⟨fun a z => p1 z a, fun a z => p2 z a, fun a z => by rw [show kept (cs x0 x1 y0 y1 3) h = _ from p4 a z]; exact flat2y rfl, fun a z => by rw [show kept (cs x0 x1 y0 y1 3) h = _ from p3 a z]; exact flat2y rfl,
      fun a z => ⟨3, by decide, by rw [show kept (cs x0 x1 y0 y1 3) h = _ from p6 a z, c1, c2]; rfl⟩, fun a z => ⟨3, by decide, by rw [show kept (cs x0 x1 y0 y1 3) h = _ from p5 a z, c1, c2]; rfl⟩⟩
structure CutX (ks ps : List Pt) (x0 x1 y0 y1 b u v : Rat) : Prop where
  all : 0 ≤ u → 0 ≤ v → ks = ps
  none : u < 0 → v < 0 → ks = []
  lo : u < 0 → v = 0 → Flat ks
  hi : v < 0 → u = 0 → Flat ks
  up : u < 0 → 0 < v → ∃ r, r < 4 ∧ ks = cs b x1 y0 y1 r
  dn : v < 0 → 0 < u → ∃ r, r < 4 ∧ ks = cs x0 b y0 y1 r
theorem cutX {r : Nat} (hr : r < 4) (h1 : ∀ y, h (x0, y) = u) (h2 : ∀ y, h (x1, y) = v) (c1 : ∀ y, btw (x0, y) (x1, y) u v = (b, y)) (c2 : ∀ y, btw (x1, y) (x0, y) v u = (b, y)) :
    CutX (kept (cs x0 x1 y0 y1 r) h) (cs x0 x1 y0 y1 r) x0 x1 y0 y1 b u v := by
  match r, hr with
  | 0, _ =>
    obtain ⟨p1, p2, p3, p4, p5, p6⟩ := pat2 (h1 y0) (h2 y0) (h2 y1) (h1 y1)
    exact ⟨p1, p2, fun a z => by rw [show kept (cs x0 x1 y0 y1 0) h = _ from p3 a z]; exact flat2x rfl, fun a z => by rw [show kept (cs x0 x1 y0 y1 0) h = _ from p4 a z]; exact flat2x rfl,
      fun a z => ⟨0, by decide, by rw [show kept (cs x0 x1 y0 y1 0) h = _ from p5 a z, c1, c2]; rfl⟩, fun a z => ⟨0, by decide, by rw [show kept (cs x0 x1 y0 y1 0) h = _ from p6 a z, c1, c2]; rfl⟩⟩
  | 1, _ =>
    obtain ⟨p1, p2, p3, p4, p5, p6⟩ := pat1 (h2 y0) (h2 y1) (h1 y1) (h1 y0)
    exact ⟨fun a z => p1 z a, fun a z => p2 z a, fun a z => by rw [show kept (cs x0 x1 y0 y1 1) h = _ from p4 a z]; exact flat2x rfl, fun a z => by rw [show kept (cs x0 x1 y0 y1 1) h = _ from p3 a z]; exact flat2x rfl,
      fun a z => ⟨1, by decide, by rw [show kept (cs x0 x1 y0 y1 1) h = _ from p6 a z, c1, c2]; rfl⟩, fun a z => ⟨2, by decide, by rw [show kept (cs x0 x1 y0 y1 1) h = _ from p5 a z, c1, c2]; rfl⟩⟩
  | 2, _ =>
    obtain ⟨p1, p2, p3, p4, p5, p6⟩ := pat2 (h2 y1) (h1 y1) (h1 y0) (h2 y0)
    exact ⟨fun a z => p1 z a, fun a z => p2 z a, fun a z => by rw [show kept (cs x0 x1 y0 y1 2) h = _ from p4 a z]; exact flat2x rfl, fun a z => by rw [show kept (cs x0 x1 y0 y1 2) h = _ from p3 a z]; exact flat2x rfl,
      fun a z => ⟨2, by decide, by rw [show kept (cs x0 x1 y0 y1 2) h = _ from p6 a z, c1, c2]; rfl⟩, fun a z => ⟨2, by decide, by rw [show kept (cs x0 x1 y0 y1 2) h = _ from p5 a z, c1, c2]; rfl⟩⟩
  | 3, _ =>
    obtain ⟨p1, p2, p3, p4, p5, p6⟩ := pat1 (h1 y1) (h1 y0) (h2 y0) (h2 y1)
    exact ⟨p1, p2, fun a z => by rw [show kept (cs x0 x1 y0 y1 3) h = _ from p3 a z]; exact flat2x rfl, fun a z => by rw [show kept (cs x0 x1 y0 y1 3) h = _ from p4 a z]; exact flat2x rfl,
      fun a z => ⟨0, by decide, by rw [show kept (cs x0 x1 y0 y1 3) h = _ from p5 a z, c1, c2]; rfl⟩, fun a z => ⟨3, by decide, by rw [show kept (cs x0 x1 y0 y1 3) h = _ from p6 a z, c1, c2]; rfl⟩⟩
variable {ps : List Pt}
theorem pmul {κ z : Rat} (hk : 0 < κ) (hz : 0 < z) : 0 < κ * z := Rat.mul_pos hk hz
theorem nmul {κ z : Rat} (hk : 0 < κ) (hz : z < 0) : κ * z < 0 := by
  have := Rat.mul_pos hk (show 0 < -z by grind)
  grind
def maxR (a b : Rat) : Rat := if a < b then b else a
def minR (a b : Rat) : Rat := if a < b then a else b
theorem clip_ylo (hk : 0 < κ) (hb : Box ps x0 x1 y0 y1) (hh : ∀ p, h p = κ * (p.2 - b)) : (b < y1 → Box (kept ps h) x0 x1 (maxR y0 b) y1) ∧ (¬ b < y1 → Flat (kept ps h)) := by
  obtain ⟨hx, hy, r, hr, rfl⟩ := hb
  have k0 : κ ≠ 0 := by grind
  have C := cutY (x0 := x0) (x1 := x1) (u := κ * (y0 - b)) (v := κ * (y1 - b)) (b := b) hr (fun x => hh (x, y0)) (fun x => hh (x, y1)) (fun x => btw_y k0 (by grind)) (fun x => btw_y k0 (by grind))
  refine ⟨fun hb1 => ?_, fun hb1 => ?_⟩
  · have hv := pmul hk (show 0 < y1 - b by grind)
    by_cases hb0 : y0 < b
    · have hu := nmul hk (show y0 - b < 0 by grind)
      have e : maxR y0 b = b := if_pos hb0
      rw [e]
      exact ⟨hx, hb1, C.up hu hv⟩
    · have hu : 0 ≤ κ * (y0 - b) := Rat.mul_nonneg (by grind) (by grind)
      have e : maxR y0 b = y0 := if_neg hb0
      rw [e, C.all hu (by grind)]
      exact ⟨hx, hy, r, hr, rfl⟩
  · have hu := nmul hk (show y0 - b < 0 by grind)
    by_cases e : b = y1
    · exact C.lo hu (by subst e; grind)
    · rw [C.none hu (nmul hk (by grind))]
      exact flat0
theorem clip_yhi (hk : 0 < κ) (hb : Box ps x0 x1 y0 y1) (hh : ∀ p, h p = -κ * (p.2 - b)) : (y0 < b → Box (kept ps h) x0 x1 y0 (minR y1 b)) ∧ (¬ y0 < b → Flat (kept ps h)) := by
  obtain ⟨hx, hy, r, hr, rfl⟩ := hb
  have k0 : -κ ≠ 0 := by grind
  have C := cutY (x0 := x0) (x1 := x1) (u := -κ * (y0 - b)) (v := -κ * (y1 - b)) (b := b) hr (fun x => hh (x, y0)) (fun x => hh (x, y1)) (fun x => btw_y k0 (by grind)) (fun x => btw_y k0 (by grind))
  refine ⟨fun hb1 => ?_, fun hb1 => ?_⟩
  · have hu : 0 < -κ * (y0 - b) := by have := pmul hk (show 0 < b - y0 by grind); grind
    by_cases hb0 : y1 < b
    · have hv : 0 ≤ -κ * (y1 - b) := by have := pmul hk (show 0 < b - y1 by grind); grind
      have e : minR y1 b = y1 := if_pos hb0
      rw [e, C.all (by grind) hv]
      exact ⟨hx, hy, r, hr, rfl⟩
    · have e : minR y1 b = b := if_neg hb0
      rw [e]
      by_cases e2 : b = y1
      · have hv : -κ * (y1 - b) = 0 := by subst e2; grind
        rw [C.all (by grind) (by grind), e2]
        exact ⟨hx, hy, r, hr, rfl⟩
      · have hv : -κ * (y1 - b) < 0 := by have := nmul hk (show b - y1 < 0 by grind); grind
        exact ⟨hx, hb1, C.dn hv hu⟩
  · have hv : -κ * (y1 - b) < 0 := by have := nmul hk (show b - y1 < 0 by grind); grind
    by_cases e : b = y0
    · exact C.hi hv (by subst e; grind)
    · rw [C.none (by have := nmul hk (show b - y0 < 0 by grind); grind) hv]
      exact flat0
theorem clip_xlo (hk : 0 < κ) (hb : Box ps x0 x1 y0 y1) (hh : ∀ p, h p = κ * (p.1 - b)) : (b < x1 → Box (kept ps h) (maxR x0 b) x1 y0 y1) ∧ (¬ b < x1 → Flat (kept ps h)) := by
  obtain ⟨hx, hy, r, hr, rfl⟩ := hb
  have k0 : κ ≠ 0 := by grind
  have C := cutX (y0 := y0) (y1 := y1) (u := κ * (x0 - b)) (v := κ * (x1 - b)) (b := b) hr (fun x => hh (x0, x)) (fun x => hh (x1, x)) (fun x => btw_x k0 (by grind)) (fun x => btw_x k0 (by grind))
  refine ⟨fun hb1 => ?_, fun hb1 => ?_⟩
  · have hv := pmul hk (show 0 < x1 - b by grind)
    by_cases hb0 : x0 < b
    · have hu := nmul hk (show x0 - b < 0 by grind)
      have e : maxR x0 b = b := if_pos hb0
      rw [e]
      exact ⟨hb1, hy, C.up hu hv⟩
    · have hu : 0 ≤ κ * (x0 - b) := Rat.mul_nonneg (by grind) (by grind)
      have e : maxR x0 b = x0 := if_neg hb0
      rw [e, C.all hu (by grind)]
      exact ⟨hx, hy, r, hr, rfl⟩
  · have hu := nmul hk (show x0 - b < 0 by grind)
    by_cases e : b = x1
    · exact C.lo hu (by subst e; grind)
    · rw [C.none hu (nmul hk (by grind))]
      exact flat0
theorem clip_xhi (hk : 0 < κ) (hb : Box ps x0 x1 y0 y1) (hh : ∀ p, h p = -κ * (p.1 - b)) : (x0 < b → Box (kept ps h) x0 (minR x1 b) y0 y1) ∧ (¬ x0 < b → Flat (kept ps h)) := by
  obtain ⟨hx, hy, r, hr, rfl⟩ := hb
  have k0 : -κ ≠ 0 := by grind
  have C := cutX (y0 := y0) (y1 := y1) (u := -κ * (x0 - b)) (v := -κ * (x1 - b)) (b := b) hr (fun x => hh (x0, x)) (fun x => hh (x1, x)) (fun x => btw_x k0 (by grind)) (fun x => btw_x k0 (by grind))
  refine ⟨fun hb1 => ?_, fun hb1 => ?_⟩
  · have hu : 0 < -κ * (x0 - b) := by have := pmul hk (show 0 < b - x0 by grind); grind
    by_cases hb0 : x1 < b
    · have hv : 0 ≤ -κ * (x1 - b) := by have := pmul hk (show 0 < b - x1 by grind); grind
      have e : minR x1 b = x1 := if_pos hb0
      rw [e, C.all (by grind) hv]
      exact ⟨hx, hy, r, hr, rfl⟩
    · have e : minR x1 b = b := if_neg hb0
      rw [e]
      by_cases e2 : b = x1
      · have hv : -κ * (x1 - b) = 0 := by subst e2; grind
        rw [C.all (by grind) (by grind), e2]
        exact ⟨hx, hy, r, hr, rfl⟩
      · have hv : -κ * (x1 - b) < 0 := by have := nmul hk (show b - x1 < 0 by grind); grind
        exact ⟨hb1, hy, C.dn hv hu⟩
  · have hv : -κ * (x1 - b) < 0 := by have := nmul hk (show b - x1 < 0 by grind); grind
    by_cases e : b = x0
    · exact C.hi hv (by subst e; grind)
    · rw [C.none (by have := nmul hk (show b - x0 < 0 by grind); grind) hv]
      exact flat0
end

/-! ### k72: turns, places between, sides -/
theorem sp_turn_at {a b p : Pt} {P : D → Prop} (ha : PB a) (hb : PB b) (hp : PB p) (h : P (rD (turnR a b p))) : (f_turn_at [pD a, pD b, pD p]).wp P NoE := by
  obtain ⟨a1, a2⟩ := a
  obtain ⟨b1, b2⟩ := b
  obtain ⟨p1, p2⟩ := p
  obtain ⟨ha1, ha2⟩ := ha
  obtain ⟨hb1, hb2⟩ := hb
  obtain ⟨hp1, hp2⟩ := hp
  dsimp only at ha1 ha2 hb1 hb2 hp1 hp2
  unfold pD
  wtm_at "y_in"
  repeat' wtm_at "y_dy"
  refine sp_ratio_less hb1 ha1 (by decide) ?_
  repeat' wtm_at "y_dy"
  refine sp_ratio_less hp2 ha2 (by decide) ?_
  repeat' wtm_at "y_dy"
  refine sp_ratio_times (hb1.sub ha1) (hp2.sub ha2) (by decide) ?_
  repeat' wtm_at "y_dy"
  refine sp_ratio_less hb2 ha2 (by decide) ?_
  repeat' wtm_at "y_dy"
  refine sp_ratio_less hp1 ha1 (by decide) ?_
  repeat' wtm_at "y_dy"
  refine sp_ratio_times (hb2.sub ha2) (hp1.sub ha1) (by decide) ?_
  repeat' wtm_at "y_dy"
  refine sp_ratio_less ((hb1.sub ha1).mul (hp2.sub ha2)) ((hb2.sub ha2).mul (hp1.sub ha1)) (by decide) ?_
  exact h
abbrev HB (x : Rat) : Prop := RB 110 80 x
theorem turn_HB {a b p : Pt} (ha : PB a) (hb : PB b) (hp : PB p) : HB (turnR a b p) := (((hb.1.sub ha.1).mul (hp.2.sub ha.2)).sub ((hb.2.sub ha.2).mul (hp.1.sub ha.1))).mono (by decide) (by decide)
theorem sp_between {p q : Pt} {u v : Rat} {P : D → Prop} (hp : PB p) (hq : PB q) (hu : HB u) (hv : HB v) (hd : u - v ≠ 0) (h : P (pD (btw p q u v))) : (f_between [pD p, pD q, rD u, rD v]).wp P NoE := by
  have h : P (.tup [rD (p.1 + u / (u - v) * (q.1 - p.1)), rD (p.2 + u / (u - v) * (q.2 - p.2))]) := h
  have hs : RB 280 280 (u / (u - v)) := (hu.div hd (hu.sub hv)).mono (by decide) (by decide)
  obtain ⟨p1, p2⟩ := p
  obtain ⟨q1, q2⟩ := q
  obtain ⟨hp1, hp2⟩ := hp
  obtain ⟨hq1, hq2⟩ := hq
  dsimp only at hp1 hp2 hq1 hq2 h
  unfold pD
  wtm_at "y_in"
  repeat' wtm_at "y_dy"
  refine sp_ratio_less hu hv (by decide) ?_
  repeat' wtm_at "y_dy"
  refine sp_ratio_by hd hu (hu.sub hv) (by decide) ?_
  generalize u / (u - v) = s at h hs ⊢
  repeat' wtm_at "y_dy"
  refine sp_ratio_less hq1 hp1 (by decide) ?_
  repeat' wtm_at "y_dy"
  refine sp_ratio_times hs (hq1.sub hp1) (by decide) ?_
  repeat' wtm_at "y_dy"
  refine sp_ratio_sum hp1 (hs.mul (hq1.sub hp1)) (by decide) ?_
  repeat' wtm_at "y_dy"
  refine sp_ratio_less hq2 hp2 (by decide) ?_
  repeat' wtm_at "y_dy"
  refine sp_ratio_times hs (hq2.sub hp2) (by decide) ?_
  repeat' wtm_at "y_dy"
  refine sp_ratio_sum hp2 (hs.mul (hq2.sub hp2)) (by decide) ?_
  repeat' wtm_at "y_dy"
  exact h
theorem sp_kept {ps : List Pt} {h : Pt → Rat} {P : D → Prop} (hl : ps.length ≤ 100) (hb : ∀ p ∈ ps, PB p) (hh : ∀ p ∈ ps, HB (h p)) (hP : P (.lst ((kept ps h).map pD))) {dp dh : D} (hdp : D.lst (ps.map pD) = dp) (hdh : D.lst (ps.map fun p => rD (h p)) = dh) : (f_kept_side [dp, dh]).wp P NoE := by
  have hx : ∀ k : Nat, k < ps.length → oIx dp (.int k) = some (pD (pt ps k)) := fun k hk => by
    have := ix_pt hdp (K := k) (by omega) (by omega)
    rw [Int.toNat_natCast] at this
    exact this
  have hy : ∀ k : Nat, k < ps.length → oIx dh (.int k) = some (rD (h (pt ps k))) := fun k hk => by
    rw [← hdh]
    refine atI_nat ?_
    rw [List.getElem?_map, List.getElem?_eq_getElem hk]
    unfold pt
    rw [List.getD_eq_getElem?_getD, List.getElem?_eq_getElem hk]
    rfl
  have hn := len_pt hdp
  obtain ⟨L, hL⟩ : ∃ L : Int, (ps.length : Int) = L := ⟨_, rfl⟩
  rw [hL] at hn
  wtm_at "y_in"
  repeat' wtm_at "y_dy"
  refine g_ot hn ?_
  repeat' ((fail_if_success (with_reducible show SR.wp (forS _ _ _ _) _ _ _)); wtm_at "y_dy")
  refine forS_inv (fun k ρ => ∃ (w1 w2 : Sl), ρ = [.val dp, .val dh, .own ((keptR ps h k).map pD), w1, w2]) ⟨_, _, rfl⟩ ?_ ?_
  · rintro k _ _ ed ⟨w1, w2, rfl⟩
    obtain ⟨rfl, hk⟩ := rangeD_get ed
    have hk2 : k < ps.length := by omega
    have hm2 : (k + 1) % ps.length < ps.length := Nat.mod_lt _ (by omega)
    have hlk := len_keptR (ps := ps) (h := h) k
    have ek := hx k hk2
    have eh := hy k hk2
    have ek' := hx _ hm2
    have eh' := hy _ hm2
    have em : ((k : Int) + 1) % L = (((k + 1) % ps.length : Nat) : Int) := by rw [← hL]; rfl
    have b1 := hb _ (pt_mem hk2)
    have b2 := hb _ (pt_mem hm2)
    have c1 := hh _ (pt_mem hk2)
    have c2 := hh _ (pt_mem hm2)
    have kA : keptR ps h (k + 1) = keptR ps h k ++ keepAt ps h k := rfl
    unfold keepAt at kA
    generalize hm : (k + 1) % ps.length = m at ek' eh' em b2 c2 kA
    generalize pt ps k = p at ek eh b1 c1 kA
    generalize pt ps m = q at ek' eh' b2 c2 kA
    rw [Int.zero_add]
    obtain ⟨K, hK⟩ : ∃ K : Int, (k : Int) = K := ⟨_, rfl⟩
    obtain ⟨M, hM⟩ : ∃ M : Int, (m : Int) = M := ⟨_, rfl⟩
    rw [hK] at ek eh em ⊢
    rw [hM] at ek' eh' em
    have hs0 : ((keptR ps h k).map pD).length < sizeLine := by rw [List.length_map, sizeLine_eq]; omega
    repeat' wtm_at "y_dy"
    refine g_ot hn ?_
    repeat' ((fail_if_success (with_reducible show SR.wp (sSeq (sIf _ _ _) _ _) _ _ _)); wtm_at "y_dy")
    rw [em]
    generalize hR : keptR ps h k = R at hlk kA hs0 ⊢
    generalize hu : h p = u at *
    generalize hv : h q = v at *
    refine sp_seq (SR.wp.imp (N := fun ρ => ρ = [.val dp, .val dh, .own ((R ++ if u < 0 then [] else [p]).map pD), .val (.int K), .val (.int M)]) (T := P) (E := fun _ _ => False) ?_ ?_ (fun _ z => z) fun _ _ z => z)
    · repeat' wtm_at "y_dy"
      refine g_ot eh ?_
      repeat' wtm_at "y_dy"
      refine sp_under_0 c1 (by decide) ?_
      repeat' wtm_at "y_dy"
      · rename_i z
        refine g_ot ek ?_
        repeat' wtm_at "y_dy"
        rw [if_neg z, List.map_append]
        rfl
      · rename_i z
        rw [if_pos (by grind), List.append_nil]
    rintro _ rfl
    have l1 : (if u < 0 then ([] : List Pt) else [p]).length ≤ 1 := by split <;> simp
    have hs1 : ((R ++ if u < 0 then [] else [p]).map pD).length < sizeLine := by rw [List.length_map, List.length_append, sizeLine_eq]; omega
    rw [← List.append_assoc] at kA
    generalize (R ++ if u < 0 then [] else [p]) = R1 at kA hs1 ⊢
    repeat' wtm_at "y_dy"
    refine g_ot eh ?_
    repeat' wtm_at "y_dy"
    refine g_ot eh' ?_
    repeat' wtm_at "y_dy"
    refine sp_ratio_times c1 c2 (by decide) ?_
    repeat' wtm_at "y_dy"
    refine sp_under_0 (c1.mul c2) (by decide) ?_
    repeat' wtm_at "y_dy"
    · rename_i z
      refine g_ot ek ?_
      repeat' wtm_at "y_dy"
      refine g_ot ek' ?_
      repeat' wtm_at "y_dy"
      refine g_ot eh ?_
      repeat' wtm_at "y_dy"
      refine g_ot eh' ?_
      repeat' wtm_at "y_dy"
      refine sp_between b1 b2 c1 c2 (fun e => ?_) ?_
      · have e2 : u = v := by grind
        rw [e2] at z
        exact sq_pos v z
      repeat' wtm_at "y_dy"
      refine ⟨.val (.int K), .val (.int M), ?_⟩
      rw [kA, if_pos z, List.map_append]
      rfl
    · rename_i z
      refine ⟨.val (.int K), .val (.int M), ?_⟩
      rw [kA, if_neg z, List.append_nil]
  · rintro _ ⟨w1, w2, rfl⟩
    have eL : (rangeD 0 L.toNat).length = ps.length := by simp only [rangeD, List.length_map, List.length_range]; omega
    rw [eL]
    repeat' wtm_at "y_dy"
    exact hP

/-! ### k72: four cuts -/
def cutN (ps os : List Pt) : Nat → List Pt
  | 0 => ps
  | n + 1 => kept (cutN ps os n) (turnR (pt os n) (pt os ((n + 1) % os.length)))
theorem cutN_len {ps os : List Pt} (h : ps.length ≤ 4) : ∀ n, (cutN ps os n).length ≤ 4 * 2 ^ n
  | 0 => by simpa [cutN] using h
  | n + 1 => by
    have h1 := cutN_len (os := os) h n
    have h2 := len_keptR (ps := cutN ps os n) (h := turnR (pt os n) (pt os ((n + 1) % os.length))) (cutN ps os n).length
    show (keptR _ _ _).length ≤ _
    rw [Nat.pow_succ]
    omega
section
variable {B : Rat → Prop} {ps : List Pt} {x0 x1 y0 y1 a0 a1 b0 b1 : Rat}
theorem Box.axl (h : Box ps x0 x1 y0 y1) : Axl ps := by
  obtain ⟨_, _, r, hr, rfl⟩ := h
  intro k hk
  match r, hr, k, hk with
  | 0, _, 0, _ => exact .inr rfl
  | 0, _, 1, _ => exact .inl rfl
  | 0, _, 2, _ => exact .inr rfl
  | 0, _, 3, _ => rw [show (3 + 1) % (cs x0 x1 y0 y1 0).length = 0 from show 4 % 4 = 0 from rfl]; exact .inl rfl
  | 1, _, 0, _ => exact .inl rfl
  | 1, _, 1, _ => exact .inr rfl
  | 1, _, 2, _ => exact .inl rfl
  | 1, _, 3, _ => rw [show (3 + 1) % (cs x0 x1 y0 y1 1).length = 0 from show 4 % 4 = 0 from rfl]; exact .inr rfl
  | 2, _, 0, _ => exact .inr rfl
  | 2, _, 1, _ => exact .inl rfl
  | 2, _, 2, _ => exact .inr rfl
  | 2, _, 3, _ => rw [show (3 + 1) % (cs x0 x1 y0 y1 2).length = 0 from show 4 % 4 = 0 from rfl]; exact .inl rfl
  | 3, _, 0, _ => exact .inl rfl
  | 3, _, 1, _ => exact .inr rfl
  | 3, _, 2, _ => exact .inl rfl
  | 3, _, 3, _ => rw [show (3 + 1) % (cs x0 x1 y0 y1 3).length = 0 from show 4 % 4 = 0 from rfl]; exact .inr rfl
structure Good (B : Rat → Prop) (qs : List Pt) : Prop where
  sh : Flat qs ∨ ∃ x0 x1 y0 y1, Box qs x0 x1 y0 y1
  sz : ∀ p ∈ qs, B p.1 ∧ B p.2
theorem Good.axl {qs : List Pt} (h : Good B qs) : Axl qs := h.sh.elim Flat.axl fun ⟨_, _, _, _, b⟩ => b.axl
theorem Good.flat {qs : List Pt} {h : Pt → Rat} {κ b : Rat} (g : Good B qs) (hk : κ ≠ 0) (hb : B b) (hh : (∀ p, h p = κ * (p.2 - b)) ∨ ∀ p, h p = κ * (p.1 - b)) (hs : Flat (kept qs h) ∨ ∃ x0 x1 y0 y1, Box (kept qs h) x0 x1 y0 y1) : Good B (kept qs h) :=
  ⟨hs, kept_B hk hh g.axl hb g.sz⟩
/-- the four heights -/
theorem turn0 (p : Pt) : turnR (a0, b0) (a1, b0) p = (a1 - a0) * (p.2 - b0) := by unfold turnR; grind
theorem turn1 (p : Pt) : turnR (a1, b0) (a1, b1) p = -(b1 - b0) * (p.1 - a1) := by unfold turnR; grind
theorem turn2 (p : Pt) : turnR (a1, b1) (a0, b1) p = -(a1 - a0) * (p.2 - b1) := by unfold turnR; grind
theorem turn3 (p : Pt) : turnR (a0, b1) (a0, b0) p = (b1 - b0) * (p.1 - a0) := by unfold turnR; grind
theorem cut4 (ps : List Pt) : cutN ps (cs a0 a1 b0 b1 0) 4 = kept (kept (kept (kept ps (turnR (a0, b0) (a1, b0))) (turnR (a1, b0) (a1, b1))) (turnR (a1, b1) (a0, b1))) (turnR (a0, b1) (a0, b0)) := by
  have m0 : (0 + 1) % (cs a0 a1 b0 b1 0).length = 1 := show 1 % 4 = 1 from rfl
  have m1 : (1 + 1) % (cs a0 a1 b0 b1 0).length = 2 := show 2 % 4 = 2 from rfl
  have m2 : (2 + 1) % (cs a0 a1 b0 b1 0).length = 3 := show 3 % 4 = 3 from rfl
  have m3 : (3 + 1) % (cs a0 a1 b0 b1 0).length = 0 := show 4 % 4 = 0 from rfl
  simp only [cutN, m0, m1, m2, m3]
  rfl
theorem cut_one (ps : List Pt) : cutN ps (cs a0 a1 b0 b1 0) 1 = kept ps (turnR (a0, b0) (a1, b0)) := by
  have m0 : (0 + 1) % (cs a0 a1 b0 b1 0).length = 1 := show 1 % 4 = 1 from rfl
  simp only [cutN, m0]
  rfl
theorem cut_two (ps : List Pt) : cutN ps (cs a0 a1 b0 b1 0) 2 = kept (kept ps (turnR (a0, b0) (a1, b0))) (turnR (a1, b0) (a1, b1)) := by
  have m0 : (0 + 1) % (cs a0 a1 b0 b1 0).length = 1 := show 1 % 4 = 1 from rfl
  have m1 : (1 + 1) % (cs a0 a1 b0 b1 0).length = 2 := show 2 % 4 = 2 from rfl
  simp only [cutN, m0, m1]
  rfl
theorem cut_three (ps : List Pt) : cutN ps (cs a0 a1 b0 b1 0) 3 = kept (kept (kept ps (turnR (a0, b0) (a1, b0))) (turnR (a1, b0) (a1, b1))) (turnR (a1, b1) (a0, b1)) := by
  have m0 : (0 + 1) % (cs a0 a1 b0 b1 0).length = 1 := show 1 % 4 = 1 from rfl
  have m1 : (1 + 1) % (cs a0 a1 b0 b1 0).length = 2 := show 2 % 4 = 2 from rfl
  have m2 : (2 + 1) % (cs a0 a1 b0 b1 0).length = 3 := show 3 % 4 = 3 from rfl
  simp only [cutN, m0, m1, m2]
  rfl
/-- all along the cuts the corners stay small, alike or flat -/
theorem good_cuts (hb : Box ps x0 x1 y0 y1) (hB : ∀ p ∈ ps, B p.1 ∧ B p.2) (ha : a0 < a1) (hb' : b0 < b1) (B1 : B a0) (B2 : B a1) (B3 : B b0) (B4 : B b1) :
    ∀ k, k ≤ 4 → Good B (cutN ps (cs a0 a1 b0 b1 0) k) := by
  have ka : 0 < a1 - a0 := by grind
  have kb : 0 < b1 - b0 := by grind
  have g0 : Good B ps := ⟨.inr ⟨_, _, _, _, hb⟩, hB⟩
  have g1 : Good B (cutN ps (cs a0 a1 b0 b1 0) 1) := by
    rw [cut_one]
    refine g0.flat (by grind) B3 (.inl turn0) ?_
    by_cases h : b0 < y1
    · exact .inr ⟨_, _, _, _, (clip_ylo ka hb turn0).1 h⟩
    · exact .inl ((clip_ylo ka hb turn0).2 h)
  have g2 : Good B (cutN ps (cs a0 a1 b0 b1 0) 2) := by
    rw [cut_two]
    rw [cut_one] at g1
    refine g1.flat (by grind) B2 (.inr turn1) ?_
    rcases g1.sh with f | ⟨x0, x1, y0, y1, hb⟩
    · exact .inl (kept_flat f)
    · by_cases h : x0 < a1
      · exact .inr ⟨_, _, _, _, (clip_xhi kb hb turn1).1 h⟩
      · exact .inl ((clip_xhi kb hb turn1).2 h)
  have g3 : Good B (cutN ps (cs a0 a1 b0 b1 0) 3) := by
    rw [cut_three]
    rw [cut_two] at g2
    refine g2.flat (by grind) B4 (.inl turn2) ?_
    rcases g2.sh with f | ⟨x0, x1, y0, y1, hb⟩
    · exact .inl (kept_flat f)
    · by_cases h : y0 < b1
      · exact .inr ⟨_, _, _, _, (clip_yhi ka hb turn2).1 h⟩
      · exact .inl ((clip_yhi ka hb turn2).2 h)
  have g4 : Good B (cutN ps (cs a0 a1 b0 b1 0) 4) := by
    rw [cut4]
    rw [cut_three] at g3
    refine g3.flat (by grind) B1 (.inr turn3) ?_
    rcases g3.sh with f | ⟨x0, x1, y0, y1, hb⟩
    · exact .inl (kept_flat f)
    · by_cases h : a0 < x1
      · exact .inr ⟨_, _, _, _, (clip_xlo kb hb turn3).1 h⟩
      · exact .inl ((clip_xlo kb hb turn3).2 h)
  intro k hk
  match k, hk with
  | 0, _ => exact g0
  | 1, _ => exact g1
  | 2, _ => exact g2
  | 3, _ => exact g3
  | 4, _ => exact g4
theorem max_lt {a b c : Rat} : maxR a b < c ↔ a < c ∧ b < c := by
  unfold maxR
  split <;> constructor <;> grind
theorem lt_min {a b c : Rat} : c < minR a b ↔ c < a ∧ c < b := by
  unfold minR
  split <;> constructor <;> grind
/-- what four cuts leave of a box -/
theorem box_cuts (hb : Box ps x0 x1 y0 y1) (ha : a0 < a1) (hb' : b0 < b1) :
    (maxR x0 a0 < minR x1 a1 ∧ maxR y0 b0 < minR y1 b1 → Box (cutN ps (cs a0 a1 b0 b1 0) 4) (maxR x0 a0) (minR x1 a1) (maxR y0 b0) (minR y1 b1)) ∧ (¬(maxR x0 a0 < minR x1 a1 ∧ maxR y0 b0 < minR y1 b1) → Flat (cutN ps (cs a0 a1 b0 b1 0) 4)) := by
  have ka : 0 < a1 - a0 := by grind
  have kb : 0 < b1 - b0 := by grind
  have hx := hb.hx
  have hy := hb.hy
  rw [cut4, max_lt, max_lt, lt_min, lt_min, lt_min, lt_min]
  obtain ⟨s1, f1⟩ := clip_ylo ka hb (turn0 (a0 := a0) (a1 := a1) (b0 := b0))
  by_cases c1 : b0 < y1
  · have B1 := s1 c1
    obtain ⟨s2, f2⟩ := clip_xhi kb B1 (turn1 (a1 := a1) (b0 := b0) (b1 := b1))
    by_cases c2 : x0 < a1
    · have B2 := s2 c2
      obtain ⟨s3, f3⟩ := clip_yhi ka B2 (turn2 (a0 := a0) (a1 := a1) (b1 := b1))
      by_cases c3 : maxR y0 b0 < b1
      · have B3 := s3 c3
        obtain ⟨s4, f4⟩ := clip_xlo kb B3 (turn3 (a0 := a0) (b0 := b0) (b1 := b1))
        by_cases c4 : a0 < minR x1 a1
        · refine ⟨fun _ => s4 c4, fun n => (n ?_).elim⟩
          rw [max_lt] at c3
          rw [lt_min] at c4
          exact ⟨⟨⟨hx, c2⟩, c4⟩, ⟨hy, c3.1⟩, c1, c3.2⟩
        · refine ⟨fun n => (c4 (lt_min.mpr n.1.2)).elim, fun _ => f4 c4⟩
      · refine ⟨fun n => (c3 (max_lt.mpr ⟨n.2.1.2, n.2.2.2⟩)).elim, fun _ => kept_flat (f3 c3)⟩
    · exact ⟨fun n => (c2 n.1.1.2).elim, fun _ => kept_flat (kept_flat (f2 c2))⟩
  · exact ⟨fun n => (c1 n.2.2.1).elim, fun _ => kept_flat (kept_flat (kept_flat (f1 c1)))⟩
end

/-! ### k72: a part made tidy -/
def unl (ps : List Pt) : List Pt := ((List.range ps.length).filter fun k => !decide ((pt ps k).1 = (pt ps (prev ps.length k)).1 ∧ (pt ps k).2 = (pt ps (prev ps.length k)).2) || decide (ps.length = 1)).map (pt ps)
def fndN (us : List Pt) : Nat → List Pt
  | 0 => []
  | n + 1 => fndN us n ++ if turnR (pt us (prev us.length n)) (pt us n) (pt us ((n + 1) % us.length)) = 0 then [] else [pt us n]
def fnd (ps : List Pt) : List Pt := fndN (unl ps) (unl ps).length
theorem fndN_len {us : List Pt} : ∀ n, (fndN us n).length ≤ n
  | 0 => Nat.le_refl _
  | n + 1 => by
    have := fndN_len (us := us) n
    unfold fndN
    rw [List.length_append]
    have e1 : (if turnR (pt us (prev us.length n)) (pt us n) (pt us ((n + 1) % us.length)) = 0 then ([] : List Pt) else [pt us n]).length ≤ 1 := by split <;> simp
    omega
theorem unl_len {ps : List Pt} : (unl ps).length ≤ ps.length := by
  unfold unl
  rw [List.length_map]
  exact Nat.le_trans (List.length_filter_le _ _) (by rw [List.length_range]; exact Nat.le_refl _)
theorem unl_mem {ps : List Pt} {p : Pt} (h : p ∈ unl ps) : p ∈ ps := by
  unfold unl at h
  obtain ⟨k, hk, rfl⟩ := List.mem_map.mp h
  exact pt_mem (List.mem_range.mp (List.mem_filter.mp hk).1)
theorem fndN_flat {us : List Pt} (hf : Flat us) : ∀ n, n ≤ us.length → fndN us n = []
  | 0, _ => rfl
  | n + 1, hn => by
    unfold fndN
    rw [fndN_flat hf n (by omega), List.nil_append, if_pos]
    have h1 : prev us.length n < us.length := by unfold prev; split <;> omega
    have h2 : (n + 1) % us.length < us.length := Nat.mod_lt _ (by omega)
    have m1 := pt_mem h1
    have m2 := pt_mem (ps := us) (k := n) (by omega)
    have m3 := pt_mem h2
    unfold turnR
    rcases hf with ⟨c, hc⟩ | ⟨c, hc⟩
    · rw [hc _ m1, hc _ m2, hc _ m3]
      grind
    · rw [hc _ m1, hc _ m2, hc _ m3]
      grind
theorem fnd_flat {ps : List Pt} (hf : Flat ps) : fnd ps = [] := by
  refine fndN_flat ?_ _ (Nat.le_refl _)
  rcases hf with ⟨c, hc⟩ | ⟨c, hc⟩
  · exact .inl ⟨c, fun p hp => hc p (unl_mem hp)⟩
  · exact .inr ⟨c, fun p hp => hc p (unl_mem hp)⟩
theorem unl_box {ps : List Pt} {x0 x1 y0 y1 : Rat} (hb : Box ps x0 x1 y0 y1) : unl ps = ps := by
  obtain ⟨hx, hy, r, hr, rfl⟩ := hb
  have nx : ¬ x0 = x1 := by grind
  have ny : ¬ y0 = y1 := by grind
  have nx' : ¬ x1 = x0 := by grind
  have ny' : ¬ y1 = y0 := by grind
  match r, hr with
  | 0, _ => simp [unl, cs, pt, prev, List.range, List.range.loop, nx, ny, nx', ny']
  | 1, _ => simp [unl, cs, pt, prev, List.range, List.range.loop, nx, ny, nx', ny']
  | 2, _ => simp [unl, cs, pt, prev, List.range, List.range.loop, nx, ny, nx', ny']
  | 3, _ => simp [unl, cs, pt, prev, List.range, List.range.loop, nx, ny, nx', ny']
theorem prod_ne {a b : Rat} (ha : 0 < a) (hb : 0 < b) : a * b ≠ 0 := by
  have := Rat.mul_pos ha hb
  grind
theorem fnd_box {ps : List Pt} {x0 x1 y0 y1 : Rat} (hb : Box ps x0 x1 y0 y1) : fnd ps = ps := by
  unfold fnd
  rw [unl_box hb]
  obtain ⟨hx, hy, r, hr, rfl⟩ := hb
  have hp := prod_ne (show 0 < x1 - x0 by grind) (show 0 < y1 - y0 by grind)
  have t1 : turnR (x0, y1) (x0, y0) (x1, y0) ≠ 0 := by unfold turnR; grind
  have t2 : turnR (x0, y0) (x1, y0) (x1, y1) ≠ 0 := by unfold turnR; grind
  have t3 : turnR (x1, y0) (x1, y1) (x0, y1) ≠ 0 := by unfold turnR; grind
  have t4 : turnR (x1, y1) (x0, y1) (x0, y0) ≠ 0 := by unfold turnR; grind
  match r, hr with
  | 0, _ => simp [cs, fndN, pt, prev, t1, t2, t3, t4]
  | 1, _ => simp [cs, fndN, pt, prev, t1, t2, t3, t4]
  | 2, _ => simp [cs, fndN, pt, prev, t1, t2, t3, t4]
  | 3, _ => simp [cs, fndN, pt, prev, t1, t2, t3, t4]
theorem cyc_box {x0 x1 y0 y1 : Rat} (hx : x0 < x1) (hy : y0 < y1) {r : Nat} (hr : r < 4) : ¬ (Rat.divInt 1 2 * cyc (cs x0 x1 y0 y1 r)) < 0 := by
  have hp := Rat.mul_pos (show 0 < x1 - x0 by grind) (show 0 < y1 - y0 by grind)
  have e : cyc (cs x0 x1 y0 y1 r) = 2 * ((x1 - x0) * (y1 - y0)) := by
    match r, hr with
    | 0, _ => rw [cyc_eq (m := 3) rfl]; simp [cs, sumN, pt, cr]; grind
    | 1, _ => rw [cyc_eq (m := 3) rfl]; simp [cs, sumN, pt, cr]; grind
    | 2, _ => rw [cyc_eq (m := 3) rfl]; simp [cs, sumN, pt, cr]; grind
    | 3, _ => rw [cyc_eq (m := 3) rfl]; simp [cs, sumN, pt, cr]; grind
  rw [e]
  have h2 : Rat.divInt 1 2 * (2 * ((x1 - x0) * (y1 - y0))) = (x1 - x0) * (y1 - y0) := by
    rw [show Rat.divInt 1 2 = (1 : Rat) / 2 by decide +kernel]
    grind
  rw [h2]
  grind
def before (p q : Pt) : Bool := if p.1 = q.1 then decide (p.2 < q.2) else decide (p.1 < q.1)
theorem sp_before {p q : Pt} {P : D → Prop} (hp : PB p) (hq : PB q) (h : P (.bl (before p q))) : (f_is_before [pD p, pD q]).wp P NoE := by
  obtain ⟨p1, p2⟩ := p
  obtain ⟨q1, q2⟩ := q
  obtain ⟨hp1, hp2⟩ := hp
  obtain ⟨hq1, hq2⟩ := hq
  dsimp only at hp1 hp2 hq1 hq2
  unfold before at h
  dsimp only at h
  unfold pD
  wtm_at "y_in"
  repeat' wtm_at "y_dy"
  · rename_i z
    rw [if_neg z] at h
    refine sp_is_under hp1 hq1 (by decide) h
  · rename_i z
    rw [if_pos z] at h
    refine sp_is_under hp2 hq2 (by decide) h

/-! ### k72: the part of both -/
theorem okq_pts {ps : List Pt} : okq 40 (.lst (ps.map pD)) = true := by
  show (ps.map pD).all (okq 39) = true
  rw [List.all_map, List.all_eq_true]
  intro p _
  rfl
theorem first_box {x0 x1 y0 y1 : Rat} (hx : x0 < x1) (hy : y0 < y1) {P : List D → Prop} (h : P ((cs x0 x1 y0 y1 0).map pD)) : ∀ r, r < 4 → P (Dy.cutD ((cs x0 x1 y0 y1 r).map pD) (some (((4 - r) % 4 : Nat) : Int)) none ++ Dy.cutD ((cs x0 x1 y0 y1 r).map pD) none (some (((4 - r) % 4 : Nat) : Int)))
  | 0, _ => h
  | 1, _ => h
  | 2, _ => h
  | 3, _ => h
theorem Dy_len_cut {xs : List D} {lo hi : Option Int} : (Dy.cutD xs lo hi).length ≤ xs.length := by
  unfold Dy.cutD
  rw [List.length_take, List.length_drop]
  omega
theorem cs_len {x0 x1 y0 y1 : Rat} {r : Nat} (hr : r < 4) : (cs x0 x1 y0 y1 r).length = 4 := by
  match r, hr with
  | 0, _ => rfl
  | 1, _ => rfl
  | 2, _ => rfl
  | 3, _ => rfl
theorem fndN_PB {us : List Pt} (hb : ∀ p ∈ us, PB p) : ∀ {n : Nat} {p : Pt}, p ∈ fndN us n → PB p
  | 0, p, h => nomatch h
  | n + 1, p, h => by
    unfold fndN at h
    rcases List.mem_append.mp h with h | h
    · exact fndN_PB hb h
    · split at h
      · exact nomatch h
      · rw [List.mem_singleton.mp h]
        exact pt_PB hb n
def fstN (fs : List Pt) : Nat → Nat
  | 0 => 0
  | n + 1 => if before (pt fs (n + 1)) (pt fs (fstN fs n)) = true then n + 1 else fstN fs n
theorem fstN_le {fs : List Pt} : ∀ n, fstN fs n ≤ n
  | 0 => Nat.le_refl _
  | n + 1 => by
    have := fstN_le (fs := fs) n
    unfold fstN
    split <;> omega
theorem fst_box {x0 x1 y0 y1 : Rat} (hx : x0 < x1) (hy : y0 < y1) {r : Nat} (hr : r < 4) : fstN (cs x0 x1 y0 y1 r) 3 = (4 - r) % 4 := by
  have nx : ¬ x0 = x1 := by grind
  have ny : ¬ y0 = y1 := by grind
  have nx' : ¬ x1 = x0 := by grind
  have ny' : ¬ y1 = y0 := by grind
  have gx : ¬ x1 < x0 := by grind
  have gy : ¬ y1 < y0 := by grind
  match r, hr with
  | 0, _ => simp [fstN, before, cs, pt, nx, nx', hx, hy, gx, gy]
  | 1, _ => simp [fstN, before, cs, pt, nx, nx', hx, hy, gx, gy]
  | 2, _ => simp [fstN, before, cs, pt, nx, nx', hx, hy, gx, gy]
  | 3, _ => simp [fstN, before, cs, pt, nx, nx', hx, hy, gx, gy]
theorem sp_tidied {ps : List Pt} {P : List D → Prop} (hl : ps.length ≤ 100) (hb : ∀ p ∈ ps, PB p) {dp : D} (hdp : D.lst (ps.map pD) = dp) (hc : (fnd ps = [] ∧ P []) ∨ ∃ x0 x1 y0 y1 r, r < 4 ∧ x0 < x1 ∧ y0 < y1 ∧ fnd ps = cs x0 x1 y0 y1 r ∧ P ((cs x0 x1 y0 y1 0).map pD)) : (f_tidied_part [dp]).wp (fun d => IsL d P) NoE := by
  have hx := fun {K : Int} => ix_pt hdp (K := K)
  have hy := fun {K : Int} => ix_prev hdp (K := K)
  have hn := len_pt hdp
  have hpb := fun k => pt_PB hb k
  obtain ⟨L, hL⟩ : ∃ L : Int, (ps.length : Int) = L := ⟨_, rfl⟩
  rw [hL] at hn
  rw [hL] at hx
  rw [hL] at hy
  refine wp_fnO ?_
  wtm_at "y_in"
  repeat' (first | wtm_at "y_dy" | (with_reducible refine sp_nr ?_))
  refine g_ot hn ?_
  repeat' ((fail_if_success (with_reducible show Fits _ _)); wtm_at "y_dy")
  unfold rangeD
  refine f_its (by rw [List.length_map, List.length_range, sizeLine_eq]; omega) ?_
  repeat' ((fail_if_success (with_reducible show Dy.Got (compS _ _ _ _ _) _)); wtm_at "y_dy")
  refine c_listG (f := fun (i : Nat) => D.int (0 + (i : Int))) (keep := fun k => !decide ((pt ps k).1 = (pt ps (prev ps.length k)).1 ∧ (pt ps k).2 = (pt ps (prev ps.length k)).2) || decide (ps.length = 1)) (g := fun i => pD (pt ps i)) (fun i hi => ?_) ?_
  · have hi := List.mem_range.mp hi
    obtain ⟨K, hK⟩ : ∃ K : Int, (0 : Int) + (i : Int) = K := ⟨_, rfl⟩
    have eK : K.toNat = i := by omega
    have e1 := hx (K := K) (by omega) (by omega)
    have e2 := hy (K := K) (by omega) (by omega)
    rw [eK] at e1 e2
    have el : decide (ps.length = 1) = decide (L = 1) := decide_eq_decide.mpr (by omega)
    rw [hK, el]
    generalize pt ps i = p at e1 e2 ⊢
    generalize pt ps (prev ps.length i) = q at e2 ⊢
    repeat' wtm_at "y_dy"
    refine g_ot e1 ?_
    repeat' wtm_at "y_dy"
    refine g_ot e2 ?_
    refine w_neRR ?_
    have fin : (eBin oIx (eVar 0) (eVar 4) [.val dp, .un, .un, .un, .val (.int K), .un]).wp (fun v => v = pD p) NoE := by
      repeat' wtm_at "y_dy"
      exact g_ot e1 rfl
    repeat' wtm_at "y_dy"
    · rename_i z
      exact ⟨by rw [decide_f z]; rfl, fun _ => fin⟩
    · rename_i z
      refine g_ot hn ?_
      repeat' wtm_at "y_dy"
      refine ⟨by rw [decide_t z]; rfl, fun _ => fin⟩
  have eU : List.map (fun i => pD (pt ps i)) (List.filter (fun k => !decide ((pt ps k).1 = (pt ps (prev ps.length k)).1 ∧ (pt ps k).2 = (pt ps (prev ps.length k)).2) || decide (ps.length = 1)) (List.range L.toNat)) = (unl ps).map pD := by
    unfold unl
    rw [List.map_map, show L.toNat = ps.length by omega]
    rfl
  rw [eU]
  have ul : (unl ps).length ≤ 100 := Nat.le_trans unl_len hl
  have ub : ∀ p ∈ unl ps, PB p := fun p hp => hb p (unl_mem hp)
  have eF : fnd ps = fndN (unl ps) (unl ps).length := rfl
  rw [eF] at hc
  clear eF eU hx hy hn hpb hL hb hl hdp
  generalize unl ps = us at ul ub hc ⊢
  generalize hdu : D.lst (us.map pD) = du
  have hx := fun {K : Int} => ix_pt hdu (K := K)
  have hy := fun {K : Int} => ix_prev hdu (K := K)
  have hn := len_pt hdu
  have hpb := fun k => pt_PB ub k
  clear hdu
  obtain ⟨M, hM⟩ : ∃ M : Int, (us.length : Int) = M := ⟨_, rfl⟩
  rw [hM] at hn
  rw [hM] at hx
  rw [hM] at hy
  repeat' (first | wtm_at "y_dy" | (with_reducible refine sp_nr ?_) | (with_reducible refine g_ot hn ?_))
  refine forS_inv (fun k ρ => ∃ w : Sl, ρ = [.val dp, .val du, .val (.int M), .own ((fndN us k).map pD), w, .un]) ⟨_, rfl⟩ ?_ ?_
  · rintro k _ _ ed ⟨w, rfl⟩
    obtain ⟨rfl, hk⟩ := rangeD_get ed
    have hk2 : k < us.length := by omega
    have hm2 : (k + 1) % us.length < us.length := Nat.mod_lt _ (by omega)
    have hlk := fndN_len (us := us) k
    obtain ⟨K, hK⟩ : ∃ K : Int, (0 : Int) + (k : Int) = K := ⟨_, rfl⟩
    have eK : K.toNat = k := by omega
    have em : ((K + 1) % M).toNat = (k + 1) % us.length := by
      rw [← hK, ← hM, show (0 : Int) + k + 1 = ((k + 1 : Nat) : Int) by omega]
      have : ((k + 1 : Nat) : Int) % (us.length : Int) = (((k + 1) % us.length : Nat) : Int) := rfl
      omega
    have e1 := hx (K := K) (by omega) (by omega)
    have e2 := hy (K := K) (by omega) (by omega)
    have e3 := hx (K := (K + 1) % M) (Int.emod_nonneg _ (by omega)) (Int.emod_lt_of_pos _ (by omega))
    rw [eK] at e1 e2
    rw [em] at e3
    have b1 := hpb k
    have b2 := hpb (prev us.length k)
    have b3 := hpb ((k + 1) % us.length)
    have kA : fndN us (k + 1) = fndN us k ++ if turnR (pt us (prev us.length k)) (pt us k) (pt us ((k + 1) % us.length)) = 0 then [] else [pt us k] := rfl
    rw [hK]
    generalize pt us k = p at e1 b1 kA
    generalize pt us (prev us.length k) = q at e2 b2 kA
    generalize pt us ((k + 1) % us.length) = r at e3 b3 kA
    have hs0 : ((fndN us k).map pD).length < sizeLine := by rw [List.length_map, sizeLine_eq]; omega
    generalize hR : fndN us k = R at kA hs0 ⊢
    have e1 : oIx du (.int K) = some (pD p) := e1
    have e2 : oIx du (.int (K - 1)) = some (pD q) := e2
    have e3 : oIx du (.int ((K + 1) % M)) = some (pD r) := e3
    repeat' wtm_at "y_dy"
    refine g_ot e2 ?_
    repeat' wtm_at "y_dy"
    refine g_ot e1 ?_
    repeat' wtm_at "y_dy"
    refine g_ot e3 ?_
    repeat' wtm_at "y_dy"
    refine sp_turn_at b2 b1 b3 ?_
    repeat' wtm_at "y_dy"
    rw [show D.tup [.int 0, .int 1] = rD 0 from rfl]
    refine w_neR ?_
    repeat' wtm_at "y_dy"
    · rename_i z
      refine g_ot e1 ?_
      repeat' wtm_at "y_dy"
      refine ⟨.val (.int K), ?_⟩
      rw [kA, if_neg z, List.map_append]
      rfl
    · rename_i z
      refine ⟨.val (.int K), ?_⟩
      rw [kA, if_pos z, List.append_nil]
  rintro _ ⟨w, rfl⟩
  have eL : (rangeD 0 M.toNat).length = us.length := by simp only [rangeD, List.length_map, List.length_range]; omega
  rw [eL]
  have fb : ∀ p ∈ fndN us us.length, PB p := fun p hp => fndN_PB ub hp
  clear hx hy hn hpb hM eL
  generalize fndN us us.length = fs at hc fb ⊢
  clear ub ul
  rcases hc with ⟨rfl, h⟩ | ⟨x0, x1, y0, y1, r, hr, hx, hy, efs, h⟩
  · skip
    repeat' (first | wtm_at "y_dy" | (with_reducible refine sp_nr ?_))
    · refine sp_retL ?_
      repeat' wtm_at "y_dy"
      exact is_l (is_l h)
    · rename_i z
      exact absurd (show (((List.map pD []).length : Nat) : Int) < 3 from by decide) z
  · have hb4 : ∀ p ∈ fs, PB p := fb
    have hl4 : fs.length = 4 := by rw [efs]; exact cs_len hr
    have hcyc : ¬ (Rat.divInt 1 2 * cyc fs) < 0 := by rw [efs]; exact cyc_box hx hy hr
    have hfst : fstN fs 3 = (4 - r) % 4 := by rw [efs]; exact fst_box hx hy hr
    have hP := first_box hx hy h r hr
    rw [← efs] at hP
    clear h efs
    repeat' (first | ((fail_if_success (with_reducible show Dy.Got (oLen _) _)); wtm_at "y_dy") | (with_reducible refine sp_nr ?_))
    generalize hdf : D.lst (fs.map pD) = df
    have hn4 : oLen [df] = some (.int 4) := by rw [len_pt hdf, hl4]; rfl
    have ix : ∀ k : Nat, k < 4 → oIx df (.int k) = some (pD (pt fs k)) := fun k hk => by
      have := ix_pt hdf (K := k) (by omega) (by omega)
      rw [Int.toNat_natCast] at this
      exact this
    have sl : ∀ lo hi, oSl df lo hi = some (.lst (Dy.cutD (fs.map pD) lo hi)) := fun _ _ => by rw [← hdf]; rfl
    have hpb := fun k => pt_PB hb4 k
    refine g_ot hn4 ?_
    repeat' (first | wtm_at "y_dy" | (with_reducible refine sp_nr ?_))
    refine sp_share_of hdf (by omega) hb4 ?_
    repeat' wtm_at "y_dy"
    refine sp_under_0 (cyc_RB hb4 (by omega)) (by decide) ?_
    rw [decide_f hcyc]
    repeat' (first | wtm_at "y_dy" | (with_reducible refine sp_nr ?_) | (with_reducible refine g_ot hn4 ?_))
    refine forS_inv (fun k ρ => ∃ w : Sl, ρ = [.val dp, .val du, .val (.int M), .val df, w, .val (.int (fstN fs k : Nat))]) ⟨_, rfl⟩ ?_ ?_
    · rintro k _ _ ed ⟨w, rfl⟩
      obtain ⟨rfl, hk⟩ := rangeD_get ed
      have hk3 : k < 3 := hk
      have h1 := fstN_le (fs := fs) k
      have e1 := ix (k + 1) (by omega)
      have e2 := ix (fstN fs k) (by omega)
      have b1 := hpb (k + 1)
      have b2 := hpb (fstN fs k)
      have eN : fstN fs (k + 1) = if before (pt fs (k + 1)) (pt fs (fstN fs k)) = true then k + 1 else fstN fs k := rfl
      obtain ⟨F, hF⟩ : ∃ F : Int, ((fstN fs k : Nat) : Int) = F := ⟨_, rfl⟩
      obtain ⟨K, hK⟩ : ∃ K : Int, ((k + 1 : Nat) : Int) = K := ⟨_, rfl⟩
      have hK2 : (1 : Int) + (k : Int) = K := by omega
      rw [hF] at e2 ⊢
      rw [hK] at e1
      rw [hK2]
      generalize pt fs (k + 1) = p at e1 b1 eN
      generalize pt fs (fstN fs k) = q at e2 b2 eN
      repeat' wtm_at "y_dy"
      refine g_ot e1 ?_
      repeat' wtm_at "y_dy"
      refine g_ot e2 ?_
      repeat' wtm_at "y_dy"
      refine sp_before b1 b2 ?_
      cases hbf : before p q with
      | true =>
        repeat' wtm_at "y_dy"
        exact ⟨.val (.int K), by rw [eN, if_pos hbf, hK]⟩
      | false =>
        repeat' wtm_at "y_dy"
        exact ⟨.val (.int K), by rw [eN, if_neg (by rw [hbf]; decide), hF]⟩
    rintro _ ⟨w2, rfl⟩
    rw [show (rangeD 1 ((4 : Int) - 1).toNat).length = 3 from rfl, hfst]
    obtain ⟨F, hF⟩ : ∃ F : Int, (((4 - r) % 4 : Nat) : Int) = F := ⟨_, rfl⟩
    rw [hF] at hP ⊢
    have l1 := Dy_len_cut (xs := fs.map pD) (lo := some F) (hi := none)
    have l2 := Dy_len_cut (xs := fs.map pD) (lo := none) (hi := some F)
    rw [List.length_map] at l1 l2
    repeat' wtm_at "y_dy"
    refine sp_retN (wp_xAddL ?_)
    repeat' wtm_at "y_dy"
    refine g_ot (sl _ _) ?_
    repeat' wtm_at "y_dy"
    refine g_ot (sl _ _) ?_
    exact ⟨_, _, rfl, rfl, by rw [sizeLine_eq]; omega, is_l (is_l hP)⟩

/-! ### k72: both -/
abbrev BR (x : Rat) : Prop := RB 12 10 x
theorem BR.pb {p : Pt} (h : BR p.1 ∧ BR p.2) : PB p := ⟨h.1.mono (by decide) (by decide), h.2.mono (by decide) (by decide)⟩
def duB (x0 x1 y0 y1 a0 a1 b0 b1 : Rat) : List D := open Classical in if maxR x0 a0 < minR x1 a1 ∧ maxR y0 b0 < minR y1 b1 then (cs (maxR x0 a0) (minR x1 a1) (maxR y0 b0) (minR y1 b1) 0).map pD else []
theorem eq_nil {ps : List Pt} {d : D} (hd : D.lst (ps.map pD) = d) (h : 0 < ps.length) : oEq d (.lst []) = some (.bl false) := by
  obtain ⟨z, e, h'⟩ := w_eqNil (P := fun d => d = .bl (ps.map pD).isEmpty) (okq_pts (ps := ps)) rfl
  rw [← hd, e, h']
  cases ps with
  | nil => cases h
  | cons a b => rfl
theorem box_len {ps : List Pt} {x0 x1 y0 y1 : Rat} (h : Box ps x0 x1 y0 y1) : ps.length = 4 := by
  obtain ⟨_, _, r, hr, rfl⟩ := h
  exact cs_len hr
theorem sp_both {ps os : List Pt} {x0 x1 y0 y1 a0 a1 b0 b1 : Rat} {P : List D → Prop} (hb : Box ps x0 x1 y0 y1) (hB : ∀ p ∈ ps, BR p.1 ∧ BR p.2) (ha : a0 < a1) (hb' : b0 < b1) (B1 : BR a0) (B2 : BR a1) (B3 : BR b0) (B4 : BR b1)
    {dp dO : D} (hdp : D.lst (ps.map pD) = dp) (hos : os = cs a0 a1 b0 b1 0) (hdO : D.lst (os.map pD) = dO) (h : P (duB x0 x1 y0 y1 a0 a1 b0 b1)) : (f_both_of [dp, dO]).wp (fun d => IsL d P) NoE := by
  have hG := good_cuts hb hB ha hb' B1 B2 B3 B4
  obtain ⟨hC1, hC2⟩ := box_cuts hb ha hb'
  have hL := fun k => cutN_len (ps := ps) (os := cs a0 a1 b0 b1 0) (by rw [box_len hb]; exact Nat.le_refl _) k
  rw [← hos] at hG hC1 hC2 hL
  have hol : os.length = 4 := by rw [hos]; rfl
  have hoB : ∀ p ∈ os, PB p := fun p hp => by
    rw [hos] at hp
    refine BR.pb ?_
    have hp : p ∈ [(a0, b0), (a1, b0), (a1, b1), (a0, b1)] := hp
    simp only [List.mem_cons, List.not_mem_nil, or_false] at hp
    rcases hp with rfl | rfl | rfl | rfl
    · exact ⟨B1, B3⟩
    · exact ⟨B2, B3⟩
    · exact ⟨B2, B4⟩
    · exact ⟨B1, B4⟩
  have e1 := eq_nil hdp (by rw [box_len hb]; decide)
  have e2 := eq_nil hdO (by rw [hol]; decide)
  have hn : oLen [dO] = some (.int 4) := by rw [len_pt hdO, hol]; rfl
  have ix : ∀ k : Nat, k < 4 → oIx dO (.int k) = some (pD (pt os k)) := fun k hk => by
    have := ix_pt hdO (K := k) (by omega) (by omega)
    rw [Int.toNat_natCast] at this
    exact this
  have hpo := fun k => pt_PB hoB k
  have c0 : D.lst ((cutN ps os 0).map pD) = dp := hdp
  refine wp_fnO ?_
  wtm_at "y_in"
  repeat' (first | wtm_at "y_dy" | (with_reducible refine sp_nr ?_) | (with_reducible refine g_ot e1 ?_) | (with_reducible refine g_ot e2 ?_) | (with_reducible refine g_ot hn ?_))
  refine forS_inv (fun k ρ => ∃ w1 w2 w3 w4 : Sl, ρ = [.val dp, .val dO, .val (.lst ((cutN ps os k).map pD)), w1, w2, w3, w4]) ⟨_, _, _, _, by rw [c0]⟩ ?_ ?_
  · rintro k _ _ ed ⟨w1, w2, w3, w4, rfl⟩
    obtain ⟨rfl, hk⟩ := rangeD_get ed
    have hk4 : k < 4 := hk
    have em : ((k : Int) + 1) % 4 = (((k + 1) % os.length : Nat) : Int) := by rw [hol]; rfl
    have hm : (k + 1) % os.length < 4 := by rw [hol]; omega
    have i1 := ix k hk4
    have i2 := ix _ hm
    have p1 := hpo k
    have p2 := hpo ((k + 1) % os.length)
    have hq : ∀ p ∈ cutN ps os k, PB p := fun p hp => BR.pb ((hG k (by omega)).sz p hp)
    have hl : (cutN ps os k).length ≤ 64 := Nat.le_trans (hL k) (by have : 2 ^ k ≤ 2 ^ 4 := Nat.pow_le_pow_right (by decide) (by omega); omega)
    have kA : cutN ps os (k + 1) = kept (cutN ps os k) (turnR (pt os k) (pt os ((k + 1) % os.length))) := rfl
    obtain ⟨K, hK⟩ : ∃ K : Int, (0 : Int) + (k : Int) = K := ⟨_, rfl⟩
    have eK : (k : Int) = K := by omega
    rw [hK]
    rw [← em] at i2
    rw [eK] at i1 i2
    generalize pt os k = a at i1 p1 kA
    generalize pt os ((k + 1) % os.length) = b at i2 p2 kA
    rw [kA]
    clear kA
    generalize cutN ps os k = qs at hq hl ⊢
    generalize hdq : D.lst (qs.map pD) = dq
    have it : iterD dq = some (qs.map pD) := by rw [← hdq]; rfl
    repeat' ((fail_if_success (with_reducible show Dy.Got (compS _ _ _ _ _) _)); first | wtm_at "y_dy" | (with_reducible refine g_ot i1 ?_) | (with_reducible refine g_ot hn ?_) | (with_reducible refine g_ot i2 ?_) | (with_reducible refine g_ot it ?_))
    refine c_mapG (f := pD) (g := fun p => rD (turnR a b p)) (fun p hp => ?_) ?_
    · refine w_bName ?_
      repeat' wtm_at "y_dy"
      exact sp_turn_at p1 p2 (hq p hp) rfl
    generalize hdh : D.lst (qs.map fun p => rD (turnR a b p)) = dh
    repeat' wtm_at "y_dy"
    refine sp_kept (h := turnR a b) (by omega) hq (fun p hp => turn_HB p1 p2 (hq p hp)) ?_ hdq hdh
    repeat' wtm_at "y_dy"
    exact ⟨_, _, _, _, rfl⟩
  rintro _ ⟨w1, w2, w3, w4, rfl⟩
  rw [show (rangeD 0 ((4 : Int)).toNat).length = 4 from rfl]
  have hq : ∀ p ∈ cutN ps os 4, PB p := fun p hp => BR.pb ((hG 4 (by omega)).sz p hp)
  have hl : (cutN ps os 4).length ≤ 64 := hL 4
  unfold duB at h
  generalize cutN ps os 4 = qs at hq hl hC1 hC2 ⊢
  generalize hdq : D.lst (qs.map pD) = dq
  refine sp_retN (wp_xCall ?_)
  repeat' wtm_at "y_dy"
  refine (sp_tidied (P := fun ds => IsL (.lst ds) fun es => IsL (.lst es) P) (by omega) hq hdq ?_).imp (fun d hd => hd) fun _ z => z
  by_cases hc : maxR x0 a0 < minR x1 a1 ∧ maxR y0 b0 < minR y1 b1
  · rw [if_pos hc] at h
    have hB4 := hC1 hc
    obtain ⟨gx, gy, r, hr, er⟩ := hB4
    exact .inr ⟨_, _, _, _, r, hr, gx, gy, by rw [fnd_box (hC1 hc)]; exact er, is_l (is_l h)⟩
  · rw [if_neg hc] at h
    exact .inl ⟨fnd_flat (hC2 hc), is_l (is_l h)⟩
theorem sp_both_nil1 {d : D} {P : List D → Prop} (h : P []) : (f_both_of [.lst [], d]).wp (fun d => IsL d P) NoE := by
  refine wp_fnO ?_
  wtm_at "y_in"
  repeat' wtm_at "y_dy"
  refine sp_retL ?_
  repeat' wtm_at "y_dy"
  exact is_l (is_l h)
theorem sp_both_nil2 {ps : List Pt} {dp : D} {P : List D → Prop} (hdp : D.lst (ps.map pD) = dp) (hl : 0 < ps.length) (h : P []) : (f_both_of [dp, .lst []]).wp (fun d => IsL d P) NoE := by
  have e1 := eq_nil hdp hl
  refine wp_fnO ?_
  wtm_at "y_in"
  repeat' (first | wtm_at "y_dy" | (with_reducible refine g_ot e1 ?_))
  refine sp_retL ?_
  repeat' wtm_at "y_dy"
  exact is_l (is_l h)

/-! ### k72: the law's own boxes -/
theorem dpos {a b : Int} (ha : 0 < a) (hb : 0 < b) : 0 < Rat.divInt a b := by
  rw [Rat.divInt_eq_div, Rat.div_def]
  exact Rat.mul_pos (Rat.intCast_pos.mpr ha) (Rat.inv_pos.mpr (Rat.intCast_pos.mpr hb))
theorem sp_lbox {c k : Int} (h0 : 0 ≤ k) (h1 : k < 100) : (f__law_box [.int c, .int k]).wp (fun d => ∃ lo hi : Rat, d = .tup [rD lo, rD hi] ∧ lo < hi ∧ RB 8 6 lo ∧ RB 8 6 hi) NoE := by
  wtm_at "y_in"
  repeat' wtm_at "y_dy"
  refine (sp_draw (by omega) (by omega) (by decide) (by decide)).no ?_
  rintro _ ⟨v1, rfl, _, _⟩
  repeat' wtm_at "y_dy"
  refine (sp_draw (by omega) (by omega) (by decide) (by decide)).no ?_
  rintro _ ⟨v2, rfl, _, _⟩
  repeat' wtm_at "y_dy"
  refine sp_llow (m := 3) (by omega) (by unfold Bd; omega) (by decide) ?_
  have hs : RB 3 3 (Rat.divInt (v1 - 4) (1 + v2)) := .of (by omega) (by unfold Bd; omega) (by unfold Bd; omega)
  generalize Rat.divInt (v1 - 4) (1 + v2) = s at hs
  repeat' wtm_at "y_dy"
  refine (sp_draw (by omega) (by omega) (by decide) (by decide)).no ?_
  rintro _ ⟨v3, rfl, _, _⟩
  repeat' wtm_at "y_dy"
  refine (sp_draw (by omega) (by omega) (by decide) (by decide)).no ?_
  rintro _ ⟨v4, rfl, _, _⟩
  repeat' wtm_at "y_dy"
  refine sp_llow (m := 3) (by omega) (by unfold Bd; omega) (by decide) ?_
  have hw : RB 4 3 (Rat.divInt (1 + v3) (1 + v4)) := .of (by omega) (by unfold Bd; omega) (by unfold Bd; omega)
  have hp := dpos (a := 1 + v3) (b := 1 + v4) (by omega) (by omega)
  generalize Rat.divInt (1 + v3) (1 + v4) = w at hw hp
  repeat' wtm_at "y_dy"
  refine sp_ladd hs hw (by decide) ?_
  repeat' wtm_at "y_dy"
  exact ⟨s, s + w, rfl, by grind, hs.mono (by decide) (by decide), (hs.add hw).mono (by decide) (by decide)⟩
theorem sp_lund {x y : Rat} {P : D → Prop} {n m n' m' : Nat} (hx : RB n m x) (hy : RB n' m' y) (hs : n + m' < 100000000 ∧ n' + m < 100000000) (h : P (.bl (decide (x < y)))) : (f__law_under [rD x, rD y]).wp P NoE := by
  obtain ⟨x1, x2⟩ := hx
  obtain ⟨y1, y2⟩ := hy
  have e : decide (x.num * y.den < y.num * x.den) = decide (x < y) := decide_eq_decide.mpr (by rw [Rat.lt_iff])
  unfold rD
  wtm_at "y_in"
  repeat' wtm_at "y_dy"
  rw [e]
  exact h
theorem sp_lboth {a b c d : Rat} {P : D → Prop} (ha : BR a) (hb : BR b) (hc : BR c) (hd : BR d) (h : P (.tup [rD (maxR a c), rD (minR b d)])) : (f__law_both [.tup [rD a, rD b], .tup [rD c, rD d]]).wp P NoE := by
  unfold maxR minR at h
  wtm_at "y_in"
  repeat' wtm_at "y_dy"
  refine sp_lund ha hc (by decide) ?_
  repeat' wtm_at "y_dy"
  all_goals
    rename_i z
    refine sp_lund hb hd (by decide) ?_
    repeat' wtm_at "y_dy"
  all_goals
    rename_i z2
    simp only [z, z2, if_true, if_false] at h
    exact h
theorem sp_lcorners {x0 x1 y0 y1 : Rat} {P : D → Prop} (h1 : BR x0) (h2 : BR x1) (h3 : BR y0) (h4 : BR y1) (ht : x0 < x1 ∧ y0 < y1 → P (.lst ((cs x0 x1 y0 y1 0).map pD))) (hf : ¬(x0 < x1 ∧ y0 < y1) → P (.lst [])) : (f__law_corners [.tup [rD x0, rD x1], .tup [rD y0, rD y1]]).wp P NoE := by
  wtm_at "y_in"
  repeat' wtm_at "y_dy"
  refine sp_lund h1 h2 (by decide) ?_
  repeat' wtm_at "y_dy"
  · rename_i z
    exact hf fun q => z q.1
  · rename_i z
    refine sp_lund h3 h4 (by decide) ?_
    repeat' wtm_at "y_dy"
    · rename_i z2
      exact hf fun q => z2 q.2
    · rename_i z2
      exact ht ⟨z, z2⟩
theorem sp_lalike {ps : List Pt} {P : D → Prop} (h : P (.bl true)) {d : D} (hd : D.lst (ps.map pD) = d) : (f__law_alike [d, d]).wp P NoE := by
  have hq : okq 40 d = true := by rw [← hd]; exact okq_pts
  have hit : iterD d = some (ps.map pD) := by rw [← hd]; rfl
  have hli : ∀ {P : D → Prop}, P (.bl true) → Got (oIsi [d, .ty "list"]) P := fun {P} h => by
    rw [← hd]
    exact w_isi kt_ll h
  wtm_at "y_in"
  repeat' ((fail_if_success (with_reducible show Dy.Got (oIsi _) _)); wtm_at "y_dy")
  refine hli ?_
  repeat' wtm_at "y_dy"
  refine w_neS rfl hq ?_
  repeat' wtm_at "y_dy"
  refine g_ot hit ?_
  refine forS_inv (fun i ρ => ∃ w1 w2 : Sl, ρ = [.val d, .val d, w1, w2]) ⟨_, _, rfl⟩ ?_ ?_
  · rintro i _ _ ed ⟨w1, w2, rfl⟩
    rw [List.getElem?_map] at ed
    obtain ⟨⟨p, q⟩, _, rfl⟩ := Option.map_eq_some_iff.mp ed
    unfold pD rD
    repeat' wtm_at "y_dy"
    exact ⟨_, _, rfl⟩
  · rintro _ ⟨w1, w2, rfl⟩
    repeat' wtm_at "y_dy"
    exact h
theorem maxR_comm (a b : Rat) : maxR a b = maxR b a := by
  unfold maxR
  split <;> split <;> grind
theorem minR_comm (a b : Rat) : minR a b = minR b a := by
  unfold minR
  split <;> split <;> grind
theorem duB_comm (x0 x1 y0 y1 a0 a1 b0 b1 : Rat) : duB a0 a1 b0 b1 x0 x1 y0 y1 = duB x0 x1 y0 y1 a0 a1 b0 b1 := by
  unfold duB
  rw [maxR_comm a0 x0, maxR_comm b0 y0, minR_comm a1 x1, minR_comm b1 y1]
theorem duB_self {x0 x1 y0 y1 : Rat} (hx : x0 < x1) (hy : y0 < y1) : duB x0 x1 y0 y1 x0 x1 y0 y1 = (cs x0 x1 y0 y1 0).map pD := by
  have e1 : ∀ a : Rat, maxR a a = a := fun a => by unfold maxR; split <;> rfl
  have e2 : ∀ a : Rat, minR a a = a := fun a => by unfold minR; split <;> rfl
  unfold duB
  rw [e1, e1, e2, e2, if_pos ⟨hx, hy⟩]
theorem duB_pts (x0 x1 y0 y1 a0 a1 b0 b1 : Rat) : ∃ qs : List Pt, duB x0 x1 y0 y1 a0 a1 b0 b1 = qs.map pD ∧ qs.length ≤ 4 := by
  unfold duB
  split
  · exact ⟨_, rfl, Nat.le_refl 4⟩
  · exact ⟨[], rfl, by decide⟩
theorem cs_box {x0 x1 y0 y1 : Rat} (hx : x0 < x1) (hy : y0 < y1) : Box (cs x0 x1 y0 y1 0) x0 x1 y0 y1 := ⟨hx, hy, 0, by decide, rfl⟩
theorem cs_BR {x0 x1 y0 y1 : Rat} (h1 : BR x0) (h2 : BR x1) (h3 : BR y0) (h4 : BR y1) : ∀ p ∈ cs x0 x1 y0 y1 0, BR p.1 ∧ BR p.2 := fun p hp => by
  have hp : p ∈ [(x0, y0), (x1, y0), (x1, y1), (x0, y1)] := hp
  simp only [List.mem_cons, List.not_mem_nil, or_false] at hp
  rcases hp with rfl | rfl | rfl | rfl
  · exact ⟨h1, h3⟩
  · exact ⟨h2, h3⟩
  · exact ⟨h2, h4⟩
  · exact ⟨h1, h4⟩

/-! ### k72: the law -/
theorem half_D : D.tup [.int 1, .int 2] = rD (Rat.divInt 1 2) := by
  have e1 : (Rat.divInt 1 2).num = 1 := by decide
  have e2 : (Rat.divInt 1 2).den = 2 := by decide
  unfold rD
  rw [e1, e2]
  rfl
def tB (x0 x1 y0 y1 a0 a1 b0 b1 : Rat) : O := .l [.l [.v (.tup [rD x0, rD x1]), .v (.tup [rD y0, rD y1])], .l [.v (.tup [rD a0, rD a1]), .v (.tup [rD b0, rD b1])]]
theorem tB_D (x0 x1 y0 y1 a0 a1 b0 b1 : Rat) : (tB x0 x1 y0 y1 a0 a1 b0 b1).toD = .lst [.lst [.tup [rD x0, rD x1], .tup [rD y0, rD y1]], .lst [.tup [rD a0, rD a1], .tup [rD b0, rD b1]]] := rfl
theorem BR_max {a b : Rat} (ha : BR a) (hb : BR b) : BR (maxR a b) := by
  unfold maxR
  split
  · exact hb
  · exact ha
theorem BR_min {a b : Rat} (ha : BR a) (hb : BR b) : BR (minR a b) := by
  unfold minR
  split
  · exact ha
  · exact hb
theorem cut_ints (ns : List Int) (lo hi : Option Int) : ∃ cs : List Int, Dy.cutD (ns.map .int) lo hi = cs.map .int ∧ cs.length ≤ ns.length := by
  refine ⟨((ns.drop _).take _), by unfold Dy.cutD; rw [← List.map_drop, ← List.map_take], ?_⟩
  rw [List.length_take, List.length_drop]
  omega
theorem law_true (ns : List Int) (hl : ns.length ≤ 63) : f_law [.lst (ns.map .int)] = .ok (.bl true) := by
  refine law_of_wp ?_
  obtain ⟨cs', ecs, hcs⟩ := cut_ints ns none (some 40)
  generalize hdn : D.lst (ns.map .int) = dn
  have esl : oSl dn none (some 40) = some (.lst (cs'.map .int)) := by rw [← hdn, ← ecs]; rfl
  clear hdn
  wtm_at "y_in"
  repeat' (first | ((fail_if_success (with_reducible show Dy.Got (oAdd _ _) _)); wtm_at "y_dy") | (with_reducible refine g_ot esl ?_))
  refine w_addL (by simp only [List.length_map, List.length_cons, List.length_nil]; rw [sizeLine_eq]; omega) ?_
  rw [show [D.int 4] ++ cs'.map D.int = (4 :: cs').map D.int from rfl]
  have hul : (4 :: cs').length ≤ 64 := by rw [List.length_cons]; omega
  generalize (4 :: cs') = us at hul ⊢
  repeat' ((fail_if_success (with_reducible show SR.wp (forS _ _ _ _) _ _ _)); wtm_at "y_dy")
  refine forS_inv (fun i ρ => ∃ r : List Sl, ρ = .val dn :: r ∧ r.length = 8) ⟨_, rfl, rfl⟩ ?_ ?_
  · rintro i _ _ ed ⟨r, rfl, hr⟩
    rw [List.getElem?_map] at ed
    obtain ⟨c, _, rfl⟩ := Option.map_eq_some_iff.mp ed
    obtain ⟨_, _, _, _, _, _, _, _, rfl⟩ := sl8 hr
    repeat' wtm_at "y_dy"
    refine sp_ownT (wp_tN (wp_xLst ?_))
    repeat' wtm_at "y_dy"
    refine (sp_lbox (by decide) (by decide)).no ?_
    rintro _ ⟨x0, x1, rfl, hx, rx0, rx1⟩
    repeat' wtm_at "y_dy"
    refine (sp_lbox (by decide) (by decide)).no ?_
    rintro _ ⟨y0, y1, rfl, hy, ry0, ry1⟩
    repeat' wtm_at "y_dy"
    refine ⟨show 2 ≤ sizeLine by rw [sizeLine_eq]; decide, wp_tN (wp_xLst ?_)⟩
    repeat' wtm_at "y_dy"
    refine (sp_lbox (by decide) (by decide)).no ?_
    rintro _ ⟨a0, a1, rfl, ha, ra0, ra1⟩
    repeat' wtm_at "y_dy"
    refine (sp_lbox (by decide) (by decide)).no ?_
    rintro _ ⟨b0, b1, rfl, hb, rb0, rb1⟩
    repeat' wtm_at "y_dy"
    refine ⟨show 2 ≤ sizeLine by rw [sizeLine_eq]; decide, wp_tNil ⟨show 2 ≤ sizeLine by rw [sizeLine_eq]; decide, ?_⟩⟩
    rw [show O.l [.l (List.map O.v [D.tup [rD x0, rD x1], D.tup [rD y0, rD y1]]), .l (List.map O.v [D.tup [rD a0, rD a1], D.tup [rD b0, rD b1]])] = tB x0 x1 y0 y1 a0 a1 b0 b1 from rfl]
    repeat' ((fail_if_success (with_reducible show SR.wp (sSeq (sIf _ _ _) _ _) _ _ _)); wtm_at "y_dy")
    refine sp_seq (SR.wp.imp (N := fun ρ => ∃ (a0 a1 : Rat) (r : List Sl), ρ = .val dn :: .val (.int c) :: .tree (tB x0 x1 y0 y1 a0 a1 b0 b1) :: r ∧ r.length = 6 ∧ a0 < a1 ∧ BR a0 ∧ BR a1) (T := fun d => d = .bl true) (E := fun _ _ => False) ?_ ?_ (fun _ z => z) fun _ _ z => z.elim)
    · repeat' wtm_at "y_dy"
      refine (sp_draw (by decide) (by decide) (by decide) (by decide)).no ?_
      rintro _ ⟨v, rfl, _, _⟩
      repeat' wtm_at "y_dy"
      · refine wp_peekN rfl ?_
        rw [tB_D]
        repeat' wtm_at "y_dy"
        refine ⟨rfl, ?_⟩
        repeat' wtm_at "y_dy"
        refine sp_putT (ds := [.tup [rD a0, rD a1], .tup [rD b0, rD b1]]) rfl rfl ?_
        repeat' wtm_at "y_dy"
        rw [half_D]
        have hr : RB 1 2 (Rat.divInt 1 2) := .of (by decide) (Bd.lit (by decide)) (Bd.lit (by decide))
        refine sp_ladd rx1 hr (by decide) ?_
        repeat' wtm_at "y_dy"
        refine ⟨0, rfl, ?_⟩
        repeat' wtm_at "y_dy"
        have hp := dpos (a := 1) (b := 2) (by decide) (by decide)
        exact ⟨x1, x1 + Rat.divInt 1 2, _, rfl, rfl, by grind, rx1.mono (by decide) (by decide), (rx1.add hr).mono (by decide) (by decide)⟩
      · exact ⟨a0, a1, _, rfl, rfl, ha, ra0.mono (by decide) (by decide), ra1.mono (by decide) (by decide)⟩
    clear ha ra0 ra1 hr
    rintro _ ⟨a0, a1, r, rfl, hr, ha, qa0, qa1⟩
    obtain ⟨_, _, _, _, _, _, rfl⟩ := sl6 hr
    have qx0 : BR x0 := rx0.mono (by decide) (by decide)
    have qx1 : BR x1 := rx1.mono (by decide) (by decide)
    have qy0 : BR y0 := ry0.mono (by decide) (by decide)
    have qy1 : BR y1 := ry1.mono (by decide) (by decide)
    have qb0 : BR b0 := rb0.mono (by decide) (by decide)
    have qb1 : BR b1 := rb1.mono (by decide) (by decide)
    have cor1 : ∀ {P : D → Prop}, P (.lst ((cs x0 x1 y0 y1 0).map pD)) → (f__law_corners [.tup [rD x0, rD x1], .tup [rD y0, rD y1]]).wp P NoE := fun h => sp_lcorners qx0 qx1 qy0 qy1 (fun _ => h) fun n => (n ⟨hx, hy⟩).elim
    have cor2 : ∀ {P : D → Prop}, P (.lst ((cs a0 a1 b0 b1 0).map pD)) → (f__law_corners [.tup [rD a0, rD a1], .tup [rD b0, rD b1]]).wp P NoE := fun h => sp_lcorners qa0 qa1 qb0 qb1 (fun _ => h) fun n => (n ⟨ha, hb⟩).elim
    have cor3 : ∀ {P : D → Prop}, P (.lst (duB x0 x1 y0 y1 a0 a1 b0 b1)) → (f__law_corners [.tup [rD (maxR x0 a0), rD (minR x1 a1)], .tup [rD (maxR y0 b0), rD (minR y1 b1)]]).wp P NoE := fun {P} h => by
      unfold duB at h
      refine sp_lcorners (BR_max qx0 qa0) (BR_min qx1 qa1) (BR_max qy0 qb0) (BR_min qy1 qb1) (fun hc => ?_) fun hc => ?_
      · rw [if_pos hc] at h
        exact h
      · rw [if_neg hc] at h
        exact h
    have lbx : ∀ {P : D → Prop}, P (.tup [rD (maxR x0 a0), rD (minR x1 a1)]) → (f__law_both [.tup [rD x0, rD x1], .tup [rD a0, rD a1]]).wp P NoE := fun h => sp_lboth qx0 qx1 qa0 qa1 h
    have lby : ∀ {P : D → Prop}, P (.tup [rD (maxR y0 b0), rD (minR y1 b1)]) → (f__law_both [.tup [rD y0, rD y1], .tup [rD b0, rD b1]]).wp P NoE := fun h => sp_lboth qy0 qy1 qb0 qb1 h
    have okA : okq 40 (.lst ((cs x0 x1 y0 y1 0).map pD)) = true := okq_pts
    obtain ⟨dA, hA⟩ : ∃ d, d = D.lst ((cs x0 x1 y0 y1 0).map pD) := ⟨_, rfl⟩
    obtain ⟨dB, hB⟩ : ∃ d, d = D.lst ((cs a0 a1 b0 b1 0).map pD) := ⟨_, rfl⟩
    obtain ⟨qs, hqs, hql⟩ := duB_pts x0 x1 y0 y1 a0 a1 b0 b1
    have b12 : ∀ {P : List D → Prop}, P (duB x0 x1 y0 y1 a0 a1 b0 b1) → (f_both_of [dA, dB]).wp (fun d => IsL d P) NoE := fun h => sp_both (cs_box hx hy) (cs_BR qx0 qx1 qy0 qy1) ha hb qa0 qa1 qb0 qb1 hA.symm rfl hB.symm h
    have b21 : ∀ {P : List D → Prop}, P (duB x0 x1 y0 y1 a0 a1 b0 b1) → (f_both_of [dB, dA]).wp (fun d => IsL d P) NoE := fun h => sp_both (cs_box ha hb) (cs_BR qa0 qa1 qb0 qb1) hx hy qx0 qx1 qy0 qy1 hB.symm rfl hA.symm (by rw [duB_comm]; exact h)
    have b11 : ∀ {P : List D → Prop}, P ((cs x0 x1 y0 y1 0).map pD) → (f_both_of [dA, dA]).wp (fun d => IsL d P) NoE := fun h => sp_both (cs_box hx hy) (cs_BR qx0 qx1 qy0 qy1) hx hy qx0 qx1 qy0 qy1 hA.symm rfl hA.symm (by rw [duB_self hx hy]; exact h)
    have bN1 : ∀ {P : List D → Prop}, P [] → (f_both_of [dA, .lst []]).wp (fun d => IsL d P) NoE := fun h => sp_both_nil2 hA.symm (show 0 < 4 by decide) h
    have liA : oList [dA] = some dA := by rw [hA]; rfl
    have liB : oList [dB] = some dB := by rw [hB]; rfl
    have alA : ∀ {P : D → Prop}, P (.bl true) → (f__law_alike [dA, dA]).wp P NoE := fun h => sp_lalike h hA.symm
    rw [hqs] at cor3 b12 b21
    obtain ⟨dU, hU⟩ : ∃ d, d = D.lst (qs.map pD) := ⟨_, rfl⟩
    have alU : ∀ {P : D → Prop}, P (.bl true) → (f__law_alike [dU, dU]).wp P NoE := fun h => sp_lalike h hU.symm
    have okU : okq 40 dU = true := by rw [hU]; exact okq_pts
    have okP : okq 40 (.lst [dA, dB]) = true := by
      have h : ∀ ps : List Pt, okq 39 (.lst (ps.map pD)) = true := fun ps => by
        show (ps.map pD).all (okq 38) = true
        rw [List.all_map, List.all_eq_true]
        intro p _
        rfl
      show (okq 39 dA && (okq 39 dB && true)) = true
      rw [hA, hB, h, h]
      rfl
    rw [← hA] at cor1
    rw [← hB] at cor2
    rw [← hU] at cor3
    have hqz : (qs.map pD).length < sizeLine := by rw [List.length_map, sizeLine_eq]; omega
    refine sp_seq (sp_frT rfl ?_)
    repeat' ((fail_if_success (with_reducible show Dy.Got (oIx _ _) _)); wtm_at "y_dy")
    rw [tB_D]
    repeat' (first | wtm_at "y_dy" | (with_reducible refine cor1 ?_) | (with_reducible refine cor2 ?_) | (with_reducible refine cor3 ?_) | (with_reducible refine lbx ?_) | (with_reducible refine lby ?_) | (with_reducible refine g_ot liA ?_) | (with_reducible refine g_ot liB ?_))
    refine sp_setO ?_
    repeat' wtm_at "y_dy"
    refine b12 ?_
    repeat' wtm_at "y_dy"
    rw [← hU]
    refine alU ?_
    repeat' wtm_at "y_dy"
    refine w_neS rfl okP ?_
    repeat' wtm_at "y_dy"
    refine (b21 (P := fun es => es = qs.map pD) rfl).no ?_
    rintro _ ⟨_, rfl, rfl⟩
    rw [← hU]
    repeat' wtm_at "y_dy"
    refine alU ?_
    repeat' wtm_at "y_dy"
    refine w_neS rfl okP ?_
    repeat' wtm_at "y_dy"
    refine (b12 (P := fun es => es = qs.map pD) rfl).no ?_
    rintro _ ⟨_, rfl, rfl⟩
    rw [← hU]
    repeat' wtm_at "y_dy"
    refine w_neS rfl okU ?_
    repeat' (first | wtm_at "y_dy" | (with_reducible refine g_ot liA ?_))
    refine (b11 (P := fun es => es = (cs x0 x1 y0 y1 0).map pD) rfl).no ?_
    rintro _ ⟨_, rfl, rfl⟩
    rw [← hA]
    repeat' wtm_at "y_dy"
    refine alA ?_
    repeat' wtm_at "y_dy"
    refine (bN1 (P := fun es => es = []) rfl).no ?_
    rintro _ ⟨_, rfl, rfl⟩
    repeat' wtm_at "y_dy"
    refine (sp_both_nil1 (P := fun es => es = []) rfl).no ?_
    rintro _ ⟨_, rfl, rfl⟩
    repeat' wtm_at "y_dy"
    exact ⟨_, rfl, rfl⟩
  · rintro _ ⟨r, rfl, hr⟩
    obtain ⟨_, _, _, _, _, _, _, _, rfl⟩ := sl8 hr
    repeat' wtm_at "y_dy"
    refine (sp_both_nil1 (P := fun es => es = []) rfl).no ?_
    rintro _ ⟨_, rfl, rfl⟩
    repeat' wtm_at "y_dy"
    rfl

end Gn
end
theorem PySem.Challenge.cw_dialyard_k72_boxes_together_holds : PySem.Challenge.rw_dialyard_k72_boxes_together.Holds :=
  Gn.holds_of Gn.law_true
