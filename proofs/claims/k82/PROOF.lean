import PyProof.Rows.All
import Wide.All
import OpenK.AllK
import Wide.FinOn
import HandS.ForMost
import HandS.ForSpec
import HandS.IsInst
import HandS.Zip
import HandS.Wide
import HandS.Deep
import HandS.Flow
import HandS.Defaults
import HandS.HeadHook2
import HandS.ExcValue
import HandS.ExcInit
import HandS.ExcIs
import HandS.ExcField
import HandS.TryMany
import HandS.TupAny
import HandS.Style
import HandS.Head0
import HandS.Head1
import HandS.Head2
import HandS.HeadEnd
import HandS.Flt
import HandS.ExcOwn
import PyProof.ExcBaseAll.ValueError
import HandS.TryOnly
import PyProof.EqKinds
import PyProof.FactsAll.dict_1
import HandS.FltList
import PyProof.Rows.RuleB_bool
import HandS.EndBits
import PyProof.NeKinds
import HandS.FStr
import HandS.Text
import KE.GoesComp
import KE.GoesRaise
import KE.DataMinMax
import PyProof.Rows.CallKwBuiltin
import PySem.Challenge.RW_dialyard_k82_moved_and_greater
set_option Elab.async false
set_option linter.all false
set_option maxRecDepth 100000
/-! A layer of plain data over the hand layer: values without addresses, and what the def's pieces make of them. -/
namespace Dy
open PySem PySem.Spec PyProof.Rows L2

abbrev St := L2.St
/-! ### data -/
inductive D where
  | non | bl (b : Bool) | int (i : Int) | str (x : Str) | ty (n : String) | cls (n : Str)
  | tup (xs : List D) | lst (xs : List D)
  | dct (ks : List Key) (xs : List D)
  | exc (c : Str) (fs : List Str) (xs : List D)
  deriving Inhabited

/-- an exception's object, kept -/
def xO (cls : Value) (a : Addr) (dd : Option Addr) : HO := .ext fun h => ∃ (oe : Obj) (vs : Array Value), h.get? a = some oe ∧ Zc cls dd oe ∧ oe.data = .fields vs

mutual
def Rep (K : PySem.W.Frag) (F : Hp) : D → V → Prop
  | .non, v => v = .non
  | .bl b, v => v = .bl b
  | .int i, v => v = .int i
  | .str x, v => v = .str x
  | .ty n, v => v = .ty n
  | .cls n, v => v = .ref (He.ga K n)
  | .tup xs, v => ∃ a vs, v = .ref a ∧ SqT K F a vs ∧ RepL K F xs vs
  | .lst xs, v => ∃ a vs, v = .ref a ∧ SqL K F a vs ∧ RepL K F xs vs
  | .dct ks xs, v => ∃ a vs, v = .ref a ∧ F a = some (.dK (ks.zip vs)) ∧ ks.length = vs.length ∧ RepL K F xs vs
  | .exc c fs xs, v => ∃ a dd vs, v = .ref a ∧ F a = some (xO (.ref (He.ga K c)) a dd) ∧ fs.length = vs.length ∧ RepL K F xs vs ∧
      (match dd with | none => fs = [] | some d => F d = some (.xd (fs.zip vs)))
def RepL (K : PySem.W.Frag) (F : Hp) : List D → List V → Prop
  | [], vs => vs = []
  | d :: ds, vs => ∃ v r, vs = v :: r ∧ Rep K F d v ∧ RepL K F ds r
end

section
variable {K : PySem.W.Frag} {F F' H H' : Hp}
theorem Same.seqT {a : Addr} {xs : List V} (e : Same H H') (h : SqT K H a xs) : SqT K H' a xs := by
  rcases h with (h | ⟨o, h⟩) | h
  · exact .inl (.inl (e _ _ h))
  · exact .inl (.inr ⟨o, e _ _ h⟩)
  · exact .inr h
mutual
theorem Rep.mono (e : Same F F') : ∀ (d : D) (v : V), Rep K F d v → Rep K F' d v
  | .non, v, h => by simpa [Rep] using h
  | .bl b, v, h => by simpa [Rep] using h
  | .int i, v, h => by simpa [Rep] using h
  | .str x, v, h => by simpa [Rep] using h
  | .ty n, v, h => by simpa [Rep] using h
  | .cls n, v, h => by simpa [Rep] using h
  | .tup xs, v, h => by
    simp only [Rep] at h ⊢
    obtain ⟨a, vs, h1, h2, h3⟩ := h
    exact ⟨a, vs, h1, Same.seqT e h2, RepL.mono e xs vs h3⟩
  | .lst xs, v, h => by
    simp only [Rep] at h ⊢
    obtain ⟨a, vs, h1, h2, h3⟩ := h
    exact ⟨a, vs, h1, Same.seq e h2, RepL.mono e xs vs h3⟩
  | .dct ks xs, v, h => by
    simp only [Rep] at h ⊢
    obtain ⟨a, vs, h1, h2, h3, h4⟩ := h
    exact ⟨a, vs, h1, e _ _ h2, h3, RepL.mono e xs vs h4⟩
  | .exc c fs xs, v, h => by
    simp only [Rep] at h ⊢
    obtain ⟨a, dd, vs, h1, h2, h3, h4, h5⟩ := h
    refine ⟨a, dd, vs, h1, e _ _ h2, h3, RepL.mono e xs vs h4, ?_⟩
    cases dd with
    | none => exact h5
    | some d => exact e _ _ h5
theorem RepL.mono (e : Same F F') : ∀ (ds : List D) (vs : List V), RepL K F ds vs → RepL K F' ds vs
  | [], vs, h => by simpa [RepL] using h
  | d :: ds, vs, h => by
    simp only [RepL] at h ⊢
    obtain ⟨v, r, h1, h2, h3⟩ := h
    exact ⟨v, r, h1, Rep.mono e d v h2, RepL.mono e ds r h3⟩
end
theorem RepL.length : ∀ {ds : List D} {vs : List V}, RepL K F ds vs → ds.length = vs.length
  | [], vs, h => by simp only [RepL] at h; subst h; rfl
  | d :: ds, vs, h => by
    simp only [RepL] at h
    obtain ⟨v, r, rfl, _, h3⟩ := h
    simp [RepL.length h3]
theorem RepL.get : ∀ {ds : List D} {vs : List V} {i : Nat} {d : D}, RepL K F ds vs → ds[i]? = some d → ∃ v, vs[i]? = some v ∧ Rep K F d v
  | [], vs, i, d, h, e => by simp at e
  | d0 :: ds, vs, 0, d, h, e => by
    simp only [RepL] at h
    obtain ⟨v, r, rfl, h2, _⟩ := h
    simp at e
    subst e
    exact ⟨v, rfl, h2⟩
  | d0 :: ds, vs, i + 1, d, h, e => by
    simp only [RepL] at h
    obtain ⟨v, r, rfl, _, h3⟩ := h
    simp only [List.getElem?_cons_succ] at e ⊢
    exact RepL.get h3 e
theorem RepL.get' {ds : List D} {vs : List V} {i : Nat} {v : V} (h : RepL K F ds vs) (e : vs[i]? = some v) : ∃ d, ds[i]? = some d ∧ Rep K F d v := by
  obtain ⟨hi, _⟩ := List.getElem?_eq_some_iff.mp e
  have hi2 : i < ds.length := by rw [h.length]; exact hi
  obtain ⟨v', e', r⟩ := h.get (List.getElem?_eq_getElem hi2)
  rw [e] at e'
  cases e'
  exact ⟨_, List.getElem?_eq_getElem hi2, r⟩
theorem RepL.nil : RepL K F [] [] := by simp [RepL]
theorem RepL.cons {d : D} {v : V} {ds : List D} {vs : List V} (h : Rep K F d v) (t : RepL K F ds vs) : RepL K F (d :: ds) (v :: vs) := by
  simp only [RepL]; exact ⟨v, vs, rfl, h, t⟩
theorem RepL.append : ∀ {ds es : List D} {vs ws : List V}, RepL K F ds vs → RepL K F es ws → RepL K F (ds ++ es) (vs ++ ws)
  | [], es, vs, ws, h, t => by simp only [RepL] at h; subst h; simpa using t
  | d :: ds, es, vs, ws, h, t => by
    simp only [RepL] at h
    obtain ⟨v, r, rfl, h2, h3⟩ := h
    exact RepL.cons h2 (RepL.append h3 t)
theorem RepL.drop : ∀ {ds : List D} {vs : List V} (n : Nat), RepL K F ds vs → RepL K F (ds.drop n) (vs.drop n)
  | ds, vs, 0, h => by simpa using h
  | [], vs, n + 1, h => by simp only [RepL] at h; subst h; simpa using RepL.nil
  | d :: ds, vs, n + 1, h => by
    simp only [RepL] at h
    obtain ⟨v, r, rfl, _, h3⟩ := h
    simpa using RepL.drop n h3
theorem RepL.take : ∀ {ds : List D} {vs : List V} (n : Nat), RepL K F ds vs → RepL K F (ds.take n) (vs.take n)
  | ds, vs, 0, h => by simpa using RepL.nil
  | [], vs, n + 1, h => by simp only [RepL] at h; subst h; simpa using RepL.nil
  | d :: ds, vs, n + 1, h => by
    simp only [RepL] at h
    obtain ⟨v, r, rfl, h2, h3⟩ := h
    simpa using RepL.cons h2 (RepL.take n h3)
theorem RepL.set {d : D} {v : V} (h : Rep K F d v) : ∀ {ds : List D} {vs : List V} (i : Nat), RepL K F ds vs → RepL K F (ds.set i d) (vs.set i v)
  | [], vs, i, t => by simp only [RepL] at t; subst t; simpa using RepL.nil
  | e :: ds, vs, 0, t => by
    simp only [RepL] at t
    obtain ⟨w, r, rfl, _, h3⟩ := t
    exact RepL.cons h h3
  | e :: ds, vs, i + 1, t => by
    simp only [RepL] at t
    obtain ⟨w, r, rfl, h2, h3⟩ := t
    exact RepL.cons h2 (RepL.set h i h3)
theorem RepL.snoc {ds : List D} {vs : List V} {d : D} {v : V} (h : RepL K F ds vs) (t : Rep K F d v) : RepL K F (ds ++ [d]) (vs ++ [v]) := h.append (RepL.cons t RepL.nil)

theorem Rep.int_inv {i : Int} {v : V} (h : Rep K F (.int i) v) : v = .int i := by simpa [Rep] using h
theorem Rep.bl_inv {i : Bool} {v : V} (h : Rep K F (.bl i) v) : v = .bl i := by simpa [Rep] using h
theorem Rep.str_inv {i : Str} {v : V} (h : Rep K F (.str i) v) : v = .str i := by simpa [Rep] using h
theorem Rep.non_inv {v : V} (h : Rep K F .non v) : v = .non := by simpa [Rep] using h
theorem Rep.mk_int {i : Int} : Rep K F (.int i) (.int i) := by simp [Rep]
theorem Rep.mk_bl {i : Bool} : Rep K F (.bl i) (.bl i) := by simp [Rep]
theorem Rep.mk_str {i : Str} : Rep K F (.str i) (.str i) := by simp [Rep]
theorem Rep.mk_non : Rep K F .non .non := by simp [Rep]
theorem Rep.mk_ty {n : String} : Rep K F (.ty n) (.ty n) := by simp [Rep]
theorem Rep.tup_inv {xs : List D} {v : V} (h : Rep K F (.tup xs) v) : ∃ a vs, v = .ref a ∧ SqT K F a vs ∧ RepL K F xs vs := by simpa [Rep] using h
theorem Rep.lst_inv {xs : List D} {v : V} (h : Rep K F (.lst xs) v) : ∃ a vs, v = .ref a ∧ SqL K F a vs ∧ RepL K F xs vs := by simpa [Rep] using h
theorem Rep.mk_tup {xs : List D} {a : Addr} {vs : List V} (h : SqT K F a vs) (t : RepL K F xs vs) : Rep K F (.tup xs) (.ref a) := by
  simp only [Rep]; exact ⟨a, vs, rfl, h, t⟩
theorem Rep.mk_lst {xs : List D} {a : Addr} {vs : List V} (h : SqL K F a vs) (t : RepL K F xs vs) : Rep K F (.lst xs) (.ref a) := by
  simp only [Rep]; exact ⟨a, vs, rfl, h, t⟩
end

/-! ### how the heap grows -/
structure Ext (F H F' H' : Hp) : Prop where
  f : Same F F'
  h : Same H H'
  s : Same F' H'
  n : ∀ a o, F' a = some o → F a = none → H a = none
section
variable {F H F' H' F'' H'' : Hp}
theorem Ext.refl (e : Same F H) : Ext F H F H := ⟨.refl _, .refl _, e, fun a o h1 h2 => by rw [h2] at h1; cases h1⟩
theorem Ext.trans (a : Ext F H F' H') (b : Ext F' H' F'' H'') : Ext F H F'' H'' := by
  refine ⟨a.f.trans b.f, a.h.trans b.h, b.s, fun c o h1 h2 => ?_⟩
  cases q : F' c with
  | none => exact a.h.free (b.n c o h1 q)
  | some u => exact a.n c u q h2
theorem same_upd {p : Addr} {o : HO} (h : H p = none) : Same H (upd H p o) := fun b x e => by
  rw [upd_ne (ne_of_none e h)]
  exact e
/-- a new object, kept -/
theorem Ext.new {p : Addr} {o : HO} (e : Same F H) (h : H p = none) : Ext F H (upd F p o) (upd H p o) := by
  have hf : F p = none := e.free h
  refine ⟨same_upd hf, same_upd h, fun b x q => ?_, fun b x q r => ?_⟩
  · by_cases hb : b = p
    · subst hb; rw [upd_same] at q ⊢; exact q
    · rw [upd_ne hb] at q ⊢; exact e _ _ q
  · by_cases hb : b = p
    · subst hb; exact h
    · rw [upd_ne hb, r] at q; cases q
/-- a new object, not kept -/
theorem Ext.newH {p : Addr} {o : HO} (e : Same F H) (h : H p = none) : Ext F H F (upd H p o) :=
  ⟨.refl _, same_upd h, e.trans (same_upd h), fun b x q r => by rw [r] at q; cases q⟩
end

/-! ### things of one's own: lists that nothing else knows, and tuples with such in them -/
inductive O where
  | v (d : D) | l (os : List O) | t (os : List O)
  deriving Inhabited
mutual
def O.toD : O → D
  | .v d => d
  | .l os => .lst (O.toDs os)
  | .t os => .tup (O.toDs os)
def O.toDs : List O → List D
  | [] => []
  | o :: os => O.toD o :: O.toDs os
end
mutual
def OwR (K : PySem.W.Frag) (F H : Hp) : O → V → List Addr → Prop
  | .v d, v, fp => Rep K F d v ∧ fp = []
  | .l os, v, fp => ∃ a vs fq, v = .ref a ∧ H a = some (.lst vs) ∧ fp = a :: fq ∧ OwRs K F H os vs fq
  | .t os, v, fp => ∃ a vs, v = .ref a ∧ F a = some (.tup vs) ∧ OwRs K F H os vs fp
def OwRs (K : PySem.W.Frag) (F H : Hp) : List O → List V → List Addr → Prop
  | [], vs, fp => vs = [] ∧ fp = []
  | o :: os, vs, fp => ∃ v r f1 f2, vs = v :: r ∧ fp = f1 ++ f2 ∧ OwR K F H o v f1 ∧ OwRs K F H os r f2
end
section
variable {K : PySem.W.Frag} {F F' H H' : Hp}
mutual
theorem OwR.move (s : Same F F') : ∀ (o : O) (v : V) (fp : List Addr), OwR K F H o v fp → (∀ b ∈ fp, H' b = H b) → OwR K F' H' o v fp
  | .v d, v, fp, h, _ => by
    simp only [OwR] at h ⊢
    exact ⟨Rep.mono s _ _ h.1, h.2⟩
  | .l os, v, fp, h, k => by
    simp only [OwR] at h ⊢
    obtain ⟨a, vs, fq, h1, h2, h3, h4⟩ := h
    subst h3
    exact ⟨a, vs, fq, h1, by rw [k a List.mem_cons_self]; exact h2, rfl, OwRs.move s os vs fq h4 fun b hb => k b (List.mem_cons_of_mem _ hb)⟩
  | .t os, v, fp, h, k => by
    simp only [OwR] at h ⊢
    obtain ⟨a, vs, h1, h2, h4⟩ := h
    exact ⟨a, vs, h1, s _ _ h2, OwRs.move s os vs fp h4 k⟩
theorem OwRs.move (s : Same F F') : ∀ (os : List O) (vs : List V) (fp : List Addr), OwRs K F H os vs fp → (∀ b ∈ fp, H' b = H b) → OwRs K F' H' os vs fp
  | [], vs, fp, h, _ => by simpa only [OwRs] using h
  | o :: os, vs, fp, h, k => by
    simp only [OwRs] at h ⊢
    obtain ⟨v, r, f1, f2, h1, h2, h3, h4⟩ := h
    subst h2
    exact ⟨v, r, f1, f2, h1, rfl, OwR.move s o v f1 h3 fun b hb => k b (List.mem_append_left _ hb), OwRs.move s os r f2 h4 fun b hb => k b (List.mem_append_right _ hb)⟩
end
mutual
theorem OwR.uniq : ∀ (o : O) (v : V) (fp fp' : List Addr), OwR K F H o v fp → OwR K F H o v fp' → fp = fp'
  | .v d, v, fp, fp', h, h' => by
    simp only [OwR] at h h'
    rw [h.2, h'.2]
  | .l os, v, fp, fp', h, h' => by
    simp only [OwR] at h h'
    obtain ⟨a, vs, fq, h1, h2, h3, h4⟩ := h
    obtain ⟨a', vs', fq', h1', h2', h3', h4'⟩ := h'
    rw [h1] at h1'
    cases h1'
    rw [h2] at h2'
    cases h2'
    rw [h3, h3', OwRs.uniq os vs fq fq' h4 h4']
  | .t os, v, fp, fp', h, h' => by
    simp only [OwR] at h h'
    obtain ⟨a, vs, h1, h2, h4⟩ := h
    obtain ⟨a', vs', h1', h2', h4'⟩ := h'
    rw [h1] at h1'
    cases h1'
    rw [h2] at h2'
    cases h2'
    exact OwRs.uniq os vs fp fp' h4 h4'
theorem OwRs.uniq : ∀ (os : List O) (vs : List V) (fp fp' : List Addr), OwRs K F H os vs fp → OwRs K F H os vs fp' → fp = fp'
  | [], vs, fp, fp', h, h' => by
    simp only [OwRs] at h h'
    rw [h.2, h'.2]
  | o :: os, vs, fp, fp', h, h' => by
    simp only [OwRs] at h h'
    obtain ⟨v, r, f1, f2, h1, h2, h3, h4⟩ := h
    obtain ⟨v', r', f1', f2', h1', h2', h3', h4'⟩ := h'
    rw [h1] at h1'
    cases h1'
    rw [h2, h2', OwR.uniq o v f1 f1' h3 h3', OwRs.uniq os r f2 f2' h4 h4']
end
mutual
theorem OwR.inH : ∀ (o : O) (v : V) (fp : List Addr), OwR K F H o v fp → ∀ a ∈ fp, ∃ vs, H a = some (.lst vs)
  | .v d, v, fp, h, a, ha => by
    simp only [OwR] at h
    rw [h.2] at ha
    cases ha
  | .l os, v, fp, h, a, ha => by
    simp only [OwR] at h
    obtain ⟨a', vs, fq, h1, h2, h3, h4⟩ := h
    subst h3
    rcases List.mem_cons.mp ha with rfl | ha
    · exact ⟨vs, h2⟩
    · exact OwRs.inH os vs fq h4 a ha
  | .t os, v, fp, h, a, ha => by
    simp only [OwR] at h
    obtain ⟨a', vs, h1, h2, h4⟩ := h
    exact OwRs.inH os vs fp h4 a ha
theorem OwRs.inH : ∀ (os : List O) (vs : List V) (fp : List Addr), OwRs K F H os vs fp → ∀ a ∈ fp, ∃ vs, H a = some (.lst vs)
  | [], vs, fp, h, a, ha => by
    simp only [OwRs] at h
    rw [h.2] at ha
    cases ha
  | o :: os, vs, fp, h, a, ha => by
    simp only [OwRs] at h
    obtain ⟨v, r, f1, f2, h1, h2, h3, h4⟩ := h
    subst h2
    rcases List.mem_append.mp ha with ha | ha
    · exact OwR.inH o v f1 h3 a ha
    · exact OwRs.inH os r f2 h4 a ha
end
open Classical in
/-- the heap of kept things with more kept from another one -/
noncomputable def addF (F H : Hp) (fp : List Addr) : Hp := fun a => if a ∈ fp then H a else F a
theorem addF_in {a : Addr} {fp : List Addr} (h : a ∈ fp) : addF F H fp a = H a := by
  unfold addF
  rw [if_pos h]
theorem addF_out {a : Addr} {fp : List Addr} (h : a ∉ fp) : addF F H fp a = F a := by
  unfold addF
  rw [if_neg h]
theorem addF_same {fp : List Addr} (h : ∀ a ∈ fp, F a = none) : Same F (addF F H fp) := fun a o e => by
  by_cases q : a ∈ fp
  · rw [h a q] at e; cases e
  · rw [addF_out q]; exact e
theorem addF_H {fp : List Addr} (s : Same F H) : Same (addF F H fp) H := fun a o e => by
  by_cases q : a ∈ fp
  · rw [addF_in q] at e; exact e
  · rw [addF_out q] at e; exact s _ _ e
mutual
/-- all of one's own is kept from here on -/
theorem OwR.frz (s : Same F F') : ∀ (o : O) (v : V) (fp : List Addr), OwR K F H o v fp → (∀ a ∈ fp, F' a = H a) → Rep K F' o.toD v
  | .v d, v, fp, h, _ => by
    simp only [OwR] at h
    simp only [O.toD]
    exact Rep.mono s _ _ h.1
  | .l os, v, fp, h, k => by
    simp only [OwR] at h
    simp only [O.toD]
    obtain ⟨a, vs, fq, h1, h2, h3, h4⟩ := h
    subst h3
    subst h1
    exact Rep.mk_lst (.of (by rw [k a List.mem_cons_self]; exact h2)) (OwRs.frz s os vs fq h4 fun b hb => k b (List.mem_cons_of_mem _ hb))
  | .t os, v, fp, h, k => by
    simp only [OwR] at h
    simp only [O.toD]
    obtain ⟨a, vs, h1, h2, h4⟩ := h
    subst h1
    exact Rep.mk_tup (.of (s _ _ h2)) (OwRs.frz s os vs fp h4 k)
theorem OwRs.frz (s : Same F F') : ∀ (os : List O) (vs : List V) (fp : List Addr), OwRs K F H os vs fp → (∀ a ∈ fp, F' a = H a) → RepL K F' (O.toDs os) vs
  | [], vs, fp, h, _ => by
    simp only [OwRs] at h
    simp only [O.toDs, RepL]
    exact h.1
  | o :: os, vs, fp, h, k => by
    simp only [OwRs] at h
    simp only [O.toDs]
    obtain ⟨v, r, f1, f2, h1, h2, h3, h4⟩ := h
    subst h2
    subst h1
    exact RepL.cons (OwR.frz s o v f1 h3 fun b hb => k b (List.mem_append_left _ hb)) (OwRs.frz s os r f2 h4 fun b hb => k b (List.mem_append_right _ hb))
end
end

/-! ### slots -/
inductive Sl where
  | un | val (d : D) | own (ds : List D) | ownD (ks : List Key) (ds : List D) | tree (o : O) | pin (w : V) (o : O)
instance : Inhabited Sl := ⟨.un⟩
abbrev REnv := List Sl

def SlOk (K : PySem.W.Frag) (G F H : Hp) : Sl → Option V → Prop
  | .un, _ => True
  | .val d, x => ∃ v, x = some v ∧ Rep K F d v
  | .own ds, x => ∃ a vs, x = some (.ref a) ∧ H a = some (.lst vs) ∧ RepL K F ds vs ∧ F a = none ∧ G a = none
  | .ownD ks ds, x => ∃ a vs, x = some (.ref a) ∧ H a = some (.dK (ks.zip vs)) ∧ ks.length = vs.length ∧ RepL K F ds vs ∧ F a = none ∧ G a = none
  | .tree o, x => ∃ v fp, x = some v ∧ OwR K F H o v fp ∧ fp.Nodup ∧ ∀ a ∈ fp, F a = none ∧ G a = none
  | .pin w o, x => x = some w ∧ ∃ v fp, x = some v ∧ OwR K F H o v fp ∧ fp.Nodup ∧ ∀ a ∈ fp, F a = none ∧ G a = none
/-- what a slot has of its own -/
def Owned (K : PySem.W.Frag) (F H : Hp) : Sl → Option V → Addr → Prop
  | .own _, x, a => x = some (.ref a)
  | .ownD _ _, x, a => x = some (.ref a)
  | .tree o, x, a => ∃ v fp, x = some v ∧ OwR K F H o v fp ∧ a ∈ fp
  | .pin _ o, x, a => ∃ v fp, x = some v ∧ OwR K F H o v fp ∧ a ∈ fp
  | _, _, _ => False

structure RepE (K : PySem.W.Frag) (G F H : Hp) (σ : St) (ρ : REnv) : Prop where
  g : Same G H
  f : Same F H
  len : ρ.length = σ.length
  at_ : ∀ (i : Nat) (s : Sl) (x : Option V), ρ[i]? = some s → σ[i]? = some x → SlOk K G F H s x
  ap : ∀ (i j : Nat) (s t : Sl) (x y : Option V) (a : Addr), i ≠ j → ρ[i]? = some s → ρ[j]? = some t → σ[i]? = some x → σ[j]? = some y → Owned K F H s x a → Owned K F H t y a → False

/-- new kept objects are younger than G -/
def NewG (G F F' : Hp) : Prop := ∀ a o, F' a = some o → F a = none → G a = none

section
variable {K : PySem.W.Frag} {G F H F' H' : Hp} {σ : St} {ρ : REnv}
theorem NewG.refl : NewG G F F := fun a o h1 h2 => by rw [h2] at h1; cases h1
theorem NewG.trans {F'' : Hp} (a : NewG G F F') (b : NewG G F' F'') : NewG G F F'' := fun c o h1 h2 => by
  cases q : F' c with
  | none => exact b c o h1 q
  | some u => exact a c u q h2
theorem Ext.newG (e : Ext F H F' H') (g : Same G H) : NewG G F F' := fun a o h1 h2 => g.free (e.n a o h1 h2)
/-- what is one's own is known, and not kept -/
theorem SlOk.own {s : Sl} {x : Option V} (h : SlOk K G F H s x) {a : Addr} (o : Owned K F H s x a) : (∃ u, H a = some u) ∧ F a = none ∧ G a = none := by
  cases s with
  | un => exact o.elim
  | val d => exact o.elim
  | own ds =>
    obtain ⟨b, vs, e1, e2, e3, e4, e5⟩ := h
    have o : x = some (.ref a) := o
    rw [e1] at o
    cases o
    exact ⟨⟨_, e2⟩, e4, e5⟩
  | ownD ks ds =>
    obtain ⟨b, vs, e1, e2, e3, e6, e4, e5⟩ := h
    have o : x = some (.ref a) := o
    rw [e1] at o
    cases o
    exact ⟨⟨_, e2⟩, e4, e5⟩
  | tree q =>
    obtain ⟨v, fp, e1, e2, e3, e4⟩ := h
    obtain ⟨v', fp', e1', e2', e3'⟩ := o
    rw [e1] at e1'
    cases e1'
    rw [OwR.uniq q v fp' fp e2' e2] at e3'
    obtain ⟨vs, hv⟩ := OwR.inH q v fp e2 a e3'
    exact ⟨⟨_, hv⟩, e4 a e3'⟩
  | pin w q =>
    obtain ⟨_, v, fp, e1, e2, e3, e4⟩ := h
    obtain ⟨v', fp', e1', e2', e3'⟩ := o
    rw [e1] at e1'
    cases e1'
    rw [OwR.uniq q v fp' fp e2' e2] at e3'
    obtain ⟨vs, hv⟩ := OwR.inH q v fp e2 a e3'
    exact ⟨⟨_, hv⟩, e4 a e3'⟩
theorem SlOk.move {s : Sl} {x : Option V} (h : SlOk K G F H s x) (m : Same F F') (k : ∀ b, Owned K F H s x b → H' b = H b ∧ F' b = none) : SlOk K G F' H' s x ∧ ∀ a, Owned K F' H' s x a → Owned K F H s x a := by
  cases s with
  | un => exact ⟨trivial, fun a o => o.elim⟩
  | val d =>
    obtain ⟨v, e1, e2⟩ := h
    exact ⟨⟨v, e1, Rep.mono m _ _ e2⟩, fun a o => o.elim⟩
  | own ds =>
    obtain ⟨a, vs, e1, e2, e3, e4, e5⟩ := h
    obtain ⟨k1, k2⟩ := k a e1
    exact ⟨⟨a, vs, e1, by rw [k1]; exact e2, RepL.mono m _ _ e3, k2, e5⟩, fun a o => o⟩
  | ownD ks ds =>
    obtain ⟨a, vs, e1, e2, e3, e6, e4, e5⟩ := h
    obtain ⟨k1, k2⟩ := k a e1
    exact ⟨⟨a, vs, e1, by rw [k1]; exact e2, e3, RepL.mono m _ _ e6, k2, e5⟩, fun a o => o⟩
  | tree q =>
    obtain ⟨v, fp, e1, e2, e3, e4⟩ := h
    have kk : ∀ b ∈ fp, H' b = H b ∧ F' b = none := fun b hb => k b ⟨v, fp, e1, e2, hb⟩
    have e2' := OwR.move m q v fp e2 fun b hb => (kk b hb).1
    refine ⟨⟨v, fp, e1, e2', e3, fun b hb => ⟨(kk b hb).2, (e4 b hb).2⟩⟩, fun a o => ?_⟩
    obtain ⟨v', fp', o1, o2, o3⟩ := o
    rw [e1] at o1
    cases o1
    rw [OwR.uniq q v fp' fp o2 e2'] at o3
    exact ⟨v, fp, e1, e2, o3⟩
  | pin w q =>
    obtain ⟨e0, v, fp, e1, e2, e3, e4⟩ := h
    have kk : ∀ b ∈ fp, H' b = H b ∧ F' b = none := fun b hb => k b ⟨v, fp, e1, e2, hb⟩
    have e2' := OwR.move m q v fp e2 fun b hb => (kk b hb).1
    refine ⟨⟨e0, v, fp, e1, e2', e3, fun b hb => ⟨(kk b hb).2, (e4 b hb).2⟩⟩, fun a o => ?_⟩
    obtain ⟨v', fp', o1, o2, o3⟩ := o
    rw [e1] at o1
    cases o1
    rw [OwR.uniq q v fp' fp o2 e2'] at o3
    exact ⟨v, fp, e1, e2, o3⟩
/-- all slots as they were -/
theorem RepE.keep (r : RepE K G F H σ ρ) (g : Same G H') (f : Same F' H') (m : Same F F') (k : ∀ (i : Nat) (s : Sl) (x : Option V) (b : Addr), ρ[i]? = some s → σ[i]? = some x → Owned K F H s x b → H' b = H b ∧ F' b = none) : RepE K G F' H' σ ρ :=
  ⟨g, f, r.len, fun i s x h1 h2 => ((r.at_ i s x h1 h2).move m (fun b o => k i s x b h1 h2 o)).1, fun i j s t x y a hij h1 h2 h3 h4 o1 o2 =>
    r.ap i j s t x y a hij h1 h2 h3 h4 (((r.at_ i s x h1 h3).move (F' := F') (H' := H') m (fun b o => k i s x b h1 h3 o)).2 a o1) (((r.at_ j t y h2 h4).move (F' := F') (H' := H') m (fun b o => k j t y b h2 h4 o)).2 a o2)⟩
/-- one slot takes another thing -/
theorem RepE.put (r : RepE K G F H σ ρ) {i : Nat} {s' : Sl} {x' : Option V} (g : Same G H') (f : Same F' H') (m : Same F F')
    (k : ∀ (j : Nat) (s : Sl) (x : Option V) (b : Addr), j ≠ i → ρ[j]? = some s → σ[j]? = some x → Owned K F H s x b → H' b = H b ∧ F' b = none)
    (new : SlOk K G F' H' s' x') (dis : ∀ a, Owned K F' H' s' x' a → ∀ (j : Nat) (s : Sl) (x : Option V), j ≠ i → ρ[j]? = some s → σ[j]? = some x → Owned K F H s x a → False) : RepE K G F' H' (σ.set i x') (ρ.set i s') := by
  have hlen : (ρ.set i s').length = (σ.set i x').length := by simp [r.len]
  have self : ∀ (s : Sl) (x : Option V), (ρ.set i s')[i]? = some s → (σ.set i x')[i]? = some x → s = s' ∧ x = x' := fun s x h1 h2 => by
    have hi : i < ρ.length := by
      obtain ⟨q, _⟩ := List.getElem?_eq_some_iff.mp h1
      simpa using q
    rw [List.getElem?_set_self hi] at h1
    rw [List.getElem?_set_self (by rw [← r.len]; exact hi)] at h2
    cases h1
    cases h2
    exact ⟨rfl, rfl⟩
  have other : ∀ (j : Nat) (s : Sl) (x : Option V), j ≠ i → (ρ.set i s')[j]? = some s → (σ.set i x')[j]? = some x → ρ[j]? = some s ∧ σ[j]? = some x ∧ SlOk K G F' H' s x ∧ ∀ a, Owned K F' H' s x a → Owned K F H s x a := fun j s x hj h1 h2 => by
    rw [List.getElem?_set_ne (fun z => hj z.symm)] at h1 h2
    exact ⟨h1, h2, (r.at_ j s x h1 h2).move m fun b o => k j s x b hj h1 h2 o⟩
  refine ⟨g, f, hlen, fun j s x h1 h2 => ?_, fun j l s t x y a hjl h1 h2 h3 h4 o1 o2 => ?_⟩
  · by_cases hj : j = i
    · subst hj
      obtain ⟨rfl, rfl⟩ := self s x h1 h2
      exact new
    · exact (other j s x hj h1 h2).2.2.1
  · by_cases hj : j = i
    · subst hj
      obtain ⟨rfl, rfl⟩ := self s x h1 h3
      obtain ⟨q1, q2, _, q4⟩ := other l t y (fun z => hjl z.symm) h2 h4
      exact dis a o1 l t y (fun z => hjl z.symm) q1 q2 (q4 a o2)
    · obtain ⟨p1, p2, _, p4⟩ := other j s x hj h1 h3
      by_cases hl : l = i
      · subst hl
        obtain ⟨rfl, rfl⟩ := self t y h2 h4
        exact dis a o2 j s x hj p1 p2 (p4 a o1)
      · obtain ⟨q1, q2, _, q4⟩ := other l t y hl h2 h4
        exact r.ap j l s t x y a hjl p1 q1 p2 q2 (p4 a o1) (q4 a o2)
theorem RepE.ext (r : RepE K G F H σ ρ) (e : Ext F H F' H') : RepE K G F' H' σ ρ := by
  refine r.keep (r.g.trans e.h) e.s e.f fun i s x b h1 h2 o => ?_
  obtain ⟨⟨u, hu⟩, hf, _⟩ := (r.at_ i s x h1 h2).own o
  refine ⟨by rw [hu]; exact e.h _ _ hu, ?_⟩
  cases q : F' b with
  | none => rfl
  | some w =>
    have := e.n b w q hf
    rw [hu] at this
    cases this
/-- a slot takes a kept value -/
theorem RepE.setV (r : RepE K G F H σ ρ) {i : Nat} {d : D} {v : V} (h : Rep K F d v) : RepE K G F H (σ.set i (some v)) (ρ.set i (.val d)) :=
  r.put r.g r.f (.refl _) (fun j s x b _ h1 h2 o => ⟨rfl, ((r.at_ j s x h1 h2).own o).2.1⟩) ⟨v, rfl, h⟩ fun a o => o.elim
/-- a slot is forgotten -/
theorem RepE.unset (r : RepE K G F H σ ρ) {i : Nat} {x : Option V} : RepE K G F H (σ.set i x) (ρ.set i .un) :=
  r.put r.g r.f (.refl _) (fun j s x b _ h1 h2 o => ⟨rfl, ((r.at_ j s x h1 h2).own o).2.1⟩) trivial fun a o => o.elim
/-- a slot takes a new list of its own -/
theorem RepE.setO (r : RepE K G F H σ ρ) {i : Nat} {ds : List D} {a : Addr} {vs : List V} (h : RepL K F ds vs) (ha : H a = none) : RepE K G F (upd H a (.lst vs)) (σ.set i (some (.ref a))) (ρ.set i (.own ds)) := by
  have hf : F a = none := r.f.free ha
  have hg : G a = none := r.g.free ha
  have nab : ∀ (j : Nat) (s : Sl) (x : Option V) (b : Addr), ρ[j]? = some s → σ[j]? = some x → Owned K F H s x b → b ≠ a := fun j s x b h1 h2 o e => by
    obtain ⟨⟨u, hu⟩, _⟩ := (r.at_ j s x h1 h2).own o
    rw [e, ha] at hu
    cases hu
  refine r.put (fun b o q => ?_) (fun b o q => ?_) (.refl _) (fun j s x b _ h1 h2 o => ⟨upd_ne (nab j s x b h1 h2 o), ((r.at_ j s x h1 h2).own o).2.1⟩) ⟨a, vs, rfl, upd_same, h, hf, hg⟩ fun b o j s x _ h1 h2 o2 => ?_
  · rw [upd_ne (ne_of_none q hg)]; exact r.g _ _ q
  · rw [upd_ne (ne_of_none q hf)]; exact r.f _ _ q
  · have o : some (V.ref a) = some (.ref b) := o
    cases o
    exact nab j s x a h1 h2 o2 rfl
/-- a slot takes something of its own -/
theorem RepE.setT (r : RepE K G F H σ ρ) (ex : Ext F H F' H') {i : Nat} {o : O} {v : V} {fp : List Addr} (h : OwR K F' H' o v fp) (nd : fp.Nodup) (hn : ∀ a ∈ fp, H a = none ∧ F' a = none) : RepE K G F' H' (σ.set i (some v)) (ρ.set i (.tree o)) := by
  have r2 : RepE K G F' H' σ ρ := r.ext ex
  refine r2.put r2.g r2.f (.refl _) (fun j s x b _ h1 h2 o => ⟨rfl, ((r2.at_ j s x h1 h2).own o).2.1⟩) ⟨v, fp, rfl, h, nd, fun a ha => ⟨(hn a ha).2, r.g.free (hn a ha).1⟩⟩ fun b o' j s x _ h1 h2 o2 => ?_
  obtain ⟨v', fp', e1, e2, e3⟩ := o'
  cases e1
  rw [OwR.uniq o v fp' fp e2 h] at e3
  have q := ((r.at_ j s x h1 h2).move ex.f (F' := F') (H' := H') fun b o => by
    obtain ⟨⟨u, hu⟩, hf, _⟩ := (r.at_ j s x h1 h2).own o
    refine ⟨by rw [hu]; exact ex.h _ _ hu, ?_⟩
    cases q : F' b with
    | none => rfl
    | some w =>
      have := ex.n b w q hf
      rw [hu] at this
      cases this).2 b o2
  obtain ⟨⟨u, hu⟩, _⟩ := (r.at_ j s x h1 h2).own q
  rw [(hn b e3).1] at hu
  cases hu
/-- the list of one's own at slot i turns -/
theorem RepE.turnO (r : RepE K G F H σ ρ) {i : Nat} {ds es : List D} {a : Addr} {ws : List V} (hi : ρ[i]? = some (.own ds)) (hs : σ[i]? = some (some (.ref a))) (h : RepL K F es ws) :
    RepE K G F (upd H a (.lst ws)) σ (ρ.set i (.own es)) := by
  obtain ⟨a', vs, e1, e2, e3, hf, hg⟩ := r.at_ i _ _ hi hs
  cases e1
  have es : σ.set i (some (.ref a)) = σ := by
    have hl := (List.getElem?_eq_some_iff.mp hs)
    obtain ⟨hl, he⟩ := hl
    rw [← he]
    exact List.set_getElem_self hl
  have nab : ∀ (j : Nat) (s : Sl) (x : Option V) (b : Addr), j ≠ i → ρ[j]? = some s → σ[j]? = some x → Owned K F H s x b → b ≠ a := fun j s x b hj h1 h2 o e => by
    subst e
    exact r.ap j i s _ x _ b hj h1 hi h2 hs o rfl
  have q := r.put (F' := F) (H' := upd H a (.lst ws)) (i := i) (s' := .own _) (x' := some (.ref a)) (fun b o q => by rw [upd_ne (ne_of_none q hg)]; exact r.g _ _ q) (fun b o q => by rw [upd_ne (ne_of_none q hf)]; exact r.f _ _ q) (.refl _)
    (fun j s x b hj h1 h2 o => ⟨upd_ne (nab j s x b hj h1 h2 o), ((r.at_ j s x h1 h2).own o).2.1⟩) ⟨a, ws, rfl, upd_same, h, hf, hg⟩ fun b o j s x hj h1 h2 o2 => by
      have o : some (V.ref a) = some (.ref b) := o
      cases o
      exact nab j s x a hj h1 h2 o2 rfl
  rw [es] at q
  exact q
/-- what is one's own at slot i turns, in lists of its own -/
theorem RepE.turnT (r : RepE K G F H σ ρ) {i : Nat} {o o' : O} {v : V} {fp : List Addr} (hi : ρ[i]? = some (.tree o)) (hs : σ[i]? = some (some v)) (h : OwR K F H o v fp) (hh : ∀ b, b ∉ fp → H' b = H b) (h' : OwR K F H' o' v fp) :
    RepE K G F H' σ (ρ.set i (.tree o')) := by
  obtain ⟨v', fp', e1, e2, e3, e4⟩ := r.at_ i _ _ hi hs
  cases e1
  rw [OwR.uniq o v fp' fp e2 h] at e3 e4
  have es : σ.set i (some v) = σ := by
    obtain ⟨hl, he⟩ := List.getElem?_eq_some_iff.mp hs
    rw [← he]
    exact List.set_getElem_self hl
  have nab : ∀ (j : Nat) (s : Sl) (x : Option V) (b : Addr), j ≠ i → ρ[j]? = some s → σ[j]? = some x → Owned K F H s x b → b ∉ fp := fun j s x b hj h1 h2 o e =>
    r.ap j i s _ x _ b hj h1 hi h2 hs o ⟨v, fp, rfl, h, e⟩
  have out : ∀ {E : Hp}, (∀ a ∈ fp, E a = none) → ∀ {b : Addr} {u : HO}, E b = some u → b ∉ fp := fun {E} c {b} {u} q z => by rw [c b z] at q; cases q
  have q := r.put (F' := F) (H' := H') (i := i) (s' := .tree o') (x' := some v) (fun b u q => by rw [hh b (out (fun a ha => (e4 a ha).2) q)]; exact r.g _ _ q) (fun b u q => by rw [hh b (out (fun a ha => (e4 a ha).1) q)]; exact r.f _ _ q) (.refl _)
    (fun j s x b hj h1 h2 o => ⟨hh b (nab j s x b hj h1 h2 o), ((r.at_ j s x h1 h2).own o).2.1⟩) ⟨v, fp, rfl, h', e3, e4⟩ fun b o2 j s x hj h1 h2 o3 => by
      obtain ⟨v2, fp2, q1, q2, q3⟩ := o2
      cases q1
      rw [OwR.uniq o' v fp2 fp q2 h'] at q3
      exact nab j s x b hj h1 h2 o3 q3
  rw [es] at q
  exact q
/-- the list of one's own at slot i is kept from here on -/
theorem RepE.freezeE (r : RepE K G F H σ ρ) {i : Nat} {ds : List D} (hi : ρ[i]? = some (.own ds)) :
    ∃ a vs, σ[i]? = some (some (.ref a)) ∧ H a = some (.lst vs) ∧ F a = none ∧ Same F (upd F a (.lst vs)) ∧ NewG G F (upd F a (.lst vs)) ∧ RepE K G (upd F a (.lst vs)) H σ (ρ.set i (.val (.lst ds))) := by
  have hl : i < ρ.length := (List.getElem?_eq_some_iff.mp hi).1
  have hsl : i < σ.length := by rw [← r.len]; exact hl
  have hs0 : σ[i]? = some σ[i] := List.getElem?_eq_getElem hsl
  obtain ⟨a, vs, e1, e2, e3, hf, hg⟩ := r.at_ i _ _ hi hs0
  have hs : σ[i]? = some (some (.ref a)) := by rw [hs0, e1]
  have sm : Same F (upd F a (.lst vs)) := same_upd hf
  have es : σ.set i (some (.ref a)) = σ := by
    rw [← e1]
    exact List.set_getElem_self hsl
  have nab : ∀ (j : Nat) (s : Sl) (x : Option V) (b : Addr), j ≠ i → ρ[j]? = some s → σ[j]? = some x → Owned K F H s x b → b ≠ a := fun j s x b hj h1 h2 o e => by
    subst e
    exact r.ap j i s _ x _ b hj h1 hi h2 hs o rfl
  refine ⟨a, vs, hs, e2, hf, sm, fun b o q z => ?_, ?_⟩
  · by_cases hb : b = a
    · subst hb; exact hg
    · rw [upd_ne hb, z] at q; cases q
  have q := r.put (F' := upd F a (.lst vs)) (H' := H) (i := i) (s' := .val (.lst ds)) (x' := some (.ref a)) r.g (fun b o q => by
      by_cases hb : b = a
      · subst hb; rw [upd_same] at q; rw [← q]; exact e2
      · rw [upd_ne hb] at q; exact r.f _ _ q) sm
    (fun j s x b hj h1 h2 o => ⟨rfl, by rw [upd_ne (nab j s x b hj h1 h2 o)]; exact ((r.at_ j s x h1 h2).own o).2.1⟩) ⟨.ref a, rfl, Rep.mk_lst (.of upd_same) (RepL.mono sm _ _ e3)⟩ fun b o => o.elim
  rw [es] at q
  exact q
theorem RepE.freeze (r : RepE K G F H σ ρ) {i : Nat} {ds : List D} (hi : ρ[i]? = some (.own ds)) :
    ∃ F', Same F F' ∧ NewG G F F' ∧ RepE K G F' H σ (ρ.set i (.val (.lst ds))) := by
  obtain ⟨a, vs, _, _, _, h1, h2, h3⟩ := r.freezeE hi
  exact ⟨_, h1, h2, h3⟩
/-- what is one's own at slot i is kept from here on -/
theorem RepE.freezeT (r : RepE K G F H σ ρ) {i : Nat} {o : O} (hi : ρ[i]? = some (.tree o)) :
    ∃ F', Same F F' ∧ NewG G F F' ∧ RepE K G F' H σ (ρ.set i (.val o.toD)) := by
  have hl : i < ρ.length := (List.getElem?_eq_some_iff.mp hi).1
  have hsl : i < σ.length := by rw [← r.len]; exact hl
  have hs0 : σ[i]? = some σ[i] := List.getElem?_eq_getElem hsl
  obtain ⟨v, fp, e1, e2, e3, e4⟩ := r.at_ i _ _ hi hs0
  have hs : σ[i]? = some (some v) := by rw [hs0, e1]
  have sm : Same F (addF F H fp) := addF_same fun a ha => (e4 a ha).1
  have es : σ.set i (some v) = σ := by
    rw [← e1]
    exact List.set_getElem_self hsl
  have nab : ∀ (j : Nat) (s : Sl) (x : Option V) (b : Addr), j ≠ i → ρ[j]? = some s → σ[j]? = some x → Owned K F H s x b → b ∉ fp := fun j s x b hj h1 h2 o' e =>
    r.ap j i s _ x _ b hj h1 hi h2 hs o' ⟨v, fp, rfl, e2, e⟩
  refine ⟨addF F H fp, sm, fun b u q z => ?_, ?_⟩
  · by_cases hb : b ∈ fp
    · exact (e4 b hb).2
    · rw [addF_out hb, z] at q; cases q
  have q := r.put (F' := addF F H fp) (H' := H) (i := i) (s' := .val o.toD) (x' := some v) r.g (addF_H r.f) sm
    (fun j s x b hj h1 h2 o => ⟨rfl, by rw [addF_out (nab j s x b hj h1 h2 o)]; exact ((r.at_ j s x h1 h2).own o).2.1⟩) ⟨v, rfl, OwR.frz sm o v fp e2 fun a ha => addF_in ha⟩ fun b o => o.elim
  rw [es] at q
  exact q
/-- a thing with its place told, without that -/
theorem RepE.pinTree (r : RepE K G F H σ ρ) {i : Nat} {w : V} {o : O} (hi : ρ[i]? = some (.pin w o)) : RepE K G F H σ (ρ.set i (.tree o)) := by
  have hl : i < ρ.length := (List.getElem?_eq_some_iff.mp hi).1
  have hsl : i < σ.length := by rw [← r.len]; exact hl
  have hs0 : σ[i]? = some σ[i] := List.getElem?_eq_getElem hsl
  have q := r.put (F' := F) (H' := H) (i := i) (s' := .tree o) (x' := σ[i]) r.g r.f (.refl _) (fun j s x b _ h1 h2 o => ⟨rfl, ((r.at_ j s x h1 h2).own o).2.1⟩) (r.at_ i _ _ hi hs0).2 fun b ob j s x hj h1 h2 o2 =>
    r.ap j i s _ x _ b hj h1 hi h2 hs0 o2 ob
  rw [List.set_getElem_self hsl] at q
  exact q
theorem RepE.freezeP (r : RepE K G F H σ ρ) {i : Nat} {w : V} {o : O} (hi : ρ[i]? = some (.pin w o)) :
    ∃ F', Same F F' ∧ NewG G F F' ∧ RepE K G F' H σ (ρ.set i (.val o.toD)) := by
  have hl : i < ρ.length := (List.getElem?_eq_some_iff.mp hi).1
  obtain ⟨F', h1, h2, h3⟩ := (r.pinTree hi).freezeT (List.getElem?_set_self hl)
  rw [List.set_set] at h3
  exact ⟨F', h1, h2, h3⟩
end
end Dy

set_option Elab.async false
set_option linter.all false
set_option maxRecDepth 100000
namespace Dy
open PySem PySem.Spec PyProof.Rows L2

/-! ### results -/
inductive R (α : Type) where
  | ok (a : α) | err (e : D) | bad
def R.bind {α β : Type} (x : R α) (f : α → R β) : R β := match x with
  | .ok a => f a
  | .err e => .err e
  | .bad => .bad
def R.opt {α : Type} : Option α → R α
  | some a => .ok a
  | none => .bad

/-- an exception in the air -/
def XD (K : PySem.W.Frag) (F : Hp) (e : D) (cls : Value) (dd : Option Addr) : Prop :=
  ∃ c fs xs vs, e = .exc c fs xs ∧ cls = .ref (He.ga K c) ∧ fs.length = vs.length ∧ RepL K F xs vs ∧ (match dd with | none => fs = [] | some d => F d = some (.xd (fs.zip vs)))
theorem XD.mono {K : PySem.W.Frag} {F F' : Hp} {e : D} {cls : Value} {dd : Option Addr} (s : Same F F') (h : XD K F e cls dd) : XD K F' e cls dd := by
  obtain ⟨c, fs, xs, vs, h1, h2, h3, h4, h5⟩ := h
  refine ⟨c, fs, xs, vs, h1, h2, h3, RepL.mono s _ _ h4, ?_⟩
  cases dd with
  | none => exact h5
  | some d => exact s _ _ h5

/-- what is wanted behind a piece whose result is x -/
def Post {α β : Type} (K : PySem.W.Frag) (W : WX) (rel : Hp → α → β → Prop) (σ : St) (F H : Hp) (x : R α) (Q : β → Hp → Prop) : Prop := match x with
  | .ok a => ∀ v F' H', Ext F H F' H' → rel F' a v → Q v H'
  | .err e => ∀ cls dd F' H', Ext F H F' H' → XD K F' e cls dd → W cls dd σ H'
  | .bad => False
section
variable {α β γ δ : Type} {K : PySem.W.Frag} {W : WX} {rel : Hp → α → β → Prop} {rel2 : Hp → γ → δ → Prop} {σ : St} {F H F' H' : Hp}
theorem Post.ext {x : R α} {Q : β → Hp → Prop} (e : Ext F H F' H') (h : Post K W rel σ F H x Q) : Post K W rel σ F' H' x Q := by
  cases x with
  | ok a => exact fun v F2 H2 e2 r => h v F2 H2 (e.trans e2) r
  | err d => exact fun cls dd F2 H2 e2 r => h cls dd F2 H2 (e.trans e2) r
  | bad => exact h
theorem Post.bind {x : R α} {k : α → R γ} {Q : δ → Hp → Prop} {Q' : β → Hp → Prop} (h : Post K W rel2 σ F H (x.bind k) Q)
    (f : ∀ a v F' H', x = .ok a → Ext F H F' H' → rel F' a v → Post K W rel2 σ F' H' (k a) Q → Q' v H') : Post K W rel σ F H x Q' := by
  cases x with
  | ok a => exact fun v F2 H2 e2 r => f a v F2 H2 rfl e2 r (Post.ext e2 h)
  | err d => exact h
  | bad => exact h
end

/-- the readings: of an expression, a test, arguments -/
def rg {α β : Type} (K : PySem.W.Frag) (W : WX) (rel : Hp → α → β → Prop) (f : REnv → R α) : St → Hp → (β → Hp → Prop) → Prop :=
  fun σ H Q => ∃ G F ρ, RepE K G F H σ ρ ∧ Post K W rel σ F H (f ρ) Q
abbrev rd (K : PySem.W.Frag) (W : WX) (f : REnv → R D) : TE := rg K W (Rep K) f
abbrev rt (K : PySem.W.Frag) (W : WX) (f : REnv → R Bool) : TT := rg K W (fun _ (a b : Bool) => a = b) f
abbrev ra (K : PySem.W.Frag) (W : WX) (f : REnv → R (List D)) : TA := rg K W (RepL K) f
abbrev SE (X : Cx) (W : WX) (e : Expr) (f : REnv → R D) : Prop := PE X e (rd X.K W f)
abbrev ST (X : Cx) (W : WX) (e : Expr) (f : REnv → R Bool) : Prop := PT X e (rt X.K W f)
abbrev SW (X : Cx) (W : WX) (e : Expr) (f : REnv → R Bool) : Prop := PW X e (rt X.K W f)
abbrev SA (X : Cx) (W : WX) (es : List Expr) (f : REnv → R (List D)) : Prop := PA X es (ra X.K W f)

end Dy
namespace L2
open PySem PySem.Spec PyProof.Rows
theorem PE.dy {X : Cx} {e : Expr} {t t' : TE} (h : PE X e t) (i : ∀ σ H Q, t' σ H Q → t σ H Q) : PE X e t' := ⟨fun pins s σ H Q I q => h.run pins s σ H Q I (i _ _ _ q)⟩
theorem PT.dy {X : Cx} {e : Expr} {t t' : TT} (h : PT X e t) (i : ∀ σ H Q, t' σ H Q → t σ H Q) : PT X e t' := ⟨fun pins s σ H Q I q => h.run pins s σ H Q I (i _ _ _ q)⟩
theorem PW.dy {X : Cx} {e : Expr} {t t' : TT} (h : PW X e t) (i : ∀ σ H Q, t' σ H Q → t σ H Q) : PW X e t' := ⟨fun wh pins s σ H Q I q => h.run wh pins s σ H Q I (i _ _ _ q)⟩
theorem PA.dy {X : Cx} {e : List Expr} {t t' : TA} (h : PA X e t) (i : ∀ σ H Q, t' σ H Q → t σ H Q) : PA X e t' := ⟨fun p pins s σ H Q I q => h.run p pins s σ H Q I (i _ _ _ q)⟩
theorem PS.dy {X : Cx} {e : Stmt} {t t' : TS} (h : PS X e t) (i : ∀ D σ H, t' D σ H → t D σ H) : PS X e t' := ⟨fun pins s σ H D I q => h.run pins s σ H D I (i _ _ _ q)⟩
theorem PSs.dy {X : Cx} {e : List Stmt} {t t' : TS} (h : PSs X e t) (i : ∀ D σ H, t' D σ H → t D σ H) : PSs X e t' := ⟨fun pins s σ H D I q => h.run pins s σ H D I (i _ _ _ q)⟩

end L2
namespace Dy
open PySem PySem.Spec PyProof.Rows L2

/-! ### operations by values -/
/-- the rule r does what o says -/
def Op2 (K : PySem.W.Frag) (r : R2) (o : D → D → Option D) : Prop := ∀ F H x y a b d Q, Same F H → Rep K F a x → Rep K F b y → o a b = some d → (∀ v F' H', Ext F H F' H' → Rep K F' d v → Q v H') → r x y H Q
theorem Op2.or {K : PySem.W.Frag} {r r' : R2} {o o' : D → D → Option D} (h : Op2 K r o) (h' : Op2 K r' o') : Op2 K (fun x y H Q => r x y H Q ∨ r' x y H Q) (fun a b => (o a b).or (o' a b)) := by
  intro F H x y a b d Q s ra rb e q
  have e : (o a b).or (o' a b) = some d := e
  cases e1 : o a b with
  | some d' => rw [e1] at e; cases e; exact .inl (h F H x y a b d Q s ra rb e1 q)
  | none => rw [e1] at e; exact .inr (h' F H x y a b d Q s ra rb e q)
/-- a rule over one thing -/
def Op1 (K : PySem.W.Frag) (r : V → Hp → VK → Prop) (o : D → Option D) : Prop := ∀ F H x a d Q, Same F H → Rep K F a x → o a = some d → (∀ v F' H', Ext F H F' H' → Rep K F' d v → Q v H') → r x H Q
/-- a call's rule -/
def OpN (K : PySem.W.Frag) (r : List V → Hp → VK → Prop) (o : List D → Option D) : Prop := ∀ F H xs as d Q, Same F H → RepL K F as xs → o as = some d → (∀ v F' H', Ext F H F' H' → Rep K F' d v → Q v H') → r xs H Q
theorem OpN.or {K : PySem.W.Frag} {r r' : List V → Hp → VK → Prop} {o o' : List D → Option D} (h : OpN K r o) (h' : OpN K r' o') : OpN K (fun x H Q => r x H Q ∨ r' x H Q) (fun a => (o a).or (o' a)) := by
  intro F H x a d Q s ra e q
  have e : (o a).or (o' a) = some d := e
  cases e1 : o a with
  | some d' => rw [e1] at e; cases e; exact .inl (h F H x a d Q s ra e1 q)
  | none => rw [e1] at e; exact .inr (h' F H x a d Q s ra e q)
/-- what asks nothing of the heap -/
theorem now {K : PySem.W.Frag} {F H : Hp} {d : D} {v : V} {Q : VK} (q : ∀ v F' H', Ext F H F' H' → Rep K F' d v → Q v H') (s : Same F H) (r : Rep K F d v) : Q v H := q v F H (.refl s) r
/-- a new object -/
theorem anew {K : PySem.W.Frag} {F H : Hp} {d : D} {o : HO} {Q : VK} (q : ∀ v F' H', Ext F H F' H' → Rep K F' d v → Q v H') (s : Same F H) (r : ∀ p, Same F (upd F p o) → Rep K (upd F p o) d (.ref p)) : ∀ p, H p = none → Q (.ref p) (upd H p o) :=
  fun p hp => q (.ref p) _ _ (Ext.new s hp) (r p (same_upd (s.free hp)))

section
variable {X : Cx} {W : WX} {a b c : Expr} {e : Expr} {es : List Expr} {f g h : REnv → R D} {pos : Pos}

/-! ### names, constants -/
def eVar (i : Nat) : REnv → R D := fun ρ => match ρ[i]? with
  | some (.val d) => .ok d
  | _ => .bad
def eC (d : D) : REnv → R D := fun _ => .ok d
theorem se_var (i : Nat) {x : Str} (hN : X.N[i]? = some x := by rfl) (hv : Vis X.env.scope x := by first | exact Or.inl rfl | exact Or.inr (Or.inl rfl) | exact Or.inr (Or.inr rfl)) (hd : (x == ("__debug__" : Str)) = false := by decide)
    (hcd : (x == ("__classdict__" : Str)) = false := by decide) : SE X W (.Name x pos) (eVar i) := by
  refine (pe_var hN hv hd hcd).dy fun σ H Q ⟨G, F, ρ, r, p⟩ => ?_
  unfold eVar at p
  cases q : ρ[i]? with
  | none => rw [q] at p; exact p.elim
  | some s =>
    rw [q] at p
    cases s with
    | val d =>
      have hi : i < σ.length := by
        rw [← r.len]
        exact (List.getElem?_eq_some_iff.mp q).1
      obtain ⟨v, e1, e2⟩ := r.at_ i _ _ q (List.getElem?_eq_getElem hi)
      exact ⟨v, by rw [List.getElem?_eq_getElem hi, e1], p v F H (.refl r.f) e2⟩
    | un => exact p.elim
    | own ds => exact p.elim
    | ownD ks ds => exact p.elim
    | tree o => exact p.elim
    | pin w o => exact p.elim
theorem se_const {v : V} {d : D} (hp : PE X e (tC v)) (hr : ∀ K F, Rep K F d v) : SE X W e (eC d) :=
  hp.dy fun σ H Q ⟨G, F, ρ, r, p⟩ => p v F H (.refl r.f) (hr _ _)
theorem se_int {i : Int} {j} : SE X W (.Constant (.int i) j pos) (eC (.int i)) := se_const pe_int fun _ _ => Rep.mk_int
theorem se_bl {i : Bool} {j} : SE X W (.Constant (.bool i) j pos) (eC (.bl i)) := se_const pe_bl fun _ _ => Rep.mk_bl
theorem se_non {j} : SE X W (.Constant .none j pos) (eC .non) := se_const pe_non fun _ _ => Rep.mk_non
theorem se_str {x : Str} {j} : SE X W (.Constant (.str x) j pos) (eC (.str x)) := se_const pe_str fun _ _ => Rep.mk_str
/-- a global: an int, a text -/
theorem se_gint {x : Str} {i : Int} (hg : Gl X x) (hm : ∃ t, X.mg x = some (.int i t)) (hd : (x == ("__debug__" : Str)) = false := by decide) : SE X W (.Name x pos) (eC (.int i)) := by
  obtain ⟨t, hm⟩ := hm
  exact se_const (pe_glob hg hm (v := .int i) ⟨t, rfl⟩ hd) fun _ _ => Rep.mk_int
/-- a global: a tuple, a list of the written part -/
theorem se_gref {x : Str} {d : D} (hg : Gl X x) (hm : X.mg x = some (.ref (He.ga X.K x))) (hr : ∀ F, Rep X.K F d (.ref (He.ga X.K x))) (hd : (x == ("__debug__" : Str)) = false := by decide) : SE X W (.Name x pos) (eC d) :=
  (pe_glob hg hm (v := .ref (He.ga X.K x)) rfl hd).dy fun σ H Q ⟨G, F, ρ, r, p⟩ => p _ F H (.refl r.f) (hr _)

/-! ### operators -/
def eBin (o : D → D → Option D) (f g : REnv → R D) : REnv → R D := fun ρ => (f ρ).bind fun a => (g ρ).bind fun b => .opt (o a b)
theorem bin_read {r : R2} {o : D → D → Option D} (ho : Op2 X.K r o) {σ : St} {H : Hp} {Q : VK} (hh : rd X.K W (eBin o f g) σ H Q) : tOp r (rd X.K W f) (rd X.K W g) σ H Q := by
  obtain ⟨G, F, ρ, hr, p⟩ := hh
  refine ⟨G, F, ρ, hr, Post.bind p fun d1 v1 F1 H1 _ e1 r1 p1 => ⟨G, F1, ρ, hr.ext e1, Post.bind p1 fun d2 v2 F2 H2 _ e2 r2 p2 => ?_⟩⟩
  cases q : o d1 d2 with
  | none => rw [q] at p2; exact p2.elim
  | some d => rw [q] at p2; exact ho F2 H2 v1 v2 d1 d2 d Q e2.s (Rep.mono e2.f _ _ r1) r2 q p2
theorem se_op {op : Operator} {r : R2} {o : D → D → Option D} (ho : OpR X (binaryOp op) r ∧ Op2 X.K r o) (ha : SE X W a f) (hb : SE X W b g) : SE X W (.BinOp a op b pos) (eBin o f g) :=
  (pe_op ho.1 ha hb).dy fun _ _ _ hh => bin_read ho.2 hh
theorem se_cmp {op : CmpOp} {r : R2} {o : D → D → Option D} (ho : OpR X (compareOp op) r ∧ Op2 X.K r o) (ha : SE X W a f) (hb : SE X W b g) (hm : behindInMarks op b = false) : SE X W (.Compare a [op] [b] pos) (eBin o f g) :=
  (pe_cmpR ho.1 ha hb hm).dy fun _ _ _ hh => bin_read ho.2 hh
/-- a comparison's answer is a truth -/
def eTest (f : REnv → R D) : REnv → R Bool := fun ρ => (f ρ).bind fun d => match d with
  | .bl b => .ok b
  | _ => .bad
theorem test_read {σ : St} {H : Hp} {t : TE} {f : REnv → R D} (ht : ∀ Q, rd X.K W f σ H Q → t σ H Q) {Q : Bool → Hp → Prop} (hh : rt X.K W (eTest f) σ H Q) : tTest t σ H Q := by
  obtain ⟨G, F, ρ, hr, p⟩ := hh
  refine ht _ ⟨G, F, ρ, hr, Post.bind p fun d v F1 H1 _ e1 r1 p1 => ?_⟩
  cases d with
  | bl k => exact ⟨k, r1.bl_inv, p1 k F1 H1 (.refl e1.s) rfl⟩
  | non => exact p1.elim
  | int i => exact p1.elim
  | str i => exact p1.elim
  | ty i => exact p1.elim
  | cls i => exact p1.elim
  | tup i => exact p1.elim
  | lst i => exact p1.elim
  | dct i j => exact p1.elim
  | exc i j k => exact p1.elim
theorem st_cmp {op : CmpOp} {r : R2} {o : D → D → Option D} (ho : OpR X (compareOp op) r ∧ Op2 X.K r o) (ha : SE X W a f) (hb : SE X W b g) (hm : behindInMarks op b = false) : ST X W (.Compare a [op] [b] pos) (eTest (eBin o f g)) :=
  (pt_cmpR ho.1 ha hb hm).dy fun _ _ _ hh => test_read (fun _ h => bin_read ho.2 h) hh
/-- any expression whose value is a truth -/
theorem st_val (ha : SE X W e f) (he : ∀ whole, isTrue e X.env whole = (do let v ← whole; standAt e.pos; holding [v] (truthy v)) := by intro _; rfl) : ST X W e (eTest f) :=
  (pt_val ha he).dy fun _ _ _ hh => test_read (t := rd X.K W f) (fun _ h => h) hh
/-- a < b < c -/
def goOn (x : R D) : D → R D
  | .bl true => x
  | .bl false => .ok (.bl false)
  | _ => .bad
def eChain (o o' : D → D → Option D) (f g h : REnv → R D) : REnv → R D := fun ρ => (f ρ).bind fun a => (g ρ).bind fun b => (R.opt (o a b)).bind (goOn ((h ρ).bind fun c => .opt (o' b c)))

/-! ### arguments, displays -/
def aNil : REnv → R (List D) := fun _ => .ok []
def aCons (f : REnv → R D) (t : REnv → R (List D)) : REnv → R (List D) := fun ρ => (f ρ).bind fun a => (t ρ).bind fun r => .ok (a :: r)
theorem sa_nil : SA X W [] aNil := pa_nil.dy fun σ H Q ⟨G, F, ρ, r, p⟩ => p [] F H (.refl r.f) RepL.nil
theorem sa_cons {t : REnv → R (List D)} (ha : SE X W e f) (hr : SA X W es t) (hs : starEach (e :: es) X.env = (false, eval e X.env) :: starEach es X.env := by rfl) : SA X W (e :: es) (aCons f t) :=
  (pa_cons ha hr hs).dy fun σ H Q ⟨G, F, ρ, r, p⟩ => ⟨G, F, ρ, r, Post.bind p fun d v F1 H1 _ e1 r1 p1 => ⟨G, F1, ρ, r.ext e1, Post.bind p1 fun ds vs F2 H2 _ e2 r2 p2 => p2 (v :: vs) F2 H2 (.refl e2.s) (RepL.cons (Rep.mono e2.f _ _ r1) r2)⟩⟩
def eTup (t : REnv → R (List D)) : REnv → R D := fun ρ => (t ρ).bind fun ds => if ds.length ≤ sizeLine then .ok (.tup ds) else .bad
def eLst (t : REnv → R (List D)) : REnv → R D := fun ρ => (t ρ).bind fun ds => if ds.length ≤ sizeLine then .ok (.lst ds) else .bad
theorem se_tup {t : REnv → R (List D)} {k} (h : SA X W es t) : SE X W (.Tuple es k pos) (eTup t) :=
  (pe_tup h).dy fun σ H Q ⟨G, F, ρ, r, p⟩ => ⟨G, F, ρ, r, Post.bind p fun ds vs F1 H1 _ e1 r1 p1 => by
    by_cases hl : ds.length ≤ sizeLine
    · rw [if_pos hl] at p1
      exact ⟨by rw [← r1.length]; exact hl, anew p1 e1.s fun q s => Rep.mk_tup (.of upd_same) (RepL.mono s _ _ r1)⟩
    · rw [if_neg hl] at p1; exact p1.elim⟩
theorem se_lst {t : REnv → R (List D)} (h : SA X W es t) : SE X W (.List es pos) (eLst t) :=
  (pe_lst h).dy fun σ H Q ⟨G, F, ρ, r, p⟩ => ⟨G, F, ρ, r, Post.bind p fun ds vs F1 H1 _ e1 r1 p1 => by
    by_cases hl : ds.length ≤ sizeLine
    · rw [if_pos hl] at p1
      exact ⟨by rw [← r1.length]; exact hl, anew p1 e1.s fun q s => Rep.mk_lst (.of upd_same) (RepL.mono s _ _ r1)⟩
    · rw [if_neg hl] at p1; exact p1.elim⟩
/-- built-ins by their rules -/
def eN (o : List D → Option D) (t : REnv → R (List D)) : REnv → R D := fun ρ => (t ρ).bind fun ds => .opt (o ds)
theorem callN_read {r : List V → Hp → VK → Prop} {o : List D → Option D} {t : REnv → R (List D)} (ho : OpN X.K r o) {σ : St} {H : Hp} {Q : VK} (hh : rd X.K W (eN o t) σ H Q) : tCB r (ra X.K W t) σ H Q := by
  obtain ⟨G, F, ρ, hr, p⟩ := hh
  refine ⟨G, F, ρ, hr, Post.bind p fun ds vs F1 H1 _ e1 r1 p1 => ?_⟩
  cases q : o ds with
  | none => rw [q] at p1; exact p1.elim
  | some d => rw [q] at p1; exact ho F1 H1 vs ds d Q e1.s r1 q p1
variable {t : REnv → R (List D)} {x : Str} {p : Pos}
theorem se_blt {id : String} {r : List V → Hp → VK → Prop} {o : List D → Option D} (ho : CallR X (.builtin id) r ∧ OpN X.K r o) (hm : X.mg x = none) (ha : SA X W (e :: es) t) (hg : Gl X x := by rfl) (hv : bootBuiltins x = some (.builtin id) := by decide +kernel)
    (hn : x ≠ "__name__" := by decide) (hd : (x == ("__debug__" : Str)) = false := by decide) (he : starEach (e :: es) X.env = (false, eval e X.env) :: starEach es X.env := by rfl) (hpl : (backTo pos (starEach es X.env)).any (·.1) = false := by rfl) :
    SE X W (.Call (.Name x p) (e :: es) [] pos) (eN o t) :=
  (pe_callB ho.1 hg hm hv ha hn hd he hpl).dy fun _ _ _ hh => callN_read ho.2 hh
theorem se_bty {id : String} {r : List V → Hp → VK → Prop} {o : List D → Option D} (ho : CallR X (.type id) r ∧ OpN X.K r o) (hm : X.mg x = none) (ha : SA X W (e :: es) t) (hg : Gl X x := by rfl) (hv : bootBuiltins x = some (.type id) := by decide +kernel)
    (hn : x ≠ "__name__" := by decide) (hd : (x == ("__debug__" : Str)) = false := by decide) (he : starEach (e :: es) X.env = (false, eval e X.env) :: starEach es X.env := by rfl) (hpl : (backTo pos (starEach es X.env)).any (·.1) = false := by rfl) :
    SE X W (.Call (.Name x p) (e :: es) [] pos) (eN o t) :=
  (pe_callTy ho.1 hg hm hv ha hn hd he hpl).dy fun _ _ _ hh => callN_read ho.2 hh
/-- o[i] -/
theorem se_ix {r : R2} {o : D → D → Option D} (ho : IxR X r ∧ Op2 X.K r o) (ha : SE X W a f) (hb : SE X W b g) (hs : PlainIx b := by exact fun _ _ => rfl) : SE X W (.Subscript a b pos) (eBin o f g) :=
  (pe_ix ho.1 ha hb hs).dy fun _ _ _ hh => bin_read ho.2 hh
/-- -a -/
def eUn (o : D → Option D) (f : REnv → R D) : REnv → R D := fun ρ => (f ρ).bind fun a => .opt (o a)
theorem se_un {op : UnaryOp} {r : V → Hp → VK → Prop} {o : D → Option D} (ho : UnR X (unaryOp op) r ∧ Op1 X.K r o) (ha : SE X W a f) : SE X W (.UnaryOp op a pos) (eUn o f) :=
  (pe_un ho.1 ha).dy fun σ H Q ⟨G, F, ρ, hr, p⟩ => ⟨G, F, ρ, hr, Post.bind p fun d1 v1 F1 H1 _ e1 r1 p1 => by
    cases q : o d1 with
    | none => rw [q] at p1; exact p1.elim
    | some d => rw [q] at p1; exact ho.2 F1 H1 v1 d1 d Q e1.s r1 q p1⟩

/-! ### and, or, not -/
def eAnd (f g : REnv → R Bool) : REnv → R Bool := fun ρ => (f ρ).bind fun k => if k = true then g ρ else .ok false
def eOr (f g : REnv → R Bool) : REnv → R Bool := fun ρ => (f ρ).bind fun k => if k = true then .ok true else g ρ
def eNot (f : REnv → R Bool) : REnv → R Bool := fun ρ => (f ρ).bind fun k => .ok (!k)
variable {u v : REnv → R Bool} {rest : List Expr}
theorem sw_and1 (ha : ST X W a u) : SW X W (.BoolOp .And [a] pos) u := pw_and1 ha
theorem sw_or1 (ha : ST X W a u) : SW X W (.BoolOp .Or [a] pos) u := pw_or1 ha
theorem sw_and (ha : ST X W a u) (hb : SW X W (.BoolOp .And (b :: rest) pos) v) : SW X W (.BoolOp .And (a :: b :: rest) pos) (eAnd u v) :=
  (pw_and ha hb).dy fun σ H Q ⟨G, F, ρ, hr, p⟩ => ⟨G, F, ρ, hr, Post.bind p fun k k' F1 H1 _ e1 r1 p1 => by
    subst r1
    cases k with
    | true => exact ⟨G, F1, ρ, hr.ext e1, p1⟩
    | false => exact p1 false F1 H1 (.refl e1.s) rfl⟩
theorem sw_or (ha : ST X W a u) (hb : SW X W (.BoolOp .Or (b :: rest) pos) v) : SW X W (.BoolOp .Or (a :: b :: rest) pos) (eOr u v) :=
  (pw_or ha hb).dy fun σ H Q ⟨G, F, ρ, hr, p⟩ => ⟨G, F, ρ, hr, Post.bind p fun k k' F1 H1 _ e1 r1 p1 => by
    subst r1
    cases k with
    | false => exact ⟨G, F1, ρ, hr.ext e1, p1⟩
    | true => exact p1 true F1 H1 (.refl e1.s) rfl⟩
theorem st_bool {op} {l : List Expr} (h : SW X W (.BoolOp op l pos) u) : ST X W (.BoolOp op l pos) u := PW.pt h
theorem st_not (ha : ST X W a u) : ST X W (.UnaryOp .Not a pos) (eNot u) :=
  (pt_not ha).dy fun σ H Q ⟨G, F, ρ, hr, p⟩ => ⟨G, F, ρ, hr, Post.bind p fun k k' F1 H1 _ e1 r1 p1 => by
    subst r1
    exact p1 (!k) F1 H1 (.refl e1.s) rfl⟩
/-- .. as values -/
def eAndV (f g : REnv → R D) : REnv → R D := fun ρ => (f ρ).bind fun k => match k with
  | .bl true => g ρ
  | .bl false => .ok (.bl false)
  | _ => .bad
def eOrV (f g : REnv → R D) : REnv → R D := fun ρ => (f ρ).bind fun k => match k with
  | .bl false => g ρ
  | .bl true => .ok (.bl true)
  | _ => .bad
def eNotV (f : REnv → R D) : REnv → R D := fun ρ => (f ρ).bind fun k => match k with
  | .bl b => .ok (.bl (!b))
  | _ => .bad
theorem se_one {op} (ha : SE X W a f) : SE X W (.BoolOp op [a] pos) f := pe_one ha
theorem se_and (ha : SE X W a f) (hb : SE X W (.BoolOp .And (b :: rest) pos) g) : SE X W (.BoolOp .And (a :: b :: rest) pos) (eAndV f g) :=
  (pe_and ha hb).dy fun σ H Q ⟨G, F, ρ, hr, p⟩ => ⟨G, F, ρ, hr, Post.bind p fun k k' F1 H1 _ e1 r1 p1 => by
    cases k with
    | bl k =>
      refine ⟨k, r1.bl_inv, ?_⟩
      cases k with
      | true => exact ⟨G, F1, ρ, hr.ext e1, p1⟩
      | false => exact p1 _ F1 H1 (.refl e1.s) Rep.mk_bl
    | _ => exact p1.elim⟩
theorem se_not (ha : SE X W a f) : SE X W (.UnaryOp .Not a pos) (eNotV f) :=
  (pe_not ha).dy fun σ H Q ⟨G, F, ρ, hr, p⟩ => ⟨G, F, ρ, hr, Post.bind p fun k k' F1 H1 _ e1 r1 p1 => by
    cases k with
    | bl k => exact ⟨k, r1.bl_inv, p1 _ F1 H1 (.refl e1.s) Rep.mk_bl⟩
    | _ => exact p1.elim⟩
end

section
variable {X : Cx} {W : WX} {a b c : Expr} {f g h : REnv → R D} {pos : Pos}
end
end Dy

set_option Elab.async false
set_option linter.all false
set_option maxRecDepth 100000
namespace Dy
open PySem PySem.Spec PyProof.Rows L2

/-! ### statements -/
inductive SR where
  | next (ρ : REnv) | ret (d : D) | err (e : D) (ρ : REnv) | bad
def SR.seq (x : SR) (g : REnv → SR) : SR := match x with
  | .next ρ => g ρ
  | y => y
def R.toS {α : Type} (x : R α) (ρ : REnv) (k : α → SR) : SR := match x with
  | .ok a => k a
  | .err e => .err e ρ
  | .bad => .bad
def PostS (K : PySem.W.Frag) (W : WX) (D : Ends) (G F : Hp) (x : SR) : Prop := match x with
  | .next ρ => ∀ σ' F' H', Same F F' → NewG G F F' → RepE K G F' H' σ' ρ → D.nx σ' H'
  | .ret d => ∀ v F' H', Same F F' → NewG G F F' → Same G H' → Same F' H' → Rep K F' d v → D.rt v H'
  | .err e ρ => ∀ σ' F' H' cls dd, Same F F' → NewG G F F' → RepE K G F' H' σ' ρ → XD K F' e cls dd → W cls dd σ' H'
  | .bad => False
section
variable {α β : Type} {K : PySem.W.Frag} {W : WX} {D D' : Ends} {G F F' H : Hp} {σ : St} {ρ : REnv}
theorem PostS.ext {x : SR} (s : Same F F') (n : NewG G F F') (h : PostS K W D G F x) : PostS K W D G F' x := by
  cases x with
  | next ρ => exact fun σ' F2 H' s2 n2 r => h σ' F2 H' (s.trans s2) (n.trans n2) r
  | ret d => exact fun v F2 H' s2 n2 g f r => h v F2 H' (s.trans s2) (n.trans n2) g f r
  | err e ρ => exact fun σ' F2 H' cls dd s2 n2 r x => h σ' F2 H' cls dd (s.trans s2) (n.trans n2) r x
  | bad => exact h
theorem PostS.toS {rel : Hp → α → β → Prop} {x : R α} {k : α → SR} {Q : β → Hp → Prop} (r : RepE K G F H σ ρ) (h : PostS K W D G F (x.toS ρ k))
    (f : ∀ a v F' H', x = .ok a → Ext F H F' H' → rel F' a v → RepE K G F' H' σ ρ → PostS K W D G F' (k a) → Q v H') : Post K W rel σ F H x Q := by
  cases x with
  | ok a => exact fun v F' H' e p => f a v F' H' rfl e p (r.ext e) (PostS.ext e.f (e.newG r.g) h)
  | err e => exact fun cls dd F' H' ex p => h σ F' H' cls dd ex.f (ex.newG r.g) (r.ext ex) p
  | bad => exact h
/-- another end behind the statement's own -/
theorem PostS.seq {x : SR} {g : REnv → SR} {nx : St → Hp → Prop} (h : PostS K W D G F (x.seq g))
    (f : ∀ ρ σ' F' H', x = .next ρ → Same F F' → NewG G F F' → RepE K G F' H' σ' ρ → PostS K W D G F' (g ρ) → nx σ' H') : PostS K W { D with nx := nx } G F x := by
  cases x with
  | next ρ => exact fun σ' F' H' s n r => f ρ σ' F' H' rfl s n r (PostS.ext s n h)
  | ret d => exact h
  | err e ρ => exact h
  | bad => exact h
theorem PostS.ends {x : SR} {bk ct : St → Hp → Prop} (h : PostS K W D G F x) : PostS K W { D with bk := bk, ct := ct } G F x := by
  cases x with
  | next ρ => exact h
  | ret d => exact h
  | err e ρ => exact h
  | bad => exact h
end
def rs (K : PySem.W.Frag) (W : WX) (g : REnv → SR) : TS := fun D σ H => ∃ G F ρ, RepE K G F H σ ρ ∧ PostS K W D G F (g ρ)
abbrev SS (X : Cx) (W : WX) (s : Stmt) (g : REnv → SR) : Prop := PS X s (rs X.K W g)
abbrev SSs (X : Cx) (W : WX) (s : List Stmt) (g : REnv → SR) : Prop := PSs X s (rs X.K W g)

section
variable {X : Cx} {W : WX} {st : Stmt} {rest : List Stmt} {g h : REnv → SR} {e : Expr} {f : REnv → R D} {pos : Pos}
def sSkip : REnv → SR := .next
def sSeq (g h : REnv → SR) : REnv → SR := fun ρ => (g ρ).seq h
def sRet (f : REnv → R D) : REnv → SR := fun ρ => (f ρ).toS ρ .ret
def sSet (i : Nat) (f : REnv → R D) : REnv → SR := fun ρ => (f ρ).toS ρ fun d => .next (ρ.set i (.val d))
def sExpr (f : REnv → R D) : REnv → SR := fun ρ => (f ρ).toS ρ fun _ => .next ρ
def sIf (c : REnv → R Bool) (g h : REnv → SR) : REnv → SR := fun ρ => (c ρ).toS ρ fun b => if b = true then g ρ else h ρ
theorem sss_nil : SSs X W [] sSkip := pss_nil.dy fun D σ H ⟨G, F, ρ, r, p⟩ => p σ F H (.refl _) .refl r
theorem sss_cons (h1 : SS X W st g) (h2 : SSs X W rest h) : SSs X W (st :: rest) (sSeq g h) :=
  (pss_cons h1 h2).dy fun D σ H ⟨G, F, ρ, r, p⟩ => ⟨G, F, ρ, r, PostS.seq p fun ρ' σ' F' H' _ s n r' p' => ⟨G, F', ρ', r', p'⟩⟩
theorem sss_one (h1 : SS X W st g) : SSs X W [st] g := pss_one h1
theorem ss_ret (he : SE X W e f) : SS X W (.Return (some e) pos) (sRet f) :=
  (ps_ret he).dy fun D σ H ⟨G, F, ρ, r, p⟩ => ⟨G, F, ρ, r, PostS.toS r p fun d v F' H' _ ex rp r' p' => p' v F' H' (.refl _) .refl r'.g r'.f rp⟩
theorem ss_set {i : Nat} {x : Str} {pos' : Pos} (hN : X.N.Nodup) (he : SE X W e f) (hi : X.N[i]? = some x := by rfl) (hx : Loc X.env.scope x := by first | exact Or.inl rfl | exact Or.inr rfl) (hs : swapsWith e (some (.Name x pos')) pos.line X.env = pure false := by rfl)
    (hf : X.fn x = true ∨ X.env.scope.names.lookup x = some .local := by first | exact .inl rfl | exact .inr rfl | assumption) : SS X W (.Assign [.Name x pos'] e pos) (sSet i f) :=
  (ps_set hN hi hx he hs hf).dy fun D σ H ⟨G, F, ρ, r, p⟩ => ⟨G, F, ρ, r, PostS.toS r p fun d v F' H' _ ex rp r' p' => p' _ F' H' (.refl _) .refl (r'.setV rp)⟩
theorem ss_expr (he : SE X W e f) (hs : swapsWith e none pos.line X.env = pure false := by rfl) : SS X W (.Expr e pos) (sExpr f) :=
  (ps_expr he hs).dy fun D σ H ⟨G, F, ρ, r, p⟩ => ⟨G, F, ρ, r, PostS.toS r p fun d v F' H' _ ex rp r' p' => p' _ F' H' (.refl _) .refl r'⟩
theorem ss_if {c : Expr} {a b : List Stmt} {u : REnv → R Bool} (hc : ST X W c u) (ha : SSs X W a g) (hb : SSs X W b h) : SS X W (.If c a b pos) (sIf u g h) :=
  (ps_if hc ha hb).dy fun D σ H ⟨G, F, ρ, r, p⟩ => ⟨G, F, ρ, r, PostS.toS r p fun k v F' H' _ ex rp r' p' => by
    subst rp
    cases k with
    | true => exact ⟨G, F', ρ, r', p'⟩
    | false => exact ⟨G, F', ρ, r', p'⟩⟩
/-- a, b = b, a % b of two plain locals -/
def sPar (i j : Nat) (t : REnv → R (List D)) : REnv → SR := fun ρ => (t ρ).toS ρ fun ds => match ds with
  | [a, b] => .next ((ρ.set i (.val a)).set j (.val b))
  | _ => .bad
/-! ### targets -/
/-- the slots of `is` alone may differ -/
def OnlyAt (is : List Nat) (σ σ' : St) : Prop := σ'.length = σ.length ∧ ∀ j, j ∉ is → σ'[j]? = σ[j]?
theorem OnlyAt.refl {is : List Nat} {σ : St} : OnlyAt is σ σ := ⟨rfl, fun _ _ => rfl⟩
theorem OnlyAt.trans {is js : List Nat} {σ σ' σ'' : St} (a : OnlyAt is σ σ') (b : OnlyAt js σ' σ'') : OnlyAt (is ++ js) σ σ'' := ⟨b.1.trans a.1, fun j h => by
  rw [List.mem_append, not_or] at h
  exact (b.2 j h.2).trans (a.2 j h.1)⟩
def TgOk (K : PySem.W.Frag) (t : TG) (b : D → REnv → Option REnv) (is : List Nat) : Prop := ∀ G F H σ ρ ρ' d v Q, RepE K G F H σ ρ → Rep K F d v → b d ρ = some ρ' → (∀ σ', RepE K G F H σ' ρ' → OnlyAt is σ σ' → Q σ' H) → t v σ H Q
def TgsOk (K : PySem.W.Frag) (t : TGs) (b : List D → REnv → Option REnv) (is : List Nat) : Prop := ∀ G F H σ ρ ρ' ds vs Q, RepE K G F H σ ρ → RepL K F ds vs → b ds ρ = some ρ' → (∀ σ', RepE K G F H σ' ρ' → OnlyAt is σ σ' → Q σ' H) → t vs σ H Q
def bName (i : Nat) : D → REnv → Option REnv := fun d ρ => some (ρ.set i (.val d))
def bNil : List D → REnv → Option REnv := fun ds ρ => match ds with
  | [] => some ρ
  | _ => none
def bCons (b : D → REnv → Option REnv) (c : List D → REnv → Option REnv) : List D → REnv → Option REnv := fun ds ρ => match ds with
  | d :: r => (b d ρ).bind (c r)
  | [] => none
def bSeq (n : Nat) (c : List D → REnv → Option REnv) : D → REnv → Option REnv := fun d ρ => match d with
  | .tup xs => if xs.length = n then c xs ρ else none
  | .lst xs => if xs.length = n then c xs ρ else none
  | _ => none
theorem tg_name {K : PySem.W.Frag} (i : Nat) : TgOk K (gName i) (bName i) [i] := fun G F H σ ρ ρ' d v Q r rp e q => by
  cases e
  exact q _ (r.setV rp) ⟨by simp, fun j h => List.getElem?_set_ne (fun z => h (by simp [z]))⟩
theorem tgs_nil {K : PySem.W.Frag} : TgsOk K gNil bNil [] := fun G F H σ ρ ρ' ds vs Q r rp e q => by
  cases ds with
  | nil =>
    cases e
    simp only [RepL] at rp
    exact ⟨rp, q σ r .refl⟩
  | cons d ds => cases e
theorem tgs_cons {K : PySem.W.Frag} {t : TG} {t2 : TGs} {b : D → REnv → Option REnv} {c : List D → REnv → Option REnv} {is js : List Nat} (k : TgOk K t b is) (k2 : TgsOk K t2 c js) : TgsOk K (gCons t t2) (bCons b c) (is ++ js) := fun G F H σ ρ ρ' ds vs Q r rp e q => by
  cases ds with
  | nil => cases e
  | cons d ds =>
    simp only [RepL] at rp
    obtain ⟨v, rr, e1, h1, h2⟩ := rp
    have e : (b d ρ).bind (c ds) = some ρ' := e
    cases e2 : b d ρ with
    | none => rw [e2] at e; cases e
    | some ρ1 =>
      rw [e2] at e
      exact ⟨v, rr, e1, k G F H σ ρ ρ1 d v _ r h1 e2 fun σ1 r1 o1 => k2 G F H σ1 ρ1 ρ' ds rr Q r1 h2 e fun σ2 r2 o2 => q σ2 r2 (o1.trans o2)⟩
/-- (a, b, ..) = a tuple or a list of that length -/
def gSeq (K : PySem.W.Frag) (n : Nat) (t : TGs) : TG := fun v σ H Q => ∃ a xs, v = .ref a ∧ (SqT K H a xs ∨ SqL K H a xs) ∧ xs.length = n ∧ t xs σ H Q
theorem pg_seq {es : List Expr} {k : Nat} {t : TGs} {n : Nat} (hc : X.calm = true) (h : PGs X es t)
    (hn : (assignEach es X.env).length = n := by rfl) (hst : (assignEach es X.env).findIdx? (·.1) = none := by rfl) : PG X (.Tuple es k pos) (gSeq X.K n t) := by
  refine ⟨fun pins s σ H v u Q I r hw => ?_⟩
  obtain ⟨a, xs, e1, hq, hl, hw⟩ := hw
  rcases hq with hq | hq
  · exact (pg_tup hc h hn hst).run pins s σ H v u Q I r ⟨a, xs, e1, hq, hl, hw⟩
  · exact (pg_lst hc h hn hst).run pins s σ H v u Q I r ⟨a, xs, e1, hq, hl, hw⟩
theorem tg_seq {K : PySem.W.Frag} {t : TGs} {b : List D → REnv → Option REnv} {n : Nat} {is : List Nat} (kk : TgsOk K t b is) : TgOk K (gSeq K n t) (bSeq n b) is := fun G F H σ ρ ρ' d v Q r rp e q => by
  cases d with
  | tup xs =>
    obtain ⟨a, vs, h1, h2, h3⟩ := rp.tup_inv
    by_cases hl : xs.length = n
    · have e : b xs ρ = some ρ' := by
        have e0 : (if xs.length = n then b xs ρ else none) = some ρ' := e
        rw [if_pos hl] at e0
        exact e0
      exact ⟨a, vs, h1, .inl (Same.seqT r.f h2), by rw [← h3.length]; exact hl, kk G F H σ ρ ρ' xs vs Q r h3 e q⟩
    · have e0 : (if xs.length = n then b xs ρ else none) = some ρ' := e
      rw [if_neg hl] at e0
      cases e0
  | lst xs =>
    obtain ⟨a, vs, h1, h2, h3⟩ := rp.lst_inv
    by_cases hl : xs.length = n
    · have e : b xs ρ = some ρ' := by
        have e0 : (if xs.length = n then b xs ρ else none) = some ρ' := e
        rw [if_pos hl] at e0
        exact e0
      exact ⟨a, vs, h1, .inr (Same.seq r.f h2), by rw [← h3.length]; exact hl, kk G F H σ ρ ρ' xs vs Q r h3 e q⟩
    · have e0 : (if xs.length = n then b xs ρ else none) = some ρ' := e
      rw [if_neg hl] at e0
      cases e0
  | _ => cases e
def sAsg (f : REnv → R D) (b : D → REnv → Option REnv) : REnv → SR := fun ρ => (f ρ).toS ρ fun d => match b d ρ with
  | some ρ' => .next ρ'
  | none => .bad
theorem ss_asg {tg : Expr} {t : TG} {b : D → REnv → Option REnv} {is : List Nat} (he : SE X W e f) (hp : PG X tg t) (k : TgOk X.K t b is) (hs : swapsWithSole [tg] e pos.line X.env = pure false := by rfl) (hw : swappedStores [tg] e X.env = pure none := by rfl)
    (h1 : (assignEach [tg] X.env).map (·.2) = [assign tg X.env] := by rfl) : SS X W (.Assign [tg] e pos) (sAsg f b) := by
  refine (ps_asg he hp hs hw h1).dy fun D σ H ⟨G, F, ρ, r, p⟩ => ⟨G, F, ρ, r, PostS.toS r p fun d v F' H' _ ex rp r' p' => ?_⟩
  cases q : b d ρ with
  | none => rw [q] at p'; exact p'.elim
  | some ρ' =>
    rw [q] at p'
    exact k G F' H' σ ρ ρ' d v _ r' rp q fun σ' r2 _ => p' σ' F' H' (.refl _) .refl r2

/-! ### loops -/
/-- J yields the things ds -/
structure ItOk (K : PySem.W.Frag) (J : It) (ds : List D) (F : Hp) : Prop where
  go : ∀ i H, i < ds.length → Same F H → J.go i H
  stop : ∀ H, Same F H → J.stop ds.length H
  yld : ∀ i H x H' F1, i < ds.length → Same F F1 → Same F1 H → J.yld i H x H' → ∃ F2 d, Ext F1 H F2 H' ∧ ds[i]? = some d ∧ Rep K F2 d x
theorem ItOk.mono {K : PySem.W.Frag} {J : It} {ds : List D} {F F' : Hp} (h : ItOk K J ds F) (s : Same F F') : ItOk K J ds F' :=
  ⟨fun i H hi q => h.go i H hi (s.trans q), fun H q => h.stop H (s.trans q), fun i H x H' F1 hi q q1 y => h.yld i H x H' F1 hi (s.trans q) q1 y⟩
def ri (K : PySem.W.Frag) (W : WX) (f : REnv → R (List D)) : TI := fun σ H R => ∃ G F ρ, RepE K G F H σ ρ ∧ Post K W (fun F' ds (J : It) => ItOk K J ds F') σ F H (f ρ) R
abbrev SI (X : Cx) (W : WX) (tg iter : Expr) (f : REnv → R (List D)) : Prop := PI X tg iter (ri X.K W f)
def forS (b : D → REnv → Option REnv) (body : REnv → SR) : List D → REnv → SR
  | [], ρ => .next ρ
  | d :: ds, ρ => match b d ρ with
    | some ρ' => (body ρ').seq (forS b body ds)
    | none => .bad
def sFor (f : REnv → R (List D)) (b : D → REnv → Option REnv) (body : REnv → SR) : REnv → SR := fun ρ => (f ρ).toS ρ fun ds => forS b body ds ρ
theorem for_read {J : It} {ds : List D} {t : TG} {b : D → REnv → Option REnv} {body : REnv → SR} {K : PySem.W.Frag} {is : List Nat} (hg : TgOk K t b is) {D : Ends} {G F1 H1 : Hp} {σ : St} {ρ : REnv} (hJ : ItOk K J ds F1) (r : RepE K G F1 H1 σ ρ) (p : PostS K W D G F1 (forS b body ds ρ)) :
    ∃ Wv : Nat → Nat → St → Hp → Prop, (∃ m, Wv 0 m σ H1) ∧ ∀ i m σ H, Wv i m σ H →
      (J.stop i H ∧ D.nx σ H) ∨ (J.go i H ∧ ∃ N : St → Hp → Prop, (∀ σ' H', N σ' H' → ∃ m', m' < m ∧ Wv (i + 1) m' σ' H') ∧ ∀ x H', J.yld i H x H' → t x σ H' fun σ2 H2 => rs K W body { D with nx := N, ct := N, bk := D.nx } σ2 H2) := by
  let Pv : Nat → St → Hp → Prop := fun i σ H => ∃ F' ρ', Same F1 F' ∧ NewG G F1 F' ∧ RepE K G F' H σ ρ' ∧ PostS K W D G F' (forS b body (ds.drop i) ρ')
  refine ⟨fun i m σ H => m = ds.length - i ∧ i ≤ ds.length ∧ Pv i σ H, ⟨ds.length, by simp, Nat.zero_le _, F1, ρ, .refl _, .refl, r, by simpa using p⟩, ?_⟩
  rintro i m σ H ⟨rfl, hi, F', ρ', s, n, r, p⟩
  by_cases hlt : i < ds.length
  · refine .inr ⟨hJ.go i H hlt (s.trans r.f), Pv (i + 1), fun σ' H' q => ⟨ds.length - (i + 1), by omega, rfl, hlt, q⟩, fun x H' y => ?_⟩
    obtain ⟨F2, d, ex, ed, rp⟩ := hJ.yld i H x H' F' hlt s r.f y
    have dr : ds.drop i = d :: ds.drop (i + 1) := by
      obtain ⟨h1, h2⟩ := List.getElem?_eq_some_iff.mp ed
      rw [← h2]
      exact List.drop_eq_getElem_cons h1
    rw [dr] at p
    have r2 := r.ext ex
    have p2 := PostS.ext ex.f (ex.newG r.g) p
    have p3 : PostS K W D G F2 (match b d ρ' with | some ρ2 => (body ρ2).seq (forS b body (ds.drop (i + 1))) | none => .bad) := p2
    cases q : b d ρ' with
    | none => rw [q] at p3; exact p3.elim
    | some ρ2 =>
      rw [q] at p3
      refine hg G F2 H' σ ρ' ρ2 d x _ r2 rp q fun σ2 r3 _ => ⟨G, F2, ρ2, r3, ?_⟩
      refine PostS.ends (D := { D with nx := Pv (i + 1) }) (PostS.seq p3 fun ρ3 σ3 F3 H3 _ s3 n3 r4 p4 => ?_)
      exact ⟨F3, ρ3, s.trans (ex.f.trans s3), n.trans ((ex.newG r.g).trans n3), r4, p4⟩
  · have e : i = ds.length := by omega
    subst e
    rw [List.drop_length] at p
    exact .inl ⟨hJ.stop H (s.trans r.f), p σ F' H (.refl _) .refl r⟩
theorem ss_for {tg iter : Expr} {body : List Stmt} {fi : REnv → R (List D)} {t : TG} {b : D → REnv → Option REnv} {is : List Nat} (hp : PassesOwn (model X.prog X.w) X.A X.env X.xe) (hc : X.calm = true) (hi : SI X W tg iter fi) (pg : PG X tg t) (k : TgOk X.K t b is) (hb : SSs X W body g)
    (hs : ∀ x, foldedSetIterable iter X.env x = pure x := by intro _; rfl) : SS X W (.For tg iter body [] pos) (sFor fi b g) := by
  exact (ps_for hp hc hi pg hb hs).dy fun D σ H ⟨G, F, ρ, r, p⟩ => ⟨G, F, ρ, r, PostS.toS r p fun ds J F' H' _ ex rp r' p' => for_read k rp r' p'⟩

/-! ### while -/
open Classical in
end
end Dy

set_option Elab.async false
set_option linter.all false
set_option maxRecDepth 100000
namespace Dy
open PySem PySem.Spec PyProof.Rows L2

/-! ### what is walked -/
def iterD : D → Option (List D)
  | .lst xs => some xs
  | .tup xs => some xs
  | .str z => some (z.cps.toList.map fun c => .str ⟨#[c]⟩)
  | _ => none
section
variable {K : PySem.W.Frag} {F : Hp}
theorem it_list {a : Addr} {vs : List V} {ds : List D} (h : SqL K F a vs) (r : RepL K F ds vs) : ItOk K (Itl K a) ds F where
  go := fun i H hi s => by
    obtain ⟨v, e, _⟩ := r.get (List.getElem?_eq_getElem hi)
    exact ⟨vs, v, Same.seq s h, e⟩
  stop := fun H s => ⟨vs, Same.seq s h, by rw [← r.length]; exact Nat.le_refl _⟩
  yld := fun i H x H' F1 hi s s1 y => by
    obtain ⟨e, y⟩ := y
    subst e
    have ex := y vs (Same.seq (s.trans s1) h)
    obtain ⟨d, ed, rp⟩ := r.get' ex
    exact ⟨F1, d, .refl s1, ed, Rep.mono s _ _ rp⟩
theorem it_tup {a : Addr} {vs : List V} {ds : List D} (h : SqT K F a vs) (r : RepL K F ds vs) : ItOk K (Itt K a) ds F where
  go := fun i H hi s => by
    obtain ⟨v, e, _⟩ := r.get (List.getElem?_eq_getElem hi)
    exact ⟨vs, v, Same.seqT s h, e⟩
  stop := fun H s => ⟨vs, Same.seqT s h, by rw [← r.length]; exact Nat.le_refl _⟩
  yld := fun i H x H' F1 hi s s1 y => by
    obtain ⟨e, y⟩ := y
    subst e
    have ex := y vs (Same.seqT (s.trans s1) h)
    obtain ⟨d, ed, rp⟩ := r.get' ex
    exact ⟨F1, d, .refl s1, ed, Rep.mono s _ _ rp⟩
theorem it_str {z : Str} : ItOk K (Its z) (z.cps.toList.map fun c => .str ⟨#[c]⟩) F where
  go := fun i H hi s => by
    show i < z.cps.size
    simpa using hi
  stop := fun H s => by
    show z.cps.size ≤ _
    simp
  yld := fun i H x H' F1 hi s s1 y => by
    obtain ⟨e, c, ec, ex⟩ := y
    subst e
    subst ex
    refine ⟨F1, .str ⟨#[c]⟩, .refl s1, ?_, Rep.mk_str⟩
    simp [ec]
def rangeD (lo : Int) (n : Nat) : List D := (List.range n).map fun (i : Nat) => .int (lo + (i : Int))
theorem it_range {lo : Int} {n : Nat} : ItOk K (Itr lo n) (rangeD lo n) F where
  go := fun i H hi s => by
    show i < n
    simpa [rangeD] using hi
  stop := fun H s => by show n ≤ _; simp [rangeD]
  yld := fun i H x H' F1 hi s s1 y => by
    obtain ⟨e, ex⟩ := y
    subst e
    subst ex
    have hi : i < n := by simpa [rangeD] using hi
    refine ⟨F1, .int (lo + i), .refl s1, ?_, Rep.mk_int⟩
    simp [rangeD, hi]
def rangeC (lo c : Int) (n : Nat) : List D := (List.range n).map fun (i : Nat) => .int (lo + (i : Int) * c)
def enumD (ds : List D) : List D := (List.range ds.length).map fun (i : Nat) => .tup [.int (i : Int), ds.getD i .non]
theorem enumD_get {ds : List D} {i : Nat} {d : D} (h : ds[i]? = some d) : (enumD ds)[i]? = some (.tup [.int (i : Int), d]) := by
  obtain ⟨hi, e⟩ := List.getElem?_eq_some_iff.mp h
  simp [enumD, hi, e]
theorem it_enum {a : Addr} {vs : List V} {ds : List D} (h : SqL K F a vs) (r : RepL K F ds vs) : ItOk K (Ite K a) (enumD ds) F where
  go := fun i H hi s => by
    have hi : i < ds.length := by simpa [enumD] using hi
    obtain ⟨v, e, _⟩ := r.get (List.getElem?_eq_getElem hi)
    exact ⟨vs, v, Same.seq s h, e⟩
  stop := fun H s => ⟨vs, Same.seq s h, by rw [← r.length]; simp [enumD]⟩
  yld := fun i H x H' F1 hi s s1 y => by
    obtain ⟨T, v, e1, hT, e2, y⟩ := y
    subst e1
    subst e2
    have ev := y vs (Same.seq (s.trans s1) h)
    obtain ⟨d, ed, rp⟩ := r.get' ev
    have ex : Ext F1 H (upd F1 T (.tup [.int (i : Nat), v])) (upd H T (.tup [.int (i : Nat), v])) := Ext.new s1 hT
    exact ⟨_, _, ex, enumD_get ed, Rep.mk_tup (.of upd_same) (RepL.cons Rep.mk_int (RepL.cons (Rep.mono (s.trans ex.f) _ _ rp) RepL.nil))⟩
def zipD (xs ys : List D) : List D := (xs.zip ys).map fun p => .tup [p.1, p.2]
theorem zipD_get {xs ys : List D} {i : Nat} {x y : D} (h : xs[i]? = some x) (h2 : ys[i]? = some y) : (zipD xs ys)[i]? = some (.tup [x, y]) := by
  have q : (xs.zip ys)[i]? = some (x, y) := List.getElem?_zip_eq_some.mpr ⟨h, h2⟩
  simp [zipD, q]
theorem it_zip {a b : Addr} {vs ws : List V} {xs ys : List D} (h : SqL K F a vs) (r : RepL K F xs vs) (h2 : SqL K F b ws) (r2 : RepL K F ys ws) : ItOk K (Itz K a b) (zipD xs ys) F where
  go := fun i H hi s => by
    have hi : i < xs.length ∧ i < ys.length := by simpa [zipD, Nat.lt_min] using hi
    obtain ⟨v, e, _⟩ := r.get (List.getElem?_eq_getElem hi.1)
    obtain ⟨w, e2, _⟩ := r2.get (List.getElem?_eq_getElem hi.2)
    exact ⟨vs, ws, v, w, Same.seq s h, Same.seq s h2, e, e2⟩
  stop := fun H s => ⟨vs, ws, Same.seq s h, Same.seq s h2, by
    rw [← r.length, ← r2.length]
    simp only [zipD, List.length_map, List.length_zip]
    omega⟩
  yld := fun i H x H' F1 hi s s1 y => by
    obtain ⟨T, v, w, e1, hT, e2, y, y2⟩ := y
    subst e1
    subst e2
    obtain ⟨d, ed, rp⟩ := r.get' (y vs (Same.seq (s.trans s1) h))
    obtain ⟨d2, ed2, rp2⟩ := r2.get' (y2 ws (Same.seq (s.trans s1) h2))
    have ex : Ext F1 H (upd F1 T (.tup [v, w])) (upd H T (.tup [v, w])) := Ext.new s1 hT
    exact ⟨_, _, ex, zipD_get ed ed2, Rep.mk_tup (.of upd_same) (RepL.cons (Rep.mono (s.trans ex.f) _ _ rp) (RepL.cons (Rep.mono (s.trans ex.f) _ _ rp2) RepL.nil))⟩
theorem it_zipT {a b : Addr} {vs ws : List V} {xs ys : List D} (h : SqT K F a vs) (r : RepL K F xs vs) (h2 : SqT K F b ws) (r2 : RepL K F ys ws) : ItOk K (RZ.ItzT K a b) (zipD xs ys) F where
  go := fun i H hi s => by
    have hi : i < xs.length ∧ i < ys.length := by simpa [zipD, Nat.lt_min] using hi
    obtain ⟨v, e, _⟩ := r.get (List.getElem?_eq_getElem hi.1)
    obtain ⟨w, e2, _⟩ := r2.get (List.getElem?_eq_getElem hi.2)
    exact ⟨vs, ws, v, w, Same.seqT s h, Same.seqT s h2, e, e2⟩
  stop := fun H s => ⟨vs, ws, Same.seqT s h, Same.seqT s h2, by
    rw [← r.length, ← r2.length]
    simp only [zipD, List.length_map, List.length_zip]
    omega⟩
  yld := fun i H x H' F1 hi s s1 y => by
    obtain ⟨T, v, w, e1, hT, e2, y, y2⟩ := y
    subst e1
    subst e2
    obtain ⟨d, ed, rp⟩ := r.get' (y vs (Same.seqT (s.trans s1) h))
    obtain ⟨d2, ed2, rp2⟩ := r2.get' (y2 ws (Same.seqT (s.trans s1) h2))
    have ex : Ext F1 H (upd F1 T (.tup [v, w])) (upd H T (.tup [v, w])) := Ext.new s1 hT
    exact ⟨_, _, ex, zipD_get ed ed2, Rep.mk_tup (.of upd_same) (RepL.cons (Rep.mono (s.trans ex.f) _ _ rp) (RepL.cons (Rep.mono (s.trans ex.f) _ _ rp2) RepL.nil))⟩
end

/-- a list, a tuple or a text, walked -/
def iAny (K : PySem.W.Frag) (tl : TE) : TI := fun σ H R => tl σ H fun x H1 => (∃ a, x = .ref a ∧ (∃ xs, SqL K H1 a xs) ∧ R (Itl K a) H1) ∨ (∃ a, x = .ref a ∧ (∃ xs, SqT K H1 a xs) ∧ R (Itt K a) H1) ∨ ∃ z, x = .str z ∧ R (Its z) H1
theorem pi_any {X : Cx} {tg l : Expr} {tl : TE} (hl : PE X l tl) : PI X tg l (iAny X.K tl) := by
  refine ⟨fun pins s σ H R I h => ?_⟩
  refine thn (hl.run pins s σ H _ I h) fun v s1 ⟨x, H1, I1, r1, q1⟩ => ?_
  rcases q1 with ⟨a, e, ⟨xs, hq⟩, q⟩ | ⟨a, e, ⟨xs, hq⟩, q⟩ | ⟨z, e, q⟩
  · subst e
    cases r1
    obtain ⟨its, rv, p, hz⟩ := I1.list hq
    refine wpAny_pyIter_list p.isList ?_
    refine ⟨s1.heap.objs.size, [s1.heap.objs.size], _, _, H1, rfl, I1.kept (t' := s1.toks) fun b o e => Heap.get?_push_of_some _ e, turn_list a _, ⟨_, Heap.get?_push_size _ rfl, rfl, rfl⟩, fun b hb => ?_, q⟩
    have e : b = s1.heap.objs.size := by simpa using hb
    subst e
    exact I1.fpOk (Nat.le_refl _) (I1.hok.fresh (Nat.le_refl _))
  · subst e
    cases r1
    obtain ⟨its, rv, p, hz⟩ := I1.tuple hq
    refine wpAny_pyIter_tuple (show s1.heap.IsTuple a its.toArray from p) ?_
    refine ⟨s1.heap.objs.size, [s1.heap.objs.size], _, _, H1, rfl, I1.kept (t' := s1.toks) fun b o e => Heap.get?_push_of_some _ e, turn_tuple a _, ⟨_, Heap.get?_push_size _ rfl, rfl, rfl⟩, fun b hb => ?_, q⟩
    have e : b = s1.heap.objs.size := by simpa using hb
    subst e
    exact I1.fpOk (Nat.le_refl _) (I1.hok.fresh (Nat.le_refl _))
  · subst e
    obtain ⟨t, rfl⟩ := r1
    cases ha : z.cps.all (· < 128)
    · exact wpAny_pyIter_wide ha (pi_one (tk := s1.toks) I1 _ (turn_str _ z t "str_iterator" (.inr rfl)) ⟨_, Heap.get?_push_size _ rfl, rfl, rfl⟩ q)
    · exact wpAny_pyIter_ascii ha (pi_one (tk := s1.toks) I1 _ (turn_str _ z t "str_ascii_iterator" (.inl rfl)) ⟨_, Heap.get?_push_size _ rfl, rfl, rfl⟩ q)
section
variable {X : Cx} {W : WX} {tg e e1 e2 e3 : Expr} {es elts : List Expr} {f : REnv → R D} {t : REnv → R (List D)} {pos p tpos : Pos} {kk : Nat}
def iD (f : REnv → R D) : REnv → R (List D) := fun ρ => (f ρ).bind fun d => .opt (iterD d)
theorem si_any (h : SE X W e f) : SI X W tg e (iD f) := by
  refine ⟨fun pins s σ H R I q => (pi_any (tg := tg) h).run pins s σ H R I ?_⟩
  obtain ⟨G, F, ρ, r, p⟩ := q
  refine ⟨G, F, ρ, r, Post.bind p fun d v F' H' _ ex rp p' => ?_⟩
  cases d with
  | lst xs =>
    obtain ⟨a, vs, e1, h1, h2⟩ := rp.lst_inv
    exact .inl ⟨a, e1, ⟨vs, Same.seq ex.s h1⟩, p' _ F' H' (.refl ex.s) (it_list h1 h2)⟩
  | tup xs =>
    obtain ⟨a, vs, e1, h1, h2⟩ := rp.tup_inv
    exact .inr (.inl ⟨a, e1, ⟨vs, Same.seqT ex.s h1⟩, p' _ F' H' (.refl ex.s) (it_tup h1 h2)⟩)
  | str z => exact .inr (.inr ⟨z, rp.str_inv, p' _ F' H' (.refl ex.s) it_str⟩)
  | _ => exact p'.elim
def Sm (i : Int) : Prop := -(2 ^ 62) ≤ i ∧ i < 2 ^ 62
instance (i : Int) : Decidable (Sm i) := inferInstanceAs (Decidable (_ ∧ _))
def range1 : List D → Option (List D)
  | [.int n] => if Sm n then some (rangeD 0 n.toNat) else none
  | _ => none
def range2 : List D → Option (List D)
  | [.int m, .int n] => if Sm m ∧ Sm n then some (rangeD m (n - m).toNat) else none
  | _ => none
def iArgs (o : List D → Option (List D)) (t : REnv → R (List D)) : REnv → R (List D) := fun ρ => (t ρ).bind fun ds => .opt (o ds)
theorem Post.opt {α β : Type} {K : PySem.W.Frag} {W : WX} {rel : Hp → α → β → Prop} {σ : St} {F H : Hp} {x : Option α} {Q : β → Hp → Prop} (h : Post K W rel σ F H (.opt x) Q) : ∃ a, x = some a ∧ ∀ v F' H', Ext F H F' H' → rel F' a v → Q v H' := by
  cases x with
  | none => exact h.elim
  | some a => exact ⟨a, rfl, h⟩
theorem RepL.one {K : PySem.W.Frag} {F : Hp} {a : D} {vs : List V} (h : RepL K F [a] vs) : ∃ v, vs = [v] ∧ Rep K F a v := by
  simp only [RepL] at h
  obtain ⟨v, r, e, h1, h2⟩ := h
  subst h2
  exact ⟨v, e, h1⟩
theorem RepL.two {K : PySem.W.Frag} {F : Hp} {a b : D} {vs : List V} (h : RepL K F [a, b] vs) : ∃ v w, vs = [v, w] ∧ Rep K F a v ∧ Rep K F b w := by
  simp only [RepL] at h
  obtain ⟨v, r, e, h1, w, r2, e2, h2, h3⟩ := h
  subst h3
  subst e2
  exact ⟨v, w, e, h1, h2⟩
theorem range1_inv {ds rs : List D} (h : range1 ds = some rs) : ∃ n, ds = [.int n] ∧ Sm n ∧ rs = rangeD 0 n.toNat := by
  unfold range1 at h
  split at h
  · split at h
    · cases h; exact ⟨_, rfl, by assumption, rfl⟩
    · cases h
  · cases h
theorem si_range1 (hm : X.mg "range" = none) (ha : SA X W [e] t) (hg : Gl X "range" := by rfl) (hs : starEach [e] X.env = [(false, eval e X.env)] := by rfl) : SI X W tg (.Call (.Name "range" p) [e] [] pos) (iArgs range1 t) := by
  refine ⟨fun pins s σ H R I q => (pi_range1 (tg := tg) hg hm ha hs).run pins s σ H R I ?_⟩
  obtain ⟨G, F, ρ, r, p⟩ := q
  refine ⟨G, F, ρ, r, Post.bind p fun ds vs F' H' _ ex rp p' => ?_⟩
  obtain ⟨rs, e1, q⟩ := Post.opt p'
  obtain ⟨n, rfl, hS, rfl⟩ := range1_inv e1
  obtain ⟨v, rfl, h1⟩ := rp.one
  exact ⟨n, by rw [h1.int_inv], hS.1, hS.2, q _ F' H' (.refl ex.s) it_range⟩
def enum1 : List D → Option (List D)
  | [.lst xs] => some (enumD xs)
  | _ => none
theorem enum1_inv {ds rs : List D} (h : enum1 ds = some rs) : ∃ xs, ds = [.lst xs] ∧ rs = enumD xs := by
  unfold enum1 at h
  split at h
  · cases h; exact ⟨_, rfl, rfl⟩
  · cases h
theorem si_enum (hm : X.mg "enumerate" = none) (ha : SA X W [e] t) (hg : Gl X "enumerate" := by rfl) (hs : starEach [e] X.env = [(false, eval e X.env)] := by rfl) :
    SI X W (.Tuple elts kk tpos) (.Call (.Name "enumerate" p) [e] [] pos) (iArgs enum1 t) := by
  refine ⟨fun pins s σ H R I q => (pi_enum hg hm ha hs).run pins s σ H R I ?_⟩
  obtain ⟨G, F, ρ, r, p⟩ := q
  refine ⟨G, F, ρ, r, Post.bind p fun ds vs F' H' _ ex rp p' => ?_⟩
  obtain ⟨rs, e1, q⟩ := Post.opt p'
  obtain ⟨xs, rfl, rfl⟩ := enum1_inv e1
  obtain ⟨v, rfl, h1⟩ := rp.one
  obtain ⟨a, ws, rfl, h3, h4⟩ := h1.lst_inv
  exact ⟨a, ws, rfl, Same.seq ex.s h3, q _ F' H' (.refl ex.s) (it_enum h3 h4)⟩
def zip2 : List D → Option (List D)
  | [.lst xs, .lst ys] => some (zipD xs ys)
  | [.tup xs, .tup ys] => some (zipD xs ys)
  | _ => none
theorem zip2_inv {ds rs : List D} (h : zip2 ds = some rs) : ∃ xs ys, (ds = [.lst xs, .lst ys] ∨ ds = [.tup xs, .tup ys]) ∧ rs = zipD xs ys := by
  unfold zip2 at h
  split at h
  · cases h; exact ⟨_, _, .inl rfl, rfl⟩
  · cases h; exact ⟨_, _, .inr rfl, rfl⟩
  · cases h
theorem si_zip (hm : X.mg "zip" = none) (ha : SA X W [e1, e2] t) (hg : Gl X "zip" := by rfl) (hs : starEach [e1, e2] X.env = (false, eval e1 X.env) :: starEach [e2] X.env := by rfl) (hpl : (backTo pos (starEach [e2] X.env)).any (·.1) = false := by rfl) :
    SI X W (.Tuple elts kk tpos) (.Call (.Name "zip" p) [e1, e2] [] pos) (iArgs zip2 t) := by
  refine ⟨fun pins s σ H R I q => (RZ.pi_zipA hg hm ha hs hpl).run pins s σ H R I ?_⟩
  obtain ⟨G, F, ρ, r, p⟩ := q
  refine ⟨G, F, ρ, r, Post.bind p fun ds vs F' H' _ ex rp p' => ?_⟩
  obtain ⟨rs, e1, q⟩ := Post.opt p'
  obtain ⟨xs, ys, hds, rfl⟩ := zip2_inv e1
  rcases hds with rfl | rfl
  · obtain ⟨v, w, rfl, h1, h2⟩ := rp.two
    obtain ⟨a, ws, rfl, h3, h4⟩ := h1.lst_inv
    obtain ⟨b, us, rfl, h6, h7⟩ := h2.lst_inv
    exact ⟨a, b, ws, us, rfl, .inl ⟨Same.seq ex.s h3, Same.seq ex.s h6, q _ F' H' (.refl ex.s) (it_zip h3 h4 h6 h7)⟩⟩
  · obtain ⟨v, w, rfl, h1, h2⟩ := rp.two
    obtain ⟨a, ws, rfl, h3, h4⟩ := h1.tup_inv
    obtain ⟨b, us, rfl, h6, h7⟩ := h2.tup_inv
    exact ⟨a, b, ws, us, rfl, .inr ⟨Same.seqT ex.s h3, Same.seqT ex.s h6, q _ F' H' (.refl ex.s) (it_zipT h3 h4 h6 h7)⟩⟩
end

/-! ### comprehensions -/
def R.get {α : Type} : R α → Option α
  | .ok a => some a
  | _ => none
def wipeE (ρ : REnv) : List Nat → REnv
  | [] => ρ
  | v :: vs => (wipeE ρ vs).set v .un
theorem RepE.wipe {K : PySem.W.Frag} {G F H : Hp} {σ : St} {ρ : REnv} (r : RepE K G F H σ ρ) : ∀ vs : List Nat, RepE K G F H (L2.wipe σ vs) (wipeE ρ vs)
  | [] => r
  | v :: vs => (RepE.wipe r vs).unset
theorem wipe_in {σ : St} {j : Nat} : ∀ {vs : List Nat}, j ∈ vs → (L2.wipe σ vs)[j]? = if j < σ.length then some none else none
  | v :: vs, h => by
    unfold L2.wipe
    by_cases e : v = j
    · subst e
      rw [List.getElem?_set, if_pos rfl]
      rw [wipe_length]
    · rw [List.getElem?_set_ne e]
      exact wipe_in (by rcases List.mem_cons.mp h with z | z; exact absurd z.symm e; exact z)
theorem wipe_only {σ σ' : St} {vs is : List Nat} (h : OnlyAt is (L2.wipe σ vs) σ') (hs : ∀ i ∈ is, i ∈ vs) : L2.wipe σ' vs = L2.wipe σ vs := by
  have hl : σ'.length = σ.length := by rw [h.1, wipe_length]
  apply List.ext_getElem?
  intro j
  by_cases hj : j ∈ vs
  · rw [wipe_in hj, wipe_in hj, hl]
  · rw [wipe_out hj, h.2 j fun z => hj (hs j z)]
def compS (b : D → REnv → Option REnv) (c : REnv → R Bool) (e : REnv → R D) : List D → REnv → Option (List D)
  | [], _ => some []
  | d :: ds, ρ => (b d ρ).bind fun ρ' => (c ρ').get.bind fun k => if k = true then (e ρ').get.bind fun v => (compS b c e ds ρ).bind fun r => some (v :: r) else compS b c e ds ρ
def eComp (vs : List Nat) (f : REnv → R (List D)) (b : D → REnv → Option REnv) (c : REnv → R Bool) (e : REnv → R D) : REnv → R D :=
  fun ρ => (f ρ).bind fun ds => if ds.length ≤ sizeLine then .opt ((compS b c e ds (wipeE ρ vs)).map .lst) else .bad
/-- inside a comprehension nothing may be raised -/
abbrev W0 : WX := fun _ _ _ _ => False
theorem Post.get {α β : Type} {K : PySem.W.Frag} {rel : Hp → α → β → Prop} {σ : St} {F H : Hp} {x : R α} {a : α} {Q : β → Hp → Prop} (e : x.get = some a) (q : ∀ v F' H', Ext F H F' H' → rel F' a v → Q v H') : Post K W0 rel σ F H x Q := by
  cases x with
  | ok b => cases e; exact q
  | err d => cases e
  | bad => cases e
theorem comp_read {K : PySem.W.Frag} {W : WX} {vs is : List Nat} {fi : REnv → R (List D)} {t : TG} {b : D → REnv → Option REnv} {c : REnv → R Bool} {e : REnv → R D} (hk : TgOk K t b is) (hs : ∀ i ∈ is, i ∈ vs) {σ : St} {H : Hp} {Q : VK}
    (hh : rd K W (eComp vs fi b c e) σ H Q) : tLc (ri K W fi) t (rt K W0 c) (rd K W0 e) vs σ H Q := by
  obtain ⟨G, F, ρ, r0, p⟩ := hh
  refine ⟨G, F, ρ, r0, Post.bind p fun ds J F1 H1 _ ex1 hJ p1 => ?_⟩
  have r1 := (r0.ext ex1).wipe vs
  by_cases hl : ds.length ≤ sizeLine
  case neg => rw [if_neg hl] at p1; exact p1.elim
  rw [if_pos hl] at p1
  cases hr : compS b c e ds (wipeE ρ vs) with
  | none => rw [hr] at p1; exact p1.elim
  | some res =>
    rw [hr] at p1
    intro A hA
    have p2 : ∀ v F' H', Ext F1 H1 F' H' → Rep K F' (.lst res) v → Q v H' := p1
    let Pv : Nat → Hp → Prop := fun i H => ∃ F' acc ws rest, Ext F1 H1 F' H ∧ F' A = none ∧ H A = some (.lst ws) ∧ RepL K F' acc ws ∧ acc.length ≤ i ∧ compS b c e (ds.drop i) (wipeE ρ vs) = some rest ∧ acc ++ rest = res
    have hF1 : F1 A = none := ex1.s.free hA
    refine ⟨fun i m H => m = ds.length - i ∧ i ≤ ds.length ∧ Pv i H, ⟨ds.length, by simp, Nat.zero_le _, F1, [], [], res, Ext.newH ex1.s hA, hF1, upd_same, RepL.nil, Nat.le_refl _, by simpa using hr, rfl⟩, ?_⟩
    rintro i m H2 ⟨rfl, hi, F', acc, ws, rest, ex, hFA, hHA, rl, hal, hc, he⟩
    by_cases hlt : i < ds.length
    · refine .inr ⟨hJ.go i H2 hlt (ex.f.trans ex.s), Pv (i + 1), fun H' q => ⟨ds.length - (i + 1), by omega, rfl, hlt, q⟩, fun x H' y => ?_⟩
      obtain ⟨F2, d, ex2, ed, rp⟩ := hJ.yld i H2 x H' F' hlt ex.f ex.s y
      have dr : ds.drop i = d :: ds.drop (i + 1) := by
        obtain ⟨h1, h2⟩ := List.getElem?_eq_some_iff.mp ed
        rw [← h2]
        exact List.drop_eq_getElem_cons h1
      rw [dr] at hc
      unfold compS at hc
      obtain ⟨ρ', hb, hc⟩ := Option.bind_eq_some_iff.mp hc
      obtain ⟨k, hk1, hc⟩ := Option.bind_eq_some_iff.mp hc
      have r2 : RepE K G F2 H' (L2.wipe σ vs) (wipeE ρ vs) := r1.ext (ex.trans ex2)
      refine hk G F2 H' _ _ ρ' d x _ r2 rp hb fun σ2 r3 o2 => ⟨wipe_only o2 hs, G, F2, ρ', r3, Post.get hk1 fun k' F3 H3 ex3 ek => ?_⟩
      subst ek
      have stay : ∀ {Fa Ha Fb Hb : Hp}, Ext Fa Ha Fb Hb → Fa A = none → Ha A = some (.lst ws) → Fb A = none ∧ Hb A = some (.lst ws) := fun {Fa Ha Fb Hb} z h1 h2 => by
        refine ⟨?_, z.h _ _ h2⟩
        cases q : Fb A with
        | none => rfl
        | some o =>
          have := z.n A o q h1
          rw [h2] at this
          cases this
      obtain ⟨a2, b2⟩ := stay ex2 hFA hHA
      obtain ⟨a3, b3⟩ := stay ex3 a2 b2
      cases k with
      | false =>
        refine iteF ?_
        rw [if_neg Bool.false_ne_true] at hc
        exact ⟨F3, acc, ws, rest, (ex.trans ex2).trans ex3, a3, b3, RepL.mono (ex2.f.trans ex3.f) _ _ rl, Nat.le_succ_of_le hal, hc, he⟩
      | true =>
        refine iteT ?_
        rw [if_pos rfl] at hc
        obtain ⟨v, hv, hc⟩ := Option.bind_eq_some_iff.mp hc
        obtain ⟨rr, hr2, hc⟩ := Option.bind_eq_some_iff.mp hc
        cases hc
        refine ⟨G, F3, ρ', r3.ext ex3, Post.get hv fun y F4 H4 ex4 ry => ?_⟩
        obtain ⟨a4, b4⟩ := stay ex4 a3 b3
        have exA := ((ex.trans ex2).trans ex3).trans ex4
        refine ⟨ws, b4, ?_, F4, acc ++ [v], ws ++ [y], rr, ⟨exA.f, fun q o z => ?_, fun q o z => ?_, exA.n⟩, a4, upd_same, (RepL.mono ((ex2.f.trans ex3.f).trans ex4.f) _ _ rl).snoc ry, ?_, hr2, by simpa using he⟩
        · rw [← rl.length]; omega
        · rw [upd_ne (ne_of_none z hA)]; exact exA.h _ _ z
        · rw [upd_ne (ne_of_none z a4)]; exact exA.s _ _ z
        · simp; omega
    · have e : i = ds.length := by omega
      subst e
      rw [List.drop_length] at hc
      unfold compS at hc
      cases hc
      rw [List.append_nil] at he
      subst he
      refine .inl ⟨hJ.stop H2 (ex.f.trans ex.s), p2 (.ref A) (upd F' A (.lst ws)) H2 ⟨ex.f.trans (same_upd hFA), ex.h, fun q o z => ?_, fun q o z z2 => ?_⟩ (Rep.mk_lst (.of upd_same) (RepL.mono (same_upd hFA) _ _ rl))⟩
      · by_cases hq : q = A
        · subst hq; rw [upd_same] at z; rw [← z]; exact hHA
        · rw [upd_ne hq] at z; exact ex.s _ _ z
      · by_cases hq : q = A
        · subst hq; exact hA
        · rw [upd_ne hq] at z; exact ex.n _ _ z z2
section
variable {X : Cx} {W : WX} {elt tg iter : Expr} {ifs : List Expr} {scope : Scope} {own : List (Str × Nat)} {pos : Pos} {fi : REnv → R (List D)} {t : TG} {b : D → REnv → Option REnv} {c : REnv → R Bool} {e : REnv → R D} {is : List Nat}
abbrev SIf (X : Cx) (W : WX) (ifs : List Expr) (f : REnv → R Bool) : Prop := PTs X ifs (rt X.K W f)
def eYes : REnv → R Bool := fun _ => .ok true
theorem sif_nil : SIf X W [] eYes := ⟨fun pins s σ H Q I ⟨G, F, ρ, r, p⟩ => pts_nil.run pins s σ H Q I (p true F H (.refl r.f) rfl)⟩
/-- the block's context -/
abbrev Bl (X : Cx) (s : Shared) (H : Hp) (scope : Scope) (C : Addr) (cl : List (Str × Addr)) (fp : List Addr) : Cx := X.blk s H scope (compEnvC scope cl C X.env) fp
theorem se_comp (hc : X.calm = true) (hN : X.N.Nodup) (ok : BlkOk X.N X.env.scope scope own) (hi : SI X W tg iter fi) (hk : TgOk X.K t b is) (hg : ∀ s H C cl fp, PG (Bl X s H scope C cl fp) tg t) (ht : ∀ s H C cl fp, SIf (Bl X s H scope C cl fp) W0 ifs c)
    (he : ∀ s H C cl fp, SE (Bl X s H scope C cl fp) W0 elt e) (hsub : (is.all fun i => (own.map (·.2)).contains i) = true := by decide)
    (hs : ∀ x, foldedSetIterable iter X.env x = pure x := by intro _; rfl) : SE X W (.ListComp elt [⟨tg, iter, ifs, 0⟩] scope pos) (eComp (own.map (·.2)) fi b c e) :=
  (pe_lc hc hN hi ok hg ht he hs).dy fun σ H Q hh => comp_read hk (fun i h => List.contains_iff_mem.mp (List.all_eq_true.mp hsub i h)) hh
theorem ss_setc {i : Nat} {y : Str} {py spos : Pos} (hc : X.calm = true) (hN : X.N.Nodup) (hsw : swapsWith (.ListComp elt [⟨tg, iter, ifs, 0⟩] scope pos) (some (.Name y py)) spos.line X.env = pure true) (ok : BlkOk X.N X.env.scope scope own)
    (hi : SI X W tg iter fi) (hk : TgOk X.K t b is) (hg : ∀ s H C cl fp, PG (Bl X s H scope C cl fp) tg t) (ht : ∀ s H C cl fp, SIf (Bl X s H scope C cl fp) W0 ifs c)
    (he : ∀ s H C cl fp, SE (Bl X s H scope C cl fp) W0 elt e) (hy : X.N[i]? = some y := by rfl) (hyl : X.env.scope.names.lookup y = some .local := by rfl) (hsub : (is.all fun i => (own.map (·.2)).contains i) = true := by decide)
    (hs : ∀ x, foldedSetIterable iter X.env x = pure x := by intro _; rfl) : SS X W (.Assign [.Name y py] (.ListComp elt [⟨tg, iter, ifs, 0⟩] scope pos) spos) (sSet i (eComp (own.map (·.2)) fi b c e)) :=
  (ps_setLc hc hN hy hyl hsw hi ok hg ht he hs).dy fun D σ H ⟨G, F, ρ, r, p⟩ => comp_read (Q := fun x H1 => gName i x σ H1 D.nx) hk (fun i h => List.contains_iff_mem.mp (List.all_eq_true.mp hsub i h))
    ⟨G, F, ρ, r, PostS.toS r p fun d v F' H' _ ex rp r' p' => p' _ F' H' (.refl _) .refl (r'.setV rp)⟩
end

/-! ### defs -/
def spD (K : PySem.W.Frag) (n : Nat) (fn : List D → R D) : Sp := fun vs H Q E => vs.length = n ∧ ∃ F ds, Same F H ∧ RepL K F ds vs ∧ Post K (fun cls dd _ H' => E cls dd H') (Rep K) [] F H (fn ds) Q
def SR.out : SR → R D
  | .next _ => .ok .non
  | .ret d => .ok d
  | .err e _ => .err e
  | .bad => .bad
/-- a def by its body: n parameters, m slots in all -/
def fnD (n m : Nat) (g : REnv → SR) : List D → R D := fun ds => if ds.length = n then (g (ds.map .val ++ List.replicate (m - n) .un)).out else .bad
theorem fnD_len {n m : Nat} {g : REnv → SR} {ds : List D} (h : ds.length ≠ n) : fnD n m g ds = .bad := if_neg h
section
variable {P : Program} {w : World} {K : PySem.W.Frag} {mg : Str → Option Value} {base : Heap} {x qual : Str} {params : Arguments} {body : List Stmt} {scope : Scope} {f : Addr} {fd : FuncData} {N ps : List Str} {k : Nat}
abbrev CxD (P : Program) (w : World) (K : PySem.W.Frag) (mg : Str → Option Value) (base : Heap) (N : List Str) (qual : Str) (scope : Scope) (f : Addr) (cd : Value) (A : Around) (outer : List Env) (s : Shared) (H : Hp) (E : XK) : Cx := cxOf (L2.CX P w) P w K mg base N qual scope f cd A outer s H E
abbrev WD (E : XK) : WX := fun cls dd _ H => E cls dd H
theorem repE_start {F H : Hp} {ds : List D} {vs : List V} (s : Same F H) (r : RepL K F ds vs) : RepE K H F H (L2.start N vs) (ds.map .val ++ List.replicate (N.length - ds.length) .un) := by
  have hl := r.length
  refine ⟨.refl _, s, by unfold L2.start; simp [hl], fun i sl x h1 h2 => ?_, fun i j sl t x y a hij h1 h2 h3 h4 m1 m2 => ?_⟩
  · by_cases hi : i < ds.length
    · rw [List.getElem?_append_left (by simpa using hi), List.getElem?_map] at h1
      obtain ⟨v, ev, rv⟩ := r.get (List.getElem?_eq_getElem hi)
      rw [List.getElem?_eq_getElem hi] at h1
      cases h1
      unfold L2.start at h2
      rw [List.getElem?_append_left (by simpa [← hl] using hi), List.getElem?_map, ev] at h2
      cases h2
      exact ⟨v, rfl, rv⟩
    · rw [List.getElem?_append_right (by simpa using hi), List.getElem?_replicate] at h1
      split at h1
      · cases h1; trivial
      · cases h1
  · by_cases hi : i < ds.length
    · rw [List.getElem?_append_left (by simpa using hi), List.getElem?_map, List.getElem?_eq_getElem hi] at h1
      cases h1
      exact m1.elim
    · rw [List.getElem?_append_right (by simpa using hi), List.getElem?_replicate] at h1
      split at h1
      · cases h1; exact m1.elim
      · cases h1
theorem ok_def {n : Nat} {g : REnv → SR} (Fn : FunD K x qual params body scope [] [] f fd) (S : FnScope N ps scope) (hn : ps.length = n)
    (hb : ∀ (cdv : Value) (A : Around) (outer : List Env) (s : Shared) (H : Hp) (E : XK), Room k (CxD P w K mg base N qual scope f cdv A outer s H E).A → Takes (CxD P w K mg base N qual scope f cdv A outer s H E) (WD E) →
      PassesOwn (model P w) (CxD P w K mg base N qual scope f cdv A outer s H E).A (CxD P w K mg base N qual scope f cdv A outer s H E).env (CxD P w K mg base N qual scope f cdv A outer s H E).xe → SSs (CxD P w K mg base N qual scope f cdv A outer s H E) (WD E) body g) :
    FnOk P w K mg base (L2.CX P w) (k + 1) f fd ps (spD K n (fnD n N.length g)) := by
  refine Fn.ok S (fun vs H Q E h => by rw [hn]; exact h.1) fun cdv A outer s H vs Q E hr hsp => ⟨_, hb cdv A outer s H E hr (takes_of rfl rfl rfl rfl) (passes_of rfl), ?_⟩
  obtain ⟨hv, F, ds, sm, rl, p⟩ := hsp
  have hd : ds.length = n := by rw [rl.length, hv]
  unfold fnD at p
  rw [if_pos hd] at p
  refine ⟨H, F, _, repE_start sm rl, ?_⟩
  rw [hd]
  cases e : g (ds.map .val ++ List.replicate (N.length - n) .un) with
  | next ρ =>
    rw [e] at p
    exact fun σ' F' H' s1 n1 r => p .non F' H' ⟨s1, r.g, r.f, n1⟩ Rep.mk_non
  | ret d =>
    rw [e] at p
    exact fun v F' H' s1 n1 g1 f1 r => p v F' H' ⟨s1, g1, f1, n1⟩ r
  | err d ρ =>
    rw [e] at p
    exact fun σ' F' H' cls dd s1 n1 r q => p cls dd F' H' ⟨s1, r.g, r.f, n1⟩ q
  | bad => rw [e] at p; exact p.elim
end
section
variable {X : Cx} {W : WX} {e : Expr} {es : List Expr} {x : Str} {p pos : Pos} {k n : Nat} {f : Addr} {fd : FuncData} {ps : List Str} {t : REnv → R (List D)} {fn : List D → R D}
def eCall (fn : List D → R D) (t : REnv → R (List D)) : REnv → R D := fun ρ => (t ρ).bind fn
theorem se_call (Fo : FnOk X.prog X.w X.K X.mg X.base (L2.CX X.prog X.w) k f fd ps (spD X.K n fn)) (hl : ∀ ds, ds.length ≠ n → fn ds = .bad) (tk : Takes X W) (hr : Room k X.A) (hm : X.mg x = some (.ref f)) (hk : PySem.W.keepIn X.K (.ref f) = true) (hb : Binds X.K fd ps [])
    (ha : SA X W (e :: es) t) (hg : Gl X x := by rfl) (hdb : (x == ("__debug__" : Str)) = false := by decide) (he : starEach (e :: es) X.env = (false, eval e X.env) :: starEach es X.env := by rfl) (hpl : (backTo pos (starEach es X.env)).any (·.1) = false := by rfl) :
    SE X W (.Call (.Name x p) (e :: es) [] pos) (eCall fn t) :=
  (pe_callS (E := WE W) Fo hr hg hm hk hb (fun σ => passAt tk σ) ha hdb he hpl).dy fun σ H Q ⟨G, F, ρ, r, p⟩ => ⟨G, F, ρ, r, Post.bind p fun ds vs F' H' _ ex rp p' => by
    have hn : ds.length = n := Classical.byContradiction fun z => by
      rw [hl ds z] at p'
      exact p'
    refine ⟨by rw [← rp.length]; exact hn, F', ds, ex.s, rp, ?_⟩
    cases q : fn ds with
    | ok d => rw [q] at p'; exact p'
    | err d => rw [q] at p'; exact p'
    | bad => rw [q] at p'; exact p'⟩
end

/-! ### lists of one's own -/
section
variable {X : Cx} {W : WX} {st : Stmt} {g : REnv → SR} {e : Expr} {f : REnv → R D} {pos : Pos}
/-- ahead of a statement the list at slot i is let go: it is kept from here on -/
def eFreeze (i : Nat) (ρ : REnv) : REnv := match ρ[i]? with
  | some (.own ds) => ρ.set i (.val (.lst ds))
  | some (.tree o) => ρ.set i (.val o.toD)
  | some (.pin _ o) => ρ.set i (.val o.toD)
  | _ => ρ
def sFreeze (i : Nat) (g : REnv → SR) : REnv → SR := fun ρ => g (eFreeze i ρ)
theorem ss_freeze (i : Nat) (h : SS X W st g) : SS X W st (sFreeze i g) := PS.dy h fun D σ H ⟨G, F, ρ, r, p⟩ => by
  unfold sFreeze eFreeze at p
  cases q : ρ[i]? with
  | none => rw [q] at p; exact ⟨G, F, ρ, r, p⟩
  | some s =>
    rw [q] at p
    cases s with
    | own ds =>
      obtain ⟨F', s1, n1, r1⟩ := r.freeze q
      exact ⟨G, F', _, r1, PostS.ext s1 n1 p⟩
    | tree o =>
      obtain ⟨F', s1, n1, r1⟩ := r.freezeT q
      exact ⟨G, F', _, r1, PostS.ext s1 n1 p⟩
    | pin w o =>
      obtain ⟨F', s1, n1, r1⟩ := r.freezeP q
      exact ⟨G, F', _, r1, PostS.ext s1 n1 p⟩
    | _ => exact ⟨G, F, ρ, r, p⟩
/-- x = [..], a list of one's own -/
def sOwn (i : Nat) (t : REnv → R (List D)) : REnv → SR := fun ρ => (t ρ).toS ρ fun ds => if ds.length ≤ sizeLine then .next (ρ.set i (.own ds)) else .bad
theorem ss_own {i : Nat} {x : Str} {pos' lp : Pos} {es : List Expr} {t : REnv → R (List D)} (hN : X.N.Nodup) (ha : SA X W es t) (hi : X.N[i]? = some x := by rfl) (hx : Loc X.env.scope x := by first | exact Or.inl rfl | exact Or.inr rfl) (hs : swapsWith (.List es lp) (some (.Name x pos')) pos.line X.env = pure false := by rfl)
    (hf : X.fn x = true ∨ X.env.scope.names.lookup x = some .local := by first | exact .inl rfl | exact .inr rfl | assumption) : SS X W (.Assign [.Name x pos'] (.List es lp) pos) (sOwn i t) :=
  (ps_set hN hi hx (pe_lst ha) hs hf).dy fun D σ H ⟨G, F, ρ, r, p⟩ => ⟨G, F, ρ, r, PostS.toS r p fun ds vs F' H' _ ex rp r' p' => by
    by_cases hl : ds.length ≤ sizeLine
    · rw [if_pos hl] at p'
      exact ⟨by rw [← rp.length]; exact hl, fun q hq => p' _ F' _ (.refl _) .refl (r'.setO rp hq)⟩
    · rw [if_neg hl] at p'; exact p'.elim⟩
/-- x.append(e) -/
def sApp (i : Nat) (f : REnv → R D) : REnv → SR := fun ρ => match ρ[i]? with
  | some (.own ds) => (f ρ).toS ρ fun d => if ds.length < sizeLine then .next (ρ.set i (.own (ds ++ [d]))) else .bad
  | _ => .bad
theorem own_at {K : PySem.W.Frag} {G F H : Hp} {σ : St} {ρ : REnv} (r : RepE K G F H σ ρ) {i : Nat} {ds : List D} (h : ρ[i]? = some (.own ds)) : ∃ a vs, σ[i]? = some (some (.ref a)) ∧ H a = some (.lst vs) ∧ RepL K F ds vs := by
  have hl : i < σ.length := by
    rw [← r.len]
    exact (List.getElem?_eq_some_iff.mp h).1
  obtain ⟨a, vs, e1, e2, e3, _⟩ := r.at_ i _ _ h (List.getElem?_eq_getElem hl)
  exact ⟨a, vs, by rw [List.getElem?_eq_getElem hl, e1], e2, e3⟩
theorem ss_app (i : Nat) {x : Str} {ap np : Pos} {xp : Pos} (he : SE X W e f) (hN : X.N[i]? = some x := by rfl) (hv : Vis X.env.scope x := by first | exact Or.inl rfl | exact Or.inr (Or.inl rfl) | exact Or.inr (Or.inr rfl)) (hd : (x == ("__debug__" : Str)) = false := by decide) (hcd : (x == ("__classdict__" : Str)) = false := by decide)
    (hbm : ∀ {te : TE} {ta : TA}, PE X (.Name x np) te → PA X [e] ta → PE X (.Call (.Attribute (.Name x np) "append" ap) [e] [] xp) (tBM X.K "list" rAppend te ta) := by exact fun h1 h2 => pe_bm PySem.F.plainAttrs_list PySem.F.slot_list_append PySem.F.type_list_append mt_append h1 h2)
    (hse : starEach (e :: []) X.env = (false, eval e X.env) :: starEach [] X.env := by rfl)
    (hs : swapsWith (.Call (.Attribute (.Name x np) "append" ap) [e] [] xp) none pos.line X.env = pure false := by rfl) : SS X W (.Expr (.Call (.Attribute (.Name x np) "append" ap) [e] [] xp) pos) (sApp i f) :=
  (ps_expr (hbm (pe_var hN hv hd hcd) (pa_cons he pa_nil hse)) hs).dy fun D σ H ⟨G, F, ρ, r, p⟩ => by
    unfold sApp at p
    split at p
    · rename_i ds z
      obtain ⟨a, vs, h1, h2, h3⟩ := own_at r z
      refine ⟨.ref a, h1, .inl ⟨rfl, _, SqL.of h2⟩, G, F, ρ, r, PostS.toS r p fun d v F' H' _ ex rp r' p' => ?_⟩
      by_cases hl : ds.length < sizeLine
      · rw [if_pos hl] at p'
        exact ⟨a, vs, v, rfl, rfl, ex.h _ _ h2, by rw [← h3.length]; exact hl, p' σ F' _ (.refl _) .refl (r'.turnO z h1 ((RepL.mono ex.f _ _ h3).snoc rp))⟩
      · rw [if_neg hl] at p'; exact p'.elim
    · exact p.elim
end
end Dy

set_option Elab.async false
set_option linter.all false
set_option maxRecDepth 100000
namespace Dy
open PySem PySem.Spec PyProof.Rows L2

/-! ### arithmetic -/
def MuOk (i j : Int) : Prop := i.natAbs.log2 + j.natAbs.log2 < 100000000
instance (i j : Int) : Decidable (MuOk i j) := inferInstanceAs (Decidable (_ < _))
theorem MuOk.ok {i j : Int} (h : MuOk i j) : IntMulOk i j := by
  have b : ∀ x : Int, Builtin.Int.intBits x ≤ x.natAbs.log2 + 1 := fun x => by
    unfold Builtin.Int.intBits
    split <;> omega
  have h1 := b i
  have h2 := b j
  have h3 : i.natAbs.log2 + j.natAbs.log2 < 100000000 := h
  have e : bitsLine = 134217728 := by decide
  unfold IntMulOk
  intro z
  rw [Bool.and_eq_true] at z
  have z2 := z.2
  unfold Builtin.Int.intTooBig at z2
  have z3 := of_decide_eq_true z2
  rw [e] at z3
  omega
def DivOk (j : Int) : Prop := j ≠ 0 ∧ j.natAbs.log2 < 9000
instance (j : Int) : Decidable (DivOk j) := inferInstanceAs (Decidable (_ ∧ _))
def oII (f : Int → Int → Option D) : D → D → Option D
  | .int i, .int j => f i j
  | _, _ => none
theorem oII_inv {f : Int → Int → Option D} {a b d : D} (h : oII f a b = some d) : ∃ i j, a = .int i ∧ b = .int j ∧ f i j = some d := by
  unfold oII at h
  split at h
  · exact ⟨_, _, rfl, rfl, h⟩
  · cases h
section
variable {X : Cx}
theorem op2_ii {C : Int → Int → Prop} {g : Int → Int → V} {f : Int → Int → Option D} {K : PySem.W.Frag} (h : ∀ i j d, f i j = some d → C i j ∧ ∀ F, Rep K F d (g i j)) : Op2 K (rI C g) (oII f) := fun F H x y a b d Q s ra rb e q => by
  obtain ⟨i, j, rfl, rfl, e2⟩ := oII_inv e
  obtain ⟨h1, h2⟩ := h i j d e2
  exact ⟨i, j, ra.int_inv, rb.int_inv, h1, now q s (h2 F)⟩
theorem op2_ii0 {g : Int → Int → V} {f : Int → Int → Option D} {K : PySem.W.Frag} (h : ∀ i j d, f i j = some d → ∀ F, Rep K F d (g i j)) : Op2 K (rI0 g) (oII f) := fun F H x y a b d Q s ra rb e q => by
  obtain ⟨i, j, rfl, rfl, e2⟩ := oII_inv e
  exact ⟨i, j, ra.int_inv, rb.int_inv, now q s (h i j d e2 F)⟩
def oSub : D → D → Option D := oII fun i j => some (.int (i - j))
def oMul : D → D → Option D := oII fun i j => if MuOk i j then some (.int (i * j)) else none
def oDiv : D → D → Option D := oII fun i j => if DivOk j then some (.int (i.fdiv j)) else none
def oMod : D → D → Option D := oII fun i j => if j ≠ 0 then some (.int (i.fmod j)) else none
def oPow : D → D → Option D := oII fun i j => if 0 ≤ j ∧ j ≤ 1000000 ∧ i.natAbs < 2 ^ 64 then some (.int (i ^ j.toNat)) else none
def oLt : D → D → Option D := oII fun i j => some (.bl (decide (i < j)))
def oLe : D → D → Option D := oII fun i j => some (.bl (decide (i ≤ j)))
def oGt : D → D → Option D := oII fun i j => some (.bl (decide (j < i)))
def oGe : D → D → Option D := oII fun i j => some (.bl (decide (j ≤ i)))
theorem d_sub : OpR X (binaryOp .Sub) (rI0 fun i j => .int (i - j)) ∧ Op2 X.K (rI0 fun i j => .int (i - j)) oSub := ⟨op_sub, op2_ii0 fun i j d e F => by cases e; exact Rep.mk_int⟩
theorem d_mul : OpR X (binaryOp .Mult) (rI MuOk fun i j => .int (i * j)) ∧ Op2 X.K (rI MuOk fun i j => .int (i * j)) oMul :=
  ⟨opI fun _ _ _ _ _ _ _ hc q => mul_int q hc.ok, op2_ii fun i j d e => by
    by_cases h : MuOk i j
    · simp only [if_pos h] at e
      cases e
      exact ⟨h, fun F => Rep.mk_int⟩
    · simp only [if_neg h] at e; cases e⟩
theorem d_div : OpR X (binaryOp .FloorDiv) (rI (fun _ j => DivOk j) fun i j => .int (i.fdiv j)) ∧ Op2 X.K (rI (fun _ j => DivOk j) fun i j => .int (i.fdiv j)) oDiv :=
  ⟨opI fun _ _ _ _ _ _ _ hc q => floordiv_int hc.1 q (.inl (PyProof.noPylong_of_log2 hc.2)), op2_ii fun i j d e => by
    by_cases h : DivOk j
    · simp only [if_pos h] at e
      cases e
      exact ⟨h, fun F => Rep.mk_int⟩
    · simp only [if_neg h] at e; cases e⟩
theorem d_mod : OpR X (binaryOp .Mod) (rI (fun _ j => j ≠ 0) fun i j => .int (i.fmod j)) ∧ Op2 X.K (rI (fun _ j => j ≠ 0) fun i j => .int (i.fmod j)) oMod :=
  ⟨op_modN, op2_ii fun i j d e => by
    by_cases h : j ≠ 0
    · simp only [if_pos h] at e
      cases e
      exact ⟨h, fun F => Rep.mk_int⟩
    · simp only [if_neg h] at e; cases e⟩
theorem d_pow : OpR X (binaryOp .Pow) (rI CPow fun i j => .int (i ^ j.toNat)) ∧ Op2 X.K (rI CPow fun i j => .int (i ^ j.toNat)) oPow :=
  ⟨op_pow, op2_ii fun i j d e => by
    by_cases h : 0 ≤ j ∧ j ≤ 1000000 ∧ i.natAbs < 2 ^ 64
    · simp only [if_pos h] at e
      cases e
      exact ⟨h, fun F => Rep.mk_int⟩
    · simp only [if_neg h] at e; cases e⟩
theorem d_lt : OpR X (compareOp .Lt) (rI0 fun i j => .bl (decide (i < j))) ∧ Op2 X.K (rI0 fun i j => .bl (decide (i < j))) oLt := ⟨op_lt, op2_ii0 fun i j d e F => by cases e; exact Rep.mk_bl⟩
theorem d_gt : OpR X (compareOp .Gt) (rI0 fun i j => .bl (decide (j < i))) ∧ Op2 X.K (rI0 fun i j => .bl (decide (j < i))) oGt := ⟨op_gt, op2_ii0 fun i j d e F => by cases e; exact Rep.mk_bl⟩
theorem d_ge : OpR X (compareOp .GtE) (rI0 fun i j => .bl (decide (j ≤ i))) ∧ Op2 X.K (rI0 fun i j => .bl (decide (j ≤ i))) oGe := ⟨op_ge, op2_ii0 fun i j d e F => by cases e; exact Rep.mk_bl⟩
def oNeg : D → Option D
  | .int i => some (.int (-i))
  | _ => none
theorem d_neg : UnR X (unaryOp .USub) (rU fun i => .int (-i)) ∧ Op1 X.K (rU fun i => .int (-i)) oNeg := ⟨un_neg, fun F H x a d Q s ra e q => by
  unfold oNeg at e
  split at e
  · cases e; exact ⟨_, ra.int_inv, now q s Rep.mk_int⟩
  · cases e⟩

/-! ### + of ints, texts, lists, tuples -/
def oAddS : D → D → Option D
  | .str a, .str b => if a.length + b.length ≤ sizeLine then some (.str (a ++ b)) else none
  | _, _ => none
def oAddL : D → D → Option D
  | .lst a, .lst b => if a.length + b.length ≤ sizeLine then some (.lst (a ++ b)) else none
  | _, _ => none
def oAddT : D → D → Option D
  | .tup a, .tup b => if a.length + b.length ≤ sizeLine then some (.tup (a ++ b)) else none
  | _, _ => none
def rCatW (K : PySem.W.Frag) : R2 := fun x y H Q => ∃ l b xs zs, x = .ref l ∧ y = .ref b ∧ SqL K H l xs ∧ SqL K H b zs ∧ xs.length + zs.length ≤ sizeLine ∧ ∀ p, H p = none → Q (.ref p) (upd H p (.lst (xs ++ zs)))
theorem op_catW : OpR X (binaryOp .Add) (rCatW X.K) := by
  intro pins s σ H x y v u Q I rx ry h
  obtain ⟨l, b, xs, zs, rfl, rfl, hH, hB, hz, q⟩ := h
  cases rx
  cases ry
  obtain ⟨its, r, pl, hl⟩ := I.list hH
  obtain ⟨its2, r2, pl2, hl2⟩ := I.list hB
  obtain ⟨⟨cls, dd, data, sl⟩, n, ho, hc, hdd, hd⟩ := pl
  obtain ⟨⟨cls2, dd2, data2, sl2⟩, n2, ho2, hc2, hdd2, hd2⟩ := pl2
  simp only at hc hd hc2 hd2
  subst hc hd hc2 hd2
  have e : its.toArray ++ its2.toArray = (its ++ its2).toArray := by simp
  have l1 := r.length
  have l2 := r2.length
  refine concat_meets ⟨_, ho, rfl⟩ ⟨_, ho2, rfl⟩ noFill_list_add seq_list_add PySem.F.slot_list_add PySem.F.entry_list_add (PySem.F.args_list_add_2 _ _) (list_addW l b its.toArray its2.toArray n n2 dd dd2 sl sl2 (by simp; omega)) ⟨ho, ho2, ?_⟩
  rw [e]
  exact ⟨.ref _, _, I.lnew (t' := s.toks) (r.append r2) (by rw [List.length_append]; omega), rfl, q _ I.fresh⟩
abbrev rAddS : R2 := fun x y H Q => ∃ i j, x = .str i ∧ y = .str j ∧ i.length + j.length ≤ sizeLine ∧ Q (.str (i ++ j)) H
theorem o_addS : Op2 X.K rAddS oAddS := fun F H x y a b d Q s ra rb e q => by
  unfold oAddS at e
  split at e
  · split at e
    · cases e; exact ⟨_, _, ra.str_inv, rb.str_inv, by assumption, now q s Rep.mk_str⟩
    · cases e
  · cases e
theorem o_addL : Op2 X.K (rCatW X.K) oAddL := fun F H x y a b d Q s ra rb e q => by
  unfold oAddL at e
  split at e
  · split at e
    · rename_i hl
      cases e
      obtain ⟨l, vs, rfl, h1, h2⟩ := ra.lst_inv
      obtain ⟨m, ws, rfl, h3, h4⟩ := rb.lst_inv
      exact ⟨l, m, vs, ws, rfl, rfl, Same.seq s h1, Same.seq s h3, by rw [← h2.length, ← h4.length]; exact hl, anew q s fun p s2 => Rep.mk_lst (.of upd_same) ((RepL.mono s2 _ _ h2).append (RepL.mono s2 _ _ h4))⟩
    · cases e
  · cases e
theorem RepL.nil_iff {K : PySem.W.Frag} {F : Hp} {ds : List D} {vs : List V} (h : RepL K F ds vs) : vs = [] ↔ ds = [] := by
  have := h.length
  constructor
  · intro e; subst e; exact List.eq_nil_of_length_eq_zero this
  · intro e; subst e; exact List.eq_nil_of_length_eq_zero this.symm
theorem o_addT : Op2 X.K (rCatA X.K) oAddT := fun F H x y a b d Q s ra rb e q => by
  unfold oAddT at e
  split at e
  · rename_i xs ys
    split at e
    · rename_i hl
      cases e
      obtain ⟨l, vs, rfl, h1, h2⟩ := ra.tup_inv
      obtain ⟨m, ws, rfl, h3, h4⟩ := rb.tup_inv
      refine ⟨l, m, vs, ws, rfl, rfl, Same.seqT s h1, Same.seqT s h3, by rw [← h2.length, ← h4.length]; exact hl, fun z => ?_, fun z1 z => ?_, fun z1 z => ?_⟩
      · have e1 := h2.nil_iff.mp z
        subst e1
        exact now q s rb
      · have e1 := h4.nil_iff.mp z
        subst e1
        rw [List.append_nil] at q
        exact now q s ra
      · exact anew q s fun p s2 => Rep.mk_tup (.of upd_same) ((RepL.mono s2 _ _ h2).append (RepL.mono s2 _ _ h4))
    · cases e
  · cases e
def oAddI : D → D → Option D := oII fun i j => some (.int (i + j))
def oAdd : D → D → Option D := fun a b => (oAddI a b).or ((oAddS a b).or ((oAddL a b).or (oAddT a b)))
abbrev rAddAll (K : PySem.W.Frag) : R2 := fun x y H Q => rI0 (fun i j => .int (i + j)) x y H Q ∨ rAddS x y H Q ∨ rCatW K x y H Q ∨ rCatA K x y H Q
theorem d_add : OpR X (binaryOp .Add) (rAddAll X.K) ∧ Op2 X.K (rAddAll X.K) oAdd :=
  ⟨op_add.or (op_add_str.or (op_catW.or op_catA)), Op2.or (op2_ii0 (f := fun i j => some (.int (i + j))) fun i j d e F => by cases e; exact Rep.mk_int) (Op2.or o_addS (Op2.or o_addL o_addT))⟩

/-! ### ==, != -/
mutual
def _root_.Dy.D.py : D → PyData
  | .non => .none
  | .bl b => .bool b
  | .int i => .int i
  | .str x => .str x
  | .tup xs => .tuple (pyL xs)
  | .lst xs => .list (pyL xs)
  | .ty _ => .none
  | .cls _ => .none
  | .dct _ _ => .none
  | .exc _ _ _ => .none
def pyL : List D → List PyData
  | [] => []
  | d :: ds => d.py :: pyL ds
end
/-- data of a depth below n -/
def okq : Nat → D → Bool
  | _, .non => true
  | _, .bl _ => true
  | _, .int _ => true
  | _, .str x => PyData.strOk x
  | n + 1, .tup xs => xs.all (okq n)
  | n + 1, .lst xs => xs.all (okq n)
  | _, _ => false
theorem okq_all {n : Nat} (ih : ∀ (d : D) {K : PySem.W.Frag} {F : Hp} (v : V), okq n d = true → Rep K F d v → Dp K F v d.py ∧ d.py.canLay0 = true ∧ d.py.depth ≤ n) : ∀ (ds : List D) {K : PySem.W.Frag} {F : Hp} (vs : List V), ds.all (okq n) = true → RepL K F ds vs → DpAll K F vs (pyL ds) ∧ PyData.canLayAll0 (pyL ds) = true ∧ PyData.depthAll (pyL ds) ≤ n
  | [], K, F, vs, _, h => by
    simp only [RepL] at h
    subst h
    exact ⟨by simp only [pyL]; exact .nil, by simp [pyL, PyData.canLayAll0], by simp [pyL, PyData.depthAll]⟩
  | d :: ds, K, F, vs, ha, h => by
    simp only [RepL] at h
    obtain ⟨v, r, rfl, h1, h2⟩ := h
    rw [List.all_cons, Bool.and_eq_true] at ha
    obtain ⟨a1, a2, a3⟩ := ih d v ha.1 h1
    obtain ⟨b1, b2, b3⟩ := okq_all ih ds r ha.2 h2
    refine ⟨by simp only [pyL]; exact .cons a1 b1, by simp [pyL, PyData.canLayAll0, a2, b2], ?_⟩
    simp only [pyL, PyData.depthAll]
    exact Nat.max_le.mpr ⟨a3, b3⟩
theorem okq_dp : ∀ (n : Nat) (d : D) {K : PySem.W.Frag} {F : Hp} (v : V), okq n d = true → Rep K F d v → Dp K F v d.py ∧ d.py.canLay0 = true ∧ d.py.depth ≤ n := by
  intro n
  induction n with
  | zero =>
    intro d K F v h r
    cases d with
    | non => rw [r.non_inv]; exact ⟨.non, by simp [D.py, PyData.canLay0], by simp [D.py, PyData.depth]⟩
    | bl b => rw [r.bl_inv]; exact ⟨.bl b, by simp [D.py, PyData.canLay0], by simp [D.py, PyData.depth]⟩
    | int b => rw [r.int_inv]; exact ⟨.int b, by simp [D.py, PyData.canLay0], by simp [D.py, PyData.depth]⟩
    | str b => rw [r.str_inv]; exact ⟨.str b, by simpa [D.py, PyData.canLay0, okq] using h, by simp [D.py, PyData.depth]⟩
    | _ => simp [okq] at h
  | succ n ih =>
    intro d K F v h r
    cases d with
    | non => rw [r.non_inv]; exact ⟨.non, by simp [D.py, PyData.canLay0], by simp [D.py, PyData.depth]⟩
    | bl b => rw [r.bl_inv]; exact ⟨.bl b, by simp [D.py, PyData.canLay0], by simp [D.py, PyData.depth]⟩
    | int b => rw [r.int_inv]; exact ⟨.int b, by simp [D.py, PyData.canLay0], by simp [D.py, PyData.depth]⟩
    | str b => rw [r.str_inv]; exact ⟨.str b, by simpa [D.py, PyData.canLay0, okq] using h, by simp [D.py, PyData.depth]⟩
    | tup xs =>
      obtain ⟨a, vs, rfl, h1, h2⟩ := r.tup_inv
      obtain ⟨c1, c2, c3⟩ := okq_all ih xs vs (by simpa [okq] using h) h2
      exact ⟨by simp only [D.py]; exact .tup h1 c1, by simpa [D.py, PyData.canLay0] using c2, by simp only [D.py, PyData.depth]; omega⟩
    | lst xs =>
      obtain ⟨a, vs, rfl, h1, h2⟩ := r.lst_inv
      obtain ⟨c1, c2, c3⟩ := okq_all ih xs vs (by simpa [okq] using h) h2
      exact ⟨by simp only [D.py]; exact .lst h1 c1, by simpa [D.py, PyData.canLay0] using c2, by simp only [D.py, PyData.depth]; omega⟩
    | _ => simp [okq] at h
theorem okq_shaped {d : D} {K : PySem.W.Frag} {F : Hp} {v : V} (h : okq 40 d = true) (r : Rep K F d v) : Dp K F v d.py ∧ SeqAt.shaped d.py = true := by
  obtain ⟨h1, h2, h3⟩ := okq_dp 40 d v h r
  refine ⟨h1, ?_⟩
  unfold SeqAt.shaped
  rw [h2, Bool.true_and]
  exact decide_eq_true (by omega)
def eqD (a b : D) : Bool := PyData.eqv a.py b.py
def oEq (a b : D) : Option D := if (okq 40 a && okq 40 b) = true then some (.bl (eqD a b)) else none
def oNe (a b : D) : Option D := if (okq 40 a && okq 40 b) = true then some (.bl (!eqD a b)) else none
theorem d_eq (hu : X.A.units + 64 < cLine) : OpR X (compareOp .Eq) (rEqD X.K) ∧ Op2 X.K (rEqD X.K) oEq := ⟨op_eqD hu, fun F H x y a b d Q s ra rb e q => by
  unfold oEq at e
  split at e
  · rename_i h
    rw [Bool.and_eq_true] at h
    cases e
    obtain ⟨h1, h2⟩ := okq_shaped h.1 (Rep.mono s _ _ ra)
    obtain ⟨h3, h4⟩ := okq_shaped h.2 (Rep.mono s _ _ rb)
    exact ⟨_, _, h1, h3, h2, h4, now q s Rep.mk_bl⟩
  · cases e⟩
theorem d_ne (hu : X.A.units + 64 < cLine) : OpR X (compareOp .NotEq) (rNeD X.K) ∧ Op2 X.K (rNeD X.K) oNe := ⟨op_neD hu, fun F H x y a b d Q s ra rb e q => by
  unfold oNe at e
  split at e
  · rename_i h
    rw [Bool.and_eq_true] at h
    cases e
    obtain ⟨h1, h2⟩ := okq_shaped h.1 (Rep.mono s _ _ ra)
    obtain ⟨h3, h4⟩ := okq_shaped h.2 (Rep.mono s _ _ rb)
    exact ⟨_, _, h1, h3, h2, h4, now q s Rep.mk_bl⟩
  · cases e⟩
/-! ### is None -/
def _root_.Dy.D.isNon : D → Bool
  | .non => true
  | _ => false
theorem Rep.non_iff {K : PySem.W.Frag} {F : Hp} {d : D} {v : V} (h : Rep K F d v) : decide (v = .non) = d.isNon := by
  cases d with
  | non => simp [h.non_inv, D.isNon]
  | bl _ => simp [h.bl_inv, D.isNon]
  | int _ => simp [h.int_inv, D.isNon]
  | str _ => simp [h.str_inv, D.isNon]
  | ty _ => simp only [Rep] at h; simp [h, D.isNon]
  | cls _ => simp only [Rep] at h; simp [h, D.isNon]
  | tup _ => obtain ⟨a, vs, e, _⟩ := h.tup_inv; simp [e, D.isNon]
  | lst _ => obtain ⟨a, vs, e, _⟩ := h.lst_inv; simp [e, D.isNon]
  | dct _ _ => simp only [Rep] at h; obtain ⟨a, vs, e, _⟩ := h; simp [e, D.isNon]
  | exc _ _ _ => simp only [Rep] at h; obtain ⟨a, dd, vs, e, _⟩ := h; simp [e, D.isNon]
def oIsN (a b : D) : Option D := match b with
  | .non => some (.bl a.isNon)
  | _ => none
def oNotN (a b : D) : Option D := match b with
  | .non => some (.bl (!a.isNon))
  | _ => none
theorem d_isN : OpR X (compareOp .Is) (fun x y H Q => y = .non ∧ Q (.bl (decide (x = .non))) H) ∧ Op2 X.K (fun x y H Q => y = .non ∧ Q (.bl (decide (x = .non))) H) oIsN := ⟨op_isN, fun F H x y a b d Q s ra rb e q => by
  unfold oIsN at e
  split at e
  · cases e
    exact ⟨rb.non_inv, by rw [ra.non_iff]; exact now q s Rep.mk_bl⟩
  · cases e⟩
theorem d_notN : OpR X (compareOp .IsNot) (fun x y H Q => y = .non ∧ Q (.bl (!decide (x = .non))) H) ∧ Op2 X.K (fun x y H Q => y = .non ∧ Q (.bl (!decide (x = .non))) H) oNotN := ⟨op_notN, fun F H x y a b d Q s ra rb e q => by
  unfold oNotN at e
  split at e
  · cases e
    exact ⟨rb.non_inv, by rw [ra.non_iff]; exact now q s Rep.mk_bl⟩
  · cases e⟩

/-! ### isinstance of built-in classes -/
def tyD : D → Option String
  | .non => some "NoneType"
  | .bl _ => some "bool"
  | .int _ => some "int"
  | .str _ => some "str"
  | .tup _ => some "tuple"
  | .lst _ => some "list"
  | .dct _ _ => some "dict"
  | _ => none
theorem tyX_of {K : PySem.W.Frag} {F H : Hp} {d : D} {v : V} {t : String} (s : Same F H) (h : Rep K F d v) (e : tyD d = some t) : TyX K H v (.type t) := by
  cases d with
  | non => cases e; rw [h.non_inv]; exact .base .non
  | bl _ => cases e; rw [h.bl_inv]; exact .base (.bl _)
  | int _ => cases e; rw [h.int_inv]; exact .base (.int _)
  | str _ => cases e; rw [h.str_inv]; exact .base (.str _)
  | tup _ =>
    cases e
    obtain ⟨a, vs, rfl, h1, _⟩ := h.tup_inv
    rcases Same.seqT s h1 with (h1 | ⟨o, h1⟩) | ⟨o, its, n, h1, h2, _⟩
    · exact .base (.tup h1)
    · exact .fTuple h1
    · exact .kTuple h1 h2
  | lst _ =>
    cases e
    obtain ⟨a, vs, rfl, h1, _⟩ := h.lst_inv
    rcases Same.seq s h1 with (h1 | ⟨o, h1⟩) | ⟨o, its, n, h1, h2, _⟩
    · exact .base (.lst h1)
    · exact .base (.frz h1)
    · exact .kList h1 h2
  | dct _ _ =>
    cases e
    simp only [Rep] at h
    obtain ⟨a, vs, rfl, h1, _⟩ := h
    exact .base (.dK (s _ _ h1))
  | ty _ => cases e
  | cls _ => cases e
  | exc _ _ _ => cases e
def oIsi : List D → Option D
  | [x, .ty c] => (tyD x).bind fun t => (kitB t c).map .bl
  | _ => none
theorem d_isi : CallR X (.builtin "isinstance") (rIsi X.K) ∧ OpN X.K (rIsi X.K) oIsi := ⟨call_isi, fun F H xs as d Q s ra e q => by
  unfold oIsi at e
  split at e
  · rename_i x c
    obtain ⟨t, e1, e2⟩ := Option.bind_eq_some_iff.mp e
    obtain ⟨b, e3, e4⟩ := Option.map_eq_some_iff.mp e2
    obtain ⟨v, w, rfl, h1, h2⟩ := ra.two
    simp only [Rep] at h2
    subst h2
    subst e4
    exact ⟨v, .ty c, .type t, .type c, b, rfl, .ty c, tyX_of s h1 e1, kit_ty e3, now q s Rep.mk_bl⟩
  · cases e⟩
theorem se_ty {W : WX} {x : Str} {n : String} {pos : Pos} (hm : X.mg x = none) (hg : Gl X x := by rfl) (hv : bootBuiltins x = some (.type n) := by decide +kernel) (hn : x ≠ "__name__" := by decide) (hd : (x == ("__debug__" : Str)) = false := by decide) : SE X W (.Name x pos) (eC (.ty n)) :=
  se_const (pe_bltn (v := V.ty n) hg hm hv rfl hn hd) fun _ _ => Rep.mk_ty

/-! ### len, items, slices -/
def oLen : List D → Option D
  | [.lst xs] => some (.int xs.length)
  | [.tup xs] => some (.int xs.length)
  | [.str z] => if z.length ≤ sizeLine then some (.int z.length) else none
  | _ => none
abbrev rLenAll (K : PySem.W.Frag) : List V → Hp → VK → Prop := fun xs H Q => (∃ p ys, xs = [.ref p] ∧ (SqL K H p ys ∨ SqT K H p ys) ∧ Q (.int ys.length) H) ∨ ∃ z, xs = [.str z] ∧ z.length ≤ sizeLine ∧ Q (.int z.length) H
theorem d_len : CallR X (.builtin "len") (rLenAll X.K) ∧ OpN X.K (rLenAll X.K) oLen := ⟨call_len_seq.or call_len_str, fun F H xs as d Q s ra e q => by
  unfold oLen at e
  split at e
  · cases e
    obtain ⟨v, rfl, h⟩ := ra.one
    obtain ⟨a, vs, rfl, h1, h2⟩ := h.lst_inv
    rw [h2.length] at q
    exact .inl ⟨a, vs, rfl, .inl (Same.seq s h1), now q s Rep.mk_int⟩
  · cases e
    obtain ⟨v, rfl, h⟩ := ra.one
    obtain ⟨a, vs, rfl, h1, h2⟩ := h.tup_inv
    rw [h2.length] at q
    exact .inl ⟨a, vs, rfl, .inr (Same.seqT s h1), now q s Rep.mk_int⟩
  · split at e
    · cases e
      obtain ⟨v, rfl, h⟩ := ra.one
      exact .inr ⟨_, by rw [h.str_inv], by assumption, now q s Rep.mk_int⟩
    · cases e
  · cases e⟩
theorem RepL.atI {K : PySem.W.Frag} {F : Hp} {ds : List D} {vs : List V} {i : Int} {d : D} (h : RepL K F ds vs) (e : L2.atI ds i = some d) : ∃ v, L2.atI vs i = some v ∧ Rep K F d v := by
  unfold L2.atI at e ⊢
  obtain ⟨j, e1, e2⟩ := Option.bind_eq_some_iff.mp e
  obtain ⟨v, e3, r⟩ := h.get e2
  exact ⟨v, by rw [← h.length, e1]; exact e3, r⟩
def oIx : D → D → Option D
  | .lst xs, .int i => L2.atI xs i
  | .tup xs, .int i => L2.atI xs i
  | .str z, .int i => if z.length ≤ sizeLine then (L2.atI z.cps.toList i).map fun c => .str ⟨#[c]⟩ else none
  | _, _ => none
theorem d_ix : IxR X (rIx X.K) ∧ Op2 X.K (rIx X.K) oIx := ⟨ix_seq, fun F H x y a b d Q s ra rb e q => by
  unfold oIx at e
  split at e
  · obtain ⟨l, vs, rfl, h1, h2⟩ := ra.lst_inv
    obtain ⟨v, e1, r⟩ := h2.atI e
    exact .inl ⟨l, vs, _, v, rfl, rb.int_inv, Same.seq s h1, e1, now q s r⟩
  · obtain ⟨l, vs, rfl, h1, h2⟩ := ra.tup_inv
    obtain ⟨v, e1, r⟩ := h2.atI e
    exact .inr (.inl ⟨l, vs, _, v, rfl, rb.int_inv, Same.seqT s h1, e1, now q s r⟩)
  · split at e
    · obtain ⟨c, e1, e2⟩ := Option.map_eq_some_iff.mp e
      subst e2
      exact .inr (.inr ⟨_, _, c, ra.str_inv, rb.int_inv, by assumption, e1, now q s Rep.mk_str⟩)
    · cases e
  · cases e⟩
/-- an end of a slice -/
abbrev SO (X : Cx) (W : WX) (o : Option Expr) (f : REnv → R (Option Int)) : Prop := PO X o (rg X.K W (fun _ (a b : Option Int) => a = b) f)
def oNo : REnv → R (Option Int) := fun _ => .ok none
def oSome (f : REnv → R D) : REnv → R (Option Int) := fun ρ => (f ρ).bind fun d => match d with
  | .int i => .ok (some i)
  | _ => .bad
theorem so_none {W : WX} : SO X W none oNo := ⟨fun pins s σ H Q I ⟨G, F, ρ, r, p⟩ => po_none.run pins s σ H Q I (p none F H (.refl r.f) rfl)⟩
theorem so_some {W : WX} {e : Expr} {f : REnv → R D} (h : SE X W e f) : SO X W (some e) (oSome f) := ⟨fun pins s σ H Q I ⟨G, F, ρ, r, p⟩ => (po_some h).run pins s σ H Q I ⟨G, F, ρ, r, Post.bind p fun d v F' H' _ ex rp p' => by
  cases d with
  | int i => exact ⟨i, rp.int_inv, p' _ F' H' (.refl ex.s) rfl⟩
  | _ => exact p'.elim⟩⟩
def cutD (xs : List D) (lo hi : Option Int) : List D := (xs.drop (HT.sIx xs.length 0 lo)).take (HT.sIx xs.length xs.length hi - HT.sIx xs.length 0 lo)
theorem RepL.cut {K : PySem.W.Frag} {F : Hp} {ds : List D} {vs : List V} {lo hi : Option Int} (h : RepL K F ds vs) : RepL K F (cutD ds lo hi) (cutV vs lo hi) := by
  unfold cutD cutV
  rw [h.length]
  exact (h.drop _).take _
def oSl : D → Option Int → Option Int → Option D
  | .lst xs, lo, hi => some (.lst (cutD xs lo hi))
  | .tup xs, lo, hi => some (.tup (cutD xs lo hi))
  | _, _, _ => none
def eSl (f : REnv → R D) (lo hi : REnv → R (Option Int)) : REnv → R D := fun ρ => (f ρ).bind fun a => (lo ρ).bind fun l => (hi ρ).bind fun h => .opt (oSl a l h)
theorem cut_whole {xs : List D} {lo hi : Option Int} (h : HT.sIx xs.length 0 lo = 0 ∧ HT.sIx xs.length xs.length hi = xs.length) : cutD xs lo hi = xs := by
  unfold cutD
  rw [h.1, h.2]
  simp
theorem se_slice {W : WX} {e : Expr} {lo hi : Option Expr} {f : REnv → R D} {fl fh : REnv → R (Option Int)} {p2 pos : Pos} (he : SE X W e f) (hl : SO X W lo fl) (hh : SO X W hi fh) : SE X W (.Subscript e (.Slice lo hi none p2) pos) (eSl f fl fh) :=
  (pe_slice (sl_list.or sl_tupA) he hl hh).dy fun σ H Q ⟨G, F, ρ, r, p⟩ => ⟨G, F, ρ, r, Post.bind p fun d v F1 H1 _ ex1 rp p1 => ⟨G, F1, ρ, r.ext ex1, Post.bind p1 fun l l' F2 H2 _ ex2 e2 p2 => ⟨G, F2, ρ, (r.ext ex1).ext ex2, Post.bind p2 fun h h' F3 H3 _ ex3 e3 p3 => by
    subst e2
    subst e3
    obtain ⟨d', e4, q⟩ := Post.opt p3
    have rp3 := Rep.mono (ex2.f.trans ex3.f) _ _ rp
    unfold oSl at e4
    split at e4
    · cases e4
      obtain ⟨a, vs, rfl, h1, h2⟩ := rp3.lst_inv
      exact .inl ⟨a, vs, rfl, Same.seq ex3.s h1, anew q ex3.s fun p s2 => Rep.mk_lst (.of upd_same) (RepL.mono s2 _ _ h2.cut)⟩
    · cases e4
      obtain ⟨a, vs, rfl, h1, h2⟩ := rp3.tup_inv
      refine .inr ⟨a, vs, rfl, Same.seqT ex3.s h1, fun z => ?_, fun z => anew q ex3.s fun p s2 => Rep.mk_tup (.of upd_same) (RepL.mono s2 _ _ h2.cut)⟩
      rw [← h2.length] at z
      rw [cut_whole z] at q
      exact now q ex3.s rp3
    · cases e4⟩⟩⟩
/-! ### list, tuple, abs, max, min, sum, int -/
def oList : List D → Option D
  | [.lst xs] => some (.lst xs)
  | [.tup xs] => some (.lst xs)
  | _ => none
theorem d_list : CallR X (.type "list") (fun xs H Q => ∃ p ys, xs = [.ref p] ∧ (SqL X.K H p ys ∨ SqT X.K H p ys) ∧ ∀ l, H l = none → Q (.ref l) (upd H l (.lst ys))) ∧
    OpN X.K (fun xs H Q => ∃ p ys, xs = [.ref p] ∧ (SqL X.K H p ys ∨ SqT X.K H p ys) ∧ ∀ l, H l = none → Q (.ref l) (upd H l (.lst ys))) oList := ⟨call_list_of, fun F H xs as d Q s ra e q => by
  unfold oList at e
  split at e
  · cases e
    obtain ⟨v, rfl, h⟩ := ra.one
    obtain ⟨a, vs, rfl, h1, h2⟩ := h.lst_inv
    exact ⟨a, vs, rfl, .inl (Same.seq s h1), anew q s fun p s2 => Rep.mk_lst (.of upd_same) (RepL.mono s2 _ _ h2)⟩
  · cases e
    obtain ⟨v, rfl, h⟩ := ra.one
    obtain ⟨a, vs, rfl, h1, h2⟩ := h.tup_inv
    exact ⟨a, vs, rfl, .inr (Same.seqT s h1), anew q s fun p s2 => Rep.mk_lst (.of upd_same) (RepL.mono s2 _ _ h2)⟩
  · cases e⟩
def oTuple : List D → Option D
  | [.lst xs] => some (.tup xs)
  | [.tup xs] => some (.tup xs)
  | _ => none
theorem d_tuple : CallR X (.type "tuple") (fun xs H Q => ∃ p ys, xs = [.ref p] ∧ ((SqL X.K H p ys ∧ ∀ l, H l = none → Q (.ref l) (upd H l (.tup ys))) ∨ (SqT X.K H p ys ∧ Q (.ref p) H))) ∧
    OpN X.K (fun xs H Q => ∃ p ys, xs = [.ref p] ∧ ((SqL X.K H p ys ∧ ∀ l, H l = none → Q (.ref l) (upd H l (.tup ys))) ∨ (SqT X.K H p ys ∧ Q (.ref p) H))) oTuple := ⟨call_tuple_of, fun F H xs as d Q s ra e q => by
  unfold oTuple at e
  split at e
  · cases e
    obtain ⟨v, rfl, h⟩ := ra.one
    obtain ⟨a, vs, rfl, h1, h2⟩ := h.lst_inv
    exact ⟨a, vs, rfl, .inl ⟨Same.seq s h1, anew q s fun p s2 => Rep.mk_tup (.of upd_same) (RepL.mono s2 _ _ h2)⟩⟩
  · cases e
    obtain ⟨v, rfl, h⟩ := ra.one
    obtain ⟨a, vs, rfl, h1, h2⟩ := h.tup_inv
    exact ⟨a, vs, rfl, .inr ⟨Same.seqT s h1, now q s (Rep.mk_tup h1 h2)⟩⟩
  · cases e⟩
def oAbs : List D → Option D
  | [.int i] => some (.int (if i < 0 then -i else i))
  | _ => none
theorem d_abs : CallR X (.builtin "abs") (fun xs H Q => ∃ i, xs = [.int i] ∧ Q (.int (if i < 0 then -i else i)) H) ∧ OpN X.K (fun xs H Q => ∃ i, xs = [.int i] ∧ Q (.int (if i < 0 then -i else i)) H) oAbs := ⟨call_abs, fun F H xs as d Q s ra e q => by
  unfold oAbs at e
  split at e
  · cases e
    obtain ⟨v, rfl, h⟩ := ra.one
    exact ⟨_, by rw [h.int_inv], now q s Rep.mk_int⟩
  · cases e⟩
def oMax2 : List D → Option D
  | [.int i, .int j] => some (.int (if j > i then j else i))
  | _ => none
def oMin2 : List D → Option D
  | [.int i, .int j] => some (.int (if j < i then j else i))
  | _ => none
theorem d_max2 (hc : X.calm = true) : CallR X (.builtin "max") (fun xs H Q => ∃ i j, xs = [.int i, .int j] ∧ Q (.int (if j > i then j else i)) H) ∧ OpN X.K (fun xs H Q => ∃ i j, xs = [.int i, .int j] ∧ Q (.int (if j > i then j else i)) H) oMax2 := ⟨call_max2 hc, fun F H xs as d Q s ra e q => by
  unfold oMax2 at e
  split at e
  · cases e
    obtain ⟨v, w, rfl, h, h2⟩ := ra.two
    exact ⟨_, _, by rw [h.int_inv, h2.int_inv], now q s Rep.mk_int⟩
  · cases e⟩
theorem d_min2 (hc : X.calm = true) : CallR X (.builtin "min") (fun xs H Q => ∃ i j, xs = [.int i, .int j] ∧ Q (.int (if j < i then j else i)) H) ∧ OpN X.K (fun xs H Q => ∃ i j, xs = [.int i, .int j] ∧ Q (.int (if j < i then j else i)) H) oMin2 := ⟨call_min2 hc, fun F H xs as d Q s ra e q => by
  unfold oMin2 at e
  split at e
  · cases e
    obtain ⟨v, w, rfl, h, h2⟩ := ra.two
    exact ⟨_, _, by rw [h.int_inv, h2.int_inv], now q s Rep.mk_int⟩
  · cases e⟩
/-- the ints of a list -/
def intsD : List D → Option (List Int)
  | [] => some []
  | .int i :: r => (intsD r).map (i :: ·)
  | _ => none
theorem intsD_rep {K : PySem.W.Frag} {F : Hp} : ∀ {ds : List D} {vs : List V} {ns : List Int}, intsD ds = some ns → RepL K F ds vs → vs = ns.map V.int
  | [], vs, ns, e, h => by
    simp only [intsD] at e
    cases e
    simpa [RepL] using h
  | d :: ds, vs, ns, e, h => by
    simp only [RepL] at h
    obtain ⟨v, r, rfl, h1, h2⟩ := h
    cases d with
    | int i =>
      simp only [intsD] at e
      obtain ⟨ms, e1, rfl⟩ := Option.map_eq_some_iff.mp e
      rw [h1.int_inv, intsD_rep e1 h2]
      rfl
    | _ => simp [intsD] at e
theorem intsD_map (ns : List Int) : intsD (ns.map .int) = some ns := by
  induction ns with
  | nil => rfl
  | cons n r ih => simp [intsD, ih]
def oSum : List D → Option D
  | [.lst xs] => (intsD xs).map fun ns => .int ns.sum
  | _ => none
def oInt : List D → Option D
  | [.int i] => some (.int i)
  | [.bl k] => some (.int (if k then 1 else 0))
  | _ => none
theorem d_int : CallR X (.type "int") (fun xs H Q => (∃ i, xs = [.int i] ∧ Q (.int i) H) ∨ ∃ k, xs = [.bl k] ∧ Q (.int (if k then 1 else 0)) H) ∧ OpN X.K (fun xs H Q => (∃ i, xs = [.int i] ∧ Q (.int i) H) ∨ ∃ k, xs = [.bl k] ∧ Q (.int (if k then 1 else 0)) H) oInt := ⟨call_int1, fun F H xs as d Q s ra e q => by
  unfold oInt at e
  split at e
  · cases e
    obtain ⟨v, rfl, h⟩ := ra.one
    exact .inl ⟨_, by rw [h.int_inv], now q s Rep.mk_int⟩
  · cases e
    obtain ⟨v, rfl, h⟩ := ra.one
    exact .inr ⟨_, by rw [h.bl_inv], now q s Rep.mk_int⟩
  · cases e⟩
end
end Dy

set_option Elab.async false
set_option linter.all false
set_option maxRecDepth 100000
namespace Dy
open PySem PySem.Spec PyProof.Rows L2

/-! ### a def of the text, for its callers -/
structure Cal (P : Program) (w : World) (K : PySem.W.Frag) (mg : Str → Option Value) (base : Heap) (x : Str) (k n : Nat) (fn : List D → R D) : Prop where
  ex : ∃ (f : Addr) (fd : FuncData) (ps : List Str), FnOk P w K mg base (L2.CX P w) k f fd ps (spD K n fn) ∧ mg x = some (.ref f) ∧ PySem.W.keepIn K (.ref f) = true ∧ Binds K fd ps []
  len : ∀ ds, ds.length ≠ n → fn ds = .bad
section
variable {P : Program} {w : World} {K : PySem.W.Frag} {mg : Str → Option Value} {base : Heap} {x : Str} {params : Arguments} {body : List Stmt} {scope : Scope} {f : Addr} {fd : FuncData} {N ps : List Str} {k n : Nat} {g : REnv → SR}
theorem cal_mk (Fn : FunD K x x params body scope [] [] f fd) (hm : mg x = some (.ref f))
    (hb : ∀ (kV doc pm : Value) (an : Option Addr) (cdv ct : Value) (us : List Value), us.length = ps.length → bindArgs (PySem.W.fnOf x x params body scope .none kV doc pm an cdv ct) ⟨us, []⟩ = pure (ps.zip us))
    (ok : FnOk P w K mg base (L2.CX P w) k f fd ps (spD K n (fnD n N.length g))) : Cal P w K mg base x k n (fnD n N.length g) :=
  ⟨⟨f, fd, ps, ok, hm, Fn.kp, Fn.bindsN hb⟩, fun ds h => fnD_len h⟩
end
section
variable {X : Cx} {W : WX} {e : Expr} {es : List Expr} {x : Str} {p pos : Pos} {k n : Nat} {t : REnv → R (List D)} {fn : List D → R D}
theorem se_callC (C : Cal X.prog X.w X.K X.mg X.base x k n fn) (tk : Takes X W) (hr : Room k X.A)
    (ha : SA X W (e :: es) t) (hg : Gl X x := by rfl) (hdb : (x == ("__debug__" : Str)) = false := by decide) (he : starEach (e :: es) X.env = (false, eval e X.env) :: starEach es X.env := by rfl) (hpl : (backTo pos (starEach es X.env)).any (·.1) = false := by rfl) :
    SE X W (.Call (.Name x p) (e :: es) [] pos) (eCall fn t) := by
  obtain ⟨f, fd, ps, Fo, hm, hk, hb⟩ := C.ex
  exact se_call Fo C.len tk hr hm hk hb ha hg hdb he hpl
/-- {} -/
def eDct0 : REnv → R D := fun _ => .ok (.dct [] [])
end

/-! ### built-ins that the module has not bound -/
def Blts (mg : Str → Option Value) (l : List Str) : Prop := ∀ (i : Nat) (x : Str), l[i]? = some x → mg x = none
theorem Blts.at {mg : Str → Option Value} {l : List Str} (B : Blts mg l) (i : Nat) {x : Str} (h : l[i]? = some x := by rfl) : mg x = none := B i x h

/-! ### the end -/
theorem walk_ofW {l : PySem.W.OpenLaw} {n k : Nat} {q : Program} {loose : List Str} {XP : (Str → Option Value) → Heap → Prop} {YP : World → Heap → Prop} {d : DefRec} {CX : World → CXT} {x : Str}
    (hn : l.most = some n) (hn2 : n ≤ sizeLine) (hdf : d.params.defaults = []) (hr : Room k callerA)
    (F : ∀ (w : World) (mg : Str → Option Value) (fa : Addr) (h : Heap), YP w h → h.Ns mainGlobals mg → mg d.name = some (.ref fa) →
      ∃ (K : PySem.W.Frag) (fd : FuncData) (sp : Sp), K.In h ∧ (∀ (s : Shared) (u : Value), BindsTo s fd ⟨[u], []⟩ [(x, u)]) ∧
        (∀ (H : Hp) (a : Addr) (ns : List Int), ns.length ≤ n → Only H → SqL K H a (ns.map V.int) → sp [.ref a] H (fun v _ => v = .bl true) fun _ _ _ => False) ∧
        ∀ base : Heap, K.In base → base.Ns mainGlobals mg → FnOk l.prog w K mg base (CX w) k fa fd [x] sp)
    (hCX : ∀ (w : World) (H : Hp) (s : Shared) (e : Value) (s' : Shared), CX w [] H s (fun _ _ _ => False) e s' → False) :
    PySem.W.WalkO q loose XP YP l.row.toRowW d [] (fun f vs => PySem.call f vs) := by
  refine Att.attach_call hn hdf fun w s₀ s₁ mg mb fa o pm cd doc a vs ns G Y ho hd hcd hmg hobj hints hlen hg => ?_
  obtain ⟨K, fd, sp, KX, hb, hsp, hF⟩ := F w mg fa _ Y G.T.g hmg
  exact law_call KX G.T.g G.T.b G.T.builtins G.T.nolimit hg hobj hints (Nat.le_trans hlen hn2) hr hF hb (fun H hO hS => hsp H a ns hlen hO hS) fun H e s' => hCX w H s₁ e s'
theorem cx_false {P : Program} {w : World} {H : Hp} {s : Shared} {e : Value} {s' : Shared} : L2.CX P w [] H s (fun _ _ _ => False) e s' → False := fun h => by
  obtain ⟨_, _, _, _, _, _, _, _, _, _, _, _, z⟩ := h
  exact z
theorem repL_ints {K : PySem.W.Frag} {F : Hp} : ∀ ns : List Int, RepL K F (ns.map .int) (ns.map V.int)
  | [] => RepL.nil
  | n :: r => RepL.cons Rep.mk_int (repL_ints r)
theorem law_sp {K : PySem.W.Frag} {fn : List D → R D} {ns : List Int} {H : Hp} {a : Addr} (hS : SqL K H a (ns.map V.int)) (h : fn [.lst (ns.map .int)] = .ok (.bl true)) : spD K 1 fn [.ref a] H (fun v _ => v = .bl true) fun _ _ _ => False := by
  refine ⟨rfl, H, [.lst (ns.map .int)], .refl _, RepL.cons (Rep.mk_lst hS (repL_ints ns)) RepL.nil, ?_⟩
  rw [h]
  exact fun v F' H' _ r => r.bl_inv
end Dy

set_option Elab.async false
set_option linter.all false
set_option maxRecDepth 100000
/-! What a def's meaning comes to, step by step: weakest conditions over plain data. -/
namespace Dy
open PySem PySem.Spec PyProof.Rows L2

def R.wp {α : Type} (x : R α) (P : α → Prop) (E : D → Prop) : Prop := match x with
  | .ok a => P a
  | .err e => E e
  | .bad => False
def SR.wp (x : SR) (N : REnv → Prop) (T : D → Prop) (E : D → REnv → Prop) : Prop := match x with
  | .next ρ => N ρ
  | .ret d => T d
  | .err e ρ => E e ρ
  | .bad => False
abbrev NoE : D → Prop := fun _ => False
/-- marks, so that a step is known by its head -/
def Got {α : Type} (o : Option α) (P : α → Prop) : Prop := ∃ a, o = some a ∧ P a
def HasB (d : D) (P : Bool → Prop) : Prop := ∃ b, d = .bl b ∧ P b
def HasI (d : D) (P : Int → Prop) : Prop := ∃ i, d = .int i ∧ P i
def Has2 (ds : List D) (P : D → D → Prop) : Prop := ∃ a b, ds = [a, b] ∧ P a b
def Fork (k : Bool) (A B : Prop) : Prop := (k = true → A) ∧ (k = false → B)
def Fits (n : Nat) (A : Prop) : Prop := n ≤ sizeLine ∧ A
def Grows (n : Nat) (A : Prop) : Prop := n < sizeLine ∧ A
theorem R.wp.imp {α : Type} {x : R α} {P P' : α → Prop} {E E' : D → Prop} (h : x.wp P E) (f : ∀ a, P a → P' a) (g : ∀ e, E e → E' e) : x.wp P' E' := by
  cases x with
  | ok a => exact f a h
  | err e => exact g e h
  | bad => exact h
theorem R.wp.post {α : Type} {x : R α} {P P' : α → Prop} {E : D → Prop} (h : x.wp P E) (f : ∀ a, P a → P' a) : x.wp P' E := h.imp f fun _ z => z
theorem R.wp.no {α : Type} {x : R α} {P P' : α → Prop} {E : D → Prop} (h : x.wp P NoE) (f : ∀ a, P a → P' a) : x.wp P' E := h.imp f fun _ z => z.elim
theorem R.wp.ok {α : Type} {x : R α} {P : α → Prop} (h : x.wp P NoE) : ∃ a, x = .ok a ∧ P a := by
  cases x with
  | ok a => exact ⟨a, rfl, h⟩
  | err e => exact h.elim
  | bad => exact h.elim
theorem wp_bind {α β : Type} {x : R α} {k : α → R β} {P : β → Prop} {E : D → Prop} (h : x.wp (fun a => (k a).wp P E) E) : (x.bind k).wp P E := by
  cases x with
  | ok a => exact h
  | err e => exact h
  | bad => exact h
theorem wp_toS {α : Type} {x : R α} {ρ : REnv} {k : α → SR} {N : REnv → Prop} {T : D → Prop} {E : D → REnv → Prop} (h : x.wp (fun a => (k a).wp N T E) (fun e => E e ρ)) : (x.toS ρ k).wp N T E := by
  cases x with
  | ok a => exact h
  | err e => exact h
  | bad => exact h
theorem wp_opt {α : Type} {x : Option α} {P : α → Prop} {E : D → Prop} (h : Got x P) : (R.opt x).wp P E := by
  obtain ⟨a, rfl, h⟩ := h
  exact h
section
variable {ρ : REnv} {P : D → Prop} {PB : Bool → Prop} {PA : List D → Prop} {E : D → Prop} {f g h : REnv → R D} {u v : REnv → R Bool} {t : REnv → R (List D)} {d : D}
theorem wp_var {i : Nat} (e : ρ[i]? = some (.val d)) (h : P d) : (eVar i ρ).wp P E := by
  unfold eVar; rw [e]; exact h
theorem wp_c (h : P d) : (eC d ρ).wp P E := h
theorem wp_bin {o : D → D → Option D} (h : (f ρ).wp (fun a => (g ρ).wp (fun b => Got (o a b) P) E) E) : (eBin o f g ρ).wp P E :=
  wp_bind (h.post fun _ h1 => wp_bind (h1.post fun _ h2 => wp_opt h2))
theorem wp_un {o : D → Option D} (h : (f ρ).wp (fun a => Got (o a) P) E) : (eUn o f ρ).wp P E := wp_bind (h.post fun _ h2 => wp_opt h2)
theorem wp_n {o : List D → Option D} (h : (t ρ).wp (fun a => Got (o a) P) E) : (eN o t ρ).wp P E := wp_bind (h.post fun _ h2 => wp_opt h2)
theorem wp_nil (h : PA []) : (aNil ρ).wp PA E := h
theorem wp_cons (h : (f ρ).wp (fun a => (t ρ).wp (fun r => PA (a :: r)) E) E) : (aCons f t ρ).wp PA E := wp_bind (h.post fun _ h1 => wp_bind h1)
theorem wp_tup (h : (t ρ).wp (fun ds => Fits ds.length (P (.tup ds))) E) : (eTup t ρ).wp P E := wp_bind (h.post fun ds h1 => by rw [if_pos h1.1]; exact h1.2)
theorem wp_lst (h : (t ρ).wp (fun ds => Fits ds.length (P (.lst ds))) E) : (eLst t ρ).wp P E := wp_bind (h.post fun ds h1 => by rw [if_pos h1.1]; exact h1.2)
theorem wp_call {fn : List D → R D} (h : (t ρ).wp (fun ds => (fn ds).wp P E) E) : (eCall fn t ρ).wp P E := wp_bind h
theorem wp_test (h : (f ρ).wp (fun d => HasB d PB) E) : (eTest f ρ).wp PB E := wp_bind (h.post fun d ⟨b, e, q⟩ => by subst e; exact q)
theorem wp_and (h : (u ρ).wp (fun k => Fork k ((v ρ).wp PB E) (PB false)) E) : (eAnd u v ρ).wp PB E := wp_bind (h.post fun k ⟨h1, h2⟩ => by
  cases k with
  | true => exact h1 rfl
  | false => exact h2 rfl)
theorem wp_or (h : (u ρ).wp (fun k => Fork k (PB true) ((v ρ).wp PB E)) E) : (eOr u v ρ).wp PB E := wp_bind (h.post fun k ⟨h1, h2⟩ => by
  cases k with
  | true => exact h1 rfl
  | false => exact h2 rfl)
theorem wp_not (h : (u ρ).wp (fun k => PB (!k)) E) : (eNot u ρ).wp PB E := wp_bind h
theorem wp_andV (h : (f ρ).wp (fun d => HasB d fun k => Fork k ((g ρ).wp P E) (P (.bl false))) E) : (eAndV f g ρ).wp P E := wp_bind (h.post fun d ⟨k, e, h1, h2⟩ => by
  subst e
  cases k with
  | true => exact h1 rfl
  | false => exact h2 rfl)
theorem wp_orV (h : (f ρ).wp (fun d => HasB d fun k => Fork k (P (.bl true)) ((g ρ).wp P E)) E) : (eOrV f g ρ).wp P E := wp_bind (h.post fun d ⟨k, e, h1, h2⟩ => by
  subst e
  cases k with
  | true => exact h1 rfl
  | false => exact h2 rfl)
theorem wp_notV (h : (f ρ).wp (fun d => HasB d fun k => P (.bl (!k))) E) : (eNotV f ρ).wp P E := wp_bind (h.post fun d ⟨k, e, h1⟩ => by subst e; exact h1)
theorem wp_chain {o o' : D → D → Option D} (hh : (f ρ).wp (fun a => (g ρ).wp (fun b => Got (o a b) fun z => HasB z fun k => Fork k ((h ρ).wp (fun c => Got (o' b c) P) E) (P (.bl false))) E) E) : (eChain o o' f g h ρ).wp P E :=
  wp_bind (hh.post fun a h1 => wp_bind (h1.post fun b ⟨z, e, k, ez, h2, h3⟩ => by
    subst ez
    rw [e]
    show (goOn _ (.bl k)).wp P E
    cases k with
    | true => exact wp_bind ((h2 rfl).post fun c q => wp_opt q)
    | false => exact h3 rfl))
theorem wp_dct0 (h : P (.dct [] [])) : (eDct0 ρ).wp P E := h
theorem wp_sl {lo hi : REnv → R (Option Int)} (h : (f ρ).wp (fun a => (lo ρ).wp (fun l => (hi ρ).wp (fun r => Got (oSl a l r) P) E) E) E) : (eSl f lo hi ρ).wp P E :=
  wp_bind (h.post fun a h1 => wp_bind (h1.post fun l h2 => wp_bind (h2.post fun r h3 => wp_opt h3)))
theorem wp_no {PO : Option Int → Prop} (h : PO none) : (oNo ρ).wp PO E := h
theorem wp_some {PO : Option Int → Prop} (h : (f ρ).wp (fun d => HasI d fun i => PO (some i)) E) : (oSome f ρ).wp PO E := wp_bind (h.post fun d ⟨i, e, q⟩ => by subst e; exact q)
theorem wp_iD (h : (f ρ).wp (fun d => Got (iterD d) PA) E) : (iD f ρ).wp PA E := wp_bind (h.post fun _ q => wp_opt q)
theorem wp_iArgs {o : List D → Option (List D)} (h : (t ρ).wp (fun d => Got (o d) PA) E) : (iArgs o t ρ).wp PA E := wp_bind (h.post fun _ q => wp_opt q)
theorem wp_comp {vs : List Nat} {fi : REnv → R (List D)} {b : D → REnv → Option REnv} {c : REnv → R Bool} {e : REnv → R D} (h : (fi ρ).wp (fun ds => Fits ds.length (Got (compS b c e ds (wipeE ρ vs)) fun rs => P (.lst rs))) E) : (eComp vs fi b c e ρ).wp P E :=
  wp_bind (h.post fun ds ⟨h1, rs, h2, h3⟩ => by rw [if_pos h1, h2]; exact h3)
end
section
variable {ρ : REnv} {N : REnv → Prop} {T : D → Prop} {E : D → REnv → Prop} {g h : REnv → SR} {f : REnv → R D} {u : REnv → R Bool} {t : REnv → R (List D)}
theorem SR.wp.imp {x : SR} {N N' : REnv → Prop} {T T' : D → Prop} {E E' : D → REnv → Prop} (h : x.wp N T E) (f : ∀ a, N a → N' a) (g : ∀ a, T a → T' a) (k : ∀ e r, E e r → E' e r) : x.wp N' T' E' := by
  cases x with
  | next a => exact f a h
  | ret a => exact g a h
  | err e r => exact k e r h
  | bad => exact h
theorem sp_seq (hh : (g ρ).wp (fun ρ' => (h ρ').wp N T E) T E) : (sSeq g h ρ).wp N T E := by
  unfold sSeq SR.seq
  cases e : g ρ with
  | next a => rw [e] at hh; exact hh
  | ret a => rw [e] at hh; exact hh
  | err a r => rw [e] at hh; exact hh
  | bad => rw [e] at hh; exact hh
theorem sp_skip (h : N ρ) : (sSkip ρ).wp N T E := h
theorem sp_ret (h : (f ρ).wp T (fun e => E e ρ)) : (sRet f ρ).wp N T E := wp_toS h
theorem sp_set {i : Nat} (h : (f ρ).wp (fun d => N (ρ.set i (.val d))) (fun e => E e ρ)) : (sSet i f ρ).wp N T E := wp_toS h
theorem sp_expr (h : (f ρ).wp (fun _ => N ρ) (fun e => E e ρ)) : (sExpr f ρ).wp N T E := wp_toS h
theorem sp_if (hh : (u ρ).wp (fun b => Fork b ((g ρ).wp N T E) ((h ρ).wp N T E)) (fun e => E e ρ)) : (sIf u g h ρ).wp N T E := wp_toS (hh.post fun b ⟨h1, h2⟩ => by
  cases b with
  | true => exact h1 rfl
  | false => exact h2 rfl)
theorem sp_par {i j : Nat} (h : (t ρ).wp (fun ds => Has2 ds fun a b => N ((ρ.set i (.val a)).set j (.val b))) (fun e => E e ρ)) : (sPar i j t ρ).wp N T E := wp_toS (h.post fun ds ⟨a, b, e, q⟩ => by subst e; exact q)
theorem sp_asg {b : D → REnv → Option REnv} (h : (f ρ).wp (fun d => Got (b d ρ) N) (fun e => E e ρ)) : (sAsg f b ρ).wp N T E := wp_toS (h.post fun d ⟨r, e, q⟩ => by rw [e]; exact q)
theorem sp_own {i : Nat} (h : (t ρ).wp (fun ds => Fits ds.length (N (ρ.set i (.own ds)))) (fun e => E e ρ)) : (sOwn i t ρ).wp N T E := wp_toS (h.post fun ds ⟨h1, h2⟩ => by rw [if_pos h1]; exact h2)
theorem sp_app {i : Nat} {ds : List D} (e : ρ[i]? = some (.own ds)) (h : (f ρ).wp (fun d => Grows ds.length (N (ρ.set i (.own (ds ++ [d]))))) (fun e => E e ρ)) : (sApp i f ρ).wp N T E := by
  unfold sApp
  rw [e]
  exact wp_toS (h.post fun d ⟨h1, h2⟩ => by rw [if_pos h1]; exact h2)
theorem sp_for {fi : REnv → R (List D)} {b : D → REnv → Option REnv} (h : (fi ρ).wp (fun ds => (forS b g ds ρ).wp N T E) (fun e => E e ρ)) : (sFor fi b g ρ).wp N T E := wp_toS h
theorem forS_inv {b : D → REnv → Option REnv} {ds : List D} (I : Nat → REnv → Prop) (h0 : I 0 ρ) (hs : ∀ i d ρ, ds[i]? = some d → I i ρ → Got (b d ρ) fun ρ' => (g ρ').wp (I (i + 1)) T E) (hd : ∀ ρ, I ds.length ρ → N ρ) : (forS b g ds ρ).wp N T E := by
  have key : ∀ (n i : Nat) (ρ : REnv), n + i = ds.length → I i ρ → (forS b g (ds.drop i) ρ).wp N T E := by
    intro n
    induction n with
    | zero =>
      intro i ρ e q
      have e2 : i = ds.length := by omega
      subst e2
      rw [List.drop_length]
      exact hd ρ q
    | succ n ih =>
      intro i ρ e q
      have hi : i < ds.length := by omega
      rw [List.drop_eq_getElem_cons hi]
      obtain ⟨ρ', e1, h1⟩ := hs i ds[i] ρ (List.getElem?_eq_getElem hi) q
      unfold forS
      rw [e1]
      show ((g ρ').seq (forS b g (ds.drop (i + 1)))).wp N T E
      exact sp_seq (g := g) (h := forS b g (ds.drop (i + 1))) (h1.imp (fun a qa => ih (i + 1) a (by omega) qa) (fun _ z => z) fun _ _ z => z)
  have := key ds.length 0 ρ (by simp) h0
  simpa using this
theorem wp_fn {n m : Nat} {ds : List D} {P : D → Prop} {E : D → Prop} (hl : ds.length = n) (h : (g (ds.map .val ++ List.replicate (m - n) .un)).wp (fun _ => P .non) P (fun e _ => E e)) : (fnD n m g ds).wp P E := by
  unfold fnD
  rw [if_pos hl]
  cases e : g (ds.map .val ++ List.replicate (m - n) .un) with
  | next a => rw [e] at h; exact h
  | ret a => rw [e] at h; exact h
  | err a r => rw [e] at h; exact h
  | bad => rw [e] at h; exact h.elim
end
theorem law_of_wp {x : R D} (h : x.wp (fun d => d = .bl true) NoE) : x = .ok (.bl true) := by
  obtain ⟨a, e, rfl⟩ := h.ok
  exact e

/-! ### operations on data of known make -/
section
variable {P : D → Prop} {i j : Int} {xs ys : List D} {a b d : D}
theorem w_addI (h : P (.int (i + j))) : Got (oAdd (.int i) (.int j)) P := ⟨_, rfl, h⟩
theorem w_addL (hl : xs.length + ys.length ≤ sizeLine) (h : P (.lst (xs ++ ys))) : Got (oAdd (.lst xs) (.lst ys)) P := ⟨.lst (xs ++ ys), by simp only [oAdd, oAddI, oII, oAddS, oAddL, if_pos hl]; rfl, h⟩
theorem w_addT (hl : xs.length + ys.length ≤ sizeLine) (h : P (.tup (xs ++ ys))) : Got (oAdd (.tup xs) (.tup ys)) P := ⟨.tup (xs ++ ys), by simp only [oAdd, oAddI, oII, oAddS, oAddL, oAddT, if_pos hl]; rfl, h⟩
theorem w_sub (h : P (.int (i - j))) : Got (oSub (.int i) (.int j)) P := ⟨_, rfl, h⟩
theorem w_mul (hm : MuOk i j) (h : P (.int (i * j))) : Got (oMul (.int i) (.int j)) P := ⟨_, by simp only [oMul, oII, if_pos hm], h⟩
theorem w_mod (hj : 0 < j) (h : P (.int (i % j))) : Got (oMod (.int i) (.int j)) P := ⟨.int (i.fmod j), by simp only [oMod, oII, if_pos (show j ≠ 0 by omega)], by rw [Int.fmod_eq_emod_of_nonneg i (by omega)]; exact h⟩
theorem w_div (hj : 0 < j) (hl : j.natAbs.log2 < 9000) (h : P (.int (i / j))) : Got (oDiv (.int i) (.int j)) P := ⟨.int (i.fdiv j), by simp only [oDiv, oII, if_pos (show DivOk j from ⟨by omega, hl⟩)], by rw [Int.fdiv_eq_ediv_of_nonneg i (by omega)]; exact h⟩
theorem w_pow (hc : 0 ≤ j ∧ j ≤ 1000000 ∧ i.natAbs < 2 ^ 64) (h : P (.int (i ^ j.toNat))) : Got (oPow (.int i) (.int j)) P := ⟨_, by simp only [oPow, oII, if_pos hc], h⟩
theorem w_lt (h : P (.bl (decide (i < j)))) : Got (oLt (.int i) (.int j)) P := ⟨_, rfl, h⟩
theorem w_le (h : P (.bl (decide (i ≤ j)))) : Got (oLe (.int i) (.int j)) P := ⟨_, rfl, h⟩
theorem w_gt (h : P (.bl (decide (j < i)))) : Got (oGt (.int i) (.int j)) P := ⟨_, rfl, h⟩
theorem w_ge (h : P (.bl (decide (j ≤ i)))) : Got (oGe (.int i) (.int j)) P := ⟨_, rfl, h⟩
theorem w_neg (h : P (.int (-i))) : Got (oNeg (.int i)) P := ⟨_, rfl, h⟩
theorem eqD_int : eqD (.int i) (.int j) = decide (i = j) := by
  simp only [eqD, D.py, PyData.eqv]
  by_cases h : i = j <;> simp [h]
theorem w_eqI (h : P (.bl (decide (i = j)))) : Got (oEq (.int i) (.int j)) P := ⟨.bl (eqD (.int i) (.int j)), by simp [oEq, okq], by rw [eqD_int]; exact h⟩
theorem w_neI (h : P (.bl (!decide (i = j)))) : Got (oNe (.int i) (.int j)) P := ⟨.bl (!eqD (.int i) (.int j)), by simp [oNe, okq], by rw [eqD_int]; exact h⟩
theorem w_eq (ha : okq 40 a = true) (hb : okq 40 b = true) (h : P (.bl (eqD a b))) : Got (oEq a b) P := ⟨_, by simp only [oEq, ha, hb, Bool.and_self, if_true], h⟩
theorem w_ne (ha : okq 40 a = true) (hb : okq 40 b = true) (h : P (.bl (!eqD a b))) : Got (oNe a b) P := ⟨_, by simp only [oNe, ha, hb, Bool.and_self, if_true], h⟩
theorem w_isN (h : P (.bl a.isNon)) : Got (oIsN a .non) P := ⟨_, rfl, h⟩
theorem w_notN (h : P (.bl (!a.isNon))) : Got (oNotN a .non) P := ⟨_, rfl, h⟩
theorem w_lenL (h : P (.int xs.length)) : Got (oLen [.lst xs]) P := ⟨_, rfl, h⟩
theorem w_lenT (h : P (.int xs.length)) : Got (oLen [.tup xs]) P := ⟨_, rfl, h⟩
theorem w_ixL (e : L2.atI xs i = some d) (h : P d) : Got (oIx (.lst xs) (.int i)) P := ⟨d, e, h⟩
theorem w_ixT (e : L2.atI xs i = some d) (h : P d) : Got (oIx (.tup xs) (.int i)) P := ⟨d, e, h⟩
theorem w_max2 (h : P (.int (if j > i then j else i))) : Got (oMax2 [.int i, .int j]) P := ⟨_, rfl, h⟩
theorem w_min2 (h : P (.int (if j < i then j else i))) : Got (oMin2 [.int i, .int j]) P := ⟨_, rfl, h⟩
theorem w_abs (h : P (.int (if i < 0 then -i else i))) : Got (oAbs [.int i]) P := ⟨_, rfl, h⟩
theorem w_listL (h : P (.lst xs)) : Got (oList [.lst xs]) P := ⟨_, rfl, h⟩
theorem w_listT (h : P (.lst xs)) : Got (oList [.tup xs]) P := ⟨_, rfl, h⟩
theorem w_tupleL (h : P (.tup xs)) : Got (oTuple [.lst xs]) P := ⟨_, rfl, h⟩
theorem w_tupleT (h : P (.tup xs)) : Got (oTuple [.tup xs]) P := ⟨_, rfl, h⟩
theorem w_sum {ns : List Int} (e : intsD xs = some ns) (h : P (.int ns.sum)) : Got (oSum [.lst xs]) P := ⟨.int ns.sum, by simp only [oSum, e]; rfl, h⟩
theorem kit_ib : kitB "int" "bool" = some false := by decide +kernel
theorem kit_ii : kitB "int" "int" = some true := by decide +kernel
theorem kit_it : kitB "int" "tuple" = some false := by decide +kernel
theorem kit_il : kitB "int" "list" = some false := by decide +kernel
theorem kit_is : kitB "int" "str" = some false := by decide +kernel
theorem kit_bb : kitB "bool" "bool" = some true := by decide +kernel
theorem kit_bi : kitB "bool" "int" = some true := by decide +kernel
theorem kit_bt : kitB "bool" "tuple" = some false := by decide +kernel
theorem kit_bl : kitB "bool" "list" = some false := by decide +kernel
theorem kit_bs : kitB "bool" "str" = some false := by decide +kernel
theorem kit_tt : kitB "tuple" "tuple" = some true := by decide +kernel
theorem kit_tb : kitB "tuple" "bool" = some false := by decide +kernel
theorem kit_ti : kitB "tuple" "int" = some false := by decide +kernel
theorem kit_tl : kitB "tuple" "list" = some false := by decide +kernel
theorem kit_ts : kitB "tuple" "str" = some false := by decide +kernel
theorem kit_ll : kitB "list" "list" = some true := by decide +kernel
theorem kit_lb : kitB "list" "bool" = some false := by decide +kernel
theorem kit_li : kitB "list" "int" = some false := by decide +kernel
theorem kit_lt : kitB "list" "tuple" = some false := by decide +kernel
theorem kit_ls : kitB "list" "str" = some false := by decide +kernel
theorem kit_ss : kitB "str" "str" = some true := by decide +kernel
theorem kit_sb : kitB "str" "bool" = some false := by decide +kernel
theorem kit_si : kitB "str" "int" = some false := by decide +kernel
theorem kit_st : kitB "str" "tuple" = some false := by decide +kernel
theorem kit_sl : kitB "str" "list" = some false := by decide +kernel
theorem kit_nb : kitB "NoneType" "bool" = some false := by decide +kernel
theorem kit_ni : kitB "NoneType" "int" = some false := by decide +kernel
theorem kit_nt : kitB "NoneType" "tuple" = some false := by decide +kernel
theorem kit_nl : kitB "NoneType" "list" = some false := by decide +kernel
theorem kit_ds : kitB "dict" "str" = some false := by decide +kernel
theorem kit_db : kitB "dict" "bool" = some false := by decide +kernel
theorem kit_di : kitB "dict" "int" = some false := by decide +kernel
theorem kit_dt : kitB "dict" "tuple" = some false := by decide +kernel
theorem kit_dl : kitB "dict" "list" = some false := by decide +kernel
def kitT (d : D) (c : String) : Option Bool := (tyD d).bind fun t => kitB t c
theorem kit_id : kitB "int" "dict" = some false := by decide +kernel
theorem kit_bd : kitB "bool" "dict" = some false := by decide +kernel
theorem kit_td : kitB "tuple" "dict" = some false := by decide +kernel
theorem kit_ld : kitB "list" "dict" = some false := by decide +kernel
theorem kit_sd : kitB "str" "dict" = some false := by decide +kernel
theorem kit_ns : kitB "NoneType" "str" = some false := by decide +kernel
theorem kit_nd : kitB "NoneType" "dict" = some false := by decide +kernel
theorem kit_dd : kitB "dict" "dict" = some true := by decide +kernel
theorem kt_ib {i : Int} : kitT (.int i) "bool" = some false := by show kitB "int" "bool" = _; exact kit_ib
theorem kt_ii {i : Int} : kitT (.int i) "int" = some true := by show kitB "int" "int" = _; exact kit_ii
theorem kt_it {i : Int} : kitT (.int i) "tuple" = some false := by show kitB "int" "tuple" = _; exact kit_it
theorem kt_il {i : Int} : kitT (.int i) "list" = some false := by show kitB "int" "list" = _; exact kit_il
theorem kt_is {i : Int} : kitT (.int i) "str" = some false := by show kitB "int" "str" = _; exact kit_is
theorem kt_id {i : Int} : kitT (.int i) "dict" = some false := by show kitB "int" "dict" = _; exact kit_id
theorem kt_bb {b : Bool} : kitT (.bl b) "bool" = some true := by show kitB "bool" "bool" = _; exact kit_bb
theorem kt_bi {b : Bool} : kitT (.bl b) "int" = some true := by show kitB "bool" "int" = _; exact kit_bi
theorem kt_bt {b : Bool} : kitT (.bl b) "tuple" = some false := by show kitB "bool" "tuple" = _; exact kit_bt
theorem kt_bl {b : Bool} : kitT (.bl b) "list" = some false := by show kitB "bool" "list" = _; exact kit_bl
theorem kt_bs {b : Bool} : kitT (.bl b) "str" = some false := by show kitB "bool" "str" = _; exact kit_bs
theorem kt_bd {b : Bool} : kitT (.bl b) "dict" = some false := by show kitB "bool" "dict" = _; exact kit_bd
theorem kt_tb {xs : List D} : kitT (.tup xs) "bool" = some false := by show kitB "tuple" "bool" = _; exact kit_tb
theorem kt_ti {xs : List D} : kitT (.tup xs) "int" = some false := by show kitB "tuple" "int" = _; exact kit_ti
theorem kt_tt {xs : List D} : kitT (.tup xs) "tuple" = some true := by show kitB "tuple" "tuple" = _; exact kit_tt
theorem kt_tl {xs : List D} : kitT (.tup xs) "list" = some false := by show kitB "tuple" "list" = _; exact kit_tl
theorem kt_ts {xs : List D} : kitT (.tup xs) "str" = some false := by show kitB "tuple" "str" = _; exact kit_ts
theorem kt_td {xs : List D} : kitT (.tup xs) "dict" = some false := by show kitB "tuple" "dict" = _; exact kit_td
theorem kt_lb {xs : List D} : kitT (.lst xs) "bool" = some false := by show kitB "list" "bool" = _; exact kit_lb
theorem kt_li {xs : List D} : kitT (.lst xs) "int" = some false := by show kitB "list" "int" = _; exact kit_li
theorem kt_lt {xs : List D} : kitT (.lst xs) "tuple" = some false := by show kitB "list" "tuple" = _; exact kit_lt
theorem kt_ll {xs : List D} : kitT (.lst xs) "list" = some true := by show kitB "list" "list" = _; exact kit_ll
theorem kt_ls {xs : List D} : kitT (.lst xs) "str" = some false := by show kitB "list" "str" = _; exact kit_ls
theorem kt_ld {xs : List D} : kitT (.lst xs) "dict" = some false := by show kitB "list" "dict" = _; exact kit_ld
theorem kt_sb {s : String} : kitT (.str s) "bool" = some false := by show kitB "str" "bool" = _; exact kit_sb
theorem kt_si {s : String} : kitT (.str s) "int" = some false := by show kitB "str" "int" = _; exact kit_si
theorem kt_st {s : String} : kitT (.str s) "tuple" = some false := by show kitB "str" "tuple" = _; exact kit_st
theorem kt_sl {s : String} : kitT (.str s) "list" = some false := by show kitB "str" "list" = _; exact kit_sl
theorem kt_ss {s : String} : kitT (.str s) "str" = some true := by show kitB "str" "str" = _; exact kit_ss
theorem kt_sd {s : String} : kitT (.str s) "dict" = some false := by show kitB "str" "dict" = _; exact kit_sd
theorem kt_nb  : kitT (.non) "bool" = some false := by show kitB "NoneType" "bool" = _; exact kit_nb
theorem kt_ni  : kitT (.non) "int" = some false := by show kitB "NoneType" "int" = _; exact kit_ni
theorem kt_nt  : kitT (.non) "tuple" = some false := by show kitB "NoneType" "tuple" = _; exact kit_nt
theorem kt_nl  : kitT (.non) "list" = some false := by show kitB "NoneType" "list" = _; exact kit_nl
theorem kt_ns  : kitT (.non) "str" = some false := by show kitB "NoneType" "str" = _; exact kit_ns
theorem kt_nd  : kitT (.non) "dict" = some false := by show kitB "NoneType" "dict" = _; exact kit_nd
theorem kt_db {ks : List Key} {ys : List D} : kitT (.dct ks ys) "bool" = some false := by show kitB "dict" "bool" = _; exact kit_db
theorem kt_di {ks : List Key} {ys : List D} : kitT (.dct ks ys) "int" = some false := by show kitB "dict" "int" = _; exact kit_di
theorem kt_dt {ks : List Key} {ys : List D} : kitT (.dct ks ys) "tuple" = some false := by show kitB "dict" "tuple" = _; exact kit_dt
theorem kt_dl {ks : List Key} {ys : List D} : kitT (.dct ks ys) "list" = some false := by show kitB "dict" "list" = _; exact kit_dl
theorem kt_ds {ks : List Key} {ys : List D} : kitT (.dct ks ys) "str" = some false := by show kitB "dict" "str" = _; exact kit_ds
theorem kt_dd {ks : List Key} {ys : List D} : kitT (.dct ks ys) "dict" = some true := by show kitB "dict" "dict" = _; exact kit_dd
theorem w_isi {c : String} {k : Bool} (e : kitT a c = some k) (h : P (.bl k)) : Got (oIsi [a, .ty c]) P := ⟨.bl k, by
  unfold kitT at e
  obtain ⟨t, e1, e2⟩ := Option.bind_eq_some_iff.mp e
  simp only [oIsi, e1, e2, Option.bind_some, Option.map_some], h⟩
end
/-! ### sizes of ints -/
def Bd (n : Nat) (i : Int) : Prop := i.natAbs < 2 ^ n
section
variable {i j : Int} {n m : Nat}
theorem Bd.mul (h : Bd n i) (k : Bd m j) : Bd (n + m) (i * j) := wide_lt h k
theorem Bd.add (h : Bd n i) (k : Bd m j) : Bd (n + m + 1) (i + j) := by
  unfold Bd at *
  have h1 : (2 : Nat) ^ n ≤ 2 ^ (n + m) := Nat.pow_le_pow_right (by omega) (by omega)
  have h2 : (2 : Nat) ^ m ≤ 2 ^ (n + m) := Nat.pow_le_pow_right (by omega) (by omega)
  have h3 : (2 : Nat) ^ (n + m + 1) = 2 ^ (n + m) * 2 := Nat.pow_succ ..
  omega
theorem Bd.neg (h : Bd n i) : Bd n (-i) := by unfold Bd at *; omega
theorem Bd.sub (h : Bd n i) (k : Bd m j) : Bd (n + m + 1) (i - j) := by
  rw [Int.sub_eq_add_neg]
  exact h.add k.neg
theorem Bd.mono (h : Bd n i) (k : n ≤ m) : Bd m i := Nat.lt_of_lt_of_le h (Nat.pow_le_pow_right (by omega) k)
theorem Bd.le {i j : Int} (h : Bd n j) (h0 : 0 ≤ i) (h1 : i ≤ j) : Bd n i := by unfold Bd at *; omega
theorem Bd.mod (hj : 0 < j) (h : Bd m j) : Bd m (i % j) := by
  have h1 := Int.emod_nonneg i (show j ≠ 0 by omega)
  have h2 := Int.emod_lt_of_pos i hj
  unfold Bd at *
  omega
theorem MuOk.of (h : Bd n i) (k : Bd m j) (hs : n + m < 100000000) : MuOk i j := by
  have x : i.natAbs.log2 ≤ n := by
    by_cases h0 : i.natAbs = 0
    · rw [h0]; exact Nat.zero_le _
    · exact Nat.le_of_lt ((Nat.log2_lt h0).mpr h)
  have y : j.natAbs.log2 ≤ m := by
    by_cases h0 : j.natAbs = 0
    · rw [h0]; exact Nat.zero_le _
    · exact Nat.le_of_lt ((Nat.log2_lt h0).mpr k)
  unfold MuOk
  omega
end
end Dy

set_option Elab.async false
set_option linter.all false
set_option maxRecDepth 100000
namespace Dy
open PySem PySem.Spec PyProof.Rows L2
/-! ### for the stepping words -/
section
variable {A B : Prop} {p : Prop} [Decidable p]
theorem k_tt (h : A) : Fork (true) A B := ⟨fun _ => h, fun z => by cases z⟩
theorem k_ff (h : B) : Fork (false) A B := ⟨fun z => (by cases z), fun _ => h⟩
theorem k_nt (h : B) : Fork ((!true)) A B := ⟨fun z => (by cases z), fun _ => h⟩
theorem k_nf (h : A) : Fork ((!false)) A B := ⟨fun _ => h, fun z => by cases z⟩
theorem k_dT (hp : p) (h : A) : Fork (decide p) A B := ⟨fun _ => h, fun z => absurd hp (of_decide_eq_false z)⟩
theorem k_dF (hp : ¬ p) (h : B) : Fork (decide p) A B := ⟨fun z => absurd (of_decide_eq_true z) hp, fun _ => h⟩
theorem k_d (h1 : p → A) (h2 : ¬ p → B) : Fork (decide p) A B := ⟨fun z => h1 (of_decide_eq_true z), fun z => h2 (of_decide_eq_false z)⟩
theorem k_ndT (hp : p) (h : B) : Fork ((!decide p)) A B := ⟨fun z => absurd hp (by simpa using z), fun _ => h⟩
theorem k_ndF (hp : ¬ p) (h : A) : Fork ((!decide p)) A B := ⟨fun _ => h, fun z => absurd (by simpa using z) hp⟩
theorem k_nd (h1 : ¬ p → A) (h2 : p → B) : Fork ((!decide p)) A B := ⟨fun z => h1 (by simpa using z), fun z => h2 (by simpa using z)⟩
theorem k_nndT (hp : p) (h : A) : Fork ((!(!decide p))) A B := ⟨fun _ => h, fun z => absurd hp (by simpa using z)⟩
theorem k_nndF (hp : ¬ p) (h : B) : Fork ((!(!decide p))) A B := ⟨fun z => absurd (by simpa using z) hp, fun _ => h⟩
theorem k_nnd (h1 : p → A) (h2 : ¬ p → B) : Fork ((!(!decide p))) A B := ⟨fun z => h1 (by simpa using z), fun z => h2 (by simpa using z)⟩
theorem k_any {k : Bool} (h1 : k = true → A) (h2 : k = false → B) : Fork k A B := ⟨h1, h2⟩
theorem ex_bl {b : Bool} {P : Bool → Prop} (h : P b) : HasB (.bl b) P := ⟨b, rfl, h⟩
theorem ex_int {b : Int} {P : Int → Prop} (h : P b) : HasI (.int b) P := ⟨b, rfl, h⟩
theorem ex_two {a b : D} {P : D → D → Prop} (h : P a b) : Has2 [a, b] P := ⟨a, b, rfl, h⟩
theorem g_ot {α : Type} {o : Option α} {a : α} {P : α → Prop} (e : o = some a) (h : P a) : Got o P := ⟨a, e, h⟩
theorem f_its {n : Nat} {A : Prop} (e : n ≤ sizeLine) (h : A) : Fits n A := ⟨e, h⟩
theorem g_rows {n : Nat} {A : Prop} (e : n < sizeLine) (h : A) : Grows n A := ⟨e, h⟩
theorem w_range1 {n : Int} {P : List D → Prop} (h : Sm n) (k : P (rangeD 0 n.toNat)) : Got (range1 [.int n]) P := ⟨_, by simp only [range1, if_pos h], k⟩
theorem w_range2 {m n : Int} {P : List D → Prop} (h : Sm m) (h2 : Sm n) (k : P (rangeD m (n - m).toNat)) : Got (range2 [.int m, .int n]) P := ⟨_, by simp only [range2, if_pos (And.intro h h2)], k⟩
end
/-! ### lists of ints -/
theorem eqD_lst_nil {xs : List D} : eqD (.lst xs) (.lst []) = xs.isEmpty := by
  cases xs with
  | nil => simp [eqD, D.py, pyL, PyData.eqv, PyData.eqvAll]
  | cons x r => simp [eqD, D.py, pyL, PyData.eqv, PyData.eqvAll]
theorem okq_ints {n : Nat} (ns : List Int) : okq (n + 1) (.lst (ns.map .int)) = true := by
  simp only [okq, List.all_map, List.all_eq_true]
  intro x _
  cases n <;> rfl
theorem w_eqNil {xs : List D} {P : D → Prop} (hq : okq 40 (.lst xs) = true) (h : P (.bl xs.isEmpty)) : Got (oEq (.lst xs) (.lst [])) P := w_eq hq rfl (by rw [eqD_lst_nil]; exact h)
theorem w_neNil {xs : List D} {P : D → Prop} (hq : okq 40 (.lst xs) = true) (h : P (.bl (!xs.isEmpty))) : Got (oNe (.lst xs) (.lst [])) P := w_ne hq rfl (by rw [eqD_lst_nil]; exact h)
theorem c_nil {b : D → REnv → Option REnv} {c : REnv → R Bool} {e : REnv → R D} {ρ : REnv} {P : List D → Prop} (h : P []) : Got (compS b c e [] ρ) P := ⟨[], rfl, h⟩
theorem c_cons {b : D → REnv → Option REnv} {c : REnv → R Bool} {e : REnv → R D} {ρ : REnv} {d : D} {ds : List D} {P : List D → Prop}
    (h : Got (b d ρ) fun ρ' => (c ρ').wp (fun k => Fork k ((e ρ').wp (fun v => Got (compS b c e ds ρ) fun r => P (v :: r)) NoE) (Got (compS b c e ds ρ) P)) NoE) : Got (compS b c e (d :: ds) ρ) P := by
  obtain ⟨ρ', e1, h⟩ := h
  obtain ⟨k, e2, h1, h2⟩ := h.ok
  cases k with
  | true =>
    obtain ⟨v, e3, r, e4, hp⟩ := (h1 rfl).ok
    exact ⟨v :: r, by simp only [compS, e1, e2, e3, e4, R.get, Option.bind_some, if_true], hp⟩
  | false =>
    obtain ⟨r, e4, hp⟩ := h2 rfl
    exact ⟨r, by simp only [compS, e1, e2, e4, R.get, Option.bind_some, Bool.false_eq_true, if_false], hp⟩
theorem wp_yes {ρ : REnv} {P : Bool → Prop} {E : D → Prop} (h : P true) : (eYes ρ).wp P E := h
/-! ### a thing equals itself -/
theorem eqvAll_refl : ∀ xs : List D, (∀ x ∈ xs, PyData.eqv x.py x.py = true) → PyData.eqvAll (pyL xs) (pyL xs) = true
  | [], _ => by simp [pyL, PyData.eqvAll]
  | x :: xs, h => by
    simp only [pyL, PyData.eqvAll, h x (List.mem_cons_self ..), Bool.true_and]
    exact eqvAll_refl xs fun y hy => h y (List.mem_cons_of_mem _ hy)
theorem eqD_refl : ∀ (n : Nat) (a : D), okq n a = true → eqD a a = true := by
  intro n
  induction n with
  | zero => intro a h; cases a <;> simp_all [okq, eqD, D.py, PyData.eqv]
  | succ n ih =>
    intro a h
    cases a with
    | tup xs =>
      simp only [eqD, D.py, PyData.eqv]
      exact eqvAll_refl xs fun x hx => ih x (List.all_eq_true.mp (by simpa [okq] using h) x hx)
    | lst xs =>
      simp only [eqD, D.py, PyData.eqv]
      exact eqvAll_refl xs fun x hx => ih x (List.all_eq_true.mp (by simpa [okq] using h) x hx)
    | _ => simp_all [okq, eqD, D.py, PyData.eqv]
theorem w_eqS {a b : D} {P : D → Prop} (e : a = b) (ha : okq 40 a = true) (h : P (.bl true)) : Got (oEq a b) P := by
  subst e
  exact w_eq ha ha (by rw [eqD_refl 40 a ha]; exact h)
theorem w_neS {a b : D} {P : D → Prop} (e : a = b) (ha : okq 40 a = true) (h : P (.bl false)) : Got (oNe a b) P := by
  subst e
  exact w_ne ha ha (by rw [eqD_refl 40 a ha]; exact h)
theorem tup3 {a b c d e f : Int} (h1 : a = d) (h2 : b = e) (h3 : c = f) : D.tup [.int a, .int b, .int c] = .tup [.int d, .int e, .int f] := by rw [h1, h2, h3]
theorem Bd.log {n : Nat} {j : Int} (h : Bd n j) (hn : n < 9000) : j.natAbs.log2 < 9000 := by
  by_cases h0 : j.natAbs = 0
  · rw [h0]; decide
  · exact Nat.lt_trans ((Nat.log2_lt h0).mpr h) hn
theorem Bd.lt {n : Nat} {i : Int} (h : 0 ≤ i) (h2 : i < 2 ^ n) : Bd n i := by
  unfold Bd
  have e : ((i.natAbs : Nat) : Int) = i := by omega
  have : ((i.natAbs : Nat) : Int) < ((2 ^ n : Nat) : Int) := by rw [e, Int.natCast_pow]; exact h2
  omega
theorem Bd.lit {n : Nat} {i : Int} (h : i.natAbs < 2 ^ n := by decide) : Bd n i := h
end Dy

set_option Elab.async false
set_option linter.all false
set_option maxRecDepth 100000
namespace Dy
open PySem PySem.Spec PyProof.Rows L2
/-! ### what is never reached -/
def sBad : REnv → SR := fun _ => .bad
/-! ### range(a, b, c) -/
def rg3 (m n c : Int) : Prop := c ≠ 0 ∧ c.natAbs < 1073741824 ∧ Builtin.Range.small m n c = true ∧ 0 ≤ Builtin.Range.rangeSize m n c
instance (m n c : Int) : Decidable (rg3 m n c) := inferInstanceAs (Decidable (_ ∧ _))
def range3c : List D → Option (List D)
  | [.int m, .int n, .int c] => if rg3 m n c then some (rangeC m c (Builtin.Range.rangeSize m n c).toNat) else none
  | _ => none
theorem RepL.three {K : PySem.W.Frag} {F : Hp} {a b c : D} {vs : List V} (h : RepL K F [a, b, c] vs) : ∃ v w x, vs = [v, w, x] ∧ Rep K F a v ∧ Rep K F b w ∧ Rep K F c x := by
  simp only [RepL] at h
  obtain ⟨v, r, e, h1, w, r2, e2, h2, x, r3, e3, h3, h4⟩ := h
  subst h4
  subst e3
  subst e2
  exact ⟨v, w, x, e, h1, h2, h3⟩
/-- the turns' numbers: lo, lo + c, .., all below n -/
theorem w_range3 {m n c : Int} {P : List D → Prop} (hc : 0 < c ∧ c < 1000000) (hm : 0 ≤ m ∧ m < 1000000) (hn : 0 ≤ n ∧ n < 1000000) (k : P (rangeC m c (Builtin.Range.rangeSize m n c).toNat)) : Got (range3c [.int m, .int n, .int c]) P := by
  have z4 : 0 ≤ Builtin.Range.rangeSize m n c ∧ (Builtin.Range.rangeSize m n c ≤ 1000000 ∧ (Builtin.Range.rangeSize m n c) * c < 3000000) := by
    unfold Builtin.Range.rangeSize
    rw [if_pos (show c > 0 from hc.1)]
    by_cases h : m < n
    · rw [if_pos h]
      have h1 : 0 ≤ (n - m - 1) / c := Int.ediv_nonneg (by omega) (by omega)
      have h2 : (n - m - 1) / c ≤ n - m - 1 := Int.ediv_le_self _ (by omega)
      have h3 : (n - m - 1) / c * c ≤ n - m - 1 := Int.ediv_mul_le _ (by omega)
      rw [Int.add_mul, Int.one_mul]
      refine ⟨by omega, by omega, by omega⟩
    · rw [if_neg h]; refine ⟨by omega, by omega, by omega⟩
  refine ⟨_, by rw [range3c, if_pos ⟨by omega, by omega, ?_, z4.1⟩], k⟩
  unfold Builtin.Range.small
  generalize Builtin.Range.rangeSize m n c = q at *
  simp only [Builtin.Range.rangeFitsLong, Bool.and_eq_true, Bool.or_eq_true, decide_eq_true_eq, beq_iff_eq, show c > 0 from hc.1, if_true]
  have z5 : (q + 1) * c < 4000000 := by rw [Int.add_mul, Int.one_mul]; omega
  have z6 : (q - 1) * c < 4000000 := by rw [Int.sub_mul, Int.one_mul]; omega
  have z7 : 0 ≤ q * c := Int.mul_nonneg z4.1 (by omega)
  have z8 : -1000000 < (q - 1) * c := by rw [Int.sub_mul, Int.one_mul]; omega
  omega
theorem rangeD_get {m : Int} {n i : Nat} {d : D} (h : (rangeD m n)[i]? = some d) : d = .int (m + i) ∧ i < n := by
  obtain ⟨hi, e⟩ := List.getElem?_eq_some_iff.mp h
  have hi2 : i < n := by simpa [rangeD] using hi
  exact ⟨by rw [← e]; simp [rangeD], hi2⟩
end Dy

set_option Elab.async false
set_option linter.all false
set_option maxRecDepth 100000
namespace Dy
open PySem PySem.Spec PyProof.Rows L2
/-! ### whole numbers' divisors, and fractions -/
theorem divInt_add (a b : Rat) : Rat.divInt (a.num * b.den + b.num * a.den) (a.den * b.den) = a + b := by
  rw [Rat.add_def', ← Rat.divInt_ofNat]; simp
theorem divInt_sub (a b : Rat) : Rat.divInt (a.num * b.den - b.num * a.den) (a.den * b.den) = a - b := by
  rw [Rat.sub_def', ← Rat.divInt_ofNat]; simp
theorem divInt_mul (a b : Rat) : Rat.divInt (a.num * b.num) (a.den * b.den) = a * b := by
  rw [Rat.mul_def', ← Rat.divInt_ofNat]; simp
theorem den_ne (a : Rat) : (a.den : Int) ≠ 0 := by have := a.den_nz; omega
theorem size_num (a b : Int) (hb : b ≠ 0) : (Rat.divInt a b).num.natAbs ≤ a.natAbs := by
  rw [Rat.num_divInt]
  have hs : (b.sign * a).natAbs = a.natAbs := by
    rw [Int.natAbs_mul, Int.natAbs_sign_of_ne_zero hb, Nat.one_mul]
  rw [← hs]
  exact Int.natAbs_ediv_le_natAbs ..
theorem size_den (a b : Int) (hb : b ≠ 0) : (Rat.divInt a b).den ≤ b.natAbs := by
  rw [Rat.den_divInt, if_neg hb]
  exact Nat.div_le_self ..

def rD (r : Rat) : D := .tup [.int r.num, .int r.den]
def RB (n m : Nat) (r : Rat) : Prop := Bd n r.num ∧ Bd m r.den
theorem Bd.addM {n m : Nat} {i j : Int} (h : Bd n i) (k : Bd m j) : Bd (max n m + 1) (i + j) := by
  have h1 := h.mono (Nat.le_max_left n m)
  have h2 := k.mono (Nat.le_max_right n m)
  unfold Bd at *
  have h3 : (2 : Nat) ^ (max n m + 1) = 2 ^ max n m * 2 := Nat.pow_succ ..
  omega
theorem Bd.subM {n m : Nat} {i j : Int} (h : Bd n i) (k : Bd m j) : Bd (max n m + 1) (i - j) := by
  rw [Int.sub_eq_add_neg]
  exact h.addM k.neg
theorem RB.of {n m : Nat} {a b : Int} (hb : b ≠ 0) (h : Bd n a) (k : Bd m b) : RB n m (Rat.divInt a b) :=
  ⟨Nat.lt_of_le_of_lt (size_num a b hb) h, Nat.lt_of_le_of_lt (size_den a b hb) k⟩
theorem den_mul_ne (a b : Rat) : (a.den : Int) * b.den ≠ 0 := Int.mul_ne_zero (den_ne a) (den_ne b)
section
variable {n m n' m' : Nat} {x y : Rat}
theorem RB.mono {k l : Nat} (h : RB n m x) (h1 : n ≤ k) (h2 : m ≤ l) : RB k l x := ⟨h.1.mono h1, h.2.mono h2⟩
theorem RB.add (h : RB n m x) (k : RB n' m' y) : RB (max (n + m') (n' + m) + 1) (m + m') (x + y) := by
  rw [← divInt_add]
  exact .of (den_mul_ne x y) ((h.1.mul k.2).addM (k.1.mul h.2)) (h.2.mul k.2)
theorem RB.sub (h : RB n m x) (k : RB n' m' y) : RB (max (n + m') (n' + m) + 1) (m + m') (x - y) := by
  rw [← divInt_sub]
  exact .of (den_mul_ne x y) ((h.1.mul k.2).subM (k.1.mul h.2)) (h.2.mul k.2)
theorem RB.mul (h : RB n m x) (k : RB n' m' y) : RB (n + n') (m + m') (x * y) := by
  rw [← divInt_mul]
  exact .of (den_mul_ne x y) (h.1.mul k.1) (h.2.mul k.2)
theorem RB.int {i : Int} (h : Bd n i) : RB n 1 (i : Rat) := ⟨h, by show Bd 1 ((1 : Nat) : Int); exact Bd.lit (by decide)⟩
end
section
variable {P : D → Prop} {i j : Int} {a b : D}
end
theorem sl1 {α : Type} {xs : List α} (h : xs.length = 1) : ∃ a0, xs = [a0] := match xs, h with
  | [a0], _ => ⟨a0, rfl⟩
theorem sl2 {α : Type} {xs : List α} (h : xs.length = 2) : ∃ a0 a1, xs = [a0, a1] := match xs, h with
  | [a0, a1], _ => ⟨a0, a1, rfl⟩
end Dy

set_option Elab.async false
set_option linter.all false
set_option maxRecDepth 100000
namespace Dy
open PySem PySem.Spec PyProof.Rows L2
/-! ### the slots are kept written out -/
def Upd (ρ : REnv) (i : Nat) (s : Sl) (N : REnv → Prop) : Prop := N (ρ.set i s)
def Wipe (ρ : REnv) (vs : List Nat) (N : REnv → Prop) : Prop := N (wipeE ρ vs)
theorem upd_step {ρ ρ' : REnv} {i : Nat} {s : Sl} {N : REnv → Prop} (e : ρ.set i s = ρ') (h : N ρ') : Upd ρ i s N := by unfold Upd; rw [e]; exact h
theorem wipe_nil {ρ : REnv} {N : REnv → Prop} (h : N ρ) : Wipe ρ [] N := h
theorem wipe_cons {ρ : REnv} {v : Nat} {vs : List Nat} {N : REnv → Prop} (h : Wipe ρ vs fun ρ' => Upd ρ' v .un N) : Wipe ρ (v :: vs) N := h
section
variable {ρ : REnv} {N : REnv → Prop} {T : D → Prop} {E : D → REnv → Prop} {g h : REnv → SR} {f : REnv → R D} {u : REnv → R Bool} {t : REnv → R (List D)}
theorem sp_setU {i : Nat} (h : (f ρ).wp (fun d => Upd ρ i (.val d) N) (fun e => E e ρ)) : (sSet i f ρ).wp N T E := sp_set h
theorem sp_parU {i j : Nat} (h : (t ρ).wp (fun ds => Has2 ds fun a b => Upd ρ i (.val a) fun ρ' => Upd ρ' j (.val b) N) (fun e => E e ρ)) : (sPar i j t ρ).wp N T E := sp_par h
theorem sp_ownU {i : Nat} (h : (t ρ).wp (fun ds => Fits ds.length (Upd ρ i (.own ds) N)) (fun e => E e ρ)) : (sOwn i t ρ).wp N T E := sp_own h
theorem sp_appU {i : Nat} {ds : List D} (e : ρ[i]? = some (.own ds)) (h : (f ρ).wp (fun d => Grows ds.length (Upd ρ i (.own (ds ++ [d])) N)) (fun e => E e ρ)) : (sApp i f ρ).wp N T E := sp_app e h
theorem sp_frO {i : Nat} {ds : List D} (e : ρ[i]? = some (.own ds)) (h : Upd ρ i (.val (.lst ds)) fun ρ' => (g ρ').wp N T E) : (sFreeze i g ρ).wp N T E := by
  unfold sFreeze eFreeze
  rw [e]
  exact h
theorem sp_frV {i : Nat} {d : D} (e : ρ[i]? = some (.val d)) (h : (g ρ).wp N T E) : (sFreeze i g ρ).wp N T E := by
  unfold sFreeze eFreeze
  rw [e]
  exact h
theorem sp_frU {i : Nat} (e : ρ[i]? = some .un) (h : (g ρ).wp N T E) : (sFreeze i g ρ).wp N T E := by
  unfold sFreeze eFreeze
  rw [e]
  exact h
theorem w_bName {i : Nat} {d : D} (h : Upd ρ i (.val d) N) : Got (bName i d ρ) N := ⟨_, rfl, h⟩
theorem w_bNil (h : N ρ) : Got (bNil [] ρ) N := ⟨_, rfl, h⟩
theorem w_bCons {b : D → REnv → Option REnv} {c : List D → REnv → Option REnv} {d : D} {r : List D} (h : Got (b d ρ) fun ρ' => Got (c r ρ') N) : Got (bCons b c (d :: r) ρ) N := by
  obtain ⟨ρ', e, ρ'', e2, h⟩ := h
  exact ⟨ρ'', by unfold bCons; simp only [e, Option.bind_some, e2], h⟩
theorem w_bSeqT {n : Nat} {c : List D → REnv → Option REnv} {xs : List D} (hl : xs.length = n) (h : Got (c xs ρ) N) : Got (bSeq n c (.tup xs) ρ) N := by
  obtain ⟨ρ', e, h⟩ := h
  exact ⟨ρ', by unfold bSeq; simp only [hl, if_true, e], h⟩
theorem w_bSeqL {n : Nat} {c : List D → REnv → Option REnv} {xs : List D} (hl : xs.length = n) (h : Got (c xs ρ) N) : Got (bSeq n c (.lst xs) ρ) N := by
  obtain ⟨ρ', e, h⟩ := h
  exact ⟨ρ', by unfold bSeq; simp only [hl, if_true, e], h⟩
theorem wp_compU {E : D → Prop} {P : D → Prop} {vs : List Nat} {fi : REnv → R (List D)} {b : D → REnv → Option REnv} {c : REnv → R Bool} {e : REnv → R D} (h : (fi ρ).wp (fun ds => Fits ds.length (Wipe ρ vs fun ρ' => Got (compS b c e ds ρ') fun rs => P (.lst rs))) E) : (eComp vs fi b c e ρ).wp P E := wp_comp h
end
theorem wp_fnU {n m : Nat} {ds : List D} {g : REnv → SR} {ρ0 : REnv} {P : D → Prop} {E : D → Prop} (hl : ds.length = n) (e : ds.map .val ++ List.replicate (m - n) .un = ρ0) (h : (g ρ0).wp (fun _ => P .non) P (fun e _ => E e)) : (fnD n m g ds).wp P E := wp_fn hl (by rw [e]; exact h)
section
variable {ρ : REnv} {N : REnv → Prop} {T : D → Prop} {E : D → REnv → Prop} {g : REnv → SR} {b : D → REnv → Option REnv} {d : D} {ds : List D}
theorem fs_nil (h : N ρ) : (forS b g [] ρ).wp N T E := by unfold forS; exact h
theorem fs_cons (h : Got (b d ρ) fun ρ' => (g ρ').wp (fun ρ'' => (forS b g ds ρ'').wp N T E) T E) : (forS b g (d :: ds) ρ).wp N T E := by
  obtain ⟨ρ', e1, h1⟩ := h
  unfold forS
  rw [e1]
  show ((g ρ').seq (forS b g ds)).wp N T E
  exact sp_seq (g := g) (h := forS b g ds) h1
end
section
variable {ρ : REnv} {P : D → Prop} {x y : Rat}
theorem w_ixR0 (h : P (.int x.num)) : Got (oIx (rD x) (.int 0)) P := w_ixT rfl h
theorem w_ixR1 (h : P (.int x.den)) : Got (oIx (rD x) (.int 1)) P := w_ixT rfl h
theorem w_lenR (h : P (.int 2)) : Got (oLen [rD x]) P := w_lenT h
theorem kt_rt : kitT (rD x) "tuple" = some true := kt_tt
theorem kt_rb : kitT (rD x) "bool" = some false := kt_tb
theorem kt_ri : kitT (rD x) "int" = some false := kt_ti
theorem kt_rl : kitT (rD x) "list" = some false := kt_tl
theorem w_iterR {P : List D → Prop} (h : P [.int x.num, .int x.den]) : Got (iterD (rD x)) P := g_ot rfl h
theorem w_bSeqR {c : List D → REnv → Option REnv} {N : REnv → Prop} (h : Got (c [.int x.num, .int x.den] ρ) N) : Got (bSeq 2 c (rD x) ρ) N := w_bSeqT rfl h
theorem eqD_rat : eqD (rD x) (rD y) = decide (x = y) := by
  have e : eqD (rD x) (rD y) = (eqD (.int x.num) (.int y.num) && eqD (.int x.den) (.int y.den)) := by
    simp [rD, eqD, D.py, pyL, PyData.eqv, PyData.eqvAll]
  rw [e, eqD_int, eqD_int]
  by_cases h : x = y
  · subst h; simp
  · have : ¬ (x.num = y.num ∧ (x.den : Int) = y.den) := fun z => h (Rat.ext z.1 (by omega))
    simp only [h, decide_false]
    by_cases h1 : x.num = y.num
    · have h2 : ¬ ((x.den : Int) = y.den) := fun z => this ⟨h1, z⟩
      simp only [h2, decide_false, Bool.and_false]
    · simp only [h1, decide_false, Bool.false_and]
theorem okq_rat : okq 40 (rD x) = true := rfl
theorem w_eqR (h : P (.bl (decide (x = y)))) : Got (oEq (rD x) (rD y)) P := w_eq okq_rat okq_rat (by rw [eqD_rat]; exact h)
theorem w_neR (h : P (.bl (!decide (x = y)))) : Got (oNe (rD x) (rD y)) P := w_ne okq_rat okq_rat (by rw [eqD_rat]; exact h)
theorem eqD_bl {a b : Bool} : eqD (.bl a) (.bl b) = (a == b) := by
  cases a <;> cases b <;> simp [eqD, D.py, PyData.eqv]
theorem w_neB {a b : Bool} (h : P (.bl (!(a == b)))) : Got (oNe (.bl a) (.bl b)) P := w_ne rfl rfl (by rw [eqD_bl]; exact h)
end
theorem RB.n {n m : Nat} {x : Rat} (h : RB n m x) : Bd n x.num := h.1
theorem RB.d {n m : Nat} {x : Rat} (h : RB n m x) : Bd m x.den := h.2
/-! ### triples -/
abbrev t3 (a b c : Int) : D := .tup [.int a, .int b, .int c]
def T3 (n : Nat) (d : D) : Prop := ∃ a b c, d = t3 a b c ∧ Bd n a ∧ Bd n b ∧ Bd n c
section
variable {P : D → Prop} {a b c d e f : Int}
theorem eqD_t3 : eqD (t3 a b c) (t3 d e f) = decide (a = d ∧ b = e ∧ c = f) := by
  have z : eqD (t3 a b c) (t3 d e f) = (eqD (.int a) (.int d) && (eqD (.int b) (.int e) && eqD (.int c) (.int f))) := by
    simp [eqD, D.py, pyL, PyData.eqv, PyData.eqvAll]
  rw [z, eqD_int, eqD_int, eqD_int]
  simp only [Bool.decide_and]
theorem w_eq3 (h : P (.bl (decide (a = d ∧ b = e ∧ c = f)))) : Got (oEq (.tup [.int a, .int b, .int c]) (.tup [.int d, .int e, .int f])) P := w_eq rfl rfl (by rw [show eqD _ _ = _ from eqD_t3]; exact h)
theorem w_ne3 (h : P (.bl (!decide (a = d ∧ b = e ∧ c = f)))) : Got (oNe (.tup [.int a, .int b, .int c]) (.tup [.int d, .int e, .int f])) P := w_ne rfl rfl (by rw [show eqD _ _ = _ from eqD_t3]; exact h)
theorem w_rng3 {P : List D → Prop} (h : P [.int 0, .int 1, .int 2]) : Got (range1 [.int 3]) P := g_ot rfl h
theorem w_zip3 {P : List D → Prop} {a b c d e f : D} (h : P [.tup [a, d], .tup [b, e], .tup [c, f]]) : Got (zip2 [.tup [a, b, c], .tup [d, e, f]]) P := g_ot rfl h
theorem w_sum3 (h : P (.int (a + b + c))) : Got (oSum [.lst [.int a, .int b, .int c]]) P := w_sum rfl (by rw [show [a, b, c].sum = a + b + c by simp; omega]; exact h)
end
theorem RB.zero : RB 1 1 0 := ⟨Bd.lit (by decide), Bd.lit (by decide)⟩
theorem RB.one : RB 1 1 1 := ⟨Bd.lit (by decide), Bd.lit (by decide)⟩
theorem decide_t {p : Prop} [Decidable p] (h : p) : decide p = true := decide_eq_true h
theorem decide_f {p : Prop} [Decidable p] (h : ¬ p) : decide p = false := decide_eq_false h
end Dy

set_option Elab.async false
set_option linter.all false
set_option maxRecDepth 100000
namespace Dy
open PySem PySem.Spec PyProof.Rows L2
section
variable {P : D → Prop} {x y z x' y' z' : Rat}
theorem eqD_pair {a b c d : D} : eqD (.tup [a, b]) (.tup [c, d]) = (eqD a c && eqD b d) := by
  simp [eqD, D.py, pyL, PyData.eqv, PyData.eqvAll]
theorem eqD_three {a b c a' b' c' : D} : eqD (.tup [a, b, c]) (.tup [a', b', c']) = (eqD a a' && (eqD b b' && eqD c c')) := by
  simp [eqD, D.py, pyL, PyData.eqv, PyData.eqvAll]
theorem w_eqRR (h : P (.bl (decide (x = x' ∧ y = y')))) : Got (oEq (.tup [rD x, rD y]) (.tup [rD x', rD y'])) P := w_eq rfl rfl (by rw [eqD_pair, eqD_rat, eqD_rat, ← Bool.decide_and]; exact h)
theorem w_neRR (h : P (.bl (!decide (x = x' ∧ y = y')))) : Got (oNe (.tup [rD x, rD y]) (.tup [rD x', rD y'])) P := w_ne rfl rfl (by rw [eqD_pair, eqD_rat, eqD_rat, ← Bool.decide_and]; exact h)
theorem w_eqRRR (h : P (.bl (decide (x = x' ∧ y = y' ∧ z = z')))) : Got (oEq (.tup [rD x, rD y, rD z]) (.tup [rD x', rD y', rD z'])) P := w_eq rfl rfl (by rw [eqD_three, eqD_rat, eqD_rat, eqD_rat, ← Bool.decide_and, ← Bool.decide_and]; exact h)
theorem w_neRRR (h : P (.bl (!decide (x = x' ∧ y = y' ∧ z = z')))) : Got (oNe (.tup [rD x, rD y, rD z]) (.tup [rD x', rD y', rD z'])) P := w_ne rfl rfl (by rw [eqD_three, eqD_rat, eqD_rat, eqD_rat, ← Bool.decide_and, ← Bool.decide_and]; exact h)
end
theorem kt_zb {s : Str} : kitT (.str s) "bool" = some false := by show kitB "str" "bool" = _; exact kit_sb
theorem kt_zi {s : Str} : kitT (.str s) "int" = some false := by show kitB "str" "int" = _; exact kit_si
theorem kt_zt {s : Str} : kitT (.str s) "tuple" = some false := by show kitB "str" "tuple" = _; exact kit_st
theorem kt_zl {s : Str} : kitT (.str s) "list" = some false := by show kitB "str" "list" = _; exact kit_sl
theorem kt_zs {s : Str} : kitT (.str s) "str" = some true := by show kitB "str" "str" = _; exact kit_ss
theorem kt_zd {s : Str} : kitT (.str s) "dict" = some false := by show kitB "str" "dict" = _; exact kit_sd
end Dy

set_option Elab.async false
set_option linter.all false
set_option maxRecDepth 100000
namespace Dy
open PySem PySem.Spec PyProof.Rows L2
/-- min(a, b, c) of three ints -/
def oMin3 : List D → Option D
  | [.int i, .int j, .int k] => some (.int (if k < (if j < i then j else i) then k else (if j < i then j else i)))
  | _ => none
theorem w_min3 {i j k : Int} {P : D → Prop} (h : P (.int (if k < (if j < i then j else i) then k else (if j < i then j else i)))) : Got (oMin3 [.int i, .int j, .int k]) P := ⟨_, rfl, h⟩
end Dy

set_option Elab.async false
set_option linter.all false
set_option maxRecDepth 100000
namespace Dy
open PySem PySem.Spec PyProof.Rows L2
/-! ### refusals -/
/-- what is known of a class of refusals -/
structure ExcC (K : PySem.W.Frag) (mg : Str → Option Value) (c : Str) : Prop where
  ref : mg c = some (.ref (He.ga K c))
  q : PySem.W.excIn K (He.ga K c) He.veBase "ValueError.__new__" = true
  keep : PySem.W.keepIn K (.ref (He.ga K c)) = true
  sub : PySem.W.subIn K (.ref (He.ga K c)) (.type "BaseException") = some true
  ty : PySem.W.typeIn K (.ref (He.ga K c)) = some (.type "type")
def sRaise (c : Str) : REnv → SR := fun ρ => .err (.exc c [] []) ρ
theorem sp_raise {c : Str} {ρ : REnv} {N : REnv → Prop} {T : D → Prop} {E : D → REnv → Prop} (h : E (.exc c [] []) ρ) : (sRaise c ρ).wp N T E := h
end Dy

set_option Elab.async false
set_option linter.all false
set_option maxRecDepth 100000
namespace Dy
open PySem PySem.Spec PyProof.Rows L2
/-! ### own lists, read and kept as one's own -/
/-- a test over the slots with x frozen; behind it x is as it was -/
def uPeek (i : Nat) (u : REnv → R Bool) : REnv → R Bool := fun ρ => match u (eFreeze i ρ) with
  | .ok b => .ok b
  | _ => .bad
/-- the same of an expression that gives a whole number or a truth -/
def ePeek (i : Nat) (f : REnv → R D) : REnv → R D := fun ρ => match f (eFreeze i ρ) with
  | .ok (.int n) => .ok (.int n)
  | .ok (.bl b) => .ok (.bl b)
  | _ => .bad
theorem RepE.frz {K : PySem.W.Frag} {G F H : Hp} {σ : St} {ρ : REnv} (r : RepE K G F H σ ρ) (i : Nat) : ∃ F1, Same F F1 ∧ RepE K G F1 H σ (eFreeze i ρ) := by
  unfold eFreeze
  cases q : ρ[i]? with
  | none => exact ⟨F, .refl _, r⟩
  | some s =>
    cases s with
    | own ds =>
      obtain ⟨F', s1, n1, r1⟩ := r.freeze q
      exact ⟨F', s1, r1⟩
    | tree o =>
      obtain ⟨F', s1, n1, r1⟩ := r.freezeT q
      exact ⟨F', s1, r1⟩
    | pin w o =>
      obtain ⟨F', s1, n1, r1⟩ := r.freezeP q
      exact ⟨F', s1, r1⟩
    | _ => exact ⟨F, .refl _, r⟩
theorem st_peek {X : Cx} {W : WX} {c : Expr} {u : REnv → R Bool} (i : Nat) (h : ST X W c u) : ST X W c (uPeek i u) := PT.dy h fun σ H Q ⟨G, F, ρ, r, p⟩ => by
  obtain ⟨F1, s1, r1⟩ := r.frz i
  refine ⟨G, F1, _, r1, ?_⟩
  unfold uPeek at p
  cases e : u (eFreeze i ρ) with
  | ok b =>
    rw [e] at p
    exact fun v F2 H2 ex rel => p v F H2 ⟨.refl _, ex.h, s1.trans (ex.f.trans ex.s), fun a o h1 h2 => by rw [h2] at h1; cases h1⟩ rel
  | err d => rw [e] at p; exact p.elim
  | bad => rw [e] at p; exact p.elim
def Sc (d : D) (P : D → Prop) : Prop := (∃ n, d = D.int n ∧ P (D.int n)) ∨ ∃ b, d = D.bl b ∧ P (D.bl b)
theorem sc_int {n : Int} {P : D → Prop} (h : P (.int n)) : Sc (.int n) P := .inl ⟨n, rfl, h⟩
theorem sc_bl {b : Bool} {P : D → Prop} (h : P (.bl b)) : Sc (.bl b) P := .inr ⟨b, rfl, h⟩
section
variable {ρ : REnv} {i : Nat} {ds : List D} {E : D → Prop}
theorem wp_uPeek {u : REnv → R Bool} {P : Bool → Prop} (e : ρ[i]? = some (.own ds)) (h : Upd ρ i (.val (.lst ds)) fun ρ' => (u ρ').wp P NoE) : (uPeek i u ρ).wp P E := by
  unfold Upd at h
  obtain ⟨b, e1, hp⟩ := h.ok
  unfold uPeek eFreeze
  rw [e]
  show (match u (ρ.set i (.val (.lst ds))) with | .ok b => R.ok b | _ => .bad).wp P E
  rw [e1]; exact hp
theorem wp_ePeek {f : REnv → R D} {P : D → Prop} (e : ρ[i]? = some (.own ds)) (h : Upd ρ i (.val (.lst ds)) fun ρ' => (f ρ').wp (fun d => Sc d P) NoE) : (ePeek i f ρ).wp P E := by
  unfold Upd at h
  obtain ⟨d, e1, hp⟩ := h.ok
  have e2 : eFreeze i ρ = ρ.set i (.val (.lst ds)) := by unfold eFreeze; rw [e]
  unfold ePeek
  rw [e2, e1]
  rcases hp with ⟨n, rfl, hp⟩ | ⟨b, rfl, hp⟩
  · exact hp
  · exact hp
end
/-- x[e], x one's own list -/
def eIxO (i : Nat) (g : REnv → R D) : REnv → R D := fun ρ => match ρ[i]? with
  | some (.own ds) => (g ρ).bind fun d => match d with
    | .int k => .opt (L2.atI ds k)
    | _ => .bad
  | _ => .bad
theorem wp_ixO {ρ : REnv} {i : Nat} {ds : List D} {g : REnv → R D} {P E : D → Prop} (e : ρ[i]? = some (.own ds)) (h : (g ρ).wp (fun d => HasI d fun k => Got (L2.atI ds k) P) E) : (eIxO i g ρ).wp P E := by
  unfold eIxO
  rw [e]
  refine wp_bind (h.post ?_)
  rintro _ ⟨k, rfl, h⟩
  exact wp_opt h
end Dy

set_option Elab.async false
set_option linter.all false
set_option maxRecDepth 100000
set_option maxHeartbeats 2000000
namespace Dy
open PySem PySem.Spec PyProof.Rows L2
/-! ### an exception caught and kept -/
section
variable {X : Cx} {pins : List (Addr × Obj)} {σ : St} {H : Hp} {sI s : Shared} {B : Heap} {a : Addr} {cls : Value} {d : Option Addr}
theorem xo_ok {P : Program} {w : World} {h : Heap} {oe : Obj} {vs : Array Value} (he : h.get? a = some oe) (hz : Zc cls d oe) (hd : oe.data = .fields vs) : ObjOk P w H h a (xO cls a d) :=
  ⟨⟨oe, vs, he, hz, hd⟩, ⟨oe, he⟩, fun h1 h2 ⟨u, us, q, r⟩ k => ⟨u, us, k u q, r⟩⟩
/-- back on the ground, the exception's object tracked -/
theorem down (I : Inv X pins σ H sI) (nb : ∀ b o, sI.heap.get? b = some o → b ∉ frs X.stack → B.get? b = some o) (st : B.StaysIn s.heap) (up : sI.heap.UpToSlots s.heap) (os : s.os = sI.os) (ag : AllBare s.gens)
    (na : H a = none) (nB : B.get? a = none) (nf : a ∉ frs X.stack) {oe : Obj} {vs : Array Value} (he : s.heap.get? a = some oe) (hz : Zc cls d oe) (hd : oe.data = .fields vs) : Inv X pins σ (upd H a (xO cls a d)) s := by
  have nI : ∀ b o, sI.heap.get? b = some o → b ≠ a := fun b o e z => by
    subst z
    rw [nb _ o e nf] at nB
    cases nB
  have slots : ∀ b ∈ frs X.stack, ∀ o, sI.heap.get? b = some o → ∃ sl, s.heap.get? b = some { o with slots := sl } := fun b hb o e => by
    obtain ⟨_, o1, e1, hnf⟩ := I.stack.mem hb
    rw [e] at e1
    cases e1
    exact up b o e hnf
  have un : Un (frs X.stack) [] H (upd H a (xO cls a d)) sI.heap s.heap := {
    keep := fun b o e _ hb _ => st b o (nb b o e hb)
    slot := fun b o e _ hb _ => slots b hb o e
    free := fun b o e n _ => by rw [upd_ne (nI b o e)]; exact n
    there := fun b o e _ => by
      by_cases hb : b ∈ frs X.stack
      · obtain ⟨sl, q⟩ := slots b hb o e
        exact ⟨_, q⟩
      · exact ⟨o, st b o (nb b o e hb)⟩
    tups := fun b xs e => by rw [upd_ne (ne_of_none e na)]; exact e
    frzs := fun b o u e => by rw [upd_ne (ne_of_none e na)]; exact e
    tbls := fun b ps e => ⟨#[], by rw [upd_ne (ne_of_none e na), e]; simp⟩ }
  have hk : HOk X.prog X.w (upd H a (xO cls a d)) s.heap := fun b u e => by
    by_cases hb : b = a
    · subst hb
      rw [upd_same] at e
      cases e
      exact xo_ok he hz hd
    · rw [upd_ne hb] at e
      exact ((I.inGround nb).kept st b u e).stay (fun _ _ _ q => q) (fun c q => by rw [upd_ne (ne_of_none q na)]; exact q) fun c xs q => by rw [upd_ne (ne_of_none q na)]; exact q
  exact I.call' (ch := []) os un hk ag (fun _ z => nomatch z)
theorem toSuite (I : Inv X pins σ H s) : Inv (X.suite a (X.pn ++ pins)) [] σ H s :=
  ⟨I.ok.suite _ _, I.os, I.bare, I.base, I.loc, I.cell, I.free, I.freeC, fun p hp => I.pin p ((List.append_nil (X.pn ++ pins)).subst (motive := fun l => p ∈ l) hp), I.hok, I.len⟩
theorem ofSuite {pn' : List (Addr × Obj)} (ok : X.Ok) (I : Inv (X.suite a (X.pn ++ pins)) pn' σ H s) : Inv X pins σ H s :=
  ⟨ok, I.os, I.bare, I.base, I.loc, I.cell, I.free, I.freeC, fun p hp => I.pin p (List.mem_append_left pn' hp), I.hok, I.len⟩
end
/-- what a clause with a name wishes, the object tracked in its suite -/
def wKeep (K : PySem.W.Frag) (c : Value) (i : Nat) (ts : Value → Option Addr → TS) (Wo : WX) (D : Ends) : WX := fun cls d σ H =>
  ∃ b, PySem.W.exmOne K cls c = some b ∧
    (b = true → ∀ a, H a = none → ts cls d ⟨fun σ' H' => D.nx (σ'.set i none) H', D.rt, fun σ' H' => D.bk (σ'.set i none) H', fun σ' H' => D.ct (σ'.set i none) H'⟩ (σ.set i (some (.ref a))) (upd H a (xO cls a d))) ∧
    (b = false → Wo cls d σ H)
section
variable {X : Cx} {x n : Str} {c : Value} {i : Nat} {body suite : List Stmt} {b₀ : Stmt} {np pos pos' : Pos} {tb : WX → TS} {ts : Value → Option Addr → TS} {Wo : WX}
theorem ps_try_keep (hs : X.stack = X.env :: X.outer) (hf : X.env.frame = some X.env.locals) (nd : X.N.Nodup) (hi : X.N[i]? = some n) (hln : X.env.kindOf n = some .local) (hc : Names X x c) (tk : Takes X Wo)
    (hb : ∀ (W : WX) (pn : List (Addr × Obj)) (xe : Value → Shared → Prop), Takes (X.tr pn xe) W → PassesOwn (model X.prog X.w) X.A X.env xe → PSs (X.tr pn xe) body (tb W))
    (hsu : ∀ (a : Addr) (cls : Value) (d : Option Addr) (pn : List (Addr × Obj)), PSs (X.suite a pn) (b₀ :: suite) (ts cls d)) :
    PS X (.Try body [.ExceptHandler (some (.Name x np)) (some n) (b₀ :: suite) pos'] [] [] pos) (fun D σ H => tb (wKeep X.K c i ts Wo D) D σ H) := by
  refine ⟨fun pins s σ H D I h => wpAny_Try_except ?_⟩
  have ok := I.ok
  refine wpAny_mono ((hb (wKeep X.K c i ts Wo D) (X.pn ++ pins) _ (fun u s' air => ?_) PassesOwn.looking).run [] s σ H D (I.toTry _) h) (fun f s1 hsp => ?_) fun _ _ he => he
  · obtain ⟨a, B, sI, pins1, σ1, H1, cls, d, rfl, Ja, nb, up, sky, na, os, ag, b, eb, yes, no⟩ := air
    have J : Inv X pins σ1 H1 sI := Ja.ofTry ok
    refine Sky.land Zc.steady (by rw [ok.frames, hs]) hf (by rw [← hs]; exact sky) fun h1 fl1 up1 => ?_
    have nfr : ∀ {h : Heap}, HandSPX.FlyingZ B (X.env :: X.outer) a (Zc cls d) h → a ∉ frs X.stack := fun {h} fl hm => by
      obtain ⟨o, vs, e1, _, e2⟩ := fl.there
      rw [hs] at hm
      obtain ⟨_, o2, e3, q⟩ := fl.2.2.1.mem hm
      rw [e1] at e3
      cases e3
      exact q vs e2
    have tr : ∀ {h : Heap}, HandSPX.FlyingZ B (X.env :: X.outer) a (Zc cls d) h → s'.heap.UpToSlots h → Inv X pins σ1 (upd H1 a (xO cls a d)) { s' with heap := h } := fun {h} fl k => by
      obtain ⟨o, vs, e1, e2, e3⟩ := fl.there
      exact down J nb fl.1 (up.trans k) os ag na fl.2.1 (nfr fl) e1 e2 e3
    have S1 := tr fl1 up1
    obtain ⟨o1, vs1, g1, z1, d1⟩ := fl1.there
    refine wpAny_handleBy_cons (codeAny_handlers_test ?_) (fun q => by cases q)
    have LT : PySem.W.Looks (model X.prog X.w) h1 (typeOf (.ref a)) cls := fun A Q E s k q => wpAny_typeOf_ref (k _ _ g1) (z1.1.symm ▸ q)
    have LM := PySem.W.exm_one (M := model X.prog X.w) S1.kIn LT eb
    have T1 : Inv (X.suite a (X.pn ++ pins)) [] σ1 _ { s' with heap := h1 } := toSuite S1
    have test : ∀ {Q : Value → Shared → Prop} {E : Value → Shared → Prop}, Q c { s' with heap := h1 } → wpAny (model X.prog X.w) (X.A.mark (some (.ref a))) (eval (.Name x np) X.env) Q E { s' with heap := h1 } := fun {Q E} q => by
      rcases hc with ⟨y1, y2, y3 | ⟨y3, y4, y5⟩⟩
      · exact ld_glob (X := X.suite a _) T1 y1 y3 q y2
      · exact ld_blt (X := X.suite a _) T1 y1 y3 y4 q y5 y2
    refine test (LM.here ?_)
    cases b with
    | true =>
      refine codeAny_handlers_suite_as (HandSPX.lands_againZ fl1 fun h2 fl2 up2 => ?_)
      have T2 : Inv (X.suite a (X.pn ++ pins)) [] σ1 _ { s' with heap := h2 } := toSuite (tr fl2 (up1.trans up2))
      refine store_ok (X := X.suite a _) (v := .ref a) T2 nd hi (.inl hln) rfl (fun s3 T3 => ?_) (.inr hln)
      refine wpAny_mono ((hsu a cls d (X.pn ++ pins)).run [] s3 _ _ _ T3 (yes rfl a na)) (fun f s4 hsp => ?_) (fun _ _ z => z.elim)
      have leave : ∀ {σ4 : St} {H4 : Hp} {Q : Shared → Prop}, Inv (X.suite a (X.pn ++ pins)) [] σ4 H4 s4 → (∀ s5, Inv X pins (σ4.set i none) H4 s5 → Q s5) →
          wpAny (model X.prog X.w) X.A (do bindName X.env n .none; unbindBehindTheSuite X.env n pos') (fun _ s5 => Q s5) X.xe s4 := fun T4 hq => gone_ok (ofSuite ok T4) nd hi hln hq
      match f, hsp with
      | .next, ⟨σ4, H4, T4, q⟩ => exact leave T4 fun s5 J5 => ⟨_, _, J5, q⟩
      | .brk, ⟨σ4, H4, T4, q⟩ => exact leave T4 fun s5 J5 => ⟨_, _, J5, q⟩
      | .cont, ⟨σ4, H4, T4, q⟩ => exact leave T4 fun s5 J5 => ⟨_, _, J5, q⟩
      | .ret u, ⟨v4, σ4, H4, T4, r4, q⟩ => exact leave T4 fun s5 J5 => ⟨_, _, _, J5, r4, q⟩
    | false =>
      refine wpAny_handleBy_nil ?_
      obtain ⟨_, _, _, o2, vs2, T, oT, ts2, g2, z2, d2, w2, _⟩ := id fl1
      unfold PySem.passOn
      refine wpAny_bind (wpAny_field g2 d2 w2 ?_)
      rw [if_neg (by simp : ¬ ((Value.ref T == Value.none) = true))]
      have on : wpAny (model X.prog X.w) X.A (setFlight (.ref a) X.env.frame) (fun _ s4 => wpAny (model X.prog X.w) X.A (throw (.ref a) : Sem Flow) (SP X pins D) X.xe s4) X.xe { s' with heap := h1 } := by
        rw [hf]
        exact HandSPX.setFlight_upZ fl1 fun h4 held up4 => wpAny_throw (tk _ _ ⟨a, B, sI, pins, σ1, H1, cls, d, rfl, J, nb, (up.trans up1).trans up4, .inr (.inr (by rw [hs]; exact held)), na, os, ag, no rfl⟩)
      first
        | exact wpAny_bind (wpAny_pure (wpAny_bind on))
        | exact wpAny_bind on
  · match f, hsp with
    | .next, ⟨σ1, H1, J, q⟩ => exact wpAny_execs_nil ⟨σ1, H1, J.ofTry ok, q⟩
    | .brk, ⟨σ1, H1, J, q⟩ => exact ⟨σ1, H1, J.ofTry ok, q⟩
    | .cont, ⟨σ1, H1, J, q⟩ => exact ⟨σ1, H1, J.ofTry ok, q⟩
    | .ret u, ⟨v, σ1, H1, J, r, q⟩ => exact ⟨v, σ1, H1, J.ofTry ok, r, q⟩
end
end Dy
/-! ### what is asked of the classes of refusals -/
namespace Dy
open PySem PySem.Spec PyProof.Rows L2
/-- the one class beneath the other, by their names (all stand under YardError) -/
def isaC (c y : Str) : Bool := c == y || y == ("YardError" : Str)
def exD (K : PySem.W.Frag) (C : Addr) : Bool :=
  He.eqO (PySem.W.findIn K (.ref C) "__getattribute__") (some (some (.builtin "BaseException.__getattribute__"))) && (He.eqO (PySem.W.findIn K (.ref C) "__getattr__") (some none) &&
  (decide (PySem.W.subIn K (.ref C) (.type "BaseException") = some true) && (PySem.W.hasDictIn K C && (He.eqO (PySem.W.findIn K (.ref C) "__class__") (some (some (.builtin "object.__class__"))) &&
  (He.eqO (PySem.W.specialIn K (.builtin "object.__class__") "__get__") (some (some (.builtin "getset_descriptor.__get__"))) && (decide (PySem.W.takesIn K (.builtin "object.__class__") = some true) &&
  decide (PySem.W.mroIn K C (.type "object") = some true)))))))
theorem exD_ok {K : PySem.W.Frag} {C : Addr} (h : exD K C = true) : L2.ExcC K C := by
  obtain ⟨h1, h⟩ := He.ba h
  obtain ⟨h2, h⟩ := He.ba h
  obtain ⟨h3, h⟩ := He.ba h
  obtain ⟨h4, h⟩ := He.ba h
  obtain ⟨h5, h⟩ := He.ba h
  obtain ⟨h6, h⟩ := He.ba h
  obtain ⟨h7, h8⟩ := He.ba h
  exact ⟨He.eqO_ok h1, He.eqO_ok h2, of_decide_eq_true h3, h4, He.eqO_ok h5, He.eqO_ok h6, of_decide_eq_true h7, of_decide_eq_true h8⟩
/-- ks: the classes raised; cs: those asked after -/
def exB (ks cs : List Str) (K : PySem.W.Frag) : Bool := ks.all fun c => exD K (He.ga K c) && (decide (PySem.W.kitOne K (.ref (He.ga K c)) (.type "ValueError") = some true) &&
  cs.all fun y => decide (PySem.W.exmOne K (.ref (He.ga K c)) (.ref (He.ga K y)) = some (isaC c y)) && decide (PySem.W.kitOne K (.ref (He.ga K c)) (.ref (He.ga K y)) = some (isaC c y)))
structure ExF (K : PySem.W.Frag) (mg : Str → Option Value) (ks cs : List Str) : Prop where
  glo : ∀ y ∈ cs, mg y = some (.ref (He.ga K y))
  d : ∀ c ∈ ks, L2.ExcC K (He.ga K c)
  ve : ∀ c ∈ ks, PySem.W.kitOne K (.ref (He.ga K c)) (.type "ValueError") = some true
  exm : ∀ c ∈ ks, ∀ y ∈ cs, PySem.W.exmOne K (.ref (He.ga K c)) (.ref (He.ga K y)) = some (isaC c y)
  isi : ∀ c ∈ ks, ∀ y ∈ cs, PySem.W.kitOne K (.ref (He.ga K c)) (.ref (He.ga K y)) = some (isaC c y)
theorem exB_ok {ks cs : List Str} {K : PySem.W.Frag} {mg : Str → Option Value} (h : exB ks cs K = true) (g : ∀ y ∈ cs, mg y = some (.ref (He.ga K y))) : ExF K mg ks cs := by
  have one : ∀ c ∈ ks, L2.ExcC K (He.ga K c) ∧ PySem.W.kitOne K (.ref (He.ga K c)) (.type "ValueError") = some true ∧
      ∀ y ∈ cs, PySem.W.exmOne K (.ref (He.ga K c)) (.ref (He.ga K y)) = some (isaC c y) ∧ PySem.W.kitOne K (.ref (He.ga K c)) (.ref (He.ga K y)) = some (isaC c y) := fun c hc => by
    have h1 := List.all_eq_true.mp h c hc
    obtain ⟨h2, h1⟩ := He.ba h1
    obtain ⟨h3, h1⟩ := He.ba h1
    refine ⟨exD_ok h2, of_decide_eq_true h3, fun y hy => ?_⟩
    obtain ⟨h4, h5⟩ := He.ba (List.all_eq_true.mp h1 y hy)
    exact ⟨of_decide_eq_true h4, of_decide_eq_true h5⟩
  exact ⟨g, fun c hc => (one c hc).1, fun c hc => (one c hc).2.1, fun c hc y hy => ((one c hc).2.2 y hy).1, fun c hc y hy => ((one c hc).2.2 y hy).2⟩
/-! ### try .. except C as e -/
def keepS (i : Nat) (h : REnv → SR) (e : D) (ρ : REnv) : SR := match h (ρ.set i (.val e)) with
  | .next ρ2 => .next (ρ2.set i .un)
  | .ret v => .ret v
  | .err _ _ => .bad
  | .bad => .bad
def catchS (ks : List Str) (y : Str) (i : Nat) (h : REnv → SR) (ρ : REnv) : D → SR
  | .exc c fs xs => if ks.contains c = true then (if isaC c y = true then keepS i h (.exc c fs xs) ρ else .err (.exc c fs xs) ρ) else .bad
  | _ => .bad
def sTryAs (ks : List Str) (y : Str) (i : Nat) (g h : REnv → SR) : REnv → SR := fun ρ => match g ρ with
  | .err e ρ' => catchS ks y i h ρ' e
  | u => u
section
variable {X : Cx} {W : WX} {y n : Str} {i : Nat} {body suite : List Stmt} {b₀ : Stmt} {np pos pos' : Pos} {g h : REnv → SR} {ks cs : List Str}
theorem ss_tryAs (E : ExF X.K X.mg ks cs) (nd : X.N.Nodup) (tk : Takes X W)
    (hb : ∀ (W : WX) (pn : List (Addr × Obj)) (xe : Value → Shared → Prop), Takes (X.tr pn xe) W → PassesOwn (model X.prog X.w) X.A X.env xe → SSs (X.tr pn xe) W body g)
    (hsu : ∀ (a : Addr) (pn : List (Addr × Obj)), SSs (X.suite a pn) (fun _ _ _ _ => False) (b₀ :: suite) h)
    (hs : X.stack = X.env :: X.outer := by rfl) (hf : X.env.frame = some X.env.locals := by rfl) (hi : X.N[i]? = some n := by rfl) (hln : X.env.kindOf n = some .local := by rfl)
    (hg : Gl X y := by rfl) (hy : y ∈ cs := by decide) (hdb : (y == ("__debug__" : Str)) = false := by decide) :
    SS X W (.Try body [.ExceptHandler (some (.Name y np)) (some n) (b₀ :: suite) pos'] [] [] pos) (sTryAs ks y i g h) := by
  refine (ps_try_keep (tb := fun W' => rs X.K W' g) (ts := fun _ _ => rs X.K (fun _ _ _ _ => False) h) (Wo := W) hs hf nd hi hln ⟨hg, hdb, .inl (E.glo y hy)⟩ tk hb fun a _ _ pn => hsu a pn).dy fun D σ H ⟨G, F, ρ, r, p⟩ => ⟨G, F, ρ, r, ?_⟩
  unfold sTryAs at p
  cases e : g ρ with
  | next ρ' =>
    rw [e] at p
    exact p
  | ret v =>
    rw [e] at p
    exact p
  | bad =>
    rw [e] at p
    exact p
  | err u ρ' =>
    rw [e] at p
    have p : PostS X.K W D G F (catchS ks y i h ρ' u) := p
    intro σ1 F1 H1 cls dd s1 n1 r1 xd
    obtain ⟨c, fs, xs, vs, rfl, rfl, hl, hv, hd⟩ := xd
    have p : PostS X.K W D G F (if ks.contains c = true then (if isaC c y = true then keepS i h (.exc c fs xs) ρ' else .err (.exc c fs xs) ρ') else .bad) := p
    by_cases hk : ks.contains c = true
    · rw [if_pos hk] at p
      have hk' : c ∈ ks := by simpa using hk
      refine ⟨isaC c y, E.exm c hk' y hy, fun yes a na => ?_, fun no => ?_⟩
      · rw [if_pos yes] at p
        have ex : Ext F1 H1 (upd F1 a (xO (.ref (He.ga X.K c)) a dd)) (upd H1 a (xO (.ref (He.ga X.K c)) a dd)) := Ext.new r1.f na
        have r2 := r1.ext ex
        have rp : Rep X.K (upd F1 a (xO (.ref (He.ga X.K c)) a dd)) (.exc c fs xs) (.ref a) := by
          simp only [Rep]
          refine ⟨a, dd, vs, rfl, upd_same, hl, RepL.mono ex.f _ _ hv, ?_⟩
          cases dd with
          | none => exact hd
          | some d => exact ex.f _ _ hd
        refine ⟨G, _, _, r2.setV rp, ?_⟩
        have p := PostS.ext (s1.trans ex.f) (n1.trans (ex.newG r1.g)) p
        unfold keepS at p
        cases e2 : h (ρ'.set i (.val (.exc c fs xs))) with
        | next ρ2 =>
          rw [e2] at p
          exact fun σ' F' H' s2 n2 r3 => p _ F' H' s2 n2 r3.unset
        | ret v =>
          rw [e2] at p
          exact p
        | err _ _ =>
          rw [e2] at p
          exact p.elim
        | bad =>
          rw [e2] at p
          exact p.elim
      · rw [if_neg (by simp [no])] at p
        exact p σ1 F1 H1 _ dd s1 n1 r1 ⟨c, fs, xs, vs, rfl, rfl, hl, hv, hd⟩
    · rw [if_neg hk] at p
      exact p.elim
/-- a class of refusals, as a value -/
theorem se_gcls {c : Str} {p : Pos} (hm : X.mg c = some (.ref (He.ga X.K c))) (hg : Gl X c := by rfl) (hd : (c == ("__debug__" : Str)) = false := by decide) : SE X W (.Name c p) (eC (.cls c)) :=
  se_gref hg hm (fun F => by simp only [Rep]) hd
end
/-! ### isinstance of a kept refusal -/
section
variable {K : PySem.W.Frag} {x D : Addr} {ox : Obj} {od : Option Obj}
theorem xk_find (T : L2.ExcC K D) : PySem.W.findObj K D od "__class__" = some (.bind (.builtin "getset_descriptor.__get__") (.builtin "object.__class__")) := by
  obtain ⟨cd, hc, _⟩ := PySem.W.any_some T.hd
  unfold PySem.W.findObj
  simp only [hc, T.ha, Option.bind_some, T.hn, T.ht]
theorem xk_class {prog : Program} {w : World} {A : Around} {E : Value → Shared → Prop} {Q : Option Value → Shared → Prop} {hp : Heap} {g : Array GenState} {dr : Drawn} {t : Nat} {os : OsState} (T : L2.ExcC K D) (Y : K.In hp) (J : PySem.W.InstAt hp x ox D od) (q : Q (some (.ref D)) ⟨hp, g, dr, t + 1, os⟩) :
    wpAny (model prog w) A (getAttr? (.ref x) "__class__") Q E ⟨hp, g, dr, t, os⟩ := by
  have l0 := J.type (M := model prog w)
  have l1 := PySem.W.looks_findIn (M := model prog w) Y T.hg
  have l2 := PySem.W.looks_findIn (M := model prog w) Y T.hk
  have l3 := PySem.W.looks_find (M := model prog w) Y J (xk_find T)
  have ls : PySem.W.Looks (model prog w) hp (isInstance (.ref x) (.type "BaseException")) true := l0.andThen (PySem.W.looks_subIn Y T.hs)
  have b2 : (Value.builtin "BaseException.__getattribute__" == Value.builtin "object.__getattribute__") = false := by decide +kernel
  have b1 : (onTheHeap (Value.ref D) && Value.builtin "BaseException.__getattribute__" == Value.builtin "object.__getattribute__") = false := (congrArg (fun z => onTheHeap (Value.ref D) && z) b2).trans (Bool.and_false _)
  unfold getAttr? getAttrBy? getAttrBy
  refine wpAny_bind (wpAny_mkText (wpAny_bind (wpAny_attempt (wpAny_holding (wpAny_bind (l0.at (wpAny_bind (l1.at ?_))))))))
  show wpAny _ _ (ite ((onTheHeap (Value.ref D) && Value.builtin "BaseException.__getattribute__" == Value.builtin "object.__getattribute__") = true) _ _) _ _ _
  rw [if_neg (by rw [b1]; decide)]
  unfold getAttrByItsOwn hookBefore
  refine wpAny_bind (by
    rw [if_pos (show onTheHeap (Value.ref D) = true from rfl)]
    refine l2.at (wpAny_bind (wpAny_attempt (wpAny_holding ?_)))
    unfold callGetattribute
    rw [if_neg (show ¬ ((false && onTheHeap (Value.builtin "BaseException.__getattribute__")) = true) from Bool.false_ne_true)]
    unfold boundAndCalled
    rw [PySem.F.excAttr_ValueError.ga.bind (.ref x)]
    refine wpAny_bind (wpAny_pure ?_)
    show wpAny _ _ (call (Value.builtin "BaseException.__getattribute__") [Value.ref x, Value.str "__class__" t]) _ _ _
    refine wpAny_call (codeAny_call_builtin PySem.F.excAttr_ValueError.ga.plain PySem.F.entry_bexc_ga (@PySem.W.check_slot (model prog w) _ _ ⟨hp, g, dr, t + 1, os⟩ "BaseException.__getattribute__" "BaseException" "__getattribute__" (.ref x)
      [.str "__class__" t] [] _ (by decide +kernel) (by decide +kernel) ls (PySem.F.args_bexc_ga (.ref x) (.str "__class__" t)) ?_))
    unfold Builtin.«object.__getattribute__»
    refine wpAny_bind (wpAny_of_eq (a := (Value.ref x, [Value.str "__class__" t])) (by first | rfl | (simp only [slotArgs]; rfl)) (wpAny_bind (wpAny_pure (wpAny_bind (l0.at (wpAny_bind (l3.at ?_)))))))
    show wpAny _ _ (holding [Value.builtin "object.__class__"] (call (Value.builtin "getset_descriptor.__get__") [Value.builtin "object.__class__", Value.ref x, Value.ref D]) >>= ret) _ _ _
    refine wpAny_bind (wpAny_holding (wpAny_call (PySem.W.class_get (s := ⟨hp, g, dr, t + 1, os⟩) (ox := ox) (od := od) Y J T.hm (wpAny_pure ?_))))
    show wpAny _ _ (handedOut (.ref D)) _ _ _
    rw [PySem.W.handedOut_of (v := .ref D) rfl]
    first
      | exact wpAny_pure (wpAny_pure q)
      | exact wpAny_pure q
      | exact wpAny_pure (wpAny_bind (wpAny_pure (wpAny_pure q))))
theorem xk_kit (T : L2.ExcC K D) : PySem.W.KitX K (.ref x) (.ref D) (fun h => PySem.W.InstAt h x ox D od) where
  ty := fun _ _ _ J => J.type
  it := fun M h Y _ => by
    obtain ⟨cd, hc, _⟩ := PySem.W.any_some T.hd
    unfold PySem.W.clsIn at hc
    split at hc
    · rename_i c1 d1 cd1 sl1 ho
      exact fun A' Q' E' s' k q => by
        unfold isType loadHead
        exact wpAny_bind (wpAny_loadPart (k _ _ (Y _ _ ho)) (wpAny_pure q))
    · cases hc
  ne := fun h tp dd its n sl Y htp => Bool.eq_false_iff.mpr fun q => by
    obtain ⟨cd, hc, _⟩ := PySem.W.any_some T.hd
    obtain rfl : D = tp := Value.ref.inj (beq_iff_eq.mp q)
    unfold PySem.W.clsIn at hc
    split at hc
    · rename_i c1 d1 cd1 sl1 ho
      have z := (Y _ _ ho).symm.trans htp
      cases z
    · cases hc
  ca := fun {_ _ _ _ _ s} Y J k => by
    obtain ⟨hp, g, dr, t, os⟩ := s
    exact xk_class T Y J k
end
section
variable {X : Cx} {pins : List (Addr × Obj)} {σ : St} {H : Hp} {s : Shared} {a C : Addr} {dd : Option Addr}
/-- where a refusal lies -/
theorem xk_at (I : Inv X pins σ H s) (ha : H a = some (xO (.ref C) a dd)) (hd : ∀ d, dd = some d → ∃ fs, H d = some (.xd fs)) : ∃ ox od, PySem.W.InstAt s.heap a ox C od := by
  have z : ObjOk X.prog X.w H s.heap a (.ext fun h => ∃ (oe : Obj) (vs : Array Value), h.get? a = some oe ∧ Zc (.ref C) dd oe ∧ oe.data = .fields vs) := I.hok a _ ha
  obtain ⟨⟨oe, vs, e1, ⟨e2, e3⟩, e4⟩, _⟩ := z
  cases dd with
  | none => exact ⟨oe, none, e1, e2, by unfold PySem.W.notCls; rw [e4], by rw [e3]; trivial⟩
  | some d =>
    obtain ⟨fs, ed⟩ := hd d rfl
    have hx : ObjOk X.prog X.w H s.heap d (.xd fs) := I.hok d _ ed
    obtain ⟨mA, hns, _⟩ := hx
    obtain ⟨o, ho, _⟩ := lookIn_ns hns
    exact ⟨oe, some o, e1, e2, by unfold PySem.W.notCls; rw [e4], by rw [e3]; exact ho⟩
def rIsK (K : PySem.W.Frag) : List V → Hp → VK → Prop := fun xs H Q => ∃ (a C : Addr) (dd : Option Addr) (x : V) (b : Bool), xs = [.ref a, x] ∧ L2.ExcC K C ∧ H a = some (xO (.ref C) a dd) ∧ (∀ d, dd = some d → ∃ fs, H d = some (.xd fs)) ∧
  ((∃ cv, ClsV x cv ∧ PySem.W.kitOne K (.ref C) cv = some b) ∨ ∃ tp cs us, x = .ref tp ∧ SqT K H tp cs ∧ Paired ClsV cs us ∧ PySem.W.kitAny K (.ref C) us = some b) ∧ Q (.bl b) H
theorem call_isK : CallR X (.builtin "isinstance") (rIsK X.K) := fun pins s σ H xs us Q I r h => by
  obtain ⟨a, C, dd, x, b, rfl, T, ha, hd, k, q⟩ := h
  obtain ⟨u1, u2, rfl, r1, r2⟩ := vals2 r
  obtain rfl : u1 = Value.ref a := r1
  obtain ⟨ox, od, J⟩ := xk_at I ha hd
  rcases k with ⟨cv, kc, e⟩ | ⟨tp, cs, us, rfl, hT, kc, e⟩
  · obtain rfl := kc.eq r2
    exact PySem.W.kia_one (xk_kit T) I.kIn J e (fun z => nomatch z) fun tk => ⟨.bl b, H, I.tok tk, rfl, q⟩
  · obtain rfl : u2 = Value.ref tp := r2
    obtain ⟨its, rv, ⟨o, h1, h2, n, h3⟩, _⟩ := I.tuple hT
    obtain rfl := ClsV.all kc rv
    obtain ⟨oc, odd, dt, sl⟩ := o
    simp only at h2 h3
    subst h2 h3
    exact PySem.W.kia_tup (xk_kit T) I.kIn J h1 e (fun z => nomatch z) fun tk => ⟨.bl b, H, I.tok tk, rfl, q⟩
end
def clsNs : List D → Option (List Str)
  | [] => some []
  | .cls y :: r => (clsNs r).map (y :: ·)
  | _ => none
def oIsX (ks cs : List Str) : List D → Option D
  | [.exc c _ _, .cls y] => if ks.contains c = true ∧ cs.contains y = true then some (.bl (isaC c y)) else none
  | [.exc c _ _, .ty n] => if ks.contains c = true ∧ n = "ValueError" then some (.bl true) else none
  | [.exc c _ _, .tup ys] => (clsNs ys).bind fun ns => if ks.contains c = true ∧ ns.all cs.contains = true then some (.bl (ns.any (isaC c))) else none
  | _ => none
theorem clsNs_rep {K : PySem.W.Frag} {F : Hp} {c : Str} {ks cs : List Str} {mg : Str → Option Value} (E : ExF K mg ks cs) (hc : c ∈ ks) : ∀ {ys : List D} {vs : List V} {ns : List Str}, RepL K F ys vs → clsNs ys = some ns → ns.all cs.contains = true →
    ∃ us, Paired ClsV vs us ∧ PySem.W.kitAny K (.ref (He.ga K c)) us = some (ns.any (isaC c))
  | [], vs, ns, r, e, _ => by
    cases e
    simp only [RepL] at r
    subst r
    exact ⟨[], .nil, kitAny_nil⟩
  | y :: ys, vs, ns, r, e, al => by
    cases y with
    | cls y =>
      have e : (clsNs ys).map (y :: ·) = some ns := e
      cases q : clsNs ys with
      | none => rw [q] at e; cases e
      | some ms =>
        rw [q] at e
        cases e
        simp only [RepL] at r
        obtain ⟨v, rr, rfl, h1, h2⟩ := r
        simp only [Rep] at h1
        subst h1
        rw [List.all_cons, Bool.and_eq_true] at al
        obtain ⟨us, k, ka⟩ := clsNs_rep E hc h2 q al.2
        refine ⟨_ :: us, .cons (.own _) k, kitAny_cons (E.isi c hc y (by simpa using al.1)) (fun z => ?_) fun z => ?_⟩
        · rw [List.any_cons, z, Bool.false_or]; exact ka
        · rw [List.any_cons, z, Bool.true_or]
    | _ => cases e
theorem d_isx {X : Cx} {ks cs : List Str} (E : ExF X.K X.mg ks cs) : CallR X (.builtin "isinstance") (rIsK X.K) ∧ OpN X.K (rIsK X.K) (oIsX ks cs) := ⟨call_isK, fun F H xs as d Q s ra e q => by
  unfold oIsX at e
  split at e
  · rename_i c fs zs y
    split at e
    · rename_i hh
      cases e
      simp only [RepL, Rep] at ra
      obtain ⟨v, r1, rfl, ⟨a, dd, ws, rfl, ha, hl, hr, hd⟩, v2, r2, rfl, rfl, rfl⟩ := ra
      refine ⟨a, _, dd, _, _, rfl, E.d c (by simpa using hh.1), s _ _ ha, fun d ed => ?_, .inl ⟨_, .own _, E.isi c (by simpa using hh.1) y (by simpa using hh.2)⟩, now q s Rep.mk_bl⟩
      subst ed
      exact ⟨_, s _ _ hd⟩
    · cases e
  · rename_i c fs zs n
    split at e
    · rename_i hh
      obtain ⟨h1, rfl⟩ := hh
      cases e
      simp only [RepL, Rep] at ra
      obtain ⟨v, r1, rfl, ⟨a, dd, ws, rfl, ha, hl, hr, hd⟩, v2, r2, rfl, rfl, rfl⟩ := ra
      refine ⟨a, _, dd, _, _, rfl, E.d c (by simpa using h1), s _ _ ha, fun d ed => ?_, .inl ⟨_, .ty _, E.ve c (by simpa using h1)⟩, now q s Rep.mk_bl⟩
      subst ed
      exact ⟨_, s _ _ hd⟩
    · cases e
  · rename_i c fs zs ys
    cases en : clsNs ys with
    | none => rw [en] at e; cases e
    | some ns =>
      rw [en, Option.bind_some] at e
      split at e
      · rename_i hh
        cases e
        simp only [RepL, Rep] at ra
        obtain ⟨v, r1, rfl, ⟨a, dd, ws, rfl, ha, hl, hr, hd⟩, v2, r2, rfl, ⟨tp, tvs, rfl, ht, htr⟩, rfl⟩ := ra
        have hc : c ∈ ks := by simpa using hh.1
        obtain ⟨us, k, ka⟩ := clsNs_rep E hc htr en hh.2
        refine ⟨a, _, dd, _, _, rfl, E.d c hc, s _ _ ha, fun d ed => ?_, .inr ⟨tp, tvs, us, rfl, Same.seqT s ht, k, ka⟩, now q s Rep.mk_bl⟩
        subst ed
        exact ⟨_, s _ _ hd⟩
      · cases e
  · cases e⟩
/-! ### the field of a kept refusal -/
section
variable {X : Cx} {W : WX} {e : Expr} {f : REnv → R D} {pos : Pos} {n : Str} {te : TE}
def tXat (K : PySem.W.Frag) (n : Str) (te : TE) : TE := fun σ H Q => te σ H fun x H1 => ∃ (a C d : Addr) (fs : List (Str × V)) (v : V), x = .ref a ∧ L2.ExcC K C ∧ PySem.W.findIn K (.ref C) n = some none ∧ H1 a = some (xO (.ref C) a (some d)) ∧
  H1 d = some (.xd fs) ∧ fs.lookup n = some v ∧ Q v H1
theorem pe_xat (he : PE X e te) (hb : attributeBase e n X.env (eval e X.env) = eval e X.env := by rfl) : PE X (.Attribute e n pos) (tXat X.K n te) :=
  ⟨fun pins s σ H Q I h => attr_of hb (thn (he.run pins s σ H _ I h) fun u s1 ⟨x, H1, I1, rx, a, C, d, fs, v, ex, T, hno, ea, ed, lk, q⟩ => by
    subst ex
    obtain rfl : u = Value.ref a := rx
    have z : ObjOk X.prog X.w H1 s1.heap a (.ext fun h => ∃ (oe : Obj) (vs : Array Value), h.get? a = some oe ∧ Zc (.ref C) (some d) oe ∧ oe.data = .fields vs) := I1.hok a _ ea
    obtain ⟨⟨oe, vs, e1, ⟨e2, e3⟩, e4⟩, _⟩ := z
    have hx : ObjOk X.prog X.w H1 s1.heap d (.xd fs) := I1.hok d _ ed
    obtain ⟨mA, hns, hr⟩ := hx
    obtain ⟨od, ho, hl⟩ := lookIn_ns hns
    obtain ⟨y, hy, ry⟩ := RelO.some_of (v := v) (o := mA n) (lk ▸ hr n)
    have J : PySem.W.InstAt s1.heap a oe C (some od) := ⟨e1, e2, by unfold PySem.W.notCls; rw [e4], by rw [e3]; exact ho⟩
    exact HandSPX.exc_get I1.kIn J T.hg T.hk T.hs (PySem.W.findObj_own T.hd hno rfl ((hl n).trans (congrArg some hy))) (handed_of ry) ⟨v, H1, I1.tok _, ry, q⟩)⟩
def oAt (ks : List Str) (n : Str) : D → Option D
  | .exc c fs xs => if ks.contains c = true then (fs.zip xs).lookup n else none
  | _ => none
theorem lookup_rep {K : PySem.W.Frag} {F : Hp} : ∀ {fs : List Str} {xs : List D} {vs : List V} {d : D}, RepL K F xs vs → (fs.zip xs).lookup n = some d → ∃ v, (fs.zip vs).lookup n = some v ∧ Rep K F d v
  | [], xs, vs, d, r, e => by simp at e
  | g :: fs, [], vs, d, r, e => by simp at e
  | g :: fs, x :: xs, vs, d, r, e => by
    simp only [RepL] at r
    obtain ⟨v, rr, rfl, h1, h2⟩ := r
    rw [List.zip_cons_cons, List.lookup_cons] at e ⊢
    cases hq : (n == g) with
    | true =>
      rw [hq] at e
      cases e
      exact ⟨v, rfl, h1⟩
    | false =>
      rw [hq] at e
      exact lookup_rep h2 e
theorem se_xat {ks cs : List Str} (E : ExF X.K X.mg ks cs) (na : ∀ c ∈ ks, PySem.W.findIn X.K (.ref (He.ga X.K c)) n = some none) (he : SE X W e f) (hb : attributeBase e n X.env (eval e X.env) = eval e X.env := by rfl) :
    SE X W (.Attribute e n pos) (eUn (oAt ks n) f) :=
  (pe_xat he hb).dy fun σ H Q ⟨G, F, ρ, r, p⟩ => ⟨G, F, ρ, r, Post.bind p fun d v F1 H1 _ e1 r1 p1 => by
    cases q : oAt ks n d with
    | none => rw [q] at p1; exact p1.elim
    | some y =>
      rw [q] at p1
      cases d with
      | exc c fs xs =>
        have q : (if ks.contains c = true then (fs.zip xs).lookup n else none) = some y := q
        by_cases hk : ks.contains c = true
        · rw [if_pos hk] at q
          simp only [Rep] at r1
          obtain ⟨a, dd, vs, rfl, ha, hl, hr, hd⟩ := r1
          cases dd with
          | none =>
            subst hd
            simp at q
          | some d =>
            obtain ⟨v, lk, rv⟩ := lookup_rep hr q
            exact ⟨a, _, d, _, v, rfl, E.d c (by simpa using hk), na c (by simpa using hk), e1.s _ _ ha, e1.s _ _ hd, lk, p1 v F1 H1 (.refl e1.s) rv⟩
        · rw [if_neg hk] at q
          cases q
      | _ => cases q⟩
end
/-! ### the head's facts, with one more asked -/
def obsE (fa : List He.Fa) (fn : List He.DefD) (ex : PySem.W.Frag → Bool) (K : PySem.W.Frag) : He.AlD := ((He.obsD fa fn K).1 && ex K, (He.obsD fa fn K).2)
def obsEG (n : Nat) (fa : List He.Fa) (fn : List He.DefD) (ex : PySem.W.Frag → Bool) (g : Addr → Option Obj) : He.AlD := obsE fa fn ex (He.frG g (PySem.cStatics :: He.asD g n))
def SaysE (fa : List He.Fa) (fn : List He.DefD) (ex : PySem.W.Frag → Bool) (K : PySem.W.Frag) : Prop := obsE fa fn ex K = He.valD fn
theorem SaysE.d {fa : List He.Fa} {fn : List He.DefD} {ex : PySem.W.Frag → Bool} {K : PySem.W.Frag} (c : SaysE fa fn ex K) : He.SaysD fa fn K := by
  have h : obsE fa fn ex K = He.valD fn := c
  have h1 := congrArg Prod.fst h
  have h2 := congrArg Prod.snd h
  exact Prod.ext (He.ba h1).1 h2
theorem SaysE.ex {fa : List He.Fa} {fn : List He.DefD} {ex : PySem.W.Frag → Bool} {K : PySem.W.Frag} (c : SaysE fa fn ex K) : ex K = true := (He.ba (show ((He.obsD fa fn K).1 && ex K) = true from congrArg (fun z : He.AlD => z.1) (show obsE fa fn ex K = He.valD fn from c))).2
def hookE (n : Nat) (fa : List He.Fa) (fn : List He.DefD) (ex : PySem.W.Frag → Bool) : PySem.W.Hook where
  α := He.AlD
  obs := fun s => obsEG n fa fn ex s.heap.get?
  val := fun _ => He.valD fn
  says := fun _ h => ∃ K : PySem.W.Frag, K.In h ∧ SaysE fa fn ex K
  of := fun _ _ e => ⟨_, He.frG_in, e⟩
  keeps := fun _ _ _ ⟨K, hK, c⟩ k => ⟨K, PySem.W.Frag.In.keeps hK k, c⟩
theorem obsEG_eq {n : Nat} {fa : List He.Fa} {fn : List He.DefD} {ex : PySem.W.Frag → Bool} {g : Addr → Option Obj} {s : Shared} (h : ∀ a, g a = s.heap.get? a) : obsEG n fa fn ex g = (hookE n fa fn ex).obs s := by
  have e : g = s.heap.get? := funext h
  rw [e] <;> rfl
section
variable {ρ : REnv} {N : REnv → Prop} {T : D → Prop} {E : D → REnv → Prop} {g h : REnv → SR} {ks cs : List Str} {y : Str} {i : Nat}
theorem R.wp.weak {α : Type} {x : R α} {P : α → Prop} {E : D → Prop} (h : x.wp P NoE) : x.wp P E := h.imp (fun _ q => q) fun _ z => z.elim
theorem sp_tryAs (h1 : (g ρ).wp N T fun e ρ' => (catchS ks y i h ρ' e).wp N T E) : (sTryAs ks y i g h ρ).wp N T E := by
  unfold sTryAs
  cases e : g ρ with
  | next ρ' => rw [e] at h1; exact h1
  | ret d => rw [e] at h1; exact h1
  | err u ρ' => rw [e] at h1; exact h1
  | bad => rw [e] at h1; exact h1
theorem sp_catch {c : Str} {fs : List Str} {xs : List D} (hk : ks.contains c = true) (hy : isaC c y = true) (h1 : Upd ρ i (.val (.exc c fs xs)) fun ρ1 => (h ρ1).wp (fun ρ2 => Upd ρ2 i .un N) T fun _ _ => False) : (catchS ks y i h ρ (.exc c fs xs)).wp N T E := by
  show SR.wp (if ks.contains c = true then (if isaC c y = true then keepS i h (.exc c fs xs) ρ else .err (.exc c fs xs) ρ) else .bad) N T E
  rw [if_pos hk, if_pos hy]
  have h1 : (h (ρ.set i (.val (.exc c fs xs)))).wp (fun ρ2 => Upd ρ2 i .un N) T fun _ _ => False := h1
  unfold keepS
  cases e : h (ρ.set i (.val (.exc c fs xs))) with
  | next ρ' => rw [e] at h1; exact h1
  | ret d => rw [e] at h1; exact h1
  | err u ρ' => rw [e] at h1; exact h1.elim
  | bad => rw [e] at h1; exact h1.elim
end
section
variable {ks cs ns : List Str} {c y : Str} {fs : List Str} {xs ys : List D} {P : D → Prop} {b : Bool}
theorem w_isxT (e : clsNs ys = some ns) (h1 : (ks.contains c && ns.all cs.contains) = true) (h2 : ns.any (isaC c) = b) (h : P (.bl b)) : Got (oIsX ks cs [.exc c fs xs, .tup ys]) P := by
  refine ⟨.bl b, ?_, h⟩
  obtain ⟨h3, h4⟩ := He.ba h1
  show (clsNs ys).bind _ = _
  rw [e, Option.bind_some, if_pos ⟨h3, h4⟩, h2]
theorem w_isxC (h1 : (ks.contains c && cs.contains y) = true) (h2 : isaC c y = b) (h : P (.bl b)) : Got (oIsX ks cs [.exc c fs xs, .cls y]) P := by
  refine ⟨.bl b, ?_, h⟩
  obtain ⟨h3, h4⟩ := He.ba h1
  show ite _ _ _ = _
  rw [if_pos ⟨h3, h4⟩, h2]
theorem w_isxV (h1 : ks.contains c = true) (h : P (.bl true)) : Got (oIsX ks cs [.exc c fs xs, .ty "ValueError"]) P := by
  refine ⟨.bl true, ?_, h⟩
  show ite _ _ _ = _
  rw [if_pos ⟨h1, rfl⟩]
theorem w_xat {n : Str} {d : D} (h1 : ks.contains c = true) (h2 : (fs.zip xs).lookup n = some d) (h : P d) : Got (oAt ks n (.exc c fs xs)) P := by
  refine ⟨d, ?_, h⟩
  show ite _ _ _ = _
  rw [if_pos h1, h2]
end
end Dy

set_option Elab.async false
set_option linter.all false
set_option maxRecDepth 100000
set_option maxHeartbeats 2000000
/-! A dict is no tuple. -/
namespace Dy
open PySem PySem.Spec PyProof.Rows PySem.SeqAt
open AutoSeq1 (wpAny_loadPart')
open MeetsSeq MeetsSeq2 MeetsSeq3 SeqRoads2
open L2
end Dy

set_option Elab.async false
set_option linter.all false
set_option maxRecDepth 100000
set_option maxHeartbeats 2000000
/-! min of a list of truths that are all True; max, min of a list of whole numbers. -/
namespace Dy
open PySem PySem.Spec PyProof.Rows L2
theorem min_true {prog : Program} {w : World} {A : Around} {E : Value → Shared → Prop} {s : Shared} {l : Addr} {its : Array Value} {Q : Value → Shared → Prop} (hh : A.handled = none) (hl : s.heap.IsList l its) (hn : 0 < its.size) (ha : ∀ v ∈ its.toList, v = .bool true)
    (h : ∀ h' tk, (∀ d o, s.heap.get? d = some o → h'.get? d = some o) → Q (.bool true) { s with heap := h', toks := tk }) : wpAny (model prog w) A (call (.builtin "min") [.ref l]) Q E s := by
  have el : ∀ (i : Nat) (v : Value), its[i]? = some v → v = .bool true := fun i v e => ha v (by
    obtain ⟨h1, h2⟩ := Array.getElem?_eq_some_iff.mp e
    rw [← h2]
    exact Array.getElem_mem_toList h1)
  refine call_min_walk (iter_anyList hl fun s₂ e st hfp hlI => ?_)
  subst e
  refine ⟨_, _, _, _, _, _, fun _ _ => false, rfl, Walks.list (A := A.in1) hh _ l hlI its, st, hfp, hn, fun i j vi vj s Q E hi hj hq => ?_, fun v h' tk hP hk => ?_⟩
  · obtain rfl := el i vi hi
    obtain rfl := el j vj hj
    exact PyProof.Rows.lt_bool (p := true) (q := true) hq
  · obtain rfl := el _ v hP
    exact h h' tk (PySem.old_kept hk)
def rMinT (K : PySem.W.Frag) : List V → Hp → VK → Prop := fun vs H Q => ∃ (p : Addr) (xs : List V), vs = [.ref p] ∧ SqL K H p xs ∧ 0 < xs.length ∧ (∀ x ∈ xs, x = .bl true) ∧ Q (.bl true) H
theorem vals_true : ∀ {xs : List V} {us : List Value}, Vals xs us → (∀ x ∈ xs, x = .bl true) → ∀ u ∈ us, u = .bool true
  | _, _, .nil, _ => fun _ h => nomatch h
  | _, _, .cons r t, h => fun u hu => by
    rcases List.mem_cons.mp hu with rfl | hu
    · have e := h _ List.mem_cons_self
      subst e
      exact r
    · exact vals_true t (fun x hx => h x (List.mem_cons_of_mem _ hx)) u hu
theorem call_minT {X : Cx} (hc : X.calm = true) : CallR X (.builtin "min") (rMinT X.K) := fun pins s σ H vs us Q I r h => by
  obtain ⟨p, xs, rfl, hs, hn, ha, q⟩ := h
  obtain ⟨its, rv, hl, _⟩ := I.list hs
  rw [Vals.ref1 r]
  exact min_true (I.ok.hd hc) hl.isList (by have := rv.length; simp; omega) (by simpa using vals_true rv ha) fun h' tk k => ⟨.bl true, H, I.kept k, rfl, q⟩
def isT : D → Bool
  | .bl b => b
  | _ => false
def oMinT : List D → Option D
  | [.lst xs] => if xs ≠ [] ∧ xs.all isT = true then some (.bl true) else none
  | _ => none
theorem allT_rep {K : PySem.W.Frag} {F : Hp} : ∀ {ds : List D} {vs : List V}, RepL K F ds vs → ds.all isT = true → ∀ x ∈ vs, x = .bl true
  | [], vs, r, _ => by
    simp only [RepL] at r
    subst r
    exact fun _ h => nomatch h
  | d :: ds, vs, r, h => by
    simp only [RepL] at r
    obtain ⟨v, rr, rfl, h1, h2⟩ := r
    rw [List.all_cons, Bool.and_eq_true] at h
    intro x hx
    rcases List.mem_cons.mp hx with rfl | hx
    · cases d with
      | bl b =>
        have e : b = true := h.1
        subst e
        exact h1.bl_inv
      | _ => exact absurd h.1 (by simp [isT])
    · exact allT_rep h2 h.2 x hx
theorem d_minT {X : Cx} (hc : X.calm = true) : CallR X (.builtin "min") (rMinT X.K) ∧ OpN X.K (rMinT X.K) oMinT := ⟨call_minT hc, fun F H xs as d Q s ra e q => by
  unfold oMinT at e
  split at e
  · rename_i ys
    split at e
    · rename_i hh
      cases e
      simp only [RepL] at ra
      obtain ⟨v, rr, rfl, h1, rfl⟩ := ra
      obtain ⟨a, vs, rfl, h2, h3⟩ := h1.lst_inv
      refine ⟨a, vs, rfl, Same.seq s h2, ?_, allT_rep h3 hh.2, now q s Rep.mk_bl⟩
      rw [← h3.length]
      exact List.length_pos_iff.mpr hh.1
    · cases e
  · cases e⟩
/-! ### max, min of whole numbers -/
def topI (f : Int → Int → Int) : List Int → Option Int
  | [] => none
  | i :: r => some (r.foldl f i)
def oBest (f : Int → Int → Int) : List D → Option D
  | [.lst xs] => (intsD xs).bind fun ns => (topI f ns).map .int
  | _ => none
theorem fold_max : ∀ (r : List Int) (i : Int), (r.foldl max i ∈ i :: r) ∧ ∀ y ∈ i :: r, y ≤ r.foldl max i
  | [], i => ⟨by simp, by simp⟩
  | j :: r, i => by
    obtain ⟨h1, h2⟩ := fold_max r (max i j)
    refine ⟨?_, fun y hy => ?_⟩
    · rw [List.foldl_cons]
      rcases List.mem_cons.mp h1 with e | e
      · rw [e]
        by_cases hij : i ≤ j
        · rw [Int.max_eq_right hij]; simp
        · rw [Int.max_eq_left (by omega)]; simp
      · exact List.mem_cons_of_mem _ (List.mem_cons_of_mem _ e)
    · rw [List.foldl_cons]
      have hm := h2 (max i j) List.mem_cons_self
      rcases List.mem_cons.mp hy with rfl | hy
      · omega
      · rcases List.mem_cons.mp hy with rfl | hy
        · omega
        · exact h2 y (List.mem_cons_of_mem _ hy)
theorem fold_min : ∀ (r : List Int) (i : Int), (r.foldl min i ∈ i :: r) ∧ ∀ y ∈ i :: r, r.foldl min i ≤ y
  | [], i => ⟨by simp, by simp⟩
  | j :: r, i => by
    obtain ⟨h1, h2⟩ := fold_min r (min i j)
    refine ⟨?_, fun y hy => ?_⟩
    · rw [List.foldl_cons]
      rcases List.mem_cons.mp h1 with e | e
      · rw [e]
        by_cases hij : i ≤ j
        · rw [Int.min_eq_left hij]; simp
        · rw [Int.min_eq_right (by omega)]; simp
      · exact List.mem_cons_of_mem _ (List.mem_cons_of_mem _ e)
    · rw [List.foldl_cons]
      have hm := h2 (min i j) List.mem_cons_self
      rcases List.mem_cons.mp hy with rfl | hy
      · omega
      · rcases List.mem_cons.mp hy with rfl | hy
        · omega
        · exact h2 y (List.mem_cons_of_mem _ hy)
theorem d_maxL {X : Cx} (hc : X.calm = true) : CallR X (.builtin "max") (rMax X.K) ∧ OpN X.K (rMax X.K) (oBest max) := ⟨cr_max hc, fun F H xs as d Q s ra e q => by
  unfold oBest at e
  split at e
  · rename_i ys
    cases en : intsD ys with
    | none => rw [en] at e; cases e
    | some ns =>
      rw [en, Option.bind_some] at e
      cases ns with
      | nil => cases e
      | cons i r =>
        cases e
        simp only [RepL] at ra
        obtain ⟨v, rr, rfl, h1, rfl⟩ := ra
        obtain ⟨a, vs, rfl, h2, h3⟩ := h1.lst_inv
        rw [intsD_rep en h3] at h2
        obtain ⟨m1, m2⟩ := fold_max r i
        refine ⟨a, i :: r, rfl, Same.seq s h2, Nat.succ_pos _, fun m hm ha => ?_⟩
        have e : m = r.foldl max i := Int.le_antisymm (m2 m hm) (ha _ m1)
        subst e
        exact now q s Rep.mk_int
  · cases e⟩
theorem d_minL {X : Cx} (hc : X.calm = true) : CallR X (.builtin "min") (rMin X.K) ∧ OpN X.K (rMin X.K) (oBest min) := ⟨cr_min hc, fun F H xs as d Q s ra e q => by
  unfold oBest at e
  split at e
  · rename_i ys
    cases en : intsD ys with
    | none => rw [en] at e; cases e
    | some ns =>
      rw [en, Option.bind_some] at e
      cases ns with
      | nil => cases e
      | cons i r =>
        cases e
        simp only [RepL] at ra
        obtain ⟨v, rr, rfl, h1, rfl⟩ := ra
        obtain ⟨a, vs, rfl, h2, h3⟩ := h1.lst_inv
        rw [intsD_rep en h3] at h2
        obtain ⟨m1, m2⟩ := fold_min r i
        refine ⟨a, i :: r, rfl, Same.seq s h2, Nat.succ_pos _, fun m hm ha => ?_⟩
        have e : m = r.foldl min i := Int.le_antisymm (ha _ m1) (m2 m hm)
        subst e
        exact now q s Rep.mk_int
  · cases e⟩
theorem w_best {f : Int → Int → Int} {xs : List D} {ns : List Int} {m : Int} {P : D → Prop} (e : intsD xs = some ns) (e2 : topI f ns = some m) (h : P (.int m)) : Got (oBest f [.lst xs]) P := ⟨_, by show (intsD xs).bind _ = _; rw [e, Option.bind_some, e2]; rfl, h⟩
abbrev oMax1 : List D → Option D := oBest max
theorem d_max1 {X : Cx} (hc : X.calm = true) : CallR X (.builtin "max") (rMax X.K) ∧ OpN X.K (rMax X.K) oMax1 := d_maxL hc
def oMin1 (ds : List D) : Option D := (oMinT ds).or (oBest min ds)
theorem d_min1 {X : Cx} (hc : X.calm = true) : CallR X (.builtin "min") (fun xs H Q => rMinT X.K xs H Q ∨ rMin X.K xs H Q) ∧ OpN X.K (fun xs H Q => rMinT X.K xs H Q ∨ rMin X.K xs H Q) oMin1 := ⟨(call_minT hc).or (cr_min hc), (d_minT hc).2.or (d_minL hc).2⟩
theorem w_min1I {xs : List D} {ns : List Int} {m : Int} {P : D → Prop} (e : intsD xs = some ns) (e2 : topI min ns = some m) (h : P (.int m)) : Got (oMin1 [.lst xs]) P := by
  refine ⟨.int m, ?_, h⟩
  have n : oMinT [.lst xs] = none := by
    show ite _ _ _ = _
    rw [if_neg]
    rintro ⟨h1, h2⟩
    cases xs with
    | nil => exact h1 rfl
    | cons x r =>
      cases x with
      | int i => simp [isT] at h2
      | _ => simp [intsD] at e
  unfold oMin1
  rw [n, Option.none_or]
  show (intsD xs).bind _ = _
  rw [e, Option.bind_some, e2]
  rfl
end Dy

set_option Elab.async false
set_option linter.all false
set_option maxRecDepth 100000
/-! The end, with the script's size. -/
namespace Dy
open PySem PySem.Spec PyProof.Rows L2
end Dy

set_option Elab.async false
set_option linter.all false
set_option maxRecDepth 100000
set_option maxHeartbeats 2000000
/-! Refusals with a field: classes whose own __init__ hands on to the class above and sets one field. -/
namespace Dy
open PySem PySem.Spec PyProof.Rows L2
/-! ### what is asked of such a class, and of the class above -/
def yrB (K : PySem.W.Frag) (Y : Addr) : Bool := He.eqO (PySem.W.specialIn K (.ref Y) "__getattribute__") (some (some (.builtin "type.__getattribute__"))) && (PySem.W.readsIn K Y (.type "type") && (match PySem.W.findCls K (.ref Y) (.type "type") "__init__" with
  | some (.val v) => decide (v = .builtin "ValueError.__init__")
  | _ => false))
structure YrC (K : PySem.W.Frag) (Y : Addr) : Prop where
  sp : PySem.W.specialIn K (.ref Y) "__getattribute__" = some (some (.builtin "type.__getattribute__"))
  rd : PySem.W.readsIn K Y (.type "type") = true
  fd : PySem.W.findCls K (.ref Y) (.type "type") "__init__" = some (.val (.builtin "ValueError.__init__"))
theorem yrB_ok {K : PySem.W.Frag} {Y : Addr} (h : yrB K Y = true) : YrC K Y := by
  obtain ⟨h1, h2⟩ := He.ba h
  obtain ⟨h2, h3⟩ := He.ba h2
  refine ⟨He.eqO_ok h1, h2, ?_⟩
  split at h3
  · rename_i v e
    rw [e, of_decide_eq_true h3]
  · cases h3
def oxB (K : PySem.W.Frag) (C : Addr) : Bool := (match K.lookup C with
  | some ⟨.type "type", _, .cls cd, sl⟩ => (match cd.mro, sl.toList with
    | .ref C' :: bm, [_, _, _, _, some (.builtin n), _] => C' == C && (n == "ValueError.__new__" && (!cd.hasDel && (cd.hasDict && PySem.HandSPX.refsVE bm)))
    | _, _ => false)
  | _ => false) && (He.eqO (PySem.W.findIn K (.ref C) "__setattr__") (some (some (.builtin "object.__setattr__"))) && (decide (PySem.W.subIn K (.ref C) (.type "BaseException") = some true) &&
    (decide (PySem.W.typeIn K (.ref C) = some (.type "type")) && PySem.W.keepIn K (.ref C))))
theorem oxB_ok {K : PySem.W.Frag} {C : Addr} (h : oxB K C = true) : OexC K C := by
  obtain ⟨q, h⟩ := He.ba h
  obtain ⟨h1, h⟩ := He.ba h
  obtain ⟨h2, h⟩ := He.ba h
  obtain ⟨h3, h4⟩ := He.ba h
  refine ⟨?_, He.eqO_ok h1, of_decide_eq_true h2, of_decide_eq_true h3, h4⟩
  split at q
  · rename_i dd cd sl ho
    split at q
    · rename_i C' bm k0 k1 k2 k3 n k5 hm hs
      obtain ⟨q1, q⟩ := He.ba q
      obtain ⟨q2, q⟩ := He.ba q
      obtain ⟨q3, q⟩ := He.ba q
      obtain ⟨q4, q5⟩ := He.ba q
      obtain rfl := beq_iff_eq.mp q1
      obtain rfl := beq_iff_eq.mp q2
      obtain ⟨nm, bs, mro, ns, qn, hd, sn, sub, ab, col, del⟩ := cd
      dsimp only at hm q3 q4
      have q3 : del = false := by simpa using q3
      subst hm q3 q4
      have hsl : sl = #[k0, k1, k2, k3, some (.builtin "ValueError.__new__"), k5] := by
        obtain ⟨l⟩ := sl
        simp only at hs
        rw [hs]
      subst hsl
      exact ⟨nm, qn, ns, bs, bm, sn, sub, ab, col, dd, k0, k1, k2, k3, k5, ho, q5⟩
    · cases q
  · cases q
/-! ### Y.__init__(self, ..) -/
section
variable {X : Cx} {o e : Expr} {es : List Expr} {to te : TE} {ta : TA} {f : Str} {p p' p1 p2 pos : Pos}
theorem pe_yinit {Y : Addr} {y : Str} {pl : Sem Bool} (hg : Gl X y) (gm : X.mg y = some (.ref Y)) (T : YrC X.K Y) (ha : PA X (e :: es) ta)
    (hc : eval (.Call (.Attribute (.Name y p1) "__init__" p2) (e :: es) [] pos) X.env = (do
      let ov ← eval (.Name y p1) X.env
      standAt p2.atName
      let (f, first) ← holding [ov] (getMethod ov "__init__" pl)
      callWith pos f first (backTo pos (starEach (e :: es) X.env)) (backToKw pos (keywordEach [] X.env))) := by rfl)
    (hdb : (y == ("__debug__" : Str)) = false := by decide) (he : starEach (e :: es) X.env = (false, eval e X.env) :: starEach es X.env := by rfl) (hpl : (backTo pos (starEach es X.env)).any (·.1) = false := by rfl) :
    PE X (.Call (.Attribute (.Name y p1) "__init__" p2) (e :: es) [] pos) (tVeI X.K ta) := ⟨fun pins s σ H Q I h => by
  refine PySem.W.methodCall_KW (ld_glob I hg gm ?_ hdb) hc
  refine PySem.W.method_cls I.kIn T.sp (PySem.W.cls_value I.kIn T.rd T.fd (by decide +kernel) ?_)
  show wpAny _ _ (callWith pos (Value.builtin "ValueError.__init__") [] (backTo pos (starEach (e :: es) X.env)) []) _ _ _
  refine PyProof.Rows.callWith_method1 (thn (ha.run pos pins _ σ H _ (I.tok _) h) fun us s1 ⟨vs, H1, I1, r1, a, C, ws, ev, hl, T2, ea, q⟩ => ?_) he hpl
  subst ev
  cases r1 with
  | @cons _ u0 _ ur ra rw2 =>
    obtain rfl : u0 = Value.ref a := ra
    exact oinit_ok T2 I1 ea (by rw [← Paired.length rw2, sizeLine_eq]; omega) fun s2 J => ⟨.non, H1, J, rfl, q⟩⟩
end
/-- the i-th statement of a class's body -/
def clsStmt (s : Stmt) (i : Nat) : Stmt := match s with
  | .ClassDef _ _ _ b _ _ _ _ _ _ _ => b.getD i (.Pass ⟨0, 0, 0, 0⟩)
  | _ => .Pass ⟨0, 0, 0, 0⟩
def spI (K : PySem.W.Frag) (f : Str) : Sp := fun vs H Q _ => ∃ (a C : Addr) (y : V), vs = [.ref a, y] ∧ OexC K C ∧ PySem.W.findIn K (.ref C) f = some none ∧ H a = some (exo a C none) ∧
  ∀ dx, H dx = none → dx ≠ a → Q .non (upd (upd H dx (exd dx [(f, y)])) a (exo a C (some dx)))
/-- such a class: its __init__ keeps what is said of it -/
structure InC (P : Program) (w : World) (K : PySem.W.Frag) (mg : Str → Option Value) (base : Heap) (c f : Str) : Prop where
  fn : ∃ (fI : Addr) (fd : FuncData) (ps : List Str), FnOk P w K mg base (L2.CX P w) 1 fI fd ps (spI K f) ∧ Binds K fd ps [] ∧ PySem.W.findIn K (.ref (He.ga K c)) "__init__" = some (some (.ref fI)) ∧ PySem.W.typeIn K (.ref fI) = some (.type "function")
  ox : OexC K (He.ga K c)
  no : PySem.W.findIn K (.ref (He.ga K c)) f = some none
  gl : mg c = some (.ref (He.ga K c))
section
variable {P : Program} {w : World} {K : PySem.W.Frag} {mg : Str → Option Value} {base : Heap} {f : Addr} {fd : FuncData} {qual : Str} {params : Arguments} {body : List Stmt} {scope : Scope} {Y : Addr} {p : Str}
theorem init_ok {N : List Str} {fl : Str} (Fn : FunD K "__init__" qual params body scope [] [] f fd) (S : FnScope N ["self", p] scope)
    (hb : ∀ (cdv : Value) (A : Around) (outer : List Env) (s : Shared) (H : Hp) (E : XK), PSs (CxD P w K mg base N qual scope f cdv A outer s H E) body (fun D σ H => ∃ (a C : Addr) (y : V), σ[0]? = some (some (.ref a)) ∧ σ[1]? = some (some y) ∧ OexC K C ∧ PySem.W.findIn K (.ref C) fl = some none ∧ H a = some (exo a C none) ∧
      ∀ dx, H dx = none → dx ≠ a → D.nx σ (upd (upd H dx (exd dx [(fl, y)])) a (exo a C (some dx))))) : FnOk P w K mg base (L2.CX P w) 1 f fd ["self", p] (spI K fl) := by
  refine Fn.ok S (fun vs H Q E ⟨a, C, y, e, _⟩ => by rw [e]; rfl) fun cdv A outer s H vs Q E hr ⟨a, C, y, e, h1, h2, h3, h4⟩ => ⟨_, hb cdv A outer s H E, ?_⟩
  subst e
  exact ⟨a, C, y, rfl, rfl, h1, h2, h3, h4⟩
theorem init_body {X : Cx} {y m fl : Str} {j : Nat} {p0 p1 p2 p3 p4 p5 p6 p7 p8 p9 : Pos} (hg : Gl X y) (gm : X.mg y = some (.ref Y)) (T : YrC X.K Y) (h0 : X.N[0]? = some ("self" : Str)) (h1 : X.N[1]? = some p) (v0 : Vis X.env.scope "self") (v1 : Vis X.env.scope p)
    (d1 : (p == ("__debug__" : Str)) = false) (d2 : (p == ("__classdict__" : Str)) = false) (hdb : (y == ("__debug__" : Str)) = false) {pl : Sem Bool}
    (hc : eval (.Call (.Attribute (.Name y p1) "__init__" p2) [.Name "self" p3, .Constant (.str m) j p4] [] p0) X.env = (do
      let ov ← eval (.Name y p1) X.env
      standAt p2.atName
      let (f, first) ← holding [ov] (getMethod ov "__init__" pl)
      callWith p0 f first (backTo p0 (starEach [.Name "self" p3, .Constant (.str m) j p4] X.env)) (backToKw p0 (keywordEach [] X.env))))
    (he : starEach [.Name "self" p3, .Constant (.str m) j p4] X.env = (false, eval (.Name "self" p3) X.env) :: starEach [.Constant (.str m) j p4] X.env) (he2 : starEach [.Constant (.str m) j p4] X.env = (false, eval (.Constant (.str m) j p4) X.env) :: starEach [] X.env)
    (hpl : (backTo p0 (starEach [.Constant (.str m) j p4] X.env)).any (·.1) = false)
    (hs : swapsWith (.Call (.Attribute (.Name y p1) "__init__" p2) [.Name "self" p3, .Constant (.str m) j p4] [] p0) none p5.line X.env = pure false)
    (hs2 : swapsWith (.Name p p8) (some (.Attribute (.Name "self" p6) fl p7)) p9.line X.env = pure false) :
    PSs X [.Expr (.Call (.Attribute (.Name y p1) "__init__" p2) [.Name "self" p3, .Constant (.str m) j p4] [] p0) p5, .Assign [.Attribute (.Name "self" p6) fl p7] (.Name p p8) p9]
      (fun D σ H => ∃ (a C : Addr) (y : V), σ[0]? = some (some (.ref a)) ∧ σ[1]? = some (some y) ∧ OexC X.K C ∧ PySem.W.findIn X.K (.ref C) fl = some none ∧ H a = some (exo a C none) ∧
        ∀ dx, H dx = none → dx ≠ a → D.nx σ (upd (upd H dx (exd dx [(fl, y)])) a (exo a C (some dx)))) :=
  (pss_cons (ps_expr (pe_yinit hg gm T (pa_cons (pe_var h0 v0) (pa_cons pe_str pa_nil he2) he) hc hdb he hpl) hs) (pss_one (ps_ost (pe_var h0 v0) (pe_var h1 v1 d1 d2) hs2))).dy fun D σ H ⟨a, C, y, e0, e1, T1, no, ea, q⟩ =>
    ⟨.ref a, e0, a, C, [.str m], rfl, by simp, T1, ea, y, e1, .ref a, e0, a, C, rfl, T1, no, .inl ⟨ea, q⟩⟩
end
/-! ### raise C(e) -/
def sRaiseF (c f : Str) (t : REnv → R (List D)) : REnv → SR := fun ρ => (t ρ).toS ρ fun ds => match ds with
  | [d] => .err (.exc c [f] [d]) ρ
  | _ => .bad
theorem cx_no {P : Program} {w : World} {l : List Env} {H : Hp} {s : Shared} {e : Value} {s' : Shared} (h : L2.CX P w l H s (fun _ _ _ => False) e s') : False := by
  obtain ⟨_, _, _, _, _, _, _, _, _, _, _, _, z⟩ := h
  exact z
section
variable {X : Cx} {W : WX} {c f : Str} {e : Expr} {t : REnv → R (List D)} {p pos' pos : Pos}
theorem ss_raiseF (I : InC X.prog X.w X.K X.mg X.base c f) (hc : X.calm = true) (tk : Takes X W) (hr : Room 2 X.A) (ha : SA X W [e] t) (hg : Gl X c := by rfl) (hdb : (c == ("__debug__" : Str)) = false := by decide)
    (he : starEach [e] X.env = (false, eval e X.env) :: starEach [] X.env := by rfl) (hpl : (backTo pos' (starEach [] X.env)).any (·.1) = false := by rfl) :
    SS X W (.Raise (some (.Call (.Name c p) [e] [] pos')) none pos) (sRaiseF c f t) := by
  obtain ⟨fI, fd, ps, Fo, hb, i1, i2⟩ := I.fn
  refine (ps_raise hc tk (pmk_oex (es := []) I.ox i1 i2 Fo hr hb .nil (fun _ _ _ _ _ _ _ z => (cx_no z).elim) hg I.gl ha hdb he hpl)).dy fun D σ H ⟨G, F, ρ, r, p⟩ => ⟨G, F, ρ, r, PostS.toS r p fun ds vs F1 H1 _ ex rp r1 p1 => ?_⟩
  match ds, rp, p1 with
  | [d], rp, p1 =>
    have p1 : PostS X.K W D G F1 (.err (.exc c [f] [d]) ρ) := p1
    simp only [RepL] at rp
    obtain ⟨v, rr, rfl, rv, rfl⟩ := rp
    refine ⟨by simp, fun a na => ⟨a, _, v, rfl, I.ox, I.no, upd_same, fun dx hdx hne => ?_⟩⟩
    have hdx1 : H1 dx = none := by rw [upd_ne hne] at hdx; exact hdx
    have eH : upd (L2.del (upd (upd (upd H1 a (exo a (He.ga X.K c) none)) dx (exd dx [(f, v)])) a (exo a (He.ga X.K c) (some dx))) a) dx (.xd [(f, v)]) = upd H1 dx (.xd [(f, v)]) := by
      funext b
      by_cases hb : b = dx
      · subst hb
        rw [upd_same, upd_same]
      · rw [upd_ne hb, upd_ne hb]
        by_cases hba : b = a
        · subst hba
          rw [L2.del_same, na]
        · rw [L2.del_ne hba, upd_ne hba, upd_ne hb, upd_ne hba]
    refine ⟨rfl, dx, [(f, v)], upd_same, by rw [upd_ne hne, upd_same], hdx1, ?_⟩
    rw [eH]
    have ex2 : Ext F1 H1 (upd F1 dx (.xd [(f, v)])) (upd H1 dx (.xd [(f, v)])) := Ext.new r1.f hdx1
    exact p1 σ _ _ _ _ ex2.f (ex2.newG r1.g) (r1.ext ex2) ⟨c, [f], [d], [v], rfl, rfl, rfl, RepL.cons (Rep.mono ex2.f _ _ rv) RepL.nil, upd_same⟩
  | [], _, p1 => exact p1.elim
  | _ :: _ :: _, _, p1 => exact p1.elim
end
section
variable {ρ : REnv} {N : REnv → Prop} {T : D → Prop} {E : D → REnv → Prop} {t : REnv → R (List D)} {c f : Str}
theorem sp_raiseF (h : (t ρ).wp (fun ds => ∃ d, ds = [d] ∧ E (.exc c [f] [d]) ρ) fun e => E e ρ) : (sRaiseF c f t ρ).wp N T E := wp_toS (h.post fun ds ⟨d, e, q⟩ => by subst e; exact q)
end
/-! ### the head's facts of such a class -/
def fxB (K : PySem.W.Frag) (c f : Str) : Bool := oxB K (He.ga K c) && (He.eqO (PySem.W.findIn K (.ref (He.ga K c)) f) (some none) && (He.eqO (PySem.W.findIn K (.ref (He.ga K c)) "__init__") (some (some (.ref (He.ma K (He.ga K c) "__init__")))) &&
  decide (PySem.W.typeIn K (.ref (He.ma K (He.ga K c) "__init__")) = some (.type "function"))))
structure FxC (K : PySem.W.Frag) (c f : Str) : Prop where
  ox : OexC K (He.ga K c)
  no : PySem.W.findIn K (.ref (He.ga K c)) f = some none
  fi : PySem.W.findIn K (.ref (He.ga K c)) "__init__" = some (some (.ref (He.ma K (He.ga K c) "__init__")))
  ft : PySem.W.typeIn K (.ref (He.ma K (He.ga K c) "__init__")) = some (.type "function")
theorem fxB_ok {K : PySem.W.Frag} {c f : Str} (h : fxB K c f = true) : FxC K c f := by
  obtain ⟨h1, h⟩ := He.ba h
  obtain ⟨h2, h⟩ := He.ba h
  obtain ⟨h3, h4⟩ := He.ba h
  exact ⟨oxB_ok h1, He.eqO_ok h2, He.eqO_ok h3, of_decide_eq_true h4⟩
end Dy

set_option Elab.async false
set_option linter.all false
set_option maxRecDepth 100000
set_option maxHeartbeats 2000000
/-! A list with something in it is not the empty one, whatever is in it. -/
namespace Dy
open PySem PySem.Spec PyProof.Rows PySem.SeqAt L2
end Dy

set_option Elab.async false
set_option linter.all false
set_option maxRecDepth 100000
/-! ### texts: join, f-strings, str(int) -/
namespace Dy
open PySem PySem.Spec PyProof.Rows L2
def txtsD : List D → Option (List Str)
  | [] => some []
  | .str x :: r => (txtsD r).map (x :: ·)
  | _ :: _ => none
theorem txtsD_map : ∀ xs : List Str, txtsD (xs.map D.str) = some xs
  | [] => rfl
  | x :: r => by
    show (txtsD (r.map D.str)).map (x :: ·) = _
    rw [txtsD_map r]
    rfl
theorem txts_rep {K : PySem.W.Frag} {F : Hp} : ∀ {ds : List D} {vs : List V} {xs : List Str}, txtsD ds = some xs → RepL K F ds vs → vs = xs.map V.str
  | [], vs, xs, e, r => by
    cases e
    simp only [RepL] at r
    exact r
  | d :: ds, vs, xs, e, r => by
    unfold txtsD at e
    split at e
    · rename_i heq; cases heq
    · rename_i x r' heq
      cases heq
      simp only [RepL] at r
      obtain ⟨v, rest, rfl, h1, h2⟩ := r
      cases q : txtsD ds with
      | none => rw [q] at e; cases e
      | some ys =>
        rw [q] at e
        cases e
        rw [h1.str_inv, txts_rep q h2]
        rfl
    · cases e
def oJoin : D → D → Option D
  | .str a, .lst ds => match txtsD ds with
    | some ys => if (ys.map (·.length)).sum + ys.length * a.length ≤ 16777216 then some (.str (Txt.join a ys)) else none
    | none => none
  | _, _ => none
def eJoin (f g : REnv → R D) : REnv → R D := fun ρ => (f ρ).bind fun a => match a with
  | .str x => (g ρ).bind fun b => .opt (oJoin (.str x) b)
  | _ => .bad
section
variable {X : Cx} {W : WX} {o e : Expr} {f g : REnv → R D} {ap xp pos : Pos}
theorem se_join (ho : SE X W o f) (he : SE X W e g)
    (hbm : ∀ {te : TE} {ta : TA}, PE X o te → PA X [e] ta → PE X (.Call (.Attribute o "join" ap) [e] [] xp) (tBM X.K "str" (fun x xs H Q => ∃ a p, ∃ ys : List Str, x = .str a ∧ xs = [.ref p] ∧ (SqL X.K H p (ys.map V.str) ∨ SqT X.K H p (ys.map V.str)) ∧
    (ys.map (·.length)).sum + ys.length * a.length ≤ 16777216 ∧ Q (.str (Txt.join a ys)) H) te ta) := by exact fun h1 h2 => pe_bm PySem.F.plainAttrs_str PySem.F.slot_str_join PySem.F.type_str_join mt_join h1 h2)
    (hse : starEach (e :: []) X.env = (false, eval e X.env) :: starEach [] X.env := by rfl) : SE X W (.Call (.Attribute o "join" ap) [e] [] xp) (eJoin f g) :=
  (hbm ho (pa_cons he pa_nil hse)).dy fun σ H Q ⟨G, F, ρ, r, p⟩ => ⟨G, F, ρ, r, Post.bind p fun d v F1 H1 _ ex1 r1 p1 => by
    cases d with
    | str x =>
      have e0 := r1.str_inv
      subst e0
      refine ⟨rfl, G, F1, ρ, r.ext ex1, Post.bind p1 fun d2 w F2 H2 _ ex2 r2 p2 => ?_⟩
      obtain ⟨z, e1, q⟩ := Post.opt p2
      cases d2 with
      | lst ds =>
        cases hy : txtsD ds with
        | none => simp only [oJoin, hy] at e1; cases e1
        | some ys =>
          simp only [oJoin, hy] at e1
          by_cases hz : (ys.map (·.length)).sum + ys.length * x.length ≤ 16777216
          · rw [if_pos hz] at e1
            cases e1
            obtain ⟨a, vs, rfl, h1, h2⟩ := r2.lst_inv
            have e3 := txts_rep hy h2
            subst e3
            exact ⟨x, a, ys, rfl, rfl, .inl (Same.seq ex2.s h1), hz, q _ F2 H2 (.refl ex2.s) Rep.mk_str⟩
          · rw [if_neg hz] at e1; cases e1
      | _ => cases e1
    | _ => exact p1.elim⟩
end
/-- a part of a text -/
def oSlS : D → Option Int → Option Int → Option D
  | .str z, lo, hi => if z.length ≤ sizeLine then some (.str (cutS z lo hi)) else none
  | _, _, _ => none
def eSlS (f : REnv → R D) (lo hi : REnv → R (Option Int)) : REnv → R D := fun ρ => (f ρ).bind fun a => (lo ρ).bind fun l => (hi ρ).bind fun h => .opt (oSlS a l h)
theorem se_sliceS {X : Cx} {W : WX} {e : Expr} {lo hi : Option Expr} {f : REnv → R D} {fl fh : REnv → R (Option Int)} {p2 pos : Pos} (he : SE X W e f) (hl : SO X W lo fl) (hh : SO X W hi fh) : SE X W (.Subscript e (.Slice lo hi none p2) pos) (eSlS f fl fh) :=
  (pe_slice sl_str he hl hh).dy fun σ H Q ⟨G, F, ρ, r, p⟩ => ⟨G, F, ρ, r, Post.bind p fun d v F1 H1 _ ex1 rp p1 => ⟨G, F1, ρ, r.ext ex1, Post.bind p1 fun l l' F2 H2 _ ex2 e2 p2 => ⟨G, F2, ρ, (r.ext ex1).ext ex2, Post.bind p2 fun h h' F3 H3 _ ex3 e3 p3 => by
    subst e2
    subst e3
    obtain ⟨d', e4, q⟩ := Post.opt p3
    have rp3 := Rep.mono (ex2.f.trans ex3.f) _ _ rp
    cases d with
    | str z =>
      simp only [oSlS] at e4
      by_cases hz : z.length ≤ sizeLine
      · rw [if_pos hz] at e4
        cases e4
        exact ⟨z, rp3.str_inv, hz, q _ F3 H3 (.refl ex3.s) Rep.mk_str⟩
      · rw [if_neg hz] at e4; cases e4
    | _ => cases e4⟩⟩⟩
section
variable {ρ : REnv} {f g : REnv → R D} {P E : D → Prop}
theorem wp_slS {lo hi : REnv → R (Option Int)} (h : (f ρ).wp (fun a => (lo ρ).wp (fun l => (hi ρ).wp (fun h => ∃ z, a = .str z ∧ z.length ≤ sizeLine ∧ P (.str (cutS z l h))) E) E) E) : (eSlS f lo hi ρ).wp P E := by
  refine wp_bind (h.post fun a h1 => wp_bind (h1.post fun l h2 => wp_bind (h2.post ?_)))
  rintro h ⟨z, rfl, hz, h3⟩
  exact wp_opt ⟨_, if_pos hz, h3⟩
theorem wp_join (h : (f ρ).wp (fun a => ∃ x, a = .str x ∧ (g ρ).wp (fun b => ∃ ys : List Str, b = .lst (ys.map .str) ∧ (ys.map (·.length)).sum + ys.length * x.length ≤ 16777216 ∧ P (.str (Txt.join x ys))) E) E) : (eJoin f g ρ).wp P E := by
  refine wp_bind (h.post ?_)
  rintro _ ⟨x, rfl, h1⟩
  refine wp_bind (h1.post ?_)
  rintro _ ⟨ys, rfl, hz, h2⟩
  refine wp_opt ⟨_, ?_, h2⟩
  unfold oJoin
  simp only [txtsD_map, if_pos hz]
end
end Dy

set_option Elab.async false
set_option linter.all false
set_option maxRecDepth 100000
set_option maxHeartbeats 2000000
/-! dict of a list of pairs, its reading. -/
namespace Dy
open PySem PySem.Spec PyProof.Rows L2
/-! ### dict(pairs) -/
section
variable {K : PySem.W.Frag} {F H : Hp}
end
section
variable {X : Cx}
end
end Dy

set_option Elab.async false
set_option linter.all false
set_option maxRecDepth 100000
/-! ### a comprehension whose step may raise -/
namespace Dy
open PySem PySem.Spec PyProof.Rows L2

theorem hok_hide {P : Program} {w : World} {H : Hp} {h : Heap} {C : Addr} (k : HOk P w H h) (n : H C = none) : HOk P w H (PySem.W.hideAll h [C]) := fun a o e =>
  (k a o e).stay (fun b u hb q => PySem.W.hideAll_get _ q (fun z => by
    rw [List.mem_singleton] at z
    subst z
    rcases hb with hb | hb
    · rw [hb, e] at n; cases n
    · rw [hb] at n; cases n)) (fun _ r => r) (fun _ _ r => r)

/-- noted by the block's frame, the block's names let go, and on -/
theorem noted_comp {M : Model} {A : Around} {E : Value → Shared → Prop} {sr : Shared} {B : Heap} {env ce : Env} {outer : List Env} {a L : Addr} {Z : Obj → Prop} {m : Str → Option Value}
    (hZ : HandSPX.Steady Z) (hfr : A.frames = some (env :: outer)) (hcf : ce.frame = env.frame) (hf : env.frame = some L) (hbC : B.get? ce.locals = none) (hn : sr.heap.Ns ce.locals m)
    (hfl : HandSPX.FlyingZ B (env :: outer) a Z sr.heap)
    (hQ : ∀ h', HandSPX.HeldZ B (env :: outer) a Z L h' → (∀ b o, sr.heap.get? b = some o → b ≠ ce.locals → (∀ vs, o.data ≠ .fields vs) → ∃ sl, h'.get? b = some { o with slots := sl }) → E (.ref a) { sr with heap := h' }) :
    notedBy M A ce (CompFails M A E ce) (.ref a) sr := by
  show wpAny M A (noteFrame (.ref a) ce) _ _ sr
  rw [noteFrame_env _ hcf]
  refine HandSPX.looks_onZ hZ hfr hf hfl fun g1 hh up => ?_
  have hn1 : g1.Ns ce.locals m := hn.upToSlots up
  refine ⟨m, hn1, fun g2 m2 hn2 sb => ?_⟩
  obtain ⟨st1, na, ff1, oe, vs, T, oT, ts, he, hz, hd, e1, nT, Ta, hT, hdT, e3⟩ := hh
  have notC : ∀ {b : Addr} {o : Obj} {xs : Array Value}, g1.get? b = some o → o.data = .fields xs → b ≠ ce.locals := fun {b o xs} q dq z => by
    obtain ⟨oL, es, ep, hoL, hdL, _⟩ := hn1
    rw [z, hoL] at q
    cases q
    rw [hdL] at dq
    cases dq
  have st2 : B.StaysIn g2 := fun b o q => (sb.2 b fun z => by rw [z, hbC] at q; cases q).trans (st1 b o q)
  have he2 := (sb.2 a (notC he hd)).trans he
  have hT2 := (sb.2 T (notC hT hdT)).trans hT
  have ff2 : g2.FunFrames B (env :: outer) := Heap.FunFrames.sameBut sb hn2 ff1
  unfold PySem.passOn
  refine wpAny_bind (wpAny_field he2 hd e1 ?_)
  rw [if_neg (by simp), hcf, hf]
  refine wpAny_bind (HandSPX.setFlight_onZ (l := env :: outer) (L := L) ⟨st2, na, ff2, oe, vs, T, oT, ts, he2, hz, hd, e1, nT, Ta, hT2, hdT, e3⟩ fun g3 hh3 up3 => ?_)
  refine wpAny_throw (hQ g3 hh3 fun b o q nb nf => ?_)
  obtain ⟨sl, q1⟩ := up b o q nf
  exact up3 b { o with slots := sl } ((sb.2 b nb).trans q1) nf

section
variable {X : Cx} {W : WX} {pins : List (Addr × Obj)} {σ : L2.St} {H H' : Hp} {s sr : Shared} {B : Heap} {a : Addr} {cls : Value} {d : Option Addr}
/-- as XE.of_call, held by this frame already -/
theorem xe_held (I : Inv X pins σ H s) (fl : HandSPX.HeldZ B X.stack a (Zc cls d) X.env.locals sr.heap) (hok : HOk X.prog X.w H' B) (ub : UB (frs X.stack) H H' s.heap B sr.heap) (na : H' a = none) (os : sr.os = s.os) (ag : AllBare sr.gens) (w : W cls d σ H') : XE X W (.ref a) sr := by
  obtain ⟨G, y1, y2⟩ := restrict sr.heap fun b => (B.get? b).isSome || decide (b ∈ frs X.stack)
  have st : B.StaysIn sr.heap := fl.1
  have inB : ∀ b o, B.get? b = some o → G.get? b = some o := fun b o e => (y1 b (by simp [e])).trans (st b o e)
  have inF : ∀ b, b ∈ frs X.stack → G.get? b = sr.heap.get? b := fun b hb => y1 b (by simp [hb])
  have back : ∀ b o, G.get? b = some o → sr.heap.get? b = some o ∧ ((B.get? b).isSome = true ∨ b ∈ frs X.stack) := fun b o e => by
    by_cases q : ((B.get? b).isSome || decide (b ∈ frs X.stack)) = true
    · rw [y1 b q] at e
      exact ⟨e, by simpa [Bool.or_eq_true] using q⟩
    · rw [y2 b (by simpa using q)] at e
      cases e
  refine ⟨a, B, { s with heap := G, gens := sr.gens, drawn := sr.drawn, toks := sr.toks }, pins, σ, H', cls, d, rfl, ?_, fun b o e hb => ?_, Heap.UpToSlots.of_keeps fun b o e => (back b o e).1, .inr (.inr fl), na, os, ag, w⟩
  · refine I.call (ch := []) ⟨fun b o e n hb _ => inB b o (ub.keep b o e n hb), fun b o e n hb _ => ?_, fun b o e n _ => ub.free b o e n, fun b o e _ => ?_, ub.tups, ub.frzs, ub.tbls⟩ (hok.kept inB) ag (fun _ z => nomatch z)
    · obtain ⟨sl, q⟩ := ub.slot b o e hb
      exact ⟨sl, (inF b hb).trans q⟩
    · by_cases hb : b ∈ frs X.stack
      · obtain ⟨sl, q⟩ := ub.slot b o e hb
        exact ⟨_, (inF b hb).trans q⟩
      · obtain ⟨o', q⟩ := ub.there b o e hb
        exact ⟨o', inB b o' q⟩
  · obtain ⟨e', hh⟩ := back b o e
    rcases hh with hh | hh
    · obtain ⟨o', q⟩ := Option.isSome_iff_exists.mp hh
      have z := st b o' q
      rw [e'] at z
      cases z
      exact q
    · exact absurd hh hb
/-- what is raised in a block is in the def's air -/
theorem blk_raise {sc s3 : Shared} {H3 Hc : Hp} {σ' : L2.St} {pins' : List (Addr × Obj)} {scope : Scope} {ce : Env} {fp : List Addr} {u : Value} {sr : Shared} {xe : Value → Shared → Prop}
    (tk : Takes X W) (hs : X.stack = X.env :: X.outer) (hf : X.env.frame = some X.env.locals) (I3 : Inv X pins σ H3 s3)
    (hch : ∀ b ∈ fp, (b ∈ X.ex ∨ X.s_0.heap.objs.size ≤ b) ∧ b ≠ X.env.locals ∧ (∀ x c, X.env.cells.lookup x = some c → c ≠ b) ∧ ∀ p ∈ X.pn ++ pins, p.1 ≠ b)
    (hcf : ce.frame = X.env.frame) (hcl : ce.locals = s3.heap.objs.size) (Ib : Inv ((X.blk s3 H3 scope ce fp).wish xe) pins' σ' Hc sc)
    (c : L2.CX X.prog X.w X.stack Hc sc (fun cls d H' => W cls d σ H') u sr) :
    notedBy (model X.prog X.w) X.A ce (CompFails (model X.prog X.w) X.A X.xe ce) u sr := by
  obtain ⟨a, B, H', cls, d, rfl, ⟨st, en, ff, tz⟩, hok, ub, na, os, ag, hE⟩ := c
  have nC : Hc ce.locals = none := Ib.free
  obtain ⟨m, hn, _⟩ := Ib.loc
  have hn : sc.heap.Ns ce.locals m := hn
  obtain ⟨oC, es, ep, qC, rC⟩ := id hn
  have old : ∀ b o, s3.heap.get? b = some o → b ∉ [ce.locals] := fun b o q z => by
    rw [List.mem_singleton] at z
    have := Heap.lt_size q
    rw [z, hcl] at this
    exact absurd this (Nat.lt_irrefl _)
  have nfr : ce.locals ∉ frs X.stack := fun z => by
    obtain ⟨_, o', e', _⟩ := I3.stack.mem z
    exact old _ _ e' (List.mem_singleton.mpr rfl)
  have uC : Un (frs X.stack) fp H3 Hc s3.heap sc.heap := Ib.base
  have I7 : Inv X pins σ Hc { sc with heap := PySem.W.hideAll sc.heap [ce.locals] } := I3.call' (ch := fp) Ib.os
    ⟨fun b o q n h1 h2 => PySem.W.hideAll_get _ (uC.keep b o q n h1 h2) (old b o q), fun b o q n h1 h2 => by
        obtain ⟨sl, z⟩ := uC.slot b o q n h1 h2
        exact ⟨sl, PySem.W.hideAll_get _ z (old b o q)⟩,
      uC.free, fun b o q h => by
        obtain ⟨o', z⟩ := uC.there b o q h
        exact ⟨o', PySem.W.hideAll_get _ z (old b o q)⟩, uC.tups, uC.frzs, uC.tbls⟩
    (hok_hide Ib.hok nC) Ib.bare hch
  have nC' : H' ce.locals = none := ub.free _ _ qC nC
  have qC2 : sr.heap.get? ce.locals = some oC := st _ _ (ub.keep _ _ qC nC nfr)
  have hn2 : sr.heap.Ns ce.locals m := ⟨oC, es, ep, qC2, rC⟩
  have hide : ∀ {b : Addr} {o : Obj}, (PySem.W.hideAll B [ce.locals]).get? b = some o → B.get? b = some o := fun e => PySem.W.of_hideAll _ e
  have none' : ∀ {b : Addr}, B.get? b = none → (PySem.W.hideAll B [ce.locals]).get? b = none := fun {b} e => by
    cases q : (PySem.W.hideAll B [ce.locals]).get? b with
    | none => rfl
    | some o => rw [hide q] at e; cases e
  have notC : ∀ {b : Addr} {o : Obj}, (PySem.W.hideAll sc.heap [ce.locals]).get? b = some o → b ∉ [ce.locals] := fun {b o} q z => by
    rw [PySem.W.hideAll_none _ z] at q
    cases q
  have ff' : sr.heap.FunFrames (PySem.W.hideAll B [ce.locals]) X.stack := funFrames_none ff fun L hL => none' (ff.mem hL).1
  have fl' : HandSPX.FlyingZ (PySem.W.hideAll B [ce.locals]) X.stack a (Zc cls d) sr.heap := ⟨fun b o q => st b o (hide q), none' en, ff', by
    obtain ⟨oe, vs, T, oT, ts, he, hz, hd, e1, nT, r⟩ := tz
    exact ⟨oe, vs, T, oT, ts, he, hz, hd, e1, none' nT, r⟩⟩
  rw [hs] at fl'
  have hfr : X.A.frames = some (X.env :: X.outer) := by rw [I3.ok.frames, hs]
  refine noted_comp Zc.steady hfr hcf hf (PySem.W.hideAll_none _ (List.mem_singleton.mpr rfl)) hn2 fl' fun h' held up => ?_
  rw [← hs] at held
  refine tk _ _ (xe_held I7 held (hok_hide hok nC') ⟨fun b o q n hb => ?_, fun b o q hb => ?_, fun b o q n => ub.free b o (PySem.W.of_hideAll _ q) n, fun b o q hb => ?_, ub.tups, ub.frzs, ub.tbls⟩ na os ag hE)
  · exact PySem.W.hideAll_get _ (ub.keep b o (PySem.W.of_hideAll _ q) n hb) (notC q)
  · obtain ⟨sl, z⟩ := ub.slot b o (PySem.W.of_hideAll _ q) hb
    obtain ⟨_, o', e', hd'⟩ := I7.stack.mem hb
    have e'' : (PySem.W.hideAll sc.heap [ce.locals]).get? b = some o' := e'
    rw [q] at e''
    cases e''
    exact up b { o with slots := sl } z (fun z2 => notC q (List.mem_singleton.mpr z2)) hd'
  · obtain ⟨o', z⟩ := ub.there b o (PySem.W.of_hideAll _ q) hb
    exact ⟨o', PySem.W.hideAll_get _ z (notC q)⟩
end

section
variable {X : Cx}
/-- the block, its exceptions wished for -/
abbrev BlW (X : Cx) (s : Shared) (H : Hp) (scope : Scope) (C : Addr) (cl : List (Str × Addr)) (fp : List Addr) (E : Value → Shared → Prop) : Cx := (X.blk s H scope (compEnvC scope cl C X.env) fp).wish E
/-- what is raised at σ is taken -/
def TakesC (X : Cx) (W : WX) : Prop := ∀ σ : L2.St, PassesAt (L2.CX X.prog X.w) X σ (fun cls d H => W cls d σ H)
theorem inv_wish {pins : List (Addr × Obj)} {σ : L2.St} {H : Hp} {s : Shared} {E : Value → Shared → Prop} (I : Inv X pins σ H s) : Inv (X.wish E) pins σ H s :=
  ⟨I.ok.toTry X.pn E, I.os, I.bare, I.base, I.loc, I.cell, I.free, I.freeC, I.pin, I.hok, I.len⟩
end

/-! #### what it makes of data -/
theorem bind_assoc' {α β γ : Type} (x : R α) (f : α → R β) (g : β → R γ) : (x.bind f).bind g = x.bind fun a => (f a).bind g := by cases x <;> rfl
section
variable {X : Cx} {W : WX} {elt tg iter : Expr} {ifs : List Expr} {scope : Scope} {own : List (Str × Nat)} {pos : Pos} {fi : REnv → R (List D)} {t : TG} {b : D → REnv → Option REnv} {c : REnv → R Bool} {e : REnv → R D} {is : List Nat}
end
section
variable {X : Cx} {W : WX} {e : Expr} {es : List Expr} {x : Str} {p pos : Pos} {k n : Nat} {t : REnv → R (List D)} {fn : List D → R D}
/-- a call in such a step -/
theorem se_callT (C : Cal X.prog X.w X.K X.mg X.base x k n fn) (tk : TakesC X W) (hr : Room k X.A)
    (ha : SA X W (e :: es) t) (hg : Gl X x := by rfl) (hdb : (x == ("__debug__" : Str)) = false := by decide) (he : starEach (e :: es) X.env = (false, eval e X.env) :: starEach es X.env := by rfl) (hpl : (backTo pos (starEach es X.env)).any (·.1) = false := by rfl) :
    SE X W (.Call (.Name x p) (e :: es) [] pos) (eCall fn t) := by
  obtain ⟨f, fd, ps, Fo, hm, hk, hb⟩ := C.ex
  refine (pe_callS (E := WE W) Fo hr hg hm hk hb tk ha hdb he hpl).dy fun σ H Q ⟨G, F, ρ, r, p⟩ => ⟨G, F, ρ, r, Post.bind p fun ds vs F' H' _ ex rp p' => ?_⟩
  have hn : ds.length = n := Classical.byContradiction fun z => by
    rw [C.len ds z] at p'
    exact p'
  refine ⟨by rw [← rp.length]; exact hn, F', ds, ex.s, rp, ?_⟩
  cases q : fn ds with
  | ok d => rw [q] at p'; exact p'
  | err d => rw [q] at p'; exact p'
  | bad => rw [q] at p'; exact p'
end
/-! #### weakest conditions -/
section
variable {b : D → REnv → Option REnv} {c : REnv → R Bool} {e : REnv → R D} {ρ : REnv} {P : D → Prop} {E : D → Prop} {vs : List Nat} {fi : REnv → R (List D)}
end
end Dy

set_option Elab.async false
set_option linter.all false
set_option maxRecDepth 100000
set_option maxHeartbeats 2000000
/-! sorted of texts, in, a text times a whole number. -/
namespace Dy
open PySem PySem.Spec PyProof.Rows L2
/-! ### the order of texts -/
/-! ### sorted -/
section
variable {K : PySem.W.Frag} {F H : Hp}
end
section
variable {X : Cx}
/-! ### in -/
/-! ### a text times a whole number -/
end
end Dy

set_option Elab.async false
set_option linter.all false
set_option maxRecDepth 100000
set_option maxHeartbeats 2000000
/-! ### min([..], default=True) of truths that are all True -/
namespace Dy
open PySem PySem.Spec PyProof.Rows L2
section
variable {X : Cx} {W : WX} {e d : Expr} {f g : REnv → R D} {x : Str} {p kp pos : Pos}
end
end Dy

set_option Elab.async false
set_option linter.all false
set_option maxRecDepth 100000
/-! ### a def's result as the caller's own list -/
namespace Dy
open PySem PySem.Spec PyProof.Rows L2

section
variable {K : PySem.W.Frag} {G F H F' H' : Hp} {σ : St} {ρ : REnv}
/-- a list that came in between is kept -/
theorem Ext.keep {a : Addr} {vs : List V} (ex : Ext F H F' H') (ha : H a = none) (h' : H' a = some (.lst vs)) (hf : F' a = none) : Ext F H (upd F' a (.lst vs)) H' ∧ Same F' (upd F' a (.lst vs)) := by
  have sm : Same F' (upd F' a (.lst vs)) := same_upd hf
  refine ⟨⟨ex.f.trans sm, ex.h, fun b o q => ?_, fun b o q z => ?_⟩, sm⟩
  · by_cases hb : b = a
    · subst hb; rw [upd_same] at q; rw [← q]; exact h'
    · rw [upd_ne hb] at q; exact ex.s _ _ q
  · by_cases hb : b = a
    · subst hb; exact ha
    · rw [upd_ne hb] at q; exact ex.n b o q z
end
/-! ### results -/
def asL : D → R (List D)
  | .lst es => .ok es
  | _ => .bad
def PostO (K : PySem.W.Frag) (W : WX) (σ : St) (F H : Hp) (x : R (List D)) (Q : V → Hp → Prop) : Prop := match x with
  | .ok es => ∀ a ws F' H', Ext F H F' H' → H' a = some (.lst ws) → RepL K F' es ws → F' a = none → H a = none → Q (.ref a) H'
  | .err e => ∀ cls dd F' H', Ext F H F' H' → XD K F' e cls dd → W cls dd σ H'
  | .bad => False
def spO (K : PySem.W.Frag) (n : Nat) (fn : List D → R D) : Sp := fun vs H Q E => vs.length = n ∧ ∃ F ds, Same F H ∧ RepL K F ds vs ∧ PostO K (fun cls dd _ H' => E cls dd H') [] F H ((fn ds).bind asL) Q
def PostSO (K : PySem.W.Frag) (W : WX) (D : Ends) (G F : Hp) (x : SR) : Prop := match x with
  | .next ρ => ∀ σ' F' H', Same F F' → NewG G F F' → RepE K G F' H' σ' ρ → D.nx σ' H'
  | .ret d => ∃ es, d = .lst es ∧ ∀ a ws F' H', Same F F' → NewG G F F' → Same G H' → Same F' H' → H' a = some (.lst ws) → RepL K F' es ws → F' a = none → G a = none → D.rt (.ref a) H'
  | .err e ρ => ∀ σ' F' H' cls dd, Same F F' → NewG G F F' → RepE K G F' H' σ' ρ → XD K F' e cls dd → W cls dd σ' H'
  | .bad => False
section
variable {α β : Type} {K : PySem.W.Frag} {W : WX} {D D' : Ends} {G F F' H : Hp} {σ : St} {ρ : REnv}
theorem PostSO.ext {x : SR} (s : Same F F') (n : NewG G F F') (h : PostSO K W D G F x) : PostSO K W D G F' x := by
  cases x with
  | next ρ => exact fun σ' F2 H' s2 n2 r => h σ' F2 H' (s.trans s2) (n.trans n2) r
  | ret d =>
    obtain ⟨es, e, h⟩ := h
    exact ⟨es, e, fun a ws F2 H' s2 n2 => h a ws F2 H' (s.trans s2) (n.trans n2)⟩
  | err e ρ => exact fun σ' F2 H' cls dd s2 n2 r x => h σ' F2 H' cls dd (s.trans s2) (n.trans n2) r x
  | bad => exact h
theorem PostSO.toS {rel : Hp → α → β → Prop} {x : R α} {k : α → SR} {Q : β → Hp → Prop} (r : RepE K G F H σ ρ) (h : PostSO K W D G F (x.toS ρ k))
    (f : ∀ a v F' H', x = .ok a → Ext F H F' H' → rel F' a v → RepE K G F' H' σ ρ → PostSO K W D G F' (k a) → Q v H') : Post K W rel σ F H x Q := by
  cases x with
  | ok a => exact fun v F' H' e p => f a v F' H' rfl e p (r.ext e) (PostSO.ext e.f (e.newG r.g) h)
  | err e => exact fun cls dd F' H' ex p => h σ F' H' cls dd ex.f (ex.newG r.g) (r.ext ex) p
  | bad => exact h
theorem PostSO.seq {x : SR} {g : REnv → SR} {nx : St → Hp → Prop} (h : PostSO K W D G F (x.seq g))
    (f : ∀ ρ σ' F' H', x = .next ρ → Same F F' → NewG G F F' → RepE K G F' H' σ' ρ → PostSO K W D G F' (g ρ) → nx σ' H') : PostSO K W { D with nx := nx } G F x := by
  cases x with
  | next ρ => exact fun σ' F' H' s n r => f ρ σ' F' H' rfl s n r (PostSO.ext s n h)
  | ret d => exact h
  | err e ρ => exact h
  | bad => exact h
end
/-- no return in it -/
def sNR (g : REnv → SR) : REnv → SR := fun ρ => match g ρ with
  | .ret _ => .bad
  | x => x
section
variable {X : Cx} {W : WX} {st : Stmt} {rest : List Stmt} {g h : REnv → SR} {e : Expr} {f : REnv → R D} {pos : Pos}
/-- return x, x one's own -/
def sRetO (i : Nat) : REnv → SR := fun ρ => match ρ[i]? with
  | some (.own ds) => .ret (.lst ds)
  | _ => .bad
/-- return [..] -/
def sRetL (t : REnv → R (List D)) : REnv → SR := fun ρ => (t ρ).toS ρ fun ds => if ds.length ≤ sizeLine then .ret (.lst ds) else .bad
/-! ### defs -/
end
section
variable {P : Program} {w : World} {K : PySem.W.Frag} {mg : Str → Option Value} {base : Heap} {x qual : Str} {params : Arguments} {body : List Stmt} {scope : Scope} {f : Addr} {fd : FuncData} {N ps : List Str} {k : Nat}
structure CalO (P : Program) (w : World) (K : PySem.W.Frag) (mg : Str → Option Value) (base : Heap) (x : Str) (k n : Nat) (fn : List D → R D) : Prop where
  ex : ∃ (f : Addr) (fd : FuncData) (ps : List Str), FnOk P w K mg base (L2.CX P w) k f fd ps (spO K n fn) ∧ mg x = some (.ref f) ∧ PySem.W.keepIn K (.ref f) = true ∧ Binds K fd ps []
  len : ∀ ds, ds.length ≠ n → fn ds = .bad
  lst : ∀ ds d, fn ds = .ok d → ∃ es, d = .lst es
end
section
variable {X : Cx} {W : WX} {e : Expr} {es : List Expr} {x y : Str} {p pos pos' cp : Pos} {k n : Nat} {t : REnv → R (List D)} {fn : List D → R D}
/-- y = f(..), the list one's own -/
def sSetO (i : Nat) (fn : List D → R D) (t : REnv → R (List D)) : REnv → SR := fun ρ => (t ρ).toS ρ fun ds => (fn ds).toS ρ fun d => (asL d).toS ρ fun es => .next (ρ.set i (.own es))
end
/-! ### weakest conditions -/
def IsL (d : D) (P : List D → Prop) : Prop := ∃ es, d = .lst es ∧ P es
theorem is_l {es : List D} {P : List D → Prop} (h : P es) : IsL (.lst es) P := ⟨es, rfl, h⟩
section
variable {ρ : REnv} {N : REnv → Prop} {T : D → Prop} {E : D → REnv → Prop} {g : REnv → SR} {t : REnv → R (List D)}
theorem sp_nr (h : (g ρ).wp N (fun _ => False) E) : (sNR g ρ).wp N T E := by
  unfold sNR
  cases q : g ρ with
  | next a => rw [q] at h; exact h
  | ret a => rw [q] at h; exact h.elim
  | err a b => rw [q] at h; exact h
  | bad => rw [q] at h; exact h.elim
theorem sp_retO {i : Nat} {ds : List D} (e : ρ[i]? = some (.own ds)) (h : T (.lst ds)) : (sRetO i ρ).wp N T E := by
  unfold sRetO; rw [e]; exact h
theorem sp_retL (h : (t ρ).wp (fun ds => Fits ds.length (T (.lst ds))) (fun e => E e ρ)) : (sRetL t ρ).wp N T E := wp_toS (h.post fun ds ⟨h1, h2⟩ => by rw [if_pos h1]; exact h2)
theorem sp_setO {i : Nat} {fn : List D → R D} (h : (t ρ).wp (fun ds => (fn ds).wp (fun d => IsL d fun es => Upd ρ i (.own es) N) (fun e => E e ρ)) (fun e => E e ρ)) : (sSetO i fn t ρ).wp N T E :=
  wp_toS (h.post fun ds h1 => wp_toS (h1.post fun d ⟨es, e, h2⟩ => by subst e; exact h2))
end
end Dy

set_option Elab.async false
set_option linter.all false
set_option maxRecDepth 100000
/-! ### for t in x: if c: return e -- x one's own list, and so it stays -/
namespace Dy
open PySem PySem.Spec PyProof.Rows L2
section
variable {X : Cx} {W : WX} {tg c e : Expr} {t : TG} {b : D → REnv → Option REnv} {u : REnv → R Bool} {f : REnv → R D} {is : List Nat} {x : Str} {np ip rp pos : Pos}
end
/-! ### one's own list handed to a def that tells numbers -/
mutual
def noL : D → Bool
  | .non => true
  | .bl _ => true
  | .int _ => true
  | .str _ => true
  | .tup xs => noLs xs
  | _ => false
def noLs : List D → Bool
  | [] => true
  | x :: xs => noL x && noLs xs
end
section
variable {K : PySem.W.Frag} {F F' : Hp} {a : Addr} {vs : List V}
theorem seqT_drop {p : Addr} {us : List V} (e : F a = some (.lst vs)) (h : ∀ b, b ≠ a → F' b = F b) (q : SqT K F p us) : SqT K F' p us := by
  rcases q with (q | ⟨o, q⟩) | q
  · exact .inl (.inl (by rw [h p (fun z => by rw [z, e] at q; cases q)]; exact q))
  · exact .inl (.inr ⟨o, by rw [h p (fun z => by rw [z, e] at q; cases q)]; exact q⟩)
  · exact .inr q
mutual
theorem rep_drop (e : F a = some (.lst vs)) (h : ∀ b, b ≠ a → F' b = F b) : ∀ (d : D) (v : V), noL d = true → Rep K F d v → Rep K F' d v
  | .non, v, _, r => by simpa [Rep] using r
  | .bl b, v, _, r => by simpa [Rep] using r
  | .int i, v, _, r => by simpa [Rep] using r
  | .str x, v, _, r => by simpa [Rep] using r
  | .tup xs, v, n, r => by
    simp only [Rep] at r ⊢
    obtain ⟨p, us, h1, h2, h3⟩ := r
    exact ⟨p, us, h1, seqT_drop e h h2, repL_drop e h xs us n h3⟩
theorem repL_drop (e : F a = some (.lst vs)) (h : ∀ b, b ≠ a → F' b = F b) : ∀ (ds : List D) (us : List V), noLs ds = true → RepL K F ds us → RepL K F' ds us
  | [], us, _, r => by simpa [RepL] using r
  | d :: ds, us, n, r => by
    simp only [RepL] at r ⊢
    obtain ⟨v, rr, h1, h2, h3⟩ := r
    have n : (noL d && noLs ds) = true := n
    rw [Bool.and_eq_true] at n
    exact ⟨v, rr, h1, rep_drop e h d v n.1 h2, repL_drop e h ds rr n.2 h3⟩
end
end
end Dy

set_option Elab.async false
set_option linter.all false
set_option maxRecDepth 100000
/-! ### return [.. for .. if ..], the test and the step may raise, the list the asker's own -/
namespace Dy
open PySem PySem.Spec PyProof.Rows L2
section
variable {X : Cx}
theorem lcQ {pins : List (Addr × Obj)} {s : Shared} {σ : L2.St} {H : Hp} {Q : VK} {W : WX} {elt tg iter : Expr} {ifs : List Expr} {scope : Scope} {own : List (Str × Nat)} {pos pos' : Pos} {wi : TI} {g : TG} {tt : WX → TT} {te : WX → TE} {use : Option (Value → Sem Unit)} {Qf : Value → Shared → Prop}
    (tk : Takes X W) (hs : X.stack = X.env :: X.outer) (hf : X.env.frame = some X.env.locals)
    (hc : X.calm = true) (hN : X.N.Nodup) (I : Inv X pins σ H s) (hi : PI X tg iter wi) (ok : BlkOk X.N X.env.scope scope own)
    (hg : ∀ s H C cl fp E, PG (BlW X s H scope C cl fp E) tg g) (ht : ∀ s H C cl fp E V, TakesC (BlW X s H scope C cl fp E) V → PTs (BlW X s H scope C cl fp E) ifs (tt V))
    (he : ∀ s H C cl fp E V, TakesC (BlW X s H scope C cl fp E) V → PE (BlW X s H scope C cl fp E) elt (te V)) (hst : ∀ x, foldedSetIterable iter X.env x = pure x)
    (h : tLc wi g (tt fun cls d _ H => W cls d σ H) (te fun cls d _ H => W cls d σ H) (own.map (·.2)) σ H Q)
    (hRR : ∀ (D : Addr) (ce : Env) s' m H', Inv X pins σ H' s' → Q (.ref D) H' → s'.heap.Ns ce.locals m → FpOk X pins H' ce.locals → compEnds (model X.prog X.w) X.A X.xe use Qf (.ref D) ce (.ok .next) s') :
    wpAny (model X.prog X.w) X.A (comprehension (.ListComp elt [⟨tg, iter, ifs, 0⟩] scope pos) scope X.env pos' (newList []) false (eval iter X.env) use) Qf X.xe s := by
  have hfree : ∀ y ∈ scope.names, y.2 = .free → ∃ c, X.env.cells.lookup y.1 = some c := fun y hy e =>
    (ok.free y hy e).elim (fun k => I.ok.has _ (.inl k)) (fun k => I.ok.has _ (.inr k))
  refine comprehension_at (use := use) rfl hst (closure_ok hfree) ok.kind (fun y hy e => by rw [ok.uniq y hy, e]) (thn (hi.run pins s σ H _ I h) fun xv s1 k1 => thn k1 fun itv s2 k2 => ?_)
  obtain ⟨it, fp, tn, J, H2, rfl, I2, T, stn2, fpo, q⟩ := k2
  refine wpAny_newObj_type (newEnv_comp ?_) (by show 0 ≤ sizeLine; decide)
  generalize hD : s2.heap.objs.size = D
  obtain ⟨U, ⟨m0, u0⟩, turn⟩ := q D (I2.hok.fresh (Nat.le_of_eq hD))
  generalize hs3 : ({ s2 with heap := s2.heap.push { cls := .type "list", data := .seq ([] : List Value).toArray } } : Shared) = s3
  have hp3 : s3.heap = s2.heap.push { cls := .type "list", data := .seq ([] : List Value).toArray } := by rw [← hs3]
  have I3 : Inv X pins σ (upd H2 D (.lst [])) s3 := by
    rw [← hs3]
    refine I2.laid (t' := s2.toks) (fun b o q => Heap.get?_push_of_some _ q) (Nat.le_of_eq hD) ⟨Nat.zero_le _, [], 0, .nil, ?_⟩
    rw [← hD]
    exact Heap.get?_push_size _ rfl
  have below : ∀ b ∈ fp, b < s2.heap.objs.size := fun b hb => by
    obtain ⟨o, q, _⟩ := T.obj _ _ stn2 b hb
    exact Heap.lt_size q
  have fp3 : ∀ b ∈ fp, FpOk X pins (upd H2 D (.lst [])) b ∧ b < s3.heap.objs.size := fun b hb => by
    have lt := below b hb
    refine ⟨⟨?_, (fpo b hb).2⟩, by rw [hp3, Heap.size_push]; exact Nat.lt_succ_of_lt lt⟩
    rw [upd_ne (by rw [← hD]; exact Nat.ne_of_lt lt)]
    exact (fpo b hb).1
  have stn3 : tn 0 s3.heap := T.keep _ _ _ stn2 fun b _ o q => by rw [hp3]; exact Heap.get?_push_of_some _ q
  have I4 := block_start I3 ok hN fp3
  show codeAny _ _ (.compStart (.ListComp elt [⟨tg, iter, ifs, 0⟩] scope pos) 0 (.ref it) (.ref D) (compEnvC scope (cellsFrom (s3.heap.objs.size + 1) scope.names (cloFrom X.env.cells scope.names [])) s3.heap.objs.size X.env))
    (compEnds (model X.prog X.w) X.A X.xe use Qf (.ref D) (compEnvC scope (cellsFrom (s3.heap.objs.size + 1) scope.names (cloFrom X.env.cells scope.names [])) s3.heap.objs.size X.env)) { s3 with heap := pushCells (s3.heap.push { cls := .type "dict", data := .dict #[] }) scope.names }
  have hg' := hg s3 (upd H2 D (.lst [])) s3.heap.objs.size (cellsFrom (s3.heap.objs.size + 1) scope.names (cloFrom X.env.cells scope.names [])) fp
  have ht' := ht s3 (upd H2 D (.lst [])) s3.heap.objs.size (cellsFrom (s3.heap.objs.size + 1) scope.names (cloFrom X.env.cells scope.names [])) fp
  have he' := he s3 (upd H2 D (.lst [])) s3.heap.objs.size (cellsFrom (s3.heap.objs.size + 1) scope.names (cloFrom X.env.cells scope.names [])) fp
  have nfp : ∀ b ∈ fp, (upd H2 D (.lst [])) b = none := fun b hb => (fp3 b hb).1.1
  unfold BlW at hg' ht' he'
  generalize hce : compEnvC scope (cellsFrom (s3.heap.objs.size + 1) scope.names (cloFrom X.env.cells scope.names [])) s3.heap.objs.size X.env = ce at I4 hg' ht' he' ⊢
  have hcl : ce.locals = s3.heap.objs.size := by rw [← hce]; rfl
  have hcf : ce.frame = X.env.frame := by rw [← hce]; rfl
  generalize upd H2 D (.lst []) = H3 at I3 I4 hg' ht' he' u0 nfp fp3
  generalize hs4 : ({ s3 with heap := pushCells (s3.heap.push { cls := .type "dict", data := .dict #[] }) scope.names } : Shared) = s4 at I4 ⊢
  have stn4 : tn 0 s4.heap := T.keep _ _ _ stn3 fun b _ o q => by rw [← hs4]; exact pushCells_keeps _ _ _ _ (Heap.get?_push_of_some _ q)
  have hch : ∀ b ∈ fp, (b ∈ X.ex ∨ X.s_0.heap.objs.size ≤ b) ∧ b ≠ X.env.locals ∧ (∀ x c, X.env.cells.lookup x = some c → c ≠ b) ∧ ∀ p ∈ X.pn ++ pins, p.1 ≠ b := fun b hb =>
    ⟨(fp3 b hb).1.2.2.2.1, (fp3 b hb).1.2.1, (fp3 b hb).1.2.2.2.2.1, (fp3 b hb).1.2.2.2.2.2⟩
  obtain ⟨E, hE⟩ : ∃ E : Value → Shared → Prop, E = fun u sr => ∃ (pins' : List (Addr × Obj)) (σ' : L2.St) (Hc : Hp) (sc : Shared), Inv ((X.blk s3 H3 scope ce fp).wish fun _ _ => False) pins' σ' Hc sc ∧ L2.CX X.prog X.w X.stack Hc sc (fun cls d H' => W cls d σ H') u sr := ⟨_, rfl⟩
  have pg := hg' E
  have tkE : TakesC ((X.blk s3 H3 scope ce fp).wish E) (fun cls d _ H => W cls d σ H) := fun σ' pins' Hc sc u sr Ic c => by
    show E u sr
    rw [hE]
    exact ⟨pins', σ', Hc, sc, inv_wish (X := (X.blk s3 H3 scope ce fp).wish E) Ic, c⟩
  have pt := ht' E (fun cls d _ H => W cls d σ H) tkE
  have pe := he' E (fun cls d _ H => W cls d σ H) tkE
  have raised : ∀ u sr, E u sr → notedBy (model X.prog X.w) X.A ce (fun e sr => compEnds (model X.prog X.w) X.A X.xe use Qf (.ref D) ce (.error e) sr) u sr := fun u sr z => by
    rw [hE] at z
    obtain ⟨pins', σ', Hc, sc, Ic, c⟩ := z
    have b := blk_raise tk hs hf I3 hch hcf hcl Ic c
    cases use <;> exact b
  have stat : ∀ {σ' : L2.St} {H' : Hp} {s' : Shared}, Inv ((X.blk s3 H3 scope ce fp).wish E) [] σ' H' s' → (∀ b ∈ fp, H' b = none) → ∀ b ∈ fp, FpOk ((X.blk s3 H3 scope ce fp).wish E) [] H' b := fun {σ' H' s'} J' hn b hb =>
    ⟨hn b hb, (J'.ok.exf b hb).1, J'.ok.exfs b hb, .inl hb, fun x c e => (J'.ok.exf b hb).2 x c e, fun p hp => absurd (show p ∈ ([] : List (Addr × Obj)) ++ [] from hp) (by simp)⟩
  have loop : codeAny (model X.prog X.w) X.A (.compLoop (.ListComp elt [⟨tg, iter, ifs, 0⟩] scope pos) 0 (.ref it) (.ref D) ce) (compEnds (model X.prog X.w) X.A X.xe use Qf (.ref D) ce) s4 := by
    refine compLoop_any (fun n s' => ∃ i H', Inv ((X.blk s3 H3 scope ce fp).wish E) [] (wipe σ (own.map (·.2))) H' s' ∧ tn i s'.heap ∧ (∀ b ∈ fp, H' b = none) ∧ U i n H') ?_ m0 ⟨0, H3, inv_wish I4, stn4, nfp, u0⟩
    rintro n s5 ⟨i, H5, J5, stn5, n5, u5⟩
    rcases turn i n H5 u5 with ⟨stop, qq⟩ | ⟨go, Nx, hNx, step⟩
    · refine thnF (T.done ((X.blk s3 H3 scope ce fp).wish E) rfl rfl rfl hc i [] s5 _ H5 (fun _ _ => False) J5 (stat J5 n5) stn5 stop) fun r s6 ⟨er, J6⟩ => ?_
      subst er
      have I7 : Inv X pins σ H5 s6 := I3.call' (ch := fp) J6.os J6.base J6.hok J6.bare hch
      have nC : H5 s3.heap.objs.size = none := by
        have z : H5 ce.locals = none := J6.free
        rw [hcl] at z
        exact z
      obtain ⟨m, hn, _⟩ := J6.loc
      exact hRR D ce s6 m H5 I7 qq hn (by rw [hcl]; exact I3.fpOk (Nat.le_refl _) nC)
    · refine thnF (T.item ((X.blk s3 H3 scope ce fp).wish E) rfl rfl rfl hc i [] s5 _ H5 (fun _ _ => False) J5 (stat J5 n5) stn5 go) fun r s6 ⟨u, er, k6⟩ => ?_
      subst er
      refine thnF k6 fun _ s7 ⟨x, H7, J7, r7, y7, stn7, n7⟩ => ?_
      have P7 := J7.pinned (stat J7 n7) (T.obj _ _ stn7)
      refine wpAny_mono (pg.run _ s7 _ H7 x u _ P7 r7 (step x H7 y7)) (fun _ s8 ⟨σ8, H8, J8, w8, q8⟩ => ?_) raised
      refine wpAny_mono (pt.run _ s8 σ8 H8 _ J8 q8) (fun b s9 ⟨H9, J9, q9⟩ => ?_) raised
      have fin : ∀ {s' : Shared} {H' : Hp}, Inv ((X.blk s3 H3 scope ce fp).wish E) ([] ++ pinsAt fp s7.heap) σ8 H' s' → Nx H' → ∃ m, m < n ∧ ∃ i H', Inv ((X.blk s3 H3 scope ce fp).wish E) [] (wipe σ (own.map (·.2))) H' s' ∧ tn i s'.heap ∧ (∀ b ∈ fp, H' b = none) ∧ U i m H' := fun {s' H'} J' nx => by
        obtain ⟨m', lt, u'⟩ := hNx H' nx
        have pin' : ∀ b ∈ fp, ∀ o, s7.heap.get? b = some o → s'.heap.get? b = some o ∧ H' b = none := fun b hb o e =>
          have z := J'.pin (b, o) (List.mem_append_right _ (List.mem_append_right _ (mem_pinsAt hb e)))
          ⟨z.1, z.2.1⟩
        refine ⟨m', lt, i + 1, H', (J'.unpinned (pins := [])).weak (by rw [← w8, wipe_length]) (fun j v e => ?_), T.keep _ _ _ stn7 fun b hb o e => (pin' b hb o e).1, fun b hb => ?_, u'⟩
        · rw [← w8] at e
          exact (wipe_some e).1
        · obtain ⟨o, e, _⟩ := T.obj _ _ stn7 b hb
          exact (pin' b hb o e).2
      cases b with
      | false =>
        rw [if_neg Bool.false_ne_true] at q9 ⊢
        exact fin J9 q9
      | true =>
        rw [if_pos rfl] at q9 ⊢
        refine wpAny_mono (pe.run _ s9 σ8 H9 _ J9 q9) (fun z s10 ⟨yv, H10, J10, r10, acc, hD10, lt10, nx⟩ => ?_) raised
        exact app_ok (X := (X.blk s3 H3 scope ce fp).wish E) J10 hD10 lt10 r10 fun s11 J11 => fin J11 nx
  exact codeAny_compStart_list loop (T.self X.A 0 _ _ _ stn4 loop)
/-- as a value -/
theorem pe_lcQ {elt tg iter : Expr} {ifs : List Expr} {scope : Scope} {own : List (Str × Nat)} {pos : Pos} {wi : TI} {g : TG} {tt : WX → TT} {te : WX → TE} {W : WX} (tk : Takes X W) (hs : X.stack = X.env :: X.outer) (hf : X.env.frame = some X.env.locals)
    (hc : X.calm = true) (hN : X.N.Nodup) (hi : PI X tg iter wi) (ok : BlkOk X.N X.env.scope scope own)
    (hg : ∀ s H C cl fp E, PG (BlW X s H scope C cl fp E) tg g) (ht : ∀ s H C cl fp E V, TakesC (BlW X s H scope C cl fp E) V → PTs (BlW X s H scope C cl fp E) ifs (tt V))
    (he : ∀ s H C cl fp E V, TakesC (BlW X s H scope C cl fp E) V → PE (BlW X s H scope C cl fp E) elt (te V)) (hst : ∀ x, foldedSetIterable iter X.env x = pure x := by intro _; rfl) :
    PE X (.ListComp elt [⟨tg, iter, ifs, 0⟩] scope pos) (fun σ H Q => tLc wi g (tt fun cls d _ H => W cls d σ H) (te fun cls d _ H => W cls d σ H) (own.map (·.2)) σ H Q) := by
  refine ⟨fun pins s σ H Q I h => ?_⟩
  rw [eval_ListComp]
  refine lcQ tk hs hf hc hN I hi ok hg ht he hst h fun D ce s' m H' I' q hn f => ⟨m, hn, fun h'' sb => ?_⟩
  obtain ⟨f0, f1, f2, f3, f4, f5⟩ := f
  exact ⟨.ref D, H', I'.turned (t' := s'.toks) (fun b o nb e => (sb.2 b nb).trans e) f0 f1 f3 f4 f5, rfl, q⟩
end
/-! #### what it makes of data -/
def compQ (b : D → REnv → Option REnv) (c : REnv → R Bool) (e : REnv → R D) : List D → REnv → R (List D)
  | [], _ => .ok []
  | d :: ds, ρ => match b d ρ with
    | none => .bad
    | some ρ' => (c ρ').bind fun k => if k = true then (e ρ').bind fun v => (compQ b c e ds ρ).bind fun r => .ok (v :: r) else compQ b c e ds ρ
def cCompQ (vs : List Nat) (f : REnv → R (List D)) (b : D → REnv → Option REnv) (c : REnv → R Bool) (e : REnv → R D) : REnv → R (List D) :=
  fun ρ => (f ρ).bind fun ds => if ds.length ≤ sizeLine then compQ b c e ds (wipeE ρ vs) else .bad
theorem comp_readO {K : PySem.W.Frag} {W : WX} {vs is : List Nat} {fi : REnv → R (List D)} {t : TG} {b : D → REnv → Option REnv} {c : REnv → R Bool} {e : REnv → R D} (hk : TgOk K t b is) (hs : ∀ i ∈ is, i ∈ vs) {σ : L2.St} {H : Hp} {Q : VK}
    (hh : ∃ G F ρ, RepE K G F H σ ρ ∧ PostO K W σ F H (cCompQ vs fi b c e ρ) Q) : tLc (ri K W fi) t (rt K (fun cls d _ H => W cls d σ H) c) (rd K (fun cls d _ H => W cls d σ H) e) vs σ H Q := by
  obtain ⟨G, F, ρ, r0, p⟩ := hh
  unfold cCompQ at p
  refine ⟨G, F, ρ, r0, ?_⟩
  cases hf : fi ρ with
  | bad => rw [hf] at p; exact p.elim
  | err z => rw [hf] at p; exact p
  | ok ds =>
  rw [hf] at p
  intro J F1 H1 ex1 hJ
  have p1 : PostO K W σ F H (if ds.length ≤ sizeLine then compQ b c e ds (wipeE ρ vs) else .bad) Q := p
  have r1 := (r0.ext ex1).wipe vs
  by_cases hl : ds.length ≤ sizeLine
  case neg => rw [if_neg hl] at p1; exact p1.elim
  rw [if_pos hl] at p1
  intro A hA
  have hF1 : F1 A = none := ex1.s.free hA
  let Pv : Nat → Hp → Prop := fun i H2 => ∃ F' acc ws, Ext F1 H1 F' H2 ∧ F' A = none ∧ H2 A = some (.lst ws) ∧ RepL K F' acc ws ∧ acc.length ≤ i ∧
    PostO K W σ F H ((compQ b c e (ds.drop i) (wipeE ρ vs)).bind fun r => .ok (acc ++ r)) Q
  refine ⟨fun i m H2 => m = ds.length - i ∧ i ≤ ds.length ∧ Pv i H2, ⟨ds.length, by simp, Nat.zero_le _, F1, [], [], Ext.newH ex1.s hA, hF1, upd_same, RepL.nil, Nat.le_refl _, ?_⟩, ?_⟩
  · have z : (compQ b c e (ds.drop 0) (wipeE ρ vs)).bind (fun r => R.ok ([] ++ r)) = compQ b c e ds (wipeE ρ vs) := by
      rw [List.drop_zero]
      cases compQ b c e ds (wipeE ρ vs) <;> rfl
    rw [z]
    exact p1
  rintro i m H2 ⟨rfl, hi, F', acc, ws, ex, hFA, hHA, rl, hal, pp⟩
  by_cases hlt : i < ds.length
  · refine .inr ⟨hJ.go i H2 hlt (ex.f.trans ex.s), Pv (i + 1), fun H' q => ⟨ds.length - (i + 1), by omega, rfl, hlt, q⟩, fun x H' y => ?_⟩
    obtain ⟨F2, d, ex2, ed, rp⟩ := hJ.yld i H2 x H' F' hlt ex.f ex.s y
    have dr : ds.drop i = d :: ds.drop (i + 1) := by
      obtain ⟨h1, h2⟩ := List.getElem?_eq_some_iff.mp ed
      rw [← h2]
      exact List.drop_eq_getElem_cons h1
    rw [dr] at pp
    unfold compQ at pp
    cases hb : b d (wipeE ρ vs) with
    | none => rw [hb] at pp; exact pp.elim
    | some ρ' =>
      rw [hb] at pp
      have r2 : RepE K G F2 H' (L2.wipe σ vs) (wipeE ρ vs) := r1.ext (ex.trans ex2)
      have stay : ∀ {Fa Ha Fb Hb : Hp}, Ext Fa Ha Fb Hb → Fa A = none → Ha A = some (.lst ws) → Fb A = none ∧ Hb A = some (.lst ws) := fun {Fa Ha Fb Hb} z h1 h2 => by
        refine ⟨?_, z.h _ _ h2⟩
        cases q : Fb A with
        | none => rfl
        | some o =>
          have := z.n A o q h1
          rw [h2] at this
          cases this
      obtain ⟨a2, b2⟩ := stay ex2 hFA hHA
      refine hk G F2 H' _ _ ρ' d x _ r2 rp hb fun σ2 r3 o2 => ⟨wipe_only o2 hs, G, F2, ρ', r3, ?_⟩
      cases hc : c ρ' with
      | bad => simp only [hc] at pp; exact pp.elim
      | err z =>
        simp only [hc] at pp
        exact fun cls dd F4 H4 ex4 xd => pp cls dd F4 H4 (ex1.trans ((ex.trans ex2).trans ex4)) xd
      | ok k0 =>
        simp only [hc] at pp
        intro k' F3 H3 ex3 ek
        subst ek
        obtain ⟨a3, b3⟩ := stay ex3 a2 b2
        cases k0 with
        | false =>
          refine iteF ?_
          exact ⟨F3, acc, ws, (ex.trans ex2).trans ex3, a3, b3, RepL.mono (ex2.f.trans ex3.f) _ _ rl, Nat.le_succ_of_le hal, pp⟩
        | true =>
          have pp : PostO K W σ F H (((e ρ').bind fun v => (compQ b c e (ds.drop (i + 1)) (wipeE ρ vs)).bind fun r => .ok (v :: r)).bind fun r => .ok (acc ++ r)) Q := pp
          refine iteT ⟨G, F3, ρ', r3.ext ex3, ?_⟩
          cases he : e ρ' with
          | bad => rw [he] at pp; exact pp.elim
          | err z =>
            rw [he] at pp
            exact fun cls dd F4 H4 ex4 xd => pp cls dd F4 H4 (ex1.trans (((ex.trans ex2).trans ex3).trans ex4)) xd
          | ok v =>
            rw [he] at pp
            have pp2 : PostO K W σ F H ((compQ b c e (ds.drop (i + 1)) (wipeE ρ vs)).bind fun r => .ok ((acc ++ [v]) ++ r)) Q := by
              have z : PostO K W σ F H (((compQ b c e (ds.drop (i + 1)) (wipeE ρ vs)).bind fun r => .ok (v :: r)).bind fun r => .ok (acc ++ r)) Q := pp
              rw [bind_assoc'] at z
              simpa [R.bind] using z
            refine fun y F4 H4 ex4 ry => ?_
            obtain ⟨a4, b4⟩ := stay ex4 a3 b3
            have exA := ((ex.trans ex2).trans ex3).trans ex4
            refine ⟨ws, b4, ?_, F4, acc ++ [v], ws ++ [y], ⟨exA.f, fun q o z => ?_, fun q o z => ?_, exA.n⟩, a4, upd_same, (RepL.mono ((ex2.f.trans ex3.f).trans ex4.f) _ _ rl).snoc ry, ?_, pp2⟩
            · rw [← rl.length]; omega
            · rw [upd_ne (ne_of_none z hA)]; exact exA.h _ _ z
            · rw [upd_ne (ne_of_none z a4)]; exact exA.s _ _ z
            · simp; omega
  · have e : i = ds.length := by omega
    subst e
    rw [List.drop_length] at pp
    have pp : PostO K W σ F H (.ok (acc ++ [])) Q := pp
    rw [List.append_nil] at pp
    exact .inl ⟨hJ.stop H2 (ex.f.trans ex.s), pp A ws F' H2 (ex1.trans ex) hHA rl hFA (by
      cases q : H A with
      | none => rfl
      | some o =>
        have := ex1.h _ _ q
        rw [hA] at this
        cases this)⟩
section
variable {X : Cx} {W : WX} {elt tg iter : Expr} {ifs : List Expr} {scope : Scope} {own : List (Str × Nat)} {pos rp : Pos} {fi : REnv → R (List D)} {t : TG} {b : D → REnv → Option REnv} {c : REnv → R Bool} {e : REnv → R D} {is : List Nat}
end
/-! #### weakest conditions -/
section
variable {b : D → REnv → Option REnv} {c : REnv → R Bool} {e : REnv → R D} {ρ : REnv} {vs : List Nat} {fi : REnv → R (List D)}
theorem compQ_cons {d : D} {ds : List D} {Q : List D → Prop} {E : D → Prop} (h : Got (b d ρ) fun ρ' => (c ρ').wp (fun k => if k = true then (e ρ').wp (fun v => (compQ b c e ds ρ).wp (fun r => Q (v :: r)) E) E else (compQ b c e ds ρ).wp Q E) E) : (compQ b c e (d :: ds) ρ).wp Q E := by
  obtain ⟨ρ', e1, h1⟩ := h
  unfold compQ
  simp only [e1]
  refine wp_bind (h1.post fun k hk => ?_)
  cases k with
  | true => exact wp_bind ((show (e ρ').wp _ E from hk).post fun v hv => wp_bind hv)
  | false => exact hk
/-- what passes is kept -/
theorem compQ_all {α : Type} {f g : α → D} {keep : α → Bool} {E : D → Prop} : ∀ {xs : List α} {Q : List D → Prop}, (∀ x ∈ xs, Got (b (f x) ρ) fun ρ' => (c ρ').wp (fun k => k = keep x ∧ (k = true → (e ρ').wp (fun v => v = g x) E)) E) → Q ((xs.filter keep).map g) → (compQ b c e (xs.map f) ρ).wp Q E
  | [], Q, _, h => h
  | x :: xs, Q, hx, h => by
    obtain ⟨ρ', e1, e2⟩ := hx x List.mem_cons_self
    rw [List.map_cons]
    refine compQ_cons ⟨ρ', e1, e2.post fun k hk => ?_⟩
    obtain ⟨rfl, hk⟩ := hk
    by_cases q : keep x = true
    · rw [if_pos q]
      refine (hk q).post fun v hv => ?_
      subst hv
      refine compQ_all (fun y hy => hx y (List.mem_cons_of_mem _ hy)) ?_
      rw [List.filter_cons, if_pos q] at h
      exact h
    · rw [if_neg q]
      refine compQ_all (fun y hy => hx y (List.mem_cons_of_mem _ hy)) ?_
      rw [List.filter_cons, if_neg q] at h
      exact h
end
end Dy

set_option Elab.async false
set_option linter.all false
set_option maxRecDepth 100000
/-! ### a def's result as a tuple with the caller's own lists in it -/
namespace Dy
open PySem PySem.Spec PyProof.Rows L2
/-- which lists of a result are the caller's own -/
inductive Sh where
  | v | l | t (ss : List Sh)
mutual
def mask : Sh → D → O
  | .l, .lst ds => .l (ds.map .v)
  | .t ss, .tup ds => if ss.length = ds.length then .t (masks ss ds) else .v (.tup ds)
  | _, d => .v d
def masks : List Sh → List D → List O
  | s :: ss, d :: ds => mask s d :: masks ss ds
  | _, ds => ds.map .v
end
def O.unV : List O → Option (List D)
  | [] => some []
  | .v d :: r => (O.unV r).map (d :: ·)
  | _ :: _ => none
def O.unL : O → Option (List D)
  | .l us => O.unV us
  | _ => none
theorem unV_map : ∀ ds : List D, O.unV (ds.map .v) = some ds
  | [] => rfl
  | d :: r => by
    show (O.unV (r.map .v)).map (d :: ·) = _
    rw [unV_map r]
    rfl
theorem of_unV : ∀ {us : List O} {ds : List D}, O.unV us = some ds → us = ds.map .v
  | [], ds, e => by cases e; rfl
  | o :: us, ds, e => by
    unfold O.unV at e
    split at e
    · rename_i heq; cases heq
    · rename_i d r heq
      cases heq
      cases q : O.unV us with
      | none => rw [q] at e; cases e
      | some es =>
        rw [q] at e
        cases e
        rw [of_unV q]
        rfl
    · cases e
theorem of_unL {o : O} {ds : List D} (e : O.unL o = some ds) : o = .l (ds.map .v) := by
  unfold O.unL at e
  split at e
  · rw [of_unV e]
  · cases e
theorem toDs_map : ∀ ds : List D, O.toDs (ds.map .v) = ds
  | [] => rfl
  | d :: r => by
    show O.toD (.v d) :: O.toDs (r.map .v) = _
    rw [toDs_map r]
    rfl
section
variable {K : PySem.W.Frag} {G F H F' H' : Hp} {σ : St} {ρ : REnv}
theorem OwRs.vals : ∀ {ds : List D} {vs : List V} {fp : List Addr}, OwRs K F H (ds.map .v) vs fp → RepL K F ds vs ∧ fp = []
  | [], vs, fp, h => by
    simp only [List.map_nil, OwRs] at h
    exact ⟨by simp only [RepL]; exact h.1, h.2⟩
  | d :: ds, vs, fp, h => by
    simp only [List.map_cons, OwRs, OwR] at h
    obtain ⟨v, r, f1, f2, h1, h2, ⟨h3, h4⟩, h5⟩ := h
    obtain ⟨q1, q2⟩ := OwRs.vals h5
    subst h1
    exact ⟨RepL.cons h3 q1, by rw [h2, h4, q2]; rfl⟩
theorem OwRs.ofVals : ∀ {ds : List D} {vs : List V}, RepL K F ds vs → OwRs K F H (ds.map .v) vs []
  | [], vs, h => by
    simp only [RepL] at h
    simp only [List.map_nil, OwRs]
    exact ⟨h, trivial⟩
  | d :: ds, vs, h => by
    simp only [RepL] at h
    obtain ⟨v, r, h1, h2, h3⟩ := h
    simp only [List.map_cons, OwRs, OwR]
    exact ⟨v, r, [], [], h1, rfl, ⟨h2, rfl⟩, OwRs.ofVals h3⟩
theorem OwR.ofL {ds : List D} {a : Addr} {ws : List V} (h : H a = some (.lst ws)) (r : RepL K F ds ws) : OwR K F H (.l (ds.map .v)) (.ref a) [a] := by
  simp only [OwR]
  exact ⟨a, ws, [], rfl, h, rfl, OwRs.ofVals r⟩
theorem OwR.ofV {d : D} {v : V} (r : Rep K F d v) : OwR K F H (.v d) v [] := by
  simp only [OwR]
  exact ⟨r, trivial⟩
theorem OwR.inL {ds : List D} {v : V} {fp : List Addr} (h : OwR K F H (.l (ds.map .v)) v fp) : ∃ a ws, v = .ref a ∧ H a = some (.lst ws) ∧ RepL K F ds ws ∧ fp = [a] := by
  simp only [OwR] at h
  obtain ⟨a, ws, fq, h1, h2, h3, h4⟩ := h
  obtain ⟨q1, q2⟩ := OwRs.vals h4
  exact ⟨a, ws, h1, h2, q1, by rw [h3, q2]⟩
/-- one of the lists turns -/
theorem OwRs.at_ : ∀ {os : List O} {vs : List V} {fp : List Addr} {k : Nat} {ds : List D}, OwRs K F H os vs fp → fp.Nodup → os[k]? = some (.l (ds.map .v)) →
    ∃ b ws, vs[k]? = some (.ref b) ∧ H b = some (.lst ws) ∧ b ∈ fp ∧ RepL K F ds ws ∧ ∀ es us, RepL K F es us → OwRs K F (upd H b (.lst us)) (os.set k (.l (es.map .v))) vs fp
  | [], vs, fp, k, ds, h, nd, e => by simp at e
  | o :: os, vs, fp, 0, ds, h, nd, e => by
    simp only [OwRs] at h
    obtain ⟨v, r, f1, f2, h1, h2, h3, h4⟩ := h
    have e : some o = some (O.l (ds.map .v)) := e
    cases e
    obtain ⟨a, ws, e1, e2, e3, e4⟩ := h3.inL
    subst h1; subst h2; subst e1; subst e4
    have na : a ∉ f2 := (List.nodup_cons.mp (show (a :: f2).Nodup from nd)).1
    refine ⟨a, ws, rfl, e2, by simp, e3, fun es us r' => ?_⟩
    simp only [List.set_cons_zero, OwRs]
    exact ⟨.ref a, r, [a], f2, rfl, rfl, OwR.ofL upd_same r', OwRs.move (.refl _) os r f2 h4 fun b hb => upd_ne fun z => na (z ▸ hb)⟩
  | o :: os, vs, fp, k + 1, ds, h, nd, e => by
    simp only [OwRs] at h
    obtain ⟨v, r, f1, f2, h1, h2, h3, h4⟩ := h
    subst h1; subst h2
    obtain ⟨nd1, nd2, nd3⟩ := List.nodup_append.mp nd
    obtain ⟨b, ws, q1, q2, q3, q4, q5⟩ := OwRs.at_ h4 nd2 (show os[k]? = _ from e)
    refine ⟨b, ws, q1, q2, List.mem_append_right _ q3, q4, fun es us r' => ?_⟩
    simp only [List.set_cons_succ, OwRs]
    exact ⟨v, r, f1, f2, rfl, rfl, OwR.move (.refl _) o v f1 h3 fun c hc => upd_ne fun z => nd3 c hc b q3 z, q5 es us r'⟩
theorem OwRs.length : ∀ {os : List O} {vs : List V} {fp : List Addr}, OwRs K F H os vs fp → os.length = vs.length
  | [], vs, fp, h => by
    simp only [OwRs] at h
    rw [h.1]
    rfl
  | o :: os, vs, fp, h => by
    simp only [OwRs] at h
    obtain ⟨v, r, f1, f2, h1, h2, h3, h4⟩ := h
    rw [h1, List.length_cons, List.length_cons, OwRs.length h4]
/-- the thing of one's own at a slot -/
theorem tree_at (r : RepE K G F H σ ρ) {i : Nat} {o : O} (h : ρ[i]? = some (.tree o)) : ∃ v fp, σ[i]? = some (some v) ∧ OwR K F H o v fp ∧ fp.Nodup ∧ ∀ a ∈ fp, F a = none ∧ G a = none := by
  have hl : i < σ.length := by
    rw [← r.len]
    exact (List.getElem?_eq_some_iff.mp h).1
  obtain ⟨v, fp, e1, e2, e3, e4⟩ := r.at_ i _ _ h (List.getElem?_eq_getElem hl)
  exact ⟨v, fp, by rw [List.getElem?_eq_getElem hl, e1], e2, e3, e4⟩
end
/-! #### results -/
def PostT (K : PySem.W.Frag) (W : WX) (σ : St) (F H : Hp) (x : R O) (Q : V → Hp → Prop) : Prop := match x with
  | .ok o => ∀ v fp F' H', Ext F H F' H' → OwR K F' H' o v fp → fp.Nodup → (∀ a ∈ fp, F' a = none ∧ H a = none) → Q v H'
  | .err e => ∀ cls dd F' H', Ext F H F' H' → XD K F' e cls dd → W cls dd σ H'
  | .bad => False
def spT (K : PySem.W.Frag) (n : Nat) (fn : List D → R O) : Sp := fun vs H Q E => vs.length = n ∧ ∃ F ds, Same F H ∧ RepL K F ds vs ∧ PostT K (fun cls dd _ H' => E cls dd H') [] F H (fn ds) Q
def PostST (K : PySem.W.Frag) (W : WX) (sh : Sh) (D : Ends) (G F : Hp) (x : SR) : Prop := match x with
  | .next ρ => ∀ σ' F' H', Same F F' → NewG G F F' → RepE K G F' H' σ' ρ → D.nx σ' H'
  | .ret d => ∀ v fp F' H', Same F F' → NewG G F F' → Same G H' → Same F' H' → OwR K F' H' (mask sh d) v fp → fp.Nodup → (∀ a ∈ fp, F' a = none ∧ G a = none) → D.rt v H'
  | .err e ρ => ∀ σ' F' H' cls dd, Same F F' → NewG G F F' → RepE K G F' H' σ' ρ → XD K F' e cls dd → W cls dd σ' H'
  | .bad => False
section
variable {α β : Type} {K : PySem.W.Frag} {W : WX} {sh : Sh} {D D' : Ends} {G F F' H : Hp} {σ : St} {ρ : REnv}
theorem PostST.ext {x : SR} (s : Same F F') (n : NewG G F F') (h : PostST K W sh D G F x) : PostST K W sh D G F' x := by
  cases x with
  | next ρ => exact fun σ' F2 H' s2 n2 r => h σ' F2 H' (s.trans s2) (n.trans n2) r
  | ret d => exact fun v fp F2 H' s2 n2 => h v fp F2 H' (s.trans s2) (n.trans n2)
  | err e ρ => exact fun σ' F2 H' cls dd s2 n2 r x => h σ' F2 H' cls dd (s.trans s2) (n.trans n2) r x
  | bad => exact h
theorem PostST.toS {rel : Hp → α → β → Prop} {x : R α} {k : α → SR} {Q : β → Hp → Prop} (r : RepE K G F H σ ρ) (h : PostST K W sh D G F (x.toS ρ k))
    (f : ∀ a v F' H', x = .ok a → Ext F H F' H' → rel F' a v → RepE K G F' H' σ ρ → PostST K W sh D G F' (k a) → Q v H') : Post K W rel σ F H x Q := by
  cases x with
  | ok a => exact fun v F' H' e p => f a v F' H' rfl e p (r.ext e) (PostST.ext e.f (e.newG r.g) h)
  | err e => exact fun cls dd F' H' ex p => h σ F' H' cls dd ex.f (ex.newG r.g) (r.ext ex) p
  | bad => exact h
theorem PostST.seq {x : SR} {g : REnv → SR} {nx : St → Hp → Prop} (h : PostST K W sh D G F (x.seq g))
    (f : ∀ ρ σ' F' H', x = .next ρ → Same F F' → NewG G F F' → RepE K G F' H' σ' ρ → PostST K W sh D G F' (g ρ) → nx σ' H') : PostST K W sh { D with nx := nx } G F x := by
  cases x with
  | next ρ => exact fun σ' F' H' s n r => f ρ σ' F' H' rfl s n r (PostST.ext s n h)
  | ret d => exact h
  | err e ρ => exact h
  | bad => exact h
end
def rsT (K : PySem.W.Frag) (W : WX) (sh : Sh) (g : REnv → SR) : TS := fun D σ H => ∃ G F ρ, RepE K G F H σ ρ ∧ PostST K W sh D G F (g ρ)
abbrev SST (X : Cx) (W : WX) (sh : Sh) (s : Stmt) (g : REnv → SR) : Prop := PS X s (rsT X.K W sh g)
abbrev SSsT (X : Cx) (W : WX) (sh : Sh) (s : List Stmt) (g : REnv → SR) : Prop := PSs X s (rsT X.K W sh g)
section
variable {X : Cx} {W : WX} {sh : Sh} {st : Stmt} {rest : List Stmt} {g h : REnv → SR} {e : Expr} {f : REnv → R D} {pos : Pos}
theorem sst_lift (hs : SS X W st g) : SST X W sh st (sNR g) := PS.dy hs fun D σ H ⟨G, F, ρ, r, p⟩ => ⟨G, F, ρ, r, by
  unfold sNR at p
  cases q : g ρ with
  | next a => rw [q] at p; exact p
  | ret a => rw [q] at p; exact p.elim
  | err a b => rw [q] at p; exact p
  | bad => rw [q] at p; exact p.elim⟩
theorem ssst_nil : SSsT X W sh [] sSkip := pss_nil.dy fun D σ H ⟨G, F, ρ, r, p⟩ => p σ F H (.refl _) .refl r
theorem ssst_cons (h1 : SST X W sh st g) (h2 : SSsT X W sh rest h) : SSsT X W sh (st :: rest) (sSeq g h) :=
  (pss_cons h1 h2).dy fun D σ H ⟨G, F, ρ, r, p⟩ => ⟨G, F, ρ, r, PostST.seq p fun ρ' σ' F' H' _ s n r' p' => ⟨G, F', ρ', r', p'⟩⟩
theorem ssst_one (h1 : SST X W sh st g) : SSsT X W sh [st] g := pss_one h1
theorem sst_if {c : Expr} {a b : List Stmt} {u : REnv → R Bool} (hc : ST X W c u) (ha : SSsT X W sh a g) (hb : SSsT X W sh b h) : SST X W sh (.If c a b pos) (sIf u g h) :=
  (ps_if hc ha hb).dy fun D σ H ⟨G, F, ρ, r, p⟩ => ⟨G, F, ρ, r, PostST.toS r p fun k v F' H' _ ex rp r' p' => by
    subst rp
    cases k with
    | true => exact ⟨G, F', ρ, r', p'⟩
    | false => exact ⟨G, F', ρ, r', p'⟩⟩
/-! #### the pieces of a tuple that is told -/
/-- an expression that makes a new list -/
abbrev SEO (X : Cx) (W : WX) (e : Expr) (x : REnv → R (List D)) : Prop := PE X e (fun σ H Q => ∃ G F ρ, RepE X.K G F H σ ρ ∧ PostO X.K W σ F H (x ρ) Q)
/-- new, or of one's own at one of the slots -/
def Fr (H : Hp) (σ : St) (ρ : REnv) (I : List Nat) (a : Addr) : Prop := H a = none ∨ ∃ i ∈ I, ∃ ds, ρ[i]? = some (.own ds) ∧ σ[i]? = some (some (.ref a))
def PostA (K : PySem.W.Frag) (W : WX) (σ : St) (ρ : REnv) (I : List Nat) (F H : Hp) (x : R (List O)) (Q : List V → Hp → Prop) : Prop := match x with
  | .ok os => ∀ vs fp F' H', Ext F H F' H' → OwRs K F' H' os vs fp → fp.Nodup → (∀ a ∈ fp, F' a = none ∧ Fr H σ ρ I a) → Q vs H'
  | .err e => ∀ cls dd F' H', Ext F H F' H' → XD K F' e cls dd → W cls dd σ H'
  | .bad => False
abbrev SAO (X : Cx) (W : WX) (I : List Nat) (es : List Expr) (t : REnv → R (List O)) : Prop := PA X es (fun σ H Q => ∃ G F ρ, RepE X.K G F H σ ρ ∧ PostA X.K W σ ρ I F H (t ρ) Q)
def tNil : REnv → R (List O) := fun _ => .ok []
def tV (f : REnv → R D) (t : REnv → R (List O)) : REnv → R (List O) := fun ρ => (f ρ).bind fun d => (t ρ).bind fun os => .ok (.v d :: os)
def tN (x : REnv → R (List D)) (t : REnv → R (List O)) : REnv → R (List O) := fun ρ => (x ρ).bind fun ds => (t ρ).bind fun os => .ok (.l (ds.map .v) :: os)
theorem PostA.bind {K : PySem.W.Frag} {σ : St} {ρ : REnv} {I : List Nat} {F H F1 H1 : Hp} {x : R (List O)} {k : List O → List O} {Q Q' : List V → Hp → Prop} (h : PostA K W σ ρ I F H (x.bind fun os => .ok (k os)) Q) (ex : Ext F H F1 H1)
    (f : ∀ os vs fp F' H', x = .ok os → Ext F1 H1 F' H' → OwRs K F' H' os vs fp → fp.Nodup → (∀ a ∈ fp, F' a = none ∧ Fr H1 σ ρ I a) → (∀ vs' fp', OwRs K F' H' (k os) vs' fp' → fp'.Nodup → (∀ a ∈ fp', F' a = none ∧ Fr H σ ρ I a) → Q vs' H') → Q' vs H') : PostA K W σ ρ I F1 H1 x Q' := by
  cases x with
  | ok os => exact fun vs fp F' H' ex2 o nd fr => f os vs fp F' H' rfl ex2 o nd fr fun vs' fp' o' nd' fr' => h vs' fp' F' H' (ex.trans ex2) o' nd' fr'
  | err e => exact fun cls dd F' H' ex2 xd => h cls dd F' H' (ex.trans ex2) xd
  | bad => exact h
theorem Fr.old {H H1 : Hp} {σ : St} {ρ : REnv} {I : List Nat} {a : Addr} (s : Same H H1) (h : Fr H1 σ ρ I a) : Fr H σ ρ I a := h.elim (fun z => .inl (s.free z)) .inr
theorem sao_nil : SAO X W [] [] tNil := pa_nil.dy fun σ H Q ⟨G, F, ρ, r, p⟩ => p [] [] F H (.refl r.f) (by simp only [OwRs]; exact ⟨trivial, trivial⟩) List.nodup_nil fun a h => nomatch h
theorem sao_n {I : List Nat} {es : List Expr} {x : REnv → R (List D)} {t : REnv → R (List O)} (ha : SEO X W e x) (hr : SAO X W I es t) (hs : starEach (e :: es) X.env = (false, eval e X.env) :: starEach es X.env := by rfl) : SAO X W I (e :: es) (tN x t) :=
  (pa_cons ha hr hs).dy fun σ H Q ⟨G, F, ρ, r, p⟩ => ⟨G, F, ρ, r, by
    unfold tN at p
    cases q : x ρ with
    | bad => rw [q] at p; exact p.elim
    | err z => rw [q] at p; exact p
    | ok ds =>
      rw [q] at p
      intro a ws F1 H1 ex h1 h2 h3 h4
      refine ⟨G, F1, ρ, r.ext ex, PostA.bind p ex fun os vs fp F2 H2 _ ex2 o nd fr k => k (.ref a :: vs) (a :: fp) ?_ ?_ ?_⟩
      · simp only [OwRs]
        exact ⟨.ref a, vs, [a], fp, rfl, rfl, OwR.ofL (ex2.h _ _ h1) (RepL.mono ex2.f _ _ h2), o⟩
      · refine List.nodup_cons.mpr ⟨fun ha => ?_, nd⟩
        rcases (fr a ha).2 with z | ⟨i, _, es', e1, e2⟩
        · rw [h1] at z; cases z
        · obtain ⟨b, us, e3, e4, _⟩ := own_at r e1
          rw [e2] at e3
          cases e3
          rw [h4] at e4
          cases e4
      · intro b hb
        rcases List.mem_cons.mp hb with rfl | hb
        · refine ⟨?_, .inl h4⟩
          cases z : F2 b with
          | none => rfl
          | some u =>
            have := ex2.n b u z h3
            rw [h1] at this
            cases this
        · exact ⟨(fr b hb).1, (fr b hb).2.old ex.h⟩⟩
open Classical in
end
section
variable {X : Cx} {W : WX} {elt tg iter : Expr} {ifs : List Expr} {scope : Scope} {own : List (Str × Nat)} {pos rp : Pos} {fi : REnv → R (List D)} {t : TG} {b : D → REnv → Option REnv} {c : REnv → R Bool} {e : REnv → R D} {is : List Nat}
/-- a comprehension is a new list -/
theorem seo_comp (tk : Takes X W) (hst : X.stack = X.env :: X.outer) (hf : X.env.frame = some X.env.locals) (hc : X.calm = true) (hN : X.N.Nodup) (ok : BlkOk X.N X.env.scope scope own) (hi : SI X W tg iter fi) (hk : TgOk X.K t b is)
    (hg : ∀ s H C cl fp E, PG (BlW X s H scope C cl fp E) tg t) (ht : ∀ s H C cl fp E V, TakesC (BlW X s H scope C cl fp E) V → SIf (BlW X s H scope C cl fp E) V ifs c)
    (he : ∀ s H C cl fp E V, TakesC (BlW X s H scope C cl fp E) V → SE (BlW X s H scope C cl fp E) V elt e) (hsub : (is.all fun i => (own.map (·.2)).contains i) = true := by decide)
    (hs : ∀ x, foldedSetIterable iter X.env x = pure x := by intro _; rfl) : SEO X W (.ListComp elt [⟨tg, iter, ifs, 0⟩] scope pos) (cCompQ (own.map (·.2)) fi b c e) :=
  (pe_lcQ (te := fun V => rd X.K V e) (tt := fun V => rt X.K V c) tk hst hf hc hN hi ok hg ht he hs).dy fun σ H Q ⟨G, F, ρ, r, p⟩ => comp_readO (Q := Q) hk (fun i h => List.contains_iff_mem.mp (List.all_eq_true.mp hsub i h)) ⟨G, F, ρ, r, p⟩
end
/-! #### defs -/
def fnT (n m : Nat) (sh : Sh) (g : REnv → SR) : List D → R O := fun ds => (fnD n m g ds).bind fun d => .ok (mask sh d)
section
variable {P : Program} {w : World} {K : PySem.W.Frag} {mg : Str → Option Value} {base : Heap} {x qual : Str} {params : Arguments} {body : List Stmt} {scope : Scope} {f : Addr} {fd : FuncData} {N ps : List Str} {k : Nat} {sh : Sh}
theorem okT_def {n : Nat} {g : REnv → SR} (Fn : FunD K x qual params body scope [] [] f fd) (S : FnScope N ps scope) (hn : ps.length = n)
    (hb : ∀ (cdv : Value) (A : Around) (outer : List Env) (s : Shared) (H : Hp) (E : XK), Room k (CxD P w K mg base N qual scope f cdv A outer s H E).A → Takes (CxD P w K mg base N qual scope f cdv A outer s H E) (WD E) →
      PassesOwn (model P w) (CxD P w K mg base N qual scope f cdv A outer s H E).A (CxD P w K mg base N qual scope f cdv A outer s H E).env (CxD P w K mg base N qual scope f cdv A outer s H E).xe → SSsT (CxD P w K mg base N qual scope f cdv A outer s H E) (WD E) sh body g) :
    FnOk P w K mg base (L2.CX P w) (k + 1) f fd ps (spT K n (fnT n N.length sh g)) := by
  refine Fn.ok S (fun vs H Q E h => by rw [hn]; exact h.1) fun cdv A outer s H vs Q E hr hsp => ⟨_, hb cdv A outer s H E hr (takes_of rfl rfl rfl rfl) (passes_of rfl), ?_⟩
  obtain ⟨hv, F, ds, sm, rl, p⟩ := hsp
  have hd : ds.length = n := by rw [rl.length, hv]
  unfold fnT fnD at p
  rw [if_pos hd] at p
  refine ⟨H, F, _, repE_start sm rl, ?_⟩
  rw [hd]
  cases e : g (ds.map .val ++ List.replicate (N.length - n) .un) with
  | next ρ =>
    rw [e] at p
    exact fun σ' F' H' s1 n1 r => p .non [] F' H' ⟨s1, r.g, r.f, n1⟩ (by
      rw [show mask sh .non = .v .non by cases sh <;> rfl]
      exact OwR.ofV Rep.mk_non) List.nodup_nil fun a h => nomatch h
  | ret d =>
    rw [e] at p
    exact fun v fp F' H' s1 n1 g1 f1 h1 h2 h3 => p v fp F' H' ⟨s1, g1, f1, n1⟩ h1 h2 h3
  | err d ρ =>
    rw [e] at p
    exact fun σ' F' H' cls dd s1 n1 r q => p cls dd F' H' ⟨s1, r.g, r.f, n1⟩ q
  | bad => rw [e] at p; exact p.elim
structure CalT (P : Program) (w : World) (K : PySem.W.Frag) (mg : Str → Option Value) (base : Heap) (x : Str) (k n : Nat) (fn : List D → R O) : Prop where
  ex : ∃ (f : Addr) (fd : FuncData) (ps : List Str), FnOk P w K mg base (L2.CX P w) k f fd ps (spT K n fn) ∧ mg x = some (.ref f) ∧ PySem.W.keepIn K (.ref f) = true ∧ Binds K fd ps []
  len : ∀ ds, ds.length ≠ n → fn ds = .bad
theorem fnT_len {n m : Nat} {g : REnv → SR} {ds : List D} (hl : ds.length ≠ n) : fnT n m sh g ds = .bad := by unfold fnT; rw [fnD_len hl]; rfl
theorem calT_mk {n : Nat} {g : REnv → SR} (Fn : FunD K x x params body scope [] [] f fd) (hm : mg x = some (.ref f))
    (hb : ∀ (kV doc pm : Value) (an : Option Addr) (cdv ct : Value) (us : List Value), us.length = ps.length → bindArgs (PySem.W.fnOf x x params body scope .none kV doc pm an cdv ct) ⟨us, []⟩ = pure (ps.zip us))
    (ok : FnOk P w K mg base (L2.CX P w) k f fd ps (spT K n (fnT n N.length sh g))) : CalT P w K mg base x k n (fnT n N.length sh g) :=
  ⟨⟨f, fd, ps, ok, hm, Fn.kp, Fn.bindsN hb⟩, fun ds h => fnT_len h⟩
end
section
variable {X : Cx} {W : WX} {e : Expr} {es : List Expr} {x y : Str} {p pos pos' cp : Pos} {k n : Nat} {t : REnv → R (List D)} {fn : List D → R O}
/-- f(..), all of it kept -/
def eCallK (fn : List D → R O) (t : REnv → R (List D)) : REnv → R D := fun ρ => (t ρ).bind fun ds => (fn ds).bind fun o => .ok o.toD
theorem ext_addF {F H F' H' : Hp} {fp : List Addr} (ex : Ext F H F' H') (h : ∀ a ∈ fp, F' a = none ∧ H a = none) : Ext F H (addF F' H' fp) H' := by
  refine ⟨ex.f.trans (addF_same fun a ha => (h a ha).1), ex.h, addF_H ex.s, fun a o h1 h2 => ?_⟩
  by_cases q : a ∈ fp
  · exact (h a q).2
  · rw [addF_out q] at h1
    exact ex.n a o h1 h2
theorem se_callK (C : CalT X.prog X.w X.K X.mg X.base x k n fn) (tk : Takes X W) (hr : Room k X.A)
    (ha : SA X W (e :: es) t) (hg : Gl X x := by rfl) (hdb : (x == ("__debug__" : Str)) = false := by decide) (he : starEach (e :: es) X.env = (false, eval e X.env) :: starEach es X.env := by rfl) (hpl : (backTo pos (starEach es X.env)).any (·.1) = false := by rfl) :
    SE X W (.Call (.Name x p) (e :: es) [] pos) (eCallK fn t) := by
  obtain ⟨f, fd, ps, Fo, hm, hk, hb⟩ := C.ex
  refine (pe_callS (E := WE W) Fo hr hg hm hk hb (fun σ => passAt tk σ) ha hdb he hpl).dy fun σ H Q ⟨G, F, ρ, r, p⟩ => ⟨G, F, ρ, r, Post.bind p fun ds vs F' H' _ ex rp p' => ?_⟩
  have hn : ds.length = n := Classical.byContradiction fun z => by
    rw [C.len ds z] at p'
    exact p'
  refine ⟨by rw [← rp.length]; exact hn, F', ds, ex.s, rp, ?_⟩
  cases q : fn ds with
  | ok o =>
    rw [q] at p'
    intro v fp F2 H2 ex2 h1 h2 h3
    exact p' v _ H2 (ext_addF ex2 h3) (OwR.frz (addF_same fun a ha => (h3 a ha).1) o v fp h1 fun a ha => addF_in ha)
  | err d => rw [q] at p'; exact p'
  | bad => rw [q] at p'; exact p'
/-- y = f(..), one's own -/
def sSetT (i : Nat) (fn : List D → R O) (t : REnv → R (List D)) : REnv → SR := fun ρ => (t ρ).toS ρ fun ds => (fn ds).toS ρ fun o => .next (ρ.set i (.tree o))
theorem ss_setT {i : Nat} (C : CalT X.prog X.w X.K X.mg X.base x k n fn) (tk : Takes X W) (hr : Room k X.A) (hN : X.N.Nodup)
    (ha : SA X W (e :: es) t) (hg : Gl X x := by rfl) (hdb : (x == ("__debug__" : Str)) = false := by decide) (he : starEach (e :: es) X.env = (false, eval e X.env) :: starEach es X.env := by rfl) (hpl : (backTo cp (starEach es X.env)).any (·.1) = false := by rfl)
    (hi : X.N[i]? = some y := by rfl) (hx : Loc X.env.scope y := by first | exact Or.inl rfl | exact Or.inr rfl) (hs : swapsWith (.Call (.Name x p) (e :: es) [] cp) (some (.Name y pos')) pos.line X.env = pure false := by rfl)
    (hf : X.fn y = true ∨ X.env.scope.names.lookup y = some .local := by first | exact .inl rfl | exact .inr rfl | assumption) :
    SS X W (.Assign [.Name y pos'] (.Call (.Name x p) (e :: es) [] cp) pos) (sSetT i fn t) := by
  obtain ⟨f, fd, ps, Fo, hm, hk, hb⟩ := C.ex
  refine (ps_set hN hi hx (pe_callS (E := WE W) Fo hr hg hm hk hb (fun σ => passAt tk σ) ha hdb he hpl) hs hf).dy fun D σ H ⟨G, F, ρ, r, p⟩ => ⟨G, F, ρ, r, PostS.toS r p fun ds vs F' H' _ ex rp r' p' => ?_⟩
  have hn : ds.length = n := Classical.byContradiction fun z => by
    rw [C.len ds z] at p'
    exact p'
  refine ⟨by rw [← rp.length]; exact hn, F', ds, ex.s, rp, ?_⟩
  cases q : fn ds with
  | ok o =>
    rw [q] at p'
    exact fun v fp F2 H2 ex2 h1 h2 h3 => p' _ F2 H2 ex2.f (ex2.newG r'.g) (r'.setT ex2 h1 h2 fun a ha => ⟨(h3 a ha).2, (h3 a ha).1⟩)
  | err d =>
    rw [q] at p'
    exact fun cls dd F2 H2 ex2 xd => p' σ F2 H2 cls dd ex2.f (ex2.newG r'.g) (r'.ext ex2) xd
  | bad => rw [q] at p'; exact p'
end
/-! #### for p in x: p.clear() -/
theorem set_same {α : Type} {l : List α} {j : Nat} {x : α} (h : l[j]? = some x) : l.set j x = l := by
  obtain ⟨hl, he⟩ := List.getElem?_eq_some_iff.mp h
  rw [← he]
  exact List.set_getElem_self hl
section
variable {X : Cx} {W : WX} {pos p1 p2 p3 p4 p5 p6 : Pos} {x y : Str}
end
end Dy
namespace Dy
open PySem PySem.Spec PyProof.Rows L2
section
variable {ρ : REnv} {N : REnv → Prop} {T : D → Prop} {E : D → REnv → Prop} {g : REnv → SR} {f : REnv → R D} {P E' : D → Prop}
theorem wp_tNil {Q : List O → Prop} (h : Q []) : (tNil ρ).wp Q E' := h
theorem wp_tV {Q : List O → Prop} {t : REnv → R (List O)} (h : (f ρ).wp (fun d => (t ρ).wp (fun os => Q (.v d :: os)) E') E') : (tV f t ρ).wp Q E' := wp_bind (h.post fun d h1 => wp_bind (h1.post fun os h2 => h2))
theorem wp_tN {Q : List O → Prop} {x : REnv → R (List D)} {t : REnv → R (List O)} (h : (x ρ).wp (fun ds => (t ρ).wp (fun os => Q (.l (ds.map .v) :: os)) E') E') : (tN x t ρ).wp Q E' := wp_bind (h.post fun d h1 => wp_bind (h1.post fun os h2 => h2))
theorem wp_cCompQ {Q : List D → Prop} {vs : List Nat} {fi : REnv → R (List D)} {b : D → REnv → Option REnv} {c : REnv → R Bool} {e : REnv → R D} (h : (fi ρ).wp (fun ds => Fits ds.length (Wipe ρ vs fun ρ' => (compQ b c e ds ρ').wp Q E')) E') : (cCompQ vs fi b c e ρ).wp Q E' := by
  unfold cCompQ
  refine wp_bind (h.post fun ds ⟨h1, h2⟩ => ?_)
  rw [if_pos h1]
  exact h2
theorem wp_fnT {n m : Nat} {sh : Sh} {ds : List D} {Q : O → Prop} (h : (fnD n m g ds).wp (fun d => Q (mask sh d)) E') : (fnT n m sh g ds).wp Q E' := wp_bind (h.post fun d q => q)
theorem wp_callK {fn : List D → R O} {t : REnv → R (List D)} (h : (t ρ).wp (fun ds => (fn ds).wp (fun o => P o.toD) E') E') : (eCallK fn t ρ).wp P E' := wp_bind (h.post fun ds h1 => wp_bind (h1.post fun o q => q))
theorem sp_setT {i : Nat} {fn : List D → R O} {t : REnv → R (List D)} (h : (t ρ).wp (fun ds => (fn ds).wp (fun o => Upd ρ i (.tree o) N) (fun e => E e ρ)) (fun e => E e ρ)) : (sSetT i fn t ρ).wp N T E :=
  wp_toS (h.post fun ds h1 => wp_toS (h1.post fun o h2 => h2))
theorem wp_uPeekT {i : Nat} {o : O} {u : REnv → R Bool} {Q : Bool → Prop} (e : ρ[i]? = some (.tree o)) (h : Upd ρ i (.val o.toD) fun ρ' => (u ρ').wp Q NoE) : (uPeek i u ρ).wp Q E' := by
  unfold Upd at h
  obtain ⟨b, e1, hp⟩ := h.ok
  unfold uPeek eFreeze
  rw [e]
  show (match u (ρ.set i (.val o.toD)) with | .ok b => R.ok b | _ => .bad).wp Q E'
  rw [e1]; exact hp
theorem sp_frT {i : Nat} {o : O} (e : ρ[i]? = some (.tree o)) (h : Upd ρ i (.val o.toD) fun ρ' => (g ρ').wp N T E) : (sFreeze i g ρ).wp N T E := by
  unfold sFreeze eFreeze
  rw [e]
  exact h
end
end Dy

set_option Elab.async false
set_option linter.all false
set_option maxRecDepth 100000
/-! ### all(truths); a def that calls itself, by so many turns -/
namespace Dy
open PySem PySem.Spec PyProof.Rows L2
def blsD : List D → Option (List Bool)
  | [] => some []
  | .bl x :: r => (blsD r).map (x :: ·)
  | _ :: _ => none
theorem blsD_map : ∀ xs : List Bool, blsD (xs.map D.bl) = some xs
  | [] => rfl
  | x :: r => by
    show (blsD (r.map D.bl)).map (x :: ·) = _
    rw [blsD_map r]
    rfl
theorem bls_rep {K : PySem.W.Frag} {F : Hp} : ∀ {ds : List D} {vs : List V} {xs : List Bool}, blsD ds = some xs → RepL K F ds vs → vs = xs.map V.bl
  | [], vs, xs, e, r => by
    cases e
    simp only [RepL] at r
    exact r
  | d :: ds, vs, xs, e, r => by
    unfold blsD at e
    split at e
    · rename_i heq; cases heq
    · rename_i x r' heq
      cases heq
      simp only [RepL] at r
      obtain ⟨v, rest, rfl, h1, h2⟩ := r
      cases q : blsD ds with
      | none => rw [q] at e; cases e
      | some ys =>
        rw [q] at e
        cases e
        rw [h1.bl_inv, bls_rep q h2]
        rfl
    · cases e
def oAllB : List D → Option D
  | [.lst ds] => (blsD ds).map fun bs => .bl (bs.all id)
  | _ => none
theorem d_allB {X : Cx} (hc : X.calm = true) : CallR X (.builtin "all") (rAll X.K) ∧ OpN X.K (rAll X.K) oAllB := ⟨cr_all hc, fun F H xs as d Q s ra e q => by
  unfold oAllB at e
  split at e
  · obtain ⟨bs, e1, rfl⟩ := Option.map_eq_some_iff.mp e
    obtain ⟨v, rfl, h⟩ := ra.one
    obtain ⟨a, vs, rfl, h1, h2⟩ := h.lst_inv
    have e3 := bls_rep e1 h2
    subst e3
    exact ⟨a, bs, rfl, Same.seq s h1, now q s Rep.mk_bl⟩
  · cases e⟩
theorem w_allB {bs : List Bool} {P : D → Prop} (h : P (.bl (bs.all id))) : Got (oAllB [.lst (bs.map .bl)]) P := ⟨_, by
  show (blsD (bs.map D.bl)).map _ = _
  rw [blsD_map]
  rfl, h⟩
theorem sss_bad {X : Cx} {W : WX} {ss : List Stmt} : SSs X W ss sBad := ⟨fun pins s σ H D I q => by
  obtain ⟨G, F, ρ, r, p⟩ := q
  exact p.elim⟩
section
variable {P : Program} {w : World} {K : PySem.W.Frag} {mg : Str → Option Value} {base : Heap} {x : Str} {params : Arguments} {body : List Stmt} {scope : Scope} {f : Addr} {fd : FuncData} {ps : List Str} {k : Nat}
theorem cal_of {n : Nat} {fn : List D → R D} (Fn : FunD K x x params body scope [] [] f fd) (hm : mg x = some (.ref f))
    (hb : ∀ (kV doc pm : Value) (an : Option Addr) (cdv ct : Value) (us : List Value), us.length = ps.length → bindArgs (PySem.W.fnOf x x params body scope .none kV doc pm an cdv ct) ⟨us, []⟩ = pure (ps.zip us))
    (ok : FnOk P w K mg base (L2.CX P w) k f fd ps (spD K n fn)) (hl : ∀ ds, ds.length ≠ n → fn ds = .bad) : Cal P w K mg base x k n fn :=
  ⟨⟨f, fd, ps, ok, hm, Fn.kp, Fn.bindsN hb⟩, hl⟩
end
end Dy

set_option Elab.async false
set_option linter.all false
set_option maxRecDepth 100000
/-! ### new lists as one's own; reading and adding to lists within one's own tuple -/
namespace Dy
open PySem PySem.Spec PyProof.Rows L2
section
variable {X : Cx} {W : WX} {sh : Sh} {e : Expr} {x : REnv → R (List D)} {f : REnv → R D} {pos pos' p : Pos} {y : Str}
/-- return e, nothing of one's own in it -/
noncomputable def sRetV (sh : Sh) (f : REnv → R D) : REnv → SR := fun ρ => (f ρ).toS ρ fun d => open Classical in if mask sh d = .v d then .ret d else .bad
theorem sst_retV (he : SE X W e f) : SST X W sh (.Return (some e) pos) (sRetV sh f) :=
  (ps_ret he).dy fun D σ H ⟨G, F, ρ, r, p⟩ => ⟨G, F, ρ, r, PostST.toS r p fun d v F' H' _ ex rp r' p' => by
    classical
    by_cases hc : mask sh d = .v d
    · rw [if_pos hc] at p'
      exact p' v [] F' H' (.refl _) .refl r'.g r'.f (by rw [hc]; exact OwR.ofV rp) List.nodup_nil fun a h => nomatch h
    · rw [if_neg hc] at p'
      exact p'.elim⟩
end
section
variable {X : Cx} {W : WX} {sh : Sh} {st : Stmt} {g : REnv → SR}
end
/-! #### reading what is one's own, the answer without lists -/
section
variable {K : PySem.W.Frag} {F F' : Hp} {fp : List Addr}
theorem seqT_dropN {p : Addr} {us : List V} (e : ∀ a ∈ fp, ∃ vs, F a = some (.lst vs)) (h : ∀ b, b ∉ fp → F' b = F b) (q : SqT K F p us) : SqT K F' p us := by
  rcases q with (q | ⟨o, q⟩) | q
  · exact .inl (.inl (by rw [h p (fun z => by obtain ⟨vs, e1⟩ := e p z; rw [e1] at q; cases q)]; exact q))
  · exact .inl (.inr ⟨o, by rw [h p (fun z => by obtain ⟨vs, e1⟩ := e p z; rw [e1] at q; cases q)]; exact q⟩)
  · exact .inr q
mutual
theorem rep_dropN (e : ∀ a ∈ fp, ∃ vs, F a = some (.lst vs)) (h : ∀ b, b ∉ fp → F' b = F b) : ∀ (d : D) (v : V), noL d = true → Rep K F d v → Rep K F' d v
  | .non, v, _, r => by simpa [Rep] using r
  | .bl b, v, _, r => by simpa [Rep] using r
  | .int i, v, _, r => by simpa [Rep] using r
  | .str x, v, _, r => by simpa [Rep] using r
  | .tup xs, v, n, r => by
    simp only [Rep] at r ⊢
    obtain ⟨p, us, h1, h2, h3⟩ := r
    exact ⟨p, us, h1, seqT_dropN e h h2, repL_dropN e h xs us n h3⟩
theorem repL_dropN (e : ∀ a ∈ fp, ∃ vs, F a = some (.lst vs)) (h : ∀ b, b ∉ fp → F' b = F b) : ∀ (ds : List D) (us : List V), noLs ds = true → RepL K F ds us → RepL K F' ds us
  | [], us, _, r => by simpa [RepL] using r
  | d :: ds, us, n, r => by
    simp only [RepL] at r ⊢
    obtain ⟨v, rr, h1, h2, h3⟩ := r
    have n : (noL d && noLs ds) = true := n
    rw [Bool.and_eq_true] at n
    exact ⟨v, rr, h1, rep_dropN e h d v n.1 h2, repL_dropN e h ds rr n.2 h3⟩
end
end
/-! #### x[k].append(e), x one's own -/
section
variable {X : Cx} {W : WX} {e : Expr} {f : REnv → R D} {pos np cp sp ap xp : Pos} {x : Str} {j : Nat}
end
section
variable {ρ : REnv} {N : REnv → Prop} {T : D → Prop} {E : D → REnv → Prop} {f : REnv → R D} {P E' : D → Prop}
theorem sp_retV {sh : Sh} (h : (f ρ).wp (fun d => mask sh d = .v d ∧ T d) (fun e => E e ρ)) : (sRetV sh f ρ).wp N T E := by
  classical
  unfold sRetV
  refine wp_toS (h.post fun d ⟨h1, h2⟩ => ?_)
  rw [if_pos h1]
  exact h2
end
end Dy

set_option Elab.async false
set_option linter.all false
set_option maxRecDepth 100000
/-! ### x[k] = e, x one's own list -/
namespace Dy
open PySem PySem.Spec PyProof.Rows L2

section
variable {X : Cx} {W : WX} {e b : Expr} {f g : REnv → R D} {pos sp np : Pos} {x : Str}
end
section
variable {ρ : REnv} {N : REnv → Prop} {T : D → Prop} {E : D → REnv → Prop} {f g : REnv → R D} {i : Nat} {ds : List D}
end
end Dy

set_option Elab.async false
set_option linter.all false
set_option maxRecDepth 100000
/-! ### more new lists; a list of lists as one's own; x[k][j] = e there -/
namespace Dy
open PySem PySem.Spec PyProof.Rows L2
section
variable {X : Cx} {W : WX} {a b e : Expr} {es : List Expr} {f g : REnv → R D} {t : REnv → R (List D)} {pos pos' lp p np cp sp sq : Pos} {x y : Str} {k n : Nat} {fn : List D → R D}
/-- [..], a new list -/
def xLst (t : REnv → R (List D)) : REnv → R (List D) := fun ρ => (t ρ).bind fun ds => if ds.length ≤ sizeLine then .ok ds else .bad
theorem seo_lst (ha : SA X W es t) : SEO X W (.List es lp) (xLst t) :=
  (pe_lst ha).dy fun σ H Q ⟨G, F, ρ, r, p⟩ => ⟨G, F, ρ, r, by
    unfold xLst at p
    cases q : t ρ with
    | bad => rw [q] at p; exact p.elim
    | err z => rw [q] at p; exact p
    | ok ds =>
      rw [q] at p
      have p : PostO X.K W σ F H (if ds.length ≤ sizeLine then R.ok ds else .bad) Q := p
      intro vs F1 H1 ex rp
      by_cases hl : ds.length ≤ sizeLine
      · rw [if_pos hl] at p
        exact ⟨by rw [← rp.length]; exact hl, fun q hq => p q vs F1 _ (ex.trans (Ext.newH ex.s hq)) upd_same rp (ex.s.free hq) (ex.h.free hq)⟩
      · rw [if_neg hl] at p; exact p.elim⟩
/-- y = [.., ..], lists of it one's own too -/
def sOwnT (i : Nat) (t : REnv → R (List O)) : REnv → SR := fun ρ => (t ρ).toS ρ fun os => if os.length ≤ sizeLine then .next (ρ.set i (.tree (.l os))) else .bad
theorem ss_ownT {i : Nat} {t : REnv → R (List O)} (hN : X.N.Nodup) (ha : SAO X W [] es t) (hi : X.N[i]? = some y := by rfl) (hx : Loc X.env.scope y := by first | exact Or.inl rfl | exact Or.inr rfl) (hs : swapsWith (.List es lp) (some (.Name y pos')) pos.line X.env = pure false := by rfl)
    (hf : X.fn y = true ∨ X.env.scope.names.lookup y = some .local := by first | exact .inl rfl | exact .inr rfl | assumption) : SS X W (.Assign [.Name y pos'] (.List es lp) pos) (sOwnT i t) :=
  (ps_set hN hi hx (pe_lst ha) hs hf).dy fun D σ H ⟨G, F, ρ, r, p⟩ => ⟨G, F, ρ, r, by
    unfold sOwnT at p
    cases q : t ρ with
    | bad => rw [q] at p; exact p.elim
    | err z =>
      rw [q] at p
      exact fun cls dd F2 H2 ex2 xd => p σ F2 H2 cls dd ex2.f (ex2.newG r.g) (r.ext ex2) xd
    | ok os =>
      rw [q] at p
      have p : PostS X.K W D G F (if os.length ≤ sizeLine then SR.next (ρ.set i (.tree (.l os))) else .bad) := p
      intro vs fp F1 H1 ex o nd fr
      by_cases hl : os.length ≤ sizeLine
      · rw [if_pos hl] at p
        refine ⟨by rw [← o.length]; exact hl, fun a ha => ?_⟩
        have nx : Ext F1 H1 F1 (upd H1 a (.lst vs)) := Ext.newH ex.s ha
        have ex2 := ex.trans nx
        have nofp : ∀ b ∈ fp, b ≠ a := fun b hb e => by
          obtain ⟨us, hu⟩ := OwRs.inH os vs fp o b hb
          rw [e, ha] at hu
          cases hu
        refine p _ F1 _ ex2.f (ex2.newG r.g) (r.setT ex2 (v := .ref a) (fp := a :: fp) ?_ (List.nodup_cons.mpr ⟨fun h => nofp a h rfl, nd⟩) fun b hb => ?_)
        · simp only [OwR]
          exact ⟨a, vs, fp, rfl, upd_same, rfl, OwRs.move (.refl _) os vs fp o fun b hb => upd_ne (nofp b hb)⟩
        · rcases List.mem_cons.mp hb with rfl | hb
          · exact ⟨ex.h.free ha, ex.s.free ha⟩
          · rcases (fr b hb).2 with z | ⟨i, hi, _⟩
            · exact ⟨z, (fr b hb).1⟩
            · exact nomatch hi
      · rw [if_neg hl] at p; exact p.elim⟩
end
section
variable {ρ : REnv} {N : REnv → Prop} {T : D → Prop} {E : D → REnv → Prop} {f g : REnv → R D} {t : REnv → R (List D)} {Q : List D → Prop} {E' : D → Prop}
theorem wp_xLst (h : (t ρ).wp (fun ds => ds.length ≤ sizeLine ∧ Q ds) E') : (xLst t ρ).wp Q E' := by
  refine wp_bind (h.post fun ds ⟨h1, h2⟩ => ?_)
  rw [if_pos h1]
  exact h2
theorem sp_ownT {i : Nat} {t : REnv → R (List O)} (h : (t ρ).wp (fun os => os.length ≤ sizeLine ∧ Upd ρ i (.tree (.l os)) N) (fun e => E e ρ)) : (sOwnT i t ρ).wp N T E := wp_toS (h.post fun os ⟨h1, h2⟩ => by rw [if_pos h1]; exact h2)
end
end Dy

set_option Elab.async false
set_option linter.all false
set_option maxRecDepth 100000
/-! ### x.extend(a tuple), x one's own list -/
namespace Dy
open PySem PySem.Spec PyProof.Rows L2
theorem list_extend_tupG (l : Addr) (items : Array Value) (n : Nat) (b : Addr) (items2 : Array Value) (n2 : Nat) (dd : Option Addr) (sl : Array (Option Value)) (hs0 : ¬(!items.isEmpty && Builtin.List.listTooLong (items.size + items2.size)) = true) (hs1 : items.size ≤ sizeLine) (hs2 : items.size + items2.size ≤ sizeLine + 1) :
    Meets (Builtin.«list.extend» ⟨[.ref l, .ref b], []⟩) (fun _ R s => s.heap.get? l = some { cls := .type "list", dict := none, data := .seq items n, slots := #[] } ∧ s.heap.get? b = some { cls := .type "tuple", dict := dd, data := .seq items2 n2, slots := sl } ∧ R (.ok (.ret Value.none)) { s with heap := s.heap.update l (Obj.mapSeq fun x => x ++ items2), toks := s.toks }) :=
  .of_wp fun prog w A R s h => by
    obtain ⟨hp, g, d, tk, os⟩ := s; obtain ⟨hl, hb, h⟩ := h; have f1 := AutoSeq1.idx_int; have f2 := AutoSeq1.sub_tuple_tuple; have f3 := AutoSeq1.sub_list_list; have f4 := AutoSeq1.sub_tuple_list; have f5 := AutoSeq1.sub_list_tuple;
    have hz' : (items ++ items2).size ≤ sizeLine + 1 := by rw [Array.size_append]; exact hs2
    wp_walk using (wpAny_updateSeq hl rfl (hz := hs1) (_hz' := hz')), AutoSeq1.wpAny_loadPart' hl, AutoSeq1.wpAny_loadPart' hb; exact ⟨_, rfl, h⟩
section
variable {X : Cx}
def rExtendT (K : PySem.W.Frag) : V → List V → Hp → VK → Prop := fun x vs H Q => ∃ l b xs zs, x = .ref l ∧ vs = [.ref b] ∧ H l = some (.lst xs) ∧ SqT K H b zs ∧ xs.length + zs.length ≤ sizeLine ∧ Q .non (upd H l (.lst (xs ++ zs)))
theorem mt_extendT : MtM X "list.extend" (rExtendT X.K) := by
  intro pins s σ H x vs v us Q I rx rv h
  obtain ⟨l, b, xs, zs, rfl, rfl, hH, hB, hz, q⟩ := h
  cases rx
  obtain ⟨u, rfl, ru⟩ := rv.one
  cases ru
  obtain ⟨z, its, n, r, hl, e⟩ := I.lstM hH
  obtain ⟨its2, r2, ⟨⟨cls, dd, dt, sl⟩, ho, hc, n2, hd⟩, hz2⟩ := I.tuple hB
  simp only at hc hd
  subst hc
  subst hd
  have hl2 := r2.length
  have hsz : its.toArray.size + its2.toArray.size ≤ sizeLine := by rw [List.size_toArray, List.size_toArray]; omega
  have hlong : ¬ (!its.toArray.isEmpty && Builtin.List.listTooLong (its.toArray.size + its2.toArray.size)) = true := by
    rw [notLongL hsz, Bool.and_false]
    exact Bool.false_ne_true
  refine call_meets F.slot_list_extend ⟨_, e, rfl⟩ F.entry_list_extend (F.args_list_extend_2 _ _)
    (list_extend_tupG l its.toArray n b its2.toArray n2 dd sl hlong (by rw [List.size_toArray]; omega) (by omega)) ⟨e, ho, ?_⟩
  refine ⟨.non, _, I.lset (its' := its ++ its2) hH e (by simp) (r.append r2) ?_, rfl, q⟩
  rw [List.length_append]
  omega
end
def sExtT (i : Nat) (f : REnv → R D) : REnv → SR := fun ρ => match ρ[i]? with
  | some (.own ds) => (f ρ).toS ρ fun d => match d with
    | .tup xs => if ds.length + xs.length ≤ sizeLine then .next (ρ.set i (.own (ds ++ xs))) else .bad
    | _ => .bad
  | _ => .bad
section
variable {X : Cx} {W : WX} {e : Expr} {f : REnv → R D} {pos : Pos}
theorem ss_extT (i : Nat) {x : Str} {ap np : Pos} {xp : Pos} (he : SE X W e f) (hN : X.N[i]? = some x := by rfl) (hv : Vis X.env.scope x := by first | exact Or.inl rfl | exact Or.inr (Or.inl rfl) | exact Or.inr (Or.inr rfl)) (hd : (x == ("__debug__" : Str)) = false := by decide) (hcd : (x == ("__classdict__" : Str)) = false := by decide)
    (hbm : ∀ {te : TE} {ta : TA}, PE X (.Name x np) te → PA X [e] ta → PE X (.Call (.Attribute (.Name x np) "extend" ap) [e] [] xp) (tBM X.K "list" (rExtendT X.K) te ta) := by exact fun h1 h2 => pe_bm PySem.F.plainAttrs_list PySem.F.slot_list_extend PySem.F.type_list_extend mt_extendT h1 h2)
    (hse : starEach (e :: []) X.env = (false, eval e X.env) :: starEach [] X.env := by rfl)
    (hs : swapsWith (.Call (.Attribute (.Name x np) "extend" ap) [e] [] xp) none pos.line X.env = pure false := by rfl) : SS X W (.Expr (.Call (.Attribute (.Name x np) "extend" ap) [e] [] xp) pos) (sExtT i f) :=
  (ps_expr (hbm (pe_var hN hv hd hcd) (pa_cons he pa_nil hse)) hs).dy fun D σ H ⟨G, F, ρ, r, p⟩ => by
    unfold sExtT at p
    split at p
    · rename_i ds z
      obtain ⟨a, vs, h1, h2, h3⟩ := own_at r z
      refine ⟨.ref a, h1, .inl ⟨rfl, _, SqL.of h2⟩, G, F, ρ, r, PostS.toS r p fun d v F' H' _ ex rp r' p' => ?_⟩
      cases d with
      | tup xs =>
        dsimp only at p'
        by_cases hl : ds.length + xs.length ≤ sizeLine
        · rw [if_pos hl] at p'
          obtain ⟨b, ws, rfl, k1, k2⟩ := rp.tup_inv
          exact ⟨a, b, vs, ws, rfl, rfl, ex.h _ _ h2, Same.seqT r'.f k1, by rw [← h3.length, ← k2.length]; exact hl, p' σ F' _ (.refl _) .refl (r'.turnO z h1 ((RepL.mono ex.f _ _ h3).append k2))⟩
        · rw [if_neg hl] at p'; exact p'.elim
      | _ => exact p'.elim
    · exact p.elim
end
section
variable {ρ : REnv} {N : REnv → Prop} {T : D → Prop} {E : D → REnv → Prop} {f : REnv → R D}
theorem sp_extT {i : Nat} {ds : List D} (e : ρ[i]? = some (.own ds)) (h : (f ρ).wp (fun d => ∃ xs, d = .tup xs ∧ ds.length + xs.length ≤ sizeLine ∧ Upd ρ i (.own (ds ++ xs)) N) (fun e => E e ρ)) : (sExtT i f ρ).wp N T E := by
  unfold sExtT
  rw [e]
  refine wp_toS (h.post ?_)
  rintro _ ⟨xs, rfl, hl, h2⟩
  show (if ds.length + xs.length ≤ sizeLine then SR.next (ρ.set i (.own (ds ++ xs))) else .bad : SR).wp N T E
  rw [if_pos hl]
  exact h2
end
/-! ### x[k].append(e), x a list of lists of one's own -/
def sAppL (i : Nat) (g f : REnv → R D) : REnv → SR := fun ρ => match ρ[i]? with
  | some (.tree (.l os)) => (g ρ).toS ρ fun m => match m with
    | .int m => match L2.ixN os.length m with
      | some k => match os[k]?.bind O.unL with
        | some ds => (f ρ).toS ρ fun d => if ds.length < sizeLine then .next (ρ.set i (.tree (.l (os.set k (.l ((ds ++ [d]).map .v)))))) else .bad
        | none => .bad
      | none => .bad
    | _ => .bad
  | _ => .bad
section
variable {X : Cx} {W : WX} {e b : Expr} {f g : REnv → R D} {pos np sp ap xp : Pos} {x : Str}
theorem ss_appL (i : Nat) (hb : SE X W b g) (he : SE X W e f) (hN : X.N[i]? = some x := by rfl) (hv : Vis X.env.scope x := by first | exact Or.inl rfl | exact Or.inr (Or.inl rfl) | exact Or.inr (Or.inr rfl)) (hd : (x == ("__debug__" : Str)) = false := by decide) (hcd : (x == ("__classdict__" : Str)) = false := by decide)
    (hpl : PlainIx b := by exact fun _ _ => rfl)
    (hbm : ∀ {te : TE} {ta : TA}, PE X (.Subscript (.Name x np) b sp) te → PA X [e] ta → PE X (.Call (.Attribute (.Subscript (.Name x np) b sp) "append" ap) [e] [] xp) (tBM X.K "list" rAppend te ta) := by exact fun h1 h2 => pe_bm PySem.F.plainAttrs_list PySem.F.slot_list_append PySem.F.type_list_append mt_append h1 h2)
    (hse : starEach (e :: []) X.env = (false, eval e X.env) :: starEach [] X.env := by rfl)
    (hs : swapsWith (.Call (.Attribute (.Subscript (.Name x np) b sp) "append" ap) [e] [] xp) none pos.line X.env = pure false := by rfl) :
    SS X W (.Expr (.Call (.Attribute (.Subscript (.Name x np) b sp) "append" ap) [e] [] xp) pos) (sAppL i g f) :=
  (ps_expr (hbm (pe_ix ix_seq (pe_var hN hv hd hcd) hb hpl) (pa_cons he pa_nil hse)) hs).dy fun D σ H ⟨G, F, ρ, r, p⟩ => by
    unfold sAppL at p
    split at p
    case h_2 => exact p.elim
    rename_i os z
    obtain ⟨v0, fp0, e1, e2, e3, e4⟩ := tree_at r z
    refine ⟨v0, e1, G, F, ρ, r, PostS.toS r p fun m w F1 H1 _ ex1 rk r1 p1 => ?_⟩
    cases m with
    | int m =>
      dsimp only at p1
      cases q : L2.ixN os.length m with
      | none => simp only [q] at p1; exact p1.elim
      | some k =>
        simp only [q] at p1
        cases hb' : os[k]?.bind O.unL with
        | none => simp only [hb'] at p1; exact p1.elim
        | some ds =>
          simp only [hb'] at p1
          obtain ⟨o, ho, hu⟩ := Option.bind_eq_some_iff.mp hb'
          have hu := of_unL hu
          subst hu
          obtain ⟨v1, fp, e1', e2', e3', e4'⟩ := tree_at r1 z
          rw [e1] at e1'
          cases e1'
          have e2'' := e2'
          simp only [OwR] at e2''
          obtain ⟨a, vs, fq, rfl, ha, hfp, hos⟩ := e2''
          subst hfp
          obtain ⟨nda, ndq⟩ := List.nodup_cons.mp e3'
          obtain ⟨b, ws, q1, q2, q3, q4, q5⟩ := hos.at_ ndq ho
          have hat : L2.atI vs m = some (.ref b) := by
            unfold L2.atI
            rw [← hos.length, q]
            exact q1
          refine .inl ⟨a, vs, m, .ref b, rfl, rk.int_inv, SqL.of ha, hat, .inl ⟨rfl, ws, SqL.of q2⟩, G, F1, ρ, r1, PostS.toS r1 p1 fun d v F' H' _ ex rp r' p' => ?_⟩
          by_cases hl : ds.length < sizeLine
          · rw [if_pos hl] at p'
            obtain ⟨v1, fp', g1, g2, g3, g4⟩ := tree_at r' z
            rw [e1] at g1
            cases g1
            have g2' := g2
            simp only [OwR] at g2'
            obtain ⟨a', vs', fq', k0, k1, k2, k3⟩ := g2'
            cases k0
            subst k2
            rw [ex.h _ _ ha] at k1
            cases k1
            obtain ⟨nda', ndq'⟩ := List.nodup_cons.mp g3
            obtain ⟨b', ws', l1, l2, l3, l4, l5⟩ := k3.at_ ndq' ho
            rw [q1] at l1
            cases l1
            refine ⟨b, ws', v, rfl, rfl, l2, by rw [← l4.length]; exact hl, p' σ F' _ (.refl _) .refl ?_⟩
            have hab : a ≠ b := fun e => nda' (by rw [e]; exact l3)
            refine r'.turnT (H' := upd H' b (.lst (ws' ++ [v]))) z e1 g2 (fun c hc => upd_ne fun e => hc (List.mem_cons_of_mem _ (by rw [e]; exact l3))) ?_
            simp only [OwR]
            exact ⟨a, vs, fq', rfl, by rw [upd_ne hab]; exact ex.h _ _ ha, rfl, l5 (ds ++ [d]) (ws' ++ [v]) (l4.snoc rp)⟩
          · rw [if_neg hl] at p'
            exact p'.elim
    | _ => exact p1.elim
end
section
variable {ρ : REnv} {N : REnv → Prop} {T : D → Prop} {E : D → REnv → Prop} {f g : REnv → R D}
theorem sp_appL {i : Nat} {os : List O} (e : ρ[i]? = some (.tree (.l os))) (h : (g ρ).wp (fun m => HasI m fun m => ∃ k ds, L2.ixN os.length m = some k ∧ os[k]? = some (.l (ds.map .v)) ∧ (f ρ).wp (fun d => ds.length < sizeLine ∧ Upd ρ i (.tree (.l (os.set k (.l ((ds ++ [d]).map .v))))) N) (fun e => E e ρ)) (fun e => E e ρ)) : (sAppL i g f ρ).wp N T E := by
  unfold sAppL
  rw [e]
  refine wp_toS (h.post ?_)
  rintro _ ⟨m, rfl, k, ds, q, e2, h2⟩
  have e3 : os[k]?.bind O.unL = some ds := by
    rw [e2]
    exact unV_map ds
  simp only [q, e3]
  exact wp_toS (h2.post fun d ⟨hl, h3⟩ => by rw [if_pos hl]; exact h3)
end
end Dy

set_option Elab.async false
set_option linter.all false
set_option maxRecDepth 100000
/-! ### a def that changes, in its place, a thing that is its caller's own -/
namespace Dy
open PySem PySem.Spec PyProof.Rows L2
open Classical (choose choose_spec)
mutual
def encO : O → D
  | .v d => .tup [d]
  | .l os => .lst (encOs os)
  | .t os => .dct [] (encOs os)
def encOs : List O → List D
  | [] => []
  | o :: os => encO o :: encOs os
end
mutual
def decO : D → O
  | .tup [d] => .v d
  | .lst xs => .l (decOs xs)
  | .dct _ xs => .t (decOs xs)
  | _ => .v .non
def decOs : List D → List O
  | [] => []
  | d :: ds => decO d :: decOs ds
end
mutual
theorem decO_enc : ∀ o : O, decO (encO o) = o
  | .v d => by simp only [encO, decO]
  | .l os => by simp only [encO, decO, decOs_enc os]
  | .t os => by simp only [encO, decO, decOs_enc os]
theorem decOs_enc : ∀ os : List O, decOs (encOs os) = os
  | [] => by simp only [encOs, decOs]
  | o :: os => by simp only [encOs, decOs, decO_enc o, decOs_enc os]
end
/-- what is told, with the thing's new state -/
def withO (o : O) (d : D) : D := .tup [encO o, d]
open Classical in
noncomputable def less (H : Hp) (fp : List Addr) : Hp := fun a => if a ∈ fp then none else H a
theorem less_in {H : Hp} {fp : List Addr} {a : Addr} (h : a ∈ fp) : less H fp a = none := by
  unfold less
  rw [if_pos h]
theorem less_out {H : Hp} {fp : List Addr} {a : Addr} (h : a ∉ fp) : less H fp a = H a := by
  unfold less
  rw [if_neg h]
theorem less_same (H : Hp) (fp : List Addr) : Same (less H fp) H := fun a o e => by
  by_cases q : a ∈ fp
  · rw [less_in q] at e; cases e
  · rw [less_out q] at e; exact e
theorem less_of {G H : Hp} {fp : List Addr} (s : Same G H) (h : ∀ a ∈ fp, G a = none) : Same G (less H fp) := fun a o e => by
  by_cases q : a ∈ fp
  · rw [h a q] at e; cases e
  · rw [less_out q]; exact s _ _ e
def ownAt (ρ : REnv) (i : Nat) : Option O := match ρ[i]? with
  | some (.own ds) => some (.l (ds.map .v))
  | some (.tree o) => some o
  | some (.pin _ o) => some o
  | _ => none
def backAt (ρ : REnv) (i : Nat) (o : O) : Option REnv := match ρ[i]? with
  | some (.own _) => o.unL.map fun ds => ρ.set i (.own ds)
  | some (.tree _) => some (ρ.set i (.tree o))
  | some (.pin w _) => some (ρ.set i (.pin w o))
  | _ => none
section
variable {K : PySem.W.Frag} {G F H F' H' : Hp} {σ : St} {ρ ρ' : REnv} {i : Nat} {o o' : O} {v : V} {fp fp' : List Addr}
theorem own_get (r : RepE K G F H σ ρ) (h : ownAt ρ i = some o) : ∃ v fp, σ[i]? = some (some v) ∧ OwR K F H o v fp ∧ fp.Nodup ∧ (∀ a ∈ fp, F a = none ∧ G a = none) ∧
    (∀ (j : Nat) (s : Sl) (x : Option V) (b : Addr), j ≠ i → ρ[j]? = some s → σ[j]? = some x → Owned K F H s x b → b ∉ fp) := by
  unfold ownAt at h
  split at h
  · rename_i ds z
    cases h
    obtain ⟨a, vs, e1, e2, e3⟩ := own_at r z
    obtain ⟨a', vs', f1, f2, f3, f4, f5⟩ := r.at_ i _ _ z e1
    cases f1
    refine ⟨.ref a, [a], e1, OwR.ofL e2 e3, by simp, fun b hb => ?_, fun j s x b hj h1 h2 ob hb => ?_⟩
    · rw [List.mem_singleton.mp hb]; exact ⟨f4, f5⟩
    · rw [List.mem_singleton.mp hb] at ob
      exact r.ap j i s _ x _ a hj h1 z h2 e1 ob rfl
  · rename_i o1 z
    cases h
    obtain ⟨v, fp, e1, e2, e3, e4⟩ := tree_at r z
    exact ⟨v, fp, e1, e2, e3, e4, fun j s x b hj h1 h2 ob hb => r.ap j i s _ x _ b hj h1 z h2 e1 ob ⟨v, fp, rfl, e2, hb⟩⟩
  · rename_i w o1 z
    cases h
    have hl : i < σ.length := by
      rw [← r.len]
      exact (List.getElem?_eq_some_iff.mp z).1
    obtain ⟨e0, v, fp, e1, e2, e3, e4⟩ := r.at_ i _ _ z (List.getElem?_eq_getElem hl)
    have hs : σ[i]? = some (some v) := by rw [List.getElem?_eq_getElem hl, e1]
    exact ⟨v, fp, hs, e2, e3, e4, fun j s x b hj h1 h2 ob hb => r.ap j i s _ x _ b hj h1 z h2 hs ob ⟨v, fp, rfl, e2, hb⟩⟩
  · cases h
/-- the heap behind such a def: what is not the thing's own stays -/
structure Back (F H : Hp) (fp : List Addr) (F' H' : Hp) : Prop where
  f : Same F F'
  h : Same (less H fp) H'
  s : Same F' H'
  n : ∀ a u, F' a = some u → F a = none → less H fp a = none
theorem Back.newG (b : Back F H fp F' H') (g : Same G H) (k : ∀ a ∈ fp, G a = none) : NewG G F F' := fun a u h1 h2 => (less_of g k).free (b.n a u h1 h2)
theorem Back.refl (s : Same F H) (k : ∀ a ∈ fp, F a = none) : Back F H fp F H := ⟨.refl _, less_same _ _, s, fun a u h1 h2 => by rw [h2] at h1; cases h1⟩
theorem RepE.back (r : RepE K G F H σ ρ) (h : ownAt ρ i = some o) (hs : σ[i]? = some (some v)) (hv : OwR K F H o v fp) (b : Back F H fp F' H') (hv' : OwR K F' H' o' v fp') (nd : fp'.Nodup) (fr : ∀ a ∈ fp', F' a = none ∧ less H fp a = none)
    (hb : backAt ρ i o' = some ρ') : RepE K G F' H' σ ρ' ∧ NewG G F F' := by
  obtain ⟨v1, fp1, g1, g2, g3, g4, g5⟩ := own_get r h
  rw [hs] at g1
  cases g1
  rw [OwR.uniq o v fp1 fp g2 hv] at g3 g4 g5
  have gk : ∀ a ∈ fp, G a = none := fun a ha => (g4 a ha).2
  have gl := less_of r.g gk
  have ng := b.newG r.g gk
  refine ⟨?_, ng⟩
  have es : σ.set i (some v) = σ := set_same hs
  have keep : ∀ (j : Nat) (s : Sl) (x : Option V) (c : Addr), j ≠ i → ρ[j]? = some s → σ[j]? = some x → Owned K F H s x c → H' c = H c ∧ F' c = none := fun j s x c hj h1 h2 oc => by
    obtain ⟨⟨u, hu⟩, hf, _⟩ := (r.at_ j s x h1 h2).own oc
    have hc := g5 j s x c hj h1 h2 oc
    have hl : less H fp c = some u := by rw [less_out hc]; exact hu
    refine ⟨by rw [hu]; exact b.h _ _ hl, ?_⟩
    cases q : F' c with
    | none => rfl
    | some w =>
      have := b.n c w q hf
      rw [hl] at this
      cases this
  have dis : ∀ c ∈ fp', ∀ (j : Nat) (s : Sl) (x : Option V), j ≠ i → ρ[j]? = some s → σ[j]? = some x → Owned K F H s x c → False := fun c hc j s x hj h1 h2 oc => by
    obtain ⟨⟨u, hu⟩, _, _⟩ := (r.at_ j s x h1 h2).own oc
    have hl : less H fp c = some u := by rw [less_out (g5 j s x c hj h1 h2 oc)]; exact hu
    rw [(fr c hc).2] at hl
    cases hl
  have fg : ∀ a ∈ fp', F' a = none ∧ G a = none := fun a ha => ⟨(fr a ha).1, gl.free (fr a ha).2⟩
  unfold ownAt at h
  unfold backAt at hb
  split at h
  · rename_i ds z
    rw [z] at hb
    obtain ⟨es', e1, rfl⟩ := Option.map_eq_some_iff.mp hb
    have e1 := of_unL e1
    subst e1
    obtain ⟨a, ws, rfl, k1, k2, rfl⟩ := hv'.inL
    have q := r.put (F' := F') (H' := H') (i := i) (s' := .own es') (x' := some (.ref a)) (gl.trans b.h) b.s b.f keep ⟨a, ws, rfl, k1, k2, (fg a List.mem_cons_self).1, (fg a List.mem_cons_self).2⟩ fun c oc => by
      have oc : some (V.ref a) = some (.ref c) := oc
      cases oc
      exact dis a List.mem_cons_self
    rw [es] at q
    exact q
  · rename_i o1 z
    rw [z] at hb
    cases hb
    have q := r.put (F' := F') (H' := H') (i := i) (s' := .tree o') (x' := some v) (gl.trans b.h) b.s b.f keep ⟨v, fp', rfl, hv', nd, fg⟩ fun c oc => by
      obtain ⟨v2, fp2, q1, q2, q3⟩ := oc
      cases q1
      rw [OwR.uniq o' v fp2 fp' q2 hv'] at q3
      exact dis c q3
    rw [es] at q
    exact q
  · rename_i w o1 z
    rw [z] at hb
    cases hb
    obtain ⟨e0, _⟩ := r.at_ i _ _ z hs
    cases e0
    have q := r.put (F' := F') (H' := H') (i := i) (s' := .pin v o') (x' := some v) (gl.trans b.h) b.s b.f keep ⟨rfl, v, fp', rfl, hv', nd, fg⟩ fun c oc => by
      obtain ⟨v2, fp2, q1, q2, q3⟩ := oc
      cases q1
      rw [OwR.uniq o' v fp2 fp' q2 hv'] at q3
      exact dis c q3
    rw [es] at q
    exact q
  · cases h
end
/-! #### the promise of such a def -/
def PostM (K : PySem.W.Frag) (E : XK) (v : V) (F H : Hp) (fp : List Addr) (x : R (O × D)) (Q : V → Hp → Prop) : Prop := match x with
  | .ok p => ∀ u F' H' fp', Back F H fp F' H' → OwR K F' H' p.1 v fp' → fp'.Nodup → (∀ a ∈ fp', F' a = none ∧ less H fp a = none) → Rep K F' p.2 u → Q u H'
  | .err z => ∃ o' e, z = withO o' e ∧ ∀ cls dd F' H' fp', Back F H fp F' H' → OwR K F' H' o' v fp' → fp'.Nodup → (∀ a ∈ fp', F' a = none ∧ less H fp a = none) → XD K F' e cls dd → E cls dd H'
  | .bad => False
/-- n parameters, the j-th one is the caller's own thing -/
def spM (K : PySem.W.Frag) (j n : Nat) (fn : V → O → List D → R (O × D)) : Sp := fun vs H Q E => vs.length = n ∧ ∃ F o ds us v fp, vs = us.insertIdx j v ∧ j ≤ us.length ∧ Same F H ∧ RepL K F ds us ∧ OwR K F H o v fp ∧ fp.Nodup ∧ (∀ a ∈ fp, F a = none) ∧
  PostM K (fun cls dd H' => E cls dd H') v F H fp (fn v o ds) Q
def PostSM (K : PySem.W.Frag) (W : WX) (v : V) (D : Ends) (G F : Hp) (x : SR) : Prop := match x with
  | .next ρ => ∀ σ' F' H', Same F F' → NewG G F F' → RepE K G F' H' σ' ρ → D.nx σ' H'
  | .ret z => ∃ o' d, z = withO o' d ∧ ∀ u F' H' fp', Same F F' → NewG G F F' → Same G H' → Same F' H' → OwR K F' H' o' v fp' → fp'.Nodup → (∀ a ∈ fp', F' a = none ∧ G a = none) → Rep K F' d u → D.rt u H'
  | .err e ρ => ∀ σ' F' H' cls dd, Same F F' → NewG G F F' → RepE K G F' H' σ' ρ → XD K F' e cls dd → W cls dd σ' H'
  | .bad => False
section
variable {α β : Type} {K : PySem.W.Frag} {W : WX} {w : V} {D D' : Ends} {G F F' H : Hp} {σ : St} {ρ : REnv}
theorem PostSM.ext {x : SR} (s : Same F F') (n : NewG G F F') (h : PostSM K W w D G F x) : PostSM K W w D G F' x := by
  cases x with
  | next ρ => exact fun σ' F2 H' s2 n2 r => h σ' F2 H' (s.trans s2) (n.trans n2) r
  | ret d =>
    obtain ⟨o', d', e, h⟩ := h
    exact ⟨o', d', e, fun u F2 H' fp' s2 n2 => h u F2 H' fp' (s.trans s2) (n.trans n2)⟩
  | err e ρ => exact fun σ' F2 H' cls dd s2 n2 r x => h σ' F2 H' cls dd (s.trans s2) (n.trans n2) r x
  | bad => exact h
theorem PostSM.toS {rel : Hp → α → β → Prop} {x : R α} {k : α → SR} {Q : β → Hp → Prop} (r : RepE K G F H σ ρ) (h : PostSM K W w D G F (x.toS ρ k))
    (f : ∀ a v F' H', x = .ok a → Ext F H F' H' → rel F' a v → RepE K G F' H' σ ρ → PostSM K W w D G F' (k a) → Q v H') : Post K W rel σ F H x Q := by
  cases x with
  | ok a => exact fun v F' H' e p => f a v F' H' rfl e p (r.ext e) (PostSM.ext e.f (e.newG r.g) h)
  | err e => exact fun cls dd F' H' ex p => h σ F' H' cls dd ex.f (ex.newG r.g) (r.ext ex) p
  | bad => exact h
theorem PostSM.seq {x : SR} {g : REnv → SR} {nx : St → Hp → Prop} (h : PostSM K W w D G F (x.seq g))
    (f : ∀ ρ σ' F' H', x = .next ρ → Same F F' → NewG G F F' → RepE K G F' H' σ' ρ → PostSM K W w D G F' (g ρ) → nx σ' H') : PostSM K W w { D with nx := nx } G F x := by
  cases x with
  | next ρ => exact fun σ' F' H' s n r => f ρ σ' F' H' rfl s n r (PostSM.ext s n h)
  | ret d => exact h
  | err e ρ => exact h
  | bad => exact h
theorem PostSM.ends {x : SR} {bk ct : St → Hp → Prop} (h : PostSM K W w D G F x) : PostSM K W w { D with bk := bk, ct := ct } G F x := by
  cases x with
  | next ρ => exact h
  | ret d => exact h
  | err e ρ => exact h
  | bad => exact h
end
section
variable {X : Cx} {W : WX} {w : V} {st : Stmt} {rest : List Stmt} {g h : REnv → SR} {e : Expr} {f : REnv → R D} {pos : Pos}
end
/-! #### defs -/
section
variable {P : Program} {w : World} {K : PySem.W.Frag} {mg : Str → Option Value} {base : Heap} {x qual : Str} {params : Arguments} {body : List Stmt} {scope : Scope} {f : Addr} {fd : FuncData} {N ps : List Str} {k : Nat}
theorem ins_get {α : Type} {l : List α} {a : α} {j i : Nat} (h : j ≤ l.length) : (l.insertIdx j a)[i]? = if i < j then l[i]? else if i = j then some a else l[i - 1]? := by
  rw [List.getElem?_insertIdx]
  split
  · rfl
  · split
    · rename_i h1 h2
      rw [if_pos (by rw [h2]; exact h)]
    · rfl
theorem repE_startM {F H : Hp} {ds : List D} {us : List V} {v : V} {o : O} {fp : List Addr} {j : Nat} (s : Same F H) (r : RepL K F ds us) (hj : j ≤ us.length) (ho : OwR K F H o v fp) (nd : fp.Nodup) (fr : ∀ a ∈ fp, F a = none) :
    RepE K (less H fp) F H (L2.start N (us.insertIdx j v)) ((ds.map .val).insertIdx j (.pin v o) ++ List.replicate (N.length - (us.insertIdx j v).length) .un) := by
  have hl := r.length
  have hj' : j ≤ (ds.map Sl.val).length := by rw [List.length_map, hl]; exact hj
  have l1 : ((ds.map Sl.val).insertIdx j (.pin v o)).length = ds.length + 1 := by rw [List.length_insertIdx, if_pos hj', List.length_map]
  have l2 : (us.insertIdx j v).length = us.length + 1 := by rw [List.length_insertIdx, if_pos hj]
  have get : ∀ (i : Nat) (sl : Sl) (y : Option V), ((ds.map Sl.val).insertIdx j (.pin v o) ++ List.replicate (N.length - (us.insertIdx j v).length) .un)[i]? = some sl → (L2.start N (us.insertIdx j v))[i]? = some y →
      sl = .un ∨ (i = j ∧ sl = .pin v o ∧ y = some v) ∨ ∃ d u, sl = .val d ∧ y = some u ∧ Rep K F d u := fun i sl y h1 h2 => by
    unfold L2.start at h2
    by_cases hi : i < ds.length + 1
    · rw [List.getElem?_append_left (by rw [l1]; exact hi), ins_get hj'] at h1
      rw [List.getElem?_append_left (by rw [List.length_map, l2, ← hl]; exact hi), List.getElem?_map, ins_get hj] at h2
      by_cases c1 : i < j
      · rw [if_pos c1, List.getElem?_map] at h1
        rw [if_pos c1] at h2
        obtain ⟨d, e1, rfl⟩ := Option.map_eq_some_iff.mp h1
        obtain ⟨u, e2, rd⟩ := r.get e1
        rw [e2] at h2
        cases h2
        exact .inr (.inr ⟨d, u, rfl, rfl, rd⟩)
      · rw [if_neg c1] at h1 h2
        by_cases c2 : i = j
        · rw [if_pos c2] at h1 h2
          cases h1
          cases h2
          exact .inr (.inl ⟨c2, rfl, rfl⟩)
        · rw [if_neg c2, List.getElem?_map] at h1
          rw [if_neg c2] at h2
          obtain ⟨d, e1, rfl⟩ := Option.map_eq_some_iff.mp h1
          obtain ⟨u, e2, rd⟩ := r.get e1
          rw [e2] at h2
          cases h2
          exact .inr (.inr ⟨d, u, rfl, rfl, rd⟩)
    · rw [List.getElem?_append_right (by rw [l1]; omega), List.getElem?_replicate] at h1
      split at h1
      · cases h1; exact .inl rfl
      · cases h1
  refine ⟨less_same _ _, s, by unfold L2.start; simp [l1, l2, hl], fun i sl y h1 h2 => ?_, fun i i2 sl t y z a hij h1 h2 h3 h4 m1 m2 => ?_⟩
  · rcases get i sl y h1 h2 with rfl | ⟨_, rfl, rfl⟩ | ⟨d, u, rfl, rfl, rd⟩
    · trivial
    · exact ⟨rfl, v, fp, rfl, ho, nd, fun a ha => ⟨fr a ha, less_in ha⟩⟩
    · exact ⟨u, rfl, rd⟩
  · rcases get i sl y h1 h3 with rfl | ⟨e1, _, _⟩ | ⟨d, u, rfl, rfl, rd⟩
    · exact m1
    · rcases get i2 t z h2 h4 with rfl | ⟨e2, _, _⟩ | ⟨d, u, rfl, rfl, rd⟩
      · exact m2
      · exact hij (e1.trans e2.symm)
      · exact m2
    · exact m1
structure CalM (P : Program) (w : World) (K : PySem.W.Frag) (mg : Str → Option Value) (base : Heap) (x : Str) (k j n : Nat) (fn : V → O → List D → R (O × D)) : Prop where
  ex : ∃ (f : Addr) (fd : FuncData) (ps : List Str), FnOk P w K mg base (L2.CX P w) k f fd ps (spM K j n fn) ∧ mg x = some (.ref f) ∧ PySem.W.keepIn K (.ref f) = true ∧ Binds K fd ps []
  len : ∀ w o ds, ds.length + 1 ≠ n → fn w o ds = .bad
end
/-! #### calls of such a def -/
open Classical in
noncomputable def allV {α : Type} (x : V → R α) : R α := if h : ∃ r, ∀ v, x v = r then choose h else .bad
theorem allV_eq {α : Type} {x : V → R α} {r : R α} (h : ∀ v, x v = r) : allV x = r := by
  classical
  have hx : ∃ r, ∀ v, x v = r := ⟨r, h⟩
  unfold allV
  rw [dif_pos hx, ← choose_spec hx .non, h .non]
theorem allV_at {α : Type} {x : V → R α} {r : R α} (e : allV x = r) (h : r ≠ .bad) (v : V) : x v = r := by
  classical
  unfold allV at e
  by_cases hx : ∃ r, ∀ v, x v = r
  · rw [dif_pos hx] at e
    rw [← e]
    exact choose_spec hx v
  · rw [dif_neg hx] at e
    exact absurd e.symm h
section
variable {X : Cx} {W : WX} {e : Expr} {es : List Expr} {f : REnv → R D} {t : REnv → R (List D)} {pos : Pos} {x : Str}
end
open Classical in
section
variable {X : Cx} {W : WX} {e : Expr} {es : List Expr} {x y : Str} {p pos pos' cp : Pos} {k j n i : Nat} {t : REnv → R (List D)} {fn : V → O → List D → R (O × D)}
end
/-! ### weakest conditions -/
section
variable {ρ : REnv} {N : REnv → Prop} {T : D → Prop} {E : D → REnv → Prop} {f : REnv → R D} {P E' : D → Prop} {t : REnv → R (List D)} {i : Nat} {dst : Option Nat} {fn : V → O → List D → R (O × D)}
end
end Dy

set_option Elab.async false
set_option linter.all false
set_option maxRecDepth 100000
/-! ### a def that hands back its own parameter; trees within an own list -/
namespace Dy
open PySem PySem.Spec PyProof.Rows L2
def PostJ (K : PySem.W.Frag) (E : XK) (v : V) (F H : Hp) (x : R D) (Q : V → Hp → Prop) : Prop := match x with
  | .ok _ => ∀ F' H', Ext F H F' H' → Q v H'
  | .err e => ∀ cls dd F' H', Ext F H F' H' → XD K F' e cls dd → E cls dd H'
  | .bad => False
/-- one parameter, which is what is told -/
def spJ (K : PySem.W.Frag) (fn : V → D → R D) : Sp := fun vs H Q E => vs.length = 1 ∧ ∃ F d v, vs = [v] ∧ Same F H ∧ Rep K F d v ∧ PostJ K (fun cls dd H' => E cls dd H') v F H (fn v d) Q
def PostSJ (K : PySem.W.Frag) (W : WX) (v : V) (D : Ends) (G F : Hp) (x : SR) : Prop := match x with
  | .next ρ => ∀ σ' F' H', Same F F' → NewG G F F' → RepE K G F' H' σ' ρ → D.nx σ' H'
  | .ret _ => ∀ F' H', Same F F' → NewG G F F' → Same G H' → Same F' H' → D.rt v H'
  | .err e ρ => ∀ σ' F' H' cls dd, Same F F' → NewG G F F' → RepE K G F' H' σ' ρ → XD K F' e cls dd → W cls dd σ' H'
  | .bad => False
section
variable {α β : Type} {K : PySem.W.Frag} {W : WX} {w : V} {D D' : Ends} {G F F' H : Hp} {σ : St} {ρ : REnv}
theorem PostSJ.ext {x : SR} (s : Same F F') (n : NewG G F F') (h : PostSJ K W w D G F x) : PostSJ K W w D G F' x := by
  cases x with
  | next ρ => exact fun σ' F2 H' s2 n2 r => h σ' F2 H' (s.trans s2) (n.trans n2) r
  | ret d => exact fun F2 H' s2 n2 => h F2 H' (s.trans s2) (n.trans n2)
  | err e ρ => exact fun σ' F2 H' cls dd s2 n2 r x => h σ' F2 H' cls dd (s.trans s2) (n.trans n2) r x
  | bad => exact h
theorem PostSJ.seq {x : SR} {g : REnv → SR} {nx : St → Hp → Prop} (h : PostSJ K W w D G F (x.seq g))
    (f : ∀ ρ σ' F' H', x = .next ρ → Same F F' → NewG G F F' → RepE K G F' H' σ' ρ → PostSJ K W w D G F' (g ρ) → nx σ' H') : PostSJ K W w { D with nx := nx } G F x := by
  cases x with
  | next ρ => exact fun σ' F' H' s n r => f ρ σ' F' H' rfl s n r (PostSJ.ext s n h)
  | ret d => exact h
  | err e ρ => exact h
  | bad => exact h
end
def rsJ (K : PySem.W.Frag) (W : WX) (w : V) (g : REnv → SR) : TS := fun D σ H => ∃ G F ρ, RepE K G F H σ ρ ∧ PostSJ K W w D G F (g ρ)
abbrev SSJ (X : Cx) (W : WX) (w : V) (s : Stmt) (g : REnv → SR) : Prop := PS X s (rsJ X.K W w g)
abbrev SSsJ (X : Cx) (W : WX) (w : V) (s : List Stmt) (g : REnv → SR) : Prop := PSs X s (rsJ X.K W w g)
/-- a plain parameter whose place is told -/
def eVarP (i : Nat) : REnv → R D := fun ρ => match ρ[i]? with
  | some (.pin _ (.v d)) => .ok d
  | _ => .bad
open Classical in
noncomputable def sRetJ (i : Nat) (w : V) : REnv → SR := fun ρ => match ρ[i]? with
  | some (.pin w' (.v d)) => if w' = w then .ret d else .bad
  | _ => .bad
section
variable {X : Cx} {W : WX} {w : V} {st : Stmt} {rest : List Stmt} {g h : REnv → SR} {e : Expr} {f : REnv → R D} {pos : Pos}
theorem ssj_lift (hs : SS X W st g) : SSJ X W w st (sNR g) := PS.dy hs fun D σ H ⟨G, F, ρ, r, p⟩ => ⟨G, F, ρ, r, by
  unfold sNR at p
  cases q : g ρ with
  | next a => rw [q] at p; exact p
  | ret a => rw [q] at p; exact p.elim
  | err a b => rw [q] at p; exact p
  | bad => rw [q] at p; exact p.elim⟩
theorem sssj_cons (h1 : SSJ X W w st g) (h2 : SSsJ X W w rest h) : SSsJ X W w (st :: rest) (sSeq g h) :=
  (pss_cons h1 h2).dy fun D σ H ⟨G, F, ρ, r, p⟩ => ⟨G, F, ρ, r, PostSJ.seq p fun ρ' σ' F' H' _ s n r' p' => ⟨G, F', ρ', r', p'⟩⟩
theorem sssj_one (h1 : SSJ X W w st g) : SSsJ X W w [st] g := pss_one h1
theorem se_varP (i : Nat) {x : Str} (hN : X.N[i]? = some x := by rfl) (hv : Vis X.env.scope x := by first | exact Or.inl rfl | exact Or.inr (Or.inl rfl) | exact Or.inr (Or.inr rfl)) (hd : (x == ("__debug__" : Str)) = false := by decide)
    (hcd : (x == ("__classdict__" : Str)) = false := by decide) : SE X W (.Name x pos) (eVarP i) :=
  (pe_var hN hv hd hcd).dy fun σ H Q ⟨G, F, ρ, r, p⟩ => by
    unfold eVarP at p
    split at p
    · rename_i w' d z
      have hl : i < σ.length := by
        rw [← r.len]
        exact (List.getElem?_eq_some_iff.mp z).1
      obtain ⟨e0, v, fp, e1, e2, e3, e4⟩ := r.at_ i _ _ z (List.getElem?_eq_getElem hl)
      simp only [OwR] at e2
      exact ⟨v, by rw [List.getElem?_eq_getElem hl, e1], p v F H (.refl r.f) e2.1⟩
    · exact p.elim
theorem ssj_ret (i : Nat) {x : Str} {np : Pos} (hN : X.N[i]? = some x := by rfl) (hv : Vis X.env.scope x := by first | exact Or.inl rfl | exact Or.inr (Or.inl rfl) | exact Or.inr (Or.inr rfl)) (hd : (x == ("__debug__" : Str)) = false := by decide) (hcd : (x == ("__classdict__" : Str)) = false := by decide) :
    SSJ X W w (.Return (some (.Name x np)) pos) (sRetJ i w) :=
  (ps_ret (pe_var hN hv hd hcd)).dy fun D σ H ⟨G, F, ρ, r, p⟩ => by
    classical
    unfold sRetJ at p
    split at p
    · rename_i w' d z
      by_cases hw : w' = w
      · rw [if_pos hw] at p
        subst hw
        have hl : i < σ.length := by
          rw [← r.len]
          exact (List.getElem?_eq_some_iff.mp z).1
        obtain ⟨e0, _⟩ := r.at_ i _ _ z (List.getElem?_eq_getElem hl)
        exact ⟨w', by rw [List.getElem?_eq_getElem hl, e0], p F H (.refl _) .refl r.g r.f⟩
      · rw [if_neg hw] at p; exact p.elim
    · exact p.elim
end
def SR.outJ : SR → R D
  | .ret d => .ok d
  | .err e _ => .err e
  | _ => .bad
def fnJ (m : Nat) (g : V → REnv → SR) : V → D → R D := fun w d => (g w (.pin w (.v d) :: List.replicate (m - 1) .un)).outJ
section
variable {P : Program} {w : World} {K : PySem.W.Frag} {mg : Str → Option Value} {base : Heap} {x qual : Str} {params : Arguments} {body : List Stmt} {scope : Scope} {f : Addr} {fd : FuncData} {N ps : List Str} {k : Nat}
theorem okJ_def {g : V → REnv → SR} (Fn : FunD K x qual params body scope [] [] f fd) (S : FnScope N ps scope) (hn : ps.length = 1)
    (hb : ∀ (v : V) (cdv : Value) (A : Around) (outer : List Env) (s : Shared) (H : Hp) (E : XK), Room k (CxD P w K mg base N qual scope f cdv A outer s H E).A → Takes (CxD P w K mg base N qual scope f cdv A outer s H E) (WD E) →
      PassesOwn (model P w) (CxD P w K mg base N qual scope f cdv A outer s H E).A (CxD P w K mg base N qual scope f cdv A outer s H E).env (CxD P w K mg base N qual scope f cdv A outer s H E).xe → SSsJ (CxD P w K mg base N qual scope f cdv A outer s H E) (WD E) v body (g v)) :
    FnOk P w K mg base (L2.CX P w) (k + 1) f fd ps (spJ K (fnJ N.length g)) := by
  refine Fn.ok S (fun vs H Q E h => by rw [hn]; exact h.1) fun cdv A outer s H vs Q E hr hsp => ?_
  obtain ⟨_, F, d, v, rfl, sm, rv, p⟩ := hsp
  refine ⟨_, hb v cdv A outer s H E hr (takes_of rfl rfl rfl rfl) (passes_of rfl), ?_⟩
  have r0 : RepE K (less H []) F H (L2.start N [v]) (.pin v (.v d) :: List.replicate (N.length - 1) .un) :=
    repE_startM (N := N) (K := K) (j := 0) (us := []) (ds := []) sm RepL.nil (Nat.le_refl 0) (OwR.ofV (H := H) rv) List.nodup_nil (fun a h => nomatch h)
  have hG : less H [] = H := funext fun a => less_out (fun h => nomatch h)
  rw [hG] at r0
  refine ⟨H, F, _, r0, ?_⟩
  unfold fnJ at p
  cases e : g v (.pin v (.v d) :: List.replicate (N.length - 1) .un) with
  | next ρ => rw [e] at p; exact p.elim
  | ret d' =>
    rw [e] at p
    exact fun F' H' s1 n1 g1 f1 => p F' H' ⟨s1, g1, f1, n1⟩
  | err d' ρ =>
    rw [e] at p
    exact fun σ' F' H' cls dd s1 n1 r q => p cls dd F' H' ⟨s1, r.g, r.f, n1⟩ q
  | bad => rw [e] at p; exact p.elim
structure CalJ (P : Program) (w : World) (K : PySem.W.Frag) (mg : Str → Option Value) (base : Heap) (x : Str) (k n : Nat) (fn : V → D → R D) : Prop where
  ex : ∃ (f : Addr) (fd : FuncData) (ps : List Str), FnOk P w K mg base (L2.CX P w) k f fd ps (spJ K fn) ∧ mg x = some (.ref f) ∧ PySem.W.keepIn K (.ref f) = true ∧ Binds K fd ps []
theorem calJ_mk {fn : V → D → R D} {n : Nat} (Fn : FunD K x x params body scope [] [] f fd) (hm : mg x = some (.ref f))
    (hb : ∀ (kV doc pm : Value) (an : Option Addr) (cdv ct : Value) (us : List Value), us.length = ps.length → bindArgs (PySem.W.fnOf x x params body scope .none kV doc pm an cdv ct) ⟨us, []⟩ = pure (ps.zip us))
    (ok : FnOk P w K mg base (L2.CX P w) k f fd ps (spJ K fn)) : CalJ P w K mg base x k n fn :=
  ⟨⟨f, fd, ps, ok, hm, Fn.kp, Fn.bindsN hb⟩⟩
end
/-! #### return f((.., ..)), f telling its parameter -/
open Classical in
noncomputable def sRetJT (sh : Sh) (fn : V → D → R D) (t : REnv → R (List O)) : REnv → SR := fun ρ => (t ρ).toS ρ fun os => if os.length ≤ sizeLine ∧ mask sh (.tup (O.toDs os)) = .t os then (allV fun v => fn v (.tup (O.toDs os))).toS ρ fun _ => .ret (.tup (O.toDs os)) else .bad
section
variable {X : Cx} {W : WX} {sh : Sh} {x : Str} {p pos cp tp : Pos} {k n kk : Nat} {es : List Expr} {I : List Nat} {t : REnv → R (List O)} {fn : V → D → R D}
theorem sst_retJ (C : CalJ X.prog X.w X.K X.mg X.base x k n fn) (tk : Takes X W) (hr : Room k X.A) (ha : SAO X W [] es t)
    (hg : Gl X x := by rfl) (hdb : (x == ("__debug__" : Str)) = false := by decide) (he : starEach [.Tuple es kk tp] X.env = (false, eval (.Tuple es kk tp) X.env) :: starEach [] X.env := by rfl) (hpl : (backTo cp (starEach [] X.env)).any (·.1) = false := by rfl) :
    SST X W sh (.Return (some (.Call (.Name x p) [.Tuple es kk tp] [] cp)) pos) (sRetJT sh fn t) := by
  obtain ⟨f, fd, ps, Fo, hm, hk, hb⟩ := C.ex
  refine (ps_ret (pe_callS (E := WE W) Fo hr hg hm hk hb (fun σ => passAt tk σ) (pa_cons (pe_tup ha) pa_nil he) hdb he hpl)).dy fun D σ H ⟨G, F, ρ, r, p⟩ => ⟨G, F, ρ, r, ?_⟩
  classical
  unfold sRetJT at p
  cases q : t ρ with
  | bad => rw [q] at p; exact p.elim
  | err z =>
    rw [q] at p
    exact fun cls dd F' H' ex xd => p σ F' H' cls dd ex.f (ex.newG r.g) (r.ext ex) xd
  | ok os =>
    rw [q] at p
    intro vs fp F1 H1 ex o nd fr
    have p : PostST X.K W sh D G F (if os.length ≤ sizeLine ∧ mask sh (.tup (O.toDs os)) = .t os then (allV fun v => fn v (.tup (O.toDs os))).toS ρ fun _ => .ret (.tup (O.toDs os)) else .bad) := p
    by_cases hc : os.length ≤ sizeLine ∧ mask sh (.tup (O.toDs os)) = .t os
    case neg => rw [if_neg hc] at p; exact p.elim
    rw [if_pos hc] at p
    refine ⟨by rw [← o.length]; exact hc.1, fun a ha => ?_⟩
    have s2 : Same F1 (upd F1 a (.tup vs)) := same_upd (ex.s.free ha)
    have nx : Ext F1 H1 (upd F1 a (.tup vs)) (upd H1 a (.tup vs)) := Ext.new ex.s ha
    have ex2 := ex.trans nx
    have nofp : ∀ b ∈ fp, b ≠ a := fun b hb e => by
      obtain ⟨us, hu⟩ := OwRs.inH os vs fp o b hb
      rw [e, ha] at hu
      cases hu
    have o2 : OwR X.K (upd F1 a (.tup vs)) (upd H1 a (.tup vs)) (.t os) (.ref a) fp := by
      simp only [OwR]
      exact ⟨a, vs, rfl, upd_same, OwRs.move s2 os vs fp o fun b hb => upd_ne (nofp b hb)⟩
    have f2 : ∀ b ∈ fp, upd F1 a (.tup vs) b = none := fun b hb => by rw [upd_ne (nofp b hb)]; exact (fr b hb).1
    have fH : ∀ b ∈ fp, H b = none := fun b hb => by
      rcases (fr b hb).2 with z | ⟨i, hi, _⟩
      · exact z
      · exact nomatch hi
    have fG : ∀ b ∈ fp, G b = none := fun b hb => r.g.free (fH b hb)
    generalize hF2 : upd F1 a (.tup vs) = F2 at *
    generalize hH2 : upd H1 a (.tup vs) = H2 at *
    have sm : Same F2 (addF F2 H2 fp) := addF_same f2
    have rp : Rep X.K (addF F2 H2 fp) (.tup (O.toDs os)) (.ref a) := OwR.frz sm (.t os) (.ref a) fp o2 fun b hb => addF_in hb
    obtain ⟨res, ea⟩ : ∃ res, (allV fun v => fn v (.tup (O.toDs os))) = res := ⟨_, rfl⟩
    rw [ea] at p
    have hnb : res ≠ .bad := fun z => by rw [z] at p; exact p
    have ev := allV_at ea hnb (.ref a)
    refine ⟨rfl, addF F2 H2 fp, .tup (O.toDs os), .ref a, rfl, addF_H ex2.s, rp, ?_⟩
    rw [show fn (.ref a) (.tup (O.toDs os)) = res from ev]
    cases res with
    | bad => exact hnb rfl
    | ok d =>
      have p : PostST X.K W sh D G F (.ret (.tup (O.toDs os))) := p
      intro F' H' ex3
      have ex4 : Ext F2 H2 F2 H' := ⟨.refl _, ex3.h, sm.trans (ex3.f.trans ex3.s), fun b u h1 h2 => by rw [h2] at h1; cases h1⟩
      have ex5 := ex2.trans ex4
      refine p (.ref a) fp F2 H' ex5.f (ex5.newG r.g) (r.ext ex5).g ex5.s ?_ nd fun b hb => ⟨f2 b hb, fG b hb⟩
      rw [hc.2]
      refine OwR.move (.refl _) (.t os) (.ref a) fp o2 fun b hb => ?_
      obtain ⟨us, hu⟩ := OwR.inH (.t os) (.ref a) fp o2 b hb
      rw [hu]
      exact ex3.h _ _ hu
    | err z =>
      have p : PostST X.K W sh D G F (.err z ρ) := p
      intro cls dd F' H' ex3 xd
      have ex6 := (ext_addF ex2 fun b hb => ⟨f2 b hb, fH b hb⟩).trans ex3
      exact p σ F' H' cls dd ex6.f (ex6.newG r.g) (r.ext ex6) xd
end
/-! #### return x, x a tree; calls that make trees; x.append(tree) -/
open Classical in
noncomputable def sRetTr (sh : Sh) (i : Nat) : REnv → SR := fun ρ => match ρ[i]? with
  | some (.tree o) => if mask sh o.toD = o then .ret o.toD else .bad
  | _ => .bad
abbrev SET (X : Cx) (W : WX) (e : Expr) (x : REnv → R O) : Prop := PE X e (fun σ H Q => ∃ G F ρ, RepE X.K G F H σ ρ ∧ PostT X.K W σ F H (x ρ) Q)
def xCallT (fn : List D → R O) (t : REnv → R (List D)) : REnv → R O := fun ρ => (t ρ).bind fn
def tC (x : REnv → R O) (t : REnv → R (List O)) : REnv → R (List O) := fun ρ => (x ρ).bind fun o => (t ρ).bind fun os => .ok (o :: os)
/-- list(e), a new list -/
def xList (t : REnv → R (List D)) : REnv → R (List D) := fun ρ => (t ρ).bind fun ds => match oList ds with
  | some (.lst es) => .ok es
  | _ => .bad
def sAppTr (i j : Nat) : REnv → SR := fun ρ => match ρ[i]?, ρ[j]? with
  | some (.tree (.l os)), some (.tree o) => if os.length < sizeLine then .next ((ρ.set j .un).set i (.tree (.l (os ++ [o])))) else .bad
  | _, _ => .bad
theorem OwRs.append {K : PySem.W.Frag} {F H : Hp} : ∀ {os ps : List O} {vs ws : List V} {f1 f2 : List Addr}, OwRs K F H os vs f1 → OwRs K F H ps ws f2 → OwRs K F H (os ++ ps) (vs ++ ws) (f1 ++ f2)
  | [], ps, vs, ws, f1, f2, h, t => by
    simp only [OwRs] at h
    rw [h.1, h.2]
    exact t
  | o :: os, ps, vs, ws, f1, f2, h, t => by
    simp only [OwRs] at h
    obtain ⟨v, r, g1, g2, rfl, rfl, h3, h4⟩ := h
    simp only [List.cons_append, OwRs]
    exact ⟨v, r ++ ws, g1, g2 ++ f2, rfl, by rw [List.append_assoc], h3, OwRs.append h4 t⟩
theorem OwRs.one {K : PySem.W.Frag} {F H : Hp} {o : O} {v : V} {fp : List Addr} (h : OwR K F H o v fp) : OwRs K F H [o] [v] fp := by
  simp only [OwRs]
  exact ⟨v, [], fp, [], rfl, by simp, h, rfl, rfl⟩
section
variable {X : Cx} {W : WX} {sh : Sh} {e : Expr} {es : List Expr} {x y : Str} {p pos np ap xp : Pos} {k n : Nat} {I : List Nat} {t : REnv → R (List O)} {u : REnv → R (List D)} {fn : List D → R O}
theorem sst_retTr (i : Nat) (hN : X.N[i]? = some x := by rfl) (hv : Vis X.env.scope x := by first | exact Or.inl rfl | exact Or.inr (Or.inl rfl) | exact Or.inr (Or.inr rfl)) (hd : (x == ("__debug__" : Str)) = false := by decide) (hcd : (x == ("__classdict__" : Str)) = false := by decide) :
    SST X W sh (.Return (some (.Name x np)) pos) (sRetTr sh i) :=
  (ps_ret (pe_var hN hv hd hcd)).dy fun D σ H ⟨G, F, ρ, r, p⟩ => by
    classical
    unfold sRetTr at p
    split at p
    · rename_i o z
      by_cases hc : mask sh o.toD = o
      · rw [if_pos hc] at p
        obtain ⟨v, fp, e1, e2, e3, e4⟩ := tree_at r z
        exact ⟨v, e1, p v fp F H (.refl _) .refl r.g r.f (by rw [hc]; exact e2) e3 e4⟩
      · rw [if_neg hc] at p; exact p.elim
    · exact p.elim
theorem set_call (C : CalT X.prog X.w X.K X.mg X.base x k n fn) (tk : Takes X W) (hr : Room k X.A)
    (ha : SA X W (e :: es) u) (hg : Gl X x := by rfl) (hdb : (x == ("__debug__" : Str)) = false := by decide) (he : starEach (e :: es) X.env = (false, eval e X.env) :: starEach es X.env := by rfl) (hpl : (backTo pos (starEach es X.env)).any (·.1) = false := by rfl) :
    SET X W (.Call (.Name x p) (e :: es) [] pos) (xCallT fn u) := by
  obtain ⟨f, fd, ps, Fo, hm, hk, hb⟩ := C.ex
  refine (pe_callS (E := WE W) Fo hr hg hm hk hb (fun σ => passAt tk σ) ha hdb he hpl).dy fun σ H Q ⟨G, F, ρ, r, p⟩ => ⟨G, F, ρ, r, ?_⟩
  unfold xCallT at p
  cases q : u ρ with
  | bad => rw [q] at p; exact p.elim
  | err z => rw [q] at p; exact p
  | ok ds =>
    rw [q] at p
    have p : PostT X.K W σ F H (fn ds) Q := p
    intro vs F1 H1 ex rp
    have hn : ds.length = n := Classical.byContradiction fun z => by
      rw [C.len ds z] at p
      exact p
    refine ⟨by rw [← rp.length]; exact hn, F1, ds, ex.s, rp, ?_⟩
    cases q2 : fn ds with
    | ok o =>
      rw [q2] at p
      exact fun v fp F2 H2 ex2 h1 h2 h3 => p v fp F2 H2 (ex.trans ex2) h1 h2 fun a ha => ⟨(h3 a ha).1, ex.h.free (h3 a ha).2⟩
    | err d =>
      rw [q2] at p
      exact fun cls dd F2 H2 ex2 xd => p cls dd F2 H2 (ex.trans ex2) xd
    | bad => rw [q2] at p; exact p
theorem sao_c {x : REnv → R O} (ha : SET X W e x) (hr : SAO X W I es t) (hs : starEach (e :: es) X.env = (false, eval e X.env) :: starEach es X.env := by rfl) : SAO X W I (e :: es) (tC x t) :=
  (pa_cons ha hr hs).dy fun σ H Q ⟨G, F, ρ, r, p⟩ => ⟨G, F, ρ, r, by
    unfold tC at p
    cases q : x ρ with
    | bad => rw [q] at p; exact p.elim
    | err z => rw [q] at p; exact p
    | ok o1 =>
      rw [q] at p
      intro v f1 F1 H1 ex h1 h2 h3
      refine ⟨G, F1, ρ, r.ext ex, PostA.bind p ex fun os vs fp F2 H2 _ ex2 o nd fr k => k (v :: vs) (f1 ++ fp) ?_ ?_ ?_⟩
      · simp only [OwRs]
        refine ⟨v, vs, f1, fp, rfl, rfl, OwR.move ex2.f o1 v f1 h1 (fun b hb => ?_), o⟩
        obtain ⟨us, hu⟩ := OwR.inH o1 v f1 h1 b hb
        rw [hu]
        exact ex2.h _ _ hu
      · refine List.nodup_append.mpr ⟨h2, nd, fun a ha b hb hab => ?_⟩
        subst hab
        obtain ⟨us, hu⟩ := OwR.inH o1 v f1 h1 a ha
        rcases (fr a hb).2 with z | ⟨i, _, es', e1, e2⟩
        · rw [hu] at z; cases z
        · obtain ⟨b, us', e3, e4, _⟩ := own_at r e1
          rw [e2] at e3
          cases e3
          rw [(h3 a ha).2] at e4
          cases e4
      · intro b hb
        rcases List.mem_append.mp hb with hb | hb
        · refine ⟨?_, .inl (h3 b hb).2⟩
          cases z : F2 b with
          | none => rfl
          | some u =>
            obtain ⟨us, hu⟩ := OwR.inH o1 v f1 h1 b hb
            have := ex2.n b u z (h3 b hb).1
            rw [hu] at this
            cases this
        · exact ⟨(fr b hb).1, (fr b hb).2.old ex.h⟩⟩
theorem seo_list {z : Str} (hm : X.mg z = none) (ha : SA X W [e] u) (hg : Gl X z := by rfl) (hv : bootBuiltins z = some (.type "list") := by decide +kernel)
    (hn : z ≠ "__name__" := by decide) (hd : (z == ("__debug__" : Str)) = false := by decide) (he : starEach [e] X.env = (false, eval e X.env) :: starEach [] X.env := by rfl) (hpl : (backTo pos (starEach [] X.env)).any (·.1) = false := by rfl) :
    SEO X W (.Call (.Name z p) [e] [] pos) (xList u) :=
  (pe_callTy call_list_of hg hm hv ha hn hd he hpl).dy fun σ H Q ⟨G, F, ρ, r, p⟩ => ⟨G, F, ρ, r, by
    unfold xList at p
    cases q : u ρ with
    | bad => rw [q] at p; exact p.elim
    | err z => rw [q] at p; exact p
    | ok ds =>
      rw [q] at p
      have p : PostO X.K W σ F H (match oList ds with | some (.lst es) => R.ok es | _ => .bad) Q := p
      intro vs F1 H1 ex rp
      unfold oList at p
      split at p
      · rename_i d es' heq
        split at heq
        · cases heq
          obtain ⟨v, rfl, h⟩ := rp.one
          obtain ⟨a, vs, rfl, h1, h2⟩ := h.lst_inv
          exact ⟨a, vs, rfl, .inl (Same.seq ex.s h1), fun l hl => p l vs F1 _ (ex.trans (Ext.newH ex.s hl)) upd_same h2 (ex.s.free hl) (ex.h.free hl)⟩
        · cases heq
          obtain ⟨v, rfl, h⟩ := rp.one
          obtain ⟨a, vs, rfl, h1, h2⟩ := h.tup_inv
          exact ⟨a, vs, rfl, .inr (Same.seqT ex.s h1), fun l hl => p l vs F1 _ (ex.trans (Ext.newH ex.s hl)) upd_same h2 (ex.s.free hl) (ex.h.free hl)⟩
        · cases heq
      · exact p.elim⟩
theorem ss_appTr (i j : Nat) (hij : i ≠ j := by decide) (hN : X.N[i]? = some x := by rfl) (hM : X.N[j]? = some y := by rfl) (hv : Vis X.env.scope x := by first | exact Or.inl rfl | exact Or.inr (Or.inl rfl) | exact Or.inr (Or.inr rfl)) (hd : (x == ("__debug__" : Str)) = false := by decide) (hcd : (x == ("__classdict__" : Str)) = false := by decide)
    (hvy : Vis X.env.scope y := by first | exact Or.inl rfl | exact Or.inr (Or.inl rfl) | exact Or.inr (Or.inr rfl)) (hdy : (y == ("__debug__" : Str)) = false := by decide) (hcy : (y == ("__classdict__" : Str)) = false := by decide)
    (hbm : ∀ {te : TE} {ta : TA}, PE X (.Name x np) te → PA X [.Name y p] ta → PE X (.Call (.Attribute (.Name x np) "append" ap) [.Name y p] [] xp) (tBM X.K "list" rAppend te ta) := by exact fun h1 h2 => pe_bm PySem.F.plainAttrs_list PySem.F.slot_list_append PySem.F.type_list_append mt_append h1 h2)
    (hse : starEach (.Name y p :: []) X.env = (false, eval (.Name y p) X.env) :: starEach [] X.env := by rfl)
    (hs : swapsWith (.Call (.Attribute (.Name x np) "append" ap) [.Name y p] [] xp) none pos.line X.env = pure false := by rfl) : SS X W (.Expr (.Call (.Attribute (.Name x np) "append" ap) [.Name y p] [] xp) pos) (sAppTr i j) :=
  (ps_expr (hbm (pe_var hN hv hd hcd) (pa_cons (pe_var hM hvy hdy hcy) pa_nil hse)) hs).dy fun D σ H ⟨G, F, ρ, r, p⟩ => by
    unfold sAppTr at p
    split at p
    case h_2 => exact p.elim
    rename_i os o z1 z2
    by_cases hl : os.length < sizeLine
    case neg => rw [if_neg hl] at p; exact p.elim
    rw [if_pos hl] at p
    obtain ⟨v1, f1, a1, a2, a3, a4⟩ := tree_at r z1
    obtain ⟨v2, f2, b1, b2, b3, b4⟩ := tree_at r z2
    have a2' := a2
    simp only [OwR] at a2'
    obtain ⟨a, vs, fq, rfl, ha, rfl, hos⟩ := a2'
    obtain ⟨nda, ndq⟩ := List.nodup_cons.mp a3
    have dis : ∀ b ∈ a :: fq, b ∉ f2 := fun b hb hb2 => r.ap i j _ _ _ _ b hij z1 z2 a1 b1 ⟨_, _, rfl, a2, hb⟩ ⟨_, _, rfl, b2, hb2⟩
    have outF : ∀ b ∈ f2, b ≠ a := fun b hb e => dis a List.mem_cons_self (e ▸ hb)
    have nfq : ∀ b ∈ fq, b ≠ a := fun b hb e => nda (e ▸ hb)
    refine ⟨.ref a, a1, .inl ⟨rfl, _, SqL.of ha⟩, v2, b1, a, vs, v2, rfl, rfl, ha, by rw [← hos.length]; exact hl, ?_⟩
    have rj := r.unset (i := j) (x := some v2)
    rw [set_same b1] at rj
    have es : σ.set i (some (.ref a)) = σ := set_same a1
    have nab : ∀ (m : Nat) (s : Sl) (x : Option V) (b : Addr), m ≠ i → (ρ.set j .un)[m]? = some s → σ[m]? = some x → Owned X.K F H s x b → b ∉ a :: fq ∧ b ∉ f2 := fun m s x b hm h1 h2 ob => by
      by_cases hmj : m = j
      · subst hmj
        have hjl : m < ρ.length := (List.getElem?_eq_some_iff.mp z2).1
        rw [List.getElem?_set_self hjl] at h1
        cases h1
        exact ob.elim
      · rw [List.getElem?_set_ne (fun e => hmj e.symm)] at h1
        exact ⟨fun hb => r.ap m i _ _ _ _ b hm h1 z1 h2 a1 ob ⟨_, _, rfl, a2, hb⟩, fun hb => r.ap m j _ _ _ _ b hmj h1 z2 h2 b1 ob ⟨_, _, rfl, b2, hb⟩⟩
    have new : OwR X.K F (upd H a (.lst (vs ++ [v2]))) (.l (os ++ [o])) (.ref a) (a :: (fq ++ f2)) := by
      simp only [OwR]
      refine ⟨a, vs ++ [v2], fq ++ f2, rfl, upd_same, rfl, OwRs.append (OwRs.move (.refl _) os vs fq hos fun b hb => upd_ne (nfq b hb)) (OwRs.one (OwR.move (.refl _) o v2 f2 b2 fun b hb => upd_ne (outF b hb)))⟩
    have hfa := a4 a List.mem_cons_self
    have q := rj.put (F' := F) (H' := upd H a (.lst (vs ++ [v2]))) (i := i) (s' := .tree (.l (os ++ [o]))) (x' := some (.ref a)) (fun b u q => by rw [upd_ne (ne_of_none q hfa.2)]; exact rj.g _ _ q) (fun b u q => by rw [upd_ne (ne_of_none q hfa.1)]; exact rj.f _ _ q) (.refl _)
      (fun m s x b hm h1 h2 ob => ⟨upd_ne fun e => (nab m s x b hm h1 h2 ob).1 (e ▸ List.mem_cons_self), ((rj.at_ m s x h1 h2).own ob).2.1⟩)
      ⟨.ref a, a :: (fq ++ f2), rfl, new, ?_, ?_⟩ fun b ob m s x hm h1 h2 ob2 => ?_
    · rw [es] at q
      exact p σ F _ (.refl _) .refl q
    · refine List.nodup_cons.mpr ⟨fun h => ?_, List.nodup_append.mpr ⟨ndq, b3, fun c hc d hd hcd => ?_⟩⟩
      · rcases List.mem_append.mp h with h | h
        · exact nda h
        · exact outF a h rfl
      · subst hcd
        exact dis c (List.mem_cons_of_mem _ hc) hd
    · intro b hb
      rcases List.mem_cons.mp hb with rfl | hb
      · exact hfa
      · rcases List.mem_append.mp hb with hb | hb
        · exact a4 b (List.mem_cons_of_mem _ hb)
        · exact b4 b hb
    · obtain ⟨v', fp', c1, c2, c3⟩ := ob
      cases c1
      rw [OwR.uniq _ _ fp' _ c2 new] at c3
      have := nab m s x b hm h1 h2 ob2
      rcases List.mem_cons.mp c3 with rfl | c3
      · exact this.1 List.mem_cons_self
      · rcases List.mem_append.mp c3 with c3 | c3
        · exact this.1 (List.mem_cons_of_mem _ c3)
        · exact this.2 c3
end
end Dy

set_option Elab.async false
set_option linter.all false
set_option maxRecDepth 100000
/-! ### for t in x: for p in t: p.clear(), x a list of trees of one's own -/
namespace Dy
open PySem PySem.Spec PyProof.Rows L2
def okCl : O → Bool
  | .t us => us.all fun o => o.unL.isSome
  | _ => false
def sClear2 (i j k : Nat) : REnv → SR := fun ρ => match ρ[i]? with
  | some (.tree (.l os)) => if os.all okCl = true ∧ j < ρ.length ∧ k < ρ.length then .next (((ρ.set i .un).set j .un).set k .un) else .bad
  | _ => .bad
section
variable {K : PySem.W.Frag} {F H : Hp}
theorem OwRs.leaf1 : ∀ {os : List O} {vs : List V} {fp : List Addr}, OwRs K F H os vs fp → (os.all fun o => o.unL.isSome) = true → ∀ (n : Nat) (w : V), vs[n]? = some w → ∃ b : Addr, w = .ref b ∧ b ∈ fp
  | [], vs, fp, h, _, n, w, e => by
    simp only [OwRs] at h
    rw [h.1] at e
    simp at e
  | o :: os, vs, fp, h, c, n, w, e => by
    simp only [OwRs] at h
    obtain ⟨v, r, f1, f2, rfl, rfl, h3, h4⟩ := h
    rw [List.all_cons, Bool.and_eq_true] at c
    obtain ⟨ds, hds⟩ := Option.isSome_iff_exists.mp c.1
    rw [of_unL hds] at h3
    cases n with
    | zero =>
      obtain ⟨a, ws, e1, e2, e3, e4⟩ := h3.inL
      simp at e
      exact ⟨a, by rw [← e, e1], by rw [e4]; simp⟩
    | succ n =>
      obtain ⟨b, q1, q2⟩ := OwRs.leaf1 h4 c.2 n w (by simpa using e)
      exact ⟨b, q1, List.mem_append_right _ q2⟩
theorem OwRs.leafs : ∀ {os : List O} {vs : List V} {fp : List Addr}, OwRs K F H os vs fp → os.all okCl = true → ∀ (n : Nat) (w : V), vs[n]? = some w → ∃ (p : Addr) (us : List V), w = .ref p ∧ F p = some (.tup us) ∧ ∀ (m : Nat) (u : V), us[m]? = some u → ∃ b : Addr, u = .ref b ∧ b ∈ fp
  | [], vs, fp, h, _, n, w, e => by
    simp only [OwRs] at h
    rw [h.1] at e
    simp at e
  | o :: os, vs, fp, h, c, n, w, e => by
    simp only [OwRs] at h
    obtain ⟨v, r, f1, f2, rfl, rfl, h3, h4⟩ := h
    rw [List.all_cons, Bool.and_eq_true] at c
    cases n with
    | zero =>
      simp at e
      subst e
      cases o with
      | t us =>
        simp only [OwR] at h3
        obtain ⟨a, ws, e1, e2, e3⟩ := h3
        refine ⟨a, ws, e1, e2, fun m u hu => ?_⟩
        obtain ⟨b, q1, q2⟩ := OwRs.leaf1 e3 c.1 m u hu
        exact ⟨b, q1, List.mem_append_left _ q2⟩
      | v d => exact absurd c.1 (by simp [okCl])
      | l us => exact absurd c.1 (by simp [okCl])
    | succ n =>
      obtain ⟨p, us, q1, q2, q3⟩ := OwRs.leafs h4 c.2 n w (by simpa using e)
      exact ⟨p, us, q1, q2, fun m u hu => by
        obtain ⟨b, z1, z2⟩ := q3 m u hu
        exact ⟨b, z1, List.mem_append_right _ z2⟩⟩
/-- what holds while the lists fq are emptied -/
structure ClI (K : PySem.W.Frag) (G F : Hp) (ρ : REnv) (i : Nat) (a : Addr) (vs : List V) (fq : List Addr) (σ : St) (H : Hp) : Prop where
  r : RepE K G F H σ ρ
  s : σ[i]? = some (some (.ref a))
  a : H a = some (.lst vs)
  q : ∀ b ∈ fq, ∃ ws, H b = some (.lst ws)
  n : ∀ (m : Nat) (s : Sl) (x : Option V) (b : Addr), ρ[m]? = some s → σ[m]? = some x → Owned K F H s x b → b ∉ fq
theorem ClI.set {G : Hp} {ρ : REnv} {i j : Nat} {a : Addr} {vs : List V} {fq : List Addr} {σ : St} {v : V} (h : ClI K G F ρ i a vs fq σ H) (hj : ρ[j]? = some .un) (hij : i ≠ j) : ClI K G F ρ i a vs fq (σ.set j (some v)) H := by
  have r2 := h.r.unset (i := j) (x := some v)
  rw [set_same hj] at r2
  refine ⟨r2, by rw [List.getElem?_set_ne (fun e => hij e.symm)]; exact h.s, h.a, h.q, fun m s x b h1 h2 ob => ?_⟩
  by_cases hm : m = j
  · subst hm
    rw [hj] at h1
    cases h1
    exact ob.elim
  · rw [List.getElem?_set_ne (fun e => hm e.symm)] at h2
    exact h.n m s x b h1 h2 ob
theorem ClI.poke {G : Hp} {ρ : REnv} {i : Nat} {a b : Addr} {vs ws : List V} {fq : List Addr} {σ : St} (h : ClI K G F ρ i a vs fq σ H) (hb : b ∈ fq) (ha : a ∉ fq) (hf : F b = none) (hg : G b = none) : ClI K G F ρ i a vs fq σ (upd H b (.lst ws)) := by
  have kp : ∀ (m : Nat) (s : Sl) (x : Option V) (c : Addr), ρ[m]? = some s → σ[m]? = some x → Owned K F H s x c → upd H b (.lst ws) c = H c ∧ F c = none := fun m s x c h1 h2 oc =>
    ⟨upd_ne fun e => h.n m s x c h1 h2 oc (e ▸ hb), ((h.r.at_ m s x h1 h2).own oc).2.1⟩
  refine ⟨h.r.keep (fun c u q => by rw [upd_ne (ne_of_none q hg)]; exact h.r.g _ _ q) (fun c u q => by rw [upd_ne (ne_of_none q hf)]; exact h.r.f _ _ q) (.refl _) kp, h.s, by rw [upd_ne (fun e : a = b => ha (by rw [e]; exact hb))]; exact h.a, fun c hc => ?_, fun m s x c h1 h2 oc => ?_⟩
  · by_cases e : c = b
    · rw [e]; exact ⟨ws, upd_same⟩
    · rw [upd_ne e]; exact h.q c hc
  · exact h.n m s x c h1 h2 (((h.r.at_ m s x h1 h2).move (F' := F) (H' := upd H b (.lst ws)) (.refl _) fun c oc => kp m s x c h1 h2 oc).2 c oc)
end
section
variable {X : Cx} {W : WX} {pos p1 p2 p3 p4 p5 p6 p7 p8 p9 : Pos} {x y z : Str}
theorem ss_clear2 (i j k : Nat) (hij : i ≠ j := by decide) (hik : i ≠ k := by decide) (hjk : j ≠ k := by decide) (hp : PassesOwn (model X.prog X.w) X.A X.env X.xe) (hc : X.calm = true) (hN : X.N.Nodup) (hi : X.N[i]? = some x := by rfl) (hj : X.N[j]? = some y := by rfl) (hk : X.N[k]? = some z := by rfl)
    (hvx : Vis X.env.scope x := by first | exact Or.inl rfl | exact Or.inr (Or.inl rfl) | exact Or.inr (Or.inr rfl)) (hdx : (x == ("__debug__" : Str)) = false := by decide) (hcx : (x == ("__classdict__" : Str)) = false := by decide)
    (hvy : Vis X.env.scope y := by first | exact Or.inl rfl | exact Or.inr (Or.inl rfl) | exact Or.inr (Or.inr rfl)) (hdy : (y == ("__debug__" : Str)) = false := by decide) (hcy : (y == ("__classdict__" : Str)) = false := by decide)
    (hvz : Vis X.env.scope z := by first | exact Or.inl rfl | exact Or.inr (Or.inl rfl) | exact Or.inr (Or.inr rfl)) (hdz : (z == ("__debug__" : Str)) = false := by decide) (hcz : (z == ("__classdict__" : Str)) = false := by decide)
    (hly : Loc X.env.scope y := by first | exact Or.inl rfl | exact Or.inr rfl) (hlz : Loc X.env.scope z := by first | exact Or.inl rfl | exact Or.inr rfl)
    (hbm : ∀ {te : TE}, PE X (.Name z p5) te → PE X (.Call (.Attribute (.Name z p5) "clear" p6) [] [] p7) (tBM0 X.K "list" rClear te) := by exact fun h => pe_bm0 PySem.F.plainAttrs_list PySem.F.slot_list_clear PySem.F.type_list_clear mt_clear h)
    (hsw : swapsWith (.Call (.Attribute (.Name z p5) "clear" p6) [] [] p7) none p8.line X.env = pure false := by rfl)
    (hfy : X.fn y = true ∨ X.env.scope.names.lookup y = some .local := by first | exact .inl rfl | exact .inr rfl | assumption) (hfz : X.fn z = true ∨ X.env.scope.names.lookup z = some .local := by first | exact .inl rfl | exact .inr rfl | assumption)
    (hs : ∀ v, foldedSetIterable (.Name x p2) X.env v = pure v := by intro _; rfl) (hs2 : ∀ v, foldedSetIterable (.Name y p4) X.env v = pure v := by intro _; rfl) :
    SS X W (.For (.Name y p1) (.Name x p2) [.For (.Name z p3) (.Name y p4) [.Expr (.Call (.Attribute (.Name z p5) "clear" p6) [] [] p7) p8] [] p9] [] pos) (sClear2 i j k) := by
  refine (ps_for hp hc (pi_any (pe_var hi hvx hdx hcx)) (pg_name hN hj hly hfy) (pss_one (ps_for hp hc (pi_any (pe_var hj hvy hdy hcy)) (pg_name hN hk hlz hfz) (pss_one (ps_expr (hbm (pe_var hk hvz hdz hcz)) hsw)) hs2)) hs).dy fun D σ H ⟨G, F, ρ, r, p⟩ => ?_
  unfold sClear2 at p
  split at p
  case h_2 => exact p.elim
  rename_i os hz
  by_cases hcc : os.all okCl = true ∧ j < ρ.length ∧ k < ρ.length
  case neg => rw [if_neg hcc] at p; exact p.elim
  rw [if_pos hcc] at p
  obtain ⟨hall, hjr, hkr⟩ := hcc
  obtain ⟨v, fp, e1, e2, e3, e4⟩ := tree_at r hz
  have e2' := e2
  simp only [OwR] at e2'
  obtain ⟨a, vs, fq, rfl, ha, rfl, hos⟩ := e2'
  obtain ⟨nda, ndq⟩ := List.nodup_cons.mp e3
  have lf := hos.leafs hall
  have hil : i < ρ.length := (List.getElem?_eq_some_iff.mp hz).1
  generalize hρ : ((ρ.set i .un).set j .un).set k .un = ρ0 at p
  have keepS : ∀ {σ : St} {n : Nat}, n < σ.length → σ.set n (σ[n]?.getD none) = σ := fun {σ n} h => by
    rw [List.getElem?_eq_getElem h]
    exact List.set_getElem_self h
  have hlen := r.len
  have r0 : RepE X.K G F H σ ρ0 := by
    have q := ((r.unset (i := i) (x := σ[i]?.getD none)).unset (i := j) (x := (σ.set i (σ[i]?.getD none))[j]?.getD none))
    rw [keepS (σ := σ) (by omega)] at q
    rw [keepS (σ := σ) (by omega)] at q
    have q := q.unset (i := k) (x := σ[k]?.getD none)
    rw [keepS (σ := σ) (by omega), hρ] at q
    exact q
  have un_i : ρ0[i]? = some .un := by
    rw [← hρ, List.getElem?_set_ne (fun e => hik e.symm), List.getElem?_set_ne (fun e => hij e.symm)]
    exact List.getElem?_set_self hil
  have un_j : ρ0[j]? = some .un := by
    rw [← hρ, List.getElem?_set_ne (fun e => hjk e.symm)]
    exact List.getElem?_set_self (by rw [List.length_set]; exact hjr)
  have un_k : ρ0[k]? = some .un := by
    rw [← hρ]
    exact List.getElem?_set_self (by rw [List.length_set, List.length_set]; exact hkr)
  have c0 : ClI X.K G F ρ0 i a vs fq σ H := by
    refine ⟨r0, e1, ha, fun b hb => OwRs.inH os vs fq hos b hb, fun m s x b h1 h2 ob hb => ?_⟩
    by_cases hm : m = i
    · rw [hm, un_i] at h1; cases h1; exact ob.elim
    · by_cases hm2 : m = j
      · rw [hm2, un_j] at h1; cases h1; exact ob.elim
      · by_cases hm3 : m = k
        · rw [hm3, un_k] at h1; cases h1; exact ob.elim
        · rw [← hρ, List.getElem?_set_ne (fun e => hm3 e.symm), List.getElem?_set_ne (fun e => hm2 e.symm), List.getElem?_set_ne (fun e => hm e.symm)] at h1
          exact r.ap m i s _ x _ b hm h1 hz h2 e1 ob ⟨_, _, rfl, e2, List.mem_cons_of_mem _ hb⟩
  have kl : k < ρ0.length := (List.getElem?_eq_some_iff.mp un_k).1
  have jl : j < ρ0.length := (List.getElem?_eq_some_iff.mp un_j).1
  refine ⟨.ref a, e1, .inl ⟨a, rfl, ⟨vs, SqL.of ha⟩, ?_⟩⟩
  refine ⟨fun n m σ' H' => m = vs.length - n ∧ n ≤ vs.length ∧ ClI X.K G F ρ0 i a vs fq σ' H', ⟨vs.length, by simp, Nat.zero_le _, c0⟩, ?_⟩
  rintro n m σ1 H1 ⟨rfl, hn, c1⟩
  by_cases hlt : n < vs.length
  · refine .inr ⟨⟨vs, vs[n], SqL.of c1.a, List.getElem?_eq_getElem hlt⟩, ClI X.K G F ρ0 i a vs fq, fun σ' H' q => ⟨vs.length - (n + 1), by omega, rfl, hlt, q⟩, fun x1 H2 yy => ?_⟩
    obtain ⟨rfl, yy⟩ := yy
    have hx := yy vs (SqL.of c1.a)
    obtain ⟨pa, us, rfl, hpa, hus⟩ := lf n x1 hx
    have c2 := c1.set (j := j) (v := .ref pa) un_j hij
    have hjs : j < σ1.length := by rw [← c1.r.len]; exact jl
    have hs2 : (σ1.set j (some (.ref pa)))[j]? = some (some (.ref pa)) := List.getElem?_set_self hjs
    refine ⟨.ref pa, hs2, .inr (.inl ⟨pa, rfl, ⟨us, SqT.of (c1.r.f _ _ hpa)⟩, ?_⟩)⟩
    refine ⟨fun n m σ' H' => m = us.length - n ∧ n ≤ us.length ∧ ClI X.K G F ρ0 i a vs fq σ' H', ⟨us.length, by simp, Nat.zero_le _, c2⟩, ?_⟩
    rintro n2 m2 σ2 H3 ⟨rfl, hn2, c3⟩
    have tupH : SqT X.K H3 pa us := SqT.of (c3.r.f _ _ hpa)
    by_cases hlt2 : n2 < us.length
    · refine .inr ⟨⟨us, us[n2], tupH, List.getElem?_eq_getElem hlt2⟩, ClI X.K G F ρ0 i a vs fq, fun σ' H' q => ⟨us.length - (n2 + 1), by omega, rfl, hlt2, q⟩, fun x2 H4 yy => ?_⟩
      obtain ⟨rfl, yy⟩ := yy
      have hx2 := yy us tupH
      obtain ⟨b, rfl, hb⟩ := hus n2 x2 hx2
      have c4 := c3.set (j := k) (v := .ref b) un_k hik
      have hks : k < σ2.length := by rw [← c3.r.len]; exact kl
      obtain ⟨ws, hws⟩ := c4.q b hb
      have fb := e4 b (List.mem_cons_of_mem _ hb)
      exact ⟨.ref b, List.getElem?_set_self hks, .inl ⟨rfl, _, SqL.of hws⟩, b, ws, rfl, rfl, hws, c4.poke hb nda fb.1 fb.2⟩
    · exact .inl ⟨⟨us, tupH, by omega⟩, c3⟩
  · exact .inl ⟨⟨vs, SqL.of c1.a, by omega⟩, p σ1 F H1 (.refl _) .refl c1.r⟩
end
section
variable {ρ : REnv} {N : REnv → Prop} {T : D → Prop} {E : D → REnv → Prop} {P E' : D → Prop} {g : REnv → SR}
theorem wp_varP {i : Nat} {w : V} {d : D} (e : ρ[i]? = some (.pin w (.v d))) (h : P d) : (eVarP i ρ).wp P E' := by
  unfold eVarP
  rw [e]
  exact h
theorem sp_retJ {i : Nat} {w : V} {d : D} (e : ρ[i]? = some (.pin w (.v d))) (h : T d) : (sRetJ i w ρ).wp N T E := by
  classical
  unfold sRetJ
  rw [e]
  show (if w = w then SR.ret d else .bad).wp N T E
  rw [if_pos rfl]
  exact h
theorem sp_retTr {sh : Sh} {i : Nat} {o : O} (e : ρ[i]? = some (.tree o)) (h1 : mask sh o.toD = o) (h : T o.toD) : (sRetTr sh i ρ).wp N T E := by
  classical
  unfold sRetTr
  rw [e]
  show (if mask sh o.toD = o then SR.ret o.toD else .bad).wp N T E
  rw [if_pos h1]
  exact h
theorem sp_retJT {sh : Sh} {fn : V → D → R D} {t : REnv → R (List O)} (h : (t ρ).wp (fun os => os.length ≤ sizeLine ∧ mask sh (.tup (O.toDs os)) = .t os ∧ ∃ r, (∀ v, fn v (.tup (O.toDs os)) = r) ∧ r.wp (fun _ => T (.tup (O.toDs os))) (fun e => E e ρ)) (fun e => E e ρ)) : (sRetJT sh fn t ρ).wp N T E := by
  classical
  unfold sRetJT
  refine wp_toS (h.post fun os ⟨h1, h2, r, h3, h4⟩ => ?_)
  rw [if_pos ⟨h1, h2⟩, allV_eq h3]
  exact wp_toS h4
theorem wp_xCallT {fn : List D → R O} {t : REnv → R (List D)} {Q : O → Prop} (h : (t ρ).wp (fun ds => (fn ds).wp Q E') E') : (xCallT fn t ρ).wp Q E' := wp_bind h
theorem wp_tC {Q : List O → Prop} {x : REnv → R O} {t : REnv → R (List O)} (h : (x ρ).wp (fun o => (t ρ).wp (fun os => Q (o :: os)) E') E') : (tC x t ρ).wp Q E' := wp_bind (h.post fun d h1 => wp_bind (h1.post fun os h2 => h2))
theorem wp_xList {t : REnv → R (List D)} {Q : List D → Prop} (h : (t ρ).wp (fun ds => Got (oList ds) fun d => IsL d Q) E') : (xList t ρ).wp Q E' := by
  refine wp_bind (h.post ?_)
  rintro ds ⟨d, e, es, rfl, h2⟩
  rw [e]
  exact h2
theorem sp_appTr {i j : Nat} {os : List O} {o : O} (e1 : ρ[i]? = some (.tree (.l os))) (e2 : ρ[j]? = some (.tree o)) (hl : os.length < sizeLine) (h : Upd ρ j .un fun ρ' => Upd ρ' i (.tree (.l (os ++ [o]))) N) : (sAppTr i j ρ).wp N T E := by
  unfold sAppTr
  rw [e1, e2]
  show (if os.length < sizeLine then SR.next _ else .bad).wp N T E
  rw [if_pos hl]
  exact h
theorem sp_clear2 {i j k : Nat} {os : List O} (e : ρ[i]? = some (.tree (.l os))) (h1 : os.all okCl = true) (h2 : j < ρ.length) (h3 : k < ρ.length) (h : Upd ρ i .un fun ρ' => Upd ρ' j .un fun ρ' => Upd ρ' k .un N) : (sClear2 i j k ρ).wp N T E := by
  unfold sClear2
  rw [e]
  show (if os.all okCl = true ∧ j < ρ.length ∧ k < ρ.length then SR.next _ else .bad).wp N T E
  rw [if_pos ⟨h1, h2, h3⟩]
  exact h
theorem wp_fnJ {m : Nat} {g : V → REnv → SR} {w : V} {d : D} {P : D → Prop} {E0 : D → Prop} (h : (g w (.pin w (.v d) :: List.replicate (m - 1) .un)).wp (fun _ => False) P (fun e _ => E0 e)) : (fnJ m g w d).wp P E0 := by
  unfold fnJ
  cases q : g w (.pin w (.v d) :: List.replicate (m - 1) .un) with
  | next ρ => rw [q] at h; exact h.elim
  | ret d' => rw [q] at h; exact h
  | err e ρ => rw [q] at h; exact h
  | bad => rw [q] at h; exact h.elim
end
end Dy

set_option Elab.async false
set_option linter.all false
set_option maxRecDepth 100000
set_option maxHeartbeats 4000000
namespace Gn
open PySem PySem.Spec PyProof.Rows L2 Dy
/-! ### what the defs make of data -/
def xks : List Str := ["NoYard"]
def xcs : List Str := ["YardError", "NoNumber", "NoPlate", "NoSun", "NoYard", "NotLit", "NoHour", "TooMany", "NoRow", "NoName", "NoSay", "NoBack"]
noncomputable def f_triple_sum : List D → R D := fnD 2 2 (sRet (eTup (aCons (eBin oAdd (eBin oIx (eVar 0) (eC (.int 0))) (eBin oIx (eVar 1) (eC (.int 0)))) (aCons (eBin oAdd (eBin oIx (eVar 0) (eC (.int 1))) (eBin oIx (eVar 1) (eC (.int 1)))) (aCons (eBin oAdd (eBin oIx (eVar 0) (eC (.int 2))) (eBin oIx (eVar 1) (eC (.int 2)))) (aNil))))))
noncomputable def f_triple_times : List D → R D := fnD 2 2 (sRet (eTup (aCons (eBin oMul (eBin oIx (eVar 0) (eC (.int 0))) (eVar 1)) (aCons (eBin oMul (eBin oIx (eVar 0) (eC (.int 1))) (eVar 1)) (aCons (eBin oMul (eBin oIx (eVar 0) (eC (.int 2))) (eVar 1)) (aNil))))))
noncomputable def f_in_reach : List D → R D := fnD 1 3 (sFor (iD (eVar 0)) (bName 1) (sFor (iD (eVar 1)) (bName 2) (sIf (eTest (eBin oGt (eN oAbs (aCons (eVar 2) (aNil))) (eC (.int 1000000000)))) (sRaiseF "NoYard" "name" (aCons (eC .non) (aNil))) (sSkip))))
noncomputable def f_looked_through : V → D → R D := fnJ 9 (fun w => sSeq (sNR (sAsg (eVarP 0) (bSeq 3 (bCons (bName 1) (bCons (bName 2) (bCons (bName 3) (bNil)))))))
    (sSeq (sNR (sExpr (eCall f_in_reach (aCons (eComp [7, 8] (iD (eVar 1)) (bSeq 2 (bCons (bName 7) (bCons (bName 8) (bNil)))) (eYes) (eVar 8)) (aNil)))))
    (sSeq (sNR (sFor (iD (eVar 2)) (bSeq 2 (bCons (bName 4) (bCons (bName 5) (bNil)))) (sExpr (eCall f_in_reach (aCons (eVar 5) (aNil))))))
    (sSeq (sNR (sFor (iD (eVar 3)) (bSeq 3 (bCons (bName 4) (bCons (bName 5) (bCons (bName 6) (bNil))))) (sExpr (eCall f_in_reach (aCons (eBin oAdd (eVar 5) (eTup (aCons (eVar 6) (aNil)))) (aNil))))))
    (sRetJ 0 w)))))
noncomputable def f_moved_plate : List D → R D := fnD 2 2 (sRet (eTup (aCons (eCall f_triple_sum (aCons (eBin oIx (eVar 0) (eC (.int 0))) (aCons (eVar 1) (aNil)))) (aCons (eBin oIx (eVar 0) (eC (.int 1))) (aCons (eBin oIx (eVar 0) (eC (.int 2))) (aNil))))))
noncomputable def f_moved_yard : List D → R O := fnT 2 8 (.t [.l, .l, .l]) (sSeq (sNR (sAsg (eVar 0) (bSeq 3 (bCons (bName 2) (bCons (bName 3) (bCons (bName 4) (bNil)))))))
    (sRetJT (.t [.l, .l, .l]) f_looked_through (tN (xList (aCons (eVar 2) (aNil))) (tN (cCompQ [5, 6] (iD (eVar 3)) (bSeq 2 (bCons (bName 5) (bCons (bName 6) (bNil)))) (eYes) (eTup (aCons (eVar 5) (aCons (eCall f_moved_plate (aCons (eVar 6) (aCons (eVar 1) (aNil)))) (aNil))))) (tN (cCompQ [5, 6, 7] (iD (eVar 4)) (bSeq 3 (bCons (bName 5) (bCons (bName 6) (bCons (bName 7) (bNil))))) (eYes) (eTup (aCons (eVar 5) (aCons (eCall f_moved_plate (aCons (eVar 6) (aCons (eVar 1) (aNil)))) (aCons (eCall f_triple_sum (aCons (eVar 7) (aCons (eVar 1) (aNil)))) (aNil)))))) (tNil))))))
noncomputable def f_greater_plate : List D → R D := fnD 2 3 (sRet (eN oTuple (aCons (eComp [2] (iD (eVar 0)) (bName 2) (eYes) (eCall f_triple_times (aCons (eVar 2) (aCons (eVar 1) (aNil))))) (aNil))))
noncomputable def f_greater_yard : List D → R O := fnT 2 8 (.t [.l, .l, .l]) (sSeq (sNR (sAsg (eVar 0) (bSeq 3 (bCons (bName 2) (bCons (bName 3) (bCons (bName 4) (bNil)))))))
    (sRetJT (.t [.l, .l, .l]) f_looked_through (tN (xList (aCons (eVar 2) (aNil))) (tN (cCompQ [5, 6] (iD (eVar 3)) (bSeq 2 (bCons (bName 5) (bCons (bName 6) (bNil)))) (eYes) (eTup (aCons (eVar 5) (aCons (eCall f_greater_plate (aCons (eVar 6) (aCons (eVar 1) (aNil)))) (aNil))))) (tN (cCompQ [5, 6, 7] (iD (eVar 4)) (bSeq 3 (bCons (bName 5) (bCons (bName 6) (bCons (bName 7) (bNil))))) (eYes) (eTup (aCons (eVar 5) (aCons (eCall f_greater_plate (aCons (eVar 6) (aCons (eVar 1) (aNil)))) (aCons (eCall f_triple_times (aCons (eVar 7) (aCons (eVar 1) (aNil)))) (aNil)))))) (tNil))))))
noncomputable def f__law_cell_at : List D → R D := fnD 2 2 (sSeq (sIf (eTest (eBin oLt (eVar 1) (eN oLen (aCons (eVar 0) (aNil))))) (sRet (eBin oIx (eVar 0) (eVar 1))) (sSkip))
    (sRet (eC (.int 0))))
noncomputable def f__law_draw : List D → R D := fnD 3 6 (sSeq (sIf (eTest (eBin oGe (eVar 0) (eBin oPow (eC (.int 10)) (eC (.int 18))))) (sSeq (sSet 3 (eVar 0))
     (sSeq (sFor (iArgs range1 (aCons (eVar 1) (aNil))) (bName 4) (sSet 3 (eBin oDiv (eVar 3) (eBin oPow (eC (.int 10)) (eC (.int 10))))))
     (sIf (eTest (eBin oGt (eVar 3) (eC (.int 0)))) (sRet (eBin oMod (eBin oMod (eVar 3) (eBin oPow (eC (.int 10)) (eC (.int 10)))) (eVar 2))) (sSkip)))) (sSkip))
    (sSeq (sSet 5 (eBin oMod (eBin oMul (eBin oAdd (eBin oAdd (eBin oAdd (eBin oMod (eVar 0) (eC (.int 2147483647))) (eBin oMul (eBin oMul (eC (.int 7919)) (eVar 1)) (eVar 1))) (eBin oMul (eC (.int 31)) (eVar 1))) (eC (.int 1))) (eC (.int 48271))) (eC (.int 2147483647))))
    (sSeq (sSet 5 (eBin oMod (eBin oAdd (eBin oAdd (eBin oMul (eVar 5) (eVar 5)) (eBin oMul (eC (.int 69621)) (eVar 1))) (eC (.int 7))) (eC (.int 2147483629))))
    (sRet (eBin oMod (eBin oMod (eBin oMul (eVar 5) (eVar 5)) (eC (.int 2147483587))) (eVar 2))))))
noncomputable def f__law_number : List D → R D := fnD 2 3 (sSeq (sSet 2 (eCall f__law_draw (aCons (eVar 0) (aCons (eBin oMul (eC (.int 2)) (eVar 1)) (aCons (eC (.int 9)) (aNil))))))
    (sSeq (sIf (eTest (eBin oLt (eVar 2) (eC (.int 6)))) (sRet (eBin oSub (eCall f__law_draw (aCons (eVar 0) (aCons (eBin oAdd (eBin oMul (eC (.int 2)) (eVar 1)) (eC (.int 1))) (aCons (eC (.int 9)) (aNil))))) (eC (.int 4)))) (sSkip))
    (sSeq (sIf (eTest (eBin oLt (eVar 2) (eC (.int 8)))) (sRet (eBin oSub (eCall f__law_draw (aCons (eVar 0) (aCons (eBin oAdd (eBin oMul (eC (.int 2)) (eVar 1)) (eC (.int 1))) (aCons (eC (.int 201)) (aNil))))) (eC (.int 100)))) (sSkip))
    (sRet (eBin oMul (eBin oIx (eLst (aCons (eC (.int 1)) (aCons (eUn oNeg (eC (.int 1))) (aNil)))) (eCall f__law_draw (aCons (eVar 0) (aCons (eBin oAdd (eBin oMul (eC (.int 2)) (eVar 1)) (eC (.int 1))) (aCons (eC (.int 2)) (aNil)))))) (eBin oSub (eBin oSub (eBin oPow (eC (.int 10)) (eC (.int 9))) (eBin oDiv (eCall f__law_draw (aCons (eVar 0) (aCons (eBin oMul (eC (.int 2)) (eVar 1)) (aCons (eC (.int 900)) (aNil))))) (eC (.int 9)))) (eC (.int 20))))))))
noncomputable def f__law_triple : List D → R D := fnD 2 2 (sRet (eTup (aCons (eCall f__law_number (aCons (eVar 0) (aCons (eVar 1) (aNil)))) (aCons (eCall f__law_number (aCons (eVar 0) (aCons (eBin oAdd (eVar 1) (eC (.int 1))) (aNil)))) (aCons (eCall f__law_number (aCons (eVar 0) (aCons (eBin oAdd (eVar 1) (eC (.int 2))) (aNil)))) (aNil))))))
noncomputable def f__law_cross : List D → R D := fnD 2 8 (sSeq (sAsg (eVar 0) (bSeq 3 (bCons (bName 2) (bCons (bName 3) (bCons (bName 4) (bNil))))))
    (sSeq (sAsg (eVar 1) (bSeq 3 (bCons (bName 5) (bCons (bName 6) (bCons (bName 7) (bNil))))))
    (sRet (eTup (aCons (eBin oSub (eBin oMul (eVar 3) (eVar 7)) (eBin oMul (eVar 4) (eVar 6))) (aCons (eBin oSub (eBin oMul (eVar 4) (eVar 5)) (eBin oMul (eVar 2) (eVar 7))) (aCons (eBin oSub (eBin oMul (eVar 2) (eVar 6)) (eBin oMul (eVar 3) (eVar 5))) (aNil))))))))
noncomputable def f__law_dot : List D → R D := fnD 2 2 (sRet (eBin oAdd (eBin oAdd (eBin oMul (eBin oIx (eVar 0) (eC (.int 0))) (eBin oIx (eVar 1) (eC (.int 0)))) (eBin oMul (eBin oIx (eVar 0) (eC (.int 1))) (eBin oIx (eVar 1) (eC (.int 1))))) (eBin oMul (eBin oIx (eVar 0) (eC (.int 2))) (eBin oIx (eVar 1) (eC (.int 2))))))
noncomputable def f__law_plate : List D → R D := fnD 2 5 (sSeq (sSet 2 (eCall f__law_triple (aCons (eVar 0) (aCons (eBin oAdd (eVar 1) (eC (.int 3))) (aNil)))))
    (sSeq (sIf (eTest (eBin oEq (eVar 2) (eTup (aCons (eC (.int 0)) (aCons (eC (.int 0)) (aCons (eC (.int 0)) (aNil))))))) (sSet 2 (eTup (aCons (eC (.int 1)) (aCons (eC (.int 0)) (aCons (eC (.int 0)) (aNil)))))) (sSkip))
    (sSeq (sSet 3 (eCall f__law_triple (aCons (eVar 0) (aCons (eBin oAdd (eVar 1) (eC (.int 6))) (aNil)))))
    (sSeq (sFor (iD (eLst (aCons (eTup (aCons (eC (.int 0)) (aCons (eC (.int 1)) (aCons (eC (.int 0)) (aNil))))) (aCons (eTup (aCons (eC (.int 0)) (aCons (eC (.int 0)) (aCons (eC (.int 1)) (aNil))))) (aCons (eTup (aCons (eC (.int 1)) (aCons (eC (.int 0)) (aCons (eC (.int 0)) (aNil))))) (aNil)))))) (bName 4) (sIf (eTest (eBin oEq (eCall f__law_cross (aCons (eVar 2) (aCons (eVar 3) (aNil)))) (eTup (aCons (eC (.int 0)) (aCons (eC (.int 0)) (aCons (eC (.int 0)) (aNil))))))) (sSet 3 (eVar 4)) (sSkip)))
    (sRet (eTup (aCons (eCall f__law_triple (aCons (eVar 0) (aCons (eVar 1) (aNil)))) (aCons (eVar 2) (aCons (eVar 3) (aNil))))))))))
noncomputable def f__law_ahead : List D → R D := fnD 2 6 (sSeq (sIf (eTest (eBin oLt (eCall f__law_dot (aCons (eVar 0) (aCons (eVar 1) (aNil)))) (eC (.int 0)))) (sSet 1 (eTup (aCons (eBin oSub (eC (.int 0)) (eBin oIx (eVar 1) (eC (.int 0)))) (aCons (eBin oSub (eC (.int 0)) (eBin oIx (eVar 1) (eC (.int 1)))) (aCons (eBin oSub (eC (.int 0)) (eBin oIx (eVar 1) (eC (.int 2)))) (aNil)))))) (sSkip))
    (sSeq (sFor (iD (eLst (aCons (eTup (aCons (eC (.int 0)) (aCons (eC (.int 0)) (aCons (eC (.int 1)) (aNil))))) (aCons (eTup (aCons (eC (.int 0)) (aCons (eC (.int 1)) (aCons (eC (.int 0)) (aNil))))) (aCons (eTup (aCons (eC (.int 1)) (aCons (eC (.int 0)) (aCons (eC (.int 0)) (aNil))))) (aNil)))))) (bName 2) (sIf (eTest (eBin oEq (eCall f__law_dot (aCons (eVar 0) (aCons (eVar 1) (aNil)))) (eC (.int 0)))) (sSeq (sSet 3 (eBin oIx (eLst (aCons (eC (.int 1)) (aCons (eUn oNeg (eC (.int 1))) (aNil)))) (eN oInt (aCons (eBin oLt (eCall f__law_dot (aCons (eVar 0) (aCons (eVar 2) (aNil)))) (eC (.int 0))) (aNil)))))
      (sSet 1 (eN oTuple (aCons (eComp [4, 5] (iArgs zip2 (aCons (eVar 1) (aCons (eVar 2) (aNil)))) (bSeq 2 (bCons (bName 4) (bCons (bName 5) (bNil)))) (eYes) (eBin oAdd (eVar 4) (eBin oMul (eVar 3) (eVar 5)))) (aNil))))) (sSkip)))
    (sRet (eVar 1))))
noncomputable def f__law_tip : List D → R D := fnD 2 7 (sSeq (sSet 2 (eCall f__law_cross (aCons (eBin oIx (eVar 0) (eC (.int 1))) (aCons (eBin oIx (eVar 0) (eC (.int 2))) (aNil)))))
    (sSeq (sSet 3 (eCall f__law_ahead (aCons (eVar 2) (aCons (eN oTuple (aCons (eComp [4] (iArgs range1 (aCons (eC (.int 3)) (aNil))) (bName 4) (eYes) (eBin oSub (eCall f__law_draw (aCons (eVar 1) (aCons (eBin oAdd (eC (.int 60)) (eVar 4)) (aCons (eC (.int 9)) (aNil))))) (eC (.int 4)))) (aNil))) (aNil)))))
    (sRet (eN oTuple (aCons (eComp [5, 6] (iArgs zip2 (aCons (eBin oIx (eVar 0) (eC (.int 0))) (aCons (eVar 3) (aNil)))) (bSeq 2 (bCons (bName 5) (bCons (bName 6) (bNil)))) (eYes) (eBin oAdd (eVar 5) (eVar 6))) (aNil))))))
noncomputable def f__law_names : List D → R D := fnD 2 8 (sSeq (sSet 2 (eC (.str "abcdefghijklmnopqrstuvwxyz")))
    (sSeq (sSet 3 (eJoin (eC (.str "")) (eComp [6] (iArgs range1 (aCons (eCall f__law_draw (aCons (eVar 0) (aCons (eC (.int 0)) (aCons (eC (.int 7)) (aNil))))) (aNil))) (bName 6) (eYes) (eBin oIx (eVar 2) (eCall f__law_draw (aCons (eVar 0) (aCons (eBin oAdd (eC (.int 3)) (eVar 6)) (aCons (eC (.int 26)) (aNil)))))))))
    (sSeq (sSet 4 (eCall f__law_draw (aCons (eVar 0) (aCons (eC (.int 1)) (aCons (eBin oAdd (eN oLen (aCons (eVar 3) (aNil))) (eC (.int 1))) (aNil))))))
    (sSeq (sOwn 5 (aNil))
    (sSeq (sFor (iArgs range1 (aCons (eVar 1) (aNil))) (bName 6) (sSeq (sSet 7 (eBin oAdd (eBin oIx (eVar 2) (eBin oMod (eBin oMul (eVar 6) (eC (.int 7))) (eC (.int 26)))) (eBin oIx (eLst (aCons (eC (.str "")) (aCons (eC (.str "q")) (aNil)))) (eBin oDiv (eVar 6) (eC (.int 26))))))
     (sApp 5 (eBin oAdd (eBin oAdd (eSlS (eVar 3) (oNo) (oSome (eVar 4))) (eVar 7)) (eSlS (eVar 3) (oSome (eVar 4)) (oNo))))))
    (sFreeze 5 (sRet (eVar 5))))))))
noncomputable def f__law_sun : List D → R D := fnD 2 7 (sSeq (sOwn 2 (aNil))
    (sSeq (sSet 3 (eCall f__law_draw (aCons (eBin oIx (eVar 0) (eC (.int 0))) (aCons (eC (.int 80)) (aCons (eC (.int 200)) (aNil))))))
    (sSeq (sFor (iArgs range1 (aCons (eVar 1) (aNil))) (bName 4) (sSeq (sSet 5 (eBin oAdd (eBin oIx (eVar 0) (eBin oMod (eVar 4) (eN oLen (aCons (eVar 0) (aNil))))) (eBin oMul (eC (.int 2)) (eVar 4))))
     (sSeq (sSet 6 (eCall f__law_triple (aCons (eVar 5) (aCons (eC (.int 81)) (aNil)))))
     (sSeq (sIf (eTest (eBin oEq (eCall f__law_draw (aCons (eVar 5) (aCons (eC (.int 90)) (aCons (eC (.int 9)) (aNil))))) (eC (.int 2)))) (sSet 6 (eTup (aCons (eBin oPow (eC (.int 10)) (eC (.int 9))) (aCons (eBin oSub (eC (.int 0)) (eBin oPow (eC (.int 10)) (eC (.int 9)))) (aCons (eBin oIx (eVar 6) (eC (.int 2))) (aNil)))))) (sSkip))
     (sSeq (sIf (eTest (eBin oEq (eVar 6) (eTup (aCons (eC (.int 0)) (aCons (eC (.int 0)) (aCons (eC (.int 0)) (aNil))))))) (sSet 6 (eTup (aCons (eC (.int 0)) (aCons (eC (.int 0)) (aCons (eC (.int 1)) (aNil)))))) (sSkip))
     (sSeq (sApp 2 (eTup (aCons (eVar 3) (aCons (eVar 6) (aNil)))))
     (sSet 3 (eBin oAdd (eBin oAdd (eVar 3) (eC (.int 1))) (eCall f__law_draw (aCons (eVar 5) (aCons (eC (.int 91)) (aCons (eC (.int 100)) (aNil)))))))))))))
    (sFreeze 2 (sRet (eVar 2))))))
noncomputable def f__law_yard : List D → R D := fnD 1 10 (sSeq (sSet 1 (eCall f__law_cell_at (aCons (eVar 0) (aCons (eC (.int 0)) (aNil)))))
    (sSeq (sSet 2 (eBin oAdd (eSl (eVar 0) (oSome (eC (.int 3))) (oSome (eC (.int 63)))) (eLst (aCons (eVar 1) (aNil)))))
    (sSeq (sSet 3 (eComp [7] (iArgs range1 (aCons (eC (.int 3)) (aNil))) (bName 7) (eYes) (eBin oIx (eLst (aCons (eC (.int 0)) (aCons (eC (.int 1)) (aCons (eC (.int 4)) (aNil))))) (eCall f__law_draw (aCons (eVar 1) (aCons (eVar 7) (aCons (eC (.int 3)) (aNil))))))))
    (sSeq (sIf (eTest (eBin oEq (eCall f__law_draw (aCons (eVar 1) (aCons (eC (.int 3)) (aCons (eC (.int 5)) (aNil))))) (eC (.int 1)))) (sSet 3 (eLst (aCons (eCall f__law_draw (aCons (eVar 1) (aCons (eC (.int 4)) (aCons (eC (.int 80)) (aNil))))) (aCons (eC (.int 20)) (aCons (eCall f__law_draw (aCons (eVar 1) (aCons (eC (.int 5)) (aCons (eC (.int 21)) (aNil))))) (aNil)))))) (sSkip))
    (sSeq (sIf (eTest (eBin oEq (eCall f__law_draw (aCons (eVar 1) (aCons (eC (.int 3)) (aCons (eC (.int 5)) (aNil))))) (eC (.int 2)))) (sSet 3 (eLst (aCons (eCall f__law_draw (aCons (eVar 1) (aCons (eC (.int 4)) (aCons (eC (.int 3)) (aNil))))) (aCons (eCall f__law_draw (aCons (eVar 1) (aCons (eC (.int 5)) (aCons (eC (.int 21)) (aNil))))) (aCons (eC (.int 20)) (aNil)))))) (sSkip))
    (sSeq (sSet 4 (eCall f__law_names (aCons (eCall f__law_cell_at (aCons (eVar 0) (aCons (eC (.int 1)) (aNil)))) (aCons (eBin oAdd (eBin oIx (eVar 3) (eC (.int 1))) (eBin oIx (eVar 3) (eC (.int 2)))) (aNil)))))
    (sSeq (sOwn 5 (aNil))
    (sSeq (sOwn 6 (aNil))
    (sSeq (sFor (iArgs range1 (aCons (eBin oAdd (eBin oIx (eVar 3) (eC (.int 1))) (eBin oIx (eVar 3) (eC (.int 2)))) (aNil))) (bName 7) (sSeq (sSet 8 (eBin oAdd (eBin oIx (eVar 2) (eBin oMod (eVar 7) (eN oLen (aCons (eVar 2) (aNil))))) (eBin oMul (eC (.int 2)) (eBin oDiv (eVar 7) (eN oLen (aCons (eVar 2) (aNil)))))))
     (sSeq (sSet 9 (eCall f__law_plate (aCons (eVar 8) (aCons (eC (.int 0)) (aNil)))))
     (sIf (eTest (eBin oLt (eVar 7) (eBin oIx (eVar 3) (eC (.int 1))))) (sApp 5 (eTup (aCons (eBin oIx (eVar 4) (eVar 7)) (aCons (eVar 9) (aNil))))) (sApp 6 (eTup (aCons (eBin oIx (eVar 4) (eVar 7)) (aCons (eVar 9) (aCons (eCall f__law_tip (aCons (eVar 9) (aCons (eVar 8) (aNil)))) (aNil))))))))))
    (sFreeze 6 (sFreeze 5 (sRet (eTup (aCons (eCall f__law_sun (aCons (eVar 2) (aCons (eBin oAdd (eC (.int 1)) (eBin oIx (eVar 3) (eC (.int 0)))) (aNil)))) (aCons (eVar 5) (aCons (eVar 6) (aNil)))))))))))))))))
noncomputable def r__law_alike : Nat → List D → R D
  | 0 => fnD 2 4 sBad
  | n + 1 => fnD 2 4 (sSeq (sIf (eTest (eN oIsi (aCons (eVar 1) (aCons (eC (.ty "int")) (aNil))))) (sRet (eAndV (eN oIsi (aCons (eVar 0) (aCons (eC (.ty "int")) (aNil)))) (eAndV (eNotV (eN oIsi (aCons (eVar 0) (aCons (eC (.ty "bool")) (aNil))))) (eBin oEq (eVar 0) (eVar 1))))) (sSkip))
    (sSeq (sIf (eTest (eN oIsi (aCons (eVar 1) (aCons (eC (.ty "str")) (aNil))))) (sRet (eAndV (eN oIsi (aCons (eVar 0) (aCons (eC (.ty "str")) (aNil)))) (eBin oEq (eVar 0) (eVar 1)))) (sSkip))
    (sSeq (sIf (eOr (eTest (eBin oNe (eN oIsi (aCons (eVar 1) (aCons (eC (.ty "list")) (aNil)))) (eN oIsi (aCons (eVar 0) (aCons (eC (.ty "list")) (aNil)))))) (eTest (eBin oNe (eN oIsi (aCons (eVar 1) (aCons (eC (.ty "tuple")) (aNil)))) (eN oIsi (aCons (eVar 0) (aCons (eC (.ty "tuple")) (aNil))))))) (sRet (eC (.bl false))) (sSkip))
    (sRet (eAndV (eBin oEq (eN oLen (aCons (eVar 0) (aNil))) (eN oLen (aCons (eVar 1) (aNil)))) (eN oAllB (aCons (eComp [2, 3] (iArgs zip2 (aCons (eVar 0) (aCons (eVar 1) (aNil)))) (bSeq 2 (bCons (bName 2) (bCons (bName 3) (bNil)))) (eYes) (eCall (r__law_alike n) (aCons (eVar 2) (aCons (eVar 3) (aNil))))) (aNil))))))))
noncomputable def f__law_alike : List D → R D := r__law_alike 8
noncomputable def f__law_moved : List D → R D := fnD 2 10 (sSeq (sOwn 2 (aNil))
    (sSeq (sOwn 3 (aNil))
    (sSeq (sFor (iD (eBin oIx (eVar 0) (eC (.int 1)))) (bSeq 2 (bCons (bName 4) (bCons (bName 5) (bNil)))) (sApp 2 (eTup (aCons (eVar 4) (aCons (eTup (aCons (eN oTuple (aCons (eComp [8, 9] (iArgs zip2 (aCons (eBin oIx (eVar 5) (eC (.int 0))) (aCons (eVar 1) (aNil)))) (bSeq 2 (bCons (bName 8) (bCons (bName 9) (bNil)))) (eYes) (eBin oAdd (eVar 8) (eVar 9))) (aNil))) (aCons (eBin oIx (eVar 5) (eC (.int 1))) (aCons (eBin oIx (eVar 5) (eC (.int 2))) (aNil))))) (aNil))))))
    (sSeq (sFor (iD (eBin oIx (eVar 0) (eC (.int 2)))) (bSeq 3 (bCons (bName 4) (bCons (bName 5) (bCons (bName 6) (bNil))))) (sSeq (sSet 7 (eTup (aCons (eN oTuple (aCons (eComp [8, 9] (iArgs zip2 (aCons (eBin oIx (eVar 5) (eC (.int 0))) (aCons (eVar 1) (aNil)))) (bSeq 2 (bCons (bName 8) (bCons (bName 9) (bNil)))) (eYes) (eBin oAdd (eVar 8) (eVar 9))) (aNil))) (aCons (eBin oIx (eVar 5) (eC (.int 1))) (aCons (eBin oIx (eVar 5) (eC (.int 2))) (aNil))))))
     (sApp 3 (eTup (aCons (eVar 4) (aCons (eVar 7) (aCons (eN oTuple (aCons (eComp [8, 9] (iArgs zip2 (aCons (eVar 6) (aCons (eVar 1) (aNil)))) (bSeq 2 (bCons (bName 8) (bCons (bName 9) (bNil)))) (eYes) (eBin oAdd (eVar 8) (eVar 9))) (aNil))) (aNil))))))))
    (sFreeze 3 (sFreeze 2 (sRet (eTup (aCons (eBin oIx (eVar 0) (eC (.int 0))) (aCons (eVar 2) (aCons (eVar 3) (aNil))))))))))))
noncomputable def f__law_greater : List D → R D := fnD 2 11 (sSeq (sOwn 2 (aNil))
    (sSeq (sOwn 3 (aNil))
    (sSeq (sFor (iD (eBin oIx (eVar 0) (eC (.int 1)))) (bSeq 2 (bCons (bName 4) (bCons (bName 5) (bNil)))) (sApp 2 (eTup (aCons (eVar 4) (aCons (eN oTuple (aCons (eComp [8, 9, 10] (iD (eVar 5)) (bSeq 3 (bCons (bName 8) (bCons (bName 9) (bCons (bName 10) (bNil))))) (eYes) (eTup (aCons (eBin oMul (eVar 1) (eVar 8)) (aCons (eBin oMul (eVar 1) (eVar 9)) (aCons (eBin oMul (eVar 1) (eVar 10)) (aNil)))))) (aNil))) (aNil))))))
    (sSeq (sFor (iD (eBin oIx (eVar 0) (eC (.int 2)))) (bSeq 3 (bCons (bName 4) (bCons (bName 5) (bCons (bName 6) (bNil))))) (sSeq (sSet 7 (eN oTuple (aCons (eComp [8, 9, 10] (iD (eBin oAdd (eVar 5) (eTup (aCons (eVar 6) (aNil))))) (bSeq 3 (bCons (bName 8) (bCons (bName 9) (bCons (bName 10) (bNil))))) (eYes) (eTup (aCons (eBin oMul (eVar 1) (eVar 8)) (aCons (eBin oMul (eVar 1) (eVar 9)) (aCons (eBin oMul (eVar 1) (eVar 10)) (aNil)))))) (aNil))))
     (sApp 3 (eTup (aCons (eVar 4) (aCons (eSl (eVar 7) (oNo) (oSome (eC (.int 3)))) (aCons (eBin oIx (eVar 7) (eC (.int 3))) (aNil))))))))
    (sFreeze 3 (sFreeze 2 (sRet (eTup (aCons (eBin oIx (eVar 0) (eC (.int 0))) (aCons (eVar 2) (aCons (eVar 3) (aNil))))))))))))
noncomputable def f__law_numbers : List D → R D := fnD 1 5 (sSeq (sOwn 1 (aCons (eC (.int 0)) (aNil)))
    (sSeq (sFor (iD (eBin oIx (eVar 0) (eC (.int 1)))) (bSeq 2 (bCons (bName 2) (bCons (bName 3) (bNil)))) (sExtT 1 (eBin oAdd (eBin oAdd (eBin oIx (eVar 3) (eC (.int 0))) (eBin oIx (eVar 3) (eC (.int 1)))) (eBin oIx (eVar 3) (eC (.int 2))))))
    (sSeq (sFor (iD (eBin oIx (eVar 0) (eC (.int 2)))) (bSeq 3 (bCons (bName 2) (bCons (bName 3) (bCons (bName 4) (bNil))))) (sExtT 1 (eBin oAdd (eBin oAdd (eBin oAdd (eBin oIx (eVar 3) (eC (.int 0))) (eBin oIx (eVar 3) (eC (.int 1)))) (eBin oIx (eVar 3) (eC (.int 2)))) (eVar 4))))
    (sFreeze 1 (sRet (eVar 1))))))
noncomputable def f__law_edges : List D → R D := fnD 1 4 (sSeq (sOwnT 1 (tN (xLst (aCons (eC (.int 0)) (aNil))) (tN (xLst (aCons (eC (.int 0)) (aNil))) (tN (xLst (aCons (eC (.int 0)) (aNil))) (tNil)))))
    (sSeq (sFor (iD (eBin oAdd (eBin oIx (eVar 0) (eC (.int 1))) (eBin oIx (eVar 0) (eC (.int 2))))) (bName 2) (sFor (iArgs range1 (aCons (eC (.int 3)) (aNil))) (bName 3) (sSeq (sAppL 1 (eVar 3) (eBin oIx (eBin oIx (eBin oIx (eVar 2) (eC (.int 1))) (eC (.int 0))) (eVar 3)))
      (sIf (eTest (eBin oGt (eN oLen (aCons (eVar 2) (aNil))) (eC (.int 2)))) (sAppL 1 (eVar 3) (eBin oIx (eBin oIx (eVar 2) (eC (.int 2))) (eVar 3))) (sSkip)))))
    (sFreeze 1 (sRet (eVar 1)))))
noncomputable def f__law_drawn : List D → R D := fnD 2 7 (sSeq (sOwn 2 (aNil))
    (sSeq (sFor (iArgs enum1 (aCons (eCall f__law_edges (aCons (eVar 0) (aNil))) (aNil))) (bSeq 2 (bCons (bName 3) (bCons (bName 4) (bNil)))) (sSeq (sSet 5 (eCall f__law_draw (aCons (eVar 1) (aCons (eVar 3) (aCons (eC (.int 5)) (aNil))))))
     (sSeq (sSet 6 (eBin oDiv (eCall f__law_draw (aCons (eVar 1) (aCons (eBin oAdd (eC (.int 3)) (eVar 3)) (aCons (eC (.int 3)) (aNil))))) (eC (.int 2))))
     (sIf (eTest (eBin oEq (eVar 5) (eC (.int 3)))) (sApp 2 (eBin oAdd (eBin oSub (eBin oPow (eC (.int 10)) (eC (.int 9))) (eN oMax1 (aCons (eVar 4) (aNil)))) (eVar 6))) (sIf (eTest (eBin oEq (eVar 5) (eC (.int 4)))) (sApp 2 (eBin oSub (eBin oSub (eBin oSub (eC (.int 0)) (eBin oPow (eC (.int 10)) (eC (.int 9)))) (eN oMin1 (aCons (eVar 4) (aNil)))) (eVar 6))) (sApp 2 (eBin oSub (eCall f__law_draw (aCons (eVar 1) (aCons (eBin oAdd (eC (.int 6)) (eVar 3)) (aCons (eC (.int 41)) (aNil))))) (eC (.int 20)))))))))
    (sFreeze 2 (sRet (eN oTuple (aCons (eVar 2) (aNil)))))))
noncomputable def f__law_told : List D → R O := fnT 3 6 (.t [.l, .l, .l]) (sSeq (sNR (sSet 3 (eC .non)))
    (sSeq (sNR (sSet 4 (eC .non)))
    (sSeq (sNR (sTryAs xks "YardError" 5 (sIf (eTest (eBin oEq (eVar 0) (eC (.int 0)))) (sSetT 4 f_moved_yard (aCons (eVar 1) (aCons (eVar 2) (aNil)))) (sSetT 4 f_greater_yard (aCons (eVar 1) (aCons (eVar 2) (aNil))))) (sSet 3 (eVar 5))))
    (sSeq (sIf (eTest (eBin oIsN (eVar 3) (eC .non))) (sRetTr (.t [.l, .l, .l]) 4) (sSkip))
    (sSeq (sIf (eTest (eN (oIsX xks xcs) (aCons (eVar 3) (aCons (eTup (aCons (eC (.cls "NoBack")) (aCons (eC (.cls "NoHour")) (aCons (eC (.cls "NoName")) (aCons (eC (.cls "NoNumber")) (aCons (eC (.cls "NoPlate")) (aCons (eC (.cls "NoRow")) (aCons (eC (.cls "NoSay")) (aCons (eC (.cls "NoSun")) (aCons (eC (.cls "NotLit")) (aCons (eC (.cls "TooMany")) (aNil)))))))))))) (aNil))))) (sRetV (.t [.l, .l, .l]) (eC (.str "another"))) (sSkip))
    (sSeq (sIf (eOr (eNot (eTest (eN (oIsX xks xcs) (aCons (eVar 3) (aCons (eC (.cls "NoYard")) (aNil)))))) (eOr (eNot (eTest (eN (oIsX xks xcs) (aCons (eVar 3) (aCons (eC (.ty "ValueError")) (aNil)))))) (eTest (eBin oNotN (eUn (oAt xks "name") (eVar 3)) (eC .non))))) (sRetV (.t [.l, .l, .l]) (eC (.str "another"))) (sSkip))
    (sRetV (.t [.l, .l, .l]) (eC (.str "none")))))))))
noncomputable def f__law_fits : List D → R D := fnD 2 3 (sSeq (sSet 2 (eCall f__law_numbers (aCons (eVar 1) (aNil))))
    (sSeq (sIf (eOr (eTest (eBin oGt (eN oMax1 (aCons (eVar 2) (aNil))) (eBin oPow (eC (.int 10)) (eC (.int 9))))) (eTest (eBin oLt (eN oMin1 (aCons (eVar 2) (aNil))) (eBin oSub (eC (.int 0)) (eBin oPow (eC (.int 10)) (eC (.int 9))))))) (sRet (eBin oEq (eVar 0) (eC (.str "none")))) (sSkip))
    (sRet (eCall f__law_alike (aCons (eVar 0) (aCons (eVar 1) (aNil)))))))
noncomputable def f_law : List D → R D := fnD 1 14 (sSeq (sSet 1 (eCall f__law_yard (aCons (eVar 0) (aNil))))
    (sSeq (sSet 2 (eCall f__law_drawn (aCons (eVar 1) (aCons (eCall f__law_cell_at (aCons (eVar 0) (aCons (eC (.int 1)) (aNil)))) (aNil)))))
    (sSeq (sSet 3 (eN oMax1 (aCons (eComp [12] (iD (eCall f__law_numbers (aCons (eVar 1) (aNil)))) (bName 12) (eYes) (eN oAbs (aCons (eVar 12) (aNil)))) (aNil))))
    (sSeq (sSet 4 (eCall f__law_cell_at (aCons (eVar 0) (aCons (eC (.int 2)) (aNil)))))
    (sSeq (sSet 5 (eN oMin2 (aCons (eC (.int 1000)) (aCons (eBin oDiv (eBin oPow (eC (.int 10)) (eC (.int 9))) (eN oMax2 (aCons (eC (.int 1)) (aCons (eVar 3) (aNil))))) (aNil)))))
    (sSeq (sSet 6 (eBin oIx (eLst (aCons (eBin oAdd (eC (.int 1)) (eCall f__law_draw (aCons (eVar 4) (aCons (eC (.int 0)) (aCons (eC (.int 1000)) (aNil)))))) (aCons (eN oMax2 (aCons (eC (.int 1)) (aCons (eVar 5) (aNil)))) (aCons (eN oMin2 (aCons (eC (.int 1000)) (aCons (eBin oAdd (eVar 5) (eC (.int 1))) (aNil)))) (aNil))))) (eCall f__law_draw (aCons (eVar 4) (aCons (eC (.int 1)) (aCons (eC (.int 3)) (aNil)))))))
    (sSeq (sSet 7 (eTup (aCons (eN oList (aCons (eBin oIx (eVar 1) (eC (.int 0))) (aNil))) (aCons (eN oList (aCons (eBin oIx (eVar 1) (eC (.int 1))) (aNil))) (aCons (eN oList (aCons (eBin oIx (eVar 1) (eC (.int 2))) (aNil))) (aNil))))))
    (sSeq (sSetT 8 f__law_told (aCons (eC (.int 0)) (aCons (eVar 7) (aCons (eVar 2) (aNil)))))
    (sSeq (sIf (uPeek 8 (eOr (eNot (eTest (eCall f__law_fits (aCons (eVar 8) (aCons (eCall f__law_moved (aCons (eVar 1) (aCons (eVar 2) (aNil)))) (aNil)))))) (eTest (eBin oNe (eVar 7) (eVar 1))))) (sRet (eC (.bl false))) (sSkip))
    (sSeq (sIf (eOr (eNot (eTest (eCall f__law_fits (aCons (eCallK f__law_told (aCons (eC (.int 1)) (aCons (eVar 7) (aCons (eVar 6) (aNil))))) (aCons (eCall f__law_greater (aCons (eVar 1) (aCons (eVar 6) (aNil)))) (aNil)))))) (eTest (eBin oNe (eVar 7) (eVar 1)))) (sRet (eC (.bl false))) (sSkip))
    (sSeq (sIf (uPeek 8 (eAnd (eTest (eBin oNe (eVar 8) (eC (.str "none")))) (eTest (eBin oNe (eCallK f_moved_yard (aCons (eVar 8) (aCons (eN oTuple (aCons (eComp [13] (iD (eVar 2)) (bName 13) (eYes) (eBin oSub (eC (.int 0)) (eVar 13))) (aNil))) (aNil)))) (eVar 1))))) (sRet (eC (.bl false))) (sSkip))
    (sSeq (sOwnT 9 (tC (xCallT f_greater_yard (aCons (eVar 7) (aCons (eC (.int 1)) (aNil)))) (tC (xCallT f_moved_yard (aCons (eVar 7) (aCons (eTup (aCons (eC (.int 0)) (aCons (eC (.int 0)) (aCons (eC (.int 0)) (aNil))))) (aNil)))) (tNil))))
    (sSeq (sIf (uPeek 9 (eTest (eBin oNe (eVar 9) (eLst (aCons (eVar 1) (aCons (eVar 1) (aNil))))))) (sRet (eC (.bl false))) (sSkip))
    (sSeq (sIf (uPeek 8 (eTest (eBin oNe (eVar 8) (eC (.str "none"))))) (sAppTr 9 8) (sSkip))
    (sSeq (sClear2 9 10 11)
    (sRet (eBin oEq (eVar 7) (eVar 1))))))))))))))))))
end Gn

section
set_option Elab.async false
set_option linter.all false
set_option maxRecDepth 100000
set_option maxHeartbeats 0
namespace Gn
open PySem PySem.Spec PyProof.Rows L2 Dy
/-! ### the text -/
def topS (i : Nat) : Stmt := PySem.Challenge.pw_dialyard_k82_moved_and_greater.main.body.getD i (.Pass ⟨0, 0, 0, 0⟩)
abbrev s_triple_sum : Stmt := topS 14
abbrev N_triple_sum : List Str := ["one", "other"]
theorem sc_triple_sum : FnScope N_triple_sum ["one", "other"] (defScope s_triple_sum) := ⟨rfl, rfl, rfl, by decide +kernel, rfl, by decide +kernel, by decide +kernel⟩
abbrev s_triple_times : Stmt := topS 15
abbrev N_triple_times : List Str := ["one", "many"]
theorem sc_triple_times : FnScope N_triple_times ["one", "many"] (defScope s_triple_times) := ⟨rfl, rfl, rfl, by decide +kernel, rfl, by decide +kernel, by decide +kernel⟩
abbrev s_in_reach : Stmt := topS 18
abbrev N_in_reach : List Str := ["triples", "triple", "number"]
theorem sc_in_reach : FnScope N_in_reach ["triples"] (defScope s_in_reach) := ⟨rfl, rfl, rfl, by decide +kernel, rfl, by decide +kernel, by decide +kernel⟩
abbrev s_looked_through : Stmt := topS 19
abbrev N_looked_through : List Str := ["yard", "sun", "walls", "dials", "name", "plate", "tip", "hour", "direction"]
theorem sc_looked_through : FnScope N_looked_through ["yard"] (defScope s_looked_through) := ⟨rfl, rfl, rfl, by decide +kernel, rfl, by decide +kernel, by decide +kernel⟩
abbrev s_moved_plate : Stmt := topS 20
abbrev N_moved_plate : List Str := ["plate", "triple"]
theorem sc_moved_plate : FnScope N_moved_plate ["plate", "triple"] (defScope s_moved_plate) := ⟨rfl, rfl, rfl, by decide +kernel, rfl, by decide +kernel, by decide +kernel⟩
abbrev s_moved_yard : Stmt := topS 21
abbrev N_moved_yard : List Str := ["yard", "triple", "sun", "walls", "dials", "name", "plate", "tip"]
theorem sc_moved_yard : FnScope N_moved_yard ["yard", "triple"] (defScope s_moved_yard) := ⟨rfl, rfl, rfl, by decide +kernel, rfl, by decide +kernel, by decide +kernel⟩
abbrev s_greater_plate : Stmt := topS 22
abbrev N_greater_plate : List Str := ["plate", "many", "triple"]
theorem sc_greater_plate : FnScope N_greater_plate ["plate", "many"] (defScope s_greater_plate) := ⟨rfl, rfl, rfl, by decide +kernel, rfl, by decide +kernel, by decide +kernel⟩
abbrev s_greater_yard : Stmt := topS 23
abbrev N_greater_yard : List Str := ["yard", "many", "sun", "walls", "dials", "name", "plate", "tip"]
theorem sc_greater_yard : FnScope N_greater_yard ["yard", "many"] (defScope s_greater_yard) := ⟨rfl, rfl, rfl, by decide +kernel, rfl, by decide +kernel, by decide +kernel⟩
abbrev s__law_cell_at : Stmt := topS 25
abbrev N__law_cell_at : List Str := ["_law_script", "_law_k"]
theorem sc__law_cell_at : FnScope N__law_cell_at ["_law_script", "_law_k"] (defScope s__law_cell_at) := ⟨rfl, rfl, rfl, by decide +kernel, rfl, by decide +kernel, by decide +kernel⟩
abbrev s__law_draw : Stmt := topS 26
abbrev N__law_draw : List Str := ["_law_cell", "_law_k", "_law_many", "_law_left", "_law_j", "_law_number_here"]
theorem sc__law_draw : FnScope N__law_draw ["_law_cell", "_law_k", "_law_many"] (defScope s__law_draw) := ⟨rfl, rfl, rfl, by decide +kernel, rfl, by decide +kernel, by decide +kernel⟩
abbrev s__law_number : Stmt := topS 27
abbrev N__law_number : List Str := ["_law_cell", "_law_k", "_law_kind"]
theorem sc__law_number : FnScope N__law_number ["_law_cell", "_law_k"] (defScope s__law_number) := ⟨rfl, rfl, rfl, by decide +kernel, rfl, by decide +kernel, by decide +kernel⟩
abbrev s__law_triple : Stmt := topS 28
abbrev N__law_triple : List Str := ["_law_cell", "_law_k"]
theorem sc__law_triple : FnScope N__law_triple ["_law_cell", "_law_k"] (defScope s__law_triple) := ⟨rfl, rfl, rfl, by decide +kernel, rfl, by decide +kernel, by decide +kernel⟩
abbrev s__law_cross : Stmt := topS 29
abbrev N__law_cross : List Str := ["_law_one", "_law_other", "_law_a", "_law_b", "_law_c", "_law_d", "_law_e", "_law_f"]
theorem sc__law_cross : FnScope N__law_cross ["_law_one", "_law_other"] (defScope s__law_cross) := ⟨rfl, rfl, rfl, by decide +kernel, rfl, by decide +kernel, by decide +kernel⟩
abbrev s__law_dot : Stmt := topS 30
abbrev N__law_dot : List Str := ["_law_one", "_law_other"]
theorem sc__law_dot : FnScope N__law_dot ["_law_one", "_law_other"] (defScope s__law_dot) := ⟨rfl, rfl, rfl, by decide +kernel, rfl, by decide +kernel, by decide +kernel⟩
abbrev s__law_plate : Stmt := topS 31
abbrev N__law_plate : List Str := ["_law_cell", "_law_k", "_law_side", "_law_other", "_law_unit"]
theorem sc__law_plate : FnScope N__law_plate ["_law_cell", "_law_k"] (defScope s__law_plate) := ⟨rfl, rfl, rfl, by decide +kernel, rfl, by decide +kernel, by decide +kernel⟩
abbrev s__law_ahead : Stmt := topS 32
abbrev N__law_ahead : List Str := ["_law_front", "_law_found", "_law_unit", "_law_sign", "_law_one", "_law_more"]
theorem sc__law_ahead : FnScope N__law_ahead ["_law_front", "_law_found"] (defScope s__law_ahead) := ⟨rfl, rfl, rfl, by decide +kernel, rfl, by decide +kernel, by decide +kernel⟩
abbrev s__law_tip : Stmt := topS 33
abbrev N__law_tip : List Str := ["_law_plate_here", "_law_cell", "_law_front", "_law_near", "_law_k", "_law_one", "_law_more"]
theorem sc__law_tip : FnScope N__law_tip ["_law_plate_here", "_law_cell"] (defScope s__law_tip) := ⟨rfl, rfl, rfl, by decide +kernel, rfl, by decide +kernel, by decide +kernel⟩
abbrev s__law_names : Stmt := topS 34
abbrev N__law_names : List Str := ["_law_cell", "_law_many", "_law_letters", "_law_stem", "_law_at", "_law_found", "_law_k", "_law_sign"]
theorem sc__law_names : FnScope N__law_names ["_law_cell", "_law_many"] (defScope s__law_names) := ⟨rfl, rfl, rfl, by decide +kernel, rfl, by decide +kernel, by decide +kernel⟩
abbrev s__law_sun : Stmt := topS 35
abbrev N__law_sun : List Str := ["_law_cells", "_law_many", "_law_sun_here", "_law_hour", "_law_k", "_law_cell", "_law_direction"]
theorem sc__law_sun : FnScope N__law_sun ["_law_cells", "_law_many"] (defScope s__law_sun) := ⟨rfl, rfl, rfl, by decide +kernel, rfl, by decide +kernel, by decide +kernel⟩
abbrev s__law_yard : Stmt := topS 36
abbrev N__law_yard : List Str := ["_law_script", "_law_cell", "_law_cells", "_law_counts", "_law_names_here", "_law_shuts", "_law_dials", "_law_k", "_law_one", "_law_plate_here"]
theorem sc__law_yard : FnScope N__law_yard ["_law_script"] (defScope s__law_yard) := ⟨rfl, rfl, rfl, by decide +kernel, rfl, by decide +kernel, by decide +kernel⟩
abbrev s__law_alike : Stmt := topS 37
abbrev N__law_alike : List Str := ["_law_found", "_law_due", "_law_one", "_law_other"]
theorem sc__law_alike : FnScope N__law_alike ["_law_found", "_law_due"] (defScope s__law_alike) := ⟨rfl, rfl, rfl, by decide +kernel, rfl, by decide +kernel, by decide +kernel⟩
abbrev s__law_moved : Stmt := topS 38
abbrev N__law_moved : List Str := ["_law_yard_here", "_law_triple_here", "_law_shuts", "_law_dials", "_law_name", "_law_plate_here", "_law_tip_here", "_law_moved_here", "_law_a", "_law_b"]
theorem sc__law_moved : FnScope N__law_moved ["_law_yard_here", "_law_triple_here"] (defScope s__law_moved) := ⟨rfl, rfl, rfl, by decide +kernel, rfl, by decide +kernel, by decide +kernel⟩
abbrev s__law_greater : Stmt := topS 39
abbrev N__law_greater : List Str := ["_law_yard_here", "_law_many", "_law_shuts", "_law_dials", "_law_name", "_law_plate_here", "_law_tip_here", "_law_grown", "_law_x", "_law_y", "_law_z"]
theorem sc__law_greater : FnScope N__law_greater ["_law_yard_here", "_law_many"] (defScope s__law_greater) := ⟨rfl, rfl, rfl, by decide +kernel, rfl, by decide +kernel, by decide +kernel⟩
abbrev s__law_numbers : Stmt := topS 40
abbrev N__law_numbers : List Str := ["_law_yard_here", "_law_found", "_law_name", "_law_plate_here", "_law_tip_here"]
theorem sc__law_numbers : FnScope N__law_numbers ["_law_yard_here"] (defScope s__law_numbers) := ⟨rfl, rfl, rfl, by decide +kernel, rfl, by decide +kernel, by decide +kernel⟩
abbrev s__law_edges : Stmt := topS 41
abbrev N__law_edges : List Str := ["_law_yard_here", "_law_found", "_law_one", "_law_k"]
theorem sc__law_edges : FnScope N__law_edges ["_law_yard_here"] (defScope s__law_edges) := ⟨rfl, rfl, rfl, by decide +kernel, rfl, by decide +kernel, by decide +kernel⟩
abbrev s__law_drawn : Stmt := topS 42
abbrev N__law_drawn : List Str := ["_law_yard_here", "_law_cell", "_law_made", "_law_k", "_law_some", "_law_way", "_law_beyond"]
theorem sc__law_drawn : FnScope N__law_drawn ["_law_yard_here", "_law_cell"] (defScope s__law_drawn) := ⟨rfl, rfl, rfl, by decide +kernel, rfl, by decide +kernel, by decide +kernel⟩
abbrev s__law_told : Stmt := topS 43
abbrev N__law_told : List Str := ["_law_way", "_law_yard_here", "_law_more", "_law_caught", "_law_found", "_law_e"]
theorem sc__law_told : FnScope N__law_told ["_law_way", "_law_yard_here", "_law_more"] (defScope s__law_told) := ⟨rfl, rfl, rfl, by decide +kernel, rfl, by decide +kernel, by decide +kernel⟩
abbrev s__law_fits : Stmt := topS 44
abbrev N__law_fits : List Str := ["_law_found", "_law_due", "_law_some"]
theorem sc__law_fits : FnScope N__law_fits ["_law_found", "_law_due"] (defScope s__law_fits) := ⟨rfl, rfl, rfl, by decide +kernel, rfl, by decide +kernel, by decide +kernel⟩
abbrev s_law : Stmt := topS 45
abbrev N_law : List Str := ["_law_script", "_law_yard_here", "_law_triple_here", "_law_most", "_law_cell", "_law_reach", "_law_many", "_law_handed", "_law_moved_here", "_law_some", "_law_told_here", "_law_part", "_law_number_here", "_law_one"]
theorem sc_law : FnScope N_law ["_law_script"] (defScope s_law) := ⟨rfl, rfl, rfl, by decide +kernel, rfl, by decide +kernel, by decide +kernel⟩
abbrev si_NoYard : Stmt := clsStmt (topS 5) 0
abbrev Ni_NoYard : List Str := ["self", "name"]
theorem sci_NoYard : FnScope Ni_NoYard ["self", "name"] (defScope si_NoYard) := ⟨rfl, rfl, rfl, by decide +kernel, rfl, by decide +kernel, by decide +kernel⟩
def blts : List Str := ["abs", "list", "tuple", "len", "range", "int", "zip", "isinstance", "bool", "str", "all", "enumerate", "max", "min", "ValueError"]
def gints : List (Str × Int) := [("FARTHEST", 1000000000)]
def gstrs : List (Str × Str) := []
structure Facts (K : PySem.W.Frag) (mg : Str → Option Value) : Prop where
  int : ∀ (i : Nat) (x : Str × Int), gints[i]? = some x → ∃ t, mg x.1 = some (.int x.2 t)
  str : ∀ (i : Nat) (x : Str × Str), gstrs[i]? = some x → ∃ t, mg x.1 = some (.str x.2 t)
  glo_YardError : mg "YardError" = some (.ref (He.ga K "YardError"))
  glo_NoNumber : mg "NoNumber" = some (.ref (He.ga K "NoNumber"))
  glo_NoPlate : mg "NoPlate" = some (.ref (He.ga K "NoPlate"))
  glo_NoSun : mg "NoSun" = some (.ref (He.ga K "NoSun"))
  glo_NoYard : mg "NoYard" = some (.ref (He.ga K "NoYard"))
  glo_NotLit : mg "NotLit" = some (.ref (He.ga K "NotLit"))
  glo_NoHour : mg "NoHour" = some (.ref (He.ga K "NoHour"))
  glo_TooMany : mg "TooMany" = some (.ref (He.ga K "TooMany"))
  glo_NoRow : mg "NoRow" = some (.ref (He.ga K "NoRow"))
  glo_NoName : mg "NoName" = some (.ref (He.ga K "NoName"))
  glo_NoSay : mg "NoSay" = some (.ref (He.ga K "NoSay"))
  glo_NoBack : mg "NoBack" = some (.ref (He.ga K "NoBack"))
  xf : ExF K mg xks xcs
  yr : YrC K (He.ga K "YardError")
  fx_NoYard : FxC K "NoYard" "name"
  na_name : ∀ c ∈ xks, PySem.W.findIn K (.ref (He.ga K c)) "name" = some none
/-! ### the defs do so -/
section
variable {P : Program} {w : World} {K : PySem.W.Frag} {mg : Str → Option Value} {base : Heap} {f : Addr} {fd : FuncData}
theorem init_NoYard (M : Facts K mg) (Fn : FunD K "__init__" "NoYard.__init__" (defArgs si_NoYard) (defBody si_NoYard) (defScope si_NoYard) [] [] f fd) : FnOk P w K mg base (L2.CX P w) 1 f fd ["self", "name"] (spI K "name") :=
  init_ok (N := Ni_NoYard) Fn sci_NoYard fun cdv A outer s H E => init_body rfl M.glo_YardError M.yr rfl rfl (Or.inl rfl) (Or.inl rfl) (by decide) (by decide) (by decide) rfl rfl rfl rfl rfl rfl
theorem ok_triple_sum (B : Blts mg blts) (M : Facts K mg)  (Fn : FunD K "triple_sum" "triple_sum" (defArgs s_triple_sum) (defBody s_triple_sum) (defScope s_triple_sum) [] [] f fd) : FnOk P w K mg base (L2.CX P w) 1 f fd ["one", "other"] (spD K 2 f_triple_sum) :=
  have nd := (sc_triple_sum).nd
  ok_def (N := N_triple_sum) Fn sc_triple_sum rfl fun cdv A outer s H E hr tk hp =>
    sss_one (ss_ret (se_tup (sa_cons (se_op d_add (se_ix d_ix (se_var 0) (se_int)) (se_ix d_ix (se_var 1) (se_int))) (sa_cons (se_op d_add (se_ix d_ix (se_var 0) (se_int)) (se_ix d_ix (se_var 1) (se_int))) (sa_cons (se_op d_add (se_ix d_ix (se_var 0) (se_int)) (se_ix d_ix (se_var 1) (se_int))) (sa_nil))))))
theorem cal_triple_sum (B : Blts mg blts) (M : Facts K mg)  (Fn : FunD K "triple_sum" "triple_sum" (defArgs s_triple_sum) (defBody s_triple_sum) (defScope s_triple_sum) [] [] f fd) (hm : mg "triple_sum" = some (.ref f)) : Cal P w K mg base "triple_sum" 1 2 f_triple_sum :=
  cal_mk (N := N_triple_sum) (ps := ["one", "other"]) Fn hm (fun _ _ _ _ _ _ us hl => match us, hl with | [_, _], _ => rfl) (ok_triple_sum B M  Fn)
theorem ok_triple_times (B : Blts mg blts) (M : Facts K mg)  (Fn : FunD K "triple_times" "triple_times" (defArgs s_triple_times) (defBody s_triple_times) (defScope s_triple_times) [] [] f fd) : FnOk P w K mg base (L2.CX P w) 1 f fd ["one", "many"] (spD K 2 f_triple_times) :=
  have nd := (sc_triple_times).nd
  ok_def (N := N_triple_times) Fn sc_triple_times rfl fun cdv A outer s H E hr tk hp =>
    sss_one (ss_ret (se_tup (sa_cons (se_op d_mul (se_ix d_ix (se_var 0) (se_int)) (se_var 1)) (sa_cons (se_op d_mul (se_ix d_ix (se_var 0) (se_int)) (se_var 1)) (sa_cons (se_op d_mul (se_ix d_ix (se_var 0) (se_int)) (se_var 1)) (sa_nil))))))
theorem cal_triple_times (B : Blts mg blts) (M : Facts K mg)  (Fn : FunD K "triple_times" "triple_times" (defArgs s_triple_times) (defBody s_triple_times) (defScope s_triple_times) [] [] f fd) (hm : mg "triple_times" = some (.ref f)) : Cal P w K mg base "triple_times" 1 2 f_triple_times :=
  cal_mk (N := N_triple_times) (ps := ["one", "many"]) Fn hm (fun _ _ _ _ _ _ us hl => match us, hl with | [_, _], _ => rfl) (ok_triple_times B M  Fn)
theorem ok_in_reach (B : Blts mg blts) (M : Facts K mg) (I_NoYard : InC P w K mg base "NoYard" "name")  (Fn : FunD K "in_reach" "in_reach" (defArgs s_in_reach) (defBody s_in_reach) (defScope s_in_reach) [] [] f fd) : FnOk P w K mg base (L2.CX P w) 3 f fd ["triples"] (spD K 1 f_in_reach) :=
  have nd := (sc_in_reach).nd
  ok_def (N := N_in_reach) Fn sc_in_reach rfl fun cdv A outer s H E hr tk hp =>
    sss_one (ss_for hp rfl (si_any (se_var 0)) (pg_name (i := 1) nd rfl (by first | exact Or.inl rfl | exact Or.inr rfl)) (tg_name 1) (sss_one (ss_for hp rfl (si_any (se_var 1)) (pg_name (i := 2) nd rfl (by first | exact Or.inl rfl | exact Or.inr rfl)) (tg_name 2) (sss_one (ss_if (st_cmp (d_gt) (se_blt d_abs (B.at 0) (sa_cons (se_var 2) (sa_nil))) (se_gint rfl (M.int 0 ("FARTHEST", 1000000000) rfl)) (nomark _)) (sss_one (ss_raiseF I_NoYard rfl tk (hr.mono (by decide)) (sa_cons (se_non) (sa_nil)))) (sss_nil))))))
theorem cal_in_reach (B : Blts mg blts) (M : Facts K mg) (I_NoYard : InC P w K mg base "NoYard" "name")  (Fn : FunD K "in_reach" "in_reach" (defArgs s_in_reach) (defBody s_in_reach) (defScope s_in_reach) [] [] f fd) (hm : mg "in_reach" = some (.ref f)) : Cal P w K mg base "in_reach" 3 1 f_in_reach :=
  cal_mk (N := N_in_reach) (ps := ["triples"]) Fn hm (fun _ _ _ _ _ _ us hl => match us, hl with | [_], _ => rfl) (ok_in_reach B M I_NoYard Fn)
theorem ok_looked_through (B : Blts mg blts) (M : Facts K mg) (C_in_reach : Cal P w K mg base "in_reach" 3 1 f_in_reach) (Fn : FunD K "looked_through" "looked_through" (defArgs s_looked_through) (defBody s_looked_through) (defScope s_looked_through) [] [] f fd) : FnOk P w K mg base (L2.CX P w) 4 f fd ["yard"] (spJ K  f_looked_through) :=
  have nd := (sc_looked_through).nd
  okJ_def (N := N_looked_through) Fn sc_looked_through rfl fun w cdv A outer s H E hr tk hp =>
    sssj_cons (ssj_lift (ss_asg (se_varP 0) (pg_seq rfl (pgs_cons (pg_name (i := 1) nd rfl (by first | exact Or.inl rfl | exact Or.inr rfl)) (pgs_cons (pg_name (i := 2) nd rfl (by first | exact Or.inl rfl | exact Or.inr rfl)) (pgs_cons (pg_name (i := 3) nd rfl (by first | exact Or.inl rfl | exact Or.inr rfl)) (pgs_nil))))) (tg_seq (tgs_cons (tg_name 1) (tgs_cons (tg_name 2) (tgs_cons (tg_name 3) (tgs_nil)))))))
    (sssj_cons (ssj_lift (ss_expr (se_callC C_in_reach tk (hr.mono (by decide)) (sa_cons (se_comp (own := [("hour", 7), ("direction", 8)]) rfl nd (blkOk_by (N := N_looked_through) (sc := defScope s_looked_through) (by decide +kernel)) (si_any (se_var 1)) (tg_seq (tgs_cons (tg_name 7) (tgs_cons (tg_name 8) (tgs_nil)))) (fun _ _ _ _ _ => pg_seq rfl (pgs_cons (pg_name (i := 7) nd rfl (by first | exact Or.inl rfl | exact Or.inr rfl)) (pgs_cons (pg_name (i := 8) nd rfl (by first | exact Or.inl rfl | exact Or.inr rfl)) (pgs_nil)))) (fun _ _ _ _ _ => sif_nil) (fun _ _ _ _ _ => se_var 8)) (sa_nil)))))
    (sssj_cons (ssj_lift (ss_for hp rfl (si_any (se_var 2)) (pg_seq rfl (pgs_cons (pg_name (i := 4) nd rfl (by first | exact Or.inl rfl | exact Or.inr rfl)) (pgs_cons (pg_name (i := 5) nd rfl (by first | exact Or.inl rfl | exact Or.inr rfl)) (pgs_nil)))) (tg_seq (tgs_cons (tg_name 4) (tgs_cons (tg_name 5) (tgs_nil)))) (sss_one (ss_expr (se_callC C_in_reach tk (hr.mono (by decide)) (sa_cons (se_var 5) (sa_nil)))))))
    (sssj_cons (ssj_lift (ss_for hp rfl (si_any (se_var 3)) (pg_seq rfl (pgs_cons (pg_name (i := 4) nd rfl (by first | exact Or.inl rfl | exact Or.inr rfl)) (pgs_cons (pg_name (i := 5) nd rfl (by first | exact Or.inl rfl | exact Or.inr rfl)) (pgs_cons (pg_name (i := 6) nd rfl (by first | exact Or.inl rfl | exact Or.inr rfl)) (pgs_nil))))) (tg_seq (tgs_cons (tg_name 4) (tgs_cons (tg_name 5) (tgs_cons (tg_name 6) (tgs_nil))))) (sss_one (ss_expr (se_callC C_in_reach tk (hr.mono (by decide)) (sa_cons (se_op d_add (se_var 5) (se_tup (sa_cons (se_var 6) (sa_nil)))) (sa_nil)))))))
    (sssj_one (ssj_ret 0)))))
theorem cal_looked_through (B : Blts mg blts) (M : Facts K mg) (C_in_reach : Cal P w K mg base "in_reach" 3 1 f_in_reach) (Fn : FunD K "looked_through" "looked_through" (defArgs s_looked_through) (defBody s_looked_through) (defScope s_looked_through) [] [] f fd) (hm : mg "looked_through" = some (.ref f)) : CalJ P w K mg base "looked_through" 4 1 f_looked_through :=
  calJ_mk (ps := ["yard"]) Fn hm (fun _ _ _ _ _ _ us hl => match us, hl with | [_], _ => rfl) (ok_looked_through B M C_in_reach Fn)
theorem ok_moved_plate (B : Blts mg blts) (M : Facts K mg) (C_triple_sum : Cal P w K mg base "triple_sum" 1 2 f_triple_sum) (Fn : FunD K "moved_plate" "moved_plate" (defArgs s_moved_plate) (defBody s_moved_plate) (defScope s_moved_plate) [] [] f fd) : FnOk P w K mg base (L2.CX P w) 2 f fd ["plate", "triple"] (spD K 2 f_moved_plate) :=
  have nd := (sc_moved_plate).nd
  ok_def (N := N_moved_plate) Fn sc_moved_plate rfl fun cdv A outer s H E hr tk hp =>
    sss_one (ss_ret (se_tup (sa_cons (se_callC C_triple_sum tk (hr.mono (by decide)) (sa_cons (se_ix d_ix (se_var 0) (se_int)) (sa_cons (se_var 1) (sa_nil)))) (sa_cons (se_ix d_ix (se_var 0) (se_int)) (sa_cons (se_ix d_ix (se_var 0) (se_int)) (sa_nil))))))
theorem cal_moved_plate (B : Blts mg blts) (M : Facts K mg) (C_triple_sum : Cal P w K mg base "triple_sum" 1 2 f_triple_sum) (Fn : FunD K "moved_plate" "moved_plate" (defArgs s_moved_plate) (defBody s_moved_plate) (defScope s_moved_plate) [] [] f fd) (hm : mg "moved_plate" = some (.ref f)) : Cal P w K mg base "moved_plate" 2 2 f_moved_plate :=
  cal_mk (N := N_moved_plate) (ps := ["plate", "triple"]) Fn hm (fun _ _ _ _ _ _ us hl => match us, hl with | [_, _], _ => rfl) (ok_moved_plate B M C_triple_sum Fn)
theorem ok_moved_yard (B : Blts mg blts) (M : Facts K mg) (C_looked_through : CalJ P w K mg base "looked_through" 4 1 f_looked_through) (C_triple_sum : Cal P w K mg base "triple_sum" 1 2 f_triple_sum) (C_moved_plate : Cal P w K mg base "moved_plate" 2 2 f_moved_plate) (Fn : FunD K "moved_yard" "moved_yard" (defArgs s_moved_yard) (defBody s_moved_yard) (defScope s_moved_yard) [] [] f fd) : FnOk P w K mg base (L2.CX P w) 5 f fd ["yard", "triple"] (spT K 2 f_moved_yard) :=
  have nd := (sc_moved_yard).nd
  okT_def (N := N_moved_yard) Fn sc_moved_yard rfl fun cdv A outer s H E hr tk hp =>
    ssst_cons (sst_lift (ss_asg (se_var 0) (pg_seq rfl (pgs_cons (pg_name (i := 2) nd rfl (by first | exact Or.inl rfl | exact Or.inr rfl)) (pgs_cons (pg_name (i := 3) nd rfl (by first | exact Or.inl rfl | exact Or.inr rfl)) (pgs_cons (pg_name (i := 4) nd rfl (by first | exact Or.inl rfl | exact Or.inr rfl)) (pgs_nil))))) (tg_seq (tgs_cons (tg_name 2) (tgs_cons (tg_name 3) (tgs_cons (tg_name 4) (tgs_nil)))))))
    (ssst_one (sst_retJ C_looked_through tk (hr.mono (by decide)) (sao_n (seo_list (B.at 1) (sa_cons (se_var 2) (sa_nil))) (sao_n (seo_comp tk rfl rfl (own := [("name", 5), ("plate", 6)]) rfl nd (blkOk_by (N := N_moved_yard) (sc := defScope s_moved_yard) (by decide +kernel)) (si_any (se_var 3)) (tg_seq (tgs_cons (tg_name 5) (tgs_cons (tg_name 6) (tgs_nil)))) (fun _ _ _ _ _ _ => pg_seq rfl (pgs_cons (pg_name (i := 5) nd rfl (by first | exact Or.inl rfl | exact Or.inr rfl)) (pgs_cons (pg_name (i := 6) nd rfl (by first | exact Or.inl rfl | exact Or.inr rfl)) (pgs_nil)))) (fun _ _ _ _ _ _ _ tkc => sif_nil) (fun _ _ _ _ _ _ _ tkc => se_tup (sa_cons (se_var 5) (sa_cons (se_callT C_moved_plate tkc (hr.mono (by decide)) (sa_cons (se_var 6) (sa_cons (se_var 1) (sa_nil)))) (sa_nil))))) (sao_n (seo_comp tk rfl rfl (own := [("name", 5), ("plate", 6), ("tip", 7)]) rfl nd (blkOk_by (N := N_moved_yard) (sc := defScope s_moved_yard) (by decide +kernel)) (si_any (se_var 4)) (tg_seq (tgs_cons (tg_name 5) (tgs_cons (tg_name 6) (tgs_cons (tg_name 7) (tgs_nil))))) (fun _ _ _ _ _ _ => pg_seq rfl (pgs_cons (pg_name (i := 5) nd rfl (by first | exact Or.inl rfl | exact Or.inr rfl)) (pgs_cons (pg_name (i := 6) nd rfl (by first | exact Or.inl rfl | exact Or.inr rfl)) (pgs_cons (pg_name (i := 7) nd rfl (by first | exact Or.inl rfl | exact Or.inr rfl)) (pgs_nil))))) (fun _ _ _ _ _ _ _ tkc => sif_nil) (fun _ _ _ _ _ _ _ tkc => se_tup (sa_cons (se_var 5) (sa_cons (se_callT C_moved_plate tkc (hr.mono (by decide)) (sa_cons (se_var 6) (sa_cons (se_var 1) (sa_nil)))) (sa_cons (se_callT C_triple_sum tkc (hr.mono (by decide)) (sa_cons (se_var 7) (sa_cons (se_var 1) (sa_nil)))) (sa_nil)))))) (sao_nil))))))
theorem cal_moved_yard (B : Blts mg blts) (M : Facts K mg) (C_looked_through : CalJ P w K mg base "looked_through" 4 1 f_looked_through) (C_triple_sum : Cal P w K mg base "triple_sum" 1 2 f_triple_sum) (C_moved_plate : Cal P w K mg base "moved_plate" 2 2 f_moved_plate) (Fn : FunD K "moved_yard" "moved_yard" (defArgs s_moved_yard) (defBody s_moved_yard) (defScope s_moved_yard) [] [] f fd) (hm : mg "moved_yard" = some (.ref f)) : CalT P w K mg base "moved_yard" 5 2 f_moved_yard :=
  calT_mk (N := N_moved_yard) (ps := ["yard", "triple"]) Fn hm (fun _ _ _ _ _ _ us hl => match us, hl with | [_, _], _ => rfl) (ok_moved_yard B M C_looked_through C_triple_sum C_moved_plate Fn)
theorem ok_greater_plate (B : Blts mg blts) (M : Facts K mg) (C_triple_times : Cal P w K mg base "triple_times" 1 2 f_triple_times) (Fn : FunD K "greater_plate" "greater_plate" (defArgs s_greater_plate) (defBody s_greater_plate) (defScope s_greater_plate) [] [] f fd) : FnOk P w K mg base (L2.CX P w) 2 f fd ["plate", "many"] (spD K 2 f_greater_plate) :=
  have nd := (sc_greater_plate).nd
  ok_def (N := N_greater_plate) Fn sc_greater_plate rfl fun cdv A outer s H E hr tk hp =>
    sss_one (ss_ret (se_bty d_tuple (B.at 2) (sa_cons (se_comp (own := [("triple", 2)]) rfl nd (blkOk_by (N := N_greater_plate) (sc := defScope s_greater_plate) (by decide +kernel)) (si_any (se_var 0)) (tg_name 2) (fun _ _ _ _ _ => pg_name (i := 2) nd rfl (by first | exact Or.inl rfl | exact Or.inr rfl)) (fun _ _ _ _ _ => sif_nil) (fun _ _ _ _ _ => se_callC C_triple_times takes0 (hr.mono (by decide)) (sa_cons (se_var 2) (sa_cons (se_var 1) (sa_nil))))) (sa_nil))))
theorem cal_greater_plate (B : Blts mg blts) (M : Facts K mg) (C_triple_times : Cal P w K mg base "triple_times" 1 2 f_triple_times) (Fn : FunD K "greater_plate" "greater_plate" (defArgs s_greater_plate) (defBody s_greater_plate) (defScope s_greater_plate) [] [] f fd) (hm : mg "greater_plate" = some (.ref f)) : Cal P w K mg base "greater_plate" 2 2 f_greater_plate :=
  cal_mk (N := N_greater_plate) (ps := ["plate", "many"]) Fn hm (fun _ _ _ _ _ _ us hl => match us, hl with | [_, _], _ => rfl) (ok_greater_plate B M C_triple_times Fn)
theorem ok_greater_yard (B : Blts mg blts) (M : Facts K mg) (C_looked_through : CalJ P w K mg base "looked_through" 4 1 f_looked_through) (C_triple_times : Cal P w K mg base "triple_times" 1 2 f_triple_times) (C_greater_plate : Cal P w K mg base "greater_plate" 2 2 f_greater_plate) (Fn : FunD K "greater_yard" "greater_yard" (defArgs s_greater_yard) (defBody s_greater_yard) (defScope s_greater_yard) [] [] f fd) : FnOk P w K mg base (L2.CX P w) 5 f fd ["yard", "many"] (spT K 2 f_greater_yard) :=
  have nd := (sc_greater_yard).nd
  okT_def (N := N_greater_yard) Fn sc_greater_yard rfl fun cdv A outer s H E hr tk hp =>
    ssst_cons (sst_lift (ss_asg (se_var 0) (pg_seq rfl (pgs_cons (pg_name (i := 2) nd rfl (by first | exact Or.inl rfl | exact Or.inr rfl)) (pgs_cons (pg_name (i := 3) nd rfl (by first | exact Or.inl rfl | exact Or.inr rfl)) (pgs_cons (pg_name (i := 4) nd rfl (by first | exact Or.inl rfl | exact Or.inr rfl)) (pgs_nil))))) (tg_seq (tgs_cons (tg_name 2) (tgs_cons (tg_name 3) (tgs_cons (tg_name 4) (tgs_nil)))))))
    (ssst_one (sst_retJ C_looked_through tk (hr.mono (by decide)) (sao_n (seo_list (B.at 1) (sa_cons (se_var 2) (sa_nil))) (sao_n (seo_comp tk rfl rfl (own := [("name", 5), ("plate", 6)]) rfl nd (blkOk_by (N := N_greater_yard) (sc := defScope s_greater_yard) (by decide +kernel)) (si_any (se_var 3)) (tg_seq (tgs_cons (tg_name 5) (tgs_cons (tg_name 6) (tgs_nil)))) (fun _ _ _ _ _ _ => pg_seq rfl (pgs_cons (pg_name (i := 5) nd rfl (by first | exact Or.inl rfl | exact Or.inr rfl)) (pgs_cons (pg_name (i := 6) nd rfl (by first | exact Or.inl rfl | exact Or.inr rfl)) (pgs_nil)))) (fun _ _ _ _ _ _ _ tkc => sif_nil) (fun _ _ _ _ _ _ _ tkc => se_tup (sa_cons (se_var 5) (sa_cons (se_callT C_greater_plate tkc (hr.mono (by decide)) (sa_cons (se_var 6) (sa_cons (se_var 1) (sa_nil)))) (sa_nil))))) (sao_n (seo_comp tk rfl rfl (own := [("name", 5), ("plate", 6), ("tip", 7)]) rfl nd (blkOk_by (N := N_greater_yard) (sc := defScope s_greater_yard) (by decide +kernel)) (si_any (se_var 4)) (tg_seq (tgs_cons (tg_name 5) (tgs_cons (tg_name 6) (tgs_cons (tg_name 7) (tgs_nil))))) (fun _ _ _ _ _ _ => pg_seq rfl (pgs_cons (pg_name (i := 5) nd rfl (by first | exact Or.inl rfl | exact Or.inr rfl)) (pgs_cons (pg_name (i := 6) nd rfl (by first | exact Or.inl rfl | exact Or.inr rfl)) (pgs_cons (pg_name (i := 7) nd rfl (by first | exact Or.inl rfl | exact Or.inr rfl)) (pgs_nil))))) (fun _ _ _ _ _ _ _ tkc => sif_nil) (fun _ _ _ _ _ _ _ tkc => se_tup (sa_cons (se_var 5) (sa_cons (se_callT C_greater_plate tkc (hr.mono (by decide)) (sa_cons (se_var 6) (sa_cons (se_var 1) (sa_nil)))) (sa_cons (se_callT C_triple_times tkc (hr.mono (by decide)) (sa_cons (se_var 7) (sa_cons (se_var 1) (sa_nil)))) (sa_nil)))))) (sao_nil))))))
theorem cal_greater_yard (B : Blts mg blts) (M : Facts K mg) (C_looked_through : CalJ P w K mg base "looked_through" 4 1 f_looked_through) (C_triple_times : Cal P w K mg base "triple_times" 1 2 f_triple_times) (C_greater_plate : Cal P w K mg base "greater_plate" 2 2 f_greater_plate) (Fn : FunD K "greater_yard" "greater_yard" (defArgs s_greater_yard) (defBody s_greater_yard) (defScope s_greater_yard) [] [] f fd) (hm : mg "greater_yard" = some (.ref f)) : CalT P w K mg base "greater_yard" 5 2 f_greater_yard :=
  calT_mk (N := N_greater_yard) (ps := ["yard", "many"]) Fn hm (fun _ _ _ _ _ _ us hl => match us, hl with | [_, _], _ => rfl) (ok_greater_yard B M C_looked_through C_triple_times C_greater_plate Fn)
theorem ok__law_cell_at (B : Blts mg blts) (M : Facts K mg)  (Fn : FunD K "_law_cell_at" "_law_cell_at" (defArgs s__law_cell_at) (defBody s__law_cell_at) (defScope s__law_cell_at) [] [] f fd) : FnOk P w K mg base (L2.CX P w) 1 f fd ["_law_script", "_law_k"] (spD K 2 f__law_cell_at) :=
  have nd := (sc__law_cell_at).nd
  ok_def (N := N__law_cell_at) Fn sc__law_cell_at rfl fun cdv A outer s H E hr tk hp =>
    sss_cons (ss_if (st_cmp (d_lt) (se_var 1) (se_blt d_len (B.at 3) (sa_cons (se_var 0) (sa_nil))) (nomark _)) (sss_one (ss_ret (se_ix d_ix (se_var 0) (se_var 1)))) (sss_nil))
    (sss_one (ss_ret (se_int)))
theorem cal__law_cell_at (B : Blts mg blts) (M : Facts K mg)  (Fn : FunD K "_law_cell_at" "_law_cell_at" (defArgs s__law_cell_at) (defBody s__law_cell_at) (defScope s__law_cell_at) [] [] f fd) (hm : mg "_law_cell_at" = some (.ref f)) : Cal P w K mg base "_law_cell_at" 1 2 f__law_cell_at :=
  cal_mk (N := N__law_cell_at) (ps := ["_law_script", "_law_k"]) Fn hm (fun _ _ _ _ _ _ us hl => match us, hl with | [_, _], _ => rfl) (ok__law_cell_at B M  Fn)
theorem ok__law_draw (B : Blts mg blts) (M : Facts K mg)  (Fn : FunD K "_law_draw" "_law_draw" (defArgs s__law_draw) (defBody s__law_draw) (defScope s__law_draw) [] [] f fd) : FnOk P w K mg base (L2.CX P w) 1 f fd ["_law_cell", "_law_k", "_law_many"] (spD K 3 f__law_draw) :=
  have nd := (sc__law_draw).nd
  ok_def (N := N__law_draw) Fn sc__law_draw rfl fun cdv A outer s H E hr tk hp =>
    sss_cons (ss_if (st_cmp (d_ge) (se_var 0) (se_op d_pow (se_int) (se_int)) (nomark _)) (sss_cons (ss_set nd (se_var 0))
     (sss_cons (ss_for hp rfl (si_range1 (B.at 4) (sa_cons (se_var 1) (sa_nil))) (pg_name (i := 4) nd rfl (by first | exact Or.inl rfl | exact Or.inr rfl)) (tg_name 4) (sss_one (ss_set nd (se_op d_div (se_var 3) (se_op d_pow (se_int) (se_int))))))
     (sss_one (ss_if (st_cmp (d_gt) (se_var 3) (se_int) (nomark _)) (sss_one (ss_ret (se_op d_mod (se_op d_mod (se_var 3) (se_op d_pow (se_int) (se_int))) (se_var 2)))) (sss_nil))))) (sss_nil))
    (sss_cons (ss_set nd (se_op d_mod (se_op d_mul (se_op d_add (se_op d_add (se_op d_add (se_op d_mod (se_var 0) (se_int)) (se_op d_mul (se_op d_mul (se_int) (se_var 1)) (se_var 1))) (se_op d_mul (se_int) (se_var 1))) (se_int)) (se_int)) (se_int)))
    (sss_cons (ss_set nd (se_op d_mod (se_op d_add (se_op d_add (se_op d_mul (se_var 5) (se_var 5)) (se_op d_mul (se_int) (se_var 1))) (se_int)) (se_int)))
    (sss_one (ss_ret (se_op d_mod (se_op d_mod (se_op d_mul (se_var 5) (se_var 5)) (se_int)) (se_var 2))))))
theorem cal__law_draw (B : Blts mg blts) (M : Facts K mg)  (Fn : FunD K "_law_draw" "_law_draw" (defArgs s__law_draw) (defBody s__law_draw) (defScope s__law_draw) [] [] f fd) (hm : mg "_law_draw" = some (.ref f)) : Cal P w K mg base "_law_draw" 1 3 f__law_draw :=
  cal_mk (N := N__law_draw) (ps := ["_law_cell", "_law_k", "_law_many"]) Fn hm (fun _ _ _ _ _ _ us hl => match us, hl with | [_, _, _], _ => rfl) (ok__law_draw B M  Fn)
theorem ok__law_number (B : Blts mg blts) (M : Facts K mg) (C__law_draw : Cal P w K mg base "_law_draw" 1 3 f__law_draw) (Fn : FunD K "_law_number" "_law_number" (defArgs s__law_number) (defBody s__law_number) (defScope s__law_number) [] [] f fd) : FnOk P w K mg base (L2.CX P w) 2 f fd ["_law_cell", "_law_k"] (spD K 2 f__law_number) :=
  have nd := (sc__law_number).nd
  ok_def (N := N__law_number) Fn sc__law_number rfl fun cdv A outer s H E hr tk hp =>
    sss_cons (ss_set nd (se_callC C__law_draw tk (hr.mono (by decide)) (sa_cons (se_var 0) (sa_cons (se_op d_mul (se_int) (se_var 1)) (sa_cons (se_int) (sa_nil))))))
    (sss_cons (ss_if (st_cmp (d_lt) (se_var 2) (se_int) (nomark _)) (sss_one (ss_ret (se_op d_sub (se_callC C__law_draw tk (hr.mono (by decide)) (sa_cons (se_var 0) (sa_cons (se_op d_add (se_op d_mul (se_int) (se_var 1)) (se_int)) (sa_cons (se_int) (sa_nil))))) (se_int)))) (sss_nil))
    (sss_cons (ss_if (st_cmp (d_lt) (se_var 2) (se_int) (nomark _)) (sss_one (ss_ret (se_op d_sub (se_callC C__law_draw tk (hr.mono (by decide)) (sa_cons (se_var 0) (sa_cons (se_op d_add (se_op d_mul (se_int) (se_var 1)) (se_int)) (sa_cons (se_int) (sa_nil))))) (se_int)))) (sss_nil))
    (sss_one (ss_ret (se_op d_mul (se_ix d_ix (se_lst (sa_cons (se_int) (sa_cons (se_un d_neg (se_int)) (sa_nil)))) (se_callC C__law_draw tk (hr.mono (by decide)) (sa_cons (se_var 0) (sa_cons (se_op d_add (se_op d_mul (se_int) (se_var 1)) (se_int)) (sa_cons (se_int) (sa_nil)))))) (se_op d_sub (se_op d_sub (se_op d_pow (se_int) (se_int)) (se_op d_div (se_callC C__law_draw tk (hr.mono (by decide)) (sa_cons (se_var 0) (sa_cons (se_op d_mul (se_int) (se_var 1)) (sa_cons (se_int) (sa_nil))))) (se_int))) (se_int)))))))
theorem cal__law_number (B : Blts mg blts) (M : Facts K mg) (C__law_draw : Cal P w K mg base "_law_draw" 1 3 f__law_draw) (Fn : FunD K "_law_number" "_law_number" (defArgs s__law_number) (defBody s__law_number) (defScope s__law_number) [] [] f fd) (hm : mg "_law_number" = some (.ref f)) : Cal P w K mg base "_law_number" 2 2 f__law_number :=
  cal_mk (N := N__law_number) (ps := ["_law_cell", "_law_k"]) Fn hm (fun _ _ _ _ _ _ us hl => match us, hl with | [_, _], _ => rfl) (ok__law_number B M C__law_draw Fn)
theorem ok__law_triple (B : Blts mg blts) (M : Facts K mg) (C__law_number : Cal P w K mg base "_law_number" 2 2 f__law_number) (Fn : FunD K "_law_triple" "_law_triple" (defArgs s__law_triple) (defBody s__law_triple) (defScope s__law_triple) [] [] f fd) : FnOk P w K mg base (L2.CX P w) 3 f fd ["_law_cell", "_law_k"] (spD K 2 f__law_triple) :=
  have nd := (sc__law_triple).nd
  ok_def (N := N__law_triple) Fn sc__law_triple rfl fun cdv A outer s H E hr tk hp =>
    sss_one (ss_ret (se_tup (sa_cons (se_callC C__law_number tk (hr.mono (by decide)) (sa_cons (se_var 0) (sa_cons (se_var 1) (sa_nil)))) (sa_cons (se_callC C__law_number tk (hr.mono (by decide)) (sa_cons (se_var 0) (sa_cons (se_op d_add (se_var 1) (se_int)) (sa_nil)))) (sa_cons (se_callC C__law_number tk (hr.mono (by decide)) (sa_cons (se_var 0) (sa_cons (se_op d_add (se_var 1) (se_int)) (sa_nil)))) (sa_nil))))))
theorem cal__law_triple (B : Blts mg blts) (M : Facts K mg) (C__law_number : Cal P w K mg base "_law_number" 2 2 f__law_number) (Fn : FunD K "_law_triple" "_law_triple" (defArgs s__law_triple) (defBody s__law_triple) (defScope s__law_triple) [] [] f fd) (hm : mg "_law_triple" = some (.ref f)) : Cal P w K mg base "_law_triple" 3 2 f__law_triple :=
  cal_mk (N := N__law_triple) (ps := ["_law_cell", "_law_k"]) Fn hm (fun _ _ _ _ _ _ us hl => match us, hl with | [_, _], _ => rfl) (ok__law_triple B M C__law_number Fn)
theorem ok__law_cross (B : Blts mg blts) (M : Facts K mg)  (Fn : FunD K "_law_cross" "_law_cross" (defArgs s__law_cross) (defBody s__law_cross) (defScope s__law_cross) [] [] f fd) : FnOk P w K mg base (L2.CX P w) 1 f fd ["_law_one", "_law_other"] (spD K 2 f__law_cross) :=
  have nd := (sc__law_cross).nd
  ok_def (N := N__law_cross) Fn sc__law_cross rfl fun cdv A outer s H E hr tk hp =>
    sss_cons (ss_asg (se_var 0) (pg_seq rfl (pgs_cons (pg_name (i := 2) nd rfl (by first | exact Or.inl rfl | exact Or.inr rfl)) (pgs_cons (pg_name (i := 3) nd rfl (by first | exact Or.inl rfl | exact Or.inr rfl)) (pgs_cons (pg_name (i := 4) nd rfl (by first | exact Or.inl rfl | exact Or.inr rfl)) (pgs_nil))))) (tg_seq (tgs_cons (tg_name 2) (tgs_cons (tg_name 3) (tgs_cons (tg_name 4) (tgs_nil))))))
    (sss_cons (ss_asg (se_var 1) (pg_seq rfl (pgs_cons (pg_name (i := 5) nd rfl (by first | exact Or.inl rfl | exact Or.inr rfl)) (pgs_cons (pg_name (i := 6) nd rfl (by first | exact Or.inl rfl | exact Or.inr rfl)) (pgs_cons (pg_name (i := 7) nd rfl (by first | exact Or.inl rfl | exact Or.inr rfl)) (pgs_nil))))) (tg_seq (tgs_cons (tg_name 5) (tgs_cons (tg_name 6) (tgs_cons (tg_name 7) (tgs_nil))))))
    (sss_one (ss_ret (se_tup (sa_cons (se_op d_sub (se_op d_mul (se_var 3) (se_var 7)) (se_op d_mul (se_var 4) (se_var 6))) (sa_cons (se_op d_sub (se_op d_mul (se_var 4) (se_var 5)) (se_op d_mul (se_var 2) (se_var 7))) (sa_cons (se_op d_sub (se_op d_mul (se_var 2) (se_var 6)) (se_op d_mul (se_var 3) (se_var 5))) (sa_nil))))))))
theorem cal__law_cross (B : Blts mg blts) (M : Facts K mg)  (Fn : FunD K "_law_cross" "_law_cross" (defArgs s__law_cross) (defBody s__law_cross) (defScope s__law_cross) [] [] f fd) (hm : mg "_law_cross" = some (.ref f)) : Cal P w K mg base "_law_cross" 1 2 f__law_cross :=
  cal_mk (N := N__law_cross) (ps := ["_law_one", "_law_other"]) Fn hm (fun _ _ _ _ _ _ us hl => match us, hl with | [_, _], _ => rfl) (ok__law_cross B M  Fn)
theorem ok__law_dot (B : Blts mg blts) (M : Facts K mg)  (Fn : FunD K "_law_dot" "_law_dot" (defArgs s__law_dot) (defBody s__law_dot) (defScope s__law_dot) [] [] f fd) : FnOk P w K mg base (L2.CX P w) 1 f fd ["_law_one", "_law_other"] (spD K 2 f__law_dot) :=
  have nd := (sc__law_dot).nd
  ok_def (N := N__law_dot) Fn sc__law_dot rfl fun cdv A outer s H E hr tk hp =>
    sss_one (ss_ret (se_op d_add (se_op d_add (se_op d_mul (se_ix d_ix (se_var 0) (se_int)) (se_ix d_ix (se_var 1) (se_int))) (se_op d_mul (se_ix d_ix (se_var 0) (se_int)) (se_ix d_ix (se_var 1) (se_int)))) (se_op d_mul (se_ix d_ix (se_var 0) (se_int)) (se_ix d_ix (se_var 1) (se_int)))))
theorem cal__law_dot (B : Blts mg blts) (M : Facts K mg)  (Fn : FunD K "_law_dot" "_law_dot" (defArgs s__law_dot) (defBody s__law_dot) (defScope s__law_dot) [] [] f fd) (hm : mg "_law_dot" = some (.ref f)) : Cal P w K mg base "_law_dot" 1 2 f__law_dot :=
  cal_mk (N := N__law_dot) (ps := ["_law_one", "_law_other"]) Fn hm (fun _ _ _ _ _ _ us hl => match us, hl with | [_, _], _ => rfl) (ok__law_dot B M  Fn)
theorem ok__law_plate (B : Blts mg blts) (M : Facts K mg) (C__law_triple : Cal P w K mg base "_law_triple" 3 2 f__law_triple) (C__law_cross : Cal P w K mg base "_law_cross" 1 2 f__law_cross) (Fn : FunD K "_law_plate" "_law_plate" (defArgs s__law_plate) (defBody s__law_plate) (defScope s__law_plate) [] [] f fd) : FnOk P w K mg base (L2.CX P w) 4 f fd ["_law_cell", "_law_k"] (spD K 2 f__law_plate) :=
  have nd := (sc__law_plate).nd
  ok_def (N := N__law_plate) Fn sc__law_plate rfl fun cdv A outer s H E hr tk hp =>
    sss_cons (ss_set nd (se_callC C__law_triple tk (hr.mono (by decide)) (sa_cons (se_var 0) (sa_cons (se_op d_add (se_var 1) (se_int)) (sa_nil)))))
    (sss_cons (ss_if (st_cmp (d_eq hr.units) (se_var 2) (se_tup (sa_cons (se_int) (sa_cons (se_int) (sa_cons (se_int) (sa_nil))))) (nomark _)) (sss_one (ss_set nd (se_tup (sa_cons (se_int) (sa_cons (se_int) (sa_cons (se_int) (sa_nil))))))) (sss_nil))
    (sss_cons (ss_set nd (se_callC C__law_triple tk (hr.mono (by decide)) (sa_cons (se_var 0) (sa_cons (se_op d_add (se_var 1) (se_int)) (sa_nil)))))
    (sss_cons (ss_for hp rfl (si_any (se_lst (sa_cons (se_tup (sa_cons (se_int) (sa_cons (se_int) (sa_cons (se_int) (sa_nil))))) (sa_cons (se_tup (sa_cons (se_int) (sa_cons (se_int) (sa_cons (se_int) (sa_nil))))) (sa_cons (se_tup (sa_cons (se_int) (sa_cons (se_int) (sa_cons (se_int) (sa_nil))))) (sa_nil)))))) (pg_name (i := 4) nd rfl (by first | exact Or.inl rfl | exact Or.inr rfl)) (tg_name 4) (sss_one (ss_if (st_cmp (d_eq hr.units) (se_callC C__law_cross tk (hr.mono (by decide)) (sa_cons (se_var 2) (sa_cons (se_var 3) (sa_nil)))) (se_tup (sa_cons (se_int) (sa_cons (se_int) (sa_cons (se_int) (sa_nil))))) (nomark _)) (sss_one (ss_set nd (se_var 4))) (sss_nil))))
    (sss_one (ss_ret (se_tup (sa_cons (se_callC C__law_triple tk (hr.mono (by decide)) (sa_cons (se_var 0) (sa_cons (se_var 1) (sa_nil)))) (sa_cons (se_var 2) (sa_cons (se_var 3) (sa_nil))))))))))
theorem cal__law_plate (B : Blts mg blts) (M : Facts K mg) (C__law_triple : Cal P w K mg base "_law_triple" 3 2 f__law_triple) (C__law_cross : Cal P w K mg base "_law_cross" 1 2 f__law_cross) (Fn : FunD K "_law_plate" "_law_plate" (defArgs s__law_plate) (defBody s__law_plate) (defScope s__law_plate) [] [] f fd) (hm : mg "_law_plate" = some (.ref f)) : Cal P w K mg base "_law_plate" 4 2 f__law_plate :=
  cal_mk (N := N__law_plate) (ps := ["_law_cell", "_law_k"]) Fn hm (fun _ _ _ _ _ _ us hl => match us, hl with | [_, _], _ => rfl) (ok__law_plate B M C__law_triple C__law_cross Fn)
theorem ok__law_ahead (B : Blts mg blts) (M : Facts K mg) (C__law_dot : Cal P w K mg base "_law_dot" 1 2 f__law_dot) (Fn : FunD K "_law_ahead" "_law_ahead" (defArgs s__law_ahead) (defBody s__law_ahead) (defScope s__law_ahead) [] [] f fd) : FnOk P w K mg base (L2.CX P w) 2 f fd ["_law_front", "_law_found"] (spD K 2 f__law_ahead) :=
  have nd := (sc__law_ahead).nd
  ok_def (N := N__law_ahead) Fn sc__law_ahead rfl fun cdv A outer s H E hr tk hp =>
    sss_cons (ss_if (st_cmp (d_lt) (se_callC C__law_dot tk (hr.mono (by decide)) (sa_cons (se_var 0) (sa_cons (se_var 1) (sa_nil)))) (se_int) (nomark _)) (sss_one (ss_set nd (se_tup (sa_cons (se_op d_sub (se_int) (se_ix d_ix (se_var 1) (se_int))) (sa_cons (se_op d_sub (se_int) (se_ix d_ix (se_var 1) (se_int))) (sa_cons (se_op d_sub (se_int) (se_ix d_ix (se_var 1) (se_int))) (sa_nil))))))) (sss_nil))
    (sss_cons (ss_for hp rfl (si_any (se_lst (sa_cons (se_tup (sa_cons (se_int) (sa_cons (se_int) (sa_cons (se_int) (sa_nil))))) (sa_cons (se_tup (sa_cons (se_int) (sa_cons (se_int) (sa_cons (se_int) (sa_nil))))) (sa_cons (se_tup (sa_cons (se_int) (sa_cons (se_int) (sa_cons (se_int) (sa_nil))))) (sa_nil)))))) (pg_name (i := 2) nd rfl (by first | exact Or.inl rfl | exact Or.inr rfl)) (tg_name 2) (sss_one (ss_if (st_cmp (d_eq hr.units) (se_callC C__law_dot tk (hr.mono (by decide)) (sa_cons (se_var 0) (sa_cons (se_var 1) (sa_nil)))) (se_int) (nomark _)) (sss_cons (ss_set nd (se_ix d_ix (se_lst (sa_cons (se_int) (sa_cons (se_un d_neg (se_int)) (sa_nil)))) (se_bty d_int (B.at 5) (sa_cons (se_cmp (d_lt) (se_callC C__law_dot tk (hr.mono (by decide)) (sa_cons (se_var 0) (sa_cons (se_var 2) (sa_nil)))) (se_int) (nomark _)) (sa_nil)))))
      (sss_one (ss_set nd (se_bty d_tuple (B.at 2) (sa_cons (se_comp (own := [("_law_one", 4), ("_law_more", 5)]) rfl nd (blkOk_by (N := N__law_ahead) (sc := defScope s__law_ahead) (by decide +kernel)) (si_zip (B.at 6) (sa_cons (se_var 1) (sa_cons (se_var 2) (sa_nil)))) (tg_seq (tgs_cons (tg_name 4) (tgs_cons (tg_name 5) (tgs_nil)))) (fun _ _ _ _ _ => pg_seq rfl (pgs_cons (pg_name (i := 4) nd rfl (by first | exact Or.inl rfl | exact Or.inr rfl)) (pgs_cons (pg_name (i := 5) nd rfl (by first | exact Or.inl rfl | exact Or.inr rfl)) (pgs_nil)))) (fun _ _ _ _ _ => sif_nil) (fun _ _ _ _ _ => se_op d_add (se_var 4) (se_op d_mul (se_var 3) (se_var 5)))) (sa_nil)))))) (sss_nil))))
    (sss_one (ss_ret (se_var 1))))
theorem cal__law_ahead (B : Blts mg blts) (M : Facts K mg) (C__law_dot : Cal P w K mg base "_law_dot" 1 2 f__law_dot) (Fn : FunD K "_law_ahead" "_law_ahead" (defArgs s__law_ahead) (defBody s__law_ahead) (defScope s__law_ahead) [] [] f fd) (hm : mg "_law_ahead" = some (.ref f)) : Cal P w K mg base "_law_ahead" 2 2 f__law_ahead :=
  cal_mk (N := N__law_ahead) (ps := ["_law_front", "_law_found"]) Fn hm (fun _ _ _ _ _ _ us hl => match us, hl with | [_, _], _ => rfl) (ok__law_ahead B M C__law_dot Fn)
theorem ok__law_tip (B : Blts mg blts) (M : Facts K mg) (C__law_cross : Cal P w K mg base "_law_cross" 1 2 f__law_cross) (C__law_ahead : Cal P w K mg base "_law_ahead" 2 2 f__law_ahead) (C__law_draw : Cal P w K mg base "_law_draw" 1 3 f__law_draw) (Fn : FunD K "_law_tip" "_law_tip" (defArgs s__law_tip) (defBody s__law_tip) (defScope s__law_tip) [] [] f fd) : FnOk P w K mg base (L2.CX P w) 3 f fd ["_law_plate_here", "_law_cell"] (spD K 2 f__law_tip) :=
  have nd := (sc__law_tip).nd
  ok_def (N := N__law_tip) Fn sc__law_tip rfl fun cdv A outer s H E hr tk hp =>
    sss_cons (ss_set nd (se_callC C__law_cross tk (hr.mono (by decide)) (sa_cons (se_ix d_ix (se_var 0) (se_int)) (sa_cons (se_ix d_ix (se_var 0) (se_int)) (sa_nil)))))
    (sss_cons (ss_set nd (se_callC C__law_ahead tk (hr.mono (by decide)) (sa_cons (se_var 2) (sa_cons (se_bty d_tuple (B.at 2) (sa_cons (se_comp (own := [("_law_k", 4)]) rfl nd (blkOk_by (N := N__law_tip) (sc := defScope s__law_tip) (by decide +kernel)) (si_range1 (B.at 4) (sa_cons (se_int) (sa_nil))) (tg_name 4) (fun _ _ _ _ _ => pg_name (i := 4) nd rfl (by first | exact Or.inl rfl | exact Or.inr rfl)) (fun _ _ _ _ _ => sif_nil) (fun _ _ _ _ _ => se_op d_sub (se_callC C__law_draw takes0 (hr.mono (by decide)) (sa_cons (se_var 1) (sa_cons (se_op d_add (se_int) (se_var 4)) (sa_cons (se_int) (sa_nil))))) (se_int))) (sa_nil))) (sa_nil)))))
    (sss_one (ss_ret (se_bty d_tuple (B.at 2) (sa_cons (se_comp (own := [("_law_one", 5), ("_law_more", 6)]) rfl nd (blkOk_by (N := N__law_tip) (sc := defScope s__law_tip) (by decide +kernel)) (si_zip (B.at 6) (sa_cons (se_ix d_ix (se_var 0) (se_int)) (sa_cons (se_var 3) (sa_nil)))) (tg_seq (tgs_cons (tg_name 5) (tgs_cons (tg_name 6) (tgs_nil)))) (fun _ _ _ _ _ => pg_seq rfl (pgs_cons (pg_name (i := 5) nd rfl (by first | exact Or.inl rfl | exact Or.inr rfl)) (pgs_cons (pg_name (i := 6) nd rfl (by first | exact Or.inl rfl | exact Or.inr rfl)) (pgs_nil)))) (fun _ _ _ _ _ => sif_nil) (fun _ _ _ _ _ => se_op d_add (se_var 5) (se_var 6))) (sa_nil))))))
theorem cal__law_tip (B : Blts mg blts) (M : Facts K mg) (C__law_cross : Cal P w K mg base "_law_cross" 1 2 f__law_cross) (C__law_ahead : Cal P w K mg base "_law_ahead" 2 2 f__law_ahead) (C__law_draw : Cal P w K mg base "_law_draw" 1 3 f__law_draw) (Fn : FunD K "_law_tip" "_law_tip" (defArgs s__law_tip) (defBody s__law_tip) (defScope s__law_tip) [] [] f fd) (hm : mg "_law_tip" = some (.ref f)) : Cal P w K mg base "_law_tip" 3 2 f__law_tip :=
  cal_mk (N := N__law_tip) (ps := ["_law_plate_here", "_law_cell"]) Fn hm (fun _ _ _ _ _ _ us hl => match us, hl with | [_, _], _ => rfl) (ok__law_tip B M C__law_cross C__law_ahead C__law_draw Fn)
theorem ok__law_names (B : Blts mg blts) (M : Facts K mg) (C__law_draw : Cal P w K mg base "_law_draw" 1 3 f__law_draw) (Fn : FunD K "_law_names" "_law_names" (defArgs s__law_names) (defBody s__law_names) (defScope s__law_names) [] [] f fd) : FnOk P w K mg base (L2.CX P w) 2 f fd ["_law_cell", "_law_many"] (spD K 2 f__law_names) :=
  have nd := (sc__law_names).nd
  ok_def (N := N__law_names) Fn sc__law_names rfl fun cdv A outer s H E hr tk hp =>
    sss_cons (ss_set nd (se_str))
    (sss_cons (ss_set nd (se_join (se_str) (se_comp (own := [("_law_k", 6)]) rfl nd (blkOk_by (N := N__law_names) (sc := defScope s__law_names) (by decide +kernel)) (si_range1 (B.at 4) (sa_cons (se_callC C__law_draw tk (hr.mono (by decide)) (sa_cons (se_var 0) (sa_cons (se_int) (sa_cons (se_int) (sa_nil))))) (sa_nil))) (tg_name 6) (fun _ _ _ _ _ => pg_name (i := 6) nd rfl (by first | exact Or.inl rfl | exact Or.inr rfl)) (fun _ _ _ _ _ => sif_nil) (fun _ _ _ _ _ => se_ix d_ix (se_var 2) (se_callC C__law_draw takes0 (hr.mono (by decide)) (sa_cons (se_var 0) (sa_cons (se_op d_add (se_int) (se_var 6)) (sa_cons (se_int) (sa_nil)))))))))
    (sss_cons (ss_set nd (se_callC C__law_draw tk (hr.mono (by decide)) (sa_cons (se_var 0) (sa_cons (se_int) (sa_cons (se_op d_add (se_blt d_len (B.at 3) (sa_cons (se_var 3) (sa_nil))) (se_int)) (sa_nil))))))
    (sss_cons (ss_own nd (sa_nil))
    (sss_cons (ss_for hp rfl (si_range1 (B.at 4) (sa_cons (se_var 1) (sa_nil))) (pg_name (i := 6) nd rfl (by first | exact Or.inl rfl | exact Or.inr rfl)) (tg_name 6) (sss_cons (ss_set nd (se_op d_add (se_ix d_ix (se_var 2) (se_op d_mod (se_op d_mul (se_var 6) (se_int)) (se_int))) (se_ix d_ix (se_lst (sa_cons (se_str) (sa_cons (se_str) (sa_nil)))) (se_op d_div (se_var 6) (se_int)))))
     (sss_one (ss_app 5 (se_op d_add (se_op d_add (se_sliceS (se_var 3) (so_none) (so_some (se_var 4))) (se_var 7)) (se_sliceS (se_var 3) (so_some (se_var 4)) (so_none)))))))
    (sss_one (ss_freeze 5 (ss_ret (se_var 5))))))))
theorem cal__law_names (B : Blts mg blts) (M : Facts K mg) (C__law_draw : Cal P w K mg base "_law_draw" 1 3 f__law_draw) (Fn : FunD K "_law_names" "_law_names" (defArgs s__law_names) (defBody s__law_names) (defScope s__law_names) [] [] f fd) (hm : mg "_law_names" = some (.ref f)) : Cal P w K mg base "_law_names" 2 2 f__law_names :=
  cal_mk (N := N__law_names) (ps := ["_law_cell", "_law_many"]) Fn hm (fun _ _ _ _ _ _ us hl => match us, hl with | [_, _], _ => rfl) (ok__law_names B M C__law_draw Fn)
theorem ok__law_sun (B : Blts mg blts) (M : Facts K mg) (C__law_draw : Cal P w K mg base "_law_draw" 1 3 f__law_draw) (C__law_triple : Cal P w K mg base "_law_triple" 3 2 f__law_triple) (Fn : FunD K "_law_sun" "_law_sun" (defArgs s__law_sun) (defBody s__law_sun) (defScope s__law_sun) [] [] f fd) : FnOk P w K mg base (L2.CX P w) 4 f fd ["_law_cells", "_law_many"] (spD K 2 f__law_sun) :=
  have nd := (sc__law_sun).nd
  ok_def (N := N__law_sun) Fn sc__law_sun rfl fun cdv A outer s H E hr tk hp =>
    sss_cons (ss_own nd (sa_nil))
    (sss_cons (ss_set nd (se_callC C__law_draw tk (hr.mono (by decide)) (sa_cons (se_ix d_ix (se_var 0) (se_int)) (sa_cons (se_int) (sa_cons (se_int) (sa_nil))))))
    (sss_cons (ss_for hp rfl (si_range1 (B.at 4) (sa_cons (se_var 1) (sa_nil))) (pg_name (i := 4) nd rfl (by first | exact Or.inl rfl | exact Or.inr rfl)) (tg_name 4) (sss_cons (ss_set nd (se_op d_add (se_ix d_ix (se_var 0) (se_op d_mod (se_var 4) (se_blt d_len (B.at 3) (sa_cons (se_var 0) (sa_nil))))) (se_op d_mul (se_int) (se_var 4))))
     (sss_cons (ss_set nd (se_callC C__law_triple tk (hr.mono (by decide)) (sa_cons (se_var 5) (sa_cons (se_int) (sa_nil)))))
     (sss_cons (ss_if (st_cmp (d_eq hr.units) (se_callC C__law_draw tk (hr.mono (by decide)) (sa_cons (se_var 5) (sa_cons (se_int) (sa_cons (se_int) (sa_nil))))) (se_int) (nomark _)) (sss_one (ss_set nd (se_tup (sa_cons (se_op d_pow (se_int) (se_int)) (sa_cons (se_op d_sub (se_int) (se_op d_pow (se_int) (se_int))) (sa_cons (se_ix d_ix (se_var 6) (se_int)) (sa_nil))))))) (sss_nil))
     (sss_cons (ss_if (st_cmp (d_eq hr.units) (se_var 6) (se_tup (sa_cons (se_int) (sa_cons (se_int) (sa_cons (se_int) (sa_nil))))) (nomark _)) (sss_one (ss_set nd (se_tup (sa_cons (se_int) (sa_cons (se_int) (sa_cons (se_int) (sa_nil))))))) (sss_nil))
     (sss_cons (ss_app 2 (se_tup (sa_cons (se_var 3) (sa_cons (se_var 6) (sa_nil)))))
     (sss_one (ss_set nd (se_op d_add (se_op d_add (se_var 3) (se_int)) (se_callC C__law_draw tk (hr.mono (by decide)) (sa_cons (se_var 5) (sa_cons (se_int) (sa_cons (se_int) (sa_nil))))))))))))))
    (sss_one (ss_freeze 2 (ss_ret (se_var 2))))))
theorem cal__law_sun (B : Blts mg blts) (M : Facts K mg) (C__law_draw : Cal P w K mg base "_law_draw" 1 3 f__law_draw) (C__law_triple : Cal P w K mg base "_law_triple" 3 2 f__law_triple) (Fn : FunD K "_law_sun" "_law_sun" (defArgs s__law_sun) (defBody s__law_sun) (defScope s__law_sun) [] [] f fd) (hm : mg "_law_sun" = some (.ref f)) : Cal P w K mg base "_law_sun" 4 2 f__law_sun :=
  cal_mk (N := N__law_sun) (ps := ["_law_cells", "_law_many"]) Fn hm (fun _ _ _ _ _ _ us hl => match us, hl with | [_, _], _ => rfl) (ok__law_sun B M C__law_draw C__law_triple Fn)
theorem ok__law_yard (B : Blts mg blts) (M : Facts K mg) (C__law_cell_at : Cal P w K mg base "_law_cell_at" 1 2 f__law_cell_at) (C__law_draw : Cal P w K mg base "_law_draw" 1 3 f__law_draw) (C__law_names : Cal P w K mg base "_law_names" 2 2 f__law_names) (C__law_plate : Cal P w K mg base "_law_plate" 4 2 f__law_plate) (C__law_tip : Cal P w K mg base "_law_tip" 3 2 f__law_tip) (C__law_sun : Cal P w K mg base "_law_sun" 4 2 f__law_sun) (Fn : FunD K "_law_yard" "_law_yard" (defArgs s__law_yard) (defBody s__law_yard) (defScope s__law_yard) [] [] f fd) : FnOk P w K mg base (L2.CX P w) 5 f fd ["_law_script"] (spD K 1 f__law_yard) :=
  have nd := (sc__law_yard).nd
  ok_def (N := N__law_yard) Fn sc__law_yard rfl fun cdv A outer s H E hr tk hp =>
    sss_cons (ss_set nd (se_callC C__law_cell_at tk (hr.mono (by decide)) (sa_cons (se_var 0) (sa_cons (se_int) (sa_nil)))))
    (sss_cons (ss_set nd (se_op d_add (se_slice (se_var 0) (so_some (se_int)) (so_some (se_int))) (se_lst (sa_cons (se_var 1) (sa_nil)))))
    (sss_cons (ss_setc (own := [("_law_k", 7)]) rfl nd (sw_true rfl rfl rfl (by decide +kernel)) (blkOk_by (N := N__law_yard) (sc := defScope s__law_yard) (by decide +kernel)) (si_range1 (B.at 4) (sa_cons (se_int) (sa_nil))) (tg_name 7) (fun _ _ _ _ _ => pg_name (i := 7) nd rfl (by first | exact Or.inl rfl | exact Or.inr rfl)) (fun _ _ _ _ _ => sif_nil) (fun _ _ _ _ _ => se_ix d_ix (se_lst (sa_cons (se_int) (sa_cons (se_int) (sa_cons (se_int) (sa_nil))))) (se_callC C__law_draw takes0 (hr.mono (by decide)) (sa_cons (se_var 1) (sa_cons (se_var 7) (sa_cons (se_int) (sa_nil)))))))
    (sss_cons (ss_if (st_cmp (d_eq hr.units) (se_callC C__law_draw tk (hr.mono (by decide)) (sa_cons (se_var 1) (sa_cons (se_int) (sa_cons (se_int) (sa_nil))))) (se_int) (nomark _)) (sss_one (ss_set nd (se_lst (sa_cons (se_callC C__law_draw tk (hr.mono (by decide)) (sa_cons (se_var 1) (sa_cons (se_int) (sa_cons (se_int) (sa_nil))))) (sa_cons (se_int) (sa_cons (se_callC C__law_draw tk (hr.mono (by decide)) (sa_cons (se_var 1) (sa_cons (se_int) (sa_cons (se_int) (sa_nil))))) (sa_nil))))))) (sss_nil))
    (sss_cons (ss_if (st_cmp (d_eq hr.units) (se_callC C__law_draw tk (hr.mono (by decide)) (sa_cons (se_var 1) (sa_cons (se_int) (sa_cons (se_int) (sa_nil))))) (se_int) (nomark _)) (sss_one (ss_set nd (se_lst (sa_cons (se_callC C__law_draw tk (hr.mono (by decide)) (sa_cons (se_var 1) (sa_cons (se_int) (sa_cons (se_int) (sa_nil))))) (sa_cons (se_callC C__law_draw tk (hr.mono (by decide)) (sa_cons (se_var 1) (sa_cons (se_int) (sa_cons (se_int) (sa_nil))))) (sa_cons (se_int) (sa_nil))))))) (sss_nil))
    (sss_cons (ss_set nd (se_callC C__law_names tk (hr.mono (by decide)) (sa_cons (se_callC C__law_cell_at tk (hr.mono (by decide)) (sa_cons (se_var 0) (sa_cons (se_int) (sa_nil)))) (sa_cons (se_op d_add (se_ix d_ix (se_var 3) (se_int)) (se_ix d_ix (se_var 3) (se_int))) (sa_nil)))))
    (sss_cons (ss_own nd (sa_nil))
    (sss_cons (ss_own nd (sa_nil))
    (sss_cons (ss_for hp rfl (si_range1 (B.at 4) (sa_cons (se_op d_add (se_ix d_ix (se_var 3) (se_int)) (se_ix d_ix (se_var 3) (se_int))) (sa_nil))) (pg_name (i := 7) nd rfl (by first | exact Or.inl rfl | exact Or.inr rfl)) (tg_name 7) (sss_cons (ss_set nd (se_op d_add (se_ix d_ix (se_var 2) (se_op d_mod (se_var 7) (se_blt d_len (B.at 3) (sa_cons (se_var 2) (sa_nil))))) (se_op d_mul (se_int) (se_op d_div (se_var 7) (se_blt d_len (B.at 3) (sa_cons (se_var 2) (sa_nil)))))))
     (sss_cons (ss_set nd (se_callC C__law_plate tk (hr.mono (by decide)) (sa_cons (se_var 8) (sa_cons (se_int) (sa_nil)))))
     (sss_one (ss_if (st_cmp (d_lt) (se_var 7) (se_ix d_ix (se_var 3) (se_int)) (nomark _)) (sss_one (ss_app 5 (se_tup (sa_cons (se_ix d_ix (se_var 4) (se_var 7)) (sa_cons (se_var 9) (sa_nil)))))) (sss_one (ss_app 6 (se_tup (sa_cons (se_ix d_ix (se_var 4) (se_var 7)) (sa_cons (se_var 9) (sa_cons (se_callC C__law_tip tk (hr.mono (by decide)) (sa_cons (se_var 9) (sa_cons (se_var 8) (sa_nil)))) (sa_nil))))))))))))
    (sss_one (ss_freeze 6 (ss_freeze 5 (ss_ret (se_tup (sa_cons (se_callC C__law_sun tk (hr.mono (by decide)) (sa_cons (se_var 2) (sa_cons (se_op d_add (se_int) (se_ix d_ix (se_var 3) (se_int))) (sa_nil)))) (sa_cons (se_var 5) (sa_cons (se_var 6) (sa_nil)))))))))))))))))
theorem cal__law_yard (B : Blts mg blts) (M : Facts K mg) (C__law_cell_at : Cal P w K mg base "_law_cell_at" 1 2 f__law_cell_at) (C__law_draw : Cal P w K mg base "_law_draw" 1 3 f__law_draw) (C__law_names : Cal P w K mg base "_law_names" 2 2 f__law_names) (C__law_plate : Cal P w K mg base "_law_plate" 4 2 f__law_plate) (C__law_tip : Cal P w K mg base "_law_tip" 3 2 f__law_tip) (C__law_sun : Cal P w K mg base "_law_sun" 4 2 f__law_sun) (Fn : FunD K "_law_yard" "_law_yard" (defArgs s__law_yard) (defBody s__law_yard) (defScope s__law_yard) [] [] f fd) (hm : mg "_law_yard" = some (.ref f)) : Cal P w K mg base "_law_yard" 5 1 f__law_yard :=
  cal_mk (N := N__law_yard) (ps := ["_law_script"]) Fn hm (fun _ _ _ _ _ _ us hl => match us, hl with | [_], _ => rfl) (ok__law_yard B M C__law_cell_at C__law_draw C__law_names C__law_plate C__law_tip C__law_sun Fn)
theorem rl__law_alike : ∀ n : Nat, ∀ ds : List D, ds.length ≠ 2 → r__law_alike n ds = .bad
  | 0, _, h => fnD_len h
  | _ + 1, _, h => fnD_len h
theorem okr__law_alike (B : Blts mg blts) (M : Facts K mg)  (Fn : FunD K "_law_alike" "_law_alike" (defArgs s__law_alike) (defBody s__law_alike) (defScope s__law_alike) [] [] f fd) (hm : mg "_law_alike" = some (.ref f)) : ∀ n : Nat, FnOk P w K mg base (L2.CX P w) (1 + n) f fd ["_law_found", "_law_due"] (spD K 2 (r__law_alike n))
  | 0 => ok_def (N := N__law_alike) (k := 0) Fn sc__law_alike rfl fun cdv A outer s H E hr tk hp => sss_bad
  | n + 1 => by
    have nd := (sc__law_alike).nd
    have C__law_alike : Cal P w K mg base "_law_alike" (1 + n) 2 (r__law_alike n) := cal_of (ps := ["_law_found", "_law_due"]) Fn hm (fun _ _ _ _ _ _ us hl => match us, hl with | [_, _], _ => rfl) (okr__law_alike B M  Fn hm n) (rl__law_alike n)
    exact ok_def (N := N__law_alike) (k := 1 + n) Fn sc__law_alike rfl fun cdv A outer s H E hr tk hp =>
        sss_cons (ss_if (st_val (se_blt d_isi (B.at 7) (sa_cons (se_var 1) (sa_cons (se_ty (B.at 5)) (sa_nil))))) (sss_one (ss_ret (se_and (se_blt d_isi (B.at 7) (sa_cons (se_var 0) (sa_cons (se_ty (B.at 5)) (sa_nil)))) (se_and (se_not (se_blt d_isi (B.at 7) (sa_cons (se_var 0) (sa_cons (se_ty (B.at 8)) (sa_nil))))) (se_one (se_cmp (d_eq hr.units) (se_var 0) (se_var 1) (nomark _))))))) (sss_nil))
        (sss_cons (ss_if (st_val (se_blt d_isi (B.at 7) (sa_cons (se_var 1) (sa_cons (se_ty (B.at 9)) (sa_nil))))) (sss_one (ss_ret (se_and (se_blt d_isi (B.at 7) (sa_cons (se_var 0) (sa_cons (se_ty (B.at 9)) (sa_nil)))) (se_one (se_cmp (d_eq hr.units) (se_var 0) (se_var 1) (nomark _)))))) (sss_nil))
        (sss_cons (ss_if (st_bool (sw_or (st_cmp (d_ne hr.units) (se_blt d_isi (B.at 7) (sa_cons (se_var 1) (sa_cons (se_ty (B.at 1)) (sa_nil)))) (se_blt d_isi (B.at 7) (sa_cons (se_var 0) (sa_cons (se_ty (B.at 1)) (sa_nil)))) (nomark _)) (sw_or1 (st_cmp (d_ne hr.units) (se_blt d_isi (B.at 7) (sa_cons (se_var 1) (sa_cons (se_ty (B.at 2)) (sa_nil)))) (se_blt d_isi (B.at 7) (sa_cons (se_var 0) (sa_cons (se_ty (B.at 2)) (sa_nil)))) (nomark _))))) (sss_one (ss_ret (se_bl))) (sss_nil))
        (sss_one (ss_ret (se_and (se_cmp (d_eq hr.units) (se_blt d_len (B.at 3) (sa_cons (se_var 0) (sa_nil))) (se_blt d_len (B.at 3) (sa_cons (se_var 1) (sa_nil))) (nomark _)) (se_one (se_blt (d_allB rfl) (B.at 10) (sa_cons (se_comp (own := [("_law_one", 2), ("_law_other", 3)]) rfl nd (blkOk_by (N := N__law_alike) (sc := defScope s__law_alike) (by decide +kernel)) (si_zip (B.at 6) (sa_cons (se_var 0) (sa_cons (se_var 1) (sa_nil)))) (tg_seq (tgs_cons (tg_name 2) (tgs_cons (tg_name 3) (tgs_nil)))) (fun _ _ _ _ _ => pg_seq rfl (pgs_cons (pg_name (i := 2) nd rfl (by first | exact Or.inl rfl | exact Or.inr rfl)) (pgs_cons (pg_name (i := 3) nd rfl (by first | exact Or.inl rfl | exact Or.inr rfl)) (pgs_nil)))) (fun _ _ _ _ _ => sif_nil) (fun _ _ _ _ _ => se_callC C__law_alike takes0 (hr.mono (by omega)) (sa_cons (se_var 2) (sa_cons (se_var 3) (sa_nil))))) (sa_nil)))))))))
theorem cal__law_alike (B : Blts mg blts) (M : Facts K mg)  (Fn : FunD K "_law_alike" "_law_alike" (defArgs s__law_alike) (defBody s__law_alike) (defScope s__law_alike) [] [] f fd) (hm : mg "_law_alike" = some (.ref f)) : Cal P w K mg base "_law_alike" 9 2 f__law_alike :=
  cal_of (ps := ["_law_found", "_law_due"]) Fn hm (fun _ _ _ _ _ _ us hl => match us, hl with | [_, _], _ => rfl) (okr__law_alike B M  Fn hm 8) (rl__law_alike 8)
theorem ok__law_moved (B : Blts mg blts) (M : Facts K mg)  (Fn : FunD K "_law_moved" "_law_moved" (defArgs s__law_moved) (defBody s__law_moved) (defScope s__law_moved) [] [] f fd) : FnOk P w K mg base (L2.CX P w) 1 f fd ["_law_yard_here", "_law_triple_here"] (spD K 2 f__law_moved) :=
  have nd := (sc__law_moved).nd
  ok_def (N := N__law_moved) Fn sc__law_moved rfl fun cdv A outer s H E hr tk hp =>
    sss_cons (ss_own nd (sa_nil))
    (sss_cons (ss_own nd (sa_nil))
    (sss_cons (ss_for hp rfl (si_any (se_ix d_ix (se_var 0) (se_int))) (pg_seq rfl (pgs_cons (pg_name (i := 4) nd rfl (by first | exact Or.inl rfl | exact Or.inr rfl)) (pgs_cons (pg_name (i := 5) nd rfl (by first | exact Or.inl rfl | exact Or.inr rfl)) (pgs_nil)))) (tg_seq (tgs_cons (tg_name 4) (tgs_cons (tg_name 5) (tgs_nil)))) (sss_one (ss_app 2 (se_tup (sa_cons (se_var 4) (sa_cons (se_tup (sa_cons (se_bty d_tuple (B.at 2) (sa_cons (se_comp (own := [("_law_a", 8), ("_law_b", 9)]) rfl nd (blkOk_by (N := N__law_moved) (sc := defScope s__law_moved) (by decide +kernel)) (si_zip (B.at 6) (sa_cons (se_ix d_ix (se_var 5) (se_int)) (sa_cons (se_var 1) (sa_nil)))) (tg_seq (tgs_cons (tg_name 8) (tgs_cons (tg_name 9) (tgs_nil)))) (fun _ _ _ _ _ => pg_seq rfl (pgs_cons (pg_name (i := 8) nd rfl (by first | exact Or.inl rfl | exact Or.inr rfl)) (pgs_cons (pg_name (i := 9) nd rfl (by first | exact Or.inl rfl | exact Or.inr rfl)) (pgs_nil)))) (fun _ _ _ _ _ => sif_nil) (fun _ _ _ _ _ => se_op d_add (se_var 8) (se_var 9))) (sa_nil))) (sa_cons (se_ix d_ix (se_var 5) (se_int)) (sa_cons (se_ix d_ix (se_var 5) (se_int)) (sa_nil))))) (sa_nil)))))))
    (sss_cons (ss_for hp rfl (si_any (se_ix d_ix (se_var 0) (se_int))) (pg_seq rfl (pgs_cons (pg_name (i := 4) nd rfl (by first | exact Or.inl rfl | exact Or.inr rfl)) (pgs_cons (pg_name (i := 5) nd rfl (by first | exact Or.inl rfl | exact Or.inr rfl)) (pgs_cons (pg_name (i := 6) nd rfl (by first | exact Or.inl rfl | exact Or.inr rfl)) (pgs_nil))))) (tg_seq (tgs_cons (tg_name 4) (tgs_cons (tg_name 5) (tgs_cons (tg_name 6) (tgs_nil))))) (sss_cons (ss_set nd (se_tup (sa_cons (se_bty d_tuple (B.at 2) (sa_cons (se_comp (own := [("_law_a", 8), ("_law_b", 9)]) rfl nd (blkOk_by (N := N__law_moved) (sc := defScope s__law_moved) (by decide +kernel)) (si_zip (B.at 6) (sa_cons (se_ix d_ix (se_var 5) (se_int)) (sa_cons (se_var 1) (sa_nil)))) (tg_seq (tgs_cons (tg_name 8) (tgs_cons (tg_name 9) (tgs_nil)))) (fun _ _ _ _ _ => pg_seq rfl (pgs_cons (pg_name (i := 8) nd rfl (by first | exact Or.inl rfl | exact Or.inr rfl)) (pgs_cons (pg_name (i := 9) nd rfl (by first | exact Or.inl rfl | exact Or.inr rfl)) (pgs_nil)))) (fun _ _ _ _ _ => sif_nil) (fun _ _ _ _ _ => se_op d_add (se_var 8) (se_var 9))) (sa_nil))) (sa_cons (se_ix d_ix (se_var 5) (se_int)) (sa_cons (se_ix d_ix (se_var 5) (se_int)) (sa_nil))))))
     (sss_one (ss_app 3 (se_tup (sa_cons (se_var 4) (sa_cons (se_var 7) (sa_cons (se_bty d_tuple (B.at 2) (sa_cons (se_comp (own := [("_law_a", 8), ("_law_b", 9)]) rfl nd (blkOk_by (N := N__law_moved) (sc := defScope s__law_moved) (by decide +kernel)) (si_zip (B.at 6) (sa_cons (se_var 6) (sa_cons (se_var 1) (sa_nil)))) (tg_seq (tgs_cons (tg_name 8) (tgs_cons (tg_name 9) (tgs_nil)))) (fun _ _ _ _ _ => pg_seq rfl (pgs_cons (pg_name (i := 8) nd rfl (by first | exact Or.inl rfl | exact Or.inr rfl)) (pgs_cons (pg_name (i := 9) nd rfl (by first | exact Or.inl rfl | exact Or.inr rfl)) (pgs_nil)))) (fun _ _ _ _ _ => sif_nil) (fun _ _ _ _ _ => se_op d_add (se_var 8) (se_var 9))) (sa_nil))) (sa_nil)))))))))
    (sss_one (ss_freeze 3 (ss_freeze 2 (ss_ret (se_tup (sa_cons (se_ix d_ix (se_var 0) (se_int)) (sa_cons (se_var 2) (sa_cons (se_var 3) (sa_nil))))))))))))
theorem cal__law_moved (B : Blts mg blts) (M : Facts K mg)  (Fn : FunD K "_law_moved" "_law_moved" (defArgs s__law_moved) (defBody s__law_moved) (defScope s__law_moved) [] [] f fd) (hm : mg "_law_moved" = some (.ref f)) : Cal P w K mg base "_law_moved" 1 2 f__law_moved :=
  cal_mk (N := N__law_moved) (ps := ["_law_yard_here", "_law_triple_here"]) Fn hm (fun _ _ _ _ _ _ us hl => match us, hl with | [_, _], _ => rfl) (ok__law_moved B M  Fn)
theorem ok__law_greater (B : Blts mg blts) (M : Facts K mg)  (Fn : FunD K "_law_greater" "_law_greater" (defArgs s__law_greater) (defBody s__law_greater) (defScope s__law_greater) [] [] f fd) : FnOk P w K mg base (L2.CX P w) 1 f fd ["_law_yard_here", "_law_many"] (spD K 2 f__law_greater) :=
  have nd := (sc__law_greater).nd
  ok_def (N := N__law_greater) Fn sc__law_greater rfl fun cdv A outer s H E hr tk hp =>
    sss_cons (ss_own nd (sa_nil))
    (sss_cons (ss_own nd (sa_nil))
    (sss_cons (ss_for hp rfl (si_any (se_ix d_ix (se_var 0) (se_int))) (pg_seq rfl (pgs_cons (pg_name (i := 4) nd rfl (by first | exact Or.inl rfl | exact Or.inr rfl)) (pgs_cons (pg_name (i := 5) nd rfl (by first | exact Or.inl rfl | exact Or.inr rfl)) (pgs_nil)))) (tg_seq (tgs_cons (tg_name 4) (tgs_cons (tg_name 5) (tgs_nil)))) (sss_one (ss_app 2 (se_tup (sa_cons (se_var 4) (sa_cons (se_bty d_tuple (B.at 2) (sa_cons (se_comp (own := [("_law_x", 8), ("_law_y", 9), ("_law_z", 10)]) rfl nd (blkOk_by (N := N__law_greater) (sc := defScope s__law_greater) (by decide +kernel)) (si_any (se_var 5)) (tg_seq (tgs_cons (tg_name 8) (tgs_cons (tg_name 9) (tgs_cons (tg_name 10) (tgs_nil))))) (fun _ _ _ _ _ => pg_seq rfl (pgs_cons (pg_name (i := 8) nd rfl (by first | exact Or.inl rfl | exact Or.inr rfl)) (pgs_cons (pg_name (i := 9) nd rfl (by first | exact Or.inl rfl | exact Or.inr rfl)) (pgs_cons (pg_name (i := 10) nd rfl (by first | exact Or.inl rfl | exact Or.inr rfl)) (pgs_nil))))) (fun _ _ _ _ _ => sif_nil) (fun _ _ _ _ _ => se_tup (sa_cons (se_op d_mul (se_var 1) (se_var 8)) (sa_cons (se_op d_mul (se_var 1) (se_var 9)) (sa_cons (se_op d_mul (se_var 1) (se_var 10)) (sa_nil)))))) (sa_nil))) (sa_nil)))))))
    (sss_cons (ss_for hp rfl (si_any (se_ix d_ix (se_var 0) (se_int))) (pg_seq rfl (pgs_cons (pg_name (i := 4) nd rfl (by first | exact Or.inl rfl | exact Or.inr rfl)) (pgs_cons (pg_name (i := 5) nd rfl (by first | exact Or.inl rfl | exact Or.inr rfl)) (pgs_cons (pg_name (i := 6) nd rfl (by first | exact Or.inl rfl | exact Or.inr rfl)) (pgs_nil))))) (tg_seq (tgs_cons (tg_name 4) (tgs_cons (tg_name 5) (tgs_cons (tg_name 6) (tgs_nil))))) (sss_cons (ss_set nd (se_bty d_tuple (B.at 2) (sa_cons (se_comp (own := [("_law_x", 8), ("_law_y", 9), ("_law_z", 10)]) rfl nd (blkOk_by (N := N__law_greater) (sc := defScope s__law_greater) (by decide +kernel)) (si_any (se_op d_add (se_var 5) (se_tup (sa_cons (se_var 6) (sa_nil))))) (tg_seq (tgs_cons (tg_name 8) (tgs_cons (tg_name 9) (tgs_cons (tg_name 10) (tgs_nil))))) (fun _ _ _ _ _ => pg_seq rfl (pgs_cons (pg_name (i := 8) nd rfl (by first | exact Or.inl rfl | exact Or.inr rfl)) (pgs_cons (pg_name (i := 9) nd rfl (by first | exact Or.inl rfl | exact Or.inr rfl)) (pgs_cons (pg_name (i := 10) nd rfl (by first | exact Or.inl rfl | exact Or.inr rfl)) (pgs_nil))))) (fun _ _ _ _ _ => sif_nil) (fun _ _ _ _ _ => se_tup (sa_cons (se_op d_mul (se_var 1) (se_var 8)) (sa_cons (se_op d_mul (se_var 1) (se_var 9)) (sa_cons (se_op d_mul (se_var 1) (se_var 10)) (sa_nil)))))) (sa_nil))))
     (sss_one (ss_app 3 (se_tup (sa_cons (se_var 4) (sa_cons (se_slice (se_var 7) (so_none) (so_some (se_int))) (sa_cons (se_ix d_ix (se_var 7) (se_int)) (sa_nil)))))))))
    (sss_one (ss_freeze 3 (ss_freeze 2 (ss_ret (se_tup (sa_cons (se_ix d_ix (se_var 0) (se_int)) (sa_cons (se_var 2) (sa_cons (se_var 3) (sa_nil))))))))))))
theorem cal__law_greater (B : Blts mg blts) (M : Facts K mg)  (Fn : FunD K "_law_greater" "_law_greater" (defArgs s__law_greater) (defBody s__law_greater) (defScope s__law_greater) [] [] f fd) (hm : mg "_law_greater" = some (.ref f)) : Cal P w K mg base "_law_greater" 1 2 f__law_greater :=
  cal_mk (N := N__law_greater) (ps := ["_law_yard_here", "_law_many"]) Fn hm (fun _ _ _ _ _ _ us hl => match us, hl with | [_, _], _ => rfl) (ok__law_greater B M  Fn)
theorem ok__law_numbers (B : Blts mg blts) (M : Facts K mg)  (Fn : FunD K "_law_numbers" "_law_numbers" (defArgs s__law_numbers) (defBody s__law_numbers) (defScope s__law_numbers) [] [] f fd) : FnOk P w K mg base (L2.CX P w) 1 f fd ["_law_yard_here"] (spD K 1 f__law_numbers) :=
  have nd := (sc__law_numbers).nd
  ok_def (N := N__law_numbers) Fn sc__law_numbers rfl fun cdv A outer s H E hr tk hp =>
    sss_cons (ss_own nd (sa_cons (se_int) (sa_nil)))
    (sss_cons (ss_for hp rfl (si_any (se_ix d_ix (se_var 0) (se_int))) (pg_seq rfl (pgs_cons (pg_name (i := 2) nd rfl (by first | exact Or.inl rfl | exact Or.inr rfl)) (pgs_cons (pg_name (i := 3) nd rfl (by first | exact Or.inl rfl | exact Or.inr rfl)) (pgs_nil)))) (tg_seq (tgs_cons (tg_name 2) (tgs_cons (tg_name 3) (tgs_nil)))) (sss_one (ss_extT 1 (se_op d_add (se_op d_add (se_ix d_ix (se_var 3) (se_int)) (se_ix d_ix (se_var 3) (se_int))) (se_ix d_ix (se_var 3) (se_int))))))
    (sss_cons (ss_for hp rfl (si_any (se_ix d_ix (se_var 0) (se_int))) (pg_seq rfl (pgs_cons (pg_name (i := 2) nd rfl (by first | exact Or.inl rfl | exact Or.inr rfl)) (pgs_cons (pg_name (i := 3) nd rfl (by first | exact Or.inl rfl | exact Or.inr rfl)) (pgs_cons (pg_name (i := 4) nd rfl (by first | exact Or.inl rfl | exact Or.inr rfl)) (pgs_nil))))) (tg_seq (tgs_cons (tg_name 2) (tgs_cons (tg_name 3) (tgs_cons (tg_name 4) (tgs_nil))))) (sss_one (ss_extT 1 (se_op d_add (se_op d_add (se_op d_add (se_ix d_ix (se_var 3) (se_int)) (se_ix d_ix (se_var 3) (se_int))) (se_ix d_ix (se_var 3) (se_int))) (se_var 4)))))
    (sss_one (ss_freeze 1 (ss_ret (se_var 1))))))
theorem cal__law_numbers (B : Blts mg blts) (M : Facts K mg)  (Fn : FunD K "_law_numbers" "_law_numbers" (defArgs s__law_numbers) (defBody s__law_numbers) (defScope s__law_numbers) [] [] f fd) (hm : mg "_law_numbers" = some (.ref f)) : Cal P w K mg base "_law_numbers" 1 1 f__law_numbers :=
  cal_mk (N := N__law_numbers) (ps := ["_law_yard_here"]) Fn hm (fun _ _ _ _ _ _ us hl => match us, hl with | [_], _ => rfl) (ok__law_numbers B M  Fn)
theorem ok__law_edges (B : Blts mg blts) (M : Facts K mg)  (Fn : FunD K "_law_edges" "_law_edges" (defArgs s__law_edges) (defBody s__law_edges) (defScope s__law_edges) [] [] f fd) : FnOk P w K mg base (L2.CX P w) 1 f fd ["_law_yard_here"] (spD K 1 f__law_edges) :=
  have nd := (sc__law_edges).nd
  ok_def (N := N__law_edges) Fn sc__law_edges rfl fun cdv A outer s H E hr tk hp =>
    sss_cons (ss_ownT nd (sao_n (seo_lst (sa_cons (se_int) (sa_nil))) (sao_n (seo_lst (sa_cons (se_int) (sa_nil))) (sao_n (seo_lst (sa_cons (se_int) (sa_nil))) (sao_nil)))))
    (sss_cons (ss_for hp rfl (si_any (se_op d_add (se_ix d_ix (se_var 0) (se_int)) (se_ix d_ix (se_var 0) (se_int)))) (pg_name (i := 2) nd rfl (by first | exact Or.inl rfl | exact Or.inr rfl)) (tg_name 2) (sss_one (ss_for hp rfl (si_range1 (B.at 4) (sa_cons (se_int) (sa_nil))) (pg_name (i := 3) nd rfl (by first | exact Or.inl rfl | exact Or.inr rfl)) (tg_name 3) (sss_cons (ss_appL 1 (se_var 3) (se_ix d_ix (se_ix d_ix (se_ix d_ix (se_var 2) (se_int)) (se_int)) (se_var 3)))
      (sss_one (ss_if (st_cmp (d_gt) (se_blt d_len (B.at 3) (sa_cons (se_var 2) (sa_nil))) (se_int) (nomark _)) (sss_one (ss_appL 1 (se_var 3) (se_ix d_ix (se_ix d_ix (se_var 2) (se_int)) (se_var 3)))) (sss_nil)))))))
    (sss_one (ss_freeze 1 (ss_ret (se_var 1)))))
theorem cal__law_edges (B : Blts mg blts) (M : Facts K mg)  (Fn : FunD K "_law_edges" "_law_edges" (defArgs s__law_edges) (defBody s__law_edges) (defScope s__law_edges) [] [] f fd) (hm : mg "_law_edges" = some (.ref f)) : Cal P w K mg base "_law_edges" 1 1 f__law_edges :=
  cal_mk (N := N__law_edges) (ps := ["_law_yard_here"]) Fn hm (fun _ _ _ _ _ _ us hl => match us, hl with | [_], _ => rfl) (ok__law_edges B M  Fn)
theorem ok__law_drawn (B : Blts mg blts) (M : Facts K mg) (C__law_edges : Cal P w K mg base "_law_edges" 1 1 f__law_edges) (C__law_draw : Cal P w K mg base "_law_draw" 1 3 f__law_draw) (Fn : FunD K "_law_drawn" "_law_drawn" (defArgs s__law_drawn) (defBody s__law_drawn) (defScope s__law_drawn) [] [] f fd) : FnOk P w K mg base (L2.CX P w) 2 f fd ["_law_yard_here", "_law_cell"] (spD K 2 f__law_drawn) :=
  have nd := (sc__law_drawn).nd
  ok_def (N := N__law_drawn) Fn sc__law_drawn rfl fun cdv A outer s H E hr tk hp =>
    sss_cons (ss_own nd (sa_nil))
    (sss_cons (ss_for hp rfl (si_enum (B.at 11) (sa_cons (se_callC C__law_edges tk (hr.mono (by decide)) (sa_cons (se_var 0) (sa_nil))) (sa_nil))) (pg_seq rfl (pgs_cons (pg_name (i := 3) nd rfl (by first | exact Or.inl rfl | exact Or.inr rfl)) (pgs_cons (pg_name (i := 4) nd rfl (by first | exact Or.inl rfl | exact Or.inr rfl)) (pgs_nil)))) (tg_seq (tgs_cons (tg_name 3) (tgs_cons (tg_name 4) (tgs_nil)))) (sss_cons (ss_set nd (se_callC C__law_draw tk (hr.mono (by decide)) (sa_cons (se_var 1) (sa_cons (se_var 3) (sa_cons (se_int) (sa_nil))))))
     (sss_cons (ss_set nd (se_op d_div (se_callC C__law_draw tk (hr.mono (by decide)) (sa_cons (se_var 1) (sa_cons (se_op d_add (se_int) (se_var 3)) (sa_cons (se_int) (sa_nil))))) (se_int)))
     (sss_one (ss_if (st_cmp (d_eq hr.units) (se_var 5) (se_int) (nomark _)) (sss_one (ss_app 2 (se_op d_add (se_op d_sub (se_op d_pow (se_int) (se_int)) (se_blt (d_max1 rfl) (B.at 12) (sa_cons (se_var 4) (sa_nil)))) (se_var 6)))) (sss_one (ss_if (st_cmp (d_eq hr.units) (se_var 5) (se_int) (nomark _)) (sss_one (ss_app 2 (se_op d_sub (se_op d_sub (se_op d_sub (se_int) (se_op d_pow (se_int) (se_int))) (se_blt (d_min1 rfl) (B.at 13) (sa_cons (se_var 4) (sa_nil)))) (se_var 6)))) (sss_one (ss_app 2 (se_op d_sub (se_callC C__law_draw tk (hr.mono (by decide)) (sa_cons (se_var 1) (sa_cons (se_op d_add (se_int) (se_var 3)) (sa_cons (se_int) (sa_nil))))) (se_int)))))))))))
    (sss_one (ss_freeze 2 (ss_ret (se_bty d_tuple (B.at 2) (sa_cons (se_var 2) (sa_nil)))))))
theorem cal__law_drawn (B : Blts mg blts) (M : Facts K mg) (C__law_edges : Cal P w K mg base "_law_edges" 1 1 f__law_edges) (C__law_draw : Cal P w K mg base "_law_draw" 1 3 f__law_draw) (Fn : FunD K "_law_drawn" "_law_drawn" (defArgs s__law_drawn) (defBody s__law_drawn) (defScope s__law_drawn) [] [] f fd) (hm : mg "_law_drawn" = some (.ref f)) : Cal P w K mg base "_law_drawn" 2 2 f__law_drawn :=
  cal_mk (N := N__law_drawn) (ps := ["_law_yard_here", "_law_cell"]) Fn hm (fun _ _ _ _ _ _ us hl => match us, hl with | [_, _], _ => rfl) (ok__law_drawn B M C__law_edges C__law_draw Fn)
theorem ok__law_told (B : Blts mg blts) (M : Facts K mg) (C_moved_yard : CalT P w K mg base "moved_yard" 5 2 f_moved_yard) (C_greater_yard : CalT P w K mg base "greater_yard" 5 2 f_greater_yard) (Fn : FunD K "_law_told" "_law_told" (defArgs s__law_told) (defBody s__law_told) (defScope s__law_told) [] [] f fd) : FnOk P w K mg base (L2.CX P w) 6 f fd ["_law_way", "_law_yard_here", "_law_more"] (spT K 3 f__law_told) :=
  have nd := (sc__law_told).nd
  okT_def (N := N__law_told) Fn sc__law_told rfl fun cdv A outer s H E hr tk hp =>
    ssst_cons (sst_lift (ss_set nd (se_non)))
    (ssst_cons (sst_lift (ss_set nd (se_non)))
    (ssst_cons (sst_lift (ss_tryAs M.xf nd tk (fun W pn xe tk hp => sss_one (ss_if (st_cmp (d_eq hr.units) (se_var 0) (se_int) (nomark _)) (sss_one (ss_setT C_moved_yard tk (hr.mono (by decide)) nd (sa_cons (se_var 1) (sa_cons (se_var 2) (sa_nil))))) (sss_one (ss_setT C_greater_yard tk (hr.mono (by decide)) nd (sa_cons (se_var 1) (sa_cons (se_var 2) (sa_nil))))))) (fun a pn => sss_one (ss_set nd (se_var 5)))))
    (ssst_cons (sst_if (st_cmp (d_isN) (se_var 3) (se_non) (nomark _)) (ssst_one (sst_retTr 4)) (ssst_nil))
    (ssst_cons (sst_if (st_val (se_blt (d_isx M.xf) (B.at 7) (sa_cons (se_var 3) (sa_cons (se_tup (sa_cons (se_gcls M.glo_NoBack) (sa_cons (se_gcls M.glo_NoHour) (sa_cons (se_gcls M.glo_NoName) (sa_cons (se_gcls M.glo_NoNumber) (sa_cons (se_gcls M.glo_NoPlate) (sa_cons (se_gcls M.glo_NoRow) (sa_cons (se_gcls M.glo_NoSay) (sa_cons (se_gcls M.glo_NoSun) (sa_cons (se_gcls M.glo_NotLit) (sa_cons (se_gcls M.glo_TooMany) (sa_nil)))))))))))) (sa_nil))))) (ssst_one (sst_retV (se_str))) (ssst_nil))
    (ssst_cons (sst_if (st_bool (sw_or (st_not (st_val (se_blt (d_isx M.xf) (B.at 7) (sa_cons (se_var 3) (sa_cons (se_gcls M.glo_NoYard) (sa_nil)))))) (sw_or (st_not (st_val (se_blt (d_isx M.xf) (B.at 7) (sa_cons (se_var 3) (sa_cons (se_ty (B.at 14)) (sa_nil)))))) (sw_or1 (st_cmp (d_notN) (se_xat M.xf M.na_name (se_var 3)) (se_non) (nomark _)))))) (ssst_one (sst_retV (se_str))) (ssst_nil))
    (ssst_one (sst_retV (se_str))))))))
theorem cal__law_told (B : Blts mg blts) (M : Facts K mg) (C_moved_yard : CalT P w K mg base "moved_yard" 5 2 f_moved_yard) (C_greater_yard : CalT P w K mg base "greater_yard" 5 2 f_greater_yard) (Fn : FunD K "_law_told" "_law_told" (defArgs s__law_told) (defBody s__law_told) (defScope s__law_told) [] [] f fd) (hm : mg "_law_told" = some (.ref f)) : CalT P w K mg base "_law_told" 6 3 f__law_told :=
  calT_mk (N := N__law_told) (ps := ["_law_way", "_law_yard_here", "_law_more"]) Fn hm (fun _ _ _ _ _ _ us hl => match us, hl with | [_, _, _], _ => rfl) (ok__law_told B M C_moved_yard C_greater_yard Fn)
theorem ok__law_fits (B : Blts mg blts) (M : Facts K mg) (C__law_numbers : Cal P w K mg base "_law_numbers" 1 1 f__law_numbers) (C__law_alike : Cal P w K mg base "_law_alike" 9 2 f__law_alike) (Fn : FunD K "_law_fits" "_law_fits" (defArgs s__law_fits) (defBody s__law_fits) (defScope s__law_fits) [] [] f fd) : FnOk P w K mg base (L2.CX P w) 10 f fd ["_law_found", "_law_due"] (spD K 2 f__law_fits) :=
  have nd := (sc__law_fits).nd
  ok_def (N := N__law_fits) Fn sc__law_fits rfl fun cdv A outer s H E hr tk hp =>
    sss_cons (ss_set nd (se_callC C__law_numbers tk (hr.mono (by decide)) (sa_cons (se_var 1) (sa_nil))))
    (sss_cons (ss_if (st_bool (sw_or (st_cmp (d_gt) (se_blt (d_max1 rfl) (B.at 12) (sa_cons (se_var 2) (sa_nil))) (se_op d_pow (se_int) (se_int)) (nomark _)) (sw_or1 (st_cmp (d_lt) (se_blt (d_min1 rfl) (B.at 13) (sa_cons (se_var 2) (sa_nil))) (se_op d_sub (se_int) (se_op d_pow (se_int) (se_int))) (nomark _))))) (sss_one (ss_ret (se_cmp (d_eq hr.units) (se_var 0) (se_str) (nomark _)))) (sss_nil))
    (sss_one (ss_ret (se_callC C__law_alike tk (hr.mono (by decide)) (sa_cons (se_var 0) (sa_cons (se_var 1) (sa_nil)))))))
theorem cal__law_fits (B : Blts mg blts) (M : Facts K mg) (C__law_numbers : Cal P w K mg base "_law_numbers" 1 1 f__law_numbers) (C__law_alike : Cal P w K mg base "_law_alike" 9 2 f__law_alike) (Fn : FunD K "_law_fits" "_law_fits" (defArgs s__law_fits) (defBody s__law_fits) (defScope s__law_fits) [] [] f fd) (hm : mg "_law_fits" = some (.ref f)) : Cal P w K mg base "_law_fits" 10 2 f__law_fits :=
  cal_mk (N := N__law_fits) (ps := ["_law_found", "_law_due"]) Fn hm (fun _ _ _ _ _ _ us hl => match us, hl with | [_, _], _ => rfl) (ok__law_fits B M C__law_numbers C__law_alike Fn)
theorem ok_law (B : Blts mg blts) (M : Facts K mg) (C__law_yard : Cal P w K mg base "_law_yard" 5 1 f__law_yard) (C__law_drawn : Cal P w K mg base "_law_drawn" 2 2 f__law_drawn) (C__law_cell_at : Cal P w K mg base "_law_cell_at" 1 2 f__law_cell_at) (C__law_numbers : Cal P w K mg base "_law_numbers" 1 1 f__law_numbers) (C__law_draw : Cal P w K mg base "_law_draw" 1 3 f__law_draw) (C__law_told : CalT P w K mg base "_law_told" 6 3 f__law_told) (C__law_fits : Cal P w K mg base "_law_fits" 10 2 f__law_fits) (C__law_moved : Cal P w K mg base "_law_moved" 1 2 f__law_moved) (C__law_greater : Cal P w K mg base "_law_greater" 1 2 f__law_greater) (C_moved_yard : CalT P w K mg base "moved_yard" 5 2 f_moved_yard) (C_greater_yard : CalT P w K mg base "greater_yard" 5 2 f_greater_yard) (Fn : FunD K "law" "law" (defArgs s_law) (defBody s_law) (defScope s_law) [] [] f fd) : FnOk P w K mg base (L2.CX P w) 11 f fd ["_law_script"] (spD K 1 f_law) :=
  have nd := (sc_law).nd
  ok_def (N := N_law) Fn sc_law rfl fun cdv A outer s H E hr tk hp =>
    sss_cons (ss_set nd (se_callC C__law_yard tk (hr.mono (by decide)) (sa_cons (se_var 0) (sa_nil))))
    (sss_cons (ss_set nd (se_callC C__law_drawn tk (hr.mono (by decide)) (sa_cons (se_var 1) (sa_cons (se_callC C__law_cell_at tk (hr.mono (by decide)) (sa_cons (se_var 0) (sa_cons (se_int) (sa_nil)))) (sa_nil)))))
    (sss_cons (ss_set nd (se_blt (d_max1 rfl) (B.at 12) (sa_cons (se_comp (own := [("_law_number_here", 12)]) rfl nd (blkOk_by (N := N_law) (sc := defScope s_law) (by decide +kernel)) (si_any (se_callC C__law_numbers tk (hr.mono (by decide)) (sa_cons (se_var 1) (sa_nil)))) (tg_name 12) (fun _ _ _ _ _ => pg_name (i := 12) nd rfl (by first | exact Or.inl rfl | exact Or.inr rfl)) (fun _ _ _ _ _ => sif_nil) (fun _ _ _ _ _ => se_blt d_abs (B.at 0) (sa_cons (se_var 12) (sa_nil)))) (sa_nil))))
    (sss_cons (ss_set nd (se_callC C__law_cell_at tk (hr.mono (by decide)) (sa_cons (se_var 0) (sa_cons (se_int) (sa_nil)))))
    (sss_cons (ss_set nd (se_blt (d_min2 rfl) (B.at 13) (sa_cons (se_int) (sa_cons (se_op d_div (se_op d_pow (se_int) (se_int)) (se_blt (d_max2 rfl) (B.at 12) (sa_cons (se_int) (sa_cons (se_var 3) (sa_nil))))) (sa_nil)))))
    (sss_cons (ss_set nd (se_ix d_ix (se_lst (sa_cons (se_op d_add (se_int) (se_callC C__law_draw tk (hr.mono (by decide)) (sa_cons (se_var 4) (sa_cons (se_int) (sa_cons (se_int) (sa_nil)))))) (sa_cons (se_blt (d_max2 rfl) (B.at 12) (sa_cons (se_int) (sa_cons (se_var 5) (sa_nil)))) (sa_cons (se_blt (d_min2 rfl) (B.at 13) (sa_cons (se_int) (sa_cons (se_op d_add (se_var 5) (se_int)) (sa_nil)))) (sa_nil))))) (se_callC C__law_draw tk (hr.mono (by decide)) (sa_cons (se_var 4) (sa_cons (se_int) (sa_cons (se_int) (sa_nil)))))))
    (sss_cons (ss_set nd (se_tup (sa_cons (se_bty d_list (B.at 1) (sa_cons (se_ix d_ix (se_var 1) (se_int)) (sa_nil))) (sa_cons (se_bty d_list (B.at 1) (sa_cons (se_ix d_ix (se_var 1) (se_int)) (sa_nil))) (sa_cons (se_bty d_list (B.at 1) (sa_cons (se_ix d_ix (se_var 1) (se_int)) (sa_nil))) (sa_nil))))))
    (sss_cons (ss_setT C__law_told tk (hr.mono (by decide)) nd (sa_cons (se_int) (sa_cons (se_var 7) (sa_cons (se_var 2) (sa_nil)))))
    (sss_cons (ss_if (st_peek 8 (st_bool (sw_or (st_not (st_val (se_callC C__law_fits tk (hr.mono (by decide)) (sa_cons (se_var 8) (sa_cons (se_callC C__law_moved tk (hr.mono (by decide)) (sa_cons (se_var 1) (sa_cons (se_var 2) (sa_nil)))) (sa_nil)))))) (sw_or1 (st_cmp (d_ne hr.units) (se_var 7) (se_var 1) (nomark _)))))) (sss_one (ss_ret (se_bl))) (sss_nil))
    (sss_cons (ss_if (st_bool (sw_or (st_not (st_val (se_callC C__law_fits tk (hr.mono (by decide)) (sa_cons (se_callK C__law_told tk (hr.mono (by decide)) (sa_cons (se_int) (sa_cons (se_var 7) (sa_cons (se_var 6) (sa_nil))))) (sa_cons (se_callC C__law_greater tk (hr.mono (by decide)) (sa_cons (se_var 1) (sa_cons (se_var 6) (sa_nil)))) (sa_nil)))))) (sw_or1 (st_cmp (d_ne hr.units) (se_var 7) (se_var 1) (nomark _))))) (sss_one (ss_ret (se_bl))) (sss_nil))
    (sss_cons (ss_if (st_peek 8 (st_bool (sw_and (st_cmp (d_ne hr.units) (se_var 8) (se_str) (nomark _)) (sw_and1 (st_cmp (d_ne hr.units) (se_callK C_moved_yard tk (hr.mono (by decide)) (sa_cons (se_var 8) (sa_cons (se_bty d_tuple (B.at 2) (sa_cons (se_comp (own := [("_law_one", 13)]) rfl nd (blkOk_by (N := N_law) (sc := defScope s_law) (by decide +kernel)) (si_any (se_var 2)) (tg_name 13) (fun _ _ _ _ _ => pg_name (i := 13) nd rfl (by first | exact Or.inl rfl | exact Or.inr rfl)) (fun _ _ _ _ _ => sif_nil) (fun _ _ _ _ _ => se_op d_sub (se_int) (se_var 13))) (sa_nil))) (sa_nil)))) (se_var 1) (nomark _)))))) (sss_one (ss_ret (se_bl))) (sss_nil))
    (sss_cons (ss_ownT nd (sao_c (set_call C_greater_yard tk (hr.mono (by decide)) (sa_cons (se_var 7) (sa_cons (se_int) (sa_nil)))) (sao_c (set_call C_moved_yard tk (hr.mono (by decide)) (sa_cons (se_var 7) (sa_cons (se_tup (sa_cons (se_int) (sa_cons (se_int) (sa_cons (se_int) (sa_nil))))) (sa_nil)))) (sao_nil))))
    (sss_cons (ss_if (st_peek 9 (st_cmp (d_ne hr.units) (se_var 9) (se_lst (sa_cons (se_var 1) (sa_cons (se_var 1) (sa_nil)))) (nomark _))) (sss_one (ss_ret (se_bl))) (sss_nil))
    (sss_cons (ss_if (st_peek 8 (st_cmp (d_ne hr.units) (se_var 8) (se_str) (nomark _))) (sss_one (ss_appTr 9 8)) (sss_nil))
    (sss_cons (ss_clear2 9 10 11 (hp := hp) (hc := rfl) (hN := nd))
    (sss_one (ss_ret (se_cmp (d_eq hr.units) (se_var 7) (se_var 1) (nomark _))))))))))))))))))
end
/-! ### the head -/
def d_triple_sum : He.DefD := ⟨("triple_sum", none), "triple_sum", "triple_sum", defArgs s_triple_sum, defBody s_triple_sum, defScope s_triple_sum, [], []⟩
def d_triple_times : He.DefD := ⟨("triple_times", none), "triple_times", "triple_times", defArgs s_triple_times, defBody s_triple_times, defScope s_triple_times, [], []⟩
def d_in_reach : He.DefD := ⟨("in_reach", none), "in_reach", "in_reach", defArgs s_in_reach, defBody s_in_reach, defScope s_in_reach, [], []⟩
def d_looked_through : He.DefD := ⟨("looked_through", none), "looked_through", "looked_through", defArgs s_looked_through, defBody s_looked_through, defScope s_looked_through, [], []⟩
def d_moved_plate : He.DefD := ⟨("moved_plate", none), "moved_plate", "moved_plate", defArgs s_moved_plate, defBody s_moved_plate, defScope s_moved_plate, [], []⟩
def d_moved_yard : He.DefD := ⟨("moved_yard", none), "moved_yard", "moved_yard", defArgs s_moved_yard, defBody s_moved_yard, defScope s_moved_yard, [], []⟩
def d_greater_plate : He.DefD := ⟨("greater_plate", none), "greater_plate", "greater_plate", defArgs s_greater_plate, defBody s_greater_plate, defScope s_greater_plate, [], []⟩
def d_greater_yard : He.DefD := ⟨("greater_yard", none), "greater_yard", "greater_yard", defArgs s_greater_yard, defBody s_greater_yard, defScope s_greater_yard, [], []⟩
def d__law_cell_at : He.DefD := ⟨("_law_cell_at", none), "_law_cell_at", "_law_cell_at", defArgs s__law_cell_at, defBody s__law_cell_at, defScope s__law_cell_at, [], []⟩
def d__law_draw : He.DefD := ⟨("_law_draw", none), "_law_draw", "_law_draw", defArgs s__law_draw, defBody s__law_draw, defScope s__law_draw, [], []⟩
def d__law_number : He.DefD := ⟨("_law_number", none), "_law_number", "_law_number", defArgs s__law_number, defBody s__law_number, defScope s__law_number, [], []⟩
def d__law_triple : He.DefD := ⟨("_law_triple", none), "_law_triple", "_law_triple", defArgs s__law_triple, defBody s__law_triple, defScope s__law_triple, [], []⟩
def d__law_cross : He.DefD := ⟨("_law_cross", none), "_law_cross", "_law_cross", defArgs s__law_cross, defBody s__law_cross, defScope s__law_cross, [], []⟩
def d__law_dot : He.DefD := ⟨("_law_dot", none), "_law_dot", "_law_dot", defArgs s__law_dot, defBody s__law_dot, defScope s__law_dot, [], []⟩
def d__law_plate : He.DefD := ⟨("_law_plate", none), "_law_plate", "_law_plate", defArgs s__law_plate, defBody s__law_plate, defScope s__law_plate, [], []⟩
def d__law_ahead : He.DefD := ⟨("_law_ahead", none), "_law_ahead", "_law_ahead", defArgs s__law_ahead, defBody s__law_ahead, defScope s__law_ahead, [], []⟩
def d__law_tip : He.DefD := ⟨("_law_tip", none), "_law_tip", "_law_tip", defArgs s__law_tip, defBody s__law_tip, defScope s__law_tip, [], []⟩
def d__law_names : He.DefD := ⟨("_law_names", none), "_law_names", "_law_names", defArgs s__law_names, defBody s__law_names, defScope s__law_names, [], []⟩
def d__law_sun : He.DefD := ⟨("_law_sun", none), "_law_sun", "_law_sun", defArgs s__law_sun, defBody s__law_sun, defScope s__law_sun, [], []⟩
def d__law_yard : He.DefD := ⟨("_law_yard", none), "_law_yard", "_law_yard", defArgs s__law_yard, defBody s__law_yard, defScope s__law_yard, [], []⟩
def d__law_alike : He.DefD := ⟨("_law_alike", none), "_law_alike", "_law_alike", defArgs s__law_alike, defBody s__law_alike, defScope s__law_alike, [], []⟩
def d__law_moved : He.DefD := ⟨("_law_moved", none), "_law_moved", "_law_moved", defArgs s__law_moved, defBody s__law_moved, defScope s__law_moved, [], []⟩
def d__law_greater : He.DefD := ⟨("_law_greater", none), "_law_greater", "_law_greater", defArgs s__law_greater, defBody s__law_greater, defScope s__law_greater, [], []⟩
def d__law_numbers : He.DefD := ⟨("_law_numbers", none), "_law_numbers", "_law_numbers", defArgs s__law_numbers, defBody s__law_numbers, defScope s__law_numbers, [], []⟩
def d__law_edges : He.DefD := ⟨("_law_edges", none), "_law_edges", "_law_edges", defArgs s__law_edges, defBody s__law_edges, defScope s__law_edges, [], []⟩
def d__law_drawn : He.DefD := ⟨("_law_drawn", none), "_law_drawn", "_law_drawn", defArgs s__law_drawn, defBody s__law_drawn, defScope s__law_drawn, [], []⟩
def d__law_told : He.DefD := ⟨("_law_told", none), "_law_told", "_law_told", defArgs s__law_told, defBody s__law_told, defScope s__law_told, [], []⟩
def d__law_fits : He.DefD := ⟨("_law_fits", none), "_law_fits", "_law_fits", defArgs s__law_fits, defBody s__law_fits, defScope s__law_fits, [], []⟩
def d_law : He.DefD := ⟨("law", none), "law", "law", defArgs s_law, defBody s_law, defScope s_law, [], []⟩
def di_NoYard : He.DefD := ⟨("NoYard", some "__init__"), "__init__", "NoYard.__init__", defArgs si_NoYard, defBody si_NoYard, defScope si_NoYard, [], []⟩
def fn : List He.DefD := [d_triple_sum, d_triple_times, d_in_reach, d_looked_through, d_moved_plate, d_moved_yard, d_greater_plate, d_greater_yard, d__law_cell_at, d__law_draw, d__law_number, d__law_triple, d__law_cross, d__law_dot, d__law_plate, d__law_ahead, d__law_tip, d__law_names, d__law_sun, d__law_yard, d__law_alike, d__law_moved, d__law_greater, d__law_numbers, d__law_edges, d__law_drawn, d__law_told, d__law_fits, d_law, di_NoYard]
def fa : List He.Fa := [.glo "triple_sum", .glo "triple_times", .glo "in_reach", .glo "looked_through", .glo "moved_plate", .glo "moved_yard", .glo "greater_plate", .glo "greater_yard", .glo "_law_cell_at", .glo "_law_draw", .glo "_law_number", .glo "_law_triple", .glo "_law_cross", .glo "_law_dot", .glo "_law_plate", .glo "_law_ahead", .glo "_law_tip", .glo "_law_names", .glo "_law_sun", .glo "_law_yard", .glo "_law_alike", .glo "_law_moved", .glo "_law_greater", .glo "_law_numbers", .glo "_law_edges", .glo "_law_drawn", .glo "_law_told", .glo "_law_fits", .glo "law", .free "abs", .free "list", .free "tuple", .free "len", .free "range", .free "int", .free "zip", .free "isinstance", .free "bool", .free "str", .free "all", .free "enumerate", .free "max", .free "min", .free "ValueError", .int "FARTHEST" 1000000000, .glo "YardError", .glo "NoNumber", .glo "NoPlate", .glo "NoSun", .glo "NoYard", .glo "NotLit", .glo "NoHour", .glo "TooMany", .glo "NoRow", .glo "NoName", .glo "NoSay", .glo "NoBack"]
abbrev Rw : PySem.W.OpenRow := PySem.W.OpenLaw.row PySem.Challenge.rw_dialyard_k82_moved_and_greater
def exF : PySem.W.Frag → Bool := fun K => exB xks xcs K && (yrB K (He.ga K "YardError") && (fxB K "NoYard" "name" && ((xks.all fun c => He.eqO (PySem.W.findIn K (.ref (He.ga K c)) "name") (some none)))))
abbrev hk : PySem.W.Hook := hookE 4 fa fn exF
def ob (s : PySem.W.SharedT) : He.AlD := obsEG 4 fa fn exF (HandSHeadRun.getT s)
theorem ob_eq (s : PySem.W.SharedT) : ob s = hk.obs s.abs := obsEG_eq (HandSHeadRun.getT_eq s)
def loose0 : List PySem.Str := ["YardError", "NoNumber", "NoPlate", "NoSun", "NoYard", "NotLit", "NoHour", "TooMany", "NoRow", "NoName", "NoSay", "NoBack", "triple_sum", "triple_times", "FARTHEST", "in_reach", "looked_through", "moved_plate", "moved_yard", "greater_plate", "greater_yard", "_law_cell_at", "_law_draw", "_law_number", "_law_triple", "_law_cross", "_law_dot", "_law_plate", "_law_ahead", "_law_tip"]
def loose1 : List PySem.Str := ["_law_names", "_law_sun", "_law_yard", "_law_alike", "_law_moved", "_law_greater", "_law_numbers", "_law_edges", "_law_drawn", "_law_told", "_law_fits"]
def loose : List PySem.Str := loose0 ++ loose1
theorem run (w : World) : HandSHeadRun.RunEq Rw (PySem.W.view Rw.prog [45]) hk ob 20000 loose w := by
  intro os
  kernel_rfl
theorem blts_ok {K : PySem.W.Frag} {h : Heap} {mg : Str → Option Value} (X : K.In h) (G : h.Ns mainGlobals mg) (c : He.SaysD fa fn K) : Blts mg blts := by
  intro i x e
  match i, e with
  | 0, e => cases e; exact He.free_ok X G (c.fact 29 (f := .free "abs") rfl)
  | 1, e => cases e; exact He.free_ok X G (c.fact 30 (f := .free "list") rfl)
  | 2, e => cases e; exact He.free_ok X G (c.fact 31 (f := .free "tuple") rfl)
  | 3, e => cases e; exact He.free_ok X G (c.fact 32 (f := .free "len") rfl)
  | 4, e => cases e; exact He.free_ok X G (c.fact 33 (f := .free "range") rfl)
  | 5, e => cases e; exact He.free_ok X G (c.fact 34 (f := .free "int") rfl)
  | 6, e => cases e; exact He.free_ok X G (c.fact 35 (f := .free "zip") rfl)
  | 7, e => cases e; exact He.free_ok X G (c.fact 36 (f := .free "isinstance") rfl)
  | 8, e => cases e; exact He.free_ok X G (c.fact 37 (f := .free "bool") rfl)
  | 9, e => cases e; exact He.free_ok X G (c.fact 38 (f := .free "str") rfl)
  | 10, e => cases e; exact He.free_ok X G (c.fact 39 (f := .free "all") rfl)
  | 11, e => cases e; exact He.free_ok X G (c.fact 40 (f := .free "enumerate") rfl)
  | 12, e => cases e; exact He.free_ok X G (c.fact 41 (f := .free "max") rfl)
  | 13, e => cases e; exact He.free_ok X G (c.fact 42 (f := .free "min") rfl)
  | 14, e => cases e; exact He.free_ok X G (c.fact 43 (f := .free "ValueError") rfl)
  | i + 15, e => exact absurd e (by simp [blts])
theorem facts_ok {K : PySem.W.Frag} {h : Heap} {mg : Str → Option Value} (X : K.In h) (G : h.Ns mainGlobals mg) (ce : SaysE fa fn exF K) : Facts K mg := by
  have c := ce.d
  refine ⟨?_, ?_, ?_, ?_, ?_, ?_, ?_, ?_, ?_, ?_, ?_, ?_, ?_, ?_, ?_, ?_, ?_, ?_⟩
  · intro i x e
    match i, e with
    | 0, e => cases e; exact He.int_ok X G (c.fact 44 (f := .int "FARTHEST" 1000000000) rfl)
    | i + 1, e => exact absurd e (by simp [gints])
  · intro i x e
    match i, e with
    | i + 0, e => exact absurd e (by simp [gstrs])
  · exact (He.glo_ok X G (c.fact 45 (f := .glo "YardError") rfl))
  · exact (He.glo_ok X G (c.fact 46 (f := .glo "NoNumber") rfl))
  · exact (He.glo_ok X G (c.fact 47 (f := .glo "NoPlate") rfl))
  · exact (He.glo_ok X G (c.fact 48 (f := .glo "NoSun") rfl))
  · exact (He.glo_ok X G (c.fact 49 (f := .glo "NoYard") rfl))
  · exact (He.glo_ok X G (c.fact 50 (f := .glo "NotLit") rfl))
  · exact (He.glo_ok X G (c.fact 51 (f := .glo "NoHour") rfl))
  · exact (He.glo_ok X G (c.fact 52 (f := .glo "TooMany") rfl))
  · exact (He.glo_ok X G (c.fact 53 (f := .glo "NoRow") rfl))
  · exact (He.glo_ok X G (c.fact 54 (f := .glo "NoName") rfl))
  · exact (He.glo_ok X G (c.fact 55 (f := .glo "NoSay") rfl))
  · exact (He.glo_ok X G (c.fact 56 (f := .glo "NoBack") rfl))
  · exact exB_ok (mg := mg) (show (exB xks xcs K) = true from (He.ba ce.ex).1) (List.forall_mem_cons.mpr ⟨(He.glo_ok X G (c.fact 45 (f := .glo "YardError") rfl)), List.forall_mem_cons.mpr ⟨(He.glo_ok X G (c.fact 46 (f := .glo "NoNumber") rfl)), List.forall_mem_cons.mpr ⟨(He.glo_ok X G (c.fact 47 (f := .glo "NoPlate") rfl)), List.forall_mem_cons.mpr ⟨(He.glo_ok X G (c.fact 48 (f := .glo "NoSun") rfl)), List.forall_mem_cons.mpr ⟨(He.glo_ok X G (c.fact 49 (f := .glo "NoYard") rfl)), List.forall_mem_cons.mpr ⟨(He.glo_ok X G (c.fact 50 (f := .glo "NotLit") rfl)), List.forall_mem_cons.mpr ⟨(He.glo_ok X G (c.fact 51 (f := .glo "NoHour") rfl)), List.forall_mem_cons.mpr ⟨(He.glo_ok X G (c.fact 52 (f := .glo "TooMany") rfl)), List.forall_mem_cons.mpr ⟨(He.glo_ok X G (c.fact 53 (f := .glo "NoRow") rfl)), List.forall_mem_cons.mpr ⟨(He.glo_ok X G (c.fact 54 (f := .glo "NoName") rfl)), List.forall_mem_cons.mpr ⟨(He.glo_ok X G (c.fact 55 (f := .glo "NoSay") rfl)), List.forall_mem_cons.mpr ⟨(He.glo_ok X G (c.fact 56 (f := .glo "NoBack") rfl)), fun _ h => absurd h List.not_mem_nil⟩⟩⟩⟩⟩⟩⟩⟩⟩⟩⟩⟩)
  · exact yrB_ok (show (yrB K (He.ga K "YardError")) = true from (He.ba (He.ba ce.ex).2).1)
  · exact fxB_ok (show (fxB K "NoYard" "name") = true from (He.ba (He.ba (He.ba ce.ex).2).2).1)
  · exact fun c hc => He.eqO_ok (List.all_eq_true.mp (show ((xks.all fun c => He.eqO (PySem.W.findIn K (.ref (He.ga K c)) "name") (some none))) = true from (He.ba (He.ba (He.ba ce.ex).2).2).2) c hc)
theorem facts {P : Program} {w : World} {K : PySem.W.Frag} {h : Heap} {mg : Str → Option Value} {f : Addr} (X : K.In h) (G : h.Ns mainGlobals mg) (hfa : mg ("law" : Str) = some (.ref f)) (ce : SaysE fa fn exF K) :
    ∃ fd : FuncData, (∀ (s : Shared) (v : Value), BindsTo s fd ⟨[v], []⟩ [("_law_script", v)]) ∧ ∀ base : Heap, K.In base → base.Ns mainGlobals mg → FnOk P w K mg base (L2.CX P w) 11 f fd ["_law_script"] (spD K 1 f_law) := by
  have c := ce.d
  obtain ⟨fd_triple_sum, F_triple_sum⟩ := c.def_ 0 (d := d_triple_sum) rfl
  obtain ⟨fd_triple_times, F_triple_times⟩ := c.def_ 1 (d := d_triple_times) rfl
  obtain ⟨fd_in_reach, F_in_reach⟩ := c.def_ 2 (d := d_in_reach) rfl
  obtain ⟨fd_looked_through, F_looked_through⟩ := c.def_ 3 (d := d_looked_through) rfl
  obtain ⟨fd_moved_plate, F_moved_plate⟩ := c.def_ 4 (d := d_moved_plate) rfl
  obtain ⟨fd_moved_yard, F_moved_yard⟩ := c.def_ 5 (d := d_moved_yard) rfl
  obtain ⟨fd_greater_plate, F_greater_plate⟩ := c.def_ 6 (d := d_greater_plate) rfl
  obtain ⟨fd_greater_yard, F_greater_yard⟩ := c.def_ 7 (d := d_greater_yard) rfl
  obtain ⟨fd__law_cell_at, F__law_cell_at⟩ := c.def_ 8 (d := d__law_cell_at) rfl
  obtain ⟨fd__law_draw, F__law_draw⟩ := c.def_ 9 (d := d__law_draw) rfl
  obtain ⟨fd__law_number, F__law_number⟩ := c.def_ 10 (d := d__law_number) rfl
  obtain ⟨fd__law_triple, F__law_triple⟩ := c.def_ 11 (d := d__law_triple) rfl
  obtain ⟨fd__law_cross, F__law_cross⟩ := c.def_ 12 (d := d__law_cross) rfl
  obtain ⟨fd__law_dot, F__law_dot⟩ := c.def_ 13 (d := d__law_dot) rfl
  obtain ⟨fd__law_plate, F__law_plate⟩ := c.def_ 14 (d := d__law_plate) rfl
  obtain ⟨fd__law_ahead, F__law_ahead⟩ := c.def_ 15 (d := d__law_ahead) rfl
  obtain ⟨fd__law_tip, F__law_tip⟩ := c.def_ 16 (d := d__law_tip) rfl
  obtain ⟨fd__law_names, F__law_names⟩ := c.def_ 17 (d := d__law_names) rfl
  obtain ⟨fd__law_sun, F__law_sun⟩ := c.def_ 18 (d := d__law_sun) rfl
  obtain ⟨fd__law_yard, F__law_yard⟩ := c.def_ 19 (d := d__law_yard) rfl
  obtain ⟨fd__law_alike, F__law_alike⟩ := c.def_ 20 (d := d__law_alike) rfl
  obtain ⟨fd__law_moved, F__law_moved⟩ := c.def_ 21 (d := d__law_moved) rfl
  obtain ⟨fd__law_greater, F__law_greater⟩ := c.def_ 22 (d := d__law_greater) rfl
  obtain ⟨fd__law_numbers, F__law_numbers⟩ := c.def_ 23 (d := d__law_numbers) rfl
  obtain ⟨fd__law_edges, F__law_edges⟩ := c.def_ 24 (d := d__law_edges) rfl
  obtain ⟨fd__law_drawn, F__law_drawn⟩ := c.def_ 25 (d := d__law_drawn) rfl
  obtain ⟨fd__law_told, F__law_told⟩ := c.def_ 26 (d := d__law_told) rfl
  obtain ⟨fd__law_fits, F__law_fits⟩ := c.def_ 27 (d := d__law_fits) rfl
  obtain ⟨fd_law, F_law⟩ := c.def_ 28 (d := d_law) rfl
  have e := hfa.symm.trans (He.glo_ok X G (c.fact 28 (f := .glo "law") rfl))
  cases e
  have B := blts_ok X G c
  have M : Facts K mg := facts_ok X G ce
  obtain ⟨fdi_NoYard, Fi_NoYard⟩ := c.def_ 29 (d := di_NoYard) rfl
  have b := FunD.bindsA (ps := ["_law_script"]) F_law fun _ _ _ _ _ _ us hl => match us, hl with | [_], _ => rfl
  refine ⟨fd_law, fun s v => b s [v] rfl, fun base _ _ => ?_⟩
  have I_NoYard : InC P w K mg base "NoYard" "name" := ⟨⟨_, fdi_NoYard, _, init_NoYard M Fi_NoYard, FunD.bindsN Fi_NoYard (fun _ _ _ _ _ _ us hl => match us, hl with | [_, _], _ => rfl), M.fx_NoYard.fi, M.fx_NoYard.ft⟩, M.fx_NoYard.ox, M.fx_NoYard.no, M.glo_NoYard⟩
  have C_triple_sum := cal_triple_sum (P := P) (w := w) (base := base) B M  F_triple_sum (He.glo_ok X G (c.fact 0 (f := .glo "triple_sum") rfl))
  have C_triple_times := cal_triple_times (P := P) (w := w) (base := base) B M  F_triple_times (He.glo_ok X G (c.fact 1 (f := .glo "triple_times") rfl))
  have C_in_reach := cal_in_reach (P := P) (w := w) (base := base) B M I_NoYard F_in_reach (He.glo_ok X G (c.fact 2 (f := .glo "in_reach") rfl))
  have C_looked_through := cal_looked_through (P := P) (w := w) (base := base) B M C_in_reach F_looked_through (He.glo_ok X G (c.fact 3 (f := .glo "looked_through") rfl))
  have C_moved_plate := cal_moved_plate (P := P) (w := w) (base := base) B M C_triple_sum F_moved_plate (He.glo_ok X G (c.fact 4 (f := .glo "moved_plate") rfl))
  have C_moved_yard := cal_moved_yard (P := P) (w := w) (base := base) B M C_looked_through C_triple_sum C_moved_plate F_moved_yard (He.glo_ok X G (c.fact 5 (f := .glo "moved_yard") rfl))
  have C_greater_plate := cal_greater_plate (P := P) (w := w) (base := base) B M C_triple_times F_greater_plate (He.glo_ok X G (c.fact 6 (f := .glo "greater_plate") rfl))
  have C_greater_yard := cal_greater_yard (P := P) (w := w) (base := base) B M C_looked_through C_triple_times C_greater_plate F_greater_yard (He.glo_ok X G (c.fact 7 (f := .glo "greater_yard") rfl))
  have C__law_cell_at := cal__law_cell_at (P := P) (w := w) (base := base) B M  F__law_cell_at (He.glo_ok X G (c.fact 8 (f := .glo "_law_cell_at") rfl))
  have C__law_draw := cal__law_draw (P := P) (w := w) (base := base) B M  F__law_draw (He.glo_ok X G (c.fact 9 (f := .glo "_law_draw") rfl))
  have C__law_number := cal__law_number (P := P) (w := w) (base := base) B M C__law_draw F__law_number (He.glo_ok X G (c.fact 10 (f := .glo "_law_number") rfl))
  have C__law_triple := cal__law_triple (P := P) (w := w) (base := base) B M C__law_number F__law_triple (He.glo_ok X G (c.fact 11 (f := .glo "_law_triple") rfl))
  have C__law_cross := cal__law_cross (P := P) (w := w) (base := base) B M  F__law_cross (He.glo_ok X G (c.fact 12 (f := .glo "_law_cross") rfl))
  have C__law_dot := cal__law_dot (P := P) (w := w) (base := base) B M  F__law_dot (He.glo_ok X G (c.fact 13 (f := .glo "_law_dot") rfl))
  have C__law_plate := cal__law_plate (P := P) (w := w) (base := base) B M C__law_triple C__law_cross F__law_plate (He.glo_ok X G (c.fact 14 (f := .glo "_law_plate") rfl))
  have C__law_ahead := cal__law_ahead (P := P) (w := w) (base := base) B M C__law_dot F__law_ahead (He.glo_ok X G (c.fact 15 (f := .glo "_law_ahead") rfl))
  have C__law_tip := cal__law_tip (P := P) (w := w) (base := base) B M C__law_cross C__law_ahead C__law_draw F__law_tip (He.glo_ok X G (c.fact 16 (f := .glo "_law_tip") rfl))
  have C__law_names := cal__law_names (P := P) (w := w) (base := base) B M C__law_draw F__law_names (He.glo_ok X G (c.fact 17 (f := .glo "_law_names") rfl))
  have C__law_sun := cal__law_sun (P := P) (w := w) (base := base) B M C__law_draw C__law_triple F__law_sun (He.glo_ok X G (c.fact 18 (f := .glo "_law_sun") rfl))
  have C__law_yard := cal__law_yard (P := P) (w := w) (base := base) B M C__law_cell_at C__law_draw C__law_names C__law_plate C__law_tip C__law_sun F__law_yard (He.glo_ok X G (c.fact 19 (f := .glo "_law_yard") rfl))
  have C__law_alike := cal__law_alike (P := P) (w := w) (base := base) B M  F__law_alike (He.glo_ok X G (c.fact 20 (f := .glo "_law_alike") rfl))
  have C__law_moved := cal__law_moved (P := P) (w := w) (base := base) B M  F__law_moved (He.glo_ok X G (c.fact 21 (f := .glo "_law_moved") rfl))
  have C__law_greater := cal__law_greater (P := P) (w := w) (base := base) B M  F__law_greater (He.glo_ok X G (c.fact 22 (f := .glo "_law_greater") rfl))
  have C__law_numbers := cal__law_numbers (P := P) (w := w) (base := base) B M  F__law_numbers (He.glo_ok X G (c.fact 23 (f := .glo "_law_numbers") rfl))
  have C__law_edges := cal__law_edges (P := P) (w := w) (base := base) B M  F__law_edges (He.glo_ok X G (c.fact 24 (f := .glo "_law_edges") rfl))
  have C__law_drawn := cal__law_drawn (P := P) (w := w) (base := base) B M C__law_edges C__law_draw F__law_drawn (He.glo_ok X G (c.fact 25 (f := .glo "_law_drawn") rfl))
  have C__law_told := cal__law_told (P := P) (w := w) (base := base) B M C_moved_yard C_greater_yard F__law_told (He.glo_ok X G (c.fact 26 (f := .glo "_law_told") rfl))
  have C__law_fits := cal__law_fits (P := P) (w := w) (base := base) B M C__law_numbers C__law_alike F__law_fits (He.glo_ok X G (c.fact 27 (f := .glo "_law_fits") rfl))
  exact ok_law B M C__law_yard C__law_drawn C__law_cell_at C__law_numbers C__law_draw C__law_told C__law_fits C__law_moved C__law_greater C_moved_yard C_greater_yard F_law
end Gn
open PySem PySem.W PySem.Calls PyProof.Rows
set_option maxRecDepth 100000 in
set_option maxHeartbeats 0 in
theorem Gn.holds_of (LT : ∀ (ns : List Int), ns.length ≤ 63 → Gn.f_law [.lst (ns.map .int)] = .ok (.bl true)) : PySem.Challenge.rw_dialyard_k82_moved_and_greater.Holds := by
  w_on; o_law
  refine HandSHeadRun.head_any (r := OpenLaw.row PySem.Challenge.rw_dialyard_k82_moved_and_greater) (q := view (OpenLaw.row PySem.Challenge.rw_dialyard_k82_moved_and_greater).prog [45]) (H := Gn.hk) (ob := Gn.ob) (M := 20000) (loose := Gn.loose) (d := HandSHeadRun.topDef (OpenLaw.row PySem.Challenge.rw_dialyard_k82_moved_and_greater).prog 45) (kwd := []) Gn.ob_eq
    (by kernel_rfl) (fun s => by kernel_rfl) Gn.run (by kernel_rfl) (by kernel_rfl) (by kernel_rfl) (by rfl) (by first | assumption | decide +kernel) (by decide +kernel) ⟨rfl, rfl, rfl, rfl, rfl, by decide +kernel⟩ ?hw ?hc
  case hw => w_witness2
  case hc =>
    refine Dy.walk_ofW (l := PySem.Challenge.rw_dialyard_k82_moved_and_greater) (n := 63) (k := 11) (x := "_law_script") (CX := fun w => L2.CX (PySem.Challenge.rw_dialyard_k82_moved_and_greater).prog w) rfl (by decide) (by kernel_rfl) ⟨rfl, by decide, by decide⟩ ?F (fun _ _ _ _ _ z => Dy.cx_false z)
    intro w mg fa h Y G hmg0
    obtain ⟨K, KX, c⟩ := Y
    have hmg : mg ("law" : PySem.Str) = some (.ref fa) := by
      have e : (HandSHeadRun.topDef (OpenLaw.row PySem.Challenge.rw_dialyard_k82_moved_and_greater).prog 45).name = ("law" : PySem.Str) := by kernel_rfl
      rw [← e]
      exact hmg0
    obtain ⟨fd, hb, hF⟩ := Gn.facts (P := (PySem.Challenge.rw_dialyard_k82_moved_and_greater).prog) (w := w) KX G hmg c
    exact ⟨K, fd, Dy.spD K 1 Gn.f_law, KX, hb, fun H a ns hl _ hS => Dy.law_sp hS (LT ns hl), hF⟩

end
section
set_option maxHeartbeats 4000000
namespace Gn
open PySem PySem.Spec PyProof.Rows L2 Dy
local macro_rules | `(tactic| wtm_at "y_bd") => `(tactic| ((repeat' (first | assumption | (with_reducible apply Bd.mul) | (with_reducible apply RB.n) | (with_reducible apply RB.d) | (with_reducible apply RB.add) | (with_reducible apply RB.sub) | (with_reducible apply RB.mul) | (with_reducible apply RB.int) | (with_reducible apply Bd.addM) | (with_reducible apply Bd.subM) | (with_reducible apply Bd.neg) | (with_reducible apply Bd.mod; (first | decide | omega)) | exact Bd.lit (n := 2) (by decide) | exact Bd.lit (n := 36) (by decide) | exact Bd.lit (n := 200) (by decide))) <;> done))
local macro_rules | `(tactic| wtm_at "y_mulok") => `(tactic| first | exact MuOk.of (n := 200) (m := 200) (Bd.lit (by decide)) (Bd.lit (by decide)) (by decide) | exact MuOk.of (by wtm_at "y_bd") (by wtm_at "y_bd") (by first | decide | omega))
local macro_rules | `(tactic| wtm_at "y_line") => `(tactic| first | assumption | exact Nat.le_of_ble_eq_true rfl | (simp only [List.length_append, List.length_map, List.length_cons, List.length_nil, sizeLine_eq]; omega))
local macro_rules | `(tactic| wtm_at "y_pos") => `(tactic| first | assumption | decide | omega)
local macro_rules | `(tactic| wtm_at "y_known") => `(tactic| first | assumption | (with_reducible rfl) | ((with_reducible show ((List.length (_ :: _) : Nat) : Int) = _); exact rfl) | omega | exact ⟨rfl, rfl⟩ | exact ⟨rfl, rfl, rfl⟩)
local macro_rules | `(tactic| wtm_at "y_okq") => `(tactic| first | rfl | exact okq_ints _ | simp [okq])
local macro_rules | `(tactic| wtm_at "y_dyop") => `(tactic| first
  | (with_reducible refine w_bSeqR ?_)
  | (with_reducible refine w_bSeqT rfl ?_)
  | (with_reducible refine w_bSeqL rfl ?_)
  | (with_reducible refine w_bName ?_)
  | ((with_reducible show Got (bCons _ _ (List.map _ _) _) _); simp only [List.map_cons, List.map_nil])
  | (with_reducible refine w_bCons ?_)
  | (with_reducible refine w_bNil ?_)
  | ((with_reducible show Got (oIx _ _) _); first | ((with_reducible show Got (oIx (D.lst _) (D.int _)) _); refine w_ixL rfl ?_) | ((with_reducible show Got (oIx (D.tup _) (D.int _)) _); refine w_ixT rfl ?_) | (with_reducible refine w_ixR0 ?_) | (with_reducible refine w_ixR1 ?_))
  | ((with_reducible show Got (oAdd _ _) _); first | (with_reducible refine w_addI ?_) | ((with_reducible refine w_addL ?_ ?_); (focus (wtm_at "y_line"; done))) | ((with_reducible refine w_addT ?_ ?_); (focus (wtm_at "y_line"; done))))
  | ((with_reducible refine w_mul ?_ ?_); (focus (wtm_at "y_mulok"; done)))
  | ((with_reducible refine w_mod ?_ ?_); (focus (wtm_at "y_pos"; done)))
  | ((with_reducible refine w_div ?_ ?_ ?_); (focus (wtm_at "y_pos"; done)); (focus (first | (exact Bd.log (n := 200) (Bd.lit (by decide)) (by decide)) | (exact Bd.log (n := 200) (by assumption) (by decide)) | (exact Bd.log (by wtm_at "y_bd") (by decide)))))
  | ((with_reducible show Got (oEq _ _) _); first | (with_reducible refine w_eqI ?_) | ((with_reducible refine w_eqNil ?_ ?_); (focus (wtm_at "y_okq"; done))) | (with_reducible refine w_eq3 ?_) | (with_reducible refine w_eqRR ?_) | (with_reducible refine w_eqRRR ?_) | (with_reducible refine w_eqR ?_))
  | ((with_reducible show Got (oNe _ _) _); first | (with_reducible refine w_neI ?_) | ((with_reducible refine w_neNil ?_ ?_); (focus (wtm_at "y_okq"; done))) | (with_reducible refine w_ne3 ?_) | (with_reducible refine w_neRR ?_) | (with_reducible refine w_neRRR ?_) | (with_reducible refine w_neR ?_))
  | (with_reducible refine w_sub ?_)
  | ((with_reducible refine w_pow ?_ ?_); (focus decide); simp only [Int.reducePow, Int.reduceToNat])
  | (with_reducible refine w_lt ?_)
  | (with_reducible refine w_le ?_)
  | (with_reducible refine w_gt ?_)
  | (with_reducible refine w_ge ?_)
  | (with_reducible refine w_neg ?_)
  | (with_reducible refine w_isN ?_)
  | (with_reducible refine w_notN ?_)
  | (with_reducible refine w_lenL ?_)
  | (with_reducible refine w_lenT ?_)
  | (with_reducible refine w_max2 ?_)
  | (with_reducible refine w_min2 ?_)
  | (with_reducible refine w_min3 ?_)
  | (with_reducible refine w_abs ?_)
  | (with_reducible refine w_listL ?_)
  | (with_reducible refine w_listT ?_)
  | (with_reducible refine w_tupleL ?_)
  | (with_reducible refine w_tupleT ?_)
  | ((with_reducible show Got (oIsi [_, D.ty _]) _); refine w_isi (by with_reducible first | exact kt_zb | exact kt_zi | exact kt_zt | exact kt_zl | exact kt_zs | exact kt_zd | exact kt_rt | exact kt_rb | exact kt_ri | exact kt_rl | exact kt_ib | exact kt_ii | exact kt_it | exact kt_il | exact kt_is | exact kt_id | exact kt_bb | exact kt_bi | exact kt_bt | exact kt_bl | exact kt_bs | exact kt_bd | exact kt_tb | exact kt_ti | exact kt_tt | exact kt_tl | exact kt_ts | exact kt_td | exact kt_lb | exact kt_li | exact kt_lt | exact kt_ll | exact kt_ls | exact kt_ld | exact kt_sb | exact kt_si | exact kt_st | exact kt_sl | exact kt_ss | exact kt_sd | exact kt_nb | exact kt_ni | exact kt_nt | exact kt_nl | exact kt_ns | exact kt_nd | exact kt_db | exact kt_di | exact kt_dt | exact kt_dl | exact kt_ds | exact kt_dd) ?_)
  | ((with_reducible refine w_range3 ?_ ?_ ?_ ?_); (focus decide); (focus (first | decide | (constructor <;> omega))); (focus (first | decide | (constructor <;> omega))))
  | (with_reducible refine w_rng3 ?_)
  | (with_reducible refine w_zip3 ?_)
  | (with_reducible refine w_sum3 ?_)
  | ((with_reducible refine w_range1 ?_ ?_); (focus (first | decide | (constructor <;> omega))))
  | ((with_reducible refine w_range2 ?_ ?_ ?_); (focus (first | decide | (constructor <;> omega))); (focus (first | decide | (constructor <;> omega))))
  | ((with_reducible show Got (oSum _) _); refine w_sum rfl ?_)
  | ((with_reducible show Got (oSl _ _ _) _); refine g_ot rfl ?_)
  | ((with_reducible show Got (enum1 _) _); refine g_ot rfl ?_)
  | ((with_reducible show Got (zip2 _) _); refine g_ot rfl ?_)
  | (with_reducible refine w_iterR ?_)
  | ((with_reducible show Got (iterD (D.lst _)) _); refine g_ot rfl ?_)
  | ((with_reducible show Got (iterD (D.tup _)) _); refine g_ot rfl ?_)
  | (with_reducible refine w_lenR ?_))
local macro_rules | `(tactic| wtm_at "y_dyk") => `(tactic| first
  | (with_reducible refine k_tt ?_) | (with_reducible refine k_ff ?_) | (with_reducible refine k_nt ?_) | (with_reducible refine k_nf ?_)
  | ((with_reducible refine k_dT ?_ ?_); (focus (wtm_at "y_known"; done))) | ((with_reducible refine k_dF ?_ ?_); (focus (wtm_at "y_known"; done))) | ((with_reducible refine k_ndT ?_ ?_); (focus (wtm_at "y_known"; done))) | ((with_reducible refine k_ndF ?_ ?_); (focus (wtm_at "y_known"; done)))
  | ((with_reducible refine k_nndT ?_ ?_); (focus (wtm_at "y_known"; done))) | ((with_reducible refine k_nndF ?_ ?_); (focus (wtm_at "y_known"; done)))
  | (with_reducible refine k_d (fun _ => ?_) (fun _ => ?_)) | (with_reducible refine k_nd (fun _ => ?_) (fun _ => ?_)) | (with_reducible refine k_nnd (fun _ => ?_) (fun _ => ?_)) | ((with_reducible show Fork (D.isNon _) _ _); first | refine k_tt ?_ | refine k_ff ?_) | ((with_reducible show Fork (!(D.isNon _)) _ _); first | refine k_nt ?_ | refine k_nf ?_) | ((with_reducible show Fork (List.isEmpty _) _ _); first | refine k_tt ?_ | refine k_ff ?_) | ((with_reducible show Fork (!(List.isEmpty _)) _ _); first | refine k_nt ?_ | refine k_nf ?_) | (with_reducible refine k_any (fun _ => ?_) (fun _ => ?_)))
local macro_rules | `(tactic| wtm_at "q_wp") => `(tactic| first
  | ((with_reducible show R.wp (eVar _ _) _ _); refine wp_var rfl ?_)
  | (with_reducible refine wp_c ?_)
  | ((with_reducible show R.wp (uPeek _ _ _) _ _); refine wp_uPeek rfl ?_)
  | ((with_reducible show R.wp (ePeek _ _ _) _ _); refine wp_ePeek rfl ?_)
  | ((with_reducible show R.wp (eIxO _ _ _) _ _); refine wp_ixO rfl ?_)
  | (with_reducible refine wp_bin ?_)
  | (with_reducible refine wp_cons ?_)
  | (with_reducible refine wp_nil ?_)
  | (with_reducible refine wp_tup ?_)
  | (with_reducible refine wp_lst ?_)
  | (with_reducible refine wp_call ?_)
  | (with_reducible refine wp_n ?_)
  | (with_reducible refine wp_un ?_)
  | (with_reducible refine wp_test ?_)
  | (with_reducible refine wp_and ?_)
  | (with_reducible refine wp_or ?_)
  | (with_reducible refine wp_not ?_)
  | (with_reducible refine wp_andV ?_)
  | (with_reducible refine wp_orV ?_)
  | (with_reducible refine wp_notV ?_)
  | (with_reducible refine wp_chain ?_)
  | (with_reducible refine wp_dct0 ?_)
  | (with_reducible refine wp_sl ?_)
  | (with_reducible refine wp_no ?_)
  | (with_reducible refine wp_some ?_)
  | (with_reducible refine wp_iD ?_)
  | (with_reducible refine wp_iArgs ?_)
  | (with_reducible refine wp_compU ?_)
  | (with_reducible refine wp_yes ?_))
local macro_rules | `(tactic| wtm_at "q_sp") => `(tactic| first
  | (with_reducible refine sp_seq ?_)
  | (with_reducible refine sp_skip ?_)
  | (with_reducible refine sp_ret ?_)
  | (with_reducible refine sp_setU ?_)
  | (with_reducible refine sp_expr ?_)
  | (with_reducible refine sp_if ?_)
  | (with_reducible refine sp_parU ?_)
  | (with_reducible refine sp_asg ?_)
  | (with_reducible refine sp_ownU ?_)
  | ((with_reducible show SR.wp (sFreeze _ _ _) _ _ _); first | refine sp_frO rfl ?_ | refine sp_frV rfl ?_ | refine sp_frU rfl ?_)
  | (with_reducible refine sp_for ?_)
  | ((with_reducible show SR.wp (sApp _ _ _) _ _ _); refine sp_appU rfl ?_))
local macro_rules | `(tactic| wtm_at "q_got") => `(tactic| first
  | ((with_reducible show Got (compS _ _ _ _ _) _); first | refine c_cons ?_ | refine c_nil ?_)
  | wtm_at "y_dyop")
local macro_rules | `(tactic| wtm_at "y_dy") => `(tactic| first
  | ((with_reducible show R.wp _ _ _); wtm_at "q_wp")
  | ((with_reducible show SR.wp _ _ _ _); wtm_at "q_sp")
  | ((with_reducible show Upd _ _ _ _); refine upd_step (by ((simp only [List.set_cons_zero, List.set_cons_succ]) <;> rfl)) ?_)
  | ((with_reducible show Got _ _); wtm_at "q_got")
  | ((with_reducible show Fork _ _ _); wtm_at "y_dyk")
  | (with_reducible refine sc_int ?_)
  | (with_reducible refine sc_bl ?_)
  | (with_reducible refine ex_bl ?_)
  | (with_reducible refine ex_int ?_)
  | (with_reducible refine ex_two ?_)
  | (with_reducible refine wipe_cons ?_)
  | (with_reducible refine wipe_nil ?_)
  | (with_reducible refine fs_cons ?_)
  | (with_reducible refine fs_nil ?_)
  | ((with_reducible refine f_its ?_ ?_); (focus (wtm_at "y_line"; done)))
  | ((with_reducible refine g_rows ?_ ?_); (focus (wtm_at "y_line"; done))))
local macro_rules | `(tactic| wtm_at "y_bdn") => `(tactic| (exact Bd.mono (by wtm_at "y_bd") (by decide)))
local macro_rules | `(tactic| wtm_at "y_fn") => `(tactic| fail)
local macro_rules | `(tactic| wtm_at "y_go") => `(tactic| repeat' (first | wtm_at "y_dy" | wtm_at "y_fn"))
local macro_rules | `(tactic| wtm_at "y_in") => `(tactic| refine wp_fnU rfl (by ((simp only [List.map_cons, List.map_nil, List.cons_append, List.nil_append, List.replicate_succ, List.replicate_zero, Nat.reduceSub, Nat.sub_self]) <;> rfl)) ?_)
local macro_rules | `(tactic| wtm_at "y_false") => `(tactic| (exfalso; first | omega | grind | (simp_all; done)))
local macro_rules | `(tactic| wtm_at "y_ne3") => `(tactic| (with_reducible refine w_neS (tup3 (by first | rfl | omega | grind) (by first | rfl | omega | grind) (by first | rfl | omega | grind)) rfl ?_))
local macro_rules | `(tactic| wtm_at "y_rb") => `(tactic| wtm_at "y_bd")
local macro_rules | `(tactic| wtm_at "y_sz") => `(tactic| first | decide | omega)
local macro_rules | `(tactic| wtm_at "y_all") => `(tactic| repeat' (first | exact List.forall_mem_nil _ | refine List.forall_mem_cons.mpr ⟨?_, ?_⟩ | exact ⟨_, rfl, by wtm_at "y_bdn"⟩))
/-! ### yards: suns, walls, dials -/
abbrev Tr := Int × Int × Int
abbrev tD (p : Tr) : D := t3 p.1 p.2.1 p.2.2
def Gd (n : Nat) (p : Tr) : Prop := Bd n p.1 ∧ Bd n p.2.1 ∧ Bd n p.2.2
theorem Gd.mono {n m : Nat} {p : Tr} (h : Gd n p) (k : n ≤ m) : Gd m p := ⟨h.1.mono k, h.2.1.mono k, h.2.2.mono k⟩
abbrev Row := Int × Tr
abbrev rowD (r : Row) : D := .tup [.int r.1, tD r.2]
abbrev Plate := Tr × Tr × Tr
abbrev plD (p : Plate) : D := .tup [tD p.1, tD p.2.1, tD p.2.2]
abbrev Wall := Str × Plate
abbrev Dial := Str × Plate × Tr
abbrev wallD (w : Wall) : D := .tup [.str w.1, plD w.2]
abbrev dialD (f : Dial) : D := .tup [.str f.1, plD f.2.1, tD f.2.2]
abbrev yardD (rs : List Row) (ws : List Wall) (fs : List Dial) : D := .tup [.lst (rs.map rowD), .lst (ws.map wallD), .lst (fs.map dialD)]
/-! #### reading a list of known length -/
theorem ix_map {α : Type} {f : α → D} {xs : List α} {d : D} (hd : D.lst (xs.map f) = d) {K : Int} (h0 : 0 ≤ K) (h1 : K < xs.length) : ∃ x ∈ xs, oIx d (.int K) = some (f x) := by
  have hk : K.toNat < xs.length := by omega
  refine ⟨xs[K.toNat], List.getElem_mem hk, ?_⟩
  have q : (xs.map f)[K.toNat]? = some (f xs[K.toNat]) := by rw [List.getElem?_map, List.getElem?_eq_getElem hk]; rfl
  have z := atI_nat q
  rw [show ((K.toNat : Nat) : Int) = K by omega] at z
  rw [← hd]
  exact z
theorem len_map {α : Type} {f : α → D} {xs : List α} {d : D} (hd : D.lst (xs.map f) = d) : oLen [d] = some (.int xs.length) := by
  rw [← hd]
  show some (D.int ((xs.map f).length : Nat)) = _
  rw [List.length_map]
/-! #### the sun -/
/-! #### a dial, a fence -/
/-! #### names -/
/-! ### numbers drawn by two roads -/
theorem sp_draw {c k many : Int} (h0 : 0 ≤ k) (h1 : k < 1000) (hm0 : 0 < many) (hm1 : many < 1000000) : (f__law_draw [.int c, .int k, .int many]).wp (fun d => ∃ v, d = .int v ∧ 0 ≤ v ∧ v < many) NoE := by
  have hk : Bd 10 k := Bd.le (j := 1000) (Bd.lit (by decide)) h0 (by omega)
  have e1 : ∀ z : Int, 0 ≤ z % many ∧ z % many < many := fun z => ⟨Int.emod_nonneg _ (by omega), Int.emod_lt_of_pos _ hm0⟩
  wtm_at "y_in"
  wtm_at "y_go"
  · refine forS_inv (fun i ρ => ∃ l w, ρ = [.val (.int c), .val (.int k), .val (.int many), .val (.int l), w, .un]) ⟨_, _, rfl⟩ ?_ ?_
    · rintro i d _ ed ⟨l, w, rfl⟩
      obtain ⟨rfl, hi⟩ := rangeD_get ed
      wtm_at "y_go"
      exact ⟨_, _, rfl⟩
    · rintro _ ⟨l, w, rfl⟩
      wtm_at "y_go"
      · exact ⟨_, rfl, e1 _⟩
      · exact ⟨_, rfl, e1 _⟩
  · exact ⟨_, rfl, e1 _⟩

/-! ### comprehensions over a list of any length -/
section
variable {α : Type} {b : D → REnv → Option REnv} {c : REnv → R Bool} {e : REnv → R D} {ρ : REnv} {f g : α → D} {keep : α → Bool} {P : List D → Prop}
theorem c_list : ∀ (xs : List α), (∀ x ∈ xs, Got (b (f x) ρ) fun ρ' => (c ρ').wp (fun k => k = keep x ∧ (k = true → (e ρ').wp (fun v => v = g x) NoE)) NoE) → Got (compS b c e (xs.map f) ρ) fun rs => rs = (xs.filter keep).map g
  | [], _ => c_nil rfl
  | x :: xs, h => by
    have hx := h x List.mem_cons_self
    obtain ⟨ρ', e1, h1⟩ := hx
    refine c_cons ⟨ρ', e1, h1.imp (fun k hk => ?_) fun _ z => z⟩
    obtain ⟨rs, er, hr⟩ := c_list xs fun y hy => h y (List.mem_cons_of_mem _ hy)
    refine ⟨fun k1 => (hk.2 k1).imp (fun v hv => ⟨rs, er, ?_⟩) fun _ z => z, fun k0 => ⟨rs, er, ?_⟩⟩
    · rw [hr, hv, List.filter_cons_of_pos (by rw [← hk.1, k1])]
      rfl
    · rw [hr, List.filter_cons_of_neg (by rw [← hk.1, k0]; decide)]
theorem c_listG {xs : List α} (h : ∀ x ∈ xs, Got (b (f x) ρ) fun ρ' => (c ρ').wp (fun k => k = keep x ∧ (k = true → (e ρ').wp (fun v => v = g x) NoE)) NoE) (hp : P ((xs.filter keep).map g)) : Got (compS b c e (xs.map f) ρ) P := by
  obtain ⟨rs, e1, e2⟩ := c_list xs h
  exact ⟨rs, e1, by rw [e2]; exact hp⟩
theorem c_mapG {xs : List α} (h : ∀ x ∈ xs, Got (b (f x) ρ) fun ρ' => (e ρ').wp (fun v => v = g x) NoE) (hp : P (xs.map g)) : Got (compS b eYes e (xs.map f) ρ) P := by
  refine c_listG (keep := fun _ => true) (g := g) (fun x hx => ?_) ?_
  · obtain ⟨ρ', e1, h1⟩ := h x hx
    exact ⟨ρ', e1, wp_yes ⟨rfl, fun _ => h1⟩⟩
  · rw [List.filter_eq_self.mpr (fun _ _ => rfl)]
    exact hp
end

local macro_rules | `(tactic| wtm_at "y_fn") => `(tactic| ((with_reducible show Got (oInt [D.bl _]) _); refine g_ot rfl ?_))
local macro_rules | `(tactic| wtm_at "y_fn") => `(tactic| first | (with_reducible refine sp_nr ?_) | (with_reducible refine sp_retL ?_) | (with_reducible refine is_l ?_) | (with_reducible refine sp_setO ?_) | ((with_reducible show SR.wp (sRetO _ _) _ _ _); refine sp_retO rfl ?_))

/-! ### texts alike -/
/-! ### yards that are drawn -/
def N9 (x : Int) : Prop := -1000000000 ≤ x ∧ x ≤ 1000000000
theorem N9.bd {x : Int} (h : N9 x) : Bd 31 x := by unfold N9 at h; unfold Bd; omega
def G9 (t : Tr) : Prop := N9 t.1 ∧ N9 t.2.1 ∧ N9 t.2.2
theorem G9.gd {t : Tr} (h : G9 t) : Gd 31 t := ⟨h.1.bd, h.2.1.bd, h.2.2.bd⟩
def P9 (p : Plate) : Prop := G9 p.1 ∧ G9 p.2.1 ∧ G9 p.2.2
def N8 (x : Int) : Prop := -999999980 ≤ x ∧ x ≤ 999999980
theorem sp_celln (ns : List Int) (k : Int) (h0 : 0 ≤ k) : (f__law_cell_at [.lst (ns.map .int), .int k]).wp (fun d => ∃ c, d = .int c) NoE := by
  wtm_at "y_in"
  wtm_at "y_go"
  · rename_i hlt
    rw [List.length_map] at hlt
    obtain ⟨c, _, e⟩ := ix_map (f := D.int) (xs := ns) rfl h0 hlt
    refine g_ot e ?_
    exact ⟨_, rfl⟩
  · exact ⟨_, rfl⟩
theorem sp_lnumber {c k : Int} (h0 : 0 ≤ k) (h1 : k < 200) : (f__law_number [.int c, .int k]).wp (fun d => ∃ v, d = .int v ∧ N8 v) NoE := by
  have hk : Bd 10 k := Bd.le (j := 1000) (Bd.lit (by decide)) h0 (by omega)
  wtm_at "y_in"
  wtm_at "y_go"
  refine (sp_draw (by omega) (by omega) (by decide) (by decide)).no ?_
  rintro _ ⟨kind, rfl, _, _⟩
  wtm_at "y_go"
  · refine (sp_draw (by omega) (by omega) (by decide) (by decide)).no ?_
    rintro _ ⟨v, rfl, _, _⟩
    wtm_at "y_go"
    exact ⟨_, rfl, by unfold N8; omega⟩
  · refine (sp_draw (by omega) (by omega) (by decide) (by decide)).no ?_
    rintro _ ⟨v, rfl, _, _⟩
    wtm_at "y_go"
    exact ⟨_, rfl, by unfold N8; omega⟩
  · refine (sp_draw (by omega) (by omega) (by decide) (by decide)).no ?_
    rintro _ ⟨v, rfl, _, _⟩
    have hv : v = 0 ∨ v = 1 := by omega
    rcases hv with rfl | rfl
    · wtm_at "y_go"
      refine (sp_draw (by omega) (by omega) (by decide) (by decide)).no ?_
      rintro _ ⟨v, rfl, _, _⟩
      have hv2 : Bd 40 (1000000000 - v / 9 - 20) := by unfold Bd; omega
      wtm_at "y_go"
      exact ⟨_, rfl, by unfold N8; omega⟩
    · wtm_at "y_go"
      refine (sp_draw (by omega) (by omega) (by decide) (by decide)).no ?_
      rintro _ ⟨v, rfl, _, _⟩
      have hv2 : Bd 40 (1000000000 - v / 9 - 20) := by unfold Bd; omega
      wtm_at "y_go"
      exact ⟨_, rfl, by unfold N8; omega⟩
def G8 (t : Tr) : Prop := N8 t.1 ∧ N8 t.2.1 ∧ N8 t.2.2
theorem N8.n {x : Int} (h : N8 x) : N9 x := by unfold N8 at h; unfold N9; omega
theorem G8.g {t : Tr} (h : G8 t) : G9 t := ⟨h.1.n, h.2.1.n, h.2.2.n⟩
theorem sp_ltriple {c k : Int} (h0 : 0 ≤ k) (h1 : k < 190) : (f__law_triple [.int c, .int k]).wp (fun d => ∃ t : Tr, d = tD t ∧ G8 t) NoE := by
  wtm_at "y_in"
  wtm_at "y_go"
  refine (sp_lnumber h0 (by omega)).no ?_
  rintro _ ⟨x, rfl, hx⟩
  wtm_at "y_go"
  refine (sp_lnumber (by omega) (by omega)).no ?_
  rintro _ ⟨y, rfl, hy⟩
  wtm_at "y_go"
  refine (sp_lnumber (by omega) (by omega)).no ?_
  rintro _ ⟨z, rfl, hz⟩
  wtm_at "y_go"
  exact ⟨(x, y, z), rfl, hx, hy, hz⟩
section
variable {a b c d e f m : Int} {P : D → Prop} {n n' : Nat}
theorem sp_lcross (hn : n < 10000) (hn' : n' < 10000) (ha : Bd n a) (hb : Bd n b) (hc : Bd n c) (hd : Bd n' d) (he : Bd n' e) (hf : Bd n' f) (h : P (t3 (b * f - c * e) (c * d - a * f) (a * e - b * d))) : (f__law_cross [t3 a b c, t3 d e f]).wp P NoE := by
  wtm_at "y_in"
  wtm_at "y_go"
  exact h
theorem sp_ldot (hn : n < 10000) (hn' : n' < 10000) (ha : Bd n a) (hb : Bd n b) (hc : Bd n c) (hd : Bd n' d) (he : Bd n' e) (hf : Bd n' f) (h : P (.int (a * d + b * e + c * f))) : (f__law_dot [t3 a b c, t3 d e f]).wp P NoE := by
  wtm_at "y_in"
  wtm_at "y_go"
  exact h
end
def unitT (t : Tr) : Prop := t = (0, 1, 0) ∨ t = (0, 0, 1) ∨ t = (1, 0, 0)
theorem n8_0 : N8 0 := by unfold N8; decide
theorem n8_1 : N8 1 := by unfold N8; decide
theorem unit8 {t : Tr} (h : unitT t) : G8 t := by
  rcases h with rfl | rfl | rfl
  · exact ⟨n8_0, n8_1, n8_0⟩
  · exact ⟨n8_0, n8_0, n8_1⟩
  · exact ⟨n8_1, n8_0, n8_0⟩
theorem sp_lplate (c : Int) : (f__law_plate [.int c, .int 0]).wp (fun d => ∃ p : Plate, d = plD p ∧ G8 p.1 ∧ G8 p.2.1 ∧ G8 p.2.2) NoE := by
  have loop : ∀ (s : Tr), G8 s → ∀ o : Tr, G8 o → ∀ {N : REnv → Prop} {T : D → Prop} {E : D → REnv → Prop} (g : REnv → SR),
      (∀ u : Tr, unitT u → ∀ o : Tr, G8 o → ∀ w : Sl, Got (bName 4 (tD u) [.val (.int c), .val (.int 0), .val (tD s), .val (tD o), w]) fun ρ' => (g ρ').wp (fun ρ => ∃ (o : Tr) (w : Sl), ρ = [.val (.int c), .val (.int 0), .val (tD s), .val (tD o), w] ∧ G8 o) T E) →
      (∀ (o : Tr) w, G8 o → N [.val (.int c), .val (.int 0), .val (tD s), .val (tD o), w]) →
      (forS (bName 4) g [t3 0 1 0, t3 0 0 1, t3 1 0 0] [.val (.int c), .val (.int 0), .val (tD s), .val (tD o), .un]).wp N T E := by
    intro s hs o ho N T E g hg hN
    refine forS_inv (fun i ρ => ∃ (o : Tr) (w : Sl), ρ = [.val (.int c), .val (.int 0), .val (tD s), .val (tD o), w] ∧ G8 o) ⟨_, _, rfl, ho⟩ ?_ ?_
    · rintro i d _ ed ⟨o, w, rfl, ho⟩
      have := List.mem_of_getElem? ed
      simp only [List.mem_cons, List.not_mem_nil, or_false] at this
      rcases this with rfl | rfl | rfl
      · exact hg (0, 1, 0) (.inl rfl) o ho w
      · exact hg (0, 0, 1) (.inr (.inl rfl)) o ho w
      · exact hg (1, 0, 0) (.inr (.inr rfl)) o ho w
    · rintro _ ⟨o, w, rfl, ho⟩
      exact hN o w ho
  wtm_at "y_in"
  wtm_at "y_go"
  refine (sp_ltriple (by decide) (by decide)).no ?_
  rintro _ ⟨⟨s0, s1, s2⟩, rfl, hs0, hs1, hs2⟩
  dsimp only at hs0 hs1 hs2
  wtm_at "y_go"
  all_goals
    refine (sp_ltriple (by decide) (by decide)).no ?_
    rintro _ ⟨o, rfl, ho⟩
    repeat' ((fail_if_success (with_reducible show SR.wp (forS _ _ _ _) _ _ _)); wtm_at "y_dy")
    refine loop (_, _, _) ⟨by first | exact hs0 | exact n8_1, by first | exact hs1 | exact n8_0, by first | exact hs2 | exact n8_0⟩ o ho _ ?_ ?_
    · rintro u hu p hp w
      have hu8 := unit8 hu
      obtain ⟨p0, p1, p2⟩ := p
      obtain ⟨hp0, hp1, hp2⟩ := hp
      dsimp only at hp0 hp1 hp2
      wtm_at "y_go"
      refine sp_lcross (n := 31) (n' := 31) (by decide) (by decide) (N9.bd (N8.n (by first | exact hs0 | exact n8_1))) (N9.bd (N8.n (by first | exact hs1 | exact n8_0))) (N9.bd (N8.n (by first | exact hs2 | exact n8_0))) hp0.n.bd hp1.n.bd hp2.n.bd ?_
      wtm_at "y_go"
      · exact ⟨u, _, rfl, hu8⟩
      · exact ⟨(p0, p1, p2), _, rfl, hp0, hp1, hp2⟩
    · rintro o w ho
      wtm_at "y_go"
      refine (sp_ltriple (by decide) (by decide)).no ?_
      rintro _ ⟨k, rfl, hk⟩
      wtm_at "y_go"
      exact ⟨(k, (_, _, _), o), rfl, hk, ⟨by first | exact hs0 | exact n8_1, by first | exact hs1 | exact n8_0, by first | exact hs2 | exact n8_0⟩, ho⟩
def Sm3 (n : Int) (t : Tr) : Prop := (-n ≤ t.1 ∧ t.1 ≤ n) ∧ (-n ≤ t.2.1 ∧ t.2.1 ≤ n) ∧ -n ≤ t.2.2 ∧ t.2.2 ≤ n
theorem sgn (p : Prop) [Decidable p] : ∃ k s : Int, oInt [D.bl (decide p)] = some (.int k) ∧ oIx (.lst [.int 1, .int (-1)]) (.int k) = some (.int s) ∧ (s = 1 ∨ s = -1) := by
  by_cases h : p
  · rw [decide_t h]
    exact ⟨1, -1, rfl, rfl, .inr rfl⟩
  · rw [decide_f h]
    exact ⟨0, 1, rfl, rfl, .inl rfl⟩
theorem sp_lahead {fr fo : Tr} (hf : Gd 70 fr) (hs : Sm3 4 fo) : (f__law_ahead [tD fr, tD fo]).wp (fun d => ∃ t : Tr, d = tD t ∧ Sm3 7 t) NoE := by
  have sm : ∀ {t : Tr} {n : Int}, Sm3 n t → n ≤ 10 → Gd 5 t := fun {t n} h k => by
    obtain ⟨⟨_, _⟩, ⟨_, _⟩, _, _⟩ := h
    refine ⟨?_, ?_, ?_⟩ <;> (unfold Bd; omega)
  have main : ∀ fo : Tr, Sm3 4 fo → ∀ {g : REnv → SR} {T : D → Prop} {N : REnv → Prop}, (∀ (i : Nat) (u fo : Tr) (a b c d : Sl), i < 3 → unitT u → Sm3 (4 + i) fo → Got (bName 2 (tD u) [.val (tD fr), .val (tD fo), a, b, c, d]) fun ρ' => (g ρ').wp (fun ρ => ∃ (fo : Tr) (a b c d : Sl), ρ = [.val (tD fr), .val (tD fo), a, b, c, d] ∧ Sm3 (4 + i + 1) fo) T (fun e _ => NoE e)) →
      (∀ (fo : Tr) a b c d, Sm3 7 fo → N [.val (tD fr), .val (tD fo), a, b, c, d]) → (forS (bName 2) g [t3 0 0 1, t3 0 1 0, t3 1 0 0] [.val (tD fr), .val (tD fo), .un, .un, .un, .un]).wp N T (fun e _ => NoE e) := by
    intro fo hs g T N hg hN
    refine forS_inv (fun i ρ => ∃ (fo : Tr) (a b c d : Sl), ρ = [.val (tD fr), .val (tD fo), a, b, c, d] ∧ Sm3 (4 + i) fo) ⟨_, _, _, _, _, rfl, by simpa using hs⟩ ?_ ?_
    · rintro i d _ ed ⟨fo, _, _, _, _, rfl, hs⟩
      have hi : i < 3 := by
        have := (List.getElem?_eq_some_iff.mp ed).1
        simpa using this
      have hu : ∃ u : Tr, d = tD u ∧ unitT u := by
        have := List.mem_of_getElem? ed
        simp only [List.mem_cons, List.not_mem_nil, or_false] at this
        rcases this with rfl | rfl | rfl
        · exact ⟨(0, 0, 1), rfl, .inr (.inl rfl)⟩
        · exact ⟨(0, 1, 0), rfl, .inl rfl⟩
        · exact ⟨(1, 0, 0), rfl, .inr (.inr rfl)⟩
      obtain ⟨u, rfl, hu⟩ := hu
      obtain ⟨ρ', e, h⟩ := hg i u fo _ _ _ _ hi hu hs
      refine ⟨ρ', e, h.imp (fun a ha => ?_) (fun _ z => z) fun _ _ z => z⟩
      obtain ⟨fo, a, b, c, d, rfl, q⟩ := ha
      exact ⟨fo, a, b, c, d, rfl, by rw [show ((4 : Int) + ((i + 1 : Nat) : Int)) = 4 + i + 1 by omega]; exact q⟩
    · rintro _ ⟨fo, _, _, _, _, rfl, hs⟩
      exact hN _ _ _ _ _ (by simpa using hs)
  obtain ⟨f0, f1, f2⟩ := fr
  obtain ⟨hf0, hf1, hf2⟩ := hf
  dsimp only at hf0 hf1 hf2
  have sm4 := sm hs (by decide)
  obtain ⟨s0, s1, s2⟩ := fo
  have body : ∀ fo : Tr, Sm3 4 fo → ∀ {N : REnv → Prop} {T : D → Prop}, (∀ (fo : Tr) a b c d, Sm3 7 fo → N [.val (tD (f0, f1, f2)), .val (tD fo), a, b, c, d]) → (forS (bName 2) (sIf (eTest (eBin oEq (eCall f__law_dot (aCons (eVar 0) (aCons (eVar 1) (aNil)))) (eC (.int 0)))) (sSeq (sSet 3 (eBin oIx (eLst (aCons (eC (.int 1)) (aCons (eUn oNeg (eC (.int 1))) (aNil)))) (eN oInt (aCons (eBin oLt (eCall f__law_dot (aCons (eVar 0) (aCons (eVar 2) (aNil)))) (eC (.int 0))) (aNil)))))
      (sSet 1 (eN oTuple (aCons (eComp [4, 5] (iArgs zip2 (aCons (eVar 1) (aCons (eVar 2) (aNil)))) (bSeq 2 (bCons (bName 4) (bCons (bName 5) (bNil)))) (eYes) (eBin oAdd (eVar 4) (eBin oMul (eVar 3) (eVar 5)))) (aNil))))) (sSkip)) [t3 0 0 1, t3 0 1 0, t3 1 0 0] [.val (tD (f0, f1, f2)), .val (tD fo), .un, .un, .un, .un]).wp N T (fun e _ => NoE e) := by
    intro fo hs N T hN
    refine main fo hs ?_ hN
    rintro i u fo a b c d hi hu hs
    have sm5 := sm hs (by omega)
    obtain ⟨t0, t1, t2⟩ := fo
    obtain ⟨st0, st1, st2⟩ := sm5
    obtain ⟨⟨z0, z1⟩, ⟨z2, z3⟩, z4, z5⟩ := hs
    have uS : Sm3 1 u := by rcases hu with rfl | rfl | rfl <;> exact ⟨⟨by decide, by decide⟩, ⟨by decide, by decide⟩, by decide, by decide⟩
    have uB := sm uS (by decide)
    obtain ⟨u0, u1, u2⟩ := u
    obtain ⟨ub0, ub1, ub2⟩ := uB
    obtain ⟨⟨y0, y1⟩, ⟨y2, y3⟩, y4, y5⟩ := uS
    dsimp only at st0 st1 st2 z0 z1 z2 z3 z4 z5 ub0 ub1 ub2 y0 y1 y2 y3 y4 y5
    wtm_at "y_go"
    refine sp_ldot (n := 70) (n' := 5) (by decide) (by decide) hf0 hf1 hf2 st0 st1 st2 ?_
    repeat' wtm_at "y_dy"
    · refine sp_ldot (n := 70) (n' := 5) (by decide) (by decide) hf0 hf1 hf2 ub0 ub1 ub2 ?_
      repeat' ((fail_if_success (with_reducible show Dy.Got (oInt _) _)); wtm_at "y_dy")
      obtain ⟨k, s, e1, e2, es⟩ := sgn (f0 * u0 + f1 * u1 + f2 * u2 < 0)
      refine g_ot e1 (g_ot e2 ?_)
      have bs : Bd 2 s := by rcases es with rfl | rfl <;> (unfold Bd; decide)
      wtm_at "y_go"
      refine ⟨(_, _, _), _, _, _, _, rfl, ?_⟩
      rcases es with rfl | rfl <;> (refine ⟨⟨?_, ?_⟩, ⟨?_, ?_⟩, ?_, ?_⟩ <;> (dsimp only; omega))
    · exact ⟨(t0, t1, t2), _, _, _, _, rfl, ⟨⟨by dsimp only; omega, by dsimp only; omega⟩, ⟨by dsimp only; omega, by dsimp only; omega⟩, by dsimp only; omega, by dsimp only; omega⟩⟩
  obtain ⟨sb0, sb1, sb2⟩ := sm4
  dsimp only at sb0 sb1 sb2
  wtm_at "y_in"
  repeat' ((fail_if_success (with_reducible show SR.wp (forS _ _ _ _) _ _ _)); wtm_at "y_dy")
  refine sp_ldot (n := 70) (n' := 5) (by decide) (by decide) hf0 hf1 hf2 sb0 sb1 sb2 ?_
  repeat' ((fail_if_success (with_reducible show SR.wp (forS _ _ _ _) _ _ _)); wtm_at "y_dy")
  · refine body (_, _, _) (by
      obtain ⟨⟨_, _⟩, ⟨_, _⟩, _, _⟩ := hs
      dsimp only at *
      exact ⟨⟨by dsimp only; omega, by dsimp only; omega⟩, ⟨by dsimp only; omega, by dsimp only; omega⟩, by dsimp only; omega, by dsimp only; omega⟩) ?_
    intro fo a b c d h
    wtm_at "y_go"
    exact ⟨fo, rfl, h⟩
  · refine body (s0, s1, s2) hs ?_
    intro fo a b c d h
    wtm_at "y_go"
    exact ⟨fo, rfl, h⟩
theorem sp_ltip {p : Plate} {c : Int} (hp : G8 p.1 ∧ G8 p.2.1 ∧ G8 p.2.2) : (f__law_tip [plD p, .int c]).wp (fun d => ∃ t : Tr, d = tD t ∧ G9 t) NoE := by
  obtain ⟨⟨k0, k1, k2⟩, ⟨s0, s1, s2⟩, o0, o1, o2⟩ := p
  obtain ⟨⟨hk0, hk1, hk2⟩, ⟨hs0, hs1, hs2⟩, ho0, ho1, ho2⟩ := hp
  dsimp only at hk0 hk1 hk2 hs0 hs1 hs2 ho0 ho1 ho2
  wtm_at "y_in"
  wtm_at "y_go"
  refine sp_lcross (n := 31) (n' := 31) (by decide) (by decide) hs0.n.bd hs1.n.bd hs2.n.bd ho0.n.bd ho1.n.bd ho2.n.bd ?_
  wtm_at "y_go"
  refine (sp_draw (by decide) (by decide) (by decide) (by decide)).no ?_
  rintro _ ⟨v0, rfl, _, _⟩
  wtm_at "y_go"
  refine (sp_draw (by decide) (by decide) (by decide) (by decide)).no ?_
  rintro _ ⟨v1, rfl, _, _⟩
  wtm_at "y_go"
  refine (sp_draw (by decide) (by decide) (by decide) (by decide)).no ?_
  rintro _ ⟨v2, rfl, _, _⟩
  wtm_at "y_go"
  have c1 : ∀ {a b c d : Int}, N8 a → N8 b → N8 c → N8 d → Bd 70 (a * b - c * d) := fun ha hb hc hd => ((ha.n.bd.mul hb.n.bd).subM (hc.n.bd.mul hd.n.bd)).mono (by decide)
  refine (sp_lahead (fr := (_, _, _)) (fo := (_, _, _)) ⟨c1 hs1 ho2 hs2 ho1, c1 hs2 ho0 hs0 ho2, c1 hs0 ho1 hs1 ho0⟩ ⟨⟨by dsimp only; omega, by dsimp only; omega⟩, ⟨by dsimp only; omega, by dsimp only; omega⟩, by dsimp only; omega, by dsimp only; omega⟩).no ?_
  rintro _ ⟨⟨t0, t1, t2⟩, rfl, ⟨⟨z0, z1⟩, ⟨z2, z3⟩, z4, z5⟩⟩
  dsimp only at z0 z1 z2 z3 z4 z5
  unfold N8 at hk0 hk1 hk2
  wtm_at "y_go"
  exact ⟨(_, _, _), rfl, by unfold G9 N9; dsimp only; omega⟩

/-! ### names, suns and yards that are drawn -/
theorem c_any {b : D → REnv → Option REnv} {e : REnv → R D} {ρ : REnv} {Q : D → Prop} : ∀ {ds : List D} {P : List D → Prop}, (∀ d ∈ ds, Got (b d ρ) fun ρ' => (e ρ').wp Q NoE) → (∀ rs, rs.length = ds.length → (∀ r ∈ rs, Q r) → P rs) → Got (compS b eYes e ds ρ) P
  | [], P, _, h => c_nil (h [] rfl fun _ z => nomatch z)
  | d :: ds, P, hx, h => by
    obtain ⟨ρ', e1, h1⟩ := hx d List.mem_cons_self
    refine c_cons ⟨ρ', e1, wp_yes ⟨fun _ => h1.no fun v hv => ?_, fun z => nomatch z⟩⟩
    exact c_any (fun y hy => hx y (List.mem_cons_of_mem _ hy)) fun rs hl hr => h (v :: rs) (by simp [hl]) fun r hr' => by
      rcases List.mem_cons.mp hr' with rfl | hr'
      · exact hv
      · exact hr r hr'
theorem strs_of {Q : Str → Prop} : ∀ {rs : List D}, (∀ r ∈ rs, ∃ x, r = .str x ∧ Q x) → ∃ xs : List Str, rs = xs.map .str ∧ ∀ x ∈ xs, Q x
  | [], _ => ⟨[], rfl, fun _ z => nomatch z⟩
  | r :: rs, h => by
    obtain ⟨x, rfl, hx⟩ := h r List.mem_cons_self
    obtain ⟨xs, rfl, hxs⟩ := strs_of fun r' hr' => h r' (List.mem_cons_of_mem _ hr')
    exact ⟨x :: xs, rfl, fun y hy => by
      rcases List.mem_cons.mp hy with rfl | hy
      · exact hx
      · exact hxs y hy⟩
theorem mem_rangeD {m : Int} {n : Nat} {d : D} (h : d ∈ rangeD m n) : ∃ i : Nat, d = .int (m + i) ∧ i < n := by
  obtain ⟨i, hi⟩ := List.getElem?_of_mem h
  exact ⟨i, rangeD_get hi⟩
theorem rangeD_len (m : Int) (n : Nat) : (rangeD m n).length = n := by simp [rangeD]
/-! #### texts -/
open TL
def Lw (x : Str) : Prop := ∀ c ∈ tl x, 97 ≤ c ∧ c < 123
theorem slen (x : Str) : x.length = (tl x).length := by
  show x.cps.size = x.cps.toList.length
  rw [Array.length_toList]
theorem strOk_tl {x : Str} (h : ∀ c ∈ tl x, c < 0x110000) : PyData.strOk x = true := by
  show x.cps.all (· < 0x110000) = true
  rw [Array.all_eq_true_iff_forall_mem]
  intro c hc
  exact decide_eq_true (h c (Array.mem_toList_iff.mpr hc))
theorem Lw.ok {x : Str} (h : Lw x) : PyData.strOk x = true := strOk_tl fun c hc => by have := h c hc; omega
theorem tl_app (a b : Str) : tl (a ++ b) = tl a ++ tl b := by
  show (a.cps ++ b.cps).toList = _
  rw [Array.toList_append]
theorem Lw.app {a b : Str} (ha : Lw a) (hb : Lw b) : Lw (a ++ b) := fun c hc => by
  rw [tl_app] at hc
  exact (List.mem_append.mp hc).elim (ha c) (hb c)
theorem cat {a b : Str} (h : a.length + b.length ≤ 10000) : oAdd (.str a) (.str b) = some (.str (a ++ b)) := by
  have hl : a.length + b.length ≤ sizeLine := by rw [sizeLine_eq]; omega
  show (oAddI _ _).or ((if a.length + b.length ≤ sizeLine then some (D.str (a ++ b)) else none).or _) = _
  rw [if_pos hl]
  rfl
theorem joinL_nil : ∀ ps : List (List Nat), joinL [] ps = ps.flatten
  | [] => rfl
  | [p] => by simp [joinL]
  | p :: q :: r => by
    show p ++ ([] ++ joinL [] (q :: r)) = _
    rw [joinL_nil (q :: r)]
    simp
theorem tl_join0 (xs : List Str) : tl (Txt.join (Str.ofString "") xs) = (xs.map tl).flatten := by
  rw [join_eq, tl_join]
  exact joinL_nil _
theorem letterD {i : Int} (h0 : 0 ≤ i) (h1 : i < 26) : ∃ x : Str, oIx (.str (Str.ofString "abcdefghijklmnopqrstuvwxyz")) (.int i) = some (.str x) ∧ Lw x ∧ x.length = 1 := by
  have e : ∀ j : Fin 26, (Str.ofString "abcdefghijklmnopqrstuvwxyz").cps.toList[j.val]? = some (97 + j.val) := by decide +kernel
  have hj : i.toNat < 26 := by omega
  have e1 := e ⟨i.toNat, hj⟩
  have z := atI_nat e1
  rw [show ((i.toNat : Nat) : Int) = i by omega] at z
  refine ⟨⟨#[97 + i.toNat]⟩, ?_, fun c hc => ?_, rfl⟩
  · show (if (Str.ofString "abcdefghijklmnopqrstuvwxyz").length ≤ sizeLine then (L2.atI (Str.ofString "abcdefghijklmnopqrstuvwxyz").cps.toList i).map fun c => D.str ⟨#[c]⟩ else none) = _
    rw [if_pos (by rw [sizeLine_eq]; decide +kernel), z]
    rfl
  · have hc : c = 97 + i.toNat := by simpa using hc
    omega
theorem oLen_str {x : Str} (h : x.length ≤ 10000) : oLen [.str x] = some (.int x.length) := if_pos (by rw [sizeLine_eq]; omega)
theorem cut_lo {z : Str} {a : Int} (h0 : 0 ≤ a) (h1 : a ≤ z.length) : tl (cutS z none (some a)) = (tl z).take a.toNat := by
  unfold cutS
  show (List.toArray _).toList = _
  have e1 : HT.sIx z.length z.length (some a) = a.toNat := by
    show (if a < 0 then (a + (z.length : Int)).toNat else min a.toNat z.length) = _
    rw [if_neg (by omega)]
    omega
  have e2 : HT.sIx z.length 0 none = 0 := rfl
  rw [e1, e2]
  simp
theorem cut_hi {z : Str} {a : Int} (h0 : 0 ≤ a) (h1 : a ≤ z.length) : tl (cutS z (some a) none) = (tl z).drop a.toNat := by
  unfold cutS
  show (List.toArray _).toList = _
  have e1 : HT.sIx z.length 0 (some a) = a.toNat := by
    show (if a < 0 then (a + (z.length : Int)).toNat else min a.toNat z.length) = _
    rw [if_neg (by omega)]
    omega
  have e2 : HT.sIx z.length z.length none = z.length := rfl
  rw [e1, e2, slen]
  rw [List.take_of_length_le]
  rw [List.length_drop]
  show (tl z).length - _ ≤ _
  omega
def Nm (x : Str) : Prop := Lw x ∧ 1 ≤ x.length ∧ x.length ≤ 8
theorem sp_lnames {c m : Int} (h0 : 0 ≤ m) (h1 : m ≤ 41) : (f__law_names [.int c, .int m]).wp (fun d => ∃ xs : List Str, d = .lst (xs.map .str) ∧ xs.length = m.toNat ∧ ∀ x ∈ xs, Nm x) NoE := by
  wtm_at "y_in"
  repeat' wtm_at "y_dy"
  refine wp_join (wp_c ⟨_, rfl, ?_⟩)
  repeat' wtm_at "y_dy"
  refine (sp_draw (by decide) (by decide) (by decide) (by decide)).no ?_
  rintro _ ⟨v, rfl, hv0, hv1⟩
  repeat' wtm_at "y_dy"
  refine ⟨by rw [rangeD_len, sizeLine_eq]; omega, ?_⟩
  repeat' wtm_at "y_dy"
  refine c_any (Q := fun r => ∃ x, r = .str x ∧ Lw x ∧ x.length = 1) (fun d hd => ?_) fun rs hl hr => ?_
  · obtain ⟨i, rfl, hi⟩ := mem_rangeD hd
    refine w_bName ?_
    repeat' wtm_at "y_dy"
    refine (sp_draw (by omega) (by omega) (by decide) (by decide)).no ?_
    rintro _ ⟨u, rfl, hu0, hu1⟩
    obtain ⟨x, e1, e2, e3⟩ := letterD hu0 hu1
    exact g_ot e1 ⟨x, rfl, e2, e3⟩
  obtain ⟨xs, rfl, hxs⟩ := strs_of hr
  rw [List.length_map, rangeD_len] at hl
  have sum1 : ∀ {us : List Str}, (∀ x ∈ us, Lw x ∧ x.length = 1) → (us.map (·.length)).sum = us.length := fun {us} h => by
    induction us with
    | nil => rfl
    | cons a r ih =>
      rw [List.map_cons, List.sum_cons, ih fun x hx => h x (List.mem_cons_of_mem _ hx), (h a List.mem_cons_self).2, List.length_cons]
      omega
  have jl : (Txt.join (Str.ofString "") xs).length = xs.length := by
    rw [slen, tl_join0, List.length_flatten, List.map_map, ← sum1 hxs]
    congr 1
  have jw : Lw (Txt.join (Str.ofString "") xs) := fun k hk => by
    rw [tl_join0] at hk
    obtain ⟨l, hl, hk⟩ := List.mem_flatten.mp hk
    obtain ⟨x, hx, rfl⟩ := List.mem_map.mp hl
    exact (hxs x hx).1 k hk
  refine ⟨xs, rfl, by rw [sum1 hxs, show (Str.ofString "").length = 0 from rfl]; omega, ?_⟩
  generalize Txt.join (Str.ofString "") xs = z at jl jw ⊢
  have zl : z.length ≤ 6 := by omega
  repeat' wtm_at "y_dy"
  refine g_ot (oLen_str (by omega)) ?_
  repeat' wtm_at "y_dy"
  refine (sp_draw (by decide) (by decide) (by omega) (by omega)).no ?_
  rintro _ ⟨a, rfl, ha0, ha1⟩
  repeat' wtm_at "y_dy"
  refine forS_inv (fun i ρ => ∃ (ys : List Str) (u w : Sl), ρ = [.val (.int c), .val (.int m), .val (.str (Str.ofString "abcdefghijklmnopqrstuvwxyz")), .val (.str z), .val (.int a), .own (ys.map .str), u, w] ∧ ys.length = i ∧ ∀ y ∈ ys, Nm y) ⟨[], _, _, rfl, rfl, fun _ h => nomatch h⟩ ?_ ?_
  · rintro i d _ ed ⟨ys, _, _, rfl, hyl, hy⟩
    obtain ⟨rfl, hi⟩ := rangeD_get ed
    have hsz : (ys.map D.str).length < sizeLine := by rw [List.length_map, sizeLine_eq]; omega
    obtain ⟨K, hK⟩ : ∃ K : Int, 0 + (i : Int) = K := ⟨_, rfl⟩
    rw [hK]
    have hK0 : 0 ≤ K := by omega
    have hK1 : K < 41 := by omega
    have bK : Bd 10 K := by unfold Bd; omega
    obtain ⟨x, e1, e2, e3⟩ := letterD (i := K * 7 % 26) (by omega) (by omega)
    obtain ⟨q, e4, e5, e6⟩ : ∃ q : Str, oIx (.lst [.str "", .str "q"]) (.int (K / 26)) = some (.str q) ∧ Lw q ∧ q.length ≤ 1 := by
      have : K / 26 = 0 ∨ K / 26 = 1 := by omega
      rcases this with h | h <;> rw [h]
      · refine ⟨_, rfl, fun c hc => ?_, by decide +kernel⟩
        have hc : c ∈ ([] : List Nat) := hc
        cases hc
      · refine ⟨_, rfl, fun c hc => ?_, by decide +kernel⟩
        have hc : c ∈ [113] := hc
        rw [List.mem_singleton.mp hc]
        decide
    repeat' wtm_at "y_dy"
    refine g_ot e1 ?_
    repeat' wtm_at "y_dy"
    refine g_ot e4 ?_
    refine g_ot (cat (by omega)) ?_
    have l1 := cut_lo (z := z) ha0 (by omega)
    have l2 := cut_hi (z := z) ha0 (by omega)
    have n1 : (cutS z none (some a)).length = a.toNat := by
      rw [slen, l1, List.length_take, ← slen]
      omega
    have n2 : (cutS z (some a) none).length = z.length - a.toNat := by
      rw [slen, l2, List.length_drop, ← slen]
    have w1 : Lw (cutS z none (some a)) := fun c hc => by rw [l1] at hc; exact jw c (List.mem_of_mem_take hc)
    have w2 : Lw (cutS z (some a) none) := fun c hc => by rw [l2] at hc; exact jw c (List.mem_of_mem_drop hc)
    have zs : z.length ≤ sizeLine := by rw [sizeLine_eq]; omega
    have app : ∀ a b : Str, (a ++ b).length = a.length + b.length := fun a b => Array.size_append
    repeat' wtm_at "y_dy"
    refine wp_slS ?_
    repeat' wtm_at "y_dy"
    refine ⟨z, rfl, zs, ?_⟩
    repeat' wtm_at "y_dy"
    refine g_ot (cat (by rw [app]; omega)) ?_
    refine wp_slS ?_
    repeat' wtm_at "y_dy"
    refine ⟨z, rfl, zs, ?_⟩
    refine g_ot (cat (by rw [app, app]; omega)) ?_
    repeat' wtm_at "y_dy"
    refine ⟨ys ++ [_], _, _, by rw [List.map_append]; rfl, by simp [hyl], fun y hy' => ?_⟩
    rcases List.mem_append.mp hy' with hy' | hy'
    · exact hy y hy'
    · rw [List.mem_singleton.mp hy']
      exact ⟨(w1.app (e2.app e5)).app w2, by rw [app, app, app]; omega, by rw [app, app, app]; omega⟩
  · rintro _ ⟨ys, _, _, rfl, hyl, hy⟩
    rw [rangeD_len] at hyl
    repeat' wtm_at "y_dy"
    exact ⟨ys, rfl, hyl, hy⟩
theorem sp_lsun {cs : List Int} {m : Int} (hc : 0 < cs.length) (h0 : 1 ≤ m) (h1 : m ≤ 80) : (f__law_sun [.lst (cs.map .int), .int m]).wp (fun d => ∃ rs : List Row, d = .lst (rs.map rowD) ∧ rs.length = m.toNat ∧ ∀ r ∈ rs, (0 ≤ r.1 ∧ r.1 ≤ 9999) ∧ G9 r.2) NoE := by
  obtain ⟨dc, hdc⟩ : ∃ dc, D.lst (cs.map .int) = dc := ⟨_, rfl⟩
  have hlen := len_map hdc
  have hix := fun {K : Int} => ix_map hdc (K := K)
  obtain ⟨L, hL⟩ : ∃ L : Int, (cs.length : Int) = L := ⟨_, rfl⟩
  rw [hL] at hlen hix
  have hL0 : 0 < L := by omega
  obtain ⟨c0, _, e0⟩ := hix (K := 0) (by decide) hL0
  rw [hdc]
  wtm_at "y_in"
  repeat' wtm_at "y_dy"
  refine g_ot e0 ?_
  repeat' wtm_at "y_dy"
  refine (sp_draw (by decide) (by decide) (by decide) (by decide)).no ?_
  rintro _ ⟨v, rfl, hv0, hv1⟩
  repeat' wtm_at "y_dy"
  refine forS_inv (fun i ρ => ∃ (rs : List Row) (h : Int) (a b c : Sl), ρ = [.val dc, .val (.int m), .own (rs.map rowD), .val (.int h), a, b, c] ∧ rs.length = i ∧ (0 ≤ h ∧ h ≤ 200 + 101 * i) ∧ ∀ r ∈ rs, (0 ≤ r.1 ∧ r.1 ≤ 9999) ∧ G9 r.2) ⟨[], v, _, _, _, rfl, rfl, by constructor <;> omega, fun _ h => nomatch h⟩ ?_ ?_
  · rintro i d _ ed ⟨rs, h, _, _, _, rfl, hrl, ⟨hh0, hh1⟩, hr⟩
    obtain ⟨rfl, hi⟩ := rangeD_get ed
    have hsz : (rs.map rowD).length < sizeLine := by rw [List.length_map, sizeLine_eq]; omega
    obtain ⟨K, hK⟩ : ∃ K : Int, 0 + (i : Int) = K := ⟨_, rfl⟩
    rw [hK]
    have bK : Bd 10 K := by unfold Bd; omega
    have m0 := Int.emod_nonneg K (show L ≠ 0 by omega)
    have m1 := Int.emod_lt_of_pos K hL0
    obtain ⟨c, _, e1⟩ := hix m0 m1
    have fin : ∀ (t : Tr) (a b c : Sl), G9 t → ∀ w : Int, 0 ≤ w → w < 100 → ∃ (rs' : List Row) (h' : Int) (a' b' c' : Sl), [.val dc, .val (.int m), .own (rs.map rowD ++ [D.tup [.int h, tD t]]), .val (.int (h + 1 + w)), a, b, c] = [.val dc, .val (.int m), .own (rs'.map rowD), .val (.int h'), a', b', c'] ∧ rs'.length = i + 1 ∧ (0 ≤ h' ∧ h' ≤ 200 + 101 * ((i + 1 : Nat) : Int)) ∧ ∀ r ∈ rs', (0 ≤ r.1 ∧ r.1 ≤ 9999) ∧ G9 r.2 := fun t a b c ht w w0 w1 => by
      refine ⟨rs ++ [(h, t)], h + 1 + w, a, b, c, by rw [List.map_append]; rfl, by simp [hrl], by constructor <;> omega, fun r hr' => ?_⟩
      rcases List.mem_append.mp hr' with hr' | hr'
      · exact hr r hr'
      · rw [List.mem_singleton.mp hr']
        exact ⟨⟨hh0, by dsimp only; omega⟩, ht⟩
    repeat' wtm_at "y_dy"
    refine g_ot hlen ?_
    repeat' wtm_at "y_dy"
    refine g_ot e1 ?_
    repeat' wtm_at "y_dy"
    refine (sp_ltriple (by decide) (by decide)).no ?_
    rintro _ ⟨⟨t0, t1, t2⟩, rfl, ht⟩
    obtain ⟨ht0, ht1, ht2⟩ := ht.g
    dsimp only at ht0 ht1 ht2
    repeat' wtm_at "y_dy"
    refine (sp_draw (by decide) (by decide) (by decide) (by decide)).no ?_
    rintro _ ⟨w, rfl, _, _⟩
    have far : N9 1000000000 := by unfold N9; decide
    have far2 : N9 (0 - 1000000000) := by unfold N9; decide
    have z0 : N9 0 := by unfold N9; decide
    have z1 : N9 1 := by unfold N9; decide
    repeat' wtm_at "y_dy"
    all_goals
      refine (sp_draw (by decide) (by decide) (by decide) (by decide)).no ?_
      rintro _ ⟨w, rfl, hw0, hw1⟩
      repeat' wtm_at "y_dy"
      refine fin (_, _, _) _ _ _ ?_ w hw0 hw1
      first
        | exact ⟨far, far2, ht2⟩
        | exact ⟨ht0, ht1, ht2⟩
        | exact ⟨z0, z0, z1⟩
  · rintro _ ⟨rs, h, _, _, _, rfl, hrl, _, hr⟩
    rw [rangeD_len] at hrl
    repeat' wtm_at "y_dy"
    exact ⟨rs, rfl, hrl, hr⟩
def DYd (rs : List Row) (ws : List Wall) (fs : List Dial) : Prop := (1 ≤ rs.length ∧ rs.length ≤ 80) ∧ ws.length ≤ 20 ∧ fs.length ≤ 20 ∧ (∀ r ∈ rs, (0 ≤ r.1 ∧ r.1 ≤ 9999) ∧ G9 r.2) ∧ (∀ w ∈ ws, Nm w.1 ∧ P9 w.2) ∧ ∀ f ∈ fs, Nm f.1 ∧ P9 f.2.1 ∧ G9 f.2.2
theorem cut_ints (ns : List Int) (lo hi : Option Int) : ∃ cs : List Int, Dy.cutD (ns.map .int) lo hi = cs.map .int ∧ cs.length ≤ ns.length := by
  refine ⟨((ns.drop _).take _), by unfold Dy.cutD; rw [← List.map_drop, ← List.map_take], ?_⟩
  rw [List.length_take, List.length_drop]
  omega
theorem sp_dyard (ns : List Int) (hl : ns.length ≤ 63) : (f__law_yard [.lst (ns.map .int)]).wp (fun d => ∃ (rs : List Row) (ws : List Wall) (fs : List Dial), d = yardD rs ws fs ∧ DYd rs ws fs) NoE := by
  obtain ⟨dn, hdn⟩ : ∃ dn, D.lst (ns.map .int) = dn := ⟨_, rfl⟩
  have cell : ∀ {k : Int}, 0 ≤ k → (f__law_cell_at [dn, .int k]).wp (fun d => ∃ c, d = .int c) NoE := fun h => by rw [← hdn]; exact sp_celln ns _ h
  obtain ⟨cs, ecs, hcs⟩ := cut_ints ns (some 3) (some 63)
  have esl : oSl dn (some 3) (some 63) = some (.lst (cs.map .int)) := by rw [← hdn, ← ecs]; rfl
  rw [hdn]
  wtm_at "y_in"
  repeat' wtm_at "y_dy"
  refine (cell (by decide)).no ?_
  rintro _ ⟨c0, rfl⟩
  repeat' wtm_at "y_dy"
  refine g_ot esl ?_
  repeat' ((fail_if_success (with_reducible show Dy.Got (oAdd _ _) _)); wtm_at "y_dy")
  refine w_addL (by simp only [List.length_map, List.length_cons, List.length_nil]; rw [sizeLine_eq]; omega) ?_
  rw [show cs.map D.int ++ [D.int c0] = (cs ++ [c0]).map D.int by rw [List.map_append]; rfl]
  have hc0 : 0 < (cs ++ [c0]).length := by simp
  have hcu : (cs ++ [c0]).length ≤ 64 := by simp; omega
  generalize cs ++ [c0] = us at hc0 hcu
  have sun := fun {m : Int} => sp_lsun (m := m) hc0
  obtain ⟨dc, hdc⟩ : ∃ dc, D.lst (us.map .int) = dc := ⟨_, rfl⟩
  have hlen := len_map hdc
  have hix := fun {K : Int} => ix_map hdc (K := K)
  obtain ⟨L, hL⟩ : ∃ L : Int, (us.length : Int) = L := ⟨_, rfl⟩
  rw [hL] at hlen hix
  have hL0 : 0 < L := by omega
  rw [hdc] at sun ⊢
  have c014 : ∀ {v : Int}, 0 ≤ v → v < 3 → ∃ s : Int, oIx (.lst [.int 0, .int 1, .int 4]) (.int v) = some (.int s) ∧ 0 ≤ s ∧ s ≤ 4 := fun {v} h0 h1 => by
    have : v = 0 ∨ v = 1 ∨ v = 2 := by omega
    rcases this with rfl | rfl | rfl <;> exact ⟨_, rfl, by decide, by decide⟩
  repeat' wtm_at "y_dy"
  refine (sp_draw (by decide) (by decide) (by decide) (by decide)).no ?_
  rintro _ ⟨v, rfl, v0, v1⟩
  obtain ⟨a, ea, a0, a1⟩ := c014 v0 v1
  refine g_ot ea ?_
  repeat' wtm_at "y_dy"
  refine (sp_draw (by decide) (by decide) (by decide) (by decide)).no ?_
  rintro _ ⟨v, rfl, v0, v1⟩
  obtain ⟨b, eb, b0, b1⟩ := c014 v0 v1
  refine g_ot eb ?_
  repeat' wtm_at "y_dy"
  refine (sp_draw (by decide) (by decide) (by decide) (by decide)).no ?_
  rintro _ ⟨v, rfl, v0, v1⟩
  obtain ⟨e, ee, ee0, ee1⟩ := c014 v0 v1
  refine g_ot ee ?_
  repeat' ((fail_if_success (with_reducible show SR.wp (sSeq (sIf _ _ _) _ _) _ _ _)); wtm_at "y_dy")
  refine sp_seq (SR.wp.imp (N := fun ρ => ∃ a b e : Int, ρ = [.val dn, .val (.int c0), .val dc, .val (.lst [.int a, .int b, .int e]), .un, .un, .un, .un, .un, .un] ∧ (0 ≤ a ∧ a ≤ 79) ∧ (0 ≤ b ∧ b ≤ 20) ∧ 0 ≤ e ∧ e ≤ 20) ?_ ?_ (fun _ z => z) fun _ _ z => z)
  · repeat' wtm_at "y_dy"
    refine (sp_draw (by decide) (by decide) (by decide) (by decide)).no ?_
    rintro _ ⟨v, rfl, _, _⟩
    repeat' wtm_at "y_dy"
    · refine (sp_draw (by decide) (by decide) (by decide) (by decide)).no ?_
      rintro _ ⟨a, rfl, a0, a1⟩
      repeat' wtm_at "y_dy"
      refine (sp_draw (by decide) (by decide) (by decide) (by decide)).no ?_
      rintro _ ⟨e, rfl, e0, e1⟩
      repeat' wtm_at "y_dy"
      exact ⟨_, _, _, rfl, by omega, by omega, by omega, by omega⟩
    · exact ⟨_, _, _, rfl, by omega, by omega, by omega, by omega⟩
  rintro _ ⟨a, b, e, rfl, ⟨a0, a1⟩, ⟨b0, b1⟩, e0, e1⟩
  refine sp_seq (SR.wp.imp (N := fun ρ => ∃ a b e : Int, ρ = [.val dn, .val (.int c0), .val dc, .val (.lst [.int a, .int b, .int e]), .un, .un, .un, .un, .un, .un] ∧ (0 ≤ a ∧ a ≤ 79) ∧ (0 ≤ b ∧ b ≤ 20) ∧ 0 ≤ e ∧ e ≤ 20) ?_ ?_ (fun _ z => z) fun _ _ z => z)
  · repeat' wtm_at "y_dy"
    refine (sp_draw (by decide) (by decide) (by decide) (by decide)).no ?_
    rintro _ ⟨v, rfl, _, _⟩
    repeat' wtm_at "y_dy"
    · refine (sp_draw (by decide) (by decide) (by decide) (by decide)).no ?_
      rintro _ ⟨a, rfl, a0, a1⟩
      repeat' wtm_at "y_dy"
      refine (sp_draw (by decide) (by decide) (by decide) (by decide)).no ?_
      rintro _ ⟨e, rfl, e0, e1⟩
      repeat' wtm_at "y_dy"
      exact ⟨_, _, _, rfl, by omega, by omega, by omega, by omega⟩
    · exact ⟨_, _, _, rfl, by omega, by omega, by omega, by omega⟩
  rintro _ ⟨a, b, e, rfl, ⟨a0, a1⟩, ⟨b0, b1⟩, e0, e1⟩
  repeat' wtm_at "y_dy"
  refine (cell (by decide)).no ?_
  rintro _ ⟨c1, rfl⟩
  repeat' wtm_at "y_dy"
  refine (sp_lnames (by omega) (by omega)).no ?_
  rintro _ ⟨xs, rfl, hxl, hx⟩
  obtain ⟨dx, hdx⟩ : ∃ dx, D.lst (xs.map .str) = dx := ⟨_, rfl⟩
  have nix := fun {K : Int} => ix_map hdx (K := K)
  rw [hdx]
  repeat' wtm_at "y_dy"
  refine forS_inv (fun i ρ => ∃ (ws : List Wall) (fs : List Dial) (p q r : Sl), ρ = [.val dn, .val (.int c0), .val dc, .val (.lst [.int a, .int b, .int e]), .val dx, .own (ws.map wallD), .own (fs.map dialD), p, q, r] ∧ (ws.length = min i b.toNat ∧ fs.length = i - b.toNat) ∧ (∀ w ∈ ws, Nm w.1 ∧ P9 w.2) ∧ ∀ f ∈ fs, Nm f.1 ∧ P9 f.2.1 ∧ G9 f.2.2) ⟨[], [], _, _, _, rfl, by simp, (fun _ h => nomatch h), fun _ h => nomatch h⟩ ?_ ?_
  · rintro i d _ ed ⟨ws, fs, _, _, _, rfl, ⟨hwl, hfl⟩, hw, hf⟩
    obtain ⟨rfl, hi⟩ := rangeD_get ed
    have hs1 : (ws.map wallD).length < sizeLine := by rw [List.length_map, sizeLine_eq]; omega
    have hs2 : (fs.map dialD).length < sizeLine := by rw [List.length_map, sizeLine_eq]; omega
    obtain ⟨K, hK⟩ : ∃ K : Int, 0 + (i : Int) = K := ⟨_, rfl⟩
    rw [hK]
    have bK : Bd 10 (K / L) := by
      have h1 : 0 ≤ K / L := Int.ediv_nonneg (by omega) (by omega)
      have h2 : K / L ≤ K := Int.ediv_le_self L (by omega)
      unfold Bd
      omega
    have bL : Bd 200 L := Bd.mono (n := 10) (by unfold Bd; omega) (by decide)
    have m0 := Int.emod_nonneg K (show L ≠ 0 by omega)
    have m1 := Int.emod_lt_of_pos K hL0
    obtain ⟨c, _, e1⟩ := hix m0 m1
    obtain ⟨nm, hnm, e2⟩ := nix (K := K) (by omega) (by omega)
    have nm_ok := hx nm hnm
    repeat' wtm_at "y_dy"
    refine g_ot hlen ?_
    repeat' wtm_at "y_dy"
    refine g_ot e1 ?_
    repeat' wtm_at "y_dy"
    refine g_ot hlen ?_
    repeat' wtm_at "y_dy"
    refine (sp_lplate _).no ?_
    rintro _ ⟨p, rfl, hp⟩
    have hp9 : P9 p := ⟨hp.1.g, hp.2.1.g, hp.2.2.g⟩
    repeat' wtm_at "y_dy"
    · refine g_ot e2 ?_
      repeat' wtm_at "y_dy"
      refine ⟨ws ++ [(nm, p)], fs, _, _, _, by rw [List.map_append]; rfl, ⟨by simp [hwl]; omega, by omega⟩, fun w hw' => ?_, hf⟩
      rcases List.mem_append.mp hw' with hw' | hw'
      · exact hw w hw'
      · rw [List.mem_singleton.mp hw']; exact ⟨nm_ok, hp9⟩
    · refine g_ot e2 ?_
      repeat' wtm_at "y_dy"
      refine (sp_ltip hp).no ?_
      rintro _ ⟨t, rfl, ht⟩
      repeat' wtm_at "y_dy"
      refine ⟨ws, fs ++ [(nm, p, t)], _, _, _, by rw [List.map_append]; rfl, ⟨by omega, by simp [hfl]; omega⟩, hw, fun f hf' => ?_⟩
      rcases List.mem_append.mp hf' with hf' | hf'
      · exact hf f hf'
      · rw [List.mem_singleton.mp hf']; exact ⟨nm_ok, hp9, ht⟩
  · rintro _ ⟨ws, fs, _, _, _, rfl, ⟨hwl, hfl⟩, hw, hf⟩
    rw [rangeD_len] at hwl hfl
    repeat' wtm_at "y_dy"
    refine (sun (by omega) (by omega)).no ?_
    rintro _ ⟨rs, rfl, hrl, hr⟩
    repeat' wtm_at "y_dy"
    exact ⟨rs, ws, fs, rfl, ⟨by omega, by omega⟩, by omega, by omega, hr, hw, hf⟩

local macro_rules | `(tactic| wtm_at "y_fn") => `(tactic| first | (with_reducible refine sp_nr ?_) | (with_reducible refine sp_setT ?_) | (with_reducible refine wp_tNil ?_) | (with_reducible refine wp_tV ?_) | (with_reducible refine wp_tN ?_) | (with_reducible refine wp_cCompQ ?_) | (with_reducible refine wp_callK ?_))

/-! #### alike -/
def wfD : Nat → D → Prop
  | _, .int _ => True
  | _, .str x => PyData.strOk x = true
  | n + 1, .tup xs => xs.length ≤ 1000 ∧ ∀ x ∈ xs, wfD n x
  | n + 1, .lst xs => xs.length ≤ 1000 ∧ ∀ x ∈ xs, wfD n x
  | _, _ => False
theorem zip_self : ∀ {xs : List D}, Dy.zipD xs xs = xs.map fun x => .tup [x, x]
  | [] => rfl
  | x :: xs => by
    show D.tup [x, x] :: Dy.zipD xs xs = _
    rw [zip_self]
    rfl
theorem all_true {α : Type} (xs : List α) : ((xs.map fun _ => true).all id) = true := by
  rw [List.all_map]
  exact List.all_eq_true.mpr fun _ _ => rfl
theorem w_neSameB {a : Bool} {P : D → Prop} (h : P (.bl false)) : Got (oNe (.bl a) (.bl a)) P := w_neB (by rw [beq_self_eq_true]; exact h)
theorem sp_alike : ∀ (n : Nat) (d : D), wfD n d → (r__law_alike (n + 1) [d, d]).wp (fun z => z = .bl true) NoE := by
  intro n
  induction n with
  | zero =>
    intro d h
    cases d with
    | int i =>
      unfold r__law_alike
      wtm_at "y_in"
      wtm_at "y_go"
      rw [decide_t rfl]
    | str x =>
      have h : PyData.strOk x = true := h
      unfold r__law_alike
      wtm_at "y_in"
      repeat' ((fail_if_success (with_reducible show Dy.Got (oEq _ _) _)); wtm_at "y_dy")
      exact w_eqS rfl h rfl
    | _ => exact h.elim
  | succ n ih =>
    intro d h
    cases d with
    | int i =>
      unfold r__law_alike
      wtm_at "y_in"
      wtm_at "y_go"
      rw [decide_t rfl]
    | str x =>
      have h : PyData.strOk x = true := h
      unfold r__law_alike
      wtm_at "y_in"
      repeat' ((fail_if_success (with_reducible show Dy.Got (oEq _ _) _)); wtm_at "y_dy")
      exact w_eqS rfl h rfl
    | tup xs =>
      obtain ⟨hl, hx⟩ := h
      have z2 : zip2 [.tup xs, .tup xs] = some (xs.map fun x => D.tup [x, x]) := by rw [← zip_self]; rfl
      unfold r__law_alike
      wtm_at "y_in"
      repeat' (first | (with_reducible refine w_neSameB ?_) | ((fail_if_success (with_reducible show Dy.Got (oNe _ _) _)); (fail_if_success (with_reducible show Dy.Got (zip2 _) _)); wtm_at "y_dy"))
      refine g_ot z2 ?_
      refine ⟨by rw [List.length_map, sizeLine_eq]; omega, ?_⟩
      repeat' ((fail_if_success (with_reducible show Dy.Got (compS _ _ _ _ _) _)); wtm_at "y_dy")
      refine c_mapG (f := fun x : D => D.tup [x, x]) (g := fun _ => D.bl true) (fun x hx' => ?_) ?_
      · wtm_at "y_go"
        exact ih x (hx x hx')
      rw [show xs.map (fun _ => D.bl true) = (xs.map fun _ => true).map D.bl by rw [List.map_map]; rfl]
      repeat' wtm_at "y_dy"
      refine w_allB ?_
      rw [all_true]
    | lst xs =>
      obtain ⟨hl, hx⟩ := h
      have z2 : zip2 [.lst xs, .lst xs] = some (xs.map fun x => D.tup [x, x]) := by rw [← zip_self]; rfl
      unfold r__law_alike
      wtm_at "y_in"
      repeat' (first | (with_reducible refine w_neSameB ?_) | ((fail_if_success (with_reducible show Dy.Got (oNe _ _) _)); (fail_if_success (with_reducible show Dy.Got (zip2 _) _)); wtm_at "y_dy"))
      refine g_ot z2 ?_
      refine ⟨by rw [List.length_map, sizeLine_eq]; omega, ?_⟩
      repeat' ((fail_if_success (with_reducible show Dy.Got (compS _ _ _ _ _) _)); wtm_at "y_dy")
      refine c_mapG (f := fun x : D => D.tup [x, x]) (g := fun _ => D.bl true) (fun x hx' => ?_) ?_
      · wtm_at "y_go"
        exact ih x (hx x hx')
      rw [show xs.map (fun _ => D.bl true) = (xs.map fun _ => true).map D.bl by rw [List.map_map]; rfl]
      repeat' wtm_at "y_dy"
      refine w_allB ?_
      rw [all_true]
    | _ => exact h.elim

/-! ### yards alike -/
def NmOk (ws : List Wall) (fs : List Dial) : Prop := (∀ w ∈ ws, PyData.strOk w.1 = true) ∧ ∀ f ∈ fs, PyData.strOk f.1 = true
theorem okYn {n : Nat} (hn : 6 ≤ n) {rs : List Row} {ws : List Wall} {fs : List Dial} (h : NmOk ws fs) : okq (n + 1) (yardD rs ws fs) = true := by
  obtain ⟨k, rfl⟩ : ∃ k, n = k + 6 := ⟨n - 6, by omega⟩
  have a1 : okq (k + 6) (.lst (rs.map rowD)) = true := by
    show (rs.map rowD).all (okq (k + 5)) = true
    rw [List.all_eq_true]
    intro d hd
    obtain ⟨e, _, rfl⟩ := List.mem_map.mp hd
    rfl
  have a2 : okq (k + 6) (.lst (ws.map wallD)) = true := by
    show (ws.map wallD).all (okq (k + 5)) = true
    rw [List.all_eq_true]
    intro d hd
    obtain ⟨e, he, rfl⟩ := List.mem_map.mp hd
    show (PyData.strOk e.1 && _) = true
    rw [h.1 e he]
    rfl
  have a3 : okq (k + 6) (.lst (fs.map dialD)) = true := by
    show (fs.map dialD).all (okq (k + 5)) = true
    rw [List.all_eq_true]
    intro d hd
    obtain ⟨e, he, rfl⟩ := List.mem_map.mp hd
    show (PyData.strOk e.1 && _) = true
    rw [h.2 e he]
    rfl
  show (okq (k + 6) _ && (okq (k + 6) _ && (okq (k + 6) _ && true))) = true
  rw [a1, a2, a3]
  rfl
theorem okYd {rs : List Row} {ws : List Wall} {fs : List Dial} (h : NmOk ws fs) : okq 40 (yardD rs ws fs) = true := okYn (n := 39) (by decide) h
theorem wf_t (t : Tr) : wfD 3 (tD t) := ⟨by simp, fun x hx => by
  simp only [List.mem_cons, List.not_mem_nil, or_false] at hx
  rcases hx with rfl | rfl | rfl <;> exact trivial⟩
theorem wf_p (p : Plate) : wfD 4 (plD p) := ⟨by simp, fun x hx => by
  simp only [List.mem_cons, List.not_mem_nil, or_false] at hx
  rcases hx with rfl | rfl | rfl <;> exact wf_t _⟩
theorem wf_t4 (t : Tr) : wfD 4 (tD t) := ⟨by simp, fun x hx => by
  simp only [List.mem_cons, List.not_mem_nil, or_false] at hx
  rcases hx with rfl | rfl | rfl <;> exact trivial⟩
theorem wfYd {rs : List Row} {ws : List Wall} {fs : List Dial} (h : NmOk ws fs) (l1 : rs.length ≤ 100) (l2 : ws.length ≤ 100) (l3 : fs.length ≤ 100) : wfD 7 (yardD rs ws fs) := by
  refine ⟨by simp, fun x hx => ?_⟩
  simp only [List.mem_cons, List.not_mem_nil, or_false] at hx
  rcases hx with rfl | rfl | rfl
  · refine ⟨by rw [List.length_map]; omega, fun d hd => ?_⟩
    obtain ⟨r, hr, rfl⟩ := List.mem_map.mp hd
    refine ⟨by simp, fun x hx => ?_⟩
    simp only [List.mem_cons, List.not_mem_nil, or_false] at hx
    rcases hx with rfl | rfl
    · exact trivial
    · exact wf_t4 _
  · refine ⟨by rw [List.length_map]; omega, fun d hd => ?_⟩
    obtain ⟨r, hr, rfl⟩ := List.mem_map.mp hd
    refine ⟨by simp, fun x hx => ?_⟩
    simp only [List.mem_cons, List.not_mem_nil, or_false] at hx
    rcases hx with rfl | rfl
    · exact h.1 r hr
    · exact wf_p _
  · refine ⟨by rw [List.length_map]; omega, fun d hd => ?_⟩
    obtain ⟨r, hr, rfl⟩ := List.mem_map.mp hd
    refine ⟨by simp, fun x hx => ?_⟩
    simp only [List.mem_cons, List.not_mem_nil, or_false] at hx
    rcases hx with rfl | rfl | rfl
    · exact h.2 r hr
    · exact wf_p _
    · exact wf_t4 _
theorem sp_alikeY {rs : List Row} {ws : List Wall} {fs : List Dial} {P : D → Prop} (h : NmOk ws fs) (l1 : rs.length ≤ 100) (l2 : ws.length ≤ 100) (l3 : fs.length ≤ 100) (k : P (.bl true)) : (f__law_alike [yardD rs ws fs, yardD rs ws fs]).wp P NoE := by
  refine (show (f__law_alike _).wp _ NoE from sp_alike 7 _ (wfYd h l1 l2 l3)).no ?_
  rintro _ rfl
  exact k

local macro_rules | `(tactic| wtm_at "y_fn") => `(tactic| ((with_reducible show Got (oIsX _ _ [_, D.tup _]) _); first | ((refine w_isxT (b := true) rfl ?_ ?_ ?_); (focus (decide +kernel)); (focus (decide +kernel))) | ((refine w_isxT (b := false) rfl ?_ ?_ ?_); (focus (decide +kernel)); (focus (decide +kernel)))))
local macro_rules | `(tactic| wtm_at "y_fn") => `(tactic| ((with_reducible show Got (oIsX _ _ [_, D.cls _]) _); first | ((refine w_isxC (b := true) ?_ ?_ ?_); (focus (decide +kernel)); (focus (decide +kernel))) | ((refine w_isxC (b := false) ?_ ?_ ?_); (focus (decide +kernel)); (focus (decide +kernel)))))
local macro_rules | `(tactic| wtm_at "y_fn") => `(tactic| ((with_reducible show Got (oIsX _ _ [_, D.ty _]) _); refine w_isxV (by decide +kernel) ?_))
local macro_rules | `(tactic| wtm_at "y_fn") => `(tactic| ((with_reducible show Got (oAt _ _ (D.exc _ _ _)) _); refine w_xat (by decide +kernel) rfl ?_))
local macro_rules | `(tactic| wtm_at "y_fn") => `(tactic| (with_reducible refine sp_tryAs ?_))
local macro_rules | `(tactic| wtm_at "y_fn") => `(tactic| ((with_reducible show SR.wp (catchS _ _ _ _ _ (D.exc _ _ _)) _ _ _); refine sp_catch (by decide +kernel) (by decide +kernel) ?_))
local macro_rules | `(tactic| wtm_at "y_fn") => `(tactic| (with_reducible refine sp_raise ?_))

local macro_rules | `(tactic| wtm_at "y_fn") => `(tactic| (with_reducible refine sp_raiseF ?_))

local macro_rules | `(tactic| wtm_at "y_fn") => `(tactic| first | ((with_reducible show R.wp (eVarP _ _) _ _); refine wp_varP rfl ?_) | (with_reducible refine wp_xCallT ?_) | (with_reducible refine wp_tC ?_) | (with_reducible refine wp_xList ?_) | (with_reducible refine sp_ownT ?_) | (with_reducible refine wp_xLst ?_))
local macro_rules | `(tactic| wtm_at "y_fn") => `(tactic| ((with_reducible show _ ≤ sizeLine ∧ _); refine ⟨?_, ?_⟩; (focus (wtm_at "y_line"; done))))

/-! ### k82: moved, made greater -/
section
variable {α : Type} {b : D → REnv → Option REnv} {e : REnv → R D} {ρ : REnv}
theorem compQ_map {f g : α → D} {xs : List α} {Q : List D → Prop} {E : D → Prop} (hx : ∀ x ∈ xs, Got (b (f x) ρ) fun ρ' => (e ρ').wp (fun v => v = g x) E) (h : Q (xs.map g)) : (compQ b eYes e (xs.map f) ρ).wp Q E :=
  compQ_all (keep := fun _ => true) (fun x hx' => by
    obtain ⟨ρ', e1, h2⟩ := hx x hx'
    exact ⟨ρ', e1, wp_yes ⟨rfl, fun _ => h2⟩⟩) (by rw [List.filter_eq_self.mpr (fun _ _ => rfl)]; exact h)
end
def mapW (p : Plate → Plate) (w : Wall) : Wall := (w.1, p w.2)
def mapF (p : Plate → Plate) (f : Tr → Tr) (d : Dial) : Dial := (d.1, p d.2.1, f d.2.2)
def adT (m t : Tr) : Tr := (t.1 + m.1, t.2.1 + m.2.1, t.2.2 + m.2.2)
def muT (k : Int) (t : Tr) : Tr := (t.1 * k, t.2.1 * k, t.2.2 * k)
def adP (m : Tr) (p : Plate) : Plate := (adT m p.1, p.2.1, p.2.2)
def muP (k : Int) (p : Plate) : Plate := (muT k p.1, muT k p.2.1, muT k p.2.2)
def treeY (rs : List Row) (ws : List Wall) (fs : List Dial) : O := .t [.l ((rs.map rowD).map .v), .l ((ws.map wallD).map .v), .l ((fs.map dialD).map .v)]
theorem treeY_D (rs : List Row) (ws : List Wall) (fs : List Dial) : (treeY rs ws fs).toD = yardD rs ws fs := by
  simp only [treeY, O.toD, O.toDs, toDs_map]
def NY : D := .exc "NoYard" ["name"] [.non]
def InR (ws : List Wall) (fs : List Dial) : Prop := (∀ w ∈ ws, P9 w.2) ∧ ∀ f ∈ fs, P9 f.2.1 ∧ G9 f.2.2
theorem absN {x : Int} : (1000000000 < if x < 0 then -x else x) ↔ ¬ N9 x := by
  unfold N9
  split <;> omega
theorem take_all {α : Type} {p : α → Prop} {xs : List α} {i : Nat} {x : α} (e : xs[i]? = some x) (h : ∀ y ∈ xs.take i, p y) (hx : p x) : ∀ y ∈ xs.take (i + 1), p y := fun y hy => by
  rw [List.take_add_one, e] at hy
  rcases List.mem_append.mp hy with hy | hy
  · exact h y hy
  · rw [List.mem_singleton.mp hy]; exact hx
theorem sp_inreach {d : D} {ts : List Tr} {P B : D → Prop} (hi : iterD d = some (ts.map tD)) (h1 : (∀ t ∈ ts, G9 t) → P .non) (h2 : ¬ (∀ t ∈ ts, G9 t) → B NY) : (f_in_reach [d]).wp P B := by
  wtm_at "y_in"
  repeat' ((fail_if_success (with_reducible show Dy.Got (iterD _) _)); wtm_at "y_dy")
  refine g_ot hi ?_
  refine forS_inv (fun i ρ => (∃ a b, ρ = [.val d, a, b]) ∧ ∀ t ∈ ts.take i, G9 t) ⟨⟨_, _, rfl⟩, by simp⟩ ?_ ?_
  · rintro i x _ ed ⟨⟨_, _, rfl⟩, hg⟩
    rw [List.getElem?_map, Option.map_eq_some_iff] at ed
    obtain ⟨t, et, rfl⟩ := ed
    have bad : ¬ G9 t → B NY := fun h => h2 fun z => h (z t (List.mem_of_getElem? et))
    have nx : G9 t → ∀ t ∈ ts.take (i + 1), G9 t := fun h => take_all et hg h
    obtain ⟨x, y, z⟩ := t
    wtm_at "y_go"
    · refine ⟨_, rfl, bad fun h => ?_⟩
      rename_i c
      exact absN.mp c h.1
    · refine ⟨_, rfl, bad fun h => ?_⟩
      rename_i c
      exact absN.mp c h.2.1
    · refine ⟨_, rfl, bad fun h => ?_⟩
      rename_i c
      exact absN.mp c h.2.2
    · rename_i c1 c2 c3
      refine ⟨⟨_, _, rfl⟩, nx ⟨?_, ?_, ?_⟩⟩
      · exact Classical.byContradiction fun q => c1 (absN.mpr q)
      · exact Classical.byContradiction fun q => c2 (absN.mpr q)
      · exact Classical.byContradiction fun q => c3 (absN.mpr q)
  · rintro _ ⟨⟨_, _, rfl⟩, hg⟩
    rw [List.length_map, List.take_length] at hg
    exact h1 hg
section
variable {rs : List Row} {ws : List Wall} {fs : List Dial}
theorem lk_wp (hr : ∀ r ∈ rs, G9 r.2) (l1 : rs.length ≤ 100) (l2 : ws.length ≤ 100) (l3 : fs.length ≤ 100) (v : V) : (f_looked_through v (yardD rs ws fs)).wp (fun d => InR ws fs ∧ d = yardD rs ws fs) fun e => ¬ InR ws fs ∧ e = NY := by
  have f1 : (rs.map rowD).length ≤ sizeLine := by rw [List.length_map, sizeLine_eq]; omega
  obtain ⟨Y, hY⟩ : ∃ Y, yardD rs ws fs = Y := ⟨_, rfl⟩
  have bY : ∀ {ρ : REnv} {P : REnv → Prop}, Upd ρ 1 (.val (.lst (rs.map rowD))) (fun ρ => Upd ρ 2 (.val (.lst (ws.map wallD))) fun ρ => Upd ρ 3 (.val (.lst (fs.map dialD))) P) → Got (bSeq 3 (bCons (bName 1) (bCons (bName 2) (bCons (bName 3) bNil))) Y ρ) P := fun {ρ P} h => by
    rw [← hY]
    exact ⟨_, rfl, h⟩
  rw [hY]
  refine wp_fnJ ?_
  show (SR.wp _ _ _ _)
  simp only [List.replicate_succ, List.replicate_zero, Nat.reduceSub]
  repeat' (first | ((with_reducible show Dy.Got (bSeq 3 _ Y _) _); refine bY ?_) | ((fail_if_success (with_reducible show Dy.Got (compS _ _ _ _ _) _)); first | wtm_at "y_dy" | wtm_at "y_fn"))
  refine c_mapG (f := rowD) (g := fun r => tD r.2) (fun r hr' => ?_) ?_
  · wtm_at "y_go"
    rfl
  wtm_at "y_go"
  refine sp_inreach (ts := rs.map (·.2)) (by rw [List.map_map]; rfl) (fun _ => ?_) fun h => absurd (fun t ht => ?_) h
  rotate_left
  · obtain ⟨r, hr', rfl⟩ := List.mem_map.mp ht
    exact hr r hr'
  repeat' ((fail_if_success (with_reducible show SR.wp (forS _ _ (List.map _ _) _) _ _ _)); first | wtm_at "y_dy" | wtm_at "y_fn")
  refine forS_inv (fun i ρ => (∃ a b c d e, ρ = [.pin v (.v Y), .val (.lst (rs.map rowD)), .val (.lst (ws.map wallD)), .val (.lst (fs.map dialD)), a, b, c, d, e]) ∧ ∀ w ∈ ws.take i, P9 w.2) ⟨⟨_, _, _, _, _, rfl⟩, by simp⟩ ?_ ?_
  · rintro i d _ ed ⟨⟨_, _, _, _, _, rfl⟩, hg⟩
    rw [List.getElem?_map, Option.map_eq_some_iff] at ed
    obtain ⟨w, ew, rfl⟩ := ed
    wtm_at "y_go"
    refine sp_inreach (ts := [w.2.1, w.2.2.1, w.2.2.2]) rfl (fun h => ?_) fun h => ⟨fun z => h ?_, rfl⟩
    · simp only [List.mem_cons, List.not_mem_nil, or_false, forall_eq_or_imp, forall_eq] at h
      wtm_at "y_go"
      exact ⟨⟨_, _, _, _, _, rfl⟩, take_all ew hg h⟩
    · have := z.1 w (List.mem_of_getElem? ew)
      simp only [List.mem_cons, List.not_mem_nil, or_false, forall_eq_or_imp, forall_eq]
      exact this
  rintro _ ⟨⟨_, _, _, _, _, rfl⟩, hw⟩
  rw [List.length_map, List.take_length] at hw
  repeat' ((fail_if_success (with_reducible show SR.wp (forS _ _ (List.map _ _) _) _ _ _)); first | wtm_at "y_dy" | wtm_at "y_fn")
  refine forS_inv (fun i ρ => (∃ a b c d e, ρ = [.pin v (.v Y), .val (.lst (rs.map rowD)), .val (.lst (ws.map wallD)), .val (.lst (fs.map dialD)), a, b, c, d, e]) ∧ ∀ f ∈ fs.take i, P9 f.2.1 ∧ G9 f.2.2) ⟨⟨_, _, _, _, _, rfl⟩, by simp⟩ ?_ ?_
  · rintro i d _ ed ⟨⟨_, _, _, _, _, rfl⟩, hg⟩
    rw [List.getElem?_map, Option.map_eq_some_iff] at ed
    obtain ⟨w, ew, rfl⟩ := ed
    wtm_at "y_go"
    refine sp_inreach (ts := [w.2.1.1, w.2.1.2.1, w.2.1.2.2, w.2.2]) rfl (fun h => ?_) fun h => ⟨fun z => h ?_, rfl⟩
    · simp only [List.mem_cons, List.not_mem_nil, or_false, forall_eq_or_imp, forall_eq] at h
      wtm_at "y_go"
      exact ⟨⟨_, _, _, _, _, rfl⟩, take_all ew hg ⟨⟨h.1, h.2.1, h.2.2.1⟩, h.2.2.2⟩⟩
    · obtain ⟨⟨a, b, c⟩, e⟩ := z.2 w (List.mem_of_getElem? ew)
      simp only [List.mem_cons, List.not_mem_nil, or_false, forall_eq_or_imp, forall_eq]
      exact ⟨a, b, c, e⟩
  rintro _ ⟨⟨_, _, _, _, _, rfl⟩, hf⟩
  rw [List.length_map, List.take_length] at hf
  wtm_at "y_go"
  exact sp_retJ rfl ⟨⟨hw, hf⟩, rfl⟩
theorem lk_eq (hr : ∀ r ∈ rs, G9 r.2) (l1 : rs.length ≤ 100) (l2 : ws.length ≤ 100) (l3 : fs.length ≤ 100) {P B : D → Prop} (h1 : InR ws fs → P (yardD rs ws fs)) (h2 : ¬ InR ws fs → B NY) : ∃ r, (∀ v, f_looked_through v (yardD rs ws fs) = r) ∧ r.wp P B := by
  by_cases h : InR ws fs
  · refine ⟨.ok (yardD rs ws fs), fun v => ?_, h1 h⟩
    have := lk_wp hr l1 l2 l3 v (ws := ws) (fs := fs)
    cases q : f_looked_through v (yardD rs ws fs) with
    | ok d => rw [q] at this; rw [this.2]
    | err e => rw [q] at this; exact absurd h this.1
    | bad => rw [q] at this; exact this.elim
  · refine ⟨.err NY, fun v => ?_, h2 h⟩
    have := lk_wp hr l1 l2 l3 v (ws := ws) (fs := fs)
    cases q : f_looked_through v (yardD rs ws fs) with
    | ok d => rw [q] at this; exact absurd this.1 h
    | err e => rw [q] at this; rw [this.2]
    | bad => rw [q] at this; exact this.elim
end

/-! ### k82: the yards told, the law's own -/
section
variable {rs : List Row} {ws : List Wall} {fs : List Dial} {m : Tr} {k : Int} {P : D → Prop}
theorem sp_tsum {t : Tr} (h : P (tD (adT m t))) : (f_triple_sum [tD t, tD m]).wp P NoE := by
  wtm_at "y_in"
  wtm_at "y_go"
  exact h
theorem sp_ttimes {t : Tr} {n : Nat} (hn : n < 10000) (ht : Gd n t) (hk : Bd 12 k) (h : P (tD (muT k t))) : (f_triple_times [tD t, .int k]).wp P NoE := by
  obtain ⟨h1, h2, h3⟩ := ht
  wtm_at "y_in"
  wtm_at "y_go"
  exact h
theorem sp_mplate {p : Plate} (h : P (plD (adP m p))) : (f_moved_plate [plD p, tD m]).wp P NoE := by
  wtm_at "y_in"
  wtm_at "y_go"
  refine sp_tsum ?_
  wtm_at "y_go"
  exact h
theorem sp_gplate {p : Plate} (hp : P9 p) (hk : Bd 12 k) (h : P (plD (muP k p))) : (f_greater_plate [plD p, .int k]).wp P NoE := by
  obtain ⟨h1, h2, h3⟩ := hp
  wtm_at "y_in"
  wtm_at "y_go"
  refine sp_ttimes (n := 31) (by decide) h1.gd hk ?_
  wtm_at "y_go"
  refine sp_ttimes (n := 31) (by decide) h2.gd hk ?_
  wtm_at "y_go"
  refine sp_ttimes (n := 31) (by decide) h3.gd hk ?_
  wtm_at "y_go"
  exact h
theorem mask3 (a b c : List D) : mask (.t [.l, .l, .l]) (.tup (O.toDs [.l (a.map .v), .l (b.map .v), .l (c.map .v)])) = .t [.l (a.map .v), .l (b.map .v), .l (c.map .v)] := by
  simp only [O.toDs, O.toD, toDs_map]
  rfl
theorem maskY (rs : List Row) (ws : List Wall) (fs : List Dial) : mask (.t [.l, .l, .l]) (treeY rs ws fs).toD = treeY rs ws fs := mask3 _ _ _
theorem sp_moved {PO : O → Prop} {B : D → Prop} (hr : ∀ r ∈ rs, G9 r.2) (l1 : rs.length ≤ 100) (l2 : ws.length ≤ 100) (l3 : fs.length ≤ 100)
    (h1 : InR (ws.map (mapW (adP m))) (fs.map (mapF (adP m) (adT m))) → PO (treeY rs (ws.map (mapW (adP m))) (fs.map (mapF (adP m) (adT m)))))
    (h2 : ¬ InR (ws.map (mapW (adP m))) (fs.map (mapF (adP m) (adT m))) → B NY) : (f_moved_yard [yardD rs ws fs, tD m]).wp PO B := by
  have f1 : (rs.map rowD).length ≤ sizeLine := by rw [List.length_map, sizeLine_eq]; omega
  have f2 : (ws.map wallD).length ≤ sizeLine := by rw [List.length_map, sizeLine_eq]; omega
  have f3 : (fs.map dialD).length ≤ sizeLine := by rw [List.length_map, sizeLine_eq]; omega
  refine wp_fnT ?_
  wtm_at "y_in"
  wtm_at "y_go"
  refine sp_retJT ?_
  wtm_at "y_go"
  refine compQ_map (f := wallD) (g := fun w => wallD (mapW (adP m) w)) (fun w hw => ?_) ?_
  · wtm_at "y_go"
    refine (sp_mplate (P := fun d => d = plD (adP m w.2)) rfl).imp (fun d hd => ?_) fun _ z => z.elim
    subst hd
    wtm_at "y_go"
    rfl
  wtm_at "y_go"
  refine compQ_map (f := dialD) (g := fun f => dialD (mapF (adP m) (adT m) f)) (fun f hf => ?_) ?_
  · wtm_at "y_go"
    refine (sp_mplate (P := fun d => d = plD (adP m f.2.1)) rfl).imp (fun d hd => ?_) fun _ z => z.elim
    subst hd
    wtm_at "y_go"
    refine (sp_tsum (P := fun d => d = tD (adT m f.2.2)) rfl).imp (fun d hd => ?_) fun _ z => z.elim
    subst hd
    wtm_at "y_go"
    rfl
  wtm_at "y_go"
  rw [show ws.map (fun w => wallD (mapW (adP m) w)) = (ws.map (mapW (adP m))).map wallD by rw [List.map_map]; rfl, show fs.map (fun f => dialD (mapF (adP m) (adT m) f)) = (fs.map (mapF (adP m) (adT m))).map dialD by rw [List.map_map]; rfl]
  refine ⟨mask3 _ _ _, ?_⟩
  rw [show D.tup (O.toDs [.l ((rs.map rowD).map .v), .l (((ws.map (mapW (adP m))).map wallD).map .v), .l (((fs.map (mapF (adP m) (adT m))).map dialD).map .v)]) = yardD rs (ws.map (mapW (adP m))) (fs.map (mapF (adP m) (adT m))) from treeY_D _ _ _]
  refine lk_eq hr l1 (by rw [List.length_map]; exact l2) (by rw [List.length_map]; exact l3) (fun h => ?_) h2
  have e := maskY rs (ws.map (mapW (adP m))) (fs.map (mapF (adP m) (adT m)))
  rw [treeY_D] at e
  rw [e]
  exact h1 h
theorem sp_greater {PO : O → Prop} {B : D → Prop} (hr : ∀ r ∈ rs, G9 r.2) (l1 : rs.length ≤ 100) (l2 : ws.length ≤ 100) (l3 : fs.length ≤ 100) (hi : InR ws fs) (hk : Bd 12 k)
    (h1 : InR (ws.map (mapW (muP k))) (fs.map (mapF (muP k) (muT k))) → PO (treeY rs (ws.map (mapW (muP k))) (fs.map (mapF (muP k) (muT k)))))
    (h2 : ¬ InR (ws.map (mapW (muP k))) (fs.map (mapF (muP k) (muT k))) → B NY) : (f_greater_yard [yardD rs ws fs, .int k]).wp PO B := by
  have f1 : (rs.map rowD).length ≤ sizeLine := by rw [List.length_map, sizeLine_eq]; omega
  have f2 : (ws.map wallD).length ≤ sizeLine := by rw [List.length_map, sizeLine_eq]; omega
  have f3 : (fs.map dialD).length ≤ sizeLine := by rw [List.length_map, sizeLine_eq]; omega
  refine wp_fnT ?_
  wtm_at "y_in"
  wtm_at "y_go"
  refine sp_retJT ?_
  wtm_at "y_go"
  refine compQ_map (f := wallD) (g := fun w => wallD (mapW (muP k) w)) (fun w hw => ?_) ?_
  · wtm_at "y_go"
    refine (sp_gplate (P := fun d => d = plD (muP k w.2)) (hi.1 w hw) hk rfl).imp (fun d hd => ?_) fun _ z => z.elim
    subst hd
    wtm_at "y_go"
    rfl
  wtm_at "y_go"
  refine compQ_map (f := dialD) (g := fun f => dialD (mapF (muP k) (muT k) f)) (fun f hf => ?_) ?_
  · wtm_at "y_go"
    refine (sp_gplate (P := fun d => d = plD (muP k f.2.1)) (hi.2 f hf).1 hk rfl).imp (fun d hd => ?_) fun _ z => z.elim
    subst hd
    wtm_at "y_go"
    refine (sp_ttimes (P := fun d => d = tD (muT k f.2.2)) (n := 31) (by decide) (hi.2 f hf).2.gd hk rfl).imp (fun d hd => ?_) fun _ z => z.elim
    subst hd
    wtm_at "y_go"
    rfl
  wtm_at "y_go"
  rw [show ws.map (fun w => wallD (mapW (muP k) w)) = (ws.map (mapW (muP k))).map wallD by rw [List.map_map]; rfl, show fs.map (fun f => dialD (mapF (muP k) (muT k) f)) = (fs.map (mapF (muP k) (muT k))).map dialD by rw [List.map_map]; rfl]
  refine ⟨mask3 _ _ _, ?_⟩
  rw [show D.tup (O.toDs [.l ((rs.map rowD).map .v), .l (((ws.map (mapW (muP k))).map wallD).map .v), .l (((fs.map (mapF (muP k) (muT k))).map dialD).map .v)]) = yardD rs (ws.map (mapW (muP k))) (fs.map (mapF (muP k) (muT k))) from treeY_D _ _ _]
  refine lk_eq hr l1 (by rw [List.length_map]; exact l2) (by rw [List.length_map]; exact l3) (fun h => ?_) h2
  have e := maskY rs (ws.map (mapW (muP k))) (fs.map (mapF (muP k) (muT k)))
  rw [treeY_D] at e
  rw [e]
  exact h1 h
end
theorem take_snoc {α β : Type} {g : α → β} {xs : List α} {i : Nat} {x : α} (e : xs[i]? = some x) : (xs.take (i + 1)).map g = (xs.take i).map g ++ [g x] := by
  rw [List.take_add_one, e, List.map_append]
  rfl
set_option maxHeartbeats 4000000 in
theorem sp_lmoved {rs : List Row} {ws : List Wall} {fs : List Dial} {m : Tr} {P : D → Prop} (l1 : rs.length ≤ 100) (l2 : ws.length ≤ 100) (l3 : fs.length ≤ 100) (h : P (yardD rs (ws.map (mapW (adP m))) (fs.map (mapF (adP m) (adT m))))) : (f__law_moved [yardD rs ws fs, tD m]).wp P NoE := by
  obtain ⟨Y, hY⟩ : ∃ Y, yardD rs ws fs = Y := ⟨_, rfl⟩
  have y0 : oIx Y (.int 0) = some (.lst (rs.map rowD)) := by rw [← hY]; rfl
  have y1 : oIx Y (.int 1) = some (.lst (ws.map wallD)) := by rw [← hY]; rfl
  have y2 : oIx Y (.int 2) = some (.lst (fs.map dialD)) := by rw [← hY]; rfl
  have sz : ∀ {α β : Type} {g : α → β} {k : β → D} {xs : List α} {i : Nat}, xs.length ≤ 100 → (((xs.take i).map g).map k).length < sizeLine := fun h => by
    rw [List.length_map, List.length_map, List.length_take, sizeLine_eq]
    omega
  rw [hY]
  obtain ⟨m0, m1, m2⟩ := m
  wtm_at "y_in"
  repeat' ((fail_if_success (with_reducible show Dy.Got (oIx Y _) _)); wtm_at "y_dy")
  refine g_ot y1 ?_
  repeat' ((fail_if_success (with_reducible show SR.wp (forS _ _ (List.map _ _) _) _ _ _)); wtm_at "y_dy")
  refine forS_inv (fun i ρ => ∃ a b c d e f : Sl, ρ = [.val Y, .val (tD (m0, m1, m2)), .own (((ws.take i).map (mapW (adP (m0, m1, m2)))).map wallD), .own [], a, b, c, d, e, f]) ⟨_, _, _, _, _, _, rfl⟩ ?_ ?_
  · rintro i d _ ed ⟨_, _, _, _, _, _, rfl⟩
    rw [List.getElem?_map, Option.map_eq_some_iff] at ed
    obtain ⟨r, er, rfl⟩ := ed
    obtain ⟨rn, ⟨k0, k1, k2⟩, s, o⟩ := r
    have hsz := sz (g := mapW (adP (m0, m1, m2))) (k := wallD) (i := i) l2
    rw [take_snoc er, List.map_append]
    generalize ((ws.take i).map (mapW (adP (m0, m1, m2)))).map wallD = acc at hsz ⊢
    wtm_at "y_go"
    exact ⟨_, _, _, _, _, _, rfl⟩
  rintro _ ⟨_, _, _, _, _, _, rfl⟩
  rw [List.length_map, List.take_length]
  repeat' ((fail_if_success (with_reducible show Dy.Got (oIx Y _) _)); wtm_at "y_dy")
  refine g_ot y2 ?_
  repeat' ((fail_if_success (with_reducible show SR.wp (forS _ _ (List.map _ _) _) _ _ _)); wtm_at "y_dy")
  refine forS_inv (fun i ρ => ∃ a b c d e f : Sl, ρ = [.val Y, .val (tD (m0, m1, m2)), .own ((ws.map (mapW (adP (m0, m1, m2)))).map wallD), .own (((fs.take i).map (mapF (adP (m0, m1, m2)) (adT (m0, m1, m2)))).map dialD), a, b, c, d, e, f]) ⟨_, _, _, _, _, _, rfl⟩ ?_ ?_
  · rintro i d _ ed ⟨_, _, _, _, _, _, rfl⟩
    rw [List.getElem?_map, Option.map_eq_some_iff] at ed
    obtain ⟨r, er, rfl⟩ := ed
    obtain ⟨rn, ⟨⟨k0, k1, k2⟩, s, o⟩, t0, t1, t2⟩ := r
    have hsz := sz (g := mapF (adP (m0, m1, m2)) (adT (m0, m1, m2))) (k := dialD) (i := i) l3
    rw [take_snoc er, List.map_append]
    generalize ((fs.take i).map (mapF (adP (m0, m1, m2)) (adT (m0, m1, m2)))).map dialD = acc at hsz ⊢
    wtm_at "y_go"
    exact ⟨_, _, _, _, _, _, rfl⟩
  rintro _ ⟨_, _, _, _, _, _, rfl⟩
  rw [List.length_map, List.take_length]
  repeat' ((fail_if_success (with_reducible show Dy.Got (oIx Y _) _)); wtm_at "y_dy")
  refine g_ot y0 ?_
  wtm_at "y_go"
  exact h
set_option maxHeartbeats 4000000 in
theorem sp_lgreater {rs : List Row} {ws : List Wall} {fs : List Dial} {k : Int} {P : D → Prop} (l1 : rs.length ≤ 100) (l2 : ws.length ≤ 100) (l3 : fs.length ≤ 100) (hi : InR ws fs) (hk : Bd 12 k) (h : P (yardD rs (ws.map (mapW (muP k))) (fs.map (mapF (muP k) (muT k))))) : (f__law_greater [yardD rs ws fs, .int k]).wp P NoE := by
  obtain ⟨Y, hY⟩ : ∃ Y, yardD rs ws fs = Y := ⟨_, rfl⟩
  have y0 : oIx Y (.int 0) = some (.lst (rs.map rowD)) := by rw [← hY]; rfl
  have y1 : oIx Y (.int 1) = some (.lst (ws.map wallD)) := by rw [← hY]; rfl
  have y2 : oIx Y (.int 2) = some (.lst (fs.map dialD)) := by rw [← hY]; rfl
  have sz : ∀ {α β : Type} {g : α → β} {k : β → D} {xs : List α} {i : Nat}, xs.length ≤ 100 → (((xs.take i).map g).map k).length < sizeLine := fun h => by
    rw [List.length_map, List.length_map, List.length_take, sizeLine_eq]
    omega
  rw [hY]
  wtm_at "y_in"
  repeat' ((fail_if_success (with_reducible show Dy.Got (oIx Y _) _)); wtm_at "y_dy")
  refine g_ot y1 ?_
  repeat' ((fail_if_success (with_reducible show SR.wp (forS _ _ (List.map _ _) _) _ _ _)); wtm_at "y_dy")
  refine forS_inv (fun i ρ => ∃ a b c d e f g : Sl, ρ = [.val Y, .val (.int k), .own (((ws.take i).map (mapW (muP k))).map wallD), .own [], a, b, c, d, e, f, g]) ⟨_, _, _, _, _, _, _, rfl⟩ ?_ ?_
  · rintro i d _ ed ⟨_, _, _, _, _, _, _, rfl⟩
    rw [List.getElem?_map, Option.map_eq_some_iff] at ed
    obtain ⟨r, er, rfl⟩ := ed
    obtain ⟨⟨g0, g1, g2⟩, ⟨g3, g4, g5⟩, g6, g7, g8⟩ := hi.1 r (List.mem_of_getElem? er)
    obtain ⟨rn, ⟨k0, k1, k2⟩, ⟨s0, s1, s2⟩, o0, o1, o2⟩ := r
    have g0 := g0.bd
    have g1 := g1.bd
    have g2 := g2.bd
    have g3 := g3.bd
    have g4 := g4.bd
    have g5 := g5.bd
    have g6 := g6.bd
    have g7 := g7.bd
    have g8 := g8.bd
    dsimp only at g0 g1 g2 g3 g4 g5 g6 g7 g8
    have hsz := sz (g := mapW (muP k)) (k := wallD) (i := i) l2
    rw [take_snoc er, List.map_append]
    generalize ((ws.take i).map (mapW (muP k))).map wallD = acc at hsz ⊢
    rw [show mapW (muP k) (rn, (k0, k1, k2), (s0, s1, s2), o0, o1, o2) = (rn, (k * k0, k * k1, k * k2), (k * s0, k * s1, k * s2), k * o0, k * o1, k * o2) by simp only [mapW, muP, muT, Int.mul_comm k]]
    wtm_at "y_go"
    exact ⟨_, _, _, _, _, _, _, rfl⟩
  rintro _ ⟨_, _, _, _, _, _, _, rfl⟩
  rw [List.length_map, List.take_length]
  repeat' ((fail_if_success (with_reducible show Dy.Got (oIx Y _) _)); wtm_at "y_dy")
  refine g_ot y2 ?_
  repeat' ((fail_if_success (with_reducible show SR.wp (forS _ _ (List.map _ _) _) _ _ _)); wtm_at "y_dy")
  refine forS_inv (fun i ρ => ∃ a b c d e f g : Sl, ρ = [.val Y, .val (.int k), .own ((ws.map (mapW (muP k))).map wallD), .own (((fs.take i).map (mapF (muP k) (muT k))).map dialD), a, b, c, d, e, f, g]) ⟨_, _, _, _, _, _, _, rfl⟩ ?_ ?_
  · rintro i d _ ed ⟨_, _, _, _, _, _, _, rfl⟩
    rw [List.getElem?_map, Option.map_eq_some_iff] at ed
    obtain ⟨r, er, rfl⟩ := ed
    obtain ⟨⟨⟨g0, g1, g2⟩, ⟨g3, g4, g5⟩, g6, g7, g8⟩, g9, ga, gb⟩ := hi.2 r (List.mem_of_getElem? er)
    obtain ⟨rn, ⟨⟨k0, k1, k2⟩, ⟨s0, s1, s2⟩, o0, o1, o2⟩, t0, t1, t2⟩ := r
    have g0 := g0.bd
    have g1 := g1.bd
    have g2 := g2.bd
    have g3 := g3.bd
    have g4 := g4.bd
    have g5 := g5.bd
    have g6 := g6.bd
    have g7 := g7.bd
    have g8 := g8.bd
    have g9 := g9.bd
    have ga := ga.bd
    have gb := gb.bd
    dsimp only at g0 g1 g2 g3 g4 g5 g6 g7 g8 g9 ga gb
    have hsz := sz (g := mapF (muP k) (muT k)) (k := dialD) (i := i) l3
    rw [take_snoc er, List.map_append]
    generalize ((fs.take i).map (mapF (muP k) (muT k))).map dialD = acc at hsz ⊢
    rw [show mapF (muP k) (muT k) (rn, ((k0, k1, k2), (s0, s1, s2), o0, o1, o2), t0, t1, t2) = (rn, ((k * k0, k * k1, k * k2), (k * s0, k * s1, k * s2), k * o0, k * o1, k * o2), k * t0, k * t1, k * t2) by simp only [mapF, muP, muT, Int.mul_comm k]]
    wtm_at "y_go"
    exact ⟨_, _, _, _, _, _, _, rfl⟩
  rintro _ ⟨_, _, _, _, _, _, _, rfl⟩
  rw [List.length_map, List.take_length]
  repeat' ((fail_if_success (with_reducible show Dy.Got (oIx Y _) _)); wtm_at "y_dy")
  refine g_ot y0 ?_
  wtm_at "y_go"
  exact h

/-! ### k82: numbers, edges, what is drawn -/
theorem w_maxI {ns : List Int} {P : D → Prop} (hn : ns ≠ []) (h : ∀ m, m ∈ ns → (∀ y ∈ ns, y ≤ m) → P (.int m)) : Got (oMax1 [.lst (ns.map .int)]) P := by
  cases ns with
  | nil => exact absurd rfl hn
  | cons i r =>
    obtain ⟨h1, h2⟩ := Dy.fold_max r i
    exact w_best (intsD_map _) rfl (h _ h1 h2)
theorem w_minI {ns : List Int} {P : D → Prop} (hn : ns ≠ []) (h : ∀ m, m ∈ ns → (∀ y ∈ ns, m ≤ y) → P (.int m)) : Got (oMin1 [.lst (ns.map .int)]) P := by
  cases ns with
  | nil => exact absurd rfl hn
  | cons i r =>
    obtain ⟨h1, h2⟩ := Dy.fold_min r i
    exact w_min1I (intsD_map _) rfl (h _ h1 h2)
def nl (t : Tr) : List Int := [t.1, t.2.1, t.2.2]
def numsW (w : Wall) : List Int := nl w.2.1 ++ nl w.2.2.1 ++ nl w.2.2.2
def numsF (f : Dial) : List Int := nl f.2.1.1 ++ nl f.2.1.2.1 ++ nl f.2.1.2.2 ++ nl f.2.2
def numsOf (ws : List Wall) (fs : List Dial) : List Int := (0 :: ws.flatMap numsW) ++ fs.flatMap numsF
theorem nl_all {t : Tr} : (∀ x ∈ nl t, N9 x) ↔ G9 t := by
  obtain ⟨x, y, z⟩ := t
  simp only [nl, List.mem_cons, List.not_mem_nil, or_false, forall_eq_or_imp, forall_eq, G9]
theorem app_all {p : Int → Prop} {a b : List Int} : (∀ x ∈ a ++ b, p x) ↔ (∀ x ∈ a, p x) ∧ ∀ x ∈ b, p x := by
  simp only [List.mem_append, or_imp, forall_and]
theorem numsW_all {w : Wall} : (∀ x ∈ numsW w, N9 x) ↔ P9 w.2 := by
  unfold numsW P9
  rw [app_all, app_all, nl_all, nl_all, nl_all, and_assoc]
theorem numsF_all {f : Dial} : (∀ x ∈ numsF f, N9 x) ↔ P9 f.2.1 ∧ G9 f.2.2 := by
  unfold numsF P9
  rw [app_all, app_all, app_all, nl_all, nl_all, nl_all, nl_all]
  simp only [and_assoc]
theorem nums_all {ws : List Wall} {fs : List Dial} : (∀ x ∈ numsOf ws fs, N9 x) ↔ InR ws fs := by
  unfold numsOf InR
  constructor
  · intro h
    refine ⟨fun w hw => numsW_all.mp fun x hx => h x ?_, fun f hf => numsF_all.mp fun x hx => h x ?_⟩
    · exact List.mem_append_left _ (List.mem_cons_of_mem _ (List.mem_flatMap.mpr ⟨w, hw, hx⟩))
    · exact List.mem_append_right _ (List.mem_flatMap.mpr ⟨f, hf, hx⟩)
  · rintro ⟨h1, h2⟩ x hx
    rcases List.mem_append.mp hx with hx | hx
    · rcases List.mem_cons.mp hx with rfl | hx
      · unfold N9; decide
      · obtain ⟨w, hw, hx⟩ := List.mem_flatMap.mp hx
        exact numsW_all.mpr (h1 w hw) x hx
    · obtain ⟨f, hf, hx⟩ := List.mem_flatMap.mp hx
      exact numsF_all.mpr (h2 f hf) x hx
theorem flat_snoc {α : Type} {g : α → List Int} {xs : List α} {i : Nat} {x : α} (e : xs[i]? = some x) : (xs.take (i + 1)).flatMap g = (xs.take i).flatMap g ++ g x := by
  rw [List.take_add_one, e, List.flatMap_append]
  simp
theorem flat_len {α : Type} {g : α → List Int} {n : Nat} (h : ∀ x, (g x).length = n) : ∀ xs : List α, (xs.flatMap g).length = n * xs.length
  | [] => rfl
  | x :: xs => by rw [List.flatMap_cons, List.length_append, h, flat_len h xs, List.length_cons, Nat.mul_succ, Nat.add_comm]
theorem sp_numbers {rs : List Row} {ws : List Wall} {fs : List Dial} {P : D → Prop} (l2 : ws.length ≤ 100) (l3 : fs.length ≤ 100) (h : P (.lst ((numsOf ws fs).map .int))) : (f__law_numbers [yardD rs ws fs]).wp P NoE := by
  obtain ⟨Y, hY⟩ : ∃ Y, yardD rs ws fs = Y := ⟨_, rfl⟩
  have y1 : oIx Y (.int 1) = some (.lst (ws.map wallD)) := by rw [← hY]; rfl
  have y2 : oIx Y (.int 2) = some (.lst (fs.map dialD)) := by rw [← hY]; rfl
  have lw : ∀ i, ((ws.take i).flatMap numsW).length ≤ 900 := fun i => by
    rw [flat_len (n := 9) (fun w => rfl), List.length_take]
    omega
  have lf : ∀ i, ((fs.take i).flatMap numsF).length ≤ 1200 := fun i => by
    rw [flat_len (n := 12) (fun w => rfl), List.length_take]
    omega
  rw [hY]
  wtm_at "y_in"
  repeat' ((fail_if_success (with_reducible show Dy.Got (oIx Y _) _)); wtm_at "y_dy")
  refine g_ot y1 ?_
  repeat' ((fail_if_success (with_reducible show SR.wp (forS _ _ (List.map _ _) _) _ _ _)); wtm_at "y_dy")
  refine forS_inv (fun i ρ => ∃ a b c : Sl, ρ = [.val Y, .own ((0 :: (ws.take i).flatMap numsW).map .int), a, b, c]) ⟨_, _, _, rfl⟩ ?_ ?_
  · rintro i d _ ed ⟨_, _, _, rfl⟩
    rw [List.getElem?_map, Option.map_eq_some_iff] at ed
    obtain ⟨r, er, rfl⟩ := ed
    have hl := lw i
    rw [flat_snoc er, ← List.cons_append, List.map_append]
    obtain ⟨rn, ⟨k0, k1, k2⟩, ⟨s0, s1, s2⟩, o0, o1, o2⟩ := r
    wtm_at "y_go"
    refine sp_extT rfl ?_
    wtm_at "y_go"
    refine ⟨_, rfl, ?_, ?_⟩
    · simp only [List.length_append, List.length_map, List.length_cons, List.length_nil, sizeLine_eq]
      omega
    wtm_at "y_go"
    exact ⟨_, _, _, rfl⟩
  rintro _ ⟨_, _, _, rfl⟩
  rw [List.length_map, List.take_length]
  repeat' ((fail_if_success (with_reducible show Dy.Got (oIx Y _) _)); wtm_at "y_dy")
  refine g_ot y2 ?_
  repeat' ((fail_if_success (with_reducible show SR.wp (forS _ _ (List.map _ _) _) _ _ _)); wtm_at "y_dy")
  refine forS_inv (fun i ρ => ∃ a b c : Sl, ρ = [.val Y, .own (((0 :: ws.flatMap numsW) ++ (fs.take i).flatMap numsF).map .int), a, b, c]) ⟨_, _, _, by rw [List.take_zero]; simp only [List.flatMap_nil, List.append_nil]; rfl⟩ ?_ ?_
  · rintro i d _ ed ⟨_, _, _, rfl⟩
    rw [List.getElem?_map, Option.map_eq_some_iff] at ed
    obtain ⟨r, er, rfl⟩ := ed
    have hl := lf i
    have hl2 := lw ws.length
    rw [List.take_length] at hl2
    rw [show ((0 :: ws.flatMap numsW) ++ (fs.take (i + 1)).flatMap numsF).map D.int = ((0 :: ws.flatMap numsW) ++ (fs.take i).flatMap numsF).map D.int ++ (numsF r).map D.int by rw [flat_snoc er, ← List.append_assoc, List.map_append]]
    have hl3 : (((0 :: ws.flatMap numsW) ++ (fs.take i).flatMap numsF).map D.int).length ≤ 3000 := by simp only [List.length_append, List.length_map, List.length_cons]; omega
    generalize ((0 :: ws.flatMap numsW) ++ (fs.take i).flatMap numsF).map D.int = acc at hl3 ⊢
    obtain ⟨rn, ⟨⟨k0, k1, k2⟩, ⟨s0, s1, s2⟩, o0, o1, o2⟩, t0, t1, t2⟩ := r
    wtm_at "y_go"
    refine sp_extT rfl ?_
    wtm_at "y_go"
    refine ⟨_, rfl, ?_, ?_⟩
    · simp only [List.length_append, List.length_map, List.length_cons, List.length_nil, sizeLine_eq]
      omega
    wtm_at "y_go"
    exact ⟨_, _, _, rfl⟩
  rintro _ ⟨_, _, _, rfl⟩
  rw [List.length_map, List.take_length]
  wtm_at "y_go"
  exact h
/-! #### edges -/
def TE (a b c : List Int) : O := .l [.l ((a.map D.int).map .v), .l ((b.map D.int).map .v), .l ((c.map D.int).map .v)]
section
variable {ρ : REnv} {N : REnv → Prop} {T : D → Prop} {E : D → REnv → Prop} {f g : REnv → R D} {a b c : List Int}
theorem te0 (e : ρ[1]? = some (.tree (TE a b c))) (hl : a.length < 10000) (h : (g ρ).wp (fun m => m = .int 0 ∧ (f ρ).wp (fun d => ∃ x, d = .int x ∧ Upd ρ 1 (.tree (TE (a ++ [x]) b c)) N) fun e => E e ρ) fun e => E e ρ) : (sAppL 1 g f ρ).wp N T E := by
  refine sp_appL e (h.post ?_)
  rintro _ ⟨rfl, h⟩
  refine ⟨0, rfl, 0, a.map D.int, rfl, rfl, h.post ?_⟩
  rintro _ ⟨x, rfl, h⟩
  refine ⟨by rw [List.length_map, sizeLine_eq]; omega, ?_⟩
  have e : (a ++ [x]).map D.int = a.map D.int ++ [D.int x] := by rw [List.map_append]; rfl
  unfold TE at h
  rw [e] at h
  exact h
theorem te1 (e : ρ[1]? = some (.tree (TE a b c))) (hl : b.length < 10000) (h : (g ρ).wp (fun m => m = .int 1 ∧ (f ρ).wp (fun d => ∃ x, d = .int x ∧ Upd ρ 1 (.tree (TE a (b ++ [x]) c)) N) fun e => E e ρ) fun e => E e ρ) : (sAppL 1 g f ρ).wp N T E := by
  refine sp_appL e (h.post ?_)
  rintro _ ⟨rfl, h⟩
  refine ⟨1, rfl, 1, b.map D.int, rfl, rfl, h.post ?_⟩
  rintro _ ⟨x, rfl, h⟩
  refine ⟨by rw [List.length_map, sizeLine_eq]; omega, ?_⟩
  have e : (b ++ [x]).map D.int = b.map D.int ++ [D.int x] := by rw [List.map_append]; rfl
  unfold TE at h
  rw [e] at h
  exact h
theorem te2 (e : ρ[1]? = some (.tree (TE a b c))) (hl : c.length < 10000) (h : (g ρ).wp (fun m => m = .int 2 ∧ (f ρ).wp (fun d => ∃ x, d = .int x ∧ Upd ρ 1 (.tree (TE a b (c ++ [x]))) N) fun e => E e ρ) fun e => E e ρ) : (sAppL 1 g f ρ).wp N T E := by
  refine sp_appL e (h.post ?_)
  rintro _ ⟨rfl, h⟩
  refine ⟨2, rfl, 2, c.map D.int, rfl, rfl, h.post ?_⟩
  rintro _ ⟨x, rfl, h⟩
  refine ⟨by rw [List.length_map, sizeLine_eq]; omega, ?_⟩
  have e : (c ++ [x]).map D.int = c.map D.int ++ [D.int x] := by rw [List.map_append]; rfl
  unfold TE at h
  rw [e] at h
  exact h
end
def Ne3 (n : Nat) (a b c : List Int) : Prop := (a ≠ [] ∧ a.length ≤ n) ∧ (b ≠ [] ∧ b.length ≤ n) ∧ c ≠ [] ∧ c.length ≤ n
section
variable {a b c : D} {P : D → Prop}
theorem v_len2 (h : P (.int 2)) : Got (oLen [.tup [a, b]]) P := g_ot rfl h
theorem v_len3 (h : P (.int 3)) : Got (oLen [.tup [a, b, c]]) P := g_ot rfl h
end
local macro_rules | `(tactic| wtm_at "z_go") => `(tactic| repeat' (first | (with_reducible refine v_len2 ?_) | (with_reducible refine v_len3 ?_) | wtm_at "y_dy" | wtm_at "y_fn"))
set_option maxHeartbeats 2000000 in
theorem sp_edges {rs : List Row} {ws : List Wall} {fs : List Dial} (l2 : ws.length ≤ 100) (l3 : fs.length ≤ 100) : (f__law_edges [yardD rs ws fs]).wp (fun d => ∃ a b c : List Int, d = .lst [.lst (a.map .int), .lst (b.map .int), .lst (c.map .int)] ∧ a ≠ [] ∧ b ≠ [] ∧ c ≠ []) NoE := by
  obtain ⟨Y, hY⟩ : ∃ Y, yardD rs ws fs = Y := ⟨_, rfl⟩
  have y1 : oIx Y (.int 1) = some (.lst (ws.map wallD)) := by rw [← hY]; rfl
  have y2 : oIx Y (.int 2) = some (.lst (fs.map dialD)) := by rw [← hY]; rfl
  have f2 : (ws.map wallD).length + (fs.map dialD).length ≤ sizeLine := by rw [List.length_map, List.length_map, sizeLine_eq]; omega
  rw [hY]
  wtm_at "y_in"
  repeat' ((fail_if_success (with_reducible show Dy.Got (oIx Y _) _)); first | wtm_at "y_dy" | wtm_at "y_fn")
  rw [show O.l [.l ([D.int 0].map .v), .l ([D.int 0].map .v), .l ([D.int 0].map .v)] = TE [0] [0] [0] from rfl]
  repeat' ((fail_if_success (with_reducible show Dy.Got (oIx Y _) _)); first | wtm_at "y_dy" | wtm_at "y_fn")
  refine g_ot y1 ?_
  repeat' ((fail_if_success (with_reducible show Dy.Got (oIx Y _) _)); first | wtm_at "y_dy" | wtm_at "y_fn")
  refine g_ot y2 ?_
  refine w_addL f2 ?_
  repeat' ((fail_if_success (with_reducible show SR.wp (forS _ _ _ _) _ _ _)); wtm_at "y_dy")
  refine forS_inv (fun i ρ => ∃ (a b c : List Int) (u w : Sl), ρ = [.val Y, .tree (TE a b c), u, w] ∧ Ne3 (1 + 2 * i) a b c) ⟨[0], [0], [0], _, _, rfl, ⟨by simp, by simp⟩, ⟨by simp, by simp⟩, by simp, by simp⟩ ?_ ?_
  · rintro i d _ ed ⟨a, b, c, _, _, rfl, ⟨na, la⟩, ⟨nb, lb⟩, nc, lc⟩
    have hi := (List.getElem?_eq_some_iff.mp ed).1
    rw [List.length_append, List.length_map, List.length_map] at hi
    have q := List.mem_append.mp (List.mem_of_getElem? ed)
    rcases q with q | q
    · obtain ⟨w, _, rfl⟩ := List.mem_map.mp q
      obtain ⟨rn, ⟨k0, k1, k2⟩, s, o⟩ := w
      wtm_at "z_go"
      refine te0 rfl (by omega) ?_
      wtm_at "z_go"
      refine ⟨rfl, ?_⟩
      wtm_at "z_go"
      refine ⟨_, rfl, ?_⟩
      wtm_at "z_go"
      refine te1 rfl (by omega) ?_
      wtm_at "z_go"
      refine ⟨rfl, ?_⟩
      wtm_at "z_go"
      refine ⟨_, rfl, ?_⟩
      wtm_at "z_go"
      refine te2 rfl (by omega) ?_
      wtm_at "z_go"
      refine ⟨rfl, ?_⟩
      wtm_at "z_go"
      refine ⟨_, rfl, ?_⟩
      wtm_at "z_go"
      exact ⟨_, _, _, _, _, rfl, ⟨by simp, by simp; omega⟩, ⟨by simp, by simp; omega⟩, by simp, by simp; omega⟩
    · obtain ⟨w, _, rfl⟩ := List.mem_map.mp q
      obtain ⟨rn, ⟨⟨k0, k1, k2⟩, s, o⟩, t0, t1, t2⟩ := w
      wtm_at "z_go"
      refine te0 rfl (by omega) ?_
      wtm_at "z_go"
      refine ⟨rfl, ?_⟩
      wtm_at "z_go"
      refine ⟨_, rfl, ?_⟩
      wtm_at "z_go"
      refine te0 rfl (by simp; omega) ?_
      wtm_at "z_go"
      refine ⟨rfl, ?_⟩
      wtm_at "z_go"
      refine ⟨_, rfl, ?_⟩
      wtm_at "z_go"
      refine te1 rfl (by omega) ?_
      wtm_at "z_go"
      refine ⟨rfl, ?_⟩
      wtm_at "z_go"
      refine ⟨_, rfl, ?_⟩
      wtm_at "z_go"
      refine te1 rfl (by simp; omega) ?_
      wtm_at "z_go"
      refine ⟨rfl, ?_⟩
      wtm_at "z_go"
      refine ⟨_, rfl, ?_⟩
      wtm_at "z_go"
      refine te2 rfl (by omega) ?_
      wtm_at "z_go"
      refine ⟨rfl, ?_⟩
      wtm_at "z_go"
      refine ⟨_, rfl, ?_⟩
      wtm_at "z_go"
      refine te2 rfl (by simp; omega) ?_
      wtm_at "z_go"
      refine ⟨rfl, ?_⟩
      wtm_at "z_go"
      refine ⟨_, rfl, ?_⟩
      wtm_at "z_go"
      exact ⟨_, _, _, _, _, rfl, ⟨by simp, by simp; omega⟩, ⟨by simp, by simp; omega⟩, by simp, by simp; omega⟩
  · rintro _ ⟨a, b, c, _, _, rfl, ⟨na, la⟩, ⟨nb, lb⟩, nc, lc⟩
    refine sp_frT rfl ?_
    wtm_at "z_go"
    refine ⟨a, b, c, ?_, na, nb, nc⟩
    simp only [TE, O.toD, O.toDs, toDs_map]
theorem sp_ldrawn {rs : List Row} {ws : List Wall} {fs : List Dial} {k : Int} (l2 : ws.length ≤ 100) (l3 : fs.length ≤ 100) : (f__law_drawn [yardD rs ws fs, .int k]).wp (fun d => ∃ m : Tr, d = tD m) NoE := by
  obtain ⟨Y, hY⟩ : ∃ Y, yardD rs ws fs = Y := ⟨_, rfl⟩
  have edges := sp_edges (rs := rs) l2 l3
  rw [hY] at edges ⊢
  wtm_at "y_in"
  wtm_at "y_go"
  refine edges.no ?_
  rintro _ ⟨a, b, c, rfl, na, nb, nc⟩
  repeat' ((fail_if_success (with_reducible show SR.wp (forS _ _ _ _) _ _ _)); wtm_at "y_dy")
  refine forS_inv (fun i ρ => ∃ (ms : List Int) (u v w x : Sl), ρ = [.val Y, .val (.int k), .own (ms.map .int), u, v, w, x] ∧ ms.length = i) ⟨[], _, _, _, _, rfl, rfl⟩ ?_ ?_
  · rintro i d _ ed ⟨ms, _, _, _, _, rfl, hm⟩
    have key : ∃ (j : Int) (e : List Int), d = .tup [.int j, .lst (e.map .int)] ∧ (0 ≤ j ∧ j ≤ 2) ∧ e ≠ [] := by
      have := List.mem_of_getElem? ed
      simp only [enumD, List.length_cons, List.length_nil, List.range_succ, List.range_zero, List.nil_append, List.cons_append, List.map_cons, List.map_nil, List.mem_cons, List.not_mem_nil, or_false] at this
      rcases this with rfl | rfl | rfl
      · exact ⟨0, a, rfl, ⟨by decide, by decide⟩, na⟩
      · exact ⟨1, b, rfl, ⟨by decide, by decide⟩, nb⟩
      · exact ⟨2, c, rfl, ⟨by decide, by decide⟩, nc⟩
    have hi : i < 3 := by
      have := (List.getElem?_eq_some_iff.mp ed).1
      simpa [enumD] using this
    obtain ⟨j, e, rfl, ⟨j0, j1⟩, ne⟩ := key
    have hsz : (ms.map D.int).length < sizeLine := by rw [List.length_map, sizeLine_eq]; omega
    have fin : ∀ (x : Int) (u v w z : Sl), ∃ (ms' : List Int) (u' v' w' x' : Sl), ([.val Y, .val (.int k), .own (ms.map D.int ++ [.int x]), u, v, w, z] : REnv) = [.val Y, .val (.int k), .own (ms'.map .int), u', v', w', x'] ∧ ms'.length = i + 1 := fun x u v w z => ⟨ms ++ [x], _, _, _, _, by rw [List.map_append]; rfl, by simp [hm]⟩
    wtm_at "y_go"
    refine (sp_draw (by omega) (by omega) (by decide) (by decide)).no ?_
    rintro _ ⟨v, rfl, _, _⟩
    wtm_at "y_go"
    refine (sp_draw (by omega) (by omega) (by decide) (by decide)).no ?_
    rintro _ ⟨v2, rfl, _, _⟩
    wtm_at "y_go"
    · refine w_maxI ne fun m _ _ => ?_
      wtm_at "y_go"
      exact fin _ _ _ _ _
    · refine w_minI ne fun m _ _ => ?_
      wtm_at "y_go"
      exact fin _ _ _ _ _
    · refine (sp_draw (by omega) (by omega) (by decide) (by decide)).no ?_
      rintro _ ⟨v3, rfl, _, _⟩
      wtm_at "y_go"
      exact fin _ _ _ _ _
  · rintro _ ⟨ms, _, _, _, _, rfl, hm⟩
    have hm : ms.length = 3 := by simpa [enumD] using hm
    wtm_at "y_go"
    match ms, hm with
    | [x, y, z], _ => exact ⟨(x, y, z), rfl⟩

/-! ### k82: the law -/
section
variable {rs : List Row} {ws : List Wall} {fs : List Dial} {m : Tr} {k : Int}
theorem sp_told0 (hr : ∀ r ∈ rs, G9 r.2) (l1 : rs.length ≤ 100) (l2 : ws.length ≤ 100) (l3 : fs.length ≤ 100) {P : O → Prop}
    (h1 : InR (ws.map (mapW (adP m))) (fs.map (mapF (adP m) (adT m))) → P (treeY rs (ws.map (mapW (adP m))) (fs.map (mapF (adP m) (adT m)))))
    (h2 : ¬ InR (ws.map (mapW (adP m))) (fs.map (mapF (adP m) (adT m))) → P (.v (.str "none"))) : (f__law_told [.int 0, yardD rs ws fs, tD m]).wp P NoE := by
  refine wp_fnT ?_
  wtm_at "y_in"
  wtm_at "y_go"
  refine sp_moved hr l1 l2 l3 (fun h => ?_) fun h => ?_
  · wtm_at "y_go"
    refine sp_retTr rfl (maskY _ _ _) ?_
    rw [maskY]
    exact h1 h
  · unfold NY
    wtm_at "y_go"
    refine sp_retV ?_
    wtm_at "y_go"
    exact ⟨rfl, h2 h⟩
theorem sp_told1 (hr : ∀ r ∈ rs, G9 r.2) (l1 : rs.length ≤ 100) (l2 : ws.length ≤ 100) (l3 : fs.length ≤ 100) (hi : InR ws fs) (hk : Bd 12 k) {P : O → Prop}
    (h1 : InR (ws.map (mapW (muP k))) (fs.map (mapF (muP k) (muT k))) → P (treeY rs (ws.map (mapW (muP k))) (fs.map (mapF (muP k) (muT k)))))
    (h2 : ¬ InR (ws.map (mapW (muP k))) (fs.map (mapF (muP k) (muT k))) → P (.v (.str "none"))) : (f__law_told [.int 1, yardD rs ws fs, .int k]).wp P NoE := by
  refine wp_fnT ?_
  wtm_at "y_in"
  wtm_at "y_go"
  refine sp_greater hr l1 l2 l3 hi hk (fun h => ?_) fun h => ?_
  · wtm_at "y_go"
    refine sp_retTr rfl (maskY _ _ _) ?_
    rw [maskY]
    exact h1 h
  · unfold NY
    wtm_at "y_go"
    refine sp_retV ?_
    wtm_at "y_go"
    exact ⟨rfl, h2 h⟩
theorem n9_iff {ns : List Int} {a b : Int} (h1 : b ∈ ns) (h2 : ∀ y ∈ ns, y ≤ b) (h3 : a ∈ ns) (h4 : ∀ y ∈ ns, a ≤ y) : (∀ x ∈ ns, N9 x) ↔ (-1000000000 ≤ a ∧ b ≤ 1000000000) := by
  constructor
  · intro h
    have ha := h a h3
    have hb := h b h1
    unfold N9 at ha hb
    omega
  · rintro ⟨h, h'⟩ x hx
    have := h2 x hx
    have := h4 x hx
    unfold N9
    omega
theorem nums_ne : numsOf ws fs ≠ [] := by simp [numsOf]
theorem sp_fits (nm : NmOk ws fs) (l1 : rs.length ≤ 100) (l2 : ws.length ≤ 100) (l3 : fs.length ≤ 100) {d : D} {P : D → Prop} (hd : (InR ws fs ∧ d = yardD rs ws fs) ∨ (¬ InR ws fs ∧ d = .str "none")) (h : P (.bl true)) : (f__law_fits [d, yardD rs ws fs]).wp P NoE := by
  wtm_at "y_in"
  wtm_at "y_go"
  refine sp_numbers l2 l3 ?_
  wtm_at "y_go"
  refine w_maxI nums_ne fun b hb1 hb2 => ?_
  wtm_at "y_go"
  · rename_i c
    rcases hd with ⟨hi, _⟩ | ⟨_, rfl⟩
    · have := nums_all.mpr hi b hb1
      unfold N9 at this
      exfalso
      omega
    · refine w_eqS rfl (by decide +kernel) ?_
      exact h
  · refine w_minI nums_ne fun a ha1 ha2 => ?_
    have key := n9_iff hb1 hb2 ha1 ha2
    rw [nums_all] at key
    wtm_at "y_go"
    · rcases hd with ⟨hi, _⟩ | ⟨_, rfl⟩
      · have := key.mp hi
        exfalso
        omega
      · refine w_eqS rfl (by decide +kernel) ?_
        exact h
    · rcases hd with ⟨_, rfl⟩ | ⟨hi, _⟩
      · exact sp_alikeY nm l1 l2 l3 h
      · exact absurd (key.mpr (by omega)) hi
end
theorem adT0 (t : Tr) : adT (0, 0, 0) t = t := by
  obtain ⟨x, y, z⟩ := t
  simp [adT]
theorem muT1 (t : Tr) : muT 1 t = t := by
  obtain ⟨x, y, z⟩ := t
  simp [muT]
theorem adTn (m t : Tr) : adT (0 - m.1, 0 - m.2.1, 0 - m.2.2) (adT m t) = t := by
  obtain ⟨x, y, z⟩ := t
  obtain ⟨a, b, c⟩ := m
  show ((x + a + (0 - a), y + b + (0 - b), z + c + (0 - c)) : Tr) = (x, y, z)
  rw [show x + a + (0 - a) = x by omega, show y + b + (0 - b) = y by omega, show z + c + (0 - c) = z by omega]
theorem map_same {α : Type} {f : α → α} {xs : List α} (h : ∀ x, f x = x) : xs.map f = xs := by
  conv => rhs; rw [← List.map_id xs]
  exact List.map_congr_left fun x _ => h x
theorem mW_id {p : Plate → Plate} (h : ∀ x, p x = x) (ws : List Wall) : ws.map (mapW p) = ws := map_same fun w => by unfold mapW; rw [h]
theorem mF_id {p : Plate → Plate} {f : Tr → Tr} (h : ∀ x, p x = x) (h2 : ∀ x, f x = x) (fs : List Dial) : fs.map (mapF p f) = fs := map_same fun w => by unfold mapF; rw [h, h2]
theorem adP0 (p : Plate) : adP (0, 0, 0) p = p := by
  obtain ⟨a, b, c⟩ := p
  unfold adP
  rw [adT0]
theorem muP1 (p : Plate) : muP 1 p = p := by
  obtain ⟨a, b, c⟩ := p
  unfold muP
  rw [muT1, muT1, muT1]
theorem back_W (m : Tr) (ws : List Wall) : (ws.map (mapW (adP m))).map (mapW (adP (0 - m.1, 0 - m.2.1, 0 - m.2.2))) = ws := by
  rw [List.map_map]
  exact map_same fun w => by simp only [Function.comp, mapW, adP, adTn]
theorem back_F (m : Tr) (fs : List Dial) : (fs.map (mapF (adP m) (adT m))).map (mapF (adP (0 - m.1, 0 - m.2.1, 0 - m.2.2)) (adT (0 - m.1, 0 - m.2.1, 0 - m.2.2))) = fs := by
  rw [List.map_map]
  exact map_same fun w => by simp only [Function.comp, mapF, adP, adTn]
theorem neTN {xs : List D} (h : okq 40 (.tup xs) = true) {P : D → Prop} (k : P (.bl true)) : Got (oNe (.tup xs) (.str "none")) P := w_ne h (by decide +kernel) (by
  have e : eqD (.tup xs) (.str "none") = false := by simp [eqD, D.py, PyData.eqv]
  rw [e]
  exact k)
theorem okcl (rs : List Row) (ws : List Wall) (fs : List Dial) : okCl (treeY rs ws fs) = true := by
  have e : ∀ ds : List D, (O.unL (.l (ds.map .v))).isSome = true := fun ds => by
    show (O.unV (ds.map .v)).isSome = true
    rw [unV_map]
    rfl
  show ([O.l ((rs.map rowD).map .v), .l ((ws.map wallD).map .v), .l ((fs.map dialD).map .v)].all fun o => o.unL.isSome) = true
  simp only [List.all_cons, List.all_nil, e, Bool.and_self]
theorem abs_le9 {x : Int} (h : N9 x) : (if x < 0 then -x else x) ≤ 1000000000 := by
  unfold N9 at h
  split <;> omega
set_option maxHeartbeats 4000000 in
theorem law_true (ns : List Int) (hl : ns.length ≤ 63) : f_law [.lst (ns.map .int)] = .ok (.bl true) := by
  refine law_of_wp ?_
  have cell : ∀ {k : Int}, 0 ≤ k → (f__law_cell_at [.lst (ns.map .int), .int k]).wp (fun d => ∃ c, d = .int c) NoE := fun h => sp_celln ns _ h
  have yard := sp_dyard ns hl
  obtain ⟨dn, hdn⟩ : ∃ dn, D.lst (ns.map .int) = dn := ⟨_, rfl⟩
  rw [hdn] at cell yard ⊢
  wtm_at "y_in"
  wtm_at "y_go"
  refine yard.no ?_
  rintro _ ⟨rs, ws, fs, rfl, ⟨l0, l1⟩, l2, l3, hr, hw, hf⟩
  have hr9 : ∀ r ∈ rs, G9 r.2 := fun r h => (hr r h).2
  have inr : InR ws fs := ⟨fun w h => (hw w h).2, fun f h => (hf f h).2⟩
  have nm : NmOk ws fs := ⟨fun w hw' => (hw w hw').1.1.ok, fun f hf' => (hf f hf').1.1.ok⟩
  have l1 : rs.length ≤ 100 := by omega
  have l2 : ws.length ≤ 100 := by omega
  have l3 : fs.length ≤ 100 := by omega
  have mapNm : ∀ {p : Plate → Plate} {f : Tr → Tr}, NmOk (ws.map (mapW p)) (fs.map (mapF p f)) := ⟨fun w hw => by
    obtain ⟨v, hv, rfl⟩ := List.mem_map.mp hw
    exact nm.1 v hv, fun w hw => by
    obtain ⟨v, hv, rfl⟩ := List.mem_map.mp hw
    exact nm.2 v hv⟩
  have m2 : ∀ {p : Plate → Plate}, (ws.map (mapW p)).length ≤ 100 := by intro p; rw [List.length_map]; exact l2
  have m3 : ∀ {p : Plate → Plate} {f : Tr → Tr}, (fs.map (mapF p f)).length ≤ 100 := by intro p f; rw [List.length_map]; exact l3
  have ok2 : okq 40 (.lst [yardD rs ws fs, yardD rs ws fs]) = true := by
    have e := okYn (n := 38) (by decide) (rs := rs) nm
    show (okq 39 _ && (okq 39 _ && true)) = true
    rw [e]
    rfl
  wtm_at "y_go"
  refine (cell (by decide)).no ?_
  rintro _ ⟨c1, rfl⟩
  wtm_at "y_go"
  refine (sp_ldrawn l2 l3).no ?_
  rintro _ ⟨m, rfl⟩
  wtm_at "y_go"
  refine sp_numbers l2 l3 ?_
  have fN : ((numsOf ws fs).map D.int).length ≤ sizeLine := by
    have a1 := flat_len (g := numsW) (n := 9) (fun w => rfl) ws
    have a2 := flat_len (g := numsF) (n := 12) (fun w => rfl) fs
    rw [List.length_map, sizeLine_eq]
    unfold numsOf
    rw [List.length_append, List.length_cons, a1, a2]
    omega
  repeat' ((fail_if_success (with_reducible show Dy.Got (compS _ _ _ _ _) _)); wtm_at "y_dy")
  refine c_mapG (f := D.int) (g := fun x => D.int (if x < 0 then -x else x)) (fun x hx => ?_) ?_
  · wtm_at "y_go"
    rfl
  rw [show (numsOf ws fs).map (fun x => D.int (if x < 0 then -x else x)) = ((numsOf ws fs).map fun x => if x < 0 then -x else x).map D.int by rw [List.map_map]; rfl]
  wtm_at "y_go"
  refine w_maxI (by simp [nums_ne]) fun mo hm1 _ => ?_
  have hmo : mo ≤ 1000000000 := by
    obtain ⟨x, hx, rfl⟩ := List.mem_map.mp hm1
    exact abs_le9 (nums_all.mpr inr x hx)
  wtm_at "y_go"
  refine (cell (by decide)).no ?_
  rintro _ ⟨c2, rfl⟩
  repeat' ((fail_if_success (with_reducible show Dy.Got (oDiv _ _) _)); wtm_at "y_dy")
  have hq0 : 0 < (if mo > 1 then mo else 1) := by split <;> omega
  have hq1 : (if mo > 1 then mo else 1) ≤ 1000000000 := by split <;> omega
  generalize (if mo > 1 then mo else 1) = q at hq0 hq1 ⊢
  have bq : Bd 200 q := Bd.mono (n := 40) (by unfold Bd; omega) (by decide)
  refine w_div hq0 (Bd.log bq (by decide)) ?_
  have d1 : 1 ≤ 1000000000 / q := by
    rw [Int.le_ediv_iff_mul_le hq0]
    omega
  generalize 1000000000 / q = z at d1 ⊢
  repeat' ((fail_if_success (with_reducible show Upd _ 5 _ _)); wtm_at "y_dy")
  have r0 : 1 ≤ (if z < 1000 then z else 1000) := by split <;> omega
  have r1 : (if z < 1000 then z else 1000) ≤ 1000 := by split <;> omega
  generalize (if z < 1000 then z else 1000) = re at r0 r1 ⊢
  wtm_at "y_go"
  refine (sp_draw (by decide) (by decide) (by decide) (by decide)).no ?_
  rintro _ ⟨v, rfl, v0, v1⟩
  wtm_at "y_go"
  refine (sp_draw (by decide) (by decide) (by decide) (by decide)).no ?_
  rintro _ ⟨w, rfl, w0, w1⟩
  have pick : ∀ {a b c : Int}, (1 ≤ a ∧ a ≤ 1000) → (1 ≤ b ∧ b ≤ 1000) → (1 ≤ c ∧ c ≤ 1000) → ∃ k : Int, oIx (.lst [.int a, .int b, .int c]) (.int w) = some (.int k) ∧ 1 ≤ k ∧ k ≤ 1000 := fun {a b c} ha hb hc => by
    have : w = 0 ∨ w = 1 ∨ w = 2 := by omega
    rcases this with rfl | rfl | rfl
    · exact ⟨a, rfl, ha⟩
    · exact ⟨b, rfl, hb⟩
    · exact ⟨c, rfl, hc⟩
  obtain ⟨k, ek, k0, k1⟩ := pick (a := 1 + v) (b := if re > 1 then re else 1) (c := if re + 1 < 1000 then re + 1 else 1000) (by omega) (by split <;> omega) (by split <;> omega)
  have hk : Bd 12 k := by unfold Bd; omega
  refine g_ot ek ?_
  wtm_at "y_go"
  refine sp_told0 hr9 l1 l2 l3 (fun hin => ?_) fun hin => ?_
  · wtm_at "y_go"
    refine wp_uPeekT rfl ?_
    rw [treeY_D]
    wtm_at "y_go"
    refine sp_lmoved l1 l2 l3 ?_
    wtm_at "y_go"
    refine sp_fits mapNm l1 m2 m3 (.inl ⟨hin, rfl⟩) ?_
    wtm_at "y_go"
    refine w_neS rfl (okYd nm) ?_
    wtm_at "y_go"
    refine (sp_told1 (P := fun o => (InR (ws.map (mapW (muP k))) (fs.map (mapF (muP k) (muT k))) ∧ o = treeY rs (ws.map (mapW (muP k))) (fs.map (mapF (muP k) (muT k)))) ∨ (¬ InR (ws.map (mapW (muP k))) (fs.map (mapF (muP k) (muT k))) ∧ o = .v (.str "none"))) hr9 l1 l2 l3 inr hk (fun h => .inl ⟨h, rfl⟩) fun h => .inr ⟨h, rfl⟩).no ?_
    intro o ho
    wtm_at "y_go"
    refine sp_lgreater l1 l2 l3 inr hk ?_
    wtm_at "y_go"
    refine sp_fits mapNm l1 m2 m3 (ho.imp (fun h => ⟨h.1, by rw [h.2, treeY_D]⟩) fun h => ⟨h.1, by rw [h.2]; rfl⟩) ?_
    wtm_at "y_go"
    refine w_neS rfl (okYd nm) ?_
    wtm_at "y_go"
    refine wp_uPeekT rfl ?_
    rw [treeY_D]
    wtm_at "y_go"
    refine neTN (okYd mapNm) ?_
    obtain ⟨m0, m1, m2'⟩ := m
    wtm_at "y_go"
    refine sp_moved (m := (0 - m0, 0 - m1, 0 - m2')) hr9 l1 m2 m3 (fun _ => ?_) fun h => absurd (by
      rw [back_W (m0, m1, m2'), back_F (m0, m1, m2')]
      exact inr) h
    rw [treeY_D, back_W (m0, m1, m2'), back_F (m0, m1, m2')]
    wtm_at "y_go"
    refine w_neS rfl (okYd nm) ?_
    wtm_at "y_go"
    refine sp_greater hr9 l1 l2 l3 inr (Bd.mono (n := 2) (by unfold Bd; decide) (by decide)) (fun _ => ?_) fun h => absurd (by
      rw [mW_id muP1, mF_id muP1 muT1]
      exact inr) h
    rw [mW_id muP1, mF_id muP1 muT1]
    wtm_at "y_go"
    refine sp_moved (m := (0, 0, 0)) hr9 l1 l2 l3 (fun _ => ?_) fun h => absurd (by
      rw [mW_id adP0, mF_id adP0 adT0]
      exact inr) h
    rw [mW_id adP0, mF_id adP0 adT0]
    wtm_at "y_go"
    refine wp_uPeekT rfl ?_
    rw [show (O.l [treeY rs ws fs, treeY rs ws fs]).toD = .lst [yardD rs ws fs, yardD rs ws fs] by simp only [O.toD, O.toDs, treeY_D]]
    wtm_at "y_go"
    refine w_neS rfl ok2 ?_
    wtm_at "y_go"
    refine wp_uPeekT rfl ?_
    rw [treeY_D]
    wtm_at "y_go"
    refine neTN (okYd mapNm) ?_
    wtm_at "y_go"
    refine sp_appTr rfl rfl (by simp [sizeLine_eq]) ?_
    wtm_at "y_go"
    refine sp_clear2 rfl (by simp [okcl]) (by simp) (by simp) ?_
    wtm_at "y_go"
    refine w_eqS rfl (okYd nm) ?_
    rfl
  · wtm_at "y_go"
    refine wp_uPeekT rfl ?_
    rw [show (O.v (.str "none")).toD = .str "none" from rfl]
    wtm_at "y_go"
    refine sp_lmoved l1 l2 l3 ?_
    wtm_at "y_go"
    refine sp_fits mapNm l1 m2 m3 (.inr ⟨hin, rfl⟩) ?_
    wtm_at "y_go"
    refine w_neS rfl (okYd nm) ?_
    wtm_at "y_go"
    refine (sp_told1 (P := fun o => (InR (ws.map (mapW (muP k))) (fs.map (mapF (muP k) (muT k))) ∧ o = treeY rs (ws.map (mapW (muP k))) (fs.map (mapF (muP k) (muT k)))) ∨ (¬ InR (ws.map (mapW (muP k))) (fs.map (mapF (muP k) (muT k))) ∧ o = .v (.str "none"))) hr9 l1 l2 l3 inr hk (fun h => .inl ⟨h, rfl⟩) fun h => .inr ⟨h, rfl⟩).no ?_
    intro o ho
    wtm_at "y_go"
    refine sp_lgreater l1 l2 l3 inr hk ?_
    wtm_at "y_go"
    refine sp_fits mapNm l1 m2 m3 (ho.imp (fun h => ⟨h.1, by rw [h.2, treeY_D]⟩) fun h => ⟨h.1, by rw [h.2]; rfl⟩) ?_
    wtm_at "y_go"
    refine w_neS rfl (okYd nm) ?_
    wtm_at "y_go"
    refine wp_uPeekT rfl ?_
    rw [show (O.v (.str "none")).toD = .str "none" from rfl]
    wtm_at "y_go"
    refine w_neS rfl (by decide +kernel) ?_
    wtm_at "y_go"
    refine sp_greater hr9 l1 l2 l3 inr (Bd.mono (n := 2) (by unfold Bd; decide) (by decide)) (fun _ => ?_) fun h => absurd (by
      rw [mW_id muP1, mF_id muP1 muT1]
      exact inr) h
    rw [mW_id muP1, mF_id muP1 muT1]
    wtm_at "y_go"
    refine sp_moved (m := (0, 0, 0)) hr9 l1 l2 l3 (fun _ => ?_) fun h => absurd (by
      rw [mW_id adP0, mF_id adP0 adT0]
      exact inr) h
    rw [mW_id adP0, mF_id adP0 adT0]
    wtm_at "y_go"
    refine wp_uPeekT rfl ?_
    rw [show (O.l [treeY rs ws fs, treeY rs ws fs]).toD = .lst [yardD rs ws fs, yardD rs ws fs] by simp only [O.toD, O.toDs, treeY_D]]
    wtm_at "y_go"
    refine w_neS rfl ok2 ?_
    wtm_at "y_go"
    refine wp_uPeekT rfl ?_
    rw [show (O.v (.str "none")).toD = .str "none" from rfl]
    wtm_at "y_go"
    refine w_neS rfl (by decide +kernel) ?_
    wtm_at "y_go"
    refine sp_clear2 rfl (by simp [okcl]) (by simp) (by simp) ?_
    wtm_at "y_go"
    refine w_eqS rfl (okYd nm) ?_
    rfl

end Gn
end
theorem PySem.Challenge.cw_dialyard_k82_moved_and_greater_holds : PySem.Challenge.rw_dialyard_k82_moved_and_greater.Holds :=
  Gn.holds_of Gn.law_true
