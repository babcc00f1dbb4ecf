/- An evaluator for the model: part V. -/
import Derived.Test.YtnbnoacadhoimaaGreatDoorAxR
set_option linter.unusedSimpArgs false
set_option linter.unusedVariables false
set_option maxRecDepth 100000
set_option maxHeartbeats 8000000
namespace Go.Proofs.YtnbnoacadhoimaaGreatDoor.Ax
open Go
set_option linter.unusedSimpArgs false
set_option linter.unusedVariables false

/-- Where a block of the evaluator's lies: the block, the first cell, how many cells are there. -/
structure Loc where
  b : Nat
  d : Nat
  n : Nat
abbrev Emb := Nat → Option Loc

def capR (l : Loc) (off len c : Nat) : Cap → Prop
  | .k k => c = k ∧ len ≤ c
  | .r z => len ≤ c ∧ (0 < c → off + c * z ≤ l.n)
mutual
/-- What a value of the evaluator's stands for. -/
def VR (ι : Emb) : AV → Value → Prop
  | .int k n, v => v = .int k n
  | .bool b, v => v = .bool b
  | .str s, v => v = .string ⟨⟨s⟩⟩
  | .ptr id off, v => ∃ l, ι id = some l ∧ v = .pointer (some ⟨l.b, l.d + off, none⟩)
  | .nilp, v => v = .pointer none
  | .slc id off len cap, v => ∃ l x c, ι id = some l ∧ v = .slice (some ⟨l.b, x, none⟩) len c ∧ (0 < c → x = l.d + off) ∧ capR l off len c cap
  | .nils, v => v = .slice none 0 0
  | .agg vs, v => ∃ cs : List Value, v = .agg cs.toArray ∧ VRs ι vs cs
  | .tup vs, v => ∃ cs : List Value, v = .tuple cs.toArray ∧ VRs ι vs cs
  | .fn f caps, v => ∃ cs : List Value, v = .func (.func f) #[] cs.toArray ∧ VRs ι caps cs
  | .nilf, v => v = .nilFunc
  | .nili, v => v = .nilIface
  | .any, _ => True
def VRs (ι : Emb) : List AV → List Value → Prop
  | [], cs => cs = []
  | a :: xs, cs => ∃ v vs, cs = v :: vs ∧ VR ι a v ∧ VRs ι xs vs
end
def Le (ι ι' : Emb) : Prop := ∀ id l, ι id = some l → ι' id = some l
theorem Le.refl (ι : Emb) : Le ι ι := fun _ _ h => h
theorem Le.trans {a b c : Emb} (h : Le a b) (k : Le b c) : Le a c := fun id l e => k id l (h id l e)
mutual
theorem VR.mono {ι ι' : Emb} (hi : Le ι ι') : ∀ (a : AV) (v : Value), VR ι a v → VR ι' a v
  | .int k n, v, h => by unfold VR at h ⊢; exact h
  | .bool b, v, h => by unfold VR at h ⊢; exact h
  | .str s, v, h => by unfold VR at h ⊢; exact h
  | .ptr id off, v, h => by
    unfold VR at h ⊢
    obtain ⟨l, e, r⟩ := h; exact ⟨l, hi _ _ e, r⟩
  | .nilp, v, h => by unfold VR at h ⊢; exact h
  | .slc id off len cap, v, h => by
    unfold VR at h ⊢
    obtain ⟨l, x, c, e, r⟩ := h; exact ⟨l, x, c, hi _ _ e, r⟩
  | .nils, v, h => by unfold VR at h ⊢; exact h
  | .agg vs, v, h => by
    unfold VR at h ⊢
    obtain ⟨cs, e, r⟩ := h; exact ⟨cs, e, VRs.mono hi vs cs r⟩
  | .tup vs, v, h => by
    unfold VR at h ⊢
    obtain ⟨cs, e, r⟩ := h; exact ⟨cs, e, VRs.mono hi vs cs r⟩
  | .fn f vs, v, h => by
    unfold VR at h ⊢
    obtain ⟨cs, e, r⟩ := h; exact ⟨cs, e, VRs.mono hi vs cs r⟩
  | .nilf, v, h => by unfold VR at h ⊢; exact h
  | .nili, v, h => by unfold VR at h ⊢; exact h
  | .any, v, h => by unfold VR; trivial
theorem VRs.mono {ι ι' : Emb} (hi : Le ι ι') : ∀ (xs : List AV) (vs : List Value), VRs ι xs vs → VRs ι' xs vs
  | [], vs, h => by unfold VRs at h ⊢; exact h
  | a :: xs, cs, h => by
    unfold VRs at h ⊢
    obtain ⟨v, vs, e, h1, h2⟩ := h
    exact ⟨v, vs, e, VR.mono hi a v h1, VRs.mono hi xs vs h2⟩
end
section
variable {ι : Emb}
theorem VR.any {v : Value} : VR ι .any v := by unfold VR; trivial
theorem VR.int {k : IntKind} {n : Int} {v : Value} : VR ι (.int k n) v ↔ v = .int k n := by unfold VR; exact Iff.rfl
theorem VR.bool {b : Bool} {v : Value} : VR ι (.bool b) v ↔ v = .bool b := by unfold VR; exact Iff.rfl
theorem VR.str {s : List UInt8} {v : Value} : VR ι (.str s) v ↔ v = .string ⟨⟨s⟩⟩ := by unfold VR; exact Iff.rfl
theorem VR.ptr {id off : Nat} {v : Value} : VR ι (.ptr id off) v ↔ ∃ l, ι id = some l ∧ v = .pointer (some ⟨l.b, l.d + off, none⟩) := by unfold VR; exact Iff.rfl
theorem VR.nilp {v : Value} : VR ι .nilp v ↔ v = .pointer none := by unfold VR; exact Iff.rfl
theorem VR.slc {id off len : Nat} {cap : Cap} {v : Value} : VR ι (.slc id off len cap) v ↔ ∃ l x c, ι id = some l ∧ v = .slice (some ⟨l.b, x, none⟩) len c ∧ (0 < c → x = l.d + off) ∧ capR l off len c cap := by unfold VR; exact Iff.rfl
theorem VR.nils {v : Value} : VR ι .nils v ↔ v = .slice none 0 0 := by unfold VR; exact Iff.rfl
theorem VR.agg {vs : List AV} {v : Value} : VR ι (.agg vs) v ↔ ∃ cs : List Value, v = .agg cs.toArray ∧ VRs ι vs cs := by unfold VR; exact Iff.rfl
theorem VR.tup {vs : List AV} {v : Value} : VR ι (.tup vs) v ↔ ∃ cs : List Value, v = .tuple cs.toArray ∧ VRs ι vs cs := by unfold VR; exact Iff.rfl
theorem VR.fn {f : Nat} {vs : List AV} {v : Value} : VR ι (.fn f vs) v ↔ ∃ cs : List Value, v = .func (.func f) #[] cs.toArray ∧ VRs ι vs cs := by unfold VR; exact Iff.rfl
theorem VR.nilf {v : Value} : VR ι .nilf v ↔ v = .nilFunc := by unfold VR; exact Iff.rfl
theorem VR.nili {v : Value} : VR ι .nili v ↔ v = .nilIface := by unfold VR; exact Iff.rfl
theorem VRs.nil {cs : List Value} : VRs ι [] cs ↔ cs = [] := by unfold VRs; exact Iff.rfl
theorem VRs.cons {a : AV} {xs : List AV} {cs : List Value} : VRs ι (a :: xs) cs ↔ ∃ v vs, cs = v :: vs ∧ VR ι a v ∧ VRs ι xs vs := by rw [VRs]
theorem VRs.iff : ∀ (xs : List AV) (cs : List Value), VRs ι xs cs ↔ xs.length = cs.length ∧ ∀ (j : Nat) (a : AV) (v : Value), xs[j]? = some a → cs[j]? = some v → VR ι a v
  | [], cs => by rw [VRs.nil]; constructor
                 · rintro rfl; exact ⟨rfl, fun j a v h => by simp at h⟩
                 · rintro ⟨h, _⟩; exact List.length_eq_zero_iff.1 h.symm
  | a :: xs, cs => by
    rw [VRs.cons]
    constructor
    · rintro ⟨v, vs, rfl, h1, h2⟩
      obtain ⟨h3, h4⟩ := (VRs.iff xs vs).1 h2
      refine ⟨by simp [h3], fun j a' v' ha hv => ?_⟩
      cases j with
      | zero => simp at ha hv; subst ha; subst hv; exact h1
      | succ j => simp at ha hv; exact h4 j a' v' ha hv
    · rintro ⟨h1, h2⟩
      cases cs with
      | nil => simp at h1
      | cons v vs => exact ⟨v, vs, rfl, h2 0 a v rfl rfl, (VRs.iff xs vs).2 ⟨by simpa using h1, fun j a' v' ha hv => h2 (j + 1) a' v' (by simpa using ha) (by simpa using hv)⟩⟩
theorem VR.toAV0 (v : Value) : VR ι (toAV0 v) v := by
  unfold Ax.toAV0
  split
  · exact VR.int.2 rfl
  · exact VR.bool.2 rfl
  · exact VR.str.2 (by rfl)
  · exact VR.nilp.2 rfl
  · exact VR.nils.2 rfl
  · exact VR.nilf.2 rfl
  · exact VR.nili.2 rfl
  · exact VR.any
theorem VRs.toAV0 : ∀ (cs : List Value), VRs ι (cs.map Ax.toAV0) cs
  | [] => VRs.nil.2 rfl
  | v :: vs => VRs.cons.2 ⟨v, vs, rfl, VR.toAV0 v, VRs.toAV0 vs⟩
theorem VR.toAV (v : Value) : VR ι (toAV v) v := by
  unfold Ax.toAV
  split
  · rename_i cs
    exact VR.agg.2 ⟨cs.toList, by simp, VRs.toAV0 _⟩
  · exact VR.toAV0 v
/-- The cells of a value. -/
theorem VR.cells {a : AV} {v : Value} (h : VR ι a v) (hv : a = .any → ∀ cs, v ≠ .agg cs) : VRs ι (cellsOf a) v.cells.toList := by
  have one : ∀ (a : AV) (v : Value), VR ι a v → VRs ι [a] [v] := fun a v h => VRs.cons.2 ⟨v, [], rfl, h, VRs.nil.2 rfl⟩
  cases a with
  | agg vs => obtain ⟨cs, rfl, h2⟩ := VR.agg.1 h; exact h2
  | int k n => have := VR.int.1 h; subst this; exact one _ _ h
  | bool b => have := VR.bool.1 h; subst this; exact one _ _ h
  | str s => have := VR.str.1 h; subst this; exact one _ _ h
  | ptr id off => obtain ⟨l, _, rfl⟩ := VR.ptr.1 h; exact one _ _ h
  | nilp => have := VR.nilp.1 h; subst this; exact one _ _ h
  | slc id off len cap => obtain ⟨l, x, c, _, rfl, _⟩ := VR.slc.1 h; exact one _ _ h
  | nils => have := VR.nils.1 h; subst this; exact one _ _ h
  | tup vs => obtain ⟨cs, rfl, _⟩ := VR.tup.1 h; exact one _ _ h
  | fn f vs => obtain ⟨cs, rfl, _⟩ := VR.fn.1 h; exact one _ _ h
  | nilf => have := VR.nilf.1 h; subst this; exact one _ _ h
  | nili => have := VR.nili.1 h; subst this; exact one _ _ h
  | any =>
    have := hv rfl
    have e : v.cells = #[v] := by cases v <;> first | rfl | exact absurd rfl (this _)
    rw [e]; exact one _ _ h
theorem VR.one {a : AV} {v : Value} (h : VR ι a v) (hs : sc a = true) : v.oneCell' = true := by
  cases a with
  | int k n => have := VR.int.1 h; subst this; rfl
  | bool b => have := VR.bool.1 h; subst this; rfl
  | str s => have := VR.str.1 h; subst this; rfl
  | ptr id off => obtain ⟨l, _, rfl⟩ := VR.ptr.1 h; rfl
  | nilp => have := VR.nilp.1 h; subst this; rfl
  | slc id off len cap => obtain ⟨l, x, c, _, rfl, _⟩ := VR.slc.1 h; rfl
  | nils => have := VR.nils.1 h; subst this; rfl
  | fn f vs => obtain ⟨cs, rfl, _⟩ := VR.fn.1 h; rfl
  | nilf => have := VR.nilf.1 h; subst this; rfl
  | nili => have := VR.nili.1 h; subst this; rfl
  | _ => cases hs
theorem allSc_mem {l : List AV} (h : allSc l = true) : ∀ a ∈ l, sc a = true := by
  induction l with
  | nil => intro a ha; cases ha
  | cons b l ih =>
    have h' : (bif sc b then allSc l else false) = true := h
    intro a ha
    cases hb : sc b with
    | false => rw [hb] at h'; cases h'
    | true =>
      rw [hb] at h'
      rcases List.mem_cons.1 ha with rfl | ha
      · exact hb
      · exact ih h' a ha
theorem VRs.one {xs : List AV} {cs : List Value} (h : VRs ι xs cs) (hs : allSc xs = true) : ∀ v ∈ cs, v.oneCell' = true := by
  intro v hv
  obtain ⟨j, hj, e⟩ := List.mem_iff_getElem.1 hv
  obtain ⟨h1, h2⟩ := (VRs.iff xs cs).1 h
  have hj' : j < xs.length := by omega
  exact VR.one (h2 j xs[j] v (List.getElem?_eq_getElem hj') (by rw [← e]; exact List.getElem?_eq_getElem hj)) (allSc_mem hs _ (List.getElem_mem hj'))
end

def live : Blk → Prop
  | .dead => False
  | _ => True
def cellR (ι : Emb) (w : World) (l : Loc) (cs : List AV) : Prop :=
  cs.length ≤ l.n ∧ ∀ (j : Nat) (a : AV), cs[j]? = some a → ∃ v, w.cell? ⟨l.b, l.d + j, none⟩ = some v ∧ VR ι a v
def blkR (ι : Emb) (w : World) (l : Loc) : Blk → Prop
  | .cells cs => cellR ι w l cs ∧ (∀ j, j < l.n → (w.cell? ⟨l.b, l.d + j, none⟩).isSome = true) ∧ ∀ o, w.frozen? ⟨l.b, o, none⟩ = false
  | .ro cs => cellR ι w l cs
  | .dead => True
abbrev Hf := Nat → Option Blk
/-- What the evaluator's memory stands for. -/
structure WR (ι : Emb) (H : Hf) (w : World) : Prop where
  gl : ∀ g, g < 100 → ∃ n, ι g = some ⟨g, 0, n⟩
  lt : ∀ id l b, ι id = some l → H id = some b → l.b < w.heap.size
  blk : ∀ id l b, ι id = some l → H id = some b → blkR ι w l b
  inj : ∀ id id' l l' b b', id ≠ id' → ι id = some l → ι id' = some l' → H id = some b → H id' = some b' → live b → live b' → l.b ≠ l'.b

theorem cell_congr {w w' : World} {B : Nat} (h : w'.heap[B]? = w.heap[B]?) (o : Nat) : w'.cell? ⟨B, o, none⟩ = w.cell? ⟨B, o, none⟩ := by
  simp only [World.cell?, h]
theorem frozen_congr {w w' : World} {B : Nat} (h : w'.heap[B]? = w.heap[B]?) (o : Nat) : w'.frozen? ⟨B, o, none⟩ = w.frozen? ⟨B, o, none⟩ := by
  simp only [World.frozen?, h]
theorem cellR.mono {ι ι' : Emb} {w w' : World} {l : Loc} {cs : List AV} (hi : Le ι ι') (h : w'.heap[l.b]? = w.heap[l.b]?) (hc : cellR ι w l cs) : cellR ι' w' l cs :=
  ⟨hc.1, fun j a ha => by obtain ⟨v, h1, h2⟩ := hc.2 j a ha; exact ⟨v, by rw [cell_congr h]; exact h1, VR.mono hi a v h2⟩⟩
theorem blkR.mono {ι ι' : Emb} {w w' : World} {l : Loc} {b : Blk} (hi : Le ι ι') (h : w'.heap[l.b]? = w.heap[l.b]?) (hb : blkR ι w l b) : blkR ι' w' l b := by
  cases b with
  | dead => trivial
  | ro cs => exact cellR.mono hi h hb
  | cells cs => exact ⟨cellR.mono hi h hb.1, fun j hj => by rw [cell_congr h]; exact hb.2.1 j hj, fun o => by rw [frozen_congr h]; exact hb.2.2 o⟩

/-- What was there and is not the place of a number from lo to hi, is there xs it was. -/
structure Fr (ι : Emb) (lo hi : Nat) (w w' : World) : Prop where
  os : w'.os = w.os
  tape : w'.tape = w.tape
  output : w'.output = w.output
  size : w.heap.size ≤ w'.heap.size
  keep : ∀ B, B < w.heap.size → (∀ id l, lo ≤ id → id < hi → ι id = some l → l.b ≠ B) → w'.heap[B]? = w.heap[B]?
/-- The places of the new numbers. -/
structure Ext (ι ι' : Emb) (lo hi wm : Nat) (w : World) : Prop where
  same : ∀ id, ¬ (lo ≤ id ∧ id < hi) → ι' id = ι id
  new : ∀ id l, lo ≤ id → id < hi → ι' id = some l → w.heap.size ≤ l.b ∨ ∃ id0 l0, wm ≤ id0 ∧ id0 < lo ∧ ι id0 = some l0 ∧ l0.b = l.b
/-- The numbers from lo to hi have no places yet. -/
def Free (ι : Emb) (lo hi : Nat) : Prop := ∀ id, lo ≤ id → id < hi → ι id = none
theorem Ext.le {ι ι' : Emb} {lo hi wm : Nat} {w : World} (h : Ext ι ι' lo hi wm w) (hf : Free ι lo hi) : Le ι ι' := fun id l e => by
  by_cases hc : lo ≤ id ∧ id < hi
  · rw [hf id hc.1 hc.2] at e; cases e
  · rw [h.same id hc]; exact e
theorem Ext.refl (ι : Emb) (n wm : Nat) (w : World) : Ext ι ι n n wm w := ⟨fun _ _ => rfl, fun id l h1 h2 => by omega⟩
theorem Fr.refl (ι : Emb) (lo hi : Nat) (w : World) : Fr ι lo hi w w := ⟨rfl, rfl, rfl, Nat.le_refl _, fun _ _ _ => rfl⟩
end Go.Proofs.YtnbnoacadhoimaaGreatDoor.Ax
