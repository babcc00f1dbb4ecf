/- An evaluator for the model: part O. -/
import Derived.Test.YtnbnoacadhoimaaGreatDoorAxN
set_option linter.unusedSimpArgs false
set_option linter.unusedVariables false
set_option maxRecDepth 100000
set_option maxHeartbeats 8000000
namespace Go.Proofs.YtnbnoacadhoimaaGreatDoor.Ax
open Go Go.RowKit
set_option linter.unusedSimpArgs false
set_option linter.unusedVariables false

def Bd (h : Hp) : Prop := ∀ id b, h.h.get id = some b → id < h.nx
def Opr (ι : Emb) (tm : Tm) (a : Act) (o : Oper) : Prop := ∀ x, x ∈ o.op.operands.toList → VR ι (opd tm x) (a.eval x)
def Agree (rd : List Nat) (h : Hp) (H : Hf) : Prop := ∀ id, id ∈ rd → ∀ b, h.h.get id = some b → H id = some b
/-- An operation that is no call of a function does what the evaluator says. -/
structure OpOk (P : Program) (o : Oper) (tm : Tm) (h h' : Hp) (v : AV) (rd wr : List Nat) : Prop where
  nx : h.nx ≤ h'.nx
  wm : h'.wm ≤ h.wm
  bd : Bd h → Bd h'
  wrw : ∀ id, id ∈ wr → h'.wm ≤ id ∨ h'.h.get id = h.h.get id
  only : ∀ id, id ∉ wr → ¬ (h.nx ≤ id ∧ id < h'.nx) → h'.h.get id = h.h.get id
  run : ∀ (ι : Emb) (H H' : Hf) (w : World) (a : Act), WR ι H w → Free ι h.nx h'.nx → Opr ι tm a o → Agree rd h H → Bd h →
    (∀ id, (id ∈ wr ∨ (h.nx ≤ id ∧ id < h'.nx)) → H' id = h'.h.get id) → (∀ id, id ∉ wr → ¬ (h.nx ≤ id ∧ id < h'.nx) → H' id = H id) →
    Gives P ((execOp a.eval o).run P w) (Post ι H' h.nx h'.nx h'.wm w v)
section
variable {P : Program} {o : Oper} {tm : Tm} {h : Hp} {v : AV} {rd : List Nat}
theorem OpOk.pure (hr : ∀ (ι : Emb) (H : Hf) (w : World) (a : Act), WR ι H w → Opr ι tm a o → Agree rd h H → ∃ vc, (execOp a.eval o).run P w = .ok (.value vc) w ∧ VR ι v vc) : OpOk P o tm h h v rd [] := by
  refine ⟨Nat.le_refl _, Nat.le_refl _, fun h => h, fun _ _ => .inr rfl, fun _ _ _ => rfl, fun ι H H' w a hW hf ho hA hB h1 h2 => ?_⟩
  obtain ⟨vc, he, hv⟩ := hr ι H w a hW ho hA
  rw [he]
  have hH : H' = H := funext fun id => h2 id (by simp) (by omega)
  rw [hH]
  exact Post.pure hW hv
theorem OpOk.alloc {b : Blk} (hr : ∀ (ι : Emb) (H : Hf) (w : World) (a : Act), WR ι H w → Opr ι tm a o → Agree rd h H → ι h.nx = none →
    ∃ vc cv t fz w', (execOp a.eval o).run P w = .ok (.value vc) w' ∧ NewW w w' cv t fz ∧ blkR (put1 ι h.nx ⟨w.heap.size, 0, cv.size⟩) w' ⟨w.heap.size, 0, cv.size⟩ b ∧ VR (put1 ι h.nx ⟨w.heap.size, 0, cv.size⟩) v vc) :
    OpOk P o tm h (newBlk h b) v rd [] := by
  have hnx : (newBlk h b).nx = h.nx + 1 := rfl
  have hget : ∀ id, (newBlk h b).h.get id = if id = h.nx then some b else h.h.get id := fun id => Tr.get_set _ _ _ _
  refine ⟨by rw [hnx]; omega, Nat.le_refl _, fun hb id c hc => ?_, fun _ h => (by cases h), fun id h1 h2 => ?_, fun ι H H' w a hW hf ho hA hB h1 h2 => ?_⟩
  · rw [hget] at hc
    rw [hnx]
    by_cases e : id = h.nx
    · omega
    · rw [if_neg e] at hc; have := hb id c hc; omega
  · rw [hget, if_neg (by rw [hnx] at h2; omega)]
  · obtain ⟨vc, cv, t, fz, w', he, hN, hb, hv⟩ := hr ι H w a hW ho hA (hf.one)
    rw [he]
    have hH : H' h.nx = some b := by rw [h1 h.nx (.inr ⟨Nat.le_refl _, by rw [hnx]; omega⟩), hget, if_pos rfl]
    exact Post.new hW hN hf hH (fun id hid => .inl (h2 id (by simp) (by rw [hnx]; omega))) hb hv
end
section
variable {P : Program} {o : Oper} {tm : Tm} {h h' : Hp} {v : AV}
theorem val_inj {v v' : AV} {h h' : Hp} (e : Ro.val v h = Ro.val v' h') : v = v' ∧ h = h' := by injection e with a b; exact ⟨a, b⟩
theorem val?_eq {oa : Option AV} (e : val? h oa = .val v h') : oa = some v ∧ h' = h := by
  cases oa with
  | none => cases e
  | some u => obtain ⟨a, b⟩ := val_inj (show Ro.val u h = Ro.val v h' from e); exact ⟨by rw [a], b.symm⟩
theorem okv_eq {u : AV} (e : okv h u = .val v h') : u = v ∧ h' = h := by
  unfold okv at e
  split at e
  · cases e
  · obtain ⟨a, b⟩ := val_inj e; exact ⟨a, b.symm⟩
theorem opr1 {ι : Emb} {a : Act} {x : Operand} (ho : Opr ι tm a o) (hx : x ∈ o.op.operands.toList) : VR ι (opd tm x) (a.eval x) := ho x hx

theorem oMove_ok {x : Operand} (hop : o.op = .move x ∨ o.op = .assign x) (e : oMove x P tm h = .val v h') : OpOk P o tm h h' v [] [] := by
  obtain ⟨rfl, rfl⟩ := val_inj (show Ro.val (opd tm x) h = Ro.val v h' from e)
  refine OpOk.pure fun ι H w a hW ho hA => ⟨a.eval x, ?_, ho x (by rcases hop with h | h <;> simp [h, Op.operands])⟩
  rcases hop with h | h <;> simp [execOp, h]
theorem oPick_ok {c x y : Operand} (hop : o.op = .pick c x y) (e : oPick c x y P tm h = .val v h') : OpOk P o tm h h' v [] [] := by
  unfold oPick at e
  cases hc : opd tm c with
  | bool t =>
    rw [hc] at e
    obtain ⟨rfl, rfl⟩ := val_inj (show Ro.val (bif t then opd tm x else opd tm y) h = Ro.val v h' from e)
    refine OpOk.pure fun ι H w a hW ho hA => ⟨if t then a.eval x else a.eval y, ?_, ?_⟩
    · have h1 := ho c (by simp [hop, Op.operands])
      rw [hc] at h1
      simp [execOp, hop, asBool, VR.bool.1 h1]
    · cases t
      · exact ho y (by simp [hop, Op.operands])
      · exact ho x (by simp [hop, Op.operands])
  | _ => rw [hc] at e; cases e
theorem boxV_eq {u : AV} (e : boxV h u = .val v h') : u ≠ .any ∧ v = .ptr h.nx 0 ∧ h' = newBlk h (.cells (cellsOf u)) := by
  cases u <;> first | (cases e; done) | (obtain ⟨a, b⟩ := val_inj e; exact ⟨by simp, a.symm, b.symm⟩)
theorem oBox_ok {t : TypeId} {x : Operand} (hop : o.op = .box t x) (e : oBox t x P tm h = .val v h') : OpOk P o tm h h' v [] [] := by
  obtain ⟨hx, rfl, rfl⟩ := boxV_eq (show boxV h (opd tm x) = .val v h' from e)
  refine OpOk.alloc fun ι H w a hW ho hA hn => ⟨.pointer (some ⟨w.heap.size, 0, none⟩), (a.eval x).cells, t, (0, 0), w.alloc (.cells (a.eval x).cells t), ?_, NewW.alloc _ _ _, ?_, ?_⟩
  · simp [execOp, hop, Instr.box, newVar, newRow]
  · have hN := NewW.alloc w (a.eval x).cells t
    have h1 : VRs (put1 ι h.nx ⟨w.heap.size, 0, (a.eval x).cells.size⟩) (cellsOf (opd tm x)) (a.eval x).cells.toList := VRs.mono (put1_le hn) _ _ (VR.cells (ho x (by simp [hop, Op.operands])) (fun h => absurd h hx))
    obtain ⟨h2, h3⟩ := (VRs.iff _ _).1 h1
    exact ⟨cells_new hN.new (by rw [h2]; simp) (fun j b u hb hu => h3 j b u hb (by simpa using hu)), room_new hN.new, frozen_new hN.new⟩
  · exact VR.ptr.2 ⟨_, put1_at, by simp⟩
/-- The zero value of a type. -/
theorem zeroOf_eq {t : TypeId} {z : List AV} (e : zeroOf P t = some z) : ∃ i zv, P.info? t = some i ∧ i.zero = some zv ∧ z = cellsOf (toAV zv) := by
  unfold zeroOf at e
  split at e
  · rename_i i hi
    split at e
    · rename_i zv hz
      exact ⟨i, zv, hi, hz, (Option.some.inj e).symm⟩
    · cases e
  · cases e
theorem toAV0_cells (v : Value) : cellsOf (toAV0 v) = [toAV0 v] := by
  unfold toAV0
  split <;> rfl
theorem toAV_cells (ι : Emb) (zv : Value) : VRs ι (cellsOf (toAV zv)) zv.cells.toList := by
  have h1 : ∀ u : Value, toAV u = toAV0 u → u.cells = #[u] → VRs ι (cellsOf (toAV u)) u.cells.toList := fun u e1 e2 => by
    rw [e1, toAV0_cells, e2]
    exact VRs.cons.2 ⟨_, [], rfl, VR.toAV0 u, VRs.nil.2 rfl⟩
  cases zv with
  | agg cs => exact (by simpa [toAV, cellsOf, Value.cells] using VRs.toAV0 (ι := ι) cs.toList)
  | _ => exact h1 _ rfl rfl
theorem oAlloc_ok {t : TypeId} (hop : o.op = .alloc t) (e : oAlloc t P tm h = .val v h') : OpOk P o tm h h' v [] [] := by
  unfold oAlloc at e
  cases hz : zeroOf P t with
  | none => rw [hz] at e; cases e
  | some z =>
    rw [hz] at e
    obtain ⟨rfl, rfl⟩ := val_inj (show Ro.val (.ptr h.nx 0) (newBlk h (.cells z)) = Ro.val v h' from e)
    obtain ⟨i, zv, hi, hzv, rfl⟩ := zeroOf_eq hz
    refine OpOk.alloc fun ι H w a hW ho hA hn => ⟨.pointer (some ⟨w.heap.size, 0, none⟩), zv.cells, t, (0, 0), w.alloc (.cells zv.cells t), ?_, NewW.alloc _ _ _, ?_, ?_⟩
    · simp [execOp, hop, Instr.alloc, newVar, newRow, zeroValue, typeInfo, hi, hzv]
    · have hN := NewW.alloc w zv.cells t
      obtain ⟨h2, h3⟩ := (VRs.iff _ _).1 (toAV_cells (put1 ι h.nx ⟨w.heap.size, 0, zv.cells.size⟩) zv)
      exact ⟨cells_new hN.new (by rw [h2]; simp) (fun j b u hb hu => h3 j b u hb (by simpa using hu)), room_new hN.new, frozen_new hN.new⟩
    · exact VR.ptr.2 ⟨_, put1_at, by simp⟩
end
end Go.Proofs.YtnbnoacadhoimaaGreatDoor.Ax
