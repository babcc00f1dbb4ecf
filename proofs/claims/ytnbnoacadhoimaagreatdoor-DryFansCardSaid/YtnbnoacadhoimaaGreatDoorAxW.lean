/- An evaluator for the model: part W. -/
import Derived.Test.YtnbnoacadhoimaaGreatDoorAxU
set_option linter.unusedSimpArgs false
set_option linter.unusedVariables false
set_option maxRecDepth 100000
set_option maxHeartbeats 8000000
namespace Go.Proofs.YtnbnoacadhoimaaGreatDoor.Ax
open Go Go.RowKit
set_option linter.unusedSimpArgs false
set_option linter.unusedVariables false
section
variable {P : Program} {w : World} {ι : Emb} {o : Oper} {tm : Tm} {h h' : Hp} {v : AV}
theorem wrBlk_get (h : Hp) (id : Nat) (b : Blk) (k : Nat) : (wrBlk h id b).h.get k = if k = id then some b else h.h.get k := Tr.get_set _ _ _ _
theorem wrBlk_wm (h : Hp) (id : Nat) (b : Blk) : (wrBlk h id b).wm ≤ id ∧ (wrBlk h id b).wm ≤ h.wm := by
  show (bif Nat.ble h.wm id then h.wm else id) ≤ id ∧ (bif Nat.ble h.wm id then h.wm else id) ≤ h.wm
  rw [ble_eq]
  by_cases hc : h.wm ≤ id
  · rw [decide_eq_true hc]; exact ⟨hc, Nat.le_refl _⟩
  · rw [decide_eq_false hc]; exact ⟨Nat.le_refl _, by simp only [cond_false]; omega⟩
/-- Cells are stored into a block. -/
theorem OpOk.store {id off : Nat} {cs cs' vs : List AV} {l0 : List Nat} (hid : id ∈ l0) (hc : h.h.get id = some (.cells cs)) (hs : setAtL cs off vs = some cs')
    (hr : ∀ (ι : Emb) (H : Hf) (w : World) (a : Act), WR ι H w → Opr ι tm a o → Agree l0 h H → Bd h → ∃ l vals vc, ι id = some l ∧ VRs ι vs vals ∧ VR ι v vc ∧ ((execOp a.eval o).run P w = .ok (.value vc) (w.setCells l.b (l.d + off) vals) ∨ ((execOp a.eval o).run P w = .ok .skip (w.setCells l.b (l.d + off) vals) ∧ vc = undef))) :
    OpOk P o tm h (wrBlk h id (.cells cs')) v l0 [id] := by
  have hnx : (wrBlk h id (.cells cs')).nx = h.nx := rfl
  refine ⟨Nat.le_of_eq hnx.symm, (wrBlk_wm _ _ _).2, fun hb k b hk => ?_, fun k hk => .inl (by rw [List.mem_singleton.1 hk]; exact (wrBlk_wm _ _ _).1), fun k h1 h2 => ?_, fun ι H H' w a hW hf ho hA hB h1 h2 => ?_⟩
  · rw [wrBlk_get] at hk
    by_cases e : k = id
    · subst e; exact hb k _ hc
    · rw [if_neg e] at hk; exact hb k b hk
  · rw [wrBlk_get, if_neg (by simpa using h1)]
  · obtain ⟨l, vals, vc, hl, hv, hvc, he⟩ := hr ι H w a hW ho hA hB
    have hP : Post ι H' h.nx h.nx (wrBlk h id (.cells cs')).wm w (.tup []) undef (w.setCells l.b (l.d + off) vals) := by
      refine Post.store hW hl (hA id hid _ hc) hs hv (wrBlk_wm _ _ _).1 (hB id _ hc) ?_ (fun k hk => h2 k (by simpa using hk) (by rw [hnx]; omega))
      rw [h1 id (.inl (by simp)), wrBlk_get, if_pos rfl]
    obtain ⟨ι', p1, p2, p3, p4⟩ := hP
    have hle : Le ι ι' := p1.le (fun k h3 h4 => by omega)
    rcases he with he | ⟨he, rfl⟩
    · rw [he]; exact ⟨ι', p1, VR.mono hle _ _ hvc, p3, p4⟩
    · rw [he]; exact ⟨ι', p1, VR.mono hle _ _ hvc, p3, p4⟩
theorem oStore_ok {t : TypeId} {x y : Operand} (hop : o.op = .store t x y) (e : oStore t x y P tm h = .val v h') : OpOk P o tm h h' v (idsOf (opd tm x)) (idsOf (opd tm x)) := by
  have e1 : stAt P t h (cellsOf (opd tm y)) (opd tm x) = .val v h' := e
  unfold stAt at e1
  split at e1
  · rename_i id off hp
    split at e1
    · rename_i cs hcs
      split at e1
      · rename_i s hs
        rw [beqN_eq] at e1
        cases hb : (decide (lenL (cellsOf (opd tm y)) = s) && allSc (cellsOf (opd tm y))) with
        | false => rw [hb] at e1; cases e1
        | true =>
          rw [hb] at e1
          simp only [Bool.and_eq_true, decide_eq_true_eq] at hb
          have e2 : stIn h id (setAt off cs (cellsOf (opd tm y))) = .val v h' := e1
          cases h3 : setAt off cs (cellsOf (opd tm y)) with
          | none => rw [h3] at e2; cases e2
          | some cs' =>
            rw [h3] at e2
            obtain ⟨rfl, rfl⟩ := val_inj (show Ro.val (.tup []) (wrBlk h id (.cells cs')) = .val v h' from e2)
            rw [hp]
            refine OpOk.store (by simp [idsOf]) (wrB_eq hcs) h3 fun ι H w a hW ho hA hB => ?_
            have hx := ho x (by simp [hop, Op.operands])
            have hy := ho y (by simp [hop, Op.operands])
            rw [hp] at hx
            obtain ⟨l, hl, hv⟩ := VR.ptr.1 hx
            have hne : opd tm y ≠ .any := fun e => by rw [e] at hb; cases hb.2
            have hcells := VR.cells hy (fun e => absurd e hne)
            refine ⟨l, _, undef, hl, hcells, VR.tup.2 ⟨[], rfl, VRs.nil.2 rfl⟩, .inr ⟨?_, rfl⟩⟩
            obtain ⟨c1, c2⟩ := (VRs.iff _ _).1 hcells
            have hsz : (a.eval y).cells.size = s := by rw [← hb.1, lenL_eq, c1]; simp
            obtain ⟨⟨r1, r2⟩, r3, r4⟩ := hW.blk id l _ hl (hA id (by simp [idsOf]) _ (wrB_eq hcs))
            obtain ⟨s1, s2, s3⟩ := setAtL_eq _ _ _ _ h3
            have hst := run_storeCells_cells (P := P) l.b (l.d + off) (a.eval y).cells.toList 0 w (fun j hj => by
              have hj' : j < (cellsOf (opd tm y)).length := by rw [c1]; exact hj
              have := s2 (by intro e; rw [e] at hj'; simp at hj')
              have := r3 (off + j) (by omega)
              rwa [← Nat.add_assoc] at this) (fun j hj => r4 _) (VRs.one hcells hb.2)
            simp [execOp, hop, Instr.storeAt, Instr.sureAddr, hv, storeVar, szOf_run hs, hsz, hst]
      · cases e1
    · cases e1
  · cases e1
theorem new?_eq {len : Nat} {cap : Cap} {oc : Option (List AV)} (e : new? h len cap oc = .val v h') : ∃ cs, oc = some cs ∧ v = .slc h.nx 0 len cap ∧ h' = newBlk h (.cells cs) := by
  cases oc with
  | none => cases e
  | some cs => obtain ⟨a, b⟩ := val_inj (show Ro.val (.slc h.nx 0 len cap) (newBlk h (.cells cs)) = .val v h' from e); exact ⟨cs, rfl, a.symm, b.symm⟩
theorem rep_at (z : List AV) : ∀ (n j : Nat) (a : AV), (rep z n)[j]? = some a → z[j % z.length]? = some a := by
  intro n
  induction n with
  | zero => intro j a h; have : (rep z 0) = [] := rfl; rw [this] at h; simp at h
  | succ n ih =>
    intro j a h
    have : rep z (n + 1) = appL z (rep z n) := rfl
    rw [this, appL_eq, List.getElem?_append] at h
    by_cases hj : j < z.length
    · rw [if_pos hj] at h; rwa [Nat.mod_eq_of_lt hj]
    · rw [if_neg hj] at h
      have := ih _ a h
      rwa [Nat.mod_eq_sub_mod (Nat.le_of_not_lt hj)]
theorem made_at (zv : Array Value) (n : Nat) (z : List AV) (hz : VRs ι z zv.toList) (c j : Nat) (b : AV) (u : Value) (hb : (rep z c)[j]? = some b) (hu : (madeCells zv n)[j]? = some u) : VR ι b u := by
  obtain ⟨h1, h2⟩ := (VRs.iff _ _).1 hz
  have h3 := rep_at z c j b hb
  have hlt := lt_of_some h3
  have hsz : zv.size = z.length := by rw [h1]; simp
  have h4 : u = zv[j % z.length]! := by
    rw [madeCells, Array.getElem?_map, Array.getElem?_range] at hu
    split at hu
    · rw [← hsz]; exact (Option.some.inj hu).symm
    · cases hu
  refine h2 _ b u h3 ?_
  rw [h4]
  simp [getElem!_pos, hsz, hlt]
theorem oMakeSlice_ok {t : TypeId} {x y : Operand} (hop : o.op = .makeSlice t x y) (e : oMakeSlice t x y P tm h = .val v h') : OpOk P o tm h h' v [] [] := by
  unfold oMakeSlice at e
  split at e
  · rename_i el hel
    split at e
    · rename_i l hl
      split at e
      · rename_i c hc
        split at e
        · rename_i z hzz
          split at e
          · rename_i i hi
            simp only [ble_eq, beqN_eq] at e
            cases hb : (decide (l ≤ c) && decide (c ≤ 65536) && decide (i.bytes ≤ 65536) && decide (lenL z = i.size)) with
            | false => rw [hb] at e; cases e
            | true =>
              rw [hb] at e
              simp only [Bool.and_eq_true, decide_eq_true_eq] at hb
              obtain ⟨cs, h1, rfl, rfl⟩ := new?_eq (show new? h l (.k c) (some (rep z c)) = .val v h' from e)
              have := Option.some.inj h1
              subst this
              obtain ⟨i', zv, hi', hzv, rfl⟩ := zeroOf_eq hzz
              rw [hi] at hi'
              have := Option.some.inj hi'
              subst this
              have hu := sliceElem_eq hel
              refine OpOk.alloc fun ι H w a hW ho hA hn => ?_
              obtain ⟨k1, hx⟩ := asNat_val hl (ho x (by simp [hop, Op.operands]))
              obtain ⟨k2, hy⟩ := asNat_val hc (ho y (by simp [hop, Op.operands]))
              have hm := Nat.mul_le_mul hb.1.1.2 hb.1.2
              have hrun := run_make (P := P) w t el i zv hu hi hzv k1 k2 (l : Int) (c : Int) (by omega) (by omega) (by rw [← Int.natCast_mul, Nat.mul_comm]; omega) (by omega)
              rw [Int.toNat_natCast, Int.toNat_natCast] at hrun
              have hN := NewW.alloc w (madeCells zv.cells (c * i.size)) el
              have hzc := toAV_cells (put1 ι h.nx ⟨w.heap.size, 0, (madeCells zv.cells (c * i.size)).size⟩) zv
              have hmade : (madeCells zv.cells (c * i.size)).size = c * i.size := by simp [madeCells]
              refine ⟨.slice (some ⟨w.heap.size, 0, none⟩) l c, madeCells zv.cells (c * i.size), el, (0, 0), _, ?_, hN, ⟨cells_new hN.new ?_ (fun j b u hb hu => made_at _ _ _ hzc _ j b u hb hu), room_new hN.new, frozen_new hN.new⟩, VR.slc.2 ⟨_, 0, c, put1_at, rfl, fun _ => rfl, rfl, hb.1.1.1⟩⟩
              · simp [execOp, hop, hx, hy, hrun]
              · rw [rep_len, ← lenL_eq, hb.2, hmade]; exact Nat.le_refl _
          · cases e
        · cases e
      · cases e
    · cases e
  · cases e
end
end Go.Proofs.YtnbnoacadhoimaaGreatDoor.Ax
