/- An evaluator for the model: part Zb. -/
import Derived.Test.YtnbnoacadhoimaaGreatDoorAxZa
set_option linter.unusedSimpArgs false
set_option linter.unusedVariables false
set_option maxRecDepth 100000
set_option maxHeartbeats 8000000
namespace Go.Proofs.YtnbnoacadhoimaaGreatDoor.Ax
open Go Go.RowKit
set_option linter.unusedSimpArgs false
set_option linter.unusedVariables false
section
variable {P : Program} {w : World} {ι : Emb} {o : Oper} {tm : Tm} {h h' : Hp} {v : AV} {c : Call}
theorem pickI_eq {b : Bool} {k : IntKind} {x : Int} {a : AV} (e : pickI b k x a = v) (hv : v ≠ .any) : ∃ k' y, a = .int k' y ∧ v = .int k (bif (bif b then intLt x y else intLt y x) then y else x) := by
  cases a with
  | int k' y => exact ⟨k', y, rfl, e.symm⟩
  | _ => exact absurd e.symm hv
theorem maxI_any {b : Bool} {x : AV} : maxI b .any x = .any := rfl
theorem foldV_any {b : Bool} : ∀ (l : List AV), foldV b l .any = .any
  | [] => rfl
  | x :: l => foldV_any l
theorem foldV_run {b : Bool} : ∀ (l : List AV) (lv : List Value) (a : AV) (va : Value) (v : AV), VRs ι l lv → VR ι a va → foldV b l a = v → v ≠ .any → (l = [] → ∃ k n, a = .int k n) →
    ∃ vc, (lv.foldlM (bif b then Builtin.max2 else Builtin.min2) va).run P w = .ok vc w ∧ VR ι v vc
  | [], lv, a, va, v, hl, ha, e, hv, _ => by
    have := VRs.nil.1 hl
    subst this
    have e' : a = v := e
    subst e'
    exact ⟨va, by simp, ha⟩
  | x :: l, lv, a, va, v, hl, ha, e, hv, hi => by
    obtain ⟨u, us, rfl, h1, h2⟩ := VRs.cons.1 hl
    have e' : foldV b l (maxI b a x) = v := e
    have hm : maxI b a x ≠ .any := fun hc => by rw [hc, foldV_any] at e'; exact hv e'.symm
    cases a with
    | int k n =>
      obtain ⟨k', y, hx, hmv⟩ := pickI_eq (show pickI b k n x = maxI b (.int k n) x from rfl) hm
      have hva := VR.int.1 ha
      subst hva
      subst hx
      have hu := VR.int.1 h1
      subst hu
      rw [hmv] at e'
      obtain ⟨vc, g1, g2⟩ := foldV_run l us (.int k (bif (bif b then intLt n y else intLt y n) then y else n)) (.int k (bif (bif b then intLt n y else intLt y n) then y else n)) v h2 (VR.int.2 rfl) e' hv (fun _ => ⟨k, _, rfl⟩)
      refine ⟨vc, ?_, g2⟩
      rw [List.foldlM_cons]
      have hs : ((bif b then Builtin.max2 else Builtin.min2) (.int k n) (.int k' y)).run P w = .ok (.int k (bif (bif b then intLt n y else intLt y n) then y else n)) w := by
        cases b
        · simp only [cond_false, Builtin.min2, intLt_eq, Sem.run_pure]
          by_cases hc : y < n <;> simp [hc]
        · simp only [cond_true, Builtin.max2, intLt_eq, Sem.run_pure]
          by_cases hc : n < y <;> simp [hc]
      simp only [Sem.run_bind, hs, Result.andThen_ok, g1]
    | _ => exact absurd rfl hm
theorem bMM_ok {b : Bool} {B : Builtin} (hB : B = bif b then .max else .min) (hop : o.op = .call c) (hb : c.callee = .builtin B) (e : bMM b h (mapL (opd tm) c.args.toList) = .val v h') : OpOk P o tm h h' v [] [] := by
  match hl : c.args.toList with
  | [] => rw [hl] at e; cases e
  | [x] => rw [hl] at e; cases e
  | x :: y :: xs =>
    rw [hl] at e
    have e1 : okv h (foldV b (mapL (opd tm) (y :: xs)) (opd tm x)) = .val v h' := e
    have hv := okv_ne e1
    obtain ⟨hf, rfl⟩ := okv_eq e1
    refine OpOk.pure fun ι H w a hW ho hA => ?_
    have hopr := bi_opr hop hb ho
    rw [hl] at hopr
    obtain ⟨vc, g1, g2⟩ := foldV_run (P := P) (w := w) (mapL (opd tm) (y :: xs)) ((y :: xs).map a.eval) (opd tm x) (a.eval x) v (args_rel (fun q hq => hopr q (List.mem_cons_of_mem _ hq))) (hopr x (by simp)) hf hv (fun hc => by
      rw [mapL_eq] at hc; cases hc)
    refine ⟨vc, ?_, g2⟩
    have hargs : c.args = (x :: y :: xs).toArray := by rw [← hl]
    subst hB
    cases b
    · simp only [cond_false] at hb g1
      simp only [List.map_cons] at g1
      simp only [execOp, hop, resolve, hb, invoke, builtin, hargs, Builtin.min_, List.map_toArray, List.map_cons, Sem.run_bind, Sem.run_pure, Result.andThen_ok, g1]
    · simp only [cond_true] at hb g1
      simp only [List.map_cons] at g1
      simp only [execOp, hop, resolve, hb, invoke, builtin, hargs, Builtin.max_, List.map_toArray, List.map_cons, Sem.run_bind, Sem.run_pure, Result.andThen_ok, g1]
theorem bCopy_ok {d s : AV} {t u : TypeId} (hop : o.op = .call c) (hb : c.callee = .builtin .copy) (ha : mapL (opd tm) c.args.toList = [d, s]) (ht : c.argTypes.toList = [t, u]) (e : bCopy P t d s h = .val v h') :
    OpOk P o tm h h' v (idsOf d ++ idsOf s) (idsOf d) := by
  obtain ⟨y, q, hy, hd, hs⟩ := list2 ha
  have hargs := arr_of_list hy
  have htys := arr_of_list ht
  have run : ∀ (a : Act) (w : World), (execOp a.eval o).run P w = ((Builtin.copy_ #[t, u] o.type #[a.eval y, a.eval q]).run P w).andThen fun v w => .ok (.value v) w := by
    intro a w
    simp [execOp, hop, resolve, hb, invoke, builtin, hargs, htys]
  have opr : ∀ {ι : Emb} {a : Act}, Opr ι tm a o → VR ι d (a.eval y) ∧ VR ι s (a.eval q) := fun ho => by
    have := bi_opr hop hb ho
    rw [hy] at this
    exact ⟨hd ▸ this y (by simp), hs ▸ this q (by simp)⟩
  unfold bCopy at e
  split at e
  · rename_i id off dl cap
    split at e
    · rename_i el hel
      have hu := sliceElem_eq hel
      split at e
      · rename_i z hz
        split at e
        · rename_i sl hsl
          split at e
          · rename_i new hnew
            split at e
            · rename_i cs hcs
              cases hsc : allSc new with
              | false => rw [hsc] at e; cases e
              | true =>
                rw [hsc] at e
                simp only [cond_true] at e
                split at e
                · rename_i cs' hset
                  obtain ⟨rfl, rfl⟩ := val_inj e
                  have hmin : (bif Nat.ble sl dl then sl else dl) = min sl dl := min_bif sl dl
                  rw [hmin] at hnew ⊢
                  refine OpOk.store (by simp [idsOf]) (wrB_eq hcs) hset fun ι H w a hW ho hA hB => ?_
                  obtain ⟨h1, h2⟩ := opr ho
                  obtain ⟨l, p, k, hl, hv, hc, hcap⟩ := VR.slc.1 h1
                  have hHid := hA id (by simp [idsOf]) _ (wrB_eq hcs)
                  obtain ⟨⟨r1, r2⟩, r3, r4⟩ := hW.blk id l _ hl hHid
                  obtain ⟨s1, s2, s3⟩ := setAtL_eq _ _ _ _ hset
                  have hsrc : ∃ vals, VRs ι new vals ∧ (Builtin.lenOf (a.eval q)).run P w = .ok sl w ∧ (Builtin.firstCells z (min sl dl) (a.eval q)).run P w = .ok vals.toArray w ∧ (min sl dl = 0 → vals = []) := by
                    unfold firstCells at hnew
                    split at hnew
                    · rename_i id2 off2 len2 cap2
                      have := Option.some.inj (show some len2 = some sl from hsl)
                      subst this
                      split at hnew
                      · rename_i bs hbs
                        obtain ⟨l2, p2, k2, hl2, hv2, hc2, hcap2⟩ := VR.slc.1 h2
                        obtain ⟨vals, g1, g2, g3⟩ := slab_list (blk_cellR hW (hA id2 (by simp [idsOf])) hl2 hbs) hnew
                        have hlc : len2 ≤ k2 := by cases cap2 <;> simp [capR] at hcap2 <;> omega
                        refine ⟨vals, g2, by rw [hv2]; rfl, ?_, fun h0 => by rw [h0, Nat.zero_mul] at g1; exact List.length_eq_zero_iff.1 g1⟩
                        rw [hv2]
                        exact run_firstCells_some w z _ ⟨l2.b, p2, none⟩ len2 k2 vals g1 (fun j b hj => by
                          have hlt := lt_of_some hj
                          have hp := hc2 (by
                            rcases Nat.eq_zero_or_pos (min len2 dl) with h0 | h0
                            · rw [h0, Nat.zero_mul] at g1; omega
                            · omega)
                          rw [Addr.add_lit, hp]
                          exact g3 j b hj)
                      · cases hnew
                    · have := Option.some.inj hnew
                      subst this
                      have := Option.some.inj (show some 0 = some sl from hsl)
                      subst this
                      have hv2 := VR.nils.1 h2
                      exact ⟨[], VRs.nil.2 rfl, by rw [hv2]; rfl, by rw [hv2]; simp [Builtin.firstCells], fun _ => rfl⟩
                    · cases hnew
                    · cases hnew
                  obtain ⟨vals, g1, g2, g3, g4⟩ := hsrc
                  refine ⟨l, vals, .int .i64 ((min sl dl : Nat) : Int), hl, g1, VR.int.2 rfl, .inl ?_⟩
                  have hlen := ((VRs.iff _ _).1 g1).1
                  have hst : (storeCells ⟨l.b, p, none⟩ vals 0).run P w = .ok () (w.setCells l.b (l.d + off) vals) := by
                    by_cases h0 : min sl dl = 0
                    · rw [g4 h0]; rfl
                    · have hlc : dl ≤ k := by cases cap <;> simp [capR] at hcap <;> omega
                      have hp := hc (by omega)
                      subst hp
                      have := run_storeCells_cells (P := P) l.b (l.d + off) vals 0 w (fun j hj => by
                        have hj' : j < new.length := by omega
                        have := s2 (by intro e; rw [e] at hj'; simp at hj')
                        have := r3 (off + j) (by omega)
                        rwa [← Nat.add_assoc] at this) (fun j hj => r4 _) (VRs.one g1 hsc)
                      simpa using this
                  rw [run, hv]
                  have hmm : Nat.min sl dl = min sl dl := rfl
                  simp [Builtin.copy_, run_underlying hu, g2, szOf_run hz, hmm, g3, hst]
                  rfl
                · cases e
            · cases e
          · cases e
        · cases e
      · cases e
    · cases e
  · cases e
end
end Go.Proofs.YtnbnoacadhoimaaGreatDoor.Ax
