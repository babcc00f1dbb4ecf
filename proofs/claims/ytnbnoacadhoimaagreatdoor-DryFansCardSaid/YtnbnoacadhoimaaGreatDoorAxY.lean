/- An evaluator for the model: part Y. -/
import Derived.Test.YtnbnoacadhoimaaGreatDoorAxX
set_option linter.unusedSimpArgs false
set_option linter.unusedVariables false
set_option maxRecDepth 100000
set_option maxHeartbeats 8000000
namespace Go.Proofs.YtnbnoacadhoimaaGreatDoor.Ax
open Go Go.RowKit
set_option linter.unusedSimpArgs false
set_option linter.unusedVariables false
section
variable {P : Program} {w : World} {ι : Emb} {o : Oper} {tm : Tm} {h h' : Hp} {v : AV}
/-- The cells of a value are put into a row. -/
theorem foldl_set : ∀ (vs : List Value) (off k : Nat) (cur : Array Value), off + k + vs.length ≤ cur.size →
    ∃ r : Array Value, (vs.zipIdx k).foldl (fun cs (x : Value × Nat) => cs.setIfInBounds (off + x.2) x.1) cur = r ∧ r.size = cur.size ∧ ∀ j, r[j]? = if off + k ≤ j ∧ j < off + k + vs.length then vs[j - (off + k)]? else cur[j]?
  | [], off, k, cur, h => ⟨cur, rfl, rfl, fun j => by rw [if_neg (by simp)]⟩
  | v :: vs, off, k, cur, h => by
    obtain ⟨r, h1, h2, h3⟩ := foldl_set vs off (k + 1) (cur.setIfInBounds (off + k) v) (by simp at h ⊢; omega)
    refine ⟨r, by simpa using h1, by simpa using h2, fun j => ?_⟩
    rw [h3 j]
    simp only [List.length_cons] at h ⊢
    by_cases hj : j = off + k
    · subst hj
      rw [if_neg (by omega), if_pos (by omega), Nat.sub_self, Array.getElem?_setIfInBounds_self_of_lt (by omega)]
      rfl
    · by_cases hr : off + (k + 1) ≤ j ∧ j < off + (k + 1) + vs.length
      · rw [if_pos hr, if_pos (by omega), show j - (off + k) = (j - (off + (k + 1))) + 1 by omega, List.getElem?_cons_succ]
      · rw [if_neg hr, if_neg (by omega), Array.getElem?_setIfInBounds_ne (fun e => hj e.symm)]
theorem fill_run {place place' : Nat → Option (Nat × Nat)} (hp : ∀ i p, place i = some p → place' i = some p) : ∀ (l : List (Nat × AV)) (lv : List (Nat × Value)) (cs : List AV) (cur : Array Value) (r : List AV),
    l.length = lv.length → (∀ (j : Nat) (x : Nat × AV) (y : Nat × Value), l[j]? = some x → lv[j]? = some y → x.1 = y.1 ∧ VR ι x.2 y.2) → VRs ι cs cur.toList → fillP place l cs = some r →
    ∃ r' : Array Value, Instr.fill place' cur lv = some r' ∧ VRs ι r r'.toList
  | [], lv, cs, cur, r, hl, hR, hc, e => by
    have : lv = [] := List.length_eq_zero_iff.1 hl.symm
    subst this
    have := Option.some.inj (show some cs = some r from e)
    subst this
    exact ⟨cur, rfl, hc⟩
  | (i, a) :: l, [], cs, cur, r, hl, hR, hc, e => by simp at hl
  | (i, a) :: l, (i', u) :: lv, cs, cur, r, hl, hR, hc, e => by
    obtain ⟨h1, h2⟩ := hR 0 (i, a) (i', u) rfl rfl
    simp only at h1 h2
    subst h1
    have e' : fillC a cs (fillP place l) (place i) = some r := e
    cases hpl : place i with
    | none => rw [hpl] at e'; cases e'
    | some p =>
      rw [hpl] at e'
      have e2 : (bif Nat.beq (lenL (cellsOf a)) p.2 && !isAny a && Nat.ble (p.1 + p.2) (lenL cs) then fillK (fillP place l) (setAt p.1 cs (cellsOf a)) else none) = some r := e'
      rw [beqN_eq, ble_eq] at e2
      cases hb : (decide (lenL (cellsOf a) = p.2) && !isAny a && decide (p.1 + p.2 ≤ lenL cs)) with
      | false => rw [hb] at e2; cases e2
      | true =>
        rw [hb] at e2
        simp only [Bool.and_eq_true, decide_eq_true_eq, Bool.not_eq_true'] at hb
        cases hs : setAt p.1 cs (cellsOf a) with
        | none => rw [hs] at e2; cases e2
        | some cs' =>
          rw [hs] at e2
          have hne : a ≠ .any := fun e => by rw [e] at hb; cases hb.1.2
          have hcells := VR.cells h2 (fun e => absurd e hne)
          obtain ⟨c1, c2⟩ := (VRs.iff _ _).1 hcells
          obtain ⟨d1, d2⟩ := (VRs.iff _ _).1 hc
          obtain ⟨s1, s2, s3⟩ := setAtL_eq _ _ _ _ hs
          rw [lenL_eq, lenL_eq] at hb
          have hus : u.cells.size = p.2 := by rw [← hb.1.1, c1]; simp
          have hcs : cs.length = cur.size := by rw [d1]; simp
          have hfit : p.1 + u.cells.toList.length ≤ cur.size := by rw [Array.length_toList, hus, ← hcs]; exact hb.2
          obtain ⟨r0, g1, g2, g3⟩ := foldl_set u.cells.toList p.1 0 cur (by omega)
          have hvr : VRs ι cs' r0.toList := by
            refine (VRs.iff _ _).2 ⟨by rw [s1, hcs, Array.length_toList, g2], fun j b q hb1 hq => ?_⟩
            rw [s3 j] at hb1
            have hq' : r0[j]? = some q := by simpa using hq
            rw [g3 j] at hq'
            simp only [Nat.add_zero] at hq'
            by_cases hr : p.1 ≤ j ∧ j < p.1 + (cellsOf a).length
            · rw [if_pos hr] at hb1
              rw [if_pos (by rw [← c1]; exact hr)] at hq'
              exact c2 _ b q hb1 hq'
            · rw [if_neg hr] at hb1
              rw [if_neg (by rw [← c1]; exact hr)] at hq'
              exact d2 j b q hb1 (by simpa using hq')
          obtain ⟨r', k1, k2⟩ := fill_run hp l lv cs' r0 r (by simpa using hl) (fun j x y hx hy => hR (j + 1) x y (by simpa using hx) (by simpa using hy)) hvr e2
          refine ⟨r', ?_, k2⟩
          have hz : u.cells.zipIdx.foldl (fun cs (x : Value × Nat) => cs.setIfInBounds (p.1 + x.2) x.1) cur = r0 := by
            rw [← g1, ← Array.foldl_toList, Array.toList_zipIdx]
          have hn1 : ¬ (u.cells.size ≠ p.2) := by simp [hus]
          have hn2 : ¬ (p.1 + u.cells.size > cur.size) := by simp only [Array.length_toList] at hfit; omega
          simp only [Instr.fill, hp i p hpl]
          rw [if_neg (by simp [hus]; omega)]
          rw [← k1]
          congr 1
theorem parts_rel {a : Act} {ps : Array (Nat × Operand)} (ho : ∀ p ∈ ps.toList, VR ι (opd tm p.2) (a.eval p.2)) :
    (parts tm ps.toList).length = (ps.map fun p => (p.1, a.eval p.2)).toList.length ∧ ∀ (j : Nat) (x : Nat × AV) (y : Nat × Value), (parts tm ps.toList)[j]? = some x → (ps.map fun p => (p.1, a.eval p.2)).toList[j]? = some y → x.1 = y.1 ∧ VR ι x.2 y.2 := by
  unfold parts
  rw [mapL_eq]
  refine ⟨by simp, fun j x y hx hy => ?_⟩
  simp only [List.getElem?_map, Array.toList_map] at hx hy
  cases hj : ps.toList[j]? with
  | none => rw [hj] at hx; cases hx
  | some p =>
    rw [hj] at hx hy
    have h1 := Option.some.inj hx
    have h2 := Option.some.inj hy
    subst h1; subst h2
    exact ⟨rfl, ho p (List.mem_of_getElem? hj)⟩
theorem agg?_eq {oc : Option (List AV)} (e : agg? h oc = .val v h') : ∃ cs, oc = some cs ∧ v = .agg cs ∧ h' = h := by
  cases oc with
  | none => cases e
  | some cs => obtain ⟨a, b⟩ := val_inj (show Ro.val (.agg cs) h = .val v h' from e); exact ⟨cs, rfl, a.symm, b.symm⟩
theorem oBuild_ok {t : TypeId} {ps : Array (Nat × Operand)} (hop : o.op = .build t ps) (e : oBuild t ps P tm h = .val v h') : OpOk P o tm h h' v [] [] := by
  unfold oBuild at e
  split at e
  · rename_i z hz
    obtain ⟨cs, hcs, rfl, rfl⟩ := agg?_eq e
    obtain ⟨i, zv, hi, hzv, rfl⟩ := zeroOf_eq hz
    refine OpOk.pure fun ι H w a hW ho hA => ?_
    have hps : ∀ p ∈ ps.toList, VR ι (opd tm p.2) (a.eval p.2) := fun p hp => ho p.2 (by
      simp only [hop, Op.operands]
      exact List.mem_map.2 ⟨p, hp, rfl⟩)
    obtain ⟨r1, r2⟩ := parts_rel hps
    have hzc := toAV_cells ι zv
    unfold buildIn at hcs
    split at hcs
    · rename_i fs hu
      split at hcs
      · rename_i places hpl
        obtain ⟨r', k1, k2⟩ := fill_run (place' := fun x => places.toArray[x]?) (fun i p h => by rw [nthL_eq] at h; simpa using h) _ _ _ _ _ r1 r2 hzc hcs
        refine ⟨.agg r', ?_, VR.agg.2 ⟨r'.toList, by simp, k2⟩⟩
        have hb : P.built t (ps.map fun p => (p.1, a.eval p.2)).toList = some r' := by
          unfold placesOf at hpl
          simp only [Program.built, hi, hu, hzv, hpl]
          exact k1
        have := run_build (P := P) w t (ps.map fun p => (p.1, a.eval p.2)) r' hb
        simp only [execOp, hop, Sem.run_bind, this, Result.andThen_ok]
        rfl
      · cases hcs
    · rename_i n el hu
      split at hcs
      · rename_i s hs
        obtain ⟨ie, hie, rfl⟩ := szOf_eq hs
        obtain ⟨r', k1, k2⟩ := fill_run (place' := fun i => some (i * ie.size, ie.size)) (fun i p h => h) _ _ _ _ _ r1 r2 hzc hcs
        refine ⟨.agg r', ?_, VR.agg.2 ⟨r'.toList, by simp, k2⟩⟩
        have hb : P.built t (ps.map fun p => (p.1, a.eval p.2)).toList = some r' := by
          simp only [Program.built, hi, hu, hzv, hie]
          exact k1
        have := run_build (P := P) w t (ps.map fun p => (p.1, a.eval p.2)) r' hb
        simp only [execOp, hop, Sem.run_bind, this, Result.andThen_ok]
        rfl
      · cases hcs
    · cases hcs
  · cases e
theorem VRs_rep {z : List AV} {zv : Array Value} (hz : VRs ι z zv.toList) (n k : Nat) (hk : k = n * z.length) : VRs ι (rep z n) (madeCells zv k).toList := by
  refine (VRs.iff _ _).2 ⟨by rw [rep_len, Array.length_toList, hk]; simp [madeCells], fun j b u hb hu => made_at zv k z hz n j b u hb (by simpa using hu)⟩
theorem oBuildSlice_ok {t : TypeId} {len : Nat} {ps : Array (Nat × Operand)} (hop : o.op = .buildSlice t len ps) (e : oBuildSlice t len ps P tm h = .val v h') : OpOk P o tm h h' v [] [] := by
  unfold oBuildSlice at e
  split at e
  · rename_i el hel
    have hu := sliceElem_eq hel
    split at e
    · rename_i s z hs hz
      rw [ble_eq, beqN_eq] at e
      cases hb : (decide (len * s ≤ 65536) && decide (lenL z = s)) with
      | false => rw [hb] at e; cases e
      | true =>
        rw [hb] at e
        simp only [Bool.and_eq_true, decide_eq_true_eq, lenL_eq] at hb
        obtain ⟨cs, hcs, rfl, rfl⟩ := new?_eq (show new? h len (.k len) _ = .val v h' from e)
        obtain ⟨i, zv, hi, hzv, rfl⟩ := zeroOf_eq hz
        refine OpOk.alloc fun ι H w a hW ho hA hn => ?_
        have hps : ∀ p ∈ ps.toList, VR ι (opd tm p.2) (a.eval p.2) := fun p hp => ho p.2 (by
          simp only [hop, Op.operands]
          exact List.mem_map.2 ⟨p, hp, rfl⟩)
        obtain ⟨r1, r2⟩ := parts_rel hps
        have hzc := VRs_rep (toAV_cells ι zv) len (len * s) (by rw [hb.2])
        obtain ⟨r', k1, k2⟩ := fill_run (place' := fun i => some (i * s, s)) (fun i p h => h) _ _ _ _ _ r1 r2 hzc hcs
        have hN := NewW.alloc w r' el
        have k3 := VRs.mono (put1_le (l := ⟨w.heap.size, 0, r'.size⟩) hn) _ _ k2
        obtain ⟨c1, c2⟩ := (VRs.iff _ _).1 k3
        refine ⟨.slice (some ⟨w.heap.size, 0, none⟩) len len, r', el, (0, 0), _, ?_, hN, ⟨cells_new hN.new (by rw [c1]; simp) (fun j b u hb hu => c2 j b u hb (by simpa using hu)), room_new hN.new, frozen_new hN.new⟩, VR.slc.2 ⟨_, 0, len, put1_at, rfl, fun _ => rfl, rfl, Nat.le_refl _⟩⟩
        obtain ⟨ie, hie, rfl⟩ := szOf_eq hs
        rw [hi] at hie
        have := Option.some.inj hie
        subst this
        have hn24 : ¬ (len * i.size > 2 ^ 24) := by omega
        unfold madeCells at k1
        rw [Array.toList_map] at k1
        by_cases h0 : len * i.size = 0
        · simp only [h0, Array.range_zero', Array.map_empty] at k1
          simp [execOp, hop, Instr.buildSlice, run_underlying hu, Go.sizeOf, typeInfo, hi, h0, newRow, Array.range_zero', k1]
        · simp [execOp, hop, Instr.buildSlice, run_underlying hu, Go.sizeOf, typeInfo, zeroValue, hi, hzv, hn24, h0, newRow, k1]
    · cases e
  · cases e
end
end Go.Proofs.YtnbnoacadhoimaaGreatDoor.Ax
