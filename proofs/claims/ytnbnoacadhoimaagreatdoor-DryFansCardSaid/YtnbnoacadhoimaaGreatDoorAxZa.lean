/- An evaluator for the model: part Za. -/
import Derived.Test.YtnbnoacadhoimaaGreatDoorAxZ
set_option linter.unusedSimpArgs false
set_option linter.unusedVariables false
set_option maxRecDepth 100000
set_option maxHeartbeats 8000000
namespace Go.Proofs.YtnbnoacadhoimaaGreatDoor.Ax
open Go Go.RowKit
set_option linter.unusedSimpArgs false
set_option linter.unusedVariables false
section
variable {P : Program} {w : World} {ι : Emb} {o : Oper} {tm : Tm} {h h' : Hp} {v : AV} {c : Call}
theorem WR.weaken {H H' : Hf} (hW : WR ι H w) (hh : ∀ id b, H' id = some b → H id = some b) : WR ι H' w :=
  ⟨hW.gl, fun id l b e h => hW.lt id l b e (hh _ _ h), fun id l b e h => hW.blk id l b e (hh _ _ h), fun id id' l l' b b' hne e e' h h' => hW.inj id id' l l' b b' hne e e' (hh _ _ h) (hh _ _ h')⟩
theorem OpOk.pureW {rd wr : List Nat} (hsub : ∀ id ∈ wr, id ∈ rd) (hr : ∀ (ι : Emb) (H : Hf) (w : World) (a : Act), WR ι H w → Opr ι tm a o → Agree rd h H → ∃ vc, (execOp a.eval o).run P w = .ok (.value vc) w ∧ VR ι v vc) : OpOk P o tm h h v rd wr := by
  refine ⟨Nat.le_refl _, Nat.le_refl _, fun h => h, fun _ _ => .inr rfl, fun _ _ _ => rfl, fun ι H H' w a hW hf ho hA hB h1 h2 => ?_⟩
  obtain ⟨vc, he, hv⟩ := hr ι H w a hW ho hA
  rw [he]
  refine Post.pure (hW.weaken fun id b hb => ?_) hv
  by_cases hid : id ∈ wr
  · rw [h1 id (.inl hid)] at hb; exact hA id (hsub id hid) b hb
  · rw [h2 id hid (by omega)] at hb; exact hb
theorem app1_eq {e z sl n : Nat} {s : AV} {old new : Option (List AV)} (he : app1 P e z sl n s h old new = .val v h') :
    ∃ ol nw i zv, old = some ol ∧ new = some nw ∧ P.info? e = some i ∧ i.zero = some zv ∧ sl + n ≤ 65536 ∧ i.bytes ≤ 65536 ∧ allSc nw = true ∧ 1 ≤ z ∧ zv.cells.size = z ∧ v = .slc h.nx 0 (sl + n) (.r z) ∧ h' = newBlk (killed h s) (.cells (ol ++ nw)) := by
  unfold app1 at he
  split at he
  · cases he
  · rename_i ol
    split at he
    · cases he
    · rename_i nw
      split at he
      · cases he
      · rename_i i hi
        split at he
        · cases he
        · rename_i zv hzv
          simp only [ble_eq, beqN_eq] at he
          cases hb : (decide (sl + n ≤ 65536) && decide (i.bytes ≤ 65536) && allSc nw && decide (1 ≤ z) && decide (lenL (cellsOf (toAV zv)) = z)) with
          | false => rw [hb] at he; cases he
          | true =>
            rw [hb] at he
            simp only [Bool.and_eq_true, decide_eq_true_eq] at hb
            obtain ⟨a, b⟩ := val_inj (show Ro.val (.slc h.nx 0 (sl + n) (.r z)) (newBlk (killed h s) (.cells (appL ol nw))) = .val v h' from he)
            rw [appL_eq] at b
            have hzs : zv.cells.size = z := by
              rw [← hb.2, lenL_eq, ((VRs.iff _ _).1 (toAV_cells (fun _ => none) zv)).1, Array.length_toList]
            exact ⟨ol, nw, i, zv, rfl, rfl, hi, hzv, hb.1.1.1.1, hb.1.1.1.2, hb.1.1.2, hb.1.2, hzs, a.symm, b.symm⟩
/-- The row that is made where a slice grows. -/
theorem grown_row {old new : List AV} {olds news : List Value} (ho : VRs ι old olds) (hn : VRs ι new news) (rest : Array Value) (j : Nat) (a : AV) (u : Value) (ha : (old ++ new)[j]? = some a) (hu : ((olds ++ news).toArray ++ rest)[j]? = some u) : VR ι a u := by
  obtain ⟨h1, h2⟩ := (VRs.iff _ _).1 ho
  obtain ⟨h3, h4⟩ := (VRs.iff _ _).1 hn
  have hj := lt_of_some ha
  rw [List.length_append] at hj
  have hu' : (olds ++ news)[j]? = some u := by
    rw [Array.getElem?_append, if_pos (by simp; omega)] at hu
    simpa using hu
  rw [List.getElem?_append] at ha hu'
  by_cases hlt : j < old.length
  · rw [if_pos hlt] at ha
    rw [if_pos (by omega)] at hu'
    exact h2 j a u ha hu'
  · rw [if_neg hlt] at ha
    rw [if_neg (by omega)] at hu'
    rw [h1] at ha
    exact h4 _ a u ha hu'
theorem grow_post {H H' : Hf} {n nx wm sl gc z : Nat} {ol nw : List AV} {olds news : List Value} {zv : Value} {el : TypeId} (hW : WR ι H w) (hf : Free ι nx (nx + 1)) (ho : VRs ι ol olds) (hol : ol.length = sl * z) (hn : VRs ι nw news) (hnl : news.length = n * z)
    (hg : sl + n ≤ gc) (hz : zv.cells.size = z) (hn' : H' nx = some (.cells (ol ++ nw))) (hold : ∀ id, id ≠ nx → H' id = H id ∨ (H' id = some .dead ∧ ∃ b', H id = some b')) :
    Post ι H' nx (nx + 1) wm w (.slc nx 0 (sl + n) (.r z)) (.slice (some ⟨w.heap.size, 0, none⟩) (sl + n) gc) (w.drew.alloc (.cells ((olds ++ news).toArray ++ Builtin.zeroCells zv.cells (gc - (sl + n))) el)) := by
  have hN := NewW.drewAlloc w ((olds ++ news).toArray ++ Builtin.zeroCells zv.cells (gc - (sl + n))) el
  have h1 := ((VRs.iff _ _).1 ho).1
  have h2 := ((VRs.iff _ _).1 hn).1
  have hsz : ((olds ++ news).toArray ++ Builtin.zeroCells zv.cells (gc - (sl + n))).size = gc * z := by
    rw [Array.size_append, size_zeroCells, hz]
    simp only [List.size_toArray, List.length_append]
    rw [← h1, hol, hnl, ← Nat.add_mul, ← Nat.add_mul, Nat.add_sub_cancel' hg]
  have hle := put1_le (l := ⟨w.heap.size, 0, ((olds ++ news).toArray ++ Builtin.zeroCells zv.cells (gc - (sl + n))).size⟩) hf.one
  refine Post.new hW hN hf hn' hold ⟨cells_new hN.new ?_ (fun j b u hb hu => grown_row (VRs.mono hle _ _ ho) (VRs.mono hle _ _ hn) _ j b u hb hu), room_new hN.new, frozen_new hN.new⟩ (VR.slc.2 ⟨_, 0, gc, put1_at, rfl, fun _ => rfl, hg, fun _ => ?_⟩)
  · rw [hsz, List.length_append, hol, h2, hnl, ← Nat.add_mul]
    exact Nat.mul_le_mul_right z hg
  · rw [hsz]; show 0 + gc * z ≤ gc * z; omega
theorem bAppend_ok {s x : AV} {t u : TypeId} (hop : o.op = .call c) (hb : c.callee = .builtin .append) (ha : mapL (opd tm) c.args.toList = [s, x]) (ht : c.argTypes.toList = [t, u]) (e : bAppend P t u s x h = .val v h') :
    OpOk P o tm h h' v (idsOf s ++ idsOf x) (idsOf s) := by
  obtain ⟨y, q, hy, hs, hx⟩ := list2 ha
  have hargs := arr_of_list hy
  have htys := arr_of_list ht
  have run : ∀ (a : Act) (w : World), (execOp a.eval o).run P w = ((Builtin.append_ #[t, u] o.type #[a.eval y, a.eval q]).run P w).andThen fun v w => .ok (.value v) w := by
    intro a w
    simp [execOp, hop, resolve, hb, invoke, builtin, hargs, htys]
  have opr : ∀ {ι : Emb} {a : Act}, Opr ι tm a o → VR ι s (a.eval y) ∧ VR ι x (a.eval q) := fun ho => by
    have := bi_opr hop hb ho
    rw [hy] at this
    exact ⟨hs ▸ this y (by simp), hx ▸ this q (by simp)⟩
  unfold bAppend at e
  split at e
  · cases e
  · rename_i el hel
    have hu := sliceElem_eq hel
    split at e
    · cases e
    · rename_i z hz
      split at e
      · cases e
      · rename_i n hn
        split at e
        · cases e
        · rename_i sl hsl
          cases hq : isSeq (P.underlying u) with
          | false => rw [hq] at e; cases e
          | true =>
            rw [hq, beqN_eq] at e
            simp only [cond_true] at e
            by_cases h0 : n = 0
            · subst h0
              rw [decide_eq_true rfl] at e
              obtain ⟨rfl, rfl⟩ := keepS_eq e
              refine OpOk.pureW (fun id hid => List.mem_append.2 (.inl hid)) fun ι H w a hW ho hA => ?_
              obtain ⟨h1, h2⟩ := opr ho
              refine ⟨a.eval y, ?_, h1⟩
              unfold keepS at e
              split at e
              · rename_i id off len cap
                obtain ⟨l, p, k, hl, hv, hc, hcap⟩ := VR.slc.1 h1
                have hlc : len ≤ k := by cases cap <;> simp [capR] at hcap <;> omega
                rw [run, hv, append_none hu hz hq h2 hn hlc]
                rfl
              · have hv := VR.nils.1 h1
                rw [run, hv, append_none hu hz hq h2 hn (Nat.le_refl 0)]
                rfl
              · cases e
            · rw [decide_eq_false h0] at e
              obtain ⟨ol, nw, i, zv, ho1, hn1, hi, hzv, hle, hby, hsc, hz1, hzs, rfl, rfl⟩ := app1_eq (show app1 P el z sl n s h (oldOf h z s) (newOf h z n x (P.underlying u)) = .val v h' from e)
              obtain ⟨i', hi', hsz⟩ := szOf_eq hz
              rw [hi] at hi'
              have := Option.some.inj hi'
              subst this
              have h48 : (sl + n) * i.bytes ≤ 140737488355328 := by
                have := Nat.mul_le_mul hle hby
                omega
              cases s with
              | nils =>
                have := Option.some.inj (show some [] = some ol from ho1)
                subst this
                have := Option.some.inj (show some 0 = some sl from hsl)
                subst this
                have hget : ∀ k, (newBlk h (.cells ([] ++ nw))).h.get k = if k = h.nx then some (.cells ([] ++ nw)) else h.h.get k := fun k => Tr.get_set _ _ _ _
                refine ⟨Nat.le_succ _, Nat.le_refl _, fun hB k b hk => ?_, fun _ h => (by cases h), fun k g1 g2 => ?_, fun ι H H' w a hW hf ho hA hB g1 g2 => ?_⟩
                · have hk' : (newBlk h (.cells ([] ++ nw))).h.get k = some b := hk
                  rw [hget] at hk'
                  show k < h.nx + 1
                  by_cases e1 : k = h.nx
                  · omega
                  · rw [if_neg e1] at hk'; have := hB k b hk'; omega
                · have g2' : ¬ (h.nx ≤ k ∧ k < h.nx + 1) := g2
                  show (newBlk h (.cells ([] ++ nw))).h.get k = _
                  rw [hget, if_neg (by omega)]
                have hn' : H' h.nx = some (.cells ([] ++ nw)) := by
                  rw [g1 h.nx (.inr ⟨Nat.le_refl _, Nat.lt_succ_self _⟩)]
                  show (newBlk h (.cells ([] ++ nw))).h.get h.nx = _
                  rw [hget, if_pos rfl]
                have hold : ∀ id, id ≠ h.nx → H' id = H id ∨ (H' id = some .dead ∧ ∃ b', H id = some b') := fun id hid => .inl (g2 id (by simp [idsOf]) (by show ¬ (h.nx ≤ id ∧ id < h.nx + 1); omega))
                obtain ⟨h1, h2⟩ := opr ho
                have hv := VR.nils.1 h1
                obtain ⟨news, g1, g2⟩ := newSrc hW (fun id hid => hA id (by simpa [idsOf] using hid)) h2 hn hn1 hsc
                rw [← hsz] at g2
                have hr := run_append_grow_src (P := P) w t u o.type el i zv hu hi hzv none 0 0 [] (by simp [Builtin.firstCells]) (a.eval q) n news g2 (by omega) (by omega) (growslice_fits (by omega) h48)
                have hge := grownCap_ge w (0 + n) 0 el
                have hP : Post ι H' h.nx (h.nx + 1) h.wm w (.slc h.nx 0 (0 + n) (.r z)) (.slice (some ⟨w.heap.size, 0, none⟩) (0 + n) (grownCap w (0 + n) 0 el)) _ :=
                  grow_post (zv := zv) (el := el) hW hf (VRs.nil.2 rfl) (by simp) g1 (by rw [g2.newsLen, hsz]) hge hzs hn' hold
                rw [run, hv, hr]
                exact hP
              | slc id off len cap =>
                have := Option.some.inj (show some len = some sl from hsl)
                subst this
                have ho2 : (match wblk h id with | some cs => bif roomOk z off cs cap then slab cs off (len * z) else none | none => none) = some ol := ho1
                split at ho2
                · rename_i cs hcs
                  cases hro : roomOk z off cs cap with
                  | false => rw [hro] at ho2; cases ho2
                  | true =>
                    rw [hro] at ho2
                    simp only [cond_true] at ho2
                    have hget := wrB_eq hcs
                    have hg2 : ∀ k, (newBlk (killed h (.slc id off len cap)) (.cells (ol ++ nw))).h.get k = if k = h.nx then some (.cells (ol ++ nw)) else if k = id then some .dead else h.h.get k := by
                      intro k
                      show (Tr.set (Tr.set h.h id .dead) h.nx (.cells (ol ++ nw))).get k = _
                      rw [Tr.get_set, Tr.get_set]
                    refine ⟨Nat.le_succ _, (wrBlk_wm h id .dead).2, fun hB k b hk => ?_, fun k hk => .inl (by rw [List.mem_singleton.1 hk]; exact (wrBlk_wm h id .dead).1), fun k h1 h2 => ?_, fun ι H H' w a hW hf ho hA hB h1 h2 => ?_⟩
                    · rw [hg2] at hk
                      show k < h.nx + 1
                      by_cases e1 : k = h.nx
                      · omega
                      · rw [if_neg e1] at hk
                        by_cases e2 : k = id
                        · subst e2; have := hB k _ hget; omega
                        · rw [if_neg e2] at hk; have := hB k b hk; omega
                    · have h2' : ¬ (h.nx ≤ k ∧ k < h.nx + 1) := h2
                      rw [hg2, if_neg (by omega), if_neg (by simpa [idsOf] using h1)]
                    · obtain ⟨q1, q2⟩ := opr ho
                      have hidlt := hB id _ hget
                      obtain ⟨l, p, k, hl, hv, hc, hcap⟩ := VR.slc.1 q1
                      have hAx : ∀ id' ∈ idsOf x, ∀ b, h.h.get id' = some b → H id' = some b := fun id' hid => hA id' (List.mem_append.2 (.inr hid))
                      have hHid := hA id (List.mem_append.2 (.inl (by simp [idsOf]))) _ hget
                      obtain ⟨news, g1, g2⟩ := newSrc hW hAx q2 hn hn1 hsc
                      rw [← hsz] at g2
                      obtain ⟨⟨r1, r2⟩, r3, r4⟩ := hW.blk id l _ hl hHid
                      obtain ⟨olds, o1, o2, o3⟩ := slab_list ⟨r1, r2⟩ ho2
                      have hH1 : H' h.nx = some (.cells (ol ++ nw)) := by rw [h1 h.nx (.inr ⟨Nat.le_refl _, Nat.lt_succ_self _⟩), hg2, if_pos rfl]
                      have hH2 : H' id = some .dead := by rw [h1 id (.inl (by simp [idsOf])), hg2, if_neg (by omega), if_pos rfl]
                      have hH3 : ∀ k, k ≠ id → k ≠ h.nx → H' k = H k := fun k e1 e2 => h2 k (by simpa [idsOf] using e1) (by show ¬ (h.nx ≤ k ∧ k < h.nx + 1); omega)
                      have hlc : len ≤ k := by cases cap <;> simp [capR] at hcap <;> omega
                      have hpos : 0 < k → off + k * z ≤ l.n := by
                        intro hk
                        cases cap with
                        | k kk =>
                          obtain ⟨rfl, _⟩ := hcap
                          have : off + k * z ≤ lenL cs := by simpa [roomOk] using hro
                          rw [lenL_eq] at this
                          omega
                        | r zz =>
                          have hzz : z = zz := by simpa [roomOk] using hro
                          subst hzz
                          exact hcap.2 hk
                      have h2p := (slab_eq ho2).1
                      by_cases hroom : len + n ≤ k
                      · have hp := hc (by omega)
                        subst hp
                        have hfit := hpos (by omega)
                        have hmz : (len + n) * z ≤ k * z := Nat.mul_le_mul_right z hroom
                        rw [Nat.add_mul] at hmz
                        have hnl : news.length = n * z := by rw [g2.newsLen, hsz]
                        have hr := run_append_room_src (P := P) w t u o.type el i hu hi l.b (l.d + off) len k (a.eval q) n news g2 hroom (fun j hj => by
                          rw [hsz]
                          have := r3 (off + len * z + j) (by omega)
                          rwa [← Nat.add_assoc, ← Nat.add_assoc] at this) (fun j hj => r4 _)
                        rw [hsz] at hr
                        rw [run, hv, hr]
                        exact Post.growIn hW hf hl hHid ho2 g1 (by rw [((VRs.iff _ _).1 g1).1, hnl]) hroom hfit (wrBlk_wm h id .dead).1 hidlt hH1 hH2 hH3
                      · have hold : (Builtin.firstCells i.size len (.slice (some ⟨l.b, p, none⟩) len k)).run P w.drew = .ok olds.toArray w.drew := by
                          rw [hsz]
                          refine run_firstCells_some w.drew z len ⟨l.b, p, none⟩ len k olds o1 (fun j b hb => ?_)
                          have hj := lt_of_some hb
                          have hp := hc (by
                            rcases Nat.eq_zero_or_pos len with h0 | h0
                            · subst h0; rw [Nat.zero_mul] at o1; omega
                            · omega)
                          rw [Addr.add_lit, hp]
                          exact o3 j b hb
                        have hr := run_append_grow_src (P := P) w t u o.type el i zv hu hi hzv (some ⟨l.b, p, none⟩) len k olds hold (a.eval q) n news g2 (by omega) (by omega) (growslice_fits (by omega) h48)
                        rw [run, hv, hr]
                        exact grow_post (zv := zv) (el := el) hW hf o2 h2p g1 (by rw [g2.newsLen, hsz]) (grownCap_ge w (len + n) k el) hzs hH1 (fun k e1 => by
                          by_cases e2 : k = id
                          · subst e2; exact .inr ⟨hH2, _, hHid⟩
                          · exact .inl (hH3 k e2 e1))
                · cases ho2
              | str s => cases ho1
              | _ => cases hsl
end
end Go.Proofs.YtnbnoacadhoimaaGreatDoor.Ax
