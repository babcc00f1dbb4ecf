/- The reference's checks of hours and climates. -/
import Derived.Test.YtnbnoacadhoimaaGreatDoorYeG
import Derived.Test.YtnbnoacadhoimaaGreatDoorDaG
import Derived.Test.YtnbnoacadhoimaaGreatDoorCjG
set_option linter.unusedSimpArgs false
set_option linter.unusedVariables false
set_option maxRecDepth 100000
set_option maxHeartbeats 8000000
namespace Go.Proofs.YtnbnoacadhoimaaGreatDoor
open Go Go.RowKit

section
variable {w : World}
theorem rhour_is {t u : Int} {r : Bool} (hr : hourB (t, u) = r) : Calls Tryz.prog 68 #[.agg #[.int .i64 t, .int .i64 u]] w fun e w' => e = .returned (.bool r) ∧ Below w.heap.size w w' := by
  obtain ⟨b1, h1⟩ : ∃ b, tmpB t = b := ⟨_, rfl⟩
  obtain ⟨b2, h2⟩ : ∃ b, humB u = b := ⟨_, rfl⟩
  have F1 := qh (fun W => rwithin_ok (w := W) (n := t) (a := -600) (b := 1000) h1)
  have F2 := qh (fun W => rwithin_ok (w := W) (n := u) (a := 0) (b := 100) h2)
  have hb : hourB (t, u) = (b1 && b2) := by unfold hourB; rw [← h1, ← h2]
  rw [hb] at hr
  subst hr
  clear hb h1 h2
  go_enter Tryz.func68, Tryz.ntmps68
  cases b1
  all_goals go_wp2_with (first | (go_at_call 51; (with_reducible show Calls _ _ #[.int .i64 t, .int .i64 (-600), .int .i64 1000] _ _); (with_reducible refine mo1 w (F1.out _) (by go_size) fun w1 hb1 hc1 hf1 hz1_0 _ => ?_)) | (go_at_call 51; (with_reducible show Calls _ _ #[.int .i64 u, .int .i64 0, .int .i64 100] _ _); (with_reducible refine mo1 w (F2.out _) (by go_size) fun w2 hb2 hc2 hf2 hz2_0 _ => ?_)))
  all_goals go_ret
  all_goals exact ⟨by simp, bi⟩
theorem rsuits_ok {h : Hr} {c : Clim} {r : Bool} (hr : suitB h c = r) : Calls Tryz.prog 29 #[hrv h, clv c] w fun e w' => e = .returned (.bool r) ∧ Below w.heap.size w w' := by
  obtain ⟨t, u⟩ := h
  obtain ⟨c1, c2, c3, c4⟩ := c
  obtain ⟨b1, h1⟩ : ∃ b, inB t c1 c2 = b := ⟨_, rfl⟩
  obtain ⟨b2, h2⟩ : ∃ b, inB u c3 c4 = b := ⟨_, rfl⟩
  have F1 := qh (fun W => rwithin_ok (w := W) h1)
  have F2 := qh (fun W => rwithin_ok (w := W) h2)
  have hb : suitB (t, u) ⟨c1, c2, c3, c4⟩ = (b1 && b2) := by unfold suitB; rw [← h1, ← h2]; rfl
  rw [hb] at hr
  subst hr
  clear hb h1 h2
  go_enter Tryz.func29, Tryz.ntmps29
  cases b1
  all_goals go_wp2_with (first | (go_at_call 51; (with_reducible show Calls _ _ #[.int .i64 t, .int .i64 c1, .int .i64 c2] _ _); (with_reducible refine mo2 w (F1.out _) (by go_size) fun w1 hb1 hc1 hf1 hz1_0 hz1_1 _ => ?_)) | (go_at_call 51; (with_reducible show Calls _ _ #[.int .i64 u, .int .i64 c3, .int .i64 c4] _ _); (with_reducible refine mo2 w (F2.out _) (by go_size) fun w2 hb2 hc2 hf2 hz2_0 hz2_1 _ => ?_)))
  all_goals go_ret
  all_goals exact ⟨by simp, bi⟩
theorem rclimate_ok {c : Clim} {k : Int} (hk : climE c = k) : Calls Tryz.prog 25 #[clv c] w fun e w' => e = .returned (.int .i64 k) ∧ Below w.heap.size w w' := by
  obtain ⟨c1, c2, c3, c4⟩ := c
  obtain ⟨b1, h1⟩ : ∃ b, tmpB c1 = b := ⟨_, rfl⟩
  obtain ⟨b2, h2⟩ : ∃ b, tmpB c2 = b := ⟨_, rfl⟩
  obtain ⟨b3, h3⟩ : ∃ b, humB c3 = b := ⟨_, rfl⟩
  obtain ⟨b4, h4⟩ : ∃ b, humB c4 = b := ⟨_, rfl⟩
  obtain ⟨o1, h5⟩ : ∃ b, decide (c2 < c1) = b := ⟨_, rfl⟩
  obtain ⟨o2, h6⟩ : ∃ b, decide (c4 < c3) = b := ⟨_, rfl⟩
  have F1 := qh (fun W => rwithin_ok (w := W) (n := c1) (a := -600) (b := 1000) h1)
  have F2 := qh (fun W => rwithin_ok (w := W) (n := c2) (a := -600) (b := 1000) h2)
  have F3 := qh (fun W => rwithin_ok (w := W) (n := c3) (a := 0) (b := 100) h3)
  have F4 := qh (fun W => rwithin_ok (w := W) (n := c4) (a := 0) (b := 100) h4)
  unfold climE climR climO at hk
  dsimp only at hk
  rw [h1, h2, h3, h4, h5, h6] at hk
  clear h1 h2 h3 h4
  go_enter Tryz.func25, Tryz.ntmps25
  have hq : (b1 = false ∧ k = 3) ∨ (b1 = true ∧ b2 = false ∧ k = 3) ∨ (b1 = true ∧ b2 = true ∧ b3 = false ∧ k = 3) ∨ (b1 = true ∧ b2 = true ∧ b3 = true ∧ b4 = false ∧ k = 3) ∨ (b1 = true ∧ b2 = true ∧ b3 = true ∧ b4 = true ∧ o1 = true ∧ k = 11) ∨ (b1 = true ∧ b2 = true ∧ b3 = true ∧ b4 = true ∧ o1 = false ∧ o2 = true ∧ k = 11) ∨ (b1 = true ∧ b2 = true ∧ b3 = true ∧ b4 = true ∧ o1 = false ∧ o2 = false ∧ k = 0) := by
    rw [← hk]
    cases b1 <;> cases b2 <;> cases b3 <;> cases b4 <;> cases o1 <;> cases o2 <;> decide
  clear hk
  rcases hq with ⟨rfl, rfl⟩ | ⟨rfl, rfl, rfl⟩ | ⟨rfl, rfl, rfl, rfl⟩ | ⟨rfl, rfl, rfl, rfl, rfl⟩ | ⟨rfl, rfl, rfl, rfl, rfl, rfl⟩ | ⟨rfl, rfl, rfl, rfl, rfl, rfl, rfl⟩ | ⟨rfl, rfl, rfl, rfl, rfl, rfl, rfl⟩
  all_goals go_wp2_with (first | (go_at_call 51; (with_reducible show Calls _ _ #[.int .i64 c1, .int .i64 (-600), .int .i64 1000] _ _); (with_reducible refine mo1 w (F1.out _) (by go_size) fun w1 hb1 hc1 hf1 hz1_0 _ => ?_)) | (go_at_call 51; (with_reducible show Calls _ _ #[.int .i64 c2, .int .i64 (-600), .int .i64 1000] _ _); (with_reducible refine mo1 w (F2.out _) (by go_size) fun w2 hb2 hc2 hf2 hz2_0 _ => ?_)) | (go_at_call 51; (with_reducible show Calls _ _ #[.int .i64 c3, .int .i64 0, .int .i64 100] _ _); (with_reducible refine mo1 w (F3.out _) (by go_size) fun w3 hb3 hc3 hf3 hz3_0 _ => ?_)) | (go_at_call 51; (with_reducible show Calls _ _ #[.int .i64 c4, .int .i64 0, .int .i64 100] _ _); (with_reducible refine mo1 w (F4.out _) (by go_size) fun w4 hb4 hc4 hf4 hz4_0 _ => ?_)))
  all_goals go_ret
  all_goals exact ⟨rfl, bi⟩
variable {A : Option Addr} {n cap : Nat} {hs : List Hr}
theorem rhours_ok {r : Int} (h : Hv w A n hs) (hn : n ≤ 100000) (hr : hoursE hs = r) : Calls Tryz.prog 24 #[.slice A n cap] w fun e w' => e = .returned (.int .i64 r) ∧ Below w.heap.size w w' := by
  have H := qh h
  unfold hoursE at hr
  rw [h.len] at hr
  by_cases hb : 1000 < n
  · rw [if_pos hb] at hr
    subst hr
    have p0 : decide (1000 < n) = true := by simpa using hb
    clear h
    go_enter Tryz.func24, Tryz.ntmps24
    go_wp2
    go_ret
    exact ⟨rfl, bi⟩
  · rw [if_neg hb] at hr
    have p0 : decide (1000 < n) = false := by simpa using hb
    have HN := qh (show n ≤ 1000 by omega)
    have HR := qh hr
    clear h hr
    go_enter Tryz.func24, Tryz.ntmps24
    go_wp2
    clear p0 hb
    go_loopw [3] (fun u wr => ∃ (i : Nat), u = .int .i64 (i : Int) ∧ i ≤ n ∧ Below w.heap.size w wr ∧ (if ((hs.drop i).any fun h => !hourB h) then (3 : Int) else 0) = r) (fun u _ => n - (intOf u).toNat)
    case atStart => exact ⟨0, rfl, Nat.zero_le _, bi, HR.out⟩
    case round =>
      obtain ⟨i, rfl, hin, hb, hc⟩ := hrel
      have _ := bm hb
      have hnn := HN.out
      by_cases hi : i < n
      · have p0 : decide (i < n) = true := by simpa using hi
        obtain ⟨b, o, rfl, hbl, hat⟩ := (H.out.below hb).at_ (by omega)
        obtain ⟨k0, k1⟩ := hat i (by rw [H.out.len]; exact hi)
        rw [drop_hr (by rw [H.out.len]; exact hi), List.any_cons] at hc
        obtain ⟨⟨t, u⟩, hx⟩ : ∃ x, hs.getD i (0, 0) = x := ⟨_, rfl⟩
        rw [hx] at k0 k1 hc
        dsimp only at k0 k1
        clear hat hx
        obtain ⟨f, hf⟩ : ∃ f, hourB (t, u) = f := ⟨_, rfl⟩
        rw [hf] at hc
        have HF := qh hf
        clear hf
        cases f with
        | false =>
          rw [show ((!false) || _) = true from rfl, if_pos rfl] at hc
          subst hc
          go_wp2_with (go_at_call 68; (with_reducible refine mo0 (rhour_is HF.out) fun w1 hb1 hc1 hf1 _ => ?_))
          go_ret
          exact ⟨rfl, bi⟩
        | true =>
          rw [Bool.not_true, Bool.false_or] at hc
          have HC := qh hc
          clear hc
          go_wp2_with (go_at_call 68; (with_reducible refine mo0 (rhour_is HF.out) fun w1 hb1 hc1 hf1 _ => ?_))
          go_roundw
          case rel => exact ⟨i + 1, by simp, by omega, bi, HC.out⟩
          case measure => simp [intOf]; omega
      · have : i = n := by omega
        subst this
        have p0 : decide (i < i) = false := by simp
        rw [List.drop_eq_nil_of_le (by rw [H.out.len]; exact Nat.le_refl _)] at hc
        have hR : r = 0 := hc.symm
        subst hR
        clear hc
        go_wp2
        go_ret
        exact ⟨rfl, bi⟩
theorem hv1 {W : World} {b : Nat} {T : TypeId} {t u : Int} (hb : W.heap.size = b) : Hv (W.alloc (.cells #[.int .i64 t, .int .i64 u] T)) (some ⟨b, 0, none⟩) 1 [(t, u)] := by
  subst hb
  exact ⟨rfl, fun _ => ⟨W.heap.size, 0, rfl, by simp, fun j hj => by
    have : j = 0 := by simp at hj; omega
    subst this
    exact ⟨by simp, by simp⟩⟩⟩
theorem rhour_ok {h : Hr} {r : Int} (hr : (if !hourB h then (3 : Int) else 0) = r) : Calls Tryz.prog 28 #[hrv h] w fun e w' => e = .returned (.int .i64 r) ∧ Below w.heap.size w w' := by
  obtain ⟨t, u⟩ := h
  have HR : Hid (hoursE [(t, u)] = r) := by
    show _ = _
    rw [← hr]
    unfold hoursE
    simp
  clear hr
  go_enter Tryz.func28, Tryz.ntmps28
  go_wp2_with (go_at_call 24; (with_reducible refine mo0 (rhours_ok (hv1 (by simp)) (by omega) HR.out) fun w1 hb1 hc1 hf1 _ => ?_))
  go_ret
  exact ⟨rfl, bi⟩
end

def winR : Option Nat → Int
  | some i => (i : Int)
  | none => -1
section
variable {w : World} {A : Option Addr} {n cap : Nat} {hs : List Hr} {c : Clim}
theorem rwindow_ok {m : Nat} {R : Option Nat} (h : Hv w A n hs) (hn : n ≤ 1000) (hm : m < 9223372036854775808) (h1 : 1 ≤ m) (hR : winL hs c m (n + 1) 0 = R) : Calls Tryz.prog 31 #[.slice A n cap, clv c, .int .i64 (m : Int)] w fun e w' => e = .returned (.int .i64 (winR R)) ∧ Below w.heap.size w w' := by
  obtain ⟨r, hr⟩ : ∃ r, winR R = r := ⟨_, rfl⟩
  rw [hr]
  have HRR := qh hr
  have H := qh h
  have HL := qh h.len
  have HM := qh (And.intro hn (And.intro hm (And.intro h1 hR)))
  have e0 : IntKind.i64.wrap ((n : Int) - (m : Int)) = (n : Int) - (m : Int) := by simp [IntKind.wrap, IntKind.bits, IntKind.signed]; omega
  clear hr h hn hm h1 hR
  go_enter Tryz.func31, Tryz.ntmps31
  go_wp2
  obtain ⟨V, hV⟩ : ∃ V, w.alloc (.cells #[.int .i64 c.c, .int .i64 c.m, .int .i64 c.d, .int .i64 c.p] 50) = V := ⟨_, rfl⟩
  have bV : Below w.heap.size w V := by rw [← hV]; exact bi
  have u2 : V.cell? ⟨w.heap.size, 0, none⟩ = some (.int .i64 c.c) := by rw [← hV]; simp [go_sem]
  have u3 : V.cell? ⟨w.heap.size, 1, none⟩ = some (.int .i64 c.m) := by rw [← hV]; simp [go_sem]
  have u4 : V.cell? ⟨w.heap.size, 2, none⟩ = some (.int .i64 c.d) := by rw [← hV]; simp [go_sem]
  have u5 : V.cell? ⟨w.heap.size, 3, none⟩ = some (.int .i64 c.p) := by rw [← hV]; simp [go_sem]
  have y1 : w.heap.size < V.heap.size := by rw [← hV]; simp
  rw [hV]
  clear hV
  replace H := qh (H.out.below bV)
  go_loopw [7] (fun u wr => ∃ (i : Nat), u = .int .i64 (i : Int) ∧ i ≤ n ∧ Below V.heap.size V wr ∧ winL hs c m (n + 1 - i) i = R) (fun u _ => n - (intOf u).toNat)
  case atStart => exact ⟨0, rfl, Nat.zero_le _, Below.refl _ _, HM.out.2.2.2⟩
  case round =>
    obtain ⟨i, rfl, hin, hb, hw⟩ := hrel
    have _ := bm hb
    rename World => wo
    have hm := HM.out
    have hl := HL.out
    rw [show n + 1 - i = (n - i) + 1 by omega, winL] at hw
    by_cases hfit : i + m ≤ n
    · have p1 : decide ((i : Int) ≤ (n : Int) - (m : Int)) = true := by rw [decide_eq_true_iff]; omega
      rw [if_pos (by omega)] at hw
      have HIW := qh hw
      clear hw
      obtain ⟨b, o, rfl, hbl, hat⟩ := (H.out.below hb).at_ (by omega)
      have HAT := qh (And.intro hbl hat)
      clear hat hbl
      obtain ⟨j, hj⟩ : ∃ j, i + m = j := ⟨_, rfl⟩
      have e2 : IntKind.i64.wrap ((i : Int) + (m : Int)) = (j : Int) := by simp [IntKind.wrap, IntKind.bits, IntKind.signed]; omega
      have ei : IntKind.i64.wrap ((i : Int) + 1) = ((i + 1 : Nat) : Int) := by simp [IntKind.wrap, IntKind.bits, IntKind.signed]; omega
      have HB := qh (And.intro hj (And.intro hfit (And.intro hm hin)))
      clear hj hfit hm hin hl
      go_wp2
      clear p1 e0
      go_loopw [8, 9] (fun f u wr => ∃ (g : Bool) (k : Nat), f = .bool g ∧ u = .int .i64 (k : Int) ∧ i ≤ k ∧ k ≤ j ∧ Below wo.heap.size wo wr ∧ runB hs c i m = (g && ((hs.drop k).take (j - k)).all fun h => suitB h c)) (fun _ u _ => j - (intOf u).toNat)
      case atStart => exact ⟨true, i, rfl, rfl, Nat.le_refl _, by have := HB.out; omega, Below.refl _ _, by rw [Bool.true_and, show j - i = m by have := HB.out; omega]; rfl⟩
      case round =>
        obtain ⟨g, k, rfl, rfl, hik, hkm, hbk, hrun⟩ := hrel
        have _ := bm hbk
        have hB := HB.out
        have hl := HL.out
        by_cases hk : k < j
        · have q0 : decide (k < j) = true := by simpa using hk
          rw [drop_hr (show k < hs.length by omega), show j - k = (j - (k + 1)) + 1 by omega, List.take_succ_cons, List.all_cons] at hrun
          have ek : IntKind.i64.wrap ((k : Int) + 1) = ((k + 1 : Nat) : Int) := by simp [IntKind.wrap, IntKind.bits, IntKind.signed]; omega
          obtain ⟨k0, k1⟩ := HAT.out.2 k (by omega)
          obtain ⟨⟨t, u⟩, hx⟩ : ∃ x, hs.getD k (0, 0) = x := ⟨_, rfl⟩
          rw [hx] at k0 k1 hrun
          dsimp only at k0 k1
          have hbl := HAT.out.1
          replace k0 := cell_on hbk k0
          replace k1 := cell_on hbk k1
          have hbw := below_step hb hbk
          have c2 := cell_on hbw u2
          have c3 := cell_on hbw u3
          have c4 := cell_on hbw u4
          have c5 := cell_on hbw u5
          have y2 := Nat.lt_of_lt_of_le y1 hbw.size
          have hbl2 := Nat.lt_of_lt_of_le hbl hbk.size
          have hkn : k < n := by omega
          clear hx
          obtain ⟨f, hf⟩ : ∃ f, suitB (t, u) c = f := ⟨_, rfl⟩
          rw [hf] at hrun
          have HF := qh hf
          have HRUN := qh (And.intro hrun (And.intro hik hk))
          clear hf hrun hB hkm hik hk hl
          cases g with
          | true =>
            go_upto_region 8 with (fail)
            refine wp_region_T (fun w' => Below wr.heap.size wr w') [] (by kernel_rfl) ?_
            refine tb 0 (.bool true) [1] rfl (by kernel_rfl) pk rfl (by intros; go_simp) bq0 ?_
            simp only [ppq]
            refine tb 1 (.bool true) [8] rfl (by kernel_rfl) pk rfl (by intros; go_simp) bq0 ?_
            simp only [ppq]
            refine tb 2 (.slice (some ⟨b, o, none⟩) n cap) [4] rfl (by kernel_rfl) pk rfl (by intros; go_simp) bq0 ?_
            simp only [ppq]
            refine tb 3 (.int .i64 (k : Int)) [4] rfl (by kernel_rfl) pk rfl (by intros; go_simp) bq0 ?_
            simp only [ppq]
            refine tb 4 (.pointer (some ⟨b, o + k * 2, none⟩)) [5] rfl (by kernel_rfl) pk rfl (by intros; go_simp) bq0 ?_
            simp only [ppq]
            refine tb 5 (hrv (t, u)) [7] rfl (by kernel_rfl) pk rfl (by intros; go_simp) bq0 ?_
            simp only [ppq]
            refine tb 6 (clv c) [7] rfl (by kernel_rfl) pk rfl (by intros; go_simp) bq0 ?_
            simp only [ppq]
            refine rd1 7 (by kernel_rfl) rfl (fun K hK => ?_)
            go_simp
            go_wp2_with (go_at_call 29; (with_reducible refine mo0 (rsuits_ok HF.out) fun w5 hb5 hc5 hf5 _ => ?_))
            have sS5 := qh (bst bq0 hb5)
            refine hK.out _ _ (fun _ => sS5.out) ?_
            clear hK K
            refine rd1 8 (by kernel_rfl) rfl (fun K hK => ?_)
            go_simp
            refine hK.out _ _ (fun _ => bi) ?_
            clear hK K
            refine rd1 9 (by kernel_rfl) rfl (fun K hK => ?_)
            go_simp
            refine hK.out _ _ (fun _ => bi) ?_
            clear hK K
            refine wpAnyT_done (by kernel_rfl) ?_ _
            have hB := HRUN.out
            go_wp2
            refine ⟨⟨f, k + 1, rfl, by simp, by omega, by omega, below_step hbk bi, ?_⟩, by simp [intOf]; omega⟩
            rw [hB.1, Bool.true_and]
          | false =>
            have hB := HRUN.out
            go_upto_region 8 with (fail)
            go_quiet (fail)
            go_wp2
            refine ⟨⟨false, k + 1, rfl, by simp, by omega, by omega, below_step hbk bi, ?_⟩, by simp [intOf]; omega⟩
            rw [hB.1, Bool.false_and, Bool.false_and]
        · have q0 : decide (k < j) = false := by simpa using hk
          obtain rfl : k = j := by omega
          rw [Nat.sub_self, List.take_zero, List.all_nil, Bool.and_true] at hrun
          have hw := HIW.out
          rw [hrun] at hw
          have hbw := below_step hb hbk
          have HBB := qh (And.intro hbw hB)
          clear hbk hkm hik hk hl hB hrun
          cases g with
          | true =>
            rw [if_pos rfl] at hw
            subst hw
            obtain rfl : (i : Int) = r := HRR.out
            go_wp2
            go_ret
            exact ⟨rfl, bst bV HBB.out.1⟩
          | false =>
            rw [if_neg (by simp)] at hw
            have HWW := qh hw
            clear hw
            go_wp2
            have hB := HBB.out.2
            refine ⟨⟨i + 1, by simp, by omega, HBB.out.1, ?_⟩, by simp [intOf]; omega⟩
            rw [show n + 1 - (i + 1) = n - i by omega]
            exact HWW.out
    · have p1 : decide ((i : Int) ≤ (n : Int) - (m : Int)) = false := by rw [decide_eq_false_iff_not]; omega
      rw [if_neg (by omega)] at hw
      subst hw
      obtain rfl : (-1 : Int) = r := HRR.out
      clear hm hl hin hfit
      go_wp2
      go_ret
      exact ⟨rfl, bst bV hb⟩
end

/-- The hour k comes before the hour i. -/
def betB (hs : List Hr) (c : Clim) (i k : Nat) : Bool := suitB (hs.getD k (0, 0)) c && (decide ((hs.getD k (0, 0)).1 < (hs.getD i (0, 0)).1) || (decide ((hs.getD k (0, 0)).1 = (hs.getD i (0, 0)).1) && decide (k < i)))
def betN (hs : List Hr) (c : Clim) (i k : Nat) : Nat := ((List.range k).filter (betB hs c i)).length
theorem betN_succ (hs : List Hr) (c : Clim) (i k : Nat) : betN hs c i (k + 1) = betN hs c i k + (if betB hs c i k then 1 else 0) := by
  unfold betN
  rw [List.range_succ, List.filter_append, List.length_append]
  cases h : betB hs c i k <;> simp [h]
theorem betN_le (hs : List Hr) (c : Clim) (i k : Nat) : betN hs c i k ≤ k := by
  unfold betN
  have := List.length_filter_le (betB hs c i) (List.range k)
  simpa using this
/-- The hours in which the fans run, up to i. -/
def runL (hs : List Hr) (c : Clim) (need : Int) (i : Nat) : List Nat := (List.range i).filter fun j => suitB (hs.getD j (0, 0)) c && decide ((betN hs c j hs.length : Int) < need)
theorem runL_succ (hs : List Hr) (c : Clim) (need : Int) (i : Nat) : runL hs c need (i + 1) = runL hs c need i ++ (if suitB (hs.getD i (0, 0)) c && decide ((betN hs c i hs.length : Int) < need) then [i] else []) := by
  unfold runL
  rw [List.range_succ, List.filter_append]
  congr 1
  simp [List.filter_cons]
theorem runL_le (hs : List Hr) (c : Clim) (need : Int) (i : Nat) : (runL hs c need i).length ≤ i := by
  unfold runL
  have := List.length_filter_le (fun j => suitB (hs.getD j (0, 0)) c && decide ((betN hs c j hs.length : Int) < need)) (List.range i)
  simpa using this
section
variable {w : World} {A : Option Addr} {n cap : Nat} {hs : List Hr} {c : Clim} {need : Int}
theorem rfans_ok (h : Hv w A n hs) (hn : n ≤ 1000) : Calls Tryz.prog 30 #[.slice A n cap, clv c, .int .i64 need] w fun e w' => ∃ v, e = .returned (.tuple #[v, .bool (decide (((runL hs c need n).length : Int) = need))]) ∧ OwnZ w' w.heap.size v (runL hs c need n).length ((runL hs c need n).map Int.ofNat) ∧ Below w.heap.size w w' := by
  obtain ⟨L, hL⟩ : ∃ L, runL hs c need n = L := ⟨_, rfl⟩
  obtain ⟨F, hF⟩ : ∃ F, decide ((L.length : Int) = need) = F := ⟨_, rfl⟩
  rw [hL, hF]
  have HLF := qh (And.intro hL hF)
  clear hL hF
  have H := qh h
  have HL := qh h.len
  have HN := qh hn
  clear h hn
  go_enter Tryz.func30, Tryz.ntmps30
  go_wp2
  obtain ⟨V, hV⟩ : ∃ V, w.alloc (.cells #[.int .i64 c.c, .int .i64 c.m, .int .i64 c.d, .int .i64 c.p] 50) = V := ⟨_, rfl⟩
  have bV : Below w.heap.size w V := by rw [← hV]; exact bi
  have u2 : V.cell? ⟨w.heap.size, 0, none⟩ = some (.int .i64 c.c) := by rw [← hV]; simp [go_sem]
  have u3 : V.cell? ⟨w.heap.size, 1, none⟩ = some (.int .i64 c.m) := by rw [← hV]; simp [go_sem]
  have u4 : V.cell? ⟨w.heap.size, 2, none⟩ = some (.int .i64 c.d) := by rw [← hV]; simp [go_sem]
  have u5 : V.cell? ⟨w.heap.size, 3, none⟩ = some (.int .i64 c.p) := by rw [← hV]; simp [go_sem]
  have y1 : w.heap.size < V.heap.size := by rw [← hV]; simp
  rw [hV]
  clear hV
  replace H := qh (H.out.below bV)
  go_loopw [8, 9] (fun v u wr => ∃ (i nn co : Nat) (Ao : Option Addr), v = .slice Ao nn co ∧ u = .int .i64 (i : Int) ∧ i ≤ n ∧ Below V.heap.size V wr ∧ OwnZ wr V.heap.size (.slice Ao nn co) nn ((runL hs c need i).map Int.ofNat)) (fun _ u _ => n - (intOf u).toNat)
  case atStart => exact ⟨0, 0, 0, none, rfl, rfl, Nat.zero_le _, Below.refl _ _, World.ownsRow_nil _ _ _ _⟩
  case round =>
    obtain ⟨i, nn, co, Ao, rfl, rfl, hin, hb, ho⟩ := hrel
    have _ := bm hb
    rename World => wo
    have hn := HN.out
    have hl := HL.out
    have HO := qh ho
    clear ho
    by_cases hi : i < n
    · have p0 : decide (i < n) = true := by simpa using hi
      have hrl := runL_succ hs c need i
      obtain ⟨b, o, rfl, hbl, hat⟩ := (H.out.below hb).at_ (by omega)
      have HAT := qh (And.intro hbl hat)
      obtain ⟨k0, k1⟩ := hat i (by omega)
      obtain ⟨⟨t, u⟩, hx⟩ : ∃ x, hs.getD i (0, 0) = x := ⟨_, rfl⟩
      rw [hx] at k0 k1 hrl
      have HX := qh hx
      dsimp only at k0 k1
      have c2 := cell_on hb u2
      have c3 := cell_on hb u3
      have c4 := cell_on hb u4
      have c5 := cell_on hb u5
      have y2 := Nat.lt_of_lt_of_le y1 hb.size
      have ei : IntKind.i64.wrap ((i : Int) + 1) = ((i + 1 : Nat) : Int) := by simp [IntKind.wrap, IntKind.bits, IntKind.signed]; omega
      obtain ⟨f, hf⟩ : ∃ f, suitB (t, u) c = f := ⟨_, rfl⟩
      rw [hf] at hrl
      have HF := qh hf
      have HRL := qh hrl
      have HI := qh (And.intro hi hl)
      clear hat hx hf hrl hin hl
      go_upto_region 5 with (fail)
      refine wp_region_T (fun w' => Below wo.heap.size wo w') [] (by kernel_rfl) ?_
      refine tb 0 (.slice (some ⟨b, o, none⟩) n cap) [] rfl (by kernel_rfl) pk rfl (by intros; go_simp) bq0 ?_
      simp only [ppq]
      refine tb 1 (.int .i64 (i : Int)) [] rfl (by kernel_rfl) pk rfl (by intros; go_simp) bq0 ?_
      simp only [ppq]
      refine tb 2 (.pointer (some ⟨b, o + i * 2, none⟩)) [] rfl (by kernel_rfl) pk rfl (by intros; go_simp) bq0 ?_
      simp only [ppq]
      refine tb 3 (hrv (t, u)) [] rfl (by kernel_rfl) pk rfl (by intros; go_simp) bq0 ?_
      simp only [ppq]
      refine tb 4 (clv c) [] rfl (by kernel_rfl) pk rfl (by intros; go_simp) bq0 ?_
      simp only [ppq]
      refine rd1 5 (by kernel_rfl) rfl (fun K hK => ?_)
      go_simp
      go_wp2_with (go_at_call 29; (with_reducible refine mo0 (rsuits_ok HF.out) fun w5 hb5 hc5 hf5 _ => ?_))
      have sS5 := qh (bst bq0 hb5)
      refine hK.out _ _ (fun _ => sS5.out) ?_
      clear hK K
      refine rd1 6 (by kernel_rfl) rfl (fun K hK => ?_)
      go_simp
      refine hK.out _ _ (fun _ => bi) ?_
      clear hK K
      refine wpAnyT_done (by kernel_rfl) ?_ _
      have b5 : Below wo.heap.size wo w5 := bi
      cases f with
      | false =>
        have HB5 := qh (below_step hb b5)
        go_wp2
        have hi := HI.out.1
        have hrl := HRL.out
        rw [Bool.false_and, if_neg (by simp), List.append_nil] at hrl
        exact ⟨⟨i + 1, nn, co, Ao, rfl, by simp, hi, HB5.out, by rw [hrl]; exact OwnZ.below HO.out b5⟩, by simp [intOf]; omega⟩
      | true =>
        clear c2 c3 c4 c5 k0 k1
        have hbw := below_step hb b5
        have d2 := cell_on hbw u2
        have d3 := cell_on hbw u3
        have d4 := cell_on hbw u4
        have d5 := cell_on hbw u5
        go_wp2
        go_loopw [10, 11] (fun v u wr => ∃ (k q : Nat), u = .int .i64 (k : Int) ∧ v = .int .i64 (q : Int) ∧ k ≤ n ∧ q = betN hs c i k ∧ Below w5.heap.size w5 wr) (fun _ u _ => n - (intOf u).toNat)
        case atStart => exact ⟨0, 0, rfl, rfl, Nat.zero_le _, rfl, Below.refl _ _⟩
        case round =>
          obtain ⟨k, q, rfl, rfl, hkn, hq, hbk⟩ := hrel
          have _ := bm hbk
          by_cases hk : k < n
          · have q0 : decide (k < n) = true := by simpa using hk
            have hat := HAT.out.2
            have hbl := HAT.out.1
            have hl := HI.out.2
            obtain ⟨k0, k1⟩ := hat k (by omega)
            obtain ⟨j0, j1⟩ := hat i (by have := HI.out.1; omega)
            rw [HX.out] at j0 j1
            obtain ⟨⟨t', u'⟩, hx'⟩ : ∃ x, hs.getD k (0, 0) = x := ⟨_, rfl⟩
            rw [hx'] at k0 k1
            have HX' := qh hx'
            dsimp only at k0 k1 j0 j1
            replace k0 := cell_on (below_step b5 hbk) k0
            replace k1 := cell_on (below_step b5 hbk) k1
            replace j0 := cell_on (below_step b5 hbk) j0
            replace j1 := cell_on (below_step b5 hbk) j1
            have e2 := cell_on hbk d2
            have e3 := cell_on hbk d3
            have e4 := cell_on hbk d4
            have e5 := cell_on hbk d5
            have hb2 := Nat.lt_of_lt_of_le hbl (below_step b5 hbk).size
            have y3 := Nat.lt_of_lt_of_le y1 (below_step hbw hbk).size
            have hi := HI.out.1
            obtain ⟨f', hf'⟩ : ∃ f, suitB (t', u') c = f := ⟨_, rfl⟩
            have HF' := qh hf'
            have HQ := qh (And.intro hq hkn)
            clear hat hx' hf' hq hkn
            go_upto_region 10 with (fail)
            obtain ⟨g, hg⟩ : ∃ g, betB hs c i k = g := ⟨_, rfl⟩
            have HGG := qh hg
            unfold betB at hg
            rw [HX.out, HX'.out, HF'.out] at hg
            dsimp only at hg
            go_cut [67] (fun v wx => v = .bool g ∧ RowKit.Below wr.heap.size wr wx)
            case first =>
              cases f' with
              | false =>
                obtain rfl : false = g := by simpa using hg
                refine wp_region_T (fun w' => Below wr.heap.size wr w') [] (by kernel_rfl) ?_
                refine tb 0 (.slice (some ⟨b, o, none⟩) n cap) [] rfl (by kernel_rfl) pk rfl (by intros; go_simp) bq0 ?_
                simp only [ppq]
                refine tb 1 (.int .i64 (k : Int)) [] rfl (by kernel_rfl) pk rfl (by intros; go_simp) bq0 ?_
                simp only [ppq]
                refine tb 2 (.pointer (some ⟨b, o + k * 2, none⟩)) [] rfl (by kernel_rfl) pk rfl (by intros; go_simp) bq0 ?_
                simp only [ppq]
                refine tb 3 (hrv (t', u')) [] rfl (by kernel_rfl) pk rfl (by intros; go_simp) bq0 ?_
                simp only [ppq]
                refine tb 4 (clv c) [] rfl (by kernel_rfl) pk rfl (by intros; go_simp) bq0 ?_
                simp only [ppq]
                refine rd1 5 (by kernel_rfl) rfl (fun K hK => ?_)
                go_simp
                go_wp2_with (go_at_call 29; (with_reducible refine mo0 (rsuits_ok HF'.out) fun w6 hb6 hc6 hf6 _ => ?_))
                have sS6 := qh (bst bq0 hb6)
                refine hK.out _ _ (fun _ => sS6.out) ?_
                clear hK K
                refine rd1 6 (by kernel_rfl) rfl (fun K hK => ?_)
                go_simp
                refine hK.out _ _ (fun _ => bi) ?_
                clear hK K
                refine ts 7 [] rfl (by kernel_rfl) pk (by rfl) sS6.out ?_
                simp only [ppq]
                refine ts 8 [] rfl (by kernel_rfl) pk (by rfl) sS6.out ?_
                simp only [ppq]
                refine ts 9 [] rfl (by kernel_rfl) pk (by rfl) sS6.out ?_
                simp only [ppq]
                refine ts 10 [] rfl (by kernel_rfl) pk (by rfl) sS6.out ?_
                simp only [ppq]
                refine ts 11 [] rfl (by kernel_rfl) pk (by rfl) sS6.out ?_
                simp only [ppq]
                refine ts 12 [] rfl (by kernel_rfl) pk (by rfl) sS6.out ?_
                simp only [ppq]
                refine ts 13 [] rfl (by kernel_rfl) pk (by rfl) sS6.out ?_
                simp only [ppq]
                refine ts 14 [] rfl (by kernel_rfl) pk (by rfl) sS6.out ?_
                simp only [ppq]
                refine ts 15 [] rfl (by kernel_rfl) pk (by rfl) sS6.out ?_
                simp only [ppq]
                refine ts 16 [] rfl (by kernel_rfl) pk (by rfl) sS6.out ?_
                simp only [ppq]
                refine ts 17 [] rfl (by kernel_rfl) pk (by rfl) sS6.out ?_
                simp only [ppq]
                refine ts 18 [] rfl (by kernel_rfl) pk (by rfl) sS6.out ?_
                simp only [ppq]
                refine ts 19 [] rfl (by kernel_rfl) pk (by rfl) sS6.out ?_
                simp only [ppq]
                refine ts 20 [] rfl (by kernel_rfl) pk (by rfl) sS6.out ?_
                simp only [ppq]
                refine ts 21 [] rfl (by kernel_rfl) pk (by rfl) sS6.out ?_
                simp only [ppq]
                refine ts 22 [] rfl (by kernel_rfl) pk (by rfl) sS6.out ?_
                simp only [ppq]
                refine ts 23 [] rfl (by kernel_rfl) pk (by rfl) sS6.out ?_
                simp only [ppq]
                refine ts 24 [] rfl (by kernel_rfl) pk (by rfl) sS6.out ?_
                simp only [ppq]
                refine ts 25 [] rfl (by kernel_rfl) pk (by rfl) sS6.out ?_
                simp only [ppq]
                refine ts 26 [] rfl (by kernel_rfl) pk (by rfl) sS6.out ?_
                simp only [ppq]
                refine ts 27 [] rfl (by kernel_rfl) pk (by rfl) sS6.out ?_
                simp only [ppq]
                refine ts 28 [] rfl (by kernel_rfl) pk (by rfl) sS6.out ?_
                simp only [ppq]
                refine ts 29 [] rfl (by kernel_rfl) pk (by rfl) sS6.out ?_
                simp only [ppq]
                refine ts 30 [] rfl (by kernel_rfl) pk (by rfl) sS6.out ?_
                simp only [ppq]
                refine ts 31 [] rfl (by kernel_rfl) pk (by rfl) sS6.out ?_
                simp only [ppq]
                refine ts 32 [] rfl (by kernel_rfl) pk (by rfl) sS6.out ?_
                simp only [ppq]
                refine ts 33 [] rfl (by kernel_rfl) pk (by rfl) sS6.out ?_
                simp only [ppq]
                refine ts 34 [] rfl (by kernel_rfl) pk (by rfl) sS6.out ?_
                simp only [ppq]
                refine ts 35 [] rfl (by kernel_rfl) pk (by rfl) sS6.out ?_
                simp only [ppq]
                refine rd1 36 (by kernel_rfl) rfl (fun K hK => ?_)
                go_simp
                refine hK.out _ _ (fun _ => bi) ?_
                clear hK K
                refine wpAnyT_done (by kernel_rfl) ?_ _
                go_wp2
                go_meet
                exact ⟨rfl, bi⟩
              | true =>
                rw [Bool.true_and] at hg
                by_cases h1 : t' < t
                · have p1 : decide (t' < t) = true := by simpa using h1
                  obtain rfl : true = g := by rw [← hg, p1, Bool.true_or]
                  clear h1
                  refine wp_region_T (fun w' => Below wr.heap.size wr w') [] (by kernel_rfl) ?_
                  refine tb 0 (.slice (some ⟨b, o, none⟩) n cap) [] rfl (by kernel_rfl) pk rfl (by intros; go_simp) bq0 ?_
                  simp only [ppq]
                  refine tb 1 (.int .i64 (k : Int)) [] rfl (by kernel_rfl) pk rfl (by intros; go_simp) bq0 ?_
                  simp only [ppq]
                  refine tb 2 (.pointer (some ⟨b, o + k * 2, none⟩)) [] rfl (by kernel_rfl) pk rfl (by intros; go_simp) bq0 ?_
                  simp only [ppq]
                  refine tb 3 (hrv (t', u')) [] rfl (by kernel_rfl) pk rfl (by intros; go_simp) bq0 ?_
                  simp only [ppq]
                  refine tb 4 (clv c) [] rfl (by kernel_rfl) pk rfl (by intros; go_simp) bq0 ?_
                  simp only [ppq]
                  refine rd1 5 (by kernel_rfl) rfl (fun K hK => ?_)
                  go_simp
                  go_wp2_with (go_at_call 29; (with_reducible refine mo0 (rsuits_ok HF'.out) fun w6 hb6 hc6 hf6 _ => ?_))
                  have sS6 := qh (bst bq0 hb6)
                  refine hK.out _ _ (fun _ => sS6.out) ?_
                  clear hK K
                  refine rd1 6 (by kernel_rfl) rfl (fun K hK => ?_)
                  go_simp
                  refine hK.out _ _ (fun _ => bi) ?_
                  clear hK K
                  refine tb 7 (.slice (some ⟨b, o, none⟩) n cap) [] rfl (by kernel_rfl) pk rfl (by intros; go_simp) sS6.out ?_
                  simp only [ppq]
                  refine tb 8 (.int .i64 (k : Int)) [] rfl (by kernel_rfl) pk rfl (by intros; go_simp) sS6.out ?_
                  simp only [ppq]
                  refine tb 9 (.pointer (some ⟨b, o + k * 2, none⟩)) [] rfl (by kernel_rfl) pk rfl (by intros; go_simp) sS6.out ?_
                  simp only [ppq]
                  refine tb 10 (.pointer (some ⟨b, o + k * 2, none⟩)) [] rfl (by kernel_rfl) pk rfl (by intros; go_simp) sS6.out ?_
                  simp only [ppq]
                  refine tb 11 (.int .i64 t') [] rfl (by kernel_rfl) pk rfl (by intros; go_simp) sS6.out ?_
                  simp only [ppq]
                  refine tb 12 (.slice (some ⟨b, o, none⟩) n cap) [] rfl (by kernel_rfl) pk rfl (by intros; go_simp) sS6.out ?_
                  simp only [ppq]
                  refine tb 13 (.int .i64 (i : Int)) [] rfl (by kernel_rfl) pk rfl (by intros; go_simp) sS6.out ?_
                  simp only [ppq]
                  refine tb 14 (.pointer (some ⟨b, o + i * 2, none⟩)) [] rfl (by kernel_rfl) pk rfl (by intros; go_simp) sS6.out ?_
                  simp only [ppq]
                  refine tb 15 (.pointer (some ⟨b, o + i * 2, none⟩)) [] rfl (by kernel_rfl) pk rfl (by intros; go_simp) sS6.out ?_
                  simp only [ppq]
                  refine tb 16 (.int .i64 t) [] rfl (by kernel_rfl) pk rfl (by intros; go_simp) sS6.out ?_
                  simp only [ppq]
                  refine tb 17 (.bool true) [] rfl (by kernel_rfl) pk rfl (by intros; go_simp) sS6.out ?_
                  simp only [ppq]
                  refine tb 18 (.bool true) [] rfl (by kernel_rfl) pk rfl (by intros; go_simp) sS6.out ?_
                  simp only [ppq]
                  refine ts 19 [] rfl (by kernel_rfl) pk (by rfl) sS6.out ?_
                  simp only [ppq]
                  refine ts 20 [] rfl (by kernel_rfl) pk (by rfl) sS6.out ?_
                  simp only [ppq]
                  refine ts 21 [] rfl (by kernel_rfl) pk (by rfl) sS6.out ?_
                  simp only [ppq]
                  refine ts 22 [] rfl (by kernel_rfl) pk (by rfl) sS6.out ?_
                  simp only [ppq]
                  refine ts 23 [] rfl (by kernel_rfl) pk (by rfl) sS6.out ?_
                  simp only [ppq]
                  refine ts 24 [] rfl (by kernel_rfl) pk (by rfl) sS6.out ?_
                  simp only [ppq]
                  refine ts 25 [] rfl (by kernel_rfl) pk (by rfl) sS6.out ?_
                  simp only [ppq]
                  refine ts 26 [] rfl (by kernel_rfl) pk (by rfl) sS6.out ?_
                  simp only [ppq]
                  refine ts 27 [] rfl (by kernel_rfl) pk (by rfl) sS6.out ?_
                  simp only [ppq]
                  refine ts 28 [] rfl (by kernel_rfl) pk (by rfl) sS6.out ?_
                  simp only [ppq]
                  refine ts 29 [] rfl (by kernel_rfl) pk (by rfl) sS6.out ?_
                  simp only [ppq]
                  refine ts 30 [] rfl (by kernel_rfl) pk (by rfl) sS6.out ?_
                  simp only [ppq]
                  refine ts 31 [] rfl (by kernel_rfl) pk (by rfl) sS6.out ?_
                  simp only [ppq]
                  refine ts 32 [] rfl (by kernel_rfl) pk (by rfl) sS6.out ?_
                  simp only [ppq]
                  refine ts 33 [] rfl (by kernel_rfl) pk (by rfl) sS6.out ?_
                  simp only [ppq]
                  refine ts 34 [] rfl (by kernel_rfl) pk (by rfl) sS6.out ?_
                  simp only [ppq]
                  refine tb 35 (.bool true) [] rfl (by kernel_rfl) pk rfl (by intros; go_simp) sS6.out ?_
                  simp only [ppq]
                  refine rd1 36 (by kernel_rfl) rfl (fun K hK => ?_)
                  go_simp
                  refine hK.out _ _ (fun _ => bi) ?_
                  clear hK K
                  refine wpAnyT_done (by kernel_rfl) ?_ _
                  go_wp2
                  go_meet
                  exact ⟨rfl, bi⟩
                · have p1 : decide (t' < t) = false := by simpa using h1
                  rw [p1, Bool.false_or] at hg
                  by_cases h2 : t' = t
                  · have p2 : (t' == t) = true := by simpa using h2
                    have p3 : decide (k < i) = g := by rw [← hg]; simp [h2]
                    clear h1 hg h2
                    refine wp_region_T (fun w' => Below wr.heap.size wr w') [] (by kernel_rfl) ?_
                    refine tb 0 (.slice (some ⟨b, o, none⟩) n cap) [] rfl (by kernel_rfl) pk rfl (by intros; go_simp) bq0 ?_
                    simp only [ppq]
                    refine tb 1 (.int .i64 (k : Int)) [] rfl (by kernel_rfl) pk rfl (by intros; go_simp) bq0 ?_
                    simp only [ppq]
                    refine tb 2 (.pointer (some ⟨b, o + k * 2, none⟩)) [] rfl (by kernel_rfl) pk rfl (by intros; go_simp) bq0 ?_
                    simp only [ppq]
                    refine tb 3 (hrv (t', u')) [] rfl (by kernel_rfl) pk rfl (by intros; go_simp) bq0 ?_
                    simp only [ppq]
                    refine tb 4 (clv c) [] rfl (by kernel_rfl) pk rfl (by intros; go_simp) bq0 ?_
                    simp only [ppq]
                    refine rd1 5 (by kernel_rfl) rfl (fun K hK => ?_)
                    go_simp
                    go_wp2_with (go_at_call 29; (with_reducible refine mo0 (rsuits_ok HF'.out) fun w6 hb6 hc6 hf6 _ => ?_))
                    have sS6 := qh (bst bq0 hb6)
                    refine hK.out _ _ (fun _ => sS6.out) ?_
                    clear hK K
                    refine rd1 6 (by kernel_rfl) rfl (fun K hK => ?_)
                    go_simp
                    refine hK.out _ _ (fun _ => bi) ?_
                    clear hK K
                    refine tb 7 (.slice (some ⟨b, o, none⟩) n cap) [] rfl (by kernel_rfl) pk rfl (by intros; go_simp) sS6.out ?_
                    simp only [ppq]
                    refine tb 8 (.int .i64 (k : Int)) [] rfl (by kernel_rfl) pk rfl (by intros; go_simp) sS6.out ?_
                    simp only [ppq]
                    refine tb 9 (.pointer (some ⟨b, o + k * 2, none⟩)) [] rfl (by kernel_rfl) pk rfl (by intros; go_simp) sS6.out ?_
                    simp only [ppq]
                    refine tb 10 (.pointer (some ⟨b, o + k * 2, none⟩)) [] rfl (by kernel_rfl) pk rfl (by intros; go_simp) sS6.out ?_
                    simp only [ppq]
                    refine tb 11 (.int .i64 t') [] rfl (by kernel_rfl) pk rfl (by intros; go_simp) sS6.out ?_
                    simp only [ppq]
                    refine tb 12 (.slice (some ⟨b, o, none⟩) n cap) [] rfl (by kernel_rfl) pk rfl (by intros; go_simp) sS6.out ?_
                    simp only [ppq]
                    refine tb 13 (.int .i64 (i : Int)) [] rfl (by kernel_rfl) pk rfl (by intros; go_simp) sS6.out ?_
                    simp only [ppq]
                    refine tb 14 (.pointer (some ⟨b, o + i * 2, none⟩)) [] rfl (by kernel_rfl) pk rfl (by intros; go_simp) sS6.out ?_
                    simp only [ppq]
                    refine tb 15 (.pointer (some ⟨b, o + i * 2, none⟩)) [] rfl (by kernel_rfl) pk rfl (by intros; go_simp) sS6.out ?_
                    simp only [ppq]
                    refine tb 16 (.int .i64 t) [] rfl (by kernel_rfl) pk rfl (by intros; go_simp) sS6.out ?_
                    simp only [ppq]
                    refine tb 17 (.bool false) [] rfl (by kernel_rfl) pk rfl (by intros; go_simp) sS6.out ?_
                    simp only [ppq]
                    refine tb 18 (.bool false) [] rfl (by kernel_rfl) pk rfl (by intros; go_simp) sS6.out ?_
                    simp only [ppq]
                    refine tb 19 (.slice (some ⟨b, o, none⟩) n cap) [] rfl (by kernel_rfl) pk rfl (by intros; go_simp) sS6.out ?_
                    simp only [ppq]
                    refine tb 20 (.int .i64 (k : Int)) [] rfl (by kernel_rfl) pk rfl (by intros; go_simp) sS6.out ?_
                    simp only [ppq]
                    refine tb 21 (.pointer (some ⟨b, o + k * 2, none⟩)) [] rfl (by kernel_rfl) pk rfl (by intros; go_simp) sS6.out ?_
                    simp only [ppq]
                    refine tb 22 (.pointer (some ⟨b, o + k * 2, none⟩)) [] rfl (by kernel_rfl) pk rfl (by intros; go_simp) sS6.out ?_
                    simp only [ppq]
                    refine tb 23 (.int .i64 t') [] rfl (by kernel_rfl) pk rfl (by intros; go_simp) sS6.out ?_
                    simp only [ppq]
                    refine tb 24 (.slice (some ⟨b, o, none⟩) n cap) [] rfl (by kernel_rfl) pk rfl (by intros; go_simp) sS6.out ?_
                    simp only [ppq]
                    refine tb 25 (.int .i64 (i : Int)) [] rfl (by kernel_rfl) pk rfl (by intros; go_simp) sS6.out ?_
                    simp only [ppq]
                    refine tb 26 (.pointer (some ⟨b, o + i * 2, none⟩)) [] rfl (by kernel_rfl) pk rfl (by intros; go_simp) sS6.out ?_
                    simp only [ppq]
                    refine tb 27 (.pointer (some ⟨b, o + i * 2, none⟩)) [] rfl (by kernel_rfl) pk rfl (by intros; go_simp) sS6.out ?_
                    simp only [ppq]
                    refine tb 28 (.int .i64 t) [] rfl (by kernel_rfl) pk rfl (by intros; go_simp) sS6.out ?_
                    simp only [ppq]
                    refine tb 29 (.bool true) [] rfl (by kernel_rfl) pk rfl (by intros; go_simp) sS6.out ?_
                    simp only [ppq]
                    refine tb 30 (.bool true) [] rfl (by kernel_rfl) pk rfl (by intros; go_simp) sS6.out ?_
                    simp only [ppq]
                    refine tb 31 (.int .i64 (k : Int)) [] rfl (by kernel_rfl) pk rfl (by intros; go_simp) sS6.out ?_
                    simp only [ppq]
                    refine tb 32 (.int .i64 (i : Int)) [] rfl (by kernel_rfl) pk rfl (by intros; go_simp) sS6.out ?_
                    simp only [ppq]
                    refine tb 33 (.bool g) [] rfl (by kernel_rfl) pk rfl (by intros; go_simp) sS6.out ?_
                    simp only [ppq]
                    refine tb 34 (.bool g) [] rfl (by kernel_rfl) pk rfl (by intros; go_simp) sS6.out ?_
                    simp only [ppq]
                    refine tb 35 (.bool g) [] rfl (by kernel_rfl) pk rfl (by intros; go_simp) sS6.out ?_
                    simp only [ppq]
                    refine rd1 36 (by kernel_rfl) rfl (fun K hK => ?_)
                    go_simp
                    refine hK.out _ _ (fun _ => bi) ?_
                    clear hK K
                    refine wpAnyT_done (by kernel_rfl) ?_ _
                    go_wp2
                    go_meet
                    exact ⟨rfl, bi⟩
                  · have p2 : (t' == t) = false := by simpa using h2
                    obtain rfl : false = g := by rw [← hg]; simp [h2]
                    clear h1 h2 hg
                    refine wp_region_T (fun w' => Below wr.heap.size wr w') [] (by kernel_rfl) ?_
                    refine tb 0 (.slice (some ⟨b, o, none⟩) n cap) [] rfl (by kernel_rfl) pk rfl (by intros; go_simp) bq0 ?_
                    simp only [ppq]
                    refine tb 1 (.int .i64 (k : Int)) [] rfl (by kernel_rfl) pk rfl (by intros; go_simp) bq0 ?_
                    simp only [ppq]
                    refine tb 2 (.pointer (some ⟨b, o + k * 2, none⟩)) [] rfl (by kernel_rfl) pk rfl (by intros; go_simp) bq0 ?_
                    simp only [ppq]
                    refine tb 3 (hrv (t', u')) [] rfl (by kernel_rfl) pk rfl (by intros; go_simp) bq0 ?_
                    simp only [ppq]
                    refine tb 4 (clv c) [] rfl (by kernel_rfl) pk rfl (by intros; go_simp) bq0 ?_
                    simp only [ppq]
                    refine rd1 5 (by kernel_rfl) rfl (fun K hK => ?_)
                    go_simp
                    go_wp2_with (go_at_call 29; (with_reducible refine mo0 (rsuits_ok HF'.out) fun w6 hb6 hc6 hf6 _ => ?_))
                    have sS6 := qh (bst bq0 hb6)
                    refine hK.out _ _ (fun _ => sS6.out) ?_
                    clear hK K
                    refine rd1 6 (by kernel_rfl) rfl (fun K hK => ?_)
                    go_simp
                    refine hK.out _ _ (fun _ => bi) ?_
                    clear hK K
                    refine tb 7 (.slice (some ⟨b, o, none⟩) n cap) [] rfl (by kernel_rfl) pk rfl (by intros; go_simp) sS6.out ?_
                    simp only [ppq]
                    refine tb 8 (.int .i64 (k : Int)) [] rfl (by kernel_rfl) pk rfl (by intros; go_simp) sS6.out ?_
                    simp only [ppq]
                    refine tb 9 (.pointer (some ⟨b, o + k * 2, none⟩)) [] rfl (by kernel_rfl) pk rfl (by intros; go_simp) sS6.out ?_
                    simp only [ppq]
                    refine tb 10 (.pointer (some ⟨b, o + k * 2, none⟩)) [] rfl (by kernel_rfl) pk rfl (by intros; go_simp) sS6.out ?_
                    simp only [ppq]
                    refine tb 11 (.int .i64 t') [] rfl (by kernel_rfl) pk rfl (by intros; go_simp) sS6.out ?_
                    simp only [ppq]
                    refine tb 12 (.slice (some ⟨b, o, none⟩) n cap) [] rfl (by kernel_rfl) pk rfl (by intros; go_simp) sS6.out ?_
                    simp only [ppq]
                    refine tb 13 (.int .i64 (i : Int)) [] rfl (by kernel_rfl) pk rfl (by intros; go_simp) sS6.out ?_
                    simp only [ppq]
                    refine tb 14 (.pointer (some ⟨b, o + i * 2, none⟩)) [] rfl (by kernel_rfl) pk rfl (by intros; go_simp) sS6.out ?_
                    simp only [ppq]
                    refine tb 15 (.pointer (some ⟨b, o + i * 2, none⟩)) [] rfl (by kernel_rfl) pk rfl (by intros; go_simp) sS6.out ?_
                    simp only [ppq]
                    refine tb 16 (.int .i64 t) [] rfl (by kernel_rfl) pk rfl (by intros; go_simp) sS6.out ?_
                    simp only [ppq]
                    refine tb 17 (.bool false) [] rfl (by kernel_rfl) pk rfl (by intros; go_simp) sS6.out ?_
                    simp only [ppq]
                    refine tb 18 (.bool false) [] rfl (by kernel_rfl) pk rfl (by intros; go_simp) sS6.out ?_
                    simp only [ppq]
                    refine tb 19 (.slice (some ⟨b, o, none⟩) n cap) [] rfl (by kernel_rfl) pk rfl (by intros; go_simp) sS6.out ?_
                    simp only [ppq]
                    refine tb 20 (.int .i64 (k : Int)) [] rfl (by kernel_rfl) pk rfl (by intros; go_simp) sS6.out ?_
                    simp only [ppq]
                    refine tb 21 (.pointer (some ⟨b, o + k * 2, none⟩)) [] rfl (by kernel_rfl) pk rfl (by intros; go_simp) sS6.out ?_
                    simp only [ppq]
                    refine tb 22 (.pointer (some ⟨b, o + k * 2, none⟩)) [] rfl (by kernel_rfl) pk rfl (by intros; go_simp) sS6.out ?_
                    simp only [ppq]
                    refine tb 23 (.int .i64 t') [] rfl (by kernel_rfl) pk rfl (by intros; go_simp) sS6.out ?_
                    simp only [ppq]
                    refine tb 24 (.slice (some ⟨b, o, none⟩) n cap) [] rfl (by kernel_rfl) pk rfl (by intros; go_simp) sS6.out ?_
                    simp only [ppq]
                    refine tb 25 (.int .i64 (i : Int)) [] rfl (by kernel_rfl) pk rfl (by intros; go_simp) sS6.out ?_
                    simp only [ppq]
                    refine tb 26 (.pointer (some ⟨b, o + i * 2, none⟩)) [] rfl (by kernel_rfl) pk rfl (by intros; go_simp) sS6.out ?_
                    simp only [ppq]
                    refine tb 27 (.pointer (some ⟨b, o + i * 2, none⟩)) [] rfl (by kernel_rfl) pk rfl (by intros; go_simp) sS6.out ?_
                    simp only [ppq]
                    refine tb 28 (.int .i64 t) [] rfl (by kernel_rfl) pk rfl (by intros; go_simp) sS6.out ?_
                    simp only [ppq]
                    refine tb 29 (.bool false) [] rfl (by kernel_rfl) pk rfl (by intros; go_simp) sS6.out ?_
                    simp only [ppq]
                    refine tb 30 (.bool false) [] rfl (by kernel_rfl) pk rfl (by intros; go_simp) sS6.out ?_
                    simp only [ppq]
                    refine ts 31 [] rfl (by kernel_rfl) pk (by rfl) sS6.out ?_
                    simp only [ppq]
                    refine ts 32 [] rfl (by kernel_rfl) pk (by rfl) sS6.out ?_
                    simp only [ppq]
                    refine ts 33 [] rfl (by kernel_rfl) pk (by rfl) sS6.out ?_
                    simp only [ppq]
                    refine tb 34 (.bool false) [] rfl (by kernel_rfl) pk rfl (by intros; go_simp) sS6.out ?_
                    simp only [ppq]
                    refine tb 35 (.bool false) [] rfl (by kernel_rfl) pk rfl (by intros; go_simp) sS6.out ?_
                    simp only [ppq]
                    refine rd1 36 (by kernel_rfl) rfl (fun K hK => ?_)
                    go_simp
                    refine hK.out _ _ (fun _ => bi) ?_
                    clear hK K
                    refine wpAnyT_done (by kernel_rfl) ?_ _
                    go_wp2
                    go_meet
                    exact ⟨rfl, bi⟩
            case rest =>
              obtain ⟨rfl, hb6⟩ := hcut
              have _ := bm hb6
              have hqq := HQ.out
              have hbs := betN_succ hs c i k
              rw [HGG.out] at hbs
              have HBS := qh hbs
              have eq' : IntKind.i64.wrap ((q : Int) + 1) = ((q + 1 : Nat) : Int) := by
                have := betN_le hs c i k
                simp [IntKind.wrap, IntKind.bits, IntKind.signed]; omega
              have ek : IntKind.i64.wrap ((k : Int) + 1) = ((k + 1 : Nat) : Int) := by simp [IntKind.wrap, IntKind.bits, IntKind.signed]; omega
              clear hqq hbs
              cases g with
              | true =>
                go_wp2
                have hqq := HQ.out
                exact ⟨⟨k + 1, q + 1, by simp, by simp, hk, by rw [HBS.out, if_pos rfl, ← hqq.1], below_step hbk hb6⟩, by simp [intOf]; omega⟩
              | false =>
                go_wp2
                have hqq := HQ.out
                exact ⟨⟨k + 1, q, by simp, rfl, hk, by rw [HBS.out, if_neg (by simp), ← hqq.1, Nat.add_zero], below_step hbk hb6⟩, by simp [intOf]; omega⟩
          · have q0 : decide (k < n) = false := by simpa using hk
            obtain rfl : k = n := by omega
            have hrl := HRL.out
            rw [Bool.true_and, HI.out.2, ← hq] at hrl
            have HB5 := qh (below_step hbw hbk)
            have hnn : nn = (runL hs c need i).length := by have := HO.out.1; simpa using this.symm
            have hnk : nn ≤ 1000 := by have := runL_le hs c need i; omega
            have HOW := qh (OwnZ.below HO.out (below_step b5 hbk))
            have hzb : V.heap.size ≤ wr.heap.size := HB5.out.size
            clear hkn hk hq hnn
            by_cases hlt : (q : Int) < need
            · have p1 : decide ((q : Int) < need) = true := by simpa using hlt
              rw [p1, if_pos rfl] at hrl
              have HR := qh hrl
              clear hrl hlt
              go_wp2_with (at_builtin; refine wpList_append_z (z := (i : Int)) (n := nn) (base := V.heap.size) rfl _ _ rfl rfl rfl rfl (HOW.out.alloc _) (by omega) (by simp; omega) (by simp) ?_; intro A6 c6 w6 ho6 hg6 hl6)
              have hb6 : RowKit.Below V.heap.size V w6 := Below.trans (below_alloc HB5.out _) (grownB hg6 (by simp; omega) (fun j hj => HOW.out.ge j hj))
              have hi := HI.out.1
              exact ⟨⟨i + 1, nn + 1, c6, A6, rfl, by simp, hi, hb6, by rw [HR.out, List.map_append]; exact ho6⟩, by simp [intOf]; omega⟩
            · have p1 : decide ((q : Int) < need) = false := by simpa using hlt
              rw [p1, if_neg (by simp), List.append_nil] at hrl
              have HR := qh hrl
              clear hrl hlt
              go_wp2
              have hi := HI.out.1
              exact ⟨⟨i + 1, nn, co, Ao, rfl, by simp, hi, HB5.out, by rw [HR.out]; exact HOW.out⟩, by simp [intOf]; omega⟩
    · have p0 : decide (i < n) = false := by simpa using hi
      obtain rfl : i = n := by omega
      have hnn : L.length = nn := by rw [← HLF.out.1]; have := HO.out.1; simpa using this
      have p1 : ((nn : Int) == need) = F := by rw [← HLF.out.2, hnn]; rfl
      have HH := qh hnn
      have HBV := qh (bst bV hb)
      have HOB := qh (own_le HO.out (by omega : w.heap.size ≤ V.heap.size))
      clear hin hi hn hl hnn
      go_wp2
      go_ret2
      refine ⟨_, rfl, ?_, HBV.out⟩
      have h1 := HH.out
      rw [h1]
      have := HOB.out
      rw [HLF.out.1] at this
      exact this
end
end Go.Proofs.YtnbnoacadhoimaaGreatDoor
namespace Go.Proofs.YtnbnoacadhoimaaGreatDoor
open Go Go.RowKit Go.Sort

theorem take_filter {p : Nat → Bool} : ∀ (S : List Nat) (j : Nat), (∀ i (h : i < S.length), p S[i] = decide (i < j)) → S.filter p = S.take j
  | [], j, _ => by simp
  | a :: l, j, h => by
    have h0 := h 0 (by simp)
    have hs : ∀ i (hi : i < l.length), p l[i] = decide (i + 1 < j) := fun i hi => by
      have := h (i + 1) (by simpa using hi)
      simpa using this
    simp only [List.getElem_cons_zero] at h0
    cases j with
    | zero =>
      rw [List.take_zero, List.filter_eq_nil_iff]
      intro x hx
      obtain ⟨i, hi, rfl⟩ := List.getElem_of_mem hx
      rw [h i hi]; simp
    | succ j =>
      rw [List.filter_cons, h0, List.take_succ_cons]
      simp only [Nat.zero_lt_succ, decide_true, if_true]
      rw [take_filter l j (fun i hi => by rw [hs i hi]; simp)]
section
variable {hs : List Hr} {c : Clim} {m : Nat}
theorem stab_list (hm : hs.length = m + 1) : (stab hs m (upSuit hs c hs.length)).Perm (upSuit hs c hs.length) ∧ (stab hs m (upSuit hs c hs.length)).Pairwise (fun a b => (hs.getD a (0, 0)).1 < (hs.getD b (0, 0)).1 ∨ ((hs.getD a (0, 0)).1 = (hs.getD b (0, 0)).1 ∧ a < b)) := by
  have hz : ∀ x ∈ upSuit hs c hs.length, x < m + 1 := fun x hx => by have := upSuit_lt hx; omega
  have hasc := upSuit_asc hs c hs.length
  obtain ⟨h1, h2⟩ := ins_sorted (m := m) (ltOf_swo hs (m + 1)) hz hasc
  have e : ((dOf m (upSuit hs c hs.length)).toList.map fun x => x.val) = upSuit hs c hs.length := by
    unfold dOf
    rw [List.map_map]
    conv => rhs; rw [← List.map_id (upSuit hs c hs.length)]
    refine List.map_congr_left fun x hx => ?_
    have := hz x hx
    simp [Fin.ofNat, Nat.mod_eq_of_lt this]
  have hP : (stab hs m (upSuit hs c hs.length)).Perm (upSuit hs c hs.length) := by
    have h3 := h2.map (fun x : Fin (m + 1) => x.val)
    rw [e] at h3
    exact h3
  refine ⟨hP, ?_⟩
  have hnd : (stab hs m (upSuit hs c hs.length)).Nodup := hP.nodup_iff.2 (hasc.imp fun h => Nat.ne_of_lt h)
  unfold stab stabG at hnd ⊢
  unfold List.Nodup at hnd
  rw [List.pairwise_map] at hnd ⊢
  refine (h1.and hnd).imp ?_
  rintro a b ⟨k1, k2⟩
  have n1 : ¬ (ltOf (cfH hs) b a = true ∨ (ltOf (cfH hs) a b = false ∧ b.val < a.val)) := by rw [← ltT_iff, k1]; simp
  unfold ltOf cfH at n1
  rw [decide_eq_true_iff, decide_eq_false_iff_not, cmp_lt, cmp_lt] at n1
  omega
theorem betN_at (hm : hs.length = m + 1) {j : Nat} (hj : j < (stab hs m (upSuit hs c hs.length)).length) : betN hs c (stab hs m (upSuit hs c hs.length))[j] hs.length = j := by
  obtain ⟨hP, hW⟩ := stab_list (c := c) hm
  obtain ⟨S, hS⟩ : ∃ S, stab hs m (upSuit hs c hs.length) = S := ⟨_, rfl⟩
  simp only [hS] at hj hP hW ⊢
  have hsuit : ∀ i (hi : i < S.length), suitB (hs.getD S[i] (0, 0)) c = true := fun i hi => by
    have := hP.mem_iff.1 (List.getElem_mem hi)
    exact (List.mem_filter.1 this).2
  have h1 : (List.range hs.length).filter (betB hs c S[j]) = (upSuit hs c hs.length).filter (betB hs c S[j]) := by
    unfold upSuit
    rw [List.filter_filter]
    refine List.filter_congr fun x _ => ?_
    unfold betB
    cases suitB (hs.getD x (0, 0)) c <;> simp
  unfold betN
  rw [h1, ← (hP.filter (betB hs c S[j])).length_eq, take_filter S j, List.length_take]
  · omega
  · intro i hi
    unfold betB
    rw [hsuit i hi, Bool.true_and]
    rcases Nat.lt_trichotomy i j with h | h | h
    · have := List.pairwise_iff_getElem.1 hW i j hi hj h
      rw [decide_eq_true h]
      rcases this with h2 | ⟨h2, h3⟩
      · rw [decide_eq_true h2, Bool.true_or]
      · rw [decide_eq_true h2, decide_eq_true h3]; simp
    · subst h
      simp
    · have := List.pairwise_iff_getElem.1 hW j i hj hi h
      rw [decide_eq_false (show ¬ i < j by omega), Bool.or_eq_false_iff, Bool.and_eq_false_iff, decide_eq_false_iff_not, decide_eq_false_iff_not, decide_eq_false_iff_not]
      omega
/-- Both lists of hours are the same. -/
theorem runL_fansL (hm : hs.length = m + 1) (k : Nat) : (runL hs c (k : Int) hs.length).map Int.ofNat = fansL hs c k := by
  obtain ⟨hP, hW⟩ := stab_list (c := c) hm
  have hB := fun j hj => betN_at (c := c) hm (j := j) hj
  have h1 : runL hs c (k : Int) hs.length = (upSuit hs c hs.length).filter fun j => decide ((betN hs c j hs.length : Int) < (k : Int)) := by
    unfold runL upSuit
    rw [List.filter_filter]
    refine List.filter_congr fun x _ => ?_
    rw [Bool.and_comm]
  have h2 : ((stab hs m (upSuit hs c hs.length)).filter fun j => decide ((betN hs c j hs.length : Int) < (k : Int))) = (stab hs m (upSuit hs c hs.length)).take k := by
    refine take_filter _ k fun i hi => ?_
    rw [hB i hi]
    by_cases h : i < k
    · rw [decide_eq_true h, decide_eq_true (by omega)]
    · rw [decide_eq_false h, decide_eq_false (by omega)]
  have h3 : (runL hs c (k : Int) hs.length).Perm ((stab hs m (upSuit hs c hs.length)).take k) := by
    rw [h1, ← h2]
    exact (hP.filter _).symm
  unfold fansL
  rw [show hs.length - 1 = m by omega]
  refine List.Perm.eq_of_pairwise (le := (· ≤ ·)) (fun a b _ _ k1 k2 => by omega) ?_ ?_ ?_
  · rw [List.pairwise_map, h1]
    refine ((upSuit_asc hs c hs.length).filter _).imp fun h => ?_
    exact Int.ofNat_le.2 (Nat.le_of_lt h)
  · have := List.pairwise_mergeSort (le := fun x y : Int => decide (x ≤ y)) (fun a b c h1 h2 => by simp at *; omega) (fun a b => by simp; omega) (((stab hs m (upSuit hs c hs.length)).take k).map Int.ofNat)
    exact this.imp fun h => by simpa using h
  · exact (h3.map Int.ofNat).trans (List.mergeSort_perm _ _).symm
theorem runL_few (hm : hs.length = m + 1) {need : Int} (hf : ((upSuit hs c hs.length).length : Int) < need) : ((runL hs c need hs.length).length : Int) ≠ need := by
  have h1 : (runL hs c need hs.length).length ≤ (upSuit hs c hs.length).length := by
    have e : runL hs c need hs.length = (upSuit hs c hs.length).filter fun j => decide ((betN hs c j hs.length : Int) < need) := by
      unfold runL upSuit
      rw [List.filter_filter]
      refine List.filter_congr fun x _ => ?_
      rw [Bool.and_comm]
    rw [e]
    exact List.length_filter_le _ _
  omega
theorem runL_len (hm : hs.length = m + 1) {k : Nat} (hk : k ≤ (upSuit hs c hs.length).length) : (runL hs c (k : Int) hs.length).length = k := by
  have h := congrArg List.length (runL_fansL (c := c) hm k)
  rw [List.length_map] at h
  rw [h]
  unfold fansL
  rw [List.length_mergeSort, List.length_map, List.length_take, show hs.length - 1 = m by omega, (stab_list (c := c) hm).1.length_eq]
  omega
end
end Go.Proofs.YtnbnoacadhoimaaGreatDoor
namespace Go.Proofs.YtnbnoacadhoimaaGreatDoor
open Go Go.RowKit

/-- Whether too few hours suit. -/
def fewB (hs : List Hr) (c : Clim) (need : Int) : Bool := decide (((upSuit hs c hs.length).length : Int) < need)
def fanR (hs : List Hr) (c : Clim) (need : Int) : List Int := if fewB hs c need then [] else (runL hs c need hs.length).map Int.ofNat
theorem fnz3 {a b c : Int} (h : fnz [a, b, c] = 0) : a = 0 ∧ b = 0 ∧ c = 0 := by
  unfold fnz at h
  split at h
  · rename_i h1
    unfold fnz at h
    split at h
    · rename_i h2
      unfold fnz at h
      split at h
      · rename_i h3
        exact ⟨h1, h2, h3⟩
      · rename_i h3
        exact absurd h h3
    · rename_i h2
      exact absurd h h2
  · rename_i h1
    exact absurd h h1
section
variable {w : World} {A : Option Addr} {n cap : Nat} {hs : List Hr} {c : Clim} {need : Int}
theorem fansE_need (hk : fansE hs c need = 0) : 0 ≤ need := by
  unfold fansE at hk
  have := (fnz3 hk).2.2
  split at this
  · cases this
  · omega
theorem upSuit_len' (hs : List Hr) (c : Clim) : (upSuit hs c hs.length).length ≤ hs.length := upSuit_len hs c hs.length
theorem fans_all {k : Int} {L : List Int} (h : Hv w A n hs) (hn : n ≤ 39) (hk : fansE hs c need = 0) (hL : fanR hs c need = L) (hq : (if fewB hs c need then (7 : Int) else 0) = k) : Calls Tryz.prog 22 #[.slice A n cap, clv c, .int .i64 need] w fun e w' => ∃ v, e = .returned (.tuple #[v, .int .i64 k]) ∧ w'.ownsRow w.heap.size 3 1 v L.length (L.map (Value.int .i64)) ∧ Below w.heap.size w w' := by
  have h0 := fansE_need hk
  have hlen := h.len
  unfold fanR at hL
  by_cases hf : ((upSuit hs c hs.length).length : Int) < need
  · have hb : fewB hs c need = true := by unfold fewB; simpa using hf
    rw [hb, if_pos rfl] at hL hq
    subst hL hq
    exact (fans_few h (by omega) hk hf).mono fun e w' ⟨e1, e2⟩ => ⟨_, e1, World.ownsRow_nil _ _ _ _, e2⟩
  · have hb : fewB hs c need = false := by unfold fewB; simpa using hf
    rw [hb, if_neg (by simp)] at hL hq
    subst hL hq
    obtain ⟨j, rfl⟩ := Int.eq_ofNat_of_zero_le h0
    by_cases hN : (upSuit hs c hs.length).length = 0
    · have hj : j = 0 := by omega
      subst hj
      have e : (runL hs c ((0 : Nat) : Int) hs.length) = [] := by
        unfold runL
        rw [List.filter_eq_nil_iff]
        intro x _
        have := betN_le hs c x hs.length
        simp
      rw [e]
      exact (fans_zero h (by omega) hk rfl hN).mono fun e w' ⟨e1, e2⟩ => ⟨_, e1, World.ownsRow_nil _ _ _ _, e2⟩
    · have hpos : 0 < hs.length := by have := upSuit_len' hs c; omega
      obtain ⟨m, hm⟩ : ∃ m, hs.length = m + 1 := ⟨hs.length - 1, by omega⟩
      have hl := upSuit_len' hs c
      refine (fans24 h (by omega) hk rfl (by omega) (by omega) (by omega)).mono ?_
      rintro e w' ⟨⟨v, e1, e2⟩, e3⟩
      refine ⟨v, e1, ?_, e3⟩
      have h1 : ((runL hs c (j : Int) hs.length).map Int.ofNat).length = j := by rw [List.length_map, runL_len hm (by omega)]
      rw [h1, runL_fansL hm j]
      exact e2
/-- The reference says whether there are enough. -/
theorem runL_ok (hs : List Hr) (c : Clim) {need : Int} (h0 : 0 ≤ need) : decide (((runL hs c need hs.length).length : Int) = need) = !fewB hs c need := by
  unfold fewB
  rcases Nat.eq_zero_or_pos hs.length with e | e
  · have h1 := runL_le hs c need hs.length
    have h2 := upSuit_len' hs c
    rw [← decide_not]
    exact decide_eq_decide.2 (by omega)
  · obtain ⟨m, hm⟩ : ∃ m, hs.length = m + 1 := ⟨hs.length - 1, by omega⟩
    by_cases hf : ((upSuit hs c hs.length).length : Int) < need
    · rw [decide_eq_true hf, decide_eq_false (runL_few hm hf)]; rfl
    · obtain ⟨j, rfl⟩ := Int.eq_ofNat_of_zero_le h0
      rw [decide_eq_false hf, decide_eq_true (by rw [runL_len hm (by omega)])]; rfl
theorem number_ok {a b k z : Int} {r : Bool} (hr : (decide (b = k) && ((!decide (k = 0) && decide (a = 0)) || (decide (k = 0) && decide (a = z)))) = r) : Calls Tryz.prog 32 #[.int .i64 a, .int .i64 b, .int .i64 k, .int .i64 z] w fun e w' => e = .returned (.bool r) ∧ Below w.heap.size w w' := by
  have HR := qh hr
  clear hr
  go_enter Tryz.func32, Tryz.ntmps32
  obtain ⟨x1, p1⟩ : ∃ x, (b == k) = x := ⟨_, rfl⟩
  obtain ⟨x2, p2⟩ : ∃ x, (k == 0) = x := ⟨_, rfl⟩
  obtain ⟨x3, p3⟩ : ∃ x, (a == 0) = x := ⟨_, rfl⟩
  obtain ⟨x4, p4⟩ : ∃ x, (a == z) = x := ⟨_, rfl⟩
  have p5 : (k != 0) = !x2 := by rw [bne, p2]
  have hr : (x1 && ((!x2 && x3) || (x2 && x4))) = r := by
    rw [← HR.out, ← p1, ← p2, ← p3, ← p4]; rfl
  clear HR
  cases x1 <;> cases x2 <;> cases x3 <;> cases x4 <;> (subst hr; go_wp2; go_ret; exact ⟨rfl, bi⟩)
end

def fansK (hs : List Hr) (c : Clim) (need : Int) : Int := if fansE hs c need = 0 then (if fewB hs c need then 7 else 0) else fansE hs c need
def fansR (hs : List Hr) (c : Clim) (need : Int) : List Int := if fansE hs c need = 0 then fanR hs c need else []
def winO (hs : List Hr) (c : Clim) (need : Int) : Option Nat := winL hs c need.toNat (hs.length + 1) 0
def winK (hs : List Hr) (c : Clim) (need : Int) : Int := if winE hs c need = 0 then (if (winO hs c need).isSome then 0 else 7) else winE hs c need
def winV (hs : List Hr) (c : Clim) (need : Int) : Int := if winE hs c need = 0 then (((winO hs c need).getD 0 : Nat) : Int) else 0
section
variable {w : World} {A : Option Addr} {n cap : Nat} {hs : List Hr} {c : Clim} {need : Int}
theorem fans_any {k : Int} {L : List Int} (h : Hv w A n hs) (hn : n ≤ 100000) (hn2 : fansE hs c need = 0 → n ≤ 39) (hk : fansK hs c need = k) (hL : fansR hs c need = L) : Calls Tryz.prog 22 #[.slice A n cap, clv c, .int .i64 need] w fun e w' => ∃ v, e = .returned (.tuple #[v, .int .i64 k]) ∧ w'.ownsRow w.heap.size 3 1 v L.length (L.map (Value.int .i64)) ∧ Below w.heap.size w w' := by
  unfold fansK at hk
  unfold fansR at hL
  by_cases h0 : fansE hs c need = 0
  · rw [if_pos h0] at hk hL
    exact fans_all h (hn2 h0) h0 hL hk
  · rw [if_neg h0] at hk hL
    subst hL
    exact (fans_bad h hn hk (by rw [← hk]; exact h0)).mono fun e w' ⟨e1, e2⟩ => ⟨_, e1, World.ownsRow_nil _ _ _ _, e2⟩
theorem winE_need (hk : winE hs c need = 0) : 1 ≤ need := by
  unfold winE at hk
  have := (fnz3 hk).2.2
  split at this
  · cases this
  · omega
theorem window_any {k a : Int} (h : Hv w A n hs) (hn : n ≤ 100000) (hn2 : winE hs c need = 0 → n ≤ 1000) (hcp : n ≤ cap) (hk : winK hs c need = k) (ha : winV hs c need = a) : Calls Tryz.prog 23 #[.slice A n cap, clv c, .int .i64 need] w fun e w' => e = .returned (.tuple #[.int .i64 a, .int .i64 k]) ∧ Below w.heap.size w w' := by
  unfold winK at hk
  unfold winV at ha
  by_cases h0 : winE hs c need = 0
  · rw [if_pos h0] at hk ha
    have h1 := winE_need h0
    subst hk ha
    have := window_ok (cap := cap) (m := need.toNat) h (hn2 h0) hcp h0 (by omega) (by omega) (R := winO hs c need) (by unfold winO; rw [h.len])
    exact this
  · rw [if_neg h0] at hk ha
    subst ha
    exact window_bad h hn hk (by rw [← hk]; exact h0)
theorem pfans_fine {k : Int} {L : List Int} (h : Hv w A n hs) (hn : n ≤ 100000) (hn2 : fansE hs c need = 0 → n ≤ 39) (hk : fansK hs c need = k) (hL : fansR hs c need = L) : Calls Tryz.prog 22 #[.slice A n cap, clv c, .int .i64 need] w fun e w' => ∃ A' n' c', e = .returned (.tuple #[.slice A' n' c', .int .i64 k]) ∧ Iv w' A' n' L ∧ Below w.heap.size w w' := by
  refine (fans_any (cap := cap) h hn hn2 hk hL).mono ?_
  rintro e w' ⟨v, rfl, hz, hb⟩
  have hz : OwnZ w' w.heap.size v L.length L := hz
  obtain ⟨A', c', rfl⟩ := hz.form
  exact ⟨A', L.length, c', rfl, OwnZ.iv hz rfl, hb⟩
theorem rfans_fine (h : Hv w A n hs) (hn : n ≤ 1000) (h0 : 0 ≤ need) : Calls Tryz.prog 30 #[.slice A n cap, clv c, .int .i64 need] w fun e w' => ∃ A' n' c', e = .returned (.tuple #[.slice A' n' c', .bool (!fewB hs c need)]) ∧ Iv w' A' n' ((runL hs c need hs.length).map Int.ofNat) ∧ Below w.heap.size w w' := by
  refine (rfans_ok (cap := cap) (c := c) (need := need) h hn).mono ?_
  have hl := h.len
  subst hl
  rintro e w' ⟨v, rfl, hz, hb⟩
  obtain ⟨A', c', rfl⟩ := hz.form
  exact ⟨A', _, c', by rw [runL_ok hs c h0], OwnZ.iv hz (by rw [List.length_map]), hb⟩
end
end Go.Proofs.YtnbnoacadhoimaaGreatDoor
