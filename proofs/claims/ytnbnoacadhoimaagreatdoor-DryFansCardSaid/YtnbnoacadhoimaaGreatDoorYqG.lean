/- The law DryWeather: the walk. -/
import Derived.Test.YtnbnoacadhoimaaGreatDoorYkG
import Derived.Test.YtnbnoacadhoimaaGreatDoorCpG
import Derived.Deep.SlicePairs
set_option linter.unusedSimpArgs false
set_option linter.unusedVariables false
set_option maxRecDepth 100000
set_option maxHeartbeats 8000000
namespace Go.Proofs.YtnbnoacadhoimaaGreatDoor
open Go Go.RowKit Go.Sort

theorem fnz_bad {a b d k : Int} (h : fnz [a, b] = k) (h0 : k ≠ 0) : fnz [a, b, d] = k := by
  unfold fnz at h ⊢
  split
  · rename_i q
    rw [if_pos q] at h
    unfold fnz at h ⊢
    split
    · rename_i q2
      rw [if_pos q2] at h
      exact absurd h.symm h0
    · rename_i q2
      rw [if_neg q2] at h
      exact h
  · rename_i q
    rw [if_neg q] at h
    exact h
theorem fnz_good {a b d : Int} (h : fnz [a, b] = 0) : fnz [a, b, d] = d := by
  unfold fnz at h
  split at h
  · rename_i q
    unfold fnz at h
    split at h
    · rename_i q2
      rw [fnz, if_pos q, fnz, if_pos q2, fnz]
      split
      · rename_i q3; rw [q3]; rfl
      · rfl
    · rename_i q2; exact absurd h q2
  · rename_i q; exact absurd h q
section
variable {hs : List Hr} {c : Clim} {need kb : Int}
theorem wk_bad (h : fnz [hoursE hs, climE c] = kb) (h0 : kb ≠ 0) : fansK hs c need = kb ∧ fansR hs c need = [] ∧ winK hs c need = kb ∧ winV hs c need = 0 := by
  have e1 : fansE hs c need = kb := fnz_bad h h0
  have e2 : winE hs c need = kb := fnz_bad h h0
  unfold fansK fansR winK winV
  rw [e1, e2, if_neg h0, if_neg h0, if_neg h0, if_neg h0]
  exact ⟨rfl, rfl, rfl, rfl⟩
theorem wk_neg (h : fnz [hoursE hs, climE c] = 0) (hn : need < 0) : fansK hs c need = 3 ∧ fansR hs c need = [] ∧ winK hs c need = 3 ∧ winV hs c need = 0 := by
  have e1 : fansE hs c need = 3 := by unfold fansE; rw [fnz_good h, if_pos hn]
  have e2 : winE hs c need = 3 := by unfold winE; rw [fnz_good h, if_pos (by omega)]
  unfold fansK fansR winK winV
  rw [e1, e2]
  exact ⟨rfl, rfl, rfl, rfl⟩
theorem wk_zero (h : fnz [hoursE hs, climE c] = 0) (hn : need = 0) : winK hs c need = 3 ∧ winV hs c need = 0 := by
  have e2 : winE hs c need = 3 := by unfold winE; rw [fnz_good h, if_pos (by omega)]
  unfold winK winV
  rw [e2]
  exact ⟨rfl, rfl⟩
theorem wk_few (h : fnz [hoursE hs, climE c] = 0) (hn : 0 ≤ need) (hf : fewB hs c need = true) : fansK hs c need = 7 ∧ fansR hs c need = [] := by
  have e1 : fansE hs c need = 0 := by unfold fansE; rw [fnz_good h, if_neg (by omega)]
  unfold fansK fansR fanR
  rw [e1, hf]
  exact ⟨rfl, rfl⟩
theorem wk_fans (h : fnz [hoursE hs, climE c] = 0) (hn : 0 ≤ need) (hf : fewB hs c need = false) : fansK hs c need = 0 ∧ fansR hs c need = (runL hs c need hs.length).map Int.ofNat := by
  have e1 : fansE hs c need = 0 := by unfold fansE; rw [fnz_good h, if_neg (by omega)]
  unfold fansK fansR fanR
  rw [e1, hf]
  exact ⟨rfl, rfl⟩
theorem wk_win (h : fnz [hoursE hs, climE c] = 0) (hn : 1 ≤ need) {z : Int} (hz : winR (winO hs c need) = z) : (z < 0 ∧ winK hs c need = 7 ∧ winV hs c need = 0) ∨ (0 ≤ z ∧ winK hs c need = 0 ∧ winV hs c need = z) := by
  have e1 : winE hs c need = 0 := by unfold winE; rw [fnz_good h, if_neg (by omega)]
  unfold winK winV
  rw [e1]
  cases ho : winO hs c need with
  | none => rw [ho] at hz; subst hz; exact .inl ⟨by decide, rfl, rfl⟩
  | some j => rw [ho] at hz; subst hz; exact .inr ⟨Int.natCast_nonneg _, rfl, rfl⟩
theorem wk_len (h : fnz [hoursE hs, climE c] = 0) : hs.length ≤ 1000 := by
  have h1 := (fnz3 (c := 0) (by rw [fnz_good h])).1
  unfold hoursE at h1
  by_cases q : 1000 < hs.length
  · rw [if_pos q] at h1; cases h1
  · omega
theorem rwindow_fine {w : World} {A : Option Addr} {n cap : Nat} {z : Int} (h : Hv w A n hs) (hn : n ≤ 1000) (h1 : 1 ≤ need) (h2 : need < 9223372036854775808) (hz : winR (winO hs c need) = z) : Calls Tryz.prog 31 #[.slice A n cap, clv c, .int .i64 need] w fun e w' => e = .returned (.int .i64 z) ∧ Below w.heap.size w w' := by
  obtain ⟨m, rfl⟩ : ∃ m : Nat, need = (m : Int) := ⟨need.toNat, by omega⟩
  refine hz ▸ rwindow_ok (cap := cap) h hn (by omega) (by omega) ?_
  unfold winO
  rw [Int.toNat_natCast, h.len]
theorem fansR_len : (fansR hs c need).length ≤ hs.length := by
  unfold fansR fanR
  split
  · split
    · exact Nat.zero_le _
    · rw [List.length_map]; exact runL_le hs c need hs.length
  · exact Nat.zero_le _
theorem runL_few' (hl : hs.length ≤ 1000) : ((runL hs c need hs.length).map Int.ofNat).length ≤ 100000 := by
  rw [List.length_map]
  have := runL_le hs c need hs.length
  omega
end
section
variable {w : World} {A : Option Addr} {n cap : Nat} {hs : List Hr} {c : Clim} {need : Int}
theorem weather_out (hE : Env6 w) (hn : (24 < n ∧ n ≤ 1000) ∨ 1010 < n) :
    Calls Tryz.prog 5 #[.slice A n cap, clv c, .int .i64 need] w fun e w' => e = .returned (.bool true) ∧ Below w.heap.size w w' := by
  have HA := qh (fun W (hb : Below w.heap.size w W) => hE.awake hb)
  clear hE
  go_enter Tryz.func5, Tryz.ntmps5
  go_upto_region 1 with (fail)
  have BX := Blk.new w 50 #[.int .i64 c.c, .int .i64 c.m, .int .i64 c.d, .int .i64 c.p]
  have d0 := BX.cell 0
  have d1 := BX.cell 1
  have d2 := BX.cell 2
  have d3 := BX.cell 3
  have zX := BX.lt
  simp only [List.getElem?_toArray, List.getElem?_cons_zero, List.getElem?_cons_succ] at d0 d1 d2 d3
  have bV : Below w.heap.size w (w.alloc (.cells #[.int .i64 c.c, .int .i64 c.m, .int .i64 c.d, .int .i64 c.p] 50)) := bi
  obtain ⟨V, hV⟩ : ∃ V, w.alloc (.cells #[.int .i64 c.c, .int .i64 c.m, .int .i64 c.d, .int .i64 c.p] 50) = V := ⟨_, rfl⟩
  rw [hV] at d0 d1 d2 d3 zX bV ⊢
  clear hV BX
  have p1 : decide ((24 : Int) < (n : Int)) = true := by rw [decide_eq_true_iff]; omega
  rcases hn with h | h
  · have p2 : decide ((n : Int) ≤ 1000) = true := by rw [decide_eq_true_iff]; omega
    clear h
    go_wp2_with (go_at_call 8; (with_reducible refine mo0 (HA.out _ (below_step bV bi)) fun w2 hb2 hc2 hf2 _ => ?_))
    go_ret
    exact ⟨rfl, below_step bV bi⟩
  · have p2 : decide ((n : Int) ≤ 1000) = false := by rw [decide_eq_false_iff_not]; omega
    have p3 : decide ((1010 : Int) < (n : Int)) = true := by rw [decide_eq_true_iff]; omega
    clear h
    go_wp2_with (go_at_call 8; (with_reducible refine mo0 (HA.out _ (below_step bV bi)) fun w2 hb2 hc2 hf2 _ => ?_))
    go_ret
    exact ⟨rfl, below_step bV bi⟩
/-- The hour that is looked at. -/
def hourO (hs : List Hr) : Hr := if 0 < hs.length then hs.getD 0 (0, 0) else (20, 50)
set_option maxHeartbeats 16000000 in
theorem weather_in (hE : Env6 w) (h : Hv w A n hs) (hnc : n ≤ cap) (hn : n ≤ 1010) (hn2 : n ≤ 1000 → n ≤ 24) (hw : need < 9223372036854775808) :
    Calls Tryz.prog 5 #[.slice A n cap, clv c, .int .i64 need] w fun e w' => e = .returned (.bool true) ∧ Below w.heap.size w w' := by
  have HW := qh hw
  clear hw
  have HA := qh (fun W (hb : Below w.heap.size w W) => hE.awake hb)
  obtain ⟨⟨t, u⟩, hh⟩ : ∃ h, hourO hs = h := ⟨_, rfl⟩
  have hfn : fansE hs c need = 0 → n ≤ 39 := fun h0 => by
    have h1 := (fnz3 h0).1
    unfold hoursE at h1
    rw [h.len] at h1
    by_cases q : 1000 < n
    · rw [if_pos q] at h1; cases h1
    · have := hn2 (by omega); omega
  have hwn : winE hs c need = 0 → n ≤ 1000 := fun h0 => by
    have h1 := (fnz3 h0).1
    unfold hoursE at h1
    rw [h.len] at h1
    by_cases q : 1000 < n
    · rw [if_pos q] at h1; cases h1
    · omega
  obtain ⟨k1, hk1⟩ : ∃ k, suitsE (t, u) c = k := ⟨_, rfl⟩
  obtain ⟨s1, hs1⟩ : ∃ s, (decide (k1 = 0) && suitB (t, u) c) = s := ⟨_, rfl⟩
  obtain ⟨k2, hk2⟩ : ∃ k, fansK hs c need = k := ⟨_, rfl⟩
  obtain ⟨L2, hL2⟩ : ∃ k, fansR hs c need = k := ⟨_, rfl⟩
  obtain ⟨k3, hk3⟩ : ∃ k, winK hs c need = k := ⟨_, rfl⟩
  obtain ⟨a3, ha3⟩ : ∃ k, winV hs c need = k := ⟨_, rfl⟩
  obtain ⟨sb, hsb⟩ : ∃ s, suitB (t, u) c = s := ⟨_, rfl⟩
  have HSU := qh (fun (W : World) => rsuits_ok (w := W) hsb)
  have HS1 : Hid ((decide (k1 = 0) && sb) = s1) := qh (by rw [← hsb]; exact hs1)
  have HB := qh (fun W (hb : Below w.heap.size w W) => pfans_fine (cap := cap) (h.below hb) (by omega) hfn hk2 hL2)
  have HC := qh (fun W (hb : Below w.heap.size w W) => window_any (cap := cap) (h.below hb) (by omega) hwn hnc hk3 ha3)
  have HD := qh (fun (W : World) => suits_all (w := W) hk1 hs1)
  obtain ⟨e1, he1⟩ : ∃ k, hoursE hs = k := ⟨_, rfl⟩
  obtain ⟨e2, he2⟩ : ∃ k, climE c = k := ⟨_, rfl⟩
  have HJ := qh (fun W (hb : Below w.heap.size w W) => rhours_ok (cap := cap) (h.below hb) (by omega) he1)
  have HI := qh (fun W (hb : Below w.heap.size w W) => hours_ok (c := cap) (h.below hb) (by omega) he1)
  have HCL := qh (fun (W : World) => rclimate_ok (w := W) he2)
  have HCP := qh (fun (W : World) => climate_fact' (w := W) he2)
  obtain ⟨e3, he3⟩ : ∃ k, (if !hourB (t, u) then (3 : Int) else 0) = k := ⟨_, rfl⟩
  have HCO := qh (fun (W : World) => rhour_ok (w := W) he3)
  have HONE : Hid (fnz [e3, e2] = k1) := qh (by rw [← hk1]; unfold suitsE; rw [he3, he2])
  obtain ⟨kb, hkb⟩ : ∃ k, fnz [e1, e2] = k := ⟨_, rfl⟩
  have HBAD := qh hkb
  have HAB : Hid (fnz [hoursE hs, climE c] = kb) := qh (by rw [he1, he2]; exact hkb)
  have HK := qh (And.intro hk2 (And.intro hL2 (And.intro hk3 ha3)))
  have H := qh h
  have p1 : decide ((1010 : Int) < (n : Int)) = false := by rw [decide_eq_false_iff_not]; omega
  have hz : n ≤ 24 ∨ 1000 < n := by
    by_cases q : n ≤ 1000
    · exact .inl (hn2 q)
    · exact .inr (by omega)
  have HH := qh (And.intro hh (And.intro hn hn2))
  clear hE h hfn hwn hk1 hs1 hk2 hL2 hk3 ha3 hnc hn hn2 hh
  go_enter Tryz.func5, Tryz.ntmps5
  go_upto_region 1 with (fail)
  have BX := Blk.new w 50 #[.int .i64 c.c, .int .i64 c.m, .int .i64 c.d, .int .i64 c.p]
  have d0 := BX.cell 0
  have d1 := BX.cell 1
  have d2 := BX.cell 2
  have d3 := BX.cell 3
  have zX := BX.lt
  simp only [List.getElem?_toArray, List.getElem?_cons_zero, List.getElem?_cons_succ] at d0 d1 d2 d3
  have bV : Below w.heap.size w (w.alloc (.cells #[.int .i64 c.c, .int .i64 c.m, .int .i64 c.d, .int .i64 c.p] 50)) := bi
  obtain ⟨V, hV⟩ : ∃ V, w.alloc (.cells #[.int .i64 c.c, .int .i64 c.m, .int .i64 c.d, .int .i64 c.p] 50) = V := ⟨_, rfl⟩
  rw [hV] at d0 d1 d2 d3 zX bV ⊢
  clear hV BX
  go_cut [36] (fun v wx => v = .bool false ∧ wx = V)
  case first =>
    rcases hz with hz | hz
    · have p0 : decide ((24 : Int) < (n : Int)) = false := by rw [decide_eq_false_iff_not]; omega
      clear hz
      go_wp2
      go_meet
      exact ⟨rfl, rfl⟩
    · have p0 : decide ((24 : Int) < (n : Int)) = true := by rw [decide_eq_true_iff]; omega
      have p2 : decide ((n : Int) ≤ 1000) = false := by rw [decide_eq_false_iff_not]; omega
      clear hz
      go_wp2
      go_meet
      exact ⟨rfl, rfl⟩
  case rest =>
    obtain ⟨rfl, rfl⟩ := hcut
    clear p1 hz
    obtain ⟨g, hg⟩ : ∃ g, decide (0 < n) = g := ⟨_, rfl⟩
    have HG := qh hg
    go_upto_if 41 with (fail)
    clear hg
    go_cut [41] (fun v wx => v = .bool g ∧ RowKit.Below wc.heap.size wc wx ∧ wc.heap.size < wx.heap.size ∧ wx.cell? ⟨wc.heap.size, 0, none⟩ = some (.int .i64 t) ∧ wx.cell? ⟨wc.heap.size, 1, none⟩ = some (.int .i64 u) ∧ wx.frozen? ⟨wc.heap.size, 0, none⟩ = false)
    case first =>
      have hh := HH.out.1
      have hl := H.out.len
      cases g with
      | false =>
        have h0 : ¬ 0 < n := by simpa using HG.out
        unfold hourO at hh
        rw [if_neg (by omega)] at hh
        cases hh
        clear hl h0
        go_wp2
        go_meet
        exact ⟨rfl, bi, by simp, by simp, by simp, by simp⟩
      | true =>
        have h0 : 0 < n := by simpa using HG.out
        unfold hourO at hh
        rw [if_pos (by omega)] at hh
        obtain ⟨b, o, rfl, hbl, hat⟩ := (H.out.below bV).at_ (by omega)
        obtain ⟨k0, k1⟩ := hat 0 (by omega)
        rw [hh, Nat.zero_mul, Nat.add_zero] at k0 k1
        dsimp only at k0 k1
        clear hl hat hh
        go_wp2
        go_meet
        exact ⟨rfl, bi, by simp, by simp, by simp, by simp⟩
    case rest =>
      rename World => wz
      obtain ⟨rfl, hbw, hzw, ct, cu, fz⟩ := hcut
      have _ := bm hbw
      obtain ⟨pb, hpb⟩ : ∃ p, wc.heap.size = p := ⟨_, rfl⟩
      rw [hpb] at hzw ct cu fz ⊢
      have bW := below_step bV hbw
      replace d0 := cell_on hbw d0
      replace d1 := cell_on hbw d1
      replace d2 := cell_on hbw d2
      replace d3 := cell_on hbw d3
      have zW := Nat.lt_of_lt_of_le zX hbw.size
      clear HG hpb
      go_upto_region 7 with (go_at_call 21; (with_reducible refine mo0 (HD.out _) fun w1 hb1 hc1 hf1 _ => ?_))
      replace d0 := cell_on hb1 d0
      replace d1 := cell_on hb1 d1
      replace d2 := cell_on hb1 d2
      replace d3 := cell_on hb1 d3
      replace ct := cell_on hb1 ct
      replace cu := cell_on hb1 cu
      replace zW := Nat.lt_of_lt_of_le zW hb1.size
      replace hzw := Nat.lt_of_lt_of_le hzw hb1.size
      replace bW := below_step bW hb1
      clear hc1 hf1
      go_upto_region 8 with (go_at_call 22; (with_reducible refine (HB.out _ (below_step bW bi)).mono ?_); rintro e2 w2 ⟨A2, n2, c2, rfl, hr2, hb2⟩; obtain ⟨hc2, hf2, _⟩ := bc0 hb2)
      replace d0 := cell_on hb2 d0
      replace d1 := cell_on hb2 d1
      replace d2 := cell_on hb2 d2
      replace d3 := cell_on hb2 d3
      replace ct := cell_on hb2 ct
      replace cu := cell_on hb2 cu
      replace zW := Nat.lt_of_lt_of_le zW hb2.size
      replace hzw := Nat.lt_of_lt_of_le hzw hb2.size
      replace bW := below_step bW hb2
      clear hc2 hf2
      go_upto_region 9 with (go_at_call 23; (with_reducible refine mo0 (HC.out _ (below_step bW bi)) fun w3 hb3 hc3 hf3 _ => ?_))
      replace d0 := cell_on hb3 d0
      replace d1 := cell_on hb3 d1
      replace d2 := cell_on hb3 d2
      replace d3 := cell_on hb3 d3
      replace ct := cell_on hb3 ct
      replace cu := cell_on hb3 cu
      replace zW := Nat.lt_of_lt_of_le zW hb3.size
      replace hzw := Nat.lt_of_lt_of_le hzw hb3.size
      replace bW := below_step bW hb3
      clear hc3 hf3
      refine wp_region_T (fun w' => Below w3.heap.size w3 w') [] (by kernel_rfl) ?_
      refine tb 0 (.slice A n cap) [] rfl (by kernel_rfl) pk rfl (by intros; go_simp) bq0 ?_
      simp only [ppq]
      refine tb 2 (clv c) [] rfl (by kernel_rfl) pk rfl (by intros; go_simp) bq0 ?_
      simp only [ppq]
      refine rd1 1 (by kernel_rfl) rfl (fun K hK => ?_)
      go_simp
      go_wp2_with (go_at_call 24; (with_reducible refine mo0 (HJ.out _ (below_step bW bi)) fun w4 hb4 hc4 hf4 _ => ?_))
      have sS4 := qh (bst bq0 hb4)
      refine hK.out _ _ (fun _ => sS4.out) ?_
      clear hK K
      refine rd1 3 (by kernel_rfl) rfl (fun K hK => ?_)
      go_simp
      go_wp2_with (go_at_call 25; (with_reducible refine mo0 (HCL.out _) fun w5 hb5 hc5 hf5 _ => ?_))
      have sS5 := qh (bst sS4.out hb5)
      refine hK.out _ _ (fun _ => sS5.out) ?_
      clear hK K
      refine rd1 4 (by kernel_rfl) rfl (fun K hK => ?_)
      go_simp
      refine hK.out _ _ (fun _ => bi) ?_
      clear hK K
      refine rd1 5 (by kernel_rfl) rfl (fun K hK => ?_)
      go_simp
      refine hK.out _ _ (fun _ => bi) ?_
      clear hK K
      refine wpAnyT_done (by kernel_rfl) ?_ _
      have b5 : RowKit.Below w3.heap.size w3 w5 := bi
      replace d0 := cell_on b5 d0
      replace d1 := cell_on b5 d1
      replace d2 := cell_on b5 d2
      replace d3 := cell_on b5 d3
      replace ct := cell_on b5 ct
      replace cu := cell_on b5 cu
      replace zW := Nat.lt_of_lt_of_le zW b5.size
      replace hzw := Nat.lt_of_lt_of_le hzw b5.size
      replace bW := below_step bW b5
      clear hc4 hf4 hc5 hf5
      go_upto_region 12 with (first | (go_at_call 26; (with_reducible refine mo1 w (HI.out _ (below_step bW bi)) (by go_size) fun w6 hb6 hc6 hf6 hz6_0 _ => ?_)) | (go_at_call 27; (with_reducible refine mo1 w (HCP.out _) (by go_size) fun w7 hb7 hc7 hf7 hz7_0 _ => ?_)))
      have b7 : RowKit.Below w5.heap.size w5 w7 := bi
      replace d0 := cell_on b7 d0
      replace d1 := cell_on b7 d1
      replace d2 := cell_on b7 d2
      replace d3 := cell_on b7 d3
      replace ct := cell_on b7 ct
      replace cu := cell_on b7 cu
      replace zW := Nat.lt_of_lt_of_le zW b7.size
      replace hzw := Nat.lt_of_lt_of_le hzw b7.size
      replace bW := below_step bW b7
      clear hc6 hf6 hc7 hf7
      go_upto_region 13 with (first | (go_at_call 28; (with_reducible refine mo1 w (HCO.out _) (by go_size) fun w8 hb8 hc8 hf8 hz8_0 _ => ?_)) | (go_at_call 15; (with_reducible refine mo1 w (lfirst_ok (r := k1) iv2 (by omega) HONE.out) (by go_size) fun w9 hb9 hc9 hf9 hz9_0 _ => ?_)))
      have b9 : RowKit.Below w7.heap.size w7 w9 := bi
      replace d0 := cell_on b9 d0
      replace d1 := cell_on b9 d1
      replace d2 := cell_on b9 d2
      replace d3 := cell_on b9 d3
      replace ct := cell_on b9 ct
      replace cu := cell_on b9 cu
      replace zW := Nat.lt_of_lt_of_le zW b9.size
      replace hzw := Nat.lt_of_lt_of_le hzw b9.size
      replace bW := below_step bW b9
      clear hc8 hf8 hc9 hf9
      go_cut [97] (fun v wx => v = .bool false ∧ RowKit.Below w9.heap.size w9 wx)
      case first =>
        by_cases hz : k1 = 0
        · subst hz
          have hs : sb = s1 := by have := HS1.out; simpa using this
          subst hs
          go_wp2_with (go_at_call 29; (with_reducible refine mo1 w (HSU.out _) (by go_size) fun w10 hb10 hc10 hf10 hz10_0 _ => ?_))
          go_meet
          exact ⟨by simp, bi⟩
        · have q1 : (k1 == 0) = false := by simpa using hz
          have hs : false = s1 := by have := HS1.out; rw [← this]; simp [hz]
          subst hs
          clear hz
          go_wp2
          go_meet
          exact ⟨by simp, bi⟩
      case rest =>
        rename World => wy
        obtain ⟨rfl, b10⟩ := hcut
        replace d0 := cell_on b10 d0
        replace d1 := cell_on b10 d1
        replace d2 := cell_on b10 d2
        replace d3 := cell_on b10 d3
        replace zW := Nat.lt_of_lt_of_le zW b10.size
        replace bW := below_step bW b10
        have HR2 := qh (((((hr2.below hb3).below b5).below b7).below b9).below b10)
        clear ct cu hzw HSU HS1 HONE HCO HCP HCL HI HJ HB HC HD hr2 hb3 b5 b7 b9 b10 hbw hb1 hb2
        go_upto_region 17 with (go_at_call 15; (with_reducible refine mo1 w (lfirst_ok (r := kb) iv2 (by omega) HBAD.out) (by go_size) fun w11 hb11 hc11 hf11 hz11_0 _ => ?_))
        obtain ⟨hk2, hL2, hk3, ha3⟩ := HK.out
        have hab := HAB.out
        clear HK HAB HBAD
        have HLN : Hid (L2.length ≤ 100000) := qh (by rw [← hL2]; have := fansR_len (hs := hs) (c := c) (need := need); have := H.out.len; have := HH.out.2.1; omega)
        by_cases hz : kb = 0
        · subst hz
          have hn : n ≤ 1000 := by rw [← H.out.len]; exact wk_len hab
          rcases Int.lt_or_le need 0 with hq | hq
          · obtain ⟨j1, j2, j3, j4⟩ := wk_neg hab hq
            obtain rfl := j1.symm.trans hk2
            obtain rfl := j2.symm.trans hL2
            obtain rfl := j3.symm.trans hk3
            obtain rfl := j4.symm.trans ha3
            have q1 : decide (need < 0) = true := by simpa using hq
            have q2 : decide (need < 1) = true := by rw [decide_eq_true_iff]; omega
            clear hk2 hL2 hk3 ha3 hab j1 j2 j3 j4
            go_wp2_with (first | (go_at_call 30; (with_reducible refine (HF.out _ (below_step bW bi)).mono ?_); rintro e12 w12 ⟨A12, n12, c12, rfl, hr12, hb12⟩; obtain ⟨hc12, hf12, hz12_0, _⟩ := bc1 w hb12 (by go_size)) | (go_at_call 31; (with_reducible refine mo1 w (HWN.out _ (below_step bW bi)) (by go_size) fun w13 hb13 hc13 hf13 hz13_0 _ => ?_)) | (go_at_call 16; (with_reducible refine mo1 w (ints_fact (r := true) (HR2.out.below bi) Iv.zero (by have := HR2.out.len; have := HLN.out; omega) (by simp)) (by go_size) fun w14 hb14 hc14 hf14 hz14_0 _ => ?_)) | (go_at_call 32; (with_reducible refine mo1 w (number_ok (r := true) (by simp)) (by go_size) fun w15 hb15 hc15 hf15 hz15_0 _ => ?_)) | (go_at_call 8; (with_reducible refine mo0 (HA.out _ (below_step bW bi)) fun w16 hb16 hc16 hf16 _ => ?_)))
            go_ret
            exact ⟨rfl, below_step bW bi⟩
          · have q1 : decide (need < 0) = false := by rw [decide_eq_false_iff_not]; omega
            have HF := qh (fun W (hb : Below w.heap.size w W) => rfans_fine (cap := cap) (c := c) (h := H.out.below hb) hn hq)
            rcases Int.lt_or_le need 1 with ho | ho
            · have q2 : decide (need < 1) = true := by simpa using ho
              have h0 : need = 0 := by omega
              obtain ⟨j3, j4⟩ := wk_zero hab h0
              have hf : fewB hs c need = false := by unfold fewB; rw [decide_eq_false_iff_not]; omega
              obtain ⟨j1, j2⟩ := wk_fans hab hq hf
              obtain rfl := j1.symm.trans hk2
              obtain rfl := j3.symm.trans hk3
              obtain rfl := j4.symm.trans ha3
              rw [hf] at HF
              rw [← j2, hL2] at HF
              clear h0 ho
              clear hk2 hL2 hk3 ha3 hab j1 j2 j3 j4
              go_wp2_with (first | (go_at_call 30; (with_reducible refine (HF.out _ (below_step bW bi)).mono ?_); rintro e12 w12 ⟨A12, n12, c12, rfl, hr12, hb12⟩; obtain ⟨hc12, hf12, hz12_0, _⟩ := bc1 w hb12 (by go_size)) | (go_at_call 31; (with_reducible refine mo1 w (HWN.out _ (below_step bW bi)) (by go_size) fun w13 hb13 hc13 hf13 hz13_0 _ => ?_)) | (go_at_call 16; (with_reducible refine mo1 w (ints_fact (r := true) (HR2.out.below bi) (hr12.below bi) (by have := HR2.out.len; have := HLN.out; omega) (by simp)) (by go_size) fun w14 hb14 hc14 hf14 hz14_0 _ => ?_)) | (go_at_call 32; (with_reducible refine mo1 w (number_ok (r := true) (by simp)) (by go_size) fun w15 hb15 hc15 hf15 hz15_0 _ => ?_)) | (go_at_call 8; (with_reducible refine mo0 (HA.out _ (below_step bW bi)) fun w16 hb16 hc16 hf16 _ => ?_)))
              go_ret
              exact ⟨rfl, below_step bW bi⟩
            · have q2 : decide (need < 1) = false := by rw [decide_eq_false_iff_not]; omega
              obtain ⟨z, hz⟩ : ∃ z, winR (winO hs c need) = z := ⟨_, rfl⟩
              have HWN := qh (fun W (hb : Below w.heap.size w W) => rwindow_fine (cap := cap) (H.out.below hb) hn ho HW.out hz)
              obtain ⟨F, hf⟩ : ∃ F, fewB hs c need = F := ⟨_, rfl⟩
              rw [hf] at HF
              rcases wk_win hab ho hz with ⟨jz, j3, j4⟩ | ⟨jz, j3, j4⟩
              · obtain rfl := j3.symm.trans hk3
                obtain rfl := j4.symm.trans ha3
                have q3 : decide (z < 0) = true := by simpa using jz
                cases F with
                | false =>
                  obtain ⟨j1, j2⟩ := wk_fans hab hq hf
                  obtain rfl := j1.symm.trans hk2
                  rw [← j2, hL2] at HF
                  clear hk2 hL2 hk3 ha3 hab j1 j2 j3 j4
                  go_wp2_with (first | (go_at_call 30; (with_reducible refine (HF.out _ (below_step bW bi)).mono ?_); rintro e12 w12 ⟨A12, n12, c12, rfl, hr12, hb12⟩; obtain ⟨hc12, hf12, hz12_0, _⟩ := bc1 w hb12 (by go_size)) | (go_at_call 31; (with_reducible refine mo1 w (HWN.out _ (below_step bW bi)) (by go_size) fun w13 hb13 hc13 hf13 hz13_0 _ => ?_)) | (go_at_call 16; (with_reducible refine mo1 w (ints_fact (r := true) (HR2.out.below bi) (hr12.below bi) (by have := HR2.out.len; have := HLN.out; omega) (by simp)) (by go_size) fun w14 hb14 hc14 hf14 hz14_0 _ => ?_)) | (go_at_call 32; (with_reducible refine mo1 w (number_ok (r := true) (by simp)) (by go_size) fun w15 hb15 hc15 hf15 hz15_0 _ => ?_)) | (go_at_call 8; (with_reducible refine mo0 (HA.out _ (below_step bW bi)) fun w16 hb16 hc16 hf16 _ => ?_)))
                  go_ret
                  exact ⟨rfl, below_step bW bi⟩
                | true =>
                  obtain ⟨j1, j2⟩ := wk_few hab hq hf
                  obtain rfl := j1.symm.trans hk2
                  obtain rfl := j2.symm.trans hL2
                  clear hk2 hL2 hk3 ha3 hab j1 j2 j3 j4
                  go_wp2_with (first | (go_at_call 30; (with_reducible refine (HF.out _ (below_step bW bi)).mono ?_); rintro e12 w12 ⟨A12, n12, c12, rfl, hr12, hb12⟩; obtain ⟨hc12, hf12, hz12_0, _⟩ := bc1 w hb12 (by go_size)) | (go_at_call 31; (with_reducible refine mo1 w (HWN.out _ (below_step bW bi)) (by go_size) fun w13 hb13 hc13 hf13 hz13_0 _ => ?_)) | (go_at_call 16; (with_reducible refine mo1 w (ints_fact (r := true) (HR2.out.below bi) Iv.zero (by have := HR2.out.len; have := HLN.out; omega) (by simp)) (by go_size) fun w14 hb14 hc14 hf14 hz14_0 _ => ?_)) | (go_at_call 32; (with_reducible refine mo1 w (number_ok (r := true) (by simp)) (by go_size) fun w15 hb15 hc15 hf15 hz15_0 _ => ?_)) | (go_at_call 8; (with_reducible refine mo0 (HA.out _ (below_step bW bi)) fun w16 hb16 hc16 hf16 _ => ?_)))
                  go_ret
                  exact ⟨rfl, below_step bW bi⟩
              · obtain rfl := j3.symm.trans hk3
                obtain rfl := j4.symm.trans ha3
                have q3 : decide (z < 0) = false := by rw [decide_eq_false_iff_not]; omega
                cases F with
                | false =>
                  obtain ⟨j1, j2⟩ := wk_fans hab hq hf
                  obtain rfl := j1.symm.trans hk2
                  rw [← j2, hL2] at HF
                  clear hk2 hL2 hk3 ha3 hab j1 j2 j3 j4
                  go_wp2_with (first | (go_at_call 30; (with_reducible refine (HF.out _ (below_step bW bi)).mono ?_); rintro e12 w12 ⟨A12, n12, c12, rfl, hr12, hb12⟩; obtain ⟨hc12, hf12, hz12_0, _⟩ := bc1 w hb12 (by go_size)) | (go_at_call 31; (with_reducible refine mo1 w (HWN.out _ (below_step bW bi)) (by go_size) fun w13 hb13 hc13 hf13 hz13_0 _ => ?_)) | (go_at_call 16; (with_reducible refine mo1 w (ints_fact (r := true) (HR2.out.below bi) (hr12.below bi) (by have := HR2.out.len; have := HLN.out; omega) (by simp)) (by go_size) fun w14 hb14 hc14 hf14 hz14_0 _ => ?_)) | (go_at_call 32; (with_reducible refine mo1 w (number_ok (r := true) (by simp)) (by go_size) fun w15 hb15 hc15 hf15 hz15_0 _ => ?_)) | (go_at_call 8; (with_reducible refine mo0 (HA.out _ (below_step bW bi)) fun w16 hb16 hc16 hf16 _ => ?_)))
                  go_ret
                  exact ⟨rfl, below_step bW bi⟩
                | true =>
                  obtain ⟨j1, j2⟩ := wk_few hab hq hf
                  obtain rfl := j1.symm.trans hk2
                  obtain rfl := j2.symm.trans hL2
                  clear hk2 hL2 hk3 ha3 hab j1 j2 j3 j4
                  go_wp2_with (first | (go_at_call 30; (with_reducible refine (HF.out _ (below_step bW bi)).mono ?_); rintro e12 w12 ⟨A12, n12, c12, rfl, hr12, hb12⟩; obtain ⟨hc12, hf12, hz12_0, _⟩ := bc1 w hb12 (by go_size)) | (go_at_call 31; (with_reducible refine mo1 w (HWN.out _ (below_step bW bi)) (by go_size) fun w13 hb13 hc13 hf13 hz13_0 _ => ?_)) | (go_at_call 16; (with_reducible refine mo1 w (ints_fact (r := true) (HR2.out.below bi) Iv.zero (by have := HR2.out.len; have := HLN.out; omega) (by simp)) (by go_size) fun w14 hb14 hc14 hf14 hz14_0 _ => ?_)) | (go_at_call 32; (with_reducible refine mo1 w (number_ok (r := true) (by simp)) (by go_size) fun w15 hb15 hc15 hf15 hz15_0 _ => ?_)) | (go_at_call 8; (with_reducible refine mo0 (HA.out _ (below_step bW bi)) fun w16 hb16 hc16 hf16 _ => ?_)))
                  go_ret
                  exact ⟨rfl, below_step bW bi⟩
        · obtain ⟨j1, j2, j3, j4⟩ := wk_bad (need := need) hab hz
          obtain rfl := j1.symm.trans hk2
          obtain rfl := j2.symm.trans hL2
          obtain rfl := j3.symm.trans hk3
          obtain rfl := j4.symm.trans ha3
          have q1 : (kb == 0) = false := by simpa using hz
          clear hk2 hL2 hk3 ha3 hab j1 j2 j3 j4
          go_wp2_with (first | (go_at_call 30; (with_reducible refine (HF.out _ (below_step bW bi)).mono ?_); rintro e12 w12 ⟨A12, n12, c12, rfl, hr12, hb12⟩; obtain ⟨hc12, hf12, hz12_0, _⟩ := bc1 w hb12 (by go_size)) | (go_at_call 31; (with_reducible refine mo1 w (HWN.out _ (below_step bW bi)) (by go_size) fun w13 hb13 hc13 hf13 hz13_0 _ => ?_)) | (go_at_call 16; (with_reducible refine mo1 w (ints_fact (r := true) (HR2.out.below bi) Iv.zero (by have := HR2.out.len; have := HLN.out; omega) (by simp)) (by go_size) fun w14 hb14 hc14 hf14 hz14_0 _ => ?_)) | (go_at_call 32; (with_reducible refine mo1 w (number_ok (r := true) (by simp)) (by go_size) fun w15 hb15 hc15 hf15 hz15_0 _ => ?_)) | (go_at_call 8; (with_reducible refine mo0 (HA.out _ (below_step bW bi)) fun w16 hb16 hc16 hf16 _ => ?_)))
          go_ret
          exact ⟨rfl, below_step bW bi⟩
end
end Go.Proofs.YtnbnoacadhoimaaGreatDoor
namespace Go.Proofs.YtnbnoacadhoimaaGreatDoor
open Go Go.ChangeShapes Go.WideShapes Go.ChangeAt Go.RowKit Go.Deep Go.Joins

theorem open_hours {H : Type} {enc : TypeId × Value → H} {W : World} {A : Option Addr} {n c fuel : Nat} {x : DataW H × List MemPlace} (h : DataW.trod enc Tryz.prog W 0 (fun _ => true) true fuel 48 [.slice A n c] = some x) : (∃ ls, Hv W A n ls) ∧ n ≤ c := by
  rcases Go.Deep.open_slice_pairs Tryz.underlying48 Tryz.underlying52 (by kernel_rfl) rfl rfl (by kernel_rfl) (by kernel_rfl) h with ⟨hcs, _⟩ | ⟨a, len, cap, m, fu, V0, V1, D0, D1, P0, P1, hcs, _, hl, hm, hz, _, hcell⟩
  · simp at hcs
    obtain ⟨rfl, rfl, rfl⟩ := hcs
    exact ⟨⟨[], rfl, fun h => by omega⟩, Nat.le_refl _⟩
  · simp at hcs
    obtain ⟨rfl, rfl, rfl⟩ := hcs
    simp only [if_true] at hz
    obtain ⟨b, off, spot⟩ := a
    have s0 : ∀ i, i < m → ∃ s : Int, V0 i = .int .i64 s := fun i hi => by
      obtain ⟨s, h1, _, _⟩ := DataW.trod_int Tryz.underlying3 (hcell i hi).2.2.1
      exact ⟨s, by simpa using h1⟩
    have s1 : ∀ i, i < m → ∃ s : Int, V1 i = .int .i64 s := fun i hi => by
      obtain ⟨s, h1, _, _⟩ := DataW.trod_int Tryz.underlying3 (hcell i hi).2.2.2
      exact ⟨s, by simpa using h1⟩
    let num : Value → Int := fun v => match v with | .int _ s => s | _ => 0
    refine ⟨⟨(List.range n).map fun i => (num (V0 i), num (V1 i)), by simp, fun h0 => ?_⟩, hl⟩
    have hspot : spot = none := by simpa [Addr.add] using World.cell?_spot (hcell 0 (by omega)).1
    subst hspot
    have e0 : ∀ i, (⟨b, off, none⟩ : Addr).add i = ⟨b, off + i, none⟩ := fun i => by unfold Addr.add; split <;> simp_all
    refine ⟨b, off, rfl, World.block_lt_of_cell? W _ (hcell 0 (by omega)).1, fun j hj => ?_⟩
    rw [List.length_map, List.length_range] at hj
    have hj' : j < m := by omega
    obtain ⟨c0, c1, _, _⟩ := hcell j hj'
    obtain ⟨t0, q0⟩ := s0 j hj'
    obtain ⟨t1, q1⟩ := s1 j hj'
    rw [e0, q0] at c0
    rw [e0, q1] at c1
    rw [List.getD_eq_getElem?_getD, List.getElem?_map, List.getElem?_range hj, Option.map_some, Option.getD_some, c0, q0, q1]
    rw [← Nat.add_assoc] at c1
    rw [c1]
    exact ⟨rfl, rfl⟩
theorem open_climate {H : Type} {enc : TypeId × Value → H} {W : World} {sp : Nat → Bool} {held : Bool} {r : Reach} {b0 base : Nat} {v : Value} {d : DataW H} {ps : List MemPlace} (hval : Value.okWide Tryz.prog W r b0 50 v) (hd : DataW.Trod enc Tryz.prog W base sp held 50 v d ps) :
    ∃ x : Clim, v = clv x ∧ ps = [] := by
  have hc : Tryz.prog.cellsOf 50 = 4 := by kernel_rfl
  obtain ⟨f0, f1, f2, f3, hu, e0, e1, e2, e3⟩ : ∃ f0 f1 f2 f3 : Field, Tryz.prog.underlying 50 = some (.struct #[f0, f1, f2, f3]) ∧ f0.type = 3 ∧ f1.type = 3 ∧ f2.type = 3 ∧ f3.type = 3 := ⟨_, _, _, _, Tryz.underlying50, rfl, rfl, rfl, rfl⟩
  have hone : oneCellFields Tryz.prog #[f0, f1, f2, f3] = true := by
    have : (match Tryz.prog.underlying 50 with | some (.struct fs) => oneCellFields Tryz.prog fs | _ => false) = true := by kernel_rfl
    rw [hu] at this; exact this
  obtain ⟨v0, v1, v2, v3, y0, y1, y2, y3, n, rfl, _, hp, h0, h1, h2, h3⟩ := open_agg4 hu hone hc hval hd
  rw [e0] at h0
  rw [e1] at h1
  rw [e2] at h2
  rw [e3] at h3
  obtain ⟨z0, k0, x0, _⟩ := DataW.trod_int Tryz.underlying3 h0
  obtain ⟨z1, k1, x1, _⟩ := DataW.trod_int Tryz.underlying3 h1
  obtain ⟨z2, k2, x2, _⟩ := DataW.trod_int Tryz.underlying3 h2
  obtain ⟨z3, k3, x3, _⟩ := DataW.trod_int Tryz.underlying3 h3
  simp at k0 k1 k2 k3
  subst k0 k1 k2 k3
  exact ⟨⟨z0, z1, z2, z3⟩, rfl, by rw [hp, x0, x1, x2, x3]; rfl⟩
theorem weather_walk {w : World} {A : Option Addr} {n cap : Nat} {hs : List Hr} (hE : Env6 w) (h : Hv w A n hs) (hnc : n ≤ cap) (c : Clim) {need : Int} (hw : (Lit.int .i64 need).wf = true) :
    Calls Tryz.prog 5 #[.slice A n cap, clv c, .int .i64 need] w fun e w' => e = .returned (.bool true) ∧ Below w.heap.size w w' := by
  simp [Lit.wf, IntKind.min, IntKind.max, IntKind.signed, IntKind.bits] at hw
  by_cases h1 : (24 < n ∧ n ≤ 1000) ∨ 1010 < n
  · exact weather_out hE h1
  · exact weather_in hE h hnc (by omega) (by omega) (by omega)
end Go.Proofs.YtnbnoacadhoimaaGreatDoor
