/- The program's list of alarms. -/
import Derived.Test.YtnbnoacadhoimaaGreatDoorCeG
set_option linter.unusedSimpArgs false
set_option linter.unusedVariables false
set_option maxRecDepth 100000
set_option maxHeartbeats 8000000
namespace Go.Proofs.YtnbnoacadhoimaaGreatDoor
open Go Go.RowKit Go.Sort

theorem ixb (f : Nat → Bool) {j : Nat} (hj : j < 3) (W : World) : (Instr.index 95 (.agg #[.bool (f 0), .bool (f 1), .bool (f 2)]) (.int .i64 (j : Int))).run Tryz.prog W = .ok (.bool (f j)) W := by
  rcases (show j = 0 ∨ j = 1 ∨ j = 2 by omega) with rfl | rfl | rfl <;> simp [Instr.index, run_underlying Tryz.underlying95, asIntOf, go_sem]
theorem ixs {j : Nat} (hj : j < 3) (W : World) : (Instr.index 97 (.agg #[.string { data := #[104, 111, 116] }, .string { data := #[114, 105, 115, 101] }, .string { data := #[115, 112, 111, 116] }]) (.int .i64 (j : Int))).run Tryz.prog W = .ok (txt (kindT j)) W := by
  rcases (show j = 0 ∨ j = 1 ∨ j = 2 by omega) with rfl | rfl | rfl <;> simp [Instr.index, run_underlying Tryz.underlying97, asIntOf, go_sem, kindT]
/-- What Alarms says of its arguments. -/
def alE (rs : List (List Int)) (x : Wt) : Int := fnz [readE rs, watchE x]
section
variable {w : World} {A : Option Addr} {n c m : Nat} {rs : List (List Int)} {x : Wt}
theorem watch_fact {e : Int} (h : watchE x = e) : Calls Tryz.prog 13 #[wtv x] w fun e' w' => e' = .returned (.int .i64 e) ∧ Below w.heap.size w w' := h ▸ watch_ok x
set_option maxHeartbeats 16000000 in
theorem alarms_bad {k : Int} (h : Rv w A n rs) (hn : n ≤ 100000) (hl : ∀ z ∈ rs, z.length ≤ 100000) (hk : alE rs x = k) (h0 : k ≠ 0) :
    Calls Tryz.prog 9 #[.slice A n c, wtv x] w fun e w' => e = .returned (.tuple #[.slice none 0 0, .int .i64 k]) ∧ Below w.heap.size w w' := by
  obtain ⟨xa, xr, xi, xo⟩ := x
  obtain ⟨e1, he1⟩ : ∃ e, readE rs = e := ⟨_, rfl⟩
  obtain ⟨e2, he2⟩ : ∃ e, watchE ⟨xa, xr, xi, xo⟩ = e := ⟨_, rfl⟩
  have HE1 := qh he1
  have HE2 := qh he2
  unfold alE at hk
  rw [he1, he2] at hk
  have HK := qh hk
  have HH := qh h
  have HN := qh hn
  have HL := qh hl
  have q1 : (k != 0) = true := by rw [bne_iff_ne]; exact h0
  clear h hn hl hk he1 he2
  go_enter Tryz.func9, Tryz.ntmps9
  go_upto_region 1 with (fail)
  have BX := Blk.new w 24 #[.int .i64 xa, .int .i64 xr, .int .i64 xi, .int .i64 xo]
  have c0 := BX.cell 0
  have c1 := BX.cell 1
  have c2 := BX.cell 2
  have c3 := BX.cell 3
  have zX := BX.lt
  simp only [List.getElem?_toArray, List.getElem?_cons_zero, List.getElem?_cons_succ] at c0 c1 c2 c3
  have bV : Below w.heap.size w (w.alloc (.cells #[.int .i64 xa, .int .i64 xr, .int .i64 xi, .int .i64 xo] 24)) := bi
  obtain ⟨V, hV⟩ : ∃ V, w.alloc (.cells #[.int .i64 xa, .int .i64 xr, .int .i64 xi, .int .i64 xo] 24) = V := ⟨_, rfl⟩
  rw [hV] at c0 c1 c2 c3 zX bV ⊢
  clear hV BX
  have HRV : Hid (∀ W, Below V.heap.size V W → Rv W A n rs) := qh (fun W hW => (HH.out.below bV).below hW)
  have HCV := qh (And.intro c0 (And.intro c1 (And.intro c2 c3)))
  refine wp_region_T (fun w' => Below V.heap.size V w') [] (by kernel_rfl) ?_
  refine tb 0 (.slice A n c) [1] rfl (by kernel_rfl) pk rfl (by intros; go_simp) bq0 ?_
  simp only [ppq]
  refine tb 2 (wtv ⟨xa, xr, xi, xo⟩) [3] rfl (by kernel_rfl) pk rfl (by intros; go_simp) bq0 ?_
  simp only [ppq]
  refine rd1 1 (by kernel_rfl) rfl (fun K hK => ?_)
  go_simp
  go_wp2_with (go_at_call 12; (with_reducible refine mo0 (readings_ok (HRV.out _ bi) HN.out HL.out HE1.out) fun w1 hb1 hc1 hf1 _ => ?_))
  have sS1 := qh (bst bq0 hb1)
  refine hK.out _ _ (fun _ => sS1.out) ?_
  clear hK K
  refine rd1 3 (by kernel_rfl) rfl (fun K hK => ?_)
  go_simp
  go_wp2_with (go_at_call 13; (with_reducible refine mo0 (watch_fact HE2.out) fun w2 hb2 hc2 hf2 _ => ?_))
  have sS2 := qh (bst sS1.out hb2)
  refine hK.out _ _ (fun _ => sS2.out) ?_
  clear hK K
  refine rd1 4 (by kernel_rfl) rfl (fun K hK => ?_)
  go_simp
  refine hK.out _ _ (fun _ => bi) ?_
  clear hK K
  skip
  refine rd1 5 (by kernel_rfl) rfl (fun K hK => ?_)
  go_simp
  go_wp2_with (go_at_call 45; (with_reducible refine mo0 (first_ok (r := k) iv2 (by omega) HK.out) fun w3 hb3 hc3 hf3 _ => ?_))
  refine hK.out _ _ (fun _ => bi) ?_
  clear hK K
  refine rd1 6 (by kernel_rfl) rfl (fun K hK => ?_)
  go_simp
  refine hK.out _ _ (fun _ => bi) ?_
  clear hK K
  refine wpAnyT_done (by kernel_rfl) ?_ _
  have b3 : Below V.heap.size V w3 := bi
  clear c0 c1 c2 c3 hc1 hc2 hc3 hf1 hf2 hf3
  go_wp2
  exact bodyPost_ret (v := .tuple #[.slice none 0 0, .int .i64 k]) (by simp [results, Tryz.results9, go_sem]) rfl ⟨rfl, below_step bV bi⟩
theorem alT_mono (x : Wt) (m : Nat) (rs : List (List Int)) {t k j : Nat} (hk : k ≤ m) (hj : j ≤ 3) {n : Nat} (ht : t < n) (hs : 3 * m * n ≤ 256) : (alT x m rs t ++ alK x m rs t k).length + (alJ x m rs t k j).length ≤ 256 ∨ k = m := by
  by_cases e : k = m
  · exact .inr e
  · refine .inl ?_
    rw [List.length_append]
    have h1 := alT_len x m rs t
    have h2 := alK_len x m rs t k
    have h3 := alJ_len x m rs t k j
    have h4 : 3 * m * (t + 1) ≤ 3 * m * n := Nat.mul_le_mul_left _ ht
    rw [Nat.mul_add, Nat.mul_one] at h4
    omega
set_option maxHeartbeats 16000000 in
theorem palarms_ok (h : Rv w A n rs) (hnc : n ≤ c) (hg : Good m rs) (hx : watchB x = true) (hl : ∀ z ∈ rs, z.length ≤ 100000) (hk : readE rs = 0) (hs : 3 * m * n ≤ 256) (hn : n ≤ 1000) :
    Calls Tryz.prog 9 #[.slice A n c, wtv x] w fun e w' => ∃ A' n' c', e = .returned (.tuple #[.slice A' n' c', .int .i64 0]) ∧ OwnA w' w.heap.size (.slice A' n' c') n' (alT x m rs n) ∧ Below w.heap.size w w' := by
  have hE2 : watchE x = 0 := by unfold watchE; rw [if_pos hx]
  obtain ⟨xa, xr, xi, xo⟩ := x
  have HX := qh hx
  have HG := qh hg
  have HE1 := qh hk
  have HE2 := qh hE2
  have HK : Hid (fnz [0, 0] = 0) := qh rfl
  have HH := qh h
  have HN : Hid (n ≤ 100000) := qh (by omega)
  have HN2 := qh (And.intro hn hnc)
  have HL := qh hl
  have HB : Hid (∀ t, t < n → 3 * m * t + 3 * m ≤ 256) := qh (fun t ht => by
    have : 3 * m * (t + 1) ≤ 3 * m * n := Nat.mul_le_mul_left _ ht
    rw [Nat.mul_add, Nat.mul_one] at this
    omega)
  have hm64 := hg.m64
  have hn1 := hn
  clear h hnc hg hx hl hk hs hn hE2
  go_enter Tryz.func9, Tryz.ntmps9
  go_upto_region 1 with (fail)
  have BX := Blk.new w 24 #[.int .i64 xa, .int .i64 xr, .int .i64 xi, .int .i64 xo]
  have c0 := BX.cell 0
  have c1 := BX.cell 1
  have c2 := BX.cell 2
  have c3 := BX.cell 3
  have zX := BX.lt
  simp only [List.getElem?_toArray, List.getElem?_cons_zero, List.getElem?_cons_succ] at c0 c1 c2 c3
  have bV : Below w.heap.size w (w.alloc (.cells #[.int .i64 xa, .int .i64 xr, .int .i64 xi, .int .i64 xo] 24)) := bi
  obtain ⟨V, hV⟩ : ∃ V, w.alloc (.cells #[.int .i64 xa, .int .i64 xr, .int .i64 xi, .int .i64 xo] 24) = V := ⟨_, rfl⟩
  rw [hV] at c0 c1 c2 c3 zX bV ⊢
  clear hV BX
  have HRV : Hid (∀ W, Below V.heap.size V W → Rv W A n rs) := qh (fun W hW => (HH.out.below bV).below hW)
  have HCV := qh (And.intro c0 (And.intro c1 (And.intro c2 c3)))
  refine wp_region_T (fun w' => Below V.heap.size V w') [] (by kernel_rfl) ?_
  refine tb 0 (.slice A n c) [1] rfl (by kernel_rfl) pk rfl (by intros; go_simp) bq0 ?_
  simp only [ppq]
  refine tb 2 (wtv ⟨xa, xr, xi, xo⟩) [3] rfl (by kernel_rfl) pk rfl (by intros; go_simp) bq0 ?_
  simp only [ppq]
  refine rd1 1 (by kernel_rfl) rfl (fun K hK => ?_)
  go_simp
  go_wp2_with (go_at_call 12; (with_reducible refine mo0 (readings_ok (HRV.out _ bi) HN.out HL.out HE1.out) fun w1 hb1 hc1 hf1 _ => ?_))
  have sS1 := qh (bst bq0 hb1)
  refine hK.out _ _ (fun _ => sS1.out) ?_
  clear hK K
  refine rd1 3 (by kernel_rfl) rfl (fun K hK => ?_)
  go_simp
  go_wp2_with (go_at_call 13; (with_reducible refine mo0 (watch_fact HE2.out) fun w2 hb2 hc2 hf2 _ => ?_))
  have sS2 := qh (bst sS1.out hb2)
  refine hK.out _ _ (fun _ => sS2.out) ?_
  clear hK K
  refine rd1 4 (by kernel_rfl) rfl (fun K hK => ?_)
  go_simp
  refine hK.out _ _ (fun _ => bi) ?_
  clear hK K
  skip
  refine rd1 5 (by kernel_rfl) rfl (fun K hK => ?_)
  go_simp
  go_wp2_with (go_at_call 45; (with_reducible refine mo0 (first_ok (r := 0) iv2 (by omega) HK.out) fun w3 hb3 hc3 hf3 _ => ?_))
  refine hK.out _ _ (fun _ => bi) ?_
  clear hK K
  refine rd1 6 (by kernel_rfl) rfl (fun K hK => ?_)
  go_simp
  refine hK.out _ _ (fun _ => bi) ?_
  clear hK K
  refine wpAnyT_done (by kernel_rfl) ?_ _
  have b3 : Below V.heap.size V w3 := bi
  clear c0 c1 c2 c3 hc1 hc2 hc3 hf1 hf2 hf3
  go_wp2
  clear HE1 HE2 HK
  go_loopw [7, 23] (fun v u wr => ∃ (t nn co : Nat) (Ao : Option Addr), u = .int .i64 (t : Int) ∧ v = .slice Ao nn co ∧ t ≤ n ∧ Below V.heap.size V wr ∧ OwnA wr V.heap.size (.slice Ao nn co) nn (alT ⟨xa, xr, xi, xo⟩ m rs t)) (fun _ u _ => n - (intOf u).toNat)
  case atStart => exact ⟨0, 0, 0, none, rfl, rfl, Nat.zero_le _, b3, World.ownsRow_nil _ _ _ _⟩
  case round =>
    obtain ⟨t, nn, co, Ao, rfl, rfl, htn, hb, how⟩ := hrel
    have _ := bm hb
    rename World => wo
    have HOW := qh how
    clear how
    by_cases ht : t < n
    · have p0 : decide (t < n) = true := by simpa using ht
      have HT := qh ht
      obtain ⟨b, o, rfl, hbl, hat⟩ := (HRV.out V (Below.refl _ _)).at_ (by omega)
      obtain ⟨B, l, e, k0, kv⟩ := hat t ht
      have hlm : l = m := by rw [← HG.out.len _ (getD_in (d := ([] : List Int)) (show t < rs.length by rw [HH.out.len]; exact ht))]; exact kv.len.symm
      subst hlm
      replace k0 := cell_on hb k0
      have zb : b < wo.heap.size := World.block_lt_of_cell? wo _ k0
      clear hat kv
      go_wp2
      go_loopw [7, 31] (fun v u wr => ∃ (k nn co : Nat) (Ao : Option Addr), u = .int .i64 (k : Int) ∧ v = .slice Ao nn co ∧ k ≤ l ∧ Below V.heap.size V wr ∧ OwnA wr V.heap.size (.slice Ao nn co) nn (alT ⟨xa, xr, xi, xo⟩ l rs t ++ alK ⟨xa, xr, xi, xo⟩ l rs t k)) (fun _ u _ => l - (intOf u).toNat)
      case atStart => exact ⟨0, nn, co, Ao, rfl, rfl, Nat.zero_le _, hb, by rw [alK, List.append_nil]; exact HOW.out⟩
      case round =>
        obtain ⟨k, nn, co, Ao, rfl, rfl, hkl, hbk, how⟩ := hrel
        have _ := bm hbk
        rename World => wq
        have HO2 := qh how
        clear how
        by_cases hk : k < l
        · have p1 : decide (k < l) = true := by simpa using hk
          have HK := qh (And.intro ht hk)
          have c0 := cell_on hbk HCV.out.1
          have c1 := cell_on hbk HCV.out.2.1
          have c2 := cell_on hbk HCV.out.2.2.1
          have c3 := cell_on hbk HCV.out.2.2.2
          have HF := qh (fun W (hW : Below V.heap.size V W) => alarms_ok (c := c) (x := ⟨xa, xr, xi, xo⟩) (HRV.out W hW) HN2.out.2 HG.out HX.out HK.out.1 HK.out.2)
          have HI : Hid (∀ j : Nat, j < 3 → ∀ W, (Instr.index 95 (.agg #[.bool (hotB ⟨xa, xr, xi, xo⟩ rs t k), .bool (riseB ⟨xa, xr, xi, xo⟩ rs t k), .bool (spotB ⟨xa, xr, xi, xo⟩ l rs t k)]) (.int .i64 (j : Int))).run Tryz.prog W = .ok (.bool (kindB ⟨xa, xr, xi, xo⟩ l rs t k j)) W) := qh (fun j hj W => ixb (kindB ⟨xa, xr, xi, xo⟩ l rs t k) hj W)
          have HLB : Hid (∀ j : Nat, j ≤ 3 → ∀ nn, (alT ⟨xa, xr, xi, xo⟩ l rs t ++ alK ⟨xa, xr, xi, xo⟩ l rs t k ++ alJ ⟨xa, xr, xi, xo⟩ l rs t k j).length = nn → nn ≤ 256) := qh (fun j hj nn e => by
            rw [List.length_append, List.length_append] at e
            have h1 := alT_len ⟨xa, xr, xi, xo⟩ l rs t
            have h2 := alK_len ⟨xa, xr, xi, xo⟩ l rs t k
            have h3 := alJ_len ⟨xa, xr, xi, xo⟩ l rs t k j
            have h4 := HB.out t ht
            omega)
          clear HB HX hn1 zX b3 hb1 hb2 hb3
          go_wp2_with (go_at_call 46; (with_reducible refine mz (HF.out _ bi) fun w7 hb7 _ => ?_))
          clear c0 c1 c2 c3
          go_loopw [7, 39] (fun v u wr => ∃ (j nn co : Nat) (Ao : Option Addr), u = .int .i64 (j : Int) ∧ v = .slice Ao nn co ∧ j ≤ 3 ∧ Below V.heap.size V wr ∧ OwnA wr V.heap.size (.slice Ao nn co) nn (alT ⟨xa, xr, xi, xo⟩ l rs t ++ alK ⟨xa, xr, xi, xo⟩ l rs t k ++ alJ ⟨xa, xr, xi, xo⟩ l rs t k j)) (fun _ u _ => 3 - (intOf u).toNat)
          case atStart => exact ⟨0, nn, co, Ao, rfl, rfl, Nat.zero_le _, below_step hbk hb7, by rw [alJ, List.append_nil]; exact HO2.out.below hb7⟩
          case round =>
            obtain ⟨j, nn, co, Ao, rfl, rfl, hj3, hbj, how⟩ := hrel
            have _ := bm hbj
            have HO3 := qh how
            have hn9 : nn ≤ 256 := HLB.out j hj3 nn how.n
            have hz := hbj.size
            clear how HOW HO2 HF
            by_cases hj : j < 3
            · have hI := HI.out j hj
              have hS := fun W => ixs hj W
              have p2 : decide ((j : Int) < 3) = true := by rw [decide_eq_true_iff]; omega
              have HS : Hid (alT ⟨xa, xr, xi, xo⟩ l rs t ++ alK ⟨xa, xr, xi, xo⟩ l rs t k ++ alJ ⟨xa, xr, xi, xo⟩ l rs t k (j + 1) = (alT ⟨xa, xr, xi, xo⟩ l rs t ++ alK ⟨xa, xr, xi, xo⟩ l rs t k ++ alJ ⟨xa, xr, xi, xo⟩ l rs t k j) ++ if kindB ⟨xa, xr, xi, xo⟩ l rs t k j then [((t : Int), (k : Int), kindT j)] else []) := qh (alJ_snoc _ j)
              obtain ⟨g, hgg⟩ : ∃ g, kindB ⟨xa, xr, xi, xo⟩ l rs t k j = g := ⟨_, rfl⟩
              rw [hgg] at HS hI
              have HJ := qh hj
              clear hgg HI HLB
              cases g with
              | false =>
                clear hS
                go_wp2
                exact ⟨⟨j + 1, nn, co, Ao, by simp, rfl, HJ.out, hbj, by rw [HS.out, if_neg (by decide), List.append_nil]; exact HO3.out⟩, by have := HJ.out; simp [intOf]; omega⟩
              | true =>
                go_wp2_with (at_builtin; refine wpList_append_a (x := ((t : Int), (k : Int), kindT j)) (n := nn) (base := V.heap.size) rfl _ _ rfl rfl rfl rfl (HO3.out.alloc _) (by omega) (by simp; omega) (by simp) (by simp) (by simp) ?_; intro A5 c5 w5 ho5 hg5 hl5)
                exact ⟨⟨j + 1, nn + 1, c5, A5, by simp, rfl, HJ.out, below_app hbj HO3.out hz hg5, by rw [HS.out]; simpa using ho5⟩, by have := HJ.out; simp [intOf]; omega⟩
            · have p2 : decide ((j : Int) < 3) = false := by rw [decide_eq_false_iff_not]; omega
              obtain rfl : j = 3 := by omega
              have q1 : decide ((256 : Int) < (nn : Int)) = false := by rw [decide_eq_false_iff_not]; omega
              have q2 : decide (256 < nn) = false := by rw [decide_eq_false_iff_not]; omega
              have hkl := HK.out.2
              clear hj HI HLB
              go_wp2
              go_roundw
              case rel => exact ⟨k + 1, nn, co, Ao, by simp, rfl, hkl, hbj, by rw [alK, ← List.append_assoc]; exact HO3.out⟩
              case measure => simp [intOf]; omega
        · have p1 : decide (k < l) = false := by simpa using hk
          obtain rfl : k = l := by omega
          clear hk hkl
          go_wp2
          go_roundw
          case rel => exact ⟨t + 1, nn, co, Ao, by simp, rfl, HT.out, hbk, by rw [alT]; exact HO2.out⟩
          case measure => have := HT.out; simp [intOf]; omega
    · have p0 : decide (t < n) = false := by simpa using ht
      obtain rfl : t = n := by omega
      clear ht htn
      go_wp2
      exact bodyPost_ret (v := .tuple #[.slice Ao nn co, .int .i64 0]) (by simp [results, Tryz.results9, go_sem]) rfl ⟨Ao, nn, co, rfl, own_le HOW.out bV.size, below_step bV bi⟩
end
end Go.Proofs.YtnbnoacadhoimaaGreatDoor
