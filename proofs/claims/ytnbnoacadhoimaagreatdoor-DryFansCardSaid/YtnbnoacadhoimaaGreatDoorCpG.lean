/- The law DryCables: the walk. -/
import Derived.Test.YtnbnoacadhoimaaGreatDoorCcG
import Derived.Test.YtnbnoacadhoimaaGreatDoorCjG
import Derived.Test.YtnbnoacadhoimaaGreatDoorCeG
import Derived.Test.YtnbnoacadhoimaaGreatDoorCh
import Derived.Test.YtnbnoacadhoimaaGreatDoorCg
import Derived.Test.YtnbnoacadhoimaaGreatDoorEiG
import Derived.Test.YtnbnoacadhoimaaGreatDoorRows
import Derived.Lib.LaidTab
import Derived.WalkKit
import Derived.OpenShut
import Derived.Carry
import Derived.Deep.DeepHandedRow
import Derived.Stop.LaidErr
import Derived.Lay
import Derived.MakeChecks
import Derived.Shelf.Vars
import Derived.ChangeSame
import Derived.Lib.SmallJoins
import Derived.Deep.Matrix
set_option linter.unusedSimpArgs false
set_option linter.unusedVariables false
set_option maxRecDepth 100000
set_option maxHeartbeats 8000000
namespace Go.Proofs.YtnbnoacadhoimaaGreatDoor
open Go Go.RowKit Go.Sort

/-- What the examples read of the program's variables. -/
structure Env6 (w : World) : Prop where
  tab : Lib.TabBelow Tryz.prog w.heap.size w "internal/strconv.uint64pow10" .u64 Lib.pow10Tab
  max : ∃ m, w.cell? ⟨0, 0, none⟩ = some m
theorem Env6.awake {w W : World} (h : Env6 w) (hb : Below w.heap.size w W) : Calls Tryz.prog 8 #[] W fun e w' => e = .returned (.bool true) ∧ Below W.heap.size W w' := by
  obtain ⟨m, hm⟩ := h.max
  exact E6.awake6 (h.tab W hb) ⟨m, cell_on hb hm⟩
section
variable {w : World} {A : Option Addr} {n c : Nat} {rs : List (List Int)} {x : Wt}
theorem cables_out (hE : Env6 w) (h : Rv w A n rs) (hg : rowsG rs = false) :
    Calls Tryz.prog 3 #[.slice A n c, wtv x] w fun e w' => e = .returned (.bool true) ∧ Below w.heap.size w w' := by
  obtain ⟨xa, xr, xi, xo⟩ := x
  have HA := qh (fun W (hb : Below w.heap.size w W) => hE.awake hb)
  have HG := qh (fun W (hb : Below w.heap.size w W) => rows_ok (c := c) (h.below hb) hg)
  clear hE h hg
  go_enter Tryz.func3, Tryz.ntmps3
  go_upto_region 1 with (fail)
  have BX := Blk.new w 24 #[.int .i64 xa, .int .i64 xr, .int .i64 xi, .int .i64 xo]
  have d0 := BX.cell 0
  have d1 := BX.cell 1
  have d2 := BX.cell 2
  have d3 := BX.cell 3
  have zX := BX.lt
  simp only [List.getElem?_toArray, List.getElem?_cons_zero, List.getElem?_cons_succ] at d0 d1 d2 d3
  have bV : Below w.heap.size w (w.alloc (.cells #[.int .i64 xa, .int .i64 xr, .int .i64 xi, .int .i64 xo] 24)) := bi
  obtain ⟨V, hV⟩ : ∃ V, w.alloc (.cells #[.int .i64 xa, .int .i64 xr, .int .i64 xi, .int .i64 xo] 24) = V := ⟨_, rfl⟩
  rw [hV] at d0 d1 d2 d3 zX bV ⊢
  clear hV BX
  go_wp2_with (first | (go_at_call 7; (with_reducible refine mo0 (HG.out _ (below_step bV bi)) fun w1 hb1 hc1 hf1 _ => ?_)) | (go_at_call 8; (with_reducible refine mo0 (HA.out _ (below_step bV bi)) fun w2 hb2 hc2 hf2 _ => ?_)))
  go_ret
  exact ⟨rfl, below_step bV bi⟩
theorem rwatch_fact {e : Int} (h : watchE x = e) : Calls Tryz.prog 14 #[wtv x] w fun e' w' => e' = .returned (.int .i64 e) ∧ Below w.heap.size w w' := h ▸ rwatch_ok x
set_option maxHeartbeats 16000000 in
theorem cables_bad {k : Int} (hE : Env6 w) (h : Rv w A n rs) (hg : rowsG rs = true) (hk : readE rs = k) (h0 : k ≠ 0) :
    Calls Tryz.prog 3 #[.slice A n c, wtv x] w fun e w' => e = .returned (.bool true) ∧ Below w.heap.size w w' := by
  obtain ⟨xa, xr, xi, xo⟩ := x
  obtain ⟨r1, r2, r3⟩ := rowsG_true hg
  rw [h.len] at r1
  have hl : ∀ z ∈ rs, z.length ≤ 100000 := fun z hz => by have := r2 z hz; omega
  have HA := qh (fun W (hb : Below w.heap.size w W) => hE.awake hb)
  have HG := qh (fun W (hb : Below w.heap.size w W) => rows_ok (c := c) (h.below hb) hg)
  obtain ⟨q, hq⟩ : ∃ q, watchE ⟨xa, xr, xi, xo⟩ = q := ⟨_, rfl⟩
  have hee : alE rs ⟨xa, xr, xi, xo⟩ = k := by unfold alE; rw [hk, hq, fnz, if_neg h0]
  have HEE : Hid (fnz [k, q] = k) := qh (by rw [fnz, if_neg h0])
  have HWE := qh hq
  have HB := qh (fun W (hb : Below w.heap.size w W) => alarms_bad (c := c) (x := ⟨xa, xr, xi, xo⟩) (h.below hb) (by omega) hl hee h0)
  have HQ := qh (fun W (hb : Below w.heap.size w W) => ranking_bad (c := c) (h.below hb) (by omega) hl hk h0)
  have HR := qh (fun W (hb : Below w.heap.size w W) => rread_ok (c := c) (h.below hb) hl hk)
  have HP := qh (fun W (hb : Below w.heap.size w W) => readings_ok (c := c) (h.below hb) (by omega) hl hk)
  have p1 : (k != 0) = true := by rw [bne_iff_ne]; exact h0
  clear hE h hg hk r1 r2 r3 hl hee hq h0
  go_enter Tryz.func3, Tryz.ntmps3
  go_upto_region 1 with (fail)
  have BX := Blk.new w 24 #[.int .i64 xa, .int .i64 xr, .int .i64 xi, .int .i64 xo]
  have d0 := BX.cell 0
  have d1 := BX.cell 1
  have d2 := BX.cell 2
  have d3 := BX.cell 3
  have zX := BX.lt
  simp only [List.getElem?_toArray, List.getElem?_cons_zero, List.getElem?_cons_succ] at d0 d1 d2 d3
  have bV : Below w.heap.size w (w.alloc (.cells #[.int .i64 xa, .int .i64 xr, .int .i64 xi, .int .i64 xo] 24)) := bi
  obtain ⟨V, hV⟩ : ∃ V, w.alloc (.cells #[.int .i64 xa, .int .i64 xr, .int .i64 xi, .int .i64 xo] 24) = V := ⟨_, rfl⟩
  rw [hV] at d0 d1 d2 d3 zX bV ⊢
  clear hV BX
  go_upto_region 6 with (first | (go_at_call 7; (with_reducible refine mo0 (HG.out _ (below_step bV bi)) fun w1 hb1 hc1 hf1 _ => ?_)) | (go_at_call 9; (with_reducible refine mo0 (HB.out _ (below_step bV bi)) fun w2 hb2 hc2 hf2 _ => ?_)) | (go_at_call 10; (with_reducible refine mo0 (HQ.out _ (below_step bV bi)) fun w3 hb3 hc3 hf3 _ => ?_)) | (go_at_call 11; (with_reducible refine mo0 (HR.out _ (below_step bV bi)) fun w4 hb4 hc4 hf4 _ => ?_)))
  have b4 : Below V.heap.size V w4 := bi
  obtain ⟨U, hU⟩ : ∃ U, w4 = U := ⟨_, rfl⟩
  rw [hU] at b4 ⊢
  have bU := below_step bV b4
  replace d0 := cell_on b4 d0
  replace d1 := cell_on b4 d1
  replace d2 := cell_on b4 d2
  replace d3 := cell_on b4 d3
  have zU := Nat.lt_of_lt_of_le zX b4.size
  clear hU hc1 hc2 hc3 hc4 hf1 hf2 hf3 hf4 hb1 hb2 hb3 hb4 b4
  refine wp_region_T (fun w' => Below U.heap.size U w') [] (by kernel_rfl) ?_
  refine tb 0 (.slice A n c) [] rfl (by kernel_rfl) pk rfl (by intros; go_simp) bq0 ?_
  simp only [ppq]
  refine tb 2 (.int .i64 k) [] rfl (by kernel_rfl) pk rfl (by intros; go_simp) bq0 ?_
  simp only [ppq]
  refine rd1 1 (by kernel_rfl) rfl (fun K hK => ?_)
  go_simp
  go_wp2_with (go_at_call 12; (with_reducible refine mo1 w (HP.out _ (below_step bU bi)) (by go_size) fun w11 hb11 hc11 hf11 hz11_0 _ => ?_))
  have sS11 := qh (bst bq0 hb11)
  refine hK.out _ _ (fun _ => sS11.out) ?_
  clear hK K
  refine rd1 3 (by kernel_rfl) rfl (fun K hK => ?_)
  go_simp
  refine hK.out _ _ (fun _ => bi) ?_
  clear hK K
  refine rd1 4 (by kernel_rfl) rfl (fun K hK => ?_)
  go_simp
  refine hK.out _ _ (fun _ => bi) ?_
  clear hK K
  refine tb 5 (wtv ⟨xa, xr, xi, xo⟩) [] rfl (by kernel_rfl) pk rfl (by intros; go_simp) sS11.out ?_
  simp only [ppq]
  refine tb 7 (wtv ⟨xa, xr, xi, xo⟩) [] rfl (by kernel_rfl) pk rfl (by intros; go_simp) sS11.out ?_
  simp only [ppq]
  refine rd1 6 (by kernel_rfl) rfl (fun K hK => ?_)
  go_simp
  go_wp2_with (go_at_call 13; (with_reducible refine mo1 w (watch_fact HWE.out) (by go_size) fun w12 hb12 hc12 hf12 hz12_0 _ => ?_))
  have sS12 := qh (bst sS11.out hb12)
  refine hK.out _ _ (fun _ => sS12.out) ?_
  clear hK K
  refine rd1 8 (by kernel_rfl) rfl (fun K hK => ?_)
  go_simp
  go_wp2_with (go_at_call 14; (with_reducible refine mo1 w (rwatch_fact HWE.out) (by go_size) fun w13 hb13 hc13 hf13 hz13_0 _ => ?_))
  have sS13 := qh (bst sS12.out hb13)
  refine hK.out _ _ (fun _ => sS13.out) ?_
  clear hK K
  refine rd1 9 (by kernel_rfl) rfl (fun K hK => ?_)
  go_simp
  refine hK.out _ _ (fun _ => bi) ?_
  clear hK K
  refine rd1 10 (by kernel_rfl) rfl (fun K hK => ?_)
  go_simp
  refine hK.out _ _ (fun _ => bi) ?_
  clear hK K
  refine rd1 11 (by kernel_rfl) rfl (fun K hK => ?_)
  go_simp
  refine hK.out _ _ (fun _ => bi) ?_
  clear hK K
  refine tb 12 (.int .i64 k) [] rfl (by kernel_rfl) pk rfl (by intros; go_simp) sS13.out ?_
  simp only [ppq]
  refine tb 13 (.int .i64 k) [] rfl (by kernel_rfl) pk rfl (by intros; go_simp) sS13.out ?_
  simp only [ppq]
  refine rd1 14 (by kernel_rfl) rfl (fun K hK => ?_)
  go_simp
  refine hK.out _ _ (fun _ => bi) ?_
  clear hK K
  refine rd1 15 (by kernel_rfl) rfl (fun K hK => ?_)
  go_simp
  refine hK.out _ _ (fun _ => bi) ?_
  clear hK K
  refine rd1 16 (by kernel_rfl) rfl (fun K hK => ?_)
  go_simp
  refine hK.out _ _ (fun _ => bi) ?_
  clear hK K
  refine tb 17 (.int .i64 k) [] rfl (by kernel_rfl) pk rfl (by intros; go_simp) sS13.out ?_
  simp only [ppq]
  refine tb 18 (.int .i64 k) [] rfl (by kernel_rfl) pk rfl (by intros; go_simp) sS13.out ?_
  simp only [ppq]
  refine tb 19 (wtv ⟨xa, xr, xi, xo⟩) [] rfl (by kernel_rfl) pk rfl (by intros; go_simp) sS13.out ?_
  simp only [ppq]
  refine rd1 20 (by kernel_rfl) rfl (fun K hK => ?_)
  go_simp
  go_wp2_with (go_at_call 14; (with_reducible refine mo1 w (rwatch_fact HWE.out) (by go_size) fun w14 hb14 hc14 hf14 hz14_0 _ => ?_))
  have sS14 := qh (bst sS13.out hb14)
  refine hK.out _ _ (fun _ => sS14.out) ?_
  clear hK K
  refine rd1 21 (by kernel_rfl) rfl (fun K hK => ?_)
  go_simp
  refine hK.out _ _ (fun _ => bi) ?_
  clear hK K
  skip
  refine rd1 22 (by kernel_rfl) rfl (fun K hK => ?_)
  go_simp
  go_wp2_with (go_at_call 15; (with_reducible refine mo1 w (lfirst_ok (r := k) iv2 (by omega) HEE.out) (by go_size) fun w15 hb15 hc15 hf15 hz15_0 _ => ?_))
  refine hK.out _ _ (fun _ => bi) ?_
  clear hK K
  refine rd1 23 (by kernel_rfl) rfl (fun K hK => ?_)
  go_simp
  refine hK.out _ _ (fun _ => bi) ?_
  clear hK K
  refine rd1 24 (by kernel_rfl) rfl (fun K hK => ?_)
  go_simp
  refine hK.out _ _ (fun _ => bi) ?_
  clear hK K
  refine wpAnyT_done (by kernel_rfl) ?_ _
  go_wp2_with (go_at_call 8; (with_reducible refine mo0 (HA.out _ (below_step bU bi)) fun w16 hb16 hc16 hf16 _ => ?_))
  go_ret
  exact ⟨rfl, below_step bU bi⟩
theorem ranking_fine {m : Nat} (h : Rv w A n rs) (hg : Good m rs) (h0 : 0 < n) (hk : readE rs = 0) (h20 : m < 20) :
    Calls Tryz.prog 10 #[.slice A n c] w fun e w' => ∃ A' n' c', e = .returned (.tuple #[.slice A' n' c', .int .i64 0]) ∧ Iv w' A' n' ((rkL (lastR rs) (beforeR rs) m).map Int.ofNat) ∧ Below w.heap.size w w' := by
  refine (ranking_ok (c := c) h hg h0 hk h20).mono ?_
  rintro e w' ⟨v, rfl, hr, hb⟩
  rw [stab_rkL _ _ hg.m0] at hr
  have hz : OwnZ w' w.heap.size v m ((rkL (lastR rs) (beforeR rs) m).map Int.ofNat) := by
    unfold OwnZ
    rw [List.map_map]
    exact hr
  obtain ⟨A', c', rfl⟩ := hz.form
  exact ⟨A', m, c', rfl, OwnZ.iv hz (by rw [List.length_map, rkL_len]), hb⟩
theorem rranking_fine {m : Nat} (h : Rv w A n rs) (hg : Good m rs) (h0 : 0 < n) :
    Calls Tryz.prog 17 #[.slice A n c] w fun e w' => ∃ A' n' c', e = .returned (.slice A' n' c') ∧ Iv w' A' n' ((rkL (lastR rs) (beforeR rs) m).map Int.ofNat) ∧ Below w.heap.size w w' := by
  refine (rranking_ok (c := c) h hg h0).mono ?_
  rintro e w' ⟨v, rfl, hz, hb⟩
  obtain ⟨A', c', rfl⟩ := hz.form
  exact ⟨A', m, c', rfl, OwnZ.iv hz (by rw [List.length_map, rkL_len]), hb⟩
theorem palarms_fine {m : Nat} (h : Rv w A n rs) (hnc : n ≤ c) (hg : Good m rs) (hx : watchB x = true) (hl : ∀ z ∈ rs, z.length ≤ 100000) (hk : readE rs = 0) (hs : 3 * m * n ≤ 256) (hn : n ≤ 1000) :
    Calls Tryz.prog 9 #[.slice A n c, wtv x] w fun e w' => ∃ A' n' c', e = .returned (.tuple #[.slice A' n' c', .int .i64 0]) ∧ (Lv w' A' n' (alT x m rs n) ∧ n' ≤ c') ∧ Below w.heap.size w w' := by
  refine (palarms_ok (c := c) h hnc hg hx hl hk hs hn).mono ?_
  rintro e w' ⟨A', n', c', rfl, ho, hb⟩
  refine ⟨A', n', c', rfl, ⟨OwnA.lv ho ho.n, ?_⟩, hb⟩
  rcases ho.2 with ⟨e, e0⟩ | ⟨g, cap, cur, e, _, _, h1, _⟩
  · omega
  · cases e; exact h1
theorem ralarms_fine {m : Nat} (h : Rv w A n rs) (hg : Good m rs) (hx : watchB x = true) (hs : 3 * m * n ≤ 80000) (hn : n ≤ 1000) :
    Calls Tryz.prog 19 #[.slice A n c, wtv x] w fun e w' => ∃ A' n' c', e = .returned (.slice A' n' c') ∧ Lv w' A' n' (alT x m rs n) ∧ Below w.heap.size w w' := by
  refine (ralarms_ok (c := c) h hg hx hs hn).mono ?_
  rintro e w' ⟨A', n', c', rfl, ho, hb⟩
  exact ⟨A', n', c', rfl, OwnA.lv ho ho.n, hb⟩
set_option maxHeartbeats 16000000 in
theorem cables_watch (hE : Env6 w) (h : Rv w A n rs) (hg : rowsG rs = true) (hk : readE rs = 0) (hx : watchB x = false) :
    Calls Tryz.prog 3 #[.slice A n c, wtv x] w fun e w' => e = .returned (.bool true) ∧ Below w.heap.size w w' := by
  obtain ⟨xa, xr, xi, xo⟩ := x
  obtain ⟨r1, r2, r3⟩ := rowsG_true hg
  have h10 := r3 hk
  obtain ⟨h0, hG⟩ := good_of hk
  have hm8 := h10.2 _ (getD_in (d := ([] : List Int)) h0)
  obtain ⟨m, hm⟩ : ∃ m, (rs.getD 0 []).length = m := ⟨_, rfl⟩
  rw [hm] at hG hm8
  rw [h.len] at r1 h10 h0
  have hl : ∀ z ∈ rs, z.length ≤ 100000 := fun z hz => by have := r2 z hz; omega
  have HA := qh (fun W (hb : Below w.heap.size w W) => hE.awake hb)
  have HG := qh (fun W (hb : Below w.heap.size w W) => rows_ok (c := c) (h.below hb) hg)
  have HQ := qh (fun W (hb : Below w.heap.size w W) => ranking_fine (c := c) (h.below hb) hG h0 hk (by omega))
  have HS := qh (fun W (hb : Below w.heap.size w W) => rranking_fine (c := c) (h.below hb) hG h0)
  have HR := qh (fun W (hb : Below w.heap.size w W) => rread_ok (c := c) (h.below hb) hl hk)
  have HP := qh (fun W (hb : Below w.heap.size w W) => readings_ok (c := c) (h.below hb) (by omega) hl hk)
  obtain ⟨L, hL⟩ : ∃ L, (rkL (lastR rs) (beforeR rs) m).map Int.ofNat = L := ⟨_, rfl⟩
  have hLl : L.length ≤ 100000 := by rw [← hL, List.length_map, rkL_len]; omega
  rw [hL] at HQ HS
  have hq : watchE ⟨xa, xr, xi, xo⟩ = 3 := by unfold watchE; rw [hx]; rfl
  have hee : alE rs ⟨xa, xr, xi, xo⟩ = 3 := by unfold alE; rw [hk, hq]; rfl
  have HEE : Hid (fnz [0, 3] = 3) := qh rfl
  have HWE := qh hq
  have HB := qh (fun W (hb : Below w.heap.size w W) => alarms_bad (c := c) (x := ⟨xa, xr, xi, xo⟩) (h.below hb) (by omega) hl hee (by decide))
  have HLL := qh hLl
  clear hE h hg hk r1 r2 r3 hl hee hq hx h10 h0 hG hm8 hm hL hLl
  go_enter Tryz.func3, Tryz.ntmps3
  go_upto_region 1 with (fail)
  have BX := Blk.new w 24 #[.int .i64 xa, .int .i64 xr, .int .i64 xi, .int .i64 xo]
  have d0 := BX.cell 0
  have d1 := BX.cell 1
  have d2 := BX.cell 2
  have d3 := BX.cell 3
  have zX := BX.lt
  simp only [List.getElem?_toArray, List.getElem?_cons_zero, List.getElem?_cons_succ] at d0 d1 d2 d3
  have bV : Below w.heap.size w (w.alloc (.cells #[.int .i64 xa, .int .i64 xr, .int .i64 xi, .int .i64 xo] 24)) := bi
  obtain ⟨V, hV⟩ : ∃ V, w.alloc (.cells #[.int .i64 xa, .int .i64 xr, .int .i64 xi, .int .i64 xo] 24) = V := ⟨_, rfl⟩
  rw [hV] at d0 d1 d2 d3 zX bV ⊢
  clear hV BX
  go_upto_region 6 with (first | (go_at_call 7; (with_reducible refine mo0 (HG.out _ (below_step bV bi)) fun w1 hb1 hc1 hf1 _ => ?_)) | (go_at_call 9; (with_reducible refine mo0 (HB.out _ (below_step bV bi)) fun w2 hb2 hc2 hf2 _ => ?_)) | (go_at_call 10; (with_reducible refine (HQ.out _ (below_step bV bi)).mono ?_); rintro e3 w3 ⟨A3, n3, c3, rfl, hr3, hb3⟩; obtain ⟨hc3, hf3, _⟩ := bc0 hb3) | (go_at_call 11; (with_reducible refine mo0 (HR.out _ (below_step bV bi)) fun w4 hb4 hc4 hf4 _ => ?_)))
  have b4 : Below V.heap.size V w4 := bi
  obtain ⟨U, hU⟩ : ∃ U, w4 = U := ⟨_, rfl⟩
  have hr3 := hr3.below hb4
  rw [hU] at b4 hr3 ⊢
  have bU := below_step bV b4
  replace d0 := cell_on b4 d0
  replace d1 := cell_on b4 d1
  replace d2 := cell_on b4 d2
  replace d3 := cell_on b4 d3
  have zU := Nat.lt_of_lt_of_le zX b4.size
  have HR3 := qh hr3
  clear hU hc1 hc2 hc3 hc4 hf1 hf2 hf3 hf4 hb1 hb2 hb3 hb4 b4 hr3
  refine wp_region_T (fun w' => Below U.heap.size U w') [] (by kernel_rfl) ?_
  refine tb 0 (.slice A n c) [] rfl (by kernel_rfl) pk rfl (by intros; go_simp) bq0 ?_
  simp only [ppq]
  refine tb 2 (.int .i64 0) [] rfl (by kernel_rfl) pk rfl (by intros; go_simp) bq0 ?_
  simp only [ppq]
  refine rd1 1 (by kernel_rfl) rfl (fun K hK => ?_)
  go_simp
  go_wp2_with (go_at_call 12; (with_reducible refine mo1 w (HP.out _ (below_step bU bi)) (by go_size) fun w11 hb11 hc11 hf11 hz11_0 _ => ?_))
  have sS11 := qh (bst bq0 hb11)
  refine hK.out _ _ (fun _ => sS11.out) ?_
  clear hK K
  refine rd1 3 (by kernel_rfl) rfl (fun K hK => ?_)
  go_simp
  refine hK.out _ _ (fun _ => bi) ?_
  clear hK K
  refine rd1 4 (by kernel_rfl) rfl (fun K hK => ?_)
  go_simp
  refine hK.out _ _ (fun _ => bi) ?_
  clear hK K
  refine tb 5 (wtv ⟨xa, xr, xi, xo⟩) [] rfl (by kernel_rfl) pk rfl (by intros; go_simp) sS11.out ?_
  simp only [ppq]
  refine tb 7 (wtv ⟨xa, xr, xi, xo⟩) [] rfl (by kernel_rfl) pk rfl (by intros; go_simp) sS11.out ?_
  simp only [ppq]
  refine rd1 6 (by kernel_rfl) rfl (fun K hK => ?_)
  go_simp
  go_wp2_with (go_at_call 13; (with_reducible refine mo1 w (watch_fact HWE.out) (by go_size) fun w12 hb12 hc12 hf12 hz12_0 _ => ?_))
  have sS12 := qh (bst sS11.out hb12)
  refine hK.out _ _ (fun _ => sS12.out) ?_
  clear hK K
  refine rd1 8 (by kernel_rfl) rfl (fun K hK => ?_)
  go_simp
  go_wp2_with (go_at_call 14; (with_reducible refine mo1 w (rwatch_fact HWE.out) (by go_size) fun w13 hb13 hc13 hf13 hz13_0 _ => ?_))
  have sS13 := qh (bst sS12.out hb13)
  refine hK.out _ _ (fun _ => sS13.out) ?_
  clear hK K
  refine rd1 9 (by kernel_rfl) rfl (fun K hK => ?_)
  go_simp
  refine hK.out _ _ (fun _ => bi) ?_
  clear hK K
  refine rd1 10 (by kernel_rfl) rfl (fun K hK => ?_)
  go_simp
  refine hK.out _ _ (fun _ => bi) ?_
  clear hK K
  refine rd1 11 (by kernel_rfl) rfl (fun K hK => ?_)
  go_simp
  refine hK.out _ _ (fun _ => bi) ?_
  clear hK K
  refine tb 12 (.int .i64 0) [] rfl (by kernel_rfl) pk rfl (by intros; go_simp) sS13.out ?_
  simp only [ppq]
  refine tb 13 (.int .i64 0) [] rfl (by kernel_rfl) pk rfl (by intros; go_simp) sS13.out ?_
  simp only [ppq]
  refine rd1 14 (by kernel_rfl) rfl (fun K hK => ?_)
  go_simp
  refine hK.out _ _ (fun _ => bi) ?_
  clear hK K
  refine rd1 15 (by kernel_rfl) rfl (fun K hK => ?_)
  go_simp
  refine hK.out _ _ (fun _ => bi) ?_
  clear hK K
  refine rd1 16 (by kernel_rfl) rfl (fun K hK => ?_)
  go_simp
  refine hK.out _ _ (fun _ => bi) ?_
  clear hK K
  refine tb 17 (.int .i64 3) [] rfl (by kernel_rfl) pk rfl (by intros; go_simp) sS13.out ?_
  simp only [ppq]
  refine tb 18 (.int .i64 0) [] rfl (by kernel_rfl) pk rfl (by intros; go_simp) sS13.out ?_
  simp only [ppq]
  refine tb 19 (wtv ⟨xa, xr, xi, xo⟩) [] rfl (by kernel_rfl) pk rfl (by intros; go_simp) sS13.out ?_
  simp only [ppq]
  refine rd1 20 (by kernel_rfl) rfl (fun K hK => ?_)
  go_simp
  go_wp2_with (go_at_call 14; (with_reducible refine mo1 w (rwatch_fact HWE.out) (by go_size) fun w14 hb14 hc14 hf14 hz14_0 _ => ?_))
  have sS14 := qh (bst sS13.out hb14)
  refine hK.out _ _ (fun _ => sS14.out) ?_
  clear hK K
  refine rd1 21 (by kernel_rfl) rfl (fun K hK => ?_)
  go_simp
  refine hK.out _ _ (fun _ => bi) ?_
  clear hK K
  skip
  refine rd1 22 (by kernel_rfl) rfl (fun K hK => ?_)
  go_simp
  go_wp2_with (go_at_call 15; (with_reducible refine mo1 w (lfirst_ok (r := 3) iv2 (by omega) HEE.out) (by go_size) fun w15 hb15 hc15 hf15 hz15_0 _ => ?_))
  refine hK.out _ _ (fun _ => bi) ?_
  clear hK K
  refine rd1 23 (by kernel_rfl) rfl (fun K hK => ?_)
  go_simp
  refine hK.out _ _ (fun _ => bi) ?_
  clear hK K
  refine rd1 24 (by kernel_rfl) rfl (fun K hK => ?_)
  go_simp
  refine hK.out _ _ (fun _ => bi) ?_
  clear hK K
  refine wpAnyT_done (by kernel_rfl) ?_ _
  go_wp2_with (first | (go_at_call 17; (with_reducible refine (HS.out _ (below_step bU bi)).mono ?_); rintro e16 w16 ⟨A16, n16, c16, rfl, hr16, hb16⟩; obtain ⟨hc16, hf16, hz16_0, _⟩ := bc1 w hb16 (by go_size)) | (go_at_call 16; (with_reducible refine mo1 w (ints_fact (r := true) (HR3.out.below bi) hr16 (by have := HR3.out.len; have := HLL.out; omega) (by simp)) (by go_size) fun w17 hb17 hc17 hf17 hz17_0 _ => ?_)) | (go_at_call 14; (with_reducible refine mo1 w (rwatch_fact HWE.out) (by go_size) fun w18 hb18 hc18 hf18 hz18_0 _ => ?_)) | (go_at_call 8; (with_reducible refine mo0 (HA.out _ (below_step bU bi)) fun w19 hb19 hc19 hf19 _ => ?_)))
  go_ret
  exact ⟨rfl, below_step bU bi⟩
set_option maxHeartbeats 16000000 in
theorem cables_fine (hE : Env6 w) (h : Rv w A n rs) (hnc : n ≤ c) (hg : rowsG rs = true) (hk : readE rs = 0) (hx : watchB x = true) :
    Calls Tryz.prog 3 #[.slice A n c, wtv x] w fun e w' => e = .returned (.bool true) ∧ Below w.heap.size w w' := by
  obtain ⟨xa, xr, xi, xo⟩ := x
  obtain ⟨r1, r2, r3⟩ := rowsG_true hg
  have h10 := r3 hk
  obtain ⟨h0, hG⟩ := good_of hk
  have hm8 := h10.2 _ (getD_in (d := ([] : List Int)) h0)
  obtain ⟨m, hm⟩ : ∃ m, (rs.getD 0 []).length = m := ⟨_, rfl⟩
  rw [hm] at hG hm8
  rw [h.len] at r1 h10 h0
  have hl : ∀ z ∈ rs, z.length ≤ 100000 := fun z hz => by have := r2 z hz; omega
  have HA := qh (fun W (hb : Below w.heap.size w W) => hE.awake hb)
  have HG := qh (fun W (hb : Below w.heap.size w W) => rows_ok (c := c) (h.below hb) hg)
  have HQ := qh (fun W (hb : Below w.heap.size w W) => ranking_fine (c := c) (h.below hb) hG h0 hk (by omega))
  have HS := qh (fun W (hb : Below w.heap.size w W) => rranking_fine (c := c) (h.below hb) hG h0)
  have HR := qh (fun W (hb : Below w.heap.size w W) => rread_ok (c := c) (h.below hb) hl hk)
  have HP := qh (fun W (hb : Below w.heap.size w W) => readings_ok (c := c) (h.below hb) (by omega) hl hk)
  obtain ⟨L, hL⟩ : ∃ L, (rkL (lastR rs) (beforeR rs) m).map Int.ofNat = L := ⟨_, rfl⟩
  have hLl : L.length ≤ 100000 := by rw [← hL, List.length_map, rkL_len]; omega
  rw [hL] at HQ HS
  have hq : watchE ⟨xa, xr, xi, xo⟩ = 0 := by unfold watchE; rw [hx]; rfl
  have HEE : Hid (fnz [0, 0] = 0) := qh rfl
  have HWE := qh hq
  have hmn : 3 * m * n ≤ 240 := by
    have : 3 * m * n ≤ 24 * 10 := Nat.mul_le_mul (by omega) h10.1
    exact this
  have HB := qh (fun W (hb : Below w.heap.size w W) => palarms_fine (c := c) (x := ⟨xa, xr, xi, xo⟩) (h.below hb) hnc hG hx hl hk (by omega) (by omega))
  have HD := qh (fun W (hb : Below w.heap.size w W) => ralarms_fine (c := c) (x := ⟨xa, xr, xi, xo⟩) (h.below hb) hG hx (by omega) (by omega))
  obtain ⟨M, hM⟩ : ∃ M, alT ⟨xa, xr, xi, xo⟩ m rs n = M := ⟨_, rfl⟩
  have hMl : M.length ≤ 100000 := by rw [← hM]; have := alT_len ⟨xa, xr, xi, xo⟩ m rs n; omega
  rw [hM] at HB HD
  have HLL := qh (And.intro hLl hMl)
  clear hE h hg hk r1 r2 r3 hl hq hx h10 h0 hG hm8 hm hL hLl hnc hmn hM hMl
  go_enter Tryz.func3, Tryz.ntmps3
  go_upto_region 1 with (fail)
  have BX := Blk.new w 24 #[.int .i64 xa, .int .i64 xr, .int .i64 xi, .int .i64 xo]
  have d0 := BX.cell 0
  have d1 := BX.cell 1
  have d2 := BX.cell 2
  have d3 := BX.cell 3
  have zX := BX.lt
  simp only [List.getElem?_toArray, List.getElem?_cons_zero, List.getElem?_cons_succ] at d0 d1 d2 d3
  have bV : Below w.heap.size w (w.alloc (.cells #[.int .i64 xa, .int .i64 xr, .int .i64 xi, .int .i64 xo] 24)) := bi
  obtain ⟨V, hV⟩ : ∃ V, w.alloc (.cells #[.int .i64 xa, .int .i64 xr, .int .i64 xi, .int .i64 xo] 24) = V := ⟨_, rfl⟩
  rw [hV] at d0 d1 d2 d3 zX bV ⊢
  clear hV BX
  go_upto_region 6 with (first | (go_at_call 7; (with_reducible refine mo0 (HG.out _ (below_step bV bi)) fun w1 hb1 hc1 hf1 _ => ?_)) | (go_at_call 9; (with_reducible refine (HB.out _ (below_step bV bi)).mono ?_); rintro e2 w2 ⟨A2, n2, c2, rfl, hr2, hb2⟩; obtain ⟨hc2, hf2, _⟩ := bc0 hb2) | (go_at_call 10; (with_reducible refine (HQ.out _ (below_step bV bi)).mono ?_); rintro e3 w3 ⟨A3, n3, c3, rfl, hr3, hb3⟩; obtain ⟨hc3, hf3, _⟩ := bc0 hb3) | (go_at_call 11; (with_reducible refine mo0 (HR.out _ (below_step bV bi)) fun w4 hb4 hc4 hf4 _ => ?_)))
  have hr2 := (hr2.1.below hb3).below hb4
  have b4 : Below V.heap.size V w4 := bi
  obtain ⟨U, hU⟩ : ∃ U, w4 = U := ⟨_, rfl⟩
  have hr3 := hr3.below hb4
  rw [hU] at b4 hr3 hr2 ⊢
  have bU := below_step bV b4
  replace d0 := cell_on b4 d0
  replace d1 := cell_on b4 d1
  replace d2 := cell_on b4 d2
  replace d3 := cell_on b4 d3
  have zU := Nat.lt_of_lt_of_le zX b4.size
  have HR3 := qh (And.intro hr3 hr2)
  clear hU hc1 hc2 hc3 hc4 hf1 hf2 hf3 hf4 hb1 hb2 hb3 hb4 b4 hr3 hr2
  refine wp_region_T (fun w' => Below U.heap.size U w') [] (by kernel_rfl) ?_
  refine tb 0 (.slice A n c) [] rfl (by kernel_rfl) pk rfl (by intros; go_simp) bq0 ?_
  simp only [ppq]
  refine tb 2 (.int .i64 0) [] rfl (by kernel_rfl) pk rfl (by intros; go_simp) bq0 ?_
  simp only [ppq]
  refine rd1 1 (by kernel_rfl) rfl (fun K hK => ?_)
  go_simp
  go_wp2_with (go_at_call 12; (with_reducible refine mo1 w (HP.out _ (below_step bU bi)) (by go_size) fun w11 hb11 hc11 hf11 hz11_0 _ => ?_))
  have sS11 := qh (bst bq0 hb11)
  refine hK.out _ _ (fun _ => sS11.out) ?_
  clear hK K
  refine rd1 3 (by kernel_rfl) rfl (fun K hK => ?_)
  go_simp
  refine hK.out _ _ (fun _ => bi) ?_
  clear hK K
  refine rd1 4 (by kernel_rfl) rfl (fun K hK => ?_)
  go_simp
  refine hK.out _ _ (fun _ => bi) ?_
  clear hK K
  refine tb 5 (wtv ⟨xa, xr, xi, xo⟩) [] rfl (by kernel_rfl) pk rfl (by intros; go_simp) sS11.out ?_
  simp only [ppq]
  refine tb 7 (wtv ⟨xa, xr, xi, xo⟩) [] rfl (by kernel_rfl) pk rfl (by intros; go_simp) sS11.out ?_
  simp only [ppq]
  refine rd1 6 (by kernel_rfl) rfl (fun K hK => ?_)
  go_simp
  go_wp2_with (go_at_call 13; (with_reducible refine mo1 w (watch_fact HWE.out) (by go_size) fun w12 hb12 hc12 hf12 hz12_0 _ => ?_))
  have sS12 := qh (bst sS11.out hb12)
  refine hK.out _ _ (fun _ => sS12.out) ?_
  clear hK K
  refine rd1 8 (by kernel_rfl) rfl (fun K hK => ?_)
  go_simp
  go_wp2_with (go_at_call 14; (with_reducible refine mo1 w (rwatch_fact HWE.out) (by go_size) fun w13 hb13 hc13 hf13 hz13_0 _ => ?_))
  have sS13 := qh (bst sS12.out hb13)
  refine hK.out _ _ (fun _ => sS13.out) ?_
  clear hK K
  refine rd1 9 (by kernel_rfl) rfl (fun K hK => ?_)
  go_simp
  refine hK.out _ _ (fun _ => bi) ?_
  clear hK K
  refine rd1 10 (by kernel_rfl) rfl (fun K hK => ?_)
  go_simp
  refine hK.out _ _ (fun _ => bi) ?_
  clear hK K
  refine rd1 11 (by kernel_rfl) rfl (fun K hK => ?_)
  go_simp
  refine hK.out _ _ (fun _ => bi) ?_
  clear hK K
  refine tb 12 (.int .i64 0) [] rfl (by kernel_rfl) pk rfl (by intros; go_simp) sS13.out ?_
  simp only [ppq]
  refine tb 13 (.int .i64 0) [] rfl (by kernel_rfl) pk rfl (by intros; go_simp) sS13.out ?_
  simp only [ppq]
  refine rd1 14 (by kernel_rfl) rfl (fun K hK => ?_)
  go_simp
  refine hK.out _ _ (fun _ => bi) ?_
  clear hK K
  refine rd1 15 (by kernel_rfl) rfl (fun K hK => ?_)
  go_simp
  refine hK.out _ _ (fun _ => bi) ?_
  clear hK K
  refine rd1 16 (by kernel_rfl) rfl (fun K hK => ?_)
  go_simp
  refine hK.out _ _ (fun _ => bi) ?_
  clear hK K
  refine tb 17 (.int .i64 0) [] rfl (by kernel_rfl) pk rfl (by intros; go_simp) sS13.out ?_
  simp only [ppq]
  refine tb 18 (.int .i64 0) [] rfl (by kernel_rfl) pk rfl (by intros; go_simp) sS13.out ?_
  simp only [ppq]
  refine tb 19 (wtv ⟨xa, xr, xi, xo⟩) [] rfl (by kernel_rfl) pk rfl (by intros; go_simp) sS13.out ?_
  simp only [ppq]
  refine rd1 20 (by kernel_rfl) rfl (fun K hK => ?_)
  go_simp
  go_wp2_with (go_at_call 14; (with_reducible refine mo1 w (rwatch_fact HWE.out) (by go_size) fun w14 hb14 hc14 hf14 hz14_0 _ => ?_))
  have sS14 := qh (bst sS13.out hb14)
  refine hK.out _ _ (fun _ => sS14.out) ?_
  clear hK K
  refine rd1 21 (by kernel_rfl) rfl (fun K hK => ?_)
  go_simp
  refine hK.out _ _ (fun _ => bi) ?_
  clear hK K
  skip
  refine rd1 22 (by kernel_rfl) rfl (fun K hK => ?_)
  go_simp
  go_wp2_with (go_at_call 15; (with_reducible refine mo1 w (lfirst_ok (r := 0) iv2 (by omega) HEE.out) (by go_size) fun w15 hb15 hc15 hf15 hz15_0 _ => ?_))
  refine hK.out _ _ (fun _ => bi) ?_
  clear hK K
  refine rd1 23 (by kernel_rfl) rfl (fun K hK => ?_)
  go_simp
  refine hK.out _ _ (fun _ => bi) ?_
  clear hK K
  refine rd1 24 (by kernel_rfl) rfl (fun K hK => ?_)
  go_simp
  refine hK.out _ _ (fun _ => bi) ?_
  clear hK K
  refine wpAnyT_done (by kernel_rfl) ?_ _
  go_wp2_with (first | (go_at_call 17; (with_reducible refine (HS.out _ (below_step bU bi)).mono ?_); rintro e16 w16 ⟨A16, n16, c16, rfl, hr16, hb16⟩; obtain ⟨hc16, hf16, hz16_0, _⟩ := bc1 w hb16 (by go_size)) | (go_at_call 16; (with_reducible refine mo1 w (ints_fact (r := true) (HR3.out.1.below bi) hr16 (by have := HR3.out.1.len; have := HLL.out.1; omega) (by simp)) (by go_size) fun w17 hb17 hc17 hf17 hz17_0 _ => ?_)) | (go_at_call 14; (with_reducible refine mo1 w (rwatch_fact HWE.out) (by go_size) fun w18 hb18 hc18 hf18 hz18_0 _ => ?_)) | (go_at_call 19; (with_reducible refine (HD.out _ (below_step bU bi)).mono ?_); rintro e19 w19 ⟨A19, n19, c19, rfl, hr19, hb19⟩; obtain ⟨hc19, hf19, hz19_0, _⟩ := bc1 w hb19 (by go_size)) | (go_at_call 18; (with_reducible refine mo1 w (sameAlarms_fact (r := true) (HR3.out.2.below bi) hr19 (by have := HR3.out.2.len; have := HLL.out.2; omega) (by simp)) (by go_size) fun w20 hb20 hc20 hf20 hz20_0 _ => ?_)) | (go_at_call 8; (with_reducible refine mo0 (HA.out _ (below_step bU bi)) fun w21 hb21 hc21 hf21 _ => ?_)))
  go_ret
  exact ⟨rfl, below_step bU bi⟩
theorem cables_walk (hE : Env6 w) (h : Rv w A n rs) (hnc : n ≤ c) (x : Wt) :
    Calls Tryz.prog 3 #[.slice A n c, wtv x] w fun e w' => e = .returned (.bool true) ∧ Below w.heap.size w w' := by
  cases hg : rowsG rs with
  | false => exact cables_out hE h hg
  | true =>
    by_cases hk : readE rs = 0
    · cases hx : watchB x with
      | false => exact cables_watch hE h hg hk hx
      | true => exact cables_fine hE h hnc hg hk hx
    · exact cables_bad hE h hg rfl hk
end
end Go.Proofs.YtnbnoacadhoimaaGreatDoor
namespace Go.Proofs.YtnbnoacadhoimaaGreatDoor
open Go Go.ChangeShapes Go.WideShapes Go.ChangeAt Go.RowKit Go.Deep Go.Joins

theorem own6 : ownKnob Tryz.prog.godebug = none := by kernel_rfl
theorem laidOut6 : laidOutB Tryz.prog = true := by kernel_rfl
theorem gPow6 : Tryz.prog.globalNamed "internal/strconv.uint64pow10" = some 5 := by kernel_rfl
theorem gPowType6 : (Tryz.prog.globals[5]?).map (·.type) = some 293 := by kernel_rfl
theorem cellsPow6 : Tryz.prog.cellsOf 293 = 20 := by kernel_rfl
theorem cellsU646 : Tryz.prog.cellsOf 208 = 1 := by kernel_rfl
theorem laidMetH.plain6 {l : List (String × DataW Unit)} {W : World} (h : laidMetH Tryz.prog l W) (hp : (l.all fun x => x.2.handleName?.isNone) = true) : laidMet Tryz.prog l W := by
  rw [MakeChecks.laidMetH_plain _ _ _ hp] at h; exact h
theorem env6_of {W : World} {l : List (String × DataW Unit)} (h : laidMet Tryz.prog (("internal/strconv.uint64pow10", Rows.laid_internal_strconv_uint64pow10) :: l) W) (hs : W.ShapedOpen Tryz.prog) : Env6 W := by
  obtain ⟨m, hm⟩ := Go.Proofs.cell_of_shapedOpen_int (g := 0) (zero := #[.int .i64 0]) (t := 3) hs (of_decide_eq_true (by kernel_rfl)) (by kernel_rfl) rfl (by kernel_rfl) (by kernel_rfl) Tryz.underlying3
  exact ⟨Lib.tabBelow_of_tabIs (Lib.tabIs_of_head (zs := Lib.pow10Tab) gPow6 gPowType6 Tryz.underlying293 Tryz.underlying208 cellsU646 cellsPow6 h), ⟨_, hm⟩⟩
theorem cellsInt6 : Tryz.prog.cellsOf 3 = 1 := by kernel_rfl
theorem cellsInts6 : Tryz.prog.cellsOf 31 = 1 := by kernel_rfl
theorem open_rows {H : Type} {enc : TypeId × Value → H} {W : World} {A : Option Addr} {n c fuel : Nat} {x : DataW H × List MemPlace} (h : DataW.trod enc Tryz.prog W 0 (fun _ => true) true fuel 22 [.slice A n c] = some x) : (∃ rs, Rv W A n rs) ∧ n ≤ c := by
  rcases Go.Deep.open_int_rows Tryz.underlying22 Tryz.underlying31 Tryz.underlying3 cellsInts6 cellsInt6 h with ⟨hcs, _⟩ | ⟨a, len, cap, A', L, C, Z, hcs, _, hl, hm, _, hrow⟩
  · simp at hcs
    obtain ⟨rfl, rfl, rfl⟩ := hcs
    exact ⟨⟨[], rfl, fun h => by omega⟩, Nat.le_refl _⟩
  · simp at hcs
    obtain ⟨rfl, rfl, rfl⟩ := hcs
    refine ⟨⟨(List.range n).map fun r => (Z r).take (L r), by simp, fun h0 => ?_⟩, hl⟩
    obtain ⟨b, off, spot⟩ := a
    have hspot : spot = none := by simpa [Addr.add] using World.cell?_spot (hrow 0 (by omega)).1
    subst hspot
    refine ⟨b, off, rfl, World.block_lt_of_cell? W _ (hrow 0 (by omega)).1, fun j hj => ?_⟩
    obtain ⟨k1, k2, k3, k4, k5, k6, k7⟩ := hrow j (by omega)
    have e0 : ∀ i, (⟨b, off, none⟩ : Addr).add i = ⟨b, off + i, none⟩ := fun i => by unfold Addr.add; split <;> simp_all
    rw [e0] at k1
    refine ⟨A' j, L j, C j, k1, ?_⟩
    rw [List.getD_eq_getElem?_getD, List.getElem?_map, List.getElem?_range hj, Option.map_some, Option.getD_some]
    refine ⟨by rw [List.length_take]; omega, fun hL => ?_⟩
    cases hA : A' j with
    | none => have := k6 hA; omega
    | some a' =>
      obtain ⟨b', off', spot'⟩ := a'
      have hc0 := (k7 _ hA).2 0 (by omega)
      have hspot' : spot' = none := by simpa [Addr.add] using World.cell?_spot hc0
      subst hspot'
      refine ⟨b', off', rfl, World.block_lt_of_cell? W _ hc0, fun i hi => ?_⟩
      have e1 : (⟨b', off', none⟩ : Addr).add i = ⟨b', off' + i, none⟩ := by unfold Addr.add; split <;> simp_all
      have := (k7 _ hA).2 i (by omega)
      rw [e1] at this
      rw [this, List.getD_eq_getElem?_getD, List.getD_eq_getElem?_getD, List.getElem?_take, if_pos hi]
theorem open_watch {H : Type} {enc : TypeId × Value → H} {W : World} {sp : Nat → Bool} {held : Bool} {r : Reach} {b0 base : Nat} {v : Value} {d : DataW H} {ps : List MemPlace} (hval : Value.okWide Tryz.prog W r b0 24 v) (hd : DataW.Trod enc Tryz.prog W base sp held 24 v d ps) :
    ∃ x : Wt, v = wtv x ∧ ps = [] := by
  have hc : Tryz.prog.cellsOf 24 = 4 := by kernel_rfl
  obtain ⟨f0, f1, f2, f3, hu, e0, e1, e2, e3⟩ : ∃ f0 f1 f2 f3 : Field, Tryz.prog.underlying 24 = some (.struct #[f0, f1, f2, f3]) ∧ f0.type = 3 ∧ f1.type = 3 ∧ f2.type = 3 ∧ f3.type = 3 := ⟨_, _, _, _, Tryz.underlying24, rfl, rfl, rfl, rfl⟩
  have hone : oneCellFields Tryz.prog #[f0, f1, f2, f3] = true := by
    have : (match Tryz.prog.underlying 24 with | some (.struct fs) => oneCellFields Tryz.prog fs | _ => false) = true := by kernel_rfl
    rw [hu] at this; exact this
  obtain ⟨v0, v1, v2, v3, y0, y1, y2, y3, n, rfl, _, hp, h0, h1, h2, h3⟩ := open_agg4 hu hone hc hval hd
  rw [e0] at h0
  rw [e1] at h1
  rw [e2] at h2
  rw [e3] at h3
  obtain ⟨z0, k0, x0, _⟩ := DataW.trod_int Tryz.underlying3 h0
  obtain ⟨z1, k1, x1, _⟩ := DataW.trod_int Tryz.underlying3 h1
  obtain ⟨z2, k2, x2, _⟩ := DataW.trod_int Tryz.underlying3 h2
  obtain ⟨z3, k3, x3, _⟩ := DataW.trod_int Tryz.underlying3 h3
  simp at k0 k1 k2 k3
  subst k0 k1 k2 k3
  exact ⟨⟨z0, z1, z2, z3⟩, rfl, by rw [hp, x0, x1, x2, x3]; rfl⟩
end Go.Proofs.YtnbnoacadhoimaaGreatDoor
