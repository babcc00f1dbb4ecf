/- The law MeasureHelly: the walk. -/
import Derived.Test.YtoccfcpggomlaaaGreatDoorJb
import Derived.Test.YtoccfcpggomlaaaGreatDoorJcG
import Derived.Test.YtoccfcpggomlaaaGreatDoorPd
import Derived.Test.YtoccfcpggomlaaaGreatDoorCards
import Derived.Test.YtoccfcpggomlaaaGreatDoorTie
import Derived.Test.YtoccfcpggomlaaaGreatDoorTfG
import Derived.Deep.SlicePairs
set_option linter.unusedSimpArgs false
set_option linter.unusedVariables false
set_option maxRecDepth 100000
set_option maxHeartbeats 8000000
namespace Go.Proofs.YtoccfcpggomlaaaGreatDoor
open Go Go.RowKit

theorem F6.sm {x : Rat} (h : Fw 6 (tq x) x) : Sm x := h.sm (by decide)
theorem F6.str {x : Rat} (h : Fw 6 (tq x) x) : StrQ x := (F6.sm h).small.str
theorem F6.lng {x : Rat} (h : Fw 6 (tq x) x) : lngQ x = false := lngQ_small (by have := (F6.sm h).num; omega) (by have := (F6.sm h).den; omega)
theorem F6.len {x : Rat} (h : Fw 6 (tq x) x) : (tq x).length ≤ 18 := by have := Fw.len h; omega
theorem gsp6 {x y : Rat} (hx : Fw 6 (tq x) x) (hy : Fw 6 (tq y) y) : gspL x y = tq x ∧ gspH x y = tq y ∧ gspE x y = 0 := by
 unfold gspL gspH gspE; rw [F6.lng hx, F6.lng hy]; exact ⟨rfl, rfl, rfl⟩
/-- The list that the law speaks of. -/
structure HIn (w : World) (A : Option Addr) (n : Nat) (ls : List (List UInt8 × List UInt8)) (los his : List Rat) : Prop where
 sp : SpIn w A n ls los his
 n8 : n ≤ 8
 few : ls.all (fewS 6) = true
 tx : ∀ j, j < n → (ls.getD j ([], [])).1 = tq (los.getD j 0) ∧ (ls.getD j ([], [])).2 = tq (his.getD j 0)
 fl : ∀ j, j < n → Fw 6 (tq (los.getD j 0)) (los.getD j 0)
 fh : ∀ j, j < n → Fw 6 (tq (his.getD j 0)) (his.getD j 0)
 le : ∀ j, j < n → los.getD j 0 ≤ his.getD j 0
theorem HIn.below {w w' : World} {A : Option Addr} {n : Nat} {ls : List (List UInt8 × List UInt8)} {los his : List Rat} (h : HIn w A n ls los his) (hb : Below w.heap.size w w') : HIn w' A n ls los his :=
 ⟨h.sp.below hb, h.n8, h.few, h.tx, h.fl, h.fh, h.le⟩
theorem fewS_true {p : List UInt8 × List UInt8} (h : fewS 6 p = true) : Fw 6 p.1 (numQ p.1) ∧ Fw 6 p.2 (numQ p.2) ∧ numQ p.1 ≤ numQ p.2 := by
 unfold fewS at h
 simp only [Bool.and_eq_true, decide_eq_true_iff] at h
 obtain ⟨h1, h2, h3⟩ := h
 obtain ⟨x, hx⟩ := few_true h1
 obtain ⟨y, hy⟩ := few_true h2
 have ex := (hx.is (by decide)).numQ
 have ey := (hy.is (by decide)).numQ
 exact ⟨by rw [ex]; exact hx, by rw [ey]; exact hy, h3⟩
theorem firstNZ_prs {f : List UInt8 × List UInt8 → Int} : ∀ {ls : List (List UInt8 × List UInt8)}, (∀ p ∈ ls, f p = 0) → firstNZ f ls = 0
 | [], _ => rfl
 | p :: r, h => by rw [firstNZ_cons_eq (h p (List.mem_cons_self ..))]; exact firstNZ_prs (fun q hq => h q (List.mem_cons_of_mem _ hq))
theorem hin_of {w : World} {A : Option Addr} {n : Nat} {ls : List (List UInt8 × List UInt8)} (h : Pv w A n ls) (h0 : 0 < n) (h8 : n ≤ 8) (hf : ls.all (fewS 6) = true) :
  HIn w A n ls (ls.map fun p => numQ p.1) (ls.map fun p => numQ p.2) := by
 have hp : ∀ p ∈ ls, Fw 6 p.1 (numQ p.1) ∧ Fw 6 p.2 (numQ p.2) ∧ numQ p.1 ≤ numQ p.2 := fun p hp => fewS_true (List.all_eq_true.1 hf p hp)
 have g1 : ∀ j, j < n → (ls.map fun p => numQ p.1).getD j 0 = numQ (ls.getD j ([], [])).1 := fun j hj => by
  have hj' : j < ls.length := by rw [h.len]; exact hj
  rw [List.getD_eq_getElem?_getD, List.getD_eq_getElem?_getD, List.getElem?_map, List.getElem?_eq_getElem hj']; rfl
 have g2 : ∀ j, j < n → (ls.map fun p => numQ p.2).getD j 0 = numQ (ls.getD j ([], [])).2 := fun j hj => by
  have hj' : j < ls.length := by rw [h.len]; exact hj
  rw [List.getD_eq_getElem?_getD, List.getD_eq_getElem?_getD, List.getElem?_map, List.getElem?_eq_getElem hj']; rfl
 have m : ∀ j, j < n → ls.getD j ([], []) ∈ ls := fun j hj => by
  have hj' : j < ls.length := by rw [h.len]; exact hj
  rw [List.getD_eq_getElem?_getD, List.getElem?_eq_getElem hj']; exact List.getElem_mem hj'
 refine ⟨⟨h, h0, by omega, fun p hp' => ?_, firstNZ_prs (fun p hp' => ?_), (by simp [h.len]), (by simp [h.len]), fun j hj => ?_⟩, h8, hf, fun j hj => ?_, fun j hj => ?_, fun j hj => ?_, fun j hj => ?_⟩
 ·have := (hp p hp').1.len
  have := (hp p hp').2.1.len
  omega
 ·obtain ⟨h1, h2, h3⟩ := hp p hp'
  unfold chkSpan
  have e : firstNZ chk [p.1, p.2] = 0 := by simp [firstNZ, chk_zero.2 ⟨_, h1.is (by decide)⟩, chk_zero.2 ⟨_, h2.is (by decide)⟩]
  rw [if_neg (by rw [e]; simp), if_neg (Rat.not_lt.2 h3)]
 ·obtain ⟨h1, h2, h3⟩ := hp _ (m j hj)
  rw [g1 j hj, g2 j hj]
  exact ⟨h1.is (by decide), h2.is (by decide), (h1.sm (by decide)).small, (h2.sm (by decide)).small⟩
 ·rw [g1 j hj, g2 j hj]; exact ⟨(hp _ (m j hj)).1.eq, (hp _ (m j hj)).2.1.eq⟩
 ·rw [g1 j hj, ← (hp _ (m j hj)).1.eq]; exact (hp _ (m j hj)).1
 ·rw [g2 j hj, ← (hp _ (m j hj)).2.1.eq]; exact (hp _ (m j hj)).2.1
 ·rw [g1 j hj, g2 j hj]; exact (hp _ (m j hj)).2.2
section
variable {w : World} {A : Option Addr} {n c : Nat} {ls : List (List UInt8 × List UInt8)} {los his : List Rat}
set_option maxHeartbeats 16000000 in
theorem helly_yes (hE : Env w) (h : HIn w A n ls los his) (hle : maxF (los.getD 0 0) (los.drop 1) ≤ minF (his.getD 0 0) (his.drop 1)) :
  Calls Tryz.prog 4 #[.slice A n c] w fun e w' => e = .returned (.bool true) ∧ Below w.heap.size w w' := by
 have hmaxl : Fw 6 (tq (maxF (los.getD 0 0) (los.drop 1))) (maxF (los.getD 0 0) (los.drop 1)) := by
  obtain ⟨j, hj, e⟩ := max_at (l := los) (by rw [h.sp.lo]; exact h.sp.pos)
  rw [← e]; exact h.fl j (by rw [← h.sp.lo]; exact hj)
 have hminl : Fw 6 (tq (minF (los.getD 0 0) (los.drop 1))) (minF (los.getD 0 0) (los.drop 1)) := by
  obtain ⟨j, hj, e⟩ := min_at (l := los) (by rw [h.sp.lo]; exact h.sp.pos)
  rw [← e]; exact h.fl j (by rw [← h.sp.lo]; exact hj)
 have hmaxh : Fw 6 (tq (maxF (his.getD 0 0) (his.drop 1))) (maxF (his.getD 0 0) (his.drop 1)) := by
  obtain ⟨j, hj, e⟩ := max_at (l := his) (by rw [h.sp.hi]; exact h.sp.pos)
  rw [← e]; exact h.fh j (by rw [← h.sp.hi]; exact hj)
 have hminh : Fw 6 (tq (minF (his.getD 0 0) (his.drop 1))) (minF (his.getD 0 0) (his.drop 1)) := by
  obtain ⟨j, hj, e⟩ := min_at (l := his) (by rw [h.sp.hi]; exact h.sp.pos)
  rw [← e]; exact h.fh j (by rw [← h.sp.hi]; exact hj)
 have hmm : minF (los.getD 0 0) (los.drop 1) ≤ maxF (his.getD 0 0) (his.drop 1) := Rat.le_trans (min_le (j := 0) (by rw [h.sp.lo]; exact h.sp.pos)) (Rat.le_trans (h.le 0 h.sp.pos) (max_ge (by rw [h.sp.hi]; exact h.sp.pos)))
 have lle : ∀ j, j < n → minF (los.getD 0 0) (los.drop 1) ≤ los.getD j 0 := fun j hj => min_le (by rw [h.sp.lo]; exact hj)
 have lge : ∀ j, j < n → los.getD j 0 ≤ maxF (los.getD 0 0) (los.drop 1) := fun j hj => max_ge (by rw [h.sp.lo]; exact hj)
 have hle' : ∀ j, j < n → minF (his.getD 0 0) (his.drop 1) ≤ his.getD j 0 := fun j hj => min_le (by rw [h.sp.hi]; exact hj)
 have hge : ∀ j, j < n → his.getD j 0 ≤ maxF (his.getD 0 0) (his.drop 1) := fun j hj => max_ge (by rw [h.sp.hi]; exact hj)
 have g1 := gsp6 hminl hmaxh
 have g2 := gsp6 hmaxl hminh
 obtain ⟨h1, eh1⟩ : ∃ l, tq (minF (los.getD 0 0) (los.drop 1)) = l := ⟨_, rfl⟩
 obtain ⟨h2, eh2⟩ : ∃ l, tq (maxF (his.getD 0 0) (his.drop 1)) = l := ⟨_, rfl⟩
 obtain ⟨m1, em1⟩ : ∃ l, tq (maxF (los.getD 0 0) (los.drop 1)) = l := ⟨_, rfl⟩
 obtain ⟨m2, em2⟩ : ∃ l, tq (minF (his.getD 0 0) (his.drop 1)) = l := ⟨_, rfl⟩
 have HW : Hid (∀ W, Below w.heap.size w W → Calls Tryz.prog 5 #[] W fun e w' => e = .returned (.bool true) ∧ Below W.heap.size W w') := qh (fun W hb => awake_true (hE.below hb))
 have HF : Hid (∀ W, Below w.heap.size w W → Calls Tryz.prog 12 #[.slice A n c, .int .i64 8, .int .i64 6] W fun e w' => e = .returned (.bool true) ∧ Below W.heap.size W w') := qh (fun W hb => fewspans_num h.few (h.sp.view.below hb) (by have := h.n8; omega) (by have := h.n8; omega) (by decide) (by decide))
 have HU : Hid (∀ W, Below w.heap.size w W → Calls Tryz.prog 15 #[.slice A n c] W fun e w' => e = .returned (.tuple #[sp h1 h2, .int .i64 0]) ∧ Below W.heap.size W w') := qh (fun W hb => hull_ok (hE.below hb) (h.sp.below hb) rfl rfl (F6.str hminl) (F6.str hmaxh) (g1.1.trans eh1) (g1.2.1.trans eh2) g1.2.2)
 have HC : Hid (∀ W, Calls Tryz.prog 16 #[sp h1 h2] W fun e w' => e = .returned (.int .i64 0) ∧ Below W.heap.size W w') := qh (fun W => rspan_ok hmm eh1.symm eh2.symm (F6.sm hminl) (F6.sm hmaxh) (eh1 ▸ F6.len hminl) (eh2 ▸ F6.len hmaxh))
 have HI1 : Hid (∀ j, j < n → ∀ W, Calls Tryz.prog 17 #[bs (ls.getD j ([], [])).1, sp h1 h2] W fun e w' => e = .returned (.bool true) ∧ Below W.heap.size W w') := qh (fun j hj W => in_num (by
  rw [decide_eq_true (lle j hj), decide_eq_true (Rat.le_trans (h.le j hj) (hge j hj))]; rfl) (h.tx j hj).1 eh1.symm eh2.symm (F6.sm (h.fl j hj)) (F6.sm hminl) (F6.sm hmaxh))
 have HI2 : Hid (∀ j, j < n → ∀ W, Calls Tryz.prog 17 #[bs (ls.getD j ([], [])).2, sp h1 h2] W fun e w' => e = .returned (.bool true) ∧ Below W.heap.size W w') := qh (fun j hj W => in_num (by
  rw [decide_eq_true (Rat.le_trans (lle j hj) (h.le j hj)), decide_eq_true (hge j hj)]; rfl) (h.tx j hj).2 eh1.symm eh2.symm (F6.sm (h.fh j hj)) (F6.sm hminl) (F6.sm hmaxh))
 have hR := helly_ok h.sp.lo h.sp.hi hle
 have HM : Hid (∀ W, Below w.heap.size w W → Calls Tryz.prog 13 #[.slice A n c] W fun e w' => e = .returned (.tuple #[sp m1 m2, .int .i64 0]) ∧ Below W.heap.size W w') := qh (fun W hb => meet_ok (hE.below hb) (h.sp.below hb) rfl rfl (F6.sm hmaxl).small.sz (F6.sm hminh).small.sz hle (F6.str hmaxl) (F6.str hminh) (g2.1.trans em1) (g2.2.1.trans em2) g2.2.2)
 have HL : Hid (∀ W, Below w.heap.size w W → Calls Tryz.prog 14 #[.slice A n c] W fun e w' => e = .returned (.tuple #[.int .i64 0, .int .i64 0, .int .i64 7]) ∧ Below W.heap.size W w') := qh (fun W hb => clash_ok (hE.below hb) (h.sp.below hb) hR)
 have HD : Hid (∀ W, Calls Tryz.prog 16 #[sp m1 m2] W fun e w' => e = .returned (.int .i64 0) ∧ Below W.heap.size W w') := qh (fun W => rspan_ok hle em1.symm em2.symm (F6.sm hmaxl) (F6.sm hminh) (em1 ▸ F6.len hmaxl) (em2 ▸ F6.len hminh))
 have HI3 : Hid (∀ j, j < n → ∀ W, Calls Tryz.prog 17 #[bs m1, sp (ls.getD j ([], [])).1 (ls.getD j ([], [])).2] W fun e w' => e = .returned (.bool true) ∧ Below W.heap.size W w') := qh (fun j hj W => in_num (by
  rw [decide_eq_true (lge j hj), decide_eq_true (Rat.le_trans hle (hle' j hj))]; rfl) em1.symm (h.tx j hj).1 (h.tx j hj).2 (F6.sm hmaxl) (F6.sm (h.fl j hj)) (F6.sm (h.fh j hj)))
 have HI4 : Hid (∀ j, j < n → ∀ W, Calls Tryz.prog 17 #[bs m2, sp (ls.getD j ([], [])).1 (ls.getD j ([], [])).2] W fun e w' => e = .returned (.bool true) ∧ Below W.heap.size W w') := qh (fun j hj W => in_num (by
  rw [decide_eq_true (Rat.le_trans (lge j hj) hle), decide_eq_true (hle' j hj)]; rfl) em2.symm (h.tx j hj).1 (h.tx j hj).2 (F6.sm hminh) (F6.sm (h.fl j hj)) (F6.sm (h.fh j hj)))
 have HS := qh h.sp
 have HN := qh h.n8
 have q0 : ((n : Int) == 0) = false := by have := h.sp.pos; rw [beq_eq_false_iff_ne]; omega
 clear hmaxl hminl hmaxh hminh hmm lle lge hle' hge g1 g2 eh1 eh2 em1 em2 hR hE h hle
 go_enter Tryz.func4, Tryz.ntmps4
 go_upto_region 8 with (first
  | (go_at_call 5; ((with_reducible refine (HW.out _ (bq (by with_reducible repeat' first | assumption | constructor | go_size))).mono ?_); rintro e1 w1 ⟨rfl, hb1⟩); obtain ⟨hc1, hf1⟩ := bcell hb1; (try simp only [dw] at hc1 hf1))
  | (go_at_call 12; ((with_reducible refine (HF.out _ (bq (by with_reducible repeat' first | assumption | constructor | go_size))).mono ?_); rintro e2 w2 ⟨rfl, hb2⟩); obtain ⟨hc2, hf2⟩ := bcell hb2; (try simp only [dw] at hc2 hf2))
  | (go_at_call 13; ((with_reducible refine (HM.out _ (bq (by with_reducible repeat' first | assumption | constructor | go_size))).mono ?_); rintro e3 w3 ⟨rfl, hb3⟩); obtain ⟨hc3, hf3⟩ := bcell hb3; (try simp only [dw] at hc3 hf3))
  | ((go_at_call 14; ((with_reducible refine (HL.out _ (bq (by with_reducible repeat' first | assumption | constructor | go_size))).mono ?_); rintro e4 w4 ⟨rfl, hb4⟩); obtain ⟨hc4, hf4⟩ := bcell hb4; (try simp only [dw] at hc4 hf4)); have j0 : w4.cell? ⟨w3.heap.size, 0, none⟩ = some (bs m1) := cell_on hb4 (by simp [go_sem]); have j1 : w4.cell? ⟨w3.heap.size, 1, none⟩ = some (bs m2) := cell_on hb4 (by simp [go_sem]))
  | ((go_at_call 15; ((with_reducible refine (HU.out _ (bq (by with_reducible repeat' first | assumption | constructor | go_size))).mono ?_); rintro e5 w5 ⟨rfl, hb5⟩); obtain ⟨hc5, hf5⟩ := bcell hb5; (try simp only [dw] at hc5 hf5)); have i0 := cell_on hb5 j0; have i1 := cell_on hb5 j1)
  | ((go_at_call 16; ((with_reducible refine (HC.out _).mono ?_); rintro e6 w6 ⟨rfl, hb6⟩); obtain ⟨hc6, hf6⟩ := bcell hb6; (try simp only [dw] at hc6 hf6)); have k30 := cell_on (show Below w5.heap.size w5 w6 from (bq (by with_reducible repeat' first | assumption | constructor | go_size))) i0; have k31 := cell_on (show Below w5.heap.size w5 w6 from (bq (by with_reducible repeat' first | assumption | constructor | go_size))) i1; have k50 : w6.cell? ⟨w5.heap.size, 0, none⟩ = some (bs h1) := cell_on hb6 (by simp [go_sem]); have k51 : w6.cell? ⟨w5.heap.size, 1, none⟩ = some (bs h2) := cell_on hb6 (by simp [go_sem])))
 have bw : Below w.heap.size w w6 := (bq (by with_reducible repeat' first | assumption | constructor | go_size))
 obtain ⟨B3, hB3⟩ : ∃ b, w3.heap.size = b := ⟨_, rfl⟩
 obtain ⟨B5, hB5⟩ : ∃ b, w5.heap.size = b := ⟨_, rfl⟩
 rw [hB3] at k30 k31
 rw [hB5] at k50 k51
 simp only [hB3, hB5]
 clear i0 i1 j0 j1 hb1 hb2 hb3 hb4 hb5 hb6 hc1 hc2 hc3 hc4 hc5 hc6 hf1 hf2 hf3 hf4 hf5 hf6 hB3 hB5
 go_wp2
 go_loopw [10] (fun u wr => ∃ (i : Nat), u = .int .i64 (i : Int) ∧ i ≤ n ∧ Below w6.heap.size w6 wr) (fun u _ => n - (intOf u).toNat)
 case atStart => exact ⟨0, rfl, Nat.zero_le _, (bq (by with_reducible repeat' first | assumption | constructor | go_size))⟩
 case round =>
  obtain ⟨i, rfl, hin, hb⟩ := hrel
  have hnn := HN.out
  by_cases hi : i < n
  ·have p0 : decide (i < n) = true := by simpa using hi
   obtain ⟨b, o, rfl, hbl, hat⟩ := ((HS.out.view).below (show Below _ _ wr from (bq (by with_reducible repeat' first | assumption | constructor | go_size)))).at_ (by omega)
   obtain ⟨k0, k1⟩ := hat i hi
   have HII := qh hi
   have H1 := qh (HI1.out i hi)
   have H2 := qh (HI2.out i hi)
   have H3 := qh (HI3.out i hi)
   have H4 := qh (HI4.out i hi)
   obtain ⟨⟨x1, x2⟩, hx⟩ : ∃ x, ls.getD i ([], []) = x := ⟨_, rfl⟩
   rw [hx] at k0 k1 H1 H2 H3 H4
   dsimp only at k0 k1 H1 H2 H3 H4
   have k30 := cell_on hb k30
   have k31 := cell_on hb k31
   have l3 : B3 < wr.heap.size := World.block_lt_of_cell? wr _ k30
   have k50 := cell_on hb k50
   have k51 := cell_on hb k51
   have l5 : B5 < wr.heap.size := World.block_lt_of_cell? wr _ k50
   clear hat hx
   go_upto_region 11 with (fail)
   refine wp_region_T (fun w' => Below wr.heap.size wr w') [] (by kernel_rfl) ?_
   refine tb 0 (.slice (some ⟨b, o, none⟩) n c) [] rfl (by kernel_rfl) (fun _ _ _ h => h) (by rfl) (by intros; go_simp) bq0 ?_
   simp only [ppq]
   refine tb 1 (.int .i64 (i : Int)) [] rfl (by kernel_rfl) (fun _ _ _ h => h) (by rfl) (by intros; go_simp) bq0 ?_
   simp only [ppq]
   refine tb 2 (.pointer (some ⟨b, o + i * 2, none⟩)) [] rfl (by kernel_rfl) (fun _ _ _ h => h) (by rfl) (by intros; go_simp) bq0 ?_
   simp only [ppq]
   refine tb 3 (.pointer (some ⟨b, o + i * 2, none⟩)) [] rfl (by kernel_rfl) (fun _ _ _ h => h) (by rfl) (by intros; go_simp) bq0 ?_
   simp only [ppq]
   refine tb 4 (bs x1) [] rfl (by kernel_rfl) (fun _ _ _ h => h) (by rfl) (by intros; go_simp) bq0 ?_
   simp only [ppq]
   refine tb 5 (sp h1 h2) [] rfl (by kernel_rfl) (fun _ _ _ h => h) (by rfl) (by intros; go_simp) bq0 ?_
   simp only [ppq]
   refine rd1 6 (by kernel_rfl) rfl (fun K hK => ?_)
   go_simp
   go_wp2_with (go_at_call 17; ((with_reducible refine (H1.out _).mono ?_); rintro e7 w7 ⟨rfl, hb7⟩); obtain ⟨hc7, hf7⟩ := bcell hb7; (try simp only [dw] at hc7 hf7))
   have sS7 := qh (bst bq0 hb7)
   refine hK.out _ _ (fun _ => sS7.out) ?_
   clear hK K
   refine rd1 7 (by kernel_rfl) rfl (fun K hK => ?_)
   go_simp
   refine hK.out _ _ (fun _ => (bq (by with_reducible repeat' first | assumption | constructor | go_size))) ?_
   clear hK K
   refine rd1 8 (by kernel_rfl) rfl (fun K hK => ?_)
   go_simp
   refine hK.out _ _ (fun _ => (bq (by with_reducible repeat' first | assumption | constructor | go_size))) ?_
   clear hK K
   refine tb 9 (.slice (some ⟨b, o, none⟩) n c) [] rfl (by kernel_rfl) (fun _ _ _ h => h) (by rfl) (by intros; go_simp) sS7.out ?_
   simp only [ppq]
   refine tb 10 (.int .i64 (i : Int)) [] rfl (by kernel_rfl) (fun _ _ _ h => h) (by rfl) (by intros; go_simp) sS7.out ?_
   simp only [ppq]
   refine tb 11 (.pointer (some ⟨b, o + i * 2, none⟩)) [] rfl (by kernel_rfl) (fun _ _ _ h => h) (by rfl) (by intros; go_simp) sS7.out ?_
   simp only [ppq]
   refine tb 12 (.pointer (some ⟨b, o + i * 2 + 1, none⟩)) [] rfl (by kernel_rfl) (fun _ _ _ h => h) (by rfl) (by intros; go_simp) sS7.out ?_
   simp only [ppq]
   refine tb 13 (bs x2) [] rfl (by kernel_rfl) (fun _ _ _ h => h) (by rfl) (by intros; go_simp) sS7.out ?_
   simp only [ppq]
   refine tb 14 (sp h1 h2) [] rfl (by kernel_rfl) (fun _ _ _ h => h) (by rfl) (by intros; go_simp) sS7.out ?_
   simp only [ppq]
   refine rd1 15 (by kernel_rfl) rfl (fun K hK => ?_)
   go_simp
   go_wp2_with (go_at_call 17; ((with_reducible refine (H2.out _).mono ?_); rintro e8 w8 ⟨rfl, hb8⟩); obtain ⟨hc8, hf8⟩ := bcell hb8; (try simp only [dw] at hc8 hf8))
   have sS8 := qh (bst sS7.out hb8)
   refine hK.out _ _ (fun _ => sS8.out) ?_
   clear hK K
   refine rd1 16 (by kernel_rfl) rfl (fun K hK => ?_)
   go_simp
   refine hK.out _ _ (fun _ => (bq (by with_reducible repeat' first | assumption | constructor | go_size))) ?_
   clear hK K
   refine rd1 17 (by kernel_rfl) rfl (fun K hK => ?_)
   go_simp
   refine hK.out _ _ (fun _ => (bq (by with_reducible repeat' first | assumption | constructor | go_size))) ?_
   clear hK K
   refine rd1 18 (by kernel_rfl) rfl (fun K hK => ?_)
   go_simp
   refine hK.out _ _ (fun _ => (bq (by with_reducible repeat' first | assumption | constructor | go_size))) ?_
   clear hK K
   refine tb 19 (.int .i64 0) [] rfl (by kernel_rfl) (fun _ _ _ h => h) (by rfl) (by intros; go_simp) sS8.out ?_
   simp only [ppq]
   refine rd1 20 (by kernel_rfl) rfl (fun K hK => ?_)
   go_simp
   refine hK.out _ _ (fun _ => (bq (by with_reducible repeat' first | assumption | constructor | go_size))) ?_
   clear hK K
   refine rd1 21 (by kernel_rfl) rfl (fun K hK => ?_)
   go_simp
   refine hK.out _ _ (fun _ => (bq (by with_reducible repeat' first | assumption | constructor | go_size))) ?_
   clear hK K
   refine tb 22 (sp m1 m2) [] rfl (by kernel_rfl) (fun _ _ _ h => h) (by rfl) (by intros; go_simp) sS8.out ?_
   simp only [ppq]
   refine rd1 23 (by kernel_rfl) rfl (fun K hK => ?_)
   go_simp
   go_wp2_with (go_at_call 16; ((with_reducible refine (HD.out _).mono ?_); rintro e9 w9 ⟨rfl, hb9⟩); obtain ⟨hc9, hf9⟩ := bcell hb9; (try simp only [dw] at hc9 hf9))
   have sS9 := qh (bst sS8.out hb9)
   refine hK.out _ _ (fun _ => sS9.out) ?_
   clear hK K
   refine rd1 24 (by kernel_rfl) rfl (fun K hK => ?_)
   go_simp
   refine hK.out _ _ (fun _ => (bq (by with_reducible repeat' first | assumption | constructor | go_size))) ?_
   clear hK K
   refine rd1 25 (by kernel_rfl) rfl (fun K hK => ?_)
   go_simp
   refine hK.out _ _ (fun _ => (bq (by with_reducible repeat' first | assumption | constructor | go_size))) ?_
   clear hK K
   refine tb 26 (.pointer (some ⟨B3, 0, none⟩)) [] rfl (by kernel_rfl) (fun _ _ _ h => h) (by rfl) (by intros; go_simp) sS9.out ?_
   simp only [ppq]
   refine tb 27 (bs m1) [] rfl (by kernel_rfl) (fun _ _ _ h => h) (by rfl) (by intros; go_simp) sS9.out ?_
   simp only [ppq]
   refine tb 28 (.slice (some ⟨b, o, none⟩) n c) [] rfl (by kernel_rfl) (fun _ _ _ h => h) (by rfl) (by intros; go_simp) sS9.out ?_
   simp only [ppq]
   refine tb 29 (.int .i64 (i : Int)) [] rfl (by kernel_rfl) (fun _ _ _ h => h) (by rfl) (by intros; go_simp) sS9.out ?_
   simp only [ppq]
   refine tb 30 (.pointer (some ⟨b, o + i * 2, none⟩)) [] rfl (by kernel_rfl) (fun _ _ _ h => h) (by rfl) (by intros; go_simp) sS9.out ?_
   simp only [ppq]
   refine tb 31 (sp x1 x2) [] rfl (by kernel_rfl) (fun _ _ _ h => h) (by rfl) (by intros; go_simp) sS9.out ?_
   simp only [ppq]
   refine rd1 32 (by kernel_rfl) rfl (fun K hK => ?_)
   go_simp
   go_wp2_with (go_at_call 17; ((with_reducible refine (H3.out _).mono ?_); rintro e10 w10 ⟨rfl, hb10⟩); obtain ⟨hc10, hf10⟩ := bcell hb10; (try simp only [dw] at hc10 hf10))
   have sS10 := qh (bst sS9.out hb10)
   refine hK.out _ _ (fun _ => sS10.out) ?_
   clear hK K
   refine rd1 33 (by kernel_rfl) rfl (fun K hK => ?_)
   go_simp
   refine hK.out _ _ (fun _ => (bq (by with_reducible repeat' first | assumption | constructor | go_size))) ?_
   clear hK K
   refine rd1 34 (by kernel_rfl) rfl (fun K hK => ?_)
   go_simp
   refine hK.out _ _ (fun _ => (bq (by with_reducible repeat' first | assumption | constructor | go_size))) ?_
   clear hK K
   refine rd1 35 (by kernel_rfl) rfl (fun K hK => ?_)
   go_simp
   refine hK.out _ _ (fun _ => (bq (by with_reducible repeat' first | assumption | constructor | go_size))) ?_
   clear hK K
   refine tb 36 (.pointer (some ⟨B3, 1, none⟩)) [] rfl (by kernel_rfl) (fun _ _ _ h => h) (by rfl) (by intros; go_simp) sS10.out ?_
   simp only [ppq]
   refine tb 37 (bs m2) [] rfl (by kernel_rfl) (fun _ _ _ h => h) (by rfl) (by intros; go_simp) sS10.out ?_
   simp only [ppq]
   refine tb 38 (.slice (some ⟨b, o, none⟩) n c) [] rfl (by kernel_rfl) (fun _ _ _ h => h) (by rfl) (by intros; go_simp) sS10.out ?_
   simp only [ppq]
   refine tb 39 (.int .i64 (i : Int)) [] rfl (by kernel_rfl) (fun _ _ _ h => h) (by rfl) (by intros; go_simp) sS10.out ?_
   simp only [ppq]
   refine tb 40 (.pointer (some ⟨b, o + i * 2, none⟩)) [] rfl (by kernel_rfl) (fun _ _ _ h => h) (by rfl) (by intros; go_simp) sS10.out ?_
   simp only [ppq]
   refine tb 41 (sp x1 x2) [] rfl (by kernel_rfl) (fun _ _ _ h => h) (by rfl) (by intros; go_simp) sS10.out ?_
   simp only [ppq]
   refine rd1 42 (by kernel_rfl) rfl (fun K hK => ?_)
   go_simp
   go_wp2_with (go_at_call 17; ((with_reducible refine (H4.out _).mono ?_); rintro e11 w11 ⟨rfl, hb11⟩); obtain ⟨hc11, hf11⟩ := bcell hb11; (try simp only [dw] at hc11 hf11))
   have sS11 := qh (bst sS10.out hb11)
   refine hK.out _ _ (fun _ => sS11.out) ?_
   clear hK K
   refine rd1 43 (by kernel_rfl) rfl (fun K hK => ?_)
   go_simp
   refine hK.out _ _ (fun _ => (bq (by with_reducible repeat' first | assumption | constructor | go_size))) ?_
   clear hK K
   refine rd1 44 (by kernel_rfl) rfl (fun K hK => ?_)
   go_simp
   refine hK.out _ _ (fun _ => (bq (by with_reducible repeat' first | assumption | constructor | go_size))) ?_
   clear hK K
   refine rd1 45 (by kernel_rfl) rfl (fun K hK => ?_)
   go_simp
   refine hK.out _ _ (fun _ => (bq (by with_reducible repeat' first | assumption | constructor | go_size))) ?_
   clear hK K
   refine rd1 46 (by kernel_rfl) rfl (fun K hK => ?_)
   go_simp
   refine hK.out _ _ (fun _ => (bq (by with_reducible repeat' first | assumption | constructor | go_size))) ?_
   clear hK K
   refine wpAnyT_done (by kernel_rfl) ?_ _
   go_wp2
   exact ⟨⟨i + 1, by simp, HII.out, (bq (by with_reducible repeat' first | assumption | constructor | go_size))⟩, by have := HII.out; simp [intOf]; omega⟩
  ·have p0 : decide (i < n) = false := by simp; omega
   clear hi
   go_wp2
   go_ret
   exact ⟨rfl, (bq (by with_reducible repeat' first | assumption | constructor | go_size))⟩
set_option maxHeartbeats 16000000 in
theorem helly_not (hE : Env w) (h : HIn w A n ls los his) (hlt : minF (his.getD 0 0) (his.drop 1) < maxF (los.getD 0 0) (los.drop 1)) :
  Calls Tryz.prog 4 #[.slice A n c] w fun e w' => e = .returned (.bool true) ∧ Below w.heap.size w w' := by
 have hmaxl : Fw 6 (tq (maxF (los.getD 0 0) (los.drop 1))) (maxF (los.getD 0 0) (los.drop 1)) := by
  obtain ⟨j, hj, e⟩ := max_at (l := los) (by rw [h.sp.lo]; exact h.sp.pos)
  rw [← e]; exact h.fl j (by rw [← h.sp.lo]; exact hj)
 have hminl : Fw 6 (tq (minF (los.getD 0 0) (los.drop 1))) (minF (los.getD 0 0) (los.drop 1)) := by
  obtain ⟨j, hj, e⟩ := min_at (l := los) (by rw [h.sp.lo]; exact h.sp.pos)
  rw [← e]; exact h.fl j (by rw [← h.sp.lo]; exact hj)
 have hmaxh : Fw 6 (tq (maxF (his.getD 0 0) (his.drop 1))) (maxF (his.getD 0 0) (his.drop 1)) := by
  obtain ⟨j, hj, e⟩ := max_at (l := his) (by rw [h.sp.hi]; exact h.sp.pos)
  rw [← e]; exact h.fh j (by rw [← h.sp.hi]; exact hj)
 have hminh : Fw 6 (tq (minF (his.getD 0 0) (his.drop 1))) (minF (his.getD 0 0) (his.drop 1)) := by
  obtain ⟨j, hj, e⟩ := min_at (l := his) (by rw [h.sp.hi]; exact h.sp.pos)
  rw [← e]; exact h.fh j (by rw [← h.sp.hi]; exact hj)
 have hmm : minF (los.getD 0 0) (los.drop 1) ≤ maxF (his.getD 0 0) (his.drop 1) := Rat.le_trans (min_le (j := 0) (by rw [h.sp.lo]; exact h.sp.pos)) (Rat.le_trans (h.le 0 h.sp.pos) (max_ge (by rw [h.sp.hi]; exact h.sp.pos)))
 have lle : ∀ j, j < n → minF (los.getD 0 0) (los.drop 1) ≤ los.getD j 0 := fun j hj => min_le (by rw [h.sp.lo]; exact hj)
 have lge : ∀ j, j < n → los.getD j 0 ≤ maxF (los.getD 0 0) (los.drop 1) := fun j hj => max_ge (by rw [h.sp.lo]; exact hj)
 have hle' : ∀ j, j < n → minF (his.getD 0 0) (his.drop 1) ≤ his.getD j 0 := fun j hj => min_le (by rw [h.sp.hi]; exact hj)
 have hge : ∀ j, j < n → his.getD j 0 ≤ maxF (his.getD 0 0) (his.drop 1) := fun j hj => max_ge (by rw [h.sp.hi]; exact hj)
 have g1 := gsp6 hminl hmaxh
 have g2 := gsp6 hmaxl hminh
 obtain ⟨h1, eh1⟩ : ∃ l, tq (minF (los.getD 0 0) (los.drop 1)) = l := ⟨_, rfl⟩
 obtain ⟨h2, eh2⟩ : ∃ l, tq (maxF (his.getD 0 0) (his.drop 1)) = l := ⟨_, rfl⟩
 obtain ⟨m1, em1⟩ : ∃ l, tq (maxF (los.getD 0 0) (los.drop 1)) = l := ⟨_, rfl⟩
 obtain ⟨m2, em2⟩ : ∃ l, tq (minF (his.getD 0 0) (his.drop 1)) = l := ⟨_, rfl⟩
 have HW : Hid (∀ W, Below w.heap.size w W → Calls Tryz.prog 5 #[] W fun e w' => e = .returned (.bool true) ∧ Below W.heap.size W w') := qh (fun W hb => awake_true (hE.below hb))
 have HF : Hid (∀ W, Below w.heap.size w W → Calls Tryz.prog 12 #[.slice A n c, .int .i64 8, .int .i64 6] W fun e w' => e = .returned (.bool true) ∧ Below W.heap.size W w') := qh (fun W hb => fewspans_num h.few (h.sp.view.below hb) (by have := h.n8; omega) (by have := h.n8; omega) (by decide) (by decide))
 have HU : Hid (∀ W, Below w.heap.size w W → Calls Tryz.prog 15 #[.slice A n c] W fun e w' => e = .returned (.tuple #[sp h1 h2, .int .i64 0]) ∧ Below W.heap.size W w') := qh (fun W hb => hull_ok (hE.below hb) (h.sp.below hb) rfl rfl (F6.str hminl) (F6.str hmaxh) (g1.1.trans eh1) (g1.2.1.trans eh2) g1.2.2)
 have HC : Hid (∀ W, Calls Tryz.prog 16 #[sp h1 h2] W fun e w' => e = .returned (.int .i64 0) ∧ Below W.heap.size W w') := qh (fun W => rspan_ok hmm eh1.symm eh2.symm (F6.sm hminl) (F6.sm hmaxh) (eh1 ▸ F6.len hminl) (eh2 ▸ F6.len hmaxh))
 have HI1 : Hid (∀ j, j < n → ∀ W, Calls Tryz.prog 17 #[bs (ls.getD j ([], [])).1, sp h1 h2] W fun e w' => e = .returned (.bool true) ∧ Below W.heap.size W w') := qh (fun j hj W => in_num (by
  rw [decide_eq_true (lle j hj), decide_eq_true (Rat.le_trans (h.le j hj) (hge j hj))]; rfl) (h.tx j hj).1 eh1.symm eh2.symm (F6.sm (h.fl j hj)) (F6.sm hminl) (F6.sm hmaxh))
 have HI2 : Hid (∀ j, j < n → ∀ W, Calls Tryz.prog 17 #[bs (ls.getD j ([], [])).2, sp h1 h2] W fun e w' => e = .returned (.bool true) ∧ Below W.heap.size W w') := qh (fun j hj W => in_num (by
  rw [decide_eq_true (Rat.le_trans (lle j hj) (h.le j hj)), decide_eq_true (hge j hj)]; rfl) (h.tx j hj).2 eh1.symm eh2.symm (F6.sm (h.fh j hj)) (F6.sm hminl) (F6.sm hmaxh))
 obtain ⟨a, d, hR, had, hdn, hlast⟩ := helly_no h.sp.lo h.sp.hi h.sp.pos h.le hlt
 have HM : Hid (∀ W, Below w.heap.size w W → Calls Tryz.prog 13 #[.slice A n c] W fun e w' => e = .returned (.tuple #[sp [] [], .int .i64 15]) ∧ Below W.heap.size W w') := qh (fun W hb => meet_none (hE.below hb) (h.sp.below hb) rfl rfl (F6.sm hmaxl).small.sz (F6.sm hminh).small.sz hlt)
 have HL : Hid (∀ W, Below w.heap.size w W → Calls Tryz.prog 14 #[.slice A n c] W fun e w' => e = .returned (.tuple #[.int .i64 (a : Int), .int .i64 (d : Int), .int .i64 0]) ∧ Below W.heap.size W w') := qh (fun W hb => clash_ok (hE.below hb) (h.sp.below hb) hR)
 obtain ⟨z1, hz1⟩ : ∃ z, Rq.cmpQ (his.getD a 0) (los.getD d 0) = z := ⟨_, rfl⟩
 obtain ⟨z2, hz2⟩ : ∃ z, Rq.cmpQ (his.getD d 0) (los.getD a 0) = z := ⟨_, rfl⟩
 have HZ1 := qh (fun W => cmp_sm (w := W) hz1 (h.tx a (by omega)).2 (h.tx d hdn).1 (F6.sm (h.fh a (by omega))) (F6.sm (h.fl d hdn)))
 have HZ2 := qh (fun W => cmp_sm (w := W) hz2 (h.tx d hdn).2 (h.tx a (by omega)).1 (F6.sm (h.fh d hdn)) (F6.sm (h.fl a (by omega))))
 have HZ : Hid (z1 < 0 ∨ z2 < 0) := qh (by rw [← hz1, ← hz2, Rq.cmp_neg, Rq.cmp_neg]; exact hlast)
 have HS := qh h.sp
 have HN := qh h.n8
 have HAD := qh (And.intro had hdn)
 have q0 : ((n : Int) == 0) = false := by have := h.sp.pos; rw [beq_eq_false_iff_ne]; omega
 clear hmaxl hminl hmaxh hminh hmm lle lge hle' hge g1 g2 eh1 eh2 em1 em2 hR hE h hlt hz1 hz2 hlast had hdn
 go_enter Tryz.func4, Tryz.ntmps4
 go_upto_region 8 with (first
  | (go_at_call 5; ((with_reducible refine (HW.out _ (bq (by with_reducible repeat' first | assumption | constructor | go_size))).mono ?_); rintro e1 w1 ⟨rfl, hb1⟩); obtain ⟨hc1, hf1⟩ := bcell hb1; (try simp only [dw] at hc1 hf1))
  | (go_at_call 12; ((with_reducible refine (HF.out _ (bq (by with_reducible repeat' first | assumption | constructor | go_size))).mono ?_); rintro e2 w2 ⟨rfl, hb2⟩); obtain ⟨hc2, hf2⟩ := bcell hb2; (try simp only [dw] at hc2 hf2))
  | (go_at_call 13; ((with_reducible refine (HM.out _ (bq (by with_reducible repeat' first | assumption | constructor | go_size))).mono ?_); rintro e3 w3 ⟨rfl, hb3⟩); obtain ⟨hc3, hf3⟩ := bcell hb3; (try simp only [dw] at hc3 hf3))
  | (go_at_call 14; ((with_reducible refine (HL.out _ (bq (by with_reducible repeat' first | assumption | constructor | go_size))).mono ?_); rintro e4 w4 ⟨rfl, hb4⟩); obtain ⟨hc4, hf4⟩ := bcell hb4; (try simp only [dw] at hc4 hf4))
  | (go_at_call 15; ((with_reducible refine (HU.out _ (bq (by with_reducible repeat' first | assumption | constructor | go_size))).mono ?_); rintro e5 w5 ⟨rfl, hb5⟩); obtain ⟨hc5, hf5⟩ := bcell hb5; (try simp only [dw] at hc5 hf5))
  | ((go_at_call 16; ((with_reducible refine (HC.out _).mono ?_); rintro e6 w6 ⟨rfl, hb6⟩); obtain ⟨hc6, hf6⟩ := bcell hb6; (try simp only [dw] at hc6 hf6)); have k50 : w6.cell? ⟨w5.heap.size, 0, none⟩ = some (bs h1) := cell_on hb6 (by simp [go_sem]); have k51 : w6.cell? ⟨w5.heap.size, 1, none⟩ = some (bs h2) := cell_on hb6 (by simp [go_sem])))
 have bw : Below w.heap.size w w6 := (bq (by with_reducible repeat' first | assumption | constructor | go_size))
 obtain ⟨B3, hB3⟩ : ∃ b, w3.heap.size = b := ⟨_, rfl⟩
 obtain ⟨B5, hB5⟩ : ∃ b, w5.heap.size = b := ⟨_, rfl⟩
 rw [hB5] at k50 k51
 simp only [hB3, hB5]
 clear hb1 hb2 hb3 hb4 hb5 hb6 hc1 hc2 hc3 hc4 hc5 hc6 hf1 hf2 hf3 hf4 hf5 hf6 hB3 hB5
 go_wp2
 go_loopw [10] (fun u wr => ∃ (i : Nat), u = .int .i64 (i : Int) ∧ i ≤ n ∧ Below w6.heap.size w6 wr) (fun u _ => n - (intOf u).toNat)
 case atStart => exact ⟨0, rfl, Nat.zero_le _, (bq (by with_reducible repeat' first | assumption | constructor | go_size))⟩
 case round =>
  obtain ⟨i, rfl, hin, hb⟩ := hrel
  have hnn := HN.out
  by_cases hi : i < n
  ·have p0 : decide (i < n) = true := by simpa using hi
   obtain ⟨b, o, rfl, hbl, hat⟩ := ((HS.out.view).below (show Below _ _ wr from (bq (by with_reducible repeat' first | assumption | constructor | go_size)))).at_ (by omega)
   obtain ⟨k0, k1⟩ := hat i hi
   have HII := qh hi
   have H1 := qh (HI1.out i hi)
   have H2 := qh (HI2.out i hi)
   obtain ⟨⟨x1, x2⟩, hx⟩ : ∃ x, ls.getD i ([], []) = x := ⟨_, rfl⟩
   rw [hx] at k0 k1 H1 H2
   dsimp only at k0 k1 H1 H2
   have k50 := cell_on hb k50
   have k51 := cell_on hb k51
   have l5 : B5 < wr.heap.size := World.block_lt_of_cell? wr _ k50
   clear hat hx
   go_upto_region 11 with (fail)
   refine wp_region_T (fun w' => Below wr.heap.size wr w') [] (by kernel_rfl) ?_
   refine tb 0 (.slice (some ⟨b, o, none⟩) n c) [] rfl (by kernel_rfl) (fun _ _ _ h => h) (by rfl) (by intros; go_simp) bq0 ?_
   simp only [ppq]
   refine tb 1 (.int .i64 (i : Int)) [] rfl (by kernel_rfl) (fun _ _ _ h => h) (by rfl) (by intros; go_simp) bq0 ?_
   simp only [ppq]
   refine tb 2 (.pointer (some ⟨b, o + i * 2, none⟩)) [] rfl (by kernel_rfl) (fun _ _ _ h => h) (by rfl) (by intros; go_simp) bq0 ?_
   simp only [ppq]
   refine tb 3 (.pointer (some ⟨b, o + i * 2, none⟩)) [] rfl (by kernel_rfl) (fun _ _ _ h => h) (by rfl) (by intros; go_simp) bq0 ?_
   simp only [ppq]
   refine tb 4 (bs x1) [] rfl (by kernel_rfl) (fun _ _ _ h => h) (by rfl) (by intros; go_simp) bq0 ?_
   simp only [ppq]
   refine tb 5 (sp h1 h2) [] rfl (by kernel_rfl) (fun _ _ _ h => h) (by rfl) (by intros; go_simp) bq0 ?_
   simp only [ppq]
   refine rd1 6 (by kernel_rfl) rfl (fun K hK => ?_)
   go_simp
   go_wp2_with (go_at_call 17; ((with_reducible refine (H1.out _).mono ?_); rintro e7 w7 ⟨rfl, hb7⟩); obtain ⟨hc7, hf7⟩ := bcell hb7; (try simp only [dw] at hc7 hf7))
   have sS7 := qh (bst bq0 hb7)
   refine hK.out _ _ (fun _ => sS7.out) ?_
   clear hK K
   refine rd1 7 (by kernel_rfl) rfl (fun K hK => ?_)
   go_simp
   refine hK.out _ _ (fun _ => (bq (by with_reducible repeat' first | assumption | constructor | go_size))) ?_
   clear hK K
   refine rd1 8 (by kernel_rfl) rfl (fun K hK => ?_)
   go_simp
   refine hK.out _ _ (fun _ => (bq (by with_reducible repeat' first | assumption | constructor | go_size))) ?_
   clear hK K
   refine tb 9 (.slice (some ⟨b, o, none⟩) n c) [] rfl (by kernel_rfl) (fun _ _ _ h => h) (by rfl) (by intros; go_simp) sS7.out ?_
   simp only [ppq]
   refine tb 10 (.int .i64 (i : Int)) [] rfl (by kernel_rfl) (fun _ _ _ h => h) (by rfl) (by intros; go_simp) sS7.out ?_
   simp only [ppq]
   refine tb 11 (.pointer (some ⟨b, o + i * 2, none⟩)) [] rfl (by kernel_rfl) (fun _ _ _ h => h) (by rfl) (by intros; go_simp) sS7.out ?_
   simp only [ppq]
   refine tb 12 (.pointer (some ⟨b, o + i * 2 + 1, none⟩)) [] rfl (by kernel_rfl) (fun _ _ _ h => h) (by rfl) (by intros; go_simp) sS7.out ?_
   simp only [ppq]
   refine tb 13 (bs x2) [] rfl (by kernel_rfl) (fun _ _ _ h => h) (by rfl) (by intros; go_simp) sS7.out ?_
   simp only [ppq]
   refine tb 14 (sp h1 h2) [] rfl (by kernel_rfl) (fun _ _ _ h => h) (by rfl) (by intros; go_simp) sS7.out ?_
   simp only [ppq]
   refine rd1 15 (by kernel_rfl) rfl (fun K hK => ?_)
   go_simp
   go_wp2_with (go_at_call 17; ((with_reducible refine (H2.out _).mono ?_); rintro e8 w8 ⟨rfl, hb8⟩); obtain ⟨hc8, hf8⟩ := bcell hb8; (try simp only [dw] at hc8 hf8))
   have sS8 := qh (bst sS7.out hb8)
   refine hK.out _ _ (fun _ => sS8.out) ?_
   clear hK K
   refine rd1 16 (by kernel_rfl) rfl (fun K hK => ?_)
   go_simp
   refine hK.out _ _ (fun _ => (bq (by with_reducible repeat' first | assumption | constructor | go_size))) ?_
   clear hK K
   refine rd1 17 (by kernel_rfl) rfl (fun K hK => ?_)
   go_simp
   refine hK.out _ _ (fun _ => (bq (by with_reducible repeat' first | assumption | constructor | go_size))) ?_
   clear hK K
   refine rd1 18 (by kernel_rfl) rfl (fun K hK => ?_)
   go_simp
   refine hK.out _ _ (fun _ => (bq (by with_reducible repeat' first | assumption | constructor | go_size))) ?_
   clear hK K
   refine tb 19 (.int .i64 15) [] rfl (by kernel_rfl) (fun _ _ _ h => h) (by rfl) (by intros; go_simp) sS8.out ?_
   simp only [ppq]
   refine rd1 20 (by kernel_rfl) rfl (fun K hK => ?_)
   go_simp
   refine hK.out _ _ (fun _ => (bq (by with_reducible repeat' first | assumption | constructor | go_size))) ?_
   clear hK K
   refine rd1 21 (by kernel_rfl) rfl (fun K hK => ?_)
   go_simp
   refine hK.out _ _ (fun _ => (bq (by with_reducible repeat' first | assumption | constructor | go_size))) ?_
   clear hK K
   refine ts 22 [] rfl (by kernel_rfl) (fun _ _ _ h => h) (by rfl) sS8.out ?_
   simp only [ppq]
   refine ts 23 [] rfl (by kernel_rfl) (fun _ _ _ h => h) (by rfl) sS8.out ?_
   simp only [ppq]
   refine ts 24 [] rfl (by kernel_rfl) (fun _ _ _ h => h) (by rfl) sS8.out ?_
   simp only [ppq]
   refine ts 25 [] rfl (by kernel_rfl) (fun _ _ _ h => h) (by rfl) sS8.out ?_
   simp only [ppq]
   refine ts 26 [] rfl (by kernel_rfl) (fun _ _ _ h => h) (by rfl) sS8.out ?_
   simp only [ppq]
   refine ts 27 [] rfl (by kernel_rfl) (fun _ _ _ h => h) (by rfl) sS8.out ?_
   simp only [ppq]
   refine ts 28 [] rfl (by kernel_rfl) (fun _ _ _ h => h) (by rfl) sS8.out ?_
   simp only [ppq]
   refine ts 29 [] rfl (by kernel_rfl) (fun _ _ _ h => h) (by rfl) sS8.out ?_
   simp only [ppq]
   refine ts 30 [] rfl (by kernel_rfl) (fun _ _ _ h => h) (by rfl) sS8.out ?_
   simp only [ppq]
   refine ts 31 [] rfl (by kernel_rfl) (fun _ _ _ h => h) (by rfl) sS8.out ?_
   simp only [ppq]
   refine ts 32 [] rfl (by kernel_rfl) (fun _ _ _ h => h) (by rfl) sS8.out ?_
   simp only [ppq]
   refine ts 33 [] rfl (by kernel_rfl) (fun _ _ _ h => h) (by rfl) sS8.out ?_
   simp only [ppq]
   refine ts 34 [] rfl (by kernel_rfl) (fun _ _ _ h => h) (by rfl) sS8.out ?_
   simp only [ppq]
   refine ts 35 [] rfl (by kernel_rfl) (fun _ _ _ h => h) (by rfl) sS8.out ?_
   simp only [ppq]
   refine ts 36 [] rfl (by kernel_rfl) (fun _ _ _ h => h) (by rfl) sS8.out ?_
   simp only [ppq]
   refine ts 37 [] rfl (by kernel_rfl) (fun _ _ _ h => h) (by rfl) sS8.out ?_
   simp only [ppq]
   refine ts 38 [] rfl (by kernel_rfl) (fun _ _ _ h => h) (by rfl) sS8.out ?_
   simp only [ppq]
   refine ts 39 [] rfl (by kernel_rfl) (fun _ _ _ h => h) (by rfl) sS8.out ?_
   simp only [ppq]
   refine ts 40 [] rfl (by kernel_rfl) (fun _ _ _ h => h) (by rfl) sS8.out ?_
   simp only [ppq]
   refine ts 41 [] rfl (by kernel_rfl) (fun _ _ _ h => h) (by rfl) sS8.out ?_
   simp only [ppq]
   refine ts 42 [] rfl (by kernel_rfl) (fun _ _ _ h => h) (by rfl) sS8.out ?_
   simp only [ppq]
   refine ts 43 [] rfl (by kernel_rfl) (fun _ _ _ h => h) (by rfl) sS8.out ?_
   simp only [ppq]
   refine ts 44 [] rfl (by kernel_rfl) (fun _ _ _ h => h) (by rfl) sS8.out ?_
   simp only [ppq]
   refine rd1 45 (by kernel_rfl) rfl (fun K hK => ?_)
   go_simp
   refine hK.out _ _ (fun _ => (bq (by with_reducible repeat' first | assumption | constructor | go_size))) ?_
   clear hK K
   refine rd1 46 (by kernel_rfl) rfl (fun K hK => ?_)
   go_simp
   refine hK.out _ _ (fun _ => (bq (by with_reducible repeat' first | assumption | constructor | go_size))) ?_
   clear hK K
   refine wpAnyT_done (by kernel_rfl) ?_ _
   go_wp2
   exact ⟨⟨i + 1, by simp, HII.out, (bq (by with_reducible repeat' first | assumption | constructor | go_size))⟩, by have := HII.out; simp [intOf]; omega⟩
  ·have p0 : decide (i < n) = false := by simp; omega
   have p1 : decide ((a : Int) < 0) = false := by simp
   have p2 : decide (d ≤ a) = false := by have := HAD.out; simp; omega
   have p3 : decide (n ≤ d) = false := by have := HAD.out; simp; omega
   obtain ⟨b, o, rfl, hbl, hat⟩ := ((HS.out.view).below (show Below _ _ wr from (bq (by with_reducible repeat' first | assumption | constructor | go_size)))).at_ (by have := HAD.out; omega)
   obtain ⟨ka1, ka2⟩ := hat a (by have := HAD.out; omega)
   obtain ⟨kd1, kd2⟩ := hat d HAD.out.2
   obtain ⟨⟨a1, a2⟩, hxa⟩ : ∃ x, ls.getD a ([], []) = x := ⟨_, rfl⟩
   obtain ⟨⟨d1, d2⟩, hxd⟩ : ∃ x, ls.getD d ([], []) = x := ⟨_, rfl⟩
   rw [hxa] at ka1 ka2 HZ1 HZ2
   rw [hxd] at kd1 kd2 HZ1 HZ2
   dsimp only at ka1 ka2 kd1 kd2 HZ1 HZ2
   have ha' : a < n := by have := HAD.out; omega
   have hd' : d < n := HAD.out.2
   clear hi hat hxa hxd
   by_cases hz : z1 < 0
   ·have q1 : decide (z1 < 0) = true := by simpa using hz
    clear hz
    go_upto_region 17 with (fail)
    refine wp_region_T (fun w' => Below wr.heap.size wr w') [] (by kernel_rfl) ?_
    refine tb 0 (.slice (some ⟨b, o, none⟩) n c) [] rfl (by kernel_rfl) (fun _ _ _ h => h) (by rfl) (by intros; go_simp) bq0 ?_
    simp only [ppq]
    refine tb 1 (.int .i64 (a : Int)) [] rfl (by kernel_rfl) (fun _ _ _ h => h) (by rfl) (by intros; go_simp) bq0 ?_
    simp only [ppq]
    refine tb 2 (.pointer (some ⟨b, o + a * 2, none⟩)) [] rfl (by kernel_rfl) (fun _ _ _ h => h) (by rfl) (by intros; go_simp) bq0 ?_
    simp only [ppq]
    refine tb 3 (.pointer (some ⟨b, o + a * 2 + 1, none⟩)) [] rfl (by kernel_rfl) (fun _ _ _ h => h) (by rfl) (by intros; go_simp) bq0 ?_
    simp only [ppq]
    refine tb 4 (bs a2) [] rfl (by kernel_rfl) (fun _ _ _ h => h) (by rfl) (by intros; go_simp) bq0 ?_
    simp only [ppq]
    refine tb 5 (.slice (some ⟨b, o, none⟩) n c) [] rfl (by kernel_rfl) (fun _ _ _ h => h) (by rfl) (by intros; go_simp) bq0 ?_
    simp only [ppq]
    refine tb 6 (.int .i64 (d : Int)) [] rfl (by kernel_rfl) (fun _ _ _ h => h) (by rfl) (by intros; go_simp) bq0 ?_
    simp only [ppq]
    refine tb 7 (.pointer (some ⟨b, o + d * 2, none⟩)) [] rfl (by kernel_rfl) (fun _ _ _ h => h) (by rfl) (by intros; go_simp) bq0 ?_
    simp only [ppq]
    refine tb 8 (.pointer (some ⟨b, o + d * 2, none⟩)) [] rfl (by kernel_rfl) (fun _ _ _ h => h) (by rfl) (by intros; go_simp) bq0 ?_
    simp only [ppq]
    refine tb 9 (bs d1) [] rfl (by kernel_rfl) (fun _ _ _ h => h) (by rfl) (by intros; go_simp) bq0 ?_
    simp only [ppq]
    refine rd1 10 (by kernel_rfl) rfl (fun K hK => ?_)
    go_simp
    go_wp2_with (go_at_call 18; ((with_reducible refine (HZ1.out _).mono ?_); rintro e9 w9 ⟨rfl, hb9⟩); obtain ⟨hc9, hf9⟩ := bcell hb9; (try simp only [dw] at hc9 hf9))
    have sS9 := qh (bst bq0 hb9)
    refine hK.out _ _ (fun _ => sS9.out) ?_
    clear hK K
    refine rd1 11 (by kernel_rfl) rfl (fun K hK => ?_)
    go_simp
    refine hK.out _ _ (fun _ => (bq (by with_reducible repeat' first | assumption | constructor | go_size))) ?_
    clear hK K
    refine rd1 12 (by kernel_rfl) rfl (fun K hK => ?_)
    go_simp
    refine hK.out _ _ (fun _ => (bq (by with_reducible repeat' first | assumption | constructor | go_size))) ?_
    clear hK K
    refine ts 13 [] rfl (by kernel_rfl) (fun _ _ _ h => h) (by rfl) sS9.out ?_
    simp only [ppq]
    refine ts 14 [] rfl (by kernel_rfl) (fun _ _ _ h => h) (by rfl) sS9.out ?_
    simp only [ppq]
    refine ts 15 [] rfl (by kernel_rfl) (fun _ _ _ h => h) (by rfl) sS9.out ?_
    simp only [ppq]
    refine ts 16 [] rfl (by kernel_rfl) (fun _ _ _ h => h) (by rfl) sS9.out ?_
    simp only [ppq]
    refine ts 17 [] rfl (by kernel_rfl) (fun _ _ _ h => h) (by rfl) sS9.out ?_
    simp only [ppq]
    refine ts 18 [] rfl (by kernel_rfl) (fun _ _ _ h => h) (by rfl) sS9.out ?_
    simp only [ppq]
    refine ts 19 [] rfl (by kernel_rfl) (fun _ _ _ h => h) (by rfl) sS9.out ?_
    simp only [ppq]
    refine ts 20 [] rfl (by kernel_rfl) (fun _ _ _ h => h) (by rfl) sS9.out ?_
    simp only [ppq]
    refine ts 21 [] rfl (by kernel_rfl) (fun _ _ _ h => h) (by rfl) sS9.out ?_
    simp only [ppq]
    refine ts 22 [] rfl (by kernel_rfl) (fun _ _ _ h => h) (by rfl) sS9.out ?_
    simp only [ppq]
    refine ts 23 [] rfl (by kernel_rfl) (fun _ _ _ h => h) (by rfl) sS9.out ?_
    simp only [ppq]
    refine ts 24 [] rfl (by kernel_rfl) (fun _ _ _ h => h) (by rfl) sS9.out ?_
    simp only [ppq]
    refine rd1 25 (by kernel_rfl) rfl (fun K hK => ?_)
    go_simp
    refine hK.out _ _ (fun _ => (bq (by with_reducible repeat' first | assumption | constructor | go_size))) ?_
    clear hK K
    refine rd1 26 (by kernel_rfl) rfl (fun K hK => ?_)
    go_simp
    refine hK.out _ _ (fun _ => (bq (by with_reducible repeat' first | assumption | constructor | go_size))) ?_
    clear hK K
    refine wpAnyT_done (by kernel_rfl) ?_ _
    go_wp2
    go_ret
    exact ⟨rfl, (bq (by with_reducible repeat' first | assumption | constructor | go_size))⟩
   ·have q1 : decide (z1 < 0) = false := by simpa using hz
    have q2 : decide (z2 < 0) = true := by
     rcases HZ.out with e | e
     ·exact absurd e hz
     ·simpa using e
    clear hz
    go_upto_region 17 with (fail)
    refine wp_region_T (fun w' => Below wr.heap.size wr w') [] (by kernel_rfl) ?_
    refine tb 0 (.slice (some ⟨b, o, none⟩) n c) [] rfl (by kernel_rfl) (fun _ _ _ h => h) (by rfl) (by intros; go_simp) bq0 ?_
    simp only [ppq]
    refine tb 1 (.int .i64 (a : Int)) [] rfl (by kernel_rfl) (fun _ _ _ h => h) (by rfl) (by intros; go_simp) bq0 ?_
    simp only [ppq]
    refine tb 2 (.pointer (some ⟨b, o + a * 2, none⟩)) [] rfl (by kernel_rfl) (fun _ _ _ h => h) (by rfl) (by intros; go_simp) bq0 ?_
    simp only [ppq]
    refine tb 3 (.pointer (some ⟨b, o + a * 2 + 1, none⟩)) [] rfl (by kernel_rfl) (fun _ _ _ h => h) (by rfl) (by intros; go_simp) bq0 ?_
    simp only [ppq]
    refine tb 4 (bs a2) [] rfl (by kernel_rfl) (fun _ _ _ h => h) (by rfl) (by intros; go_simp) bq0 ?_
    simp only [ppq]
    refine tb 5 (.slice (some ⟨b, o, none⟩) n c) [] rfl (by kernel_rfl) (fun _ _ _ h => h) (by rfl) (by intros; go_simp) bq0 ?_
    simp only [ppq]
    refine tb 6 (.int .i64 (d : Int)) [] rfl (by kernel_rfl) (fun _ _ _ h => h) (by rfl) (by intros; go_simp) bq0 ?_
    simp only [ppq]
    refine tb 7 (.pointer (some ⟨b, o + d * 2, none⟩)) [] rfl (by kernel_rfl) (fun _ _ _ h => h) (by rfl) (by intros; go_simp) bq0 ?_
    simp only [ppq]
    refine tb 8 (.pointer (some ⟨b, o + d * 2, none⟩)) [] rfl (by kernel_rfl) (fun _ _ _ h => h) (by rfl) (by intros; go_simp) bq0 ?_
    simp only [ppq]
    refine tb 9 (bs d1) [] rfl (by kernel_rfl) (fun _ _ _ h => h) (by rfl) (by intros; go_simp) bq0 ?_
    simp only [ppq]
    refine rd1 10 (by kernel_rfl) rfl (fun K hK => ?_)
    go_simp
    go_wp2_with (go_at_call 18; ((with_reducible refine (HZ1.out _).mono ?_); rintro e9 w9 ⟨rfl, hb9⟩); obtain ⟨hc9, hf9⟩ := bcell hb9; (try simp only [dw] at hc9 hf9))
    have sS9 := qh (bst bq0 hb9)
    refine hK.out _ _ (fun _ => sS9.out) ?_
    clear hK K
    refine rd1 11 (by kernel_rfl) rfl (fun K hK => ?_)
    go_simp
    refine hK.out _ _ (fun _ => (bq (by with_reducible repeat' first | assumption | constructor | go_size))) ?_
    clear hK K
    refine rd1 12 (by kernel_rfl) rfl (fun K hK => ?_)
    go_simp
    refine hK.out _ _ (fun _ => (bq (by with_reducible repeat' first | assumption | constructor | go_size))) ?_
    clear hK K
    refine tb 13 (.slice (some ⟨b, o, none⟩) n c) [] rfl (by kernel_rfl) (fun _ _ _ h => h) (by rfl) (by intros; go_simp) sS9.out ?_
    simp only [ppq]
    refine tb 14 (.int .i64 (d : Int)) [] rfl (by kernel_rfl) (fun _ _ _ h => h) (by rfl) (by intros; go_simp) sS9.out ?_
    simp only [ppq]
    refine tb 15 (.pointer (some ⟨b, o + d * 2, none⟩)) [] rfl (by kernel_rfl) (fun _ _ _ h => h) (by rfl) (by intros; go_simp) sS9.out ?_
    simp only [ppq]
    refine tb 16 (.pointer (some ⟨b, o + d * 2 + 1, none⟩)) [] rfl (by kernel_rfl) (fun _ _ _ h => h) (by rfl) (by intros; go_simp) sS9.out ?_
    simp only [ppq]
    refine tb 17 (bs d2) [] rfl (by kernel_rfl) (fun _ _ _ h => h) (by rfl) (by intros; go_simp) sS9.out ?_
    simp only [ppq]
    refine tb 18 (.slice (some ⟨b, o, none⟩) n c) [] rfl (by kernel_rfl) (fun _ _ _ h => h) (by rfl) (by intros; go_simp) sS9.out ?_
    simp only [ppq]
    refine tb 19 (.int .i64 (a : Int)) [] rfl (by kernel_rfl) (fun _ _ _ h => h) (by rfl) (by intros; go_simp) sS9.out ?_
    simp only [ppq]
    refine tb 20 (.pointer (some ⟨b, o + a * 2, none⟩)) [] rfl (by kernel_rfl) (fun _ _ _ h => h) (by rfl) (by intros; go_simp) sS9.out ?_
    simp only [ppq]
    refine tb 21 (.pointer (some ⟨b, o + a * 2, none⟩)) [] rfl (by kernel_rfl) (fun _ _ _ h => h) (by rfl) (by intros; go_simp) sS9.out ?_
    simp only [ppq]
    refine tb 22 (bs a1) [] rfl (by kernel_rfl) (fun _ _ _ h => h) (by rfl) (by intros; go_simp) sS9.out ?_
    simp only [ppq]
    refine rd1 23 (by kernel_rfl) rfl (fun K hK => ?_)
    go_simp
    go_wp2_with (go_at_call 18; ((with_reducible refine (HZ2.out _).mono ?_); rintro e10 w10 ⟨rfl, hb10⟩); obtain ⟨hc10, hf10⟩ := bcell hb10; (try simp only [dw] at hc10 hf10))
    have sS10 := qh (bst sS9.out hb10)
    refine hK.out _ _ (fun _ => sS10.out) ?_
    clear hK K
    refine rd1 24 (by kernel_rfl) rfl (fun K hK => ?_)
    go_simp
    refine hK.out _ _ (fun _ => (bq (by with_reducible repeat' first | assumption | constructor | go_size))) ?_
    clear hK K
    refine rd1 25 (by kernel_rfl) rfl (fun K hK => ?_)
    go_simp
    refine hK.out _ _ (fun _ => (bq (by with_reducible repeat' first | assumption | constructor | go_size))) ?_
    clear hK K
    refine rd1 26 (by kernel_rfl) rfl (fun K hK => ?_)
    go_simp
    refine hK.out _ _ (fun _ => (bq (by with_reducible repeat' first | assumption | constructor | go_size))) ?_
    clear hK K
    refine wpAnyT_done (by kernel_rfl) ?_ _
    go_wp2
    go_ret
    exact ⟨rfl, (bq (by with_reducible repeat' first | assumption | constructor | go_size))⟩
theorem helly_none (hE : Env w) : Calls Tryz.prog 4 #[.slice A 0 c] w fun e w' => e = .returned (.bool true) ∧ Below w.heap.size w w' := by
 have HE := qh hE
 clear hE
 go_enter Tryz.func4, Tryz.ntmps4
 go_wp2_with (first | (go_at_call 5; ((with_reducible refine (awake_true (HE.out.below (bq (by with_reducible repeat' first | assumption | constructor | go_size)))).mono ?_); rintro e1 w1 ⟨rfl, hb1⟩); obtain ⟨hc1, hf1⟩ := bcell hb1; (try simp only [dw] at hc1 hf1)))
 go_wp2_with (first | (go_at_call 5; ((with_reducible refine (awake_true (HE.out.below (bq (by with_reducible repeat' first | assumption | constructor | go_size)))).mono ?_); rintro e2 w2 ⟨rfl, hb2⟩); obtain ⟨hc2, hf2⟩ := bcell hb2; (try simp only [dw] at hc2 hf2)))
 go_ret
 exact ⟨rfl, (bq (by with_reducible repeat' first | assumption | constructor | go_size))⟩
theorem helly_skip (hE : Env w) (h0 : 0 < n) (hF : ∀ W, Below w.heap.size w W → Calls Tryz.prog 12 #[.slice A n c, .int .i64 8, .int .i64 6] W fun e w' => e = .returned (.bool false) ∧ Below W.heap.size W w') :
  Calls Tryz.prog 4 #[.slice A n c] w fun e w' => e = .returned (.bool true) ∧ Below w.heap.size w w' := by
 have HE := qh hE
 have HF := qh hF
 have q0 : ((n : Int) == 0) = false := by rw [beq_eq_false_iff_ne]; omega
 clear hE hF h0
 go_enter Tryz.func4, Tryz.ntmps4
 go_wp2_with (first | (go_at_call 5; ((with_reducible refine (awake_true (HE.out.below (bq (by with_reducible repeat' first | assumption | constructor | go_size)))).mono ?_); rintro e1 w1 ⟨rfl, hb1⟩); obtain ⟨hc1, hf1⟩ := bcell hb1; (try simp only [dw] at hc1 hf1)) | (go_at_call 12; ((with_reducible refine (HF.out _ (bq (by with_reducible repeat' first | assumption | constructor | go_size))).mono ?_); rintro e2 w2 ⟨rfl, hb2⟩); obtain ⟨hc2, hf2⟩ := bcell hb2; (try simp only [dw] at hc2 hf2)))
 go_wp2_with (first | (go_at_call 5; ((with_reducible refine (awake_true (HE.out.below (bq (by with_reducible repeat' first | assumption | constructor | go_size)))).mono ?_); rintro e3 w3 ⟨rfl, hb3⟩); obtain ⟨hc3, hf3⟩ := bcell hb3; (try simp only [dw] at hc3 hf3)))
 go_ret
 exact ⟨rfl, (bq (by with_reducible repeat' first | assumption | constructor | go_size))⟩
/-- The law, for every list. -/
theorem helly_walk (hE : Env w) (h : Pv w A n ls) : Calls Tryz.prog 4 #[.slice A n c] w fun e w' => e = .returned (.bool true) ∧ Below w.heap.size w w' := by
 by_cases h0 : n = 0
 ·subst h0; exact helly_none hE
 ·by_cases h8 : n ≤ 8
  ·cases hf : ls.all (fewS 6)
   ·exact helly_skip hE (by omega) (fun W hb => fewspans_num hf (h.below hb) (by omega) (by omega) (by decide) (by decide))
   ·have H := hin_of h (by omega) h8 hf
    by_cases hle : maxF ((ls.map fun p => numQ p.1).getD 0 0) ((ls.map fun p => numQ p.1).drop 1) ≤ minF ((ls.map fun p => numQ p.2).getD 0 0) ((ls.map fun p => numQ p.2).drop 1)
    ·exact helly_yes hE H hle
    ·exact helly_not hE H (Rat.not_le.1 hle)
  ·exact helly_skip hE (by omega) (fun W hb => fewspans_many (by omega))
end
end Go.Proofs.YtoccfcpggomlaaaGreatDoor
namespace Go.Proofs.YtoccfcpggomlaaaGreatDoor
open Go Go.ChangeShapes Go.WideShapes Go.ChangeAt Go.RowKit

theorem open_spans {H : Type} {enc : TypeId × Value → H} {W : World} {A : Option Addr} {n c fuel : Nat} {x : DataW H × List MemPlace} (h : DataW.trod enc Tryz.prog W 0 (fun _ => true) true fuel 33 [.slice A n c] = some x) : ∃ ls, Pv W A n ls := by
 rcases Go.Deep.open_slice_pairs Tryz.underlying33 Tryz.underlying37 (by kernel_rfl) rfl rfl (by kernel_rfl) (by kernel_rfl) h with ⟨hcs, _⟩ | ⟨a, len, cap, m, fu, V0, V1, D0, D1, P0, P1, hcs, _, hl, hm, hz, _, hcell⟩
 ·simp at hcs
  obtain ⟨rfl, rfl, rfl⟩ := hcs
  exact ⟨[], rfl, fun h => by omega⟩
 ·simp at hcs
  obtain ⟨rfl, rfl, rfl⟩ := hcs
  simp only [if_true] at hz
  obtain ⟨b, off, spot⟩ := a
  have s0 : ∀ i, i < m → ∃ s : ByteArray, V0 i = .string s := fun i hi => by
   obtain ⟨s, h1, _, _⟩ := DataW.trod_string Tryz.underlying35 (hcell i hi).2.2.1
   exact ⟨s, by simpa using h1⟩
  have s1 : ∀ i, i < m → ∃ s : ByteArray, V1 i = .string s := fun i hi => by
   obtain ⟨s, h1, _, _⟩ := DataW.trod_string Tryz.underlying35 (hcell i hi).2.2.2
   exact ⟨s, by simpa using h1⟩
  let txt : Value → List UInt8 := fun v => match v with | .string s => s.data.toList | _ => []
  refine ⟨(List.range n).map fun i => (txt (V0 i), txt (V1 i)), by simp, fun h0 => ?_⟩
  have hspot : spot = none := by simpa [Addr.add] using World.cell?_spot (hcell 0 (by omega)).1
  subst hspot
  refine ⟨b, off, rfl, World.block_lt_of_cell? W _ (hcell 0 (by omega)).1, fun j hj => ?_⟩
  have hj' : j < m := by omega
  obtain ⟨c0, c1, _, _⟩ := hcell j hj'
  obtain ⟨t0, e0⟩ := s0 j hj'
  obtain ⟨t1, e1⟩ := s1 j hj'
  rw [add_plain, e0] at c0
  rw [add_plain, e1] at c1
  rw [List.getD_eq_getElem?_getD, List.getElem?_map, List.getElem?_range hj, Option.map_some, Option.getD_some, c0, e0, e1]
  rw [← Nat.add_assoc] at c1
  rw [c1]
  exact ⟨rfl, rfl⟩
theorem helly_met (os : Os) : laidMet Tryz.prog Rows.measureHellyRow.laid ((World.laidAll Tryz.prog os Rows.measureHellyRow.laid).forCall (fun _ _ => 0) ⟨#[], #[.slice none 0 0], []⟩).memory :=
 laidMet_laidAll _ (by kernel_rfl) (by kernel_rfl)
theorem helly_reads (os : Os) {H : Type} (enc : TypeId × Value → H) : ∃ places, DataW.whole enc Tryz.prog ((World.laidAll Tryz.prog os Rows.measureHellyRow.laid).forCall (fun _ _ => 0) ⟨#[], #[.slice none 0 0], []⟩).memory Tryz.f4.params.toList Rows.measureHellySpec.vars false #[Value.slice none 0 0].toList 8 = some ([.nil], [], places) :=
 ⟨[], by kernel_rfl⟩
theorem helly_contract (H : Type) (enc : TypeId × Value → H) (W : World) (base : Nat) (args : Array Value) (ds gs : List (DataW H)) (before : List MemPlace)
  (hval : ∀ (j : Nat) t v, Tryz.f4.params[j]? = some t → args[j]? = some v → Value.okWide Tryz.prog W .any base t v)
  (hW : DataW.Whole enc Tryz.prog Tryz.f4.params.toList Rows.measureHellySpec.vars false W args.toList ds gs before) (hL : laidMetH Tryz.prog Rows.measureHellyRow.laid W) (hS : W.ShapedOpen Tryz.prog) :
  Calls Tryz.prog 4 args W fun e W' => ∃ v, e = .returned v ∧ Rows.measureHellySpec.post enc Tryz.prog Tryz.f4 false true false false W args v W' := by
 have hE : Env W := env_of (laidMetH.plain hL (by kernel_rfl)).tail.tail hS
 have hW' := hW
 obtain ⟨p, q, hA0, hV, rfl, hfz, hnd⟩ := hW
 have hA : DataW.TrodAll enc Tryz.prog W 0 (fun _ => true) true Tryz.f4.params.toList args.toList ds p := hA0
 rw [Tryz.params4] at hA hval
 obtain ⟨v0, d0, rfl, rfl, h0⟩ := trodAll_one hA
 obtain ⟨rfl, rfl⟩ := trodVars_none hV
 obtain ⟨A, n, c, rfl⟩ := okWide_slice Tryz.underlying33 (hval 0 33 v0 rfl rfl)
 have h0k := h0
 obtain ⟨fuel0, hf0⟩ := h0
 simp only [List.append_nil, List.nil_append] at hW'
 have hlt : ∀ y ∈ p, y.block < W.heap.size := fun y hy => by simpa using hW'.lt y hy
 obtain ⟨ls, hv⟩ := open_spans hf0
 have walk : Calls Tryz.prog 4 #[.slice A n c] W fun e w' => e = .returned (.bool true) ∧ Below W.heap.size W w' := helly_walk hE hv
 refine walk.mono fun e W' ⟨he, hb⟩ => ?_
 subst he
 exact ⟨_, rfl, _, _, _, [], p, [], hW', trodAll_mk1 (shut_bool Tryz.underlying4 _), trodAll_mk1 (Below.trod laidOut (by kernel_rfl) (of_decide_eq_true (by kernel_rfl)) h0k hb hlt), rfl, hb.frame _, fun h => by cases h⟩
theorem helly_lifted (os : Os) (started : os.Started) (H : Type) (enc : TypeId × Value → H) (F : Stop.Interp) :
  ReturnsInHanded {} Tryz.checked os 4 .any ((OpenSpec.ofChange Rows.measureHellySpec).preRow enc Tryz.prog Tryz.f4 Rows.measureHellyRow.domain false Rows.measureHellyRow.laid) (((OpenSpec.ofChange Rows.measureHellySpec).at F).post enc Tryz.prog Tryz.f4 false true false false) := by
 obtain ⟨places, hx⟩ := helly_reads os enc
 refine returnsInHanded_of_row (C := Tryz.checked) (s := OpenSpec.ofChange Rows.measureHellySpec) own started (by kernel_rfl) Tryz.func4
  (witness_row_at (enc := enc) (C := Tryz.checked) false (World.laidAll Tryz.prog os Rows.measureHellyRow.laid) #[.slice none 0 0] (World.laidAll_os _ _ _) (by kernel_rfl) (by kernel_rfl) (by kernel_rfl)
    (OpenSpec.preRow_of_cond 8 hx (by kernel_rfl) (fun k hk => by cases hk) (by kernel_rfl) (by rw [MakeChecks.laidMetH_plain _ _ _ (by kernel_rfl)]; exact helly_met os))) ?_
 intro W base args ds gs before hval hW _ _ _ hL hS _
 exact helly_contract H enc W base args ds gs before hval hW hL hS
theorem helly_said : Rows.MeasureHellySaid :=
 OpenClaim.holds_of_cond 4 Tryz.f4 rfl rfl rfl rfl rfl rfl rfl ⟨rfl, rfl, rfl, rfl, rfl⟩ rfl rfl rfl rfl rfl (by kernel_rfl) Tryz.func4 (by kernel_rfl)
  (of_decide_eq_true (by kernel_rfl)) (by unfold Func.isWrapper; first | (rw [if_pos (by decide +kernel)]; kernel_rfl) | (rw [if_neg (by decide +kernel)]; exact ⟨rfl, rfl⟩))
  (fun os started H enc _ F => by rw [OpenClaim.pre_eq_preRow]; exact helly_lifted os started H enc F)
theorem helly_plain (f : FuncId) (fn : Func) (hf : Tryz.pinned.checked.prog.funcNamed "bushel/bushellaw01.MeasureHelly" = some f) (hfn : Tryz.pinned.checked.prog.funcs[f]? = some fn) :
  true = Tryz.pinned.checked.prog.looks [] ∧ ∀ (j : Nat) t, fn.params[j]? = some t → Tryz.pinned.checked.prog.wantsStandIn t = false := by
 obtain rfl : f = 4 := Option.some.inj ((show Tryz.prog.funcNamed "bushel/bushellaw01.MeasureHelly" = some 4 by kernel_rfl).symm.trans hf) |>.symm
 obtain rfl : fn = Tryz.f4 := (Option.some.inj (Tryz.func4.symm.trans hfn)).symm
 refine ⟨by kernel_rfl, fun j t ht => ?_⟩
 rw [Tryz.params4] at ht
 have hm : t ∈ [33] := by simpa using Array.mem_of_getElem? ht
 have hall : ([33].all fun u => !Tryz.prog.wantsStandIn u) = true := by kernel_rfl
 exact (show Tryz.prog.wantsStandIn t = false by simpa using List.all_eq_true.1 hall t hm)
/-- The card. -/
theorem helly_card : Rows.MeasureHellyCardSaid :=
 Claim7.holds_tied_plain_at .later [] _ _ _ _ helly_said (fun _ h => by cases h) (by kernel_rfl) (fun _ h => by cases h) measureHelly_row_tie rfl ⟨rfl, rfl⟩ (by kernel_rfl) rfl helly_plain (by kernel_rfl)
#print axioms helly_card
end Go.Proofs.YtoccfcpggomlaaaGreatDoor
