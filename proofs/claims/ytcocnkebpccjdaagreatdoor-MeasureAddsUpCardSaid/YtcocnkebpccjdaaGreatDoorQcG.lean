/- The law MeasureAddsUp: the walk. -/
import Derived.Test.YtcocnkebpccjdaaGreatDoorPd
import Derived.Test.YtcocnkebpccjdaaGreatDoorMqG
import Derived.Test.YtcocnkebpccjdaaGreatDoorCards
import Derived.Test.YtcocnkebpccjdaaGreatDoorTie
set_option linter.unusedSimpArgs false
set_option linter.unusedVariables false
set_option maxRecDepth 100000
set_option maxHeartbeats 8000000
namespace Go.Proofs.YtcocnkebpccjdaaGreatDoor
open Go Go.RowKit

theorem awake_at {w W : World} (hE : Env w) (hb : Below w.heap.size w W) : Calls Tryz.prog 5 #[] W fun e w' => e = .returned (.bool true) ∧ Below W.heap.size W w' := awake_true (hE.below hb)
theorem OwnI.ge {w : World} {base n : Nat} {v : Value} {zs : List Int} (h : OwnI w base v n zs) : ∀ k, v.ownBlock = some k → base ≤ k := by
 intro k hk
 rcases h.2 with ⟨rfl, h1⟩ | ⟨g, cap, cur, rfl, hb, hg, hnc, hcm, hcs, ht⟩
 ·simp [Value.ownBlock] at hk
 ·simp [Value.ownBlock] at hk
  omega
theorem nx {i n : Nat} (h : i < n) (k : n ≤ 8) : wrap64 ((i : Int) + 1) = ((i + 1 : Nat) : Int) := by unfold wrap64; omega
theorem w64_small {u : Nat} (h : (u : Int) < 65536) : wrap64 (u : Int) = u := by unfold wrap64; omega
theorem w64_sum {z x : Int} (h0 : 0 ≤ z) (h1 : z ≤ 8000) (h2 : 0 ≤ x) (h3 : x ≤ 1000) : wrap64 (z + x) = z + x := by unfold wrap64; omega
theorem snoc_last {l : List Int} {x : Int} {i : Nat} (h : l.length = i) : (l ++ [x]).getD i 0 = x := by subst h; simp
/-- What the law reckons with. -/
structure AddsUp (t : Int) (ws : List Int) (n : Nat) (outs : List Int) : Prop where
 len : outs.length = n
 low : ∀ i, i < n → 0 ≤ outs.getD i 0
 high : ∀ i, i < n → outs.getD i 0 ≤ t
 near : ∀ i, i < n → t * ws.getD i 0 - App.sumTo (fun j => ws.getD j 0) n < outs.getD i 0 * App.sumTo (fun j => ws.getD j 0) n ∧ outs.getD i 0 * App.sumTo (fun j => ws.getD j 0) n < t * ws.getD i 0 + App.sumTo (fun j => ws.getD j 0) n
 zero : ∀ i, i < n → ws.getD i 0 = 0 → outs.getD i 0 = 0
 mono : ∀ i j, i < n → j < n → ws.getD j 0 < ws.getD i 0 → outs.getD j 0 ≤ outs.getD i 0
 sum : App.sumTo (fun j => outs.getD j 0) n = t
theorem addsUp {t s : Int} {ws : List Int} {m : Nat} (hw : ∀ j, 0 ≤ ws.getD j 0) (hs : App.sumTo (fun j => ws.getD j 0) (m + 1) = s) (h1 : 0 < s) (ht : 0 ≤ t) :
  AddsUp t ws (m + 1) ((List.range (m + 1)).map (App.out t s (fun j => ws.getD j 0) (apL t s ws m) (App.left t s (fun j => ws.getD j 0) (m + 1)).toNat)) := by
 have O := apL_order t s ws m
 have hk : (((App.left t s (fun j => ws.getD j 0) (m + 1)).toNat : Nat) : Int) = App.left t s (fun j => ws.getD j 0) (m + 1) := Int.toNat_of_nonneg (App.left_nonneg hs h1)
 obtain ⟨k, hkk⟩ : ∃ k, (App.left t s (fun j => ws.getD j 0) (m + 1)).toNat = k := ⟨_, rfl⟩
 rw [hkk] at hk ⊢
 have at_ : ∀ i, i < m + 1 → ((List.range (m + 1)).map (App.out t s (fun j => ws.getD j 0) (apL t s ws m) k)).getD i 0 = App.out t s (fun j => ws.getD j 0) (apL t s ws m) k i := fun i hi => by
  rw [List.getD_eq_getElem?_getD, List.getElem?_map, List.getElem?_range hi]; rfl
 have hsum := App.out_sum hs h1 O hk
 have hlow : ∀ i, i < m + 1 → 0 ≤ App.out t s (fun j => ws.getD j 0) (apL t s ws m) k i := fun i hi => App.out_nonneg h1 (fun j _ => hw j) ht _ _ i hi
 refine ⟨by simp, fun i hi => by rw [at_ i hi]; exact hlow i hi, fun i hi => ?_, fun i hi => ?_, fun i hi h0 => by rw [at_ i hi]; exact App.out_zero hs h1 O hk i h0,
  fun i j hi hj hij => by rw [at_ i hi, at_ j hj]; exact App.out_mono hs h1 ht O hk i j hi hj hij, by rw [App.sumTo_congr (fun i hi => at_ i hi)]; exact hsum⟩
 ·have := App.sumTo_ge_one hlow hi
  rw [hsum] at this
  rw [at_ i hi]; exact this
 ·rw [at_ i hi, hs]; exact App.out_near hs h1 O hk i
theorem Iv.cell {W : World} {g n j : Nat} {zs : List Int} (h : Iv W (some ⟨g, 0, none⟩) n zs) (hj : j < n) : W.cell? ⟨g, j, none⟩ = some (.int .i64 (zs.getD j 0)) := by
 obtain ⟨b, o, e, _, hc⟩ := h.at_ (by omega)
 have := hc j hj
 cases e
 rwa [Nat.zero_add] at this
theorem part_facts {t z x y : Int} (hz0 : 0 < z) (hz1 : z ≤ 8000) (ht0 : 0 ≤ t) (ht1 : t ≤ 1000000) (hx0 : 0 ≤ x) (hx1 : x ≤ 1000) (hy0 : 0 ≤ y) (hy1 : y ≤ t) (hn : t * x - z < y * z ∧ y * z < t * x + z) :
  decide (y < 0) = false ∧ wrap64 (y * z) = y * z ∧ wrap64 (t * x) = t * x ∧ wrap64 (t * x - z) = t * x - z ∧ wrap64 (t * x + z) = t * x + z ∧ decide (y * z ≤ t * x - z) = false ∧ decide (t * x + z ≤ y * z) = false := by
 have a0 := Int.mul_nonneg ht0 hx0
 have a1 : t * x ≤ 1000000 * 1000 := Int.mul_le_mul ht1 hx1 hx0 (by omega)
 have b0 := Int.mul_nonneg hy0 (Int.le_of_lt hz0)
 have b1 : y * z ≤ 1000000 * 8000 := Int.mul_le_mul (by omega) hz1 (by omega) (by omega)
 obtain ⟨p, hp⟩ : ∃ p, t * x = p := ⟨_, rfl⟩
 obtain ⟨q, hq⟩ : ∃ q, y * z = q := ⟨_, rfl⟩
 simp only [hp, hq] at a0 a1 b0 b1 hn ⊢
 refine ⟨by rw [decide_eq_false_iff_not]; omega, ?_, ?_, ?_, ?_, by rw [decide_eq_false_iff_not]; omega, by rw [decide_eq_false_iff_not]; omega⟩ <;> (unfold wrap64; omega)
theorem w64_more {s y : Int} (h0 : 0 ≤ s) (h1 : s ≤ 8000000) (h2 : 0 ≤ y) (h3 : y ≤ 1000000) : wrap64 (s + y) = s + y := by unfold wrap64; omega
theorem app_some {w : World} {A : Option Addr} {n c : Nat} {ws : List Int} {t s : Int} (h : Iv w A n ws) (h0 : 0 < n) (hn : n ≤ 8) (ht0 : 0 ≤ t) (ht1 : t ≤ 1000000) (hw : ∀ j, 0 ≤ ws.getD j 0 ∧ ws.getD j 0 ≤ 1000) (hcw : cw ws = (s, 0)) (hsum : App.sumTo (fun j => ws.getD j 0) n = s) (hs : 0 < s) :
  Calls Tryz.prog 6 #[.int .i64 t, .slice A n c] w fun e w' => ∃ b d outs, e = .returned (.tuple #[.slice (some ⟨b, 0, none⟩) n d, .int .i64 0]) ∧ Iv w' (some ⟨b, 0, none⟩) n outs ∧ AddsUp t ws n outs ∧ Below w.heap.size w w' := by
 obtain ⟨m, rfl⟩ : ∃ m, n = m + 1 := ⟨n - 1, by omega⟩
 refine (apportion_ok (m := m) (s := s) rfl (by omega) h (fun j => by have := hw j; omega) hcw hsum hs ht0 (by omega)).mono ?_
 rintro e w' ⟨b, rfl, h1, _, h2⟩
 have hU := addsUp (t := t) (fun j => (hw j).1) hsum hs ht0
 refine ⟨_, _, _, rfl, ?_, hU, h2⟩
 have hl := hU.len
 have := blk_iv (fun z hz => ?_) h1
 ·rwa [hl] at this
 ·obtain ⟨j, hj, rfl⟩ := List.mem_iff_getElem.1 hz
  have a := hU.low j (by omega); have b := hU.high j (by omega)
  rw [List.getD_eq_getElem?_getD, List.getElem?_eq_getElem hj, Option.getD_some] at a b
  exact ⟨by omega, by omega⟩
section
variable {w : World} {A : Option Addr} {n c t : Nat} {us : List Nat}
theorem law_none (hE : Env w) : Calls Tryz.prog 4 #[.int .u32 (t : Int), .slice A 0 c] w fun e w' => e = .returned (.bool true) ∧ Below w.heap.size w w' := by
 have HE := Lib.hid hE
 clear hE
 go_enter Tryz.func4, Tryz.ntmps4
 go_wp2_with (first | (go_at_call 5; ((with_reducible refine (awake_at HE.out (by with_reducible repeat first | exact bR | assumption | apply bA | apply bD | apply bN | refine bC ?_ (by go_size) | refine bS ?_ ‹_›)).mono ?_); rintro e1 w1 ⟨rfl, hb1⟩); obtain ⟨hc1, hf1⟩ := bcell hb1; (try simp only [dw] at hc1 hf1)))
 go_ret
 exact ⟨rfl, (by with_reducible repeat first | exact bR | assumption | apply bA | apply bD | apply bN | refine bC ?_ (by go_size) | refine bS ?_ ‹_›)⟩
theorem law_many (hE : Env w) (hn : 8 < n) : Calls Tryz.prog 4 #[.int .u32 (t : Int), .slice A n c] w fun e w' => e = .returned (.bool true) ∧ Below w.heap.size w w' := by
 have HE := Lib.hid hE
 have q0 : ((n : Int) == 0) = false := by rw [beq_eq_false_iff_ne]; omega
 have q1 : decide ((8 : Int) < (n : Int)) = true := by rw [decide_eq_true_iff]; omega
 clear hE hn
 go_enter Tryz.func4, Tryz.ntmps4
 go_wp2_with (first | (go_at_call 5; ((with_reducible refine (awake_at HE.out (by with_reducible repeat first | exact bR | assumption | apply bA | apply bD | apply bN | refine bC ?_ (by go_size) | refine bS ?_ ‹_›)).mono ?_); rintro e1 w1 ⟨rfl, hb1⟩); obtain ⟨hc1, hf1⟩ := bcell hb1; (try simp only [dw] at hc1 hf1)))
 go_ret
 exact ⟨rfl, (by with_reducible repeat first | exact bR | assumption | apply bA | apply bD | apply bN | refine bC ?_ (by go_size) | refine bS ?_ ‹_›)⟩
set_option maxHeartbeats 16000000 in
theorem law_some (hE : Env w) (hv : Hv w A n us) (h0 : 0 < n) (hn : n ≤ 8) (ht : t < 4294967296) : Calls Tryz.prog 4 #[.int .u32 (t : Int), .slice A n c] w fun e w' => e = .returned (.bool true) ∧ Below w.heap.size w w' := by
 have HE := Lib.hid hE
 have HV := Lib.hid hv
 have HN := Lib.hid hn
 have H0 := Lib.hid h0
 have q0 : ((n : Int) == 0) = false := by rw [beq_eq_false_iff_ne]; omega
 have q1 : decide ((8 : Int) < (n : Int)) = false := by rw [decide_eq_false_iff_not]; omega
 have htt : (t : Int) < 4294967296 := by omega
 have HWL := Lib.hid (show (wz us).length = n by rw [wz_len, hv.len])
 have HWR := Lib.hid (fun j => wz_rng us j)
 have HT := Lib.hid (show t % 1000001 < 1000001 from Nat.mod_lt _ (by omega))
 have HCW := Lib.hid (cw_wz us)
 rw [hv.len] at HCW
 have HUS := Lib.hid (fun j => wz_at us j)
 have HWM : Hid (∀ y ∈ wz us, R64 y) := Lib.hid (fun y hy => by have := wz_mem hy; exact ⟨by omega, by omega⟩)
 clear hE hv h0 hn ht
 go_enter Tryz.func4, Tryz.ntmps4
 go_wp2_with (first | (go_at_call 5; ((with_reducible refine (awake_at HE.out (by with_reducible repeat first | exact bR | assumption | apply bA | apply bD | apply bN | refine bC ?_ (by go_size) | refine bS ?_ ‹_›)).mono ?_); rintro e1 w1 ⟨rfl, hb1⟩); obtain ⟨hc1, hf1⟩ := bcell hb1; (try simp only [dw] at hc1 hf1)))
 obtain ⟨T, hT⟩ : ∃ x, (t : Int) % 1000001 = x := ⟨_, rfl⟩
 have HT2 : Hid (0 ≤ T ∧ T ≤ 1000000) := Lib.hid (by have := HT.out; omega)
 simp only [hT]
 clear hT htt HT
 obtain ⟨ws, hws⟩ : ∃ x, wz us = x := ⟨_, rfl⟩
 rw [hws] at HWL HWR HCW HUS HWM
 have hle : w.heap.size ≤ w1.heap.size := hb1.size
 go_loopw [6, 7, 8] (fun u6 u7 u8 wr => ∃ (i : Nat) (z : Int), u6 = .int .i64 z ∧ u8 = .int .i64 (i : Int) ∧ i ≤ n ∧ App.sumTo (fun j => ws.getD j 0) i = z ∧ 0 ≤ z ∧ z ≤ i * 1000 ∧ Below w.heap.size w wr ∧ OwnI wr w.heap.size u7 i (ws.take i)) (fun _ _ u _ => n - (intOf u).toNat)
 case atStart => exact ⟨0, 0, rfl, rfl, Nat.zero_le _, rfl, by omega, by omega, (by with_reducible repeat first | exact bR | assumption | apply bA | apply bD | apply bN | refine bC ?_ (by go_size) | refine bS ?_ ‹_›), World.ownsRow_nil _ _ _ _⟩
 case round =>
  obtain ⟨i, z, rfl, rfl, hin, hz, hz0, hz1, hb, how⟩ := hrel
  have HOW := Lib.hid how
  have HZ := Lib.hid hz
  have HZB := Lib.hid (And.intro hz0 hz1)
  have HIN := Lib.hid hin
  clear how hz hz0 hz1 hin
  by_cases hi : i < n
  ·have p0 : decide (i < n) = true := by simpa using hi
   obtain ⟨b, o, rfl, hbl, hat⟩ := (HV.out.below hb).at_ (by omega)
   have k0 := hat i hi
   obtain ⟨u, hu⟩ : ∃ u, us.getD i 0 = u := ⟨_, rfl⟩
   have hux := HUS.out i
   rw [hu] at k0 hux
   have hwr := HWR.out i
   have HTK : Hid (ws.take i ++ [ws.getD i 0] = ws.take (i + 1)) := Lib.hid (snoc_at (d := 0) (by rw [HWL.out]; exact hi) rfl).symm
   have HLT : Hid ((ws.take i).length = i) := Lib.hid (by rw [List.length_take, HWL.out]; omega)
   obtain ⟨x, hx⟩ : ∃ x, ws.getD i 0 = x := ⟨_, rfl⟩
   rw [hx] at hux hwr HTK
   have huu : (u : Int) < 65536 := by
    have hm : us.getD i 0 ∈ us := getD_mem (by rw [HV.out.len]; exact hi)
    have := HV.out.rng _ hm
    rw [hu] at this; omega
   have q2 : (wrap64 (u : Int)).tmod 1001 = x := by rw [hux, w64_small huu, Int.tmod_eq_emod_of_nonneg (by omega)]; rfl
   have HS1 : Hid (App.sumTo (fun j => ws.getD j 0) (i + 1) = z + x) := Lib.hid (by rw [App.sumTo, HZ.out, hx])
   have HII := Lib.hid hi
   have m1 : wrap64 (z + x) = z + x := w64_sum HZB.out.1 (by have := HZB.out.2; have := HN.out; have := HIN.out; omega) hwr.1 hwr.2
   have HX := Lib.hid hwr
   have HUU := Lib.hid huu
   clear hat hu hux hx hwr huu
   go_wp2_with (at_builtin; refine wpList_append_int (v := u7) (x := x) rfl _ _ rfl rfl rfl rfl (HOW.out.below (by with_reducible repeat first | exact bR | assumption | apply bA | apply bD | apply bN | refine bC ?_ (by go_size) | refine bS ?_ ‹_›)) HLT.out (by have := HN.out; have := HII.out; omega) (by have := hb.size; simp; omega) (by simp [q2]) ?_; intro g5 c5 w5 ho5 hc5 hg5; have k5 := hc5 i (by omega); rw [snoc_last HLT.out] at k5; clear hc5)
   rw [HTK.out] at ho5
   refine ⟨⟨i + 1, z + x, by rw [m1], by rw [nx HII.out HN.out], HII.out, HS1.out, by have := HZB.out; have := HX.out; omega, by have := HZB.out; have := HX.out; omega, ?_, ho5⟩, by have := HII.out; rw [nx this HN.out]; simp [intOf]; omega⟩
   have hge := HOW.out.ge
   exact (below_alloc hb _).trans (grown_below (base := w.heap.size) hg5 (by have := hb.size; simp; omega) hge)
  ·obtain rfl : n = i := by have := HIN.out; omega
   have p0 : decide (n < n) = false := by simp
   have HTN : Hid (ws.take n = ws) := Lib.hid (List.take_of_length_le (by rw [HWL.out]; exact Nat.le_refl _))
   rw [HTN.out] at HOW
   obtain ⟨g, c', rfl, hI⟩ := HOW.out.iv HWL.out H0.out (fun y hy => HWM.out y hy)
   have HI := Lib.hid hI
   clear hI
   obtain rfl | hz0 := Int.lt_or_eq_of_le HZB.out.1 |>.symm
   ·have hcw := HCW.out
    rw [HZ.out, if_pos rfl] at hcw
    have HCZ := Lib.hid hcw
    clear hcw hi
    go_wp2_with (first | (go_at_call 6; ((with_reducible refine (apportion_err (k := 6) (HI.out.below (by with_reducible repeat first | exact bR | assumption | apply bA | apply bD | apply bN | refine bC ?_ (by go_size) | refine bS ?_ ‹_›)) H0.out (by have := HN.out; omega) HT2.out.1 (by have := HT2.out.2; omega) HCZ.out (by decide)).mono ?_); rintro e2 w2 ⟨rfl, hb2⟩); obtain ⟨hc2, hf2⟩ := bcell hb2; (try simp only [dw] at hc2 hf2)))
    go_ret
    exact ⟨rfl, (by with_reducible repeat first | exact bR | assumption | apply bA | apply bD | apply bN | refine bC ?_ (by go_size) | refine bS ?_ ‹_›)⟩
   ·have hcw := HCW.out
    rw [HZ.out, if_neg (by omega)] at hcw
    have HCZ := Lib.hid hcw
    have q5 : (z == 0) = false := by rw [beq_eq_false_iff_ne]; omega
    have HZ0 := Lib.hid hz0
    clear hcw hi hz0
    go_wp2_with (first | (go_at_call 6; (with_reducible refine (app_some (HI.out.below (by with_reducible repeat first | exact bR | assumption | apply bA | apply bD | apply bN | refine bC ?_ (by go_size) | refine bS ?_ ‹_›)) H0.out HN.out HT2.out.1 HT2.out.2 (fun j => HWR.out j) HCZ.out HZ.out HZ0.out).mono ?_); rintro e2 w2 ⟨b2, c2, outs, rfl, hO2, hA2, hb2⟩; have HO := Lib.hid hO2; have HA := Lib.hid hA2; clear hO2 hA2))
    have HW2 := Lib.hid (HI.out.below hb2)
    have HB2 : Hid (Below w.heap.size w w2) := Lib.hid (by with_reducible repeat first | exact bR | assumption | apply bA | apply bD | apply bN | refine bC ?_ (by go_size) | refine bS ?_ ‹_›)
    have HNR := Lib.hid (fun k (hk : k < n) => part_facts HZ0.out (by have := HZB.out.2; have := HN.out; omega) HT2.out.1 HT2.out.2 (HWR.out k).1 (HWR.out k).2 (HA.out.low k hk) (HA.out.high k hk) (by have := HA.out.near k hk; rwa [HZ.out] at this))
    clear hb hb2 HOW HI HUS HWM HCZ HCW HZB hc1 hf1 hb1 hle
    go_loopw [11, 12, 13] (fun u11 u12 _ wx => ∃ (k : Nat) (s : Int), u11 = .int .i64 s ∧ u12 = .int .i64 (k : Int) ∧ k ≤ n ∧ App.sumTo (fun j => outs.getD j 0) k = s ∧ 0 ≤ s ∧ s ≤ k * 1000000 ∧ Below w2.heap.size w2 wx) (fun _ u _ _ => n - (intOf u).toNat)
    case atStart => exact ⟨0, 0, rfl, rfl, Nat.zero_le _, rfl, by omega, by omega, (by with_reducible repeat first | exact bR | assumption | apply bA | apply bD | apply bN | refine bC ?_ (by go_size) | refine bS ?_ ‹_›)⟩
    case round =>
     obtain ⟨k, s, rfl, rfl, hkn, hs, hs0, hs1, hbx⟩ := hrel
     have HKN := Lib.hid hkn
     have HS := Lib.hid hs
     have HSB := Lib.hid (And.intro hs0 hs1)
     clear hkn hs hs0 hs1
     by_cases hk : k < n
     ·have p1 : decide (k < n) = true := by simpa using hk
      have j1 := (HO.out.below hbx).cell hk
      have j2 := (HW2.out.below hbx).cell hk
      obtain ⟨d1, d2, d3, d4, d5, d6, d7⟩ := HNR.out k hk
      have hx := HWR.out k
      have hy0 := HA.out.low k hk
      have hy1 := HA.out.high k hk
      have hyz := HA.out.zero k hk
      have hsum : App.sumTo (fun j => outs.getD j 0) (k + 1) = s + outs.getD k 0 := by rw [App.sumTo, HS.out]
      have HM : Hid (∀ j, j < n → ws.getD j 0 < ws.getD k 0 → outs.getD j 0 ≤ outs.getD k 0) := Lib.hid (fun j hj => HA.out.mono k j hk hj)
      obtain ⟨x, hxx⟩ : ∃ x, ws.getD k 0 = x := ⟨_, rfl⟩
      obtain ⟨y, hyy⟩ : ∃ y, outs.getD k 0 = y := ⟨_, rfl⟩
      rw [hxx] at j2 d3 d4 d5 d6 d7 hx hyz HM
      rw [hyy] at j1 d1 d2 d6 d7 hy0 hy1 hyz hsum HM
      have m1 : wrap64 (s + y) = s + y := w64_more HSB.out.1 (by have := HSB.out.2; have := HKN.out; have := HN.out; omega) hy0 (by have := HT2.out.2; omega)
      have HSS := Lib.hid hsum
      have HYB : Hid (0 ≤ y ∧ y ≤ 1000000) := Lib.hid ⟨hy0, by have := HT2.out.2; omega⟩
      have HK := Lib.hid hk
      have HXX := Lib.hid hxx
      have HYY := Lib.hid hyy
      clear hx hy0 hy1 hsum hxx hyy
      go_upto_region 21 with (fail)
      go_cut [139] (fun u wz => u = .bool false ∧ Below w2.heap.size w2 wz)
      case first =>
       by_cases h : x = 0
       ·have e2 : (y != 0) = false := by rw [hyz h]; rfl
        have e3 : (x == 0) = true := by rw [beq_iff_eq]; exact h
        clear hyz h
        go_quiet (fail)
        go_wp2
        go_meet
        exact ⟨rfl, (by with_reducible repeat first | exact bR | assumption | apply bA | apply bD | apply bN | refine bC ?_ (by go_size) | refine bS ?_ ‹_›)⟩
       ·have e2 : (x == 0) = false := by rw [beq_eq_false_iff_ne]; exact h
        clear hyz h
        go_quiet (fail)
        go_wp2
        go_meet
        exact ⟨rfl, (by with_reducible repeat first | exact bR | assumption | apply bA | apply bD | apply bN | refine bC ?_ (by go_size) | refine bS ?_ ‹_›)⟩
      case rest =>
       obtain ⟨rfl, hbc⟩ := hcut
       have HBC := Lib.hid hbc
       clear j1 j2 d1 d2 d3 d4 d5 d6 d7 hyz p1 hbx hbc
       go_wp2_with (fail)
       have hbc := HBC.out
       go_loopw [13] (fun u13 wy => ∃ j : Nat, u13 = .int .i64 (j : Int) ∧ j ≤ n ∧ Below w2.heap.size w2 wy) (fun u _ => n - (intOf u).toNat)
       case atStart => exact ⟨0, rfl, Nat.zero_le _, (by with_reducible repeat first | exact bR | assumption | apply bA | apply bD | apply bN | refine bC ?_ (by go_size) | refine bS ?_ ‹_›)⟩
       case round =>
        obtain ⟨j, rfl, hjn, hby⟩ := hrel
        have HJN := Lib.hid hjn
        clear hjn hbc
        have hk := HK.out
        by_cases hj : j < n
        ·have p2 : decide (j < n) = true := by simpa using hj
         have i1 := (HO.out.below hby).cell hk
         have i2 := (HW2.out.below hby).cell hk
         have i3 := (HO.out.below hby).cell hj
         have i4 := (HW2.out.below hby).cell hj
         have hm := HM.out j hj
         obtain ⟨x', hxx'⟩ : ∃ x, ws.getD j 0 = x := ⟨_, rfl⟩
         obtain ⟨y', hyy'⟩ : ∃ y, outs.getD j 0 = y := ⟨_, rfl⟩
         rw [HXX.out] at i2
         rw [HYY.out] at i1
         rw [hxx'] at i4 hm
         rw [hyy'] at i3 hm
         have HJ := Lib.hid hj
         by_cases h : x' < x
         ·have e1 : decide (x' < x) = true := by simpa using h
          have e2 : decide (y < y') = false := by rw [decide_eq_false_iff_not]; have := hm h; omega
          clear hm h hxx' hyy'
          go_upto_region 26 with (fail)
          go_quiet (fail)
          go_wp2
          go_roundw
          case rel => exact ⟨j + 1, by rw [nx HJ.out HN.out], HJ.out, (by with_reducible repeat first | exact bR | assumption | apply bA | apply bD | apply bN | refine bC ?_ (by go_size) | refine bS ?_ ‹_›)⟩
          case measure => have := HJ.out; rw [nx this HN.out]; simp [intOf]; omega
         ·have e1 : decide (x' < x) = false := by rw [decide_eq_false_iff_not]; exact h
          clear hm h hxx' hyy'
          go_upto_region 26 with (fail)
          go_quiet (fail)
          go_wp2
          go_roundw
          case rel => exact ⟨j + 1, by rw [nx HJ.out HN.out], HJ.out, (by with_reducible repeat first | exact bR | assumption | apply bA | apply bD | apply bN | refine bC ?_ (by go_size) | refine bS ?_ ‹_›)⟩
          case measure => have := HJ.out; rw [nx this HN.out]; simp [intOf]; omega
        ·have p2 : decide (j < n) = false := by simpa using hj
         clear hj
         go_wp2
         go_roundw
         case rel => exact ⟨k + 1, s + y, by rw [m1], by rw [nx HK.out HN.out], HK.out, HSS.out, by have := HSB.out; have := HYB.out; omega, by have := HSB.out; have := HYB.out; omega, (by with_reducible repeat first | exact bR | assumption | apply bA | apply bD | apply bN | refine bC ?_ (by go_size) | refine bS ?_ ‹_›)⟩
         case measure => have := HK.out; rw [nx this HN.out]; simp [intOf]; omega
     ·obtain rfl : n = k := by have := HKN.out; omega
      have p1 : decide (n < n) = false := by simp
      have hs := HS.out
      rw [HA.out.sum] at hs
      have q6 : (s == T) = true := by rw [beq_iff_eq]; exact hs.symm
      clear hs hk
      have hbW := HB2.out
      go_wp2
      go_ret
      exact ⟨rfl, (by with_reducible repeat first | exact bR | assumption | apply bA | apply bD | apply bN | refine bC ?_ (by go_size) | refine bS ?_ ‹_›)⟩
end
end Go.Proofs.YtcocnkebpccjdaaGreatDoor
namespace Go.Proofs.YtcocnkebpccjdaaGreatDoor
open Go Go.ChangeShapes Go.WideShapes Go.ChangeAt Go.RowKit

theorem addsUp_met (os : Os) : laidMet Tryz.prog Rows.measureAddsUpRow.laid ((World.laidAll Tryz.prog os Rows.measureAddsUpRow.laid).forCall (fun _ _ => 0) ⟨#[], #[.int .u32 0, .slice none 0 0], []⟩).memory :=
 laidMet_laidAll _ (by kernel_rfl) (by kernel_rfl)
theorem addsUp_reads (os : Os) {H : Type} (enc : TypeId × Value → H) : ∃ places, DataW.whole enc Tryz.prog ((World.laidAll Tryz.prog os Rows.measureAddsUpRow.laid).forCall (fun _ _ => 0) ⟨#[], #[.int .u32 0, .slice none 0 0], []⟩).memory Tryz.f4.params.toList Rows.measureAddsUpSpec.vars false #[Value.int .u32 0, .slice none 0 0].toList 8 = some ([.lit (.int .u32 0), .nil], [], places) :=
 ⟨[], by kernel_rfl⟩
theorem addsUp_contract (H : Type) (enc : TypeId × Value → H) (W : World) (base : Nat) (args : Array Value) (ds gs : List (DataW H)) (before : List MemPlace)
  (hval : ∀ (j : Nat) t v, Tryz.f4.params[j]? = some t → args[j]? = some v → Value.okWide Tryz.prog W .any base t v)
  (hW : DataW.Whole enc Tryz.prog Tryz.f4.params.toList Rows.measureAddsUpSpec.vars false W args.toList ds gs before) (hL : laidMetH Tryz.prog Rows.measureAddsUpRow.laid W) (hS : W.ShapedOpen Tryz.prog) :
  Calls Tryz.prog 4 args W fun e W' => ∃ v, e = .returned v ∧ Rows.measureAddsUpSpec.post enc Tryz.prog Tryz.f4 false true false false W args v W' := by
 have hE : Env W := env_of (laidMetH.plain hL (by kernel_rfl)).tail.tail hS
 have hW' := hW
 obtain ⟨p, q, hA0, hV, rfl, hfz, hnd⟩ := hW
 have hA : DataW.TrodAll enc Tryz.prog W 0 (fun _ => true) true Tryz.f4.params.toList args.toList ds p := hA0
 rw [Tryz.params4] at hA hval
 obtain ⟨v0, v1, d0, d1, p0, p1, rfl, rfl, rfl, h0, h1⟩ := trodAll_two hA
 obtain ⟨rfl, rfl⟩ := trodVars_none hV
 obtain ⟨x, rfl, rfl, rfl, wx⟩ := open_int Tryz.underlying33 (hval 0 33 v0 rfl rfl) h0
 obtain ⟨A, n, c, rfl⟩ := okWide_slice Tryz.underlying34 (hval 1 34 v1 rfl rfl)
 have h1k := h1
 obtain ⟨fuel1, hf1⟩ := h1
 simp only [List.append_nil, List.nil_append] at hW'
 have hlt : ∀ y ∈ p1, y.block < W.heap.size := fun y hy => by simpa using hW'.lt y hy
 have hx : 0 ≤ x ∧ x ≤ 4294967295 := by simpa [Lit.wf, IntKind.min, IntKind.max, IntKind.signed, IntKind.bits] using wx
 obtain ⟨t, rfl⟩ : ∃ t : Nat, x = t := ⟨x.toNat, by omega⟩
 obtain ⟨us, hv⟩ := open_u16 hf1
 have walk : Calls Tryz.prog 4 #[.int .u32 (t : Int), .slice A n c] W fun e w' => e = .returned (.bool true) ∧ Below W.heap.size W w' := by
  rcases Nat.eq_zero_or_pos n with rfl | h0
  ·exact law_none hE
  ·rcases Nat.lt_or_ge 8 n with h8 | h8
   ·exact law_many hE h8
   ·exact law_some hE hv h0 h8 (by omega)
 refine walk.mono fun e W' ⟨he, hb⟩ => ?_
 subst he
 exact ⟨_, rfl, _, _, _, [], p1, [], hW', trodAll_mk1 (shut_bool Tryz.underlying4 _), trodAll_mk2 (p := []) (shut_int Tryz.underlying33 wx) (Below.trod laidOut (by kernel_rfl) (of_decide_eq_true (by kernel_rfl)) h1k hb hlt), rfl, hb.frame _, fun h => by cases h⟩
theorem addsUp_lifted (os : Os) (started : os.Started) (H : Type) (enc : TypeId × Value → H) (F : Stop.Interp) :
  ReturnsInHanded {} Tryz.checked os 4 .any ((OpenSpec.ofChange Rows.measureAddsUpSpec).preRow enc Tryz.prog Tryz.f4 Rows.measureAddsUpRow.domain false Rows.measureAddsUpRow.laid) (((OpenSpec.ofChange Rows.measureAddsUpSpec).at F).post enc Tryz.prog Tryz.f4 false true false false) := by
 obtain ⟨places, hx⟩ := addsUp_reads os enc
 refine returnsInHanded_of_row (C := Tryz.checked) (s := OpenSpec.ofChange Rows.measureAddsUpSpec) own started (by kernel_rfl) Tryz.func4
  (witness_row_at (enc := enc) (C := Tryz.checked) false (World.laidAll Tryz.prog os Rows.measureAddsUpRow.laid) #[.int .u32 0, .slice none 0 0] (World.laidAll_os _ _ _) (by kernel_rfl) (by kernel_rfl) (by kernel_rfl)
    (OpenSpec.preRow_of_cond 8 hx (by kernel_rfl) (fun k hk => by cases hk) (by kernel_rfl) (by rw [MakeChecks.laidMetH_plain _ _ _ (by kernel_rfl)]; exact addsUp_met os))) ?_
 intro W base args ds gs before hval hW _ _ _ hL hS _
 exact addsUp_contract H enc W base args ds gs before hval hW hL hS
theorem addsUp_said : Rows.MeasureAddsUpSaid :=
 OpenClaim.holds_of_cond 4 Tryz.f4 rfl rfl rfl rfl rfl rfl rfl ⟨rfl, rfl, rfl, rfl, rfl⟩ rfl rfl rfl rfl rfl (by kernel_rfl) Tryz.func4 (by kernel_rfl)
  (of_decide_eq_true (by kernel_rfl)) (by unfold Func.isWrapper; first | (rw [if_pos (by decide +kernel)]; kernel_rfl) | (rw [if_neg (by decide +kernel)]; exact ⟨rfl, rfl⟩))
  (fun os started H enc _ F => by rw [OpenClaim.pre_eq_preRow]; exact addsUp_lifted os started H enc F)
theorem addsUp_plain (f : FuncId) (fn : Func) (hf : Tryz.pinned.checked.prog.funcNamed "bushel/bushellaw01.MeasureAddsUp" = some f) (hfn : Tryz.pinned.checked.prog.funcs[f]? = some fn) :
  true = Tryz.pinned.checked.prog.looks [] ∧ ∀ (j : Nat) t, fn.params[j]? = some t → Tryz.pinned.checked.prog.wantsStandIn t = false := by
 obtain rfl : f = 4 := Option.some.inj ((show Tryz.prog.funcNamed "bushel/bushellaw01.MeasureAddsUp" = some 4 by kernel_rfl).symm.trans hf) |>.symm
 obtain rfl : fn = Tryz.f4 := (Option.some.inj (Tryz.func4.symm.trans hfn)).symm
 refine ⟨by kernel_rfl, fun j t ht => ?_⟩
 rw [Tryz.params4] at ht
 have hm : t ∈ [33, 34] := by simpa using Array.mem_of_getElem? ht
 have hall : ([33, 34].all fun u => !Tryz.prog.wantsStandIn u) = true := by kernel_rfl
 exact (show Tryz.prog.wantsStandIn t = false by simpa using List.all_eq_true.1 hall t hm)
/-- The card. -/
theorem addsUp_card : Rows.MeasureAddsUpCardSaid :=
 Claim7.holds_tied_plain_at .later [] _ _ _ _ addsUp_said (fun _ h => by cases h) (by kernel_rfl) (fun _ h => by cases h) measureAddsUp_row_tie rfl ⟨rfl, rfl⟩ (by kernel_rfl) rfl addsUp_plain (by kernel_rfl)
end Go.Proofs.YtcocnkebpccjdaaGreatDoor
