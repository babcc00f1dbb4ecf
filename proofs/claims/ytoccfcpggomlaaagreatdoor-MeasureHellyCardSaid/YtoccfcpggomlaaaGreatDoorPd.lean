/- The document's examples hold: awake is true. -/
import Derived.Test.YtoccfcpggomlaaaGreatDoorPbG
set_option linter.unusedSimpArgs false
set_option linter.unusedVariables false
set_option maxRecDepth 100000
set_option maxHeartbeats 8000000
namespace Go.Proofs.YtoccfcpggomlaaaGreatDoor
open Go Go.RowKit

section
variable {w : World}
theorem isn1 {w : World} : Calls Tryz.prog 27 #[bs [108, 111, 116, 45, 55]] w fun e w' => e = .returned (.bool true) ∧ Below w.heap.size w w' := isName_fact (by decide +kernel)
theorem isn2 {w : World} : Calls Tryz.prog 27 #[bs [97, 32, 98]] w fun e w' => e = .returned (.bool false) ∧ Below w.heap.size w w' := isName_fact (by decide +kernel)
theorem clash1 {W : World} {p c : Nat} (hE : Env W) (hp : W.heap.size = p) : Calls Tryz.prog 14 #[.slice (some ⟨p, 0, none⟩) 3 c] (W.alloc (.cells #[bs [48], bs [50], bs [49], bs [52], bs [51], bs [53]] 37)) fun e w' => e = .returned (.tuple #[.int .i64 0, .int .i64 2, .int .i64 0]) ∧ Below (W.alloc (.cells #[bs [48], bs [50], bs [49], bs [52], bs [51], bs [53]] 37)).heap.size (W.alloc (.cells #[bs [48], bs [50], bs [49], bs [52], bs [51], bs [53]] 37)) w' :=
 clash_ok (hE.below (below_alloc (Below.refl _ _) _)) (clash_in hp) clashR
theorem means1 {W : World} {p q c d : Nat} (hE : Env W) (hp : W.heap.size = p) (hq : W.heap.size + 1 = q) : Calls Tryz.prog 22 #[.slice (some ⟨p, 0, none⟩) 2 c, .slice (some ⟨q, 0, none⟩) 2 d] ((W.alloc (.cells #[bs [49, 48], bs [49, 49], bs [49, 51], bs [49, 53]] 37)).alloc (.cells #[.int .i64 2, .int .i64 1] 3)) fun e w' => e = .returned (.tuple #[.agg #[bs [49, 49], bs [51, 55, 47, 51]], .int .i64 0]) ∧ Below ((W.alloc (.cells #[bs [49, 48], bs [49, 49], bs [49, 51], bs [49, 53]] 37)).alloc (.cells #[.int .i64 2, .int .i64 1] 3)).heap.size ((W.alloc (.cells #[bs [49, 48], bs [49, 49], bs [49, 51], bs [49, 53]] 37)).alloc (.cells #[.int .i64 2, .int .i64 1] 3)) w' :=
 means_ok (ws := [2, 1]) (s := 3) (hE.below (below_alloc (below_alloc (Below.refl _ _) _) _)) ((mean_in hp).below (below_alloc (Below.refl _ _) _)) (iv_cells [2, 1] (by intro z hz; simp at hz; rcases hz with rfl | rfl <;> exact ⟨by decide, by decide⟩) (by rw [World.size_alloc]; exact hq)) (by decide +kernel)
  (fun j hj => by have h : j = 0 ∨ j = 1 := by omega
                  rcases h with rfl | rfl <;> simp) (by omega) (by omega) meanL meanH s11 s373 meanT.1 meanT.2.1 meanT.2.2
theorem ap2 {W : World} {p c : Nat} (hp : W.heap.size = p) : Calls Tryz.prog 6 #[.int .i64 7, .slice (some ⟨p, 0, none⟩) 3 c] (W.alloc (.cells #[.int .i64 3, .int .i64 0, .int .i64 1] 3)) fun e w' => ∃ b, e = .returned (.tuple #[.slice (some ⟨b, 0, none⟩) 3 3, .int .i64 0]) ∧ Iv w' (some ⟨b, 0, none⟩) 3 [5, 0, 2] ∧ Below (W.alloc (.cells #[.int .i64 3, .int .i64 0, .int .i64 1] 3)).heap.size (W.alloc (.cells #[.int .i64 3, .int .i64 0, .int .i64 1] 3)) w' :=
 ap1 (iv_cells [3, 0, 1] (by intro z hz; simp at hz; rcases hz with rfl | rfl | rfl <;> exact ⟨by decide, by decide⟩) hp)
theorem sameI1 {W : World} {A : Option Addr} {p c d : Nat} (h : Iv W A 3 [5, 0, 2]) (hp : W.heap.size = p) : Calls Tryz.prog 10 #[.slice A 3 c, .slice (some ⟨p, 0, none⟩) 3 d] (W.alloc (.cells #[.int .i64 5, .int .i64 0, .int .i64 2] 3)) fun e w' => e = .returned (.bool true) ∧ Below (W.alloc (.cells #[.int .i64 5, .int .i64 0, .int .i64 2] 3)).heap.size (W.alloc (.cells #[.int .i64 5, .int .i64 0, .int .i64 2] 3)) w' :=
 sameInts_fact (h.below (below_alloc (Below.refl _ _) _)) (iv_cells [5, 0, 2] (by intro z hz; simp at hz; rcases hz with rfl | rfl | rfl <;> exact ⟨by decide, by decide⟩) hp) (by omega) (by decide)
theorem awake_true (hE : Env w) : Calls Tryz.prog 5 #[] w fun e w' => e = .returned (.bool true) ∧ Below w.heap.size w w' := by
 have HE := Lib.hid hE
 clear hE
 go_enter Tryz.func5, Tryz.ntmps5
 go_upto_region 10 with (first
  | (go_at_call 19; ((with_reducible refine (parse_ex (HE.out.below (by with_reducible repeat first | exact bR | assumption | apply bA | apply bD | apply bN | refine bC ?_ (by go_size) | refine bS ?_ ‹_›))).mono ?_); rintro e1 w1 ⟨rfl, hb1⟩); obtain ⟨hc1, hf1⟩ := bcell hb1; (try simp only [dw] at hc1 hf1))
  | (go_at_call 20; (with_reducible show Calls _ _ #[bs [53, 47, 56], _] _ _); ((with_reducible refine (round1 (HE.out.below (by with_reducible repeat first | exact bR | assumption | apply bA | apply bD | apply bN | refine bC ?_ (by go_size) | refine bS ?_ ‹_›))).mono ?_); rintro e2 w2 ⟨rfl, hb2⟩); obtain ⟨hc2, hf2⟩ := bcell hb2; (try simp only [dw] at hc2 hf2))
  | (go_at_call 20; (with_reducible show Calls _ _ #[bs [45, 53, 47, 56], _] _ _); ((with_reducible refine (round2 (HE.out.below (by with_reducible repeat first | exact bR | assumption | apply bA | apply bD | apply bN | refine bC ?_ (by go_size) | refine bS ?_ ‹_›))).mono ?_); rintro e3 w3 ⟨rfl, hb3⟩); obtain ⟨hc3, hf3⟩ := bcell hb3; (try simp only [dw] at hc3 hf3))
  | (go_at_call 21; ((with_reducible refine (mul1 (HE.out.below (by with_reducible repeat first | exact bR | assumption | apply bA | apply bD | apply bN | refine bC ?_ (by go_size) | refine bS ?_ ‹_›))).mono ?_); rintro e4 w4 ⟨rfl, hb4⟩); obtain ⟨hc4, hf4⟩ := bcell hb4; (try simp only [dw] at hc4 hf4))
  | (go_at_call 14; ((with_reducible refine (clash1 (HE.out.below (by with_reducible repeat first | exact bR | assumption | apply bA | apply bD | apply bN | refine bC ?_ (by go_size) | refine bS ?_ ‹_›)) (by simp)).mono ?_); rintro e5 w5 ⟨rfl, hb5⟩); obtain ⟨hc5, hf5⟩ := bcell hb5; (try simp only [dw] at hc5 hf5))
  | (go_at_call 22; ((with_reducible refine (means1 (HE.out.below (by with_reducible repeat first | exact bR | assumption | apply bA | apply bD | apply bN | refine bC ?_ (by go_size) | refine bS ?_ ‹_›)) (by simp) (by simp)).mono ?_); rintro e6 w6 ⟨rfl, hb6⟩); obtain ⟨hc6, hf6⟩ := bcell hb6; (try simp only [dw] at hc6 hf6))
  | (go_at_call 6; ((with_reducible refine (ap2 (by simp)).mono ?_); rintro e7 w7 ⟨b7, rfl, hv7, hb7⟩); obtain ⟨hc7, hf7⟩ := bcell hb7; (try simp only [dw] at hc7 hf7))
  | (go_at_call 24; ((with_reducible refine one_call.mono ?_); rintro e8 w8 ⟨rfl, hv8, hb8⟩); obtain ⟨hc8, hf8⟩ := bcell hb8; (try simp only [dw] at hc8 hf8))
  | (go_at_call 23; ((with_reducible refine (mix1 (HE.out.below (by with_reducible repeat first | exact bR | assumption | apply bA | apply bD | apply bN | refine bC ?_ (by go_size) | refine bS ?_ ‹_›)) (lv_two (by simp) (hv8.below (by with_reducible repeat first | exact bR | assumption | apply bA | apply bD | apply bN | refine bC ?_ (by go_size) | refine bS ?_ ‹_›)) (pv_cells [([97], [49, 47, 50]), ([98], [49, 47, 50])] (by simp)))).mono ?_); rintro e9 w9 ⟨B9, d9, rfl, hv9, hb9⟩); obtain ⟨hc9, hf9⟩ := bcell hb9; (try simp only [dw] at hc9 hf9))
  | (go_at_call 25; ((with_reducible refine (wet1 (HE.out.below (by with_reducible repeat first | exact bR | assumption | apply bA | apply bD | apply bN | refine bC ?_ (by go_size) | refine bS ?_ ‹_›))).mono ?_); rintro e10 w10 ⟨rfl, hb10⟩); obtain ⟨hc10, hf10⟩ := bcell hb10; (try simp only [dw] at hc10 hf10)))
 have bv9 : Below w9.heap.size w9 w10 := (by with_reducible repeat first | exact bR | assumption | apply bA | apply bD | apply bN | refine bC ?_ (by go_size) | refine bS ?_ ‹_›)
 have b9 : Below (w9.alloc (.cells #[bs [119, 104, 101, 97, 116], .int .i64 1000, .slice B9 2 d9] 55)).heap.size (w9.alloc (.cells #[bs [119, 104, 101, 97, 116], .int .i64 1000, .slice B9 2 d9] 55)) w10 := (by with_reducible repeat first | exact bR | assumption | apply bA | apply bD | apply bN | refine bC ?_ (by go_size) | refine bS ?_ ‹_›)
 have bv7 : Below w7.heap.size w7 w10 := (by with_reducible repeat first | exact bR | assumption | apply bA | apply bD | apply bN | refine bC ?_ (by go_size) | refine bS ?_ ‹_›)
 have b6 : Below (w6.alloc (.cells #[bs [49, 49], bs [51, 55, 47, 51]] 37)).heap.size (w6.alloc (.cells #[bs [49, 49], bs [51, 55, 47, 51]] 37)) w10 := (by with_reducible repeat first | exact bR | assumption | apply bA | apply bD | apply bN | refine bC ?_ (by go_size) | refine bS ?_ ‹_›)
 have b4 : Below (w4.alloc (.cells #[bs [45, 50], bs [54]] 37)).heap.size (w4.alloc (.cells #[bs [45, 50], bs [54]] 37)) w10 := (by with_reducible repeat first | exact bR | assumption | apply bA | apply bD | apply bN | refine bC ?_ (by go_size) | refine bS ?_ ‹_›)
 have bw : Below w.heap.size w w10 := (by with_reducible repeat first | exact bR | assumption | apply bA | apply bD | apply bN | refine bC ?_ (by go_size) | refine bS ?_ ‹_›)
 have k40 : w10.cell? ⟨w4.heap.size, 0, none⟩ = some (bs [45, 50]) := cell_on b4 (by simp)
 have k41 : w10.cell? ⟨w4.heap.size, 1, none⟩ = some (bs [54]) := cell_on b4 (by simp)
 have k60 : w10.cell? ⟨w6.heap.size, 0, none⟩ = some (bs [49, 49]) := cell_on b6 (by simp)
 have k61 : w10.cell? ⟨w6.heap.size, 1, none⟩ = some (bs [51, 55, 47, 51]) := cell_on b6 (by simp)
 have k90 : w10.cell? ⟨w9.heap.size, 0, none⟩ = some (bs [119, 104, 101, 97, 116]) := cell_on b9 (by simp)
 have k91 : w10.cell? ⟨w9.heap.size, 1, none⟩ = some (.int .i64 1000) := cell_on b9 (by simp)
 have k92 : w10.cell? ⟨w9.heap.size, 2, none⟩ = some (.slice B9 2 d9) := cell_on b9 (by simp)
 have HV7 : Hid (Iv w10 (some ⟨b7, 0, none⟩) 3 [5, 0, 2]) := Lib.hid (hv7.below bv7)
 have HV9 : Hid (Pv w10 B9 2 exOut) := Lib.hid (hv9.below bv9)
 clear b4 b6 b9 bv7 bv9 hv7 hv8 hv9 hb1 hb2 hb3 hb4 hb5 hb6 hb7 hb8 hb9 hb10 hc1 hc2 hc3 hc4 hc5 hc6 hc7 hc8 hc9 hc10 hf1 hf2 hf3 hf4 hf5 hf6 hf7 hf8 hf9 hf10
 go_upto_region 13 with (fail)
 have HV20 : Hid (Pv (w10.alloc (.cells #[bs [97], bs [52, 47, 53], bs [98], bs [49, 47, 53]] 60)) (some ⟨w10.heap.size, 0, none⟩) 2 exOut) := Lib.hid (pv_cells exOut rfl)
 go_wp2_with (first
  | ((go_at_call 10; ((with_reducible refine (sameI1 (HV7.out.below (by with_reducible repeat first | exact bR | assumption | apply bA | apply bD | apply bN | refine bC ?_ (by go_size) | refine bS ?_ ‹_›)) (by simp)).mono ?_); rintro e11 w11 ⟨rfl, hb11⟩); obtain ⟨hc11, hf11⟩ := bcell hb11; (try simp only [dw] at hc11 hf11)); (have b11 : Below ((w10.alloc (.cells #[bs [97], bs [52, 47, 53], bs [98], bs [49, 47, 53]] 60)).alloc (.cells #[bs [119, 104, 101, 97, 116], .int .i64 1000, .slice (some ⟨w10.heap.size, 0, none⟩) 2 2] 55)).heap.size ((w10.alloc (.cells #[bs [97], bs [52, 47, 53], bs [98], bs [49, 47, 53]] 60)).alloc (.cells #[bs [119, 104, 101, 97, 116], .int .i64 1000, .slice (some ⟨w10.heap.size, 0, none⟩) 2 2] 55)) w11 := (by with_reducible repeat first | exact bR | assumption | apply bA | apply bD | apply bN | refine bC ?_ (by go_size) | refine bS ?_ ‹_›)); have HX20 := Lib.hid (HV20.out.below (show Below _ _ w11 from (by with_reducible repeat first | exact bR | assumption | apply bA | apply bD | apply bN | refine bC ?_ (by go_size) | refine bS ?_ ‹_›))); have m0 : w11.cell? ⟨w10.heap.size + 1, 0, none⟩ = some (bs [119, 104, 101, 97, 116]) := cell_on b11 (by simp); have m1 : w11.cell? ⟨w10.heap.size + 1, 1, none⟩ = some (.int .i64 1000) := cell_on b11 (by simp); have m2 : w11.cell? ⟨w10.heap.size + 1, 2, none⟩ = some (.slice (some ⟨w10.heap.size, 0, none⟩) 2 2) := cell_on b11 (by simp); (have b10 : Below w10.heap.size w10 w11 := (by with_reducible repeat first | exact bR | assumption | apply bA | apply bD | apply bN | refine bC ?_ (by go_size) | refine bS ?_ ‹_›)); have n0 := cell_on b10 k90; have n1 := cell_on b10 k91; have n2 := cell_on b10 k92; have HX9 := Lib.hid (HV9.out.below b10))
  | (go_at_call 26; ((with_reducible refine (sameLayer_same (r := true) (HX9.out.below (by with_reducible repeat first | exact bR | assumption | apply bA | apply bD | apply bN | refine bC ?_ (by go_size) | refine bS ?_ ‹_›)) (HX20.out.below (by with_reducible repeat first | exact bR | assumption | apply bA | apply bD | apply bN | refine bC ?_ (by go_size) | refine bS ?_ ‹_›)) (by omega) (by decide)).mono ?_); rintro e12 w12 ⟨rfl, hb12⟩); obtain ⟨hc12, hf12⟩ := bcell hb12; (try simp only [dw] at hc12 hf12))
  | (go_at_call 27; ((with_reducible refine (isn1).mono ?_); rintro e13 w13 ⟨rfl, hb13⟩); obtain ⟨hc13, hf13⟩ := bcell hb13; (try simp only [dw] at hc13 hf13))
  | (go_at_call 27; ((with_reducible refine (isn2).mono ?_); rintro e14 w14 ⟨rfl, hb14⟩); obtain ⟨hc14, hf14⟩ := bcell hb14; (try simp only [dw] at hc14 hf14)))
 go_ret
 exact ⟨rfl, (by with_reducible repeat first | exact bR | assumption | apply bA | apply bD | apply bN | refine bC ?_ (by go_size) | refine bS ?_ ‹_›)⟩
end
end Go.Proofs.YtoccfcpggomlaaaGreatDoor
