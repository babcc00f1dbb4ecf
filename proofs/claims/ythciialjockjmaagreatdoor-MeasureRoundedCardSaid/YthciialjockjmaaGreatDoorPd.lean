/- Parts. -/
import Derived.Test.YthciialjockjmaaGreatDoorPbG
set_option linter.all false
set_option maxRecDepth 100000
set_option maxHeartbeats 8000000
namespace Go.Proofs.YthciialjockjmaaGreatDoor
open Go Go.RowKit

section
variable {w:World}
theorem jr7 {w:World}:Calls Tryz.prog 25 #[bs [108,111,116,45,55]] w fun e w'=>e= .returned (.bool true)∧Below w.heap.size w w':=jaG (by decide+kernel)
theorem jr6 {w:World}:Calls Tryz.prog 25 #[bs [97,32,98]] w fun e w'=>e= .returned (.bool false)∧Below w.heap.size w w':=jaG (by decide+kernel)
theorem jq1 {W:World} {p c:Nat} (hE:Env W) (hp:W.heap.size=p):Calls Tryz.prog 17 #[.slice (some ⟨p,0,none⟩) 3 c] (W.alloc (.cells #[bs [48],bs [50],bs [49],bs [52],bs [51],bs [53]] 39)) fun e w'=>e= .returned (.tuple #[.int .i64 0, .int .i64 2, .int .i64 0])∧Below (W.alloc (.cells #[bs [48],bs [50],bs [49],bs [52],bs [51],bs [53]] 39)).heap.size (W.alloc (.cells #[bs [48],bs [50],bs [49],bs [52],bs [51],bs [53]] 39)) w':=
 jne (hE.below (ja7 (Below.refl _ _) _)) (jmF hp) jpt
theorem jpx {W:World} {p q c d:Nat} (hE:Env W) (hp:W.heap.size=p) (hq:W.heap.size+1=q):Calls Tryz.prog 18 #[.slice (some ⟨p,0,none⟩) 2 c, .slice (some ⟨q,0,none⟩) 2 d] ((W.alloc (.cells #[bs [49,48],bs [49,49],bs [49,51],bs [49,53]] 39)).alloc (.cells #[.int .i64 2, .int .i64 1] 3)) fun e w'=>e= .returned (.tuple #[.agg #[bs [49,49],bs [51,55,47,51]], .int .i64 0])∧Below ((W.alloc (.cells #[bs [49,48],bs [49,49],bs [49,51],bs [49,53]] 39)).alloc (.cells #[.int .i64 2, .int .i64 1] 3)).heap.size ((W.alloc (.cells #[bs [49,48],bs [49,49],bs [49,51],bs [49,53]] 39)).alloc (.cells #[.int .i64 2, .int .i64 1] 3)) w':=
 jm6 (ws:=[2,1]) (s:=3) (hE.below (ja7 (ja7 (Below.refl _ _) _) _)) ((joA hp).below (ja7 (Below.refl _ _) _)) (jfC [2,1] (by intro z hz;simp at hz;rcases hz with rfl|rfl <;> exact ⟨by decide,by decide⟩) (by rw [World.size_alloc];exact hq)) (by decide+kernel)
  (fun j hj => by have h:j=0∨j=1:=by omega
                  rcases h with rfl|rfl <;> simp) (by omega) (by omega) jqr jqD s11 jr5 joz.1 joz.2.1 joz.2.2
theorem ap2 {W:World} {p c:Nat} (hp:W.heap.size=p):Calls Tryz.prog 19 #[.int .i64 7, .slice (some ⟨p,0,none⟩) 3 c] (W.alloc (.cells #[.int .i64 3, .int .i64 0, .int .i64 1] 3)) fun e w'=>∃b,e= .returned (.tuple #[.slice (some ⟨b,0,none⟩) 3 3, .int .i64 0])∧Iv w' (some ⟨b,0,none⟩) 3 [5,0,2]∧Below (W.alloc (.cells #[.int .i64 3, .int .i64 0, .int .i64 1] 3)).heap.size (W.alloc (.cells #[.int .i64 3, .int .i64 0, .int .i64 1] 3)) w':=
 ap1 (jfC [3,0,1] (by intro z hz;simp at hz;rcases hz with rfl|rfl|rfl <;> exact ⟨by decide,by decide⟩) hp)
theorem jq3 {W:World} {A:Option Addr} {p c d:Nat} (h:Iv W A 3 [5,0,2]) (hp:W.heap.size=p):Calls Tryz.prog 23 #[.slice A 3 c, .slice (some ⟨p,0,none⟩) 3 d] (W.alloc (.cells #[.int .i64 5, .int .i64 0, .int .i64 2] 3)) fun e w'=>e= .returned (.bool true)∧Below (W.alloc (.cells #[.int .i64 5, .int .i64 0, .int .i64 2] 3)).heap.size (W.alloc (.cells #[.int .i64 5, .int .i64 0, .int .i64 2] 3)) w':=
 jg2 (h.below (ja7 (Below.refl _ _) _)) (jfC [5,0,2] (by intro z hz;simp at hz;rcases hz with rfl|rfl|rfl <;> exact ⟨by decide,by decide⟩) hp) (by omega) (by decide)
theorem jf0 (hE:Env w):Calls Tryz.prog 4 #[] w fun e w'=>e= .returned (.bool true)∧Below w.heap.size w w':=by
 have HE:=Lib.hid hE
 clear hE
 go_enter Tryz.func4,Tryz.ntmps4
 go_upto_region 10 with (first
  | (go_at_call 15;((with_reducible refine (jn5 (HE.out.below (by with_reducible repeat first|exact bR|assumption|apply bA|apply bD|apply bN|refine bC ?_ (by go_size)|refine bS ?_ ‹_›))).mono ?_);rintro e1 w1 ⟨rfl,hb1⟩);obtain ⟨hc1,hf1⟩:=ja0 hb1;(try simp only [dw] at hc1 hf1))
  | (go_at_call 7;(with_reducible show Calls _ _ #[bs [53,47,56],_] _ _);((with_reducible refine (jpH (HE.out.below (by with_reducible repeat first|exact bR|assumption|apply bA|apply bD|apply bN|refine bC ?_ (by go_size)|refine bS ?_ ‹_›))).mono ?_);rintro e2 w2 ⟨rfl,hb2⟩);obtain ⟨hc2,hf2⟩:=ja0 hb2;(try simp only [dw] at hc2 hf2))
  | (go_at_call 7;(with_reducible show Calls _ _ #[bs [45,53,47,56],_] _ _);((with_reducible refine (jpq (HE.out.below (by with_reducible repeat first|exact bR|assumption|apply bA|apply bD|apply bN|refine bC ?_ (by go_size)|refine bS ?_ ‹_›))).mono ?_);rintro e3 w3 ⟨rfl,hb3⟩);obtain ⟨hc3,hf3⟩:=ja0 hb3;(try simp only [dw] at hc3 hf3))
  | (go_at_call 16;((with_reducible refine (jre (HE.out.below (by with_reducible repeat first|exact bR|assumption|apply bA|apply bD|apply bN|refine bC ?_ (by go_size)|refine bS ?_ ‹_›))).mono ?_);rintro e4 w4 ⟨rfl,hb4⟩);obtain ⟨hc4,hf4⟩:=ja0 hb4;(try simp only [dw] at hc4 hf4))
  | (go_at_call 17;((with_reducible refine (jq1 (HE.out.below (by with_reducible repeat first|exact bR|assumption|apply bA|apply bD|apply bN|refine bC ?_ (by go_size)|refine bS ?_ ‹_›)) (by simp)).mono ?_);rintro e5 w5 ⟨rfl,hb5⟩);obtain ⟨hc5,hf5⟩:=ja0 hb5;(try simp only [dw] at hc5 hf5))
  | (go_at_call 18;((with_reducible refine (jpx (HE.out.below (by with_reducible repeat first|exact bR|assumption|apply bA|apply bD|apply bN|refine bC ?_ (by go_size)|refine bS ?_ ‹_›)) (by simp) (by simp)).mono ?_);rintro e6 w6 ⟨rfl,hb6⟩);obtain ⟨hc6,hf6⟩:=ja0 hb6;(try simp only [dw] at hc6 hf6))
  | (go_at_call 19;((with_reducible refine (ap2 (by simp)).mono ?_);rintro e7 w7 ⟨b7,rfl,hv7,hb7⟩);obtain ⟨hc7,hf7⟩:=ja0 hb7;(try simp only [dw] at hc7 hf7))
  | (go_at_call 21;((with_reducible refine jmX.mono ?_);rintro e8 w8 ⟨rfl,hv8,hb8⟩);obtain ⟨hc8,hf8⟩:=ja0 hb8;(try simp only [dw] at hc8 hf8))
  | (go_at_call 20;((with_reducible refine (jr8 (HE.out.below (by with_reducible repeat first|exact bR|assumption|apply bA|apply bD|apply bN|refine bC ?_ (by go_size)|refine bS ?_ ‹_›)) (jpV (by simp) (hv8.below (by with_reducible repeat first|exact bR|assumption|apply bA|apply bD|apply bN|refine bC ?_ (by go_size)|refine bS ?_ ‹_›)) (jdQ [([97],[49,47,50]),([98],[49,47,50])] (by simp)))).mono ?_);rintro e9 w9 ⟨B9,d9,rfl,hv9,hb9⟩);obtain ⟨hc9,hf9⟩:=ja0 hb9;(try simp only [dw] at hc9 hf9))
  | (go_at_call 22;((with_reducible refine (jra (HE.out.below (by with_reducible repeat first|exact bR|assumption|apply bA|apply bD|apply bN|refine bC ?_ (by go_size)|refine bS ?_ ‹_›))).mono ?_);rintro e10 w10 ⟨rfl,hb10⟩);obtain ⟨hc10,hf10⟩:=ja0 hb10;(try simp only [dw] at hc10 hf10)))
 have bv9:Below w9.heap.size w9 w10:=(by with_reducible repeat first|exact bR|assumption|apply bA|apply bD|apply bN|refine bC ?_ (by go_size)|refine bS ?_ ‹_›)
 have b9:Below (w9.alloc (.cells #[bs [119,104,101,97,116], .int .i64 1000, .slice B9 2 d9] 51)).heap.size (w9.alloc (.cells #[bs [119,104,101,97,116], .int .i64 1000, .slice B9 2 d9] 51)) w10:=(by with_reducible repeat first|exact bR|assumption|apply bA|apply bD|apply bN|refine bC ?_ (by go_size)|refine bS ?_ ‹_›)
 have bv7:Below w7.heap.size w7 w10:=(by with_reducible repeat first|exact bR|assumption|apply bA|apply bD|apply bN|refine bC ?_ (by go_size)|refine bS ?_ ‹_›)
 have b6:Below (w6.alloc (.cells #[bs [49,49],bs [51,55,47,51]] 39)).heap.size (w6.alloc (.cells #[bs [49,49],bs [51,55,47,51]] 39)) w10:=(by with_reducible repeat first|exact bR|assumption|apply bA|apply bD|apply bN|refine bC ?_ (by go_size)|refine bS ?_ ‹_›)
 have b4:Below (w4.alloc (.cells #[bs [45,50],bs [54]] 39)).heap.size (w4.alloc (.cells #[bs [45,50],bs [54]] 39)) w10:=(by with_reducible repeat first|exact bR|assumption|apply bA|apply bD|apply bN|refine bC ?_ (by go_size)|refine bS ?_ ‹_›)
 have bw:Below w.heap.size w w10:=(by with_reducible repeat first|exact bR|assumption|apply bA|apply bD|apply bN|refine bC ?_ (by go_size)|refine bS ?_ ‹_›)
 have k40:w10.cell? ⟨w4.heap.size,0,none⟩=some (bs [45,50]):=ja6 b4 (by simp)
 have k41:w10.cell? ⟨w4.heap.size,1,none⟩=some (bs [54]):=ja6 b4 (by simp)
 have k60:w10.cell? ⟨w6.heap.size,0,none⟩=some (bs [49,49]):=ja6 b6 (by simp)
 have k61:w10.cell? ⟨w6.heap.size,1,none⟩=some (bs [51,55,47,51]):=ja6 b6 (by simp)
 have k90:w10.cell? ⟨w9.heap.size,0,none⟩=some (bs [119,104,101,97,116]):=ja6 b9 (by simp)
 have k91:w10.cell? ⟨w9.heap.size,1,none⟩=some (.int .i64 1000):=ja6 b9 (by simp)
 have k92:w10.cell? ⟨w9.heap.size,2,none⟩=some (.slice B9 2 d9):=ja6 b9 (by simp)
 have HV7:Hid (Iv w10 (some ⟨b7,0,none⟩) 3 [5,0,2]):=Lib.hid (hv7.below bv7)
 have HV9:Hid (Pv w10 B9 2 jj4):=Lib.hid (hv9.below bv9)
 clear b4 b6 b9 bv7 bv9 hv7 hv8 hv9 hb1 hb2 hb3 hb4 hb5 hb6 hb7 hb8 hb9 hb10 hc1 hc2 hc3 hc4 hc5 hc6 hc7 hc8 hc9 hc10 hf1 hf2 hf3 hf4 hf5 hf6 hf7 hf8 hf9 hf10
 go_upto_region 13 with (fail)
 have HV20:Hid (Pv (w10.alloc (.cells #[bs [97],bs [52,47,53],bs [98],bs [49,47,53]] 56)) (some ⟨w10.heap.size,0,none⟩) 2 jj4):=Lib.hid (jdQ jj4 rfl)
 go_wp2_with (first
  | ((go_at_call 23;((with_reducible refine (jq3 (HV7.out.below (by with_reducible repeat first|exact bR|assumption|apply bA|apply bD|apply bN|refine bC ?_ (by go_size)|refine bS ?_ ‹_›)) (by simp)).mono ?_);rintro e11 w11 ⟨rfl,hb11⟩);obtain ⟨hc11,hf11⟩:=ja0 hb11;(try simp only [dw] at hc11 hf11));(have b11:Below ((w10.alloc (.cells #[bs [97],bs [52,47,53],bs [98],bs [49,47,53]] 56)).alloc (.cells #[bs [119,104,101,97,116], .int .i64 1000, .slice (some ⟨w10.heap.size,0,none⟩) 2 2] 51)).heap.size ((w10.alloc (.cells #[bs [97],bs [52,47,53],bs [98],bs [49,47,53]] 56)).alloc (.cells #[bs [119,104,101,97,116], .int .i64 1000, .slice (some ⟨w10.heap.size,0,none⟩) 2 2] 51)) w11:=(by with_reducible repeat first|exact bR|assumption|apply bA|apply bD|apply bN|refine bC ?_ (by go_size)|refine bS ?_ ‹_›));have HX20:=Lib.hid (HV20.out.below (show Below _ _ w11 from (by with_reducible repeat first|exact bR|assumption|apply bA|apply bD|apply bN|refine bC ?_ (by go_size)|refine bS ?_ ‹_›)));have m0:w11.cell? ⟨w10.heap.size+1,0,none⟩=some (bs [119,104,101,97,116]):=ja6 b11 (by simp);have m1:w11.cell? ⟨w10.heap.size+1,1,none⟩=some (.int .i64 1000):=ja6 b11 (by simp);have m2:w11.cell? ⟨w10.heap.size+1,2,none⟩=some (.slice (some ⟨w10.heap.size,0,none⟩) 2 2):=ja6 b11 (by simp);(have b10:Below w10.heap.size w10 w11:=(by with_reducible repeat first|exact bR|assumption|apply bA|apply bD|apply bN|refine bC ?_ (by go_size)|refine bS ?_ ‹_›));have n0:=ja6 b10 k90;have n1:=ja6 b10 k91;have n2:=ja6 b10 k92;have HX9:=Lib.hid (HV9.out.below b10))
  | (go_at_call 24;((with_reducible refine (jeM (r:=true) (HX9.out.below (by with_reducible repeat first|exact bR|assumption|apply bA|apply bD|apply bN|refine bC ?_ (by go_size)|refine bS ?_ ‹_›)) (HX20.out.below (by with_reducible repeat first|exact bR|assumption|apply bA|apply bD|apply bN|refine bC ?_ (by go_size)|refine bS ?_ ‹_›)) (by omega) (by decide)).mono ?_);rintro e12 w12 ⟨rfl,hb12⟩);obtain ⟨hc12,hf12⟩:=ja0 hb12;(try simp only [dw] at hc12 hf12))
  | (go_at_call 25;((with_reducible refine (jr7).mono ?_);rintro e13 w13 ⟨rfl,hb13⟩);obtain ⟨hc13,hf13⟩:=ja0 hb13;(try simp only [dw] at hc13 hf13))
  | (go_at_call 25;((with_reducible refine (jr6).mono ?_);rintro e14 w14 ⟨rfl,hb14⟩);obtain ⟨hc14,hf14⟩:=ja0 hb14;(try simp only [dw] at hc14 hf14)))
 go_ret
 exact ⟨rfl,(by with_reducible repeat first|exact bR|assumption|apply bA|apply bD|apply bN|refine bC ?_ (by go_size)|refine bS ?_ ‹_›)⟩
end
end Go.Proofs.YthciialjockjmaaGreatDoor
