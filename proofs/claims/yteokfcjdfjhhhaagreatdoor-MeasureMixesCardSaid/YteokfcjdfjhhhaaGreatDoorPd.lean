/- Parts. -/
import Derived.Test.YteokfcjdfjhhhaaGreatDoorPbG
set_option linter.all false
set_option maxRecDepth 100000
set_option maxHeartbeats 8000000
namespace Go.Proofs.YteokfcjdfjhhhaaGreatDoor
open Go Go.RowKit

section
variable {w:World}
theorem jsL {w:World}:Calls Tryz.prog 27 #[bs [108,111,116,45,55]] w fun e w'=>e= .returned (.bool true)∧Below w.heap.size w w':=jaK (by decide+kernel)
theorem jsX {w:World}:Calls Tryz.prog 27 #[bs [97,32,98]] w fun e w'=>e= .returned (.bool false)∧Below w.heap.size w w':=jaK (by decide+kernel)
theorem jrM {W:World} {p c:Nat} (hE:Env W) (hp:W.heap.size=p):Calls Tryz.prog 21 #[.slice (some ⟨p,0,none⟩) 3 c] (W.alloc (.cells #[bs [48],bs [50],bs [49],bs [52],bs [51],bs [53]] 52)) fun e w'=>e= .returned (.tuple #[.int .i64 0, .int .i64 2, .int .i64 0])∧Below (W.alloc (.cells #[bs [48],bs [50],bs [49],bs [52],bs [51],bs [53]] 52)).heap.size (W.alloc (.cells #[bs [48],bs [50],bs [49],bs [52],bs [51],bs [53]] 52)) w':=
 joB (hE.below (ja4 (Below.refl _ _) _)) (joF hp) jri
theorem jre {W:World} {p q c d:Nat} (hE:Env W) (hp:W.heap.size=p) (hq:W.heap.size+1=q):Calls Tryz.prog 22 #[.slice (some ⟨p,0,none⟩) 2 c, .slice (some ⟨q,0,none⟩) 2 d] ((W.alloc (.cells #[bs [49,48],bs [49,49],bs [49,51],bs [49,53]] 52)).alloc (.cells #[.int .i64 2, .int .i64 1] 3)) fun e w'=>e= .returned (.tuple #[.agg #[bs [49,49],bs [51,55,47,51]], .int .i64 0])∧Below ((W.alloc (.cells #[bs [49,48],bs [49,49],bs [49,51],bs [49,53]] 52)).alloc (.cells #[.int .i64 2, .int .i64 1] 3)).heap.size ((W.alloc (.cells #[bs [49,48],bs [49,49],bs [49,51],bs [49,53]] 52)).alloc (.cells #[.int .i64 2, .int .i64 1] 3)) w':=
 jnt (ws:=[2,1]) (s:=3) (hE.below (ja4 (ja4 (Below.refl _ _) _) _)) ((jqH hp).below (ja4 (Below.refl _ _) _)) (jg8 [2,1] (by intro z hz;simp at hz;rcases hz with rfl|rfl <;> exact ⟨by decide,by decide⟩) (by rw [World.size_alloc];exact hq)) (by decide+kernel)
  (fun j hj => by have h:j=0∨j=1:=by omega
                  rcases h with rfl|rfl <;> simp) (by omega) (by omega) js1 js6 s11 jsF jq5.1 jq5.2.1 jq5.2.2
theorem ap2 {W:World} {p c:Nat} (hp:W.heap.size=p):Calls Tryz.prog 23 #[.int .i64 7, .slice (some ⟨p,0,none⟩) 3 c] (W.alloc (.cells #[.int .i64 3, .int .i64 0, .int .i64 1] 3)) fun e w'=>∃b,e= .returned (.tuple #[.slice (some ⟨b,0,none⟩) 3 3, .int .i64 0])∧Iv w' (some ⟨b,0,none⟩) 3 [5,0,2]∧Below (W.alloc (.cells #[.int .i64 3, .int .i64 0, .int .i64 1] 3)).heap.size (W.alloc (.cells #[.int .i64 3, .int .i64 0, .int .i64 1] 3)) w':=
 ap1 (jg8 [3,0,1] (by intro z hz;simp at hz;rcases hz with rfl|rfl|rfl <;> exact ⟨by decide,by decide⟩) hp)
theorem jr5 {W:World} {A:Option Addr} {p c d:Nat} (h:Iv W A 3 [5,0,2]) (hp:W.heap.size=p):Calls Tryz.prog 26 #[.slice A 3 c, .slice (some ⟨p,0,none⟩) 3 d] (W.alloc (.cells #[.int .i64 5, .int .i64 0, .int .i64 2] 3)) fun e w'=>e= .returned (.bool true)∧Below (W.alloc (.cells #[.int .i64 5, .int .i64 0, .int .i64 2] 3)).heap.size (W.alloc (.cells #[.int .i64 5, .int .i64 0, .int .i64 2] 3)) w':=
 jgj (h.below (ja4 (Below.refl _ _) _)) (jg8 [5,0,2] (by intro z hz;simp at hz;rcases hz with rfl|rfl|rfl <;> exact ⟨by decide,by decide⟩) hp) (by omega) (by decide)
theorem jjY (hE:Env w):Calls Tryz.prog 5 #[] w fun e w'=>e= .returned (.bool true)∧Below w.heap.size w w':=by
 have HE:=qh hE;clear hE;go_enter Tryz.func5,Tryz.ntmps5
 go_upto_region 10 with (first
  | (go_at_call 18;(with_reducible refine mo0 (joh (HE.out.below bi)) fun w1 hb1 hc1 hf1 _=> ?_))
  | (go_at_call 19;(with_reducible show Calls _ _ #[bs [53,47,56],_] _ _);(with_reducible refine mo0 (jr7 (HE.out.below bi)) fun w2 hb2 hc2 hf2 _=> ?_))
  | (go_at_call 19;(with_reducible show Calls _ _ #[bs [45,53,47,56],_] _ _);(with_reducible refine mo0 (jrD (HE.out.below bi)) fun w3 hb3 hc3 hf3 _=> ?_))
  | (go_at_call 20;(with_reducible refine mo0 (jsJ (HE.out.below bi)) fun w4 hb4 hc4 hf4 _=> ?_))
  | (go_at_call 21;(with_reducible refine mo0 (jrM (HE.out.below bi) (by simp)) fun w5 hb5 hc5 hf5 _=> ?_))
  | (go_at_call 22;(with_reducible refine mo0 (jre (HE.out.below bi) (by simp) (by simp)) fun w6 hb6 hc6 hf6 _=> ?_))
  | (go_at_call 23;((with_reducible refine (ap2 (by simp)).mono ?_);rintro e7 w7 ⟨b7,rfl,hv7,hb7⟩;have _:=bm hb7);obtain ⟨hc7,hf7,_⟩:=bc0 hb7)
  | (go_at_call 24;((with_reducible refine jom.mono ?_);rintro e8 w8 ⟨rfl,hv8,hb8⟩;have _:=bm hb8);obtain ⟨hc8,hf8,_⟩:=bc0 hb8)
  | (go_at_call 11;((with_reducible refine (jsG (HE.out.below bi) (jrE (by simp) (hv8.below bi) (jeh [([97],[49,47,50]),([98],[49,47,50])] (by simp)))).mono ?_);rintro e9 w9 ⟨B9,d9,rfl,hv9,hb9⟩;have _:=bm hb9);obtain ⟨hc9,hf9,_⟩:=bc0 hb9)
  | (go_at_call 25;(with_reducible refine mo0 (jsS (HE.out.below bi)) fun w10 hb10 hc10 hf10 _=> ?_)))
 have bv9:Below w9.heap.size w9 w10:=bi;have b9:Below (w9.alloc (.cells #[bs [119,104,101,97,116], .int .i64 1000, .slice B9 2 d9] 29)).heap.size (w9.alloc (.cells #[bs [119,104,101,97,116], .int .i64 1000, .slice B9 2 d9] 29)) w10:=bi;have bv7:Below w7.heap.size w7 w10:=bi;have b6:Below (w6.alloc (.cells #[bs [49,49],bs [51,55,47,51]] 52)).heap.size (w6.alloc (.cells #[bs [49,49],bs [51,55,47,51]] 52)) w10:=bi;have b4:Below (w4.alloc (.cells #[bs [45,50],bs [54]] 52)).heap.size (w4.alloc (.cells #[bs [45,50],bs [54]] 52)) w10:=bi;have bw:Below w.heap.size w w10:=bi;have k40:w10.cell? ⟨w4.heap.size,0,none⟩=some (bs [45,50]):=ja5 b4 (by simp);have k41:w10.cell? ⟨w4.heap.size,1,none⟩=some (bs [54]):=ja5 b4 (by simp);have k60:w10.cell? ⟨w6.heap.size,0,none⟩=some (bs [49,49]):=ja5 b6 (by simp);have k61:w10.cell? ⟨w6.heap.size,1,none⟩=some (bs [51,55,47,51]):=ja5 b6 (by simp);have k90:w10.cell? ⟨w9.heap.size,0,none⟩=some (bs [119,104,101,97,116]):=ja5 b9 (by simp);have k91:w10.cell? ⟨w9.heap.size,1,none⟩=some (.int .i64 1000):=ja5 b9 (by simp);have k92:w10.cell? ⟨w9.heap.size,2,none⟩=some (.slice B9 2 d9):=ja5 b9 (by simp);have HV7:Hid (Iv w10 (some ⟨b7,0,none⟩) 3 [5,0,2]):=qh (hv7.below bv7);have HV9:Hid (Pv w10 B9 2 jkp):=qh (hv9.below bv9);clear b4 b6 b9 bv7 bv9 hv7 hv8 hv9 hb1 hb2 hb3 hb4 hb5 hb6 hb7 hb8 hb9 hb10 hc1 hc2 hc3 hc4 hc5 hc6 hc7 hc8 hc9 hc10 hf1 hf2 hf3 hf4 hf5 hf6 hf7 hf8 hf9 hf10;go_upto_region 13 with (fail)
 have HV20:Hid (Pv (w10.alloc (.cells #[bs [97],bs [52,47,53],bs [98],bs [49,47,53]] 42)) (some ⟨w10.heap.size,0,none⟩) 2 jkp):=qh (jeh jkp rfl)
 go_wp2_with (first
  | ((go_at_call 26;(with_reducible refine mo0 (jr5 (HV7.out.below bi) (by simp)) fun w11 hb11 hc11 hf11 _=> ?_));(have b11:Below ((w10.alloc (.cells #[bs [97],bs [52,47,53],bs [98],bs [49,47,53]] 42)).alloc (.cells #[bs [119,104,101,97,116], .int .i64 1000, .slice (some ⟨w10.heap.size,0,none⟩) 2 2] 29)).heap.size ((w10.alloc (.cells #[bs [97],bs [52,47,53],bs [98],bs [49,47,53]] 42)).alloc (.cells #[bs [119,104,101,97,116], .int .i64 1000, .slice (some ⟨w10.heap.size,0,none⟩) 2 2] 29)) w11:=bi);have HX20:=qh (HV20.out.below (show Below _ _ w11 from bi));have m0:w11.cell? ⟨w10.heap.size+1,0,none⟩=some (bs [119,104,101,97,116]):=ja5 b11 (by simp);have m1:w11.cell? ⟨w10.heap.size+1,1,none⟩=some (.int .i64 1000):=ja5 b11 (by simp);have m2:w11.cell? ⟨w10.heap.size+1,2,none⟩=some (.slice (some ⟨w10.heap.size,0,none⟩) 2 2):=ja5 b11 (by simp);(have b10:Below w10.heap.size w10 w11:=bi);have n0:=ja5 b10 k90;have n1:=ja5 b10 k91;have n2:=ja5 b10 k92;have HX9:=qh (HV9.out.below b10))
  | (go_at_call 14;(with_reducible refine mo0 (jfk (r:=true) (HX9.out.below bi) (HX20.out.below bi) (by omega) (by decide)) fun w12 hb12 hc12 hf12 _=> ?_))
  | (go_at_call 27;(with_reducible refine mo0 (jsL) fun w13 hb13 hc13 hf13 _=> ?_))
  | (go_at_call 27;(with_reducible refine mo0 (jsX) fun w14 hb14 hc14 hf14 _=> ?_)))
 go_ret;exact ⟨rfl,bi⟩
end
end Go.Proofs.YteokfcjdfjhhhaaGreatDoor
