/- Parts. -/
import Derived.Test.YthciialjockjmaaGreatDoorMk
set_option linter.all false
set_option maxRecDepth 100000
set_option maxHeartbeats 8000000
namespace Go.Proofs.YthciialjockjmaaGreatDoor
open Go Go.RowKit

theorem jkm {w:World} {kind step:List UInt8} {k:Int} (hk:jba kind step=k) (hE:Env w) (hl:step.length < 4294967281):Calls Tryz.prog 29 #[rv kind step] w fun e w'=>e= .returned (.int .i64 k)∧Below w.heap.size w w':=hk ▸ jmC hE hl
theorem jgG {kind step:List UInt8} {s:Rat} (hk:(jaw kind).isSome=true) (hs:IsNum step s) (h0:0 < s):jba kind step=0:=by
 have h1:chk step=0:=jau.2 ⟨s,hs⟩
 unfold jba
 rw [if_neg (by rw [hk];decide),if_neg (by simpa using h1),hs.numQ,if_neg (Rat.not_le.2 h0)]
section
variable {w:World} {x s:Rat} {kind step a:List UInt8}
theorem jda {z:Rat} {tz:List UInt8} {ez:Int} (hE:Env w) (hl:a.length < 4294967281) (hl2:step.length < 4294967281) (ha:IsNum a x) (hk:(jaw kind).isSome=true) (hs:IsNum step s) (hs0:0 < s)
  (hz:rnd kind x s=z) (hS:StrQ z) (ht:jbB z=tz) (he:jbI z=ez):
  Calls Tryz.prog 7 #[bs a,rv kind step] w fun e w'=>e= .returned (.tuple #[bs tz, .int .i64 ez])∧Below w.heap.size w w':=by
 have HE:=qh hE
 have HL:=qh hl
 have HL2:=qh hl2
 have HA:=qh (jau.2 ⟨x,ha⟩)
 have HX:=qh ha
 have HSX:=qh ha.sz
 have HST:=qh hs
 have HS0:Hid (s≠0):=qh (fun h=>by rw [h] at hs0;exact Rat.lt_irrefl hs0)
 have HKR:=qh (jgG hk hs hs0)
 have HK:=qh hk
 have HZ:=qh hz
 have HS:=qh hS
 have HT:=qh (And.intro ht he)
 clear hE hl hl2 ha hk hs hs0 hz hS ht he
 go_enter Tryz.func7,Tryz.ntmps7
 go_upto_region 7 with (first
  | (go_at_call 28;(with_reducible refine (jaN HA.out (HE.out.below (bq (by with_reducible repeat' first|assumption|constructor|go_size))) HL.out).mono ?_);rintro e1 w1 ⟨rfl,hb1⟩;obtain ⟨hc1,hf1,z1_0⟩:=bc1 w hb1 (by go_size);(try simp only [dw] at hc1 hf1))
  | (go_at_call 29;(with_reducible refine (jkm HKR.out (HE.out.below (bq (by with_reducible repeat' first|assumption|constructor|go_size))) HL2.out).mono ?_);rintro e2 w2 ⟨rfl,hb2⟩;obtain ⟨hc2,hf2,z2_0⟩:=bc1 w hb2 (by go_size);(try simp only [dw] at hc2 hf2)))
 refine ja4 (fun w'=>Below w2.heap.size w2 w') [] (by kernel_rfl) ?_
 refine tb 0 (bs a) [1] rfl (by kernel_rfl) (fun _ _ _ h=>h) (by rfl) (by intros;go_simp) bq0 ?_
 simp only [ppq]
 refine tb 2 (rv kind step) [3] rfl (by kernel_rfl) (fun _ _ _ h=>h) (by rfl) (by intros;go_simp) bq0 ?_
 simp only [ppq]
 refine rd1 1 (by kernel_rfl) rfl (fun K hK=> ?_)
 go_simp
 go_wp2_with (go_at_call 32;(with_reducible refine (jav HX.out (HE.out.below (bq (by with_reducible repeat' first|assumption|constructor|go_size)))).mono ?_);rintro e3 w3 ⟨s3,A3,n3,c3,t3,B3,m3,d3,rfl,⟨hr3,hq3⟩,hb3⟩;obtain ⟨hc3,hf3⟩:=ja0 hb3;(try simp only [dw] at hc3 hf3))
 have sS3:=qh (bst bq0 hb3)
 refine hK.out _ _ (fun _=>sS3.out) ?_
 clear hK K
 refine rd1 3 (by kernel_rfl) rfl (fun K hK=> ?_)
 go_simp
 go_wp2_with (go_at_call 31;(with_reducible refine (jk7 (HE.out.below (bq (by with_reducible repeat' first|assumption|constructor|go_size))) ⟨hr3,hq3⟩ HSX.out (by omega) HST.out HS0.out HL2.out HK.out HZ.out).mono ?_);rintro e4 w4 ⟨s4,A4,n4,c4,t4,B4,m4,d4,rfl,⟨hr4,hq4⟩,hb4⟩;obtain ⟨hc4,hf4⟩:=ja0 hb4;(try simp only [dw] at hc4 hf4))
 have sS4:=qh (bst sS3.out hb4)
 refine hK.out _ _ (fun _=>sS4.out) ?_
 clear hK K
 refine rd1 4 (by kernel_rfl) rfl (fun K hK=> ?_)
 go_simp
 go_wp2_with (go_at_call 30;(with_reducible refine (jdj HT.out.1 HT.out.2 ⟨hr4,hq4⟩ (HE.out.below (bq (by with_reducible repeat' first|assumption|constructor|go_size))) HS.out).mono ?_);rintro e5 w5 ⟨rfl,hb5⟩;obtain ⟨hc5,hf5⟩:=ja0 hb5;(try simp only [dw] at hc5 hf5))
 have sS5:=qh (bst sS4.out hb5)
 refine hK.out _ _ (fun _=>sS5.out) ?_
 clear hK K
 refine tb 5 (bs tz) [7] rfl (by kernel_rfl) (fun _ _ _ h=>h) (by rfl) (by intros;go_simp) sS5.out ?_
 simp only [ppq]
 refine tb 6 (.int .i64 ez) [8] rfl (by kernel_rfl) (fun _ _ _ h=>h) (by rfl) (by intros;go_simp) sS5.out ?_
 simp only [ppq]
 refine rd1 7 (by kernel_rfl) rfl (fun K hK=> ?_)
 go_simp
 refine hK.out _ _ (fun _=>(bq (by with_reducible repeat' first|assumption|constructor|go_size))) ?_
 clear hK K
 refine rd1 8 (by kernel_rfl) rfl (fun K hK=> ?_)
 go_simp
 refine hK.out _ _ (fun _=>(bq (by with_reducible repeat' first|assumption|constructor|go_size))) ?_
 clear hK K
 refine ja2 (by kernel_rfl) ?_ _
 go_wp2
 go_ret2
 exact ⟨rfl,(bq (by with_reducible repeat' first|assumption|constructor|go_size))⟩
end
end Go.Proofs.YthciialjockjmaaGreatDoor
