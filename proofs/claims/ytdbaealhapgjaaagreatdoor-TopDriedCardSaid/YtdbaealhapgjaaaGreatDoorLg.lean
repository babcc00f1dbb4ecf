/- Parts. -/
import Derived.Test.YtdbaealhapgjaaaGreatDoorMbG
set_option linter.all false
set_option maxRecDepth 100000
set_option maxHeartbeats 8000000
namespace Go.Proofs.YtdbaealhapgjaaaGreatDoor
open Go Go.RowKit Go.Proofs.Tryz

section
variable {w:World} {a:List UInt8} {x:Rat}
theorem jz7 {mass:Int} {z:Rat} {tz:List UInt8} {ez:Int} (hE:Env w) (hx:IsMoist a x) (h0:0≤mass) (h1:mass≤999999999) (hz:(mass:Rat)*(100 - x) / 100=z) (hS:StrQ z) (ht:jcF z=tz) (he:jbq z=ez) (hla:a.length < 4294967281):
  Calls prog 13 #[.int .i64 mass,bs a] w fun e w'=>e= .returned (.tuple #[bs tz, .int .i64 ez])∧Below w.heap.size w w':=by
 have HE:=qh hE;have HX:=qh hx;have HRM:=qh (show R64 mass from ⟨by omega,by omega⟩);have HR2:=qh (show R64 100 by constructor <;> decide);have e100:(100:Rat)=((100:Int):Rat):=by decide+kernel
 have HZ:=qh (show (mass:Rat)*(100 - x) / ((100:Int):Rat)=z by rw [←e100];exact hz);have HS:=qh hS;have HT:=qh (ai ht he);have q1:decide (mass < 0)=false:=by simp;omega
 have q2:decide (999999999 < mass)=false:=by simp;omega
 have H1:=qh (jej HRM.o);have H100:Sz 1 (100:Rat):=jej (a:=100) (by constructor <;> decide);have H2:=qh (H100.sub hx.num.sz);have H3:=qh (jej HR2.o);have H4:=qh (H1.o.mul H2.o);have HNE:=qh (show ((100:Int):Rat)≠0 by decide+kernel)
 have HCA:=qh (fun W (hb:Below w.heap.size w W)=>(show Calls prog 49 #[bs a] W fun e w'=>e= .returned (.int .i64 0)∧Below W.heap.size W w' from by
  have h:=jAX (hE.below hb) hla
  rwa [hx.mst] at h))
 clear hE hx h0 h1 hz hS ht he hla H100 e100;go_enter func13,ntmps13
 go_wp2_with (first
  | (go_at_call 49;(with_reducible refine mo0 (HCA.o _ bi) fun w1 hb1 hc1 hf1 _=> ?_))
  | (go_at_call 40;(with_reducible show Calls _ _ #[.int .i64 mass] _ _);(with_reducible refine mf0 (jes rfl HRM.o) fun w2 s2 A2 n2 c2 t2 B2 m2 d2 hr2 hq2 hb2 hc2 hf2 _=> ?_))
  | (go_at_call 51;(with_reducible refine mf0 (jBP (HE.o.below bi) HX.o.num rfl) fun w3 s3 A3 n3 c3 t3 B3 m3 d3 hr3 hq3 hb3 hc3 hf3 _=> ?_))
  | (go_at_call 41;(with_reducible refine mf0 (jbO 1 602 rfl (by constructor <;> (with_reducible repeat first|assumption|apply rZ|refine rP ?_ rfl (by simp [go_sem,hc3]))) ⟨hr3,hq3⟩ H1.o H2.o (by omega)) fun w4 s4 A4 n4 c4 t4 B4 m4 d4 hr4 hq4 hb4 hc4 hf4 _=> ?_))
  | (go_at_call 40;(with_reducible refine mf0 (jes rfl HR2.o) fun w5 s5 A5 n5 c5 t5 B5 m5 d5 hr5 hq5 hb5 hc5 hf5 _=> ?_))
  | (go_at_call 43;(with_reducible refine mf0 (jeB 603 1 HZ.o (by constructor <;> (with_reducible repeat first|assumption|apply rZ|refine rP ?_ rfl (by simp [go_sem,hc5]))) ⟨hr5,hq5⟩ H4.o H3.o (by omega) HNE.o) fun w6 s6 A6 n6 c6 t6 B6 m6 d6 hr6 hq6 hb6 hc6 hf6 _=> ?_))
  | (go_at_call 50;(with_reducible refine mo0 (jA0 HT.o.1 HT.o.2 ⟨hr6,hq6⟩ (HE.o.below bi) HS.o) fun w7 hb7 hc7 hf7 _=> ?_)))
 go_ret2;exact ⟨rfl,bi⟩
end
end Go.Proofs.YtdbaealhapgjaaaGreatDoor
