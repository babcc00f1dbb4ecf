/- Parts. -/
import Derived.Test.YteokfcjdfjhhhaaGreatDoorMk
import Derived.Test.YteokfcjdfjhhhaaGreatDoorMr
set_option linter.all false
set_option maxRecDepth 100000
set_option maxHeartbeats 8000000
namespace Go.Proofs.YteokfcjdfjhhhaaGreatDoor
open Go Go.RowKit

theorem jlK {w:World} {kind step:List UInt8} {k:Int} (hk:jeX kind step=k) (hE:Env w) (hl:step.length < 4294967281):Calls Tryz.prog 63 #[rv kind step] w fun e w'=>e= .returned (.int .i64 k)∧Below w.heap.size w w':=hk ▸ joT hE hl
theorem jh2 {kind step:List UInt8} {s:Rat} (hk:(jaS kind).isSome=true) (hs:IsNum step s) (h0:0 < s):jeX kind step=0:=by
 have h1:chk step=0:=jaQ.2 ⟨s,hs⟩;unfold jeX;rw [if_neg (by rw [hk];decide),if_neg (by simpa using h1),hs.numQ,if_neg (Rat.not_le.2 h0)]
section
variable {w:World} {x s:Rat} {kind step a:List UInt8}
theorem jjc {z:Rat} {tz:List UInt8} {ez:Int} (hE:Env w) (hl:a.length < 4294967281) (hl2:step.length < 4294967281) (ha:IsNum a x) (hk:(jaS kind).isSome=true) (hs:IsNum step s) (hs0:0 < s)
  (hz:rnd kind x s=z) (hS:StrQ z) (ht:jbC z=tz) (he:jbq z=ez):
  Calls Tryz.prog 19 #[bs a,rv kind step] w fun e w'=>e= .returned (.tuple #[bs tz, .int .i64 ez])∧Below w.heap.size w w':=by
 have HE:=qh hE;have HL:=qh hl;have HL2:=qh hl2;have HA:=qh (jaQ.2 ⟨x,ha⟩);have HX:=qh ha;have HSX:=qh ha.sz;have HST:=qh hs;have HS0:Hid (s≠0):=qh (fun h=>by rw [h] at hs0;exact Rat.lt_irrefl hs0);have HKR:=qh (jh2 hk hs hs0);have HK:=qh hk;have HZ:=qh hz;have HS:=qh hS;have HT:=qh (And.intro ht he);clear hE hl hl2 ha hk hs hs0 hz hS ht he;go_enter Tryz.func19,Tryz.ntmps19
 go_upto_region 7 with (first
  | (go_at_call 30;(with_reducible refine mo1 w (jaP HA.out (HE.out.below bi) HL.out) (by go_size) fun w1 hb1 hc1 hf1 z1_0 _=> ?_))
  | (go_at_call 63;(with_reducible refine mo1 w (jlK HKR.out (HE.out.below bi) HL2.out) (by go_size) fun w2 hb2 hc2 hf2 z2_0 _=> ?_)))
 refine ja3 (fun w'=>Below w2.heap.size w2 w') [] (by kernel_rfl) ?_;refine tb 0 (bs a) [1] rfl (by kernel_rfl) pk rfl (by intros;go_simp) bq0 ?_;refine tb 2 (rv kind step) [3] rfl (by kernel_rfl) pk rfl (by intros;go_simp) bq0 ?_;simp only [ppq];refine rd1 1 (by kernel_rfl) rfl (fun K hK=> ?_);go_simp;go_wp2_with (go_at_call 31;(with_reducible refine mf0 (jaz HX.out (HE.out.below bi)) fun w3 s3 A3 n3 c3 t3 B3 m3 d3 hr3 hq3 hb3 hc3 hf3 _=> ?_))
 have sS3:=qh (bst bq0 hb3);refine hK.out _ _ (fun _=>sS3.out) ?_;clear hK K;refine rd1 3 (by kernel_rfl) rfl (fun K hK=> ?_);go_simp;go_wp2_with (go_at_call 64;(with_reducible refine mf0 (jmI (HE.out.below bi) ⟨hr3,hq3⟩ HSX.out (by omega) HST.out HS0.out HL2.out HK.out HZ.out) fun w4 s4 A4 n4 c4 t4 B4 m4 d4 hr4 hq4 hb4 hc4 hf4 _=> ?_))
 have sS4:=qh (bst sS3.out hb4);refine hK.out _ _ (fun _=>sS4.out) ?_;clear hK K;refine rd1 4 (by kernel_rfl) rfl (fun K hK=> ?_);go_simp;go_wp2_with (go_at_call 43;(with_reducible refine mo0 (jdE HT.out.1 HT.out.2 ⟨hr4,hq4⟩ (HE.out.below bi) HS.out) fun w5 hb5 hc5 hf5 _=> ?_))
 have sS5:=qh (bst sS4.out hb5);refine hK.out _ _ (fun _=>sS5.out) ?_;clear hK K;refine tb 5 (bs tz) [7] rfl (by kernel_rfl) pk rfl (by intros;go_simp) sS5.out ?_;refine tb 6 (.int .i64 ez) [8] rfl (by kernel_rfl) pk rfl (by intros;go_simp) sS5.out ?_;simp only [ppq];refine rd1 7 (by kernel_rfl) rfl (fun K hK=> ?_);go_simp;refine hK.out _ _ (fun _=>bi) ?_;clear hK K;refine rd1 8 (by kernel_rfl) rfl (fun K hK=> ?_);go_simp;refine hK.out _ _ (fun _=>bi) ?_;clear hK K;refine ja2 (by kernel_rfl) ?_ _;go_wp2;go_ret2;exact ⟨rfl,bi⟩
end

theorem Pv.twoAt {w:World} {t:TypeId} {a1 a2 b1 b2:List UInt8} {b:Nat} (hb:b=w.heap.size):Pv (w.alloc (.cells #[bs a1,bs a2,bs b1,bs b2] t)) (some ⟨b,0,none⟩) 2 [(a1,a2),(b1,b2)]:=by
 subst hb
 exact ⟨rfl,fun _=>⟨w.heap.size,0,rfl,by simp,fun j hj=>by
  have h:j=0∨j=1:=by omega
  rcases h with rfl|rfl <;> simp⟩⟩
theorem jew {w:World} {a1 a2 b1 b2:List UInt8} {A:Option Addr} {n c:Nat} {k:Int} (hk:jab jbB [(a1,a2),(b1,b2)]=k) (hE:Env w) (hs:Pv w A n [(a1,a2),(b1,b2)]) (hn:n≤100000)
  (h1:a1.length < 4294967281) (h2:a2.length < 4294967281) (h3:b1.length < 4294967281) (h4:b2.length < 4294967281):
  Calls Tryz.prog 65 #[.func (.func 66) #[] #[], .slice A n c] w fun e w'=>e= .returned (.int .i64 k)∧Below w.heap.size w w':=by
 subst hk
 exact jcY (c:=c) (f:=jbB) hs hn (fun l hm V hV=>by
  rcases List.mem_cons.1 hm with rfl|hm
  ·exact jeK (hE.below hV) h1 h2
  ·rcases List.mem_cons.1 hm with rfl|hm
   ·exact jeK (hE.below hV) h3 h4
   ·cases hm)
end Go.Proofs.YteokfcjdfjhhhaaGreatDoor
