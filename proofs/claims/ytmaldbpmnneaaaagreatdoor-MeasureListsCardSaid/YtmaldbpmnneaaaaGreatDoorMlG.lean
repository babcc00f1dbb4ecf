/- Parts. -/
import Derived.Test.YtmaldbpmnneaaaaGreatDoorMk
import Derived.Test.YtmaldbpmnneaaaaGreatDoorMr
set_option linter.all false
set_option maxRecDepth 100000
set_option maxHeartbeats 8000000
namespace Go.Proofs.YtmaldbpmnneaaaaGreatDoor
open Go Go.RowKit

theorem jkY {w:World} {kind step:List UInt8} {k:Int} (hk:jeB kind step=k) (hE:Env w) (hl:step.length < 4294967281):Calls Tryz.prog 54 #[rv kind step] w fun e w'=>e= .returned (.int .i64 k)∧Below w.heap.size w w':=hk ▸ jok hE hl
theorem jh2 {kind step:List UInt8} {s:Rat} (hk:(jaM kind).isSome=true) (hs:IsNum step s) (h0:0 < s):jeB kind step=0:=by
 have h1:chk step=0:=jaK.2 ⟨s,hs⟩
 unfold jeB
 rw [if_neg (by rw [hk];decide),if_neg (by simpa using h1),hs.numQ,if_neg (Rat.not_le.2 h0)]
section
variable {w:World} {x s:Rat} {kind step a:List UInt8}
theorem jjj {z:Rat} {tz:List UInt8} {ez:Int} (hE:Env w) (hl:a.length < 4294967281) (hl2:step.length < 4294967281) (ha:IsNum a x) (hk:(jaM kind).isSome=true) (hs:IsNum step s) (hs0:0 < s)
  (hz:rnd kind x s=z) (hS:StrQ z) (ht:jbB z=tz) (he:jbq z=ez):
  Calls Tryz.prog 20 #[bs a,rv kind step] w fun e w'=>e= .returned (.tuple #[bs tz, .int .i64 ez])∧Below w.heap.size w w':=by
 have HE:=qh hE
 have HL:=qh hl
 have HL2:=qh hl2
 have HA:=qh (jaK.2 ⟨x,ha⟩)
 have HX:=qh ha
 have HSX:=qh ha.sz
 have HST:=qh hs
 have HS0:Hid (s≠0):=qh (fun h=>by rw [h] at hs0;exact Rat.lt_irrefl hs0)
 have HKR:=qh (jh2 hk hs hs0)
 have HK:=qh hk
 have HZ:=qh hz
 have HS:=qh hS
 have HT:=qh (And.intro ht he)
 clear hE hl hl2 ha hk hs hs0 hz hS ht he
 go_enter Tryz.func20,Tryz.ntmps20
 go_upto_region 7 with (first
  | (go_at_call 53;(with_reducible refine mo1 w (jaI HA.out (HE.out.below bi) HL.out) (by go_size) fun w1 hb1 hc1 hf1 z1_0 _=> ?_))
  | (go_at_call 54;(with_reducible refine mo1 w (jkY HKR.out (HE.out.below bi) HL2.out) (by go_size) fun w2 hb2 hc2 hf2 z2_0 _=> ?_)))
 refine ja3 (fun w'=>Below w2.heap.size w2 w') [] (by kernel_rfl) ?_
 refine tb 0 (bs a) [1] rfl (by kernel_rfl) pk rfl (by intros;go_simp) bq0 ?_
 simp only [ppq]
 refine tb 2 (rv kind step) [3] rfl (by kernel_rfl) pk rfl (by intros;go_simp) bq0 ?_
 simp only [ppq]
 refine rd1 1 (by kernel_rfl) rfl (fun K hK=> ?_)
 go_simp
 go_wp2_with (go_at_call 56;(with_reducible refine mf0 (jat HX.out (HE.out.below bi)) fun w3 s3 A3 n3 c3 t3 B3 m3 d3 hr3 hq3 hb3 hc3 hf3 _=> ?_))
 have sS3:=qh (bst bq0 hb3)
 refine hK.out _ _ (fun _=>sS3.out) ?_
 clear hK K
 refine rd1 3 (by kernel_rfl) rfl (fun K hK=> ?_)
 go_simp
 go_wp2_with (go_at_call 55;(with_reducible refine mf0 (jl5 (HE.out.below bi) ⟨hr3,hq3⟩ HSX.out (by omega) HST.out HS0.out HL2.out HK.out HZ.out) fun w4 s4 A4 n4 c4 t4 B4 m4 d4 hr4 hq4 hb4 hc4 hf4 _=> ?_))
 have sS4:=qh (bst sS3.out hb4)
 refine hK.out _ _ (fun _=>sS4.out) ?_
 clear hK K
 refine rd1 4 (by kernel_rfl) rfl (fun K hK=> ?_)
 go_simp
 go_wp2_with (go_at_call 52;(with_reducible refine mo0 (jdv HT.out.1 HT.out.2 ⟨hr4,hq4⟩ (HE.out.below bi) HS.out) fun w5 hb5 hc5 hf5 _=> ?_))
 have sS5:=qh (bst sS4.out hb5)
 refine hK.out _ _ (fun _=>sS5.out) ?_
 clear hK K
 refine tb 5 (bs tz) [7] rfl (by kernel_rfl) pk rfl (by intros;go_simp) sS5.out ?_
 simp only [ppq]
 refine tb 6 (.int .i64 ez) [8] rfl (by kernel_rfl) pk rfl (by intros;go_simp) sS5.out ?_
 simp only [ppq]
 refine rd1 7 (by kernel_rfl) rfl (fun K hK=> ?_)
 go_simp
 refine hK.out _ _ (fun _=>bi) ?_
 clear hK K
 refine rd1 8 (by kernel_rfl) rfl (fun K hK=> ?_)
 go_simp
 refine hK.out _ _ (fun _=>bi) ?_
 clear hK K
 refine ja2 (by kernel_rfl) ?_ _
 go_wp2
 go_ret2
 exact ⟨rfl,bi⟩
end

theorem Pv.twoAt {w:World} {t:TypeId} {a1 a2 b1 b2:List UInt8} {b:Nat} (hb:b=w.heap.size):Pv (w.alloc (.cells #[bs a1,bs a2,bs b1,bs b2] t)) (some ⟨b,0,none⟩) 2 [(a1,a2),(b1,b2)]:=by
 subst hb
 exact ⟨rfl,fun _=>⟨w.heap.size,0,rfl,by simp,fun j hj=>by
  have h:j=0∨j=1:=by omega
  rcases h with rfl|rfl <;> simp⟩⟩
theorem je8 {w:World} {a1 a2 b1 b2:List UInt8} {A:Option Addr} {n c:Nat} {k:Int} (hk:ja9 jau [(a1,a2),(b1,b2)]=k) (hE:Env w) (hs:Pv w A n [(a1,a2),(b1,b2)]) (hn:n≤100000)
  (h1:a1.length < 4294967281) (h2:a2.length < 4294967281) (h3:b1.length < 4294967281) (h4:b2.length < 4294967281):
  Calls Tryz.prog 57 #[.func (.func 58) #[] #[], .slice A n c] w fun e w'=>e= .returned (.int .i64 k)∧Below w.heap.size w w':=by
 subst hk
 exact jcP (c:=c) (f:=jau) hs hn (fun l hm V hV=>by
  rcases List.mem_cons.1 hm with rfl|hm
  ·exact jeC (hE.below hV) h1 h2
  ·rcases List.mem_cons.1 hm with rfl|hm
   ·exact jeC (hE.below hV) h3 h4
   ·cases hm)
end Go.Proofs.YtmaldbpmnneaaaaGreatDoor
