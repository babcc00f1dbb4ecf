/- Parts. -/
import Derived.Test.YtfoolepjkhgckaaGreatDoorLfG
import Derived.Test.YtfoolepjkhgckaaGreatDoorUwG
set_option linter.all false
set_option maxRecDepth 100000
set_option maxHeartbeats 8000000
namespace Go.Proofs.YtfoolepjkhgckaaGreatDoor
open Go Go.RowKit

theorem jqO {x:Rat} (h:moi x=0):0≤x∧x < 100:=by
 unfold moi at h
 by_cases e:(decide (sgn x.num < 0) || decide (0≤Rq.cmpQ x 100))=true
 ·rw [if_pos e] at h;cases h
 ·rw [Bool.or_eq_true,decide_eq_true_iff,decide_eq_true_iff,not_or] at e
  constructor
  ·have h1:¬x.num < 0:=fun k=>e.1 (jgQ.2 k)
   exact Rat.num_nonneg.1 (by omega)
  ·exact Rq.cmp_neg.1 (by have:=e.2;omega)
theorem jsx {m:Int} (h0:0≤m) (h1:m≤100000000):Dz 9 (m:Rat):=⟨by rw [Rat.num_intCast];omega,by rw [Rat.den_intCast];omega⟩
theorem jeP:Dz 3 (100:Rat):=⟨by decide+kernel,by decide+kernel⟩
theorem jp3 {m x:Rat} (hx:x < 100):m*(100 - x) / (100 - x)=m:=by grind
theorem jpj {m x y:Rat} (hy:y < 100):m*(100 - x) / (100 - y)*(100 - y)=m*(100 - x) / 100*100:=by grind
theorem jow {m x y:Rat} (h0:0≤m) (hx:x < 100) (hy:y < 100) (h:y≤x):m*(100 - x) / (100 - y)≤m:=by
 have h2:0 < 100 - y:=by grind
 obtain ⟨q,hq⟩:∃q,m*(100 - x) / (100 - y)=q:=⟨_,rfl⟩
 have e:q*(100 - y)=m*(100 - x):=by grind
 have h3:m*(100 - x)≤m*(100 - y):=Rat.mul_le_mul_of_nonneg_left (by grind) h0
 rw [hq]
 refine Rat.not_lt.1 fun h4=> ?_
 have h5:=Rat.mul_lt_mul_of_pos_right h4 h2
 grind
section
variable {w:World} {a b:List UInt8} {x y:Rat} {mass m:Int}
set_option maxHeartbeats 16000000 in
theorem jpg (hE:Env w) (hx:Fw 6 a x) (hy:Fw 6 b y) (mx:moi x=0) (my:moi y=0) (h0:0≤mass) (h1:mass < 4294967296) (hm:mass.tmod 100000001=m):
  Calls Tryz.prog 4 #[.int .u32 mass,bs a,bs b] w fun e w'=>e= .returned (.bool true)∧Below w.heap.size w w':=by
 have HW:Hid (∀W,Below w.heap.size w W→Calls Tryz.prog 8 #[] W fun e w'=>e= .returned (.bool true)∧Below W.heap.size W w'):=qh (fun W hb=>jas (hE.below hb))
 have HF1:=qh (fun W=>je9 (w:=W) (jfw ⟨x,hx⟩) (by omega) (by omega))
 have HF2:=qh (fun W=>je9 (w:=W) (jfw ⟨y,hy⟩) (by omega) (by omega))
 have la:=hx.len
 have lb:=hy.len
 have ix:=hx.is (by omega)
 have iy:=hy.is (by omega)
 have dx:Dz 6 x:=hx.dz
 have dy:Dz 6 y:=hy.dz
 have cx:chk a=0:=jaj.2 ⟨x,ix⟩
 have cy:chk b=0:=jaj.2 ⟨y,iy⟩
 have HM1:=qh (fun W=>jdD (w:=W) mx (hx.eq ▸ cx) (by rw [←hx.eq];omega) dx (by omega) (by omega))
 have HM2:=qh (fun W=>jdD (w:=W) my (hy.eq ▸ cy) (by rw [←hy.eq];omega) dy (by omega) (by omega))
 obtain ⟨x0,x1⟩:=jqO mx
 obtain ⟨y0,y1⟩:=jqO my
 have jx:IsMoist a x:=⟨ix,x0,x1⟩
 have jy:IsMoist b y:=⟨iy,y0,y1⟩
 have m0:0≤m:=by rw [←hm];exact Int.tmod_nonneg _ h0
 have m1:m≤100000000:=by rw [←hm];have:=Int.tmod_lt_of_pos mass (show (0:Int) < 100000001 by decide);omega
 have dm:=jsx m0 m1
 have nx:(100:Rat) - x≠0:=by grind
 have ny:(100:Rat) - y≠0:=by grind
 have n100:(100:Rat)≠0:=by decide+kernel
 obtain ⟨P,hP⟩:∃P,(m:Rat)*(100 - x) / (100 - y)=P:=⟨_,rfl⟩
 obtain ⟨Q,hQ⟩:∃Q,(m:Rat)*(100 - x) / 100=Q:=⟨_,rfl⟩
 have dP:Dz 50 P:=hP ▸ ((dm.mul (jeP.sub dx)).div (jeP.sub dy) ny).mono (by decide)
 have dQ:Dz 50 Q:=hQ ▸ ((dm.mul (jeP.sub dx)).div jeP n100).mono (by decide)
 obtain ⟨gP,eP,iP⟩:=jat dP (by omega) (by omega)
 obtain ⟨gQ,eQ,iQ⟩:=jat dQ (by omega) (by omega)
 obtain ⟨gM,eM,iM⟩:=jat dm (by omega) (by omega)
 have HZ1:=qh (fun W (hb:Below w.heap.size w W)=>jkg (hE.below hb) jx jy m0 (by omega) hP (dP.strQ (by omega)) gP eP (by omega) (by omega))
 have HZ2:=qh (fun W (hb:Below w.heap.size w W)=>jkg (hE.below hb) jx jx m0 (by omega) (jp3 x1) (dm.strQ (by omega)) gM eM (by omega) (by omega))
 have HZ3:=qh (fun W (hb:Below w.heap.size w W)=>jeN (hE.below hb) jx m0 (by omega) hQ (dQ.strQ (by omega)) gQ eQ (by omega))
 obtain ⟨k,rfl⟩:∃k:Nat,m=(k:Int):=⟨m.toNat,by omega⟩
 have lP:=jn6 dP (by omega)
 have lQ:=jn6 dQ (by omega)
 have lM:=jn6 dm (by omega)
 have cP:chk (tq P)=0:=jaj.2 ⟨P,iP⟩
 have cQ:chk (tq Q)=0:=jaj.2 ⟨Q,iQ⟩
 have cM:chk (tq ((k:Int):Rat))=0:=jaj.2 ⟨_,iM⟩
 have HFI:=qh (fun W=>jff (w:=W) (n:=k) (by omega))
 have HSU:=qh (fun W=>jca (w:=W) jeP dy (by omega) (by omega) (by omega) (by omega))
 have HA:=qh (fun W=>jbg (w:=W) dP (jeP.sub dy) (by omega) (by omega) (by omega) (by omega))
 have HB:=qh (fun W=>jbg (w:=W) dQ jeP (by omega) (by omega) (by omega) (by omega))
 obtain ⟨g,hg⟩:∃g,Rq.cmpQ y x=g:=⟨_,rfl⟩
 obtain ⟨g2,hg2⟩:∃g,Rq.cmpQ P ((k:Int):Rat)=g:=⟨_,rfl⟩
 have HG:=qh (fun W=>jcq (w:=W) hg dy dx (by omega) (by omega) (by omega) (by omega))
 have HG2:=qh (fun W=>jcq (w:=W) hg2 dP dm (by omega) (by omega) (by omega) (by omega))
 have HMO:=qh (fun (h:¬0 < g)=>(show decide (g2≤0)=true from by
  rw [decide_eq_true_iff,←hg2]
  have h1:¬x < y:=fun e=>h (by rw [←hg];exact Rq.cmp_pos.2 e)
  have h2:P≤((k:Int):Rat):=by rw [←hP];exact jow (by exact_mod_cast m0) x1 y1 (Rat.not_lt.1 h1)
  have h3:¬0 < Rq.cmpQ P ((k:Int):Rat):=fun e=>by have:=Rq.cmp_pos.1 e;grind
  omega))
 unfold QP at HFI HSU HA HB
 rw [show P*(100 - y)=Q*100 by rw [←hP,←hQ];exact jpj y1] at HA
 rw [show tq (100:Rat)=[49,48,48] by decide+kernel] at HSU HB
 rw [←hx.eq] at HM1 HG
 rw [←hy.eq] at HM2 HSU HG
 obtain ⟨TP,hTP⟩:∃T,tq P=T:=⟨_,rfl⟩
 obtain ⟨TQ,hTQ⟩:∃T,tq Q=T:=⟨_,rfl⟩
 obtain ⟨TM,hTM⟩:∃T,tq ((k:Int):Rat)=T:=⟨_,rfl⟩
 obtain ⟨TS,hTS⟩:∃T,tq (100 - y)=T:=⟨_,rfl⟩
 obtain ⟨TB,hTB⟩:∃T,tq (Q*100)=T:=⟨_,rfl⟩
 rw [hTP] at HZ1 HA HG2 lP cP
 rw [hTQ] at HZ3 HB lQ cQ
 rw [hTM] at HZ2 HFI HG2 lM cM
 rw [hTS] at HSU HA
 rw [hTB] at HA HB
 have HRO:=qh (fun (W:World) (T:TypeId) (c:Nat)=>jsY (w:=W.alloc (.cells #[bs TP,bs TM,bs TQ] T)) (g:=W.heap.size) (n:=3) (c:=c) (ls:=[TP,TM,TQ]) (by omega)
  (fun j hj=>by
    rcases (show j=0∨j=1∨j=2 by omega) with rfl|rfl|rfl <;> simp [go_sem])
  (fun j hj=>by
    rcases (show j=0∨j=1∨j=2 by omega) with rfl|rfl|rfl
    ·exact ⟨cP,by simp;omega⟩
    ·exact ⟨cM,by simp;omega⟩
    ·exact ⟨cQ,by simp;omega⟩))
 clear hE hx hy mx my la lb ix iy dx dy cx cy x0 x1 y0 y1 jx jy dm nx ny n100 hP hQ dP dQ gP eP iP gQ eQ iQ gM eM iM lP lQ lM cP cQ cM hg hg2 hTP hTQ hTM hTS hTB
 go_enter Tryz.func4,Tryz.ntmps4
 go_upto_region 9 with (first|(go_at_call 8;(with_reducible refine mo0 (HW.out _ bi) fun w1 hb1 hc1 hf1 _=> ?_))|(go_at_call 18;(with_reducible show Calls _ _ #[bs a, .int .i64 6] _ _);(with_reducible refine mo0 (HF1.out _) fun w2 hb2 hc2 hf2 _=> ?_))|(go_at_call 18;(with_reducible show Calls _ _ #[bs b, .int .i64 6] _ _);(with_reducible refine mo0 (HF2.out _) fun w3 hb3 hc3 hf3 _=> ?_))|(go_at_call 13;(with_reducible show Calls _ _ #[bs a] _ _);(with_reducible refine mo0 (HM1.out _) fun w4 hb4 hc4 hf4 _=> ?_))|(go_at_call 13;(with_reducible show Calls _ _ #[bs b] _ _);(with_reducible refine mo0 (HM2.out _) fun w5 hb5 hc5 hf5 _=> ?_))|(go_at_call 10;(with_reducible show Calls _ _ #[.int .i64 (k:Int),bs a,bs b] _ _);(with_reducible refine mo0 (HZ1.out _ bi) fun w6 hb6 hc6 hf6 _=> ?_))|(go_at_call 10;(with_reducible show Calls _ _ #[.int .i64 (k:Int),bs a,bs a] _ _);(with_reducible refine mo0 (HZ2.out _ bi) fun w7 hb7 hc7 hf7 _=> ?_))|(go_at_call 9;(with_reducible refine mo0 (HZ3.out _ bi) fun w8 hb8 hc8 hf8 _=> ?_))|(go_at_call 19;(with_reducible refine mo0 (HRO.out _ _ _) fun w9 hb9 hc9 hf9 _=> ?_))|(go_at_call 15;(with_reducible refine mo0 (HFI.out _) fun w10 hb10 hc10 hf10 _=> ?_)))
 clear HW HF1 HF2 HM1 HM2 HZ1 HZ2 HZ3 HRO HFI
 go_upto_region 11 with (first|(go_at_call 21;(with_reducible refine mo0 (HSU.out _) fun w11 hb11 hc11 hf11 _=> ?_))|(go_at_call 20;(with_reducible show Calls _ _ #[bs TP,bs TS] _ _);(with_reducible refine mo0 (HA.out _) fun w12 hb12 hc12 hf12 _=> ?_))|(go_at_call 20;(with_reducible show Calls _ _ #[bs TQ, .string ⟨#[49,48,48]⟩] _ _);(with_reducible refine mo0 (HB.out _) fun w13 hb13 hc13 hf13 _=> ?_)))
 clear HSU HA HB
 by_cases hg:0 < g
 ·have q8:decide (0 < g)=true:=by simpa using hg
  clear hg
  go_wp2_with (go_at_call 22;(with_reducible show Calls _ _ #[bs b,bs a] _ _);(with_reducible refine mo0 (HG.out _) fun w14 hb14 hc14 hf14 _=> ?_))
  go_ret
  exact ⟨rfl,bi⟩
 ·have q8:decide (0 < g)=false:=by simpa using hg
  have q9:=HMO.out (by omega)
  clear hg
  go_wp2_with (first|(go_at_call 22;(with_reducible show Calls _ _ #[bs b,bs a] _ _);(with_reducible refine mo0 (HG.out _) fun w14 hb14 hc14 hf14 _=> ?_))|(go_at_call 22;(with_reducible show Calls _ _ #[bs TP,bs TM] _ _);(with_reducible refine mo0 (HG2.out _) fun w15 hb15 hc15 hf15 _=> ?_)))
  go_ret
  exact ⟨rfl,bi⟩
theorem jm1 (hE:Env w) (hbad:¬((∃x,Fw 6 a x∧moi x=0)∧(∃x,Fw 6 b x∧moi x=0))):
  Calls Tryz.prog 4 #[.int .u32 mass,bs a,bs b] w fun e w'=>e= .returned (.bool true)∧Below w.heap.size w w':=by
 have HW:Hid (∀W,Below w.heap.size w W→Calls Tryz.prog 8 #[] W fun e w'=>e= .returned (.bool true)∧Below W.heap.size W w'):=qh (fun W hb=>jas (hE.below hb))
 by_cases h1:∃x,Fw 6 a x
 ·have HF1:=qh (fun W=>je9 (w:=W) (jfw h1) (by omega) (by omega))
  by_cases h2:∃x,Fw 6 b x
  ·have HF2:=qh (fun W=>je9 (w:=W) (jfw h2) (by omega) (by omega))
   obtain ⟨x,hx⟩:=h1
   obtain ⟨y,hy⟩:=h2
   have la:=hx.len
   have lb:=hy.len
   obtain ⟨k1,e1⟩:∃k,moi x=k:=⟨_,rfl⟩
   obtain ⟨k2,e2⟩:∃k,moi y=k:=⟨_,rfl⟩
   have HM1:=qh (fun W=>jdD (w:=W) (k:=6) e1 (hx.eq ▸ jaj.2 ⟨x,hx.is (by omega)⟩) (by rw [←hx.eq];omega) hx.dz (by omega) (by omega))
   have HM2:=qh (fun W=>jdD (w:=W) (k:=6) e2 (hy.eq ▸ jaj.2 ⟨y,hy.is (by omega)⟩) (by rw [←hy.eq];omega) hy.dz (by omega) (by omega))
   have hk:k1=0→k2≠0:=fun h h2=>hbad ⟨⟨x,hx,e1.trans h⟩,⟨y,hy,e2.trans h2⟩⟩
   rw [←hx.eq] at HM1
   rw [←hy.eq] at HM2
   clear hbad hE la lb e1 e2
   by_cases e:k1=0
   ·have q2:(k2 != 0)=true:=by rw [bne_iff_ne];exact hk e
    have q1:(k1 != 0)=false:=by rw [e];rfl
    clear hk e hx hy
    go_enter Tryz.func4,Tryz.ntmps4
    go_wp2_with (first|(go_at_call 8;(with_reducible refine mo0 (HW.out _ bi) fun w1 hb1 hc1 hf1 _=> ?_))|(go_at_call 18;(with_reducible show Calls _ _ #[bs a, .int .i64 6] _ _);(with_reducible refine mo0 (HF1.out _) fun w2 hb2 hc2 hf2 _=> ?_))|(go_at_call 18;(with_reducible show Calls _ _ #[bs b, .int .i64 6] _ _);(with_reducible refine mo0 (HF2.out _) fun w3 hb3 hc3 hf3 _=> ?_))|(go_at_call 13;(with_reducible show Calls _ _ #[bs a] _ _);(with_reducible refine mo0 (HM1.out _) fun w4 hb4 hc4 hf4 _=> ?_))|(go_at_call 13;(with_reducible show Calls _ _ #[bs b] _ _);(with_reducible refine mo0 (HM2.out _) fun w5 hb5 hc5 hf5 _=> ?_)))
    go_ret
    exact ⟨rfl,bi⟩
   ·have q1:(k1 != 0)=true:=by rw [bne_iff_ne];exact e
    clear hk e hx hy
    go_enter Tryz.func4,Tryz.ntmps4
    go_wp2_with (first|(go_at_call 8;(with_reducible refine mo0 (HW.out _ bi) fun w1 hb1 hc1 hf1 _=> ?_))|(go_at_call 18;(with_reducible show Calls _ _ #[bs a, .int .i64 6] _ _);(with_reducible refine mo0 (HF1.out _) fun w2 hb2 hc2 hf2 _=> ?_))|(go_at_call 18;(with_reducible show Calls _ _ #[bs b, .int .i64 6] _ _);(with_reducible refine mo0 (HF2.out _) fun w3 hb3 hc3 hf3 _=> ?_))|(go_at_call 13;(with_reducible show Calls _ _ #[bs a] _ _);(with_reducible refine mo0 (HM1.out _) fun w4 hb4 hc4 hf4 _=> ?_))|(go_at_call 13;(with_reducible show Calls _ _ #[bs b] _ _);(with_reducible refine mo0 (HM2.out _) fun w5 hb5 hc5 hf5 _=> ?_)))
    go_ret
    exact ⟨rfl,bi⟩
  ·have HF2:=qh (fun W=>je9 (w:=W) (jce h2) (by omega) (by omega))
   obtain ⟨x,hx⟩:=h1
   clear h2 hbad hE hx
   go_enter Tryz.func4,Tryz.ntmps4
   go_wp2_with (first|(go_at_call 8;(with_reducible refine mo0 (HW.out _ bi) fun w1 hb1 hc1 hf1 _=> ?_))|(go_at_call 18;(with_reducible show Calls _ _ #[bs a, .int .i64 6] _ _);(with_reducible refine mo0 (HF1.out _) fun w2 hb2 hc2 hf2 _=> ?_))|(go_at_call 18;(with_reducible show Calls _ _ #[bs b, .int .i64 6] _ _);(with_reducible refine mo0 (HF2.out _) fun w3 hb3 hc3 hf3 _=> ?_))|(go_at_call 13;(with_reducible show Calls _ _ #[bs a] _ _);(with_reducible refine mo0 (HM1.out _) fun w4 hb4 hc4 hf4 _=> ?_))|(go_at_call 13;(with_reducible show Calls _ _ #[bs b] _ _);(with_reducible refine mo0 (HM2.out _) fun w5 hb5 hc5 hf5 _=> ?_)))
   go_ret
   exact ⟨rfl,bi⟩
 ·have HF1:=qh (fun W=>je9 (w:=W) (jce h1) (by omega) (by omega))
  clear h1 hbad hE
  go_enter Tryz.func4,Tryz.ntmps4
  go_wp2_with (first|(go_at_call 8;(with_reducible refine mo0 (HW.out _ bi) fun w1 hb1 hc1 hf1 _=> ?_))|(go_at_call 18;(with_reducible show Calls _ _ #[bs a, .int .i64 6] _ _);(with_reducible refine mo0 (HF1.out _) fun w2 hb2 hc2 hf2 _=> ?_))|(go_at_call 18;(with_reducible show Calls _ _ #[bs b, .int .i64 6] _ _);(with_reducible refine mo0 (HF2.out _) fun w3 hb3 hc3 hf3 _=> ?_))|(go_at_call 13;(with_reducible show Calls _ _ #[bs a] _ _);(with_reducible refine mo0 (HM1.out _) fun w4 hb4 hc4 hf4 _=> ?_))|(go_at_call 13;(with_reducible show Calls _ _ #[bs b] _ _);(with_reducible refine mo0 (HM2.out _) fun w5 hb5 hc5 hf5 _=> ?_)))
  go_ret
  exact ⟨rfl,bi⟩
theorem jlf (hE:Env w) (h0:0≤mass) (h1:mass < 4294967296):Calls Tryz.prog 4 #[.int .u32 mass,bs a,bs b] w fun e w'=>e= .returned (.bool true)∧Below w.heap.size w w':=by
 by_cases h:(∃x,Fw 6 a x∧moi x=0)∧(∃x,Fw 6 b x∧moi x=0)
 ·obtain ⟨⟨x,hx,mx⟩,⟨y,hy,my⟩⟩:=h
  exact jpg hE hx hy mx my h0 h1 rfl
 ·exact jm1 hE h
end
end Go.Proofs.YtfoolepjkhgckaaGreatDoor
