/- Parts. -/
import Derived.Test.YtfoolepjkhgckaaGreatDoorLfG
import Derived.Test.YtfoolepjkhgckaaGreatDoorUwG
set_option linter.all false
set_option maxRecDepth 100000
set_option maxHeartbeats 8000000
namespace Go.Proofs.YtfoolepjkhgckaaGreatDoor
open Go Go.RowKit

section
variable {w:World} {a b:List UInt8} {mass k:Int}
theorem jhZ (hm:¬(0≤mass∧mass≤999999999)):Calls Tryz.prog 9 #[.int .i64 mass,bs a] w fun e w'=>e= .returned (.tuple #[bs [], .int .i64 3])∧Below w.heap.size w w':=by
 by_cases h0:0≤mass
 ·have q1:decide (mass < 0)=false:=by simp;omega
  have q2:decide (999999999 < mass)=true:=by simp;omega
  clear hm h0
  go_enter Tryz.func9,Tryz.ntmps9
  go_wp2
  go_ret2
  exact ⟨rfl,bi⟩
 ·have q1:decide (mass < 0)=true:=by simp;omega
  clear hm h0
  go_enter Tryz.func9,Tryz.ntmps9
  go_wp2
  go_ret2
  exact ⟨rfl,bi⟩
theorem jmA (hm:¬(0≤mass∧mass≤999999999)):Calls Tryz.prog 10 #[.int .i64 mass,bs a,bs b] w fun e w'=>e= .returned (.tuple #[bs [], .int .i64 3])∧Below w.heap.size w w':=by
 by_cases h0:0≤mass
 ·have q1:decide (mass < 0)=false:=by simp;omega
  have q2:decide (999999999 < mass)=true:=by simp;omega
  clear hm h0
  go_enter Tryz.func10,Tryz.ntmps10
  go_wp2
  go_ret2
  exact ⟨rfl,bi⟩
 ·have q1:decide (mass < 0)=true:=by simp;omega
  clear hm h0
  go_enter Tryz.func10,Tryz.ntmps10
  go_wp2
  go_ret2
  exact ⟨rfl,bi⟩
theorem jiB (hE:Env w) (h0:0≤mass) (h1:mass≤999999999) (hla:a.length < 4294967281) (hk:mst a=k) (hk0:k≠0):Calls Tryz.prog 9 #[.int .i64 mass,bs a] w fun e w'=>e= .returned (.tuple #[bs [], .int .i64 k])∧Below w.heap.size w w':=by
 have q1:decide (mass < 0)=false:=by simp;omega
 have q2:decide (999999999 < mass)=false:=by simp;omega
 have q3:(k != 0)=true:=by rw [bne_iff_ne];exact hk0
 have HCA:=qh (fun W (hb:Below w.heap.size w W)=>hk ▸ jdT (hE.below hb) hla)
 clear hE h0 h1 hla hk hk0
 go_enter Tryz.func9,Tryz.ntmps9
 go_wp2_with (go_at_call 57;(with_reducible refine mo0 (HCA.out _ bi) fun w1 hb1 hc1 hf1 _=> ?_))
 go_ret2
 exact ⟨rfl,bi⟩
theorem jhE (hE:Env w) (h0:0≤mass) (h1:mass≤999999999) (hla:a.length < 4294967281) (hlb:b.length < 4294967281) (hk:(if mst a=0 then mst b else mst a)=k) (hk0:k≠0):Calls Tryz.prog 10 #[.int .i64 mass,bs a,bs b] w fun e w'=>e= .returned (.tuple #[bs [], .int .i64 k])∧Below w.heap.size w w':=by
 have q1:decide (mass < 0)=false:=by simp;omega
 have q2:decide (999999999 < mass)=false:=by simp;omega
 have q3:(k != 0)=true:=by rw [bne_iff_ne];exact hk0
 have HCA:Hid (∀W (A:Option Addr) (n c:Nat),Below w.heap.size w W→Sv W A n [a,b]→n≤100000→Calls Tryz.prog 63 #[.func (.func 57) #[] #[], .slice A n c] W fun e w'=>e= .returned (.int .i64 k)∧Below W.heap.size W w'):=qh (fun W A n c hb hs hn=>by
  have h:=jdi (c:=c) (f:=mst) hs hn (fun l hl V hV=>by
   have hl2:l.length < 4294967281:=by
    rcases List.mem_cons.1 hl with rfl|hl
    ·exact hla
    ·rcases List.mem_cons.1 hl with rfl|hl
     ·exact hlb
     ·cases hl
   exact jdT ((hE.below hb).below hV) hl2)
  have e:ja7 mst [a,b]=k:=by
   rw [←hk];by_cases e0:mst a=0 <;> by_cases e1:mst b=0 <;> simp [ja7,e0,e1]
  rwa [e] at h)
 clear hE h0 h1 hla hlb hk hk0
 go_enter Tryz.func10,Tryz.ntmps10
 go_wp2_with (go_at_call 63;(with_reducible refine mo0 (HCA.out _ _ _ _ bi (Sv.two w _ a b) (by omega)) fun w1 hb1 hc1 hf1 _=> ?_))
 go_ret2
 exact ⟨rfl,bi⟩
end

theorem jlU {m:Int} (h0:0≤m) (h1:m≤999999999):Dz 9 (m:Rat):=⟨by rw [Rat.num_intCast];omega,by rw [Rat.den_intCast];omega⟩
theorem jqx {a:List UInt8} (h:mst a=0):∃x,IsMoist a x:=by
 unfold mst at h
 by_cases h1:chk a=0
 ·rw [if_pos h1] at h
  by_cases h2:numQ a < 0∨100≤numQ a
  ·rw [if_pos h2] at h;cases h
  ·rw [not_or] at h2
   exact ⟨numQ a,jaB h1,Rat.not_lt.1 h2.1,Rat.not_le.1 h2.2⟩
 ·rw [if_neg h1] at h;exact absurd h h1
section
variable {w:World} {a b:List UInt8} {mass:Int}
theorem jiJ (hE:Env w) (h:¬(a.length≤40∧b.length≤40)):Calls Tryz.prog 3 #[.int .i64 mass,bs a,bs b] w fun e w'=>e= .returned (.bool true)∧Below w.heap.size w w':=by
 have HW:Hid (∀W,Below w.heap.size w W→Calls Tryz.prog 8 #[] W fun e w'=>e= .returned (.bool true)∧Below W.heap.size W w'):=qh (fun W hb=>jas (hE.below hb))
 by_cases h1:a.length≤40
 ·have q1:decide ((40:Int) < (a.length:Int))=false:=by rw [decide_eq_false_iff_not];omega
  have q2:decide ((40:Int) < (b.length:Int))=true:=by rw [decide_eq_true_iff];omega
  clear h h1 hE
  go_enter Tryz.func3,Tryz.ntmps3
  go_wp2_with (go_at_call 8;(with_reducible refine mo0 (HW.out _ bi) fun w1 hb1 hc1 hf1 _=> ?_))
  go_ret
  exact ⟨rfl,bi⟩
 ·have q1:decide ((40:Int) < (a.length:Int))=true:=by rw [decide_eq_true_iff];omega
  clear h h1 hE
  go_enter Tryz.func3,Tryz.ntmps3
  go_wp2_with (go_at_call 8;(with_reducible refine mo0 (HW.out _ bi) fun w1 hb1 hc1 hf1 _=> ?_))
  go_ret
  exact ⟨rfl,bi⟩
theorem jig (hE:Env w) (la:a.length≤40) (lb:b.length≤40) (hm:¬(0≤mass∧mass≤999999999)):Calls Tryz.prog 3 #[.int .i64 mass,bs a,bs b] w fun e w'=>e= .returned (.bool true)∧Below w.heap.size w w':=by
 have HW:Hid (∀W,Below w.heap.size w W→Calls Tryz.prog 8 #[] W fun e w'=>e= .returned (.bool true)∧Below W.heap.size W w'):=qh (fun W hb=>jas (hE.below hb))
 have q1:decide ((40:Int) < (a.length:Int))=false:=by rw [decide_eq_false_iff_not];omega
 have q2:decide ((40:Int) < (b.length:Int))=false:=by rw [decide_eq_false_iff_not];omega
 have HA:=qh (fun W (_:Below w.heap.size w W)=>jhZ (w:=W) (a:=a) hm)
 have HB:=qh (fun W (_:Below w.heap.size w W)=>jmA (w:=W) (a:=a) (b:=b) hm)
 obtain ⟨k,hk⟩:∃k,mst a=k:=⟨_,rfl⟩
 have HM:=qh (fun W=>jbN (w:=W) hk (by omega))
 have HF:=qh (fun W T c=>jcr W T c 3 k 3 rfl)
 have HN:=qh (fun W=>jbn (w:=W) (b:=[]) (g:=3) (by decide))
 by_cases h0:0≤mass
 ·have q3:decide (mass < 0)=false:=by rw [decide_eq_false_iff_not];omega
  have q4:decide (999999999 < mass)=true:=by rw [decide_eq_true_iff];omega
  clear hE la lb hm hk h0
  go_enter Tryz.func3,Tryz.ntmps3
  go_wp2_with (first|(go_at_call 8;(with_reducible refine mo0 (HW.out _ bi) fun w1 hb1 hc1 hf1 _=> ?_))|(go_at_call 9;(with_reducible refine mo0 (HA.out _ bi) fun w2 hb2 hc2 hf2 _=> ?_))|(go_at_call 10;(with_reducible refine mo0 (HB.out _ bi) fun w3 hb3 hc3 hf3 _=> ?_))|(go_at_call 12;(with_reducible refine mo0 (jfj (c:=true) (g:=3)) fun w4 hb4 hc4 hf4 _=> ?_))|(go_at_call 13;(with_reducible refine mo0 (HM.out _) fun w5 hb5 hc5 hf5 _=> ?_))|(go_at_call 11;(with_reducible refine mo0 (HF.out _ _ _) fun w6 hb6 hc6 hf6 _=> ?_))|(go_at_call 14;(with_reducible refine mo0 (HN.out _) fun w7 hb7 hc7 hf7 _=> ?_)))
  go_ret
  exact ⟨rfl,bi⟩
 ·have q3:decide (mass < 0)=true:=by rw [decide_eq_true_iff];omega
  clear hE la lb hm hk h0
  go_enter Tryz.func3,Tryz.ntmps3
  go_wp2_with (first|(go_at_call 8;(with_reducible refine mo0 (HW.out _ bi) fun w1 hb1 hc1 hf1 _=> ?_))|(go_at_call 9;(with_reducible refine mo0 (HA.out _ bi) fun w2 hb2 hc2 hf2 _=> ?_))|(go_at_call 10;(with_reducible refine mo0 (HB.out _ bi) fun w3 hb3 hc3 hf3 _=> ?_))|(go_at_call 12;(with_reducible refine mo0 (jfj (c:=true) (g:=3)) fun w4 hb4 hc4 hf4 _=> ?_))|(go_at_call 13;(with_reducible refine mo0 (HM.out _) fun w5 hb5 hc5 hf5 _=> ?_))|(go_at_call 11;(with_reducible refine mo0 (HF.out _ _ _) fun w6 hb6 hc6 hf6 _=> ?_))|(go_at_call 14;(with_reducible refine mo0 (HN.out _) fun w7 hb7 hc7 hf7 _=> ?_)))
  go_ret
  exact ⟨rfl,bi⟩
theorem jjg (hE:Env w) (la:a.length≤40) (lb:b.length≤40) (h0:0≤mass) (h1:mass≤999999999) (hm:mst a≠0):Calls Tryz.prog 3 #[.int .i64 mass,bs a,bs b] w fun e w'=>e= .returned (.bool true)∧Below w.heap.size w w':=by
 have HW:Hid (∀W,Below w.heap.size w W→Calls Tryz.prog 8 #[] W fun e w'=>e= .returned (.bool true)∧Below W.heap.size W w'):=qh (fun W hb=>jas (hE.below hb))
 have q1:decide ((40:Int) < (a.length:Int))=false:=by rw [decide_eq_false_iff_not];omega
 have q2:decide ((40:Int) < (b.length:Int))=false:=by rw [decide_eq_false_iff_not];omega
 obtain ⟨k,hk⟩:∃k,mst a=k:=⟨_,rfl⟩
 have hk0:k≠0:=hk ▸ hm
 have HA:=qh (fun W (hb:Below w.heap.size w W)=>jiB (hE.below hb) h0 h1 (by omega) hk hk0)
 have HB:=qh (fun W (hb:Below w.heap.size w W)=>jhE (a:=a) (b:=b) (k:=k) (hE.below hb) h0 h1 (by omega) (by omega) (by rw [if_neg hm];exact hk) hk0)
 have HM:=qh (fun W=>jbN (w:=W) hk (by omega))
 have HF:=qh (fun W T c=>jcr W T c 0 k k (by by_cases e:k=0 <;> simp [fnz,e]))
 have HN:=qh (fun W=>jbn (w:=W) (b:=[]) hk0)
 have q3:decide (mass < 0)=false:=by rw [decide_eq_false_iff_not];omega
 have q4:decide (999999999 < mass)=false:=by rw [decide_eq_false_iff_not];omega
 have q5:(k != 0)=true:=by rw [bne_iff_ne];exact hk0
 clear hE la lb hm hk h0 h1 hk0
 go_enter Tryz.func3,Tryz.ntmps3
 go_wp2_with (first|(go_at_call 8;(with_reducible refine mo0 (HW.out _ bi) fun w1 hb1 hc1 hf1 _=> ?_))|(go_at_call 9;(with_reducible refine mo0 (HA.out _ bi) fun w2 hb2 hc2 hf2 _=> ?_))|(go_at_call 10;(with_reducible refine mo0 (HB.out _ bi) fun w3 hb3 hc3 hf3 _=> ?_))|(go_at_call 12;(with_reducible refine mo0 (jfj (c:=false) (g:=3)) fun w4 hb4 hc4 hf4 _=> ?_))|(go_at_call 13;(with_reducible refine mo0 (HM.out _) fun w5 hb5 hc5 hf5 _=> ?_))|(go_at_call 11;(with_reducible refine mo0 (HF.out _ _ _) fun w6 hb6 hc6 hf6 _=> ?_))|(go_at_call 14;(with_reducible refine mo0 (HN.out _) fun w7 hb7 hc7 hf7 _=> ?_)))
 go_ret
 exact ⟨rfl,bi⟩
theorem jmQ {x:Rat} (hE:Env w) (la:a.length≤40) (lb:b.length≤40) (h0:0≤mass) (h1:mass≤999999999) (hx:IsMoist a x) (hm:mst b≠0):Calls Tryz.prog 3 #[.int .i64 mass,bs a,bs b] w fun e w'=>e= .returned (.bool true)∧Below w.heap.size w w':=by
 obtain ⟨g,hg⟩:∃k,mst b=k:=⟨_,rfl⟩
 have hg0:g≠0:=hg ▸ hm
 have HB:=qh (fun W (hb:Below w.heap.size w W)=>jhE (a:=a) (b:=b) (k:=g) (hE.below hb) h0 h1 (by omega) (by omega) (by rw [if_pos hx.mst];exact hg) hg0)
 have HM2:=qh (fun W=>jbN (w:=W) hg (by omega))
 have HN2:=qh (fun W=>jbn (w:=W) (b:=[]) hg0)
 have q5:(g != 0)=true:=by rw [bne_iff_ne];exact hg0
 have HW:Hid (∀W,Below w.heap.size w W→Calls Tryz.prog 8 #[] W fun e w'=>e= .returned (.bool true)∧Below W.heap.size W w'):=qh (fun W hb=>jas (hE.below hb))
 have q1:decide ((40:Int) < (a.length:Int))=false:=by rw [decide_eq_false_iff_not];omega
 have q2:decide ((40:Int) < (b.length:Int))=false:=by rw [decide_eq_false_iff_not];omega
 have q3:decide (mass < 0)=false:=by rw [decide_eq_false_iff_not];omega
 have q4:decide (999999999 < mass)=false:=by rw [decide_eq_false_iff_not];omega
 have dx:=hx.num.dzl la (by omega)
 have dm:=jlU h0 h1
 obtain ⟨Q,hQ⟩:∃Q,(mass:Rat)*(100 - x) / 100=Q:=⟨_,rfl⟩
 have n100:(100:Rat)≠0:=by decide+kernel
 have dQ:Dz 100 Q:=hQ ▸ ((dm.mul (dzh.sub dx)).div dzh n100).mono (by decide)
 obtain ⟨gQ,eQ,iQ⟩:=jat dQ (by omega) (by omega)
 have HA:=qh (fun W (hb:Below w.heap.size w W)=>jeN (hE.below hb) hx h0 h1 hQ (dQ.strQ (by omega)) gQ eQ (by omega))
 obtain ⟨k,rfl⟩:∃k:Nat,mass=(k:Int):=⟨mass.toNat,by omega⟩
 have HM:=qh (fun W=>jbN (w:=W) hx.mst (by omega))
 have HF:=qh (fun W T c=>jcr W T c 0 0 0 rfl)
 have HFI:=qh (fun W=>jff (w:=W) (n:=k) (by omega))
 have HRM:=qh (fun W=>ji2 (w:=W) dx dm (by omega) (by omega) (by omega) (by omega))
 have HN:=qh (fun W=>jaE (w:=W) dQ (by omega) (by omega))
 rw [hQ,←hx.num.eq] at HRM
 obtain ⟨TQ,hTQ⟩:∃T,tq Q=T:=⟨_,rfl⟩
 obtain ⟨TM,hTM⟩:∃T,tq ((k:Int):Rat)=T:=⟨_,rfl⟩
 unfold QP at HFI HRM
 rw [hTQ] at HA HRM HN
 rw [hTM] at HFI HRM
 clear hE la lb h0 h1 hx hm hg hg0 dx dm hQ n100 dQ gQ eQ iQ hTQ hTM
 go_enter Tryz.func3,Tryz.ntmps3
 go_wp2_with (first|(go_at_call 8;(with_reducible refine mo0 (HW.out _ bi) fun w1 hb1 hc1 hf1 _=> ?_))|(go_at_call 9;(with_reducible refine mo0 (HA.out _ bi) fun w2 hb2 hc2 hf2 _=> ?_))|(go_at_call 10;(with_reducible refine mo0 (HB.out _ bi) fun w3 hb3 hc3 hf3 _=> ?_))|(go_at_call 12;(with_reducible refine mo0 (jfj (c:=false) (g:=3)) fun w4 hb4 hc4 hf4 _=> ?_))|(go_at_call 13;(with_reducible show Calls _ _ #[bs a] _ _);(with_reducible refine mo0 (HM.out _) fun w5 hb5 hc5 hf5 _=> ?_))|(go_at_call 11;(with_reducible refine mo0 (HF.out _ _ _) fun w6 hb6 hc6 hf6 _=> ?_))|(go_at_call 15;(with_reducible refine mo0 (HFI.out _) fun w8 hb8 hc8 hf8 _=> ?_))|(go_at_call 16;(with_reducible refine mo0 (HRM.out _) fun w9 hb9 hc9 hf9 _=> ?_))|(go_at_call 14;(with_reducible show Calls _ _ #[bs TQ,_,_,_] _ _);(with_reducible refine mo0 (HN.out _) fun w7 hb7 hc7 hf7 _=> ?_))|(go_at_call 13;(with_reducible show Calls _ _ #[bs b] _ _);(with_reducible refine mo0 (HM2.out _) fun w10 hb10 hc10 hf10 _=> ?_))|(go_at_call 14;(with_reducible refine mo0 (HN2.out _) fun w11 hb11 hc11 hf11 _=> ?_)))
 go_ret
 exact ⟨rfl,bi⟩
theorem jnN {x y:Rat} (hE:Env w) (la:a.length≤40) (lb:b.length≤40) (h0:0≤mass) (h1:mass≤999999999) (hx:IsMoist a x) (hy:IsMoist b y):Calls Tryz.prog 3 #[.int .i64 mass,bs a,bs b] w fun e w'=>e= .returned (.bool true)∧Below w.heap.size w w':=by
 have HW:Hid (∀W,Below w.heap.size w W→Calls Tryz.prog 8 #[] W fun e w'=>e= .returned (.bool true)∧Below W.heap.size W w'):=qh (fun W hb=>jas (hE.below hb))
 have q1:decide ((40:Int) < (a.length:Int))=false:=by rw [decide_eq_false_iff_not];omega
 have q2:decide ((40:Int) < (b.length:Int))=false:=by rw [decide_eq_false_iff_not];omega
 have q3:decide (mass < 0)=false:=by rw [decide_eq_false_iff_not];omega
 have q4:decide (999999999 < mass)=false:=by rw [decide_eq_false_iff_not];omega
 have dx:=hx.num.dzl la (by omega)
 have dm:=jlU h0 h1
 obtain ⟨Q,hQ⟩:∃Q,(mass:Rat)*(100 - x) / 100=Q:=⟨_,rfl⟩
 have n100:(100:Rat)≠0:=by decide+kernel
 have dQ:Dz 100 Q:=hQ ▸ ((dm.mul (dzh.sub dx)).div dzh n100).mono (by decide)
 obtain ⟨gQ,eQ,iQ⟩:=jat dQ (by omega) (by omega)
 have HA:=qh (fun W (hb:Below w.heap.size w W)=>jeN (hE.below hb) hx h0 h1 hQ (dQ.strQ (by omega)) gQ eQ (by omega))
 obtain ⟨k,rfl⟩:∃k:Nat,mass=(k:Int):=⟨mass.toNat,by omega⟩
 have HM:=qh (fun W=>jbN (w:=W) hx.mst (by omega))
 have HF:=qh (fun W T c=>jcr W T c 0 0 0 rfl)
 have HFI:=qh (fun W=>jff (w:=W) (n:=k) (by omega))
 have HRM:=qh (fun W=>ji2 (w:=W) dx dm (by omega) (by omega) (by omega) (by omega))
 have HN:=qh (fun W=>jaE (w:=W) dQ (by omega) (by omega))
 rw [hQ,←hx.num.eq] at HRM
 obtain ⟨TQ,hTQ⟩:∃T,tq Q=T:=⟨_,rfl⟩
 obtain ⟨TM,hTM⟩:∃T,tq ((k:Int):Rat)=T:=⟨_,rfl⟩
 unfold QP at HFI HRM
 have dy:=hy.num.dzl lb (by omega)
 have ny:=jqz hy.high
 obtain ⟨P,hP⟩:∃P,((k:Int):Rat)*(100 - x) / (100 - y)=P:=⟨_,rfl⟩
 have dP:Dz 100 P:=hP ▸ ((dm.mul (dzh.sub dx)).div (dzh.sub dy) ny).mono (by decide)
 obtain ⟨gP,eP,iP⟩:=jat dP (by omega) (by omega)
 have HB:=qh (fun W (hb:Below w.heap.size w W)=>jkg (hE.below hb) hx hy h0 h1 hP (dP.strQ (by omega)) gP eP (by omega) (by omega))
 have HM2:=qh (fun W=>jbN (w:=W) hy.mst (by omega))
 have HRW:=qh (fun W=>jtl (w:=W) dx dm dy (by omega) (by omega) (by omega) (by omega) (by omega) (by omega) ny)
 have HN2:=qh (fun W=>jaE (w:=W) dP (by omega) (by omega))
 unfold QP at HRW
 rw [hP,←hx.num.eq,←hy.num.eq] at HRW
 obtain ⟨TP,hTP⟩:∃T,tq P=T:=⟨_,rfl⟩
 rw [hTQ] at HA HRM HN
 rw [hTM] at HFI HRM HRW
 rw [hTP] at HB HRW HN2
 clear hE la lb h0 h1 hx hy dx dm dy ny hQ hP n100 dQ dP gQ eQ iQ gP eP iP hTQ hTM hTP
 go_enter Tryz.func3,Tryz.ntmps3
 go_wp2_with (first|(go_at_call 8;(with_reducible refine mo0 (HW.out _ bi) fun w1 hb1 hc1 hf1 _=> ?_))|(go_at_call 9;(with_reducible refine mo0 (HA.out _ bi) fun w2 hb2 hc2 hf2 _=> ?_))|(go_at_call 10;(with_reducible refine mo0 (HB.out _ bi) fun w3 hb3 hc3 hf3 _=> ?_))|(go_at_call 12;(with_reducible refine mo0 (jfj (c:=false) (g:=3)) fun w4 hb4 hc4 hf4 _=> ?_))|(go_at_call 13;(with_reducible show Calls _ _ #[bs a] _ _);(with_reducible refine mo0 (HM.out _) fun w5 hb5 hc5 hf5 _=> ?_))|(go_at_call 11;(with_reducible refine mo0 (HF.out _ _ _) fun w6 hb6 hc6 hf6 _=> ?_))|(go_at_call 15;(with_reducible refine mo0 (HFI.out _) fun w8 hb8 hc8 hf8 _=> ?_))|(go_at_call 16;(with_reducible refine mo0 (HRM.out _) fun w9 hb9 hc9 hf9 _=> ?_))|(go_at_call 14;(with_reducible show Calls _ _ #[bs TQ,_,_,_] _ _);(with_reducible refine mo0 (HN.out _) fun w7 hb7 hc7 hf7 _=> ?_))|(go_at_call 13;(with_reducible show Calls _ _ #[bs b] _ _);(with_reducible refine mo0 (HM2.out _) fun w10 hb10 hc10 hf10 _=> ?_))|(go_at_call 17;(with_reducible refine mo0 (HRW.out _) fun w11 hb11 hc11 hf11 _=> ?_))|(go_at_call 14;(with_reducible show Calls _ _ #[bs TP,_,_,_] _ _);(with_reducible refine mo0 (HN2.out _) fun w12 hb12 hc12 hf12 _=> ?_)))
 go_ret
 exact ⟨rfl,bi⟩
theorem jjv (hE:Env w):Calls Tryz.prog 3 #[.int .i64 mass,bs a,bs b] w fun e w'=>e= .returned (.bool true)∧Below w.heap.size w w':=by
 by_cases hl:a.length≤40∧b.length≤40
 ·by_cases hm:0≤mass∧mass≤999999999
  ·by_cases ha:mst a=0
   ·obtain ⟨x,hx⟩:=jqx ha
    by_cases hb:mst b=0
    ·obtain ⟨y,hy⟩:=jqx hb
     exact jnN hE hl.1 hl.2 hm.1 hm.2 hx hy
    ·exact jmQ hE hl.1 hl.2 hm.1 hm.2 hx hb
   ·exact jjg hE hl.1 hl.2 hm.1 hm.2 ha
  ·exact jig hE hl.1 hl.2 hm
 ·exact jiJ hE hl
end
end Go.Proofs.YtfoolepjkhgckaaGreatDoor
