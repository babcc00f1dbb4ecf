/- Parts. -/
import Derived.Test.YteokfcjdfjhhhaaGreatDoorMuG
set_option linter.all false
set_option maxRecDepth 100000
set_option maxHeartbeats 8000000
namespace Go.Proofs.YteokfcjdfjhhhaaGreatDoor
open Go Go.RowKit

structure SpIn (w:World) (A:Option Addr) (n:Nat) (ls:List (List UInt8×List UInt8)) (los his:List Rat):Prop where
 view:Pv w A n ls
 pos:0 < n
 le:n≤256
 len:∀p∈ls,p.1.length < 4294967281∧p.2.length < 4294967281
 ok:jab jbB ls=0
 lo:los.length=n
 hi:his.length=n
 num:∀j,j < n→IsNum (ls.getD j ([],[])).1 (los.getD j 0)∧IsNum (ls.getD j ([],[])).2 (his.getD j 0)∧Sz 2 (los.getD j 0)∧Sz 2 (his.getD j 0)
theorem SpIn.below {w w':World} {A:Option Addr} {n:Nat} {ls:List (List UInt8×List UInt8)} {los his:List Rat} (h:SpIn w A n ls los his) (hb:Below w.heap.size w w'):SpIn w' A n ls los his:=
 ⟨h.view.below hb,h.pos,h.le,h.len,h.ok,h.lo,h.hi,h.num⟩
theorem jj2 {w:World} {A:Option Addr} {n c:Nat} {ls:List (List UInt8×List UInt8)} {los his:List Rat} (hE:Env w) (h:SpIn w A n ls los his):
  Calls Tryz.prog 71 #[.slice A n c] w fun e w'=>∃A1 c1 A2 c2,e= .returned (.tuple #[.slice A1 n c1, .slice A2 n c2, .int .i64 0])∧Qv w' A1 n los∧Qv w' A2 n his∧Below w.heap.size w w':=
 joK hE h.view h.pos h.le h.len h.ok h.lo h.hi (fun j hj=>⟨(h.num j hj).1,(h.num j hj).2.1⟩)

def jmZ (los his:List Rat) (i k:Nat):Bool:=decide (Rq.cmpQ (his.getD i 0) (los.getD k 0) < 0) || decide (Rq.cmpQ (his.getD k 0) (los.getD i 0) < 0)
def jn2 (p:Nat→Bool):Nat→Nat→Option Nat
 | 0,_=>none
 | m+1,k=>if p k then some k else jn2 p m (k+1)
def jmX (p:Nat→Nat→Bool) (n:Nat):Nat→Nat→Option (Nat×Nat)
 | 0,_=>none
 | m+1,i=>match jn2 (p i) (n - (i+1)) (i+1) with
   | some k=>some (i,k)
   | none=>jmX p n m (i+1)
theorem jg7 {n k:Nat} (h:k < n):n - k=(n - (k+1))+1:=by omega
theorem jnG {p:Nat→Bool} {n k:Nat} (h:k < n) (hp:p k=true):jn2 p (n - k) k=some k:=by rw [jg7 h,jn2,if_pos hp]
theorem jmp {p:Nat→Bool} {n k:Nat} (h:k < n) (hp:p k=false):jn2 p (n - k) k=jn2 p (n - (k+1)) (k+1):=by rw [jg7 h,jn2,if_neg (by simp [hp])]
theorem jnP {p:Nat→Bool} {n:Nat}:jn2 p (n - n) n=none:=by rw [Nat.sub_self,jn2]
def atF (p:Nat→Nat→Bool) (n i k:Nat):Option (Nat×Nat):=match jn2 (p i) (n - k) k with
 | some k'=>some (i,k')
 | none=>jmX p n (n - (i+1)) (i+1)
theorem jpI {p:Nat→Nat→Bool} {n i:Nat} (h:i < n):jmX p n (n - i) i=atF p n i (i+1):=by rw [jg7 h,jmX,atF]
theorem jnn {p:Nat→Nat→Bool} {n:Nat}:jmX p n (n - n) n=none:=by rw [Nat.sub_self,jmX]
theorem jln {p:Nat→Nat→Bool} {n i k:Nat} (h:k < n) (hp:p i k=true):atF p n i k=some (i,k):=by rw [atF,jnG h hp]
theorem jnR {p:Nat→Nat→Bool} {n i k:Nat} (h:k < n) (hp:p i k=false):atF p n i k=atF p n i (k+1):=by rw [atF,jmp h hp,atF]
theorem jpU {p:Nat→Nat→Bool} {n i:Nat}:atF p n i n=jmX p n (n - (i+1)) (i+1):=by rw [atF,jnP]
def clI (r:Option (Nat×Nat)):Int:=match r with|some (i,_)=>i|none=>0
def clK (r:Option (Nat×Nat)):Int:=match r with|some (_,k)=>k|none=>0
def clE (r:Option (Nat×Nat)):Int:=match r with|some _=>0|none=>7
section
variable {w:World} {A:Option Addr} {n c:Nat} {ls:List (List UInt8×List UInt8)} {los his:List Rat}
theorem joB {R:Option (Nat×Nat)} (hE:Env w) (h:SpIn w A n ls los his) (hR:jmX (jmZ los his) n n 0=R):
  Calls Tryz.prog 21 #[.slice A n c] w fun e w'=>e= .returned (.tuple #[.int .i64 (clI R), .int .i64 (clK R), .int .i64 (clE R)])∧Below w.heap.size w w':=by
 have HE:=qh hE;have HS:=qh h;have HN:=qh h.le;have HR:=qh hR;have HSL:Hid (∀j,j < n→Sz 2 (los.getD j 0)):=qh (fun j hj=>(h.num j hj).2.2.1);have HSH:Hid (∀j,j < n→Sz 2 (his.getD j 0)):=qh (fun j hj=>(h.num j hj).2.2.2);clear hE h hR;go_enter Tryz.func21,Tryz.ntmps21;go_wp2
 go_step3
 go_wp2_with (go_at_call 71;((with_reducible refine (jj2 HE.out HS.out).mono ?_);rintro e1 w1 ⟨A1,c1,A2,c2,rfl,hv1,hv2,hb1⟩;have _:=bm hb1))
 have HV1:=qh hv1;have HV2:=qh hv2;clear hv1 hv2
 go_step3
 go_wp2
 go_loopw [8,9,23] (fun u8 u9 u wr=>∃(i:Nat),u8= .int .i64 (-1)∧u9= .int .i64 (-1)∧u= .int .i64 (i:Int)∧i≤n∧Below w1.heap.size w1 wr∧jmX (jmZ los his) n (n - i) i=R) (fun _ _ u _=>n - (intOf u).toNat)
 case atStart=>exact ⟨0,rfl,rfl,rfl,Nat.zero_le _,Below.refl _ _,HR.out⟩
 case round=>
  obtain ⟨i,rfl,rfl,rfl,hin,hb,hc⟩:=hrel;have _:=bm hb;have HC:=qh hc;clear hc;by_cases hi:i < n
  ·have p0:decide (i < n)=true:=by simpa using hi
   have hnn:=HN.out;have HI:=qh hi;clear hi;go_wp2
   go_loopw [8,9,11] (fun u8 u9 u wr2=>∃(k:Nat),u8= .int .i64 (-1)∧u9= .int .i64 (-1)∧u= .int .i64 (k:Int)∧k≤n∧Below w1.heap.size w1 wr2∧atF (jmZ los his) n i k=R) (fun _ _ u _=>n - (intOf u).toNat)
   case atStart=>exact ⟨i+1,rfl,rfl,by simp,HI.out,hb,by rw [←jpI HI.out];exact HC.out⟩
   case round=>
    obtain ⟨k,rfl,rfl,rfl,hkn,hb2,hc2⟩:=hrel;have _:=bm hb2;have HC2:=qh hc2;clear hc2 hb;by_cases hk:k < n
    ·have p1:decide ((k:Int) < (n:Int))=true:=by simp;exact hk
     have hii:=HI.out;obtain ⟨b1,o1,rfl,hbl1,hat1⟩:=(HV1.out.below hb2).at_ (by omega);obtain ⟨b2,o2,rfl,hbl2,hat2⟩:=(HV2.out.below hb2).at_ (by omega);obtain ⟨sa,Aa,na,ca,ta,Ba,ma,da,ka0,ka1,ka2,ka3,kra⟩:=(hat2 i HI.out).at_;obtain ⟨se,Ae,ne,ce,te,Be,me,de,ke0,ke1,ke2,ke3,kre⟩:=(hat1 k hk).at_;obtain ⟨sf,Af,nf,cf,tf,Bf,mf,df,kf0,kf1,kf2,kf3,krf⟩:=(hat2 k hk).at_;obtain ⟨sg,Ag,ng,cg,tg,Bg,mg,dg,kg0,kg1,kg2,kg3,krg⟩:=(hat1 i HI.out).at_;have RA:=qh kra;have RE:=qh kre;have RF:=qh krf;have RG:=qh krg;have SA:=qh (HSH.out i HI.out);have SE:=qh (HSL.out k hk);have SF:=qh (HSH.out k hk);have SG:=qh (HSL.out i HI.out);have HK:=qh hk;obtain ⟨z1,hz1⟩:∃z,Rq.cmpQ (his.getD i 0) (los.getD k 0)=z:=⟨_,rfl⟩;obtain ⟨z2,hz2⟩:∃z,Rq.cmpQ (his.getD k 0) (los.getD i 0)=z:=⟨_,rfl⟩;have HZ1:=qh hz1;have HZ2:=qh hz2;have HBQ:Hid (jmZ los his i k=(decide (z1 < 0) || decide (z2 < 0))):=qh (by rw [jmZ,hz1,hz2]);clear hat1 hat2 kra kre krf krg hz1 hz2 hk;by_cases h1:z1 < 0
     ·have q1:decide (z1 < 0)=true:=by simpa using h1
      have HH:=qh (jln HK.out (p:=jmZ los his) (i:=i) (by rw [HBQ.out,q1,Bool.true_or]));clear h1;go_upto_region 11 with (fail)
      refine ja3 (fun w'=>Below wr.heap.size wr w') [] (by kernel_rfl) ?_;refine tb 0 (.slice (some ⟨b2,o2,none⟩) n c2) [] rfl (by kernel_rfl) pk rfl (by intros;go_simp) bq0 ?_;simp only [ppq];refine tb 1 (.int .i64 (i:Int)) [] rfl (by kernel_rfl) pk rfl (by intros;go_simp) bq0 ?_;simp only [ppq];refine tb 2 (.pointer (some ⟨b2,o2+i*4,none⟩)) [] rfl (by kernel_rfl) pk rfl (by intros;go_simp) bq0 ?_;simp only [ppq];refine tb 3 (fv sa Aa na ca ta Ba ma da) [] rfl (by kernel_rfl) pk rfl (by intros;go_simp) bq0 ?_;simp only [ppq];refine tb 4 (.slice (some ⟨b1,o1,none⟩) n c1) [] rfl (by kernel_rfl) pk rfl (by intros;go_simp) bq0 ?_;simp only [ppq];refine tb 5 (.int .i64 (k:Int)) [] rfl (by kernel_rfl) pk rfl (by intros;go_simp) bq0 ?_;simp only [ppq];refine tb 6 (.pointer (some ⟨b1,o1+k*4,none⟩)) [] rfl (by kernel_rfl) pk rfl (by intros;go_simp) bq0 ?_;simp only [ppq];refine tb 7 (fv se Ae ne ce te Be me de) [] rfl (by kernel_rfl) pk rfl (by intros;go_simp) bq0 ?_;simp only [ppq];refine rd1 8 (by kernel_rfl) rfl (fun K hK=> ?_);go_simp;go_wp2_with (go_at_call 72;(with_reducible refine mo0 (jaV 2 2 HZ1.out (RA.out.below bi) (RE.out.below bi) SA.out SE.out (by omega)) fun w3 hb3 hc3 hf3 _=> ?_))
      have sS3:=qh (bst bq0 hb3);refine hK.out _ _ (fun _=>sS3.out) ?_;clear hK K;refine rd1 9 (by kernel_rfl) rfl (fun K hK=> ?_);go_simp;refine hK.out _ _ (fun _=>bi) ?_;clear hK K;refine rd1 10 (by kernel_rfl) rfl (fun K hK=> ?_);go_simp;refine hK.out _ _ (fun _=>bi) ?_;clear hK K;refine ts 11 [] rfl (by kernel_rfl) pk (by rfl) sS3.out ?_;simp only [ppq];refine ts 12 [] rfl (by kernel_rfl) pk (by rfl) sS3.out ?_;simp only [ppq];refine ts 13 [] rfl (by kernel_rfl) pk (by rfl) sS3.out ?_;simp only [ppq];refine ts 14 [] rfl (by kernel_rfl) pk (by rfl) sS3.out ?_;simp only [ppq];refine ts 15 [] rfl (by kernel_rfl) pk (by rfl) sS3.out ?_;simp only [ppq];refine ts 16 [] rfl (by kernel_rfl) pk (by rfl) sS3.out ?_;simp only [ppq];refine ts 17 [] rfl (by kernel_rfl) pk (by rfl) sS3.out ?_;simp only [ppq];refine ts 18 [] rfl (by kernel_rfl) pk (by rfl) sS3.out ?_;simp only [ppq];refine ts 19 [] rfl (by kernel_rfl) pk (by rfl) sS3.out ?_;simp only [ppq];refine ts 20 [] rfl (by kernel_rfl) pk (by rfl) sS3.out ?_;simp only [ppq];refine rd1 21 (by kernel_rfl) rfl (fun K hK=> ?_);go_simp;refine hK.out _ _ (fun _=>bi) ?_;clear hK K;refine ja2 (by kernel_rfl) ?_ _;go_wp2;have hR:=HC2.out;rw [HH.out] at hR;subst hR;rw [Exit.noGoto_ret];go_ret3;exact ⟨rfl,bi⟩
     ·have q1:decide (z1 < 0)=false:=by simpa using h1
      clear h1;by_cases h2:z2 < 0
      ·have q2:decide (z2 < 0)=true:=by simpa using h2
       have HH:=qh (jln HK.out (p:=jmZ los his) (i:=i) (by rw [HBQ.out,q2,Bool.or_true]));clear h2;go_upto_region 11 with (fail)
       refine ja3 (fun w'=>Below wr.heap.size wr w') [] (by kernel_rfl) ?_;refine tb 0 (.slice (some ⟨b2,o2,none⟩) n c2) [] rfl (by kernel_rfl) pk rfl (by intros;go_simp) bq0 ?_;simp only [ppq];refine tb 1 (.int .i64 (i:Int)) [] rfl (by kernel_rfl) pk rfl (by intros;go_simp) bq0 ?_;simp only [ppq];refine tb 2 (.pointer (some ⟨b2,o2+i*4,none⟩)) [] rfl (by kernel_rfl) pk rfl (by intros;go_simp) bq0 ?_;simp only [ppq];refine tb 3 (fv sa Aa na ca ta Ba ma da) [] rfl (by kernel_rfl) pk rfl (by intros;go_simp) bq0 ?_;simp only [ppq];refine tb 4 (.slice (some ⟨b1,o1,none⟩) n c1) [] rfl (by kernel_rfl) pk rfl (by intros;go_simp) bq0 ?_;simp only [ppq];refine tb 5 (.int .i64 (k:Int)) [] rfl (by kernel_rfl) pk rfl (by intros;go_simp) bq0 ?_;simp only [ppq];refine tb 6 (.pointer (some ⟨b1,o1+k*4,none⟩)) [] rfl (by kernel_rfl) pk rfl (by intros;go_simp) bq0 ?_;simp only [ppq];refine tb 7 (fv se Ae ne ce te Be me de) [] rfl (by kernel_rfl) pk rfl (by intros;go_simp) bq0 ?_;simp only [ppq];refine rd1 8 (by kernel_rfl) rfl (fun K hK=> ?_);go_simp;go_wp2_with (go_at_call 72;(with_reducible refine mo0 (jaV 2 2 HZ1.out (RA.out.below bi) (RE.out.below bi) SA.out SE.out (by omega)) fun w3 hb3 hc3 hf3 _=> ?_))
       have sS3:=qh (bst bq0 hb3);refine hK.out _ _ (fun _=>sS3.out) ?_;clear hK K;refine rd1 9 (by kernel_rfl) rfl (fun K hK=> ?_);go_simp;refine hK.out _ _ (fun _=>bi) ?_;clear hK K;refine rd1 10 (by kernel_rfl) rfl (fun K hK=> ?_);go_simp;refine hK.out _ _ (fun _=>bi) ?_;clear hK K;refine tb 11 (.slice (some ⟨b2,o2,none⟩) n c2) [] rfl (by kernel_rfl) pk rfl (by intros;go_simp) sS3.out ?_;simp only [ppq];refine tb 12 (.int .i64 (k:Int)) [] rfl (by kernel_rfl) pk rfl (by intros;go_simp) sS3.out ?_;simp only [ppq];refine tb 13 (.pointer (some ⟨b2,o2+k*4,none⟩)) [] rfl (by kernel_rfl) pk rfl (by intros;go_simp) sS3.out ?_;simp only [ppq];refine tb 14 (fv sf Af nf cf tf Bf mf df) [] rfl (by kernel_rfl) pk rfl (by intros;go_simp) sS3.out ?_;simp only [ppq];refine tb 15 (.slice (some ⟨b1,o1,none⟩) n c1) [] rfl (by kernel_rfl) pk rfl (by intros;go_simp) sS3.out ?_;simp only [ppq];refine tb 16 (.int .i64 (i:Int)) [] rfl (by kernel_rfl) pk rfl (by intros;go_simp) sS3.out ?_;simp only [ppq];refine tb 17 (.pointer (some ⟨b1,o1+i*4,none⟩)) [] rfl (by kernel_rfl) pk rfl (by intros;go_simp) sS3.out ?_;simp only [ppq];refine tb 18 (fv sg Ag ng cg tg Bg mg dg) [] rfl (by kernel_rfl) pk rfl (by intros;go_simp) sS3.out ?_;simp only [ppq];refine rd1 19 (by kernel_rfl) rfl (fun K hK=> ?_);go_simp;go_wp2_with (go_at_call 72;(with_reducible refine mo0 (jaV 2 2 HZ2.out (RF.out.below bi) (RG.out.below bi) SF.out SG.out (by omega)) fun w4 hb4 hc4 hf4 _=> ?_))
       have sS4:=qh (bst sS3.out hb4);refine hK.out _ _ (fun _=>sS4.out) ?_;clear hK K;refine rd1 20 (by kernel_rfl) rfl (fun K hK=> ?_);go_simp;refine hK.out _ _ (fun _=>bi) ?_;clear hK K;refine rd1 21 (by kernel_rfl) rfl (fun K hK=> ?_);go_simp;refine hK.out _ _ (fun _=>bi) ?_;clear hK K;refine ja2 (by kernel_rfl) ?_ _;go_wp2;have hR:=HC2.out;rw [HH.out] at hR;subst hR;rw [Exit.noGoto_ret];go_ret3;exact ⟨rfl,bi⟩
      ·have q2:decide (z2 < 0)=false:=by simpa using h2
       have HM:=qh (jnR HK.out (p:=jmZ los his) (i:=i) (by rw [HBQ.out,q1,q2];rfl));clear h2;go_upto_region 11 with (fail)
       refine ja3 (fun w'=>Below wr.heap.size wr w') [] (by kernel_rfl) ?_;refine tb 0 (.slice (some ⟨b2,o2,none⟩) n c2) [] rfl (by kernel_rfl) pk rfl (by intros;go_simp) bq0 ?_;simp only [ppq];refine tb 1 (.int .i64 (i:Int)) [] rfl (by kernel_rfl) pk rfl (by intros;go_simp) bq0 ?_;simp only [ppq];refine tb 2 (.pointer (some ⟨b2,o2+i*4,none⟩)) [] rfl (by kernel_rfl) pk rfl (by intros;go_simp) bq0 ?_;simp only [ppq];refine tb 3 (fv sa Aa na ca ta Ba ma da) [] rfl (by kernel_rfl) pk rfl (by intros;go_simp) bq0 ?_;simp only [ppq];refine tb 4 (.slice (some ⟨b1,o1,none⟩) n c1) [] rfl (by kernel_rfl) pk rfl (by intros;go_simp) bq0 ?_;simp only [ppq];refine tb 5 (.int .i64 (k:Int)) [] rfl (by kernel_rfl) pk rfl (by intros;go_simp) bq0 ?_;simp only [ppq];refine tb 6 (.pointer (some ⟨b1,o1+k*4,none⟩)) [] rfl (by kernel_rfl) pk rfl (by intros;go_simp) bq0 ?_;simp only [ppq];refine tb 7 (fv se Ae ne ce te Be me de) [] rfl (by kernel_rfl) pk rfl (by intros;go_simp) bq0 ?_;simp only [ppq];refine rd1 8 (by kernel_rfl) rfl (fun K hK=> ?_);go_simp;go_wp2_with (go_at_call 72;(with_reducible refine mo0 (jaV 2 2 HZ1.out (RA.out.below bi) (RE.out.below bi) SA.out SE.out (by omega)) fun w3 hb3 hc3 hf3 _=> ?_))
       have sS3:=qh (bst bq0 hb3);refine hK.out _ _ (fun _=>sS3.out) ?_;clear hK K;refine rd1 9 (by kernel_rfl) rfl (fun K hK=> ?_);go_simp;refine hK.out _ _ (fun _=>bi) ?_;clear hK K;refine rd1 10 (by kernel_rfl) rfl (fun K hK=> ?_);go_simp;refine hK.out _ _ (fun _=>bi) ?_;clear hK K;refine tb 11 (.slice (some ⟨b2,o2,none⟩) n c2) [] rfl (by kernel_rfl) pk rfl (by intros;go_simp) sS3.out ?_;simp only [ppq];refine tb 12 (.int .i64 (k:Int)) [] rfl (by kernel_rfl) pk rfl (by intros;go_simp) sS3.out ?_;simp only [ppq];refine tb 13 (.pointer (some ⟨b2,o2+k*4,none⟩)) [] rfl (by kernel_rfl) pk rfl (by intros;go_simp) sS3.out ?_;simp only [ppq];refine tb 14 (fv sf Af nf cf tf Bf mf df) [] rfl (by kernel_rfl) pk rfl (by intros;go_simp) sS3.out ?_;simp only [ppq];refine tb 15 (.slice (some ⟨b1,o1,none⟩) n c1) [] rfl (by kernel_rfl) pk rfl (by intros;go_simp) sS3.out ?_;simp only [ppq];refine tb 16 (.int .i64 (i:Int)) [] rfl (by kernel_rfl) pk rfl (by intros;go_simp) sS3.out ?_;simp only [ppq];refine tb 17 (.pointer (some ⟨b1,o1+i*4,none⟩)) [] rfl (by kernel_rfl) pk rfl (by intros;go_simp) sS3.out ?_;simp only [ppq];refine tb 18 (fv sg Ag ng cg tg Bg mg dg) [] rfl (by kernel_rfl) pk rfl (by intros;go_simp) sS3.out ?_;simp only [ppq];refine rd1 19 (by kernel_rfl) rfl (fun K hK=> ?_);go_simp;go_wp2_with (go_at_call 72;(with_reducible refine mo0 (jaV 2 2 HZ2.out (RF.out.below bi) (RG.out.below bi) SF.out SG.out (by omega)) fun w4 hb4 hc4 hf4 _=> ?_))
       have sS4:=qh (bst sS3.out hb4);refine hK.out _ _ (fun _=>sS4.out) ?_;clear hK K;refine rd1 20 (by kernel_rfl) rfl (fun K hK=> ?_);go_simp;refine hK.out _ _ (fun _=>bi) ?_;clear hK K;refine rd1 21 (by kernel_rfl) rfl (fun K hK=> ?_);go_simp;refine hK.out _ _ (fun _=>bi) ?_;clear hK K;refine ja2 (by kernel_rfl) ?_ _;go_wp2;exact ⟨⟨k+1,rfl,rfl,by simp,HK.out,bi,by rw [←HM.out];exact HC2.out⟩,by have:=HK.out;simp [intOf];omega⟩
    ·have p1:decide (k < n)=false:=by simp;omega
     have e:k=n:=by omega
     subst e;have HE2:Hid (jmX (jmZ los his) k (k - (i+1)) (i+1)=R):=qh (by rw [←jpU];exact HC2.out);clear hk hkn HC2;go_wp2
     go_roundw
     case rel=>exact ⟨i+1,rfl,rfl,by simp,HI.out,bi,HE2.out⟩
     case measure=>have:=HI.out;simp [intOf];omega
  ·have p0:decide (i < n)=false:=by simp;omega
   have e:i=n:=by omega
   subst e;have hR:=HC.out;rw [jnn] at hR;subst hR;clear hi hin HC HR;go_wp2;rw [Exit.noGoto_ret];go_ret3;exact ⟨rfl,bi⟩
end
end Go.Proofs.YteokfcjdfjhhhaaGreatDoor
