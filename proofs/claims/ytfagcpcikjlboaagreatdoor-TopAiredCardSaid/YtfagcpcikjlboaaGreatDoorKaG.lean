/- Parts. -/
import Derived.Test.YtfagcpcikjlboaaGreatDoorQaG
set_option linter.all false
set_option maxRecDepth 100000
set_option maxHeartbeats 8000000
namespace Go.Proofs.YtfagcpcikjlboaaGreatDoor
open Go Go.RowKit Go.Proofs.Tryz

def jvl (x L:Nat) (w:World) (e:Ending) (w':World):Prop:=∃A n c ds,e= .returned (.slice A n c)∧Dv w' A n ds∧n≤c∧c < 9223372036854775808∧Pos.nv B9 ds=x∧n≤L∧Below w.heap.size w w'
theorem jgt (ds:List Nat) (i:Nat):Pos.nv B9 (ds.take (i+1))=Pos.nv B9 (ds.take i)+B9^i*dg ds i:=by
 rcases Nat.lt_or_ge i ds.length with h|h
 ·rw [Pos.nv_take_succ h,gd h]
 ·rw [List.take_of_length_le (by omega),List.take_of_length_le h];simp [dg,List.getD_eq_getElem?_getD,List.getElem?_eq_none h]
theorem jpr {o a b P x y k s q:Nat} (h:o+P*k=a+b) (e:s+B9*q=x+y+k):o+P*s+P*B9*q=(a+P*x)+(b+P*y):=by
 have:P*s+P*B9*q=P*(x+y+k):=by rw [←e,Nat.mul_add,Nat.mul_assoc]
 rw [Nat.mul_add,Nat.mul_add] at this;omega
theorem jsL {x y k:Nat} (hx:x < 1000000000) (hy:y < 1000000000) (hk:k≤1):wrap64 ((x:Int)+(y:Int))=(x:Int)+(y:Int)∧wrap64 ((x:Int)+(y:Int)+(k:Int))=(x:Int)+(y:Int)+(k:Int)∧
  ∃s q:Nat,((x:Int)+(y:Int)+(k:Int)).tmod 1000000000=(s:Int)∧((x:Int)+(y:Int)+(k:Int)).tdiv 1000000000=(q:Int)∧((x:Int)+(y:Int)+(k:Int)) % 1000000000=(s:Int)∧((x:Int)+(y:Int)+(k:Int)) / 1000000000=(q:Int)∧wrap64 (q:Int)=q∧s < B9∧q≤1∧(x=0→y=0→q=0)∧s+B9*q=x+y+k:=by
 refine ⟨by unfold wrap64;omega,by unfold wrap64;omega,(x+y+k) % 1000000000,(x+y+k) / 1000000000, ?_, ?_,by omega,by omega, ?_, ?_, ?_, ?_, ?_⟩
 ·rw [show (x:Int)+(y:Int)+(k:Int)=((x+y+k:Nat):Int) by omega];rfl
 ·rw [show (x:Int)+(y:Int)+(k:Int)=((x+y+k:Nat):Int) by omega];rfl
 ·unfold wrap64;omega
 ·rw [jaq];omega
 ·omega
 ·omega
 ·rw [jaq];omega
theorem jjf {ds:List Nat} {i:Nat} (h:ds.length≤i):dg ds i=0:=by simp [dg,List.getD_eq_getElem?_getD,List.getElem?_eq_none h]
theorem jpR {i M k:Nat} (h:i≤M) (hq:i=M→k=0):i+1≤M∨i+1=M+1∧k=0:=by
 rcases Nat.lt_or_ge i M with e|e
 ·exact .inl e
 ·exact .inr ⟨by omega,hq (by omega)⟩
section
variable {w:World} {A A':Option Addr} {n m c c':Nat} {ds es:List Nat}
theorem jvM (h:Dv w A n ds) (h':Dv w A' m es) (hn:n≤20000) (hm:m≤20000):Calls prog 86 #[.slice A n c, .slice A' m c'] w (jvl (Pos.nv B9 ds+Pos.nv B9 es) (max n m+1) w):=by
 obtain ⟨M,hM⟩:∃M,max n m=M:=⟨_,rfl⟩;obtain ⟨x,hx⟩:∃x,Pos.nv B9 ds+Pos.nv B9 es=x:=⟨_,rfl⟩;rw [hM,hx];have H:=qh h;have H':=qh h';have HM:=qh (ai (show n≤M by omega) (ai (show m≤M by omega) (ai (show M≤20000 by omega) hx)));clear h h' hn hm hM hx;go_enter func86,ntmps86;go_wp2
 go_loopw [5,6,7] (fun v u t wr=>∃(k i:Nat) (os:List Nat),u= .int .i64 (k:Int)∧t= .int .i64 (i:Int)∧k≤1∧(i≤M∨i=M+1∧k=0)∧os.length=i∧Below w.heap.size w wr∧jbW wr w.heap.size v os.length (iz os)∧Pos.Dig B9 os∧Pos.nv B9 os+B9^i*k=Pos.nv B9 (ds.take i)+Pos.nv B9 (es.take i)) (fun _ _ t _=>M+1 - (intOf t).toNat)
 case atStart=>exact ⟨0,0,[],rfl,rfl,by omega,by omega,rfl,bi,World.ownsRow_nil _ _ _ _,Pos.Dig.nil,by simp [Pos.nv]⟩
 case round=>
  obtain ⟨k,i,os,rfl,rfl,hk,hi,hol,hb,how,hdg,hv⟩:=hrel;have _:=bm hb;by_cases hc:i < n∨i < m∨0 < k
  ·have hcases:decide (i < n)=true∨(decide (i < n)=false∧decide (i < m)=true)∨(decide (i < n)=false∧decide (i < m)=false∧decide ((0:Int) < (k:Int))=true∧decide (0 < k)=true):=by
    simp only [decide_eq_true_iff,decide_eq_false_iff_not];omega
   have hiM:i≤M:=by have:=HM.o;omega
   have hi2:i≤20000:=by have:=HM.o;omega
   have hxl:=jci H.o.dig i;have hyl:=jci H'.o.dig i;have HX:=qh (fun W (hW:Below w.heap.size w W)=>jlY (w:=W) (c:=c) (i:=i) (H.o.below hW) (by omega));have HY:=qh (fun W (hW:Below w.heap.size w W)=>jlY (w:=W) (c:=c') (i:=i) (H'.o.below hW) (by omega));have tx:=jgt ds i;have ty:=jgt es i;obtain ⟨x1,e1⟩:∃x,dg ds i=x:=⟨_,rfl⟩;obtain ⟨y1,e2⟩:∃x,dg es i=x:=⟨_,rfl⟩;rw [e1] at hxl HX tx;rw [e2] at hyl HY ty;have hz:i=M→x1=0∧y1=0:=fun e=>⟨by rw [←e1];exact jjf (by rw [H.o.len];have:=HM.o.1;omega),by rw [←e2];exact jjf (by rw [H'.o.len];have:=HM.o.2.1;omega)⟩
   obtain ⟨m1,m2,s,q,m3,m4,m3',m4',m5,hs,hq,hq1,hsq⟩:=jsL hxl hyl hk;have hq0:i=M→q=0:=fun e=>hq1 (hz e).1 (hz e).2
   have hst:=jpr (P:=B9^i) hv hsq;have m6:=jc3 (i:=i) (by omega);have HST:=qh (ai (show Pos.nv B9 (os++[s])+B9^(i+1)*q=Pos.nv B9 (ds.take (i+1))+Pos.nv B9 (es.take (i+1)) by rw [Pos.nv_snoc,hol,tx,ty,Nat.pow_succ];exact hst) (ai (hdg.snoc hs) (ai hq (ai hq0 (ai hiM hol)))));have HOW:=qh how;clear hc hv hdg hol how hxl hyl tx ty e1 e2 hs hq hq0 hq1 hz hsq hst hi;rcases hcases with p0|⟨p0,p1⟩|⟨p0,p1,p2,p3⟩
   all_goals
    go_upto_region 5 with (first|(go_at_call 134;(with_reducible show Calls _ _ #[.slice A n c,_] _ _);(with_reducible refine mo0 (HX.o _ bi) fun w1 hb1 hc1 hf1 _=> ?_))|(go_at_call 134;(with_reducible show Calls _ _ #[.slice A' m c',_] _ _);(with_reducible refine mo0 (HY.o _ bi) fun w2 hb2 hc2 hf2 _=> ?_))|(at_builtin;refine jac (v:=u5) (x:=(s:Int)) rfl _ _ rfl rfl rfl rfl (HOW.o.below bi) (jaY os) (by have:=HST.o.2.2.2.2.2;clear m3 m4 m3' m4';omega) (by have:=hb.size;have:=hb1.size;have:=hb2.size;clear m3 m4 m3' m4';simp;omega) (by simp) ?_;intro g5 c5 w5 ho5 hc5 hg5;clear hc5))
    clear m3 m4 m3' m4';go_wp2;exact ⟨⟨q,i+1,os++[s],by rw [m5],by simp,HST.o.2.2.1,jpR HST.o.2.2.2.2.1 HST.o.2.2.2.1,by rw [List.length_append,List.length_singleton,HST.o.2.2.2.2.2],(ja5 (ja0 (ja0 hb hb1) hb2) _).trans (jab (base:=w.heap.size) hg5 (by have:=hb.size;have:=hb1.size;have:=hb2.size;simp;omega) HOW.o.ge),by rw [List.length_append,List.length_singleton,←jbn];exact ho5,HST.o.2.1,HST.o.1⟩,by have:=HST.o.2.2.2.2.1;simp [intOf];omega⟩
  ·have p0:decide (i < n)=false:=by rw [decide_eq_false_iff_not];omega
   have p1:decide (i < m)=false:=by rw [decide_eq_false_iff_not];omega
   obtain rfl:k=0:=by omega
   have hv2:Pos.nv B9 os=x:=by
    rw [List.take_of_length_le (by rw [H.o.len];omega),List.take_of_length_le (by rw [H'.o.len];omega),HM.o.2.2.2] at hv;omega
   have hoL:os.length≤M+1:=by omega
   obtain ⟨A5,c5,rfl,hd5,h51,h52⟩:=jbW.dv how rfl hdg (by have:=HM.o;omega);have HD:=qh (ai hd5 (ai h51 (ai h52 (ai hv2 hoL))));clear hc hv hdg how hv2 hoL hd5 h51 h52 hol hi;go_wp2;go_ret;exact ⟨A5,_,c5,os,rfl,HD.o.1,HD.o.2.1,HD.o.2.2.1,HD.o.2.2.2.1,HD.o.2.2.2.2,bi⟩
end

def js6 (x L:Nat) (w:World) (e:Ending) (w':World):Prop:=∃A n c ds,e= .returned (.slice A n c)∧Dv w' A n ds∧n≤c∧c < 9223372036854775808∧Pos.Trim ds∧Pos.nv B9 ds=x∧n≤L∧Below w.heap.size w w'
theorem jhD {o a b P x y k s q:Nat} (h:o+b=a+P*k) (e:s+y+k=x+B9*q):o+P*s+(b+P*y)=(a+P*x)+P*B9*q:=by
 have:P*(s+y+k)=P*(x+B9*q):=by rw [e]
 rw [Nat.mul_add,Nat.mul_add,Nat.mul_add,←Nat.mul_assoc] at this;omega
theorem jsA {x y k:Nat} {z:Int} (hx:x < 1000000000) (hy:y < 1000000000) (hk:k≤1) (hz:(x:Int) - (y:Int) - (k:Int)=z):wrap64 ((x:Int) - (y:Int))=(x:Int) - (y:Int)∧wrap64 z=z∧
  (z < 0→∃s:Nat,z+1000000000=(s:Int)∧wrap64 (z+1000000000)=(s:Int)∧wrap64 (s:Int)=(s:Int)∧s < B9∧s+y+k=x+B9*1)∧(¬z < 0→∃s:Nat,z=(s:Int)∧wrap64 (s:Int)=(s:Int)∧s < B9∧s+y+k=x+B9*0):=by
 refine ⟨by unfold wrap64;omega,by unfold wrap64;omega,fun h=>⟨(z+1000000000).toNat,by omega,by unfold wrap64;omega,by unfold wrap64;omega,by rw [jaq];omega,by rw [jaq];omega⟩,fun h=>⟨z.toNat,by omega,by unfold wrap64;omega,by rw [jaq];omega,by rw [jaq];omega⟩⟩
theorem jql {o a b P k:Nat} (h:o+b=a+P*k) (ho:o < P) (hk:k≤1) (hle:b≤a):o=a - b:=by
 have:k=0∨k=1:=by omega
 rcases this with rfl|rfl
 ·omega
 ·omega
section
variable {w:World} {A A':Option Addr} {n m c c':Nat} {ds es:List Nat}
theorem jvu (h:Dv w A n ds) (h':Dv w A' m es) (hn:n≤20000) (hm:m≤n) (hle:Pos.nv B9 es≤Pos.nv B9 ds):Calls prog 88 #[.slice A n c, .slice A' m c'] w (js6 (Pos.nv B9 ds - Pos.nv B9 es) n w):=by
 obtain ⟨x,hx⟩:∃x,Pos.nv B9 ds - Pos.nv B9 es=x:=⟨_,rfl⟩;rw [hx];have H:=qh h;have H':=qh h';have HN:=qh (ai hn (ai hm (ai hle hx)));clear h h' hn hm hle hx;go_enter func88,ntmps88;go_wp2
 go_loopw [5,6,7] (fun v u t wr=>∃(k i:Nat) (os:List Nat),u= .int .i64 (k:Int)∧t= .int .i64 (i:Int)∧k≤1∧i≤n∧os.length=i∧Below w.heap.size w wr∧jbW wr w.heap.size v os.length (iz os)∧Pos.Dig B9 os∧Pos.nv B9 os+Pos.nv B9 (es.take i)=Pos.nv B9 (ds.take i)+B9^i*k) (fun _ _ t _=>n - (intOf t).toNat)
 case atStart=>exact ⟨0,0,[],rfl,rfl,by omega,by omega,rfl,bi,World.ownsRow_nil _ _ _ _,Pos.Dig.nil,by simp [Pos.nv]⟩
 case round=>
  obtain ⟨k,i,os,rfl,rfl,hk,hin,hol,hb,how,hdg,hv⟩:=hrel;have _:=bm hb;by_cases hi:i < n
  ·have p0:decide (i < n)=true:=by simpa using hi
   have hi2:i≤20000:=by have:=HN.o.1;omega
   have hxl:=jci H.o.dig i;have hyl:=jci H'.o.dig i;have HY:=qh (fun W (hW:Below w.heap.size w W)=>jlY (w:=W) (c:=c') (i:=i) (H'.o.below hW) (by omega));obtain ⟨b,o,rfl,hbl,hcell⟩:=(H.o.below hb).at_ (by omega);have hcl:=hcell i hi;have tx:=jgt ds i;have ty:=jgt es i;obtain ⟨x1,e1⟩:∃x,dg ds i=x:=⟨_,rfl⟩;obtain ⟨y1,e2⟩:∃x,dg es i=x:=⟨_,rfl⟩;rw [e1] at hxl hcl tx;rw [e2] at hyl HY ty;obtain ⟨z,hz⟩:∃z,(x1:Int) - (y1:Int) - (k:Int)=z:=⟨_,rfl⟩;obtain ⟨m1,m2,hlo,hhi⟩:=jsA hxl hyl hk hz;have HZ:=qh (ai hlo hhi);have HW:=qh (ai (show IntKind.i64.wrap ((x1:Int) - (y1:Int))=(x1:Int) - (y1:Int) by rw [IntKind.wrap_i64];omega) (show IntKind.i64.wrap z=z by rw [IntKind.wrap_i64];omega));have HI:=qh (show i+1≤n from hi);have HOW:=qh how;have HV:=qh (ai hv (ai hdg (ai hol (ai tx ty))));clear hlo hhi hcell how hv hdg hol tx ty e1 e2 hxl hyl;go_upto_region 6 with (fail)
   refine ja1 (fun w'=>Below wr.heap.size wr w') [] (by kernel_rfl) ?_;refine tl [(0,[], .slice (some ⟨b,o,none⟩) n c),(1,[], .int .i64 (i:Int)),(2,[], .pointer (some ⟨b,o+i,none⟩)),(3,[], .int .i64 (x1:Int)),(4,[], .slice A' m c'),(5,[], .int .i64 (i:Int)),(8,[], .int .i64 (k:Int))] [_,_,_,_,_,_,_] rfl (by kernel_rfl) pk5 (by intros;simp only [tyq,ppq];go_simp) bq0 ?_;simp only [tlq,ppq];refine rd1 6 (by kernel_rfl) rfl (fun K hK=> ?_);go_simp;go_wp2_with (go_at_call 134;(with_reducible refine mo0 (HY.o _ bi) fun w1 hb1 hc1 hf1 _=> ?_))
   have sS1:=qh (bst bq0 hb1);refine hK.out _ _ (fun _=>sS1.o) ?_;clear hK K;refine rd1 7 (by kernel_rfl) rfl (fun K hK=> ?_);go_simp;refine hK.out _ _ (fun _=>bi) ?_;clear hK K;refine rd1 9 (by kernel_rfl) rfl (fun K hK=> ?_);go_simp;refine hK.out _ _ (fun _=>bi) ?_;clear hK K;refine rd1 10 (by kernel_rfl) rfl (fun K hK=> ?_);go_simp;refine hK.out _ _ (fun _=>bi) ?_;clear hK K;refine ja2 (by kernel_rfl) ?_ _;simp only [show IntKind.i64.wrap ((x1:Int) - (y1:Int))=(x1:Int) - (y1:Int) from HW.o.1,hz,show IntKind.i64.wrap z=z from HW.o.2];have hs1:w.heap.size≤w1.heap.size:=Nat.le_trans hb.size hb1.size;by_cases hneg:z < 0
   ·have p1:decide (z < 0)=true:=by simpa using hneg
    obtain ⟨s,s1,s2,s5,s3,s4⟩:=HZ.o.1 hneg;have hst:=jhD HV.o.1 s4;have HST:=qh (ai (show Pos.nv B9 (os++[s])+Pos.nv B9 (es.take (i+1))=Pos.nv B9 (ds.take (i+1))+B9^(i+1)*1 by rw [Pos.nv_snoc,HV.o.2.2.1,HV.o.2.2.2.1,HV.o.2.2.2.2,Nat.pow_succ];exact hst) (ai (HV.o.2.1.snoc s3) (ai (show os.length < n by rw [HV.o.2.2.1];exact hi) HV.o.2.2.1)));clear s3 s4 hst hneg;go_upto_region 5 with (at_builtin;refine jac (v:=u5) (x:=(s:Int)) rfl _ _ rfl rfl rfl rfl (HOW.o.below bi) (jaY os) (by have:=HST.o.2.2.1;have:=HN.o.1;omega) (by have:=hs1;simp;omega) (by simp) ?_;intro g5 c5 w5 ho5 hc5 hg5;clear hc5)
    clear s1 s2 s5 hz m1 m2;go_wp2;exact ⟨⟨1,i+1,os++[s],by simp,by simp,by omega,HI.o,by rw [List.length_append,List.length_singleton,HST.o.2.2.2],(ja5 (ja0 hb sS1.o) _).trans (jab (base:=w.heap.size) hg5 (by have:=hs1;simp;omega) HOW.o.ge),by rw [List.length_append,List.length_singleton,←jbn];exact ho5,HST.o.2.1,HST.o.1⟩,by have:=HI.o;simp [intOf];omega⟩
   ·have p1:decide (z < 0)=false:=by simpa using hneg
    obtain ⟨s,s1,s2,s3,s4⟩:=HZ.o.2 (by omega);have hst:=jhD HV.o.1 s4;have HST:=qh (ai (show Pos.nv B9 (os++[s])+Pos.nv B9 (es.take (i+1))=Pos.nv B9 (ds.take (i+1))+B9^(i+1)*0 by rw [Pos.nv_snoc,HV.o.2.2.1,HV.o.2.2.2.1,HV.o.2.2.2.2,Nat.pow_succ];exact hst) (ai (HV.o.2.1.snoc s3) (ai (show os.length < n by rw [HV.o.2.2.1];exact hi) HV.o.2.2.1)));clear s3 s4 hst hneg;go_upto_region 5 with (at_builtin;refine jac (v:=u5) (x:=(s:Int)) rfl _ _ rfl rfl rfl rfl (HOW.o.below bi) (jaY os) (by have:=HST.o.2.2.1;have:=HN.o.1;omega) (by have:=hs1;simp;omega) (by simp) ?_;intro g5 c5 w5 ho5 hc5 hg5;clear hc5)
    clear s1 s2 hz m1 m2;go_wp2;exact ⟨⟨0,i+1,os++[s],by simp,by simp,by omega,HI.o,by rw [List.length_append,List.length_singleton,HST.o.2.2.2],(ja5 (ja0 hb sS1.o) _).trans (jab (base:=w.heap.size) hg5 (by have:=hs1;simp;omega) HOW.o.ge),by rw [List.length_append,List.length_singleton,←jbn];exact ho5,HST.o.2.1,HST.o.1⟩,by have:=HI.o;simp [intOf];omega⟩
  ·have p0:decide (i < n)=false:=by simp;omega
   obtain rfl:i=n:=by omega
   rw [List.take_of_length_le (by rw [H'.o.len];exact HN.o.2.1),List.take_of_length_le (by rw [H.o.len];omega)] at hv;have hlt:=Pos.nv_lt hdg;rw [hol] at hlt;have hv2:=(jql hv hlt hk HN.o.2.2.1).trans HN.o.2.2.2;obtain ⟨A5,c5,rfl,hd5,h51,h52⟩:=jbW.dv how rfl hdg (by have:=HN.o.1;omega);have HD:=qh (ai hd5 (ai h51 (ai h52 (ai hv2 hol))));clear hi hin hv hdg how hv2 hlt hd5 h51 h52 hk hol;go_wp2_with ((go_at_call 120;(with_reducible refine (jjv _ _ c5 os _ HD.o.1 HD.o.2.1 HD.o.2.2.1).mono ?_);rintro e1 w1 ⟨k1,hk1,ht1,hv1,rfl,rfl⟩;have HK:=qh (ai hk1 (ai ht1 hv1));clear hk1 ht1 hv1))
   go_ret;exact ⟨A5,k1,c5,os.take k1,rfl,HD.o.1.take HK.o.1,by have:=HK.o.1;have:=HD.o.2.1;omega,HD.o.2.2.1,HK.o.2.1,by rw [HK.o.2.2];exact HD.o.2.2.2.1,by have:=HK.o.1;have:=HD.o.2.2.2.2;omega,bi⟩
end

theorem joa {P Q R c a b nk T V V' o s q:Nat} (hP:P=Q*R) (h:V+P*c=T+Q*a*nk) (hset:V'+P*o=V+P*s) (e:s+B9*q=o+a*b+c):V'+P*B9*q=T+Q*a*(nk+R*b):=by
 have h1:P*(s+B9*q)=P*(o+a*b+c):=by rw [e]
 rw [Nat.mul_add,Nat.mul_add,Nat.mul_add,←Nat.mul_assoc] at h1;have h2:P*(a*b)=Q*a*(R*b):=by rw [hP];simp only [Nat.mul_assoc,Nat.mul_left_comm,Nat.mul_comm]
 rw [Nat.mul_add,←h2];omega
theorem jkJ {a b:Nat} (ha:a < B9) (hb:b < B9):a*b≤999999998000000001:=by
 rw [jaq] at ha hb;exact Nat.mul_le_mul (show a≤999999999 by omega) (show b≤999999999 by omega)
theorem jqr {a b o k:Nat} (ha:a < B9) (hb:b < B9) (ho:o < B9) (hk:k < B9):IntKind.i64.wrap ((a:Int)*(b:Int))=(a:Int)*(b:Int)∧IntKind.i64.wrap ((o:Int)+(a:Int)*(b:Int))=(o:Int)+(a:Int)*(b:Int)∧IntKind.i64.wrap ((o:Int)+(a:Int)*(b:Int)+(k:Int))=((o+a*b+k:Nat):Int)∧
  (((o+a*b+k) / B9:Nat):Int)=((o+a*b+k:Nat):Int).tdiv 1000000000∧(((o+a*b+k) % B9:Nat):Int)=((o+a*b+k:Nat):Int).tmod 1000000000∧(o+a*b+k) % B9 < B9∧(o+a*b+k) / B9 < B9∧o+a*b+k < 1000000000000000000:=by
 have h:=jkJ ha hb;have e:(a:Int)*(b:Int)=((a*b:Nat):Int):=(Int.natCast_mul a b).symm;rw [e];obtain ⟨p,hp⟩:∃p,a*b=p:=⟨_,rfl⟩;rw [hp] at h ⊢;rw [jaq] at*;refine ⟨by rw [IntKind.wrap_i64];omega,by rw [IntKind.wrap_i64];omega,by rw [IntKind.wrap_i64];omega, ?_, ?_,Nat.mod_lt _ (by omega),by omega,by omega⟩
 ·rfl
 ·rfl
theorem jra {x:Nat} (h:x < B9):wrap64 (x:Int)=(x:Int):=by rw [jaq] at h;unfold wrap64;omega
theorem jdS (os:List Nat) (j s:Nat):(iz os).set j (s:Int)=iz (os.set j s):=by simp [iz,List.map_set]
theorem jqT (l:Nat):iz (List.replicate l 0)=List.replicate l 0:=by simp [iz]
theorem jqY {os:List Nat} {j t s:Nat} (h:t≠j):dg (os.set j s) t=dg os t:=by simp [dg,List.getD_eq_getElem?_getD,List.getElem?_set_ne (Ne.symm h)]
theorem jqJ (l t:Nat):dg (List.replicate l 0) t=0:=by
 simp only [dg,List.getD_eq_getElem?_getD,List.getElem?_replicate];split <;> rfl
structure Mrow (os:List Nat) (N z V:Nat):Prop where
 len:os.length=N
 dig:Pos.Dig B9 os
 zero:∀t,z≤t→dg os t=0
 val:Pos.nv B9 os=V
theorem Mrow.start (N:Nat):Mrow (List.replicate N 0) N 0 0:=⟨by simp,fun d hd=>by rw [(List.mem_replicate.1 hd).2];exact jal,fun t _=>jqJ N t,by rw [Pos.nv_zeros]⟩
theorem Mrow.put {os:List Nat} {N z V j s:Nat} (h:Mrow os N z V) (hj:j < N) (hz:j < z) (hs:s < B9):∃V',Mrow (os.set j s) N z V'∧V'+B9^j*dg os j=V+B9^j*s:=by
 refine ⟨_,⟨by rw [List.length_set,h.len],h.dig.set j hs,fun t ht=>by rw [jqY (by omega)];exact h.zero t ht,rfl⟩, ?_⟩;have hl:j < os.length:=by rw [h.len];exact hj
 have:=Pos.nv_set (b:=B9) (d:=s) hl;rw [gd hl,←h.val];exact this
theorem Mrow.more {os:List Nat} {N z V y:Nat} (h:Mrow os N z V) (hy:z≤y):Mrow os N y V:=⟨h.len,h.dig,fun t ht=>h.zero t (by omega),h.val⟩
section
variable {w:World} {A A':Option Addr} {n m c c':Nat} {ds es:List Nat}
theorem jvL (h:Dv w A n ds) (h':Dv w A' m es) (hn:n≤20000) (hm:m≤20000):Calls prog 89 #[.slice A n c, .slice A' m c'] w (js6 (Pos.nv B9 ds*Pos.nv B9 es) (n+m) w):=by
 obtain ⟨x,hx⟩:∃x,Pos.nv B9 ds*Pos.nv B9 es=x:=⟨_,rfl⟩;rw [hx];have H:=qh h;have H':=qh h';have HN:=qh (ai hn (ai hm hx));have hmk:=fun W=>jgZ (n+m) (by omega) W
 simp only [Int.natCast_add] at hmk;have n1:0≤(n:Int)∧(n:Int)≤20000:=by omega
 have n2:0≤(m:Int)∧(m:Int)≤20000:=by omega
 clear h h' hn hm hx;go_enter func89,ntmps89;go_wp2
 go_loopw [6] (fun t wr=>∃(i:Nat) (os:List Nat),t= .int .i64 (i:Int)∧i≤n∧Below w.heap.size w wr∧Blk wr w.heap.size 3 (jdV (iz os))∧Mrow os (n+m) (i+m) (Pos.nv B9 (ds.take i)*Pos.nv B9 es)) (fun t _=>n - (intOf t).toNat)
 case atStart=>exact ⟨0,List.replicate (n+m) 0,rfl,Nat.zero_le _,bi,by rw [jqT];exact Blk.new w 3 _,by simpa [Pos.nv] using (Mrow.start (n+m)).more (Nat.zero_le (0+m))⟩
 case round=>
  obtain ⟨i,os,rfl,hin,hb,hO,hM⟩:=hrel;have _:=bm hb;by_cases hi:i < n
  ·have p0:decide (i < n)=true:=by simpa using hi
   have HI:=qh (ai hi (show i≤20000 by have:=HN.o.1;omega));have HM:=qh hM;obtain ⟨T,hT⟩:∃T,Pos.nv B9 (ds.take i)*Pos.nv B9 es=T:=⟨_,rfl⟩;have HT:=qh hT;rw [hT] at HM;obtain ⟨a,ha⟩:∃a,dg ds i=a:=⟨_,rfl⟩;have HA:=qh ha;have HAL:=qh (show a < B9 by rw [←ha];exact jci H.o.dig i);clear hM hT hin ha;go_wp2
   go_loopw [7,8] (fun u t wr2=>∃(k q V:Nat) (os2:List Nat),u= .int .i64 (q:Int)∧t= .int .i64 (k:Int)∧k≤m∧q < B9∧Below w.heap.size w wr2∧Blk wr2 w.heap.size 3 (jdV (iz os2))∧Mrow os2 (n+m) (i+m) V∧V+B9^(i+k)*q=T+B9^i*a*Pos.nv B9 (es.take k)) (fun _ t _=>m - (intOf t).toNat)
   case atStart=>exact ⟨0,0,T,os,rfl,rfl,Nat.zero_le _,jal,hb,hO,HM.o,by simp [Pos.nv]⟩
   case round=>
    obtain ⟨k,q,V,os2,rfl,rfl,hkm,hq,hb2,hO2,hM2,hV⟩:=hrel;have _:=bm hb2;have HV:=qh hV;clear hV;by_cases hk:k < m
    ·have p1:decide (k < m)=true:=by simpa using hk
     have hii:=HI.o.1;have hi2:=HI.o.2;have hk2:k≤20000:=by have:=HN.o.2.1;omega
     have g1:IntKind.i64.wrap ((i:Int)+(k:Int))=(i:Int)+(k:Int):=by rw [IntKind.wrap_i64];omega
     have g2:0≤(i:Int)+(k:Int):=by omega
     have g3:((i:Int)+(k:Int)).toNat=i+k:=by omega
     have g4:(i:Int)+(k:Int) < (n:Int)+(m:Int):=by omega
     have g5:wrap64 ((i:Int)+(k:Int))=(i:Int)+(k:Int):=by unfold wrap64;omega
     have g6:i+k < n+m:=by omega
     have g7:i+k < i+m:=by omega
     obtain ⟨b1,o1,rfl,hbl1,hcell1⟩:=(H.o.below hb2).at_ (by omega);obtain ⟨b2,o2,rfl,hbl2,hcell2⟩:=(H'.o.below hb2).at_ (by omega);have ca:=hcell1 i hii;have cb:=hcell2 k hk;rw [HA.o] at ca;obtain ⟨b,hbb⟩:∃b,dg es k=b:=⟨_,rfl⟩;have hbl:b < B9:=by rw [←hbb];exact jci H'.o.dig k
     have tb:=jgt es k;rw [hbb] at cb tb;have co:=hO2.cell (i+k);rw [jfc (by rw [jaY,hM2.len];omega),jeq] at co;have cf:=hO2.frozen (i+k);obtain ⟨o,ho⟩:∃o,dg os2 (i+k)=o:=⟨_,rfl⟩;have hol:o < B9:=by rw [←ho];exact jci hM2.dig (i+k)
     rw [ho] at co;obtain ⟨f1,f2,f3,f4,f5,f6,f7,f8⟩:=jqr HAL.o hbl hol hq;obtain ⟨V',hM3,hset⟩:=hM2.put (j:=i+k) (s:=(o+a*b+q) % B9) g6 g7 f6;rw [ho] at hset;have hst:=joa (R:=B9^k) (Nat.pow_add B9 i k) HV.o hset (Nat.mod_add_div (o+a*b+q) B9);rw [←tb] at hst;obtain ⟨S,hS⟩:∃S,o+a*b+q=S:=⟨_,rfl⟩;rw [hS] at f3 f4 f5 f6 f7 f8 hM3 hst;obtain ⟨s1,hs1⟩:∃s,S % B9=s:=⟨_,rfl⟩;obtain ⟨q1,hq1⟩:∃s,S / B9=s:=⟨_,rfl⟩;rw [hs1] at f5 f6 hM3;rw [hq1] at f4 f7 hst;have HST:=qh (ai (show V'+B9^(i+(k+1))*q1=T+B9^i*a*Pos.nv B9 (es.take (k+1)) by rw [←Nat.add_assoc,Nat.pow_succ];exact hst) (ai hM3 (ai f7 (show k+1≤m from hk))))
     have HO3:=qh (show Blk (wr.setCell ⟨w.heap.size,i+k,none⟩ (.int .i64 (s1:Int))) w.heap.size 3 (jdV (iz (os2.set (i+k) s1))) by
      have:=hO2.set_ (i+k) (.int .i64 (s1:Int))
      rwa [jgX,jdS] at this)
     have hwl:w.heap.size < wr.heap.size:=hO2.lt;obtain ⟨Z,hZ⟩:∃Z:Int,(S:Int)=Z:=⟨_,rfl⟩;have z0:0≤Z:=by rw [←hZ];exact Int.natCast_nonneg S
     have z1:Z < 1000000000000000000:=by rw [←hZ];exact Int.ofNat_lt.2 f8
     rw [hZ] at f3 f4 f5;have m3:Z.tmod 1000000000=(s1:Int):=f5.symm;have m4:Z.tdiv 1000000000=(q1:Int):=f4.symm;have HM34:=qh (ai m3 (ai m4 (ai (show Z % 1000000000=(s1:Int) from (Int.tmod_eq_emod_of_nonneg z0).symm.trans m3) (show Z / 1000000000=(q1:Int) from (Int.tdiv_eq_ediv_of_nonneg z0).symm.trans m4))));have HW1:=qh (ai (jra f6) (jra f7));clear hst hset hM3 hM2 HV tb hbb ho hS hs1 hq1 hcell1 hcell2 f4 f5 f6 f7 hol hbl hq hkm hO2 m3 m4 f8 hZ;go_upto_region 9 with (fail)
     refine ja1 (fun w'=>Below wr.heap.size wr w') [] (by kernel_rfl) ?_;refine tl [(0,[], .slice (some ⟨w.heap.size,0,none⟩) (n+m) (n+m)),(1,[], .int .i64 (i:Int)),(2,[], .int .i64 (k:Int)),(3,[], .int .i64 ((i:Int)+(k:Int))),(4,[], .pointer (some ⟨w.heap.size,i+k,none⟩)),(5,[], .int .i64 (o:Int)),(6,[], .slice (some ⟨b1,o1,none⟩) n c),(7,[], .int .i64 (i:Int))] [_,_,_,_,_,_,_,_] rfl (by kernel_rfl) pk5 (by intros;simp only [tyq,ppq];go_simp) bq0 ?_;simp only [tlq,ppq];refine tl [(8,[], .pointer (some ⟨b1,o1+i,none⟩)),(9,[], .int .i64 (a:Int)),(10,[], .slice (some ⟨b2,o2,none⟩) m c'),(11,[], .int .i64 (k:Int)),(12,[], .pointer (some ⟨b2,o2+k,none⟩)),(13,[], .int .i64 (b:Int)),(14,[], .int .i64 ((a:Int)*(b:Int))),(15,[], .int .i64 ((o:Int)+(a:Int)*(b:Int)))] [_,_,_,_,_,_,_,_] rfl (by kernel_rfl) pk5 (by intros;simp only [tyq,ppq];go_simp) bq0 ?_;simp only [tlq,ppq];refine tl [(16,[], .int .i64 (q:Int)),(17,[], .int .i64 Z)] [_,_] rfl (by kernel_rfl) pk5 (by intros;simp only [tyq,ppq];go_simp) bq0 ?_;simp only [tlq,ppq];refine rd1 18 (by kernel_rfl) rfl (fun K hK=> ?_);go_simp;refine hK.out _ _ (fun _=>bi) ?_;clear hK K;refine ja2 (by kernel_rfl) ?_ _;clear f1 f2 f3 ca cb;have m3:=HM34.o.1;have m5:=HM34.o.2.2.1;have m7:=HW1.o.1;go_upto_region 11 with (fail)
     clear m3 m5 m7;have m4:=HM34.o.2.1;have m8:=HW1.o.2;clear z0 z1;go_upto_region 8 with (fail)
     clear m4 m8 HM34;go_wp2;exact ⟨⟨k+1,q1,V',os2.set (i+k) s1,by rw [HW1.o.2],by simp,HST.o.2.2.2,HST.o.2.2.1,bi,HO3.o,HST.o.2.1,HST.o.1⟩,by have:=HST.o.2.2.2;simp [intOf];omega⟩
    ·obtain rfl:k=m:=by omega
     have p1:decide (k < k)=false:=by simp
     have hii:=HI.o.1;have hi2:=HI.o.2;have g1:IntKind.i64.wrap ((i:Int)+(k:Int))=(i:Int)+(k:Int):=by have:=HN.o.2.1;rw [IntKind.wrap_i64];omega
     have g5:wrap64 ((i:Int)+(k:Int))=(i:Int)+(k:Int):=by have:=HN.o.2.1;unfold wrap64;omega
     have g2:0≤(i:Int)+(k:Int):=by omega
     have g3:((i:Int)+(k:Int)).toNat=i+k:=by omega
     have g4:(i:Int)+(k:Int) < (n:Int)+(k:Int):=by omega
     have g6:i+k < n+k:=by omega
     have co:=hO2.cell (i+k);rw [jfc (by rw [jaY,hM2.len];omega),jeq,hM2.zero (i+k) (Nat.le_refl _)] at co;have cf:=hO2.frozen (i+k);obtain ⟨V',hM3,hset⟩:=(hM2.more (y:=i+1+k) (by omega)).put (j:=i+k) (s:=q) g6 (by omega) hq;rw [hM2.zero (i+k) (Nat.le_refl _),Nat.mul_zero,Nat.add_zero] at hset
     have hfin:V'=Pos.nv B9 (ds.take (i+1))*Pos.nv B9 es:=by
      have e2:=HV.o;rw [List.take_of_length_le (by rw [H'.o.len];exact Nat.le_refl _)] at e2;rw [hset,e2,jgt,HA.o,Nat.add_mul,←HT.o]
     rw [hfin] at hM3;have HM3:=qh hM3
     have HO3:=qh (show Blk (wr.setCell ⟨w.heap.size,i+k,none⟩ (.int .i64 (q:Int))) w.heap.size 3 (jdV (iz (os2.set (i+k) q))) by
      have:=hO2.set_ (i+k) (.int .i64 (q:Int))
      rwa [jgX,jdS] at this)
     have m7:=jra hq;have m8:wrap64 (0+(q:Int))=(q:Int):=by rw [Int.zero_add];exact m7
     have hwl:w.heap.size < wr.heap.size:=hO2.lt;clear hM2 hO2 hM3 hset hfin hq hkm HV;go_wp2;exact ⟨⟨i+1,os2.set (i+k) q,by simp,by omega,bi,HO3.o,HM3.o⟩,by simp [intOf];omega⟩
  ·obtain rfl:i=n:=by omega
   have p0:decide (i < i)=false:=by simp
   have hD:=jn8 (qs:=os) (by rw [hM.len];have:=HN.o;omega) hM.dig hO;rw [hM.len] at hD;have hval:=hM.val;rw [List.take_of_length_le (by rw [H.o.len];exact Nat.le_refl _),HN.o.2.2] at hval;have HD:=qh hD;have HV:=qh hval;have HB:=qh (show i+m < 9223372036854775808 by have:=HN.o;omega);clear hM hD hval hO hi hin;go_wp2_with ((go_at_call 120;(with_reducible refine (jjv _ (i+m) (i+m) os _ HD.o (Nat.le_refl _) HB.o).mono ?_);rintro e1 w1 ⟨k,hk,ht,hv,rfl,rfl⟩;have HK:=qh (ai hk (ai ht hv));clear hk ht hv))
   go_ret;exact ⟨some ⟨w.heap.size,0,none⟩,k,i+m,os.take k,rfl,HD.o.take HK.o.1,by have:=HK.o.1;omega,HB.o,HK.o.2.1,by rw [HK.o.2.2,HV.o],HK.o.1,bi⟩
end

def Rz (w:World) (v:Value) (z:Int) (L:Nat):Prop:=
 ∃A n c ds,v= .agg #[.bool (decide (z < 0)), .slice A n c]∧Dv w A n ds∧Pos.Trim ds∧Pos.nv B9 ds=z.natAbs∧n≤c∧c < 9223372036854775808∧n≤L
def RzP (z:Int) (L:Nat) (w:World) (e:Ending) (w':World):Prop:=∃v,e= .returned v∧Rz w' v z L∧Below w.heap.size w w'
theorem Dv.off {w:World} {A:Option Addr} {n c:Nat} {ds:List Nat} {x:Bool} {u:Value} (h:Dv w A n ds) (h0:w.cell? ⟨c,0,none⟩=some (.bool x)) (h1:w.cell? ⟨c,1,none⟩=some u) (hu:∀k z,u≠ .int k z) (h2:∀o,2≤o→w.cell? ⟨c,o,none⟩=none):∀b o,A=some ⟨b,o,none⟩→0 < n→c≠b:=fun b o e hn hb=>by
 obtain ⟨b',o',e',hl,hc⟩:=h.at_ hn;rw [e] at e';cases e'
 subst hb;have:=hc 0 hn;rcases (show o+0=0∨o+0=1∨2≤o+0 by omega) with k|k|k
 ·rw [k,h0] at this;cases this
 ·rw [k,h1] at this;exact hu _ _ (Option.some.inj this)
 ·rw [h2 _ k] at this;cases this
theorem Dv.far2 {w:World} {A:Option Addr} {n:Nat} {ds:List Nat} (h:Dv w A n ds) {p:Addr} (hp:∀b o,A=some ⟨b,o,none⟩→0 < n→p.block≠b) (v:Value):Dv (w.setCell p v) A n ds:=
 ⟨h.len,h.dig,h.big,fun h0=>by
   obtain ⟨b,o,e,hl,hc⟩:=h.at_ h0;have hne:=hp b o e h0
   exact ⟨b,o,e,by simpa using hl,fun j hj=>by rw [World.cell?_setCell_far _ _ _ _ (by first|exact hne|exact Ne.symm hne|(dsimp only;exact hne)|(dsimp only;exact Ne.symm hne))];exact hc j hj⟩⟩
theorem jag {w:World} {c:Nat} {T:TypeId} {fr:Nat×Nat} {u v:Value} (h:w.heap[c]? =some (.cells #[u,v] T fr)):w.cell? ⟨c,0,none⟩=some u∧w.cell? ⟨c,1,none⟩=some v∧∀o,2≤o→w.cell? ⟨c,o,none⟩=none:=by
 refine ⟨by simp [World.cell?,h],by simp [World.cell?,h],fun o ho=> ?_⟩;simp [World.cell?,h];omega
theorem jrT (g:Bool) {x n:Nat} {ds:List Nat} (ht:Pos.Trim ds) (hv:Pos.nv B9 ds=x) (hl:ds.length=n):(g && decide (0 < n))=decide ((if g then -(x:Int) else (x:Int)) < 0):=by
 have:(0 < n)↔0 < x:=by
  rw [←hv,←hl];constructor
  ·intro h;exact Pos.nv_pos jal ht h
  ·intro h;rcases Nat.eq_zero_or_pos ds.length with e|e
   ·rw [List.length_eq_zero_iff.1 e] at h;simp [Pos.nv] at h
   ·exact e
 cases g
 ·simp
 ·simp [this]
theorem jax {w:World} {A:Option Addr} {n c:Nat} {ds:List Nat} {g:Bool} {z:Int} (h:Dv w A n ds) (hn:n≤c) (hc:c < 9223372036854775808) (hz:(if g then -((Pos.nv B9 ds:Nat):Int) else ((Pos.nv B9 ds:Nat):Int))=z):
  Calls prog 73 #[.bool g, .slice A n c] w fun e w'=>∃k,e= .returned (.agg #[.bool (decide (z < 0)), .slice A k c])∧Dv w' A k (ds.take k)∧Pos.Trim (ds.take k)∧Pos.nv B9 (ds.take k)=z.natAbs∧k≤n∧Below w.heap.size w w':=by
 refine (ji2 (g:=g) h hn hc).mono fun e w' ⟨k,he,hk,ht,hv,hb⟩=>⟨k, ?_,(h.below hb).take hk,ht, ?_,hk,hb⟩
 ·have hl:(ds.take k).length=k:=by rw [List.length_take,h.len];omega
  rw [he,jrT g ht hv hl,hz]
 ·rw [hv,←hz];cases g <;> simp
theorem jcd {w w':World} {A:Option Addr} {n k c C L:Nat} {ds:List Nat} {z:Int} {x:Bool} {T:TypeId} (hd:Dv w' A k ds) (ht:Pos.Trim ds) (hv:Pos.nv B9 ds=z.natAbs) (hn:n≤c) (hc:c < 9223372036854775808) (hL:k≤L) (hk:k≤n)
  (hC:Blk w' C T #[.bool x, .slice none 0 0]) (p q:Value) (hb:Below w.heap.size w ((w'.setCell ⟨C,0,none⟩ p).setCell ⟨C,1,none⟩ q)):
  RzP z L w (.returned (.agg #[.bool (decide (z < 0)), .slice A k c])) ((w'.setCell ⟨C,0,none⟩ p).setCell ⟨C,1,none⟩ q):=by
 obtain ⟨c0,c1,c2⟩:=jag hC;have hne:=hd.off c0 c1 (fun _ _ e=>by cases e) c2;exact ⟨_,rfl,⟨A,k,c,ds,rfl,(hd.far2 (p:=⟨C,0,none⟩) hne p).far2 (p:=⟨C,1,none⟩) hne q,ht,hv,Nat.le_trans hk hn,hc,hL⟩,hb⟩
section
variable {w:World} {u v:Value} {a b:Int} {L M:Nat}
theorem jhJ (h:Rz w u a L):Calls prog 84 #[u] w (RzP (-a) L w):=by
 obtain ⟨A,n,c,ds,rfl,hd,ht,hv,hn,hc,hL⟩:=h
 have hz:(if (!decide (a < 0))=true then -((Pos.nv B9 ds:Nat):Int) else ((Pos.nv B9 ds:Nat):Int))= -a:=by
  rw [hv];by_cases e:a < 0 <;> simp [e] <;> omega
 obtain ⟨s,hs⟩:∃s,decide (a < 0)=s:=⟨_,rfl⟩;obtain ⟨z,hzz⟩:∃z, -a=z:=⟨_,rfl⟩;rw [hs] at hz;rw [hzz] at hz;rw [hs,hzz];have HD:=qh hd;have HS:=qh (fun W (hb:Below w.heap.size w W)=>jax (w:=W) (g:= !s) (hd.below hb) hn hc hz);have HR:=qh (ai hn (ai hc hL));clear hd ht hv hn hc hL hz hs hzz;go_enter func84,ntmps84;go_wp2_with (go_at_call 73;(with_reducible refine (HS.o _ bi).mono ?_);rintro e1 w1 ⟨k1,rfl,h1,h2,h3,h4,hb1⟩;have _:=bm hb1;have H1:=qh (ai h1 (ai h2 (ai h3 h4)));clear h1 h2 h3 h4;obtain ⟨hc1,hf1,z1_0,z1_1,_⟩:=bc2 w hb1 (by go_size))
 exact bodyPost_ret (v:= .agg #[.bool (decide (z < 0)), .slice A k1 c]) (by simp [results,results84,go_sem,hc1]) rfl (jcd H1.o.1 H1.o.2.1 H1.o.2.2.1 HR.o.1 HR.o.2.1 (Nat.le_trans H1.o.2.2.2 HR.o.2.2) H1.o.2.2.2 (by have:=(Blk.new (w.alloc (.cells #[.bool s, .slice A n c] 81)) 81 #[.bool false, .slice none 0 0]).below hb1;simpa using this) _ _ bi)

theorem jaP (h:Rz w u a L) (h':Rz w v b M) (hL:L≤20000) (hM:M≤20000):Calls prog 42 #[u,v] w (RzP (a*b) (L+M) w):=by
 obtain ⟨A,n,c,ds,rfl,hd,ht,hv,hn,hc,hl⟩:=h;obtain ⟨B,m,d,es,rfl,hd',ht',hv',hn',hc',hl'⟩:=h';obtain ⟨z,hz⟩:∃z,a*b=z:=⟨_,rfl⟩
 have hzz:(if (decide (a < 0) != decide (b < 0))=true then -((Pos.nv B9 ds*Pos.nv B9 es:Nat):Int) else ((Pos.nv B9 ds*Pos.nv B9 es:Nat):Int))=z:=by
  rw [hv,hv',←hz,Int.natCast_mul];by_cases e1:a < 0 <;> by_cases e2:b < 0 <;> simp [e1,e2]
  ·rw [show ((a.natAbs:Nat):Int)= -a by omega,show ((b.natAbs:Nat):Int)= -b by omega,Int.neg_mul_neg]
  ·rw [show ((a.natAbs:Nat):Int)= -a by omega,show ((b.natAbs:Nat):Int)=b by omega,Int.neg_mul,Int.neg_neg]
  ·rw [show ((a.natAbs:Nat):Int)=a by omega,show ((b.natAbs:Nat):Int)= -b by omega,Int.mul_neg,Int.neg_neg]
  ·rw [show ((a.natAbs:Nat):Int)=a by omega,show ((b.natAbs:Nat):Int)=b by omega]
 obtain ⟨s,hs⟩:∃s,decide (a < 0)=s:=⟨_,rfl⟩;obtain ⟨t,ht2⟩:∃s,decide (b < 0)=s:=⟨_,rfl⟩;obtain ⟨x,hx⟩:∃x,Pos.nv B9 ds*Pos.nv B9 es=x:=⟨_,rfl⟩;obtain ⟨g,hg⟩:∃g,(s != t)=g:=⟨_,rfl⟩;have hg2:(s==t)= !g:=by rw [←hg];cases s <;> cases t <;> rfl
 rw [hs,ht2,hx,hg] at hzz;rw [hs,ht2,hz];have HM:=qh (fun W (hb:Below w.heap.size w W)=>hx ▸ jvL (c:=c) (c':=d) (hd.below hb) (hd'.below hb) (by omega) (by omega));have HZ:=qh hzz;have HR:=qh (ai hl hl');clear hd ht hv hn hc hl hd' ht' hv' hn' hc' hl' hz hs ht2 hx hzz hL hM;go_enter func42,ntmps42;go_wp2;obtain ⟨V,hV⟩:∃V,((w.alloc (.cells #[.bool s, .slice A n c] 81)).alloc (.cells #[.bool t, .slice B m d] 81)).alloc (.cells #[.bool false, .slice none 0 0] 81)=V:=⟨_,rfl⟩;have v1:V.cell? ⟨w.heap.size,0,none⟩=some (.bool s):=by rw [←hV];simp [go_sem]
 have v2:V.cell? ⟨w.heap.size,1,none⟩=some (.slice A n c):=by rw [←hV];simp [go_sem]
 have v3:V.cell? ⟨w.heap.size+1,0,none⟩=some (.bool t):=by rw [←hV];simp [go_sem]
 have v4:V.cell? ⟨w.heap.size+1,1,none⟩=some (.slice B m d):=by rw [←hV];simp [go_sem]
 have bV:Below w.heap.size w V:=by rw [←hV];exact bi
 have HBV:=qh (show Blk V (w.heap.size+1+1) 81 #[.bool false, .slice none 0 0] from by
  rw [←hV];have:=Blk.new ((w.alloc (.cells #[.bool s, .slice A n c] 81)).alloc (.cells #[.bool t, .slice B m d] 81)) 81 #[.bool false, .slice none 0 0]
  simpa using this)
 have zV0:w.heap.size < V.heap.size:=by rw [←hV];simp;omega
 have zV1:w.heap.size+1 < V.heap.size:=by rw [←hV];simp
 have zV2:w.heap.size+1+1 < V.heap.size:=by rw [←hV];simp
 have sV:V.heap.size=w.heap.size+1+1+1:=by rw [←hV];simp
 rw [hV];clear hV;refine ja1 (fun w'=>Below V.heap.size V w') [11] (by kernel_rfl) ?_;refine tl [(0,[1], .pointer (some ⟨w.heap.size,0,none⟩)),(1,[4], .bool s),(2,[3], .pointer (some ⟨w.heap.size+1,0,none⟩)),(3,[4], .bool t),(4,[10], .bool g),(5,[6], .pointer (some ⟨w.heap.size,1,none⟩)),(6,[9], .slice A n c),(7,[8], .pointer (some ⟨w.heap.size+1,1,none⟩))] [_,_,_,_,_,_,_,_] rfl (by kernel_rfl) pk5 (by intros;simp only [tyq,ppq];go_simp) bq0 ?_;simp only [tlq,ppq];refine tb 8 (.slice B m d) [9] rfl (by kernel_rfl) pk rfl (by intros;go_simp) bq0 ?_;simp only [ppq];refine rd1 9 (by kernel_rfl) rfl (fun K hK=> ?_);go_simp;go_wp2_with (go_at_call 89;(with_reducible refine (HM.o _ (ja0 bV bi)).mono ?_);rintro e2 w2 ⟨C2,n2,c2,qs,rfl,k1,k2,k3,k4,k5,k6,hb2⟩;have _:=bm hb2;have H2:=qh (ai k1 (ai k2 (ai k3 (ai k4 (ai k5 k6)))));clear k1 k2 k3 k4 k5 k6)
 have sS2:=qh (bst bq0 hb2);refine hK.out _ _ (fun _=>sS2.o) ?_;clear hK K;refine rd1 10 (by kernel_rfl) rfl (fun K hK=> ?_);go_simp;go_wp2_with (go_at_call 73;(with_reducible refine (jax (z:=z) H2.o.1 H2.o.2.1 H2.o.2.2.1 (by rw [H2.o.2.2.2.2.1];exact HZ.o)).mono ?_);rintro e3 w3 ⟨k3,rfl,h1,h2,h3,h4,hb3⟩;have _:=bm hb3;have H3:=qh (ai h1 (ai h2 (ai h3 h4)));clear h1 h2 h3 h4)
 have sS3:=qh (bst sS2.o hb3);refine hK.out _ _ (fun _=>sS3.o) ?_;clear hK K;have HB3:=HBV.o.below sS3.o;have k0:=HB3.cell 0;have k1:=HB3.cell 1;have kf:=HB3.frozen;simp only [List.getElem?_toArray,List.getElem?_cons_zero,List.getElem?_cons_succ] at k0 k1;refine rd1 11 (by kernel_rfl) rfl (fun K hK=> ?_);go_simp;refine hK.out _ _ (fun h=>(h (by decide)).elim) ?_;clear hK K;refine ja2 (by kernel_rfl) ?_ _;go_wp2;exact bodyPost_ret (v:= .agg #[.bool (decide (z < 0)), .slice C2 k3 c2]) (by simp [results,results42,go_sem,k0,k1]) rfl (jcd H3.o.1 H3.o.2.1 H3.o.2.2.1 H2.o.2.1 H2.o.2.2.1 (by have:=H3.o.2.2.2;have:=H2.o.2.2.2.2.2;have:=HR.o;omega) H3.o.2.2.2 HB3 _ _ (bq (by with_reducible repeat' first|assumption|constructor|go_size)))
theorem jsO {a b:Int} {x:Nat} (h:decide (a < 0)=decide (b < 0)) (hx:a.natAbs+b.natAbs=x):(if decide (a < 0)=true then -((x:Nat):Int) else ((x:Nat):Int))=a+b:=by
 subst hx;by_cases e1:a < 0 <;> by_cases e2:b < 0 <;> simp [e1,e2] at h ⊢ <;> omega
theorem ju8 {a b:Int} {x:Nat} (h:¬(decide (a < 0)=decide (b < 0))) (hg:b.natAbs≤a.natAbs) (hx:a.natAbs - b.natAbs=x):(if decide (a < 0)=true then -((x:Nat):Int) else ((x:Nat):Int))=a+b:=by
 subst hx;by_cases e1:a < 0 <;> by_cases e2:b < 0 <;> simp [e1,e2] at h ⊢ <;> omega
theorem jrc {a b:Int} {x:Nat} (h:¬(decide (a < 0)=decide (b < 0))) (hg:a.natAbs≤b.natAbs) (hx:b.natAbs - a.natAbs=x):(if decide (b < 0)=true then -((x:Nat):Int) else ((x:Nat):Int))=a+b:=by
 subst hx;by_cases e1:a < 0 <;> by_cases e2:b < 0 <;> simp [e1,e2] at h ⊢ <;> omega
theorem jnU (h:Rz w u a L) (h':Rz w v b M) (hL:L≤20000) (hM:M≤20000) (hs:decide (a < 0)=decide (b < 0)):Calls prog 41 #[u,v] w (RzP (a+b) (max L M+1) w):=by
 obtain ⟨A,n,c,ds,rfl,hd,ht,hv,hn,hc,hl⟩:=h;obtain ⟨B,m,d,es,rfl,hd',ht',hv',hn',hc',hl'⟩:=h';obtain ⟨z,hz⟩:∃z,a+b=z:=⟨_,rfl⟩;rw [hz];obtain ⟨x,hx⟩:∃x,a.natAbs+b.natAbs=x:=⟨_,rfl⟩;have hzz:=jsO hs hx;rw [hz] at hzz;obtain ⟨s,hs1⟩:∃s,decide (a < 0)=s:=⟨_,rfl⟩;obtain ⟨t,ht2⟩:∃s,decide (b < 0)=s:=⟨_,rfl⟩;rw [hs1] at hzz;rw [hs1,ht2] at hs ⊢;have q0:(s==t)=true:=by rw [hs];simp
 have HA:=qh (fun W (hb:Below w.heap.size w W)=>(show Pos.nv B9 ds+Pos.nv B9 es=x by rw [hv,hv',hx]) ▸ jvM (c:=c) (c':=d) (hd.below hb) (hd'.below hb) (by omega) (by omega));have HZ:=qh hzz;have HR:=qh (ai hl hl');clear hd ht hv hn hc hl hd' ht' hv' hn' hc' hl' hz hs hs1 ht2 hx hzz hL hM;go_enter func41,ntmps41;go_upto_region 1 with (fail)
 obtain ⟨V,hV⟩:∃V,((w.alloc (.cells #[.bool s, .slice A n c] 81)).alloc (.cells #[.bool t, .slice B m d] 81)).alloc (.cells #[.bool false, .slice none 0 0] 81)=V:=⟨_,rfl⟩;have v1:V.cell? ⟨w.heap.size,0,none⟩=some (.bool s):=by rw [←hV];simp [go_sem]
 have v2:V.cell? ⟨w.heap.size,1,none⟩=some (.slice A n c):=by rw [←hV];simp [go_sem]
 have v3:V.cell? ⟨w.heap.size+1,0,none⟩=some (.bool t):=by rw [←hV];simp [go_sem]
 have v4:V.cell? ⟨w.heap.size+1,1,none⟩=some (.slice B m d):=by rw [←hV];simp [go_sem]
 have bV:Below w.heap.size w V:=by rw [←hV];exact bi
 have HBV:=qh (show Blk V (w.heap.size+1+1) 81 #[.bool false, .slice none 0 0] from by
  rw [←hV];have:=Blk.new ((w.alloc (.cells #[.bool s, .slice A n c] 81)).alloc (.cells #[.bool t, .slice B m d] 81)) 81 #[.bool false, .slice none 0 0]
  simpa using this)
 have zV0:w.heap.size < V.heap.size:=by rw [←hV];simp;omega
 have zV1:w.heap.size+1 < V.heap.size:=by rw [←hV];simp
 have zV2:w.heap.size+1+1 < V.heap.size:=by rw [←hV];simp
 have sV:V.heap.size=w.heap.size+1+1+1:=by rw [←hV];simp
 rw [hV];clear hV;go_wp2;refine ja1 (fun w'=>Below V.heap.size V w') [8] (by kernel_rfl) ?_;refine tl [(0,[1], .pointer (some ⟨w.heap.size,0,none⟩)),(1,[7], .bool s),(2,[3], .pointer (some ⟨w.heap.size,1,none⟩)),(3,[6], .slice A n c),(4,[5], .pointer (some ⟨w.heap.size+1,1,none⟩)),(5,[6], .slice B m d)] [_,_,_,_,_,_] rfl (by kernel_rfl) pk5 (by intros;simp only [tyq,ppq];go_simp) bq0 ?_;simp only [tlq,ppq];refine rd1 6 (by kernel_rfl) rfl (fun K hK=> ?_);go_simp;go_wp2_with (go_at_call 86;(with_reducible refine (HA.o _ (ja0 bV bi)).mono ?_);rintro e2 w2 ⟨C2,n2,c2,qs,rfl,k1,k2,k3,k4,k5,hb2⟩;have _:=bm hb2;have H2:=qh (ai k1 (ai k2 (ai k3 (ai k4 k5))));clear k1 k2 k3 k4 k5)
 have sS2:=qh (bst bq0 hb2);refine hK.out _ _ (fun _=>sS2.o) ?_;clear hK K;refine rd1 7 (by kernel_rfl) rfl (fun K hK=> ?_);go_simp;go_wp2_with (go_at_call 73;(with_reducible refine (jax (z:=z) H2.o.1 H2.o.2.1 H2.o.2.2.1 (by rw [H2.o.2.2.2.1];exact HZ.o)).mono ?_);rintro e3 w3 ⟨k3,rfl,h1,h2,h3,h4,hb3⟩;have _:=bm hb3;have H3:=qh (ai h1 (ai h2 (ai h3 h4)));clear h1 h2 h3 h4)
 have sS3:=qh (bst sS2.o hb3);refine hK.out _ _ (fun _=>sS3.o) ?_;clear hK K;have HB3:=HBV.o.below sS3.o;have k0:=HB3.cell 0;have k1:=HB3.cell 1;have kf:=HB3.frozen;simp only [List.getElem?_toArray,List.getElem?_cons_zero,List.getElem?_cons_succ] at k0 k1;refine rd1 8 (by kernel_rfl) rfl (fun K hK=> ?_);go_simp;refine hK.out _ _ (fun h=>(h (by decide)).elim) ?_;clear hK K;refine ja2 (by kernel_rfl) ?_ _;go_wp2;exact bodyPost_ret (v:= .agg #[.bool (decide (z < 0)), .slice C2 k3 c2]) (by simp [results,results41,go_sem,k0,k1]) rfl (jcd H3.o.1 H3.o.2.1 H3.o.2.2.1 H2.o.2.1 H2.o.2.2.1 (by have:=H3.o.2.2.2;have:=H2.o.2.2.2.2;have:=HR.o;omega) H3.o.2.2.2 HB3 _ _ (bq (by with_reducible repeat' first|assumption|constructor|go_size)))
theorem jsd (h:Rz w u a L) (h':Rz w v b M) (hL:L≤20000) (hM:M≤20000) (hs:¬(decide (a < 0)=decide (b < 0))) (hge:b.natAbs≤a.natAbs):Calls prog 41 #[u,v] w (RzP (a+b) (max L M+1) w):=by
 obtain ⟨A,n,c,ds,rfl,hd,ht,hv,hn,hc,hl⟩:=h;obtain ⟨B,m,d,es,rfl,hd',ht',hv',hn',hc',hl'⟩:=h';obtain ⟨z,hz⟩:∃z,a+b=z:=⟨_,rfl⟩;rw [hz];obtain ⟨x,hx⟩:∃x,a.natAbs - b.natAbs=x:=⟨_,rfl⟩;have hzz:=ju8 hs hge hx;rw [hz] at hzz;obtain ⟨s,hs1⟩:∃s,decide (a < 0)=s:=⟨_,rfl⟩;obtain ⟨t,ht2⟩:∃s,decide (b < 0)=s:=⟨_,rfl⟩;obtain ⟨g,hg⟩:∃g,sgn (((Pos.nv B9 ds:Nat):Int) - ((Pos.nv B9 es:Nat):Int))=g:=⟨_,rfl⟩;rw [hs1,ht2] at hs;rw [hs1] at hzz;rw [hs1,ht2];have q0:(s==t)=false:=by rw [beq_eq_false_iff_ne];exact hs
 have HC:=qh (fun W (hb:Below w.heap.size w W)=>jcc (w:=W) (c:=c) (c':=d) hg (hd.below hb) (hd'.below hb) ht ht');have q1:decide ((0:Int)≤g)=true:=by rw [decide_eq_true_iff,←hg,hv,hv'];unfold sgn;split <;> (try split) <;> omega
 have hmn:m≤n:=by
  rcases Nat.lt_or_ge n m with e|e
  ·have:=Pos.nv_lt_of_len jal hd.dig ht' (by rw [hd.len,hd'.len];exact e);omega
  ·exact e
 have HA:=qh (fun W (hb:Below w.heap.size w W)=>(show Pos.nv B9 ds - Pos.nv B9 es=x by rw [hv,hv',hx]) ▸ jvu (c:=c) (c':=d) (hd.below hb) (hd'.below hb) (by omega) hmn (by rw [hv,hv'];exact hge));clear hmn;have HZ:=qh hzz;have HR:=qh (ai hl hl');clear hd ht hv hn hc hl hd' ht' hv' hn' hc' hl' hz hs hs1 ht2 hx hzz hL hM hge hg;go_enter func41,ntmps41;go_upto_region 1 with (fail)
 obtain ⟨V,hV⟩:∃V,((w.alloc (.cells #[.bool s, .slice A n c] 81)).alloc (.cells #[.bool t, .slice B m d] 81)).alloc (.cells #[.bool false, .slice none 0 0] 81)=V:=⟨_,rfl⟩;have v1:V.cell? ⟨w.heap.size,0,none⟩=some (.bool s):=by rw [←hV];simp [go_sem]
 have v2:V.cell? ⟨w.heap.size,1,none⟩=some (.slice A n c):=by rw [←hV];simp [go_sem]
 have v3:V.cell? ⟨w.heap.size+1,0,none⟩=some (.bool t):=by rw [←hV];simp [go_sem]
 have v4:V.cell? ⟨w.heap.size+1,1,none⟩=some (.slice B m d):=by rw [←hV];simp [go_sem]
 have bV:Below w.heap.size w V:=by rw [←hV];exact bi
 have HBV:=qh (show Blk V (w.heap.size+1+1) 81 #[.bool false, .slice none 0 0] from by
  rw [←hV];have:=Blk.new ((w.alloc (.cells #[.bool s, .slice A n c] 81)).alloc (.cells #[.bool t, .slice B m d] 81)) 81 #[.bool false, .slice none 0 0]
  simpa using this)
 have zV0:w.heap.size < V.heap.size:=by rw [←hV];simp;omega
 have zV1:w.heap.size+1 < V.heap.size:=by rw [←hV];simp
 have zV2:w.heap.size+1+1 < V.heap.size:=by rw [←hV];simp
 have sV:V.heap.size=w.heap.size+1+1+1:=by rw [←hV];simp
 rw [hV];clear hV;go_wp2_with (go_at_call 87;(with_reducible refine mo0 (HC.o _ (ja0 bV bi)) fun w1 hb1 hc1 hf1 _=> ?_))
 have hbV:Below V.heap.size V w1:=bi;have v1':=(hbV.cell (p:=⟨w.heap.size,0,none⟩) zV0).trans v1;have v2':=(hbV.cell (p:=⟨w.heap.size,1,none⟩) zV0).trans v2;have v3':=(hbV.cell (p:=⟨w.heap.size+1,0,none⟩) zV1).trans v3;have v4':=(hbV.cell (p:=⟨w.heap.size+1,1,none⟩) zV1).trans v4;have HB1:=qh (HBV.o.below hbV);have bV1:=ja0 bV hbV;have y0:w.heap.size < w1.heap.size:=Nat.lt_of_lt_of_le zV0 hbV.size;have y1:w.heap.size+1 < w1.heap.size:=Nat.lt_of_lt_of_le zV1 hbV.size;have y2:w.heap.size+1+1 < w1.heap.size:=Nat.lt_of_lt_of_le zV2 hbV.size;clear v1 v2 v3 v4 hc1 hf1 HBV;have HBV:=HB1;clear HB1;refine ja1 (fun w'=>Below w1.heap.size w1 w') [8] (by kernel_rfl) ?_;refine tl [(0,[1], .pointer (some ⟨w.heap.size,0,none⟩)),(1,[7], .bool s),(2,[3], .pointer (some ⟨w.heap.size,1,none⟩)),(3,[6], .slice A n c),(4,[5], .pointer (some ⟨w.heap.size+1,1,none⟩)),(5,[6], .slice B m d)] [_,_,_,_,_,_] rfl (by kernel_rfl) pk5 (by intros;simp only [tyq,ppq];go_simp) bq0 ?_;simp only [tlq,ppq];refine rd1 6 (by kernel_rfl) rfl (fun K hK=> ?_);go_simp;go_wp2_with (go_at_call 88;(with_reducible refine (HA.o _ (ja0 bV1 bi)).mono ?_);rintro e2 w2 ⟨C2,n2,c2,qs,rfl,k1,k2,k3,k0,k4,k5,hb2⟩;have _:=bm hb2;have H2:=qh (ai k1 (ai k2 (ai k3 (ai k4 k5))));clear k1 k2 k3 k4 k5 k0)
 have sS2:=qh (bst bq0 hb2);refine hK.out _ _ (fun _=>sS2.o) ?_;clear hK K;refine rd1 7 (by kernel_rfl) rfl (fun K hK=> ?_);go_simp;go_wp2_with (go_at_call 73;(with_reducible refine (jax (z:=z) H2.o.1 H2.o.2.1 H2.o.2.2.1 (by rw [H2.o.2.2.2.1];exact HZ.o)).mono ?_);rintro e3 w3 ⟨k3,rfl,h1,h2,h3,h4,hb3⟩;have _:=bm hb3;have H3:=qh (ai h1 (ai h2 (ai h3 h4)));clear h1 h2 h3 h4)
 have sS3:=qh (bst sS2.o hb3);refine hK.out _ _ (fun _=>sS3.o) ?_;clear hK K;have HB3:=HBV.o.below sS3.o;have k0:=HB3.cell 0;have k1:=HB3.cell 1;have kf:=HB3.frozen;simp only [List.getElem?_toArray,List.getElem?_cons_zero,List.getElem?_cons_succ] at k0 k1;refine rd1 8 (by kernel_rfl) rfl (fun K hK=> ?_);go_simp;refine hK.out _ _ (fun h=>(h (by decide)).elim) ?_;clear hK K;refine ja2 (by kernel_rfl) ?_ _;go_wp2;exact bodyPost_ret (v:= .agg #[.bool (decide (z < 0)), .slice C2 k3 c2]) (by simp [results,results41,go_sem,k0,k1]) rfl (jcd H3.o.1 H3.o.2.1 H3.o.2.2.1 H2.o.2.1 H2.o.2.2.1 (by have:=H3.o.2.2.2;have:=H2.o.2.2.2.2;have:=HR.o;omega) H3.o.2.2.2 HB3 _ _ (bq (by with_reducible repeat' first|assumption|constructor|go_size)))
theorem js7 (h:Rz w u a L) (h':Rz w v b M) (hL:L≤20000) (hM:M≤20000) (hs:¬(decide (a < 0)=decide (b < 0))) (hge:a.natAbs < b.natAbs):Calls prog 41 #[u,v] w (RzP (a+b) (max L M+1) w):=by
 obtain ⟨A,n,c,ds,rfl,hd,ht,hv,hn,hc,hl⟩:=h;obtain ⟨B,m,d,es,rfl,hd',ht',hv',hn',hc',hl'⟩:=h';obtain ⟨z,hz⟩:∃z,a+b=z:=⟨_,rfl⟩;rw [hz];obtain ⟨x,hx⟩:∃x,b.natAbs - a.natAbs=x:=⟨_,rfl⟩;have hzz:=jrc hs (Nat.le_of_lt hge) hx;rw [hz] at hzz;obtain ⟨s,hs1⟩:∃s,decide (a < 0)=s:=⟨_,rfl⟩;obtain ⟨t,ht2⟩:∃s,decide (b < 0)=s:=⟨_,rfl⟩;obtain ⟨g,hg⟩:∃g,sgn (((Pos.nv B9 ds:Nat):Int) - ((Pos.nv B9 es:Nat):Int))=g:=⟨_,rfl⟩;rw [hs1,ht2] at hs;rw [ht2] at hzz;rw [hs1,ht2];have q0:(s==t)=false:=by rw [beq_eq_false_iff_ne];exact hs
 have HC:=qh (fun W (hb:Below w.heap.size w W)=>jcc (w:=W) (c:=c) (c':=d) hg (hd.below hb) (hd'.below hb) ht ht');have q1:decide ((0:Int)≤g)=false:=by rw [decide_eq_false_iff_not,←hg,hv,hv'];unfold sgn;split <;> (try split) <;> omega
 have hmn:n≤m:=by
  rcases Nat.lt_or_ge m n with e|e
  ·have:=Pos.nv_lt_of_len jal hd'.dig ht (by rw [hd.len,hd'.len];exact e);omega
  ·exact e
 have HA:=qh (fun W (hb:Below w.heap.size w W)=>(show Pos.nv B9 es - Pos.nv B9 ds=x by rw [hv,hv',hx]) ▸ jvu (c:=d) (c':=c) (hd'.below hb) (hd.below hb) (by omega) hmn (by rw [hv,hv'];exact Nat.le_of_lt hge));clear hmn;have HZ:=qh hzz;have HR:=qh (ai hl hl');clear hd ht hv hn hc hl hd' ht' hv' hn' hc' hl' hz hs hs1 ht2 hx hzz hL hM hge hg;go_enter func41,ntmps41;go_upto_region 1 with (fail)
 obtain ⟨V,hV⟩:∃V,((w.alloc (.cells #[.bool s, .slice A n c] 81)).alloc (.cells #[.bool t, .slice B m d] 81)).alloc (.cells #[.bool false, .slice none 0 0] 81)=V:=⟨_,rfl⟩;have v1:V.cell? ⟨w.heap.size,0,none⟩=some (.bool s):=by rw [←hV];simp [go_sem]
 have v2:V.cell? ⟨w.heap.size,1,none⟩=some (.slice A n c):=by rw [←hV];simp [go_sem]
 have v3:V.cell? ⟨w.heap.size+1,0,none⟩=some (.bool t):=by rw [←hV];simp [go_sem]
 have v4:V.cell? ⟨w.heap.size+1,1,none⟩=some (.slice B m d):=by rw [←hV];simp [go_sem]
 have bV:Below w.heap.size w V:=by rw [←hV];exact bi
 have HBV:=qh (show Blk V (w.heap.size+1+1) 81 #[.bool false, .slice none 0 0] from by
  rw [←hV];have:=Blk.new ((w.alloc (.cells #[.bool s, .slice A n c] 81)).alloc (.cells #[.bool t, .slice B m d] 81)) 81 #[.bool false, .slice none 0 0]
  simpa using this)
 have zV0:w.heap.size < V.heap.size:=by rw [←hV];simp;omega
 have zV1:w.heap.size+1 < V.heap.size:=by rw [←hV];simp
 have zV2:w.heap.size+1+1 < V.heap.size:=by rw [←hV];simp
 have sV:V.heap.size=w.heap.size+1+1+1:=by rw [←hV];simp
 rw [hV];clear hV;go_wp2_with (go_at_call 87;(with_reducible refine mo0 (HC.o _ (ja0 bV bi)) fun w1 hb1 hc1 hf1 _=> ?_))
 have hbV:Below V.heap.size V w1:=bi;have v1':=(hbV.cell (p:=⟨w.heap.size,0,none⟩) zV0).trans v1;have v2':=(hbV.cell (p:=⟨w.heap.size,1,none⟩) zV0).trans v2;have v3':=(hbV.cell (p:=⟨w.heap.size+1,0,none⟩) zV1).trans v3;have v4':=(hbV.cell (p:=⟨w.heap.size+1,1,none⟩) zV1).trans v4;have HB1:=qh (HBV.o.below hbV);have bV1:=ja0 bV hbV;have y0:w.heap.size < w1.heap.size:=Nat.lt_of_lt_of_le zV0 hbV.size;have y1:w.heap.size+1 < w1.heap.size:=Nat.lt_of_lt_of_le zV1 hbV.size;have y2:w.heap.size+1+1 < w1.heap.size:=Nat.lt_of_lt_of_le zV2 hbV.size;clear v1 v2 v3 v4 hc1 hf1 HBV;have HBV:=HB1;clear HB1;refine ja1 (fun w'=>Below w1.heap.size w1 w') [8] (by kernel_rfl) ?_;refine tl [(0,[1], .pointer (some ⟨w.heap.size+1,0,none⟩)),(1,[7], .bool t),(2,[3], .pointer (some ⟨w.heap.size+1,1,none⟩)),(3,[6], .slice B m d),(4,[5], .pointer (some ⟨w.heap.size,1,none⟩)),(5,[6], .slice A n c)] [_,_,_,_,_,_] rfl (by kernel_rfl) pk5 (by intros;simp only [tyq,ppq];go_simp) bq0 ?_;simp only [tlq,ppq];refine rd1 6 (by kernel_rfl) rfl (fun K hK=> ?_);go_simp;go_wp2_with (go_at_call 88;(with_reducible refine (HA.o _ (ja0 bV1 bi)).mono ?_);rintro e2 w2 ⟨C2,n2,c2,qs,rfl,k1,k2,k3,k0,k4,k5,hb2⟩;have _:=bm hb2;have H2:=qh (ai k1 (ai k2 (ai k3 (ai k4 k5))));clear k1 k2 k3 k4 k5 k0)
 have sS2:=qh (bst bq0 hb2);refine hK.out _ _ (fun _=>sS2.o) ?_;clear hK K;refine rd1 7 (by kernel_rfl) rfl (fun K hK=> ?_);go_simp;go_wp2_with (go_at_call 73;(with_reducible refine (jax (z:=z) H2.o.1 H2.o.2.1 H2.o.2.2.1 (by rw [H2.o.2.2.2.1];exact HZ.o)).mono ?_);rintro e3 w3 ⟨k3,rfl,h1,h2,h3,h4,hb3⟩;have _:=bm hb3;have H3:=qh (ai h1 (ai h2 (ai h3 h4)));clear h1 h2 h3 h4)
 have sS3:=qh (bst sS2.o hb3);refine hK.out _ _ (fun _=>sS3.o) ?_;clear hK K;have HB3:=HBV.o.below sS3.o;have k0:=HB3.cell 0;have k1:=HB3.cell 1;have kf:=HB3.frozen;simp only [List.getElem?_toArray,List.getElem?_cons_zero,List.getElem?_cons_succ] at k0 k1;refine rd1 8 (by kernel_rfl) rfl (fun K hK=> ?_);go_simp;refine hK.out _ _ (fun h=>(h (by decide)).elim) ?_;clear hK K;refine ja2 (by kernel_rfl) ?_ _;go_wp2;exact bodyPost_ret (v:= .agg #[.bool (decide (z < 0)), .slice C2 k3 c2]) (by simp [results,results41,go_sem,k0,k1]) rfl (jcd H3.o.1 H3.o.2.1 H3.o.2.2.1 H2.o.2.1 H2.o.2.2.1 (by have:=H3.o.2.2.2;have:=H2.o.2.2.2.2;have:=HR.o;omega) H3.o.2.2.2 HB3 _ _ (bq (by with_reducible repeat' first|assumption|constructor|go_size)))
theorem jjK (h:Rz w u a L) (h':Rz w v b M) (hL:L≤20000) (hM:M≤20000):Calls prog 41 #[u,v] w (RzP (a+b) (max L M+1) w):=by
 by_cases hs:decide (a < 0)=decide (b < 0)
 ·exact jnU h h' hL hM hs
 ·rcases Nat.lt_or_ge a.natAbs b.natAbs with e|e
  ·exact js7 h h' hL hM hs e
  ·exact jsd h h' hL hM hs e
end

theorem jf0 {x:Nat} (h:0 < x):dD x 0=dD x 1:=by rw [jn4 x 0 h (by omega),jn4 x 1 h (by omega)]
theorem jmL:∀(k h l:Nat),0 < h→l < 10^k→dD (h*10^k+l) 1=dD h 1++dD l k
 | 0,h,l,_,hl=>by
   have:l=0:=by simpa using hl
   subst this;rw [jcY];simp
 | k+1,h,l,h0,hl=>by
   have hp:0 < h*10^k:=Nat.mul_pos h0 (Nat.pow_pos (by omega))
   have e1:(h*10^(k+1)+l) / 10=h*10^k+l / 10:=by
    rw [Nat.pow_succ,←Nat.mul_assoc];omega
   have e2:(h*10^(k+1)+l) % 10=l % 10:=by
    rw [Nat.pow_succ,←Nat.mul_assoc];omega
   have hl':l / 10 < 10^k:=jb3 hl;rw [jbz (n:=h*10^(k+1)+l) (k:=1) (by omega),e1,e2,jf0 (by omega),jmL k h (l / 10) h0 hl',jbz (n:=l) (k:=k+1) (by omega),List.append_assoc];rfl
theorem jqy:∀(k l:Nat),l < 10^k→(dD l k).length≤k
 | 0,l,hl=>by
   have:l=0:=by simpa using hl
   subst this;rw [jcY];simp
 | k+1,l,hl=>by
   rw [jbz (by omega),List.length_append];have:=jqy k (l / 10) (jb3 hl);simp only [Nat.add_sub_cancel,List.length_singleton];omega
def zt (a:Int):List UInt8:=if a < 0 then 45::Lib.decDigits a.natAbs else Lib.decDigits a.natAbs
theorem jp6 {h l:Nat} (h0:0 < h) (hl:l < B9):Lib.decDigits (l+B9*h)=Lib.decDigits h++dD l 9:=by
 have:=jmL 9 h l h0 (by rw [jaq] at hl;omega);rw [jew,jew] at this;rw [←this,jaq]
 congr 1
 omega
theorem jdx {l:List Nat} (hd:Pos.Dig B9 l) (h0:0 < l.length):(Lib.decDigits (Pos.nv B9 l)).length≤9*l.length:=by
 refine jb0 (k:=9*l.length) ?_ (by omega);have:=Pos.nv_lt hd;rwa [show (10:Nat)^(9*l.length)=B9^l.length by rw [Nat.pow_mul];rfl]
theorem jhu {w:World} {n:Nat} (hn:n < 9223372036854775808):Calls prog 72 #[.int .i64 (n:Int), .int .i64 9] w fun e w'=>e= .returned (bs (dD n 9))∧Below w.heap.size w w':=jeV (k:=9) (by omega) hn
section
variable {w:World} {u:Value} {a:Int} {L:Nat}
theorem jb7 (h:Rz w u a L) (hL:L≤20000):Calls prog 28 #[u] w fun e w'=>e= .returned (bs (zt a))∧Below w.heap.size w w':=by
 obtain ⟨A,n,c,ds,rfl,hd,ht,hv,hn,hc,hl⟩:=h;obtain ⟨s,hs⟩:∃s,decide (a < 0)=s:=⟨_,rfl⟩;rw [hs];rcases Nat.eq_zero_or_pos n with e|hpos
 ·subst e;have e0:ds=[]:=List.length_eq_zero_iff.1 hd.len;have ha:a=0:=by rw [e0] at hv;simp [Pos.nv] at hv;omega
  subst ha;have hz:zt 0=[48]:=by decide+kernel
  rw [hz];clear hd ht hv hn hc hl hs hz e0;go_enter func28,ntmps28;go_wp2;go_ret;exact ⟨rfl,bi⟩
 ·obtain ⟨R,hR⟩:∃R,Lib.decDigits a.natAbs=R:=⟨_,rfl⟩;have hzt:zt a=if s then 45::R else R:=by unfold zt;rw [←hs,hR];by_cases e:a < 0 <;> simp [e]
  rw [hzt];obtain ⟨b,o,rfl,hbl,hcell⟩:=hd.at_ hpos;have hct:=hcell (n - 1) (by omega)
  have htop:0 < dg ds (n - 1):=by
   have:=ht.last (by rw [hd.len];omega);rw [gd (by rw [hd.len];omega)];have e:ds[ds.length - 1]'(by rw [hd.len];omega)=ds[n - 1]'(by rw [hd.len];omega):=by simp only [hd.len]
   rw [←e];omega
  have hdrop:ds.drop (n - 1)=[dg ds (n - 1)]:=by
   rw [jgU (by rw [hd.len];omega),List.drop_eq_nil_of_le (by rw [hd.len];omega)]
  obtain ⟨x,hx⟩:∃x,dg ds (n - 1)=x:=⟨_,rfl⟩;have hxl:x < B9:=by rw [←hx];exact jci hd.dig _
  rw [hx] at hct htop hdrop;have HT:=qh (fun W=>jcO (w:=W) (n:=x) (by rw [jaq] at hxl;omega));have HD:=qh (ai hd.len (ai hd.dig (ai (show n≤20000 by omega) (ai hcell (ai hbl (ai (show Lib.decDigits (Pos.nv B9 ds)=R by rw [hv];exact hR) (ai hdrop htop)))))));have p1:((n:Int)==0)=false:=by rw [beq_eq_false_iff_ne];omega
  have p2:(n==0)=false:=by rw [beq_eq_false_iff_ne];omega
  have p3:wrap64 ((n:Int) - 1)=(n:Int) - 1:=by unfold wrap64;omega
  have p4:¬((n:Int) < 1):=by omega
  have p5:((n:Int) - 1).toNat=n - 1:=by omega
  have p6:(n:Int) - 1 < (n:Int):=by omega
  have p7:¬(n=0):=by omega
  have p8:wrap64 ((n:Int) - 2)=(n:Int) - 2:=by unfold wrap64;omega
  clear hd ht hv hn hc hl hs hR hzt hcell hx hxl hdrop htop;go_enter func28,ntmps28;go_wp2_with (go_at_call 72;(with_reducible refine mo1 w (HT.o _) (by go_size) fun w1 hb1 hc1 hf1 z1_0 _=> ?_))
  have b0:w1.cell? ⟨w.heap.size,0,none⟩=some (.bool s):=by simp [go_sem,hc1]
  have b1:w1.cell? ⟨w.heap.size,1,none⟩=some (.slice (some ⟨b,o,none⟩) n c):=by simp [go_sem,hc1]
  have bW1:Below w.heap.size w w1:=bi;have hbox:w.heap.size < w1.heap.size:=by have:=hb1.size;simp at this;omega
  have HP:=qh p8;clear p1 p2 p3 p4 p5 p6 p7 p8 hb1 hc1 hf1 hct
  go_loopw [3,4] (fun v i wr=>∃(k:Nat),v=bs (Lib.decDigits (Pos.nv B9 (ds.drop k)))∧i= .int .i64 ((k:Int) - 1)∧k < n∧Hd (0 < Pos.nv B9 (ds.drop k))∧Below w1.heap.size w1 wr) (fun _ i _=>(intOf i+1).toNat)
  case atStart=>exact ⟨n - 1,by rw [HD.o.2.2.2.2.2.2.1,Pos.nv_one],by rw [HP.o];congr 1;omega,by omega,by rw [HD.o.2.2.2.2.2.2.1,Pos.nv_one];exact HD.o.2.2.2.2.2.2.2,Below.refl _ _⟩
  case round=>
   obtain ⟨k,rfl,rfl,hk,HV,hbr⟩:=hrel
   (try have _:=bm hbr)
   have b0':=(hbr.cell (p:=⟨w.heap.size,0,none⟩) hbox).trans b0;have b1':=(hbr.cell (p:=⟨w.heap.size,1,none⟩) hbox).trans b1;cases k with
   | zero=>
     have q0:decide ((0:Int)≤((0:Nat):Int) - 1)=false:=by decide
     rw [List.drop_zero,HD.o.2.2.2.2.2.1]
     have hRl:R.length≤9*20000:=by
      have h1:=jdx HD.o.2.1 (by rw [HD.o.1];omega);rw [HD.o.2.2.2.2.2.1,HD.o.1] at h1;have:=HD.o.2.2.1;omega
     have c1:(⟨#[45]⟩:ByteArray)++⟨R.toArray⟩=⟨(45::R).toArray⟩:=jaj [45] R;have c2:R.length≤9223372036854775806:=by omega
     have c3:¬(9223372036854775807 < 1+R.length):=by omega
     have HDD:=HD;clear hRl HD HT HP hk HV;cases s
     ·go_wp2;go_ret;exact ⟨rfl,bi⟩
     ·go_wp2;go_ret;exact ⟨rfl,bi⟩
   | succ k=>
     have q0:decide ((0:Int)≤((k+1:Nat):Int) - 1)=true:=by rw [decide_eq_true_iff];omega
     have hi1:((k+1:Nat):Int) - 1=(k:Int):=by omega
     rw [hi1] at q0 ⊢;have hcl:=((bW1.trans (hbr.mono bW1.size)).cell (p:=⟨b,o+k,none⟩) HD.o.2.2.2.2.1).trans (HD.o.2.2.2.1 k (by omega));have hxl:=jci HD.o.2.1 k;have hdr:=jgU (ds:=ds) (i:=k) (by rw [HD.o.1];omega);obtain ⟨x2,hx2⟩:∃x,dg ds k=x:=⟨_,rfl⟩;rw [hx2] at hcl hxl hdr;obtain ⟨y,hy⟩:∃y,Pos.nv B9 (ds.drop (k+1))=y:=⟨_,rfl⟩;have hnv:Pos.nv B9 (ds.drop k)=x2+B9*y:=by rw [hdr,jj2,hy]
     rw [hy] at HV ⊢;have hcat:=jp6 (h:=y) (l:=x2) HV.o (by rw [jaq];exact hxl);rw [←hnv] at hcat
     have h1:(Lib.decDigits y).length≤9*20000:=by
      have:=jdx (HD.o.2.1.drop (k+1)) (by rw [List.length_drop,HD.o.1];omega);rw [hy,List.length_drop,HD.o.1] at this;have:=HD.o.2.2.1;omega
     have h2:=jqy 9 x2 (by omega);have HX:=qh (fun W=>jhu (w:=W) (n:=x2) (by omega));obtain ⟨S,hS⟩:∃S,Lib.decDigits y=S:=⟨_,rfl⟩;obtain ⟨E,hE⟩:∃S,dD x2 9=S:=⟨_,rfl⟩;rw [hS] at hcat h1 ⊢;rw [hE] at hcat h2 HX;have c1:(⟨S.toArray⟩:ByteArray)++⟨E.toArray⟩=⟨(S++E).toArray⟩:=jiU S E;have c2:S.length≤9223372036854775807 - E.length:=by omega
     have c3:¬(9223372036854775807 < S.length+E.length):=by omega
     have m1:wrap64 ((k:Int) - 1)=(k:Int) - 1:=by have:=HD.o.2.2.1;unfold wrap64;omega
     have r1:k < n:=by omega
     have HN:=qh (ai hcat (show 0 < Pos.nv B9 (ds.drop k) by rw [hnv];have:=Nat.mul_pos jal HV.o;omega));have HM:=qh m1;clear hi1 hxl hdr hx2 hy hnv hcat h1 h2 hS hE m1 hk HT HV HP;go_wp2_with (go_at_call 72;(with_reducible refine mo0 (HX.o _) fun w2 hb2 hc2 hf2 _=> ?_))
     exact ⟨⟨k,by rw [HN.o.1],by first|rfl|rw [HM.o],r1,HN.o.2,bi⟩,by (try rw [HM.o]);simp [intOf]⟩
theorem jrz {x:Nat} (h:x < 9223372036854775808):wrap64 (x:Int)=(x:Int):=by unfold wrap64;omega
theorem jmV {r:Nat} (h:r < 9223372036854775808):(r:Int).tmod 1000000000=((r % B9:Nat):Int)∧(r:Int).tdiv 1000000000=((r / B9:Nat):Int)∧wrap64 ((r / B9:Nat):Int)=((r / B9:Nat):Int)∧decide (((r % B9:Nat):Int) < 0)=false∧r % B9 < B9:=by
 refine ⟨rfl,rfl, ?_, ?_,Nat.mod_lt _ jal⟩
 ·have h1:r / B9≤r:=Nat.div_le_self _ _;exact jrz (Nat.lt_of_le_of_lt h1 h)
 ·rw [decide_eq_false_iff_not];omega
theorem jmc {r N P:Nat} {ds:List Nat} (hN:N < 9223372036854775808) (h2:Pos.nv B9 ds+B9^ds.length*r=N) (h3:ds.length≤3) (h0:0 < r):ds.length≤2:=by
 rcases Nat.lt_or_ge ds.length 3 with e|e
 ·exact Nat.le_of_lt_succ e
 ·exfalso;have e3:ds.length=3:=Nat.le_antisymm h3 e;rw [e3] at h2;have h4:B9^3≤B9^3*r:=Nat.le_mul_of_pos_right _ h0;have h5:1000000000000000000000000000≤B9^3:=by decide
  have h6:B9^3*r≤N:=by rw [←h2];exact Nat.le_add_left _ _
  exact absurd (Nat.lt_of_le_of_lt (Nat.le_trans h5 (Nat.le_trans h4 h6)) hN) (by decide)
theorem jlt {r N:Nat} {ds:List Nat} (hN:N < 9223372036854775808) (h1:Pos.Dig B9 ds) (h2:Pos.nv B9 ds+B9^ds.length*r=N) (h3:ds.length≤3) (h0:0 < r) (hr:r≤N):
  ∃d q:Nat,(r:Int).tmod 1000000000=(d:Int)∧(r:Int).tdiv 1000000000=(q:Int)∧wrap64 (q:Int)=(q:Int)∧decide ((d:Int) < 0)=false∧q < r∧ds.length≤2∧Hd (Pos.Dig B9 (ds++[d])∧Pos.nv B9 (ds++[d])+B9^(ds++[d]).length*q=N∧(ds++[d]).length≤3):=by
 obtain ⟨m1,m2,m3,m4,m5⟩:=jmV (r:=r) (Nat.lt_of_le_of_lt hr hN);have hl:=jmc (P:=0) hN h2 h3 h0;refine ⟨r % B9,r / B9,m1,m2,m3,m4,Nat.div_lt_self h0 (by decide),hl,h1.snoc m5, ?_, ?_⟩
 ·rw [Pos.nv_snoc,List.length_append,List.length_singleton,Nat.pow_succ,Nat.mul_assoc,Nat.add_assoc,←Nat.mul_add,Nat.mod_add_div,h2]
 ·rw [List.length_append,List.length_singleton];exact Nat.succ_le_succ hl
theorem jpv {r N P:Nat} {x:Nat} (hP:0 < P) (h:x+P*r=N):r≤N:=by
 rw [←h];exact Nat.le_trans (Nat.le_mul_of_pos_left r hP) (Nat.le_add_left _ _)
theorem jhW {N:Nat} (hN:N < 9223372036854775808):Calls prog 29 #[.int .i64 (N:Int)] w (RzP (N:Int) 3 w):=by
 have q0:decide ((N:Int) < 0)=false:=by rw [decide_eq_false_iff_not];omega
 have HN:=qh hN;clear hN;go_enter func29,ntmps29;go_wp2
 go_loopw [0,3] (fun u v wr=>∃(r:Nat) (ds:List Nat),u= .int .i64 (r:Int)∧Below w.heap.size w wr∧jbW wr (w.heap.size+1) v ds.length (iz ds)∧Blk wr w.heap.size 81 #[.bool false, .slice none 0 0]∧Hd (Pos.Dig B9 ds∧Pos.nv B9 ds+B9^ds.length*r=N∧ds.length≤3)) (fun u _ _=>(intOf u).toNat)
 case atStart=>exact ⟨N,[],rfl,bi,World.ownsRow_nil _ _ _ _,Blk.new w _ _,Pos.Dig.nil,by simp [Pos.nv],by simp⟩
 case round=>
  obtain ⟨r,ds,rfl,hb,how,hbx,HV⟩:=hrel
  (try have _:=bm hb)
  (try have _:=bm hbx)
  have hrN:r≤N:=jpv (Nat.pow_pos jal) HV.o.2.1;have HOW:=qh how;have HBX:=qh hbx;have hsz:w.heap.size < wr.heap.size:=hbx.lt;by_cases h0:r=0
  ·subst h0;have hv:Pos.nv B9 ds=N:=by have:=HV.o.2.1;rw [Nat.mul_zero,Nat.add_zero] at this;exact this
   obtain ⟨A5,c5,rfl,hd5,h51,h52⟩:=jbW.dv how rfl HV.o.1 (by have:=HV.o.2.2;omega);have HD:=qh (ai hd5 (ai h51 (ai h52 hv)));have k0:=hbx.cell 0;have k1:=hbx.cell 1;simp only [List.getElem?_toArray,List.getElem?_cons_zero,List.getElem?_cons_succ] at k0 k1;have kf:=hbx.frozen;have HL3:=HV.o.2.2;clear how hbx hv hd5 h51 h52 hrN HV HOW;go_wp2_with (go_at_call 73;(with_reducible refine (jax (z:=(N:Int)) HD.o.1 HD.o.2.1 HD.o.2.2.1 (by rw [HD.o.2.2.2];simp)).mono ?_);rintro e3 w3 ⟨k3,rfl,h1,h2,h3,h4,hb3⟩;(try have _:=bm hb3);have H3:=qh (ai h1 (ai h2 (ai h3 h4)));clear h1 h2 h3 h4;have HB3:=HBX.o.below hb3;have k0':=HB3.cell 0;have k1':=HB3.cell 1;have kf':=HB3.frozen;simp only [List.getElem?_toArray,List.getElem?_cons_zero,List.getElem?_cons_succ] at k0' k1')
   exact bodyPost_ret (v:= .agg #[.bool (decide ((N:Int) < 0)), .slice A5 k3 c5]) (by simp [results,results29,go_sem,k0',k1',q0]) rfl (jcd H3.o.1 H3.o.2.1 H3.o.2.2.1 HD.o.2.1 HD.o.2.2.1 (Nat.le_trans H3.o.2.2.2 HL3) H3.o.2.2.2 HB3 _ _ bi)
  ·have p0:((r:Int) != 0)=true:=by rw [bne_iff_ne];omega
   have p1:(r != 0)=true:=by rw [bne_iff_ne];omega
   obtain ⟨d,q,m1,m2,m3,m4,hlt,hl2,HNEW⟩:=jlt HN.o HV.o.1 HV.o.2.1 HV.o.2.2 (Nat.pos_of_ne_zero h0) hrN;have HQ:=qh (ai hlt hl2);have HM:=qh (ai m2 m3);clear how hbx HV hrN h0 hlt hl2;go_wp2_with (at_builtin;refine jac (x:=(d:Int)) rfl _ _ rfl rfl rfl rfl (HOW.o.below bi) (jaY ds) (by have:=HQ.o.2;omega) (by have:=hb.size;simp;omega) (by simp) ?_;intro g5 c5 w5 ho5 hc5 hg5;clear hc5)
   exact ⟨⟨q,ds++[d],by first|rfl|rw [HM.o.2],(ja5 hb _).trans (jab (base:=w.heap.size) hg5 (by have:=hb.size;simp;omega) (fun k e=>Nat.le_of_succ_le (HOW.o.ge k e))),by rw [List.length_append,List.length_singleton,←jbn];exact ho5,(hg5.block w.heap.size (by simp;omega) (fun e=>by have:=HOW.o.ge _ e.symm;omega)).trans (HBX.o.alloc _),HNEW⟩,by rw [HM.o.2];exact HQ.o.1⟩
end
end Go.Proofs.YtfagcpcikjlboaaGreatDoor
