/- Parts. -/
import Derived.Test.YtpkcjfpgemdfdaaGreatDoorHqG
set_option linter.all false
set_option maxRecDepth 100000
set_option maxHeartbeats 8000000
namespace Go.Proofs.YtpkcjfpgemdfdaaGreatDoor
open Go Go.RowKit Go.Proofs.Tryz

theorem jzg {a b y:Rat}:Rq.cmpQ a y*Rq.cmpQ b y < 0↔(a < y∧y < b)∨(b < y∧y < a):=by
 unfold Rq.cmpQ
 (repeat' split) <;> simp <;> grind
theorem jz5 {p q:Rat×Rat} {x y:Rat} (h:p.1 < q.1) (hl:lin p q x=y) (h2:q.2 - p.2≠0):p.1+(q.1 - p.1)*(y - p.2) / (q.2 - p.2)=x:=by
 have hd:q.1 - p.1≠0:=by grind
 obtain ⟨k,hk⟩:∃k,q.2 - p.2=k:=⟨_,rfl⟩;obtain ⟨d,hdd⟩:∃d,q.1 - p.1=d:=⟨_,rfl⟩;unfold lin at hl;rw [hk,hdd] at hl;rw [hk] at h2;rw [hdd] at hd;rw [hk,hdd,←hl];have e1:k*(x - p.1) / d*d=k*(x - p.1):=Rat.div_mul_cancel hd;have e2:d*(p.2+k*(x - p.1) / d - p.2)=k*(x - p.1):=by grind
 rw [e2];have e3:k*(x - p.1) / k*k=k*(x - p.1):=Rat.div_mul_cancel h2
 have e4:k*(x - p.1) / k=x - p.1:=by
  rw [Rat.div_def,Rat.mul_comm k,Rat.mul_assoc,Rat.mul_inv_cancel _ h2,Rat.mul_one]
 rw [e4];grind
theorem jA5 {p q:Rat×Rat} {y:Rat} (h:p.1 < q.1) (h2:q.2 - p.2≠0):lin p q (p.1+(q.1 - p.1)*(y - p.2) / (q.2 - p.2))=y:=by
 have hd:q.1 - p.1≠0:=by grind
 obtain ⟨k,hk⟩:∃k,q.2 - p.2=k:=⟨_,rfl⟩;obtain ⟨d,hdd⟩:∃d,q.1 - p.1=d:=⟨_,rfl⟩;unfold lin;rw [hk] at h2;rw [hdd] at hd;rw [hk,hdd];have e1:d*(y - p.2) / k*k=d*(y - p.2):=Rat.div_mul_cancel h2;have e2:k*(p.1+d*(y - p.2) / k - p.1)=d*(y - p.2):=by grind
 rw [e2]
 have e4:d*(y - p.2) / d=y - p.2:=by
  rw [Rat.div_def,Rat.mul_comm d,Rat.mul_assoc,Rat.mul_inv_cancel _ hd,Rat.mul_one]
 rw [e4];grind
theorem jA1 {p q:Rat×Rat} {y:Rat} (h:p.1 < q.1) (hy:(p.2 < y∧y < q.2)∨(q.2 < y∧y < p.2)):p.1≤p.1+(q.1 - p.1)*(y - p.2) / (q.2 - p.2)∧p.1+(q.1 - p.1)*(y - p.2) / (q.2 - p.2)≤q.1:=by
 have hk:q.2 - p.2≠0:=by grind
 obtain ⟨t,ht⟩:∃t,(y - p.2) / (q.2 - p.2)=t:=⟨_,rfl⟩;have t1:t*(q.2 - p.2)=y - p.2:=by rw [←ht,Rat.div_mul_cancel hk]
 have e:(q.1 - p.1)*(y - p.2) / (q.2 - p.2)=(q.1 - p.1)*t:=by rw [←ht,Rat.div_def,Rat.div_def,Rat.mul_assoc]
 have t0:0≤t∧t≤1:=by
  rcases hy with ⟨h1,h2⟩|⟨h1,h2⟩
  ·constructor
   ·rcases (Rat.le_total:(0:Rat)≤t∨t≤0) with h|h
    ·exact h
    ·exfalso;have:=Rat.mul_nonneg (show 0≤ -t by grind) (show 0≤q.2 - p.2 by grind)
     grind
   ·rcases (Rat.le_total:(1:Rat)≤t∨t≤1) with h|h
    ·exfalso;have:=Rat.mul_nonneg (show 0≤t - 1 by grind) (show 0≤q.2 - p.2 by grind)
     grind
    ·exact h
  ·constructor
   ·rcases (Rat.le_total:(0:Rat)≤t∨t≤0) with h|h
    ·exact h
    ·exfalso;have:=Rat.mul_nonneg (show 0≤ -t by grind) (show 0≤p.2 - q.2 by grind)
     grind
   ·rcases (Rat.le_total:(1:Rat)≤t∨t≤1) with h|h
    ·exfalso;have:=Rat.mul_nonneg (show 0≤t - 1 by grind) (show 0≤p.2 - q.2 by grind)
     grind
    ·exact h
 rw [e];have h3:=Rat.mul_nonneg (show 0≤q.1 - p.1 by grind) t0.1;have h4:=Rat.mul_nonneg (show 0≤q.1 - p.1 by grind) (show 0≤1 - t by grind);constructor <;> grind
theorem jzA {p q:Rat×Rat} {r:List (Rat×Rat)} {x:Rat} (hu:Ups (p::q::r)) (hx:q.1≤x):atQ x (p::q::r)=atQ x (q::r):=by
 show (if x≤q.1 then lin p q x else atQ x (q::r))=atQ x (q::r)
 by_cases h:x≤q.1
 ·rw [if_pos h];have e:x=q.1:=Rat.le_antisymm h hx;rw [e,jyG (by have:=hu 0 (by simp);simpa using this)];have:=jyF (i:=0) (qs:=q::r) hu.tail (by simp);simpa using this.symm
 ·rw [if_neg h]
theorem jzC {x:Rat}:∀{qs:List (Rat×Rat)},Ups qs→0 < qs.length→(qs.getD 0 (0,0)).1≤x→x≤(qs.getD (qs.length - 1) (0,0)).1→
  ∃u,jzO (atQ x qs) qs=(u,true)∧(qs.getD 0 (0,0)).1≤u∧u≤x∧atQ u qs=atQ x qs∧∀y,Dz 110 y→y=atQ x qs→(∀i,i < qs.length→Dz 12 (qs.getD i (0,0)).1∧Dz 12 (qs.getD i (0,0)).2)→Dz 220 u
 | [],_,h,_,_=>by simp at h
 | [p],_,_,h1,h2=>by
   simp only [List.getD_cons_zero] at h1;refine ⟨p.1, ?_,by simp,h1,rfl,fun y _ _ hd=>((hd 0 (by simp)).1).mono (by omega)⟩;show (if p.2=p.2 then _ else _)=_
   rw [if_pos rfl]
 | p::q::r,hu,_,h1,h2=>by
   simp only [List.getD_cons_zero] at h1;have hpq:p.1 < q.1:=by have:=hu 0 (by simp);simpa using this
   obtain ⟨y,hy⟩:∃y,atQ x (p::q::r)=y:=⟨_,rfl⟩;rw [hy];show ∃u,(if p.2=y then (p.1,true) else if Rq.cmpQ p.2 y*Rq.cmpQ q.2 y < 0 then (p.1+(q.1 - p.1)*(y - p.2) / (q.2 - p.2),true) else jzO y (q::r))=(u,true)∧_
   by_cases h3:p.2=y
   ·rw [if_pos h3];refine ⟨p.1,rfl,by simp,h1, ?_,fun _ _ _ hd=>((hd 0 (by simp)).1).mono (by omega)⟩;have:=jyF (i:=0) hu (by simp);simp only [List.getD_cons_zero] at this;rw [this,h3]
   ·rw [if_neg h3];by_cases h4:Rq.cmpQ p.2 y*Rq.cmpQ q.2 y < 0
    ·rw [if_pos h4];have hm:=jzg.1 h4;have hk:q.2 - p.2≠0:=by grind
     have hb:=jA1 hpq hm;refine ⟨_,rfl,by simpa using hb.1, ?_, ?_,fun z hz e hd=> ?_⟩
     ·rcases (Rat.le_total:x≤q.1∨q.1≤x) with h|h
      ·have e:lin p q x=y:=by
        rw [←hy];show _=if x≤q.1 then lin p q x else _
        rw [if_pos h]
       rw [jz5 hpq e hk];exact Rat.le_refl
      ·exact Rat.le_trans hb.2 h
     ·show (if _≤q.1 then lin p q _ else _)=y
      rw [if_pos hb.2,jA5 hpq hk]
     ·have d1:=hd 0 (by simp);have d2:=hd 1 (by simp);simp only [List.getD_cons_zero,List.getD_cons_succ] at d1 d2;rw [e] at hz;exact (d1.1.add (((d2.1.sub d1.1).mul (hz.sub d1.2)).div (d2.2.sub d1.2) hk)).mono (by omega)
    ·rw [if_neg h4]
     have hqx:q.1≤x:=by
      rcases (Rat.le_total:q.1≤x∨x≤q.1) with h|h
      ·exact h
      ·have e:lin p q x=y:=by
        rw [←hy];show _=if x≤q.1 then lin p q x else _
        rw [if_pos h]
       by_cases hk:q.2 - p.2=0
       ·exfalso;apply h3;rw [←e];unfold lin;rw [hk,Rat.zero_mul,Rat.div_def,Rat.zero_mul,Rat.add_zero]
       ·by_cases hqy:q.2=y
        ·have e1:=jz5 hpq e hk;have e2:=jz5 (x:=q.1) hpq (jyG hpq) hk;rw [←hqy] at e1;rw [←e1,e2];exact Rat.le_refl
        ·exfalso;apply h4;rw [jzg];rcases (Rat.le_total:p.2≤q.2∨q.2≤p.2) with h5|h5
         ·have:=jyJ (m:=p.2) (M:=q.2) hpq h1 h ⟨Rat.le_refl,h5⟩ ⟨h5,Rat.le_refl⟩;rw [e] at this;exact .inl ⟨by grind,by grind⟩
         ·have:=jyJ (m:=q.2) (M:=p.2) hpq h1 h ⟨h5,Rat.le_refl⟩ ⟨Rat.le_refl,h5⟩;rw [e] at this;exact .inr ⟨by grind,by grind⟩
     rw [jzA hu hqx] at hy;obtain ⟨u,k1,k2,k3,k4,k5⟩:=jzC (x:=x) (qs:=q::r) hu.tail (by simp) (by simpa using hqx) (by simpa using h2);rw [hy] at k1 k4 k5;simp only [List.getD_cons_zero] at k2;refine ⟨u,k1,by simpa using Rat.le_trans (Rat.le_of_lt hpq) k2,k3,by rw [jzA hu k2,k4],fun z hz e hd=>k5 z hz e fun i hi=> ?_⟩;have:=hd (i+1) (by simp at hi ⊢;omega);simpa using this

def ptF (b:List UInt8×List UInt8):Bool:=decide (b.1.length≤12) && decide (b.2.length≤12)
theorem jzM {α:Type} {l:List α} {f:α→Bool} {i:Nat} {d:α} (hi:i < l.length) (h:(l.take i).all f=true) (hx:f (l.getD i d)=true):(l.take (i+1)).all f=true:=by
 rw [List.take_add_one,List.getElem?_eq_getElem hi,List.all_append,h,Bool.true_and];rw [List.getD_eq_getElem?_getD,List.getElem?_eq_getElem hi] at hx;simpa using hx
section
variable {w:World} {A:Option Addr} {n c:Nat} {ls:List (List UInt8×List UInt8)} {a:List UInt8} {x:Rat}
theorem jzB {r:Bool} (h:Pv w A n ls) (hn:n < 9223372036854775808) (hr:(ls.all ptF && (decide (n≤8) && decide (cvE ls n=0)))=r):
  Calls prog 4 #[.slice A n c, .int .i64 8] w fun e w'=>e= .returned (.bool r)∧Below w.heap.size w w':=by
 have H:=qh h;have HN:=qh hn;have HR:=qh hr
 have HCV:=qh (fun (hl:ls.all ptF=true) (h8:n≤8) (K:Int) (hK:cvE ls n=K) W (hb:Below w.heap.size w W)=>jzw (c:=c) (h.below hb) (by omega) (fun l hm=>by
  have:=List.all_eq_true.1 hl l hm;unfold ptF at this;simp at this
  omega) hK)
 clear h hn hr;go_enter func4,ntmps4;go_wp2
 go_loopw [5] (fun u wr=>∃(i:Nat),u= .int .i64 (i:Int)∧i≤n∧Below w.heap.size w wr∧(ls.take i).all ptF=true∧((ls.drop i).all ptF && (decide (n≤8) && decide (cvE ls n=0)))=r) (fun u _=>n - (intOf u).toNat)
 case atStart=>exact ⟨0,rfl,Nat.zero_le _,bi,rfl,HR.o⟩
 case round=>
  obtain ⟨i,rfl,hin,hb,ht,hc⟩:=hrel;have _:=bm hb;have hnn:=HN.o;by_cases hi:i < n
  ·have q0:decide ((i:Int) < (n:Int))=true:=by simp;exact hi
   have q9:decide (i < n)=true:=by simpa using hi
   obtain ⟨b,o,rfl,hbl,hcell⟩:=(H.o.below hb).at_ (by omega);obtain ⟨y0,y1⟩:=hcell i hi;have hil:i < ls.length:=by rw [H.o.len];exact hi
   rw [jd5 (d:=([],[])) hil,List.all_cons,Bool.and_assoc] at hc;obtain ⟨⟨x0,x1⟩,hx⟩:∃x,ls.getD i ([],[])=x:=⟨_,rfl⟩;rw [hx] at y0 y1 hc;dsimp only at y0 y1;have HI:=qh hi;by_cases e1:x0.length≤12
   ·have g1:decide ((12:Int) < (x0.length:Int))=false:=by rw [decide_eq_false_iff_not];omega
    by_cases e2:x1.length≤12
    ·have g2:decide ((12:Int) < (x1.length:Int))=false:=by rw [decide_eq_false_iff_not];omega
     have HC:=qh (show ((ls.drop (i+1)).all ptF && (decide (n≤8) && decide (cvE ls n=0)))=r by rw [←hc];simp [ptF,e1,e2]);have HT:=qh (jzM (d:=([],[])) hil ht (by rw [hx];simp [ptF,e1,e2]));clear hc hx hil hcell e1 e2 ht;go_wp2;exact ⟨⟨i+1,by simp,HI.o,ja0 hb bi,HT.o,HC.o⟩,by have:=HI.o;simp [intOf];omega⟩
    ·have g2:decide ((12:Int) < (x1.length:Int))=true:=by rw [decide_eq_true_iff];omega
     have hR:false=r:=by rw [←hc];simp [ptF,e2]
     subst hR;clear hc hx hil hcell e1 e2 HR ht;go_wp2;go_ret;exact ⟨rfl,ja0 hb bi⟩
   ·have g1:decide ((12:Int) < (x0.length:Int))=true:=by rw [decide_eq_true_iff];omega
    have hR:false=r:=by rw [←hc];simp [ptF,e1]
    subst hR;clear hc hx hil hcell e1 HR ht;go_wp2;go_ret;exact ⟨rfl,ja0 hb bi⟩
  ·rw [List.drop_eq_nil_of_le (by rw [H.o.len];omega)] at hc;have q0:decide (i < n)=false:=by simp;omega
   rw [List.take_of_length_le (by rw [H.o.len];omega)] at ht;have HT:=qh ht;by_cases h8:n≤8
   ·have g8:decide ((n:Int)≤8)=true:=by rw [decide_eq_true_iff];omega
    obtain ⟨K,hK⟩:∃K,cvE ls n=K:=⟨_,rfl⟩;have HK:=qh (HCV.o ht h8 K hK)
    have hR:(K==0)=r:=by
     rw [←hc,hK];simp [h8];by_cases e:K=0 <;> simp [e]
    subst hR;have HB:=qh hb;clear hc hi HR ht h8 hK hnn;go_wp2_with (go_at_call 19;(with_reducible refine mo0 (HK.o _ (ja0 HB.o bi)) fun w1 hb1 hc1 hf1 _=> ?_))
    go_ret;exact ⟨rfl,ja0 HB.o bi⟩
   ·have g8:decide ((n:Int)≤8)=false:=by rw [decide_eq_false_iff_not];omega
    have hR:false=r:=by rw [←hc];simp [h8]
    subst hR;clear hc hi HR ht h8 hnn;go_wp2;go_ret;exact ⟨rfl,ja0 hb bi⟩
theorem jyL {k l:List UInt8} {y:Rat} {g:Int} (hg:Rq.cmpQ x y=g) (Nk:IsNum k x) (Nl:IsNum l y) (hk:k.length≤9000) (hl:l.length≤9000):
  Calls prog 8 #[bs k,bs l] w fun e w'=>e= .returned (.int .i64 g)∧Below w.heap.size w w':=by
 have d1:=Nk.dzl hk (by omega);have d2:=Nl.dzl hl (by omega);rw [Nk.eq,Nl.eq];exact jko hg d1 d2 (by omega) (by omega) (by omega) (by omega)
theorem jzu {x y:Rat}:(0≤Rq.cmpQ x y)↔y≤x:=by
 unfold Rq.cmpQ
 (repeat' split) <;> simp <;> grind
theorem jAi {x y:Rat}:(Rq.cmpQ x y≤0)↔x≤y:=by
 unfold Rq.cmpQ
 (repeat' split) <;> simp <;> grind
theorem jyO {r:Bool} (h:Pv w A n ls) (hg:CvG c n ls) (hf:ls.all ptF=true) (Na:IsNum a x) (hla:a.length≤30) (hr:(decide (((ls.map pq).getD 0 (0,0)).1≤x) && decide (x≤((ls.map pq).getD (n - 1) (0,0)).1))=r):
  Calls prog 7 #[.slice A n c,bs a] w fun e w'=>e= .returned (.bool r)∧Below w.heap.size w w':=by
 have h0:=hg.pos;obtain ⟨b,o,rfl,hbl,hcell⟩:=h.at_ h0;obtain ⟨y0,_⟩:=hcell 0 h0;obtain ⟨y1,_⟩:=hcell (n - 1) (by omega);rw [jyT (by rw [hg.len];omega),jyT (by rw [hg.len];omega)] at hr;obtain ⟨N0,_⟩:=hg.num 0 h0;obtain ⟨N1,_⟩:=hg.num (n - 1) (by omega)
 have hL:∀i,i < n→(ls.getD i ([],[])).1.length≤12:=fun i hi=>by
  have hil:i < ls.length:=by rw [hg.len];exact hi
  have:=List.all_eq_true.1 hf (ls.getD i ([],[])) (by rw [List.getD_eq_getElem?_getD,List.getElem?_eq_getElem hil];exact List.getElem_mem hil);unfold ptF at this;simp at this;exact this.1
 have l0:=hL 0 h0;have l1:=hL (n - 1) (by omega);obtain ⟨⟨x0,x2⟩,hx⟩:∃x,ls.getD 0 ([],[])=x:=⟨_,rfl⟩;obtain ⟨⟨x1,x3⟩,hx1⟩:∃x,ls.getD (n - 1) ([],[])=x:=⟨_,rfl⟩;rw [hx] at y0 N0 l0 hr;rw [hx1] at y1 N1 l1 hr;dsimp only at y0 y1 N0 N1 l0 l1 hr;rw [Nat.zero_mul,Nat.add_zero] at y0;obtain ⟨j,hj⟩:∃j,Rq.cmpQ x (numQ x0)=j:=⟨_,rfl⟩;obtain ⟨k,hk⟩:∃j,Rq.cmpQ x (numQ x1)=j:=⟨_,rfl⟩;have u1:decide (0≤j)=decide (numQ x0≤x):=by rw [←hj,decide_eq_decide];exact jzu
 have u2:decide (k≤0)=decide (x≤numQ x1):=by rw [←hk,decide_eq_decide];exact jAi
 rw [←u1,←u2] at hr;have HC:=qh (fun W=>jyL (w:=W) hj Na N0 (by omega) (by omega));have HD:=qh (fun W=>jyL (w:=W) hk Na N1 (by omega) (by omega));have hb:=hg.few;have m2:wrap64 ((n:Int) - 1)=((n - 1:Nat):Int):=by unfold wrap64;omega
 have m1:IntKind.i64.wrap ((n:Int) - 1)=((n - 1:Nat):Int):=by simp [IntKind.wrap,IntKind.bits,IntKind.signed];omega
 have q0:decide (0 < n)=true:=by simpa using h0
 have q1:decide (n - 1 < n)=true:=by rw [decide_eq_true_iff];omega
 have t1:n - 1 < n:=by omega
 obtain ⟨f1,p1⟩:∃f,decide (0≤j)=f:=⟨_,rfl⟩;obtain ⟨f2,p2⟩:∃f,decide (k≤0)=f:=⟨_,rfl⟩;rw [p1,p2] at hr;subst hr;clear h hg hf Na hla hcell N0 N1 hL l0 l1 hx hx1 hj hk u1 u2;cases f1 <;> cases f2 <;> (go_enter func7,ntmps7;go_wp2_with (first|(go_at_call 8;(with_reducible refine mo0 (HC.o _) fun w1 hb1 hc1 hf1 _=> ?_))|(go_at_call 8;(with_reducible refine mo0 (HD.o _) fun w2 hb2 hc2 hf2 _=> ?_)));go_ret;exact ⟨rfl,bi⟩)
end

theorem jA6 {x y:Rat} {k m:Nat} (hx:x.den≤10^k) (hy:y.den≤10^m):(x*y).den≤10^(k+m):=by
 rw [Rq.mul_eq,show ((x.den:Int)*(y.den:Int))=((x.den*y.den:Nat):Int) by rw [Int.natCast_mul],Nat.pow_add];exact Nat.le_trans (jhY (Nat.mul_pos x.den_pos y.den_pos)).2 (Nat.mul_le_mul hx hy)
theorem jzR {x:Rat} {p k:Nat} {c:Nat} (h0:0≤x) (h1:x≤((c:Nat):Rat)) (hc:c≤10^p) (hx:x.den≤10^k):x.num.natAbs≤10^(p+k):=by
 have h2:=(Rat.le_iff _ _).1 h1;rw [Rat.den_natCast,Rat.num_natCast] at h2;have h3:0≤x.num:=Rat.num_nonneg.2 h0;have h4:(x.num.natAbs:Int)≤((c*x.den:Nat):Int):=by rw [Int.natAbs_of_nonneg h3,Int.natCast_mul];simpa using h2
 rw [Nat.pow_add];exact Nat.le_trans (Int.ofNat_le.1 h4) (Nat.mul_le_mul hc hx)
def Zi (v:Rat):Prop:=∃z:Int,v=(z:Rat)
theorem Zi.add {x y:Rat} (h:Zi x) (k:Zi y):Zi (x+y):=by
 obtain ⟨a,rfl⟩:=h;obtain ⟨b,rfl⟩:=k;exact ⟨a+b,by rw [Rat.intCast_add]⟩
theorem Zi.sub {x y:Rat} (h:Zi x) (k:Zi y):Zi (x - y):=by
 obtain ⟨a,rfl⟩:=h;obtain ⟨b,rfl⟩:=k;exact ⟨a - b,by rw [Rat.intCast_sub]⟩
theorem Zi.mul {x y:Rat} (h:Zi x) (k:Zi y):Zi (x*y):=by
 obtain ⟨a,rfl⟩:=h;obtain ⟨b,rfl⟩:=k;exact ⟨a*b,by rw [Rat.intCast_mul]⟩
theorem Zi.nat (n:Nat):Zi (n:Rat):=⟨(n:Int),by rfl⟩
theorem Zi.den (x:Rat):Zi (x*(x.den:Rat)):=⟨x.num,by
 have h1:=Rat.num_divInt_den x;rw [Rat.divInt_eq_div] at h1;have h:=Rat.div_mul_cancel (a:=(x.num:Rat)) (b:=(x.den:Rat)) (by rw [Ne,Rat.natCast_eq_zero_iff];exact x.den_nz);have e:((x.den:Int):Rat)=(x.den:Rat):=rfl;rw [e] at h1
 rwa [h1] at h⟩
def PD:List (Rat×Rat)→Nat
 | []=>1
 | p::r=>p.1.den*p.2.den*PD r
theorem jAf:∀{qs:List (Rat×Rat)},(∀i,i < qs.length→Dz 12 (qs.getD i (0,0)).1∧Dz 12 (qs.getD i (0,0)).2)→PD qs≤10^(24*qs.length)
 | [],_=>by simp [PD]
 | p::r,h=>by
   have h0:=h 0 (by simp);simp only [List.getD_cons_zero] at h0;have hr:=jAf (qs:=r) (fun i hi=>by have:=h (i+1) (by simp;omega);simpa using this)
   have e:10^(24*(p::r).length)=10^12*10^12*10^(24*r.length):=by
    rw [←Nat.pow_add,←Nat.pow_add,List.length_cons];congr 1;omega
   rw [e];exact Nat.mul_le_mul (Nat.mul_le_mul (Nat.le_of_lt h0.1.den) (Nat.le_of_lt h0.2.den)) hr
theorem jzS:∀{qs:List (Rat×Rat)},0 < PD qs
 | []=>by simp [PD]
 | p::r=>Nat.mul_pos (Nat.mul_pos p.1.den_pos p.2.den_pos) jzS
theorem jAb (A:Rat):A / 2*2=A:=Rat.div_mul_cancel (by decide)
theorem jzU {x:Rat}:∀{qs:List (Rat×Rat)},Zi (gQ x qs*(2*(PD qs:Rat)*(x.den:Rat)*((atQ x qs).den:Rat)))
 | []=>⟨0,by show (0:Rat)*_=_;rw [Rat.zero_mul];rfl⟩
 | [p]=>⟨0,by show (0:Rat)*_=_;rw [Rat.zero_mul];rfl⟩
 | p::q::r=>by
   have eP:((PD (p::q::r):Nat):Rat)=(p.1.den:Rat)*(p.2.den:Rat)*(PD (q::r):Rat):=by
    show ((p.1.den*p.2.den*PD (q::r):Nat):Rat)=_
    rw [Rat.natCast_mul,Rat.natCast_mul]
   have eQ:((PD (q::r):Nat):Rat)=(q.1.den:Rat)*(q.2.den:Rat)*(PD r:Rat):=by
    show ((q.1.den*q.2.den*PD r:Nat):Rat)=_
    rw [Rat.natCast_mul,Rat.natCast_mul]
   have zp1:=Zi.den p.1;have zp2:=Zi.den p.2;have zq1:=Zi.den q.1;have zq2:=Zi.den q.2;have zx:=Zi.den x;by_cases h:x≤q.1
   ·have e1:gQ x (p::q::r)=(x - p.1)*(lin p q x+p.2) / 2:=by show (if x≤q.1 then _ else _)=_;rw [if_pos h]
    have e2:atQ x (p::q::r)=lin p q x:=by show (if x≤q.1 then _ else _)=_;rw [if_pos h]
    rw [e1,e2,eP];obtain ⟨L,hL⟩:∃L,lin p q x=L:=⟨_,rfl⟩;rw [hL];have zL:=Zi.den L;obtain ⟨H,hH⟩:∃H,(x - p.1)*(L+p.2) / 2=H:=⟨_,rfl⟩;have h2:H*2=(x - p.1)*(L+p.2):=by rw [←hH,jAb]
    rw [hH]
    have e:H*(2*((p.1.den:Rat)*(p.2.den:Rat)*(PD (q::r):Rat))*(x.den:Rat)*(L.den:Rat))=(x*(x.den:Rat)*(p.1.den:Rat) - p.1*(p.1.den:Rat)*(x.den:Rat))*(L*(L.den:Rat)*(p.2.den:Rat)+p.2*(p.2.den:Rat)*(L.den:Rat))*(PD (q::r):Rat):=by
     have:H*(2*((p.1.den:Rat)*(p.2.den:Rat)*(PD (q::r):Rat))*(x.den:Rat)*(L.den:Rat))=(H*2)*((p.1.den:Rat)*(p.2.den:Rat)*(PD (q::r):Rat)*(x.den:Rat)*(L.den:Rat)):=by grind
     rw [this,h2];grind
    rw [e];exact (((zx.mul (Zi.nat _)).sub (zp1.mul (Zi.nat _))).mul ((zL.mul (Zi.nat _)).add (zp2.mul (Zi.nat _)))).mul (Zi.nat _)
   ·have e1:gQ x (p::q::r)=(q.1 - p.1)*(q.2+p.2) / 2+gQ x (q::r):=by show (if x≤q.1 then _ else _)=_;rw [if_neg h]
    have e2:atQ x (p::q::r)=atQ x (q::r):=by show (if x≤q.1 then _ else _)=_;rw [if_neg h]
    rw [e1,e2,eP];have ih:=jzU (x:=x) (qs:=q::r);obtain ⟨L,hL⟩:∃L,atQ x (q::r)=L:=⟨_,rfl⟩;rw [hL] at ih ⊢;obtain ⟨G,hG⟩:∃G,gQ x (q::r)=G:=⟨_,rfl⟩;rw [hG] at ih ⊢;obtain ⟨H,hH⟩:∃H,(q.1 - p.1)*(q.2+p.2) / 2=H:=⟨_,rfl⟩;have h2:H*2=(q.1 - p.1)*(q.2+p.2):=by rw [←hH,jAb]
    rw [hH]
    have e:(H+G)*(2*((p.1.den:Rat)*(p.2.den:Rat)*(PD (q::r):Rat))*(x.den:Rat)*(L.den:Rat))=(q.1*(q.1.den:Rat)*(p.1.den:Rat) - p.1*(p.1.den:Rat)*(q.1.den:Rat))*(q.2*(q.2.den:Rat)*(p.2.den:Rat)+p.2*(p.2.den:Rat)*(q.2.den:Rat))*((PD r:Rat)*(x.den:Rat)*(L.den:Rat))+(G*(2*(PD (q::r):Rat)*(x.den:Rat)*(L.den:Rat)))*((p.1.den:Rat)*(p.2.den:Rat)):=by
     have a1:(H+G)*(2*((p.1.den:Rat)*(p.2.den:Rat)*(PD (q::r):Rat))*(x.den:Rat)*(L.den:Rat))=(H*2)*((p.1.den:Rat)*(p.2.den:Rat)*(PD (q::r):Rat)*(x.den:Rat)*(L.den:Rat))+(G*(2*(PD (q::r):Rat)*(x.den:Rat)*(L.den:Rat)))*((p.1.den:Rat)*(p.2.den:Rat)):=by grind
     rw [a1,h2,eQ];grind
    rw [e];exact ((((zq1.mul (Zi.nat _)).sub (zp1.mul (Zi.nat _))).mul ((zq2.mul (Zi.nat _)).add (zp2.mul (Zi.nat _)))).mul (((Zi.nat _).mul (Zi.nat _)).mul (Zi.nat _))).add (ih.mul ((Zi.nat _).mul (Zi.nat _)))
theorem Zi.dd {S:Rat} {F k:Nat} (h:Zi (S*(F:Rat))) (h0:0 < F) (hF:F < 10^k):S.den≤10^k:=by
 obtain ⟨z,hz⟩:=h;have hne:(F:Rat)≠0:=by rw [Ne,Rat.natCast_eq_zero_iff];omega
 have e:S=(z:Rat)*(F:Rat)⁻¹:=by
  rw [←hz,Rat.mul_assoc,Rat.mul_inv_cancel _ hne,Rat.mul_one]
 have d:Dz k (F:Rat):=⟨by simpa using hF,by simp;exact Nat.lt_of_le_of_lt h0 hF⟩;rw [e];have:=jA6 (x:=(z:Rat)) (k:=0) (by simp) (Nat.le_of_lt (d.inv hne).den);rwa [Nat.zero_add] at this
theorem jzX {S:Rat} {c p k:Nat} (h1:S≤(c:Rat)) (h2: -(c:Rat)≤S) (hc:c≤10^p) (hd:S.den≤10^k):S.num.natAbs≤10^(p+k):=by
 rcases (Rat.le_total:(0:Rat)≤S∨S≤0) with h|h
 ·exact jzR h h1 hc hd
 ·have:=jzR (x:= -S) (p:=p) (k:=k) (c:=c) (by grind) (by grind) hc (by rw [Rat.neg_den];exact hd);rwa [Rat.neg_num,Int.natAbs_neg] at this
theorem jzr {qs:List (Rat×Rat)} {a b:Rat} (h:ArH qs a b) (hd:∀i,i < qs.length→Dz 12 (qs.getD i (0,0)).1∧Dz 12 (qs.getD i (0,0)).2) (da:Dz 30 a) (db:Dz 30 b) (hn:qs.length≤8):Dz 600 (arQ qs a b):=by
 obtain ⟨hG,hB,_⟩:=jyR h;have ya:=jzp h.ups h.pos h.lo h.hiA da hd;have yb:=jzp h.ups h.pos h.loB h.hi db hd;obtain ⟨S,hS⟩:∃S,arQ qs a b=S:=⟨_,rfl⟩;rw [hS] at hG hB ⊢;obtain ⟨F,hF⟩:∃F,2*PD qs*(a.den*(atQ a qs).den*(b.den*(atQ b qs).den))=F:=⟨_,rfl⟩
 have hF0:0 < F:=by
  rw [←hF];exact Nat.mul_pos (Nat.mul_pos (by decide) jzS) (Nat.mul_pos (Nat.mul_pos a.den_pos (Rat.den_pos _)) (Nat.mul_pos b.den_pos (Rat.den_pos _)))
 have hP:PD qs≤10^192:=Nat.le_trans (jAf hd) (Nat.pow_le_pow_right (by decide) (by omega))
 have hF1:F < 10^473:=by
  have h1:a.den*(atQ a qs).den≤10^140:=by
   rw [show (140:Nat)=30+110 from rfl,Nat.pow_add];exact Nat.mul_le_mul (Nat.le_of_lt da.den) (Nat.le_of_lt ya.den)
  have h2:b.den*(atQ b qs).den≤10^140:=by
   rw [show (140:Nat)=30+110 from rfl,Nat.pow_add];exact Nat.mul_le_mul (Nat.le_of_lt db.den) (Nat.le_of_lt yb.den)
  rw [←hF];have h3:=Nat.mul_le_mul (Nat.mul_le_mul (Nat.le_refl 2) hP) (Nat.mul_le_mul h1 h2);exact Nat.lt_of_le_of_lt h3 (by decide+kernel)
 have hz:Zi (S*(F:Rat)):=by
  have za:=jzU (x:=a) (qs:=qs);have zb:=jzU (x:=b) (qs:=qs);obtain ⟨A,hA⟩:∃A,gQ a qs=A:=⟨_,rfl⟩;obtain ⟨B,hB2⟩:∃A,gQ b qs=A:=⟨_,rfl⟩;rw [hA] at za hG;rw [hB2] at zb hG
  have e:S*(F:Rat)=(B*(2*(PD qs:Rat)*(b.den:Rat)*((atQ b qs).den:Rat)))*((a.den:Rat)*((atQ a qs).den:Rat)) - (A*(2*(PD qs:Rat)*(a.den:Rat)*((atQ a qs).den:Rat)))*((b.den:Rat)*((atQ b qs).den:Rat)):=by
   rw [←hF,hG];simp only [Rat.natCast_mul];have:((2:Nat):Rat)=2:=rfl;rw [this]
   grind
  rw [e];exact (zb.mul ((Zi.nat _).mul (Zi.nat _))).sub (za.mul ((Zi.nat _).mul (Zi.nat _)))
 have hden:=hz.dd hF0 hF1;have hT:((10^12:Nat):Rat)=(((10^12:Nat):Int):Rat):=rfl;obtain ⟨T,hTT⟩:∃T,(((10^12:Nat):Int):Rat)=T:=⟨_,rfl⟩;have hTp:0≤T:=by rw [←hTT];decide+kernel
 obtain ⟨s1,s2⟩:=hB (-T) T (fun i hi=>⟨by have:=(hd i hi).2.gt;rw [hTT] at this;exact Rat.le_of_lt this,by have:=(hd i hi).2.lt;rw [hTT] at this;exact Rat.le_of_lt this⟩)
 have hlen:b - a≤2*T:=by
  have e1:=(hd 0 h.pos).1.gt;have e2:=(hd (qs.length - 1) (by have:=h.pos;omega)).1.lt;rw [hTT] at e1 e2;have:=h.lo;have:=h.hi
  grind
 have hab:0≤b - a:=by have:=h.ab;grind
 have hm:=Rat.mul_le_mul_of_nonneg_left hlen hTp;have h25:((10^25:Nat):Rat)=T*(5*(2*T)):=by rw [←hTT];decide+kernel
 have hTT2:=Rat.mul_nonneg hTp (show 0≤2*T by grind);have hnum:=jzX (c:=10^25) (p:=25) (k:=473) (S:=S) (by rw [h25];grind) (by rw [h25];grind) (Nat.le_refl _) hden;exact ⟨Nat.lt_of_le_of_lt hnum (by decide+kernel),Nat.lt_of_le_of_lt hden (by decide+kernel)⟩
end Go.Proofs.YtpkcjfpgemdfdaaGreatDoor
