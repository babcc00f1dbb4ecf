/- Parts. -/
import Derived.Test.YtpkcjfpgemdfdaaGreatDoorHoG
set_option linter.all false
set_option maxRecDepth 100000
set_option maxHeartbeats 8000000
namespace Go.Proofs.YtpkcjfpgemdfdaaGreatDoor
open Go Go.RowKit Go.Proofs.Tryz

def jyH (b:Rat) (s:(Rat×Rat)×Rat) (p:Rat×Rat):(Rat×Rat)×Rat:=
 if p.1≤s.1.1∨b < p.1 then s else (p,s.2+(p.1 - s.1.1)*(p.2+s.1.2) / 2)
def arN (l:List (Rat×Rat)) (a ya b:Rat):Nat→(Rat×Rat)×Rat
 | 0=>((a,ya),0)
 | i+1=>jyH b (arN l a ya b i) (l.getD i (0,0))
def arL (qs:List (Rat×Rat)) (b:Rat):List (Rat×Rat):=qs++[(b,atQ b qs)]
def arQ (qs:List (Rat×Rat)) (a b:Rat):Rat:=(arN (arL qs b) a (atQ a qs) b (qs.length+1)).2
def gQ (x:Rat):List (Rat×Rat)→Rat
 | []=>0
 | [_]=>0
 | p::q::r=>if x≤q.1 then (x - p.1)*(lin p q x+p.2) / 2 else (q.1 - p.1)*(q.2+p.2) / 2+gQ x (q::r)
theorem jz1 (p q:Rat×Rat) (x:Rat):lin p q x=p.2+(q.2 - p.2) / (q.1 - p.1)*(x - p.1):=by
 unfold lin;rw [Rat.div_def,Rat.div_def,Rat.mul_assoc,Rat.mul_assoc,Rat.mul_comm (x - p.1)]
theorem jA0 {x:Rat} {p:Rat×Rat}:∀{r:List (Rat×Rat)},Ups (p::r)→x=p.1→gQ x (p::r)=0
 | [],_,_=>rfl
 | q::r,hu,h=>by
   have h1:p.1 < q.1:=hu 0 (by simp);show (if x≤q.1 then (x - p.1)*(lin p q x+p.2) / 2 else _)=0
   rw [if_pos (by rw [h];exact Rat.le_of_lt h1),h,Rat.sub_self,Rat.zero_mul,Rat.div_def,Rat.zero_mul]
theorem jA3:∀{qs:List (Rat×Rat)} {i:Nat},Ups qs→i+1 < qs.length→∃C,∀x,(qs.getD i (0,0)).1≤x→x≤(qs.getD (i+1) (0,0)).1→gQ x qs=C+(x - (qs.getD i (0,0)).1)*(lin (qs.getD i (0,0)) (qs.getD (i+1) (0,0)) x+(qs.getD i (0,0)).2) / 2
 | [],i,_,h=>by simp at h
 | [p],i,_,h=>by simp at h
 | p::q::r,0,_,_=>⟨0,fun x _ h2=>by
   show (if x≤q.1 then (x - p.1)*(lin p q x+p.2) / 2 else _)=0+(x - p.1)*(lin p q x+p.2) / 2
   have h2:x≤q.1:=h2
   rw [if_pos h2,Rat.zero_add]⟩
 | p::q::r,i+1,hu,hi=>by
   obtain ⟨C,hC⟩:=jA3 (qs:=q::r) (i:=i) hu.tail (by simpa using hi);refine ⟨(q.1 - p.1)*(q.2+p.2) / 2+C,fun x h1 h2=> ?_⟩;have h1':((q::r).getD i (0,0)).1≤x:=by simpa using h1
   have h2':x≤((q::r).getD (i+1) (0,0)).1:=by simpa using h2
   have hg:=hC x h1' h2';have hpq:p.1 < q.1:=hu 0 (by simp);show (if x≤q.1 then (x - p.1)*(lin p q x+p.2) / 2 else (q.1 - p.1)*(q.2+p.2) / 2+gQ x (q::r))=(q.1 - p.1)*(q.2+p.2) / 2+C+(x - ((q::r).getD i (0,0)).1)*(lin ((q::r).getD i (0,0)) ((q::r).getD (i+1) (0,0)) x+((q::r).getD i (0,0)).2) / 2
   by_cases hx:x≤q.1
   ·have e:x=q.1:=by
     cases i with
     | zero=>exact Rat.le_antisymm hx h1'
     | succ i=>
       have h3:=hu.tail.mono (i:=0) (j:=i+1) (by omega) (by simp at hi ⊢;omega);have h4:q.1 < ((q::r).getD (i+1) (0,0)).1:=h3
       grind
    rw [jA0 hu.tail e] at hg;rw [if_pos hx,e,jyG hpq,←e]
    grind
   ·rw [if_neg hx,hg]
    grind
theorem jzd {qs:List (Rat×Rat)} {i:Nat} {u v:Rat} (hu:Ups qs) (hi:i+1 < qs.length) (h1:(qs.getD i (0,0)).1≤u) (h2:u≤v) (h3:v≤(qs.getD (i+1) (0,0)).1):(v - u)*(atQ v qs+atQ u qs) / 2=gQ v qs - gQ u qs:=by
 obtain ⟨C,hC⟩:=jA3 hu hi;rw [hC v (Rat.le_trans h1 h2) h3,hC u h1 (Rat.le_trans h2 h3),jyP hu hi (Rat.le_trans h1 h2) h3,jyP hu hi h1 (Rat.le_trans h2 h3),jz1,jz1];generalize ((qs.getD (i+1) (0,0)).2 - (qs.getD i (0,0)).2) / ((qs.getD (i+1) (0,0)).1 - (qs.getD i (0,0)).1)=s
 grind
theorem jyJ {p q:Rat×Rat} {x m M:Rat} (hpq:p.1 < q.1) (h1:p.1≤x) (h2:x≤q.1) (hp:m≤p.2∧p.2≤M) (hq:m≤q.2∧q.2≤M):m≤lin p q x∧lin p q x≤M:=by
 have hd:0 < q.1 - p.1:=by grind
 obtain ⟨t,ht⟩:∃t,(x - p.1) / (q.1 - p.1)=t:=⟨_,rfl⟩;have e:lin p q x=p.2+(q.2 - p.2)*t:=by unfold lin;rw [←ht,Rat.div_def,Rat.div_def,Rat.mul_assoc]
 have t1:t*(q.1 - p.1)=x - p.1:=by rw [←ht,Rat.div_mul_cancel (by grind)]
 have t0:0≤t:=by
  rcases (Rat.le_total:(0:Rat)≤t∨t≤0) with h|h
  ·exact h
  ·have:=Rat.mul_nonneg (show 0≤ -t by grind) (Rat.le_of_lt hd);have e0:t*(q.1 - p.1)≤0:=by grind
   have e1:x - p.1=0:=by grind
   have e2:t=0:=by
    have h3:t*(q.1 - p.1)=0:=by grind
    rcases Rat.mul_eq_zero.1 h3 with h|h
    ·exact h
    ·grind
   grind
 have t2:t≤1:=by
  rcases (Rat.le_total:t≤(1:Rat)∨1≤t) with h|h
  ·exact h
  ·have:=Rat.mul_nonneg (show 0≤t - 1 by grind) (Rat.le_of_lt hd);have e1:(t - 1)*(q.1 - p.1)=0:=by grind
   rcases Rat.mul_eq_zero.1 e1 with h|h
   ·grind
   ·grind
 rw [e];have a1:=Rat.mul_nonneg t0 (show 0≤q.2 - m by grind);have a2:=Rat.mul_nonneg (show 0≤1 - t by grind) (show 0≤p.2 - m by grind);have a3:=Rat.mul_nonneg t0 (show 0≤M - q.2 by grind);have a4:=Rat.mul_nonneg (show 0≤1 - t by grind) (show 0≤M - p.2 by grind);constructor <;> grind
theorem jzc {qs:List (Rat×Rat)} {x:Rat} (hlo:(qs.getD 0 (0,0)).1≤x):∀{k:Nat},k < qs.length→x≤(qs.getD k (0,0)).1→x=(qs.getD 0 (0,0)).1∨∃i,i+1≤k∧(qs.getD i (0,0)).1 < x∧x≤(qs.getD (i+1) (0,0)).1
 | 0,_,h=> .inl (Rat.le_antisymm h hlo)
 | k+1,hk,h=>by
   by_cases h1:x≤(qs.getD k (0,0)).1
   ·rcases jzc hlo (show k < qs.length by omega) h1 with e|⟨i,e1,e2⟩
    ·exact .inl e
    ·exact .inr ⟨i,by omega,e2⟩
   ·exact .inr ⟨k,Nat.le_refl _,Rat.not_le.1 h1,h⟩
theorem jyI {qs:List (Rat×Rat)} {x m M:Rat} (hu:Ups qs) (h0:0 < qs.length) (hlo:(qs.getD 0 (0,0)).1≤x) (hhi:x≤(qs.getD (qs.length - 1) (0,0)).1) (hb:∀i,i < qs.length→m≤(qs.getD i (0,0)).2∧(qs.getD i (0,0)).2≤M):m≤atQ x qs∧atQ x qs≤M:=by
 rcases jzc hlo (show qs.length - 1 < qs.length by omega) hhi with e|⟨i,e1,e2,e3⟩
 ·rw [e,jyF hu h0];exact hb 0 h0
 ·rw [jyP hu (by omega) (Rat.le_of_lt e2) e3];exact jyJ (hu i (by omega)) (Rat.le_of_lt e2) e3 (hb i (by omega)) (hb (i+1) (by omega))
theorem jzp {qs:List (Rat×Rat)} {x:Rat} (hu:Ups qs) (h0:0 < qs.length) (hlo:(qs.getD 0 (0,0)).1≤x) (hhi:x≤(qs.getD (qs.length - 1) (0,0)).1) (dx:Dz 30 x) (hd:∀i,i < qs.length→Dz 12 (qs.getD i (0,0)).1∧Dz 12 (qs.getD i (0,0)).2):Dz 110 (atQ x qs):=by
 rcases jzc hlo (show qs.length - 1 < qs.length by omega) hhi with e|⟨i,e1,e2,e3⟩
 ·rw [e,jyF hu h0];exact (hd 0 h0).2.mono (by omega)
 ·rw [jyP hu (by omega) (Rat.le_of_lt e2) e3];have h1:=hd i (by omega);have h2:=hd (i+1) (by omega);have:=hu i (by omega);unfold lin;exact (h1.2.add (((h2.2.sub h1.2).mul (dx.sub h1.1)).div (h2.1.sub h1.1) (by grind))).mono (by omega)
section
variable {qs:List (Rat×Rat)} {a b m M:Rat}
structure ArH (qs:List (Rat×Rat)) (a b:Rat):Prop where
 ups:Ups qs
 pos:0 < qs.length
 lo:(qs.getD 0 (0,0)).1≤a
 ab:a≤b
 hi:b≤(qs.getD (qs.length - 1) (0,0)).1
theorem ArH.loB (h:ArH qs a b):(qs.getD 0 (0,0)).1≤b:=Rat.le_trans h.lo h.ab
theorem ArH.hiA (h:ArH qs a b):a≤(qs.getD (qs.length - 1) (0,0)).1:=Rat.le_trans h.ab h.hi
structure ArI (qs:List (Rat×Rat)) (a b:Rat) (i:Nat) (s:(Rat×Rat)×Rat):Prop where
 la:a≤s.1.1
 lb:s.1.1≤b
 val:s.1.2=atQ s.1.1 qs
 past:∀k,k < i→k < qs.length→(qs.getD k (0,0)).1≤b→(qs.getD k (0,0)).1≤s.1.1
 sum:s.2=gQ s.1.1 qs - gQ a qs
 low:∀m M:Rat,(∀i,i < qs.length→m≤(qs.getD i (0,0)).2∧(qs.getD i (0,0)).2≤M)→m*(s.1.1 - a)≤s.2∧s.2≤M*(s.1.1 - a)
 dz:(∀i,i < qs.length→Dz 12 (qs.getD i (0,0)).1∧Dz 12 (qs.getD i (0,0)).2)→Dz 30 a→Dz 30 b→(s.1.1=a∧s.2=0∧Dz 110 s.1.2)∨(∃k,k < i∧k < qs.length∧0 < k∧s.1=qs.getD k (0,0)∧Dz (120+53*k) s.2)
theorem ArI.start (h:ArH qs a b):ArI qs a b 0 ((a,atQ a qs),0):=
 ⟨Rat.le_refl,h.ab,rfl,fun k hk=>by omega,by rw [Rat.sub_self],fun m M _=>by rw [Rat.sub_self,Rat.mul_zero,Rat.mul_zero];exact ⟨Rat.le_refl,Rat.le_refl⟩,fun hd da _=> .inl ⟨rfl,rfl,jzp h.ups h.pos h.lo h.hiA da hd⟩⟩
theorem jzx {u v yu yv m M:Rat} (h:u≤v) (h1:m≤yu∧yu≤M) (h2:m≤yv∧yv≤M):m*(v - u)≤(v - u)*(yv+yu) / 2∧(v - u)*(yv+yu) / 2≤M*(v - u):=by
 have hd:0≤v - u:=by grind
 have a1:=Rat.mul_nonneg hd (show 0≤yv+yu - m - m by grind);have a2:=Rat.mul_nonneg hd (show 0≤M+M - yv - yu by grind);constructor <;> grind
theorem ArI.step {i:Nat} {s:(Rat×Rat)×Rat} (h:ArH qs a b) (hI:ArI qs a b i s) (hi:i < qs.length):ArI qs a b (i+1) (jyH b s (qs.getD i (0,0))):=by
 unfold jyH;by_cases hc:(qs.getD i (0,0)).1≤s.1.1∨b < (qs.getD i (0,0)).1
 ·rw [if_pos hc];refine ⟨hI.la,hI.lb,hI.val,fun k hk hkl hkb=> ?_,hI.sum,hI.low,fun hd da db=> ?_⟩
  ·by_cases e:k=i
   ·rw [e] at hkb ⊢;rcases hc with hc|hc
    ·exact hc
    ·exact absurd hc (Rat.not_lt.2 hkb)
   ·exact hI.past k (by omega) hkl hkb
  ·rcases hI.dz hd da db with z|⟨k,z1,z2⟩
   ·exact .inl z
   ·exact .inr ⟨k,by omega,z2⟩
 ·rw [if_neg hc];obtain ⟨⟨t,y⟩,sm⟩:=s;have hc1:t < (qs.getD i (0,0)).1:=Rat.not_le.1 (fun e=>hc (.inl e));have hc2:(qs.getD i (0,0)).1≤b:=Rat.not_lt.1 (fun e=>hc (.inr e));have hla:a≤t:=hI.la
  have h0:0 < i:=by
   rcases Nat.eq_zero_or_pos i with e|e
   ·rw [e] at hc1;have:=h.lo
    grind
   ·exact e
  have hp:(qs.getD (i - 1) (0,0)).1≤t:=hI.past (i - 1) (by omega) (by omega) (Rat.le_trans (Rat.le_of_lt (h.ups.mono (by omega) hi)) hc2);have hseg:=jzd (v:=(qs.getD i (0,0)).1) h.ups (show i - 1+1 < qs.length by omega) hp (Rat.le_of_lt hc1) (by rw [show i - 1+1=i by omega];exact Rat.le_refl);rw [jyF h.ups hi,←(hI.val:y=atQ t qs)] at hseg;have hsum:sm=gQ t qs - gQ a qs:=hI.sum;refine ⟨Rat.le_trans hla (Rat.le_of_lt hc1),hc2,(jyF h.ups hi).symm,fun k hk hkl hkb=> ?_, ?_,fun m M hb=> ?_,fun hd da db=> ?_⟩
  ·by_cases e:k=i
   ·rw [e];exact Rat.le_refl
   ·exact Rat.le_of_lt (h.ups.mono (by omega) hi)
  ·show sm+((qs.getD i (0,0)).1 - t)*((qs.getD i (0,0)).2+y) / 2=gQ (qs.getD i (0,0)).1 qs - gQ a qs
   rw [hseg,hsum];grind
  ·obtain ⟨l1,l2⟩:=hI.low m M hb;have ht:=jyI h.ups h.pos (Rat.le_trans h.lo hla) (Rat.le_trans (Rat.le_of_lt hc1) (Rat.le_trans hc2 h.hi)) hb;rw [←(hI.val:y=atQ t qs)] at ht;obtain ⟨s1,s2⟩:=jzx (Rat.le_of_lt hc1) ht (hb i hi);show m*((qs.getD i (0,0)).1 - a)≤sm+((qs.getD i (0,0)).1 - t)*((qs.getD i (0,0)).2+y) / 2∧_
   have l1:m*(t - a)≤sm:=l1;have l2:sm≤M*(t - a):=l2;constructor
   ·grind
   ·show sm+((qs.getD i (0,0)).1 - t)*((qs.getD i (0,0)).2+y) / 2≤M*((qs.getD i (0,0)).1 - a)
    grind
  ·have di:=hd i hi;refine .inr ⟨i,by omega,hi,h0,rfl, ?_⟩;show Dz (120+53*i) (sm+((qs.getD i (0,0)).1 - t)*((qs.getD i (0,0)).2+y) / 2)
   have two:Dz 1 (2:Rat):=⟨by decide,by decide⟩;rcases hI.dz hd da db with ⟨e1,e2,e3⟩|⟨k,e1,e2,e3,e4,e5⟩
   ·have e1:t=a:=e1;have e2:sm=0:=e2;rw [e1,e2,Rat.zero_add];exact (((di.1.sub da).mul (di.2.add e3)).div two (by decide)).mono (by omega)
   ·have e4:(t,y)=qs.getD k (0,0):=e4;have dk:=hd k e2;rw [←e4] at dk;exact (Dz.add e5 (((di.1.sub dk.1).mul (di.2.add dk.2)).div two (by decide))).mono (by omega)
theorem ArI.end_ {s:(Rat×Rat)×Rat} (h:ArH qs a b) (hI:ArI qs a b qs.length s):(jyH b s (b,atQ b qs)).2=gQ b qs - gQ a qs∧(∀m M:Rat,(∀i,i < qs.length→m≤(qs.getD i (0,0)).2∧(qs.getD i (0,0)).2≤M)→m*(b - a)≤(jyH b s (b,atQ b qs)).2∧(jyH b s (b,atQ b qs)).2≤M*(b - a))∧
  ((∀i,i < qs.length→Dz 12 (qs.getD i (0,0)).1∧Dz 12 (qs.getD i (0,0)).2)→Dz 30 a→Dz 30 b→qs.length≤8→Dz 640 (jyH b s (b,atQ b qs)).2):=by
 obtain ⟨⟨t,y⟩,sm⟩:=s;have hla:a≤t:=hI.la;have hlb:t≤b:=hI.lb;have hsum:sm=gQ t qs - gQ a qs:=hI.sum;have two:Dz 1 (2:Rat):=⟨by decide,by decide⟩;unfold jyH;by_cases hc:b≤t
 ·have e:t=b:=Rat.le_antisymm hlb hc;rw [if_pos (.inl hc)];subst e;refine ⟨hsum,hI.low,fun hd da db hn=> ?_⟩;rcases hI.dz hd da db with ⟨_,e2,_⟩|⟨k,e1,e2,_,_,e5⟩
  ·have e2:sm=0:=e2;show Dz 640 sm
   rw [e2];exact Dz.mono (k:=1) ⟨by decide,by decide⟩ (by omega)
  ·exact Dz.mono e5 (by omega)
 ·have hc1:t < b:=Rat.not_le.1 hc;rw [if_neg (fun e=>by rcases e with e|e;exact hc e;exact absurd e Rat.lt_irrefl)]
  obtain ⟨i,e1,e2,e3⟩:∃i,i+1≤qs.length - 1∧(qs.getD i (0,0)).1 < b∧b≤(qs.getD (i+1) (0,0)).1:=by
   rcases jzc h.loB (show qs.length - 1 < qs.length by have:=h.pos;omega) h.hi with e|e
   ·have:=h.lo;grind
   ·exact e
  have hp:(qs.getD i (0,0)).1≤t:=hI.past i (by omega) (by omega) (Rat.le_of_lt e2);have hseg:=jzd h.ups (show i+1 < qs.length by omega) hp hlb e3;rw [←(hI.val:y=atQ t qs)] at hseg;refine ⟨?_,fun m M hb=> ?_,fun hd da db hn=> ?_⟩
  ·show sm+(b - t)*(atQ b qs+y) / 2=_
   rw [hseg,hsum];grind
  ·obtain ⟨l1,l2⟩:=hI.low m M hb;have ht:=jyI h.ups h.pos (Rat.le_trans h.lo hla) (Rat.le_trans hlb h.hi) hb;rw [←(hI.val:y=atQ t qs)] at ht;obtain ⟨s1,s2⟩:=jzx hlb ht (jyI h.ups h.pos h.loB h.hi hb);have l1:m*(t - a)≤sm:=l1;have l2:sm≤M*(t - a):=l2;show m*(b - a)≤sm+(b - t)*(atQ b qs+y) / 2∧sm+(b - t)*(atQ b qs+y) / 2≤M*(b - a)
   constructor <;> grind
  ·show Dz 640 (sm+(b - t)*(atQ b qs+y) / 2)
   have db8:=jzp h.ups h.pos h.loB h.hi db hd;rcases hI.dz hd da db with ⟨f1,f2,f3⟩|⟨k,f1,f2,f3,f4,f5⟩
   ·have f1:t=a:=f1;have f2:sm=0:=f2;have f3:Dz 110 y:=f3;rw [f1,f2,Rat.zero_add];exact (((db.sub da).mul (db8.add f3)).div two (by decide)).mono (by omega)
   ·have f4:(t,y)=qs.getD k (0,0):=f4;have dk:=hd k f2;rw [←f4] at dk
    have hk:k < qs.length - 1:=by
     rcases Nat.lt_or_ge k (qs.length - 1) with g|g
     ·exact g
     ·exfalso;have gk:k=qs.length - 1:=by omega
      have:=h.hi;rw [←gk,←f4] at this;exact hc this
    exact (Dz.add f5 (((db.sub dk.1).mul (db8.add dk.2)).div two (by decide))).mono (by omega)
theorem jzP {i:Nat} (hi:i < qs.length):(arL qs b).getD i (0,0)=qs.getD i (0,0):=by
 unfold arL;rw [List.getD_eq_getElem?_getD,List.getD_eq_getElem?_getD,List.getElem?_append_left hi]
theorem jzD:(arL qs b).getD qs.length (0,0)=(b,atQ b qs):=by
 unfold arL;simp [List.getD_eq_getElem?_getD]
theorem jz3 (h:ArH qs a b):∀i,i≤qs.length→ArI qs a b i (arN (arL qs b) a (atQ a qs) b i)
 | 0,_=>ArI.start h
 | i+1,hi=>by
   show ArI qs a b (i+1) (jyH b (arN (arL qs b) a (atQ a qs) b i) ((arL qs b).getD i (0,0)))
   rw [jzP (by omega)];exact ArI.step h (jz3 h i (by omega)) (by omega)
theorem jyR (h:ArH qs a b):arQ qs a b=gQ b qs - gQ a qs∧(∀m M:Rat,(∀i,i < qs.length→m≤(qs.getD i (0,0)).2∧(qs.getD i (0,0)).2≤M)→m*(b - a)≤arQ qs a b∧arQ qs a b≤M*(b - a))∧
  ((∀i,i < qs.length→Dz 12 (qs.getD i (0,0)).1∧Dz 12 (qs.getD i (0,0)).2)→Dz 30 a→Dz 30 b→qs.length≤8→Dz 640 (arQ qs a b)):=by
 have:=ArI.end_ h (jz3 h qs.length (Nat.le_refl _));unfold arQ;show _∧_∧_
 rw [show arN (arL qs b) a (atQ a qs) b (qs.length+1)=jyH b (arN (arL qs b) a (atQ a qs) b qs.length) ((arL qs b).getD qs.length (0,0)) from rfl,jzD];exact this
end

section
variable {w:World} {g:Nat} {q:FT} {s t:Int} {A B:Option Addr} {n c m d:Nat}
theorem FBox.setR (h:FBox w g q):FBox ((((w.setCell ⟨g,0,none⟩ (.int .i64 s)).setCell ⟨g,1,none⟩ (.slice A n c)).setCell ⟨g,2,none⟩ (.int .i64 t)).setCell ⟨g,3,none⟩ (.slice B m d)) g ((s,A,n,c),(t,B,m,d)):=h.set ((s,A,n,c),(t,B,m,d))
theorem jz4:w.grownBy ((((w.setCell ⟨g,0,none⟩ (.int .i64 s)).setCell ⟨g,1,none⟩ (.slice A n c)).setCell ⟨g,2,none⟩ (.int .i64 t)).setCell ⟨g,3,none⟩ (.slice B m d)) (some g):=jkH w g ((s,A,n,c),(t,B,m,d))
theorem FBox.grown {w':World} {row:Option Nat} (h:FBox w g q) (hg:w.grownBy w' row) (hne:some g≠row):FBox w' g q:=h.kept (hg.block g h.lt hne)
theorem FBox.fc (h:FBox w g q):FC w g q:=by
 obtain ⟨⟨c0,c1,c2,c3⟩,_⟩:=h.cells;obtain ⟨t,h⟩:=h.heap;exact ⟨c0,c1,c2,c3,fun o=>by simp [World.frozen?,h]⟩
end
theorem jzv {V:World} {g:Nat} {q0:PT} {s t u v:Int} {A B C D:Option Addr} {n c m d i j o l:Nat} {x y:Rat} (hD:DBox V g q0) (hx:RepF V s A n c t B m d x) (hy:RepF V u C i j v D o l y):
  DBox ((((((((V.setCell ⟨g,0,none⟩ (.int .i64 s)).setCell ⟨g,1,none⟩ (.slice A n c)).setCell ⟨g,2,none⟩ (.int .i64 t)).setCell ⟨g,3,none⟩ (.slice B m d)).setCell ⟨g,4,none⟩ (.int .i64 u)).setCell ⟨g,5,none⟩ (.slice C i j)).setCell ⟨g,6,none⟩ (.int .i64 v)).setCell ⟨g,7,none⟩ (.slice D o l)) g (((s,A,n,c),(t,B,m,d)),((u,C,i,j),(v,D,o,l)))∧
  jwy ((((((((V.setCell ⟨g,0,none⟩ (.int .i64 s)).setCell ⟨g,1,none⟩ (.slice A n c)).setCell ⟨g,2,none⟩ (.int .i64 t)).setCell ⟨g,3,none⟩ (.slice B m d)).setCell ⟨g,4,none⟩ (.int .i64 u)).setCell ⟨g,5,none⟩ (.slice C i j)).setCell ⟨g,6,none⟩ (.int .i64 v)).setCell ⟨g,7,none⟩ (.slice D o l)) (((s,A,n,c),(t,B,m,d)),((u,C,i,j),(v,D,o,l))) (x,y):=
 ⟨hD.setR,jwy.grown (q:=(((s,A,n,c),(t,B,m,d)),((u,C,i,j),(v,D,o,l)))) (x:=(x,y)) ⟨hx,hy⟩ jwD (fun k e=>by cases e;exact hD.nou)⟩
theorem jAc {qs:List (Rat×Rat)} {a b:Rat} (h:ArH qs a b) (hd:∀i,i < qs.length→Dz 12 (qs.getD i (0,0)).1∧Dz 12 (qs.getD i (0,0)).2) (da:Dz 30 a) (db:Dz 30 b) (hn:qs.length≤8) {i:Nat} (hi:i≤qs.length):
  Dz 110 (arN (arL qs b) a (atQ a qs) b i).1.1∧Dz 110 (arN (arL qs b) a (atQ a qs) b i).1.2∧Dz 500 (arN (arL qs b) a (atQ a qs) b i).2∧Dz 110 ((arL qs b).getD i (0,0)).1∧Dz 110 ((arL qs b).getD i (0,0)).2:=by
 have hp:Dz 110 ((arL qs b).getD i (0,0)).1∧Dz 110 ((arL qs b).getD i (0,0)).2:=by
  rcases Nat.lt_or_ge i qs.length with e|e
  ·rw [jzP e];exact ⟨(hd i e).1.mono (by omega),(hd i e).2.mono (by omega)⟩
  ·rw [show i=qs.length by omega,jzD];exact ⟨db.mono (by omega),jzp h.ups h.pos h.loB h.hi db hd⟩
 rcases (jz3 h i hi).dz hd da db with ⟨e1,e2,e3⟩|⟨k,e1,e2,_,e4,e5⟩
 ·rw [e1,e2];exact ⟨da.mono (by omega),e3,Dz.mono (k:=1) ⟨by decide,by decide⟩ (by omega),hp⟩
 ·rw [e4];exact ⟨(hd k e2).1.mono (by omega),(hd k e2).2.mono (by omega),Dz.mono e5 (by omega),hp⟩
theorem Dz.szz {k:Nat} {x:Rat} (h:Dz k x):Sz k x:=⟨Nat.le_trans (Nat.le_of_lt h.num) (Nat.pow_le_pow_left (by decide) k),Nat.le_trans (Nat.le_of_lt h.den) (Nat.pow_le_pow_left (by decide) k)⟩
theorem jlE.grown {w w':World} {q:FT} {x:Rat} {row:Option Nat} (h:jlE w q x) (hg:w.grownBy w' row) (hr:∀g,row=some g→NoU w g):jlE w' q x:=⟨h.1.grown hg hr,h.2.grown hg hr⟩
section
variable {w:World} {A:Option Addr} {n c:Nat} {ls:List (List UInt8×List UInt8)} {a t:List UInt8} {x y z:Rat}
set_option maxHeartbeats 32000000 in
theorem jz6 (hE:Env w) (h:Pv w A n ls) (hg:CvG c n ls) (Na:IsNum a x) (Nt:IsNum t y) (hla:a.length < 4294967281) (hlt:t.length < 4294967281) (hca:chk a=0) (hct:chk t=0) (hH:ArH (ls.map pq) x y) (hd:∀i,i < (ls.map pq).length→Dz 12 ((ls.map pq).getD i (0,0)).1∧Dz 12 ((ls.map pq).getD i (0,0)).2) (dx:Dz 30 x) (dy:Dz 30 y) (hn8:n≤8) (hz:arQ (ls.map pq) x y=z) (dzz:Dz 600 z):
  Calls prog 10 #[.slice A n c,bs a,bs t] w fun e w'=>e= .returned (.tuple #[bs (tq z), .int .i64 0])∧Below w.heap.size w w':=by
 have hlen:(ls.map pq).length=n:=by rw [List.length_map];exact hg.len
 have HC:=qh (fun W (hb:Below w.heap.size w W)=>jyK (c:=c) (hE.below hb) (h.below hb) (by omega) hg.cap hg.big hg.cv);have HCV:=qh (fun W (hb:Below w.heap.size w W)=>jyN (c:=c) (hE.below hb) (h.below hb) (by omega) hg.num);have HE:=qh hE;have HG:=qh (ai hg (ai hn8 hlen))
 have HLA:Hd (∀l∈ [a,t],l.length < 4294967281):=qh (fun l hm=>by
  rcases List.mem_cons.1 hm with rfl|hm
  ·exact hla
  ·rw [List.mem_singleton.1 hm];exact hlt)
 have HCA:=qh (show jar chk [a,t]=0 by
  show (if chk a=0 then (if chk t=0 then (0:Int) else chk t) else chk a)=0
  rw [hca,hct];rfl)
 have HNA:=qh Na;have HNT:=qh Nt;have HH:=qh hH;have HDZ:=qh (fun i (hi:i≤n)=>jAc hH hd dx dy (by omega) (i:=i) (by omega));have hW:=dzz.wr (by omega) (by omega);have HZ:=qh (ai hz (ai hW.2 (jyX hW)));obtain ⟨T,hT⟩:∃T,tq z=T:=⟨_,rfl⟩;rw [hT] at HZ ⊢;obtain ⟨qs,hqs⟩:∃l,ls.map pq=l:=⟨_,rfl⟩;have hsz:=hg.sz;rw [hqs] at HCV HG HH HDZ HZ hsz;have HSZ:=qh hsz;clear hE h hg Na Nt hla hlt hca hct hH hd dx dy hn8 hz hlen dzz hW hT hqs hsz;go_enter func10,ntmps10;go_upto_region 8 with (first|(go_at_call 36;(with_reducible refine mo0 (HC.o _ bi) fun w1 hb1 hc1 hf1 _=> ?_))|(go_at_call 37;(with_reducible refine mo0 (jmp (HE.o.below bi) (Sv.two _ _ a t) (by omega) HLA.o HCA.o) fun w2 hb2 hc2 hf2 _=> ?_))|(go_at_call 38;(with_reducible refine (HCV.o _ bi).mono ?_);rintro e3 w3 ⟨v3,vs3,rfl,hv3,hb3⟩;obtain ⟨hc3,hf3,_⟩:=bc0 hb3)|(go_at_call 39;(with_reducible show Calls _ _ #[bs a] _ _);(with_reducible refine mf0 (jaz HNA.o (HE.o.below bi)) fun w4 s4 A4 n4 c4 t4 B4 m4 d4 hr4 hq4 hb4 hc4 hf4 _=> ?_))|(go_at_call 39;(with_reducible show Calls _ _ #[bs t] _ _);(with_reducible refine mf0 (jaz HNT.o (HE.o.below bi)) fun w5 s5 A5 n5 c5 t5 B5 m5 d5 hr5 hq5 hb5 hc5 hf5 _=> ?_)))
 obtain ⟨A3,c3,rfl,hp3⟩:=hv3.ptv;obtain ⟨U,hU⟩:∃U,(w5.alloc (.cells #[.int .i64 s4, .slice A4 n4 c4, .int .i64 t4, .slice B4 m4 d4] 85)).alloc (.cells #[.int .i64 s5, .slice A5 n5 c5, .int .i64 t5, .slice B5 m5 d5] 85)=U:=⟨_,rfl⟩;have b5:RowKit.Below w5.heap.size w5 U:=by rw [←hU];exact bA (bA bR)
 have bU:Below w.heap.size w U:=ja0 bi b5;have hxU:RepF U s4 A4 n4 c4 t4 B4 m4 d4 x:=RepF.below (w:=w4) ⟨hr4,hq4⟩ (ja0 hb5 b5);have hyU:RepF U s5 A5 n5 c5 t5 B5 m5 d5 y:=RepF.below (w:=w5) ⟨hr5,hq5⟩ b5;have fA:FC U w5.heap.size ((s4,A4,n4,c4),(t4,B4,m4,d4)):=by rw [←hU];exact (FC.made w5 _ _ _ _ _ _ _ _ _).below (bA bR)
 have fB:FBox U (w5.heap.size+1) ((s5,A5,n5,c5),(t5,B5,m5,d5)):=by
  rw [←hU];have h:=FBox.made (w5.alloc (.cells #[.int .i64 s4, .slice A4 n4 c4, .int .i64 t4, .slice B4 m4 d4] 85)) 85 s5 t5 A5 B5 n5 c5 m5 d5;rwa [show (w5.alloc (.cells #[.int .i64 s4, .slice A4 n4 c4, .int .i64 t4, .slice B4 m4 d4] 85)).heap.size=w5.heap.size+1 by simp [go_sem]] at h
 have hnb:∀k,(Value.slice A3 n c3).ownBlock=some k→k < w5.heap.size:=fun k e=>Nat.lt_of_lt_of_le (hv3.lt k e).2 (ja0 hb4 hb5).size
 have hwB:w.heap.size≤w2.heap.size:=(show Below w.heap.size w w2 from bi).size;have hvU:=hv3.below (ja0 hb4 (ja0 hb5 b5));have hsU:w2.heap.size≤U.heap.size:=Nat.le_trans hb3.size (Nat.le_trans hb4.size (Nat.le_trans hb5.size b5.size));rw [hU];obtain ⟨gb,hgb⟩:∃k,w5.heap.size+1=k:=⟨_,rfl⟩;obtain ⟨ga,hga⟩:∃k,w5.heap.size=k:=⟨_,rfl⟩;rw [hgb] at fB ⊢;rw [hga] at fA ⊢;obtain ⟨B0,hB0⟩:∃k,w2.heap.size=k:=⟨_,rfl⟩;rw [hB0] at hvU hsU hwB
 have hnb':∀k,(Value.slice A3 n c3).ownBlock=some k→k < gb∧k < U.heap.size:=fun k e=>by
  have h1:=hnb k e;have h2:=fB.lt;omega
 have HNB:=qh (ai hnb' hwB);have HV:=qh (ai hvU hsU);have hpU:=hp3.below (ja0 hb4 (ja0 hb5 b5));have HF:=qh (ai fA fB);have HXY:=qh (ai hxU hyU);have HB:=qh bU;have HEU:=qh (HE.o.below bU);have HWA:=qh (fun W (hb:Below U.heap.size U W)=>jyS (c:=c3) (hpU.below hb) HG.o.1.pos (by have:=HG.o.2.1;omega) (hxU.below hb) HSZ.o HNA.o.sz HH.o.lo (by rw [←HG.o.2.2];exact HH.o.hiA));have HWB:=qh (fun W (hb:Below U.heap.size U W)=>jyS (c:=c3) (hpU.below hb) HG.o.1.pos (by have:=HG.o.2.1;omega) (hyU.below hb) HSZ.o HNT.o.sz HH.o.loB (by rw [←HG.o.2.2];exact HH.o.hi));have HUP:=qh HH.o.ups;obtain ⟨yx,hyx⟩:∃v,atQ x qs=v:=⟨_,rfl⟩;obtain ⟨yy,hyy⟩:∃v,atQ y qs=v:=⟨_,rfl⟩;have HAA:=qh (fun W (hb:Below U.heap.size U W)=>jzY (c:=c3) (hpU.below hb) HG.o.1.pos (by have:=HG.o.2.1;omega) HUP.o (hxU.below hb) HSZ.o HNA.o.sz HH.o.lo (by rw [←HG.o.2.2];exact HH.o.hiA) hyx);have HAB:=qh (fun W (hb:Below U.heap.size U W)=>jzY (c:=c3) (hpU.below hb) HG.o.1.pos (by have:=HG.o.2.1;omega) HUP.o (hyU.below hb) HSZ.o HNT.o.sz HH.o.loB (by rw [←HG.o.2.2];exact HH.o.hi) hyy);have HYX:=qh (ai hyx hyy);obtain ⟨j,hj⟩:∃j,Rq.cmpQ x y=j:=⟨_,rfl⟩;have u1:decide (0 < j)=false:=by rw [decide_eq_false_iff_not,←hj];exact fun e=>Rat.not_lt.2 HH.o.ab (Rq.cmp_pos.1 e)
 have HJ:=qh hj;obtain ⟨p0,p1,p2,p3,_⟩:=fA;obtain ⟨q0,q1,q2,q3,_⟩:=fB.fc;dsimp only at p0 p1 p2 p3 q0 q1 q2 q3;have za:ga < U.heap.size:=World.block_lt_of_cell? U _ p0;have zb:gb < U.heap.size:=World.block_lt_of_cell? U _ q0;have _:Sl ga U.heap.size:=⟨za⟩;have _:Sl gb U.heap.size:=⟨zb⟩;clear hnb hnb' hwB hU hgb hga hB0 b5 bU hxU hyU hvU hsU hpU hyx hyy hj hb1 hb2 hb3 hb4 hb5 hc1 hc2 hc3 hc4 hc5 hf1 hf2 hf3 hf4 hf5 hr4 hq4 hr5 hq5 hv3 hp3 HC HCV;go_upto_region 12 with (first|((go_at_call 40;(with_reducible refine mo0 (HWA.o _ bi) fun w6 hb6 hc6 hf6 _=> ?_));have y6_0:=zlt (ga) hb6;have y6_1:=zlt (gb) hb6)|((go_at_call 40;(with_reducible refine mo0 (HWB.o _ bi) fun w7 hb7 hc7 hf7 _=> ?_));have y7_0:=zlt (ga) hb7;have y7_1:=zlt (gb) hb7)|((go_at_call 41;(with_reducible refine mo0 (jd7 600 600 HJ.o (HXY.o.1.below bi) (HXY.o.2.below bi) HNA.o.sz HNT.o.sz (by omega)) fun w8 hb8 hc8 hf8 _=> ?_));have y8_0:=zlt (ga) hb8;have y8_1:=zlt (gb) hb8))
 have b8:RowKit.Below U.heap.size U w8:=bi;replace p0:=ja9 b8 p0;replace p1:=ja9 b8 p1;replace p2:=ja9 b8 p2;replace p3:=ja9 b8 p3;replace za:=Nat.lt_of_lt_of_le za b8.size;have HB8:=qh b8;clear b8 q0 q1 q2 q3 zb hb6 hb7 hb8 hc6 hc7 hc8 hf6 hf7 hf8 HWA HWB u1
 go_cut [13] (fun v wx=>∃(g:Nat) (q:PT),v= .pointer (some ⟨g,0,none⟩)∧w8.heap.size≤g∧(DBox wx g q∧jwy wx q (x,yx))∧RowKit.Below w8.heap.size w8 wx)
 case first=>
  refine ja1 (fun w'=>Below w8.heap.size w8 w') [6] (by kernel_rfl) ?_;refine tl [(0,[],fv s4 A4 n4 c4 t4 B4 m4 d4),(1,[], .slice A3 n c3),(2,[],fv s4 A4 n4 c4 t4 B4 m4 d4)] [_,_,_] rfl (by kernel_rfl) pk5 (by intros;simp only [tyq,ppq];go_simp) bq0 ?_;simp only [tlq,ppq];clear p0 p1 p2 p3;refine wa2 3 5 (by kernel_rfl) rfl rfl (fun K hK=> ?o1) (fun K hK=> ?o2)
  case' o1=>
   go_simp;go_wp2_with ((go_at_call 42;(with_reducible refine mf0 (HAA.o _ (ja0 HB8.o bi)) fun w11 s11 A11 n11 c11 t11 B11 m11 d11 hr11 hq11 hb11 hc11 hf11 _=> ?_));have y11_0:=zlt (w8.heap.size) hb11;(try have hD0:=DBox.below hD0 hb11))
   refine hK.out _ _ (fun _=>bi) ?_;clear hK K;refine wa2 4 5 (by kernel_rfl) rfl rfl (fun K hK=> ?o3) (fun K hK=> ?o4)
   case' o3=>
    go_simp;refine hK.out _ _ (fun _=>bi) ?_;clear hK K;refine wa1 5 (by kernel_rfl) rfl (fun K hK=> ?_);go_simp;refine hK.out _ _ (fun _=>bi) ?_;clear hK K
    (first|have hD0:=DBox.made w11 91 0 0 0 0 none none none none 0 0 0 0 0 0 0 0|have hD0:=DBox.made w8.drew 91 0 0 0 0 none none none none 0 0 0 0 0 0 0 0)
   case' o4=>
    go_simp;refine hK.out _ _ (fun _=>bi) ?_;clear hK K
    (first|have hD0:=DBox.made w11 91 0 0 0 0 none none none none 0 0 0 0 0 0 0 0|have hD0:=DBox.made w8.drew 91 0 0 0 0 none none none none 0 0 0 0 0 0 0 0)
    refine wa1 4 (by kernel_rfl) rfl (fun K hK=> ?_);go_simp;refine hK.out _ _ (fun _=>bi) ?_;clear hK K
  case' o2=>
   go_simp;refine hK.out _ _ (fun _=>bi) ?_;clear hK K
   (first|have hD0:=DBox.made w11 91 0 0 0 0 none none none none 0 0 0 0 0 0 0 0|have hD0:=DBox.made w8.drew 91 0 0 0 0 none none none none 0 0 0 0 0 0 0 0)
   refine wa1 3 (by kernel_rfl) rfl (fun K hK=> ?_);go_simp;go_wp2_with ((go_at_call 42;(with_reducible refine mf0 (HAA.o _ (ja0 HB8.o bi)) fun w11 s11 A11 n11 c11 t11 B11 m11 d11 hr11 hq11 hb11 hc11 hf11 _=> ?_));have y11_0:=zlt (w8.heap.size) hb11;(try have hD0:=DBox.below hD0 hb11))
   refine hK.out _ _ (fun _=>bi) ?_;clear hK K;refine wa1 4 (by kernel_rfl) rfl (fun K hK=> ?_);go_simp;refine hK.out _ _ (fun _=>bi) ?_;clear hK K
  all_goals
   refine rd1 6 (by kernel_rfl) rfl (fun K hK=> ?_);go_simp;refine hK.out _ _ (fun h=>(h (by decide)).elim) ?_;clear hK K;refine ja2 (by kernel_rfl) ?_ _;go_wp2;go_meet
  all_goals
   have hb9:RowKit.Below w8.heap.size w8 w11:=bi;have hx9:=HXY.o.1.below (ja0 HB8.o hb9);have hy9:RepF w11 s11 A11 n11 c11 t11 B11 m11 d11 yx:=⟨hr11,hq11⟩
  ·exact ⟨_,(((s4,A4,n4,c4),(t4,B4,m4,d4)),((s11,A11,n11,c11),(t11,B11,m11,d11))),rfl,Nat.le_refl _,jzv (show DBox w11 w8.heap.size _ from hD0) hx9 hy9,jyk hb9 (Nat.le_refl _)⟩
  ·exact ⟨_,(((s4,A4,n4,c4),(t4,B4,m4,d4)),((s11,A11,n11,c11),(t11,B11,m11,d11))),rfl,hb9.size,⟨DBox.made w11 _ _ _ _ _ _ _ _ _ _ _ _ _ _ _ _ _,RepF.below hx9 (bA bR),RepF.below hy9 (bA bR)⟩,bA hb9⟩
  ·exact ⟨_,(((s4,A4,n4,c4),(t4,B4,m4,d4)),((s11,A11,n11,c11),(t11,B11,m11,d11))),rfl,hb9.size,⟨DBox.made w11 _ _ _ _ _ _ _ _ _ _ _ _ _ _ _ _ _,RepF.below hx9 (bA bR),RepF.below hy9 (bA bR)⟩,bA hb9⟩
 case rest=>
  rename World=>w9
  obtain ⟨g3,q3,rfl,hg3,⟨hD3,hR3⟩,b9⟩:=hcut;have HF0:=qh (show ((0:Int):Rat)=0 from rfl);have HR0:=qh (show R64 0 by constructor <;> decide);have HL3:=qh (ai hD3 hR3);have HB9:=qh b9;have HG3:=qh hg3;clear b9 hD3 hR3 hg3 p0 p1 p2 p3 za;go_upto_region 14 with (go_at_call 43;(with_reducible refine mf0 (jes HF0.o HR0.o) fun w12 s12 A12 n12 c12 t12 B12 m12 d12 hr12 hq12 hb12 hc12 hf12 _=> ?_))
  obtain ⟨V,hV⟩:∃V,w12.alloc (.cells #[.int .i64 s12, .slice A12 n12 c12, .int .i64 t12, .slice B12 m12 d12] 85)=V:=⟨_,rfl⟩;have bV9:RowKit.Below w9.heap.size w9 V:=by rw [←hV];exact bi
  have hF4:FBox V w12.heap.size ((s12,A12,n12,c12),(t12,B12,m12,d12)):=by rw [←hV];exact FBox.made w12 _ _ _ _ _ _ _ _ _
  have hS4:jlE V ((s12,A12,n12,c12),(t12,B12,m12,d12)) 0:=by rw [←hV];exact RepF.below (w:=w12) ⟨hr12,hq12⟩ (bA bR)
  have hg4:w9.heap.size≤w12.heap.size:=hb12.size;rw [hV];obtain ⟨g4,hgg4⟩:∃k,w12.heap.size=k:=⟨_,rfl⟩;rw [hgg4] at hF4 hg4 ⊢;have bUV:RowKit.Below U.heap.size U V:=ja0 HB8.o (ja0 HB9.o bV9);have HVB:=qh (ai (HF.o.2.below bUV) (HXY.o.2.below bUV));have HOV:=qh (HV.o.1.below bUV);have HL4:=qh (ai (HL3.o.1.below bV9) (jwy.below HL3.o.2 bV9));have HS4:=qh (ai hF4 hS4);have HBV:=qh (ai bV9 (ai bUV hg4));have hBV:B0≤V.heap.size:=Nat.le_trans HV.o.2 bUV.size;have hn6:n≤100000:=by have:=HG.o.2.1;omega
  have h34:g3 < g4:=Nat.lt_of_lt_of_le HL3.o.1.lt hg4;have HNE:=qh h34;clear hV hgg4 bV9 hF4 hS4 hg4 bUV hb12 hc12 hf12 hr12 hq12 h34;refine ja1 (fun w'=>FC w' gb ((s5,A5,n5,c5),(t5,B5,m5,d5))) [] (by kernel_rfl) ?_;have hS0:FC V.drew gb ((s5,A5,n5,c5),(t5,B5,m5,d5)):=(HVB.o.1.below (bD bR)).fc;refine tk 0 (.slice A3 n c3) [] rfl (by kernel_rfl) pk (by rfl) ?_ hS0 ?_
  ·intro w' hS';obtain _:=hS';go_simp
  simp only [ppq];refine tk 1 (fv s5 A5 n5 c5 t5 B5 m5 d5) [] rfl (by kernel_rfl) pk (by rfl) ?_ hS0 ?_
  ·intro w' hS';obtain ⟨v0,v1,v2,v3,_⟩:=hS';go_simp
  simp only [ppq];refine tk 2 (.slice A3 n c3) [] rfl (by kernel_rfl) pk (by rfl) ?_ hS0 ?_
  ·intro w' hS';obtain _:=hS';go_simp
  simp only [ppq];refine tk 3 (fv s5 A5 n5 c5 t5 B5 m5 d5) [] rfl (by kernel_rfl) pk (by rfl) ?_ hS0 ?_
  ·intro w' hS';obtain ⟨v0,v1,v2,v3,_⟩:=hS';go_simp
  simp only [ppq];refine tk 9 (.int .i64 0) [] rfl (by kernel_rfl) pk (by rfl) ?_ hS0 ?_
  ·intro w' hS';obtain _:=hS';go_simp
  simp only [ppq];clear hS0;refine rd1 4 (by kernel_rfl) rfl (fun K hK=> ?_);go_simp;go_wp2_with (go_at_call 42;(with_reducible refine mf0 (HAB.o _ (ja0 HBV.o.2.1 bi)) fun w13 s13 A13 n13 c13 t13 B13 m13 d13 hr13 hq13 hb13 hc13 hf13 _=> ?_))
  refine hK.out _ _ (fun _=>(HVB.o.1.below bi).fc) ?_;clear hK K;refine rd1 5 (by kernel_rfl) rfl (fun K hK=> ?_);go_simp;refine hK.out _ _ (fun _=>(HVB.o.1.below bi).fc) ?_;clear hK K;refine rd1 6 (by kernel_rfl) rfl (fun K hK=> ?_);go_simp;refine hK.out _ _ (fun _=>(HVB.o.1.below bi).fc) ?_;clear hK K;refine rd1 7 (by kernel_rfl) rfl (fun K hK=> ?_);rw [if_pos (by rfl)];refine jyW (base:=B0) (v:= .slice A3 n c3) (q:=(((s5,A5,n5,c5),t5,B5,m5,d5),((s13,A13,n13,c13),t13,B13,m13,d13))) (x:=(y,yy)) _ _ rfl rfl rfl rfl (HOV.o.below bi) hn6 (Nat.le_trans hBV (Below.size bi)) ⟨RepF.below HVB.o.2 bi,RepF.below ⟨hr13,hq13⟩ (bA bR)⟩ (fun k u hu=>by simpa [go_sem,ptc,fts] using hu) ?_;intro v5 W5 hV5 hg5 hl5;have bU:RowKit.Below V.heap.size V (w13.alloc (.cells #[.int .i64 s5, .slice A5 n5 c5, .int .i64 t5, .slice B5 m5 d5, .int .i64 s13, .slice A13 n13 c13, .int .i64 t13, .slice B13 m13 d13] 91)):=bi;obtain ⟨Z,hZ⟩:∃Z,w13.alloc (.cells #[.int .i64 s5, .slice A5 n5 c5, .int .i64 t5, .slice B5 m5 d5, .int .i64 s13, .slice A13 n13 c13, .int .i64 t13, .slice B13 m13 d13] 91)=Z:=⟨_,rfl⟩;rw [hZ] at hg5 hl5 bU
  have e1:∀k,(Value.slice A3 n c3).ownBlock=some k→k≠gb∧k≠g3∧k≠g4:=fun k e=>by
   obtain ⟨h1,h2⟩:=HNB.o.1 k e;have h3:=HG3.o;have h4:=HB8.o.size;have h5:=HBV.o.2.2;have h6:=HB9.o.size;omega
  have e2:∀k,v5.ownBlock=some k→k≠gb∧k≠g3∧k≠g4:=fun k e=>by
   rcases hl5 with h|h
   ·exact e1 k (h ▸ e)
   ·have h1:=(HVB.o.1.below bU).lt;have h2:=(HL4.o.1.below bU).lt;have h3:=(HS4.o.1.below bU).lt;rw [h] at e;cases e
    omega
  have hRn:∀g,(Value.slice A3 n c3).ownBlock=some g→NoU Z g:=fun g e=>(HOV.o.below bU).nou g e
  have HVB5:=qh (ai ((HVB.o.1.below bU).grown hg5 (fun e=>(e1 gb e.symm).1 rfl)) (jlE.grown (q:=((s5,A5,n5,c5),(t5,B5,m5,d5))) (RepF.below HVB.o.2 bU) hg5 hRn));have HL5:=qh (ai ((HL4.o.1.below bU).grown hg5 (fun e=>(e1 g3 e.symm).2.1 rfl)) (jwy.grown (jwy.below HL4.o.2 bU) hg5 hRn));have HS5:=qh (ai ((HS4.o.1.below bU).grown hg5 (fun e=>(e1 g4 e.symm).2.2 rfl)) (jlE.grown (RepF.below HS4.o.2 bU) hg5 hRn));have bW5:RowKit.Below w.heap.size w W5:=((ja0 (ja0 HB.o HBV.o.2.1) bU).trans (jab hg5 (Nat.le_trans HNB.o.2 (Nat.le_trans hBV bU.size)) (fun k e=>Nat.le_trans HNB.o.2 (HOV.o.lt k e).1)));have HB5:=qh bW5;obtain ⟨A6,c6,rfl,_⟩:=hV5.ptv;rw [show qs++[(y,yy)]=arL qs y by rw [←HYX.o.2];rfl] at hV5;have HV5:=qh (ai hV5 e2);have HF5:=qh HVB5.o.1.fc;clear e1 e2 hRn bW5 hV5 hg5 hl5 bU hZ;refine hK.out _ _ (fun _=>HF5.o) ?_;clear hK K;refine rd1 8 (by kernel_rfl) rfl (fun K hK=> ?_);go_simp;refine hK.out _ _ (fun _=>HF5.o) ?_;clear hK K;refine ja2 (by kernel_rfl) ?_ _;go_wp2
  go_loopw [66] (fun u wr=>∃(i:Nat) (q:PT) (qt:FT) (st:(Rat×Rat)×Rat),u= .int .i64 (i:Int)∧i≤n+1∧arN (arL qs y) x (atQ x qs) y i=st∧Below w.heap.size w wr∧OwnP wr B0 (.slice A6 (n+1) c6) (n+1) (vs3++[(((s5,A5,n5,c5),t5,B5,m5,d5),(s13,A13,n13,c13),t13,B13,m13,d13)]) (arL qs y)∧(FBox wr gb ((s5,A5,n5,c5),(t5,B5,m5,d5))∧RepF wr s5 A5 n5 c5 t5 B5 m5 d5 y)∧(DBox wr g3 q∧jwy wr q st.1)∧(FBox wr g4 qt∧jlE wr qt st.2)) (fun u _=>n+1 - (intOf u).toNat)
  case atStart=>exact ⟨0,q3,((s12,A12,n12,c12),(t12,B12,m12,d12)),((x,yx),0),rfl,Nat.zero_le _,by rw [←HYX.o.1];rfl,HB5.o,HV5.o.1,HVB5.o,HL5.o,HS5.o⟩
  case round=>
   obtain ⟨i,q,qt,st,rfl,hin,hst,hb,hO,hVB,hL,hS⟩:=hrel;have _:=bm hb;obtain ⟨A7,c7,he7,hP7⟩:=hO.ptv;cases he7
   by_cases hi:i < n+1
   ·have q0:decide (i < n+1)=true:=by simpa using hi
    obtain ⟨b,o,rfl,hbl,hat⟩:=hP7.at_ (by omega);obtain ⟨⟨⟨⟨s6,A6,n6,c8⟩,t6,B6,m6,d6⟩,⟨s7,A7,n7,c7⟩,t7,B7,m7,d7⟩,hq,hX⟩:=hat i hi;have y0:=hq 0 (.int .i64 s6) rfl;have y1:=hq 1 (.slice A6 n6 c8) rfl;have y2:=hq 2 (.int .i64 t6) rfl;have y3:=hq 3 (.slice B6 m6 d6) rfl;have y4:=hq 4 (.int .i64 s7) rfl;have y5:=hq 5 (.slice A7 n7 c7) rfl;have y6:=hq 6 (.int .i64 t7) rfl;have y7:=hq 7 (.slice B7 m7 d7) rfl;rw [Nat.add_zero] at y0;have hdz:=HDZ.o i (by omega);have hnx:arN (arL qs y) x (atQ x qs) y (i+1)=jyH y st ((arL qs y).getD i (0,0)):=by rw [←hst];rfl
    rw [hst] at hdz;obtain ⟨⟨lx,ly⟩,tt⟩:=st;obtain ⟨⟨px,py⟩,hp⟩:∃p,(arL qs y).getD i (0,0)=p:=⟨_,rfl⟩;rw [hp] at hdz hnx hX;dsimp only at hdz hX hL hS;have HD:=qh hdz;have HNX:=qh hnx;have HI:=qh hi;obtain ⟨⟨⟨s8,A8,n8,c9⟩,t8,B8,m8,d8⟩,⟨s9,A9,n9,e9⟩,t9,B9,m9,d9⟩:=q;obtain ⟨⟨s10,A10,n10,c10⟩,t10,B10,m10,d10⟩:=qt;have HO:=qh hO;have HV6:=qh hVB;have HL6:=qh hL;have HS6:=qh hS;have HX6:=qh hX;have HB6:=qh hb;clear hst hdz hnx hp hat hq hX hO hVB hL hS hP7 hb;go_upto_region 17 with (fail)
    obtain ⟨g,hg⟩:∃g,wr.heap.size=g:=⟨_,rfl⟩;obtain ⟨W,hW⟩:∃W,wr.alloc (.cells #[.int .i64 s6, .slice A6 n6 c8, .int .i64 t6, .slice B6 m6 d6, .int .i64 s7, .slice A7 n7 c7, .int .i64 t7, .slice B7 m7 d7] 91)=W:=⟨_,rfl⟩;have bW:RowKit.Below wr.heap.size wr W:=by rw [←hW];exact bA bR
    have hDX:DBox W g (((s6,A6,n6,c8),(t6,B6,m6,d6)),((s7,A7,n7,c7),(t7,B7,m7,d7))):=by rw [←hW,←hg];exact DBox.made wr _ _ _ _ _ _ _ _ _ _ _ _ _ _ _ _ _
    have hne:g3≠g∧g4≠g:=by
     have h1:=HL6.o.1.lt;have h2:=HS6.o.1.lt;omega
    rw [hg,hW];have HO7:=qh (HO.o.below bW);have HV7:=qh (ai (HV6.o.1.below bW) (HV6.o.2.below bW));have HL7:=qh (ai (HL6.o.1.below bW) (jwy.below HL6.o.2 bW));have HS7:=qh (ai (HS6.o.1.below bW) (RepF.below HS6.o.2 bW));have HX7:=qh (ai hDX (jwy.below HX6.o bW));have HB7:=qh (ja0 HB6.o bW);have HN7:=qh hne;obtain ⟨x0,x1,x2,x3,x4,x5,x6,x7,_⟩:=hDX.sc;obtain ⟨l0,l1,l2,l3,l4,l5,l6,l7,_⟩:=HL7.o.1.sc;obtain ⟨v0,v1,v2,v3,_⟩:=HV7.o.1.fc;obtain ⟨⟨r0,r1,r2,r3⟩,rf0,rf1,rf2,rf3⟩:=HS7.o.1.cells;dsimp only at x0 x1 x2 x3 x4 x5 x6 x7 l0 l1 l2 l3 l4 l5 l6 l7 v0 v1 v2 v3 r0 r1 r2 r3;have zx:g < W.heap.size:=hDX.lt;have zl:g3 < W.heap.size:=HL7.o.1.lt;have zv:gb < W.heap.size:=HV7.o.1.lt;have zr:g4 < W.heap.size:=HS7.o.1.lt;clear hW hg bW hDX hne hbl y0 y1 y2 y3 y4 y5 y6 y7 HO HV6 HL6 HS6 HX6 HB6;obtain ⟨j,hj⟩:∃j,Rq.cmpQ px lx=j:=⟨_,rfl⟩;have HJ:=qh hj;by_cases h1:px≤lx
    ·have u1:decide (j≤0)=true:=by rw [decide_eq_true_iff,←hj];exact Int.not_lt.1 (fun e=>Rat.not_lt.2 h1 (Rq.cmp_pos.1 e))
     have hs:jyH y ((lx,ly),tt) (px,py)=((lx,ly),tt):=by unfold jyH;rw [if_pos (.inl h1)]
     have HSS:=qh hs;clear h1 hj hs;go_upto_region 20 with ((go_at_call 41;(with_reducible refine mo0 (jd7 600 600 HJ.o (HX7.o.2.1.below bi) (HL7.o.2.1.below bi) (HD.o.2.2.2.1.szz.mono (by omega)) (HD.o.1.szz.mono (by omega)) (by omega)) fun w14 hb14 hc14 hf14 _=> ?_));have y14_0:=zlt (g) hb14;have y14_1:=zlt (g3) hb14;have y14_2:=zlt (gb) hb14;have y14_3:=zlt (g4) hb14)
     have b14:RowKit.Below W.heap.size W w14:=bi;have HB14:=qh b14;clear b14;go_wp2
     go_roundw
     case rel=>exact ⟨i+1,(((s8,A8,n8,c9),(t8,B8,m8,d8)),((s9,A9,n9,e9),(t9,B9,m9,d9))),((s10,A10,n10,c10),(t10,B10,m10,d10)),((lx,ly),tt),by simp,HI.o,by rw [HNX.o,HSS.o],ja0 HB7.o HB14.o,HO7.o.below HB14.o,⟨HV7.o.1.below HB14.o,RepF.below HV7.o.2 HB14.o⟩,⟨HL7.o.1.below HB14.o,jwy.below HL7.o.2 HB14.o⟩,⟨HS7.o.1.below HB14.o,RepF.below HS7.o.2 HB14.o⟩⟩
     case measure=>have:=HI.o;simp [intOf];omega
    ·have u1:decide (j≤0)=false:=by rw [decide_eq_false_iff_not,←hj];exact Int.not_le.2 (Rq.cmp_pos.2 (Rat.not_le.1 h1))
     obtain ⟨j2,hj2⟩:∃j,Rq.cmpQ px y=j:=⟨_,rfl⟩;have HJ2:=qh hj2;by_cases h2:y < px
     ·have u2:decide (0 < j2)=true:=by rw [decide_eq_true_iff,←hj2];exact Rq.cmp_pos.2 h2
      have hs:jyH y ((lx,ly),tt) (px,py)=((lx,ly),tt):=by unfold jyH;rw [if_pos (.inr h2)]
      have HSS:=qh hs;clear h1 h2 hj hj2 hs;go_upto_region 20 with (first|((go_at_call 41;(with_reducible refine mo0 (jd7 600 600 HJ.o (HX7.o.2.1.below bi) (HL7.o.2.1.below bi) (HD.o.2.2.2.1.szz.mono (by omega)) (HD.o.1.szz.mono (by omega)) (by omega)) fun w14 hb14 hc14 hf14 _=> ?_));have y14_0:=zlt (g) hb14;have y14_1:=zlt (g3) hb14;have y14_2:=zlt (gb) hb14;have y14_3:=zlt (g4) hb14)|((go_at_call 41;(with_reducible refine mo0 (jd7 600 600 HJ2.o (HX7.o.2.1.below bi) (HV7.o.2.below bi) (HD.o.2.2.2.1.szz.mono (by omega)) HNT.o.sz (by omega)) fun w15 hb15 hc15 hf15 _=> ?_));have y15_0:=zlt (g) hb15;have y15_1:=zlt (g3) hb15;have y15_2:=zlt (gb) hb15;have y15_3:=zlt (g4) hb15))
      have b14:RowKit.Below W.heap.size W w15:=bi;have HB14:=qh b14;clear b14;go_wp2
      go_roundw
      case rel=>exact ⟨i+1,(((s8,A8,n8,c9),(t8,B8,m8,d8)),((s9,A9,n9,e9),(t9,B9,m9,d9))),((s10,A10,n10,c10),(t10,B10,m10,d10)),((lx,ly),tt),by simp,HI.o,by rw [HNX.o,HSS.o],ja0 HB7.o HB14.o,HO7.o.below HB14.o,⟨HV7.o.1.below HB14.o,RepF.below HV7.o.2 HB14.o⟩,⟨HL7.o.1.below HB14.o,jwy.below HL7.o.2 HB14.o⟩,⟨HS7.o.1.below HB14.o,RepF.below HS7.o.2 HB14.o⟩⟩
      case measure=>have:=HI.o;simp [intOf];omega
     ·have u2:decide (0 < j2)=false:=by rw [decide_eq_false_iff_not,←hj2];exact fun e=>h2 (Rq.cmp_pos.1 e)
      have hs:jyH y ((lx,ly),tt) (px,py)=((px,py),tt+(px - lx)*(py+ly) / 2):=by unfold jyH;rw [if_neg (fun e=>e.elim h1 h2)]
      have HSS:=qh hs;clear h1 h2 hj hj2 hs;go_upto_region 18 with (first|((go_at_call 41;(with_reducible refine mo0 (jd7 600 600 HJ.o (HX7.o.2.1.below bi) (HL7.o.2.1.below bi) (HD.o.2.2.2.1.szz.mono (by omega)) (HD.o.1.szz.mono (by omega)) (by omega)) fun w14 hb14 hc14 hf14 _=> ?_));have y14_0:=zlt (g) hb14;have y14_1:=zlt (g3) hb14;have y14_2:=zlt (gb) hb14;have y14_3:=zlt (g4) hb14)|((go_at_call 41;(with_reducible refine mo0 (jd7 600 600 HJ2.o (HX7.o.2.1.below bi) (HV7.o.2.below bi) (HD.o.2.2.2.1.szz.mono (by omega)) HNT.o.sz (by omega)) fun w15 hb15 hc15 hf15 _=> ?_));have y15_0:=zlt (g) hb15;have y15_1:=zlt (g3) hb15;have y15_2:=zlt (gb) hb15;have y15_3:=zlt (g4) hb15))
      have b15:RowKit.Below W.heap.size W w15:=bi;replace x0:=ja9 b15 x0;replace x1:=ja9 b15 x1;replace x2:=ja9 b15 x2;replace x3:=ja9 b15 x3;replace x4:=ja9 b15 x4;replace x5:=ja9 b15 x5;replace x6:=ja9 b15 x6;replace x7:=ja9 b15 x7;replace l0:=ja9 b15 l0;replace l1:=ja9 b15 l1;replace l2:=ja9 b15 l2;replace l3:=ja9 b15 l3;replace l4:=ja9 b15 l4;replace l5:=ja9 b15 l5;replace l6:=ja9 b15 l6;replace l7:=ja9 b15 l7;replace r0:=ja9 b15 r0;replace r1:=ja9 b15 r1;replace r2:=ja9 b15 r2;replace r3:=ja9 b15 r3;replace rf0:=(b15.frozen (p:=⟨g4,0,none⟩) zr).trans rf0;replace rf1:=(b15.frozen (p:=⟨g4,1,none⟩) zr).trans rf1;replace rf2:=(b15.frozen (p:=⟨g4,2,none⟩) zr).trans rf2;replace rf3:=(b15.frozen (p:=⟨g4,3,none⟩) zr).trans rf3;replace zx:=Nat.lt_of_lt_of_le zx b15.size;replace zl:=Nat.lt_of_lt_of_le zl b15.size;replace zr:=Nat.lt_of_lt_of_le zr b15.size;have HX8:=qh (jwy.below HX7.o.2 b15);have HL8:=qh (jwy.below HL7.o.2 b15);have HS8:=qh (RepF.below HS7.o.2 b15);have HB8':=qh b15;clear b15 v0 v1 v2 v3 zv hb14 hb15 hc14 hc15 hf14 hf15 HJ HJ2 u1 u2;obtain ⟨dlx,dly,dtt,dpx,dpy⟩:=HD.o;have Zlx:=qh dlx.szz;have Zly:=qh dly.szz;have Ztt:=qh dtt.szz;have Zpx:=qh dpx.szz;have Zpy:=qh dpy.szz;obtain ⟨k1,hk1⟩:∃k,px - lx=k:=⟨_,rfl⟩;obtain ⟨k2,hk2⟩:∃k,py+ly=k:=⟨_,rfl⟩;obtain ⟨k3,hk3⟩:∃k,k1*k2=k:=⟨_,rfl⟩;obtain ⟨k4,hk4⟩:∃k,k3 / 2=k:=⟨_,rfl⟩;obtain ⟨k5,hk5⟩:∃k,tt+k4=k:=⟨_,rfl⟩;have z1:Sz 221 k1:=hk1 ▸ Zpx.o.sub Zlx.o;have z2:Sz 221 k2:=hk2 ▸ Zpy.o.add Zly.o;have z3:Sz 442 k3:=hk3 ▸ z1.mul z2;have t0:Sz 1 (2:Rat):=⟨by decide+kernel,by decide+kernel⟩;have t1:(2:Rat)≠0:=by decide+kernel
      have z4:Sz 443 k4:=hk4 ▸ z3.div t0 t1;have HSE:=qh (show arN (arL qs y) x (atQ x qs) y (i+1)=((px,py),k5) by rw [HNX.o,HSS.o,hk1,hk2,hk3,hk4,hk5]);have Hk1:=qh hk1;have Hk2:=qh hk2;have Hk3:=qh hk3;have Hk4:=qh hk4;have Hk5:=qh hk5;have Z1:=qh z1;have Z2:=qh z2;have Z3:=qh z3;have Z4:=qh z4;have T0:=qh t0;have T1:=qh t1;have HF2:=qh (show ((2:Int):Rat)=2 from rfl);have HR2:=qh (show R64 2 by constructor <;> decide);clear dlx dly dtt dpx dpy hk1 hk2 hk3 hk4 hk5 z1 z2 z3 z4 t0 t1;refine ja1 (fun w'=>Below w15.heap.size w15 w') [15] (by kernel_rfl) ?_;refine tl [(0,[],fv s10 A10 n10 c10 t10 B10 m10 d10),(1,[], .pointer (some ⟨g,0,none⟩)),(2,[],fv s6 A6 n6 c8 t6 B6 m6 d6),(3,[], .pointer (some ⟨g3,0,none⟩)),(4,[],fv s8 A8 n8 c9 t8 B8 m8 d8),(6,[], .pointer (some ⟨g,4,none⟩)),(7,[],fv s7 A7 n7 c7 t7 B7 m7 d7),(8,[], .pointer (some ⟨g3,4,none⟩))] [_,_,_,_,_,_,_,_] rfl (by kernel_rfl) pk5 (by intros;simp only [tyq,ppq];go_simp) bq0 ?_;simp only [tlq,ppq];refine tb 9 (fv s9 A9 n9 e9 t9 B9 m9 d9) [] rfl (by kernel_rfl) pk rfl (by intros;go_simp) bq0 ?_;simp only [ppq];refine rd1 5 (by kernel_rfl) rfl (fun K hK=> ?_);go_simp;go_wp2_with (go_at_call 45;(with_reducible refine mf0 (jeP 110 110 Hk1.o (HX8.o.1.below bi) (HL8.o.1.below bi) Zpx.o Zlx.o (by omega)) fun w16 s16 A16 n16 c16 t16 B16 m16 d16 hr16 hq16 hb16 hc16 hf16 _=> ?_))
      have sS16:=qh (bst bq0 hb16);refine hK.out _ _ (fun _=>sS16.o) ?_;clear hK K;refine rd1 10 (by kernel_rfl) rfl (fun K hK=> ?_);go_simp;go_wp2_with (go_at_call 44;(with_reducible refine mf0 (jo7 110 110 Hk2.o (HX8.o.2.below bi) (HL8.o.2.below bi) Zpy.o Zly.o (by omega)) fun w17 s17 A17 n17 c17 t17 B17 m17 d17 hr17 hq17 hb17 hc17 hf17 _=> ?_))
      have sS17:=qh (bst sS16.o hb17);refine hK.out _ _ (fun _=>sS17.o) ?_;clear hK K;refine rd1 11 (by kernel_rfl) rfl (fun K hK=> ?_);go_simp;go_wp2_with (go_at_call 46;(with_reducible refine mf0 (jbO 221 221 Hk3.o (by constructor <;> (with_reducible repeat first|assumption|apply rZ|refine rP ?_ rfl (by simp [go_sem,hc17]))) ⟨hr17,hq17⟩ Z1.o Z2.o (by omega)) fun w18 s18 A18 n18 c18 t18 B18 m18 d18 hr18 hq18 hb18 hc18 hf18 _=> ?_))
      have sS18:=qh (bst sS17.o hb18);refine hK.out _ _ (fun _=>sS18.o) ?_;clear hK K;refine rd1 12 (by kernel_rfl) rfl (fun K hK=> ?_);go_simp;go_wp2_with (go_at_call 43;(with_reducible refine mf0 (jes HF2.o HR2.o) fun w19 s19 A19 n19 c19 t19 B19 m19 d19 hr19 hq19 hb19 hc19 hf19 _=> ?_))
      have sS19:=qh (bst sS18.o hb19);refine hK.out _ _ (fun _=>sS19.o) ?_;clear hK K;refine rd1 13 (by kernel_rfl) rfl (fun K hK=> ?_);go_simp;go_wp2_with (go_at_call 47;(with_reducible refine mf0 (jeB 442 1 Hk4.o (by constructor <;> (with_reducible repeat first|assumption|apply rZ|refine rP ?_ rfl (by simp [go_sem,hc19]))) ⟨hr19,hq19⟩ Z3.o T0.o (by omega) T1.o) fun w20 s20 A20 n20 c20 t20 B20 m20 d20 hr20 hq20 hb20 hc20 hf20 _=> ?_))
      have sS20:=qh (bst sS19.o hb20);refine hK.out _ _ (fun _=>sS20.o) ?_;clear hK K;refine rd1 14 (by kernel_rfl) rfl (fun K hK=> ?_);go_simp;go_wp2_with (go_at_call 44;(with_reducible refine mf0 (jo7 500 443 Hk5.o (RepF.below HS8.o bi) ⟨hr20,hq20⟩ Ztt.o Z4.o (by omega)) fun w21 s21 A21 n21 c21 t21 B21 m21 d21 hr21 hq21 hb21 hc21 hf21 _=> ?_))
      have sS21:=qh (bst sS20.o hb21);refine hK.out _ _ (fun _=>sS21.o) ?_;clear hK K;have b21:RowKit.Below w15.heap.size w15 w21:=bi;replace r0:=ja9 b21 r0;replace r1:=ja9 b21 r1;replace r2:=ja9 b21 r2;replace r3:=ja9 b21 r3;replace rf0:=(b21.frozen (p:=⟨g4,0,none⟩) zr).trans rf0;replace rf1:=(b21.frozen (p:=⟨g4,1,none⟩) zr).trans rf1;replace rf2:=(b21.frozen (p:=⟨g4,2,none⟩) zr).trans rf2;replace rf3:=(b21.frozen (p:=⟨g4,3,none⟩) zr).trans rf3;have HB21:=qh (ja0 HB8'.o b21);have HK5:=qh (show RepF w21 s21 A21 n21 c21 t21 B21 m21 d21 k5 from ⟨hr21,hq21⟩);clear b21 x0 x1 x2 x3 x4 x5 x6 x7 l0 l1 l2 l3 l4 l5 l6 l7 hr21 hq21 hc21 hf21;refine rd1 15 (by kernel_rfl) rfl (fun K hK=> ?_);go_simp;refine hK.out _ _ (fun h=>(h (by decide)).elim) ?_;clear hK K;refine ja2 (by kernel_rfl) ?_ _;have bw:=HB21.o
      have e1:gb≠g4∧gb≠g3∧g3≠g4∧w.heap.size≤g3∧w.heap.size≤g4:=by
       have h1:=HF.o.2.lt;have h2:=HG3.o;have h3:=HB8.o.size;have h4:=HNE.o;have h5:=HB.o.size;omega
      have e2:=HV5.o.2;have hg:w21.grownBy ((((w21.setCell ⟨g4,0,none⟩ (.int .i64 s21)).setCell ⟨g4,1,none⟩ (.slice A21 n21 c21)).setCell ⟨g4,2,none⟩ (.int .i64 t21)).setCell ⟨g4,3,none⟩ (.slice B21 m21 d21)) (some g4):=jz4;have hS:=(HS7.o.1.below bw).setR (s:=s21) (A:=A21) (n:=n21) (c:=c21) (t:=t21) (B:=B21) (m:=m21) (d:=d21);obtain ⟨S,hSS⟩:∃S,(((w21.setCell ⟨g4,0,none⟩ (.int .i64 s21)).setCell ⟨g4,1,none⟩ (.slice A21 n21 c21)).setCell ⟨g4,2,none⟩ (.int .i64 t21)).setCell ⟨g4,3,none⟩ (.slice B21 m21 d21)=S:=⟨_,rfl⟩;rw [hSS] at hg hS ⊢;have hRn:∀k,some g4=some k→NoU w21 k:=fun k e=>by cases e;exact (HS7.o.1.below bw).nou
      have HS9:=qh (ai hS (jlE.grown (q:=((s21,A21,n21,c21),(t21,B21,m21,d21))) HK5.o hg hRn));have HO9:=qh ((HO7.o.below bw).kept hg hRn (fun k e h=>by cases h;exact (e2 _ e).2.2 rfl));have HV9:=qh (ai ((HV7.o.1.below bw).grown hg (fun e=>by cases e;exact e1.1 rfl)) (jlE.grown (q:=((s5,A5,n5,c5),(t5,B5,m5,d5))) (RepF.below HV7.o.2 bw) hg hRn));have HL9:=qh ((HL7.o.1.below bw).grown hg (fun e=>by cases e;exact e1.2.2.1 rfl));have HX9:=qh (ai ((HX7.o.1.below bw).grown hg (fun e=>by cases e;exact HN7.o.2 rfl)) (jwy.grown (jwy.below HX7.o.2 bw) hg hRn));have hwS:RowKit.Below w.heap.size w S:=(ja0 HB7.o bw).trans (jab hg (ja0 HB7.o bw).size (fun k e=>by cases e;exact e1.2.2.2.2));have HBS:=qh hwS;have HE1:=qh (ai e1 e2);obtain ⟨x0,x1,x2,x3,x4,x5,x6,x7,_⟩:=HX9.o.1.sc;obtain ⟨l0,l1,l2,l3,l4,l5,l6,l7,lf⟩:=HL9.o.sc;have lf0:=lf 0;have lf1:=lf 1;have lf2:=lf 2;have lf3:=lf 3;have lf4:=lf 4;have lf5:=lf 5;have lf6:=lf 6;have lf7:=lf 7;dsimp only at x0 x1 x2 x3 x4 x5 x6 x7 l0 l1 l2 l3 l4 l5 l6 l7;clear lf bw e1 e2 hg hS hSS hRn hwS r0 r1 r2 r3 rf0 rf1 rf2 rf3 zx zl zr;go_wp2;have hRn:∀k,some g3=some k→NoU S k:=fun k e=>by cases e;exact HL9.o.nou
      have hI:=HI.o;exact ⟨⟨i+1,(((s6,A6,n6,c8),(t6,B6,m6,d6)),((s7,A7,n7,c7),(t7,B7,m7,d7))),((s21,A21,n21,c21),(t21,B21,m21,d21)),((px,py),k5),by simp,hI,HSE.o,HBS.o.trans (jab jwD HBS.o.size (fun k e=>by cases e;exact HE1.o.1.2.2.2.1)),HO9.o.kept jwD hRn (fun k e h=>by cases h;exact (HE1.o.2 _ e).2.1 rfl),⟨HV9.o.1.grown jwD (fun e=>by cases e;exact HE1.o.1.2.1 rfl),jlE.grown (q:=((s5,A5,n5,c5),(t5,B5,m5,d5))) HV9.o.2 jwD hRn⟩,jzv HL9.o HX9.o.2.1 HX9.o.2.2,⟨HS9.o.1.grown jwD (fun e=>by cases e;exact HE1.o.1.2.2.1 rfl),jlE.grown (q:=((s21,A21,n21,c21),(t21,B21,m21,d21))) HS9.o.2 jwD hRn⟩⟩,by simp [intOf];omega⟩
   ·have q0:decide (i < n+1)=false:=by simp;omega
    obtain rfl:i=n+1:=by omega
    have hzz:st.2=z:=by rw [←hst,←HZ.o.1];unfold arQ;rw [HG.o.2.2]
    rw [hzz] at hS;have HT:=qh hS.2;obtain ⟨⟨s14,A14,n14,c14⟩,t14,B14,m14,d14⟩:=qt;obtain ⟨⟨v0,v1,v2,v3⟩,_⟩:=hS.1.cells;dsimp only at v0 v1 v2 v3;have HEW:=qh (HE.o.below hb);have HBE:=qh hb;have zv:g4 < wr.heap.size:=hS.1.lt;clear hin hst hO hVB hL hS hP7 hi hzz;go_wp2_with (go_at_call 48;(with_reducible refine mo0 (jpA HZ.o.2.2.1 HZ.o.2.2.2 (HT.o.below bi) (HEW.o.below bi) HZ.o.2.1) fun w14 hb14 hc14 hf14 _=> ?_))
    go_ret2;exact ⟨rfl,ja0 HBE.o bi⟩
end
end Go.Proofs.YtpkcjfpgemdfdaaGreatDoor
