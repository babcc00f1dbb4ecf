/- Parts. -/
import Derived.Test.YtpkcjfpgemdfdaaGreatDoorBxG
import Derived.Test.YtpkcjfpgemdfdaaGreatDoorAgG
set_option linter.all false
set_option maxRecDepth 100000
set_option maxHeartbeats 8000000
namespace Go.Proofs.YtpkcjfpgemdfdaaGreatDoor
open Go Go.RowKit Go.Proofs.Tryz

section
variable {w:World} {A:Option Addr} {n c p2 p3:Nat} {qs:List (Rat×Rat)} {qx:FT} {x:Rat}
theorem jA8 {i:Nat} {g:Bool} (h:Ptv w A n qs) (hi:i < n) (h2:w.cell? ⟨p2,0,none⟩=some (.slice A n c)) (hF:FC w p3 qx) (hR:jlE w qx x) (zq:∀j,j < n→Sz 600 (qs.getD j (0,0)).1) (zx:Sz 600 x) (hg:decide (x≤(qs.getD i (0,0)).1)=g):
  Calls prog 103 #[.int .i64 (i:Int), .pointer (some ⟨p2,0,none⟩), .pointer (some ⟨p3,0,none⟩)] w fun e w'=>e= .returned (.bool g)∧Below w.heap.size w w':=by
 obtain ⟨b,o,rfl,hbl,hat⟩:=h.at_ (by omega);obtain ⟨⟨⟨⟨s4,A4,n4,c4⟩,t4,B4,m4,d4⟩,⟨⟨s6,A6,n6,c6⟩,t6,B6,m6,d6⟩⟩,hq,hX⟩:=hat i hi;have y0:=hq 0 (.int .i64 s4) rfl;have y1:=hq 1 (.slice A4 n4 c4) rfl;have y2:=hq 2 (.int .i64 t4) rfl;have y3:=hq 3 (.slice B4 m4 d4) rfl;rw [Nat.add_zero] at y0;obtain ⟨⟨s3,A3,n3,c3⟩,t3,B3,m3,d3⟩:=qx;obtain ⟨v0,v1,v2,v3,vf⟩:=hF;dsimp only at v0 v1 v2 v3;have zp:p3 < w.heap.size:=World.block_lt_of_cell? w _ v0;have zb:p2 < w.heap.size:=World.block_lt_of_cell? w _ h2;obtain ⟨j,hj⟩:∃j,Rq.cmpQ (qs.getD i (0,0)).1 x=j:=⟨_,rfl⟩
 have q1:decide (0≤j)=g:=by
  rw [←hg,←hj,decide_eq_decide];unfold Rq.cmpQ
  (repeat' split) <;> grind
 have HX:=qh hX.1;have HR:=qh hR;have HJ:=qh hj;have HZ:=qh (ai (zq i hi) zx);have q9:decide (i < n)=true:=by simpa using hi
 clear h hat hq hX hR zq zx hj hg vf;go_enter func103,ntmps103;go_upto_region 1 with (fail)
 refine ja1 (fun w'=>Below w.heap.size w w') [] (by kernel_rfl) ?_;refine tl [(0,[2], .slice (some ⟨b,o,none⟩) n c),(1,[2], .int .i64 (i:Int)),(2,[3], .pointer (some ⟨b,o+i*8,none⟩)),(3,[4], .pointer (some ⟨b,o+i*8,none⟩)),(4,[6],fv s4 A4 n4 c4 t4 B4 m4 d4),(5,[6],fv s3 A3 n3 c3 t3 B3 m3 d3)] [_,_,_,_,_,_] rfl (by kernel_rfl) pk5 (by intros;simp only [tyq,ppq];go_simp) bq0 ?_;simp only [tlq,ppq];refine rd1 6 (by kernel_rfl) rfl (fun K hK=> ?_);go_simp;go_wp2_with (go_at_call 41;(with_reducible refine mo0 (jd7 600 600 HJ.o (HX.o.below bi) (RepF.below HR.o bi) HZ.o.1 HZ.o.2 (by omega)) fun w11 hb11 hc11 hf11 _=> ?_))
 have sS11:=qh (bst bq0 hb11);refine hK.out _ _ (fun _=>sS11.o) ?_;clear hK K;refine rd1 7 (by kernel_rfl) rfl (fun K hK=> ?_);go_simp;refine hK.out _ _ (fun _=>bi) ?_;clear hK K;refine rd1 8 (by kernel_rfl) rfl (fun K hK=> ?_);go_simp;refine hK.out _ _ (fun _=>bi) ?_;clear hK K;refine ja2 (by kernel_rfl) ?_ _;go_wp2;go_ret;exact ⟨rfl,bi⟩
theorem jzq (h:Ptv w A n qs) (hn:n≤100) (h2:w.cell? ⟨p2,0,none⟩=some (.slice A n c)) (hF:FC w p3 qx) (hR:jlE w qx x) (zq:∀j,j < n→Sz 600 (qs.getD j (0,0)).1) (zx:Sz 600 x):
  Calls prog 102 #[.int .i64 (n:Int), .func (.func 103) #[] #[.pointer (some ⟨p2,0,none⟩), .pointer (some ⟨p3,0,none⟩)]] w fun e w'=>∃r:Nat,e= .returned (.int .i64 (r:Int))∧r≤n∧(r=0∨(qs.getD (r - 1) (0,0)).1 < x)∧(r=n∨x≤(qs.getD r (0,0)).1)∧Below w.heap.size w w':=by
 have HA:=qh (fun (i:Nat) (g:Bool) (hi:i < n) (hg:decide (x≤(qs.getD i (0,0)).1)=g) W (hb:Below w.heap.size w W)=>jA8 (h.below hb) hi (ja9 hb h2) (hF.below hb) (RepF.below hR hb) zq zx hg);have HN:=qh hn;clear h hn h2 hF hR zq zx;go_enter func102,ntmps102;go_wp2
 go_loopw [5,6] (fun a b wr=>∃i j:Nat,a= .int .i64 (i:Int)∧b= .int .i64 (j:Int)∧i≤j∧j≤n∧(i=0∨(qs.getD (i - 1) (0,0)).1 < x)∧(j=n∨x≤(qs.getD j (0,0)).1)∧Below w.heap.size w wr) (fun a b _=>(intOf b - intOf a).toNat)
 case atStart=>exact ⟨0,n,rfl,rfl,Nat.zero_le _,Nat.le_refl _, .inl rfl, .inl rfl,bi⟩
 case round=>
  obtain ⟨i,j,rfl,rfl,hij,hjn,hl,hr,hb⟩:=hrel;have _:=bm hb;have hnn:=HN.o;by_cases hi:i < j
  ·have q0:decide (i < j)=true:=by simpa using hi
   obtain ⟨m,hm⟩:∃m,(i+j) / 2=m:=⟨_,rfl⟩;have hmi:i≤m∧m < j:=by omega
   obtain ⟨g,hg⟩:∃g,decide (x≤(qs.getD m (0,0)).1)=g:=⟨_,rfl⟩;have HS:=qh (fun W hb=>HA.o m g (by omega) hg W hb);have HK:=qh (ai hl (ai hr (ai hmi hg)));have HB:=qh hb;clear hl hr hg hb;go_upto_region 4 with (fail)
   have em:((i:Int)+(j:Int)) / 2=(m:Int):=by omega
   simp only [em];clear em hm;cases g with
   | true=>
     go_wp2_with (go_at_call 103;(with_reducible refine mo0 (HS.o _ HB.o) fun w1 hb1 hc1 hf1 _=> ?_))
     obtain ⟨k1,k2,k3,k4⟩:=HK.o;have b1:Below w.heap.size w w1:=ja0 HB.o bi;exact ⟨⟨i,m,rfl,rfl,k3.1,by omega,k1, .inr (of_decide_eq_true k4),b1⟩,by have:=k3.2;simp [intOf];omega⟩
   | false=>
     go_wp2_with (go_at_call 103;(with_reducible refine mo0 (HS.o _ HB.o) fun w1 hb1 hc1 hf1 _=> ?_))
     obtain ⟨k1,k2,k3,k4⟩:=HK.o;have b1:Below w.heap.size w w1:=ja0 HB.o bi;exact ⟨⟨m+1,j,by simp,rfl,by omega,hjn, .inr (by rw [Nat.add_sub_cancel];exact Rat.not_le.1 (of_decide_eq_false k4)),k2,b1⟩,by have:=k3;simp [intOf];omega⟩
  ·have q0:decide (i < j)=false:=by simpa using hi
   obtain rfl:i=j:=by omega
   clear hi hij;go_wp2;go_ret;exact ⟨i,rfl,hjn,hl,hr,hb⟩
end
theorem jzt {x y:Rat} (h:Rq.cmpQ x y=0):x=y:=by
 unfold Rq.cmpQ at h
 (repeat' split at h) <;> grind
def lin (p q:Rat×Rat) (x:Rat):Rat:=p.2+(q.2 - p.2)*(x - p.1) / (q.1 - p.1)
def atQ (x:Rat):List (Rat×Rat)→Rat
 | []=>0
 | [p]=>p.2
 | p::q::r=>if x≤q.1 then lin p q x else atQ x (q::r)
theorem jzb {p q:Rat×Rat}:lin p q p.1=p.2:=by
 unfold lin;rw [Rat.sub_self,Rat.mul_zero,Rat.div_def,Rat.zero_mul,Rat.add_zero]
theorem jyG {p q:Rat×Rat} (h:p.1 < q.1):lin p q q.1=q.2:=by
 unfold lin;have hd:q.1 - p.1≠0:=by grind
 rw [Rat.mul_div_cancel hd];grind
def Ups (qs:List (Rat×Rat)):Prop:=∀i,i+1 < qs.length→(qs.getD i (0,0)).1 < (qs.getD (i+1) (0,0)).1
theorem Ups.tail {p:Rat×Rat} {r:List (Rat×Rat)} (h:Ups (p::r)):Ups r:=fun i hi=>by
 have:=h (i+1) (by simp;omega);simpa using this
theorem Ups.mono {qs:List (Rat×Rat)} (h:Ups qs) {i j:Nat} (hij:i < j) (hj:j < qs.length):(qs.getD i (0,0)).1 < (qs.getD j (0,0)).1:=by
 induction j with
 | zero=>omega
 | succ j ih=>
   have h1:=h j hj;by_cases e:i=j
   ·rw [e];exact h1
   ·have h2:=ih (by omega) (by omega)
    grind
theorem jyP {x:Rat}:∀{qs:List (Rat×Rat)} {i:Nat},Ups qs→i+1 < qs.length→(qs.getD i (0,0)).1≤x→x≤(qs.getD (i+1) (0,0)).1→atQ x qs=lin (qs.getD i (0,0)) (qs.getD (i+1) (0,0)) x
 | [],i,_,h,_,_=>by simp at h
 | [p],i,_,h,_,_=>by simp at h
 | p::q::r,0,_,_,_,h2=>if_pos h2
 | p::q::r,i+1,hu,hi,h1,h2=>by
   have hi':i+1 < (q::r).length:=by simpa using hi
   have h1':((q::r).getD i (0,0)).1≤x:=by simpa using h1
   have h2':x≤((q::r).getD (i+1) (0,0)).1:=by simpa using h2
   show (if x≤q.1 then lin p q x else atQ x (q::r))=lin ((q::r).getD i (0,0)) ((q::r).getD (i+1) (0,0)) x
   by_cases hx:x≤q.1
   ·rw [if_pos hx];have hpq:p.1 < q.1:=hu 0 (by simp);cases i with
    | zero=>
      have h3:q.1≤x:=h1';have e:x=q.1:=Rat.le_antisymm hx h3;rw [e,jyG hpq];exact jzb.symm
    | succ i=>
      have h3:=hu.tail.mono (i:=0) (j:=i+1) (by omega) (by omega);have h4:q.1 < ((q::r).getD (i+1) (0,0)).1:=h3
      grind
   ·rw [if_neg hx];exact jyP hu.tail hi' h1' h2'
theorem jyF {qs:List (Rat×Rat)} {i:Nat} (hu:Ups qs) (hi:i < qs.length):atQ (qs.getD i (0,0)).1 qs=(qs.getD i (0,0)).2:=by
 cases i with
 | zero=>
   match qs,hi with
   | [p],_=>rfl
   | p::q::r,_=>
     rw [jyP (i:=0) hu (by simp) Rat.le_refl (Rat.le_of_lt (hu 0 (by simp)))];exact jzb
 | succ i=>
   have h1:=hu i hi;rw [jyP (i:=i) hu hi (Rat.le_of_lt h1) Rat.le_refl];exact jyG h1
section
variable {w:World} {A A0 B0:Option Addr} {n c n0 c0 m0 d0:Nat} {s0 t0:Int} {qs:List (Rat×Rat)} {x z:Rat}
set_option maxHeartbeats 16000000 in
theorem jzY (h:Ptv w A n qs) (h0:0 < n) (hn:n≤100) (hu:Ups qs) (hR:RepF w s0 A0 n0 c0 t0 B0 m0 d0 x) (zq:∀j,j < n→Sz 600 (qs.getD j (0,0)).1∧Sz 600 (qs.getD j (0,0)).2) (zx:Sz 600 x) (hlo:(qs.getD 0 (0,0)).1≤x) (hhi:x≤(qs.getD (n - 1) (0,0)).1) (hz:atQ x qs=z):
  Calls prog 42 #[.slice A n c,fv s0 A0 n0 c0 t0 B0 m0 d0] w (jaa z w):=by
 have H:=qh h;have HR:=qh hR;have HQ:=qh (ai zq (ai zx (ai hn (ai hu (ai hlo (ai hhi hz))))));clear h hR zq zx hu hlo hhi hz;go_enter func42,ntmps42;go_upto_region 1 with (fail)
 obtain ⟨W,hW⟩:∃W,(((w.alloc (.cells #[.slice A n c] 79)).alloc (.cells #[.int .i64 s0, .slice A0 n0 c0, .int .i64 t0, .slice B0 m0 d0] 85)).alloc (.cells #[.int .i64 0, .slice none 0 0, .int .i64 0, .slice none 0 0] 85))=W:=⟨_,rfl⟩;have bW:Below w.heap.size w W:=by rw [←hW];exact bi
 have p0:W.cell? ⟨w.heap.size,0,none⟩=some (.slice A n c):=by rw [←hW];simp [go_sem]
 have hF:FC W (w.heap.size+1) ((s0,A0,n0,c0),(t0,B0,m0,d0)):=by rw [←hW];exact ⟨by simp [go_sem],by simp [go_sem],by simp [go_sem],by simp [go_sem],fun o=>by simp [go_sem]⟩
 have hG:FC W (w.heap.size+1+1) ((0,none,0,0),(0,none,0,0)):=by rw [←hW];exact ⟨by simp [go_sem],by simp [go_sem],by simp [go_sem],by simp [go_sem],fun o=>by simp [go_sem]⟩
 rw [hW];obtain ⟨g2,hg2⟩:∃g,w.heap.size+1+1=g:=⟨_,rfl⟩;obtain ⟨g1,hg1⟩:∃g,w.heap.size+1=g:=⟨_,rfl⟩;obtain ⟨g,hg⟩:∃g,w.heap.size=g:=⟨_,rfl⟩;rw [hg2] at hG ⊢;rw [hg1] at hF ⊢;have hgg:w.heap.size≤g2:=by omega
 rw [hg] at p0 ⊢;have HP:=qh (H.o.below bW);have HX:=qh (RepF.below HR.o bW);obtain ⟨zq,zx,hn,hu,hlo,hhi,hz⟩:=HQ.o;have HS:=qh (jzq (c:=c) HP.o hn p0 hF HX.o (fun j hj=>(zq j hj).1) zx);have HB:=qh (ai bW hgg);have HFF:=qh hF;have HGG:=qh hG;have zp:g < W.heap.size:=World.block_lt_of_cell? W _ p0;clear hW hg hg1 hg2 bW hgg zq zx hu hlo hhi hz hF hG;go_upto_region 2 with (go_at_call 102;(with_reducible refine HS.o.mono ?_);rintro e1 w1 ⟨r,rfl,hr1,hr2,hr3,hb1⟩;have _:=bm hb1)
 obtain ⟨zq,zx,hn,hu,hlo,hhi,hz⟩:=HQ.o;have hlen:=H.o.len
 have hrn:r < n:=by
  rcases Nat.lt_or_ge r n with e|e
  ·exact e
  ·have e2:r=n:=by omega
   rcases hr2 with h|h
   ·omega
   ·rw [e2] at h;exact absurd h (Rat.not_lt.2 hhi)
 have hxr:x≤(qs.getD r (0,0)).1:=by
  rcases hr3 with h|h
  ·omega
  ·exact h
 obtain ⟨b,o,rfl,hbl,hat⟩:=(HP.o.below hb1).at_ h0;obtain ⟨⟨⟨⟨s4,A4,n4,c4⟩,t4,B4,m4,d4⟩,⟨⟨s5,A5,n5,c5⟩,t5,B5,m5,d5⟩⟩,hq,hX4⟩:=hat r hrn;have y0:=hq 0 (.int .i64 s4) rfl;have y1:=hq 1 (.slice A4 n4 c4) rfl;have y2:=hq 2 (.int .i64 t4) rfl;have y3:=hq 3 (.slice B4 m4 d4) rfl;have y4:=hq 4 (.int .i64 s5) rfl;have y5:=hq 5 (.slice A5 n5 c5) rfl;have y6:=hq 6 (.int .i64 t5) rfl;have y7:=hq 7 (.slice B5 m5 d5) rfl;rw [Nat.add_zero] at y0;replace p0:=ja9 hb1 p0;obtain ⟨v0,v1,v2,v3,_⟩:=HFF.o.below hb1;dsimp only at v0 v1 v2 v3;have zp:g < w1.heap.size:=World.block_lt_of_cell? w1 _ p0;have zv:g1 < w1.heap.size:=World.block_lt_of_cell? w1 _ v0;obtain ⟨j,hj⟩:∃j,Rq.cmpQ (qs.getD r (0,0)).1 x=j:=⟨_,rfl⟩;have HJ:=qh hj;have HX4:=qh hX4;have HX1:=qh (HX.o.below hb1);have HZ:=qh (ai (zq r hrn).1 zx);have HB1:=qh (ja0 HB.o.1 hb1);have HG1:=qh (HGG.o.below hb1);have HP1:=qh hat;have HRR:=qh (ai hr2 (ai hxr hrn));have q9:decide (r < n)=true:=by simpa using hrn
 clear hb1 hat hq hX4 hr2 hr3 hxr hj zq zx hu hlo hhi hz hlen hn hr1;refine ja1 (fun w'=>Below w1.heap.size w1 w') [] (by kernel_rfl) ?_;refine tl [(0,[2], .slice (some ⟨b,o,none⟩) n c),(1,[2], .int .i64 (r:Int)),(2,[3], .pointer (some ⟨b,o+r*8,none⟩)),(3,[4], .pointer (some ⟨b,o+r*8,none⟩)),(4,[6],fv s4 A4 n4 c4 t4 B4 m4 d4),(5,[6],fv s0 A0 n0 c0 t0 B0 m0 d0)] [_,_,_,_,_,_] rfl (by kernel_rfl) pk5 (by intros;simp only [tyq,ppq];go_simp) bq0 ?_;simp only [tlq,ppq];refine rd1 6 (by kernel_rfl) rfl (fun K hK=> ?_);go_simp;go_wp2_with (go_at_call 41;(with_reducible refine mo0 (jd7 600 600 HJ.o (HX4.o.1.below bi) (HX1.o.below bi) HZ.o.1 HZ.o.2 (by omega)) fun w11 hb11 hc11 hf11 _=> ?_))
 have sS11:=qh (bst bq0 hb11);refine hK.out _ _ (fun _=>sS11.o) ?_;clear hK K;refine rd1 7 (by kernel_rfl) rfl (fun K hK=> ?_);go_simp;refine hK.out _ _ (fun _=>bi) ?_;clear hK K;refine ja2 (by kernel_rfl) ?_ _;have b11:Below w1.heap.size w1 w11:=bi;have HB2:=qh (ja0 HB1.o b11);have HG2:=qh (HG1.o.below b11);obtain ⟨r0,r1,r2,r3,rf⟩:=HG2.o;dsimp only at r0 r1 r2 r3;have rf0:=rf 0;have rf1:=rf 1;have rf2:=rf 2;have rf3:=rf 3;have zr:g2 < w11.heap.size:=World.block_lt_of_cell? w11 _ r0;replace p0:=ja9 b11 p0;replace v0:=ja9 b11 v0;replace v1:=ja9 b11 v1;replace v2:=ja9 b11 v2;replace v3:=ja9 b11 v3;replace y0:=ja9 b11 y0;replace y1:=ja9 b11 y1;replace y2:=ja9 b11 y2;replace y3:=ja9 b11 y3;replace y4:=ja9 b11 y4;replace y5:=ja9 b11 y5;replace y6:=ja9 b11 y6;replace y7:=ja9 b11 y7;replace hbl:=Nat.lt_of_lt_of_le hbl b11.size;replace zp:=Nat.lt_of_lt_of_le zp b11.size;replace zv:=Nat.lt_of_lt_of_le zv b11.size;have HX5:=qh (jwy.below HX4.o b11);have HX6:=qh (HX1.o.below b11);have HB11:=qh b11;have _:Bz w w11:=⟨HB2.o⟩;have _:Sx w.heap.size g2:=⟨HB.o.2⟩;clear b11 hb11 hc11 hf11 rf sS11;by_cases hj0:j=0
 ·have q0:(j==0)=true:=by rw [beq_iff_eq];exact hj0
  have hzz:(qs.getD r (0,0)).2=z:=by
   obtain ⟨zq,zx,hn,hu,hlo,hhi,hz⟩:=HQ.o;have e:=jzt (HJ.o.trans hj0);rw [←hz,←e];exact (jyF hu (by rw [H.o.len];exact HRR.o.2.2)).symm
  obtain ⟨hr5,hq5⟩:=HX5.o.2;rw [hzz] at hr5 hq5;clear hj0 hzz;go_wp2;exact bodyPost_ret (v:= .agg #[.int .i64 (s5), .slice (A5) (n5) (c5), .int .i64 (t5), .slice (B5) (m5) (d5)]) (by simp [results,results42,go_sem,r0,r1,r2,r3]) rfl (jan rfl (by constructor <;> (with_reducible repeat first|assumption|apply rZ|refine rP ?_ rfl (by simp [go_sem,r0,r1,r2,r3]))) bi)
 ·have q0:(j==0)=false:=by rw [beq_eq_false_iff_ne];exact hj0
  obtain ⟨zq,zx,hn,hu,hlo,hhi,hz⟩:=HQ.o;have hlen:=H.o.len
  have hr0:0 < r∧(qs.getD (r - 1) (0,0)).1 < x:=by
   rcases HRR.o.1 with h|h
   ·exfalso;apply hj0;rw [←HJ.o,h];have e:(qs.getD 0 (0,0)).1=x:=Rat.le_antisymm hlo (by have:=HRR.o.2.1;rwa [h] at this);unfold Rq.cmpQ;rw [e,if_neg Rat.lt_irrefl,if_neg Rat.lt_irrefl]
   ·rcases Nat.eq_zero_or_pos r with e|e
    ·rw [e] at h;exact absurd h (Rat.not_lt.2 (by have:=HRR.o.2.1;rwa [e] at this))
    ·exact ⟨e,h⟩
  have hrn:=HRR.o.2.2;have hlt:(qs.getD (r - 1) (0,0)).1 < (qs.getD r (0,0)).1:=by have h1:=hr0.2;have h2:=HRR.o.2.1;grind
  have hL:(qs.getD (r - 1) (0,0)).2+((qs.getD r (0,0)).2 - (qs.getD (r - 1) (0,0)).2)*(x - (qs.getD (r - 1) (0,0)).1) / ((qs.getD r (0,0)).1 - (qs.getD (r - 1) (0,0)).1)=z:=by
   have h:=jyP (x:=x) (i:=r - 1) hu (by omega) (Rat.le_of_lt hr0.2) (by rw [show r - 1+1=r by omega];exact HRR.o.2.1);rw [show r - 1+1=r by omega] at h;rw [←hz,h];rfl
  have hd:(qs.getD r (0,0)).1 - (qs.getD (r - 1) (0,0)).1≠0:=by grind
  obtain ⟨⟨⟨⟨s6,A6,n6,c6⟩,t6,B6,m6,d6⟩,⟨⟨s7,A7,n7,c7⟩,t7,B7,m7,d7⟩⟩,hq,hX7⟩:=HP1.o (r - 1) (by omega);have x0:=ja9 HB11.o (hq 0 (.int .i64 s6) rfl);have x1:=ja9 HB11.o (hq 1 (.slice A6 n6 c6) rfl);have x2:=ja9 HB11.o (hq 2 (.int .i64 t6) rfl);have x3:=ja9 HB11.o (hq 3 (.slice B6 m6 d6) rfl);have x4:=ja9 HB11.o (hq 4 (.int .i64 s7) rfl);have x5:=ja9 HB11.o (hq 5 (.slice A7 n7 c7) rfl);have x6:=ja9 HB11.o (hq 6 (.int .i64 t7) rfl);have x7:=ja9 HB11.o (hq 7 (.slice B7 m7 d7) rfl);rw [Nat.add_zero] at x0;have HX7:=qh (jwy.below hX7 HB11.o);have HLN:=qh (fun W (hb:Below w11.heap.size w11 W)=>jzE (RepF.below HX7.o.1 hb) (RepF.below HX7.o.2 hb) (RepF.below HX5.o.1 hb) (RepF.below HX5.o.2 hb) (RepF.below HX6.o hb) (zq (r - 1) (by omega)).1 (zq (r - 1) (by omega)).2 (zq r hrn).1 (zq r hrn).2 zx hd hL);have m1:IntKind.i64.wrap ((r:Int) - 1)=((r - 1:Nat):Int):=by simp [IntKind.wrap,IntKind.bits,IntKind.signed];omega
  have m2:wrap64 ((r:Int) - 1)=((r - 1:Nat):Int):=by unfold wrap64;omega
  have t2:r - 1 < n:=by omega
  clear hj0 zq zx hn hu hlo hhi hz hlen hr0 hlt hL hd hq hX7;go_upto_region 4 with (fail)
  refine ja1 (fun w'=>Below w11.heap.size w11 w') [11] (by kernel_rfl) ?_;refine tl [(0,[], .slice (some ⟨b,o,none⟩) n c),(1,[], .int .i64 (r:Int)),(2,[], .int .i64 ((r - 1:Nat):Int)),(3,[], .pointer (some ⟨b,o+(r - 1)*8,none⟩)),(4,[], .agg #[.int .i64 s6, .slice A6 n6 c6, .int .i64 t6, .slice B6 m6 d6, .int .i64 s7, .slice A7 n7 c7, .int .i64 t7, .slice B7 m7 d7]),(5,[], .slice (some ⟨b,o,none⟩) n c),(6,[], .int .i64 (r:Int)),(7,[], .pointer (some ⟨b,o+r*8,none⟩))] [_,_,_,_,_,_,_,_] rfl (by kernel_rfl) pk5 (by intros;simp only [tyq,ppq];go_simp) bq0 ?_;simp only [tlq,ppq];refine tl [(8,[], .agg #[.int .i64 s4, .slice A4 n4 c4, .int .i64 t4, .slice B4 m4 d4, .int .i64 s5, .slice A5 n5 c5, .int .i64 t5, .slice B5 m5 d5]),(9,[],fv s0 A0 n0 c0 t0 B0 m0 d0)] [_,_] rfl (by kernel_rfl) pk5 (by intros;simp only [tyq,ppq];go_simp) bq0 ?_;simp only [tlq,ppq];refine rd1 10 (by kernel_rfl) rfl (fun K hK=> ?_);go_simp;go_wp2_with (go_at_call 104;(with_reducible refine mf0 (HLN.o _ bi) fun w12 s12 A12 n12 c12 t12 B12 m12 d12 hr12 hq12 hb12 hc12 hf12 _=> ?_))
  have sS12:=qh (bst bq0 hb12);refine hK.out _ _ (fun _=>sS12.o) ?_;clear hK K;have b12:RowKit.Below w11.heap.size w11 w12:=bi;replace r0:=ja9 b12 r0;replace r1:=ja9 b12 r1;replace r2:=ja9 b12 r2;replace r3:=ja9 b12 r3;replace rf0:=(b12.frozen (p:=⟨g2,0,none⟩) zr).trans rf0;replace rf1:=(b12.frozen (p:=⟨g2,1,none⟩) zr).trans rf1;replace rf2:=(b12.frozen (p:=⟨g2,2,none⟩) zr).trans rf2;replace rf3:=(b12.frozen (p:=⟨g2,3,none⟩) zr).trans rf3;have _:Bz w w12:=⟨ja0 HB2.o b12⟩;clear x0 x1 x2 x3 x4 x5 x6 x7 y0 y1 y2 y3 y4 y5 y6 y7 p0 v0 v1 v2 v3 hc12 hf12;refine rd1 11 (by kernel_rfl) rfl (fun K hK=> ?_);go_simp;refine hK.out _ _ (fun h=>(h (by decide)).elim) ?_;clear hK K;refine ja2 (by kernel_rfl) ?_ _;go_wp2;exact bodyPost_ret (v:= .agg #[.int .i64 (s12), .slice (A12) (n12) (c12), .int .i64 (t12), .slice (B12) (m12) (d12)]) (by simp [results,results42,go_sem,r0,r1,r2,r3]) rfl (jan rfl (by constructor <;> (with_reducible repeat first|assumption|apply rZ|refine rP ?_ rfl (by simp [go_sem,r0,r1,r2,r3]))) bi)
end

section
variable {w:World} {A A0 B0:Option Addr} {n c n0 c0 m0 d0:Nat} {s0 t0:Int} {qs:List (Rat×Rat)} {x z:Rat}
set_option maxHeartbeats 16000000 in
theorem jyS (h:Ptv w A n qs) (h0:0 < n) (hn:n≤100) (hR:RepF w s0 A0 n0 c0 t0 B0 m0 d0 x) (zq:∀j,j < n→Sz 600 (qs.getD j (0,0)).1∧Sz 600 (qs.getD j (0,0)).2) (zx:Sz 600 x) (hlo:(qs.getD 0 (0,0)).1≤x) (hhi:x≤(qs.getD (n - 1) (0,0)).1):
  Calls prog 40 #[.slice A n c,fv s0 A0 n0 c0 t0 B0 m0 d0] w fun e w'=>e= .returned (.bool true)∧Below w.heap.size w w':=by
 obtain ⟨b,o,rfl,hbl,hat⟩:=h.at_ h0;obtain ⟨⟨⟨⟨s4,A4,n4,c4⟩,t4,B4,m4,d4⟩,_⟩,hq,hX4⟩:=hat 0 h0;have y0:w.cell? ⟨b,o,none⟩=some (.int .i64 s4):=by simpa using hq 0 (.int .i64 s4) rfl
 have y1:w.cell? ⟨b,o+1,none⟩=some (.slice A4 n4 c4):=by simpa using hq 1 (.slice A4 n4 c4) rfl
 have y2:w.cell? ⟨b,o+2,none⟩=some (.int .i64 t4):=by simpa using hq 2 (.int .i64 t4) rfl
 have y3:w.cell? ⟨b,o+3,none⟩=some (.slice B4 m4 d4):=by simpa using hq 3 (.slice B4 m4 d4) rfl
 obtain ⟨⟨⟨⟨s5,A5,n5,c5⟩,t5,B5,m5,d5⟩,_⟩,hq5,hX5⟩:=hat (n - 1) (by omega);have z0:=hq5 0 (.int .i64 s5) rfl;have z1:=hq5 1 (.slice A5 n5 c5) rfl;have z2:=hq5 2 (.int .i64 t5) rfl;have z3:=hq5 3 (.slice B5 m5 d5) rfl;rw [Nat.add_zero] at z0;obtain ⟨j,hj⟩:∃j,Rq.cmpQ x (qs.getD 0 (0,0)).1=j:=⟨_,rfl⟩;obtain ⟨k,hk⟩:∃j,Rq.cmpQ x (qs.getD (n - 1) (0,0)).1=j:=⟨_,rfl⟩;have u1:decide (0≤j)=true:=by rw [decide_eq_true_iff,←hj];unfold Rq.cmpQ;(repeat' split) <;> grind
 have u2:decide (k≤0)=true:=by rw [decide_eq_true_iff,←hk];unfold Rq.cmpQ;(repeat' split) <;> grind
 have m1:IntKind.i64.wrap ((n:Int) - 1)=((n - 1:Nat):Int):=by simp [IntKind.wrap,IntKind.bits,IntKind.signed];omega
 have m2:wrap64 ((n:Int) - 1)=((n - 1:Nat):Int):=by unfold wrap64;omega
 have t2:n - 1 < n:=by omega
 have HR:=qh hR;have HX:=qh (ai hX4.1 hX5.1);have HJ:=qh (ai hj hk);have HZ:=qh (ai zx (ai (zq 0 h0).1 (zq (n - 1) (by omega)).1));have zb:b < w.heap.size:=hbl;clear h hat hq hX4 hq5 hX5 hR zq zx hj hk hlo hhi hbl;go_enter func40,ntmps40;go_upto_region 1 with (fail)
 refine ja1 (fun w'=>Below (w.alloc (.cells #[.int .i64 s0, .slice A0 n0 c0, .int .i64 t0, .slice B0 m0 d0] 85)).heap.size (w.alloc (.cells #[.int .i64 s0, .slice A0 n0 c0, .int .i64 t0, .slice B0 m0 d0] 85)) w') [] (by kernel_rfl) ?_;refine tl [(0,[5],fv s0 A0 n0 c0 t0 B0 m0 d0),(1,[2], .slice (some ⟨b,o,none⟩) n c),(2,[3], .pointer (some ⟨b,o,none⟩)),(3,[4], .pointer (some ⟨b,o,none⟩)),(4,[5],fv s4 A4 n4 c4 t4 B4 m4 d4)] [_,_,_,_,_] rfl (by kernel_rfl) pk5 (by intros;simp only [tyq,ppq];go_simp) bq0 ?_;simp only [tlq,ppq];refine rd1 5 (by kernel_rfl) rfl (fun K hK=> ?_);go_simp;go_wp2_with (go_at_call 41;(with_reducible refine mo1 w (jd7 600 600 HJ.o.1 (HR.o.below bi) (HX.o.1.below bi) HZ.o.1 HZ.o.2.1 (by omega)) (by go_size) fun w11 hb11 hc11 hf11 z11_0 _=> ?_))
 have sS11:=qh (bst bq0 hb11);refine hK.out _ _ (fun _=>sS11.o) ?_;clear hK K;refine rd1 6 (by kernel_rfl) rfl (fun K hK=> ?_);go_simp;refine hK.out _ _ (fun _=>bi) ?_;clear hK K;refine rd1 7 (by kernel_rfl) rfl (fun K hK=> ?_);go_simp;refine hK.out _ _ (fun _=>bi) ?_;clear hK K;refine tl [(8,[16],fv s0 A0 n0 c0 t0 B0 m0 d0),(9,[13], .slice (some ⟨b,o,none⟩) n c),(10,[11], .slice (some ⟨b,o,none⟩) n c),(11,[12], .int .i64 (n:Int)),(12,[13], .int .i64 ((n - 1:Nat):Int)),(13,[14], .pointer (some ⟨b,o+(n - 1)*8,none⟩)),(14,[15], .pointer (some ⟨b,o+(n - 1)*8,none⟩)),(15,[16],fv s5 A5 n5 c5 t5 B5 m5 d5)] [_,_,_,_,_,_,_,_] rfl (by kernel_rfl) pk5 (by intros;simp only [tyq,ppq];go_simp) sS11.o ?_;simp only [tlq,ppq];refine rd1 16 (by kernel_rfl) rfl (fun K hK=> ?_);go_simp;go_wp2_with (go_at_call 41;(with_reducible refine mo1 w (jd7 600 600 HJ.o.2 (HR.o.below bi) (HX.o.2.below bi) HZ.o.1 HZ.o.2.2 (by omega)) (by go_size) fun w12 hb12 hc12 hf12 z12_0 _=> ?_))
 have sS12:=qh (bst sS11.o hb12);refine hK.out _ _ (fun _=>sS12.o) ?_;clear hK K;refine rd1 17 (by kernel_rfl) rfl (fun K hK=> ?_);go_simp;refine hK.out _ _ (fun _=>bi) ?_;clear hK K;refine rd1 18 (by kernel_rfl) rfl (fun K hK=> ?_);go_simp;refine hK.out _ _ (fun _=>bi) ?_;clear hK K;refine rd1 19 (by kernel_rfl) rfl (fun K hK=> ?_);go_simp;refine hK.out _ _ (fun _=>bi) ?_;clear hK K;refine ja2 (by kernel_rfl) ?_ _;go_wp2;go_ret;exact ⟨rfl,bi⟩
end
section
variable {w:World} {A:Option Addr} {n c:Nat} {ls:List (List UInt8×List UInt8)} {a:List UInt8} {x z:Rat}
theorem jyX (h:Wr z):jcF z=tq z∧jbq z=0:=by
 unfold jcF jbq;rw [h.1];exact ⟨rfl,rfl⟩
structure CvG (c n:Nat) (ls:List (List UInt8×List UInt8)):Prop where
 len:ls.length=n
 cv:cvE ls n=0
 cap:n≤c
 pos:0 < n
 few:n≤64
 big:∀l∈ls,l.1.length < 4294967281∧l.2.length < 4294967281
 num:∀j,j < n→IsNum (ls.getD j ([],[])).1 (numQ (ls.getD j ([],[])).1)∧IsNum (ls.getD j ([],[])).2 (numQ (ls.getD j ([],[])).2)
 ups:Ups (ls.map pq)
theorem jyT {i:Nat} (h:i < ls.length):(ls.map pq).getD i (0,0)=(numQ (ls.getD i ([],[])).1,numQ (ls.getD i ([],[])).2):=by
 rw [List.getD_eq_getElem?_getD,List.getD_eq_getElem?_getD,List.getElem?_map,List.getElem?_eq_getElem h];rfl
theorem CvG.of (hl:ls.length=n) (h:cvE ls n=0) (hc:n≤c) (hb:∀l∈ls,l.1.length < 4294967281∧l.2.length < 4294967281):CvG c n ls:=by
 obtain ⟨⟨h0,h1⟩,h2⟩:=jzG h;refine ⟨hl,h,hc,h0,h1,hb,jzV h,fun i hi=> ?_⟩;rw [List.length_map] at hi;rw [jyT (by omega),jyT hi];have:=(jyQ (h2 (i+1) (by omega))).2 (by omega);rwa [Nat.add_sub_cancel] at this
theorem CvG.sz (h:CvG c n ls):∀j,j < n→Sz 600 ((ls.map pq).getD j (0,0)).1∧Sz 600 ((ls.map pq).getD j (0,0)).2:=fun j hj=>by
 rw [jyT (by rw [h.len];exact hj)];exact ⟨(h.num j hj).1.sz,(h.num j hj).2.sz⟩
set_option maxHeartbeats 16000000 in
theorem jzT (hE:Env w) (h:Pv w A n ls) (hg:CvG c n ls) (Na:IsNum a x) (hla:a.length < 4294967281) (hca:chk a=0) (hlo:((ls.map pq).getD 0 (0,0)).1≤x) (hhi:x≤((ls.map pq).getD (n - 1) (0,0)).1) (hz:atQ x (ls.map pq)=z) (hW:Wr z):
  Calls prog 11 #[.slice A n c,bs a] w fun e w'=>e= .returned (.tuple #[bs (tq z), .int .i64 0])∧Below w.heap.size w w':=by
 have HC:=qh (fun W (hb:Below w.heap.size w W)=>jyK (c:=c) (hE.below hb) (h.below hb) (by have:=hg.few;omega) hg.cap hg.big hg.cv);have HCV:=qh (fun W (hb:Below w.heap.size w W)=>jyN (c:=c) (hE.below hb) (h.below hb) (by have:=hg.few;omega) hg.num);have HE:=qh hE;have HG:=qh hg;have HLA:Hd (∀l∈ [a],l.length < 4294967281):=qh (fun l hm=>by rw [List.mem_singleton.1 hm];exact hla)
 have HCA:=qh (show jar chk [a]=0 by
  show (if chk a=0 then (0:Int) else chk a)=0
  rw [hca];rfl)
 have HNA:=qh Na;have HZ:=qh (ai hlo (ai hhi (ai hz (ai hW.2 (jyX hW)))));obtain ⟨T,hT⟩:∃T,tq z=T:=⟨_,rfl⟩;rw [hT] at HZ ⊢;clear hE h hg Na hla hca hlo hhi hz hW hT;go_enter func11,ntmps11;go_upto_region 8 with (first|(go_at_call 36;(with_reducible refine mo0 (HC.o _ bi) fun w1 hb1 hc1 hf1 _=> ?_))|(go_at_call 37;(with_reducible refine mo0 (jmp (HE.o.below bi) (Sv.one _ _ a) (by omega) HLA.o HCA.o) fun w2 hb2 hc2 hf2 _=> ?_))|(go_at_call 38;(with_reducible refine (HCV.o _ bi).mono ?_);rintro e3 w3 ⟨v3,vs3,rfl,hv3,hb3⟩;obtain ⟨hc3,hf3,_⟩:=bc0 hb3;obtain ⟨A3,c3,rfl,hp3⟩:=hv3.ptv)|(go_at_call 39;(with_reducible refine mf0 (jaz HNA.o (HE.o.below bi)) fun w4 s4 A4 n4 c4 t4 B4 m4 d4 hr4 hq4 hb4 hc4 hf4 _=> ?_)))
 obtain ⟨U,hU⟩:∃U,w4.alloc (.cells #[.int .i64 s4, .slice A4 n4 c4, .int .i64 t4, .slice B4 m4 d4] 85)=U:=⟨_,rfl⟩;have b4:RowKit.Below w4.heap.size w4 U:=by rw [←hU];exact bA bR
 have bU:Below w.heap.size w U:=ja0 bi b4;have HX:=qh (show RepF U s4 A4 n4 c4 t4 B4 m4 d4 x from RepF.below (w:=w4) ⟨hr4,hq4⟩ b4);have hF:FC U w4.heap.size ((s4,A4,n4,c4),(t4,B4,m4,d4)):=by rw [←hU];exact FC.made w4 _ _ _ _ _ _ _ _ _
 have HP:=qh (hp3.below (ja0 hb4 b4));rw [hU];obtain ⟨g,hgg⟩:∃g,w4.heap.size=g:=⟨_,rfl⟩;rw [hgg] at hF ⊢;obtain ⟨v0,v1,v2,v3,_⟩:=hF;dsimp only at v0 v1 v2 v3;have zv:g < U.heap.size:=World.block_lt_of_cell? U _ v0;have HB:=qh bU;have HEU:=qh (HE.o.below bU);have HWI:=qh (fun W (hb:Below U.heap.size U W)=>jyS (c:=c3) (HP.o.below hb) HG.o.pos (by have:=HG.o.few;omega) (HX.o.below hb) HG.o.sz HNA.o.sz HZ.o.1 HZ.o.2.1);have HAT:=qh (fun W (hb:Below U.heap.size U W)=>jzY (c:=c3) (HP.o.below hb) HG.o.pos (by have:=HG.o.few;omega) HG.o.ups (HX.o.below hb) HG.o.sz HNA.o.sz HZ.o.1 HZ.o.2.1 HZ.o.2.2.1);clear hU hgg b4 bU hb1 hb2 hb3 hb4 hc1 hc2 hc3 hc4 hf1 hf2 hf3 hf4 hr4 hq4 hv3 hp3 HC HCV;have _:Sl g U.heap.size:=⟨zv⟩;go_wp2_with (first|((go_at_call 40;(with_reducible refine mo0 (HWI.o _ bi) fun w5 hb5 hc5 hf5 _=> ?_));have y5_0:=zlt (g) hb5)|((go_at_call 42;(with_reducible refine mf0 (HAT.o _ bi) fun w6 s6 A6 n6 c6 t6 B6 m6 d6 hr6 hq6 hb6 hc6 hf6 _=> ?_));have y6_0:=zlt (g) hb6)|(go_at_call 48;(with_reducible refine mo0 (jpA HZ.o.2.2.2.2.1 HZ.o.2.2.2.2.2 ⟨hr6,hq6⟩ (HEU.o.below bi) HZ.o.2.2.2.1) fun w7 hb7 hc7 hf7 _=> ?_)))
 go_ret2;exact ⟨rfl,ja0 HB.o bi⟩
set_option maxHeartbeats 16000000 in
theorem jzm (hE:Env w) (h:Pv w A n ls) (hg:CvG c n ls) (Na:IsNum a x) (hla:a.length < 4294967281) (hca:chk a=0) (hz:jzO x (ls.map pq)=(z,true)) (hW:Wr z):
  Calls prog 17 #[.slice A n c,bs a] w fun e w'=>e= .returned (.tuple #[bs (tq z), .int .i64 0])∧Below w.heap.size w w':=by
 have HC:=qh (fun W (hb:Below w.heap.size w W)=>jyK (c:=c) (hE.below hb) (h.below hb) (by have:=hg.few;omega) hg.cap hg.big hg.cv);have HCV:=qh (fun W (hb:Below w.heap.size w W)=>jyN (c:=c) (hE.below hb) (h.below hb) (by have:=hg.few;omega) hg.num);have HE:=qh hE;have HG:=qh hg;have HLA:Hd (∀l∈ [a],l.length < 4294967281):=qh (fun l hm=>by rw [List.mem_singleton.1 hm];exact hla)
 have HCA:=qh (show jar chk [a]=0 by
  show (if chk a=0 then (0:Int) else chk a)=0
  rw [hca];rfl)
 have HNA:=qh Na;have HZ:=qh (ai hz (ai hW.2 (jyX hW)));obtain ⟨T,hT⟩:∃T,tq z=T:=⟨_,rfl⟩;rw [hT] at HZ ⊢;clear hE h hg Na hla hca hz hW hT;go_enter func17,ntmps17;go_upto_region 8 with (first|(go_at_call 36;(with_reducible refine mo0 (HC.o _ bi) fun w1 hb1 hc1 hf1 _=> ?_))|(go_at_call 37;(with_reducible refine mo0 (jmp (HE.o.below bi) (Sv.one _ _ a) (by omega) HLA.o HCA.o) fun w2 hb2 hc2 hf2 _=> ?_))|(go_at_call 38;(with_reducible refine (HCV.o _ bi).mono ?_);rintro e3 w3 ⟨v3,vs3,rfl,hv3,hb3⟩;obtain ⟨hc3,hf3,_⟩:=bc0 hb3;obtain ⟨A3,c3,rfl,hp3⟩:=hv3.ptv)|(go_at_call 39;(with_reducible refine mf0 (jaz HNA.o (HE.o.below bi)) fun w4 s4 A4 n4 c4 t4 B4 m4 d4 hr4 hq4 hb4 hc4 hf4 _=> ?_))|(go_at_call 56;(with_reducible refine (jzo (hp3.below bi) (by have:=HG.o.few;omega) HG.o.sz ⟨hr4,hq4⟩ HNA.o.sz HZ.o.1).mono ?_);rintro e5 w5 ⟨s5,A5,n5,c5,t5,B5,m5,d5,rfl,hr5,hb5⟩;obtain ⟨hc5,hf5,_⟩:=bc0 hb5))
 obtain ⟨U,hU⟩:∃U,w5.alloc (.cells #[.int .i64 s5, .slice A5 n5 c5, .int .i64 t5, .slice B5 m5 d5] 85)=U:=⟨_,rfl⟩;have b5:RowKit.Below w5.heap.size w5 U:=by rw [←hU];exact bA bR
 have bU:Below w.heap.size w U:=ja0 bi b5;have HX:=qh (show RepF U s5 A5 n5 c5 t5 B5 m5 d5 z from RepF.below (w:=w5) hr5 b5);have hF:FC U w5.heap.size ((s5,A5,n5,c5),(t5,B5,m5,d5)):=by rw [←hU];exact FC.made w5 _ _ _ _ _ _ _ _ _
 rw [hU];obtain ⟨g,hgg⟩:∃g,w5.heap.size=g:=⟨_,rfl⟩;rw [hgg] at hF ⊢;obtain ⟨v0,v1,v2,v3,_⟩:=hF;dsimp only at v0 v1 v2 v3;have zv:g < U.heap.size:=World.block_lt_of_cell? U _ v0;have HB:=qh bU;have HEU:=qh (HE.o.below bU);clear hU hgg b5 bU hb1 hb2 hb3 hb4 hb5 hc1 hc2 hc3 hc4 hc5 hf1 hf2 hf3 hf4 hf5 hr4 hq4 hr5 hv3 hp3 HC HCV;go_wp2_with (go_at_call 48;(with_reducible refine mo0 (jpA HZ.o.2.2.1 HZ.o.2.2.2 HX.o HEU.o HZ.o.2.1) fun w7 hb7 hc7 hf7 _=> ?_))
 go_ret2;exact ⟨rfl,ja0 HB.o bi⟩
end
end Go.Proofs.YtpkcjfpgemdfdaaGreatDoor
