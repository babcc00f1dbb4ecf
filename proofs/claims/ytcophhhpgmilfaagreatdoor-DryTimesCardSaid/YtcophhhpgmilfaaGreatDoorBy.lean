/- Parts. -/
import Derived.Test.YtcophhhpgmilfaaGreatDoorAb
set_option linter.all false
set_option maxRecDepth 100000
set_option maxHeartbeats 8000000
namespace Go.Proofs.YtcophhhpgmilfaaGreatDoor
open Go Go.RowKit Go.Proofs.Tryz

noncomputable def tmI (ls:List (List UInt8×List UInt8)) (a:List UInt8):Rat×Bool:=jwF (numQ a) (ls.map pq)
noncomputable def tmQ (ls:List (List UInt8×List UInt8)) (a t:List UInt8):Rat:=(tmI ls t).1 - (tmI ls a).1
noncomputable def tmR (ls:List (List UInt8×List UInt8)) (a t:List UInt8):Int:=if (tmI ls a).2 && (tmI ls t).2 then (if numQ a < numQ t then 11 else 0) else 3
noncomputable def tmK (ls:List (List UInt8×List UInt8)) (n:Nat) (a t:List UInt8):Int:=
 if jx5 ls n=0 then (if jar chk [a,t]=0 then (if tmR ls a t=0 then jbq (tmQ ls a t) else tmR ls a t) else jar chk [a,t]) else jx5 ls n
noncomputable def tmT (ls:List (List UInt8×List UInt8)) (n:Nat) (a t:List UInt8):List UInt8:=if tmK ls n a t=0 then tq (tmQ ls a t) else []
section
variable {w:World} {A:Option Addr} {n c d:Nat} {ls:List (List UInt8×List UInt8)} {qs:List (Rat×Rat)} {a t:List UInt8}
theorem jwr {f g:Nat→Int}:∀{l:List Nat},(∀i∈l,f i=g i)→jar f l=jar g l
 | [],_=>rfl
 | x::r,h=>by
   have h1:=h x (by simp);have h2:=jwr (l:=r) (fun i hi=>h i (by simp [hi]));unfold jar;rw [h1,h2]
theorem jwQ {bc:Nat} {R:Int} (h:Ptv w A n qs) (h0:0 < n) (hn:n≤100) (hz:∀j,j < n→Sz 600 (qs.getD j (0,0)).1∧Sz 600 (qs.getD j (0,0)).2) (hq:qs=ls.map pq) (hbc:bc < w.heap.size) (k0:w.cell? ⟨bc,0,none⟩=some (.func (.func 29) #[] #[])) (k1:w.cell? ⟨bc,1,none⟩=some (.int .i64 3)) (k2:w.cell? ⟨bc,2,none⟩=some (.func (.func 30) #[] #[])) (k3:w.cell? ⟨bc,3,none⟩=some (.int .i64 11)) (hR:jar (dwI ls) (List.range n)=R):
  Calls prog 28 #[.slice A n c, .slice (some ⟨bc,0,none⟩) 2 d] w fun e w'=>e= .returned (.int .i64 R)∧Below w.heap.size w w':=by
 have hll:ls.length=n:=by rw [←h.len,hq,List.length_map]
 obtain ⟨b,o,rfl,hbl,hc⟩:=h.at_ h0
 have hex:∃pt:Nat→PT,∀j,j < n→(∀k u,(ptc (pt j))[k]? =some u→w.cell? ⟨b,o+j*8+k,none⟩=some u)∧jx0 w (pt j) (qs.getD j (0,0)):=by
  have hd:Nonempty PT:=⟨(((0,none,0,0),(0,none,0,0)),((0,none,0,0),(0,none,0,0)))⟩;refine ⟨fun j=> @dite _ (j < n) (Nat.decLt _ _) (fun h=>Classical.choose (hc j h)) (fun _=>Classical.choice hd),fun j hj=> ?_⟩;simp only [hj,dif_pos];exact Classical.choose_spec (hc j hj)
 obtain ⟨pt,hpt⟩:=hex;have hqa:∀i,i < n→qs.getD i (0,0)=(numQ (ls.getD i ([],[])).1,numQ (ls.getD i ([],[])).2):=fun i hi=>by rw [hq];exact jwX (by omega)
 refine jwA (pt:=pt) (fs:=fun j=>if j=0 then 29 else 30) (er:=fun j=>if j=0 then 3 else 11) (hold:=fun j i=>if j=0 then decide (0≤(qs.getD i (0,0)).2∧(qs.getD i (0,0)).2 < 100) else (if i=0 then true else decide (0 < Rq.cmpQ (qs.getD (i - 1) (0,0)).2 (qs.getD i (0,0)).2))) hn (by omega) hbl hbc (fun i hi=>(hpt i hi).1) (fun j hj=> ?_) (fun j hj _ W hW=> ?_) (fun j hj i hi W hW=> ?_) (fun j hj=> ?_) (fun j hj=> ?_) ?_
 ·have:j=0∨j=1:=by omega
  rcases this with rfl|rfl
  ·exact ⟨k0,k1⟩
  ·exact ⟨k2,k3⟩
 ·obtain ⟨g,r⟩:=hpt 0 h0;have:j=0∨j=1:=by omega
  rcases this with rfl|rfl
  ·exact jx4 (RepF.below r.2 hW) (hz 0 h0).2 rfl
  ·exact jwK
 ·obtain ⟨g,r⟩:=hpt i (by omega);obtain ⟨g2,r2⟩:=hpt (i+1) hi;have:j=0∨j=1:=by omega
  rcases this with rfl|rfl
  ·exact jx4 (RepF.below r2.2 hW) (hz (i+1) hi).2 rfl
  ·exact jwH (q:=pt i) (x0:=(qs.getD i (0,0)).1) (y0:=(qs.getD i (0,0)).2) (fun k u hu=>ja9 hW (g k u hu)) (r.below hW) (RepF.below r2.1 hW) (RepF.below r2.2 hW) ⟨(hz _ hi).1,(hz i (by omega)).1⟩ ⟨(hz _ hi).2,(hz i (by omega)).2⟩ rfl
 ·have:j=0∨j=1:=by omega
  rcases this with rfl|rfl
  ·exact .inr (.inr rfl)
  ·exact .inr (.inl rfl)
 ·have:j=0∨j=1:=by omega
  rcases this with rfl|rfl <;> decide
 ·rw [←hR];refine jwr fun i hi=> ?_
  have hi:=List.mem_range.1 hi;show jar (fun j=>if (if j=0 then decide (0≤(qs.getD i (0,0)).2∧(qs.getD i (0,0)).2 < 100) else (if i=0 then true else decide (0 < Rq.cmpQ (qs.getD (i - 1) (0,0)).2 (qs.getD i (0,0)).2))) then (0:Int) else (if j=0 then 3 else 11)) [0,1]=_
  unfold dwI;have hq1:=hqa (i - 1) (by omega);simp only [hqa i hi,hq1];obtain ⟨y,hy⟩:∃y,numQ (ls.getD i ([],[])).2=y:=⟨_,rfl⟩;obtain ⟨p,hp⟩:∃y,numQ (ls.getD (i - 1) ([],[])).2=y:=⟨_,rfl⟩;rw [hy,hp];have hcp:decide (0 < Rq.cmpQ p y)=decide (y < p):=by rw [decide_eq_decide];exact Rq.cmp_pos
  rw [hcp];by_cases z:0≤y∧y < 100
  ·rw [if_pos z,decide_eq_true z];by_cases h1:i=0
   ·subst h1;simp [jar]
   ·by_cases h2:y < p
    ·rw [if_neg (show ¬(0 < i∧¬y < p) from fun h=>h.2 h2)];simp [jar,h1,h2]
    ·rw [if_pos (show 0 < i∧¬y < p from ⟨by omega,h2⟩)];simp [jar,h1,h2]
  ·rw [if_neg z,decide_eq_false z];simp [jar]
theorem jwT {k:Int} (hE:Env w) (h:Pv w A n ls) (hn:n≤100000) (hcp:n≤c) (hl:∀l∈ls,l.1.length < 4294967281∧l.2.length < 4294967281) (hk:cvE ls n=k) (h0:k≠0):
  Calls prog 7 #[.slice A n c,bs a,bs t] w fun e w'=>e= .returned (.tuple #[bs [], .int .i64 k])∧Below w.heap.size w w':=by
 have HC:=qh (fun W (hb:Below w.heap.size w W)=>jwt (c:=c) (hE.below hb) (h.below hb) hn hcp hl hk);have q1:(k != 0)=true:=by rw [bne_iff_ne];exact h0
 clear hE h hn hl hk h0 hcp;go_enter func7,ntmps7;go_wp2_with (go_at_call 25;(with_reducible refine mo0 (HC.o _ bi) fun w1 hb1 hc1 hf1 _=> ?_))
 go_ret2;exact ⟨rfl,bi⟩
theorem jws {y:Rat} (dy:Dz 30 y):∀{qs:List (Rat×Rat)},(∀q∈qs,Dz 30 q.1∧Dz 30 q.2)→Dz 220 (jwF y qs).1
 | [],_=>⟨by show (0:Rat).num.natAbs < _;exact Nat.pow_pos (by omega),by show (0:Rat).den < _;exact Nat.one_lt_pow (by omega) (by omega)⟩
 | [p],h=>by
   unfold jwF;split
   ·exact (h p (by simp)).1.mono (by omega)
   ·exact ⟨by show (0:Rat).num.natAbs < _;exact Nat.pow_pos (by omega),by show (0:Rat).den < _;exact Nat.one_lt_pow (by omega) (by omega)⟩
 | p::q::r,h=>by
   unfold jwF;have hp:=h p (by simp);have hq:=h q (by simp);split
   ·exact hp.1.mono (by omega)
   ·split
    ·rename_i g
     have hne:q.2 - p.2≠0:=by
      intro e;have:q.2=p.2:=by grind
      rw [this] at g
      have h2:0≤Rq.cmpQ p.2 y*Rq.cmpQ p.2 y:=by
       by_cases z:0≤Rq.cmpQ p.2 y
       ·exact Int.mul_nonneg z z
       ·exact Int.mul_nonneg_of_nonpos_of_nonpos (by omega) (by omega)
      omega
     exact (hp.1.add ((((hq.1.sub hp.1).mul (dy.sub hp.2)).div (hq.2.sub hp.2) hne))).mono (by omega)
    ·exact jws dy (fun x hx=>h x (by simp at hx ⊢;exact .inr hx))
set_option maxHeartbeats 32000000 in
theorem jx6 {K:Int} {T:List UInt8} (hE:Env w) (h:Pv w A n ls) (h0:0 < n) (hn:n≤100) (hcp:n≤c) (hl:∀l∈ls,l.1.length < 4294967281∧l.2.length < 4294967281) (hla:a.length≤30) (hlt:t.length≤30) (hk:cvE ls n=0)
  (hN:∀j,j < n→IsNum (ls.getD j ([],[])).1 (numQ (ls.getD j ([],[])).1)∧IsNum (ls.getD j ([],[])).2 (numQ (ls.getD j ([],[])).2)) (hD:∀q∈ls.map pq,Dz 30 q.1∧Dz 30 q.2) (hK:tmK ls n a t=K) (hT:tmT ls n a t=T):
  Calls prog 7 #[.slice A n c,bs a,bs t] w fun e w'=>e= .returned (.tuple #[bs T, .int .i64 K])∧Below w.heap.size w w':=by
 have hlen:=h.len;have HC:=qh (fun W (hb:Below w.heap.size w W)=>jwt (c:=c) (hE.below hb) (h.below hb) (by omega) hcp hl hk);have HCV:=qh (fun W (hb:Below w.heap.size w W)=>jwB (c:=c) (hE.below hb) (h.below hb) hn hN)
 have hsz:∀j,j < n→Sz 600 ((ls.map pq).getD j (0,0)).1∧Sz 600 ((ls.map pq).getD j (0,0)).2:=fun j hj=>by
  rw [jwX (by omega)];exact ⟨(hN j hj).1.sz,(hN j hj).2.sz⟩
 have HSZ:=qh hsz;have HE:=qh hE;have HNN:=qh (And.intro h0 hn)
 have HLT:Hd (∀l∈ [a,t],l.length < 4294967281):=qh (fun l hm=>by
  rcases List.mem_cons.1 hm with rfl|hm
  ·omega
  ·rw [List.mem_singleton.1 hm];omega)
 unfold tmT at hT;rw [hK] at hT;unfold tmK jx5 at hK;rw [if_pos hk] at hK;obtain ⟨D,hDE⟩:∃D,jar (dwI ls) (List.range n)=D:=⟨_,rfl⟩;obtain ⟨C,hCH⟩:∃D,jar chk [a,t]=D:=⟨_,rfl⟩;rw [hDE,hCH] at hK;have HDE:=qh hDE;have HCH:=qh hCH;obtain ⟨E,hEE⟩:∃E,jkz [D,C]=E:=⟨_,rfl⟩;have HFI:=qh hEE;by_cases e0:E=0
 ·subst e0
  have hd0:D=0:=by
   unfold jkz at hEE;by_cases z:D=0
   ·exact z
   ·rw [if_neg z] at hEE;exact hEE
  subst hd0
  have hc0:C=0:=by
   unfold jkz at hEE;rw [if_pos rfl] at hEE;unfold jkz at hEE;by_cases z:C=0
   ·exact z
   ·rw [if_neg z] at hEE;exact hEE
  subst hc0;rw [if_pos rfl,if_pos rfl] at hK;have hca:chk a=0:=jdI hCH a (by simp);have hct:chk t=0:=jdI hCH t (by simp);have Na:=jjb hca;have Nt:=jjb hct;unfold tmR tmQ tmI at hK;unfold tmQ tmI at hT;obtain ⟨x,hx⟩:∃x,numQ a=x:=⟨_,rfl⟩;obtain ⟨y,hy⟩:∃x,numQ t=x:=⟨_,rfl⟩;rw [hx] at Na hK hT;rw [hy] at Nt hK hT;have dx:=Na.dzl hla (by omega);have dy:=Nt.dzl hlt (by omega);have di1:=jws dx hD;have di2:=jws dy hD;obtain ⟨R1,hR1⟩:∃R,jwF x (ls.map pq)=R:=⟨_,rfl⟩;obtain ⟨R2,hR2⟩:∃R,jwF y (ls.map pq)=R:=⟨_,rfl⟩;rw [hR1] at di1 hK hT;rw [hR2] at di2 hK hT;have HI1:=qh hR1;have HI2:=qh hR2;obtain ⟨p1,o1⟩:=R1;obtain ⟨p2,o2⟩:=R2;dsimp only at di1 di2 hK hT;have dq:=di2.sub di1;obtain ⟨q,hq⟩:∃q,p2 - p1=q:=⟨_,rfl⟩;rw [hq] at hK hT dq;have HST:=qh (dq.strQ (by omega));have HQ:=qh hq;have HP1:=qh (jta di1);have HP2:=qh (jta di2);obtain ⟨j,hj⟩:∃j,Rq.cmpQ x y=j:=⟨_,rfl⟩;have HJ:=qh hj;obtain ⟨lt,hlt2⟩:∃f,decide (j < 0)=f:=⟨_,rfl⟩;have hl2:lt=true↔x < y:=by rw [←hlt2,decide_eq_true_iff,←hj];exact ⟨fun h=>Rq.cmp_neg.1 h,fun h=>Rq.cmp_neg.2 h⟩
  have HNA:=qh Na;have HNT:=qh Nt;have HZA:=qh (Na.sz.mono (m':=1000) (by omega));have HZT:=qh (Nt.sz.mono (m':=1000) (by omega));have HZA6:=qh Na.sz;have HZT6:=qh Nt.sz;obtain ⟨r1,hr1⟩:∃r,(if (!(o1 && o2)) then (3:Int) else 0)=r:=⟨_,rfl⟩;obtain ⟨r2,hr2⟩:∃r,(if lt then (11:Int) else 0)=r:=⟨_,rfl⟩;obtain ⟨E2,hE2⟩:∃E,jkz [r1,r2]=E:=⟨_,rfl⟩
  have hKE:(if E2=0 then jbq q else E2)=K:=by
   have e11:(if x < y then (11:Int) else 0)=if lt then 11 else 0:=by
    by_cases z:x < y
    ·rw [if_pos z,if_pos (hl2.2 z)]
    ·rw [if_neg z,if_neg (fun h=>z (hl2.1 h))]
   rw [e11] at hK;rw [←hK,←hE2,←hr1,←hr2];clear hl2 hlt2 hE2 hK e11 hr1 hr2 hR1 hR2 HI1 HI2;cases o1 <;> cases o2 <;> cases lt <;> rfl
  have HFJ:=qh hE2;have HR1:=qh hr1;have HR2:=qh hr2;have HKT:=qh (And.intro hKE hT);clear hE h h0 hn hcp hl hla hlt hk hN hD hK hT hlen hsz hDE hCH hEE hca hct Na Nt hx hy dx dy di1 di2 hR1 hR2 dq hq hj hl2 hE2 hKE hr1 hr2;go_enter func7,ntmps7;go_upto_region 9 with (first|(go_at_call 25;(with_reducible refine mo0 (HC.o _ bi) fun w1 hb1 hc1 hf1 _=> ?_))|(go_at_call 26;(with_reducible refine (HCV.o _ bi).mono ?_);rintro e2 w2 ⟨v2,vs2,rfl,hv2,hb2⟩;obtain ⟨hc2,hf2,_⟩:=bc0 hb2;obtain ⟨A2,c2,rfl,hp2⟩:=hv2.ptv)|(go_at_call 28;(with_reducible refine mo0 (jwQ (hp2.below (bA bR)) HNN.o.1 HNN.o.2 HSZ.o rfl (by simp) (by simp) (by simp) (by simp) (by simp) HDE.o) fun w3 hb3 hc3 hf3 _=> ?_))|(go_at_call 31;(with_reducible refine mo0 (jmp (HE.o.below bi) (Sv.two w3 _ a t) (by omega) HLT.o HCH.o) fun w4 hb4 hc4 hf4 _=> ?_))|(go_at_call 27;(with_reducible refine mo0 (jbl iv2 (by omega) HFI.o) fun w5 hb5 hc5 hf5 _=> ?_))|(go_at_call 32;(with_reducible show Calls _ _ #[bs a] _ _);(with_reducible refine mf0 (jaz HNA.o (HE.o.below bi)) fun w6 s6 A6 n6 c6 t6 B6 m6 d6 hr6 hq6 hb6 hc6 hf6 _=> ?_))|(go_at_call 32;(with_reducible show Calls _ _ #[bs t] _ _);(with_reducible refine mf0 (jaz HNT.o (HE.o.below bi)) fun w7 s7 A7 n7 c7 t7 B7 m7 d7 hr7 hq7 hb7 hc7 hf7 _=> ?_)))
  have bU:Below w.heap.size w ((w7.alloc (.cells #[.int .i64 s6, .slice A6 n6 c6, .int .i64 t6, .slice B6 m6 d6] 86)).alloc (.cells #[.int .i64 s7, .slice A7 n7 c7, .int .i64 t7, .slice B7 m7 d7] 86)):=bi;have f0:RepF ((w7.alloc (.cells #[.int .i64 s6, .slice A6 n6 c6, .int .i64 t6, .slice B6 m6 d6] 86)).alloc (.cells #[.int .i64 s7, .slice A7 n7 c7, .int .i64 t7, .slice B7 m7 d7] 86)) s6 A6 n6 c6 t6 B6 m6 d6 x:=(by constructor <;> (with_reducible repeat first|assumption|apply rZ|refine rP ?_ rfl (by simp [go_sem,hc7])));have f1:RepF ((w7.alloc (.cells #[.int .i64 s6, .slice A6 n6 c6, .int .i64 t6, .slice B6 m6 d6] 86)).alloc (.cells #[.int .i64 s7, .slice A7 n7 c7, .int .i64 t7, .slice B7 m7 d7] 86)) s7 A7 n7 c7 t7 B7 m7 d7 y:=(by constructor <;> (with_reducible repeat first|assumption|apply rZ|refine rP ?_ rfl (by simp [go_sem,hc7])));have k0:FC ((w7.alloc (.cells #[.int .i64 s6, .slice A6 n6 c6, .int .i64 t6, .slice B6 m6 d6] 86)).alloc (.cells #[.int .i64 s7, .slice A7 n7 c7, .int .i64 t7, .slice B7 m7 d7] 86)) w7.heap.size ((s6,A6,n6,c6),(t6,B6,m6,d6)):=(FC.made w7 _ _ _ _ _ _ _ _ _).below (bA bR);have k1:FC ((w7.alloc (.cells #[.int .i64 s6, .slice A6 n6 c6, .int .i64 t6, .slice B6 m6 d6] 86)).alloc (.cells #[.int .i64 s7, .slice A7 n7 c7, .int .i64 t7, .slice B7 m7 d7] 86)) (w7.heap.size+1) ((s7,A7,n7,c7),(t7,B7,m7,d7)):=by have:=FC.made (w7.alloc (.cells #[.int .i64 s6, .slice A6 n6 c6, .int .i64 t6, .slice B6 m6 d6] 86)) 86 s7 t7 A7 B7 n7 c7 m7 d7;rwa [World.size_alloc] at this
  have hPU:Ptv ((w7.alloc (.cells #[.int .i64 s6, .slice A6 n6 c6, .int .i64 t6, .slice B6 m6 d6] 86)).alloc (.cells #[.int .i64 s7, .slice A7 n7 c7, .int .i64 t7, .slice B7 m7 d7] 86)) A2 n (ls.map pq):=hp2.below bi;obtain ⟨U,hU⟩:∃U,((w7.alloc (.cells #[.int .i64 s6, .slice A6 n6 c6, .int .i64 t6, .slice B6 m6 d6] 86)).alloc (.cells #[.int .i64 s7, .slice A7 n7 c7, .int .i64 t7, .slice B7 m7 d7] 86))=U:=⟨_,rfl⟩;rw [hU] at bU f0 f1 k0 k1 hPU ⊢;obtain ⟨ga,hga⟩:∃g,w7.heap.size=g:=⟨_,rfl⟩;rw [hga] at k0 k1 ⊢;obtain ⟨gb,hgb⟩:∃g,ga+1=g:=⟨_,rfl⟩;rw [hgb] at k1 ⊢;have HKA:=qh (And.intro k0 f0);have HKB:=qh (And.intro k1 f1);have HEU:=qh (HE.o.below bU);have HBU:=qh bU;have HPU:=qh hPU;obtain ⟨a0,a1,a2,a3,af⟩:=k0;dsimp only at a0 a1 a2 a3;obtain ⟨b0,b1,b2,b3,bf⟩:=k1;dsimp only at b0 b1 b2 b3;have za:ga < U.heap.size:=World.block_lt_of_cell? U _ a0;have zb:gb < U.heap.size:=World.block_lt_of_cell? U _ b0;have _:Sl ga U.heap.size:=⟨za⟩;have _:Sl gb U.heap.size:=⟨zb⟩;clear hU hga hgb hb2 hb3 hb4 hb5 hb1 hb6 hb7 hc1 hc2 hc3 hc4 hc5 hc6 hc7 hf1 hf2 hf3 hf4 hf5 hf6 hf7 hr6 hq6 hr7 hq7 f0 f1 HC HCV HNA HNT af bf bU hPU hp2 hv2 HE HDE HCH HFI HLT;go_upto_region 11 with (first|(go_at_call 33;(with_reducible refine (jwz (HPU.o.below bi) HNN.o.2 HSZ.o (RepF.below HKA.o.2 bi) HZA6.o HI1.o).mono ?_);rintro e8 w8 ⟨s8,A8,n8,c8,t8,B8,m8,d8,rfl,⟨hr8,hq8⟩,hb8⟩;obtain ⟨hc8,hf8,_⟩:=bc0 hb8;have y8_0:=zlt (ga) hb8;have y8_1:=zlt (gb) hb8)|(go_at_call 33;(with_reducible refine (jwz (HPU.o.below bi) HNN.o.2 HSZ.o (RepF.below HKB.o.2 bi) HZT6.o HI2.o).mono ?_);rintro e9 w9 ⟨s9,A9,n9,c9,t9,B9,m9,d9,rfl,⟨hr9,hq9⟩,hb9⟩;obtain ⟨hc9,hf9,_⟩:=bc0 hb9;have y9_0:=zlt (ga) hb9;have y9_1:=zlt (gb) hb9))
  have bV:RowKit.Below U.heap.size U (w9.alloc (.cells #[.int .i64 s9, .slice A9 n9 c9, .int .i64 t9, .slice B9 m9 d9] 86)):=bi;have hM8:FC (w9.alloc (.cells #[.int .i64 s9, .slice A9 n9 c9, .int .i64 t9, .slice B9 m9 d9] 86)) w8.heap.size ((s8,A8,n8,c8),(t8,B8,m8,d8)):=((FC.made w8 _ _ _ _ _ _ _ _ _).below hb9).below (bA bR);have hM9:FC (w9.alloc (.cells #[.int .i64 s9, .slice A9 n9 c9, .int .i64 t9, .slice B9 m9 d9] 86)) w9.heap.size ((s9,A9,n9,c9),(t9,B9,m9,d9)):=FC.made w9 _ _ _ _ _ _ _ _ _;have hP8:RepF (w9.alloc (.cells #[.int .i64 s9, .slice A9 n9 c9, .int .i64 t9, .slice B9 m9 d9] 86)) s8 A8 n8 c8 t8 B8 m8 d8 p1:=RepF.below (w:=w8) ⟨hr8,hq8⟩ bi;have hP9:RepF (w9.alloc (.cells #[.int .i64 s9, .slice A9 n9 c9, .int .i64 t9, .slice B9 m9 d9] 86)) s9 A9 n9 c9 t9 B9 m9 d9 p2:=RepF.below (w:=w9) ⟨hr9,hq9⟩ bi;obtain ⟨V,hV⟩:∃V,(w9.alloc (.cells #[.int .i64 s9, .slice A9 n9 c9, .int .i64 t9, .slice B9 m9 d9] 86))=V:=⟨_,rfl⟩;rw [hV] at bV hM8 hM9 hP8 hP9 ⊢;obtain ⟨gc,hgc⟩:∃g,w8.heap.size=g:=⟨_,rfl⟩;rw [hgc] at hM8 ⊢;obtain ⟨gd,hgd⟩:∃g,w9.heap.size=g:=⟨_,rfl⟩;rw [hgd] at hM9 ⊢;have v1:=HKA.o.1.below bV;have v2:=HKB.o.1.below bV;have HKA:=qh (And.intro v1 (RepF.below HKA.o.2 bV));have HKB:=qh (And.intro v2 (RepF.below HKB.o.2 bV));have HM8:=qh (And.intro hM8 hP8);have HM9:=qh (And.intro hM9 hP9);have HBV:=qh (ja0 HBU.o bV);have HEV:=qh (HEU.o.below bV);clear a0 a1 a2 a3 b0 b1 b2 b3 za zb hb8 hb9 hc8 hc9 hf8 hf9 hr8 hq8 hr9 hq9 hV hgc hgd hM8 hM9 hP8 hP9 HBU HEU HPU bV;obtain ⟨a0,a1,a2,a3,af⟩:=v1;dsimp only at a0 a1 a2 a3;obtain ⟨b0,b1,b2,b3,bf⟩:=v2;dsimp only at b0 b1 b2 b3;clear af bf;have za:ga < V.heap.size:=World.block_lt_of_cell? V _ a0;have zb:gb < V.heap.size:=World.block_lt_of_cell? V _ b0;obtain ⟨hKE,hT⟩:=HKT.o;cases o1 with
  | false=>
    have HR1:Hd ((if true then (3:Int) else 0)=r1):=qh HR1.o;obtain rfl:E2=3:=by have h:=HFJ.o;rw [←HR1.o] at h;exact h.symm
    have hK3:K=3:=by rw [←hKE];rfl
    subst hK3;rw [if_neg (by decide)] at hT;subst hT;clear hKE HKT;refine ja1 (fun w'=>Below V.heap.size V w') [] (by kernel_rfl) ?_;refine tb 0 (.bool false) [] rfl (by kernel_rfl) pk rfl (by intros;go_simp) bq0 ?_;simp only [ppq];refine tb 1 (.bool true) [] rfl (by kernel_rfl) pk rfl (by intros;go_simp) bq0 ?_;simp only [ppq];refine tb 2 (.bool true) [] rfl (by kernel_rfl) pk rfl (by intros;go_simp) bq0 ?_;simp only [ppq];refine ts 3 [] rfl (by kernel_rfl) pk (by rfl) bq0 ?_;simp only [ppq];refine ts 4 [] rfl (by kernel_rfl) pk (by rfl) bq0 ?_;simp only [ppq];refine tb 5 (.bool true) [] rfl (by kernel_rfl) pk rfl (by intros;go_simp) bq0 ?_;simp only [ppq];refine tb 7 (fv s6 A6 n6 c6 t6 B6 m6 d6) [] rfl (by kernel_rfl) pk rfl (by intros;go_simp) bq0 ?_;simp only [ppq];refine tb 8 (fv s7 A7 n7 c7 t7 B7 m7 d7) [] rfl (by kernel_rfl) pk rfl (by intros;go_simp) bq0 ?_;simp only [ppq];refine rd1 6 (by kernel_rfl) rfl (fun K hK=> ?_);go_simp;go_wp2_with (go_at_call 34;(with_reducible show Calls _ _ #[.bool true, .int .i64 3] _ _);(with_reducible refine mo0 (jap HR1.o) fun w10 hb10 hc10 hf10 _=> ?_))
    have sS10:=qh (bst bq0 hb10);refine hK.out _ _ (fun _=>sS10.o) ?_;clear hK K;refine rd1 9 (by kernel_rfl) rfl (fun K hK=> ?_);go_simp;go_wp2_with (go_at_call 35;(with_reducible refine mo0 (jd7 1000 1000 HJ.o (RepF.below HKA.o.2 bi) (RepF.below HKB.o.2 bi) HZA.o HZT.o (by omega)) fun w11 hb11 hc11 hf11 _=> ?_))
    have sS11:=qh (bst sS10.o hb11);refine hK.out _ _ (fun _=>sS11.o) ?_;clear hK K;refine rd1 10 (by kernel_rfl) rfl (fun K hK=> ?_);go_simp;refine hK.out _ _ (fun _=>bi) ?_;clear hK K;refine rd1 11 (by kernel_rfl) rfl (fun K hK=> ?_);go_simp;go_wp2_with (go_at_call 34;(with_reducible refine mo0 (jap HR2.o) fun w12 hb12 hc12 hf12 _=> ?_))
    have sS12:=qh (bst sS11.o hb12);refine hK.out _ _ (fun _=>sS12.o) ?_;clear hK K;refine rd1 12 (by kernel_rfl) rfl (fun K hK=> ?_);go_simp;refine hK.out _ _ (fun _=>bi) ?_;clear hK K;refine rd1 13 (by kernel_rfl) rfl (fun K hK=> ?_);go_simp;go_wp2_with (go_at_call 27;(with_reducible refine mo0 (jbl iv2 (by omega) HFJ.o) fun w13 hb13 hc13 hf13 _=> ?_))
    refine hK.out _ _ (fun _=>bi) ?_;clear hK K;refine rd1 14 (by kernel_rfl) rfl (fun K hK=> ?_);go_simp;refine hK.out _ _ (fun _=>bi) ?_;clear hK K;refine ja2 (by kernel_rfl) ?_ _;go_wp2;go_ret2;exact ⟨rfl,ja0 HBV.o bi⟩
  | true=>
    cases o2 with
    | false=>
      have HR1:Hd ((if true then (3:Int) else 0)=r1):=qh HR1.o;obtain rfl:E2=3:=by have h:=HFJ.o;rw [←HR1.o] at h;exact h.symm
      have hK3:K=3:=by rw [←hKE];rfl
      subst hK3;rw [if_neg (by decide)] at hT;subst hT;clear hKE HKT;refine ja1 (fun w'=>Below V.heap.size V w') [] (by kernel_rfl) ?_;refine tb 0 (.bool true) [] rfl (by kernel_rfl) pk rfl (by intros;go_simp) bq0 ?_;simp only [ppq];refine tb 1 (.bool false) [] rfl (by kernel_rfl) pk rfl (by intros;go_simp) bq0 ?_;simp only [ppq];refine tb 2 (.bool false) [] rfl (by kernel_rfl) pk rfl (by intros;go_simp) bq0 ?_;simp only [ppq];refine tb 3 (.bool false) [] rfl (by kernel_rfl) pk rfl (by intros;go_simp) bq0 ?_;simp only [ppq];refine tb 4 (.bool true) [] rfl (by kernel_rfl) pk rfl (by intros;go_simp) bq0 ?_;simp only [ppq];refine tb 5 (.bool true) [] rfl (by kernel_rfl) pk rfl (by intros;go_simp) bq0 ?_;simp only [ppq];refine tb 7 (fv s6 A6 n6 c6 t6 B6 m6 d6) [] rfl (by kernel_rfl) pk rfl (by intros;go_simp) bq0 ?_;simp only [ppq];refine tb 8 (fv s7 A7 n7 c7 t7 B7 m7 d7) [] rfl (by kernel_rfl) pk rfl (by intros;go_simp) bq0 ?_;simp only [ppq];refine rd1 6 (by kernel_rfl) rfl (fun K hK=> ?_);go_simp;go_wp2_with (go_at_call 34;(with_reducible show Calls _ _ #[.bool true, .int .i64 3] _ _);(with_reducible refine mo0 (jap HR1.o) fun w10 hb10 hc10 hf10 _=> ?_))
      have sS10:=qh (bst bq0 hb10);refine hK.out _ _ (fun _=>sS10.o) ?_;clear hK K;refine rd1 9 (by kernel_rfl) rfl (fun K hK=> ?_);go_simp;go_wp2_with (go_at_call 35;(with_reducible refine mo0 (jd7 1000 1000 HJ.o (RepF.below HKA.o.2 bi) (RepF.below HKB.o.2 bi) HZA.o HZT.o (by omega)) fun w11 hb11 hc11 hf11 _=> ?_))
      have sS11:=qh (bst sS10.o hb11);refine hK.out _ _ (fun _=>sS11.o) ?_;clear hK K;refine rd1 10 (by kernel_rfl) rfl (fun K hK=> ?_);go_simp;refine hK.out _ _ (fun _=>bi) ?_;clear hK K;refine rd1 11 (by kernel_rfl) rfl (fun K hK=> ?_);go_simp;go_wp2_with (go_at_call 34;(with_reducible refine mo0 (jap HR2.o) fun w12 hb12 hc12 hf12 _=> ?_))
      have sS12:=qh (bst sS11.o hb12);refine hK.out _ _ (fun _=>sS12.o) ?_;clear hK K;refine rd1 12 (by kernel_rfl) rfl (fun K hK=> ?_);go_simp;refine hK.out _ _ (fun _=>bi) ?_;clear hK K;refine rd1 13 (by kernel_rfl) rfl (fun K hK=> ?_);go_simp;go_wp2_with (go_at_call 27;(with_reducible refine mo0 (jbl iv2 (by omega) HFJ.o) fun w13 hb13 hc13 hf13 _=> ?_))
      refine hK.out _ _ (fun _=>bi) ?_;clear hK K;refine rd1 14 (by kernel_rfl) rfl (fun K hK=> ?_);go_simp;refine hK.out _ _ (fun _=>bi) ?_;clear hK K;refine ja2 (by kernel_rfl) ?_ _;go_wp2;go_ret2;exact ⟨rfl,ja0 HBV.o bi⟩
    | true=>
      have HR1:Hd ((if false then (3:Int) else 0)=r1):=qh HR1.o;by_cases e2:E2=0
      ·subst e2;rw [if_pos rfl] at hKE
       have hTG:jcF q=T:=by
        rw [←hT,←hKE];unfold jcF jbq;cases je3 q <;> rfl
       have HGV:=qh (And.intro hTG hKE);clear hKE hT hTG HKT;refine ja1 (fun w'=>Below V.heap.size V w') [] (by kernel_rfl) ?_;refine tb 0 (.bool true) [] rfl (by kernel_rfl) pk rfl (by intros;go_simp) bq0 ?_;simp only [ppq];refine tb 1 (.bool false) [] rfl (by kernel_rfl) pk rfl (by intros;go_simp) bq0 ?_;simp only [ppq];refine tb 2 (.bool false) [] rfl (by kernel_rfl) pk rfl (by intros;go_simp) bq0 ?_;simp only [ppq];refine tb 3 (.bool true) [] rfl (by kernel_rfl) pk rfl (by intros;go_simp) bq0 ?_;simp only [ppq];refine tb 4 (.bool false) [] rfl (by kernel_rfl) pk rfl (by intros;go_simp) bq0 ?_;simp only [ppq];refine tb 5 (.bool false) [] rfl (by kernel_rfl) pk rfl (by intros;go_simp) bq0 ?_;simp only [ppq];refine tb 7 (fv s6 A6 n6 c6 t6 B6 m6 d6) [] rfl (by kernel_rfl) pk rfl (by intros;go_simp) bq0 ?_;simp only [ppq];refine tb 8 (fv s7 A7 n7 c7 t7 B7 m7 d7) [] rfl (by kernel_rfl) pk rfl (by intros;go_simp) bq0 ?_;simp only [ppq];refine rd1 6 (by kernel_rfl) rfl (fun K hK=> ?_);go_simp;go_wp2_with (go_at_call 34;(with_reducible show Calls _ _ #[.bool false, .int .i64 3] _ _);(with_reducible refine mo0 (jap HR1.o) fun w10 hb10 hc10 hf10 _=> ?_))
       have sS10:=qh (bst bq0 hb10);refine hK.out _ _ (fun _=>sS10.o) ?_;clear hK K;refine rd1 9 (by kernel_rfl) rfl (fun K hK=> ?_);go_simp;go_wp2_with (go_at_call 35;(with_reducible refine mo0 (jd7 1000 1000 HJ.o (RepF.below HKA.o.2 bi) (RepF.below HKB.o.2 bi) HZA.o HZT.o (by omega)) fun w11 hb11 hc11 hf11 _=> ?_))
       have sS11:=qh (bst sS10.o hb11);refine hK.out _ _ (fun _=>sS11.o) ?_;clear hK K;refine rd1 10 (by kernel_rfl) rfl (fun K hK=> ?_);go_simp;refine hK.out _ _ (fun _=>bi) ?_;clear hK K;refine rd1 11 (by kernel_rfl) rfl (fun K hK=> ?_);go_simp;go_wp2_with (go_at_call 34;(with_reducible refine mo0 (jap HR2.o) fun w12 hb12 hc12 hf12 _=> ?_))
       have sS12:=qh (bst sS11.o hb12);refine hK.out _ _ (fun _=>sS12.o) ?_;clear hK K;refine rd1 12 (by kernel_rfl) rfl (fun K hK=> ?_);go_simp;refine hK.out _ _ (fun _=>bi) ?_;clear hK K;refine rd1 13 (by kernel_rfl) rfl (fun K hK=> ?_);go_simp;go_wp2_with (go_at_call 27;(with_reducible refine mo0 (jbl iv2 (by omega) HFJ.o) fun w13 hb13 hc13 hf13 _=> ?_))
       refine hK.out _ _ (fun _=>bi) ?_;clear hK K;refine rd1 14 (by kernel_rfl) rfl (fun K hK=> ?_);go_simp;refine hK.out _ _ (fun _=>bi) ?_;clear hK K;refine ja2 (by kernel_rfl) ?_ _;go_upto_region 14 with (fail)
       have bX:RowKit.Below V.heap.size V w13:=bi;have u1:=HM8.o.1.below bX;have u2:=HM9.o.1.below bX;have HU8:=qh (RepF.below HM8.o.2 bX);have HU9:=qh (RepF.below HM9.o.2 bX);have HEX:=qh (HEV.o.below bX);have HBX:=qh (ja0 HBV.o bX);clear a0 a1 a2 a3 b0 b1 b2 b3 za zb hb10 hb11 hb12 hb13 hc10 hc11 hc12 hc13 hf10 hf11 hf12 hf13 bX;obtain ⟨a0,a1,a2,a3,af⟩:=u1;dsimp only at a0 a1 a2 a3;obtain ⟨b0,b1,b2,b3,bf⟩:=u2;dsimp only at b0 b1 b2 b3;clear af bf;have za:gc < w13.heap.size:=World.block_lt_of_cell? w13 _ a0;have zb:gd < w13.heap.size:=World.block_lt_of_cell? w13 _ b0;go_wp2_with (first|(go_at_call 37;(with_reducible refine mf0 (jeP 1000 1000 HQ.o HU9.o HU8.o (HP2.o.mono (by omega)) (HP1.o.mono (by omega)) (by omega)) fun w14 s14 A14 n14 c14 t14 B14 m14 d14 hr14 hq14 hb14 hc14 hf14 _=> ?_))|(go_at_call 36;(with_reducible refine mo0 (jpA HGV.o.1 HGV.o.2 ⟨hr14,hq14⟩ (HEX.o.below bi) HST.o) fun w15 hb15 hc15 hf15 _=> ?_)))
       go_ret2;exact ⟨rfl,ja0 HBX.o bi⟩
      ·rw [if_neg e2] at hKE;subst hKE;rw [if_neg e2] at hT;subst hT;have z1:(E2 != 0)=true:=by rw [bne_iff_ne];exact e2
       clear HKT e2;refine ja1 (fun w'=>Below V.heap.size V w') [] (by kernel_rfl) ?_;refine tb 0 (.bool true) [] rfl (by kernel_rfl) pk rfl (by intros;go_simp) bq0 ?_;simp only [ppq];refine tb 1 (.bool false) [] rfl (by kernel_rfl) pk rfl (by intros;go_simp) bq0 ?_;simp only [ppq];refine tb 2 (.bool false) [] rfl (by kernel_rfl) pk rfl (by intros;go_simp) bq0 ?_;simp only [ppq];refine tb 3 (.bool true) [] rfl (by kernel_rfl) pk rfl (by intros;go_simp) bq0 ?_;simp only [ppq];refine tb 4 (.bool false) [] rfl (by kernel_rfl) pk rfl (by intros;go_simp) bq0 ?_;simp only [ppq];refine tb 5 (.bool false) [] rfl (by kernel_rfl) pk rfl (by intros;go_simp) bq0 ?_;simp only [ppq];refine tb 7 (fv s6 A6 n6 c6 t6 B6 m6 d6) [] rfl (by kernel_rfl) pk rfl (by intros;go_simp) bq0 ?_;simp only [ppq];refine tb 8 (fv s7 A7 n7 c7 t7 B7 m7 d7) [] rfl (by kernel_rfl) pk rfl (by intros;go_simp) bq0 ?_;simp only [ppq];refine rd1 6 (by kernel_rfl) rfl (fun K hK=> ?_);go_simp;go_wp2_with (go_at_call 34;(with_reducible show Calls _ _ #[.bool false, .int .i64 3] _ _);(with_reducible refine mo0 (jap HR1.o) fun w10 hb10 hc10 hf10 _=> ?_))
       have sS10:=qh (bst bq0 hb10);refine hK.out _ _ (fun _=>sS10.o) ?_;clear hK K;refine rd1 9 (by kernel_rfl) rfl (fun K hK=> ?_);go_simp;go_wp2_with (go_at_call 35;(with_reducible refine mo0 (jd7 1000 1000 HJ.o (RepF.below HKA.o.2 bi) (RepF.below HKB.o.2 bi) HZA.o HZT.o (by omega)) fun w11 hb11 hc11 hf11 _=> ?_))
       have sS11:=qh (bst sS10.o hb11);refine hK.out _ _ (fun _=>sS11.o) ?_;clear hK K;refine rd1 10 (by kernel_rfl) rfl (fun K hK=> ?_);go_simp;refine hK.out _ _ (fun _=>bi) ?_;clear hK K;refine rd1 11 (by kernel_rfl) rfl (fun K hK=> ?_);go_simp;go_wp2_with (go_at_call 34;(with_reducible refine mo0 (jap HR2.o) fun w12 hb12 hc12 hf12 _=> ?_))
       have sS12:=qh (bst sS11.o hb12);refine hK.out _ _ (fun _=>sS12.o) ?_;clear hK K;refine rd1 12 (by kernel_rfl) rfl (fun K hK=> ?_);go_simp;refine hK.out _ _ (fun _=>bi) ?_;clear hK K;refine rd1 13 (by kernel_rfl) rfl (fun K hK=> ?_);go_simp;go_wp2_with (go_at_call 27;(with_reducible refine mo0 (jbl iv2 (by omega) HFJ.o) fun w13 hb13 hc13 hf13 _=> ?_))
       refine hK.out _ _ (fun _=>bi) ?_;clear hK K;refine rd1 14 (by kernel_rfl) rfl (fun K hK=> ?_);go_simp;refine hK.out _ _ (fun _=>bi) ?_;clear hK K;refine ja2 (by kernel_rfl) ?_ _;go_wp2;go_ret2;exact ⟨rfl,ja0 HBV.o bi⟩
 ·have hKE:K=E:=by
   rw [←hK,←hEE];unfold jkz;by_cases z:D=0
   ·subst z;rw [if_pos rfl,if_pos rfl];unfold jkz;by_cases z2:C=0
    ·exfalso;apply e0;rw [←hEE,z2];rfl
    ·rw [if_neg z2,if_neg z2]
   ·rw [if_neg z,if_neg z]
  subst hKE;rw [if_neg e0] at hT;subst hT;have q1:(K != 0)=true:=by rw [bne_iff_ne];exact e0
  clear hE h h0 hn hcp hl hla hlt hk hN hD hK hlen hsz hDE hCH hEE e0;go_enter func7,ntmps7;go_wp2_with (first|(go_at_call 25;(with_reducible refine mo0 (HC.o _ bi) fun w1 hb1 hc1 hf1 _=> ?_))|(go_at_call 26;(with_reducible refine (HCV.o _ bi).mono ?_);rintro e2 w2 ⟨v2,vs2,rfl,hv2,hb2⟩;obtain ⟨hc2,hf2,_⟩:=bc0 hb2;obtain ⟨A2,c2,rfl,hp2⟩:=hv2.ptv)|(go_at_call 28;(with_reducible refine mo0 (jwQ (hp2.below (bA bR)) HNN.o.1 HNN.o.2 HSZ.o rfl (by simp) (by simp) (by simp) (by simp) (by simp) HDE.o) fun w3 hb3 hc3 hf3 _=> ?_))|(go_at_call 31;(with_reducible refine mo0 (jmp (HE.o.below bi) (Sv.two w3 _ a t) (by omega) HLT.o HCH.o) fun w4 hb4 hc4 hf4 _=> ?_))|(go_at_call 27;(with_reducible refine mo0 (jbl iv2 (by omega) HFI.o) fun w5 hb5 hc5 hf5 _=> ?_)))
  go_ret2;exact ⟨rfl,bi⟩
end
end Go.Proofs.YtcophhhpgmilfaaGreatDoor
