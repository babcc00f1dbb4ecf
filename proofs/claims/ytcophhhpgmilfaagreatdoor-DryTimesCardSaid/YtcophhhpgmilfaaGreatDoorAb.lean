/- Parts. -/
import Derived.Test.YtcophhhpgmilfaaGreatDoorBxG
set_option linter.all false
set_option maxRecDepth 100000
set_option maxHeartbeats 8000000
namespace Go.Proofs.YtcophhhpgmilfaaGreatDoor
open Go Go.RowKit Go.Proofs.Tryz

section
variable {w:World} {A:Option Addr} {n c k:Nat} {qs:List (Rat×Rat)} {ax ay bx by_ x y z:Rat}
theorem jxg (d1:Dz k ax) (d2:Dz k ay) (d3:Dz k bx) (d4:Dz k by_) (d5:Dz k x) (hk:0 < k) (hk2:k≤100) (hne:bx - ax≠0) (hz:ay+(by_ - ay) / (bx - ax)*(x - ax)=z):
  Calls prog 98 #[.agg #[bs (tq ax),bs (tq ay)], .agg #[bs (tq bx),bs (tq by_)],bs (tq x)] w (QP z w):=by
 unfold QP;have HS1:=qh (fun W=>jg3 (w:=W) d4 d2 hk hk (by omega) (by omega));have HS2:=qh (fun W=>jg3 (w:=W) d3 d1 hk hk (by omega) (by omega));have HS3:=qh (fun W=>jg3 (w:=W) d5 d1 hk hk (by omega) (by omega));have e1:=d4.sub d2;have e2:=d3.sub d1;have e3:=d5.sub d1;have HD:=qh (fun W=>jnh (w:=W) e1 e2 (by omega) (by omega) (by omega) (by omega) hne);have e4:=e1.div e2 hne;have HM:=qh (fun W=>jka (w:=W) e4 e3 (by omega) (by omega) (by omega) (by omega));have e5:=e4.mul e3;have HA:=qh (fun W=>jto (w:=W) d2 e5 hk (by omega) (by omega) (by omega));rw [hz] at HA;unfold QP at HS1 HS2 HS3 HD HM HA;obtain ⟨AX,hAX⟩:∃X,tq ax=X:=⟨_,rfl⟩;obtain ⟨AY,hAY⟩:∃X,tq ay=X:=⟨_,rfl⟩;obtain ⟨BX,hBX⟩:∃X,tq bx=X:=⟨_,rfl⟩;obtain ⟨BY,hBY⟩:∃X,tq by_=X:=⟨_,rfl⟩;obtain ⟨XX,hXX⟩:∃X,tq x=X:=⟨_,rfl⟩;obtain ⟨T1,hT1⟩:∃X,tq (by_ - ay)=X:=⟨_,rfl⟩;obtain ⟨T2,hT2⟩:∃X,tq (bx - ax)=X:=⟨_,rfl⟩;obtain ⟨T3,hT3⟩:∃X,tq (x - ax)=X:=⟨_,rfl⟩;obtain ⟨T4,hT4⟩:∃X,tq ((by_ - ay) / (bx - ax))=X:=⟨_,rfl⟩;obtain ⟨T5,hT5⟩:∃X,tq ((by_ - ay) / (bx - ax)*(x - ax))=X:=⟨_,rfl⟩;obtain ⟨T6,hT6⟩:∃X,tq z=X:=⟨_,rfl⟩;rw [hBY,hAY,hT1] at HS1;rw [hBX,hAX,hT2] at HS2;rw [hXX,hAX,hT3] at HS3;rw [hT1,hT2,hT4] at HD;rw [hT4,hT3,hT5] at HM;rw [hAY,hT5,hT6] at HA;rw [hAX,hAY,hBX,hBY,hXX,hT6];clear d1 d2 d3 d4 d5 hne hz e1 e2 e3 e4 e5 hAX hAY hBX hBY hXX hT1 hT2 hT3 hT4 hT5 hT6;go_enter func98,ntmps98;go_upto_region 1 with (fail)
 obtain ⟨W,hW⟩:∃W,((w.alloc (.cells #[bs AX,bs AY] 35)).alloc (.cells #[bs BX,bs BY] 35))=W:=⟨_,rfl⟩;have bW:Below w.heap.size w W:=by rw [←hW];exact bi
 have g0:W.cell? ⟨w.heap.size,0,none⟩=some (bs AX):=by rw [←hW];simp
 have g1:W.cell? ⟨w.heap.size,1,none⟩=some (bs AY):=by rw [←hW];simp
 have g2:W.cell? ⟨w.heap.size+1,0,none⟩=some (bs BX):=by rw [←hW];simp
 have g3:W.cell? ⟨w.heap.size+1,1,none⟩=some (bs BY):=by rw [←hW];simp
 have z0:w.heap.size < W.heap.size:=World.block_lt_of_cell? W _ g0;have z1:w.heap.size+1 < W.heap.size:=World.block_lt_of_cell? W _ g2;rw [hW];clear hW;refine ja1 (fun w'=>Below W.heap.size W w') [] (by kernel_rfl) ?_;refine tb 0 (.pointer (some ⟨w.heap.size+1,1,none⟩)) [] rfl (by kernel_rfl) pk rfl (by intros;go_simp) bq0 ?_;simp only [ppq];refine tb 1 (bs BY) [] rfl (by kernel_rfl) pk rfl (by intros;go_simp) bq0 ?_;simp only [ppq];refine tb 2 (.pointer (some ⟨w.heap.size,1,none⟩)) [] rfl (by kernel_rfl) pk rfl (by intros;go_simp) bq0 ?_;simp only [ppq];refine tb 3 (bs AY) [] rfl (by kernel_rfl) pk rfl (by intros;go_simp) bq0 ?_;simp only [ppq];refine tb 5 (.pointer (some ⟨w.heap.size+1,0,none⟩)) [] rfl (by kernel_rfl) pk rfl (by intros;go_simp) bq0 ?_;simp only [ppq];refine tb 6 (bs BX) [] rfl (by kernel_rfl) pk rfl (by intros;go_simp) bq0 ?_;simp only [ppq];refine tb 7 (.pointer (some ⟨w.heap.size,0,none⟩)) [] rfl (by kernel_rfl) pk rfl (by intros;go_simp) bq0 ?_;simp only [ppq];refine tb 8 (bs AX) [] rfl (by kernel_rfl) pk rfl (by intros;go_simp) bq0 ?_;simp only [ppq];refine rd1 4 (by kernel_rfl) rfl (fun K hK=> ?_);go_simp;go_wp2_with (go_at_call 42;(with_reducible refine mo0 (HS1.o _) fun w1 hb1 hc1 hf1 _=> ?_))
 have sS1:=qh (bst bq0 hb1);refine hK.out _ _ (fun _=>sS1.o) ?_;clear hK K;refine rd1 9 (by kernel_rfl) rfl (fun K hK=> ?_);go_simp;go_wp2_with (go_at_call 42;(with_reducible refine mo0 (HS2.o _) fun w2 hb2 hc2 hf2 _=> ?_))
 have sS2:=qh (bst sS1.o hb2);refine hK.out _ _ (fun _=>sS2.o) ?_;clear hK K;refine rd1 10 (by kernel_rfl) rfl (fun K hK=> ?_);go_simp;go_wp2_with (go_at_call 154;(with_reducible refine mo0 (HD.o _) fun w3 hb3 hc3 hf3 _=> ?_))
 have sS3:=qh (bst sS2.o hb3);refine hK.out _ _ (fun _=>sS3.o) ?_;clear hK K;refine rd1 11 (by kernel_rfl) rfl (fun K hK=> ?_);go_simp;refine hK.out _ _ (fun _=>bi) ?_;clear hK K;refine ja2 (by kernel_rfl) ?_ _;go_upto_region 2 with (fail)
 have bX:Below W.heap.size W w3:=bi;have k0:=ja9 bX g0;have k1:=ja9 bX g1;have y0:w.heap.size < w3.heap.size:=World.block_lt_of_cell? w3 _ k0;have bV:=ja0 bW bX;clear g0 g1 g2 g3 hb1 hb2 hb3 hc1 hc2 hc3 hf1 hf2 hf3 z0 z1 bX bW HS1 HS2 HD;refine ja1 (fun w'=>Below w3.heap.size w3 w') [] (by kernel_rfl) ?_;refine tb 0 (.pointer (some ⟨w.heap.size,1,none⟩)) [] rfl (by kernel_rfl) pk rfl (by intros;go_simp) bq0 ?_;simp only [ppq];refine tb 1 (bs AY) [] rfl (by kernel_rfl) pk rfl (by intros;go_simp) bq0 ?_;simp only [ppq];refine tb 2 (bs T4) [] rfl (by kernel_rfl) pk rfl (by intros;go_simp) bq0 ?_;simp only [ppq];refine tb 3 (bs XX) [] rfl (by kernel_rfl) pk rfl (by intros;go_simp) bq0 ?_;simp only [ppq];refine tb 4 (.pointer (some ⟨w.heap.size,0,none⟩)) [] rfl (by kernel_rfl) pk rfl (by intros;go_simp) bq0 ?_;simp only [ppq];refine tb 5 (bs AX) [] rfl (by kernel_rfl) pk rfl (by intros;go_simp) bq0 ?_;simp only [ppq];refine rd1 6 (by kernel_rfl) rfl (fun K hK=> ?_);go_simp;go_wp2_with (go_at_call 42;(with_reducible refine mo0 (HS3.o _) fun w4 hb4 hc4 hf4 _=> ?_))
 have sS4:=qh (bst bq0 hb4);refine hK.out _ _ (fun _=>sS4.o) ?_;clear hK K;refine rd1 7 (by kernel_rfl) rfl (fun K hK=> ?_);go_simp;go_wp2_with (go_at_call 155;(with_reducible refine mo0 (HM.o _) fun w5 hb5 hc5 hf5 _=> ?_))
 have sS5:=qh (bst sS4.o hb5);refine hK.out _ _ (fun _=>sS5.o) ?_;clear hK K;refine rd1 8 (by kernel_rfl) rfl (fun K hK=> ?_);go_simp;go_wp2_with (go_at_call 100;(with_reducible refine mo0 (HA.o _) fun w6 hb6 hc6 hf6 _=> ?_))
 have sS6:=qh (bst sS5.o hb6);refine hK.out _ _ (fun _=>sS6.o) ?_;clear hK K;refine rd1 9 (by kernel_rfl) rfl (fun K hK=> ?_);go_simp;refine hK.out _ _ (fun _=>bi) ?_;clear hK K;refine ja2 (by kernel_rfl) ?_ _;go_wp2;go_ret;exact ⟨rfl,ja0 bV bi⟩
end
noncomputable def jxn (R:Rat×Bool):List UInt8:=if R.2 then tq R.1 else []
section
variable {w:World} {A:Option Addr} {n c k:Nat} {ls:List (List UInt8×List UInt8)} {y:Rat}
theorem jx8 {y:Rat} {qs:List (Rat×Rat)} {i:Nat} {X1 Y1 X2 Y2:Rat} (h:i+1 < qs.length) (h1:qs.getD i (0,0)=(X1,Y1)) (h2:qs.getD (i+1) (0,0)=(X2,Y2)) (hy:Y1≠y) (hf:Y2 < Y1):
  jwF y (qs.drop i)=if Y2≤y∧y≤Y1 then (X1+(X2 - X1) / (Y2 - Y1)*(y - Y1),true) else jwF y (qs.drop (i+1)):=by
 rw [jwu (by omega),h1,h2,if_neg hy,if_neg (by omega)];dsimp only;by_cases g:Y2≤y∧y≤Y1
 ·rw [if_pos g]
  have c1:Rq.cmpQ Y1 y=1:=by
   have h1:y < Y1:=by grind
   unfold Rq.cmpQ;rw [if_neg (by grind),if_pos h1]
  rw [c1];by_cases e:Y2=y
  ·subst e;have c2:Rq.cmpQ Y2 Y2=0:=by unfold Rq.cmpQ;rw [if_neg (Rat.lt_irrefl),if_neg (Rat.lt_irrefl)]
   rw [c2,if_neg (by decide),jwu h,h2,if_pos rfl];have hne:Y2 - Y1≠0:=by grind
   have:(X2 - X1) / (Y2 - Y1)*(Y2 - Y1)=X2 - X1:=Rat.div_mul_cancel hne;rw [this]
   congr 1
   grind
  ·have c2:Rq.cmpQ Y2 y < 0:=Rq.cmp_neg.2 (by grind);rw [if_pos (by omega)]
   congr 1
   rw [Rat.div_def,Rat.div_def]
   grind
 ·rw [if_neg g]
  have:¬Rq.cmpQ Y1 y*Rq.cmpQ Y2 y < 0:=by
   intro hlt;apply g;by_cases h3:y < Y1
   ·have h4:=Rq.cmp_pos.2 h3
    have h5:Rq.cmpQ Y2 y < 0:=Int.not_le.1 fun h=>by
     have:=Int.mul_nonneg (Int.le_of_lt h4) h;omega
    have h6:=Rq.cmp_neg.1 h5;exact ⟨Rat.le_of_lt h6,Rat.le_of_lt h3⟩
   ·have h4:Y1 < y:=by grind
    have h5:Y2 < y:=by grind
    have h6:=Rq.cmp_neg.2 h4;have h7:=Rq.cmp_neg.2 h5;have:=Int.mul_pos_of_neg_of_neg h6 h7;omega
  rw [if_neg this]
theorem jwX {i:Nat} (h:i < ls.length):(ls.map pq).getD i (0,0)=(numQ (ls.getD i ([],[])).1,numQ (ls.getD i ([],[])).2):=by
 rw [List.getD_eq_getElem?_getD,List.getElem?_map,List.getD_eq_getElem?_getD,List.getElem?_eq_getElem h];rfl
structure CurOk (k n:Nat) (ls:List (List UInt8×List UInt8)):Prop where
 len:ls.length=n
 num:∀i,i < n→IsNum (ls.getD i ([],[])).1 (numQ (ls.getD i ([],[])).1)∧IsNum (ls.getD i ([],[])).2 (numQ (ls.getD i ([],[])).2)
 dz:∀i,i < n→Dz k (numQ (ls.getD i ([],[])).1)∧Dz k (numQ (ls.getD i ([],[])).2)
 fall:∀i,i+1 < n→numQ (ls.getD (i+1) ([],[])).2 < numQ (ls.getD i ([],[])).2
set_option maxHeartbeats 16000000 in
theorem jwv {R:Rat×Bool} (h:Pv w A n ls) (h0:0 < n) (hn:n≤100) (hC:CurOk k n ls) (dy:Dz k y) (hk:0 < k) (hk2:k≤100) (hR:jwF y (ls.map pq)=R):
  Calls prog 40 #[.slice A n c,bs (tq y)] w fun e w'=>e= .returned (.tuple #[bs (jxn R), .bool R.2])∧Below w.heap.size w w':=by
 obtain ⟨r0,r1⟩:=R;obtain ⟨T,hT⟩:∃T,jxn (r0,r1)=T:=⟨_,rfl⟩;rw [hT];obtain ⟨TY,hTY⟩:∃T,tq y=T:=⟨_,rfl⟩;rw [hTY];have H:=qh h;have HC:=qh hC;have HD:=qh dy;have HK:=qh (And.intro hk (And.intro hk2 hn));have HT:=qh hT;have HTY:=qh hTY;obtain ⟨b,o,rfl,hbl,hcell⟩:=h.at_ h0;obtain ⟨y0,y1⟩:=hcell 0 h0;have N0:=hC.num 0 h0;have hlen:=hC.len;have hq0:=jwX (ls:=ls) (i:=0) (by omega);have hst:=jwu (y:=y) (qs:=ls.map pq) (i:=0) (by rw [List.length_map];omega);rw [hq0,List.drop_zero,hR] at hst;have HR:=qh hR;obtain ⟨⟨x0,x1⟩,hx⟩:∃x,ls.getD 0 ([],[])=x:=⟨_,rfl⟩;rw [hx] at y0 y1 N0 hst;rw [show o+0*2=o by omega] at y0 y1;dsimp only at y0 y1 N0 hst;by_cases e0:numQ x1=y
 ·rw [if_pos e0] at hst;cases hst
  have hq:(x1==TY)=true:=by rw [beq_iff_eq,N0.2.eq,e0,hTY]
  have hT2:T=x0:=by rw [←hT];unfold jxn;rw [if_pos rfl];exact N0.1.eq.symm
  subst hT2;clear h hC dy hT hTY hR HT hcell hx hq0 N0 e0;go_enter func40,ntmps40;go_wp2;go_ret2;exact ⟨rfl,bi⟩
 ·have hq:(x1==TY)=false:=by
   rw [beq_eq_false_iff_ne];intro h;rw [N0.2.eq,←hTY] at h;exact e0 (jtt h)
  have HE0:Hd (numQ (ls.getD 0 ([],[])).2≠y):=qh (by rw [hx];exact e0);clear h hC dy hT hTY hR hcell hx hq0 N0 e0 hst;go_enter func40,ntmps40;go_wp2;clear hq y0 y1
  go_loopw [6] (fun u wr=>∃(i:Nat),u= .int .i64 (i:Int)∧1≤i∧i≤n∧Below w.heap.size w wr∧numQ (ls.getD (i - 1) ([],[])).2≠y∧jwF y ((ls.map pq).drop (i - 1))=(r0,r1)) (fun u _=>n - (intOf u).toNat)
  case atStart=>exact ⟨1,rfl,by omega,by omega,bi,HE0.o,by rw [List.drop_zero];exact HR.o⟩
  case round=>
   obtain ⟨i,rfl,hi1,hin,hb,hne,hc⟩:=hrel;have _:=bm hb;have hnn:=HK.o.2.2;have hlen:=HC.o.len;by_cases hi:i < n
   ·have q0:decide ((i:Int) < (n:Int))=true:=by simp;exact hi
    have q9:decide (i < n)=true:=by simpa using hi
    obtain ⟨b',o',e,hbl,hcell⟩:=(H.o.below hb).at_ (by omega);cases e
    obtain ⟨cp0,cp1⟩:=hcell (i - 1) (by omega);obtain ⟨ci0,ci1⟩:=hcell i hi;have NP:=HC.o.num (i - 1) (by omega);have NI:=HC.o.num i hi;have DP:=HC.o.dz (i - 1) (by omega);have DI:=HC.o.dz i hi;have hF:=HC.o.fall (i - 1) (by omega);have q1:=jwX (ls:=ls) (i:=i - 1) (by omega);have q2:=jwX (ls:=ls) (i:=i - 1+1) (by omega);have hst:=jx8 (y:=y) (by rw [List.length_map];omega) q1 q2 hne hF;rw [hc,show i - 1+1=i by omega] at hst;rw [show i - 1+1=i by omega] at hF;obtain ⟨⟨TXp,TYp⟩,hp⟩:∃x,ls.getD (i - 1) ([],[])=x:=⟨_,rfl⟩;obtain ⟨⟨TXi,TYi⟩,hx⟩:∃x,ls.getD i ([],[])=x:=⟨_,rfl⟩;rw [hp] at cp0 cp1 NP DP hF hst hne;rw [hx] at ci0 ci1 NI DI hF hst;have hNX:numQ (ls.getD (i+1 - 1) ([],[])).2=numQ TYi:=by rw [show i+1 - 1=i by omega,hx]
    dsimp only at cp0 cp1 ci0 ci1 NP DP NI DI hF hst hne;obtain ⟨Xp,hXp⟩:∃x,numQ TXp=x:=⟨_,rfl⟩;obtain ⟨Yp,hYp⟩:∃x,numQ TYp=x:=⟨_,rfl⟩;obtain ⟨Xi,hXi⟩:∃x,numQ TXi=x:=⟨_,rfl⟩;obtain ⟨Yi,hYi⟩:∃x,numQ TYi=x:=⟨_,rfl⟩;rw [hXp,hYp] at NP DP hst;rw [hXi,hYi] at NI DI hst;rw [hYi] at hNX;rw [hYp,hYi] at hF;rw [hYp] at hne;have dy:=HD.o;obtain ⟨hk,hk2,_⟩:=HK.o;obtain ⟨j1,hj1⟩:∃j,Rq.cmpQ Yi y=j:=⟨_,rfl⟩;obtain ⟨j2,hj2⟩:∃j,Rq.cmpQ y Yp=j:=⟨_,rfl⟩;have HMI:=qh (fun W=>jxu (w:=W) DP.2 DI.2 hk hk (by omega) (by omega));have HMA:=qh (fun W=>jxw (w:=W) DP.2 DI.2 hk hk (by omega) (by omega));have hmi:jxr Yp Yi=Yi:=by unfold jxr;rw [if_pos hF]
    have hma:jxv Yp Yi=Yp:=by unfold jxv;rw [if_neg (by grind)]
    rw [hmi] at HMI;rw [hma] at HMA;have HJ1:=qh (fun W=>jko (w:=W) hj1 DI.2 dy hk hk (by omega) (by omega));have HJ2:=qh (fun W=>jko (w:=W) hj2 dy DP.2 hk hk (by omega) (by omega));have HLI:=qh (fun W=>jxg (w:=W) DP.2 DP.1 DI.2 DI.1 dy hk hk2 (by grind) rfl);obtain ⟨z,hz⟩:∃z,Xp+(Xi - Xp) / (Yi - Yp)*(y - Yp)=z:=⟨_,rfl⟩;rw [hz] at HLI hst;unfold QP at HMI HMA HLI;rw [←NP.2.eq,←NI.2.eq] at HMI HMA;rw [←NI.2.eq,HTY.o] at HJ1;rw [←NP.2.eq,HTY.o] at HJ2;rw [←NP.1.eq,←NP.2.eq,←NI.1.eq,←NI.2.eq,HTY.o] at HLI
    have hnq:(TYi==TYp)=false:=by
     rw [beq_eq_false_iff_ne];intro h;rw [NP.2.eq,NI.2.eq] at h;have:=jtt h;rw [this] at hF;exact Rat.lt_irrefl hF
    have m1:IntKind.i64.wrap ((i:Int) - 1)=((i - 1:Nat):Int):=by simp [IntKind.wrap,IntKind.bits,IntKind.signed];omega
    have m2:wrap64 ((i:Int) - 1)=((i - 1:Nat):Int):=by unfold wrap64;omega
    have t2:i - 1 < n:=by omega
    obtain ⟨f1,hf1⟩:∃f,decide (j1≤0)=f:=⟨_,rfl⟩;obtain ⟨f2,hf2⟩:∃f,decide (j2≤0)=f:=⟨_,rfl⟩
    have k1:f1=true↔Yi≤y:=by
     rw [←hf1,decide_eq_true_iff,←hj1];exact ⟨fun h=>Rat.not_lt.1 fun h2=>by have:=Rq.cmp_pos.2 h2;omega,fun h=>Int.not_lt.1 fun h2=>Rat.not_lt.2 h (Rq.cmp_pos.1 h2)⟩
    have k2:f2=true↔y≤Yp:=by
     rw [←hf2,decide_eq_true_iff,←hj2];exact ⟨fun h=>Rat.not_lt.1 fun h2=>by have:=Rq.cmp_pos.2 h2;omega,fun h=>Int.not_lt.1 fun h2=>Rat.not_lt.2 h (Rq.cmp_pos.1 h2)⟩
    have HI:=qh (And.intro hi hin);have HHB:=qh hb;have HF:=qh hF;clear NP NI DP DI dy hk hk2 hj1 hj2 hmi hma hz hF hne hc q1 q2 hp hx hXp hYp hXi hYi hcell hb hlen;go_upto_region 6 with (fail)
    refine ja1 (fun w'=>Below wr.heap.size wr w') [] (by kernel_rfl) ?_;refine tb 0 (.slice (some ⟨b,o,none⟩) n c) [] rfl (by kernel_rfl) pk rfl (by intros;go_simp) bq0 ?_;simp only [ppq];refine tb 1 (.int .i64 (i:Int)) [] rfl (by kernel_rfl) pk rfl (by intros;go_simp) bq0 ?_;simp only [ppq];refine tb 2 (.int .i64 ((i - 1:Nat):Int)) [] rfl (by kernel_rfl) pk rfl (by intros;go_simp) bq0 ?_;simp only [ppq];refine tb 3 (.pointer (some ⟨b,o+(i - 1)*2,none⟩)) [] rfl (by kernel_rfl) pk rfl (by intros;go_simp) bq0 ?_;simp only [ppq];refine tb 4 (.pointer (some ⟨b,o+(i - 1)*2+1,none⟩)) [] rfl (by kernel_rfl) pk rfl (by intros;go_simp) bq0 ?_;simp only [ppq];refine tb 5 (bs TYp) [] rfl (by kernel_rfl) pk rfl (by intros;go_simp) bq0 ?_;simp only [ppq];refine tb 6 (.slice (some ⟨b,o,none⟩) n c) [] rfl (by kernel_rfl) pk rfl (by intros;go_simp) bq0 ?_;simp only [ppq];refine tb 7 (.int .i64 (i:Int)) [] rfl (by kernel_rfl) pk rfl (by intros;go_simp) bq0 ?_;simp only [ppq];refine tb 8 (.pointer (some ⟨b,o+i*2,none⟩)) [] rfl (by kernel_rfl) pk rfl (by intros;go_simp) bq0 ?_;simp only [ppq];refine tb 9 (.pointer (some ⟨b,o+i*2+1,none⟩)) [] rfl (by kernel_rfl) pk rfl (by intros;go_simp) bq0 ?_;simp only [ppq];refine tb 10 (bs TYi) [] rfl (by kernel_rfl) pk rfl (by intros;go_simp) bq0 ?_;simp only [ppq];refine tb 12 (.slice (some ⟨b,o,none⟩) n c) [] rfl (by kernel_rfl) pk rfl (by intros;go_simp) bq0 ?_;simp only [ppq];refine tb 13 (.int .i64 (i:Int)) [] rfl (by kernel_rfl) pk rfl (by intros;go_simp) bq0 ?_;simp only [ppq];refine tb 14 (.int .i64 ((i - 1:Nat):Int)) [] rfl (by kernel_rfl) pk rfl (by intros;go_simp) bq0 ?_;simp only [ppq];refine tb 15 (.pointer (some ⟨b,o+(i - 1)*2,none⟩)) [] rfl (by kernel_rfl) pk rfl (by intros;go_simp) bq0 ?_;simp only [ppq];refine tb 16 (.pointer (some ⟨b,o+(i - 1)*2+1,none⟩)) [] rfl (by kernel_rfl) pk rfl (by intros;go_simp) bq0 ?_;simp only [ppq];refine tb 17 (bs TYp) [] rfl (by kernel_rfl) pk rfl (by intros;go_simp) bq0 ?_;simp only [ppq];refine tb 18 (.slice (some ⟨b,o,none⟩) n c) [] rfl (by kernel_rfl) pk rfl (by intros;go_simp) bq0 ?_;simp only [ppq];refine tb 19 (.int .i64 (i:Int)) [] rfl (by kernel_rfl) pk rfl (by intros;go_simp) bq0 ?_;simp only [ppq];refine tb 20 (.pointer (some ⟨b,o+i*2,none⟩)) [] rfl (by kernel_rfl) pk rfl (by intros;go_simp) bq0 ?_;simp only [ppq];refine tb 21 (.pointer (some ⟨b,o+i*2+1,none⟩)) [] rfl (by kernel_rfl) pk rfl (by intros;go_simp) bq0 ?_;simp only [ppq];refine tb 22 (bs TYi) [] rfl (by kernel_rfl) pk rfl (by intros;go_simp) bq0 ?_;simp only [ppq];refine rd1 11 (by kernel_rfl) rfl (fun K hK=> ?_);go_simp;go_wp2_with (go_at_call 96;(with_reducible refine mo0 (HMI.o _) fun w1 hb1 hc1 hf1 _=> ?_))
    have sS1:=qh (bst bq0 hb1);refine hK.out _ _ (fun _=>sS1.o) ?_;clear hK K;refine rd1 23 (by kernel_rfl) rfl (fun K hK=> ?_);go_simp;go_wp2_with (go_at_call 97;(with_reducible refine mo0 (HMA.o _) fun w2 hb2 hc2 hf2 _=> ?_))
    have sS2:=qh (bst sS1.o hb2);refine hK.out _ _ (fun _=>sS2.o) ?_;clear hK K;refine rd1 24 (by kernel_rfl) rfl (fun K hK=> ?_);go_simp;refine hK.out _ _ (fun _=>bi) ?_;clear hK K;refine rd1 25 (by kernel_rfl) rfl (fun K hK=> ?_);go_simp;refine hK.out _ _ (fun _=>bi) ?_;clear hK K;refine ja2 (by kernel_rfl) ?_ _;by_cases g:Yi≤y∧y≤Yp
    ·obtain rfl:=k1.2 g.1;obtain rfl:=k2.2 g.2;rw [if_pos g] at hst;cases hst
     clear g k1 k2;go_upto_region 8 with (first|(go_at_call 41;(with_reducible show Calls _ _ #[bs TYi,bs TY] _ _);(with_reducible refine mo0 (HJ1.o _) fun w3 hb3 hc3 hf3 _=> ?_))|(go_at_call 41;(with_reducible refine mo0 (HJ2.o _) fun w4 hb4 hc4 hf4 _=> ?_)))
     have b4:Below wr.heap.size wr w4:=bi;replace cp0:=ja9 b4 cp0;replace cp1:=ja9 b4 cp1;replace ci0:=ja9 b4 ci0;replace ci1:=ja9 b4 ci1;have zb:b < w4.heap.size:=World.block_lt_of_cell? w4 _ cp0;clear hb1 hb2 hb3 hb4 hc1 hc2 hc3 hc4 hf1 hf2 hf3 hf4 HMI HMA HJ1 HJ2;refine ja1 (fun w'=>Below w4.heap.size w4 w') [] (by kernel_rfl) ?_;refine tb 0 (.slice (some ⟨b,o,none⟩) n c) [] rfl (by kernel_rfl) pk rfl (by intros;go_simp) bq0 ?_;simp only [ppq];refine tb 1 (.int .i64 (i:Int)) [] rfl (by kernel_rfl) pk rfl (by intros;go_simp) bq0 ?_;simp only [ppq];refine tb 2 (.int .i64 ((i - 1:Nat):Int)) [] rfl (by kernel_rfl) pk rfl (by intros;go_simp) bq0 ?_;simp only [ppq];refine tb 3 (.pointer (some ⟨b,o+(i - 1)*2,none⟩)) [] rfl (by kernel_rfl) pk rfl (by intros;go_simp) bq0 ?_;simp only [ppq];refine tb 4 (.pointer (some ⟨b,o+(i - 1)*2+1,none⟩)) [] rfl (by kernel_rfl) pk rfl (by intros;go_simp) bq0 ?_;simp only [ppq];refine tb 5 (bs TYp) [] rfl (by kernel_rfl) pk rfl (by intros;go_simp) bq0 ?_;simp only [ppq];refine tb 6 (.slice (some ⟨b,o,none⟩) n c) [] rfl (by kernel_rfl) pk rfl (by intros;go_simp) bq0 ?_;simp only [ppq];refine tb 7 (.int .i64 (i:Int)) [] rfl (by kernel_rfl) pk rfl (by intros;go_simp) bq0 ?_;simp only [ppq];refine tb 8 (.int .i64 ((i - 1:Nat):Int)) [] rfl (by kernel_rfl) pk rfl (by intros;go_simp) bq0 ?_;simp only [ppq];refine tb 9 (.pointer (some ⟨b,o+(i - 1)*2,none⟩)) [] rfl (by kernel_rfl) pk rfl (by intros;go_simp) bq0 ?_;simp only [ppq];refine tb 10 (.pointer (some ⟨b,o+(i - 1)*2,none⟩)) [] rfl (by kernel_rfl) pk rfl (by intros;go_simp) bq0 ?_;simp only [ppq];refine tb 11 (bs TXp) [] rfl (by kernel_rfl) pk rfl (by intros;go_simp) bq0 ?_;simp only [ppq];refine tb 12 (.agg #[bs TYp,bs TXp]) [] rfl (by kernel_rfl) pk rfl (by intros;go_simp) bq0 ?_;simp only [ppq];refine tb 13 (.slice (some ⟨b,o,none⟩) n c) [] rfl (by kernel_rfl) pk rfl (by intros;go_simp) bq0 ?_;simp only [ppq];refine tb 14 (.int .i64 (i:Int)) [] rfl (by kernel_rfl) pk rfl (by intros;go_simp) bq0 ?_;simp only [ppq];refine tb 15 (.pointer (some ⟨b,o+i*2,none⟩)) [] rfl (by kernel_rfl) pk rfl (by intros;go_simp) bq0 ?_;simp only [ppq];refine tb 16 (.pointer (some ⟨b,o+i*2+1,none⟩)) [] rfl (by kernel_rfl) pk rfl (by intros;go_simp) bq0 ?_;simp only [ppq];refine tb 17 (bs TYi) [] rfl (by kernel_rfl) pk rfl (by intros;go_simp) bq0 ?_;simp only [ppq];refine tb 18 (.slice (some ⟨b,o,none⟩) n c) [] rfl (by kernel_rfl) pk rfl (by intros;go_simp) bq0 ?_;simp only [ppq];refine tb 19 (.int .i64 (i:Int)) [] rfl (by kernel_rfl) pk rfl (by intros;go_simp) bq0 ?_;simp only [ppq];refine tb 20 (.pointer (some ⟨b,o+i*2,none⟩)) [] rfl (by kernel_rfl) pk rfl (by intros;go_simp) bq0 ?_;simp only [ppq];refine tb 21 (.pointer (some ⟨b,o+i*2,none⟩)) [] rfl (by kernel_rfl) pk rfl (by intros;go_simp) bq0 ?_;simp only [ppq];refine tb 22 (bs TXi) [] rfl (by kernel_rfl) pk rfl (by intros;go_simp) bq0 ?_;simp only [ppq];refine tb 23 (.agg #[bs TYi,bs TXi]) [] rfl (by kernel_rfl) pk rfl (by intros;go_simp) bq0 ?_;simp only [ppq];refine tb 24 (bs TY) [] rfl (by kernel_rfl) pk rfl (by intros;go_simp) bq0 ?_;simp only [ppq];refine rd1 25 (by kernel_rfl) rfl (fun K hK=> ?_);go_simp;go_wp2_with (go_at_call 98;(with_reducible refine mo0 (HLI.o _) fun w5 hb5 hc5 hf5 _=> ?_))
     have sS5:=qh (bst bq0 hb5);refine hK.out _ _ (fun _=>sS5.o) ?_;clear hK K;refine rd1 26 (by kernel_rfl) rfl (fun K hK=> ?_);go_simp;refine hK.out _ _ (fun _=>bi) ?_;clear hK K;refine rd1 27 (by kernel_rfl) rfl (fun K hK=> ?_);go_simp;refine hK.out _ _ (fun _=>bi) ?_;clear hK K;refine ja2 (by kernel_rfl) ?_ _;have hT2:T=tq r0:=by rw [←HT.o];rfl
     subst hT2;go_wp2;go_ret2;exact ⟨rfl,ja0 HHB.o (ja0 b4 bi)⟩
    ·rw [if_neg g] at hst
     have HG:Hd (Yi≠y∧(r0,r1)=jwF y ((ls.map pq).drop i)):=qh ⟨fun e=>g ⟨by rw [e];exact Rat.le_refl,by
      have:=HF.o;rw [e] at this
      exact Rat.le_of_lt this⟩,hst⟩
     have HNX:=qh hNX;cases f1 with
     | true=>
       have e2:f2=false:=by
        cases f2 with
        | true=>exact absurd ⟨k1.1 rfl,k2.1 rfl⟩ g
        | false=>rfl
       subst e2;clear g k1 k2 hst hNX;go_wp2_with (first|(go_at_call 41;(with_reducible show Calls _ _ #[bs TYi,bs TY] _ _);(with_reducible refine mo0 (HJ1.o _) fun w3 hb3 hc3 hf3 _=> ?_))|(go_at_call 41;(with_reducible refine mo0 (HJ2.o _) fun w4 hb4 hc4 hf4 _=> ?_)))
       exact ⟨⟨i+1,by simp,by omega,HI.o.1,ja0 HHB.o bi,by rw [HNX.o];exact HG.o.1,by rw [show i+1 - 1=i by omega];exact HG.o.2.symm⟩,by have:=HI.o;simp [intOf];omega⟩
     | false=>
       clear g k1 k2 hst hNX;go_wp2_with (first|(go_at_call 41;(with_reducible show Calls _ _ #[bs TYi,bs TY] _ _);(with_reducible refine mo0 (HJ1.o _) fun w3 hb3 hc3 hf3 _=> ?_))|(go_at_call 41;(with_reducible refine mo0 (HJ2.o _) fun w4 hb4 hc4 hf4 _=> ?_)))
       exact ⟨⟨i+1,by simp,by omega,HI.o.1,ja0 HHB.o bi,by rw [HNX.o];exact HG.o.1,by rw [show i+1 - 1=i by omega];exact HG.o.2.symm⟩,by have:=HI.o;simp [intOf];omega⟩
   ·have q0:decide (i < n)=false:=by simp;omega
    obtain rfl:i=n:=by omega
    have hst:=jwu (y:=y) (qs:=ls.map pq) (i:=i - 1) (by rw [List.length_map];omega);rw [hc,jwX (by omega),if_neg hne,if_pos (by rw [List.length_map];omega)] at hst;cases hst
    have hT2:T=[]:=by rw [←HT.o];rfl
    subst hT2;clear hc hi hne hlen;go_wp2;go_ret2;exact ⟨rfl,hb⟩
end
end Go.Proofs.YtcophhhpgmilfaaGreatDoor
