/- Parts. -/
import Derived.Test.YtfagcpcikjlboaaGreatDoorAkG
set_option linter.all false
set_option maxRecDepth 100000
set_option maxHeartbeats 8000000
namespace Go.Proofs.YtfagcpcikjlboaaGreatDoor
open Go Go.RowKit Go.Proofs.Tryz

section
variable {w:World}
theorem jxx {t u:Int} {r:Bool} (hr:jl3 (t,u)=r):Calls prog 44 #[.agg #[.int .i64 t, .int .i64 u]] w fun e w'=>e= .returned (.bool r)∧Below w.heap.size w w':=by
 obtain ⟨b1,h1⟩:∃b,jqq t=b:=⟨_,rfl⟩;obtain ⟨b2,h2⟩:∃b,jqd u=b:=⟨_,rfl⟩;have F1:=qh (fun W=>jwv (w:=W) (n:=t) (a:= -600) (b:=1000) h1);have F2:=qh (fun W=>jwv (w:=W) (n:=u) (a:=0) (b:=100) h2);have hb:jl3 (t,u)=(b1 && b2):=by unfold jl3;rw [←h1,←h2]
 rw [hb] at hr;subst hr;clear hb h1 h2;go_enter func44,ntmps44;cases b1
 all_goals go_wp2_with (first|(go_at_call 45;(with_reducible show Calls _ _ #[.int .i64 t, .int .i64 (-600), .int .i64 1000] _ _);(with_reducible refine mo1 w (F1.o _) (by go_size) fun w1 hb1 hc1 hf1 z1_0 _=> ?_))|(go_at_call 45;(with_reducible show Calls _ _ #[.int .i64 u, .int .i64 0, .int .i64 100] _ _);(with_reducible refine mo1 w (F2.o _) (by go_size) fun w2 hb2 hc2 hf2 z2_0 _=> ?_)))
 all_goals go_ret
 all_goals exact ⟨by simp,bi⟩
theorem jxu {c:Clim} {k:Int} (hk:jlz c=k):Calls prog 15 #[clv c] w fun e w'=>e= .returned (.int .i64 k)∧Below w.heap.size w w':=by
 obtain ⟨c1,c2,c3,c4⟩:=c;obtain ⟨b1,h1⟩:∃b,jqq c1=b:=⟨_,rfl⟩;obtain ⟨b2,h2⟩:∃b,jqq c2=b:=⟨_,rfl⟩;obtain ⟨b3,h3⟩:∃b,jqd c3=b:=⟨_,rfl⟩;obtain ⟨b4,h4⟩:∃b,jqd c4=b:=⟨_,rfl⟩;obtain ⟨o1,h5⟩:∃b,decide (c2 < c1)=b:=⟨_,rfl⟩;obtain ⟨o2,h6⟩:∃b,decide (c4 < c3)=b:=⟨_,rfl⟩;have F1:=qh (fun W=>jwv (w:=W) (n:=c1) (a:= -600) (b:=1000) h1);have F2:=qh (fun W=>jwv (w:=W) (n:=c2) (a:= -600) (b:=1000) h2);have F3:=qh (fun W=>jwv (w:=W) (n:=c3) (a:=0) (b:=100) h3);have F4:=qh (fun W=>jwv (w:=W) (n:=c4) (a:=0) (b:=100) h4);unfold jlz jry jlL at hk;dsimp only at hk;rw [h1,h2,h3,h4,h5,h6] at hk;clear h1 h2 h3 h4;go_enter func15,ntmps15
 have hq:(b1=false∧k=3)∨(b1=true∧b2=false∧k=3)∨(b1=true∧b2=true∧b3=false∧k=3)∨(b1=true∧b2=true∧b3=true∧b4=false∧k=3)∨(b1=true∧b2=true∧b3=true∧b4=true∧o1=true∧k=11)∨(b1=true∧b2=true∧b3=true∧b4=true∧o1=false∧o2=true∧k=11)∨(b1=true∧b2=true∧b3=true∧b4=true∧o1=false∧o2=false∧k=0):=by
  rw [←hk];cases b1 <;> cases b2 <;> cases b3 <;> cases b4 <;> cases o1 <;> cases o2 <;> decide
 clear hk;rcases hq with ⟨rfl,rfl⟩|⟨rfl,rfl,rfl⟩|⟨rfl,rfl,rfl,rfl⟩|⟨rfl,rfl,rfl,rfl,rfl⟩|⟨rfl,rfl,rfl,rfl,rfl,rfl⟩|⟨rfl,rfl,rfl,rfl,rfl,rfl,rfl⟩|⟨rfl,rfl,rfl,rfl,rfl,rfl,rfl⟩
 all_goals go_wp2_with (first|(go_at_call 45;(with_reducible show Calls _ _ #[.int .i64 c1, .int .i64 (-600), .int .i64 1000] _ _);(with_reducible refine mo1 w (F1.o _) (by go_size) fun w1 hb1 hc1 hf1 z1_0 _=> ?_))|(go_at_call 45;(with_reducible show Calls _ _ #[.int .i64 c2, .int .i64 (-600), .int .i64 1000] _ _);(with_reducible refine mo1 w (F2.o _) (by go_size) fun w2 hb2 hc2 hf2 z2_0 _=> ?_))|(go_at_call 45;(with_reducible show Calls _ _ #[.int .i64 c3, .int .i64 0, .int .i64 100] _ _);(with_reducible refine mo1 w (F3.o _) (by go_size) fun w3 hb3 hc3 hf3 z3_0 _=> ?_))|(go_at_call 45;(with_reducible show Calls _ _ #[.int .i64 c4, .int .i64 0, .int .i64 100] _ _);(with_reducible refine mo1 w (F4.o _) (by go_size) fun w4 hb4 hc4 hf4 z4_0 _=> ?_)))
 all_goals go_ret
 all_goals exact ⟨rfl,bi⟩
variable {A:Option Addr} {n cap:Nat} {hs:List Hr}
theorem jxZ {r:Int} (h:Hv6 w A n hs) (hn:n≤100000) (hr:jkg hs=r):Calls prog 14 #[.slice A n cap] w fun e w'=>e= .returned (.int .i64 r)∧Below w.heap.size w w':=by
 have H:=qh h;unfold jkg at hr;rw [h.len] at hr;by_cases hb:1000 < n
 ·rw [if_pos hb] at hr;subst hr;have p0:decide (1000 < n)=true:=by simpa using hb
  clear h;go_enter func14,ntmps14;go_wp2;go_ret;exact ⟨rfl,bi⟩
 ·rw [if_neg hb] at hr;have p0:decide (1000 < n)=false:=by simpa using hb
  have HN:=qh (show n≤1000 by omega);have HR:=qh hr;clear h hr;go_enter func14,ntmps14;go_wp2;clear p0 hb
  go_loopw [3] (fun u wr=>∃(i:Nat),u= .int .i64 (i:Int)∧i≤n∧Below w.heap.size w wr∧(if ((hs.drop i).any fun h=> !jl3 h) then (3:Int) else 0)=r) (fun u _=>n - (intOf u).toNat)
  case atStart=>exact ⟨0,rfl,Nat.zero_le _,bi,HR.o⟩
  case round=>
   obtain ⟨i,rfl,hin,hb,hc⟩:=hrel;have _:=bm hb;have hnn:=HN.o;by_cases hi:i < n
   ·have p0:decide (i < n)=true:=by simpa using hi
    obtain ⟨b,o,rfl,hbl,hat⟩:=(H.o.below hb).at_ (by omega);obtain ⟨k0,k1⟩:=hat i (by rw [H.o.len];exact hi);rw [jrP (by rw [H.o.len];exact hi),List.any_cons] at hc;obtain ⟨⟨t,u⟩,hx⟩:∃x,hs.getD i (0,0)=x:=⟨_,rfl⟩;rw [hx] at k0 k1 hc;dsimp only at k0 k1;clear hat hx;obtain ⟨f,hf⟩:∃f,jl3 (t,u)=f:=⟨_,rfl⟩;rw [hf] at hc;have HF:=qh hf;clear hf;cases f with
    | false=>
      rw [show ((!false) || _)=true from rfl,if_pos rfl] at hc;subst hc;go_wp2_with (go_at_call 44;(with_reducible refine mo0 (jxx HF.o) fun w1 hb1 hc1 hf1 _=> ?_))
      go_ret;exact ⟨rfl,bi⟩
    | true=>
      rw [Bool.not_true,Bool.false_or] at hc;have HC:=qh hc;clear hc;go_wp2_with (go_at_call 44;(with_reducible refine mo0 (jxx HF.o) fun w1 hb1 hc1 hf1 _=> ?_))
      go_roundw
      case rel=>exact ⟨i+1,by simp,by omega,bi,HC.o⟩
      case measure=>simp [intOf];omega
   ·have:i=n:=by omega
    subst this;have p0:decide (i < i)=false:=by simp
    rw [List.drop_eq_nil_of_le (by rw [H.o.len];exact Nat.le_refl _)] at hc;have hR:r=0:=hc.symm;subst hR;clear hc;go_wp2;go_ret;exact ⟨rfl,bi⟩
theorem hv1 {W:World} {b:Nat} {T:TypeId} {t u:Int} (hb:W.heap.size=b):Hv6 (W.alloc (.cells #[.int .i64 t, .int .i64 u] T)) (some ⟨b,0,none⟩) 1 [(t,u)]:=by
 subst hb
 exact ⟨rfl,fun _=>⟨W.heap.size,0,rfl,by simp,fun j hj=>by
  have:j=0:=by simp at hj;omega
  subst this
  exact ⟨by simp,by simp⟩⟩⟩
end

theorem jyf (hs:List Hr) (c:Clim) (a b d:List UInt8):airE hs c a b d=if jkg hs=0 then (if jlz c=0 then (if jwt (a,b)=0 then (if numQ a < 0 then 3 else (if chk d=0 then (if numQ d≤0 then 3 else 0) else chk d)) else jwt (a,b)) else jlz c) else jkg hs:=by
 unfold airE jyc jyr jym;obtain ⟨r1,h1⟩:∃r,jkg hs=r:=⟨_,rfl⟩;obtain ⟨r2,h2⟩:∃r,jlz c=r:=⟨_,rfl⟩;obtain ⟨r3,h3⟩:∃r,jwt (a,b)=r:=⟨_,rfl⟩;obtain ⟨r4,h4⟩:∃r,chk d=r:=⟨_,rfl⟩;rw [h1,h2,h3,h4];by_cases z1:r1=0
 ·by_cases z2:r2=0
  ·by_cases z3:r3=0
   ·by_cases z4:numQ a < 0
    ·simp [jkz,z1,z2,z3,z4]
    ·by_cases z5:r4=0
     ·simp [jkz,z1,z2,z3,z4,z5]
     ·simp [jkz,z1,z2,z3,z4,z5]
   ·simp [jkz,z1,z2,z3]
  ·simp [jkz,z1,z2]
 ·simp [jkz,z1]
section
variable {w:World} {A:Option Addr} {n cap:Nat} {hs:List Hr} {c:Clim} {a b d:List UInt8}
set_option maxHeartbeats 16000000 in
theorem jy6 {K:Int} (h:Hv6 w A n hs) (hn:n≤100000) (hla:a.length≤30) (hlb:b.length≤30) (hld:d.length≤30) (hK:airE hs c a b d=K):
  Calls prog 4 #[.slice A n cap,clv c,sp a b,bs d] w fun e w'=>e= .returned (.int .i64 K)∧Below w.heap.size w w':=by
 rw [jyf] at hK;obtain ⟨r1,h1⟩:∃r,jkg hs=r:=⟨_,rfl⟩;obtain ⟨r2,h2⟩:∃r,jlz c=r:=⟨_,rfl⟩;obtain ⟨r3,h3⟩:∃r,jwt (a,b)=r:=⟨_,rfl⟩;obtain ⟨r4,h4⟩:∃r,chk d=r:=⟨_,rfl⟩;have HH:=qh (fun W (hb:Below w.heap.size w W)=>jxZ (cap:=cap) (h.below hb) hn h1);have HC:=qh (fun W=>jxu (w:=W) h2);have HS:=qh (fun W=>jxR (w:=W) (by omega) (by omega) h3);have HD:=qh (fun W=>jpl (w:=W) h4 (by omega));rw [h1,h2,h3,h4] at hK;obtain ⟨k1,k2,k3,k4⟩:=c;by_cases z1:r1=0
 ·subst z1;rw [if_pos rfl] at hK;by_cases z2:r2=0
  ·subst z2;rw [if_pos rfl] at hK;by_cases z3:r3=0
   ·subst z3;rw [if_pos rfl] at hK;obtain ⟨Na,Nb,_⟩:=jx1 (hs:=hs) (c:=⟨k1,k2,k3,k4⟩) (a:=a) (b:=b) (by unfold jyc;rw [h1,h2,h3];rfl);obtain ⟨x,hx⟩:∃x,numQ a=x:=⟨_,rfl⟩;rw [hx] at Na hK;obtain ⟨j1,hj1⟩:∃j,sgn x.num=j:=⟨_,rfl⟩;have HG:=qh (fun W=>jqN (w:=W) hj1 (Na.dzl hla (by omega)) (by omega) (by omega));rw [←Na.eq] at HG;obtain ⟨f1,hf1⟩:∃f,decide (j1 < 0)=f:=⟨_,rfl⟩;have e1:decide (x < 0)=f1:=by rw [←hf1,←hj1];exact (jxw x).symm
    cases f1 with
    | true=>
      rw [if_pos (of_decide_eq_true e1)] at hK;subst hK;clear h hn hla hlb hld h1 h2 h3 h4 Na Nb hx hj1 e1;go_enter func4,ntmps4;go_wp2_with (first|((go_at_call 14;(with_reducible refine mo0 (HH.o _ bi) fun w1 hb1 hc1 hf1 _=> ?_));have y1_0:=zlt (w.heap.size) hb1;have y1_1:=zlt (w.heap.size+1) hb1)|((go_at_call 15;(with_reducible refine mo0 (HC.o _) fun w2 hb2 hc2 hf2 _=> ?_));have y2_0:=zlt (w.heap.size) hb2;have y2_1:=zlt (w.heap.size+1) hb2)|((go_at_call 10;(with_reducible refine mo0 (HS.o _) fun w3 hb3 hc3 hf3 _=> ?_));have y3_0:=zlt (w.heap.size) hb3;have y3_1:=zlt (w.heap.size+1) hb3)|((go_at_call 16;(with_reducible show Calls _ _ #[bs a] _ _);(with_reducible refine mo0 (HG.o _) fun w4 hb4 hc4 hf4 _=> ?_));have y4_0:=zlt (w.heap.size) hb4;have y4_1:=zlt (w.heap.size+1) hb4))
      go_ret;exact ⟨rfl,bi⟩
    | false=>
      rw [if_neg (of_decide_eq_false e1)] at hK;by_cases z4:r4=0
      ·subst z4;rw [if_pos rfl] at hK;have Nd:=jjb h4;obtain ⟨z,hz⟩:∃x,numQ d=x:=⟨_,rfl⟩;rw [hz] at Nd hK;obtain ⟨j2,hj2⟩:∃j,sgn z.num=j:=⟨_,rfl⟩;have HG2:=qh (fun W=>jqN (w:=W) hj2 (Nd.dzl hld (by omega)) (by omega) (by omega));rw [←Nd.eq] at HG2;obtain ⟨f2,hf2⟩:∃f,decide (j2≤0)=f:=⟨_,rfl⟩;have e2:decide (z≤0)=f2:=by rw [←hf2,←hj2,decide_eq_decide];exact jxU.symm
       cases f2 with
       | true=>
         rw [if_pos (of_decide_eq_true e2)] at hK;subst hK;clear h hn hla hlb hld h1 h2 h3 h4 Na Nb Nd hx hz hj1 hj2 e1 e2;go_enter func4,ntmps4;go_wp2_with (first|((go_at_call 14;(with_reducible refine mo0 (HH.o _ bi) fun w1 hb1 hc1 hf1 _=> ?_));have y1_0:=zlt (w.heap.size) hb1;have y1_1:=zlt (w.heap.size+1) hb1)|((go_at_call 15;(with_reducible refine mo0 (HC.o _) fun w2 hb2 hc2 hf2 _=> ?_));have y2_0:=zlt (w.heap.size) hb2;have y2_1:=zlt (w.heap.size+1) hb2)|((go_at_call 10;(with_reducible refine mo0 (HS.o _) fun w3 hb3 hc3 hf3 _=> ?_));have y3_0:=zlt (w.heap.size) hb3;have y3_1:=zlt (w.heap.size+1) hb3)|((go_at_call 16;(with_reducible show Calls _ _ #[bs a] _ _);(with_reducible refine mo0 (HG.o _) fun w4 hb4 hc4 hf4 _=> ?_));have y4_0:=zlt (w.heap.size) hb4;have y4_1:=zlt (w.heap.size+1) hb4)|((go_at_call 17;(with_reducible refine mo0 (HD.o _) fun w5 hb5 hc5 hf5 _=> ?_));have y5_0:=zlt (w.heap.size) hb5;have y5_1:=zlt (w.heap.size+1) hb5)|((go_at_call 16;(with_reducible refine mo0 (HG2.o _) fun w6 hb6 hc6 hf6 _=> ?_));have y6_0:=zlt (w.heap.size) hb6;have y6_1:=zlt (w.heap.size+1) hb6))
         go_ret;exact ⟨rfl,bi⟩
       | false=>
         rw [if_neg (of_decide_eq_false e2)] at hK;subst hK;clear h hn hla hlb hld h1 h2 h3 h4 Na Nb Nd hx hz hj1 hj2 e1 e2;go_enter func4,ntmps4;go_wp2_with (first|((go_at_call 14;(with_reducible refine mo0 (HH.o _ bi) fun w1 hb1 hc1 hf1 _=> ?_));have y1_0:=zlt (w.heap.size) hb1;have y1_1:=zlt (w.heap.size+1) hb1)|((go_at_call 15;(with_reducible refine mo0 (HC.o _) fun w2 hb2 hc2 hf2 _=> ?_));have y2_0:=zlt (w.heap.size) hb2;have y2_1:=zlt (w.heap.size+1) hb2)|((go_at_call 10;(with_reducible refine mo0 (HS.o _) fun w3 hb3 hc3 hf3 _=> ?_));have y3_0:=zlt (w.heap.size) hb3;have y3_1:=zlt (w.heap.size+1) hb3)|((go_at_call 16;(with_reducible show Calls _ _ #[bs a] _ _);(with_reducible refine mo0 (HG.o _) fun w4 hb4 hc4 hf4 _=> ?_));have y4_0:=zlt (w.heap.size) hb4;have y4_1:=zlt (w.heap.size+1) hb4)|((go_at_call 17;(with_reducible refine mo0 (HD.o _) fun w5 hb5 hc5 hf5 _=> ?_));have y5_0:=zlt (w.heap.size) hb5;have y5_1:=zlt (w.heap.size+1) hb5)|((go_at_call 16;(with_reducible refine mo0 (HG2.o _) fun w6 hb6 hc6 hf6 _=> ?_));have y6_0:=zlt (w.heap.size) hb6;have y6_1:=zlt (w.heap.size+1) hb6))
         go_ret;exact ⟨rfl,bi⟩
      ·rw [if_neg z4] at hK;subst hK;have q1:(r4==0)=false:=by rw [beq_eq_false_iff_ne];exact z4
       clear h hn hla hlb hld h1 h2 h3 h4 Na Nb hx hj1 e1 z4;go_enter func4,ntmps4;go_wp2_with (first|((go_at_call 14;(with_reducible refine mo0 (HH.o _ bi) fun w1 hb1 hc1 hf1 _=> ?_));have y1_0:=zlt (w.heap.size) hb1;have y1_1:=zlt (w.heap.size+1) hb1)|((go_at_call 15;(with_reducible refine mo0 (HC.o _) fun w2 hb2 hc2 hf2 _=> ?_));have y2_0:=zlt (w.heap.size) hb2;have y2_1:=zlt (w.heap.size+1) hb2)|((go_at_call 10;(with_reducible refine mo0 (HS.o _) fun w3 hb3 hc3 hf3 _=> ?_));have y3_0:=zlt (w.heap.size) hb3;have y3_1:=zlt (w.heap.size+1) hb3)|((go_at_call 16;(with_reducible show Calls _ _ #[bs a] _ _);(with_reducible refine mo0 (HG.o _) fun w4 hb4 hc4 hf4 _=> ?_));have y4_0:=zlt (w.heap.size) hb4;have y4_1:=zlt (w.heap.size+1) hb4)|((go_at_call 17;(with_reducible refine mo0 (HD.o _) fun w5 hb5 hc5 hf5 _=> ?_));have y5_0:=zlt (w.heap.size) hb5;have y5_1:=zlt (w.heap.size+1) hb5))
       go_ret;exact ⟨rfl,bi⟩
   ·rw [if_neg z3] at hK;subst hK;have q1:(r3==0)=false:=by rw [beq_eq_false_iff_ne];exact z3
    clear h hn hla hlb hld h1 h2 h3 h4 z3;go_enter func4,ntmps4;go_wp2_with (first|((go_at_call 14;(with_reducible refine mo0 (HH.o _ bi) fun w1 hb1 hc1 hf1 _=> ?_));have y1_0:=zlt (w.heap.size) hb1;have y1_1:=zlt (w.heap.size+1) hb1)|((go_at_call 15;(with_reducible refine mo0 (HC.o _) fun w2 hb2 hc2 hf2 _=> ?_));have y2_0:=zlt (w.heap.size) hb2;have y2_1:=zlt (w.heap.size+1) hb2)|((go_at_call 10;(with_reducible refine mo0 (HS.o _) fun w3 hb3 hc3 hf3 _=> ?_));have y3_0:=zlt (w.heap.size) hb3;have y3_1:=zlt (w.heap.size+1) hb3))
    go_ret;exact ⟨rfl,bi⟩
  ·rw [if_neg z2] at hK;subst hK;have q1:(r2==0)=false:=by rw [beq_eq_false_iff_ne];exact z2
   clear h hn hla hlb hld h1 h2 h3 h4 z2;go_enter func4,ntmps4;go_wp2_with (first|((go_at_call 14;(with_reducible refine mo0 (HH.o _ bi) fun w1 hb1 hc1 hf1 _=> ?_));have y1_0:=zlt (w.heap.size) hb1;have y1_1:=zlt (w.heap.size+1) hb1)|((go_at_call 15;(with_reducible refine mo0 (HC.o _) fun w2 hb2 hc2 hf2 _=> ?_));have y2_0:=zlt (w.heap.size) hb2;have y2_1:=zlt (w.heap.size+1) hb2)|((go_at_call 10;(with_reducible refine mo0 (HS.o _) fun w3 hb3 hc3 hf3 _=> ?_));have y3_0:=zlt (w.heap.size) hb3;have y3_1:=zlt (w.heap.size+1) hb3))
   go_ret;exact ⟨rfl,bi⟩
 ·rw [if_neg z1] at hK;subst hK;have q1:(r1==0)=false:=by rw [beq_eq_false_iff_ne];exact z1
  clear h hn hla hlb hld h1 h2 h3 h4 z1;go_enter func4,ntmps4;go_wp2_with (first|((go_at_call 14;(with_reducible refine mo0 (HH.o _ bi) fun w1 hb1 hc1 hf1 _=> ?_));have y1_0:=zlt (w.heap.size) hb1;have y1_1:=zlt (w.heap.size+1) hb1)|((go_at_call 15;(with_reducible refine mo0 (HC.o _) fun w2 hb2 hc2 hf2 _=> ?_));have y2_0:=zlt (w.heap.size) hb2;have y2_1:=zlt (w.heap.size+1) hb2)|((go_at_call 10;(with_reducible refine mo0 (HS.o _) fun w3 hb3 hc3 hf3 _=> ?_));have y3_0:=zlt (w.heap.size) hb3;have y3_1:=zlt (w.heap.size+1) hb3))
  go_ret;exact ⟨rfl,bi⟩
end
end Go.Proofs.YtfagcpcikjlboaaGreatDoor
