/- Parts. -/
import Derived.Test.YtdjppepcckedkaaGreatDoorZhG
set_option linter.all false
set_option maxRecDepth 100000
set_option maxHeartbeats 8000000
namespace Go.Proofs.YtdjppepcckedkaaGreatDoor
open Go Go.RowKit Go.Proofs.Tryz

section
variable {w:World} {A:Option Addr} {n c:Nat} {ls:List (List UInt8)}
theorem jx1 {R:Int} (h:Sv w A n ls) (hn:n≤1000) (hl:∀l∈ls,l.length≤15000) (hR:jar chk ls=R):
  Calls prog 14 #[.slice A n c] w fun e w'=>e= .returned (.int .i64 R)∧Below w.heap.size w w':=by
 have HR:=qh hR;have H:=qh h;have HN:=qh hn;have HF:=qh (fun l (h:l∈ls) W=>jpl (w:=W) rfl (hl l h));clear hR h hn hl;go_enter func14,ntmps14;go_wp2
 go_loopw [3] (fun u wr=>∃(i:Nat),u= .int .i64 (i:Int)∧Below w.heap.size w wr∧i≤n∧jar chk (ls.drop i)=R) (fun u _=>n - (intOf u).toNat)
 case atStart=>exact ⟨0,rfl,bi,by omega,HR.o⟩
 case round=>
  obtain ⟨i,rfl,hb,hin,hc⟩:=hrel;have _:=bm hb;by_cases hi:i < n
  ·have q0:decide ((i:Int) < (n:Int))=true:=by simp;exact hi
   obtain ⟨b,o,rfl,hbl,hcell⟩:=(H.o.below hb).at_ (by omega);have hx:=hcell i hi;have hil:i < ls.length:=by rw [H.o.len];exact hi
   rw [jd5 (d:=[]) hil] at hc;have hmem:ls.getD i []∈ls:=by rw [List.getD_eq_getElem?_getD,List.getElem?_eq_getElem hil];exact List.getElem_mem hil
   obtain ⟨x,hxx⟩:∃x,ls.getD i []=x:=⟨_,rfl⟩;rw [hxx] at hx hc hmem;have HX:=qh (HF.o x hmem);have hnn:=HN.o;have HI:=qh hi;clear hcell hmem hil hxx;by_cases h0:chk x=0
   ·have HC:Hd (jar chk (ls.drop (i+1))=R):=qh (by rw [←hc,jf3 h0]);rw [h0] at HX;clear hc h0 hi;go_wp2_with (go_at_call 11;(with_reducible refine mo0 (HX.o _) fun w1 hb1 hc1 hf1 _=> ?_))
    exact ⟨⟨i+1,by simp,bi,HI.o,HC.o⟩,by have:=HI.o;simp [intOf];omega⟩
   ·have hR:R=chk x:=by rw [←hc,jed h0]
    subst hR;obtain ⟨y,hy⟩:∃y,chk x=y:=⟨_,rfl⟩;rw [hy] at HX;have q1:(y != 0)=true:=by rw [bne_iff_ne,←hy];exact h0
    have HY:=qh hy;clear hc h0 hi hy HR;go_wp2_with (go_at_call 11;(with_reducible refine mo0 (HX.o _) fun w1 hb1 hc1 hf1 _=> ?_))
    go_ret;exact ⟨by rw [HY.o];rfl,bi⟩
  ·have q0:decide (i < n)=false:=by simp;omega
   rw [List.drop_eq_nil_of_le (by rw [H.o.len];omega)] at hc;have hR:R=0:=by rw [←hc];rfl
   subst hR;clear hc hi HR;go_wp2;go_ret;exact ⟨rfl,bi⟩
end
section
variable {w:World} {A:Option Addr} {n c:Nat} {ls:List Bd}
theorem jx4 {R:Int} (h:Bv w A n ls) (hn:n≤100000) (hl:∀l∈ls,l.1.length≤30∧l.2.1.length≤30∧l.2.2.length≤30) (hR:jwI ls n=R):
  Calls prog 5 #[.slice A n c] w fun e w'=>e= .returned (.int .i64 R)∧Below w.heap.size w w':=by
 have H:=qh h;have HL:=qh hl;have HN:=qh hn;unfold jwI at hR;by_cases h0:n=0
 ·subst h0;rw [if_pos rfl] at hR;subst hR;clear h hn hl;go_enter func5,ntmps5;go_wp2;go_ret;exact ⟨rfl,bi⟩
 ·rw [if_neg h0] at hR;have q1:((n:Int)==0)=false:=by rw [beq_eq_false_iff_ne];omega
  by_cases h1:64 < n
  ·rw [if_pos h1] at hR;subst hR;have q2:decide ((64:Int) < (n:Int))=true:=by rw [decide_eq_true_iff];omega
   clear h hn hl h0 h1;go_enter func5,ntmps5;go_wp2;go_ret;exact ⟨rfl,bi⟩
  ·rw [if_neg h1] at hR;have q2:decide ((64:Int) < (n:Int))=false:=by rw [decide_eq_false_iff_not];omega
   have HR:=qh hR;clear h hn hl h0 h1 hR;go_enter func5,ntmps5;go_wp2;clear q1 q2
   go_loopw [3] (fun u wr=>∃(i:Nat),u= .int .i64 (i:Int)∧Below w.heap.size w wr∧i≤n∧jar (bdE ls) ((List.range n).drop i)=R) (fun u _=>n - (intOf u).toNat)
   case atStart=>exact ⟨0,rfl,bi,by omega,HR.o⟩
   case round=>
    obtain ⟨i,rfl,hb,hin,hc⟩:=hrel;have _:=bm hb;by_cases hi:i < n
    ·have q0:decide ((i:Int) < (n:Int))=true:=by simp;exact hi
     have q9:decide (i < n)=true:=by simpa using hi
     obtain ⟨b,o,rfl,hbl,hcell⟩:=(H.o.below hb).at_ (by omega);obtain ⟨y0,y1,y2⟩:=hcell i hi;have hil:i < ls.length:=by rw [H.o.len];exact hi
     have hmem:ls.getD i ([],[],[])∈ls:=by rw [List.getD_eq_getElem?_getD,List.getElem?_eq_getElem hil];exact List.getElem_mem hil
     obtain ⟨l0,l1,l2⟩:=HL.o _ hmem;rw [jfU hi] at hc;obtain ⟨k0,hk0⟩:∃k,bdC (ls.getD i ([],[],[]))=k:=⟨_,rfl⟩;have hBE:bdE ls i=if k0=0 then (if bdR (ls.getD i ([],[],[]))=0 then bdO ls i else bdR (ls.getD i ([],[],[]))) else k0:=by unfold bdE;rw [hk0]
     have hPrev:0 < i→wr.cell? ⟨b,o+(i - 1)*3+1,none⟩=some (bs (ls.getD (i - 1) ([],[],[])).2.1):=fun h0=>(hcell (i - 1) (by omega)).2.1
     have hOE:bdO ls i=if 0 < i∧(ls.getD (i - 1) ([],[],[])).2.1≠(ls.getD i ([],[],[])).1 then 11 else 0:=rfl
     obtain ⟨pv,hpv⟩:∃p,(ls.getD (i - 1) ([],[],[])).2.1=p:=⟨_,rfl⟩;rw [hpv] at hPrev hOE;obtain ⟨⟨x0,x1,x2⟩,hx⟩:∃x,ls.getD i ([],[],[])=x:=⟨_,rfl⟩;rw [hx] at y0 y1 y2 l0 l1 l2 hk0 hBE hOE;dsimp only at y0 y1 y2 l0 l1 l2 hOE;have hnn:=HN.o
     have HCR:Hd (Calls prog 14 #[.slice (some ⟨wr.heap.size+1,0,none⟩) 3 3] ((wr.alloc (.cells #[bs x0,bs x1,bs x2] 27)).alloc (.cells #[bs x0,bs x1,bs x2] 23)) fun e w'=>e= .returned (.int .i64 k0)∧Below ((wr.alloc (.cells #[bs x0,bs x1,bs x2] 27)).alloc (.cells #[bs x0,bs x1,bs x2] 23)).heap.size ((wr.alloc (.cells #[bs x0,bs x1,bs x2] 27)).alloc (.cells #[bs x0,bs x1,bs x2] 23)) w'):=qh (by
      have h:=Sv.three (wr.alloc (.cells #[bs x0,bs x1,bs x2] 27)) 23 x0 x1 x2;rw [World.size_alloc] at h
      exact jx1 h (by omega) (fun x hx=>by
       rcases List.mem_cons.1 hx with rfl|hx
       ·omega
       rcases List.mem_cons.1 hx with rfl|hx
       ·omega
       have:=List.mem_singleton.1 hx;subst this;omega) hk0)
     by_cases e0:k0=0
     ·subst e0;rw [if_pos rfl] at hBE;obtain ⟨z0,z1,z2⟩:=jwx hk0;have n0:=jjb z0;have n1:=jjb z1;have n2:=jjb z2;dsimp only at n0 n1 n2;obtain ⟨r,hr⟩:∃r,bdR (x0,x1,x2)=r:=⟨_,rfl⟩;have hr2:=hr;unfold bdR at hr2;dsimp only at hr2;obtain ⟨p,hp⟩:∃p,numQ x0=p:=⟨_,rfl⟩;obtain ⟨q,hq⟩:∃p,numQ x1=p:=⟨_,rfl⟩;obtain ⟨v,hv⟩:∃p,numQ x2=p:=⟨_,rfl⟩;rw [hp] at n0;rw [hq] at n1;rw [hv] at n2;rw [hp,hq,hv] at hr2;rw [hr] at hBE;have d0:=n0.dzl l0 (by omega);have d1:=n1.dzl l1 (by omega);have d2:=n2.dzl l2 (by omega);obtain ⟨e1,he1⟩:∃k,sgn p.num=k:=⟨_,rfl⟩;obtain ⟨e2,he2⟩:∃k,Rq.cmpQ q p=k:=⟨_,rfl⟩;obtain ⟨e3,he3⟩:∃k,Rq.cmpQ q 100=k:=⟨_,rfl⟩;obtain ⟨e4,he4⟩:∃k,sgn v.num=k:=⟨_,rfl⟩;obtain ⟨f1,hf1⟩:∃f,decide (p < 0)=f:=⟨_,rfl⟩;obtain ⟨f2,hf2⟩:∃f,decide (q≤p)=f:=⟨_,rfl⟩;obtain ⟨f3,hf3⟩:∃f,decide (100≤q)=f:=⟨_,rfl⟩;obtain ⟨f4,hf4⟩:∃f,decide (v < 0)=f:=⟨_,rfl⟩;have K1:decide (e1 < 0)=f1:=by rw [←hf1,←he1];exact jwz p
      have K2:decide (e2≤0)=f2:=by
       rw [←hf2,←he2,decide_eq_decide];exact ⟨fun h=>Rat.not_lt.1 fun h2=>by have:=Rq.cmp_pos.2 h2;omega,fun h=>Int.not_lt.1 fun h2=>Rat.not_lt.2 h (Rq.cmp_pos.1 h2)⟩
      have K3:decide (0≤e3)=f3:=by
       rw [←hf3,←he3,decide_eq_decide];exact ⟨fun h=>Rat.not_lt.1 fun h2=>by have:=Rq.cmp_neg.2 h2;omega,fun h=>Int.not_lt.1 fun h2=>Rat.not_lt.2 h (Rq.cmp_neg.1 h2)⟩
      have K4:decide (e4 < 0)=f4:=by rw [←hf4,←he4];exact jwz v
      have K5:(if f1 || f2 || f3 || f4 then (3:Int) else 0)=r:=by
       rw [←hf1,←hf2,←hf3,←hf4];by_cases h1:p < 0
       ·rw [show r=3 by rw [←hr2];exact if_pos (.inl h1),decide_eq_true h1];rfl
       by_cases h2:q≤p
       ·rw [show r=3 by rw [←hr2];exact if_pos (.inr (.inl h2)),decide_eq_true h2,Bool.or_true];rfl
       by_cases h3:100≤q
       ·rw [show r=3 by rw [←hr2];exact if_pos (.inr (.inr (.inl h3))),decide_eq_true h3];simp
       by_cases h4:v < 0
       ·rw [show r=3 by rw [←hr2];exact if_pos (.inr (.inr (.inr h4))),decide_eq_true h4];simp
       ·rw [show r=0 by rw [←hr2];exact if_neg (fun h=>h.elim h1 fun h=>h.elim h2 fun h=>h.elim h3 h4),decide_eq_false h1,decide_eq_false h2,decide_eq_false h3,decide_eq_false h4];rfl
      have HS1:=qh (fun W=>jqN (w:=W) he1 d0 (by omega) (by omega));have HCP:=qh (fun W=>jko (w:=W) he2 d1 d0 (by omega) (by omega) (by omega) (by omega));have HC1:=qh (fun W=>jko (w:=W) he3 d1 jc9 (by omega) (by omega) (by omega) (by omega));have HS4:=qh (fun W=>jqN (w:=W) he4 d2 (by omega) (by omega));rw [show tq (100:Rat)=[49,48,48] by decide+kernel,←n1.eq] at HC1;rw [←n0.eq] at HS1;rw [←n1.eq,←n0.eq] at HCP;rw [←n2.eq] at HS4;have HCC:=qh (show (if (if r=0 then bdO ls i else r)=0 then jar (bdE ls) ((List.range n).drop (i+1)) else (if r=0 then bdO ls i else r))=R by rw [←hBE];exact hc);have HPO:=qh hOE;clear hc hk0 hBE hr hr2 z0 z1 z2 n0 n1 n2 hp hq hv d0 d1 d2 he1 he2 he3 he4 hf1 hf2 hf3 hf4 l0 l1 l2 hmem hil hcell hOE;go_upto_region 10 with (go_at_call 14;(with_reducible refine mo0 (HCR.o) fun w1 hb1 hc1 hf1 _=> ?_))
      have g0:w1.cell? ⟨wr.heap.size,0,none⟩=some (bs x0):=by simp [go_sem,hc1]
      have g1:w1.cell? ⟨wr.heap.size,1,none⟩=some (bs x1):=by simp [go_sem,hc1]
      have g2:w1.cell? ⟨wr.heap.size,2,none⟩=some (bs x2):=by simp [go_sem,hc1]
      have gz:wr.heap.size < w1.heap.size:=World.block_lt_of_cell? w1 _ g0;have bW:Below wr.heap.size wr w1:=bi;have bX:=ja0 hb bW;have yprev:0 < i→w1.cell? ⟨b,o+(i - 1)*3+1,none⟩=some (bs pv):=fun h0=>ja9 bW (hPrev h0)
      obtain ⟨g,hg⟩:∃g,wr.heap.size=g:=⟨_,rfl⟩;rw [hg] at g0 g1 g2 gz ⊢;have _:Sl g w1.heap.size:=⟨gz⟩;have _:Sl b w1.heap.size:=⟨by first|go_size|omega⟩;have HYP:=qh yprev;clear hb1 hc1 hf1 HCR hPrev yprev;cases hbad:(f1 || f2 || f3 || f4)
      ·have hr0:r=0:=by rw [←K5,hbad];rfl
       obtain rfl:f1=false:=by cases f1 <;> simp_all
       obtain rfl:f2=false:=by cases f2 <;> simp_all
       obtain rfl:f3=false:=by cases f3 <;> simp_all
       obtain rfl:f4=false:=by cases f4 <;> simp_all
       subst hr0;have HCD:=qh (show (if bdO ls i=0 then jar (bdE ls) ((List.range n).drop (i+1)) else bdO ls i)=R from HCC.o);clear hbad K5 HCC;go_upto_region 12 with (first|((go_at_call 14;(with_reducible refine mo0 (HCR.o) fun w1 hb1 hc1 hf1 _=> ?_));(first|have y1_0:=szl (k:=g) hb1 (by first|go_size|fail)|have y1_0:=Nat.one_pos);(first|have y1_1:=szl (k:=b) hb1 (by first|go_size|fail)|have y1_1:=Nat.one_pos))|((go_at_call 30;(with_reducible show Calls _ _ #[bs x0] _ _);(with_reducible refine mo0 (HS1.o _) fun w2 hb2 hc2 hf2 _=> ?_));have y2_0:=zlt (g) hb2;have y2_1:=zlt (b) hb2)|((go_at_call 13;(with_reducible show Calls _ _ #[bs x1,bs x0] _ _);(with_reducible refine mo0 (HCP.o _) fun w3 hb3 hc3 hf3 _=> ?_));have y3_0:=zlt (g) hb3;have y3_1:=zlt (b) hb3)|((go_at_call 13;(with_reducible show Calls _ _ #[bs x1,bs [49,48,48]] _ _);(with_reducible refine mo0 (HC1.o _) fun w4 hb4 hc4 hf4 _=> ?_));have y4_0:=zlt (g) hb4;have y4_1:=zlt (b) hb4)|((go_at_call 30;(with_reducible show Calls _ _ #[bs x2] _ _);(with_reducible refine mo0 (HS4.o _) fun w5 hb5 hc5 hf5 _=> ?_));have y5_0:=zlt (g) hb5;have y5_1:=zlt (b) hb5))
       have b8:Below w1.heap.size w1 w5:=bi;have gg0:=ja9 b8 g0;have yp:0 < i→w5.cell? ⟨b,o+(i - 1)*3+1,none⟩=some (bs pv):=fun h0=>ja9 b8 (HYP.o h0)
       have b9:=ja0 bX b8;clear hb2 hb3 hb4 hb5 hc2 hc3 hc4 hc5 hf2 hf3 hf4 hf5 b8 HS1 HCP HC1 HS4 HYP g0 g1 g2;have hO:=HPO.o;by_cases hi0:0 < i
       ·have d0:decide ((0:Int) < (i:Int))=true:=by rw [decide_eq_true_iff];omega
        have yp:=yp hi0;have m1:wrap64 ((i:Int) - 1)=((i - 1:Nat):Int):=by unfold wrap64;omega
        have hi1:i - 1 < n:=by omega
        by_cases hx0:pv=x0
        ·subst hx0;rw [if_neg (fun h=>h.2 rfl)] at hO;have HN2:Hd (jar (bdE ls) ((List.range n).drop (i+1))=R):=qh (by have:=HCD.o;rw [hO] at this;exact this);clear hO HCD HPO
         go_quiet (fail)
         go_wp2;exact ⟨⟨i+1,by simp,ja0 b9 bi,hi,HN2.o⟩,by simp [intOf];omega⟩
        ·rw [if_pos ⟨hi0,hx0⟩] at hO;have hR:R=11:=by have:=HCD.o;rw [hO] at this;exact this.symm
         subst hR;have hx1:(x0==pv)=false:=by rw [beq_eq_false_iff_ne];exact fun h=>hx0 h.symm
         clear hO HCD HPO HR
         go_quiet (fail)
         go_wp2;go_ret;exact ⟨rfl,ja0 b9 bi⟩
       ·have d0:decide ((0:Int) < (i:Int))=false:=by rw [decide_eq_false_iff_not];omega
        rw [if_neg (fun h=>hi0 h.1)] at hO;have HN2:Hd (jar (bdE ls) ((List.range n).drop (i+1))=R):=qh (by have:=HCD.o;rw [hO] at this;exact this);clear hO HCD HPO
        go_quiet (fail)
        go_wp2;exact ⟨⟨i+1,by simp,ja0 b9 bi,hi,HN2.o⟩,by simp [intOf];omega⟩
      ·have hr3:r=3:=by rw [←K5,hbad];rfl
       have hR3:R=3:=by rw [←HCC.o,hr3];rfl
       subst hR3;clear HR HCC hr3 K5;cases f1 with
       | true=>
         clear hbad;go_upto_region 12 with (first|((go_at_call 14;(with_reducible refine mo0 (HCR.o) fun w1 hb1 hc1 hf1 _=> ?_));(first|have y1_0:=szl (k:=g) hb1 (by first|go_size|fail)|have y1_0:=Nat.one_pos);(first|have y1_1:=szl (k:=b) hb1 (by first|go_size|fail)|have y1_1:=Nat.one_pos))|((go_at_call 30;(with_reducible show Calls _ _ #[bs x0] _ _);(with_reducible refine mo0 (HS1.o _) fun w2 hb2 hc2 hf2 _=> ?_));have y2_0:=zlt (g) hb2;have y2_1:=zlt (b) hb2)|((go_at_call 13;(with_reducible show Calls _ _ #[bs x1,bs x0] _ _);(with_reducible refine mo0 (HCP.o _) fun w3 hb3 hc3 hf3 _=> ?_));have y3_0:=zlt (g) hb3;have y3_1:=zlt (b) hb3)|((go_at_call 13;(with_reducible show Calls _ _ #[bs x1,bs [49,48,48]] _ _);(with_reducible refine mo0 (HC1.o _) fun w4 hb4 hc4 hf4 _=> ?_));have y4_0:=zlt (g) hb4;have y4_1:=zlt (b) hb4)|((go_at_call 30;(with_reducible show Calls _ _ #[bs x2] _ _);(with_reducible refine mo0 (HS4.o _) fun w5 hb5 hc5 hf5 _=> ?_));have y5_0:=zlt (g) hb5;have y5_1:=zlt (b) hb5))
         go_quiet (fail)
         go_wp2;go_ret;exact ⟨rfl,ja0 bX bi⟩
       | false=>
         cases f2 with
         | true=>
           clear hbad;go_upto_region 12 with (first|((go_at_call 14;(with_reducible refine mo0 (HCR.o) fun w1 hb1 hc1 hf1 _=> ?_));(first|have y1_0:=szl (k:=g) hb1 (by first|go_size|fail)|have y1_0:=Nat.one_pos);(first|have y1_1:=szl (k:=b) hb1 (by first|go_size|fail)|have y1_1:=Nat.one_pos))|((go_at_call 30;(with_reducible show Calls _ _ #[bs x0] _ _);(with_reducible refine mo0 (HS1.o _) fun w2 hb2 hc2 hf2 _=> ?_));have y2_0:=zlt (g) hb2;have y2_1:=zlt (b) hb2)|((go_at_call 13;(with_reducible show Calls _ _ #[bs x1,bs x0] _ _);(with_reducible refine mo0 (HCP.o _) fun w3 hb3 hc3 hf3 _=> ?_));have y3_0:=zlt (g) hb3;have y3_1:=zlt (b) hb3)|((go_at_call 13;(with_reducible show Calls _ _ #[bs x1,bs [49,48,48]] _ _);(with_reducible refine mo0 (HC1.o _) fun w4 hb4 hc4 hf4 _=> ?_));have y4_0:=zlt (g) hb4;have y4_1:=zlt (b) hb4)|((go_at_call 30;(with_reducible show Calls _ _ #[bs x2] _ _);(with_reducible refine mo0 (HS4.o _) fun w5 hb5 hc5 hf5 _=> ?_));have y5_0:=zlt (g) hb5;have y5_1:=zlt (b) hb5))
           go_quiet (fail)
           go_wp2;go_ret;exact ⟨rfl,ja0 bX bi⟩
         | false=>
           cases f3 with
           | true=>
             clear hbad;go_upto_region 12 with (first|((go_at_call 14;(with_reducible refine mo0 (HCR.o) fun w1 hb1 hc1 hf1 _=> ?_));(first|have y1_0:=szl (k:=g) hb1 (by first|go_size|fail)|have y1_0:=Nat.one_pos);(first|have y1_1:=szl (k:=b) hb1 (by first|go_size|fail)|have y1_1:=Nat.one_pos))|((go_at_call 30;(with_reducible show Calls _ _ #[bs x0] _ _);(with_reducible refine mo0 (HS1.o _) fun w2 hb2 hc2 hf2 _=> ?_));have y2_0:=zlt (g) hb2;have y2_1:=zlt (b) hb2)|((go_at_call 13;(with_reducible show Calls _ _ #[bs x1,bs x0] _ _);(with_reducible refine mo0 (HCP.o _) fun w3 hb3 hc3 hf3 _=> ?_));have y3_0:=zlt (g) hb3;have y3_1:=zlt (b) hb3)|((go_at_call 13;(with_reducible show Calls _ _ #[bs x1,bs [49,48,48]] _ _);(with_reducible refine mo0 (HC1.o _) fun w4 hb4 hc4 hf4 _=> ?_));have y4_0:=zlt (g) hb4;have y4_1:=zlt (b) hb4)|((go_at_call 30;(with_reducible show Calls _ _ #[bs x2] _ _);(with_reducible refine mo0 (HS4.o _) fun w5 hb5 hc5 hf5 _=> ?_));have y5_0:=zlt (g) hb5;have y5_1:=zlt (b) hb5))
             go_quiet (fail)
             go_wp2;go_ret;exact ⟨rfl,ja0 bX bi⟩
           | false=>
             cases f4 with
             | true=>
               clear hbad;go_upto_region 12 with (first|((go_at_call 14;(with_reducible refine mo0 (HCR.o) fun w1 hb1 hc1 hf1 _=> ?_));(first|have y1_0:=szl (k:=g) hb1 (by first|go_size|fail)|have y1_0:=Nat.one_pos);(first|have y1_1:=szl (k:=b) hb1 (by first|go_size|fail)|have y1_1:=Nat.one_pos))|((go_at_call 30;(with_reducible show Calls _ _ #[bs x0] _ _);(with_reducible refine mo0 (HS1.o _) fun w2 hb2 hc2 hf2 _=> ?_));have y2_0:=zlt (g) hb2;have y2_1:=zlt (b) hb2)|((go_at_call 13;(with_reducible show Calls _ _ #[bs x1,bs x0] _ _);(with_reducible refine mo0 (HCP.o _) fun w3 hb3 hc3 hf3 _=> ?_));have y3_0:=zlt (g) hb3;have y3_1:=zlt (b) hb3)|((go_at_call 13;(with_reducible show Calls _ _ #[bs x1,bs [49,48,48]] _ _);(with_reducible refine mo0 (HC1.o _) fun w4 hb4 hc4 hf4 _=> ?_));have y4_0:=zlt (g) hb4;have y4_1:=zlt (b) hb4)|((go_at_call 30;(with_reducible show Calls _ _ #[bs x2] _ _);(with_reducible refine mo0 (HS4.o _) fun w5 hb5 hc5 hf5 _=> ?_));have y5_0:=zlt (g) hb5;have y5_1:=zlt (b) hb5))
               go_quiet (fail)
               go_wp2;go_ret;exact ⟨rfl,ja0 bX bi⟩
             | false=>exact absurd hbad (by decide)
     ·rw [if_neg e0] at hBE;rw [hBE,if_neg e0] at hc;subst hc;have q1:(k0==0)=false:=by rw [beq_eq_false_iff_ne];exact e0
      have q2:(k0 != 0)=true:=by rw [bne_iff_ne];exact e0
      clear HR e0 hBE hk0 hPrev hOE l0 l1 l2 hmem hil hcell;go_upto_region 12 with (go_at_call 14;(with_reducible refine mo0 (HCR.o) fun w1 hb1 hc1 hf1 _=> ?_))
      go_quiet (fail)
      go_wp2;go_ret;exact ⟨rfl,bi⟩
    ·have q0:decide (i < n)=false:=by simp;omega
     rw [List.drop_eq_nil_of_le (by rw [List.length_range];omega)] at hc;have hR:R=0:=by rw [←hc];rfl
     subst hR;clear hc hi HR;go_wp2;go_ret;exact ⟨rfl,hb⟩
end

noncomputable def enT (mass:Int) (x y:Rat) (b:Bd):Rat:=if jwy y (numQ b.1) < jwr x (numQ b.2.1) then ((mass:Rat)*(100 - x) / (100 - jwr x (numQ b.2.1)) - (mass:Rat)*(100 - x) / (100 - jwy y (numQ b.1)))*numQ b.2.2 else 0
noncomputable def enS (mass:Int) (x y:Rat) (ls:List Bd):Nat→Rat
 | 0=>0
 | i+1=>enS mass x y ls i+enT mass x y (ls.getD i ([],[],[]))
noncomputable def jwB (ls:List Bd) (x y:Rat):Int:=if numQ (ls.getD (ls.length - 1) ([],[],[])).2.1 < x∨y < numQ (ls.getD 0 ([],[],[])).1 then 3 else 0
theorem jx6 {k m:Nat} {x y:Rat} (hx:Dz k x) (hy:Dz m y):Dz (k+m) (jwr x y):=by
 unfold jwr;split
 ·exact hy.mono (Nat.le_add_left m k)
 ·exact hx.mono (Nat.le_add_right k m)
theorem jx7 {k m:Nat} {x y:Rat} (hx:Dz k x) (hy:Dz m y):Dz (k+m) (jwy x y):=by
 unfold jwy;split
 ·exact hy.mono (Nat.le_add_left m k)
 ·exact hx.mono (Nat.le_add_right k m)
structure BdOk (k:Nat) (b:Bd) (p q v:Rat):Prop where
 e0:b.1=tq p
 e1:b.2.1=tq q
 e2:b.2.2=tq v
 n0:numQ b.1=p
 n1:numQ b.2.1=q
 n2:numQ b.2.2=v
 d0:Dz k p
 d1:Dz k q
 d2:Dz k v
 p0:0≤p
 pq:p < q
 q1:q < 100
 v0:0≤v
theorem jxB {k i:Nat} {ls:List Bd} (h:bdE ls i=0) (hl:(ls.getD i ([],[],[])).1.length≤k∧(ls.getD i ([],[],[])).2.1.length≤k∧(ls.getD i ([],[],[])).2.2.length≤k) (hk:0 < k):BdOk k (ls.getD i ([],[],[])) (numQ (ls.getD i ([],[],[])).1) (numQ (ls.getD i ([],[],[])).2.1) (numQ (ls.getD i ([],[],[])).2.2):=by
 unfold bdE at h;obtain ⟨b,hb⟩:∃b,ls.getD i ([],[],[])=b:=⟨_,rfl⟩;rw [hb] at h hl ⊢;by_cases h0:bdC b=0
 ·rw [if_pos h0] at h;obtain ⟨z0,z1,z2⟩:=jwx h0;have n0:=jjb z0;have n1:=jjb z1;have n2:=jjb z2;by_cases h1:bdR b=0
  ·unfold bdR at h1;have h2:¬(numQ b.1 < 0∨numQ b.2.1≤numQ b.1∨100≤numQ b.2.1∨numQ b.2.2 < 0):=fun e=>by rw [if_pos e] at h1;cases h1
   refine ⟨n0.eq,n1.eq,n2.eq,rfl,rfl,rfl,n0.dzl hl.1 hk,n1.dzl hl.2.1 hk,n2.dzl hl.2.2 hk, ?_, ?_, ?_, ?_⟩
   ·exact Rat.not_lt.1 fun e=>h2 (.inl e)
   ·exact Rat.not_le.1 fun e=>h2 (.inr (.inl e))
   ·exact Rat.not_le.1 fun e=>h2 (.inr (.inr (.inl e)))
   ·exact Rat.not_lt.1 fun e=>h2 (.inr (.inr (.inr e)))
  ·rw [if_neg h1] at h;exact absurd h h1
 ·rw [if_neg h0] at h;exact absurd h h0
section
variable {w:World} {A:Option Addr} {n c:Nat} {ls:List Bd} {x y:Rat} {k:Nat}
theorem jwD {R:Int} (h:Bv w A n ls) (h0:0 < n) (hn:n≤100000) (hB:∀i,i < n→BdOk k (ls.getD i ([],[],[])) (numQ (ls.getD i ([],[],[])).1) (numQ (ls.getD i ([],[],[])).2.1) (numQ (ls.getD i ([],[],[])).2.2)) (hx:Dz k x) (hy:Dz k y) (hk:0 < k) (hk2:k≤1000) (hR:jwB ls x y=R):
  Calls prog 7 #[.slice A n c,bs (tq x),bs (tq y)] w fun e w'=>e= .returned (.int .i64 R)∧Below w.heap.size w w':=by
 obtain ⟨b,o,rfl,hbl,hcell⟩:=h.at_ h0;have c1:=(hcell (n - 1) (by omega)).2.1;have c2:=(hcell 0 h0).1;have o1:=hB (n - 1) (by omega);have o2:=hB 0 h0;have hlen:=h.len;unfold jwB at hR;rw [hlen] at hR;obtain ⟨q,hq⟩:∃q,numQ (ls.getD (n - 1) ([],[],[])).2.1=q:=⟨_,rfl⟩;obtain ⟨p,hp⟩:∃q,numQ (ls.getD 0 ([],[],[])).1=q:=⟨_,rfl⟩;have d1:=o1.d1;have d2:=o2.d0;rw [o1.e1] at c1;rw [o2.e0] at c2;rw [hq] at d1 hR c1;rw [hp] at d2 hR c2;rw [show o+0*3=o by omega] at c2;obtain ⟨j1,hj1⟩:∃j,Rq.cmpQ x q=j:=⟨_,rfl⟩;obtain ⟨j2,hj2⟩:∃j,Rq.cmpQ y p=j:=⟨_,rfl⟩;have HJ1:=qh (fun W=>jko (w:=W) hj1 hx d1 hk hk (by omega) (by omega));have HJ2:=qh (fun W=>jko (w:=W) hj2 hy d2 hk hk (by omega) (by omega));have m1:wrap64 ((n:Int) - 1)=((n - 1:Nat):Int):=by unfold wrap64;omega
 have hi1:n - 1 < n:=by omega
 obtain ⟨X,hX⟩:∃X,tq x=X:=⟨_,rfl⟩;obtain ⟨Y,hY⟩:∃X,tq y=X:=⟨_,rfl⟩;obtain ⟨Q,hQ⟩:∃X,tq q=X:=⟨_,rfl⟩;obtain ⟨P,hP⟩:∃X,tq p=X:=⟨_,rfl⟩;rw [hX,hQ] at HJ1;rw [hY,hP] at HJ2;rw [hQ] at c1;rw [hP] at c2;rw [hX,hY];by_cases g1:q < x
 ·rw [if_pos (.inl g1)] at hR;subst hR;have q1:decide (0 < j1)=true:=by rw [decide_eq_true_iff,←hj1];exact Rq.cmp_pos.2 g1
  clear h hB o1 o2 hcell hlen hx hy d1 d2 hj1 hj2 hX hY hQ hP hq hp g1;go_enter func7,ntmps7;go_wp2_with (go_at_call 13;(with_reducible refine mo0 (HJ1.o _) fun w1 hb1 hc1 hf1 _=> ?_))
  go_ret;exact ⟨rfl,bi⟩
 ·have q1:decide (0 < j1)=false:=by rw [decide_eq_false_iff_not,←hj1];exact fun e=>g1 (Rq.cmp_pos.1 e)
  by_cases g2:y < p
  ·rw [if_pos (.inr g2)] at hR;subst hR;have q2:decide (j2 < 0)=true:=by rw [decide_eq_true_iff,←hj2];exact Rq.cmp_neg.2 g2
   clear h hB o1 o2 hcell hlen hx hy d1 d2 hj1 hj2 hX hY hQ hP hq hp g1 g2;go_enter func7,ntmps7;go_wp2_with (first|(go_at_call 13;(with_reducible show Calls _ _ #[bs X,bs Q] _ _);(with_reducible refine mo0 (HJ1.o _) fun w1 hb1 hc1 hf1 _=> ?_))|(go_at_call 13;(with_reducible refine mo0 (HJ2.o _) fun w2 hb2 hc2 hf2 _=> ?_)))
   go_ret;exact ⟨rfl,bi⟩
  ·rw [if_neg (fun e=>e.elim g1 g2)] at hR;subst hR;have q2:decide (j2 < 0)=false:=by rw [decide_eq_false_iff_not,←hj2];exact fun e=>g2 (Rq.cmp_neg.1 e)
   clear h hB o1 o2 hcell hlen hx hy d1 d2 hj1 hj2 hX hY hQ hP hq hp g1 g2;go_enter func7,ntmps7;go_wp2_with (first|(go_at_call 13;(with_reducible show Calls _ _ #[bs X,bs Q] _ _);(with_reducible refine mo0 (HJ1.o _) fun w1 hb1 hc1 hf1 _=> ?_))|(go_at_call 13;(with_reducible refine mo0 (HJ2.o _) fun w2 hb2 hc2 hf2 _=> ?_)))
   go_ret;exact ⟨rfl,bi⟩
end

section
variable {w:World} {A:Option Addr} {n c:Nat} {ls:List Bd} {x y:Rat} {mass:Int}
theorem jwM (x y:Rat):jwr x y≤x:=by unfold jwr;split <;> grind
end

section
variable {w:World} {A:Option Addr} {n c:Nat} {ls:List Bd} {a t:List UInt8} {mass:Int}
end

section
variable {w:World} {A:Option Addr} {n c:Nat} {ls:List Bd} {a t:List UInt8} {mass:Int}
end
end Go.Proofs.YtdjppepcckedkaaGreatDoor
