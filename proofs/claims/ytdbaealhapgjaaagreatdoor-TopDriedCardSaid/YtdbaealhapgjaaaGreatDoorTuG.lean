/- Parts. -/
import Derived.Test.YtdbaealhapgjaaaGreatDoorThG
set_option linter.all false
set_option maxRecDepth 100000
set_option maxHeartbeats 8000000
namespace Go.Proofs.YtdbaealhapgjaaaGreatDoor
open Go Go.RowKit Go.Proofs.Tryz

noncomputable def jDz (ls:List Lay):Int:=if 64 < ls.length then 5 else if jar jyQ ls≠0 then jar jyQ ls else if 999999999 < jzq ls then 4 else 0
def jDs (ls:List Lay):Bool:=ls.all fun x=>x.grain==(ls.getD 0 jyL).grain
section
variable {w:World} {A:Option Addr} {n c d:Nat} {ls:List Lay}
theorem jCj {s:Int} (hv:Lv w A n ls) (hn:n≤1000) (hm:∀x∈ls,0≤x.mass∧x.mass≤999999999) (hs:jzq ls=s):Calls prog 8 #[.slice A n c] w fun e w'=>e= .returned (.int .i64 s)∧Below w.heap.size w w':=by
 have HV:=qh hv;have HN:=qh hn;have HM:=qh hm;have HS:=qh hs;clear hv hn hm hs;go_enter func8,ntmps8;go_wp2
 go_loopw [3,4] (fun v u wr=>∃(i:Nat) (t:Int),v= .int .i64 t∧u= .int .i64 (i:Int)∧Below w.heap.size w wr∧i≤n∧jzq (ls.take i)=t) (fun _ u _=>n - (intOf u).toNat)
 case atStart=>exact ⟨0,0,rfl,rfl,bi,Nat.zero_le _,by simp [jzq]⟩
 case round=>
  obtain ⟨i,t,rfl,rfl,hb,hin,hc⟩:=hrel;have _:=bm hb;have hnn:=HN.o;by_cases hi:i < n
  ·have p0:decide (i < n)=true:=by simpa using hi
   have hil:i < ls.length:=by rw [HV.o.len];exact hi
   obtain ⟨b,o,rfl,hbl,hat⟩:=(HV.o.below hb).at_ (by omega);obtain ⟨B,d,k0,k1,k2,_⟩:=(hat i hi).at_;have hmm:=jzH hil;have hp:=jAQ (i:=i) HM.o;have hm1:=HM.o (ls.getD i jyL) (by rw [List.getD_eq_getElem?_getD,List.getElem?_eq_getElem hil];exact List.getElem_mem hil);obtain ⟨x2,hx⟩:∃x,(ls.getD i jyL).mass=x:=⟨_,rfl⟩;rw [hx] at k1 hmm hm1;rw [hc] at hmm hp;have hw:wrap64 (t+x2)=t+x2:=by unfold wrap64;omega
   have HI:=qh hi;have HC:=qh hmm;clear hat hx hil hmm hp hm1 hc k0 k2;go_wp2;exact ⟨⟨i+1,t+x2,by simp [hw],by simp,bi,HI.o,HC.o⟩,by have:=HI.o;simp [intOf];omega⟩
  ·have p0:decide (i < n)=false:=by simp;omega
   rw [List.take_of_length_le (by rw [HV.o.len];omega),HS.o] at hc;subst hc;go_wp2;go_ret;exact ⟨rfl,bi⟩
theorem jD6 {r:Bool} (hv:Lv w A n ls) (hn:n≤1000) (hr:jDs ls=r):Calls prog 31 #[.slice A n c] w fun e w'=>e= .returned (.bool r)∧Below w.heap.size w w':=by
 have HV:=qh hv;have HN:=qh hn;obtain ⟨g,hg⟩:∃g,(ls.getD 0 jyL).grain=g:=⟨_,rfl⟩;unfold jDs at hr;rw [hg] at hr;have HG:=qh hg
 have HR:Hd ((ls.drop 1).all (fun x=>x.grain==g)=r):=qh (by
  rw [←hr];cases ls with
  | nil=>rfl
  | cons x t=>rw [List.drop_succ_cons,List.drop_zero,List.all_cons,←hg];simp)
 clear hv hn hr hg;go_enter func31,ntmps31;go_wp2
 go_loopw [3] (fun u wr=>∃(i:Nat),u= .int .i64 (i:Int)∧1≤i∧(i≤n∨i=1)∧Below w.heap.size w wr∧(ls.drop i).all (fun x=>x.grain==g)=r) (fun u _=>n - (intOf u).toNat)
 case atStart=>exact ⟨1,rfl,by omega,by omega,bi,HR.o⟩
 case round=>
  obtain ⟨i,rfl,hi1,hin,hb,hc⟩:=hrel;have _:=bm hb;have hnn:=HN.o;by_cases hi:i < n
  ·have p0:decide (i < n)=true:=by simpa using hi
   have hil:i < ls.length:=by rw [HV.o.len];exact hi
   obtain ⟨b,o,rfl,hbl,hat⟩:=(HV.o.below hb).at_ (by omega);obtain ⟨B,d,k0,_⟩:=(hat i hi).at_;obtain ⟨B',d',j0,_⟩:=(hat 0 (by omega)).at_;rw [HG.o,Nat.zero_mul,Nat.add_zero] at j0;rw [jd5 (d:=jyL) hil,List.all_cons] at hc;obtain ⟨x1,hx⟩:∃x,(ls.getD i jyL).grain=x:=⟨_,rfl⟩;rw [hx] at k0 hc;have z2:0 < n:=by omega
   have hneg:(x1 != g)= !(x1==g):=rfl;obtain ⟨f,hf⟩:∃f,(x1==g)=f:=⟨_,rfl⟩;rw [hf] at hneg hc;have HI:=qh (ai hi hi1);clear hat hx hil;cases f with
   | true=>
     have HC:Hd ((ls.drop (i+1)).all (fun x=>x.grain==g)=r):=qh (by rw [←hc];rfl);clear hc;go_upto_region 4 with (fail)
     refine ja1 (fun w'=>Below wr.heap.size wr w') [] (by kernel_rfl) ?_;refine tl [(0,[], .slice (some ⟨b,o,none⟩) n c),(1,[], .int .i64 (i:Int)),(2,[], .pointer (some ⟨b,o+i*3,none⟩)),(3,[], .pointer (some ⟨b,o+i*3,none⟩)),(4,[],bs x1),(5,[], .slice (some ⟨b,o,none⟩) n c),(6,[], .pointer (some ⟨b,o,none⟩)),(7,[], .pointer (some ⟨b,o,none⟩))] [_,_,_,_,_,_,_,_] rfl (by kernel_rfl) pk5 (by intros;simp only [tyq,ppq];go_simp) bq0 ?_;simp only [tlq,ppq];refine tb 8 (bs g) [] rfl (by kernel_rfl) pk rfl (by intros;go_simp) bq0 ?_;simp only [ppq];refine rd1 9 (by kernel_rfl) rfl (fun K hK=> ?_);go_simp;refine hK.out _ _ (fun _=>bi) ?_;clear hK K;refine ja2 (by kernel_rfl) ?_ _;go_wp2;exact ⟨⟨i+1,by simp,by omega,by have:=HI.o.1;omega,bi,HC.o⟩,by have:=HI.o.1;simp [intOf];omega⟩
   | false=>
     have hR:r=false:=by rw [←hc];rfl
     subst hR;clear hc HR;go_upto_region 4 with (fail)
     refine ja1 (fun w'=>Below wr.heap.size wr w') [] (by kernel_rfl) ?_;refine tl [(0,[], .slice (some ⟨b,o,none⟩) n c),(1,[], .int .i64 (i:Int)),(2,[], .pointer (some ⟨b,o+i*3,none⟩)),(3,[], .pointer (some ⟨b,o+i*3,none⟩)),(4,[],bs x1),(5,[], .slice (some ⟨b,o,none⟩) n c),(6,[], .pointer (some ⟨b,o,none⟩)),(7,[], .pointer (some ⟨b,o,none⟩))] [_,_,_,_,_,_,_,_] rfl (by kernel_rfl) pk5 (by intros;simp only [tyq,ppq];go_simp) bq0 ?_;simp only [tlq,ppq];refine tb 8 (bs g) [] rfl (by kernel_rfl) pk rfl (by intros;go_simp) bq0 ?_;simp only [ppq];refine rd1 9 (by kernel_rfl) rfl (fun K hK=> ?_);go_simp;refine hK.out _ _ (fun _=>bi) ?_;clear hK K;refine ja2 (by kernel_rfl) ?_ _;go_wp2;go_ret;exact ⟨rfl,bi⟩
  ·have p0:decide (i < n)=false:=by simp;omega
   rw [List.drop_eq_nil_of_le (by rw [HV.o.len];omega)] at hc;have hR:r=true:=hc.symm;subst hR;go_wp2;go_ret;exact ⟨rfl,bi⟩
theorem jD3 {r:Int} (hv:Lv w A n ls) (hn:n≤64) (hd:d≤130) (hd0:0 < d) (hl:∀x∈ls,∀p∈x.shares,p.2.length≤d) (hr:jDz ls=r):Calls prog 30 #[.slice A n c] w fun e w'=>e= .returned (.int .i64 r)∧Below w.heap.size w w':=by
 have HV:=qh hv;have HN:=qh hn;have hlen:=hv.len;unfold jDz at hr;rw [if_neg (by omega)] at hr;have HL:=qh (ai hd (ai hd0 hl));have q0:decide ((64:Int) < (n:Int))=false:=by rw [decide_eq_false_iff_not];omega
 have HR:=qh hr;have HM:=qh (fun (h0:jar jyQ ls=0) W (hb:Below w.heap.size w W) s (hs:jzq ls=s)=>jCj (c:=c) (hv.below hb) (by omega) (fun x hx=>by have:=jyJ (jyH h0 x hx);omega) hs);clear hv hn hr hd hd0 hl hlen;go_enter func30,ntmps30;go_wp2
 go_loopw [3] (fun u wr=>∃(i:Nat),u= .int .i64 (i:Int)∧i≤n∧Below w.heap.size w wr∧jar jyQ (ls.drop i)=jar jyQ ls) (fun u _=>n - (intOf u).toNat)
 case atStart=>exact ⟨0,rfl,Nat.zero_le _,bi,by rw [List.drop_zero]⟩
 case round=>
  obtain ⟨i,rfl,hin,hb,hc⟩:=hrel;have _:=bm hb;have hnn:=HN.o;by_cases hi:i < n
  ·have p0:decide (i < n)=true:=by simpa using hi
   have hil:i < ls.length:=by rw [HV.o.len];exact hi
   have hmem:ls.getD i jyL∈ls:=by rw [List.getD_eq_getElem?_getD,List.getElem?_eq_getElem hil];exact List.getElem_mem hil
   obtain ⟨b,o,rfl,hbl,hat⟩:=(HV.o.below hb).at_ (by omega);obtain ⟨B,d',k0,k1,k2,kp⟩:=(hat i hi).at_;rw [jd5 (d:=jyL) hil] at hc;have hls:=HL.o.2.2 _ hmem;obtain ⟨⟨x1,x2,x3⟩,hx⟩:∃x,ls.getD i jyL=x:=⟨_,rfl⟩;rw [hx] at k0 k1 k2 kp hc hls;dsimp only at k0 k1 k2 kp hls;obtain ⟨t,ht⟩:∃t,jyQ ⟨x1,x2,x3⟩=t:=⟨_,rfl⟩;have HX:=qh (fun W (hW:Below wr.heap.size wr W)=>jD5 (c:=d') ht (kp.below hW) HL.o.1 HL.o.2.1 hls);have HI:=qh hi;obtain ⟨l3,hl3⟩:∃l,x3.length=l:=⟨_,rfl⟩;rw [hl3] at k2 HX;by_cases h0:t=0
   ·subst h0;have HC:=qh ((jf3 ht).symm.trans hc);clear hat hmem hx hil hl3 hc kp hls ht hi;go_wp2_with (go_at_call 88;(with_reducible refine mo0 (HX.o _ bi) fun w1 hb1 hc1 hf1 _=> ?_))
    exact ⟨⟨i+1,by simp,HI.o,bi,HC.o⟩,by have:=HI.o;simp [intOf];omega⟩
   ·have hk:jar jyQ ls=t:=by rw [←hc,jed (by rw [ht];exact h0),ht]
    have hr:=HR.o;rw [if_pos (by rw [hk];exact h0),hk] at hr;subst hr;have q1:(t != 0)=true:=by rw [bne_iff_ne];exact h0
    clear hat hmem hx hil hl3 hc kp hls ht hi h0 hk HR;go_wp2_with (go_at_call 88;(with_reducible refine mo0 (HX.o _ bi) fun w1 hb1 hc1 hf1 _=> ?_))
    go_ret;exact ⟨rfl,bi⟩
  ·have p0:decide (i < n)=false:=by simp;omega
   rw [List.drop_eq_nil_of_le (by rw [HV.o.len];omega)] at hc;have h0:jar jyQ ls=0:=hc.symm;have hr:=HR.o;rw [if_neg (by simpa using h0)] at hr;obtain ⟨s,hs⟩:∃s,jzq ls=s:=⟨_,rfl⟩;rw [hs] at hr;have HMS:=qh (fun W (hb:Below w.heap.size w W)=>HM.o h0 W hb s hs);by_cases h1:999999999 < s
   ·rw [if_pos h1] at hr;subst hr;have q1:decide ((999999999:Int) < s)=true:=by rw [decide_eq_true_iff];exact h1
    clear h1 hi hs hc h0 HR;go_wp2_with (go_at_call 8;(with_reducible refine mo0 (HMS.o _ bi) fun w1 hb1 hc1 hf1 _=> ?_))
    go_ret;exact ⟨rfl,bi⟩
   ·rw [if_neg h1] at hr;subst hr;have q1:decide ((999999999:Int) < s)=false:=by rw [decide_eq_false_iff_not];exact h1
    clear h1 hi hs hc h0 HR;go_wp2_with (go_at_call 8;(with_reducible refine mo0 (HMS.o _ bi) fun w1 hb1 hc1 hf1 _=> ?_))
    go_ret;exact ⟨rfl,bi⟩
end

def okL (x:Lay):Bool:=x.shares.all fun s=>decide (x.shares.length≤8) && decide (s.2.length≤14)
noncomputable def jCr (ls:List Lay):Bool:=decide (0 < ls.length) && decide (ls.length≤6) && ls.all okL && (jDz ls==0) && jDs ls
section
variable {w:World} {A:Option Addr} {n c:Nat} {ls:List Lay}
theorem jCl {R:Bool} (hv:Lv w A n ls) (hr:jCr ls=R):Calls prog 6 #[.slice A n c] w fun e w'=>e= .returned (.bool R)∧Below w.heap.size w w':=by
 have hlen:=hv.len;unfold jCr at hr;rw [hlen] at hr;by_cases h0:n=0
 ·subst h0;have hR:R=false:=by rw [←hr];simp
  subst hR;clear hr hv hlen;go_enter func6,ntmps6;go_wp2;go_ret;exact ⟨rfl,bi⟩
 have q0:((n:Int)==0)=false:=by rw [beq_eq_false_iff_ne];omega
 by_cases h6:6 < n
 ·have q1:decide ((6:Int) < (n:Int))=true:=by rw [decide_eq_true_iff];omega
  have hR:R=false:=by rw [←hr,decide_eq_false (show ¬n≤6 by omega)];simp
  subst hR;clear hr hv hlen h0 h6;go_enter func6,ntmps6;go_wp2;go_ret;exact ⟨rfl,bi⟩
 have q1:decide ((6:Int) < (n:Int))=false:=by rw [decide_eq_false_iff_not];omega
 rw [decide_eq_true (show 0 < n by omega),decide_eq_true (show n≤6 by omega),Bool.true_and,Bool.true_and] at hr;obtain ⟨B0,hB0⟩:∃b,ls.all okL=b:=⟨_,rfl⟩;rw [hB0] at hr;have HV:=qh hv;have HN:=qh (ai h0 h6);have HB0:=qh hB0;have HR:=qh hr;obtain ⟨k,hk⟩:∃k,jDz ls=k:=⟨_,rfl⟩;obtain ⟨g,hg⟩:∃k,jDs ls=k:=⟨_,rfl⟩
 have HC:=qh (fun (h:B0=true) W (hb:Below w.heap.size w W)=>jD3 (c:=c) (d:=14) (hv.below hb) (by omega) (by omega) (by omega) (fun x hx p hp=>by
  have h1:=List.all_eq_true.1 (hB0.trans h) x hx;have h2:=List.all_eq_true.1 h1 p hp;simp only [Bool.and_eq_true,decide_eq_true_eq] at h2
  exact h2.2) hk)
 have HG:=qh (fun W (hb:Below w.heap.size w W)=>jD6 (c:=c) (hv.below hb) (by omega) hg);rw [hk,hg] at hr;have HRR:=qh hr;clear hv hr h0 h6 hB0 hk hg hlen HR;go_enter func6,ntmps6;go_wp2
 go_loopw [17] (fun u wr=>∃(i:Nat),u= .int .i64 (i:Int)∧i≤n∧Below w.heap.size w wr∧(ls.drop i).all okL=B0) (fun u _=>n - (intOf u).toNat)
 case atStart=>exact ⟨0,rfl,Nat.zero_le _,bi,HB0.o⟩
 case round=>
  obtain ⟨i,rfl,hin,hb,hc⟩:=hrel;have _:=bm hb;have hnn:=HN.o;by_cases hi:i < n
  ·have p0:decide (i < n)=true:=by simpa using hi
   have hil:i < ls.length:=by rw [HV.o.len];exact hi
   obtain ⟨b,o,rfl,hbl,hat⟩:=(HV.o.below hb).at_ (by omega);obtain ⟨B,d,k0,k1,k2,kp⟩:=(hat i hi).at_;rw [jd5 (d:=jyL) hil,List.all_cons] at hc;obtain ⟨⟨x1,x2,x3⟩,hx⟩:∃x,ls.getD i jyL=x:=⟨_,rfl⟩;rw [hx] at k0 k1 k2 kp hc;dsimp only at k0 k1 k2 kp;have HKP:=qh kp;obtain ⟨l,hl⟩:∃l,x3.length=l:=⟨_,rfl⟩;rw [hl] at k2 HKP;have HI:=qh hi;have HL:=qh hl;unfold okL at hc;dsimp only at hc;rw [hl] at hc;obtain ⟨F,hF⟩:∃F,x3.all (fun s=>decide (l≤8) && decide (s.2.length≤14))=F:=⟨_,rfl⟩;rw [hF] at hc;have HCC:=qh hc;have HF:=qh hF;clear hat hil hx hl hc kp hF hi;go_wp2;obtain ⟨B8,hB8⟩:∃x,wr.heap.size=x:=⟨_,rfl⟩;have s8:(wr.alloc (.cells #[bs x1, .int .i64 x2, .slice B l d] 37)).cell? ⟨B8,2,none⟩=some (.slice B l d):=by rw [←hB8];simp
   have z8:(wr.alloc (.cells #[bs x1, .int .i64 x2, .slice B l d] 37)).heap.size=B8+1:=by rw [World.size_alloc,hB8]
   have b8:Below wr.heap.size wr (wr.alloc (.cells #[bs x1, .int .i64 x2, .slice B l d] 37)):=bi;have B8':=qh (ai b8 (HKP.o.below b8));simp only [hB8]
   go_loopw [24] (fun u wx=>∃(k:Nat),u= .int .i64 (k:Int)∧k≤l∧Below wr.heap.size wr wx∧B8 < wx.heap.size∧wx.cell? ⟨B8,2,none⟩=some (.slice B l d)∧(x3.drop k).all (fun s=>decide (l≤8) && decide (s.2.length≤14))=F) (fun u _=>l - (intOf u).toNat)
   case atStart=>exact ⟨0,rfl,Nat.zero_le _,B8'.o.1,by rw [z8];omega,s8,HF.o⟩
   case round=>
    rename World=>wo
    obtain ⟨j,rfl,hjl,hb2,hsz2,t8,hc⟩:=hrel;have _:=bm hb2;have hbw:=ja0 hb hb2;have hkp:=HKP.o.below hb2;clear s8 z8 b8 B8' k0 k1 k2 hbl;by_cases hj:j < l
    ·have p1:decide (j < l)=true:=by simpa using hj
     have hjx:j < x3.length:=by rw [HL.o];exact hj
     obtain ⟨b',o',rfl,hbl',hcell⟩:=hkp.at_ (by omega);obtain ⟨hx,hy⟩:=hcell j hj;rw [jd5 (d:=([],[])) hjx,List.all_cons] at hc;obtain ⟨⟨y1,y2⟩,hyy⟩:∃x,x3.getD j ([],[])=x:=⟨_,rfl⟩;rw [hyy] at hx hy hc;dsimp only at hx hy hc;obtain ⟨m,hm⟩:∃m,y2.length=m:=⟨_,rfl⟩;rw [hm] at hc;have HJ:=qh hj;have HCI:=qh hc;clear hcell hyy hjx hc hkp hj
     have bad:(decide (l≤8) && decide (m≤14))=false→R=false:=fun h=>by
      have e1:=HCI.o;rw [h,Bool.false_and] at e1;have e2:=HCC.o;rw [←e1,Bool.false_and] at e2;have e3:=HRR.o;rw [←e2,Bool.false_and,Bool.false_and] at e3;exact e3.symm
     by_cases h8:8 < l
     ·have q8:decide ((8:Int) < (l:Int))=true:=by rw [decide_eq_true_iff];omega
      obtain rfl:=bad (by rw [decide_eq_false (show ¬l≤8 by omega)];rfl);clear h8 bad;go_wp2;go_ret;exact ⟨rfl,ja0 hbw bi⟩
     ·have q8:decide ((8:Int) < (l:Int))=false:=by rw [decide_eq_false_iff_not];omega
      by_cases h14:14 < m
      ·have q9:decide ((14:Int) < (m:Int))=true:=by rw [decide_eq_true_iff];omega
       obtain rfl:=bad (by rw [decide_eq_false (show ¬m≤14 by omega)];simp);clear h8 h14 bad;go_wp2;go_ret;exact ⟨rfl,ja0 hbw bi⟩
      ·have q9:decide ((14:Int) < (m:Int))=false:=by rw [decide_eq_false_iff_not];omega
       have HCN:=qh (show (x3.drop (j+1)).all (fun s=>decide (l≤8) && decide (s.2.length≤14))=F by
        have e1:=HCI.o;rw [decide_eq_true (show l≤8 by omega),decide_eq_true (show m≤14 by omega),Bool.and_self,Bool.true_and] at e1
        rw [←e1,decide_eq_true (show l≤8 by omega)])
       have hl8:l≤8:=by omega
       have hjl2:=HJ.o;clear h8 h14 bad;go_wp2;exact ⟨⟨j+1,by simp,HJ.o,ja0 hb2 bi,by simp;omega,by simp [go_sem,t8,hsz2],HCN.o⟩,by have:=HJ.o;simp [intOf];omega⟩
    ·have p1:decide (j < l)=false:=by simp;omega
     rw [List.drop_eq_nil_of_le (by rw [HL.o];omega)] at hc;have hF:F=true:=hc.symm;have HCN:=qh (show (ls.drop (i+1)).all okL=B0 by have e:=HCC.o;rw [hF,Bool.true_and] at e;exact e);clear hc hF hkp hj;go_wp2
     go_roundw
     case rel=>exact ⟨i+1,by simp,HI.o,hbw,HCN.o⟩
     case measure=>have:=HI.o;simp [intOf];omega
  ·have p0:decide (i < n)=false:=by simp;omega
   rw [List.drop_eq_nil_of_le (by rw [HV.o.len];omega)] at hc;have hB:B0=true:=hc.symm;subst hB;have HCK:=qh (fun W (hb:Below w.heap.size w W)=>HC.o rfl W hb);have hr:=HRR.o;rw [Bool.true_and] at hr;by_cases h0:k=0
   ·subst h0;have hR:g=R:=by rw [←hr];simp
    subst hR;clear hr hc hi HRR;go_wp2_with (first|(go_at_call 30;(with_reducible refine mo0 (HCK.o _ bi) fun w1 hb1 hc1 hf1 _=> ?_))|(go_at_call 31;(with_reducible refine mo0 (HG.o _ bi) fun w2 hb2 hc2 hf2 _=> ?_)))
    go_ret;exact ⟨rfl,bi⟩
   ·have q2:(k==0)=false:=by rw [beq_eq_false_iff_ne];exact h0
    have hR:R=false:=by rw [←hr,q2];rfl
    subst hR;clear hr hc hi HRR h0;go_wp2_with (first|(go_at_call 30;(with_reducible refine mo0 (HCK.o _ bi) fun w1 hb1 hc1 hf1 _=> ?_))|(go_at_call 31;(with_reducible refine mo0 (HG.o _ bi) fun w2 hb2 hc2 hf2 _=> ?_)))
    go_ret;exact ⟨rfl,bi⟩
end
end Go.Proofs.YtdbaealhapgjaaaGreatDoor
