/- Parts. -/
import Derived.Test.YteokfcjdfjhhhaaGreatDoorLfG
set_option linter.all false
set_option maxRecDepth 100000
set_option maxHeartbeats 8000000
namespace Go.Proofs.YteokfcjdfjhhhaaGreatDoor
open Go Go.RowKit

def jha (p:List UInt8×List UInt8):Bool:=decide (p.1.length≤40) && decide (p.2.length≤20)
def jkx (n:Nat) (ps:List (List UInt8×List UInt8)):Bool:=decide (n≤70) && ps.all jha
def jch (x:Lay):Bool:=decide (x.grain.length≤40) && jkx x.shares.length x.shares
def jcX (n:Nat) (ls:List Lay):Bool:= !((decide (6 < n) && decide (n≤64)) || decide (66 < n)) && ls.all jch
theorem jeq {α:Type} {l:List α} {i:Nat} {f:α→Bool} {d:α} (h:i < l.length):(l.drop i).all f=(f (l.getD i d) && (l.drop (i+1)).all f):=by
 rw [List.drop_eq_getElem_cons h,List.all_cons,List.getD_eq_getElem?_getD,List.getElem?_eq_getElem h];rfl
section
variable {w:World} {A:Option Addr} {n c:Nat} {ps:List (List UInt8×List UInt8)} {ls:List Lay}
theorem jlH (hn:70 < n):Calls Tryz.prog 28 #[.slice A n c] w fun e w'=>e= .returned (.bool false)∧Below w.heap.size w w':=by
 have q1:decide ((70:Int) < (n:Int))=true:=by rw [decide_eq_true_iff];omega
 clear hn;go_enter Tryz.func28,Tryz.ntmps28;go_wp2;go_ret;exact ⟨rfl,bi⟩
theorem jou {r:Bool} (hr:ps.all jha=r) (h:Pv w A n ps) (hn:n≤70):Calls Tryz.prog 28 #[.slice A n c] w fun e w'=>e= .returned (.bool r)∧Below w.heap.size w w':=by
 have q1:decide ((70:Int) < (n:Int))=false:=by rw [decide_eq_false_iff_not];omega
 have H:=qh h;have HN:=qh hn;have HR:=qh hr;clear h hr hn;go_enter Tryz.func28,Tryz.ntmps28;go_wp2
 go_loopw [3] (fun u wr=>∃(i:Nat),u= .int .i64 (i:Int)∧i≤n∧Below w.heap.size w wr∧(ps.drop i).all jha=r) (fun u _=>n - (intOf u).toNat)
 case atStart=>exact ⟨0,rfl,Nat.zero_le _,bi,HR.out⟩
 case round=>
  obtain ⟨i,rfl,hin,hb,hc⟩:=hrel;have _:=bm hb;have hnn:=HN.out;by_cases hi:i < n
  ·have p0:decide (i < n)=true:=by simpa using hi
   obtain ⟨b,o,rfl,hbl,hat⟩:=(H.out.below hb).at_ (by omega);obtain ⟨k0,k1⟩:=hat i hi;rw [jeq (d:=([],[])) (by rw [H.out.len];exact hi)] at hc;obtain ⟨⟨x1,x2⟩,hx⟩:∃x,ps.getD i ([],[])=x:=⟨_,rfl⟩;rw [hx] at k0 k1 hc;dsimp only at k0 k1;have HC:=qh hc;have HI:=qh hi;clear hc hat hx;by_cases e1:x1.length≤40
   ·have g1:decide ((40:Int) < (x1.length:Int))=false:=by rw [decide_eq_false_iff_not];omega
    by_cases e2:x2.length≤20
    ·have g2:decide ((20:Int) < (x2.length:Int))=false:=by rw [decide_eq_false_iff_not];omega
     have hc2:Hid ((ps.drop (i+1)).all jha=r):=qh (by rw [←HC.out];simp [jha,e1,e2]);clear e1 e2;go_wp2;exact ⟨⟨i+1,by simp,HI.out,bi,hc2.out⟩,by have:=HI.out;simp [intOf];omega⟩
    ·have g2:decide ((20:Int) < (x2.length:Int))=true:=by rw [decide_eq_true_iff];omega
     have hR:false=r:=by rw [←HC.out];simp [jha,e2]
     subst hR;clear e1 e2;go_wp2;go_ret;exact ⟨rfl,bi⟩
   ·have g1:decide ((40:Int) < (x1.length:Int))=true:=by rw [decide_eq_true_iff];omega
    have hR:false=r:=by rw [←HC.out];simp [jha,e1]
    subst hR;clear e1;go_wp2;go_ret;exact ⟨rfl,bi⟩
  ·have p0:decide (i < n)=false:=by simp;omega
   rw [List.drop_eq_nil_of_le (by rw [H.out.len];omega)] at hc;have hR:true=r:=by rw [←hc];rfl
   subst hR;clear hc hi HR;go_wp2;go_ret;exact ⟨rfl,bi⟩
theorem jjv {r:Bool} (hr:jkx n ps=r) (h:Pv w A n ps):Calls Tryz.prog 28 #[.slice A n c] w fun e w'=>e= .returned (.bool r)∧Below w.heap.size w w':=by
 subst hr;unfold jkx;by_cases h1:n≤70
 ·rw [decide_eq_true h1,Bool.true_and];exact jou rfl h h1
 ·rw [decide_eq_false h1,Bool.false_and];exact jlH (by omega)
theorem joG (h:(6 < n∧n≤64)∨66 < n):Calls Tryz.prog 6 #[.slice A n c] w fun e w'=>e= .returned (.bool false)∧Below w.heap.size w w':=by
 have q1:decide ((6:Int) < (n:Int))=true:=by rw [decide_eq_true_iff];omega
 by_cases h2:n≤64
 ·have q2:decide ((n:Int)≤64)=true:=by rw [decide_eq_true_iff];omega
  clear h h2;go_enter Tryz.func6,Tryz.ntmps6;go_wp2;go_ret;exact ⟨rfl,bi⟩
 ·have q2:decide ((n:Int)≤64)=false:=by rw [decide_eq_false_iff_not];omega
  have q3:decide ((66:Int) < (n:Int))=true:=by rw [decide_eq_true_iff];omega
  clear h h2;go_enter Tryz.func6,Tryz.ntmps6;go_wp2;go_ret;exact ⟨rfl,bi⟩
theorem jlZ {r:Bool} (hr:ls.all jch=r) (h:Lv w A n ls) (hn:n≤6):Calls Tryz.prog 6 #[.slice A n c] w fun e w'=>e= .returned (.bool r)∧Below w.heap.size w w':=by
 have q1:decide ((6:Int) < (n:Int))=false:=by rw [decide_eq_false_iff_not];omega
 have q3:decide ((66:Int) < (n:Int))=false:=by rw [decide_eq_false_iff_not];omega
 have H:=qh h;have HN:Hid (n≤66):=qh (by omega);have HR:=qh hr;clear h hr hn;go_enter Tryz.func6,Tryz.ntmps6;go_wp2
 go_loopw [3] (fun u wr=>∃(i:Nat),u= .int .i64 (i:Int)∧i≤n∧Below w.heap.size w wr∧(ls.drop i).all jch=r) (fun u _=>n - (intOf u).toNat)
 case atStart=>exact ⟨0,rfl,Nat.zero_le _,bi,HR.out⟩
 case round=>
  obtain ⟨i,rfl,hin,hb,hc⟩:=hrel;have _:=bm hb;have hnn:=HN.out;by_cases hi:i < n
  ·have p0:decide (i < n)=true:=by simpa using hi
   obtain ⟨b,o,rfl,hbl,hat⟩:=(H.out.below hb).at_ (by omega);obtain ⟨B,d,k0,k1,k2,hv⟩:=(hat i hi).at_;rw [jeq (d:=jaA) (by rw [H.out.len];exact hi)] at hc;obtain ⟨⟨x1,m1,ps⟩,hx⟩:∃x,ls.getD i jaA=x:=⟨_,rfl⟩;rw [hx] at k0 k1 k2 hc hv;dsimp only at k0 k1 k2 hv;obtain ⟨g,hg⟩:∃g,jkx ps.length ps=g:=⟨_,rfl⟩;have HL:=qh (fun W (hb:Below wr.heap.size wr W)=>jjv (c:=d) hg (hv.below hb));obtain ⟨s,hs⟩:∃s,ps.length=s:=⟨_,rfl⟩;rw [hs] at k2 HL;have HC:Hid ((decide (x1.length≤40) && g && (ls.drop (i+1)).all jch)=r):=qh (by rw [←hc,←hg];rfl);have HI:=qh hi;clear hc hat hx hv hg hs;by_cases e1:x1.length≤40
   ·have g1:decide ((40:Int) < (x1.length:Int))=false:=by rw [decide_eq_false_iff_not];omega
    cases g
    ·have hR:false=r:=by rw [←HC.out];simp
     subst hR;clear e1;go_wp2_with (go_at_call 28;(with_reducible refine mo0 (HL.out _ bi) fun w1 hb1 hc1 hf1 _=> ?_))
     go_ret;exact ⟨rfl,bi⟩
    ·have hc2:Hid ((ls.drop (i+1)).all jch=r):=qh (by rw [←HC.out];simp [e1]);clear e1;go_wp2_with (go_at_call 28;(with_reducible refine mo0 (HL.out _ bi) fun w1 hb1 hc1 hf1 _=> ?_))
     exact ⟨⟨i+1,by simp,HI.out,bi,hc2.out⟩,by have:=HI.out;simp [intOf];omega⟩
   ·have g1:decide ((40:Int) < (x1.length:Int))=true:=by rw [decide_eq_true_iff];omega
    have hR:false=r:=by rw [←HC.out];simp [e1]
    subst hR;clear e1;go_wp2;go_ret;exact ⟨rfl,bi⟩
  ·have p0:decide (i < n)=false:=by simp;omega
   rw [List.drop_eq_nil_of_le (by rw [H.out.len];omega)] at hc;have hR:true=r:=by rw [←hc];rfl
   subst hR;clear hc hi HR;go_wp2;go_ret;exact ⟨rfl,bi⟩
theorem jkc {r:Bool} (hr:ls.all jch=r) (h:Lv w A n ls) (hn:64 < n∧n≤66):Calls Tryz.prog 6 #[.slice A n c] w fun e w'=>e= .returned (.bool r)∧Below w.heap.size w w':=by
 have q1:decide ((6:Int) < (n:Int))=true:=by rw [decide_eq_true_iff];omega
 have q2:decide ((n:Int)≤64)=false:=by rw [decide_eq_false_iff_not];omega
 have q3:decide ((66:Int) < (n:Int))=false:=by rw [decide_eq_false_iff_not];omega
 have H:=qh h;have HN:Hid (n≤66):=qh (by omega);have HR:=qh hr;clear h hr hn;go_enter Tryz.func6,Tryz.ntmps6;go_wp2
 go_loopw [3] (fun u wr=>∃(i:Nat),u= .int .i64 (i:Int)∧i≤n∧Below w.heap.size w wr∧(ls.drop i).all jch=r) (fun u _=>n - (intOf u).toNat)
 case atStart=>exact ⟨0,rfl,Nat.zero_le _,bi,HR.out⟩
 case round=>
  obtain ⟨i,rfl,hin,hb,hc⟩:=hrel;have _:=bm hb;have hnn:=HN.out;by_cases hi:i < n
  ·have p0:decide (i < n)=true:=by simpa using hi
   obtain ⟨b,o,rfl,hbl,hat⟩:=(H.out.below hb).at_ (by omega);obtain ⟨B,d,k0,k1,k2,hv⟩:=(hat i hi).at_;rw [jeq (d:=jaA) (by rw [H.out.len];exact hi)] at hc;obtain ⟨⟨x1,m1,ps⟩,hx⟩:∃x,ls.getD i jaA=x:=⟨_,rfl⟩;rw [hx] at k0 k1 k2 hc hv;dsimp only at k0 k1 k2 hv;obtain ⟨g,hg⟩:∃g,jkx ps.length ps=g:=⟨_,rfl⟩;have HL:=qh (fun W (hb:Below wr.heap.size wr W)=>jjv (c:=d) hg (hv.below hb));obtain ⟨s,hs⟩:∃s,ps.length=s:=⟨_,rfl⟩;rw [hs] at k2 HL;have HC:Hid ((decide (x1.length≤40) && g && (ls.drop (i+1)).all jch)=r):=qh (by rw [←hc,←hg];rfl);have HI:=qh hi;clear hc hat hx hv hg hs;by_cases e1:x1.length≤40
   ·have g1:decide ((40:Int) < (x1.length:Int))=false:=by rw [decide_eq_false_iff_not];omega
    cases g
    ·have hR:false=r:=by rw [←HC.out];simp
     subst hR;clear e1;go_wp2_with (go_at_call 28;(with_reducible refine mo0 (HL.out _ bi) fun w1 hb1 hc1 hf1 _=> ?_))
     go_ret;exact ⟨rfl,bi⟩
    ·have hc2:Hid ((ls.drop (i+1)).all jch=r):=qh (by rw [←HC.out];simp [e1]);clear e1;go_wp2_with (go_at_call 28;(with_reducible refine mo0 (HL.out _ bi) fun w1 hb1 hc1 hf1 _=> ?_))
     exact ⟨⟨i+1,by simp,HI.out,bi,hc2.out⟩,by have:=HI.out;simp [intOf];omega⟩
   ·have g1:decide ((40:Int) < (x1.length:Int))=true:=by rw [decide_eq_true_iff];omega
    have hR:false=r:=by rw [←HC.out];simp [e1]
    subst hR;clear e1;go_wp2;go_ret;exact ⟨rfl,bi⟩
  ·have p0:decide (i < n)=false:=by simp;omega
   rw [List.drop_eq_nil_of_le (by rw [H.out.len];omega)] at hc;have hR:true=r:=by rw [←hc];rfl
   subst hR;clear hc hi HR;go_wp2;go_ret;exact ⟨rfl,bi⟩
theorem jld {r:Bool} (hr:jcX n ls=r) (h:Lv w A n ls):Calls Tryz.prog 6 #[.slice A n c] w fun e w'=>e= .returned (.bool r)∧Below w.heap.size w w':=by
 subst hr;by_cases h1:(6 < n∧n≤64)∨66 < n
 ·have e:jcX n ls=false:=by
   unfold jcX;rcases h1 with ⟨a,b⟩|a
   ·simp [a,b]
   ·simp [a]
  rw [e];exact joG h1
 ·by_cases h2:n≤6
  ·have e:jcX n ls=ls.all jch:=by
    unfold jcX;rw [decide_eq_false (show ¬6 < n by omega),decide_eq_false (show ¬66 < n by omega)];simp
   exact jlZ e.symm h h2
  ·have e:jcX n ls=ls.all jch:=by
    unfold jcX;rw [decide_eq_false (show ¬n≤64 by omega),decide_eq_false (show ¬66 < n by omega)];simp
   exact jkc e.symm h ⟨by omega,by omega⟩
end

section
variable {w:World} {l:List UInt8}
theorem jmg (h:l.length < 1∨24 < l.length):Calls Tryz.prog 35 #[bs l] w fun e w'=>e= .returned (.bool false)∧Below w.heap.size w w':=by
 by_cases h1:l.length < 1
 ·have q1:decide ((l.length:Int) < 1)=true:=by rw [decide_eq_true_iff];omega
  clear h h1;go_enter Tryz.func35,Tryz.ntmps35;go_wp2;go_ret;exact ⟨rfl,bi⟩
 ·have q1:decide ((l.length:Int) < 1)=false:=by rw [decide_eq_false_iff_not];omega
  have q2:decide ((24:Int) < (l.length:Int))=true:=by rw [decide_eq_true_iff];omega
  clear h h1;go_enter Tryz.func35,Tryz.ntmps35;go_wp2;go_ret;exact ⟨rfl,bi⟩
theorem jnr {R:Bool} (h0:1≤l.length) (h24:l.length≤24) (hR:l.all (fun c=>jbG c.toNat)=R):Calls Tryz.prog 35 #[bs l] w fun e w'=>e= .returned (.bool R)∧Below w.heap.size w w':=by
 have q1:decide ((l.length:Int) < 1)=false:=by rw [decide_eq_false_iff_not];omega
 have q2:decide ((24:Int) < (l.length:Int))=false:=by rw [decide_eq_false_iff_not];omega
 have HR:=qh hR;have HN:=qh h24;clear hR h0 h24;go_enter Tryz.func35,Tryz.ntmps35;go_wp2;clear q1 q2
 go_loopw [3] (fun u wr=>∃(i:Nat),u= .int .i64 (i:Int)∧i≤l.length∧Below w.heap.size w wr∧(l.drop i).all (fun c=>jbG c.toNat)=R) (fun u _=>l.length - (intOf u).toNat)
 case atStart=>exact ⟨0,rfl,Nat.zero_le _,bi,HR.out⟩
 case round=>
  obtain ⟨i,rfl,hin,hb,hc⟩:=hrel;have _:=bm hb;have hnn:=HN.out;by_cases hi:i < l.length
  ·have p0:decide (i < l.length)=true:=by simpa using hi
   rw [List.drop_eq_getElem_cons hi,List.all_cons] at hc;obtain ⟨c,hcc⟩:∃c,l[i]=c:=⟨_,rfl⟩;rw [hcc] at hc;have hx:=jbb hi (show l.getD i 0=c by rw [List.getD_eq_getElem?_getD,List.getElem?_eq_getElem hi];exact hcc);obtain ⟨r,hr⟩:∃r,c.toNat=r:=⟨_,rfl⟩;have hr256:r < 256:=hr ▸ c.toNat_lt;rw [hr] at hc;have HI:=qh hi;clear hcc;cases hg:jbG r with
   | true=>
     have HALL:Hid ((l.drop (i+1)).all (fun c=>jbG c.toNat)=R):=qh (by rw [←hc,hg];simp);simp only [jbG,Bool.or_eq_true,Bool.and_eq_true,decide_eq_true_eq,beq_iff_eq] at hg;clear hc;rcases hg with ((((h1|h1)|h1)|h1)|h1)|h1
     ·have q1:decide ((97:Int)≤(r:Int))=true:=by simp;omega
      have q2:decide ((r:Int)≤122)=true:=by simp;omega
      have q3:decide ((65:Int)≤(r:Int))=true:=by simp;omega
      have q4:decide ((r:Int)≤90)=false:=by simp;omega
      have q5:decide ((48:Int)≤(r:Int))=true:=by simp;omega
      have q6:decide ((r:Int)≤57)=false:=by simp;omega
      have q7:((r:Int)==45)=false:=by simp;omega
      have q8:((r:Int)==95)=false:=by simp;omega
      have q9:((r:Int)==46)=false:=by simp;omega
      clear h1;go_wp2;exact ⟨⟨i+1,by simp,HI.out,bi,HALL.out⟩,by have:=HI.out;simp [intOf];omega⟩
     ·have q1:decide ((97:Int)≤(r:Int))=false:=by simp;omega
      have q2:decide ((r:Int)≤122)=true:=by simp;omega
      have q3:decide ((65:Int)≤(r:Int))=true:=by simp;omega
      have q4:decide ((r:Int)≤90)=true:=by simp;omega
      have q5:decide ((48:Int)≤(r:Int))=true:=by simp;omega
      have q6:decide ((r:Int)≤57)=false:=by simp;omega
      have q7:((r:Int)==45)=false:=by simp;omega
      have q8:((r:Int)==95)=false:=by simp;omega
      have q9:((r:Int)==46)=false:=by simp;omega
      clear h1;go_wp2;exact ⟨⟨i+1,by simp,HI.out,bi,HALL.out⟩,by have:=HI.out;simp [intOf];omega⟩
     ·have q1:decide ((97:Int)≤(r:Int))=false:=by simp;omega
      have q2:decide ((r:Int)≤122)=true:=by simp;omega
      have q3:decide ((65:Int)≤(r:Int))=false:=by simp;omega
      have q4:decide ((r:Int)≤90)=true:=by simp;omega
      have q5:decide ((48:Int)≤(r:Int))=true:=by simp;omega
      have q6:decide ((r:Int)≤57)=true:=by simp;omega
      have q7:((r:Int)==45)=false:=by simp;omega
      have q8:((r:Int)==95)=false:=by simp;omega
      have q9:((r:Int)==46)=false:=by simp;omega
      clear h1;go_wp2;exact ⟨⟨i+1,by simp,HI.out,bi,HALL.out⟩,by have:=HI.out;simp [intOf];omega⟩
     ·have q1:decide ((97:Int)≤(r:Int))=false:=by simp;omega
      have q2:decide ((r:Int)≤122)=true:=by simp;omega
      have q3:decide ((65:Int)≤(r:Int))=false:=by simp;omega
      have q4:decide ((r:Int)≤90)=true:=by simp;omega
      have q5:decide ((48:Int)≤(r:Int))=false:=by simp;omega
      have q6:decide ((r:Int)≤57)=true:=by simp;omega
      have q7:((r:Int)==45)=true:=by simp;omega
      have q8:((r:Int)==95)=false:=by simp;omega
      have q9:((r:Int)==46)=false:=by simp;omega
      clear h1;go_wp2;exact ⟨⟨i+1,by simp,HI.out,bi,HALL.out⟩,by have:=HI.out;simp [intOf];omega⟩
     ·have q1:decide ((97:Int)≤(r:Int))=false:=by simp;omega
      have q2:decide ((r:Int)≤122)=true:=by simp;omega
      have q3:decide ((65:Int)≤(r:Int))=true:=by simp;omega
      have q4:decide ((r:Int)≤90)=false:=by simp;omega
      have q5:decide ((48:Int)≤(r:Int))=true:=by simp;omega
      have q6:decide ((r:Int)≤57)=false:=by simp;omega
      have q7:((r:Int)==45)=false:=by simp;omega
      have q8:((r:Int)==95)=true:=by simp;omega
      have q9:((r:Int)==46)=false:=by simp;omega
      clear h1;go_wp2;exact ⟨⟨i+1,by simp,HI.out,bi,HALL.out⟩,by have:=HI.out;simp [intOf];omega⟩
     ·have q1:decide ((97:Int)≤(r:Int))=false:=by simp;omega
      have q2:decide ((r:Int)≤122)=true:=by simp;omega
      have q3:decide ((65:Int)≤(r:Int))=false:=by simp;omega
      have q4:decide ((r:Int)≤90)=true:=by simp;omega
      have q5:decide ((48:Int)≤(r:Int))=false:=by simp;omega
      have q6:decide ((r:Int)≤57)=true:=by simp;omega
      have q7:((r:Int)==45)=false:=by simp;omega
      have q8:((r:Int)==95)=false:=by simp;omega
      have q9:((r:Int)==46)=true:=by simp;omega
      clear h1;go_wp2;exact ⟨⟨i+1,by simp,HI.out,bi,HALL.out⟩,by have:=HI.out;simp [intOf];omega⟩
   | false=>
     have hR2:false=R:=by rw [←hc,hg];simp
     subst hR2
     have h1:r < 45∨r=47∨(58≤r∧r≤64)∨(91≤r∧r≤94)∨r=96∨123≤r:=by
      simp [jbG] at hg;omega
     clear hg hc HR;rcases h1 with h1|h1|h1|h1|h1|h1
     ·have q1:decide ((97:Int)≤(r:Int))=false:=by simp;omega
      have q2:decide ((r:Int)≤122)=true:=by simp;omega
      have q3:decide ((65:Int)≤(r:Int))=false:=by simp;omega
      have q4:decide ((r:Int)≤90)=true:=by simp;omega
      have q5:decide ((48:Int)≤(r:Int))=false:=by simp;omega
      have q6:decide ((r:Int)≤57)=true:=by simp;omega
      have q7:((r:Int)==45)=false:=by simp;omega
      have q8:((r:Int)==95)=false:=by simp;omega
      have q9:((r:Int)==46)=false:=by simp;omega
      clear h1;go_wp2;go_ret;exact ⟨rfl,bi⟩
     ·have q1:decide ((97:Int)≤(r:Int))=false:=by simp;omega
      have q2:decide ((r:Int)≤122)=true:=by simp;omega
      have q3:decide ((65:Int)≤(r:Int))=false:=by simp;omega
      have q4:decide ((r:Int)≤90)=true:=by simp;omega
      have q5:decide ((48:Int)≤(r:Int))=false:=by simp;omega
      have q6:decide ((r:Int)≤57)=true:=by simp;omega
      have q7:((r:Int)==45)=false:=by simp;omega
      have q8:((r:Int)==95)=false:=by simp;omega
      have q9:((r:Int)==46)=false:=by simp;omega
      clear h1;go_wp2;go_ret;exact ⟨rfl,bi⟩
     ·have q1:decide ((97:Int)≤(r:Int))=false:=by simp;omega
      have q2:decide ((r:Int)≤122)=true:=by simp;omega
      have q3:decide ((65:Int)≤(r:Int))=false:=by simp;omega
      have q4:decide ((r:Int)≤90)=true:=by simp;omega
      have q5:decide ((48:Int)≤(r:Int))=true:=by simp;omega
      have q6:decide ((r:Int)≤57)=false:=by simp;omega
      have q7:((r:Int)==45)=false:=by simp;omega
      have q8:((r:Int)==95)=false:=by simp;omega
      have q9:((r:Int)==46)=false:=by simp;omega
      clear h1;go_wp2;go_ret;exact ⟨rfl,bi⟩
     ·have q1:decide ((97:Int)≤(r:Int))=false:=by simp;omega
      have q2:decide ((r:Int)≤122)=true:=by simp;omega
      have q3:decide ((65:Int)≤(r:Int))=true:=by simp;omega
      have q4:decide ((r:Int)≤90)=false:=by simp;omega
      have q5:decide ((48:Int)≤(r:Int))=true:=by simp;omega
      have q6:decide ((r:Int)≤57)=false:=by simp;omega
      have q7:((r:Int)==45)=false:=by simp;omega
      have q8:((r:Int)==95)=false:=by simp;omega
      have q9:((r:Int)==46)=false:=by simp;omega
      clear h1;go_wp2;go_ret;exact ⟨rfl,bi⟩
     ·have q1:decide ((97:Int)≤(r:Int))=false:=by simp;omega
      have q2:decide ((r:Int)≤122)=true:=by simp;omega
      have q3:decide ((65:Int)≤(r:Int))=true:=by simp;omega
      have q4:decide ((r:Int)≤90)=false:=by simp;omega
      have q5:decide ((48:Int)≤(r:Int))=true:=by simp;omega
      have q6:decide ((r:Int)≤57)=false:=by simp;omega
      have q7:((r:Int)==45)=false:=by simp;omega
      have q8:((r:Int)==95)=false:=by simp;omega
      have q9:((r:Int)==46)=false:=by simp;omega
      clear h1;go_wp2;go_ret;exact ⟨rfl,bi⟩
     ·have q1:decide ((97:Int)≤(r:Int))=true:=by simp;omega
      have q2:decide ((r:Int)≤122)=false:=by simp;omega
      have q3:decide ((65:Int)≤(r:Int))=true:=by simp;omega
      have q4:decide ((r:Int)≤90)=false:=by simp;omega
      have q5:decide ((48:Int)≤(r:Int))=true:=by simp;omega
      have q6:decide ((r:Int)≤57)=false:=by simp;omega
      have q7:((r:Int)==45)=false:=by simp;omega
      have q8:((r:Int)==95)=false:=by simp;omega
      have q9:((r:Int)==46)=false:=by simp;omega
      clear h1;go_wp2;go_ret;exact ⟨rfl,bi⟩
  ·have p0:decide (i < l.length)=false:=by simp;omega
   rw [List.drop_eq_nil_of_le (by omega)] at hc;have hR2:true=R:=by rw [←hc];rfl
   subst hR2;clear hc hi HR;go_wp2;go_ret;exact ⟨rfl,bi⟩
theorem jhH {g:Bool} (hg:jaZ l=g):Calls Tryz.prog 35 #[bs l] w fun e w'=>e= .returned (.bool g)∧Below w.heap.size w w':=by
 subst hg;unfold jaZ;by_cases h:l.length < 1∨24 < l.length
 ·have e:(decide (1≤l.length) && decide (l.length≤24))=false:=by
   rw [Bool.and_eq_false_iff,decide_eq_false_iff_not,decide_eq_false_iff_not];omega
  rw [Bool.and_assoc,e,Bool.and_false];exact jmg h
 ·rw [decide_eq_true (show 1≤l.length by omega),decide_eq_true (show l.length≤24 by omega),Bool.and_true,Bool.and_true];exact jnr (by omega) (by omega) rfl
end
theorem jkk (x:Rat):(tq x==[49])=decide (x=1):=by
 have e:tq (1:Rat)=[49]:=by decide+kernel
 by_cases h:x=1
 ·subst h;rw [e,decide_eq_true rfl];rfl
 ·rw [decide_eq_false h,beq_eq_false_iff_ne];intro h2;exact h (jpi (h2.trans e.symm))
section
variable {w:World} {A:Option Addr} {n c:Nat} {ls:List (List UInt8×List UInt8)} {d:Nat}
theorem jgY:Calls Tryz.prog 8 #[.slice A 0 c] w fun e w'=>e= .returned (.int .i64 2)∧Below w.heap.size w w':=by
 go_enter Tryz.func8,Tryz.ntmps8;go_wp2;go_ret;exact ⟨rfl,bi⟩
theorem jhG (hn:64 < n):Calls Tryz.prog 8 #[.slice A n c] w fun e w'=>e= .returned (.int .i64 5)∧Below w.heap.size w w':=by
 have q0:((n:Int)==0)=false:=by rw [beq_eq_false_iff_ne];omega
 have q1:decide ((64:Int) < (n:Int))=true:=by rw [decide_eq_true_iff];omega
 clear hn;go_enter Tryz.func8,Tryz.ntmps8;go_wp2;go_ret;exact ⟨rfl,bi⟩
theorem jk9 {k:Int} (hv:Pv w A n ls) (h0:0 < n) (hn:n≤64) (hd:d≤8000) (hB:n*(d+1)≤8384) (hd0:0 < d) (hl:∀p∈ls,p.2.length≤d) (hk:jgL 0 none ls=k):
  Calls Tryz.prog 8 #[.slice A n c] w fun e w'=>e= .returned (.int .i64 k)∧Below w.heap.size w w':=by
 have q0:((n:Int)==0)=false:=by rw [beq_eq_false_iff_ne];omega
 have q1:decide ((64:Int) < (n:Int))=false:=by rw [decide_eq_false_iff_not];omega
 have HV:=qh hv;have HN:=qh hn;have HK:=qh hk;have HD:=qh (And.intro hd hd0)
 have HL:Hid (∀i,i < n→(ls.getD i ([],[])).2.length≤d):=qh (fun i hi=>by
  have hil:i < ls.length:=by rw [hv.len];exact hi
  rw [List.getD_eq_getElem?_getD,List.getElem?_eq_getElem hil];exact hl _ (List.getElem_mem hil))
 have HB:Hid (∀i,i≤n→i*(d+1)+1≤8500):=qh (fun i hi=>by
  have:=Nat.mul_le_mul_right (d+1) hi
  omega)
 clear hv h0 hn hl hk hd hd0 hB;go_enter Tryz.func8,Tryz.ntmps8;go_wp2
 go_loopw [3,4] (fun v u wr=>∃(i:Nat) (s:Rat),u= .int .i64 (i:Int)∧v=bs (tq s)∧i≤n∧Below w.heap.size w wr∧Dz (i*(d+1)+1) s∧jgL s (jbK ls i) (ls.drop i)=k) (fun _ u _=>n - (intOf u).toNat)
 case atStart=>exact ⟨0,0,rfl,by rw [jmO],by omega,bi,(show Dz 1 (0:Rat) from ⟨by decide+kernel,by decide+kernel⟩).mono (by omega),HK.out⟩
 case round=>
  obtain ⟨i,s,rfl,rfl,hin,hb,hs,hc⟩:=hrel;have _:=bm hb;have HS:=qh hs;have HC:=qh hc;clear hs hc;by_cases hi:i < n
  ·have p0:decide (i < n)=true:=by simpa using hi
   have hnn:=HN.out;obtain ⟨b,o,rfl,hbl,hcell⟩:=(HV.out.below hb).at_ (by omega);obtain ⟨hx,hy⟩:=hcell i hi;have hil:i < ls.length:=by rw [HV.out.len];exact hi
   have HLI:=qh (HL.out i hi);have hc:=HC.out;rw [jaH (d:=([],[])) hil,jgL] at hc;have hnext:jbK ls (i+1)=some (ls.getD i ([],[])).1:=by rw [jbK,if_neg (by omega)];rfl
   obtain ⟨x1,hx1⟩:∃x,(ls.getD i ([],[])).1=x:=⟨_,rfl⟩;obtain ⟨x2,hx2⟩:∃x,(ls.getD i ([],[])).2=x:=⟨_,rfl⟩;rw [hx1,hx2] at hc;rw [hx1] at hx hnext;rw [hx2] at hy HLI;have HNX:=qh hnext;have HI:=qh hi;obtain ⟨X,hX⟩:∃x,tq s=x:=⟨_,rfl⟩;rw [hX];have HXX:=qh hX;clear hil hx1 hx2 hnext HC hX;obtain ⟨g,hg⟩:∃g,jaZ x1=g:=⟨_,rfl⟩;have HNM:=qh (fun W=>jhH (w:=W) hg);cases g with
   | false=>
     rw [hg,if_pos rfl] at hc;subst hc;clear hg hi hcell;go_wp2_with (go_at_call 35;(with_reducible refine mo0 (HNM.out _) fun w2 hb2 hc2 hf2 _=> ?_))
     go_ret;exact ⟨rfl,bi⟩
   | true=>
     rw [hg,if_neg (by simp)] at hc;clear hg;cases hp:jcZ (jbK ls i) x1 with
     | true=>
       rw [hp,if_pos rfl] at hc;subst hc
       obtain ⟨i',rfl⟩:∃i',i=i'+1:=by
        cases i with
        | zero=>simp [jbK,jcZ] at hp
        | succ i'=>exact ⟨i',rfl⟩
       rw [jbK,if_neg (by omega),Nat.add_sub_cancel] at hp;obtain ⟨hz,_⟩:=hcell i' (by omega);obtain ⟨y1,hy1⟩:∃y,(ls.getD i' ([],[])).1=y:=⟨_,rfl⟩;rw [hy1] at hz hp;have q2:jgk x1 y1=true:=hp;have q4:(i':Int) < (n:Int):=by omega
       have q5:IntKind.i64.wrap (i':Int)=(i':Int):=by simp [IntKind.wrap,IntKind.bits,IntKind.signed];omega
       have q3:decide ((0:Int) < (i':Int)+1)=true:=by rw [decide_eq_true_iff];omega
       have q8:(i':Int)+1 < (n:Int):=by omega
       have q7:decide ((i':Int)+1 < (n:Int))=true:=by rw [decide_eq_true_iff];omega
       clear hi hcell hp hy1;go_upto_region 11 with (go_at_call 35;(with_reducible refine mo0 (HNM.out _) fun w2 hb2 hc2 hf2 _=> ?_))
       go_quiet (fail)
       go_wp2;go_ret;exact ⟨rfl,bi⟩
     | false=>
       rw [hp,if_neg (by simp)] at hc;have HP:=qh hp;have HC:=qh hc;have HCE:=qh hcell;clear hi hp hc hcell;go_upto_region 11 with (go_at_call 35;(with_reducible refine mo0 (HNM.out _) fun w2 hb2 hc2 hf2 _=> ?_))
       go_cut [40] (fun u wx=>u= .bool false∧Below w2.heap.size w2 wx)
       case first=>
        cases i with
        | zero=>
          go_quiet (fail)
          go_wp2;go_meet;exact ⟨rfl,bi⟩
        | succ i'=>
          have hin':=HI.out;have hp:=HP.out;rw [jbK,if_neg (by omega),Nat.add_sub_cancel] at hp;obtain ⟨hz,_⟩:=HCE.out i' (by omega);obtain ⟨y1,hy1⟩:∃y,(ls.getD i' ([],[])).1=y:=⟨_,rfl⟩;rw [hy1] at hz hp;have q2:jgk x1 y1=false:=hp;have q4:(i':Int) < (n:Int):=by omega
          have q5:IntKind.i64.wrap (i':Int)=(i':Int):=by simp [IntKind.wrap,IntKind.bits,IntKind.signed];omega
          have q3:decide ((0:Int) < (i':Int)+1)=true:=by rw [decide_eq_true_iff];omega
          clear hp hy1
          go_quiet (fail)
          go_wp2;go_meet;exact ⟨rfl,bi⟩
       case rest=>
        obtain ⟨rfl,hbc⟩:=hcut;have _:=bm hbc;have hi:=HI.out;have j1:wc.cell? ⟨b,o+i*2+1,none⟩=some (bs x2):=ja5 hbc (ja5 hb2 hy);have zb:b < wc.heap.size:=World.block_lt_of_cell? wc _ j1;obtain ⟨cv,hcv⟩:∃cv,chk x2=cv:=⟨_,rfl⟩;have HCK:=qh (fun W=>jnk (w:=W) hcv (by have:=HLI.out;have:=HD.out;omega));have hc:=HC.out;clear HCE HP hc2 hf2 HC hx hy;by_cases hk2:cv=0
        ·subst hk2;rw [hcv,if_neg (by simp)] at hc;have hxn:=jbQ hcv;obtain ⟨x,hxv⟩:∃x,numQ x2=x:=⟨_,rfl⟩;rw [hxv] at hc hxn;have dx:Dz d x:=hxn.dzl HLI.out HD.out.2;have hbd:=HB.out i hin;have hdd:=HD.out;obtain ⟨sg,hsg⟩:∃z,sgn x.num=z:=⟨_,rfl⟩;have HSG:=qh (fun W=>jrn (w:=W) hsg dx (by omega) (by omega));have HAD:=qh (fun W=>jpj (w:=W) HS.out dx (by omega) (by omega) (by omega) (by omega));have DN:Hid (Dz ((i+1)*(d+1)+1) (s+x)):=qh ((HS.out.add dx).mono (by rw [Nat.add_mul];omega));unfold QP at HAD;rw [HXX.out] at HAD;rw [←hxn.eq] at HSG HAD;obtain ⟨R,hR⟩:∃r,tq (s+x)=r:=⟨_,rfl⟩;rw [hR] at HAD;have HRR:=qh hR;by_cases hx0:x≤0
         ·rw [if_pos hx0] at hc;subst hc;have q2:decide (sg≤0)=true:=by rw [decide_eq_true_iff,←hsg];exact jpu hx0
          clear hcv hxn hxv dx hbd hdd hsg hR hx0;go_wp2_with (first|((go_at_call 36;(with_reducible refine mo0 (HCK.out _) fun w3 hb3 hc3 hf3 _=> ?_));(first|have y3_0:=szl (k:=b) hb3 (by first|go_size|fail)|have y3_0:=Nat.one_pos))|((go_at_call 37;(with_reducible refine mo0 (HSG.out _) fun w4 hb4 hc4 hf4 _=> ?_));(first|have y4_0:=szl (k:=b) hb4 (by first|go_size|fail)|have y4_0:=Nat.one_pos)))
          go_ret;exact ⟨rfl,bi⟩
         ·rw [if_neg hx0,←HNX.out] at hc;have q2:decide (sg≤0)=false:=by rw [decide_eq_false_iff_not,←hsg];exact jlq hx0
          have HC2:=qh hc;clear hc hcv hxn hxv dx hbd hdd hsg hR hx0;go_wp2_with (first|((go_at_call 36;(with_reducible refine mo0 (HCK.out _) fun w3 hb3 hc3 hf3 _=> ?_));(first|have y3_0:=szl (k:=b) hb3 (by first|go_size|fail)|have y3_0:=Nat.one_pos))|((go_at_call 37;(with_reducible refine mo0 (HSG.out _) fun w4 hb4 hc4 hf4 _=> ?_));(first|have y4_0:=szl (k:=b) hb4 (by first|go_size|fail)|have y4_0:=Nat.one_pos))|(go_at_call 38;(with_reducible refine mo0 (HAD.out _) fun w5 hb5 hc5 hf5 _=> ?_)))
          exact ⟨⟨i+1,s+x,by simp,by rw [HRR.out],HI.out,bi,DN.out,HC2.out⟩,by have:=HI.out;simp [intOf];omega⟩
        ·rw [hcv,if_pos hk2] at hc;subst hc;have q2:(cv != 0)=true:=by rw [bne_iff_ne];exact hk2
         clear hcv hk2;go_wp2_with (first|(go_at_call 36;(with_reducible refine mo0 (HCK.out _) fun w3 hb3 hc3 hf3 _=> ?_)))
         go_ret;exact ⟨rfl,bi⟩
  ·have p0:decide (i < n)=false:=by simp;omega
   have hc:=HC.out;rw [List.drop_eq_nil_of_le (by rw [HV.out.len];omega),jgL] at hc;have q2:=jkk s;obtain ⟨X,hX⟩:∃x,tq s=x:=⟨_,rfl⟩;rw [hX] at q2;by_cases h1:s=1
   ·rw [if_pos h1] at hc;subst hc;have q3:(X != [49])=false:=by rw [bne,q2,decide_eq_true h1];rfl
    have q4:(X==[49])=true:=by rw [q2,decide_eq_true h1]
    rw [hX];clear HK HC HS q2 h1 hX hi hin HB;go_wp2;go_ret;exact ⟨rfl,bi⟩
   ·rw [if_neg h1] at hc;subst hc;have q3:(X != [49])=true:=by rw [bne,q2,decide_eq_false h1];rfl
    have q4:(X==[49])=false:=by rw [q2,decide_eq_false h1]
    rw [hX];clear HK HC HS q2 h1 hX hi hin HB;go_wp2;go_ret;exact ⟨rfl,bi⟩
theorem jev {k:Int} (hk:jaw ls=k) (hv:Pv w A n ls) (hd:d≤130) (hd0:0 < d) (hl:∀p∈ls,p.2.length≤d):Calls Tryz.prog 8 #[.slice A n c] w fun e w'=>e= .returned (.int .i64 k)∧Below w.heap.size w w':=by
 unfold jaw at hk;rw [hv.len] at hk;by_cases h0:n=0
 ·subst h0;rw [if_pos rfl] at hk;subst hk;exact jgY
 ·rw [if_neg h0] at hk;by_cases h1:64 < n
  ·rw [if_pos h1] at hk;subst hk;exact jhG h1
  ·rw [if_neg h1] at hk;exact jk9 hv (by omega) (by omega) (by omega) (Nat.le_trans (Nat.mul_le_mul (show n≤64 by omega) (show d+1≤131 by omega)) (by omega)) hd0 hl hk
end

abbrev ly (g:List UInt8) (m:Int) (A:Option Addr) (n c:Nat):Value:= .agg #[bs g, .int .i64 m, .slice A n c]
section
variable {w:World} {A B:Option Addr} {n m c c':Nat} {ps qs:List (List UInt8×List UInt8)} {g g':List UInt8} {z z':Int} {d:Nat}
theorem jfG {k:Int} (hk:jaj ⟨g,z,ps⟩=k) (hv:Pv w A ps.length ps) (hd:d≤130) (hd0:0 < d) (hl:∀p∈ps,p.2.length≤d):Calls Tryz.prog 10 #[ly g z A ps.length c] w fun e w'=>e= .returned (.int .i64 k)∧Below w.heap.size w w':=by
 unfold jaj at hk;dsimp only at hk;obtain ⟨b,hb⟩:∃b,jaZ g=b:=⟨_,rfl⟩;have HN:=qh (fun W=>jhH (w:=W) hb);obtain ⟨s,hs⟩:∃s,jaw ps=s:=⟨_,rfl⟩;have HS:=qh (fun W (hW:Below w.heap.size w W)=>jev (c:=c) hs (hv.below hW) hd hd0 hl);obtain ⟨n,hn⟩:∃n,ps.length=n:=⟨_,rfl⟩;rw [hn] at HS ⊢;rw [hb,hs] at hk;clear hb hs hn hv hl hd hd0;cases b with
 | false=>
   rw [if_pos rfl] at hk;subst hk;go_enter Tryz.func10,Tryz.ntmps10;go_wp2_with (go_at_call 35;(with_reducible refine mo1 w (HN.out _) (by go_size) fun w1 hb1 hc1 hf1 z1_0 _=> ?_))
   go_ret;exact ⟨rfl,bi⟩
 | true=>
   rw [if_neg (by simp)] at hk;by_cases h1:z < 1
   ·rw [if_pos (.inl h1)] at hk;subst hk;have q1:decide (z < 1)=true:=by rw [decide_eq_true_iff];exact h1
    clear h1;go_enter Tryz.func10,Tryz.ntmps10;go_wp2_with (go_at_call 35;(with_reducible refine mo1 w (HN.out _) (by go_size) fun w1 hb1 hc1 hf1 z1_0 _=> ?_))
    go_ret;exact ⟨rfl,bi⟩
   ·have q1:decide (z < 1)=false:=by rw [decide_eq_false_iff_not];exact h1
    by_cases h2:999999999 < z
    ·rw [if_pos (.inr h2)] at hk;subst hk;have q2:decide (999999999 < z)=true:=by rw [decide_eq_true_iff];exact h2
     clear h1 h2;go_enter Tryz.func10,Tryz.ntmps10;go_wp2_with (go_at_call 35;(with_reducible refine mo1 w (HN.out _) (by go_size) fun w1 hb1 hc1 hf1 z1_0 _=> ?_))
     go_ret;exact ⟨rfl,bi⟩
    ·rw [if_neg (by omega)] at hk;subst hk;have q2:decide (999999999 < z)=false:=by rw [decide_eq_false_iff_not];exact h2
     clear h1 h2;go_enter Tryz.func10,Tryz.ntmps10;go_wp2_with (first|(go_at_call 35;(with_reducible refine mo1 w (HN.out _) (by go_size) fun w1 hb1 hc1 hf1 z1_0 _=> ?_))|(go_at_call 8;(with_reducible refine mo1 w (HS.out _ bi) (by go_size) fun w2 hb2 hc2 hf2 z2_0 _=> ?_)))
     go_ret;exact ⟨rfl,bi⟩
theorem jkK (hv:Pv w A n ps) (hw:Pv w B n ps) (hn:n≤100000):Calls Tryz.prog 17 #[.slice A n c, .slice B n c'] w fun e w'=>e= .returned (.bool true)∧Below w.heap.size w w':=by
 have HV:=qh hv;have HW:=qh hw;have HN:=qh hn;clear hv hw hn;go_enter Tryz.func17,Tryz.ntmps17;go_wp2
 go_loopw [5] (fun u wr=>∃(i:Nat),u= .int .i64 (i:Int)∧i≤n∧Below w.heap.size w wr) (fun u _=>n - (intOf u).toNat)
 case atStart=>exact ⟨0,rfl,Nat.zero_le _,bi⟩
 case round=>
  obtain ⟨i,rfl,hin,hb⟩:=hrel;have _:=bm hb;have hnn:=HN.out;by_cases hi:i < n
  ·have p0:decide (i < n)=true:=by simpa using hi
   obtain ⟨b,o,rfl,hbl,hat⟩:=(HV.out.below hb).at_ (by omega);obtain ⟨b',o',rfl,hbl',hat'⟩:=(HW.out.below hb).at_ (by omega);obtain ⟨k0,k1⟩:=hat i hi;obtain ⟨k2,k3⟩:=hat' i hi;obtain ⟨⟨x1,x2⟩,hx⟩:∃x,ps.getD i ([],[])=x:=⟨_,rfl⟩;rw [hx] at k0 k1 k2 k3;dsimp only at k0 k1 k2 k3;have HI:=qh hi;clear hat hat' hx;go_upto_region 6 with (fail)
   refine ja3 (fun w'=>Below wr.heap.size wr w') [] (by kernel_rfl) ?_;refine tb 0 (.slice (some ⟨b,o,none⟩) n c) [] rfl (by kernel_rfl) pk rfl (by intros;go_simp) bq0 ?_;simp only [ppq];refine tb 1 (.int .i64 (i:Int)) [] rfl (by kernel_rfl) pk rfl (by intros;go_simp) bq0 ?_;simp only [ppq];refine tb 2 (.pointer (some ⟨b,o+i*2,none⟩)) [] rfl (by kernel_rfl) pk rfl (by intros;go_simp) bq0 ?_;simp only [ppq];refine tb 3 (.pointer (some ⟨b,o+i*2,none⟩)) [] rfl (by kernel_rfl) pk rfl (by intros;go_simp) bq0 ?_;simp only [ppq];refine tb 4 (bs x1) [] rfl (by kernel_rfl) pk rfl (by intros;go_simp) bq0 ?_;simp only [ppq];refine tb 5 (.slice (some ⟨b',o',none⟩) n c') [] rfl (by kernel_rfl) pk rfl (by intros;go_simp) bq0 ?_;simp only [ppq];refine tb 6 (.int .i64 (i:Int)) [] rfl (by kernel_rfl) pk rfl (by intros;go_simp) bq0 ?_;simp only [ppq];refine tb 7 (.pointer (some ⟨b',o'+i*2,none⟩)) [] rfl (by kernel_rfl) pk rfl (by intros;go_simp) bq0 ?_;simp only [ppq];refine tb 8 (.pointer (some ⟨b',o'+i*2,none⟩)) [] rfl (by kernel_rfl) pk rfl (by intros;go_simp) bq0 ?_;simp only [ppq];refine tb 9 (bs x1) [] rfl (by kernel_rfl) pk rfl (by intros;go_simp) bq0 ?_;simp only [ppq];refine rd1 10 (by kernel_rfl) rfl (fun K hK=> ?_);go_simp;refine hK.out _ _ (fun _=>bi) ?_;clear hK K;refine rd1 11 (by kernel_rfl) rfl (fun K hK=> ?_);go_simp;refine hK.out _ _ (fun _=>bi) ?_;clear hK K;refine tb 12 (.slice (some ⟨b,o,none⟩) n c) [] rfl (by kernel_rfl) pk rfl (by intros;go_simp) bq0 ?_;simp only [ppq];refine tb 13 (.int .i64 (i:Int)) [] rfl (by kernel_rfl) pk rfl (by intros;go_simp) bq0 ?_;simp only [ppq];refine tb 14 (.pointer (some ⟨b,o+i*2,none⟩)) [] rfl (by kernel_rfl) pk rfl (by intros;go_simp) bq0 ?_;simp only [ppq];refine tb 15 (.pointer (some ⟨b,o+i*2+1,none⟩)) [] rfl (by kernel_rfl) pk rfl (by intros;go_simp) bq0 ?_;simp only [ppq];refine tb 16 (bs x2) [] rfl (by kernel_rfl) pk rfl (by intros;go_simp) bq0 ?_;simp only [ppq];refine tb 17 (.slice (some ⟨b',o',none⟩) n c') [] rfl (by kernel_rfl) pk rfl (by intros;go_simp) bq0 ?_;simp only [ppq];refine tb 18 (.int .i64 (i:Int)) [] rfl (by kernel_rfl) pk rfl (by intros;go_simp) bq0 ?_;simp only [ppq];refine tb 19 (.pointer (some ⟨b',o'+i*2,none⟩)) [] rfl (by kernel_rfl) pk rfl (by intros;go_simp) bq0 ?_;simp only [ppq];refine tb 20 (.pointer (some ⟨b',o'+i*2+1,none⟩)) [] rfl (by kernel_rfl) pk rfl (by intros;go_simp) bq0 ?_;simp only [ppq];refine tb 21 (bs x2) [] rfl (by kernel_rfl) pk rfl (by intros;go_simp) bq0 ?_;simp only [ppq];refine rd1 22 (by kernel_rfl) rfl (fun K hK=> ?_);go_simp;refine hK.out _ _ (fun _=>bi) ?_;clear hK K;refine rd1 23 (by kernel_rfl) rfl (fun K hK=> ?_);go_simp;refine hK.out _ _ (fun _=>bi) ?_;clear hK K;refine ja2 (by kernel_rfl) ?_ _;go_wp2;exact ⟨⟨i+1,by simp,HI.out,bi⟩,by have:=HI.out;simp [intOf];omega⟩
  ·have p0:decide (i < n)=false:=by simp;omega
   clear hi;go_wp2;go_ret;exact ⟨rfl,bi⟩
theorem jf4 (hv:Pv w A n ps) (hw:Pv w B n ps) (hn:n≤100000):Calls Tryz.prog 14 #[ly g z A n c,ly g z B n c'] w fun e w'=>e= .returned (.bool true)∧Below w.heap.size w w':=by
 have HS:=qh (fun W (hW:Below w.heap.size w W)=>jkK (c:=c) (c':=c') (hv.below hW) (hw.below hW) hn);clear hv hw hn;go_enter Tryz.func14,Tryz.ntmps14;go_wp2_with (go_at_call 17;(with_reducible refine mo2 w (HS.out _ bi) (by go_size) fun w1 hb1 hc1 hf1 z1_0 z1_1 _=> ?_))
 go_ret;exact ⟨rfl,bi⟩
end
end Go.Proofs.YteokfcjdfjhhhaaGreatDoor
