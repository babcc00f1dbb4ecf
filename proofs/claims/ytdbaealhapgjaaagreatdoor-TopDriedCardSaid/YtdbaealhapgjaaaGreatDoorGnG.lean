/- Parts. -/
import Derived.Test.YtdbaealhapgjaaaGreatDoorKpG
import Derived.Sort.Walk0
set_option linter.all false
set_option maxRecDepth 100000
set_option maxHeartbeats 8000000
namespace Go.Proofs.YtdbaealhapgjaaaGreatDoor
open Go Go.RowKit Go.Proofs.Tryz

section
variable {w:World} {A:Option Addr} {n c:Nat} {ps:List (List UInt8×List UInt8)} {ls:List Lay}
end

section
variable {w:World} {l:List UInt8}
theorem jDb (h:l.length < 1∨24 < l.length):Calls prog 143 #[bs l] w fun e w'=>e= .returned (.bool false)∧Below w.heap.size w w':=by
 by_cases h1:l.length < 1
 ·have q1:decide ((l.length:Int) < 1)=true:=by rw [decide_eq_true_iff];omega
  clear h h1;go_enter func143,ntmps143;go_wp2;go_ret;exact ⟨rfl,bi⟩
 ·have q1:decide ((l.length:Int) < 1)=false:=by rw [decide_eq_false_iff_not];omega
  have q2:decide ((24:Int) < (l.length:Int))=true:=by rw [decide_eq_true_iff];omega
  clear h h1;go_enter func143,ntmps143;go_wp2;go_ret;exact ⟨rfl,bi⟩
theorem jDk {R:Bool} (h0:1≤l.length) (h24:l.length≤24) (hR:l.all (fun c=>jz5 c.toNat)=R):Calls prog 143 #[bs l] w fun e w'=>e= .returned (.bool R)∧Below w.heap.size w w':=by
 have q1:decide ((l.length:Int) < 1)=false:=by rw [decide_eq_false_iff_not];omega
 have q2:decide ((24:Int) < (l.length:Int))=false:=by rw [decide_eq_false_iff_not];omega
 have HR:=qh hR;have HN:=qh h24;clear hR h0 h24;go_enter func143,ntmps143;go_wp2;clear q1 q2
 go_loopw [3] (fun u wr=>∃(i:Nat),u= .int .i64 (i:Int)∧i≤l.length∧Below w.heap.size w wr∧(l.drop i).all (fun c=>jz5 c.toNat)=R) (fun u _=>l.length - (intOf u).toNat)
 case atStart=>exact ⟨0,rfl,Nat.zero_le _,bi,HR.o⟩
 case round=>
  obtain ⟨i,rfl,hin,hb,hc⟩:=hrel;have _:=bm hb;have hnn:=HN.o;by_cases hi:i < l.length
  ·have p0:decide (i < l.length)=true:=by simpa using hi
   rw [List.drop_eq_getElem_cons hi,List.all_cons] at hc;obtain ⟨c,hcc⟩:∃c,l[i]=c:=⟨_,rfl⟩;rw [hcc] at hc;have hx:=jaW hi (show l.getD i 0=c by rw [List.getD_eq_getElem?_getD,List.getElem?_eq_getElem hi];exact hcc);obtain ⟨r,hr⟩:∃r,c.toNat=r:=⟨_,rfl⟩;have hr256:r < 256:=hr ▸ c.toNat_lt;rw [hr] at hc;have HI:=qh hi;clear hcc;cases hg:jz5 r with
   | true=>
     have HALL:Hd ((l.drop (i+1)).all (fun c=>jz5 c.toNat)=R):=qh (by rw [←hc,hg];simp);simp only [jz5,Bool.or_eq_true,Bool.and_eq_true,decide_eq_true_eq,beq_iff_eq] at hg;clear hc;rcases hg with ((((h1|h1)|h1)|h1)|h1)|h1
     ·have q1:decide ((97:Int)≤(r:Int))=true:=by simp;omega
      have q2:decide ((r:Int)≤122)=true:=by simp;omega
      have q3:decide ((65:Int)≤(r:Int))=true:=by simp;omega
      have q4:decide ((r:Int)≤90)=false:=by simp;omega
      have q5:decide ((48:Int)≤(r:Int))=true:=by simp;omega
      have q6:decide ((r:Int)≤57)=false:=by simp;omega
      have q7:((r:Int)==45)=false:=by simp;omega
      have q8:((r:Int)==95)=false:=by simp;omega
      have q9:((r:Int)==46)=false:=by simp;omega
      clear h1;go_wp2;exact ⟨⟨i+1,by simp,HI.o,bi,HALL.o⟩,by have:=HI.o;simp [intOf];omega⟩
     ·have q1:decide ((97:Int)≤(r:Int))=false:=by simp;omega
      have q2:decide ((r:Int)≤122)=true:=by simp;omega
      have q3:decide ((65:Int)≤(r:Int))=true:=by simp;omega
      have q4:decide ((r:Int)≤90)=true:=by simp;omega
      have q5:decide ((48:Int)≤(r:Int))=true:=by simp;omega
      have q6:decide ((r:Int)≤57)=false:=by simp;omega
      have q7:((r:Int)==45)=false:=by simp;omega
      have q8:((r:Int)==95)=false:=by simp;omega
      have q9:((r:Int)==46)=false:=by simp;omega
      clear h1;go_wp2;exact ⟨⟨i+1,by simp,HI.o,bi,HALL.o⟩,by have:=HI.o;simp [intOf];omega⟩
     ·have q1:decide ((97:Int)≤(r:Int))=false:=by simp;omega
      have q2:decide ((r:Int)≤122)=true:=by simp;omega
      have q3:decide ((65:Int)≤(r:Int))=false:=by simp;omega
      have q4:decide ((r:Int)≤90)=true:=by simp;omega
      have q5:decide ((48:Int)≤(r:Int))=true:=by simp;omega
      have q6:decide ((r:Int)≤57)=true:=by simp;omega
      have q7:((r:Int)==45)=false:=by simp;omega
      have q8:((r:Int)==95)=false:=by simp;omega
      have q9:((r:Int)==46)=false:=by simp;omega
      clear h1;go_wp2;exact ⟨⟨i+1,by simp,HI.o,bi,HALL.o⟩,by have:=HI.o;simp [intOf];omega⟩
     ·have q1:decide ((97:Int)≤(r:Int))=false:=by simp;omega
      have q2:decide ((r:Int)≤122)=true:=by simp;omega
      have q3:decide ((65:Int)≤(r:Int))=false:=by simp;omega
      have q4:decide ((r:Int)≤90)=true:=by simp;omega
      have q5:decide ((48:Int)≤(r:Int))=false:=by simp;omega
      have q6:decide ((r:Int)≤57)=true:=by simp;omega
      have q7:((r:Int)==45)=true:=by simp;omega
      have q8:((r:Int)==95)=false:=by simp;omega
      have q9:((r:Int)==46)=false:=by simp;omega
      clear h1;go_wp2;exact ⟨⟨i+1,by simp,HI.o,bi,HALL.o⟩,by have:=HI.o;simp [intOf];omega⟩
     ·have q1:decide ((97:Int)≤(r:Int))=false:=by simp;omega
      have q2:decide ((r:Int)≤122)=true:=by simp;omega
      have q3:decide ((65:Int)≤(r:Int))=true:=by simp;omega
      have q4:decide ((r:Int)≤90)=false:=by simp;omega
      have q5:decide ((48:Int)≤(r:Int))=true:=by simp;omega
      have q6:decide ((r:Int)≤57)=false:=by simp;omega
      have q7:((r:Int)==45)=false:=by simp;omega
      have q8:((r:Int)==95)=true:=by simp;omega
      have q9:((r:Int)==46)=false:=by simp;omega
      clear h1;go_wp2;exact ⟨⟨i+1,by simp,HI.o,bi,HALL.o⟩,by have:=HI.o;simp [intOf];omega⟩
     ·have q1:decide ((97:Int)≤(r:Int))=false:=by simp;omega
      have q2:decide ((r:Int)≤122)=true:=by simp;omega
      have q3:decide ((65:Int)≤(r:Int))=false:=by simp;omega
      have q4:decide ((r:Int)≤90)=true:=by simp;omega
      have q5:decide ((48:Int)≤(r:Int))=false:=by simp;omega
      have q6:decide ((r:Int)≤57)=true:=by simp;omega
      have q7:((r:Int)==45)=false:=by simp;omega
      have q8:((r:Int)==95)=false:=by simp;omega
      have q9:((r:Int)==46)=true:=by simp;omega
      clear h1;go_wp2;exact ⟨⟨i+1,by simp,HI.o,bi,HALL.o⟩,by have:=HI.o;simp [intOf];omega⟩
   | false=>
     have hR2:false=R:=by rw [←hc,hg];simp
     subst hR2
     have h1:r < 45∨r=47∨(58≤r∧r≤64)∨(91≤r∧r≤94)∨r=96∨123≤r:=by
      simp [jz5] at hg;omega
     clear hg hc HR;rcases h1 with h1|h1|h1|h1|h1|h1
     ·have q1:decide ((97:Int)≤(r:Int))=false:=by simp;omega
      have q2:decide ((r:Int)≤122)=true:=by simp;omega
      have q3:decide ((65:Int)≤(r:Int))=false:=by simp;omega
      have q4:decide ((r:Int)≤90)=true:=by simp;omega
      have q5:decide ((48:Int)≤(r:Int))=false:=by simp;omega
      have q6:decide ((r:Int)≤57)=true:=by simp;omega
      have q7:((r:Int)==45)=false:=by simp;omega
      have q8:((r:Int)==95)=false:=by simp;omega
      have q9:((r:Int)==46)=false:=by simp;omega
      clear h1;go_wp2;go_ret;exact ⟨rfl,bi⟩
     ·have q1:decide ((97:Int)≤(r:Int))=false:=by simp;omega
      have q2:decide ((r:Int)≤122)=true:=by simp;omega
      have q3:decide ((65:Int)≤(r:Int))=false:=by simp;omega
      have q4:decide ((r:Int)≤90)=true:=by simp;omega
      have q5:decide ((48:Int)≤(r:Int))=false:=by simp;omega
      have q6:decide ((r:Int)≤57)=true:=by simp;omega
      have q7:((r:Int)==45)=false:=by simp;omega
      have q8:((r:Int)==95)=false:=by simp;omega
      have q9:((r:Int)==46)=false:=by simp;omega
      clear h1;go_wp2;go_ret;exact ⟨rfl,bi⟩
     ·have q1:decide ((97:Int)≤(r:Int))=false:=by simp;omega
      have q2:decide ((r:Int)≤122)=true:=by simp;omega
      have q3:decide ((65:Int)≤(r:Int))=false:=by simp;omega
      have q4:decide ((r:Int)≤90)=true:=by simp;omega
      have q5:decide ((48:Int)≤(r:Int))=true:=by simp;omega
      have q6:decide ((r:Int)≤57)=false:=by simp;omega
      have q7:((r:Int)==45)=false:=by simp;omega
      have q8:((r:Int)==95)=false:=by simp;omega
      have q9:((r:Int)==46)=false:=by simp;omega
      clear h1;go_wp2;go_ret;exact ⟨rfl,bi⟩
     ·have q1:decide ((97:Int)≤(r:Int))=false:=by simp;omega
      have q2:decide ((r:Int)≤122)=true:=by simp;omega
      have q3:decide ((65:Int)≤(r:Int))=true:=by simp;omega
      have q4:decide ((r:Int)≤90)=false:=by simp;omega
      have q5:decide ((48:Int)≤(r:Int))=true:=by simp;omega
      have q6:decide ((r:Int)≤57)=false:=by simp;omega
      have q7:((r:Int)==45)=false:=by simp;omega
      have q8:((r:Int)==95)=false:=by simp;omega
      have q9:((r:Int)==46)=false:=by simp;omega
      clear h1;go_wp2;go_ret;exact ⟨rfl,bi⟩
     ·have q1:decide ((97:Int)≤(r:Int))=false:=by simp;omega
      have q2:decide ((r:Int)≤122)=true:=by simp;omega
      have q3:decide ((65:Int)≤(r:Int))=true:=by simp;omega
      have q4:decide ((r:Int)≤90)=false:=by simp;omega
      have q5:decide ((48:Int)≤(r:Int))=true:=by simp;omega
      have q6:decide ((r:Int)≤57)=false:=by simp;omega
      have q7:((r:Int)==45)=false:=by simp;omega
      have q8:((r:Int)==95)=false:=by simp;omega
      have q9:((r:Int)==46)=false:=by simp;omega
      clear h1;go_wp2;go_ret;exact ⟨rfl,bi⟩
     ·have q1:decide ((97:Int)≤(r:Int))=true:=by simp;omega
      have q2:decide ((r:Int)≤122)=false:=by simp;omega
      have q3:decide ((65:Int)≤(r:Int))=true:=by simp;omega
      have q4:decide ((r:Int)≤90)=false:=by simp;omega
      have q5:decide ((48:Int)≤(r:Int))=true:=by simp;omega
      have q6:decide ((r:Int)≤57)=false:=by simp;omega
      have q7:((r:Int)==45)=false:=by simp;omega
      have q8:((r:Int)==95)=false:=by simp;omega
      have q9:((r:Int)==46)=false:=by simp;omega
      clear h1;go_wp2;go_ret;exact ⟨rfl,bi⟩
  ·have p0:decide (i < l.length)=false:=by simp;omega
   rw [List.drop_eq_nil_of_le (by omega)] at hc;have hR2:true=R:=by rw [←hc];rfl
   subst hR2;clear hc hi HR;go_wp2;go_ret;exact ⟨rfl,bi⟩
theorem jCC {g:Bool} (hg:jyT l=g):Calls prog 143 #[bs l] w fun e w'=>e= .returned (.bool g)∧Below w.heap.size w w':=by
 subst hg;unfold jyT;by_cases h:l.length < 1∨24 < l.length
 ·have e:(decide (1≤l.length) && decide (l.length≤24))=false:=by
   rw [Bool.and_eq_false_iff,decide_eq_false_iff_not,decide_eq_false_iff_not];omega
  rw [Bool.and_assoc,e,Bool.and_false];exact jDb h
 ·rw [decide_eq_true (show 1≤l.length by omega),decide_eq_true (show l.length≤24 by omega),Bool.and_true,Bool.and_true];exact jDk (by omega) (by omega) rfl
end
theorem jD8 (x:Rat):(tq x==[49])=decide (x=1):=by
 have e:tq (1:Rat)=[49]:=by decide+kernel
 by_cases h:x=1
 ·subst h;rw [e,decide_eq_true rfl];rfl
 ·rw [decide_eq_false h,beq_eq_false_iff_ne];intro h2;exact h (jtt (h2.trans e.symm))
section
variable {w:World} {A:Option Addr} {n c:Nat} {ls:List (List UInt8×List UInt8)} {d:Nat}
theorem jCH:Calls prog 144 #[.slice A 0 c] w fun e w'=>e= .returned (.int .i64 2)∧Below w.heap.size w w':=by
 go_enter func144,ntmps144;go_wp2;go_ret;exact ⟨rfl,bi⟩
theorem jCB (hn:64 < n):Calls prog 144 #[.slice A n c] w fun e w'=>e= .returned (.int .i64 5)∧Below w.heap.size w w':=by
 have q0:((n:Int)==0)=false:=by rw [beq_eq_false_iff_ne];omega
 have q1:decide ((64:Int) < (n:Int))=true:=by rw [decide_eq_true_iff];omega
 clear hn;go_enter func144,ntmps144;go_wp2;go_ret;exact ⟨rfl,bi⟩
theorem jD7 {k:Int} (hv:Pv w A n ls) (h0:0 < n) (hn:n≤64) (hd:d≤8000) (hB:n*(d+1)≤8384) (hd0:0 < d) (hl:∀p∈ls,p.2.length≤d) (hk:jBm 0 none ls=k):
  Calls prog 144 #[.slice A n c] w fun e w'=>e= .returned (.int .i64 k)∧Below w.heap.size w w':=by
 have q0:((n:Int)==0)=false:=by rw [beq_eq_false_iff_ne];omega
 have q1:decide ((64:Int) < (n:Int))=false:=by rw [decide_eq_false_iff_not];omega
 have HV:=qh hv;have HN:=qh hn;have HK:=qh hk;have HD:=qh (ai hd hd0)
 have HL:Hd (∀i,i < n→(ls.getD i ([],[])).2.length≤d):=qh (fun i hi=>by
  have hil:i < ls.length:=by rw [hv.len];exact hi
  rw [List.getD_eq_getElem?_getD,List.getElem?_eq_getElem hil];exact hl _ (List.getElem_mem hil))
 have HB:Hd (∀i,i≤n→i*(d+1)+1≤8500):=qh (fun i hi=>by
  have:=Nat.mul_le_mul_right (d+1) hi
  omega)
 clear hv h0 hn hl hk hd hd0 hB;go_enter func144,ntmps144;go_wp2
 go_loopw [3,4] (fun v u wr=>∃(i:Nat) (s:Rat),u= .int .i64 (i:Int)∧v=bs (tq s)∧i≤n∧Below w.heap.size w wr∧Dz (i*(d+1)+1) s∧jBm s (jzn ls i) (ls.drop i)=k) (fun _ u _=>n - (intOf u).toNat)
 case atStart=>exact ⟨0,0,rfl,by rw [jnF],by omega,bi,(show Dz 1 (0:Rat) from ⟨by decide+kernel,by decide+kernel⟩).mono (by omega),HK.o⟩
 case round=>
  obtain ⟨i,s,rfl,rfl,hin,hb,hs,hc⟩:=hrel;have _:=bm hb;have HS:=qh hs;have HC:=qh hc;clear hs hc;by_cases hi:i < n
  ·have p0:decide (i < n)=true:=by simpa using hi
   have hnn:=HN.o;obtain ⟨b,o,rfl,hbl,hcell⟩:=(HV.o.below hb).at_ (by omega);obtain ⟨hx,hy⟩:=hcell i hi;have hil:i < ls.length:=by rw [HV.o.len];exact hi
   have HLI:=qh (HL.o i hi);have hc:=HC.o;rw [jd5 (d:=([],[])) hil,jBm] at hc;have hnext:jzn ls (i+1)=some (ls.getD i ([],[])).1:=by rw [jzn,if_neg (by omega)];rfl
   obtain ⟨x1,hx1⟩:∃x,(ls.getD i ([],[])).1=x:=⟨_,rfl⟩;obtain ⟨x2,hx2⟩:∃x,(ls.getD i ([],[])).2=x:=⟨_,rfl⟩;rw [hx1,hx2] at hc;rw [hx1] at hx hnext;rw [hx2] at hy HLI;have HNX:=qh hnext;have HI:=qh hi;obtain ⟨X,hX⟩:∃x,tq s=x:=⟨_,rfl⟩;rw [hX];have HXX:=qh hX;clear hil hx1 hx2 hnext HC hX;obtain ⟨g,hg⟩:∃g,jyT x1=g:=⟨_,rfl⟩;have HNM:=qh (fun W=>jCC (w:=W) hg);cases g with
   | false=>
     rw [hg,if_pos rfl] at hc;subst hc;clear hg hi hcell;go_wp2_with (go_at_call 143;(with_reducible refine mo0 (HNM.o _) fun w2 hb2 hc2 hf2 _=> ?_))
     go_ret;exact ⟨rfl,bi⟩
   | true=>
     rw [hg,if_neg (by simp)] at hc;clear hg;cases hp:jAS (jzn ls i) x1 with
     | true=>
       rw [hp,if_pos rfl] at hc;subst hc
       obtain ⟨i',rfl⟩:∃i',i=i'+1:=by
        cases i with
        | zero=>simp [jzn,jAS] at hp
        | succ i'=>exact ⟨i',rfl⟩
       rw [jzn,if_neg (by omega),Nat.add_sub_cancel] at hp;obtain ⟨hz,_⟩:=hcell i' (by omega);obtain ⟨y1,hy1⟩:∃y,(ls.getD i' ([],[])).1=y:=⟨_,rfl⟩;rw [hy1] at hz hp;have q2:jtr x1 y1=true:=hp;have q4:(i':Int) < (n:Int):=by omega
       have q5:IntKind.i64.wrap (i':Int)=(i':Int):=by simp [IntKind.wrap,IntKind.bits,IntKind.signed];omega
       have q3:decide ((0:Int) < (i':Int)+1)=true:=by rw [decide_eq_true_iff];omega
       have q8:(i':Int)+1 < (n:Int):=by omega
       have q7:decide ((i':Int)+1 < (n:Int))=true:=by rw [decide_eq_true_iff];omega
       clear hi hcell hp hy1;go_upto_region 11 with (go_at_call 143;(with_reducible refine mo0 (HNM.o _) fun w2 hb2 hc2 hf2 _=> ?_))
       go_quiet (fail)
       go_wp2;go_ret;exact ⟨rfl,bi⟩
     | false=>
       rw [hp,if_neg (by simp)] at hc;have HP:=qh hp;have HC:=qh hc;have HCE:=qh hcell;clear hi hp hc hcell;go_upto_region 11 with (go_at_call 143;(with_reducible refine mo0 (HNM.o _) fun w2 hb2 hc2 hf2 _=> ?_))
       go_cut [40] (fun u wx=>u= .bool false∧Below w2.heap.size w2 wx)
       case first=>
        cases i with
        | zero=>
          go_quiet (fail)
          go_wp2;go_meet;exact ⟨rfl,bi⟩
        | succ i'=>
          have hin':=HI.o;have hp:=HP.o;rw [jzn,if_neg (by omega),Nat.add_sub_cancel] at hp;obtain ⟨hz,_⟩:=HCE.o i' (by omega);obtain ⟨y1,hy1⟩:∃y,(ls.getD i' ([],[])).1=y:=⟨_,rfl⟩;rw [hy1] at hz hp;have q2:jtr x1 y1=false:=hp;have q4:(i':Int) < (n:Int):=by omega
          have q5:IntKind.i64.wrap (i':Int)=(i':Int):=by simp [IntKind.wrap,IntKind.bits,IntKind.signed];omega
          have q3:decide ((0:Int) < (i':Int)+1)=true:=by rw [decide_eq_true_iff];omega
          clear hp hy1
          go_quiet (fail)
          go_wp2;go_meet;exact ⟨rfl,bi⟩
       case rest=>
        obtain ⟨rfl,hbc⟩:=hcut;have _:=bm hbc;have hi:=HI.o;have j1:wc.cell? ⟨b,o+i*2+1,none⟩=some (bs x2):=ja9 hbc (ja9 hb2 hy);have zb:b < wc.heap.size:=World.block_lt_of_cell? wc _ j1;obtain ⟨cv,hcv⟩:∃cv,chk x2=cv:=⟨_,rfl⟩;have HCK:=qh (fun W=>jpl (w:=W) hcv (by have:=HLI.o;have:=HD.o;omega));have hc:=HC.o;clear HCE HP hc2 hf2 HC hx hy;by_cases hk2:cv=0
        ·subst hk2;rw [hcv,if_neg (by simp)] at hc;have hxn:=jjb hcv;obtain ⟨x,hxv⟩:∃x,numQ x2=x:=⟨_,rfl⟩;rw [hxv] at hc hxn;have dx:Dz d x:=hxn.dzl HLI.o HD.o.2;have hbd:=HB.o i hin;have hdd:=HD.o;obtain ⟨sg,hsg⟩:∃z,sgn x.num=z:=⟨_,rfl⟩;have HSG:=qh (fun W=>jqN (w:=W) hsg dx (by omega) (by omega));have HAD:=qh (fun W=>jto (w:=W) HS.o dx (by omega) (by omega) (by omega) (by omega));have DN:Hd (Dz ((i+1)*(d+1)+1) (s+x)):=qh ((HS.o.add dx).mono (by rw [Nat.add_mul];omega));unfold QP at HAD;rw [HXX.o] at HAD;rw [←hxn.eq] at HSG HAD;obtain ⟨R,hR⟩:∃r,tq (s+x)=r:=⟨_,rfl⟩;rw [hR] at HAD;have HRR:=qh hR;by_cases hx0:x≤0
         ·rw [if_pos hx0] at hc;subst hc;have q2:decide (sg≤0)=true:=by rw [decide_eq_true_iff,←hsg];exact jC8 hx0
          clear hcv hxn hxv dx hbd hdd hsg hR hx0;go_wp2_with (first|((go_at_call 12;(with_reducible refine mo0 (HCK.o _) fun w3 hb3 hc3 hf3 _=> ?_));(first|have y3_0:=szl (k:=b) hb3 (by first|go_size|fail)|have y3_0:=Nat.one_pos))|((go_at_call 19;(with_reducible refine mo0 (HSG.o _) fun w4 hb4 hc4 hf4 _=> ?_));(first|have y4_0:=szl (k:=b) hb4 (by first|go_size|fail)|have y4_0:=Nat.one_pos)))
          go_ret;exact ⟨rfl,bi⟩
         ·rw [if_neg hx0,←HNX.o] at hc;have q2:decide (sg≤0)=false:=by rw [decide_eq_false_iff_not,←hsg];exact jBO hx0
          have HC2:=qh hc;clear hc hcv hxn hxv dx hbd hdd hsg hR hx0;go_wp2_with (first|((go_at_call 12;(with_reducible refine mo0 (HCK.o _) fun w3 hb3 hc3 hf3 _=> ?_));(first|have y3_0:=szl (k:=b) hb3 (by first|go_size|fail)|have y3_0:=Nat.one_pos))|((go_at_call 19;(with_reducible refine mo0 (HSG.o _) fun w4 hb4 hc4 hf4 _=> ?_));(first|have y4_0:=szl (k:=b) hb4 (by first|go_size|fail)|have y4_0:=Nat.one_pos))|(go_at_call 16;(with_reducible refine mo0 (HAD.o _) fun w5 hb5 hc5 hf5 _=> ?_)))
          exact ⟨⟨i+1,s+x,by simp,by rw [HRR.o],HI.o,bi,DN.o,HC2.o⟩,by have:=HI.o;simp [intOf];omega⟩
        ·rw [hcv,if_pos hk2] at hc;subst hc;have q2:(cv != 0)=true:=by rw [bne_iff_ne];exact hk2
         clear hcv hk2;go_wp2_with (first|(go_at_call 12;(with_reducible refine mo0 (HCK.o _) fun w3 hb3 hc3 hf3 _=> ?_)))
         go_ret;exact ⟨rfl,bi⟩
  ·have p0:decide (i < n)=false:=by simp;omega
   have hc:=HC.o;rw [List.drop_eq_nil_of_le (by rw [HV.o.len];omega),jBm] at hc;have q2:=jD8 s;obtain ⟨X,hX⟩:∃x,tq s=x:=⟨_,rfl⟩;rw [hX] at q2;by_cases h1:s=1
   ·rw [if_pos h1] at hc;subst hc;have q3:(X != [49])=false:=by rw [bne,q2,decide_eq_true h1];rfl
    have q4:(X==[49])=true:=by rw [q2,decide_eq_true h1]
    rw [hX];clear HK HC HS q2 h1 hX hi hin HB;go_wp2;go_ret;exact ⟨rfl,bi⟩
   ·rw [if_neg h1] at hc;subst hc;have q3:(X != [49])=true:=by rw [bne,q2,decide_eq_false h1];rfl
    have q4:(X==[49])=false:=by rw [q2,decide_eq_false h1]
    rw [hX];clear HK HC HS q2 h1 hX hi hin HB;go_wp2;go_ret;exact ⟨rfl,bi⟩
theorem jCQ {k:Int} (hk:jyU ls=k) (hv:Pv w A n ls) (hd:d≤130) (hd0:0 < d) (hl:∀p∈ls,p.2.length≤d):Calls prog 144 #[.slice A n c] w fun e w'=>e= .returned (.int .i64 k)∧Below w.heap.size w w':=by
 unfold jyU at hk;rw [hv.len] at hk;by_cases h0:n=0
 ·subst h0;rw [if_pos rfl] at hk;subst hk;exact jCH
 ·rw [if_neg h0] at hk;by_cases h1:64 < n
  ·rw [if_pos h1] at hk;subst hk;exact jCB h1
  ·rw [if_neg h1] at hk;exact jD7 hv (by omega) (by omega) (by omega) (Nat.le_trans (Nat.mul_le_mul (show n≤64 by omega) (show d+1≤131 by omega)) (by omega)) hd0 hl hk
end

abbrev ly (g:List UInt8) (m:Int) (A:Option Addr) (n c:Nat):Value:= .agg #[bs g, .int .i64 m, .slice A n c]
section
variable {w:World} {A B:Option Addr} {n m c c':Nat} {ps qs:List (List UInt8×List UInt8)} {g g':List UInt8} {z z':Int} {d:Nat}
theorem jD5 {k:Int} (hk:jyQ ⟨g,z,ps⟩=k) (hv:Pv w A ps.length ps) (hd:d≤130) (hd0:0 < d) (hl:∀p∈ps,p.2.length≤d):Calls prog 88 #[ly g z A ps.length c] w fun e w'=>e= .returned (.int .i64 k)∧Below w.heap.size w w':=by
 unfold jyQ at hk;dsimp only at hk;obtain ⟨b,hb⟩:∃b,jyT g=b:=⟨_,rfl⟩;have HN:=qh (fun W=>jCC (w:=W) hb);obtain ⟨s,hs⟩:∃s,jyU ps=s:=⟨_,rfl⟩;have HS:=qh (fun W (hW:Below w.heap.size w W)=>jCQ (c:=c) hs (hv.below hW) hd hd0 hl);obtain ⟨n,hn⟩:∃n,ps.length=n:=⟨_,rfl⟩;rw [hn] at HS ⊢;rw [hb,hs] at hk;clear hb hs hn hv hl hd hd0;cases b with
 | false=>
   rw [if_pos rfl] at hk;subst hk;go_enter func88,ntmps88;go_wp2_with (go_at_call 143;(with_reducible refine mo1 w (HN.o _) (by go_size) fun w1 hb1 hc1 hf1 z1_0 _=> ?_))
   go_ret;exact ⟨rfl,bi⟩
 | true=>
   rw [if_neg (by simp)] at hk;by_cases h1:z < 1
   ·rw [if_pos (.inl h1)] at hk;subst hk;have q1:decide (z < 1)=true:=by rw [decide_eq_true_iff];exact h1
    clear h1;go_enter func88,ntmps88;go_wp2_with (go_at_call 143;(with_reducible refine mo1 w (HN.o _) (by go_size) fun w1 hb1 hc1 hf1 z1_0 _=> ?_))
    go_ret;exact ⟨rfl,bi⟩
   ·have q1:decide (z < 1)=false:=by rw [decide_eq_false_iff_not];exact h1
    by_cases h2:999999999 < z
    ·rw [if_pos (.inr h2)] at hk;subst hk;have q2:decide (999999999 < z)=true:=by rw [decide_eq_true_iff];exact h2
     clear h1 h2;go_enter func88,ntmps88;go_wp2_with (go_at_call 143;(with_reducible refine mo1 w (HN.o _) (by go_size) fun w1 hb1 hc1 hf1 z1_0 _=> ?_))
     go_ret;exact ⟨rfl,bi⟩
    ·rw [if_neg (by omega)] at hk;subst hk;have q2:decide (999999999 < z)=false:=by rw [decide_eq_false_iff_not];exact h2
     clear h1 h2;go_enter func88,ntmps88;go_wp2_with (first|(go_at_call 143;(with_reducible refine mo1 w (HN.o _) (by go_size) fun w1 hb1 hc1 hf1 z1_0 _=> ?_))|(go_at_call 144;(with_reducible refine mo1 w (HS.o _ bi) (by go_size) fun w2 hb2 hc2 hf2 z2_0 _=> ?_)))
     go_ret;exact ⟨rfl,bi⟩
end

noncomputable def lots (ks:List (List UInt8)) (cs:List (List UInt8×Rat)):List (List UInt8×List UInt8):=ks.map (fun x=>(x,tq (tot cs x)))
section
variable {ks:List (List UInt8)} {cs:List (List UInt8×Rat)} {y:List UInt8} {r:Rat} {i:Nat}
end

theorem jAL (a:List (List UInt8×List UInt8)):(shs a).length=a.length*2:=by
 induction a with
 | nil=>rfl
 | cons q r ih=>rw [show shs (q::r)=shs [q]++shs r from jwL [q] r,List.length_append,ih];simp [shs];omega
theorem jBx {a:List (List UInt8×List UInt8)}:∀u∈shs a,u.oneCell'=true:=by
 intro u hu;simp only [shs,List.mem_flatMap] at hu;obtain ⟨p,_,hp⟩:=hu;simp at hp;rcases hp with rfl|rfl <;> rfl
theorem jBj {w:World} {base n m b o c:Nat} {v:Value} {ps qs:List (List UInt8×List UInt8)} (h:jzd w base v n ps) (hn:n≤100000) (hm:m≤100000) (hb:base≤w.heap.size) (hq:qs.length=m)
  (hc:∀j,j < m→w.cell? ⟨b,o+j*2,none⟩=some (bs (qs.getD j ([],[])).1)∧w.cell? ⟨b,o+j*2+1,none⟩=some (bs (qs.getD j ([],[])).2)):
  ∃v' w',(Builtin.append_ #[35,35] 35 #[v, .slice (some ⟨b,o,none⟩) m c]).run prog w= .ok v' w'∧jzd w' base v' (n+m) (ps++qs)∧w.grownBy w' v.ownBlock∧(v'.ownBlock=v.ownBlock∨v'.ownBlock=some w.heap.size):=by
 obtain ⟨i,hi,hz0,hz1,hz2⟩:=info_parts jA3
 obtain ⟨v',w',hr,k1,k2,_,k3⟩:=run_append_own_at (P:=prog) w base 35 35 75 i _ 2 32 underlying35 hi hz0 hz1 hz2 rfl (by decide) v n (shs ps) h ⟨b,o,none⟩ m c (shs qs) (by rw [jAL,hq])
  (by
    intro j u hu
    have hj:j < m*2:=by
     have:=(List.getElem?_eq_some_iff.1 hu).1;rw [jAL,hq] at this;exact this
    have e:(⟨b,o,none⟩:Addr).add j=⟨b,o+j,none⟩:=by unfold Addr.add;split <;> simp_all
    rw [e];have hs:=jyq qs (j / 2) (j % 2) (by omega) (by omega);rw [show j / 2*2+j % 2=j by omega,hu] at hs;obtain ⟨k0,k1⟩:=hc (j / 2) (by omega);rcases Nat.mod_two_eq_zero_or_one j with hz|hz
    ·rw [hz] at hs;simp [shs] at hs;rw [show o+j=o+j / 2*2 by omega,k0,hs];simp
    ·rw [hz] at hs;simp [shs] at hs;rw [show o+j=o+j / 2*2+1 by omega,k1,hs]
     simp)
  jBx
  (by simp only [maxLen];omega) (by omega) hb
 exact ⟨v',w',hr,by rw [jzd,jwL];exact k1,k2,k3⟩
end Go.Proofs.YtdbaealhapgjaaaGreatDoor
namespace Go.Proofs.YtdbaealhapgjaaaGreatDoor
open Go Go.RowKit Go.Sort Go.Proofs.Tryz

theorem jBC (w:World):jzd (w.alloc (.cells #[] 75)) w.heap.size (.slice (some ⟨w.heap.size,0,none⟩) 0 0) 0 []:=World.ownsRow_made w #[] 0 (Nat.le_refl _) (Nat.zero_le _) rfl
theorem jz9 {ops:Array Oper} {rest:List Oper} {o:Oper} {a:Act} {Q:Exit→Act→World→Prop} {w:World} {base n m N b d c:Nat} {v:Value} {ps qs:List (List UInt8×List UInt8)} (hg:o.guard=none) (s y:Operand)
  (ho:o.op= .call { callee:= .builtin .append,args:= #[s,y],argTypes:= #[35,35] }) (ht:o.type=35) (hs:a.eval s=v) (hy:a.eval y= .slice (some ⟨b,d,none⟩) m c)
  (h:jzd w base v n ps) (hn:n≤100000) (hm:m≤100000) (hN:n+m=N) (hb:base≤w.heap.size) (hq:qs.length=m)
  (hc:∀j,j < m→w.cell? ⟨b,d+j*2,none⟩=some (bs (qs.getD j ([],[])).1)∧w.cell? ⟨b,d+j*2+1,none⟩=some (bs (qs.getD j ([],[])).2))
  (hK:∀A' c' w',jzd w' base (.slice A' N c') N (ps++qs)→w.grownBy w' v.ownBlock→((Value.slice A' N c').ownBlock=v.ownBlock∨(Value.slice A' N c').ownBlock=some w.heap.size)→wpList prog ops Q rest (a.put o.dst (.slice A' N c')) w'):wpList prog ops Q (o::rest) a w:=by
 subst hN;obtain ⟨v',w',hr,k1,k2,k3⟩:=jBj h hn hm hb hq hc;obtain ⟨A',c',rfl⟩:=k1.slice;refine wpList_plain hg fun K' hK'=> ?_
 exact jiI s y ho hs hy (by rw [ht];exact hr) (hK' _ _ (hK A' c' w' k1 k2 k3))
theorem jAG:∀{ps:List (List UInt8×List UInt8)} {i:Nat} {t:List UInt8},(shs ps).set (i*2+1) (bs t)=shs (ps.set i ((ps.getD i ([],[])).1,t))
 | [],i,t=>by simp [shs]
 | p::r,0,t=>by simp [shs]
 | p::r,i+1,t=>by
   have h:=jAG (ps:=r) (i:=i) (t:=t);rw [show (i+1)*2+1=(i*2+1)+1+1 by omega];simp only [shs,List.flatMap_cons,List.cons_append,List.nil_append,List.set_cons_succ,List.getD_cons_succ] at h ⊢;rw [h]
theorem jzd.put {w:World} {base g n c i:Nat} {ps:List (List UInt8×List UInt8)} {t:List UInt8} (h:jzd w base (.slice (some ⟨g,0,none⟩) n c) n ps):
  jzd (w.setCell ⟨g,i*2+1,none⟩ (bs t)) base (.slice (some ⟨g,0,none⟩) n c) n (ps.set i ((ps.getD i ([],[])).1,t))∧w.grownBy (w.setCell ⟨g,i*2+1,none⟩ (bs t)) (some g):=by
 have:=World.ownsRow.stored h (i*2+1) (bs t);rw [jAG] at this;exact this
section
variable {w:World} {A:Option Addr} {c k m:Nat} {ks:List (List UInt8)} {cs:List (List UInt8×Rat)} {y:List UInt8} {r:Rat}
end
end Go.Proofs.YtdbaealhapgjaaaGreatDoor
