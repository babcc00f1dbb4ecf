/- Parts. -/
import Derived.Test.YthciialjockjmaaGreatDoorMqG
set_option linter.all false
set_option maxRecDepth 100000
set_option maxHeartbeats 8000000
namespace Go.Proofs.YthciialjockjmaaGreatDoor
open Go Go.RowKit

def jjg (a b:List UInt8):Bool:=Op.bytesLess a b || a==b
@[go_sem] theorem jqk (t : TypeId) (x y : List UInt8) : binOp .leq t (.string ⟨x.toArray⟩) (.string ⟨y.toArray⟩) = pure (.bool (jjg x y)) := by
  simp [binOp,Op.stringOp,jjg,Lib.toList_data]
def jf7 (p:Option (List UInt8)) (x:List UInt8):Bool:=match p with
 | some q=>jjg x q
 | none=>false
noncomputable def jjF (s:Rat) (p:Option (List UInt8)):List (List UInt8×List UInt8)→Int
 | []=>if s=1 then 0 else 12
 | x::r=>if jb8 x.1=false then 8 else if jf7 p x.1=true then 11 else if chk x.2≠0 then chk x.2 else if numQ x.2≤0 then 12 else jjF (s+numQ x.2) (some x.1) r
noncomputable def jb0 (ls:List (List UInt8×List UInt8)):Int:=if ls.length=0 then 2 else if 64 < ls.length then 5 else jjF 0 none ls
def jeh (ls:List (List UInt8×List UInt8)) (i:Nat):Option (List UInt8):=if i=0 then none else some (ls.getD (i - 1) ([],[])).1
theorem jf3 {w:World} {s t u v:Int} {A B C D:Option Addr} {n c m d i k j l:Nat} {x y:Rat} {z:Bool} (p q:Nat) (hz:decide (x=y)=z) (h:RepF w s A n c t B m d x) (h':RepF w u C i k v D j l y) (hs:Sz p x) (hs':Sz q y) (hpq:p+q < 100000):
  Calls Tryz.prog 187 #[fv s A n c t B m d,fv u C i k v D j l] w fun e w'=>e= .returned (.bool z)∧Below w.heap.size w w':=hz ▸ jlo h h' hs hs' hpq
theorem jpG {x:Rat} (h:x≤0):sgn x.num≤0:=by
 have:¬0 < x.num:=fun h1=>Rat.not_lt.2 h (by rw [Rat.lt_iff];simpa using h1)
 unfold sgn
 rw [if_neg this]
 split <;> omega
theorem joy {x:Rat} (h:¬x≤0):¬sgn x.num≤0:=by
 have h1:=Rat.not_le.1 h
 rw [Rat.lt_iff] at h1
 have h2:0 < x.num:=by simpa using h1
 unfold sgn
 rw [if_neg (by omega),if_pos h2]
 omega
theorem jpn {w w':World} {b o:Nat} (h:Below w.heap.size w w') (hb:b < w.heap.size):w'.frozen? ⟨b,o,none⟩=w.frozen? ⟨b,o,none⟩:=by
 simp only [World.frozen?,h.block b hb]
section
variable {w:World} {A:Option Addr} {n c:Nat} {ls:List (List UInt8×List UInt8)}
theorem jhz:Calls Tryz.prog 158 #[.slice A 0 c] w fun e w'=>e= .returned (.int .i64 2)∧Below w.heap.size w w':=by
 go_enter Tryz.func158,Tryz.ntmps158
 go_wp2
 go_ret
 exact ⟨rfl,(bq (by with_reducible repeat' first|assumption|constructor|go_size))⟩
theorem jhm (hn:64 < n):Calls Tryz.prog 158 #[.slice A n c] w fun e w'=>e= .returned (.int .i64 5)∧Below w.heap.size w w':=by
 have q0:((n:Int)==0)=false:=by rw [beq_eq_false_iff_ne];omega
 have q1:decide ((64:Int) < (n:Int))=true:=by rw [decide_eq_true_iff];omega
 clear hn
 go_enter Tryz.func158,Tryz.ntmps158
 go_wp2
 go_ret
 exact ⟨rfl,(bq (by with_reducible repeat' first|assumption|constructor|go_size))⟩
theorem jkr {k:Int} (hE:Env w) (hv:Pv w A n ls) (h0:0 < n) (hn:n≤64) (hl:∀p∈ls,p.1.length < 4294967281∧p.2.length < 4294967281) (hk:jjF 0 none ls=k):
  Calls Tryz.prog 158 #[.slice A n c] w fun e w'=>e= .returned (.int .i64 k)∧Below w.heap.size w w':=by
 have q0:((n:Int)==0)=false:=by rw [beq_eq_false_iff_ne];omega
 have q1:decide ((64:Int) < (n:Int))=false:=by rw [decide_eq_false_iff_not];omega
 have HE:=qh hE
 have HV:=qh hv
 have HN:=qh hn
 have HK:=qh hk
 have HL:Hid (∀i,i < n→(ls.getD i ([],[])).2.length < 4294967281):=qh (fun i hi=>by
  have hil:i < ls.length:=by rw [hv.len];exact hi
  rw [List.getD_eq_getElem?_getD,List.getElem?_eq_getElem hil];exact (hl _ (List.getElem_mem hil)).2)
 have H0:Hid (((0:Int):Rat)=0):=qh rfl
 have HR0:Hid (R64 0):=qh ⟨by decide,by decide⟩
 clear hE hv h0 hn hl hk
 go_enter Tryz.func158,Tryz.ntmps158
 go_wp2_with ((go_at_call 66;(with_reducible refine (jef H0.out HR0.out).mono ?_);rintro e1 w1 ⟨s1,A1,n1,c1,t1,B1,m1,d1,rfl,⟨hr1,hq1⟩,hb1⟩;obtain ⟨hc1,hf1⟩:=ja0 hb1;(try simp only [dw] at hc1 hf1)))
 go_loopw [17] (fun u wr=>∃(i:Nat) (s:Rat) (ss:Int) (As:Option Addr) (ns cs:Nat) (ts:Int) (Bs:Option Addr) (ms ds:Nat),u= .int .i64 (i:Int)∧Below w.heap.size w wr∧i≤n∧w1.heap.size < wr.heap.size
   ∧wr.cell? ⟨w1.heap.size,0,none⟩=some (.int .i64 ss)∧wr.cell? ⟨w1.heap.size,1,none⟩=some (.slice As ns cs)∧wr.cell? ⟨w1.heap.size,2,none⟩=some (.int .i64 ts)∧wr.cell? ⟨w1.heap.size,3,none⟩=some (.slice Bs ms ds)
   ∧(∀o,wr.frozen? ⟨w1.heap.size,o,none⟩=false)
   ∧RepF wr ss As ns cs ts Bs ms ds s∧Sz (i*601+1) s∧jjF s (jeh ls i) (ls.drop i)=k) (fun u _=>n - (intOf u).toNat)
 case atStart=>
  exact ⟨0,0,s1,A1,n1,c1,t1,B1,m1,d1,rfl,(bq (by with_reducible repeat' first|assumption|constructor|go_size)),by omega,by simp,by simp [go_sem],by simp [go_sem],by simp [go_sem],by simp [go_sem],by intro o;simp [go_sem],⟨(by with_reducible repeat first|assumption|apply rD|apply rN|apply rA|refine rP ?_ rfl (by simp [go_sem,hc1])|refine rB ?_ ‹_›),(by with_reducible repeat first|assumption|apply rD|apply rN|apply rA|refine rP ?_ rfl (by simp [go_sem,hc1])|refine rB ?_ ‹_›)⟩,by have:=(jdb HR0.out);rw [H0.out] at this;exact this.mono (by omega),HK.out⟩
 case round=>
  obtain ⟨i,s,ss,As,ns,cs,ts,Bs,ms,ds,rfl,hb,hin,hsz,e0,e1,e2,e3,f0,hrs,hss,hc⟩:=hrel
  have HM:=qh hrs
  have HSS:=qh hss
  have HC:=qh hc
  clear hrs hss hc
  by_cases hi:i < n
  ·have p0:decide ((i:Int) < (n:Int))=true:=by simp;exact hi
   have hnn:=HN.out
   obtain ⟨b,o,rfl,hbl,hcell⟩:=(HV.out.below hb).at_ (by omega)
   obtain ⟨hx,hy⟩:=hcell i hi
   have hil:i < ls.length:=by rw [HV.out.len];exact hi
   have HLI:=qh (HL.out i hi)
   have hc:=HC.out
   rw [jaZ (d:=([],[])) hil,jjF] at hc
   have hnext:jeh ls (i+1)=some (ls.getD i ([],[])).1:=by rw [jeh,if_neg (by omega)];rfl
   obtain ⟨x1,hx1⟩:∃x,(ls.getD i ([],[])).1=x:=⟨_,rfl⟩
   obtain ⟨x2,hx2⟩:∃x,(ls.getD i ([],[])).2=x:=⟨_,rfl⟩
   rw [hx1,hx2] at hc
   rw [hx1] at hx hnext
   rw [hx2] at hy HLI
   have HNX:=qh hnext
   have HI:=qh hi
   clear hil hx1 hx2 hnext HC
   cases hg:jb8 x1 with
   | false=>
     rw [hg,if_pos rfl] at hc
     subst hc
     have HG:=qh hg
     clear hg hi hcell
     go_wp2_with (go_at_call 25;(with_reducible refine (jaG HG.out).mono ?_);rintro e2 w2 ⟨rfl,hb2⟩;obtain ⟨hc2,hf2⟩:=ja0 hb2;(try simp only [dw] at hc2 hf2))
     go_ret
     exact ⟨rfl,(bq (by with_reducible repeat' first|assumption|constructor|go_size))⟩
   | true=>
     rw [hg,if_neg (by simp)] at hc
     have HG:=qh hg
     clear hg
     cases hp:jf7 (jeh ls i) x1 with
     | true=>
       rw [hp,if_pos rfl] at hc
       subst hc
       obtain ⟨i',rfl⟩:∃i',i=i'+1:=by
        cases i with
        | zero=>simp [jeh,jf7] at hp
        | succ i'=>exact ⟨i',rfl⟩
       rw [jeh,if_neg (by omega),Nat.add_sub_cancel] at hp
       obtain ⟨hz,_⟩:=hcell i' (by omega)
       obtain ⟨y1,hy1⟩:∃y,(ls.getD i' ([],[])).1=y:=⟨_,rfl⟩
       rw [hy1] at hz hp
       have q2:jjg x1 y1=true:=hp
       have q4:(i':Int) < (n:Int):=by omega
       have q5:IntKind.i64.wrap (i':Int)=(i':Int):=by simp [IntKind.wrap,IntKind.bits,IntKind.signed];omega
       have q3:decide ((0:Int) < (i':Int)+1)=true:=by rw [decide_eq_true_iff];omega
       have q8:(i':Int)+1 < (n:Int):=by omega
       have q7:decide ((i':Int)+1 < (n:Int))=true:=by rw [decide_eq_true_iff];omega
       clear hi hcell hp hy1
       go_upto_region 11 with (go_at_call 25;(with_reducible refine (jaG HG.out).mono ?_);rintro e2 w2 ⟨rfl,hb2⟩;obtain ⟨hc2,hf2⟩:=ja0 hb2;(try simp only [dw] at hc2 hf2))
       go_quiet (fail)
       go_wp2
       go_ret
       exact ⟨rfl,(bq (by with_reducible repeat' first|assumption|constructor|go_size))⟩
     | false=>
       rw [hp,if_neg (by simp)] at hc
       have HP:=qh hp
       have HC:=qh hc
       have HCE:=qh hcell
       clear hi hp hc hcell
       go_upto_region 11 with (go_at_call 25;(with_reducible refine (jaG HG.out).mono ?_);rintro e2 w2 ⟨rfl,hb2⟩;obtain ⟨hc2,hf2⟩:=ja0 hb2;(try simp only [dw] at hc2 hf2))
       go_cut [38] (fun u wx=>u= .bool false∧Below w2.heap.size w2 wx)
       case first=>
        cases i with
        | zero=>
          go_quiet (fail)
          go_wp2
          go_meet
          exact ⟨rfl,(bq (by with_reducible repeat' first|assumption|constructor|go_size))⟩
        | succ i'=>
          have hin':=HI.out
          have hp:=HP.out
          rw [jeh,if_neg (by omega),Nat.add_sub_cancel] at hp
          obtain ⟨hz,_⟩:=HCE.out i' (by omega)
          obtain ⟨y1,hy1⟩:∃y,(ls.getD i' ([],[])).1=y:=⟨_,rfl⟩
          rw [hy1] at hz hp
          have q2:jjg x1 y1=false:=hp
          have q4:(i':Int) < (n:Int):=by omega
          have q5:IntKind.i64.wrap (i':Int)=(i':Int):=by simp [IntKind.wrap,IntKind.bits,IntKind.signed];omega
          have q3:decide ((0:Int) < (i':Int)+1)=true:=by rw [decide_eq_true_iff];omega
          clear hp hy1
          go_quiet (fail)
          go_wp2
          go_meet
          exact ⟨rfl,(bq (by with_reducible repeat' first|assumption|constructor|go_size))⟩
       case rest=>
        obtain ⟨rfl,hbc⟩:=hcut
        clear HCE HP hc2 hf2
        have hbW:Below w.heap.size w wc:=ja3 (ja3 (ja7 hb _) hb2) hbc
        have hszc:w1.heap.size < wc.heap.size:=Nat.lt_of_lt_of_le hsz (Nat.le_trans (by have:=hb2.size;simp at this;omega) hbc.size)
        have hbz:wr.heap.size < wc.heap.size:=Nat.lt_of_lt_of_le (by have:=hb2.size;simp at this;omega) hbc.size
        have hbr:Below (wr.alloc (.cells #[bs x1,bs x2] 56)).heap.size (wr.alloc (.cells #[bs x1,bs x2] 56)) wc:=ja3 hb2 hbc
        have j0:wc.cell? ⟨wr.heap.size,0,none⟩=some (bs x1):=ja6 hbr (by simp)
        have j1:wc.cell? ⟨wr.heap.size,1,none⟩=some (bs x2):=ja6 hbr (by simp)
        have hbw2:Below wr.heap.size wr wc:=ja3 (ja7 (Below.refl _ _) _) hbr
        have g0:=ja6 hbw2 e0
        have g1:=ja6 hbw2 e1
        have g2:=ja6 hbw2 e2
        have g3:=ja6 hbw2 e3
        have gf:∀o,wc.frozen? ⟨w1.heap.size,o,none⟩=false:=fun o=>(jpn hbw2 hsz).trans (f0 o)
        have HM2:=qh (HM.out.below hbw2)
        have HEc:=qh (HE.out.below hbW)
        obtain ⟨B5,hB5⟩:∃B,wr.heap.size=B:=⟨_,rfl⟩
        rw [hB5] at hbz j0 j1
        simp only [hB5]
        clear hb hb2 hbc hbr hbw2 e0 e1 e2 e3 f0 HM hB5
        by_cases hk2:chk x2=0
        ·have hc:=HC.out
         rw [if_neg (by simpa using hk2)] at hc
         have HKZ:=qh hk2
         have hxn:=jbw hk2
         obtain ⟨x,hxv⟩:∃x,numQ x2=x:=⟨_,rfl⟩
         rw [hxv] at hc hxn
         have HX:=qh hxn
         have HXS:=qh hxn.sz
         clear hk2 hxn hxv HC
         obtain ⟨sg,hsg⟩:∃z,sgn x.num=z:=⟨_,rfl⟩
         have HSG:=qh hsg
         by_cases h0:x≤0
         ·rw [if_pos h0] at hc
          subst hc
          have q9:decide (sg≤0)=true:=by
           rw [decide_eq_true_iff,←hsg];exact jpG h0
          clear h0 hsg
          go_wp2_with (first
           | (go_at_call 28;(with_reducible refine (jaN HKZ.out (HEc.out.below (bq (by with_reducible repeat' first|assumption|constructor|go_size))) HLI.out).mono ?_);rintro e3 w3 ⟨rfl,hb3⟩;obtain ⟨hc3,hf3⟩:=ja0 hb3;(try simp only [dw] at hc3 hf3))
           | (go_at_call 32;(with_reducible refine (jav HX.out (HEc.out.below (bq (by with_reducible repeat' first|assumption|constructor|go_size)))).mono ?_);rintro e4 w4 ⟨s4,A4,n4,c4,t4,B4,m4,d4,rfl,⟨hr4,hq4⟩,hb4⟩;obtain ⟨hc4,hf4⟩:=ja0 hb4;(try simp only [dw] at hc4 hf4))
           | (go_at_call 80;(with_reducible refine (jb5 HSG.out ⟨(by with_reducible repeat first|assumption|apply rD|apply rN|apply rA|refine rP ?_ rfl (by simp [go_sem,hc4])|refine rB ?_ ‹_›),(by with_reducible repeat first|assumption|apply rD|apply rN|apply rA|refine rP ?_ rfl (by simp [go_sem,hc4])|refine rB ?_ ‹_›)⟩).mono ?_);rintro e5 w5 ⟨rfl,hb5⟩;obtain ⟨hc5,hf5⟩:=ja0 hb5;(try simp only [dw] at hc5 hf5)))
          go_ret
          exact ⟨rfl,(bq (by with_reducible repeat' first|assumption|constructor|go_size))⟩
         ·rw [if_neg h0] at hc
          have q9:decide (sg≤0)=false:=by
           rw [decide_eq_false_iff_not,←hsg];exact joy h0
          have HC:=qh hc
          clear h0 hsg hc
          have hle:w.heap.size≤w1.heap.size:=hb1.size
          go_wp2_with (first
           | ((go_at_call 28;(with_reducible refine (jaN HKZ.out (HEc.out.below (bq (by with_reducible repeat' first|assumption|constructor|go_size))) HLI.out).mono ?_);rintro e3 w3 ⟨rfl,hb3⟩;obtain ⟨hc3,hf3⟩:=ja0 hb3;(try simp only [dw] at hc3 hf3));(first|have y3_0:w1.heap.size < w3.heap.size:=(by have:=hb3.size;(try simp at this);omega)|have y3_0:=Nat.one_pos);(first|have y3_1:B5 < w3.heap.size:=(by have:=hb3.size;(try simp at this);omega)|have y3_1:=Nat.one_pos))
           | ((go_at_call 32;(with_reducible refine (jav HX.out (HEc.out.below (bq (by with_reducible repeat' first|assumption|constructor|go_size)))).mono ?_);rintro e4 w4 ⟨s4,A4,n4,c4,t4,B4,m4,d4,rfl,⟨hr4,hq4⟩,hb4⟩;obtain ⟨hc4,hf4⟩:=ja0 hb4;(try simp only [dw] at hc4 hf4));(first|have y4_0:w1.heap.size < w4.heap.size:=(by have:=hb4.size;(try simp at this);omega)|have y4_0:=Nat.one_pos);(first|have y4_1:B5 < w4.heap.size:=(by have:=hb4.size;(try simp at this);omega)|have y4_1:=Nat.one_pos))
           | ((go_at_call 80;(with_reducible refine (jb5 HSG.out ⟨(by with_reducible repeat first|assumption|apply rD|apply rN|apply rA|refine rP ?_ rfl (by simp [go_sem,hc4])|refine rB ?_ ‹_›),(by with_reducible repeat first|assumption|apply rD|apply rN|apply rA|refine rP ?_ rfl (by simp [go_sem,hc4])|refine rB ?_ ‹_›)⟩).mono ?_);rintro e5 w5 ⟨rfl,hb5⟩;obtain ⟨hc5,hf5⟩:=ja0 hb5;(try simp only [dw] at hc5 hf5));(first|have y5_0:w1.heap.size < w5.heap.size:=(by have:=hb5.size;(try simp at this);omega)|have y5_0:=Nat.one_pos);(first|have y5_1:B5 < w5.heap.size:=(by have:=hb5.size;(try simp at this);omega)|have y5_1:=Nat.one_pos);(first|have y5_2:w4.heap.size < w5.heap.size:=(by have:=hb5.size;(try simp at this);omega)|have y5_2:=Nat.one_pos))
           | ((go_at_call 67;(with_reducible refine (jd6 (i*601+1) 600 rfl (HM2.out.below (bq (by with_reducible repeat' first|assumption|constructor|go_size))) ⟨(by with_reducible repeat first|assumption|apply rD|apply rN|apply rA|refine rP ?_ rfl (by simp [go_sem,hc4])|refine rB ?_ ‹_›),(by with_reducible repeat first|assumption|apply rD|apply rN|apply rA|refine rP ?_ rfl (by simp [go_sem,hc4])|refine rB ?_ ‹_›)⟩ HSS.out HXS.out (by have:=HI.out;omega)).mono ?_);rintro e6 w6 ⟨s6,A6,n6,c6,t6,B6,m6,d6,rfl,⟨hr6,hq6⟩,hb6⟩;obtain ⟨hc6,hf6⟩:=ja0 hb6;(try simp only [dw] at hc6 hf6));(first|have y6_0:w1.heap.size < w6.heap.size:=(by have:=hb6.size;(try simp at this);omega)|have y6_0:=Nat.one_pos)))
          have bW6:Below wc.heap.size wc w6:=(bq (by with_reducible repeat' first|assumption|constructor|go_size))
          have k60:=ja6 bW6 g0
          have k61:=ja6 bW6 g1
          have k62:=ja6 bW6 g2
          have k63:=ja6 bW6 g3
          have kf:∀o,w6.frozen? ⟨w1.heap.size,o,none⟩=false:=fun o=>(jpn bW6 hszc).trans (gf o)
          exact ⟨⟨i+1,s+x,s6,A6,n6,c6,t6,B6,m6,d6,by simp,(bq (by with_reducible repeat' first|assumption|constructor|go_size)),HI.out,by simp;exact y6_0,by simp [go_sem,k60,k61,k62,k63],by simp [go_sem,k60,k61,k62,k63],by simp [go_sem,k60,k61,k62,k63],by simp [go_sem,k60,k61,k62,k63],by intro o;simp [go_sem,kf],⟨(by with_reducible repeat first|assumption|apply rD|apply rN|apply rA|refine rP ?_ rfl (by simp [go_sem,k60,k61,k62,k63])|refine rB ?_ ‹_›),(by with_reducible repeat first|assumption|apply rD|apply rN|apply rA|refine rP ?_ rfl (by simp [go_sem,k60,k61,k62,k63])|refine rB ?_ ‹_›)⟩,(HSS.out.add HXS.out).mono (by omega),by rw [HNX.out];exact HC.out⟩,by have:=HI.out;simp [intOf];omega⟩
        ·have hc:=HC.out
         rw [if_pos hk2] at hc
         obtain ⟨y,hy'⟩:∃y,chk x2=y:=⟨_,rfl⟩
         rw [hy'] at hc hk2
         subst hc
         have HKZ:=qh hy'
         have q9:(y != 0)=true:=by rw [bne_iff_ne];exact hk2
         clear hk2 hy' HC
         go_wp2_with (go_at_call 28;(with_reducible refine (jaN HKZ.out (HEc.out.below (bq (by with_reducible repeat' first|assumption|constructor|go_size))) HLI.out).mono ?_);rintro e3 w3 ⟨rfl,hb3⟩;obtain ⟨hc3,hf3⟩:=ja0 hb3;(try simp only [dw] at hc3 hf3))
         go_ret
         exact ⟨rfl,(bq (by with_reducible repeat' first|assumption|constructor|go_size))⟩
  ·have p0:decide (i < n)=false:=by simp;omega
   have hc:=HC.out
   rw [List.drop_eq_nil_of_le (by rw [HV.out.len];omega),jjF] at hc
   have hin:i≤64:=by have:=HN.out;omega
   have H1:Hid (((1:Int):Rat)=1):=qh rfl
   have HR1:Hid (R64 1):=qh ⟨by decide,by decide⟩
   have HS1:Hid (Sz 1 (1:Rat)):=qh (by have:=(jdb HR1.out);rw [H1.out] at this;exact this)
   obtain ⟨z,hz⟩:∃z,decide (s=1)=z:=⟨_,rfl⟩
   have hk:k=if z then 0 else 12:=by rw [←hc,←hz];by_cases h:s=1 <;> simp [h]
   have HZ:=qh hz
   subst hk
   clear hi HC hc hz
   cases z with
   | true=>
     go_upto_region 21 with (fail)
     refine ja4 (fun w'=>Below wr.heap.size wr w') [] (by kernel_rfl) ?_
     refine tb 0 (fv ss As ns cs ts Bs ms ds) [] rfl (by kernel_rfl) (fun _ _ _ h=>h) (by rfl) (by intros;go_simp) bq0 ?_
     simp only [ppq]
     refine rd1 1 (by kernel_rfl) rfl (fun K hK=> ?_)
     go_simp
     go_wp2_with (go_at_call 66;(with_reducible refine (jef H1.out HR1.out).mono ?_);rintro e7 w7 ⟨s7,A7,n7,c7,t7,B7,m7,d7,rfl,⟨hr7,hq7⟩,hb7⟩;obtain ⟨hc7,hf7⟩:=ja0 hb7;(try simp only [dw] at hc7 hf7))
     have sS7:=qh (bst bq0 hb7)
     refine hK.out _ _ (fun _=>sS7.out) ?_
     clear hK K
     refine rd1 2 (by kernel_rfl) rfl (fun K hK=> ?_)
     go_simp
     go_wp2_with (go_at_call 187;(with_reducible refine (jf3 (i*601+1) 1 HZ.out (HM.out.below (bq (by with_reducible repeat' first|assumption|constructor|go_size))) ⟨hr7,hq7⟩ HSS.out HS1.out (by omega)).mono ?_);rintro e8 w8 ⟨rfl,hb8⟩;obtain ⟨hc8,hf8⟩:=ja0 hb8;(try simp only [dw] at hc8 hf8))
     have sS8:=qh (bst sS7.out hb8)
     refine hK.out _ _ (fun _=>sS8.out) ?_
     clear hK K
     refine rd1 3 (by kernel_rfl) rfl (fun K hK=> ?_)
     go_simp
     refine hK.out _ _ (fun _=>(bq (by with_reducible repeat' first|assumption|constructor|go_size))) ?_
     clear hK K
     refine ja2 (by kernel_rfl) ?_ _
     go_wp2
     go_ret
     exact ⟨rfl,(bq (by with_reducible repeat' first|assumption|constructor|go_size))⟩
   | false=>
     go_upto_region 21 with (fail)
     refine ja4 (fun w'=>Below wr.heap.size wr w') [] (by kernel_rfl) ?_
     refine tb 0 (fv ss As ns cs ts Bs ms ds) [] rfl (by kernel_rfl) (fun _ _ _ h=>h) (by rfl) (by intros;go_simp) bq0 ?_
     simp only [ppq]
     refine rd1 1 (by kernel_rfl) rfl (fun K hK=> ?_)
     go_simp
     go_wp2_with (go_at_call 66;(with_reducible refine (jef H1.out HR1.out).mono ?_);rintro e7 w7 ⟨s7,A7,n7,c7,t7,B7,m7,d7,rfl,⟨hr7,hq7⟩,hb7⟩;obtain ⟨hc7,hf7⟩:=ja0 hb7;(try simp only [dw] at hc7 hf7))
     have sS7:=qh (bst bq0 hb7)
     refine hK.out _ _ (fun _=>sS7.out) ?_
     clear hK K
     refine rd1 2 (by kernel_rfl) rfl (fun K hK=> ?_)
     go_simp
     go_wp2_with (go_at_call 187;(with_reducible refine (jf3 (i*601+1) 1 HZ.out (HM.out.below (bq (by with_reducible repeat' first|assumption|constructor|go_size))) ⟨hr7,hq7⟩ HSS.out HS1.out (by omega)).mono ?_);rintro e8 w8 ⟨rfl,hb8⟩;obtain ⟨hc8,hf8⟩:=ja0 hb8;(try simp only [dw] at hc8 hf8))
     have sS8:=qh (bst sS7.out hb8)
     refine hK.out _ _ (fun _=>sS8.out) ?_
     clear hK K
     refine rd1 3 (by kernel_rfl) rfl (fun K hK=> ?_)
     go_simp
     refine hK.out _ _ (fun _=>(bq (by with_reducible repeat' first|assumption|constructor|go_size))) ?_
     clear hK K
     refine ja2 (by kernel_rfl) ?_ _
     go_wp2
     go_ret
     exact ⟨rfl,(bq (by with_reducible repeat' first|assumption|constructor|go_size))⟩
end
end Go.Proofs.YthciialjockjmaaGreatDoor
