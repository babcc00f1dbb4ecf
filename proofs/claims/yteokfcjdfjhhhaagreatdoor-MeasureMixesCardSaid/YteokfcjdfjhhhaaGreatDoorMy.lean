/- Parts. -/
import Derived.Test.YteokfcjdfjhhhaaGreatDoorMqG
set_option linter.all false
set_option maxRecDepth 100000
set_option maxHeartbeats 8000000
namespace Go.Proofs.YteokfcjdfjhhhaaGreatDoor
open Go Go.RowKit

def jgk (a b:List UInt8):Bool:=Op.bytesLess a b || a==b
@[go_sem] theorem jrV (t : TypeId) (x y : List UInt8) : binOp .leq t (.string ⟨x.toArray⟩) (.string ⟨y.toArray⟩) = pure (.bool (jgk x y)) := by
  simp [binOp,Op.stringOp,jgk,Lib.toList_data]
def jcZ (p:Option (List UInt8)) (x:List UInt8):Bool:=match p with
 | some q=>jgk x q
 | none=>false
noncomputable def jgL (s:Rat) (p:Option (List UInt8)):List (List UInt8×List UInt8)→Int
 | []=>if s=1 then 0 else 12
 | x::r=>if jaZ x.1=false then 8 else if jcZ p x.1=true then 11 else if chk x.2≠0 then chk x.2 else if numQ x.2≤0 then 12 else jgL (s+numQ x.2) (some x.1) r
noncomputable def jaw (ls:List (List UInt8×List UInt8)):Int:=if ls.length=0 then 2 else if 64 < ls.length then 5 else jgL 0 none ls
def jbK (ls:List (List UInt8×List UInt8)) (i:Nat):Option (List UInt8):=if i=0 then none else some (ls.getD (i - 1) ([],[])).1
theorem jfC {w:World} {s t u v:Int} {A B C D:Option Addr} {n c m d i k j l:Nat} {x y:Rat} {z:Bool} (p q:Nat) (hz:decide (x=y)=z) (h:RepF w s A n c t B m d x) (h':RepF w u C i k v D j l y) (hs:Sz p x) (hs':Sz q y) (hpq:p+q < 100000):
  Calls Tryz.prog 34 #[fv s A n c t B m d,fv u C i k v D j l] w fun e w'=>e= .returned (.bool z)∧Below w.heap.size w w':=hz ▸ jkZ h h' hs hs' hpq
theorem jpu {x:Rat} (h:x≤0):sgn x.num≤0:=by
 have:¬0 < x.num:=fun h1=>Rat.not_lt.2 h (by rw [Rat.lt_iff];simpa using h1)
 unfold sgn;rw [if_neg this];split <;> omega
theorem jlq {x:Rat} (h:¬x≤0):¬sgn x.num≤0:=by
 have h1:=Rat.not_le.1 h;rw [Rat.lt_iff] at h1;have h2:0 < x.num:=by simpa using h1
 unfold sgn;rw [if_neg (by omega),if_pos h2];omega
theorem jrL {w w':World} {b o:Nat} (h:Below w.heap.size w w') (hb:b < w.heap.size):w'.frozen? ⟨b,o,none⟩=w.frozen? ⟨b,o,none⟩:=by
 simp only [World.frozen?,h.block b hb]
section
variable {w:World} {A:Option Addr} {n c:Nat} {ls:List (List UInt8×List UInt8)}
theorem jid:Calls Tryz.prog 7 #[.slice A 0 c] w fun e w'=>e= .returned (.int .i64 2)∧Below w.heap.size w w':=by
 go_enter Tryz.func7,Tryz.ntmps7;go_wp2;go_ret;exact ⟨rfl,bi⟩
theorem jiO (hn:64 < n):Calls Tryz.prog 7 #[.slice A n c] w fun e w'=>e= .returned (.int .i64 5)∧Below w.heap.size w w':=by
 have q0:((n:Int)==0)=false:=by rw [beq_eq_false_iff_ne];omega
 have q1:decide ((64:Int) < (n:Int))=true:=by rw [decide_eq_true_iff];omega
 clear hn;go_enter Tryz.func7,Tryz.ntmps7;go_wp2;go_ret;exact ⟨rfl,bi⟩
theorem jme {k:Int} (hE:Env w) (hv:Pv w A n ls) (h0:0 < n) (hn:n≤64) (hl:∀p∈ls,p.1.length < 4294967281∧p.2.length < 4294967281) (hk:jgL 0 none ls=k):
  Calls Tryz.prog 7 #[.slice A n c] w fun e w'=>e= .returned (.int .i64 k)∧Below w.heap.size w w':=by
 have q0:((n:Int)==0)=false:=by rw [beq_eq_false_iff_ne];omega
 have q1:decide ((64:Int) < (n:Int))=false:=by rw [decide_eq_false_iff_not];omega
 have HE:=qh hE;have HV:=qh hv;have HN:=qh hn;have HK:=qh hk
 have HL:Hid (∀i,i < n→(ls.getD i ([],[])).2.length < 4294967281):=qh (fun i hi=>by
  have hil:i < ls.length:=by rw [hv.len];exact hi
  rw [List.getD_eq_getElem?_getD,List.getElem?_eq_getElem hil];exact (hl _ (List.getElem_mem hil)).2)
 have H0:Hid (((0:Int):Rat)=0):=qh rfl;have HR0:Hid (R64 0):=qh ⟨by decide,by decide⟩;clear hE hv h0 hn hl hk;go_enter Tryz.func7,Tryz.ntmps7;go_wp2_with ((go_at_call 29;(with_reducible refine mf0 (jeV H0.out HR0.out) fun w1 s1 A1 n1 c1 t1 B1 m1 d1 hr1 hq1 hb1 hc1 hf1 _=> ?_)))
 go_loopw [17] (fun u wr=>∃(i:Nat) (s:Rat) (ss:Int) (As:Option Addr) (ns cs:Nat) (ts:Int) (Bs:Option Addr) (ms ds:Nat),u= .int .i64 (i:Int)∧Below w.heap.size w wr∧i≤n∧w1.heap.size < wr.heap.size
   ∧wr.cell? ⟨w1.heap.size,0,none⟩=some (.int .i64 ss)∧wr.cell? ⟨w1.heap.size,1,none⟩=some (.slice As ns cs)∧wr.cell? ⟨w1.heap.size,2,none⟩=some (.int .i64 ts)∧wr.cell? ⟨w1.heap.size,3,none⟩=some (.slice Bs ms ds)
   ∧(∀o,wr.frozen? ⟨w1.heap.size,o,none⟩=false)
   ∧RepF wr ss As ns cs ts Bs ms ds s∧Sz (i*601+1) s∧jgL s (jbK ls i) (ls.drop i)=k) (fun u _=>n - (intOf u).toNat)
 case atStart=>
  exact ⟨0,0,s1,A1,n1,c1,t1,B1,m1,d1,rfl,bi,by omega,by simp,by simp [go_sem],by simp [go_sem],by simp [go_sem],by simp [go_sem],by intro o;simp [go_sem],⟨(by with_reducible repeat first|assumption|apply rZ|refine rP ?_ rfl (by simp [go_sem,hc1])),(by with_reducible repeat first|assumption|apply rZ|refine rP ?_ rfl (by simp [go_sem,hc1]))⟩,by have:=(jdG HR0.out);rw [H0.out] at this;exact this.mono (by omega),HK.out⟩
 case round=>
  obtain ⟨i,s,ss,As,ns,cs,ts,Bs,ms,ds,rfl,hb,hin,hsz,e0,e1,e2,e3,f0,hrs,hss,hc⟩:=hrel;have _:=bm hb;have HM:=qh hrs;have HSS:=qh hss;have HC:=qh hc;clear hrs hss hc;by_cases hi:i < n
  ·have p0:decide ((i:Int) < (n:Int))=true:=by simp;exact hi
   have hnn:=HN.out;obtain ⟨b,o,rfl,hbl,hcell⟩:=(HV.out.below hb).at_ (by omega);obtain ⟨hx,hy⟩:=hcell i hi;have hil:i < ls.length:=by rw [HV.out.len];exact hi
   have HLI:=qh (HL.out i hi);have hc:=HC.out;rw [jaH (d:=([],[])) hil,jgL] at hc;have hnext:jbK ls (i+1)=some (ls.getD i ([],[])).1:=by rw [jbK,if_neg (by omega)];rfl
   obtain ⟨x1,hx1⟩:∃x,(ls.getD i ([],[])).1=x:=⟨_,rfl⟩;obtain ⟨x2,hx2⟩:∃x,(ls.getD i ([],[])).2=x:=⟨_,rfl⟩;rw [hx1,hx2] at hc;rw [hx1] at hx hnext;rw [hx2] at hy HLI;have HNX:=qh hnext;have HI:=qh hi;clear hil hx1 hx2 hnext HC;cases hg:jaZ x1 with
   | false=>
     rw [hg,if_pos rfl] at hc;subst hc;have HG:=qh hg;clear hg hi hcell;go_wp2_with (go_at_call 27;(with_reducible refine mo0 (jaK HG.out) fun w2 hb2 hc2 hf2 _=> ?_))
     go_ret;exact ⟨rfl,bi⟩
   | true=>
     rw [hg,if_neg (by simp)] at hc;have HG:=qh hg;clear hg;cases hp:jcZ (jbK ls i) x1 with
     | true=>
       rw [hp,if_pos rfl] at hc;subst hc
       obtain ⟨i',rfl⟩:∃i',i=i'+1:=by
        cases i with
        | zero=>simp [jbK,jcZ] at hp
        | succ i'=>exact ⟨i',rfl⟩
       rw [jbK,if_neg (by omega),Nat.add_sub_cancel] at hp;obtain ⟨hz,_⟩:=hcell i' (by omega);obtain ⟨y1,hy1⟩:∃y,(ls.getD i' ([],[])).1=y:=⟨_,rfl⟩;rw [hy1] at hz hp;have q2:jgk x1 y1=true:=hp;have q4:(i':Int) < (n:Int):=by omega
       have q5:IntKind.i64.wrap (i':Int)=(i':Int):=by simp [IntKind.wrap,IntKind.bits,IntKind.signed];omega
       have q3:decide ((0:Int) < (i':Int)+1)=true:=by rw [decide_eq_true_iff];omega
       have q8:(i':Int)+1 < (n:Int):=by omega
       have q7:decide ((i':Int)+1 < (n:Int))=true:=by rw [decide_eq_true_iff];omega
       clear hi hcell hp hy1;go_upto_region 11 with (go_at_call 27;(with_reducible refine mo0 (jaK HG.out) fun w2 hb2 hc2 hf2 _=> ?_))
       go_quiet (fail)
       go_wp2;go_ret;exact ⟨rfl,bi⟩
     | false=>
       rw [hp,if_neg (by simp)] at hc;have HP:=qh hp;have HC:=qh hc;have HCE:=qh hcell;clear hi hp hc hcell;go_upto_region 11 with (go_at_call 27;(with_reducible refine mo0 (jaK HG.out) fun w2 hb2 hc2 hf2 _=> ?_))
       go_cut [38] (fun u wx=>u= .bool false∧Below w2.heap.size w2 wx)
       case first=>
        cases i with
        | zero=>
          go_quiet (fail)
          go_wp2;go_meet;exact ⟨rfl,bi⟩
        | succ i'=>
          have hin':=HI.out;have hp:=HP.out;rw [jbK,if_neg (by omega),Nat.add_sub_cancel] at hp;obtain ⟨hz,_⟩:=HCE.out i' (by omega);obtain ⟨y1,hy1⟩:∃y,(ls.getD i' ([],[])).1=y:=⟨_,rfl⟩;rw [hy1] at hz hp;have q2:jgk x1 y1=false:=hp;have q4:(i':Int) < (n:Int):=by omega
          have q5:IntKind.i64.wrap (i':Int)=(i':Int):=by simp [IntKind.wrap,IntKind.bits,IntKind.signed];omega
          have q3:decide ((0:Int) < (i':Int)+1)=true:=by rw [decide_eq_true_iff];omega
          clear hp hy1
          go_quiet (fail)
          go_wp2;go_meet;exact ⟨rfl,bi⟩
       case rest=>
        obtain ⟨rfl,hbc⟩:=hcut;have _:=bm hbc;clear HCE HP hc2 hf2;have hbW:Below w.heap.size w wc:=ja1 (ja1 (ja4 hb _) hb2) hbc;have hszc:w1.heap.size < wc.heap.size:=Nat.lt_of_lt_of_le hsz (Nat.le_trans (by have:=hb2.size;simp at this;omega) hbc.size);have hbz:wr.heap.size < wc.heap.size:=Nat.lt_of_lt_of_le (by have:=hb2.size;simp at this;omega) hbc.size;have hbr:Below (wr.alloc (.cells #[bs x1,bs x2] 42)).heap.size (wr.alloc (.cells #[bs x1,bs x2] 42)) wc:=ja1 hb2 hbc;have j0:wc.cell? ⟨wr.heap.size,0,none⟩=some (bs x1):=ja5 hbr (by simp);have j1:wc.cell? ⟨wr.heap.size,1,none⟩=some (bs x2):=ja5 hbr (by simp);have hbw2:Below wr.heap.size wr wc:=ja1 (ja4 (Below.refl _ _) _) hbr;have g0:=ja5 hbw2 e0;have g1:=ja5 hbw2 e1;have g2:=ja5 hbw2 e2;have g3:=ja5 hbw2 e3;have gf:∀o,wc.frozen? ⟨w1.heap.size,o,none⟩=false:=fun o=>(jrL hbw2 hsz).trans (f0 o)
        have HM2:=qh (HM.out.below hbw2);have HEc:=qh (HE.out.below hbW);obtain ⟨B5,hB5⟩:∃B,wr.heap.size=B:=⟨_,rfl⟩;rw [hB5] at hbz j0 j1;simp only [hB5];clear hb hb2 hbc hbr hbw2 e0 e1 e2 e3 f0 HM hB5;by_cases hk2:chk x2=0
        ·have hc:=HC.out;rw [if_neg (by simpa using hk2)] at hc;have HKZ:=qh hk2;have hxn:=jbQ hk2;obtain ⟨x,hxv⟩:∃x,numQ x2=x:=⟨_,rfl⟩;rw [hxv] at hc hxn;have HX:=qh hxn;have HXS:=qh hxn.sz;clear hk2 hxn hxv HC;obtain ⟨sg,hsg⟩:∃z,sgn x.num=z:=⟨_,rfl⟩;have HSG:=qh hsg;by_cases h0:x≤0
         ·rw [if_pos h0] at hc;subst hc
          have q9:decide (sg≤0)=true:=by
           rw [decide_eq_true_iff,←hsg];exact jpu h0
          clear h0 hsg
          go_wp2_with (first
           | (go_at_call 30;(with_reducible refine mo0 (jaP HKZ.out (HEc.out.below bi) HLI.out) fun w3 hb3 hc3 hf3 _=> ?_))
           | (go_at_call 31;(with_reducible refine mf0 (jaz HX.out (HEc.out.below bi)) fun w4 s4 A4 n4 c4 t4 B4 m4 d4 hr4 hq4 hb4 hc4 hf4 _=> ?_))
           | (go_at_call 32;(with_reducible refine mo0 (jb9 HSG.out ⟨(by with_reducible repeat first|assumption|apply rZ|refine rP ?_ rfl (by simp [go_sem,hc4])),(by with_reducible repeat first|assumption|apply rZ|refine rP ?_ rfl (by simp [go_sem,hc4]))⟩) fun w5 hb5 hc5 hf5 _=> ?_)))
          go_ret;exact ⟨rfl,bi⟩
         ·rw [if_neg h0] at hc
          have q9:decide (sg≤0)=false:=by
           rw [decide_eq_false_iff_not,←hsg];exact jlq h0
          have HC:=qh hc;clear h0 hsg hc;have hle:w.heap.size≤w1.heap.size:=hb1.size
          go_wp2_with (first
           | ((go_at_call 30;(with_reducible refine mo0 (jaP HKZ.out (HEc.out.below bi) HLI.out) fun w3 hb3 hc3 hf3 _=> ?_));(first|have y3_0:=szl (k:=w1.heap.size) hb3 (by first|go_size|fail)|have y3_0:=Nat.one_pos);(first|have y3_1:=szl (k:=B5) hb3 (by first|go_size|fail)|have y3_1:=Nat.one_pos))
           | ((go_at_call 31;(with_reducible refine mf0 (jaz HX.out (HEc.out.below bi)) fun w4 s4 A4 n4 c4 t4 B4 m4 d4 hr4 hq4 hb4 hc4 hf4 _=> ?_));(first|have y4_0:=szl (k:=w1.heap.size) hb4 (by first|go_size|fail)|have y4_0:=Nat.one_pos);(first|have y4_1:=szl (k:=B5) hb4 (by first|go_size|fail)|have y4_1:=Nat.one_pos))
           | ((go_at_call 32;(with_reducible refine mo0 (jb9 HSG.out ⟨(by with_reducible repeat first|assumption|apply rZ|refine rP ?_ rfl (by simp [go_sem,hc4])),(by with_reducible repeat first|assumption|apply rZ|refine rP ?_ rfl (by simp [go_sem,hc4]))⟩) fun w5 hb5 hc5 hf5 _=> ?_));(first|have y5_0:=szl (k:=w1.heap.size) hb5 (by first|go_size|fail)|have y5_0:=Nat.one_pos);(first|have y5_1:=szl (k:=B5) hb5 (by first|go_size|fail)|have y5_1:=Nat.one_pos);(first|have y5_2:=szl (k:=w4.heap.size) hb5 (by first|go_size|fail)|have y5_2:=Nat.one_pos))
           | ((go_at_call 33;(with_reducible refine mf0 (jdB (i*601+1) 600 rfl (HM2.out.below bi) ⟨(by with_reducible repeat first|assumption|apply rZ|refine rP ?_ rfl (by simp [go_sem,hc4])),(by with_reducible repeat first|assumption|apply rZ|refine rP ?_ rfl (by simp [go_sem,hc4]))⟩ HSS.out HXS.out (by have:=HI.out;omega)) fun w6 s6 A6 n6 c6 t6 B6 m6 d6 hr6 hq6 hb6 hc6 hf6 _=> ?_));(first|have y6_0:=szl (k:=w1.heap.size) hb6 (by first|go_size|fail)|have y6_0:=Nat.one_pos)))
          have bW6:Below wc.heap.size wc w6:=bi;have k60:=ja5 bW6 g0;have k61:=ja5 bW6 g1;have k62:=ja5 bW6 g2;have k63:=ja5 bW6 g3;have kf:∀o,w6.frozen? ⟨w1.heap.size,o,none⟩=false:=fun o=>(jrL bW6 hszc).trans (gf o)
          exact ⟨⟨i+1,s+x,s6,A6,n6,c6,t6,B6,m6,d6,by simp,bi,HI.out,by simp;exact y6_0,by simp [go_sem,k60,k61,k62,k63],by simp [go_sem,k60,k61,k62,k63],by simp [go_sem,k60,k61,k62,k63],by simp [go_sem,k60,k61,k62,k63],by intro o;simp [go_sem,kf],⟨(by with_reducible repeat first|assumption|apply rZ|refine rP ?_ rfl (by simp [go_sem,k60,k61,k62,k63])),(by with_reducible repeat first|assumption|apply rZ|refine rP ?_ rfl (by simp [go_sem,k60,k61,k62,k63]))⟩,(HSS.out.add HXS.out).mono (by omega),by rw [HNX.out];exact HC.out⟩,by have:=HI.out;simp [intOf];omega⟩
        ·have hc:=HC.out;rw [if_pos hk2] at hc;obtain ⟨y,hy'⟩:∃y,chk x2=y:=⟨_,rfl⟩;rw [hy'] at hc hk2;subst hc;have HKZ:=qh hy';have q9:(y != 0)=true:=by rw [bne_iff_ne];exact hk2
         clear hk2 hy' HC;go_wp2_with (go_at_call 30;(with_reducible refine mo0 (jaP HKZ.out (HEc.out.below bi) HLI.out) fun w3 hb3 hc3 hf3 _=> ?_))
         go_ret;exact ⟨rfl,bi⟩
  ·have p0:decide (i < n)=false:=by simp;omega
   have hc:=HC.out;rw [List.drop_eq_nil_of_le (by rw [HV.out.len];omega),jgL] at hc;have hin:i≤64:=by have:=HN.out;omega
   have H1:Hid (((1:Int):Rat)=1):=qh rfl;have HR1:Hid (R64 1):=qh ⟨by decide,by decide⟩;have HS1:Hid (Sz 1 (1:Rat)):=qh (by have:=(jdG HR1.out);rw [H1.out] at this;exact this);obtain ⟨z,hz⟩:∃z,decide (s=1)=z:=⟨_,rfl⟩;have hk:k=if z then 0 else 12:=by rw [←hc,←hz];by_cases h:s=1 <;> simp [h]
   have HZ:=qh hz;subst hk;clear hi HC hc hz;cases z with
   | true=>
     go_upto_region 21 with (fail)
     refine ja3 (fun w'=>Below wr.heap.size wr w') [] (by kernel_rfl) ?_;refine tb 0 (fv ss As ns cs ts Bs ms ds) [] rfl (by kernel_rfl) pk rfl (by intros;go_simp) bq0 ?_;simp only [ppq];refine rd1 1 (by kernel_rfl) rfl (fun K hK=> ?_);go_simp;go_wp2_with (go_at_call 29;(with_reducible refine mf0 (jeV H1.out HR1.out) fun w7 s7 A7 n7 c7 t7 B7 m7 d7 hr7 hq7 hb7 hc7 hf7 _=> ?_))
     have sS7:=qh (bst bq0 hb7);refine hK.out _ _ (fun _=>sS7.out) ?_;clear hK K;refine rd1 2 (by kernel_rfl) rfl (fun K hK=> ?_);go_simp;go_wp2_with (go_at_call 34;(with_reducible refine mo0 (jfC (i*601+1) 1 HZ.out (HM.out.below bi) ⟨hr7,hq7⟩ HSS.out HS1.out (by omega)) fun w8 hb8 hc8 hf8 _=> ?_))
     have sS8:=qh (bst sS7.out hb8);refine hK.out _ _ (fun _=>sS8.out) ?_;clear hK K;refine rd1 3 (by kernel_rfl) rfl (fun K hK=> ?_);go_simp;refine hK.out _ _ (fun _=>bi) ?_;clear hK K;refine ja2 (by kernel_rfl) ?_ _;go_wp2;go_ret;exact ⟨rfl,bi⟩
   | false=>
     go_upto_region 21 with (fail)
     refine ja3 (fun w'=>Below wr.heap.size wr w') [] (by kernel_rfl) ?_;refine tb 0 (fv ss As ns cs ts Bs ms ds) [] rfl (by kernel_rfl) pk rfl (by intros;go_simp) bq0 ?_;simp only [ppq];refine rd1 1 (by kernel_rfl) rfl (fun K hK=> ?_);go_simp;go_wp2_with (go_at_call 29;(with_reducible refine mf0 (jeV H1.out HR1.out) fun w7 s7 A7 n7 c7 t7 B7 m7 d7 hr7 hq7 hb7 hc7 hf7 _=> ?_))
     have sS7:=qh (bst bq0 hb7);refine hK.out _ _ (fun _=>sS7.out) ?_;clear hK K;refine rd1 2 (by kernel_rfl) rfl (fun K hK=> ?_);go_simp;go_wp2_with (go_at_call 34;(with_reducible refine mo0 (jfC (i*601+1) 1 HZ.out (HM.out.below bi) ⟨hr7,hq7⟩ HSS.out HS1.out (by omega)) fun w8 hb8 hc8 hf8 _=> ?_))
     have sS8:=qh (bst sS7.out hb8);refine hK.out _ _ (fun _=>sS8.out) ?_;clear hK K;refine rd1 3 (by kernel_rfl) rfl (fun K hK=> ?_);go_simp;refine hK.out _ _ (fun _=>bi) ?_;clear hK K;refine ja2 (by kernel_rfl) ?_ _;go_wp2;go_ret;exact ⟨rfl,bi⟩
end
end Go.Proofs.YteokfcjdfjhhhaaGreatDoor
