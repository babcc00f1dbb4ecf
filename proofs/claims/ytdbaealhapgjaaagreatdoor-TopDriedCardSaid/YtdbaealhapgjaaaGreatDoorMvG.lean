/- Parts. -/
import Derived.Test.YtdbaealhapgjaaaGreatDoorMbG
import Derived.MapKept
import Derived.Laws.EntriesVeiled
import Derived.Deep.CutRange
set_option linter.all false
set_option maxRecDepth 100000
set_option maxHeartbeats 8000000
namespace Go.Proofs.YtdbaealhapgjaaaGreatDoor
open Go Go.RowKit Go.Proofs.Tryz

section
variable {w:World} {A:Option Addr} {n c:Nat} {ls:List (List UInt8×List UInt8)}
end
section
variable {w:World} {A:Option Addr} {n c:Nat} {ls:List (List UInt8×List UInt8)} {los his:List Rat}
end

section
variable {w:World} {A:Option Addr} {n c:Nat} {ls:List (List UInt8×List UInt8)} {los his:List Rat}
end

section
variable {w:World}
end
section
variable {w:World} {kind step:List UInt8}
end

theorem jyW {w w':World} {b:Nat} (hb:Below w.heap.size w w') (hz:b < w.heap.size) (h:∀o,w.frozen? ⟨b,o,none⟩=false) (o:Nat):w'.frozen? ⟨b,o,none⟩=false:=by rw [(jhL hb).2 b o hz];exact h o
theorem jxf (n:Nat):n < n+1+1:=by omega
section
variable {w:World} {h:Int} {o:Bool}
end
theorem jna (y:Rat):y.floor.natAbs≤y.num.natAbs:=by
 rw [Rat.floor_def];have hd:=y.den_pos;have h:=Int.natAbs_ediv_le_natAbs y.num (y.den:Int);exact h
theorem Sz.floor {p:Nat} {y:Rat} (h:Sz p y):Sz p (y.floor:Rat):=
 Sz.int (Nat.le_trans (jna y) h.num)

theorem jyV {w:World} {a:Int} (h:SmallQ (a:Rat)):Calls prog 40 #[.int .i64 a] w fun e w'=>e= .returned (fq (a:Rat))∧Below w.heap.size w w':=
 (jes rfl ⟨by have:=h.lo;simp at this;omega,by have:=h.hi;simp at this;omega⟩).mono fun _ _ k=>h.post k
theorem jyX {a:Int} (h0: -9223372036854775808 < a) (h1:a < 9223372036854775808):SmallQ (a:Rat):=⟨by simpa using h0,by simpa using h1,by simp⟩
section
variable {w:World} {A B:Option Addr} {n c d p:Nat} {qs:List Rat} {ws:List Int} {s:Int}
end

def jtr (a b:List UInt8):Bool:=Op.bytesLess a b || a==b
@[go_sem] theorem juD (t : TypeId) (x y : List UInt8) : binOp .leq t (.string ⟨x.toArray⟩) (.string ⟨y.toArray⟩) = pure (.bool (jtr x y)) := by
  simp [binOp,Op.stringOp,jtr,Lib.toList_data]
def jAS (p:Option (List UInt8)) (x:List UInt8):Bool:=match p with
 | some q=>jtr x q
 | none=>false
noncomputable def jBm (s:Rat) (p:Option (List UInt8)):List (List UInt8×List UInt8)→Int
 | []=>if s=1 then 0 else 12
 | x::r=>if jyT x.1=false then 8 else if jAS p x.1=true then 11 else if chk x.2≠0 then chk x.2 else if numQ x.2≤0 then 12 else jBm (s+numQ x.2) (some x.1) r
noncomputable def jyU (ls:List (List UInt8×List UInt8)):Int:=if ls.length=0 then 2 else if 64 < ls.length then 5 else jBm 0 none ls
def jzn (ls:List (List UInt8×List UInt8)) (i:Nat):Option (List UInt8):=if i=0 then none else some (ls.getD (i - 1) ([],[])).1
theorem jzu {w:World} {s t u v:Int} {A B C D:Option Addr} {n c m d i k j l:Nat} {x y:Rat} {z:Bool} (p q:Nat) (hz:decide (x=y)=z) (h:RepF w s A n c t B m d x) (h':RepF w u C i k v D j l y) (hs:Sz p x) (hs':Sz q y) (hpq:p+q < 100000):
  Calls prog 210 #[fv s A n c t B m d,fv u C i k v D j l] w fun e w'=>e= .returned (.bool z)∧Below w.heap.size w w':=hz ▸ jAN h h' hs hs' hpq
theorem jC8 {x:Rat} (h:x≤0):sgn x.num≤0:=by
 have:¬0 < x.num:=fun h1=>Rat.not_lt.2 h (by rw [Rat.lt_iff];simpa using h1)
 unfold sgn;rw [if_neg this];split <;> omega
theorem jBO {x:Rat} (h:¬x≤0):¬sgn x.num≤0:=by
 have h1:=Rat.not_le.1 h;rw [Rat.lt_iff] at h1;have h2:0 < x.num:=by simpa using h1
 unfold sgn;rw [if_neg (by omega),if_pos h2];omega
theorem jBT {w w':World} {b o:Nat} (h:Below w.heap.size w w') (hb:b < w.heap.size):w'.frozen? ⟨b,o,none⟩=w.frozen? ⟨b,o,none⟩:=by
 simp only [World.frozen?,h.block b hb]
section
variable {w:World} {A:Option Addr} {n c:Nat} {ls:List (List UInt8×List UInt8)}
theorem jAg:Calls prog 174 #[.slice A 0 c] w fun e w'=>e= .returned (.int .i64 2)∧Below w.heap.size w w':=by
 go_enter func174,ntmps174;go_wp2;go_ret;exact ⟨rfl,bi⟩
theorem jAd (hn:64 < n):Calls prog 174 #[.slice A n c] w fun e w'=>e= .returned (.int .i64 5)∧Below w.heap.size w w':=by
 have q0:((n:Int)==0)=false:=by rw [beq_eq_false_iff_ne];omega
 have q1:decide ((64:Int) < (n:Int))=true:=by rw [decide_eq_true_iff];omega
 clear hn;go_enter func174,ntmps174;go_wp2;go_ret;exact ⟨rfl,bi⟩
theorem jAM {k:Int} (hE:Env w) (hv:Pv w A n ls) (h0:0 < n) (hn:n≤64) (hl:∀p∈ls,p.1.length < 4294967281∧p.2.length < 4294967281) (hk:jBm 0 none ls=k):
  Calls prog 174 #[.slice A n c] w fun e w'=>e= .returned (.int .i64 k)∧Below w.heap.size w w':=by
 have q0:((n:Int)==0)=false:=by rw [beq_eq_false_iff_ne];omega
 have q1:decide ((64:Int) < (n:Int))=false:=by rw [decide_eq_false_iff_not];omega
 have HE:=qh hE;have HV:=qh hv;have HN:=qh hn;have HK:=qh hk
 have HL:Hd (∀i,i < n→(ls.getD i ([],[])).2.length < 4294967281):=qh (fun i hi=>by
  have hil:i < ls.length:=by rw [hv.len];exact hi
  rw [List.getD_eq_getElem?_getD,List.getElem?_eq_getElem hil];exact (hl _ (List.getElem_mem hil)).2)
 have H0:Hd (((0:Int):Rat)=0):=qh rfl;have HR0:Hd (R64 0):=qh ⟨by decide,by decide⟩;clear hE hv h0 hn hl hk;go_enter func174,ntmps174;go_wp2_with ((go_at_call 40;(with_reducible refine mf0 (jes H0.o HR0.o) fun w1 s1 A1 n1 c1 t1 B1 m1 d1 hr1 hq1 hb1 hc1 hf1 _=> ?_)))
 go_loopw [17] (fun u wr=>∃(i:Nat) (s:Rat) (ss:Int) (As:Option Addr) (ns cs:Nat) (ts:Int) (Bs:Option Addr) (ms ds:Nat),u= .int .i64 (i:Int)∧Below w.heap.size w wr∧i≤n∧w1.heap.size < wr.heap.size
   ∧wr.cell? ⟨w1.heap.size,0,none⟩=some (.int .i64 ss)∧wr.cell? ⟨w1.heap.size,1,none⟩=some (.slice As ns cs)∧wr.cell? ⟨w1.heap.size,2,none⟩=some (.int .i64 ts)∧wr.cell? ⟨w1.heap.size,3,none⟩=some (.slice Bs ms ds)
   ∧(∀o,wr.frozen? ⟨w1.heap.size,o,none⟩=false)
   ∧RepF wr ss As ns cs ts Bs ms ds s∧Sz (i*601+1) s∧jBm s (jzn ls i) (ls.drop i)=k) (fun u _=>n - (intOf u).toNat)
 case atStart=>
  exact ⟨0,0,s1,A1,n1,c1,t1,B1,m1,d1,rfl,bi,by omega,by simp,by simp [go_sem],by simp [go_sem],by simp [go_sem],by simp [go_sem],by intro o;simp [go_sem],(by constructor <;> (with_reducible repeat first|assumption|apply rZ|refine rP ?_ rfl (by simp [go_sem,hc1]))),by have:=(jej HR0.o);rw [H0.o] at this;exact this.mono (by omega),HK.o⟩
 case round=>
  obtain ⟨i,s,ss,As,ns,cs,ts,Bs,ms,ds,rfl,hb,hin,hsz,e0,e1,e2,e3,f0,hrs,hss,hc⟩:=hrel;have _:=bm hb;have HM:=qh hrs;have HSS:=qh hss;have HC:=qh hc;clear hrs hss hc;by_cases hi:i < n
  ·have p0:decide ((i:Int) < (n:Int))=true:=by simp;exact hi
   have hnn:=HN.o;obtain ⟨b,o,rfl,hbl,hcell⟩:=(HV.o.below hb).at_ (by omega);obtain ⟨hx,hy⟩:=hcell i hi;have hil:i < ls.length:=by rw [HV.o.len];exact hi
   have HLI:=qh (HL.o i hi);have hc:=HC.o;rw [jd5 (d:=([],[])) hil,jBm] at hc;have hnext:jzn ls (i+1)=some (ls.getD i ([],[])).1:=by rw [jzn,if_neg (by omega)];rfl
   obtain ⟨x1,hx1⟩:∃x,(ls.getD i ([],[])).1=x:=⟨_,rfl⟩;obtain ⟨x2,hx2⟩:∃x,(ls.getD i ([],[])).2=x:=⟨_,rfl⟩;rw [hx1,hx2] at hc;rw [hx1] at hx hnext;rw [hx2] at hy HLI;have HNX:=qh hnext;have HI:=qh hi;clear hil hx1 hx2 hnext HC;cases hg:jyT x1 with
   | false=>
     rw [hg,if_pos rfl] at hc;subst hc;have HG:=qh hg;clear hg hi hcell;go_wp2_with (go_at_call 115;(with_reducible refine mo0 (jyM HG.o) fun w2 hb2 hc2 hf2 _=> ?_))
     go_ret;exact ⟨rfl,bi⟩
   | true=>
     rw [hg,if_neg (by simp)] at hc;have HG:=qh hg;clear hg;cases hp:jAS (jzn ls i) x1 with
     | true=>
       rw [hp,if_pos rfl] at hc;subst hc
       obtain ⟨i',rfl⟩:∃i',i=i'+1:=by
        cases i with
        | zero=>simp [jzn,jAS] at hp
        | succ i'=>exact ⟨i',rfl⟩
       rw [jzn,if_neg (by omega),Nat.add_sub_cancel] at hp;obtain ⟨hz,_⟩:=hcell i' (by omega);obtain ⟨y1,hy1⟩:∃y,(ls.getD i' ([],[])).1=y:=⟨_,rfl⟩;rw [hy1] at hz hp;have q2:jtr x1 y1=true:=hp;have q4:(i':Int) < (n:Int):=by omega
       have q5:IntKind.i64.wrap (i':Int)=(i':Int):=by simp [IntKind.wrap,IntKind.bits,IntKind.signed];omega
       have q3:decide ((0:Int) < (i':Int)+1)=true:=by rw [decide_eq_true_iff];omega
       have q8:(i':Int)+1 < (n:Int):=by omega
       have q7:decide ((i':Int)+1 < (n:Int))=true:=by rw [decide_eq_true_iff];omega
       clear hi hcell hp hy1;go_upto_region 11 with (go_at_call 115;(with_reducible refine mo0 (jyM HG.o) fun w2 hb2 hc2 hf2 _=> ?_))
       go_quiet (fail)
       go_wp2;go_ret;exact ⟨rfl,bi⟩
     | false=>
       rw [hp,if_neg (by simp)] at hc;have HP:=qh hp;have HC:=qh hc;have HCE:=qh hcell;clear hi hp hc hcell;go_upto_region 11 with (go_at_call 115;(with_reducible refine mo0 (jyM HG.o) fun w2 hb2 hc2 hf2 _=> ?_))
       go_cut [38] (fun u wx=>u= .bool false∧Below w2.heap.size w2 wx)
       case first=>
        cases i with
        | zero=>
          go_quiet (fail)
          go_wp2;go_meet;exact ⟨rfl,bi⟩
        | succ i'=>
          have hin':=HI.o;have hp:=HP.o;rw [jzn,if_neg (by omega),Nat.add_sub_cancel] at hp;obtain ⟨hz,_⟩:=HCE.o i' (by omega);obtain ⟨y1,hy1⟩:∃y,(ls.getD i' ([],[])).1=y:=⟨_,rfl⟩;rw [hy1] at hz hp;have q2:jtr x1 y1=false:=hp;have q4:(i':Int) < (n:Int):=by omega
          have q5:IntKind.i64.wrap (i':Int)=(i':Int):=by simp [IntKind.wrap,IntKind.bits,IntKind.signed];omega
          have q3:decide ((0:Int) < (i':Int)+1)=true:=by rw [decide_eq_true_iff];omega
          clear hp hy1
          go_quiet (fail)
          go_wp2;go_meet;exact ⟨rfl,bi⟩
       case rest=>
        obtain ⟨rfl,hbc⟩:=hcut;have _:=bm hbc;clear HCE HP hc2 hf2;have hbW:Below w.heap.size w wc:=ja0 (ja0 (ja5 hb _) hb2) hbc;have hszc:w1.heap.size < wc.heap.size:=Nat.lt_of_lt_of_le hsz (Nat.le_trans (by have:=hb2.size;simp at this;omega) hbc.size);have hbz:wr.heap.size < wc.heap.size:=Nat.lt_of_lt_of_le (by have:=hb2.size;simp at this;omega) hbc.size;have hbr:Below (wr.alloc (.cells #[bs x1,bs x2] 75)).heap.size (wr.alloc (.cells #[bs x1,bs x2] 75)) wc:=ja0 hb2 hbc;have j0:wc.cell? ⟨wr.heap.size,0,none⟩=some (bs x1):=ja9 hbr (by simp);have j1:wc.cell? ⟨wr.heap.size,1,none⟩=some (bs x2):=ja9 hbr (by simp);have hbw2:Below wr.heap.size wr wc:=ja0 (ja5 (Below.refl _ _) _) hbr;have g0:=ja9 hbw2 e0;have g1:=ja9 hbw2 e1;have g2:=ja9 hbw2 e2;have g3:=ja9 hbw2 e3;have gf:∀o,wc.frozen? ⟨w1.heap.size,o,none⟩=false:=fun o=>(jBT hbw2 hsz).trans (f0 o)
        have HM2:=qh (HM.o.below hbw2);have HEc:=qh (HE.o.below hbW);obtain ⟨B5,hB5⟩:∃B,wr.heap.size=B:=⟨_,rfl⟩;rw [hB5] at hbz j0 j1;simp only [hB5];clear hb hb2 hbc hbr hbw2 e0 e1 e2 e3 f0 HM hB5;by_cases hk2:chk x2=0
        ·have hc:=HC.o;rw [if_neg (by simpa using hk2)] at hc;have HKZ:=qh hk2;have hxn:=jjb hk2;obtain ⟨x,hxv⟩:∃x,numQ x2=x:=⟨_,rfl⟩;rw [hxv] at hc hxn;have HX:=qh hxn;have HXS:=qh hxn.sz;clear hk2 hxn hxv HC;obtain ⟨sg,hsg⟩:∃z,sgn x.num=z:=⟨_,rfl⟩;have HSG:=qh hsg;by_cases h0:x≤0
         ·rw [if_pos h0] at hc;subst hc
          have q9:decide (sg≤0)=true:=by
           rw [decide_eq_true_iff,←hsg];exact jC8 h0
          clear h0 hsg
          go_wp2_with (first
           | (go_at_call 110;(with_reducible refine mo0 (jln HKZ.o (HEc.o.below bi) HLI.o) fun w3 hb3 hc3 hf3 _=> ?_))
           | (go_at_call 36;(with_reducible refine mf0 (jaz HX.o (HEc.o.below bi)) fun w4 s4 A4 n4 c4 t4 B4 m4 d4 hr4 hq4 hb4 hc4 hf4 _=> ?_))
           | (go_at_call 111;(with_reducible refine mo0 (jg2 HSG.o (by constructor <;> (with_reducible repeat first|assumption|apply rZ|refine rP ?_ rfl (by simp [go_sem,hc4])))) fun w5 hb5 hc5 hf5 _=> ?_)))
          go_ret;exact ⟨rfl,bi⟩
         ·rw [if_neg h0] at hc
          have q9:decide (sg≤0)=false:=by
           rw [decide_eq_false_iff_not,←hsg];exact jBO h0
          have HC:=qh hc;clear h0 hsg hc;have hle:w.heap.size≤w1.heap.size:=hb1.size
          go_wp2_with (first
           | ((go_at_call 110;(with_reducible refine mo0 (jln HKZ.o (HEc.o.below bi) HLI.o) fun w3 hb3 hc3 hf3 _=> ?_));(first|have y3_0:=szl (k:=w1.heap.size) hb3 (by first|go_size|fail)|have y3_0:=Nat.one_pos);(first|have y3_1:=szl (k:=B5) hb3 (by first|go_size|fail)|have y3_1:=Nat.one_pos))
           | ((go_at_call 36;(with_reducible refine mf0 (jaz HX.o (HEc.o.below bi)) fun w4 s4 A4 n4 c4 t4 B4 m4 d4 hr4 hq4 hb4 hc4 hf4 _=> ?_));(first|have y4_0:=szl (k:=w1.heap.size) hb4 (by first|go_size|fail)|have y4_0:=Nat.one_pos);(first|have y4_1:=szl (k:=B5) hb4 (by first|go_size|fail)|have y4_1:=Nat.one_pos))
           | ((go_at_call 111;(with_reducible refine mo0 (jg2 HSG.o (by constructor <;> (with_reducible repeat first|assumption|apply rZ|refine rP ?_ rfl (by simp [go_sem,hc4])))) fun w5 hb5 hc5 hf5 _=> ?_));(first|have y5_0:=szl (k:=w1.heap.size) hb5 (by first|go_size|fail)|have y5_0:=Nat.one_pos);(first|have y5_1:=szl (k:=B5) hb5 (by first|go_size|fail)|have y5_1:=Nat.one_pos);(first|have y5_2:=szl (k:=w4.heap.size) hb5 (by first|go_size|fail)|have y5_2:=Nat.one_pos))
           | ((go_at_call 104;(with_reducible refine mf0 (jo7 (i*601+1) 600 rfl (HM2.o.below bi) (by constructor <;> (with_reducible repeat first|assumption|apply rZ|refine rP ?_ rfl (by simp [go_sem,hc4]))) HSS.o HXS.o (by have:=HI.o;omega)) fun w6 s6 A6 n6 c6 t6 B6 m6 d6 hr6 hq6 hb6 hc6 hf6 _=> ?_));(first|have y6_0:=szl (k:=w1.heap.size) hb6 (by first|go_size|fail)|have y6_0:=Nat.one_pos)))
          have bW6:Below wc.heap.size wc w6:=bi;have k60:=ja9 bW6 g0;have k61:=ja9 bW6 g1;have k62:=ja9 bW6 g2;have k63:=ja9 bW6 g3;have kf:∀o,w6.frozen? ⟨w1.heap.size,o,none⟩=false:=fun o=>(jBT bW6 hszc).trans (gf o)
          exact ⟨⟨i+1,s+x,s6,A6,n6,c6,t6,B6,m6,d6,by simp,bi,HI.o,by simp;exact y6_0,by simp [go_sem,k60,k61,k62,k63],by simp [go_sem,k60,k61,k62,k63],by simp [go_sem,k60,k61,k62,k63],by simp [go_sem,k60,k61,k62,k63],by intro o;simp [go_sem,kf],(by constructor <;> (with_reducible repeat first|assumption|apply rZ|refine rP ?_ rfl (by simp [go_sem,k60,k61,k62,k63]))),(HSS.o.add HXS.o).mono (by omega),by rw [HNX.o];exact HC.o⟩,by have:=HI.o;simp [intOf];omega⟩
        ·have hc:=HC.o;rw [if_pos hk2] at hc;obtain ⟨y,hy'⟩:∃y,chk x2=y:=⟨_,rfl⟩;rw [hy'] at hc hk2;subst hc;have HKZ:=qh hy';have q9:(y != 0)=true:=by rw [bne_iff_ne];exact hk2
         clear hk2 hy' HC;go_wp2_with (go_at_call 110;(with_reducible refine mo0 (jln HKZ.o (HEc.o.below bi) HLI.o) fun w3 hb3 hc3 hf3 _=> ?_))
         go_ret;exact ⟨rfl,bi⟩
  ·have p0:decide (i < n)=false:=by simp;omega
   have hc:=HC.o;rw [List.drop_eq_nil_of_le (by rw [HV.o.len];omega),jBm] at hc;have hin:i≤64:=by have:=HN.o;omega
   have H1:Hd (((1:Int):Rat)=1):=qh rfl;have HR1:Hd (R64 1):=qh ⟨by decide,by decide⟩;have HS1:Hd (Sz 1 (1:Rat)):=qh (by have:=(jej HR1.o);rw [H1.o] at this;exact this);obtain ⟨z,hz⟩:∃z,decide (s=1)=z:=⟨_,rfl⟩;have hk:k=if z then 0 else 12:=by rw [←hc,←hz];by_cases h:s=1 <;> simp [h]
   have HZ:=qh hz;subst hk;clear hi HC hc hz;cases z with
   | true=>
     go_upto_region 21 with (fail)
     refine ja1 (fun w'=>Below wr.heap.size wr w') [] (by kernel_rfl) ?_;refine tb 0 (fv ss As ns cs ts Bs ms ds) [] rfl (by kernel_rfl) pk rfl (by intros;go_simp) bq0 ?_;simp only [ppq];refine rd1 1 (by kernel_rfl) rfl (fun K hK=> ?_);go_simp;go_wp2_with (go_at_call 40;(with_reducible refine mf0 (jes H1.o HR1.o) fun w7 s7 A7 n7 c7 t7 B7 m7 d7 hr7 hq7 hb7 hc7 hf7 _=> ?_))
     have sS7:=qh (bst bq0 hb7);refine hK.out _ _ (fun _=>sS7.o) ?_;clear hK K;refine rd1 2 (by kernel_rfl) rfl (fun K hK=> ?_);go_simp;go_wp2_with (go_at_call 210;(with_reducible refine mo0 (jzu (i*601+1) 1 HZ.o (HM.o.below bi) ⟨hr7,hq7⟩ HSS.o HS1.o (by omega)) fun w8 hb8 hc8 hf8 _=> ?_))
     have sS8:=qh (bst sS7.o hb8);refine hK.out _ _ (fun _=>sS8.o) ?_;clear hK K;refine rd1 3 (by kernel_rfl) rfl (fun K hK=> ?_);go_simp;refine hK.out _ _ (fun _=>bi) ?_;clear hK K;refine ja2 (by kernel_rfl) ?_ _;go_wp2;go_ret;exact ⟨rfl,bi⟩
   | false=>
     go_upto_region 21 with (fail)
     refine ja1 (fun w'=>Below wr.heap.size wr w') [] (by kernel_rfl) ?_;refine tb 0 (fv ss As ns cs ts Bs ms ds) [] rfl (by kernel_rfl) pk rfl (by intros;go_simp) bq0 ?_;simp only [ppq];refine rd1 1 (by kernel_rfl) rfl (fun K hK=> ?_);go_simp;go_wp2_with (go_at_call 40;(with_reducible refine mf0 (jes H1.o HR1.o) fun w7 s7 A7 n7 c7 t7 B7 m7 d7 hr7 hq7 hb7 hc7 hf7 _=> ?_))
     have sS7:=qh (bst bq0 hb7);refine hK.out _ _ (fun _=>sS7.o) ?_;clear hK K;refine rd1 2 (by kernel_rfl) rfl (fun K hK=> ?_);go_simp;go_wp2_with (go_at_call 210;(with_reducible refine mo0 (jzu (i*601+1) 1 HZ.o (HM.o.below bi) ⟨hr7,hq7⟩ HSS.o HS1.o (by omega)) fun w8 hb8 hc8 hf8 _=> ?_))
     have sS8:=qh (bst sS7.o hb8);refine hK.out _ _ (fun _=>sS8.o) ?_;clear hK K;refine rd1 3 (by kernel_rfl) rfl (fun K hK=> ?_);go_simp;refine hK.out _ _ (fun _=>bi) ?_;clear hK K;refine ja2 (by kernel_rfl) ?_ _;go_wp2;go_ret;exact ⟨rfl,bi⟩
end

structure Lay where
 grain:List UInt8
 mass:Int
 shares:List (List UInt8×List UInt8)
abbrev jyL:Lay:=⟨[],0,[]⟩
structure LyAt (w:World) (b o:Nat) (x:Lay):Prop where
 at_:∃A c,w.cell? ⟨b,o,none⟩=some (bs x.grain)∧w.cell? ⟨b,o+1,none⟩=some (.int .i64 x.mass)∧w.cell? ⟨b,o+2,none⟩=some (.slice A x.shares.length c)∧Pv w A x.shares.length x.shares
theorem LyAt.below {w w':World} {b o:Nat} {x:Lay} (h:LyAt w b o x) (hb:Below w.heap.size w w'):LyAt w' b o x:=by
 obtain ⟨A,c,h1,h2,h3,h4⟩:=h.at_;exact ⟨⟨A,c,ja9 hb h1,ja9 hb h2,ja9 hb h3,h4.below hb⟩⟩
structure Lv (w:World) (A:Option Addr) (n:Nat) (ls:List Lay):Prop where
 len:ls.length=n
 at_:0 < n→∃b o,A=some ⟨b,o,none⟩∧b < w.heap.size∧∀j,j < n→LyAt w b (o+j*3) (ls.getD j jyL)
theorem Lv.below {w w':World} {A:Option Addr} {n:Nat} {ls:List Lay} (h:Lv w A n ls) (hb:Below w.heap.size w w'):Lv w' A n ls:=
 ⟨h.len,fun hn=>by
   obtain ⟨b,o,e,h1,h2⟩:=h.at_ hn
   exact ⟨b,o,e,Nat.lt_of_lt_of_le h1 hb.size,fun j hj=>(h2 j hj).below hb⟩⟩
noncomputable def jyQ (x:Lay):Int:=if jyT x.grain=false then 8 else if x.mass < 1∨999999999 < x.mass then 3 else jyU x.shares
structure LayIn (x:Lay):Prop where
 mass:R64 x.mass
 many:x.shares.length≤100000
 len:∀p∈x.shares,p.1.length < 4294967281∧p.2.length < 4294967281
theorem jAf {w:World} {A:Option Addr} {n c:Nat} {ls:List (List UInt8×List UInt8)} {k:Int} (hk:jyU ls=k) (hE:Env w) (hv:Pv w A n ls) (hl:∀p∈ls,p.1.length < 4294967281∧p.2.length < 4294967281):
  Calls prog 174 #[.slice A n c] w fun e w'=>e= .returned (.int .i64 k)∧Below w.heap.size w w':=by
 unfold jyU at hk;rw [hv.len] at hk;by_cases h0:n=0
 ·rw [if_pos h0] at hk;subst h0;subst hk;exact jAg
 ·rw [if_neg h0] at hk;by_cases h1:64 < n
  ·rw [if_pos h1] at hk;subst hk;exact jAd h1
  ·rw [if_neg h1] at hk;exact jAM hE hv (by omega) (by omega) hl hk
section
variable {w:World} {A:Option Addr} {n c:Nat} {x:Lay}
theorem jzv {k:Int} (hk:jyQ x=k) (hE:Env w) (hv:Pv w A x.shares.length x.shares) (hi:LayIn x):
  Calls prog 112 #[.agg #[bs x.grain, .int .i64 x.mass, .slice A x.shares.length c]] w fun e w'=>e= .returned (.int .i64 k)∧Below w.heap.size w w':=by
 obtain ⟨g,m,ls⟩:=x;have hil:=hi.len;unfold jyQ at hk;dsimp only at hk hv hil ⊢;have HE:=qh hE;have HV:=qh hv;have HL:=qh hil;clear hE hv hil hi;obtain ⟨n,hn⟩:∃n,ls.length=n:=⟨_,rfl⟩;rw [hn] at HV ⊢;clear hn;cases hg:jyT g with
 | false=>
   rw [hg,if_pos rfl] at hk;subst hk;have HG:=qh hg;clear hg;go_enter func112,ntmps112;go_wp2_with (go_at_call 115;(with_reducible refine mo1 w (jyM HG.o) (by go_size) fun w1 hb1 hc1 hf1 z1_0 _=> ?_))
   go_ret;exact ⟨rfl,bi⟩
 | true=>
   rw [hg,if_neg (by simp)] at hk;have HG:=qh hg;clear hg;by_cases h1:m < 1
   ·rw [if_pos (Or.inl h1)] at hk;subst hk;have q1:decide (m < 1)=true:=by simpa using h1
    clear h1;go_enter func112,ntmps112;go_wp2_with (go_at_call 115;(with_reducible refine mo1 w (jyM HG.o) (by go_size) fun w1 hb1 hc1 hf1 z1_0 _=> ?_))
    go_ret;exact ⟨rfl,bi⟩
   ·have q1:decide (m < 1)=false:=by simpa using h1
    by_cases h2:999999999 < m
    ·rw [if_pos (Or.inr h2)] at hk;subst hk;have q2:decide (999999999 < m)=true:=by simpa using h2
     clear h1 h2;go_enter func112,ntmps112;go_wp2_with (go_at_call 115;(with_reducible refine mo1 w (jyM HG.o) (by go_size) fun w1 hb1 hc1 hf1 z1_0 _=> ?_))
     go_ret;exact ⟨rfl,bi⟩
    ·rw [if_neg (fun h=>h.elim h1 h2)] at hk;have q2:decide (999999999 < m)=false:=by simpa using h2
     have HK:=qh hk;clear h1 h2 hk;go_enter func112,ntmps112
     go_wp2_with (first
      | (go_at_call 115;(with_reducible refine mo1 w (jyM HG.o) (by go_size) fun w1 hb1 hc1 hf1 z1_0 _=> ?_))
      | (go_at_call 174;(with_reducible refine mo1 w (jAf HK.o (HE.o.below bi) (HV.o.below bi) HL.o) (by go_size) fun w2 hb2 hc2 hf2 z2_0 _=> ?_)))
     go_ret;exact ⟨rfl,bi⟩
end
section
variable {w:World} {A:Option Addr} {n c:Nat} {ls:List Lay} {f:Lay→Int}
theorem jzp (h:Lv w A n ls) (hn:n≤100000) (hf:∀x∈ls,∀W,Below w.heap.size w W→∀B d,Pv W B x.shares.length x.shares→Calls prog 112 #[.agg #[bs x.grain, .int .i64 x.mass, .slice B x.shares.length d]] W fun e w'=>e= .returned (.int .i64 (f x))∧Below W.heap.size W w'):
  Calls prog 211 #[.func (.func 112) #[] #[], .slice A n c] w fun e w'=>e= .returned (.int .i64 (jar f ls))∧Below w.heap.size w w':=by
 obtain ⟨R,hR⟩:∃R,jar f ls=R:=⟨_,rfl⟩;rw [hR];have HR:=qh hR;have H:=qh h;have HN:=qh hn;have HF:=qh hf;clear hR h hn hf;go_enter func211,ntmps211;go_wp2
 go_loopw [10] (fun u wr=>∃(i:Nat),u= .int .i64 (i:Int)∧Below w.heap.size w wr∧i≤n∧jar f (ls.drop i)=R) (fun u _=>n - (intOf u).toNat)
 case atStart=>exact ⟨0,rfl,bi,by omega,HR.o⟩
 case round=>
  obtain ⟨i,rfl,hb,hin,hc⟩:=hrel;have _:=bm hb;by_cases hi:i < n
  ·have q0:decide ((i:Int) < (n:Int))=true:=by simp;exact hi
   obtain ⟨b,o,rfl,hbl,hcell⟩:=(H.o.below hb).at_ (by omega);obtain ⟨B,d,hx,hy,hz,hp⟩:=(hcell i hi).at_;have hil:i < ls.length:=by rw [H.o.len];exact hi
   rw [jd5 (d:=jyL) hil] at hc;have hmem:ls.getD i jyL∈ls:=by rw [List.getD_eq_getElem?_getD,List.getElem?_eq_getElem hil];exact List.getElem_mem hil
   obtain ⟨x,hxx⟩:∃x,ls.getD i jyL=x:=⟨_,rfl⟩;rw [hxx] at hx hy hz hp hc hmem;have HX:Hd (∀W,Below wr.heap.size wr W→Calls prog 112 #[.agg #[bs x.grain, .int .i64 x.mass, .slice B x.shares.length d]] W fun e w'=>e= .returned (.int .i64 (f x))∧Below W.heap.size W w'):=qh (fun W hW=>HF.o x hmem W (ja0 hb hW) B d (hp.below hW));have hnn:=HN.o;have HI:=qh hi;obtain ⟨x1,hx1⟩:∃y,x.grain=y:=⟨_,rfl⟩;obtain ⟨x2,hx2⟩:∃y,x.mass=y:=⟨_,rfl⟩;obtain ⟨x3,hx3⟩:∃y,x.shares.length=y:=⟨_,rfl⟩;rw [hx1] at hx HX;rw [hx2] at hy HX;rw [hx3] at hz HX;clear hcell hmem hil hxx hx1 hx2 hx3 hp;by_cases h0:f x=0
   ·have HC:Hd (jar f (ls.drop (i+1))=R):=qh (by rw [←hc,jf3 h0]);rw [h0] at HX;clear hc h0 hi;go_wp2_with (go_at_call 112;(with_reducible refine mo0 (HX.o _ bi) fun w1 hb1 hc1 hf1 _=> ?_))
    exact ⟨⟨i+1,by simp,bi,HI.o,HC.o⟩,by have:=HI.o;simp [intOf];omega⟩
   ·have hR:R=f x:=by rw [←hc,jed h0]
    subst hR;obtain ⟨y,hy'⟩:∃y,f x=y:=⟨_,rfl⟩;rw [hy'] at HX;have q1:(y != 0)=true:=by rw [bne_iff_ne,←hy'];exact h0
    have HY:=qh hy';clear hc h0 hi hy' HR;go_wp2_with (go_at_call 112;(with_reducible refine mo0 (HX.o _ bi) fun w1 hb1 hc1 hf1 _=> ?_))
    go_ret;exact ⟨by rw [HY.o];rfl,bi⟩
  ·have q0:decide (i < n)=false:=by simp;omega
   rw [List.drop_eq_nil_of_le (by rw [H.o.len];omega)] at hc;have hR:R=0:=by rw [←hc];rfl
   subst hR;clear hc hi HR;go_wp2;go_ret;exact ⟨rfl,bi⟩
theorem jA9 {k:Int} (hk:jar jyQ ls=k) (hE:Env w) (h:Lv w A n ls) (hn:n≤100000) (hi:∀x∈ls,LayIn x):
  Calls prog 211 #[.func (.func 112) #[] #[], .slice A n c] w fun e w'=>e= .returned (.int .i64 k)∧Below w.heap.size w w':=by
 subst hk;exact jzp h hn (fun x hx W hW B d hv=>jzv rfl (hE.below hW) hv (hi x hx))
end

section
variable {w:World} {A B:Option Addr} {n c d:Nat} {ls:List (List UInt8×List UInt8)} {los his:List Rat} {ws:List Int} {s:Int}
end

section
variable {w:World} {A B:Option Addr} {n m c d:Nat} {zs ys:List Int}
end
section
variable {w:World} {A B:Option Addr} {n m c d:Nat} {zs ys:List (List UInt8×List UInt8)}
end
section
variable {w:World} {A B:Option Addr} {n m c d:Nat} {zs ys:List (List UInt8×List UInt8)} {g h:List UInt8} {x y:Int}
end

section
variable {w:World} {sx tx:Int} {Ax Bx:Option Addr} {nx cx mx dx p g:Nat} {x s y:Rat} {kind step:List UInt8}
end

section
variable {w:World} {x s:Rat} {kind step a:List UInt8}
end


section
variable {w:World} {a1 a2 b1 b2:List UInt8} {x1 x2 y1 y2:Rat}
end
end Go.Proofs.YtdbaealhapgjaaaGreatDoor
