/- Parts. -/
import Derived.Test.YtfagcpcikjlboaaGreatDoorMbG
import Derived.MapKept
import Derived.Laws.EntriesVeiled
import Derived.Deep.CutRange
set_option linter.all false
set_option maxRecDepth 100000
set_option maxHeartbeats 8000000
namespace Go.Proofs.YtfagcpcikjlboaaGreatDoor
open Go Go.RowKit Go.Proofs.Tryz

section
variable {w:World} {A:Option Addr} {n c:Nat} {ls:List (List UInt8×List UInt8)}
end
section
variable {w:World} {A:Option Addr} {n c:Nat} {ls:List (List UInt8×List UInt8)} {los his:List Rat}
end

section
variable {w:World} {A:Option Addr} {n c:Nat} {ls:List (List UInt8×List UInt8)} {los his:List Rat}
end

section
variable {w:World}
end
section
variable {w:World} {kind step:List UInt8}
end

theorem jz1 {w w':World} {b o:Nat} {v:Value} (hb:Below w.heap.size w w') (h:w.cell? ⟨b,o,none⟩=some v):w'.cell? ⟨b,o,none⟩=some v:=ja9 hb h
theorem jz0 {w w':World} {b:Nat} (hb:Below w.heap.size w w') (hz:b < w.heap.size) (h:∀o,w.frozen? ⟨b,o,none⟩=false) (o:Nat):w'.frozen? ⟨b,o,none⟩=false:=by rw [(jhL hb).2 b o hz];exact h o
theorem jCn {a b c:World} (h:Below a.heap.size a b) (k:Below b.heap.size b c):Below a.heap.size a c:=ja0 h k
theorem jxf (n:Nat):n < n+1+1:=by omega
section
variable {w:World} {h:Int} {o:Bool}
end
theorem jna (y:Rat):y.floor.natAbs≤y.num.natAbs:=by
 rw [Rat.floor_def];have hd:=y.den_pos;have h:=Int.natAbs_ediv_le_natAbs y.num (y.den:Int);exact h
theorem Sz.floor {p:Nat} {y:Rat} (h:Sz p y):Sz p (y.floor:Rat):=
 Sz.int (Nat.le_trans (jna y) h.num)

theorem jzd {w:World} {a:Int} (h:SmallQ (a:Rat)):Calls prog 67 #[.int .i64 a] w fun e w'=>e= .returned (fq (a:Rat))∧Below w.heap.size w w':=
 (jes rfl ⟨by have:=h.lo;simp at this;omega,by have:=h.hi;simp at this;omega⟩).mono fun _ _ k=>h.post k
theorem jzw {a:Int} (h0: -9223372036854775808 < a) (h1:a < 9223372036854775808):SmallQ (a:Rat):=⟨by simpa using h0,by simpa using h1,by simp⟩
section
variable {w:World} {A B:Option Addr} {n c d p:Nat} {qs:List Rat} {ws:List Int} {s:Int}
end

def jtr (a b:List UInt8):Bool:=Op.bytesLess a b || a==b
@[go_sem] theorem juD (t : TypeId) (x y : List UInt8) : binOp .leq t (.string ⟨x.toArray⟩) (.string ⟨y.toArray⟩) = pure (.bool (jtr x y)) := by
  simp [binOp,Op.stringOp,jtr,Lib.toList_data]
def jAY (p:Option (List UInt8)) (x:List UInt8):Bool:=match p with
 | some q=>jtr x q
 | none=>false
noncomputable def jBN (s:Rat) (p:Option (List UInt8)):List (List UInt8×List UInt8)→Int
 | []=>if s=1 then 0 else 12
 | x::r=>if jyU x.1=false then 8 else if jAY p x.1=true then 11 else if chk x.2≠0 then chk x.2 else if numQ x.2≤0 then 12 else jBN (s+numQ x.2) (some x.1) r
noncomputable def jyV (ls:List (List UInt8×List UInt8)):Int:=if ls.length=0 then 2 else if 64 < ls.length then 5 else jBN 0 none ls
def jzz (ls:List (List UInt8×List UInt8)) (i:Nat):Option (List UInt8):=if i=0 then none else some (ls.getD (i - 1) ([],[])).1
theorem jzI {w:World} {s t u v:Int} {A B C D:Option Addr} {n c m d i k j l:Nat} {x y:Rat} {z:Bool} (p q:Nat) (hz:decide (x=y)=z) (h:RepF w s A n c t B m d x) (h':RepF w u C i k v D j l y) (hs:Sz p x) (hs':Sz q y) (hpq:p+q < 100000):
  Calls prog 186 #[fv s A n c t B m d,fv u C i k v D j l] w fun e w'=>e= .returned (.bool z)∧Below w.heap.size w w':=hz ▸ jBo h h' hs hs' hpq
theorem jCj {x:Rat} (h:x≤0):sgn x.num≤0:=by
 have:¬0 < x.num:=fun h1=>Rat.not_lt.2 h (by rw [Rat.lt_iff];simpa using h1)
 unfold sgn;rw [if_neg this];split <;> omega
theorem jBT {x:Rat} (h:¬x≤0):¬sgn x.num≤0:=by
 have h1:=Rat.not_le.1 h;rw [Rat.lt_iff] at h1;have h2:0 < x.num:=by simpa using h1
 unfold sgn;rw [if_neg (by omega),if_pos h2];omega
theorem jCf {w w':World} {b o:Nat} (h:Below w.heap.size w w') (hb:b < w.heap.size):w'.frozen? ⟨b,o,none⟩=w.frozen? ⟨b,o,none⟩:=by
 simp only [World.frozen?,h.block b hb]
section
variable {w:World} {A:Option Addr} {n c:Nat} {ls:List (List UInt8×List UInt8)}
theorem jAj:Calls prog 151 #[.slice A 0 c] w fun e w'=>e= .returned (.int .i64 2)∧Below w.heap.size w w':=by
 go_enter func151,ntmps151;go_wp2;go_ret;exact ⟨rfl,bi⟩
theorem jAk (hn:64 < n):Calls prog 151 #[.slice A n c] w fun e w'=>e= .returned (.int .i64 5)∧Below w.heap.size w w':=by
 have q0:((n:Int)==0)=false:=by rw [beq_eq_false_iff_ne];omega
 have q1:decide ((64:Int) < (n:Int))=true:=by rw [decide_eq_true_iff];omega
 clear hn;go_enter func151,ntmps151;go_wp2;go_ret;exact ⟨rfl,bi⟩
theorem jBc {k:Int} (hE:Env w) (hv:Pv w A n ls) (h0:0 < n) (hn:n≤64) (hl:∀p∈ls,p.1.length < 4294967281∧p.2.length < 4294967281) (hk:jBN 0 none ls=k):
  Calls prog 151 #[.slice A n c] w fun e w'=>e= .returned (.int .i64 k)∧Below w.heap.size w w':=by
 have q0:((n:Int)==0)=false:=by rw [beq_eq_false_iff_ne];omega
 have q1:decide ((64:Int) < (n:Int))=false:=by rw [decide_eq_false_iff_not];omega
 have HE:=qh hE;have HV:=qh hv;have HN:=qh hn;have HK:=qh hk
 have HL:Hd (∀i,i < n→(ls.getD i ([],[])).2.length < 4294967281):=qh (fun i hi=>by
  have hil:i < ls.length:=by rw [hv.len];exact hi
  rw [List.getD_eq_getElem?_getD,List.getElem?_eq_getElem hil];exact (hl _ (List.getElem_mem hil)).2)
 have H0:Hd (((0:Int):Rat)=0):=qh rfl;have HR0:Hd (R64 0):=qh ⟨by decide,by decide⟩;clear hE hv h0 hn hl hk;go_enter func151,ntmps151;go_wp2_with ((go_at_call 67;(with_reducible refine mf0 (jes H0.o HR0.o) fun w1 s1 A1 n1 c1 t1 B1 m1 d1 hr1 hq1 hb1 hc1 hf1 _=> ?_)))
 go_loopw [17] (fun u wr=>∃(i:Nat) (s:Rat) (ss:Int) (As:Option Addr) (ns cs:Nat) (ts:Int) (Bs:Option Addr) (ms ds:Nat),u= .int .i64 (i:Int)∧Below w.heap.size w wr∧i≤n∧w1.heap.size < wr.heap.size
   ∧wr.cell? ⟨w1.heap.size,0,none⟩=some (.int .i64 ss)∧wr.cell? ⟨w1.heap.size,1,none⟩=some (.slice As ns cs)∧wr.cell? ⟨w1.heap.size,2,none⟩=some (.int .i64 ts)∧wr.cell? ⟨w1.heap.size,3,none⟩=some (.slice Bs ms ds)
   ∧(∀o,wr.frozen? ⟨w1.heap.size,o,none⟩=false)
   ∧RepF wr ss As ns cs ts Bs ms ds s∧Sz (i*601+1) s∧jBN s (jzz ls i) (ls.drop i)=k) (fun u _=>n - (intOf u).toNat)
 case atStart=>
  exact ⟨0,0,s1,A1,n1,c1,t1,B1,m1,d1,rfl,bi,by omega,by simp,by simp [go_sem],by simp [go_sem],by simp [go_sem],by simp [go_sem],by intro o;simp [go_sem],(by constructor <;> (with_reducible repeat first|assumption|apply rZ|refine rP ?_ rfl (by simp [go_sem,hc1]))),by have:=(jej HR0.o);rw [H0.o] at this;exact this.mono (by omega),HK.o⟩
 case round=>
  obtain ⟨i,s,ss,As,ns,cs,ts,Bs,ms,ds,rfl,hb,hin,hsz,e0,e1,e2,e3,f0,hrs,hss,hc⟩:=hrel;have _:=bm hb;have HM:=qh hrs;have HSS:=qh hss;have HC:=qh hc;clear hrs hss hc;by_cases hi:i < n
  ·have p0:decide ((i:Int) < (n:Int))=true:=by simp;exact hi
   have hnn:=HN.o;obtain ⟨b,o,rfl,hbl,hcell⟩:=(HV.o.below hb).at_ (by omega);obtain ⟨hx,hy⟩:=hcell i hi;have hil:i < ls.length:=by rw [HV.o.len];exact hi
   have HLI:=qh (HL.o i hi);have hc:=HC.o;rw [jd5 (d:=([],[])) hil,jBN] at hc;have hnext:jzz ls (i+1)=some (ls.getD i ([],[])).1:=by rw [jzz,if_neg (by omega)];rfl
   obtain ⟨x1,hx1⟩:∃x,(ls.getD i ([],[])).1=x:=⟨_,rfl⟩;obtain ⟨x2,hx2⟩:∃x,(ls.getD i ([],[])).2=x:=⟨_,rfl⟩;rw [hx1,hx2] at hc;rw [hx1] at hx hnext;rw [hx2] at hy HLI;have HNX:=qh hnext;have HI:=qh hi;clear hil hx1 hx2 hnext HC;cases hg:jyU x1 with
   | false=>
     rw [hg,if_pos rfl] at hc;subst hc;have HG:=qh hg;clear hg hi hcell;go_wp2_with (go_at_call 108;(with_reducible refine mo0 (jyN HG.o) fun w2 hb2 hc2 hf2 _=> ?_))
     go_ret;exact ⟨rfl,bi⟩
   | true=>
     rw [hg,if_neg (by simp)] at hc;have HG:=qh hg;clear hg;cases hp:jAY (jzz ls i) x1 with
     | true=>
       rw [hp,if_pos rfl] at hc;subst hc
       obtain ⟨i',rfl⟩:∃i',i=i'+1:=by
        cases i with
        | zero=>simp [jzz,jAY] at hp
        | succ i'=>exact ⟨i',rfl⟩
       rw [jzz,if_neg (by omega),Nat.add_sub_cancel] at hp;obtain ⟨hz,_⟩:=hcell i' (by omega);obtain ⟨y1,hy1⟩:∃y,(ls.getD i' ([],[])).1=y:=⟨_,rfl⟩;rw [hy1] at hz hp;have q2:jtr x1 y1=true:=hp;have q4:(i':Int) < (n:Int):=by omega
       have q5:IntKind.i64.wrap (i':Int)=(i':Int):=by simp [IntKind.wrap,IntKind.bits,IntKind.signed];omega
       have q3:decide ((0:Int) < (i':Int)+1)=true:=by rw [decide_eq_true_iff];omega
       have q8:(i':Int)+1 < (n:Int):=by omega
       have q7:decide ((i':Int)+1 < (n:Int))=true:=by rw [decide_eq_true_iff];omega
       clear hi hcell hp hy1;go_upto_region 11 with (go_at_call 108;(with_reducible refine mo0 (jyN HG.o) fun w2 hb2 hc2 hf2 _=> ?_))
       go_quiet (fail)
       go_wp2;go_ret;exact ⟨rfl,bi⟩
     | false=>
       rw [hp,if_neg (by simp)] at hc;have HP:=qh hp;have HC:=qh hc;have HCE:=qh hcell;clear hi hp hc hcell;go_upto_region 11 with (go_at_call 108;(with_reducible refine mo0 (jyN HG.o) fun w2 hb2 hc2 hf2 _=> ?_))
       go_cut [38] (fun u wx=>u= .bool false∧Below w2.heap.size w2 wx)
       case first=>
        cases i with
        | zero=>
          go_quiet (fail)
          go_wp2;go_meet;exact ⟨rfl,bi⟩
        | succ i'=>
          have hin':=HI.o;have hp:=HP.o;rw [jzz,if_neg (by omega),Nat.add_sub_cancel] at hp;obtain ⟨hz,_⟩:=HCE.o i' (by omega);obtain ⟨y1,hy1⟩:∃y,(ls.getD i' ([],[])).1=y:=⟨_,rfl⟩;rw [hy1] at hz hp;have q2:jtr x1 y1=false:=hp;have q4:(i':Int) < (n:Int):=by omega
          have q5:IntKind.i64.wrap (i':Int)=(i':Int):=by simp [IntKind.wrap,IntKind.bits,IntKind.signed];omega
          have q3:decide ((0:Int) < (i':Int)+1)=true:=by rw [decide_eq_true_iff];omega
          clear hp hy1
          go_quiet (fail)
          go_wp2;go_meet;exact ⟨rfl,bi⟩
       case rest=>
        obtain ⟨rfl,hbc⟩:=hcut;have _:=bm hbc;clear HCE HP hc2 hf2;have hbW:Below w.heap.size w wc:=ja0 (ja0 (ja5 hb _) hb2) hbc;have hszc:w1.heap.size < wc.heap.size:=Nat.lt_of_lt_of_le hsz (Nat.le_trans (by have:=hb2.size;simp at this;omega) hbc.size);have hbz:wr.heap.size < wc.heap.size:=Nat.lt_of_lt_of_le (by have:=hb2.size;simp at this;omega) hbc.size;have hbr:Below (wr.alloc (.cells #[bs x1,bs x2] 49)).heap.size (wr.alloc (.cells #[bs x1,bs x2] 49)) wc:=ja0 hb2 hbc;have j0:wc.cell? ⟨wr.heap.size,0,none⟩=some (bs x1):=ja9 hbr (by simp);have j1:wc.cell? ⟨wr.heap.size,1,none⟩=some (bs x2):=ja9 hbr (by simp);have hbw2:Below wr.heap.size wr wc:=ja0 (ja5 (Below.refl _ _) _) hbr;have g0:=ja9 hbw2 e0;have g1:=ja9 hbw2 e1;have g2:=ja9 hbw2 e2;have g3:=ja9 hbw2 e3;have gf:∀o,wc.frozen? ⟨w1.heap.size,o,none⟩=false:=fun o=>(jCf hbw2 hsz).trans (f0 o)
        have HM2:=qh (HM.o.below hbw2);have HEc:=qh (HE.o.below hbW);obtain ⟨B5,hB5⟩:∃B,wr.heap.size=B:=⟨_,rfl⟩;rw [hB5] at hbz j0 j1;simp only [hB5];clear hb hb2 hbc hbr hbw2 e0 e1 e2 e3 f0 HM hB5;by_cases hk2:chk x2=0
        ·have hc:=HC.o;rw [if_neg (by simpa using hk2)] at hc;have HKZ:=qh hk2;have hxn:=jjb hk2;obtain ⟨x,hxv⟩:∃x,numQ x2=x:=⟨_,rfl⟩;rw [hxv] at hc hxn;have HX:=qh hxn;have HXS:=qh hxn.sz;clear hk2 hxn hxv HC;obtain ⟨sg,hsg⟩:∃z,sgn x.num=z:=⟨_,rfl⟩;have HSG:=qh hsg;by_cases h0:x≤0
         ·rw [if_pos h0] at hc;subst hc
          have q9:decide (sg≤0)=true:=by
           rw [decide_eq_true_iff,←hsg];exact jCj h0
          clear h0 hsg
          go_wp2_with (first
           | (go_at_call 75;(with_reducible refine mo0 (jln HKZ.o (HEc.o.below bi) HLI.o) fun w3 hb3 hc3 hf3 _=> ?_))
           | (go_at_call 51;(with_reducible refine mf0 (jaz HX.o (HEc.o.below bi)) fun w4 s4 A4 n4 c4 t4 B4 m4 d4 hr4 hq4 hb4 hc4 hf4 _=> ?_))
           | (go_at_call 68;(with_reducible refine mo0 (jg2 HSG.o (by constructor <;> (with_reducible repeat first|assumption|apply rZ|refine rP ?_ rfl (by simp [go_sem,hc4])))) fun w5 hb5 hc5 hf5 _=> ?_)))
          go_ret;exact ⟨rfl,bi⟩
         ·rw [if_neg h0] at hc
          have q9:decide (sg≤0)=false:=by
           rw [decide_eq_false_iff_not,←hsg];exact jBT h0
          have HC:=qh hc;clear h0 hsg hc;have hle:w.heap.size≤w1.heap.size:=hb1.size
          go_wp2_with (first
           | ((go_at_call 75;(with_reducible refine mo0 (jln HKZ.o (HEc.o.below bi) HLI.o) fun w3 hb3 hc3 hf3 _=> ?_));(first|have y3_0:=szl (k:=w1.heap.size) hb3 (by first|go_size|fail)|have y3_0:=Nat.one_pos);(first|have y3_1:=szl (k:=B5) hb3 (by first|go_size|fail)|have y3_1:=Nat.one_pos))
           | ((go_at_call 51;(with_reducible refine mf0 (jaz HX.o (HEc.o.below bi)) fun w4 s4 A4 n4 c4 t4 B4 m4 d4 hr4 hq4 hb4 hc4 hf4 _=> ?_));(first|have y4_0:=szl (k:=w1.heap.size) hb4 (by first|go_size|fail)|have y4_0:=Nat.one_pos);(first|have y4_1:=szl (k:=B5) hb4 (by first|go_size|fail)|have y4_1:=Nat.one_pos))
           | ((go_at_call 68;(with_reducible refine mo0 (jg2 HSG.o (by constructor <;> (with_reducible repeat first|assumption|apply rZ|refine rP ?_ rfl (by simp [go_sem,hc4])))) fun w5 hb5 hc5 hf5 _=> ?_));(first|have y5_0:=szl (k:=w1.heap.size) hb5 (by first|go_size|fail)|have y5_0:=Nat.one_pos);(first|have y5_1:=szl (k:=B5) hb5 (by first|go_size|fail)|have y5_1:=Nat.one_pos);(first|have y5_2:=szl (k:=w4.heap.size) hb5 (by first|go_size|fail)|have y5_2:=Nat.one_pos))
           | ((go_at_call 114;(with_reducible refine mf0 (jo7 (i*601+1) 600 rfl (HM2.o.below bi) (by constructor <;> (with_reducible repeat first|assumption|apply rZ|refine rP ?_ rfl (by simp [go_sem,hc4]))) HSS.o HXS.o (by have:=HI.o;omega)) fun w6 s6 A6 n6 c6 t6 B6 m6 d6 hr6 hq6 hb6 hc6 hf6 _=> ?_));(first|have y6_0:=szl (k:=w1.heap.size) hb6 (by first|go_size|fail)|have y6_0:=Nat.one_pos)))
          have bW6:Below wc.heap.size wc w6:=bi;have k60:=ja9 bW6 g0;have k61:=ja9 bW6 g1;have k62:=ja9 bW6 g2;have k63:=ja9 bW6 g3;have kf:∀o,w6.frozen? ⟨w1.heap.size,o,none⟩=false:=fun o=>(jCf bW6 hszc).trans (gf o)
          exact ⟨⟨i+1,s+x,s6,A6,n6,c6,t6,B6,m6,d6,by simp,bi,HI.o,by simp;exact y6_0,by simp [go_sem,k60,k61,k62,k63],by simp [go_sem,k60,k61,k62,k63],by simp [go_sem,k60,k61,k62,k63],by simp [go_sem,k60,k61,k62,k63],by intro o;simp [go_sem,kf],(by constructor <;> (with_reducible repeat first|assumption|apply rZ|refine rP ?_ rfl (by simp [go_sem,k60,k61,k62,k63]))),(HSS.o.add HXS.o).mono (by omega),by rw [HNX.o];exact HC.o⟩,by have:=HI.o;simp [intOf];omega⟩
        ·have hc:=HC.o;rw [if_pos hk2] at hc;obtain ⟨y,hy'⟩:∃y,chk x2=y:=⟨_,rfl⟩;rw [hy'] at hc hk2;subst hc;have HKZ:=qh hy';have q9:(y != 0)=true:=by rw [bne_iff_ne];exact hk2
         clear hk2 hy' HC;go_wp2_with (go_at_call 75;(with_reducible refine mo0 (jln HKZ.o (HEc.o.below bi) HLI.o) fun w3 hb3 hc3 hf3 _=> ?_))
         go_ret;exact ⟨rfl,bi⟩
  ·have p0:decide (i < n)=false:=by simp;omega
   have hc:=HC.o;rw [List.drop_eq_nil_of_le (by rw [HV.o.len];omega),jBN] at hc;have hin:i≤64:=by have:=HN.o;omega
   have H1:Hd (((1:Int):Rat)=1):=qh rfl;have HR1:Hd (R64 1):=qh ⟨by decide,by decide⟩;have HS1:Hd (Sz 1 (1:Rat)):=qh (by have:=(jej HR1.o);rw [H1.o] at this;exact this);obtain ⟨z,hz⟩:∃z,decide (s=1)=z:=⟨_,rfl⟩;have hk:k=if z then 0 else 12:=by rw [←hc,←hz];by_cases h:s=1 <;> simp [h]
   have HZ:=qh hz;subst hk;clear hi HC hc hz;cases z with
   | true=>
     go_upto_region 21 with (fail)
     refine ja1 (fun w'=>Below wr.heap.size wr w') [] (by kernel_rfl) ?_;refine tb 0 (fv ss As ns cs ts Bs ms ds) [] rfl (by kernel_rfl) pk rfl (by intros;go_simp) bq0 ?_;simp only [ppq];refine rd1 1 (by kernel_rfl) rfl (fun K hK=> ?_);go_simp;go_wp2_with (go_at_call 67;(with_reducible refine mf0 (jes H1.o HR1.o) fun w7 s7 A7 n7 c7 t7 B7 m7 d7 hr7 hq7 hb7 hc7 hf7 _=> ?_))
     have sS7:=qh (bst bq0 hb7);refine hK.out _ _ (fun _=>sS7.o) ?_;clear hK K;refine rd1 2 (by kernel_rfl) rfl (fun K hK=> ?_);go_simp;go_wp2_with (go_at_call 186;(with_reducible refine mo0 (jzI (i*601+1) 1 HZ.o (HM.o.below bi) ⟨hr7,hq7⟩ HSS.o HS1.o (by omega)) fun w8 hb8 hc8 hf8 _=> ?_))
     have sS8:=qh (bst sS7.o hb8);refine hK.out _ _ (fun _=>sS8.o) ?_;clear hK K;refine rd1 3 (by kernel_rfl) rfl (fun K hK=> ?_);go_simp;refine hK.out _ _ (fun _=>bi) ?_;clear hK K;refine ja2 (by kernel_rfl) ?_ _;go_wp2;go_ret;exact ⟨rfl,bi⟩
   | false=>
     go_upto_region 21 with (fail)
     refine ja1 (fun w'=>Below wr.heap.size wr w') [] (by kernel_rfl) ?_;refine tb 0 (fv ss As ns cs ts Bs ms ds) [] rfl (by kernel_rfl) pk rfl (by intros;go_simp) bq0 ?_;simp only [ppq];refine rd1 1 (by kernel_rfl) rfl (fun K hK=> ?_);go_simp;go_wp2_with (go_at_call 67;(with_reducible refine mf0 (jes H1.o HR1.o) fun w7 s7 A7 n7 c7 t7 B7 m7 d7 hr7 hq7 hb7 hc7 hf7 _=> ?_))
     have sS7:=qh (bst bq0 hb7);refine hK.out _ _ (fun _=>sS7.o) ?_;clear hK K;refine rd1 2 (by kernel_rfl) rfl (fun K hK=> ?_);go_simp;go_wp2_with (go_at_call 186;(with_reducible refine mo0 (jzI (i*601+1) 1 HZ.o (HM.o.below bi) ⟨hr7,hq7⟩ HSS.o HS1.o (by omega)) fun w8 hb8 hc8 hf8 _=> ?_))
     have sS8:=qh (bst sS7.o hb8);refine hK.out _ _ (fun _=>sS8.o) ?_;clear hK K;refine rd1 3 (by kernel_rfl) rfl (fun K hK=> ?_);go_simp;refine hK.out _ _ (fun _=>bi) ?_;clear hK K;refine ja2 (by kernel_rfl) ?_ _;go_wp2;go_ret;exact ⟨rfl,bi⟩
end

structure Lay where
 grain:List UInt8
 mass:Int
 shares:List (List UInt8×List UInt8)
abbrev jyM:Lay:=⟨[],0,[]⟩
structure LyAt (w:World) (b o:Nat) (x:Lay):Prop where
 at_:∃A c,w.cell? ⟨b,o,none⟩=some (bs x.grain)∧w.cell? ⟨b,o+1,none⟩=some (.int .i64 x.mass)∧w.cell? ⟨b,o+2,none⟩=some (.slice A x.shares.length c)∧Pv w A x.shares.length x.shares
theorem LyAt.below {w w':World} {b o:Nat} {x:Lay} (h:LyAt w b o x) (hb:Below w.heap.size w w'):LyAt w' b o x:=by
 obtain ⟨A,c,h1,h2,h3,h4⟩:=h.at_;exact ⟨⟨A,c,ja9 hb h1,ja9 hb h2,ja9 hb h3,h4.below hb⟩⟩
structure Lv (w:World) (A:Option Addr) (n:Nat) (ls:List Lay):Prop where
 len:ls.length=n
 at_:0 < n→∃b o,A=some ⟨b,o,none⟩∧b < w.heap.size∧∀j,j < n→LyAt w b (o+j*3) (ls.getD j jyM)
theorem Lv.below {w w':World} {A:Option Addr} {n:Nat} {ls:List Lay} (h:Lv w A n ls) (hb:Below w.heap.size w w'):Lv w' A n ls:=
 ⟨h.len,fun hn=>by
   obtain ⟨b,o,e,h1,h2⟩:=h.at_ hn
   exact ⟨b,o,e,Nat.lt_of_lt_of_le h1 hb.size,fun j hj=>(h2 j hj).below hb⟩⟩
noncomputable def jyR (x:Lay):Int:=if jyU x.grain=false then 8 else if x.mass < 1∨999999999 < x.mass then 3 else jyV x.shares
structure LayIn (x:Lay):Prop where
 mass:R64 x.mass
 many:x.shares.length≤100000
 len:∀p∈x.shares,p.1.length < 4294967281∧p.2.length < 4294967281
theorem jAf {w:World} {A:Option Addr} {n c:Nat} {ls:List (List UInt8×List UInt8)} {k:Int} (hk:jyV ls=k) (hE:Env w) (hv:Pv w A n ls) (hl:∀p∈ls,p.1.length < 4294967281∧p.2.length < 4294967281):
  Calls prog 151 #[.slice A n c] w fun e w'=>e= .returned (.int .i64 k)∧Below w.heap.size w w':=by
 unfold jyV at hk;rw [hv.len] at hk;by_cases h0:n=0
 ·rw [if_pos h0] at hk;subst h0;subst hk;exact jAj
 ·rw [if_neg h0] at hk;by_cases h1:64 < n
  ·rw [if_pos h1] at hk;subst hk;exact jAk h1
  ·rw [if_neg h1] at hk;exact jBc hE hv (by omega) (by omega) hl hk
section
variable {w:World} {A:Option Addr} {n c:Nat} {x:Lay}
theorem jzH {k:Int} (hk:jyR x=k) (hE:Env w) (hv:Pv w A x.shares.length x.shares) (hi:LayIn x):
  Calls prog 105 #[.agg #[bs x.grain, .int .i64 x.mass, .slice A x.shares.length c]] w fun e w'=>e= .returned (.int .i64 k)∧Below w.heap.size w w':=by
 obtain ⟨g,m,ls⟩:=x;have hil:=hi.len;unfold jyR at hk;dsimp only at hk hv hil ⊢;have HE:=qh hE;have HV:=qh hv;have HL:=qh hil;clear hE hv hil hi;obtain ⟨n,hn⟩:∃n,ls.length=n:=⟨_,rfl⟩;rw [hn] at HV ⊢;clear hn;cases hg:jyU g with
 | false=>
   rw [hg,if_pos rfl] at hk;subst hk;have HG:=qh hg;clear hg;go_enter func105,ntmps105;go_wp2_with (go_at_call 108;(with_reducible refine mo1 w (jyN HG.o) (by go_size) fun w1 hb1 hc1 hf1 z1_0 _=> ?_))
   go_ret;exact ⟨rfl,bi⟩
 | true=>
   rw [hg,if_neg (by simp)] at hk;have HG:=qh hg;clear hg;by_cases h1:m < 1
   ·rw [if_pos (Or.inl h1)] at hk;subst hk;have q1:decide (m < 1)=true:=by simpa using h1
    clear h1;go_enter func105,ntmps105;go_wp2_with (go_at_call 108;(with_reducible refine mo1 w (jyN HG.o) (by go_size) fun w1 hb1 hc1 hf1 z1_0 _=> ?_))
    go_ret;exact ⟨rfl,bi⟩
   ·have q1:decide (m < 1)=false:=by simpa using h1
    by_cases h2:999999999 < m
    ·rw [if_pos (Or.inr h2)] at hk;subst hk;have q2:decide (999999999 < m)=true:=by simpa using h2
     clear h1 h2;go_enter func105,ntmps105;go_wp2_with (go_at_call 108;(with_reducible refine mo1 w (jyN HG.o) (by go_size) fun w1 hb1 hc1 hf1 z1_0 _=> ?_))
     go_ret;exact ⟨rfl,bi⟩
    ·rw [if_neg (fun h=>h.elim h1 h2)] at hk;have q2:decide (999999999 < m)=false:=by simpa using h2
     have HK:=qh hk;clear h1 h2 hk;go_enter func105,ntmps105
     go_wp2_with (first
      | (go_at_call 108;(with_reducible refine mo1 w (jyN HG.o) (by go_size) fun w1 hb1 hc1 hf1 z1_0 _=> ?_))
      | (go_at_call 151;(with_reducible refine mo1 w (jAf HK.o (HE.o.below bi) (HV.o.below bi) HL.o) (by go_size) fun w2 hb2 hc2 hf2 z2_0 _=> ?_)))
     go_ret;exact ⟨rfl,bi⟩
end
section
variable {w:World} {A:Option Addr} {n c:Nat} {ls:List Lay} {f:Lay→Int}
theorem jzr (h:Lv w A n ls) (hn:n≤100000) (hf:∀x∈ls,∀W,Below w.heap.size w W→∀B d,Pv W B x.shares.length x.shares→Calls prog 105 #[.agg #[bs x.grain, .int .i64 x.mass, .slice B x.shares.length d]] W fun e w'=>e= .returned (.int .i64 (f x))∧Below W.heap.size W w'):
  Calls prog 187 #[.func (.func 105) #[] #[], .slice A n c] w fun e w'=>e= .returned (.int .i64 (jar f ls))∧Below w.heap.size w w':=by
 obtain ⟨R,hR⟩:∃R,jar f ls=R:=⟨_,rfl⟩;rw [hR];have HR:=qh hR;have H:=qh h;have HN:=qh hn;have HF:=qh hf;clear hR h hn hf;go_enter func187,ntmps187;go_wp2
 go_loopw [10] (fun u wr=>∃(i:Nat),u= .int .i64 (i:Int)∧Below w.heap.size w wr∧i≤n∧jar f (ls.drop i)=R) (fun u _=>n - (intOf u).toNat)
 case atStart=>exact ⟨0,rfl,bi,by omega,HR.o⟩
 case round=>
  obtain ⟨i,rfl,hb,hin,hc⟩:=hrel;have _:=bm hb;by_cases hi:i < n
  ·have q0:decide ((i:Int) < (n:Int))=true:=by simp;exact hi
   obtain ⟨b,o,rfl,hbl,hcell⟩:=(H.o.below hb).at_ (by omega);obtain ⟨B,d,hx,hy,hz,hp⟩:=(hcell i hi).at_;have hil:i < ls.length:=by rw [H.o.len];exact hi
   rw [jd5 (d:=jyM) hil] at hc;have hmem:ls.getD i jyM∈ls:=by rw [List.getD_eq_getElem?_getD,List.getElem?_eq_getElem hil];exact List.getElem_mem hil
   obtain ⟨x,hxx⟩:∃x,ls.getD i jyM=x:=⟨_,rfl⟩;rw [hxx] at hx hy hz hp hc hmem;have HX:Hd (∀W,Below wr.heap.size wr W→Calls prog 105 #[.agg #[bs x.grain, .int .i64 x.mass, .slice B x.shares.length d]] W fun e w'=>e= .returned (.int .i64 (f x))∧Below W.heap.size W w'):=qh (fun W hW=>HF.o x hmem W (ja0 hb hW) B d (hp.below hW));have hnn:=HN.o;have HI:=qh hi;obtain ⟨x1,hx1⟩:∃y,x.grain=y:=⟨_,rfl⟩;obtain ⟨x2,hx2⟩:∃y,x.mass=y:=⟨_,rfl⟩;obtain ⟨x3,hx3⟩:∃y,x.shares.length=y:=⟨_,rfl⟩;rw [hx1] at hx HX;rw [hx2] at hy HX;rw [hx3] at hz HX;clear hcell hmem hil hxx hx1 hx2 hx3 hp;by_cases h0:f x=0
   ·have HC:Hd (jar f (ls.drop (i+1))=R):=qh (by rw [←hc,jf3 h0]);rw [h0] at HX;clear hc h0 hi;go_wp2_with (go_at_call 105;(with_reducible refine mo0 (HX.o _ bi) fun w1 hb1 hc1 hf1 _=> ?_))
    exact ⟨⟨i+1,by simp,bi,HI.o,HC.o⟩,by have:=HI.o;simp [intOf];omega⟩
   ·have hR:R=f x:=by rw [←hc,jed h0]
    subst hR;obtain ⟨y,hy'⟩:∃y,f x=y:=⟨_,rfl⟩;rw [hy'] at HX;have q1:(y != 0)=true:=by rw [bne_iff_ne,←hy'];exact h0
    have HY:=qh hy';clear hc h0 hi hy' HR;go_wp2_with (go_at_call 105;(with_reducible refine mo0 (HX.o _ bi) fun w1 hb1 hc1 hf1 _=> ?_))
    go_ret;exact ⟨by rw [HY.o];rfl,bi⟩
  ·have q0:decide (i < n)=false:=by simp;omega
   rw [List.drop_eq_nil_of_le (by rw [H.o.len];omega)] at hc;have hR:R=0:=by rw [←hc];rfl
   subst hR;clear hc hi HR;go_wp2;go_ret;exact ⟨rfl,bi⟩
theorem jAm {k:Int} (hk:jar jyR ls=k) (hE:Env w) (h:Lv w A n ls) (hn:n≤100000) (hi:∀x∈ls,LayIn x):
  Calls prog 187 #[.func (.func 105) #[] #[], .slice A n c] w fun e w'=>e= .returned (.int .i64 k)∧Below w.heap.size w w':=by
 subst hk;exact jzr h hn (fun x hx W hW B d hv=>jzH rfl (hE.below hW) hv (hi x hx))
end

section
variable {w:World} {A B:Option Addr} {n c d:Nat} {ls:List (List UInt8×List UInt8)} {los his:List Rat} {ws:List Int} {s:Int}
end

section
variable {w:World} {A B:Option Addr} {n m c d:Nat} {zs ys:List Int}
end
section
variable {w:World} {A B:Option Addr} {n m c d:Nat} {zs ys:List (List UInt8×List UInt8)}
end
section
variable {w:World} {A B:Option Addr} {n m c d:Nat} {zs ys:List (List UInt8×List UInt8)} {g h:List UInt8} {x y:Int}
end

section
variable {w:World} {sx tx:Int} {Ax Bx:Option Addr} {nx cx mx dx p g:Nat} {x s y:Rat} {kind step:List UInt8}
end

section
variable {w:World} {x s:Rat} {kind step a:List UInt8}
end


theorem Qv.fourAt {w:World} {T:TypeId} {b:Nat} {s1 t1 s2 t2 s3 t3 s4 t4:Int} {A1 B1 A2 B2 A3 B3 A4 B4:Option Addr} {n1 c1 m1 d1 n2 c2 m2 d2 n3 c3 m3 d3 n4 c4 m4 d4:Nat} {x y z u:Rat} (hb:b=w.heap.size)
  (h1:RepF (w.alloc (.cells #[.int .i64 s1, .slice A1 n1 c1, .int .i64 t1, .slice B1 m1 d1, .int .i64 s2, .slice A2 n2 c2, .int .i64 t2, .slice B2 m2 d2, .int .i64 s3, .slice A3 n3 c3, .int .i64 t3, .slice B3 m3 d3, .int .i64 s4, .slice A4 n4 c4, .int .i64 t4, .slice B4 m4 d4] T)) s1 A1 n1 c1 t1 B1 m1 d1 x)
  (h2:RepF (w.alloc (.cells #[.int .i64 s1, .slice A1 n1 c1, .int .i64 t1, .slice B1 m1 d1, .int .i64 s2, .slice A2 n2 c2, .int .i64 t2, .slice B2 m2 d2, .int .i64 s3, .slice A3 n3 c3, .int .i64 t3, .slice B3 m3 d3, .int .i64 s4, .slice A4 n4 c4, .int .i64 t4, .slice B4 m4 d4] T)) s2 A2 n2 c2 t2 B2 m2 d2 y)
  (h3:RepF (w.alloc (.cells #[.int .i64 s1, .slice A1 n1 c1, .int .i64 t1, .slice B1 m1 d1, .int .i64 s2, .slice A2 n2 c2, .int .i64 t2, .slice B2 m2 d2, .int .i64 s3, .slice A3 n3 c3, .int .i64 t3, .slice B3 m3 d3, .int .i64 s4, .slice A4 n4 c4, .int .i64 t4, .slice B4 m4 d4] T)) s3 A3 n3 c3 t3 B3 m3 d3 z)
  (h4:RepF (w.alloc (.cells #[.int .i64 s1, .slice A1 n1 c1, .int .i64 t1, .slice B1 m1 d1, .int .i64 s2, .slice A2 n2 c2, .int .i64 t2, .slice B2 m2 d2, .int .i64 s3, .slice A3 n3 c3, .int .i64 t3, .slice B3 m3 d3, .int .i64 s4, .slice A4 n4 c4, .int .i64 t4, .slice B4 m4 d4] T)) s4 A4 n4 c4 t4 B4 m4 d4 u):
  Qv (w.alloc (.cells #[.int .i64 s1, .slice A1 n1 c1, .int .i64 t1, .slice B1 m1 d1, .int .i64 s2, .slice A2 n2 c2, .int .i64 t2, .slice B2 m2 d2, .int .i64 s3, .slice A3 n3 c3, .int .i64 t3, .slice B3 m3 d3, .int .i64 s4, .slice A4 n4 c4, .int .i64 t4, .slice B4 m4 d4] T)) (some ⟨b,0,none⟩) 4 [x,y,z,u]:=by
 subst hb
 exact ⟨rfl,fun _=>⟨w.heap.size,0,rfl,by simp,fun j hj=>by
  have h:j=0∨j=1∨j=2∨j=3:=by omega
  rcases h with rfl|rfl|rfl|rfl
  ·exact ⟨⟨_,_,_,_,_,_,_,_,by simp,by simp,by simp,by simp,h1⟩⟩
  ·exact ⟨⟨_,_,_,_,_,_,_,_,by simp,by simp,by simp,by simp,h2⟩⟩
  ·exact ⟨⟨_,_,_,_,_,_,_,_,by simp,by simp,by simp,by simp,h3⟩⟩
  ·exact ⟨⟨_,_,_,_,_,_,_,_,by simp,by simp,by simp,by simp,h4⟩⟩⟩⟩
section
variable {w:World} {a1 a2 b1 b2:List UInt8} {x1 x2 y1 y2:Rat}
theorem jCl {lo hi:Rat} {tlo th:List UInt8} {ke:Int} (hE:Env w) (hl1:a1.length < 4294967281) (hl2:a2.length < 4294967281) (hl3:b1.length < 4294967281) (hl4:b2.length < 4294967281)
  (hx1:IsNum a1 x1) (hx2:IsNum a2 x2) (hy1:IsNum b1 y1) (hy2:IsNum b2 y2) (hk:jar jwt [(a1,a2),(b1,b2)]=0)
  (hlo:jAU (x1*y1) [x1*y2,x2*y1,x2*y2]=lo) (hhi:jAK (x1*y1) [x1*y2,x2*y1,x2*y2]=hi) (hS:StrQ lo) (hS':StrQ hi) (htl:jC9 lo hi=tlo) (hth:jCa lo hi=th) (hke:jCb lo hi=ke):
  Calls prog 9 #[sp a1 a2,sp b1 b2] w fun e w'=>e= .returned (.tuple #[sp tlo th, .int .i64 ke])∧Below w.heap.size w w':=by
 have HLO:=qh hlo;have HHI:=qh hhi;have HS:=qh hS;have HS':=qh hS';have HTL:=qh htl;have HTH:=qh hth;have HKE:=qh hke;clear hlo hhi hS hS' htl hth hke;have HE:=qh hE;have HL1:=qh hl1;have HL2:=qh hl2;have HL3:=qh hl3;have HL4:=qh hl4;have HX1:=qh hx1;have HX2:=qh hx2;have HY1:=qh hy1;have HY2:=qh hy2;have HSX1:=qh hx1.sz;have HSX2:=qh hx2.sz;have HSY1:=qh hy1.sz;have HSY2:=qh hy2.sz;have HK:=qh hk;clear hE hl1 hl2 hl3 hl4 hx1 hx2 hy1 hy2 hk;go_enter func9,ntmps9;go_upto_region 4 with ((go_at_call 30;(with_reducible refine mo3 w (jzx HK.o (HE.o.below bi) (Pv.twoAt (by simp)) (by omega) HL1.o HL2.o HL3.o HL4.o) (by go_size) fun w1 hb1 hc1 hf1 z1_0 z1_1 z1_2 _=> ?_)))
 obtain ⟨W,hWW⟩:∃x,w1=x:=⟨_,rfl⟩;have cW_0:W.cell? ⟨w.heap.size,0,none⟩=some (bs a1):=(by rw [←hWW];simp [go_sem,hc1,z1_0,z1_1,z1_2]);have cW_1:W.cell? ⟨w.heap.size,1,none⟩=some (bs a2):=(by rw [←hWW];simp [go_sem,hc1,z1_0,z1_1,z1_2]);have cW_2:W.cell? ⟨w.heap.size+1,0,none⟩=some (bs b1):=(by rw [←hWW];simp [go_sem,hc1,z1_0,z1_1,z1_2]);have cW_3:W.cell? ⟨w.heap.size+1,1,none⟩=some (bs b2):=(by rw [←hWW];simp [go_sem,hc1,z1_0,z1_1,z1_2]);have cW_4:W.cell? ⟨w.heap.size+1+1,0,none⟩=some (bs []):=(by rw [←hWW];simp [go_sem,hc1,z1_0,z1_1,z1_2]);have cW_5:W.cell? ⟨w.heap.size+1+1,1,none⟩=some (bs []):=(by rw [←hWW];simp [go_sem,hc1,z1_0,z1_1,z1_2]);have fW_0:∀o,W.frozen? ⟨w.heap.size+1+1,o,none⟩=false:=(by intro o;rw [←hWW];simp [go_sem,hf1,z1_2]);have zW_0:w.heap.size < W.heap.size:=(by rw [←hWW];first|assumption|(simp;done)|(simp;omega));have zW_1:w.heap.size+1 < W.heap.size:=(by rw [←hWW];first|assumption|(simp;done)|(simp;omega));have zW_2:w.heap.size+1+1 < W.heap.size:=(by rw [←hWW];first|assumption|(simp;done)|(simp;omega));have bW:Below w.heap.size w W:=(by rw [←hWW];exact bi);have _:=bm bW;simp only [hWW];replace HE:=qh (HE.o.below bW);clear hWW hc1 hf1 hb1 z1_0 z1_1 z1_2
 go_cut [7,8] (fun u v wx=>∃b7 b8,u= .pointer (some ⟨b7,0,none⟩)∧v= .pointer (some ⟨b8,0,none⟩)∧b7 < wx.heap.size∧b8 < wx.heap.size∧Below W.heap.size W wx∧FAt wx b7 0 x1∧FAt wx b7 4 x2∧FAt wx b8 0 y1∧FAt wx b8 4 y2)
 case first=>
  refine ja1 (fun w'=>Below W.heap.size W w') [] (by kernel_rfl) ?_;refine tl [(0,[1],sp a1 a2),(2,[3],sp b1 b2)] [_,_] rfl (by kernel_rfl) pk5 (by intros;simp only [tyq,ppq];go_simp) bq0 ?_;simp only [tlq,ppq];refine wa3 1 4 5 (by kernel_rfl) rfl rfl rfl (fun K hK=> ?o1) (fun K hK=> ?o2) (fun K hK=> ?o3)
  case' o1=>
   go_simp;go_wp2_with ((go_at_call 32;((with_reducible refine (jyu (HE.o.below bi) HX1.o HX2.o).mono ?_);rintro e19 w19 ⟨s19,A19,n19,c19,t19,B19,m19,d19,s20,A20,n20,c20,t20,B20,m20,d20,rfl,⟨hr19,hq19⟩,⟨hr20,hq20⟩,hb19⟩;have _:=bm hb19);obtain ⟨hc19,hf19,_⟩:=bc0 hb19);(first|have y19_0:=szl (k:=W.heap.size) hb19 (by first|go_size|fail)|have y19_0:=Nat.one_pos);(first|have y19_1:=szl (k:=W.heap.size+1) hb19 (by first|go_size|fail)|have y19_1:=Nat.one_pos);(first|have y19_2:=szl (k:=W.heap.size) hb19 (by first|go_size|fail)|have y19_2:=Nat.one_pos);(first|have y19_3:=szl (k:=W.heap.size) hb19 (by first|go_size|fail)|have y19_3:=Nat.one_pos))
   refine hK.out _ _ (fun _=>bi) ?_;clear hK K;refine wa3 3 4 5 (by kernel_rfl) rfl rfl rfl (fun K hK=> ?o4) (fun K hK=> ?o5) (fun K hK=> ?o6)
   case' o4=>
    go_simp;go_wp2_with ((go_at_call 32;((with_reducible refine (jyu (HE.o.below bi) HY1.o HY2.o).mono ?_);rintro e21 w21 ⟨s21,A21,n21,c21,t21,B21,m21,d21,s22,A22,n22,c22,t22,B22,m22,d22,rfl,⟨hr21,hq21⟩,⟨hr22,hq22⟩,hb21⟩;have _:=bm hb21);obtain ⟨hc21,hf21,_⟩:=bc0 hb21);(first|have y21_0:=szl (k:=W.heap.size) hb21 (by first|go_size|fail)|have y21_0:=Nat.one_pos);(first|have y21_1:=szl (k:=W.heap.size+1) hb21 (by first|go_size|fail)|have y21_1:=Nat.one_pos);(first|have y21_2:=szl (k:=w19.heap.size) hb21 (by first|go_size|fail)|have y21_2:=Nat.one_pos);(first|have y21_3:=szl (k:=w19.heap.size+1) hb21 (by first|go_size|fail)|have y21_3:=Nat.one_pos))
    refine hK.out _ _ (fun _=>bi) ?_;clear hK K;refine wa2 4 5 (by kernel_rfl) rfl rfl (fun K hK=> ?o7) (fun K hK=> ?o8)
    case' o7=>
     go_simp;refine hK.out _ _ (fun _=>bi) ?_;clear hK K;refine wa1 5 (by kernel_rfl) rfl (fun K hK=> ?_);go_simp;refine hK.out _ _ (fun _=>bi) ?_;clear hK K
    case' o8=>
     go_simp;refine hK.out _ _ (fun _=>bi) ?_;clear hK K;refine wa1 4 (by kernel_rfl) rfl (fun K hK=> ?_);go_simp;refine hK.out _ _ (fun _=>bi) ?_;clear hK K
   case' o5=>
    go_simp;refine hK.out _ _ (fun _=>bi) ?_;clear hK K;refine wa2 3 5 (by kernel_rfl) rfl rfl (fun K hK=> ?o9) (fun K hK=> ?o10)
    case' o9=>
     go_simp;go_wp2_with ((go_at_call 32;((with_reducible refine (jyu (HE.o.below bi) HY1.o HY2.o).mono ?_);rintro e21 w21 ⟨s21,A21,n21,c21,t21,B21,m21,d21,s22,A22,n22,c22,t22,B22,m22,d22,rfl,⟨hr21,hq21⟩,⟨hr22,hq22⟩,hb21⟩;have _:=bm hb21);obtain ⟨hc21,hf21,_⟩:=bc0 hb21);(first|have y21_0:=szl (k:=W.heap.size) hb21 (by first|go_size|fail)|have y21_0:=Nat.one_pos);(first|have y21_1:=szl (k:=W.heap.size+1) hb21 (by first|go_size|fail)|have y21_1:=Nat.one_pos);(first|have y21_2:=szl (k:=w19.heap.size) hb21 (by first|go_size|fail)|have y21_2:=Nat.one_pos);(first|have y21_3:=szl (k:=w19.heap.size+1) hb21 (by first|go_size|fail)|have y21_3:=Nat.one_pos))
     refine hK.out _ _ (fun _=>bi) ?_;clear hK K;refine wa1 5 (by kernel_rfl) rfl (fun K hK=> ?_);go_simp;refine hK.out _ _ (fun _=>bi) ?_;clear hK K
    case' o10=>
     go_simp;refine hK.out _ _ (fun _=>bi) ?_;clear hK K;refine wa1 3 (by kernel_rfl) rfl (fun K hK=> ?_);go_simp;go_wp2_with ((go_at_call 32;((with_reducible refine (jyu (HE.o.below bi) HY1.o HY2.o).mono ?_);rintro e21 w21 ⟨s21,A21,n21,c21,t21,B21,m21,d21,s22,A22,n22,c22,t22,B22,m22,d22,rfl,⟨hr21,hq21⟩,⟨hr22,hq22⟩,hb21⟩;have _:=bm hb21);obtain ⟨hc21,hf21,_⟩:=bc0 hb21);(first|have y21_0:=szl (k:=W.heap.size) hb21 (by first|go_size|fail)|have y21_0:=Nat.one_pos);(first|have y21_1:=szl (k:=W.heap.size+1) hb21 (by first|go_size|fail)|have y21_1:=Nat.one_pos);(first|have y21_2:=szl (k:=w19.heap.size) hb21 (by first|go_size|fail)|have y21_2:=Nat.one_pos);(first|have y21_3:=szl (k:=w19.heap.size+1) hb21 (by first|go_size|fail)|have y21_3:=Nat.one_pos))
     refine hK.out _ _ (fun _=>bi) ?_;clear hK K
   case' o6=>
    go_simp;refine hK.out _ _ (fun _=>bi) ?_;clear hK K;refine wa2 3 4 (by kernel_rfl) rfl rfl (fun K hK=> ?o11) (fun K hK=> ?o12)
    case' o11=>
     go_simp;go_wp2_with ((go_at_call 32;((with_reducible refine (jyu (HE.o.below bi) HY1.o HY2.o).mono ?_);rintro e21 w21 ⟨s21,A21,n21,c21,t21,B21,m21,d21,s22,A22,n22,c22,t22,B22,m22,d22,rfl,⟨hr21,hq21⟩,⟨hr22,hq22⟩,hb21⟩;have _:=bm hb21);obtain ⟨hc21,hf21,_⟩:=bc0 hb21);(first|have y21_0:=szl (k:=W.heap.size) hb21 (by first|go_size|fail)|have y21_0:=Nat.one_pos);(first|have y21_1:=szl (k:=W.heap.size+1) hb21 (by first|go_size|fail)|have y21_1:=Nat.one_pos);(first|have y21_2:=szl (k:=w19.heap.size) hb21 (by first|go_size|fail)|have y21_2:=Nat.one_pos);(first|have y21_3:=szl (k:=w19.heap.size+1) hb21 (by first|go_size|fail)|have y21_3:=Nat.one_pos))
     refine hK.out _ _ (fun _=>bi) ?_;clear hK K;refine wa1 4 (by kernel_rfl) rfl (fun K hK=> ?_);go_simp;refine hK.out _ _ (fun _=>bi) ?_;clear hK K
    case' o12=>
     go_simp;refine hK.out _ _ (fun _=>bi) ?_;clear hK K;refine wa1 3 (by kernel_rfl) rfl (fun K hK=> ?_);go_simp;go_wp2_with ((go_at_call 32;((with_reducible refine (jyu (HE.o.below bi) HY1.o HY2.o).mono ?_);rintro e21 w21 ⟨s21,A21,n21,c21,t21,B21,m21,d21,s22,A22,n22,c22,t22,B22,m22,d22,rfl,⟨hr21,hq21⟩,⟨hr22,hq22⟩,hb21⟩;have _:=bm hb21);obtain ⟨hc21,hf21,_⟩:=bc0 hb21);(first|have y21_0:=szl (k:=W.heap.size) hb21 (by first|go_size|fail)|have y21_0:=Nat.one_pos);(first|have y21_1:=szl (k:=W.heap.size+1) hb21 (by first|go_size|fail)|have y21_1:=Nat.one_pos);(first|have y21_2:=szl (k:=w19.heap.size) hb21 (by first|go_size|fail)|have y21_2:=Nat.one_pos);(first|have y21_3:=szl (k:=w19.heap.size+1) hb21 (by first|go_size|fail)|have y21_3:=Nat.one_pos))
     refine hK.out _ _ (fun _=>bi) ?_;clear hK K
  case' o2=>
   go_simp;refine hK.out _ _ (fun _=>bi) ?_;clear hK K;refine wa2 1 5 (by kernel_rfl) rfl rfl (fun K hK=> ?o13) (fun K hK=> ?o14)
   case' o13=>
    go_simp;go_wp2_with ((go_at_call 32;((with_reducible refine (jyu (HE.o.below bi) HX1.o HX2.o).mono ?_);rintro e19 w19 ⟨s19,A19,n19,c19,t19,B19,m19,d19,s20,A20,n20,c20,t20,B20,m20,d20,rfl,⟨hr19,hq19⟩,⟨hr20,hq20⟩,hb19⟩;have _:=bm hb19);obtain ⟨hc19,hf19,_⟩:=bc0 hb19);(first|have y19_0:=szl (k:=W.heap.size) hb19 (by first|go_size|fail)|have y19_0:=Nat.one_pos);(first|have y19_1:=szl (k:=W.heap.size+1) hb19 (by first|go_size|fail)|have y19_1:=Nat.one_pos);(first|have y19_2:=szl (k:=W.heap.size) hb19 (by first|go_size|fail)|have y19_2:=Nat.one_pos);(first|have y19_3:=szl (k:=W.heap.size) hb19 (by first|go_size|fail)|have y19_3:=Nat.one_pos))
    refine hK.out _ _ (fun _=>bi) ?_;clear hK K;refine wa2 3 5 (by kernel_rfl) rfl rfl (fun K hK=> ?o15) (fun K hK=> ?o16)
    case' o15=>
     go_simp;go_wp2_with ((go_at_call 32;((with_reducible refine (jyu (HE.o.below bi) HY1.o HY2.o).mono ?_);rintro e21 w21 ⟨s21,A21,n21,c21,t21,B21,m21,d21,s22,A22,n22,c22,t22,B22,m22,d22,rfl,⟨hr21,hq21⟩,⟨hr22,hq22⟩,hb21⟩;have _:=bm hb21);obtain ⟨hc21,hf21,_⟩:=bc0 hb21);(first|have y21_0:=szl (k:=W.heap.size) hb21 (by first|go_size|fail)|have y21_0:=Nat.one_pos);(first|have y21_1:=szl (k:=W.heap.size+1) hb21 (by first|go_size|fail)|have y21_1:=Nat.one_pos);(first|have y21_2:=szl (k:=w19.heap.size) hb21 (by first|go_size|fail)|have y21_2:=Nat.one_pos);(first|have y21_3:=szl (k:=w19.heap.size+1) hb21 (by first|go_size|fail)|have y21_3:=Nat.one_pos))
     refine hK.out _ _ (fun _=>bi) ?_;clear hK K;refine wa1 5 (by kernel_rfl) rfl (fun K hK=> ?_);go_simp;refine hK.out _ _ (fun _=>bi) ?_;clear hK K
    case' o16=>
     go_simp;refine hK.out _ _ (fun _=>bi) ?_;clear hK K;refine wa1 3 (by kernel_rfl) rfl (fun K hK=> ?_);go_simp;go_wp2_with ((go_at_call 32;((with_reducible refine (jyu (HE.o.below bi) HY1.o HY2.o).mono ?_);rintro e21 w21 ⟨s21,A21,n21,c21,t21,B21,m21,d21,s22,A22,n22,c22,t22,B22,m22,d22,rfl,⟨hr21,hq21⟩,⟨hr22,hq22⟩,hb21⟩;have _:=bm hb21);obtain ⟨hc21,hf21,_⟩:=bc0 hb21);(first|have y21_0:=szl (k:=W.heap.size) hb21 (by first|go_size|fail)|have y21_0:=Nat.one_pos);(first|have y21_1:=szl (k:=W.heap.size+1) hb21 (by first|go_size|fail)|have y21_1:=Nat.one_pos);(first|have y21_2:=szl (k:=w19.heap.size) hb21 (by first|go_size|fail)|have y21_2:=Nat.one_pos);(first|have y21_3:=szl (k:=w19.heap.size+1) hb21 (by first|go_size|fail)|have y21_3:=Nat.one_pos))
     refine hK.out _ _ (fun _=>bi) ?_;clear hK K
   case' o14=>
    go_simp;refine hK.out _ _ (fun _=>bi) ?_;clear hK K;refine wa1 1 (by kernel_rfl) rfl (fun K hK=> ?_);go_simp;go_wp2_with ((go_at_call 32;((with_reducible refine (jyu (HE.o.below bi) HX1.o HX2.o).mono ?_);rintro e19 w19 ⟨s19,A19,n19,c19,t19,B19,m19,d19,s20,A20,n20,c20,t20,B20,m20,d20,rfl,⟨hr19,hq19⟩,⟨hr20,hq20⟩,hb19⟩;have _:=bm hb19);obtain ⟨hc19,hf19,_⟩:=bc0 hb19);(first|have y19_0:=szl (k:=W.heap.size) hb19 (by first|go_size|fail)|have y19_0:=Nat.one_pos);(first|have y19_1:=szl (k:=W.heap.size+1) hb19 (by first|go_size|fail)|have y19_1:=Nat.one_pos);(first|have y19_2:=szl (k:=W.heap.size) hb19 (by first|go_size|fail)|have y19_2:=Nat.one_pos);(first|have y19_3:=szl (k:=W.heap.size) hb19 (by first|go_size|fail)|have y19_3:=Nat.one_pos))
    refine hK.out _ _ (fun _=>bi) ?_;clear hK K;refine wa1 3 (by kernel_rfl) rfl (fun K hK=> ?_);go_simp;go_wp2_with ((go_at_call 32;((with_reducible refine (jyu (HE.o.below bi) HY1.o HY2.o).mono ?_);rintro e21 w21 ⟨s21,A21,n21,c21,t21,B21,m21,d21,s22,A22,n22,c22,t22,B22,m22,d22,rfl,⟨hr21,hq21⟩,⟨hr22,hq22⟩,hb21⟩;have _:=bm hb21);obtain ⟨hc21,hf21,_⟩:=bc0 hb21);(first|have y21_0:=szl (k:=W.heap.size) hb21 (by first|go_size|fail)|have y21_0:=Nat.one_pos);(first|have y21_1:=szl (k:=W.heap.size+1) hb21 (by first|go_size|fail)|have y21_1:=Nat.one_pos);(first|have y21_2:=szl (k:=w19.heap.size) hb21 (by first|go_size|fail)|have y21_2:=Nat.one_pos);(first|have y21_3:=szl (k:=w19.heap.size+1) hb21 (by first|go_size|fail)|have y21_3:=Nat.one_pos))
    refine hK.out _ _ (fun _=>bi) ?_;clear hK K
  case' o3=>
   go_simp;refine hK.out _ _ (fun _=>bi) ?_;clear hK K;refine wa2 1 4 (by kernel_rfl) rfl rfl (fun K hK=> ?o17) (fun K hK=> ?o18)
   case' o17=>
    go_simp;go_wp2_with ((go_at_call 32;((with_reducible refine (jyu (HE.o.below bi) HX1.o HX2.o).mono ?_);rintro e19 w19 ⟨s19,A19,n19,c19,t19,B19,m19,d19,s20,A20,n20,c20,t20,B20,m20,d20,rfl,⟨hr19,hq19⟩,⟨hr20,hq20⟩,hb19⟩;have _:=bm hb19);obtain ⟨hc19,hf19,_⟩:=bc0 hb19);(first|have y19_0:=szl (k:=W.heap.size) hb19 (by first|go_size|fail)|have y19_0:=Nat.one_pos);(first|have y19_1:=szl (k:=W.heap.size+1) hb19 (by first|go_size|fail)|have y19_1:=Nat.one_pos);(first|have y19_2:=szl (k:=W.heap.size) hb19 (by first|go_size|fail)|have y19_2:=Nat.one_pos);(first|have y19_3:=szl (k:=W.heap.size) hb19 (by first|go_size|fail)|have y19_3:=Nat.one_pos))
    refine hK.out _ _ (fun _=>bi) ?_;clear hK K;refine wa2 3 4 (by kernel_rfl) rfl rfl (fun K hK=> ?o19) (fun K hK=> ?o20)
    case' o19=>
     go_simp;go_wp2_with ((go_at_call 32;((with_reducible refine (jyu (HE.o.below bi) HY1.o HY2.o).mono ?_);rintro e21 w21 ⟨s21,A21,n21,c21,t21,B21,m21,d21,s22,A22,n22,c22,t22,B22,m22,d22,rfl,⟨hr21,hq21⟩,⟨hr22,hq22⟩,hb21⟩;have _:=bm hb21);obtain ⟨hc21,hf21,_⟩:=bc0 hb21);(first|have y21_0:=szl (k:=W.heap.size) hb21 (by first|go_size|fail)|have y21_0:=Nat.one_pos);(first|have y21_1:=szl (k:=W.heap.size+1) hb21 (by first|go_size|fail)|have y21_1:=Nat.one_pos);(first|have y21_2:=szl (k:=w19.heap.size) hb21 (by first|go_size|fail)|have y21_2:=Nat.one_pos);(first|have y21_3:=szl (k:=w19.heap.size+1) hb21 (by first|go_size|fail)|have y21_3:=Nat.one_pos))
     refine hK.out _ _ (fun _=>bi) ?_;clear hK K;refine wa1 4 (by kernel_rfl) rfl (fun K hK=> ?_);go_simp;refine hK.out _ _ (fun _=>bi) ?_;clear hK K
    case' o20=>
     go_simp;refine hK.out _ _ (fun _=>bi) ?_;clear hK K;refine wa1 3 (by kernel_rfl) rfl (fun K hK=> ?_);go_simp;go_wp2_with ((go_at_call 32;((with_reducible refine (jyu (HE.o.below bi) HY1.o HY2.o).mono ?_);rintro e21 w21 ⟨s21,A21,n21,c21,t21,B21,m21,d21,s22,A22,n22,c22,t22,B22,m22,d22,rfl,⟨hr21,hq21⟩,⟨hr22,hq22⟩,hb21⟩;have _:=bm hb21);obtain ⟨hc21,hf21,_⟩:=bc0 hb21);(first|have y21_0:=szl (k:=W.heap.size) hb21 (by first|go_size|fail)|have y21_0:=Nat.one_pos);(first|have y21_1:=szl (k:=W.heap.size+1) hb21 (by first|go_size|fail)|have y21_1:=Nat.one_pos);(first|have y21_2:=szl (k:=w19.heap.size) hb21 (by first|go_size|fail)|have y21_2:=Nat.one_pos);(first|have y21_3:=szl (k:=w19.heap.size+1) hb21 (by first|go_size|fail)|have y21_3:=Nat.one_pos))
     refine hK.out _ _ (fun _=>bi) ?_;clear hK K
   case' o18=>
    go_simp;refine hK.out _ _ (fun _=>bi) ?_;clear hK K;refine wa1 1 (by kernel_rfl) rfl (fun K hK=> ?_);go_simp;go_wp2_with ((go_at_call 32;((with_reducible refine (jyu (HE.o.below bi) HX1.o HX2.o).mono ?_);rintro e19 w19 ⟨s19,A19,n19,c19,t19,B19,m19,d19,s20,A20,n20,c20,t20,B20,m20,d20,rfl,⟨hr19,hq19⟩,⟨hr20,hq20⟩,hb19⟩;have _:=bm hb19);obtain ⟨hc19,hf19,_⟩:=bc0 hb19);(first|have y19_0:=szl (k:=W.heap.size) hb19 (by first|go_size|fail)|have y19_0:=Nat.one_pos);(first|have y19_1:=szl (k:=W.heap.size+1) hb19 (by first|go_size|fail)|have y19_1:=Nat.one_pos);(first|have y19_2:=szl (k:=W.heap.size) hb19 (by first|go_size|fail)|have y19_2:=Nat.one_pos);(first|have y19_3:=szl (k:=W.heap.size) hb19 (by first|go_size|fail)|have y19_3:=Nat.one_pos))
    refine hK.out _ _ (fun _=>bi) ?_;clear hK K;refine wa1 3 (by kernel_rfl) rfl (fun K hK=> ?_);go_simp;go_wp2_with ((go_at_call 32;((with_reducible refine (jyu (HE.o.below bi) HY1.o HY2.o).mono ?_);rintro e21 w21 ⟨s21,A21,n21,c21,t21,B21,m21,d21,s22,A22,n22,c22,t22,B22,m22,d22,rfl,⟨hr21,hq21⟩,⟨hr22,hq22⟩,hb21⟩;have _:=bm hb21);obtain ⟨hc21,hf21,_⟩:=bc0 hb21);(first|have y21_0:=szl (k:=W.heap.size) hb21 (by first|go_size|fail)|have y21_0:=Nat.one_pos);(first|have y21_1:=szl (k:=W.heap.size+1) hb21 (by first|go_size|fail)|have y21_1:=Nat.one_pos);(first|have y21_2:=szl (k:=w19.heap.size) hb21 (by first|go_size|fail)|have y21_2:=Nat.one_pos);(first|have y21_3:=szl (k:=w19.heap.size+1) hb21 (by first|go_size|fail)|have y21_3:=Nat.one_pos))
    refine hK.out _ _ (fun _=>bi) ?_;clear hK K
  all_goals
   have g1:=hb19.size;have g2:=hb21.size
   (try simp at g1 g2)
   refine rd1 6 (by kernel_rfl) rfl (fun K hK=> ?_);go_simp;refine hK.out _ _ (fun _=>bi) ?_;clear hK K;refine rd1 7 (by kernel_rfl) rfl (fun K hK=> ?_);go_simp;refine hK.out _ _ (fun _=>bi) ?_;clear hK K;refine ja2 (by kernel_rfl) ?_ _;go_wp2_with (fail)
   go_meet;refine ⟨_,_,rfl,rfl,(by (try simp);(try omega)),(by (try simp);(try omega)),bi,⟨⟨s19,A19,n19,c19,t19,B19,m19,d19, ?_, ?_, ?_, ?_,⟨?_, ?_⟩⟩⟩,⟨⟨s20,A20,n20,c20,t20,B20,m20,d20, ?_, ?_, ?_, ?_,⟨?_, ?_⟩⟩⟩,⟨⟨s21,A21,n21,c21,t21,B21,m21,d21, ?_, ?_, ?_, ?_,⟨?_, ?_⟩⟩⟩,⟨⟨s22,A22,n22,c22,t22,B22,m22,d22, ?_, ?_, ?_, ?_,⟨?_, ?_⟩⟩⟩⟩
   all_goals (first
    | (simp [go_sem,hc19,hc21,hf19,hf21,y19_0,y19_1,y21_0,y21_1,y21_2,y21_3,jxf,nls y19_0,nls y19_1,nl y19_0,(nl y19_0).symm,nl y21_0,(nl y21_0).symm,nl y21_2,(nl y21_2).symm];done)
    | exact (by with_reducible repeat first|assumption|apply rZ|refine rP ?_ rfl (by simp [go_sem,hc19,hc21,hf19,hf21,y19_0,y19_1,y21_0,y21_1,y21_2,y21_3,jxf,nls y19_0,nls y19_1,nl y19_0,(nl y19_0).symm,nl y21_0,(nl y21_0).symm,nl y21_2,(nl y21_2).symm])))
 case rest=>
  obtain ⟨b7,b8,rfl,rfl,z7,z8,hbc,hf71,hf72,hf81,hf82⟩:=hcut;have _:=bm hbc;obtain ⟨V,hWV⟩:∃x,wc=x:=⟨_,rfl⟩;have mV:Below W.heap.size W V:=by rw [←hWV];exact hbc
  have cV_0:=jz1 mV cW_0;have cV_1:=jz1 mV cW_1;have cV_2:=jz1 mV cW_2;have cV_3:=jz1 mV cW_3;have cV_4:=jz1 mV cW_4;have cV_5:=jz1 mV cW_5;have fV_0:=jz0 mV zW_2 fW_0;have zV_0:=Nat.lt_of_lt_of_le zW_0 mV.size;have zV_1:=Nat.lt_of_lt_of_le zW_1 mV.size;have zV_2:=Nat.lt_of_lt_of_le zW_2 mV.size;have bV:=jCn bW mV;have _:=bm bV;replace HE:=qh (HE.o.below mV)
  (try rw [hWV])
  clear mV bW cW_0 cW_1 cW_2 cW_3 cW_4 cW_5 fW_0 zW_0 zW_1 zW_2;rw [hWV] at z7 z8 hf71 hf72 hf81 hf82;clear hWV hbc;obtain ⟨s31,A31,n31,c31,t31,B31,m31,d31,k31_0,k31_1,k31_2,k31_3,hr31⟩:=hf71.at_;obtain ⟨s32,A32,n32,c32,t32,B32,m32,d32,k32_0,k32_1,k32_2,k32_3,hr32⟩:=hf72.at_;obtain ⟨s33,A33,n33,c33,t33,B33,m33,d33,k33_0,k33_1,k33_2,k33_3,hr33⟩:=hf81.at_;obtain ⟨s34,A34,n34,c34,t34,B34,m34,d34,k34_0,k34_1,k34_2,k34_3,hr34⟩:=hf82.at_;simp only [Nat.zero_add,Nat.reduceAdd] at k31_0 k31_1 k31_2 k31_3 k32_0 k32_1 k32_2 k32_3 k33_0 k33_1 k33_2 k33_3 k34_0 k34_1 k34_2 k34_3;have HR31:=qh hr31;have HR32:=qh hr32;have HR33:=qh hr33;have HR34:=qh hr34;clear hr31 hr32 hr33 hr34 hf71 hf72 hf81 hf82;go_upto_region 5 with (fail)
  refine ja1 (fun w'=>Below V.heap.size V w') [] (by kernel_rfl) ?_;refine tl [(0,[1], .pointer (some ⟨b7,0,none⟩)),(1,[4],fv s31 A31 n31 c31 t31 B31 m31 d31),(2,[3], .pointer (some ⟨b8,0,none⟩)),(3,[4],fv s33 A33 n33 c33 t33 B33 m33 d33),(5,[6], .pointer (some ⟨b7,0,none⟩)),(6,[9],fv s31 A31 n31 c31 t31 B31 m31 d31),(7,[8], .pointer (some ⟨b8,4,none⟩)),(8,[9],fv s34 A34 n34 c34 t34 B34 m34 d34)] [_,_,_,_,_,_,_,_] rfl (by kernel_rfl) pk5 (by intros;simp only [tyq,ppq];go_simp) bq0 ?_;simp only [tlq,ppq];refine tl [(10,[11], .pointer (some ⟨b7,4,none⟩)),(11,[14],fv s32 A32 n32 c32 t32 B32 m32 d32),(12,[13], .pointer (some ⟨b8,0,none⟩)),(13,[14],fv s33 A33 n33 c33 t33 B33 m33 d33),(15,[16], .pointer (some ⟨b7,4,none⟩)),(16,[19],fv s32 A32 n32 c32 t32 B32 m32 d32),(17,[18], .pointer (some ⟨b8,4,none⟩)),(18,[19],fv s34 A34 n34 c34 t34 B34 m34 d34)] [_,_,_,_,_,_,_,_] rfl (by kernel_rfl) pk5 (by intros;simp only [tyq,ppq];go_simp) bq0 ?_;simp only [tlq,ppq];refine rd1 4 (by kernel_rfl) rfl (fun K hK=> ?_);go_simp;go_wp2_with (go_at_call 33;(with_reducible refine mf0 (jbO 600 600 (z:=x1*y1) rfl (HR31.o.below bi) (HR33.o.below bi) HSX1.o HSY1.o (by omega)) fun w41 s41 A41 n41 c41 t41 B41 m41 d41 hr41 hq41 hb41 hc41 hf41 _=> ?_))
  have sS41:=qh (bst bq0 hb41);refine hK.out _ _ (fun _=>sS41.o) ?_;clear hK K;refine rd1 9 (by kernel_rfl) rfl (fun K hK=> ?_);go_simp;go_wp2_with (go_at_call 33;(with_reducible refine mf0 (jbO 600 600 (z:=x1*y2) rfl (HR31.o.below bi) (HR34.o.below bi) HSX1.o HSY2.o (by omega)) fun w42 s42 A42 n42 c42 t42 B42 m42 d42 hr42 hq42 hb42 hc42 hf42 _=> ?_))
  have sS42:=qh (bst sS41.o hb42);refine hK.out _ _ (fun _=>sS42.o) ?_;clear hK K;refine rd1 14 (by kernel_rfl) rfl (fun K hK=> ?_);go_simp;go_wp2_with (go_at_call 33;(with_reducible refine mf0 (jbO 600 600 (z:=x2*y1) rfl (HR32.o.below bi) (HR33.o.below bi) HSX2.o HSY1.o (by omega)) fun w43 s43 A43 n43 c43 t43 B43 m43 d43 hr43 hq43 hb43 hc43 hf43 _=> ?_))
  have sS43:=qh (bst sS42.o hb43);refine hK.out _ _ (fun _=>sS43.o) ?_;clear hK K;refine rd1 19 (by kernel_rfl) rfl (fun K hK=> ?_);go_simp;go_wp2_with (go_at_call 33;(with_reducible refine mf0 (jbO 600 600 (z:=x2*y2) rfl (HR32.o.below bi) (HR34.o.below bi) HSX2.o HSY2.o (by omega)) fun w44 s44 A44 n44 c44 t44 B44 m44 d44 hr44 hq44 hb44 hc44 hf44 _=> ?_))
  have sS44:=qh (bst sS43.o hb44);refine hK.out _ _ (fun _=>sS44.o) ?_;clear hK K;refine rd1 20 (by kernel_rfl) rfl (fun K hK=> ?_);go_simp;refine hK.out _ _ (fun _=>bi) ?_;clear hK K;refine rd1 21 (by kernel_rfl) rfl (fun K hK=> ?_);go_simp;refine hK.out _ _ (fun _=>bi) ?_;clear hK K;refine ja2 (by kernel_rfl) ?_ _;have HQ:=qh (Qv.fourAt (T:=70) (w:=w44) (s1:=s41) (A1:=A41) (n1:=n41) (c1:=c41) (t1:=t41) (B1:=B41) (m1:=m41) (d1:=d41) (s2:=s42) (A2:=A42) (n2:=n42) (c2:=c42) (t2:=t42) (B2:=B42) (m2:=m42) (d2:=d42) (s3:=s43) (A3:=A43) (n3:=n43) (c3:=c43) (t3:=t43) (B3:=B43) (m3:=m43) (d3:=d43) (s4:=s44) (A4:=A44) (n4:=n44) (c4:=c44) (t4:=t44) (B4:=B44) (m4:=m44) (d4:=d44) rfl (by constructor <;> (with_reducible repeat first|assumption|apply rZ|refine rP ?_ rfl (by simp [go_sem,hc44]))) (by constructor <;> (with_reducible repeat first|assumption|apply rZ|refine rP ?_ rfl (by simp [go_sem,hc44]))) (by constructor <;> (with_reducible repeat first|assumption|apply rZ|refine rP ?_ rfl (by simp [go_sem,hc44]))) (by constructor <;> (with_reducible repeat first|assumption|apply rZ|refine rP ?_ rfl (by simp [go_sem,hc44]))));obtain ⟨U,hWU⟩:∃x,w44.alloc (.cells #[.int .i64 s41, .slice A41 n41 c41, .int .i64 t41, .slice B41 m41 d41, .int .i64 s42, .slice A42 n42 c42, .int .i64 t42, .slice B42 m42 d42, .int .i64 s43, .slice A43 n43 c43, .int .i64 t43, .slice B43 m43 d43, .int .i64 s44, .slice A44 n44 c44, .int .i64 t44, .slice B44 m44 d44] 70)=x:=⟨_,rfl⟩;have mU:Below V.heap.size V U:=by rw [←hWU];exact bi
  have cU_0:=jz1 mU cV_0;have cU_1:=jz1 mU cV_1;have cU_2:=jz1 mU cV_2;have cU_3:=jz1 mU cV_3;have cU_4:=jz1 mU cV_4;have cU_5:=jz1 mU cV_5;have fU_0:=jz0 mU zV_2 fV_0;have zU_0:=Nat.lt_of_lt_of_le zV_0 mU.size;have zU_1:=Nat.lt_of_lt_of_le zV_1 mU.size;have zU_2:=Nat.lt_of_lt_of_le zV_2 mU.size;have bU:=jCn bV mU;have _:=bm bU;replace HE:=qh (HE.o.below mU)
  (try rw [hWU])
  clear mU bV cV_0 cV_1 cV_2 cV_3 cV_4 cV_5 fV_0 zV_0 zV_1 zV_2;rw [hWU] at HQ
  have HS4:Hd (∀q∈ [x1*y1,x1*y2,x2*y1,x2*y2],Sz 1200 q):=qh (by
   intro q hq;simp only [List.mem_cons,List.not_mem_nil,or_false] at hq;rcases hq with rfl|rfl|rfl|rfl
   ·exact HSX1.o.mul HSY1.o
   ·exact HSX1.o.mul HSY2.o
   ·exact HSX2.o.mul HSY1.o
   ·exact HSX2.o.mul HSY2.o)
  have HLO2:Hd (jAU (List.getD [x1*y1,x1*y2,x2*y1,x2*y2] 0 0) (List.drop 1 [x1*y1,x1*y2,x2*y1,x2*y2])=lo):=qh HLO.o;have HHI2:Hd (jAK (List.getD [x1*y1,x1*y2,x2*y1,x2*y2] 0 0) (List.drop 1 [x1*y1,x1*y2,x2*y1,x2*y2])=hi):=qh HHI.o;clear hWU hb41 hb42 hb43 hb44 hc41 hc42 hc43 hc44 hf41 hf42 hf43 hf44 hr41 hr42 hr43 hr44 hq41 hq42 hq43 hq44 HLO HHI
  go_wp2_with (first
   | (go_at_call 35;(with_reducible refine mf3 w (jBJ (HQ.o.below bi) (by omega) (by omega) HS4.o (by omega) HLO2.o) (by go_size) fun w51 s51 A51 n51 c51 t51 B51 m51 d51 hr51 hq51 hb51 hc51 hf51 z51_0 z51_1 z51_2 _=> ?_))
   | (go_at_call 36;(with_reducible refine mf3 w (jBx (HQ.o.below bi) (by omega) (by omega) HS4.o (by omega) HHI2.o) (by go_size) fun w52 s52 A52 n52 c52 t52 B52 m52 d52 hr52 hq52 hb52 hc52 hf52 z52_0 z52_1 z52_2 _=> ?_))
   | (go_at_call 34;(with_reducible refine mo3 w (jAS HTL.o HTH.o HKE.o (HE.o.below bi) (by constructor <;> (with_reducible repeat first|assumption|apply rZ|refine rP ?_ rfl (by simp [go_sem,hc52]))) ⟨hr52,hq52⟩ HS.o HS'.o) (by go_size) fun w53 hb53 hc53 hf53 z53_0 z53_1 z53_2 _=> ?_)))
  exact bodyPost_ret (v:= .tuple #[sp tlo th, .int .i64 ke]) (by simp [results,results9,go_sem,hc51,hc52,hc53,hf51,hf52,hf53,z51_2,z52_2,z53_2,zU_2,cU_4,cU_5,fU_0]) rfl ⟨rfl,bi⟩
end
end Go.Proofs.YtfagcpcikjlboaaGreatDoor
