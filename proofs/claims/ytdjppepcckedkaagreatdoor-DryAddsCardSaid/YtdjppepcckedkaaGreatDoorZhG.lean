/- Parts. -/
import Derived.Test.YtdjppepcckedkaaGreatDoorZaG
import Derived.Test.YtdjppepcckedkaaGreatDoorDbG
set_option linter.all false
set_option maxRecDepth 100000
set_option maxHeartbeats 8000000
namespace Go.Proofs.YtdjppepcckedkaaGreatDoor
open Go Go.RowKit Go.Proofs.Tryz

def crN (m:Int) (x y:Rat):Int:= -((-((m:Rat)*(100 - x) / (100 - y))).floor)
def crX (m:Int) (x y:Rat):Rat:=100 - (m:Rat)*(100 - x) / (crN m x y:Rat)
section
variable {mass:Int} {x:Rat} {ls:List (List UInt8)} {i n:Nat} {k:Nat}
theorem jta {x:Rat} {k:Nat} (h:Dz k x):Sz k x:=⟨jrr h.num,jrr h.den⟩
theorem jfU {f:Nat→Int} (h:i < n):jar f ((List.range n).drop i)=if f i=0 then jar f ((List.range n).drop (i+1)) else f i:=by
 rw [List.drop_eq_getElem_cons (by rw [List.length_range];exact h),List.getElem_range];rfl
end
def jt4 (w:World) (g:Nat) (q:FT):World:=(((w.setCell ⟨g,0,none⟩ (.int .i64 q.1.1)).setCell ⟨g,1,none⟩ (.slice q.1.2.1 q.1.2.2.1 q.1.2.2.2)).setCell ⟨g,2,none⟩ (.int .i64 q.2.1)).setCell ⟨g,3,none⟩ (.slice q.2.2.1 q.2.2.2.1 q.2.2.2.2)

section
variable {w:World} {A:Option Addr} {n c:Nat} {a:List UInt8} {ls:List (List UInt8)} {mass:Int}
end

theorem jdI {α:Type} {f:α→Int}:∀{l:List α},jar f l=0→∀x∈l,f x=0
 | [],_,x,h=>by cases h
 | y::r,h,x,hx=>by
   rw [jar] at h;by_cases e:f y=0
   ·rw [if_pos e] at h;rcases List.mem_cons.1 hx with rfl|hx
    ·exact e
    ·exact jdI h x hx
   ·rw [if_neg e] at h;exact absurd h e
section
variable {w:World} {A:Option Addr} {n c:Nat} {a:List UInt8} {ls:List (List UInt8)} {mass:Int}
end

section
variable {w:World} {A:Option Addr} {n c:Nat} {qs:List Rat}
end

section
variable {w:World} {A:Option Addr} {n c:Nat} {qs:List Rat}
end
section
variable {w:World} {A:Option Addr} {n c:Nat} {a:List UInt8} {ls:List (List UInt8)} {mass:Int}
end

theorem Env.awake6 {w W:World} (h:Env w) (hb:Below w.heap.size w W):Calls prog 4 #[] W fun e w'=>e= .returned (.bool true)∧Below W.heap.size W w':=by
 obtain ⟨m,hm⟩:=(h.below hb).max;exact E6.awake6 (h.tab W hb) ⟨_,hm⟩
section
variable {w:World} {A:Option Addr} {n c:Nat} {a:List UInt8} {ls:List (List UInt8)} {mass:Int}
end

structure Once (mass N:Int) (x y z:Rat):Prop where
 back:(N:Rat)*(100 - z)=(mass:Rat)*(100 - x)
 low:y≤z
 high:z≤x
 less:((N - 1:Int):Rat)*(100 - y) < (mass:Rat)*(100 - x)
theorem Ceil.once {mass N:Int} {x y z:Rat} (h:Ceil mass N x y) (hz:100 - (mass:Rat)*(100 - x) / (N:Rat)=z):Once mass N x y z:=by
 obtain ⟨c1,c2⟩:=h.le;have hx:0 < 100 - x:=by have:=h.hx;grind
 have hy:0 < 100 - y:=by have:=h.hx;have:=h.hyx;grind
 have hN:(1:Rat)≤(N:Rat):=by exact_mod_cast c1
 have hNm:(N:Rat)≤(mass:Rat):=by exact_mod_cast c2
 obtain ⟨P,hP⟩:∃P,(mass:Rat)*(100 - x) / (100 - y)=P:=⟨_,rfl⟩;obtain ⟨Q,hQ⟩:∃Q,(mass:Rat)*(100 - x) / (N:Rat)=Q:=⟨_,rfl⟩;have eP:P*(100 - y)=(mass:Rat)*(100 - x):=by rw [←hP];grind
 have eQ:Q*(N:Rat)=(mass:Rat)*(100 - x):=by rw [←hQ];grind
 have hn:=h.eq;rw [hP] at hn
 have f1:P≤(N:Rat):=by
  have h1:(((-P).floor:Int):Rat)≤ -P:=Rat.le_floor_iff.1 (Int.le_refl _);have h2:((N:Int):Rat)= -(((-P).floor:Int):Rat):=by rw [←hn,Rat.intCast_neg]
  rw [h2]
  grind
 have f2:((N - 1:Int):Rat) < P:=by
  refine Rat.not_le.1 fun h1=> ?_
  have h2: -(N - 1)≤(-P).floor:=Rat.le_floor_iff.2 (by rw [Rat.intCast_neg];grind);omega
 rw [hQ] at hz;have eD:100 - z=Q:=by rw [←hz];grind
 refine ⟨by rw [eD,←eQ];grind, ?_, ?_, ?_⟩
 ·refine Rat.not_lt.1 fun q=> ?_
  have h1:100 - y < Q:=by rw [←eD];grind
  have h2:=Rat.mul_lt_mul_of_pos_right h1 (show (0:Rat) < (N:Rat) by grind);have h3:=Rat.mul_le_mul_of_nonneg_right f1 (Rat.le_of_lt hy);rw [eQ] at h2;rw [eP] at h3
  grind
 ·refine Rat.not_lt.1 fun q=> ?_
  have h1:Q < 100 - x:=by rw [←eD];grind
  have h2:=Rat.mul_lt_mul_of_pos_right h1 (show (0:Rat) < (N:Rat) by grind);have h3:=Rat.mul_le_mul_of_nonneg_right hNm (Rat.le_of_lt hx);rw [eQ] at h2
  grind
 ·rw [←eP];exact Rat.mul_lt_mul_of_pos_right f2 hy
section
variable {mass:Int} {x:Rat} {ls:List (List UInt8)} {i n k:Nat} {a:List UInt8}
theorem jxb (h1:1≤mass) (h2:mass≤999999999):jbr mass=0:=by unfold jbr;rw [if_neg (by omega)]
theorem jxn {l:List UInt8} {y:Rat} (h:IsMoist l y):mst l=0:=by
 have e:=h.num.numQ;unfold mst;rw [if_pos (jjL.2 ⟨y,h.num⟩),e,if_neg (fun q=>q.elim (fun q=>Rat.not_lt.2 h.low q) (fun q=>Rat.not_le.2 h.high q))]
end

abbrev Bd:=List UInt8×List UInt8×List UInt8
structure Bv (w:World) (A:Option Addr) (n:Nat) (ls:List Bd):Prop where
 len:ls.length=n
 at_:0 < n→∃b o,A=some ⟨b,o,none⟩∧b < w.heap.size∧∀j,j < n→w.cell? ⟨b,o+j*3,none⟩=some (bs (ls.getD j ([],[],[])).1)∧w.cell? ⟨b,o+j*3+1,none⟩=some (bs (ls.getD j ([],[],[])).2.1)∧w.cell? ⟨b,o+j*3+2,none⟩=some (bs (ls.getD j ([],[],[])).2.2)
theorem Bv.below {w w':World} {A:Option Addr} {n:Nat} {ls:List Bd} (h:Bv w A n ls) (hb:Below w.heap.size w w'):Bv w' A n ls:=
 ⟨h.len,fun hn=>by
   obtain ⟨b,o,e,h1,h2⟩:=h.at_ hn
   exact ⟨b,o,e,Nat.lt_of_lt_of_le h1 hb.size,fun j hj=>by rw [hb.cell (p:=⟨b,o+j*3,none⟩) h1,hb.cell (p:=⟨b,o+j*3+1,none⟩) h1,hb.cell (p:=⟨b,o+j*3+2,none⟩) h1];exact h2 j hj⟩⟩
noncomputable def bdR (b:Bd):Int:=if numQ b.1 < 0∨numQ b.2.1≤numQ b.1∨100≤numQ b.2.1∨numQ b.2.2 < 0 then 3 else 0
def bdC (b:Bd):Int:=jar chk [b.1,b.2.1,b.2.2]
def bdO (ls:List Bd) (i:Nat):Int:=if 0 < i∧(ls.getD (i - 1) ([],[],[])).2.1≠(ls.getD i ([],[],[])).1 then 11 else 0
noncomputable def bdE (ls:List Bd) (i:Nat):Int:=if bdC (ls.getD i ([],[],[]))=0 then (if bdR (ls.getD i ([],[],[]))=0 then bdO ls i else bdR (ls.getD i ([],[],[]))) else bdC (ls.getD i ([],[],[]))
noncomputable def jwI (ls:List Bd) (n:Nat):Int:=if n=0 then 2 else if 64 < n then 5 else jar (bdE ls) (List.range n)
theorem jwx {b:Bd} (h:bdC b=0):chk b.1=0∧chk b.2.1=0∧chk b.2.2=0:=by
 unfold bdC at h;simp only [jar] at h;split at h
 ·split at h
  ·split at h
   ·exact ⟨by assumption,by assumption,by assumption⟩
   ·exact absurd h (by assumption)
  ·exact absurd h (by assumption)
 ·exact absurd h (by assumption)
theorem Sv.three (w:World) (t:TypeId) (k l m:List UInt8):Sv (w.alloc (.cells #[bs k,bs l,bs m] t)) (some ⟨w.heap.size,0,none⟩) 3 [k,l,m]:=
 ⟨rfl,fun _=>⟨w.heap.size,0,rfl,by simp,fun j hj=>by
   match j,hj with
   | 0,_=>simp
   | 1,_=>simp
   | 2,_=>simp⟩⟩
theorem jwz (x:Rat):decide (sgn x.num < 0)=decide (x < 0):=by
 unfold sgn;by_cases h:x < 0
 ·rw [if_pos (jgN.2 h),decide_eq_true h];rfl
 ·rw [if_neg (fun e=>h (jgN.1 e)),decide_eq_false h,decide_eq_false_iff_not];split <;> omega
section
variable {w:World} {A:Option Addr} {n c:Nat} {ls:List Bd}
theorem jxd {R:Int} (hE:Env w) (h:Bv w A n ls) (hn:n≤100000) (hl:∀l∈ls,l.1.length < 4294967281∧l.2.1.length < 4294967281∧l.2.2.length < 4294967281) (hR:jwI ls n=R):
  Calls prog 38 #[.slice A n c] w fun e w'=>e= .returned (.int .i64 R)∧Below w.heap.size w w':=by
 have HE:=qh hE;have H:=qh h;have HL:=qh hl;have HN:=qh hn;unfold jwI at hR;by_cases h0:n=0
 ·subst h0;rw [if_pos rfl] at hR;subst hR;clear hE h hn hl;go_enter func38,ntmps38;go_wp2_with (first|(go_at_call 67;(with_reducible refine mo0 (jap (b:=true) (k:=2) (r:=2) rfl) fun w1 hb1 hc1 hf1 _=> ?_))|(go_at_call 67;(with_reducible refine mo0 (jap (b:=false) (k:=5) (r:=0) rfl) fun w2 hb2 hc2 hf2 _=> ?_))|(go_at_call 62;(with_reducible refine mo0 (jbl (r:=2) iv2 (by omega) rfl) fun w3 hb3 hc3 hf3 _=> ?_)))
  go_ret;exact ⟨rfl,bi⟩
 ·rw [if_neg h0] at hR;have q1:((n:Int)==0)=false:=by rw [beq_eq_false_iff_ne];omega
  by_cases h1:64 < n
  ·rw [if_pos h1] at hR;subst hR;have q2:decide ((64:Int) < (n:Int))=true:=by rw [decide_eq_true_iff];omega
   clear hE h hn hl h0 h1;go_enter func38,ntmps38;go_wp2_with (first|(go_at_call 67;(with_reducible refine mo0 (jap (b:=false) (k:=2) (r:=0) rfl) fun w1 hb1 hc1 hf1 _=> ?_))|(go_at_call 67;(with_reducible refine mo0 (jap (b:=true) (k:=5) (r:=5) rfl) fun w2 hb2 hc2 hf2 _=> ?_))|(go_at_call 62;(with_reducible refine mo0 (jbl (r:=5) iv2 (by omega) rfl) fun w3 hb3 hc3 hf3 _=> ?_)))
   go_ret;exact ⟨rfl,bi⟩
  ·rw [if_neg h1] at hR;have q2:decide ((64:Int) < (n:Int))=false:=by rw [decide_eq_false_iff_not];omega
   have HR:=qh hR;clear hE h hn hl h0 h1 hR;go_enter func38,ntmps38;go_wp2_with (first|(go_at_call 67;(with_reducible refine mo0 (jap (b:=false) (k:=2) (r:=0) rfl) fun w1 hb1 hc1 hf1 _=> ?_))|(go_at_call 67;(with_reducible refine mo0 (jap (b:=false) (k:=5) (r:=0) rfl) fun w2 hb2 hc2 hf2 _=> ?_))|(go_at_call 62;(with_reducible refine mo0 (jbl (r:=0) iv2 (by omega) rfl) fun w3 hb3 hc3 hf3 _=> ?_)))
   have bU:Below w.heap.size w w3:=bi;clear hb1 hb2 hb3 hc1 hc2 hc3 hf1 hf2 hf3 q1 q2
   go_loopw [24] (fun u wr=>∃(i:Nat),u= .int .i64 (i:Int)∧Below w.heap.size w wr∧i≤n∧jar (bdE ls) ((List.range n).drop i)=R) (fun u _=>n - (intOf u).toNat)
   case atStart=>exact ⟨0,rfl,bU,by omega,HR.o⟩
   case round=>
    obtain ⟨i,rfl,hb,hin,hc⟩:=hrel;have _:=bm hb;by_cases hi:i < n
    ·have q0:decide ((i:Int) < (n:Int))=true:=by simp;exact hi
     have q9:decide (i < n)=true:=by simpa using hi
     obtain ⟨b,o,rfl,hbl,hcell⟩:=(H.o.below hb).at_ (by omega);obtain ⟨y0,y1,y2⟩:=hcell i hi;have hil:i < ls.length:=by rw [H.o.len];exact hi
     have hmem:ls.getD i ([],[],[])∈ls:=by rw [List.getD_eq_getElem?_getD,List.getElem?_eq_getElem hil];exact List.getElem_mem hil
     obtain ⟨l0,l1,l2⟩:=HL.o _ hmem;rw [jfU hi] at hc;have HC:=qh hc;have hEr:=HE.o.below hb;have HER:=qh hEr;obtain ⟨k0,hk0⟩:∃k,bdC (ls.getD i ([],[],[]))=k:=⟨_,rfl⟩;have hBE:bdE ls i=if k0=0 then (if bdR (ls.getD i ([],[],[]))=0 then bdO ls i else bdR (ls.getD i ([],[],[]))) else k0:=by unfold bdE;rw [hk0]
     have hPrev:0 < i→wr.cell? ⟨b,o+(i - 1)*3+1,none⟩=some (bs (ls.getD (i - 1) ([],[],[])).2.1):=fun h0=>(hcell (i - 1) (by omega)).2.1
     have hOE:bdO ls i=if 0 < i∧(ls.getD (i - 1) ([],[],[])).2.1≠(ls.getD i ([],[],[])).1 then 11 else 0:=rfl
     obtain ⟨pv,hpv⟩:∃p,(ls.getD (i - 1) ([],[],[])).2.1=p:=⟨_,rfl⟩;rw [hpv] at hPrev hOE;obtain ⟨⟨x0,x1,x2⟩,hx⟩:∃x,ls.getD i ([],[],[])=x:=⟨_,rfl⟩;rw [hx] at y0 y1 y2 l0 l1 l2 hk0 hBE hOE;dsimp only at y0 y1 y2 l0 l1 l2 hOE
     have HCK:Hd (∀W (A:Option Addr) (n c:Nat),Below wr.heap.size wr W→Sv W A n [x0,x1,x2]→n≤100000→Calls prog 58 #[.slice A n c] W fun e w'=>e= .returned (.int .i64 k0)∧Below W.heap.size W w'):=qh (fun W A n c hb hs hn=>
      jmp (hEr.below hb) hs hn (fun x hx=>by
       rcases List.mem_cons.1 hx with rfl|hx
       ·exact l0
       rcases List.mem_cons.1 hx with rfl|hx
       ·exact l1
       exact List.mem_singleton.1 hx ▸ l2) hk0)
     have HSV:Hd (Sv ((wr.alloc (.cells #[bs x0,bs x1,bs x2] 27)).alloc (.cells #[bs x0,bs x1,bs x2] 23)) (some ⟨wr.heap.size+1,0,none⟩) 3 [x0,x1,x2]):=qh (by
      have h:=Sv.three (wr.alloc (.cells #[bs x0,bs x1,bs x2] 27)) 23 x0 x1 x2
      rwa [World.size_alloc] at h)
     have HI:=qh (And.intro hi hbl);have HQ:=qh (And.intro hPrev (And.intro hBE hOE));by_cases e0:k0=0
     ·subst e0;rw [if_pos rfl] at hBE;obtain ⟨z0,z1,z2⟩:=jwx hk0;have n0:=jjb z0;have n1:=jjb z1;have n2:=jjb z2;dsimp only at n0 n1 n2;obtain ⟨r,hr⟩:∃r,bdR (x0,x1,x2)=r:=⟨_,rfl⟩;have hr2:=hr;unfold bdR at hr2;dsimp only at hr2;obtain ⟨p,hp⟩:∃p,numQ x0=p:=⟨_,rfl⟩;obtain ⟨q,hq⟩:∃p,numQ x1=p:=⟨_,rfl⟩;obtain ⟨v,hv⟩:∃p,numQ x2=p:=⟨_,rfl⟩;rw [hp] at n0;rw [hq] at n1;rw [hv] at n2;rw [hp,hq,hv] at hr2;rw [hr] at hBE;have HX0:=qh n0;have HX1:=qh n1;have HX2:=qh n2;have HZ0:=qh n0.sz;have HZ1:=qh n1.sz;have HBE:=qh (And.intro hBE hr2);clear hc hk0 hBE hr hr2 z0 z1 z2 n0 n1 n2 hp hq hv hEr hPrev hOE l0 l1 l2 hmem hil hcell;go_upto_region 10 with (go_at_call 58;(with_reducible refine mo0 (HCK.o _ _ _ _ bi HSV.o (by omega)) fun w1 hb1 hc1 hf1 _=> ?_))
      have g0:w1.cell? ⟨wr.heap.size,0,none⟩=some (bs x0):=by simp [go_sem,hc1]
      have g1:w1.cell? ⟨wr.heap.size,1,none⟩=some (bs x1):=by simp [go_sem,hc1]
      have g2:w1.cell? ⟨wr.heap.size,2,none⟩=some (bs x2):=by simp [go_sem,hc1]
      have gz:wr.heap.size < w1.heap.size:=World.block_lt_of_cell? w1 _ g0;have bW:Below wr.heap.size wr w1:=bi;have bWw:=ja0 hb bW;have hEW:=qh (HE.o.below bWw);obtain ⟨g,hg⟩:∃g,wr.heap.size=g:=⟨_,rfl⟩;rw [hg] at g0 g1 g2 gz ⊢;have HG2:=qh (And.intro g2 gz);clear hb1 hc1 hf1 HCK HSV
      go_cut [7,8] (fun u v wx=>∃(a1 a2:Nat) (q1 q2:FT),u= .pointer (some ⟨a1,0,none⟩)∧v= .pointer (some ⟨a2,0,none⟩)∧(wx.cell? ⟨a1,0,none⟩=some (.int .i64 q1.1.1)∧wx.cell? ⟨a1,1,none⟩=some (.slice q1.1.2.1 q1.1.2.2.1 q1.1.2.2.2)∧wx.cell? ⟨a1,2,none⟩=some (.int .i64 q1.2.1)∧wx.cell? ⟨a1,3,none⟩=some (.slice q1.2.2.1 q1.2.2.2.1 q1.2.2.2.2))∧(wx.cell? ⟨a2,0,none⟩=some (.int .i64 q2.1.1)∧wx.cell? ⟨a2,1,none⟩=some (.slice q2.1.2.1 q2.1.2.2.1 q2.1.2.2.2)∧wx.cell? ⟨a2,2,none⟩=some (.int .i64 q2.2.1)∧wx.cell? ⟨a2,3,none⟩=some (.slice q2.2.2.1 q2.2.2.2.1 q2.2.2.2.2))∧jlE wx q1 p∧jlE wx q2 q∧Below w1.heap.size w1 wx)
      case first=>
       refine ja1 (fun w'=>Below w1.heap.size w1 w') [] (by kernel_rfl) ?_;refine tb 0 (.pointer (some ⟨g,0,none⟩)) [] rfl (by kernel_rfl) pk rfl (by intros;go_simp) bq0 ?_;refine tb 1 (bs x0) [] rfl (by kernel_rfl) pk rfl (by intros;go_simp) bq0 ?_;refine tb 3 (.pointer (some ⟨g,1,none⟩)) [] rfl (by kernel_rfl) pk rfl (by intros;go_simp) bq0 ?_;refine tb 4 (bs x1) [] rfl (by kernel_rfl) pk rfl (by intros;go_simp) bq0 ?_;simp only [ppq];refine wa3 2 6 7 (by kernel_rfl) rfl rfl rfl (fun K hK=> ?o1) (fun K hK=> ?o2) (fun K hK=> ?o3)
       case' o1=>
        go_simp;go_wp2_with ((go_at_call 35;(with_reducible refine mf0 (jaz HX0.o (hEW.o.below bi)) fun w2 s2 A2 n2 c2 t2 B2 m2 d2 hr2 hq2 hb2 hc2 hf2 _=> ?_));have y2_0:=zlt (w1.heap.size) hb2;have y2_1:=zlt (w1.heap.size+1) hb2)
        refine hK.out _ _ (fun _=>bi) ?_;clear hK K;refine wa3 5 6 7 (by kernel_rfl) rfl rfl rfl (fun K hK=> ?o4) (fun K hK=> ?o5) (fun K hK=> ?o6)
        case' o4=>
         go_simp;go_wp2_with ((go_at_call 35;(with_reducible refine mf0 (jaz HX1.o (hEW.o.below bi)) fun w3 s3 A3 n3 c3 t3 B3 m3 d3 hr3 hq3 hb3 hc3 hf3 _=> ?_));have y3_0:=zlt (w1.heap.size) hb3;have y3_1:=zlt (w1.heap.size+1) hb3;have y3_2:=zlt (w2.heap.size) hb3;have y3_3:=zlt (w2.heap.size+1) hb3)
         refine hK.out _ _ (fun _=>bi) ?_;clear hK K;refine wa2 6 7 (by kernel_rfl) rfl rfl (fun K hK=> ?o7) (fun K hK=> ?o8)
         case' o7=>
          go_simp;refine hK.out _ _ (fun _=>bi) ?_;clear hK K;refine wa1 7 (by kernel_rfl) rfl (fun K hK=> ?_);go_simp;refine hK.out _ _ (fun _=>bi) ?_;clear hK K
         case' o8=>
          go_simp;refine hK.out _ _ (fun _=>bi) ?_;clear hK K;refine wa1 6 (by kernel_rfl) rfl (fun K hK=> ?_);go_simp;refine hK.out _ _ (fun _=>bi) ?_;clear hK K
        case' o5=>
         go_simp;refine hK.out _ _ (fun _=>bi) ?_;clear hK K;refine wa2 5 7 (by kernel_rfl) rfl rfl (fun K hK=> ?o9) (fun K hK=> ?o10)
         case' o9=>
          go_simp;go_wp2_with ((go_at_call 35;(with_reducible refine mf0 (jaz HX1.o (hEW.o.below bi)) fun w3 s3 A3 n3 c3 t3 B3 m3 d3 hr3 hq3 hb3 hc3 hf3 _=> ?_));have y3_0:=zlt (w1.heap.size) hb3;have y3_1:=zlt (w1.heap.size+1) hb3;have y3_2:=zlt (w2.heap.size) hb3;have y3_3:=zlt (w2.heap.size+1) hb3)
          refine hK.out _ _ (fun _=>bi) ?_;clear hK K;refine wa1 7 (by kernel_rfl) rfl (fun K hK=> ?_);go_simp;refine hK.out _ _ (fun _=>bi) ?_;clear hK K
         case' o10=>
          go_simp;refine hK.out _ _ (fun _=>bi) ?_;clear hK K;refine wa1 5 (by kernel_rfl) rfl (fun K hK=> ?_);go_simp;go_wp2_with ((go_at_call 35;(with_reducible refine mf0 (jaz HX1.o (hEW.o.below bi)) fun w3 s3 A3 n3 c3 t3 B3 m3 d3 hr3 hq3 hb3 hc3 hf3 _=> ?_));have y3_0:=zlt (w1.heap.size) hb3;have y3_1:=zlt (w1.heap.size+1) hb3;have y3_2:=zlt (w2.heap.size) hb3;have y3_3:=zlt (w2.heap.size+1) hb3)
          refine hK.out _ _ (fun _=>bi) ?_;clear hK K
        case' o6=>
         go_simp;refine hK.out _ _ (fun _=>bi) ?_;clear hK K;refine wa2 5 6 (by kernel_rfl) rfl rfl (fun K hK=> ?o11) (fun K hK=> ?o12)
         case' o11=>
          go_simp;go_wp2_with ((go_at_call 35;(with_reducible refine mf0 (jaz HX1.o (hEW.o.below bi)) fun w3 s3 A3 n3 c3 t3 B3 m3 d3 hr3 hq3 hb3 hc3 hf3 _=> ?_));have y3_0:=zlt (w1.heap.size) hb3;have y3_1:=zlt (w1.heap.size+1) hb3;have y3_2:=zlt (w2.heap.size) hb3;have y3_3:=zlt (w2.heap.size+1) hb3)
          refine hK.out _ _ (fun _=>bi) ?_;clear hK K;refine wa1 6 (by kernel_rfl) rfl (fun K hK=> ?_);go_simp;refine hK.out _ _ (fun _=>bi) ?_;clear hK K
         case' o12=>
          go_simp;refine hK.out _ _ (fun _=>bi) ?_;clear hK K;refine wa1 5 (by kernel_rfl) rfl (fun K hK=> ?_);go_simp;go_wp2_with ((go_at_call 35;(with_reducible refine mf0 (jaz HX1.o (hEW.o.below bi)) fun w3 s3 A3 n3 c3 t3 B3 m3 d3 hr3 hq3 hb3 hc3 hf3 _=> ?_));have y3_0:=zlt (w1.heap.size) hb3;have y3_1:=zlt (w1.heap.size+1) hb3;have y3_2:=zlt (w2.heap.size) hb3;have y3_3:=zlt (w2.heap.size+1) hb3)
          refine hK.out _ _ (fun _=>bi) ?_;clear hK K
       case' o2=>
        go_simp;refine hK.out _ _ (fun _=>bi) ?_;clear hK K;refine wa2 2 7 (by kernel_rfl) rfl rfl (fun K hK=> ?o13) (fun K hK=> ?o14)
        case' o13=>
         go_simp;go_wp2_with ((go_at_call 35;(with_reducible refine mf0 (jaz HX0.o (hEW.o.below bi)) fun w2 s2 A2 n2 c2 t2 B2 m2 d2 hr2 hq2 hb2 hc2 hf2 _=> ?_));have y2_0:=zlt (w1.heap.size) hb2;have y2_1:=zlt (w1.heap.size+1) hb2)
         refine hK.out _ _ (fun _=>bi) ?_;clear hK K;refine wa2 5 7 (by kernel_rfl) rfl rfl (fun K hK=> ?o15) (fun K hK=> ?o16)
         case' o15=>
          go_simp;go_wp2_with ((go_at_call 35;(with_reducible refine mf0 (jaz HX1.o (hEW.o.below bi)) fun w3 s3 A3 n3 c3 t3 B3 m3 d3 hr3 hq3 hb3 hc3 hf3 _=> ?_));have y3_0:=zlt (w1.heap.size) hb3;have y3_1:=zlt (w1.heap.size+1) hb3;have y3_2:=zlt (w2.heap.size) hb3;have y3_3:=zlt (w2.heap.size+1) hb3)
          refine hK.out _ _ (fun _=>bi) ?_;clear hK K;refine wa1 7 (by kernel_rfl) rfl (fun K hK=> ?_);go_simp;refine hK.out _ _ (fun _=>bi) ?_;clear hK K
         case' o16=>
          go_simp;refine hK.out _ _ (fun _=>bi) ?_;clear hK K;refine wa1 5 (by kernel_rfl) rfl (fun K hK=> ?_);go_simp;go_wp2_with ((go_at_call 35;(with_reducible refine mf0 (jaz HX1.o (hEW.o.below bi)) fun w3 s3 A3 n3 c3 t3 B3 m3 d3 hr3 hq3 hb3 hc3 hf3 _=> ?_));have y3_0:=zlt (w1.heap.size) hb3;have y3_1:=zlt (w1.heap.size+1) hb3;have y3_2:=zlt (w2.heap.size) hb3;have y3_3:=zlt (w2.heap.size+1) hb3)
          refine hK.out _ _ (fun _=>bi) ?_;clear hK K
        case' o14=>
         go_simp;refine hK.out _ _ (fun _=>bi) ?_;clear hK K;refine wa1 2 (by kernel_rfl) rfl (fun K hK=> ?_);go_simp;go_wp2_with ((go_at_call 35;(with_reducible refine mf0 (jaz HX0.o (hEW.o.below bi)) fun w2 s2 A2 n2 c2 t2 B2 m2 d2 hr2 hq2 hb2 hc2 hf2 _=> ?_));have y2_0:=zlt (w1.heap.size) hb2;have y2_1:=zlt (w1.heap.size+1) hb2)
         refine hK.out _ _ (fun _=>bi) ?_;clear hK K;refine wa1 5 (by kernel_rfl) rfl (fun K hK=> ?_);go_simp;go_wp2_with ((go_at_call 35;(with_reducible refine mf0 (jaz HX1.o (hEW.o.below bi)) fun w3 s3 A3 n3 c3 t3 B3 m3 d3 hr3 hq3 hb3 hc3 hf3 _=> ?_));have y3_0:=zlt (w1.heap.size) hb3;have y3_1:=zlt (w1.heap.size+1) hb3;have y3_2:=zlt (w2.heap.size) hb3;have y3_3:=zlt (w2.heap.size+1) hb3)
         refine hK.out _ _ (fun _=>bi) ?_;clear hK K
       case' o3=>
        go_simp;refine hK.out _ _ (fun _=>bi) ?_;clear hK K;refine wa2 2 6 (by kernel_rfl) rfl rfl (fun K hK=> ?o17) (fun K hK=> ?o18)
        case' o17=>
         go_simp;go_wp2_with ((go_at_call 35;(with_reducible refine mf0 (jaz HX0.o (hEW.o.below bi)) fun w2 s2 A2 n2 c2 t2 B2 m2 d2 hr2 hq2 hb2 hc2 hf2 _=> ?_));have y2_0:=zlt (w1.heap.size) hb2;have y2_1:=zlt (w1.heap.size+1) hb2)
         refine hK.out _ _ (fun _=>bi) ?_;clear hK K;refine wa2 5 6 (by kernel_rfl) rfl rfl (fun K hK=> ?o19) (fun K hK=> ?o20)
         case' o19=>
          go_simp;go_wp2_with ((go_at_call 35;(with_reducible refine mf0 (jaz HX1.o (hEW.o.below bi)) fun w3 s3 A3 n3 c3 t3 B3 m3 d3 hr3 hq3 hb3 hc3 hf3 _=> ?_));have y3_0:=zlt (w1.heap.size) hb3;have y3_1:=zlt (w1.heap.size+1) hb3;have y3_2:=zlt (w2.heap.size) hb3;have y3_3:=zlt (w2.heap.size+1) hb3)
          refine hK.out _ _ (fun _=>bi) ?_;clear hK K;refine wa1 6 (by kernel_rfl) rfl (fun K hK=> ?_);go_simp;refine hK.out _ _ (fun _=>bi) ?_;clear hK K
         case' o20=>
          go_simp;refine hK.out _ _ (fun _=>bi) ?_;clear hK K;refine wa1 5 (by kernel_rfl) rfl (fun K hK=> ?_);go_simp;go_wp2_with ((go_at_call 35;(with_reducible refine mf0 (jaz HX1.o (hEW.o.below bi)) fun w3 s3 A3 n3 c3 t3 B3 m3 d3 hr3 hq3 hb3 hc3 hf3 _=> ?_));have y3_0:=zlt (w1.heap.size) hb3;have y3_1:=zlt (w1.heap.size+1) hb3;have y3_2:=zlt (w2.heap.size) hb3;have y3_3:=zlt (w2.heap.size+1) hb3)
          refine hK.out _ _ (fun _=>bi) ?_;clear hK K
        case' o18=>
         go_simp;refine hK.out _ _ (fun _=>bi) ?_;clear hK K;refine wa1 2 (by kernel_rfl) rfl (fun K hK=> ?_);go_simp;go_wp2_with ((go_at_call 35;(with_reducible refine mf0 (jaz HX0.o (hEW.o.below bi)) fun w2 s2 A2 n2 c2 t2 B2 m2 d2 hr2 hq2 hb2 hc2 hf2 _=> ?_));have y2_0:=zlt (w1.heap.size) hb2;have y2_1:=zlt (w1.heap.size+1) hb2)
         refine hK.out _ _ (fun _=>bi) ?_;clear hK K;refine wa1 5 (by kernel_rfl) rfl (fun K hK=> ?_);go_simp;go_wp2_with ((go_at_call 35;(with_reducible refine mf0 (jaz HX1.o (hEW.o.below bi)) fun w3 s3 A3 n3 c3 t3 B3 m3 d3 hr3 hq3 hb3 hc3 hf3 _=> ?_));have y3_0:=zlt (w1.heap.size) hb3;have y3_1:=zlt (w1.heap.size+1) hb3;have y3_2:=zlt (w2.heap.size) hb3;have y3_3:=zlt (w2.heap.size+1) hb3)
         refine hK.out _ _ (fun _=>bi) ?_;clear hK K
       all_goals
        refine rd1 8 (by kernel_rfl) rfl (fun K hK=> ?_);go_simp;refine hK.out _ _ (fun _=>bi) ?_;clear hK K;refine rd1 9 (by kernel_rfl) rfl (fun K hK=> ?_);go_simp;refine hK.out _ _ (fun _=>bi) ?_;clear hK K;refine ja2 (by kernel_rfl) ?_ _;go_wp2;go_meet
        (refine ⟨_,_,((s2,A2,n2,c2),t2,B2,m2,d2),((s3,A3,n3,c3),t3,B3,m3,d3),rfl,rfl,⟨?_, ?_, ?_, ?_⟩,⟨?_, ?_, ?_, ?_⟩,⟨?_, ?_⟩,⟨?_, ?_⟩,bi⟩ <;> first|(simp [go_sem,hc3,hc2,y2_0,y2_1,y3_0,y3_1,y3_2,y3_3,jx0,nl,Nat.ne_of_gt];done)|(simp [go_sem,hc3,hc2,y2_0,y3_0,y3_2,nls y2_0,nl,Nat.ne_of_gt];done)|exact (by with_reducible repeat first|assumption|apply rZ|refine rP ?_ rfl (by simp [go_sem,hc3,hc2,y2_0,y2_1,y3_0,y3_1,y3_2,y3_3])))
      case rest=>
       rename World=>wx
       obtain ⟨a1,a2,⟨⟨s,A',n',c'⟩,t,B',m',d'⟩,⟨⟨s2,A2,n2,c2⟩,t2,B2,m2,d2⟩,rfl,rfl,⟨v0,v1,v2,v3⟩,⟨u0,u1,u2',u3⟩,hr1,hr2,bx⟩:=hcut;dsimp only at v0 v1 v2 v3 u0 u1 u2' u3;have bX:=ja0 bWw bx;have gg0:=ja9 bx g0;have gg2:=ja9 bx g2;have za1:a1 < wx.heap.size:=World.block_lt_of_cell? wx _ v0;have za2:a2 < wx.heap.size:=World.block_lt_of_cell? wx _ u0;have zg:g < wx.heap.size:=World.block_lt_of_cell? wx _ gg0;have _:Sl a1 wx.heap.size:=⟨za1⟩;have _:Sl a2 wx.heap.size:=⟨za2⟩;have _:Sl g wx.heap.size:=⟨zg⟩;have _:Sl b wx.heap.size:=⟨Nat.lt_of_lt_of_le HI.o.2 (ja0 bW bx).size⟩;obtain ⟨pPrev,_,pO⟩:=HQ.o;have yprev:0 < i→wx.cell? ⟨b,o+(i - 1)*3+1,none⟩=some (bs pv):=fun h0=>ja9 (ja0 bW bx) (pPrev h0)
       obtain ⟨hB1,hB2⟩:=HBE.o;obtain ⟨e1,he1⟩:∃k,sgn p.num=k:=⟨_,rfl⟩;obtain ⟨e2,he2⟩:∃k,Rq.cmpQ q p=k:=⟨_,rfl⟩;obtain ⟨e4,he4⟩:∃k,sgn v.num=k:=⟨_,rfl⟩;obtain ⟨f1,hf1⟩:∃f,decide (p < 0)=f:=⟨_,rfl⟩;obtain ⟨f2,hf2⟩:∃f,decide (q≤p)=f:=⟨_,rfl⟩;obtain ⟨f3,hf3⟩:∃f,decide (0≤q∧q < 100)=f:=⟨_,rfl⟩;obtain ⟨f4,hf4⟩:∃f,decide (v < 0)=f:=⟨_,rfl⟩;have K1:decide (e1 < 0)=f1:=by rw [←hf1,←he1];exact jwz p
       have K2:decide (e2≤0)=f2:=by
        rw [←hf2,←he2,decide_eq_decide];exact ⟨fun h=>Rat.not_lt.1 fun h2=>by have:=Rq.cmp_pos.2 h2;omega,fun h=>Int.not_lt.1 fun h2=>Rat.not_lt.2 h (Rq.cmp_pos.1 h2)⟩
       have K4:decide (e4 < 0)=f4:=by rw [←hf4,←he4];exact jwz v
       have K5:(if f1 || f2 || !f3 || f4 then (3:Int) else 0)=r:=by
        rw [←hf1,←hf2,←hf3,←hf4];by_cases h1:p < 0
        ·rw [show r=3 by rw [←hB2];exact if_pos (.inl h1),decide_eq_true h1];rfl
        by_cases h2:q≤p
        ·rw [show r=3 by rw [←hB2];exact if_pos (.inr (.inl h2)),decide_eq_true h2,Bool.or_true];rfl
        have h0:0≤q:=by grind
        by_cases h3:100≤q
        ·rw [show r=3 by rw [←hB2];exact if_pos (.inr (.inr (.inl h3))),decide_eq_false (fun h:0≤q∧q < 100=>Rat.not_lt.2 h3 h.2)];simp
        rw [decide_eq_false h1,decide_eq_false h2,decide_eq_true (show 0≤q∧q < 100 from ⟨h0,Rat.not_le.1 h3⟩)];by_cases h4:v < 0
        ·rw [show r=3 by rw [←hB2];exact if_pos (.inr (.inr (.inr h4))),decide_eq_true h4];rfl
        ·rw [show r=0 by rw [←hB2];exact if_neg (fun h=>h.elim h1 fun h=>h.elim h2 fun h=>h.elim h3 h4),decide_eq_false h4];rfl
       have HS1:=qh (fun W (hb:Below wx.heap.size wx W)=>jg2 he1 (RepF.below (x:=p) hr1 hb));have HCP:=qh (fun W (hb:Below wx.heap.size wx W)=>jd7 600 600 he2 (RepF.below (x:=q) hr2 hb) (RepF.below (x:=p) hr1 hb) HZ1.o HZ0.o (by omega));have HM3:=qh (fun W (hb:Below wx.heap.size wx W)=>jsn (RepF.below (x:=q) hr2 hb) HZ1.o (by omega) hf3);have HE4:=qh he4;have HEX:=qh (HE.o.below bX);have HCC:=qh (show (if (if r=0 then bdO ls i else r)=0 then jar (bdE ls) ((List.range n).drop (i+1)) else (if r=0 then bdO ls i else r))=R by rw [←hB1];exact HC.o);have HPO:=qh pO;have HYP:=qh yprev;clear he1 he2 he4 hf1 hf2 hf3 hf4 hB1 hB2 HBE HC HQ pPrev pO hr1 hr2 yprev bx HG2 hEW;cases hbad:(f1 || f2 || !f3 || f4)
       ·have hr0:r=0:=by rw [←K5,hbad];rfl
        obtain rfl:f1=false:=by cases f1 <;> simp_all
        obtain rfl:f2=false:=by cases f2 <;> simp_all
        obtain rfl:f3=true:=by cases f3 <;> simp_all
        obtain rfl:f4=false:=by cases f4 <;> simp_all
        subst hr0;have HCD:=qh (show (if bdO ls i=0 then jar (bdE ls) ((List.range n).drop (i+1)) else bdO ls i)=R from HCC.o);clear hbad K5 HCC;go_upto_region 13 with (first|((go_at_call 101;(with_reducible refine mo0 (HS1.o _ bi) fun w4 hb4 hc4 hf4 _=> ?_));have y4_0:=zlt (a1) hb4;have y4_1:=zlt (a2) hb4;have y4_2:=zlt (g) hb4;have y4_3:=zlt (b) hb4)|((go_at_call 39;(with_reducible refine mo0 (HCP.o _ bi) fun w5 hb5 hc5 hf5 _=> ?_));have y5_0:=zlt (a1) hb5;have y5_1:=zlt (a2) hb5;have y5_2:=zlt (g) hb5;have y5_3:=zlt (b) hb5)|((go_at_call 102;(with_reducible refine mo0 (HM3.o _ bi) fun w6 hb6 hc6 hf6 _=> ?_));have y6_0:=zlt (g) hb6;have y6_1:=zlt (b) hb6)|((go_at_call 35;(with_reducible refine mf0 (jaz HX2.o (HEX.o.below bi)) fun w7 s7 A7 n7 c7 t7 B7 m7 d7 hr7 hq7 hb7 hc7 hf7 _=> ?_));have y7_0:=zlt (g) hb7;have y7_1:=zlt (b) hb7)|((go_at_call 101;(with_reducible refine mo0 (jg2 HE4.o ⟨hr7,hq7⟩) fun w8 hb8 hc8 hf8 _=> ?_));have y8_0:=zlt (g) hb8;have y8_1:=zlt (b) hb8))
        have b8:Below wx.heap.size wx w8:=bi;have gg0:=ja9 b8 gg0;have yp:0 < i→w8.cell? ⟨b,o+(i - 1)*3+1,none⟩=some (bs pv):=fun h0=>ja9 b8 (HYP.o h0)
        have b9:=ja0 bX b8;have hnn:=HN.o;clear hb4 hb5 hb6 hb7 hb8 hc4 hc5 hc6 hc7 hc8 hf4 hf5 hf6 hf7 hf8 hr7 hq7 b8 HS1 HCP HM3 HEX HE4 HYP;have hO:=HPO.o;by_cases hi0:0 < i
        ·have d0:decide ((0:Int) < (i:Int))=true:=by rw [decide_eq_true_iff];omega
         have yp:=yp hi0;have m1:wrap64 ((i:Int) - 1)=((i - 1:Nat):Int):=by unfold wrap64;omega
         have hi1:i - 1 < n:=by omega
         by_cases hx0:pv=x0
         ·subst hx0;rw [if_neg (fun h=>h.2 rfl)] at hO;have hN2:jar (bdE ls) ((List.range n).drop (i+1))=R:=by have:=HCD.o;rw [hO] at this;exact this
          have HN2:=qh hN2;clear hN2 hO HCD HPO
          go_quiet (fail)
          go_wp2;exact ⟨⟨i+1,by simp,ja0 b9 bi,hi,HN2.o⟩,by simp [intOf];omega⟩
         ·rw [if_pos ⟨hi0,hx0⟩] at hO;have hR:R=11:=by have:=HCD.o;rw [hO] at this;exact this.symm
          subst hR;have hx1:(pv==x0)=false:=by rw [beq_eq_false_iff_ne];exact hx0
          clear hO HCD HPO HR
          go_quiet (fail)
          go_wp2;go_ret;exact ⟨rfl,ja0 b9 bi⟩
        ·have d0:decide ((0:Int) < (i:Int))=false:=by rw [decide_eq_false_iff_not];omega
         rw [if_neg (fun h=>hi0 h.1)] at hO;have hN2:jar (bdE ls) ((List.range n).drop (i+1))=R:=by have:=HCD.o;rw [hO] at this;exact this
         have HN2:=qh hN2;clear hN2 hO HCD HPO
         go_quiet (fail)
         go_wp2;exact ⟨⟨i+1,by simp,ja0 b9 bi,hi,HN2.o⟩,by simp [intOf];omega⟩
       ·have hr3:r=3:=by rw [←K5,hbad];rfl
        have hR3:R=3:=by rw [←HCC.o,hr3];rfl
        subst hR3;clear HR HCC hr3 K5;cases f1 with
        | true=>
          clear hbad;go_wp2_with (first|((go_at_call 101;(with_reducible refine mo0 (HS1.o _ bi) fun w4 hb4 hc4 hf4 _=> ?_));have y4_0:=zlt (a1) hb4;have y4_1:=zlt (a2) hb4;have y4_2:=zlt (g) hb4;have y4_3:=zlt (b) hb4)|((go_at_call 39;(with_reducible refine mo0 (HCP.o _ bi) fun w5 hb5 hc5 hf5 _=> ?_));have y5_0:=zlt (a1) hb5;have y5_1:=zlt (a2) hb5;have y5_2:=zlt (g) hb5;have y5_3:=zlt (b) hb5)|((go_at_call 102;(with_reducible refine mo0 (HM3.o _ bi) fun w6 hb6 hc6 hf6 _=> ?_));have y6_0:=zlt (g) hb6;have y6_1:=zlt (b) hb6)|((go_at_call 35;(with_reducible refine mf0 (jaz HX2.o (HEX.o.below bi)) fun w7 s7 A7 n7 c7 t7 B7 m7 d7 hr7 hq7 hb7 hc7 hf7 _=> ?_));have y7_0:=zlt (g) hb7;have y7_1:=zlt (b) hb7)|((go_at_call 101;(with_reducible refine mo0 (jg2 HE4.o ⟨hr7,hq7⟩) fun w8 hb8 hc8 hf8 _=> ?_));have y8_0:=zlt (g) hb8;have y8_1:=zlt (b) hb8))
          go_ret;exact ⟨rfl,ja0 bX bi⟩
        | false=>
          cases f2 with
          | true=>
            clear hbad;go_wp2_with (first|((go_at_call 101;(with_reducible refine mo0 (HS1.o _ bi) fun w4 hb4 hc4 hf4 _=> ?_));have y4_0:=zlt (a1) hb4;have y4_1:=zlt (a2) hb4;have y4_2:=zlt (g) hb4;have y4_3:=zlt (b) hb4)|((go_at_call 39;(with_reducible refine mo0 (HCP.o _ bi) fun w5 hb5 hc5 hf5 _=> ?_));have y5_0:=zlt (a1) hb5;have y5_1:=zlt (a2) hb5;have y5_2:=zlt (g) hb5;have y5_3:=zlt (b) hb5)|((go_at_call 102;(with_reducible refine mo0 (HM3.o _ bi) fun w6 hb6 hc6 hf6 _=> ?_));have y6_0:=zlt (g) hb6;have y6_1:=zlt (b) hb6)|((go_at_call 35;(with_reducible refine mf0 (jaz HX2.o (HEX.o.below bi)) fun w7 s7 A7 n7 c7 t7 B7 m7 d7 hr7 hq7 hb7 hc7 hf7 _=> ?_));have y7_0:=zlt (g) hb7;have y7_1:=zlt (b) hb7)|((go_at_call 101;(with_reducible refine mo0 (jg2 HE4.o ⟨hr7,hq7⟩) fun w8 hb8 hc8 hf8 _=> ?_));have y8_0:=zlt (g) hb8;have y8_1:=zlt (b) hb8))
            go_ret;exact ⟨rfl,ja0 bX bi⟩
          | false=>
            cases f3 with
            | false=>
              clear hbad;go_wp2_with (first|((go_at_call 101;(with_reducible refine mo0 (HS1.o _ bi) fun w4 hb4 hc4 hf4 _=> ?_));have y4_0:=zlt (a1) hb4;have y4_1:=zlt (a2) hb4;have y4_2:=zlt (g) hb4;have y4_3:=zlt (b) hb4)|((go_at_call 39;(with_reducible refine mo0 (HCP.o _ bi) fun w5 hb5 hc5 hf5 _=> ?_));have y5_0:=zlt (a1) hb5;have y5_1:=zlt (a2) hb5;have y5_2:=zlt (g) hb5;have y5_3:=zlt (b) hb5)|((go_at_call 102;(with_reducible refine mo0 (HM3.o _ bi) fun w6 hb6 hc6 hf6 _=> ?_));have y6_0:=zlt (g) hb6;have y6_1:=zlt (b) hb6)|((go_at_call 35;(with_reducible refine mf0 (jaz HX2.o (HEX.o.below bi)) fun w7 s7 A7 n7 c7 t7 B7 m7 d7 hr7 hq7 hb7 hc7 hf7 _=> ?_));have y7_0:=zlt (g) hb7;have y7_1:=zlt (b) hb7)|((go_at_call 101;(with_reducible refine mo0 (jg2 HE4.o ⟨hr7,hq7⟩) fun w8 hb8 hc8 hf8 _=> ?_));have y8_0:=zlt (g) hb8;have y8_1:=zlt (b) hb8))
              go_ret;exact ⟨rfl,ja0 bX bi⟩
            | true=>
              cases f4 with
              | true=>
                clear hbad;go_wp2_with (first|((go_at_call 101;(with_reducible refine mo0 (HS1.o _ bi) fun w4 hb4 hc4 hf4 _=> ?_));have y4_0:=zlt (a1) hb4;have y4_1:=zlt (a2) hb4;have y4_2:=zlt (g) hb4;have y4_3:=zlt (b) hb4)|((go_at_call 39;(with_reducible refine mo0 (HCP.o _ bi) fun w5 hb5 hc5 hf5 _=> ?_));have y5_0:=zlt (a1) hb5;have y5_1:=zlt (a2) hb5;have y5_2:=zlt (g) hb5;have y5_3:=zlt (b) hb5)|((go_at_call 102;(with_reducible refine mo0 (HM3.o _ bi) fun w6 hb6 hc6 hf6 _=> ?_));have y6_0:=zlt (g) hb6;have y6_1:=zlt (b) hb6)|((go_at_call 35;(with_reducible refine mf0 (jaz HX2.o (HEX.o.below bi)) fun w7 s7 A7 n7 c7 t7 B7 m7 d7 hr7 hq7 hb7 hc7 hf7 _=> ?_));have y7_0:=zlt (g) hb7;have y7_1:=zlt (b) hb7)|((go_at_call 101;(with_reducible refine mo0 (jg2 HE4.o ⟨hr7,hq7⟩) fun w8 hb8 hc8 hf8 _=> ?_));have y8_0:=zlt (g) hb8;have y8_1:=zlt (b) hb8))
                go_ret;exact ⟨rfl,ja0 bX bi⟩
              | false=>exact absurd hbad (by decide)
     ·rw [if_neg e0] at hBE;rw [hBE,if_neg e0] at hc;subst hc;have q1:(k0 != 0)=true:=by rw [bne_iff_ne];exact e0
      clear HC HR e0 hBE hk0 hEr hPrev hOE l0 l1 l2 hmem hil hcell HQ;go_wp2_with (go_at_call 58;(with_reducible refine mo0 (HCK.o _ _ _ _ bi HSV.o (by omega)) fun w1 hb1 hc1 hf1 _=> ?_))
      go_ret;exact ⟨rfl,bi⟩
    ·have q0:decide (i < n)=false:=by simp;omega
     rw [List.drop_eq_nil_of_le (by rw [List.length_range];omega)] at hc;have hR:R=0:=by rw [←hc];rfl
     subst hR;clear hc hi HR;go_wp2;go_ret;exact ⟨rfl,hb⟩
end
end Go.Proofs.YtdjppepcckedkaaGreatDoor
