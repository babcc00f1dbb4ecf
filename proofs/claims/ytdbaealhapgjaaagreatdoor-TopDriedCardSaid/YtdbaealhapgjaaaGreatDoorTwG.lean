/- Parts. -/
import Derived.Test.YtdbaealhapgjaaaGreatDoorTuG
import Derived.Test.YtdbaealhapgjaaaGreatDoorTpG
import Derived.Test.YtdbaealhapgjaaaGreatDoorGyG
import Derived.Test.YtdbaealhapgjaaaGreatDoorLg
set_option linter.all false
set_option maxRecDepth 100000
set_option maxHeartbeats 8000000
namespace Go.Proofs.YtdbaealhapgjaaaGreatDoor
open Go Go.RowKit Go.Proofs.Tryz

structure Par6 (g:List UInt8) (ls:List Lay):Prop where
 pos:0 < ls.length
 six:ls.length≤6
 ok:∀x∈ls,jyQ x=0
 one:∀x∈ls,x.grain=g
 mass:jzq ls≤999999999
 few:∀x∈ls,x.shares.length≤8
 thin:∀x∈ls,∀p∈x.shares,p.2.length≤14
theorem jCn {ls:List Lay} (h:jCr ls=true):Par6 (ls.getD 0 jyL).grain ls:=by
 unfold jCr at h;simp only [Bool.and_eq_true,decide_eq_true_eq,beq_iff_eq] at h;obtain ⟨⟨⟨⟨h1,h2⟩,h3⟩,h4⟩,h5⟩:=h;unfold jDz at h4;rw [if_neg (by omega)] at h4;have h6:jar jyQ ls=0:=Classical.byContradiction fun e=>by rw [if_pos e] at h4;exact e h4
 rw [if_neg (by simpa using h6)] at h4;have h7:¬999999999 < jzq ls:=fun e=>by rw [if_pos e] at h4;cases h4
 have h8:∀x∈ls,∀s∈x.shares,x.shares.length≤8∧s.2.length≤14:=fun x hx s hs=>by
  have:=List.all_eq_true.1 (List.all_eq_true.1 h3 x hx) s hs;simpa [Bool.and_eq_true] using this
 refine ⟨h1,h2,fun x hx=>jyH h6 x hx,fun x hx=> ?_,by omega,fun x hx=> ?_,fun x hx p hp=>(h8 x hx p hp).2⟩
 ·have:=List.all_eq_true.1 h5 x hx;simpa using this
 ·have h9:=(jyP (jyJ (jyH h6 x hx)).2.2.2).1.1;obtain ⟨p,hp⟩:∃p,p∈x.shares:=⟨_,List.getElem_mem h9⟩;exact (h8 x hx p hp).1
theorem jCm {α:Type} {f:α→Int}:∀{l:List α},(∀x∈l,f x=0)→jar f l=0
 | [],_=>rfl
 | x::r,h=>by rw [jar,if_pos (h x (List.mem_cons_self ..)),jCm (fun y hy=>h y (List.mem_cons_of_mem _ hy))]
theorem jCx:∀{ls:List Lay},(∀x∈ls,x.shares.length≤8)→(jyG ls).length≤8*ls.length
 | [],_=>by simp [jyG]
 | x::r,h=>by
   have h1:=jCx (ls:=r) (fun y hy=>h y (List.mem_cons_of_mem _ hy));have h2:=h x (List.mem_cons_self ..);rw [show jyG (x::r)=jyO x.mass x.shares++jyG r from by simp [jyG],List.length_append,jzf,List.length_cons];omega
section
variable {w:World} {A:Option Addr} {n:Nat} {g:List UInt8} {ls:List Lay}
theorem Par6.num (h:Par6 g ls) {x:Lay} (hx:x∈ls) {p:List UInt8×List UInt8} (hp:p∈x.shares):IsNum p.2 (numQ p.2)∧Dz 14 (numQ p.2):=by
 have h1:=jjb ((jyP (jyJ (h.ok x hx)).2.2.2).2 p hp).2.1;exact ⟨h1,h1.dzl (h.thin x hx p hp) (by omega)⟩
theorem Par6.rmix (h:Par6 g ls) (hv:Lv w A n ls):RMix w A n ls 14:=⟨hv,h.ok,fun x hx p hp=>(h.num hx hp).2,by omega,by
 have h1:=hv.len;have h2:=h.six;have:(n+2)*(14+10)≤8*24:=Nat.mul_le_mul (by omega) (by omega)
 omega,by have:=hv.len;have:=h.six;omega⟩
theorem Par6.m1 (h:Par6 g ls):1≤jzq ls:=by have:=(jCR h.ok).1;have:=h.pos;omega
theorem Par6.tdz (h:Par6 g ls) (hv:Lv w A n ls) (y:List UInt8):Dz 145 (tot (jyG ls) y):=by
 refine ((h.rmix hv).all y).mono ?_;have h1:=hv.len;have h2:=h.six;have:n*(14+10)≤6*24:=Nat.mul_le_mul (by omega) (by omega);omega
theorem Par6.pdz (h:Par6 g ls) (hv:Lv w A n ls) (y:List UInt8):Dz 160 (tot (jyG ls) y / ((jzq ls:Int):Rat)):=
 ((h.tdz hv y).div (dzm h.m1 h.mass) (by have:=h.m1;simp;omega)).mono (by omega)
theorem Par6.keys (h:Par6 g ls):(keysOf (jyG ls)).length≤48:=by
 have h1:=jDd (jCh (jyG ls)).nodup (fun x hx=>(jCg _ _).1 hx);have h2:=jCx h.few;have:=h.six;omega
theorem Par6.mixb (h:Par6 g ls) (hv:Lv w A n ls):Mixb g ls:=⟨h.ok,h.one,h.pos,h.mass,by have:=h.keys;omega,fun y=>(h.pdz hv y).mono (by omega)⟩
theorem jDA {x:Rat} (h:Dz 14 x):Sz 1 x:=by
 have e:(10:Nat)^14 < B64^1:=by rw [ja3];decide
 exact ⟨Nat.le_of_lt (Nat.lt_trans h.num e),Nat.le_of_lt (Nat.lt_trans h.den e)⟩
theorem jDt {x:Rat} (h:Dz 160 x):Sz 18 x:=by
 have e:(10:Nat)^160 < B64^18:=by rw [ja3];decide
 exact ⟨Nat.le_of_lt (Nat.lt_trans h.num e),Nat.le_of_lt (Nat.lt_trans h.den e)⟩
theorem jDv {x:Lay} (h:jyQ x=0) (hl:∀p∈x.shares,p.2.length≤1000):LayIn x:=by
 have h1:=jyJ h;have h2:=jyP h1.2.2.2;refine ⟨by unfold R64;omega,by omega,fun p hp=>⟨?_,by have:=hl p hp;omega⟩⟩;have:=(h2.2 p hp).1;simp [jyT] at this;omega
theorem Par6.mixin (h:Par6 g ls) (hv:Lv w A n ls):MixIn w A n ls (jzq ls) 1:=by
 have hl:=hv.len;refine ⟨hv,by have:=h.pos;omega,by have:=h.six;omega,fun x hx=>jDv (h.ok x hx) (fun p hp=>by have:=h.thin x hx p hp;omega),by omega,fun x hx p hp=>jDA (h.num hx hp).2,jCm h.ok, ?_⟩;have hg0:(ls.getD 0 jyL).grain=g:=h.one _ (jzb h.pos);rw [hg0,jCK h.one,if_neg (by have:=h.mass;omega),Int.zero_add]
theorem Par6.mixd (h:Par6 g ls) (hv:Lv w A n ls):Mixd ls (jzq ls) (keysOf (jyG ls)) (jCv ls) g where
 ord:=jCh _
 mem:=jCg _
 pos:=jDe (h.rmix hv) (by have:=hv.len;have:=h.pos;omega)
 few:=by have:=h.keys;omega
 grain:=h.one _ (jzb h.pos)
 len:=by simp [jCv]
 out:=fun j hj=>by
  obtain ⟨g1,g2,g3⟩:=jp0 (h.pdz hv ((keysOf (jyG ls)).getD j [])) (by omega) (by omega);have e:(jCv ls).getD j ([],[])=((keysOf (jyG ls)).getD j [],tq (tot (jyG ls) ((keysOf (jyG ls)).getD j []) / ((jzq ls:Int):Rat))):=jB4 (d:=[]) hj;rw [e];exact ⟨rfl,(h.pdz hv _).strQ (by omega),g1,g2⟩
theorem Par6.part (h:Par6 g ls) (hv:Lv w A n ls) {p:List UInt8×List UInt8} (hp:p∈jCv ls):IsNum p.2 (numQ p.2)∧p.1.length≤24∧Dz 160 (numQ p.2)∧numQ p.2=tot (jyG ls) p.1 / ((jzq ls:Int):Rat)∧p.2.length≤322:=by
 obtain ⟨h1,h2,h3⟩:=(h.mixb hv).val hp;have h4:=jjb h2;have h5:=(jyP (jyJ (h.mixb hv).layer).2.2.2).2 p hp;have hd:=h.pdz hv p.1;refine ⟨h4,by have:=h5.1;simp [jyT] at this;omega,by rw [h3];exact hd,h3, ?_⟩;have e:=h4.eq;rw [h3] at e;rw [e];exact jur hd (by omega)
theorem Par6.lots (h:Par6 g ls) (hv:Lv w A n ls) (m:Int) {k:List UInt8} (hk:k∈keysOf (jyG ls)):tot (jyG [⟨g,m,jCv ls⟩]) k=tot (jyG ls) k / ((jzq ls:Int):Rat)*(m:Rat):=by
 obtain ⟨p,hp,e⟩:∃p∈jCv ls,p.1=k:=⟨_,List.mem_map.2 ⟨k,hk,rfl⟩,rfl⟩;have h1:=h.part hv hp;have h2:=jDu (m:=m) (jCo (jyJ (h.mixb hv).layer).2.2.2) hp;rw [jyG,List.flatMap_cons,List.flatMap_nil,List.append_nil];dsimp only [jDw] at h2;rw [e] at h2 h1;rw [h2,h1.2.2.2.1]
theorem Par6.sum (h:Par6 g ls):jCi ((keysOf (jyG ls)).map (tot (jyG ls)))=((jzq ls:Int):Rat):=by
 rw [jCz (jCh _).nodup (fun c hc=>(jCg _ _).2 (by unfold jzc;exact List.any_eq_true.2 ⟨c,hc,by simp⟩)),jCt h.ok]
def jCk (cs:List (List UInt8×Rat)) (M L:Rat) (ks:List (List UInt8)):Nat→Rat
 | 0=>0
 | i+1=>jCk cs M L ks i+tot cs (ks.getD i []) / M*L
theorem jCV (h:Par6 g ls) (hv:Lv w A n ls) {L:Int} (hL:1≤L) (hL9:L≤999999999):∀i,Dz (i*170+1) (jCk (jyG ls) ((jzq ls:Int):Rat) (L:Rat) (keysOf (jyG ls)) i)
 | 0=>by rw [jCk];exact jCA 1 (by omega)
 | i+1=>by
   rw [jCk];exact ((jCV h hv hL hL9 i).add ((h.pdz hv _).mul (dzm hL hL9))).mono (by omega)
theorem jCI (cs:List (List UInt8×Rat)) (M L:Rat) (ks:List (List UInt8)):∀i,i≤ks.length→jCk cs M L ks i=jCi ((ks.take i).map (tot cs)) / M*L
 | 0,_=>by rw [jCk,List.take_zero,List.map_nil,jCi,Rat.div_def,Rat.zero_mul,Rat.zero_mul]
 | i+1,hi=>by
   rw [jCk,jCI cs M L ks i (by omega),List.take_add_one,List.getElem?_eq_getElem (show i < ks.length by omega),List.map_append,jCu,List.getD_eq_getElem?_getD,List.getElem?_eq_getElem (show i < ks.length by omega)];simp only [Option.toList_some,List.map_cons,List.map_nil,jCi,Option.getD_some,Rat.add_zero];rw [Rat.div_def,Rat.div_def,Rat.div_def,Rat.add_mul,Rat.add_mul]
theorem Par6.lossAll (h:Par6 g ls) (L:Rat):jCk (jyG ls) ((jzq ls:Int):Rat) L (keysOf (jyG ls)) (keysOf (jyG ls)).length=L:=by
 have h0:((jzq ls:Int):Rat)≠0:=by have:=h.m1;simp;omega
 rw [jCI _ _ _ _ _ (Nat.le_refl _),List.take_length,h.sum,Rat.div_def,Rat.mul_inv_cancel _ h0,Rat.one_mul]
theorem jDr {t M a b:Rat} (h:M≠0) (hab:a+b=M):t / M*a+t / M*b=t:=by
 rw [←Rat.mul_add,hab,Rat.div_mul_cancel h]
end

section
variable {w:World} {A:Option Addr} {n c:Nat} {ls:List Lay} {a t:List UInt8}
theorem jDn {k:Int} (hE:Env w) (hv:Lv w A n ls) (hk:jCr ls=true→a.length≤12→t.length≤12→jhc (jzq ls) a t=k) (h:jCr ls=false∨12 < a.length∨12 < t.length∨k≠0):
  Calls prog 3 #[.slice A n c,bs a,bs t] w fun e w'=>e= .returned (.bool true)∧Below w.heap.size w w':=by
 have HX:=qh (fun W (hb:Below w.heap.size w W)=>jzQ (hE.below hb));obtain ⟨B,hB⟩:∃b,jCr ls=b:=⟨_,rfl⟩;have HP:=qh (fun W (hb:Below w.heap.size w W)=>jCl (c:=c) (hv.below hb) hB);obtain ⟨la,hla⟩:∃l,a.length=l:=⟨_,rfl⟩;obtain ⟨lt,hlt⟩:∃l,t.length=l:=⟨_,rfl⟩;cases B with
 | false=>
   clear hE hv hk h hB hla hlt;go_enter func3,ntmps3;go_wp2_with (first|(go_at_call 6;(with_reducible refine mo0 (HP.o _ bi) fun w1 hb1 hc1 hf1 _=> ?_))|(go_at_call 8;(with_reducible refine mo0 (HMS.o _ bi) fun w2 hb2 hc2 hf2 _=> ?_))|(go_at_call 7;(with_reducible refine mo0 (HWA.o _) fun w3 hb3 hc3 hf3 _=> ?_))|(go_at_call 9;(with_reducible refine mo0 (HX.o _ bi) fun w4 hb4 hc4 hf4 _=> ?_)))
   go_ret;exact ⟨rfl,bi⟩
 | true=>
   by_cases h1:12 < la
   ·have p1:decide ((12:Int) < (la:Int))=true:=by rw [decide_eq_true_iff];omega
    clear hE hv hk h hB h1 hlt;go_enter func3,ntmps3;go_wp2_with (first|(go_at_call 6;(with_reducible refine mo0 (HP.o _ bi) fun w1 hb1 hc1 hf1 _=> ?_))|(go_at_call 8;(with_reducible refine mo0 (HMS.o _ bi) fun w2 hb2 hc2 hf2 _=> ?_))|(go_at_call 7;(with_reducible refine mo0 (HWA.o _) fun w3 hb3 hc3 hf3 _=> ?_))|(go_at_call 9;(with_reducible refine mo0 (HX.o _ bi) fun w4 hb4 hc4 hf4 _=> ?_)))
    go_ret;exact ⟨rfl,bi⟩
   ·have p1:decide ((12:Int) < (la:Int))=false:=by rw [decide_eq_false_iff_not];omega
    by_cases h2:12 < lt
    ·have p2:decide ((12:Int) < (lt:Int))=true:=by rw [decide_eq_true_iff];omega
     clear hE hv hk h hB h1 h2;go_enter func3,ntmps3;go_wp2_with (first|(go_at_call 6;(with_reducible refine mo0 (HP.o _ bi) fun w1 hb1 hc1 hf1 _=> ?_))|(go_at_call 8;(with_reducible refine mo0 (HMS.o _ bi) fun w2 hb2 hc2 hf2 _=> ?_))|(go_at_call 7;(with_reducible refine mo0 (HWA.o _) fun w3 hb3 hc3 hf3 _=> ?_))|(go_at_call 9;(with_reducible refine mo0 (HX.o _ bi) fun w4 hb4 hc4 hf4 _=> ?_)))
     go_ret;exact ⟨rfl,bi⟩
    ·have p2:decide ((12:Int) < (lt:Int))=false:=by rw [decide_eq_false_iff_not];omega
     have hP:=jCn hB;have hl:=hv.len;have h6:=hP.six;have HMS:=qh (fun W (hb:Below w.heap.size w W)=>jCj (c:=c) (hv.below hb) (by omega) (fun x hx=>by have:=jyJ (hP.ok x hx);omega) (rfl:jzq ls=_));have HWA:=qh (fun W=>jj0 (w:=W) (hk hB (by omega) (by omega)) (by omega) (by omega))
     have hk0:k≠0:=by
      rcases h with h|h|h|h
      ·rw [hB] at h;cases h
      ·omega
      ·omega
      ·exact h
     have p3:(k != 0)=true:=by rw [bne_iff_ne];exact hk0
     obtain ⟨M,hM⟩:∃m,jzq ls=m:=⟨_,rfl⟩;rw [hM] at HMS HWA;clear hE hv hk h hB h1 h2 hP hl h6 hk0 hM;go_enter func3,ntmps3;go_wp2_with (first|(go_at_call 6;(with_reducible refine mo0 (HP.o _ bi) fun w1 hb1 hc1 hf1 _=> ?_))|(go_at_call 8;(with_reducible refine mo0 (HMS.o _ bi) fun w2 hb2 hc2 hf2 _=> ?_))|(go_at_call 7;(with_reducible refine mo0 (HWA.o _) fun w3 hb3 hc3 hf3 _=> ?_))|(go_at_call 9;(with_reducible refine mo0 (HX.o _ bi) fun w4 hb4 hc4 hf4 _=> ?_)))
     go_ret;exact ⟨rfl,bi⟩
end

structure DryF (M N:Int) (a t:List UInt8) (x y z s:Rat):Prop where
 ax:IsMoist a x
 tx:IsMoist t y
 c:Ceil M N x y
 ez:100 - (M:Rat)*(100 - x) / (N:Rat)=z
 dz:Dz 100 z
 zx:IsMoist (tq z) z
 es:(M:Rat)*(x - y) / (100 - y)=s
 ds:Dz 100 s
 own:(N:Rat)*(100 - z) / 100=(M:Rat)*(100 - x) / 100
 gap0:0≤s - ((M - N:Int):Rat)
 gap1:s - ((M - N:Int):Rat) < 1
theorem jDg {M:Int} {a t:List UInt8} (hla:a.length≤12) (hlt:t.length≤12) (hk:jhc M a t=0):∃N z s,DryF M N a t (numQ a) (numQ t) z s:=by
 obtain ⟨⟨a1,a2⟩,hx,ht,hxt⟩:=jcg hk;have dx:=hx.num.dzl hla (by omega);have dt:=ht.num.dzl hlt (by omega);obtain ⟨x,hxx⟩:∃x,numQ a=x:=⟨_,rfl⟩;obtain ⟨y,hyy⟩:∃x,numQ t=x:=⟨_,rfl⟩;rw [hxx] at hx hxt dx ⊢;rw [hyy] at ht hxt dt ⊢;have dM:=dzm a1 a2;have c1:Ceil M _ x y:=⟨rfl,a1,a2,hx.high,hxt⟩;obtain ⟨N,hN⟩:∃n, -((-((M:Rat)*(100 - x) / (100 - y))).floor)=n:=⟨_,rfl⟩;rw [hN] at c1;obtain ⟨n1,n2⟩:=c1.le
 have hN0:((N:Int):Rat)≠0:=by
  intro e;have:N=0:=by exact_mod_cast e
  omega
 obtain ⟨z,hz⟩:∃z,100 - (M:Rat)*(100 - x) / (N:Rat)=z:=⟨_,rfl⟩;have ho:=c1.once hz;have dz:Dz 100 z:=hz ▸ (jc9.sub ((dM.mul (jc9.sub dx)).div (dzm n1 (by omega)) hN0)).mono (by omega);obtain ⟨_,_,iz⟩:=jp0 dz (by omega) (by omega);have hy0:=jlX ht.high;obtain ⟨s,hs⟩:∃s,(M:Rat)*(x - y) / (100 - y)=s:=⟨_,rfl⟩;have ds:Dz 100 s:=hs ▸ ((dM.mul (dx.sub dt)).div (jc9.sub dt) hy0).mono (by omega);obtain ⟨e1,e2⟩:=jAe hN
 have eq:(M:Rat)*(100 - x) / (100 - y)=(M:Rat) - s:=by
  have hi:=Rat.mul_inv_cancel _ hy0;rw [←hs,Rat.div_def,Rat.div_def];obtain ⟨i,hii⟩:∃i,(100 - y)⁻¹=i:=⟨_,rfl⟩;rw [hii] at hi ⊢
  grind
 rw [eq] at e1 e2;have eD:((M - N:Int):Rat)=(M:Rat) - (N:Rat):=Rat.intCast_sub M N;refine ⟨N,z,s,hx,ht,c1,hz,dz,⟨iz,Rat.le_trans ht.low ho.low, ?_⟩,hs,ds,by rw [ho.back], ?_, ?_⟩
 ·have:=ho.high;have:=hx.high;grind
 ·rw [eD];grind
 ·rw [eD];grind
end Go.Proofs.YtdbaealhapgjaaaGreatDoor
