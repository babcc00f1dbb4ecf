/- Parts. -/
import Derived.Test.YtcophhhpgmilfaaGreatDoorDaG
import Derived.Test.YtcophhhpgmilfaaGreatDoorKpG
set_option linter.all false
set_option maxRecDepth 100000
set_option maxHeartbeats 8000000
namespace Go.Proofs.YtcophhhpgmilfaaGreatDoor
open Go Go.RowKit Go.Proofs.Tryz

theorem Sv.one (w:World) (t:TypeId) (k:List UInt8):Sv (w.alloc (.cells #[bs k] t)) (some ⟨w.heap.size,0,none⟩) 1 [k]:=
 ⟨rfl,fun _=>⟨w.heap.size,0,rfl,by simp,fun j hj=>by
   obtain rfl:j=0:=by omega
   simp⟩⟩
section
variable {w:World} {A:Option Addr} {n c:Nat} {ls:List (List UInt8)}
theorem jmp {R:Int} (hE:Env w) (h:Sv w A n ls) (hn:n≤100000) (hl:∀l∈ls,l.length < 4294967281) (hR:jar chk ls=R):
  Calls prog 31 #[.slice A n c] w fun e w'=>e= .returned (.int .i64 R)∧Below w.heap.size w w':=by
 have HR:=qh hR;have H:=qh h;have HN:=qh hn;have HF:=qh (fun l (h:l∈ls) W (hb:Below w.heap.size w W)=>jln rfl (hE.below hb) (hl l h));clear hR h hn hE hl;go_enter func31,ntmps31;go_wp2
 go_loopw [8] (fun u wr=>∃(i:Nat),u= .int .i64 (i:Int)∧Below w.heap.size w wr∧i≤n∧jar chk (ls.drop i)=R) (fun u _=>n - (intOf u).toNat)
 case atStart=>exact ⟨0,rfl,bi,by omega,HR.o⟩
 case round=>
  obtain ⟨i,rfl,hb,hin,hc⟩:=hrel;have _:=bm hb;by_cases hi:i < n
  ·have q0:decide ((i:Int) < (n:Int))=true:=by simp;exact hi
   obtain ⟨b,o,rfl,hbl,hcell⟩:=(H.o.below hb).at_ (by omega);have hx:=hcell i hi;have hil:i < ls.length:=by rw [H.o.len];exact hi
   rw [jd5 (d:=[]) hil] at hc;have hmem:ls.getD i []∈ls:=by rw [List.getD_eq_getElem?_getD,List.getElem?_eq_getElem hil];exact List.getElem_mem hil
   obtain ⟨x,hxx⟩:∃x,ls.getD i []=x:=⟨_,rfl⟩;rw [hxx] at hx hc hmem;have HX:=qh (HF.o x hmem wr hb);have hnn:=HN.o;have HI:=qh hi;clear hcell hmem hil hxx;by_cases h0:chk x=0
   ·have HC:Hd (jar chk (ls.drop (i+1))=R):=qh (by rw [←hc,jf3 h0]);rw [h0] at HX;clear hc h0 hi;go_wp2_with (go_at_call 82;(with_reducible refine mo0 (HX.o) fun w1 hb1 hc1 hf1 _=> ?_))
    exact ⟨⟨i+1,by simp,bi,HI.o,HC.o⟩,by have:=HI.o;simp [intOf];omega⟩
   ·have hR:R=chk x:=by rw [←hc,jed h0]
    subst hR;obtain ⟨y,hy⟩:∃y,chk x=y:=⟨_,rfl⟩;rw [hy] at HX;have q1:(y != 0)=true:=by rw [bne_iff_ne,←hy];exact h0
    have HY:=qh hy;clear hc h0 hi hy HR;go_wp2_with (go_at_call 82;(with_reducible refine mo0 (HX.o) fun w1 hb1 hc1 hf1 _=> ?_))
    go_ret;exact ⟨by rw [HY.o];rfl,bi⟩
  ·have q0:decide (i < n)=false:=by simp;omega
   rw [List.drop_eq_nil_of_le (by rw [H.o.len];omega)] at hc;have hR:R=0:=by rw [←hc];rfl
   subst hR;clear hc hi HR;go_wp2;go_ret;exact ⟨rfl,bi⟩
end
section
variable {s t:Int} {A B:Option Addr} {n c m d:Nat} {w:World} {x:Rat}
theorem jpA {tx:List UInt8} {ex:Int} (ht:jcF x=tx) (he:jbq x=ex) (h:RepF w s A n c t B m d x) (hE:Env w) (hS:StrQ x):Calls prog 36 #[fv s A n c t B m d] w fun e w'=>e= .returned (.tuple #[bs tx, .int .i64 ex])∧Below w.heap.size w w':=by
 subst ht he;have HR:=qh h;have HE:=qh hE;have HS:=qh hS;obtain ⟨g,hg⟩:∃g,je3 x=g:=⟨_,rfl⟩;have HG:=qh hg;cases g
 ·have HD:=qh (DigQ.of hg);have e1:jcF x=tq x:=by unfold jcF;rw [hg];rfl
  have e2:jbq x=0:=by unfold jbq;rw [hg];rfl
  rw [e1,e2];clear h hE hS hg e1 e2;go_enter func36,ntmps36
  go_wp2_with (first
   | (go_at_call 52;(with_reducible refine mo1 w (jbf HG.o (HR.o.below bi) (HE.o.below bi) HS.o) (by go_size) fun w1 hb1 hc1 hf1 z1_0 _=> ?_))
   | (go_at_call 53;(with_reducible refine mo1 w (jgy (HR.o.below bi) (HE.o.below bi) HS.o HD.o) (by go_size) fun w2 hb2 hc2 hf2 z2_0 _=> ?_)))
  go_ret2;exact ⟨rfl,bi⟩
 ·have e1:jcF x=[]:=by unfold jcF;rw [hg];rfl
  have e2:jbq x=4:=by unfold jbq;rw [hg];rfl
  rw [e1,e2];clear h hE hS hg e1 e2;go_enter func36,ntmps36;go_wp2_with (go_at_call 52;(with_reducible refine mo1 w (jbf HG.o (HR.o.below bi) (HE.o.below bi) HS.o) (by go_size) fun w1 hb1 hc1 hf1 z1_0 _=> ?_))
  go_ret2;exact ⟨rfl,bi⟩
theorem jsn {p:Nat} {b:Bool} (h:RepF w s A n c t B m d x) (hs:Sz p x) (hp:p+1 < 100000) (hb:decide (0≤x∧x < 100)=b):Calls prog 81 #[fv s A n c t B m d] w fun e w'=>e= .returned (.bool b)∧Below w.heap.size w w':=by
 have HA:=qh h;have HS:=qh hs;have HP:=qh hp;have HF:=qh (show ((100:Int):Rat)=100 from rfl);have HR:=qh (show R64 100 by constructor <;> decide);have H2:=qh (jej HR.o);rw [HF.o] at H2;obtain ⟨k,hk⟩:∃k,sgn x.num=k:=⟨_,rfl⟩;obtain ⟨j,hj⟩:∃j,Rq.cmpQ x 100=j:=⟨_,rfl⟩;have HK:=qh hk;have HJ:=qh hj;by_cases h0:x < 0
 ·obtain rfl:false=b:=by rw [←hb,eq_comm,decide_eq_false_iff_not];exact fun e=>Rat.not_lt.2 e.1 h0
  obtain rfl: -1=k:=by rw [←hk];unfold sgn;rw [if_pos (jgN.2 h0)]
  clear h hs hp hb hk hj h0;go_enter func81,ntmps81;go_upto_region 1 with (fail)
  refine ja1 (fun w'=>Below (w.alloc (.cells #[.int .i64 s, .slice A n c, .int .i64 t, .slice B m d] 86)).heap.size (w.alloc (.cells #[.int .i64 s, .slice A n c, .int .i64 t, .slice B m d] 86)) w') [] (by kernel_rfl) ?_;refine tb 0 (fv s A n c t B m d) [1] rfl (by kernel_rfl) pk rfl (by intros;go_simp) bq0 ?_;simp only [ppq];refine rd1 1 (by kernel_rfl) rfl (fun K hK=> ?_);go_simp;go_wp2_with (go_at_call 116;(with_reducible refine mo0 (jg2 HK.o (HA.o.below bi)) fun w3 hb3 hc3 hf3 _=> ?_))
  have sS3:=qh (bst bq0 hb3);refine hK.out _ _ (fun _=>sS3.o) ?_;clear hK K;refine rd1 2 (by kernel_rfl) rfl (fun K hK=> ?_);go_simp;refine hK.out _ _ (fun _=>bi) ?_;clear hK K;refine rd1 3 (by kernel_rfl) rfl (fun K hK=> ?_);go_simp;refine hK.out _ _ (fun _=>bi) ?_;clear hK K;refine ts 4 [] rfl (by kernel_rfl) pk (by rfl) sS3.o ?_;simp only [ppq];refine rd1 5 (by kernel_rfl) rfl (fun K hK=> ?_);go_simp;refine hK.out _ _ (fun _=>bi) ?_;clear hK K;refine rd1 6 (by kernel_rfl) rfl (fun K hK=> ?_);go_simp;refine hK.out _ _ (fun _=>bi) ?_;clear hK K;refine rd1 7 (by kernel_rfl) rfl (fun K hK=> ?_);go_simp;refine hK.out _ _ (fun _=>bi) ?_;clear hK K;refine rd1 8 (by kernel_rfl) rfl (fun K hK=> ?_);go_simp;refine hK.out _ _ (fun _=>bi) ?_;clear hK K;refine rd1 9 (by kernel_rfl) rfl (fun K hK=> ?_);go_simp;refine hK.out _ _ (fun _=>bi) ?_;clear hK K;refine ja2 (by kernel_rfl) ?_ _;go_wp2;go_ret;exact ⟨rfl,bi⟩
 ·have hk0:0≤k:=by
   rw [←hk];unfold sgn;have:¬x.num < 0:=fun h=>h0 (jgN.1 h)
   rw [if_neg this];split <;> omega
  have q1:decide (0≤k)=true:=by simpa using hk0
  have q2:decide (j < 0)=b:=by
   rw [←hb,decide_eq_decide,←hj];exact ⟨fun e=>⟨Rat.not_lt.1 h0,Rq.cmp_neg.1 e⟩,fun e=>Rq.cmp_neg.2 e.2⟩
  clear h hs hp hb hk hj h0 hk0;go_enter func81,ntmps81;go_upto_region 1 with (fail)
  refine ja1 (fun w'=>Below (w.alloc (.cells #[.int .i64 s, .slice A n c, .int .i64 t, .slice B m d] 86)).heap.size (w.alloc (.cells #[.int .i64 s, .slice A n c, .int .i64 t, .slice B m d] 86)) w') [] (by kernel_rfl) ?_;refine tb 0 (fv s A n c t B m d) [1] rfl (by kernel_rfl) pk rfl (by intros;go_simp) bq0 ?_;simp only [ppq];refine rd1 1 (by kernel_rfl) rfl (fun K hK=> ?_);go_simp;go_wp2_with (go_at_call 116;(with_reducible refine mo0 (jg2 HK.o (HA.o.below bi)) fun w3 hb3 hc3 hf3 _=> ?_))
  have sS3:=qh (bst bq0 hb3);refine hK.out _ _ (fun _=>sS3.o) ?_;clear hK K;refine rd1 2 (by kernel_rfl) rfl (fun K hK=> ?_);go_simp;refine hK.out _ _ (fun _=>bi) ?_;clear hK K;refine rd1 3 (by kernel_rfl) rfl (fun K hK=> ?_);go_simp;refine hK.out _ _ (fun _=>bi) ?_;clear hK K;have hy3:w.heap.size < w3.heap.size:=by have:=hb3.size;simp at this;omega
  refine tb 4 (fv s A n c t B m d) [6] rfl (by kernel_rfl) pk rfl (by intros;go_simp) sS3.o ?_;simp only [ppq];refine rd1 5 (by kernel_rfl) rfl (fun K hK=> ?_);go_simp;go_wp2_with (go_at_call 46;(with_reducible refine mf0 (jes HF.o HR.o) fun w4 s4 A4 n4 c4 t4 B4 m4 d4 hr4 hq4 hb4 hc4 hf4 _=> ?_))
  have sS4:=qh (bst sS3.o hb4);refine hK.out _ _ (fun _=>sS4.o) ?_;clear hK K;refine rd1 6 (by kernel_rfl) rfl (fun K hK=> ?_);go_simp;go_wp2_with (go_at_call 35;(with_reducible refine mo0 (jd7 p 1 HJ.o (HA.o.below bi) ⟨hr4,hq4⟩ HS.o H2.o HP.o) fun w5 hb5 hc5 hf5 _=> ?_))
  have sS5:=qh (bst sS4.o hb5);refine hK.out _ _ (fun _=>sS5.o) ?_;clear hK K;refine rd1 7 (by kernel_rfl) rfl (fun K hK=> ?_);go_simp;refine hK.out _ _ (fun _=>bi) ?_;clear hK K;refine rd1 8 (by kernel_rfl) rfl (fun K hK=> ?_);go_simp;refine hK.out _ _ (fun _=>bi) ?_;clear hK K;refine rd1 9 (by kernel_rfl) rfl (fun K hK=> ?_);go_simp;refine hK.out _ _ (fun _=>bi) ?_;clear hK K;refine ja2 (by kernel_rfl) ?_ _;cases b <;>
  ·go_wp2;go_ret;exact ⟨rfl,bi⟩
end
section
variable {w:World} {l a b:List UInt8} {mass:Int}
end

theorem Rep.none {w:World} {s z:Int} {A:Option Addr} {n c:Nat} (h:Rep w s A n c z) (h0: -9223372036854775808 < z) (h1:z < 9223372036854775808):s=z∧A= .none∧n=0∧c=0:=by
 cases h with
 | small _ _ _=>exact ⟨rfl,rfl,rfl,rfl⟩
 | plus _ _ _ ds h=>have:=h.big;omega
 | minus _ _ _ ds h=>have:=h.big;omega
structure Ceil (mass N:Int) (x y:Rat):Prop where
 eq: -((-((mass:Rat)*(100 - x) / (100 - y))).floor)=N
 m1:1≤mass
 m2:mass≤999999999
 hx:x < 100
 hyx:y≤x
theorem Ceil.le {mass N:Int} {x y:Rat} (h:Ceil mass N x y):1≤N∧N≤mass:=by
 obtain ⟨rfl,h1,h2,h3,h4⟩:=h;have hx:0 < 100 - x:=by grind
 have hy:0 < 100 - y:=by grind
 obtain ⟨Q,hQ⟩:∃Q,(mass:Rat)*(100 - x) / (100 - y)=Q:=⟨_,rfl⟩;have hm:(1:Rat)≤(mass:Rat):=by exact_mod_cast h1
 have e:Q*(100 - y)=(mass:Rat)*(100 - x):=by rw [←hQ];grind
 have hpos:0 < (mass:Rat)*(100 - x):=Rat.mul_pos (by grind) hx
 have hQ0:0 < Q:=by
  refine Rat.not_le.1 fun hq=> ?_
  have:=Rat.mul_le_mul_of_nonneg_right hq (Rat.le_of_lt hy);rw [e] at this
  grind
 have hQm:Q≤(mass:Rat):=by
  refine Rat.not_lt.1 fun hq=> ?_
  have h5:=Rat.mul_lt_mul_of_pos_right hq hy;have h6:(mass:Rat)*(100 - x)≤(mass:Rat)*(100 - y):=Rat.mul_le_mul_of_nonneg_left (by grind) (by grind);rw [e] at h5
  grind
 rw [hQ];constructor
 ·have h7:(-Q).floor < 0:=by
   rw [←Int.not_le,Rat.le_floor_iff];intro h8;have:((0:Int):Rat)=0:=rfl;rw [this] at h8
   grind
  omega
 ·have h7: -mass≤(-Q).floor:=by
   rw [Rat.le_floor_iff,Rat.intCast_neg]
   grind
  omega
section
variable {s t u v:Int} {A B C D:Option Addr} {n c m d i k j l:Nat} {w:World} {x y:Rat} {p q:Nat}
end


section
variable {w:World} {a b:List UInt8} {mass:Int} {x y:Rat}
end

theorem jc9:Dz 3 (100:Rat):=⟨by decide+kernel,by decide+kernel⟩
section
variable {w:World} {l a b:List UInt8} {mass:Int}
theorem joo {x:Rat} {k:Nat} {b:Bool} (hb:decide (0≤x∧x < 100)=b) (hx:Dz k x) (hk:0 < k) (hk2:k≤9000):Calls prog 91 #[bs (tq x)] w fun e w'=>e= .returned (.bool b)∧Below w.heap.size w w':=by
 obtain ⟨s,hs⟩:∃s,sgn x.num=s:=⟨_,rfl⟩;obtain ⟨j,hj⟩:∃j,Rq.cmpQ x 100=j:=⟨_,rfl⟩;have HS:=qh (fun W=>jqN (w:=W) hs hx hk (by omega));have HJ:=qh (fun W=>jko (w:=W) hj hx jc9 hk (by omega) hk2 (by omega));rw [show tq (100:Rat)=[49,48,48] by decide+kernel] at HJ;obtain ⟨X,hX⟩:∃X,tq x=X:=⟨_,rfl⟩;rw [hX] at HS HJ ⊢;by_cases h0:x < 0
 ·obtain rfl:false=b:=by rw [←hb,eq_comm,decide_eq_false_iff_not];exact fun e=>Rat.not_lt.2 e.1 h0
  obtain rfl: -1=s:=by rw [←hs];unfold sgn;rw [if_pos (jgN.2 h0)]
  clear hb hx hk hk2 hs hj hX h0;go_enter func91,ntmps91;go_wp2_with (go_at_call 99;(with_reducible refine mo0 (HS.o _) fun w1 hb1 hc1 hf1 _=> ?_))
  go_ret;exact ⟨rfl,bi⟩
 ·have hk0:0≤s:=by
   rw [←hs];unfold sgn;have:¬x.num < 0:=fun h=>h0 (jgN.1 h)
   rw [if_neg this];split <;> omega
  have q1:decide (0≤s)=true:=by simpa using hk0
  have q2:decide (j < 0)=b:=by
   rw [←hb,decide_eq_decide,←hj];exact ⟨fun e=>⟨Rat.not_lt.1 h0,Rq.cmp_neg.1 e⟩,fun e=>Rq.cmp_neg.2 e.2⟩
  clear hb hx hk hk2 hs hj hX h0 hk0;cases b <;>
  ·go_enter func91,ntmps91;go_wp2_with (first|(go_at_call 99;(with_reducible refine mo0 (HS.o _) fun w1 hb1 hc1 hf1 _=> ?_))|(go_at_call 41;(with_reducible refine mo0 (HJ.o _) fun w2 hb2 hc2 hf2 _=> ?_)))
   go_ret;exact ⟨rfl,bi⟩
end

section
variable {w:World} {l a b:List UInt8} {mass:Int}
variable {x y z:Rat} {k j:Nat}
end

section
variable {w:World} {a b x want:List UInt8} {mass:Int}
theorem jgi {k:Int} (h1:k≠0→x=[]) (h2:k=0→x=want):Calls prog 9 #[bs x, .int .i64 k, .int .i64 k,bs want] w fun e w'=>e= .returned (.bool true)∧Below w.heap.size w w':=by
 by_cases h0:k=0
 ·obtain rfl:=h2 h0;subst h0;clear h1 h2;go_enter func9,ntmps9;go_wp2;go_ret;exact ⟨rfl,bi⟩
 ·obtain rfl:=h1 h0;have q1:(k != 0)=true:=by rw [bne_iff_ne];exact h0
  have q2:(k==0)=false:=by rw [beq_eq_false_iff_ne];exact h0
  clear h1 h2 h0;go_enter func9,ntmps9;go_wp2;go_ret;exact ⟨rfl,bi⟩
variable {A B:Option Addr} {n c d:Nat} {ls:List (List UInt8)}
theorem jgr {r:Bool} (h:Sv w A n ls) (hn:n < 9223372036854775808) (hr:(ls.all fun l=>decide (l.length≤30))=r):Calls prog 5 #[.slice A n c] w fun e w'=>e= .returned (.bool r)∧Below w.heap.size w w':=by
 have H:=qh h;have HN:=qh hn;have HR:=qh hr;clear h hn hr;go_enter func5,ntmps5;go_wp2
 go_loopw [7] (fun u wr=>∃(i:Nat),u= .int .i64 (i:Int)∧i≤n∧Below w.heap.size w wr∧((ls.drop i).all fun l=>decide (l.length≤30))=r) (fun u _=>n - (intOf u).toNat)
 case atStart=>exact ⟨0,rfl,Nat.zero_le _,bi,HR.o⟩
 case round=>
  obtain ⟨i,rfl,hin,hb,hc⟩:=hrel;have _:=bm hb;have hnn:=HN.o;by_cases hi:i < n
  ·have q0:decide ((i:Int) < (n:Int))=true:=by simp;exact hi
   have q9:decide (i < n)=true:=by simpa using hi
   obtain ⟨b,o,rfl,hbl,hcell⟩:=(H.o.below hb).at_ (by omega);have hx:=hcell i hi;have hil:i < ls.length:=by rw [H.o.len];exact hi
   rw [jd5 (d:=[]) hil,List.all_cons] at hc;have hmem:ls.getD i []∈ls:=by rw [List.getD_eq_getElem?_getD,List.getElem?_eq_getElem hil];exact List.getElem_mem hil
   obtain ⟨x,hxx⟩:∃x,ls.getD i []=x:=⟨_,rfl⟩;rw [hxx] at hx hc;have HI:=qh hi;clear hcell hmem hil hxx;by_cases h0:x.length≤30
   ·have q1:decide ((30:Int) < (x.length:Int))=false:=by rw [decide_eq_false_iff_not];omega
    rw [decide_eq_true h0,Bool.true_and] at hc;have HC:=qh hc;clear hc h0;go_wp2;exact ⟨⟨i+1,by simp,HI.o,bi,HC.o⟩,by have:=HI.o;simp [intOf];omega⟩
   ·have q1:decide ((30:Int) < (x.length:Int))=true:=by rw [decide_eq_true_iff];omega
    rw [decide_eq_false h0,Bool.false_and] at hc;subst hc;clear h0;go_wp2;go_ret;exact ⟨rfl,bi⟩
  ·have q0:decide (i < n)=false:=by simp;omega
   rw [List.drop_eq_nil_of_le (by rw [H.o.len];omega)] at hc;obtain rfl:true=r:=hc;clear hi;go_wp2;go_ret;exact ⟨rfl,bi⟩
end
end Go.Proofs.YtcophhhpgmilfaaGreatDoor
