/- Parts. -/
import Derived.Test.YtpkcjfpgemdfdaaGreatDoorDaG
import Derived.Test.YtpkcjfpgemdfdaaGreatDoorKpG
set_option linter.all false
set_option maxRecDepth 100000
set_option maxHeartbeats 8000000
namespace Go.Proofs.YtpkcjfpgemdfdaaGreatDoor
open Go Go.RowKit Go.Proofs.Tryz

theorem Sv.one (w:World) (t:TypeId) (k:List UInt8):Sv (w.alloc (.cells #[bs k] t)) (some ⟨w.heap.size,0,none⟩) 1 [k]:=
 ⟨rfl,fun _=>⟨w.heap.size,0,rfl,by simp,fun j hj=>by
   obtain rfl:j=0:=by omega
   simp⟩⟩
section
variable {w:World} {A:Option Addr} {n c:Nat} {ls:List (List UInt8)}
theorem jmp {R:Int} (hE:Env w) (h:Sv w A n ls) (hn:n≤100000) (hl:∀l∈ls,l.length < 4294967281) (hR:jar chk ls=R):
  Calls prog 37 #[.slice A n c] w fun e w'=>e= .returned (.int .i64 R)∧Below w.heap.size w w':=by
 have HR:=qh hR;have H:=qh h;have HN:=qh hn;have HF:=qh (fun l (h:l∈ls) W (hb:Below w.heap.size w W)=>jln rfl (hE.below hb) (hl l h));clear hR h hn hE hl;go_enter func37,ntmps37;go_wp2
 go_loopw [8] (fun u wr=>∃(i:Nat),u= .int .i64 (i:Int)∧Below w.heap.size w wr∧i≤n∧jar chk (ls.drop i)=R) (fun u _=>n - (intOf u).toNat)
 case atStart=>exact ⟨0,rfl,bi,by omega,HR.o⟩
 case round=>
  obtain ⟨i,rfl,hb,hin,hc⟩:=hrel;have _:=bm hb;by_cases hi:i < n
  ·have q0:decide ((i:Int) < (n:Int))=true:=by simp;exact hi
   obtain ⟨b,o,rfl,hbl,hcell⟩:=(H.o.below hb).at_ (by omega);have hx:=hcell i hi;have hil:i < ls.length:=by rw [H.o.len];exact hi
   rw [jd5 (d:=[]) hil] at hc;have hmem:ls.getD i []∈ls:=by rw [List.getD_eq_getElem?_getD,List.getElem?_eq_getElem hil];exact List.getElem_mem hil
   obtain ⟨x,hxx⟩:∃x,ls.getD i []=x:=⟨_,rfl⟩;rw [hxx] at hx hc hmem;have HX:=qh (HF.o x hmem wr hb);have hnn:=HN.o;have HI:=qh hi;clear hcell hmem hil hxx;by_cases h0:chk x=0
   ·have HC:Hd (jar chk (ls.drop (i+1))=R):=qh (by rw [←hc,jf3 h0]);rw [h0] at HX;clear hc h0 hi;go_wp2_with (go_at_call 96;(with_reducible refine mo0 (HX.o) fun w1 hb1 hc1 hf1 _=> ?_))
    exact ⟨⟨i+1,by simp,bi,HI.o,HC.o⟩,by have:=HI.o;simp [intOf];omega⟩
   ·have hR:R=chk x:=by rw [←hc,jed h0]
    subst hR;obtain ⟨y,hy⟩:∃y,chk x=y:=⟨_,rfl⟩;rw [hy] at HX;have q1:(y != 0)=true:=by rw [bne_iff_ne,←hy];exact h0
    have HY:=qh hy;clear hc h0 hi hy HR;go_wp2_with (go_at_call 96;(with_reducible refine mo0 (HX.o) fun w1 hb1 hc1 hf1 _=> ?_))
    go_ret;exact ⟨by rw [HY.o];rfl,bi⟩
  ·have q0:decide (i < n)=false:=by simp;omega
   rw [List.drop_eq_nil_of_le (by rw [H.o.len];omega)] at hc;have hR:R=0:=by rw [←hc];rfl
   subst hR;clear hc hi HR;go_wp2;go_ret;exact ⟨rfl,bi⟩
end
section
variable {s t:Int} {A B:Option Addr} {n c m d:Nat} {w:World} {x:Rat}
theorem jpA {tx:List UInt8} {ex:Int} (ht:jcF x=tx) (he:jbq x=ex) (h:RepF w s A n c t B m d x) (hE:Env w) (hS:StrQ x):Calls prog 48 #[fv s A n c t B m d] w fun e w'=>e= .returned (.tuple #[bs tx, .int .i64 ex])∧Below w.heap.size w w':=by
 subst ht he;have HR:=qh h;have HE:=qh hE;have HS:=qh hS;obtain ⟨g,hg⟩:∃g,je3 x=g:=⟨_,rfl⟩;have HG:=qh hg;cases g
 ·have HD:=qh (DigQ.of hg);have e1:jcF x=tq x:=by unfold jcF;rw [hg];rfl
  have e2:jbq x=0:=by unfold jbq;rw [hg];rfl
  rw [e1,e2];clear h hE hS hg e1 e2;go_enter func48,ntmps48
  go_wp2_with (first
   | (go_at_call 67;(with_reducible refine mo1 w (jbf HG.o (HR.o.below bi) (HE.o.below bi) HS.o) (by go_size) fun w1 hb1 hc1 hf1 z1_0 _=> ?_))
   | (go_at_call 68;(with_reducible refine mo1 w (jgy (HR.o.below bi) (HE.o.below bi) HS.o HD.o) (by go_size) fun w2 hb2 hc2 hf2 z2_0 _=> ?_)))
  go_ret2;exact ⟨rfl,bi⟩
 ·have e1:jcF x=[]:=by unfold jcF;rw [hg];rfl
  have e2:jbq x=4:=by unfold jbq;rw [hg];rfl
  rw [e1,e2];clear h hE hS hg e1 e2;go_enter func48,ntmps48;go_wp2_with (go_at_call 67;(with_reducible refine mo1 w (jbf HG.o (HR.o.below bi) (HE.o.below bi) HS.o) (by go_size) fun w1 hb1 hc1 hf1 z1_0 _=> ?_))
  go_ret2;exact ⟨rfl,bi⟩
end
section
variable {w:World} {l a b:List UInt8} {mass:Int}
end

theorem Rep.none {w:World} {s z:Int} {A:Option Addr} {n c:Nat} (h:Rep w s A n c z) (h0: -9223372036854775808 < z) (h1:z < 9223372036854775808):s=z∧A= .none∧n=0∧c=0:=by
 cases h with
 | small _ _ _=>exact ⟨rfl,rfl,rfl,rfl⟩
 | plus _ _ _ ds h=>have:=h.big;omega
 | minus _ _ _ ds h=>have:=h.big;omega
structure Ceil (mass N:Int) (x y:Rat):Prop where
 eq: -((-((mass:Rat)*(100 - x) / (100 - y))).floor)=N
 m1:1≤mass
 m2:mass≤999999999
 hx:x < 100
 hyx:y≤x
theorem Ceil.le {mass N:Int} {x y:Rat} (h:Ceil mass N x y):1≤N∧N≤mass:=by
 obtain ⟨rfl,h1,h2,h3,h4⟩:=h;have hx:0 < 100 - x:=by grind
 have hy:0 < 100 - y:=by grind
 obtain ⟨Q,hQ⟩:∃Q,(mass:Rat)*(100 - x) / (100 - y)=Q:=⟨_,rfl⟩;have hm:(1:Rat)≤(mass:Rat):=by exact_mod_cast h1
 have e:Q*(100 - y)=(mass:Rat)*(100 - x):=by rw [←hQ];grind
 have hpos:0 < (mass:Rat)*(100 - x):=Rat.mul_pos (by grind) hx
 have hQ0:0 < Q:=by
  refine Rat.not_le.1 fun hq=> ?_
  have:=Rat.mul_le_mul_of_nonneg_right hq (Rat.le_of_lt hy);rw [e] at this
  grind
 have hQm:Q≤(mass:Rat):=by
  refine Rat.not_lt.1 fun hq=> ?_
  have h5:=Rat.mul_lt_mul_of_pos_right hq hy;have h6:(mass:Rat)*(100 - x)≤(mass:Rat)*(100 - y):=Rat.mul_le_mul_of_nonneg_left (by grind) (by grind);rw [e] at h5
  grind
 rw [hQ];constructor
 ·have h7:(-Q).floor < 0:=by
   rw [←Int.not_le,Rat.le_floor_iff];intro h8;have:((0:Int):Rat)=0:=rfl;rw [this] at h8
   grind
  omega
 ·have h7: -mass≤(-Q).floor:=by
   rw [Rat.le_floor_iff,Rat.intCast_neg]
   grind
  omega
section
variable {s t u v:Int} {A B C D:Option Addr} {n c m d i k j l:Nat} {w:World} {x y:Rat} {p q:Nat}
end


section
variable {w:World} {a b:List UInt8} {mass:Int} {x y:Rat}
end

section
variable {w:World} {l a b:List UInt8} {mass:Int}
end

section
variable {w:World} {l a b:List UInt8} {mass:Int}
variable {x y z:Rat} {k j:Nat}
end

section
variable {w:World} {a b x want:List UInt8} {mass:Int}
variable {A B:Option Addr} {n c d:Nat} {ls:List (List UInt8)}
theorem jgr {r:Bool} (h:Sv w A n ls) (hn:n < 9223372036854775808) (hr:(ls.all fun l=>decide (l.length≤30))=r):Calls prog 5 #[.slice A n c] w fun e w'=>e= .returned (.bool r)∧Below w.heap.size w w':=by
 have H:=qh h;have HN:=qh hn;have HR:=qh hr;clear h hn hr;go_enter func5,ntmps5;go_wp2
 go_loopw [7] (fun u wr=>∃(i:Nat),u= .int .i64 (i:Int)∧i≤n∧Below w.heap.size w wr∧((ls.drop i).all fun l=>decide (l.length≤30))=r) (fun u _=>n - (intOf u).toNat)
 case atStart=>exact ⟨0,rfl,Nat.zero_le _,bi,HR.o⟩
 case round=>
  obtain ⟨i,rfl,hin,hb,hc⟩:=hrel;have _:=bm hb;have hnn:=HN.o;by_cases hi:i < n
  ·have q0:decide ((i:Int) < (n:Int))=true:=by simp;exact hi
   have q9:decide (i < n)=true:=by simpa using hi
   obtain ⟨b,o,rfl,hbl,hcell⟩:=(H.o.below hb).at_ (by omega);have hx:=hcell i hi;have hil:i < ls.length:=by rw [H.o.len];exact hi
   rw [jd5 (d:=[]) hil,List.all_cons] at hc;have hmem:ls.getD i []∈ls:=by rw [List.getD_eq_getElem?_getD,List.getElem?_eq_getElem hil];exact List.getElem_mem hil
   obtain ⟨x,hxx⟩:∃x,ls.getD i []=x:=⟨_,rfl⟩;rw [hxx] at hx hc;have HI:=qh hi;clear hcell hmem hil hxx;by_cases h0:x.length≤30
   ·have q1:decide ((30:Int) < (x.length:Int))=false:=by rw [decide_eq_false_iff_not];omega
    rw [decide_eq_true h0,Bool.true_and] at hc;have HC:=qh hc;clear hc h0;go_wp2;exact ⟨⟨i+1,by simp,HI.o,bi,HC.o⟩,by have:=HI.o;simp [intOf];omega⟩
   ·have q1:decide ((30:Int) < (x.length:Int))=true:=by rw [decide_eq_true_iff];omega
    rw [decide_eq_false h0,Bool.false_and] at hc;subst hc;clear h0;go_wp2;go_ret;exact ⟨rfl,bi⟩
  ·have q0:decide (i < n)=false:=by simp;omega
   rw [List.drop_eq_nil_of_le (by rw [H.o.len];omega)] at hc;obtain rfl:true=r:=hc;clear hi;go_wp2;go_ret;exact ⟨rfl,bi⟩
end
end Go.Proofs.YtpkcjfpgemdfdaaGreatDoor
