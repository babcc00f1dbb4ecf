/- Parts. -/
import Derived.Test.YtfagcpcikjlboaaGreatDoorDaG
import Derived.Test.YtfagcpcikjlboaaGreatDoorShelf
import Derived.Shelf.SlSortCmp.Insertion
set_option linter.all false
set_option maxRecDepth 100000
set_option maxHeartbeats 8000000
namespace Go.Proofs.YtfagcpcikjlboaaGreatDoor
open Go Go.RowKit Go.Proofs.Tryz

def jl3 (h:Hr):Bool:=jqq h.1 && jqd h.2
def hix:List Hr→Nat→Int
 | [],_=> -1
 | h::r,i=>if jl3 h then hix r (i+1) else (i:Int)
theorem jtW (l:List Hr):∀i:Nat,decide (0≤hix l i)=l.any fun h=> !jl3 h:=by
 induction l with
 | nil=>intro i;rfl
 | cons h r ih=>
   intro i;unfold hix;cases hb:jl3 h with
   | true=>rw [if_pos rfl,ih (i+1)];simp [hb]
   | false=>rw [if_neg (by simp)];simp [hb]
def jkg (hs:List Hr):Int:=if 1000 < hs.length then 5 else if hs.any fun h=> !jl3 h then 3 else 0
section
variable {w:World}
theorem jmD (t u:Int):Calls prog 22 #[.agg #[.int .i64 t, .int .i64 u]] w fun e w'=>e= .returned (.bool (jl3 (t,u)))∧Below w.heap.size w w':=by
 have F1:=fun w=>jeu (w:=w) t
 have F2:=fun w=>jgA (w:=w) u
 rw [show (decide (-600≤t) && decide (t≤1000))=jqq t from rfl] at F1;rw [show (decide (0≤u) && decide (u≤100))=jqd u from rfl] at F2;obtain ⟨b1,h1⟩:∃b,jqq t=b:=⟨_,rfl⟩;obtain ⟨b2,h2⟩:∃b,jqd u=b:=⟨_,rfl⟩;have hb:jl3 (t,u)=(b1 && b2):=by unfold jl3;rw [←h1,←h2]
 rw [hb];rw [h1] at F1;rw [h2] at F2;clear hb h1 h2;go_enter func22,ntmps22;cases b1
 all_goals go_wp2_with (first|(go_at_call 63;(with_reducible refine mo1 w (F1 _) (by go_size) fun w1 hb1 hc1 hf1 z1_0 _=> ?_))|(go_at_call 64;(with_reducible refine mo1 w (F2 _) (by go_size) fun w2 hb2 hc2 hf2 z2_0 _=> ?_)))
 all_goals go_ret
 all_goals exact ⟨by simp,bi⟩
theorem jl2 (t u:Int):Calls prog 117 #[.agg #[.int .i64 t, .int .i64 u]] w fun e w'=>e= .returned (.bool (!jl3 (t,u)))∧Below w.heap.size w w':=by
 go_enter func117,ntmps117;go_wp2_with (go_at_call 22;(with_reducible refine mo1 w (jmD t u) (by go_size) fun w1 hb1 hc1 hf1 z1_0 _=> ?_))
 go_ret;exact ⟨rfl,bi⟩
theorem jdZ {t u:Int} {r:Bool} (hr:(!jl3 (t,u))=r):Calls prog 117 #[.agg #[.int .i64 t, .int .i64 u]] w fun e w'=>e= .returned (.bool r)∧Below w.heap.size w w':=hr ▸ jl2 t u
variable {A:Option Addr} {n c:Nat} {hs:List Hr}
theorem jnj {r:Int} (h:Hv6 w A n hs) (hn:n≤1000) (hr:hix hs 0=r):Calls prog 160 #[.slice A n c, .func (.func 117) #[] #[]] w fun e w'=>e= .returned (.int .i64 r)∧Below w.heap.size w w':=by
 have H:=qh h;have HN:=qh hn;have HR:=qh hr;clear h hn hr;go_enter func160,ntmps160;go_wp2
 go_loopw [8] (fun u wr=>∃(i:Nat),u= .int .i64 (i:Int)∧i≤n∧Below w.heap.size w wr∧hix (hs.drop i) i=r) (fun u _=>n - (intOf u).toNat)
 case atStart=>exact ⟨0,rfl,Nat.zero_le _,bi,HR.o⟩
 case round=>
  obtain ⟨i,rfl,hin,hb,hc⟩:=hrel;have _:=bm hb;have hnn:=HN.o;by_cases hi:i < n
  ·have p0:decide (i < n)=true:=by simpa using hi
   obtain ⟨b,o,rfl,hbl,hat⟩:=(H.o.below hb).at_ (by omega);obtain ⟨k0,k1⟩:=hat i (by rw [H.o.len];exact hi);rw [jrP (by rw [H.o.len];exact hi)] at hc;obtain ⟨⟨t,u⟩,hx⟩:∃x,hs.getD i (0,0)=x:=⟨_,rfl⟩;rw [hx] at k0 k1 hc;dsimp only at k0 k1;clear hat hx;unfold hix at hc;cases hq:jl3 (t,u)
   ·have HQ:Hd ((!jl3 (t,u))=true):=by show _=_;rw [hq];rfl
    rw [hq,if_neg (by simp)] at hc;subst hc;go_wp2_with (go_at_call 117;(with_reducible refine mo0 (jdZ HQ.o) fun w1 hb1 hc1 hf1 _=> ?_))
    go_ret;exact ⟨rfl,bi⟩
   ·have HQ:Hd ((!jl3 (t,u))=false):=by show _=_;rw [hq];rfl
    rw [hq,if_pos rfl] at hc;go_wp2_with (go_at_call 117;(with_reducible refine mo0 (jdZ HQ.o) fun w1 hb1 hc1 hf1 _=> ?_))
    go_roundw
    case rel=>exact ⟨i+1,by simp,by omega,bi,hc⟩
    case measure=>simp [intOf];omega
  ·have:i=n:=by omega
   subst this;have p0:decide (i < i)=false:=by simp
   rw [List.drop_eq_nil_of_le (by rw [H.o.len];exact Nat.le_refl _)] at hc;have hR:r= -1:=hc.symm;subst hR;go_wp2;go_ret;exact ⟨rfl,bi⟩
theorem jkt (h:Hv6 w A n hs) (hn:n≤1000):Calls prog 116 #[.slice A n c, .func (.func 117) #[] #[]] w fun e w'=>e= .returned (.bool (hs.any fun h=> !jl3 h))∧Below w.heap.size w w':=by
 obtain ⟨z,hz⟩:∃z,hix hs 0=z:=⟨_,rfl⟩;have hq:=jtW hs 0;rw [hz] at hq;rw [←hq];have H:=qh h;have HN:=qh hn;have HZ:=qh hz;clear h hn hz hq;go_enter func116,ntmps116;go_wp2_with (go_at_call 160;(with_reducible refine mo0 (jnj H.o HN.o HZ.o) fun w1 hb1 hc1 hf1 _=> ?_))
 go_ret;exact ⟨rfl,bi⟩
theorem jp8 {r:Int} (h:Hv6 w A n hs) (hn:n≤100000) (hr:jkg hs=r):Calls prog 66 #[.slice A n c] w fun e w'=>e= .returned (.int .i64 r)∧Below w.heap.size w w':=by
 have H:=qh h;unfold jkg at hr;rw [h.len] at hr;by_cases hb:1000 < n
 ·rw [if_pos hb] at hr;subst hr;have p0:decide (1000 < n)=true:=by simpa using hb
  clear h;go_enter func66,ntmps66;go_wp2;go_ret;exact ⟨rfl,bi⟩
 ·rw [if_neg hb] at hr;have p0:decide (1000 < n)=false:=by simpa using hb
  have HN:=qh (show n≤1000 by omega);have HR:=qh hr;clear h hr;go_enter func66,ntmps66;go_wp2_with (first|(go_at_call 116;(with_reducible refine mo0 (jkt H.o HN.o) fun w1 hb1 hc1 hf1 _=> ?_))|(go_at_call 21;(with_reducible refine mo0 (jap HR.o) fun w2 hb2 hc2 hf2 _=> ?_)))
  go_ret;exact ⟨rfl,bi⟩
end

section
variable {W:World} {p b o c:Nat} {hs:List Hr}
end

section
variable {W:World} {p p1 q:Nat} {v:Int} {i j:Int}
end

section
variable {W:World} {blk off p q p1 b o c m cap:Nat} {hs:List Hr}
end
section
variable {W:World} {blk off m cap:Nat} {caps:Array Value} {cf:Fin (m+1)→Fin (m+1)→Int}
end

section
variable {W:World} {blk off q p1 b o c m cap:Nat} {hs:List Hr}
end
section
variable {W:World} {blk off q m cap:Nat} {cf:Fin (m+1)→Fin (m+1)→Int}
end
end Go.Proofs.YtfagcpcikjlboaaGreatDoor
