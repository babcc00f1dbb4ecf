/- Parts. -/
import Derived.Test.YtfoolepjkhgckaaGreatDoorKpG
set_option linter.all false
set_option maxRecDepth 100000
set_option maxHeartbeats 8000000
namespace Go.Proofs.YtfoolepjkhgckaaGreatDoor
open Go Go.RowKit

section
variable {w:World} {x:Rat} {k:Nat}
end

theorem IsNum.dzl {l:List UInt8} {x:Rat} {k:Nat} (h:IsNum l x) (hl:l.length≤k) (hk:0 < k):Dz k x:=by
 have h1:=jer x
 have h2:(uq x).length≤l.length:=by
  rw [h.1,jdo];split
  ·simp
  ·exact Nat.le_refl _
 refine Dz.of (by omega) ?_
 by_cases e:x.den=1
 ·rw [e,jnx];exact hk
 ·rw [if_neg e] at h1;omega
section
variable {w:World} {a b:List UInt8} {x y:Rat} {k m:Nat}
def fnz (l:List Int):Int:=match l with | []=>0|x::r=>if x=0 then fnz r else x
theorem jk7 {l:List Int}:∀{i:Nat},(∀j,j < i→l.getD j 0=0)→i≤l.length→fnz l=fnz (l.drop i):=by
 induction l with
 | nil=>intro i _ hi;simp at hi;subst hi;rfl
 | cons x r ih=>
   intro i h hi
   cases i with
   | zero=>rfl
   | succ i=>
     have h0:x=0:=by have:=h 0 (by omega);simpa using this
     rw [List.drop_succ_cons,←ih (fun j hj=>by have:=h (j+1) (by omega);simpa using this) (by simpa using hi),h0]
     simp [fnz]
theorem jon {g n c:Nat} {ls:List Int} (hn:n≤1000) (hls:ls.length=n) (hg:∀j,j < n→w.cell? ⟨g,j,none⟩=some (.int .i64 (ls.getD j 0))):Calls Tryz.prog 11 #[.slice (some ⟨g,0,none⟩) n c] w fun e w'=>e= .returned (.int .i64 (fnz ls))∧Below w.heap.size w w':=by
 have HG:=qh hg
 have HLS:=qh hls
 obtain ⟨F,hF⟩:∃F,fnz ls=F:=⟨_,rfl⟩
 rw [hF]
 have HF:=qh hF
 clear hg hls hF
 go_enter Tryz.func11,Tryz.ntmps11
 go_wp2
 go_loopw [3] (fun u wr=>∃(i:Nat),u= .int .i64 (i:Int)∧i≤n∧Below w.heap.size w wr∧Hid (∀j,j < i→ls.getD j 0=0)) (fun u _=>n - (intOf u).toNat)
 case atStart=>exact ⟨0,rfl,by omega,Below.refl _ _,qh (fun j hj=>by omega)⟩
 case round=>
  obtain ⟨i,rfl,hi,hb,HI⟩:=hrel
  have _:=bm hb
  rcases Nat.eq_or_lt_of_le hi with e|hl
  ·have q0:decide (i < n)=false:=by rw [decide_eq_false_iff_not];omega
   have e1:F=0:=by
    rw [←HF.out,jk7 HI.out (by rw [HLS.out];omega),List.drop_of_length_le (by rw [HLS.out];omega)];rfl
   subst e1
   go_wp2
   go_ret
   exact ⟨rfl,bi⟩
  ·have q0:decide (i < n)=true:=by rw [decide_eq_true_iff];exact hl
   have hci:=ja6 hb (HG.out i hl)
   obtain ⟨t,ht⟩:∃t,ls.getD i 0=t:=⟨_,rfl⟩
   rw [ht] at hci
   by_cases h0:t=0
   ·subst h0
    go_wp2
    exact ⟨⟨i+1,by simp,by omega,bi,qh (fun j hj=>by
     rcases Nat.lt_or_ge j i with h|h
     ·exact HI.out j h
     ·rw [show j=i by omega];exact ht)⟩,by simp [intOf];omega⟩
   ·have q1:(t != 0)=true:=by rw [bne_iff_ne];exact h0
    have e1:F=t:=by
     have hi2:i < ls.length:=by rw [HLS.out];exact hl
     rw [←HF.out,jk7 HI.out (by omega),List.drop_eq_getElem_cons hi2]
     have:ls[i]=t:=by rw [←ht];simp [hi2]
     simp [fnz,this,h0]
    subst e1
    clear h0 ht
    go_wp2
    go_ret
    exact ⟨rfl,bi⟩
end
theorem jcr (W:World) (T:TypeId) (c:Nat) (x y g:Int) (hg:fnz [x,y]=g):Calls Tryz.prog 11 #[.slice (some ⟨W.heap.size,0,none⟩) 2 c] (W.alloc (.cells #[.int .i64 x, .int .i64 y] T)) fun e w'=>e= .returned (.int .i64 g)∧Below (W.alloc (.cells #[.int .i64 x, .int .i64 y] T)).heap.size (W.alloc (.cells #[.int .i64 x, .int .i64 y] T)) w':=
 hg ▸ jon (n:=2) (ls:=[x,y]) (by omega) rfl (fun j hj=>by
  rcases (show j=0∨j=1 by omega) with rfl|rfl <;> simp [go_sem])
end Go.Proofs.YtfoolepjkhgckaaGreatDoor
