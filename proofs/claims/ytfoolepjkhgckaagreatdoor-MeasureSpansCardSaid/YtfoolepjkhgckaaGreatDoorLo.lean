/- Parts. -/
import Derived.Test.YtfoolepjkhgckaaGreatDoorLfG
set_option linter.all false
set_option maxRecDepth 100000
set_option maxHeartbeats 8000000
namespace Go.Proofs.YtfoolepjkhgckaaGreatDoor
open Go Go.RowKit

section
variable {w:World} {a b:List UInt8} {x y:Rat} {k m:Nat}
theorem jbp {g:Int} (la:a.length≤9000) (lb:b.length≤9000) (hg:jab (a,b)=g):Calls Tryz.prog 29 #[sp a b] w fun e w'=>e= .returned (.int .i64 g)∧Below w.heap.size w w':=by
 unfold jab at hg
 by_cases h1:chk a=0
 ·have HC1:=qh (fun W=>jaH (w:=W) h1 (by omega))
  by_cases h2:chk b=0
  ·have HC2:=qh (fun W=>jaH (w:=W) h2 (by omega))
   have hx:=jaB h1
   have hy:=jaB h2
   have e:ja7 chk [a,b]=0:=by simp [ja7,h1,h2]
   rw [if_neg (by simpa using e)] at hg
   obtain ⟨z,hz⟩:∃z,Rq.cmpQ (numQ a) (numQ b)=z:=⟨_,rfl⟩
   have HP:=qh (fun W=>jcq (w:=W) hz (hx.dzl la (by omega)) (hy.dzl lb (by omega)) (by omega) (by omega) (by omega) (by omega))
   rw [←hx.eq,←hy.eq] at HP
   by_cases h:0 < z
   ·have q1:decide (0 < z)=true:=by rw [decide_eq_true_iff];exact h
    have e2:numQ b < numQ a:=Rq.cmp_pos.1 (by rw [hz];exact h)
    rw [if_pos e2] at hg
    subst hg
    clear hx hy e hz h e2 h1 h2 la lb
    go_enter Tryz.func29,Tryz.ntmps29
    go_wp2_with (first|(go_at_call 27;(with_reducible show Calls _ _ #[bs a] _ _);(with_reducible refine mo1 w (HC1.out _) (by go_size) fun w1 hb1 hc1 hf1 z1_0 _=> ?_))|(go_at_call 27;(with_reducible show Calls _ _ #[bs b] _ _);(with_reducible refine mo1 w (HC2.out _) (by go_size) fun w2 hb2 hc2 hf2 z2_0 _=> ?_))|(go_at_call 22;(with_reducible refine mo1 w (HP.out _) (by go_size) fun w3 hb3 hc3 hf3 z3_0 _=> ?_)))
    go_ret
    exact ⟨rfl,bi⟩
   ·have q1:decide (0 < z)=false:=by rw [decide_eq_false_iff_not];exact h
    have e2:¬numQ b < numQ a:=fun e=>h (by rw [←hz];exact Rq.cmp_pos.2 e)
    rw [if_neg e2] at hg
    subst hg
    clear hx hy e hz h e2 h1 h2 la lb
    go_enter Tryz.func29,Tryz.ntmps29
    go_wp2_with (first|(go_at_call 27;(with_reducible show Calls _ _ #[bs a] _ _);(with_reducible refine mo1 w (HC1.out _) (by go_size) fun w1 hb1 hc1 hf1 z1_0 _=> ?_))|(go_at_call 27;(with_reducible show Calls _ _ #[bs b] _ _);(with_reducible refine mo1 w (HC2.out _) (by go_size) fun w2 hb2 hc2 hf2 z2_0 _=> ?_))|(go_at_call 22;(with_reducible refine mo1 w (HP.out _) (by go_size) fun w3 hb3 hc3 hf3 z3_0 _=> ?_)))
    go_ret
    exact ⟨rfl,bi⟩
  ·obtain ⟨z,hz⟩:∃z,chk b=z:=⟨_,rfl⟩
   have HC2:=qh (fun W=>jaH (w:=W) hz (by omega))
   have e:ja7 chk [a,b]=z:=by rw [hz] at h2;simp [ja7,h1,hz,h2]
   rw [hz] at h2
   rw [e,if_pos h2] at hg
   subst hg
   have q1:(z==0)=false:=by rw [beq_eq_false_iff_ne];exact h2
   clear hz e h1 h2 la lb
   go_enter Tryz.func29,Tryz.ntmps29
   go_wp2_with (first|(go_at_call 27;(with_reducible show Calls _ _ #[bs a] _ _);(with_reducible refine mo1 w (HC1.out _) (by go_size) fun w1 hb1 hc1 hf1 z1_0 _=> ?_))|(go_at_call 27;(with_reducible show Calls _ _ #[bs b] _ _);(with_reducible refine mo1 w (HC2.out _) (by go_size) fun w2 hb2 hc2 hf2 z2_0 _=> ?_)))
   go_ret
   exact ⟨rfl,bi⟩
 ·obtain ⟨z,hz⟩:∃z,chk a=z:=⟨_,rfl⟩
  have HC1:=qh (fun W=>jaH (w:=W) hz (by omega))
  have e:ja7 chk [a,b]=z:=by rw [hz] at h1;simp [ja7,hz,h1]
  rw [hz] at h1
  rw [e,if_pos h1] at hg
  subst hg
  have q1:(z==0)=false:=by rw [beq_eq_false_iff_ne];exact h1
  clear hz e h1 la lb
  go_enter Tryz.func29,Tryz.ntmps29
  go_wp2_with (go_at_call 27;(with_reducible show Calls _ _ #[bs a] _ _);(with_reducible refine mo1 w (HC1.out _) (by go_size) fun w1 hb1 hc1 hf1 z1_0 _=> ?_))
  go_ret
  exact ⟨rfl,bi⟩
theorem jrT {g n c:Nat} {ls:List (List UInt8)} (hn:n≤1000) (hg:∀j,j < n→w.cell? ⟨g,j,none⟩=some (bs (ls.getD j []))) (hc:∀j,j < n→∃x,ls.getD j []=tq x∧Dz 600 x):Calls Tryz.prog 146 #[.slice (some ⟨g,0,none⟩) n c] w fun e w'=>e= .returned (.int .i64 0)∧Below w.heap.size w w':=by
 have HG:=qh hg
 have HC:=qh hc
 clear hg hc
 go_enter Tryz.func146,Tryz.ntmps146
 go_wp2
 go_loopw [3] (fun u wr=>∃(i:Nat),u= .int .i64 (i:Int)∧i≤n∧Below w.heap.size w wr) (fun u _=>n - (intOf u).toNat)
 case atStart=>exact ⟨0,rfl,by omega,Below.refl _ _⟩
 case round=>
  obtain ⟨i,rfl,hi,hb⟩:=hrel
  have _:=bm hb
  rcases Nat.eq_or_lt_of_le hi with e|hl
  ·have q0:decide (i < n)=false:=by rw [decide_eq_false_iff_not];omega
   go_wp2
   go_ret
   exact ⟨rfl,bi⟩
  ·have q0:decide (i < n)=true:=by rw [decide_eq_true_iff];exact hl
   have hci:=ja6 hb (HG.out i hl)
   obtain ⟨x,ht,hx⟩:=HC.out i hl
   have HK:=qh (fun W=>jke (w:=W) (jat hx (by omega) (by omega)).2.1 hx (by omega) (by omega))
   rw [ht] at hci
   obtain ⟨t,ht⟩:∃t,tq x=t:=⟨_,rfl⟩
   rw [ht] at hci HK
   clear ht hx
   go_wp2_with (go_at_call 65;(with_reducible refine mo0 (HK.out _) fun w1 hb1 hc1 hf1 _=> ?_))
   exact ⟨⟨i+1,by simp,by omega,bi⟩,by simp [intOf];omega⟩
theorem jph (hx:Dz 600 x) (hy:Dz 600 y):Calls Tryz.prog 89 #[sp (tq x) (tq y)] w fun e w'=>e= .returned (.int .i64 0)∧Below w.heap.size w w':=by
 have HR:=qh (fun (W:World) (T:TypeId) (c g:Nat) (hg:g=W.heap.size)=>jrT (w:=W.alloc (.cells #[bs (tq x),bs (tq y)] T)) (g:=g) (n:=2) (c:=c) (ls:=[tq x,tq y]) (by omega)
  (fun j hj=>by
    subst hg
    rcases (show j=0∨j=1 by omega) with rfl|rfl <;> simp [go_sem])
  (fun j hj=>by
    rcases (show j=0∨j=1 by omega) with rfl|rfl
    ·exact ⟨x,rfl,hx⟩
    ·exact ⟨y,rfl,hy⟩))
 obtain ⟨s,hs⟩:∃s,tq x=s:=⟨_,rfl⟩
 obtain ⟨t,ht⟩:∃s,tq y=s:=⟨_,rfl⟩
 rw [hs,ht] at HR ⊢
 clear hx hy hs ht
 go_enter Tryz.func89,Tryz.ntmps89
 go_wp2_with (go_at_call 146;(with_reducible refine mo0 (HR.out _ _ _ _ (by simp)) fun w1 hb1 hc1 hf1 _=> ?_))
 go_ret
 exact ⟨rfl,bi⟩
theorem jhb {g:Int} (hg:g≠0):Calls Tryz.prog 30 #[sp [] [], .int .i64 g, .int .i64 g,sp a b] w fun e w'=>e= .returned (.bool true)∧Below w.heap.size w w':=by
 have q1:(g==0)=false:=by rw [beq_eq_false_iff_ne];exact hg
 have q2:(g != 0)=true:=by rw [bne_iff_ne];exact hg
 clear hg
 go_enter Tryz.func30,Tryz.ntmps30
 go_wp2
 go_ret
 exact ⟨by simp,bi⟩
theorem jdb (hx:Dz 600 x) (hy:Dz 600 y):Calls Tryz.prog 30 #[sp (tq x) (tq y), .int .i64 0, .int .i64 0,sp (tq x) (tq y)] w fun e w'=>e= .returned (.bool true)∧Below w.heap.size w w':=by
 have HL:=qh (fun W=>jph (w:=W) hx hy)
 obtain ⟨s,hs⟩:∃s,tq x=s:=⟨_,rfl⟩
 obtain ⟨t,ht⟩:∃s,tq y=s:=⟨_,rfl⟩
 rw [hs,ht] at HL ⊢
 clear hx hy hs ht
 go_enter Tryz.func30,Tryz.ntmps30
 go_wp2_with (go_at_call 89;(with_reducible refine mo2 w (HL.out _) (by go_size) fun w1 hb1 hc1 hf1 z1_0 z1_1 _=> ?_))
 go_ret
 exact ⟨by simp,bi⟩
end
end Go.Proofs.YtfoolepjkhgckaaGreatDoor
