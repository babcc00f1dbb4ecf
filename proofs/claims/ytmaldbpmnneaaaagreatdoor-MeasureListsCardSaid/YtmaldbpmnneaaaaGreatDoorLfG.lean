/- Parts. -/
import Derived.Test.YtmaldbpmnneaaaaGreatDoorKpG
set_option linter.all false
set_option maxRecDepth 100000
set_option maxHeartbeats 8000000
namespace Go.Proofs.YtmaldbpmnneaaaaGreatDoor
open Go Go.RowKit

section
variable {w:World} {x:Rat} {k:Nat}
end

theorem IsNum.dzl {l:List UInt8} {x:Rat} {k:Nat} (h:IsNum l x) (hl:l.length≤k) (hk:0 < k):Dz k x:=by
 have h1:=jem x
 have h2:(uq x).length≤l.length:=by
  rw [h.1,jd9];split
  ·simp
  ·exact Nat.le_refl _
 refine Dz.of (by omega) ?_
 by_cases e:x.den=1
 ·rw [e,jku];exact hk
 ·rw [if_neg e] at h1;omega
section
variable {w:World} {a b:List UInt8} {x y:Rat} {k m:Nat}
theorem jia {c:Bool} {g:Int}:Calls Tryz.prog 14 #[.bool c, .int .i64 g] w fun e w'=>e= .returned (.int .i64 (if c then g else 0))∧Below w.heap.size w w':=by
 cases c
 all_goals
  go_enter Tryz.func14,Tryz.ntmps14
  go_wp2
  go_ret
  exact ⟨rfl,bi⟩
def fnz (l:List Int):Int:=match l with | []=>0|x::r=>if x=0 then fnz r else x
theorem jj3 {l:List Int}:∀{i:Nat},(∀j,j < i→l.getD j 0=0)→i≤l.length→fnz l=fnz (l.drop i):=by
 induction l with
 | nil=>intro i _ hi;simp at hi;subst hi;rfl
 | cons x r ih=>
   intro i h hi
   cases i with
   | zero=>rfl
   | succ i=>
     have h0:x=0:=by have:=h 0 (by omega);simpa using this
     rw [List.drop_succ_cons,←ih (fun j hj=>by have:=h (j+1) (by omega);simpa using this) (by simpa using hi),h0]
     simp [fnz]
theorem jnq {g n c:Nat} {ls:List Int} (hn:n≤1000) (hls:ls.length=n) (hg:∀j,j < n→w.cell? ⟨g,j,none⟩=some (.int .i64 (ls.getD j 0))):Calls Tryz.prog 16 #[.slice (some ⟨g,0,none⟩) n c] w fun e w'=>e= .returned (.int .i64 (fnz ls))∧Below w.heap.size w w':=by
 have HG:=qh hg
 have HLS:=qh hls
 obtain ⟨F,hF⟩:∃F,fnz ls=F:=⟨_,rfl⟩
 rw [hF]
 have HF:=qh hF
 clear hg hls hF
 go_enter Tryz.func16,Tryz.ntmps16
 go_wp2
 go_loopw [3] (fun u wr=>∃(i:Nat),u= .int .i64 (i:Int)∧i≤n∧Below w.heap.size w wr∧Hid (∀j,j < i→ls.getD j 0=0)) (fun u _=>n - (intOf u).toNat)
 case atStart=>exact ⟨0,rfl,by omega,Below.refl _ _,qh (fun j hj=>by omega)⟩
 case round=>
  obtain ⟨i,rfl,hi,hb,HI⟩:=hrel
  have _:=bm hb
  rcases Nat.eq_or_lt_of_le hi with e|hl
  ·have q0:decide (i < n)=false:=by rw [decide_eq_false_iff_not];omega
   have e1:F=0:=by
    rw [←HF.out,jj3 HI.out (by rw [HLS.out];omega),List.drop_of_length_le (by rw [HLS.out];omega)];rfl
   subst e1
   go_wp2
   go_ret
   exact ⟨rfl,bi⟩
  ·have q0:decide (i < n)=true:=by rw [decide_eq_true_iff];exact hl
   have hci:=ja4 hb (HG.out i hl)
   obtain ⟨t,ht⟩:∃t,ls.getD i 0=t:=⟨_,rfl⟩
   rw [ht] at hci
   by_cases h0:t=0
   ·subst h0
    go_wp2
    exact ⟨⟨i+1,by simp,by omega,bi,qh (fun j hj=>by
     rcases Nat.lt_or_ge j i with h|h
     ·exact HI.out j h
     ·rw [show j=i by omega];exact ht)⟩,by simp [intOf];omega⟩
   ·have q1:(t != 0)=true:=by rw [bne_iff_ne];exact h0
    have e1:F=t:=by
     have hi2:i < ls.length:=by rw [HLS.out];exact hl
     rw [←HF.out,jj3 HI.out (by omega),List.drop_eq_getElem_cons hi2]
     have:ls[i]=t:=by rw [←ht];simp [hi2]
     simp [fnz,this,h0]
    subst e1
    clear h0 ht
    go_wp2
    go_ret
    exact ⟨rfl,bi⟩
end
theorem jrE (W:World) (T:TypeId) (c:Nat) (x y g:Int) (hg:fnz [x,y]=g):Calls Tryz.prog 16 #[.slice (some ⟨W.heap.size,0,none⟩) 2 c] (W.alloc (.cells #[.int .i64 x, .int .i64 y] T)) fun e w'=>e= .returned (.int .i64 g)∧Below (W.alloc (.cells #[.int .i64 x, .int .i64 y] T)).heap.size (W.alloc (.cells #[.int .i64 x, .int .i64 y] T)) w':=
 hg ▸ jnq (n:=2) (ls:=[x,y]) (by omega) rfl (fun j hj=>by
  rcases (show j=0∨j=1 by omega) with rfl|rfl <;> simp [go_sem])

section
variable {w:World} {a b:List UInt8} {x y:Rat} {k m:Nat}
theorem jk7 {g:Int} (la:a.length≤9000) (lb:b.length≤9000) (hg:jau (a,b)=g):Calls Tryz.prog 36 #[sp a b] w fun e w'=>e= .returned (.int .i64 g)∧Below w.heap.size w w':=by
 unfold jau at hg
 by_cases h1:chk a=0
 ·have HC1:=qh (fun W=>je4 (w:=W) h1 (by omega))
  by_cases h2:chk b=0
  ·have HC2:=qh (fun W=>je4 (w:=W) h2 (by omega))
   have hx:=jbL h1
   have hy:=jbL h2
   have e:ja9 chk [a,b]=0:=by simp [ja9,h1,h2]
   rw [if_neg (by simpa using e)] at hg
   obtain ⟨z,hz⟩:∃z,Rq.cmpQ (numQ a) (numQ b)=z:=⟨_,rfl⟩
   have HP:=qh (fun W=>jjt (w:=W) hz (hx.dzl la (by omega)) (hy.dzl lb (by omega)) (by omega) (by omega) (by omega) (by omega))
   rw [←hx.eq,←hy.eq] at HP
   by_cases h:0 < z
   ·have q1:decide (0 < z)=true:=by rw [decide_eq_true_iff];exact h
    have e2:numQ b < numQ a:=Rq.cmp_pos.1 (by rw [hz];exact h)
    rw [if_pos e2] at hg
    subst hg
    clear hx hy e hz h e2 h1 h2 la lb
    go_enter Tryz.func36,Tryz.ntmps36
    go_wp2_with (first|(go_at_call 80;(with_reducible show Calls _ _ #[bs a] _ _);(with_reducible refine mo1 w (HC1.out _) (by go_size) fun w1 hb1 hc1 hf1 z1_0 _=> ?_))|(go_at_call 80;(with_reducible show Calls _ _ #[bs b] _ _);(with_reducible refine mo1 w (HC2.out _) (by go_size) fun w2 hb2 hc2 hf2 z2_0 _=> ?_))|(go_at_call 40;(with_reducible refine mo1 w (HP.out _) (by go_size) fun w3 hb3 hc3 hf3 z3_0 _=> ?_)))
    go_ret
    exact ⟨rfl,bi⟩
   ·have q1:decide (0 < z)=false:=by rw [decide_eq_false_iff_not];exact h
    have e2:¬numQ b < numQ a:=fun e=>h (by rw [←hz];exact Rq.cmp_pos.2 e)
    rw [if_neg e2] at hg
    subst hg
    clear hx hy e hz h e2 h1 h2 la lb
    go_enter Tryz.func36,Tryz.ntmps36
    go_wp2_with (first|(go_at_call 80;(with_reducible show Calls _ _ #[bs a] _ _);(with_reducible refine mo1 w (HC1.out _) (by go_size) fun w1 hb1 hc1 hf1 z1_0 _=> ?_))|(go_at_call 80;(with_reducible show Calls _ _ #[bs b] _ _);(with_reducible refine mo1 w (HC2.out _) (by go_size) fun w2 hb2 hc2 hf2 z2_0 _=> ?_))|(go_at_call 40;(with_reducible refine mo1 w (HP.out _) (by go_size) fun w3 hb3 hc3 hf3 z3_0 _=> ?_)))
    go_ret
    exact ⟨rfl,bi⟩
  ·obtain ⟨z,hz⟩:∃z,chk b=z:=⟨_,rfl⟩
   have HC2:=qh (fun W=>je4 (w:=W) hz (by omega))
   have e:ja9 chk [a,b]=z:=by rw [hz] at h2;simp [ja9,h1,hz,h2]
   rw [hz] at h2
   rw [e,if_pos h2] at hg
   subst hg
   have q1:(z==0)=false:=by rw [beq_eq_false_iff_ne];exact h2
   clear hz e h1 h2 la lb
   go_enter Tryz.func36,Tryz.ntmps36
   go_wp2_with (first|(go_at_call 80;(with_reducible show Calls _ _ #[bs a] _ _);(with_reducible refine mo1 w (HC1.out _) (by go_size) fun w1 hb1 hc1 hf1 z1_0 _=> ?_))|(go_at_call 80;(with_reducible show Calls _ _ #[bs b] _ _);(with_reducible refine mo1 w (HC2.out _) (by go_size) fun w2 hb2 hc2 hf2 z2_0 _=> ?_)))
   go_ret
   exact ⟨rfl,bi⟩
 ·obtain ⟨z,hz⟩:∃z,chk a=z:=⟨_,rfl⟩
  have HC1:=qh (fun W=>je4 (w:=W) hz (by omega))
  have e:ja9 chk [a,b]=z:=by rw [hz] at h1;simp [ja9,hz,h1]
  rw [hz] at h1
  rw [e,if_pos h1] at hg
  subst hg
  have q1:(z==0)=false:=by rw [beq_eq_false_iff_ne];exact h1
  clear hz e h1 la lb
  go_enter Tryz.func36,Tryz.ntmps36
  go_wp2_with (go_at_call 80;(with_reducible show Calls _ _ #[bs a] _ _);(with_reducible refine mo1 w (HC1.out _) (by go_size) fun w1 hb1 hc1 hf1 z1_0 _=> ?_))
  go_ret
  exact ⟨rfl,bi⟩
theorem jqa {g n c:Nat} {ls:List (List UInt8)} (hn:n≤1000) (hg:∀j,j < n→w.cell? ⟨g,j,none⟩=some (bs (ls.getD j []))) (hc:∀j,j < n→∃x,ls.getD j []=tq x∧Dz 600 x):Calls Tryz.prog 81 #[.slice (some ⟨g,0,none⟩) n c] w fun e w'=>e= .returned (.int .i64 0)∧Below w.heap.size w w':=by
 have HG:=qh hg
 have HC:=qh hc
 clear hg hc
 go_enter Tryz.func81,Tryz.ntmps81
 go_wp2
 go_loopw [3] (fun u wr=>∃(i:Nat),u= .int .i64 (i:Int)∧i≤n∧Below w.heap.size w wr) (fun u _=>n - (intOf u).toNat)
 case atStart=>exact ⟨0,rfl,by omega,Below.refl _ _⟩
 case round=>
  obtain ⟨i,rfl,hi,hb⟩:=hrel
  have _:=bm hb
  rcases Nat.eq_or_lt_of_le hi with e|hl
  ·have q0:decide (i < n)=false:=by rw [decide_eq_false_iff_not];omega
   go_wp2
   go_ret
   exact ⟨rfl,bi⟩
  ·have q0:decide (i < n)=true:=by rw [decide_eq_true_iff];exact hl
   have hci:=ja4 hb (HG.out i hl)
   obtain ⟨x,ht,hx⟩:=HC.out i hl
   have HK:=qh (fun W=>jox (w:=W) (jfH hx (by omega) (by omega)).2.1 hx (by omega) (by omega))
   rw [ht] at hci
   obtain ⟨t,ht⟩:∃t,tq x=t:=⟨_,rfl⟩
   rw [ht] at hci HK
   clear ht hx
   go_wp2_with (go_at_call 125;(with_reducible refine mo0 (HK.out _) fun w1 hb1 hc1 hf1 _=> ?_))
   exact ⟨⟨i+1,by simp,by omega,bi⟩,by simp [intOf];omega⟩
theorem jod (hx:Dz 600 x) (hy:Dz 600 y):Calls Tryz.prog 37 #[sp (tq x) (tq y)] w fun e w'=>e= .returned (.int .i64 0)∧Below w.heap.size w w':=by
 have HR:=qh (fun (W:World) (T:TypeId) (c g:Nat) (hg:g=W.heap.size)=>jqa (w:=W.alloc (.cells #[bs (tq x),bs (tq y)] T)) (g:=g) (n:=2) (c:=c) (ls:=[tq x,tq y]) (by omega)
  (fun j hj=>by
    subst hg
    rcases (show j=0∨j=1 by omega) with rfl|rfl <;> simp [go_sem])
  (fun j hj=>by
    rcases (show j=0∨j=1 by omega) with rfl|rfl
    ·exact ⟨x,rfl,hx⟩
    ·exact ⟨y,rfl,hy⟩))
 obtain ⟨s,hs⟩:∃s,tq x=s:=⟨_,rfl⟩
 obtain ⟨t,ht⟩:∃s,tq y=s:=⟨_,rfl⟩
 rw [hs,ht] at HR ⊢
 clear hx hy hs ht
 go_enter Tryz.func37,Tryz.ntmps37
 go_wp2_with (go_at_call 81;(with_reducible refine mo0 (HR.out _ _ _ _ (by simp)) fun w1 hb1 hc1 hf1 _=> ?_))
 go_ret
 exact ⟨rfl,bi⟩
theorem jg6 {g:Int} (hg:g≠0):Calls Tryz.prog 11 #[sp [] [], .int .i64 g, .int .i64 g,sp a b] w fun e w'=>e= .returned (.bool true)∧Below w.heap.size w w':=by
 have q1:(g==0)=false:=by rw [beq_eq_false_iff_ne];exact hg
 have q2:(g != 0)=true:=by rw [bne_iff_ne];exact hg
 clear hg
 go_enter Tryz.func11,Tryz.ntmps11
 go_wp2
 go_ret
 exact ⟨by simp,bi⟩
theorem jdB (hx:Dz 600 x) (hy:Dz 600 y):Calls Tryz.prog 11 #[sp (tq x) (tq y), .int .i64 0, .int .i64 0,sp (tq x) (tq y)] w fun e w'=>e= .returned (.bool true)∧Below w.heap.size w w':=by
 have HL:=qh (fun W=>jod (w:=W) hx hy)
 obtain ⟨s,hs⟩:∃s,tq x=s:=⟨_,rfl⟩
 obtain ⟨t,ht⟩:∃s,tq y=s:=⟨_,rfl⟩
 rw [hs,ht] at HL ⊢
 clear hx hy hs ht
 go_enter Tryz.func11,Tryz.ntmps11
 go_wp2_with (go_at_call 37;(with_reducible refine mo2 w (HL.out _) (by go_size) fun w1 hb1 hc1 hf1 z1_0 z1_1 _=> ?_))
 go_ret
 exact ⟨by simp,bi⟩
end

section
variable {w:World} {a1 a2 b1 b2 l h p q r s m1 m2 n1 n2:List UInt8}
end
end Go.Proofs.YtmaldbpmnneaaaaGreatDoor
