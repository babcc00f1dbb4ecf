/- Parts. -/
import Derived.Test.YtfoolepjkhgckaaGreatDoorKpG
set_option linter.all false
set_option maxRecDepth 100000
set_option maxHeartbeats 8000000
namespace Go.Proofs.YtfoolepjkhgckaaGreatDoor
open Go Go.RowKit

def moi (x:Rat):Int:=if (decide (sgn x.num < 0) || decide (0≤Rq.cmpQ x 100))=true then 3 else 0
section
variable {w:World} {x:Rat} {k:Nat}
theorem jdD {m:Int} (hm:moi x=m) (hc:chk (tq x)=0) (hl:(tq x).length≤15000) (hx:Dz k x) (hk:0 < k) (hk2:k≤9000):Calls Tryz.prog 13 #[bs (tq x)] w fun e w'=>e= .returned (.int .i64 m)∧Below w.heap.size w w':=by
 have HC:=qh (fun W=>jaH (w:=W) hc hl)
 have HS:=qh (fun W=>jgd (w:=W) (x:=x) rfl hx hk (by omega))
 have d100:Dz 3 (100:Rat):=⟨by decide+kernel,by decide+kernel⟩
 have HP:=qh (fun W=>jcq (w:=W) (x:=x) (y:=100) rfl hx d100 hk (by omega) hk2 (by omega))
 rw [show tq (100:Rat)=[49,48,48] by decide+kernel] at HP
 unfold moi at hm
 obtain ⟨X,hX⟩:∃X,tq x=X:=⟨_,rfl⟩
 obtain ⟨g1,hg1⟩:∃g,sgn x.num=g:=⟨_,rfl⟩
 obtain ⟨g2,hg2⟩:∃g,Rq.cmpQ x 100=g:=⟨_,rfl⟩
 rw [hX,hg1] at HS
 rw [hX,hg2] at HP
 rw [hX] at HC ⊢
 rw [hg1,hg2] at hm
 obtain ⟨b1,q1⟩:∃b,decide (g1 < 0)=b:=⟨_,rfl⟩
 obtain ⟨b2,q2⟩:∃b,decide (0≤g2)=b:=⟨_,rfl⟩
 rw [q1,q2] at hm
 clear hc hl hx hk hk2 hX hg1 hg2 d100
 cases b1 <;> cases b2 <;> (simp only [Bool.or_true,Bool.or_false,Bool.true_or,if_pos,Bool.false_eq_true,if_false] at hm;subst hm)
 all_goals
  go_enter Tryz.func13,Tryz.ntmps13
  go_wp2_with (first|(go_at_call 27;(with_reducible refine mo0 (HC.out _) fun w2 hb2 hc2 hf2 _=> ?_))|(go_at_call 64;(with_reducible refine mo0 (HS.out _) fun w3 hb3 hc3 hf3 _=> ?_))|(go_at_call 22;(with_reducible refine mo0 (HP.out _) fun w4 hb4 hc4 hf4 _=> ?_)))
  go_ret
  exact ⟨rfl,bi⟩
theorem jsY {g n c:Nat} {ls:List (List UInt8)} (hn:n≤1000) (hg:∀j,j < n→w.cell? ⟨g,j,none⟩=some (bs (ls.getD j []))) (hc:∀j,j < n→chk (ls.getD j [])=0∧(ls.getD j []).length≤15000):Calls Tryz.prog 19 #[.slice (some ⟨g,0,none⟩) n c] w fun e w'=>e= .returned (.int .i64 0)∧Below w.heap.size w w':=by
 have HG:=qh hg
 have HC:=qh hc
 clear hg hc
 go_enter Tryz.func19,Tryz.ntmps19
 go_wp2
 go_loopw [3] (fun u wr=>∃(i:Nat),u= .int .i64 (i:Int)∧i≤n∧Below w.heap.size w wr) (fun u _=>n - (intOf u).toNat)
 case atStart=>exact ⟨0,rfl,by omega,Below.refl _ _⟩
 case round=>
  obtain ⟨i,rfl,hi,hb⟩:=hrel
  have _:=bm hb
  rcases Nat.eq_or_lt_of_le hi with e|hl
  ·have q0:decide (i < n)=false:=by rw [decide_eq_false_iff_not];omega
   go_wp2
   go_ret
   exact ⟨rfl,bi⟩
  ·have q0:decide (i < n)=true:=by rw [decide_eq_true_iff];exact hl
   have hci:=ja6 hb (HG.out i hl)
   have HK:=qh (fun W=>jaH (w:=W) (HC.out i hl).1 (HC.out i hl).2)
   obtain ⟨t,ht⟩:∃t,ls.getD i []=t:=⟨_,rfl⟩
   rw [ht] at hci HK
   go_wp2_with (go_at_call 27;(with_reducible refine mo0 (HK.out _) fun w1 hb1 hc1 hf1 _=> ?_))
   exact ⟨⟨i+1,by simp,by omega,bi⟩,by simp [intOf];omega⟩
end

theorem IsNum.dzl {l:List UInt8} {x:Rat} {k:Nat} (h:IsNum l x) (hl:l.length≤k) (hk:0 < k):Dz k x:=by
 have h1:=jer x
 have h2:(uq x).length≤l.length:=by
  rw [h.1,jdo];split
  ·simp
  ·exact Nat.le_refl _
 refine Dz.of (by omega) ?_
 by_cases e:x.den=1
 ·rw [e,jnx];exact hk
 ·rw [if_neg e] at h1;omega
theorem jcn {k:Nat} {y:Rat} (h:Dz k y):Dz k ((y.floor:Int):Rat):=by
 refine ⟨?_, ?_⟩
 ·rw [Rat.num_intCast,Rat.floor_def]
  exact Nat.lt_of_le_of_lt (Int.natAbs_ediv_le_natAbs _ _) h.num
 ·rw [Rat.den_intCast];exact Nat.lt_of_le_of_lt y.den_pos h.den
theorem js0 {l:List UInt8} {x:Rat} (h:IsNum l x):moi x=mst l:=by
 have e:(decide (sgn x.num < 0) || decide (0≤Rq.cmpQ x 100))=decide (x < 0∨100≤x):=by
  rw [jfs,Bool.decide_or,decide_eq_decide.2 (jgQ.trans jjA)]
 unfold moi mst
 rw [if_pos (jaj.2 ⟨x,h⟩),h.numQ,e]
 simp only [decide_eq_true_eq]
section
variable {w:World} {a b:List UInt8} {x y:Rat} {k m:Nat}
theorem jbN {g:Int} (hg:mst a=g) (hl:a.length≤9000):Calls Tryz.prog 13 #[bs a] w fun e w'=>e= .returned (.int .i64 g)∧Below w.heap.size w w':=by
 by_cases h:chk a=0
 ·have hx:=jaB h
  generalize numQ a=x at hx
  have:=jdD (w:=w) (k:=9000) ((js0 hx).trans hg) (hx.eq ▸ h) (hx.eq ▸ (by omega)) (hx.dzl hl (by omega)) (by omega) (by omega)
  rwa [←hx.eq] at this
 ·have e:chk a=g:=by rw [←hg];unfold mst;rw [if_neg h]
  have HC:=qh (fun W=>jaH (w:=W) e (by omega))
  have q1:(g==0)=false:=by rw [beq_eq_false_iff_ne,←e];exact h
  clear hg hl h e
  go_enter Tryz.func13,Tryz.ntmps13
  go_wp2_with (go_at_call 27;(with_reducible refine mo0 (HC.out _) fun w2 hb2 hc2 hf2 _=> ?_))
  go_ret
  exact ⟨rfl,bi⟩
theorem jqC:tq (100:Rat)=[49,48,48]:=by decide+kernel
theorem dzh:Dz 3 (100:Rat):=⟨by decide+kernel,by decide+kernel⟩
theorem ji2 (hx:Dz k x) (hy:Dz m y) (hk:0 < k) (hm:0 < m) (hk2:k≤1000) (hm2:m≤1000):Calls Tryz.prog 16 #[bs (tq y),bs (tq x)] w (QP (y*(100 - x) / 100) w):=by
 have d1:=dzh.sub hx
 have d2:=hy.mul d1
 have HS:=qh (fun W=>jca (w:=W) dzh hx (by omega) hk (by omega) (by omega))
 have HM:=qh (fun W=>jbg (w:=W) hy d1 hm (by omega) (by omega) (by omega))
 have HD:=qh (fun W=>jfp (w:=W) d2 dzh (by omega) (by omega) (by omega) (by omega) (by decide+kernel))
 unfold QP at HS HM HD ⊢
 rw [jqC] at HS HD
 obtain ⟨T1,e1⟩:∃T,tq x=T:=⟨_,rfl⟩
 obtain ⟨T2,e2⟩:∃T,tq y=T:=⟨_,rfl⟩
 obtain ⟨T3,e3⟩:∃T,tq (100 - x)=T:=⟨_,rfl⟩
 obtain ⟨T4,e4⟩:∃T,tq (y*(100 - x))=T:=⟨_,rfl⟩
 obtain ⟨T5,e5⟩:∃T,tq (y*(100 - x) / 100)=T:=⟨_,rfl⟩
 rw [e1,e3] at HS
 rw [e2,e3,e4] at HM
 rw [e4,e5] at HD
 rw [e1,e2,e5]
 clear hx hy hk hm hk2 hm2 d1 d2 e1 e2 e3 e4 e5
 go_enter Tryz.func16,Tryz.ntmps16
 go_wp2_with (first|(go_at_call 21;(with_reducible refine mo0 (HS.out _) fun w1 hb1 hc1 hf1 _=> ?_))|(go_at_call 20;(with_reducible refine mo0 (HM.out _) fun w2 hb2 hc2 hf2 _=> ?_))|(go_at_call 47;(with_reducible refine mo0 (HD.out _) fun w3 hb3 hc3 hf3 _=> ?_)))
 go_ret
 exact ⟨rfl,bi⟩
theorem jtl {z:Rat} {n:Nat} (hx:Dz k x) (hy:Dz m y) (hz:Dz n z) (hk:0 < k) (hm:0 < m) (hn:0 < n) (hk2:k≤1000) (hm2:m≤1000) (hn2:n≤1000) (h0:100 - z≠0):Calls Tryz.prog 17 #[bs (tq y),bs (tq x),bs (tq z)] w (QP (y*(100 - x) / (100 - z)) w):=by
 have d1:=dzh.sub hx
 have d2:=hy.mul d1
 have d3:=dzh.sub hz
 have HS:=qh (fun W=>jca (w:=W) dzh hx (by omega) hk (by omega) (by omega))
 have HS2:=qh (fun W=>jca (w:=W) dzh hz (by omega) hn (by omega) (by omega))
 have HM:=qh (fun W=>jbg (w:=W) hy d1 hm (by omega) (by omega) (by omega))
 have HD:=qh (fun W=>jfp (w:=W) d2 d3 (by omega) (by omega) (by omega) (by omega) h0)
 unfold QP at HS HS2 HM HD ⊢
 rw [jqC] at HS HS2
 obtain ⟨T1,e1⟩:∃T,tq x=T:=⟨_,rfl⟩
 obtain ⟨T2,e2⟩:∃T,tq y=T:=⟨_,rfl⟩
 obtain ⟨T3,e3⟩:∃T,tq (100 - x)=T:=⟨_,rfl⟩
 obtain ⟨T4,e4⟩:∃T,tq (y*(100 - x))=T:=⟨_,rfl⟩
 obtain ⟨T5,e5⟩:∃T,tq (y*(100 - x) / (100 - z))=T:=⟨_,rfl⟩
 obtain ⟨T6,e6⟩:∃T,tq z=T:=⟨_,rfl⟩
 obtain ⟨T7,e7⟩:∃T,tq (100 - z)=T:=⟨_,rfl⟩
 rw [e1,e3] at HS
 rw [e6,e7] at HS2
 rw [e2,e3,e4] at HM
 rw [e4,e5,e7] at HD
 rw [e1,e2,e5,e6]
 clear hx hy hz hk hm hn hk2 hm2 hn2 h0 d1 d2 d3 e1 e2 e3 e4 e5 e6 e7
 go_enter Tryz.func17,Tryz.ntmps17
 go_wp2_with (first|(go_at_call 21;(with_reducible show Calls _ _ #[.string ⟨#[49,48,48]⟩,bs T1] _ _);(with_reducible refine mo0 (HS.out _) fun w1 hb1 hc1 hf1 _=> ?_))|(go_at_call 20;(with_reducible refine mo0 (HM.out _) fun w2 hb2 hc2 hf2 _=> ?_))|(go_at_call 21;(with_reducible show Calls _ _ #[.string ⟨#[49,48,48]⟩,bs T6] _ _);(with_reducible refine mo0 (HS2.out _) fun w4 hb4 hc4 hf4 _=> ?_))|(go_at_call 47;(with_reducible refine mo0 (HD.out _) fun w3 hb3 hc3 hf3 _=> ?_)))
 go_ret
 exact ⟨rfl,bi⟩
theorem jbn {g:Int} (hg:g≠0):Calls Tryz.prog 14 #[bs [], .int .i64 g, .int .i64 g,bs b] w fun e w'=>e= .returned (.bool true)∧Below w.heap.size w w':=by
 have q1:(g==0)=false:=by rw [beq_eq_false_iff_ne];exact hg
 have q2:(g != 0)=true:=by rw [bne_iff_ne];exact hg
 clear hg
 go_enter Tryz.func14,Tryz.ntmps14
 go_wp2
 go_ret
 exact ⟨by simp,bi⟩
theorem jaE (hx:Dz k x) (hk:0 < k) (hk2:k≤600):Calls Tryz.prog 14 #[bs (tq x), .int .i64 0, .int .i64 0,bs (tq x)] w fun e w'=>e= .returned (.bool true)∧Below w.heap.size w w':=by
 have HL:=qh (fun W=>jke (w:=W) (jat hx hk hk2).2.1 hx hk (by omega))
 obtain ⟨T,e⟩:∃T,tq x=T:=⟨_,rfl⟩
 rw [e] at HL ⊢
 clear hx hk hk2 e
 go_enter Tryz.func14,Tryz.ntmps14
 go_wp2_with (go_at_call 65;(with_reducible refine mo0 (HL.out _) fun w1 hb1 hc1 hf1 _=> ?_))
 go_ret
 exact ⟨by simp,bi⟩
theorem jfj {c:Bool} {g:Int}:Calls Tryz.prog 12 #[.bool c, .int .i64 g] w fun e w'=>e= .returned (.int .i64 (if c then g else 0))∧Below w.heap.size w w':=by
 cases c
 all_goals
  go_enter Tryz.func12,Tryz.ntmps12
  go_wp2
  go_ret
  exact ⟨rfl,bi⟩
def fnz (l:List Int):Int:=match l with | []=>0|x::r=>if x=0 then fnz r else x
theorem jk7 {l:List Int}:∀{i:Nat},(∀j,j < i→l.getD j 0=0)→i≤l.length→fnz l=fnz (l.drop i):=by
 induction l with
 | nil=>intro i _ hi;simp at hi;subst hi;rfl
 | cons x r ih=>
   intro i h hi
   cases i with
   | zero=>rfl
   | succ i=>
     have h0:x=0:=by have:=h 0 (by omega);simpa using this
     rw [List.drop_succ_cons,←ih (fun j hj=>by have:=h (j+1) (by omega);simpa using this) (by simpa using hi),h0]
     simp [fnz]
theorem jon {g n c:Nat} {ls:List Int} (hn:n≤1000) (hls:ls.length=n) (hg:∀j,j < n→w.cell? ⟨g,j,none⟩=some (.int .i64 (ls.getD j 0))):Calls Tryz.prog 11 #[.slice (some ⟨g,0,none⟩) n c] w fun e w'=>e= .returned (.int .i64 (fnz ls))∧Below w.heap.size w w':=by
 have HG:=qh hg
 have HLS:=qh hls
 obtain ⟨F,hF⟩:∃F,fnz ls=F:=⟨_,rfl⟩
 rw [hF]
 have HF:=qh hF
 clear hg hls hF
 go_enter Tryz.func11,Tryz.ntmps11
 go_wp2
 go_loopw [3] (fun u wr=>∃(i:Nat),u= .int .i64 (i:Int)∧i≤n∧Below w.heap.size w wr∧Hid (∀j,j < i→ls.getD j 0=0)) (fun u _=>n - (intOf u).toNat)
 case atStart=>exact ⟨0,rfl,by omega,Below.refl _ _,qh (fun j hj=>by omega)⟩
 case round=>
  obtain ⟨i,rfl,hi,hb,HI⟩:=hrel
  have _:=bm hb
  rcases Nat.eq_or_lt_of_le hi with e|hl
  ·have q0:decide (i < n)=false:=by rw [decide_eq_false_iff_not];omega
   have e1:F=0:=by
    rw [←HF.out,jk7 HI.out (by rw [HLS.out];omega),List.drop_of_length_le (by rw [HLS.out];omega)];rfl
   subst e1
   go_wp2
   go_ret
   exact ⟨rfl,bi⟩
  ·have q0:decide (i < n)=true:=by rw [decide_eq_true_iff];exact hl
   have hci:=ja6 hb (HG.out i hl)
   obtain ⟨t,ht⟩:∃t,ls.getD i 0=t:=⟨_,rfl⟩
   rw [ht] at hci
   by_cases h0:t=0
   ·subst h0
    go_wp2
    exact ⟨⟨i+1,by simp,by omega,bi,qh (fun j hj=>by
     rcases Nat.lt_or_ge j i with h|h
     ·exact HI.out j h
     ·rw [show j=i by omega];exact ht)⟩,by simp [intOf];omega⟩
   ·have q1:(t != 0)=true:=by rw [bne_iff_ne];exact h0
    have e1:F=t:=by
     have hi2:i < ls.length:=by rw [HLS.out];exact hl
     rw [←HF.out,jk7 HI.out (by omega),List.drop_eq_getElem_cons hi2]
     have:ls[i]=t:=by rw [←ht];simp [hi2]
     simp [fnz,this,h0]
    subst e1
    clear h0 ht
    go_wp2
    go_ret
    exact ⟨rfl,bi⟩
end
theorem jcr (W:World) (T:TypeId) (c:Nat) (x y g:Int) (hg:fnz [x,y]=g):Calls Tryz.prog 11 #[.slice (some ⟨W.heap.size,0,none⟩) 2 c] (W.alloc (.cells #[.int .i64 x, .int .i64 y] T)) fun e w'=>e= .returned (.int .i64 g)∧Below (W.alloc (.cells #[.int .i64 x, .int .i64 y] T)).heap.size (W.alloc (.cells #[.int .i64 x, .int .i64 y] T)) w':=
 hg ▸ jon (n:=2) (ls:=[x,y]) (by omega) rfl (fun j hj=>by
  rcases (show j=0∨j=1 by omega) with rfl|rfl <;> simp [go_sem])
end Go.Proofs.YtfoolepjkhgckaaGreatDoor
