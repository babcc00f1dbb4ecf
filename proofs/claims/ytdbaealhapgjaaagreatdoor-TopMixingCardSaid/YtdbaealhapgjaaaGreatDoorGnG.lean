/- Parts. -/
import Derived.Test.YtdbaealhapgjaaaGreatDoorKpG
import Derived.Sort.Walk0
set_option linter.all false
set_option maxRecDepth 100000
set_option maxHeartbeats 8000000
namespace Go.Proofs.YtdbaealhapgjaaaGreatDoor
open Go Go.RowKit Go.Proofs.Tryz

section
variable {w:World} {A:Option Addr} {n c:Nat} {ps:List (List UInt8×List UInt8)} {ls:List Lay}
end

section
variable {w:World} {l:List UInt8}
end
section
variable {w:World} {A:Option Addr} {n c:Nat} {ls:List (List UInt8×List UInt8)} {d:Nat}
end

section
variable {w:World} {A B:Option Addr} {n m c c':Nat} {ps qs:List (List UInt8×List UInt8)} {g g':List UInt8} {z z':Int} {d:Nat}
end

noncomputable def lots (ks:List (List UInt8)) (cs:List (List UInt8×Rat)):List (List UInt8×List UInt8):=ks.map (fun x=>(x,tq (tot cs x)))
section
variable {ks:List (List UInt8)} {cs:List (List UInt8×Rat)} {y:List UInt8} {r:Rat} {i:Nat}
end

theorem jAL (a:List (List UInt8×List UInt8)):(shs a).length=a.length*2:=by
 induction a with
 | nil=>rfl
 | cons q r ih=>rw [show shs (q::r)=shs [q]++shs r from jwL [q] r,List.length_append,ih];simp [shs];omega
theorem jBx {a:List (List UInt8×List UInt8)}:∀u∈shs a,u.oneCell'=true:=by
 intro u hu;simp only [shs,List.mem_flatMap] at hu;obtain ⟨p,_,hp⟩:=hu;simp at hp;rcases hp with rfl|rfl <;> rfl
theorem jBj {w:World} {base n m b o c:Nat} {v:Value} {ps qs:List (List UInt8×List UInt8)} (h:jzd w base v n ps) (hn:n≤100000) (hm:m≤100000) (hb:base≤w.heap.size) (hq:qs.length=m)
  (hc:∀j,j < m→w.cell? ⟨b,o+j*2,none⟩=some (bs (qs.getD j ([],[])).1)∧w.cell? ⟨b,o+j*2+1,none⟩=some (bs (qs.getD j ([],[])).2)):
  ∃v' w',(Builtin.append_ #[35,35] 35 #[v, .slice (some ⟨b,o,none⟩) m c]).run prog w= .ok v' w'∧jzd w' base v' (n+m) (ps++qs)∧w.grownBy w' v.ownBlock∧(v'.ownBlock=v.ownBlock∨v'.ownBlock=some w.heap.size):=by
 obtain ⟨i,hi,hz0,hz1,hz2⟩:=info_parts jA3
 obtain ⟨v',w',hr,k1,k2,_,k3⟩:=run_append_own_at (P:=prog) w base 35 35 75 i _ 2 32 underlying35 hi hz0 hz1 hz2 rfl (by decide) v n (shs ps) h ⟨b,o,none⟩ m c (shs qs) (by rw [jAL,hq])
  (by
    intro j u hu
    have hj:j < m*2:=by
     have:=(List.getElem?_eq_some_iff.1 hu).1;rw [jAL,hq] at this;exact this
    have e:(⟨b,o,none⟩:Addr).add j=⟨b,o+j,none⟩:=by unfold Addr.add;split <;> simp_all
    rw [e];have hs:=jyq qs (j / 2) (j % 2) (by omega) (by omega);rw [show j / 2*2+j % 2=j by omega,hu] at hs;obtain ⟨k0,k1⟩:=hc (j / 2) (by omega);rcases Nat.mod_two_eq_zero_or_one j with hz|hz
    ·rw [hz] at hs;simp [shs] at hs;rw [show o+j=o+j / 2*2 by omega,k0,hs];simp
    ·rw [hz] at hs;simp [shs] at hs;rw [show o+j=o+j / 2*2+1 by omega,k1,hs]
     simp)
  jBx
  (by simp only [maxLen];omega) (by omega) hb
 exact ⟨v',w',hr,by rw [jzd,jwL];exact k1,k2,k3⟩
end Go.Proofs.YtdbaealhapgjaaaGreatDoor
namespace Go.Proofs.YtdbaealhapgjaaaGreatDoor
open Go Go.RowKit Go.Sort Go.Proofs.Tryz

theorem jBC (w:World):jzd (w.alloc (.cells #[] 75)) w.heap.size (.slice (some ⟨w.heap.size,0,none⟩) 0 0) 0 []:=World.ownsRow_made w #[] 0 (Nat.le_refl _) (Nat.zero_le _) rfl
theorem jz9 {ops:Array Oper} {rest:List Oper} {o:Oper} {a:Act} {Q:Exit→Act→World→Prop} {w:World} {base n m N b d c:Nat} {v:Value} {ps qs:List (List UInt8×List UInt8)} (hg:o.guard=none) (s y:Operand)
  (ho:o.op= .call { callee:= .builtin .append,args:= #[s,y],argTypes:= #[35,35] }) (ht:o.type=35) (hs:a.eval s=v) (hy:a.eval y= .slice (some ⟨b,d,none⟩) m c)
  (h:jzd w base v n ps) (hn:n≤100000) (hm:m≤100000) (hN:n+m=N) (hb:base≤w.heap.size) (hq:qs.length=m)
  (hc:∀j,j < m→w.cell? ⟨b,d+j*2,none⟩=some (bs (qs.getD j ([],[])).1)∧w.cell? ⟨b,d+j*2+1,none⟩=some (bs (qs.getD j ([],[])).2))
  (hK:∀A' c' w',jzd w' base (.slice A' N c') N (ps++qs)→w.grownBy w' v.ownBlock→((Value.slice A' N c').ownBlock=v.ownBlock∨(Value.slice A' N c').ownBlock=some w.heap.size)→wpList prog ops Q rest (a.put o.dst (.slice A' N c')) w'):wpList prog ops Q (o::rest) a w:=by
 subst hN;obtain ⟨v',w',hr,k1,k2,k3⟩:=jBj h hn hm hb hq hc;obtain ⟨A',c',rfl⟩:=k1.slice;refine wpList_plain hg fun K' hK'=> ?_
 exact jiI s y ho hs hy (by rw [ht];exact hr) (hK' _ _ (hK A' c' w' k1 k2 k3))
theorem jAG:∀{ps:List (List UInt8×List UInt8)} {i:Nat} {t:List UInt8},(shs ps).set (i*2+1) (bs t)=shs (ps.set i ((ps.getD i ([],[])).1,t))
 | [],i,t=>by simp [shs]
 | p::r,0,t=>by simp [shs]
 | p::r,i+1,t=>by
   have h:=jAG (ps:=r) (i:=i) (t:=t);rw [show (i+1)*2+1=(i*2+1)+1+1 by omega];simp only [shs,List.flatMap_cons,List.cons_append,List.nil_append,List.set_cons_succ,List.getD_cons_succ] at h ⊢;rw [h]
theorem jzd.put {w:World} {base g n c i:Nat} {ps:List (List UInt8×List UInt8)} {t:List UInt8} (h:jzd w base (.slice (some ⟨g,0,none⟩) n c) n ps):
  jzd (w.setCell ⟨g,i*2+1,none⟩ (bs t)) base (.slice (some ⟨g,0,none⟩) n c) n (ps.set i ((ps.getD i ([],[])).1,t))∧w.grownBy (w.setCell ⟨g,i*2+1,none⟩ (bs t)) (some g):=by
 have:=World.ownsRow.stored h (i*2+1) (bs t);rw [jAG] at this;exact this
section
variable {w:World} {A:Option Addr} {c k m:Nat} {ks:List (List UInt8)} {cs:List (List UInt8×Rat)} {y:List UInt8} {r:Rat}
end
end Go.Proofs.YtdbaealhapgjaaaGreatDoor
