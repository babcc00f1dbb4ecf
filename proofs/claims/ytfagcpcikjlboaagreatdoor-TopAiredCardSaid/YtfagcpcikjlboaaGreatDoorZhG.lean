/- Parts. -/
import Derived.Test.YtfagcpcikjlboaaGreatDoorZaG
import Derived.Test.YtfagcpcikjlboaaGreatDoorUcG
import Derived.Sort.Walk0
set_option linter.all false
set_option maxRecDepth 100000
set_option maxHeartbeats 8000000
namespace Go.Proofs.YtfagcpcikjlboaaGreatDoor
open Go Go.RowKit Go.Proofs.Tryz

section
variable {mass:Int} {x:Rat} {ls:List (List UInt8)} {i n:Nat} {k:Nat}
end
def jt4 (w:World) (g:Nat) (q:FT):World:=(((w.setCell ⟨g,0,none⟩ (.int .i64 q.1.1)).setCell ⟨g,1,none⟩ (.slice q.1.2.1 q.1.2.2.1 q.1.2.2.2)).setCell ⟨g,2,none⟩ (.int .i64 q.2.1)).setCell ⟨g,3,none⟩ (.slice q.2.2.1 q.2.2.2.1 q.2.2.2.2)

section
variable {w:World} {A:Option Addr} {n c:Nat} {a:List UInt8} {ls:List (List UInt8)} {mass:Int}
end

section
variable {w:World} {A:Option Addr} {n c:Nat} {qs:List Rat}
end

section
variable {w:World} {A:Option Addr} {n c:Nat} {a:List UInt8} {ls:List (List UInt8)} {mass:Int}
end

abbrev Bd:=List UInt8×List UInt8×List UInt8
theorem Sv.three (w:World) (t:TypeId) (k l m:List UInt8):Sv (w.alloc (.cells #[bs k,bs l,bs m] t)) (some ⟨w.heap.size,0,none⟩) 3 [k,l,m]:=
 ⟨rfl,fun _=>⟨w.heap.size,0,rfl,by simp,fun j hj=>by
   match j,hj with
   | 0,_=>simp
   | 1,_=>simp
   | 2,_=>simp⟩⟩
theorem jxw (x:Rat):decide (sgn x.num < 0)=decide (x < 0):=by
 unfold sgn;by_cases h:x < 0
 ·rw [if_pos (jgN.2 h),decide_eq_true h];rfl
 ·rw [if_neg (fun e=>h (jgN.1 e)),decide_eq_false h,decide_eq_false_iff_not];split <;> omega
section
variable {w:World} {A:Option Addr} {n c:Nat} {ls:List Bd}
end

section
variable {w:World} {A:Option Addr} {n c:Nat} {ls:List (List UInt8)}
end
section
variable {w:World} {A:Option Addr} {n c:Nat} {ls:List Bd}
end

section
variable {w:World} {A:Option Addr} {n c:Nat} {ls:List Bd} {x y:Rat} {k:Nat}
end

section
variable {w:World} {A:Option Addr} {n c:Nat} {ls:List Bd} {x y:Rat} {mass:Int}
end

section
variable {w:World} {A:Option Addr} {n c:Nat} {ls:List Bd} {a t:List UInt8} {mass:Int}
end

structure FC (w:World) (g:Nat) (q:FT):Prop where
 c0:w.cell? ⟨g,0,none⟩=some (.int .i64 q.1.1)
 c1:w.cell? ⟨g,1,none⟩=some (.slice q.1.2.1 q.1.2.2.1 q.1.2.2.2)
 c2:w.cell? ⟨g,2,none⟩=some (.int .i64 q.2.1)
 c3:w.cell? ⟨g,3,none⟩=some (.slice q.2.2.1 q.2.2.2.1 q.2.2.2.2)
 fz:∀o,w.frozen? ⟨g,o,none⟩=false
theorem FC.lt {w:World} {g:Nat} {q:FT} (h:FC w g q):g < w.heap.size:=World.block_lt_of_cell? w _ h.c0
theorem FC.below {w w':World} {g:Nat} {q:FT} (h:FC w g q) (hb:Below w.heap.size w w'):FC w' g q:=
 ⟨ja9 hb h.c0,ja9 hb h.c1,ja9 hb h.c2,ja9 hb h.c3,fun o=>(hb.frozen (p:=⟨g,o,none⟩) h.lt).trans (h.fz o)⟩
theorem FC.set {w:World} {g:Nat} {q:FT} (h:FC w g q) (q':FT):FC (jt4 w g q') g q':=by
 obtain ⟨h0,h1,h2,h3,h4⟩:=h;refine ⟨?_, ?_, ?_, ?_,fun o=> ?_⟩
 all_goals simp [jt4,go_sem,h0,h1,h2,h3,h4]
theorem FC.other {w:World} {g b:Nat} {q q':FT} (h:FC w g q) (hne:g≠b):FC (jt4 w b q') g q:=by
 obtain ⟨h0,h1,h2,h3,h4⟩:=h;have hne':b≠g:=fun e=>hne e.symm
 refine ⟨?_, ?_, ?_, ?_,fun o=> ?_⟩
 all_goals simp [jt4,go_sem,h0,h1,h2,h3,h4,hne,hne']
theorem FC.rep {w:World} {g:Nat} {q q' p:FT} {x:Rat} (h:FC w g q) (r:jlE w p x):jlE (jt4 w g q') p x:=by
 obtain ⟨h0,h1,h2,h3,_⟩:=h;unfold jt4;constructor
 ·exact rP (rP r.1 rfl ⟨⟨_,h0⟩,_,_,_,h1⟩) rfl ⟨⟨q.2.1,by simp [go_sem,h2]⟩,q.2.2.1,q.2.2.2.1,q.2.2.2.2,by simp [go_sem,h3]⟩
 ·exact rP (rP r.2 rfl ⟨⟨_,h0⟩,_,_,_,h1⟩) rfl ⟨⟨q.2.1,by simp [go_sem,h2]⟩,q.2.2.1,q.2.2.2.1,q.2.2.2.2,by simp [go_sem,h3]⟩
theorem FC.made (w:World) (t:TypeId) (s t':Int) (A B:Option Addr) (n c m d:Nat):FC (w.alloc (.cells #[.int .i64 s, .slice A n c, .int .i64 t', .slice B m d] t)) w.heap.size ((s,A,n,c),(t',B,m,d)):=by
 refine ⟨?_, ?_, ?_, ?_,fun o=> ?_⟩
 all_goals simp [go_sem]
section
variable {w W:World} {g b:Nat} {q p:FT} {x:Rat} {s t:Int} {A B:Option Addr} {n c m d:Nat}
theorem FC.setR (h:FC w g q):FC ((((w.setCell ⟨g,0,none⟩ (.int .i64 s)).setCell ⟨g,1,none⟩ (.slice A n c)).setCell ⟨g,2,none⟩ (.int .i64 t)).setCell ⟨g,3,none⟩ (.slice B m d)) g ((s,A,n,c),(t,B,m,d)):=h.set ((s,A,n,c),(t,B,m,d))
theorem FC.otherR (h:FC w g q) (hne:g≠b):FC ((((w.setCell ⟨b,0,none⟩ (.int .i64 s)).setCell ⟨b,1,none⟩ (.slice A n c)).setCell ⟨b,2,none⟩ (.int .i64 t)).setCell ⟨b,3,none⟩ (.slice B m d)) g q:=h.other (q':=((s,A,n,c),(t,B,m,d))) hne
end

abbrev PT:=FT×FT
def ptc (q:PT):List Value:=fts q.1++fts q.2
def ptl (qs:List PT):List Value:=qs.flatMap ptc
theorem jx7 (q:PT):(ptc q).length=8:=rfl
theorem jwY (a b:List PT):ptl (a++b)=ptl a++ptl b:=by simp [ptl]
theorem jxI (a:List PT):(ptl a).length=a.length*8:=by
 induction a with
 | nil=>rfl
 | cons q r ih=>rw [show ptl (q::r)=ptl [q]++ptl r from jwY [q] r,List.length_append,ih,show (ptl [q]).length=8 from rfl,List.length_cons];omega
theorem jyl:∀(a:List PT) (j k:Nat) (q:PT),a[j]? =some q→k < 8→(ptl a)[j*8+k]? =(ptc q)[k]?
 | [],j,k,q,h,_=>by simp at h
 | p::r,0,k,q,h,hk=>by
   simp at h;subst h;rw [show ptl (p::r)=ptc p++ptl r from rfl,Nat.zero_mul,Nat.zero_add,List.getElem?_append_left (by rw [jx7];exact hk)]
 | p::r,j+1,k,q,h,hk=>by
   rw [show ptl (p::r)=ptc p++ptl r from rfl,List.getElem?_append_right (by rw [jx7];omega)];have e:(j+1)*8+k - (ptc p).length=j*8+k:=by rw [jx7];omega
   rw [e,jyl r j k q (by simpa using h) hk]
abbrev jwy (w:World) (q:PT) (x:Rat×Rat):Prop:=jlE w q.1 x.1∧jlE w q.2 x.2
theorem jy1 {q:PT}:∀u∈ptc q,∀z,u≠ .int .u64 z:=by
 intro u hu z;rcases List.mem_append.1 hu with hu|hu
 ·exact jo6 u hu z
 ·exact jo6 u hu z

section
variable {w:World} {A:Option Addr} {n c:Nat} {ps:List (List UInt8×List UInt8)} {ls:List Lay}
end

section
variable {w:World} {l:List UInt8}
end
section
variable {w:World} {A:Option Addr} {n c:Nat} {ls:List (List UInt8×List UInt8)} {d:Nat}
end

section
variable {w:World} {A B:Option Addr} {n m c c':Nat} {ps qs:List (List UInt8×List UInt8)} {g g':List UInt8} {z z':Int} {d:Nat}
end

noncomputable def lots (ks:List (List UInt8)) (cs:List (List UInt8×Rat)):List (List UInt8×List UInt8):=ks.map (fun x=>(x,tq (tot cs x)))
section
variable {ks:List (List UInt8)} {cs:List (List UInt8×Rat)} {y:List UInt8} {r:Rat} {i:Nat}
end

theorem jBp (a:List (List UInt8×List UInt8)):(shs a).length=a.length*2:=by
 induction a with
 | nil=>rfl
 | cons q r ih=>rw [show shs (q::r)=shs [q]++shs r from jwL [q] r,List.length_append,ih];simp [shs];omega
theorem jC1 {a:List (List UInt8×List UInt8)}:∀u∈shs a,u.oneCell'=true:=by
 intro u hu;simp only [shs,List.mem_flatMap] at hu;obtain ⟨p,_,hp⟩:=hu;simp at hp;rcases hp with rfl|rfl <;> rfl
theorem jBG {w:World} {base n m b o c:Nat} {v:Value} {ps qs:List (List UInt8×List UInt8)} (h:jzi w base v n ps) (hn:n≤100000) (hm:m≤100000) (hb:base≤w.heap.size) (hq:qs.length=m)
  (hc:∀j,j < m→w.cell? ⟨b,o+j*2,none⟩=some (bs (qs.getD j ([],[])).1)∧w.cell? ⟨b,o+j*2+1,none⟩=some (bs (qs.getD j ([],[])).2)):
  ∃v' w',(Builtin.append_ #[50,50] 50 #[v, .slice (some ⟨b,o,none⟩) m c]).run prog w= .ok v' w'∧jzi w' base v' (n+m) (ps++qs)∧w.grownBy w' v.ownBlock∧(v'.ownBlock=v.ownBlock∨v'.ownBlock=some w.heap.size):=by
 obtain ⟨i,hi,hz0,hz1,hz2⟩:=info_parts jzT
 obtain ⟨v',w',hr,k1,k2,_,k3⟩:=run_append_own_at (P:=prog) w base 50 50 49 i _ 2 32 underlying50 hi hz0 hz1 hz2 rfl (by decide) v n (shs ps) h ⟨b,o,none⟩ m c (shs qs) (by rw [jBp,hq])
  (by
    intro j u hu
    have hj:j < m*2:=by
     have:=(List.getElem?_eq_some_iff.1 hu).1;rw [jBp,hq] at this;exact this
    have e:(⟨b,o,none⟩:Addr).add j=⟨b,o+j,none⟩:=by unfold Addr.add;split <;> simp_all
    rw [e];have hs:=jyq qs (j / 2) (j % 2) (by omega) (by omega);rw [show j / 2*2+j % 2=j by omega,hu] at hs;obtain ⟨k0,k1⟩:=hc (j / 2) (by omega);rcases Nat.mod_two_eq_zero_or_one j with hz|hz
    ·rw [hz] at hs;simp [shs] at hs;rw [show o+j=o+j / 2*2 by omega,k0,hs];simp
    ·rw [hz] at hs;simp [shs] at hs;rw [show o+j=o+j / 2*2+1 by omega,k1,hs]
     simp)
  jC1
  (by simp only [maxLen];omega) (by omega) hb
 exact ⟨v',w',hr,by rw [jzi,jwL];exact k1,k2,k3⟩
end Go.Proofs.YtfagcpcikjlboaaGreatDoor
namespace Go.Proofs.YtfagcpcikjlboaaGreatDoor
open Go Go.RowKit Go.Sort Go.Proofs.Tryz

theorem jC0 (w:World):jzi (w.alloc (.cells #[] 49)) w.heap.size (.slice (some ⟨w.heap.size,0,none⟩) 0 0) 0 []:=World.ownsRow_made w #[] 0 (Nat.le_refl _) (Nat.zero_le _) rfl
theorem jzh {ops:Array Oper} {rest:List Oper} {o:Oper} {a:Act} {Q:Exit→Act→World→Prop} {w:World} {base n m N b d c:Nat} {v:Value} {ps qs:List (List UInt8×List UInt8)} (hg:o.guard=none) (s y:Operand)
  (ho:o.op= .call { callee:= .builtin .append,args:= #[s,y],argTypes:= #[50,50] }) (ht:o.type=50) (hs:a.eval s=v) (hy:a.eval y= .slice (some ⟨b,d,none⟩) m c)
  (h:jzi w base v n ps) (hn:n≤100000) (hm:m≤100000) (hN:n+m=N) (hb:base≤w.heap.size) (hq:qs.length=m)
  (hc:∀j,j < m→w.cell? ⟨b,d+j*2,none⟩=some (bs (qs.getD j ([],[])).1)∧w.cell? ⟨b,d+j*2+1,none⟩=some (bs (qs.getD j ([],[])).2))
  (hK:∀A' c' w',jzi w' base (.slice A' N c') N (ps++qs)→w.grownBy w' v.ownBlock→((Value.slice A' N c').ownBlock=v.ownBlock∨(Value.slice A' N c').ownBlock=some w.heap.size)→wpList prog ops Q rest (a.put o.dst (.slice A' N c')) w'):wpList prog ops Q (o::rest) a w:=by
 subst hN;obtain ⟨v',w',hr,k1,k2,k3⟩:=jBG h hn hm hb hq hc;obtain ⟨A',c',rfl⟩:=k1.slice;refine wpList_plain hg fun K' hK'=> ?_
 exact jiI s y ho hs hy (by rw [ht];exact hr) (hK' _ _ (hK A' c' w' k1 k2 k3))
theorem jBj:∀{ps:List (List UInt8×List UInt8)} {i:Nat} {t:List UInt8},(shs ps).set (i*2+1) (bs t)=shs (ps.set i ((ps.getD i ([],[])).1,t))
 | [],i,t=>by simp [shs]
 | p::r,0,t=>by simp [shs]
 | p::r,i+1,t=>by
   have h:=jBj (ps:=r) (i:=i) (t:=t);rw [show (i+1)*2+1=(i*2+1)+1+1 by omega];simp only [shs,List.flatMap_cons,List.cons_append,List.nil_append,List.set_cons_succ,List.getD_cons_succ] at h ⊢;rw [h]
theorem jzi.put {w:World} {base g n c i:Nat} {ps:List (List UInt8×List UInt8)} {t:List UInt8} (h:jzi w base (.slice (some ⟨g,0,none⟩) n c) n ps):
  jzi (w.setCell ⟨g,i*2+1,none⟩ (bs t)) base (.slice (some ⟨g,0,none⟩) n c) n (ps.set i ((ps.getD i ([],[])).1,t))∧w.grownBy (w.setCell ⟨g,i*2+1,none⟩ (bs t)) (some g):=by
 have:=World.ownsRow.stored h (i*2+1) (bs t);rw [jBj] at this;exact this
section
variable {w:World} {A:Option Addr} {c k m:Nat} {ks:List (List UInt8)} {cs:List (List UInt8×Rat)} {y:List UInt8} {r:Rat}
end
end Go.Proofs.YtfagcpcikjlboaaGreatDoor
namespace Go.Proofs.YtfagcpcikjlboaaGreatDoor
open Go Go.RowKit

structure Ptv (w:World) (A:Option Addr) (n:Nat) (qs:List (Rat×Rat)):Prop where
 len:qs.length=n
 at_:0 < n→∃b o,A=some ⟨b,o,none⟩∧b < w.heap.size∧∀j,j < n→∃q:PT,(∀k u,(ptc q)[k]? =some u→w.cell? ⟨b,o+j*8+k,none⟩=some u)∧jwy w q (qs.getD j (0,0))
theorem jwy.below {w w':World} {q:PT} {x:Rat×Rat} (h:jwy w q x) (hb:Below w.heap.size w w'):jwy w' q x:=⟨RepF.below h.1 hb,RepF.below h.2 hb⟩
theorem Ptv.below {w w':World} {A:Option Addr} {n:Nat} {qs:List (Rat×Rat)} (h:Ptv w A n qs) (hb:Below w.heap.size w w'):Ptv w' A n qs:=
 ⟨h.len,fun hn=>by
   obtain ⟨b,o,e,h1,h2⟩:=h.at_ hn
   exact ⟨b,o,e,Nat.lt_of_lt_of_le h1 hb.size,fun j hj=>by
    obtain ⟨q,h3,h4⟩:=h2 j hj
    exact ⟨q,fun k u hu=>ja9 hb (h3 k u hu),h4.below hb⟩⟩⟩
section
variable {w:World} {A:Option Addr} {n c:Nat} {ls:List (List UInt8×List UInt8)}
end
end Go.Proofs.YtfagcpcikjlboaaGreatDoor
