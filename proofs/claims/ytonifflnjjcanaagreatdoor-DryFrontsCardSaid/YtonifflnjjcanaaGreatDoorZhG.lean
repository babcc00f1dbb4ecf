/- Parts. -/
import Derived.Test.YtonifflnjjcanaaGreatDoorZaG
import Derived.Test.YtonifflnjjcanaaGreatDoorDbG
set_option linter.all false
set_option maxRecDepth 100000
set_option maxHeartbeats 8000000
namespace Go.Proofs.YtonifflnjjcanaaGreatDoor
open Go Go.RowKit Go.Proofs.Tryz

section
variable {mass:Int} {x:Rat} {ls:List (List UInt8)} {i n:Nat} {k:Nat}
end
def jt4 (w:World) (g:Nat) (q:FT):World:=(((w.setCell ⟨g,0,none⟩ (.int .i64 q.1.1)).setCell ⟨g,1,none⟩ (.slice q.1.2.1 q.1.2.2.1 q.1.2.2.2)).setCell ⟨g,2,none⟩ (.int .i64 q.2.1)).setCell ⟨g,3,none⟩ (.slice q.2.2.1 q.2.2.2.1 q.2.2.2.2)

section
variable {w:World} {A:Option Addr} {n c:Nat} {a:List UInt8} {ls:List (List UInt8)} {mass:Int}
end

section
variable {w:World} {A:Option Addr} {n c:Nat} {a:List UInt8} {ls:List (List UInt8)} {mass:Int}
end

section
variable {w:World} {A:Option Addr} {n c:Nat} {qs:List Rat}
end

section
variable {w:World} {A:Option Addr} {n c:Nat} {qs:List Rat}
end
section
variable {w:World} {A:Option Addr} {n c:Nat} {a:List UInt8} {ls:List (List UInt8)} {mass:Int}
end

theorem Env.awake6 {w W:World} (h:Env w) (hb:Below w.heap.size w W):Calls prog 5 #[] W fun e w'=>e= .returned (.bool true)∧Below W.heap.size W w':=by
 obtain ⟨m,hm⟩:=(h.below hb).max;exact E6.awake6 (h.tab W hb) ⟨_,hm⟩
section
variable {w:World} {A:Option Addr} {n c:Nat} {a:List UInt8} {ls:List (List UInt8)} {mass:Int}
end

abbrev Bd:=List UInt8×List UInt8×List UInt8
theorem Sv.three (w:World) (t:TypeId) (k l m:List UInt8):Sv (w.alloc (.cells #[bs k,bs l,bs m] t)) (some ⟨w.heap.size,0,none⟩) 3 [k,l,m]:=
 ⟨rfl,fun _=>⟨w.heap.size,0,rfl,by simp,fun j hj=>by
   match j,hj with
   | 0,_=>simp
   | 1,_=>simp
   | 2,_=>simp⟩⟩
theorem jxw (x:Rat):decide (sgn x.num < 0)=decide (x < 0):=by
 unfold sgn;by_cases h:x < 0
 ·rw [if_pos (jgN.2 h),decide_eq_true h];rfl
 ·rw [if_neg (fun e=>h (jgN.1 e)),decide_eq_false h,decide_eq_false_iff_not];split <;> omega
section
variable {w:World} {A:Option Addr} {n c:Nat} {ls:List Bd}
end

section
variable {w:World} {A:Option Addr} {n c:Nat} {ls:List (List UInt8)}
end
section
variable {w:World} {A:Option Addr} {n c:Nat} {ls:List Bd}
end

section
variable {w:World} {A:Option Addr} {n c:Nat} {ls:List Bd} {x y:Rat} {k:Nat}
end

section
variable {w:World} {A:Option Addr} {n c:Nat} {ls:List Bd} {x y:Rat} {mass:Int}
end

section
variable {w:World} {A:Option Addr} {n c:Nat} {ls:List Bd} {a t:List UInt8} {mass:Int}
end

structure FC (w:World) (g:Nat) (q:FT):Prop where
 c0:w.cell? ⟨g,0,none⟩=some (.int .i64 q.1.1)
 c1:w.cell? ⟨g,1,none⟩=some (.slice q.1.2.1 q.1.2.2.1 q.1.2.2.2)
 c2:w.cell? ⟨g,2,none⟩=some (.int .i64 q.2.1)
 c3:w.cell? ⟨g,3,none⟩=some (.slice q.2.2.1 q.2.2.2.1 q.2.2.2.2)
 fz:∀o,w.frozen? ⟨g,o,none⟩=false
theorem FC.lt {w:World} {g:Nat} {q:FT} (h:FC w g q):g < w.heap.size:=World.block_lt_of_cell? w _ h.c0
theorem FC.below {w w':World} {g:Nat} {q:FT} (h:FC w g q) (hb:Below w.heap.size w w'):FC w' g q:=
 ⟨ja9 hb h.c0,ja9 hb h.c1,ja9 hb h.c2,ja9 hb h.c3,fun o=>(hb.frozen (p:=⟨g,o,none⟩) h.lt).trans (h.fz o)⟩
theorem FC.set {w:World} {g:Nat} {q:FT} (h:FC w g q) (q':FT):FC (jt4 w g q') g q':=by
 obtain ⟨h0,h1,h2,h3,h4⟩:=h;refine ⟨?_, ?_, ?_, ?_,fun o=> ?_⟩
 all_goals simp [jt4,go_sem,h0,h1,h2,h3,h4]
theorem FC.other {w:World} {g b:Nat} {q q':FT} (h:FC w g q) (hne:g≠b):FC (jt4 w b q') g q:=by
 obtain ⟨h0,h1,h2,h3,h4⟩:=h;have hne':b≠g:=fun e=>hne e.symm
 refine ⟨?_, ?_, ?_, ?_,fun o=> ?_⟩
 all_goals simp [jt4,go_sem,h0,h1,h2,h3,h4,hne,hne']
theorem FC.rep {w:World} {g:Nat} {q q' p:FT} {x:Rat} (h:FC w g q) (r:jlE w p x):jlE (jt4 w g q') p x:=by
 obtain ⟨h0,h1,h2,h3,_⟩:=h;unfold jt4;constructor
 ·exact rP (rP r.1 rfl ⟨⟨_,h0⟩,_,_,_,h1⟩) rfl ⟨⟨q.2.1,by simp [go_sem,h2]⟩,q.2.2.1,q.2.2.2.1,q.2.2.2.2,by simp [go_sem,h3]⟩
 ·exact rP (rP r.2 rfl ⟨⟨_,h0⟩,_,_,_,h1⟩) rfl ⟨⟨q.2.1,by simp [go_sem,h2]⟩,q.2.2.1,q.2.2.2.1,q.2.2.2.2,by simp [go_sem,h3]⟩
theorem FC.made (w:World) (t:TypeId) (s t':Int) (A B:Option Addr) (n c m d:Nat):FC (w.alloc (.cells #[.int .i64 s, .slice A n c, .int .i64 t', .slice B m d] t)) w.heap.size ((s,A,n,c),(t',B,m,d)):=by
 refine ⟨?_, ?_, ?_, ?_,fun o=> ?_⟩
 all_goals simp [go_sem]
section
variable {w W:World} {g b:Nat} {q p:FT} {x:Rat} {s t:Int} {A B:Option Addr} {n c m d:Nat}
theorem FC.setR (h:FC w g q):FC ((((w.setCell ⟨g,0,none⟩ (.int .i64 s)).setCell ⟨g,1,none⟩ (.slice A n c)).setCell ⟨g,2,none⟩ (.int .i64 t)).setCell ⟨g,3,none⟩ (.slice B m d)) g ((s,A,n,c),(t,B,m,d)):=h.set ((s,A,n,c),(t,B,m,d))
theorem FC.otherR (h:FC w g q) (hne:g≠b):FC ((((w.setCell ⟨b,0,none⟩ (.int .i64 s)).setCell ⟨b,1,none⟩ (.slice A n c)).setCell ⟨b,2,none⟩ (.int .i64 t)).setCell ⟨b,3,none⟩ (.slice B m d)) g q:=h.other (q':=((s,A,n,c),(t,B,m,d))) hne
end

abbrev PT:=FT×FT
def ptc (q:PT):List Value:=fts q.1++fts q.2
def ptl (qs:List PT):List Value:=qs.flatMap ptc
theorem jx7 (q:PT):(ptc q).length=8:=rfl
theorem jwY (a b:List PT):ptl (a++b)=ptl a++ptl b:=by simp [ptl]
theorem jxI (a:List PT):(ptl a).length=a.length*8:=by
 induction a with
 | nil=>rfl
 | cons q r ih=>rw [show ptl (q::r)=ptl [q]++ptl r from jwY [q] r,List.length_append,ih,show (ptl [q]).length=8 from rfl,List.length_cons];omega
theorem jyl:∀(a:List PT) (j k:Nat) (q:PT),a[j]? =some q→k < 8→(ptl a)[j*8+k]? =(ptc q)[k]?
 | [],j,k,q,h,_=>by simp at h
 | p::r,0,k,q,h,hk=>by
   simp at h;subst h;rw [show ptl (p::r)=ptc p++ptl r from rfl,Nat.zero_mul,Nat.zero_add,List.getElem?_append_left (by rw [jx7];exact hk)]
 | p::r,j+1,k,q,h,hk=>by
   rw [show ptl (p::r)=ptc p++ptl r from rfl,List.getElem?_append_right (by rw [jx7];omega)];have e:(j+1)*8+k - (ptc p).length=j*8+k:=by rw [jx7];omega
   rw [e,jyl r j k q (by simpa using h) hk]
abbrev jwy (w:World) (q:PT) (x:Rat×Rat):Prop:=jlE w q.1 x.1∧jlE w q.2 x.2
theorem jy1 {q:PT}:∀u∈ptc q,∀z,u≠ .int .u64 z:=by
 intro u hu z;rcases List.mem_append.1 hu with hu|hu
 ·exact jo6 u hu z
 ·exact jo6 u hu z

section
variable {w:World} {A:Option Addr} {n c:Nat} {ps:List (List UInt8×List UInt8)} {ls:List Lay}
end

section
variable {w:World} {l:List UInt8}
end
section
variable {w:World} {A:Option Addr} {n c:Nat} {ls:List (List UInt8×List UInt8)} {d:Nat}
end

section
variable {w:World} {A B:Option Addr} {n m c c':Nat} {ps qs:List (List UInt8×List UInt8)} {g g':List UInt8} {z z':Int} {d:Nat}
end

noncomputable def lots (ks:List (List UInt8)) (cs:List (List UInt8×Rat)):List (List UInt8×List UInt8):=ks.map (fun x=>(x,tq (tot cs x)))
section
variable {ks:List (List UInt8)} {cs:List (List UInt8×Rat)} {y:List UInt8} {r:Rat} {i:Nat}
end


structure Ptv (w:World) (A:Option Addr) (n:Nat) (qs:List (Rat×Rat)):Prop where
 len:qs.length=n
 at_:0 < n→∃b o,A=some ⟨b,o,none⟩∧b < w.heap.size∧∀j,j < n→∃q:PT,(∀k u,(ptc q)[k]? =some u→w.cell? ⟨b,o+j*8+k,none⟩=some u)∧jwy w q (qs.getD j (0,0))
theorem jwy.below {w w':World} {q:PT} {x:Rat×Rat} (h:jwy w q x) (hb:Below w.heap.size w w'):jwy w' q x:=⟨RepF.below h.1 hb,RepF.below h.2 hb⟩
theorem Ptv.below {w w':World} {A:Option Addr} {n:Nat} {qs:List (Rat×Rat)} (h:Ptv w A n qs) (hb:Below w.heap.size w w'):Ptv w' A n qs:=
 ⟨h.len,fun hn=>by
   obtain ⟨b,o,e,h1,h2⟩:=h.at_ hn
   exact ⟨b,o,e,Nat.lt_of_lt_of_le h1 hb.size,fun j hj=>by
    obtain ⟨q,h3,h4⟩:=h2 j hj
    exact ⟨q,fun k u hu=>ja9 hb (h3 k u hu),h4.below hb⟩⟩⟩
section
variable {w:World} {A:Option Addr} {n c:Nat} {ls:List (List UInt8×List UInt8)}
end
end Go.Proofs.YtonifflnjjcanaaGreatDoor
