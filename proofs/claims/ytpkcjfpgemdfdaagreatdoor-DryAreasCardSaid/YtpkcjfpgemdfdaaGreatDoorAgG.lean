/- Parts. -/
import Derived.Test.YtpkcjfpgemdfdaaGreatDoorZhG
set_option linter.all false
set_option maxRecDepth 100000
set_option maxHeartbeats 8000000
namespace Go.Proofs.YtpkcjfpgemdfdaaGreatDoor
open Go Go.RowKit

section
variable {w:World} {s1 s2 s3 s4 t1 t2 t3 t4:Int} {A1 A2 A3 A4 B1 B2 B3 B4:Option Addr} {n1 n2 n3 n4 c1 c2 c3 c4 m1 m2 m3 m4 d1 d2 d3 d4:Nat} {x1 x2 x3 x4 y1 y2:Rat}
end


section
variable {w:World} {a b kind step:List UInt8} {x y s:Rat}
end

structure SC (w:World) (g:Nat) (q:PT):Prop where
 c0:w.cell? ⟨g,0,none⟩=some (.int .i64 q.1.1.1)
 c1:w.cell? ⟨g,1,none⟩=some (.slice q.1.1.2.1 q.1.1.2.2.1 q.1.1.2.2.2)
 c2:w.cell? ⟨g,2,none⟩=some (.int .i64 q.1.2.1)
 c3:w.cell? ⟨g,3,none⟩=some (.slice q.1.2.2.1 q.1.2.2.2.1 q.1.2.2.2.2)
 c4:w.cell? ⟨g,4,none⟩=some (.int .i64 q.2.1.1)
 c5:w.cell? ⟨g,5,none⟩=some (.slice q.2.1.2.1 q.2.1.2.2.1 q.2.1.2.2.2)
 c6:w.cell? ⟨g,6,none⟩=some (.int .i64 q.2.2.1)
 c7:w.cell? ⟨g,7,none⟩=some (.slice q.2.2.2.1 q.2.2.2.2.1 q.2.2.2.2.2)
 fz:∀o,w.frozen? ⟨g,o,none⟩=false
theorem SC.lt {w:World} {g:Nat} {q:PT} (h:SC w g q):g < w.heap.size:=World.block_lt_of_cell? w _ h.c0
theorem SC.below {w w':World} {g:Nat} {q:PT} (h:SC w g q) (hb:Below w.heap.size w w'):SC w' g q:=
 ⟨ja9 hb h.c0,ja9 hb h.c1,ja9 hb h.c2,ja9 hb h.c3,ja9 hb h.c4,ja9 hb h.c5,ja9 hb h.c6,ja9 hb h.c7,fun o=>(hb.frozen (p:=⟨g,o,none⟩) h.lt).trans (h.fz o)⟩
theorem SC.made (w:World) (t:TypeId) (s t' u v:Int) (A B C D:Option Addr) (n c m d i j o l:Nat):SC (w.alloc (.cells #[.int .i64 s, .slice A n c, .int .i64 t', .slice B m d, .int .i64 u, .slice C i j, .int .i64 v, .slice D o l] t)) w.heap.size (((s,A,n,c),(t',B,m,d)),((u,C,i,j),(v,D,o,l))):=by
 refine ⟨?_, ?_, ?_, ?_, ?_, ?_, ?_, ?_,fun o=> ?_⟩
 all_goals simp [go_sem]
section
variable {w:World} {A:Option Addr} {n cap:Nat} {hs:List Hr} {c:Clim} {a b d:List UInt8}
end

section
variable {w:World}
end
section
variable {w:World} {A:Option Addr} {n cap:Nat} {hs:List Hr} {c:Clim}
end

structure DBox (w:World) (g:Nat) (q:PT):Prop where
 heap:∃t,w.heap[g]? =some (.cells #[.int .i64 q.1.1.1, .slice q.1.1.2.1 q.1.1.2.2.1 q.1.1.2.2.2, .int .i64 q.1.2.1, .slice q.1.2.2.1 q.1.2.2.2.1 q.1.2.2.2.2, .int .i64 q.2.1.1, .slice q.2.1.2.1 q.2.1.2.2.1 q.2.1.2.2.2, .int .i64 q.2.2.1, .slice q.2.2.2.1 q.2.2.2.2.1 q.2.2.2.2.2] t (0,0))
theorem DBox.lt {w:World} {g:Nat} {q:PT} (h:DBox w g q):g < w.heap.size:=by
 obtain ⟨t,h⟩:=h.heap;exact (Array.getElem?_eq_some_iff.1 h).1
theorem DBox.kept {w w':World} {g:Nat} {q:PT} (h:DBox w g q) (e:w'.heap[g]? =w.heap[g]?):DBox w' g q:=by
 obtain ⟨t,h⟩:=h.heap;exact ⟨t,e.trans h⟩
theorem DBox.below {w w':World} {g:Nat} {q:PT} (h:DBox w g q) (hb:Below w.heap.size w w'):DBox w' g q:=h.kept (hb.block g h.lt)
theorem DBox.grown {w w':World} {g:Nat} {q:PT} {row:Option Nat} (h:DBox w g q) (hg:w.grownBy w' row) (hne:some g≠row):DBox w' g q:=h.kept (hg.block g h.lt hne)
theorem DBox.nou {w:World} {g:Nat} {q:PT} (h:DBox w g q):NoU w g:=by
 obtain ⟨t,h⟩:=h.heap;exact ⟨_,t,_,h,fun u hu z=>jy1 (q:=q) u (by simpa [ptc,fts] using hu) z⟩
theorem DBox.sc {w:World} {g:Nat} {q:PT} (h:DBox w g q):SC w g q:=by
 obtain ⟨t,h⟩:=h.heap;refine ⟨?_, ?_, ?_, ?_, ?_, ?_, ?_, ?_,fun o=> ?_⟩
 all_goals (first
  | (rw [cell_of_row w g _ _ t _ h];rfl)
  | (simp [World.frozen?,h]))
theorem jwA {w:World} {g:Nat} {cur:Array Value} {t:TypeId} {f:Nat×Nat} (k:Nat) (v:Value) (h:w.heap[g]? =some (.cells cur t f)):(w.setCell ⟨g,k,none⟩ v).heap[g]? =some (.cells (cur.setIfInBounds k v) t f):=by
 simp [World.setCell,Array.getElem?_modify,h]
theorem jwr {w:World} {g k:Nat} {v:Value}:w.grownBy (w.setCell ⟨g,k,none⟩ v) (some g):=
 ⟨rfl,rfl,rfl,by simp,fun j _ hj=>Below.heap_setCell _ _ _ _ (fun e=>hj (by rw [e]))⟩
theorem DBox.made (w:World) (ty:TypeId) (s t u v:Int) (A B C D:Option Addr) (n c m d i j o l:Nat):DBox (w.alloc (.cells #[.int .i64 s, .slice A n c, .int .i64 t, .slice B m d, .int .i64 u, .slice C i j, .int .i64 v, .slice D o l] ty)) w.heap.size (((s,A,n,c),(t,B,m,d)),((u,C,i,j),(v,D,o,l))):=
 ⟨ty,heap_alloc_new w _⟩
theorem DBox.setR {w:World} {g:Nat} {q:PT} {s t u v:Int} {A B C D:Option Addr} {n c m d i j o l:Nat} (h:DBox w g q):DBox ((((((((w.setCell ⟨g,0,none⟩ (.int .i64 s)).setCell ⟨g,1,none⟩ (.slice A n c)).setCell ⟨g,2,none⟩ (.int .i64 t)).setCell ⟨g,3,none⟩ (.slice B m d)).setCell ⟨g,4,none⟩ (.int .i64 u)).setCell ⟨g,5,none⟩ (.slice C i j)).setCell ⟨g,6,none⟩ (.int .i64 v)).setCell ⟨g,7,none⟩ (.slice D o l)) g (((s,A,n,c),(t,B,m,d)),((u,C,i,j),(v,D,o,l))):=by
 obtain ⟨ty,h⟩:=h.heap;refine ⟨ty, ?_⟩;have h1:=jwA 7 (.slice D o l) (jwA 6 (.int .i64 v) (jwA 5 (.slice C i j) (jwA 4 (.int .i64 u) (jwA 3 (.slice B m d) (jwA 2 (.int .i64 t) (jwA 1 (.slice A n c) (jwA 0 (.int .i64 s) h)))))));simp only [List.setIfInBounds_toArray,List.set_cons_zero,List.set_cons_succ] at h1;exact h1
theorem jwD {w:World} {g:Nat} {s t u v:Int} {A B C D:Option Addr} {n c m d i j o l:Nat}:w.grownBy ((((((((w.setCell ⟨g,0,none⟩ (.int .i64 s)).setCell ⟨g,1,none⟩ (.slice A n c)).setCell ⟨g,2,none⟩ (.int .i64 t)).setCell ⟨g,3,none⟩ (.slice B m d)).setCell ⟨g,4,none⟩ (.int .i64 u)).setCell ⟨g,5,none⟩ (.slice C i j)).setCell ⟨g,6,none⟩ (.int .i64 v)).setCell ⟨g,7,none⟩ (.slice D o l)) (some g):=by
 exact (((((((jwr.trans jwr).trans jwr).trans jwr).trans jwr).trans jwr).trans jwr).trans jwr)
theorem jyk {w W:World} {g:Nat} {s t u v:Int} {A B C D:Option Addr} {n c m d i j o l:Nat} (h:Below W.heap.size W w) (hg:W.heap.size≤g):Below W.heap.size W ((((((((w.setCell ⟨g,0,none⟩ (.int .i64 s)).setCell ⟨g,1,none⟩ (.slice A n c)).setCell ⟨g,2,none⟩ (.int .i64 t)).setCell ⟨g,3,none⟩ (.slice B m d)).setCell ⟨g,4,none⟩ (.int .i64 u)).setCell ⟨g,5,none⟩ (.slice C i j)).setCell ⟨g,6,none⟩ (.int .i64 v)).setCell ⟨g,7,none⟩ (.slice D o l)):=bC (bC (bC (bC (bC (bC (bC (bC h hg) hg) hg) hg) hg) hg) hg) hg
theorem jwy.grown {w w':World} {q:PT} {x:Rat×Rat} {row:Option Nat} (h:jwy w q x) (hg:w.grownBy w' row) (hr:∀g,row=some g→NoU w g):jwy w' q x:=
 ⟨⟨h.1.1.grown hg hr,h.1.2.grown hg hr⟩,⟨h.2.1.grown hg hr,h.2.2.grown hg hr⟩⟩
section
variable {w:World} {A:Option Addr} {n cap:Nat} {hs:List Hr} {c:Clim} {x y z:Rat} {s1 s2 s3 t1 t2 t3:Int} {A1 A2 A3 B1 B2 B3:Option Addr} {n1 n2 n3 c1 c2 c3 m1 m2 m3 d1 d2 d3:Nat}
end
end Go.Proofs.YtpkcjfpgemdfdaaGreatDoor
namespace Go.Proofs.YtpkcjfpgemdfdaaGreatDoor
open Go Go.RowKit Go.Sort

def Wr (x:Rat):Prop:=je3 x=false∧StrQ x
theorem Dz.wr {k:Nat} {x:Rat} (h:Dz k x) (hk:0 < k) (hk2:k≤600):Wr x:=by
 refine ⟨?_,h.strQ (by omega)⟩;have:=(jp0 h hk hk2).2.1;unfold jbq at this;cases e:je3 x
 ·rfl
 ·rw [e] at this;cases this
section
variable {w:World} {A:Option Addr} {n cap:Nat} {hs:List Hr} {c:Clim} {a b d:List UInt8}
end
end Go.Proofs.YtpkcjfpgemdfdaaGreatDoor
namespace Go.Proofs.YtpkcjfpgemdfdaaGreatDoor
open Go Go.RowKit

section
variable {w:World} {A:Option Addr} {n c p:Nat} {qs:List (Rat×Rat)} {x y z:Rat} {qd:FT} {s1 s2 t1 t2:Int} {A1 A2 B1 B2:Option Addr} {n1 n2 c1 c2 m1 m2 d1 d2:Nat}
end
section
variable {w:World} {A:Option Addr} {n cap:Nat} {hs:List Hr} {c:Clim} {a b d:List UInt8}
end
end Go.Proofs.YtpkcjfpgemdfdaaGreatDoor
