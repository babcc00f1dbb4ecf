/- Parts. -/
import Derived.Test.YtpkcjfpgemdfdaaGreatDoorZaG
import Derived.Test.YtpkcjfpgemdfdaaGreatDoorDbG
set_option linter.all false
set_option maxRecDepth 100000
set_option maxHeartbeats 8000000
namespace Go.Proofs.YtpkcjfpgemdfdaaGreatDoor
open Go Go.RowKit Go.Proofs.Tryz

section
variable {mass:Int} {x:Rat} {ls:List (List UInt8)} {i n:Nat} {k:Nat}
theorem jfU {f:Nat→Int} (h:i < n):jar f ((List.range n).drop i)=if f i=0 then jar f ((List.range n).drop (i+1)) else f i:=by
 rw [List.drop_eq_getElem_cons (by rw [List.length_range];exact h),List.getElem_range];rfl
end
structure FBox (w:World) (g:Nat) (q:FT):Prop where
 heap:∃t,w.heap[g]? =some (.cells #[.int .i64 q.1.1, .slice q.1.2.1 q.1.2.2.1 q.1.2.2.2, .int .i64 q.2.1, .slice q.2.2.1 q.2.2.2.1 q.2.2.2.2] t (0,0))
theorem FBox.made (w:World) (t:TypeId) (s t':Int) (A B:Option Addr) (n c m d:Nat):FBox (w.alloc (.cells #[.int .i64 s, .slice A n c, .int .i64 t', .slice B m d] t)) w.heap.size ((s,A,n,c),(t',B,m,d)):=
 ⟨t,heap_alloc_new w _⟩
theorem FBox.lt {w:World} {g:Nat} {q:FT} (h:FBox w g q):g < w.heap.size:=by
 obtain ⟨t,h⟩:=h.heap;exact (Array.getElem?_eq_some_iff.1 h).1
theorem FBox.kept {w w':World} {g:Nat} {q:FT} (h:FBox w g q) (e:w'.heap[g]? =w.heap[g]?):FBox w' g q:=by
 obtain ⟨t,h⟩:=h.heap;exact ⟨t,e.trans h⟩
theorem FBox.below {w w':World} {g:Nat} {q:FT} (h:FBox w g q) (hb:Below w.heap.size w w'):FBox w' g q:=h.kept (hb.block g h.lt)
theorem FBox.nou {w:World} {g:Nat} {q:FT} (h:FBox w g q):NoU w g:=by
 obtain ⟨t,h⟩:=h.heap;exact ⟨_,t,_,h,fun u hu z=>jo6 (q:=q) u hu z⟩
theorem FBox.cells {w:World} {g:Nat} {q:FT} (h:FBox w g q):(w.cell? ⟨g,0,none⟩=some (.int .i64 q.1.1)∧w.cell? ⟨g,1,none⟩=some (.slice q.1.2.1 q.1.2.2.1 q.1.2.2.2)∧w.cell? ⟨g,2,none⟩=some (.int .i64 q.2.1)∧w.cell? ⟨g,3,none⟩=some (.slice q.2.2.1 q.2.2.2.1 q.2.2.2.2))∧(w.frozen? ⟨g,0,none⟩=false∧w.frozen? ⟨g,1,none⟩=false∧w.frozen? ⟨g,2,none⟩=false∧w.frozen? ⟨g,3,none⟩=false):=by
 obtain ⟨t,h⟩:=h.heap;refine ⟨⟨?_, ?_, ?_, ?_⟩, ?_, ?_, ?_, ?_⟩
 all_goals (first
  | (rw [cell_of_row w g _ _ t _ h];rfl)
  | (unfold World.frozen?;rw [h];rfl)
  | (simp [World.frozen?,h]))
def jt4 (w:World) (g:Nat) (q:FT):World:=(((w.setCell ⟨g,0,none⟩ (.int .i64 q.1.1)).setCell ⟨g,1,none⟩ (.slice q.1.2.1 q.1.2.2.1 q.1.2.2.2)).setCell ⟨g,2,none⟩ (.int .i64 q.2.1)).setCell ⟨g,3,none⟩ (.slice q.2.2.1 q.2.2.2.1 q.2.2.2.2)
theorem FBox.set {w:World} {g:Nat} {q:FT} (h:FBox w g q) (q':FT):FBox (jt4 w g q') g q':=by
 obtain ⟨t,h⟩:=h.heap;refine ⟨t, ?_⟩;simp only [jt4,World.setCell,Array.getElem?_modify,if_pos,h,Option.map_some];rfl
theorem jkH (w:World) (g:Nat) (q:FT):w.grownBy (jt4 w g q) (some g):=by
 refine ⟨rfl,rfl,rfl,by simp [jt4],fun k _ hk=> ?_⟩;have e:k≠g:=fun e=>hk (by rw [e])
 unfold jt4;rw [Below.heap_setCell _ _ _ _ e,Below.heap_setCell _ _ _ _ e,Below.heap_setCell _ _ _ _ e,Below.heap_setCell _ _ _ _ e]

section
variable {w:World} {A:Option Addr} {n c:Nat} {a:List UInt8} {ls:List (List UInt8)} {mass:Int}
end

theorem jdI {α:Type} {f:α→Int}:∀{l:List α},jar f l=0→∀x∈l,f x=0
 | [],_,x,h=>by cases h
 | y::r,h,x,hx=>by
   rw [jar] at h;by_cases e:f y=0
   ·rw [if_pos e] at h;rcases List.mem_cons.1 hx with rfl|hx
    ·exact e
    ·exact jdI h x hx
   ·rw [if_neg e] at h;exact absurd h e
section
variable {w:World} {A:Option Addr} {n c:Nat} {a:List UInt8} {ls:List (List UInt8)} {mass:Int}
end

section
variable {w:World} {A:Option Addr} {n c:Nat} {qs:List Rat}
end

section
variable {w:World} {A:Option Addr} {n c:Nat} {qs:List Rat}
end
section
variable {w:World} {A:Option Addr} {n c:Nat} {a:List UInt8} {ls:List (List UInt8)} {mass:Int}
end

theorem Env.awake6 {w W:World} (h:Env w) (hb:Below w.heap.size w W):Calls prog 9 #[] W fun e w'=>e= .returned (.bool true)∧Below W.heap.size W w':=by
 obtain ⟨m,hm⟩:=(h.below hb).max;exact E6.awake6 (h.tab W hb) ⟨_,hm⟩
section
variable {w:World} {A:Option Addr} {n c:Nat} {a:List UInt8} {ls:List (List UInt8)} {mass:Int}
end

abbrev Bd:=List UInt8×List UInt8×List UInt8
theorem Sv.three (w:World) (t:TypeId) (k l m:List UInt8):Sv (w.alloc (.cells #[bs k,bs l,bs m] t)) (some ⟨w.heap.size,0,none⟩) 3 [k,l,m]:=
 ⟨rfl,fun _=>⟨w.heap.size,0,rfl,by simp,fun j hj=>by
   match j,hj with
   | 0,_=>simp
   | 1,_=>simp
   | 2,_=>simp⟩⟩
section
variable {w:World} {A:Option Addr} {n c:Nat} {ls:List Bd}
end

section
variable {w:World} {A:Option Addr} {n c:Nat} {ls:List (List UInt8)}
theorem jz2 {R:Int} (h:Sv w A n ls) (hn:n≤1000) (hl:∀l∈ls,l.length≤15000) (hR:jar chk ls=R):
  Calls prog 6 #[.slice A n c] w fun e w'=>e= .returned (.int .i64 R)∧Below w.heap.size w w':=by
 have HR:=qh hR;have H:=qh h;have HN:=qh hn;have HF:=qh (fun l (h:l∈ls) W=>jpl (w:=W) rfl (hl l h));clear hR h hn hl;go_enter func6,ntmps6;go_wp2
 go_loopw [3] (fun u wr=>∃(i:Nat),u= .int .i64 (i:Int)∧Below w.heap.size w wr∧i≤n∧jar chk (ls.drop i)=R) (fun u _=>n - (intOf u).toNat)
 case atStart=>exact ⟨0,rfl,bi,by omega,HR.o⟩
 case round=>
  obtain ⟨i,rfl,hb,hin,hc⟩:=hrel;have _:=bm hb;by_cases hi:i < n
  ·have q0:decide ((i:Int) < (n:Int))=true:=by simp;exact hi
   obtain ⟨b,o,rfl,hbl,hcell⟩:=(H.o.below hb).at_ (by omega);have hx:=hcell i hi;have hil:i < ls.length:=by rw [H.o.len];exact hi
   rw [jd5 (d:=[]) hil] at hc;have hmem:ls.getD i []∈ls:=by rw [List.getD_eq_getElem?_getD,List.getElem?_eq_getElem hil];exact List.getElem_mem hil
   obtain ⟨x,hxx⟩:∃x,ls.getD i []=x:=⟨_,rfl⟩;rw [hxx] at hx hc hmem;have HX:=qh (HF.o x hmem);have hnn:=HN.o;have HI:=qh hi;clear hcell hmem hil hxx;by_cases h0:chk x=0
   ·have HC:Hd (jar chk (ls.drop (i+1))=R):=qh (by rw [←hc,jf3 h0]);rw [h0] at HX;clear hc h0 hi;go_wp2_with (go_at_call 18;(with_reducible refine mo0 (HX.o _) fun w1 hb1 hc1 hf1 _=> ?_))
    exact ⟨⟨i+1,by simp,bi,HI.o,HC.o⟩,by have:=HI.o;simp [intOf];omega⟩
   ·have hR:R=chk x:=by rw [←hc,jed h0]
    subst hR;obtain ⟨y,hy⟩:∃y,chk x=y:=⟨_,rfl⟩;rw [hy] at HX;have q1:(y != 0)=true:=by rw [bne_iff_ne,←hy];exact h0
    have HY:=qh hy;clear hc h0 hi hy HR;go_wp2_with (go_at_call 18;(with_reducible refine mo0 (HX.o _) fun w1 hb1 hc1 hf1 _=> ?_))
    go_ret;exact ⟨by rw [HY.o];rfl,bi⟩
  ·have q0:decide (i < n)=false:=by simp;omega
   rw [List.drop_eq_nil_of_le (by rw [H.o.len];omega)] at hc;have hR:R=0:=by rw [←hc];rfl
   subst hR;clear hc hi HR;go_wp2;go_ret;exact ⟨rfl,bi⟩
end
section
variable {w:World} {A:Option Addr} {n c:Nat} {ls:List Bd}
end

section
variable {w:World} {A:Option Addr} {n c:Nat} {ls:List Bd} {x y:Rat} {k:Nat}
end

section
variable {w:World} {A:Option Addr} {n c:Nat} {ls:List Bd} {x y:Rat} {mass:Int}
end

section
variable {w:World} {A:Option Addr} {n c:Nat} {ls:List Bd} {a t:List UInt8} {mass:Int}
end

structure FC (w:World) (g:Nat) (q:FT):Prop where
 c0:w.cell? ⟨g,0,none⟩=some (.int .i64 q.1.1)
 c1:w.cell? ⟨g,1,none⟩=some (.slice q.1.2.1 q.1.2.2.1 q.1.2.2.2)
 c2:w.cell? ⟨g,2,none⟩=some (.int .i64 q.2.1)
 c3:w.cell? ⟨g,3,none⟩=some (.slice q.2.2.1 q.2.2.2.1 q.2.2.2.2)
 fz:∀o,w.frozen? ⟨g,o,none⟩=false
theorem FC.lt {w:World} {g:Nat} {q:FT} (h:FC w g q):g < w.heap.size:=World.block_lt_of_cell? w _ h.c0
theorem FC.below {w w':World} {g:Nat} {q:FT} (h:FC w g q) (hb:Below w.heap.size w w'):FC w' g q:=
 ⟨ja9 hb h.c0,ja9 hb h.c1,ja9 hb h.c2,ja9 hb h.c3,fun o=>(hb.frozen (p:=⟨g,o,none⟩) h.lt).trans (h.fz o)⟩
theorem FC.set {w:World} {g:Nat} {q:FT} (h:FC w g q) (q':FT):FC (jt4 w g q') g q':=by
 obtain ⟨h0,h1,h2,h3,h4⟩:=h;refine ⟨?_, ?_, ?_, ?_,fun o=> ?_⟩
 all_goals simp [jt4,go_sem,h0,h1,h2,h3,h4]
theorem FC.other {w:World} {g b:Nat} {q q':FT} (h:FC w g q) (hne:g≠b):FC (jt4 w b q') g q:=by
 obtain ⟨h0,h1,h2,h3,h4⟩:=h;have hne':b≠g:=fun e=>hne e.symm
 refine ⟨?_, ?_, ?_, ?_,fun o=> ?_⟩
 all_goals simp [jt4,go_sem,h0,h1,h2,h3,h4,hne,hne']
theorem FC.rep {w:World} {g:Nat} {q q' p:FT} {x:Rat} (h:FC w g q) (r:jlE w p x):jlE (jt4 w g q') p x:=by
 obtain ⟨h0,h1,h2,h3,_⟩:=h;unfold jt4;constructor
 ·exact rP (rP r.1 rfl ⟨⟨_,h0⟩,_,_,_,h1⟩) rfl ⟨⟨q.2.1,by simp [go_sem,h2]⟩,q.2.2.1,q.2.2.2.1,q.2.2.2.2,by simp [go_sem,h3]⟩
 ·exact rP (rP r.2 rfl ⟨⟨_,h0⟩,_,_,_,h1⟩) rfl ⟨⟨q.2.1,by simp [go_sem,h2]⟩,q.2.2.1,q.2.2.2.1,q.2.2.2.2,by simp [go_sem,h3]⟩
theorem FC.made (w:World) (t:TypeId) (s t':Int) (A B:Option Addr) (n c m d:Nat):FC (w.alloc (.cells #[.int .i64 s, .slice A n c, .int .i64 t', .slice B m d] t)) w.heap.size ((s,A,n,c),(t',B,m,d)):=by
 refine ⟨?_, ?_, ?_, ?_,fun o=> ?_⟩
 all_goals simp [go_sem]
section
variable {w W:World} {g b:Nat} {q p:FT} {x:Rat} {s t:Int} {A B:Option Addr} {n c m d:Nat}
theorem FC.setR (h:FC w g q):FC ((((w.setCell ⟨g,0,none⟩ (.int .i64 s)).setCell ⟨g,1,none⟩ (.slice A n c)).setCell ⟨g,2,none⟩ (.int .i64 t)).setCell ⟨g,3,none⟩ (.slice B m d)) g ((s,A,n,c),(t,B,m,d)):=h.set ((s,A,n,c),(t,B,m,d))
theorem FC.repR (h:FC w g q) (r:jlE w p x):jlE ((((w.setCell ⟨g,0,none⟩ (.int .i64 s)).setCell ⟨g,1,none⟩ (.slice A n c)).setCell ⟨g,2,none⟩ (.int .i64 t)).setCell ⟨g,3,none⟩ (.slice B m d)) p x:=h.rep (q':=((s,A,n,c),(t,B,m,d))) r
theorem jzf (h:Below W.heap.size W w) (hg:W.heap.size≤g):Below W.heap.size W ((((w.setCell ⟨g,0,none⟩ (.int .i64 s)).setCell ⟨g,1,none⟩ (.slice A n c)).setCell ⟨g,2,none⟩ (.int .i64 t)).setCell ⟨g,3,none⟩ (.slice B m d)):=bC (bC (bC (bC h hg) hg) hg) hg
end

abbrev PT:=FT×FT
def ptc (q:PT):List Value:=fts q.1++fts q.2
def ptl (qs:List PT):List Value:=qs.flatMap ptc
theorem jx7 (q:PT):(ptc q).length=8:=rfl
theorem jwY (a b:List PT):ptl (a++b)=ptl a++ptl b:=by simp [ptl]
theorem jxI (a:List PT):(ptl a).length=a.length*8:=by
 induction a with
 | nil=>rfl
 | cons q r ih=>rw [show ptl (q::r)=ptl [q]++ptl r from jwY [q] r,List.length_append,ih,show (ptl [q]).length=8 from rfl,List.length_cons];omega
theorem jyl:∀(a:List PT) (j k:Nat) (q:PT),a[j]? =some q→k < 8→(ptl a)[j*8+k]? =(ptc q)[k]?
 | [],j,k,q,h,_=>by simp at h
 | p::r,0,k,q,h,hk=>by
   simp at h;subst h;rw [show ptl (p::r)=ptc p++ptl r from rfl,Nat.zero_mul,Nat.zero_add,List.getElem?_append_left (by rw [jx7];exact hk)]
 | p::r,j+1,k,q,h,hk=>by
   rw [show ptl (p::r)=ptc p++ptl r from rfl,List.getElem?_append_right (by rw [jx7];omega)];have e:(j+1)*8+k - (ptc p).length=j*8+k:=by rw [jx7];omega
   rw [e,jyl r j k q (by simpa using h) hk]
abbrev jwy (w:World) (q:PT) (x:Rat×Rat):Prop:=jlE w q.1 x.1∧jlE w q.2 x.2
theorem jy1 {q:PT}:∀u∈ptc q,∀z,u≠ .int .u64 z:=by
 intro u hu z;rcases List.mem_append.1 hu with hu|hu
 ·exact jo6 u hu z
 ·exact jo6 u hu z
theorem jA9:(prog.info? 91).map (fun i=>(i.zero,i.size,i.bytes))=some (some (.agg #[.int .i64 0, .slice none 0 0, .int .i64 0, .slice none 0 0, .int .i64 0, .slice none 0 0, .int .i64 0, .slice none 0 0]),8,128):=by kernel_rfl
structure OwnP (w:World) (base:Nat) (v:Value) (n:Nat) (vs:List PT) (qs:List (Rat×Rat)):Prop where
 row:w.ownsRow base 91 8 v n (ptl vs)
 len:vs.length=qs.length
 rep:∀(j:Nat) (q:PT) (x:Rat×Rat),vs[j]? =some q→qs[j]? =some x→jwy w q x
 nou:∀g,v.ownBlock=some g→NoU w g
theorem OwnP.nil (w:World) (base:Nat):OwnP w base (.slice none 0 0) 0 [] []:=⟨World.ownsRow_nil _ _ _ _,rfl,fun j q x h=>by simp at h,fun g h=>by cases h⟩
theorem OwnP.kept {w w':World} {base n:Nat} {v:Value} {vs:List PT} {qs:List (Rat×Rat)} {row:Option Nat} (h:OwnP w base v n vs qs) (hg:w.grownBy w' row) (hr:∀g,row=some g→NoU w g) (hne:∀g,v.ownBlock=some g→some g≠row):OwnP w' base v n vs qs:=
 ⟨World.ownsRow.kept h.row hg (by cases e:v.ownBlock with|none=>exact .inl rfl|some g=>exact .inr (hne g e)),h.len,fun j q x h1 h2=>⟨⟨(h.rep j q x h1 h2).1.1.grown hg hr,(h.rep j q x h1 h2).1.2.grown hg hr⟩,⟨(h.rep j q x h1 h2).2.1.grown hg hr,(h.rep j q x h1 h2).2.2.grown hg hr⟩⟩,
   fun g e=>(h.nou g e).kept (hg.block g (World.ownsRow.lt h.row g e).2 (hne g e))⟩
theorem OwnP.below {w w':World} {base n:Nat} {v:Value} {vs:List PT} {qs:List (Rat×Rat)} (h:OwnP w base v n vs qs) (hb:Below w.heap.size w w'):OwnP w' base v n vs qs:=
 h.kept (jeZ hb) (fun g e=>by cases e) (fun g _ e=>by cases e)
theorem OwnP.alloc {w:World} {base n:Nat} {v:Value} {vs:List PT} {qs:List (Rat×Rat)} (h:OwnP w base v n vs qs) (o:Obj):OwnP (w.alloc o) base v n vs qs:=h.below (bA bR)
theorem OwnP.lt {w:World} {base n:Nat} {v:Value} {vs:List PT} {qs:List (Rat×Rat)} (h:OwnP w base v n vs qs):∀k,v.ownBlock=some k→base≤k∧k < w.heap.size:=World.ownsRow.lt h.row
theorem OwnP.num {w:World} {base n:Nat} {v:Value} {vs:List PT} {qs:List (Rat×Rat)} (h:OwnP w base v n vs qs):qs.length=n:=by
 have:=h.row.1;rw [jxI] at this;have:=h.len;omega
theorem jA4 {w:World} {base n b c:Nat} {v:Value} {vs:List PT} {qs:List (Rat×Rat)} {q:PT} {x:Rat×Rat} (h:OwnP w base v n vs qs) (hn:n≤100000) (hb:base≤w.heap.size) (hq:jwy w q x)
  (h0:∀k u,(ptc q)[k]? =some u→w.cell? ⟨b,k,none⟩=some u):
  ∃v' w',(Builtin.append_ #[79,79] 79 #[v, .slice (some ⟨b,0,none⟩) 1 c]).run prog w= .ok v' w'∧OwnP w' base v' (n+1) (vs++[q]) (qs++[x])∧w.grownBy w' v.ownBlock∧(v'.ownBlock=v.ownBlock∨v'.ownBlock=some w.heap.size):=by
 obtain ⟨i,hi,hz0,hz1,hz2⟩:=info_parts jA9
 have hnews:∀j u,(ptl [q])[j]? =some u→w.cell? ((⟨b,0,none⟩:Addr).add j)=some u:=by
  intro j u hu;rw [jk6];exact h0 j u (by simpa [ptl] using hu)
 have hone:∀u∈ptl [q],u.oneCell'=true:=by intro u hu;simp [ptl,ptc,fts] at hu;rcases hu with rfl|rfl|rfl|rfl|rfl|rfl|rfl|rfl <;> rfl
 obtain ⟨v',w',hr,k1,k2,_,k3⟩:=run_append_own_at (P:=prog) w base 79 79 91 i _ 8 128 underlying79 hi hz0 hz1 hz2 rfl (by decide) v n (ptl vs) h.row ⟨b,0,none⟩ 1 c (ptl [q]) rfl hnews hone
  (by simp only [maxLen];omega) (by omega) hb
 have hzc:∀k,∀u∈(Builtin.zeroCells (Value.agg #[.int .i64 0, .slice none 0 0, .int .i64 0, .slice none 0 0, .int .i64 0, .slice none 0 0, .int .i64 0, .slice none 0 0]).cells k).toList,∀z,u≠ .int .u64 z:=by
  intro k u hu z;simp [Builtin.zeroCells,Value.cells] at hu;obtain ⟨i,_,rfl⟩:=hu;have:i % 8=0∨i % 8=1∨i % 8=2∨i % 8=3∨i % 8=4∨i % 8=5∨i % 8=6∨i % 8=7:=by omega
  rcases this with h|h|h|h|h|h|h|h <;> rw [h] <;> simp
 have hns:∀u∈ptl [q],∀z,u≠ .int .u64 z:=by
  intro u hu;simp only [ptl,List.flatMap_cons,List.flatMap_nil,List.append_nil] at hu;exact jy1 u hu
 have hnou:∀g,v'.ownBlock=some g→NoU w' g:=by
  rcases h.row.2 with ⟨rfl,rfl⟩|⟨g,cap,cur,rfl,hbg,hg,hnc,hcm,hcs,htake⟩
  ·have hr2:=run_append_nil (P:=prog) w 79 79 91 i _ underlying79 hi hz0 ⟨b,0,none⟩ 1 c (ptl [q]) (by simp [ptl,ptc,fts,hz1]) hnews (by omega) (by omega) (by rw [hz2];omega);rw [hr] at hr2;obtain ⟨rfl,rfl⟩:=Result.ok.inj hr2;intro g hg;simp [Value.ownBlock] at hg;subst hg;refine jgw fun u hu z=> ?_
   simp only [Array.toList_append,List.mem_append] at hu;rcases hu with hu|hu
   ·exact hns u hu z
   ·exact hzc _ u hu z
  ·have hcn:∀u∈cur.toList,∀z,u≠ .int .u64 z:=by
    obtain ⟨cur',t',f',e1,e2⟩:=h.nou g rfl;rw [hg] at e1;cases e1
    exact e2
   by_cases hroom:n+1≤cap
   ·have hr2:=run_append_room (P:=prog) w 79 79 91 i underlying79 hi g n cap cur hg ⟨b,0,none⟩ 1 c (ptl [q]) (by simp [ptl,ptc,fts,hz1]) hnews hone hroom (by rw [hz1,hcs];simp [ptl,ptc,fts];omega);rw [hr] at hr2;obtain ⟨rfl,rfl⟩:=Result.ok.inj hr2;intro k hk;simp [Value.ownBlock] at hk;subst hk;refine ⟨_,_,_,setRow_heap w g cur _ _ _ hg,fun u hu z=> ?_⟩;simp only [List.mem_append] at hu;rcases hu with (hu|hu)|hu
    ·exact hcn u (List.mem_of_mem_take hu) z
    ·exact hns u hu z
    ·exact hcn u (List.mem_of_mem_drop hu) z
   ·have holds:∀j u,(ptl vs)[j]? =some u→w.cell? ((⟨g,0,none⟩:Addr).add j)=some u:=h.row.cells (g:=g) rfl;have hr2:=run_append_grow (P:=prog) w 79 79 91 i _ underlying79 hi hz0 ⟨g,0,none⟩ n cap (ptl vs) (by rw [hz1];exact h.row.1) holds ⟨b,0,none⟩ 1 c (ptl [q]) (by simp [ptl,ptc,fts,hz1]) hnews (by omega) (by omega) (growslice_fits (by omega) (by rw [hz2];omega));rw [hr] at hr2;obtain ⟨rfl,rfl⟩:=Result.ok.inj hr2;intro k hk;simp [Value.ownBlock] at hk;subst hk;refine jgw fun u hu z=> ?_
    simp only [Array.toList_append,List.mem_append] at hu;rcases hu with (hu|hu)|hu
    ·refine hcn u ?_ z;have hu':u∈ptl vs:=hu;rw [←htake] at hu';exact List.mem_of_mem_take hu'
    ·exact hns u hu z
    ·exact hzc _ u hu z
 refine ⟨v',w',hr,⟨by rw [jwY];exact k1,by simp [h.len],fun j p y e1 e2=> ?_,hnou⟩,k2,k3⟩;have hlen:=h.len;have hgr (p:PT) (y:Rat×Rat) (hp:jwy w p y):jwy w' p y:=⟨⟨hp.1.1.grown k2 (fun g e=>h.nou g e),hp.1.2.grown k2 (fun g e=>h.nou g e)⟩,⟨hp.2.1.grown k2 (fun g e=>h.nou g e),hp.2.2.grown k2 (fun g e=>h.nou g e)⟩⟩;by_cases hj:j < vs.length
 ·rw [List.getElem?_append_left hj] at e1;rw [List.getElem?_append_left (by omega)] at e2;exact hgr _ _ (h.rep j p y e1 e2)
 ·rw [List.getElem?_append_right (by omega)] at e1;rw [List.getElem?_append_right (by omega)] at e2
  have:j - vs.length=0:=by
   rcases Nat.eq_zero_or_pos (j - vs.length) with h|h
   ·exact h
   ·rw [List.getElem?_eq_none (by simp;omega)] at e1;cases e1
  rw [this] at e1;rw [show j - qs.length=0 by omega] at e2;simp at e1 e2;subst e1 e2;exact hgr _ _ hq
theorem jyW {o:Oper} {a:Act} {K:Act→World→Prop} {Q:Exit→Act→World→Prop} {w:World} {base n b c:Nat} {v:Value} {vs:List PT} {qs:List (Rat×Rat)} {q:PT} {x:Rat×Rat} (s y:Operand)
  (ho:o.op= .call { callee:= .builtin .append,args:= #[s,y],argTypes:= #[79,79] }) (ht:o.type=79) (hs:a.eval s=v) (hy:a.eval y= .slice (some ⟨b,0,none⟩) 1 c)
  (h:OwnP w base v n vs qs) (hn:n≤100000) (hb:base≤w.heap.size) (hq:jwy w q x)
  (h0:∀k u,(ptc q)[k]? =some u→w.cell? ⟨b,k,none⟩=some u)
  (hK:∀v' w',OwnP w' base v' (n+1) (vs++[q]) (qs++[x])→w.grownBy w' v.ownBlock→(v'.ownBlock=v.ownBlock∨v'.ownBlock=some w.heap.size)→K (a.put o.dst v') w'):o.wp prog a w K Q:=by
 obtain ⟨v',w',hr,k1,k2,k3⟩:=jA4 h hn hb hq h0;exact jdG s y ho hs hy (by rw [ht];exact hr) (hK v' w' k1 k2 k3)

section
variable {w:World} {A:Option Addr} {n c:Nat} {ps:List (List UInt8×List UInt8)} {ls:List Lay}
end

section
variable {w:World} {l:List UInt8}
end
section
variable {w:World} {A:Option Addr} {n c:Nat} {ls:List (List UInt8×List UInt8)} {d:Nat}
end

abbrev ly (g:List UInt8) (m:Int) (A:Option Addr) (n c:Nat):Value:= .agg #[bs g, .int .i64 m, .slice A n c]
section
variable {w:World} {A B:Option Addr} {n m c c':Nat} {ps qs:List (List UInt8×List UInt8)} {g g':List UInt8} {z z':Int} {d:Nat}
end

noncomputable def lots (ks:List (List UInt8)) (cs:List (List UInt8×Rat)):List (List UInt8×List UInt8):=ks.map (fun x=>(x,tq (tot cs x)))
section
variable {ks:List (List UInt8)} {cs:List (List UInt8×Rat)} {y:List UInt8} {r:Rat} {i:Nat}
end


structure PBox (w:World) (g:Nat) (x:List UInt8×List UInt8):Prop where
 c0:w.cell? ⟨g,0,none⟩=some (bs x.1)
 c1:w.cell? ⟨g,1,none⟩=some (bs x.2)
theorem PBox.below {w w':World} {g:Nat} {x:List UInt8×List UInt8} (h:PBox w g x) (hb:Below w.heap.size w w'):PBox w' g x:=⟨ja9 hb h.c0,ja9 hb h.c1⟩
theorem PBox.lt {w:World} {g:Nat} {x:List UInt8×List UInt8} (h:PBox w g x):g < w.heap.size:=World.block_lt_of_cell? w _ h.c0
theorem PBox.grown {w w':World} {g:Nat} {x:List UInt8×List UInt8} {row:Option Nat} (h:PBox w g x) (hg:w.grownBy w' row) (hne:some g≠row):PBox w' g x:=
 ⟨hg.cell h.c0 hne,hg.cell h.c1 hne⟩
theorem PBox.made (w:World) (t:TypeId) (x y:List UInt8):PBox (w.alloc (.cells #[bs x,bs y] t)) w.heap.size (x,y):=⟨by simp,by simp⟩
structure Ptv (w:World) (A:Option Addr) (n:Nat) (qs:List (Rat×Rat)):Prop where
 len:qs.length=n
 at_:0 < n→∃b o,A=some ⟨b,o,none⟩∧b < w.heap.size∧∀j,j < n→∃q:PT,(∀k u,(ptc q)[k]? =some u→w.cell? ⟨b,o+j*8+k,none⟩=some u)∧jwy w q (qs.getD j (0,0))
theorem jwy.below {w w':World} {q:PT} {x:Rat×Rat} (h:jwy w q x) (hb:Below w.heap.size w w'):jwy w' q x:=⟨RepF.below h.1 hb,RepF.below h.2 hb⟩
theorem Ptv.below {w w':World} {A:Option Addr} {n:Nat} {qs:List (Rat×Rat)} (h:Ptv w A n qs) (hb:Below w.heap.size w w'):Ptv w' A n qs:=
 ⟨h.len,fun hn=>by
   obtain ⟨b,o,e,h1,h2⟩:=h.at_ hn
   exact ⟨b,o,e,Nat.lt_of_lt_of_le h1 hb.size,fun j hj=>by
    obtain ⟨q,h3,h4⟩:=h2 j hj
    exact ⟨q,fun k u hu=>ja9 hb (h3 k u hu),h4.below hb⟩⟩⟩
theorem OwnP.ptv {w:World} {base n:Nat} {v:Value} {vs:List PT} {qs:List (Rat×Rat)} (h:OwnP w base v n vs qs):∃A c,v= .slice A n c∧Ptv w A n qs:=by
 have hl:=h.num;rcases h.row.2 with ⟨rfl,h1⟩|⟨g,cap,cur,rfl,hb,hg,hnc,hcm,hcs,ht⟩
 ·subst h1;exact ⟨none,0,rfl,hl,fun h=>by omega⟩
 ·refine ⟨some ⟨g,0,none⟩,cap,rfl,hl,fun _=>⟨g,0,rfl,(Array.getElem?_eq_some_iff.1 hg).1,fun j hj=> ?_⟩⟩;have hj1:j < vs.length:=by have:=h.len;omega
  have e1:vs[j]? =some vs[j]:=List.getElem?_eq_getElem hj1
  have e2:qs[j]? =some (qs.getD j (0,0)):=by rw [List.getD_eq_getElem?_getD,List.getElem?_eq_getElem (by omega)];rfl
  refine ⟨vs[j],fun k u hu=> ?_,h.rep j _ _ e1 e2⟩;have hk:k < 8:=by have:=(List.getElem?_eq_some_iff.1 hu).1;rwa [jx7] at this
  have:=World.ownsRow.cells h.row (g:=g) rfl (j*8+k) u (by rw [jyl vs j k _ e1 hk,hu]);rw [jk6] at this;rw [Nat.zero_add];exact this
noncomputable def pq (l:List UInt8×List UInt8):Rat×Rat:=(numQ l.1,numQ l.2)
section
variable {w:World} {A:Option Addr} {n c:Nat} {ls:List (List UInt8×List UInt8)}
set_option maxHeartbeats 16000000 in
theorem jyN (hE:Env w) (h:Pv w A n ls) (hn:n≤100) (hN:∀j,j < n→IsNum (ls.getD j ([],[])).1 (numQ (ls.getD j ([],[])).1)∧IsNum (ls.getD j ([],[])).2 (numQ (ls.getD j ([],[])).2)):
  Calls prog 38 #[.slice A n c] w fun e w'=>∃v vs,e= .returned v∧OwnP w' w.heap.size v n vs (ls.map pq)∧Below w.heap.size w w':=by
 have HE:=qh hE;have H:=qh h;have HN:=qh (ai hn hN);clear hE h hn hN;go_enter func38,ntmps38;go_wp2
 go_loopw [3,8] (fun v u wr=>∃(i:Nat) (vs:List PT),u= .int .i64 (i:Int)∧i≤n∧Below w.heap.size w wr∧OwnP wr w.heap.size v i vs ((ls.take i).map pq)) (fun _ u _=>n - (intOf u).toNat)
 case atStart=>exact ⟨0,[],rfl,Nat.zero_le _,bi,OwnP.nil _ _⟩
 case round=>
  obtain ⟨i,vs,rfl,hin,hb,hV⟩:=hrel;have _:=bm hb;obtain ⟨hnn,hN⟩:=HN.o;by_cases hi:i < n
  ·have q0:decide ((i:Int) < (n:Int))=true:=by simp;exact hi
   have q9:decide (i < n)=true:=by simpa using hi
   obtain ⟨b,o,rfl,hbl,hcell⟩:=(H.o.below hb).at_ (by omega);obtain ⟨y0,y1⟩:=hcell i hi;obtain ⟨N0,N1⟩:=hN i hi;have hil:i < ls.length:=by rw [H.o.len];exact hi
   have htk:(ls.take (i+1)).map pq=(ls.take i).map pq++[pq (ls.getD i ([],[]))]:=by rw [List.take_add_one,List.getElem?_eq_getElem hil,List.map_append,List.getD_eq_getElem?_getD,List.getElem?_eq_getElem hil];rfl
   obtain ⟨⟨x0,x1⟩,hx⟩:∃x,ls.getD i ([],[])=x:=⟨_,rfl⟩;rw [hx] at y0 y1 N0 N1 htk;dsimp only at y0 y1 N0 N1;obtain ⟨p,hp⟩:∃p,numQ x0=p:=⟨_,rfl⟩;obtain ⟨q,hq⟩:∃p,numQ x1=p:=⟨_,rfl⟩;rw [show pq (x0,x1)=(p,q) by unfold pq;rw [hp,hq]] at htk;rw [hp] at N0;rw [hq] at N1;have HX0:=qh N0;have HX1:=qh N1;have HT:=qh htk;have HI:=qh hi;have HV:=qh hV;have hER:=HE.o.below hb;clear hcell hN N0 N1 hx hp hq htk hil hV;go_upto_region 5 with (fail)
   have hP:=PBox.made wr 38 x0 x1;have bW:Below wr.heap.size wr (wr.alloc (.cells #[bs x0,bs x1] 38)):=bA bR;obtain ⟨g,hg⟩:∃g,wr.heap.size=g:=⟨_,rfl⟩;obtain ⟨W,hW⟩:∃W,wr.alloc (.cells #[bs x0,bs x1] 38)=W:=⟨_,rfl⟩;rw [hW] at hP bW ⊢;rw [hg] at hP ⊢;have HW:=qh (ai (HV.o.below bW) (ja0 hb bW));have HEW:=qh (hER.below bW);have hsz:w.heap.size≤W.heap.size:=(ja0 hb bW).size
   have HG:=qh (show ∀k,u3.ownBlock=some k→g≠k from fun k e=>by
    have:=(HV.o.lt k e).2
    omega)
   have HPB:=qh hP;have hi6:i≤100000:=by omega
   clear hW hg y0 y1 hER bW hb hP;refine ja1 (fun w'=>PBox w' g (x0,x1)) [] (by kernel_rfl) ?_;have hS0:PBox W.drew g (x0,x1):=HPB.o.below (bD bR);refine tk 0 (u3) [] rfl (by kernel_rfl) pk (by rfl) ?_ hS0 ?_
   ·intro w' hS';obtain _:=hS';go_simp
   simp only [ppq];refine tk 1 (.pointer (some ⟨g,0,none⟩)) [] rfl (by kernel_rfl) pk (by rfl) ?_ hS0 ?_
   ·intro w' hS';obtain _:=hS';go_simp
   simp only [ppq];refine tk 2 (bs x0) [] rfl (by kernel_rfl) pk (by rfl) ?_ hS0 ?_
   ·intro w' hS';obtain ⟨k0,_⟩:=hS';go_simp
   simp only [ppq];refine tk 4 (.pointer (some ⟨g,1,none⟩)) [] rfl (by kernel_rfl) pk (by rfl) ?_ hS0 ?_
   ·intro w' hS';obtain _:=hS';go_simp
   simp only [ppq];refine tk 5 (bs x1) [] rfl (by kernel_rfl) pk (by rfl) ?_ hS0 ?_
   ·intro w' hS';obtain ⟨_,k1⟩:=hS';go_simp
   simp only [ppq];clear hS0;refine rd1 3 (by kernel_rfl) rfl (fun K hK=> ?_);go_simp;go_wp2_with (go_at_call 39;(with_reducible refine mf0 (jaz HX0.o (HEW.o.below bi)) fun w1 s1 A1 n1 c1 t1 B1 m1 d1 hr1 hq1 hb1 hc1 hf1 _=> ?_))
   refine hK.out _ _ (fun _=>HPB.o.below bi) ?_;clear hK K;refine rd1 6 (by kernel_rfl) rfl (fun K hK=> ?_);go_simp;go_wp2_with (go_at_call 39;(with_reducible refine mf0 (jaz HX1.o (HEW.o.below bi)) fun w2 s2 A2 n2 c2 t2 B2 m2 d2 hr2 hq2 hb2 hc2 hf2 _=> ?_))
   refine hK.out _ _ (fun _=>HPB.o.below bi) ?_;clear hK K;refine rd1 7 (by kernel_rfl) rfl (fun K hK=> ?_);go_simp;refine hK.out _ _ (fun _=>HPB.o.below bi) ?_;clear hK K;refine rd1 8 (by kernel_rfl) rfl (fun K hK=> ?_);go_simp;refine hK.out _ _ (fun _=>HPB.o.below bi) ?_;clear hK K;have r1:RepF w2 s1 A1 n1 c1 t1 B1 m1 d1 p:=(by constructor <;> (with_reducible repeat first|assumption|apply rZ|refine rP ?_ rfl (by simp [go_sem,hc2])));refine rd1 9 (by kernel_rfl) rfl (fun K hK=> ?_);rw [if_pos (by rfl)];refine jyW (base:=w.heap.size) (v:=u3) (q:=(((s1,A1,n1,c1),t1,B1,m1,d1),((s2,A2,n2,c2),t2,B2,m2,d2))) (x:=(p,q)) _ _ rfl rfl rfl rfl (HW.o.1.below bi) hi6 (Nat.le_trans hsz (Below.size bi)) ⟨RepF.below r1 (bA bR),RepF.below ⟨hr2,hq2⟩ (bA bR)⟩ (fun k u hu=>by simpa [go_sem,ptc,fts] using hu) ?_;intro v5 w5 hV5 hg5 hl5;have bU:RowKit.Below W.heap.size W (w2.alloc (.cells #[.int .i64 s1, .slice A1 n1 c1, .int .i64 t1, .slice B1 m1 d1, .int .i64 s2, .slice A2 n2 c2, .int .i64 t2, .slice B2 m2 d2] 91)):=bi;have HP5:=qh ((HPB.o.below bU).grown hg5 (fun e=>HG.o g e.symm rfl));have HV5:=qh hV5;have HB5:=qh ((ja0 HW.o.2 bU).trans (jab hg5 (Nat.le_trans hsz bU.size) (fun k e=>(HW.o.1.lt k e).1)));clear hV5 hg5 hl5 bU;refine hK.out _ _ (fun _=>HP5.o) ?_;clear hK K;refine rd1 10 (by kernel_rfl) rfl (fun K hK=> ?_);go_simp;refine hK.out _ _ (fun _=>HP5.o) ?_;clear hK K;refine ja2 (by kernel_rfl) ?_ _;go_wp2;exact ⟨⟨i+1,_,by simp,HI.o,HB5.o,by rw [HT.o];exact HV5.o⟩,by have:=HI.o;simp [intOf];omega⟩
  ·have q0:decide (i < n)=false:=by simp;omega
   obtain rfl:i=n:=by omega
   rw [List.take_of_length_le (by rw [H.o.len];exact Nat.le_refl _)] at hV;have HV:=qh hV;clear hV hi;go_wp2;go_ret;exact ⟨_,vs,rfl,HV.o,hb⟩
end
end Go.Proofs.YtpkcjfpgemdfdaaGreatDoor
