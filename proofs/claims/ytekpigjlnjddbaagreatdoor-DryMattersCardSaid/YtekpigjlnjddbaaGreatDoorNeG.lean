/- Parts. -/
import Derived.Test.YtekpigjlnjddbaaGreatDoorMrG
import Derived.MapKept
import Derived.Laws.EntriesVeiled
import Derived.Deep.CutRange
import Derived.Maps.Own
import Derived.Maps.OwnSet
import Derived.Maps.Views
set_option linter.all false
set_option maxRecDepth 100000
set_option maxHeartbeats 8000000
namespace Go.Proofs.YtekpigjlnjddbaaGreatDoor
open Go Go.RowKit

def NoU (w:World) (g:Nat):Prop:=∃cur t f,w.heap[g]? =some (.cells cur t f)∧∀u∈cur.toList,∀z,u≠ .int .u64 z
theorem NoU.cell {w:World} {g o:Nat} {z:Int} (h:NoU w g):w.cell? ⟨g,o,none⟩≠some (.int .u64 z):=by
 obtain ⟨cur,t,f,h1,h2⟩:=h;rw [cell_of_row w g o cur t f h1];intro e;exact h2 _ (by have:=Array.mem_of_getElem? e;simpa using this) z rfl
theorem NoU.kept {w w':World} {g:Nat} (h:NoU w g) (e:w'.heap[g]? =w.heap[g]?):NoU w' g:=by
 obtain ⟨cur,t,f,h1,h2⟩:=h;exact ⟨cur,t,f,e.trans h1,h2⟩
theorem Rep.grown {w w':World} {s z:Int} {A:Option Addr} {n c:Nat} {row:Option Nat} (h:Rep w s A n c z) (hg:w.grownBy w' row) (hr:∀g,row=some g→NoU w g):Rep w' s A n c z:=by
 have key {ds:List Nat} (hb:Big w A n c ds):Big w' A n c ds:=⟨⟨hb.wd.len,hb.wd.dig,hb.wd.big,fun hn=>by
  obtain ⟨b,o,e,hl,hc⟩:=hb.wd.at_ hn
  have hne:some b≠row:=fun e2=>by
   have:=(hr b e2.symm).cell (o:=o+0) (z:=((dg ds 0:Nat):Int));exact this (hc 0 hn)
  exact ⟨b,o,e,Nat.lt_of_lt_of_le hl hg.size,fun j hj=>hg.cell (hc j hj) hne⟩⟩,hb.trim,hb.cap,hb.lim,hb.big⟩
 cases h with
 | small _ h0 h1=>exact .small _ h0 h1
 | plus _ _ _ ds h=>exact .plus _ _ _ ds (key h)
 | minus _ _ _ ds h=>exact .minus _ _ _ ds (key h)
abbrev FT:=(Int×Option Addr×Nat×Nat)×(Int×Option Addr×Nat×Nat)
def fts (q:FT):List Value:=[.int .i64 q.1.1, .slice q.1.2.1 q.1.2.2.1 q.1.2.2.2, .int .i64 q.2.1, .slice q.2.2.1 q.2.2.2.1 q.2.2.2.2]
def ftl (qs:List FT):List Value:=qs.flatMap fts
theorem jcz (a b:List FT):ftl (a++b)=ftl a++ftl b:=by simp [ftl]
theorem jkZ (a:List FT):(ftl a).length=a.length*4:=by
 induction a with
 | nil=>rfl
 | cons q r ih=>rw [show ftl (q::r)=ftl [q]++ftl r from jcz [q] r,List.length_append,ih];simp [ftl,fts];omega
theorem jqB:∀(a:List FT) (j k:Nat) (q:FT),a[j]? =some q→k < 4→(ftl a)[j*4+k]? =(fts q)[k]?
 | [],j,k,q,h,_=>by simp at h
 | p::r,0,k,q,h,hk=>by
   simp at h;subst h;rw [show ftl (p::r)=ftl [p]++ftl r from jcz [p] r,List.getElem?_append_left (by simp [ftl,fts];omega)];simp [ftl]
 | p::r,j+1,k,q,h,hk=>by
   rw [show ftl (p::r)=ftl [p]++ftl r from jcz [p] r,List.getElem?_append_right (by simp [ftl,fts];omega)];have e:(j+1)*4+k - (ftl [p]).length=j*4+k:=by simp [ftl,fts];omega
   rw [e,jqB r j k q (by simpa using h) hk]
abbrev jlE (w:World) (q:FT) (x:Rat):Prop:=RepF w q.1.1 q.1.2.1 q.1.2.2.1 q.1.2.2.2 q.2.1 q.2.2.1 q.2.2.2.1 q.2.2.2.2 x
structure OwnF (w:World) (base:Nat) (v:Value) (n:Nat) (vs:List FT) (qs:List Rat):Prop where
 row:w.ownsRow base 82 4 v n (ftl vs)
 len:vs.length=qs.length
 rep:∀(j:Nat) (q:FT) (x:Rat),vs[j]? =some q→qs[j]? =some x→jlE w q x
 nou:∀g,v.ownBlock=some g→NoU w g
theorem OwnF.nil (w:World) (base:Nat):OwnF w base (.slice none 0 0) 0 [] []:=⟨World.ownsRow_nil _ _ _ _,rfl,fun j q x h=>by simp at h,fun g h=>by cases h⟩
theorem OwnF.kept {w w':World} {base n:Nat} {v:Value} {vs:List FT} {qs:List Rat} {row:Option Nat} (h:OwnF w base v n vs qs) (hg:w.grownBy w' row) (hr:∀g,row=some g→NoU w g) (hne:∀g,v.ownBlock=some g→some g≠row):OwnF w' base v n vs qs:=
 ⟨World.ownsRow.kept h.row hg (by cases e:v.ownBlock with|none=>exact .inl rfl|some g=>exact .inr (hne g e)),h.len,fun j q x h1 h2=>⟨(h.rep j q x h1 h2).1.grown hg hr,(h.rep j q x h1 h2).2.grown hg hr⟩,
   fun g e=>(h.nou g e).kept (hg.block g (World.ownsRow.lt h.row g e).2 (hne g e))⟩
theorem OwnF.below {w w':World} {base n:Nat} {v:Value} {vs:List FT} {qs:List Rat} (h:OwnF w base v n vs qs) (hb:Below w.heap.size w w'):OwnF w' base v n vs qs:=
 h.kept (jeZ hb) (fun g e=>by cases e) (fun g _ e=>by cases e)
theorem OwnF.alloc {w:World} {base n:Nat} {v:Value} {vs:List FT} {qs:List Rat} (h:OwnF w base v n vs qs) (o:Obj):OwnF (w.alloc o) base v n vs qs:=h.below (bA bR)
theorem OwnF.lt {w:World} {base n:Nat} {v:Value} {vs:List FT} {qs:List Rat} (h:OwnF w base v n vs qs):∀k,v.ownBlock=some k→base≤k∧k < w.heap.size:=World.ownsRow.lt h.row
theorem OwnF.num {w:World} {base n:Nat} {v:Value} {vs:List FT} {qs:List Rat} (h:OwnF w base v n vs qs):qs.length=n:=by
 have:=h.row.1;rw [jkZ] at this;have:=h.len;omega
theorem OwnF.qv {w:World} {base n:Nat} {v:Value} {vs:List FT} {qs:List Rat} (h:OwnF w base v n vs qs) (h0:0 < n):∃A c,v= .slice A n c∧Qv w A n qs:=by
 have hl:=h.num;rcases h.row.2 with ⟨rfl,h1⟩|⟨g,cap,cur,rfl,hb,hg,hnc,hcm,hcs,ht⟩
 ·omega
 ·refine ⟨some ⟨g,0,none⟩,cap,rfl,hl,fun _=>⟨g,0,rfl,(Array.getElem?_eq_some_iff.1 hg).1,fun j hj=> ?_⟩⟩;have hc:=World.ownsRow.cells h.row (g:=g) rfl;have hj1:j < vs.length:=by have:=h.len;omega
  have hj2:j < qs.length:=by omega
  have e1:vs[j]? =some vs[j]:=List.getElem?_eq_getElem hj1
  have e2:qs[j]? =some (qs.getD j 0):=by rw [List.getD_eq_getElem?_getD,List.getElem?_eq_getElem hj2];rfl
  have c (k:Nat) (hk:k < 4) (u:Value) (hu:(fts vs[j])[k]? =some u):w.cell? ⟨g,0+j*4+k,none⟩=some u:=by
   have:=hc (j*4+k) u (by rw [jqB vs j k _ e1 hk,hu]);rw [jk6] at this;rw [Nat.zero_add];exact this
  exact ⟨⟨_,_,_,_,_,_,_,_,c 0 (by omega) _ rfl,c 1 (by omega) _ rfl,c 2 (by omega) _ rfl,c 3 (by omega) _ rfl,h.rep j _ _ e1 e2⟩⟩
theorem jgw {w:World} {cs:Array Value} {t:TypeId} (h:∀u∈cs.toList,∀z,u≠ .int .u64 z):NoU (w.alloc (.cells cs t)) w.heap.size:=⟨cs,t,(0,0),heap_alloc_new w _,h⟩
theorem jo6 {q:FT}:∀u∈fts q,∀z,u≠ .int .u64 z:=by
 intro u hu z;simp [fts] at hu;rcases hu with rfl|rfl|rfl|rfl <;> simp
theorem jn9 {w:World} {base n b c:Nat} {v:Value} {vs:List FT} {qs:List Rat} {q:FT} {x:Rat} (h:OwnF w base v n vs qs) (hn:n≤100000) (hb:base≤w.heap.size) (hq:jlE w q x)
  (h0:w.cell? ⟨b,0,none⟩=some (.int .i64 q.1.1)) (h1:w.cell? ⟨b,1,none⟩=some (.slice q.1.2.1 q.1.2.2.1 q.1.2.2.2)) (h2:w.cell? ⟨b,2,none⟩=some (.int .i64 q.2.1)) (h3:w.cell? ⟨b,3,none⟩=some (.slice q.2.2.1 q.2.2.2.1 q.2.2.2.2)):
  ∃v' w',(Builtin.append_ #[94,94] 94 #[v, .slice (some ⟨b,0,none⟩) 1 c]).run Tryz.prog w= .ok v' w'∧OwnF w' base v' (n+1) (vs++[q]) (qs++[x])∧w.grownBy w' v.ownBlock∧(v'.ownBlock=v.ownBlock∨v'.ownBlock=some w.heap.size):=by
 obtain ⟨i,hi,hz0,hz1,hz2⟩:=info_parts jq1
 have hnews:∀j u,(ftl [q])[j]? =some u→w.cell? ((⟨b,0,none⟩:Addr).add j)=some u:=by
  intro j u hu;rw [jk6]
  match j,hu with
  | 0,hu=>simp [ftl,fts] at hu;subst hu;exact h0
  | 1,hu=>simp [ftl,fts] at hu;subst hu;exact h1
  | 2,hu=>simp [ftl,fts] at hu;subst hu;exact h2
  | 3,hu=>simp [ftl,fts] at hu;subst hu;exact h3
  | j+4,hu=>simp [ftl,fts] at hu
 have hone:∀u∈ftl [q],u.oneCell'=true:=by intro u hu;simp [ftl,fts] at hu;rcases hu with rfl|rfl|rfl|rfl <;> rfl
 obtain ⟨v',w',hr,k1,k2,_,k3⟩:=run_append_own_at (P:=Tryz.prog) w base 94 94 82 i _ 4 64 Tryz.underlying94 hi hz0 hz1 hz2 rfl (by decide) v n (ftl vs) h.row ⟨b,0,none⟩ 1 c (ftl [q]) (by simp [ftl,fts]) hnews hone
  (by simp only [maxLen];omega) (by omega) hb
 have hzc:∀k,∀u∈(Builtin.zeroCells (Value.agg #[.int .i64 0, .slice none 0 0, .int .i64 0, .slice none 0 0]).cells k).toList,∀z,u≠ .int .u64 z:=by
  intro k u hu z;simp [Builtin.zeroCells,Value.cells] at hu;obtain ⟨i,_,rfl⟩:=hu;have:i % 4=0∨i % 4=1∨i % 4=2∨i % 4=3:=by omega
  rcases this with h|h|h|h <;> rw [h] <;> simp
 have hns:∀u∈ftl [q],∀z,u≠ .int .u64 z:=by
  intro u hu;simp only [ftl,List.flatMap_cons,List.flatMap_nil,List.append_nil] at hu;exact jo6 u hu
 have hnou:∀g,v'.ownBlock=some g→NoU w' g:=by
  rcases h.row.2 with ⟨rfl,rfl⟩|⟨g,cap,cur,rfl,hbg,hg,hnc,hcm,hcs,htake⟩
  ·have hr2:=run_append_nil (P:=Tryz.prog) w 94 94 82 i _ Tryz.underlying94 hi hz0 ⟨b,0,none⟩ 1 c (ftl [q]) (by simp [ftl,fts,hz1]) hnews (by omega) (by omega) (by rw [hz2];omega);rw [hr] at hr2;obtain ⟨rfl,rfl⟩:=Result.ok.inj hr2;intro g hg;simp [Value.ownBlock] at hg;subst hg;refine jgw fun u hu z=> ?_
   simp only [Array.toList_append,List.mem_append] at hu;rcases hu with hu|hu
   ·exact hns u hu z
   ·exact hzc _ u hu z
  ·have hcn:∀u∈cur.toList,∀z,u≠ .int .u64 z:=by
    obtain ⟨cur',t',f',e1,e2⟩:=h.nou g rfl;rw [hg] at e1;cases e1
    exact e2
   by_cases hroom:n+1≤cap
   ·have hr2:=run_append_room (P:=Tryz.prog) w 94 94 82 i Tryz.underlying94 hi g n cap cur hg ⟨b,0,none⟩ 1 c (ftl [q]) (by simp [ftl,fts,hz1]) hnews hone hroom (by rw [hz1,hcs];simp [ftl,fts];omega);rw [hr] at hr2;obtain ⟨rfl,rfl⟩:=Result.ok.inj hr2;intro k hk;simp [Value.ownBlock] at hk;subst hk;refine ⟨_,_,_,setRow_heap w g cur _ _ _ hg,fun u hu z=> ?_⟩;simp only [List.mem_append] at hu;rcases hu with (hu|hu)|hu
    ·exact hcn u (List.mem_of_mem_take hu) z
    ·exact hns u hu z
    ·exact hcn u (List.mem_of_mem_drop hu) z
   ·have holds:∀j u,(ftl vs)[j]? =some u→w.cell? ((⟨g,0,none⟩:Addr).add j)=some u:=h.row.cells (g:=g) rfl;have hr2:=run_append_grow (P:=Tryz.prog) w 94 94 82 i _ Tryz.underlying94 hi hz0 ⟨g,0,none⟩ n cap (ftl vs) (by rw [hz1];exact h.row.1) holds ⟨b,0,none⟩ 1 c (ftl [q]) (by simp [ftl,fts,hz1]) hnews (by omega) (by omega) (growslice_fits (by omega) (by rw [hz2];omega));rw [hr] at hr2;obtain ⟨rfl,rfl⟩:=Result.ok.inj hr2;intro k hk;simp [Value.ownBlock] at hk;subst hk;refine jgw fun u hu z=> ?_
    simp only [Array.toList_append,List.mem_append] at hu;rcases hu with (hu|hu)|hu
    ·refine hcn u ?_ z;have hu':u∈ftl vs:=hu;rw [←htake] at hu';exact List.mem_of_mem_take hu'
    ·exact hns u hu z
    ·exact hzc _ u hu z
 refine ⟨v',w',hr,⟨by rw [jcz];exact k1,by simp [h.len],fun j p y e1 e2=> ?_,hnou⟩,k2,k3⟩;have hlen:=h.len;have hgr (p:FT) (y:Rat) (hp:jlE w p y):jlE w' p y:=⟨hp.1.grown k2 (fun g e=>h.nou g e),hp.2.grown k2 (fun g e=>h.nou g e)⟩;by_cases hj:j < vs.length
 ·rw [List.getElem?_append_left hj] at e1;rw [List.getElem?_append_left (by omega)] at e2;exact hgr _ _ (h.rep j p y e1 e2)
 ·rw [List.getElem?_append_right (by omega)] at e1;rw [List.getElem?_append_right (by omega)] at e2
  have:j - vs.length=0:=by
   rcases Nat.eq_zero_or_pos (j - vs.length) with h|h
   ·exact h
   ·rw [List.getElem?_eq_none (by simp;omega)] at e1;cases e1
  rw [this] at e1;rw [show j - qs.length=0 by omega] at e2;simp at e1 e2;subst e1 e2;exact hgr _ _ hq
theorem jkT {o:Oper} {a:Act} {K:Act→World→Prop} {Q:Exit→Act→World→Prop} {w:World} {base n b c:Nat} {v:Value} {vs:List FT} {qs:List Rat} {q:FT} {x:Rat} (s y:Operand)
  (ho:o.op= .call { callee:= .builtin .append,args:= #[s,y],argTypes:= #[94,94] }) (ht:o.type=94) (hs:a.eval s=v) (hy:a.eval y= .slice (some ⟨b,0,none⟩) 1 c)
  (h:OwnF w base v n vs qs) (hn:n≤100000) (hb:base≤w.heap.size) (hq:jlE w q x)
  (h0:w.cell? ⟨b,0,none⟩=some (.int .i64 q.1.1)) (h1:w.cell? ⟨b,1,none⟩=some (.slice q.1.2.1 q.1.2.2.1 q.1.2.2.2)) (h2:w.cell? ⟨b,2,none⟩=some (.int .i64 q.2.1)) (h3:w.cell? ⟨b,3,none⟩=some (.slice q.2.2.1 q.2.2.2.1 q.2.2.2.2))
  (hK:∀v' w',OwnF w' base v' (n+1) (vs++[q]) (qs++[x])→w.grownBy w' v.ownBlock→(v'.ownBlock=v.ownBlock∨v'.ownBlock=some w.heap.size)→K (a.put o.dst v') w'):o.wp Tryz.prog a w K Q:=by
 obtain ⟨v',w',hr,k1,k2,k3⟩:=jn9 h hn hb hq h0 h1 h2 h3;exact jdG s y ho hs hy (by rw [ht];exact hr) (hK v' w' k1 k2 k3)

section
variable {w:World} {A:Option Addr} {n c:Nat} {ls:List (List UInt8×List UInt8)}
end
section
variable {w:World} {A:Option Addr} {n c:Nat} {ls:List (List UInt8×List UInt8)} {los his:List Rat}
end

section
variable {w:World} {A:Option Addr} {n c:Nat} {ls:List (List UInt8×List UInt8)} {los his:List Rat}
end

section
variable {w:World} {A:Option Addr} {n c:Nat} {ls:List (List UInt8×List UInt8)} {los his:List Rat}
end

section
variable {los his:List Rat} {n:Nat}
end

section
variable {w:World}
end
section
variable {w:World} {kind step:List UInt8}
end

section
variable {w:World} {h:Int} {o:Bool}
end
theorem jna (y:Rat):y.floor.natAbs≤y.num.natAbs:=by
 rw [Rat.floor_def];have hd:=y.den_pos;have h:=Int.natAbs_ediv_le_natAbs y.num (y.den:Int);exact h
theorem Sz.floor {p:Nat} {y:Rat} (h:Sz p y):Sz p (y.floor:Rat):=
 Sz.int (Nat.le_trans (jna y) h.num)

section
variable {w:World} {A B:Option Addr} {n c d p:Nat} {qs:List Rat} {ws:List Int} {s:Int}
end

def jtr (a b:List UInt8):Bool:=Op.bytesLess a b || a==b
@[go_sem] theorem juD (t : TypeId) (x y : List UInt8) : binOp .leq t (.string ⟨x.toArray⟩) (.string ⟨y.toArray⟩) = pure (.bool (jtr x y)) := by
  simp [binOp,Op.stringOp,jtr,Lib.toList_data]
section
variable {w:World} {A:Option Addr} {n c:Nat} {ls:List (List UInt8×List UInt8)}
end

structure Lay where
 grain:List UInt8
 mass:Int
 shares:List (List UInt8×List UInt8)
section
variable {w:World} {A:Option Addr} {n c:Nat} {x:Lay}
end
section
variable {w:World} {A:Option Addr} {n c:Nat} {ls:List Lay} {f:Lay→Int}
end

section
variable {w:World} {A B:Option Addr} {n m c d:Nat} {zs ys:List Int}
end
section
variable {w:World} {A B:Option Addr} {n m c d:Nat} {zs ys:List (List UInt8×List UInt8)}
end
section
variable {w:World} {A B:Option Addr} {n m c d:Nat} {zs ys:List (List UInt8×List UInt8)} {g h:List UInt8} {x y:Int}
end

section
variable {w:World} {sx tx:Int} {Ax Bx:Option Addr} {nx cx mx dx p g:Nat} {x s y:Rat} {kind step:List UInt8}
end

section
variable {w:World} {x s:Rat} {kind step a:List UInt8}
end


section
variable {w:World} {a1 a2 b1 b2:List UInt8} {x1 x2 y1 y2:Rat}
end

section
variable {w:World} {A B:Option Addr} {n c d:Nat} {ls:List (List UInt8×List UInt8)} {los his:List Rat} {ws:List Int} {s:Int}
end
end Go.Proofs.YtekpigjlnjddbaaGreatDoor
namespace Go.Proofs.YtekpigjlnjddbaaGreatDoor
open Go Go.RowKit Go.Maps

def jhw (w:World) (b:Nat):Prop:=∀o z,w.cell? ⟨b,o,none⟩≠some (.int .u64 z)
theorem jhw.map {w:World} {b:Nat} {es:Array MapEntry} {cl:Nat} (hb:w.heap[b]? =some (.map es cl)):jhw w b:=fun o z h=>by simp [World.cell?,hb] at h
theorem Wd.turned {w w':World} {A:Option Addr} {n b:Nat} {ds:List Nat} (h:Wd w A n ds) (hb:jhw w b) (hg:w.grownBy w' (some b)):Wd w' A n ds:=
 ⟨h.len,h.dig,h.big,fun hn=>by
   obtain ⟨b',o,e,hl,hc⟩:=h.at_ hn
   have hne:b'≠b:=by
    rintro rfl
    exact hb _ _ (hc 0 hn)
   exact ⟨b',o,e,Nat.lt_of_lt_of_le hl hg.size,fun j hj=>hg.cell (hc j hj) (by simpa using hne)⟩⟩
theorem Rep.turned {w w':World} {s z:Int} {A:Option Addr} {n c b:Nat} (h:Rep w s A n c z) (hb:jhw w b) (hg:w.grownBy w' (some b)):Rep w' s A n c z:=by
 cases h with
 | small _ h0 h1=>exact .small _ h0 h1
 | plus _ _ _ ds h=>exact .plus _ _ _ ds ⟨h.wd.turned hb hg,h.trim,h.cap,h.lim,h.big⟩
 | minus _ _ _ ds h=>exact .minus _ _ _ ds ⟨h.wd.turned hb hg,h.trim,h.cap,h.lim,h.big⟩
theorem RepF.turned {w w':World} {s t:Int} {A B:Option Addr} {n c m d b:Nat} {x:Rat} (h:RepF w s A n c t B m d x) (hb:jhw w b) (hg:w.grownBy w' (some b)):RepF w' s A n c t B m d x:=⟨h.num.turned hb hg,h.den.turned hb hg⟩
section
variable {w:World} {ops:Array Oper} {rest:List Oper} {o:Oper} {a:Act} {Q:Exit→Act→World→Prop} {b n:Nat} {D:DataW Value} {cs:List (List UInt8×Rat)} {y:List UInt8}
end
end Go.Proofs.YtekpigjlnjddbaaGreatDoor
namespace Go.Proofs.YtekpigjlnjddbaaGreatDoor
open Go Go.RowKit Go.Maps Go.Sort

end Go.Proofs.YtekpigjlnjddbaaGreatDoor
namespace Go.Proofs.YtekpigjlnjddbaaGreatDoor
open Go Go.RowKit


section
variable {w:World} {A:Option Addr} {n c:Nat} {ls:List Lay}
end

section
variable {w:World} {A:Option Addr} {n q:Nat} {ls:List Lay} {mass:Int}
end
section
variable {w:World} {A:Option Addr} {n c q:Nat} {ls:List Lay} {mass:Int} {ks:List (List UInt8)} {outs:List (List UInt8×List UInt8)} {g0:List UInt8}
end

theorem jtd {x:Rat} {l:List UInt8} (h:tq x=l) (h1:(Go.Lib.decDigits x.num.natAbs).length≤600) (h2:(Go.Lib.decDigits x.den).length≤600):IsNum l x:=⟨h.symm,h1,h2⟩
theorem jvU {x:Rat} {l:List UInt8} (h:tq x=l∧(Go.Lib.decDigits x.num.natAbs).length≤600∧(Go.Lib.decDigits x.den).length≤600):IsNum l x:=jtd h.1 h.2.1 h.2.2
theorem ex2:IsNum [50] 2:=jvU (by decide+kernel)
theorem jud {x:Rat} (h1: -9223372036854775808 < x.num) (h2:x.num < 9223372036854775808) (h3:x.den < 9223372036854775808):StrQ x:=StrQ.small h1 h2 h3
theorem jv3 {x:Rat} (h: -9223372036854775808 < x.num∧x.num < 9223372036854775808∧x.den < 9223372036854775808):StrQ x:=jud h.1 h.2.1 h.2.2
theorem s12:StrQ (1/2):=jv3 (by decide+kernel)
theorem s6:StrQ 6:=jv3 (by decide+kernel)
theorem s11:StrQ 11:=jv3 (by decide+kernel)

section
variable {w:World}
end

section
variable {w:World}
end
end Go.Proofs.YtekpigjlnjddbaaGreatDoor
