/- Parts. -/
import Derived.Test.YtcophhhpgmilfaaGreatDoorZaG
import Derived.Test.YtcophhhpgmilfaaGreatDoorDbG
set_option linter.all false
set_option maxRecDepth 100000
set_option maxHeartbeats 8000000
namespace Go.Proofs.YtcophhhpgmilfaaGreatDoor
open Go Go.RowKit Go.Proofs.Tryz

section
variable {mass:Int} {x:Rat} {ls:List (List UInt8)} {i n:Nat} {k:Nat}
theorem jta {x:Rat} {k:Nat} (h:Dz k x):Sz k x:=⟨jrr h.num,jrr h.den⟩
theorem jfU {f:Nat→Int} (h:i < n):jar f ((List.range n).drop i)=if f i=0 then jar f ((List.range n).drop (i+1)) else f i:=by
 rw [List.drop_eq_getElem_cons (by rw [List.length_range];exact h),List.getElem_range];rfl
end
def jt4 (w:World) (g:Nat) (q:FT):World:=(((w.setCell ⟨g,0,none⟩ (.int .i64 q.1.1)).setCell ⟨g,1,none⟩ (.slice q.1.2.1 q.1.2.2.1 q.1.2.2.2)).setCell ⟨g,2,none⟩ (.int .i64 q.2.1)).setCell ⟨g,3,none⟩ (.slice q.2.2.1 q.2.2.2.1 q.2.2.2.2)

section
variable {w:World} {A:Option Addr} {n c:Nat} {a:List UInt8} {ls:List (List UInt8)} {mass:Int}
end

theorem jdI {α:Type} {f:α→Int}:∀{l:List α},jar f l=0→∀x∈l,f x=0
 | [],_,x,h=>by cases h
 | y::r,h,x,hx=>by
   rw [jar] at h;by_cases e:f y=0
   ·rw [if_pos e] at h;rcases List.mem_cons.1 hx with rfl|hx
    ·exact e
    ·exact jdI h x hx
   ·rw [if_neg e] at h;exact absurd h e
section
variable {w:World} {A:Option Addr} {n c:Nat} {a:List UInt8} {ls:List (List UInt8)} {mass:Int}
end

section
variable {w:World} {A:Option Addr} {n c:Nat} {qs:List Rat}
end

section
variable {w:World} {A:Option Addr} {n c:Nat} {qs:List Rat}
end
section
variable {w:World} {A:Option Addr} {n c:Nat} {a:List UInt8} {ls:List (List UInt8)} {mass:Int}
end

theorem Env.awake6 {w W:World} (h:Env w) (hb:Below w.heap.size w W):Calls prog 6 #[] W fun e w'=>e= .returned (.bool true)∧Below W.heap.size W w':=by
 obtain ⟨m,hm⟩:=(h.below hb).max;exact E6.awake6 (h.tab W hb) ⟨_,hm⟩
section
variable {w:World} {A:Option Addr} {n c:Nat} {a:List UInt8} {ls:List (List UInt8)} {mass:Int}
end

abbrev Bd:=List UInt8×List UInt8×List UInt8
theorem Sv.three (w:World) (t:TypeId) (k l m:List UInt8):Sv (w.alloc (.cells #[bs k,bs l,bs m] t)) (some ⟨w.heap.size,0,none⟩) 3 [k,l,m]:=
 ⟨rfl,fun _=>⟨w.heap.size,0,rfl,by simp,fun j hj=>by
   match j,hj with
   | 0,_=>simp
   | 1,_=>simp
   | 2,_=>simp⟩⟩
section
variable {w:World} {A:Option Addr} {n c:Nat} {ls:List Bd}
end

section
variable {w:World} {A:Option Addr} {n c:Nat} {ls:List (List UInt8)}
end
section
variable {w:World} {A:Option Addr} {n c:Nat} {ls:List Bd}
end

section
variable {w:World} {A:Option Addr} {n c:Nat} {ls:List Bd} {x y:Rat} {k:Nat}
end

section
variable {w:World} {A:Option Addr} {n c:Nat} {ls:List Bd} {x y:Rat} {mass:Int}
end

section
variable {w:World} {A:Option Addr} {n c:Nat} {ls:List Bd} {a t:List UInt8} {mass:Int}
end

structure FC (w:World) (g:Nat) (q:FT):Prop where
 c0:w.cell? ⟨g,0,none⟩=some (.int .i64 q.1.1)
 c1:w.cell? ⟨g,1,none⟩=some (.slice q.1.2.1 q.1.2.2.1 q.1.2.2.2)
 c2:w.cell? ⟨g,2,none⟩=some (.int .i64 q.2.1)
 c3:w.cell? ⟨g,3,none⟩=some (.slice q.2.2.1 q.2.2.2.1 q.2.2.2.2)
 fz:∀o,w.frozen? ⟨g,o,none⟩=false
theorem FC.lt {w:World} {g:Nat} {q:FT} (h:FC w g q):g < w.heap.size:=World.block_lt_of_cell? w _ h.c0
theorem FC.below {w w':World} {g:Nat} {q:FT} (h:FC w g q) (hb:Below w.heap.size w w'):FC w' g q:=
 ⟨ja9 hb h.c0,ja9 hb h.c1,ja9 hb h.c2,ja9 hb h.c3,fun o=>(hb.frozen (p:=⟨g,o,none⟩) h.lt).trans (h.fz o)⟩
theorem FC.set {w:World} {g:Nat} {q:FT} (h:FC w g q) (q':FT):FC (jt4 w g q') g q':=by
 obtain ⟨h0,h1,h2,h3,h4⟩:=h;refine ⟨?_, ?_, ?_, ?_,fun o=> ?_⟩
 all_goals simp [jt4,go_sem,h0,h1,h2,h3,h4]
theorem FC.other {w:World} {g b:Nat} {q q':FT} (h:FC w g q) (hne:g≠b):FC (jt4 w b q') g q:=by
 obtain ⟨h0,h1,h2,h3,h4⟩:=h;have hne':b≠g:=fun e=>hne e.symm
 refine ⟨?_, ?_, ?_, ?_,fun o=> ?_⟩
 all_goals simp [jt4,go_sem,h0,h1,h2,h3,h4,hne,hne']
theorem FC.rep {w:World} {g:Nat} {q q' p:FT} {x:Rat} (h:FC w g q) (r:jlE w p x):jlE (jt4 w g q') p x:=by
 obtain ⟨h0,h1,h2,h3,_⟩:=h;unfold jt4;constructor
 ·exact rP (rP r.1 rfl ⟨⟨_,h0⟩,_,_,_,h1⟩) rfl ⟨⟨q.2.1,by simp [go_sem,h2]⟩,q.2.2.1,q.2.2.2.1,q.2.2.2.2,by simp [go_sem,h3]⟩
 ·exact rP (rP r.2 rfl ⟨⟨_,h0⟩,_,_,_,h1⟩) rfl ⟨⟨q.2.1,by simp [go_sem,h2]⟩,q.2.2.1,q.2.2.2.1,q.2.2.2.2,by simp [go_sem,h3]⟩
theorem FC.made (w:World) (t:TypeId) (s t':Int) (A B:Option Addr) (n c m d:Nat):FC (w.alloc (.cells #[.int .i64 s, .slice A n c, .int .i64 t', .slice B m d] t)) w.heap.size ((s,A,n,c),(t',B,m,d)):=by
 refine ⟨?_, ?_, ?_, ?_,fun o=> ?_⟩
 all_goals simp [go_sem]
section
variable {w W:World} {g b:Nat} {q p:FT} {x:Rat} {s t:Int} {A B:Option Addr} {n c m d:Nat}
theorem FC.setR (h:FC w g q):FC ((((w.setCell ⟨g,0,none⟩ (.int .i64 s)).setCell ⟨g,1,none⟩ (.slice A n c)).setCell ⟨g,2,none⟩ (.int .i64 t)).setCell ⟨g,3,none⟩ (.slice B m d)) g ((s,A,n,c),(t,B,m,d)):=h.set ((s,A,n,c),(t,B,m,d))
theorem FC.repR (h:FC w g q) (r:jlE w p x):jlE ((((w.setCell ⟨g,0,none⟩ (.int .i64 s)).setCell ⟨g,1,none⟩ (.slice A n c)).setCell ⟨g,2,none⟩ (.int .i64 t)).setCell ⟨g,3,none⟩ (.slice B m d)) p x:=h.rep (q':=((s,A,n,c),(t,B,m,d))) r
theorem jwS (h:Below W.heap.size W w) (hg:W.heap.size≤g):Below W.heap.size W ((((w.setCell ⟨g,0,none⟩ (.int .i64 s)).setCell ⟨g,1,none⟩ (.slice A n c)).setCell ⟨g,2,none⟩ (.int .i64 t)).setCell ⟨g,3,none⟩ (.slice B m d)):=bC (bC (bC (bC h hg) hg) hg) hg
end

abbrev PT:=FT×FT
def ptc (q:PT):List Value:=fts q.1++fts q.2
def ptl (qs:List PT):List Value:=qs.flatMap ptc
theorem jwD (q:PT):(ptc q).length=8:=rfl
theorem jwx (a b:List PT):ptl (a++b)=ptl a++ptl b:=by simp [ptl]
theorem jwW (a:List PT):(ptl a).length=a.length*8:=by
 induction a with
 | nil=>rfl
 | cons q r ih=>rw [show ptl (q::r)=ptl [q]++ptl r from jwx [q] r,List.length_append,ih,show (ptl [q]).length=8 from rfl,List.length_cons];omega
theorem jxh:∀(a:List PT) (j k:Nat) (q:PT),a[j]? =some q→k < 8→(ptl a)[j*8+k]? =(ptc q)[k]?
 | [],j,k,q,h,_=>by simp at h
 | p::r,0,k,q,h,hk=>by
   simp at h;subst h;rw [show ptl (p::r)=ptc p++ptl r from rfl,Nat.zero_mul,Nat.zero_add,List.getElem?_append_left (by rw [jwD];exact hk)]
 | p::r,j+1,k,q,h,hk=>by
   rw [show ptl (p::r)=ptc p++ptl r from rfl,List.getElem?_append_right (by rw [jwD];omega)];have e:(j+1)*8+k - (ptc p).length=j*8+k:=by rw [jwD];omega
   rw [e,jxh r j k q (by simpa using h) hk]
abbrev jx0 (w:World) (q:PT) (x:Rat×Rat):Prop:=jlE w q.1 x.1∧jlE w q.2 x.2
theorem jxl {q:PT}:∀u∈ptc q,∀z,u≠ .int .u64 z:=by
 intro u hu z;rcases List.mem_append.1 hu with hu|hu
 ·exact jo6 u hu z
 ·exact jo6 u hu z
theorem jxs:(prog.info? 103).map (fun i=>(i.zero,i.size,i.bytes))=some (some (.agg #[.int .i64 0, .slice none 0 0, .int .i64 0, .slice none 0 0, .int .i64 0, .slice none 0 0, .int .i64 0, .slice none 0 0]),8,128):=by kernel_rfl
structure OwnP (w:World) (base:Nat) (v:Value) (n:Nat) (vs:List PT) (qs:List (Rat×Rat)):Prop where
 row:w.ownsRow base 103 8 v n (ptl vs)
 len:vs.length=qs.length
 rep:∀(j:Nat) (q:PT) (x:Rat×Rat),vs[j]? =some q→qs[j]? =some x→jx0 w q x
 nou:∀g,v.ownBlock=some g→NoU w g
theorem OwnP.nil (w:World) (base:Nat):OwnP w base (.slice none 0 0) 0 [] []:=⟨World.ownsRow_nil _ _ _ _,rfl,fun j q x h=>by simp at h,fun g h=>by cases h⟩
theorem OwnP.kept {w w':World} {base n:Nat} {v:Value} {vs:List PT} {qs:List (Rat×Rat)} {row:Option Nat} (h:OwnP w base v n vs qs) (hg:w.grownBy w' row) (hr:∀g,row=some g→NoU w g) (hne:∀g,v.ownBlock=some g→some g≠row):OwnP w' base v n vs qs:=
 ⟨World.ownsRow.kept h.row hg (by cases e:v.ownBlock with|none=>exact .inl rfl|some g=>exact .inr (hne g e)),h.len,fun j q x h1 h2=>⟨⟨(h.rep j q x h1 h2).1.1.grown hg hr,(h.rep j q x h1 h2).1.2.grown hg hr⟩,⟨(h.rep j q x h1 h2).2.1.grown hg hr,(h.rep j q x h1 h2).2.2.grown hg hr⟩⟩,
   fun g e=>(h.nou g e).kept (hg.block g (World.ownsRow.lt h.row g e).2 (hne g e))⟩
theorem OwnP.below {w w':World} {base n:Nat} {v:Value} {vs:List PT} {qs:List (Rat×Rat)} (h:OwnP w base v n vs qs) (hb:Below w.heap.size w w'):OwnP w' base v n vs qs:=
 h.kept (jeZ hb) (fun g e=>by cases e) (fun g _ e=>by cases e)
theorem OwnP.alloc {w:World} {base n:Nat} {v:Value} {vs:List PT} {qs:List (Rat×Rat)} (h:OwnP w base v n vs qs) (o:Obj):OwnP (w.alloc o) base v n vs qs:=h.below (bA bR)
theorem OwnP.lt {w:World} {base n:Nat} {v:Value} {vs:List PT} {qs:List (Rat×Rat)} (h:OwnP w base v n vs qs):∀k,v.ownBlock=some k→base≤k∧k < w.heap.size:=World.ownsRow.lt h.row
theorem OwnP.num {w:World} {base n:Nat} {v:Value} {vs:List PT} {qs:List (Rat×Rat)} (h:OwnP w base v n vs qs):qs.length=n:=by
 have:=h.row.1;rw [jwW] at this;have:=h.len;omega
theorem jxt {w:World} {base n b c:Nat} {v:Value} {vs:List PT} {qs:List (Rat×Rat)} {q:PT} {x:Rat×Rat} (h:OwnP w base v n vs qs) (hn:n≤100000) (hb:base≤w.heap.size) (hq:jx0 w q x)
  (h0:∀k u,(ptc q)[k]? =some u→w.cell? ⟨b,k,none⟩=some u):
  ∃v' w',(Builtin.append_ #[73,73] 73 #[v, .slice (some ⟨b,0,none⟩) 1 c]).run prog w= .ok v' w'∧OwnP w' base v' (n+1) (vs++[q]) (qs++[x])∧w.grownBy w' v.ownBlock∧(v'.ownBlock=v.ownBlock∨v'.ownBlock=some w.heap.size):=by
 obtain ⟨i,hi,hz0,hz1,hz2⟩:=info_parts jxs
 have hnews:∀j u,(ptl [q])[j]? =some u→w.cell? ((⟨b,0,none⟩:Addr).add j)=some u:=by
  intro j u hu;rw [jk6];exact h0 j u (by simpa [ptl] using hu)
 have hone:∀u∈ptl [q],u.oneCell'=true:=by intro u hu;simp [ptl,ptc,fts] at hu;rcases hu with rfl|rfl|rfl|rfl|rfl|rfl|rfl|rfl <;> rfl
 obtain ⟨v',w',hr,k1,k2,_,k3⟩:=run_append_own_at (P:=prog) w base 73 73 103 i _ 8 128 underlying73 hi hz0 hz1 hz2 rfl (by decide) v n (ptl vs) h.row ⟨b,0,none⟩ 1 c (ptl [q]) rfl hnews hone
  (by simp only [maxLen];omega) (by omega) hb
 have hzc:∀k,∀u∈(Builtin.zeroCells (Value.agg #[.int .i64 0, .slice none 0 0, .int .i64 0, .slice none 0 0, .int .i64 0, .slice none 0 0, .int .i64 0, .slice none 0 0]).cells k).toList,∀z,u≠ .int .u64 z:=by
  intro k u hu z;simp [Builtin.zeroCells,Value.cells] at hu;obtain ⟨i,_,rfl⟩:=hu;have:i % 8=0∨i % 8=1∨i % 8=2∨i % 8=3∨i % 8=4∨i % 8=5∨i % 8=6∨i % 8=7:=by omega
  rcases this with h|h|h|h|h|h|h|h <;> rw [h] <;> simp
 have hns:∀u∈ptl [q],∀z,u≠ .int .u64 z:=by
  intro u hu;simp only [ptl,List.flatMap_cons,List.flatMap_nil,List.append_nil] at hu;exact jxl u hu
 have hnou:∀g,v'.ownBlock=some g→NoU w' g:=by
  rcases h.row.2 with ⟨rfl,rfl⟩|⟨g,cap,cur,rfl,hbg,hg,hnc,hcm,hcs,htake⟩
  ·have hr2:=run_append_nil (P:=prog) w 73 73 103 i _ underlying73 hi hz0 ⟨b,0,none⟩ 1 c (ptl [q]) (by simp [ptl,ptc,fts,hz1]) hnews (by omega) (by omega) (by rw [hz2];omega);rw [hr] at hr2;obtain ⟨rfl,rfl⟩:=Result.ok.inj hr2;intro g hg;simp [Value.ownBlock] at hg;subst hg;refine jgw fun u hu z=> ?_
   simp only [Array.toList_append,List.mem_append] at hu;rcases hu with hu|hu
   ·exact hns u hu z
   ·exact hzc _ u hu z
  ·have hcn:∀u∈cur.toList,∀z,u≠ .int .u64 z:=by
    obtain ⟨cur',t',f',e1,e2⟩:=h.nou g rfl;rw [hg] at e1;cases e1
    exact e2
   by_cases hroom:n+1≤cap
   ·have hr2:=run_append_room (P:=prog) w 73 73 103 i underlying73 hi g n cap cur hg ⟨b,0,none⟩ 1 c (ptl [q]) (by simp [ptl,ptc,fts,hz1]) hnews hone hroom (by rw [hz1,hcs];simp [ptl,ptc,fts];omega);rw [hr] at hr2;obtain ⟨rfl,rfl⟩:=Result.ok.inj hr2;intro k hk;simp [Value.ownBlock] at hk;subst hk;refine ⟨_,_,_,setRow_heap w g cur _ _ _ hg,fun u hu z=> ?_⟩;simp only [List.mem_append] at hu;rcases hu with (hu|hu)|hu
    ·exact hcn u (List.mem_of_mem_take hu) z
    ·exact hns u hu z
    ·exact hcn u (List.mem_of_mem_drop hu) z
   ·have holds:∀j u,(ptl vs)[j]? =some u→w.cell? ((⟨g,0,none⟩:Addr).add j)=some u:=h.row.cells (g:=g) rfl;have hr2:=run_append_grow (P:=prog) w 73 73 103 i _ underlying73 hi hz0 ⟨g,0,none⟩ n cap (ptl vs) (by rw [hz1];exact h.row.1) holds ⟨b,0,none⟩ 1 c (ptl [q]) (by simp [ptl,ptc,fts,hz1]) hnews (by omega) (by omega) (growslice_fits (by omega) (by rw [hz2];omega));rw [hr] at hr2;obtain ⟨rfl,rfl⟩:=Result.ok.inj hr2;intro k hk;simp [Value.ownBlock] at hk;subst hk;refine jgw fun u hu z=> ?_
    simp only [Array.toList_append,List.mem_append] at hu;rcases hu with (hu|hu)|hu
    ·refine hcn u ?_ z;have hu':u∈ptl vs:=hu;rw [←htake] at hu';exact List.mem_of_mem_take hu'
    ·exact hns u hu z
    ·exact hzc _ u hu z
 refine ⟨v',w',hr,⟨by rw [jwx];exact k1,by simp [h.len],fun j p y e1 e2=> ?_,hnou⟩,k2,k3⟩;have hlen:=h.len;have hgr (p:PT) (y:Rat×Rat) (hp:jx0 w p y):jx0 w' p y:=⟨⟨hp.1.1.grown k2 (fun g e=>h.nou g e),hp.1.2.grown k2 (fun g e=>h.nou g e)⟩,⟨hp.2.1.grown k2 (fun g e=>h.nou g e),hp.2.2.grown k2 (fun g e=>h.nou g e)⟩⟩;by_cases hj:j < vs.length
 ·rw [List.getElem?_append_left hj] at e1;rw [List.getElem?_append_left (by omega)] at e2;exact hgr _ _ (h.rep j p y e1 e2)
 ·rw [List.getElem?_append_right (by omega)] at e1;rw [List.getElem?_append_right (by omega)] at e2
  have:j - vs.length=0:=by
   rcases Nat.eq_zero_or_pos (j - vs.length) with h|h
   ·exact h
   ·rw [List.getElem?_eq_none (by simp;omega)] at e1;cases e1
  rw [this] at e1;rw [show j - qs.length=0 by omega] at e2;simp at e1 e2;subst e1 e2;exact hgr _ _ hq
theorem jwV {o:Oper} {a:Act} {K:Act→World→Prop} {Q:Exit→Act→World→Prop} {w:World} {base n b c:Nat} {v:Value} {vs:List PT} {qs:List (Rat×Rat)} {q:PT} {x:Rat×Rat} (s y:Operand)
  (ho:o.op= .call { callee:= .builtin .append,args:= #[s,y],argTypes:= #[73,73] }) (ht:o.type=73) (hs:a.eval s=v) (hy:a.eval y= .slice (some ⟨b,0,none⟩) 1 c)
  (h:OwnP w base v n vs qs) (hn:n≤100000) (hb:base≤w.heap.size) (hq:jx0 w q x)
  (h0:∀k u,(ptc q)[k]? =some u→w.cell? ⟨b,k,none⟩=some u)
  (hK:∀v' w',OwnP w' base v' (n+1) (vs++[q]) (qs++[x])→w.grownBy w' v.ownBlock→(v'.ownBlock=v.ownBlock∨v'.ownBlock=some w.heap.size)→K (a.put o.dst v') w'):o.wp prog a w K Q:=by
 obtain ⟨v',w',hr,k1,k2,k3⟩:=jxt h hn hb hq h0;exact jdG s y ho hs hy (by rw [ht];exact hr) (hK v' w' k1 k2 k3)
end Go.Proofs.YtcophhhpgmilfaaGreatDoor
