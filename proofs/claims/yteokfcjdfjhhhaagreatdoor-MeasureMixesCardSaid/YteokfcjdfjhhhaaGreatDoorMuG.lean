/- Parts. -/
import Derived.Test.YteokfcjdfjhhhaaGreatDoorMlG
set_option linter.all false
set_option maxRecDepth 100000
set_option maxHeartbeats 8000000
namespace Go.Proofs.YteokfcjdfjhhhaaGreatDoor
open Go Go.RowKit

structure SmallQ (x:Rat):Prop where
 lo: -9223372036854775808 < x.num
 hi:x.num < 9223372036854775808
 den:x.den < 9223372036854775808
theorem Rep.is_small {w:World} {s z:Int} {A:Option Addr} {n c:Nat} (h:Rep w s A n c z) (h0: -9223372036854775808 < z) (h1:z < 9223372036854775808):s=z∧A=none∧n=0∧c=0:=by
 cases h with
 | small _ _ _=>exact ⟨rfl,rfl,rfl,rfl⟩
 | plus _ _ _ ds h=>have:=h.big;omega
 | minus _ _ _ ds h=>have:=h.big;omega
abbrev fq (x:Rat):Value:=fv x.num none 0 0 ((x.den:Nat):Int) none 0 0
theorem SmallQ.rep {x:Rat} (h:SmallQ x) (w:World):RepF w x.num none 0 0 ((x.den:Nat):Int) none 0 0 x:=
 ⟨.small _ (by have:=h.lo;omega) h.hi, .small _ (by omega) (by have:=h.den;omega)⟩
theorem SmallQ.post {x:Rat} (hs:SmallQ x) {w w':World} {e:Ending} (h:jad x w e w'):e= .returned (fq x)∧Below w.heap.size w w':=by
 obtain ⟨s,A,n,c,t,B,m,d,rfl,⟨h1,h2⟩,hb⟩:=h;obtain ⟨rfl,rfl,rfl,rfl⟩:=h1.is_small hs.lo hs.hi;obtain ⟨rfl,rfl,rfl,rfl⟩:=h2.is_small (by omega) (by have:=hs.den;omega);exact ⟨rfl,hb⟩
theorem SmallQ.sz {x:Rat} (h:SmallQ x):Sz 1 x:=⟨by rw [Nat.pow_one,ja7];have:=h.lo;have:=h.hi;omega,by rw [Nat.pow_one,ja7];have:=h.den;omega⟩
theorem jpp (g j:Nat):(⟨g,0,none⟩:Addr).add j=⟨g,j,none⟩:=by unfold Addr.add;split <;> simp_all
theorem jiK {w w':World} (h:Below w.heap.size w w'):w.grownBy w' none:=⟨h.os,h.tape,h.output,h.size,fun k hk _=>h.block k hk⟩
theorem ja8 {w w':World} {base:Nat} {row:Option Nat} (h:w.grownBy w' row) (hb:base≤w.heap.size) (hr:∀k,row=some k→base≤k):Below base w w':=
 ⟨h.os,h.tape,h.output,h.size,fun k hk=>h.block k (Nat.lt_of_lt_of_le hk hb) (fun e=>by have:=hr k e.symm;omega)⟩
theorem joA:(Tryz.prog.info? 71).map (fun i=>(i.zero,i.size,i.bytes))=some (some (.agg #[.int .i64 0, .slice none 0 0, .int .i64 0, .slice none 0 0]),4,64):=by kernel_rfl
theorem jk7 {P:Program} {o:Oper} {a:Act} {K:Act→World→Prop} {Q:Exit→Act→World→Prop} {w w':World} {v z v':Value} {t:TypeId} (s y:Operand)
  (ho:o.op= .call { callee:= .builtin .append,args:= #[s,y],argTypes:= #[t,t] }) (hs:a.eval s=v) (hy:a.eval y=z)
  (hr:(Builtin.append_ #[t,t] o.type #[v,z]).run P w= .ok v' w') (hK:K (a.put o.dst v') w'):o.wp P a w K Q:=by
 unfold Oper.wp execOp;simp only [ho,resolve,invoke,builtin,Sem.run_bind,Sem.run_pure,Result.andThen_ok,List.map_toArray,List.map_cons,List.map_nil,hs,hy,hr];exact hK

def NoU (w:World) (g:Nat):Prop:=∃cur t f,w.heap[g]? =some (.cells cur t f)∧∀u∈cur.toList,∀z,u≠ .int .u64 z
theorem NoU.cell {w:World} {g o:Nat} {z:Int} (h:NoU w g):w.cell? ⟨g,o,none⟩≠some (.int .u64 z):=by
 obtain ⟨cur,t,f,h1,h2⟩:=h;rw [cell_of_row w g o cur t f h1];intro e;exact h2 _ (by have:=Array.mem_of_getElem? e;simpa using this) z rfl
theorem NoU.kept {w w':World} {g:Nat} (h:NoU w g) (e:w'.heap[g]? =w.heap[g]?):NoU w' g:=by
 obtain ⟨cur,t,f,h1,h2⟩:=h;exact ⟨cur,t,f,e.trans h1,h2⟩
theorem Rep.grown {w w':World} {s z:Int} {A:Option Addr} {n c:Nat} {row:Option Nat} (h:Rep w s A n c z) (hg:w.grownBy w' row) (hr:∀g,row=some g→NoU w g):Rep w' s A n c z:=by
 have key {ds:List Nat} (hb:Big w A n c ds):Big w' A n c ds:=⟨⟨hb.wd.len,hb.wd.dig,hb.wd.big,fun hn=>by
  obtain ⟨b,o,e,hl,hc⟩:=hb.wd.at_ hn
  have hne:some b≠row:=fun e2=>by
   have:=(hr b e2.symm).cell (o:=o+0) (z:=((dg ds 0:Nat):Int));exact this (hc 0 hn)
  exact ⟨b,o,e,Nat.lt_of_lt_of_le hl hg.size,fun j hj=>hg.cell (hc j hj) hne⟩⟩,hb.trim,hb.cap,hb.lim,hb.big⟩
 cases h with
 | small _ h0 h1=>exact .small _ h0 h1
 | plus _ _ _ ds h=>exact .plus _ _ _ ds (key h)
 | minus _ _ _ ds h=>exact .minus _ _ _ ds (key h)
abbrev FT:=(Int×Option Addr×Nat×Nat)×(Int×Option Addr×Nat×Nat)
def fts (q:FT):List Value:=[.int .i64 q.1.1, .slice q.1.2.1 q.1.2.2.1 q.1.2.2.2, .int .i64 q.2.1, .slice q.2.2.1 q.2.2.2.1 q.2.2.2.2]
def ftl (qs:List FT):List Value:=qs.flatMap fts
theorem jcP (a b:List FT):ftl (a++b)=ftl a++ftl b:=by simp [ftl]
theorem jkj (a:List FT):(ftl a).length=a.length*4:=by
 induction a with
 | nil=>rfl
 | cons q r ih=>rw [show ftl (q::r)=ftl [q]++ftl r from jcP [q] r,List.length_append,ih];simp [ftl,fts];omega
theorem jpa:∀(a:List FT) (j k:Nat) (q:FT),a[j]? =some q→k < 4→(ftl a)[j*4+k]? =(fts q)[k]?
 | [],j,k,q,h,_=>by simp at h
 | p::r,0,k,q,h,hk=>by
   simp at h;subst h;rw [show ftl (p::r)=ftl [p]++ftl r from jcP [p] r,List.getElem?_append_left (by simp [ftl,fts];omega)];simp [ftl]
 | p::r,j+1,k,q,h,hk=>by
   rw [show ftl (p::r)=ftl [p]++ftl r from jcP [p] r,List.getElem?_append_right (by simp [ftl,fts];omega)];have e:(j+1)*4+k - (ftl [p]).length=j*4+k:=by simp [ftl,fts];omega
   rw [e,jpa r j k q (by simpa using h) hk]
abbrev jr8 (w:World) (q:FT) (x:Rat):Prop:=RepF w q.1.1 q.1.2.1 q.1.2.2.1 q.1.2.2.2 q.2.1 q.2.2.1 q.2.2.2.1 q.2.2.2.2 x
structure OwnF (w:World) (base:Nat) (v:Value) (n:Nat) (vs:List FT) (qs:List Rat):Prop where
 row:w.ownsRow base 71 4 v n (ftl vs)
 len:vs.length=qs.length
 rep:∀(j:Nat) (q:FT) (x:Rat),vs[j]? =some q→qs[j]? =some x→jr8 w q x
 nou:∀g,v.ownBlock=some g→NoU w g
theorem OwnF.nil (w:World) (base:Nat):OwnF w base (.slice none 0 0) 0 [] []:=⟨World.ownsRow_nil _ _ _ _,rfl,fun j q x h=>by simp at h,fun g h=>by cases h⟩
theorem OwnF.kept {w w':World} {base n:Nat} {v:Value} {vs:List FT} {qs:List Rat} {row:Option Nat} (h:OwnF w base v n vs qs) (hg:w.grownBy w' row) (hr:∀g,row=some g→NoU w g) (hne:∀g,v.ownBlock=some g→some g≠row):OwnF w' base v n vs qs:=
 ⟨World.ownsRow.kept h.row hg (by cases e:v.ownBlock with|none=>exact .inl rfl|some g=>exact .inr (hne g e)),h.len,fun j q x h1 h2=>⟨(h.rep j q x h1 h2).1.grown hg hr,(h.rep j q x h1 h2).2.grown hg hr⟩,
   fun g e=>(h.nou g e).kept (hg.block g (World.ownsRow.lt h.row g e).2 (hne g e))⟩
theorem OwnF.below {w w':World} {base n:Nat} {v:Value} {vs:List FT} {qs:List Rat} (h:OwnF w base v n vs qs) (hb:Below w.heap.size w w'):OwnF w' base v n vs qs:=
 h.kept (jiK hb) (fun g e=>by cases e) (fun g _ e=>by cases e)
theorem OwnF.alloc {w:World} {base n:Nat} {v:Value} {vs:List FT} {qs:List Rat} (h:OwnF w base v n vs qs) (o:Obj):OwnF (w.alloc o) base v n vs qs:=h.below (bA bR)
theorem OwnF.lt {w:World} {base n:Nat} {v:Value} {vs:List FT} {qs:List Rat} (h:OwnF w base v n vs qs):∀k,v.ownBlock=some k→base≤k∧k < w.heap.size:=World.ownsRow.lt h.row
theorem OwnF.num {w:World} {base n:Nat} {v:Value} {vs:List FT} {qs:List Rat} (h:OwnF w base v n vs qs):qs.length=n:=by
 have:=h.row.1;rw [jkj] at this;have:=h.len;omega
theorem OwnF.qv {w:World} {base n:Nat} {v:Value} {vs:List FT} {qs:List Rat} (h:OwnF w base v n vs qs) (h0:0 < n):∃A c,v= .slice A n c∧Qv w A n qs:=by
 have hl:=h.num;rcases h.row.2 with ⟨rfl,h1⟩|⟨g,cap,cur,rfl,hb,hg,hnc,hcm,hcs,ht⟩
 ·omega
 ·refine ⟨some ⟨g,0,none⟩,cap,rfl,hl,fun _=>⟨g,0,rfl,(Array.getElem?_eq_some_iff.1 hg).1,fun j hj=> ?_⟩⟩;have hc:=World.ownsRow.cells h.row (g:=g) rfl;have hj1:j < vs.length:=by have:=h.len;omega
  have hj2:j < qs.length:=by omega
  have e1:vs[j]? =some vs[j]:=List.getElem?_eq_getElem hj1
  have e2:qs[j]? =some (qs.getD j 0):=by rw [List.getD_eq_getElem?_getD,List.getElem?_eq_getElem hj2];rfl
  have c (k:Nat) (hk:k < 4) (u:Value) (hu:(fts vs[j])[k]? =some u):w.cell? ⟨g,0+j*4+k,none⟩=some u:=by
   have:=hc (j*4+k) u (by rw [jpa vs j k _ e1 hk,hu]);rw [jpp] at this;rw [Nat.zero_add];exact this
  exact ⟨⟨_,_,_,_,_,_,_,_,c 0 (by omega) _ rfl,c 1 (by omega) _ rfl,c 2 (by omega) _ rfl,c 3 (by omega) _ rfl,h.rep j _ _ e1 e2⟩⟩
theorem jkT {w:World} {cs:Array Value} {t:TypeId} (h:∀u∈cs.toList,∀z,u≠ .int .u64 z):NoU (w.alloc (.cells cs t)) w.heap.size:=⟨cs,t,(0,0),heap_alloc_new w _,h⟩
theorem jpP {q:FT}:∀u∈fts q,∀z,u≠ .int .u64 z:=by
 intro u hu z;simp [fts] at hu;rcases hu with rfl|rfl|rfl|rfl <;> simp
theorem jmn {w:World} {base n b c:Nat} {v:Value} {vs:List FT} {qs:List Rat} {q:FT} {x:Rat} (h:OwnF w base v n vs qs) (hn:n≤100000) (hb:base≤w.heap.size) (hq:jr8 w q x)
  (h0:w.cell? ⟨b,0,none⟩=some (.int .i64 q.1.1)) (h1:w.cell? ⟨b,1,none⟩=some (.slice q.1.2.1 q.1.2.2.1 q.1.2.2.2)) (h2:w.cell? ⟨b,2,none⟩=some (.int .i64 q.2.1)) (h3:w.cell? ⟨b,3,none⟩=some (.slice q.2.2.1 q.2.2.2.1 q.2.2.2.2)):
  ∃v' w',(Builtin.append_ #[108,108] 108 #[v, .slice (some ⟨b,0,none⟩) 1 c]).run Tryz.prog w= .ok v' w'∧OwnF w' base v' (n+1) (vs++[q]) (qs++[x])∧w.grownBy w' v.ownBlock∧(v'.ownBlock=v.ownBlock∨v'.ownBlock=some w.heap.size):=by
 obtain ⟨i,hi,hz0,hz1,hz2⟩:=info_parts joA
 have hnews:∀j u,(ftl [q])[j]? =some u→w.cell? ((⟨b,0,none⟩:Addr).add j)=some u:=by
  intro j u hu;rw [jpp]
  match j,hu with
  | 0,hu=>simp [ftl,fts] at hu;subst hu;exact h0
  | 1,hu=>simp [ftl,fts] at hu;subst hu;exact h1
  | 2,hu=>simp [ftl,fts] at hu;subst hu;exact h2
  | 3,hu=>simp [ftl,fts] at hu;subst hu;exact h3
  | j+4,hu=>simp [ftl,fts] at hu
 have hone:∀u∈ftl [q],u.oneCell'=true:=by intro u hu;simp [ftl,fts] at hu;rcases hu with rfl|rfl|rfl|rfl <;> rfl
 obtain ⟨v',w',hr,k1,k2,_,k3⟩:=run_append_own_at (P:=Tryz.prog) w base 108 108 71 i _ 4 64 Tryz.underlying108 hi hz0 hz1 hz2 rfl (by decide) v n (ftl vs) h.row ⟨b,0,none⟩ 1 c (ftl [q]) (by simp [ftl,fts]) hnews hone
  (by simp only [maxLen];omega) (by omega) hb
 have hzc:∀k,∀u∈(Builtin.zeroCells (Value.agg #[.int .i64 0, .slice none 0 0, .int .i64 0, .slice none 0 0]).cells k).toList,∀z,u≠ .int .u64 z:=by
  intro k u hu z;simp [Builtin.zeroCells,Value.cells] at hu;obtain ⟨i,_,rfl⟩:=hu;have:i % 4=0∨i % 4=1∨i % 4=2∨i % 4=3:=by omega
  rcases this with h|h|h|h <;> rw [h] <;> simp
 have hns:∀u∈ftl [q],∀z,u≠ .int .u64 z:=by
  intro u hu;simp only [ftl,List.flatMap_cons,List.flatMap_nil,List.append_nil] at hu;exact jpP u hu
 have hnou:∀g,v'.ownBlock=some g→NoU w' g:=by
  rcases h.row.2 with ⟨rfl,rfl⟩|⟨g,cap,cur,rfl,hbg,hg,hnc,hcm,hcs,htake⟩
  ·have hr2:=run_append_nil (P:=Tryz.prog) w 108 108 71 i _ Tryz.underlying108 hi hz0 ⟨b,0,none⟩ 1 c (ftl [q]) (by simp [ftl,fts,hz1]) hnews (by omega) (by omega) (by rw [hz2];omega);rw [hr] at hr2;obtain ⟨rfl,rfl⟩:=Result.ok.inj hr2;intro g hg;simp [Value.ownBlock] at hg;subst hg;refine jkT fun u hu z=> ?_
   simp only [Array.toList_append,List.mem_append] at hu;rcases hu with hu|hu
   ·exact hns u hu z
   ·exact hzc _ u hu z
  ·have hcn:∀u∈cur.toList,∀z,u≠ .int .u64 z:=by
    obtain ⟨cur',t',f',e1,e2⟩:=h.nou g rfl;rw [hg] at e1;cases e1
    exact e2
   by_cases hroom:n+1≤cap
   ·have hr2:=run_append_room (P:=Tryz.prog) w 108 108 71 i Tryz.underlying108 hi g n cap cur hg ⟨b,0,none⟩ 1 c (ftl [q]) (by simp [ftl,fts,hz1]) hnews hone hroom (by rw [hz1,hcs];simp [ftl,fts];omega);rw [hr] at hr2;obtain ⟨rfl,rfl⟩:=Result.ok.inj hr2;intro k hk;simp [Value.ownBlock] at hk;subst hk;refine ⟨_,_,_,setRow_heap w g cur _ _ _ hg,fun u hu z=> ?_⟩;simp only [List.mem_append] at hu;rcases hu with (hu|hu)|hu
    ·exact hcn u (List.mem_of_mem_take hu) z
    ·exact hns u hu z
    ·exact hcn u (List.mem_of_mem_drop hu) z
   ·have holds:∀j u,(ftl vs)[j]? =some u→w.cell? ((⟨g,0,none⟩:Addr).add j)=some u:=h.row.cells (g:=g) rfl;have hr2:=run_append_grow (P:=Tryz.prog) w 108 108 71 i _ Tryz.underlying108 hi hz0 ⟨g,0,none⟩ n cap (ftl vs) (by rw [hz1];exact h.row.1) holds ⟨b,0,none⟩ 1 c (ftl [q]) (by simp [ftl,fts,hz1]) hnews (by omega) (by omega) (growslice_fits (by omega) (by rw [hz2];omega));rw [hr] at hr2;obtain ⟨rfl,rfl⟩:=Result.ok.inj hr2;intro k hk;simp [Value.ownBlock] at hk;subst hk;refine jkT fun u hu z=> ?_
    simp only [Array.toList_append,List.mem_append] at hu;rcases hu with (hu|hu)|hu
    ·refine hcn u ?_ z;have hu':u∈ftl vs:=hu;rw [←htake] at hu';exact List.mem_of_mem_take hu'
    ·exact hns u hu z
    ·exact hzc _ u hu z
 refine ⟨v',w',hr,⟨by rw [jcP];exact k1,by simp [h.len],fun j p y e1 e2=> ?_,hnou⟩,k2,k3⟩;have hlen:=h.len;have hgr (p:FT) (y:Rat) (hp:jr8 w p y):jr8 w' p y:=⟨hp.1.grown k2 (fun g e=>h.nou g e),hp.2.grown k2 (fun g e=>h.nou g e)⟩;by_cases hj:j < vs.length
 ·rw [List.getElem?_append_left hj] at e1;rw [List.getElem?_append_left (by omega)] at e2;exact hgr _ _ (h.rep j p y e1 e2)
 ·rw [List.getElem?_append_right (by omega)] at e1;rw [List.getElem?_append_right (by omega)] at e2
  have:j - vs.length=0:=by
   rcases Nat.eq_zero_or_pos (j - vs.length) with h|h
   ·exact h
   ·rw [List.getElem?_eq_none (by simp;omega)] at e1;cases e1
  rw [this] at e1;rw [show j - qs.length=0 by omega] at e2;simp at e1 e2;subst e1 e2;exact hgr _ _ hq
theorem jft {o:Oper} {a:Act} {K:Act→World→Prop} {Q:Exit→Act→World→Prop} {w:World} {base n b c:Nat} {v:Value} {vs:List FT} {qs:List Rat} {q:FT} {x:Rat} (s y:Operand)
  (ho:o.op= .call { callee:= .builtin .append,args:= #[s,y],argTypes:= #[108,108] }) (ht:o.type=108) (hs:a.eval s=v) (hy:a.eval y= .slice (some ⟨b,0,none⟩) 1 c)
  (h:OwnF w base v n vs qs) (hn:n≤100000) (hb:base≤w.heap.size) (hq:jr8 w q x)
  (h0:w.cell? ⟨b,0,none⟩=some (.int .i64 q.1.1)) (h1:w.cell? ⟨b,1,none⟩=some (.slice q.1.2.1 q.1.2.2.1 q.1.2.2.2)) (h2:w.cell? ⟨b,2,none⟩=some (.int .i64 q.2.1)) (h3:w.cell? ⟨b,3,none⟩=some (.slice q.2.2.1 q.2.2.2.1 q.2.2.2.2))
  (hK:∀v' w',OwnF w' base v' (n+1) (vs++[q]) (qs++[x])→w.grownBy w' v.ownBlock→(v'.ownBlock=v.ownBlock∨v'.ownBlock=some w.heap.size)→K (a.put o.dst v') w'):o.wp Tryz.prog a w K Q:=by
 obtain ⟨v',w',hr,k1,k2,k3⟩:=jmn h hn hb hq h0 h1 h2 h3;exact jk7 s y ho hs hy (by rw [ht];exact hr) (hK v' w' k1 k2 k3)

theorem jhq {l:List Rat} {i:Nat} {r:Rat} (h:i < l.length) (hr:l.getD i 0=r):l.take i++[r]=l.take (i+1):=by
 rw [List.take_add_one,List.getElem?_eq_getElem h];rw [List.getD_eq_getElem?_getD,List.getElem?_eq_getElem h] at hr;simp at hr;simp [hr]
section
variable {w:World} {A:Option Addr} {n c:Nat} {ls:List (List UInt8×List UInt8)}
theorem jkH {w:World} {A:Option Addr} {n c:Nat} {ls:List (List UInt8×List UInt8)} {k:Int} (hk:jab jbB ls=k) (hE:Env w) (hs:Pv w A n ls) (hn:n≤100000) (hl:∀p∈ls,p.1.length < 4294967281∧p.2.length < 4294967281):
  Calls Tryz.prog 65 #[.func (.func 66) #[] #[], .slice A n c] w fun e w'=>e= .returned (.int .i64 k)∧Below w.heap.size w w':=by
 subst hk;exact jcY (c:=c) (f:=jbB) hs hn (fun l hm V hV=>jeK (hE.below hV) (hl l hm).1 (hl l hm).2)
end
theorem jhm {w w':World} (h:Below w.drew.heap.size w.drew w'):Below w.heap.size w w':=⟨h.os,h.tape,h.output,h.size,h.block⟩
theorem jcL {w:World} {a:Addr} {v:Value} (h:w.cell? a=some v) (o:Obj):(w.alloc o).cell? a=some v:=by
 rw [World.cell?_alloc_lt _ _ _ (World.block_lt_of_cell? _ _ h)];exact h
theorem jgo {base i g:Nat} {wr:World} {u:Value} {V:List FT} {L:List Rat} (ho:OwnF wr base u i V L) (hg:wr.heap.size≤g):some g≠u.ownBlock:=fun e=>by
 have:=(ho.lt g e.symm).2;omega
theorem jmP {base i:Nat} {wr w3 w5 w9:World} {u2 u3:Value} {V1 V2:List FT} {L1 L2:List Rat} {o0 o3 o9:Obj} (ho1:OwnF wr base u2 i V1 L1) (ho2:OwnF wr base u3 i V2 L2) (hne:∀g,u2.ownBlock=some g→u3.ownBlock≠some g)
  (hb3:Below (wr.alloc o0).heap.size (wr.alloc o0) w3) (hg5:(w3.alloc o3).grownBy w5 u2.ownBlock) (hb9:Below w5.heap.size w5 w9):OwnF (w9.alloc o9) base u3 i V2 L2:=
 (((((ho2.alloc o0).below hb3).alloc o3).kept hg5 (((ho1.alloc o0).below hb3).alloc o3).nou (fun g hg e=>hne g e.symm hg)).below hb9).alloc o9
theorem jmt {base i:Nat} {w wr w3 w5 w9 w11:World} {u2 u3 v1 v2:Value} {V1 V2 K1 K2:List FT} {L1 L2 M1 M2:List Rat} {o0 o3 o9:Obj} (hbase:base=w.heap.size) (hb:Below w.heap.size w wr) (ho1:OwnF wr base u2 i V1 L1) (ho2:OwnF wr base u3 i V2 L2) (hne:∀g,u2.ownBlock=some g→u3.ownBlock≠some g)
  (hb3:Below (wr.alloc o0).heap.size (wr.alloc o0) w3) (hg5:(w3.alloc o3).grownBy w5 u2.ownBlock) (h5:OwnF w5 base v1 (i+1) K1 M1) (hl5:v1.ownBlock=u2.ownBlock∨v1.ownBlock=some (w3.alloc o3).heap.size)
  (hb9:Below w5.heap.size w5 w9) (hg11:(w9.alloc o9).grownBy w11 u3.ownBlock) (h11:OwnF w11 base v2 (i+1) K2 M2) (hl11:v2.ownBlock=u3.ownBlock∨v2.ownBlock=some (w9.alloc o9).heap.size):
  Below w.heap.size w w11∧OwnF w11 base v1 (i+1) K1 M1∧(∀g,v1.ownBlock=some g→v2.ownBlock≠some g):=by
 subst hbase;have hm:=jmP (o9:=o9) ho1 ho2 hne hb3 hg5 hb9;have z0:=hb.size;have z3:=hb3.size;have z5:=hg5.size;have z9:=hb9.size;simp only [World.size_alloc] at z3 z5;have hw3:Below w.heap.size w (w3.alloc o3):=ja4 (ja1 (ja4 hb o0) hb3) o3;have hw5:Below w.heap.size w w5:=hw3.trans (ja8 hg5 hw3.size (fun k hk=>(ho1.lt k hk).1));have hw9:Below w.heap.size w (w9.alloc o9):=ja4 (ja1 hw5 hb9) o9;have hw11:Below w.heap.size w w11:=hw9.trans (ja8 hg11 hw9.size (fun k hk=>(ho2.lt k hk).1))
 have hd:∀g,v1.ownBlock=some g→u3.ownBlock≠some g:=fun g hg e=>by
  rcases hl5 with hl|hl
  ·exact hne g (hl ▸ hg) e
  ·rw [hl] at hg;have:=(ho2.lt g e).2;simp at hg;omega
 refine ⟨hw11,((h5.below hb9).alloc o9).kept hg11 hm.nou (fun g hg e=>hd g hg e.symm),fun g hg e=> ?_⟩;rcases hl11 with hl|hl
 ·exact hd g hg (hl ▸ e)
 ·rw [hl] at e;have:=(h5.lt g hg).2;simp at e;omega
section
variable {w:World} {A:Option Addr} {n c:Nat} {ls:List (List UInt8×List UInt8)} {los his:List Rat}
theorem joK (hE:Env w) (hs:Pv w A n ls) (h0:0 < n) (hn:n≤256) (hl:∀p∈ls,p.1.length < 4294967281∧p.2.length < 4294967281) (hk:jab jbB ls=0)
  (hlo:los.length=n) (hhi:his.length=n) (hq:∀j,j < n→IsNum (ls.getD j ([],[])).1 (los.getD j 0)∧IsNum (ls.getD j ([],[])).2 (his.getD j 0)):
  Calls Tryz.prog 71 #[.slice A n c] w fun e w'=>∃A1 c1 A2 c2,e= .returned (.tuple #[.slice A1 n c1, .slice A2 n c2, .int .i64 0])∧Qv w' A1 n los∧Qv w' A2 n his∧Below w.heap.size w w':=by
 have q0:((n:Int)==0)=false:=by rw [beq_eq_false_iff_ne];omega
 have q1:decide ((256:Int) < (n:Int))=false:=by rw [decide_eq_false_iff_not];omega
 have HE:=qh hE;have HS:=qh hs;have HN:=qh hn;have HL:=qh hl;have HK:=qh hk;have HLO:=qh hlo;have HHI:=qh hhi;have HQ:=qh hq;have H0:=qh h0;clear hE hs h0 hn hl hk hlo hhi hq;go_enter Tryz.func71,Tryz.ntmps71;go_wp2_with ((go_at_call 65;(with_reducible refine mo0 (jkH HK.out (HE.out.below bi) (HS.out.below bi) (by have:=HN.out;omega) HL.out) fun w1 hb1 hc1 hf1 _=> ?_)))
 go_loopw [2,3,21] (fun v1 v2 u wr=>∃(i:Nat),u= .int .i64 (i:Int)∧i≤n∧Below w.heap.size w wr∧(∃V1,OwnF wr w.heap.size v1 i V1 (los.take i))∧(∃V2,OwnF wr w.heap.size v2 i V2 (his.take i))∧(∀g,v1.ownBlock=some g→v2.ownBlock≠some g)) (fun _ _ u _=>n - (intOf u).toNat)
 case atStart=>exact ⟨0,rfl,by omega,bi,⟨[],OwnF.nil _ _⟩,⟨[],OwnF.nil _ _⟩,fun g hg=>by cases hg⟩
 case round=>
  obtain ⟨i,rfl,hin,hb,⟨V1,ho1⟩,⟨V2,ho2⟩,hne⟩:=hrel;have _:=bm hb;have HO1:=qh ho1;have HO2:=qh ho2;have HNE:=qh hne;clear ho1 ho2 hne;by_cases hi:i < n
  ·have p0:decide ((i:Int) < (n:Int))=true:=by simp;exact hi
   have hnn:=HN.out;obtain ⟨b,o,rfl,hbl,hcell⟩:=(HS.out.below hb).at_ (by omega);obtain ⟨hx,hy⟩:=hcell i hi;obtain ⟨hn1,hn2⟩:=HQ.out i hi;obtain ⟨x1,hx1⟩:∃x,(ls.getD i ([],[])).1=x:=⟨_,rfl⟩;obtain ⟨x2,hx2⟩:∃x,(ls.getD i ([],[])).2=x:=⟨_,rfl⟩;rw [hx1] at hx hn1;rw [hx2] at hy hn2;obtain ⟨r1,hr1⟩:∃r,los.getD i 0=r:=⟨_,rfl⟩;obtain ⟨r2,hr2⟩:∃r,his.getD i 0=r:=⟨_,rfl⟩;rw [hr1] at hn1;rw [hr2] at hn2;have HN1:=qh hn1;have HN2:=qh hn2;have HT1:Hid (los.take i++[r1]=los.take (i+1)):=qh (jhq (by rw [HLO.out];exact hi) hr1);have HT2:Hid (his.take i++[r2]=his.take (i+1)):=qh (jhq (by rw [HHI.out];exact hi) hr2);have HI:=qh hi;clear hcell hn1 hn2 hx1 hx2 hr1 hr2 hi;go_upto_region 11 with (fail)
   have s01:(wr.alloc (.cells #[.string ⟨x1.toArray⟩, .string ⟨x2.toArray⟩] 52)).cell? ⟨wr.heap.size,0,none⟩=some (bs x1):=by simp
   have s02:(wr.alloc (.cells #[.string ⟨x1.toArray⟩, .string ⟨x2.toArray⟩] 52)).cell? ⟨wr.heap.size,1,none⟩=some (bs x2):=by simp
   refine ja3 (fun w'=>w'.cell? ⟨wr.heap.size,0,none⟩=some (bs x1)∧w'.cell? ⟨wr.heap.size,1,none⟩=some (bs x2)) [] (by kernel_rfl) ?_;refine tk 0 (u2) [5] rfl (by kernel_rfl) pk (by rfl) ?_ ⟨s01,s02⟩ ?_
   ·intro w' hS';obtain ⟨hS1,hS2⟩:=hS';go_simp
   simp only [ppq];refine tk 1 (.pointer (some ⟨wr.heap.size,0,none⟩)) [2] rfl (by kernel_rfl) pk (by rfl) ?_ ⟨s01,s02⟩ ?_
   ·intro w' hS';obtain ⟨hS1,hS2⟩:=hS';go_simp
   simp only [ppq];refine tk 2 (bs x1) [3] rfl (by kernel_rfl) pk (by rfl) ?_ ⟨s01,s02⟩ ?_
   ·intro w' hS';obtain ⟨hS1,hS2⟩:=hS';go_simp
   simp only [ppq];refine tk 6 (u3) [11] rfl (by kernel_rfl) pk (by rfl) ?_ ⟨s01,s02⟩ ?_
   ·intro w' hS';obtain ⟨hS1,hS2⟩:=hS';go_simp
   simp only [ppq];refine tk 7 (.pointer (some ⟨wr.heap.size,1,none⟩)) [8] rfl (by kernel_rfl) pk (by rfl) ?_ ⟨s01,s02⟩ ?_
   ·intro w' hS';obtain ⟨hS1,hS2⟩:=hS';go_simp
   simp only [ppq];refine tk 8 (bs x2) [9] rfl (by kernel_rfl) pk (by rfl) ?_ ⟨s01,s02⟩ ?_
   ·intro w' hS';obtain ⟨hS1,hS2⟩:=hS';go_simp
   simp only [ppq];refine ja0 (rs:=[3]) (by kernel_rfl) (by simp) (AllT.cons rfl (fun K hK=> ?_) AllT.nil);go_simp;go_wp2_with (go_at_call 31;(with_reducible refine mf0 (jaz HN1.out (HE.out.below bi)) fun w3 s3 A3 n3 c3 t3 B3 m3 d3 hr3 hq3 hb3 hc3 hf3 _=> ?_))
   have hb3:=jhm hb3;have s31:=ja5 hb3 s01;have s32:=ja5 hb3 s02;refine hK.out _ _ (fun _=>⟨s31,s32⟩) ?_;clear hK K;refine ja0 (rs:=[4]) (by kernel_rfl) (by simp) (AllT.cons rfl (fun K hK=> ?_) AllT.nil);go_simp;have s41:=jcL s31 (.cells #[.int .i64 s3, .slice A3 n3 c3, .int .i64 t3, .slice B3 m3 d3] 71);have s42:=jcL s32 (.cells #[.int .i64 s3, .slice A3 n3 c3, .int .i64 t3, .slice B3 m3 d3] 71);refine hK.out _ _ (fun _=>⟨s41,s42⟩) ?_;clear hK K;refine ja0 (rs:=[5]) (by kernel_rfl) (by simp) (AllT.cons rfl (fun K hK=> ?_) AllT.nil);rw [if_pos (by rfl)];refine jft (base:=w.heap.size) (n:=i) (x:=r1) (b:=w3.heap.size) (c:=1) (qs:=los.take i) (v:=u2) (q:=((s3,A3,n3,c3),(t3,B3,m3,d3))) (.tmp 25) (.tmp 29) rfl rfl rfl rfl (((HO1.out.alloc _).below hb3).alloc _) (by have:=HN.out;omega) (by have:=hb.size;have:=hb3.size;simp at this;simp;omega) ⟨hr3.below (bA bR),hq3.below (bA bR)⟩ (by simp) (by simp) (by simp) (by simp) ?_;intro v5 w5 ho5 hg5 hl5;have s51:=hg5.cell s41 (jgo HO1.out (Nat.le_refl _));have s52:=hg5.cell s42 (jgo HO1.out (Nat.le_refl _));refine hK.out _ _ (fun _=>⟨s51,s52⟩) ?_;clear hK K;simp only [ppq];have hb5:Below w.heap.size w w5:=Below.trans (ja4 (ja1 (ja4 hb _) hb3) _) (ja8 hg5 (by have:=hb.size;have:=hb3.size;simp at this;simp;omega) (fun k hk=>(HO1.out.lt k hk).1));refine ja0 (rs:=[9]) (by kernel_rfl) (by simp) (AllT.cons rfl (fun K hK=> ?_) AllT.nil);go_simp;go_wp2_with (go_at_call 31;(with_reducible refine mf0 (jaz HN2.out (HE.out.below hb5)) fun w9 s9 A9 n9 c9 t9 B9 m9 d9 hr9 hq9 hb9 hc9 hf9 _=> ?_))
   refine hK.out _ _ (fun _=>⟨ja5 hb9 s51,ja5 hb9 s52⟩) ?_;clear hK K;refine ja0 (rs:=[10]) (by kernel_rfl) (by simp) (AllT.cons rfl (fun K hK=> ?_) AllT.nil);go_simp;have s101:=jcL (ja5 hb9 s51) (.cells #[.int .i64 s9, .slice A9 n9 c9, .int .i64 t9, .slice B9 m9 d9] 71);have s102:=jcL (ja5 hb9 s52) (.cells #[.int .i64 s9, .slice A9 n9 c9, .int .i64 t9, .slice B9 m9 d9] 71);refine hK.out _ _ (fun _=>⟨s101,s102⟩) ?_;clear hK K;refine ja0 (rs:=[11]) (by kernel_rfl) (by simp) (AllT.cons rfl (fun K hK=> ?_) AllT.nil);rw [if_pos (by rfl)];refine jft (base:=w.heap.size) (n:=i) (x:=r2) (b:=w9.heap.size) (c:=1) (qs:=his.take i) (v:=u3) (q:=((s9,A9,n9,c9),(t9,B9,m9,d9))) (.tmp 31) (.tmp 35) rfl rfl rfl rfl (jmP HO1.out HO2.out HNE.out hb3 hg5 hb9) (by have:=HN.out;omega) (by have:=hb5.size;have:=hb9.size;simp;omega) ⟨hr9.below (bA bR),hq9.below (bA bR)⟩ (by simp) (by simp) (by simp) (by simp) ?_;intro v11 w11 ho11 hg11 hl11;have s111:=hg11.cell s101 (jgo HO2.out (Nat.le_refl _));have s112:=hg11.cell s102 (jgo HO2.out (Nat.le_refl _));refine hK.out _ _ (fun _=>⟨s111,s112⟩) ?_;have hR:=jmt rfl hb HO1.out HO2.out HNE.out hb3 hg5 ho5 hl5 hb9 hg11 ho11 hl11;clear hK K;simp only [ppq];refine ja0 (rs:=[12]) (by kernel_rfl) (by simp) (AllT.cons rfl (fun K hK=> ?_) AllT.nil);go_simp;refine hK.out _ _ (fun _=>⟨s111,s112⟩) ?_;clear hK K;refine ja0 (rs:=[13]) (by kernel_rfl) (by simp) (AllT.cons rfl (fun K hK=> ?_) AllT.nil);go_simp;refine hK.out _ _ (fun _=>⟨s111,s112⟩) ?_;clear hK K;refine ja2 (by kernel_rfl) ?_ _;go_wp2;exact ⟨⟨i+1,by simp,HI.out,hR.1,⟨_,by rw [←HT1.out];exact hR.2.1⟩,⟨_,by rw [←HT2.out];exact ho11⟩,hR.2.2⟩,by have:=HI.out;simp [intOf];omega⟩
  ·have p0:decide (i < n)=false:=by simp;omega
   have e:i=n:=by omega
   subst e;clear hi hin;go_wp2;go_ret3;have h1:=HO1.out;have h2:=HO2.out;rw [List.take_of_length_le (by rw [HLO.out];omega)] at h1;rw [List.take_of_length_le (by rw [HHI.out];omega)] at h2;obtain ⟨A1,c1,rfl,hq1⟩:=OwnF.qv h1 H0.out;obtain ⟨A2,c2,rfl,hq2⟩:=OwnF.qv h2 H0.out;exact ⟨A1,c1,A2,c2,rfl,hq1,hq2,hb⟩
end
end Go.Proofs.YteokfcjdfjhhhaaGreatDoor
