/- Parts. -/
import Derived.Test.YthciialjockjmaaGreatDoorProg
import Derived.WalkKit
import Derived.IntWalk
import Derived.Lib.Hide
import Derived.Deep.QuietTactic
import Derived.BigQuiet
import Derived.Lib.SliceRun
import Derived.Deep.RegionHeld3
import Derived.Deep.Draws
import Derived.Laws.OwnMore
import Derived.Laws.MakeOwn
import Derived.Laws.Entries
import Derived.OwnWalk
import Derived.KernelRfl
import Derived.Handy
set_option linter.all false
set_option maxRecDepth 100000
set_option maxHeartbeats 8000000
namespace Go.Proofs.YthciialjockjmaaGreatDoor.Pos

def nv (b:Nat):List Nat→Nat
 | []=>0
 | d::l=>d+b*nv b l

def Dig (b:Nat) (l:List Nat):Prop:=∀d∈l,d < b
def Trim (l:List Nat):Prop:=l.getLast? ≠some 0

section
variable {b:Nat}
theorem nv_append (l m:List Nat):nv b (l++m)=nv b l+b^l.length*nv b m:=by
 induction l with
 | nil=>simp [nv]
 | cons d l ih=>simp only [List.cons_append,nv,ih,List.length_cons,Nat.pow_succ,Nat.mul_add];rw [←Nat.mul_assoc,Nat.mul_comm b (b^l.length)];omega
theorem nv_one (d:Nat):nv b [d]=d:=by simp [nv]
theorem nv_snoc (l:List Nat) (d:Nat):nv b (l++[d])=nv b l+b^l.length*d:=by rw [nv_append,nv_one]
theorem nv_zeros (n:Nat):nv b (List.replicate n 0)=0:=by
 induction n with
 | zero=>rfl
 | succ n ih=>simp [List.replicate_succ,nv,ih]
theorem nv_lt {l:List Nat} (h:Dig b l):nv b l < b^l.length:=by
 induction l with
 | nil=>simp [nv]
 | cons d l ih=>
   have h1:=ih fun x hx=>h x (List.mem_cons_of_mem _ hx)
   have h2:=h d List.mem_cons_self
   simp only [nv,List.length_cons,Nat.pow_succ]
   have h3:b*(nv b l+1)≤b*b^l.length:=Nat.mul_le_mul_left _ h1
   rw [Nat.mul_add,Nat.mul_one] at h3
   rw [Nat.mul_comm (b^l.length)]
   omega
theorem nv_take_succ {l:List Nat} {i:Nat} (h:i < l.length):nv b (l.take (i+1))=nv b (l.take i)+b^i*l[i]:=by
 rw [List.take_succ_eq_append_getElem h,nv_snoc,List.length_take,Nat.min_eq_left (by omega)]
theorem nv_split (l:List Nat) (i:Nat) (h:i≤l.length):nv b l=nv b (l.take i)+b^i*nv b (l.drop i):=by
 have:=nv_append (b:=b) (l.take i) (l.drop i)
 rw [List.take_append_drop,List.length_take,Nat.min_eq_left h] at this
 exact this
theorem Dig.take {l:List Nat} (h:Dig b l) (i:Nat):Dig b (l.take i):=fun d hd=>h d (List.mem_of_mem_take hd)
theorem Dig.drop {l:List Nat} (h:Dig b l) (i:Nat):Dig b (l.drop i):=fun d hd=>h d (List.mem_of_mem_drop hd)
theorem Dig.nil:Dig b []:=fun _ h=>by cases h
theorem Dig.snoc {l:List Nat} (h:Dig b l) {d:Nat} (hd:d < b):Dig b (l++[d]):=fun x hx=>by
 rcases List.mem_append.1 hx with h1|h1
 ·exact h x h1
 ·rw [List.mem_singleton] at h1;omega
theorem Dig.append {l m:List Nat} (h:Dig b l) (h':Dig b m):Dig b (l++m):=fun x hx=>by
 rcases List.mem_append.1 hx with h1|h1
 ·exact h x h1
 ·exact h' x h1
theorem Dig.at {l:List Nat} (h:Dig b l) {i:Nat} (hi:i < l.length):l[i] < b:=h _ (List.getElem_mem hi)
theorem Dig.set {l:List Nat} (h:Dig b l) (i:Nat) {d:Nat} (hd:d < b):Dig b (l.set i d):=fun x hx=>by
 rcases List.mem_or_eq_of_mem_set hx with h1|h1
 ·exact h x h1
 ·omega
theorem nv_set {l:List Nat} {i d:Nat} (h:i < l.length):nv b (l.set i d)+b^i*l[i]=nv b l+b^i*d:=by
 induction l generalizing i with
 | nil=>simp at h
 | cons x l ih=>
   cases i with
   | zero=>simp only [List.set_cons_zero,nv,Nat.pow_zero,Nat.one_mul,List.getElem_cons_zero];omega
   | succ i=>
     have:=ih (i:=i) (by simpa using h)
     simp only [List.set_cons_succ,nv,List.getElem_cons_succ,Nat.pow_succ]
     have e:=congrArg (b* ·) this
     simp only [Nat.mul_add] at e
     rw [Nat.mul_comm (b^i) b,Nat.mul_assoc,Nat.mul_assoc]
     omega

theorem Trim.nil:Trim []:=by simp [Trim]
theorem trim_snoc {l:List Nat} {d:Nat} (h:d≠0):Trim (l++[d]):=by simp [Trim,h]
theorem Trim.last {l:List Nat} (h:Trim l) (hl:0 < l.length):l[l.length - 1]≠0:=by
 intro hc;apply h
 rw [List.getLast?_eq_getElem?,List.getElem?_eq_getElem (by omega),hc]
theorem nv_ge {l:List Nat} (h:Trim l) (hl:0 < l.length):b^(l.length - 1)≤nv b l:=by
 have h1:=h.last hl
 rw [nv_split l (l.length - 1) (by omega),List.drop_eq_getElem_cons (by omega)]
 simp only [nv]
 rw [Nat.mul_add]
 have:=Nat.le_mul_of_pos_right (b^(l.length - 1)) (show 0 < l[l.length - 1] by omega)
 omega
theorem nv_pos {l:List Nat} (hb:0 < b) (h:Trim l) (hl:0 < l.length):0 < nv b l:=by
 have:=nv_ge (b:=b) h hl
 have:=Nat.pow_pos (n:=l.length - 1) hb
 omega
theorem nv_lt_of_len {l m:List Nat} (hb:0 < b) (hd:Dig b l) (hm:Trim m) (h:l.length < m.length):nv b l < nv b m:=by
 have h1:=nv_lt hd
 have h2:=nv_ge (b:=b) hm (by omega)
 have h3:b^l.length≤b^(m.length - 1):=Nat.pow_le_pow_right hb (by omega)
 omega
theorem nv_lt_of_top {l m:List Nat} (hd:Dig b l) (h:l.length=m.length) (i:Nat) (hi:i < l.length) (he:l.drop (i+1)=m.drop (i+1)) (hlt:l[i] < m[i]'(by omega)):nv b l < nv b m:=by
 rw [nv_split l (i+1) (by omega),nv_split m (i+1) (by omega),he,nv_take_succ hi,nv_take_succ (by omega)]
 have h1:=nv_lt (hd.take i)
 rw [List.length_take,Nat.min_eq_left (by omega)] at h1
 have h2:b^i*(l[i]+1)≤b^i*m[i]:=Nat.mul_le_mul_left _ hlt
 rw [Nat.mul_add,Nat.mul_one] at h2
 omega
theorem jqb {l m:List Nat} (hl:Dig b l) (hm:Dig b m) (h:l.length=m.length) (hv:nv b l=nv b m):l=m:=by
 induction l generalizing m with
 | nil=>cases m with
   | nil=>rfl
   | cons _ _=>simp at h
 | cons d l ih=>
   cases m with
   | nil=>simp at h
   | cons e m=>
     simp only [nv] at hv
     have h1:=hl d List.mem_cons_self
     have h2:=hm e List.mem_cons_self
     have e1:(d+b*nv b l) % b=(e+b*nv b m) % b:=by rw [hv]
     rw [Nat.add_mul_mod_self_left,Nat.add_mul_mod_self_left,Nat.mod_eq_of_lt h1,Nat.mod_eq_of_lt h2] at e1
     subst e1
     have:nv b l=nv b m:=Nat.eq_of_mul_eq_mul_left (show 0 < b by omega) (by omega)
     rw [ih (fun x hx=>hl x (List.mem_cons_of_mem _ hx)) (fun x hx=>hm x (List.mem_cons_of_mem _ hx)) (by simpa using h) this]
theorem nv_trim_inj {l m:List Nat} (hb:0 < b) (hl:Dig b l) (hm:Dig b m) (tl:Trim l) (tm:Trim m) (hv:nv b l=nv b m):l=m:=by
 refine jqb hl hm ?_ hv
 rcases Nat.lt_trichotomy l.length m.length with h|h|h
 ·have:=nv_lt_of_len hb hl tm h;omega
 ·exact h
 ·have:=nv_lt_of_len hb hm tl h;omega
end
end Go.Proofs.YthciialjockjmaaGreatDoor.Pos
namespace Go.Proofs.YthciialjockjmaaGreatDoor
open Go Go.RowKit

theorem qh {p:Prop} (h:p):Hid p:=Lib.hid h
theorem jaF {B:Nat} {a w:World} (h:Below B a w) (n:Nat):Below B a (w.drewN n):=⟨h.os,h.tape,h.output,h.size,h.block⟩
theorem ja3 {a b c:World} (h:Below a.heap.size a b) (k:Below b.heap.size b c):Below a.heap.size a c:=h.trans (k.mono h.size)
theorem ja7 {a b:World} (h:Below a.heap.size a b) (o:Obj):Below a.heap.size a (b.alloc o):=h.alloc h.size o
theorem bR {n:Nat} {w:World}:Below n w w:=Below.refl _ _
theorem bA {a b:World} {o:Obj} (h:Below a.heap.size a b):Below a.heap.size a (b.alloc o):=ja7 h o
theorem bD {n:Nat} {a b:World} (h:Below n a b):Below n a b.drew:=h.drew
theorem bN {n k:Nat} {a b:World} (h:Below n a b):Below n a (b.drewN k):=jaF h k
theorem bC {n:Nat} {a b:World} {p:Addr} {u:Value} (h:Below n a b) (hp:n≤p.block):Below n a (b.setCell p u):=h.setCell hp u
theorem bS {a b c:World} (h:Below a.heap.size a b) (k:Below b.heap.size b c):Below a.heap.size a c:=ja3 h k
inductive Bw (a:World):World→Prop
 | r:Bw a a
 | A {b:World} {o:Obj} (h:Bw a b):Bw a (b.alloc o)
 | D {b:World} (h:Bw a b):Bw a b.drew
 | N {b:World} {k:Nat} (h:Bw a b):Bw a (b.drewN k)
 | C {b:World} {p:Addr} {u:Value} (hp:a.heap.size≤p.block) (h:Bw a b):Bw a (b.setCell p u)
 | S {b c:World} (k:Below b.heap.size b c) (h:Bw a b):Bw a c
theorem bq {a b:World} (h:Bw a b):Below a.heap.size a b:=by
 induction h with
 | r=>exact bR
 | A _ h=>exact bA h
 | D _ h=>exact bD h
 | N _ h=>exact bN h
 | C hp _ h=>exact bC h hp
 | S k _ h=>exact bS h k
theorem bq0 {a:World}:Below a.heap.size a a.drew:=bD bR
theorem bst {a b c:World} (h:Below a.heap.size a b) (k:Below b.heap.size b c):Below a.heap.size a c:=ja3 h k
theorem szl {a c:World} {k:Nat} (h:Below a.heap.size a c) (hk:k < a.heap.size):k < c.heap.size:=Nat.lt_of_lt_of_le hk h.size
theorem ja6 {W w1:World} (hb:Below W.heap.size W w1) {p:Addr} {v:Value} (h:W.cell? p=some v):w1.cell? p=some v:=by
 rw [hb.cell (World.block_lt_of_cell? W p h)];exact h
theorem ja0 {W w1:World} (hb:Below W.heap.size W w1):(∀b o,b < W.heap.size→w1.cell? ⟨b,o,none⟩=W.cell? ⟨b,o,none⟩)∧(∀b o,b < W.heap.size→w1.frozen? ⟨b,o,none⟩=W.frozen? ⟨b,o,none⟩):=
 ⟨fun b o h=>hb.cell (p:=⟨b,o,none⟩) h,fun b o h=>hb.frozen (p:=⟨b,o,none⟩) h⟩
theorem bc1 (w:World) {W w1:World} (hb:Below W.heap.size W w1) (h:w.heap.size < W.heap.size):(∀b o,b < W.heap.size→w1.cell? ⟨b,o,none⟩=W.cell? ⟨b,o,none⟩)∧(∀b o,b < W.heap.size→w1.frozen? ⟨b,o,none⟩=W.frozen? ⟨b,o,none⟩)∧w.heap.size < w1.heap.size:=by
 have e:=hb.size
 exact ⟨(ja0 hb).1,(ja0 hb).2,by omega⟩
theorem bc2 (w:World) {W w1:World} (hb:Below W.heap.size W w1) (h:w.heap.size+1 < W.heap.size):(∀b o,b < W.heap.size→w1.cell? ⟨b,o,none⟩=W.cell? ⟨b,o,none⟩)∧(∀b o,b < W.heap.size→w1.frozen? ⟨b,o,none⟩=W.frozen? ⟨b,o,none⟩)∧w.heap.size < w1.heap.size∧w.heap.size+1 < w1.heap.size:=by
 have e:=hb.size
 exact ⟨(ja0 hb).1,(ja0 hb).2,by omega,by omega⟩
theorem bc3 (w:World) {W w1:World} (hb:Below W.heap.size W w1) (h:w.heap.size+1+1 < W.heap.size):(∀b o,b < W.heap.size→w1.cell? ⟨b,o,none⟩=W.cell? ⟨b,o,none⟩)∧(∀b o,b < W.heap.size→w1.frozen? ⟨b,o,none⟩=W.frozen? ⟨b,o,none⟩)∧w.heap.size < w1.heap.size∧w.heap.size+1 < w1.heap.size∧w.heap.size+1+1 < w1.heap.size:=by
 have e:=hb.size
 exact ⟨(ja0 hb).1,(ja0 hb).2,by omega,by omega,by omega⟩
theorem bc4 (w:World) {W w1:World} (hb:Below W.heap.size W w1) (h:w.heap.size+1+1+1 < W.heap.size):(∀b o,b < W.heap.size→w1.cell? ⟨b,o,none⟩=W.cell? ⟨b,o,none⟩)∧(∀b o,b < W.heap.size→w1.frozen? ⟨b,o,none⟩=W.frozen? ⟨b,o,none⟩)∧w.heap.size < w1.heap.size∧w.heap.size+1 < w1.heap.size∧w.heap.size+1+1 < w1.heap.size∧w.heap.size+1+1+1 < w1.heap.size:=by
 have e:=hb.size
 exact ⟨(ja0 hb).1,(ja0 hb).2,by omega,by omega,by omega,by omega⟩
theorem nl {a b:Nat} (h:a < b):a≠b:=Nat.ne_of_lt h
theorem nls {a b:Nat} (h:a < b):a < Nat.succ b:=Nat.lt_succ_of_lt h
theorem dw {w:World}:w.drew.heap.size=w.heap.size∧(∀a,w.drew.cell? a=w.cell? a)∧∀a,w.drew.frozen? a=w.frozen? a:=⟨rfl,fun _=>rfl,fun _=>rfl⟩
theorem jlC {k:IntKind} {a b:Int} (h:a=b):Ending.returned (.int k a)= .returned (.int k b):=by rw [h]

def Blk (w:World) (g:Nat) (t:TypeId) (cs:Array Value):Prop:=w.heap[g]? =some (.cells cs t (0,0))
section
variable {w w':World} {g:Nat} {t:TypeId} {cs:Array Value}
theorem Blk.lt (h:Blk w g t cs):g < w.heap.size:=by
 rcases Nat.lt_or_ge g w.heap.size with hlt|hge
 ·exact hlt
 ·unfold Blk at h;rw [Array.getElem?_eq_none hge] at h;cases h
theorem Blk.cell (h:Blk w g t cs) (i:Nat):w.cell? ⟨g,i,none⟩=cs[i]? :=cell_of_row w g i cs t (0,0) h
theorem Blk.frozen (h:Blk w g t cs) (i:Nat):w.frozen? ⟨g,i,none⟩=false:=by
 unfold Blk at h
 simp [World.frozen?,h]
theorem Blk.new (w:World) (t:TypeId) (cs:Array Value):Blk (w.alloc (.cells cs t)) w.heap.size t cs:=heap_alloc_new w _
theorem Blk.drewN (h:Blk w g t cs) (n:Nat):Blk (w.drewN n) g t cs:=h
theorem Blk.alloc (h:Blk w g t cs) (o:Obj):Blk (w.alloc o) g t cs:=(Below.heap_alloc w o g h.lt).trans h
theorem Blk.set_ (h:Blk w g t cs) (i:Nat) (u:Value):Blk (w.setCell ⟨g,i,none⟩ u) g t (cs.setIfInBounds i u):=by
 unfold Blk at h ⊢
 simp [World.setCell,Array.getElem?_modify,h]
theorem Blk.far (h:Blk w g t cs) {p:Addr} (hp:g≠p.block) (u:Value):Blk (w.setCell p u) g t cs:=(Below.heap_setCell w p u g hp).trans h
theorem Blk.below (h:Blk w g t cs) (hb:Below w.heap.size w w'):Blk w' g t cs:=(hb.block g h.lt).trans h
end

def B64:Nat:=18446744073709551616
theorem ja8:B64=18446744073709551616:=rfl
theorem ja9:0 < B64:=by rw [ja8];omega

def dg (ds:List Nat) (j:Nat):Nat:=ds.getD j 0

structure Wd (w:World) (A:Option Addr) (n:Nat) (ds:List Nat):Prop where
 len:ds.length=n
 dig:Pos.Dig B64 ds
 big:n < 1099511627776
 at_:0 < n→∃b o,A=some ⟨b,o,none⟩∧b < w.heap.size∧∀j,j < n→w.cell? ⟨b,o+j,none⟩=some (.int .u64 ((dg ds j:Nat):Int))
section
variable {w w':World} {A:Option Addr} {n:Nat} {ds:List Nat}
theorem Wd.below (h:Wd w A n ds) (hb:Below w.heap.size w w'):Wd w' A n ds:=
 ⟨h.len,h.dig,h.big,fun hn=>by
   obtain ⟨b,o,e,hl,hc⟩:=h.at_ hn
   exact ⟨b,o,e,Nat.lt_of_lt_of_le hl hb.size,fun j hj=>(hb.cell (p:=⟨b,o+j,none⟩) hl).trans (hc j hj)⟩⟩
theorem Wd.nil (w:World) (A:Option Addr):Wd w A 0 []:=⟨rfl,Pos.Dig.nil,by omega,fun h=>absurd h (by omega)⟩
theorem Wd.take (h:Wd w A n ds) {k:Nat} (hk:k≤n):Wd w A k (ds.take k):=
 ⟨by rw [List.length_take,h.len];omega,h.dig.take k,by have:=h.big;omega,fun h0=>by
   obtain ⟨b,o,e,hl,hc⟩:=h.at_ (by omega)
   refine ⟨b,o,e,hl,fun j hj=> ?_⟩
   rw [show dg (ds.take k) j=dg ds j by simp [dg,List.getD_eq_getElem?_getD,List.getElem?_take,hj]]
   exact hc j (by omega)⟩
theorem Wd.of_blk {g t:Nat} {cs:Array Value} (h:Blk w g t cs) (hcs:cs=(ds.map fun d:Nat=>Value.int .u64 (d:Int)).toArray) (hn:ds.length=n) (hb:n < 1099511627776) (hd:Pos.Dig B64 ds):Wd w (some ⟨g,0,none⟩) n ds:=
 ⟨hn,hd,hb,fun _=>⟨g,0,rfl,h.lt,fun j hj=>by
   have hj':j < ds.length:=by omega
   rw [h.cell,hcs,Nat.zero_add];simp [hj',dg]⟩⟩
end
theorem gd {ds:List Nat} {j:Nat} (h:j < ds.length):dg ds j=ds[j]:=by simp [dg,List.getD_eq_getElem?_getD,h]
theorem jac {ds:List Nat} (h:Pos.Dig B64 ds) (j:Nat):dg ds j < 18446744073709551616:=by
 rcases Nat.lt_or_ge j ds.length with hj|hj
 ·rw [gd hj];exact h.at hj
 ·simp [dg,List.getD_eq_getElem?_getD,hj]

def jf9 (zs:List Nat) (m:Nat):Array Value:=((zs.map fun d:Nat=>Value.int .u64 (d:Int))++List.replicate (m - zs.length) (Value.int .u64 0)).toArray
theorem jga (zs:List Nat):jf9 zs zs.length=(zs.map fun d:Nat=>Value.int .u64 (d:Int)).toArray:=by simp [jf9]
theorem jfT (zs:List Nat) (m d:Nat) (h:zs.length < m):(jf9 zs m).setIfInBounds zs.length (.int .u64 (d:Int))=jf9 (zs++[d]) m:=by
 obtain ⟨k,hk⟩:∃k,m - zs.length=k+1:=⟨m - zs.length - 1,by omega⟩
 have hk':m - (zs++[d]).length=k:=by simp;omega
 unfold jf9
 rw [hk,hk',List.setIfInBounds_toArray]
 congr 1
 rw [List.set_append_right _ _ (by simp)]
 simp [List.replicate_succ]
theorem je7 {zs:List Nat} {m j:Nat} (h:zs.length≤j) (hm:j < m):(jf9 zs m)[j]? =some (.int .u64 0):=by
 simp [jf9,List.getElem?_append,List.getElem?_replicate]
 rw [if_neg (by omega),if_pos (by omega)]
theorem jlK:(Tryz.prog.info? 179).map (fun i=>(i.zero,i.size,i.bytes))=some (some (.int .u64 0),1,8):=by kernel_rfl
theorem jg3 (l:Nat):madeCells #[Value.int .u64 0] (l*1)=jf9 [] l:=by
 apply Array.ext
 ·simp [madeCells,jf9]
 ·intro i h1 h2
  simp [madeCells,jf9,Nat.mod_one]
theorem jbZ (l:Nat) (hl:l < 1099511627776) (W:World):
  (Instr.makeSlice 65 (.int .i64 (l:Int)) (.int .i64 (l:Int))).run Tryz.prog W= .ok (.slice (some ⟨W.heap.size,0,none⟩) l l) (W.alloc (.cells (jf9 [] l) 179)):=by
 obtain ⟨i0,hi,hz0,hz1,hz2⟩:=info_parts jlK
 have hr:=run_make (P:=Tryz.prog) W 65 179 i0 (.int .u64 0) Tryz.underlying65 hi hz0 .i64 .i64 (l:Int) (l:Int) (by omega) (by omega) (by rw [hz2];omega) (by omega)
 simp only [Int.toNat_natCast,hz1] at hr
 rw [hr,show (Value.int IntKind.u64 0).cells= #[Value.int .u64 0] from rfl,jg3]

theorem jaq (w:World) (a:Option Addr) (n c:Nat):(binOp .eql 65 (.slice a n c) (.slice none 0 0)).run Tryz.prog w= .ok (.bool a.isNone) w:=
 Lib.run_eql_slice_nil w _ _ a n c 0 0 Tryz.underlying65

def sgn (z:Int):Int:=if z < 0 then -1 else if 0 < z then 1 else 0
end Go.Proofs.YthciialjockjmaaGreatDoor
namespace Go.Proofs.YthciialjockjmaaGreatDoor.Rq
open Go.Proofs.YthciialjockjmaaGreatDoor
theorem num_pos {a b:Int} (hb:0 < b):Int.fdiv a ((Nat.gcd a.natAbs b.natAbs:Nat):Int)=(Rat.divInt a b).num:=by
 rw [Rat.num_divInt,Int.sign_eq_one_of_pos hb,Int.one_mul,Int.fdiv_eq_ediv_of_nonneg _ (by omega),Int.gcd_comm]
 rfl
theorem den_pos {a b:Int} (hb:0 < b):Int.fdiv b ((Nat.gcd a.natAbs b.natAbs:Nat):Int)=((Rat.divInt a b).den:Nat):=by
 rw [Rat.den_divInt,if_neg (by omega),Int.fdiv_eq_ediv_of_nonneg _ (by omega),Int.gcd_comm]
 rw [Int.natCast_ediv,Int.natAbs_of_nonneg (by omega)]
 rfl
theorem num_one (a:Int):(Rat.divInt a 1).num=a:=by rw [Rat.num_divInt];simp
theorem den_one (a:Int):(Rat.divInt a 1).den=1:=by rw [Rat.den_divInt];simp
theorem num_le (a b:Int):(Rat.divInt a b).num.natAbs≤a.natAbs:=by
 rw [Rat.num_divInt]
 refine Nat.le_trans (Int.natAbs_ediv_le_natAbs _ _) ?_
 rw [Int.natAbs_mul]
 rcases Int.lt_trichotomy b 0 with h|h|h
 ·rw [Int.sign_eq_neg_one_of_neg h];simp
 ·subst h;simp
 ·rw [Int.sign_eq_one_of_pos h];simp
theorem den_le (a:Int) {b:Int} (hb:b≠0):(Rat.divInt a b).den≤b.natAbs:=by
 rw [Rat.den_divInt,if_neg hb];exact Nat.div_le_self _ _
theorem gcd_pos (a:Int) {b:Int} (hb:b≠0):0 < Nat.gcd a.natAbs b.natAbs:=Nat.gcd_pos_of_pos_right _ (by omega)
theorem gcd_le (a:Int) {b:Int} (hb:b≠0):Nat.gcd a.natAbs b.natAbs≤b.natAbs:=Nat.gcd_le_right _ (by omega)
theorem den_ne (x:Rat):(x.den:Int)≠0:=by have:=x.den_pos;omega
theorem add_eq (x y:Rat):x+y=Rat.divInt (x.num*y.den+y.num*x.den) (x.den*y.den):=by
 conv=>lhs;rw [←Rat.num_divInt_den x,←Rat.num_divInt_den y]
 rw [Rat.divInt_add_divInt _ _ (den_ne x) (den_ne y)]
theorem add_whole {x y:Rat} (hx:x.den=1) (hy:y.den=1):x+y=((x.num+y.num:Int):Rat):=by
 rw [add_eq,hx,hy]
 have e:∀a:Int,Rat.divInt a 1=(a:Rat):=fun a=>by
  apply Rat.ext
  ·rw [num_one];rfl
  ·rw [den_one];rfl
 rw [show ((1:Nat):Int)=1 from rfl,Int.mul_one,Int.mul_one,Int.mul_one,e]
theorem mul_eq (x y:Rat):x*y=Rat.divInt (x.num*y.num) (x.den*y.den):=by
 conv=>lhs;rw [←Rat.num_divInt_den x,←Rat.num_divInt_den y]
 rw [Rat.divInt_mul_divInt]
theorem inv_eq (x:Rat):x⁻¹=Rat.divInt x.den x.num:=Rat.inv_def x
theorem ne_num {x:Rat} (h:x≠0):x.num≠0:=by intro e;exact h (Rat.num_eq_zero.1 e)
theorem sub_eq (x y:Rat):x - y=x+ -y:=Rat.sub_eq_add_neg x y
theorem div_eq (x y:Rat):x / y=x*y⁻¹:=Rat.div_def x y
def cmpQ (x y:Rat):Int:=if x < y then -1 else if y < x then 1 else 0
theorem cmp_eq (x y:Rat):sgn (x.num*y.den - y.num*x.den)=cmpQ x y:=by
 unfold cmpQ sgn
 have h1:=Rat.lt_iff x y
 have h2:=Rat.lt_iff y x
 by_cases c1:x < y
 ·have:=h1.1 c1
  rw [if_pos (by omega),if_pos c1]
 ·have h3:¬(x.num*↑y.den < y.num*↑x.den):=fun h=>c1 (h1.2 h)
  rw [if_neg (by omega),if_neg c1]
  by_cases c2:y < x
  ·have:=h2.1 c2
   rw [if_pos (by omega),if_pos c2]
  ·have h4:¬(y.num*↑x.den < x.num*↑y.den):=fun h=>c2 (h2.2 h)
   rw [if_neg (by omega),if_neg c2]
theorem cmp_zero {x y:Rat}:cmpQ x y=0↔x=y:=by
 unfold cmpQ
 constructor
 ·intro h
  split at h
  ·cases h
  ·split at h
   ·cases h
   ·rename_i h1 h2
    exact Rat.le_antisymm (Rat.not_lt.1 h2) (Rat.not_lt.1 h1)
 ·intro h;subst h;simp [Rat.lt_irrefl]
theorem cmp_neg {x y:Rat}:cmpQ x y < 0↔x < y:=by
 unfold cmpQ;split <;> (try split) <;> simp_all
theorem cmp_pos {x y:Rat}:0 < cmpQ x y↔y < x:=by
 unfold cmpQ;split
 ·rename_i h;simp;exact Rat.not_lt.2 (Rat.le_of_lt h)
 ·split <;> simp_all
end Go.Proofs.YthciialjockjmaaGreatDoor.Rq
