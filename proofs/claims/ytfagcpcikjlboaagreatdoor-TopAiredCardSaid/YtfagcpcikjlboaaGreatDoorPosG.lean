/- Parts. -/
import Derived.Test.YtfagcpcikjlboaaGreatDoorProg
import Derived.WalkKit
import Derived.IntWalk
import Derived.Lib.Hide
import Derived.Deep.QuietTactic
import Derived.BigQuiet
import Derived.Lib.SliceRun
import Derived.Deep.RegionHeld3
import Derived.Deep.Draws
import Derived.Laws.OwnMore
import Derived.Laws.MakeOwn
import Derived.Laws.Entries
import Derived.OwnWalk
import Derived.KernelRfl
import Derived.Handy
set_option linter.all false
set_option maxRecDepth 100000
set_option maxHeartbeats 8000000
namespace Go.Proofs.YtfagcpcikjlboaaGreatDoor.Pos

def nv (b:Nat):List Nat→Nat
 | []=>0
 | d::l=>d+b*nv b l

def Dig (b:Nat) (l:List Nat):Prop:=∀d∈l,d < b
def Trim (l:List Nat):Prop:=l.getLast? ≠some 0

section
variable {b:Nat}
theorem nv_append (l m:List Nat):nv b (l++m)=nv b l+b^l.length*nv b m:=by
 induction l with
 | nil=>simp [nv]
 | cons d l ih=>simp only [List.cons_append,nv,ih,List.length_cons,Nat.pow_succ,Nat.mul_add];rw [←Nat.mul_assoc,Nat.mul_comm b (b^l.length)];omega
theorem nv_one (d:Nat):nv b [d]=d:=by simp [nv]
theorem nv_snoc (l:List Nat) (d:Nat):nv b (l++[d])=nv b l+b^l.length*d:=by rw [nv_append,nv_one]
theorem nv_zeros (n:Nat):nv b (List.replicate n 0)=0:=by
 induction n with
 | zero=>rfl
 | succ n ih=>simp [List.replicate_succ,nv,ih]
theorem nv_lt {l:List Nat} (h:Dig b l):nv b l < b^l.length:=by
 induction l with
 | nil=>simp [nv]
 | cons d l ih=>
   have h1:=ih fun x hx=>h x (List.mem_cons_of_mem _ hx)
   have h2:=h d List.mem_cons_self;simp only [nv,List.length_cons,Nat.pow_succ];have h3:b*(nv b l+1)≤b*b^l.length:=Nat.mul_le_mul_left _ h1;rw [Nat.mul_add,Nat.mul_one] at h3;rw [Nat.mul_comm (b^l.length)];omega
theorem nv_take_succ {l:List Nat} {i:Nat} (h:i < l.length):nv b (l.take (i+1))=nv b (l.take i)+b^i*l[i]:=by
 rw [List.take_succ_eq_append_getElem h,nv_snoc,List.length_take,Nat.min_eq_left (by omega)]
theorem nv_split (l:List Nat) (i:Nat) (h:i≤l.length):nv b l=nv b (l.take i)+b^i*nv b (l.drop i):=by
 have:=nv_append (b:=b) (l.take i) (l.drop i);rw [List.take_append_drop,List.length_take,Nat.min_eq_left h] at this;exact this
theorem Dig.take {l:List Nat} (h:Dig b l) (i:Nat):Dig b (l.take i):=fun d hd=>h d (List.mem_of_mem_take hd)
theorem Dig.drop {l:List Nat} (h:Dig b l) (i:Nat):Dig b (l.drop i):=fun d hd=>h d (List.mem_of_mem_drop hd)
theorem Dig.nil:Dig b []:=fun _ h=>by cases h
theorem Dig.snoc {l:List Nat} (h:Dig b l) {d:Nat} (hd:d < b):Dig b (l++[d]):=fun x hx=>by
 rcases List.mem_append.1 hx with h1|h1
 ·exact h x h1
 ·rw [List.mem_singleton] at h1;omega
theorem Dig.append {l m:List Nat} (h:Dig b l) (h':Dig b m):Dig b (l++m):=fun x hx=>by
 rcases List.mem_append.1 hx with h1|h1
 ·exact h x h1
 ·exact h' x h1
theorem Dig.at {l:List Nat} (h:Dig b l) {i:Nat} (hi:i < l.length):l[i] < b:=h _ (List.getElem_mem hi)
theorem Dig.set {l:List Nat} (h:Dig b l) (i:Nat) {d:Nat} (hd:d < b):Dig b (l.set i d):=fun x hx=>by
 rcases List.mem_or_eq_of_mem_set hx with h1|h1
 ·exact h x h1
 ·omega
theorem nv_set {l:List Nat} {i d:Nat} (h:i < l.length):nv b (l.set i d)+b^i*l[i]=nv b l+b^i*d:=by
 induction l generalizing i with
 | nil=>simp at h
 | cons x l ih=>
   cases i with
   | zero=>simp only [List.set_cons_zero,nv,Nat.pow_zero,Nat.one_mul,List.getElem_cons_zero];omega
   | succ i=>
     have:=ih (i:=i) (by simpa using h);simp only [List.set_cons_succ,nv,List.getElem_cons_succ,Nat.pow_succ];have e:=congrArg (b* ·) this;simp only [Nat.mul_add] at e;rw [Nat.mul_comm (b^i) b,Nat.mul_assoc,Nat.mul_assoc];omega

theorem Trim.nil:Trim []:=by simp [Trim]
theorem trim_snoc {l:List Nat} {d:Nat} (h:d≠0):Trim (l++[d]):=by simp [Trim,h]
theorem Trim.last {l:List Nat} (h:Trim l) (hl:0 < l.length):l[l.length - 1]≠0:=by
 intro hc;apply h;rw [List.getLast?_eq_getElem?,List.getElem?_eq_getElem (by omega),hc]
theorem nv_ge {l:List Nat} (h:Trim l) (hl:0 < l.length):b^(l.length - 1)≤nv b l:=by
 have h1:=h.last hl;rw [nv_split l (l.length - 1) (by omega),List.drop_eq_getElem_cons (by omega)];simp only [nv];rw [Nat.mul_add];have:=Nat.le_mul_of_pos_right (b^(l.length - 1)) (show 0 < l[l.length - 1] by omega);omega
theorem nv_pos {l:List Nat} (hb:0 < b) (h:Trim l) (hl:0 < l.length):0 < nv b l:=by
 have:=nv_ge (b:=b) h hl;have:=Nat.pow_pos (n:=l.length - 1) hb;omega
theorem nv_lt_of_len {l m:List Nat} (hb:0 < b) (hd:Dig b l) (hm:Trim m) (h:l.length < m.length):nv b l < nv b m:=by
 have h1:=nv_lt hd;have h2:=nv_ge (b:=b) hm (by omega);have h3:b^l.length≤b^(m.length - 1):=Nat.pow_le_pow_right hb (by omega);omega
theorem nv_lt_of_top {l m:List Nat} (hd:Dig b l) (h:l.length=m.length) (i:Nat) (hi:i < l.length) (he:l.drop (i+1)=m.drop (i+1)) (hlt:l[i] < m[i]'(by omega)):nv b l < nv b m:=by
 rw [nv_split l (i+1) (by omega),nv_split m (i+1) (by omega),he,nv_take_succ hi,nv_take_succ (by omega)];have h1:=nv_lt (hd.take i);rw [List.length_take,Nat.min_eq_left (by omega)] at h1;have h2:b^i*(l[i]+1)≤b^i*m[i]:=Nat.mul_le_mul_left _ hlt;rw [Nat.mul_add,Nat.mul_one] at h2;omega
theorem jut {l m:List Nat} (hl:Dig b l) (hm:Dig b m) (h:l.length=m.length) (hv:nv b l=nv b m):l=m:=by
 induction l generalizing m with
 | nil=>cases m with
   | nil=>rfl
   | cons _ _=>simp at h
 | cons d l ih=>
   cases m with
   | nil=>simp at h
   | cons e m=>
     simp only [nv] at hv;have h1:=hl d List.mem_cons_self;have h2:=hm e List.mem_cons_self;have e1:(d+b*nv b l) % b=(e+b*nv b m) % b:=by rw [hv]
     rw [Nat.add_mul_mod_self_left,Nat.add_mul_mod_self_left,Nat.mod_eq_of_lt h1,Nat.mod_eq_of_lt h2] at e1;subst e1;have:nv b l=nv b m:=Nat.eq_of_mul_eq_mul_left (show 0 < b by omega) (by omega);rw [ih (fun x hx=>hl x (List.mem_cons_of_mem _ hx)) (fun x hx=>hm x (List.mem_cons_of_mem _ hx)) (by simpa using h) this]
theorem nv_trim_inj {l m:List Nat} (hb:0 < b) (hl:Dig b l) (hm:Dig b m) (tl:Trim l) (tm:Trim m) (hv:nv b l=nv b m):l=m:=by
 refine jut hl hm ?_ hv;rcases Nat.lt_trichotomy l.length m.length with h|h|h
 ·have:=nv_lt_of_len hb hl tm h;omega
 ·exact h
 ·have:=nv_lt_of_len hb hm tl h;omega
end
end Go.Proofs.YtfagcpcikjlboaaGreatDoor.Pos
namespace Go.Proofs.YtfagcpcikjlboaaGreatDoor
open Go Go.RowKit Go.Proofs.Tryz

def Hd (p:Prop):Prop:=p
theorem Hd.o {p:Prop} (h:Hd p):p:=h
theorem Hd.out {p:Prop} (h:Hd p):p:=h
theorem qh {p:Prop} (h:p):Hd p:=h
theorem ai {p q:Prop} (h:p) (k:q):p∧q:=⟨h,k⟩
theorem jav {B:Nat} {a w:World} (h:Below B a w) (n:Nat):Below B a (w.drewN n):=⟨h.os,h.tape,h.output,h.size,h.block⟩
theorem ja0 {a b c:World} (h:Below a.heap.size a b) (k:Below b.heap.size b c):Below a.heap.size a c:=h.trans (k.mono h.size)
theorem ja5 {a b:World} (h:Below a.heap.size a b) (o:Obj):Below a.heap.size a (b.alloc o):=h.alloc h.size o
theorem bR {n:Nat} {w:World}:Below n w w:=Below.refl _ _
theorem bA {a b:World} {o:Obj} (h:Below a.heap.size a b):Below a.heap.size a (b.alloc o):=ja5 h o
theorem bD {n:Nat} {a b:World} (h:Below n a b):Below n a b.drew:=h.drew
theorem bN {n k:Nat} {a b:World} (h:Below n a b):Below n a (b.drewN k):=jav h k
theorem bC {n:Nat} {a b:World} {p:Addr} {u:Value} (h:Below n a b) (hp:n≤p.block):Below n a (b.setCell p u):=h.setCell hp u
theorem bS {a b c:World} (h:Below a.heap.size a b) (k:Below b.heap.size b c):Below a.heap.size a c:=ja0 h k
inductive Bw (a:World):World→Prop
 | r:Bw a a
 | A {b:World} {o:Obj} (h:Bw a b):Bw a (b.alloc o)
 | D {b:World} (h:Bw a b):Bw a b.drew
 | N {b:World} {k:Nat} (h:Bw a b):Bw a (b.drewN k)
 | C {b:World} {p:Addr} {u:Value} (hp:a.heap.size≤p.block) (h:Bw a b):Bw a (b.setCell p u)
 | S {b c:World} (k:Below b.heap.size b c) (h:Bw a b):Bw a c
theorem bq {a b:World} (h:Bw a b):Below a.heap.size a b:=by
 induction h with
 | r=>exact bR
 | A _ h=>exact bA h
 | D _ h=>exact bD h
 | N _ h=>exact bN h
 | C hp _ h=>exact bC h hp
 | S k _ h=>exact bS h k
theorem bq0 {a:World}:Below a.heap.size a a.drew:=bD bR
theorem bst {a b c:World} (h:Below a.heap.size a b) (k:Below b.heap.size b c):Below a.heap.size a c:=ja0 h k
theorem szl {a c:World} {k:Nat} (h:Below a.heap.size a c) (hk:k < a.heap.size):k < c.heap.size:=Nat.lt_of_lt_of_le hk h.size
theorem ja9 {W w1:World} (hb:Below W.heap.size W w1) {p:Addr} {v:Value} (h:W.cell? p=some v):w1.cell? p=some v:=by
 rw [hb.cell (World.block_lt_of_cell? W p h)];exact h
theorem jhL {W w1:World} (hb:Below W.heap.size W w1):(∀b o,b < W.heap.size→w1.cell? ⟨b,o,none⟩=W.cell? ⟨b,o,none⟩)∧(∀b o,b < W.heap.size→w1.frozen? ⟨b,o,none⟩=W.frozen? ⟨b,o,none⟩):=
 ⟨fun b o h=>hb.cell (p:=⟨b,o,none⟩) h,fun b o h=>hb.frozen (p:=⟨b,o,none⟩) h⟩
class Bx (W:outParam World) (w1:World):Prop where p:Below W.heap.size W w1
class Sx (n m:Nat):Prop where p:n≤m
class Bz (a b:World):Prop where p:Below a.heap.size a b
instance szs {n m:Nat} [h:Sx n m]:Sx n (m+1):=⟨Nat.le_succ_of_le h.p⟩
instance szb {a b:World} [h:Bz a b]:Sx a.heap.size b.heap.size:=⟨h.p.size⟩
instance bzs {a b c:World} [k:Bx b c] [h:Bz a b]:Bz a c:=⟨bS h.p k.p⟩
instance bzc {a b:World} {g o:Nat} {q:Option Nat} {u:Value} [hp:Sx a.heap.size g] [h:Bz a b]:Bz a (b.setCell ⟨g,o,q⟩ u):=⟨bC h.p hp.p⟩
instance bza {a b:World} {o:Obj} [h:Bz a b]:Bz a (b.alloc o):=⟨bA h.p⟩
instance bzn {a b:World} {k:Nat} [h:Bz a b]:Bz a (b.drewN k):=⟨bN h.p⟩
instance bzd {a b:World} [h:Bz a b]:Bz a b.drew:=⟨bD h.p⟩
instance bzr {a:World}:Bz a a:=⟨bR⟩
class Sl (n m:Nat):Prop where p:n < m
instance sl0 {a b:World} {o:Obj} [h:Bz a b]:Sl a.heap.size (b.alloc o).heap.size:=⟨by have:=h.p.size;simp;omega⟩
instance sl1 {n:Nat} {b:World} {o:Obj} [h:Sl n b.heap.size]:Sl n (b.alloc o).heap.size:=⟨by have:=h.p;simp;omega⟩
instance sl2 {n:Nat} {b:World} {o:Obj} [h:Sl n b.heap.size]:Sl (n+1) (b.alloc o).heap.size:=⟨by have:=h.p;simp;omega⟩
instance sl3 {n:Nat} {b c:World} [k:Bx b c] [h:Sl n b.heap.size]:Sl n c.heap.size:=⟨Nat.lt_of_lt_of_le h.p k.p.size⟩
instance sl4 {n:Nat} {b:World} [h:Sl n b.heap.size]:Sl n b.drew.heap.size:=⟨h.p⟩
instance sl5 {n k:Nat} {b:World} [h:Sl n b.heap.size]:Sl n (b.drewN k).heap.size:=⟨h.p⟩
instance sl6 {n:Nat} {b:World} {q:Addr} {u:Value} [h:Sl n b.heap.size]:Sl n (b.setCell q u).heap.size:=⟨by have:=h.p;simpa using this⟩
class Lq (k m:Nat) (P:outParam (Prop→Prop)):Prop where p:∀n,m≤n→P (k < n)
instance (priority:=10) lq0 {k m:Nat}:Lq k m fun _=>True:=⟨fun _ _=>trivial⟩
instance lq1 {k m:Nat} [h:Sl k m]:Lq k m fun x=>x:=⟨fun _ q=>Nat.lt_of_lt_of_le h.p q⟩
theorem zlt {a c:World} (k:Nat) (h:Below a.heap.size a c) {P:Prop→Prop} [i:Lq k a.heap.size P]:P (k < c.heap.size):=i.p _ h.size
theorem bm {W w1:World} (h:Below W.heap.size W w1):Bx W w1:=⟨h⟩
theorem bi {a b:World} [h:Bz a b]:Below a.heap.size a b:=h.p
class Ux (W:World) (V:outParam World):Prop where p:W.heap.size=V.heap.size∧(∀a,W.cell? a=V.cell? a)∧∀a,W.frozen? a=V.frozen? a
instance (priority:=100) udr {W:World}:Ux W W:=⟨rfl,fun _=>rfl,fun _=>rfl⟩
instance udd {W V:World} [h:Ux W V]:Ux W.drew V:=⟨h.p.1,h.p.2.1,h.p.2.2⟩
theorem bcu {W V w1:World} [u:Ux W V] (hb:Below W.heap.size W w1):(∀b o,b < V.heap.size→w1.cell? ⟨b,o,none⟩=V.cell? ⟨b,o,none⟩)∧(∀b o,b < V.heap.size→w1.frozen? ⟨b,o,none⟩=V.frozen? ⟨b,o,none⟩):=
 ⟨fun b o h=>(hb.cell (p:=⟨b,o,none⟩) (by rw [u.p.1];exact h)).trans (u.p.2.1 _),fun b o h=>(hb.frozen (p:=⟨b,o,none⟩) (by rw [u.p.1];exact h)).trans (u.p.2.2 _)⟩
theorem bc0 {W V w1:World} [Ux W V] (hb:Below W.heap.size W w1):(∀b o,b < V.heap.size→w1.cell? ⟨b,o,none⟩=V.cell? ⟨b,o,none⟩)∧(∀b o,b < V.heap.size→w1.frozen? ⟨b,o,none⟩=V.frozen? ⟨b,o,none⟩)∧Bx W w1:=⟨(bcu hb).1,(bcu hb).2,⟨hb⟩⟩
theorem bc1 (w:World) {W V w1:World} [Ux W V] (hb:Below W.heap.size W w1) (h:w.heap.size < W.heap.size):(∀b o,b < V.heap.size→w1.cell? ⟨b,o,none⟩=V.cell? ⟨b,o,none⟩)∧(∀b o,b < V.heap.size→w1.frozen? ⟨b,o,none⟩=V.frozen? ⟨b,o,none⟩)∧w.heap.size < w1.heap.size∧Bx W w1:=⟨(bcu hb).1,(bcu hb).2,by have e:=hb.size;omega,⟨hb⟩⟩
theorem bc2 (w:World) {W V w1:World} [Ux W V] (hb:Below W.heap.size W w1) (h:w.heap.size+1 < W.heap.size):(∀b o,b < V.heap.size→w1.cell? ⟨b,o,none⟩=V.cell? ⟨b,o,none⟩)∧(∀b o,b < V.heap.size→w1.frozen? ⟨b,o,none⟩=V.frozen? ⟨b,o,none⟩)∧w.heap.size < w1.heap.size∧w.heap.size+1 < w1.heap.size∧Bx W w1:=⟨(bcu hb).1,(bcu hb).2,by have e:=hb.size;omega,by have e:=hb.size;omega,⟨hb⟩⟩
theorem bc3 (w:World) {W V w1:World} [Ux W V] (hb:Below W.heap.size W w1) (h:w.heap.size+1+1 < W.heap.size):(∀b o,b < V.heap.size→w1.cell? ⟨b,o,none⟩=V.cell? ⟨b,o,none⟩)∧(∀b o,b < V.heap.size→w1.frozen? ⟨b,o,none⟩=V.frozen? ⟨b,o,none⟩)∧w.heap.size < w1.heap.size∧w.heap.size+1 < w1.heap.size∧w.heap.size+1+1 < w1.heap.size∧Bx W w1:=⟨(bcu hb).1,(bcu hb).2,by have e:=hb.size;omega,by have e:=hb.size;omega,by have e:=hb.size;omega,⟨hb⟩⟩
theorem bc4 (w:World) {W V w1:World} [Ux W V] (hb:Below W.heap.size W w1) (h:w.heap.size+1+1+1 < W.heap.size):(∀b o,b < V.heap.size→w1.cell? ⟨b,o,none⟩=V.cell? ⟨b,o,none⟩)∧(∀b o,b < V.heap.size→w1.frozen? ⟨b,o,none⟩=V.frozen? ⟨b,o,none⟩)∧w.heap.size < w1.heap.size∧w.heap.size+1 < w1.heap.size∧w.heap.size+1+1 < w1.heap.size∧w.heap.size+1+1+1 < w1.heap.size∧Bx W w1:=⟨(bcu hb).1,(bcu hb).2,by have e:=hb.size;omega,by have e:=hb.size;omega,by have e:=hb.size;omega,by have e:=hb.size;omega,⟨hb⟩⟩
section
variable {P:Program} {f:FuncId} {args:Array Value} {W V:World} {R:Ending→World→Prop}
theorem mz {v:Value} (C:Calls P f args W fun e w'=>e= .returned v∧Below W.heap.size W w') (k:∀w1,Below W.heap.size W w1→Bx W w1→R (.returned v) w1):Calls P f args W R:=
 C.mono fun e w1 ⟨he,hb⟩=>by
  subst he;exact k w1 hb ⟨hb⟩
theorem mo0 [Ux W V] {v:Value} (C:Calls P f args W fun e w'=>e= .returned v∧Below W.heap.size W w') (k:∀w1,Below W.heap.size W w1→(∀b o,b < V.heap.size→w1.cell? ⟨b,o,none⟩=V.cell? ⟨b,o,none⟩)→(∀b o,b < V.heap.size→w1.frozen? ⟨b,o,none⟩=V.frozen? ⟨b,o,none⟩)→Bx W w1→R (.returned v) w1):Calls P f args W R:=
 C.mono fun e w1 ⟨he,hb⟩=>by
  subst he;exact k w1 hb (bcu hb).1 (bcu hb).2 ⟨hb⟩
theorem mo1 (w:World) [Ux W V] {v:Value} (C:Calls P f args W fun e w'=>e= .returned v∧Below W.heap.size W w') (h:w.heap.size < W.heap.size) (k:∀w1,Below W.heap.size W w1→(∀b o,b < V.heap.size→w1.cell? ⟨b,o,none⟩=V.cell? ⟨b,o,none⟩)→(∀b o,b < V.heap.size→w1.frozen? ⟨b,o,none⟩=V.frozen? ⟨b,o,none⟩)→w.heap.size < w1.heap.size→Bx W w1→R (.returned v) w1):Calls P f args W R:=
 C.mono fun e w1 ⟨he,hb⟩=>by
  subst he;exact k w1 hb (bcu hb).1 (bcu hb).2 (by have e:=hb.size;omega) ⟨hb⟩
theorem mo2 (w:World) [Ux W V] {v:Value} (C:Calls P f args W fun e w'=>e= .returned v∧Below W.heap.size W w') (h:w.heap.size+1 < W.heap.size) (k:∀w1,Below W.heap.size W w1→(∀b o,b < V.heap.size→w1.cell? ⟨b,o,none⟩=V.cell? ⟨b,o,none⟩)→(∀b o,b < V.heap.size→w1.frozen? ⟨b,o,none⟩=V.frozen? ⟨b,o,none⟩)→w.heap.size < w1.heap.size→w.heap.size+1 < w1.heap.size→Bx W w1→R (.returned v) w1):Calls P f args W R:=
 C.mono fun e w1 ⟨he,hb⟩=>by
  subst he;exact k w1 hb (bcu hb).1 (bcu hb).2 (by have e:=hb.size;omega) (by have e:=hb.size;omega) ⟨hb⟩
theorem mo3 (w:World) [Ux W V] {v:Value} (C:Calls P f args W fun e w'=>e= .returned v∧Below W.heap.size W w') (h:w.heap.size+1+1 < W.heap.size) (k:∀w1,Below W.heap.size W w1→(∀b o,b < V.heap.size→w1.cell? ⟨b,o,none⟩=V.cell? ⟨b,o,none⟩)→(∀b o,b < V.heap.size→w1.frozen? ⟨b,o,none⟩=V.frozen? ⟨b,o,none⟩)→w.heap.size < w1.heap.size→w.heap.size+1 < w1.heap.size→w.heap.size+1+1 < w1.heap.size→Bx W w1→R (.returned v) w1):Calls P f args W R:=
 C.mono fun e w1 ⟨he,hb⟩=>by
  subst he;exact k w1 hb (bcu hb).1 (bcu hb).2 (by have e:=hb.size;omega) (by have e:=hb.size;omega) (by have e:=hb.size;omega) ⟨hb⟩
theorem mo4 (w:World) [Ux W V] {v:Value} (C:Calls P f args W fun e w'=>e= .returned v∧Below W.heap.size W w') (h:w.heap.size+1+1+1 < W.heap.size) (k:∀w1,Below W.heap.size W w1→(∀b o,b < V.heap.size→w1.cell? ⟨b,o,none⟩=V.cell? ⟨b,o,none⟩)→(∀b o,b < V.heap.size→w1.frozen? ⟨b,o,none⟩=V.frozen? ⟨b,o,none⟩)→w.heap.size < w1.heap.size→w.heap.size+1 < w1.heap.size→w.heap.size+1+1 < w1.heap.size→w.heap.size+1+1+1 < w1.heap.size→Bx W w1→R (.returned v) w1):Calls P f args W R:=
 C.mono fun e w1 ⟨he,hb⟩=>by
  subst he;exact k w1 hb (bcu hb).1 (bcu hb).2 (by have e:=hb.size;omega) (by have e:=hb.size;omega) (by have e:=hb.size;omega) (by have e:=hb.size;omega) ⟨hb⟩
end
theorem nl {a b:Nat} (h:a < b):a≠b:=Nat.ne_of_lt h
theorem nls {a b:Nat} (h:a < b):a < Nat.succ b:=Nat.lt_succ_of_lt h
theorem jm3 {k:IntKind} {a b:Int} (h:a=b):Ending.returned (.int k a)= .returned (.int k b):=by rw [h]

def Blk (w:World) (g:Nat) (t:TypeId) (cs:Array Value):Prop:=w.heap[g]? =some (.cells cs t (0,0))
section
variable {w w':World} {g:Nat} {t:TypeId} {cs:Array Value}
theorem Blk.lt (h:Blk w g t cs):g < w.heap.size:=by
 rcases Nat.lt_or_ge g w.heap.size with hlt|hge
 ·exact hlt
 ·unfold Blk at h;rw [Array.getElem?_eq_none hge] at h;cases h
theorem Blk.cell (h:Blk w g t cs) (i:Nat):w.cell? ⟨g,i,none⟩=cs[i]? :=cell_of_row w g i cs t (0,0) h
theorem Blk.frozen (h:Blk w g t cs) (i:Nat):w.frozen? ⟨g,i,none⟩=false:=by
 unfold Blk at h;simp [World.frozen?,h]
theorem Blk.new (w:World) (t:TypeId) (cs:Array Value):Blk (w.alloc (.cells cs t)) w.heap.size t cs:=heap_alloc_new w _
theorem Blk.drewN (h:Blk w g t cs) (n:Nat):Blk (w.drewN n) g t cs:=h
theorem Blk.alloc (h:Blk w g t cs) (o:Obj):Blk (w.alloc o) g t cs:=(Below.heap_alloc w o g h.lt).trans h
theorem Blk.set_ (h:Blk w g t cs) (i:Nat) (u:Value):Blk (w.setCell ⟨g,i,none⟩ u) g t (cs.setIfInBounds i u):=by
 unfold Blk at h ⊢;simp [World.setCell,Array.getElem?_modify,h]
theorem Blk.far (h:Blk w g t cs) {p:Addr} (hp:g≠p.block) (u:Value):Blk (w.setCell p u) g t cs:=(Below.heap_setCell w p u g hp).trans h
theorem Blk.below (h:Blk w g t cs) (hb:Below w.heap.size w w'):Blk w' g t cs:=(hb.block g h.lt).trans h
end

def B64:Nat:=18446744073709551616
theorem ja3:B64=18446744073709551616:=rfl
theorem ja6:0 < B64:=by rw [ja3];omega

def dg (ds:List Nat) (j:Nat):Nat:=ds.getD j 0

structure Wd (w:World) (A:Option Addr) (n:Nat) (ds:List Nat):Prop where
 len:ds.length=n
 dig:Pos.Dig B64 ds
 big:n < 1099511627776
 at_:0 < n→∃b o,A=some ⟨b,o,none⟩∧b < w.heap.size∧∀j,j < n→w.cell? ⟨b,o+j,none⟩=some (.int .u64 ((dg ds j:Nat):Int))
section
variable {w w':World} {A:Option Addr} {n:Nat} {ds:List Nat}
theorem Wd.below (h:Wd w A n ds) (hb:Below w.heap.size w w'):Wd w' A n ds:=
 ⟨h.len,h.dig,h.big,fun hn=>by
   obtain ⟨b,o,e,hl,hc⟩:=h.at_ hn
   exact ⟨b,o,e,Nat.lt_of_lt_of_le hl hb.size,fun j hj=>(hb.cell (p:=⟨b,o+j,none⟩) hl).trans (hc j hj)⟩⟩
theorem Wd.nil (w:World) (A:Option Addr):Wd w A 0 []:=⟨rfl,Pos.Dig.nil,by omega,fun h=>absurd h (by omega)⟩
theorem Wd.take (h:Wd w A n ds) {k:Nat} (hk:k≤n):Wd w A k (ds.take k):=
 ⟨by rw [List.length_take,h.len];omega,h.dig.take k,by have:=h.big;omega,fun h0=>by
   obtain ⟨b,o,e,hl,hc⟩:=h.at_ (by omega);refine ⟨b,o,e,hl,fun j hj=> ?_⟩;rw [show dg (ds.take k) j=dg ds j by simp [dg,List.getD_eq_getElem?_getD,List.getElem?_take,hj]]
   exact hc j (by omega)⟩
theorem Wd.of_blk {g t:Nat} {cs:Array Value} (h:Blk w g t cs) (hcs:cs=(ds.map fun d:Nat=>Value.int .u64 (d:Int)).toArray) (hn:ds.length=n) (hb:n < 1099511627776) (hd:Pos.Dig B64 ds):Wd w (some ⟨g,0,none⟩) n ds:=
 ⟨hn,hd,hb,fun _=>⟨g,0,rfl,h.lt,fun j hj=>by
   have hj':j < ds.length:=by omega
   rw [h.cell,hcs,Nat.zero_add];simp [hj',dg]⟩⟩
end
theorem gd {ds:List Nat} {j:Nat} (h:j < ds.length):dg ds j=ds[j]:=by simp [dg,List.getD_eq_getElem?_getD,h]
theorem ja8 {ds:List Nat} (h:Pos.Dig B64 ds) (j:Nat):dg ds j < 18446744073709551616:=by
 rcases Nat.lt_or_ge j ds.length with hj|hj
 ·rw [gd hj];exact h.at hj
 ·simp [dg,List.getD_eq_getElem?_getD,hj]

def jfH (zs:List Nat) (m:Nat):Array Value:=((zs.map fun d:Nat=>Value.int .u64 (d:Int))++List.replicate (m - zs.length) (Value.int .u64 0)).toArray
theorem jhe (zs:List Nat):jfH zs zs.length=(zs.map fun d:Nat=>Value.int .u64 (d:Int)).toArray:=by simp [jfH]
theorem jgW (zs:List Nat) (m d:Nat) (h:zs.length < m):(jfH zs m).setIfInBounds zs.length (.int .u64 (d:Int))=jfH (zs++[d]) m:=by
 obtain ⟨k,hk⟩:∃k,m - zs.length=k+1:=⟨m - zs.length - 1,by omega⟩;have hk':m - (zs++[d]).length=k:=by simp;omega
 unfold jfH;rw [hk,hk',List.setIfInBounds_toArray]
 congr 1
 rw [List.set_append_right _ _ (by simp)];simp [List.replicate_succ]
theorem jeQ {zs:List Nat} {m j:Nat} (h:zs.length≤j) (hm:j < m):(jfH zs m)[j]? =some (.int .u64 0):=by
 simp [jfH,List.getElem?_append,List.getElem?_replicate];rw [if_neg (by omega),if_pos (by omega)]
theorem jpL:(prog.info? 168).map (fun i=>(i.zero,i.size,i.bytes))=some (some (.int .u64 0),1,8):=by kernel_rfl
theorem jgo (l:Nat):madeCells #[Value.int .u64 0] (l*1)=jfH [] l:=by
 apply Array.ext
 ·simp [madeCells,jfH]
 ·intro i h1 h2;simp [madeCells,jfH,Nat.mod_one]
theorem jbs (l:Nat) (hl:l < 1099511627776) (W:World):
  (Instr.makeSlice 66 (.int .i64 (l:Int)) (.int .i64 (l:Int))).run prog W= .ok (.slice (some ⟨W.heap.size,0,none⟩) l l) (W.alloc (.cells (jfH [] l) 168)):=by
 obtain ⟨i0,hi,hz0,hz1,hz2⟩:=info_parts jpL;have hr:=run_make (P:=prog) W 66 168 i0 (.int .u64 0) underlying66 hi hz0 .i64 .i64 (l:Int) (l:Int) (by omega) (by omega) (by rw [hz2];omega) (by omega);simp only [Int.toNat_natCast,hz1] at hr;rw [hr,show (Value.int IntKind.u64 0).cells= #[Value.int .u64 0] from rfl,jgo]

theorem jak (w:World) (a:Option Addr) (n c:Nat):(binOp .eql 66 (.slice a n c) (.slice none 0 0)).run prog w= .ok (.bool a.isNone) w:=
 Lib.run_eql_slice_nil w _ _ a n c 0 0 underlying66

def sgn (z:Int):Int:=if z < 0 then -1 else if 0 < z then 1 else 0
end Go.Proofs.YtfagcpcikjlboaaGreatDoor
namespace Go.Proofs.YtfagcpcikjlboaaGreatDoor.Rq
open Go.Proofs.YtfagcpcikjlboaaGreatDoor
theorem num_pos {a b:Int} (hb:0 < b):Int.fdiv a ((Nat.gcd a.natAbs b.natAbs:Nat):Int)=(Rat.divInt a b).num:=by
 rw [Rat.num_divInt,Int.sign_eq_one_of_pos hb,Int.one_mul,Int.fdiv_eq_ediv_of_nonneg _ (by omega),Int.gcd_comm];rfl
theorem den_pos {a b:Int} (hb:0 < b):Int.fdiv b ((Nat.gcd a.natAbs b.natAbs:Nat):Int)=((Rat.divInt a b).den:Nat):=by
 rw [Rat.den_divInt,if_neg (by omega),Int.fdiv_eq_ediv_of_nonneg _ (by omega),Int.gcd_comm];rw [Int.natCast_ediv,Int.natAbs_of_nonneg (by omega)];rfl
theorem num_one (a:Int):(Rat.divInt a 1).num=a:=by rw [Rat.num_divInt];simp
theorem den_one (a:Int):(Rat.divInt a 1).den=1:=by rw [Rat.den_divInt];simp
theorem num_le (a b:Int):(Rat.divInt a b).num.natAbs≤a.natAbs:=by
 rw [Rat.num_divInt];refine Nat.le_trans (Int.natAbs_ediv_le_natAbs _ _) ?_;rw [Int.natAbs_mul];rcases Int.lt_trichotomy b 0 with h|h|h
 ·rw [Int.sign_eq_neg_one_of_neg h];simp
 ·subst h;simp
 ·rw [Int.sign_eq_one_of_pos h];simp
theorem den_le (a:Int) {b:Int} (hb:b≠0):(Rat.divInt a b).den≤b.natAbs:=by
 rw [Rat.den_divInt,if_neg hb];exact Nat.div_le_self _ _
theorem gcd_pos (a:Int) {b:Int} (hb:b≠0):0 < Nat.gcd a.natAbs b.natAbs:=Nat.gcd_pos_of_pos_right _ (by omega)
theorem gcd_le (a:Int) {b:Int} (hb:b≠0):Nat.gcd a.natAbs b.natAbs≤b.natAbs:=Nat.gcd_le_right _ (by omega)
theorem den_ne (x:Rat):(x.den:Int)≠0:=by have:=x.den_pos;omega
theorem add_eq (x y:Rat):x+y=Rat.divInt (x.num*y.den+y.num*x.den) (x.den*y.den):=by
 conv=>lhs;rw [←Rat.num_divInt_den x,←Rat.num_divInt_den y]
 rw [Rat.divInt_add_divInt _ _ (den_ne x) (den_ne y)]
theorem add_whole {x y:Rat} (hx:x.den=1) (hy:y.den=1):x+y=((x.num+y.num:Int):Rat):=by
 rw [add_eq,hx,hy]
 have e:∀a:Int,Rat.divInt a 1=(a:Rat):=fun a=>by
  apply Rat.ext
  ·rw [num_one];rfl
  ·rw [den_one];rfl
 rw [show ((1:Nat):Int)=1 from rfl,Int.mul_one,Int.mul_one,Int.mul_one,e]
theorem mul_eq (x y:Rat):x*y=Rat.divInt (x.num*y.num) (x.den*y.den):=by
 conv=>lhs;rw [←Rat.num_divInt_den x,←Rat.num_divInt_den y]
 rw [Rat.divInt_mul_divInt]
theorem inv_eq (x:Rat):x⁻¹=Rat.divInt x.den x.num:=Rat.inv_def x
theorem ne_num {x:Rat} (h:x≠0):x.num≠0:=by intro e;exact h (Rat.num_eq_zero.1 e)
theorem sub_eq (x y:Rat):x - y=x+ -y:=Rat.sub_eq_add_neg x y
theorem div_eq (x y:Rat):x / y=x*y⁻¹:=Rat.div_def x y
def cmpQ (x y:Rat):Int:=if x < y then -1 else if y < x then 1 else 0
theorem cmp_eq (x y:Rat):sgn (x.num*y.den - y.num*x.den)=cmpQ x y:=by
 unfold cmpQ sgn;have h1:=Rat.lt_iff x y;have h2:=Rat.lt_iff y x;by_cases c1:x < y
 ·have:=h1.1 c1;rw [if_pos (by omega),if_pos c1]
 ·have h3:¬(x.num*↑y.den < y.num*↑x.den):=fun h=>c1 (h1.2 h)
  rw [if_neg (by omega),if_neg c1];by_cases c2:y < x
  ·have:=h2.1 c2;rw [if_pos (by omega),if_pos c2]
  ·have h4:¬(y.num*↑x.den < x.num*↑y.den):=fun h=>c2 (h2.2 h)
   rw [if_neg (by omega),if_neg c2]
theorem cmp_zero {x y:Rat}:cmpQ x y=0↔x=y:=by
 unfold cmpQ;constructor
 ·intro h;split at h
  ·cases h
  ·split at h
   ·cases h
   ·rename_i h1 h2
    exact Rat.le_antisymm (Rat.not_lt.1 h2) (Rat.not_lt.1 h1)
 ·intro h;subst h;simp [Rat.lt_irrefl]
theorem cmp_neg {x y:Rat}:cmpQ x y < 0↔x < y:=by
 unfold cmpQ;split <;> (try split) <;> simp_all
theorem cmp_pos {x y:Rat}:0 < cmpQ x y↔y < x:=by
 unfold cmpQ;split
 ·rename_i h;simp;exact Rat.not_lt.2 (Rat.le_of_lt h)
 ·split <;> simp_all
end Go.Proofs.YtfagcpcikjlboaaGreatDoor.Rq
namespace Go.Proofs.YtfagcpcikjlboaaGreatDoor
open Go Go.RowKit

section
variable {P:Program} {ops:Array Oper} {Q:Exit→Act→World→Prop} {md:Region.Mode} {S:World→Prop} {T:List Nat}

def jaN (P:Program) (md:Region.Mode) (ops:Array Oper) (Q:Exit→Act→World→Prop) (S:World→Prop) (T:List Nat):Nat→Array Bool→Act→World→Prop
 | 0,listed,a,w=>Region.ready md ops listed=[]∧Q .normal a w
 | fuel+1,listed,a,w=>
   (Region.ready md ops listed=[]→Q .normal a w)∧
   ∀i∈Region.ready md ops listed,wpOp P ops Q i (fun a' w'=>(i ∉ T→S w')∧jaN P md ops Q S T fuel (listed.setIfInBounds i true) a' w') a w

theorem jfY:∀(fuel:Nat) (listed:Array Bool) (a:Act) (w:World),jaN P md ops Q S T fuel listed a w→wpAny P md ops Q fuel listed a w
 | 0,_,_,_,h=>h
 | fuel+1,_,_,_,h=>⟨h.1,fun i hi=>wpOp_mono (fun a' w' h'=>jfY fuel _ a' w' h'.2) (h.2 i hi)⟩

def jfg (md:Region.Mode) (ops:Array Oper) (j i:Nat):Bool:=
 match ops[j]? with
 | some oj=>oj.after.any fun e=>Region.binds md e && e.on==i
 | none=>false
def jib (md:Region.Mode) (ops:Array Oper) (listed:Array Bool) (T C:List Nat) (i:Nat):Bool:=
 (C.all fun k=>jfg md ops k i && !listed.getD k true) && T.all fun j=>jfg md ops j i || C.any fun k=>jfg md ops j k
theorem jck {j i:Nat} {oj:Oper} (h:jfg md ops j i=true) (hoj:ops[j]? =some oj):∃e∈oj.after,Region.binds md e=true∧e.on=i:=by
 unfold jfg at h;simp only [hoj,Array.any_eq_true,Bool.and_eq_true,beq_iff_eq] at h;obtain ⟨k,hk,h4,h5⟩:=h;exact ⟨_,Array.getElem_mem hk,h4,h5⟩

theorem jih {i:Nat} {oi:Oper} {v:Value} (hi:ops[i]? =some oi) (hiT:i ∉ T) {C:List Nat} (hsel:∀(j:Nat) (o:Oper) cs b,ops[j]? =some o→o.op≠ .select cs b)
  (hQ:∀c a w,Q (.panic c) (a.put oi.dst v) w→Q (.panic c) a w):
  ∀ (fuel:Nat) (listed:Array Bool) (a:Act) (w:World),jib md ops listed T C i=true→
    (∀j oj,ops[j]? =some oj→j≠i→listed.getD j true=false→(∀e∈oj.after,Region.binds md e=true→e.on≠i)→oi.apart ops oj=true)→
    i∈Region.ready md ops listed→YieldsIf P ops S oi v a→S w→
    jaN P md ops Q S T fuel (listed.setIfInBounds i true) (a.put oi.dst v) w→jaN P md ops Q S T (fuel+1) listed a w:=by
 intro fuel
 induction fuel with
 | zero=>
   intro listed a w _ _ hr hy hS H;refine ⟨fun h=>(by rw [h] at hr;cases hr),fun j hj=> ?_⟩;by_cases hji:j=i
   ·subst hji;exact hy.wpOp hi hS ⟨fun _=>hS,H⟩
   ·have:=ready_mono hj hji;rw [H.1] at this;cases this
 | succ fuel ih=>
   intro listed a w hwt hfree hr hy hS H;refine ⟨fun h=>(by rw [h] at hr;cases hr),fun j hj=> ?_⟩;by_cases hji:j=i
   ·subst hji;exact hy.wpOp hi hS ⟨fun _=>hS,H⟩
   ·have h1:=H.2 j (ready_mono hj hji);obtain ⟨hjun,oj,hoj,hall⟩:=mem_ready.1 hj
    have hnot:∀e∈oj.after,Region.binds md e=true→e.on≠i:=fun e he hb heq=>by
     have h1:=hall e he hb;have h0:=(mem_ready.1 hr).1;rw [heq] at h1;rcases Nat.lt_or_ge i listed.size with h'|h'
     ·simp [h'] at h0 h1;rw [h0] at h1;cases h1
     ·simp [Array.getElem?_eq_none h'] at h1
    have hjT:j ∉ T:=fun hjT=>by
     simp only [jib,Bool.and_eq_true,List.all_eq_true,Bool.or_eq_true,List.any_eq_true,Bool.not_eq_true'] at hwt;rcases hwt.2 j hjT with h3|⟨k,hk,h3⟩
     ·obtain ⟨e,he,h4,h5⟩:=jck h3 hoj;exact hnot e he h4 h5
     ·obtain ⟨e,he,h4,h5⟩:=jck h3 hoj;have h6:=hall e he h4;have h7:=(hwt.1 k hk).2;rw [h5] at h6;rcases Nat.lt_or_ge k listed.size with h'|h'
      ·simp [h'] at h6 h7;rw [h6] at h7;cases h7
      ·simp [Array.getElem?_eq_none h'] at h6
    have hwt':jib md ops (listed.setIfInBounds j true) T C i=true:=by
     simp only [jib,Bool.and_eq_true,List.all_eq_true,Bool.not_eq_true'] at hwt ⊢;refine ⟨fun k hk=>⟨(hwt.1 k hk).1, ?_⟩,hwt.2⟩;by_cases hjk:j=k
     ·subst hjk;obtain ⟨e,he,h4,h5⟩:=jck (hwt.1 j hk).1 hoj;exact absurd h5 (hnot e he h4)
     ·rw [getD_set_ne true hjk];exact (hwt.1 k hk).2
    have h2:=wpOp_putIf hoj (hfree j oj hoj hji hjun hnot) (fun cs b=>hsel i oi cs b hi) (fun cs b=>hsel j oj cs b hoj) hQ hy h1
    have hfree':∀k ok,ops[k]? =some ok→k≠i→(listed.setIfInBounds j true).getD k true=false→
      (∀e∈ok.after,Region.binds md e=true→e.on≠i)→oi.apart ops ok=true:=fun k ok hk hki hun hno=>by
     refine hfree k ok hk hki ?_ hno;by_cases hjk:j=k
     ·subst hjk;exact hjun
     ·rw [getD_set_ne true hjk] at hun;exact hun
    refine wpOp_mono (fun a' w' h3=>⟨h3.2.1,ih (listed.setIfInBounds j true) a' w' hwt' hfree' (ready_mono hr (Ne.symm hji)) h3.1 (h3.2.1 hjT) ?_⟩) h2;rw [Array.setIfInBounds_comm _ _ hji];exact h3.2.2

theorem jaw (C:List Nat) {i:Nat} {oi:Oper} {v:Value} {fuel:Nat} {listed:Array Bool} {a:Act} {w:World} (hi:ops[i]? =some oi) (hiT:T.contains i=false) (hwt:jib md ops listed T C i=true)
  (hs:Region.noSelect ops=true) (hf:Region.free md ops listed i=true) (hr:(Region.ready md ops listed).contains i=true)
  (hQ:∀c a w,Q (.panic c) (a.put oi.dst v) w→Q (.panic c) a w) (hy:YieldsIf P ops S oi v a) (hS:S w)
  (h:jaN P md ops Q S T fuel (listed.setIfInBounds i true) (a.put oi.dst v) w):jaN P md ops Q S T (fuel+1) listed a w:=
 jih hi (by simpa using hiT) (C:=C) (Region.noSelect_spec hs) hQ fuel listed a w hwt (Region.free_spec hi hf) (by simpa using hr) hy hS h

theorem pk {α β γ:Type} {p:α→β→γ→Prop} (a:α) (b:β) (c:γ) (h:p a b c):p a b c:=h
theorem pA {α:Type} {l:List α} {i:Nat} (h:i < l.toArray.size):l.toArray[i]=l[i]'(by simpa using h):=rfl
theorem pB {α:Type} {a:α} {l:List α} (h:0 < (a::l).length):(a::l)[0]=a:=rfl
theorem pC {α:Type} {a:α} {l:List α} {i:Nat} (h:i+1 < (a::l).length):(a::l)[i+1]=l[i]'(by simpa using h):=rfl
theorem pD {α:Type} (l:List α) (i:Nat) (a:α):l.toArray.setIfInBounds i a=(l.set i a).toArray:=by simp
theorem pE {α:Type} {a b:α} {l:List α}:(a::l).set 0 b=b::l:=rfl
theorem pF {α:Type} {a b:α} {l:List α} {i:Nat}:(a::l).set (i+1) b=a::l.set i b:=rfl
theorem ppq:(∀(a:Act) (d:Nat) (v:Value),a.put (some d) v={ a with tmps:=a.tmps.setIfInBounds d v })∧(∀(a:Act) (v:Value),a.put none v=a)∧(∀{α:Type} {l:List α} {i:Nat} (h:i < l.toArray.size),l.toArray[i]=l[i]'(by simpa using h))∧(∀{α:Type} {a:α} {l:List α} (h:0 < (a::l).length),(a::l)[0]=a)
  ∧(∀{α:Type} {a:α} {l:List α} {i:Nat} (h:i+1 < (a::l).length),(a::l)[i+1]=l[i]'(by simpa using h))∧(∀{α:Type} (l:List α) (i:Nat) (a:α),l.toArray.setIfInBounds i a=(l.set i a).toArray)∧(∀{α:Type} {a b:α} {l:List α},(a::l).set 0 b=b::l)∧∀{α:Type} {a b:α} {l:List α} {i:Nat},(a::l).set (i+1) b=a::l.set i b:=
 ⟨fun _ _ _=>rfl,fun _ _=>rfl,pA,pB,pC,pD,pE,pF⟩
theorem tk (i:Nat) (v:Value) {oi:Oper} {fuel:Nat} {listed:Array Bool} {a:Act} {w:World} (C:List Nat) (hi:ops[i]? =some oi)
  (hb:(!(T.contains i) && jib md ops listed T C i && Region.noSelect ops && Region.free md ops listed i && (Region.ready md ops listed).contains i)=true)
  (hQ:∀c a w,Q (.panic c) (a.put oi.dst v) w→Q (.panic c) a w) (hw:Region.wanted oi (yielded ops a.tmps)=true) (hy:∀w',S w'→(execOp a.eval oi).run P w'= .ok (.value v) w') (hS:S w)
  (h:jaN P md ops Q S T fuel (listed.setIfInBounds i true) (a.put oi.dst v) w):jaN P md ops Q S T (fuel+1) listed a w:=by
 simp only [Bool.and_eq_true,Bool.not_eq_true'] at hb;exact jaw C hi hb.1.1.1.1 hb.1.1.1.2 hb.1.1.2 hb.1.2 hb.2 hQ (Or.inl ⟨hw,hy⟩) hS h
theorem ts (i:Nat) {oi:Oper} {fuel:Nat} {listed:Array Bool} {a:Act} {w:World} (C:List Nat) (hi:ops[i]? =some oi)
  (hb:(!(T.contains i) && jib md ops listed T C i && Region.noSelect ops && Region.free md ops listed i && (Region.ready md ops listed).contains i)=true)
  (hQ:∀c a w,Q (.panic c) (a.put oi.dst undef) w→Q (.panic c) a w) (hw:Region.wanted oi (yielded ops a.tmps)=false) (hS:S w)
  (h:jaN P md ops Q S T fuel (listed.setIfInBounds i true) (a.put oi.dst undef) w):jaN P md ops Q S T (fuel+1) listed a w:=by
 simp only [Bool.and_eq_true,Bool.not_eq_true'] at hb;exact jaw C hi hb.1.1.1.1 hb.1.1.1.2 hb.1.1.2 hb.1.2 hb.2 hQ (Or.inr ⟨hw,rfl⟩) hS h
theorem tb {W:World} (i:Nat) (v:Value) {oi:Oper} {fuel:Nat} {listed:Array Bool} {a:Act} {w:World} (C:List Nat) (hi:ops[i]? =some oi)
  (hb:(!(T.contains i) && jib md ops listed T C i && Region.noSelect ops && Region.free md ops listed i && (Region.ready md ops listed).contains i)=true)
  (hQ:∀c a w,Q (.panic c) (a.put oi.dst v) w→Q (.panic c) a w) (hw:Region.wanted oi (yielded ops a.tmps)=true)
  (hy:∀w',(∀b o,b < W.heap.size→w'.cell? ⟨b,o,none⟩=W.cell? ⟨b,o,none⟩)→(∀b o,b < W.heap.size→w'.frozen? ⟨b,o,none⟩=W.frozen? ⟨b,o,none⟩)→(execOp a.eval oi).run P w'= .ok (.value v) w') (hS:Below W.heap.size W w)
  (h:jaN P md ops Q (fun w'=>Below W.heap.size W w') T fuel (listed.setIfInBounds i true) (a.put oi.dst v) w):jaN P md ops Q (fun w'=>Below W.heap.size W w') T (fuel+1) listed a w:=
 tk i v C hi hb hQ hw (fun w' h'=>hy w' (fun b o hb=>h'.cell (p:=⟨b,o,none⟩) hb) (fun b o hb=>h'.frozen (p:=⟨b,o,none⟩) hb)) hS h
def tkF:List (Nat×List Nat×Value)→Nat→Nat
 | [],n=>n
 | _::r,n=>tkF r n+1
def tkD:List (Nat×List Nat×Value)→Array Bool→Array Bool
 | [],l=>l
 | x::r,l=>tkD r (l.setIfInBounds x.1 true)
def tkA:List (Nat×List Nat×Value)→List Oper→Act→Act
 | x::r,o::os,a=>tkA r os (a.put o.dst x.2.2)
 | _,_,a=>a
def tkB (md:Region.Mode) (ops:Array Oper) (T:List Nat):List (Nat×List Nat×Value)→List Oper→Array Bool→Act→Bool
 | x::r,o::os,l,a=>((!(T.contains x.1) && jib md ops l T x.2.1 x.1 && Region.noSelect ops && Region.free md ops l x.1 && (Region.ready md ops l).contains x.1) && Region.wanted o (yielded ops a.tmps) && o.dst.isSome) && tkB md ops T r os (l.setIfInBounds x.1 true) (a.put o.dst x.2.2)
 | [],[],_,_=>true
 | _,_,_,_=>false
def tkY (P:Program):List (Nat×List Nat×Value)→List Oper→Act→World→Prop
 | x::r,o::os,a,w=>(execOp a.eval o).run P w= .ok (.value x.2.2) w∧tkY P r os (a.put o.dst x.2.2) w
 | _,_,_,_=>True
theorem pk5 {α β γ δ ε:Type} {p:α→β→γ→δ→ε→Prop} (a:α) (b:β) (c:γ) (d:δ) (e:ε) (h:p a b c d e):p a b c d e:=h
theorem tlq:(∀(i:Nat) (C:List Nat) (v:Value) (r:List (Nat×List Nat×Value)) (o:Oper) (os:List Oper) (a:Act),tkA ((i,C,v)::r) (o::os) a=tkA r os (a.put o.dst v))∧∀a:Act,tkA [] [] a=a:=⟨fun _ _ _ _ _ _ _=>rfl,fun _=>rfl⟩
theorem tyq (P:Program):(∀(i:Nat) (C:List Nat) (v:Value) (r:List (Nat×List Nat×Value)) (o:Oper) (os:List Oper) (a:Act) (w:World),tkY P ((i,C,v)::r) (o::os) a w=((execOp a.eval o).run P w= .ok (.value v) w∧tkY P r os (a.put o.dst v) w))∧∀(a:Act) (w:World),tkY P [] [] a w=True:=⟨fun _ _ _ _ _ _ _ _=>rfl,fun _ _=>rfl⟩
theorem tl {W:World}:∀(L:List (Nat×List Nat×Value)) (os:List Oper) {fuel:Nat} {listed:Array Bool} {a:Act} {w:World},L.map (fun x=>ops[x.1]?)=os.map some→tkB md ops T L os listed a=true→
  (∀c a (d:Nat) v w,Q (.panic c) (a.put (some d) v) w→Q (.panic c) a w)→
  (∀w',(∀b o,b < W.heap.size→w'.cell? ⟨b,o,none⟩=W.cell? ⟨b,o,none⟩)→(∀b o,b < W.heap.size→w'.frozen? ⟨b,o,none⟩=W.frozen? ⟨b,o,none⟩)→tkY P L os a w')→Below W.heap.size W w→
  jaN P md ops Q (fun w'=>Below W.heap.size W w') T fuel (tkD L listed) (tkA L os a) w→jaN P md ops Q (fun w'=>Below W.heap.size W w') T (tkF L fuel) listed a w
 | [],[],_,_,_,_,_,_,_,_,_,h=>h
 | [],_::_,_,_,_,_,hi,_,_,_,_,_=>by cases hi
 | _::_,[],_,_,_,_,hi,_,_,_,_,_=>by cases hi
 | (i,C,v)::r,o::os,fuel,listed,a,w,hi,hb,hQ,hy,hS,h=>by
   have h1:ops[i]? =some o:=(List.cons.inj hi).1;have hb':(((!(T.contains i) && jib md ops listed T C i && Region.noSelect ops && Region.free md ops listed i && (Region.ready md ops listed).contains i) && Region.wanted o (yielded ops a.tmps) && o.dst.isSome) && tkB md ops T r os (listed.setIfInBounds i true) (a.put o.dst v))=true:=hb;rw [Bool.and_eq_true,Bool.and_eq_true,Bool.and_eq_true] at hb';obtain ⟨⟨⟨b1,b2⟩,b3⟩,b4⟩:=hb';obtain ⟨d,hd⟩:=Option.isSome_iff_exists.1 b3;refine tb i v C h1 b1 (fun c a w hq=>hQ c a d v w (by rw [←hd];exact hq)) b2 (fun w' e1 e2=>(hy w' e1 e2).1) hS ?_;exact tl r os (List.cons.inj hi).2 b4 hQ (fun w' e1 e2=>(hy w' e1 e2).2) hS h
theorem ja2 {listed:Array Bool} {a:Act} {w:World} (hr:Region.ready md ops listed=[]) (h:Q .normal a w):
  ∀fuel,jaN P md ops Q S T fuel listed a w
 | 0=>⟨hr,h⟩
 | _+1=>⟨fun _=>h,by rw [hr];simp⟩

theorem ja1 (S:World→Prop) (T:List Nat) {id:Nat} {a:Act} {w:World} (hm:P.follows .mixedOrders=true)
  (h:jaN P .any ops Q S T ops.size (Array.replicate ops.size false) a w.drew):(Code.region id ops true).wp P Q a w:=
 wp_region_any hm (jfY _ _ _ _ h)

theorem AllT.cons {fuel:Nat} {listed:Array Bool} {a:Act} {w:World} {i:Nat} {o:Oper} {rs:List Nat} (ho:ops[i]? =some o)
  (h:∀K':Act→World→Prop,Shut (∀a w,(i ∉ T→S w)→jaN P md ops Q S T fuel (listed.setIfInBounds i true) a w→K' a w)→if Region.wanted o (yielded ops a.tmps)=true then Oper.wp P o a w K' Q else K' (a.put o.dst undef) w)
  (hs:∀j∈rs,wpOp P ops Q j (fun a' w'=>(j ∉ T→S w')∧jaN P md ops Q S T fuel (listed.setIfInBounds j true) a' w') a w):
  ∀j∈i::rs,wpOp P ops Q j (fun a' w'=>(j ∉ T→S w')∧jaN P md ops Q S T fuel (listed.setIfInBounds j true) a' w') a w:=fun j hj=>by
 rcases List.mem_cons.1 hj with rfl|hj
 ·exact wpOp_step ho (fun K' hK=>h K' (fun a w hS hW=>hK a w ⟨hS,hW⟩))
 ·exact hs j hj
theorem AllT.nil {fuel:Nat} {listed:Array Bool} {a:Act} {w:World}:
  ∀j∈([]:List Nat),wpOp P ops Q j (fun a' w'=>(j ∉ T→S w')∧jaN P md ops Q S T fuel (listed.setIfInBounds j true) a' w') a w:=fun _ h=>by cases h
theorem ja4 {rs:List Nat} {fuel:Nat} {listed:Array Bool} {a:Act} {w:World} (hr:Region.ready md ops listed=rs) (hne:rs≠[])
  (h:∀j∈rs,wpOp P ops Q j (fun a' w'=>(j ∉ T→S w')∧jaN P md ops Q S T fuel (listed.setIfInBounds j true) a' w') a w):jaN P md ops Q S T (fuel+1) listed a w:=
 ⟨fun h0=>absurd (hr ▸ h0) hne,hr ▸ h⟩
theorem rd1 (i:Nat) {fuel:Nat} {listed:Array Bool} {a:Act} {w:World} {o:Oper} (hr:Region.ready md ops listed=[i]) (ho:ops[i]? =some o)
  (h:∀K':Act→World→Prop,Shut (∀a w,(i ∉ T→S w)→jaN P md ops Q S T fuel (listed.setIfInBounds i true) a w→K' a w)→if Region.wanted o (yielded ops a.tmps)=true then Oper.wp P o a w K' Q else K' (a.put o.dst undef) w):
  jaN P md ops Q S T (fuel+1) listed a w:=ja4 hr (by simp) (AllT.cons ho h AllT.nil)
theorem wa1 (i:Nat) {fuel:Nat} {listed:Array Bool} {a:Act} {w:World} {o:Oper} (hr:Region.ready md ops listed=[i]) (ho:ops[i]? =some o)
  (h:∀K':Act→World→Prop,Shut (∀a w,(i ∉ T→S w)→jaN P md ops Q S T fuel (listed.setIfInBounds i true) a w→K' a w)→if Region.wanted o (yielded ops a.tmps)=true then Oper.wp P o a w K' Q else K' (a.put o.dst undef) w):
  jaN P md ops Q S T (fuel+1) listed a w:=ja4 hr (by simp) (AllT.cons ho h AllT.nil)
theorem wa2 (i j:Nat) {fuel:Nat} {listed:Array Bool} {a:Act} {w:World} {o p:Oper} (hr:Region.ready md ops listed=[i,j]) (ho:ops[i]? =some o) (hp:ops[j]? =some p)
  (h:∀K':Act→World→Prop,Shut (∀a w,(i ∉ T→S w)→jaN P md ops Q S T fuel (listed.setIfInBounds i true) a w→K' a w)→if Region.wanted o (yielded ops a.tmps)=true then Oper.wp P o a w K' Q else K' (a.put o.dst undef) w)
  (h2:∀K':Act→World→Prop,Shut (∀a w,(j ∉ T→S w)→jaN P md ops Q S T fuel (listed.setIfInBounds j true) a w→K' a w)→if Region.wanted p (yielded ops a.tmps)=true then Oper.wp P p a w K' Q else K' (a.put p.dst undef) w):
  jaN P md ops Q S T (fuel+1) listed a w:=ja4 hr (by simp) (AllT.cons ho h (AllT.cons hp h2 AllT.nil))
theorem wa3 (i j k:Nat) {fuel:Nat} {listed:Array Bool} {a:Act} {w:World} {o p q:Oper} (hr:Region.ready md ops listed=[i,j,k]) (ho:ops[i]? =some o) (hp:ops[j]? =some p) (hq:ops[k]? =some q)
  (h:∀K':Act→World→Prop,Shut (∀a w,(i ∉ T→S w)→jaN P md ops Q S T fuel (listed.setIfInBounds i true) a w→K' a w)→if Region.wanted o (yielded ops a.tmps)=true then Oper.wp P o a w K' Q else K' (a.put o.dst undef) w)
  (h2:∀K':Act→World→Prop,Shut (∀a w,(j ∉ T→S w)→jaN P md ops Q S T fuel (listed.setIfInBounds j true) a w→K' a w)→if Region.wanted p (yielded ops a.tmps)=true then Oper.wp P p a w K' Q else K' (a.put p.dst undef) w)
  (h3:∀K':Act→World→Prop,Shut (∀a w,(k ∉ T→S w)→jaN P md ops Q S T fuel (listed.setIfInBounds k true) a w→K' a w)→if Region.wanted q (yielded ops a.tmps)=true then Oper.wp P q a w K' Q else K' (a.put q.dst undef) w):
  jaN P md ops Q S T (fuel+1) listed a w:=ja4 hr (by simp) (AllT.cons ho h (AllT.cons hp h2 (AllT.cons hq h3 AllT.nil)))
end
end Go.Proofs.YtfagcpcikjlboaaGreatDoor
