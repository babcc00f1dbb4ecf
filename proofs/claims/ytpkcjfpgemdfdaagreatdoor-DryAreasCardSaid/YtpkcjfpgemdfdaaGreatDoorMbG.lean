/- Parts. -/
import Derived.Test.YtpkcjfpgemdfdaaGreatDoorFfG
import Derived.Laws.RangeAny
import Derived.Maps.AppendAt
import Derived.Sort.KeysCollected
import Derived.MapKept
import Derived.Laws.EntriesVeiled
import Derived.Deep.CutRange
import Derived.Maps.Own
import Derived.Maps.OwnSet
import Derived.Maps.Views
set_option linter.all false
set_option maxRecDepth 100000
set_option maxHeartbeats 8000000
namespace Go.Proofs.YtpkcjfpgemdfdaaGreatDoor
open Go Go.RowKit Go.Proofs.Tryz

section
variable {w:World} {l:List UInt8}
end

structure Iv (w:World) (A:Option Addr) (n:Nat) (zs:List Int):Prop where
 len:zs.length=n
 rng:∀z∈zs,R64 z
 at_:0 < n→∃b o,A=some ⟨b,o,none⟩∧b < w.heap.size∧∀j,j < n→w.cell? ⟨b,o+j,none⟩=some (.int .i64 (zs.getD j 0))
theorem Iv.below {w w':World} {A:Option Addr} {n:Nat} {zs:List Int} (h:Iv w A n zs) (hb:Below w.heap.size w w'):Iv w' A n zs:=
 ⟨h.len,h.rng,fun hn=>by
   obtain ⟨b,o,e,h1,h2⟩:=h.at_ hn
   exact ⟨b,o,e,Nat.lt_of_lt_of_le h1 hb.size,fun j hj=>by rw [hb.cell (p:=⟨b,o+j,none⟩) h1];exact h2 j hj⟩⟩

def jvH (s:Int):List Int→Int×Int
 | []=>if s=0 then (0,6) else (s,0)
 | x::r=>if x < 0∨999999999 < x then (0,3) else jvH (s+x) r
def cw (ws:List Int):Int×Int:=jvH 0 ws
section
variable {w:World} {A:Option Addr} {n c:Nat} {ws:List Int}
end

section
variable {W:World} {p2 p3 p4:Nat} {bw ow n c:Nat} {ws:List Int} {t s:Int}
end
section
variable {W:World} {blk p2 p3 p4 bw ow m c cap:Nat} {ws:List Int} {t s:Int}
end

abbrev ids (m:Nat):Array (Fin (m+1)):=Array.ofFn (fun i:Fin (m+1)=>i)

def jdV (zs:List Int):Array Value:=(zs.map (Value.int .i64)).toArray
theorem jfc {zs:List Int} {j:Nat} (h:j < zs.length):(jdV zs)[j]? =some (.int .i64 (zs.getD j 0)):=by
 simp [jdV,List.getD_eq_getElem?_getD,h]
theorem jgX (zs:List Int) (i:Nat) (z:Int):(jdV zs).setIfInBounds i (.int .i64 z)=jdV (zs.set i z):=by
 simp [jdV,List.map_set]
theorem info_int:(prog.info? 3).map (fun i=>(i.zero,i.size,i.bytes))=some (some (.int .i64 0),1,8):=by kernel_rfl
theorem jh3 (l:Nat):madeCells #[Value.int .i64 0] (l*1)=jdV (List.replicate l 0):=by
 apply Array.ext
 ·simp [madeCells,jdV]
 ·intro i h1 h2;simp [madeCells,jdV,Nat.mod_one]
theorem jgZ (l:Nat) (hl:l < 1099511627776) (W:World):
  (Instr.makeSlice 45 (.int .i64 (l:Int)) (.int .i64 (l:Int))).run prog W= .ok (.slice (some ⟨W.heap.size,0,none⟩) l l) (W.alloc (.cells (jdV (List.replicate l 0)) 3)):=by
 obtain ⟨i0,hi,hz0,hz1,hz2⟩:=info_parts info_int;have hr:=run_make (P:=prog) W 45 3 i0 (.int .i64 0) underlying45 hi hz0 .i64 .i64 (l:Int) (l:Int) (by omega) (by omega) (by rw [hz2];omega) (by omega);simp only [Int.toNat_natCast,hz1] at hr;rw [hr,show (Value.int IntKind.i64 0).cells= #[Value.int .i64 0] from rfl,jh3]

def jvw (f:Nat→Int) (n i:Nat):List Int:=(List.range n).map fun j=>if j < i then f j else 0
structure A1 (w wr:World) (b6 n c i:Nat) (A:Option Addr) (t s:Int) (q:Nat→Int):Prop where
 bO:Blk wr (b6+1) 3 (jdV (jvw q n i))
 bP:Blk wr (b6+1+1) 3 (jdV (jvw (fun j=>(j:Int)) n i))
 c2:wr.cell? ⟨w.heap.size,0,none⟩=some (.int .i64 t)
 c3:wr.cell? ⟨w.heap.size+1,0,none⟩=some (.slice A n c)
 c4:wr.cell? ⟨b6,0,none⟩=some (.int .i64 s)
 bel:Below w.heap.size w wr
 sz:w.heap.size+1 < b6

theorem jeC {α:Type} [Inhabited α] (enc:α→Value) (w:World) (blk off:Nat) (d:Array α) {g:Nat} (h:g≠blk):(Sort.putRow enc w blk off d).heap[g]? =w.heap[g]? :=by
 unfold Sort.putRow Sort.mapBlock;simp only [Array.getElem?_modify];rw [if_neg (Ne.symm h)]
theorem Blk.putRow {α:Type} [Inhabited α] {enc:α→Value} {w:World} {blk off g T:Nat} {cs:Array Value} {d:Array α} (h:Blk w g T cs) (hg:g≠blk):Blk (Sort.putRow enc w blk off d) g T cs:=by
 show (Sort.putRow enc w blk off d).heap[g]? =_
 rw [jeC _ _ _ _ _ hg];exact h
theorem jmn {α:Type} [Inhabited α] {enc:α→Value} {B:Nat} {a w:World} {blk off:Nat} {d:Array α} (h:Below B a w) (hb:B≤blk):Below B a (Sort.putRow enc w blk off d):=
 ⟨h.os,h.tape,h.output,by rw [Sort.size_putRow];exact h.size,fun k hk=>by
   rw [jeC _ _ _ _ _ (by omega)];exact h.block k hk⟩
def outs (t s:Int) (f:Nat→Int) (L:List Nat) (n j:Nat):List Int:=(List.range n).map (App.out t s f L j)
structure A2 (w wr V:World) (b6 n:Nat) (zs:List Int):Prop where
 bO:Blk wr (b6+1) 3 (jdV zs)
 bel:Below w.heap.size w wr
 pl:∀j,wr.cell? ⟨b6+1+1,j,none⟩=V.cell? ⟨b6+1+1,j,none⟩
 sz:w.heap.size+1 < b6
section
variable {w:World} {A:Option Addr} {n c:Nat} {ws:List Int} {t s:Int}
end

structure Sv (w:World) (A:Option Addr) (n:Nat) (ls:List (List UInt8)):Prop where
 len:ls.length=n
 at_:0 < n→∃b o,A=some ⟨b,o,none⟩∧b < w.heap.size∧∀j,j < n→w.cell? ⟨b,o+j,none⟩=some (bs (ls.getD j []))
theorem Sv.below {w w':World} {A:Option Addr} {n:Nat} {ls:List (List UInt8)} (h:Sv w A n ls) (hb:Below w.heap.size w w'):Sv w' A n ls:=
 ⟨h.len,fun hn=>by
   obtain ⟨b,o,e,h1,h2⟩:=h.at_ hn
   exact ⟨b,o,e,Nat.lt_of_lt_of_le h1 hb.size,fun j hj=>by rw [hb.cell (p:=⟨b,o+j,none⟩) h1];exact h2 j hj⟩⟩
theorem Sv.two (w:World) (t:TypeId) (k l:List UInt8):Sv (w.alloc (.cells #[bs k,bs l] t)) (some ⟨w.heap.size,0,none⟩) 2 [k,l]:=
 ⟨rfl,fun _=>⟨w.heap.size,0,rfl,by simp,fun j hj=>by
   have h:j=0∨j=1:=by omega
   rcases h with rfl|rfl <;> simp⟩⟩
def jar {α:Type} (f:α→Int):List α→Int
 | []=>0
 | x::r=>if f x=0 then jar f r else f x
theorem jd5 {α:Type} {d:α} {l:List α} {i:Nat} (h:i < l.length):l.drop i=l.getD i d::l.drop (i+1):=by
 rw [List.drop_eq_getElem_cons h,List.getD_eq_getElem?_getD,List.getElem?_eq_getElem h];rfl
theorem jed {α:Type} {f:α→Int} {x:α} {r:List α} (h:f x≠0):jar f (x::r)=f x:=by simp [jar,h]
theorem jf3 {α:Type} {f:α→Int} {x:α} {r:List α} (h:f x=0):jar f (x::r)=jar f r:=by simp [jar,h]

section
variable {w:World} {A:Option Addr} {n c:Nat} {ls:List (List UInt8)} {f:List UInt8→Int}
end

noncomputable def numQ (l:List UInt8):Rat:= @dite _ (∃x,IsNum l x) (Classical.propDecidable _) (fun h=>Classical.choose h) (fun _=>0)
theorem IsNum.numQ {l:List UInt8} {x:Rat} (h:IsNum l x):numQ l=x:=by
 have h1:∃x,IsNum l x:=⟨x,h⟩;unfold Proofs.YtpkcjfpgemdfdaaGreatDoor.numQ;rw [dif_pos h1];exact (Classical.choose_spec h1).inj h
theorem jjb {l:List UInt8} (h:chk l=0):IsNum l (numQ l):=by
 obtain ⟨x,hx⟩:=jjL.1 h;rw [hx.numQ];exact hx
theorem jln {w:World} {l:List UInt8} {k:Int} (hk:chk l=k) (hE:Env w) (hl:l.length < 4294967281):Calls prog 96 #[bs l] w fun e w'=>e= .returned (.int .i64 k)∧Below w.heap.size w w':=hk ▸ jnZ hE hl
theorem jrr {k n:Nat} (h:k < 10^n):k≤B64^n:=Nat.le_of_lt (Nat.lt_of_lt_of_le h (Nat.pow_le_pow_left (by rw [ja3];omega) n))
theorem jeT (n:Nat):n < 10^(Go.Lib.decDigits n).length:=by
 have h:=Dig.val_lt (Go.Lib.decDigits n) (Dig.digits_dig n).1;rwa [Dig.val_digits] at h
theorem jqR {n k:Nat} (h:(Go.Lib.decDigits n).length≤k):n≤B64^k:=Nat.le_trans (jrr (jeT _)) (Nat.pow_le_pow_right ja6 h)
theorem juR {k:Nat} {x:Rat} (h1:(Go.Lib.decDigits x.num.natAbs).length≤k) (h2:(Go.Lib.decDigits x.den).length≤k):Sz k x:=⟨jqR h1,jqR h2⟩
theorem IsNum.sz {l:List UInt8} {x:Rat} (h:IsNum l x):Sz 600 x:=juR h.num h.den
theorem jes {w:World} {a:Int} {x:Rat} (hx:(a:Rat)=x) (h:R64 a):Calls prog 43 #[.int .i64 a] w (jaa x w):=hx ▸ jvd h

section
variable {w:World} {l:List UInt8} {x:Rat}
end

section
variable {w:World} {l a b:List UInt8} {x y:Rat}
theorem jeP {w:World} {s t u v:Int} {A B C D:Option Addr} {n c m d i k j l:Nat} {x y z:Rat} (p q:Nat) (hz:x - y=z) (h:RepF w s A n c t B m d x) (h':RepF w u C i k v D j l y) (hs:Sz p x) (hs':Sz q y) (hpq:p+q+1 < 100000):
  Calls prog 45 #[fv s A n c t B m d,fv u C i k v D j l] w (jaa z w):=hz ▸ jow h h' hs hs' hpq
theorem jeB {w:World} {s t u v:Int} {A B C D:Option Addr} {n c m d i k j l:Nat} {x y z:Rat} (p q:Nat) (hz:x / y=z) (h:RepF w s A n c t B m d x) (h':RepF w u C i k v D j l y) (hs:Sz p x) (hs':Sz q y) (hpq:p+q < 100000) (hy:y≠0):
  Calls prog 47 #[fv s A n c t B m d,fv u C i k v D j l] w (jaa z w):=hz ▸ jqo h h' hs hs' hpq hy
end

abbrev sp (a b:List UInt8):Value:= .agg #[bs a,bs b]
section
variable {w:World} {a b:List UInt8} {x y:Rat}
end
section
variable {w:World} {sx tx sy ty:Int} {Ax Bx Ay By:Option Addr} {nx cx mx dx ny cy my dy:Nat} {x y:Rat}
end

section
variable {w:World} {a b:List UInt8} {x y:Rat}
end
structure Pv (w:World) (A:Option Addr) (n:Nat) (ls:List (List UInt8×List UInt8)):Prop where
 len:ls.length=n
 at_:0 < n→∃b o,A=some ⟨b,o,none⟩∧b < w.heap.size∧∀j,j < n→w.cell? ⟨b,o+j*2,none⟩=some (bs (ls.getD j ([],[])).1)∧w.cell? ⟨b,o+j*2+1,none⟩=some (bs (ls.getD j ([],[])).2)
theorem Pv.below {w w':World} {A:Option Addr} {n:Nat} {ls:List (List UInt8×List UInt8)} (h:Pv w A n ls) (hb:Below w.heap.size w w'):Pv w' A n ls:=
 ⟨h.len,fun hn=>by
   obtain ⟨b,o,e,h1,h2⟩:=h.at_ hn
   exact ⟨b,o,e,Nat.lt_of_lt_of_le h1 hb.size,fun j hj=>by rw [hb.cell (p:=⟨b,o+j*2,none⟩) h1,hb.cell (p:=⟨b,o+j*2+1,none⟩) h1];exact h2 j hj⟩⟩
section
variable {w:World} {A:Option Addr} {n c:Nat} {ls:List (List UInt8×List UInt8)} {f:List UInt8×List UInt8→Int}
end
end Go.Proofs.YtpkcjfpgemdfdaaGreatDoor
namespace Go.Proofs.YtpkcjfpgemdfdaaGreatDoor
open Go Go.RowKit Go.Sort

theorem jdP (g j:Nat):(⟨g,0,none⟩:Addr).add j=⟨g,j,none⟩:=by unfold Addr.add;split <;> simp_all
theorem je8 {w w':World} (h:Below w.heap.size w w') (row:Option Nat):w.grownBy w' row:=⟨h.os,h.tape,h.output,h.size,fun k hk _=>h.block k hk⟩
theorem jiI {P:Program} {o:Oper} {a:Act} {K:Act→World→Prop} {Q:Exit→Act→World→Prop} {w w':World} {v z v':Value} {t:TypeId} (s y:Operand)
  (ho:o.op= .call { callee:= .builtin .append,args:= #[s,y],argTypes:= #[t,t] }) (hs:a.eval s=v) (hy:a.eval y=z)
  (hr:(Builtin.append_ #[t,t] o.type #[v,z]).run P w= .ok v' w') (hK:K (a.put o.dst v') w'):o.wp P a w K Q:=by
 unfold Oper.wp execOp;simp only [ho,resolve,invoke,builtin,Sem.run_bind,Sem.run_pure,Result.andThen_ok,List.map_toArray,List.map_cons,List.map_nil,hs,hy,hr];exact hK
end Go.Proofs.YtpkcjfpgemdfdaaGreatDoor
namespace Go.Proofs.YtpkcjfpgemdfdaaGreatDoor
open Go Go.RowKit

section
variable {w:World} {A:Option Addr} {n c p:Nat} {qs:List Rat}
end


structure SmallQ (x:Rat):Prop where
 lo: -9223372036854775808 < x.num
 hi:x.num < 9223372036854775808
 den:x.den < 9223372036854775808
theorem Rep.is_small {w:World} {s z:Int} {A:Option Addr} {n c:Nat} (h:Rep w s A n c z) (h0: -9223372036854775808 < z) (h1:z < 9223372036854775808):s=z∧A=none∧n=0∧c=0:=by
 cases h with
 | small _ _ _=>exact ⟨rfl,rfl,rfl,rfl⟩
 | plus _ _ _ ds h=>have:=h.big;omega
 | minus _ _ _ ds h=>have:=h.big;omega
abbrev fq (x:Rat):Value:=fv x.num none 0 0 ((x.den:Nat):Int) none 0 0
theorem SmallQ.rep {x:Rat} (h:SmallQ x) (w:World):RepF w x.num none 0 0 ((x.den:Nat):Int) none 0 0 x:=
 ⟨.small _ (by have:=h.lo;omega) h.hi, .small _ (by omega) (by have:=h.den;omega)⟩
theorem SmallQ.post {x:Rat} (hs:SmallQ x) {w w':World} {e:Ending} (h:jaa x w e w'):e= .returned (fq x)∧Below w.heap.size w w':=by
 obtain ⟨s,A,n,c,t,B,m,d,rfl,⟨h1,h2⟩,hb⟩:=h;obtain ⟨rfl,rfl,rfl,rfl⟩:=h1.is_small hs.lo hs.hi;obtain ⟨rfl,rfl,rfl,rfl⟩:=h2.is_small (by omega) (by have:=hs.den;omega);exact ⟨rfl,hb⟩
theorem SmallQ.sz {x:Rat} (h:SmallQ x):Sz 1 x:=⟨by rw [Nat.pow_one,ja3];have:=h.lo;have:=h.hi;omega,by rw [Nat.pow_one,ja3];have:=h.den;omega⟩
theorem SmallQ.str {x:Rat} (h:SmallQ x):StrQ x:=StrQ.small h.lo h.hi h.den
theorem jk6 (g j:Nat):(⟨g,0,none⟩:Addr).add j=⟨g,j,none⟩:=by unfold Addr.add;split <;> simp_all
theorem jeZ {w w':World} (h:Below w.heap.size w w'):w.grownBy w' none:=⟨h.os,h.tape,h.output,h.size,fun k hk _=>h.block k hk⟩
theorem jab {w w':World} {base:Nat} {row:Option Nat} (h:w.grownBy w' row) (hb:base≤w.heap.size) (hr:∀k,row=some k→base≤k):Below base w w':=
 ⟨h.os,h.tape,h.output,h.size,fun k hk=>h.block k (Nat.lt_of_lt_of_le hk hb) (fun e=>by have:=hr k e.symm;omega)⟩
theorem jdG {P:Program} {o:Oper} {a:Act} {K:Act→World→Prop} {Q:Exit→Act→World→Prop} {w w':World} {v z v':Value} {t:TypeId} (s y:Operand)
  (ho:o.op= .call { callee:= .builtin .append,args:= #[s,y],argTypes:= #[t,t] }) (hs:a.eval s=v) (hy:a.eval y=z)
  (hr:(Builtin.append_ #[t,t] o.type #[v,z]).run P w= .ok v' w') (hK:K (a.put o.dst v') w'):o.wp P a w K Q:=by
 unfold Oper.wp execOp;simp only [ho,resolve,invoke,builtin,Sem.run_bind,Sem.run_pure,Result.andThen_ok,List.map_toArray,List.map_cons,List.map_nil,hs,hy,hr];exact hK

def NoU (w:World) (g:Nat):Prop:=∃cur t f,w.heap[g]? =some (.cells cur t f)∧∀u∈cur.toList,∀z,u≠ .int .u64 z
theorem NoU.cell {w:World} {g o:Nat} {z:Int} (h:NoU w g):w.cell? ⟨g,o,none⟩≠some (.int .u64 z):=by
 obtain ⟨cur,t,f,h1,h2⟩:=h;rw [cell_of_row w g o cur t f h1];intro e;exact h2 _ (by have:=Array.mem_of_getElem? e;simpa using this) z rfl
theorem NoU.kept {w w':World} {g:Nat} (h:NoU w g) (e:w'.heap[g]? =w.heap[g]?):NoU w' g:=by
 obtain ⟨cur,t,f,h1,h2⟩:=h;exact ⟨cur,t,f,e.trans h1,h2⟩
theorem Rep.grown {w w':World} {s z:Int} {A:Option Addr} {n c:Nat} {row:Option Nat} (h:Rep w s A n c z) (hg:w.grownBy w' row) (hr:∀g,row=some g→NoU w g):Rep w' s A n c z:=by
 have key {ds:List Nat} (hb:Big w A n c ds):Big w' A n c ds:=⟨⟨hb.wd.len,hb.wd.dig,hb.wd.big,fun hn=>by
  obtain ⟨b,o,e,hl,hc⟩:=hb.wd.at_ hn
  have hne:some b≠row:=fun e2=>by
   have:=(hr b e2.symm).cell (o:=o+0) (z:=((dg ds 0:Nat):Int));exact this (hc 0 hn)
  exact ⟨b,o,e,Nat.lt_of_lt_of_le hl hg.size,fun j hj=>hg.cell (hc j hj) hne⟩⟩,hb.trim,hb.cap,hb.lim,hb.big⟩
 cases h with
 | small _ h0 h1=>exact .small _ h0 h1
 | plus _ _ _ ds h=>exact .plus _ _ _ ds (key h)
 | minus _ _ _ ds h=>exact .minus _ _ _ ds (key h)
abbrev FT:=(Int×Option Addr×Nat×Nat)×(Int×Option Addr×Nat×Nat)
def fts (q:FT):List Value:=[.int .i64 q.1.1, .slice q.1.2.1 q.1.2.2.1 q.1.2.2.2, .int .i64 q.2.1, .slice q.2.2.1 q.2.2.2.1 q.2.2.2.2]
abbrev jlE (w:World) (q:FT) (x:Rat):Prop:=RepF w q.1.1 q.1.2.1 q.1.2.2.1 q.1.2.2.2 q.2.1 q.2.2.1 q.2.2.2.1 q.2.2.2.2 x
theorem jgw {w:World} {cs:Array Value} {t:TypeId} (h:∀u∈cs.toList,∀z,u≠ .int .u64 z):NoU (w.alloc (.cells cs t)) w.heap.size:=⟨cs,t,(0,0),heap_alloc_new w _,h⟩
theorem jo6 {q:FT}:∀u∈fts q,∀z,u≠ .int .u64 z:=by
 intro u hu z;simp [fts] at hu;rcases hu with rfl|rfl|rfl|rfl <;> simp

section
variable {w:World} {A:Option Addr} {n c:Nat} {ls:List (List UInt8×List UInt8)}
end
section
variable {w:World} {A:Option Addr} {n c:Nat} {ls:List (List UInt8×List UInt8)} {los his:List Rat}
end

section
variable {w:World} {A:Option Addr} {n c:Nat} {ls:List (List UInt8×List UInt8)} {los his:List Rat}
end

section
variable {w:World} {A:Option Addr} {n c:Nat} {ls:List (List UInt8×List UInt8)} {los his:List Rat}
end

section
variable {los his:List Rat} {n:Nat}
end

section
variable {w:World}
end
section
variable {w:World} {kind step:List UInt8}
end

section
variable {w:World} {h:Int} {o:Bool}
end
theorem jna (y:Rat):y.floor.natAbs≤y.num.natAbs:=by
 rw [Rat.floor_def];have hd:=y.den_pos;have h:=Int.natAbs_ediv_le_natAbs y.num (y.den:Int);exact h
theorem Sz.floor {p:Nat} {y:Rat} (h:Sz p y):Sz p (y.floor:Rat):=
 Sz.int (Nat.le_trans (jna y) h.num)

section
variable {w:World} {A B:Option Addr} {n c d p:Nat} {qs:List Rat} {ws:List Int} {s:Int}
end

def jtr (a b:List UInt8):Bool:=Op.bytesLess a b || a==b
@[go_sem] theorem juD (t : TypeId) (x y : List UInt8) : binOp .leq t (.string ⟨x.toArray⟩) (.string ⟨y.toArray⟩) = pure (.bool (jtr x y)) := by
  simp [binOp,Op.stringOp,jtr,Lib.toList_data]
section
variable {w:World} {A:Option Addr} {n c:Nat} {ls:List (List UInt8×List UInt8)}
end

structure Lay where
 grain:List UInt8
 mass:Int
 shares:List (List UInt8×List UInt8)
section
variable {w:World} {A:Option Addr} {n c:Nat} {x:Lay}
end
section
variable {w:World} {A:Option Addr} {n c:Nat} {ls:List Lay} {f:Lay→Int}
end

section
variable {w:World} {A B:Option Addr} {n m c d:Nat} {zs ys:List Int}
end
section
variable {w:World} {A B:Option Addr} {n m c d:Nat} {zs ys:List (List UInt8×List UInt8)}
end
section
variable {w:World} {A B:Option Addr} {n m c d:Nat} {zs ys:List (List UInt8×List UInt8)} {g h:List UInt8} {x y:Int}
end

section
variable {w:World} {sx tx:Int} {Ax Bx:Option Addr} {nx cx mx dx p g:Nat} {x s y:Rat} {kind step:List UInt8}
end

section
variable {w:World} {x s:Rat} {kind step a:List UInt8}
end


section
variable {w:World} {a1 a2 b1 b2:List UInt8} {x1 x2 y1 y2:Rat}
end

section
variable {w:World} {A B:Option Addr} {n c d:Nat} {ls:List (List UInt8×List UInt8)} {los his:List Rat} {ws:List Int} {s:Int}
end
end Go.Proofs.YtpkcjfpgemdfdaaGreatDoor
namespace Go.Proofs.YtpkcjfpgemdfdaaGreatDoor
open Go Go.RowKit Go.Maps

def tot:List (List UInt8×Rat)→List UInt8→Rat
 | [],_=>0
 | p::r,x=>(if p.1=x then p.2 else 0)+tot r x
def jhw (w:World) (b:Nat):Prop:=∀o z,w.cell? ⟨b,o,none⟩≠some (.int .u64 z)
theorem jhw.map {w:World} {b:Nat} {es:Array MapEntry} {cl:Nat} (hb:w.heap[b]? =some (.map es cl)):jhw w b:=fun o z h=>by simp [World.cell?,hb] at h
theorem Wd.turned {w w':World} {A:Option Addr} {n b:Nat} {ds:List Nat} (h:Wd w A n ds) (hb:jhw w b) (hg:w.grownBy w' (some b)):Wd w' A n ds:=
 ⟨h.len,h.dig,h.big,fun hn=>by
   obtain ⟨b',o,e,hl,hc⟩:=h.at_ hn
   have hne:b'≠b:=by
    rintro rfl
    exact hb _ _ (hc 0 hn)
   exact ⟨b',o,e,Nat.lt_of_lt_of_le hl hg.size,fun j hj=>hg.cell (hc j hj) (by simpa using hne)⟩⟩
theorem Rep.turned {w w':World} {s z:Int} {A:Option Addr} {n c b:Nat} (h:Rep w s A n c z) (hb:jhw w b) (hg:w.grownBy w' (some b)):Rep w' s A n c z:=by
 cases h with
 | small _ h0 h1=>exact .small _ h0 h1
 | plus _ _ _ ds h=>exact .plus _ _ _ ds ⟨h.wd.turned hb hg,h.trim,h.cap,h.lim,h.big⟩
 | minus _ _ _ ds h=>exact .minus _ _ _ ds ⟨h.wd.turned hb hg,h.trim,h.cap,h.lim,h.big⟩
theorem RepF.turned {w w':World} {s t:Int} {A B:Option Addr} {n c m d b:Nat} {x:Rat} (h:RepF w s A n c t B m d x) (hb:jhw w b) (hg:w.grownBy w' (some b)):RepF w' s A n c t B m d x:=⟨h.num.turned hb hg,h.den.turned hb hg⟩
section
variable {w:World} {ops:Array Oper} {rest:List Oper} {o:Oper} {a:Act} {Q:Exit→Act→World→Prop} {b n:Nat} {D:DataW Value} {cs:List (List UInt8×Rat)} {y:List UInt8}
end
end Go.Proofs.YtpkcjfpgemdfdaaGreatDoor
namespace Go.Proofs.YtpkcjfpgemdfdaaGreatDoor
open Go Go.RowKit Go.Maps Go.Sort

end Go.Proofs.YtpkcjfpgemdfdaaGreatDoor
namespace Go.Proofs.YtpkcjfpgemdfdaaGreatDoor
open Go Go.RowKit


section
variable {w:World} {A:Option Addr} {n c:Nat} {ls:List Lay}
end

section
variable {w:World} {A:Option Addr} {n q:Nat} {ls:List Lay} {mass:Int}
end
section
variable {w:World} {A:Option Addr} {n c q:Nat} {ls:List Lay} {mass:Int} {ks:List (List UInt8)} {outs:List (List UInt8×List UInt8)} {g0:List UInt8}
end

theorem jtd {x:Rat} {l:List UInt8} (h:tq x=l) (h1:(Go.Lib.decDigits x.num.natAbs).length≤600) (h2:(Go.Lib.decDigits x.den).length≤600):IsNum l x:=⟨h.symm,h1,h2⟩
theorem jvU {x:Rat} {l:List UInt8} (h:tq x=l∧(Go.Lib.decDigits x.num.natAbs).length≤600∧(Go.Lib.decDigits x.den).length≤600):IsNum l x:=jtd h.1 h.2.1 h.2.2
theorem ex2:IsNum [50] 2:=jvU (by decide+kernel)
theorem jud {x:Rat} (h1: -9223372036854775808 < x.num) (h2:x.num < 9223372036854775808) (h3:x.den < 9223372036854775808):StrQ x:=StrQ.small h1 h2 h3
theorem jv3 {x:Rat} (h: -9223372036854775808 < x.num∧x.num < 9223372036854775808∧x.den < 9223372036854775808):StrQ x:=jud h.1 h.2.1 h.2.2
theorem t12:jcF (1/2)=[49,47,50]∧jbq (1/2)=0:=by decide+kernel
theorem s12:StrQ (1/2):=jv3 (by decide+kernel)
theorem s6:StrQ 6:=jv3 (by decide+kernel)
theorem s11:StrQ 11:=jv3 (by decide+kernel)

section
variable {w:World}
end

section
variable {w:World}
end
end Go.Proofs.YtpkcjfpgemdfdaaGreatDoor
