/- Parts. -/
import Derived.Test.YtlcbfkiknejdnaaGreatDoorMbG
set_option linter.all false
set_option maxRecDepth 100000
set_option maxHeartbeats 8000000
namespace Go.Proofs.YtlcbfkiknejdnaaGreatDoor
open Go Go.RowKit

abbrev ids (m:Nat):Array (Fin (m+1)):=Array.ofFn (fun i:Fin (m+1)=>i)

def jdV (zs:List Int):Array Value:=(zs.map (Value.int .i64)).toArray
theorem jfc {zs:List Int} {j:Nat} (h:j < zs.length):(jdV zs)[j]? =some (.int .i64 (zs.getD j 0)):=by
 simp [jdV,List.getD_eq_getElem?_getD,h]
theorem jgX (zs:List Int) (i:Nat) (z:Int):(jdV zs).setIfInBounds i (.int .i64 z)=jdV (zs.set i z):=by
 simp [jdV,List.map_set]
theorem info_int:(Tryz.prog.info? 3).map (fun i=>(i.zero,i.size,i.bytes))=some (some (.int .i64 0),1,8):=by kernel_rfl
theorem jh3 (l:Nat):madeCells #[Value.int .i64 0] (l*1)=jdV (List.replicate l 0):=by
 apply Array.ext
 ·simp [madeCells,jdV]
 ·intro i h1 h2;simp [madeCells,jdV,Nat.mod_one]
theorem jgZ (l:Nat) (hl:l < 1099511627776) (W:World):
  (Instr.makeSlice 47 (.int .i64 (l:Int)) (.int .i64 (l:Int))).run Tryz.prog W= .ok (.slice (some ⟨W.heap.size,0,none⟩) l l) (W.alloc (.cells (jdV (List.replicate l 0)) 3)):=by
 obtain ⟨i0,hi,hz0,hz1,hz2⟩:=info_parts info_int;have hr:=run_make (P:=Tryz.prog) W 47 3 i0 (.int .i64 0) Tryz.underlying47 hi hz0 .i64 .i64 (l:Int) (l:Int) (by omega) (by omega) (by rw [hz2];omega) (by omega);simp only [Int.toNat_natCast,hz1] at hr;rw [hr,show (Value.int IntKind.i64 0).cells= #[Value.int .i64 0] from rfl,jh3]

def jvw (f:Nat→Int) (n i:Nat):List Int:=(List.range n).map fun j=>if j < i then f j else 0
structure A1 (w wr:World) (b6 n c i:Nat) (A:Option Addr) (t s:Int) (q:Nat→Int):Prop where
 bO:Blk wr (b6+1) 3 (jdV (jvw q n i))
 bP:Blk wr (b6+1+1) 3 (jdV (jvw (fun j=>(j:Int)) n i))
 c2:wr.cell? ⟨w.heap.size,0,none⟩=some (.int .i64 t)
 c3:wr.cell? ⟨w.heap.size+1,0,none⟩=some (.slice A n c)
 c4:wr.cell? ⟨b6,0,none⟩=some (.int .i64 s)
 bel:Below w.heap.size w wr
 sz:w.heap.size+1 < b6

theorem jeC {α:Type} [Inhabited α] (enc:α→Value) (w:World) (blk off:Nat) (d:Array α) {g:Nat} (h:g≠blk):(Sort.putRow enc w blk off d).heap[g]? =w.heap[g]? :=by
 unfold Sort.putRow Sort.mapBlock;simp only [Array.getElem?_modify];rw [if_neg (Ne.symm h)]
theorem Blk.putRow {α:Type} [Inhabited α] {enc:α→Value} {w:World} {blk off g T:Nat} {cs:Array Value} {d:Array α} (h:Blk w g T cs) (hg:g≠blk):Blk (Sort.putRow enc w blk off d) g T cs:=by
 show (Sort.putRow enc w blk off d).heap[g]? =_
 rw [jeC _ _ _ _ _ hg];exact h
theorem jmn {α:Type} [Inhabited α] {enc:α→Value} {B:Nat} {a w:World} {blk off:Nat} {d:Array α} (h:Below B a w) (hb:B≤blk):Below B a (Sort.putRow enc w blk off d):=
 ⟨h.os,h.tape,h.output,by rw [Sort.size_putRow];exact h.size,fun k hk=>by
   rw [jeC _ _ _ _ _ (by omega)];exact h.block k hk⟩
def outs (t s:Int) (f:Nat→Int) (L:List Nat) (n j:Nat):List Int:=(List.range n).map (App.out t s f L j)
structure A2 (w wr V:World) (b6 n:Nat) (zs:List Int):Prop where
 bO:Blk wr (b6+1) 3 (jdV zs)
 bel:Below w.heap.size w wr
 pl:∀j,wr.cell? ⟨b6+1+1,j,none⟩=V.cell? ⟨b6+1+1,j,none⟩
 sz:w.heap.size+1 < b6
section
variable {w:World} {A:Option Addr} {n c:Nat} {ws:List Int} {t s:Int}
end

structure Sv (w:World) (A:Option Addr) (n:Nat) (ls:List (List UInt8)):Prop where
 len:ls.length=n
 at_:0 < n→∃b o,A=some ⟨b,o,none⟩∧b < w.heap.size∧∀j,j < n→w.cell? ⟨b,o+j,none⟩=some (bs (ls.getD j []))
theorem Sv.below {w w':World} {A:Option Addr} {n:Nat} {ls:List (List UInt8)} (h:Sv w A n ls) (hb:Below w.heap.size w w'):Sv w' A n ls:=
 ⟨h.len,fun hn=>by
   obtain ⟨b,o,e,h1,h2⟩:=h.at_ hn
   exact ⟨b,o,e,Nat.lt_of_lt_of_le h1 hb.size,fun j hj=>by rw [hb.cell (p:=⟨b,o+j,none⟩) h1];exact h2 j hj⟩⟩
theorem Sv.two (w:World) (t:TypeId) (k l:List UInt8):Sv (w.alloc (.cells #[bs k,bs l] t)) (some ⟨w.heap.size,0,none⟩) 2 [k,l]:=
 ⟨rfl,fun _=>⟨w.heap.size,0,rfl,by simp,fun j hj=>by
   have h:j=0∨j=1:=by omega
   rcases h with rfl|rfl <;> simp⟩⟩
def jar {α:Type} (f:α→Int):List α→Int
 | []=>0
 | x::r=>if f x=0 then jar f r else f x
theorem jd5 {α:Type} {d:α} {l:List α} {i:Nat} (h:i < l.length):l.drop i=l.getD i d::l.drop (i+1):=by
 rw [List.drop_eq_getElem_cons h,List.getD_eq_getElem?_getD,List.getElem?_eq_getElem h];rfl
theorem jed {α:Type} {f:α→Int} {x:α} {r:List α} (h:f x≠0):jar f (x::r)=f x:=by simp [jar,h]
theorem jf3 {α:Type} {f:α→Int} {x:α} {r:List α} (h:f x=0):jar f (x::r)=jar f r:=by simp [jar,h]

section
variable {w:World} {A:Option Addr} {n c:Nat} {ls:List (List UInt8)} {f:List UInt8→Int}
end

noncomputable def numQ (l:List UInt8):Rat:= @dite _ (∃x,IsNum l x) (Classical.propDecidable _) (fun h=>Classical.choose h) (fun _=>0)
theorem IsNum.numQ {l:List UInt8} {x:Rat} (h:IsNum l x):numQ l=x:=by
 have h1:∃x,IsNum l x:=⟨x,h⟩;unfold Proofs.YtlcbfkiknejdnaaGreatDoor.numQ;rw [dif_pos h1];exact (Classical.choose_spec h1).inj h
theorem jjb {l:List UInt8} (h:chk l=0):IsNum l (numQ l):=by
 obtain ⟨x,hx⟩:=jjL.1 h;rw [hx.numQ];exact hx
noncomputable def mst (l:List UInt8):Int:=if chk l=0 then (if numQ l < 0∨100≤numQ l then 3 else 0) else chk l
theorem jln {w:World} {l:List UInt8} {k:Int} (hk:chk l=k) (hE:Env w) (hl:l.length < 4294967281):Calls Tryz.prog 102 #[bs l] w fun e w'=>e= .returned (.int .i64 k)∧Below w.heap.size w w':=hk ▸ jnZ hE hl
theorem jg2 {w:World} {s t:Int} {A B:Option Addr} {n c m d:Nat} {x:Rat} {k:Int} (hk:sgn x.num=k) (h:RepF w s A n c t B m d x):Calls Tryz.prog 45 #[fv s A n c t B m d] w fun e w'=>e= .returned (.int .i64 k)∧Below w.heap.size w w':=hk ▸ jlS h
theorem jgN {x:Rat}:x.num < 0↔x < 0:=by rw [Rat.lt_iff];simp
theorem jrr {k n:Nat} (h:k < 10^n):k≤B64^n:=Nat.le_of_lt (Nat.lt_of_lt_of_le h (Nat.pow_le_pow_left (by rw [ja3];omega) n))
theorem jeT (n:Nat):n < 10^(Go.Lib.decDigits n).length:=by
 have h:=Dig.val_lt (Go.Lib.decDigits n) (Dig.digits_dig n).1;rwa [Dig.val_digits] at h
theorem jqR {n k:Nat} (h:(Go.Lib.decDigits n).length≤k):n≤B64^k:=Nat.le_trans (jrr (jeT _)) (Nat.pow_le_pow_right ja6 h)
theorem juR {k:Nat} {x:Rat} (h1:(Go.Lib.decDigits x.num.natAbs).length≤k) (h2:(Go.Lib.decDigits x.den).length≤k):Sz k x:=⟨jqR h1,jqR h2⟩
theorem IsNum.sz {l:List UInt8} {x:Rat} (h:IsNum l x):Sz 600 x:=juR h.num h.den
theorem jej {a:Int} (h:R64 a):Sz 1 (a:Rat):=Sz.int (by rw [Nat.pow_one,ja3];have:=h.1;have:=h.2;omega)
theorem jes {w:World} {a:Int} {x:Rat} (hx:(a:Rat)=x) (h:R64 a):Calls Tryz.prog 32 #[.int .i64 a] w (jaa x w):=hx ▸ jvd h

section
variable {w:World} {l:List UInt8} {x:Rat}
end

section
variable {w:World} {l a b:List UInt8} {x y:Rat}
structure IsMoist (l:List UInt8) (x:Rat):Prop where
 num:IsNum l x
 low:0≤x
 high:x < 100
theorem IsMoist.mst {l:List UInt8} {x:Rat} (h:IsMoist l x):mst l=0:=by
 unfold Proofs.YtlcbfkiknejdnaaGreatDoor.mst;rw [if_pos (jjL.2 ⟨x,h.num⟩),h.num.numQ,if_neg];intro h1;exact h1.elim (fun h2=>Rat.not_lt.2 h.low h2) (fun h2=>Rat.not_lt.2 h2 h.high)
theorem jeP {w:World} {s t u v:Int} {A B C D:Option Addr} {n c m d i k j l:Nat} {x y z:Rat} (p q:Nat) (hz:x - y=z) (h:RepF w s A n c t B m d x) (h':RepF w u C i k v D j l y) (hs:Sz p x) (hs':Sz q y) (hpq:p+q+1 < 100000):
  Calls Tryz.prog 36 #[fv s A n c t B m d,fv u C i k v D j l] w (jaa z w):=hz ▸ jow h h' hs hs' hpq
theorem jeB {w:World} {s t u v:Int} {A B C D:Option Addr} {n c m d i k j l:Nat} {x y z:Rat} (p q:Nat) (hz:x / y=z) (h:RepF w s A n c t B m d x) (h':RepF w u C i k v D j l y) (hs:Sz p x) (hs':Sz q y) (hpq:p+q < 100000) (hy:y≠0):
  Calls Tryz.prog 35 #[fv s A n c t B m d,fv u C i k v D j l] w (jaa z w):=hz ▸ jqo h h' hs hs' hpq hy
end
end Go.Proofs.YtlcbfkiknejdnaaGreatDoor
