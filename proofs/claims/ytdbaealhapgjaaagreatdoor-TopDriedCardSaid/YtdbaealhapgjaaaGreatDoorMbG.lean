/- Parts. -/
import Derived.Test.YtdbaealhapgjaaaGreatDoorFfG
import Derived.Laws.RangeAny
import Derived.Shelf.SlSortCmp.Insertion1
import Derived.Maps.AppendAt
import Derived.Sort.KeysCollected
set_option linter.all false
set_option maxRecDepth 100000
set_option maxHeartbeats 8000000
namespace Go.Proofs.YtdbaealhapgjaaaGreatDoor
open Go Go.RowKit Go.Proofs.Tryz

def jz5 (n:Nat):Bool:=(decide (97≤n) && decide (n≤122)) || (decide (65≤n) && decide (n≤90)) || (decide (48≤n) && decide (n≤57)) || n==45 || n==95 || n==46
def jyT (l:List UInt8):Bool:=l.all (fun c=>jz5 c.toNat) && decide (1≤l.length) && decide (l.length≤24)
theorem jzE {n:Nat} (h:jz5 n=true):n < 128:=by
 simp [jz5] at h;omega
theorem jBK (s:ByteArray) (pos:Nat) (h:pos < s.size):∃r k:Nat,Utf8.decode s pos=(r,k)∧1≤k∧jz5 r=jz5 (s[pos]'h).toNat∧(jz5 r=true→k=1):=by
 by_cases ha:(s[pos]'h).toNat < 128
 ·exact ⟨_,_,decode_ascii s pos h ha,by omega,rfl,fun _=>rfl⟩
 ·have h2:=decode_high s pos h (by omega);refine ⟨(Utf8.decode s pos).1,(Utf8.decode s pos).2,rfl,h2.2, ?_, ?_⟩
  ·have e1:jz5 (Utf8.decode s pos).1=false:=by
    rcases hb:jz5 (Utf8.decode s pos).1 with _ | _
    ·rfl
    ·have:=jzE hb;omega
   have e2:jz5 (s[pos]'h).toNat=false:=by
    rcases hb:jz5 (s[pos]'h).toNat with _ | _
    ·rfl
    ·have:=jzE hb;omega
   rw [e1,e2]
  ·intro hb;have:=jzE hb;omega

theorem jyN (w:World) (s:ByteArray) (pos:Nat):Below w.heap.size w (w.iter s pos):=(Below.refl _ _).alloc (Nat.le_refl _) _
section
variable {w:World} {l:List UInt8}
theorem jAz:Calls prog 115 #[bs l] w fun e w'=>e= .returned (.bool (jyT l))∧Below w.heap.size w w':=by
 obtain ⟨R,hR⟩:∃R,jyT l=R:=⟨_,rfl⟩;rw [hR];have HR:=qh hR;clear hR;go_enter func115,ntmps115;go_wp2
 go_loopw [4] (fun _ wr=>∃pos:Nat,wr=w.iter ⟨l.toArray⟩ pos∧pos≤l.length∧(l.take pos).all (fun c=>jz5 c.toNat)=true) (fun _ wr=>l.length - wr.iterPos w.heap.size)
 case atStart=>exact ⟨0,rfl,by omega,by simp⟩
 case round=>
  obtain ⟨pos,rfl,hle,hall⟩:=hrel;by_cases hp:pos < l.length
  ·have hps:pos < (⟨l.toArray⟩:ByteArray).size:=by simpa [ByteArray.size] using hp
   obtain ⟨r,k,hd,hk1,hn,hk⟩:=jBK ⟨l.toArray⟩ pos hps
   have hnx:∀ty,(Instr.next (.pointer (some ⟨w.heap.size,0,none⟩)) true ty).run prog (w.iter ⟨l.toArray⟩ pos)= .ok (.tuple #[.bool true, .int .i64 pos, .int .i32 (r:Int)]) (w.iter ⟨l.toArray⟩ (pos+k)):=fun ty=>by
    have:=run_next_any (P:=prog) w ⟨l.toArray⟩ pos ty hps;rwa [hd] at this
   have hc:(⟨l.toArray⟩:ByteArray)[pos]'hps=l[pos]:=by simp [ByteArray.getElem_eq_getElem_data]
   rw [hc] at hn;cases hg:jz5 r with
   | true=>
     have hk':=hk hg;subst hk';have HP:=qh hp
     have HALL:=qh (show (l.take (pos+1)).all (fun c=>jz5 c.toNat)=true by
      rw [List.take_succ_eq_append_getElem hp,List.all_append,hall];simp [←hn,hg])
     clear hd hk1 hk hn hc hall hle hps hp;have hg2:=hg;simp only [jz5,Bool.or_eq_true,Bool.and_eq_true,decide_eq_true_eq,beq_iff_eq] at hg2;clear hg;rcases hg2 with ((((h1|h1)|h1)|h1)|h1)|h1
     ·have q1:decide ((97:Int)≤(r:Int))=true:=by simp;omega
      have q2:decide ((r:Int)≤122)=true:=by simp;omega
      have q3:decide ((65:Int)≤(r:Int))=true:=by simp;omega
      have q4:decide ((r:Int)≤90)=false:=by simp;omega
      have q5:decide ((48:Int)≤(r:Int))=true:=by simp;omega
      have q6:decide ((r:Int)≤57)=false:=by simp;omega
      have q7:((r:Int) != 45)=true:=by simp;omega
      have q8:((r:Int) != 95)=true:=by simp;omega
      have q9:((r:Int) != 46)=true:=by simp;omega
      clear h1;go_wp2
      go_roundw
      case rel=>
       exact ⟨pos+1,rfl,by have:=HP.o;omega,HALL.o⟩
      case measure=>
       have:=HP.o;simp;omega
     ·have q1:decide ((97:Int)≤(r:Int))=false:=by simp;omega
      have q2:decide ((r:Int)≤122)=true:=by simp;omega
      have q3:decide ((65:Int)≤(r:Int))=true:=by simp;omega
      have q4:decide ((r:Int)≤90)=true:=by simp;omega
      have q5:decide ((48:Int)≤(r:Int))=true:=by simp;omega
      have q6:decide ((r:Int)≤57)=false:=by simp;omega
      have q7:((r:Int) != 45)=true:=by simp;omega
      have q8:((r:Int) != 95)=true:=by simp;omega
      have q9:((r:Int) != 46)=true:=by simp;omega
      clear h1;go_wp2
      go_roundw
      case rel=>
       exact ⟨pos+1,rfl,by have:=HP.o;omega,HALL.o⟩
      case measure=>
       have:=HP.o;simp;omega
     ·have q1:decide ((97:Int)≤(r:Int))=false:=by simp;omega
      have q2:decide ((r:Int)≤122)=true:=by simp;omega
      have q3:decide ((65:Int)≤(r:Int))=false:=by simp;omega
      have q4:decide ((r:Int)≤90)=true:=by simp;omega
      have q5:decide ((48:Int)≤(r:Int))=true:=by simp;omega
      have q6:decide ((r:Int)≤57)=true:=by simp;omega
      have q7:((r:Int) != 45)=true:=by simp;omega
      have q8:((r:Int) != 95)=true:=by simp;omega
      have q9:((r:Int) != 46)=true:=by simp;omega
      clear h1;go_wp2
      go_roundw
      case rel=>
       exact ⟨pos+1,rfl,by have:=HP.o;omega,HALL.o⟩
      case measure=>
       have:=HP.o;simp;omega
     ·have q1:decide ((97:Int)≤(r:Int))=false:=by simp;omega
      have q2:decide ((r:Int)≤122)=true:=by simp;omega
      have q3:decide ((65:Int)≤(r:Int))=false:=by simp;omega
      have q4:decide ((r:Int)≤90)=true:=by simp;omega
      have q5:decide ((48:Int)≤(r:Int))=false:=by simp;omega
      have q6:decide ((r:Int)≤57)=true:=by simp;omega
      have q7:((r:Int) != 45)=false:=by simp;omega
      have q8:((r:Int) != 95)=true:=by simp;omega
      have q9:((r:Int) != 46)=true:=by simp;omega
      clear h1;go_wp2
      go_roundw
      case rel=>
       exact ⟨pos+1,rfl,by have:=HP.o;omega,HALL.o⟩
      case measure=>
       have:=HP.o;simp;omega
     ·have q1:decide ((97:Int)≤(r:Int))=false:=by simp;omega
      have q2:decide ((r:Int)≤122)=true:=by simp;omega
      have q3:decide ((65:Int)≤(r:Int))=true:=by simp;omega
      have q4:decide ((r:Int)≤90)=false:=by simp;omega
      have q5:decide ((48:Int)≤(r:Int))=true:=by simp;omega
      have q6:decide ((r:Int)≤57)=false:=by simp;omega
      have q7:((r:Int) != 45)=true:=by simp;omega
      have q8:((r:Int) != 95)=false:=by simp;omega
      have q9:((r:Int) != 46)=true:=by simp;omega
      clear h1;go_wp2
      go_roundw
      case rel=>
       exact ⟨pos+1,rfl,by have:=HP.o;omega,HALL.o⟩
      case measure=>
       have:=HP.o;simp;omega
     ·have q1:decide ((97:Int)≤(r:Int))=false:=by simp;omega
      have q2:decide ((r:Int)≤122)=true:=by simp;omega
      have q3:decide ((65:Int)≤(r:Int))=false:=by simp;omega
      have q4:decide ((r:Int)≤90)=true:=by simp;omega
      have q5:decide ((48:Int)≤(r:Int))=false:=by simp;omega
      have q6:decide ((r:Int)≤57)=true:=by simp;omega
      have q7:((r:Int) != 45)=true:=by simp;omega
      have q8:((r:Int) != 95)=true:=by simp;omega
      have q9:((r:Int) != 46)=false:=by simp;omega
      clear h1;go_wp2
      go_roundw
      case rel=>
       exact ⟨pos+1,rfl,by have:=HP.o;omega,HALL.o⟩
      case measure=>
       have:=HP.o;simp;omega
   | false=>
     have hbad:jyT l=false:=by
      have:l.all (fun c=>jz5 c.toNat)=false:=by
       rw [Bool.eq_false_iff];intro h;have:=List.all_eq_true.1 h _ (List.getElem_mem hp);rw [←hn,hg] at this;cases this
      simp [jyT,this]
     have hR:R=false:=by rw [←HR.o];exact hbad
     subst hR;clear hbad hd hk1 hk hn hc hall hle hps hp
     have h1:r < 45∨r=47∨(58≤r∧r≤64)∨(91≤r∧r≤94)∨r=96∨123≤r:=by
      simp [jz5] at hg;omega
     clear hg;rcases h1 with h1|h1|h1|h1|h1|h1
     ·have q1:decide ((97:Int)≤(r:Int))=false:=by simp;omega
      have q2:decide ((r:Int)≤122)=true:=by simp;omega
      have q3:decide ((65:Int)≤(r:Int))=false:=by simp;omega
      have q4:decide ((r:Int)≤90)=true:=by simp;omega
      have q5:decide ((48:Int)≤(r:Int))=false:=by simp;omega
      have q6:decide ((r:Int)≤57)=true:=by simp;omega
      have q7:((r:Int) != 45)=true:=by simp;omega
      have q8:((r:Int) != 95)=true:=by simp;omega
      have q9:((r:Int) != 46)=true:=by simp;omega
      clear h1;go_wp2;go_ret;exact ⟨by simp,jyN w _ _⟩
     ·have q1:decide ((97:Int)≤(r:Int))=false:=by simp;omega
      have q2:decide ((r:Int)≤122)=true:=by simp;omega
      have q3:decide ((65:Int)≤(r:Int))=false:=by simp;omega
      have q4:decide ((r:Int)≤90)=true:=by simp;omega
      have q5:decide ((48:Int)≤(r:Int))=false:=by simp;omega
      have q6:decide ((r:Int)≤57)=true:=by simp;omega
      have q7:((r:Int) != 45)=true:=by simp;omega
      have q8:((r:Int) != 95)=true:=by simp;omega
      have q9:((r:Int) != 46)=true:=by simp;omega
      clear h1;go_wp2;go_ret;exact ⟨by simp,jyN w _ _⟩
     ·have q1:decide ((97:Int)≤(r:Int))=false:=by simp;omega
      have q2:decide ((r:Int)≤122)=true:=by simp;omega
      have q3:decide ((65:Int)≤(r:Int))=false:=by simp;omega
      have q4:decide ((r:Int)≤90)=true:=by simp;omega
      have q5:decide ((48:Int)≤(r:Int))=true:=by simp;omega
      have q6:decide ((r:Int)≤57)=false:=by simp;omega
      have q7:((r:Int) != 45)=true:=by simp;omega
      have q8:((r:Int) != 95)=true:=by simp;omega
      have q9:((r:Int) != 46)=true:=by simp;omega
      clear h1;go_wp2;go_ret;exact ⟨by simp,jyN w _ _⟩
     ·have q1:decide ((97:Int)≤(r:Int))=false:=by simp;omega
      have q2:decide ((r:Int)≤122)=true:=by simp;omega
      have q3:decide ((65:Int)≤(r:Int))=true:=by simp;omega
      have q4:decide ((r:Int)≤90)=false:=by simp;omega
      have q5:decide ((48:Int)≤(r:Int))=true:=by simp;omega
      have q6:decide ((r:Int)≤57)=false:=by simp;omega
      have q7:((r:Int) != 45)=true:=by simp;omega
      have q8:((r:Int) != 95)=true:=by simp;omega
      have q9:((r:Int) != 46)=true:=by simp;omega
      clear h1;go_wp2;go_ret;exact ⟨by simp,jyN w _ _⟩
     ·have q1:decide ((97:Int)≤(r:Int))=false:=by simp;omega
      have q2:decide ((r:Int)≤122)=true:=by simp;omega
      have q3:decide ((65:Int)≤(r:Int))=true:=by simp;omega
      have q4:decide ((r:Int)≤90)=false:=by simp;omega
      have q5:decide ((48:Int)≤(r:Int))=true:=by simp;omega
      have q6:decide ((r:Int)≤57)=false:=by simp;omega
      have q7:((r:Int) != 45)=true:=by simp;omega
      have q8:((r:Int) != 95)=true:=by simp;omega
      have q9:((r:Int) != 46)=true:=by simp;omega
      clear h1;go_wp2;go_ret;exact ⟨by simp,jyN w _ _⟩
     ·have q1:decide ((97:Int)≤(r:Int))=true:=by simp;omega
      have q2:decide ((r:Int)≤122)=false:=by simp;omega
      have q3:decide ((65:Int)≤(r:Int))=true:=by simp;omega
      have q4:decide ((r:Int)≤90)=false:=by simp;omega
      have q5:decide ((48:Int)≤(r:Int))=true:=by simp;omega
      have q6:decide ((r:Int)≤57)=false:=by simp;omega
      have q7:((r:Int) != 45)=true:=by simp;omega
      have q8:((r:Int) != 95)=true:=by simp;omega
      have q9:((r:Int) != 46)=true:=by simp;omega
      clear h1;go_wp2;go_ret;exact ⟨by simp,jyN w _ _⟩
  ·have hnx:∀ty,(Instr.next (.pointer (some ⟨w.heap.size,0,none⟩)) true ty).run prog (w.iter ⟨l.toArray⟩ pos)=_:=fun ty=>run_next_end w ⟨l.toArray⟩ pos ty (by simpa [ByteArray.size] using hp)
   have e:jyT l=(decide (1≤l.length) && decide (l.length≤24)):=by
    unfold jyT;rw [List.take_of_length_le (by omega)] at hall;rw [hall];simp
   have hR:R=(decide (1≤l.length) && decide (l.length≤24)):=by rw [←HR.o];exact e
   clear HR;subst hR;have q1:decide ((1:Int)≤(l.length:Int))=decide (1≤l.length):=by rw [decide_eq_decide];omega
   have q2:decide ((l.length:Int)≤24)=decide (l.length≤24):=by rw [decide_eq_decide];omega
   clear hp hall hle e;obtain ⟨b1,hb1⟩:∃b,decide (1≤l.length)=b:=⟨_,rfl⟩;obtain ⟨b2,hb2⟩:∃b,decide (l.length≤24)=b:=⟨_,rfl⟩;rw [hb1] at q1;rw [hb2] at q2;have HB:=qh (ai hb1 hb2);clear hb1 hb2;cases b1
   ·go_wp2;go_ret;exact ⟨by rw [HB.o.1,HB.o.2];simp,jyN w _ _⟩
   ·go_wp2;go_ret;exact ⟨by rw [HB.o.1,HB.o.2];simp,jyN w _ _⟩
theorem jyM {g:Bool} (hg:jyT l=g):Calls prog 115 #[bs l] w fun e w'=>e= .returned (.bool g)∧Below w.heap.size w w':=hg ▸ jAz
end

structure Iv (w:World) (A:Option Addr) (n:Nat) (zs:List Int):Prop where
 len:zs.length=n
 rng:∀z∈zs,R64 z
 at_:0 < n→∃b o,A=some ⟨b,o,none⟩∧b < w.heap.size∧∀j,j < n→w.cell? ⟨b,o+j,none⟩=some (.int .i64 (zs.getD j 0))
theorem Iv.below {w w':World} {A:Option Addr} {n:Nat} {zs:List Int} (h:Iv w A n zs) (hb:Below w.heap.size w w'):Iv w' A n zs:=
 ⟨h.len,h.rng,fun hn=>by
   obtain ⟨b,o,e,h1,h2⟩:=h.at_ hn
   exact ⟨b,o,e,Nat.lt_of_lt_of_le h1 hb.size,fun j hj=>by rw [hb.cell (p:=⟨b,o+j,none⟩) h1];exact h2 j hj⟩⟩

section
variable {w:World} {A:Option Addr} {n c:Nat} {ws:List Int}
end

section
variable {W:World} {p2 p3 p4:Nat} {bw ow n c:Nat} {ws:List Int} {t s:Int}
end
section
variable {W:World} {blk p2 p3 p4 bw ow m c cap:Nat} {ws:List Int} {t s:Int}
end


def jdV (zs:List Int):Array Value:=(zs.map (Value.int .i64)).toArray
theorem jfc {zs:List Int} {j:Nat} (h:j < zs.length):(jdV zs)[j]? =some (.int .i64 (zs.getD j 0)):=by
 simp [jdV,List.getD_eq_getElem?_getD,h]
theorem jgX (zs:List Int) (i:Nat) (z:Int):(jdV zs).setIfInBounds i (.int .i64 z)=jdV (zs.set i z):=by
 simp [jdV,List.map_set]
theorem jBo:(prog.info? 3).map (fun i=>(i.zero,i.size,i.bytes))=some (some (.int .i64 0),1,8):=by kernel_rfl
theorem jh3 (l:Nat):madeCells #[Value.int .i64 0] (l*1)=jdV (List.replicate l 0):=by
 apply Array.ext
 ·simp [madeCells,jdV]
 ·intro i h1 h2;simp [madeCells,jdV,Nat.mod_one]
theorem jgZ (l:Nat) (hl:l < 1099511627776) (W:World):
  (Instr.makeSlice 57 (.int .i64 (l:Int)) (.int .i64 (l:Int))).run prog W= .ok (.slice (some ⟨W.heap.size,0,none⟩) l l) (W.alloc (.cells (jdV (List.replicate l 0)) 3)):=by
 obtain ⟨i0,hi,hz0,hz1,hz2⟩:=info_parts jBo;have hr:=run_make (P:=prog) W 57 3 i0 (.int .i64 0) underlying57 hi hz0 .i64 .i64 (l:Int) (l:Int) (by omega) (by omega) (by rw [hz2];omega) (by omega);simp only [Int.toNat_natCast,hz1] at hr;rw [hr,show (Value.int IntKind.i64 0).cells= #[Value.int .i64 0] from rfl,jh3]

def jvw (f:Nat→Int) (n i:Nat):List Int:=(List.range n).map fun j=>if j < i then f j else 0
structure A1 (w wr:World) (b6 n c i:Nat) (A:Option Addr) (t s:Int) (q:Nat→Int):Prop where
 bO:Blk wr (b6+1) 3 (jdV (jvw q n i))
 bP:Blk wr (b6+1+1) 3 (jdV (jvw (fun j=>(j:Int)) n i))
 c2:wr.cell? ⟨w.heap.size,0,none⟩=some (.int .i64 t)
 c3:wr.cell? ⟨w.heap.size+1,0,none⟩=some (.slice A n c)
 c4:wr.cell? ⟨b6,0,none⟩=some (.int .i64 s)
 bel:Below w.heap.size w wr
 sz:w.heap.size+1 < b6

theorem jeC {α:Type} [Inhabited α] (enc:α→Value) (w:World) (blk off:Nat) (d:Array α) {g:Nat} (h:g≠blk):(Sort.putRow enc w blk off d).heap[g]? =w.heap[g]? :=by
 unfold Sort.putRow Sort.mapBlock;simp only [Array.getElem?_modify];rw [if_neg (Ne.symm h)]
theorem Blk.putRow {α:Type} [Inhabited α] {enc:α→Value} {w:World} {blk off g T:Nat} {cs:Array Value} {d:Array α} (h:Blk w g T cs) (hg:g≠blk):Blk (Sort.putRow enc w blk off d) g T cs:=by
 show (Sort.putRow enc w blk off d).heap[g]? =_
 rw [jeC _ _ _ _ _ hg];exact h
theorem jmn {α:Type} [Inhabited α] {enc:α→Value} {B:Nat} {a w:World} {blk off:Nat} {d:Array α} (h:Below B a w) (hb:B≤blk):Below B a (Sort.putRow enc w blk off d):=
 ⟨h.os,h.tape,h.output,by rw [Sort.size_putRow];exact h.size,fun k hk=>by
   rw [jeC _ _ _ _ _ (by omega)];exact h.block k hk⟩
def outs (t s:Int) (f:Nat→Int) (L:List Nat) (n j:Nat):List Int:=(List.range n).map (App.out t s f L j)
structure A2 (w wr V:World) (b6 n:Nat) (zs:List Int):Prop where
 bO:Blk wr (b6+1) 3 (jdV zs)
 bel:Below w.heap.size w wr
 pl:∀j,wr.cell? ⟨b6+1+1,j,none⟩=V.cell? ⟨b6+1+1,j,none⟩
 sz:w.heap.size+1 < b6
section
variable {w:World} {A:Option Addr} {n c:Nat} {ws:List Int} {t s:Int}
end

structure Sv (w:World) (A:Option Addr) (n:Nat) (ls:List (List UInt8)):Prop where
 len:ls.length=n
 at_:0 < n→∃b o,A=some ⟨b,o,none⟩∧b < w.heap.size∧∀j,j < n→w.cell? ⟨b,o+j,none⟩=some (bs (ls.getD j []))
theorem Sv.below {w w':World} {A:Option Addr} {n:Nat} {ls:List (List UInt8)} (h:Sv w A n ls) (hb:Below w.heap.size w w'):Sv w' A n ls:=
 ⟨h.len,fun hn=>by
   obtain ⟨b,o,e,h1,h2⟩:=h.at_ hn
   exact ⟨b,o,e,Nat.lt_of_lt_of_le h1 hb.size,fun j hj=>by rw [hb.cell (p:=⟨b,o+j,none⟩) h1];exact h2 j hj⟩⟩
theorem Sv.two (w:World) (t:TypeId) (k l:List UInt8):Sv (w.alloc (.cells #[bs k,bs l] t)) (some ⟨w.heap.size,0,none⟩) 2 [k,l]:=
 ⟨rfl,fun _=>⟨w.heap.size,0,rfl,by simp,fun j hj=>by
   have h:j=0∨j=1:=by omega
   rcases h with rfl|rfl <;> simp⟩⟩
def jar {α:Type} (f:α→Int):List α→Int
 | []=>0
 | x::r=>if f x=0 then jar f r else f x
theorem jd5 {α:Type} {d:α} {l:List α} {i:Nat} (h:i < l.length):l.drop i=l.getD i d::l.drop (i+1):=by
 rw [List.drop_eq_getElem_cons h,List.getD_eq_getElem?_getD,List.getElem?_eq_getElem h];rfl
theorem jed {α:Type} {f:α→Int} {x:α} {r:List α} (h:f x≠0):jar f (x::r)=f x:=by simp [jar,h]
theorem jf3 {α:Type} {f:α→Int} {x:α} {r:List α} (h:f x=0):jar f (x::r)=jar f r:=by simp [jar,h]

section
variable {w:World} {A:Option Addr} {n c:Nat} {ls:List (List UInt8)} {f:List UInt8→Int}
end

noncomputable def numQ (l:List UInt8):Rat:= @dite _ (∃x,IsNum l x) (Classical.propDecidable _) (fun h=>Classical.choose h) (fun _=>0)
theorem IsNum.numQ {l:List UInt8} {x:Rat} (h:IsNum l x):numQ l=x:=by
 have h1:∃x,IsNum l x:=⟨x,h⟩;unfold Proofs.YtdbaealhapgjaaaGreatDoor.numQ;rw [dif_pos h1];exact (Classical.choose_spec h1).inj h
theorem jjb {l:List UInt8} (h:chk l=0):IsNum l (numQ l):=by
 obtain ⟨x,hx⟩:=jjL.1 h;rw [hx.numQ];exact hx
noncomputable def mst (l:List UInt8):Int:=if chk l=0 then (if numQ l < 0∨100≤numQ l then 3 else 0) else chk l
theorem jln {w:World} {l:List UInt8} {k:Int} (hk:chk l=k) (hE:Env w) (hl:l.length < 4294967281):Calls prog 110 #[bs l] w fun e w'=>e= .returned (.int .i64 k)∧Below w.heap.size w w':=hk ▸ jnZ hE hl
theorem jg2 {w:World} {s t:Int} {A B:Option Addr} {n c m d:Nat} {x:Rat} {k:Int} (hk:sgn x.num=k) (h:RepF w s A n c t B m d x):Calls prog 111 #[fv s A n c t B m d] w fun e w'=>e= .returned (.int .i64 k)∧Below w.heap.size w w':=hk ▸ jlS h
theorem jgN {x:Rat}:x.num < 0↔x < 0:=by rw [Rat.lt_iff];simp
theorem jrr {k n:Nat} (h:k < 10^n):k≤B64^n:=Nat.le_of_lt (Nat.lt_of_lt_of_le h (Nat.pow_le_pow_left (by rw [ja3];omega) n))
theorem jeT (n:Nat):n < 10^(Go.Lib.decDigits n).length:=by
 have h:=Dig.val_lt (Go.Lib.decDigits n) (Dig.digits_dig n).1;rwa [Dig.val_digits] at h
theorem jqR {n k:Nat} (h:(Go.Lib.decDigits n).length≤k):n≤B64^k:=Nat.le_trans (jrr (jeT _)) (Nat.pow_le_pow_right ja6 h)
theorem juR {k:Nat} {x:Rat} (h1:(Go.Lib.decDigits x.num.natAbs).length≤k) (h2:(Go.Lib.decDigits x.den).length≤k):Sz k x:=⟨jqR h1,jqR h2⟩
theorem IsNum.sz {l:List UInt8} {x:Rat} (h:IsNum l x):Sz 600 x:=juR h.num h.den
theorem jej {a:Int} (h:R64 a):Sz 1 (a:Rat):=Sz.int (by rw [Nat.pow_one,ja3];have:=h.1;have:=h.2;omega)
theorem jes {w:World} {a:Int} {x:Rat} (hx:(a:Rat)=x) (h:R64 a):Calls prog 40 #[.int .i64 a] w (jaa x w):=hx ▸ jvd h

section
variable {w:World} {l:List UInt8} {x:Rat}
theorem jBc {k:Int} (hE:Env w) (hl:l.length < 4294967281) (hk:chk l=k) (h0:k≠0):Calls prog 49 #[bs l] w fun e w'=>e= .returned (.int .i64 k)∧Below w.heap.size w w':=by
 have HE:=qh hE;have HL:=qh hl;have HK:=qh hk;have q1:(k != 0)=true:=by rw [bne_iff_ne];exact h0
 clear hE hl hk h0;go_enter func49,ntmps49;go_wp2_with (go_at_call 110;(with_reducible refine mo0 (jln HK.o (HE.o.below bi) HL.o) fun w1 hb1 hc1 hf1 _=> ?_))
 go_ret;exact ⟨rfl,bi⟩
theorem jAP (hE:Env w) (hl:l.length < 4294967281) (hx:IsNum l x) (h0:x < 0):Calls prog 49 #[bs l] w fun e w'=>e= .returned (.int .i64 3)∧Below w.heap.size w w':=by
 have HE:=qh hE;have HL:=qh hl;have HK:=qh (jjL.2 ⟨x,hx⟩);have HX:=qh hx;have HS:=qh (show sgn x.num= -1 by unfold sgn;rw [if_pos (jgN.2 h0)]);clear hE hl hx h0;go_enter func49,ntmps49;go_wp2_with (first|(go_at_call 110;(with_reducible refine mo0 (jln HK.o (HE.o.below bi) HL.o) fun w1 hb1 hc1 hf1 _=> ?_))|(go_at_call 36;(with_reducible refine mf0 (jaz HX.o (HE.o.below bi)) fun w2 s2 A2 n2 c2 t2 B2 m2 d2 hr2 hq2 hb2 hc2 hf2 _=> ?_)))
 refine ja1 (fun w'=>Below (w2.alloc (.cells #[.int .i64 s2, .slice A2 n2 c2, .int .i64 t2, .slice B2 m2 d2] 82)).heap.size (w2.alloc (.cells #[.int .i64 s2, .slice A2 n2 c2, .int .i64 t2, .slice B2 m2 d2] 82)) w') [] (by kernel_rfl) ?_;refine tb 0 (.agg #[.int .i64 s2, .slice A2 n2 c2, .int .i64 t2, .slice B2 m2 d2]) [1] rfl (by kernel_rfl) pk rfl (by intros;go_simp) bq0 ?_;simp only [ppq];refine rd1 1 (by kernel_rfl) rfl (fun K hK=> ?_);go_simp;go_wp2_with (go_at_call 111;(with_reducible refine mo0 (jg2 HS.o (by constructor <;> (with_reducible repeat first|assumption|apply rZ|refine rP ?_ rfl (by simp [go_sem,hc2])))) fun w3 hb3 hc3 hf3 _=> ?_))
 have sS3:=qh (bst bq0 hb3);refine hK.out _ _ (fun _=>sS3.o) ?_;clear hK K;refine rd1 2 (by kernel_rfl) rfl (fun K hK=> ?_);go_simp;refine hK.out _ _ (fun _=>bi) ?_;clear hK K;refine rd1 3 (by kernel_rfl) rfl (fun K hK=> ?_);go_simp;refine hK.out _ _ (fun _=>bi) ?_;clear hK K;refine ts 4 [] rfl (by kernel_rfl) pk (by rfl) sS3.o ?_;simp only [ppq];refine rd1 5 (by kernel_rfl) rfl (fun K hK=> ?_);go_simp;refine hK.out _ _ (fun _=>bi) ?_;clear hK K;refine rd1 6 (by kernel_rfl) rfl (fun K hK=> ?_);go_simp;refine hK.out _ _ (fun _=>bi) ?_;clear hK K;refine rd1 7 (by kernel_rfl) rfl (fun K hK=> ?_);go_simp;refine hK.out _ _ (fun _=>bi) ?_;clear hK K;refine rd1 8 (by kernel_rfl) rfl (fun K hK=> ?_);go_simp;refine hK.out _ _ (fun _=>bi) ?_;clear hK K;refine ja2 (by kernel_rfl) ?_ _;go_wp2;go_ret;exact ⟨rfl,bi⟩

theorem jBl {b:Bool} (hE:Env w) (hl:l.length < 4294967281) (hx:IsNum l x) (h0:0≤x) (hb:decide (0≤Rq.cmpQ x 100)=b):Calls prog 49 #[bs l] w fun e w'=>e= .returned (.int .i64 (if b then 3 else 0))∧Below w.heap.size w w':=by
 have HE:=qh hE;have HL:=qh hl;have HK:=qh (jjL.2 ⟨x,hx⟩);have HX:=qh hx;obtain ⟨k,hk⟩:∃k,sgn x.num=k:=⟨_,rfl⟩
 have hk0:0≤k:=by
  rw [←hk];unfold sgn;have:¬x.num < 0:=fun h=>Rat.not_lt.2 h0 (jgN.1 h)
  rw [if_neg this];split <;> omega
 have q1:decide (k < 0)=false:=by simp;omega
 have HS:=qh hk;obtain ⟨j,hj⟩:∃j,Rq.cmpQ x 100=j:=⟨_,rfl⟩;have HJ:=qh hj;rw [hj] at hb;have HF:=qh (show ((100:Int):Rat)=100 from rfl);have HR:=qh (show R64 100 by constructor <;> decide);have H1:=qh hx.sz;have H2:=qh (jej HR.o);rw [HF.o] at H2;clear hE hl hx h0 hk hj hk0;cases b
 all_goals
  go_enter func49,ntmps49;go_wp2_with (first|(go_at_call 110;(with_reducible refine mo0 (jln HK.o (HE.o.below bi) HL.o) fun w1 hb1 hc1 hf1 _=> ?_))|(go_at_call 36;(with_reducible refine mf0 (jaz HX.o (HE.o.below bi)) fun w2 s2 A2 n2 c2 t2 B2 m2 d2 hr2 hq2 hb2 hc2 hf2 _=> ?_)))
  refine ja1 (fun w'=>Below (w2.alloc (.cells #[.int .i64 s2, .slice A2 n2 c2, .int .i64 t2, .slice B2 m2 d2] 82)).heap.size (w2.alloc (.cells #[.int .i64 s2, .slice A2 n2 c2, .int .i64 t2, .slice B2 m2 d2] 82)) w') [] (by kernel_rfl) ?_;refine tb 0 (.agg #[.int .i64 s2, .slice A2 n2 c2, .int .i64 t2, .slice B2 m2 d2]) [1] rfl (by kernel_rfl) pk rfl (by intros;go_simp) bq0 ?_;simp only [ppq];refine rd1 1 (by kernel_rfl) rfl (fun K hK=> ?_);go_simp;go_wp2_with (go_at_call 111;(with_reducible refine mo0 (jg2 HS.o (by constructor <;> (with_reducible repeat first|assumption|apply rZ|refine rP ?_ rfl (by simp [go_sem,hc2])))) fun w3 hb3 hc3 hf3 _=> ?_))
  have sS3:=qh (bst bq0 hb3);refine hK.out _ _ (fun _=>sS3.o) ?_;clear hK K;refine rd1 2 (by kernel_rfl) rfl (fun K hK=> ?_);go_simp;refine hK.out _ _ (fun _=>bi) ?_;clear hK K;refine rd1 3 (by kernel_rfl) rfl (fun K hK=> ?_);go_simp;refine hK.out _ _ (fun _=>bi) ?_;clear hK K;have hy3:w2.heap.size < w3.heap.size:=by have:=hb3.size;simp at this;omega
  refine tb 4 (.agg #[.int .i64 s2, .slice A2 n2 c2, .int .i64 t2, .slice B2 m2 d2]) [6] rfl (by kernel_rfl) pk rfl (by intros;go_simp) sS3.o ?_;simp only [ppq];refine rd1 5 (by kernel_rfl) rfl (fun K hK=> ?_);go_simp;go_wp2_with (go_at_call 40;(with_reducible refine mf0 (jes HF.o HR.o) fun w4 s4 A4 n4 c4 t4 B4 m4 d4 hr4 hq4 hb4 hc4 hf4 _=> ?_))
  have sS4:=qh (bst sS3.o hb4);refine hK.out _ _ (fun _=>sS4.o) ?_;clear hK K;refine rd1 6 (by kernel_rfl) rfl (fun K hK=> ?_);go_simp;go_wp2_with (go_at_call 92;(with_reducible refine mo0 (jd7 600 1 HJ.o (by constructor <;> (with_reducible repeat first|assumption|apply rZ|refine rP ?_ rfl (by simp [go_sem,hc2]))) ⟨hr4,hq4⟩ H1.o H2.o (by omega)) fun w5 hb5 hc5 hf5 _=> ?_))
  have sS5:=qh (bst sS4.o hb5);refine hK.out _ _ (fun _=>sS5.o) ?_;clear hK K;refine rd1 7 (by kernel_rfl) rfl (fun K hK=> ?_);go_simp;refine hK.out _ _ (fun _=>bi) ?_;clear hK K;refine rd1 8 (by kernel_rfl) rfl (fun K hK=> ?_);go_simp;refine hK.out _ _ (fun _=>bi) ?_;clear hK K;refine ja2 (by kernel_rfl) ?_ _;go_wp2;go_ret;exact ⟨rfl,bi⟩
end

theorem jA8 {x:Rat}:decide (0≤Rq.cmpQ x 100)=decide (100≤x):=by
 rw [decide_eq_decide];constructor
 ·intro h;exact Rat.not_lt.1 (fun h1=>by have:=Rq.cmp_neg.2 h1;omega)
 ·intro h;rcases Int.lt_or_le (Rq.cmpQ x 100) 0 with h1|h1
  ·exact absurd h (Rat.not_le.2 (Rq.cmp_neg.1 h1))
  ·exact h1
section
variable {w:World} {l a b:List UInt8} {x y:Rat}
theorem jAX (hE:Env w) (hl:l.length < 4294967281):Calls prog 49 #[bs l] w fun e w'=>e= .returned (.int .i64 (mst l))∧Below w.heap.size w w':=by
 unfold mst;by_cases h:chk l=0
 ·rw [if_pos h];have hx:=jjb h;generalize numQ l=x at hx;by_cases h0:x < 0
  ·rw [if_pos (Or.inl h0)];exact jAP hE hl hx h0
  ·have:=jBl hE hl hx (Rat.not_lt.1 h0) jA8;by_cases h1:100≤x
   ·rw [if_pos (Or.inr h1)];simpa [h1] using this
   ·rw [if_neg (fun h2=>h2.elim h0 h1)];simpa [h1] using this
 ·rw [if_neg h];exact jBc hE hl rfl h
structure IsMoist (l:List UInt8) (x:Rat):Prop where
 num:IsNum l x
 low:0≤x
 high:x < 100
theorem IsMoist.mst {l:List UInt8} {x:Rat} (h:IsMoist l x):mst l=0:=by
 unfold Proofs.YtdbaealhapgjaaaGreatDoor.mst;rw [if_pos (jjL.2 ⟨x,h.num⟩),h.num.numQ,if_neg];intro h1;exact h1.elim (fun h2=>Rat.not_lt.2 h.low h2) (fun h2=>Rat.not_lt.2 h2 h.high)
theorem jeP {w:World} {s t u v:Int} {A B C D:Option Addr} {n c m d i k j l:Nat} {x y z:Rat} (p q:Nat) (hz:x - y=z) (h:RepF w s A n c t B m d x) (h':RepF w u C i k v D j l y) (hs:Sz p x) (hs':Sz q y) (hpq:p+q+1 < 100000):
  Calls prog 42 #[fv s A n c t B m d,fv u C i k v D j l] w (jaa z w):=hz ▸ jow h h' hs hs' hpq
theorem jeB {w:World} {s t u v:Int} {A B C D:Option Addr} {n c m d i k j l:Nat} {x y z:Rat} (p q:Nat) (hz:x / y=z) (h:RepF w s A n c t B m d x) (h':RepF w u C i k v D j l y) (hs:Sz p x) (hs':Sz q y) (hpq:p+q < 100000) (hy:y≠0):
  Calls prog 43 #[fv s A n c t B m d,fv u C i k v D j l] w (jaa z w):=hz ▸ jqo h h' hs hs' hpq hy
theorem jBP {z:Rat} (hE:Env w) (hx:IsNum l x) (hz:100 - x=z):Calls prog 51 #[bs l] w (jaa z w):=by
 have HE:=qh hE;have HX:=qh hx;have HF:=qh (show ((100:Int):Rat)=100 from rfl);have HR:=qh (show R64 100 by constructor <;> decide);have H1:=qh hx.sz;have H2:=qh (jej HR.o);rw [HF.o] at H2;have HZ:=qh hz;clear hE hx hz;go_enter func51,ntmps51
 go_wp2_with (first
  | (go_at_call 40;(with_reducible refine mf1 w (jes HF.o HR.o) (by go_size) fun w1 s1 A1 n1 c1 t1 B1 m1 d1 hr1 hq1 hb1 hc1 hf1 z1_0 _=> ?_))
  | (go_at_call 36;(with_reducible refine mf1 w (jaz HX.o (HE.o.below bi)) (by go_size) fun w2 s2 A2 n2 c2 t2 B2 m2 d2 hr2 hq2 hb2 hc2 hf2 z2_0 _=> ?_))
  | (go_at_call 42;(with_reducible refine mf1 w (jeP 1 600 HZ.o (by constructor <;> (with_reducible repeat first|assumption|apply rZ|refine rP ?_ rfl (by simp [go_sem,hc2]))) ⟨hr2,hq2⟩ H2.o H1.o (by omega)) (by go_size) fun w3 s3 A3 n3 c3 t3 B3 m3 d3 hr3 hq3 hb3 hc3 hf3 z3_0 _=> ?_)))
 exact bodyPost_ret (v:= .agg #[.int .i64 (s3), .slice (A3) (n3) (c3), .int .i64 (t3), .slice (B3) (m3) (d3)]) (by simp [results,results51,go_sem,hc3,z2_0,hc2,z1_0,hc1]) rfl (jan rfl (by constructor <;> (with_reducible repeat first|assumption|apply rZ|refine rP ?_ rfl (by simp [go_sem,hc3,z2_0,hc2,z1_0,hc1]))) bi)

theorem jlX {y:Rat} (h:y < 100):100 - y≠0:=fun e=>by
 have h1:y=100:=by
  have:=congrArg (· +y) e;simp only [Rat.sub_eq_add_neg,Rat.add_assoc,Rat.neg_add_cancel,Rat.add_zero,Rat.zero_add] at this;exact this.symm
 rw [h1] at h;exact Rat.lt_irrefl h
end

abbrev sp (a b:List UInt8):Value:= .agg #[bs a,bs b]
section
variable {w:World} {a b:List UInt8} {x y:Rat}
end
section
variable {w:World} {sx tx sy ty:Int} {Ax Bx Ay By:Option Addr} {nx cx mx dx ny cy my dy:Nat} {x y:Rat}
theorem jzj {w:World} {s t:Int} {A B:Option Addr} {n c m d:Nat} {x:Rat} (h:RepF w s A n c t B m d x) (hE:Env w) (hS:StrQ x) (hg:je3 x=false):Calls prog 38 #[fv s A n c t B m d] w fun e w'=>e= .returned (bs (tq x))∧Below w.heap.size w w':=jgy h hE hS (DigQ.of hg)
end

section
variable {w:World} {a b:List UInt8} {x y:Rat}
end
structure Pv (w:World) (A:Option Addr) (n:Nat) (ls:List (List UInt8×List UInt8)):Prop where
 len:ls.length=n
 at_:0 < n→∃b o,A=some ⟨b,o,none⟩∧b < w.heap.size∧∀j,j < n→w.cell? ⟨b,o+j*2,none⟩=some (bs (ls.getD j ([],[])).1)∧w.cell? ⟨b,o+j*2+1,none⟩=some (bs (ls.getD j ([],[])).2)
theorem Pv.below {w w':World} {A:Option Addr} {n:Nat} {ls:List (List UInt8×List UInt8)} (h:Pv w A n ls) (hb:Below w.heap.size w w'):Pv w' A n ls:=
 ⟨h.len,fun hn=>by
   obtain ⟨b,o,e,h1,h2⟩:=h.at_ hn
   exact ⟨b,o,e,Nat.lt_of_lt_of_le h1 hb.size,fun j hj=>by rw [hb.cell (p:=⟨b,o+j*2,none⟩) h1,hb.cell (p:=⟨b,o+j*2+1,none⟩) h1];exact h2 j hj⟩⟩
section
variable {w:World} {A:Option Addr} {n c:Nat} {ls:List (List UInt8×List UInt8)} {f:List UInt8×List UInt8→Int}
end
end Go.Proofs.YtdbaealhapgjaaaGreatDoor
namespace Go.Proofs.YtdbaealhapgjaaaGreatDoor
open Go Go.RowKit Go.Sort Go.Proofs.Tryz

theorem jdP (g j:Nat):(⟨g,0,none⟩:Addr).add j=⟨g,j,none⟩:=by unfold Addr.add;split <;> simp_all
def shs (ps:List (List UInt8×List UInt8)):List Value:=ps.flatMap fun p=> [bs p.1,bs p.2]
theorem jwL (a b:List (List UInt8×List UInt8)):shs (a++b)=shs a++shs b:=by simp [shs]
theorem jyq:∀(a:List (List UInt8×List UInt8)) (j k:Nat),j < a.length→k < 2→(shs a)[j*2+k]? =(shs [a.getD j ([],[])])[k]?
 | [],j,k,h,_=>absurd h (by simp)
 | q::r,0,k,_,hk=>by
   rw [show shs (q::r)=shs [q]++shs r from jwL [q] r,List.getElem?_append_left (by simp [shs];omega)];simp
 | q::r,j+1,k,h,hk=>by
   rw [show shs (q::r)=shs [q]++shs r from jwL [q] r,List.getElem?_append_right (by simp [shs];omega)];have e:(j+1)*2+k - (shs [q]).length=j*2+k:=by simp [shs];omega
   rw [e,jyq r j k (by simpa using h) hk];simp
abbrev jzd (w:World) (base:Nat) (v:Value) (n:Nat) (ps:List (List UInt8×List UInt8)):Prop:=w.ownsRow base 75 2 v n (shs ps)
theorem jzd.pv {w:World} {base n:Nat} {v:Value} {ps:List (List UInt8×List UInt8)} (h:jzd w base v n ps) (hl:ps.length=n) (h0:0 < n):∃A c,v= .slice A n c∧Pv w A n ps:=by
 rcases h.2 with ⟨rfl,h1⟩|⟨g,cap,cur,rfl,hb,hg,hnc,hcm,hcs,ht⟩
 ·omega
 ·refine ⟨some ⟨g,0,none⟩,cap,rfl,hl,fun _=>⟨g,0,rfl,(Array.getElem?_eq_some_iff.1 hg).1,fun j hj=> ?_⟩⟩;have hc:=World.ownsRow.cells h (g:=g) rfl
  have c (k:Nat) (hk:k < 2) (u:Value) (hu:(shs [ps.getD j ([],[])])[k]? =some u):w.cell? ⟨g,0+j*2+k,none⟩=some u:=by
   have:=hc (j*2+k) u (by rw [jyq ps j k (by omega) hk,hu]);rw [jdP] at this;rw [Nat.zero_add];exact this
  exact ⟨c 0 (by omega) _ rfl,c 1 (by omega) _ rfl⟩
theorem je8 {w w':World} (h:Below w.heap.size w w') (row:Option Nat):w.grownBy w' row:=⟨h.os,h.tape,h.output,h.size,fun k hk _=>h.block k hk⟩
theorem jzd.below {w w':World} {base n:Nat} {v:Value} {ps:List (List UInt8×List UInt8)} (h:jzd w base v n ps) (hb:Below w.heap.size w w'):jzd w' base v n ps:=
 World.ownsRow.kept h (je8 hb none) (by cases hv:v.ownBlock <;> simp)
theorem jA3:(prog.info? 75).map (fun i=>(i.zero,i.size,i.bytes))=some (some (.agg #[.string ByteArray.empty, .string ByteArray.empty]),2,32):=by kernel_rfl
theorem jAH {w:World} {base n b c:Nat} {v:Value} {ps:List (List UInt8×List UInt8)} {x:List UInt8×List UInt8} (h:jzd w base v n ps) (hn:n≤100000) (hb:base≤w.heap.size)
  (h0:w.cell? ⟨b,0,none⟩=some (bs x.1)) (h1:w.cell? ⟨b,1,none⟩=some (bs x.2)):
  ∃v' w',(Builtin.append_ #[35,35] 35 #[v, .slice (some ⟨b,0,none⟩) 1 c]).run prog w= .ok v' w'∧jzd w' base v' (n+1) (ps++[x])∧w.grownBy w' v.ownBlock∧(v'.ownBlock=v.ownBlock∨v'.ownBlock=some w.heap.size):=by
 obtain ⟨i,hi,hz0,hz1,hz2⟩:=info_parts jA3
 obtain ⟨v',w',hr,k1,k2,_,k3⟩:=run_append_own_at (P:=prog) w base 35 35 75 i _ 2 32 underlying35 hi hz0 hz1 hz2 rfl (by decide) v n (shs ps) h ⟨b,0,none⟩ 1 c (shs [x]) (by simp [shs])
  (by
    intro j u hu;rw [jdP]
    match j,hu with
    | 0,hu=>simp [shs] at hu;subst hu;exact h0
    | 1,hu=>simp [shs] at hu;subst hu;exact h1
    | j+2,hu=>simp [shs] at hu)
  (by intro u hu;simp [shs] at hu;rcases hu with rfl|rfl <;> rfl)
  (by simp only [maxLen];omega) (by omega) hb
 exact ⟨v',w',hr,by rw [jzd,jwL];exact k1,k2,k3⟩
theorem jiI {P:Program} {o:Oper} {a:Act} {K:Act→World→Prop} {Q:Exit→Act→World→Prop} {w w':World} {v z v':Value} {t:TypeId} (s y:Operand)
  (ho:o.op= .call { callee:= .builtin .append,args:= #[s,y],argTypes:= #[t,t] }) (hs:a.eval s=v) (hy:a.eval y=z)
  (hr:(Builtin.append_ #[t,t] o.type #[v,z]).run P w= .ok v' w') (hK:K (a.put o.dst v') w'):o.wp P a w K Q:=by
 unfold Oper.wp execOp;simp only [ho,resolve,invoke,builtin,Sem.run_bind,Sem.run_pure,Result.andThen_ok,List.map_toArray,List.map_cons,List.map_nil,hs,hy,hr];exact hK
theorem jz6 {ops:Array Oper} {rest:List Oper} {o:Oper} {a:Act} {Q:Exit→Act→World→Prop} {w:World} {base n b c:Nat} {v:Value} {ps:List (List UInt8×List UInt8)} {x:List UInt8×List UInt8} (hg:o.guard=none) (s y:Operand)
  (ho:o.op= .call { callee:= .builtin .append,args:= #[s,y],argTypes:= #[35,35] }) (ht:o.type=35) (hs:a.eval s=v) (hy:a.eval y= .slice (some ⟨b,0,none⟩) 1 c)
  (h:jzd w base v n ps) (hn:n≤100000) (hb:base≤w.heap.size) (h0:w.cell? ⟨b,0,none⟩=some (bs x.1)) (h1:w.cell? ⟨b,1,none⟩=some (bs x.2))
  (hK:∀v' w',jzd w' base v' (n+1) (ps++[x])→w.grownBy w' v.ownBlock→(v'.ownBlock=v.ownBlock∨v'.ownBlock=some w.heap.size)→wpList prog ops Q rest (a.put o.dst v') w'):wpList prog ops Q (o::rest) a w:=by
 obtain ⟨v',w',hr,k1,k2,k3⟩:=jAH h hn hb h0 h1;refine wpList_plain hg fun K' hK'=> ?_
 exact jiI s y ho hs hy (by rw [ht];exact hr) (hK' _ _ (hK v' w' k1 k2 k3))
theorem jzd.slice {w:World} {base n:Nat} {v:Value} {ps:List (List UInt8×List UInt8)} (h:jzd w base v n ps):∃A c,v= .slice A n c:=by
 rcases h.2 with ⟨rfl,h1⟩|⟨g,cap,cur,rfl,_⟩
 ·exact ⟨none,0,by rw [h1]⟩
 ·exact ⟨_,_,rfl⟩
theorem jz3 {ops:Array Oper} {rest:List Oper} {o:Oper} {a:Act} {Q:Exit→Act→World→Prop} {w:World} {base n b c:Nat} {v:Value} {ps:List (List UInt8×List UInt8)} {x:List UInt8×List UInt8} (hg:o.guard=none) (s y:Operand)
  (ho:o.op= .call { callee:= .builtin .append,args:= #[s,y],argTypes:= #[35,35] }) (ht:o.type=35) (hs:a.eval s=v) (hy:a.eval y= .slice (some ⟨b,0,none⟩) 1 c)
  (h:jzd w base v n ps) (hn:n≤100000) (hb:base≤w.heap.size) (h0:w.cell? ⟨b,0,none⟩=some (bs x.1)) (h1:w.cell? ⟨b,1,none⟩=some (bs x.2))
  (hK:∀A' c' w',jzd w' base (.slice A' (n+1) c') (n+1) (ps++[x])→w.grownBy w' v.ownBlock→((Value.slice A' (n+1) c').ownBlock=v.ownBlock∨(Value.slice A' (n+1) c').ownBlock=some w.heap.size)→wpList prog ops Q rest (a.put o.dst (.slice A' (n+1) c')) w'):wpList prog ops Q (o::rest) a w:=
 jz6 hg s y ho ht hs hy h hn hb h0 h1 (fun v' w' k1 k2 k3=>by
  obtain ⟨A',c',rfl⟩:=k1.slice
  exact hK A' c' w' k1 k2 k3)
end Go.Proofs.YtdbaealhapgjaaaGreatDoor
namespace Go.Proofs.YtdbaealhapgjaaaGreatDoor
open Go Go.RowKit

structure FAt (w:World) (b o:Nat) (x:Rat):Prop where
 at_:∃s A n c t B m d,w.cell? ⟨b,o,none⟩=some (.int .i64 s)∧w.cell? ⟨b,o+1,none⟩=some (.slice A n c)∧w.cell? ⟨b,o+2,none⟩=some (.int .i64 t)∧w.cell? ⟨b,o+3,none⟩=some (.slice B m d)∧RepF w s A n c t B m d x
theorem FAt.below {w w':World} {b o:Nat} {x:Rat} (h:FAt w b o x) (hb:Below w.heap.size w w'):FAt w' b o x:=by
 obtain ⟨s,A,n,c,t,B,m,d,h1,h2,h3,h4,h5⟩:=h.at_;exact ⟨⟨s,A,n,c,t,B,m,d,ja9 hb h1,ja9 hb h2,ja9 hb h3,ja9 hb h4,h5.below hb⟩⟩
section
variable {w:World} {A:Option Addr} {n c p:Nat} {qs:List Rat}
end


structure SmallQ (x:Rat):Prop where
 lo: -9223372036854775808 < x.num
 hi:x.num < 9223372036854775808
 den:x.den < 9223372036854775808
theorem Rep.is_small {w:World} {s z:Int} {A:Option Addr} {n c:Nat} (h:Rep w s A n c z) (h0: -9223372036854775808 < z) (h1:z < 9223372036854775808):s=z∧A=none∧n=0∧c=0:=by
 cases h with
 | small _ _ _=>exact ⟨rfl,rfl,rfl,rfl⟩
 | plus _ _ _ ds h=>have:=h.big;omega
 | minus _ _ _ ds h=>have:=h.big;omega
abbrev fq (x:Rat):Value:=fv x.num none 0 0 ((x.den:Nat):Int) none 0 0
theorem SmallQ.rep {x:Rat} (h:SmallQ x) (w:World):RepF w x.num none 0 0 ((x.den:Nat):Int) none 0 0 x:=
 ⟨.small _ (by have:=h.lo;omega) h.hi, .small _ (by omega) (by have:=h.den;omega)⟩
theorem SmallQ.post {x:Rat} (hs:SmallQ x) {w w':World} {e:Ending} (h:jaa x w e w'):e= .returned (fq x)∧Below w.heap.size w w':=by
 obtain ⟨s,A,n,c,t,B,m,d,rfl,⟨h1,h2⟩,hb⟩:=h;obtain ⟨rfl,rfl,rfl,rfl⟩:=h1.is_small hs.lo hs.hi;obtain ⟨rfl,rfl,rfl,rfl⟩:=h2.is_small (by omega) (by have:=hs.den;omega);exact ⟨rfl,hb⟩
theorem SmallQ.sz {x:Rat} (h:SmallQ x):Sz 1 x:=⟨by rw [Nat.pow_one,ja3];have:=h.lo;have:=h.hi;omega,by rw [Nat.pow_one,ja3];have:=h.den;omega⟩
theorem jab {w w':World} {base:Nat} {row:Option Nat} (h:w.grownBy w' row) (hb:base≤w.heap.size) (hr:∀k,row=some k→base≤k):Below base w w':=
 ⟨h.os,h.tape,h.output,h.size,fun k hk=>h.block k (Nat.lt_of_lt_of_le hk hb) (fun e=>by have:=hr k e.symm;omega)⟩

def NoU (w:World) (g:Nat):Prop:=∃cur t f,w.heap[g]? =some (.cells cur t f)∧∀u∈cur.toList,∀z,u≠ .int .u64 z
theorem NoU.cell {w:World} {g o:Nat} {z:Int} (h:NoU w g):w.cell? ⟨g,o,none⟩≠some (.int .u64 z):=by
 obtain ⟨cur,t,f,h1,h2⟩:=h;rw [cell_of_row w g o cur t f h1];intro e;exact h2 _ (by have:=Array.mem_of_getElem? e;simpa using this) z rfl
theorem NoU.kept {w w':World} {g:Nat} (h:NoU w g) (e:w'.heap[g]? =w.heap[g]?):NoU w' g:=by
 obtain ⟨cur,t,f,h1,h2⟩:=h;exact ⟨cur,t,f,e.trans h1,h2⟩
theorem Rep.grown {w w':World} {s z:Int} {A:Option Addr} {n c:Nat} {row:Option Nat} (h:Rep w s A n c z) (hg:w.grownBy w' row) (hr:∀g,row=some g→NoU w g):Rep w' s A n c z:=by
 have key {ds:List Nat} (hb:Big w A n c ds):Big w' A n c ds:=⟨⟨hb.wd.len,hb.wd.dig,hb.wd.big,fun hn=>by
  obtain ⟨b,o,e,hl,hc⟩:=hb.wd.at_ hn
  have hne:some b≠row:=fun e2=>by
   have:=(hr b e2.symm).cell (o:=o+0) (z:=((dg ds 0:Nat):Int));exact this (hc 0 hn)
  exact ⟨b,o,e,Nat.lt_of_lt_of_le hl hg.size,fun j hj=>hg.cell (hc j hj) hne⟩⟩,hb.trim,hb.cap,hb.lim,hb.big⟩
 cases h with
 | small _ h0 h1=>exact .small _ h0 h1
 | plus _ _ _ ds h=>exact .plus _ _ _ ds (key h)
 | minus _ _ _ ds h=>exact .minus _ _ _ ds (key h)
end Go.Proofs.YtdbaealhapgjaaaGreatDoor
