/- Parts. -/
import Derived.Test.YtfagcpcikjlboaaGreatDoorFfG
import Derived.Laws.RangeAny
import Derived.Shelf.SlSortCmp.Insertion1
import Derived.Maps.AppendAt
import Derived.Sort.KeysCollected
set_option linter.all false
set_option maxRecDepth 100000
set_option maxHeartbeats 8000000
namespace Go.Proofs.YtfagcpcikjlboaaGreatDoor
open Go Go.RowKit Go.Proofs.Tryz

def jz8 (n:Nat):Bool:=(decide (97≤n) && decide (n≤122)) || (decide (65≤n) && decide (n≤90)) || (decide (48≤n) && decide (n≤57)) || n==45 || n==95 || n==46
def jyU (l:List UInt8):Bool:=l.all (fun c=>jz8 c.toNat) && decide (1≤l.length) && decide (l.length≤24)
theorem jzJ {n:Nat} (h:jz8 n=true):n < 128:=by
 simp [jz8] at h;omega
theorem jBW (s:ByteArray) (pos:Nat) (h:pos < s.size):∃r k:Nat,Utf8.decode s pos=(r,k)∧1≤k∧jz8 r=jz8 (s[pos]'h).toNat∧(jz8 r=true→k=1):=by
 by_cases ha:(s[pos]'h).toNat < 128
 ·exact ⟨_,_,decode_ascii s pos h ha,by omega,rfl,fun _=>rfl⟩
 ·have h2:=decode_high s pos h (by omega);refine ⟨(Utf8.decode s pos).1,(Utf8.decode s pos).2,rfl,h2.2, ?_, ?_⟩
  ·have e1:jz8 (Utf8.decode s pos).1=false:=by
    rcases hb:jz8 (Utf8.decode s pos).1 with _ | _
    ·rfl
    ·have:=jzJ hb;omega
   have e2:jz8 (s[pos]'h).toNat=false:=by
    rcases hb:jz8 (s[pos]'h).toNat with _ | _
    ·rfl
    ·have:=jzJ hb;omega
   rw [e1,e2]
  ·intro hb;have:=jzJ hb;omega

theorem jyO (w:World) (s:ByteArray) (pos:Nat):Below w.heap.size w (w.iter s pos):=(Below.refl _ _).alloc (Nat.le_refl _) _
section
variable {w:World} {l:List UInt8}
theorem jAF:Calls prog 108 #[bs l] w fun e w'=>e= .returned (.bool (jyU l))∧Below w.heap.size w w':=by
 obtain ⟨R,hR⟩:∃R,jyU l=R:=⟨_,rfl⟩;rw [hR];have HR:=qh hR;clear hR;go_enter func108,ntmps108;go_wp2
 go_loopw [4] (fun _ wr=>∃pos:Nat,wr=w.iter ⟨l.toArray⟩ pos∧pos≤l.length∧(l.take pos).all (fun c=>jz8 c.toNat)=true) (fun _ wr=>l.length - wr.iterPos w.heap.size)
 case atStart=>exact ⟨0,rfl,by omega,by simp⟩
 case round=>
  obtain ⟨pos,rfl,hle,hall⟩:=hrel;by_cases hp:pos < l.length
  ·have hps:pos < (⟨l.toArray⟩:ByteArray).size:=by simpa [ByteArray.size] using hp
   obtain ⟨r,k,hd,hk1,hn,hk⟩:=jBW ⟨l.toArray⟩ pos hps
   have hnx:∀ty,(Instr.next (.pointer (some ⟨w.heap.size,0,none⟩)) true ty).run prog (w.iter ⟨l.toArray⟩ pos)= .ok (.tuple #[.bool true, .int .i64 pos, .int .i32 (r:Int)]) (w.iter ⟨l.toArray⟩ (pos+k)):=fun ty=>by
    have:=run_next_any (P:=prog) w ⟨l.toArray⟩ pos ty hps;rwa [hd] at this
   have hc:(⟨l.toArray⟩:ByteArray)[pos]'hps=l[pos]:=by simp [ByteArray.getElem_eq_getElem_data]
   rw [hc] at hn;cases hg:jz8 r with
   | true=>
     have hk':=hk hg;subst hk';have HP:=qh hp
     have HALL:=qh (show (l.take (pos+1)).all (fun c=>jz8 c.toNat)=true by
      rw [List.take_succ_eq_append_getElem hp,List.all_append,hall];simp [←hn,hg])
     clear hd hk1 hk hn hc hall hle hps hp;have hg2:=hg;simp only [jz8,Bool.or_eq_true,Bool.and_eq_true,decide_eq_true_eq,beq_iff_eq] at hg2;clear hg;rcases hg2 with ((((h1|h1)|h1)|h1)|h1)|h1
     ·have q1:decide ((97:Int)≤(r:Int))=true:=by simp;omega
      have q2:decide ((r:Int)≤122)=true:=by simp;omega
      have q3:decide ((65:Int)≤(r:Int))=true:=by simp;omega
      have q4:decide ((r:Int)≤90)=false:=by simp;omega
      have q5:decide ((48:Int)≤(r:Int))=true:=by simp;omega
      have q6:decide ((r:Int)≤57)=false:=by simp;omega
      have q7:((r:Int) != 45)=true:=by simp;omega
      have q8:((r:Int) != 95)=true:=by simp;omega
      have q9:((r:Int) != 46)=true:=by simp;omega
      clear h1;go_wp2
      go_roundw
      case rel=>
       exact ⟨pos+1,rfl,by have:=HP.o;omega,HALL.o⟩
      case measure=>
       have:=HP.o;simp;omega
     ·have q1:decide ((97:Int)≤(r:Int))=false:=by simp;omega
      have q2:decide ((r:Int)≤122)=true:=by simp;omega
      have q3:decide ((65:Int)≤(r:Int))=true:=by simp;omega
      have q4:decide ((r:Int)≤90)=true:=by simp;omega
      have q5:decide ((48:Int)≤(r:Int))=true:=by simp;omega
      have q6:decide ((r:Int)≤57)=false:=by simp;omega
      have q7:((r:Int) != 45)=true:=by simp;omega
      have q8:((r:Int) != 95)=true:=by simp;omega
      have q9:((r:Int) != 46)=true:=by simp;omega
      clear h1;go_wp2
      go_roundw
      case rel=>
       exact ⟨pos+1,rfl,by have:=HP.o;omega,HALL.o⟩
      case measure=>
       have:=HP.o;simp;omega
     ·have q1:decide ((97:Int)≤(r:Int))=false:=by simp;omega
      have q2:decide ((r:Int)≤122)=true:=by simp;omega
      have q3:decide ((65:Int)≤(r:Int))=false:=by simp;omega
      have q4:decide ((r:Int)≤90)=true:=by simp;omega
      have q5:decide ((48:Int)≤(r:Int))=true:=by simp;omega
      have q6:decide ((r:Int)≤57)=true:=by simp;omega
      have q7:((r:Int) != 45)=true:=by simp;omega
      have q8:((r:Int) != 95)=true:=by simp;omega
      have q9:((r:Int) != 46)=true:=by simp;omega
      clear h1;go_wp2
      go_roundw
      case rel=>
       exact ⟨pos+1,rfl,by have:=HP.o;omega,HALL.o⟩
      case measure=>
       have:=HP.o;simp;omega
     ·have q1:decide ((97:Int)≤(r:Int))=false:=by simp;omega
      have q2:decide ((r:Int)≤122)=true:=by simp;omega
      have q3:decide ((65:Int)≤(r:Int))=false:=by simp;omega
      have q4:decide ((r:Int)≤90)=true:=by simp;omega
      have q5:decide ((48:Int)≤(r:Int))=false:=by simp;omega
      have q6:decide ((r:Int)≤57)=true:=by simp;omega
      have q7:((r:Int) != 45)=false:=by simp;omega
      have q8:((r:Int) != 95)=true:=by simp;omega
      have q9:((r:Int) != 46)=true:=by simp;omega
      clear h1;go_wp2
      go_roundw
      case rel=>
       exact ⟨pos+1,rfl,by have:=HP.o;omega,HALL.o⟩
      case measure=>
       have:=HP.o;simp;omega
     ·have q1:decide ((97:Int)≤(r:Int))=false:=by simp;omega
      have q2:decide ((r:Int)≤122)=true:=by simp;omega
      have q3:decide ((65:Int)≤(r:Int))=true:=by simp;omega
      have q4:decide ((r:Int)≤90)=false:=by simp;omega
      have q5:decide ((48:Int)≤(r:Int))=true:=by simp;omega
      have q6:decide ((r:Int)≤57)=false:=by simp;omega
      have q7:((r:Int) != 45)=true:=by simp;omega
      have q8:((r:Int) != 95)=false:=by simp;omega
      have q9:((r:Int) != 46)=true:=by simp;omega
      clear h1;go_wp2
      go_roundw
      case rel=>
       exact ⟨pos+1,rfl,by have:=HP.o;omega,HALL.o⟩
      case measure=>
       have:=HP.o;simp;omega
     ·have q1:decide ((97:Int)≤(r:Int))=false:=by simp;omega
      have q2:decide ((r:Int)≤122)=true:=by simp;omega
      have q3:decide ((65:Int)≤(r:Int))=false:=by simp;omega
      have q4:decide ((r:Int)≤90)=true:=by simp;omega
      have q5:decide ((48:Int)≤(r:Int))=false:=by simp;omega
      have q6:decide ((r:Int)≤57)=true:=by simp;omega
      have q7:((r:Int) != 45)=true:=by simp;omega
      have q8:((r:Int) != 95)=true:=by simp;omega
      have q9:((r:Int) != 46)=false:=by simp;omega
      clear h1;go_wp2
      go_roundw
      case rel=>
       exact ⟨pos+1,rfl,by have:=HP.o;omega,HALL.o⟩
      case measure=>
       have:=HP.o;simp;omega
   | false=>
     have hbad:jyU l=false:=by
      have:l.all (fun c=>jz8 c.toNat)=false:=by
       rw [Bool.eq_false_iff];intro h;have:=List.all_eq_true.1 h _ (List.getElem_mem hp);rw [←hn,hg] at this;cases this
      simp [jyU,this]
     have hR:R=false:=by rw [←HR.o];exact hbad
     subst hR;clear hbad hd hk1 hk hn hc hall hle hps hp
     have h1:r < 45∨r=47∨(58≤r∧r≤64)∨(91≤r∧r≤94)∨r=96∨123≤r:=by
      simp [jz8] at hg;omega
     clear hg;rcases h1 with h1|h1|h1|h1|h1|h1
     ·have q1:decide ((97:Int)≤(r:Int))=false:=by simp;omega
      have q2:decide ((r:Int)≤122)=true:=by simp;omega
      have q3:decide ((65:Int)≤(r:Int))=false:=by simp;omega
      have q4:decide ((r:Int)≤90)=true:=by simp;omega
      have q5:decide ((48:Int)≤(r:Int))=false:=by simp;omega
      have q6:decide ((r:Int)≤57)=true:=by simp;omega
      have q7:((r:Int) != 45)=true:=by simp;omega
      have q8:((r:Int) != 95)=true:=by simp;omega
      have q9:((r:Int) != 46)=true:=by simp;omega
      clear h1;go_wp2;go_ret;exact ⟨by simp,jyO w _ _⟩
     ·have q1:decide ((97:Int)≤(r:Int))=false:=by simp;omega
      have q2:decide ((r:Int)≤122)=true:=by simp;omega
      have q3:decide ((65:Int)≤(r:Int))=false:=by simp;omega
      have q4:decide ((r:Int)≤90)=true:=by simp;omega
      have q5:decide ((48:Int)≤(r:Int))=false:=by simp;omega
      have q6:decide ((r:Int)≤57)=true:=by simp;omega
      have q7:((r:Int) != 45)=true:=by simp;omega
      have q8:((r:Int) != 95)=true:=by simp;omega
      have q9:((r:Int) != 46)=true:=by simp;omega
      clear h1;go_wp2;go_ret;exact ⟨by simp,jyO w _ _⟩
     ·have q1:decide ((97:Int)≤(r:Int))=false:=by simp;omega
      have q2:decide ((r:Int)≤122)=true:=by simp;omega
      have q3:decide ((65:Int)≤(r:Int))=false:=by simp;omega
      have q4:decide ((r:Int)≤90)=true:=by simp;omega
      have q5:decide ((48:Int)≤(r:Int))=true:=by simp;omega
      have q6:decide ((r:Int)≤57)=false:=by simp;omega
      have q7:((r:Int) != 45)=true:=by simp;omega
      have q8:((r:Int) != 95)=true:=by simp;omega
      have q9:((r:Int) != 46)=true:=by simp;omega
      clear h1;go_wp2;go_ret;exact ⟨by simp,jyO w _ _⟩
     ·have q1:decide ((97:Int)≤(r:Int))=false:=by simp;omega
      have q2:decide ((r:Int)≤122)=true:=by simp;omega
      have q3:decide ((65:Int)≤(r:Int))=true:=by simp;omega
      have q4:decide ((r:Int)≤90)=false:=by simp;omega
      have q5:decide ((48:Int)≤(r:Int))=true:=by simp;omega
      have q6:decide ((r:Int)≤57)=false:=by simp;omega
      have q7:((r:Int) != 45)=true:=by simp;omega
      have q8:((r:Int) != 95)=true:=by simp;omega
      have q9:((r:Int) != 46)=true:=by simp;omega
      clear h1;go_wp2;go_ret;exact ⟨by simp,jyO w _ _⟩
     ·have q1:decide ((97:Int)≤(r:Int))=false:=by simp;omega
      have q2:decide ((r:Int)≤122)=true:=by simp;omega
      have q3:decide ((65:Int)≤(r:Int))=true:=by simp;omega
      have q4:decide ((r:Int)≤90)=false:=by simp;omega
      have q5:decide ((48:Int)≤(r:Int))=true:=by simp;omega
      have q6:decide ((r:Int)≤57)=false:=by simp;omega
      have q7:((r:Int) != 45)=true:=by simp;omega
      have q8:((r:Int) != 95)=true:=by simp;omega
      have q9:((r:Int) != 46)=true:=by simp;omega
      clear h1;go_wp2;go_ret;exact ⟨by simp,jyO w _ _⟩
     ·have q1:decide ((97:Int)≤(r:Int))=true:=by simp;omega
      have q2:decide ((r:Int)≤122)=false:=by simp;omega
      have q3:decide ((65:Int)≤(r:Int))=true:=by simp;omega
      have q4:decide ((r:Int)≤90)=false:=by simp;omega
      have q5:decide ((48:Int)≤(r:Int))=true:=by simp;omega
      have q6:decide ((r:Int)≤57)=false:=by simp;omega
      have q7:((r:Int) != 45)=true:=by simp;omega
      have q8:((r:Int) != 95)=true:=by simp;omega
      have q9:((r:Int) != 46)=true:=by simp;omega
      clear h1;go_wp2;go_ret;exact ⟨by simp,jyO w _ _⟩
  ·have hnx:∀ty,(Instr.next (.pointer (some ⟨w.heap.size,0,none⟩)) true ty).run prog (w.iter ⟨l.toArray⟩ pos)=_:=fun ty=>run_next_end w ⟨l.toArray⟩ pos ty (by simpa [ByteArray.size] using hp)
   have e:jyU l=(decide (1≤l.length) && decide (l.length≤24)):=by
    unfold jyU;rw [List.take_of_length_le (by omega)] at hall;rw [hall];simp
   have hR:R=(decide (1≤l.length) && decide (l.length≤24)):=by rw [←HR.o];exact e
   clear HR;subst hR;have q1:decide ((1:Int)≤(l.length:Int))=decide (1≤l.length):=by rw [decide_eq_decide];omega
   have q2:decide ((l.length:Int)≤24)=decide (l.length≤24):=by rw [decide_eq_decide];omega
   clear hp hall hle e;obtain ⟨b1,hb1⟩:∃b,decide (1≤l.length)=b:=⟨_,rfl⟩;obtain ⟨b2,hb2⟩:∃b,decide (l.length≤24)=b:=⟨_,rfl⟩;rw [hb1] at q1;rw [hb2] at q2;have HB:=qh (ai hb1 hb2);clear hb1 hb2;cases b1
   ·go_wp2;go_ret;exact ⟨by rw [HB.o.1,HB.o.2];simp,jyO w _ _⟩
   ·go_wp2;go_ret;exact ⟨by rw [HB.o.1,HB.o.2];simp,jyO w _ _⟩
theorem jyN {g:Bool} (hg:jyU l=g):Calls prog 108 #[bs l] w fun e w'=>e= .returned (.bool g)∧Below w.heap.size w w':=hg ▸ jAF
end

structure Iv (w:World) (A:Option Addr) (n:Nat) (zs:List Int):Prop where
 len:zs.length=n
 rng:∀z∈zs,R64 z
 at_:0 < n→∃b o,A=some ⟨b,o,none⟩∧b < w.heap.size∧∀j,j < n→w.cell? ⟨b,o+j,none⟩=some (.int .i64 (zs.getD j 0))
theorem Iv.below {w w':World} {A:Option Addr} {n:Nat} {zs:List Int} (h:Iv w A n zs) (hb:Below w.heap.size w w'):Iv w' A n zs:=
 ⟨h.len,h.rng,fun hn=>by
   obtain ⟨b,o,e,h1,h2⟩:=h.at_ hn
   exact ⟨b,o,e,Nat.lt_of_lt_of_le h1 hb.size,fun j hj=>by rw [hb.cell (p:=⟨b,o+j,none⟩) h1];exact h2 j hj⟩⟩

section
variable {w:World} {A:Option Addr} {n c:Nat} {ws:List Int}
end

section
variable {W:World} {p2 p3 p4:Nat} {bw ow n c:Nat} {ws:List Int} {t s:Int}
end
section
variable {W:World} {blk p2 p3 p4 bw ow m c cap:Nat} {ws:List Int} {t s:Int}
end


def jdV (zs:List Int):Array Value:=(zs.map (Value.int .i64)).toArray
theorem jfc {zs:List Int} {j:Nat} (h:j < zs.length):(jdV zs)[j]? =some (.int .i64 (zs.getD j 0)):=by
 simp [jdV,List.getD_eq_getElem?_getD,h]
theorem jgX (zs:List Int) (i:Nat) (z:Int):(jdV zs).setIfInBounds i (.int .i64 z)=jdV (zs.set i z):=by
 simp [jdV,List.map_set]
theorem jBE:(prog.info? 3).map (fun i=>(i.zero,i.size,i.bytes))=some (some (.int .i64 0),1,8):=by kernel_rfl
theorem jh3 (l:Nat):madeCells #[Value.int .i64 0] (l*1)=jdV (List.replicate l 0):=by
 apply Array.ext
 ·simp [madeCells,jdV]
 ·intro i h1 h2;simp [madeCells,jdV,Nat.mod_one]
theorem jgZ (l:Nat) (hl:l < 1099511627776) (W:World):
  (Instr.makeSlice 79 (.int .i64 (l:Int)) (.int .i64 (l:Int))).run prog W= .ok (.slice (some ⟨W.heap.size,0,none⟩) l l) (W.alloc (.cells (jdV (List.replicate l 0)) 3)):=by
 obtain ⟨i0,hi,hz0,hz1,hz2⟩:=info_parts jBE;have hr:=run_make (P:=prog) W 79 3 i0 (.int .i64 0) underlying79 hi hz0 .i64 .i64 (l:Int) (l:Int) (by omega) (by omega) (by rw [hz2];omega) (by omega);simp only [Int.toNat_natCast,hz1] at hr;rw [hr,show (Value.int IntKind.i64 0).cells= #[Value.int .i64 0] from rfl,jh3]

def jvw (f:Nat→Int) (n i:Nat):List Int:=(List.range n).map fun j=>if j < i then f j else 0
structure A1 (w wr:World) (b6 n c i:Nat) (A:Option Addr) (t s:Int) (q:Nat→Int):Prop where
 bO:Blk wr (b6+1) 3 (jdV (jvw q n i))
 bP:Blk wr (b6+1+1) 3 (jdV (jvw (fun j=>(j:Int)) n i))
 c2:wr.cell? ⟨w.heap.size,0,none⟩=some (.int .i64 t)
 c3:wr.cell? ⟨w.heap.size+1,0,none⟩=some (.slice A n c)
 c4:wr.cell? ⟨b6,0,none⟩=some (.int .i64 s)
 bel:Below w.heap.size w wr
 sz:w.heap.size+1 < b6

theorem jeC {α:Type} [Inhabited α] (enc:α→Value) (w:World) (blk off:Nat) (d:Array α) {g:Nat} (h:g≠blk):(Sort.putRow enc w blk off d).heap[g]? =w.heap[g]? :=by
 unfold Sort.putRow Sort.mapBlock;simp only [Array.getElem?_modify];rw [if_neg (Ne.symm h)]
theorem Blk.putRow {α:Type} [Inhabited α] {enc:α→Value} {w:World} {blk off g T:Nat} {cs:Array Value} {d:Array α} (h:Blk w g T cs) (hg:g≠blk):Blk (Sort.putRow enc w blk off d) g T cs:=by
 show (Sort.putRow enc w blk off d).heap[g]? =_
 rw [jeC _ _ _ _ _ hg];exact h
theorem jmn {α:Type} [Inhabited α] {enc:α→Value} {B:Nat} {a w:World} {blk off:Nat} {d:Array α} (h:Below B a w) (hb:B≤blk):Below B a (Sort.putRow enc w blk off d):=
 ⟨h.os,h.tape,h.output,by rw [Sort.size_putRow];exact h.size,fun k hk=>by
   rw [jeC _ _ _ _ _ (by omega)];exact h.block k hk⟩
def outs (t s:Int) (f:Nat→Int) (L:List Nat) (n j:Nat):List Int:=(List.range n).map (App.out t s f L j)
structure A2 (w wr V:World) (b6 n:Nat) (zs:List Int):Prop where
 bO:Blk wr (b6+1) 3 (jdV zs)
 bel:Below w.heap.size w wr
 pl:∀j,wr.cell? ⟨b6+1+1,j,none⟩=V.cell? ⟨b6+1+1,j,none⟩
 sz:w.heap.size+1 < b6
section
variable {w:World} {A:Option Addr} {n c:Nat} {ws:List Int} {t s:Int}
end

structure Sv (w:World) (A:Option Addr) (n:Nat) (ls:List (List UInt8)):Prop where
 len:ls.length=n
 at_:0 < n→∃b o,A=some ⟨b,o,none⟩∧b < w.heap.size∧∀j,j < n→w.cell? ⟨b,o+j,none⟩=some (bs (ls.getD j []))
theorem Sv.below {w w':World} {A:Option Addr} {n:Nat} {ls:List (List UInt8)} (h:Sv w A n ls) (hb:Below w.heap.size w w'):Sv w' A n ls:=
 ⟨h.len,fun hn=>by
   obtain ⟨b,o,e,h1,h2⟩:=h.at_ hn
   exact ⟨b,o,e,Nat.lt_of_lt_of_le h1 hb.size,fun j hj=>by rw [hb.cell (p:=⟨b,o+j,none⟩) h1];exact h2 j hj⟩⟩
theorem Sv.two (w:World) (t:TypeId) (k l:List UInt8):Sv (w.alloc (.cells #[bs k,bs l] t)) (some ⟨w.heap.size,0,none⟩) 2 [k,l]:=
 ⟨rfl,fun _=>⟨w.heap.size,0,rfl,by simp,fun j hj=>by
   have h:j=0∨j=1:=by omega
   rcases h with rfl|rfl <;> simp⟩⟩
def jar {α:Type} (f:α→Int):List α→Int
 | []=>0
 | x::r=>if f x=0 then jar f r else f x
theorem jd5 {α:Type} {d:α} {l:List α} {i:Nat} (h:i < l.length):l.drop i=l.getD i d::l.drop (i+1):=by
 rw [List.drop_eq_getElem_cons h,List.getD_eq_getElem?_getD,List.getElem?_eq_getElem h];rfl
theorem jed {α:Type} {f:α→Int} {x:α} {r:List α} (h:f x≠0):jar f (x::r)=f x:=by simp [jar,h]
theorem jf3 {α:Type} {f:α→Int} {x:α} {r:List α} (h:f x=0):jar f (x::r)=jar f r:=by simp [jar,h]

section
variable {w:World} {A:Option Addr} {n c:Nat} {ls:List (List UInt8)} {f:List UInt8→Int}
theorem jx6
(h:Sv w A n ls) (hn:n≤100000) (hf:∀l∈ls,∀W,Below w.heap.size w W→Calls prog 75 #[bs l] W fun e w'=>e= .returned (.int .i64 (f l))∧Below W.heap.size W w'):
  Calls prog 74 #[.func (.func 75) #[] #[], .slice A n c] w fun e w'=>e= .returned (.int .i64 (jar f ls))∧Below w.heap.size w w':=by
  obtain ⟨R,hR⟩:∃R,jar f ls=R:=⟨_,rfl⟩;rw [hR];have HR:=qh hR;have H:=qh h;have HN:=qh hn;have HF:=qh hf;clear hR h hn hf;go_enter func74,ntmps74;go_wp2
  go_loopw [10] (fun u wr=>∃(i:Nat),u= .int .i64 (i:Int)∧Below w.heap.size w wr∧i≤n∧jar f (ls.drop i)=R) (fun u _=>n - (intOf u).toNat)
  case atStart=>exact ⟨0,rfl,bi,by omega,HR.o⟩
  case round=>
   obtain ⟨i,rfl,hb,hin,hc⟩:=hrel;have _:=bm hb;by_cases hi:i < n
   ·have q0:decide ((i:Int) < (n:Int))=true:=by simp;exact hi
    obtain ⟨b,o,rfl,hbl,hcell⟩:=(H.o.below hb).at_ (by omega);have hx:=hcell i hi;have hil:i < ls.length:=by rw [H.o.len];exact hi
    rw [jd5 (d:=[]) hil] at hc;have hmem:ls.getD i []∈ls:=by rw [List.getD_eq_getElem?_getD,List.getElem?_eq_getElem hil];exact List.getElem_mem hil
    obtain ⟨x,hxx⟩:∃x,ls.getD i []=x:=⟨_,rfl⟩;rw [hxx] at hx hc hmem;have HX:=qh (HF.o x hmem wr hb);have hnn:=HN.o;have HI:=qh hi;clear hcell hmem hil hxx;by_cases h0:f x=0
    ·have HC:Hd (jar f (ls.drop (i+1))=R):=qh (by rw [←hc,jf3 h0]);rw [h0] at HX;clear hc h0 hi;go_wp2_with (go_at_call 75;(with_reducible refine mo0 (HX.o) fun w1 hb1 hc1 hf1 _=> ?_))
     exact ⟨⟨i+1,by simp,bi,HI.o,HC.o⟩,by have:=HI.o;simp [intOf];omega⟩
    ·have hR:R=f x:=by rw [←hc,jed h0]
     subst hR;obtain ⟨y,hy⟩:∃y,f x=y:=⟨_,rfl⟩;rw [hy] at HX;have q1:(y != 0)=true:=by rw [bne_iff_ne,←hy];exact h0
     have HY:=qh hy;clear hc h0 hi hy HR;go_wp2_with (go_at_call 75;(with_reducible refine mo0 (HX.o) fun w1 hb1 hc1 hf1 _=> ?_))
     go_ret;exact ⟨by rw [HY.o];rfl,bi⟩
   ·have q0:decide (i < n)=false:=by simp;omega
    rw [List.drop_eq_nil_of_le (by rw [H.o.len];omega)] at hc;have hR:R=0:=by rw [←hc];rfl
    subst hR;clear hc hi HR;go_wp2;go_ret;exact ⟨rfl,bi⟩
end

noncomputable def numQ (l:List UInt8):Rat:= @dite _ (∃x,IsNum l x) (Classical.propDecidable _) (fun h=>Classical.choose h) (fun _=>0)
theorem IsNum.numQ {l:List UInt8} {x:Rat} (h:IsNum l x):numQ l=x:=by
 have h1:∃x,IsNum l x:=⟨x,h⟩;unfold Proofs.YtfagcpcikjlboaaGreatDoor.numQ;rw [dif_pos h1];exact (Classical.choose_spec h1).inj h
theorem jjb {l:List UInt8} (h:chk l=0):IsNum l (numQ l):=by
 obtain ⟨x,hx⟩:=jjL.1 h;rw [hx.numQ];exact hx
noncomputable def mst (l:List UInt8):Int:=if chk l=0 then (if numQ l < 0∨100≤numQ l then 3 else 0) else chk l
theorem jln {w:World} {l:List UInt8} {k:Int} (hk:chk l=k) (hE:Env w) (hl:l.length < 4294967281):Calls prog 75 #[bs l] w fun e w'=>e= .returned (.int .i64 k)∧Below w.heap.size w w':=hk ▸ jnZ hE hl
theorem jg2 {w:World} {s t:Int} {A B:Option Addr} {n c m d:Nat} {x:Rat} {k:Int} (hk:sgn x.num=k) (h:RepF w s A n c t B m d x):Calls prog 68 #[fv s A n c t B m d] w fun e w'=>e= .returned (.int .i64 k)∧Below w.heap.size w w':=hk ▸ jlS h
theorem jgN {x:Rat}:x.num < 0↔x < 0:=by rw [Rat.lt_iff];simp
theorem jrr {k n:Nat} (h:k < 10^n):k≤B64^n:=Nat.le_of_lt (Nat.lt_of_lt_of_le h (Nat.pow_le_pow_left (by rw [ja3];omega) n))
theorem jeT (n:Nat):n < 10^(Go.Lib.decDigits n).length:=by
 have h:=Dig.val_lt (Go.Lib.decDigits n) (Dig.digits_dig n).1;rwa [Dig.val_digits] at h
theorem jqR {n k:Nat} (h:(Go.Lib.decDigits n).length≤k):n≤B64^k:=Nat.le_trans (jrr (jeT _)) (Nat.pow_le_pow_right ja6 h)
theorem juR {k:Nat} {x:Rat} (h1:(Go.Lib.decDigits x.num.natAbs).length≤k) (h2:(Go.Lib.decDigits x.den).length≤k):Sz k x:=⟨jqR h1,jqR h2⟩
theorem IsNum.sz {l:List UInt8} {x:Rat} (h:IsNum l x):Sz 600 x:=juR h.num h.den
theorem jej {a:Int} (h:R64 a):Sz 1 (a:Rat):=Sz.int (by rw [Nat.pow_one,ja3];have:=h.1;have:=h.2;omega)
theorem jes {w:World} {a:Int} {x:Rat} (hx:(a:Rat)=x) (h:R64 a):Calls prog 67 #[.int .i64 a] w (jaa x w):=hx ▸ jvd h

section
variable {w:World} {l:List UInt8} {x:Rat}
end

section
variable {w:World} {l a b:List UInt8} {x y:Rat}
structure IsMoist (l:List UInt8) (x:Rat):Prop where
 num:IsNum l x
 low:0≤x
 high:x < 100
theorem IsMoist.mst {l:List UInt8} {x:Rat} (h:IsMoist l x):mst l=0:=by
 unfold Proofs.YtfagcpcikjlboaaGreatDoor.mst;rw [if_pos (jjL.2 ⟨x,h.num⟩),h.num.numQ,if_neg];intro h1;exact h1.elim (fun h2=>Rat.not_lt.2 h.low h2) (fun h2=>Rat.not_lt.2 h2 h.high)
theorem jeP {w:World} {s t u v:Int} {A B C D:Option Addr} {n c m d i k j l:Nat} {x y z:Rat} (p q:Nat) (hz:x - y=z) (h:RepF w s A n c t B m d x) (h':RepF w u C i k v D j l y) (hs:Sz p x) (hs':Sz q y) (hpq:p+q+1 < 100000):
  Calls prog 98 #[fv s A n c t B m d,fv u C i k v D j l] w (jaa z w):=hz ▸ jow h h' hs hs' hpq
theorem jeB {w:World} {s t u v:Int} {A B C D:Option Addr} {n c m d i k j l:Nat} {x y z:Rat} (p q:Nat) (hz:x / y=z) (h:RepF w s A n c t B m d x) (h':RepF w u C i k v D j l y) (hs:Sz p x) (hs':Sz q y) (hpq:p+q < 100000) (hy:y≠0):
  Calls prog 95 #[fv s A n c t B m d,fv u C i k v D j l] w (jaa z w):=hz ▸ jqo h h' hs hs' hpq hy
end

abbrev sp (a b:List UInt8):Value:= .agg #[bs a,bs b]
abbrev s2v (s:Int) (A:Option Addr) (n c:Nat) (t:Int) (B:Option Addr) (m d:Nat) (u:Int) (C:Option Addr) (i k:Nat) (v:Int) (D:Option Addr) (j l:Nat):Value:=
 .agg #[.int .i64 s, .slice A n c, .int .i64 t, .slice B m d, .int .i64 u, .slice C i k, .int .i64 v, .slice D j l]
def jyd (x y:Rat) (w:World) (e:Ending) (w':World):Prop:=
 ∃s A n c t B m d u C i k v D j l,e= .returned (s2v s A n c t B m d u C i k v D j l)∧RepF w' s A n c t B m d x∧RepF w' u C i k v D j l y∧Below w.heap.size w w'
section
variable {w:World} {a b:List UInt8} {x y:Rat}
theorem jyu (hE:Env w) (ha:IsNum a x) (hb:IsNum b y):Calls prog 32 #[sp a b] w (jyd x y w):=by
 have HE:=qh hE;have HA:=qh ha;have HB:=qh hb;clear hE ha hb;go_enter func32,ntmps32;go_upto_region 1 with (fail)
 refine ja1 (fun w'=>Below ((w.alloc (.cells #[bs a,bs b] 25)).alloc (.cells #[.int .i64 0, .slice none 0 0, .int .i64 0, .slice none 0 0, .int .i64 0, .slice none 0 0, .int .i64 0, .slice none 0 0] 86)).heap.size ((w.alloc (.cells #[bs a,bs b] 25)).alloc (.cells #[.int .i64 0, .slice none 0 0, .int .i64 0, .slice none 0 0, .int .i64 0, .slice none 0 0, .int .i64 0, .slice none 0 0] 86)) w') [7] (by kernel_rfl) ?_;refine tl [(0,[1], .pointer (some ⟨w.heap.size,0,none⟩)),(1,[2],bs a),(3,[4], .pointer (some ⟨w.heap.size,1,none⟩)),(4,[5],bs b)] [_,_,_,_] rfl (by kernel_rfl) pk5 (by intros;simp only [tyq,ppq];go_simp) bq0 ?_;simp only [tlq,ppq];refine rd1 2 (by kernel_rfl) rfl (fun K hK=> ?_);go_simp;go_wp2_with (go_at_call 51;(with_reducible refine mf2 w (jaz HA.o (HE.o.below bi)) (by go_size) fun w1 s1 A1 n1 c1 t1 B1 m1 d1 hr1 hq1 hb1 hc1 hf1 z1_0 z1_1 _=> ?_))
 have sS1:=qh (bst bq0 hb1);refine hK.out _ _ (fun _=>sS1.o) ?_;clear hK K;refine rd1 5 (by kernel_rfl) rfl (fun K hK=> ?_);go_simp;go_wp2_with (go_at_call 51;(with_reducible refine mf2 w (jaz HB.o (HE.o.below bi)) (by go_size) fun w2 s2 A2 n2 c2 t2 B2 m2 d2 hr2 hq2 hb2 hc2 hf2 z2_0 z2_1 _=> ?_))
 have sS2:=qh (bst sS1.o hb2);refine hK.out _ _ (fun _=>sS2.o) ?_;clear hK K;refine rd1 6 (by kernel_rfl) rfl (fun K hK=> ?_);go_simp;refine hK.out _ _ (fun _=>bi) ?_;clear hK K;refine rd1 7 (by kernel_rfl) rfl (fun K hK=> ?_);go_simp;refine hK.out _ _ (fun h=>(h (by decide)).elim) ?_;clear hK K;refine ja2 (by kernel_rfl) ?_ _;go_wp2;refine bodyPost_ret (v:=s2v s1 A1 n1 c1 t1 B1 m1 d1 s2 A2 n2 c2 t2 B2 m2 d2) (by simp [results,results32,go_sem,hc1,hc2,hf1,hf2,z1_1,z2_1]) rfl ⟨s1,A1,n1,c1,t1,B1,m1,d1,s2,A2,n2,c2,t2,B2,m2,d2,rfl,(by constructor <;> (with_reducible repeat first|assumption|apply rZ|refine rP ?_ rfl (by simp [go_sem,hc1,hc2,hf1,hf2,z1_1,z2_1]))),(by constructor <;> (with_reducible repeat first|assumption|apply rZ|refine rP ?_ rfl (by simp [go_sem,hc1,hc2,hf1,hf2,z1_1,z2_1]))),bi⟩
end
section
variable {w:World} {sx tx sy ty:Int} {Ax Bx Ay By:Option Addr} {nx cx mx dx ny cy my dy:Nat} {x y:Rat}
theorem jzv {w:World} {s t:Int} {A B:Option Addr} {n c m d:Nat} {x:Rat} (h:RepF w s A n c t B m d x) (hE:Env w) (hS:StrQ x) (hg:je3 x=false):Calls prog 53 #[fv s A n c t B m d] w fun e w'=>e= .returned (bs (tq x))∧Below w.heap.size w w':=jgy h hE hS (DigQ.of hg)
theorem jBA {tx' ty':List UInt8} (hE:Env w) (hx:RepF w sx Ax nx cx tx Bx mx dx x) (hy:RepF w sy Ay ny cy ty By my dy y) (hS:StrQ x) (hS':StrQ y) (hg:je3 x=false) (hg':je3 y=false) (htx:tq x=tx') (hty:tq y=ty'):
  Calls prog 34 #[fv sx Ax nx cx tx Bx mx dx,fv sy Ay ny cy ty By my dy] w fun e w'=>e= .returned (.tuple #[sp tx' ty', .int .i64 0])∧Below w.heap.size w w':=by
 have HE:=qh hE;have HX:=qh hx;have HY:=qh hy;have HS:=qh hS;have HS':=qh hS';have HG:=qh hg;have HG':=qh hg';subst htx hty;obtain ⟨tx',htx⟩:∃l,tq x=l:=⟨_,rfl⟩;obtain ⟨ty',hty⟩:∃l,tq y=l:=⟨_,rfl⟩;have HT1:Hd (∀W,Below w.heap.size w W→Calls prog 53 #[fv sx Ax nx cx tx Bx mx dx] W fun e w'=>e= .returned (bs tx')∧Below W.heap.size W w'):=qh (fun W hb=>htx ▸ jzv (hx.below hb) (hE.below hb) hS hg);have HT2:Hd (∀W,Below w.heap.size w W→Calls prog 53 #[fv sy Ay ny cy ty By my dy] W fun e w'=>e= .returned (bs ty')∧Below W.heap.size W w'):=qh (fun W hb=>hty ▸ jzv (hy.below hb) (hE.below hb) hS' hg');rw [htx,hty];clear hE hx hy hS hS' hg hg' htx hty;go_enter func34,ntmps34
 go_upto_region 3 with (first
  | (go_at_call 52;(with_reducible show Calls _ _ #[.agg #[.int .i64 sx, .slice Ax nx cx, .int .i64 tx, .slice Bx mx dx]] _ _);(with_reducible refine mo3 w (jbf HG.o (HX.o.below bi) (HE.o.below bi) HS.o) (by go_size) fun w1 hb1 hc1 hf1 z1_0 z1_1 z1_2 _=> ?_))
  | (go_at_call 52;(with_reducible show Calls _ _ #[.agg #[.int .i64 sy, .slice Ay ny cy, .int .i64 ty, .slice By my dy]] _ _);(with_reducible refine mo3 w (jbf HG'.o (HY.o.below bi) (HE.o.below bi) HS'.o) (by go_size) fun w2 hb2 hc2 hf2 z2_0 z2_1 z2_2 _=> ?_)))
 refine ja1 (fun w'=>Below w2.heap.size w2 w') [5,6] (by kernel_rfl) ?_;refine tl [(0,[1],fv sx Ax nx cx tx Bx mx dx),(2,[3],fv sy Ay ny cy ty By my dy)] [_,_] rfl (by kernel_rfl) pk5 (by intros;simp only [tyq,ppq];go_simp) bq0 ?_;simp only [tlq,ppq];refine rd1 1 (by kernel_rfl) rfl (fun K hK=> ?_);go_simp;go_wp2_with (go_at_call 53;(with_reducible refine mo3 w (HT1.o _ bi) (by go_size) fun w3 hb3 hc3 hf3 z3_0 z3_1 z3_2 _=> ?_))
 have sS3:=qh (bst bq0 hb3);refine hK.out _ _ (fun _=>sS3.o) ?_;clear hK K;refine rd1 3 (by kernel_rfl) rfl (fun K hK=> ?_);go_simp;go_wp2_with (go_at_call 53;(with_reducible refine mo3 w (HT2.o _ bi) (by go_size) fun w4 hb4 hc4 hf4 z4_0 z4_1 z4_2 _=> ?_))
 have sS4:=qh (bst sS3.o hb4);refine hK.out _ _ (fun _=>sS4.o) ?_;clear hK K;refine rd1 4 (by kernel_rfl) rfl (fun K hK=> ?_);go_simp;refine hK.out _ _ (fun _=>bi) ?_;clear hK K;refine rd1 5 (by kernel_rfl) rfl (fun K hK=> ?_);go_simp;refine hK.out _ _ (fun h=>(h (by decide)).elim) ?_;clear hK K;refine rd1 6 (by kernel_rfl) rfl (fun K hK=> ?_);go_simp;refine hK.out _ _ (fun h=>(h (by decide)).elim) ?_;clear hK K;refine ja2 (by kernel_rfl) ?_ _;go_wp2;exact bodyPost_ret (v:= .tuple #[sp tx' ty', .int .i64 0]) (by simp [results,results34,go_sem,hc1,hc2,hc3,hc4,hf1,hf2,hf3,hf4,z1_2,z2_2,z3_2,z4_2]) rfl ⟨rfl,bi⟩
theorem jA1 (hE:Env w) (hx:RepF w sx Ax nx cx tx Bx mx dx x) (hy:RepF w sy Ay ny cy ty By my dy y) (hS:StrQ x) (hS':StrQ y) (hg:je3 x=true):
  Calls prog 34 #[fv sx Ax nx cx tx Bx mx dx,fv sy Ay ny cy ty By my dy] w fun e w'=>e= .returned (.tuple #[sp [] [], .int .i64 4])∧Below w.heap.size w w':=by
 have HE:=qh hE;have HX:=qh hx;have HS:=qh hS;have HG:=qh hg;clear hE hx hy hS hS' hg;go_enter func34,ntmps34
 go_wp2_with (first
  | (go_at_call 52;(with_reducible refine mo3 w (jbf HG.o (HX.o.below bi) (HE.o.below bi) HS.o) (by go_size) fun w1 hb1 hc1 hf1 z1_0 z1_1 z1_2 _=> ?_)))
 exact bodyPost_ret (v:= .tuple #[sp [] [], .int .i64 4]) (by simp [results,results34,go_sem,hc1,hf1,z1_2]) rfl ⟨rfl,bi⟩
theorem jzX (hE:Env w) (hx:RepF w sx Ax nx cx tx Bx mx dx x) (hy:RepF w sy Ay ny cy ty By my dy y) (hS:StrQ x) (hS':StrQ y) (hg:je3 x=false) (hg':je3 y=true):
  Calls prog 34 #[fv sx Ax nx cx tx Bx mx dx,fv sy Ay ny cy ty By my dy] w fun e w'=>e= .returned (.tuple #[sp [] [], .int .i64 4])∧Below w.heap.size w w':=by
 have HE:=qh hE;have HX:=qh hx;have HY:=qh hy;have HS:=qh hS;have HS':=qh hS';have HG:=qh hg;have HG':=qh hg';clear hE hx hy hS hS' hg hg';go_enter func34,ntmps34
 go_wp2_with (first
  | (go_at_call 52;(with_reducible show Calls _ _ #[.agg #[.int .i64 sx, .slice Ax nx cx, .int .i64 tx, .slice Bx mx dx]] _ _);(with_reducible refine mo3 w (jbf HG.o (HX.o.below bi) (HE.o.below bi) HS.o) (by go_size) fun w1 hb1 hc1 hf1 z1_0 z1_1 z1_2 _=> ?_))
  | (go_at_call 52;(with_reducible show Calls _ _ #[.agg #[.int .i64 sy, .slice Ay ny cy, .int .i64 ty, .slice By my dy]] _ _);(with_reducible refine mo3 w (jbf HG'.o (HY.o.below bi) (HE.o.below bi) HS'.o) (by go_size) fun w2 hb2 hc2 hf2 z2_0 z2_1 z2_2 _=> ?_)))
 exact bodyPost_ret (v:= .tuple #[sp [] [], .int .i64 4]) (by simp [results,results34,go_sem,hc1,hc2,hf1,hf2,z1_2,z2_2]) rfl ⟨rfl,bi⟩
def jC9 (x y:Rat):List UInt8:=if je3 x || je3 y then [] else tq x
def jCa (x y:Rat):List UInt8:=if je3 x || je3 y then [] else tq y
def jCb (x y:Rat):Int:=if je3 x || je3 y then 4 else 0
theorem jBa (hE:Env w) (hx:RepF w sx Ax nx cx tx Bx mx dx x) (hy:RepF w sy Ay ny cy ty By my dy y) (hS:StrQ x) (hS':StrQ y):
  Calls prog 34 #[fv sx Ax nx cx tx Bx mx dx,fv sy Ay ny cy ty By my dy] w fun e w'=>e= .returned (.tuple #[sp (jC9 x y) (jCa x y), .int .i64 (jCb x y)])∧Below w.heap.size w w':=by
 unfold jC9 jCa jCb;cases h1:je3 x with
 | true=>simpa using jA1 hE hx hy hS hS' h1
 | false=>
   cases h2:je3 y with
   | true=>simpa using jzX hE hx hy hS hS' h1 h2
   | false=>simpa using jBA hE hx hy hS hS' h1 h2 rfl rfl
theorem jAS {l h:List UInt8} {k:Int} (hl:jC9 x y=l) (hh:jCa x y=h) (hk:jCb x y=k) (hE:Env w) (hx:RepF w sx Ax nx cx tx Bx mx dx x) (hy:RepF w sy Ay ny cy ty By my dy y) (hS:StrQ x) (hS':StrQ y):
  Calls prog 34 #[fv sx Ax nx cx tx Bx mx dx,fv sy Ay ny cy ty By my dy] w fun e w'=>e= .returned (.tuple #[sp l h, .int .i64 k])∧Below w.heap.size w w':=hl ▸ hh ▸ hk ▸ jBa hE hx hy hS hS'
end

noncomputable def jwt (p:List UInt8×List UInt8):Int:=if jar chk [p.1,p.2]≠0 then jar chk [p.1,p.2] else if numQ p.2 < numQ p.1 then 11 else 0
theorem jxa {a b:List UInt8} (h:jar chk [a,b]=0):chk a=0∧chk b=0:=by
 unfold jar at h;by_cases h1:chk a=0
 ·rw [if_pos h1] at h;unfold jar at h;by_cases h2:chk b=0
  ·exact ⟨h1,h2⟩
  ·rw [if_neg h2] at h;exact absurd h h2
 ·rw [if_neg h1] at h;exact absurd h h1
theorem jyz {x y:Rat}:decide (Rq.cmpQ x y > 0)=decide (y < x):=by
 rw [decide_eq_decide];exact Rq.cmp_pos
theorem Sv.twoAt {w:World} {t:TypeId} {k l:List UInt8} {b:Nat} (hb:b=w.heap.size):Sv (w.alloc (.cells #[bs k,bs l] t)) (some ⟨b,0,none⟩) 2 [k,l]:=by
 subst hb;exact Sv.two w t k l
section
variable {w:World} {a b:List UInt8} {x y:Rat}
theorem jwG {w:World} {a b:List UInt8} {A:Option Addr} {n c:Nat} {k:Int} (hk:jar chk [a,b]=k) (hE:Env w) (hs:Sv w A n [a,b]) (hn:n≤100000) (hl:a.length < 4294967281) (hl':b.length < 4294967281):
  Calls prog 74 #[.func (.func 75) #[] #[], .slice A n c] w fun e w'=>e= .returned (.int .i64 k)∧Below w.heap.size w w':=by
 subst hk
 exact jx6 (c:=c) (f:=chk) hs hn (fun l hm V hV=>by
  have hl2:l.length < 4294967281:=by
   rcases List.mem_cons.1 hm with rfl|hm
   ·exact hl
   ·rcases List.mem_cons.1 hm with rfl|hm
    ·exact hl'
    ·cases hm
  exact jnZ (hE.below hV) hl2)
theorem jy4 {k:Int} (hE:Env w) (hl:a.length < 4294967281) (hl':b.length < 4294967281) (hk:jar chk [a,b]=k) (h0:k≠0):Calls prog 31 #[sp a b] w fun e w'=>e= .returned (.int .i64 k)∧Below w.heap.size w w':=by
 have HE:=qh hE;have HL:=qh hl;have HL':=qh hl';have HK:=qh hk;have q1:(k != 0)=true:=by rw [bne_iff_ne];exact h0
 clear hE hl hl' hk h0;go_enter func31,ntmps31;go_wp2_with (go_at_call 74;(with_reducible refine mo0 (jwG HK.o (HE.o.below bi) (Sv.twoAt (by simp)) (by omega) HL.o HL'.o) fun w1 hb1 hc1 hf1 _=> ?_))
 go_ret;exact ⟨rfl,bi⟩
theorem jyh {g:Bool} (hE:Env w) (hl:a.length < 4294967281) (hl':b.length < 4294967281) (ha:IsNum a x) (hb:IsNum b y) (hg:decide (Rq.cmpQ x y > 0)=g):Calls prog 31 #[sp a b] w fun e w'=>e= .returned (.int .i64 (if g then 11 else 0))∧Below w.heap.size w w':=by
 have HE:=qh hE;have HL:=qh hl;have HL':=qh hl';have HK:Hd (jar chk [a,b]=0):=qh (by simp [jar,jjL.2 ⟨x,ha⟩,jjL.2 ⟨y,hb⟩]);have HA:=qh ha;have HB:=qh hb;have HSA:=qh ha.sz;have HSB:=qh hb.sz;obtain ⟨z,hz⟩:∃z,Rq.cmpQ x y=z:=⟨_,rfl⟩;have HZ:=qh hz;rw [hz] at hg;clear hE hl hl' ha hb hz;cases g
 all_goals
  go_enter func31,ntmps31
  go_wp2_with (first
   | (go_at_call 74;(with_reducible refine mo1 w (jwG HK.o (HE.o.below bi) (Sv.twoAt (by simp)) (by omega) HL.o HL'.o) (by go_size) fun w1 hb1 hc1 hf1 z1_0 _=> ?_))
   | (go_at_call 32;((with_reducible refine (jyu (HE.o.below bi) HA.o HB.o).mono ?_);rintro e2 w2 ⟨s2,A2,n2,c2,t2,B2,m2,d2,u2,C2,i2,k2,v2,D2,j2,l2,rfl,⟨hr2,hq2⟩,⟨hu2,hv2⟩,hb2⟩;have _:=bm hb2);obtain ⟨hc2,hf2,z2_0,_⟩:=bc1 w hb2 (by go_size))
   | (go_at_call 76;(with_reducible refine mo0 (jd7 600 600 HZ.o (by constructor <;> (with_reducible repeat first|assumption|apply rZ|refine rP ?_ rfl (by simp [go_sem,hc2]))) (by constructor <;> (with_reducible repeat first|assumption|apply rZ|refine rP ?_ rfl (by simp [go_sem,hc2]))) HSA.o HSB.o (by omega)) fun w3 hb3 hc3 hf3 _=> ?_)))
  go_ret;exact ⟨rfl,bi⟩
theorem jxV (hE:Env w) (hl:a.length < 4294967281) (hl':b.length < 4294967281):Calls prog 31 #[sp a b] w fun e w'=>e= .returned (.int .i64 (jwt (a,b)))∧Below w.heap.size w w':=by
 unfold jwt;by_cases h:jar chk [a,b]=0
 ·rw [if_neg (by simpa using h)];obtain ⟨h1,h2⟩:=jxa h;have hx:=jjb h1;have hy:=jjb h2;have:=jyh hE hl hl' hx hy jyz;simpa using this
 ·rw [if_pos h];exact jy4 hE hl hl' rfl h
end
structure Pv (w:World) (A:Option Addr) (n:Nat) (ls:List (List UInt8×List UInt8)):Prop where
 len:ls.length=n
 at_:0 < n→∃b o,A=some ⟨b,o,none⟩∧b < w.heap.size∧∀j,j < n→w.cell? ⟨b,o+j*2,none⟩=some (bs (ls.getD j ([],[])).1)∧w.cell? ⟨b,o+j*2+1,none⟩=some (bs (ls.getD j ([],[])).2)
theorem Pv.below {w w':World} {A:Option Addr} {n:Nat} {ls:List (List UInt8×List UInt8)} (h:Pv w A n ls) (hb:Below w.heap.size w w'):Pv w' A n ls:=
 ⟨h.len,fun hn=>by
   obtain ⟨b,o,e,h1,h2⟩:=h.at_ hn
   exact ⟨b,o,e,Nat.lt_of_lt_of_le h1 hb.size,fun j hj=>by rw [hb.cell (p:=⟨b,o+j*2,none⟩) h1,hb.cell (p:=⟨b,o+j*2+1,none⟩) h1];exact h2 j hj⟩⟩
section
variable {w:World} {A:Option Addr} {n c:Nat} {ls:List (List UInt8×List UInt8)} {f:List UInt8×List UInt8→Int}
theorem jzC
 (h:Pv w A n ls) (hn:n≤100000) (hf:∀l∈ls,∀W,Below w.heap.size w W→Calls prog 31 #[sp l.1 l.2] W fun e w'=>e= .returned (.int .i64 (f l))∧Below W.heap.size W w'):
 Calls prog 30 #[.func (.func 31) #[] #[], .slice A n c] w fun e w'=>e= .returned (.int .i64 (jar f ls))∧Below w.heap.size w w':=by
 obtain ⟨R,hR⟩:∃R,jar f ls=R:=⟨_,rfl⟩;rw [hR];have HR:=qh hR;have H:=qh h;have HN:=qh hn;have HF:=qh hf;clear hR h hn hf;go_enter func30,ntmps30;go_wp2
 go_loopw [10] (fun u wr=>∃(i:Nat),u= .int .i64 (i:Int)∧Below w.heap.size w wr∧i≤n∧jar f (ls.drop i)=R) (fun u _=>n - (intOf u).toNat)
 case atStart=>exact ⟨0,rfl,bi,by omega,HR.o⟩
 case round=>
  obtain ⟨i,rfl,hb,hin,hc⟩:=hrel;have _:=bm hb;by_cases hi:i < n
  ·have q0:decide ((i:Int) < (n:Int))=true:=by simp;exact hi
   obtain ⟨b,o,rfl,hbl,hcell⟩:=(H.o.below hb).at_ (by omega);obtain ⟨hx,hy⟩:=hcell i hi;have hil:i < ls.length:=by rw [H.o.len];exact hi
   rw [jd5 (d:=([],[])) hil] at hc;have hmem:ls.getD i ([],[])∈ls:=by rw [List.getD_eq_getElem?_getD,List.getElem?_eq_getElem hil];exact List.getElem_mem hil
   obtain ⟨x,hxx⟩:∃x,ls.getD i ([],[])=x:=⟨_,rfl⟩;rw [hxx] at hx hy hc hmem;have HX:Hd (∀W,Below wr.heap.size wr W→Calls prog 31 #[sp x.1 x.2] W fun e w'=>e= .returned (.int .i64 (f x))∧Below W.heap.size W w'):=qh (fun W hW=>HF.o x hmem W (ja0 hb hW));have hnn:=HN.o;have HI:=qh hi;obtain ⟨x1,hx1⟩:∃y,x.1=y:=⟨_,rfl⟩;obtain ⟨x2,hx2⟩:∃y,x.2=y:=⟨_,rfl⟩;rw [hx1] at hx HX;rw [hx2] at hy HX;clear hcell hmem hil hxx hx1 hx2;by_cases h0:f x=0
   ·have HC:Hd (jar f (ls.drop (i+1))=R):=qh (by rw [←hc,jf3 h0]);rw [h0] at HX;clear hc h0 hi;go_wp2_with (go_at_call 31;(with_reducible refine mo0 (HX.o _ bi) fun w1 hb1 hc1 hf1 _=> ?_))
    exact ⟨⟨i+1,by simp,bi,HI.o,HC.o⟩,by have:=HI.o;simp [intOf];omega⟩
   ·have hR:R=f x:=by rw [←hc,jed h0]
    subst hR;obtain ⟨y,hy'⟩:∃y,f x=y:=⟨_,rfl⟩;rw [hy'] at HX;have q1:(y != 0)=true:=by rw [bne_iff_ne,←hy'];exact h0
    have HY:=qh hy';clear hc h0 hi hy' HR;go_wp2_with (go_at_call 31;(with_reducible refine mo0 (HX.o _ bi) fun w1 hb1 hc1 hf1 _=> ?_))
    go_ret;exact ⟨by rw [HY.o];rfl,bi⟩
  ·have q0:decide (i < n)=false:=by simp;omega
   rw [List.drop_eq_nil_of_le (by rw [H.o.len];omega)] at hc;have hR:R=0:=by rw [←hc];rfl
   subst hR;clear hc hi HR;go_wp2;go_ret;exact ⟨rfl,bi⟩
end
end Go.Proofs.YtfagcpcikjlboaaGreatDoor
namespace Go.Proofs.YtfagcpcikjlboaaGreatDoor
open Go Go.RowKit Go.Sort Go.Proofs.Tryz

theorem jdP (g j:Nat):(⟨g,0,none⟩:Addr).add j=⟨g,j,none⟩:=by unfold Addr.add;split <;> simp_all
def shs (ps:List (List UInt8×List UInt8)):List Value:=ps.flatMap fun p=> [bs p.1,bs p.2]
theorem jwL (a b:List (List UInt8×List UInt8)):shs (a++b)=shs a++shs b:=by simp [shs]
theorem jyq:∀(a:List (List UInt8×List UInt8)) (j k:Nat),j < a.length→k < 2→(shs a)[j*2+k]? =(shs [a.getD j ([],[])])[k]?
 | [],j,k,h,_=>absurd h (by simp)
 | q::r,0,k,_,hk=>by
   rw [show shs (q::r)=shs [q]++shs r from jwL [q] r,List.getElem?_append_left (by simp [shs];omega)];simp
 | q::r,j+1,k,h,hk=>by
   rw [show shs (q::r)=shs [q]++shs r from jwL [q] r,List.getElem?_append_right (by simp [shs];omega)];have e:(j+1)*2+k - (shs [q]).length=j*2+k:=by simp [shs];omega
   rw [e,jyq r j k (by simpa using h) hk];simp
abbrev jzi (w:World) (base:Nat) (v:Value) (n:Nat) (ps:List (List UInt8×List UInt8)):Prop:=w.ownsRow base 49 2 v n (shs ps)
theorem jzi.pv {w:World} {base n:Nat} {v:Value} {ps:List (List UInt8×List UInt8)} (h:jzi w base v n ps) (hl:ps.length=n) (h0:0 < n):∃A c,v= .slice A n c∧Pv w A n ps:=by
 rcases h.2 with ⟨rfl,h1⟩|⟨g,cap,cur,rfl,hb,hg,hnc,hcm,hcs,ht⟩
 ·omega
 ·refine ⟨some ⟨g,0,none⟩,cap,rfl,hl,fun _=>⟨g,0,rfl,(Array.getElem?_eq_some_iff.1 hg).1,fun j hj=> ?_⟩⟩;have hc:=World.ownsRow.cells h (g:=g) rfl
  have c (k:Nat) (hk:k < 2) (u:Value) (hu:(shs [ps.getD j ([],[])])[k]? =some u):w.cell? ⟨g,0+j*2+k,none⟩=some u:=by
   have:=hc (j*2+k) u (by rw [jyq ps j k (by omega) hk,hu]);rw [jdP] at this;rw [Nat.zero_add];exact this
  exact ⟨c 0 (by omega) _ rfl,c 1 (by omega) _ rfl⟩
theorem je8 {w w':World} (h:Below w.heap.size w w') (row:Option Nat):w.grownBy w' row:=⟨h.os,h.tape,h.output,h.size,fun k hk _=>h.block k hk⟩
theorem jzi.below {w w':World} {base n:Nat} {v:Value} {ps:List (List UInt8×List UInt8)} (h:jzi w base v n ps) (hb:Below w.heap.size w w'):jzi w' base v n ps:=
 World.ownsRow.kept h (je8 hb none) (by cases hv:v.ownBlock <;> simp)
theorem jzT:(prog.info? 49).map (fun i=>(i.zero,i.size,i.bytes))=some (some (.agg #[.string ByteArray.empty, .string ByteArray.empty]),2,32):=by kernel_rfl
theorem jBl {w:World} {base n b c:Nat} {v:Value} {ps:List (List UInt8×List UInt8)} {x:List UInt8×List UInt8} (h:jzi w base v n ps) (hn:n≤100000) (hb:base≤w.heap.size)
  (h0:w.cell? ⟨b,0,none⟩=some (bs x.1)) (h1:w.cell? ⟨b,1,none⟩=some (bs x.2)):
  ∃v' w',(Builtin.append_ #[50,50] 50 #[v, .slice (some ⟨b,0,none⟩) 1 c]).run prog w= .ok v' w'∧jzi w' base v' (n+1) (ps++[x])∧w.grownBy w' v.ownBlock∧(v'.ownBlock=v.ownBlock∨v'.ownBlock=some w.heap.size):=by
 obtain ⟨i,hi,hz0,hz1,hz2⟩:=info_parts jzT
 obtain ⟨v',w',hr,k1,k2,_,k3⟩:=run_append_own_at (P:=prog) w base 50 50 49 i _ 2 32 underlying50 hi hz0 hz1 hz2 rfl (by decide) v n (shs ps) h ⟨b,0,none⟩ 1 c (shs [x]) (by simp [shs])
  (by
    intro j u hu;rw [jdP]
    match j,hu with
    | 0,hu=>simp [shs] at hu;subst hu;exact h0
    | 1,hu=>simp [shs] at hu;subst hu;exact h1
    | j+2,hu=>simp [shs] at hu)
  (by intro u hu;simp [shs] at hu;rcases hu with rfl|rfl <;> rfl)
  (by simp only [maxLen];omega) (by omega) hb
 exact ⟨v',w',hr,by rw [jzi,jwL];exact k1,k2,k3⟩
theorem jiI {P:Program} {o:Oper} {a:Act} {K:Act→World→Prop} {Q:Exit→Act→World→Prop} {w w':World} {v z v':Value} {t:TypeId} (s y:Operand)
  (ho:o.op= .call { callee:= .builtin .append,args:= #[s,y],argTypes:= #[t,t] }) (hs:a.eval s=v) (hy:a.eval y=z)
  (hr:(Builtin.append_ #[t,t] o.type #[v,z]).run P w= .ok v' w') (hK:K (a.put o.dst v') w'):o.wp P a w K Q:=by
 unfold Oper.wp execOp;simp only [ho,resolve,invoke,builtin,Sem.run_bind,Sem.run_pure,Result.andThen_ok,List.map_toArray,List.map_cons,List.map_nil,hs,hy,hr];exact hK
theorem jze {ops:Array Oper} {rest:List Oper} {o:Oper} {a:Act} {Q:Exit→Act→World→Prop} {w:World} {base n b c:Nat} {v:Value} {ps:List (List UInt8×List UInt8)} {x:List UInt8×List UInt8} (hg:o.guard=none) (s y:Operand)
  (ho:o.op= .call { callee:= .builtin .append,args:= #[s,y],argTypes:= #[50,50] }) (ht:o.type=50) (hs:a.eval s=v) (hy:a.eval y= .slice (some ⟨b,0,none⟩) 1 c)
  (h:jzi w base v n ps) (hn:n≤100000) (hb:base≤w.heap.size) (h0:w.cell? ⟨b,0,none⟩=some (bs x.1)) (h1:w.cell? ⟨b,1,none⟩=some (bs x.2))
  (hK:∀v' w',jzi w' base v' (n+1) (ps++[x])→w.grownBy w' v.ownBlock→(v'.ownBlock=v.ownBlock∨v'.ownBlock=some w.heap.size)→wpList prog ops Q rest (a.put o.dst v') w'):wpList prog ops Q (o::rest) a w:=by
 obtain ⟨v',w',hr,k1,k2,k3⟩:=jBl h hn hb h0 h1;refine wpList_plain hg fun K' hK'=> ?_
 exact jiI s y ho hs hy (by rw [ht];exact hr) (hK' _ _ (hK v' w' k1 k2 k3))
theorem jzi.slice {w:World} {base n:Nat} {v:Value} {ps:List (List UInt8×List UInt8)} (h:jzi w base v n ps):∃A c,v= .slice A n c:=by
 rcases h.2 with ⟨rfl,h1⟩|⟨g,cap,cur,rfl,_⟩
 ·exact ⟨none,0,by rw [h1]⟩
 ·exact ⟨_,_,rfl⟩
theorem jza {ops:Array Oper} {rest:List Oper} {o:Oper} {a:Act} {Q:Exit→Act→World→Prop} {w:World} {base n b c:Nat} {v:Value} {ps:List (List UInt8×List UInt8)} {x:List UInt8×List UInt8} (hg:o.guard=none) (s y:Operand)
  (ho:o.op= .call { callee:= .builtin .append,args:= #[s,y],argTypes:= #[50,50] }) (ht:o.type=50) (hs:a.eval s=v) (hy:a.eval y= .slice (some ⟨b,0,none⟩) 1 c)
  (h:jzi w base v n ps) (hn:n≤100000) (hb:base≤w.heap.size) (h0:w.cell? ⟨b,0,none⟩=some (bs x.1)) (h1:w.cell? ⟨b,1,none⟩=some (bs x.2))
  (hK:∀A' c' w',jzi w' base (.slice A' (n+1) c') (n+1) (ps++[x])→w.grownBy w' v.ownBlock→((Value.slice A' (n+1) c').ownBlock=v.ownBlock∨(Value.slice A' (n+1) c').ownBlock=some w.heap.size)→wpList prog ops Q rest (a.put o.dst (.slice A' (n+1) c')) w'):wpList prog ops Q (o::rest) a w:=
 jze hg s y ho ht hs hy h hn hb h0 h1 (fun v' w' k1 k2 k3=>by
  obtain ⟨A',c',rfl⟩:=k1.slice
  exact hK A' c' w' k1 k2 k3)
end Go.Proofs.YtfagcpcikjlboaaGreatDoor
namespace Go.Proofs.YtfagcpcikjlboaaGreatDoor
open Go Go.RowKit Go.Proofs.Tryz

structure FAt (w:World) (b o:Nat) (x:Rat):Prop where
 at_:∃s A n c t B m d,w.cell? ⟨b,o,none⟩=some (.int .i64 s)∧w.cell? ⟨b,o+1,none⟩=some (.slice A n c)∧w.cell? ⟨b,o+2,none⟩=some (.int .i64 t)∧w.cell? ⟨b,o+3,none⟩=some (.slice B m d)∧RepF w s A n c t B m d x
theorem FAt.below {w w':World} {b o:Nat} {x:Rat} (h:FAt w b o x) (hb:Below w.heap.size w w'):FAt w' b o x:=by
 obtain ⟨s,A,n,c,t,B,m,d,h1,h2,h3,h4,h5⟩:=h.at_;exact ⟨⟨s,A,n,c,t,B,m,d,ja9 hb h1,ja9 hb h2,ja9 hb h3,ja9 hb h4,h5.below hb⟩⟩
structure Qv (w:World) (A:Option Addr) (n:Nat) (qs:List Rat):Prop where
 len:qs.length=n
 at_:0 < n→∃b o,A=some ⟨b,o,none⟩∧b < w.heap.size∧∀j,j < n→FAt w b (o+j*4) (qs.getD j 0)
theorem Qv.below {w w':World} {A:Option Addr} {n:Nat} {qs:List Rat} (h:Qv w A n qs) (hb:Below w.heap.size w w'):Qv w' A n qs:=
 ⟨h.len,fun hn=>by
   obtain ⟨b,o,e,h1,h2⟩:=h.at_ hn
   exact ⟨b,o,e,Nat.lt_of_lt_of_le h1 hb.size,fun j hj=>(h2 j hj).below hb⟩⟩
def jAU (m:Rat):List Rat→Rat
 | []=>m
 | x::r=>jAU (if Rq.cmpQ x m < 0 then x else m) r
def jAK (m:Rat):List Rat→Rat
 | []=>m
 | x::r=>jAK (if Rq.cmpQ x m > 0 then x else m) r
section
variable {w:World} {A:Option Addr} {n c p:Nat} {qs:List Rat}
theorem jBi
(h:Qv w A n qs) (h0:0 < n) (hn:n≤100000) (hs:∀q∈qs,Sz p q) (hp:p≤20000):
  Calls prog 79 #[.slice A n c, .func (.func 76) #[] #[]] w (jaa (jAU (qs.getD 0 0) (qs.drop 1)) w):=by
  obtain ⟨R,hR⟩:∃R,jAU (qs.getD 0 0) (qs.drop 1)=R:=⟨_,rfl⟩;rw [hR];have HR:=qh hR;have HN:=qh hn
  have HS:Hd (∀i,i < n→Sz p (qs.getD i 0)):=qh (fun i hi=>hs _ (by
   have:i < qs.length:=by rw [h.len];exact hi
   rw [List.getD_eq_getElem?_getD,List.getElem?_eq_getElem this];exact List.getElem_mem this))
  have HP:=qh hp;have HLEN:=qh h.len;obtain ⟨b,o,rfl,hbl,hat⟩:=h.at_ h0;have HAT:Hd (∀j,j < n→FAt w b (o+j*4) (qs.getD j 0)):=qh hat;have q0:decide (n < 1)=false:=by simp;omega
  have q0':decide ((n:Int) < 1)=false:=by simp;omega
  obtain ⟨s0,A0,n0,c0,t0,B0,m0,d0,k0,k1,k2,k3,kr⟩:=hat 0 h0;have HB0:=qh kr;rw [Nat.zero_mul,Nat.add_zero] at k0 k1 k2 k3;clear hR h hn hs hp hat kr;go_enter func79,ntmps79;go_upto_region 5 with (fail)
  go_loopw [6] (fun u wr=>∃(i:Nat) (m:Rat) (sm:Int) (Am:Option Addr) (nm cm:Nat) (tm:Int) (Bm:Option Addr) (mm dm:Nat),u= .int .i64 (i:Int)∧Below w.heap.size w wr∧1≤i∧i≤n∧w.heap.size+1 < wr.heap.size
    ∧wr.cell? ⟨w.heap.size,0,none⟩=some (.int .i64 0)∧wr.cell? ⟨w.heap.size,1,none⟩=some (.slice none 0 0)∧wr.cell? ⟨w.heap.size,2,none⟩=some (.int .i64 0)∧wr.cell? ⟨w.heap.size,3,none⟩=some (.slice none 0 0)
    ∧wr.cell? ⟨w.heap.size+1,0,none⟩=some (.int .i64 sm)∧wr.cell? ⟨w.heap.size+1,1,none⟩=some (.slice Am nm cm)∧wr.cell? ⟨w.heap.size+1,2,none⟩=some (.int .i64 tm)∧wr.cell? ⟨w.heap.size+1,3,none⟩=some (.slice Bm mm dm)
    ∧(∀o,wr.frozen? ⟨w.heap.size,o,none⟩=false)∧(∀o,wr.frozen? ⟨w.heap.size+1,o,none⟩=false)
    ∧RepF wr sm Am nm cm tm Bm mm dm m∧Sz p m∧jAU m (qs.drop i)=R) (fun u _=>n - (intOf u).toNat)
  case atStart=>
   obtain ⟨kr1,kr2⟩:=HB0.o;exact ⟨1,_,s0,A0,n0,c0,t0,B0,m0,d0,rfl,bi,by omega,by omega,by simp,by simp [go_sem],by simp [go_sem],by simp [go_sem],by simp [go_sem],by simp [go_sem],by simp [go_sem],by simp [go_sem],by simp [go_sem],by intro o;simp [go_sem],by intro o;simp [go_sem],(by constructor <;> (with_reducible repeat first|assumption|apply rZ|refine rP ?_ rfl (by simp [go_sem,jxf]))),HS.o 0 h0,HR.o⟩
  case round=>
   obtain ⟨i,m,sm,Am,nm,cm,tm,Bm,mm,dm,rfl,hb,hi1,hin,hsz,e0,e1,e2,e3,e4,e5,e6,e7,f0,f1,hrm,hsm,hc⟩:=hrel;have _:=bm hb;have HM:=qh hrm;have HSM:=qh hsm;have HC:=qh hc;have hsz0:w.heap.size < wr.heap.size:=Nat.lt_of_succ_lt hsz;have hbw:b < wr.heap.size:=Nat.lt_of_lt_of_le hbl hb.size;clear hrm hsm hc;by_cases hi:i < n
   ·have q1:decide ((i:Int) < (n:Int))=true:=by simp;exact hi
    have hnn:=HN.o;obtain ⟨si,Ai,ni,ci,ti,Bi,mi,di,k4,k5,k6,k7,kr⟩:=((HAT.o i hi).below hb).at_;have HQ:=qh kr;have HSI:=qh (HS.o i hi);obtain ⟨x,hx⟩:∃x,qs.getD i 0=x:=⟨_,rfl⟩;obtain ⟨z,hz⟩:∃z,Rq.cmpQ x m=z:=⟨_,rfl⟩;have HZ:=qh hz;rw [hx] at HQ HSI
    have HC2:Hd (jAU (if z < 0 then x else m) (qs.drop (i+1))=R):=qh (by
     have h1:i < qs.length:=by rw [HLEN.o];exact hi
     have h2:=HC.o;rw [jd5 (d:=0) h1,hx,jAU,hz] at h2
     exact h2)
    have HI:=qh hi;clear kr hx hz HC hi;go_upto_region 7 with (fail)
    refine ja1 (fun w'=>Below wr.heap.size wr w') [] (by kernel_rfl) ?_;refine tl [(0,[6], .func (.func 76) #[] #[]),(1,[3], .slice (some ⟨b,o,none⟩) n c),(2,[3], .int .i64 (i:Int)),(3,[4], .pointer (some ⟨b,o+i*4,none⟩)),(4,[6],fv si Ai ni ci ti Bi mi di),(5,[6],fv sm Am nm cm tm Bm mm dm)] [_,_,_,_,_,_] rfl (by kernel_rfl) pk5 (by intros;simp only [tyq,ppq];go_simp) bq0 ?_;simp only [tlq,ppq];refine rd1 6 (by kernel_rfl) rfl (fun K hK=> ?_);go_simp;go_wp2_with (go_at_call 76;(with_reducible refine mo2 w (jd7 p p HZ.o (HQ.o.below bi) (HM.o.below bi) HSI.o HSM.o (by have:=HP.o;omega)) (by go_size) fun w1 hb1 hc1 hf1 z1_0 z1_1 _=> ?_))
    have sS1:=qh (bst bq0 hb1);refine hK.out _ _ (fun _=>sS1.o) ?_;clear hK K;refine rd1 7 (by kernel_rfl) rfl (fun K hK=> ?_);go_simp;refine hK.out _ _ (fun _=>bi) ?_;clear hK K;refine ja2 (by kernel_rfl) ?_ _;go_wp2
    ·rw [if_pos (show z < 0 by omega)] at HC2;obtain ⟨hq1,hq2⟩:=HQ.o;exact ⟨⟨i+1,x,si,Ai,ni,ci,ti,Bi,mi,di,by simp,bi,by omega,HI.o,(by simp;exact z1_1),by simp [go_sem,hc1,z1_0,z1_1,hsz,hsz0,hf1,e0,e1,e2,e3,e4,e5,e6,e7,f0,f1],by simp [go_sem,hc1,z1_0,z1_1,hsz,hsz0,hf1,e0,e1,e2,e3,e4,e5,e6,e7,f0,f1],by simp [go_sem,hc1,z1_0,z1_1,hsz,hsz0,hf1,e0,e1,e2,e3,e4,e5,e6,e7,f0,f1],by simp [go_sem,hc1,z1_0,z1_1,hsz,hsz0,hf1,e0,e1,e2,e3,e4,e5,e6,e7,f0,f1],by simp [go_sem,hc1,z1_0,z1_1,hsz,hsz0,hf1,e0,e1,e2,e3,e4,e5,e6,e7,f0,f1],by simp [go_sem,hc1,z1_0,z1_1,hsz,hsz0,hf1,e0,e1,e2,e3,e4,e5,e6,e7,f0,f1],by simp [go_sem,hc1,z1_0,z1_1,hsz,hsz0,hf1,e0,e1,e2,e3,e4,e5,e6,e7,f0,f1],by simp [go_sem,hc1,z1_0,z1_1,hsz,hsz0,hf1,e0,e1,e2,e3,e4,e5,e6,e7,f0,f1],by intro o;simp [go_sem,hc1,z1_0,z1_1,hsz,hsz0,hf1,f0,f1],by intro o;simp [go_sem,hc1,z1_0,z1_1,hsz,hsz0,hf1,f0,f1],(by constructor <;> (with_reducible repeat first|assumption|apply rZ|refine rP ?_ rfl (by simp [go_sem,hc1,z1_0,z1_1,hsz,hsz0,hf1,e0,e1,e2,e3,e4,e5,e6,e7,f0,f1]))),HSI.o,HC2.o⟩,by have:=HI.o;simp [intOf];omega⟩
    ·rw [if_neg (show ¬z < 0 by omega)] at HC2;exact ⟨⟨i+1,m,sm,Am,nm,cm,tm,Bm,mm,dm,by simp,bi,by omega,HI.o,z1_1,by simp [go_sem,hc1,z1_0,z1_1,hsz,hsz0,hf1,e0,e1,e2,e3,e4,e5,e6,e7,f0,f1],by simp [go_sem,hc1,z1_0,z1_1,hsz,hsz0,hf1,e0,e1,e2,e3,e4,e5,e6,e7,f0,f1],by simp [go_sem,hc1,z1_0,z1_1,hsz,hsz0,hf1,e0,e1,e2,e3,e4,e5,e6,e7,f0,f1],by simp [go_sem,hc1,z1_0,z1_1,hsz,hsz0,hf1,e0,e1,e2,e3,e4,e5,e6,e7,f0,f1],by simp [go_sem,hc1,z1_0,z1_1,hsz,hsz0,hf1,e0,e1,e2,e3,e4,e5,e6,e7,f0,f1],by simp [go_sem,hc1,z1_0,z1_1,hsz,hsz0,hf1,e0,e1,e2,e3,e4,e5,e6,e7,f0,f1],by simp [go_sem,hc1,z1_0,z1_1,hsz,hsz0,hf1,e0,e1,e2,e3,e4,e5,e6,e7,f0,f1],by simp [go_sem,hc1,z1_0,z1_1,hsz,hsz0,hf1,e0,e1,e2,e3,e4,e5,e6,e7,f0,f1],by intro o;simp [go_sem,hc1,z1_0,z1_1,hsz,hsz0,hf1,f0,f1],by intro o;simp [go_sem,hc1,z1_0,z1_1,hsz,hsz0,hf1,f0,f1],HM.o.below bi,HSM.o,HC2.o⟩,by have:=HI.o;simp [intOf];omega⟩
   ·have q1:decide (i < n)=false:=by simp;omega
    have hR:m=R:=by
     have h2:=HC.o;rw [List.drop_eq_nil_of_le (by rw [HLEN.o];omega)] at h2;exact h2
    subst hR;clear hi HR HC;obtain ⟨hq1,hq2⟩:=HM.o;go_wp2;exact bodyPost_ret (v:= .agg #[.int .i64 (sm), .slice (Am) (nm) (cm), .int .i64 (tm), .slice (Bm) (mm) (dm)]) (by simp [results,results79,go_sem,hsz,hsz0,e0,e1,e2,e3,f0,f1]) rfl (jan rfl (by constructor <;> (with_reducible repeat first|assumption|apply rZ|refine rP ?_ rfl (by simp [go_sem,hsz,hsz0,e0,e1,e2,e3,f0,f1]))) bi)
theorem jBk
(h:Qv w A n qs) (h0:0 < n) (hn:n≤100000) (hs:∀q∈qs,Sz p q) (hp:p≤20000):
  Calls prog 80 #[.slice A n c, .func (.func 76) #[] #[]] w (jaa (jAK (qs.getD 0 0) (qs.drop 1)) w):=by
  obtain ⟨R,hR⟩:∃R,jAK (qs.getD 0 0) (qs.drop 1)=R:=⟨_,rfl⟩;rw [hR];have HR:=qh hR;have HN:=qh hn
  have HS:Hd (∀i,i < n→Sz p (qs.getD i 0)):=qh (fun i hi=>hs _ (by
   have:i < qs.length:=by rw [h.len];exact hi
   rw [List.getD_eq_getElem?_getD,List.getElem?_eq_getElem this];exact List.getElem_mem this))
  have HP:=qh hp;have HLEN:=qh h.len;obtain ⟨b,o,rfl,hbl,hat⟩:=h.at_ h0;have HAT:Hd (∀j,j < n→FAt w b (o+j*4) (qs.getD j 0)):=qh hat;have q0:decide (n < 1)=false:=by simp;omega
  have q0':decide ((n:Int) < 1)=false:=by simp;omega
  obtain ⟨s0,A0,n0,c0,t0,B0,m0,d0,k0,k1,k2,k3,kr⟩:=hat 0 h0;have HB0:=qh kr;rw [Nat.zero_mul,Nat.add_zero] at k0 k1 k2 k3;clear hR h hn hs hp hat kr;go_enter func80,ntmps80;go_upto_region 5 with (fail)
  go_loopw [6] (fun u wr=>∃(i:Nat) (m:Rat) (sm:Int) (Am:Option Addr) (nm cm:Nat) (tm:Int) (Bm:Option Addr) (mm dm:Nat),u= .int .i64 (i:Int)∧Below w.heap.size w wr∧1≤i∧i≤n∧w.heap.size+1 < wr.heap.size
    ∧wr.cell? ⟨w.heap.size,0,none⟩=some (.int .i64 0)∧wr.cell? ⟨w.heap.size,1,none⟩=some (.slice none 0 0)∧wr.cell? ⟨w.heap.size,2,none⟩=some (.int .i64 0)∧wr.cell? ⟨w.heap.size,3,none⟩=some (.slice none 0 0)
    ∧wr.cell? ⟨w.heap.size+1,0,none⟩=some (.int .i64 sm)∧wr.cell? ⟨w.heap.size+1,1,none⟩=some (.slice Am nm cm)∧wr.cell? ⟨w.heap.size+1,2,none⟩=some (.int .i64 tm)∧wr.cell? ⟨w.heap.size+1,3,none⟩=some (.slice Bm mm dm)
    ∧(∀o,wr.frozen? ⟨w.heap.size,o,none⟩=false)∧(∀o,wr.frozen? ⟨w.heap.size+1,o,none⟩=false)
    ∧RepF wr sm Am nm cm tm Bm mm dm m∧Sz p m∧jAK m (qs.drop i)=R) (fun u _=>n - (intOf u).toNat)
  case atStart=>
   obtain ⟨kr1,kr2⟩:=HB0.o;exact ⟨1,_,s0,A0,n0,c0,t0,B0,m0,d0,rfl,bi,by omega,by omega,by simp,by simp [go_sem],by simp [go_sem],by simp [go_sem],by simp [go_sem],by simp [go_sem],by simp [go_sem],by simp [go_sem],by simp [go_sem],by intro o;simp [go_sem],by intro o;simp [go_sem],(by constructor <;> (with_reducible repeat first|assumption|apply rZ|refine rP ?_ rfl (by simp [go_sem,jxf]))),HS.o 0 h0,HR.o⟩
  case round=>
   obtain ⟨i,m,sm,Am,nm,cm,tm,Bm,mm,dm,rfl,hb,hi1,hin,hsz,e0,e1,e2,e3,e4,e5,e6,e7,f0,f1,hrm,hsm,hc⟩:=hrel;have _:=bm hb;have HM:=qh hrm;have HSM:=qh hsm;have HC:=qh hc;have hsz0:w.heap.size < wr.heap.size:=Nat.lt_of_succ_lt hsz;have hbw:b < wr.heap.size:=Nat.lt_of_lt_of_le hbl hb.size;clear hrm hsm hc;by_cases hi:i < n
   ·have q1:decide ((i:Int) < (n:Int))=true:=by simp;exact hi
    have hnn:=HN.o;obtain ⟨si,Ai,ni,ci,ti,Bi,mi,di,k4,k5,k6,k7,kr⟩:=((HAT.o i hi).below hb).at_;have HQ:=qh kr;have HSI:=qh (HS.o i hi);obtain ⟨x,hx⟩:∃x,qs.getD i 0=x:=⟨_,rfl⟩;obtain ⟨z,hz⟩:∃z,Rq.cmpQ x m=z:=⟨_,rfl⟩;have HZ:=qh hz;rw [hx] at HQ HSI
    have HC2:Hd (jAK (if z > 0 then x else m) (qs.drop (i+1))=R):=qh (by
     have h1:i < qs.length:=by rw [HLEN.o];exact hi
     have h2:=HC.o;rw [jd5 (d:=0) h1,hx,jAK,hz] at h2
     exact h2)
    have HI:=qh hi;clear kr hx hz HC hi;go_upto_region 7 with (fail)
    refine ja1 (fun w'=>Below wr.heap.size wr w') [] (by kernel_rfl) ?_;refine tl [(0,[6], .func (.func 76) #[] #[]),(1,[3], .slice (some ⟨b,o,none⟩) n c),(2,[3], .int .i64 (i:Int)),(3,[4], .pointer (some ⟨b,o+i*4,none⟩)),(4,[6],fv si Ai ni ci ti Bi mi di),(5,[6],fv sm Am nm cm tm Bm mm dm)] [_,_,_,_,_,_] rfl (by kernel_rfl) pk5 (by intros;simp only [tyq,ppq];go_simp) bq0 ?_;simp only [tlq,ppq];refine rd1 6 (by kernel_rfl) rfl (fun K hK=> ?_);go_simp;go_wp2_with (go_at_call 76;(with_reducible refine mo2 w (jd7 p p HZ.o (HQ.o.below bi) (HM.o.below bi) HSI.o HSM.o (by have:=HP.o;omega)) (by go_size) fun w1 hb1 hc1 hf1 z1_0 z1_1 _=> ?_))
    have sS1:=qh (bst bq0 hb1);refine hK.out _ _ (fun _=>sS1.o) ?_;clear hK K;refine rd1 7 (by kernel_rfl) rfl (fun K hK=> ?_);go_simp;refine hK.out _ _ (fun _=>bi) ?_;clear hK K;refine ja2 (by kernel_rfl) ?_ _;go_wp2
    ·rw [if_pos (show z > 0 by omega)] at HC2;obtain ⟨hq1,hq2⟩:=HQ.o;exact ⟨⟨i+1,x,si,Ai,ni,ci,ti,Bi,mi,di,by simp,bi,by omega,HI.o,(by simp;exact z1_1),by simp [go_sem,hc1,z1_0,z1_1,hsz,hsz0,hf1,e0,e1,e2,e3,e4,e5,e6,e7,f0,f1],by simp [go_sem,hc1,z1_0,z1_1,hsz,hsz0,hf1,e0,e1,e2,e3,e4,e5,e6,e7,f0,f1],by simp [go_sem,hc1,z1_0,z1_1,hsz,hsz0,hf1,e0,e1,e2,e3,e4,e5,e6,e7,f0,f1],by simp [go_sem,hc1,z1_0,z1_1,hsz,hsz0,hf1,e0,e1,e2,e3,e4,e5,e6,e7,f0,f1],by simp [go_sem,hc1,z1_0,z1_1,hsz,hsz0,hf1,e0,e1,e2,e3,e4,e5,e6,e7,f0,f1],by simp [go_sem,hc1,z1_0,z1_1,hsz,hsz0,hf1,e0,e1,e2,e3,e4,e5,e6,e7,f0,f1],by simp [go_sem,hc1,z1_0,z1_1,hsz,hsz0,hf1,e0,e1,e2,e3,e4,e5,e6,e7,f0,f1],by simp [go_sem,hc1,z1_0,z1_1,hsz,hsz0,hf1,e0,e1,e2,e3,e4,e5,e6,e7,f0,f1],by intro o;simp [go_sem,hc1,z1_0,z1_1,hsz,hsz0,hf1,f0,f1],by intro o;simp [go_sem,hc1,z1_0,z1_1,hsz,hsz0,hf1,f0,f1],(by constructor <;> (with_reducible repeat first|assumption|apply rZ|refine rP ?_ rfl (by simp [go_sem,hc1,z1_0,z1_1,hsz,hsz0,hf1,e0,e1,e2,e3,e4,e5,e6,e7,f0,f1]))),HSI.o,HC2.o⟩,by have:=HI.o;simp [intOf];omega⟩
    ·rw [if_neg (show ¬z > 0 by omega)] at HC2;exact ⟨⟨i+1,m,sm,Am,nm,cm,tm,Bm,mm,dm,by simp,bi,by omega,HI.o,z1_1,by simp [go_sem,hc1,z1_0,z1_1,hsz,hsz0,hf1,e0,e1,e2,e3,e4,e5,e6,e7,f0,f1],by simp [go_sem,hc1,z1_0,z1_1,hsz,hsz0,hf1,e0,e1,e2,e3,e4,e5,e6,e7,f0,f1],by simp [go_sem,hc1,z1_0,z1_1,hsz,hsz0,hf1,e0,e1,e2,e3,e4,e5,e6,e7,f0,f1],by simp [go_sem,hc1,z1_0,z1_1,hsz,hsz0,hf1,e0,e1,e2,e3,e4,e5,e6,e7,f0,f1],by simp [go_sem,hc1,z1_0,z1_1,hsz,hsz0,hf1,e0,e1,e2,e3,e4,e5,e6,e7,f0,f1],by simp [go_sem,hc1,z1_0,z1_1,hsz,hsz0,hf1,e0,e1,e2,e3,e4,e5,e6,e7,f0,f1],by simp [go_sem,hc1,z1_0,z1_1,hsz,hsz0,hf1,e0,e1,e2,e3,e4,e5,e6,e7,f0,f1],by simp [go_sem,hc1,z1_0,z1_1,hsz,hsz0,hf1,e0,e1,e2,e3,e4,e5,e6,e7,f0,f1],by intro o;simp [go_sem,hc1,z1_0,z1_1,hsz,hsz0,hf1,f0,f1],by intro o;simp [go_sem,hc1,z1_0,z1_1,hsz,hsz0,hf1,f0,f1],HM.o.below bi,HSM.o,HC2.o⟩,by have:=HI.o;simp [intOf];omega⟩
   ·have q1:decide (i < n)=false:=by simp;omega
    have hR:m=R:=by
     have h2:=HC.o;rw [List.drop_eq_nil_of_le (by rw [HLEN.o];omega)] at h2;exact h2
    subst hR;clear hi HR HC;obtain ⟨hq1,hq2⟩:=HM.o;go_wp2;exact bodyPost_ret (v:= .agg #[.int .i64 (sm), .slice (Am) (nm) (cm), .int .i64 (tm), .slice (Bm) (mm) (dm)]) (by simp [results,results80,go_sem,hsz,hsz0,e0,e1,e2,e3,f0,f1]) rfl (jan rfl (by constructor <;> (with_reducible repeat first|assumption|apply rZ|refine rP ?_ rfl (by simp [go_sem,hsz,hsz0,e0,e1,e2,e3,f0,f1]))) bi)
theorem jBJ {r:Rat} (h:Qv w A n qs) (h0:0 < n) (hn:n≤100000) (hs:∀q∈qs,Sz p q) (hp:p≤20000) (hr:jAU (qs.getD 0 0) (qs.drop 1)=r):
  Calls prog 35 #[.slice A n c] w (jaa r w):=by
 subst hr;obtain ⟨R,hR⟩:∃R,jAU (qs.getD 0 0) (qs.drop 1)=R:=⟨_,rfl⟩;have HM:Hd (∀W,Below w.heap.size w W→Calls prog 79 #[.slice A n c, .func (.func 76) #[] #[]] W (jaa R W)):=qh (fun W hb=>hR ▸ jBi (h.below hb) h0 hn hs hp);rw [hR];clear h h0 hn hs hp hR;go_enter func35,ntmps35;go_wp2_with (go_at_call 79;(with_reducible refine mf1 w (HM.o _ bi) (by go_size) fun w1 s1 A1 n1 c1 t1 B1 m1 d1 hr1 hq1 hb1 hc1 hf1 z1_0 _=> ?_))
 exact bodyPost_ret (v:= .agg #[.int .i64 (s1), .slice (A1) (n1) (c1), .int .i64 (t1), .slice (B1) (m1) (d1)]) (by simp [results,results35,go_sem,hc1,z1_0,hf1]) rfl (jan rfl (by constructor <;> (with_reducible repeat first|assumption|apply rZ|refine rP ?_ rfl (by simp [go_sem,hc1,z1_0,hf1]))) bi)
theorem jBx {r:Rat} (h:Qv w A n qs) (h0:0 < n) (hn:n≤100000) (hs:∀q∈qs,Sz p q) (hp:p≤20000) (hr:jAK (qs.getD 0 0) (qs.drop 1)=r):
  Calls prog 36 #[.slice A n c] w (jaa r w):=by
 subst hr;obtain ⟨R,hR⟩:∃R,jAK (qs.getD 0 0) (qs.drop 1)=R:=⟨_,rfl⟩;have HM:Hd (∀W,Below w.heap.size w W→Calls prog 80 #[.slice A n c, .func (.func 76) #[] #[]] W (jaa R W)):=qh (fun W hb=>hR ▸ jBk (h.below hb) h0 hn hs hp);rw [hR];clear h h0 hn hs hp hR;go_enter func36,ntmps36;go_wp2_with (go_at_call 80;(with_reducible refine mf1 w (HM.o _ bi) (by go_size) fun w1 s1 A1 n1 c1 t1 B1 m1 d1 hr1 hq1 hb1 hc1 hf1 z1_0 _=> ?_))
 exact bodyPost_ret (v:= .agg #[.int .i64 (s1), .slice (A1) (n1) (c1), .int .i64 (t1), .slice (B1) (m1) (d1)]) (by simp [results,results36,go_sem,hc1,z1_0,hf1]) rfl (jan rfl (by constructor <;> (with_reducible repeat first|assumption|apply rZ|refine rP ?_ rfl (by simp [go_sem,hc1,z1_0,hf1]))) bi)
end

theorem Pv.twoAt {w:World} {t:TypeId} {a1 a2 b1 b2:List UInt8} {b:Nat} (hb:b=w.heap.size):Pv (w.alloc (.cells #[bs a1,bs a2,bs b1,bs b2] t)) (some ⟨b,0,none⟩) 2 [(a1,a2),(b1,b2)]:=by
 subst hb
 exact ⟨rfl,fun _=>⟨w.heap.size,0,rfl,by simp,fun j hj=>by
  have h:j=0∨j=1:=by omega
  rcases h with rfl|rfl <;> simp⟩⟩
theorem jzx {w:World} {a1 a2 b1 b2:List UInt8} {A:Option Addr} {n c:Nat} {k:Int} (hk:jar jwt [(a1,a2),(b1,b2)]=k) (hE:Env w) (hs:Pv w A n [(a1,a2),(b1,b2)]) (hn:n≤100000)
  (h1:a1.length < 4294967281) (h2:a2.length < 4294967281) (h3:b1.length < 4294967281) (h4:b2.length < 4294967281):
  Calls prog 30 #[.func (.func 31) #[] #[], .slice A n c] w fun e w'=>e= .returned (.int .i64 k)∧Below w.heap.size w w':=by
 subst hk
 exact jzC (c:=c) (f:=jwt) hs hn (fun l hm V hV=>by
  rcases List.mem_cons.1 hm with rfl|hm
  ·exact jxV (hE.below hV) h1 h2
  ·rcases List.mem_cons.1 hm with rfl|hm
   ·exact jxV (hE.below hV) h3 h4
   ·cases hm)

structure SmallQ (x:Rat):Prop where
 lo: -9223372036854775808 < x.num
 hi:x.num < 9223372036854775808
 den:x.den < 9223372036854775808
theorem Rep.is_small {w:World} {s z:Int} {A:Option Addr} {n c:Nat} (h:Rep w s A n c z) (h0: -9223372036854775808 < z) (h1:z < 9223372036854775808):s=z∧A=none∧n=0∧c=0:=by
 cases h with
 | small _ _ _=>exact ⟨rfl,rfl,rfl,rfl⟩
 | plus _ _ _ ds h=>have:=h.big;omega
 | minus _ _ _ ds h=>have:=h.big;omega
abbrev fq (x:Rat):Value:=fv x.num none 0 0 ((x.den:Nat):Int) none 0 0
theorem SmallQ.rep {x:Rat} (h:SmallQ x) (w:World):RepF w x.num none 0 0 ((x.den:Nat):Int) none 0 0 x:=
 ⟨.small _ (by have:=h.lo;omega) h.hi, .small _ (by omega) (by have:=h.den;omega)⟩
theorem SmallQ.post {x:Rat} (hs:SmallQ x) {w w':World} {e:Ending} (h:jaa x w e w'):e= .returned (fq x)∧Below w.heap.size w w':=by
 obtain ⟨s,A,n,c,t,B,m,d,rfl,⟨h1,h2⟩,hb⟩:=h;obtain ⟨rfl,rfl,rfl,rfl⟩:=h1.is_small hs.lo hs.hi;obtain ⟨rfl,rfl,rfl,rfl⟩:=h2.is_small (by omega) (by have:=hs.den;omega);exact ⟨rfl,hb⟩
theorem SmallQ.sz {x:Rat} (h:SmallQ x):Sz 1 x:=⟨by rw [Nat.pow_one,ja3];have:=h.lo;have:=h.hi;omega,by rw [Nat.pow_one,ja3];have:=h.den;omega⟩
theorem jk6 (g j:Nat):(⟨g,0,none⟩:Addr).add j=⟨g,j,none⟩:=by unfold Addr.add;split <;> simp_all
theorem jeZ {w w':World} (h:Below w.heap.size w w'):w.grownBy w' none:=⟨h.os,h.tape,h.output,h.size,fun k hk _=>h.block k hk⟩
theorem jab {w w':World} {base:Nat} {row:Option Nat} (h:w.grownBy w' row) (hb:base≤w.heap.size) (hr:∀k,row=some k→base≤k):Below base w w':=
 ⟨h.os,h.tape,h.output,h.size,fun k hk=>h.block k (Nat.lt_of_lt_of_le hk hb) (fun e=>by have:=hr k e.symm;omega)⟩
theorem jdG {P:Program} {o:Oper} {a:Act} {K:Act→World→Prop} {Q:Exit→Act→World→Prop} {w w':World} {v z v':Value} {t:TypeId} (s y:Operand)
  (ho:o.op= .call { callee:= .builtin .append,args:= #[s,y],argTypes:= #[t,t] }) (hs:a.eval s=v) (hy:a.eval y=z)
  (hr:(Builtin.append_ #[t,t] o.type #[v,z]).run P w= .ok v' w') (hK:K (a.put o.dst v') w'):o.wp P a w K Q:=by
 unfold Oper.wp execOp;simp only [ho,resolve,invoke,builtin,Sem.run_bind,Sem.run_pure,Result.andThen_ok,List.map_toArray,List.map_cons,List.map_nil,hs,hy,hr];exact hK

def NoU (w:World) (g:Nat):Prop:=∃cur t f,w.heap[g]? =some (.cells cur t f)∧∀u∈cur.toList,∀z,u≠ .int .u64 z
theorem NoU.cell {w:World} {g o:Nat} {z:Int} (h:NoU w g):w.cell? ⟨g,o,none⟩≠some (.int .u64 z):=by
 obtain ⟨cur,t,f,h1,h2⟩:=h;rw [cell_of_row w g o cur t f h1];intro e;exact h2 _ (by have:=Array.mem_of_getElem? e;simpa using this) z rfl
theorem NoU.kept {w w':World} {g:Nat} (h:NoU w g) (e:w'.heap[g]? =w.heap[g]?):NoU w' g:=by
 obtain ⟨cur,t,f,h1,h2⟩:=h;exact ⟨cur,t,f,e.trans h1,h2⟩
theorem Rep.grown {w w':World} {s z:Int} {A:Option Addr} {n c:Nat} {row:Option Nat} (h:Rep w s A n c z) (hg:w.grownBy w' row) (hr:∀g,row=some g→NoU w g):Rep w' s A n c z:=by
 have key {ds:List Nat} (hb:Big w A n c ds):Big w' A n c ds:=⟨⟨hb.wd.len,hb.wd.dig,hb.wd.big,fun hn=>by
  obtain ⟨b,o,e,hl,hc⟩:=hb.wd.at_ hn
  have hne:some b≠row:=fun e2=>by
   have:=(hr b e2.symm).cell (o:=o+0) (z:=((dg ds 0:Nat):Int));exact this (hc 0 hn)
  exact ⟨b,o,e,Nat.lt_of_lt_of_le hl hg.size,fun j hj=>hg.cell (hc j hj) hne⟩⟩,hb.trim,hb.cap,hb.lim,hb.big⟩
 cases h with
 | small _ h0 h1=>exact .small _ h0 h1
 | plus _ _ _ ds h=>exact .plus _ _ _ ds (key h)
 | minus _ _ _ ds h=>exact .minus _ _ _ ds (key h)
abbrev FT:=(Int×Option Addr×Nat×Nat)×(Int×Option Addr×Nat×Nat)
def fts (q:FT):List Value:=[.int .i64 q.1.1, .slice q.1.2.1 q.1.2.2.1 q.1.2.2.2, .int .i64 q.2.1, .slice q.2.2.1 q.2.2.2.1 q.2.2.2.2]
abbrev jlE (w:World) (q:FT) (x:Rat):Prop:=RepF w q.1.1 q.1.2.1 q.1.2.2.1 q.1.2.2.2 q.2.1 q.2.2.1 q.2.2.2.1 q.2.2.2.2 x
theorem jgw {w:World} {cs:Array Value} {t:TypeId} (h:∀u∈cs.toList,∀z,u≠ .int .u64 z):NoU (w.alloc (.cells cs t)) w.heap.size:=⟨cs,t,(0,0),heap_alloc_new w _,h⟩
theorem jo6 {q:FT}:∀u∈fts q,∀z,u≠ .int .u64 z:=by
 intro u hu z;simp [fts] at hu;rcases hu with rfl|rfl|rfl|rfl <;> simp
end Go.Proofs.YtfagcpcikjlboaaGreatDoor
