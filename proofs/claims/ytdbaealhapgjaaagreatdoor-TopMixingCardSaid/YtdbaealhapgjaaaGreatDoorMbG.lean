/- Parts. -/
import Derived.Test.YtdbaealhapgjaaaGreatDoorFfG
import Derived.Laws.RangeAny
import Derived.Shelf.SlSortCmp.Insertion1
import Derived.Maps.AppendAt
import Derived.Sort.KeysCollected
set_option linter.all false
set_option maxRecDepth 100000
set_option maxHeartbeats 8000000
namespace Go.Proofs.YtdbaealhapgjaaaGreatDoor
open Go Go.RowKit Go.Proofs.Tryz

def jz5 (n:Nat):Bool:=(decide (97≤n) && decide (n≤122)) || (decide (65≤n) && decide (n≤90)) || (decide (48≤n) && decide (n≤57)) || n==45 || n==95 || n==46
def jyT (l:List UInt8):Bool:=l.all (fun c=>jz5 c.toNat) && decide (1≤l.length) && decide (l.length≤24)
theorem jzE {n:Nat} (h:jz5 n=true):n < 128:=by
 simp [jz5] at h;omega
theorem jBK (s:ByteArray) (pos:Nat) (h:pos < s.size):∃r k:Nat,Utf8.decode s pos=(r,k)∧1≤k∧jz5 r=jz5 (s[pos]'h).toNat∧(jz5 r=true→k=1):=by
 by_cases ha:(s[pos]'h).toNat < 128
 ·exact ⟨_,_,decode_ascii s pos h ha,by omega,rfl,fun _=>rfl⟩
 ·have h2:=decode_high s pos h (by omega);refine ⟨(Utf8.decode s pos).1,(Utf8.decode s pos).2,rfl,h2.2, ?_, ?_⟩
  ·have e1:jz5 (Utf8.decode s pos).1=false:=by
    rcases hb:jz5 (Utf8.decode s pos).1 with _ | _
    ·rfl
    ·have:=jzE hb;omega
   have e2:jz5 (s[pos]'h).toNat=false:=by
    rcases hb:jz5 (s[pos]'h).toNat with _ | _
    ·rfl
    ·have:=jzE hb;omega
   rw [e1,e2]
  ·intro hb;have:=jzE hb;omega

theorem jyN (w:World) (s:ByteArray) (pos:Nat):Below w.heap.size w (w.iter s pos):=(Below.refl _ _).alloc (Nat.le_refl _) _
section
variable {w:World} {l:List UInt8}
theorem jAz:Calls prog 115 #[bs l] w fun e w'=>e= .returned (.bool (jyT l))∧Below w.heap.size w w':=by
 obtain ⟨R,hR⟩:∃R,jyT l=R:=⟨_,rfl⟩;rw [hR];have HR:=qh hR;clear hR;go_enter func115,ntmps115;go_wp2
 go_loopw [4] (fun _ wr=>∃pos:Nat,wr=w.iter ⟨l.toArray⟩ pos∧pos≤l.length∧(l.take pos).all (fun c=>jz5 c.toNat)=true) (fun _ wr=>l.length - wr.iterPos w.heap.size)
 case atStart=>exact ⟨0,rfl,by omega,by simp⟩
 case round=>
  obtain ⟨pos,rfl,hle,hall⟩:=hrel;by_cases hp:pos < l.length
  ·have hps:pos < (⟨l.toArray⟩:ByteArray).size:=by simpa [ByteArray.size] using hp
   obtain ⟨r,k,hd,hk1,hn,hk⟩:=jBK ⟨l.toArray⟩ pos hps
   have hnx:∀ty,(Instr.next (.pointer (some ⟨w.heap.size,0,none⟩)) true ty).run prog (w.iter ⟨l.toArray⟩ pos)= .ok (.tuple #[.bool true, .int .i64 pos, .int .i32 (r:Int)]) (w.iter ⟨l.toArray⟩ (pos+k)):=fun ty=>by
    have:=run_next_any (P:=prog) w ⟨l.toArray⟩ pos ty hps;rwa [hd] at this
   have hc:(⟨l.toArray⟩:ByteArray)[pos]'hps=l[pos]:=by simp [ByteArray.getElem_eq_getElem_data]
   rw [hc] at hn;cases hg:jz5 r with
   | true=>
     have hk':=hk hg;subst hk';have HP:=qh hp
     have HALL:=qh (show (l.take (pos+1)).all (fun c=>jz5 c.toNat)=true by
      rw [List.take_succ_eq_append_getElem hp,List.all_append,hall];simp [←hn,hg])
     clear hd hk1 hk hn hc hall hle hps hp;have hg2:=hg;simp only [jz5,Bool.or_eq_true,Bool.and_eq_true,decide_eq_true_eq,beq_iff_eq] at hg2;clear hg;rcases hg2 with ((((h1|h1)|h1)|h1)|h1)|h1
     ·have q1:decide ((97:Int)≤(r:Int))=true:=by simp;omega
      have q2:decide ((r:Int)≤122)=true:=by simp;omega
      have q3:decide ((65:Int)≤(r:Int))=true:=by simp;omega
      have q4:decide ((r:Int)≤90)=false:=by simp;omega
      have q5:decide ((48:Int)≤(r:Int))=true:=by simp;omega
      have q6:decide ((r:Int)≤57)=false:=by simp;omega
      have q7:((r:Int) != 45)=true:=by simp;omega
      have q8:((r:Int) != 95)=true:=by simp;omega
      have q9:((r:Int) != 46)=true:=by simp;omega
      clear h1;go_wp2
      go_roundw
      case rel=>
       exact ⟨pos+1,rfl,by have:=HP.o;omega,HALL.o⟩
      case measure=>
       have:=HP.o;simp;omega
     ·have q1:decide ((97:Int)≤(r:Int))=false:=by simp;omega
      have q2:decide ((r:Int)≤122)=true:=by simp;omega
      have q3:decide ((65:Int)≤(r:Int))=true:=by simp;omega
      have q4:decide ((r:Int)≤90)=true:=by simp;omega
      have q5:decide ((48:Int)≤(r:Int))=true:=by simp;omega
      have q6:decide ((r:Int)≤57)=false:=by simp;omega
      have q7:((r:Int) != 45)=true:=by simp;omega
      have q8:((r:Int) != 95)=true:=by simp;omega
      have q9:((r:Int) != 46)=true:=by simp;omega
      clear h1;go_wp2
      go_roundw
      case rel=>
       exact ⟨pos+1,rfl,by have:=HP.o;omega,HALL.o⟩
      case measure=>
       have:=HP.o;simp;omega
     ·have q1:decide ((97:Int)≤(r:Int))=false:=by simp;omega
      have q2:decide ((r:Int)≤122)=true:=by simp;omega
      have q3:decide ((65:Int)≤(r:Int))=false:=by simp;omega
      have q4:decide ((r:Int)≤90)=true:=by simp;omega
      have q5:decide ((48:Int)≤(r:Int))=true:=by simp;omega
      have q6:decide ((r:Int)≤57)=true:=by simp;omega
      have q7:((r:Int) != 45)=true:=by simp;omega
      have q8:((r:Int) != 95)=true:=by simp;omega
      have q9:((r:Int) != 46)=true:=by simp;omega
      clear h1;go_wp2
      go_roundw
      case rel=>
       exact ⟨pos+1,rfl,by have:=HP.o;omega,HALL.o⟩
      case measure=>
       have:=HP.o;simp;omega
     ·have q1:decide ((97:Int)≤(r:Int))=false:=by simp;omega
      have q2:decide ((r:Int)≤122)=true:=by simp;omega
      have q3:decide ((65:Int)≤(r:Int))=false:=by simp;omega
      have q4:decide ((r:Int)≤90)=true:=by simp;omega
      have q5:decide ((48:Int)≤(r:Int))=false:=by simp;omega
      have q6:decide ((r:Int)≤57)=true:=by simp;omega
      have q7:((r:Int) != 45)=false:=by simp;omega
      have q8:((r:Int) != 95)=true:=by simp;omega
      have q9:((r:Int) != 46)=true:=by simp;omega
      clear h1;go_wp2
      go_roundw
      case rel=>
       exact ⟨pos+1,rfl,by have:=HP.o;omega,HALL.o⟩
      case measure=>
       have:=HP.o;simp;omega
     ·have q1:decide ((97:Int)≤(r:Int))=false:=by simp;omega
      have q2:decide ((r:Int)≤122)=true:=by simp;omega
      have q3:decide ((65:Int)≤(r:Int))=true:=by simp;omega
      have q4:decide ((r:Int)≤90)=false:=by simp;omega
      have q5:decide ((48:Int)≤(r:Int))=true:=by simp;omega
      have q6:decide ((r:Int)≤57)=false:=by simp;omega
      have q7:((r:Int) != 45)=true:=by simp;omega
      have q8:((r:Int) != 95)=false:=by simp;omega
      have q9:((r:Int) != 46)=true:=by simp;omega
      clear h1;go_wp2
      go_roundw
      case rel=>
       exact ⟨pos+1,rfl,by have:=HP.o;omega,HALL.o⟩
      case measure=>
       have:=HP.o;simp;omega
     ·have q1:decide ((97:Int)≤(r:Int))=false:=by simp;omega
      have q2:decide ((r:Int)≤122)=true:=by simp;omega
      have q3:decide ((65:Int)≤(r:Int))=false:=by simp;omega
      have q4:decide ((r:Int)≤90)=true:=by simp;omega
      have q5:decide ((48:Int)≤(r:Int))=false:=by simp;omega
      have q6:decide ((r:Int)≤57)=true:=by simp;omega
      have q7:((r:Int) != 45)=true:=by simp;omega
      have q8:((r:Int) != 95)=true:=by simp;omega
      have q9:((r:Int) != 46)=false:=by simp;omega
      clear h1;go_wp2
      go_roundw
      case rel=>
       exact ⟨pos+1,rfl,by have:=HP.o;omega,HALL.o⟩
      case measure=>
       have:=HP.o;simp;omega
   | false=>
     have hbad:jyT l=false:=by
      have:l.all (fun c=>jz5 c.toNat)=false:=by
       rw [Bool.eq_false_iff];intro h;have:=List.all_eq_true.1 h _ (List.getElem_mem hp);rw [←hn,hg] at this;cases this
      simp [jyT,this]
     have hR:R=false:=by rw [←HR.o];exact hbad
     subst hR;clear hbad hd hk1 hk hn hc hall hle hps hp
     have h1:r < 45∨r=47∨(58≤r∧r≤64)∨(91≤r∧r≤94)∨r=96∨123≤r:=by
      simp [jz5] at hg;omega
     clear hg;rcases h1 with h1|h1|h1|h1|h1|h1
     ·have q1:decide ((97:Int)≤(r:Int))=false:=by simp;omega
      have q2:decide ((r:Int)≤122)=true:=by simp;omega
      have q3:decide ((65:Int)≤(r:Int))=false:=by simp;omega
      have q4:decide ((r:Int)≤90)=true:=by simp;omega
      have q5:decide ((48:Int)≤(r:Int))=false:=by simp;omega
      have q6:decide ((r:Int)≤57)=true:=by simp;omega
      have q7:((r:Int) != 45)=true:=by simp;omega
      have q8:((r:Int) != 95)=true:=by simp;omega
      have q9:((r:Int) != 46)=true:=by simp;omega
      clear h1;go_wp2;go_ret;exact ⟨by simp,jyN w _ _⟩
     ·have q1:decide ((97:Int)≤(r:Int))=false:=by simp;omega
      have q2:decide ((r:Int)≤122)=true:=by simp;omega
      have q3:decide ((65:Int)≤(r:Int))=false:=by simp;omega
      have q4:decide ((r:Int)≤90)=true:=by simp;omega
      have q5:decide ((48:Int)≤(r:Int))=false:=by simp;omega
      have q6:decide ((r:Int)≤57)=true:=by simp;omega
      have q7:((r:Int) != 45)=true:=by simp;omega
      have q8:((r:Int) != 95)=true:=by simp;omega
      have q9:((r:Int) != 46)=true:=by simp;omega
      clear h1;go_wp2;go_ret;exact ⟨by simp,jyN w _ _⟩
     ·have q1:decide ((97:Int)≤(r:Int))=false:=by simp;omega
      have q2:decide ((r:Int)≤122)=true:=by simp;omega
      have q3:decide ((65:Int)≤(r:Int))=false:=by simp;omega
      have q4:decide ((r:Int)≤90)=true:=by simp;omega
      have q5:decide ((48:Int)≤(r:Int))=true:=by simp;omega
      have q6:decide ((r:Int)≤57)=false:=by simp;omega
      have q7:((r:Int) != 45)=true:=by simp;omega
      have q8:((r:Int) != 95)=true:=by simp;omega
      have q9:((r:Int) != 46)=true:=by simp;omega
      clear h1;go_wp2;go_ret;exact ⟨by simp,jyN w _ _⟩
     ·have q1:decide ((97:Int)≤(r:Int))=false:=by simp;omega
      have q2:decide ((r:Int)≤122)=true:=by simp;omega
      have q3:decide ((65:Int)≤(r:Int))=true:=by simp;omega
      have q4:decide ((r:Int)≤90)=false:=by simp;omega
      have q5:decide ((48:Int)≤(r:Int))=true:=by simp;omega
      have q6:decide ((r:Int)≤57)=false:=by simp;omega
      have q7:((r:Int) != 45)=true:=by simp;omega
      have q8:((r:Int) != 95)=true:=by simp;omega
      have q9:((r:Int) != 46)=true:=by simp;omega
      clear h1;go_wp2;go_ret;exact ⟨by simp,jyN w _ _⟩
     ·have q1:decide ((97:Int)≤(r:Int))=false:=by simp;omega
      have q2:decide ((r:Int)≤122)=true:=by simp;omega
      have q3:decide ((65:Int)≤(r:Int))=true:=by simp;omega
      have q4:decide ((r:Int)≤90)=false:=by simp;omega
      have q5:decide ((48:Int)≤(r:Int))=true:=by simp;omega
      have q6:decide ((r:Int)≤57)=false:=by simp;omega
      have q7:((r:Int) != 45)=true:=by simp;omega
      have q8:((r:Int) != 95)=true:=by simp;omega
      have q9:((r:Int) != 46)=true:=by simp;omega
      clear h1;go_wp2;go_ret;exact ⟨by simp,jyN w _ _⟩
     ·have q1:decide ((97:Int)≤(r:Int))=true:=by simp;omega
      have q2:decide ((r:Int)≤122)=false:=by simp;omega
      have q3:decide ((65:Int)≤(r:Int))=true:=by simp;omega
      have q4:decide ((r:Int)≤90)=false:=by simp;omega
      have q5:decide ((48:Int)≤(r:Int))=true:=by simp;omega
      have q6:decide ((r:Int)≤57)=false:=by simp;omega
      have q7:((r:Int) != 45)=true:=by simp;omega
      have q8:((r:Int) != 95)=true:=by simp;omega
      have q9:((r:Int) != 46)=true:=by simp;omega
      clear h1;go_wp2;go_ret;exact ⟨by simp,jyN w _ _⟩
  ·have hnx:∀ty,(Instr.next (.pointer (some ⟨w.heap.size,0,none⟩)) true ty).run prog (w.iter ⟨l.toArray⟩ pos)=_:=fun ty=>run_next_end w ⟨l.toArray⟩ pos ty (by simpa [ByteArray.size] using hp)
   have e:jyT l=(decide (1≤l.length) && decide (l.length≤24)):=by
    unfold jyT;rw [List.take_of_length_le (by omega)] at hall;rw [hall];simp
   have hR:R=(decide (1≤l.length) && decide (l.length≤24)):=by rw [←HR.o];exact e
   clear HR;subst hR;have q1:decide ((1:Int)≤(l.length:Int))=decide (1≤l.length):=by rw [decide_eq_decide];omega
   have q2:decide ((l.length:Int)≤24)=decide (l.length≤24):=by rw [decide_eq_decide];omega
   clear hp hall hle e;obtain ⟨b1,hb1⟩:∃b,decide (1≤l.length)=b:=⟨_,rfl⟩;obtain ⟨b2,hb2⟩:∃b,decide (l.length≤24)=b:=⟨_,rfl⟩;rw [hb1] at q1;rw [hb2] at q2;have HB:=qh (ai hb1 hb2);clear hb1 hb2;cases b1
   ·go_wp2;go_ret;exact ⟨by rw [HB.o.1,HB.o.2];simp,jyN w _ _⟩
   ·go_wp2;go_ret;exact ⟨by rw [HB.o.1,HB.o.2];simp,jyN w _ _⟩
theorem jyM {g:Bool} (hg:jyT l=g):Calls prog 115 #[bs l] w fun e w'=>e= .returned (.bool g)∧Below w.heap.size w w':=hg ▸ jAz
end

structure Iv (w:World) (A:Option Addr) (n:Nat) (zs:List Int):Prop where
 len:zs.length=n
 rng:∀z∈zs,R64 z
 at_:0 < n→∃b o,A=some ⟨b,o,none⟩∧b < w.heap.size∧∀j,j < n→w.cell? ⟨b,o+j,none⟩=some (.int .i64 (zs.getD j 0))
theorem Iv.below {w w':World} {A:Option Addr} {n:Nat} {zs:List Int} (h:Iv w A n zs) (hb:Below w.heap.size w w'):Iv w' A n zs:=
 ⟨h.len,h.rng,fun hn=>by
   obtain ⟨b,o,e,h1,h2⟩:=h.at_ hn
   exact ⟨b,o,e,Nat.lt_of_lt_of_le h1 hb.size,fun j hj=>by rw [hb.cell (p:=⟨b,o+j,none⟩) h1];exact h2 j hj⟩⟩

def jvH (s:Int):List Int→Int×Int
 | []=>if s=0 then (0,6) else (s,0)
 | x::r=>if x < 0∨999999999 < x then (0,3) else jvH (s+x) r
def cw (ws:List Int):Int×Int:=jvH 0 ws
theorem jAR {zs:List Int} {i:Nat} (h:i < zs.length):zs.drop i=zs.getD i 0::zs.drop (i+1):=by
 rw [List.drop_eq_getElem_cons h,List.getD_eq_getElem?_getD,List.getElem?_eq_getElem h];rfl

section
variable {w:World} {A:Option Addr} {n c:Nat} {ws:List Int}
theorem jzg (h:Iv w A n ws) (hn:n≤100000):Calls prog 70 #[.slice A n c] w fun e w'=>e= .returned (.tuple #[.int .i64 (cw ws).1, .int .i64 (cw ws).2])∧Below w.heap.size w w':=by
 obtain ⟨R,hR⟩:∃R,cw ws=R:=⟨_,rfl⟩;rw [hR];have HR:=qh hR;have H:=qh h;have HN:=qh hn;clear hR h hn;go_enter func70,ntmps70;go_wp2
 go_loopw [4,9] (fun v u wr=>∃(s:Int) (i:Nat),v= .int .i64 s∧u= .int .i64 (i:Int)∧wr=w∧i≤n∧0≤s∧s≤i*999999999∧jvH s (ws.drop i)=R) (fun _ u _=>n - (intOf u).toNat)
 case atStart=>exact ⟨0,0,rfl,rfl,rfl,by omega,by omega,by omega,HR.o⟩
 case round=>
  obtain ⟨s,i,rfl,rfl,rfl,hin,hs0,hs1,hc⟩:=hrel;by_cases hi:i < n
  ·have q0:decide ((i:Int) < (n:Int))=true:=by simp;exact hi
   obtain ⟨b,o,rfl,hb,hcell⟩:=H.o.at_ (by omega);have hx:=hcell i hi;rw [jAR (by rw [H.o.len];exact hi)] at hc;obtain ⟨x,hxx⟩:∃x,ws.getD i 0=x:=⟨_,rfl⟩;rw [hxx] at hx hc;have hnn:=HN.o;clear hcell;by_cases hx0:x < 0
   ·have hR:R=(0,3):=by rw [←hc];unfold jvH;rw [if_pos (Or.inl hx0)]
    have q1:decide (x < 0)=true:=by simp;exact hx0
    subst hR;clear hc HR hx0;go_wp2;go_ret2;exact ⟨rfl,bi⟩
   ·have q1:decide (x < 0)=false:=by simp;omega
    by_cases hx1:999999999 < x
    ·have hR:R=(0,3):=by rw [←hc];unfold jvH;rw [if_pos (Or.inr hx1)]
     have q2:decide (999999999 < x)=true:=by simp;exact hx1
     subst hR;clear hc HR hx0 hx1;go_wp2;go_ret2;exact ⟨rfl,bi⟩
    ·have q2:decide (999999999 < x)=false:=by simp;omega
     have hc2:jvH (s+x) (ws.drop (i+1))=R:=by
      rw [←hc];conv=>rhs;unfold jvH
      rw [if_neg (by omega)]
     have HC:=qh hc2;have hw:wrap64 (s+x)=s+x:=by unfold wrap64;omega
     have HS:=qh (show 0≤s+x∧s+x≤((i+1:Nat):Int)*999999999 by omega);have HI:=qh hi;clear hc hc2 hx0 hx1 hs0 hs1;go_wp2;exact ⟨⟨s+x,i+1,by simp [hw],by simp,by first|rfl|trivial,HI.o,HS.o.1,HS.o.2,HC.o⟩,by have:=HI.o;simp [intOf];omega⟩
  ·have q0:decide (i < n)=false:=by simp;omega
   rw [List.drop_eq_nil_of_le (by rw [H.o.len];omega)] at hc;by_cases h0:s=0
   ·subst h0;have hR:R=(0,6):=by rw [←hc];rfl
    subst hR;clear hc HR hi;go_wp2;go_ret2;exact ⟨rfl,bi⟩
   ·have hR:R=(s,0):=by rw [←hc];unfold jvH;rw [if_neg h0]
    have q1:(s==0)=false:=by rw [beq_eq_false_iff_ne];exact h0
    subst hR;clear hc HR hi h0;go_wp2;go_ret2;exact ⟨rfl,bi⟩
end

section
variable {W:World} {p2 p3 p4:Nat} {bw ow n c:Nat} {ws:List Int} {t s:Int}
end
section
variable {W:World} {blk p2 p3 p4 bw ow m c cap:Nat} {ws:List Int} {t s:Int}
end


def jdV (zs:List Int):Array Value:=(zs.map (Value.int .i64)).toArray
theorem jfc {zs:List Int} {j:Nat} (h:j < zs.length):(jdV zs)[j]? =some (.int .i64 (zs.getD j 0)):=by
 simp [jdV,List.getD_eq_getElem?_getD,h]
theorem jgX (zs:List Int) (i:Nat) (z:Int):(jdV zs).setIfInBounds i (.int .i64 z)=jdV (zs.set i z):=by
 simp [jdV,List.map_set]
theorem jBo:(prog.info? 3).map (fun i=>(i.zero,i.size,i.bytes))=some (some (.int .i64 0),1,8):=by kernel_rfl
theorem jh3 (l:Nat):madeCells #[Value.int .i64 0] (l*1)=jdV (List.replicate l 0):=by
 apply Array.ext
 ·simp [madeCells,jdV]
 ·intro i h1 h2;simp [madeCells,jdV,Nat.mod_one]
theorem jgZ (l:Nat) (hl:l < 1099511627776) (W:World):
  (Instr.makeSlice 57 (.int .i64 (l:Int)) (.int .i64 (l:Int))).run prog W= .ok (.slice (some ⟨W.heap.size,0,none⟩) l l) (W.alloc (.cells (jdV (List.replicate l 0)) 3)):=by
 obtain ⟨i0,hi,hz0,hz1,hz2⟩:=info_parts jBo;have hr:=run_make (P:=prog) W 57 3 i0 (.int .i64 0) underlying57 hi hz0 .i64 .i64 (l:Int) (l:Int) (by omega) (by omega) (by rw [hz2];omega) (by omega);simp only [Int.toNat_natCast,hz1] at hr;rw [hr,show (Value.int IntKind.i64 0).cells= #[Value.int .i64 0] from rfl,jh3]

def jvw (f:Nat→Int) (n i:Nat):List Int:=(List.range n).map fun j=>if j < i then f j else 0
structure A1 (w wr:World) (b6 n c i:Nat) (A:Option Addr) (t s:Int) (q:Nat→Int):Prop where
 bO:Blk wr (b6+1) 3 (jdV (jvw q n i))
 bP:Blk wr (b6+1+1) 3 (jdV (jvw (fun j=>(j:Int)) n i))
 c2:wr.cell? ⟨w.heap.size,0,none⟩=some (.int .i64 t)
 c3:wr.cell? ⟨w.heap.size+1,0,none⟩=some (.slice A n c)
 c4:wr.cell? ⟨b6,0,none⟩=some (.int .i64 s)
 bel:Below w.heap.size w wr
 sz:w.heap.size+1 < b6

theorem jeC {α:Type} [Inhabited α] (enc:α→Value) (w:World) (blk off:Nat) (d:Array α) {g:Nat} (h:g≠blk):(Sort.putRow enc w blk off d).heap[g]? =w.heap[g]? :=by
 unfold Sort.putRow Sort.mapBlock;simp only [Array.getElem?_modify];rw [if_neg (Ne.symm h)]
theorem Blk.putRow {α:Type} [Inhabited α] {enc:α→Value} {w:World} {blk off g T:Nat} {cs:Array Value} {d:Array α} (h:Blk w g T cs) (hg:g≠blk):Blk (Sort.putRow enc w blk off d) g T cs:=by
 show (Sort.putRow enc w blk off d).heap[g]? =_
 rw [jeC _ _ _ _ _ hg];exact h
theorem jmn {α:Type} [Inhabited α] {enc:α→Value} {B:Nat} {a w:World} {blk off:Nat} {d:Array α} (h:Below B a w) (hb:B≤blk):Below B a (Sort.putRow enc w blk off d):=
 ⟨h.os,h.tape,h.output,by rw [Sort.size_putRow];exact h.size,fun k hk=>by
   rw [jeC _ _ _ _ _ (by omega)];exact h.block k hk⟩
def outs (t s:Int) (f:Nat→Int) (L:List Nat) (n j:Nat):List Int:=(List.range n).map (App.out t s f L j)
structure A2 (w wr V:World) (b6 n:Nat) (zs:List Int):Prop where
 bO:Blk wr (b6+1) 3 (jdV zs)
 bel:Below w.heap.size w wr
 pl:∀j,wr.cell? ⟨b6+1+1,j,none⟩=V.cell? ⟨b6+1+1,j,none⟩
 sz:w.heap.size+1 < b6
section
variable {w:World} {A:Option Addr} {n c:Nat} {ws:List Int} {t s:Int}
end

structure Sv (w:World) (A:Option Addr) (n:Nat) (ls:List (List UInt8)):Prop where
 len:ls.length=n
 at_:0 < n→∃b o,A=some ⟨b,o,none⟩∧b < w.heap.size∧∀j,j < n→w.cell? ⟨b,o+j,none⟩=some (bs (ls.getD j []))
theorem Sv.below {w w':World} {A:Option Addr} {n:Nat} {ls:List (List UInt8)} (h:Sv w A n ls) (hb:Below w.heap.size w w'):Sv w' A n ls:=
 ⟨h.len,fun hn=>by
   obtain ⟨b,o,e,h1,h2⟩:=h.at_ hn
   exact ⟨b,o,e,Nat.lt_of_lt_of_le h1 hb.size,fun j hj=>by rw [hb.cell (p:=⟨b,o+j,none⟩) h1];exact h2 j hj⟩⟩
theorem Sv.two (w:World) (t:TypeId) (k l:List UInt8):Sv (w.alloc (.cells #[bs k,bs l] t)) (some ⟨w.heap.size,0,none⟩) 2 [k,l]:=
 ⟨rfl,fun _=>⟨w.heap.size,0,rfl,by simp,fun j hj=>by
   have h:j=0∨j=1:=by omega
   rcases h with rfl|rfl <;> simp⟩⟩
def jar {α:Type} (f:α→Int):List α→Int
 | []=>0
 | x::r=>if f x=0 then jar f r else f x
theorem jd5 {α:Type} {d:α} {l:List α} {i:Nat} (h:i < l.length):l.drop i=l.getD i d::l.drop (i+1):=by
 rw [List.drop_eq_getElem_cons h,List.getD_eq_getElem?_getD,List.getElem?_eq_getElem h];rfl
theorem jed {α:Type} {f:α→Int} {x:α} {r:List α} (h:f x≠0):jar f (x::r)=f x:=by simp [jar,h]
theorem jf3 {α:Type} {f:α→Int} {x:α} {r:List α} (h:f x=0):jar f (x::r)=jar f r:=by simp [jar,h]

section
variable {w:World} {A:Option Addr} {n c:Nat} {ls:List (List UInt8)} {f:List UInt8→Int}
theorem jx6
(h:Sv w A n ls) (hn:n≤100000) (hf:∀l∈ls,∀W,Below w.heap.size w W→Calls prog 110 #[bs l] W fun e w'=>e= .returned (.int .i64 (f l))∧Below W.heap.size W w'):
  Calls prog 140 #[.func (.func 110) #[] #[], .slice A n c] w fun e w'=>e= .returned (.int .i64 (jar f ls))∧Below w.heap.size w w':=by
  obtain ⟨R,hR⟩:∃R,jar f ls=R:=⟨_,rfl⟩;rw [hR];have HR:=qh hR;have H:=qh h;have HN:=qh hn;have HF:=qh hf;clear hR h hn hf;go_enter func140,ntmps140;go_wp2
  go_loopw [10] (fun u wr=>∃(i:Nat),u= .int .i64 (i:Int)∧Below w.heap.size w wr∧i≤n∧jar f (ls.drop i)=R) (fun u _=>n - (intOf u).toNat)
  case atStart=>exact ⟨0,rfl,bi,by omega,HR.o⟩
  case round=>
   obtain ⟨i,rfl,hb,hin,hc⟩:=hrel;have _:=bm hb;by_cases hi:i < n
   ·have q0:decide ((i:Int) < (n:Int))=true:=by simp;exact hi
    obtain ⟨b,o,rfl,hbl,hcell⟩:=(H.o.below hb).at_ (by omega);have hx:=hcell i hi;have hil:i < ls.length:=by rw [H.o.len];exact hi
    rw [jd5 (d:=[]) hil] at hc;have hmem:ls.getD i []∈ls:=by rw [List.getD_eq_getElem?_getD,List.getElem?_eq_getElem hil];exact List.getElem_mem hil
    obtain ⟨x,hxx⟩:∃x,ls.getD i []=x:=⟨_,rfl⟩;rw [hxx] at hx hc hmem;have HX:=qh (HF.o x hmem wr hb);have hnn:=HN.o;have HI:=qh hi;clear hcell hmem hil hxx;by_cases h0:f x=0
    ·have HC:Hd (jar f (ls.drop (i+1))=R):=qh (by rw [←hc,jf3 h0]);rw [h0] at HX;clear hc h0 hi;go_wp2_with (go_at_call 110;(with_reducible refine mo0 (HX.o) fun w1 hb1 hc1 hf1 _=> ?_))
     exact ⟨⟨i+1,by simp,bi,HI.o,HC.o⟩,by have:=HI.o;simp [intOf];omega⟩
    ·have hR:R=f x:=by rw [←hc,jed h0]
     subst hR;obtain ⟨y,hy⟩:∃y,f x=y:=⟨_,rfl⟩;rw [hy] at HX;have q1:(y != 0)=true:=by rw [bne_iff_ne,←hy];exact h0
     have HY:=qh hy;clear hc h0 hi hy HR;go_wp2_with (go_at_call 110;(with_reducible refine mo0 (HX.o) fun w1 hb1 hc1 hf1 _=> ?_))
     go_ret;exact ⟨by rw [HY.o];rfl,bi⟩
   ·have q0:decide (i < n)=false:=by simp;omega
    rw [List.drop_eq_nil_of_le (by rw [H.o.len];omega)] at hc;have hR:R=0:=by rw [←hc];rfl
    subst hR;clear hc hi HR;go_wp2;go_ret;exact ⟨rfl,bi⟩
end

noncomputable def numQ (l:List UInt8):Rat:= @dite _ (∃x,IsNum l x) (Classical.propDecidable _) (fun h=>Classical.choose h) (fun _=>0)
theorem IsNum.numQ {l:List UInt8} {x:Rat} (h:IsNum l x):numQ l=x:=by
 have h1:∃x,IsNum l x:=⟨x,h⟩;unfold Proofs.YtdbaealhapgjaaaGreatDoor.numQ;rw [dif_pos h1];exact (Classical.choose_spec h1).inj h
theorem jjb {l:List UInt8} (h:chk l=0):IsNum l (numQ l):=by
 obtain ⟨x,hx⟩:=jjL.1 h;rw [hx.numQ];exact hx
noncomputable def mst (l:List UInt8):Int:=if chk l=0 then (if numQ l < 0∨100≤numQ l then 3 else 0) else chk l
theorem jln {w:World} {l:List UInt8} {k:Int} (hk:chk l=k) (hE:Env w) (hl:l.length < 4294967281):Calls prog 110 #[bs l] w fun e w'=>e= .returned (.int .i64 k)∧Below w.heap.size w w':=hk ▸ jnZ hE hl
theorem jg2 {w:World} {s t:Int} {A B:Option Addr} {n c m d:Nat} {x:Rat} {k:Int} (hk:sgn x.num=k) (h:RepF w s A n c t B m d x):Calls prog 111 #[fv s A n c t B m d] w fun e w'=>e= .returned (.int .i64 k)∧Below w.heap.size w w':=hk ▸ jlS h
theorem jgN {x:Rat}:x.num < 0↔x < 0:=by rw [Rat.lt_iff];simp
theorem jrr {k n:Nat} (h:k < 10^n):k≤B64^n:=Nat.le_of_lt (Nat.lt_of_lt_of_le h (Nat.pow_le_pow_left (by rw [ja3];omega) n))
theorem jeT (n:Nat):n < 10^(Go.Lib.decDigits n).length:=by
 have h:=Dig.val_lt (Go.Lib.decDigits n) (Dig.digits_dig n).1;rwa [Dig.val_digits] at h
theorem jqR {n k:Nat} (h:(Go.Lib.decDigits n).length≤k):n≤B64^k:=Nat.le_trans (jrr (jeT _)) (Nat.pow_le_pow_right ja6 h)
theorem juR {k:Nat} {x:Rat} (h1:(Go.Lib.decDigits x.num.natAbs).length≤k) (h2:(Go.Lib.decDigits x.den).length≤k):Sz k x:=⟨jqR h1,jqR h2⟩
theorem IsNum.sz {l:List UInt8} {x:Rat} (h:IsNum l x):Sz 600 x:=juR h.num h.den
theorem jej {a:Int} (h:R64 a):Sz 1 (a:Rat):=Sz.int (by rw [Nat.pow_one,ja3];have:=h.1;have:=h.2;omega)
theorem jes {w:World} {a:Int} {x:Rat} (hx:(a:Rat)=x) (h:R64 a):Calls prog 40 #[.int .i64 a] w (jaa x w):=hx ▸ jvd h

section
variable {w:World} {l:List UInt8} {x:Rat}
theorem jBc {k:Int} (hE:Env w) (hl:l.length < 4294967281) (hk:chk l=k) (h0:k≠0):Calls prog 49 #[bs l] w fun e w'=>e= .returned (.int .i64 k)∧Below w.heap.size w w':=by
 have HE:=qh hE;have HL:=qh hl;have HK:=qh hk;have q1:(k != 0)=true:=by rw [bne_iff_ne];exact h0
 clear hE hl hk h0;go_enter func49,ntmps49;go_wp2_with (go_at_call 110;(with_reducible refine mo0 (jln HK.o (HE.o.below bi) HL.o) fun w1 hb1 hc1 hf1 _=> ?_))
 go_ret;exact ⟨rfl,bi⟩
theorem jAP (hE:Env w) (hl:l.length < 4294967281) (hx:IsNum l x) (h0:x < 0):Calls prog 49 #[bs l] w fun e w'=>e= .returned (.int .i64 3)∧Below w.heap.size w w':=by
 have HE:=qh hE;have HL:=qh hl;have HK:=qh (jjL.2 ⟨x,hx⟩);have HX:=qh hx;have HS:=qh (show sgn x.num= -1 by unfold sgn;rw [if_pos (jgN.2 h0)]);clear hE hl hx h0;go_enter func49,ntmps49;go_wp2_with (first|(go_at_call 110;(with_reducible refine mo0 (jln HK.o (HE.o.below bi) HL.o) fun w1 hb1 hc1 hf1 _=> ?_))|(go_at_call 36;(with_reducible refine mf0 (jaz HX.o (HE.o.below bi)) fun w2 s2 A2 n2 c2 t2 B2 m2 d2 hr2 hq2 hb2 hc2 hf2 _=> ?_)))
 refine ja1 (fun w'=>Below (w2.alloc (.cells #[.int .i64 s2, .slice A2 n2 c2, .int .i64 t2, .slice B2 m2 d2] 82)).heap.size (w2.alloc (.cells #[.int .i64 s2, .slice A2 n2 c2, .int .i64 t2, .slice B2 m2 d2] 82)) w') [] (by kernel_rfl) ?_;refine tb 0 (.agg #[.int .i64 s2, .slice A2 n2 c2, .int .i64 t2, .slice B2 m2 d2]) [1] rfl (by kernel_rfl) pk rfl (by intros;go_simp) bq0 ?_;simp only [ppq];refine rd1 1 (by kernel_rfl) rfl (fun K hK=> ?_);go_simp;go_wp2_with (go_at_call 111;(with_reducible refine mo0 (jg2 HS.o (by constructor <;> (with_reducible repeat first|assumption|apply rZ|refine rP ?_ rfl (by simp [go_sem,hc2])))) fun w3 hb3 hc3 hf3 _=> ?_))
 have sS3:=qh (bst bq0 hb3);refine hK.out _ _ (fun _=>sS3.o) ?_;clear hK K;refine rd1 2 (by kernel_rfl) rfl (fun K hK=> ?_);go_simp;refine hK.out _ _ (fun _=>bi) ?_;clear hK K;refine rd1 3 (by kernel_rfl) rfl (fun K hK=> ?_);go_simp;refine hK.out _ _ (fun _=>bi) ?_;clear hK K;refine ts 4 [] rfl (by kernel_rfl) pk (by rfl) sS3.o ?_;simp only [ppq];refine rd1 5 (by kernel_rfl) rfl (fun K hK=> ?_);go_simp;refine hK.out _ _ (fun _=>bi) ?_;clear hK K;refine rd1 6 (by kernel_rfl) rfl (fun K hK=> ?_);go_simp;refine hK.out _ _ (fun _=>bi) ?_;clear hK K;refine rd1 7 (by kernel_rfl) rfl (fun K hK=> ?_);go_simp;refine hK.out _ _ (fun _=>bi) ?_;clear hK K;refine rd1 8 (by kernel_rfl) rfl (fun K hK=> ?_);go_simp;refine hK.out _ _ (fun _=>bi) ?_;clear hK K;refine ja2 (by kernel_rfl) ?_ _;go_wp2;go_ret;exact ⟨rfl,bi⟩

theorem jBl {b:Bool} (hE:Env w) (hl:l.length < 4294967281) (hx:IsNum l x) (h0:0≤x) (hb:decide (0≤Rq.cmpQ x 100)=b):Calls prog 49 #[bs l] w fun e w'=>e= .returned (.int .i64 (if b then 3 else 0))∧Below w.heap.size w w':=by
 have HE:=qh hE;have HL:=qh hl;have HK:=qh (jjL.2 ⟨x,hx⟩);have HX:=qh hx;obtain ⟨k,hk⟩:∃k,sgn x.num=k:=⟨_,rfl⟩
 have hk0:0≤k:=by
  rw [←hk];unfold sgn;have:¬x.num < 0:=fun h=>Rat.not_lt.2 h0 (jgN.1 h)
  rw [if_neg this];split <;> omega
 have q1:decide (k < 0)=false:=by simp;omega
 have HS:=qh hk;obtain ⟨j,hj⟩:∃j,Rq.cmpQ x 100=j:=⟨_,rfl⟩;have HJ:=qh hj;rw [hj] at hb;have HF:=qh (show ((100:Int):Rat)=100 from rfl);have HR:=qh (show R64 100 by constructor <;> decide);have H1:=qh hx.sz;have H2:=qh (jej HR.o);rw [HF.o] at H2;clear hE hl hx h0 hk hj hk0;cases b
 all_goals
  go_enter func49,ntmps49;go_wp2_with (first|(go_at_call 110;(with_reducible refine mo0 (jln HK.o (HE.o.below bi) HL.o) fun w1 hb1 hc1 hf1 _=> ?_))|(go_at_call 36;(with_reducible refine mf0 (jaz HX.o (HE.o.below bi)) fun w2 s2 A2 n2 c2 t2 B2 m2 d2 hr2 hq2 hb2 hc2 hf2 _=> ?_)))
  refine ja1 (fun w'=>Below (w2.alloc (.cells #[.int .i64 s2, .slice A2 n2 c2, .int .i64 t2, .slice B2 m2 d2] 82)).heap.size (w2.alloc (.cells #[.int .i64 s2, .slice A2 n2 c2, .int .i64 t2, .slice B2 m2 d2] 82)) w') [] (by kernel_rfl) ?_;refine tb 0 (.agg #[.int .i64 s2, .slice A2 n2 c2, .int .i64 t2, .slice B2 m2 d2]) [1] rfl (by kernel_rfl) pk rfl (by intros;go_simp) bq0 ?_;simp only [ppq];refine rd1 1 (by kernel_rfl) rfl (fun K hK=> ?_);go_simp;go_wp2_with (go_at_call 111;(with_reducible refine mo0 (jg2 HS.o (by constructor <;> (with_reducible repeat first|assumption|apply rZ|refine rP ?_ rfl (by simp [go_sem,hc2])))) fun w3 hb3 hc3 hf3 _=> ?_))
  have sS3:=qh (bst bq0 hb3);refine hK.out _ _ (fun _=>sS3.o) ?_;clear hK K;refine rd1 2 (by kernel_rfl) rfl (fun K hK=> ?_);go_simp;refine hK.out _ _ (fun _=>bi) ?_;clear hK K;refine rd1 3 (by kernel_rfl) rfl (fun K hK=> ?_);go_simp;refine hK.out _ _ (fun _=>bi) ?_;clear hK K;have hy3:w2.heap.size < w3.heap.size:=by have:=hb3.size;simp at this;omega
  refine tb 4 (.agg #[.int .i64 s2, .slice A2 n2 c2, .int .i64 t2, .slice B2 m2 d2]) [6] rfl (by kernel_rfl) pk rfl (by intros;go_simp) sS3.o ?_;simp only [ppq];refine rd1 5 (by kernel_rfl) rfl (fun K hK=> ?_);go_simp;go_wp2_with (go_at_call 40;(with_reducible refine mf0 (jes HF.o HR.o) fun w4 s4 A4 n4 c4 t4 B4 m4 d4 hr4 hq4 hb4 hc4 hf4 _=> ?_))
  have sS4:=qh (bst sS3.o hb4);refine hK.out _ _ (fun _=>sS4.o) ?_;clear hK K;refine rd1 6 (by kernel_rfl) rfl (fun K hK=> ?_);go_simp;go_wp2_with (go_at_call 92;(with_reducible refine mo0 (jd7 600 1 HJ.o (by constructor <;> (with_reducible repeat first|assumption|apply rZ|refine rP ?_ rfl (by simp [go_sem,hc2]))) ⟨hr4,hq4⟩ H1.o H2.o (by omega)) fun w5 hb5 hc5 hf5 _=> ?_))
  have sS5:=qh (bst sS4.o hb5);refine hK.out _ _ (fun _=>sS5.o) ?_;clear hK K;refine rd1 7 (by kernel_rfl) rfl (fun K hK=> ?_);go_simp;refine hK.out _ _ (fun _=>bi) ?_;clear hK K;refine rd1 8 (by kernel_rfl) rfl (fun K hK=> ?_);go_simp;refine hK.out _ _ (fun _=>bi) ?_;clear hK K;refine ja2 (by kernel_rfl) ?_ _;go_wp2;go_ret;exact ⟨rfl,bi⟩
end

theorem jA8 {x:Rat}:decide (0≤Rq.cmpQ x 100)=decide (100≤x):=by
 rw [decide_eq_decide];constructor
 ·intro h;exact Rat.not_lt.1 (fun h1=>by have:=Rq.cmp_neg.2 h1;omega)
 ·intro h;rcases Int.lt_or_le (Rq.cmpQ x 100) 0 with h1|h1
  ·exact absurd h (Rat.not_le.2 (Rq.cmp_neg.1 h1))
  ·exact h1
section
variable {w:World} {l a b:List UInt8} {x y:Rat}
theorem jAX (hE:Env w) (hl:l.length < 4294967281):Calls prog 49 #[bs l] w fun e w'=>e= .returned (.int .i64 (mst l))∧Below w.heap.size w w':=by
 unfold mst;by_cases h:chk l=0
 ·rw [if_pos h];have hx:=jjb h;generalize numQ l=x at hx;by_cases h0:x < 0
  ·rw [if_pos (Or.inl h0)];exact jAP hE hl hx h0
  ·have:=jBl hE hl hx (Rat.not_lt.1 h0) jA8;by_cases h1:100≤x
   ·rw [if_pos (Or.inr h1)];simpa [h1] using this
   ·rw [if_neg (fun h2=>h2.elim h0 h1)];simpa [h1] using this
 ·rw [if_neg h];exact jBc hE hl rfl h
structure IsMoist (l:List UInt8) (x:Rat):Prop where
 num:IsNum l x
 low:0≤x
 high:x < 100
theorem IsMoist.mst {l:List UInt8} {x:Rat} (h:IsMoist l x):mst l=0:=by
 unfold Proofs.YtdbaealhapgjaaaGreatDoor.mst;rw [if_pos (jjL.2 ⟨x,h.num⟩),h.num.numQ,if_neg];intro h1;exact h1.elim (fun h2=>Rat.not_lt.2 h.low h2) (fun h2=>Rat.not_lt.2 h2 h.high)
theorem jeP {w:World} {s t u v:Int} {A B C D:Option Addr} {n c m d i k j l:Nat} {x y z:Rat} (p q:Nat) (hz:x - y=z) (h:RepF w s A n c t B m d x) (h':RepF w u C i k v D j l y) (hs:Sz p x) (hs':Sz q y) (hpq:p+q+1 < 100000):
  Calls prog 42 #[fv s A n c t B m d,fv u C i k v D j l] w (jaa z w):=hz ▸ jow h h' hs hs' hpq
theorem jeB {w:World} {s t u v:Int} {A B C D:Option Addr} {n c m d i k j l:Nat} {x y z:Rat} (p q:Nat) (hz:x / y=z) (h:RepF w s A n c t B m d x) (h':RepF w u C i k v D j l y) (hs:Sz p x) (hs':Sz q y) (hpq:p+q < 100000) (hy:y≠0):
  Calls prog 43 #[fv s A n c t B m d,fv u C i k v D j l] w (jaa z w):=hz ▸ jqo h h' hs hs' hpq hy
theorem jBP {z:Rat} (hE:Env w) (hx:IsNum l x) (hz:100 - x=z):Calls prog 51 #[bs l] w (jaa z w):=by
 have HE:=qh hE;have HX:=qh hx;have HF:=qh (show ((100:Int):Rat)=100 from rfl);have HR:=qh (show R64 100 by constructor <;> decide);have H1:=qh hx.sz;have H2:=qh (jej HR.o);rw [HF.o] at H2;have HZ:=qh hz;clear hE hx hz;go_enter func51,ntmps51
 go_wp2_with (first
  | (go_at_call 40;(with_reducible refine mf1 w (jes HF.o HR.o) (by go_size) fun w1 s1 A1 n1 c1 t1 B1 m1 d1 hr1 hq1 hb1 hc1 hf1 z1_0 _=> ?_))
  | (go_at_call 36;(with_reducible refine mf1 w (jaz HX.o (HE.o.below bi)) (by go_size) fun w2 s2 A2 n2 c2 t2 B2 m2 d2 hr2 hq2 hb2 hc2 hf2 z2_0 _=> ?_))
  | (go_at_call 42;(with_reducible refine mf1 w (jeP 1 600 HZ.o (by constructor <;> (with_reducible repeat first|assumption|apply rZ|refine rP ?_ rfl (by simp [go_sem,hc2]))) ⟨hr2,hq2⟩ H2.o H1.o (by omega)) (by go_size) fun w3 s3 A3 n3 c3 t3 B3 m3 d3 hr3 hq3 hb3 hc3 hf3 z3_0 _=> ?_)))
 exact bodyPost_ret (v:= .agg #[.int .i64 (s3), .slice (A3) (n3) (c3), .int .i64 (t3), .slice (B3) (m3) (d3)]) (by simp [results,results51,go_sem,hc3,z2_0,hc2,z1_0,hc1]) rfl (jan rfl (by constructor <;> (with_reducible repeat first|assumption|apply rZ|refine rP ?_ rfl (by simp [go_sem,hc3,z2_0,hc2,z1_0,hc1]))) bi)

end

abbrev sp (a b:List UInt8):Value:= .agg #[bs a,bs b]
abbrev s2v (s:Int) (A:Option Addr) (n c:Nat) (t:Int) (B:Option Addr) (m d:Nat) (u:Int) (C:Option Addr) (i k:Nat) (v:Int) (D:Option Addr) (j l:Nat):Value:=
 .agg #[.int .i64 s, .slice A n c, .int .i64 t, .slice B m d, .int .i64 u, .slice C i k, .int .i64 v, .slice D j l]
def jyd (x y:Rat) (w:World) (e:Ending) (w':World):Prop:=
 ∃s A n c t B m d u C i k v D j l,e= .returned (s2v s A n c t B m d u C i k v D j l)∧RepF w' s A n c t B m d x∧RepF w' u C i k v D j l y∧Below w.heap.size w w'
section
variable {w:World} {a b:List UInt8} {x y:Rat}
theorem jyu (hE:Env w) (ha:IsNum a x) (hb:IsNum b y):Calls prog 85 #[sp a b] w (jyd x y w):=by
 have HE:=qh hE;have HA:=qh ha;have HB:=qh hb;clear hE ha hb;go_enter func85,ntmps85;go_upto_region 1 with (fail)
 refine ja1 (fun w'=>Below ((w.alloc (.cells #[bs a,bs b] 52)).alloc (.cells #[.int .i64 0, .slice none 0 0, .int .i64 0, .slice none 0 0, .int .i64 0, .slice none 0 0, .int .i64 0, .slice none 0 0] 137)).heap.size ((w.alloc (.cells #[bs a,bs b] 52)).alloc (.cells #[.int .i64 0, .slice none 0 0, .int .i64 0, .slice none 0 0, .int .i64 0, .slice none 0 0, .int .i64 0, .slice none 0 0] 137)) w') [7] (by kernel_rfl) ?_;refine tl [(0,[1], .pointer (some ⟨w.heap.size,0,none⟩)),(1,[2],bs a),(3,[4], .pointer (some ⟨w.heap.size,1,none⟩)),(4,[5],bs b)] [_,_,_,_] rfl (by kernel_rfl) pk5 (by intros;simp only [tyq,ppq];go_simp) bq0 ?_;simp only [tlq,ppq];refine rd1 2 (by kernel_rfl) rfl (fun K hK=> ?_);go_simp;go_wp2_with (go_at_call 36;(with_reducible refine mf2 w (jaz HA.o (HE.o.below bi)) (by go_size) fun w1 s1 A1 n1 c1 t1 B1 m1 d1 hr1 hq1 hb1 hc1 hf1 z1_0 z1_1 _=> ?_))
 have sS1:=qh (bst bq0 hb1);refine hK.out _ _ (fun _=>sS1.o) ?_;clear hK K;refine rd1 5 (by kernel_rfl) rfl (fun K hK=> ?_);go_simp;go_wp2_with (go_at_call 36;(with_reducible refine mf2 w (jaz HB.o (HE.o.below bi)) (by go_size) fun w2 s2 A2 n2 c2 t2 B2 m2 d2 hr2 hq2 hb2 hc2 hf2 z2_0 z2_1 _=> ?_))
 have sS2:=qh (bst sS1.o hb2);refine hK.out _ _ (fun _=>sS2.o) ?_;clear hK K;refine rd1 6 (by kernel_rfl) rfl (fun K hK=> ?_);go_simp;refine hK.out _ _ (fun _=>bi) ?_;clear hK K;refine rd1 7 (by kernel_rfl) rfl (fun K hK=> ?_);go_simp;refine hK.out _ _ (fun h=>(h (by decide)).elim) ?_;clear hK K;refine ja2 (by kernel_rfl) ?_ _;go_wp2;refine bodyPost_ret (v:=s2v s1 A1 n1 c1 t1 B1 m1 d1 s2 A2 n2 c2 t2 B2 m2 d2) (by simp [results,results85,go_sem,hc1,hc2,hf1,hf2,z1_1,z2_1]) rfl ⟨s1,A1,n1,c1,t1,B1,m1,d1,s2,A2,n2,c2,t2,B2,m2,d2,rfl,(by constructor <;> (with_reducible repeat first|assumption|apply rZ|refine rP ?_ rfl (by simp [go_sem,hc1,hc2,hf1,hf2,z1_1,z2_1]))),(by constructor <;> (with_reducible repeat first|assumption|apply rZ|refine rP ?_ rfl (by simp [go_sem,hc1,hc2,hf1,hf2,z1_1,z2_1]))),bi⟩
end
section
variable {w:World} {sx tx sy ty:Int} {Ax Bx Ay By:Option Addr} {nx cx mx dx ny cy my dy:Nat} {x y:Rat}
theorem jzj {w:World} {s t:Int} {A B:Option Addr} {n c m d:Nat} {x:Rat} (h:RepF w s A n c t B m d x) (hE:Env w) (hS:StrQ x) (hg:je3 x=false):Calls prog 38 #[fv s A n c t B m d] w fun e w'=>e= .returned (bs (tq x))∧Below w.heap.size w w':=jgy h hE hS (DigQ.of hg)
theorem jBn {tx' ty':List UInt8} (hE:Env w) (hx:RepF w sx Ax nx cx tx Bx mx dx x) (hy:RepF w sy Ay ny cy ty By my dy y) (hS:StrQ x) (hS':StrQ y) (hg:je3 x=false) (hg':je3 y=false) (htx:tq x=tx') (hty:tq y=ty'):
  Calls prog 71 #[fv sx Ax nx cx tx Bx mx dx,fv sy Ay ny cy ty By my dy] w fun e w'=>e= .returned (.tuple #[sp tx' ty', .int .i64 0])∧Below w.heap.size w w':=by
 have HE:=qh hE;have HX:=qh hx;have HY:=qh hy;have HS:=qh hS;have HS':=qh hS';have HG:=qh hg;have HG':=qh hg';subst htx hty;obtain ⟨tx',htx⟩:∃l,tq x=l:=⟨_,rfl⟩;obtain ⟨ty',hty⟩:∃l,tq y=l:=⟨_,rfl⟩;have HT1:Hd (∀W,Below w.heap.size w W→Calls prog 38 #[fv sx Ax nx cx tx Bx mx dx] W fun e w'=>e= .returned (bs tx')∧Below W.heap.size W w'):=qh (fun W hb=>htx ▸ jzj (hx.below hb) (hE.below hb) hS hg);have HT2:Hd (∀W,Below w.heap.size w W→Calls prog 38 #[fv sy Ay ny cy ty By my dy] W fun e w'=>e= .returned (bs ty')∧Below W.heap.size W w'):=qh (fun W hb=>hty ▸ jzj (hy.below hb) (hE.below hb) hS' hg');rw [htx,hty];clear hE hx hy hS hS' hg hg' htx hty;go_enter func71,ntmps71
 go_upto_region 3 with (first
  | (go_at_call 37;(with_reducible show Calls _ _ #[.agg #[.int .i64 sx, .slice Ax nx cx, .int .i64 tx, .slice Bx mx dx]] _ _);(with_reducible refine mo3 w (jbf HG.o (HX.o.below bi) (HE.o.below bi) HS.o) (by go_size) fun w1 hb1 hc1 hf1 z1_0 z1_1 z1_2 _=> ?_))
  | (go_at_call 37;(with_reducible show Calls _ _ #[.agg #[.int .i64 sy, .slice Ay ny cy, .int .i64 ty, .slice By my dy]] _ _);(with_reducible refine mo3 w (jbf HG'.o (HY.o.below bi) (HE.o.below bi) HS'.o) (by go_size) fun w2 hb2 hc2 hf2 z2_0 z2_1 z2_2 _=> ?_)))
 refine ja1 (fun w'=>Below w2.heap.size w2 w') [5,6] (by kernel_rfl) ?_;refine tl [(0,[1],fv sx Ax nx cx tx Bx mx dx),(2,[3],fv sy Ay ny cy ty By my dy)] [_,_] rfl (by kernel_rfl) pk5 (by intros;simp only [tyq,ppq];go_simp) bq0 ?_;simp only [tlq,ppq];refine rd1 1 (by kernel_rfl) rfl (fun K hK=> ?_);go_simp;go_wp2_with (go_at_call 38;(with_reducible refine mo3 w (HT1.o _ bi) (by go_size) fun w3 hb3 hc3 hf3 z3_0 z3_1 z3_2 _=> ?_))
 have sS3:=qh (bst bq0 hb3);refine hK.out _ _ (fun _=>sS3.o) ?_;clear hK K;refine rd1 3 (by kernel_rfl) rfl (fun K hK=> ?_);go_simp;go_wp2_with (go_at_call 38;(with_reducible refine mo3 w (HT2.o _ bi) (by go_size) fun w4 hb4 hc4 hf4 z4_0 z4_1 z4_2 _=> ?_))
 have sS4:=qh (bst sS3.o hb4);refine hK.out _ _ (fun _=>sS4.o) ?_;clear hK K;refine rd1 4 (by kernel_rfl) rfl (fun K hK=> ?_);go_simp;refine hK.out _ _ (fun _=>bi) ?_;clear hK K;refine rd1 5 (by kernel_rfl) rfl (fun K hK=> ?_);go_simp;refine hK.out _ _ (fun h=>(h (by decide)).elim) ?_;clear hK K;refine rd1 6 (by kernel_rfl) rfl (fun K hK=> ?_);go_simp;refine hK.out _ _ (fun h=>(h (by decide)).elim) ?_;clear hK K;refine ja2 (by kernel_rfl) ?_ _;go_wp2;exact bodyPost_ret (v:= .tuple #[sp tx' ty', .int .i64 0]) (by simp [results,results71,go_sem,hc1,hc2,hc3,hc4,hf1,hf2,hf3,hf4,z1_2,z2_2,z3_2,z4_2]) rfl ⟨rfl,bi⟩
theorem jzY (hE:Env w) (hx:RepF w sx Ax nx cx tx Bx mx dx x) (hy:RepF w sy Ay ny cy ty By my dy y) (hS:StrQ x) (hS':StrQ y) (hg:je3 x=true):
  Calls prog 71 #[fv sx Ax nx cx tx Bx mx dx,fv sy Ay ny cy ty By my dy] w fun e w'=>e= .returned (.tuple #[sp [] [], .int .i64 4])∧Below w.heap.size w w':=by
 have HE:=qh hE;have HX:=qh hx;have HS:=qh hS;have HG:=qh hg;clear hE hx hy hS hS' hg;go_enter func71,ntmps71
 go_wp2_with (first
  | (go_at_call 37;(with_reducible refine mo3 w (jbf HG.o (HX.o.below bi) (HE.o.below bi) HS.o) (by go_size) fun w1 hb1 hc1 hf1 z1_0 z1_1 z1_2 _=> ?_)))
 exact bodyPost_ret (v:= .tuple #[sp [] [], .int .i64 4]) (by simp [results,results71,go_sem,hc1,hf1,z1_2]) rfl ⟨rfl,bi⟩
theorem jzN (hE:Env w) (hx:RepF w sx Ax nx cx tx Bx mx dx x) (hy:RepF w sy Ay ny cy ty By my dy y) (hS:StrQ x) (hS':StrQ y) (hg:je3 x=false) (hg':je3 y=true):
  Calls prog 71 #[fv sx Ax nx cx tx Bx mx dx,fv sy Ay ny cy ty By my dy] w fun e w'=>e= .returned (.tuple #[sp [] [], .int .i64 4])∧Below w.heap.size w w':=by
 have HE:=qh hE;have HX:=qh hx;have HY:=qh hy;have HS:=qh hS;have HS':=qh hS';have HG:=qh hg;have HG':=qh hg';clear hE hx hy hS hS' hg hg';go_enter func71,ntmps71
 go_wp2_with (first
  | (go_at_call 37;(with_reducible show Calls _ _ #[.agg #[.int .i64 sx, .slice Ax nx cx, .int .i64 tx, .slice Bx mx dx]] _ _);(with_reducible refine mo3 w (jbf HG.o (HX.o.below bi) (HE.o.below bi) HS.o) (by go_size) fun w1 hb1 hc1 hf1 z1_0 z1_1 z1_2 _=> ?_))
  | (go_at_call 37;(with_reducible show Calls _ _ #[.agg #[.int .i64 sy, .slice Ay ny cy, .int .i64 ty, .slice By my dy]] _ _);(with_reducible refine mo3 w (jbf HG'.o (HY.o.below bi) (HE.o.below bi) HS'.o) (by go_size) fun w2 hb2 hc2 hf2 z2_0 z2_1 z2_2 _=> ?_)))
 exact bodyPost_ret (v:= .tuple #[sp [] [], .int .i64 4]) (by simp [results,results71,go_sem,hc1,hc2,hf1,hf2,z1_2,z2_2]) rfl ⟨rfl,bi⟩
def jC0 (x y:Rat):List UInt8:=if je3 x || je3 y then [] else tq x
def jC2 (x y:Rat):List UInt8:=if je3 x || je3 y then [] else tq y
def jC5 (x y:Rat):Int:=if je3 x || je3 y then 4 else 0
theorem jB9 (hE:Env w) (hx:RepF w sx Ax nx cx tx Bx mx dx x) (hy:RepF w sy Ay ny cy ty By my dy y) (hS:StrQ x) (hS':StrQ y):
  Calls prog 71 #[fv sx Ax nx cx tx Bx mx dx,fv sy Ay ny cy ty By my dy] w fun e w'=>e= .returned (.tuple #[sp (jC0 x y) (jC2 x y), .int .i64 (jC5 x y)])∧Below w.heap.size w w':=by
 unfold jC0 jC2 jC5;cases h1:je3 x with
 | true=>simpa using jzY hE hx hy hS hS' h1
 | false=>
   cases h2:je3 y with
   | true=>simpa using jzN hE hx hy hS hS' h1 h2
   | false=>simpa using jBn hE hx hy hS hS' h1 h2 rfl rfl
theorem jAx {l h:List UInt8} {k:Int} (hl:jC0 x y=l) (hh:jC2 x y=h) (hk:jC5 x y=k) (hE:Env w) (hx:RepF w sx Ax nx cx tx Bx mx dx x) (hy:RepF w sy Ay ny cy ty By my dy y) (hS:StrQ x) (hS':StrQ y):
  Calls prog 71 #[fv sx Ax nx cx tx Bx mx dx,fv sy Ay ny cy ty By my dy] w fun e w'=>e= .returned (.tuple #[sp l h, .int .i64 k])∧Below w.heap.size w w':=hl ▸ hh ▸ hk ▸ jB9 hE hx hy hS hS'
end

noncomputable def jwt (p:List UInt8×List UInt8):Int:=if jar chk [p.1,p.2]≠0 then jar chk [p.1,p.2] else if numQ p.2 < numQ p.1 then 11 else 0
theorem jxa {a b:List UInt8} (h:jar chk [a,b]=0):chk a=0∧chk b=0:=by
 unfold jar at h;by_cases h1:chk a=0
 ·rw [if_pos h1] at h;unfold jar at h;by_cases h2:chk b=0
  ·exact ⟨h1,h2⟩
  ·rw [if_neg h2] at h;exact absurd h h2
 ·rw [if_neg h1] at h;exact absurd h h1
theorem jyz {x y:Rat}:decide (Rq.cmpQ x y > 0)=decide (y < x):=by
 rw [decide_eq_decide];exact Rq.cmp_pos
theorem Sv.twoAt {w:World} {t:TypeId} {k l:List UInt8} {b:Nat} (hb:b=w.heap.size):Sv (w.alloc (.cells #[bs k,bs l] t)) (some ⟨b,0,none⟩) 2 [k,l]:=by
 subst hb;exact Sv.two w t k l
section
variable {w:World} {a b:List UInt8} {x y:Rat}
theorem jwG {w:World} {a b:List UInt8} {A:Option Addr} {n c:Nat} {k:Int} (hk:jar chk [a,b]=k) (hE:Env w) (hs:Sv w A n [a,b]) (hn:n≤100000) (hl:a.length < 4294967281) (hl':b.length < 4294967281):
  Calls prog 140 #[.func (.func 110) #[] #[], .slice A n c] w fun e w'=>e= .returned (.int .i64 k)∧Below w.heap.size w w':=by
 subst hk
 exact jx6 (c:=c) (f:=chk) hs hn (fun l hm V hV=>by
  have hl2:l.length < 4294967281:=by
   rcases List.mem_cons.1 hm with rfl|hm
   ·exact hl
   ·rcases List.mem_cons.1 hm with rfl|hm
    ·exact hl'
    ·cases hm
  exact jnZ (hE.below hV) hl2)
theorem jy4 {k:Int} (hE:Env w) (hl:a.length < 4294967281) (hl':b.length < 4294967281) (hk:jar chk [a,b]=k) (h0:k≠0):Calls prog 84 #[sp a b] w fun e w'=>e= .returned (.int .i64 k)∧Below w.heap.size w w':=by
 have HE:=qh hE;have HL:=qh hl;have HL':=qh hl';have HK:=qh hk;have q1:(k != 0)=true:=by rw [bne_iff_ne];exact h0
 clear hE hl hl' hk h0;go_enter func84,ntmps84;go_wp2_with (go_at_call 140;(with_reducible refine mo0 (jwG HK.o (HE.o.below bi) (Sv.twoAt (by simp)) (by omega) HL.o HL'.o) fun w1 hb1 hc1 hf1 _=> ?_))
 go_ret;exact ⟨rfl,bi⟩
theorem jyh {g:Bool} (hE:Env w) (hl:a.length < 4294967281) (hl':b.length < 4294967281) (ha:IsNum a x) (hb:IsNum b y) (hg:decide (Rq.cmpQ x y > 0)=g):Calls prog 84 #[sp a b] w fun e w'=>e= .returned (.int .i64 (if g then 11 else 0))∧Below w.heap.size w w':=by
 have HE:=qh hE;have HL:=qh hl;have HL':=qh hl';have HK:Hd (jar chk [a,b]=0):=qh (by simp [jar,jjL.2 ⟨x,ha⟩,jjL.2 ⟨y,hb⟩]);have HA:=qh ha;have HB:=qh hb;have HSA:=qh ha.sz;have HSB:=qh hb.sz;obtain ⟨z,hz⟩:∃z,Rq.cmpQ x y=z:=⟨_,rfl⟩;have HZ:=qh hz;rw [hz] at hg;clear hE hl hl' ha hb hz;cases g
 all_goals
  go_enter func84,ntmps84
  go_wp2_with (first
   | (go_at_call 140;(with_reducible refine mo1 w (jwG HK.o (HE.o.below bi) (Sv.twoAt (by simp)) (by omega) HL.o HL'.o) (by go_size) fun w1 hb1 hc1 hf1 z1_0 _=> ?_))
   | (go_at_call 85;((with_reducible refine (jyu (HE.o.below bi) HA.o HB.o).mono ?_);rintro e2 w2 ⟨s2,A2,n2,c2,t2,B2,m2,d2,u2,C2,i2,k2,v2,D2,j2,l2,rfl,⟨hr2,hq2⟩,⟨hu2,hv2⟩,hb2⟩;have _:=bm hb2);obtain ⟨hc2,hf2,z2_0,_⟩:=bc1 w hb2 (by go_size))
   | (go_at_call 92;(with_reducible refine mo0 (jd7 600 600 HZ.o (by constructor <;> (with_reducible repeat first|assumption|apply rZ|refine rP ?_ rfl (by simp [go_sem,hc2]))) (by constructor <;> (with_reducible repeat first|assumption|apply rZ|refine rP ?_ rfl (by simp [go_sem,hc2]))) HSA.o HSB.o (by omega)) fun w3 hb3 hc3 hf3 _=> ?_)))
  go_ret;exact ⟨rfl,bi⟩
theorem jxV (hE:Env w) (hl:a.length < 4294967281) (hl':b.length < 4294967281):Calls prog 84 #[sp a b] w fun e w'=>e= .returned (.int .i64 (jwt (a,b)))∧Below w.heap.size w w':=by
 unfold jwt;by_cases h:jar chk [a,b]=0
 ·rw [if_neg (by simpa using h)];obtain ⟨h1,h2⟩:=jxa h;have hx:=jjb h1;have hy:=jjb h2;have:=jyh hE hl hl' hx hy jyz;simpa using this
 ·rw [if_pos h];exact jy4 hE hl hl' rfl h
end
structure Pv (w:World) (A:Option Addr) (n:Nat) (ls:List (List UInt8×List UInt8)):Prop where
 len:ls.length=n
 at_:0 < n→∃b o,A=some ⟨b,o,none⟩∧b < w.heap.size∧∀j,j < n→w.cell? ⟨b,o+j*2,none⟩=some (bs (ls.getD j ([],[])).1)∧w.cell? ⟨b,o+j*2+1,none⟩=some (bs (ls.getD j ([],[])).2)
theorem Pv.below {w w':World} {A:Option Addr} {n:Nat} {ls:List (List UInt8×List UInt8)} (h:Pv w A n ls) (hb:Below w.heap.size w w'):Pv w' A n ls:=
 ⟨h.len,fun hn=>by
   obtain ⟨b,o,e,h1,h2⟩:=h.at_ hn
   exact ⟨b,o,e,Nat.lt_of_lt_of_le h1 hb.size,fun j hj=>by rw [hb.cell (p:=⟨b,o+j*2,none⟩) h1,hb.cell (p:=⟨b,o+j*2+1,none⟩) h1];exact h2 j hj⟩⟩
section
variable {w:World} {A:Option Addr} {n c:Nat} {ls:List (List UInt8×List UInt8)} {f:List UInt8×List UInt8→Int}
theorem jzr
 (h:Pv w A n ls) (hn:n≤100000) (hf:∀l∈ls,∀W,Below w.heap.size w W→Calls prog 84 #[sp l.1 l.2] W fun e w'=>e= .returned (.int .i64 (f l))∧Below W.heap.size W w'):
 Calls prog 83 #[.func (.func 84) #[] #[], .slice A n c] w fun e w'=>e= .returned (.int .i64 (jar f ls))∧Below w.heap.size w w':=by
 obtain ⟨R,hR⟩:∃R,jar f ls=R:=⟨_,rfl⟩;rw [hR];have HR:=qh hR;have H:=qh h;have HN:=qh hn;have HF:=qh hf;clear hR h hn hf;go_enter func83,ntmps83;go_wp2
 go_loopw [10] (fun u wr=>∃(i:Nat),u= .int .i64 (i:Int)∧Below w.heap.size w wr∧i≤n∧jar f (ls.drop i)=R) (fun u _=>n - (intOf u).toNat)
 case atStart=>exact ⟨0,rfl,bi,by omega,HR.o⟩
 case round=>
  obtain ⟨i,rfl,hb,hin,hc⟩:=hrel;have _:=bm hb;by_cases hi:i < n
  ·have q0:decide ((i:Int) < (n:Int))=true:=by simp;exact hi
   obtain ⟨b,o,rfl,hbl,hcell⟩:=(H.o.below hb).at_ (by omega);obtain ⟨hx,hy⟩:=hcell i hi;have hil:i < ls.length:=by rw [H.o.len];exact hi
   rw [jd5 (d:=([],[])) hil] at hc;have hmem:ls.getD i ([],[])∈ls:=by rw [List.getD_eq_getElem?_getD,List.getElem?_eq_getElem hil];exact List.getElem_mem hil
   obtain ⟨x,hxx⟩:∃x,ls.getD i ([],[])=x:=⟨_,rfl⟩;rw [hxx] at hx hy hc hmem;have HX:Hd (∀W,Below wr.heap.size wr W→Calls prog 84 #[sp x.1 x.2] W fun e w'=>e= .returned (.int .i64 (f x))∧Below W.heap.size W w'):=qh (fun W hW=>HF.o x hmem W (ja0 hb hW));have hnn:=HN.o;have HI:=qh hi;obtain ⟨x1,hx1⟩:∃y,x.1=y:=⟨_,rfl⟩;obtain ⟨x2,hx2⟩:∃y,x.2=y:=⟨_,rfl⟩;rw [hx1] at hx HX;rw [hx2] at hy HX;clear hcell hmem hil hxx hx1 hx2;by_cases h0:f x=0
   ·have HC:Hd (jar f (ls.drop (i+1))=R):=qh (by rw [←hc,jf3 h0]);rw [h0] at HX;clear hc h0 hi;go_wp2_with (go_at_call 84;(with_reducible refine mo0 (HX.o _ bi) fun w1 hb1 hc1 hf1 _=> ?_))
    exact ⟨⟨i+1,by simp,bi,HI.o,HC.o⟩,by have:=HI.o;simp [intOf];omega⟩
   ·have hR:R=f x:=by rw [←hc,jed h0]
    subst hR;obtain ⟨y,hy'⟩:∃y,f x=y:=⟨_,rfl⟩;rw [hy'] at HX;have q1:(y != 0)=true:=by rw [bne_iff_ne,←hy'];exact h0
    have HY:=qh hy';clear hc h0 hi hy' HR;go_wp2_with (go_at_call 84;(with_reducible refine mo0 (HX.o _ bi) fun w1 hb1 hc1 hf1 _=> ?_))
    go_ret;exact ⟨by rw [HY.o];rfl,bi⟩
  ·have q0:decide (i < n)=false:=by simp;omega
   rw [List.drop_eq_nil_of_le (by rw [H.o.len];omega)] at hc;have hR:R=0:=by rw [←hc];rfl
   subst hR;clear hc hi HR;go_wp2;go_ret;exact ⟨rfl,bi⟩
end
end Go.Proofs.YtdbaealhapgjaaaGreatDoor
namespace Go.Proofs.YtdbaealhapgjaaaGreatDoor
open Go Go.RowKit Go.Sort Go.Proofs.Tryz

theorem jdP (g j:Nat):(⟨g,0,none⟩:Addr).add j=⟨g,j,none⟩:=by unfold Addr.add;split <;> simp_all
def shs (ps:List (List UInt8×List UInt8)):List Value:=ps.flatMap fun p=> [bs p.1,bs p.2]
theorem jwL (a b:List (List UInt8×List UInt8)):shs (a++b)=shs a++shs b:=by simp [shs]
theorem jyq:∀(a:List (List UInt8×List UInt8)) (j k:Nat),j < a.length→k < 2→(shs a)[j*2+k]? =(shs [a.getD j ([],[])])[k]?
 | [],j,k,h,_=>absurd h (by simp)
 | q::r,0,k,_,hk=>by
   rw [show shs (q::r)=shs [q]++shs r from jwL [q] r,List.getElem?_append_left (by simp [shs];omega)];simp
 | q::r,j+1,k,h,hk=>by
   rw [show shs (q::r)=shs [q]++shs r from jwL [q] r,List.getElem?_append_right (by simp [shs];omega)];have e:(j+1)*2+k - (shs [q]).length=j*2+k:=by simp [shs];omega
   rw [e,jyq r j k (by simpa using h) hk];simp
abbrev jzd (w:World) (base:Nat) (v:Value) (n:Nat) (ps:List (List UInt8×List UInt8)):Prop:=w.ownsRow base 75 2 v n (shs ps)
theorem jzd.pv {w:World} {base n:Nat} {v:Value} {ps:List (List UInt8×List UInt8)} (h:jzd w base v n ps) (hl:ps.length=n) (h0:0 < n):∃A c,v= .slice A n c∧Pv w A n ps:=by
 rcases h.2 with ⟨rfl,h1⟩|⟨g,cap,cur,rfl,hb,hg,hnc,hcm,hcs,ht⟩
 ·omega
 ·refine ⟨some ⟨g,0,none⟩,cap,rfl,hl,fun _=>⟨g,0,rfl,(Array.getElem?_eq_some_iff.1 hg).1,fun j hj=> ?_⟩⟩;have hc:=World.ownsRow.cells h (g:=g) rfl
  have c (k:Nat) (hk:k < 2) (u:Value) (hu:(shs [ps.getD j ([],[])])[k]? =some u):w.cell? ⟨g,0+j*2+k,none⟩=some u:=by
   have:=hc (j*2+k) u (by rw [jyq ps j k (by omega) hk,hu]);rw [jdP] at this;rw [Nat.zero_add];exact this
  exact ⟨c 0 (by omega) _ rfl,c 1 (by omega) _ rfl⟩
theorem je8 {w w':World} (h:Below w.heap.size w w') (row:Option Nat):w.grownBy w' row:=⟨h.os,h.tape,h.output,h.size,fun k hk _=>h.block k hk⟩
theorem jzd.below {w w':World} {base n:Nat} {v:Value} {ps:List (List UInt8×List UInt8)} (h:jzd w base v n ps) (hb:Below w.heap.size w w'):jzd w' base v n ps:=
 World.ownsRow.kept h (je8 hb none) (by cases hv:v.ownBlock <;> simp)
theorem jA3:(prog.info? 75).map (fun i=>(i.zero,i.size,i.bytes))=some (some (.agg #[.string ByteArray.empty, .string ByteArray.empty]),2,32):=by kernel_rfl
theorem jAH {w:World} {base n b c:Nat} {v:Value} {ps:List (List UInt8×List UInt8)} {x:List UInt8×List UInt8} (h:jzd w base v n ps) (hn:n≤100000) (hb:base≤w.heap.size)
  (h0:w.cell? ⟨b,0,none⟩=some (bs x.1)) (h1:w.cell? ⟨b,1,none⟩=some (bs x.2)):
  ∃v' w',(Builtin.append_ #[35,35] 35 #[v, .slice (some ⟨b,0,none⟩) 1 c]).run prog w= .ok v' w'∧jzd w' base v' (n+1) (ps++[x])∧w.grownBy w' v.ownBlock∧(v'.ownBlock=v.ownBlock∨v'.ownBlock=some w.heap.size):=by
 obtain ⟨i,hi,hz0,hz1,hz2⟩:=info_parts jA3
 obtain ⟨v',w',hr,k1,k2,_,k3⟩:=run_append_own_at (P:=prog) w base 35 35 75 i _ 2 32 underlying35 hi hz0 hz1 hz2 rfl (by decide) v n (shs ps) h ⟨b,0,none⟩ 1 c (shs [x]) (by simp [shs])
  (by
    intro j u hu;rw [jdP]
    match j,hu with
    | 0,hu=>simp [shs] at hu;subst hu;exact h0
    | 1,hu=>simp [shs] at hu;subst hu;exact h1
    | j+2,hu=>simp [shs] at hu)
  (by intro u hu;simp [shs] at hu;rcases hu with rfl|rfl <;> rfl)
  (by simp only [maxLen];omega) (by omega) hb
 exact ⟨v',w',hr,by rw [jzd,jwL];exact k1,k2,k3⟩
theorem jiI {P:Program} {o:Oper} {a:Act} {K:Act→World→Prop} {Q:Exit→Act→World→Prop} {w w':World} {v z v':Value} {t:TypeId} (s y:Operand)
  (ho:o.op= .call { callee:= .builtin .append,args:= #[s,y],argTypes:= #[t,t] }) (hs:a.eval s=v) (hy:a.eval y=z)
  (hr:(Builtin.append_ #[t,t] o.type #[v,z]).run P w= .ok v' w') (hK:K (a.put o.dst v') w'):o.wp P a w K Q:=by
 unfold Oper.wp execOp;simp only [ho,resolve,invoke,builtin,Sem.run_bind,Sem.run_pure,Result.andThen_ok,List.map_toArray,List.map_cons,List.map_nil,hs,hy,hr];exact hK
theorem jz6 {ops:Array Oper} {rest:List Oper} {o:Oper} {a:Act} {Q:Exit→Act→World→Prop} {w:World} {base n b c:Nat} {v:Value} {ps:List (List UInt8×List UInt8)} {x:List UInt8×List UInt8} (hg:o.guard=none) (s y:Operand)
  (ho:o.op= .call { callee:= .builtin .append,args:= #[s,y],argTypes:= #[35,35] }) (ht:o.type=35) (hs:a.eval s=v) (hy:a.eval y= .slice (some ⟨b,0,none⟩) 1 c)
  (h:jzd w base v n ps) (hn:n≤100000) (hb:base≤w.heap.size) (h0:w.cell? ⟨b,0,none⟩=some (bs x.1)) (h1:w.cell? ⟨b,1,none⟩=some (bs x.2))
  (hK:∀v' w',jzd w' base v' (n+1) (ps++[x])→w.grownBy w' v.ownBlock→(v'.ownBlock=v.ownBlock∨v'.ownBlock=some w.heap.size)→wpList prog ops Q rest (a.put o.dst v') w'):wpList prog ops Q (o::rest) a w:=by
 obtain ⟨v',w',hr,k1,k2,k3⟩:=jAH h hn hb h0 h1;refine wpList_plain hg fun K' hK'=> ?_
 exact jiI s y ho hs hy (by rw [ht];exact hr) (hK' _ _ (hK v' w' k1 k2 k3))
theorem jzd.slice {w:World} {base n:Nat} {v:Value} {ps:List (List UInt8×List UInt8)} (h:jzd w base v n ps):∃A c,v= .slice A n c:=by
 rcases h.2 with ⟨rfl,h1⟩|⟨g,cap,cur,rfl,_⟩
 ·exact ⟨none,0,by rw [h1]⟩
 ·exact ⟨_,_,rfl⟩
theorem jz3 {ops:Array Oper} {rest:List Oper} {o:Oper} {a:Act} {Q:Exit→Act→World→Prop} {w:World} {base n b c:Nat} {v:Value} {ps:List (List UInt8×List UInt8)} {x:List UInt8×List UInt8} (hg:o.guard=none) (s y:Operand)
  (ho:o.op= .call { callee:= .builtin .append,args:= #[s,y],argTypes:= #[35,35] }) (ht:o.type=35) (hs:a.eval s=v) (hy:a.eval y= .slice (some ⟨b,0,none⟩) 1 c)
  (h:jzd w base v n ps) (hn:n≤100000) (hb:base≤w.heap.size) (h0:w.cell? ⟨b,0,none⟩=some (bs x.1)) (h1:w.cell? ⟨b,1,none⟩=some (bs x.2))
  (hK:∀A' c' w',jzd w' base (.slice A' (n+1) c') (n+1) (ps++[x])→w.grownBy w' v.ownBlock→((Value.slice A' (n+1) c').ownBlock=v.ownBlock∨(Value.slice A' (n+1) c').ownBlock=some w.heap.size)→wpList prog ops Q rest (a.put o.dst (.slice A' (n+1) c')) w'):wpList prog ops Q (o::rest) a w:=
 jz6 hg s y ho ht hs hy h hn hb h0 h1 (fun v' w' k1 k2 k3=>by
  obtain ⟨A',c',rfl⟩:=k1.slice
  exact hK A' c' w' k1 k2 k3)
end Go.Proofs.YtdbaealhapgjaaaGreatDoor
namespace Go.Proofs.YtdbaealhapgjaaaGreatDoor
open Go Go.RowKit Go.Proofs.Tryz

structure FAt (w:World) (b o:Nat) (x:Rat):Prop where
 at_:∃s A n c t B m d,w.cell? ⟨b,o,none⟩=some (.int .i64 s)∧w.cell? ⟨b,o+1,none⟩=some (.slice A n c)∧w.cell? ⟨b,o+2,none⟩=some (.int .i64 t)∧w.cell? ⟨b,o+3,none⟩=some (.slice B m d)∧RepF w s A n c t B m d x
theorem FAt.below {w w':World} {b o:Nat} {x:Rat} (h:FAt w b o x) (hb:Below w.heap.size w w'):FAt w' b o x:=by
 obtain ⟨s,A,n,c,t,B,m,d,h1,h2,h3,h4,h5⟩:=h.at_;exact ⟨⟨s,A,n,c,t,B,m,d,ja9 hb h1,ja9 hb h2,ja9 hb h3,ja9 hb h4,h5.below hb⟩⟩
structure Qv (w:World) (A:Option Addr) (n:Nat) (qs:List Rat):Prop where
 len:qs.length=n
 at_:0 < n→∃b o,A=some ⟨b,o,none⟩∧b < w.heap.size∧∀j,j < n→FAt w b (o+j*4) (qs.getD j 0)
theorem Qv.below {w w':World} {A:Option Addr} {n:Nat} {qs:List Rat} (h:Qv w A n qs) (hb:Below w.heap.size w w'):Qv w' A n qs:=
 ⟨h.len,fun hn=>by
   obtain ⟨b,o,e,h1,h2⟩:=h.at_ hn
   exact ⟨b,o,e,Nat.lt_of_lt_of_le h1 hb.size,fun j hj=>(h2 j hj).below hb⟩⟩
section
variable {w:World} {A:Option Addr} {n c p:Nat} {qs:List Rat}
end

theorem Pv.twoAt {w:World} {t:TypeId} {a1 a2 b1 b2:List UInt8} {b:Nat} (hb:b=w.heap.size):Pv (w.alloc (.cells #[bs a1,bs a2,bs b1,bs b2] t)) (some ⟨b,0,none⟩) 2 [(a1,a2),(b1,b2)]:=by
 subst hb
 exact ⟨rfl,fun _=>⟨w.heap.size,0,rfl,by simp,fun j hj=>by
  have h:j=0∨j=1:=by omega
  rcases h with rfl|rfl <;> simp⟩⟩

structure SmallQ (x:Rat):Prop where
 lo: -9223372036854775808 < x.num
 hi:x.num < 9223372036854775808
 den:x.den < 9223372036854775808
theorem Rep.is_small {w:World} {s z:Int} {A:Option Addr} {n c:Nat} (h:Rep w s A n c z) (h0: -9223372036854775808 < z) (h1:z < 9223372036854775808):s=z∧A=none∧n=0∧c=0:=by
 cases h with
 | small _ _ _=>exact ⟨rfl,rfl,rfl,rfl⟩
 | plus _ _ _ ds h=>have:=h.big;omega
 | minus _ _ _ ds h=>have:=h.big;omega
abbrev fq (x:Rat):Value:=fv x.num none 0 0 ((x.den:Nat):Int) none 0 0
theorem SmallQ.rep {x:Rat} (h:SmallQ x) (w:World):RepF w x.num none 0 0 ((x.den:Nat):Int) none 0 0 x:=
 ⟨.small _ (by have:=h.lo;omega) h.hi, .small _ (by omega) (by have:=h.den;omega)⟩
theorem SmallQ.post {x:Rat} (hs:SmallQ x) {w w':World} {e:Ending} (h:jaa x w e w'):e= .returned (fq x)∧Below w.heap.size w w':=by
 obtain ⟨s,A,n,c,t,B,m,d,rfl,⟨h1,h2⟩,hb⟩:=h;obtain ⟨rfl,rfl,rfl,rfl⟩:=h1.is_small hs.lo hs.hi;obtain ⟨rfl,rfl,rfl,rfl⟩:=h2.is_small (by omega) (by have:=hs.den;omega);exact ⟨rfl,hb⟩
theorem SmallQ.sz {x:Rat} (h:SmallQ x):Sz 1 x:=⟨by rw [Nat.pow_one,ja3];have:=h.lo;have:=h.hi;omega,by rw [Nat.pow_one,ja3];have:=h.den;omega⟩
theorem jk6 (g j:Nat):(⟨g,0,none⟩:Addr).add j=⟨g,j,none⟩:=by unfold Addr.add;split <;> simp_all
theorem jeZ {w w':World} (h:Below w.heap.size w w'):w.grownBy w' none:=⟨h.os,h.tape,h.output,h.size,fun k hk _=>h.block k hk⟩
theorem jab {w w':World} {base:Nat} {row:Option Nat} (h:w.grownBy w' row) (hb:base≤w.heap.size) (hr:∀k,row=some k→base≤k):Below base w w':=
 ⟨h.os,h.tape,h.output,h.size,fun k hk=>h.block k (Nat.lt_of_lt_of_le hk hb) (fun e=>by have:=hr k e.symm;omega)⟩
theorem jq1:(prog.info? 82).map (fun i=>(i.zero,i.size,i.bytes))=some (some (.agg #[.int .i64 0, .slice none 0 0, .int .i64 0, .slice none 0 0]),4,64):=by kernel_rfl
theorem jdG {P:Program} {o:Oper} {a:Act} {K:Act→World→Prop} {Q:Exit→Act→World→Prop} {w w':World} {v z v':Value} {t:TypeId} (s y:Operand)
  (ho:o.op= .call { callee:= .builtin .append,args:= #[s,y],argTypes:= #[t,t] }) (hs:a.eval s=v) (hy:a.eval y=z)
  (hr:(Builtin.append_ #[t,t] o.type #[v,z]).run P w= .ok v' w') (hK:K (a.put o.dst v') w'):o.wp P a w K Q:=by
 unfold Oper.wp execOp;simp only [ho,resolve,invoke,builtin,Sem.run_bind,Sem.run_pure,Result.andThen_ok,List.map_toArray,List.map_cons,List.map_nil,hs,hy,hr];exact hK

def NoU (w:World) (g:Nat):Prop:=∃cur t f,w.heap[g]? =some (.cells cur t f)∧∀u∈cur.toList,∀z,u≠ .int .u64 z
theorem NoU.cell {w:World} {g o:Nat} {z:Int} (h:NoU w g):w.cell? ⟨g,o,none⟩≠some (.int .u64 z):=by
 obtain ⟨cur,t,f,h1,h2⟩:=h;rw [cell_of_row w g o cur t f h1];intro e;exact h2 _ (by have:=Array.mem_of_getElem? e;simpa using this) z rfl
theorem NoU.kept {w w':World} {g:Nat} (h:NoU w g) (e:w'.heap[g]? =w.heap[g]?):NoU w' g:=by
 obtain ⟨cur,t,f,h1,h2⟩:=h;exact ⟨cur,t,f,e.trans h1,h2⟩
theorem Rep.grown {w w':World} {s z:Int} {A:Option Addr} {n c:Nat} {row:Option Nat} (h:Rep w s A n c z) (hg:w.grownBy w' row) (hr:∀g,row=some g→NoU w g):Rep w' s A n c z:=by
 have key {ds:List Nat} (hb:Big w A n c ds):Big w' A n c ds:=⟨⟨hb.wd.len,hb.wd.dig,hb.wd.big,fun hn=>by
  obtain ⟨b,o,e,hl,hc⟩:=hb.wd.at_ hn
  have hne:some b≠row:=fun e2=>by
   have:=(hr b e2.symm).cell (o:=o+0) (z:=((dg ds 0:Nat):Int));exact this (hc 0 hn)
  exact ⟨b,o,e,Nat.lt_of_lt_of_le hl hg.size,fun j hj=>hg.cell (hc j hj) hne⟩⟩,hb.trim,hb.cap,hb.lim,hb.big⟩
 cases h with
 | small _ h0 h1=>exact .small _ h0 h1
 | plus _ _ _ ds h=>exact .plus _ _ _ ds (key h)
 | minus _ _ _ ds h=>exact .minus _ _ _ ds (key h)
abbrev FT:=(Int×Option Addr×Nat×Nat)×(Int×Option Addr×Nat×Nat)
def fts (q:FT):List Value:=[.int .i64 q.1.1, .slice q.1.2.1 q.1.2.2.1 q.1.2.2.2, .int .i64 q.2.1, .slice q.2.2.1 q.2.2.2.1 q.2.2.2.2]
def ftl (qs:List FT):List Value:=qs.flatMap fts
theorem jcz (a b:List FT):ftl (a++b)=ftl a++ftl b:=by simp [ftl]
theorem jkZ (a:List FT):(ftl a).length=a.length*4:=by
 induction a with
 | nil=>rfl
 | cons q r ih=>rw [show ftl (q::r)=ftl [q]++ftl r from jcz [q] r,List.length_append,ih];simp [ftl,fts];omega
theorem jqB:∀(a:List FT) (j k:Nat) (q:FT),a[j]? =some q→k < 4→(ftl a)[j*4+k]? =(fts q)[k]?
 | [],j,k,q,h,_=>by simp at h
 | p::r,0,k,q,h,hk=>by
   simp at h;subst h;rw [show ftl (p::r)=ftl [p]++ftl r from jcz [p] r,List.getElem?_append_left (by simp [ftl,fts];omega)];simp [ftl]
 | p::r,j+1,k,q,h,hk=>by
   rw [show ftl (p::r)=ftl [p]++ftl r from jcz [p] r,List.getElem?_append_right (by simp [ftl,fts];omega)];have e:(j+1)*4+k - (ftl [p]).length=j*4+k:=by simp [ftl,fts];omega
   rw [e,jqB r j k q (by simpa using h) hk]
abbrev jlE (w:World) (q:FT) (x:Rat):Prop:=RepF w q.1.1 q.1.2.1 q.1.2.2.1 q.1.2.2.2 q.2.1 q.2.2.1 q.2.2.2.1 q.2.2.2.2 x
structure OwnF (w:World) (base:Nat) (v:Value) (n:Nat) (vs:List FT) (qs:List Rat):Prop where
 row:w.ownsRow base 82 4 v n (ftl vs)
 len:vs.length=qs.length
 rep:∀(j:Nat) (q:FT) (x:Rat),vs[j]? =some q→qs[j]? =some x→jlE w q x
 nou:∀g,v.ownBlock=some g→NoU w g
theorem OwnF.nil (w:World) (base:Nat):OwnF w base (.slice none 0 0) 0 [] []:=⟨World.ownsRow_nil _ _ _ _,rfl,fun j q x h=>by simp at h,fun g h=>by cases h⟩
theorem OwnF.kept {w w':World} {base n:Nat} {v:Value} {vs:List FT} {qs:List Rat} {row:Option Nat} (h:OwnF w base v n vs qs) (hg:w.grownBy w' row) (hr:∀g,row=some g→NoU w g) (hne:∀g,v.ownBlock=some g→some g≠row):OwnF w' base v n vs qs:=
 ⟨World.ownsRow.kept h.row hg (by cases e:v.ownBlock with|none=>exact .inl rfl|some g=>exact .inr (hne g e)),h.len,fun j q x h1 h2=>⟨(h.rep j q x h1 h2).1.grown hg hr,(h.rep j q x h1 h2).2.grown hg hr⟩,
   fun g e=>(h.nou g e).kept (hg.block g (World.ownsRow.lt h.row g e).2 (hne g e))⟩
theorem OwnF.below {w w':World} {base n:Nat} {v:Value} {vs:List FT} {qs:List Rat} (h:OwnF w base v n vs qs) (hb:Below w.heap.size w w'):OwnF w' base v n vs qs:=
 h.kept (jeZ hb) (fun g e=>by cases e) (fun g _ e=>by cases e)
theorem OwnF.alloc {w:World} {base n:Nat} {v:Value} {vs:List FT} {qs:List Rat} (h:OwnF w base v n vs qs) (o:Obj):OwnF (w.alloc o) base v n vs qs:=h.below (bA bR)
theorem OwnF.lt {w:World} {base n:Nat} {v:Value} {vs:List FT} {qs:List Rat} (h:OwnF w base v n vs qs):∀k,v.ownBlock=some k→base≤k∧k < w.heap.size:=World.ownsRow.lt h.row
theorem OwnF.num {w:World} {base n:Nat} {v:Value} {vs:List FT} {qs:List Rat} (h:OwnF w base v n vs qs):qs.length=n:=by
 have:=h.row.1;rw [jkZ] at this;have:=h.len;omega
theorem OwnF.qv {w:World} {base n:Nat} {v:Value} {vs:List FT} {qs:List Rat} (h:OwnF w base v n vs qs) (h0:0 < n):∃A c,v= .slice A n c∧Qv w A n qs:=by
 have hl:=h.num;rcases h.row.2 with ⟨rfl,h1⟩|⟨g,cap,cur,rfl,hb,hg,hnc,hcm,hcs,ht⟩
 ·omega
 ·refine ⟨some ⟨g,0,none⟩,cap,rfl,hl,fun _=>⟨g,0,rfl,(Array.getElem?_eq_some_iff.1 hg).1,fun j hj=> ?_⟩⟩;have hc:=World.ownsRow.cells h.row (g:=g) rfl;have hj1:j < vs.length:=by have:=h.len;omega
  have hj2:j < qs.length:=by omega
  have e1:vs[j]? =some vs[j]:=List.getElem?_eq_getElem hj1
  have e2:qs[j]? =some (qs.getD j 0):=by rw [List.getD_eq_getElem?_getD,List.getElem?_eq_getElem hj2];rfl
  have c (k:Nat) (hk:k < 4) (u:Value) (hu:(fts vs[j])[k]? =some u):w.cell? ⟨g,0+j*4+k,none⟩=some u:=by
   have:=hc (j*4+k) u (by rw [jqB vs j k _ e1 hk,hu]);rw [jk6] at this;rw [Nat.zero_add];exact this
  exact ⟨⟨_,_,_,_,_,_,_,_,c 0 (by omega) _ rfl,c 1 (by omega) _ rfl,c 2 (by omega) _ rfl,c 3 (by omega) _ rfl,h.rep j _ _ e1 e2⟩⟩
theorem jgw {w:World} {cs:Array Value} {t:TypeId} (h:∀u∈cs.toList,∀z,u≠ .int .u64 z):NoU (w.alloc (.cells cs t)) w.heap.size:=⟨cs,t,(0,0),heap_alloc_new w _,h⟩
theorem jo6 {q:FT}:∀u∈fts q,∀z,u≠ .int .u64 z:=by
 intro u hu z;simp [fts] at hu;rcases hu with rfl|rfl|rfl|rfl <;> simp
theorem jn9 {w:World} {base n b c:Nat} {v:Value} {vs:List FT} {qs:List Rat} {q:FT} {x:Rat} (h:OwnF w base v n vs qs) (hn:n≤100000) (hb:base≤w.heap.size) (hq:jlE w q x)
  (h0:w.cell? ⟨b,0,none⟩=some (.int .i64 q.1.1)) (h1:w.cell? ⟨b,1,none⟩=some (.slice q.1.2.1 q.1.2.2.1 q.1.2.2.2)) (h2:w.cell? ⟨b,2,none⟩=some (.int .i64 q.2.1)) (h3:w.cell? ⟨b,3,none⟩=some (.slice q.2.2.1 q.2.2.2.1 q.2.2.2.2)):
  ∃v' w',(Builtin.append_ #[115,115] 115 #[v, .slice (some ⟨b,0,none⟩) 1 c]).run prog w= .ok v' w'∧OwnF w' base v' (n+1) (vs++[q]) (qs++[x])∧w.grownBy w' v.ownBlock∧(v'.ownBlock=v.ownBlock∨v'.ownBlock=some w.heap.size):=by
 obtain ⟨i,hi,hz0,hz1,hz2⟩:=info_parts jq1
 have hnews:∀j u,(ftl [q])[j]? =some u→w.cell? ((⟨b,0,none⟩:Addr).add j)=some u:=by
  intro j u hu;rw [jk6]
  match j,hu with
  | 0,hu=>simp [ftl,fts] at hu;subst hu;exact h0
  | 1,hu=>simp [ftl,fts] at hu;subst hu;exact h1
  | 2,hu=>simp [ftl,fts] at hu;subst hu;exact h2
  | 3,hu=>simp [ftl,fts] at hu;subst hu;exact h3
  | j+4,hu=>simp [ftl,fts] at hu
 have hone:∀u∈ftl [q],u.oneCell'=true:=by intro u hu;simp [ftl,fts] at hu;rcases hu with rfl|rfl|rfl|rfl <;> rfl
 obtain ⟨v',w',hr,k1,k2,_,k3⟩:=run_append_own_at (P:=prog) w base 115 115 82 i _ 4 64 underlying115 hi hz0 hz1 hz2 rfl (by decide) v n (ftl vs) h.row ⟨b,0,none⟩ 1 c (ftl [q]) (by simp [ftl,fts]) hnews hone
  (by simp only [maxLen];omega) (by omega) hb
 have hzc:∀k,∀u∈(Builtin.zeroCells (Value.agg #[.int .i64 0, .slice none 0 0, .int .i64 0, .slice none 0 0]).cells k).toList,∀z,u≠ .int .u64 z:=by
  intro k u hu z;simp [Builtin.zeroCells,Value.cells] at hu;obtain ⟨i,_,rfl⟩:=hu;have:i % 4=0∨i % 4=1∨i % 4=2∨i % 4=3:=by omega
  rcases this with h|h|h|h <;> rw [h] <;> simp
 have hns:∀u∈ftl [q],∀z,u≠ .int .u64 z:=by
  intro u hu;simp only [ftl,List.flatMap_cons,List.flatMap_nil,List.append_nil] at hu;exact jo6 u hu
 have hnou:∀g,v'.ownBlock=some g→NoU w' g:=by
  rcases h.row.2 with ⟨rfl,rfl⟩|⟨g,cap,cur,rfl,hbg,hg,hnc,hcm,hcs,htake⟩
  ·have hr2:=run_append_nil (P:=prog) w 115 115 82 i _ underlying115 hi hz0 ⟨b,0,none⟩ 1 c (ftl [q]) (by simp [ftl,fts,hz1]) hnews (by omega) (by omega) (by rw [hz2];omega);rw [hr] at hr2;obtain ⟨rfl,rfl⟩:=Result.ok.inj hr2;intro g hg;simp [Value.ownBlock] at hg;subst hg;refine jgw fun u hu z=> ?_
   simp only [Array.toList_append,List.mem_append] at hu;rcases hu with hu|hu
   ·exact hns u hu z
   ·exact hzc _ u hu z
  ·have hcn:∀u∈cur.toList,∀z,u≠ .int .u64 z:=by
    obtain ⟨cur',t',f',e1,e2⟩:=h.nou g rfl;rw [hg] at e1;cases e1
    exact e2
   by_cases hroom:n+1≤cap
   ·have hr2:=run_append_room (P:=prog) w 115 115 82 i underlying115 hi g n cap cur hg ⟨b,0,none⟩ 1 c (ftl [q]) (by simp [ftl,fts,hz1]) hnews hone hroom (by rw [hz1,hcs];simp [ftl,fts];omega);rw [hr] at hr2;obtain ⟨rfl,rfl⟩:=Result.ok.inj hr2;intro k hk;simp [Value.ownBlock] at hk;subst hk;refine ⟨_,_,_,setRow_heap w g cur _ _ _ hg,fun u hu z=> ?_⟩;simp only [List.mem_append] at hu;rcases hu with (hu|hu)|hu
    ·exact hcn u (List.mem_of_mem_take hu) z
    ·exact hns u hu z
    ·exact hcn u (List.mem_of_mem_drop hu) z
   ·have holds:∀j u,(ftl vs)[j]? =some u→w.cell? ((⟨g,0,none⟩:Addr).add j)=some u:=h.row.cells (g:=g) rfl;have hr2:=run_append_grow (P:=prog) w 115 115 82 i _ underlying115 hi hz0 ⟨g,0,none⟩ n cap (ftl vs) (by rw [hz1];exact h.row.1) holds ⟨b,0,none⟩ 1 c (ftl [q]) (by simp [ftl,fts,hz1]) hnews (by omega) (by omega) (growslice_fits (by omega) (by rw [hz2];omega));rw [hr] at hr2;obtain ⟨rfl,rfl⟩:=Result.ok.inj hr2;intro k hk;simp [Value.ownBlock] at hk;subst hk;refine jgw fun u hu z=> ?_
    simp only [Array.toList_append,List.mem_append] at hu;rcases hu with (hu|hu)|hu
    ·refine hcn u ?_ z;have hu':u∈ftl vs:=hu;rw [←htake] at hu';exact List.mem_of_mem_take hu'
    ·exact hns u hu z
    ·exact hzc _ u hu z
 refine ⟨v',w',hr,⟨by rw [jcz];exact k1,by simp [h.len],fun j p y e1 e2=> ?_,hnou⟩,k2,k3⟩;have hlen:=h.len;have hgr (p:FT) (y:Rat) (hp:jlE w p y):jlE w' p y:=⟨hp.1.grown k2 (fun g e=>h.nou g e),hp.2.grown k2 (fun g e=>h.nou g e)⟩;by_cases hj:j < vs.length
 ·rw [List.getElem?_append_left hj] at e1;rw [List.getElem?_append_left (by omega)] at e2;exact hgr _ _ (h.rep j p y e1 e2)
 ·rw [List.getElem?_append_right (by omega)] at e1;rw [List.getElem?_append_right (by omega)] at e2
  have:j - vs.length=0:=by
   rcases Nat.eq_zero_or_pos (j - vs.length) with h|h
   ·exact h
   ·rw [List.getElem?_eq_none (by simp;omega)] at e1;cases e1
  rw [this] at e1;rw [show j - qs.length=0 by omega] at e2;simp at e1 e2;subst e1 e2;exact hgr _ _ hq
theorem jkT {o:Oper} {a:Act} {K:Act→World→Prop} {Q:Exit→Act→World→Prop} {w:World} {base n b c:Nat} {v:Value} {vs:List FT} {qs:List Rat} {q:FT} {x:Rat} (s y:Operand)
  (ho:o.op= .call { callee:= .builtin .append,args:= #[s,y],argTypes:= #[115,115] }) (ht:o.type=115) (hs:a.eval s=v) (hy:a.eval y= .slice (some ⟨b,0,none⟩) 1 c)
  (h:OwnF w base v n vs qs) (hn:n≤100000) (hb:base≤w.heap.size) (hq:jlE w q x)
  (h0:w.cell? ⟨b,0,none⟩=some (.int .i64 q.1.1)) (h1:w.cell? ⟨b,1,none⟩=some (.slice q.1.2.1 q.1.2.2.1 q.1.2.2.2)) (h2:w.cell? ⟨b,2,none⟩=some (.int .i64 q.2.1)) (h3:w.cell? ⟨b,3,none⟩=some (.slice q.2.2.1 q.2.2.2.1 q.2.2.2.2))
  (hK:∀v' w',OwnF w' base v' (n+1) (vs++[q]) (qs++[x])→w.grownBy w' v.ownBlock→(v'.ownBlock=v.ownBlock∨v'.ownBlock=some w.heap.size)→K (a.put o.dst v') w'):o.wp prog a w K Q:=by
 obtain ⟨v',w',hr,k1,k2,k3⟩:=jn9 h hn hb hq h0 h1 h2 h3;exact jdG s y ho hs hy (by rw [ht];exact hr) (hK v' w' k1 k2 k3)
end Go.Proofs.YtdbaealhapgjaaaGreatDoor
