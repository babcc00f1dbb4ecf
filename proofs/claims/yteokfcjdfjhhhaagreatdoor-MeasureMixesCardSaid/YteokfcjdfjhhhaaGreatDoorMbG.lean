/- Parts. -/
import Derived.Test.YteokfcjdfjhhhaaGreatDoorFfG
import Derived.Test.YteokfcjdfjhhhaaGreatDoorRows
import Derived.Laws.RangeAny
import Derived.ProofKit
import Derived.OpenShut
import Derived.Carry
import Derived.Deep.DeepHandedRow
import Derived.Lib.LaidTab
import Derived.Stop.LaidErr
import Derived.Lay
import Derived.MakeChecks
import Derived.Shelf.Vars
set_option linter.all false
set_option maxRecDepth 100000
set_option maxHeartbeats 8000000
namespace Go.Proofs.YteokfcjdfjhhhaaGreatDoor
open Go Go.RowKit

def jbG (n:Nat):Bool:=(decide (97≤n) && decide (n≤122)) || (decide (65≤n) && decide (n≤90)) || (decide (48≤n) && decide (n≤57)) || n==45 || n==95 || n==46
def jaZ (l:List UInt8):Bool:=l.all (fun c=>jbG c.toNat) && decide (1≤l.length) && decide (l.length≤24)
theorem jgG {n:Nat} (h:jbG n=true):n < 128:=by
 simp [jbG] at h;omega
theorem jq0 (s:ByteArray) (pos:Nat) (h:pos < s.size):∃r k:Nat,Utf8.decode s pos=(r,k)∧1≤k∧jbG r=jbG (s[pos]'h).toNat∧(jbG r=true→k=1):=by
 by_cases ha:(s[pos]'h).toNat < 128
 ·exact ⟨_,_,decode_ascii s pos h ha,by omega,rfl,fun _=>rfl⟩
 ·have h2:=decode_high s pos h (by omega);refine ⟨(Utf8.decode s pos).1,(Utf8.decode s pos).2,rfl,h2.2, ?_, ?_⟩
  ·have e1:jbG (Utf8.decode s pos).1=false:=by
    rcases hb:jbG (Utf8.decode s pos).1 with _ | _
    ·rfl
    ·have:=jgG hb;omega
   have e2:jbG (s[pos]'h).toNat=false:=by
    rcases hb:jbG (s[pos]'h).toNat with _ | _
    ·rfl
    ·have:=jgG hb;omega
   rw [e1,e2]
  ·intro hb;have:=jgG hb;omega

theorem jb8 (w:World) (s:ByteArray) (pos:Nat):Below w.heap.size w (w.iter s pos):=(Below.refl _ _).alloc (Nat.le_refl _) _
section
variable {w:World} {l:List UInt8}
theorem jkm:Calls Tryz.prog 27 #[bs l] w fun e w'=>e= .returned (.bool (jaZ l))∧Below w.heap.size w w':=by
 obtain ⟨R,hR⟩:∃R,jaZ l=R:=⟨_,rfl⟩;rw [hR];have HR:=qh hR;clear hR;go_enter Tryz.func27,Tryz.ntmps27;go_wp2
 go_loopw [4] (fun _ wr=>∃pos:Nat,wr=w.iter ⟨l.toArray⟩ pos∧pos≤l.length∧(l.take pos).all (fun c=>jbG c.toNat)=true) (fun _ wr=>l.length - wr.iterPos w.heap.size)
 case atStart=>exact ⟨0,rfl,by omega,by simp⟩
 case round=>
  obtain ⟨pos,rfl,hle,hall⟩:=hrel;by_cases hp:pos < l.length
  ·have hps:pos < (⟨l.toArray⟩:ByteArray).size:=by simpa [ByteArray.size] using hp
   obtain ⟨r,k,hd,hk1,hn,hk⟩:=jq0 ⟨l.toArray⟩ pos hps
   have hnx:∀ty,(Instr.next (.pointer (some ⟨w.heap.size,0,none⟩)) true ty).run Tryz.prog (w.iter ⟨l.toArray⟩ pos)= .ok (.tuple #[.bool true, .int .i64 pos, .int .i32 (r:Int)]) (w.iter ⟨l.toArray⟩ (pos+k)):=fun ty=>by
    have:=run_next_any (P:=Tryz.prog) w ⟨l.toArray⟩ pos ty hps;rwa [hd] at this
   have hc:(⟨l.toArray⟩:ByteArray)[pos]'hps=l[pos]:=by simp [ByteArray.getElem_eq_getElem_data]
   rw [hc] at hn;cases hg:jbG r with
   | true=>
     have hk':=hk hg;subst hk';have HP:=qh hp
     have HALL:=qh (show (l.take (pos+1)).all (fun c=>jbG c.toNat)=true by
      rw [List.take_succ_eq_append_getElem hp,List.all_append,hall];simp [←hn,hg])
     clear hd hk1 hk hn hc hall hle hps hp;have hg2:=hg;simp only [jbG,Bool.or_eq_true,Bool.and_eq_true,decide_eq_true_eq,beq_iff_eq] at hg2;clear hg;rcases hg2 with ((((h1|h1)|h1)|h1)|h1)|h1
     ·have q1:decide ((97:Int)≤(r:Int))=true:=by simp;omega
      have q2:decide ((r:Int)≤122)=true:=by simp;omega
      have q3:decide ((65:Int)≤(r:Int))=true:=by simp;omega
      have q4:decide ((r:Int)≤90)=false:=by simp;omega
      have q5:decide ((48:Int)≤(r:Int))=true:=by simp;omega
      have q6:decide ((r:Int)≤57)=false:=by simp;omega
      have q7:((r:Int) != 45)=true:=by simp;omega
      have q8:((r:Int) != 95)=true:=by simp;omega
      have q9:((r:Int) != 46)=true:=by simp;omega
      clear h1;go_wp2
      go_roundw
      case rel=>
       exact ⟨pos+1,rfl,by have:=HP.out;omega,HALL.out⟩
      case measure=>
       have:=HP.out;simp;omega
     ·have q1:decide ((97:Int)≤(r:Int))=false:=by simp;omega
      have q2:decide ((r:Int)≤122)=true:=by simp;omega
      have q3:decide ((65:Int)≤(r:Int))=true:=by simp;omega
      have q4:decide ((r:Int)≤90)=true:=by simp;omega
      have q5:decide ((48:Int)≤(r:Int))=true:=by simp;omega
      have q6:decide ((r:Int)≤57)=false:=by simp;omega
      have q7:((r:Int) != 45)=true:=by simp;omega
      have q8:((r:Int) != 95)=true:=by simp;omega
      have q9:((r:Int) != 46)=true:=by simp;omega
      clear h1;go_wp2
      go_roundw
      case rel=>
       exact ⟨pos+1,rfl,by have:=HP.out;omega,HALL.out⟩
      case measure=>
       have:=HP.out;simp;omega
     ·have q1:decide ((97:Int)≤(r:Int))=false:=by simp;omega
      have q2:decide ((r:Int)≤122)=true:=by simp;omega
      have q3:decide ((65:Int)≤(r:Int))=false:=by simp;omega
      have q4:decide ((r:Int)≤90)=true:=by simp;omega
      have q5:decide ((48:Int)≤(r:Int))=true:=by simp;omega
      have q6:decide ((r:Int)≤57)=true:=by simp;omega
      have q7:((r:Int) != 45)=true:=by simp;omega
      have q8:((r:Int) != 95)=true:=by simp;omega
      have q9:((r:Int) != 46)=true:=by simp;omega
      clear h1;go_wp2
      go_roundw
      case rel=>
       exact ⟨pos+1,rfl,by have:=HP.out;omega,HALL.out⟩
      case measure=>
       have:=HP.out;simp;omega
     ·have q1:decide ((97:Int)≤(r:Int))=false:=by simp;omega
      have q2:decide ((r:Int)≤122)=true:=by simp;omega
      have q3:decide ((65:Int)≤(r:Int))=false:=by simp;omega
      have q4:decide ((r:Int)≤90)=true:=by simp;omega
      have q5:decide ((48:Int)≤(r:Int))=false:=by simp;omega
      have q6:decide ((r:Int)≤57)=true:=by simp;omega
      have q7:((r:Int) != 45)=false:=by simp;omega
      have q8:((r:Int) != 95)=true:=by simp;omega
      have q9:((r:Int) != 46)=true:=by simp;omega
      clear h1;go_wp2
      go_roundw
      case rel=>
       exact ⟨pos+1,rfl,by have:=HP.out;omega,HALL.out⟩
      case measure=>
       have:=HP.out;simp;omega
     ·have q1:decide ((97:Int)≤(r:Int))=false:=by simp;omega
      have q2:decide ((r:Int)≤122)=true:=by simp;omega
      have q3:decide ((65:Int)≤(r:Int))=true:=by simp;omega
      have q4:decide ((r:Int)≤90)=false:=by simp;omega
      have q5:decide ((48:Int)≤(r:Int))=true:=by simp;omega
      have q6:decide ((r:Int)≤57)=false:=by simp;omega
      have q7:((r:Int) != 45)=true:=by simp;omega
      have q8:((r:Int) != 95)=false:=by simp;omega
      have q9:((r:Int) != 46)=true:=by simp;omega
      clear h1;go_wp2
      go_roundw
      case rel=>
       exact ⟨pos+1,rfl,by have:=HP.out;omega,HALL.out⟩
      case measure=>
       have:=HP.out;simp;omega
     ·have q1:decide ((97:Int)≤(r:Int))=false:=by simp;omega
      have q2:decide ((r:Int)≤122)=true:=by simp;omega
      have q3:decide ((65:Int)≤(r:Int))=false:=by simp;omega
      have q4:decide ((r:Int)≤90)=true:=by simp;omega
      have q5:decide ((48:Int)≤(r:Int))=false:=by simp;omega
      have q6:decide ((r:Int)≤57)=true:=by simp;omega
      have q7:((r:Int) != 45)=true:=by simp;omega
      have q8:((r:Int) != 95)=true:=by simp;omega
      have q9:((r:Int) != 46)=false:=by simp;omega
      clear h1;go_wp2
      go_roundw
      case rel=>
       exact ⟨pos+1,rfl,by have:=HP.out;omega,HALL.out⟩
      case measure=>
       have:=HP.out;simp;omega
   | false=>
     have hbad:jaZ l=false:=by
      have:l.all (fun c=>jbG c.toNat)=false:=by
       rw [Bool.eq_false_iff];intro h;have:=List.all_eq_true.1 h _ (List.getElem_mem hp);rw [←hn,hg] at this;cases this
      simp [jaZ,this]
     have hR:R=false:=by rw [←HR.out];exact hbad
     subst hR;clear hbad hd hk1 hk hn hc hall hle hps hp
     have h1:r < 45∨r=47∨(58≤r∧r≤64)∨(91≤r∧r≤94)∨r=96∨123≤r:=by
      simp [jbG] at hg;omega
     clear hg;rcases h1 with h1|h1|h1|h1|h1|h1
     ·have q1:decide ((97:Int)≤(r:Int))=false:=by simp;omega
      have q2:decide ((r:Int)≤122)=true:=by simp;omega
      have q3:decide ((65:Int)≤(r:Int))=false:=by simp;omega
      have q4:decide ((r:Int)≤90)=true:=by simp;omega
      have q5:decide ((48:Int)≤(r:Int))=false:=by simp;omega
      have q6:decide ((r:Int)≤57)=true:=by simp;omega
      have q7:((r:Int) != 45)=true:=by simp;omega
      have q8:((r:Int) != 95)=true:=by simp;omega
      have q9:((r:Int) != 46)=true:=by simp;omega
      clear h1;go_wp2;go_ret;exact ⟨by simp,jb8 w _ _⟩
     ·have q1:decide ((97:Int)≤(r:Int))=false:=by simp;omega
      have q2:decide ((r:Int)≤122)=true:=by simp;omega
      have q3:decide ((65:Int)≤(r:Int))=false:=by simp;omega
      have q4:decide ((r:Int)≤90)=true:=by simp;omega
      have q5:decide ((48:Int)≤(r:Int))=false:=by simp;omega
      have q6:decide ((r:Int)≤57)=true:=by simp;omega
      have q7:((r:Int) != 45)=true:=by simp;omega
      have q8:((r:Int) != 95)=true:=by simp;omega
      have q9:((r:Int) != 46)=true:=by simp;omega
      clear h1;go_wp2;go_ret;exact ⟨by simp,jb8 w _ _⟩
     ·have q1:decide ((97:Int)≤(r:Int))=false:=by simp;omega
      have q2:decide ((r:Int)≤122)=true:=by simp;omega
      have q3:decide ((65:Int)≤(r:Int))=false:=by simp;omega
      have q4:decide ((r:Int)≤90)=true:=by simp;omega
      have q5:decide ((48:Int)≤(r:Int))=true:=by simp;omega
      have q6:decide ((r:Int)≤57)=false:=by simp;omega
      have q7:((r:Int) != 45)=true:=by simp;omega
      have q8:((r:Int) != 95)=true:=by simp;omega
      have q9:((r:Int) != 46)=true:=by simp;omega
      clear h1;go_wp2;go_ret;exact ⟨by simp,jb8 w _ _⟩
     ·have q1:decide ((97:Int)≤(r:Int))=false:=by simp;omega
      have q2:decide ((r:Int)≤122)=true:=by simp;omega
      have q3:decide ((65:Int)≤(r:Int))=true:=by simp;omega
      have q4:decide ((r:Int)≤90)=false:=by simp;omega
      have q5:decide ((48:Int)≤(r:Int))=true:=by simp;omega
      have q6:decide ((r:Int)≤57)=false:=by simp;omega
      have q7:((r:Int) != 45)=true:=by simp;omega
      have q8:((r:Int) != 95)=true:=by simp;omega
      have q9:((r:Int) != 46)=true:=by simp;omega
      clear h1;go_wp2;go_ret;exact ⟨by simp,jb8 w _ _⟩
     ·have q1:decide ((97:Int)≤(r:Int))=false:=by simp;omega
      have q2:decide ((r:Int)≤122)=true:=by simp;omega
      have q3:decide ((65:Int)≤(r:Int))=true:=by simp;omega
      have q4:decide ((r:Int)≤90)=false:=by simp;omega
      have q5:decide ((48:Int)≤(r:Int))=true:=by simp;omega
      have q6:decide ((r:Int)≤57)=false:=by simp;omega
      have q7:((r:Int) != 45)=true:=by simp;omega
      have q8:((r:Int) != 95)=true:=by simp;omega
      have q9:((r:Int) != 46)=true:=by simp;omega
      clear h1;go_wp2;go_ret;exact ⟨by simp,jb8 w _ _⟩
     ·have q1:decide ((97:Int)≤(r:Int))=true:=by simp;omega
      have q2:decide ((r:Int)≤122)=false:=by simp;omega
      have q3:decide ((65:Int)≤(r:Int))=true:=by simp;omega
      have q4:decide ((r:Int)≤90)=false:=by simp;omega
      have q5:decide ((48:Int)≤(r:Int))=true:=by simp;omega
      have q6:decide ((r:Int)≤57)=false:=by simp;omega
      have q7:((r:Int) != 45)=true:=by simp;omega
      have q8:((r:Int) != 95)=true:=by simp;omega
      have q9:((r:Int) != 46)=true:=by simp;omega
      clear h1;go_wp2;go_ret;exact ⟨by simp,jb8 w _ _⟩
  ·have hnx:∀ty,(Instr.next (.pointer (some ⟨w.heap.size,0,none⟩)) true ty).run Tryz.prog (w.iter ⟨l.toArray⟩ pos)=_:=fun ty=>run_next_end w ⟨l.toArray⟩ pos ty (by simpa [ByteArray.size] using hp)
   have e:jaZ l=(decide (1≤l.length) && decide (l.length≤24)):=by
    unfold jaZ;rw [List.take_of_length_le (by omega)] at hall;rw [hall];simp
   have hR:R=(decide (1≤l.length) && decide (l.length≤24)):=by rw [←HR.out];exact e
   clear HR;subst hR;have q1:decide ((1:Int)≤(l.length:Int))=decide (1≤l.length):=by rw [decide_eq_decide];omega
   have q2:decide ((l.length:Int)≤24)=decide (l.length≤24):=by rw [decide_eq_decide];omega
   clear hp hall hle e;obtain ⟨b1,hb1⟩:∃b,decide (1≤l.length)=b:=⟨_,rfl⟩;obtain ⟨b2,hb2⟩:∃b,decide (l.length≤24)=b:=⟨_,rfl⟩;rw [hb1] at q1;rw [hb2] at q2;have HB:=qh (And.intro hb1 hb2);clear hb1 hb2;cases b1
   ·go_wp2;go_ret;exact ⟨by rw [HB.out.1,HB.out.2];simp,jb8 w _ _⟩
   ·go_wp2;go_ret;exact ⟨by rw [HB.out.1,HB.out.2];simp,jb8 w _ _⟩
theorem jaK {g:Bool} (hg:jaZ l=g):Calls Tryz.prog 27 #[bs l] w fun e w'=>e= .returned (.bool g)∧Below w.heap.size w w':=hg ▸ jkm
end

structure Iv (w:World) (A:Option Addr) (n:Nat) (zs:List Int):Prop where
 len:zs.length=n
 rng:∀z∈zs,R64 z
 at_:0 < n→∃b o,A=some ⟨b,o,none⟩∧b < w.heap.size∧∀j,j < n→w.cell? ⟨b,o+j,none⟩=some (.int .i64 (zs.getD j 0))
theorem Iv.below {w w':World} {A:Option Addr} {n:Nat} {zs:List Int} (h:Iv w A n zs) (hb:Below w.heap.size w w'):Iv w' A n zs:=
 ⟨h.len,h.rng,fun hn=>by
   obtain ⟨b,o,e,h1,h2⟩:=h.at_ hn
   exact ⟨b,o,e,Nat.lt_of_lt_of_le h1 hb.size,fun j hj=>by rw [hb.cell (p:=⟨b,o+j,none⟩) h1];exact h2 j hj⟩⟩

def jpc (s:Int):List Int→Int×Int
 | []=>if s=0 then (0,6) else (s,0)
 | x::r=>if x < 0∨999999999 < x then (0,3) else jpc (s+x) r
def cw (ws:List Int):Int×Int:=jpc 0 ws
theorem jli {zs:List Int} {i:Nat} (h:i < zs.length):zs.drop i=zs.getD i 0::zs.drop (i+1):=by
 rw [List.drop_eq_getElem_cons h,List.getD_eq_getElem?_getD,List.getElem?_eq_getElem h];rfl

section
variable {w:World} {A:Option Addr} {n c:Nat} {ws:List Int}
theorem jcf (h:Iv w A n ws) (hn:n≤100000):Calls Tryz.prog 73 #[.slice A n c] w fun e w'=>e= .returned (.tuple #[.int .i64 (cw ws).1, .int .i64 (cw ws).2])∧Below w.heap.size w w':=by
 obtain ⟨R,hR⟩:∃R,cw ws=R:=⟨_,rfl⟩;rw [hR];have HR:=qh hR;have H:=qh h;have HN:=qh hn;clear hR h hn;go_enter Tryz.func73,Tryz.ntmps73;go_wp2
 go_loopw [4,9] (fun v u wr=>∃(s:Int) (i:Nat),v= .int .i64 s∧u= .int .i64 (i:Int)∧wr=w∧i≤n∧0≤s∧s≤i*999999999∧jpc s (ws.drop i)=R) (fun _ u _=>n - (intOf u).toNat)
 case atStart=>exact ⟨0,0,rfl,rfl,rfl,by omega,by omega,by omega,HR.out⟩
 case round=>
  obtain ⟨s,i,rfl,rfl,rfl,hin,hs0,hs1,hc⟩:=hrel;by_cases hi:i < n
  ·have q0:decide ((i:Int) < (n:Int))=true:=by simp;exact hi
   obtain ⟨b,o,rfl,hb,hcell⟩:=H.out.at_ (by omega);have hx:=hcell i hi;rw [jli (by rw [H.out.len];exact hi)] at hc;obtain ⟨x,hxx⟩:∃x,ws.getD i 0=x:=⟨_,rfl⟩;rw [hxx] at hx hc;have hnn:=HN.out;clear hcell;by_cases hx0:x < 0
   ·have hR:R=(0,3):=by rw [←hc];unfold jpc;rw [if_pos (Or.inl hx0)]
    have q1:decide (x < 0)=true:=by simp;exact hx0
    subst hR;clear hc HR hx0;go_wp2;go_ret2;exact ⟨rfl,bi⟩
   ·have q1:decide (x < 0)=false:=by simp;omega
    by_cases hx1:999999999 < x
    ·have hR:R=(0,3):=by rw [←hc];unfold jpc;rw [if_pos (Or.inr hx1)]
     have q2:decide (999999999 < x)=true:=by simp;exact hx1
     subst hR;clear hc HR hx0 hx1;go_wp2;go_ret2;exact ⟨rfl,bi⟩
    ·have q2:decide (999999999 < x)=false:=by simp;omega
     have hc2:jpc (s+x) (ws.drop (i+1))=R:=by
      rw [←hc];conv=>rhs;unfold jpc
      rw [if_neg (by omega)]
     have HC:=qh hc2;have hw:wrap64 (s+x)=s+x:=by unfold wrap64;omega
     have HS:=qh (show 0≤s+x∧s+x≤((i+1:Nat):Int)*999999999 by omega);have HI:=qh hi;clear hc hc2 hx0 hx1 hs0 hs1;go_wp2;exact ⟨⟨s+x,i+1,by simp [hw],by simp,by first|rfl|trivial,HI.out,HS.out.1,HS.out.2,HC.out⟩,by have:=HI.out;simp [intOf];omega⟩
  ·have q0:decide (i < n)=false:=by simp;omega
   rw [List.drop_eq_nil_of_le (by rw [H.out.len];omega)] at hc;by_cases h0:s=0
   ·subst h0;have hR:R=(0,6):=by rw [←hc];rfl
    subst hR;clear hc HR hi;go_wp2;go_ret2;exact ⟨rfl,bi⟩
   ·have hR:R=(s,0):=by rw [←hc];unfold jpc;rw [if_neg h0]
    have q1:(s==0)=false:=by rw [beq_eq_false_iff_ne];exact h0
    subst hR;clear hc HR hi h0;go_wp2;go_ret2;exact ⟨rfl,bi⟩
end

theorem jfT (x y:Int) (W:World) (n:Nat):Calls Tryz.prog 77 #[.int .i64 x, .int .i64 y] (W.drewN n) fun e w'=>e= .returned (.int .i64 (Lib.compareInt x y))∧∃m,w'=W.drewN m:=
 (Tryz.cmp_Compare_int x y (W.drewN n)).mono fun e w' ⟨he,hw⟩=>⟨he,n,hw⟩
section
variable {W:World} {p2 p3 p4:Nat} {bw ow n c:Nat} {ws:List Int} {t s:Int}
theorem jnL {i j:Nat} (h2:W.cell? ⟨p2,0,none⟩=some (.int .i64 t)) (h3:W.cell? ⟨p3,0,none⟩=some (.slice (some ⟨bw,ow,none⟩) n c)) (h4:W.cell? ⟨p4,0,none⟩=some (.int .i64 s))
  (hw:∀j,j < n→W.cell? ⟨bw,ow+j,none⟩=some (.int .i64 (ws.getD j 0))) (hi:i < n) (hj:j < n) (ht0:0≤t) (ht1:t≤999999999) (hws:∀j,0≤ws.getD j 0∧ws.getD j 0≤999999999) (hs:0 < s):
  Calls Tryz.prog 76 #[.int .i64 (i:Int), .int .i64 (j:Int), .pointer (some ⟨p2,0,none⟩), .pointer (some ⟨p3,0,none⟩), .pointer (some ⟨p4,0,none⟩)] W fun e w'=>e= .returned (.int .i64 (Lib.compareInt (t*ws.getD j 0 % s) (t*ws.getD i 0 % s)))∧∃q,w'=W.drewN q:=by
 have c1:=hw i hi;have c2:=hw j hj;obtain ⟨x,hx⟩:∃x,ws.getD i 0=x:=⟨_,rfl⟩;obtain ⟨y,hy⟩:∃x,ws.getD j 0=x:=⟨_,rfl⟩;have hx0:=hws i;have hy0:=hws j;rw [hx] at c1 hx0 ⊢;rw [hy] at c2 hy0 ⊢;have b1:0≤t*x:=Int.mul_nonneg ht0 hx0.1;have b2:0≤t*y:=Int.mul_nonneg ht0 hy0.1;have b3:t*x≤999999999*999999999:=Int.mul_le_mul ht1 hx0.2 hx0.1 (by omega);have b4:t*y≤999999999*999999999:=Int.mul_le_mul ht1 hy0.2 hy0.1 (by omega);have w1:wrap64 (t*x)=t*x:=by unfold wrap64;omega
 have w2:wrap64 (t*y)=t*y:=by unfold wrap64;omega
 have r1:(t*x).tmod s=t*x % s:=Int.tmod_eq_emod_of_nonneg b1;have r2:(t*y).tmod s=t*y % s:=Int.tmod_eq_emod_of_nonneg b2;have s0:(s==0)=false:=by rw [beq_eq_false_iff_ne];omega
 have s1:s≠0:=by omega
 clear b1 b2 b3 b4 hx hy hx0 hy0 hws hw ht0 ht1;go_enter Tryz.func76,Tryz.ntmps76;go_wp2
 go_quiet ((go_at_call 77;with_reducible exact jfT _ _ _ _))
 go_wp2;go_ret;exact ⟨rfl,_,rfl⟩
end
def jgU {n:Nat} (i:Fin n):Value:= .int .i64 ((i.val:Nat):Int)
theorem joY {n:Nat}:OneCell (jgU (n:=n)):=fun _=>rfl
theorem jbj {α:Type} [Inhabited α] (enc:α→Value) (W:World) (blk off n:Nat) (dk:Array α) (os:Array Obj) (a:Addr) (h1:a.block≠blk) (h2:a.block < W.heap.size):(sortWorld enc W blk off n dk os).cell? a=W.cell? a:=by
 unfold sortWorld;rw [Sort.cell?_grow _ _ _ (by rw [Sort.size_putRow];exact h2),Sort.cell?_putRow_other enc _ blk off dk a (Or.inl h1)];rfl
def cfR (t s:Int) (ws:List Int) {n:Nat} (i j:Fin n):Int:=Lib.compareInt (t*ws.getD j.val 0 % s) (t*ws.getD i.val 0 % s)
structure AppW (W:World) (blk p2 p3 p4 bw ow n c:Nat) (ws:List Int) (t s:Int):Prop where
 c2:W.cell? ⟨p2,0,none⟩=some (.int .i64 t)
 c3:W.cell? ⟨p3,0,none⟩=some (.slice (some ⟨bw,ow,none⟩) n c)
 c4:W.cell? ⟨p4,0,none⟩=some (.int .i64 s)
 cw:∀j,j < n→W.cell? ⟨bw,ow+j,none⟩=some (.int .i64 (ws.getD j 0))
 n2:p2≠blk
 n3:p3≠blk
 n4:p4≠blk
 nw:bw≠blk
 s2:p2 < W.heap.size
 s3:p3 < W.heap.size
 s4:p4 < W.heap.size
 sw:bw < W.heap.size
 t0:0≤t
 t1:t≤999999999
 ws0:∀j,0≤ws.getD j 0∧ws.getD j 0≤999999999
 s0:0 < s
section
variable {W:World} {blk p2 p3 p4 bw ow m c cap:Nat} {ws:List Int} {t s:Int}
abbrev cbA (p2 p3 p4:Nat):Array Value:= #[.pointer (some ⟨p2,0,none⟩), .pointer (some ⟨p3,0,none⟩), .pointer (some ⟨p4,0,none⟩)]
theorem jny (h:AppW W blk p2 p3 p4 bw ow (m+1) c ws t s):CmpReads Tryz.prog 76 (cbA p2 p3 p4) (jgU (n:=m+1)) (cfR t s ws) blk 0 (m+1) W:=fun k os dk _ x y=>
 jnL (i:=x.val) (j:=y.val) (W:=sortWorld jgU W blk 0 k dk os) (by rw [jbj _ _ _ _ _ _ _ _ h.n2 h.s2];exact h.c2) (by rw [jbj _ _ _ _ _ _ _ _ h.n3 h.s3];exact h.c3) (by rw [jbj _ _ _ _ _ _ _ _ h.n4 h.s4];exact h.c4)
  (fun j hj=>by rw [jbj _ _ _ _ _ _ _ _ h.nw h.sw];exact h.cw j hj) x.isLt y.isLt h.t0 h.t1 h.ws0 h.s0
theorem jiM {n:Nat} (hn:n=m+1) (h:AppW W blk p2 p3 p4 bw ow (m+1) c ws t s) (d:Array (Fin (m+1))) (hd:d.size=m+1) (hH:Sort.Holds jgU W blk 0 d) (hm:m < 1000000):
  Calls Tryz.prog 165 #[.slice (some ⟨blk,0,none⟩) n cap, .int .i64 0, .int .i64 (n:Int), .func (.func 76) #[] (cbA p2 p3 p4)] W fun e w'=>e= .returned (.tuple #[])∧∃n,w'=(Sort.putRow jgU W blk 0 (Sort.insertionSort (ltOf (cfR t s ws)) d 0 d.size)).drewN n:=by
 subst hn;have:=Tryz.insertionSortCmpFunc_one jgU joY (cfR t s ws) 76 (cbA p2 p3 p4) blk 0 cap 0 d.size d W (enters_of Tryz.func76 (by kernel_rfl) rfl) (by rw [hd];exact jny h) hH (Nat.zero_le _) (Nat.le_refl _) (by omega);rw [hd] at this ⊢;exact this
abbrev jcN (W:World) (blk:Nat) (t s:Int) (ws:List Int) (d:Array (Fin (m+1))) (e:Ending) (w':World):Prop:=e= .returned (.tuple #[])∧∃n,w'=(Sort.putRow jgU W blk 0 (Sort.insertionSort (ltOf (cfR t s ws)) d 0 d.size)).drewN n
theorem jiC {n:Nat} (hn:n=m+1) (h:AppW W blk p2 p3 p4 bw ow (m+1) c ws t s) (d:Array (Fin (m+1))) (hd:d.size=m+1) (hH:Sort.Holds jgU W blk 0 d) (hm:m < 19):
  Calls Tryz.prog 120 #[.slice (some ⟨blk,0,none⟩) n cap, .int .i64 (n:Int), .func (.func 76) #[] (cbA p2 p3 p4)] W (jcN W blk t s ws d):=by
 have HI:=qh (jiM (cap:=cap) hn h d hd hH (by omega));show Calls _ _ _ _ fun e w'=>_
 unfold jcN;obtain ⟨V,hV⟩:∃V,Sort.putRow jgU W blk 0 (Sort.insertionSort (ltOf (cfR t s ws)) d 0 d.size)=V:=⟨_,rfl⟩;rw [hV] at HI ⊢;have q1:decide ((20:Int)≤(n:Int))=false:=by simp;omega
 have q2:decide ((20:Int) < (n:Int))=false:=by simp;omega
 clear h hd hH hm hV hn;go_enter Tryz.func120,Tryz.ntmps120;go_wp2
 go_loopw [7,8] (fun a b wr=>a= .int .i64 0∧b= .int .i64 20∧wr=W) (fun _ _ _=>0)
 case atStart=>exact ⟨rfl,rfl,rfl⟩
 case round=>
  obtain ⟨rfl,rfl,rfl⟩:=hrel;go_wp2_with (go_at_call 165;(with_reducible refine HI.out.mono ?_);rintro e1 w1 ⟨rfl,k,rfl⟩)
  go_loopw [6] (fun a wr=>a= .int .i64 20∧wr=V.drewN k) (fun _ _=>0)
  case atStart=>exact ⟨rfl,rfl⟩
  case round=>
   obtain ⟨rfl,rfl⟩:=hrel;go_wp2
   go_end0
   exact ⟨rfl,_,rfl⟩
theorem jkb {n:Nat} (hn:n=m+1) (h:AppW W blk p2 p3 p4 bw ow (m+1) c ws t s) (d:Array (Fin (m+1))) (hd:d.size=m+1) (hH:Sort.Holds jgU W blk 0 d) (hm:m < 19):
  Calls Tryz.prog 75 #[.slice (some ⟨blk,0,none⟩) n cap, .func (.func 76) #[] (cbA p2 p3 p4)] W (jcN W blk t s ws d):=by
 have HI:=qh (jiC (cap:=cap) hn h d hd hH (by omega));clear h hd hH hm hn;go_enter Tryz.func75,Tryz.ntmps75;go_wp2_with (go_at_call 120;(with_reducible refine HI.out.mono ?_);rintro e1 w1 ⟨rfl,k,rfl⟩)
 go_end0
 exact ⟨rfl,_,rfl⟩
end
end Go.Proofs.YteokfcjdfjhhhaaGreatDoor
namespace Go.Proofs.YteokfcjdfjhhhaaGreatDoor
open Go Go.ChangeShapes Go.WideShapes Go.ChangeAt Go.RowKit

theorem own:ownKnob Tryz.prog.godebug=none:=by kernel_rfl
theorem jqo:laidOutB Tryz.prog=true:=by kernel_rfl
theorem jsI : Tryz.prog.globalNamed "internal/strconv.uint64pow10" = some 7 := by kernel_rfl
theorem joL:(Tryz.prog.globals[7]?).map (·.type)=some 272:=by kernel_rfl
theorem joJ:Tryz.prog.cellsOf 272=20:=by kernel_rfl
theorem jnc:Tryz.prog.cellsOf 165=1:=by kernel_rfl
theorem laidMetH.plain {l:List (String×DataW Unit)} {W:World} (h:laidMetH Tryz.prog l W) (hp:(l.all fun x=>x.2.handleName?.isNone)=true):laidMet Tryz.prog l W:=by
 rw [MakeChecks.laidMetH_plain _ _ _ hp] at h;exact h
theorem jrJ {W : World} {l : List (String × DataW Unit)} (h : laidMet Tryz.prog (("internal/strconv.uint64pow10", Rows.laid_internal_strconv_uint64pow10) :: l) W) (hs : W.ShapedOpen Tryz.prog) : Env W := by
 obtain ⟨m,hm⟩:=Go.Proofs.cell_of_shapedOpen_int (g:=0) (zero:= #[.int .i64 0]) (t:=3) hs (of_decide_eq_true (by kernel_rfl)) (by kernel_rfl) rfl (by kernel_rfl) (by kernel_rfl) Tryz.underlying3;exact ⟨Lib.tabBelow_of_tabIs (Lib.tabIs_of_head (zs:=Lib.pow10Tab) jsI joL Tryz.underlying272 Tryz.underlying165 jnc joJ h),⟨m,hm⟩,World.block_lt_of_cell? W ⟨0,0,none⟩ hm⟩
end Go.Proofs.YteokfcjdfjhhhaaGreatDoor
