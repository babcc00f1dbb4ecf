/- Parts. -/
import Derived.Test.YtfagcpcikjlboaaGreatDoorFfG
set_option linter.all false
set_option maxRecDepth 100000
set_option maxHeartbeats 8000000
namespace Go.Proofs.YtfagcpcikjlboaaGreatDoor
open Go Go.RowKit Go.Proofs.Tryz

def sl:List UInt8→Nat
 | []=>0
 | c::r=>if c=47 then 0 else sl r+1
theorem jgv:∀l:List UInt8,sl l≤l.length
 | []=>Nat.le_refl _
 | c::r=>by unfold sl;have:=jgv r;split <;> simp <;> omega
theorem jaW {l:List UInt8} {i:Nat} {c:UInt8} (hi:i < l.length) (hc:l.getD i 0=c):∀h,(⟨l.toArray⟩:ByteArray)[i]'h=c:=fun h=>by
 rw [←hc,List.getD_eq_getElem?_getD,List.getElem?_eq_getElem hi];simp [ByteArray.getElem_eq_getElem_data]
theorem jef {l:List UInt8} {i:Nat} (h:i < l.length):l.drop i=l.getD i 0::l.drop (i+1):=by
 rw [List.drop_eq_getElem_cons h,List.getD_eq_getElem?_getD,List.getElem?_eq_getElem h];rfl
theorem jc3 {i:Nat} (h:i < 4294967296):wrap64 ((i:Int)+1)=((i+1:Nat):Int):=by unfold wrap64;omega
section
variable {w:World} {l:List UInt8}
theorem jaA (hl:l.length < 4294967281):Calls prog 46 #[bs l] w fun e w'=>e= .returned (.int .i64 ((sl l:Nat):Int))∧Below w.heap.size w w':=by
 obtain ⟨R,hR⟩:∃R,sl l=R:=⟨_,rfl⟩;rw [hR];have HR:=qh hR;have HL:=qh hl;clear hR hl;go_enter func46,ntmps46;go_wp2
 go_loopw [3] (fun u wr=>∃i:Nat,u= .int .i64 (i:Int)∧w=wr∧i≤l.length∧i+sl (l.drop i)=R) (fun u _=>l.length - (intOf u).toNat)
 case atStart=>exact ⟨0,rfl,rfl,Nat.zero_le _,by rw [List.drop_zero,Nat.zero_add];exact HR.o⟩
 case round=>
  obtain ⟨i,rfl,rfl,hin,hc⟩:=hrel;by_cases hi:i < l.length
  ·have q0:decide (i < l.length)=true:=by simpa using hi
   obtain ⟨c,hcc⟩:∃c,l.getD i 0=c:=⟨_,rfl⟩;have q1:=jaW hi hcc;rw [jef hi,hcc,sl] at hc;have HII:=qh hi;clear hcc hin;by_cases h47:c=47
   ·rw [if_pos h47] at hc;have q2:(((c.toNat:Nat):Int)==47)=true:=by rw [h47];rfl
    obtain rfl:i=R:=hc;clear h47 HR;go_wp2;go_ret;exact ⟨rfl,bi⟩
   ·rw [if_neg h47] at hc
    have q2:(((c.toNat:Nat):Int)==47)=false:=by
     rw [beq_eq_false_iff_ne];intro h;exact h47 (UInt8.toNat_inj.1 (by rw [show (47:UInt8).toNat=47 from rfl];omega))
    have HC:Hd (i+1+sl (l.drop (i+1))=R):=qh (by omega);clear h47 hc;go_wp2;exact ⟨⟨i+1,by rw [jc3 (by have:=HL.o;have:=HII.o;omega)],by first|rfl|trivial,HII.o,HC.o⟩,by rw [jc3 (by have:=HL.o;have:=HII.o;omega)];have:=HII.o;simp [intOf];omega⟩
  ·obtain rfl:i=l.length:=by omega
   have q0:decide (l.length < l.length)=false:=by simp
   rw [List.drop_length,sl] at hc;obtain rfl:l.length=R:=hc;clear HR hi;go_wp2;go_ret;exact ⟨rfl,bi⟩
end

theorem jtX (c:UInt8):0≤((c.toNat:Nat):Int)∧((c.toNat:Nat):Int)≤255:=by have:=c.toNat_lt;omega
theorem jev {c:UInt8} (h:Dig.isDig c=true):48≤c.toNat∧c.toNat≤57:=by simpa [Dig.isDig] using h
theorem jhQ (a:Nat) (c:UInt8) (r:List UInt8):Dig.valFrom a (c::r)=Dig.valFrom (a*10+(c.toNat - 48)) r:=by unfold Dig.valFrom;rw [List.foldl_cons]
theorem joz {i:Nat} (h:i≤18):10^i≤1000000000000000000:=by
 have:(10:Nat)^i≤10^18:=Nat.pow_le_pow_right (by omega) h;omega
section
variable {w:World} {l:List UInt8}
theorem jaQ (hd:jcG l) (hl:l.length≤18):Calls prog 81 #[bs l] w fun e w'=>e= .returned (.int .i64 ((Dig.val l:Nat):Int))∧Below w.heap.size w w':=by
 obtain ⟨R,hR⟩:∃R,Dig.val l=R:=⟨_,rfl⟩;rw [hR];have HR:=qh hR;have HL:=qh hl;have HD:=qh hd;clear hR hl hd;go_enter func81,ntmps81;go_wp2
 go_loopw [3,4] (fun v u wr=>∃a i:Nat,v= .int .i64 (a:Int)∧u= .int .i64 (i:Int)∧w=wr∧i≤l.length∧a < 10^i∧Dig.valFrom a (l.drop i)=R) (fun _ u _=>l.length - (intOf u).toNat)
 case atStart=>exact ⟨0,0,rfl,rfl,rfl,Nat.zero_le _,by decide,by rw [List.drop_zero];exact HR.o⟩
 case round=>
  obtain ⟨a,i,rfl,rfl,rfl,hin,ha,hc⟩:=hrel;by_cases hi:i < l.length
  ·have q0:decide (i < l.length)=true:=by simpa using hi
   obtain ⟨c,hcc⟩:∃c,l.getD i 0=c:=⟨_,rfl⟩;have q1:=jaW hi hcc;rw [jef hi,hcc,jhQ] at hc;have hcd:=jev (HD.o c (by rw [←hcc,List.getD_eq_getElem?_getD,List.getElem?_eq_getElem hi];exact List.getElem_mem hi));have hp:=joz (show i+1≤18 by have:=HL.o;omega);have hp1:10^(i+1)=10^i*10:=Nat.pow_succ ..;have m1:wrap64 (10*(a:Int))=10*(a:Int):=by unfold wrap64;omega
   have m0:wrap64 ((c.toNat:Nat):Int)=((c.toNat:Nat):Int):=by have:=jtX c;unfold wrap64;omega
   have m2:wrap64 (10*(a:Int)+((c.toNat:Nat):Int))=10*(a:Int)+((c.toNat:Nat):Int):=by unfold wrap64;omega
   have m3:wrap64 (10*(a:Int)+((c.toNat:Nat):Int) - 48)=((a*10+(c.toNat - 48):Nat):Int):=by unfold wrap64;omega
   have HA:Hd (a*10+(c.toNat - 48) < 10^(i+1)):=qh (by omega);have HII:=qh hi;have HC:=qh hc;clear hcc hin hc hcd hp hp1 ha;go_wp2;exact ⟨⟨a*10+(c.toNat - 48),i+1,by rw [m3],by rw [jc3 (by have:=HL.o;have:=HII.o;omega)],by first|rfl|trivial,HII.o,HA.o,HC.o⟩,by rw [jc3 (by have:=HL.o;have:=HII.o;omega)];have:=HII.o;simp [intOf];omega⟩
  ·obtain rfl:i=l.length:=by omega
   have q0:decide (l.length < l.length)=false:=by simp
   rw [List.drop_length] at hc;obtain rfl:a=R:=hc;clear HR hi ha;go_wp2;go_ret;exact ⟨rfl,bi⟩
theorem jkP {b:Bool} (hb:l.all Dig.isDig=b) (hl:l.length < 4294967281):Calls prog 91 #[bs l] w fun e w'=>e= .returned (.bool b)∧Below w.heap.size w w':=by
 have HR:=qh hb;have HL:=qh hl;clear hb hl;go_enter func91,ntmps91;go_wp2
 go_loopw [3] (fun u wr=>∃i:Nat,u= .int .i64 (i:Int)∧w=wr∧i≤l.length∧(l.drop i).all Dig.isDig=b) (fun u _=>l.length - (intOf u).toNat)
 case atStart=>exact ⟨0,rfl,rfl,Nat.zero_le _,HR.o⟩
 case round=>
  obtain ⟨i,rfl,rfl,hin,hc⟩:=hrel;by_cases hi:i < l.length
  ·have q0:decide (i < l.length)=true:=by simpa using hi
   obtain ⟨c,hcc⟩:∃c,l.getD i 0=c:=⟨_,rfl⟩;have q1:=jaW hi hcc;rw [jef hi,hcc,List.all_cons] at hc;have HII:=qh hi;clear hcc hin;by_cases h1:c.toNat < 48
   ·have q2:decide (((c.toNat:Nat):Int) < 48)=true:=by rw [decide_eq_true_iff];omega
    have q2':decide (c.toNat < 48)=true:=by rw [decide_eq_true_iff];omega
    have e:Dig.isDig c=false:=by unfold Dig.isDig;rw [decide_eq_false_iff_not];omega
    rw [e] at hc;obtain rfl:false=b:=hc;clear h1 HR e;go_wp2;go_ret;exact ⟨rfl,bi⟩
   ·have q2:decide (((c.toNat:Nat):Int) < 48)=false:=by rw [decide_eq_false_iff_not];omega
    have q2':decide (c.toNat < 48)=false:=by rw [decide_eq_false_iff_not];omega
    by_cases h2:57 < c.toNat
    ·have q3:decide (57 < ((c.toNat:Nat):Int))=true:=by rw [decide_eq_true_iff];omega
     have q3':decide (57 < c.toNat)=true:=by rw [decide_eq_true_iff];omega
     have e:Dig.isDig c=false:=by unfold Dig.isDig;rw [decide_eq_false_iff_not];omega
     rw [e] at hc;obtain rfl:false=b:=hc;clear h1 h2 HR e;go_wp2;go_ret;exact ⟨rfl,bi⟩
    ·have q3:decide (57 < ((c.toNat:Nat):Int))=false:=by rw [decide_eq_false_iff_not];omega
     have q3':decide (57 < c.toNat)=false:=by rw [decide_eq_false_iff_not];omega
     have e:Dig.isDig c=true:=by unfold Dig.isDig;rw [decide_eq_true_iff];omega
     rw [e,Bool.true_and] at hc;have HC:=qh hc;clear h1 h2 e hc;go_wp2;exact ⟨⟨i+1,by rw [jc3 (by have:=HL.o;have:=HII.o;omega)],by first|rfl|trivial,HII.o,HC.o⟩,by rw [jc3 (by have:=HL.o;have:=HII.o;omega)];have:=HII.o;simp [intOf];omega⟩
  ·obtain rfl:i=l.length:=by omega
   have q0:decide (l.length < l.length)=false:=by simp
   rw [List.drop_length] at hc;obtain rfl:true=b:=hc;clear HR hi;go_wp2;go_ret;exact ⟨rfl,bi⟩
theorem jkQ {c:UInt8} {r:List UInt8}:Dig.plain (c::r)=((c::r).all Dig.isDig && (r.isEmpty || c != 48)):=by
 unfold Dig.plain;by_cases hc:c=48
 ·subst hc;cases r <;> simp
 ·have h1:(c != 48)=true:=by simp [hc]
  simp [hc,h1]
theorem jdj {b:Bool} (hb:Dig.plain l=b) (hl:l.length < 4294967281):Calls prog 47 #[bs l] w fun e w'=>e= .returned (.bool b)∧Below w.heap.size w w':=by
 cases l with
 | nil=>
   obtain rfl:false=b:=hb;go_enter func47,ntmps47;go_wp2;go_ret;exact ⟨rfl,bi⟩
 | cons c r=>
   rw [jkQ] at hb;have q1:=jaW (l:=c::r) (i:=0) (by simp) rfl;have q0:(((c::r).length:Int)==0)=false:=by rw [beq_eq_false_iff_ne];simp;omega
   obtain ⟨n,hn⟩:∃n,(c::r).length=n:=⟨_,rfl⟩;have HD:=qh (fun W=>jkP (w:=W) (l:=c::r) (b:=(c::r).all Dig.isDig) rfl hl);obtain ⟨g,hg⟩:∃g,(c::r).all Dig.isDig=g:=⟨_,rfl⟩;rw [hg] at hb HD;cases r with
   | nil=>
     simp at hb;subst hb;clear hg hn hl;go_enter func47,ntmps47;go_wp2_with (go_at_call 91;(with_reducible refine mo0 (HD.o _) fun w1 hb1 hc1 hf1 _=> ?_))
     go_ret;exact ⟨rfl,bi⟩
   | cons d r=>
     have q2:decide ((1:Int) < ((c::d::r).length:Int))=true:=by rw [decide_eq_true_iff];simp;omega
     by_cases hc:c=48
     ·subst hc;simp at hb;subst hb;clear hg hn hl HD;go_enter func47,ntmps47;go_wp2;go_ret;exact ⟨rfl,bi⟩
     ·have q3:(((c.toNat:Nat):Int)==48)=false:=by
       rw [beq_eq_false_iff_ne];intro h;exact hc (UInt8.toNat_inj.1 (by rw [show (48:UInt8).toNat=48 from rfl];omega))
      have h48:(c != 48)=true:=by simp [hc]
      simp only [h48,List.isEmpty_cons,Bool.or_true,Bool.and_true] at hb;subst hb;clear hg hn hl hc;go_enter func47,ntmps47;go_wp2_with (go_at_call 91;(with_reducible refine mo0 (HD.o _) fun w1 hb1 hc1 hf1 _=> ?_))
      go_ret;exact ⟨rfl,bi⟩
end

theorem jaV {T:TypeId} (hT:prog.underlying T=some .string) {l:List UInt8} {k:Nat} (hk:k≤l.length) (w:World):(Instr.slice T (bs l) (some (.int .i64 (k:Int))) none none).run prog w= .ok (bs (l.drop k)) w:=by
 rw [run_slice_string_from_if w T _ _ _ hT,if_pos ⟨by omega,by simp [ByteArray.size];omega⟩];rw [show ((k:Int)).toNat=k from rfl,show (⟨l.toArray⟩:ByteArray).size=l.length by simp [ByteArray.size],jat]
theorem jcJ {T:TypeId} (hT:prog.underlying T=some .string) {l:List UInt8} {k:Nat} (hk:k≤l.length) (w:World):(Instr.slice T (bs l) none (some (.int .i64 (k:Int))) none).run prog w= .ok (bs (l.take k)) w:=by
 rw [run_slice_string_to_if w T _ _ _ hT,if_pos ⟨by omega,by simp [ByteArray.size];omega⟩];rw [show ((k:Int)).toNat=k from rfl,jdT]
section
variable {w:World} {l:List UInt8}
theorem jqg {a b:Nat}:Calls prog 82 #[.int .i64 (a:Int), .int .i64 (b:Int)] w fun e w'=>e= .returned (.int .i64 ((Nat.gcd a b:Nat):Int))∧Below w.heap.size w w':=by
 obtain ⟨g,hg⟩:∃g,Nat.gcd a b=g:=⟨_,rfl⟩;rw [hg];have HG:=qh hg;clear hg;go_enter func82,ntmps82;go_wp2
 go_loopw [0,1] (fun u v wr=>∃x y:Nat,u= .int .i64 (x:Int)∧v= .int .i64 (y:Int)∧Nat.gcd x y=g∧Below w.heap.size w wr) (fun _ v _=>(intOf v).toNat)
 case atStart=>exact ⟨a,b,rfl,rfl,HG.o,bi⟩
 case round=>
  obtain ⟨x,y,rfl,rfl,hc,hb⟩:=hrel;have _:=bm hb;by_cases hy:y=0
  ·subst hy;have q0:decide ((0:Int) < ((0:Nat):Int))=false:=by decide
   rw [Nat.gcd_zero_right] at hc;subst hc;clear HG;go_wp2;go_ret;exact ⟨rfl,bi⟩
  ·have q0:decide (0 < y)=true:=by rw [decide_eq_true_iff];omega
   have q1:((y:Int)==0)=false:=by rw [beq_eq_false_iff_ne];omega
   have q1':(y==0)=false:=by rw [beq_eq_false_iff_ne];omega
   have q1n:(y:Int)≠0:=by omega
   have q2:(x:Int).tmod (y:Int)=((x % y:Nat):Int):=by rw [Int.ofNat_tmod]
   have HC:Hd (Nat.gcd y (x % y)=g):=qh (by rw [←hc,Nat.gcd_comm x y,Nat.gcd_rec y x,Nat.gcd_comm]);have HY:=qh hy;clear hc;go_upto_region 2 with (fail)
   go_quiet (fail)
   go_wp2
   go_roundw
   case rel=>exact ⟨y,x % y,rfl,by simp,HC.o,bi⟩
   case measure=>have:=Nat.mod_lt x (show 0 < y by have:=HY.o;omega);simp [intOf];omega
def dD (n k:Nat):List UInt8:=if n=0∧k=0 then [] else dD (n / 10) (k - 1)++[UInt8.ofNat (48+n % 10)]
termination_by n+k
decreasing_by omega
theorem jcY:dD 0 0=[]:=by rw [dD,if_pos ⟨rfl,rfl⟩]
theorem jbz {n k:Nat} (h:¬(n=0∧k=0)):dD n k=dD (n / 10) (k - 1)++[UInt8.ofNat (48+n % 10)]:=by rw [dD,if_neg h]
theorem jn4:∀(n:Nat) (k:Nat),0 < n→k≤1→dD n k=Lib.decDigits n:=fun n=>by
 induction n using Nat.strongRecOn with
 | ind n ih=>
   intro k h0 hk;rw [jbz (by omega),Lib.decDigits];by_cases h:n < 10
   ·rw [dif_pos h,show n / 10=0 by omega,show k - 1=0 by omega,jcY,List.nil_append,show n % 10=n by omega,Nat.add_comm]
   ·rw [dif_neg h,ih (n / 10) (by omega) (k - 1) (by omega) (by omega),Nat.add_comm]
theorem jew (n:Nat):dD n 1=Lib.decDigits n:=by
 rcases Nat.eq_zero_or_pos n with rfl|h
 ·rw [jbz (by omega)];rw [show 0 / 10=0 from rfl,show 1 - 1=0 from rfl,jcY];decide+kernel
 ·exact jn4 n 1 h (by omega)
theorem jrI (d:Nat) (h:d < 10) (w:World):(Instr.slice 9 (.string ⟨#[48,49,50,51,52,53,54,55,56,57]⟩) (some (.int .i64 (d:Int))) (some (.int .i64 ((d:Int)+1))) none).run prog w= .ok (bs [UInt8.ofNat (48+d)]) w:=by
 rw [run_slice_string w 9 _ _ _ _ _ underlying9 (by omega) (by omega) (by show (d:Int)+1≤10;omega)];have h2:∀d,d < 10→(⟨#[48,49,50,51,52,53,54,55,56,57]⟩:ByteArray).extract d (d+1)=⟨[UInt8.ofNat (48+d)].toArray⟩:=by decide+kernel
 rw [show ((d:Int)).toNat=d from rfl,show ((d:Int)+1).toNat=d+1 by omega,h2 d h]
theorem jb3 {x n:Nat} (h:x < 10^(n+1)):x / 10 < 10^n:=by
 rw [Nat.pow_succ] at h;exact Nat.div_lt_of_lt_mul (by rw [Nat.mul_comm];exact h)
theorem jeV {n k:Nat} (hk:k≤9) (hn:n < 9223372036854775808):Calls prog 72 #[.int .i64 (n:Int), .int .i64 (k:Int)] w fun e w'=>e= .returned (bs (dD n k))∧Below w.heap.size w w':=by
 obtain ⟨R,hR⟩:∃R,dD n k=R:=⟨_,rfl⟩;rw [hR];have HR:=qh hR;have HK:=qh hk;have HN:=qh hn;clear hR hk hn;go_enter func72,ntmps72;go_wp2
 go_loopw [0,5] (fun u v wr=>∃(x:Nat) (s:List UInt8) (j:Nat),u= .int .i64 (x:Int)∧v=bs s∧w=wr∧s.length+j=20∧x < 10^j∧x < 9223372036854775808∧dD x (k - s.length)++s=R) (fun u v _=>(intOf u).toNat+(k - (match v with | .string b=>b.size | _=>0)))
 case atStart=>exact ⟨n,[],20,rfl,rfl,rfl,rfl,by have:=HN.o;omega,HN.o,by rw [List.append_nil];exact HR.o⟩
 case round=>
  obtain ⟨x,s,j,rfl,rfl,rfl,hj,hx,hx63,hc⟩:=hrel;by_cases h:x=0∧k - s.length=0
  ·obtain ⟨rfl,hk0⟩:=h;have q0:decide ((0:Int) < ((0:Nat):Int))=false:=by decide
   have q1:decide ((s.length:Int) < (k:Int))=false:=by rw [decide_eq_false_iff_not];omega
   have q1':decide (s.length < k)=false:=by rw [decide_eq_false_iff_not];omega
   rw [hk0,jcY,List.nil_append] at hc;subst hc;clear HR hk0 hj hx;go_wp2;go_ret;exact ⟨rfl,bi⟩
  ·rw [jbz h] at hc
   obtain ⟨i,rfl⟩:∃i,j=i+1:=by
    rcases j with _|i
    ·exfalso;have:=HK.o;simp at hx;omega
    ·exact ⟨i,rfl⟩
   have hx2:=jb3 hx;have hm:(x:Int) % 10=((x % 10:Nat):Int):=by omega
   have q5:=fun w=>jrI (x % 10) (Nat.mod_lt _ (by omega)) w
   obtain ⟨d,hd⟩:∃d,x % 10=d:=⟨_,rfl⟩;rw [hd] at hm q5 hc;have hd9:d≤9:=by omega
   have m1:wrap64 ((d:Int)+1)=(d:Int)+1:=by unfold wrap64;omega
   have m2:(x:Int) / 10=((x / 10:Nat):Int):=by omega
   have hy63:x / 10 < 9223372036854775808:=by omega
   obtain ⟨y,hy⟩:∃y,x / 10=y:=⟨_,rfl⟩;rw [hy] at m2 hx2 hc hy63;have m3:wrap64 (y:Int)=y:=by unfold wrap64;omega
   obtain ⟨z,hz⟩:∃z,UInt8.ofNat (48+d)=z:=⟨_,rfl⟩;rw [hz] at q5 hc;have c1:(⟨#[z]⟩:ByteArray)++⟨s.toArray⟩=⟨(z::s).toArray⟩:=jaj [z] s;have c2:s.length≤9223372036854775806:=by omega
   have c3:¬(9223372036854775807 < 1+s.length):=by omega
   have HC:Hd (dD y (k - (z::s).length)++(z::s)=R):=qh (by
    rw [←hc,List.length_cons,show k - (s.length+1)=k - s.length - 1 by omega];simp)
   have HH:=qh (ai (ai hx2 hy63) (show (z::s).length+i=20 by simp;omega));have HX:=qh (ai h (show y=x / 10 from hy.symm));clear hc hd h hx hx2 hj hz hy hx63 hy63;by_cases hx:0 < x
   ·have q0:decide (0 < x)=true:=by rw [decide_eq_true_iff];exact hx
    go_wp2;exact ⟨⟨y,z::s,i,by rw [m3],rfl,by first|rfl|trivial,HH.o.2,HH.o.1.1,HH.o.1.2,HC.o⟩,by have h1:=HX.o.2;have h2:=HH.o.1.2;rw [m3];simp [intOf,ByteArray.size];omega⟩
   ·obtain rfl:x=0:=by omega
    have q0:decide ((0:Int) < ((0:Nat):Int))=false:=by decide
    have q1:decide ((s.length:Int) < (k:Int))=true:=by rw [decide_eq_true_iff];have:=HX.o;omega
    have q1':decide (s.length < k)=true:=by rw [decide_eq_true_iff];have:=HX.o;omega
    obtain rfl:d=0:=by omega
    have hy0:y=0:=by have:=HX.o.2;omega
    subst hy0;have q5':∀w,(Instr.slice 9 (.string ⟨#[48,49,50,51,52,53,54,55,56,57]⟩) (some (.int .i64 0)) (some (.int .i64 1)) none).run prog w= .ok (bs [z]) w:=fun w=>q5 w
    clear m2 m3 m1 hm q5;go_wp2;exact ⟨⟨0,z::s,i,rfl,rfl,by first|rfl|trivial,HH.o.2,HH.o.1.1,HH.o.1.2,HC.o⟩,by have:=HX.o;simp [intOf,ByteArray.size];omega⟩
end

def sgT (l:List UInt8):Int:=if l=[48] then 0 else if l.head? =some 45 then -1 else 1
def jt1 (l:List UInt8):List UInt8:=if l.head? =some 45 then l.drop 1 else if l=[48] then l else 45::l
section
variable {w:World} {l:List UInt8}
theorem jpe (hl:l.length < 4294967281):Calls prog 16 #[bs l] w fun e w'=>e= .returned (.int .i64 (sgT l))∧Below w.heap.size w w':=by
 by_cases h0:l=[48]
 ·subst h0;go_enter func16,ntmps16;go_wp2;go_ret;exact ⟨rfl,bi⟩
 ·have q0:(l==[48])=false:=by simpa using h0
  have e:sgT l=if l.head? =some 45 then -1 else 1:=by unfold sgT;rw [if_neg h0]
  rw [e];clear e h0;rcases Nat.eq_zero_or_pos l.length with hz|hz
  ·obtain rfl:l=[]:=List.length_eq_zero_iff.1 hz;go_enter func16,ntmps16;go_wp2;go_ret;exact ⟨rfl,bi⟩
  ·obtain ⟨c,hcc⟩:∃c,l.getD 0 0=c:=⟨_,rfl⟩;have q1:=jaW hz hcc
   have hh:l.head? =some c:=by
    cases l with
    | nil=>simp at hz
    | cons a r=>simpa using hcc
   rw [hh];have q2:decide ((0:Int) < (l.length:Int))=true:=by rw [decide_eq_true_iff];omega
   clear hcc hh;by_cases hc:c=45
   ·subst hc;rw [if_pos rfl];have q3:(((45:UInt8).toNat:Int)==45)=true:=rfl;go_enter func16,ntmps16;go_wp2;go_ret;exact ⟨rfl,bi⟩
   ·have q3:(((c.toNat:Nat):Int)==45)=false:=by
     rw [beq_eq_false_iff_ne];intro h;exact hc (UInt8.toNat_inj.1 (by rw [show (45:UInt8).toNat=45 from rfl];omega))
    rw [if_neg (by intro h;exact hc (Option.some.inj h))];clear hc;go_enter func16,ntmps16;go_wp2;go_ret;exact ⟨rfl,bi⟩
theorem jcx {k:Int} (hk:sgT l=k) (hl:l.length < 4294967281):Calls prog 16 #[bs l] w fun e w'=>e= .returned (.int .i64 k)∧Below w.heap.size w w':=hk ▸ jpe hl
theorem jnC {l:List UInt8} (h:l.head? =some 45):sgT l= -1:=by
 unfold sgT;rw [if_neg (by intro e;subst e;simp at h),if_pos h]
theorem jsh {m:List UInt8} (hm:jt1 l=m) (hl:l.length < 4294967281):Calls prog 90 #[bs l] w fun e w'=>e= .returned (bs m)∧Below w.heap.size w w':=by
 subst hm;have HL:=qh hl;by_cases h1:l.head? =some 45
 ·have HS:=qh (fun W=>jcx (w:=W) (jnC h1) hl);have e:jt1 l=l.drop 1:=by unfold jt1;rw [if_pos h1]
  rw [e];have q1:∀W,(Instr.slice 23 (bs l) (some (.int .i64 1)) none none).run prog W= .ok (bs (l.drop 1)) W:=fun W=>jaV (l:=l) (k:=1) underlying23 (by cases l with|nil=>simp at h1|cons c r=>simp) W
  clear h1 e hl;go_enter func90,ntmps90;go_wp2_with (go_at_call 16;(with_reducible refine mo0 (HS.o _) fun w1 hb1 hc1 hf1 _=> ?_))
  go_ret;exact ⟨by simp,bi⟩
 ·by_cases h0:l=[48]
  ·subst h0;have HS:=qh (fun W=>jcx (w:=W) (l:=[48]) (k:=0) rfl (by decide));go_enter func90,ntmps90;go_wp2_with (go_at_call 16;(with_reducible refine mo0 (HS.o _) fun w1 hb1 hc1 hf1 _=> ?_))
   go_ret;exact ⟨rfl,bi⟩
  ·have HS:=qh (fun W=>jcx (w:=W) (l:=l) (k:=1) (by unfold sgT;rw [if_neg h0,if_neg h1]) hl);have e:jt1 l=45::l:=by unfold jt1;rw [if_neg h1,if_neg h0]
   rw [e];have c1:(⟨#[45]⟩:ByteArray)++⟨l.toArray⟩=⟨(45::l).toArray⟩:=jaj [45] l;have c2:l.length≤9223372036854775806:=by omega
   have c3:¬(9223372036854775807 < 1+l.length):=by omega
   clear h0 h1 e hl;go_enter func90,ntmps90;go_wp2_with (go_at_call 16;(with_reducible refine mo0 (HS.o _) fun w1 hb1 hc1 hf1 _=> ?_))
   go_ret;exact ⟨rfl,bi⟩
end

theorem jk2:∀{l:List UInt8},(∀c∈l,c≠47)→sl l=l.length
 | [],_=>rfl
 | c::r,h=>by
   rw [sl,if_neg (h c (List.mem_cons_self ..)),jk2 (l:=r) (fun d hd=>h d (List.mem_cons_of_mem _ hd))];rfl
theorem jk8 {b:List UInt8}:∀{a:List UInt8},(∀c∈a,c≠47)→sl (a++47::b)=a.length
 | [],_=>by rw [List.nil_append,sl,if_pos rfl];rfl
 | c::r,h=>by
   rw [List.cons_append,sl,if_neg (h c (List.mem_cons_self ..)),jk8 (a:=r) (fun d hd=>h d (List.mem_cons_of_mem _ hd))];rfl
theorem jfj {l:List UInt8} (hd:jcG l) (hl:l.length≤9):Dig.val l < 1000000000:=by
 have h1:=Dig.val_lt l hd;have h2:10^l.length≤10^9:=Nat.pow_le_pow_right (by omega) hl;omega
section
variable {w:World} {m:List UInt8}
theorem jn0 {k n:Nat} {a b:List UInt8} {c:UInt8} (h0:0 < m.length) (hc:m.getD 0 0=c) (hcc:c≠45) (hs:sl m=k) (hk:k≤9) (hl:m.length≤k+10) (ha:m.take k=a) (hb:m.drop (k+1)=b) (hda:jcG a) (hdb:jcG b):
  Calls prog 37 #[bs m] w fun e w'=>e= .returned (.tuple #[.int .i64 ((Dig.val a:Nat):Int), .int .i64 (if k < m.length then ((Dig.val b:Nat):Int) else 1), .bool true])∧Below w.heap.size w w':=by
 have hle:k≤m.length:=by rw [←hs];exact jgv m
 have hla:a.length≤9:=by rw [←ha,List.length_take];omega
 have hlb:b.length≤18:=by rw [←hb,List.length_drop];omega
 have HS:=qh (fun W=>by have:=jaA (w:=W) (l:=m) (by omega);rwa [hs] at this);have HA:=qh (fun W=>jaQ (w:=W) hda (by omega));have HB:=qh (fun W=>jaQ (w:=W) hdb (by omega));have q0:decide ((20:Int) < (m.length:Int))=false:=by rw [decide_eq_false_iff_not];omega
 have q1:=jaW h0 hc;have q2:decide (0 < m.length)=true:=by rw [decide_eq_true_iff];omega
 have q3:(((c.toNat:Nat):Int)==45)=false:=by
  rw [beq_eq_false_iff_ne];intro h;exact hcc (UInt8.toNat_inj.1 (by rw [show (45:UInt8).toNat=45 from rfl];omega))
 have q4:decide ((9:Int) < (k:Int))=false:=by rw [decide_eq_false_iff_not];omega
 have m1:wrap64 ((m.length:Int) - (k:Int))=(m.length:Int) - (k:Int):=by unfold wrap64;omega
 have q5:decide ((10:Int) < (m.length:Int) - (k:Int))=false:=by rw [decide_eq_false_iff_not];omega
 have q6:=fun W=>jcJ (l:=m) (k:=k) underlying9 hle W
 rw [ha] at q6;have m2:=jc3 (i:=k) (by omega);by_cases h:k < m.length
 ·rw [if_pos h];have q7:decide (k < m.length)=true:=by simpa using h
  have q8:=fun W=>jaV (l:=m) (k:=k+1) underlying9 (by omega) W
  rw [hb] at q8;simp only [←m2] at q8;clear h hc hcc hs hk hl ha hb hda hdb hle hla hlb m2;go_enter func37,ntmps37;go_wp2_with (first|(go_at_call 46;(with_reducible refine mo0 (HS.o _) fun w1 hb1 hc1 hf1 _=> ?_))|(go_at_call 81;(with_reducible refine mo0 (HA.o _) fun w2 hb2 hc2 hf2 _=> ?_))|(go_at_call 81;(with_reducible refine mo0 (HB.o _) fun w3 hb3 hc3 hf3 _=> ?_)))
  go_ret3;exact ⟨by first|rfl|simp [m4],bi⟩
 ·rw [if_neg h];have q7:decide (k < m.length)=false:=by simpa using h
  clear h hc hcc hs hk hl ha hb hda hdb hle hla hlb m2;go_enter func37,ntmps37;go_wp2_with (first|(go_at_call 46;(with_reducible refine mo0 (HS.o _) fun w1 hb1 hc1 hf1 _=> ?_))|(go_at_call 81;(with_reducible refine mo0 (HA.o _) fun w2 hb2 hc2 hf2 _=> ?_))|(go_at_call 81;(with_reducible refine mo0 (HB.o _) fun w3 hb3 hc3 hf3 _=> ?_)))
  go_ret3;exact ⟨by first|rfl|simp [m4],bi⟩
theorem jnP {k n:Nat} {a b:List UInt8} (hs:sl m=k) (hk:k≤9) (hl:m.length≤k+10) (ha:m.take k=a) (hb:m.drop (k+1)=b) (hda:jcG a) (hdb:jcG b):
  Calls prog 37 #[bs (45::m)] w fun e w'=>e= .returned (.tuple #[.int .i64 (-((Dig.val a:Nat):Int)), .int .i64 (if k < m.length then ((Dig.val b:Nat):Int) else 1), .bool true])∧Below w.heap.size w w':=by
 have hle:k≤m.length:=by rw [←hs];exact jgv m
 have hla:a.length≤9:=by rw [←ha,List.length_take];omega
 have hlb:b.length≤18:=by rw [←hb,List.length_drop];omega
 have HS:=qh (fun W=>by have:=jaA (w:=W) (l:=m) (by omega);rwa [hs] at this);have HA:=qh (fun W=>jaQ (w:=W) hda (by omega));have HB:=qh (fun W=>jaQ (w:=W) hdb (by omega));obtain ⟨l,hl'⟩:∃l,45::m=l:=⟨_,rfl⟩;have hll:l.length=m.length+1:=by rw [←hl'];simp
 have q0:decide ((20:Int) < (l.length:Int))=false:=by rw [decide_eq_false_iff_not];omega
 have q1:=jaW (l:=l) (i:=0) (c:=45) (by omega) (by rw [←hl'];rfl);have q2:decide (0 < l.length)=true:=by rw [decide_eq_true_iff];omega
 have q3:(((45:UInt8).toNat:Int)==45)=true:=rfl;have q4:decide ((9:Int) < (k:Int))=false:=by rw [decide_eq_false_iff_not];omega
 have m1:wrap64 ((m.length:Int) - (k:Int))=(m.length:Int) - (k:Int):=by unfold wrap64;omega
 have q5:decide ((10:Int) < (m.length:Int) - (k:Int))=false:=by rw [decide_eq_false_iff_not];omega
 have q6:=fun W=>jcJ (l:=m) (k:=k) underlying9 hle W
 rw [ha] at q6;have m2:=jc3 (i:=k) (by omega);have q9:l.tail=m:=by rw [←hl'];rfl
 have q10:(⟨l.toArray⟩:ByteArray).extract 1 l.length=⟨m.toArray⟩:=by rw [jat,←hl'];rfl
 have q11:0 < l.length:=by omega
 have hv:=jfj hda hla;have m3:wrap64 (0 - ((Dig.val a:Nat):Int))= -((Dig.val a:Nat):Int):=by unfold wrap64;omega
 have m4:wrap64 (-((Dig.val a:Nat):Int))= -((Dig.val a:Nat):Int):=by unfold wrap64;omega
 rw [hl'];by_cases h:k < m.length
 ·rw [if_pos h];have q7:decide (k < m.length)=true:=by simpa using h
  have q8:=fun W=>jaV (l:=m) (k:=k+1) underlying9 (by omega) W
  rw [hb] at q8;simp only [←m2] at q8;clear h hs hk hl ha hb hda hdb hle hla hlb m2 hl' hll hv;go_enter func37,ntmps37;go_wp2_with (first|(go_at_call 46;(with_reducible refine mo0 (HS.o _) fun w1 hb1 hc1 hf1 _=> ?_))|(go_at_call 81;(with_reducible refine mo0 (HA.o _) fun w2 hb2 hc2 hf2 _=> ?_))|(go_at_call 81;(with_reducible refine mo0 (HB.o _) fun w3 hb3 hc3 hf3 _=> ?_)))
  go_ret3;exact ⟨by first|rfl|simp [m4],bi⟩
 ·rw [if_neg h];have q7:decide (k < m.length)=false:=by simpa using h
  clear h hs hk hl ha hb hda hdb hle hla hlb m2 hl' hll hv;go_enter func37,ntmps37;go_wp2_with (first|(go_at_call 46;(with_reducible refine mo0 (HS.o _) fun w1 hb1 hc1 hf1 _=> ?_))|(go_at_call 81;(with_reducible refine mo0 (HA.o _) fun w2 hb2 hc2 hf2 _=> ?_))|(go_at_call 81;(with_reducible refine mo0 (HB.o _) fun w3 hb3 hc3 hf3 _=> ?_)))
  go_ret3;exact ⟨by first|rfl|simp [m4],bi⟩
end
theorem jbv (n:Nat):jcG (Lib.decDigits n):=(Dig.digits_dig n).1
theorem jjT {n:Nat} {z:UInt8} (hz:Dig.isDig z=false):∀c∈Lib.decDigits n,c≠z:=fun c hc e=>by
 have:=jbv n c hc;rw [e,hz] at this;cases this
theorem jcy (n:Nat):∃c,(Lib.decDigits n).getD 0 0=c∧c≠45∧0 < (Lib.decDigits n).length:=by
 have h1:=(Dig.digits_dig n).2;have h2:=jbv n;cases h:Lib.decDigits n with
 | nil=>exact absurd h h1
 | cons c r=>
   rw [h] at h2;refine ⟨c,rfl,fun e=> ?_,by simp⟩;have:=h2 c (List.mem_cons_self ..);rw [e] at this;revert this;decide
def uq (x:Rat):List UInt8:=Lib.decDigits x.num.natAbs++(if x.den=1 then [] else 47::Lib.decDigits x.den)
theorem jcP (x:Rat):tq x=if x.num < 0 then 45::uq x else uq x:=by
 unfold tq uq Lib.itoa;by_cases h2:x.num < 0
 ·by_cases h:x.den=1 <;> simp [h,h2]
 ·have e:x.num.toNat=x.num.natAbs:=by omega
  by_cases h:x.den=1 <;> simp [h,h2,e]
theorem jkM (x:Rat):sl (uq x)=(Lib.decDigits x.num.natAbs).length:=by
 unfold uq;split
 ·rw [List.append_nil];exact jk2 (jjT (by decide))
 ·exact jk8 (jjT (by decide))
theorem jiy (x:Rat):(uq x).take (Lib.decDigits x.num.natAbs).length=Lib.decDigits x.num.natAbs:=by
 unfold uq;rw [List.take_left]
theorem job (x:Rat):(uq x).drop ((Lib.decDigits x.num.natAbs).length+1)=if x.den=1 then [] else Lib.decDigits x.den:=by
 unfold uq;split
 ·rw [List.append_nil];exact List.drop_eq_nil_of_le (by omega)
 ·rw [←List.drop_drop,List.drop_left];rfl
theorem jdX (x:Rat):(uq x).length=(Lib.decDigits x.num.natAbs).length+(if x.den=1 then 0 else (Lib.decDigits x.den).length+1):=by
 unfold uq;split <;> simp
theorem js1 {w:World} {l:List UInt8} {x:Rat} (hx:l=tq x) (hn:(Lib.decDigits x.num.natAbs).length≤9) (hd:(Lib.decDigits x.den).length≤9):
  Calls prog 37 #[bs l] w fun e w'=>e= .returned (.tuple #[.int .i64 x.num, .int .i64 ((x.den:Nat):Int), .bool true])∧Below w.heap.size w w':=by
 subst hx;have hs:=jkM x;have ht:=jiy x;have hr:=job x;have hle:=jdX x;obtain ⟨c,hc,hcc,h0⟩:=jcy x.num.natAbs;have hda:=jbv x.num.natAbs
 have hb:jcG ((uq x).drop ((Lib.decDigits x.num.natAbs).length+1)):=by
  rw [hr];split
  ·exact fun c hc=>by simp at hc
  ·exact jbv _
 have hl:(uq x).length≤(Lib.decDigits x.num.natAbs).length+10:=by rw [hle];split <;> omega
 have hden:(if (Lib.decDigits x.num.natAbs).length < (uq x).length then ((Dig.val ((uq x).drop ((Lib.decDigits x.num.natAbs).length+1)):Nat):Int) else 1)=((x.den:Nat):Int):=by
  rw [hr,hle];by_cases h:x.den=1
  ·simp [h]
  ·rw [if_neg h,if_neg h,if_pos (by omega),Dig.val_digits]
 rw [jcP];by_cases h:x.num < 0
 ·rw [if_pos h];have:=jnP (w:=w) (n:=0) hs hn hl ht rfl hda hb;rw [hden,Dig.val_digits,show -((x.num.natAbs:Nat):Int)=x.num by omega] at this;exact this
 ·rw [if_neg h]
  have hg:(uq x).getD 0 0=c:=by
   rw [←hc];unfold uq;rw [List.getD_eq_getElem?_getD,List.getElem?_append_left h0,List.getD_eq_getElem?_getD]
  have:=jn0 (w:=w) (n:=0) (by omega) hg hcc hs hn hl ht rfl hda hb;rw [hden,Dig.val_digits,show ((x.num.natAbs:Nat):Int)=x.num by omega] at this;exact this

theorem jeO {a:Int} {d g:Nat} (hd:0 < d) (hg:Nat.gcd a.natAbs d=g):0 < g∧a.tdiv (g:Int)=(Rat.divInt a d).num∧(d:Int).tdiv (g:Int)=(((Rat.divInt a d).den:Nat):Int):=by
 have hg0:0 < g:=by rw [←hg];exact Nat.gcd_pos_of_pos_right _ hd
 have h1:=Rq.num_pos (a:=a) (b:=(d:Int)) (by omega);have h2:=Rq.den_pos (a:=a) (b:=(d:Int)) (by omega);rw [Int.natAbs_natCast,hg] at h1 h2
 have d1:(g:Int) ∣ a:=by
  have:g ∣ a.natAbs:=by rw [←hg];exact Nat.gcd_dvd_left _ _
  exact Int.dvd_natAbs.1 (Int.natCast_dvd_natCast.2 this)
 have d2:(g:Int) ∣ (d:Int):=by
  have:g ∣ d:=by rw [←hg];exact Nat.gcd_dvd_right _ _
  exact Int.natCast_dvd_natCast.2 this
 refine ⟨hg0, ?_, ?_⟩
 ·rw [←h1,Int.fdiv_eq_ediv_of_nonneg _ (by omega),Int.tdiv_eq_ediv_of_dvd d1]
 ·rw [←h2,Int.fdiv_eq_ediv_of_nonneg _ (by omega),Int.tdiv_eq_ediv_of_dvd d2]
theorem jb0:∀{k n:Nat},n < 10^k→0 < k→(Lib.decDigits n).length≤k
 | 0,n,_,h=>by omega
 | k+1,n,h,_=>by
   rw [Lib.decDigits];by_cases h1:n < 10
   ·rw [dif_pos h1];simp
   ·rw [dif_neg h1];have h2:n / 10 < 10^k:=jb3 h
    have h3:0 < k:=by
     rcases Nat.eq_zero_or_pos k with rfl|h3
     ·simp at h;omega
     ·exact h3
    have:=jb0 h2 h3;simp;omega
theorem jvp {p:Int} (h:p < 0):((p.natAbs:Nat):Int)= -p:=by omega
theorem jvi {p:Int} (h:¬p < 0):((p.natAbs:Nat):Int)=p:=by omega
theorem jv5 {a:Nat} (h:a≤19):a≤9223372036854775806:=by omega
theorem jt3 {a:Nat} (h:a≤19):¬(9223372036854775807 < 1+a):=by omega
theorem jvA {a:Nat} (h:a≤19):a≤9223372036854775807:=by omega
theorem jvZ {a:Nat} (h:a≤19):a≤9223372036854775805:=by omega
theorem jvP {a b:Nat} (h:a≤19) (k:b≤19):¬(9223372036854775807 < a+1+b):=by omega
theorem jw8 {a b:Nat} (h:a≤19) (k:b≤19):¬(9223372036854775807 < a+1+1+b):=by omega
theorem jiU (a b:List UInt8):(⟨a.toArray⟩:ByteArray)++⟨b.toArray⟩=⟨(a++b).toArray⟩:=jaj a b
section
variable {w:World}
theorem jcO {n:Nat} (hn:n < 9223372036854775808):Calls prog 72 #[.int .i64 (n:Int), .int .i64 1] w fun e w'=>e= .returned (bs (Lib.decDigits n))∧Below w.heap.size w w':=by
 have:=jeV (w:=w) (n:=n) (k:=1) (by omega) hn;rwa [jew] at this
theorem jkd {a:Int} {d:Nat} (hd:0 < d) (hd2:d≤4000000000000000000) (ha:a.natAbs≤4000000000000000000):
  Calls prog 38 #[.int .i64 a, .int .i64 (d:Int)] w fun e w'=>e= .returned (bs (tq (Rat.divInt a d)))∧Below w.heap.size w w':=by
 obtain ⟨g,hg⟩:∃g,Nat.gcd a.natAbs d=g:=⟨_,rfl⟩;obtain ⟨hg0,e1,e2⟩:=jeO hd hg;have h1:=Rq.num_le a (d:Int);have h2:=Rq.den_le a (b:=(d:Int)) (by omega);rw [Int.natAbs_natCast] at h2;have h3:=(Rat.divInt a d).den_pos;have h4:=jcP (Rat.divInt a d);obtain ⟨x,hx⟩:∃x,Rat.divInt a d=x:=⟨_,rfl⟩;rw [hx] at e1 e2 h1 h2 h3 h4;rw [hx,h4];unfold uq;obtain ⟨p,hp⟩:∃p,x.num=p:=⟨_,rfl⟩;obtain ⟨q,hq⟩:∃q,x.den=q:=⟨_,rfl⟩;rw [hp] at e1 h1;rw [hq] at e2 h2 h3;rw [hp,hq];have HG:=qh (fun W=>by have:=jqg (w:=W) (a:=a.natAbs) (b:=d);rwa [hg] at this);have HP:=qh (fun W=>jcO (w:=W) (n:=p.natAbs) (by omega));have HQ:=qh (fun W=>jcO (w:=W) (n:=q) (by omega));have l1:(Lib.decDigits p.natAbs).length≤19:=jb0 (by omega) (by omega);have l2:(Lib.decDigits q).length≤19:=jb0 (by omega) (by omega);have q0:decide (a < -4000000000000000000)=false:=by rw [decide_eq_false_iff_not];omega
 have q1:decide (4000000000000000000 < a)=false:=by rw [decide_eq_false_iff_not];omega
 have q2:decide ((d:Int) < -4000000000000000000)=false:=by rw [decide_eq_false_iff_not];omega
 have q3:decide (4000000000000000000 < (d:Int))=false:=by rw [decide_eq_false_iff_not];omega
 have q4:decide ((d:Int) < 0)=false:=by rw [decide_eq_false_iff_not];omega
 have mx:max a (-a)=((a.natAbs:Nat):Int):=by omega
 have m1:wrap64 (0 - a)= -a:=by unfold wrap64;omega
 have m2:wrap64 (-a)= -a:=by unfold wrap64;omega
 have m4:wrap64 (-p)= -p:=by unfold wrap64;omega
 have m6:wrap64 p=p:=by unfold wrap64;omega
 have m7:wrap64 (q:Int)=q:=by unfold wrap64;omega
 have g0:((g:Int)==0)=false:=by rw [beq_eq_false_iff_ne];omega
 have g1:(g:Int)≠0:=by omega
 have g2:¬g=0:=by omega
 obtain ⟨D,hD⟩:∃D,Lib.decDigits p.natAbs=D:=⟨_,rfl⟩;obtain ⟨E,hE⟩:∃E,Lib.decDigits q=E:=⟨_,rfl⟩;rw [hD] at l1 HP ⊢;rw [hE] at l2 HQ ⊢;have HLL:=qh (ai l1 l2);have M3:Hd ((if a < -a then -a else a)=((a.natAbs:Nat):Int)):=qh (by split <;> omega);clear hd hd2 ha hg h4 hx hp hq hD hE l1 l2;by_cases hp0:p < 0
 ·have q5:decide (p < 0)=true:=by rw [decide_eq_true_iff];exact hp0
  rw [if_pos hp0];rw [jvp hp0] at HP;have mp:max p (-p)= -p:=by omega
  by_cases hq1:q=1
  ·rw [if_pos hq1];have q6:decide ((1:Int) < ((1:Nat):Int))=false:=by decide
   subst hq1;clear h3 h2 h1;have m3:=M3.o;go_enter func38,ntmps38;go_upto_region 6 with (go_at_call 82;(with_reducible refine mo0 (HG.o _) fun w1 hb1 hc1 hf1 _=> ?_))
   go_quiet (fail)
   clear m3;have t2:=jt3 HLL.o.1;have t1:=jv5 HLL.o.1;have c1:(⟨#[45]⟩:ByteArray)++⟨D.toArray⟩=⟨(45::D).toArray⟩:=jaj [45] D;go_wp2_with (first|(go_at_call 72;(with_reducible refine mo0 (HP.o _) fun w2 hb2 hc2 hf2 _=> ?_))|(go_at_call 72;(with_reducible refine mo0 (HQ.o _) fun w3 hb3 hc3 hf3 _=> ?_)))
   go_ret;exact ⟨by simp,bi⟩
  ·rw [if_neg hq1];have q6:decide (1 < q)=true:=decide_eq_true (Nat.lt_of_le_of_ne h3 (Ne.symm hq1));have q6':decide ((1:Int) < (q:Int))=true:=decide_eq_true (Int.ofNat_lt.2 (Nat.lt_of_le_of_ne h3 (Ne.symm hq1)));clear hq1 h3 h2 h1;have m3:=M3.o;go_enter func38,ntmps38;go_upto_region 6 with (go_at_call 82;(with_reducible refine mo0 (HG.o _) fun w1 hb1 hc1 hf1 _=> ?_))
   go_quiet (fail)
   clear m3;have t2:=jt3 HLL.o.1;have t1:=jv5 HLL.o.1;have t5:=jvZ HLL.o.1;have t7:=jw8 HLL.o.1 HLL.o.2;have c1:(⟨#[45]⟩:ByteArray)++⟨D.toArray⟩=⟨(45::D).toArray⟩:=jaj [45] D;have c3:(⟨(45::D).toArray⟩:ByteArray)++⟨#[47]⟩=⟨(45::D++[47]).toArray⟩:=jaj (45::D) [47]
   have c5:(⟨(45::(D++[47])).toArray⟩:ByteArray)++⟨E.toArray⟩=⟨(45::(D++47::E)).toArray⟩ 
    :=(jaj (45::(D++[47])) E).trans (by rw [List.cons_append,List.append_assoc];rfl)
   go_wp2_with (first|(go_at_call 72;(with_reducible refine mo0 (HP.o _) fun w2 hb2 hc2 hf2 _=> ?_))|(go_at_call 72;(with_reducible refine mo0 (HQ.o _) fun w3 hb3 hc3 hf3 _=> ?_)))
   go_ret;exact ⟨by simp,bi⟩
 ·have q5:decide (p < 0)=false:=by rw [decide_eq_false_iff_not];exact hp0
  rw [if_neg hp0];rw [jvi hp0] at HP;have mp:max p (-p)=p:=by omega
  by_cases hq1:q=1
  ·rw [if_pos hq1];have q6:decide ((1:Int) < ((1:Nat):Int))=false:=by decide
   subst hq1;clear h3 h2 h1;have m3:=M3.o;go_enter func38,ntmps38;go_upto_region 6 with (go_at_call 82;(with_reducible refine mo0 (HG.o _) fun w1 hb1 hc1 hf1 _=> ?_))
   go_quiet (fail)
   clear m3;have t3:=jvA HLL.o.1;have c2:(⟨#[]⟩:ByteArray)++⟨D.toArray⟩=⟨D.toArray⟩:=jaj [] D;go_wp2_with (first|(go_at_call 72;(with_reducible refine mo0 (HP.o _) fun w2 hb2 hc2 hf2 _=> ?_))|(go_at_call 72;(with_reducible refine mo0 (HQ.o _) fun w3 hb3 hc3 hf3 _=> ?_)))
   go_ret;exact ⟨by simp,bi⟩
  ·rw [if_neg hq1];have q6:decide (1 < q)=true:=decide_eq_true (Nat.lt_of_le_of_ne h3 (Ne.symm hq1));have q6':decide ((1:Int) < (q:Int))=true:=decide_eq_true (Int.ofNat_lt.2 (Nat.lt_of_le_of_ne h3 (Ne.symm hq1)));clear hq1 h3 h2 h1;have m3:=M3.o;go_enter func38,ntmps38;go_upto_region 6 with (go_at_call 82;(with_reducible refine mo0 (HG.o _) fun w1 hb1 hc1 hf1 _=> ?_))
   go_quiet (fail)
   clear m3;have t3:=jvA HLL.o.1;have t1:=jv5 HLL.o.1;have t6:=jvP HLL.o.1 HLL.o.2;have c2:(⟨#[]⟩:ByteArray)++⟨D.toArray⟩=⟨D.toArray⟩:=jaj [] D;have c4:(⟨D.toArray⟩:ByteArray)++⟨#[47]⟩=⟨(D++[47]).toArray⟩:=jaj D [47];have c6:(⟨(D++[47]).toArray⟩:ByteArray)++⟨E.toArray⟩=⟨(D++[47]++E).toArray⟩:=jaj (D++[47]) E;go_wp2_with (first|(go_at_call 72;(with_reducible refine mo0 (HP.o _) fun w2 hb2 hc2 hf2 _=> ?_))|(go_at_call 72;(with_reducible refine mo0 (HQ.o _) fun w3 hb3 hc3 hf3 _=> ?_)))
   go_ret;exact ⟨by simp,bi⟩
end

structure Sm (x:Rat):Prop where
 num:x.num.natAbs < 1000000000
 den:x.den < 1000000000
theorem jty {n:Nat} (h:n < 1000000000):(Lib.decDigits n).length≤9:=jb0 (k:=9) (by omega) (by omega)
theorem Sm.neg {x:Rat} (h:Sm x):Sm (-x):=⟨by rw [Rat.neg_num,Int.natAbs_neg];exact h.num,by rw [Rat.neg_den];exact h.den⟩
theorem jgx {a b:Nat} (ha:a < 1000000000) (hb:b < 1000000000):a*b≤1000000000000000000:=by
 have:=Nat.mul_le_mul (Nat.le_of_lt ha) (Nat.le_of_lt hb);omega
theorem jdr {w:World} {l:List UInt8} {x:Rat} (hx:l=tq x) (h:Sm x):Calls prog 37 #[bs l] w fun e w'=>e= .returned (.tuple #[.int .i64 x.num, .int .i64 ((x.den:Nat):Int), .bool true])∧Below w.heap.size w w':=
 js1 hx (jty h.num) (jty h.den)
theorem jjG {a:Int} {b:Nat} (ha:a.natAbs < 1000000000) (hb:b < 1000000000): -1000000000000000000≤a*(b:Int)∧a*(b:Int)≤1000000000000000000:=by
 have h:=jgx ha hb;have e:(a*(b:Int)).natAbs=a.natAbs*b:=by rw [Int.natAbs_mul,Int.natAbs_natCast]
 omega
theorem jfZ {z:Int} (h: -4000000000000000000≤z∧z≤4000000000000000000):wrap64 z=z:=by unfold wrap64;omega
theorem jqZ {a b:Int} (h: -1000000000000000000≤a∧a≤1000000000000000000) (k: -1000000000000000000≤b∧b≤1000000000000000000): -4000000000000000000≤a+b∧a+b≤4000000000000000000:=by omega
theorem jjP {a:Int} (h: -1000000000000000000≤a∧a≤1000000000000000000): -4000000000000000000≤a∧a≤4000000000000000000:=by omega
theorem jqt {a:Nat} (h:a≤1000000000000000000): -4000000000000000000≤(a:Int)∧(a:Int)≤4000000000000000000:=by omega
theorem jqx {a:Int} (h: -4000000000000000000≤a∧a≤4000000000000000000):a.natAbs≤4000000000000000000:=by omega
section
variable {w:World} {k l:List UInt8} {x y:Rat}
theorem jtF (hk:k=tq x) (hl:l=tq y) (hx:Sm x) (hy:Sm y):Calls prog 12 #[bs k,bs l] w fun e w'=>e= .returned (bs (tq (x+y)))∧Below w.heap.size w w':=by
 have HX:=qh (fun W=>jdr (w:=W) hk hx);have HY:=qh (fun W=>jdr (w:=W) hl hy);rw [Rq.add_eq];have b1:=jjG hx.num hy.den;have b2:=jjG hy.num hx.den;have b3:=jgx hx.den hy.den;have d1:=Nat.mul_pos x.den_pos y.den_pos;obtain ⟨n,hn⟩:∃n,x.num=n:=⟨_,rfl⟩;obtain ⟨m,hm⟩:∃n,y.num=n:=⟨_,rfl⟩;obtain ⟨d,hd⟩:∃n,x.den=n:=⟨_,rfl⟩;obtain ⟨e,he⟩:∃n,y.den=n:=⟨_,rfl⟩;rw [hn,hm,hd,he];rw [hn,he] at b1;rw [hm,hd] at b2;rw [hd,he] at b3 d1;rw [hn,hd] at HX;rw [hm,he] at HY;have m1:wrap64 (n*(e:Int))=n*(e:Int):=jfZ (jjP b1);have m2:wrap64 (m*(d:Int))=m*(d:Int):=jfZ (jjP b2);have m3:wrap64 (n*(e:Int)+m*(d:Int))=n*(e:Int)+m*(d:Int):=jfZ (jqZ b1 b2)
 have m4:wrap64 ((d:Int)*(e:Int))=(d:Int)*(e:Int):=by
  have:(d:Int)*(e:Int)=((d*e:Nat):Int):=by rw [Int.natCast_mul]
  rw [this];exact jfZ (jqt b3)
 have HO:Hd (∀W,Calls prog 38 #[.int .i64 (n*(e:Int)+m*(d:Int)), .int .i64 ((d:Int)*(e:Int))] W fun r w'=>r= .returned (bs (tq (Rat.divInt (n*(e:Int)+m*(d:Int)) ((d:Int)*(e:Int)))))∧Below W.heap.size W w'):=qh (fun W=>by
  have:=jkd (w:=W) (a:=n*(e:Int)+m*(d:Int)) (d:=d*e) d1 (Nat.le_trans b3 (by decide)) (jqx (jqZ b1 b2))
  rwa [Int.natCast_mul] at this)
 obtain ⟨R,hR⟩:∃R,tq (Rat.divInt (n*(e:Int)+m*(d:Int)) ((d:Int)*(e:Int)))=R:=⟨_,rfl⟩;rw [hR] at HO ⊢;clear b1 b2 b3 d1 hn hm hd he hR hk hl hx hy;go_enter func12,ntmps12;go_wp2_with (first|(go_at_call 37;(with_reducible show Calls _ _ #[bs k] _ _);(with_reducible refine mo0 (HX.o _) fun w1 hb1 hc1 hf1 _=> ?_))|(go_at_call 37;(with_reducible show Calls _ _ #[bs l] _ _);(with_reducible refine mo0 (HY.o _) fun w2 hb2 hc2 hf2 _=> ?_))|(go_at_call 38;(with_reducible refine mo0 (HO.o _) fun w3 hb3 hc3 hf3 _=> ?_)))
 go_ret;exact ⟨rfl,bi⟩
end
theorem jmd (x:Rat):(uq x).head? ≠some 45:=by
 obtain ⟨c,h1,h2,h3⟩:=jcy x.num.natAbs;unfold uq;cases h:Lib.decDigits x.num.natAbs with
 | nil=>rw [h] at h3;simp at h3
 | cons a r=>
   rw [h] at h1;intro e;simp at e h1;exact h2 (by rw [←h1,e])
theorem jmo {x:Rat} (h:uq x=[48]):x=0:=by
 unfold uq at h;have h3:=(Dig.digits_dig x.num.natAbs).2
 have h4:Lib.decDigits x.num.natAbs=[48]:=by
  cases h5:Lib.decDigits x.num.natAbs with
  | nil=>exact absurd h5 h3
  | cons a r=>
    rw [h5] at h;simp at h;rw [h.1,h.2.1]
 have h5:=Dig.val_digits x.num.natAbs;rw [h4] at h5;have h6:x.num.natAbs=0:=by rw [←h5];rfl
 exact Rat.num_eq_zero.1 (by omega)
theorem jtP (x:Rat):uq (-x)=uq x:=by unfold uq;rw [Rat.neg_num,Int.natAbs_neg,Rat.neg_den]
theorem jnF:tq 0=[48]:=by decide+kernel
theorem jux (x:Rat):jt1 (tq x)=tq (-x):=by
 have hn:(-x).num= -x.num:=Rat.neg_num x;rw [jcP,jcP,jtP,hn];by_cases h:x.num < 0
 ·rw [if_pos h,if_neg (by omega)];rfl
 ·rw [if_neg h];unfold jt1;rw [if_neg (jmd x)];by_cases h0:uq x=[48]
  ·have hx:=jmo h0;rw [if_pos h0,if_neg (by rw [hx];decide)]
  ·rw [if_neg h0,if_pos]
   have:x.num≠0:=fun e=>h0 (by
    have hx:x=0:=Rat.num_eq_zero.1 e;have:=jcP x;rw [if_neg h,hx,jnF] at this
    rw [hx];exact this.symm)
   omega
theorem ju0 (x:Rat):sgT (tq x)=sgn x.num:=by
 rw [jcP];unfold sgT;by_cases h:x.num < 0
 ·rw [if_pos h,if_neg (by intro e;cases e)];unfold sgn;simp [h]
 ·rw [if_neg h];by_cases h0:uq x=[48]
  ·have hx:=jmo h0;rw [if_pos h0,hx];rfl
  ·rw [if_neg h0,if_neg (jmd x)]
   have:x.num≠0:=fun e=>h0 (by
    have hx:x=0:=Rat.num_eq_zero.1 e;have:=jcP x;rw [if_neg h,hx,jnF] at this
    rw [hx];exact this.symm)
   unfold sgn;rw [if_neg h,if_pos (by omega)]
theorem jqF {z:Rat} (h:0 < z):0 < z.num:=by have:=(Rat.lt_iff 0 z).1 h;simpa using this
theorem jrX (x y:Rat):sgn (x - y).num=Rq.cmpQ x y:=by
 unfold Rq.cmpQ sgn;by_cases h1:x < y
 ·have h:=jqF ((Rat.lt_iff_sub_pos x y).1 h1);have e:(x - y).num= -(y - x).num:=by rw [←Rat.neg_num,Rat.neg_sub]
  rw [if_pos h1,if_pos (by omega)]
 ·rw [if_neg h1];by_cases h2:y < x
  ·have h:=jqF ((Rat.lt_iff_sub_pos y x).1 h2);rw [if_pos h2,if_neg (by omega),if_pos h]
  ·have e:x=y:=Rat.le_antisymm (Rat.not_lt.1 h2) (Rat.not_lt.1 h1);subst e;rw [if_neg h2,Rat.sub_self];rfl
section
variable {w:World} {k l:List UInt8} {x y:Rat}
end
end Go.Proofs.YtfagcpcikjlboaaGreatDoor
