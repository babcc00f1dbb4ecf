/- Parts. -/
import Derived.Sort.LotA
import Derived.Lib.ItoaNum
import Derived.Lib.Atoi
set_option linter.all false
set_option maxRecDepth 100000
set_option maxHeartbeats 8000000
namespace Go.Proofs.YtfagcpcikjlboaaGreatDoor.Stab
open Go.Sort
variable {α:Type} [Inhabited α]

end Go.Proofs.YtfagcpcikjlboaaGreatDoor.Stab
namespace Go.Proofs.YtfagcpcikjlboaaGreatDoor.App

def jrJ (f:Nat→Int):Nat→Int
 | 0=>0
 | n+1=>jrJ f n+f n

section
variable (t s:Int) (w:Nat→Int) (n:Nat)
def quo (i:Nat):Int:=t*w i / s
def left:Int:=t - jrJ (quo t s w) n
def out (L:List Nat) (k:Nat) (i:Nat):Int:=quo t s w i+if i∈L.take k then 1 else 0
end

section
variable {t s:Int} {w:Nat→Int} {n:Nat} (hs:jrJ w n=s) (h1:0 < s) (hw:∀i,i < n→0≤w i) (ht:0≤t)
include hs h1

omit h1 in
end
end Go.Proofs.YtfagcpcikjlboaaGreatDoor.App
namespace Go.Proofs.YtfagcpcikjlboaaGreatDoor.Dig
open Go.Lib

def isDig (c:UInt8):Bool:=decide (48≤c.toNat∧c.toNat≤57)
def val (l:List UInt8):Nat:=l.foldl (fun a c=>a*10+(c.toNat - 48)) 0
def valFrom (a:Nat) (l:List UInt8):Nat:=l.foldl (fun a c=>a*10+(c.toNat - 48)) a

theorem jcB:∀(l:List UInt8) (a:Nat),valFrom a l=a*10^l.length+val l
 | [],a=>by simp [valFrom,val]
 | c::l,a=>by
   have h1:=jcB l (a*10+(c.toNat - 48));have h2:=jcB l (c.toNat - 48);have e1:valFrom a (c::l)=valFrom (a*10+(c.toNat - 48)) l:=rfl;have e2:val (c::l)=valFrom (c.toNat - 48) l:=by simp [val,valFrom]
   rw [e1,e2,h1,h2,List.length_cons,Nat.pow_succ,Nat.add_mul];rw [show a*(10^l.length*10)=a*10*10^l.length by rw [Nat.mul_comm (10^l.length),Nat.mul_assoc]];omega
theorem val_append (l m:List UInt8):val (l++m)=val l*10^m.length+val m:=by
 rw [←jcB];simp [val,valFrom,List.foldl_append]
theorem jbY (c:UInt8) (l:List UInt8):val (c::l)=(c.toNat - 48)*10^l.length+val l:=by
 rw [←jcB];simp [val,valFrom]
theorem val_lt:∀(l:List UInt8),(∀c∈l,isDig c=true)→val l < 10^l.length
 | [],_=>by simp [val]
 | c::l,h=>by
   have h1:=val_lt l fun c hc=>h c (List.mem_cons_of_mem _ hc)
   have h2:48≤c.toNat∧c.toNat≤57:=by simpa [isDig] using h c List.mem_cons_self
   rw [jbY,List.length_cons,Nat.pow_succ];have:(c.toNat - 48)*10^l.length≤9*10^l.length:=Nat.mul_le_mul_right _ (by omega);omega
theorem decFrom_val:∀(l:List UInt8) (a:Nat),(∀c∈l,isDig c=true)→decFrom a l=some (valFrom a l)
 | [],_,_=>rfl
 | c::l,a,h=>by
   have h2:48≤c.toNat∧c.toNat≤57:=by simpa [isDig] using h c List.mem_cons_self
   simp only [decFrom,digitVal,h2,and_self,if_true];rw [decFrom_val l _ fun c hc=>h c (List.mem_cons_of_mem _ hc)];rfl
theorem digits_dig (n:Nat):(∀c∈decDigits n,isDig c=true)∧decDigits n≠[]:=by
 induction n using Nat.strongRecOn with
 | ind n ih=>
   rw [decDigits];by_cases h:n < 10
   ·rw [dif_pos h];refine ⟨fun c hc=> ?_,by simp⟩;rw [List.mem_singleton] at hc;subst hc;simp only [isDig,decide_eq_true_eq,UInt8.toNat_ofNat'];omega
   ·rw [dif_neg h];refine ⟨fun c hc=> ?_,by simp⟩;rcases List.mem_append.1 hc with h1|h1
    ·exact (ih (n / 10) (by omega)).1 c h1
    ·rw [List.mem_singleton] at h1;subst h1;simp only [isDig,decide_eq_true_eq,UInt8.toNat_ofNat'];omega
theorem val_digits (n:Nat):val (decDigits n)=n:=by
 induction n using Nat.strongRecOn with
 | ind n ih=>
   rw [decDigits];by_cases h:n < 10
   ·rw [dif_pos h,jbY];simp [val];omega
   ·rw [dif_neg h,val_append,ih (n / 10) (by omega),jbY];simp [val];omega
def plain (l:List UInt8):Bool:= !l.isEmpty && l.all isDig && (l==[48] || l.head? != some 48)
theorem jj9 (n:Nat) (h:0 < n):(decDigits n).head? ≠some 48:=by
 induction n using Nat.strongRecOn with
 | ind n ih=>
   rw [decDigits];by_cases h1:n < 10
   ·rw [dif_pos h1];simp only [List.head?_cons,ne_eq,Option.some.injEq];intro hc;have:=congrArg UInt8.toNat hc;simp only [UInt8.toNat_ofNat'] at this;have:(48:UInt8).toNat=48:=rfl;omega
   ·rw [dif_neg h1];have h2:=(digits_dig (n / 10)).2;have h3:=ih (n / 10) (by omega) (by omega);cases h4:decDigits (n / 10) with
    | nil=>exact absurd h4 h2
    | cons a t=>rw [h4] at h3;simpa using h3
theorem plain_digits (n:Nat):plain (decDigits n)=true:=by
 have h1:=digits_dig n;unfold plain;simp only [Bool.and_eq_true,Bool.or_eq_true,Bool.not_eq_true',List.isEmpty_eq_false_iff,List.all_eq_true,beq_iff_eq,bne_iff_ne];refine ⟨⟨h1.2,h1.1⟩, ?_⟩;by_cases h:n=0
 ·left;subst h;rw [decDigits_one (by omega)];rfl
 ·right;exact jj9 n (by omega)
theorem jri {c:UInt8} {l:List UInt8} (hc:isDig c=true) (h0:c≠48):10^l.length≤val (c::l):=by
 have h2:48≤c.toNat∧c.toNat≤57:=by simpa [isDig] using hc
 have h3:c.toNat≠48:=fun e=>h0 (UInt8.toNat_inj.1 e)
 rw [jbY];have:=Nat.le_mul_of_pos_left (10^l.length) (show 0 < c.toNat - 48 by omega);omega
theorem digits_len {k n:Nat} (h1:10^k≤n) (h2:n < 10^(k+1)):(decDigits n).length=k+1:=by
 rw [decDigits_length,nDigits_unique k n h1 h2]
theorem jBh:∀(l m:List UInt8),l.length=m.length→(∀c∈l,isDig c=true)→(∀c∈m,isDig c=true)→val l=val m→l=m
 | [],[],_,_,_,_=>rfl
 | [],_::_,h,_,_,_=>by simp at h
 | _::_,[],h,_,_,_=>by simp at h
 | a::l,b::m,h,h1,h2,h3=>by
   have hl:l.length=m.length:=by simpa using h
   have l1:=val_lt l fun c hc=>h1 c (List.mem_cons_of_mem _ hc)
   have l2:=val_lt m fun c hc=>h2 c (List.mem_cons_of_mem _ hc)
   have ha:48≤a.toNat∧a.toNat≤57:=by simpa [isDig] using h1 a List.mem_cons_self
   have hb:48≤b.toNat∧b.toNat≤57:=by simpa [isDig] using h2 b List.mem_cons_self
   rw [jbY,jbY,←hl] at h3;rw [←hl] at l2
   have hd:a.toNat - 48=b.toNat - 48:=by
    have e1:((a.toNat - 48)*10^l.length+val l) / 10^l.length=((b.toNat - 48)*10^l.length+val m) / 10^l.length:=by rw [h3]
    have hp:0 < 10^l.length:=Nat.pow_pos (by omega);rw [Nat.add_comm,Nat.add_mul_div_right _ _ hp,Nat.div_eq_of_lt l1,Nat.add_comm (_*_),Nat.add_mul_div_right _ _ hp,Nat.div_eq_of_lt l2] at e1;omega
   have hab:a=b:=UInt8.toNat_inj.1 (by omega);subst hab;have hv:val l=val m:=by omega
   rw [jBh l m hl (fun c hc=>h1 c (List.mem_cons_of_mem _ hc)) (fun c hc=>h2 c (List.mem_cons_of_mem _ hc)) hv]
theorem digits_val {l:List UInt8} (h:plain l=true):decDigits (val l)=l:=by
 unfold plain at h;simp only [Bool.and_eq_true,Bool.or_eq_true,Bool.not_eq_true',List.isEmpty_eq_false_iff,List.all_eq_true,beq_iff_eq,bne_iff_ne] at h;obtain ⟨⟨hne,hd⟩,hz⟩:=h;cases l with
 | nil=>exact absurd rfl hne
 | cons c l=>
   by_cases h0:c=48
   ·rcases hz with hz|hz
    ·injection hz with _ hl;subst hl;subst h0
     rw [jbY];simp [val];rw [decDigits_one (by omega)];rfl
    ·exact absurd (congrArg some h0) (by simpa using hz)
   ·have h1:=jri (l:=l) (hd c List.mem_cons_self) h0;have h2:=val_lt (c::l) hd;refine jBh _ _ ?_ (digits_dig _).1 hd (val_digits _);rw [digits_len h1 (by simpa using h2)];simp
theorem digits_inj {a b:Nat} (h:decDigits a=decDigits b):a=b:=by rw [←val_digits a,h,val_digits]
end Go.Proofs.YtfagcpcikjlboaaGreatDoor.Dig
