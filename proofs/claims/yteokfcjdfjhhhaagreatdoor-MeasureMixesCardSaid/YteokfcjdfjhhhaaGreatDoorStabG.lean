/- Parts. -/
import Derived.Sort.LotA
import Derived.Lib.ItoaNum
import Derived.Lib.Atoi
set_option linter.all false
set_option maxRecDepth 100000
set_option maxHeartbeats 8000000
namespace Go.Proofs.YteokfcjdfjhhhaaGreatDoor.Stab
open Go.Sort
variable {α:Type} [Inhabited α]

theorem jrH (d:Array α) (j:Nat) (h:j+1 < d.size):
  (swp d (j+1) j)[j]! =d[j+1]! ∧(swp d (j+1) j)[j+1]! =d[j]! ∧(swp d (j+1) j).size=d.size
    ∧∀p,p≠j→p≠j+1→(swp d (j+1) j)[p]! =d[p]! :=by
 unfold swp;refine ⟨?_, ?_,by simp, ?_⟩
 ·rw [getElem!_pos _ j (by simp;omega),getElem!_pos d (j+1) h,Array.getElem_setIfInBounds,if_pos rfl] <;> first|omega|(simp;omega)
 ·rw [getElem!_pos _ (j+1) (by simp;omega),Array.getElem_setIfInBounds,if_neg (by omega),Array.getElem_setIfInBounds,if_pos rfl] <;> first|omega|(simp;omega)
 ·intro p h1 h2;by_cases hp:p < d.size
  ·rw [getElem!_pos _ p (by simpa using hp),getElem!_pos d p hp,Array.getElem_setIfInBounds,if_neg (by omega),Array.getElem_setIfInBounds,if_neg (by omega)] <;> first|omega|(simp;omega)
  ·rw [getElem!_neg _ p (by simpa using hp),getElem!_neg d p hp]

theorem jjs (lt lt2:α→α→Bool) (ix:α→Nat) (h2:∀x y,ix y < ix x→lt2 x y=lt x y) (a:Nat):
  ∀ (j:Nat) (d:Array α),j < d.size→(∀p,a≤p→p < j→ix d[p]! < ix d[j]!)→
    insInner lt2 a j d=insInner lt a j d
    ∧(insInner lt a j d).size=d.size
    ∧(∀p,(p < a∨j < p)→(insInner lt a j d)[p]! =d[p]!)
    ∧(∀p,a≤p→p≤j→∃p',a≤p'∧p'≤j∧(insInner lt a j d)[p]! =d[p']!)
 | 0,d,hj,hx=>⟨rfl,rfl,fun p hp=>rfl,fun p h1 h2=>⟨p,h1,h2,rfl⟩⟩
 | j+1,d,hj,hx=>by
   simp only [insInner];by_cases ha:j+1 > a
   ·have e:=h2 d[j+1]! d[j]! (hx j (by omega) (by omega));rw [e];by_cases hl:lt d[j+1]! d[j]! =true
    ·simp only [ha,hl,decide_true,Bool.and_self,if_true];obtain ⟨s1,s2,s3,s4⟩:=jrH d j hj
     obtain ⟨r1,r2,r3,r4⟩:=jjs lt lt2 ix h2 a j (swp d (j+1) j) (by omega) (fun p h1 h3=>by
      rw [s1,s4 p (by omega) (by omega)];exact hx p h1 (by omega))
     refine ⟨r1,by omega,fun p hp=> ?_,fun p h1 h3=> ?_⟩
     ·by_cases hp1:p=j
      ·omega
      ·by_cases hp2:p=j+1
       ·omega
       ·rw [r3 p (by omega),s4 p hp1 hp2]
     ·by_cases hp2:p=j+1
      ·subst hp2;exact ⟨j,by omega,by omega,by rw [r3 (j+1) (by omega),s2]⟩
      ·obtain ⟨q,q1,q2,q3⟩:=r4 p h1 (by omega);by_cases hq:q=j
       ·subst hq;exact ⟨q+1,by omega,by omega,by rw [q3,s1]⟩
       ·exact ⟨q,q1,by omega,by rw [q3,s4 q hq (by omega)]⟩
    ·simp only [hl,Bool.and_false];exact ⟨rfl,rfl,fun p hp=>rfl,fun p h1 h2=>⟨p,h1,h2,rfl⟩⟩
   ·simp only [ha,decide_false,Bool.false_and];exact ⟨rfl,rfl,fun p hp=>rfl,fun p h1 h2=>⟨p,h1,h2,rfl⟩⟩

theorem jjf (lt lt2:α→α→Bool) (ix:α→Nat) (h2:∀x y,ix y < ix x→lt2 x y=lt x y) (a b:Nat):
  ∀ (n i:Nat) (d:Array α),b - i≤n→a≤i→b≤d.size→(∀p q,a≤p→p < q→i≤q→q < b→ix d[p]! < ix d[q]!)→
    insOuter lt2 a b i d=insOuter lt a b i d
 | n,i,d,hn,hi,hb,hx=>by
   rw [insOuter.eq_def lt2,insOuter.eq_def lt];by_cases hlt:i < b
   ·rw [if_pos hlt,if_pos hlt];obtain ⟨r1,r2,r3,r4⟩:=jjs lt lt2 ix h2 a i d (by omega) (fun p h1 h3=>hx p i h1 h3 (Nat.le_refl _) hlt);rw [r1]
    match n with
    | 0=>omega
    | n+1=>
      refine jjf lt lt2 ix h2 a b n (i+1) _ (by omega) (by omega) (by omega) (fun p q h1 h3 h4 h5=> ?_);rw [r3 q (by omega)];by_cases hp:p≤i
      ·obtain ⟨p',h6,h7,h8⟩:=r4 p h1 hp;rw [h8];exact hx p' q h6 (by omega) (by omega) h5
      ·rw [r3 p (by omega)];exact hx p q h1 h3 (by omega) h5
   ·rw [if_neg hlt,if_neg hlt]

def ltKey (key:α→Int) (x y:α):Bool:=decide (key y < key x)
def ltLex (key:α→Int) (ix:α→Nat) (x y:α):Bool:=decide (key y < key x∨key x=key y∧ix x < ix y)

omit [Inhabited α] in
theorem jlx (key:α→Int) (ix:α→Nat):SWO (ltLex key ix) where
 irrefl x:=by simp [ltLex]
 trans x y z:=by simp only [ltLex,decide_eq_true_eq];omega
 ntrans x y z:=by simp only [ltLex,decide_eq_false_iff_not];omega

theorem sort_stable (key:α→Int) (ix:α→Nat) (d:Array α) (hd:∀p q,p < q→q < d.size→ix d[p]! < ix d[q]!):
  PermIn 0 d.size d (insertionSort (ltKey key) d 0 d.size)∧SortedIn (ltLex key ix) 0 d.size (insertionSort (ltKey key) d 0 d.size):=by
 have e:insertionSort (ltLex key ix) d 0 d.size=insertionSort (ltKey key) d 0 d.size:=by
  unfold insertionSort;refine jjf (ltKey key) (ltLex key ix) ix (fun x y h=> ?_) 0 d.size d.size 1 d (by omega) (by omega) (Nat.le_refl _) (fun p q _ h3 _ h5=>hd p q h3 h5);simp only [ltLex,ltKey]
  congr 1
  rw [eq_iff_iff];omega
 rw [←e];exact insertionSort_holds (jlx key ix) d 0 d.size (Nat.zero_le _) (Nat.le_refl _)
end Go.Proofs.YteokfcjdfjhhhaaGreatDoor.Stab
namespace Go.Proofs.YteokfcjdfjhhhaaGreatDoor.App

def sumTo (f:Nat→Int):Nat→Int
 | 0=>0
 | n+1=>sumTo f n+f n

theorem jem {f g:Nat→Int}:∀{n:Nat},(∀i,i < n→f i=g i)→sumTo f n=sumTo g n
 | 0,_=>rfl
 | n+1,h=>by simp only [sumTo];rw [jem fun i hi=>h i (by omega),h n (by omega)]
theorem jhd (f g:Nat→Int):∀n,sumTo (fun i=>f i+g i) n=sumTo f n+sumTo g n
 | 0=>rfl
 | n+1=>by simp only [sumTo];rw [jhd f g n];omega
theorem jeA (c:Int) (f:Nat→Int):∀n,sumTo (fun i=>c*f i) n=c*sumTo f n
 | 0=>by simp [sumTo]
 | n+1=>by simp only [sumTo];rw [jeA c f n,Int.mul_add]
theorem jow {f g:Nat→Int} {n:Nat} (h:∀i,i < n→f i≤g i):sumTo f n≤sumTo g n:=by
 induction n with
 | zero=>exact Int.le_refl _
 | succ n ih=>
   simp only [sumTo];have:=ih fun i hi=>h i (by omega)
   have:=h n (by omega);omega
theorem sumTo_nonneg {f:Nat→Int} {n:Nat} (h:∀i,i < n→0≤f i):0≤sumTo f n:=by
 induction n with
 | zero=>simp [sumTo]
 | succ n ih=>simp only [sumTo];have:=ih fun i hi=>h i (by omega);have:=h n (by omega);omega
theorem jeF (c:Int):∀n:Nat,sumTo (fun _=>c) n=n*c
 | 0=>by simp [sumTo]
 | n+1=>by simp only [sumTo];rw [jeF c n];rw [Int.natCast_add,Int.add_mul];simp
structure Order (r:Nat→Int) (n:Nat) (L:List Nat):Prop where
 len:L.length=n
 mem:∀i,i∈L↔i < n
 nodup:L.Nodup
 sorted:∀i j (hi:i < j) (hj:j < L.length),¬(r (L[i]'(by omega)) < r L[j]∨r L[j]=r (L[i]'(by omega))∧L[j] < L[i]'(by omega))

theorem nodup_take {l:List Nat} (h:l.Nodup) {k p:Nat} (hp:p < l.length):l[p]∈l.take k↔p < k:=by
 constructor
 ·intro hm;obtain ⟨q,hq,e⟩:=List.getElem_of_mem hm;rw [List.getElem_take] at e;have hq':q < k:=by rw [List.length_take] at hq;omega
  have hq2:q < l.length:=by rw [List.length_take] at hq;omega
  have:=(List.getElem_inj h).1 e;omega
 ·intro hk;rw [List.mem_take_iff_getElem];exact ⟨p,by omega,rfl⟩

section
variable (t s:Int) (w:Nat→Int) (n:Nat)
def quo (i:Nat):Int:=t*w i / s
def rem (i:Nat):Int:=t*w i % s
def left:Int:=t - sumTo (quo t s w) n
def out (L:List Nat) (k:Nat) (i:Nat):Int:=quo t s w i+if i∈L.take k then 1 else 0
end

section
variable {t s:Int} {w:Nat→Int} {n:Nat} (hs:sumTo w n=s) (h1:0 < s) (hw:∀i,i < n→0≤w i) (ht:0≤t)
include hs h1

omit h1 in
theorem jlj:sumTo (rem t s w) n=s*left t s w n:=by
 have e:sumTo (fun i=>t*w i) n=sumTo (fun i=>s*quo t s w i+rem t s w i) n:=
  jem fun i _=>by unfold quo rem;rw [Int.mul_ediv_add_emod]
 rw [jeA,hs,jhd,jeA] at e;unfold left;rw [Int.mul_sub,Int.mul_comm s t];omega
omit hs in
theorem jks (i:Nat):0≤rem t s w i:=Int.emod_nonneg _ (by omega)
omit hs in
theorem jrs (i:Nat):rem t s w i < s:=Int.emod_lt_of_pos _ h1

theorem left_nonneg:0≤left t s w n:=by
 have e:=jlj (t:=t) hs;have h:=sumTo_nonneg (f:=rem t s w) (n:=n) fun i _=>jks h1 i
 rw [e] at h;rcases Int.lt_or_le (left t s w n) 0 with h2|h2
 ·have:=Int.mul_neg_of_pos_of_neg h1 h2;omega
 ·exact h2

theorem left_lt:left t s w n < n:=by
 have hn:0 < n:=by
  rcases Nat.eq_zero_or_pos n with h|h
  ·subst h;simp [sumTo] at hs;omega
  ·exact h
 have e:=jlj (t:=t) hs;have h:sumTo (rem t s w) n≤sumTo (fun _=>s - 1) n:=jow fun i _=>by have:=jrs (t:=t) (w:=w) h1 i;omega
 rw [jeF,e] at h;rcases Int.lt_or_le (left t s w n) n with h2|h2
 ·exact h2
 ·exfalso;have h3:s*n≤s*left t s w n:=Int.mul_le_mul_of_nonneg_left h2 (by omega);have h4:(n:Int)*(s - 1)=s*n - n:=by rw [Int.mul_sub,Int.mul_comm s];omega
  omega

omit hs h1 in
end
end Go.Proofs.YteokfcjdfjhhhaaGreatDoor.App
namespace Go.Proofs.YteokfcjdfjhhhaaGreatDoor.Dig
open Go.Lib

def isDig (c:UInt8):Bool:=decide (48≤c.toNat∧c.toNat≤57)
def val (l:List UInt8):Nat:=l.foldl (fun a c=>a*10+(c.toNat - 48)) 0
def valFrom (a:Nat) (l:List UInt8):Nat:=l.foldl (fun a c=>a*10+(c.toNat - 48)) a

theorem jcS:∀(l:List UInt8) (a:Nat),valFrom a l=a*10^l.length+val l
 | [],a=>by simp [valFrom,val]
 | c::l,a=>by
   have h1:=jcS l (a*10+(c.toNat - 48));have h2:=jcS l (c.toNat - 48);have e1:valFrom a (c::l)=valFrom (a*10+(c.toNat - 48)) l:=rfl;have e2:val (c::l)=valFrom (c.toNat - 48) l:=by simp [val,valFrom]
   rw [e1,e2,h1,h2,List.length_cons,Nat.pow_succ,Nat.add_mul];rw [show a*(10^l.length*10)=a*10*10^l.length by rw [Nat.mul_comm (10^l.length),Nat.mul_assoc]];omega
theorem val_append (l m:List UInt8):val (l++m)=val l*10^m.length+val m:=by
 rw [←jcS];simp [val,valFrom,List.foldl_append]
theorem val_cons (c:UInt8) (l:List UInt8):val (c::l)=(c.toNat - 48)*10^l.length+val l:=by
 rw [←jcS];simp [val,valFrom]
theorem val_lt:∀(l:List UInt8),(∀c∈l,isDig c=true)→val l < 10^l.length
 | [],_=>by simp [val]
 | c::l,h=>by
   have h1:=val_lt l fun c hc=>h c (List.mem_cons_of_mem _ hc)
   have h2:48≤c.toNat∧c.toNat≤57:=by simpa [isDig] using h c List.mem_cons_self
   rw [val_cons,List.length_cons,Nat.pow_succ];have:(c.toNat - 48)*10^l.length≤9*10^l.length:=Nat.mul_le_mul_right _ (by omega);omega
theorem decFrom_val:∀(l:List UInt8) (a:Nat),(∀c∈l,isDig c=true)→decFrom a l=some (valFrom a l)
 | [],_,_=>rfl
 | c::l,a,h=>by
   have h2:48≤c.toNat∧c.toNat≤57:=by simpa [isDig] using h c List.mem_cons_self
   simp only [decFrom,digitVal,h2,and_self,if_true];rw [decFrom_val l _ fun c hc=>h c (List.mem_cons_of_mem _ hc)];rfl
theorem digits_dig (n:Nat):(∀c∈decDigits n,isDig c=true)∧decDigits n≠[]:=by
 induction n using Nat.strongRecOn with
 | ind n ih=>
   rw [decDigits];by_cases h:n < 10
   ·rw [dif_pos h];refine ⟨fun c hc=> ?_,by simp⟩;rw [List.mem_singleton] at hc;subst hc;simp only [isDig,decide_eq_true_eq,UInt8.toNat_ofNat'];omega
   ·rw [dif_neg h];refine ⟨fun c hc=> ?_,by simp⟩;rcases List.mem_append.1 hc with h1|h1
    ·exact (ih (n / 10) (by omega)).1 c h1
    ·rw [List.mem_singleton] at h1;subst h1;simp only [isDig,decide_eq_true_eq,UInt8.toNat_ofNat'];omega
theorem val_digits (n:Nat):val (decDigits n)=n:=by
 induction n using Nat.strongRecOn with
 | ind n ih=>
   rw [decDigits];by_cases h:n < 10
   ·rw [dif_pos h,val_cons];simp [val];omega
   ·rw [dif_neg h,val_append,ih (n / 10) (by omega),val_cons];simp [val];omega
def plain (l:List UInt8):Bool:= !l.isEmpty && l.all isDig && (l==[48] || l.head? != some 48)
theorem jiS (n:Nat) (h:0 < n):(decDigits n).head? ≠some 48:=by
 induction n using Nat.strongRecOn with
 | ind n ih=>
   rw [decDigits];by_cases h1:n < 10
   ·rw [dif_pos h1];simp only [List.head?_cons,ne_eq,Option.some.injEq];intro hc;have:=congrArg UInt8.toNat hc;simp only [UInt8.toNat_ofNat'] at this;have:(48:UInt8).toNat=48:=rfl;omega
   ·rw [dif_neg h1];have h2:=(digits_dig (n / 10)).2;have h3:=ih (n / 10) (by omega) (by omega);cases h4:decDigits (n / 10) with
    | nil=>exact absurd h4 h2
    | cons a t=>rw [h4] at h3;simpa using h3
theorem plain_digits (n:Nat):plain (decDigits n)=true:=by
 have h1:=digits_dig n;unfold plain;simp only [Bool.and_eq_true,Bool.or_eq_true,Bool.not_eq_true',List.isEmpty_eq_false_iff,List.all_eq_true,beq_iff_eq,bne_iff_ne];refine ⟨⟨h1.2,h1.1⟩, ?_⟩;by_cases h:n=0
 ·left;subst h;rw [decDigits_one (by omega)];rfl
 ·right;exact jiS n (by omega)
theorem jqc {c:UInt8} {l:List UInt8} (hc:isDig c=true) (h0:c≠48):10^l.length≤val (c::l):=by
 have h2:48≤c.toNat∧c.toNat≤57:=by simpa [isDig] using hc
 have h3:c.toNat≠48:=fun e=>h0 (UInt8.toNat_inj.1 e)
 rw [val_cons];have:=Nat.le_mul_of_pos_left (10^l.length) (show 0 < c.toNat - 48 by omega);omega
theorem digits_len {k n:Nat} (h1:10^k≤n) (h2:n < 10^(k+1)):(decDigits n).length=k+1:=by
 rw [decDigits_length,nDigits_unique k n h1 h2]
theorem jlL:∀(l m:List UInt8),l.length=m.length→(∀c∈l,isDig c=true)→(∀c∈m,isDig c=true)→val l=val m→l=m
 | [],[],_,_,_,_=>rfl
 | [],_::_,h,_,_,_=>by simp at h
 | _::_,[],h,_,_,_=>by simp at h
 | a::l,b::m,h,h1,h2,h3=>by
   have hl:l.length=m.length:=by simpa using h
   have l1:=val_lt l fun c hc=>h1 c (List.mem_cons_of_mem _ hc)
   have l2:=val_lt m fun c hc=>h2 c (List.mem_cons_of_mem _ hc)
   have ha:48≤a.toNat∧a.toNat≤57:=by simpa [isDig] using h1 a List.mem_cons_self
   have hb:48≤b.toNat∧b.toNat≤57:=by simpa [isDig] using h2 b List.mem_cons_self
   rw [val_cons,val_cons,←hl] at h3;rw [←hl] at l2
   have hd:a.toNat - 48=b.toNat - 48:=by
    have e1:((a.toNat - 48)*10^l.length+val l) / 10^l.length=((b.toNat - 48)*10^l.length+val m) / 10^l.length:=by rw [h3]
    have hp:0 < 10^l.length:=Nat.pow_pos (by omega);rw [Nat.add_comm,Nat.add_mul_div_right _ _ hp,Nat.div_eq_of_lt l1,Nat.add_comm (_*_),Nat.add_mul_div_right _ _ hp,Nat.div_eq_of_lt l2] at e1;omega
   have hab:a=b:=UInt8.toNat_inj.1 (by omega);subst hab;have hv:val l=val m:=by omega
   rw [jlL l m hl (fun c hc=>h1 c (List.mem_cons_of_mem _ hc)) (fun c hc=>h2 c (List.mem_cons_of_mem _ hc)) hv]
theorem digits_val {l:List UInt8} (h:plain l=true):decDigits (val l)=l:=by
 unfold plain at h;simp only [Bool.and_eq_true,Bool.or_eq_true,Bool.not_eq_true',List.isEmpty_eq_false_iff,List.all_eq_true,beq_iff_eq,bne_iff_ne] at h;obtain ⟨⟨hne,hd⟩,hz⟩:=h;cases l with
 | nil=>exact absurd rfl hne
 | cons c l=>
   by_cases h0:c=48
   ·rcases hz with hz|hz
    ·injection hz with _ hl;subst hl;subst h0
     rw [val_cons];simp [val];rw [decDigits_one (by omega)];rfl
    ·exact absurd (congrArg some h0) (by simpa using hz)
   ·have h1:=jqc (l:=l) (hd c List.mem_cons_self) h0;have h2:=val_lt (c::l) hd;refine jlL _ _ ?_ (digits_dig _).1 hd (val_digits _);rw [digits_len h1 (by simpa using h2)];simp
theorem digits_inj {a b:Nat} (h:decDigits a=decDigits b):a=b:=by rw [←val_digits a,h,val_digits]
end Go.Proofs.YteokfcjdfjhhhaaGreatDoor.Dig
