/- Parts. -/
import Derived.Test.YtpkcjfpgemdfdaaGreatDoorAxG
import Derived.Laws.StructEq
import Derived.Lib.ConvBytes
import Derived.Laws.BytesArg
import Derived.BigFrame
set_option linter.all false
set_option maxRecDepth 100000
set_option maxHeartbeats 8000000
namespace Go.Proofs.YtpkcjfpgemdfdaaGreatDoor.Ax
open Go Go.RowKit
set_option linter.unusedSimpArgs false
set_option linter.unusedVariables false
theorem jbS (a b:Int):jft a b=decide (a=b):=by
 rw [Bool.eq_iff_iff];cases a <;> cases b <;> simp [jft,Nat.beq_eq] <;> omega
theorem jb2 (a b:Int):jbA a b=decide (a < b):=by
 rw [Bool.eq_iff_iff];cases a <;> cases b <;> simp [jbA,Nat.blt] <;> omega
theorem jbw (a b:Nat):Nat.ble a b=decide (a≤b):=by rw [Bool.eq_iff_iff];simp
theorem blt_eq (a b:Nat):Nat.blt a b=decide (a < b):=by rw [Bool.eq_iff_iff];simp [Nat.blt];omega
theorem jbh (a b:Nat):Nat.beq a b=decide (a=b):=by rw [Bool.eq_iff_iff];simp
theorem jnm (k:IntKind) (n:Int) (h:(if k.signed then -(lim k:Int) - 1≤n∧n≤lim k else 0≤n∧n≤lim k)):k.wrap n=n:=by
 have p7:(2:Int)^7=128:=by decide
 have p8:(2:Int)^8=256:=by decide
 have p15:(2:Int)^15=32768:=by decide
 have p16:(2:Int)^16=65536:=by decide
 have p31:(2:Int)^31=2147483648:=by decide
 have p32:(2:Int)^32=4294967296:=by decide
 have p63:(2:Int)^63=9223372036854775808:=by decide
 have p64:(2:Int)^64=18446744073709551616:=by decide
 cases k <;> simp only [IntKind.wrap,IntKind.bits,IntKind.signed,lim,Bool.true_and,Bool.false_and,Nat.reduceSub,p7,p8,p15,p16,p31,p32,p63,p64,if_true,Bool.false_eq_true,if_false,decide_eq_true_eq] at h ⊢ <;> (try split) <;> omega
theorem jc5 (k:IntKind) (n:Int):wrp k n=k.wrap n:=by
 cases n with
 | ofNat m=>
   show (bif Nat.ble m (lim k) then Int.ofNat m else k.wrap (.ofNat m))=_
   rw [jbw];by_cases hm:m≤lim k
   ·rw [decide_eq_true hm];exact (jnm k (.ofNat m) (by cases k <;> simp [IntKind.signed,lim] at hm ⊢ <;> omega)).symm
   ·rw [decide_eq_false hm];rfl
 | negSucc m=>
   show (bif jte k then (bif Nat.ble m (lim k) then Int.negSucc m else k.wrap (.negSucc m)) else k.wrap (.negSucc m))=_
   rw [jbw];by_cases hm:m≤lim k
   ·rw [decide_eq_true hm];cases hs:jte k with
    | false=>rfl
    | true=>exact (jnm k (.negSucc m) (by cases k <;> simp [IntKind.signed,lim,jte] at hm hs ⊢ <;> omega)).symm
   ·rw [decide_eq_false hm];cases jte k <;> rfl
theorem jbe:∀a b:List UInt8,jbQ a b=decide (a=b)
 | [],[]=>rfl
 | [],_::_=>rfl
 | _::_,[]=>rfl
 | a::x,b::y=>by
   show (bif Nat.beq a.toNat b.toNat then jbQ x y else false)=_
   rw [jbe x y,jbh];by_cases h:a=b
   ·subst h;simp
   ·have:¬a.toNat=b.toNat:=fun e=>h (UInt8.toNat_inj.1 e)
    simp [h,this]
theorem jb4:∀a b:List UInt8,bytesLess a b=Op.bytesLess a b
 | [],[]=>rfl
 | [],_::_=>rfl
 | _::_,[]=>rfl
 | a::x,b::y=>by
   show (bif Nat.blt a.toNat b.toNat then true else bif Nat.beq a.toNat b.toNat then bytesLess x y else false)=_
   rw [jb4 x y,jbh,blt_eq];show _=(decide (a < b) || (a==b && Op.bytesLess x y))
   have h1:(a==b)=decide (a.toNat=b.toNat):=by rw [Bool.eq_iff_iff];simp [UInt8.toNat_inj]
   have h2:decide (a < b)=decide (a.toNat < b.toNat):=by rw [Bool.eq_iff_iff];simp [UInt8.lt_iff_toNat_lt]
   rw [h1,h2];by_cases h3:a.toNat < b.toNat
   ·simp [h3]
   ·by_cases h4:a.toNat=b.toNat <;> simp [h3,h4]
theorem jiS (a b:Nat):(bif Nat.ble a b then a else b)=min a b:=by
 rw [jbw];by_cases h:a≤b
 ·simp [h,Nat.min_eq_left h]
 ·simp only [h,decide_false,cond_false];rw [Nat.min_eq_right (by omega)]
theorem jk0 (n:Nat):Int.ofNat (Nat.pow 2 n)=(2:Int)^n:=by
 show ((2^n:Nat):Int)=_
 rw [Int.natCast_pow];rfl
section
variable {P:Program} {w:World} {ι:Emb}
theorem jpp {op:BinOp} {t:TypeId} {k k':IntKind} {a b:Int} {v:AV} (e:jvx op k a (.int k' b)=v) (hv:v≠ .any):∃vc,(Go.binOp op t (.int k a) (.int k' b)).run P w= .ok vc w∧VR ι v vc:=by
 have e':(bif jez op || decide (k=k') then jhA op k a b else .any)=v:=e
 have hb:(jez op || decide (k=k'))=true:=by
  cases hb:(jez op || decide (k=k')) with
  | true=>rfl
  | false=>rw [hb] at e';exact absurd e'.symm hv
 rw [hb] at e';subst e';show ∃vc,(Go.binOp op t (.int k a) (.int k' b)).run P w= .ok vc w∧VR ι (jhA op k a b) vc
 have hne:jhA op k a b≠ .any:=hv;clear e hv;have neg:∀b:Int,¬b < 0→decide (b < 0)=false:=fun b h=>by simp [h]
 cases op
 case shl=>
  have h2:jhA .shl k a b=(bif jbA b 0 then .any else .int k (wrp k (Int.mul a (Int.ofNat (Nat.pow 2 (bif Nat.ble b.toNat k.bits then b.toNat else k.bits)))))):=rfl;rw [h2] at hne ⊢;by_cases h0:b < 0
  ·rw [jb2,decide_eq_true h0] at hne;exact absurd rfl hne
  ·rw [jb2,neg b h0,jiS,jk0,jc5];refine ⟨_, ?_,VR.int.2 rfl⟩;simp [Go.binOp,Op.shift,h0]
 case shr=>
  have h2:jhA .shr k a b=(bif jbA b 0 then .any else .int k (Int.fdiv a (Int.ofNat (Nat.pow 2 (bif Nat.ble b.toNat k.bits then b.toNat else k.bits))))):=rfl;rw [h2] at hne ⊢;by_cases h0:b < 0
  ·rw [jb2,decide_eq_true h0] at hne;exact absurd rfl hne
  ·rw [jb2,neg b h0,jiS,jk0];refine ⟨_, ?_,VR.int.2 rfl⟩;simp [Go.binOp,Op.shift,h0]
 all_goals (have hk:k=k':=by simpa [jez] using hb)
 all_goals subst hk
 case add=>exact ⟨.int k (k.wrap (a+b)),by simp [Go.binOp,Op.intArith],VR.int.2 (by rw [jc5];rfl)⟩
 case sub=>exact ⟨.int k (k.wrap (a - b)),by simp [Go.binOp,Op.intArith],VR.int.2 (by rw [jc5];rfl)⟩
 case mul=>exact ⟨.int k (k.wrap (a*b)),by simp [Go.binOp,Op.intArith],VR.int.2 (by rw [jc5];rfl)⟩
 case quo=>
  have h2:jhA .quo k a b=(bif jft b 0 then .any else .int k (wrp k (Int.tdiv a b))):=rfl;rw [h2] at hne ⊢;by_cases h0:b=0
  ·rw [jbS,decide_eq_true h0] at hne;exact absurd rfl hne
  ·rw [jbS,decide_eq_false h0,jc5];exact ⟨_,by simp [Go.binOp,Op.intDiv,h0],VR.int.2 rfl⟩
 case rem=>
  have h2:jhA .rem k a b=(bif jft b 0 then .any else .int k (Int.tmod a b)):=rfl;rw [h2] at hne ⊢;by_cases h0:b=0
  ·rw [jbS,decide_eq_true h0] at hne;exact absurd rfl hne
  ·rw [jbS,decide_eq_false h0];exact ⟨_,by simp [Go.binOp,Op.intDiv,h0],VR.int.2 rfl⟩
 case and=>exact ⟨.int k (k.wrap (BitVec.ofInt k.bits a &&& BitVec.ofInt k.bits b).toNat),by simp only [Go.binOp,ne_eq,not_true_eq_false,if_false,Op.intBits];rfl,VR.int.2 (by rw [jc5,BitVec.toNat_and];rfl)⟩
 case or=>exact ⟨.int k (k.wrap (BitVec.ofInt k.bits a ||| BitVec.ofInt k.bits b).toNat),by simp only [Go.binOp,ne_eq,not_true_eq_false,if_false,Op.intBits];rfl,VR.int.2 (by rw [jc5,BitVec.toNat_or];rfl)⟩
 case xor=>exact ⟨.int k (k.wrap (BitVec.ofInt k.bits a^^^BitVec.ofInt k.bits b).toNat),by simp only [Go.binOp,ne_eq,not_true_eq_false,if_false,Op.intBits];rfl,VR.int.2 (by rw [jc5,BitVec.toNat_xor];rfl)⟩
 case andNot=>exact absurd rfl hne
 case eql=>exact ⟨.bool (decide (a=b)),by simp [Go.binOp,Op.intCmp,bne];rfl,VR.bool.2 (by congr 1;show _=jft a b;rw [jbS])⟩
 case neq=>exact ⟨.bool (!decide (a=b)),by simp [Go.binOp,Op.intCmp,bne];rfl,VR.bool.2 (by congr 1;show _= !jft a b;rw [jbS])⟩
 case lss=>exact ⟨.bool (decide (a < b)),by simp [Go.binOp,Op.intCmp,bne],VR.bool.2 (by congr 1;show _=jbA a b;rw [jb2])⟩
 case leq=>exact ⟨.bool (decide (a≤b)),by simp [Go.binOp,Op.intCmp,bne],VR.bool.2 (by congr 1;show _= !jbA b a;rw [jb2,←decide_not];congr 1;simp)⟩
 case gtr=>exact ⟨.bool (decide (b < a)),by simp [Go.binOp,Op.intCmp,bne],VR.bool.2 (by congr 1;show _=jbA b a;rw [jb2])⟩
 case geq=>exact ⟨.bool (decide (b≤a)),by simp [Go.binOp,Op.intCmp,bne],VR.bool.2 (by congr 1;show _= !jbA a b;rw [jb2,←decide_not];congr 1;simp)⟩

theorem jbp (s:List UInt8):(ByteArray.mk ⟨s⟩).size=s.length:=rfl
theorem jaI (s:List UInt8):(ByteArray.mk ⟨s⟩).toList=s:=by rw [ByteArray.toList_eq]
theorem jhl (a b:List UInt8):(ByteArray.mk ⟨a⟩)++(ByteArray.mk ⟨b⟩)=ByteArray.mk ⟨a++b⟩:=by
 apply ByteArray.ext;simp
theorem jum (a b:List UInt8):(a==b)=decide (a=b):=by rw [Bool.eq_iff_iff];simp
theorem jou {op:BinOp} {t:TypeId} {a b:List UInt8} {v:AV} (e:jvO op a (.str b)=v) (hv:v≠ .any):∃vc,(Go.binOp op t (.string ⟨⟨a⟩⟩) (.string ⟨⟨b⟩⟩)).run P w= .ok vc w∧VR ι v vc:=by
 have e':jsi op a b=v:=e;subst e';clear e;cases op
 case add=>
  have h2:jsi .add a b=(bif Nat.ble (jch a+jch b) 1000000 then .str (jq8 a b) else .any):=rfl;rw [h2] at hv ⊢;rw [jbw,jaS,jaS] at hv ⊢;by_cases hl:a.length+b.length≤1000000
  ·rw [decide_eq_true hl];refine ⟨_, ?_,VR.str.2 rfl⟩;have:=run_string_add_sum (P:=P) w ⟨⟨a⟩⟩ ⟨⟨b⟩⟩ (by rw [jbp,jbp];omega);rw [jhl] at this;simpa [Go.binOp,jeE] using this
  ·rw [decide_eq_false hl] at hv;exact absurd rfl hv
 case eql=>exact ⟨.bool (decide (a=b)),by simp [Go.binOp,Op.stringOp,jaI,jum],VR.bool.2 (by congr 1;show _=jbQ a b;rw [jbe])⟩
 case neq=>exact ⟨.bool (!decide (a=b)),by simp [Go.binOp,Op.stringOp,jaI,jum],VR.bool.2 (by congr 1;show _= !jbQ a b;rw [jbe])⟩
 case lss=>exact ⟨.bool (Op.bytesLess a b),by simp [Go.binOp,Op.stringOp,jaI],VR.bool.2 (by congr 1;show _=bytesLess a b;rw [jb4])⟩
 case leq=>exact ⟨.bool (Op.bytesLess a b || decide (a=b)),by simp [Go.binOp,Op.stringOp,jaI,jum],VR.bool.2 (by congr 1;show _=(bytesLess a b || jbQ a b);rw [jb4,jbe])⟩
 case gtr=>exact ⟨.bool (!(Op.bytesLess a b || decide (a=b))),by simp [Go.binOp,Op.stringOp,jaI,jum],VR.bool.2 (by congr 1;show _= !(bytesLess a b || jbQ a b);rw [jb4,jbe])⟩
 case geq=>exact ⟨.bool (!Op.bytesLess a b),by simp [Go.binOp,Op.stringOp,jaI],VR.bool.2 (by congr 1;show _= !bytesLess a b;rw [jb4])⟩
 all_goals exact absurd rfl hv
theorem jsj {t:TypeId} {td:TypeDesc} {x y:AV} {vx vy:Value} {r:Bool} (d:Nat) (hu:P.underlying t=some td) (hx:VR ι x vx) (hy:VR ι y vy) (e:eqS x y td=some r):
  (Op.equalIn (d+1) t vx vy).run P w= .ok r w:=by
 unfold eqS at e;split at e
 ·split at e
  ·cases y with
   | bool b=>
     have h1:=VR.bool.1 hx;have h2:=VR.bool.1 hy;subst h1;subst h2;have h3:=Option.some.inj (show some _=some r from e);subst h3
     rename_i a
     simp [Op.equalIn,run_underlying hu];cases a <;> cases b <;> rfl
   | _=>cases e
  ·cases e
 ·split at e
  ·cases y with
   | int k b=>
     have h1:=VR.int.1 hx;have h2:=VR.int.1 hy;subst h1;subst h2
     rename_i k' a
     have e':(bif decide (k'=k) then some (jft a b) else none)=some r:=e;by_cases hk:k'=k
     ·subst hk;simp only [decide_true,cond_true] at e';have h3:=Option.some.inj e';subst h3;simp [Op.equalIn,run_underlying hu,jbS];rfl
     ·rw [decide_eq_false hk] at e';cases e'
   | _=>cases e
  ·cases e
 ·split at e
  ·cases y with
   | str b=>
     have h1:=VR.str.1 hx;have h2:=VR.str.1 hy;subst h1;subst h2;have h3:=Option.some.inj (show some _=some r from e);subst h3
     rename_i a
     simp only [Op.equalIn,Sem.run_bind,run_underlying hu,Result.andThen_ok,beq_toListBytes,jaI,jbe,jum];rfl
   | _=>cases e
  ·cases e
 ·split at e
  ·have h1:=VR.nilp.1 hx;subst h1;cases y with
   | nilp=>have h2:=VR.nilp.1 hy;subst h2;have h3:=Option.some.inj (show some _=some r from e);subst h3;simp [Op.equalIn,run_underlying hu]
   | ptr id off=>obtain ⟨l,_,h2⟩:=VR.ptr.1 hy;subst h2;have h3:=Option.some.inj (show some _=some r from e);subst h3;simp [Op.equalIn,run_underlying hu]
   | _=>cases e
  ·obtain ⟨l,_,h1⟩:=VR.ptr.1 hx;subst h1;cases y with
   | nilp=>have h2:=VR.nilp.1 hy;subst h2;have h3:=Option.some.inj (show some _=some r from e);subst h3;simp [Op.equalIn,run_underlying hu]
   | _=>cases e
  ·cases e
 ·split at e
  ·have h1:=VR.nils.1 hx;subst h1;cases y with
   | nils=>have h2:=VR.nils.1 hy;subst h2;have h3:=Option.some.inj (show some _=some r from e);subst h3;simp [Op.equalIn,run_underlying hu]
   | slc id off len cap=>obtain ⟨l,x,c,_,h2,_⟩:=VR.slc.1 hy;subst h2;have h3:=Option.some.inj (show some _=some r from e);subst h3;simp [Op.equalIn,run_underlying hu]
   | _=>cases e
  ·obtain ⟨l,x,c,_,h1,_⟩:=VR.slc.1 hx;subst h1;cases y with
   | nils=>have h2:=VR.nils.1 hy;subst h2;have h3:=Option.some.inj (show some _=some r from e);subst h3;simp [Op.equalIn,run_underlying hu]
   | _=>cases e
  ·cases e
 ·split at e
  ·have h1:=VR.nilf.1 hx;subst h1;cases y with
   | nilf=>have h2:=VR.nilf.1 hy;subst h2;have h3:=Option.some.inj (show some _=some r from e);subst h3;simp [Op.equalIn,run_underlying hu]
   | fn f cs=>obtain ⟨l,h2,_⟩:=VR.fn.1 hy;subst h2;have h3:=Option.some.inj (show some _=some r from e);subst h3;simp [Op.equalIn,run_underlying hu]
   | _=>cases e
  ·obtain ⟨l,h1,_⟩:=VR.fn.1 hx;subst h1;cases y with
   | nilf=>have h2:=VR.nilf.1 hy;subst h2;have h3:=Option.some.inj (show some _=some r from e);subst h3;simp [Op.equalIn,run_underlying hu]
   | _=>cases e
  ·cases e
 ·split at e
  ·have h1:=VR.nili.1 hx;subst h1;cases y with
   | nili=>have h2:=VR.nili.1 hy;subst h2;have h3:=Option.some.inj (show some _=some r from e);subst h3;simp [Op.equalIn,run_underlying hu]
   | _=>cases e
  ·cases e
 ·cases e
end
end Go.Proofs.YtpkcjfpgemdfdaaGreatDoor.Ax
namespace Go.Proofs.YtpkcjfpgemdfdaaGreatDoor.Ax
open Go Go.RowKit
set_option linter.unusedSimpArgs false
set_option linter.unusedVariables false
section
variable {P:Program} {w:World} {ι:Emb} {o:Oper} {tm:Tm} {h h':Hp} {v:AV}
def jvN (P:Program) (w:World) (ι:Emb) (n:Nat) (k:TypeId→AV→AV→Option Bool):Prop:=
 ∀t x y vx vy r,VR ι x vx→VR ι y vy→k t x y=some r→∀d,n≤d→(Op.equalIn d t vx vy).run P w= .ok r w
theorem jnG {n:Nat} {k:TypeId→AV→AV→Option Bool} (hk:jvN P w ι n k) {xs ys:List AV} {vx vy:List Value} (hx:VRs ι xs vx) (hy:VRs ι ys vy) {d:Nat} (hd:n≤d):
  ∀(l:List Field) (r:Bool),eqF k P xs ys l=some r→(Op.eqFields d vx.toArray vy.toArray l).run P w= .ok r w
 | [],r,e=>by
   have:=Option.some.inj (show some true=some r from e);subst this;simp [Op.eqFields]
 | f::l,r,e=>by
   have e' : (bif f.name != "_" then eqK (eqF k P xs ys l) (eq2 (k f.type) (jir P f.type xs f.offset) (jir P f.type ys f.offset)) else none) = some r := e
   cases hn : (f.name != "_") with
   | false=>rw [hn] at e';cases e'
   | true=>
     rw [hn] at e'
     have hn' : f.name ≠ "_" := by simpa using hn
     cases h1:jir P f.type xs f.offset with
     | none=>rw [h1] at e';cases e'
     | some a=>cases h2:jir P f.type ys f.offset with
       | none=>rw [h1,h2] at e';cases e'
       | some b=>
         rw [h1,h2] at e';obtain ⟨va,p1,q1⟩:=je7 (P:=P) (w:=w) hx h1;obtain ⟨vb,p2,q2⟩:=je7 (P:=P) (w:=w) hy h2;cases h3:k f.type a b with
         | none=>
           have e2:eqK (eqF k P xs ys l) (k f.type a b)=some r:=e';rw [h3] at e2;cases e2
         | some r1=>
           have e2:eqK (eqF k P xs ys l) (k f.type a b)=some r:=e';rw [h3] at e2;have p3:=hk f.type a b va vb r1 q1 q2 h3 d hd;cases r1 with
           | true=>
             have p4:=jnG hk hx hy hd l r e2;simp [Op.eqFields,hn',p1,p2,p3,p4]
           | false=>
             have:=Option.some.inj (show some false=some r from e2);subst this;simp [Op.eqFields,hn',p1,p2,p3]
theorem jm8:∀n,jvN P w ι n (eqT P n)
 | 0=>fun t x y vx vy r hx hy e=>by cases e
 | n+1=>fun t x y vx vy r hx hy e d hd=>by
   have ih:=jm8 n;obtain ⟨d,rfl⟩:∃d',d=d'+1:=⟨d - 1,by omega⟩;have e':jvh P (eqT P n) t x y=some r:=e
   have scal:eqD x y (P.underlying t)=some r→(Op.equalIn (d+1) t vx vy).run P w= .ok r w:=by
    intro e2;cases hu:P.underlying t with
    | none=>rw [hu] at e2;cases e2
    | some td=>rw [hu] at e2;exact jsj d hu hx hy e2
   cases x with
   | agg xs=>
     have e2:eqA (eqT P n) P t xs y=some r:=e';cases y with
     | agg ys=>
       have e3:(match jin (P.underlying t) with|some fs=>bif P.stoodInHeld t then none else eqF (eqT P n) P xs ys fs.toList|none=>none)=some r:=e2;split at e3
       ·rename_i fs hfs
        cases hs:P.stoodInHeld t with
        | true=>rw [hs] at e3;cases e3
        | false=>
          rw [hs] at e3
          have hu:P.underlying t=some (.struct fs):=by
           unfold jin at hfs;split at hfs
           ·rename_i gs hg;rw [hg,Option.some.inj hfs]
           ·cases hfs
          obtain ⟨vxs,rfl,hxs⟩:=VR.agg.1 hx;obtain ⟨vys,rfl,hys⟩:=VR.agg.1 hy;have hf:P.fieldsOf t=fs:=by simp [Program.fieldsOf,hu]
          rw [run_equalIn_struct w d t _ _ (by rw [hf];exact hu) hs,hf];exact jnG ih hxs hys (by omega) _ _ e3
       ·cases e3
     | _=>cases e2
   | _=>exact scal e'
theorem jsW {op:BinOp} {r:Option Bool} {v:AV} (e:juT op r=v) (hv:v≠ .any):∃b,r=some b∧((op= .eql∧v= .bool b)∨(op= .neq∧v= .bool (!b))):=by
 cases r with
 | none=>exact absurd e.symm hv
 | some b=>
   refine ⟨b,rfl, ?_⟩;cases op <;> first|(exact absurd e.symm hv)|(exact .inl ⟨rfl,e.symm⟩)|(exact .inr ⟨rfl,e.symm⟩)
theorem jup {op:BinOp} {t:TypeId} {x y:AV} {vx vy:Value} {v:AV} (hx:VR ι x vx) (hy:VR ι y vy) (hn:∀k a,x≠ .int k a) (hs:∀a,x≠ .str a) (e:juT op (eqT P 16 t x y)=v) (hv:v≠ .any):
  ∃vc,(Go.binOp op t vx vy).run P w= .ok vc w∧VR ι v vc:=by
 obtain ⟨b,hb,hc⟩:=jsW e hv;have hr:=jm8 (P:=P) (w:=w) (ι:=ι) 16 t x y vx vy b hx hy hb Op.maxDepth (by decide);have hq:(Op.equal t vx vy).run P w= .ok b w:=hr
 have main:∀op:BinOp,op= .eql∨op= .neq→(Go.binOp op t vx vy).run P w=(do let r ←Op.equal t vx vy;pure (Value.bool (if op=BinOp.eql then r else !r))).run P w:=by
  intro op hop;cases x with
  | int k a=>exact absurd rfl (hn k a)
  | str a=>exact absurd rfl (hs a)
  | any=>
    have h2:jvh P (eqT P 15) t .any y=some b:=hb;have h3:eqD .any y (P.underlying t)=some b:=h2;unfold eqD at h3;split at h3
    ·unfold eqS at h3;split at h3 <;> cases h3
    ·cases h3
  | bool a=>have:=VR.bool.1 hx;subst this;rcases hop with rfl|rfl <;> cases vy <;> rfl
  | ptr id off=>obtain ⟨l,_,this⟩:=VR.ptr.1 hx;subst this;rcases hop with rfl|rfl <;> cases vy <;> rfl
  | nilp=>have:=VR.nilp.1 hx;subst this;rcases hop with rfl|rfl <;> cases vy <;> rfl
  | slc id off len cap=>obtain ⟨l,x,c,_,this,_⟩:=VR.slc.1 hx;subst this;rcases hop with rfl|rfl <;> cases vy <;> rfl
  | nils=>have:=VR.nils.1 hx;subst this;rcases hop with rfl|rfl <;> cases vy <;> rfl
  | agg vs=>obtain ⟨cs,this,_⟩:=VR.agg.1 hx;subst this;rcases hop with rfl|rfl <;> cases vy <;> rfl
  | tup vs=>obtain ⟨cs,this,_⟩:=VR.tup.1 hx;subst this;rcases hop with rfl|rfl <;> cases vy <;> rfl
  | fn f vs=>obtain ⟨cs,this,_⟩:=VR.fn.1 hx;subst this;rcases hop with rfl|rfl <;> cases vy <;> rfl
  | nilf=>have:=VR.nilf.1 hx;subst this;rcases hop with rfl|rfl <;> cases vy <;> rfl
  | nili=>have:=VR.nili.1 hx;subst this;rcases hop with rfl|rfl <;> cases vy <;> rfl
 rcases hc with ⟨rfl,rfl⟩|⟨rfl,rfl⟩
 ·exact ⟨.bool b,by rw [main _ (.inl rfl)];simp [hq],VR.bool.2 rfl⟩
 ·exact ⟨.bool (!b),by rw [main _ (.inr rfl)];simp [hq],VR.bool.2 rfl⟩
end
end Go.Proofs.YtpkcjfpgemdfdaaGreatDoor.Ax
namespace Go.Proofs.YtpkcjfpgemdfdaaGreatDoor.Ax
open Go Go.RowKit
set_option linter.unusedSimpArgs false
set_option linter.unusedVariables false
section
variable {P:Program} {w:World} {ι:Emb} {o:Oper} {tm:Tm} {h h':Hp} {v:AV}
theorem jnI {op:BinOp} {t:TypeId} {x y:AV} {vx vy:Value} (hx:VR ι x vx) (hy:VR ι y vy) (e:jkO P op t x y=v) (hv:v≠ .any):∃vc,(Go.binOp op t vx vy).run P w= .ok vc w∧VR ι v vc:=by
 unfold jkO at e;split at e
 ·rename_i k a
  have:=VR.int.1 hx;subst this;cases y with
  | int k' b=>have:=VR.int.1 hy;subst this;exact jpp e hv
  | _=>exact absurd e.symm hv
 ·rename_i a
  have:=VR.str.1 hx;subst this;cases y with
  | str b=>have:=VR.str.1 hy;subst this;exact jou e hv
  | _=>exact absurd e.symm hv
 ·rename_i h1 h2
  exact jup hx hy h1 h2 e hv
theorem jnO {op:BinOp} {t:TypeId} {x y:Operand} {a b:AV} {va vb:Value} (ha:VR ι a va) (hb:VR ι b vb) (hg:gOk P t x y a=true):(eqGuard op t x y va vb).run P w= .ok () w:=by
 cases op <;> try rfl
 all_goals
  cases a with
  | nili=>
    have:=VR.nili.1 ha;subst this;have hg':(isC x || isC y)=true:=hg;cases vb <;> try rfl
    cases x <;> cases y <;> first|rfl|(cases hg')
  | agg vs=>
    obtain ⟨cs,this,_⟩:=VR.agg.1 ha;subst this;have hg':(!P.eqGuardType P.depth t)=true:=hg;cases vb <;> try rfl
    simp at hg';simp [eqGuard,hg']
  | int k n=>have:=VR.int.1 ha;subst this;rfl
  | bool c=>have:=VR.bool.1 ha;subst this;rfl
  | str s=>have:=VR.str.1 ha;subst this;rfl
  | ptr id off=>obtain ⟨l,_,this⟩:=VR.ptr.1 ha;subst this;rfl
  | nilp=>have:=VR.nilp.1 ha;subst this;rfl
  | slc id off len cap=>obtain ⟨l,x,c,_,this,_⟩:=VR.slc.1 ha;subst this;rfl
  | nils=>have:=VR.nils.1 ha;subst this;rfl
  | tup vs=>obtain ⟨cs,this,_⟩:=VR.tup.1 ha;subst this;rfl
  | fn f vs=>obtain ⟨cs,this,_⟩:=VR.fn.1 ha;subst this;rfl
  | nilf=>have:=VR.nilf.1 ha;subst this;rfl
  | any=>cases hg
theorem jrn {op:BinOp} {t u:TypeId} {x y:Operand} (hop:o.op= .binOp op t x y u) (e:juY op t x y u P tm h= .val v h') (hv:v≠ .any):OpOk P o tm h h' v [] []:=by
 have e':(bif gOk P t x y (opd tm x) then okv h (jkO P op t (opd tm x) (opd tm y)) else .bad)= .val v h':=e;cases hg:gOk P t x y (opd tm x) with
 | false=>rw [hg] at e';cases e'
 | true=>
   rw [hg] at e';obtain ⟨hb,rfl⟩:=jmg (show okv h (jkO P op t (opd tm x) (opd tm y))= .val v h' from e');refine OpOk.pure fun ι H w a hW ho hA=> ?_
   have hx:=ho x (by simp [hop,Op.operands]);have hy:=ho y (by simp [hop,Op.operands]);obtain ⟨vc,h1,h2⟩:=jnI (w:=w) hx hy hb hv;exact ⟨vc,by simp [execOp,hop,jnO (op:=op) hx hy hg,h1],h2⟩
end
end Go.Proofs.YtpkcjfpgemdfdaaGreatDoor.Ax
namespace Go.Proofs.YtpkcjfpgemdfdaaGreatDoor.Ax
open Go Go.RowKit
set_option linter.unusedSimpArgs false
set_option linter.unusedVariables false
section
variable {P:Program} {w:World} {ι:Emb} {o:Oper} {tm:Tm} {h h':Hp} {v:AV}
theorem jnM {u:AV} (e:okv h u= .val v h'):v≠ .any:=by
 unfold okv at e;split at e
 ·cases e
 ·rename_i h1
  obtain ⟨a,b⟩:=val_inj e;subst a;intro h2;exact h1 h2
theorem juA {op:UnOp} {t:TypeId} {x:Operand} (hop:o.op= .unOp op t x) (e:oUn op t x P tm h= .val v h'):OpOk P o tm h h' v [] []:=by
 have e':okv h (juS op (opd tm x))= .val v h':=e;have hv:=jnM e';obtain ⟨hb,rfl⟩:=jmg e';refine OpOk.pure fun ι H w a hW ho hA=> ?_
 have hx:=ho x (by simp [hop,Op.operands]);unfold juS at hb;split at hb
 ·rename_i k n hp
  rw [hp] at hx;have hx':=VR.int.1 hx;split at hb
  ·subst hb;exact ⟨.int k (k.wrap (0 - n)),by simp [execOp,hop,hx',Op.unary,Op.intArith],VR.int.2 (by rw [jc5];rfl)⟩
  ·subst hb;exact ⟨.int k (k.wrap (BitVec.ofInt k.bits (if k.signed then -1 else k.max)^^^BitVec.ofInt k.bits n).toNat),by simp only [execOp,hop,hx',Op.unary,Op.intBits];rfl,VR.int.2 (by rw [jc5,BitVec.toNat_xor];rfl)⟩
  ·exact absurd hb.symm hv
 ·rename_i b hp
  rw [hp] at hx;have hx':=VR.bool.1 hx;split at hb
  ·subst hb;exact ⟨.bool (!b),by simp [execOp,hop,hx',Op.unary],VR.bool.2 rfl⟩
  ·exact absurd hb.symm hv
 ·exact absurd hb.symm hv
theorem joS {a:AV} {i:Nat} (e:jfD a=some i):∃k,a= .int k (Int.ofNat i):=by
 cases a with
 | int k n=>cases n with
   | ofNat m=>have:=Option.some.inj (show some m=some i from e);subst this;exact ⟨k,rfl⟩
   | negSucc m=>cases e
 | _=>cases e
theorem jbi {a:AV} {i:Nat} {u:Value} (e:jfD a=some i) (hx:VR ι a u):∃k,u= .int k (i:Int):=by
 obtain ⟨k,rfl⟩:=joS e;exact ⟨k,VR.int.1 hx⟩
theorem jaH {d:Option TypeDesc} {e:TypeId} (h:jaX d=some e):d=some (.slice e):=by
 unfold jaX at h;split at h
 ·rw [Option.some.inj h]
 ·cases h
theorem jfL {d:Option TypeDesc} {n:Nat} {e:TypeId} (h:jh0 d=some (n,e)):d=some (.array n e):=by
 unfold jh0 at h;split at h
 ·have:=Option.some.inj h;injection this with h1 h2;rw [h1,h2]
 ·cases h
theorem jnb {e id off len i:Nat} (h:juK P e id off len i=some v):i < len∧∃s,jg8 P e=some s∧v= .ptr id (off+i*s):=by
 unfold juK at h;rw [blt_eq] at h;by_cases hi:i < len
 ·rw [decide_eq_true hi] at h;simp only [cond_true] at h;split at h
  ·rename_i s hs;exact ⟨hi,s,hs,(Option.some.inj h).symm⟩
  ·cases h
 ·rw [decide_eq_false hi] at h;cases h
theorem jgM {t:TypeId} {x ix:Operand} (hop:o.op= .indexAddr t x ix) (e:jdH t x ix P tm h= .val v h'):OpOk P o tm h h' v [] []:=by
 unfold jdH at e;split at e
 ·rename_i i hi
  obtain ⟨e1,rfl⟩:=val?_eq e
  refine OpOk.pure fun ι H w a hW ho hA=> ?_
  have hx:=ho x (by simp [hop,Op.operands]);obtain ⟨k,hk⟩:=jbi hi (ho ix (by simp [hop,Op.operands]));unfold ixa at e1;split at e1
  ·rename_i id off hp
   rw [hp] at hx;obtain ⟨l,hl,hv⟩:=VR.ptr.1 hx;split at e1
   ·rename_i n el hn
    obtain ⟨h1,s,h2,rfl⟩:=jnb e1;have hu:=jfL hn;refine ⟨.pointer (some ⟨l.b,l.d+(off+i*s),none⟩), ?_,VR.ptr.2 ⟨l,hl,rfl⟩⟩;simp [execOp,hop,Instr.indexAt,hk,asIntOf,run_underlying hu,hv,Instr.sureAddr,h1,jaD h2,Addr.add_lit,Nat.add_assoc]
   ·cases e1
  ·rename_i id off len cap hp
   rw [hp] at hx;obtain ⟨l,y,c,hl,hv,hc,hcap⟩:=VR.slc.1 hx;split at e1
   ·rename_i el hn
    obtain ⟨h1,s,h2,rfl⟩:=jnb e1;have hu:=jaH hn;have hlc:len≤c:=by cases cap <;> simp [jog] at hcap <;> omega
    have hy:=hc (by omega);refine ⟨.pointer (some ⟨l.b,l.d+(off+i*s),none⟩), ?_,VR.ptr.2 ⟨l,hl,rfl⟩⟩;simp [execOp,hop,Instr.indexAt,hk,asIntOf,run_underlying hu,hv,h1,jaD h2,Addr.add_lit,hy,Nat.add_assoc]
   ·cases e1
  ·cases e1
 ·cases e
theorem jmh {t:TypeId} {x ix:Operand} (hop:o.op= .index t x ix) (e:jnQ t x ix P tm h= .val v h'):OpOk P o tm h h' v [] []:=by
 unfold jnQ at e;split at e
 ·rename_i i hi
  obtain ⟨e1,rfl⟩:=val?_eq e
  refine OpOk.pure fun ι H w a hW ho hA=> ?_
  have hx:=ho x (by simp [hop,Op.operands]);obtain ⟨k,hk⟩:=jbi hi (ho ix (by simp [hop,Op.operands]));unfold ixv at e1;split at e1
  ·rename_i cs hp
   rw [hp] at hx;obtain ⟨vals,hv,hvs⟩:=VR.agg.1 hx;split at e1
   ·rename_i n el hn
    rw [blt_eq] at e1;by_cases hin:i < n
    ·rw [decide_eq_true hin] at e1;simp only [cond_true] at e1;split at e1
     ·rename_i s hs
      obtain ⟨vc,h1,h2⟩:=je7 (P:=P) (w:=w) hvs e1;have hu:=jfL hn;refine ⟨vc, ?_,h2⟩;simp [execOp,hop,Instr.index,hk,asIntOf,run_underlying hu,hv,hin,jaD hs,h1]
     ·cases e1
    ·rw [decide_eq_false hin] at e1;cases e1
   ·cases e1
  ·rename_i s hp
   rw [hp] at hx;have hv:=VR.str.1 hx;split at e1
   rename_i hu
   split at e1
   ·rename_i b hb
    have:=Option.some.inj e1;subst this;rw [jcW] at hb;have hlt:=jao hb
    have hb':(ByteArray.mk ⟨s⟩)[i]? =some b:=by
     rw [getElem?_pos (ByteArray.mk ⟨s⟩) i (by rw [jbp];exact hlt)];rw [List.getElem?_eq_getElem hlt] at hb;exact congrArg some (Option.some.inj hb)
    refine ⟨.int .u8 (b.toNat:Int), ?_,VR.int.2 rfl⟩;simp [execOp,hop,Instr.index,hk,asIntOf,run_underlying hu,hv,hb']
   ·cases e1
   ·cases e1
  ·cases e1
 ·cases e
theorem jqj {fn:Fn} {first captured:Array Operand} (hop:o.op= .makeFunc fn first captured) (e:jsb fn first captured P tm h= .val v h'):OpOk P o tm h h' v [] []:=by
 unfold jsb at e;split at e
 ·rename_i f
  split at e
  ·rename_i hf
   obtain ⟨rfl,rfl⟩:=val_inj e;refine OpOk.pure fun ι H w a hW ho hA=> ?_
   have hf':first= #[]:=by
    apply Array.ext';simpa using hf
   refine ⟨.func (.func f) #[] (captured.map a.eval),by simp [execOp,hop,Instr.makeFunc,hf'],VR.fn.2 ⟨(captured.map a.eval).toList,by rw [Array.toArray_toList], ?_⟩⟩;rw [jc2];refine (VRs.iff _ _).2 ⟨by simp,fun j u vv hu hvv=> ?_⟩;simp only [List.getElem?_map,Array.toList_map] at hu hvv;cases hj:captured.toList[j]? with
   | none=>rw [hj] at hu;cases hu
   | some y=>
     rw [hj] at hu hvv;have h1:=Option.some.inj hu;have h2:=Option.some.inj hvv;subst h1;subst h2;exact ho y (by simp [hop,Op.operands,hf'];exact Array.mem_toList_iff.1 (List.mem_of_getElem? hj))
  ·cases e
 ·cases e
end
end Go.Proofs.YtpkcjfpgemdfdaaGreatDoor.Ax
namespace Go.Proofs.YtpkcjfpgemdfdaaGreatDoor.Ax
open Go Go.RowKit
set_option linter.unusedSimpArgs false
set_option linter.unusedVariables false
section
variable {P:Program} {w:World} {ι:Emb} {o:Oper} {tm:Tm} {h h':Hp} {v:AV}
theorem jpj {ih:Option (List UInt8)} {a:AV} {s:List UInt8} (e:jpF ih a=some s):∃n r,a= .int .u8 n∧ih=some r∧s=UInt8.ofNat n.toNat::r:=by
 unfold jpF at e;split at e
 ·obtain ⟨l,h1,h2⟩:=jd8 e;exact ⟨_,l,rfl,h1,h2⟩
 ·cases e
theorem jfM:∀(cs:List AV) (vals:List Value) (s:List UInt8),jj4 cs=some s→VRs ι cs vals→∃xs:List Int,xs.length=cs.length∧vals=xs.map (Value.int .u8)∧s=xs.map fun n=>UInt8.ofNat n.toNat
 | [],vals,s,e,h=>by
   have h1:=VRs.nil.1 h;have h2:=Option.some.inj (show some []=some s from e);subst h1;subst h2;exact ⟨[],rfl,rfl,rfl⟩
 | a::cs,vals,s,e,h=>by
   obtain ⟨n,r,rfl,hr,rfl⟩:=jpj (show jpF (jj4 cs) a=some s from e);obtain ⟨v,vs,rfl,h1,h2⟩:=VRs.cons.1 h;obtain ⟨xs,h3,rfl,rfl⟩:=jfM cs vs r hr h2;have h4:=VR.int.1 h1;subst h4;exact ⟨n::xs,by simp [h3],rfl,rfl⟩
theorem jhZ (xs:List Int):strOfNums xs=ByteArray.mk ⟨xs.map fun n=>UInt8.ofNat n.toNat⟩:=by
 simp [strOfNums]
theorem jrf {d:Option TypeDesc} (e:juJ P d=true):∃el,d=some (.slice el)∧P.underlying el=some (.int .u8):=by
 unfold juJ at e;split at e
 ·rename_i el
  split at e
  ·rename_i hu;exact ⟨el,rfl,hu⟩
  ·cases e
 ·cases e
theorem joR {src d:TypeId} {x:Operand} (hop:o.op= .convert src d x) (e:jrg src d x P tm h= .val v h'):OpOk P o tm h h' v (jaF (opd tm x)) []:=by
 unfold jrg at e;cases hs:P.underlying src with
 | none=>rw [hs] at e;cases e
 | some us=>
   rw [hs] at e;have e1:cv P src d h (opd tm x)= .val v h':=e;clear e
   have run:∀(a:Act) (w:World),(execOp a.eval o).run P w=((convert src d (a.eval x)).run P w).andThen fun v w=> .ok (.value v) w:=by
    intro a w;simp [execOp,hop]
   unfold cv at e1;split at e1
   ·rename_i id off len cap hp
    unfold jtx at e1;split at e1
    ·rename_i hd
     cases hu8:juJ P (P.underlying src) with
     | false=>rw [hu8] at e1;cases e1
     | true=>
       rw [hu8] at e1;simp only [cond_true] at e1;obtain ⟨el,h1,h2⟩:=jrf hu8;split at e1
       ·rename_i cs hcs
        split at e1
        ·rename_i s hb
         obtain ⟨rfl,rfl⟩:=val_inj e1;split at hcs
         ·rename_i bs hbs
          refine OpOk.pure fun ι H w a hW ho hA=> ?_
          have hx:=ho x (by simp [hop,Op.operands]);rw [hp] at hx hA;obtain ⟨l,y,c,hl,hv,hc,hcap⟩:=VR.slc.1 hx;have hR:=jcm hW (hA id (by simp [jaF])) hl hbs;obtain ⟨vals,g1,g2,g3⟩:=jco hR hcs;obtain ⟨xs,k1,rfl,rfl⟩:=jfM cs vals s hb g2;have hlen:xs.length=len:=by rw [←g1];simp
          have hlc:len≤c:=by cases cap <;> simp [jog] at hcap <;> omega
          refine ⟨_, ?_,VR.str.2 rfl⟩;rw [run,hv,run_convert_bytes_arg w src el h1 h2 l.b y len c xs hlen (fun i hi=> ?_) d hd,jhZ]
          ·rfl
          ·have hy:=hc (by omega);subst hy;refine g3 i _ ?_;rw [List.getElem?_map,List.getElem?_eq_getElem (by omega)];simp [List.getD_eq_getElem?_getD,List.getElem?_eq_getElem (show i < xs.length by omega)]
         ·cases hcs
        ·cases e1
       ·cases e1
    ·cases e1
   ·rename_i k n hp
    split at e1
    ·rename_i kd hd
     obtain ⟨rfl,rfl⟩:=val_inj e1;refine OpOk.pure fun ι H w a hW ho hA=> ?_
     have hx:=ho x (by simp [hop,Op.operands]);rw [hp] at hx;have hv:=VR.int.1 hx;refine ⟨.int kd (kd.wrap n), ?_,VR.int.2 (by rw [jc5])⟩;rw [run,hv];cases us <;> simp [convert,run_underlying hs,run_underlying hd,Conv.intToInt]
    ·cases e1
   ·rename_i s hp
    unfold ju6 at e1;split at e1
    ·rename_i hd
     obtain ⟨rfl,rfl⟩:=val_inj e1;refine OpOk.pure fun ι H w a hW ho hA=> ?_
     have hx:=ho x (by simp [hop,Op.operands]);rw [hp] at hx;have hv:=VR.str.1 hx;refine ⟨.string ⟨⟨s⟩⟩, ?_,VR.str.2 rfl⟩;rw [run,hv];cases us <;> simp [convert,run_underlying hs,run_underlying hd]
    ·rename_i el hd
     split at e1
     ·rename_i he
      obtain ⟨rfl,rfl⟩:=val_inj e1;refine OpOk.alloc fun ι H w a hW ho hA hn=> ?_
      have hx:=ho x (by simp [hop,Op.operands]);rw [hp] at hx;have hv:=VR.str.1 hx
      have hN:NewW w (Lib.bytesWorld w el ⟨⟨s⟩⟩) (Lib.bytesCells w el ⟨⟨s⟩⟩) el ((Lib.bytesCells w el ⟨⟨s⟩⟩).size,(Lib.bytesCells w el ⟨⟨s⟩⟩).size+1):=
       ⟨rfl,rfl,rfl,Lib.bytesWorld_size _ _ _,fun B hB=>Lib.bytesWorld_at_old _ _ _ B hB,Lib.bytesWorld_at_new _ _ _⟩
      have hsz:(Lib.bytesCells w el ⟨⟨s⟩⟩).size=s.length+(grownCap w s.length 0 el - s.length):=by simp [Lib.bytesCells,jbp]
      have hge:=grownCap_ge w s.length 0 el
      have hVR:VR (jfl ι h.nx ⟨w.heap.size,0,(Lib.bytesCells w el ⟨⟨s⟩⟩).size⟩) (.slc h.nx 0 (jch s) (.r 1)) (.slice (some ⟨w.heap.size,0,none⟩) s.length (grownCap w s.length 0 el)):=by
       rw [jaS];refine VR.slc.2 ⟨_,0,grownCap w s.length 0 el,jaO,rfl,fun _=>rfl,hge,fun _=> ?_⟩;show 0+grownCap w s.length 0 el*1≤(Lib.bytesCells w el ⟨⟨s⟩⟩).size
       rw [hsz];omega
      refine ⟨_,_,_,_,_, ?_,hN,jbC hN.new (by rw [jc2,List.length_map,hsz];omega) (fun j b u hb hu=> ?_),hVR⟩
      ·rw [run,hv,Lib.run_convert_string_bytes w src d el ⟨⟨s⟩⟩ hs hd he];rfl
      ·rw [jc2,List.getElem?_map] at hb;cases hj:s[j]? with
       | none=>rw [hj] at hb;cases hb
       | some q=>
         rw [hj] at hb;have h1:=Option.some.inj hb;subst h1;have hlt:=jao hj
         have h2:(Lib.bytesCells w el ⟨⟨s⟩⟩)[j]? =some (.int .u8 (q.toNat:Int)):=by
          simp [Lib.bytesCells,Array.getElem?_append,hlt,hj];rw [List.getElem?_eq_getElem hlt] at hj;rw [Option.some.inj hj]
         have h3:=Option.some.inj (h2.symm.trans hu);subst h3;exact VR.int.2 rfl
     ·cases e1
    ·cases e1
   ·cases e1
end
end Go.Proofs.YtpkcjfpgemdfdaaGreatDoor.Ax
namespace Go.Proofs.YtpkcjfpgemdfdaaGreatDoor.Ax
open Go Go.RowKit
set_option linter.unusedSimpArgs false
set_option linter.unusedVariables false
section
variable {P:Program} {w:World} {ι:Emb} {o:Oper} {tm:Tm} {h h':Hp} {v:AV}
theorem jeL (h:Hp) (id:Nat) (b:Blk) (k:Nat):(jfo h id b).h.get k=if k=id then some b else h.h.get k:=Tr.get_set _ _ _ _
theorem jct (h:Hp) (id:Nat) (b:Blk):(jfo h id b).wm≤id∧(jfo h id b).wm≤h.wm:=by
 show (bif Nat.ble h.wm id then h.wm else id)≤id∧(bif Nat.ble h.wm id then h.wm else id)≤h.wm
 rw [jbw];by_cases hc:h.wm≤id
 ·rw [decide_eq_true hc];exact ⟨hc,Nat.le_refl _⟩
 ·rw [decide_eq_false hc];exact ⟨Nat.le_refl _,by simp only [cond_false];omega⟩
theorem OpOk.store {id off:Nat} {cs cs' vs:List AV} {l0:List Nat} (hid:id∈l0) (hc:h.h.get id=some (.cells cs)) (hs:jfT cs off vs=some cs')
  (hr:∀(ι:Emb) (H:Hf) (w:World) (a:Act),WR ι H w→Opr ι tm a o→jma l0 h H→Bd h→∃l vals vc,ι id=some l∧VRs ι vs vals∧VR ι v vc∧((execOp a.eval o).run P w= .ok (.value vc) (w.setCells l.b (l.d+off) vals)∨((execOp a.eval o).run P w= .ok .skip (w.setCells l.b (l.d+off) vals)∧vc=undef))):
  OpOk P o tm h (jfo h id (.cells cs')) v l0 [id]:=by
 have hnx:(jfo h id (.cells cs')).nx=h.nx:=rfl;refine ⟨Nat.le_of_eq hnx.symm,(jct _ _ _).2,fun hb k b hk=> ?_,fun k hk=> .inl (by rw [List.mem_singleton.1 hk];exact (jct _ _ _).1),fun k h1 h2=> ?_,fun ι H H' w a hW hf ho hA hB h1 h2=> ?_⟩
 ·rw [jeL] at hk;by_cases e:k=id
  ·subst e;exact hb k _ hc
  ·rw [if_neg e] at hk;exact hb k b hk
 ·rw [jeL,if_neg (by simpa using h1)]
 ·obtain ⟨l,vals,vc,hl,hv,hvc,he⟩:=hr ι H w a hW ho hA hB
  have hP:jer ι H' h.nx h.nx (jfo h id (.cells cs')).wm w (.tup []) undef (w.setCells l.b (l.d+off) vals):=by
   refine jer.store hW hl (hA id hid _ hc) hs hv (jct _ _ _).1 (hB id _ hc) ?_ (fun k hk=>h2 k (by simpa using hk) (by rw [hnx];omega));rw [h1 id (.inl (by simp)),jeL,if_pos rfl]
  obtain ⟨ι',p1,p2,p3,p4⟩:=hP;have hle:Le ι ι':=p1.le (fun k h3 h4=>by omega);rcases he with he|⟨he,rfl⟩
  ·rw [he];exact ⟨ι',p1,VR.mono hle _ _ hvc,p3,p4⟩
  ·rw [he];exact ⟨ι',p1,VR.mono hle _ _ hvc,p3,p4⟩
theorem jnf {t:TypeId} {x y:Operand} (hop:o.op= .store t x y) (e:jqU t x y P tm h= .val v h'):OpOk P o tm h h' v (jaF (opd tm x)) (jaF (opd tm x)):=by
 have e1:jv9 P t h (cellsOf (opd tm y)) (opd tm x)= .val v h':=e;unfold jv9 at e1;split at e1
 ·rename_i id off hp
  split at e1
  ·rename_i cs hcs
   split at e1
   ·rename_i s hs
    rw [jbh] at e1;cases hb:(decide (jch (cellsOf (opd tm y))=s) && jeH (cellsOf (opd tm y))) with
    | false=>rw [hb] at e1;cases e1
    | true=>
      rw [hb] at e1;simp only [Bool.and_eq_true,decide_eq_true_eq] at hb;have e2:jvt h id (jiN off cs (cellsOf (opd tm y)))= .val v h':=e1;cases h3:jiN off cs (cellsOf (opd tm y)) with
      | none=>rw [h3] at e2;cases e2
      | some cs'=>
        rw [h3] at e2;obtain ⟨rfl,rfl⟩:=val_inj (show Ro.val (.tup []) (jfo h id (.cells cs'))= .val v h' from e2);rw [hp];refine OpOk.store (by simp [jaF]) (ji1 hcs) h3 fun ι H w a hW ho hA hB=> ?_
        have hx:=ho x (by simp [hop,Op.operands]);have hy:=ho y (by simp [hop,Op.operands]);rw [hp] at hx;obtain ⟨l,hl,hv⟩:=VR.ptr.1 hx;have hne:opd tm y≠ .any:=fun e=>by rw [e] at hb;cases hb.2
        have hcells:=VR.cells hy (fun e=>absurd e hne);refine ⟨l,_,undef,hl,hcells,VR.tup.2 ⟨[],rfl,VRs.nil.2 rfl⟩, .inr ⟨?_,rfl⟩⟩;obtain ⟨c1,c2⟩:=(VRs.iff _ _).1 hcells;have hsz:(a.eval y).cells.size=s:=by rw [←hb.1,jaS,c1];simp
        obtain ⟨⟨r1,r2⟩,r3,r4⟩:=hW.blk id l _ hl (hA id (by simp [jaF]) _ (ji1 hcs));obtain ⟨s1,s2,s3⟩:=jdb _ _ _ _ h3
        have hst:=run_storeCells_cells (P:=P) l.b (l.d+off) (a.eval y).cells.toList 0 w (fun j hj=>by
         have hj':j < (cellsOf (opd tm y)).length:=by rw [c1];exact hj
         have:=s2 (by intro e;rw [e] at hj';simp at hj');have:=r3 (off+j) (by omega)
         rwa [←Nat.add_assoc] at this) (fun j hj=>r4 _) (VRs.one hcells hb.2)
        simp [execOp,hop,Instr.storeAt,Instr.sureAddr,hv,storeVar,jaD hs,hsz,hst]
   ·cases e1
  ·cases e1
 ·cases e1
theorem new?_eq {len:Nat} {cap:Cap} {oc:Option (List AV)} (e:new? h len cap oc= .val v h'):∃cs,oc=some cs∧v= .slc h.nx 0 len cap∧h'=jau h (.cells cs):=by
 cases oc with
 | none=>cases e
 | some cs=>obtain ⟨a,b⟩:=val_inj (show Ro.val (.slc h.nx 0 len cap) (jau h (.cells cs))= .val v h' from e);exact ⟨cs,rfl,a.symm,b.symm⟩
theorem juf (z:List AV):∀(n j:Nat) (a:AV),(rep z n)[j]? =some a→z[j % z.length]? =some a:=by
 intro n
 induction n with
 | zero=>intro j a h;have:(rep z 0)=[]:=rfl;rw [this] at h;simp at h
 | succ n ih=>
   intro j a h;have:rep z (n+1)=jq8 z (rep z n):=rfl;rw [this,jeE,List.getElem?_append] at h;by_cases hj:j < z.length
   ·rw [if_pos hj] at h;rwa [Nat.mod_eq_of_lt hj]
   ·rw [if_neg hj] at h;have:=ih _ a h;rwa [Nat.mod_eq_sub_mod (Nat.le_of_not_lt hj)]
theorem jlP (zv:Array Value) (n:Nat) (z:List AV) (hz:VRs ι z zv.toList) (c j:Nat) (b:AV) (u:Value) (hb:(rep z c)[j]? =some b) (hu:(madeCells zv n)[j]? =some u):VR ι b u:=by
 obtain ⟨h1,h2⟩:=(VRs.iff _ _).1 hz;have h3:=juf z c j b hb;have hlt:=jao h3;have hsz:zv.size=z.length:=by rw [h1];simp
 have h4:u=zv[j % z.length]! :=by
  rw [madeCells,Array.getElem?_map,Array.getElem?_range] at hu;split at hu
  ·rw [←hsz];exact (Option.some.inj hu).symm
  ·cases hu
 refine h2 _ b u h3 ?_;rw [h4];simp [getElem!_pos,hsz,hlt]
theorem jgB {t:TypeId} {x y:Operand} (hop:o.op= .makeSlice t x y) (e:jdF t x y P tm h= .val v h'):OpOk P o tm h h' v [] []:=by
 unfold jdF at e;split at e
 ·rename_i el hel
  split at e
  ·rename_i l hl
   split at e
   ·rename_i c hc
    split at e
    ·rename_i z hzz
     split at e
     ·rename_i i hi
      simp only [jbw,jbh] at e;cases hb:(decide (l≤c) && decide (c≤65536) && decide (i.bytes≤65536) && decide (jch z=i.size)) with
      | false=>rw [hb] at e;cases e
      | true=>
        rw [hb] at e;simp only [Bool.and_eq_true,decide_eq_true_eq] at hb;obtain ⟨cs,h1,rfl,rfl⟩:=new?_eq (show new? h l (.k c) (some (rep z c))= .val v h' from e)
        have:=Option.some.inj h1;subst this;obtain ⟨i',zv,hi',hzv,rfl⟩:=jd3 hzz;rw [hi] at hi';have:=Option.some.inj hi';subst this;have hu:=jaH hel;refine OpOk.alloc fun ι H w a hW ho hA hn=> ?_
        obtain ⟨k1,hx⟩:=jbi hl (ho x (by simp [hop,Op.operands]));obtain ⟨k2,hy⟩:=jbi hc (ho y (by simp [hop,Op.operands]));have hm:=Nat.mul_le_mul hb.1.1.2 hb.1.2;have hrun:=run_make (P:=P) w t el i zv hu hi hzv k1 k2 (l:Int) (c:Int) (by omega) (by omega) (by rw [←Int.natCast_mul,Nat.mul_comm];omega) (by omega);rw [Int.toNat_natCast,Int.toNat_natCast] at hrun;have hN:=NewW.alloc w (madeCells zv.cells (c*i.size)) el;have hzc:=jbN (jfl ι h.nx ⟨w.heap.size,0,(madeCells zv.cells (c*i.size)).size⟩) zv;have hmade:(madeCells zv.cells (c*i.size)).size=c*i.size:=by simp [madeCells]
        refine ⟨.slice (some ⟨w.heap.size,0,none⟩) l c,madeCells zv.cells (c*i.size),el,(0,0),_, ?_,hN,⟨jbC hN.new ?_ (fun j b u hb hu=>jlP _ _ _ hzc _ j b u hb hu),jdl hN.new,jbF hN.new⟩,VR.slc.2 ⟨_,0,c,jaO,rfl,fun _=>rfl,rfl,hb.1.1.1⟩⟩
        ·simp [execOp,hop,hx,hy,hrun]
        ·rw [rep_len,←jaS,hb.2,hmade];exact Nat.le_refl _
     ·cases e
    ·cases e
   ·cases e
  ·cases e
 ·cases e
end
end Go.Proofs.YtpkcjfpgemdfdaaGreatDoor.Ax
namespace Go.Proofs.YtpkcjfpgemdfdaaGreatDoor.Ax
open Go Go.RowKit
set_option linter.unusedSimpArgs false
set_option linter.unusedVariables false
section
variable {P:Program} {w:World} {ι:Emb} {o:Oper} {tm:Tm} {h h':Hp} {v:AV}
theorem jdg {u:Value} {k:IntKind} {i y:Nat} {cd:BoundsCode} (hu:u= .int k (i:Int)) (hi:i≤y):(Instr.sliceBound u y cd).run P w= .ok i w:=by
 subst hu;have:(0:Int)≤(i:Int)∧(i:Int)≤(y:Int):=⟨by omega,by omega⟩;simp [Instr.sliceBound,asIntOf,this]
theorem jbH {a:Act} {lo hi:Option Operand} {len cap l hh:Nat} {b:Bool} (ho:∀x,(lo=some x∨hi=some x)→VR ι (opd tm x) (a.eval x)) (h1:jcK tm hi len=some hh) (h2:jcK tm lo 0=some l) (h3:l≤hh) (h4:hh≤cap):
  (Instr.sliceBounds b len cap (lo.map a.eval) (hi.map a.eval) none).run P w= .ok (l,hh,cap) w:=by
 cases hi with
 | none=>
   have:=Option.some.inj (show some len=some hh from h1);subst this;cases lo with
   | none=>
     have:=Option.some.inj (show some 0=some l from h2);subst this;simp [Instr.sliceBounds]
   | some y=>
     obtain ⟨k,hk⟩:=jbi (show jfD (opd tm y)=some l from h2) (ho y (.inl rfl));simp [Instr.sliceBounds,jdg (P:=P) (w:=w) (cd:= .sliceB) hk h3]
 | some x=>
   obtain ⟨k,hk⟩:=jbi (show jfD (opd tm x)=some hh from h1) (ho x (.inr rfl));cases lo with
   | none=>
     have:=Option.some.inj (show some 0=some l from h2);subst this;simp [Instr.sliceBounds,jdg (P:=P) (w:=w) (cd:=if b then .sliceAcap else .sliceAlen) hk h4]
   | some y=>
     obtain ⟨k2,hk2⟩:=jbi (show jfD (opd tm y)=some l from h2) (ho y (.inl rfl));simp [Instr.sliceBounds,jdg (P:=P) (w:=w) (cd:=if b then .sliceAcap else .sliceAlen) hk h4,jdg (P:=P) (w:=w) (cd:= .sliceB) hk2 h3]
theorem ju1 {a l hh c id z:Nat} {cap:Cap} (e:cut a l hh c id z cap=some v):l≤hh∧hh≤c∧jfP z cap=true∧v= .slc id (a+l*z) (hh - l) (jkb l cap):=by
 unfold cut at e;simp only [jbw] at e;cases hb:(decide (l≤hh) && decide (hh≤c) && jfP z cap) with
 | false=>rw [hb] at e;cases e
 | true=>
   rw [hb] at e;simp only [Bool.and_eq_true,decide_eq_true_eq] at hb;exact ⟨hb.1.1,hb.1.2,hb.2,(Option.some.inj e).symm⟩
theorem jgl {lo hi:Option Operand} {z id off len:Nat} {cap:Cap} (e:jl6 tm lo hi z id off len cap=some v):
  ∃hh l,jcK tm hi len=some hh∧jcK tm lo 0=some l∧l≤hh∧hh≤jnq len cap∧jfP z cap=true∧v= .slc id (off+l*z) (hh - l) (jkb l cap):=by
 unfold jl6 at e;split at e
 ·rename_i hh h1
  split at e
  ·rename_i l h2
   obtain ⟨h3,h4,h5,h6⟩:=ju1 e;exact ⟨hh,l,h1,h2,h3,h4,h5,h6⟩
  ·cases e
 ·cases e
theorem jh2 {l:Loc} {id x off len c z lo hh:Nat} {cap:Cap} (hl:ι id=some l) (hx:0 < c→x=l.d+off) (hc:jog l off len c cap) (h3:lo≤hh) (h4:hh≤jnq len cap) (h5:jfP z cap=true):
  hh≤c∧VR ι (.slc id (off+lo*z) (hh - lo) (jkb lo cap)) (.slice (some (if c=lo then ⟨l.b,x,none⟩ else ⟨l.b,x+lo*z,none⟩)) (hh - lo) (c - lo)):=by
 have hhc:hh≤c:=by
  cases cap with
  | k k=>obtain ⟨rfl,h6⟩:=hc;exact h4
  | r z'=>obtain ⟨h6,_⟩:=hc;exact Nat.le_trans h4 h6
 refine ⟨hhc,VR.slc.2 ⟨l,if c=lo then x else x+lo*z,c - lo,hl, ?_,fun hp=> ?_, ?_⟩⟩
 ·split <;> rfl
 ·rw [if_neg (by omega),hx (by omega),Nat.add_assoc]
 ·cases cap with
  | k k=>obtain ⟨rfl,h6⟩:=hc;exact ⟨rfl,by omega⟩
  | r z'=>
    obtain ⟨h6,h7⟩:=hc;have hz:z=z':=by simpa [jfP] using h5
    subst hz;refine ⟨by omega,fun hp=> ?_⟩;have:=h7 (by omega);obtain ⟨k,rfl⟩:∃k,c=lo+k:=⟨c - lo,by omega⟩;rw [Nat.add_sub_cancel_left];rw [Nat.add_mul] at this;omega
theorem jnB {t:TypeId} {x:Operand} {lo hi mx:Option Operand} (hop:o.op= .slice t x lo hi mx) (e:jmv t x lo hi mx P tm h= .val v h'):OpOk P o tm h h' v [] []:=by
 unfold jmv at e;split at e
 ·cases e
 ·obtain ⟨e1,rfl⟩:=val?_eq e
  refine OpOk.pure fun ι H w a hW ho hA=> ?_
  have hx:=ho x (by simp [hop,Op.operands])
  have hb:∀y,(lo=some y∨hi=some y)→VR ι (opd tm y) (a.eval y):=fun y hy=>ho y (by
   rcases hy with rfl|rfl <;> simp [hop,Op.operands])
  have arr:∀(id off n el:Nat),P.underlying t=some (.array n el)→VR ι (.ptr id off) (a.eval x)→jrD P tm lo hi id off (some (.array n el))=some v→∃vc,(execOp a.eval o).run P w= .ok (.value vc) w∧VR ι v vc:=by
   intro id off n el hu hx e2;obtain ⟨l,hl,hv⟩:=VR.ptr.1 hx;have e3:(match jg8 P el with|some z=>jl6 tm lo hi z id off n (.k n)|none=>none)=some v:=e2;split at e3
   ·rename_i z hz
    obtain ⟨hh,lw,h1,h2,h3,h4,h5,rfl⟩:=jgl e3;obtain ⟨g1,g2⟩:=jh2 (x:=l.d+off) (c:=n) hl (fun _=>rfl) (cap:= .k n) (off:=off) (len:=n) ⟨rfl,Nat.le_refl _⟩ h3 h4 h5;refine ⟨_, ?_,g2⟩;simp only [execOp,hop,Instr.sliceAt,run_underlying hu,hv,Instr.sureAddr,Sem.run_bind,Sem.run_pure,Result.andThen_ok,jbH (P:=P) (w:=w) hb h1 h2 h3 g1,jaD hz,Addr.add_lit,Option.map_none]
   ·cases e3
  unfold slV at e1;split at e1
  ·rename_i s hp
   rw [hp] at hx;have hv:=VR.str.1 hx;split at e1
   rename_i hu
   unfold jt9 at e1;split at e1
   ·rename_i hh h1
    split at e1
    ·rename_i lw h2
     simp only [jbw] at e1;cases hbb:(decide (lw≤hh) && decide (hh≤jch s)) with
     | false=>rw [hbb] at e1;cases e1
     | true=>
       rw [hbb] at e1;simp only [Bool.and_eq_true,decide_eq_true_eq] at hbb;have:=Option.some.inj e1;subst this;rw [jaS] at h1 hbb;refine ⟨.string (ByteArray.extract ⟨⟨s⟩⟩ lw hh), ?_,VR.str.2 ?_⟩
       ·simp only [execOp,hop,Instr.sliceAt,run_underlying hu,hv,Sem.run_bind,Sem.run_pure,Result.andThen_ok,Instr.slice,jbp,jbH (P:=P) (w:=w) hb h1 h2 hbb.1 hbb.2,Option.map_none,Option.isSome_none,Bool.false_eq_true,if_false]
       ·congr 1
        apply ByteArray.ext;rw [joT,jgk];apply Array.ext';simp [List.take_drop,Nat.add_sub_cancel' hbb.1]
    ·cases e1
   ·cases e1
   ·cases e1
  ·rename_i id off len cap hp
   rw [hp] at hx;obtain ⟨l,y,c,hl,hv,hc,hcap⟩:=VR.slc.1 hx;split at e1
   ·rename_i el hel
    have hu:=jaH hel;split at e1
    ·rename_i z hz
     obtain ⟨hh,lw,h1,h2,h3,h4,h5,rfl⟩:=jgl e1;obtain ⟨g1,g2⟩:=jh2 hl hc hcap h3 h4 h5;refine ⟨_, ?_,g2⟩;simp only [execOp,hop,Instr.sliceAt,run_underlying hu,hv,Sem.run_bind,Sem.run_pure,Result.andThen_ok,Instr.slice,jbH (P:=P) (w:=w) hb h1 h2 h3 g1,jaD hz,Option.map_none,Option.map_some,Addr.add_lit];split <;> rfl
    ·cases e1
   ·cases e1
  ·rename_i hp
   rw [hp] at hx;have hv:=VR.nils.1 hx;split at e1
   rename_i el hel
   have hu:=jaH hel;split at e1
   rename_i z hz
   unfold jtH at e1;split at e1
   ·rename_i h1
    split at e1
    ·rename_i h2
     have:=Option.some.inj e1;subst this;refine ⟨.slice none 0 0, ?_,VR.nils.2 rfl⟩;simp only [execOp,hop,Instr.sliceAt,run_underlying hu,hv,Sem.run_bind,Sem.run_pure,Result.andThen_ok,Instr.slice,jbH (P:=P) (w:=w) hb h1 h2 (Nat.le_refl 0) (Nat.le_refl 0),jaD hz,Option.map_none];rfl
    ·cases e1
   ·cases e1
   ·cases e1
   ·cases e1
  ·rename_i id off hp
   rw [hp] at hx;unfold ju9 at e1;split at e1
   ·rename_i ar har
    cases hu2:P.underlying ar with
    | none=>rw [hu2] at e1;cases e1
    | some d=>
      rw [hu2] at e1;cases d with
      | array n el=>
        obtain ⟨l,hl,hv⟩:=VR.ptr.1 hx;have e3:(match jg8 P el with|some z=>jl6 tm lo hi z id off n (.k n)|none=>none)=some v:=e1;split at e3
        ·rename_i z hz
         obtain ⟨hh,lw,h1,h2,h3,h4,h5,rfl⟩:=jgl e3;obtain ⟨g1,g2⟩:=jh2 (x:=l.d+off) (c:=n) hl (fun _=>rfl) (cap:= .k n) (off:=off) (len:=n) ⟨rfl,Nat.le_refl _⟩ h3 h4 h5;refine ⟨_, ?_,g2⟩;simp only [execOp,hop,Instr.sliceAt,run_underlying har,run_underlying hu2,hv,Instr.slice,asAddr,Sem.run_bind,Sem.run_pure,Result.andThen_ok,jbH (P:=P) (w:=w) hb h1 h2 h3 g1,jaD hz,Addr.add_lit,Option.map_none]
        ·cases e3
      | _=>cases e1
   ·rename_i hnp
    cases hu2:P.underlying t with
    | none=>rw [hu2] at e1;cases e1
    | some d=>
      rw [hu2] at e1;cases d with
      | array n el=>exact arr id off n el hu2 hx e1
      | _=>cases e1
  ·cases e1
end
end Go.Proofs.YtpkcjfpgemdfdaaGreatDoor.Ax
namespace Go.Proofs.YtpkcjfpgemdfdaaGreatDoor.Ax
open Go Go.RowKit
set_option linter.unusedSimpArgs false
set_option linter.unusedVariables false
section
variable {P:Program} {w:World} {ι:Emb} {o:Oper} {tm:Tm} {h h':Hp} {v:AV}
theorem jhk:∀(vs:List Value) (off k:Nat) (cur:Array Value),off+k+vs.length≤cur.size→
  ∃r:Array Value,(vs.zipIdx k).foldl (fun cs (x:Value×Nat)=>cs.setIfInBounds (off+x.2) x.1) cur=r∧r.size=cur.size∧∀j,r[j]? =if off+k≤j∧j < off+k+vs.length then vs[j - (off+k)]? else cur[j]?
 | [],off,k,cur,h=>⟨cur,rfl,rfl,fun j=>by rw [if_neg (by simp)]⟩
 | v::vs,off,k,cur,h=>by
   obtain ⟨r,h1,h2,h3⟩:=jhk vs off (k+1) (cur.setIfInBounds (off+k) v) (by simp at h ⊢;omega);refine ⟨r,by simpa using h1,by simpa using h2,fun j=> ?_⟩;rw [h3 j];simp only [List.length_cons] at h ⊢;by_cases hj:j=off+k
   ·subst hj;rw [if_neg (by omega),if_pos (by omega),Nat.sub_self,Array.getElem?_setIfInBounds_self_of_lt (by omega)];rfl
   ·by_cases hr:off+(k+1)≤j∧j < off+(k+1)+vs.length
    ·rw [if_pos hr,if_pos (by omega),show j - (off+k)=(j - (off+(k+1)))+1 by omega,List.getElem?_cons_succ]
    ·rw [if_neg hr,if_neg (by omega),Array.getElem?_setIfInBounds_ne (fun e=>hj e.symm)]
theorem jeb {place place':Nat→Option (Nat×Nat)} (hp:∀i p,place i=some p→place' i=some p):∀(l:List (Nat×AV)) (lv:List (Nat×Value)) (cs:List AV) (cur:Array Value) (r:List AV),
  l.length=lv.length→(∀(j:Nat) (x:Nat×AV) (y:Nat×Value),l[j]? =some x→lv[j]? =some y→x.1=y.1∧VR ι x.2 y.2)→VRs ι cs cur.toList→jls place l cs=some r→
  ∃r':Array Value,Instr.fill place' cur lv=some r'∧VRs ι r r'.toList
 | [],lv,cs,cur,r,hl,hR,hc,e=>by
   have:lv=[]:=List.length_eq_zero_iff.1 hl.symm;subst this;have:=Option.some.inj (show some cs=some r from e);subst this;exact ⟨cur,rfl,hc⟩
 | (i,a)::l,[],cs,cur,r,hl,hR,hc,e=>by simp at hl
 | (i,a)::l,(i',u)::lv,cs,cur,r,hl,hR,hc,e=>by
   obtain ⟨h1,h2⟩:=hR 0 (i,a) (i',u) rfl rfl;simp only at h1 h2;subst h1;have e':jtm a cs (jls place l) (place i)=some r:=e;cases hpl:place i with
   | none=>rw [hpl] at e';cases e'
   | some p=>
     rw [hpl] at e';have e2:(bif Nat.beq (jch (cellsOf a)) p.2 && !jwp a && Nat.ble (p.1+p.2) (jch cs) then juz (jls place l) (jiN p.1 cs (cellsOf a)) else none)=some r:=e';rw [jbh,jbw] at e2;cases hb:(decide (jch (cellsOf a)=p.2) && !jwp a && decide (p.1+p.2≤jch cs)) with
     | false=>rw [hb] at e2;cases e2
     | true=>
       rw [hb] at e2;simp only [Bool.and_eq_true,decide_eq_true_eq,Bool.not_eq_true'] at hb;cases hs:jiN p.1 cs (cellsOf a) with
       | none=>rw [hs] at e2;cases e2
       | some cs'=>
         rw [hs] at e2;have hne:a≠ .any:=fun e=>by rw [e] at hb;cases hb.1.2
         have hcells:=VR.cells h2 (fun e=>absurd e hne);obtain ⟨c1,c2⟩:=(VRs.iff _ _).1 hcells;obtain ⟨d1,d2⟩:=(VRs.iff _ _).1 hc;obtain ⟨s1,s2,s3⟩:=jdb _ _ _ _ hs;rw [jaS,jaS] at hb;have hus:u.cells.size=p.2:=by rw [←hb.1.1,c1];simp
         have hcs:cs.length=cur.size:=by rw [d1];simp
         have hfit:p.1+u.cells.toList.length≤cur.size:=by rw [Array.length_toList,hus,←hcs];exact hb.2
         obtain ⟨r0,g1,g2,g3⟩:=jhk u.cells.toList p.1 0 cur (by omega)
         have hvr:VRs ι cs' r0.toList:=by
          refine (VRs.iff _ _).2 ⟨by rw [s1,hcs,Array.length_toList,g2],fun j b q hb1 hq=> ?_⟩;rw [s3 j] at hb1;have hq':r0[j]? =some q:=by simpa using hq
          rw [g3 j] at hq';simp only [Nat.add_zero] at hq';by_cases hr:p.1≤j∧j < p.1+(cellsOf a).length
          ·rw [if_pos hr] at hb1;rw [if_pos (by rw [←c1];exact hr)] at hq';exact c2 _ b q hb1 hq'
          ·rw [if_neg hr] at hb1;rw [if_neg (by rw [←c1];exact hr)] at hq';exact d2 j b q hb1 (by simpa using hq')
         obtain ⟨r',k1,k2⟩:=jeb hp l lv cs' r0 r (by simpa using hl) (fun j x y hx hy=>hR (j+1) x y (by simpa using hx) (by simpa using hy)) hvr e2;refine ⟨r', ?_,k2⟩
         have hz:u.cells.zipIdx.foldl (fun cs (x:Value×Nat)=>cs.setIfInBounds (p.1+x.2) x.1) cur=r0:=by
          rw [←g1,←Array.foldl_toList,Array.toList_zipIdx]
         have hn1:¬(u.cells.size≠p.2):=by simp [hus]
         have hn2:¬(p.1+u.cells.size > cur.size):=by simp only [Array.length_toList] at hfit;omega
         simp only [Instr.fill,hp i p hpl];rw [if_neg (by simp [hus];omega)];rw [←k1]
         congr 1
theorem jhT {a:Act} {ps:Array (Nat×Operand)} (ho:∀p∈ps.toList,VR ι (opd tm p.2) (a.eval p.2)):
  (jlr tm ps.toList).length=(ps.map fun p=>(p.1,a.eval p.2)).toList.length∧∀(j:Nat) (x:Nat×AV) (y:Nat×Value),(jlr tm ps.toList)[j]? =some x→(ps.map fun p=>(p.1,a.eval p.2)).toList[j]? =some y→x.1=y.1∧VR ι x.2 y.2:=by
 unfold jlr;rw [jc2];refine ⟨by simp,fun j x y hx hy=> ?_⟩;simp only [List.getElem?_map,Array.toList_map] at hx hy;cases hj:ps.toList[j]? with
 | none=>rw [hj] at hx;cases hx
 | some p=>
   rw [hj] at hx hy;have h1:=Option.some.inj hx;have h2:=Option.some.inj hy;subst h1;subst h2;exact ⟨rfl,ho p (List.mem_of_getElem? hj)⟩
theorem agg?_eq {oc:Option (List AV)} (e:agg? h oc= .val v h'):∃cs,oc=some cs∧v= .agg cs∧h'=h:=by
 cases oc with
 | none=>cases e
 | some cs=>obtain ⟨a,b⟩:=val_inj (show Ro.val (.agg cs) h= .val v h' from e);exact ⟨cs,rfl,a.symm,b.symm⟩
theorem jo0 {t:TypeId} {ps:Array (Nat×Operand)} (hop:o.op= .build t ps) (e:jlN t ps P tm h= .val v h'):OpOk P o tm h h' v [] []:=by
 unfold jlN at e;split at e
 ·rename_i z hz
  obtain ⟨cs,hcs,rfl,rfl⟩:=agg?_eq e
  obtain ⟨i,zv,hi,hzv,rfl⟩:=jd3 hz;refine OpOk.pure fun ι H w a hW ho hA=> ?_
  have hps:∀p∈ps.toList,VR ι (opd tm p.2) (a.eval p.2):=fun p hp=>ho p.2 (by
   simp only [hop,Op.operands]
   exact List.mem_map.2 ⟨p,hp,rfl⟩)
  obtain ⟨r1,r2⟩:=jhT hps;have hzc:=jbN ι zv;unfold jmt at hcs;split at hcs
  ·rename_i fs hu
   split at hcs
   ·rename_i places hpl
    obtain ⟨r',k1,k2⟩:=jeb (place':=fun x=>places.toArray[x]?) (fun i p h=>by rw [jcW] at h;simpa using h) _ _ _ _ _ r1 r2 hzc hcs;refine ⟨.agg r', ?_,VR.agg.2 ⟨r'.toList,by simp,k2⟩⟩
    have hb:P.built t (ps.map fun p=>(p.1,a.eval p.2)).toList=some r':=by
     unfold jk5 at hpl;simp only [Program.built,hi,hu,hzv,hpl];exact k1
    have:=run_build (P:=P) w t (ps.map fun p=>(p.1,a.eval p.2)) r' hb;simp only [execOp,hop,Sem.run_bind,this,Result.andThen_ok];rfl
   ·cases hcs
  ·rename_i n el hu
   split at hcs
   ·rename_i s hs
    obtain ⟨ie,hie,rfl⟩:=jha hs;obtain ⟨r',k1,k2⟩:=jeb (place':=fun i=>some (i*ie.size,ie.size)) (fun i p h=>h) _ _ _ _ _ r1 r2 hzc hcs;refine ⟨.agg r', ?_,VR.agg.2 ⟨r'.toList,by simp,k2⟩⟩
    have hb:P.built t (ps.map fun p=>(p.1,a.eval p.2)).toList=some r':=by
     simp only [Program.built,hi,hu,hzv,hie];exact k1
    have:=run_build (P:=P) w t (ps.map fun p=>(p.1,a.eval p.2)) r' hb;simp only [execOp,hop,Sem.run_bind,this,Result.andThen_ok];rfl
   ·cases hcs
  ·cases hcs
 ·cases e
theorem jsc {z:List AV} {zv:Array Value} (hz:VRs ι z zv.toList) (n k:Nat) (hk:k=n*z.length):VRs ι (rep z n) (madeCells zv k).toList:=by
 refine (VRs.iff _ _).2 ⟨by rw [rep_len,Array.length_toList,hk];simp [madeCells],fun j b u hb hu=>jlP zv k z hz n j b u hb (by simpa using hu)⟩
theorem jfq {t:TypeId} {len:Nat} {ps:Array (Nat×Operand)} (hop:o.op= .buildSlice t len ps) (e:jcQ t len ps P tm h= .val v h'):OpOk P o tm h h' v [] []:=by
 unfold jcQ at e;split at e
 ·rename_i el hel
  have hu:=jaH hel;split at e
  ·rename_i s z hs hz
   rw [jbw,jbh] at e;cases hb:(decide (len*s≤65536) && decide (jch z=s)) with
   | false=>rw [hb] at e;cases e
   | true=>
     rw [hb] at e;simp only [Bool.and_eq_true,decide_eq_true_eq,jaS] at hb;obtain ⟨cs,hcs,rfl,rfl⟩:=new?_eq (show new? h len (.k len) _= .val v h' from e)
     obtain ⟨i,zv,hi,hzv,rfl⟩:=jd3 hz;refine OpOk.alloc fun ι H w a hW ho hA hn=> ?_
     have hps:∀p∈ps.toList,VR ι (opd tm p.2) (a.eval p.2):=fun p hp=>ho p.2 (by
      simp only [hop,Op.operands]
      exact List.mem_map.2 ⟨p,hp,rfl⟩)
     obtain ⟨r1,r2⟩:=jhT hps;have hzc:=jsc (jbN ι zv) len (len*s) (by rw [hb.2]);obtain ⟨r',k1,k2⟩:=jeb (place':=fun i=>some (i*s,s)) (fun i p h=>h) _ _ _ _ _ r1 r2 hzc hcs;have hN:=NewW.alloc w r' el;have k3:=VRs.mono (jff (l:=⟨w.heap.size,0,r'.size⟩) hn) _ _ k2;obtain ⟨c1,c2⟩:=(VRs.iff _ _).1 k3;refine ⟨.slice (some ⟨w.heap.size,0,none⟩) len len,r',el,(0,0),_, ?_,hN,⟨jbC hN.new (by rw [c1];simp) (fun j b u hb hu=>c2 j b u hb (by simpa using hu)),jdl hN.new,jbF hN.new⟩,VR.slc.2 ⟨_,0,len,jaO,rfl,fun _=>rfl,rfl,Nat.le_refl _⟩⟩;obtain ⟨ie,hie,rfl⟩:=jha hs;rw [hi] at hie;have:=Option.some.inj hie;subst this;have hn24:¬(len*i.size > 2^24):=by omega
     unfold madeCells at k1;rw [Array.toList_map] at k1;by_cases h0:len*i.size=0
     ·simp only [h0,Array.range_zero',Array.map_empty] at k1;simp [execOp,hop,Instr.buildSlice,run_underlying hu,Go.sizeOf,typeInfo,hi,h0,newRow,Array.range_zero',k1]
     ·simp [execOp,hop,Instr.buildSlice,run_underlying hu,Go.sizeOf,typeInfo,zeroValue,hi,hzv,hn24,h0,newRow,k1]
  ·cases e
 ·cases e
end
end Go.Proofs.YtpkcjfpgemdfdaaGreatDoor.Ax
namespace Go.Proofs.YtpkcjfpgemdfdaaGreatDoor.Ax
open Go Go.RowKit
set_option linter.unusedSimpArgs false
set_option linter.unusedVariables false
section
variable {P:Program} {w:World} {ι:Emb} {o:Oper} {tm:Tm} {h h':Hp} {v:AV} {c:Call}
theorem jkr {b:Builtin} {a:Act} (hop:o.op= .call c) (hb:c.callee= .builtin b) (ho:Opr ι tm a o):∀x∈c.args.toList,VR ι (opd tm x) (a.eval x):=fun x hx=>ho x (by
 simp only [hop,Op.operands,Call.operands,hb]
 simpa using hx)
theorem jjC {a:Act} {xs:List Operand} (ho:∀x∈xs,VR ι (opd tm x) (a.eval x)):VRs ι (jgD (opd tm) xs) (xs.map a.eval):=by
 rw [jc2];refine (VRs.iff _ _).2 ⟨by simp,fun j p q hp hq=> ?_⟩;simp only [List.getElem?_map] at hp hq;cases hj:xs[j]? with
 | none=>rw [hj] at hp;cases hp
 | some x=>
   rw [hj] at hp hq;have h1:=Option.some.inj hp;have h2:=Option.some.inj hq;subst h1;subst h2;exact ho x (List.mem_of_getElem? hj)
theorem jvg {α:Type} {xs:List α} {f:α→AV} {x:AV} (e:jgD f xs=[x]):∃y,xs=[y]∧f y=x:=by
 rw [jc2] at e
 match xs,e with
 | [y],e=>exact ⟨y,rfl,by simpa using e⟩
theorem juh {α:Type} {xs:List α} {f:α→AV} {x y:AV} (e:jgD f xs=[x,y]):∃p q,xs=[p,q]∧f p=x∧f q=y:=by
 rw [jc2] at e
 match xs,e with
 | [p,q],e=>simp at e;exact ⟨p,q,rfl,e.1,e.2⟩
theorem jaZ {α:Type} {xs:Array α} {l:List α} (e:xs.toList=l):xs=l.toArray:=by rw [←e]
theorem jsr {x:AV} {t:TypeId} {ts:List TypeId} (hop:o.op= .call c) (hb:c.callee= .builtin .len) (ha:jgD (opd tm) c.args.toList=[x]) (ht:c.argTypes.toList=t::ts) (e:juW x (P.underlying t) h= .val v h'):OpOk P o tm h h' v [] []:=by
 obtain ⟨y,hy,rfl⟩:=jvg ha;have hargs:=jaZ hy;have htys:=jaZ ht
 have run:∀(a:Act) (w:World),(execOp a.eval o).run P w=((Builtin.len_ (t::ts).toArray o.type #[a.eval y]).run P w).andThen fun v w=> .ok (.value v) w:=by
  intro a w;simp [execOp,hop,resolve,hb,invoke,builtin,hargs,htys]
 have t0:(t::ts).toArray[0]? =some t:=by simp
 have val:∀{n:Nat},e=e→Ro.val (.int .i64 (Int.ofNat n)) h= .val v h'→(∀(ι:Emb) (w:World) (a:Act),VR ι (opd tm y) (a.eval y)→(Builtin.len_ (t::ts).toArray o.type #[a.eval y]).run P w= .ok (goInt (n:Int)) w)→OpOk P o tm h h' v [] []:=by
  intro n _ e2 hr;obtain ⟨rfl,rfl⟩:=val_inj e2;refine OpOk.pure fun ι H w a hW ho hA=>⟨.int .i64 (n:Int), ?_,VR.int.2 rfl⟩
  rw [run,hr ι w a (jkr hop hb ho y (by rw [hy];simp))];rfl
 unfold juW at e;split at e
 ·rename_i n el hu
  refine val rfl e fun ι w a hx=> ?_
  simp [Builtin.len_,run_underlying hu]
 ·rename_i hu
  split at e
  ·rename_i s hp
   refine val rfl e fun ι w a hx=> ?_
   rw [hp] at hx;have hv:=VR.str.1 hx;simp [Builtin.len_,run_underlying hu,hv,jbp,jaS]
  ·cases e
 ·rename_i el hu
  split at e
  ·rename_i n hn
   refine val rfl e fun ι w a hx=> ?_
   unfold jui at hn;split at hn
   ·rename_i id off len cap hp
    rw [hp] at hx;obtain ⟨l,q,k,_,hv,_⟩:=VR.slc.1 hx;have:=Option.some.inj hn;subst this;simp [Builtin.len_,run_underlying hu,hv]
   ·rename_i hp
    rw [hp] at hx;have hv:=VR.nils.1 hx;have:=Option.some.inj hn;subst this;simp [Builtin.len_,run_underlying hu,hv]
   ·cases hn
  ·cases e
 ·cases e
theorem jr2 {z n:Nat} {x:AV} {u:TypeId} {new:List AV} {H:Hf} {vx:Value} (hW:WR ι H w) (hA:∀id∈jaF x,∀b,h.h.get id=some b→H id=some b) (hx:VR ι x vx) (hn:lenOf x=some n) (e:jpi h z n x (P.underlying u)=some new) (hsc:jeH new=true):
  ∃news,VRs ι new news∧Src P z u vx n news w:=by
 unfold jpi at e;split at e
 ·rename_i el hu
  split at e
  ·rename_i id off len cap
   have:=Option.some.inj (show some len=some n from hn);subst this;split at e
   ·rename_i cs hcs
    obtain ⟨l,y,c,hl,hv,hc,hcap⟩:=VR.slc.1 hx;obtain ⟨vals,g1,g2,g3⟩:=jco (jcm hW (hA id (by simp [jaF])) hl hcs) e;have hlc:len≤c:=by cases cap <;> simp [jog] at hcap <;> omega
    subst hv;refine ⟨vals,g2,Src.ofSlice w hu ⟨l.b,y,none⟩ len c vals g1 (fun j q hq=> ?_) (VRs.one g2 hsc)⟩;have hj:=jao hq
    have hpos:0 < c:=by
     rcases Nat.eq_zero_or_pos len with h0|h0
     ·subst h0;rw [Nat.zero_mul] at g1;omega
     ·omega
    rw [Addr.add_lit,hc hpos];exact g3 j q hq
   ·cases e
  ·cases e
 ·rename_i hu
  split at e
  ·rename_i s
   have:=Option.some.inj (show some (jch s)=some n from hn);subst this;rw [jbh] at e;by_cases h1:z=1
   ·subst h1;rw [decide_eq_true rfl] at e;have:=Option.some.inj e;subst this;have hv:=VR.str.1 hx;subst hv;have hs:=Src.ofString (P:=P) w hu ⟨⟨s⟩⟩;rw [jbp,←jaS] at hs;refine ⟨_, ?_,hs⟩;rw [jc2,byteCells];refine (VRs.iff _ _).2 ⟨by simp,fun j p q hp hq=> ?_⟩;simp only [List.getElem?_map] at hp hq;cases hj:s[j]? with
    | none=>rw [hj] at hp;cases hp
    | some b=>
      rw [hj] at hp hq;have h1:=Option.some.inj hp;have h2:=Option.some.inj hq;subst h1;subst h2;exact VR.int.2 rfl
   ·rw [decide_eq_false h1] at e;cases e
  ·cases e
 ·cases e
theorem jqi {d:Option TypeDesc} (e:jmZ d=true):(∃el,d=some (.slice el))∨d=some .string:=by
 unfold jmZ at e;split at e
 ·exact .inl ⟨_,rfl⟩
 ·exact .inr rfl
 ·cases e
theorem jpw {s:AV} (e:jpg s h= .val v h'):v=s∧h'=h:=by
 unfold jpg at e;split at e
 ·obtain ⟨a,b⟩:=val_inj e;exact ⟨a.symm,b.symm⟩
 ·obtain ⟨a,b⟩:=val_inj e;exact ⟨a.symm,b.symm⟩
 ·cases e
theorem jei {t u ty el:TypeId} {x:AV} {vx:Value} {A:Option Addr} {n k:Nat} (hu:P.underlying t=some (.slice el)) {z:Nat} (hz:jg8 P el=some z) (hq:jmZ (P.underlying u)=true) (hx:VR ι x vx) (hn:lenOf x=some 0) (hk:n≤k):
  (Builtin.append_ #[t,u] ty #[.slice A n k,vx]).run P w= .ok (.slice A n k) w:=by
 have hl:(Builtin.lenOf vx).run P w= .ok 0 w∧(Builtin.firstCells z 0 vx).run P w= .ok #[] w:=by
  unfold lenOf at hn;split at hn
  ·obtain ⟨l,q,c,_,hv,_⟩:=VR.slc.1 hx;have:=Option.some.inj hn;subst this;subst hv;exact ⟨rfl,by simp [Builtin.firstCells,loadCells,loadCellsFrom]⟩
  ·have hv:=VR.nils.1 hx;subst hv;exact ⟨rfl,by simp [Builtin.firstCells]⟩
  ·rename_i s
   have hv:=VR.str.1 hx;subst hv;have h0:=Option.some.inj hn;rw [jaS] at h0;have hs:s=[]:=List.length_eq_zero_iff.1 h0;subst hs;exact ⟨rfl,by simp [Builtin.firstCells]⟩
  ·cases hn
 rcases jqi hq with ⟨e',hk'⟩|hk'
 ·cases A <;> simp [Builtin.append_,run_underlying hu,run_underlying hk',jaD hz,hl.1,hl.2,hk,storeCells]
 ·cases A <;> simp [Builtin.append_,run_underlying hu,run_underlying hk',jaD hz,hl.1,hl.2,hk,storeCells]
end
end Go.Proofs.YtpkcjfpgemdfdaaGreatDoor.Ax
namespace Go.Proofs.YtpkcjfpgemdfdaaGreatDoor.Ax
open Go Go.RowKit
set_option linter.unusedSimpArgs false
set_option linter.unusedVariables false
section
variable {P:Program} {w:World} {ι:Emb} {o:Oper} {tm:Tm} {h h':Hp} {v:AV} {c:Call}
theorem WR.weaken {H H':Hf} (hW:WR ι H w) (hh:∀id b,H' id=some b→H id=some b):WR ι H' w:=
 ⟨hW.gl,fun id l b e h=>hW.lt id l b e (hh _ _ h),fun id l b e h=>hW.blk id l b e (hh _ _ h),fun id id' l l' b b' hne e e' h h'=>hW.inj id id' l l' b b' hne e e' (hh _ _ h) (hh _ _ h')⟩
theorem OpOk.pureW {rd wr:List Nat} (hsub:∀id∈wr,id∈rd) (hr:∀(ι:Emb) (H:Hf) (w:World) (a:Act),WR ι H w→Opr ι tm a o→jma rd h H→∃vc,(execOp a.eval o).run P w= .ok (.value vc) w∧VR ι v vc):OpOk P o tm h h v rd wr:=by
 refine ⟨Nat.le_refl _,Nat.le_refl _,fun h=>h,fun _ _=> .inr rfl,fun _ _ _=>rfl,fun ι H H' w a hW hf ho hA hB h1 h2=> ?_⟩;obtain ⟨vc,he,hv⟩:=hr ι H w a hW ho hA;rw [he];refine jer.pure (hW.weaken fun id b hb=> ?_) hv;by_cases hid:id∈wr
 ·rw [h1 id (.inl hid)] at hb;exact hA id (hsub id hid) b hb
 ·rw [h2 id hid (by omega)] at hb;exact hb
theorem jrW {e z sl n:Nat} {s:AV} {old new:Option (List AV)} (he:juN P e z sl n s h old new= .val v h'):
  ∃ol nw i zv,old=some ol∧new=some nw∧P.info? e=some i∧i.zero=some zv∧sl+n≤65536∧i.bytes≤65536∧jeH nw=true∧1≤z∧zv.cells.size=z∧v= .slc h.nx 0 (sl+n) (.r z)∧h'=jau (jk9 h s) (.cells (ol++nw)):=by
 unfold juN at he;split at he
 ·cases he
 ·rename_i ol
  split at he
  ·cases he
  ·rename_i nw
   split at he
   ·cases he
   ·rename_i i hi
    split at he
    ·cases he
    ·rename_i zv hzv
     simp only [jbw,jbh] at he;cases hb:(decide (sl+n≤65536) && decide (i.bytes≤65536) && jeH nw && decide (1≤z) && decide (jch (cellsOf (toAV zv))=z)) with
     | false=>rw [hb] at he;cases he
     | true=>
       rw [hb] at he;simp only [Bool.and_eq_true,decide_eq_true_eq] at hb;obtain ⟨a,b⟩:=val_inj (show Ro.val (.slc h.nx 0 (sl+n) (.r z)) (jau (jk9 h s) (.cells (jq8 ol nw)))= .val v h' from he);rw [jeE] at b
       have hzs:zv.cells.size=z:=by
        rw [←hb.2,jaS,((VRs.iff _ _).1 (jbN (fun _=>none) zv)).1,Array.length_toList]
       exact ⟨ol,nw,i,zv,rfl,rfl,hi,hzv,hb.1.1.1.1,hb.1.1.1.2,hb.1.1.2,hb.1.2,hzs,a.symm,b.symm⟩
theorem jmq {old new:List AV} {olds news:List Value} (ho:VRs ι old olds) (hn:VRs ι new news) (rest:Array Value) (j:Nat) (a:AV) (u:Value) (ha:(old++new)[j]? =some a) (hu:((olds++news).toArray++rest)[j]? =some u):VR ι a u:=by
 obtain ⟨h1,h2⟩:=(VRs.iff _ _).1 ho;obtain ⟨h3,h4⟩:=(VRs.iff _ _).1 hn;have hj:=jao ha;rw [List.length_append] at hj
 have hu':(olds++news)[j]? =some u:=by
  rw [Array.getElem?_append,if_pos (by simp;omega)] at hu;simpa using hu
 rw [List.getElem?_append] at ha hu';by_cases hlt:j < old.length
 ·rw [if_pos hlt] at ha;rw [if_pos (by omega)] at hu';exact h2 j a u ha hu'
 ·rw [if_neg hlt] at ha;rw [if_neg (by omega)] at hu';rw [h1] at ha;exact h4 _ a u ha hu'
theorem jhg {H H':Hf} {n nx wm sl gc z:Nat} {ol nw:List AV} {olds news:List Value} {zv:Value} {el:TypeId} (hW:WR ι H w) (hf:jdR ι nx (nx+1)) (ho:VRs ι ol olds) (hol:ol.length=sl*z) (hn:VRs ι nw news) (hnl:news.length=n*z)
  (hg:sl+n≤gc) (hz:zv.cells.size=z) (hn':H' nx=some (.cells (ol++nw))) (hold:∀id,id≠nx→H' id=H id∨(H' id=some .dead∧∃b',H id=some b')):
  jer ι H' nx (nx+1) wm w (.slc nx 0 (sl+n) (.r z)) (.slice (some ⟨w.heap.size,0,none⟩) (sl+n) gc) (w.drew.alloc (.cells ((olds++news).toArray++Builtin.zeroCells zv.cells (gc - (sl+n))) el)):=by
 have hN:=NewW.drewAlloc w ((olds++news).toArray++Builtin.zeroCells zv.cells (gc - (sl+n))) el;have h1:=((VRs.iff _ _).1 ho).1;have h2:=((VRs.iff _ _).1 hn).1
 have hsz:((olds++news).toArray++Builtin.zeroCells zv.cells (gc - (sl+n))).size=gc*z:=by
  rw [Array.size_append,size_zeroCells,hz];simp only [List.size_toArray,List.length_append];rw [←h1,hol,hnl,←Nat.add_mul,←Nat.add_mul,Nat.add_sub_cancel' hg]
 have hle:=jff (l:=⟨w.heap.size,0,((olds++news).toArray++Builtin.zeroCells zv.cells (gc - (sl+n))).size⟩) hf.one;refine jer.new hW hN hf hn' hold ⟨jbC hN.new ?_ (fun j b u hb hu=>jmq (VRs.mono hle _ _ ho) (VRs.mono hle _ _ hn) _ j b u hb hu),jdl hN.new,jbF hN.new⟩ (VR.slc.2 ⟨_,0,gc,jaO,rfl,fun _=>rfl,hg,fun _=> ?_⟩)
 ·rw [hsz,List.length_append,hol,h2,hnl,←Nat.add_mul];exact Nat.mul_le_mul_right z hg
 ·rw [hsz];show 0+gc*z≤gc*z;omega
theorem jl1 {s x:AV} {t u:TypeId} (hop:o.op= .call c) (hb:c.callee= .builtin .append) (ha:jgD (opd tm) c.args.toList=[s,x]) (ht:c.argTypes.toList=[t,u]) (e:jiV P t u s x h= .val v h'):
  OpOk P o tm h h' v (jaF s++jaF x) (jaF s):=by
 obtain ⟨y,q,hy,hs,hx⟩:=juh ha;have hargs:=jaZ hy;have htys:=jaZ ht
 have run:∀(a:Act) (w:World),(execOp a.eval o).run P w=((Builtin.append_ #[t,u] o.type #[a.eval y,a.eval q]).run P w).andThen fun v w=> .ok (.value v) w:=by
  intro a w;simp [execOp,hop,resolve,hb,invoke,builtin,hargs,htys]
 have opr:∀{ι:Emb} {a:Act},Opr ι tm a o→VR ι s (a.eval y)∧VR ι x (a.eval q):=fun ho=>by
  have:=jkr hop hb ho;rw [hy] at this;exact ⟨hs ▸ this y (by simp),hx ▸ this q (by simp)⟩
 unfold jiV at e;split at e
 ·cases e
 ·rename_i el hel
  have hu:=jaH hel;split at e
  ·cases e
  ·rename_i z hz
   split at e
   ·cases e
   ·rename_i n hn
    split at e
    ·cases e
    ·rename_i sl hsl
     cases hq:jmZ (P.underlying u) with
     | false=>rw [hq] at e;cases e
     | true=>
       rw [hq,jbh] at e;simp only [cond_true] at e;by_cases h0:n=0
       ·subst h0;rw [decide_eq_true rfl] at e;obtain ⟨rfl,rfl⟩:=jpw e;refine OpOk.pureW (fun id hid=>List.mem_append.2 (.inl hid)) fun ι H w a hW ho hA=> ?_
        obtain ⟨h1,h2⟩:=opr ho;refine ⟨a.eval y, ?_,h1⟩;unfold jpg at e;split at e
        ·rename_i id off len cap
         obtain ⟨l,p,k,hl,hv,hc,hcap⟩:=VR.slc.1 h1;have hlc:len≤k:=by cases cap <;> simp [jog] at hcap <;> omega
         rw [run,hv,jei hu hz hq h2 hn hlc];rfl
        ·have hv:=VR.nils.1 h1;rw [run,hv,jei hu hz hq h2 hn (Nat.le_refl 0)];rfl
        ·cases e
       ·rw [decide_eq_false h0] at e;obtain ⟨ol,nw,i,zv,ho1,hn1,hi,hzv,hle,hby,hsc,hz1,hzs,rfl,rfl⟩:=jrW (show juN P el z sl n s h (jtB h z s) (jpi h z n x (P.underlying u))= .val v h' from e);obtain ⟨i',hi',hsz⟩:=jha hz;rw [hi] at hi';have:=Option.some.inj hi';subst this
        have h48:(sl+n)*i.bytes≤140737488355328:=by
         have:=Nat.mul_le_mul hle hby;omega
        cases s with
        | nils=>
          have:=Option.some.inj (show some []=some ol from ho1);subst this;have:=Option.some.inj (show some 0=some sl from hsl);subst this;have hget:∀k,(jau h (.cells ([]++nw))).h.get k=if k=h.nx then some (.cells ([]++nw)) else h.h.get k:=fun k=>Tr.get_set _ _ _ _
          refine ⟨Nat.le_succ _,Nat.le_refl _,fun hB k b hk=> ?_,fun _ h=>(by cases h),fun k g1 g2=> ?_,fun ι H H' w a hW hf ho hA hB g1 g2=> ?_⟩
          ·have hk':(jau h (.cells ([]++nw))).h.get k=some b:=hk;rw [hget] at hk';show k < h.nx+1
           by_cases e1:k=h.nx
           ·omega
           ·rw [if_neg e1] at hk';have:=hB k b hk';omega
          ·have g2':¬(h.nx≤k∧k < h.nx+1):=g2;show (jau h (.cells ([]++nw))).h.get k=_
           rw [hget,if_neg (by omega)]
          have hn':H' h.nx=some (.cells ([]++nw)):=by
           rw [g1 h.nx (.inr ⟨Nat.le_refl _,Nat.lt_succ_self _⟩)];show (jau h (.cells ([]++nw))).h.get h.nx=_
           rw [hget,if_pos rfl]
          have hold:∀id,id≠h.nx→H' id=H id∨(H' id=some .dead∧∃b',H id=some b'):=fun id hid=> .inl (g2 id (by simp [jaF]) (by show ¬(h.nx≤id∧id < h.nx+1);omega))
          obtain ⟨h1,h2⟩:=opr ho;have hv:=VR.nils.1 h1;obtain ⟨news,g1,g2⟩:=jr2 hW (fun id hid=>hA id (by simpa [jaF] using hid)) h2 hn hn1 hsc;rw [←hsz] at g2;have hr:=run_append_grow_src (P:=P) w t u o.type el i zv hu hi hzv none 0 0 [] (by simp [Builtin.firstCells]) (a.eval q) n news g2 (by omega) (by omega) (growslice_fits (by omega) h48);have hge:=grownCap_ge w (0+n) 0 el
          have hP:jer ι H' h.nx (h.nx+1) h.wm w (.slc h.nx 0 (0+n) (.r z)) (.slice (some ⟨w.heap.size,0,none⟩) (0+n) (grownCap w (0+n) 0 el)) _:=
           jhg (zv:=zv) (el:=el) hW hf (VRs.nil.2 rfl) (by simp) g1 (by rw [g2.newsLen,hsz]) hge hzs hn' hold
          rw [run,hv,hr];exact hP
        | slc id off len cap=>
          have:=Option.some.inj (show some len=some sl from hsl);subst this;have ho2:(match juH h id with|some cs=>bif jhy z off cs cap then jpC cs off (len*z) else none|none=>none)=some ol:=ho1;split at ho2
          ·rename_i cs hcs
           cases hro:jhy z off cs cap with
           | false=>rw [hro] at ho2;cases ho2
           | true=>
             rw [hro] at ho2;simp only [cond_true] at ho2;have hget:=ji1 hcs
             have hg2:∀k,(jau (jk9 h (.slc id off len cap)) (.cells (ol++nw))).h.get k=if k=h.nx then some (.cells (ol++nw)) else if k=id then some .dead else h.h.get k:=by
              intro k;show (Tr.set (Tr.set h.h id .dead) h.nx (.cells (ol++nw))).get k=_
              rw [Tr.get_set,Tr.get_set]
             refine ⟨Nat.le_succ _,(jct h id .dead).2,fun hB k b hk=> ?_,fun k hk=> .inl (by rw [List.mem_singleton.1 hk];exact (jct h id .dead).1),fun k h1 h2=> ?_,fun ι H H' w a hW hf ho hA hB h1 h2=> ?_⟩
             ·rw [hg2] at hk;show k < h.nx+1
              by_cases e1:k=h.nx
              ·omega
              ·rw [if_neg e1] at hk;by_cases e2:k=id
               ·subst e2;have:=hB k _ hget;omega
               ·rw [if_neg e2] at hk;have:=hB k b hk;omega
             ·have h2':¬(h.nx≤k∧k < h.nx+1):=h2;rw [hg2,if_neg (by omega),if_neg (by simpa [jaF] using h1)]
             ·obtain ⟨q1,q2⟩:=opr ho;have hidlt:=hB id _ hget;obtain ⟨l,p,k,hl,hv,hc,hcap⟩:=VR.slc.1 q1;have hAx:∀id'∈jaF x,∀b,h.h.get id'=some b→H id'=some b:=fun id' hid=>hA id' (List.mem_append.2 (.inr hid))
              have hHid:=hA id (List.mem_append.2 (.inl (by simp [jaF]))) _ hget;obtain ⟨news,g1,g2⟩:=jr2 hW hAx q2 hn hn1 hsc;rw [←hsz] at g2;obtain ⟨⟨r1,r2⟩,r3,r4⟩:=hW.blk id l _ hl hHid;obtain ⟨olds,o1,o2,o3⟩:=jco ⟨r1,r2⟩ ho2;have hH1:H' h.nx=some (.cells (ol++nw)):=by rw [h1 h.nx (.inr ⟨Nat.le_refl _,Nat.lt_succ_self _⟩),hg2,if_pos rfl]
              have hH2:H' id=some .dead:=by rw [h1 id (.inl (by simp [jaF])),hg2,if_neg (by omega),if_pos rfl]
              have hH3:∀k,k≠id→k≠h.nx→H' k=H k:=fun k e1 e2=>h2 k (by simpa [jaF] using e1) (by show ¬(h.nx≤k∧k < h.nx+1);omega)
              have hlc:len≤k:=by cases cap <;> simp [jog] at hcap <;> omega
              have hpos:0 < k→off+k*z≤l.n:=by
               intro hk;cases cap with
               | k kk=>
                 obtain ⟨rfl,_⟩:=hcap;have:off+k*z≤jch cs:=by simpa [jhy] using hro
                 rw [jaS] at this;omega
               | r zz=>
                 have hzz:z=zz:=by simpa [jhy] using hro
                 subst hzz;exact hcap.2 hk
              have h2p:=(jh1 ho2).1;by_cases hroom:len+n≤k
              ·have hp:=hc (by omega);subst hp;have hfit:=hpos (by omega);have hmz:(len+n)*z≤k*z:=Nat.mul_le_mul_right z hroom;rw [Nat.add_mul] at hmz;have hnl:news.length=n*z:=by rw [g2.newsLen,hsz]
               have hr:=run_append_room_src (P:=P) w t u o.type el i hu hi l.b (l.d+off) len k (a.eval q) n news g2 hroom (fun j hj=>by
                rw [hsz];have:=r3 (off+len*z+j) (by omega)
                rwa [←Nat.add_assoc,←Nat.add_assoc] at this) (fun j hj=>r4 _)
               rw [hsz] at hr;rw [run,hv,hr];exact jer.growIn hW hf hl hHid ho2 g1 (by rw [((VRs.iff _ _).1 g1).1,hnl]) hroom hfit (jct h id .dead).1 hidlt hH1 hH2 hH3
              ·have hold:(Builtin.firstCells i.size len (.slice (some ⟨l.b,p,none⟩) len k)).run P w.drew= .ok olds.toArray w.drew:=by
                rw [hsz];refine run_firstCells_some w.drew z len ⟨l.b,p,none⟩ len k olds o1 (fun j b hb=> ?_);have hj:=jao hb
                have hp:=hc (by
                 rcases Nat.eq_zero_or_pos len with h0|h0
                 ·subst h0;rw [Nat.zero_mul] at o1;omega
                 ·omega)
                rw [Addr.add_lit,hp];exact o3 j b hb
               have hr:=run_append_grow_src (P:=P) w t u o.type el i zv hu hi hzv (some ⟨l.b,p,none⟩) len k olds hold (a.eval q) n news g2 (by omega) (by omega) (growslice_fits (by omega) h48);rw [run,hv,hr]
               exact jhg (zv:=zv) (el:=el) hW hf o2 h2p g1 (by rw [g2.newsLen,hsz]) (grownCap_ge w (len+n) k el) hzs hH1 (fun k e1=>by
                by_cases e2:k=id
                ·subst e2;exact .inr ⟨hH2,_,hHid⟩
                ·exact .inl (hH3 k e2 e1))
          ·cases ho2
        | str s=>cases ho1
        | _=>cases hsl
end
end Go.Proofs.YtpkcjfpgemdfdaaGreatDoor.Ax
namespace Go.Proofs.YtpkcjfpgemdfdaaGreatDoor.Ax
open Go Go.RowKit
set_option linter.unusedSimpArgs false
set_option linter.unusedVariables false
section
variable {P:Program} {w:World} {ι:Emb} {o:Oper} {tm:Tm} {h h':Hp} {v:AV} {c:Call}
theorem joi {b:Bool} {k:IntKind} {x:Int} {a:AV} (e:jsR b k x a=v) (hv:v≠ .any):∃k' y,a= .int k' y∧v= .int k (bif (bif b then jbA x y else jbA y x) then y else x):=by
 cases a with
 | int k' y=>exact ⟨k',y,rfl,e.symm⟩
 | _=>exact absurd e.symm hv
theorem jim {b:Bool}:∀(l:List AV),jm7 b l .any= .any
 | []=>rfl
 | x::l=>jim l
theorem jhH {b:Bool}:∀(l:List AV) (lv:List Value) (a:AV) (va:Value) (v:AV),VRs ι l lv→VR ι a va→jm7 b l a=v→v≠ .any→(l=[]→∃k n,a= .int k n)→
  ∃vc,(lv.foldlM (bif b then Builtin.max2 else Builtin.min2) va).run P w= .ok vc w∧VR ι v vc
 | [],lv,a,va,v,hl,ha,e,hv,_=>by
   have:=VRs.nil.1 hl;subst this;have e':a=v:=e;subst e';exact ⟨va,by simp,ha⟩
 | x::l,lv,a,va,v,hl,ha,e,hv,hi=>by
   obtain ⟨u,us,rfl,h1,h2⟩:=VRs.cons.1 hl;have e':jm7 b l (juB b a x)=v:=e;have hm:juB b a x≠ .any:=fun hc=>by rw [hc,jim] at e';exact hv e'.symm
   cases a with
   | int k n=>
     obtain ⟨k',y,hx,hmv⟩:=joi (show jsR b k n x=juB b (.int k n) x from rfl) hm;have hva:=VR.int.1 ha;subst hva;subst hx;have hu:=VR.int.1 h1;subst hu;rw [hmv] at e';obtain ⟨vc,g1,g2⟩:=jhH l us (.int k (bif (bif b then jbA n y else jbA y n) then y else n)) (.int k (bif (bif b then jbA n y else jbA y n) then y else n)) v h2 (VR.int.2 rfl) e' hv (fun _=>⟨k,_,rfl⟩);refine ⟨vc, ?_,g2⟩;rw [List.foldlM_cons]
     have hs:((bif b then Builtin.max2 else Builtin.min2) (.int k n) (.int k' y)).run P w= .ok (.int k (bif (bif b then jbA n y else jbA y n) then y else n)) w:=by
      cases b
      ·simp only [cond_false,Builtin.min2,jb2,Sem.run_pure];by_cases hc:y < n <;> simp [hc]
      ·simp only [cond_true,Builtin.max2,jb2,Sem.run_pure];by_cases hc:n < y <;> simp [hc]
     simp only [Sem.run_bind,hs,Result.andThen_ok,g1]
   | _=>exact absurd rfl hm
theorem jqu {b:Bool} {B:Builtin} (hB:B=bif b then .max else .min) (hop:o.op= .call c) (hb:c.callee= .builtin B) (e:bMM b h (jgD (opd tm) c.args.toList)= .val v h'):OpOk P o tm h h' v [] []:=by
 match hl:c.args.toList with
 | []=>rw [hl] at e;cases e
 | [x]=>rw [hl] at e;cases e
 | x::y::xs=>
   rw [hl] at e;have e1:okv h (jm7 b (jgD (opd tm) (y::xs)) (opd tm x))= .val v h':=e;have hv:=jnM e1;obtain ⟨hf,rfl⟩:=jmg e1;refine OpOk.pure fun ι H w a hW ho hA=> ?_
   have hopr:=jkr hop hb ho;rw [hl] at hopr
   obtain ⟨vc,g1,g2⟩:=jhH (P:=P) (w:=w) (jgD (opd tm) (y::xs)) ((y::xs).map a.eval) (opd tm x) (a.eval x) v (jjC (fun q hq=>hopr q (List.mem_cons_of_mem _ hq))) (hopr x (by simp)) hf hv (fun hc=>by
    rw [jc2] at hc;cases hc)
   refine ⟨vc, ?_,g2⟩;have hargs:c.args=(x::y::xs).toArray:=by rw [←hl]
   subst hB;cases b
   ·simp only [cond_false] at hb g1;simp only [List.map_cons] at g1;simp only [execOp,hop,resolve,hb,invoke,builtin,hargs,Builtin.min_,List.map_toArray,List.map_cons,Sem.run_bind,Sem.run_pure,Result.andThen_ok,g1]
   ·simp only [cond_true] at hb g1;simp only [List.map_cons] at g1;simp only [execOp,hop,resolve,hb,invoke,builtin,hargs,Builtin.max_,List.map_toArray,List.map_cons,Sem.run_bind,Sem.run_pure,Result.andThen_ok,g1]
theorem joU {d s:AV} {t u:TypeId} (hop:o.op= .call c) (hb:c.callee= .builtin .copy) (ha:jgD (opd tm) c.args.toList=[d,s]) (ht:c.argTypes.toList=[t,u]) (e:jrG P t d s h= .val v h'):
  OpOk P o tm h h' v (jaF d++jaF s) (jaF d):=by
 obtain ⟨y,q,hy,hd,hs⟩:=juh ha;have hargs:=jaZ hy;have htys:=jaZ ht
 have run:∀(a:Act) (w:World),(execOp a.eval o).run P w=((Builtin.copy_ #[t,u] o.type #[a.eval y,a.eval q]).run P w).andThen fun v w=> .ok (.value v) w:=by
  intro a w;simp [execOp,hop,resolve,hb,invoke,builtin,hargs,htys]
 have opr:∀{ι:Emb} {a:Act},Opr ι tm a o→VR ι d (a.eval y)∧VR ι s (a.eval q):=fun ho=>by
  have:=jkr hop hb ho;rw [hy] at this;exact ⟨hd ▸ this y (by simp),hs ▸ this q (by simp)⟩
 unfold jrG at e;split at e
 ·rename_i id off dl cap
  split at e
  ·rename_i el hel
   have hu:=jaH hel;split at e
   ·rename_i z hz
    split at e
    ·rename_i sl hsl
     split at e
     ·rename_i new hnew
      split at e
      ·rename_i cs hcs
       cases hsc:jeH new with
       | false=>rw [hsc] at e;cases e
       | true=>
         rw [hsc] at e;simp only [cond_true] at e;split at e
         ·rename_i cs' hset
          obtain ⟨rfl,rfl⟩:=val_inj e;have hmin:(bif Nat.ble sl dl then sl else dl)=min sl dl:=jiS sl dl;rw [hmin] at hnew ⊢;refine OpOk.store (by simp [jaF]) (ji1 hcs) hset fun ι H w a hW ho hA hB=> ?_
          obtain ⟨h1,h2⟩:=opr ho;obtain ⟨l,p,k,hl,hv,hc,hcap⟩:=VR.slc.1 h1;have hHid:=hA id (by simp [jaF]) _ (ji1 hcs);obtain ⟨⟨r1,r2⟩,r3,r4⟩:=hW.blk id l _ hl hHid;obtain ⟨s1,s2,s3⟩:=jdb _ _ _ _ hset
          have hsrc:∃vals,VRs ι new vals∧(Builtin.lenOf (a.eval q)).run P w= .ok sl w∧(Builtin.firstCells z (min sl dl) (a.eval q)).run P w= .ok vals.toArray w∧(min sl dl=0→vals=[]):=by
           unfold firstCells at hnew;split at hnew
           ·rename_i id2 off2 jt3 cap2
            have:=Option.some.inj (show some jt3=some sl from hsl);subst this;split at hnew
            ·rename_i bs hbs
             obtain ⟨l2,p2,k2,hl2,hv2,hc2,hcap2⟩:=VR.slc.1 h2;obtain ⟨vals,g1,g2,g3⟩:=jco (jcm hW (hA id2 (by simp [jaF])) hl2 hbs) hnew;have hlc:jt3≤k2:=by cases cap2 <;> simp [jog] at hcap2 <;> omega
             refine ⟨vals,g2,by rw [hv2];rfl, ?_,fun h0=>by rw [h0,Nat.zero_mul] at g1;exact List.length_eq_zero_iff.1 g1⟩;rw [hv2]
             exact run_firstCells_some w z _ ⟨l2.b,p2,none⟩ jt3 k2 vals g1 (fun j b hj=>by
              have hlt:=jao hj
              have hp:=hc2 (by
               rcases Nat.eq_zero_or_pos (min jt3 dl) with h0|h0
               ·rw [h0,Nat.zero_mul] at g1;omega
               ·omega)
              rw [Addr.add_lit,hp]
              exact g3 j b hj)
            ·cases hnew
           ·have:=Option.some.inj hnew;subst this;have:=Option.some.inj (show some 0=some sl from hsl);subst this;have hv2:=VR.nils.1 h2;exact ⟨[],VRs.nil.2 rfl,by rw [hv2];rfl,by rw [hv2];simp [Builtin.firstCells],fun _=>rfl⟩
           ·cases hnew
           ·cases hnew
          obtain ⟨vals,g1,g2,g3,g4⟩:=hsrc;refine ⟨l,vals, .int .i64 ((min sl dl:Nat):Int),hl,g1,VR.int.2 rfl, .inl ?_⟩;have hlen:=((VRs.iff _ _).1 g1).1
          have hst:(storeCells ⟨l.b,p,none⟩ vals 0).run P w= .ok () (w.setCells l.b (l.d+off) vals):=by
           by_cases h0:min sl dl=0
           ·rw [g4 h0];rfl
           ·have hlc:dl≤k:=by cases cap <;> simp [jog] at hcap <;> omega
            have hp:=hc (by omega);subst hp
            have:=run_storeCells_cells (P:=P) l.b (l.d+off) vals 0 w (fun j hj=>by
             have hj':j < new.length:=by omega
             have:=s2 (by intro e;rw [e] at hj';simp at hj');have:=r3 (off+j) (by omega)
             rwa [←Nat.add_assoc] at this) (fun j hj=>r4 _) (VRs.one g1 hsc)
            simpa using this
          rw [run,hv];have hmm:Nat.min sl dl=min sl dl:=rfl;simp [Builtin.copy_,run_underlying hu,g2,jaD hz,hmm,g3,hst];rfl
         ·cases e
      ·cases e
     ·cases e
    ·cases e
   ·cases e
  ·cases e
 ·cases e
end
end Go.Proofs.YtpkcjfpgemdfdaaGreatDoor.Ax
