/- Parts. -/
import Derived.Test.YtfagcpcikjlboaaGreatDoorKnG
set_option linter.all false
set_option maxRecDepth 100000
set_option maxHeartbeats 8000000
namespace Go.Proofs.YtfagcpcikjlboaaGreatDoor
open Go Go.RowKit Go.Proofs.Tryz

theorem jqK (s:List UInt8):Lib.cut s [47]=(s.take (sl s),s.drop (sl s+1),decide (sl s < s.length)):=by
 rcases jc1 47 s with h|⟨a,b,rfl,h⟩
 ·rw [jcD h,jk2 (fun c hc e=>h (e ▸ hc))];simp
 ·rw [jdu b h,jk8 (fun c hc e=>h (e ▸ hc)),List.take_left,←List.drop_drop,List.drop_left];simp
theorem joM (s:List UInt8):Lib.trimPrefix (45::s) [45]=s:=by
 unfold Lib.trimPrefix;rw [if_pos (jf7.2 ⟨s,rfl⟩)];rfl
theorem jod {s:List UInt8} (h:s.head? ≠some 45):Lib.trimPrefix s [45]=s:=by
 unfold Lib.trimPrefix;rw [if_neg (fun e=>by obtain ⟨m,rfl⟩:=jf7.1 e;exact h rfl)]
theorem js9 {s:List UInt8}:((45::s)==[45,48])=(true && s==[48]):=by
 cases s with
 | nil=>rfl
 | cons a r=>simp [Bool.beq_eq_decide_eq]
structure Fw (d:Int) (l:List UInt8) (x:Rat):Prop where
 eq:l=tq x
 num:((Lib.decDigits x.num.natAbs).length:Int)≤d
 den:((Lib.decDigits x.den).length:Int)≤d
theorem Fw.is {d:Int} {l:List UInt8} {x:Rat} (h:Fw d l x) (hd:d≤600):IsNum l x:=⟨h.eq,by have:=h.num;omega,by have:=h.den;omega⟩
theorem jBr {n:Nat} (h:(Lib.decDigits n).length≤9):n < 1000000000:=Nat.lt_of_lt_of_le (jeT n) (Nat.le_trans (Nat.pow_le_pow_right (by omega) h) (by decide))
theorem Fw.sm {d:Int} {l:List UInt8} {x:Rat} (h:Fw d l x) (hd:d≤9):Sm x:=⟨jBr (by have:=h.num;omega),jBr (by have:=h.den;omega)⟩
theorem Sm.small {x:Rat} (h:Sm x):SmallQ x:=⟨by have:=h.num;omega,by have:=h.num;omega,by have:=h.den;omega⟩
theorem Sm.is {x:Rat} (h:Sm x):IsNum (tq x) x:=⟨rfl,by have:=jty h.num;omega,by have:=jty h.den;omega⟩
theorem Fw.len {d:Int} {l:List UInt8} {x:Rat} (h:Fw d l x):(l.length:Int)≤2*d+2:=by
 have h1:=h.num;have h2:=h.den;have h3:=jdX x;have h4:(tq x).length≤(uq x).length+1:=by rw [jcP];split <;> simp
 rw [h.eq];split at h3 <;> omega
noncomputable def few (d:Int) (l:List UInt8):Bool:= @decide (∃x,Fw d l x) (Classical.propDecidable _)
theorem jnL:Lib.decDigits 1=[49]:=by unfold Lib.decDigits;decide

theorem jbT {l:List UInt8} (h:Dig.plain l=true):jcG l∧0 < l.length:=by
 unfold Dig.plain at h;simp only [Bool.and_eq_true] at h;refine ⟨fun c hc=>List.all_eq_true.1 h.1.2 c hc, ?_⟩;cases l with
 | nil=>simp at h
 | cons a r=>simp
theorem jqW {gs:List Nat} (d:Pos.Dig B9 gs) (t:Pos.Trim gs) (h:Pos.nv B9 gs=1):gs=[1]:=
 Pos.nv_trim_inj jal d (fun x hx=>by rw [List.mem_singleton] at hx;subst hx;decide) t (by simp [Pos.Trim]) (by rw [h];rfl)
section
variable {w:World}
theorem jlq:Calls prog 17 #[bs []] w fun e w'=>e= .returned (.int .i64 1)∧Below w.heap.size w w':=by
 have HS:Hd (∀W,Calls prog 46 #[bs []] W fun e w'=>e= .returned (.int .i64 0)∧Below W.heap.size W w'):=qh (fun W=>jaA (w:=W) (l:=[]) (by decide));have HP:=qh (fun W=>jdj (w:=W) (l:=[]) (b:=false) rfl (by decide));have q6:∀W,(Instr.slice 9 (bs []) none (some (.int .i64 0)) none).run prog W= .ok (bs []) W:=fun W=>jcJ (l:=[]) (k:=0) underlying9 (Nat.le_refl _) W
 go_enter func17,ntmps17;go_wp2_with (first|(go_at_call 46;(with_reducible refine mo0 (HS.o _) fun w1 hb1 hc1 hf1 _=> ?_))|(go_at_call 47;(with_reducible refine mo0 (HP.o _) fun w2 hb2 hc2 hf2 _=> ?_)))
 go_ret;exact ⟨rfl,bi⟩
end
def ji6 (g:Bool) (size bot:List UInt8) (is:Bool):Int:=
 if !Dig.plain size || (g && size==[48]) then 1
 else if is && (!Dig.plain bot || (bot==[48]) || (bot==[49])) then 1
 else if decide (600 < size.length) || decide (600 < bot.length) then 4
 else if is && decide (Nat.gcd (Dig.val size) (Dig.val bot)≠1) then 1 else 0
theorem Pz.dv {x y:Nat} {L M N:Nat} {w w':World} {e:Ending} (h:Pz (x:Int) (y:Int) L M w e w') (hL:L≤N) (hM:M≤N):∃A n c ds B m d es,e= .returned (.tuple #[.agg #[.bool false, .slice A n c], .agg #[.bool false, .slice B m d]])∧Dv w' A n ds∧Pos.Trim ds∧Pos.nv B9 ds=x∧Dv w' B m es∧Pos.Trim es∧Pos.nv B9 es=y∧n≤N∧m≤N∧Below w.heap.size w w':=by
 obtain ⟨u,v,rfl,⟨A,n,c,ds,rfl,h1,h2,h3, -, -,h4⟩,⟨B,m,d,es,rfl,k1,k2,k3, -, -,k4⟩,hb⟩:=h;have e1:decide ((x:Int) < 0)=false:=by rw [decide_eq_false_iff_not];omega
 have e2:decide ((y:Int) < 0)=false:=by rw [decide_eq_false_iff_not];omega
 rw [e1,e2];exact ⟨A,n,c,ds,B,m,d,es,rfl,h1,h2,h3,k1,k2,k3,Nat.le_trans h4 hL,Nat.le_trans k4 hM,hb⟩
theorem jjR {g:Bool} {top size bot:List UInt8} {is:Bool} (ht:(top==[45,48])=(g && size==[48])):ji6 g size bot is=jek top size bot is:=by
 unfold ji6 jek jcb;rw [ht];by_cases h:600 < size.length∨600 < bot.length
 ·rw [if_pos h];have e:(decide (600 < size.length) || decide (600 < bot.length))=true:=by simpa using h
  rw [e];cases (!Dig.plain size || (g && size==[48])) <;> cases (is && (!Dig.plain bot || (bot==[48]) || (bot==[49]))) <;> simp
 ·rw [if_neg h];have e:(decide (600 < size.length) || decide (600 < bot.length))=false:=by simpa using h
  rw [e];cases (!Dig.plain size || (g && size==[48])) <;> cases (is && (!Dig.plain bot || (bot==[48]) || (bot==[49]))) <;> simp
theorem jnz {s:List UInt8}:ji6 true (s.take (sl s)) (s.drop (sl s+1)) (decide (sl s < s.length))=chk (45::s):=by
 have e:=jqK (45::s);have e2:sl (45::s)=sl s+1:=by rw [sl,if_neg (by decide)]
 rw [e2,List.take_succ_cons,List.drop_succ_cons,show decide (sl s+1 < (45::s).length)=decide (sl s < s.length) by simp] at e;rw [jfK e (joM _)];exact jjR (top:=45::s.take (sl s)) js9
theorem jhE {s:List UInt8} (h:s.head? ≠some 45):ji6 false (s.take (sl s)) (s.drop (sl s+1)) (decide (sl s < s.length))=chk s:=by
 have ht:(s.take (sl s)).head? ≠some 45:=by
  cases s with
  | nil=>simp
  | cons a r=>
    rw [sl];split
    ·simp
    ·simpa using h
 rw [jfK (jqK s) (jod ht)];refine jjR ?_;rw [Bool.false_and,beq_eq_false_iff_ne];intro e;rw [e] at ht;exact ht rfl
section
variable {w:World} {l s size bot:List UInt8} {k:Nat}
theorem jj8 (hs:l=45::s) (hk:sl s=k) (hsz:s.take k=size) (hbt:s.drop (k+1)=bot) (hl:l.length≤15000):
  Calls prog 17 #[bs l] w fun e w'=>e= .returned (.int .i64 (ji6 true size bot (decide (k < s.length))))∧Below w.heap.size w w':=by
 have hll:l.length=s.length+1:=by rw [hs];simp
 have q1:=jaW (l:=l) (i:=0) (c:=45) (by omega) (by rw [hs];rfl);have q2:decide (0 < l.length)=true:=by rw [decide_eq_true_iff];omega
 have q3:(((45:UInt8).toNat:Int)==45)=true:=rfl;have q9:l.tail=s:=by rw [hs];rfl
 have q10:(⟨l.toArray⟩:ByteArray).extract 1 l.length=⟨s.toArray⟩:=by rw [jat,hs];rfl
 have q11:0 < l.length:=by omega
 have hle:=jgv s;rw [hk] at hle;have hzl:size.length=k:=by rw [←hsz,List.length_take];omega
 have hbl:bot.length=s.length - (k+1):=by rw [←hbt,List.length_drop]
 have HS:=qh (fun W=>by have:=jaA (w:=W) (l:=s) (by omega);rwa [hk] at this);obtain ⟨b1,hb1⟩:∃b,Dig.plain size=b:=⟨_,rfl⟩;obtain ⟨b2,hb2⟩:∃b,Dig.plain bot=b:=⟨_,rfl⟩;have HP:=qh (fun W=>jdj (w:=W) hb1 (by omega));have HB:=qh (fun W=>jdj (w:=W) hb2 (by omega));have q6:=fun W=>jcJ (l:=s) (k:=k) underlying9 hle W
 rw [hsz] at q6;unfold ji6;rw [hb1,hb2];cases b1
 ·rw [show (!false || (true && size==[48]))=true from rfl,if_pos rfl];clear hs hk hsz hbt hl hll hle hzl hbl hb1 hb2;go_enter func17,ntmps17;go_wp2_with (first|(go_at_call 46;(with_reducible refine mo0 (HS.o _) fun w1 hb1 hc1 hf1 _=> ?_))|(go_at_call 47;(with_reducible show Calls _ _ #[bs size] _ _);(with_reducible refine mo0 (HP.o _) fun w2 hb2 hc2 hf2 _=> ?_))|(go_at_call 47;(with_reducible show Calls _ _ #[bs bot] _ _);(with_reducible refine mo0 (HB.o _) fun w3 hb3 hc3 hf3 _=> ?_)))
  go_ret;exact ⟨rfl,bi⟩
 ·obtain ⟨hdz,h0z⟩:=jbT hb1;by_cases hz:(true && size==[48])=true
  ·rw [show (!true || (true && size==[48]))=true by rw [hz];rfl,if_pos rfl];have r0:(size==[48])=true:=by simpa using hz
   clear hs hk hsz hbt hl hll hle hzl hbl hb1 hb2;clear hz hdz h0z;go_enter func17,ntmps17;go_wp2_with (first|(go_at_call 46;(with_reducible refine mo0 (HS.o _) fun w1 hb1 hc1 hf1 _=> ?_))|(go_at_call 47;(with_reducible show Calls _ _ #[bs size] _ _);(with_reducible refine mo0 (HP.o _) fun w2 hb2 hc2 hf2 _=> ?_))|(go_at_call 47;(with_reducible show Calls _ _ #[bs bot] _ _);(with_reducible refine mo0 (HB.o _) fun w3 hb3 hc3 hf3 _=> ?_)))
   go_ret;exact ⟨rfl,bi⟩
  ·rw [show (!true || (true && size==[48]))=false by simpa using hz,if_neg (by decide)];have r0:(size==[48])=false:=by simpa using hz
   have m2:=jc3 (i:=k) (by omega);have m4:wrap64 ((s.length:Int) - (k:Int))=(s.length:Int) - (k:Int):=by unfold wrap64;omega
   have m5:wrap64 ((s.length:Int) - (k:Int) - 1)=(s.length:Int) - (k:Int) - 1:=by unfold wrap64;omega
   by_cases his:k < s.length
   ·have r3:decide (k < s.length)=true:=by simpa using his
    rw [r3];have q8:=fun W=>jaV (l:=s) (k:=k+1) underlying9 (by omega) W
    rw [hbt] at q8;simp only [←m2] at q8;cases b2
    ·rw [show (true && (!false || (bot==[48]) || (bot==[49])))=true from rfl,if_pos rfl];clear hs hk hsz hbt hl hll hle hzl hbl hb1 hb2;clear hz hdz h0z his m2;go_enter func17,ntmps17;go_wp2_with (first|(go_at_call 46;(with_reducible refine mo0 (HS.o _) fun w1 hb1 hc1 hf1 _=> ?_))|(go_at_call 47;(with_reducible show Calls _ _ #[bs size] _ _);(with_reducible refine mo0 (HP.o _) fun w2 hb2 hc2 hf2 _=> ?_))|(go_at_call 47;(with_reducible show Calls _ _ #[bs bot] _ _);(with_reducible refine mo0 (HB.o _) fun w3 hb3 hc3 hf3 _=> ?_)))
     go_ret;exact ⟨rfl,bi⟩
    ·by_cases h48:bot=[48]
     ·rw [show (true && (!true || (bot==[48]) || (bot==[49])))=true by rw [h48];rfl,if_pos rfl];have r4:(bot==[48])=true:=by rw [h48];rfl
      clear hs hk hsz hbt hl hll hle hzl hbl hb1 hb2;clear hz hdz h0z his m2 h48;go_enter func17,ntmps17;go_wp2_with (first|(go_at_call 46;(with_reducible refine mo0 (HS.o _) fun w1 hb1 hc1 hf1 _=> ?_))|(go_at_call 47;(with_reducible show Calls _ _ #[bs size] _ _);(with_reducible refine mo0 (HP.o _) fun w2 hb2 hc2 hf2 _=> ?_))|(go_at_call 47;(with_reducible show Calls _ _ #[bs bot] _ _);(with_reducible refine mo0 (HB.o _) fun w3 hb3 hc3 hf3 _=> ?_)))
      go_ret;exact ⟨rfl,bi⟩
     ·have r4:(bot==[48])=false:=by simpa using h48
      by_cases h49:bot=[49]
      ·rw [show (true && (!true || (bot==[48]) || (bot==[49])))=true by rw [h49];rfl,if_pos rfl];have r5:(bot==[49])=true:=by rw [h49];rfl
       clear hs hk hsz hbt hl hll hle hzl hbl hb1 hb2;clear hz hdz h0z his m2 h48 h49;go_enter func17,ntmps17;go_wp2_with (first|(go_at_call 46;(with_reducible refine mo0 (HS.o _) fun w1 hb1 hc1 hf1 _=> ?_))|(go_at_call 47;(with_reducible show Calls _ _ #[bs size] _ _);(with_reducible refine mo0 (HP.o _) fun w2 hb2 hc2 hf2 _=> ?_))|(go_at_call 47;(with_reducible show Calls _ _ #[bs bot] _ _);(with_reducible refine mo0 (HB.o _) fun w3 hb3 hc3 hf3 _=> ?_)))
       go_ret;exact ⟨rfl,bi⟩
      ·have r5:(bot==[49])=false:=by simpa using h49
       rw [show (true && (!true || (bot==[48]) || (bot==[49])))=false by rw [r4,r5];rfl,if_neg (by decide),Bool.true_and];by_cases hL1:600 < k
       ·rw [if_pos (by rw [hzl];simp [hL1])];have r1:decide ((600:Int) < (k:Int))=true:=by rw [decide_eq_true_iff];omega
        clear hs hk hsz hbt hl hll hle hzl hbl hb1 hb2;clear hz hdz h0z his m2 h48 h49 hL1;go_enter func17,ntmps17;go_wp2_with (first|(go_at_call 46;(with_reducible refine mo0 (HS.o _) fun w1 hb1 hc1 hf1 _=> ?_))|(go_at_call 47;(with_reducible show Calls _ _ #[bs size] _ _);(with_reducible refine mo0 (HP.o _) fun w2 hb2 hc2 hf2 _=> ?_))|(go_at_call 47;(with_reducible show Calls _ _ #[bs bot] _ _);(with_reducible refine mo0 (HB.o _) fun w3 hb3 hc3 hf3 _=> ?_)))
        go_ret;exact ⟨rfl,bi⟩
       ·have r1:decide ((600:Int) < (k:Int))=false:=by rw [decide_eq_false_iff_not];omega
        by_cases hL2:600 < bot.length
        ·rw [if_pos (by simp [hL2])];have r2:decide ((600:Int) < (s.length:Int) - (k:Int) - 1)=true:=by rw [decide_eq_true_iff];omega
         clear hs hk hsz hbt hl hll hle hzl hbl hb1 hb2;clear hz hdz h0z his m2 h48 h49 hL1 hL2;go_enter func17,ntmps17;go_wp2_with (first|(go_at_call 46;(with_reducible refine mo0 (HS.o _) fun w1 hb1 hc1 hf1 _=> ?_))|(go_at_call 47;(with_reducible show Calls _ _ #[bs size] _ _);(with_reducible refine mo0 (HP.o _) fun w2 hb2 hc2 hf2 _=> ?_))|(go_at_call 47;(with_reducible show Calls _ _ #[bs bot] _ _);(with_reducible refine mo0 (HB.o _) fun w3 hb3 hc3 hf3 _=> ?_)))
         go_ret;exact ⟨rfl,bi⟩
        ·rw [if_neg (by rw [hzl];simp [hL1,hL2])];have r2:decide ((600:Int) < (s.length:Int) - (k:Int) - 1)=false:=by rw [decide_eq_false_iff_not];omega
         have hbp:=jbT hb2;have HPT:=qh (fun W=>(jfd (w:=W) hk his (by omega) hsz hbt (fun W=>jbL hdz h0z (by omega) rfl) (fun W=>jbL hbp.1 hbp.2 (by omega) rfl)).mono fun e w' h=>h.dv (show size.length+1≤20000 by omega) (show bot.length+1≤20000 by omega));obtain ⟨G,hG⟩:∃G,Nat.gcd (Dig.val size) (Dig.val bot)=G:=⟨_,rfl⟩;rw [show decide (Nat.gcd (Dig.val size) (Dig.val bot)≠1)=decide (G≠1) by simp only [hG]];have HG:=qh hG;obtain ⟨R,hR⟩:∃R:Int,(if decide (G≠1)=true then 1 else 0)=R:=⟨_,rfl⟩;rw [hR];have HR:=qh hR;clear hR;clear hs hk hsz hbt hl hll hle hzl hbl hb1 hb2;clear hz hdz h0z his m2 h48 h49 hbp hG hL1 hL2;go_enter func17,ntmps17;go_upto_region 14 with (first|(go_at_call 46;(with_reducible refine mo0 (HS.o _) fun w1 hb1 hc1 hf1 _=> ?_))|(go_at_call 47;(with_reducible show Calls _ _ #[bs size] _ _);(with_reducible refine mo0 (HP.o _) fun w2 hb2 hc2 hf2 _=> ?_))|(go_at_call 47;(with_reducible show Calls _ _ #[bs bot] _ _);(with_reducible refine mo0 (HB.o _) fun w3 hb3 hc3 hf3 _=> ?_))|(go_at_call 39;(with_reducible refine (HPT.o _).mono ?_);rintro e4 w4 ⟨A4,n4,c4,ds4,B4,n5,d4,es4,rfl,hd4,ht4,hv4,he4,hu4,hx4,hn4,hm4,hb4⟩;obtain ⟨hc4,hf4,_⟩:=bc0 hb4;have H4:=qh (ai hd4 (ai ht4 (ai hv4 (ai he4 (ai hu4 hx4)))));have HSM:=qh (ai hn4 hm4);clear hn4 hm4 hd4 ht4 hv4 he4 hu4 hx4)|(go_at_call 48;(with_reducible refine (jh8 (H4.o.1.below bi) (H4.o.2.2.2.1.below bi) H4.o.2.1 H4.o.2.2.2.2.1 HSM.o.1 HSM.o.2).mono ?_);rintro e5 w5 ⟨G5,k5,d5,gs,rfl,hg5,tg5,hvg,hb5⟩;obtain ⟨hc5,hf5,_⟩:=bc0 hb5;rw [H4.o.2.2.1,H4.o.2.2.2.2.2,HG.o] at hvg;have H5:=qh (ai hg5 (ai tg5 hvg));clear hg5 tg5 hvg))
         by_cases h1:G=1
         ·subst h1;obtain rfl:=jqW H5.o.1.dig H5.o.2.1 H5.o.2.2;obtain rfl:k5=1:=H5.o.1.len.symm;obtain ⟨b,o,rfl,hlt,hcell⟩:=H5.o.1.at_ (by omega);have hcl:w5.cell? ⟨b,o,none⟩=some (.int .i64 1):=hcell 0 (by omega);clear hcell hlt;obtain rfl:(0:Int)=R:=HR.o;clear HR;go_wp2;go_ret;exact ⟨rfl,bi⟩
         ·have r6:decide (G≠1)=true:=by simpa using h1
          obtain rfl:(1:Int)=R:=by rw [←HR.o,r6];rfl
          clear HR;by_cases hk5:k5=1
          ·subst hk5
           obtain ⟨y,rfl⟩:∃y,gs=[y]:=by
            have:=H5.o.1.len
            match gs,this with
            | [y],_=>exact ⟨y,rfl⟩
           obtain ⟨b,o,rfl,hlt,hcell⟩:=H5.o.1.at_ (by omega);have hcl:w5.cell? ⟨b,o,none⟩=some (.int .i64 (y:Int)):=hcell 0 (by omega);have hy:y=G:=by have:=H5.o.2.2;rwa [Pos.nv_one] at this
           have r7:((y:Int) != 1)=true:=by rw [bne_iff_ne];omega
           have r8:(y != 1)=true:=by rw [bne_iff_ne];omega
           clear hcell hlt hy h1 r6;go_wp2;go_ret;exact ⟨rfl,bi⟩
          ·have r7:((k5:Int) != 1)=true:=by rw [bne_iff_ne];omega
           have r8:(k5 != 1)=true:=by rw [bne_iff_ne];omega
           clear h1 r6 hk5;go_wp2;go_ret;exact ⟨rfl,bi⟩
   ·have r3:decide (k < s.length)=false:=by simpa using his
    rw [r3,Bool.false_and,if_neg (by decide)];by_cases hL1:600 < k
    ·rw [if_pos (by rw [hzl];simp [hL1])];have r1:decide ((600:Int) < (k:Int))=true:=by rw [decide_eq_true_iff];omega
     clear hs hk hsz hbt hl hll hle hzl hbl hb1 hb2;clear hz hdz h0z his m2 hL1;go_enter func17,ntmps17;go_wp2_with (first|(go_at_call 46;(with_reducible refine mo0 (HS.o _) fun w1 hb1 hc1 hf1 _=> ?_))|(go_at_call 47;(with_reducible show Calls _ _ #[bs size] _ _);(with_reducible refine mo0 (HP.o _) fun w2 hb2 hc2 hf2 _=> ?_))|(go_at_call 47;(with_reducible show Calls _ _ #[bs bot] _ _);(with_reducible refine mo0 (HB.o _) fun w3 hb3 hc3 hf3 _=> ?_)))
     go_ret;exact ⟨rfl,bi⟩
    ·rw [if_neg (by rw [hzl,hbl];simp [hL1];omega),Bool.false_and,if_neg (by decide)];have r1:decide ((600:Int) < (k:Int))=false:=by rw [decide_eq_false_iff_not];omega
     have r2:decide ((600:Int) < (s.length:Int) - (k:Int) - 1)=false:=by rw [decide_eq_false_iff_not];omega
     clear hs hk hsz hbt hl hll hle hzl hbl hb1 hb2;clear hz hdz h0z his m2 hL1;go_enter func17,ntmps17;go_wp2_with (first|(go_at_call 46;(with_reducible refine mo0 (HS.o _) fun w1 hb1 hc1 hf1 _=> ?_))|(go_at_call 47;(with_reducible show Calls _ _ #[bs size] _ _);(with_reducible refine mo0 (HP.o _) fun w2 hb2 hc2 hf2 _=> ?_))|(go_at_call 47;(with_reducible show Calls _ _ #[bs bot] _ _);(with_reducible refine mo0 (HB.o _) fun w3 hb3 hc3 hf3 _=> ?_)))
     go_ret;exact ⟨rfl,bi⟩
theorem jjg (h0:0 < s.length) (hh:s.head? ≠some 45) (hk:sl s=k) (hsz:s.take k=size) (hbt:s.drop (k+1)=bot) (hl:s.length≤15000):
  Calls prog 17 #[bs s] w fun e w'=>e= .returned (.int .i64 (ji6 false size bot (decide (k < s.length))))∧Below w.heap.size w w':=by
 obtain ⟨c,hc⟩:∃c,s.getD 0 0=c:=⟨_,rfl⟩;have q1:=jaW h0 hc
 have hcc:c≠45:=by
  intro e;apply hh;cases s with
  | nil=>simp at h0
  | cons a r=>simp at hc;rw [←e,←hc];rfl
 have q2:decide (0 < s.length)=true:=by rw [decide_eq_true_iff];omega
 have q3:(((c.toNat:Nat):Int)==45)=false:=by
  rw [beq_eq_false_iff_ne];intro h;exact hcc (UInt8.toNat_inj.1 (by rw [show (45:UInt8).toNat=45 from rfl];omega))
 have hle:=jgv s;rw [hk] at hle;have hzl:size.length=k:=by rw [←hsz,List.length_take];omega
 have hbl:bot.length=s.length - (k+1):=by rw [←hbt,List.length_drop]
 have HS:=qh (fun W=>by have:=jaA (w:=W) (l:=s) (by omega);rwa [hk] at this);obtain ⟨b1,hb1⟩:∃b,Dig.plain size=b:=⟨_,rfl⟩;obtain ⟨b2,hb2⟩:∃b,Dig.plain bot=b:=⟨_,rfl⟩;have HP:=qh (fun W=>jdj (w:=W) hb1 (by omega));have HB:=qh (fun W=>jdj (w:=W) hb2 (by omega));have q6:=fun W=>jcJ (l:=s) (k:=k) underlying9 hle W
 rw [hsz] at q6;unfold ji6;rw [hb1,hb2];cases b1
 ·rw [show (!false || (false && size==[48]))=true from rfl,if_pos rfl];clear hk hsz hbt hl hle hzl hbl hb1 hb2 hh hc hcc;go_enter func17,ntmps17;go_wp2_with (first|(go_at_call 46;(with_reducible refine mo0 (HS.o _) fun w1 hb1 hc1 hf1 _=> ?_))|(go_at_call 47;(with_reducible show Calls _ _ #[bs size] _ _);(with_reducible refine mo0 (HP.o _) fun w2 hb2 hc2 hf2 _=> ?_))|(go_at_call 47;(with_reducible show Calls _ _ #[bs bot] _ _);(with_reducible refine mo0 (HB.o _) fun w3 hb3 hc3 hf3 _=> ?_)))
  go_ret;exact ⟨rfl,bi⟩
 ·obtain ⟨hdz,h0z⟩:=jbT hb1;have hz:¬((false && size==[48])=true):=by simp
  rw [show (!true || (false && size==[48]))=false by simp,if_neg (by decide)]
  skip
  have m2:=jc3 (i:=k) (by omega);have m4:wrap64 ((s.length:Int) - (k:Int))=(s.length:Int) - (k:Int):=by unfold wrap64;omega
  have m5:wrap64 ((s.length:Int) - (k:Int) - 1)=(s.length:Int) - (k:Int) - 1:=by unfold wrap64;omega
  by_cases his:k < s.length
  ·have r3:decide (k < s.length)=true:=by simpa using his
   rw [r3];have q8:=fun W=>jaV (l:=s) (k:=k+1) underlying9 (by omega) W
   rw [hbt] at q8;simp only [←m2] at q8;cases b2
   ·rw [show (true && (!false || (bot==[48]) || (bot==[49])))=true from rfl,if_pos rfl];clear hk hsz hbt hl hle hzl hbl hb1 hb2 hh hc hcc;clear hz hdz h0z his m2;go_enter func17,ntmps17;go_wp2_with (first|(go_at_call 46;(with_reducible refine mo0 (HS.o _) fun w1 hb1 hc1 hf1 _=> ?_))|(go_at_call 47;(with_reducible show Calls _ _ #[bs size] _ _);(with_reducible refine mo0 (HP.o _) fun w2 hb2 hc2 hf2 _=> ?_))|(go_at_call 47;(with_reducible show Calls _ _ #[bs bot] _ _);(with_reducible refine mo0 (HB.o _) fun w3 hb3 hc3 hf3 _=> ?_)))
    go_ret;exact ⟨rfl,bi⟩
   ·by_cases h48:bot=[48]
    ·rw [show (true && (!true || (bot==[48]) || (bot==[49])))=true by rw [h48];rfl,if_pos rfl];have r4:(bot==[48])=true:=by rw [h48];rfl
     clear hk hsz hbt hl hle hzl hbl hb1 hb2 hh hc hcc;clear hz hdz h0z his m2 h48;go_enter func17,ntmps17;go_wp2_with (first|(go_at_call 46;(with_reducible refine mo0 (HS.o _) fun w1 hb1 hc1 hf1 _=> ?_))|(go_at_call 47;(with_reducible show Calls _ _ #[bs size] _ _);(with_reducible refine mo0 (HP.o _) fun w2 hb2 hc2 hf2 _=> ?_))|(go_at_call 47;(with_reducible show Calls _ _ #[bs bot] _ _);(with_reducible refine mo0 (HB.o _) fun w3 hb3 hc3 hf3 _=> ?_)))
     go_ret;exact ⟨rfl,bi⟩
    ·have r4:(bot==[48])=false:=by simpa using h48
     by_cases h49:bot=[49]
     ·rw [show (true && (!true || (bot==[48]) || (bot==[49])))=true by rw [h49];rfl,if_pos rfl];have r5:(bot==[49])=true:=by rw [h49];rfl
      clear hk hsz hbt hl hle hzl hbl hb1 hb2 hh hc hcc;clear hz hdz h0z his m2 h48 h49;go_enter func17,ntmps17;go_wp2_with (first|(go_at_call 46;(with_reducible refine mo0 (HS.o _) fun w1 hb1 hc1 hf1 _=> ?_))|(go_at_call 47;(with_reducible show Calls _ _ #[bs size] _ _);(with_reducible refine mo0 (HP.o _) fun w2 hb2 hc2 hf2 _=> ?_))|(go_at_call 47;(with_reducible show Calls _ _ #[bs bot] _ _);(with_reducible refine mo0 (HB.o _) fun w3 hb3 hc3 hf3 _=> ?_)))
      go_ret;exact ⟨rfl,bi⟩
     ·have r5:(bot==[49])=false:=by simpa using h49
      rw [show (true && (!true || (bot==[48]) || (bot==[49])))=false by rw [r4,r5];rfl,if_neg (by decide),Bool.true_and];by_cases hL1:600 < k
      ·rw [if_pos (by rw [hzl];simp [hL1])];have r1:decide ((600:Int) < (k:Int))=true:=by rw [decide_eq_true_iff];omega
       clear hk hsz hbt hl hle hzl hbl hb1 hb2 hh hc hcc;clear hz hdz h0z his m2 h48 h49 hL1;go_enter func17,ntmps17;go_wp2_with (first|(go_at_call 46;(with_reducible refine mo0 (HS.o _) fun w1 hb1 hc1 hf1 _=> ?_))|(go_at_call 47;(with_reducible show Calls _ _ #[bs size] _ _);(with_reducible refine mo0 (HP.o _) fun w2 hb2 hc2 hf2 _=> ?_))|(go_at_call 47;(with_reducible show Calls _ _ #[bs bot] _ _);(with_reducible refine mo0 (HB.o _) fun w3 hb3 hc3 hf3 _=> ?_)))
       go_ret;exact ⟨rfl,bi⟩
      ·have r1:decide ((600:Int) < (k:Int))=false:=by rw [decide_eq_false_iff_not];omega
       by_cases hL2:600 < bot.length
       ·rw [if_pos (by simp [hL2])];have r2:decide ((600:Int) < (s.length:Int) - (k:Int) - 1)=true:=by rw [decide_eq_true_iff];omega
        clear hk hsz hbt hl hle hzl hbl hb1 hb2 hh hc hcc;clear hz hdz h0z his m2 h48 h49 hL1 hL2;go_enter func17,ntmps17;go_wp2_with (first|(go_at_call 46;(with_reducible refine mo0 (HS.o _) fun w1 hb1 hc1 hf1 _=> ?_))|(go_at_call 47;(with_reducible show Calls _ _ #[bs size] _ _);(with_reducible refine mo0 (HP.o _) fun w2 hb2 hc2 hf2 _=> ?_))|(go_at_call 47;(with_reducible show Calls _ _ #[bs bot] _ _);(with_reducible refine mo0 (HB.o _) fun w3 hb3 hc3 hf3 _=> ?_)))
        go_ret;exact ⟨rfl,bi⟩
       ·rw [if_neg (by rw [hzl];simp [hL1,hL2])];have r2:decide ((600:Int) < (s.length:Int) - (k:Int) - 1)=false:=by rw [decide_eq_false_iff_not];omega
        have hbp:=jbT hb2;have HPT:=qh (fun W=>(jfd (w:=W) hk his (by omega) hsz hbt (fun W=>jbL hdz h0z (by omega) rfl) (fun W=>jbL hbp.1 hbp.2 (by omega) rfl)).mono fun e w' h=>h.dv (show size.length+1≤20000 by omega) (show bot.length+1≤20000 by omega));obtain ⟨G,hG⟩:∃G,Nat.gcd (Dig.val size) (Dig.val bot)=G:=⟨_,rfl⟩;rw [show decide (Nat.gcd (Dig.val size) (Dig.val bot)≠1)=decide (G≠1) by simp only [hG]];have HG:=qh hG;obtain ⟨R,hR⟩:∃R:Int,(if decide (G≠1)=true then 1 else 0)=R:=⟨_,rfl⟩;rw [hR];have HR:=qh hR;clear hR;clear hk hsz hbt hl hle hzl hbl hb1 hb2 hh hc hcc;clear hz hdz h0z his m2 h48 h49 hbp hG hL1 hL2;go_enter func17,ntmps17;go_upto_region 14 with (first|(go_at_call 46;(with_reducible refine mo0 (HS.o _) fun w1 hb1 hc1 hf1 _=> ?_))|(go_at_call 47;(with_reducible show Calls _ _ #[bs size] _ _);(with_reducible refine mo0 (HP.o _) fun w2 hb2 hc2 hf2 _=> ?_))|(go_at_call 47;(with_reducible show Calls _ _ #[bs bot] _ _);(with_reducible refine mo0 (HB.o _) fun w3 hb3 hc3 hf3 _=> ?_))|(go_at_call 39;(with_reducible refine (HPT.o _).mono ?_);rintro e4 w4 ⟨A4,n4,c4,ds4,B4,n5,d4,es4,rfl,hd4,ht4,hv4,he4,hu4,hx4,hn4,hm4,hb4⟩;obtain ⟨hc4,hf4,_⟩:=bc0 hb4;have H4:=qh (ai hd4 (ai ht4 (ai hv4 (ai he4 (ai hu4 hx4)))));have HSM:=qh (ai hn4 hm4);clear hn4 hm4 hd4 ht4 hv4 he4 hu4 hx4)|(go_at_call 48;(with_reducible refine (jh8 (H4.o.1.below bi) (H4.o.2.2.2.1.below bi) H4.o.2.1 H4.o.2.2.2.2.1 HSM.o.1 HSM.o.2).mono ?_);rintro e5 w5 ⟨G5,k5,d5,gs,rfl,hg5,tg5,hvg,hb5⟩;obtain ⟨hc5,hf5,_⟩:=bc0 hb5;rw [H4.o.2.2.1,H4.o.2.2.2.2.2,HG.o] at hvg;have H5:=qh (ai hg5 (ai tg5 hvg));clear hg5 tg5 hvg))
        by_cases h1:G=1
        ·subst h1;obtain rfl:=jqW H5.o.1.dig H5.o.2.1 H5.o.2.2;obtain rfl:k5=1:=H5.o.1.len.symm;obtain ⟨b,o,rfl,hlt,hcell⟩:=H5.o.1.at_ (by omega);have hcl:w5.cell? ⟨b,o,none⟩=some (.int .i64 1):=hcell 0 (by omega);clear hcell hlt;obtain rfl:(0:Int)=R:=HR.o;clear HR;go_wp2;go_ret;exact ⟨rfl,bi⟩
        ·have r6:decide (G≠1)=true:=by simpa using h1
         obtain rfl:(1:Int)=R:=by rw [←HR.o,r6];rfl
         clear HR;by_cases hk5:k5=1
         ·subst hk5
          obtain ⟨y,rfl⟩:∃y,gs=[y]:=by
           have:=H5.o.1.len
           match gs,this with
           | [y],_=>exact ⟨y,rfl⟩
          obtain ⟨b,o,rfl,hlt,hcell⟩:=H5.o.1.at_ (by omega);have hcl:w5.cell? ⟨b,o,none⟩=some (.int .i64 (y:Int)):=hcell 0 (by omega);have hy:y=G:=by have:=H5.o.2.2;rwa [Pos.nv_one] at this
          have r7:((y:Int) != 1)=true:=by rw [bne_iff_ne];omega
          have r8:(y != 1)=true:=by rw [bne_iff_ne];omega
          clear hcell hlt hy h1 r6;go_wp2;go_ret;exact ⟨rfl,bi⟩
         ·have r7:((k5:Int) != 1)=true:=by rw [bne_iff_ne];omega
          have r8:(k5 != 1)=true:=by rw [bne_iff_ne];omega
          clear h1 r6 hk5;go_wp2;go_ret;exact ⟨rfl,bi⟩
  ·have r3:decide (k < s.length)=false:=by simpa using his
   rw [r3,Bool.false_and,if_neg (by decide)];by_cases hL1:600 < k
   ·rw [if_pos (by rw [hzl];simp [hL1])];have r1:decide ((600:Int) < (k:Int))=true:=by rw [decide_eq_true_iff];omega
    clear hk hsz hbt hl hle hzl hbl hb1 hb2 hh hc hcc;clear hz hdz h0z his m2 hL1;go_enter func17,ntmps17;go_wp2_with (first|(go_at_call 46;(with_reducible refine mo0 (HS.o _) fun w1 hb1 hc1 hf1 _=> ?_))|(go_at_call 47;(with_reducible show Calls _ _ #[bs size] _ _);(with_reducible refine mo0 (HP.o _) fun w2 hb2 hc2 hf2 _=> ?_))|(go_at_call 47;(with_reducible show Calls _ _ #[bs bot] _ _);(with_reducible refine mo0 (HB.o _) fun w3 hb3 hc3 hf3 _=> ?_)))
    go_ret;exact ⟨rfl,bi⟩
   ·rw [if_neg (by rw [hzl,hbl];simp [hL1];omega),Bool.false_and,if_neg (by decide)];have r1:decide ((600:Int) < (k:Int))=false:=by rw [decide_eq_false_iff_not];omega
    have r2:decide ((600:Int) < (s.length:Int) - (k:Int) - 1)=false:=by rw [decide_eq_false_iff_not];omega
    clear hk hsz hbt hl hle hzl hbl hb1 hb2 hh hc hcc;clear hz hdz h0z his m2 hL1;go_enter func17,ntmps17;go_wp2_with (first|(go_at_call 46;(with_reducible refine mo0 (HS.o _) fun w1 hb1 hc1 hf1 _=> ?_))|(go_at_call 47;(with_reducible show Calls _ _ #[bs size] _ _);(with_reducible refine mo0 (HP.o _) fun w2 hb2 hc2 hf2 _=> ?_))|(go_at_call 47;(with_reducible show Calls _ _ #[bs bot] _ _);(with_reducible refine mo0 (HB.o _) fun w3 hb3 hc3 hf3 _=> ?_)))
    go_ret;exact ⟨rfl,bi⟩
end
theorem jpl {w:World} {l:List UInt8} {k:Int} (hk:chk l=k) (hl:l.length≤15000):Calls prog 17 #[bs l] w fun e w'=>e= .returned (.int .i64 k)∧Below w.heap.size w w':=by
 subst hk;by_cases h0:l=[]
 ·subst h0;have:=jlq (w:=w);rwa [show (1:Int)=chk [] by rw [←jhE (s:=[]) (by simp)];rfl] at this
 ·by_cases h:l.head? =some 45
  ·obtain ⟨s,rfl⟩:∃s,l=45::s:=by
    cases l with
    | nil=>simp at h
    | cons a r=>simp at h;exact ⟨r,by rw [h]⟩
   rw [←jnz];exact jj8 rfl rfl rfl rfl hl
  ·rw [←jhE h];exact jjg (List.length_pos_iff.2 h0) h rfl rfl rfl hl

section
variable {w:World} {l:List UInt8} {d:Int}
end
end Go.Proofs.YtfagcpcikjlboaaGreatDoor
