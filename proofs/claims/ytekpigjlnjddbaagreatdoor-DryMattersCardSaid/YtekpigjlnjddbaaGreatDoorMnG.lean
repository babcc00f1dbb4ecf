/- Parts. -/
import Derived.Test.YtekpigjlnjddbaaGreatDoorNeG
import Derived.Test.YtekpigjlnjddbaaGreatDoorKpG
import Derived.Test.YtekpigjlnjddbaaGreatDoorUcG
set_option linter.all false
set_option maxRecDepth 100000
set_option maxHeartbeats 8000000
namespace Go.Proofs.YtekpigjlnjddbaaGreatDoor
open Go Go.RowKit
section
variable {w:World} {x s:Rat} {kind step a:List UInt8}
end

theorem mul_div_cancel {x s:Rat} (h:0 < s):x / s*s=x:=by
 rw [Rat.div_def,Rat.mul_assoc,Rat.inv_mul_cancel _ (by grind),Rat.mul_one]

theorem Dz.of {x:Rat} {k:Nat} (h1:(Lib.decDigits x.num.natAbs).length≤k) (h2:(Lib.decDigits x.den).length≤k):Dz k x:=
 ⟨Nat.lt_of_lt_of_le (jeT _) (jbM h1),Nat.lt_of_lt_of_le (jeT _) (jbM h2)⟩
theorem IsNum.dz {l:List UInt8} {x:Rat} (h:IsNum l x):Dz 600 x:=Dz.of h.num h.den
section
variable {w:World} {kind step:List UInt8}
end

theorem Dz.lt {k:Nat} {x:Rat} (h:Dz k x):x < (((10^k:Nat):Int):Rat):=by
 rw [Rat.lt_iff,Rat.num_intCast,Rat.den_intCast];have h1:=h.num;have h2:=x.den_pos;have h3:10^k≤10^k*x.den:=Nat.le_mul_of_pos_right _ h2;have h4:(((10^k:Nat):Int))*(x.den:Int)=((10^k*x.den:Nat):Int):=by rw [Int.natCast_mul]
 rw [h4];omega
theorem jp0 {x:Rat} {k:Nat} (h:Dz k x) (hk:0 < k) (hk2:k≤600):jcF x=tq x∧jbq x=0∧IsNum (tq x) x:=by
 have h1:=jb0 h.num hk;have h2:=jb0 h.den hk
 have h3:je3 x=false:=by
  unfold je3 lng;rw [Int.natAbs_natCast,decide_eq_false (by omega),decide_eq_false (by omega)];rfl
 unfold jcF jbq;rw [h3];exact ⟨rfl,rfl,rfl,by omega,by omega⟩
theorem Dz.small {x:Rat} (h:Dz 18 x):SmallQ x:=by
 have h1:=h.num;have h2:=h.den;have e:(10:Nat)^18=1000000000000000000:=by decide
 rw [e] at h1 h2;exact ⟨by omega,by omega,by omega⟩
theorem Fw.dz {x:Rat} {l:List UInt8} {d:Int} (h:Fw d l x):Dz d.toNat x:=Dz.of (by have:=h.num;omega) (by have:=h.den;omega)
section
variable {w:World} {a b kind step:List UInt8} {x y s:Rat}
end

section
variable {w:World} {x lo hi:Rat} {k:Nat}
end
section
variable {w:World} {A:Option Addr} {n c:Nat} {ls:List (List UInt8×List UInt8)} {d m:Int}
end
section
variable {w:World} {lo hi:Rat} {k:Nat}
end
section
variable {w:World} {A B:Option Addr} {n c d k:Nat} {ls:List (List UInt8)} {qs:List Rat} {ws:List Int}
end

section
variable {w:World} {x:Rat} {k:Nat}
end

theorem IsNum.dzl {l:List UInt8} {x:Rat} {k:Nat} (h:IsNum l x) (hl:l.length≤k) (hk:0 < k):Dz k x:=by
 have h1:=jdX x
 have h2:(uq x).length≤l.length:=by
  rw [h.1,jcP];split
  ·simp
  ·exact Nat.le_refl _
 refine Dz.of (by omega) ?_;by_cases e:x.den=1
 ·rw [e,jnL];exact hk
 ·rw [if_neg e] at h1;omega
theorem jph {k:Nat} {y:Rat} (h:Dz k y):Dz k ((y.floor:Int):Rat):=by
 refine ⟨?_, ?_⟩
 ·rw [Rat.num_intCast,Rat.floor_def];exact Nat.lt_of_le_of_lt (Int.natAbs_ediv_le_natAbs _ _) h.num
 ·rw [Rat.den_intCast];exact Nat.lt_of_le_of_lt y.den_pos h.den
section
variable {w:World} {a b:List UInt8} {x y:Rat} {k m:Nat}
theorem jqC:tq (100:Rat)=[49,48,48]:=by decide+kernel
theorem dzh:Dz 3 (100:Rat):=⟨by decide+kernel,by decide+kernel⟩
theorem jmB (hx:Dz k x) (hy:Dz m y) (hk:0 < k) (hm:0 < m) (hk2:k≤1000) (hm2:m≤1000):Calls Tryz.prog 156 #[bs (tq y),bs (tq x)] w (QP (y*(100 - x) / 100) w):=by
 have d1:=dzh.sub hx;have d2:=hy.mul d1;have HS:=qh (fun W=>jg3 (w:=W) dzh hx (by omega) hk (by omega) (by omega));have HM:=qh (fun W=>jka (w:=W) hy d1 hm (by omega) (by omega) (by omega));have HD:=qh (fun W=>jnh (w:=W) d2 dzh (by omega) (by omega) (by omega) (by omega) (by decide+kernel));unfold QP at HS HM HD ⊢;rw [jqC] at HS HD;obtain ⟨T1,e1⟩:∃T,tq x=T:=⟨_,rfl⟩;obtain ⟨T2,e2⟩:∃T,tq y=T:=⟨_,rfl⟩;obtain ⟨T3,e3⟩:∃T,tq (100 - x)=T:=⟨_,rfl⟩;obtain ⟨T4,e4⟩:∃T,tq (y*(100 - x))=T:=⟨_,rfl⟩;obtain ⟨T5,e5⟩:∃T,tq (y*(100 - x) / 100)=T:=⟨_,rfl⟩;rw [e1,e3] at HS;rw [e2,e3,e4] at HM;rw [e4,e5] at HD;rw [e1,e2,e5];clear hx hy hk hm hk2 hm2 d1 d2 e1 e2 e3 e4 e5;go_enter Tryz.func156,Tryz.ntmps156;go_wp2_with (first|(go_at_call 13;(with_reducible refine mo0 (HS.out _) fun w1 hb1 hc1 hf1 _=> ?_))|(go_at_call 11;(with_reducible refine mo0 (HM.out _) fun w2 hb2 hc2 hf2 _=> ?_))|(go_at_call 99;(with_reducible refine mo0 (HD.out _) fun w3 hb3 hc3 hf3 _=> ?_)))
 go_ret;exact ⟨rfl,bi⟩
theorem ju2 {z:Rat} {n:Nat} (hx:Dz k x) (hy:Dz m y) (hz:Dz n z) (hk:0 < k) (hm:0 < m) (hn:0 < n) (hk2:k≤1000) (hm2:m≤1000) (hn2:n≤1000) (h0:100 - z≠0):Calls Tryz.prog 154 #[bs (tq y),bs (tq x),bs (tq z)] w (QP (y*(100 - x) / (100 - z)) w):=by
 have d1:=dzh.sub hx;have d2:=hy.mul d1;have d3:=dzh.sub hz;have HS:=qh (fun W=>jg3 (w:=W) dzh hx (by omega) hk (by omega) (by omega));have HS2:=qh (fun W=>jg3 (w:=W) dzh hz (by omega) hn (by omega) (by omega));have HM:=qh (fun W=>jka (w:=W) hy d1 hm (by omega) (by omega) (by omega));have HD:=qh (fun W=>jnh (w:=W) d2 d3 (by omega) (by omega) (by omega) (by omega) h0);unfold QP at HS HS2 HM HD ⊢;rw [jqC] at HS HS2;obtain ⟨T1,e1⟩:∃T,tq x=T:=⟨_,rfl⟩;obtain ⟨T2,e2⟩:∃T,tq y=T:=⟨_,rfl⟩;obtain ⟨T3,e3⟩:∃T,tq (100 - x)=T:=⟨_,rfl⟩;obtain ⟨T4,e4⟩:∃T,tq (y*(100 - x))=T:=⟨_,rfl⟩;obtain ⟨T5,e5⟩:∃T,tq (y*(100 - x) / (100 - z))=T:=⟨_,rfl⟩;obtain ⟨T6,e6⟩:∃T,tq z=T:=⟨_,rfl⟩;obtain ⟨T7,e7⟩:∃T,tq (100 - z)=T:=⟨_,rfl⟩;rw [e1,e3] at HS;rw [e6,e7] at HS2;rw [e2,e3,e4] at HM;rw [e4,e5,e7] at HD;rw [e1,e2,e5,e6];clear hx hy hz hk hm hn hk2 hm2 hn2 h0 d1 d2 d3 e1 e2 e3 e4 e5 e6 e7;go_enter Tryz.func154,Tryz.ntmps154;go_wp2_with (first|(go_at_call 13;(with_reducible show Calls _ _ #[.string ⟨#[49,48,48]⟩,bs T1] _ _);(with_reducible refine mo0 (HS.out _) fun w1 hb1 hc1 hf1 _=> ?_))|(go_at_call 11;(with_reducible refine mo0 (HM.out _) fun w2 hb2 hc2 hf2 _=> ?_))|(go_at_call 13;(with_reducible show Calls _ _ #[.string ⟨#[49,48,48]⟩,bs T6] _ _);(with_reducible refine mo0 (HS2.out _) fun w4 hb4 hc4 hf4 _=> ?_))|(go_at_call 99;(with_reducible refine mo0 (HD.out _) fun w3 hb3 hc3 hf3 _=> ?_)))
 go_ret;exact ⟨rfl,bi⟩
end

section
variable {w:World} {a b:List UInt8} {x y:Rat} {k m:Nat}
end

section
variable {w:World} {a1 a2 b1 b2 l h p q r s m1 m2 n1 n2:List UInt8}
end

section
variable {w:World} {A:Option Addr} {n c:Nat} {ls:List (List UInt8×List UInt8)}
end

section
variable {w:World} {A:Option Addr} {n c k:Nat} {ls:List (List UInt8×List UInt8)} {los his:List Rat}
end

section
variable {w:World} {A:Option Addr} {n c k:Nat} {ls:List (List UInt8×List UInt8)} {los his:List Rat}
end

abbrev jfm (w:World) (base:Nat) (v:Value) (n:Nat) (ts:List (List UInt8)):Prop:=w.ownsRow base 22 1 v n (ts.map bs)
theorem jse:(Tryz.prog.info? 22).map (fun i=>(i.zero,i.size,i.bytes))=some (some (.string ByteArray.empty),1,16):=by kernel_rfl
theorem jfm.below {w w':World} {base n:Nat} {v:Value} {ts:List (List UInt8)} (h:jfm w base v n ts) (hb:Below w.heap.size w w'):jfm w' base v n ts:=
 World.ownsRow.kept h (je8 hb none) (by cases hv:v.ownBlock <;> simp)
theorem jfm.sv {w:World} {base n:Nat} {v:Value} {ts:List (List UInt8)} (h:jfm w base v n ts) (h0:0 < n):∃A c,v= .slice A n c∧Sv w A n ts:=by
 have hl:ts.length=n:=by have:=h.1;simpa using this
 rcases h.2 with ⟨rfl,h1⟩|⟨g,cap,cur,rfl,hb,hg,hnc,hcm,hcs,ht⟩
 ·omega
 ·refine ⟨_,cap,rfl,hl,fun _=>⟨g,0,rfl,(Array.getElem?_eq_some_iff.1 hg).1,fun j hj=> ?_⟩⟩;have hc:=World.ownsRow.cells h (g:=g) rfl;have hjl:j < ts.length:=by omega
  have:=hc j (bs (ts.getD j [])) (by rw [List.getElem?_map,List.getElem?_eq_getElem hjl,List.getD_eq_getElem?_getD,List.getElem?_eq_getElem hjl];rfl);rw [jdP] at this;rw [Nat.zero_add];exact this
theorem jrN {w:World} {base n b c:Nat} {v:Value} {ts:List (List UInt8)} {x:List UInt8} (h:jfm w base v n ts) (hn:n≤100000) (hb:base≤w.heap.size) (h0:w.cell? ⟨b,0,none⟩=some (bs x)):
  ∃v' w',(Builtin.append_ #[23,23] 23 #[v, .slice (some ⟨b,0,none⟩) 1 c]).run Tryz.prog w= .ok v' w'∧jfm w' base v' (n+1) (ts++[x])∧w.grownBy w' v.ownBlock∧(v'.ownBlock=v.ownBlock∨v'.ownBlock=some w.heap.size):=by
 obtain ⟨i,hi,hz0,hz1,hz2⟩:=info_parts jse
 obtain ⟨v',w',hr,k1,k2,_,k3⟩:=run_append_own_at (P:=Tryz.prog) w base 23 23 22 i _ 1 16 Tryz.underlying23 hi hz0 hz1 hz2 rfl (by decide) v n (ts.map bs) h ⟨b,0,none⟩ 1 c [bs x] (by simp)
  (by
    intro j u hu;rw [jdP]
    match j,hu with
    | 0,hu=>simp at hu;subst hu;exact h0
    | j+1,hu=>simp at hu)
  (by intro u hu;simp at hu;subst hu;rfl)
  (by simp only [maxLen];omega) (by omega) hb
 exact ⟨v',w',hr,by rw [jfm,List.map_append];exact k1,k2,k3⟩
theorem jdB {ops:Array Oper} {rest:List Oper} {o:Oper} {a:Act} {Q:Exit→Act→World→Prop} {w:World} {base n b c:Nat} {v:Value} {ts:List (List UInt8)} {x:List UInt8} (hg:o.guard=none) (s y:Operand)
  (ho:o.op= .call { callee:= .builtin .append,args:= #[s,y],argTypes:= #[23,23] }) (ht:o.type=23) (hs:a.eval s=v) (hy:a.eval y= .slice (some ⟨b,0,none⟩) 1 c)
  (h:jfm w base v n ts) (hn:n≤100000) (hb:base≤w.heap.size) (h0:w.cell? ⟨b,0,none⟩=some (bs x))
  (hK:∀v' w',jfm w' base v' (n+1) (ts++[x])→w.grownBy w' v.ownBlock→(v'.ownBlock=v.ownBlock∨v'.ownBlock=some w.heap.size)→wpList Tryz.prog ops Q rest (a.put o.dst v') w'):wpList Tryz.prog ops Q (o::rest) a w:=by
 obtain ⟨v',w',hr,k1,k2,k3⟩:=jrN h hn hb h0;refine wpList_plain hg fun K' hK'=> ?_
 exact jiI s y ho hs hy (by rw [ht];exact hr) (hK' _ _ (hK v' w' k1 k2 k3))
section
variable {w:World} {A B:Option Addr} {n m c d k:Nat} {ls:List (List UInt8×List UInt8)} {los his:List Rat} {ws:List Int}
end
end Go.Proofs.YtekpigjlnjddbaaGreatDoor
