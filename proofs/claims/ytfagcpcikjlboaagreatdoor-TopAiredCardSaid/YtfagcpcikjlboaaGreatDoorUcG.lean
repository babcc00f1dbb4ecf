/- Parts. -/
import Derived.Test.YtfagcpcikjlboaaGreatDoorUwG
import Derived.Test.YtfagcpcikjlboaaGreatDoorKnG
set_option linter.all false
set_option maxRecDepth 100000
set_option maxHeartbeats 8000000
namespace Go.Proofs.YtfagcpcikjlboaaGreatDoor
open Go Go.RowKit Go.Proofs.Tryz

theorem joI (a:Int):zt a=Lib.itoa a:=by
 unfold zt Lib.itoa;by_cases h:a < 0 <;> simp [h]
 congr 1;omega
theorem jtc {x K:Nat} (hK:K≤20000) (h:x < 10^K):Few x:=by
 have h10:10≤B64:=by rw [ja3];omega
 have h1:((x:Int)).natAbs≤B64^K:=by rw [Int.natAbs_natCast];exact Nat.le_trans (Nat.le_of_lt h) (Nat.pow_le_pow_left h10 K)
 have h2:=(jaU h1 (by omega)).few;rwa [Int.natAbs_natCast] at h2
theorem jjt {w:World}:Lib.BuilderAt 196 5 w.heap.size w.heap.size (.pointer none) [] (w.alloc (.cells #[.pointer none, .slice none 0 0] 196)):=
 ⟨Nat.le_refl _, .slice none 0 0,heap_alloc_new w _,World.ownsRow_nil _ _ _ _,by simp [Value.ownBlock]⟩
theorem jij (a b:List UInt8):Lib.byteCells a++Lib.strCells ⟨b.toArray⟩=Lib.byteCells (a++b):=by
 simp [Lib.byteCells,Lib.strCells]
theorem jnH {w:World} {c:Nat} {Z:List UInt8} (hc:c≤18) (hZ:List.replicate c (48:UInt8)=Z):Calls prog 148 #[.string ⟨#[48]⟩, .int .i64 (c:Int)] w fun e w'=>e= .returned (bs Z)∧Below w.heap.size w w':=by
 have:=Tryz.strings_Repeat ⟨#[48]⟩ c w (by omega) (by show 1*c≤_;omega);rwa [show (⟨#[48]⟩:ByteArray).data.toList=[48] from rfl,jmM,hZ] at this
theorem jmb {ts:List (List UInt8)} {j:Nat} (h:j < ts.length):(ts.drop j).reverse.flatten=(ts.drop (j+1)).reverse.flatten++ts.getD j []:=by
 rw [List.drop_eq_getElem_cons h,List.reverse_cons,List.flatten_append];simp [List.getD_eq_getElem?_getD,List.getElem?_eq_getElem h]
theorem jqX (ts:List (List UInt8)) (k:Nat):(ts.drop k).reverse.flatten.length≤ts.reverse.flatten.length:=by
 have:ts.reverse=(ts.drop k).reverse++(ts.take k).reverse:=by rw [←List.reverse_append,List.take_append_drop]
 rw [this,List.flatten_append,List.length_append];omega
section
variable {w:World} {s z:Int} {n c:Nat} {p:Addr}
theorem jm5 {K:Nat} (hK:K≤20000) (h:Rep w s (some p) n c z) (hE:Env w) (hz:z.natAbs < 10^K) (h0:0 < z.natAbs):Calls prog 104 #[iv s (some p) n c] w fun e w'=>e= .returned (bs (Lib.itoa z))∧Below w.heap.size w w':=by
 obtain ⟨g,hg⟩:∃g,decide (z < 0)=g:=⟨_,rfl⟩
 have hD:Lib.itoa z=(if g then [45] else [])++Lib.decDigits z.natAbs:=by
  rw [←joI,←hg];unfold zt;by_cases e:z < 0 <;> simp [e]
 obtain ⟨X,hX⟩:∃X,z.natAbs=X:=⟨_,rfl⟩
 have HP:=qh (fun W (hb:Below w.heap.size w W)=>(jdp (h.below hb)).mono fun e w' h=>(show ∃A n c,e= .returned (.tuple #[.bool g, .slice A n c])∧NumW w' A n c X∧Below W.heap.size W w' from by
  obtain ⟨A,n,c,he,hn,hb⟩:=h;rw [hg] at he;rw [hX] at hn
  exact ⟨A,n,c,he,hn,hb⟩))
 rw [hX] at hD hz h0;rw [hD];have HX:=qh (ai hz h0);have HE:=qh (fun W (hb:Below w.heap.size w W)=>hE.below hb);have qe:=jak;clear hg hX hD hz h0 h hE;go_enter func104,ntmps104;go_upto_region 5 with (go_at_call 129;(with_reducible refine (HP.o _ bi).mono ?_);rintro e1 w1 ⟨A1,n1,c1,rfl,hr1,hb1⟩;obtain ⟨hc1,hf1,_⟩:=bc0 hb1)
 obtain ⟨W,hW⟩:∃W,w1.alloc (.cells #[.int .u64 1000000000000000000] 168)=W:=⟨_,rfl⟩;have bW1:Below w1.heap.size w1 W:=by rw [←hW];exact ja5 (Below.refl _ _) _
 have bW:Below w.heap.size w W:=ja0 (ja0 (ja5 (Below.refl _ _) _) hb1) bW1;have zW:w1.heap.size < W.heap.size:=by rw [←hW];simp
 have HB:=qh (show NumW W (some ⟨w1.heap.size,0,none⟩) 1 1 (10^18) from ⟨[10^18],⟨rfl,fun x hx=>by rw [List.mem_singleton] at hx;subst hx;rw [ja3];decide,by decide,fun _=>⟨w1.heap.size,0,rfl,zW,fun j hj=>by
  obtain rfl:j=0:=by omega
  rw [←hW]
  simp [go_sem,dg]⟩⟩,by simp [Pos.Trim],by omega,by omega,by rw [Pos.nv_one]⟩)
 have HN:=qh (hr1.below bW1);rw [hW];clear hW hc1 hf1 hb1 hr1 bW1 zW qe HP;go_wp2
 go_loopw [4,6] (fun u v wr=>∃(x:Nat) (ts:List (List UInt8)) (A:Option Addr) (n c:Nat),u= .slice A n c∧Hd (NumW wr A n c x)∧jip wr W.heap.size v ts.length ts∧Below W.heap.size W wr∧Hd ((dcx x++ts.reverse.flatten=Lib.decDigits X∧ts.length≤K∧x < 10^(K - ts.length))∧(0 < n→∀b o,A=some ⟨b,o,none⟩→v.ownBlock≠some b))) (fun u _ wr=>valW wr u)
 case atStart=>exact ⟨X,[],A1,n1,c1,rfl,HN,World.ownsRow_nil _ _ _ _,Below.refl _ _,qh ⟨⟨by rw [jh5 HX.o.2];simp,by simp,by simpa using HX.o.1⟩,fun _ _ _ _=>by simp [Value.ownBlock]⟩⟩
 case round=>
  obtain ⟨x,ts,A,n,c,rfl,HNX,how,hb,HR⟩:=hrel
  (try have _:=bm hb)
  have HOW:=qh how;have htl:ts.length≤K:=HR.o.1.2.1;clear how;rcases Nat.eq_zero_or_pos n with en|hn
  ·subst en;obtain ⟨U,rfl⟩:∃U,U=wr:=⟨_,rfl⟩;have hts:=HR.o.1.1;rw [HNX.o.zero.2 rfl] at hts;have hT:ts.reverse.flatten=Lib.decDigits X:=by simpa [dcx] using hts
   have hL:(Lib.decDigits X).length≤K:=jb0 HX.o.1 (by
    rcases Nat.eq_zero_or_pos K with e|e
    ·have:=HX.o;rw [e] at this;simp at this;omega
    ·exact e)
   obtain ⟨m,hm⟩:∃m,ts.length=m:=⟨_,rfl⟩
   have hm0:0 < m:=by
    rcases Nat.eq_zero_or_pos m with e|e
    ·rw [e] at hm;obtain rfl:=List.length_eq_zero_iff.1 hm;exact absurd hT.symm (Dig.digits_dig X).2
    ·exact e
   obtain ⟨gg,cc,rfl,hgl,hcs⟩:=HOW.o.at_ rfl (hm ▸ hm0);rw [hm] at hcs htl;have HTX:=qh (ai hT (ai hL hcs));have q0:decide ((0:Int) < ((0:Nat):Int))=false:=by decide
   rw [hm];clear hts hT hL hcs HR HNX;have HBN:=qh (jjt (w:=U));rcases Bool.eq_false_or_eq_true g with eg|eg
   ·subst eg;have HW5:=qh (jfk (B:=U.heap.size) (b:=U.heap.size) ⟨#[45]⟩ (.inl HBN.o) (by show 0+1≤_;omega) (by simp));go_wp2_with (go_at_call 149;refine HW5.o.mono ?_;rintro e5 w5 ⟨rfl,hI5,hb5⟩;(try have _:=bm hb5))
    obtain ⟨sg,hsg⟩:∃l,([45]:List UInt8)=l:=⟨_,rfl⟩;have HI:=qh (show Lib.IsBuilder 196 5 U.heap.size U.heap.size (Lib.byteCells sg) w5 from .inr (by rw [←hsg];exact hI5));have HV:=qh (show Below U.heap.size U w5 from ((Below.refl _ _).alloc (Nat.le_refl _) _).trans hb5);have HSG:=qh hsg;clear hsg HW5 hI5;have bV:Below W.heap.size W w5:=ja0 hb HV.o;have hs1:sg.length≤1:=by rw [←HSG.o];simp
    go_loopw [11] (fun u wr'=>∃(i:Int) (k:Nat),u= .int .i64 i∧i+1=(k:Int)∧k≤m∧Hd (Lib.IsBuilder 196 5 U.heap.size U.heap.size (Lib.byteCells (sg++(ts.drop k).reverse.flatten)) wr')∧Below U.heap.size U wr') (fun u wr'=>(intOf u+1).toNat)
    case atStart=>exact ⟨_,m,rfl,by omega,Nat.le_refl _,by rw [←hm];simpa using HI,HV.o⟩
    case round=>
     obtain ⟨i,k,rfl,hik,hkm,HI2,hb7⟩:=hrel
     (try have _:=bm hb7)
     rcases Nat.eq_zero_or_pos k with ek|hk
     ·subst ek;have r0:decide ((0:Int)≤i)=false:=by rw [decide_eq_false_iff_not];omega
      have HST:=qh (Tryz.Builder_String_any U.heap.size U.heap.size (sg++(ts.drop 0).reverse.flatten) _ HI2.o hb7.size);have HTT:=qh HTX.o.1;go_wp2_with (go_at_call 150;refine HST.o.mono ?_;rintro e8 w8 ⟨rfl,hb8⟩;(try have _:=bm hb8))
      have bU:Below w.heap.size w U:=ja0 bW hb;go_ret;exact ⟨(show Ending.returned (bs (sg++ts.reverse.flatten))=_ from by rw [HTT.o,←HSG.o];rfl),ja0 bU (hb7.trans hb8)⟩
     ·obtain ⟨j,rfl⟩:∃j,k=j+1:=⟨k - 1,by omega⟩;obtain rfl:i=(j:Int):=by omega
      have hj:j < m:=by omega
      have r0:decide ((0:Int)≤(j:Int))=true:=by rw [decide_eq_true_iff];omega
      have hcj:=ja9 hb7 (HTX.o.2.2 j hj);obtain ⟨t,ht⟩:∃t,ts.getD j []=t:=⟨_,rfl⟩;have HF:=qh (jmb (ts:=ts) (j:=j) (by omega));rw [ht] at hcj HF
      have HWR:=qh (jfk (B:=U.heap.size) ⟨t.toArray⟩ HI2.o (by
       have e1:=jqX ts j;rw [HF.o,HTX.o.1,List.length_append] at e1;have e2:=HTX.o.2.1;generalize (ts.drop (j+1)).reverse.flatten=A at e1 ⊢;simp [Lib.byteCells,ByteArray.size]
       omega) hb7.size)
      clear ht;go_wp2_with (go_at_call 149;refine HWR.o.mono ?_;rintro e8 w8 ⟨rfl,hI8,hb8⟩;(try have _:=bm hb8))
      exact ⟨⟨_,j,rfl,by omega,by omega,qh (.inr (by have h:=hI8;rw [jij] at h;rw [HF.o,←List.append_assoc];exact h)),hb7.trans hb8⟩,by simp [intOf]⟩
   ·subst eg;go_wp2;obtain ⟨V,hV⟩:∃V,U.alloc (.cells #[.pointer none, .slice none 0 0] 196)=V:=⟨_,rfl⟩;obtain ⟨sg,hsg⟩:∃l,([]:List UInt8)=l:=⟨_,rfl⟩;have HI:=qh (show Lib.IsBuilder 196 5 U.heap.size U.heap.size (Lib.byteCells sg) V from .inl (by rw [←hsg,←hV];exact HBN.o));have HV:=qh (show Below U.heap.size U V from by rw [←hV];exact (Below.refl _ _).alloc (Nat.le_refl _) _);rw [hV];clear hV;have HSG:=qh hsg;clear hsg;have bV:Below W.heap.size W V:=ja0 hb HV.o;have hs1:sg.length≤1:=by rw [←HSG.o];simp
    go_loopw [11] (fun u wr'=>∃(i:Int) (k:Nat),u= .int .i64 i∧i+1=(k:Int)∧k≤m∧Hd (Lib.IsBuilder 196 5 U.heap.size U.heap.size (Lib.byteCells (sg++(ts.drop k).reverse.flatten)) wr')∧Below U.heap.size U wr') (fun u wr'=>(intOf u+1).toNat)
    case atStart=>exact ⟨_,m,rfl,by omega,Nat.le_refl _,by rw [←hm];simpa using HI,HV.o⟩
    case round=>
     obtain ⟨i,k,rfl,hik,hkm,HI2,hb7⟩:=hrel
     (try have _:=bm hb7)
     rcases Nat.eq_zero_or_pos k with ek|hk
     ·subst ek;have r0:decide ((0:Int)≤i)=false:=by rw [decide_eq_false_iff_not];omega
      have HST:=qh (Tryz.Builder_String_any U.heap.size U.heap.size (sg++(ts.drop 0).reverse.flatten) _ HI2.o hb7.size);have HTT:=qh HTX.o.1;go_wp2_with (go_at_call 150;refine HST.o.mono ?_;rintro e8 w8 ⟨rfl,hb8⟩;(try have _:=bm hb8))
      have bU:Below w.heap.size w U:=ja0 bW hb;go_ret;exact ⟨(show Ending.returned (bs (sg++ts.reverse.flatten))=_ from by rw [HTT.o,←HSG.o];rfl),ja0 bU (hb7.trans hb8)⟩
     ·obtain ⟨j,rfl⟩:∃j,k=j+1:=⟨k - 1,by omega⟩;obtain rfl:i=(j:Int):=by omega
      have hj:j < m:=by omega
      have r0:decide ((0:Int)≤(j:Int))=true:=by rw [decide_eq_true_iff];omega
      have hcj:=ja9 hb7 (HTX.o.2.2 j hj);obtain ⟨t,ht⟩:∃t,ts.getD j []=t:=⟨_,rfl⟩;have HF:=qh (jmb (ts:=ts) (j:=j) (by omega));rw [ht] at hcj HF
      have HWR:=qh (jfk (B:=U.heap.size) ⟨t.toArray⟩ HI2.o (by
       have e1:=jqX ts j;rw [HF.o,HTX.o.1,List.length_append] at e1;have e2:=HTX.o.2.1;generalize (ts.drop (j+1)).reverse.flatten=A at e1 ⊢;simp [Lib.byteCells,ByteArray.size]
       omega) hb7.size)
      clear ht;go_wp2_with (go_at_call 149;refine HWR.o.mono ?_;rintro e8 w8 ⟨rfl,hI8,hb8⟩;(try have _:=bm hb8))
      exact ⟨⟨_,j,rfl,by omega,by omega,qh (.inr (by have h:=hI8;rw [jij] at h;rw [HF.o,←List.append_assoc];exact h)),hb7.trans hb8⟩,by simp [intOf]⟩
  ·have q0:decide ((0:Int) < (n:Int))=true:=by rw [decide_eq_true_iff];omega
   have q0':decide (0 < n)=true:=by rw [decide_eq_true_iff];omega
   have hx0:0 < x:=by
    rcases Nat.eq_zero_or_pos x with e|e
    ·have:=HNX.o.zero.1 e;omega
    ·exact e
   have hcs:=jpu hx0 HR.o.1.2.2;have hfx:Few x:=jtc hK (Nat.lt_of_lt_of_le HR.o.1.2.2 (Nat.pow_le_pow_right (by omega) (by omega)));have HDV:=qh (jiX HNX.o (HB.o.below hb) hfx);obtain ⟨q,hq⟩:∃q,x / 10^18=q:=⟨_,rfl⟩;obtain ⟨r,hr⟩:∃q,x % 10^18=q:=⟨_,rfl⟩;have hrl:r < 10^18:=by rw [←hr];exact Nat.mod_lt _ (by decide)
   have hqx:q < x:=by rw [←hq];exact Nat.div_lt_self hx0 (by decide)
   have HM:=qh (ai (fun h=>jol (x:=x) (ts:=ts) h HR.o.1.1) (fun h=>jpX hx0 (x:=x) (ts:=ts) h HR.o.1.1));have HVX:=qh HNX.o.valW;rw [hq,hr] at HM;obtain ⟨S,hS⟩:∃S,Lib.decDigits r=S:=⟨_,rfl⟩;have hpad:=jso hrl;have hSl:=jBZ hrl;rw [hS] at HM hpad hSl;obtain ⟨P,hP⟩:∃P,dD r 18=P:=⟨_,rfl⟩;rw [hP] at HM hpad;have HPD:=qh (ai hpad (ai hSl hS));rw [hq,hr] at HDV;rw [hq] at hcs;have HS:=qh (ai hcs (ai hqx (ai htl hrl)));have HFM:=qh (fun W' (hb':Below W.heap.size W W')=>jfu (u:=r) (HE.o _ (ja0 bW hb')) (Nat.lt_trans hrl (by decide)));rw [hS] at HFM;clear hcs hfx hq hr hqx hrl htl hx0 hn hpad hSl hS hP;go_upto_region 9 with (go_at_call 146;(with_reducible refine HDV.o.mono ?_);rintro e2 w2 ⟨Q,k,kc,R,j,jc,rfl,hQ,hR,hF,hb2⟩;(try have _:=bm hb2);have H2:=qh (ai hQ (ai hR hF));clear hQ hR hF)
   have HBW2:=qh (ja0 hb hb2);have hjz:=H2.o.2.1.zero;have hkz:=H2.o.1.zero;have HZ:=qh HBW2.o.size;rcases Nat.eq_zero_or_pos j with ej|hj
   ·subst ej;have hr0:r=0:=hjz.2 rfl;have p0:decide ((0:Int) < ((0:Nat):Int))=false:=by decide
    obtain rfl:S=[48]:=by rw [←HPD.o.2.2,hr0];decide+kernel
    clear hjz hr0;rcases Nat.eq_zero_or_pos k with ek|hk
    ·subst ek;have hq0:q=0:=hkz.2 rfl;have HD:=qh (HM.o.2 hq0);clear hkz hq0 HM;go_wp2_with first|(at_builtin;refine jaE (v:=u6) (x:=[48]) rfl _ _ rfl rfl rfl rfl (HOW.o.below bi) rfl (by have:=HS.o.2.2.1;omega) (by have:=HZ.o;have:=hb2.size;simp;omega) (by simp) ?_;intro g5 c5 w5 ho5 hg5 hk5)
     have hbk:Below w2.heap.size w2 w2:=bi;have hbA:=(ja0 hb2 hbk).alloc ((ja0 hb2 hbk).size) (.cells #[bs [48]] 9);have hbQ:=hbk.alloc hbk.size (.cells #[bs [48]] 9);have hsz:=hbk.size
     have HNQ:=qh ((H2.o.1.below hbQ).grown hg5 (fun hk b o e=>by
      subst e;have h1:=H2.o.2.2 b o rfl;have h2:=H2.o.1.blk hk;intro e2;rcases hk5 with e3|e3
      ·rw [e3] at e2;cases e2
       have:=HOW.o.lt _ e3;omega
      ·have:=HOW.o.lt _ e2
       omega))
     exact ⟨⟨q,ts++[[48]],Q,_,kc,rfl,HNQ,by rw [List.length_append,List.length_singleton];exact ho5,(ja5 (ja0 HBW2.o hbk) _).trans (jab (base:=W.heap.size) hg5 (by have:=HZ.o;have:=hsz;simp;omega) HOW.o.ge),qh ⟨⟨HD.o,by have:=HS.o.1.1;rw [List.length_append,List.length_singleton];omega,by rw [List.length_append,List.length_singleton];exact HS.o.1.2⟩,fun hk b o e=>by
      subst e;have h1:=H2.o.2.2 b o rfl;have h2:=H2.o.1.blk hk;intro e2;simp only [Value.ownBlock] at e2;cases e2
      rcases hk5 with e3|e3
      ·have:=HOW.o.lt _ e3;omega
      ·simp at e3
       omega⟩⟩,by
      have e1:=HNQ.o.valW;have e2:=HVX.o;have e3:=HS.o.2.1;simp;rw [e1,e2]
      exact e3⟩
    ·have hq0:0 < q:=by
      rcases Nat.eq_zero_or_pos q with e|e
      ·have:=hkz.1 e;omega
      ·exact e
     have HD:=qh (HM.o.1 hq0);have p1:decide ((0:Int) < (k:Int))=true:=by rw [decide_eq_true_iff];omega
     have p2:decide (0 < k)=true:=by rw [decide_eq_true_iff];omega
     obtain ⟨Z,hZ⟩:∃Z,List.replicate 17 (48:UInt8)=Z:=⟨_,rfl⟩;have HRP:=qh (fun W=>(show Calls prog 148 #[.string ⟨#[48]⟩, .int .i64 17] W fun e w'=>e= .returned (bs Z)∧Below W.heap.size W w' from jnH (w:=W) (c:=17) (by omega) hZ));have hZl:Z.length=17:=by rw [←hZ];simp
     have c1:(⟨Z.toArray⟩:ByteArray)++⟨#[48]⟩=⟨P.toArray⟩:=(jiU Z [48]).trans (by rw [←HPD.o.1,←hZ];rfl);have c2:Z.length≤9223372036854775806:=by omega
     have c3:¬(9223372036854775807 < Z.length+1):=by omega
     clear hkz hq0 HM hZ hZl hk;go_wp2_with first|(go_at_call 148;(with_reducible refine mo0 (HRP.o _) fun w3 hb3 hc3 hf3 _=> ?_))|(at_builtin;refine jaE (v:=u6) (x:=P) rfl _ _ rfl rfl rfl rfl (HOW.o.below bi) rfl (by have:=HS.o.2.2.1;omega) (by have:=HZ.o;have:=hb3.size;simp;omega) (by simp) ?_;intro g5 c5 w5 ho5 hg5 hk5)
     have hbk:Below w2.heap.size w2 w3:=bi;have hbA:=(ja0 hb2 hbk).alloc ((ja0 hb2 hbk).size) (.cells #[bs P] 9);have hbQ:=hbk.alloc hbk.size (.cells #[bs P] 9);have hsz:=hbk.size
     have HNQ:=qh ((H2.o.1.below hbQ).grown hg5 (fun hk b o e=>by
      subst e;have h1:=H2.o.2.2 b o rfl;have h2:=H2.o.1.blk hk;intro e2;rcases hk5 with e3|e3
      ·rw [e3] at e2;cases e2
       have:=HOW.o.lt _ e3;omega
      ·have:=HOW.o.lt _ e2
       omega))
     exact ⟨⟨q,ts++[P],Q,_,kc,rfl,HNQ,by rw [List.length_append,List.length_singleton];exact ho5,(ja5 (ja0 HBW2.o hbk) _).trans (jab (base:=W.heap.size) hg5 (by have:=HZ.o;have:=hsz;simp;omega) HOW.o.ge),qh ⟨⟨HD.o,by have:=HS.o.1.1;rw [List.length_append,List.length_singleton];omega,by rw [List.length_append,List.length_singleton];exact HS.o.1.2⟩,fun hk b o e=>by
      subst e;have h1:=H2.o.2.2 b o rfl;have h2:=H2.o.1.blk hk;intro e2;simp only [Value.ownBlock] at e2;cases e2
      rcases hk5 with e3|e3
      ·have:=HOW.o.lt _ e3;omega
      ·simp at e3
       omega⟩⟩,by
      have e1:=HNQ.o.valW;have e2:=HVX.o;have e3:=HS.o.2.1;simp;rw [e1,e2]
      exact e3⟩
   ·have hr0:0 < r:=by
     rcases Nat.eq_zero_or_pos r with e|e
     ·have:=hjz.1 e;omega
     ·exact e
    obtain ⟨rfl,b,o,rfl,hbl,hcell⟩:=H2.o.2.1.word (Nat.lt_trans HS.o.2.2.2 (by rw [ja3];decide)) hr0;have p0:decide ((0:Int) < ((1:Nat):Int))=true:=by decide
    clear hjz hr0 hj;go_upto_region 11 with (go_at_call 147;(with_reducible refine mz (HFM.o _ HBW2.o) fun w3 hb3 _=> ?_))
    clear hcell hbl;rcases Nat.eq_zero_or_pos k with ek|hk
    ·subst ek;have hq0:q=0:=hkz.2 rfl;have HD:=qh (HM.o.2 hq0);clear hkz hq0 HM;go_wp2_with first|(at_builtin;refine jaE (v:=u6) (x:=S) rfl _ _ rfl rfl rfl rfl (HOW.o.below bi) rfl (by have:=HS.o.2.2.1;omega) (by have:=HZ.o;have:=hb3.size;simp;omega) (by simp) ?_;intro g5 c5 w5 ho5 hg5 hk5)
     have hbk:Below w2.heap.size w2 w3:=bi;have hbA:=(ja0 hb2 hbk).alloc ((ja0 hb2 hbk).size) (.cells #[bs S] 9);have hbQ:=hbk.alloc hbk.size (.cells #[bs S] 9);have hsz:=hbk.size
     have HNQ:=qh ((H2.o.1.below hbQ).grown hg5 (fun hk b o e=>by
      subst e;have h1:=H2.o.2.2 b o rfl;have h2:=H2.o.1.blk hk;intro e2;rcases hk5 with e3|e3
      ·rw [e3] at e2;cases e2
       have:=HOW.o.lt _ e3;omega
      ·have:=HOW.o.lt _ e2
       omega))
     exact ⟨⟨q,ts++[S],Q,_,kc,rfl,HNQ,by rw [List.length_append,List.length_singleton];exact ho5,(ja5 (ja0 HBW2.o hbk) _).trans (jab (base:=W.heap.size) hg5 (by have:=HZ.o;have:=hsz;simp;omega) HOW.o.ge),qh ⟨⟨HD.o,by have:=HS.o.1.1;rw [List.length_append,List.length_singleton];omega,by rw [List.length_append,List.length_singleton];exact HS.o.1.2⟩,fun hk b o e=>by
      subst e;have h1:=H2.o.2.2 b o rfl;have h2:=H2.o.1.blk hk;intro e2;simp only [Value.ownBlock] at e2;cases e2
      rcases hk5 with e3|e3
      ·have:=HOW.o.lt _ e3;omega
      ·simp at e3
       omega⟩⟩,by
      have e1:=HNQ.o.valW;have e2:=HVX.o;have e3:=HS.o.2.1;simp;rw [e1,e2]
      exact e3⟩
    ·have hq0:0 < q:=by
      rcases Nat.eq_zero_or_pos q with e|e
      ·have:=hkz.1 e;omega
      ·exact e
     have HD:=qh (HM.o.1 hq0);have p1:decide ((0:Int) < (k:Int))=true:=by rw [decide_eq_true_iff];omega
     have p2:decide (0 < k)=true:=by rw [decide_eq_true_iff];omega
     obtain ⟨jz,hjz⟩:∃j,18 - S.length=j:=⟨_,rfl⟩;have hSl:=HPD.o.2.1;obtain ⟨Z,hZ⟩:∃Z,List.replicate jz (48:UInt8)=Z:=⟨_,rfl⟩;have m1:(18:Int) - (S.length:Int)=(jz:Int):=by omega
     have HRP:=qh (fun W=>jnH (w:=W) (c:=jz) (by omega) hZ);have hZl:Z.length=jz:=by rw [←hZ];simp
     have c1:(⟨Z.toArray⟩:ByteArray)++⟨S.toArray⟩=⟨P.toArray⟩:=(jiU Z S).trans (by rw [←HPD.o.1,←hZ,hjz]);have c2:Z.length≤9223372036854775807 - S.length:=by omega
     have c3:¬(9223372036854775807 < Z.length+S.length):=by omega
     clear hkz hq0 HM hZ hZl hk hjz hSl;go_wp2_with first|(go_at_call 148;(with_reducible refine mo0 (HRP.o _) fun w4 hb4 hc4 hf4 _=> ?_))|(at_builtin;refine jaE (v:=u6) (x:=P) rfl _ _ rfl rfl rfl rfl (HOW.o.below bi) rfl (by have:=HS.o.2.2.1;omega) (by have:=HZ.o;have:=Nat.le_trans hb3.size hb4.size;simp;omega) (by simp) ?_;intro g5 c5 w5 ho5 hg5 hk5)
     have hbk:Below w2.heap.size w2 w4:=bi;have hbA:=(ja0 hb2 hbk).alloc ((ja0 hb2 hbk).size) (.cells #[bs P] 9);have hbQ:=hbk.alloc hbk.size (.cells #[bs P] 9);have hsz:=hbk.size
     have HNQ:=qh ((H2.o.1.below hbQ).grown hg5 (fun hk b o e=>by
      subst e;have h1:=H2.o.2.2 b o rfl;have h2:=H2.o.1.blk hk;intro e2;rcases hk5 with e3|e3
      ·rw [e3] at e2;cases e2
       have:=HOW.o.lt _ e3;omega
      ·have:=HOW.o.lt _ e2
       omega))
     exact ⟨⟨q,ts++[P],Q,_,kc,rfl,HNQ,by rw [List.length_append,List.length_singleton];exact ho5,(ja5 (ja0 HBW2.o hbk) _).trans (jab (base:=W.heap.size) hg5 (by have:=HZ.o;have:=hsz;simp;omega) HOW.o.ge),qh ⟨⟨HD.o,by have:=HS.o.1.1;rw [List.length_append,List.length_singleton];omega,by rw [List.length_append,List.length_singleton];exact HS.o.1.2⟩,fun hk b o e=>by
      subst e;have h1:=H2.o.2.2 b o rfl;have h2:=H2.o.1.blk hk;intro e2;simp only [Value.ownBlock] at e2;cases e2
      rcases hk5 with e3|e3
      ·have:=HOW.o.lt _ e3;omega
      ·simp at e3
       omega⟩⟩,by
      have e1:=HNQ.o.valW;have e2:=HVX.o;have e3:=HS.o.2.1;simp;rw [e1,e2]
      exact e3⟩
end

theorem jhR {K:Nat} {z:Int} (hK:K≤20000) (hz:z.natAbs < 10^K):ji0 z:=fun w s A n c h hE=>by
 cases A with
 | none=>
   obtain ⟨rfl,rfl,rfl,hr⟩:=h.none_;exact jjS _ w hr hE
 | some p=>
   rcases Nat.eq_zero_or_pos z.natAbs with e|e
   ·have e0:z=0:=by omega
    have:=h.small_none (by subst e0;constructor <;> decide) (by omega);exact absurd this (by simp)
   ·exact jm5 hK h hE hz e
theorem Dz.strQ {k:Nat} {x:Rat} (h:Dz k x) (hk:k≤20000):StrQ x:=
 ⟨jhR hk h.num,jhR hk (by rw [Int.natAbs_natCast];exact h.den)⟩
end Go.Proofs.YtfagcpcikjlboaaGreatDoor
