/- Parts. -/
import Derived.Test.YtekpigjlnjddbaaGreatDoorMnG
import Derived.Test.YtekpigjlnjddbaaGreatDoorZaG
set_option linter.all false
set_option maxRecDepth 100000
set_option maxHeartbeats 8000000
namespace Go.Proofs.YtekpigjlnjddbaaGreatDoor
open Go Go.RowKit

theorem jc9:Dz 3 (100:Rat):=⟨by decide+kernel,by decide+kernel⟩
section
variable {w:World} {l a b:List UInt8} {mass:Int}
theorem jgY {k:Int} (hk:jbr mass=k):Calls Tryz.prog 29 #[.int .i64 mass] w fun e w'=>e= .returned (.int .i64 k)∧Below w.heap.size w w':=by
 unfold jbr at hk;by_cases h1:mass < 1
 ·rw [if_pos (.inl h1)] at hk;subst hk;have p1:decide (mass < 1)=true:=by rw [decide_eq_true_iff];omega
  go_enter Tryz.func29,Tryz.ntmps29;go_wp2;go_ret;exact ⟨rfl,bi⟩
 ·have p1:decide (mass < 1)=false:=by rw [decide_eq_false_iff_not];omega
  by_cases h2:999999999 < mass
  ·rw [if_pos (.inr h2)] at hk;subst hk;have p2:decide (999999999 < mass)=true:=by rw [decide_eq_true_iff];omega
   go_enter Tryz.func29,Tryz.ntmps29;go_wp2;go_ret;exact ⟨rfl,bi⟩
  ·rw [if_neg (by omega)] at hk;subst hk;have p2:decide (999999999 < mass)=false:=by rw [decide_eq_false_iff_not];omega
   go_enter Tryz.func29,Tryz.ntmps29;go_wp2;go_ret;exact ⟨rfl,bi⟩
theorem joo {x:Rat} {k:Nat} {b:Bool} (hb:decide (0≤x∧x < 100)=b) (hx:Dz k x) (hk:0 < k) (hk2:k≤9000):Calls Tryz.prog 95 #[bs (tq x)] w fun e w'=>e= .returned (.bool b)∧Below w.heap.size w w':=by
 obtain ⟨s,hs⟩:∃s,sgn x.num=s:=⟨_,rfl⟩;obtain ⟨j,hj⟩:∃j,Rq.cmpQ x 100=j:=⟨_,rfl⟩;have HS:=qh (fun W=>jqN (w:=W) hs hx hk (by omega));have HJ:=qh (fun W=>jko (w:=W) hj hx jc9 hk (by omega) hk2 (by omega));rw [show tq (100:Rat)=[49,48,48] by decide+kernel] at HJ;obtain ⟨X,hX⟩:∃X,tq x=X:=⟨_,rfl⟩;rw [hX] at HS HJ ⊢;by_cases h0:x < 0
 ·obtain rfl:false=b:=by rw [←hb,eq_comm,decide_eq_false_iff_not];exact fun e=>Rat.not_lt.2 e.1 h0
  obtain rfl: -1=s:=by rw [←hs];unfold sgn;rw [if_pos (jgN.2 h0)]
  clear hb hx hk hk2 hs hj hX h0;go_enter Tryz.func95,Tryz.ntmps95;go_wp2_with (go_at_call 62;(with_reducible refine mo0 (HS.out _) fun w1 hb1 hc1 hf1 _=> ?_))
  go_ret;exact ⟨rfl,bi⟩
 ·have hk0:0≤s:=by
   rw [←hs];unfold sgn;have:¬x.num < 0:=fun h=>h0 (jgN.1 h)
   rw [if_neg this];split <;> omega
  have q1:decide (0≤s)=true:=by simpa using hk0
  have q2:decide (j < 0)=b:=by
   rw [←hb,decide_eq_decide,←hj];exact ⟨fun e=>⟨Rat.not_lt.1 h0,Rq.cmp_neg.1 e⟩,fun e=>Rq.cmp_neg.2 e.2⟩
  clear hb hx hk hk2 hs hj hX h0 hk0;cases b <;>
  ·go_enter Tryz.func95,Tryz.ntmps95;go_wp2_with (first|(go_at_call 62;(with_reducible refine mo0 (HS.out _) fun w1 hb1 hc1 hf1 _=> ?_))|(go_at_call 14;(with_reducible refine mo0 (HJ.out _) fun w2 hb2 hc2 hf2 _=> ?_)))
   go_ret;exact ⟨rfl,bi⟩
theorem jcV {k:Int} (hk:mst l=k) (hl:l.length≤5000):Calls Tryz.prog 30 #[bs l] w fun e w'=>e= .returned (.int .i64 k)∧Below w.heap.size w w':=by
 obtain ⟨k0,hk0⟩:∃k,chk l=k:=⟨_,rfl⟩;have HC:=qh (fun W=>jpl (w:=W) hk0 (by omega));unfold mst at hk;by_cases h0:k0=0
 ·subst h0;rw [if_pos hk0] at hk;have hx:=jjb hk0;obtain ⟨x,hxx⟩:∃x,numQ l=x:=⟨_,rfl⟩;rw [hxx] at hx hk;obtain ⟨b,hb⟩:∃b,decide (0≤x∧x < 100)=b:=⟨_,rfl⟩;have HB:=qh (fun W=>joo (w:=W) hb (hx.dzl (k:=5000) hl (by omega)) (by omega) (by omega));rw [←hx.eq] at HB
  have hkb:(if b then (0:Int) else 3)=k:=by
   rw [←hk,←hb];by_cases q:x < 0∨100≤x
   ·rw [if_pos q,decide_eq_false (fun e=>q.elim (fun h=>Rat.not_lt.2 e.1 h) (fun h=>Rat.not_lt.2 h e.2))];rfl
   ·rw [if_neg q,decide_eq_true ⟨Rat.not_lt.1 fun h=>q (.inl h),Rat.not_le.1 fun h=>q (.inr h)⟩];rfl
  clear hk hl hk0 hx hxx hb;cases b <;>
  ·subst hkb;go_enter Tryz.func30,Tryz.ntmps30;go_wp2_with (first|(go_at_call 10;(with_reducible refine mo0 (HC.out _) fun w1 hb1 hc1 hf1 _=> ?_))|(go_at_call 95;(with_reducible refine mo0 (HB.out _) fun w2 hb2 hc2 hf2 _=> ?_)))
   go_ret;exact ⟨rfl,bi⟩
 ·rw [if_neg (by rw [hk0];exact h0),hk0] at hk;subst hk;have q1:(k0==0)=false:=by rw [beq_eq_false_iff_ne];exact h0
  clear hl hk0 h0;go_enter Tryz.func30,Tryz.ntmps30;go_wp2_with (go_at_call 10;(with_reducible refine mo0 (HC.out _) fun w1 hb1 hc1 hf1 _=> ?_))
  go_ret;exact ⟨rfl,bi⟩
end

theorem jpU {ds:List Nat} {x:Nat} (ht:Pos.Trim ds) (hd:∀d∈ds,d < B9) (hv:Pos.nv B9 ds=x) (h0:0 < x) (h1:x < B9):ds=[x]:=by
 match ds with
 | []=>simp [Pos.nv] at hv;omega
 | [a]=>simp [Pos.nv] at hv;rw [hv]
 | a::b::r=>
   exfalso;have h2:=Pos.nv_ge (b:=B9) ht (by simp);rw [hv] at h2;have h3:B9^1≤B9^((a::b::r).length - 1):=Nat.pow_le_pow_right (by decide) (by simp);rw [Nat.pow_one] at h3;omega
section
variable {w:World} {l a b:List UInt8} {mass:Int}
theorem jpb {N:Nat} (h1:1≤N) (h2:N≤999999999):Calls Tryz.prog 98 #[bs (tq ((N:Int):Rat))] w fun e w'=>e= .returned (.tuple #[.int .i64 (N:Int), .bool true])∧Below w.heap.size w w':=by
 have hD:Dz 10 ((N:Int):Rat):=⟨by rw [Rat.num_intCast];omega,by rw [Rat.den_intCast];omega⟩;have HW:=qh (fun W=>jiL (w:=W) (x:=((N:Int):Rat)) (b:=true) (by rw [Rat.den_intCast];rfl) hD (by omega) (by omega));rw [jgI] at HW ⊢;have e:zt (N:Int)=Lib.decDigits N:=by unfold zt;rw [if_neg (by omega)];rfl
 rw [e] at HW ⊢;obtain ⟨l,hl⟩:∃l,Lib.decDigits N=l:=⟨_,rfl⟩;have hlen:l.length≤9:=by rw [←hl];exact jty (by omega)
 have hval:Dig.val l=N:=by rw [←hl];exact Dig.val_digits N
 have hdig:jcG l:=by rw [←hl];exact (Dig.digits_dig N).1
 have hpos:0 < l.length:=by
  rcases Nat.eq_zero_or_pos l.length with e0|e0
  ·have:l=[]:=List.eq_nil_of_length_eq_zero e0;rw [this] at hval;simp [Dig.val] at hval;omega
  ·exact e0
 have HP:=qh (fun (W:World)=>jl4 (w:=W) hval hdig hpos (by omega));rw [hl] at HW ⊢;have q1:decide ((20:Int) < (l.length:Int))=false:=by rw [decide_eq_false_iff_not];omega
 have HN:=qh (And.intro h1 h2);clear hD e hl hlen hval hdig hpos h1 h2;go_enter Tryz.func98,Tryz.ntmps98;go_upto_region 5 with (first|(go_at_call 152;(with_reducible refine mo0 (HW.out _) fun w1 hb1 hc1 hf1 _=> ?_))|(go_at_call 118;(with_reducible refine (HP.out _).mono ?_);rintro e2 w2 ⟨g,n,c,ds,rfl,hd,ht,hv,hg1,hg2,hb2⟩;obtain ⟨hc2,hf2,_⟩:=bc0 hb2))
 have hds:=jpU ht hd.dig hv (by have:=HN.out;omega) (by have:=HN.out;rw [jaq];omega);obtain rfl:1=n:=by have:=hd.len;rw [hds] at this;exact this
 obtain ⟨b',o',e',_,hcell⟩:=hd.at_ (by omega);have f0:=hcell 0 (by omega);cases e'
 rw [hds] at f0;have f0:w2.cell? ⟨g,0,none⟩=some (.int .i64 (N:Int)):=f0;have zg:g≠w2.heap.size:=by omega
 have bU:Below w.heap.size w (w2.alloc (.cells #[.bool false, .slice (some ⟨g,0,none⟩) 1 c] 100)):=bi;have k0:(w2.alloc (.cells #[.bool false, .slice (some ⟨g,0,none⟩) 1 c] 100)).cell? ⟨w2.heap.size,0,none⟩=some (.bool false):=by simp
 have k1:(w2.alloc (.cells #[.bool false, .slice (some ⟨g,0,none⟩) 1 c] 100)).cell? ⟨w2.heap.size,1,none⟩=some (.slice (some ⟨g,0,none⟩) 1 c):=by simp
 have kU:(w2.alloc (.cells #[.bool false, .slice (some ⟨g,0,none⟩) 1 c] 100)).cell? ⟨g,0,none⟩=some (.int .i64 (N:Int)):=ja9 (bA bR) f0;obtain ⟨U,hU⟩:∃U,(w2.alloc (.cells #[.bool false, .slice (some ⟨g,0,none⟩) 1 c] 100))=U:=⟨_,rfl⟩;rw [hU] at bU k0 k1 kU ⊢;obtain ⟨p,hp⟩:∃p,w2.heap.size=p:=⟨_,rfl⟩;rw [hp] at k0 k1 ⊢;have zp:p < U.heap.size:=by rw [←hU,←hp];simp
 have zg2:g < U.heap.size:=by rw [←hU];simp;omega
 have hnn:=HN.out;clear hU hp hcell hd ht hv hds hg1 hg2 f0 zg hc1 hc2 hf1 hf2;go_wp2
 go_loopw [5,6] (fun o i wr=>∃(k r:Int),i= .int .i64 k∧o= .int .i64 r∧(k=0∧r=0∨k= -1∧r=(N:Int))∧wr=U) (fun _ i _=>(intOf i+1).toNat)
 case atStart=>exact ⟨0,0,rfl,rfl, .inl ⟨rfl,rfl⟩,rfl⟩
 case round=>
  obtain ⟨k,r,rfl,rfl,⟨rfl,rfl⟩|⟨rfl,rfl⟩,rfl⟩:=hrel
  ·have m1:IntKind.i64.wrap ((0:Int)+(N:Int))=(N:Int):=by simp [IntKind.wrap,IntKind.bits,IntKind.signed];omega
   have m2:IntKind.i64.wrap (N:Int)=(N:Int):=by simp [IntKind.wrap,IntKind.bits,IntKind.signed];omega
   clear hnn;go_wp2;exact ⟨⟨-1,_,rfl,rfl, .inr ⟨rfl,rfl⟩,trivial⟩,by decide⟩
  ·clear hnn;go_wp2;go_ret2;exact ⟨rfl,bU⟩
theorem dzm {m:Int} (h1:1≤m) (h2:m≤999999999):Dz 9 ((m:Int):Rat):=⟨by rw [Rat.num_intCast];omega,by rw [Rat.den_intCast];omega⟩
theorem jgR {m:Int} (h1:1≤m) (h2:m≤999999999):Calls Tryz.prog 12 #[.int .i64 m] w (QP ((m:Int):Rat) w):=by
 obtain ⟨n,rfl⟩:∃n:Nat,m=(n:Int):=⟨m.toNat,by omega⟩;exact jlI (by omega)
variable {x y z:Rat} {k j:Nat}
theorem jkl (h1:1≤mass) (h2:mass≤999999999) (hx:Dz k x) (hy:Dz j y) (hk:0 < k) (hj:0 < j) (hk2:k≤1000) (hj2:j≤1000) (h0:100 - y≠0):Calls Tryz.prog 97 #[.int .i64 mass,bs (tq x),bs (tq y)] w (QP ((mass:Rat)*(100 - x) / (100 - y)) w):=by
 have HF:=qh (fun W=>jgR (w:=W) h1 h2);have HW:=qh (fun W=>ju2 (w:=W) hx (dzm h1 h2) hy hk (by omega) hj hk2 (by omega) hj2 h0);unfold QP at HF HW ⊢;obtain ⟨X,hX⟩:∃X,tq x=X:=⟨_,rfl⟩;obtain ⟨Y,hY⟩:∃X,tq y=X:=⟨_,rfl⟩;obtain ⟨M,hM⟩:∃X,tq ((mass:Int):Rat)=X:=⟨_,rfl⟩;obtain ⟨R,hR⟩:∃X,tq ((mass:Rat)*(100 - x) / (100 - y))=X:=⟨_,rfl⟩;rw [hM] at HF;rw [hX,hY,hM,hR] at HW;rw [hX,hY,hR];clear h1 h2 hx hy hk hj hk2 hj2 h0 hX hY hM hR;go_enter Tryz.func97,Tryz.ntmps97;go_wp2_with (first|(go_at_call 12;(with_reducible refine mo0 (HF.out _) fun w1 hb1 hc1 hf1 _=> ?_))|(go_at_call 154;(with_reducible refine mo0 (HW.out _) fun w2 hb2 hc2 hf2 _=> ?_)))
 go_ret;exact ⟨rfl,bi⟩
theorem jj7 (h1:1≤mass) (h2:mass≤999999999) (hx:Dz k x) (hk:0 < k) (hk2:k≤1000):Calls Tryz.prog 100 #[.int .i64 mass,bs (tq x)] w (QP ((mass:Rat)*(100 - x) / 100) w):=by
 have HF:=qh (fun W=>jgR (w:=W) h1 h2);have HW:=qh (fun W=>jmB (w:=W) hx (dzm h1 h2) hk (by omega) hk2 (by omega));unfold QP at HF HW ⊢;obtain ⟨X,hX⟩:∃X,tq x=X:=⟨_,rfl⟩;obtain ⟨M,hM⟩:∃X,tq ((mass:Int):Rat)=X:=⟨_,rfl⟩;obtain ⟨R,hR⟩:∃X,tq ((mass:Rat)*(100 - x) / 100)=X:=⟨_,rfl⟩;rw [hM] at HF;rw [hX,hM,hR] at HW;rw [hX,hR];clear h1 h2 hx hk hk2 hX hM hR;go_enter Tryz.func100,Tryz.ntmps100;go_wp2_with (first|(go_at_call 12;(with_reducible refine mo0 (HF.out _) fun w1 hb1 hc1 hf1 _=> ?_))|(go_at_call 156;(with_reducible refine mo0 (HW.out _) fun w2 hb2 hc2 hf2 _=> ?_)))
 go_ret;exact ⟨rfl,bi⟩
theorem jhB {N:Int} (hN:Ceil mass N x y) (hz:100 - (mass:Rat)*(100 - x) / (N:Rat)=z) (hx:Dz k x) (hy:Dz j y) (hk:0 < k) (hj:0 < j) (hk2:k≤1000) (hj2:j≤1000):
  Calls Tryz.prog 31 #[.int .i64 mass,bs (tq x),bs (tq y)] w fun e w'=>e= .returned (.tuple #[.int .i64 N,bs (tq z)])∧Below w.heap.size w w':=by
 obtain ⟨N1,N2⟩:=hN.le;have m1:=hN.m1;have m2:=hN.m2;have hy1:(100:Rat) - y≠0:=by have:=hN.hx;have:=hN.hyx;grind
 have hm:=dzm m1 m2;obtain ⟨P,hP⟩:∃P,(mass:Rat)*(100 - x) / (100 - y)=P:=⟨_,rfl⟩;obtain ⟨Q,hQ⟩:∃P,(mass:Rat)*(100 - x) / 100=P:=⟨_,rfl⟩;have dP:Dz (k+j+20) P:=hP ▸ ((hm.mul (jc9.sub hx)).div (jc9.sub hy) hy1).mono (by omega);have dQ:Dz (k+20) Q:=hQ ▸ ((hm.mul (jc9.sub hx)).div jc9 (by decide+kernel)).mono (by omega);have dF:Dz (k+j+20) (((-P).floor:Int):Rat):=jph dP.neg;have hn:=hN.eq;rw [hP] at hn;have hNr: -((((-P).floor:Int):Rat))=((N:Int):Rat):=by rw [←hn,Rat.intCast_neg]
 obtain ⟨n,rfl⟩:∃n:Nat,N=(n:Int):=⟨N.toNat,by omega⟩;have dN:=dzm N1 (by omega)
 have hN0:(((n:Int):Int):Rat)≠0:=by
  intro e;have:(n:Int)=0:=by exact_mod_cast e
  omega
 have d100Q:=jc9.mul dQ;have dD:=d100Q.div dN hN0;have HW:=qh (fun W=>jkl (w:=W) m1 m2 hx hy hk hj hk2 hj2 hy1);have HN1:=qh (fun W=>jsy (w:=W) dP (by omega) (by omega));have HFL:=qh (fun W=>jpE (w:=W) dP.neg (by omega) (by omega));have HN2:=qh (fun W=>jsy (w:=W) dF (by omega) (by omega));have HTI:=qh (fun W=>jpb (w:=W) (N:=n) (by omega) (by omega));have HMA:=qh (fun W=>jj7 (w:=W) m1 m2 hx hk hk2);have HMU:=qh (fun W=>jka (w:=W) jc9 dQ (by omega) (by omega) (by omega) (by omega));have HDI:=qh (fun W=>jnh (w:=W) d100Q dN (by omega) (by omega) (by omega) (by omega) hN0);have HSU:=qh (fun W=>jg3 (w:=W) jc9 dD (by omega) (by omega) (by omega) (by omega))
 have ez:100 - 100*Q / (((n:Int):Int):Rat)=z:=by
  rw [←hz,←hQ];have:(100:Rat)*((mass:Rat)*(100 - x) / 100)=(mass:Rat)*(100 - x):=by grind
  rw [this]
 unfold QP at HW HN1 HFL HN2 HMA HMU HDI HSU;rw [ez] at HSU;rw [hNr] at HN2;rw [hP] at HW;rw [hQ] at HMA;rw [show tq (100:Rat)=[49,48,48] by decide+kernel] at HMU HSU;obtain ⟨X,hX⟩:∃X,tq x=X:=⟨_,rfl⟩;obtain ⟨Y,hY⟩:∃X,tq y=X:=⟨_,rfl⟩;obtain ⟨T1,e1⟩:∃X,tq P=X:=⟨_,rfl⟩;obtain ⟨T2,e2⟩:∃X,tq (-P)=X:=⟨_,rfl⟩;obtain ⟨T3,e3⟩:∃X,tq (((-P).floor:Int):Rat)=X:=⟨_,rfl⟩;obtain ⟨T4,e4⟩:∃X,tq (((n:Int):Int):Rat)=X:=⟨_,rfl⟩;obtain ⟨T5,e5⟩:∃X,tq Q=X:=⟨_,rfl⟩;obtain ⟨T6,e6⟩:∃X,tq (100*Q)=X:=⟨_,rfl⟩;obtain ⟨T7,e7⟩:∃X,tq (100*Q / (((n:Int):Int):Rat))=X:=⟨_,rfl⟩;obtain ⟨T8,e8⟩:∃X,tq z=X:=⟨_,rfl⟩;rw [hX,hY,e1] at HW;rw [e1,e2] at HN1;rw [e2,e3] at HFL;rw [e3,e4] at HN2;rw [e4] at HTI;rw [hX,e5] at HMA;rw [e5,e6] at HMU;rw [e6,e4,e7] at HDI;rw [e7,e8] at HSU;rw [hX,hY,e8];have q1:decide ((n:Int) < 1)=false:=by rw [decide_eq_false_iff_not];omega
 have q2:decide (n < 1)=false:=by rw [decide_eq_false_iff_not];omega
 have q3:decide (n=0)=false:=by rw [decide_eq_false_iff_not];omega
 clear hN hz hx hy hk hj hk2 hj2 N2 m1 m2 hy1 hm hP hQ dP dQ dF hn hNr dN hN0 d100Q dD ez hX hY e1 e2 e3 e4 e5 e6 e7 e8;go_enter Tryz.func31,Tryz.ntmps31;go_wp2_with (first|(go_at_call 97;(with_reducible refine mo0 (HW.out _) fun w1 hb1 hc1 hf1 _=> ?_))|(go_at_call 61;(with_reducible show Calls _ _ #[bs T1] _ _);(with_reducible refine mo0 (HN1.out _) fun w2 hb2 hc2 hf2 _=> ?_))|(go_at_call 96;(with_reducible refine mo0 (HFL.out _) fun w3 hb3 hc3 hf3 _=> ?_))|(go_at_call 61;(with_reducible show Calls _ _ #[bs T3] _ _);(with_reducible refine mo0 (HN2.out _) fun w4 hb4 hc4 hf4 _=> ?_))|(go_at_call 98;(with_reducible refine mo0 (HTI.out _) fun w5 hb5 hc5 hf5 _=> ?_))|(go_at_call 100;(with_reducible refine mo0 (HMA.out _) fun w6 hb6 hc6 hf6 _=> ?_))|(go_at_call 11;(with_reducible refine mo0 (HMU.out _) fun w7 hb7 hc7 hf7 _=> ?_))|(go_at_call 99;(with_reducible refine mo0 (HDI.out _) fun w8 hb8 hc8 hf8 _=> ?_))|(go_at_call 13;(with_reducible refine mo0 (HSU.out _) fun w9 hb9 hc9 hf9 _=> ?_)))
 go_ret2;exact ⟨rfl,bi⟩
end

section
variable {w:World} {a b x want:List UInt8} {mass:Int}
variable {A B:Option Addr} {n c d:Nat} {ls:List (List UInt8)}
theorem jgr {r:Bool} (h:Sv w A n ls) (hn:n < 9223372036854775808) (hr:(ls.all fun l=>decide (l.length≤30))=r):Calls Tryz.prog 4 #[.slice A n c] w fun e w'=>e= .returned (.bool r)∧Below w.heap.size w w':=by
 have H:=qh h;have HN:=qh hn;have HR:=qh hr;clear h hn hr;go_enter Tryz.func4,Tryz.ntmps4;go_wp2
 go_loopw [7] (fun u wr=>∃(i:Nat),u= .int .i64 (i:Int)∧i≤n∧Below w.heap.size w wr∧((ls.drop i).all fun l=>decide (l.length≤30))=r) (fun u _=>n - (intOf u).toNat)
 case atStart=>exact ⟨0,rfl,Nat.zero_le _,bi,HR.out⟩
 case round=>
  obtain ⟨i,rfl,hin,hb,hc⟩:=hrel;have _:=bm hb;have hnn:=HN.out;by_cases hi:i < n
  ·have q0:decide ((i:Int) < (n:Int))=true:=by simp;exact hi
   have q9:decide (i < n)=true:=by simpa using hi
   obtain ⟨b,o,rfl,hbl,hcell⟩:=(H.out.below hb).at_ (by omega);have hx:=hcell i hi;have hil:i < ls.length:=by rw [H.out.len];exact hi
   rw [jd5 (d:=[]) hil,List.all_cons] at hc;have hmem:ls.getD i []∈ls:=by rw [List.getD_eq_getElem?_getD,List.getElem?_eq_getElem hil];exact List.getElem_mem hil
   obtain ⟨x,hxx⟩:∃x,ls.getD i []=x:=⟨_,rfl⟩;rw [hxx] at hx hc;have HI:=qh hi;clear hcell hmem hil hxx;by_cases h0:x.length≤30
   ·have q1:decide ((30:Int) < (x.length:Int))=false:=by rw [decide_eq_false_iff_not];omega
    rw [decide_eq_true h0,Bool.true_and] at hc;have HC:=qh hc;clear hc h0;go_wp2;exact ⟨⟨i+1,by simp,HI.out,bi,HC.out⟩,by have:=HI.out;simp [intOf];omega⟩
   ·have q1:decide ((30:Int) < (x.length:Int))=true:=by rw [decide_eq_true_iff];omega
    rw [decide_eq_false h0,Bool.false_and] at hc;subst hc;clear h0;go_wp2;go_ret;exact ⟨rfl,bi⟩
  ·have q0:decide (i < n)=false:=by simp;omega
   rw [List.drop_eq_nil_of_le (by rw [H.out.len];omega)] at hc;obtain rfl:true=r:=hc;clear hi;go_wp2;go_ret;exact ⟨rfl,bi⟩
end
end Go.Proofs.YtekpigjlnjddbaaGreatDoor
