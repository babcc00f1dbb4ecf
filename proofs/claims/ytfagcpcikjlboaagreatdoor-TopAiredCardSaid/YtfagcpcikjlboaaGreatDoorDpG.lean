/- Parts. -/
import Derived.Test.YtfagcpcikjlboaaGreatDoorWhG
import Derived.Laws.Cover3
set_option linter.all false
set_option maxRecDepth 100000
set_option maxHeartbeats 8000000
namespace Go.Proofs.YtfagcpcikjlboaaGreatDoor

theorem jdv (l:List Nat) (k:Nat):Pos.nv B64 (l.drop k)=dg l k+B64*Pos.nv B64 (l.drop (k+1)):=by
 rcases Nat.lt_or_ge k l.length with h|h
 ·rw [List.drop_eq_getElem_cons h,gd h];rfl
 ·rw [jbJ h,List.drop_of_length_le h,List.drop_of_length_le (by omega)];simp [Pos.nv]
theorem joG (l:List Nat) (k d:Nat):(l.set k d).drop (k+1)=l.drop (k+1):=by
 apply List.ext_getElem?;intro i;simp only [List.getElem?_drop,List.getElem?_set];rw [if_neg (by omega)]

structure OneInv (ds zs:List Nat) (k y r:Nat):Prop where
 len:zs.length=ds.length
 rest:r < y
 val:Pos.nv B64 (ds.drop k)=Pos.nv B64 (zs.drop k)*y+r
 low:∀p,p < k→dg zs p=0
theorem OneInv.start (ds:List Nat) {y:Nat} (hy:0 < y):OneInv ds (List.replicate ds.length 0) ds.length y 0:=
 ⟨by simp,hy,by rw [List.drop_of_length_le (by omega),List.drop_of_length_le (by simp)];simp [Pos.nv],fun p _=>jdi _ _⟩
theorem OneInv.digit {ds zs:List Nat} {k y r:Nat} (h:OneInv ds zs (k+1) y r) (hd:Pos.Dig B64 ds):(r*B64+dg ds k) / y < B64:=by
 rw [Nat.div_lt_iff_lt_mul (by have:=h.rest;omega)];have h1:(r+1)*B64≤y*B64:=Nat.mul_le_mul_right _ h.rest;rw [Nat.add_mul,Nat.one_mul] at h1;have h2:=ja8 hd k;rw [←ja3] at h2;rw [Nat.mul_comm B64];omega
theorem OneInv.step {ds zs:List Nat} {k y r:Nat} (h:OneInv ds zs (k+1) y r) (hk:k < ds.length):OneInv ds (zs.set k ((r*B64+dg ds k) / y)) k y ((r*B64+dg ds k) % y) where
 len:=by rw [List.length_set,h.len]
 rest:=Nat.mod_lt _ (by have:=h.rest;omega)
 val:=by
  rw [jdv,jdv (zs.set k _),joG,jaG (by rw [h.len];exact hk),h.val];have:=Nat.div_add_mod' (r*B64+dg ds k) y;rw [Nat.add_mul,Nat.mul_add,Nat.mul_assoc,Nat.mul_comm B64 r];omega
 low:=fun p hp=>by rw [jai (by omega)];exact h.low p (by omega)
theorem OneInv.stop {ds zs:List Nat} {y r:Nat} (h:OneInv ds zs 0 y r):Pos.nv B64 zs=Pos.nv B64 ds / y∧r=Pos.nv B64 ds % y:=by
 have hv:=h.val;simp only [List.drop_zero] at hv;exact jjH hv h.rest

theorem jji {l:List Nat} {n:Nat} (h:Pos.nv B64 l < B64^n):∀p,n≤p→dg l p=0:=by
 intro p hp;rcases Nat.lt_or_ge p l.length with hl|hl
 ·rcases Nat.eq_zero_or_pos (dg l p) with h0|h0
  ·exact h0
  ·exfalso;have h1:=Pos.nv_split (b:=B64) l (p) (by omega);rw [jdv,Nat.mul_add] at h1;have h2:=Nat.le_mul_of_pos_right (B64^p) h0;have h3:B64^n≤B64^p:=Nat.pow_le_pow_right ja6 hp;omega
 ·exact jbJ hl
theorem jrA (l:List Nat):∀n,(∀p,n≤p→dg l p=0)→Pos.nv B64 l=sv (dg l) n:=by
 intro n h;rw [jcS];rcases Nat.lt_or_ge n l.length with hl|hl
 ·have h1:=Pos.nv_split (b:=B64) l n (by omega)
  have h2:Pos.nv B64 (l.drop n)=0:=by
   have:∀(m:List Nat),(∀p,dg m p=0)→Pos.nv B64 m=0:=by
    intro m
    induction m with
    | nil=>intro _;rfl
    | cons a m ih=>
      intro hm;have h0:=hm 0;have h1:a=0:=by simpa [dg] using h0
      simp only [Pos.nv];rw [h1,ih fun p=>by have:=hm (p+1);simpa [dg] using this];simp
   refine this _ fun p=> ?_
   have:=h (n+p) (by omega);simpa [dg,List.getD_eq_getElem?_getD,List.getElem?_drop] using this
  rw [h1,h2];omega
 ·rw [List.take_of_length_le hl]
theorem jf8 (l:List Nat) (j i:Nat):dg (l.drop j) i=dg l (j+i):=by simp [dg,List.getD_eq_getElem?_getD,List.getElem?_drop]

structure ManyInv (us ws qs vs:List Nat) (J n:Nat):Prop where
 len:ws.length=us.length
 top:Pos.nv B64 (ws.drop J) < sv (dg vs) (n+2)
 val:Pos.nv B64 us=Pos.nv B64 qs*sv (dg vs) (n+2)+Pos.nv B64 ws
 low:∀p,p < J→dg qs p=0

section
variable {us ws qs vs:List Nat} {j n:Nat}
theorem ManyInv.win (h:ManyInv us ws qs vs (j+1) n) (hv:Pos.Dig B64 vs):sv (fun i=>dg ws (j+i)) (n+3)=Pos.nv B64 (ws.drop j)∧∀p,j+(n+2) < p→dg ws p=0:=by
 have hV:sv (dg vs) (n+2) < B64^(n+2):=ji7 (ja8 hv) _
 have hz:∀p,j+(n+2) < p→dg ws p=0:=by
  intro p hp;have:=jji (l:=ws.drop (j+1)) (n:=n+2) (by have:=h.top;omega) (p - (j+1)) (by omega);rw [jf8] at this;rwa [show j+1+(p - (j+1))=p by omega] at this
 refine ⟨?_,hz⟩;rw [jrA (ws.drop j) (n+3) (fun p hp=>by rw [jf8];exact hz _ (by omega))];exact (jb1 fun i _=>jf8 ws j i).symm
theorem ManyInv.nums (h:ManyInv us ws qs vs (j+1) n) (hv:Pos.Dig B64 vs) (hw:Pos.Dig B64 ws) (hp:0 < dg vs (n+1)):StepNums ws vs j n where
 pos:=hp
 lt:=by
  rw [(h.win hv).1,jdv];have h1:B64*(Pos.nv B64 (ws.drop (j+1))+1)≤B64*sv (dg vs) (n+2):=Nat.mul_le_mul_left _ h.top;rw [Nat.mul_add,Nat.mul_one] at h1;have h2:=ja8 hw j;rw [←ja3] at h2;rw [Nat.mul_comm (sv (dg vs) (n+2))];omega
theorem ManyInv.step (h:ManyInv us ws qs vs (j+1) n) (hv:Pos.Dig B64 vs) (hw:Pos.Dig B64 ws) (hp:0 < dg vs (n+1)) (hj:j < qs.length) (hjw:j < ws.length) {q:Nat} {xs:List Nat} (hS:StepDone ws xs vs j (n+2) q):
  q < B64∧ManyInv us xs (qs.set j q) vs j n:=by
 have hN:=h.nums hv hw hp;have hVp:=jlh hN;obtain ⟨hwin,hz⟩:=h.win hv;have hxz:∀p,j+(n+2) < p→dg xs p=0:=fun p hp=>by rw [hS.out p (.inr hp)];exact hz p hp
 have hxw:Pos.nv B64 (xs.drop j)=sv (fun i=>dg xs (j+i)) (n+3):=by
  rw [jrA (xs.drop j) (n+3) (fun p hp=>by rw [jf8];exact hxz _ (by omega))];exact jb1 fun i _=>jf8 xs j i
 have hq:=hS.quo;have hr:=hS.rest;refine ⟨?_, ?_⟩
 ·rw [hq,Nat.div_lt_iff_lt_mul hVp,Nat.mul_comm];exact hN.lt
 ·refine ⟨by rw [hS.len,h.len],by rw [hxw,hr];exact Nat.mod_lt _ hVp, ?_,fun p hp=>by rw [jai (by omega)];exact h.low p (by omega)⟩;have e1:=Pos.nv_split (b:=B64) ws j (by omega);have e2:=Pos.nv_split (b:=B64) xs j (by rw [hS.len];omega)
  have e3:Pos.nv B64 (xs.take j)=Pos.nv B64 (ws.take j):=by
   rw [←jcS,←jcS];exact jb1 fun i hi=>hS.out i (.inl hi)
  have e4:=jbB (l:=qs) hj q;rw [h.low j (by omega),Nat.mul_zero,Nat.add_zero] at e4;have e5:=Nat.div_add_mod' (sv (fun i=>dg ws (j+i)) (n+2+1)) (sv (dg vs) (n+2));rw [←hq,←hr] at e5;have e6:Pos.nv B64 (ws.drop j)=q*sv (dg vs) (n+2)+Pos.nv B64 (xs.drop j):=by rw [hxw,←hwin];exact e5.symm
  have hv0:=h.val;rw [e1,e6,Nat.mul_add] at hv0;rw [e4,Nat.add_mul,e2,e3,Nat.mul_assoc];omega
end

structure BackShift (ws xs:List Nat) (i s:Nat):Prop where
 len:xs.length=ws.length
 out:∀p,i≤p→dg xs p=dg ws p
 val:Pos.nv B64 (xs.take i)*2^s+dg ws 0 % 2^s=Pos.nv B64 (ws.take i)+B64^i*(dg ws i % 2^s)
theorem BackShift.start (ws:List Nat) (s:Nat):BackShift ws ws 0 s:=⟨rfl,fun _ _=>rfl,by simp [Pos.nv]⟩
theorem jl7 {x y s:Nat} (hs0:0 < s) (hs:s < 64) (hx:x < B64):
  (x / 2^s ||| y*2^(64 - s) % B64) < B64∧(x / 2^s ||| y*2^(64 - s) % B64)*2^s+x % 2^s=x+B64*(y % 2^s):=by
 have e:(18446744073709551616:Nat)=2^s*2^(64 - s):=by rw [←Nat.pow_add,show s+(64 - s)=64 by omega]
 have h1:y*2^(64 - s) % B64=(y % 2^s)*2^(64 - s):=by
  rw [ja3,e,Nat.mul_mod_mul_right]
 have h2:x / 2^s < 2^(64 - s):=by
  rw [Nat.div_lt_iff_lt_mul (Nat.pow_pos (by omega)),Nat.mul_comm,←e];exact hx
 have h3:=Nat.div_add_mod' x (2^s);rw [h1,Nat.or_comm,Dv.or_add h2];have h4:y % 2^s < 2^s:=Nat.mod_lt _ (Nat.pow_pos (by omega))
 have h5:(y % 2^s)*2^(64 - s)*2^s=B64*(y % 2^s):=by
  rw [Nat.mul_assoc,Nat.mul_comm (2^(64 - s)),←e,←ja3,Nat.mul_comm]
 refine ⟨?_,by rw [Nat.add_mul,h5];omega⟩;have h6:(y % 2^s+1)*2^(64 - s)≤2^s*2^(64 - s):=Nat.mul_le_mul_right _ h4;rw [Nat.add_mul,Nat.one_mul,←e,←ja3] at h6;omega
theorem BackShift.step {ws xs:List Nat} {i s:Nat} (h:BackShift ws xs i s) (hi:i < ws.length) {d:Nat} (hd:d*2^s+dg ws i % 2^s=dg ws i+B64*(dg ws (i+1) % 2^s)):BackShift ws (xs.set i d) (i+1) s where
 len:=by rw [List.length_set,h.len]
 out:=fun p hp=>by rw [jai (by omega)];exact h.out p (by omega)
 val:=by
  have e:Pos.nv B64 ((xs.set i d).take i)=Pos.nv B64 (xs.take i):=by
   rw [←jcS,←jcS];exact jb1 fun p hp=>jai (by omega)
  rw [jaB,jaB,e,jaG (by rw [h.len];exact hi),Nat.add_mul,Nat.pow_succ];have hv:=h.val;have e2:=congrArg (B64^i* ·) hd;simp only [Nat.mul_add] at e2;rw [Nat.mul_assoc,Nat.mul_assoc];omega
theorem jsT {ws:List Nat} {s:Nat} (hs:s < 64):dg ws 0 % 2^s=Pos.nv B64 ws % 2^s:=by
 have h:=jdv ws 0;rw [List.drop_zero] at h;have e:B64=2^s*2^(64 - s):=by rw [←Nat.pow_add,show s+(64 - s)=64 by omega,ja3]
 rw [h,e,Nat.mul_assoc,Nat.add_mul_mod_self_left]
theorem BackShift.stop {ws xs:List Nat} {n s r:Nat} (h:BackShift ws xs n s) (hs:s < 64) (hr:Pos.nv B64 ws=r*2^s) (hl:Pos.nv B64 ws < B64^n):Pos.nv B64 (xs.take n)=r:=by
 have hv:=h.val;rw [jsT hs,hr,Nat.mul_mod_left,jji hl n (Nat.le_refl _),Nat.zero_mod,Nat.mul_zero,Nat.add_zero,Nat.add_zero] at hv;have e:=jrA ws n (jji hl);rw [jcS] at e;rw [←e,hr] at hv;exact Nat.eq_of_mul_eq_mul_right (Nat.pow_pos (by omega)) hv
theorem jru {N D q r s:Nat} (h:N*2^s=q*(D*2^s)+r) (hr:r < D*2^s):q=N / D∧r=N % D*2^s:=by
 have hp:0 < 2^s:=Nat.pow_pos (by omega);obtain ⟨a,b⟩:=jjH h hr;rw [Nat.mul_div_mul_right _ _ hp] at a;rw [Nat.mul_mod_mul_right] at b;exact ⟨a,b⟩
end Go.Proofs.YtfagcpcikjlboaaGreatDoor
namespace Go.Proofs.YtfagcpcikjlboaaGreatDoor
open Go Go.RowKit Go.Proofs.Tryz

def jce (x y:Nat) (w:World) (e:Ending) (w':World):Prop:=
 ∃ A n c qs B m d rs,e= .returned (.tuple #[.slice A n c, .slice B m d])∧(n≤c∧c < 1099511627776∧Wd w' A n qs∧Pos.Trim qs∧Pos.nv B64 qs=x / y)∧
   (m≤d∧d < 1099511627776∧Wd w' B m rs∧Pos.Trim rs∧Pos.nv B64 rs=x % y)∧Below w.heap.size w w'
theorem jf4 {x y:Nat} {w w':World} {v:Value} {A B:Option Addr} {n c m d:Nat} {qs rs:List Nat} (hv:v= .tuple #[.slice A n c, .slice B m d]) (h1:n≤c∧c < 1099511627776∧Wd w' A n qs∧Pos.Trim qs∧Pos.nv B64 qs=x / y)
  (h2:m≤d∧d < 1099511627776∧Wd w' B m rs∧Pos.Trim rs∧Pos.nv B64 rs=x % y) (h3:Below w.heap.size w w'):jce x y w (.returned v) w':=
 ⟨A,n,c,qs,B,m,d,rs,by rw [hv],h1,h2,h3⟩

section
variable {A A':Option Addr} {n n' c c':Nat} {ds es:List Nat} {w:World}
theorem jfG (h:Wd w A n ds) (h':Wd w A' n' es) (t:Pos.Trim ds) (t':Pos.Trim es) (hl:Pos.nv B64 ds < Pos.nv B64 es):
  Calls prog 173 #[.slice A n c, .slice A' n' c'] w fun e w'=>e= .returned (.int .i64 (-1))∧Below w.heap.size w w':=
 (jbR A A' n n' c c' ds es w h h' t t').mono fun e w' ⟨he,hb⟩=>⟨by rw [he,←jhU hl],hb⟩
theorem jdL (h:Wd w A n ds) (h':Wd w A' n' es) (t:Pos.Trim ds) (t':Pos.Trim es) (hl:Pos.nv B64 es≤Pos.nv B64 ds):
  ∃z:Int,0≤z∧Calls prog 173 #[.slice A n c, .slice A' n' c'] w fun e w'=>e= .returned (.int .i64 z)∧Below w.heap.size w w':=by
 by_cases e1:Pos.nv B64 es=Pos.nv B64 ds
 ·exact ⟨0,by omega,(jbR A A' n n' c c' ds es w h h' t t').mono fun e w' ⟨he,hb⟩=>⟨by rw [he,←jo5 e1.symm],hb⟩⟩
 ·exact ⟨1,by omega,(jbR A A' n n' c c' ds es w h h' t t').mono fun e w' ⟨he,hb⟩=>⟨by rw [he,←jhK (by omega)],hb⟩⟩
end

theorem jiH (A A':Option Addr) (n n' c c':Nat) (ds es:List Nat) (w:World) (h:Wd w A n ds) (h':Wd w A' n' es) (t:Pos.Trim ds) (t':Pos.Trim es) (hn:n≤c) (hc:c < 1099511627776) (hl:Pos.nv B64 ds < Pos.nv B64 es):
  Calls prog 146 #[.slice A n c, .slice A' n' c'] w (jce (Pos.nv B64 ds) (Pos.nv B64 es) w):=by
 have H1:=qh (jfG (c:=c) (c':=c') h h' t t' hl);have HD:=qh h;have HT:=qh t;have HL:=qh hl;clear h h' t t' hl;go_enter func146,ntmps146;go_wp2_with (go_at_call 173;((with_reducible refine mz (H1.o) fun w1 hb1 _=> ?_));have HB:=qh hb1;clear hb1)
 go_ret2;exact jf4 (A:=none) (n:=0) (c:=0) (B:=A) (m:=n) (d:=c) (qs:=[]) (rs:=ds) rfl ⟨Nat.le_refl _,by omega,Wd.nil _ _,Pos.Trim.nil,by rw [Nat.div_eq_of_lt HL.o];rfl⟩ ⟨hn,hc,HD.o.below HB.o,HT.o,by rw [Nat.mod_eq_of_lt HL.o]⟩ HB.o

theorem MulInv.drewN {w wr:World} {g m:Nat} {zs:List Nat} (h:MulInv w wr g m zs) (n:Nat):MulInv w (wr.drewN n) g m zs:=⟨h.len,h.dig,h.blk.drewN n,jav h.bel n,h.own⟩
theorem jli (A A':Option Addr) (n c c':Nat) (ds es:List Nat) (w:World) (h:Wd w A n ds) (h':Wd w A' 1 es) (t:Pos.Trim ds) (t':Pos.Trim es) (hn:n < 549755813888) (hl:Pos.nv B64 es≤Pos.nv B64 ds):
  Calls prog 146 #[.slice A n c, .slice A' 1 c'] w (jce (Pos.nv B64 ds) (Pos.nv B64 es) w):=by
 obtain rfl:=h.len;obtain ⟨y,rfl⟩:∃y,es=[y]:=List.length_eq_one_iff.1 h'.len;have hy:0 < y:=by have:=t'.last (by simp);simp at this;omega
 have hyB:y < B64:=h'.dig y (by simp);have hes:Pos.nv B64 [y]=y:=Pos.nv_one y;obtain ⟨z,hz0,hz1⟩:=jdL (c:=c) (c':=c') h h' t t' hl;have H1:=qh hz1;rw [hes];have HD:=qh h;have HE:=qh h';have HT:=qh t;have HY:=qh hyB;have hmk:=fun W=>jbs ds.length (by omega) W
 clear h h' t t' hl hes hyB hz1;go_enter func146,ntmps146;go_wp2_with (go_at_call 173;((with_reducible refine mz (H1.o) fun w1 hb1 _=> ?_));have HB:=qh hb1;clear hb1)
 go_loopw [7,8] (fun r i wr=>∃(k r':Nat) (zs:List Nat),k≤ds.length∧i= .int .i64 ((k:Int) - 1)∧r= .int .u64 (r':Int)∧MulInv w1 wr w1.heap.size ds.length zs∧OneInv ds zs k y r') (fun _ i _=>(intOf i+1).toNat)
 case atStart=>
  refine ⟨ds.length,0,_,Nat.le_refl _,rfl,rfl, ?_,OneInv.start ds hy⟩;exact { len:=by simp,dig:=fun d hd=>by rw [List.mem_replicate] at hd;rw [hd.2];exact ja6,blk:=by rw [jcf];exact Blk.new _ _ _,bel:=(Below.refl _ _).alloc (Nat.le_refl _) _,own:=Nat.le_refl _ }
 case round=>
  obtain ⟨k,r,zs,hk,rfl,rfl,hI,hO⟩:=hrel;cases k with
  | zero=>
    have wz:Wd wr (some ⟨w1.heap.size,0,none⟩) ds.length zs:=Wd.of_blk hI.blk rfl hI.len (by omega) hI.dig;have wb:=hI.bel;obtain ⟨v1,v2⟩:=hO.stop;have hrB:r < B64:=Nat.lt_trans hO.rest HY.o;have WZ:=qh wz;have WB:=qh wb;have V1:=qh v1;have V2:=qh v2;have RB:=qh hrB;clear hI hO wz wb v1 v2 hrB;go_wp2_with fail
    refine (jbd _ _ _ _ _ WZ.o (Nat.le_refl _) (by omega)).mono ?_
    rintro e w2 ⟨j,hj,ht,hv,rfl,rfl⟩
    have HT1:=qh ht;have HV1:=qh hv;have HJ:=qh hj;clear ht hv hj;go_wp2_with fail
    have wr1:Wd (wr.alloc (.cells #[Value.int .u64 (r:Int)] 168)) (some ⟨wr.heap.size,0,none⟩) 1 [r]:=
     Wd.of_blk (Blk.new _ _ _) rfl rfl (by omega) (fun d hd=>by rw [List.mem_singleton] at hd;rw [hd];exact RB.o)
    refine (jbd _ _ _ _ _ wr1 (Nat.le_refl _) (by omega)).mono ?_
    rintro e w3 ⟨j2,hj2,ht2,hv2,rfl,rfl⟩
    have HT2:=qh ht2;have HV2:=qh hv2;have WR:=qh wr1;clear ht2 hv2 wr1;go_wp2;go_ret2;have hbb:Below w.heap.size w (wr.alloc (.cells #[Value.int .u64 (r:Int)] 168)):=ja5 (ja0 HB.o WB.o) _;have hba:Below wr.heap.size wr (wr.alloc (.cells #[Value.int .u64 (r:Int)] 168)):=(Below.refl _ _).alloc (Nat.le_refl _) _;exact jf4 rfl ⟨HJ.o,by omega,(WZ.o.below hba).take HJ.o,HT1.o,HV1.o.trans V1.o⟩ ⟨hj2,by omega,WR.o.take hj2,HT2.o,HV2.o.trans (by rw [Pos.nv_one];exact V2.o)⟩ hbb
  | succ k=>
    obtain ⟨b,o,rfl,hb,hcell⟩:=(HD.o.below HB.o).at_ (by omega);have hcl:=(hI.bel.cell (p:=⟨b,o+k,none⟩) hb).trans (hcell k (by omega));obtain ⟨b',o',rfl,hb',hcell'⟩:=(HE.o.below HB.o).at_ (by omega);have hcl':=(hI.bel.cell (p:=⟨b',o'+0,none⟩) hb').trans (hcell' 0 (by omega));simp only [Nat.add_zero] at hcl';rw [show dg [y] 0=y from rfl] at hcl';obtain ⟨pl1,pl2⟩:=hI.place (j:=k) (by omega);have hu:=ja8 HD.o.dig k;have hdg:=hO.digit HD.o.dig;have hS:=hO.step (by omega);obtain ⟨q,hq⟩:∃q,q=(r*B64+dg ds k) / y:=⟨_,rfl⟩;obtain ⟨r2,hr2⟩:∃q,q=(r*B64+dg ds k) % y:=⟨_,rfl⟩;rw [←hq,←hr2] at hS;rw [←hq] at hdg
    have D:∀W,Calls prog 177 #[.int .u64 (r:Int), .int .u64 (dg ds k:Int), .int .u64 (y:Int)] W fun e w'=>e= .returned (.tuple #[.int .u64 (q:Int), .int .u64 (r2:Int)])∧∃m,w'=W.drewN m:=
     fun W=>(jd4 r (dg ds k) y hO.rest hu HY.o W).mono fun e w' ⟨he,hm⟩=>⟨by rw [he,hq,hr2],hm⟩
    have HDV:=qh D;have HS:=qh hS;have HI:=qh hI;have HG:=qh hdg;have i1:(k:Int) < (ds.length:Int):=by omega
    have HK:=qh hk;clear hcell hcell' hu hdg hS hq hr2 D hI hO hk;go_wp2
    go_region_held3 (fun w'=>w'.cell? ⟨b,o+k,none⟩=some (.int .u64 ((dg ds k:Nat):Int))∧w'.cell? ⟨b',o',none⟩=some (.int .u64 (y:Int)))
     (refine ⟨?_, ?_⟩ <;> first|(go_keep;done)|(go_split_ands;(repeat rw [World.cell?_setCell_far _ _ _ _ (by dsimp only;omega)]);assumption))
     ((go_at_call 177;refine (HDV.o _).mono ?_;rintro e w2 ⟨rfl,md,rfl⟩))
    go_wp2;exact ⟨⟨k,r2,_,by have:=HK.o;omega,rfl,rfl,(HI.o.drewN (1+md)).put k q HG.o,HS.o⟩,by simp [intOf]⟩

theorem jel (ds:List Nat):∃k,k≤ds.length∧Pos.Trim (ds.take k)∧Pos.nv B64 (ds.take k)=Pos.nv B64 ds:=by
 have:∀m,m≤ds.length→Pos.nv B64 (ds.take m)=Pos.nv B64 ds→∃k,k≤ds.length∧Pos.Trim (ds.take k)∧Pos.nv B64 (ds.take k)=Pos.nv B64 ds:=by
  intro m
  induction m with
  | zero=>intro h1 h2;exact ⟨0,h1,by rw [List.take_zero];exact Pos.Trim.nil,h2⟩
  | succ m ih=>
    intro h1 h2;by_cases h0:dg ds m=0
    ·exact ih (by omega) (by rw [←jhp ds m h1 h0];exact h2)
    ·exact ⟨m+1,h1,jf1 ds m h1 h0,h2⟩
 exact this ds.length (Nat.le_refl _) (by rw [List.take_length])
noncomputable def jhF (ds:List Nat):Nat:=(jel ds).choose
theorem jc4 (ds:List Nat):jhF ds≤ds.length∧Pos.Trim (ds.take (jhF ds))∧Pos.nv B64 (ds.take (jhF ds))=Pos.nv B64 ds:=(jel ds).choose_spec
theorem jrs {ds:List Nat} (hd:Pos.Dig B64 ds) {k:Nat} (hk:k≤ds.length) (h1:Pos.Trim (ds.take k)) (h2:Pos.nv B64 (ds.take k)=Pos.nv B64 ds):k=jhF ds:=by
 obtain ⟨a,b,c⟩:=jc4 ds;have:=congrArg List.length (Pos.nv_trim_inj ja6 (hd.take k) (hd.take (jhF ds)) h1 b (h2.trans c.symm));simp only [List.length_take] at this;omega
theorem jjU (A:Option Addr) (n c:Nat) (ds:List Nat) (w:World) (h:Wd w A n ds) (hn:n≤c) (hc:c < 1099511627776):
  Calls prog 167 #[.slice A n c] w fun e w'=>e= .returned (.slice A (jhF ds) c)∧w=w':=
 (jbd A n c ds w h hn hc).mono fun e w' ⟨k,h1,h2,h3,h4,h5⟩=>⟨by rw [h4,jrs h.dig (by rw [h.len];exact h1) h2 h3],h5⟩
theorem js8 {l:List Nat} {m:Nat} (hd:Pos.Dig B64 l) (h1:B64^m≤Pos.nv B64 l) (h2:Pos.nv B64 l < B64^(m+1)):jhF l=m+1:=by
 obtain ⟨a,b,c⟩:=jc4 l;have hl:(l.take (jhF l)).length=jhF l:=by rw [List.length_take];omega
 have h3:=Pos.nv_lt (hd.take (jhF l));rw [hl,c] at h3
 have h4:m < jhF l:=by
  rcases Nat.lt_or_ge m (jhF l) with h|h
  ·exact h
  ·exfalso;have:=Nat.pow_le_pow_right ja6 h;omega
 have h5:=Pos.nv_ge (b:=B64) b (by rw [hl];omega);rw [hl,c] at h5;rcases Nat.lt_or_ge (jhF l) (m+2) with h|h
 ·omega
 ·exfalso;have:=Nat.pow_le_pow_right ja6 (show m+1≤jhF l - 1 by omega);omega

theorem Wd.drewN {w:World} {A:Option Addr} {n:Nat} {ds:List Nat} (h:Wd w A n ds) (k:Nat):Wd (w.drewN k) A n ds:=h.below (jav (Below.refl _ _) k)

theorem jfS (A:Option Addr) (n c:Nat) (ds:List Nat) (W:World) (h:Wd W A n ds) (hn:n≤c) (hc:c < 1099511627776) (m:Nat):
  Calls prog 167 #[.slice A n c] (W.drewN m) fun e w''=>e= .returned (.slice A (jhF ds) c)∧∃k,w''=W.drewN k:=
 (jjU A n c ds _ (h.drewN m) hn hc).mono fun e w' ⟨h1,h2⟩=>⟨h1,m,h2.symm⟩

structure DivInv (wv wr:World) (g2 g3 J k:Nat) (us ws qs vs:List Nat) (m:Nat):Prop where
 blkU:Blk wr g2 168 (jis ws)
 digU:Pos.Dig B64 ws
 blkQ:Blk wr g3 168 (jis qs)
 digQ:Pos.Dig B64 qs
 lenQ:qs.length=m
 bel:Below wv.heap.size wv wr
 own2:wv.heap.size≤g2
 own3:wv.heap.size≤g3
 ne:g2≠g3
 inv:ManyInv us ws qs vs J k
theorem DivInv.row {wv wr:World} {g2 g3 J k m:Nat} {us ws qs vs:List Nat} (h:DivInv wv wr g2 g3 J k us ws qs vs m):RowAt wr wr g2 us.length ws:=RowAt.start h.blkU h.digU h.inv.len
theorem DivInv.placeQ {wv wr:World} {g2 g3 J k m j:Nat} {us ws qs vs:List Nat} (h:DivInv wv wr g2 g3 J k us ws qs vs m) (hj:j < m) {w':World} {xs:List Nat} (hR:RowAt wr w' g2 us.length xs):
  w'.cell? ⟨g3,j,none⟩=some (.int .u64 ((dg qs j:Nat):Int))∧w'.frozen? ⟨g3,j,none⟩=false:=by
 have hb:Blk w' g3 168 (jis qs):=(hR.only.block g3 h.blkQ.lt (fun e=>h.ne (by injection e with e;exact e.symm))).trans h.blkQ;exact ⟨by rw [hb.cell,jgC (by rw [h.lenQ];exact hj)],hb.frozen j⟩
theorem DivInv.step {wv wr w':World} {g2 g3 j k m q:Nat} {us ws qs vs xs:List Nat} (h:DivInv wv wr g2 g3 (j+1) k us ws qs vs m) (hv:Pos.Dig B64 vs) (hp:0 < dg vs (k+1)) (hj:j < m) (hju:j < us.length)
  (hS:StepDone ws xs vs j (k+2) q) (hR:RowAt wr w' g2 us.length xs):DivInv wv (w'.setCell ⟨g3,j,none⟩ (.int .u64 (q:Int))) g2 g3 j k us xs (qs.set j q) vs m:=by
 obtain ⟨hq,hM⟩:=h.inv.step hv h.digU hp (by rw [h.lenQ];exact hj) (by rw [h.inv.len];exact hju) hS;have hb:Blk w' g3 168 (jis qs):=(hR.only.block g3 h.blkQ.lt (fun e=>h.ne (by injection e with e;exact e.symm))).trans h.blkQ
 exact {
  blkU:=hR.blk.far (p:=⟨g3,j,none⟩) h.ne _
  digU:=hR.dig
  blkQ:=by have:=hb.set_ j (.int .u64 (q:Int));rw [jcs] at this;exact this
  digQ:=h.digQ.set j hq
  lenQ:=by rw [List.length_set,h.lenQ]
  bel:=(h.bel.grown hR.only h.bel.size (fun k e=>by injection e with e;rw [←e];exact h.own2)).setCell h.own3 _
  own2:=h.own2
  own3:=h.own3
  ne:=h.ne
  inv:=hM }

structure BackAt (wv wr:World) (g2 g3 i s:Nat) (ws xs qs:List Nat):Prop where
 blkU:Blk wr g2 168 (jis xs)
 digU:Pos.Dig B64 xs
 blkQ:Blk wr g3 168 (jis qs)
 bel:Below wv.heap.size wv wr
 own2:wv.heap.size≤g2
 ne:g2≠g3
 inv:BackShift ws xs i s
theorem BackAt.place {wv wr:World} {g2 g3 i s p:Nat} {ws xs qs:List Nat} (h:BackAt wv wr g2 g3 i s ws xs qs) (hp:p < ws.length):wr.cell? ⟨g2,p,none⟩=some (.int .u64 ((dg xs p:Nat):Int))∧wr.frozen? ⟨g2,p,none⟩=false:=
 ⟨by rw [h.blkU.cell,jgC (by rw [h.inv.len];exact hp)],h.blkU.frozen p⟩
theorem BackAt.put {wv wr:World} {g2 g3 i s:Nat} {ws xs qs:List Nat} (h:BackAt wv wr g2 g3 i s ws xs qs) (hi:i < ws.length) {d:Nat} (hdB:d < B64) (hd:d*2^s+dg ws i % 2^s=dg ws i+B64*(dg ws (i+1) % 2^s)):
  BackAt wv (wr.setCell ⟨g2,i,none⟩ (.int .u64 (d:Int))) g2 g3 (i+1) s ws (xs.set i d) qs where
 blkU:=by have:=h.blkU.set_ i (.int .u64 (d:Int));rw [jcs] at this;exact this
 digU:=h.digU.set i hdB
 blkQ:=h.blkQ.far (p:=⟨g2,i,none⟩) (Ne.symm h.ne) _
 bel:=h.bel.setCell h.own2 _
 own2:=h.own2
 ne:=h.ne
 inv:=h.inv.step hi hd
theorem BackAt.put2 {wv wr:World} {g2 g3 i s:Nat} {ws xs qs:List Nat} (h:BackAt wv wr g2 g3 i s ws xs qs) (hi:i < ws.length) (a:Nat) {d:Nat} (hdB:d < B64) (hd:d*2^s+dg ws i % 2^s=dg ws i+B64*(dg ws (i+1) % 2^s)):
  BackAt wv (((wr.setCell ⟨g2,i,none⟩ (.int .u64 (a:Int))).setCell ⟨g2,i,none⟩ (.int .u64 (d:Int)))) g2 g3 (i+1) s ws (xs.set i d) qs where
 blkU:=by
  have h1:=h.blkU.set_ i (.int .u64 (a:Int));rw [jcs] at h1;have h2:=h1.set_ i (.int .u64 (d:Int));rw [jcs,List.set_set] at h2;exact h2
 digU:=h.digU.set i hdB
 blkQ:=(h.blkQ.far (p:=⟨g2,i,none⟩) (Ne.symm h.ne) _).far (p:=⟨g2,i,none⟩) (Ne.symm h.ne) _
 bel:=(h.bel.setCell h.own2 _).setCell h.own2 _
 own2:=h.own2
 ne:=h.ne
 inv:=h.inv.step hi hd
theorem BackAt.drewN {wv wr:World} {g2 g3 i s:Nat} {ws xs qs:List Nat} (h:BackAt wv wr g2 g3 i s ws xs qs) (n:Nat):BackAt wv (wr.drewN n) g2 g3 i s ws xs qs:=
 ⟨h.blkU,h.digU,h.blkQ,jav h.bel n,h.own2,h.ne,h.inv⟩

theorem ji5 {ds es:List Nat} {s k:Nat} (he:Pos.Dig B64 es) (hd:Pos.Dig B64 ds) (hk:es.length=k+2) (hs:s < 64) (h1:dg es (k+1)*2^s < 18446744073709551616) (h2:9223372036854775808≤dg es (k+1)*2^s):
  B64^(k+1)≤Pos.nv B64 es*2^s∧Pos.nv B64 es*2^s < B64^(k+2)∧∀us:List Nat,Pos.nv B64 us=Pos.nv B64 ds*2^s→us.length=ds.length+1→k+2≤ds.length→Pos.nv B64 (us.drop (ds.length - (k+2)+1)) < Pos.nv B64 es*2^s:=by
 have e1:=Pos.nv_split (b:=B64) es (k+1) (by omega);rw [jdv,List.drop_of_length_le (show es.length≤k+1+1 by omega)] at e1;simp only [Pos.nv,Nat.mul_zero,Nat.add_zero] at e1;have e2:=Pos.nv_lt (he.take (k+1));rw [List.length_take,Nat.min_eq_left (by omega)] at e2;have hp:(2:Nat)^s≤2^63:=Nat.pow_le_pow_right (by omega) (by omega);have hp0:0 < (2:Nat)^s:=Nat.pow_pos (by omega)
 have lo:B64^(k+1)*9223372036854775808≤Pos.nv B64 es*2^s:=by
  rw [e1,Nat.add_mul,Nat.mul_assoc];have:=Nat.mul_le_mul_left (B64^(k+1)) h2;omega
 refine ⟨?_, ?_, ?_⟩
 ·have:=Nat.le_mul_of_pos_right (B64^(k+1)) (show 0 < 9223372036854775808 by omega);omega
 ·have a1:Pos.nv B64 es < B64^(k+1)*(dg es (k+1)+1):=by rw [Nat.mul_add,Nat.mul_one,e1];omega
  have a2:Pos.nv B64 es*2^s < B64^(k+1)*(dg es (k+1)+1)*2^s:=Nat.mul_lt_mul_of_pos_right a1 hp0
  have a3:(dg es (k+1)+1)*2^s≤B64:=by
   -- a multiple of 2^s below 2^64 leaves room for one more
   have e:(18446744073709551616:Nat)=2^(64 - s)*2^s:=by rw [←Nat.pow_add,show 64 - s+s=64 by omega]
   rw [ja3,e];refine Nat.mul_le_mul_right _ ?_;rw [e] at h1;exact Nat.lt_of_mul_lt_mul_right h1
  have a4:B64^(k+1)*(dg es (k+1)+1)*2^s≤B64^(k+1)*B64:=by
   rw [Nat.mul_assoc];exact Nat.mul_le_mul_left _ a3
  rw [show k+2=k+1+1 from rfl,Nat.pow_succ];omega
 ·intro us hu hl hkd;refine Nat.lt_of_lt_of_le ?_ lo;have b1:=Pos.nv_split (b:=B64) us (ds.length - (k+2)+1) (by omega);have b2:=Pos.nv_lt hd;have b3:Pos.nv B64 ds*2^s < B64^ds.length*2^s:=Nat.mul_lt_mul_of_pos_right b2 hp0;have b4:B64^ds.length*2^s≤B64^ds.length*9223372036854775808:=Nat.mul_le_mul_left _ (by omega);have b5:B64^ds.length=B64^(ds.length - (k+2)+1)*B64^(k+1):=by rw [←Nat.pow_add];congr 1;omega
  have b6:B64^(ds.length - (k+2)+1)*Pos.nv B64 (us.drop (ds.length - (k+2)+1)) < B64^(ds.length - (k+2)+1)*(B64^(k+1)*9223372036854775808):=by
   rw [←Nat.mul_assoc,←b5];omega
  exact Nat.lt_of_mul_lt_mul_left b6

theorem jpo (g j n m cu cv bv ov k:Nat) (zs vs:List Nat) (w:World) (hk:n=k+2) (hz:RowAt w w g m zs) (hm:j+n < m) (hm2:m < 1099511627776) (hv:Wd w (some ⟨bv,ov,none⟩) n vs) (hne:bv≠g) (hN:StepNums zs vs j k):
  Calls prog 180 #[.slice (some ⟨g,j,none⟩) (n+1) cu, .slice (some ⟨bv,ov,none⟩) n cv] w (jds zs vs g j n m w):=by
 subst hk;exact jqa g j k m cu cv bv ov zs vs w hz hm hm2 hv hne hN

theorem jiM (A A':Option Addr) (n c p c' k:Nat) (ds es:List Nat) (w:World) (h:Wd w A n ds) (h':Wd w A' (p+1) es) (hp:p=k+1) (t:Pos.Trim ds) (t':Pos.Trim es) (hn:n < 274877906944) (hl:Pos.nv B64 es≤Pos.nv B64 ds):
  Calls prog 146 #[.slice A n c, .slice A' (p+1) c'] w (jce (Pos.nv B64 ds) (Pos.nv B64 es) w):=by
 obtain rfl:=h.len;have hle:=h'.len;have hkd:p+1≤ds.length:=by have:=jdW h.dig t' hl;omega
 have htop0:0 < dg es p:=by
  have:=t'.last (by omega);rw [gd (by omega)];have e:es.length - 1=p:=by omega
  simp only [e] at this;exact Nat.pos_of_ne_zero this
 obtain ⟨s,hs,hbl,hn1,hn2⟩:=Dv.lead (dg es p) htop0 (ja8 h'.dig p);obtain ⟨sb1,sb2,sb3⟩:=ji5 (ds:=ds) (k:=k) h'.dig h.dig (by omega) hs (by rw [←hp];exact hn1) (by rw [←hp];exact hn2);obtain ⟨z,hz0,hz1⟩:=jdL (c:=c) (c':=c') h h' t t' hl;have L1:=jfW (dg es p) s htop0 (ja8 h'.dig p) hbl;have S1:=fun W (h:Wd W A' (p+1) es)=>jeJ A' (p+1) c' s es W h (by omega) hs
 have S2:=fun W (h:Wd W A ds.length ds)=>jeJ A ds.length c s ds W h (by omega) hs
 have H1:=qh hz1;have HL1:=qh L1;have HS1:=qh S1;have HS2:=qh S2;have HD:=qh h;have HE:=qh h';have HT:=qh t;have SB1:=qh sb1;have SB2:=qh sb2;have SB3:=qh sb3;have HP:=qh hp;have HLE:=qh hle;have HKD:=qh hkd;have HLL:=qh hl;have hmk:=fun W=>jbs (ds.length - (p+1)+1) (by omega) W
 have ecast:((ds.length - (p+1)+1:Nat):Int)=(ds.length:Int) - ((p:Int)+1)+1:=by omega
 rw [ecast] at hmk;have b1:((p:Int)+1==1)=false:=by rw [beq_eq_false_iff_ne];omega
 have b2:¬p=0:=by omega
 have b3:p < 274877906944:=by omega
 obtain ⟨b',o',rfl,hb',hcell'⟩:=h'.at_ (by omega);have hc1:=hcell' p (by omega);have HC1:=qh hc1;clear h h' t t' hl hz1 L1 sb1 sb2 sb3 hn1 hn2 hle hkd hcell' hbl ecast hc1 S1 S2 hp;go_enter func146,ntmps146;go_wp2_with fail
 refine (H1.o).mono ?_
 rintro e w1 ⟨rfl,hb1⟩;have _:=bm hb1
 have HB1:=qh hb1;have hc2:=ja9 hb1 HC1.o;clear hb1;go_wp2_with fail
 refine (HL1.o _).mono ?_
 rintro e w2 ⟨rfl,rfl⟩
 go_wp2_with fail
 refine (HS1.o _ (HE.o.below HB1.o)).mono ?_
 rintro e w3 ⟨g1,zs1,rfl,hm1,hv1⟩
 have HM1:=qh hm1;have HV1:=qh hv1;clear hm1 hv1;go_wp2_with fail
 have wv:Wd w3 (some ⟨g1,0,none⟩) (p+1+1) zs1:=Wd.of_blk HM1.o.blk rfl HM1.o.len (by omega) HM1.o.dig
 have htl:jhF zs1=p+1:=by
  have h1:=SB1.o;have h2:=SB2.o;rw [←HV1.o] at h1 h2;rw [HP.o];exact js8 HM1.o.dig h1 h2
 have T:=jjU _ _ _ _ _ wv (Nat.le_refl _) (by omega);rw [htl] at T;refine T.mono ?_
 rintro e w4 ⟨rfl,rfl⟩
 have htr:=(jc4 zs1).2;rw [htl] at htr;obtain ⟨vs,hvs⟩:∃l,l=zs1.take (p+1):=⟨_,rfl⟩;rw [←hvs] at htr;have wvs:Wd w3 (some ⟨g1,0,none⟩) (p+1) vs:=by rw [hvs];exact wv.take (by omega)
 have HW:=qh wvs;have HTR:=qh htr;have HB2:=qh (ja0 HB1.o HM1.o.bel);have HWB:=qh HM1.o.bel;have hg1:=HM1.o.blk.lt;clear T htr hvs wv htl wvs;go_wp2_with fail
 refine (HS2.o _ ((HD.o.below HB1.o).below HM1.o.bel)).mono ?_
 rintro e w5 ⟨g2,us,rfl,hm2,hv2⟩
 have HM2:=qh hm2;have HV2:=qh hv2;have hg2:=hm2.own;have hg2b:=hm2.blk.lt;have hus:=HM2.o.len
 have hpv:0 < dg vs p:=by
  have h1:=HTR.o.1.last (by rw [HW.o.len];omega);rw [gd (by rw [HW.o.len];omega)];have e:vs.length - 1=p:=by rw [HW.o.len];omega
  simp only [e] at h1;exact Nat.pos_of_ne_zero h1
 have hVsv:sv (dg vs) (k+2)=Pos.nv B64 es*2^s:=by
  rw [jcS,List.take_of_length_le (by rw [HW.o.len,HP.o];omega),HTR.o.2,HV1.o]
 have start:DivInv w3 (w5.alloc (.cells (jfH [] (ds.length - (p+1)+1)) 168)) g2 w5.heap.size (ds.length - (p+1)+1) k us us (List.replicate (ds.length - (p+1)+1) 0) vs (ds.length - (p+1)+1):={
  blkU:=HM2.o.blk.alloc _
  digU:=HM2.o.dig
  blkQ:=by rw [jcf];exact Blk.new _ _ _
  digQ:=fun d hd=>by rw [List.mem_replicate] at hd;rw [hd.2];exact ja6
  lenQ:=by simp
  bel:=ja5 HM2.o.bel _
  own2:=hg2
  own3:=HM2.o.bel.size
  ne:=by omega
  inv:={
   len:=rfl
   top:=by
    rw [hVsv];have:=SB3.o us HV2.o hus (by have:=HKD.o;have:=HP.o;omega);rw [show ds.length - (p+1)+1=ds.length - (k+2)+1 by rw [HP.o]];exact this
   val:=by rw [Pos.nv_zeros];simp
   low:=fun q _=>jdi _ _ } }
 have START:=qh start;have HPV:=qh hpv;have HSV:=qh hVsv;have HUS:=qh hus;clear hm2 hv2 start hpv hVsv hus;go_wp2_with fail
 go_loopw [14] (fun i wr=>∃(J:Nat) (ws qs:List Nat),J≤ds.length - (p+1)+1∧i= .int .i64 ((J:Int) - 1)∧DivInv w3 wr g2 w5.heap.size J k us ws qs vs (ds.length - (p+1)+1)) (fun i _=>(intOf i+1).toNat)
 case atStart=>exact ⟨_,us,_,Nat.le_refl _,by congr 1;have:=HKD.o;omega,START.o⟩
 case round=>
  obtain ⟨J,ws,qs,hJ,rfl,hI⟩:=hrel;cases J with
  | zero=>
    have htop:=hI.inv.top;rw [List.drop_zero,HSV.o] at htop;have hval:=hI.inv.val;rw [HV2.o,HSV.o] at hval;obtain ⟨hq,hr⟩:=jru hval htop;have hws:ws.length=ds.length+1:=by rw [hI.inv.len];exact HUS.o
    have hlow:Pos.nv B64 ws < B64^(p+1):=by
     have h1:=SB2.o;rw [show k+2=p+1 by have:=HP.o;omega] at h1;exact Nat.lt_trans htop h1
    have B0:BackAt w3 wr g2 w5.heap.size 0 s ws ws qs:=⟨hI.blkU,hI.digU,hI.blkQ,hI.bel,hI.own2,hI.ne,BackShift.start _ _⟩;have HB0:=qh B0;have HQ:=qh hq;have HR:=qh hr;have HWS:=qh hws;have HLOW:=qh hlow;have LQ:=qh hI.lenQ;have DQ:=qh hI.digQ;have DW:=qh hI.digU;have s0:(0:Int)≤(s:Int):=by omega
    have s1:(s:Int) < 64:=by omega
    clear htop hval hq hr hws hlow B0 hI hJ;go_wp2_with fail
    go_loopw [97] (fun i wr2=>∃(i':Nat) (xs:List Nat),i'≤p+1∧i= .int .i64 (i':Int)∧BackAt w3 wr2 g2 w5.heap.size i' s ws xs qs) (fun i _=>p+1 - (intOf i).toNat)
    case atStart=>exact ⟨0,ws,Nat.zero_le _,rfl,HB0.o⟩
    case round=>
     obtain ⟨i,xs,hi,rfl,hA⟩:=hrel;by_cases hlt:i < p+1
     ·obtain ⟨pl1,pl2⟩:=hA.place (p:=i) (by have:=HWS.o;have:=HKD.o;omega);obtain ⟨pl3,pl4⟩:=hA.place (p:=i+1) (by have:=HWS.o;have:=HKD.o;omega);rw [hA.inv.out i (Nat.le_refl _)] at pl1;rw [hA.inv.out (i+1) (by omega)] at pl3;have hkd:=HKD.o;have u1:=ja8 DW.o i;have u2:=ja8 DW.o (i+1);have i5:(i:Int) < (p:Int)+1:=by omega
      have i6:(i:Int) < (ds.length:Int)+1:=by omega
      have i7:(i:Int)+1 < (ds.length:Int)+1:=by omega
      obtain ⟨a,ha⟩:∃x,x=dg ws i / 2^s:=⟨_,rfl⟩;have e1:((dg ws i:Int) / 2^s)=(a:Int):=by rw [ha];simp
      have hiw:i < ws.length:=by have:=HWS.o;omega
      by_cases hs2:0 < s
      ·obtain ⟨bb,hbb⟩:∃x,x=dg ws (i+1)*2^(64 - s) % B64:=⟨_,rfl⟩;obtain ⟨d,hd⟩:∃x,x=a ||| bb:=⟨_,rfl⟩
       have bp:=jl7 (x:=dg ws i) (y:=dg ws (i+1)) hs2 hs u1;rw [←ha,←hbb,←hd] at bp;have haB:a < B64:=by rw [ha];exact Nat.lt_of_le_of_lt (Nat.div_le_self _ _) u1
       have e2:=jno (dg ws (i+1)) (64 - s) bb hbb;have e3:=jve a bb d haB (by rw [hbb];exact Nat.mod_lt _ ja6) hd;have hP:=hA.put2 hiw a bp.1 bp.2;have HPP:=qh hP;have hs3:(0:Int) < (s:Int):=by omega
       have HLT:=qh hlt;clear hP hA hkd u1 u2 ha hbb hd bp haB hiw hlt hi;go_wp2_with fail
       go_region
       go_wp2_with fail
       exact ⟨⟨i+1,_,by have:=HLT.o;omega,by go_num,HPP.o.drewN 1⟩,by have:=HLT.o;simp [intOf];omega⟩
      ·have hs3:¬(0:Int) < (s:Int):=by omega
       have e0:s=0:=by omega
       have hP:=hA.put hiw (d:=a) (by rw [ha];exact Nat.lt_of_le_of_lt (Nat.div_le_self _ _) u1) (by rw [ha,e0];simp [Nat.mod_one]);have HPP:=qh hP;have HLT:=qh hlt;have HS2:=qh hs2;clear hP hA hkd u1 u2 ha hiw hlt hi e0 hs2;go_wp2_with fail
       exact ⟨⟨i+1,by have:=HLT.o;omega,by go_num,xs.set i a,HPP.o⟩,by have:=HLT.o;simp [intOf];omega⟩
     ·have e:i=p+1:=by omega
      subst e;have hrr:=hA.inv.stop hs HR.o HLOW.o;have hxl:xs.length=ds.length+1:=by rw [hA.inv.len];exact HWS.o
      have wq:Wd wr (some ⟨w5.heap.size,0,none⟩) (ds.length - (p+1)+1) qs:=Wd.of_blk hA.blkQ rfl LQ.o (by omega) DQ.o;have wx:Wd wr (some ⟨g2,0,none⟩) (ds.length+1) xs:=Wd.of_blk hA.blkU rfl hxl (by omega) hA.digU;have wt:Wd wr (some ⟨g2,0,none⟩) (p+1) (xs.take (p+1)):=wx.take (by have:=HKD.o;omega);have Q1:=fun n=>jfS _ _ (ds.length - (p+1)+1) _ wr wq (Nat.le_refl _) (by omega) n
      have Q2:=fun n=>jfS _ _ (ds.length+1) _ wr wt (by have:=HKD.o;omega) (by omega) n
      have HQ1:=qh Q1;have HQ2:=qh Q2;have WQ:=qh wq;have WT:=qh wt;have HRR:=qh hrr;have HBL:=qh hA.bel;have k1:(p:Int)+1≤(ds.length:Int)+1:=by have:=HKD.o;omega
      clear hA hrr hxl wq wx wt Q1 Q2 hi hlt;go_wp2_with fail
      go_quiet ((first|(go_at_call 167;with_reducible exact HQ1.o _)|(go_at_call 167;with_reducible exact HQ2.o _)))
      go_wp2_with fail
      go_ret2;have tq:=jc4 qs;have tx:=jc4 (xs.take (p+1));refine jf4 rfl ⟨by rw [←LQ.o];exact tq.1,by omega, ?_,tq.2.1,tq.2.2.trans HQ.o⟩ ⟨?_,by omega, ?_,tx.2.1,tx.2.2.trans HRR.o⟩ (jav (ja0 HB2.o HBL.o) _)
      ·exact (WQ.o.take (by rw [←LQ.o];exact tq.1)).drewN _
      ·have h1:=tx.1;rw [List.length_take] at h1;have:=HKD.o;omega
      ·have h1:=tx.1;have:=(WT.o.take (k:=jhF (xs.take (p+1))) (by have:=WT.o.len;omega)).drewN nq;exact this
  | succ j=>
    have hjl:j+(p+1)≤ds.length:=by have:=HKD.o;omega
    have HI:=qh hI;have HJL:=qh hjl;have j1:(j:Int)+((p:Int)+1)+1≤(ds.length:Int)+1:=by omega
    have j2:¬ds.length+1=j:=by omega
    have j3:j < 274877906944:=by omega
    clear hI hjl hJ;go_wp2_with fail
    rw [show j+(p+1)+1 - j=p+1+1 by omega];have hvd:Pos.Dig B64 vs:=HW.o.dig;have hwr:Wd wr (some ⟨g1,0,none⟩) (p+1) vs:=HW.o.below HI.o.bel;have hpv':0 < dg vs (k+1):=by rw [←HP.o];exact HPV.o
    refine (jpo g2 j (p+1) us.length _ _ g1 0 k ws vs wr (by have:=HP.o;omega) HI.o.row (by have:=HUS.o;have:=HJL.o;omega) (by have:=HUS.o;omega) hwr (by omega) (HI.o.inv.nums hvd HI.o.digU hpv')).mono ?_
    rintro e w6 ⟨q,xs,rfl,hS,hR⟩
    have hS':StepDone ws xs vs j (k+2) q:=by rw [show k+2=p+1 by have:=HP.o;omega];exact hS
    have hN:=HI.o.step hvd hpv' (by have:=HJL.o;omega) (by have:=HUS.o;have:=HJL.o;omega) hS' hR;obtain ⟨pl1,pl2⟩:=HI.o.placeQ (j:=j) (by have:=HJL.o;omega) hR;have HN:=qh hN;have j4:(j:Int) < (ds.length:Int) - ((p:Int)+1)+1:=by omega
    have j5:j < ds.length - (p+1)+1:=by have:=HJL.o;omega
    clear hvd hwr hpv' hS hR hS' hN j1 j2;go_wp2_with fail
    exact ⟨⟨j,xs,_,by omega,rfl,HN.o⟩,by simp [intOf]⟩

theorem jjk (w:World) (a:Option Addr) (n c:Nat):(binOp .neq 66 (.slice a n c) (.slice none 0 0)).run prog w= .ok (.bool (!a.isNone)) w:=
 run_neq_slice_nil w _ _ a n c underlying66

theorem jkL (A A':Option Addr) (n c n' c':Nat) (ds es:List Nat) (w:World) (h:Wd w A n ds) (h':Wd w A' n' es) (t:Pos.Trim ds) (t':Pos.Trim es) (hnc:n≤c) (hc:c < 1099511627776) (hn:n < 274877906944) (hp:0 < Pos.nv B64 es):
  Calls prog 146 #[.slice A n c, .slice A' n' c'] w (jce (Pos.nv B64 ds) (Pos.nv B64 es) w):=by
 rcases Nat.lt_or_ge (Pos.nv B64 ds) (Pos.nv B64 es) with hl|hl
 ·exact jiH A A' n n' c c' ds es w h h' t t' hnc hc hl
 ·match n',h' with
  | 0,h'=>
    have:=h'.len;have e:es=[]:=List.eq_nil_of_length_eq_zero this;subst e;exact absurd hp (by simp [Pos.nv])
  | 1,h'=>exact jli A A' n c c' ds es w h h' t t' (by omega) hl
  | k+2,h'=>exact jiM A A' n c (k+1) c' k ds es w h h' rfl t t' hn hl

structure Big (w:World) (A:Option Addr) (n c:Nat) (ds:List Nat):Prop where
 wd:Wd w A n ds
 trim:Pos.Trim ds
 cap:n≤c
 lim:c < 1099511627776
 big:9223372036854775808≤Pos.nv B64 ds
theorem Big.pos {w:World} {A:Option Addr} {n c:Nat} {ds:List Nat} (h:Big w A n c ds):0 < n:=by
 rcases Nat.eq_zero_or_pos n with h0|h0
 ·exfalso;have h1:=h.wd.len;rw [h0] at h1;have e:ds=[]:=List.eq_nil_of_length_eq_zero h1;have:=h.big;rw [e] at this;simp [Pos.nv] at this
 ·exact h0
theorem Big.below {w w':World} {A:Option Addr} {n c:Nat} {ds:List Nat} (h:Big w A n c ds) (hb:Below w.heap.size w w'):Big w' A n c ds:=⟨h.wd.below hb,h.trim,h.cap,h.lim,h.big⟩
inductive Rep (w:World):Int→Option Addr→Nat→Nat→Int→Prop where
 | small (z:Int) (h0: -9223372036854775808≤z) (h1:z < 9223372036854775808):Rep w z none 0 0 z
 | plus (A:Option Addr) (n c:Nat) (ds:List Nat) (h:Big w A n c ds):Rep w 1 A n c (Pos.nv B64 ds:Nat)
 | minus (A:Option Addr) (n c:Nat) (ds:List Nat) (h:Big w A n c ds):Rep w (-1) A n c (-((Pos.nv B64 ds:Nat):Int))
theorem Rep.below {w w':World} {s z:Int} {A:Option Addr} {n c:Nat} (h:Rep w s A n c z) (hb:Below w.heap.size w w'):Rep w' s A n c z:=by
 cases h with
 | small _ h0 h1=>exact .small _ h0 h1
 | plus _ _ _ ds h=>exact .plus _ _ _ ds (h.below hb)
 | minus _ _ _ ds h=>exact .minus _ _ _ ds (h.below hb)
structure Lim (z:Int):Prop where
 lt:z.natAbs < B64^100000
theorem jt0 {ds:List Nat} (t:Pos.Trim ds) (h:Pos.nv B64 ds < B64^100000):ds.length≤100000:=by
 rcases Nat.eq_zero_or_pos ds.length with h0|h0
 ·omega
 ·have h1:=Pos.nv_ge (b:=B64) t h0;rcases Nat.lt_or_ge 100000 ds.length with h2|h2
  ·exfalso;have:=Nat.pow_le_pow_right ja6 (show 100000≤ds.length - 1 by omega);omega
  ·exact h2

def ja7 (z:Int) (w:World) (e:Ending) (w':World):Prop:=
 ∃s A n c,e= .returned (.agg #[.int .i64 s, .slice A n c])∧Rep w' s A n c z∧Below w.heap.size w w'
theorem jaf {z s:Int} {A:Option Addr} {n c:Nat} {w w':World} {v:Value} (hv:v= .agg #[.int .i64 s, .slice A n c]) (h:Rep w' s A n c z) (hb:Below w.heap.size w w'):ja7 z w (.returned v) w':=
 ⟨s,A,n,c,by rw [hv],h,hb⟩

section
variable {P:Program} {f:FuncId} {args:Array Value} {W V:World} {R:Ending→World→Prop}
theorem mi0 [Ux W V] {z:Int} (C:Calls P f args W (ja7 z W)) (k:∀w1 s A n c,Rep w1 s A n c z→Below W.heap.size W w1→(∀b o,b < V.heap.size→w1.cell? ⟨b,o,none⟩=V.cell? ⟨b,o,none⟩)→(∀b o,b < V.heap.size→w1.frozen? ⟨b,o,none⟩=V.frozen? ⟨b,o,none⟩)→Bx W w1→R (.returned (.agg #[.int .i64 s, .slice A n c])) w1):Calls P f args W R:=
 C.mono fun e w1 ⟨s,A,n,c,he,hr,hb⟩=>by
  subst he;exact k w1 s A n c hr hb (bcu hb).1 (bcu hb).2 ⟨hb⟩
theorem mi1 (w:World) [Ux W V] {z:Int} (C:Calls P f args W (ja7 z W)) (h:w.heap.size < W.heap.size) (k:∀w1 s A n c,Rep w1 s A n c z→Below W.heap.size W w1→(∀b o,b < V.heap.size→w1.cell? ⟨b,o,none⟩=V.cell? ⟨b,o,none⟩)→(∀b o,b < V.heap.size→w1.frozen? ⟨b,o,none⟩=V.frozen? ⟨b,o,none⟩)→w.heap.size < w1.heap.size→Bx W w1→R (.returned (.agg #[.int .i64 s, .slice A n c])) w1):Calls P f args W R:=
 C.mono fun e w1 ⟨s,A,n,c,he,hr,hb⟩=>by
  subst he;exact k w1 s A n c hr hb (bcu hb).1 (bcu hb).2 (by have e:=hb.size;omega) ⟨hb⟩
theorem mi2 (w:World) [Ux W V] {z:Int} (C:Calls P f args W (ja7 z W)) (h:w.heap.size+1 < W.heap.size) (k:∀w1 s A n c,Rep w1 s A n c z→Below W.heap.size W w1→(∀b o,b < V.heap.size→w1.cell? ⟨b,o,none⟩=V.cell? ⟨b,o,none⟩)→(∀b o,b < V.heap.size→w1.frozen? ⟨b,o,none⟩=V.frozen? ⟨b,o,none⟩)→w.heap.size < w1.heap.size→w.heap.size+1 < w1.heap.size→Bx W w1→R (.returned (.agg #[.int .i64 s, .slice A n c])) w1):Calls P f args W R:=
 C.mono fun e w1 ⟨s,A,n,c,he,hr,hb⟩=>by
  subst he;exact k w1 s A n c hr hb (bcu hb).1 (bcu hb).2 (by have e:=hb.size;omega) (by have e:=hb.size;omega) ⟨hb⟩
theorem mi3 (w:World) [Ux W V] {z:Int} (C:Calls P f args W (ja7 z W)) (h:w.heap.size+1+1 < W.heap.size) (k:∀w1 s A n c,Rep w1 s A n c z→Below W.heap.size W w1→(∀b o,b < V.heap.size→w1.cell? ⟨b,o,none⟩=V.cell? ⟨b,o,none⟩)→(∀b o,b < V.heap.size→w1.frozen? ⟨b,o,none⟩=V.frozen? ⟨b,o,none⟩)→w.heap.size < w1.heap.size→w.heap.size+1 < w1.heap.size→w.heap.size+1+1 < w1.heap.size→Bx W w1→R (.returned (.agg #[.int .i64 s, .slice A n c])) w1):Calls P f args W R:=
 C.mono fun e w1 ⟨s,A,n,c,he,hr,hb⟩=>by
  subst he;exact k w1 s A n c hr hb (bcu hb).1 (bcu hb).2 (by have e:=hb.size;omega) (by have e:=hb.size;omega) (by have e:=hb.size;omega) ⟨hb⟩
theorem mi4 (w:World) [Ux W V] {z:Int} (C:Calls P f args W (ja7 z W)) (h:w.heap.size+1+1+1 < W.heap.size) (k:∀w1 s A n c,Rep w1 s A n c z→Below W.heap.size W w1→(∀b o,b < V.heap.size→w1.cell? ⟨b,o,none⟩=V.cell? ⟨b,o,none⟩)→(∀b o,b < V.heap.size→w1.frozen? ⟨b,o,none⟩=V.frozen? ⟨b,o,none⟩)→w.heap.size < w1.heap.size→w.heap.size+1 < w1.heap.size→w.heap.size+1+1 < w1.heap.size→w.heap.size+1+1+1 < w1.heap.size→Bx W w1→R (.returned (.agg #[.int .i64 s, .slice A n c])) w1):Calls P f args W R:=
 C.mono fun e w1 ⟨s,A,n,c,he,hr,hb⟩=>by
  subst he;exact k w1 s A n c hr hb (bcu hb).1 (bcu hb).2 (by have e:=hb.size;omega) (by have e:=hb.size;omega) (by have e:=hb.size;omega) (by have e:=hb.size;omega) ⟨hb⟩
end

def jdc (z:Int) (w:World) (e:Ending) (w':World):Prop:=
 ∃A n c ds,e= .returned (.tuple #[.bool (decide (z < 0)), .slice A n c])∧Wd w' A n ds∧Pos.Trim ds∧n≤c∧c < 1099511627776∧Pos.nv B64 ds=z.natAbs∧Below w.heap.size w w'
theorem jeN {z:Int} {A:Option Addr} {n c:Nat} {ds:List Nat} {w w':World} {v:Value} (hv:v= .tuple #[.bool (decide (z < 0)), .slice A n c]) (h1:Wd w' A n ds) (h2:Pos.Trim ds) (h3:n≤c) (h4:c < 1099511627776) (h5:Pos.nv B64 ds=z.natAbs) (h6:Below w.heap.size w w'):
  jdc z w (.returned v) w':=⟨A,n,c,ds,by rw [hv],h1,h2,h3,h4,h5,h6⟩

theorem jmU (w:World) (t:TypeId) (m b:Nat) (hb:b=w.heap.size) (hm:m < B64):Wd ((w.alloc (.cells #[.int .u64 (m:Int)] t)).drew) (some ⟨b,0,none⟩) 1 [m]:=by
 subst hb;have hbk:Blk ((w.alloc (.cells #[.int .u64 (m:Int)] t)).drew) w.heap.size t #[.int .u64 (m:Int)]:=Blk.new w t _;exact Wd.of_blk hbk rfl rfl (by omega) (fun d hd=>by rw [List.mem_singleton] at hd;rw [hd];exact hm)

theorem jks (a:Int) (w:World) (h1: -9223372036854775808≤a) (h2:a < 9223372036854775808):
  Calls prog 128 #[.int .i64 a] w fun e w'=>e= .returned (.int .u64 (a.natAbs:Int))∧w=w':=by
 by_cases hm:a= -9223372036854775808
 ·subst hm;clear h1 h2;go_enter func128,ntmps128;go_wp2;go_ret;exact ⟨jm3 (by simp [wrap64,IntKind.wrap,IntKind.bits,IntKind.signed]),rfl⟩
 ·by_cases h:a < 0
  ·rw [show (a.natAbs:Int)= -a by omega];have h1': -9223372036854775808 < a:=by omega
   clear h1 hm;go_enter func128,ntmps128;go_wp2;go_ret;exact ⟨rfl,rfl⟩
  ·rw [show (a.natAbs:Int)=a by omega];have h':0≤a:=by omega
   clear h1 hm h;go_enter func128,ntmps128;go_wp2;go_ret;exact ⟨rfl,rfl⟩

theorem jcw (a:Int) (W:World) (h1: -9223372036854775808≤a) (h2:a < 9223372036854775808) (n:Nat):
  Calls prog 128 #[.int .i64 a] (W.drewN n) fun e w'=>e= .returned (.int .u64 (a.natAbs:Int))∧∃m,w'=W.drewN m:=
 (jks a _ h1 h2).mono fun e w' ⟨he,hw⟩=>⟨he,n,hw.symm⟩

theorem jhX (s:Int) (A:Option Addr) (n c:Nat) (ds:List Nat) (z:Int) (w:World) (h:Big w A n c ds) (hs:s=1∧z=(Pos.nv B64 ds:Nat)∨s= -1∧z= -((Pos.nv B64 ds:Nat):Int)):
  Calls prog 129 #[.agg #[.int .i64 s, .slice A n c]] w (jdc z w):=by
 have hbig:=h.big
 have hd:decide (s < 0)=decide (z < 0):=by
  rw [decide_eq_decide];rcases hs with ⟨a,b⟩|⟨a,b⟩ <;> omega
 have hna:Pos.nv B64 ds=z.natAbs:=by rcases hs with ⟨a,b⟩|⟨a,b⟩ <;> omega
 obtain ⟨b,o,rfl,_,_⟩:=h.wd.at_ h.pos;have H:=qh h;have HD:=qh hd;have HN:=qh hna;clear h hs hbig hd hna;have qn:=jjk;go_enter func129,ntmps129;go_wp2
 go_quiet (fail)
 go_wp2;go_ret2;refine jeN (by rw [←HD.o];rfl) ((H.o.wd.below (w':=w.alloc _) ((Below.refl _ _).alloc (Nat.le_refl _) _)).drewN nq) H.o.trim H.o.cap H.o.lim HN.o bi

theorem jiv (z:Int) (w:World) (h0: -9223372036854775808≤z) (h1:z < 9223372036854775808):
  Calls prog 129 #[.agg #[.int .i64 z, .slice none 0 0]] w (jdc z w):=by
 by_cases hz:z=0
 ·subst hz;clear h0 h1;have qn:=jjk;go_enter func129,ntmps129;go_wp2;go_ret2;exact jeN (ds:=[]) rfl (Wd.nil _ _) Pos.Trim.nil (Nat.le_refl _) (by omega) rfl bi
 ·have b1:(z==0)=false:=by rw [beq_eq_false_iff_ne];exact hz
  obtain ⟨m,hm⟩:∃m,m=z.natAbs:=⟨_,rfl⟩;have hSZ:=fun W=>jks z W h0 h1
  rw [←hm] at hSZ;have HS:=qh hSZ;have hmB:m < B64:=by rw [ja3];omega
  have HM:=qh hm;have HZ:=qh hz;have HMB:=qh hmB;clear hSZ h0 h1 hm hmB hz;have qn:=jjk;go_enter func129,ntmps129;go_wp2
  go_region_held3 (fun w'=>w'.cell? ⟨w.heap.size,0,none⟩=some (.int .i64 z)) (go_keep)
   ((go_at_call 128;refine (HS.o _).mono ?_;rintro e w1 ⟨rfl,rfl⟩))
  go_wp2;go_ret2;have hm0:m≠0:=by have:=HM.o;have:=HZ.o;omega
  refine jeN (ds:=[m]) rfl (jmU _ _ m _ (by simp) HMB.o) (by simp [Pos.Trim,hm0]) (by omega) (by omega) (by simp [Pos.nv];exact HM.o) bi

theorem jig (s:Int) (A:Option Addr) (n c:Nat) (z:Int) (w:World) (h:Rep w s A n c z):
  Calls prog 129 #[.agg #[.int .i64 s, .slice A n c]] w (jdc z w):=by
 cases h with
 | small _ h0 h1=>exact jiv s w h0 h1
 | plus _ _ _ ds h=>exact jhX 1 A n c ds _ w h (Or.inl ⟨rfl,rfl⟩)
 | minus _ _ _ ds h=>exact jhX (-1) A n c ds _ w h (Or.inr ⟨rfl,rfl⟩)

def sg (g:Bool) (x:Nat):Int:=if g then -(x:Int) else (x:Int)
theorem jht (z:Int):sg (decide (z < 0)) z.natAbs=z:=by
 unfold sg;split <;> rename_i h <;> simp at h <;> omega
theorem jsD (g:Bool):sg g 0=0:=by cases g <;> rfl
theorem jd9 (g:Bool) (x:Nat):(sg g x).natAbs=x:=by cases g <;> simp [sg]

section
variable (g:Bool) (A:Option Addr) (n c m:Nat) (ds:List Nat) (w:World)
theorem jo1:Calls prog 130 #[.bool g, .slice A 0 c] w (ja7 0 w):=by
 go_enter func130,ntmps130;go_wp2;exact bodyPost_ret (v:= .agg #[.int .i64 (0), .slice (none) (0) (0)]) (by simp [results,results130,go_sem]) rfl (jaf rfl (.small 0 (by omega) (by omega)) bi)

theorem jkU (h:Wd w A 1 [m]) (hm:m < 9223372036854775808):Calls prog 130 #[.bool g, .slice A 1 c] w (ja7 (sg g m) w):=by
 obtain ⟨b,o,rfl,hb,hc⟩:=h.at_ (by omega);have hc0:=hc 0 (by omega);have hcv:IntKind.i64.wrap (m:Int)=(m:Int):=by simp [IntKind.wrap,IntKind.bits,IntKind.signed];omega
 have hc:w.cell? ⟨b,o,none⟩=some (.int .u64 (m:Int)):=hc0;have hne:b≠w.heap.size:=by omega
 have hle:decide ((m:Int)≤9223372036854775807)=true:=by simp;omega
 have HM:=qh hm;clear h hc0 hm;cases g
 ·rw [show sg false m=(m:Int) from rfl];go_enter func130,ntmps130;go_wp2;exact bodyPost_ret (v:= .agg #[.int .i64 ((m:Int)), .slice (none) (0) (0)]) (by simp [results,results130,go_sem]) rfl (jaf rfl (.small _ (by omega) (by have:=HM.o;omega)) bi)
 ·rw [show sg true m= -(m:Int) from rfl];have hcn:wrap64 (-(m:Int))= -(m:Int):=by have:=HM.o;unfold wrap64;omega
  go_enter func130,ntmps130;go_wp2;exact bodyPost_ret (v:= .agg #[.int .i64 (-(m:Int)), .slice (none) (0) (0)]) (by simp [results,results130,go_sem]) rfl (jaf rfl (.small _ (by have:=HM.o;omega) (by omega)) bi)

theorem jov (h:Wd w A 1 [m]) (hm:9223372036854775808≤m) (hc1:1≤c) (hc2:c < 1099511627776):Calls prog 130 #[.bool g, .slice A 1 c] w (ja7 (sg g m) w):=by
 have hB:∀w',Below w.heap.size w w'→Big w' A 1 c [m]:=fun w' hb=>⟨h.below hb,by simp [Pos.Trim];omega,hc1,hc2,by simp [Pos.nv];exact hm⟩
 obtain ⟨b,o,rfl,hb,hc⟩:=h.at_ (by omega);have hc0:=hc 0 (by omega);have hc':w.cell? ⟨b,o,none⟩=some (.int .u64 (m:Int)):=hc0;have hne:b≠w.heap.size:=by omega
 have hle:decide ((m:Int)≤9223372036854775807)=false:=by simp;omega
 have HB:=qh hB;clear h hc hc0 hm hc1 hc2 hB;cases g
 ·rw [show sg false m=((Pos.nv B64 [m]:Nat):Int) by simp [sg,Pos.nv]];go_enter func130,ntmps130;go_wp2;exact bodyPost_ret (v:= .agg #[.int .i64 (1), .slice (some ⟨b,o,none⟩) (1) (c)]) (by simp [results,results130,go_sem]) rfl (jaf rfl (.plus _ _ _ [m] (HB.o _ bi)) bi)
 ·rw [show sg true m= -((Pos.nv B64 [m]:Nat):Int) by simp [sg,Pos.nv]];go_enter func130,ntmps130;go_wp2;exact bodyPost_ret (v:= .agg #[.int .i64 (-1), .slice (some ⟨b,o,none⟩) (1) (c)]) (by simp [results,results130,go_sem]) rfl (jaf rfl (.minus _ _ _ [m] (HB.o _ bi)) bi)

theorem jmC (h:Wd w A (n+2) ds) (ht:Pos.Trim ds) (hc1:n+2≤c) (hc2:c < 1099511627776):Calls prog 130 #[.bool g, .slice A (n+2) c] w (ja7 (sg g (Pos.nv B64 ds)) w):=by
 have hbig:9223372036854775808≤Pos.nv B64 ds:=by
  have h1:=h.len;have h2:=Pos.nv_ge (b:=B64) ht (by omega);have h3:=Nat.pow_le_pow_right ja6 (show 1≤ds.length - 1 by omega);rw [Nat.pow_one] at h3;have:=ja3;omega
 have hB:∀w',Below w.heap.size w w'→Big w' A (n+2) c ds:=fun w' hb=>⟨h.below hb,ht,hc1,hc2,hbig⟩
 obtain ⟨b,o,rfl,hb,hc⟩:=h.at_ (by omega);have HB:=qh hB;have b1:(((n+2:Nat):Int)==1)=false:=by simp;omega
 have b0:(((n+2:Nat):Int)==0)=false:=by simp;omega
 have hbn:=h.big;obtain ⟨k,hk⟩:∃k,k=n+2:=⟨_,rfl⟩;rw [←hk] at b1 b0 hbn HB ⊢;clear h hc hc1 hc2 hB hbig ht hk;cases g
 ·rw [show sg false (Pos.nv B64 ds)=((Pos.nv B64 ds:Nat):Int) by simp [sg]];go_enter func130,ntmps130;go_wp2;exact bodyPost_ret (v:= .agg #[.int .i64 (1), .slice (some ⟨b,o,none⟩) (k) (c)]) (by simp [results,results130,go_sem]) rfl (jaf rfl (.plus _ _ _ ds (HB.o _ bi)) bi)
 ·rw [show sg true (Pos.nv B64 ds)= -((Pos.nv B64 ds:Nat):Int) by simp [sg]];go_enter func130,ntmps130;go_wp2;exact bodyPost_ret (v:= .agg #[.int .i64 (-1), .slice (some ⟨b,o,none⟩) (k) (c)]) (by simp [results,results130,go_sem]) rfl (jaf rfl (.minus _ _ _ ds (HB.o _ bi)) bi)
end

theorem joN (g:Bool) (A:Option Addr) (n c:Nat) (ds:List Nat) (w:World) (h:Wd w A n ds) (ht:Pos.Trim ds) (hc1:n≤c) (hc2:c < 1099511627776):
  Calls prog 130 #[.bool g, .slice A n c] w (ja7 (sg g (Pos.nv B64 ds)) w):=by
 match n,h with
 | 0,h=>
   have e:ds=[]:=List.eq_nil_of_length_eq_zero h.len;subst e;rw [show Pos.nv B64 []=0 from rfl,jsD];exact jo1 g A c w
 | 1,h=>
   obtain ⟨m,rfl⟩:∃m,ds=[m]:=List.length_eq_one_iff.1 h.len;rw [show Pos.nv B64 [m]=m by simp [Pos.nv]];by_cases hm:m < 9223372036854775808
   ·exact jkU g A c m w h hm
   ·exact jov g A c m w h (by omega) hc1 hc2
 | k+2,h=>exact jmC g A k c ds w h ht hc1 hc2

structure NumW (w:World) (A:Option Addr) (n c:Nat) (x:Nat):Prop where
 ex:∃ds,Wd w A n ds∧Pos.Trim ds∧n≤c∧c < 1099511627776∧Pos.nv B64 ds=x
theorem NumW.below {w w':World} {A:Option Addr} {n c x:Nat} (h:NumW w A n c x) (hb:Below w.heap.size w w'):NumW w' A n c x:=by
 obtain ⟨ds,h1,h2⟩:=h.ex;exact ⟨ds,h1.below hb,h2⟩
def jgO (x:Nat) (w:World) (e:Ending) (w':World):Prop:=∃A n c,e= .returned (.slice A n c)∧NumW w' A n c x∧Below w.heap.size w w'
theorem jdK.num {x:Nat} {w:World} {e:Ending} {w':World} (h:jdK x w e w'):jgO x w e w':=by
 obtain ⟨A,n,c,ds,he,h1,h2,h3,h4,h5,h6⟩:=h;exact ⟨A,n,c,he,⟨ds,h3,h4,h1,h2,h5⟩,h6⟩
structure Few (x:Nat):Prop where
 lt:x < B64^100000
theorem jcT {w:World} {A:Option Addr} {n x:Nat} {ds:List Nat} (h:Wd w A n ds) (t:Pos.Trim ds) (e:Pos.nv B64 ds=x) (hf:Few x):n≤100000:=by
 have:=jt0 t (e ▸ hf.lt);rw [h.len] at this;exact this
theorem jas {g:Bool} {A:Option Addr} {n c x:Nat} {w:World} (h:NumW w A n c x):Calls prog 130 #[.bool g, .slice A n c] w (ja7 (sg g x) w):=by
 obtain ⟨ds,h1,h2,h3,h4,rfl⟩:=h.ex;exact joN g A n c ds w h1 h2 h3 h4
section
variable {A A':Option Addr} {n c n' c' x y:Nat} {w:World}
theorem jcj (h:NumW w A n c x) (h':NumW w A' n' c' y) (hx:Few x) (hy:Few y):Calls prog 172 #[.slice A n c, .slice A' n' c'] w (jgO (x+y) w):=by
 obtain ⟨ds,h1,h2,h3,h4,h5⟩:=h.ex;obtain ⟨es,g1,g2,g3,g4,g5⟩:=h'.ex;have l1:=jcT h1 h2 h5 hx;have l2:=jcT g1 g2 g5 hy;subst h5 g5;exact (jhN A A' n n' c c' ds es w h1 g1 (by omega) (by omega)).mono fun e w' h=>h.num
theorem jaT (h:NumW w A n c x) (h':NumW w A' n' c' y) (hx:Few x) (hy:y≤x):Calls prog 174 #[.slice A n c, .slice A' n' c'] w (jgO (x - y) w):=by
 obtain ⟨ds,h1,h2,h3,h4,h5⟩:=h.ex;obtain ⟨es,g1,g2,g3,g4,g5⟩:=h'.ex;have l1:=jcT h1 h2 h5 hx;subst h5 g5;exact (jhO A A' n n' c c' ds es w h1 g1 (by omega) g2 hy).mono fun e w' h=>h.num
theorem jbt (h:NumW w A n c x) (h':NumW w A' n' c' y) (hx:Few x) (hy:Few y):Calls prog 131 #[.slice A n c, .slice A' n' c'] w (jgO (x*y) w):=by
 obtain ⟨ds,h1,h2,h3,h4,h5⟩:=h.ex;obtain ⟨es,g1,g2,g3,g4,g5⟩:=h'.ex;have l1:=jcT h1 h2 h5 hx;have l2:=jcT g1 g2 g5 hy;subst h5 g5;exact (jhV A A' n n' c c' ds es w h1 g1 (by omega) (by omega)).mono fun e w' h=>h.num
theorem je1 (h:NumW w A n c x) (h':NumW w A' n' c' y):Calls prog 173 #[.slice A n c, .slice A' n' c'] w (jgu x y w):=by
 obtain ⟨ds,h1,h2,h3,h4,h5⟩:=h.ex;obtain ⟨es,g1,g2,g3,g4,g5⟩:=h'.ex;subst h5 g5;exact jbR A A' n n' c c' ds es w h1 g1 h2 g2
def joA (x y:Nat) (w:World) (e:Ending) (w':World):Prop:=
 ∃A n c B m d,e= .returned (.tuple #[.slice A n c, .slice B m d])∧NumW w' A n c (x / y)∧NumW w' B m d (x % y)∧Below w.heap.size w w'
theorem jld (h:NumW w A n c x) (h':NumW w A' n' c' y) (hx:Few x) (hy:0 < y):Calls prog 146 #[.slice A n c, .slice A' n' c'] w (joA x y w):=by
 obtain ⟨ds,h1,h2,h3,h4,h5⟩:=h.ex;obtain ⟨es,g1,g2,g3,g4,g5⟩:=h'.ex;have l1:=jcT h1 h2 h5 hx;subst h5 g5;refine (jkL A A' n c n' c' ds es w h1 g1 h2 g2 h3 h4 (by omega) hy).mono fun e w' h=> ?_
 obtain ⟨A,n,c,qs,B,m,d,rs,he,⟨a1,a2,a3,a4,a5⟩,⟨b1,b2,b3,b4,b5⟩,hb⟩:=h;exact ⟨A,n,c,B,m,d,he,⟨qs,a3,a4,a1,a2,a5⟩,⟨rs,b3,b4,b1,b2,b5⟩,hb⟩
end
def jot (z:Int) (w:World) (e:Ending) (w':World):Prop:=
 ∃A n c,e= .returned (.tuple #[.bool (decide (z < 0)), .slice A n c])∧NumW w' A n c z.natAbs∧Below w.heap.size w w'
theorem jdp {s z:Int} {A:Option Addr} {n c:Nat} {w:World} (h:Rep w s A n c z):Calls prog 129 #[.agg #[.int .i64 s, .slice A n c]] w (jot z w):=by
 refine (jig s A n c z w h).mono fun e w' h=> ?_
 obtain ⟨A,n,c,ds,he,h1,h2,h3,h4,h5,h6⟩:=h;exact ⟨A,n,c,he,⟨ds,h1,h2,h3,h4,h5⟩,h6⟩
theorem Lim.few {z:Int} (h:Lim z):Few z.natAbs:=⟨h.lt⟩

abbrev iv (s:Int) (A:Option Addr) (n c:Nat):Value:= .agg #[.int .i64 s, .slice A n c]
abbrev R64 (z:Int):Prop:= -9223372036854775808≤z∧z < 9223372036854775808
theorem Rep.slot {w:World} {s z:Int} {A:Option Addr} {n c:Nat} (h:Rep w s A n c z):R64 s∧sgn s=sgn z:=by
 cases h with
 | small _ h0 h1=>exact ⟨⟨h0,h1⟩,rfl⟩
 | plus _ _ _ ds h=>
   have:=h.big;refine ⟨⟨by omega,by omega⟩, ?_⟩;unfold sgn;rw [if_neg (by omega),if_pos (by omega),if_neg (by omega),if_pos (by omega)]
 | minus _ _ _ ds h=>
   have:=h.big;refine ⟨⟨by omega,by omega⟩, ?_⟩;unfold sgn;rw [if_pos (by omega),if_pos (by omega)]

theorem Wd.store {w:World} {A:Option Addr} {n:Nat} {ds:List Nat} {p:Addr} {v:Value} (h:Wd w A n ds) (hp:w.cell? p=some v) (hv:∀x,v≠ .int .u64 x) (u:Value):Wd (w.setCell p u) A n ds:=
 ⟨h.len,h.dig,h.big,fun hn=>by
   obtain ⟨b,o,e,hl,hc⟩:=h.at_ hn;refine ⟨b,o,e,by simpa using hl,fun j hj=> ?_⟩
   have hne:p≠⟨b,o+j,none⟩:=fun he=>by
    rw [he,hc j hj] at hp;exact hv _ (Option.some.inj hp).symm
   rw [World.cell?_setCell_other w p _ u hne]
   exact hc j hj⟩
theorem Rep.store {w:World} {s z:Int} {A:Option Addr} {n c:Nat} {p:Addr} {v:Value} (h:Rep w s A n c z) (hp:w.cell? p=some v) (hv:∀x,v≠ .int .u64 x) (u:Value):Rep (w.setCell p u) s A n c z:=by
 cases h with
 | small _ h0 h1=>exact .small _ h0 h1
 | plus _ _ _ ds h=>exact .plus _ _ _ ds ⟨h.wd.store hp hv u,h.trim,h.cap,h.lim,h.big⟩
 | minus _ _ _ ds h=>exact .minus _ _ _ ds ⟨h.wd.store hp hv u,h.trim,h.cap,h.lim,h.big⟩
theorem Rep.put {w:World} {s z:Int} {A:Option Addr} {n c b o o':Nat} {x:Int} {B:Option Addr} {m d:Nat} {u v:Value} (h:Rep w s A n c z) (ho:o'=o+1) (h1:w.cell? ⟨b,o,none⟩=some (.int .i64 x)) (h2:w.cell? ⟨b,o',none⟩=some (.slice B m d)):
  Rep ((w.setCell ⟨b,o,none⟩ u).setCell ⟨b,o',none⟩ v) s A n c z:=by
 subst ho;refine (h.store h1 (fun _=>by simp) u).store (v:= .slice B m d) ?_ (fun _=>by simp) v;rw [World.cell?_setCell_other _ _ _ _ (by simp)];exact h2

theorem jg7 (z:Int) (w:World) (h:R64 z):Calls prog 118 #[.int .i64 z] w (ja7 z w):=by
 have H:=qh h;clear h;go_enter func118,ntmps118;go_wp2;exact bodyPost_ret (v:= .agg #[.int .i64 (z), .slice (none) (0) (0)]) (by simp [results,results118,go_sem]) rfl (jaf rfl (.small _ H.o.1 H.o.2) bi)

theorem Rep.to {w:World} {s z z':Int} {A:Option Addr} {n c:Nat} (h:Rep w s A n c z) (e:z=z'):Rep w s A n c z':=e ▸ h
theorem jtG (z:Int):sg (!decide (z < 0)) z.natAbs= -z:=by
 by_cases h:z < 0
 ·simp only [sg,h,decide_true,Bool.not_true];simp;omega
 ·simp only [sg,h,decide_false,Bool.not_false];simp;omega
section
variable {s z:Int} {A:Option Addr} {n c:Nat} {w:World}
theorem je5 (h:Rep w s A n c z):Calls prog 119 #[iv s A n c] w fun e w'=>e= .returned (.int .i64 (sgn z))∧Below w.heap.size w w':=by
 rw [←h.slot.2];clear h;go_enter func119,ntmps119;go_wp2
 all_goals
  go_ret;exact ⟨jm3 (by unfold sgn;split at* <;> (repeat' split) <;> omega),bi⟩

theorem jlR:Calls prog 97 #[iv s A n c] w fun e w'=>e= .returned (.tuple #[.int .i64 s, .bool A.isNone])∧Below w.heap.size w w':=by
 have qe:=jak;go_enter func97,ntmps97;go_wp2
 go_quiet (fail)
 go_wp2;go_ret2;exact ⟨rfl,bi⟩


theorem jnt {p:Addr} (h:Rep w s (some p) n c z):Calls prog 125 #[iv s (some p) n c] w (ja7 (-z) w):=by
 have qe:=jak;have HR:=qh (show ∀W,Below w.heap.size w W→Rep W (s) (some p) (n) (c) (z) from fun W hb=>h.below hb);clear h;go_enter func125,ntmps125
 go_wp2_with (first
  | (go_at_call 129;(with_reducible refine (jdp (HR.o _ bi)).mono ?_);rintro e1 w1 ⟨A1,n1,c1,rfl,hr1,hb1⟩;obtain ⟨hc1,hf1,z1_0,z1_1,_⟩:=bc2 w hb1 (by go_size))
  | (go_at_call 130;(with_reducible refine mi2 w (jas hr1) (by go_size) fun w2 s2 A2 n2 c2 hr2 hb2 hc2 hf2 z2_0 z2_1 _=> ?_)))
 exact bodyPost_ret (v:= .agg #[.int .i64 (s2), .slice (A2) (n2) (c2)]) (by simp [results,results125,go_sem,hc2,z1_1,hc1]) rfl (jaf rfl ((hr2.put (x:=0) (B:=none) (m:=0) (d:=0) rfl (by simp [go_sem,hc2,z1_1,hc1]) (by simp [go_sem,hc2,z1_1,hc1])).to (jtG z)) bi)

theorem jr7 (w:World):Calls prog 125 #[iv (-9223372036854775808) none 0 0] w (ja7 (- -9223372036854775808) w):=by
 have qe:=jak;have h:Rep w (-9223372036854775808) none 0 0 (-9223372036854775808):= .small _ (by omega) (by omega);have HR:=qh (show ∀W,Below w.heap.size w W→Rep W (-9223372036854775808) (none) (0) (0) (-9223372036854775808) from fun W hb=>h.below hb);clear h;go_enter func125,ntmps125
 go_wp2_with (first
  | (go_at_call 129;(with_reducible refine (jdp (HR.o _ bi)).mono ?_);rintro e1 w1 ⟨A1,n1,c1,rfl,hr1,hb1⟩;obtain ⟨hc1,hf1,z1_0,z1_1,_⟩:=bc2 w hb1 (by go_size))
  | (go_at_call 130;(with_reducible refine mi2 w (jas hr1) (by go_size) fun w2 s2 A2 n2 c2 hr2 hb2 hc2 hf2 z2_0 z2_1 _=> ?_)))
 exact bodyPost_ret (v:= .agg #[.int .i64 (s2), .slice (A2) (n2) (c2)]) (by simp [results,results125,go_sem,hc2,z1_1,hc1]) rfl (jaf rfl ((hr2.put (x:=0) (B:=none) (m:=0) (d:=0) rfl (by simp [go_sem,hc2,z1_1,hc1]) (by simp [go_sem,hc2,z1_1,hc1])).to (by simp [sg])) bi)

theorem jpQ (a:Int) (w:World) (h1: -9223372036854775808 < a) (h2:a < 9223372036854775808):
  Calls prog 125 #[iv a none 0 0] w (ja7 (-a) w):=by
 have qe:=jak;have qb:(a != -9223372036854775808)=true:=by rw [bne_iff_ne];omega
 have qw:wrap64 (-a)= -a:=by unfold wrap64;omega
 have H:=qh (ai h1 h2);clear h1 h2;go_enter func125,ntmps125;go_wp2;exact bodyPost_ret (v:= .agg #[.int .i64 (-a), .slice (none) (0) (0)]) (by simp [results,results125,go_sem]) rfl (jaf rfl (.small _ (by have:=H.o;omega) (by have:=H.o;omega)) bi)

theorem neg_num (h:Rep w s A n c z):Calls prog 125 #[iv s A n c] w (ja7 (-z) w):=by
 rcases A with _|p
 ·cases h with
  | small _ h0 h1=>
    by_cases hm:s= -9223372036854775808
    ·subst hm;exact jr7 w
    ·exact jpQ s w (by omega) h1
  | plus _ _ _ ds h=>obtain ⟨b,o,e,_⟩:=h.wd.at_ h.pos;cases e
  | minus _ _ _ ds h=>obtain ⟨b,o,e,_⟩:=h.wd.at_ h.pos;cases e
 ·exact jnt h

theorem jrF (h:Rep w s A n c z) (hs:s < 0):Calls prog 163 #[iv s A n c] w (ja7 (-z) w):=by
 have HR:=qh (show ∀W,Below w.heap.size w W→Rep W s A n c z from fun W hb=>h.below hb);clear h;go_enter func163,ntmps163;go_wp2_with (go_at_call 125;(with_reducible refine mi2 w (neg_num (HR.o _ bi)) (by go_size) fun w1 s1 A1 n1 c1 hr1 hb1 hc1 hf1 z1_0 z1_1 _=> ?_))
 exact bodyPost_ret (v:= .agg #[.int .i64 (s1), .slice (A1) (n1) (c1)]) (by simp [results,results163,go_sem,hc1]) rfl (jaf rfl (hr1.put (x:=0) (B:=none) (m:=0) (d:=0) rfl (by simp [go_sem,hc1]) (by simp [go_sem,hc1])) bi)
theorem jsJ (h:Rep w s A n c z) (hs:0≤s):Calls prog 163 #[iv s A n c] w (ja7 z w):=by
 have HR:=qh (show ∀W,Below w.heap.size w W→Rep W s A n c z from fun W hb=>h.below hb);clear h;go_enter func163,ntmps163;go_wp2;exact bodyPost_ret (v:= .agg #[.int .i64 (s), .slice (A) (n) (c)]) (by simp [results,results163,go_sem]) rfl (jaf rfl (HR.o _ bi) bi)
theorem jnd (h:Rep w s A n c z):Calls prog 163 #[iv s A n c] w (ja7 z.natAbs w):=by
 have hsg:=h.slot.2;by_cases hs:s < 0
 ·have:z < 0:=by
   unfold sgn at hsg;rw [if_pos hs] at hsg;split at hsg <;> first|assumption|(split at hsg <;> cases hsg)
  rw [show ((z.natAbs:Nat):Int)= -z by omega];exact jrF h hs
 ·have:0≤z:=by
   unfold sgn at hsg;rw [if_neg hs] at hsg;split at hsg <;> first|omega|(split at hsg <;> cases hsg)
  rw [show ((z.natAbs:Nat):Int)=z by omega];exact jsJ h (by omega)
end
end Go.Proofs.YtfagcpcikjlboaaGreatDoor
