/- Parts. -/
import Derived.Test.YtfagcpcikjlboaaGreatDoorWe
import Derived.RegionTactic
import Derived.BigRegion
import Derived.Deep.DeepCutAuto
set_option linter.all false
set_option maxRecDepth 100000
set_option maxHeartbeats 8000000
namespace Go.Proofs.YtfagcpcikjlboaaGreatDoor
open Go Go.RowKit Go.Proofs.Tryz

theorem jd4 (hi lo y:Nat) (hh:hi < y) (hlo:lo < B64) (hy:y < B64) (w:World):
  Calls prog 177 #[.int .u64 (hi:Int), .int .u64 (lo:Int), .int .u64 (y:Int)] w (jc7 (hi*B64+lo) y w):=by
 rcases Nat.eq_zero_or_pos hi with h|h
 ·subst h;have:=jiR lo y (by omega) hlo hy w;simpa using this
 ·exact jmr hi lo y h hh hlo hy w

structure ShiftInv (w wr:World) (g i s:Nat) (ds zs:List Nat):Prop where
 inv:MulInv w wr g (ds.length+1) zs
 far:∀p,i < p→dg zs p=0
 low:dg zs i < 2^s
 val:Pos.nv B64 zs=Pos.nv B64 (ds.take i)*2^s

theorem jje (x s:Nat) (hs:s < 64) (hx:x < B64):x*2^s=x / 2^(64 - s)*B64+x*2^s % B64∧x / 2^(64 - s) < 2^s∧∃k,x*2^s % B64=k*2^s:=by
 have e:(18446744073709551616:Nat)=2^(64 - s)*2^s:=by rw [←Nat.pow_add,show 64 - s+s=64 by omega]
 rw [ja3] at*
 have h1:x*2^s / 18446744073709551616=x / 2^(64 - s):=by
  rw [e,Nat.mul_div_mul_right _ _ (Nat.pow_pos (by omega))]
 have h2:=Nat.div_add_mod' (x*2^s) 18446744073709551616;rw [h1] at h2;refine ⟨h2.symm,Dv.low_lt hs hx,x % 2^(64 - s), ?_⟩;rw [e,Nat.mul_mod_mul_right]

theorem ShiftInv.step {w wr:World} {g i s:Nat} {ds zs:List Nat} (h:ShiftInv w wr g i s ds zs) (hd:Pos.Dig B64 ds) (hs:s < 64) (hi:i < ds.length) {t d c:Nat}
  (ht:t=dg ds i*2^s % B64) (hdd:d=dg zs i ||| t) (hc:c=dg ds i / 2^(64 - s)):
  d < B64∧c < 2^s∧ShiftInv w ((wr.setCell ⟨g,i,none⟩ (.int .u64 (d:Int))).setCell ⟨g,i+1,none⟩ (.int .u64 (c:Int))) g (i+1) s ds ((zs.set i d).set (i+1) c)
    ∧(c=0→ShiftInv w (wr.setCell ⟨g,i,none⟩ (.int .u64 (d:Int))) g (i+1) s ds (zs.set i d)):=by
 obtain ⟨p1,p2,k,p3⟩:=jje (dg ds i) s hs (ja8 hd i);rw [←ht] at p1 p3;rw [←hc] at p1 p2
 have hor:d=dg zs i+t:=by
  rw [hdd,p3,Nat.or_comm,Dv.or_add h.low];omega
 have htb:t < B64:=by rw [ht];exact Nat.mod_lt _ ja6
 have hdb:d < B64:=by
  rw [hdd,ja3];have:=ja8 h.inv.dig i;rw [ja3] at htb;exact Nat.or_lt_two_pow (n:=64) (by omega) (by omega)
 have hcb:c < B64:=by
  have:(2:Nat)^s≤2^64:=Nat.pow_le_pow_right (by omega) (by omega);rw [ja3];omega
 have hlen:=h.inv.len;have v1:=jbB (l:=zs) (j:=i) (by omega) d;have hz:dg (zs.set i d) (i+1)=0:=by rw [jai (by omega)];exact h.far _ (by omega)
 have v2:=jbB (l:=zs.set i d) (j:=i+1) (by rw [List.length_set];omega) c;rw [hz,Nat.mul_zero] at v2;have hv:=h.val
 have hsum:Pos.nv B64 (zs.set i d)+B64^(i+1)*c=Pos.nv B64 (ds.take (i+1))*2^s:=by
  rw [jaB,Nat.add_mul,←hv,Nat.mul_assoc,p1,Nat.mul_add,Nat.pow_succ];rw [hor,Nat.mul_add] at v1;have:B64^i*(c*B64)=B64^i*B64*c:=by rw [Nat.mul_comm c B64,Nat.mul_assoc]
  rw [hor];omega
 refine ⟨hdb,p2,⟨(h.inv.put i d hdb).put (i+1) c hcb,fun p hp=> ?_, ?_,by rw [←hsum];omega⟩,fun h0=>⟨h.inv.put i d hdb,fun p hp=> ?_, ?_,by rw [←hsum,h0];omega⟩⟩
 ·rw [jai (by omega),jai (by omega)];exact h.far p (by omega)
 ·rw [gd (by simp only [List.length_set];omega)];simp;exact p2
 ·rw [jai (by omega)];exact h.far p (by omega)
 ·rw [hz];exact Nat.pow_pos (by omega)

theorem ShiftInv.start (w:World) (s:Nat) (ds:List Nat):ShiftInv w (w.alloc (.cells (jfH [] (ds.length+1)) 168)) w.heap.size 0 s ds (List.replicate (ds.length+1) 0) where
 inv:={
  len:=by simp
  dig:=fun d hd=>by rw [List.mem_replicate] at hd;rw [hd.2];exact ja6
  blk:=by rw [jcf];exact Blk.new _ _ _
  bel:=(Below.refl _ _).alloc (Nat.le_refl _) _
  own:=Nat.le_refl _ }
 far:=fun p _=>jdi _ p
 low:=by rw [jdi];exact Nat.pow_pos (by omega)
 val:=by rw [Pos.nv_zeros];simp [Pos.nv]
theorem ShiftInv.drewN {w wr:World} {g i s:Nat} {ds zs:List Nat} (h:ShiftInv w wr g i s ds zs) (n:Nat):ShiftInv w (wr.drewN n) g i s ds zs:=
 ⟨⟨h.inv.len,h.inv.dig,h.inv.blk.drewN n,jav h.inv.bel n,h.inv.own⟩,h.far,h.low,h.val⟩
theorem ShiftInv.drew {w wr:World} {g i s:Nat} {ds zs:List Nat} (h:ShiftInv w wr g i s ds zs):ShiftInv w wr.drew g i s ds zs:=
 ⟨⟨h.inv.len,h.inv.dig,h.inv.blk,h.inv.bel.drew,h.inv.own⟩,h.far,h.low,h.val⟩

def jtC (x n:Nat) (w:World) (e:Ending) (w':World):Prop:=
 ∃g zs,e= .returned (.slice (some ⟨g,0,none⟩) n n)∧MulInv w w' g n zs∧Pos.nv B64 zs=x

theorem jeJ (A:Option Addr) (n c s:Nat) (ds:List Nat) (w:World) (h:Wd w A n ds) (hn:n < 549755813888) (hs:s < 64):
  Calls prog 179 #[.slice A n c, .int .i64 (s:Int)] w (jtC (Pos.nv B64 ds*2^s) (n+1) w):=by
 obtain rfl:=h.len;have HD:=qh h;clear h;have hmk:=fun W=>jbs (ds.length+1) (by omega) W
 simp only [Int.natCast_add,Int.natCast_one] at hmk;have hs0:(0:Int)≤(s:Int):=by omega
 have hs1:(s:Int) < 64:=by omega
 go_enter func179,ntmps179;go_wp2
 go_loopw [14] (fun i wr=>∃(k:Nat) (zs:List Nat),k≤ds.length∧i= .int .i64 k∧ShiftInv w wr w.heap.size k s ds zs) (fun i _=>ds.length - (intOf i).toNat)
 case atStart=>exact ⟨0,_,Nat.zero_le _,rfl,ShiftInv.start _ _ _⟩
 case round=>
  obtain ⟨k,zs,hk,rfl,hI⟩:=hrel;by_cases hlt:k < ds.length
  ·obtain ⟨b,o,rfl,hb,hcell⟩:=(HD.o.below hI.inv.bel).at_ (by omega);have hcl:=hcell k hlt;obtain ⟨pl1,pl2⟩:=hI.inv.place (j:=k) (by omega);obtain ⟨pl3,pl4⟩:=hI.inv.place (j:=k+1) (by omega);have hk0:(0:Int)≤(k:Int):=by omega
   have hk1:(k:Int) < (ds.length:Int):=by omega
   have hk2:(k:Int) < (ds.length:Int)+1:=by omega
   have hk3:(k:Int)+1 < (ds.length:Int)+1:=by omega
   have u1:=ja8 HD.o.dig k;have u2:=ja8 hI.inv.dig k;obtain ⟨t,ht⟩:∃q,q=dg ds k*2^s % B64:=⟨_,rfl⟩;obtain ⟨d,hd⟩:∃q,q=dg zs k ||| t:=⟨_,rfl⟩
   obtain ⟨cc,hc⟩:∃q,q=dg ds k / 2^(64 - s):=⟨_,rfl⟩;obtain ⟨g1,g2,g3,g4⟩:=hI.step HD.o.dig hs hlt ht hd hc;have n1:=jno (dg ds k) s t ht;have n2:=jve (dg zs k) t d u2 (by rw [ht];exact Nat.mod_lt _ ja6) hd;have n3:((dg ds k:Int) / 2^(64 - s))=(cc:Int):=by rw [hc];simp
   have G3:=qh g3;have G4:=qh g4;have HI:=qh hI;clear hI hcell ht hd hc g3 g4;by_cases hs2:0 < s
   ·have hs3:(0:Int) < (s:Int):=by omega
    go_wp2
    go_region
    go_wp2
    go_roundw
    case rel=>exact ⟨k+1,_,by omega,by go_num,G3.o.drew⟩
    case measure=>simp [intOf];omega
   ·have hs3:¬(0:Int) < (s:Int):=by omega
    have h0:cc=0:=by
     have:s=0:=by omega
     subst this;omega
    have G5:=qh (G4.o h0);clear h0;go_wp2
    go_region
    go_wp2
    go_roundw
    case rel=>exact ⟨k+1,_,by omega,by go_num,G5.o.drew⟩
    case measure=>simp [intOf];omega
  ·have e:k=ds.length:=by omega
   subst e;have HI:=qh hI;clear hI;go_wp2;go_ret;exact ⟨w.heap.size,zs,rfl,HI.o.inv,by have:=HI.o.val;rw [List.take_length] at this;exact this⟩
end Go.Proofs.YtfagcpcikjlboaaGreatDoor
namespace Go.Proofs.YtfagcpcikjlboaaGreatDoor

def sv (f:Nat→Nat):Nat→Nat
 | 0=>0
 | k+1=>sv f k+B64^k*f k
theorem jb1 {f g:Nat→Nat}:∀{k:Nat},(∀i,i < k→f i=g i)→sv f k=sv g k
 | 0,_=>rfl
 | k+1,h=>by simp only [sv];rw [jb1 fun i hi=>h i (by omega),h k (by omega)]
theorem ji7 {f:Nat→Nat} (h:∀i,f i < B64):∀k,sv f k < B64^k
 | 0=>by simp [sv]
 | k+1=>by
   simp only [sv,Nat.pow_succ];have h1:=ji7 h k;have h2:B64^k*(f k+1)≤B64^k*B64:=Nat.mul_le_mul_left _ (h k);rw [Nat.mul_add,Nat.mul_one] at h2;omega
theorem jcS (l:List Nat) (k:Nat):sv (dg l) k=Pos.nv B64 (l.take k):=by
 induction k with
 | zero=>simp [sv,Pos.nv]
 | succ k ih=>simp only [sv];rw [ih,jaB]
theorem jaG {l:List Nat} {p d:Nat} (h:p < l.length):dg (l.set p d) p=d:=by
 simp [dg,List.getD_eq_getElem?_getD,h]

structure TakeInv (zs ws vs:List Nat) (j q k b c:Nat):Prop where
 len:ws.length=zs.length
 bor:b≤1
 car:c < B64
 out:∀p,p < j∨j+k≤p→dg ws p=dg zs p
 val:sv (fun i=>dg ws (j+i)) k+q*sv (dg vs) k=sv (fun i=>dg zs (j+i)) k+B64^k*(b+c)

theorem jm6 {q v c:Nat} (hq:q < B64) (hv:v < B64) (hc:c < B64):
  (q*v % B64+c) % B64+B64*(q*v / B64+(q*v % B64+c) / B64)=q*v+c∧q*v / B64+(q*v % B64+c) / B64 < B64:=by
 have h:=jjY (b:=B64) hq hv ja6 hc;simp only [Nat.add_zero,Nat.mod_mod,Nat.div_eq_of_lt (Nat.mod_lt (q*v) ja6)] at h;exact h

theorem TakeInv.step {zs ws vs:List Nat} {j q k b c:Nat} (h:TakeInv zs ws vs j q k b c) (hk:j+k < zs.length) {d1 c' d2 b':Nat}
  (h1:d1+B64*c'=q*dg vs k+c) (hc':c' < B64) (h2:d2+(d1+b)=dg ws (j+k)+B64*b') (hb':b'≤1):
  TakeInv zs (ws.set (j+k) d2) vs j q (k+1) b' c' where
 len:=by rw [List.length_set,h.len]
 bor:=hb'
 car:=hc'
 out:=fun p hp=>by rw [jai (by omega)];exact h.out p (by omega)
 val:=by
  simp only [sv];rw [jb1 (f:=fun i=>dg (ws.set (j+k) d2) (j+i)) (g:=fun i=>dg ws (j+i)) fun i hi=>jai (by omega),jaG (by rw [h.len];exact hk)];have hv:=h.val;have ho:=h.out (j+k) (by omega);rw [ho] at h2
  have e:B64^k*d2+B64^k*(q*dg vs k)+B64^k*(b+c)=B64^k*dg zs (j+k)+B64^(k+1)*(b'+c'):=by
   rw [Nat.pow_succ,Nat.mul_assoc,←Nat.mul_add,←Nat.mul_add,←Nat.mul_add]
   congr 1
   rw [Nat.mul_add];omega
  have e2:q*(B64^k*dg vs k)=B64^k*(q*dg vs k):=Nat.mul_left_comm _ _ _;rw [Nat.mul_add,e2];omega

structure BackInv (zs ws vs:List Nat) (j k c:Nat):Prop where
 len:ws.length=zs.length
 car:c≤1
 out:∀p,p < j∨j+k≤p→dg ws p=dg zs p
 val:sv (fun i=>dg ws (j+i)) k+B64^k*c=sv (fun i=>dg zs (j+i)) k+sv (dg vs) k
theorem BackInv.step {zs ws vs:List Nat} {j k c:Nat} (h:BackInv zs ws vs j k c) (hk:j+k < zs.length) {d c':Nat}
  (h1:d+B64*c'=dg ws (j+k)+dg vs k+c) (hc':c'≤1):BackInv zs (ws.set (j+k) d) vs j (k+1) c' where
 len:=by rw [List.length_set,h.len]
 car:=hc'
 out:=fun p hp=>by rw [jai (by omega)];exact h.out p (by omega)
 val:=by
  simp only [sv];rw [jb1 (f:=fun i=>dg (ws.set (j+k) d) (j+i)) (g:=fun i=>dg ws (j+i)) fun i hi=>jai (by omega),jaG (by rw [h.len];exact hk)];have hv:=h.val;have ho:=h.out (j+k) (by omega);rw [ho] at h1;have e:=congrArg (B64^k* ·) h1;simp only [Nat.mul_add] at e;rw [Nat.pow_succ,Nat.mul_assoc];omega

structure StepDone (zs ws vs:List Nat) (j n q:Nat):Prop where
 len:ws.length=zs.length
 out:∀p,p < j∨j+n < p→dg ws p=dg zs p
 quo:q=sv (fun i=>dg zs (j+i)) (n+1) / sv (dg vs) n
 rest:sv (fun i=>dg ws (j+i)) (n+1)=sv (fun i=>dg zs (j+i)) (n+1) % sv (dg vs) n

theorem jjH {U V q R:Nat} (h:U=q*V+R) (hR:R < V):q=U / V∧R=U % V:=by
 subst h;have h0:0 < V:=by omega
 rw [Nat.add_comm,Nat.add_mul_div_right _ _ h0,Nat.div_eq_of_lt hR,Nat.add_mul_mod_self_right,Nat.mod_eq_of_lt hR];exact ⟨by omega,rfl⟩

theorem TakeInv.right {zs ws vs:List Nat} {j q n b c d b':Nat} (h:TakeInv zs ws vs j q n b c) (hk:j+n < zs.length) (hge:sv (fun i=>dg zs (j+i)) (n+1) / sv (dg vs) n≤q) (hV:0 < sv (dg vs) n)
  (h2:d+(c+b)=dg ws (j+n)+B64*b') (hb:b'=0):StepDone zs (ws.set (j+n) d) vs j n q:=by
 have ho:=h.out (j+n) (by omega);rw [ho,hb,Nat.mul_zero,Nat.add_zero] at h2;have hv:=h.val
 have es:sv (fun i=>dg (ws.set (j+n) d) (j+i)) (n+1)=sv (fun i=>dg ws (j+i)) n+B64^n*d:=by
  simp only [sv];rw [jb1 (f:=fun i=>dg (ws.set (j+n) d) (j+i)) (g:=fun i=>dg ws (j+i)) fun i hi=>jai (by omega),jaG (by rw [h.len];exact hk)]
 have eU:sv (fun i=>dg zs (j+i)) (n+1)=sv (fun i=>dg zs (j+i)) n+B64^n*dg zs (j+n):=rfl;have e:=congrArg (B64^n* ·) h2;simp only [Nat.mul_add] at e;rw [Nat.mul_add] at hv;have hsum:sv (fun i=>dg zs (j+i)) (n+1)=q*sv (dg vs) n+sv (fun i=>dg (ws.set (j+n) d) (j+i)) (n+1):=by rw [es,eU];omega
 have hlt:sv (fun i=>dg (ws.set (j+n) d) (j+i)) (n+1) < sv (dg vs) n:=by
  have h3:sv (fun i=>dg zs (j+i)) (n+1) < (q+1)*sv (dg vs) n:=by
   have:=(Nat.div_lt_iff_lt_mul hV).1 (Nat.lt_succ_of_le hge);exact this
  rw [Nat.add_mul,Nat.one_mul] at h3;omega
 obtain ⟨r1,r2⟩:=jjH hsum hlt;exact ⟨by rw [List.length_set,h.len],fun p hp=>by rw [jai (by omega)];exact h.out p (by omega),r1,r2⟩

theorem TakeInv.wrong {zs ws vs xs:List Nat} {j q n b c d b' c2:Nat} (h:TakeInv zs ws vs j q n b c) (hk:j+n < zs.length)
  (hV:0 < sv (dg vs) n) (hvs:Pos.Dig B64 vs) (hxd:∀i,dg xs i < B64) (hwd:∀i,dg ws i < B64) (hlt:q*sv (dg vs) n < sv (fun i=>dg zs (j+i)) (n+1)+sv (dg vs) n) (hq:0 < q)
  (h2:d+(c+b)=dg ws (j+n)+B64*b') (hb:b'=1) (hdB:d < B64) (hB:BackInv (ws.set (j+n) d) xs vs j n c2):
  (d+c2) % B64=0∧StepDone zs (xs.set (j+n) 0) vs j n (q - 1):=by
 have ho:=h.out (j+n) (by omega);rw [ho,hb,Nat.mul_one] at h2;have hv:=h.val;have bv:=hB.val;have esb:sv (fun i=>dg (ws.set (j+n) d) (j+i)) n=sv (fun i=>dg ws (j+i)) n:=jb1 fun i hi=>jai (by omega)
 rw [esb] at bv;have eU:sv (fun i=>dg zs (j+i)) (n+1)=sv (fun i=>dg zs (j+i)) n+B64^n*dg zs (j+n):=rfl;have e:=congrArg (B64^n* ·) h2;simp only [Nat.mul_add] at e;rw [Nat.mul_add] at hv;have hxl:sv (fun i=>dg xs (j+i)) n < B64^n:=ji7 (fun i=>hxd _) n;have hVl:sv (dg vs) n < B64^n:=ji7 (ja8 hvs) n;have hWl:sv (fun i=>dg ws (j+i)) n < B64^n:=ji7 (fun i=>hwd _) n;generalize hU:sv (fun i=>dg zs (j+i)) (n+1)=U at*;generalize hVV:sv (dg vs) n=V at*;generalize hX0:sv (fun i=>dg xs (j+i)) n=X at*;generalize sv (fun i=>dg ws (j+i)) n=W at*;generalize sv (fun i=>dg zs (j+i)) n=Z at*;generalize hP:B64^n=P at*
 -- X + P * (d + c2) = P * B64 + (U - (q - 1) * V)
 obtain ⟨k,rfl⟩:∃k,q=k+1:=⟨q - 1,by omega⟩;rw [Nat.add_mul,Nat.one_mul] at hlt hv;have main:X+P*(d+c2)+k*V=P*B64+U:=by rw [Nat.mul_add];omega
 have hR:U - k*V < V:=by
  -- q * V > U
  have h5:W+P*d < P*B64:=by
   have h6:P*(d+1)≤P*B64:=Nat.mul_le_mul_left _ hdB;rw [Nat.mul_add,Nat.mul_one] at h6;omega
  omega
 have hs:d+c2=B64:=by
  have hP0:0 < P:=by omega
  refine Nat.le_antisymm ?_ ?_
  ·have:P*(d+c2) < P*(B64+1):=by rw [Nat.mul_add P B64 1,Nat.mul_one];omega
   have:=Nat.lt_of_mul_lt_mul_left this;omega
  ·have:P*B64 < P*(d+c2+1):=by rw [Nat.mul_add P (d+c2) 1,Nat.mul_one];omega
   have:=Nat.lt_of_mul_lt_mul_left this;omega
 rw [hs] at main;refine ⟨by rw [hs,Nat.mod_self], ?_⟩;have hX:X=U - k*V:=by omega
 have hxlen:xs.length=zs.length:=by rw [hB.len,List.length_set,h.len]
 obtain ⟨r1,r2⟩:=jjH (show U=k*V+X by omega) (by omega);refine ⟨by rw [List.length_set,hxlen],fun p hp=> ?_, ?_, ?_⟩
 ·rw [jai (by omega),hB.out p (by omega),jai (by omega)];exact h.out p (by omega)
 ·simp only [Nat.add_sub_cancel];rw [hU,hVV];exact r1
 ·rw [hU,hVV];simp only [sv];rw [jb1 (f:=fun i=>dg (xs.set (j+n) 0) (j+i)) (g:=fun i=>dg xs (j+i)) fun i hi=>jai (by omega),jaG (by omega),hX0,Nat.mul_zero,Nat.add_zero];exact r2
end Go.Proofs.YtfagcpcikjlboaaGreatDoor
namespace Go.Proofs.YtfagcpcikjlboaaGreatDoor
open Go Go.RowKit

theorem jlp {a w:World} {row:Option Nat} (h:a.grownBy w row) (n:Nat):a.grownBy (w.drewN n) row:=⟨h.os,h.tape,h.output,h.size,h.block⟩
theorem jhz {a w:World} {g:Nat} (h:a.grownBy w (some g)) (o:Nat) (u:Value):a.grownBy (w.setCell ⟨g,o,none⟩ u) (some g):=
 ⟨h.os,h.tape,h.output,by simpa [World.setCell] using h.size,fun i hi hne=>(Below.heap_setCell w ⟨g,o,none⟩ u i (by
   rintro rfl
   exact hne rfl)).trans (h.block i hi hne)⟩

structure RowAt (w wr:World) (g m:Nat) (ws:List Nat):Prop where
 blk:Blk wr g 168 (jis ws)
 dig:Pos.Dig B64 ws
 len:ws.length=m
 only:w.grownBy wr (some g)
theorem RowAt.put {w wr:World} {g m:Nat} {ws:List Nat} (h:RowAt w wr g m ws) (j d:Nat) (hd:d < B64):RowAt w (wr.setCell ⟨g,j,none⟩ (.int .u64 (d:Int))) g m (ws.set j d) where
 blk:=by have:=h.blk.set_ j (.int .u64 (d:Int));rw [jcs] at this;exact this
 dig:=h.dig.set j hd
 len:=by rw [List.length_set,h.len]
 only:=jhz h.only _ _
theorem RowAt.drewN {w wr:World} {g m:Nat} {ws:List Nat} (h:RowAt w wr g m ws) (n:Nat):RowAt w (wr.drewN n) g m ws:=⟨h.blk.drewN n,h.dig,h.len,jlp h.only n⟩
theorem RowAt.place {w wr:World} {g m j:Nat} {ws:List Nat} (h:RowAt w wr g m ws) (hj:j < m):
  wr.cell? ⟨g,j,none⟩=some (.int .u64 ((dg ws j:Nat):Int))∧wr.frozen? ⟨g,j,none⟩=false:=by
 refine ⟨?_,h.blk.frozen j⟩;rw [h.blk.cell,jgC (by rw [h.len];exact hj)]
theorem RowAt.other {w wr:World} {g m:Nat} {ws:List Nat} (h:RowAt w wr g m ws) {b o:Nat} (hb:b < w.heap.size) (hne:b≠g) {v:Value} (hc:w.cell? ⟨b,o,none⟩=some v):wr.cell? ⟨b,o,none⟩=some v:=
 (World.cell?_of_block (h.only.block b hb (fun e=>hne (by injection e)))).trans hc
theorem RowAt.start {w:World} {g m:Nat} {ws:List Nat} (h1:Blk w g 168 (jis ws)) (h2:Pos.Dig B64 ws) (h3:ws.length=m):RowAt w w g m ws:=⟨h1,h2,h3,World.grownBy.refl w _⟩

structure StepNums (zs vs:List Nat) (j k:Nat):Prop where
 pos:0 < dg vs (k+1)
 lt:sv (fun i=>dg zs (j+i)) (k+3) < sv (dg vs) (k+2)*B64
structure Guess (zs vs:List Nat) (j k q R:Nat):Prop where
 eq:q*dg vs (k+1)+R=dg zs (j+(k+2))*B64+dg zs (j+(k+1))
 ge:sv (fun i=>dg zs (j+i)) (k+3) / sv (dg vs) (k+2)≤q
 lt:q < B64

section
variable {zs vs:List Nat} {j k:Nat}
theorem juE:sv (dg vs) (k+2)=(dg vs (k+1)*B64+dg vs k)*B64^k+sv (dg vs) k:=by
 simp only [sv];have e1:B64^(k+1)=B64*B64^k:=by rw [Nat.pow_succ,Nat.mul_comm]
 rw [e1];simp only [Nat.add_mul];have a1:B64^k*dg vs k=dg vs k*B64^k:=Nat.mul_comm _ _;have a2:B64*B64^k*dg vs (k+1)=dg vs (k+1)*B64*B64^k:=by rw [Nat.mul_comm,Nat.mul_assoc]
 omega
theorem juG:sv (fun i=>dg zs (j+i)) (k+3)=((dg zs (j+(k+2))*B64+dg zs (j+(k+1)))*B64+dg zs (j+k))*B64^k+sv (fun i=>dg zs (j+i)) k:=by
 simp only [sv];have e1:B64^(k+1)=B64*B64^k:=by rw [Nat.pow_succ,Nat.mul_comm]
 have e2:B64^(k+2)=B64*B64*B64^k:=by rw [Nat.pow_succ,e1,Nat.mul_comm,Nat.mul_assoc]
 rw [e1,e2];simp only [Nat.add_mul];have a1:B64^k*dg zs (j+k)=dg zs (j+k)*B64^k:=Nat.mul_comm _ _;have a2:B64*B64^k*dg zs (j+(k+1))=dg zs (j+(k+1))*B64*B64^k:=by rw [Nat.mul_comm,Nat.mul_assoc]
 have a3:B64*B64*B64^k*dg zs (j+(k+2))=dg zs (j+(k+2))*B64*B64*B64^k:=by rw [Nat.mul_comm];simp only [Nat.mul_assoc]
 omega
theorem juy (hv:Pos.Dig B64 vs):sv (dg vs) k < B64^k:=ji7 (ja8 hv) k
theorem jtp (hz:Pos.Dig B64 zs):sv (fun i=>dg zs (j+i)) k < B64^k:=ji7 (fun i=>ja8 hz _) k
theorem jlh (h:StepNums zs vs j k):0 < sv (dg vs) (k+2):=by
 have:=h.lt;rcases Nat.eq_zero_or_pos (sv (dg vs) (k+2)) with h0|h0
 ·rw [h0] at this;omega
 ·exact h0
theorem jtQ (h:StepNums zs vs j k) (hv:Pos.Dig B64 vs):dg zs (j+(k+2))≤dg vs (k+1):=by
 have h1:=h.lt;have h2:=juy (k:=k) hv;have h3:=ja8 hv k;rw [juG,juE] at h1;rw [←ja3] at h3;rcases Nat.lt_or_ge (dg vs (k+1)) (dg zs (j+(k+2))) with hc|hc
 ·exfalso;have h4:(dg vs (k+1)+1)*B64≤dg zs (j+(k+2))*B64:=Nat.mul_le_mul_right _ hc;have h5:(dg vs (k+1)*B64+dg vs k+1)*B64≤(dg zs (j+(k+2))*B64+dg zs (j+(k+1)))*B64:=Nat.mul_le_mul_right _ (by rw [Nat.add_mul,Nat.one_mul] at h4;omega);have h6:(dg vs (k+1)*B64+dg vs k+1)*B64*B64^k≤((dg zs (j+(k+2))*B64+dg zs (j+(k+1)))*B64+dg zs (j+k))*B64^k:=Nat.mul_le_mul_right _ (by omega)
  have h7:((dg vs (k+1)*B64+dg vs k)*B64^k+sv (dg vs) k)*B64 < (dg vs (k+1)*B64+dg vs k+1)*B64*B64^k:=by
   rw [Nat.mul_right_comm _ B64 (B64^k)];refine Nat.mul_lt_mul_of_pos_right ?_ ja6;rw [Nat.add_mul _ 1 (B64^k),Nat.one_mul];omega
  omega
 ·exact hc
theorem jkB (h:StepNums zs vs j k) (hz:Pos.Dig B64 zs) (he:dg zs (j+(k+2))=dg vs (k+1)):Guess zs vs j k 18446744073709551615 (dg zs (j+(k+1))+dg vs (k+1)) where
 eq:=by rw [he,ja3];omega
 ge:=by
  have:=(Nat.div_lt_iff_lt_mul (jlh h)).2 (by rw [Nat.mul_comm];exact h.lt);rw [ja3] at this;omega
 lt:=by rw [ja3];omega
theorem jnl (h:StepNums zs vs j k) (hz:Pos.Dig B64 zs) (hv:Pos.Dig B64 vs) (hlt:dg zs (j+(k+2)) < dg vs (k+1)) {q r:Nat}
  (hq:q=(dg zs (j+(k+2))*B64+dg zs (j+(k+1))) / dg vs (k+1)) (hr:r=(dg zs (j+(k+2))*B64+dg zs (j+(k+1))) % dg vs (k+1)):Guess zs vs j k q r where
 eq:=by rw [hq,hr];exact Nat.div_add_mod' _ _
 ge:=by
  have hW:0 < dg vs (k+1)*B64+dg vs k:=by have:=Nat.mul_pos h.pos ja6;omega
  refine Nat.le_trans (QStep.div_le juE juG (jtp hz) hW) ?_;rw [hq];exact QStep.guess_ge rfl rfl h.pos (ja8 hz _)
 lt:=by
  rw [hq,Nat.div_lt_iff_lt_mul h.pos];have h1:(dg zs (j+(k+2))+1)*B64≤dg vs (k+1)*B64:=Nat.mul_le_mul_right _ hlt;have h2:=ja8 hz (j+(k+1));rw [←ja3] at h2;rw [Nat.add_mul,Nat.one_mul] at h1;rw [Nat.mul_comm B64];omega
theorem jea {q R:Nat} (h:StepNums zs vs j k) (hz:Pos.Dig B64 zs) (G:Guess zs vs j k q R) (hc:R*B64+dg zs (j+k) < q*dg vs k):
  Guess zs vs j k (q - 1) (R+dg vs (k+1))∧1≤q:=by
 have hW:0 < dg vs (k+1)*B64+dg vs k:=by have:=Nat.mul_pos h.pos ja6;omega
 obtain ⟨a,b,c⟩:=QStep.go_on (juE (vs:=vs)) rfl (juG (zs:=zs) (j:=j)) (jtp hz) rfl hW G.eq hc;exact ⟨⟨c,a,by have:=G.lt;omega⟩,b⟩
theorem jbP {q R:Nat} (h:StepNums zs vs j k) (hv:Pos.Dig B64 vs) (G:Guess zs vs j k q R) (hc:q*dg vs k≤R*B64+dg zs (j+k)):
  q*sv (dg vs) (k+2) < sv (fun i=>dg zs (j+i)) (k+3)+sv (dg vs) (k+2):=
 QStep.exit_le (juE (vs:=vs)) (juy hv) rfl (juG (zs:=zs) (j:=j)) rfl h.pos ja6 G.eq (Nat.le_of_lt G.lt) hc
theorem jfI {q R:Nat} (hv:Pos.Dig B64 vs) (G:Guess zs vs j k q R) (hR:B64≤R):q*dg vs k≤R*B64+dg zs (j+k):=
 QStep.stop_big (Nat.le_of_lt G.lt) (ja8 hv k) hR
end
end Go.Proofs.YtfagcpcikjlboaaGreatDoor
