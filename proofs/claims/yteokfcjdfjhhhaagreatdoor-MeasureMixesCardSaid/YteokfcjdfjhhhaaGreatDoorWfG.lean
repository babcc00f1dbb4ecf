/- Parts. -/
import Derived.Test.YteokfcjdfjhhhaaGreatDoorWe
import Derived.RegionTactic
import Derived.BigRegion
import Derived.Deep.DeepCutAuto
import Derived.LoopTactic
import Derived.Deep.CutBlock
set_option linter.all false
set_option maxRecDepth 100000
set_option maxHeartbeats 8000000
namespace Go.Proofs.YteokfcjdfjhhhaaGreatDoor
open Go Go.RowKit

theorem jdq (hi lo y:Nat) (hh:hi < y) (hlo:lo < B64) (hy:y < B64) (w:World):
  Calls Tryz.prog 201 #[.int .u64 (hi:Int), .int .u64 (lo:Int), .int .u64 (y:Int)] w (jcF (hi*B64+lo) y w):=by
 rcases Nat.eq_zero_or_pos hi with h|h
 ·subst h;have:=jin lo y (by omega) hlo hy w;simpa using this
 ·exact jkO hi lo y h hh hlo hy w

structure ShiftInv (w wr:World) (g i s:Nat) (ds zs:List Nat):Prop where
 inv:MulInv w wr g (ds.length+1) zs
 far:∀p,i < p→dg zs p=0
 low:dg zs i < 2^s
 val:Pos.nv B64 zs=Pos.nv B64 (ds.take i)*2^s

theorem jiF (x s:Nat) (hs:s < 64) (hx:x < B64):x*2^s=x / 2^(64 - s)*B64+x*2^s % B64∧x / 2^(64 - s) < 2^s∧∃k,x*2^s % B64=k*2^s:=by
 have e:(18446744073709551616:Nat)=2^(64 - s)*2^s:=by rw [←Nat.pow_add,show 64 - s+s=64 by omega]
 rw [ja7] at*
 have h1:x*2^s / 18446744073709551616=x / 2^(64 - s):=by
  rw [e,Nat.mul_div_mul_right _ _ (Nat.pow_pos (by omega))]
 have h2:=Nat.div_add_mod' (x*2^s) 18446744073709551616;rw [h1] at h2;refine ⟨h2.symm,Dv.low_lt hs hx,x % 2^(64 - s), ?_⟩;rw [e,Nat.mul_mod_mul_right]

theorem ShiftInv.step {w wr:World} {g i s:Nat} {ds zs:List Nat} (h:ShiftInv w wr g i s ds zs) (hd:Pos.Dig B64 ds) (hs:s < 64) (hi:i < ds.length) {t d c:Nat}
  (ht:t=dg ds i*2^s % B64) (hdd:d=dg zs i ||| t) (hc:c=dg ds i / 2^(64 - s)):
  d < B64∧c < 2^s∧ShiftInv w ((wr.setCell ⟨g,i,none⟩ (.int .u64 (d:Int))).setCell ⟨g,i+1,none⟩ (.int .u64 (c:Int))) g (i+1) s ds ((zs.set i d).set (i+1) c)
    ∧(c=0→ShiftInv w (wr.setCell ⟨g,i,none⟩ (.int .u64 (d:Int))) g (i+1) s ds (zs.set i d)):=by
 obtain ⟨p1,p2,k,p3⟩:=jiF (dg ds i) s hs (jac hd i);rw [←ht] at p1 p3;rw [←hc] at p1 p2
 have hor:d=dg zs i+t:=by
  rw [hdd,p3,Nat.or_comm,Dv.or_add h.low];omega
 have htb:t < B64:=by rw [ht];exact Nat.mod_lt _ ja9
 have hdb:d < B64:=by
  rw [hdd,ja7];have:=jac h.inv.dig i;rw [ja7] at htb;exact Nat.or_lt_two_pow (n:=64) (by omega) (by omega)
 have hcb:c < B64:=by
  have:(2:Nat)^s≤2^64:=Nat.pow_le_pow_right (by omega) (by omega);rw [ja7];omega
 have hlen:=h.inv.len;have v1:=jbW (l:=zs) (j:=i) (by omega) d;have hz:dg (zs.set i d) (i+1)=0:=by rw [jam (by omega)];exact h.far _ (by omega)
 have v2:=jbW (l:=zs.set i d) (j:=i+1) (by rw [List.length_set];omega) c;rw [hz,Nat.mul_zero] at v2;have hv:=h.val
 have hsum:Pos.nv B64 (zs.set i d)+B64^(i+1)*c=Pos.nv B64 (ds.take (i+1))*2^s:=by
  rw [jaO,Nat.add_mul,←hv,Nat.mul_assoc,p1,Nat.mul_add,Nat.pow_succ];rw [hor,Nat.mul_add] at v1;have:B64^i*(c*B64)=B64^i*B64*c:=by rw [Nat.mul_comm c B64,Nat.mul_assoc]
  rw [hor];omega
 refine ⟨hdb,p2,⟨(h.inv.put i d hdb).put (i+1) c hcb,fun p hp=> ?_, ?_,by rw [←hsum];omega⟩,fun h0=>⟨h.inv.put i d hdb,fun p hp=> ?_, ?_,by rw [←hsum,h0];omega⟩⟩
 ·rw [jam (by omega),jam (by omega)];exact h.far p (by omega)
 ·rw [gd (by simp only [List.length_set];omega)];simp;exact p2
 ·rw [jam (by omega)];exact h.far p (by omega)
 ·rw [hz];exact Nat.pow_pos (by omega)

theorem ShiftInv.start (w:World) (s:Nat) (ds:List Nat):ShiftInv w (w.alloc (.cells (jfA [] (ds.length+1)) 165)) w.heap.size 0 s ds (List.replicate (ds.length+1) 0) where
 inv:={
  len:=by simp
  dig:=fun d hd=>by rw [List.mem_replicate] at hd;rw [hd.2];exact ja9
  blk:=by rw [jco];exact Blk.new _ _ _
  bel:=(Below.refl _ _).alloc (Nat.le_refl _) _
  own:=Nat.le_refl _ }
 far:=fun p _=>jdu _ p
 low:=by rw [jdu];exact Nat.pow_pos (by omega)
 val:=by rw [Pos.nv_zeros];simp [Pos.nv]
theorem ShiftInv.drewN {w wr:World} {g i s:Nat} {ds zs:List Nat} (h:ShiftInv w wr g i s ds zs) (n:Nat):ShiftInv w (wr.drewN n) g i s ds zs:=
 ⟨⟨h.inv.len,h.inv.dig,h.inv.blk.drewN n,jaC h.inv.bel n,h.inv.own⟩,h.far,h.low,h.val⟩
theorem ShiftInv.drew {w wr:World} {g i s:Nat} {ds zs:List Nat} (h:ShiftInv w wr g i s ds zs):ShiftInv w wr.drew g i s ds zs:=
 ⟨⟨h.inv.len,h.inv.dig,h.inv.blk,h.inv.bel.drew,h.inv.own⟩,h.far,h.low,h.val⟩

def jrN (x n:Nat) (w:World) (e:Ending) (w':World):Prop:=
 ∃g zs,e= .returned (.slice (some ⟨g,0,none⟩) n n)∧MulInv w w' g n zs∧Pos.nv B64 zs=x

theorem jeu (A:Option Addr) (n c s:Nat) (ds:List Nat) (w:World) (h:Wd w A n ds) (hn:n < 549755813888) (hs:s < 64):
  Calls Tryz.prog 203 #[.slice A n c, .int .i64 (s:Int)] w (jrN (Pos.nv B64 ds*2^s) (n+1) w):=by
 obtain rfl:=h.len;have HD:=qh h;clear h;have hmk:=fun W=>jbJ (ds.length+1) (by omega) W
 simp only [Int.natCast_add,Int.natCast_one] at hmk;have hs0:(0:Int)≤(s:Int):=by omega
 have hs1:(s:Int) < 64:=by omega
 go_enter Tryz.func203,Tryz.ntmps203;go_wp2
 go_loopw [14] (fun i wr=>∃(k:Nat) (zs:List Nat),k≤ds.length∧i= .int .i64 k∧ShiftInv w wr w.heap.size k s ds zs) (fun i _=>ds.length - (intOf i).toNat)
 case atStart=>exact ⟨0,_,Nat.zero_le _,rfl,ShiftInv.start _ _ _⟩
 case round=>
  obtain ⟨k,zs,hk,rfl,hI⟩:=hrel;by_cases hlt:k < ds.length
  ·obtain ⟨b,o,rfl,hb,hcell⟩:=(HD.out.below hI.inv.bel).at_ (by omega);have hcl:=hcell k hlt;obtain ⟨pl1,pl2⟩:=hI.inv.place (j:=k) (by omega);obtain ⟨pl3,pl4⟩:=hI.inv.place (j:=k+1) (by omega);have hk0:(0:Int)≤(k:Int):=by omega
   have hk1:(k:Int) < (ds.length:Int):=by omega
   have hk2:(k:Int) < (ds.length:Int)+1:=by omega
   have hk3:(k:Int)+1 < (ds.length:Int)+1:=by omega
   have u1:=jac HD.out.dig k;have u2:=jac hI.inv.dig k;obtain ⟨t,ht⟩:∃q,q=dg ds k*2^s % B64:=⟨_,rfl⟩;obtain ⟨d,hd⟩:∃q,q=dg zs k ||| t:=⟨_,rfl⟩
   obtain ⟨cc,hc⟩:∃q,q=dg ds k / 2^(64 - s):=⟨_,rfl⟩;obtain ⟨g1,g2,g3,g4⟩:=hI.step HD.out.dig hs hlt ht hd hc;have n1:=jlG (dg ds k) s t ht;have n2:=js4 (dg zs k) t d u2 (by rw [ht];exact Nat.mod_lt _ ja9) hd;have n3:((dg ds k:Int) / 2^(64 - s))=(cc:Int):=by rw [hc];simp
   have G3:=qh g3;have G4:=qh g4;have HI:=qh hI;clear hI hcell ht hd hc g3 g4;by_cases hs2:0 < s
   ·have hs3:(0:Int) < (s:Int):=by omega
    go_wp2
    go_region
    go_wp2
    go_roundw
    case rel=>exact ⟨k+1,_,by omega,by go_num,G3.out.drew⟩
    case measure=>simp [intOf];omega
   ·have hs3:¬(0:Int) < (s:Int):=by omega
    have h0:cc=0:=by
     have:s=0:=by omega
     subst this;omega
    have G5:=qh (G4.out h0);clear h0;go_wp2
    go_region
    go_wp2
    go_roundw
    case rel=>exact ⟨k+1,_,by omega,by go_num,G5.out.drew⟩
    case measure=>simp [intOf];omega
  ·have e:k=ds.length:=by omega
   subst e;have HI:=qh hI;clear hI;go_wp2;go_ret;exact ⟨w.heap.size,zs,rfl,HI.out.inv,by have:=HI.out.val;rw [List.take_length] at this;exact this⟩
end Go.Proofs.YteokfcjdfjhhhaaGreatDoor
namespace Go.Proofs.YteokfcjdfjhhhaaGreatDoor

def sv (f:Nat→Nat):Nat→Nat
 | 0=>0
 | k+1=>sv f k+B64^k*f k
theorem jbg {f g:Nat→Nat}:∀{k:Nat},(∀i,i < k→f i=g i)→sv f k=sv g k
 | 0,_=>rfl
 | k+1,h=>by simp only [sv];rw [jbg fun i hi=>h i (by omega),h k (by omega)]
theorem jhb {f:Nat→Nat} (h:∀i,f i < B64):∀k,sv f k < B64^k
 | 0=>by simp [sv]
 | k+1=>by
   simp only [sv,Nat.pow_succ];have h1:=jhb h k;have h2:B64^k*(f k+1)≤B64^k*B64:=Nat.mul_le_mul_left _ (h k);rw [Nat.mul_add,Nat.mul_one] at h2;omega
theorem jd4 (l:List Nat) (k:Nat):sv (dg l) k=Pos.nv B64 (l.take k):=by
 induction k with
 | zero=>simp [sv,Pos.nv]
 | succ k ih=>simp only [sv];rw [ih,jaO]
theorem jaY {l:List Nat} {p d:Nat} (h:p < l.length):dg (l.set p d) p=d:=by
 simp [dg,List.getD_eq_getElem?_getD,h]

structure TakeInv (zs ws vs:List Nat) (j q k b c:Nat):Prop where
 len:ws.length=zs.length
 bor:b≤1
 car:c < B64
 out:∀p,p < j∨j+k≤p→dg ws p=dg zs p
 val:sv (fun i=>dg ws (j+i)) k+q*sv (dg vs) k=sv (fun i=>dg zs (j+i)) k+B64^k*(b+c)

theorem jm8 {q v c:Nat} (hq:q < B64) (hv:v < B64) (hc:c < B64):
  (q*v % B64+c) % B64+B64*(q*v / B64+(q*v % B64+c) / B64)=q*v+c∧q*v / B64+(q*v % B64+c) / B64 < B64:=by
 have h:=jjD (b:=B64) hq hv ja9 hc;simp only [Nat.add_zero,Nat.mod_mod,Nat.div_eq_of_lt (Nat.mod_lt (q*v) ja9)] at h;exact h

theorem TakeInv.step {zs ws vs:List Nat} {j q k b c:Nat} (h:TakeInv zs ws vs j q k b c) (hk:j+k < zs.length) {d1 c' d2 b':Nat}
  (h1:d1+B64*c'=q*dg vs k+c) (hc':c' < B64) (h2:d2+(d1+b)=dg ws (j+k)+B64*b') (hb':b'≤1):
  TakeInv zs (ws.set (j+k) d2) vs j q (k+1) b' c' where
 len:=by rw [List.length_set,h.len]
 bor:=hb'
 car:=hc'
 out:=fun p hp=>by rw [jam (by omega)];exact h.out p (by omega)
 val:=by
  simp only [sv];rw [jbg (f:=fun i=>dg (ws.set (j+k) d2) (j+i)) (g:=fun i=>dg ws (j+i)) fun i hi=>jam (by omega),jaY (by rw [h.len];exact hk)];have hv:=h.val;have ho:=h.out (j+k) (by omega);rw [ho] at h2
  have e:B64^k*d2+B64^k*(q*dg vs k)+B64^k*(b+c)=B64^k*dg zs (j+k)+B64^(k+1)*(b'+c'):=by
   rw [Nat.pow_succ,Nat.mul_assoc,←Nat.mul_add,←Nat.mul_add,←Nat.mul_add]
   congr 1
   rw [Nat.mul_add];omega
  have e2:q*(B64^k*dg vs k)=B64^k*(q*dg vs k):=Nat.mul_left_comm _ _ _;rw [Nat.mul_add,e2];omega

structure BackInv (zs ws vs:List Nat) (j k c:Nat):Prop where
 len:ws.length=zs.length
 car:c≤1
 out:∀p,p < j∨j+k≤p→dg ws p=dg zs p
 val:sv (fun i=>dg ws (j+i)) k+B64^k*c=sv (fun i=>dg zs (j+i)) k+sv (dg vs) k
theorem BackInv.step {zs ws vs:List Nat} {j k c:Nat} (h:BackInv zs ws vs j k c) (hk:j+k < zs.length) {d c':Nat}
  (h1:d+B64*c'=dg ws (j+k)+dg vs k+c) (hc':c'≤1):BackInv zs (ws.set (j+k) d) vs j (k+1) c' where
 len:=by rw [List.length_set,h.len]
 car:=hc'
 out:=fun p hp=>by rw [jam (by omega)];exact h.out p (by omega)
 val:=by
  simp only [sv];rw [jbg (f:=fun i=>dg (ws.set (j+k) d) (j+i)) (g:=fun i=>dg ws (j+i)) fun i hi=>jam (by omega),jaY (by rw [h.len];exact hk)];have hv:=h.val;have ho:=h.out (j+k) (by omega);rw [ho] at h1;have e:=congrArg (B64^k* ·) h1;simp only [Nat.mul_add] at e;rw [Nat.pow_succ,Nat.mul_assoc];omega

structure StepDone (zs ws vs:List Nat) (j n q:Nat):Prop where
 len:ws.length=zs.length
 out:∀p,p < j∨j+n < p→dg ws p=dg zs p
 quo:q=sv (fun i=>dg zs (j+i)) (n+1) / sv (dg vs) n
 rest:sv (fun i=>dg ws (j+i)) (n+1)=sv (fun i=>dg zs (j+i)) (n+1) % sv (dg vs) n

theorem jjb {U V q R:Nat} (h:U=q*V+R) (hR:R < V):q=U / V∧R=U % V:=by
 subst h;have h0:0 < V:=by omega
 rw [Nat.add_comm,Nat.add_mul_div_right _ _ h0,Nat.div_eq_of_lt hR,Nat.add_mul_mod_self_right,Nat.mod_eq_of_lt hR];exact ⟨by omega,rfl⟩

theorem TakeInv.right {zs ws vs:List Nat} {j q n b c d b':Nat} (h:TakeInv zs ws vs j q n b c) (hk:j+n < zs.length) (hge:sv (fun i=>dg zs (j+i)) (n+1) / sv (dg vs) n≤q) (hV:0 < sv (dg vs) n)
  (h2:d+(c+b)=dg ws (j+n)+B64*b') (hb:b'=0):StepDone zs (ws.set (j+n) d) vs j n q:=by
 have ho:=h.out (j+n) (by omega);rw [ho,hb,Nat.mul_zero,Nat.add_zero] at h2;have hv:=h.val
 have es:sv (fun i=>dg (ws.set (j+n) d) (j+i)) (n+1)=sv (fun i=>dg ws (j+i)) n+B64^n*d:=by
  simp only [sv];rw [jbg (f:=fun i=>dg (ws.set (j+n) d) (j+i)) (g:=fun i=>dg ws (j+i)) fun i hi=>jam (by omega),jaY (by rw [h.len];exact hk)]
 have eU:sv (fun i=>dg zs (j+i)) (n+1)=sv (fun i=>dg zs (j+i)) n+B64^n*dg zs (j+n):=rfl;have e:=congrArg (B64^n* ·) h2;simp only [Nat.mul_add] at e;rw [Nat.mul_add] at hv;have hsum:sv (fun i=>dg zs (j+i)) (n+1)=q*sv (dg vs) n+sv (fun i=>dg (ws.set (j+n) d) (j+i)) (n+1):=by rw [es,eU];omega
 have hlt:sv (fun i=>dg (ws.set (j+n) d) (j+i)) (n+1) < sv (dg vs) n:=by
  have h3:sv (fun i=>dg zs (j+i)) (n+1) < (q+1)*sv (dg vs) n:=by
   have:=(Nat.div_lt_iff_lt_mul hV).1 (Nat.lt_succ_of_le hge);exact this
  rw [Nat.add_mul,Nat.one_mul] at h3;omega
 obtain ⟨r1,r2⟩:=jjb hsum hlt;exact ⟨by rw [List.length_set,h.len],fun p hp=>by rw [jam (by omega)];exact h.out p (by omega),r1,r2⟩

theorem TakeInv.wrong {zs ws vs xs:List Nat} {j q n b c d b' c2:Nat} (h:TakeInv zs ws vs j q n b c) (hk:j+n < zs.length)
  (hV:0 < sv (dg vs) n) (hvs:Pos.Dig B64 vs) (hxd:∀i,dg xs i < B64) (hwd:∀i,dg ws i < B64) (hlt:q*sv (dg vs) n < sv (fun i=>dg zs (j+i)) (n+1)+sv (dg vs) n) (hq:0 < q)
  (h2:d+(c+b)=dg ws (j+n)+B64*b') (hb:b'=1) (hdB:d < B64) (hB:BackInv (ws.set (j+n) d) xs vs j n c2):
  (d+c2) % B64=0∧StepDone zs (xs.set (j+n) 0) vs j n (q - 1):=by
 have ho:=h.out (j+n) (by omega);rw [ho,hb,Nat.mul_one] at h2;have hv:=h.val;have bv:=hB.val;have esb:sv (fun i=>dg (ws.set (j+n) d) (j+i)) n=sv (fun i=>dg ws (j+i)) n:=jbg fun i hi=>jam (by omega)
 rw [esb] at bv;have eU:sv (fun i=>dg zs (j+i)) (n+1)=sv (fun i=>dg zs (j+i)) n+B64^n*dg zs (j+n):=rfl;have e:=congrArg (B64^n* ·) h2;simp only [Nat.mul_add] at e;rw [Nat.mul_add] at hv;have hxl:sv (fun i=>dg xs (j+i)) n < B64^n:=jhb (fun i=>hxd _) n;have hVl:sv (dg vs) n < B64^n:=jhb (jac hvs) n;have hWl:sv (fun i=>dg ws (j+i)) n < B64^n:=jhb (fun i=>hwd _) n;generalize hU:sv (fun i=>dg zs (j+i)) (n+1)=U at*;generalize hVV:sv (dg vs) n=V at*;generalize hX0:sv (fun i=>dg xs (j+i)) n=X at*;generalize sv (fun i=>dg ws (j+i)) n=W at*;generalize sv (fun i=>dg zs (j+i)) n=Z at*;generalize hP:B64^n=P at*
 -- X + P * (d + c2) = P * B64 + (U - (q - 1) * V)
 obtain ⟨k,rfl⟩:∃k,q=k+1:=⟨q - 1,by omega⟩;rw [Nat.add_mul,Nat.one_mul] at hlt hv;have main:X+P*(d+c2)+k*V=P*B64+U:=by rw [Nat.mul_add];omega
 have hR:U - k*V < V:=by
  -- q * V > U
  have h5:W+P*d < P*B64:=by
   have h6:P*(d+1)≤P*B64:=Nat.mul_le_mul_left _ hdB;rw [Nat.mul_add,Nat.mul_one] at h6;omega
  omega
 have hs:d+c2=B64:=by
  have hP0:0 < P:=by omega
  refine Nat.le_antisymm ?_ ?_
  ·have:P*(d+c2) < P*(B64+1):=by rw [Nat.mul_add P B64 1,Nat.mul_one];omega
   have:=Nat.lt_of_mul_lt_mul_left this;omega
  ·have:P*B64 < P*(d+c2+1):=by rw [Nat.mul_add P (d+c2) 1,Nat.mul_one];omega
   have:=Nat.lt_of_mul_lt_mul_left this;omega
 rw [hs] at main;refine ⟨by rw [hs,Nat.mod_self], ?_⟩;have hX:X=U - k*V:=by omega
 have hxlen:xs.length=zs.length:=by rw [hB.len,List.length_set,h.len]
 obtain ⟨r1,r2⟩:=jjb (show U=k*V+X by omega) (by omega);refine ⟨by rw [List.length_set,hxlen],fun p hp=> ?_, ?_, ?_⟩
 ·rw [jam (by omega),hB.out p (by omega),jam (by omega)];exact h.out p (by omega)
 ·simp only [Nat.add_sub_cancel];rw [hU,hVV];exact r1
 ·rw [hU,hVV];simp only [sv];rw [jbg (f:=fun i=>dg (xs.set (j+n) 0) (j+i)) (g:=fun i=>dg xs (j+i)) fun i hi=>jam (by omega),jaY (by omega),hX0,Nat.mul_zero,Nat.add_zero];exact r2
end Go.Proofs.YteokfcjdfjhhhaaGreatDoor
namespace Go.Proofs.YteokfcjdfjhhhaaGreatDoor
open Go Go.RowKit

theorem jke {a w:World} {row:Option Nat} (h:a.grownBy w row) (n:Nat):a.grownBy (w.drewN n) row:=⟨h.os,h.tape,h.output,h.size,h.block⟩
theorem jhO {a w:World} {g:Nat} (h:a.grownBy w (some g)) (o:Nat) (u:Value):a.grownBy (w.setCell ⟨g,o,none⟩ u) (some g):=
 ⟨h.os,h.tape,h.output,by simpa [World.setCell] using h.size,fun i hi hne=>(Below.heap_setCell w ⟨g,o,none⟩ u i (by
   rintro rfl
   exact hne rfl)).trans (h.block i hi hne)⟩

structure RowAt (w wr:World) (g m:Nat) (ws:List Nat):Prop where
 blk:Blk wr g 165 (ji5 ws)
 dig:Pos.Dig B64 ws
 len:ws.length=m
 only:w.grownBy wr (some g)
theorem RowAt.put {w wr:World} {g m:Nat} {ws:List Nat} (h:RowAt w wr g m ws) (j d:Nat) (hd:d < B64):RowAt w (wr.setCell ⟨g,j,none⟩ (.int .u64 (d:Int))) g m (ws.set j d) where
 blk:=by have:=h.blk.set_ j (.int .u64 (d:Int));rw [jcR] at this;exact this
 dig:=h.dig.set j hd
 len:=by rw [List.length_set,h.len]
 only:=jhO h.only _ _
theorem RowAt.drewN {w wr:World} {g m:Nat} {ws:List Nat} (h:RowAt w wr g m ws) (n:Nat):RowAt w (wr.drewN n) g m ws:=⟨h.blk.drewN n,h.dig,h.len,jke h.only n⟩
theorem RowAt.place {w wr:World} {g m j:Nat} {ws:List Nat} (h:RowAt w wr g m ws) (hj:j < m):
  wr.cell? ⟨g,j,none⟩=some (.int .u64 ((dg ws j:Nat):Int))∧wr.frozen? ⟨g,j,none⟩=false:=by
 refine ⟨?_,h.blk.frozen j⟩;rw [h.blk.cell,jgx (by rw [h.len];exact hj)]
theorem RowAt.other {w wr:World} {g m:Nat} {ws:List Nat} (h:RowAt w wr g m ws) {b o:Nat} (hb:b < w.heap.size) (hne:b≠g) {v:Value} (hc:w.cell? ⟨b,o,none⟩=some v):wr.cell? ⟨b,o,none⟩=some v:=
 (World.cell?_of_block (h.only.block b hb (fun e=>hne (by injection e)))).trans hc
theorem RowAt.start {w:World} {g m:Nat} {ws:List Nat} (h1:Blk w g 165 (ji5 ws)) (h2:Pos.Dig B64 ws) (h3:ws.length=m):RowAt w w g m ws:=⟨h1,h2,h3,World.grownBy.refl w _⟩

structure StepNums (zs vs:List Nat) (j k:Nat):Prop where
 pos:0 < dg vs (k+1)
 lt:sv (fun i=>dg zs (j+i)) (k+3) < sv (dg vs) (k+2)*B64
structure Guess (zs vs:List Nat) (j k q R:Nat):Prop where
 eq:q*dg vs (k+1)+R=dg zs (j+(k+2))*B64+dg zs (j+(k+1))
 ge:sv (fun i=>dg zs (j+i)) (k+3) / sv (dg vs) (k+2)≤q
 lt:q < B64

section
variable {zs vs:List Nat} {j k:Nat}
theorem jrZ:sv (dg vs) (k+2)=(dg vs (k+1)*B64+dg vs k)*B64^k+sv (dg vs) k:=by
 simp only [sv];have e1:B64^(k+1)=B64*B64^k:=by rw [Nat.pow_succ,Nat.mul_comm]
 rw [e1];simp only [Nat.add_mul];have a1:B64^k*dg vs k=dg vs k*B64^k:=Nat.mul_comm _ _;have a2:B64*B64^k*dg vs (k+1)=dg vs (k+1)*B64*B64^k:=by rw [Nat.mul_comm,Nat.mul_assoc]
 omega
theorem jrW:sv (fun i=>dg zs (j+i)) (k+3)=((dg zs (j+(k+2))*B64+dg zs (j+(k+1)))*B64+dg zs (j+k))*B64^k+sv (fun i=>dg zs (j+i)) k:=by
 simp only [sv];have e1:B64^(k+1)=B64*B64^k:=by rw [Nat.pow_succ,Nat.mul_comm]
 have e2:B64^(k+2)=B64*B64*B64^k:=by rw [Nat.pow_succ,e1,Nat.mul_comm,Nat.mul_assoc]
 rw [e1,e2];simp only [Nat.add_mul];have a1:B64^k*dg zs (j+k)=dg zs (j+k)*B64^k:=Nat.mul_comm _ _;have a2:B64*B64^k*dg zs (j+(k+1))=dg zs (j+(k+1))*B64*B64^k:=by rw [Nat.mul_comm,Nat.mul_assoc]
 have a3:B64*B64*B64^k*dg zs (j+(k+2))=dg zs (j+(k+2))*B64*B64*B64^k:=by rw [Nat.mul_comm];simp only [Nat.mul_assoc]
 omega
theorem jr0 (hv:Pos.Dig B64 vs):sv (dg vs) k < B64^k:=jhb (jac hv) k
theorem jrb (hz:Pos.Dig B64 zs):sv (fun i=>dg zs (j+i)) k < B64^k:=jhb (fun i=>jac hz _) k
theorem jkG (h:StepNums zs vs j k):0 < sv (dg vs) (k+2):=by
 have:=h.lt;rcases Nat.eq_zero_or_pos (sv (dg vs) (k+2)) with h0|h0
 ·rw [h0] at this;omega
 ·exact h0
theorem jrg (h:StepNums zs vs j k) (hv:Pos.Dig B64 vs):dg zs (j+(k+2))≤dg vs (k+1):=by
 have h1:=h.lt;have h2:=jr0 (k:=k) hv;have h3:=jac hv k;rw [jrW,jrZ] at h1;rw [←ja7] at h3;rcases Nat.lt_or_ge (dg vs (k+1)) (dg zs (j+(k+2))) with hc|hc
 ·exfalso;have h4:(dg vs (k+1)+1)*B64≤dg zs (j+(k+2))*B64:=Nat.mul_le_mul_right _ hc;have h5:(dg vs (k+1)*B64+dg vs k+1)*B64≤(dg zs (j+(k+2))*B64+dg zs (j+(k+1)))*B64:=Nat.mul_le_mul_right _ (by rw [Nat.add_mul,Nat.one_mul] at h4;omega);have h6:(dg vs (k+1)*B64+dg vs k+1)*B64*B64^k≤((dg zs (j+(k+2))*B64+dg zs (j+(k+1)))*B64+dg zs (j+k))*B64^k:=Nat.mul_le_mul_right _ (by omega)
  have h7:((dg vs (k+1)*B64+dg vs k)*B64^k+sv (dg vs) k)*B64 < (dg vs (k+1)*B64+dg vs k+1)*B64*B64^k:=by
   rw [Nat.mul_right_comm _ B64 (B64^k)];refine Nat.mul_lt_mul_of_pos_right ?_ ja9;rw [Nat.add_mul _ 1 (B64^k),Nat.one_mul];omega
  omega
 ·exact hc
theorem jkl (h:StepNums zs vs j k) (hz:Pos.Dig B64 zs) (he:dg zs (j+(k+2))=dg vs (k+1)):Guess zs vs j k 18446744073709551615 (dg zs (j+(k+1))+dg vs (k+1)) where
 eq:=by rw [he,ja7];omega
 ge:=by
  have:=(Nat.div_lt_iff_lt_mul (jkG h)).2 (by rw [Nat.mul_comm];exact h.lt);rw [ja7] at this;omega
 lt:=by rw [ja7];omega
theorem jmN (h:StepNums zs vs j k) (hz:Pos.Dig B64 zs) (hv:Pos.Dig B64 vs) (hlt:dg zs (j+(k+2)) < dg vs (k+1)) {q r:Nat}
  (hq:q=(dg zs (j+(k+2))*B64+dg zs (j+(k+1))) / dg vs (k+1)) (hr:r=(dg zs (j+(k+2))*B64+dg zs (j+(k+1))) % dg vs (k+1)):Guess zs vs j k q r where
 eq:=by rw [hq,hr];exact Nat.div_add_mod' _ _
 ge:=by
  have hW:0 < dg vs (k+1)*B64+dg vs k:=by have:=Nat.mul_pos h.pos ja9;omega
  refine Nat.le_trans (QStep.div_le jrZ jrW (jrb hz) hW) ?_;rw [hq];exact QStep.guess_ge rfl rfl h.pos (jac hz _)
 lt:=by
  rw [hq,Nat.div_lt_iff_lt_mul h.pos];have h1:(dg zs (j+(k+2))+1)*B64≤dg vs (k+1)*B64:=Nat.mul_le_mul_right _ hlt;have h2:=jac hz (j+(k+1));rw [←ja7] at h2;rw [Nat.add_mul,Nat.one_mul] at h1;rw [Nat.mul_comm B64];omega
theorem jea {q R:Nat} (h:StepNums zs vs j k) (hz:Pos.Dig B64 zs) (G:Guess zs vs j k q R) (hc:R*B64+dg zs (j+k) < q*dg vs k):
  Guess zs vs j k (q - 1) (R+dg vs (k+1))∧1≤q:=by
 have hW:0 < dg vs (k+1)*B64+dg vs k:=by have:=Nat.mul_pos h.pos ja9;omega
 obtain ⟨a,b,c⟩:=QStep.go_on (jrZ (vs:=vs)) rfl (jrW (zs:=zs) (j:=j)) (jrb hz) rfl hW G.eq hc;exact ⟨⟨c,a,by have:=G.lt;omega⟩,b⟩
theorem jc3 {q R:Nat} (h:StepNums zs vs j k) (hv:Pos.Dig B64 vs) (G:Guess zs vs j k q R) (hc:q*dg vs k≤R*B64+dg zs (j+k)):
  q*sv (dg vs) (k+2) < sv (fun i=>dg zs (j+i)) (k+3)+sv (dg vs) (k+2):=
 QStep.exit_le (jrZ (vs:=vs)) (jr0 hv) rfl (jrW (zs:=zs) (j:=j)) rfl h.pos ja9 G.eq (Nat.le_of_lt G.lt) hc
theorem jfs {q R:Nat} (hv:Pos.Dig B64 vs) (G:Guess zs vs j k q R) (hR:B64≤R):q*dg vs k≤R*B64+dg zs (j+k):=
 QStep.stop_big (Nat.le_of_lt G.lt) (jac hv k) hR
end

structure Guessed (zs vs:List Nat) (j k q:Nat):Prop where
 ge:sv (fun i=>dg zs (j+i)) (k+3) / sv (dg vs) (k+2)≤q
 lt:q < B64
 end_ : q * sv (dg vs) (k + 2) < sv (fun i => dg zs (j + i)) (k + 3) + sv (dg vs) (k + 2)

theorem jsD {hi lo r u P B:Nat} (hP:hi*B+lo=P) (hlo:lo < B) (h:hi < r):P≤(r+B*0)*B+u:=by
 have:(hi+1)*B≤r*B:=Nat.mul_le_mul_right _ h;rw [Nat.add_mul,Nat.one_mul] at this;rw [Nat.mul_zero,Nat.add_zero];omega
theorem jsx {hi lo r u P B:Nat} (hP:hi*B+lo=P) (h:hi=r) (h2:u < lo):(r+B*0)*B+u < P:=by
 rw [Nat.mul_zero,Nat.add_zero,←h];omega
theorem jsA {hi lo r u P B:Nat} (hP:hi*B+lo=P) (h:hi=r) (h2:lo≤u):P≤(r+B*0)*B+u:=by
 rw [Nat.mul_zero,Nat.add_zero,←h];omega
theorem jsz {hi lo r u P B:Nat} (hP:hi*B+lo=P) (hu:u < B) (h:r < hi):(r+B*0)*B+u < P:=by
 have:(r+1)*B≤hi*B:=Nat.mul_le_mul_right _ h;rw [Nat.add_mul,Nat.one_mul] at this;rw [Nat.mul_zero,Nat.add_zero];omega






theorem jc9 (x y b d e:Nat) (hb:b≤1) (hd:d=(x+B64 - y - b) % B64) (he:e=if x < y+b then 1 else 0) (w:World):
  (callFunc 171 #[.int .u64 x, .int .u64 y, .int .u64 b]).run Tryz.prog w= .ok (.value (.tuple #[.int .u64 (d:Int), .int .u64 (e:Int)])) w:=by
 subst hd;subst he;exact jdJ x y b hb w
theorem TakeInv.start (zs vs:List Nat) (j q:Nat):TakeInv zs zs vs j q 0 0 0:=⟨rfl,by omega,ja9,fun _ _=>rfl,by simp [sv]⟩

theorem TakeInv.q_pos {zs ws vs:List Nat} {j q n b c d b':Nat} (h:TakeInv zs ws vs j q n b c) (hwd:∀i,dg ws i < B64) (h2:d+(c+b)=dg ws (j+n)+B64*b') (hb:b'=1) (hdB:d < B64):0 < q:=by
 rcases Nat.eq_zero_or_pos q with h0|h0
 ·exfalso;have hv:=h.val;rw [h0,Nat.zero_mul,Nat.add_zero] at hv;have hl:sv (fun i=>dg ws (j+i)) n < B64^n:=jhb (fun i=>hwd _) n
  have hbc:b+c=0:=by
   rcases Nat.eq_zero_or_pos (b+c) with h3|h3
   ·exact h3
   ·exfalso;have:=Nat.le_mul_of_pos_right (B64^n) h3;omega
  rw [hb,Nat.mul_one] at h2;omega
 ·exact h0
theorem BackInv.start (zs vs:List Nat) (j:Nat):BackInv zs zs vs j 0 0:=⟨rfl,by omega,fun _ _=>rfl,by simp [sv]⟩
theorem je4 (x y c d e:Nat) (hc:c≤1) (hd:d=(x+y+c) % B64) (he:e=(x+y+c) / B64) (w:World):
  (callFunc 169 #[.int .u64 x, .int .u64 y, .int .u64 c]).run Tryz.prog w= .ok (.value (.tuple #[.int .u64 (d:Int), .int .u64 (e:Int)])) w:=by
 subst hd;subst he;exact jbZ x y c hc w
def jdv (zs vs:List Nat) (g j n m:Nat) (w:World) (e:Ending) (w':World):Prop:=
 ∃q ws,e= .returned (.int .u64 ((q:Nat):Int))∧StepDone zs ws vs j n q∧RowAt w w' g m ws
theorem je9 {zs vs ws:List Nat} {g j n m q:Nat} {w w':World} {v:Value} (hv:v= .int .u64 (q:Int)) (h1:StepDone zs ws vs j n q) (h2:RowAt w w' g m ws):jdv zs vs g j n m w (.returned v) w':=
 ⟨q,ws,by rw [hv],h1,h2⟩

theorem jbE (x y d e:Nat) (hd:d=(x+y) % B64) (he:e=(x+y) / B64) (w:World):
  (callFunc 169 #[.int .u64 x, .int .u64 y, .int .u64 0]).run Tryz.prog w= .ok (.value (.tuple #[.int .u64 (d:Int), .int .u64 (e:Int)])) w:=jby x y d e hd he w

theorem jlR (g j k m cu cv bv ov:Nat) (zs vs:List Nat) (w:World) (hz:RowAt w w g m zs) (hm:j+(k+2) < m) (hm2:m < 1099511627776) (hv:Wd w (some ⟨bv,ov,none⟩) (k+2) vs) (hne:bv≠g) (hN:StepNums zs vs j k)
  (he:dg zs (j+(k+2))=dg vs (k+1)):
  Calls Tryz.prog 204 #[.slice (some ⟨g,j,none⟩) (k+2+1) cu, .slice (some ⟨bv,ov,none⟩) (k+2) cv] w (jdv zs vs g j (k+2) m w):=by
 obtain ⟨b0,o0,e0,hbl,hcell⟩:=hv.at_ (by omega)
 injection e0 with e0
 injection e0 with e1 e2
 subst e1;subst e2;obtain ⟨p0,_⟩:=hz.place (j:=j+(k+2)) (by omega);obtain ⟨p1,_⟩:=hz.place (j:=j+(k+1)) (by omega);obtain ⟨p2,_⟩:=hz.place (j:=j+k) (by omega);have c1:=hcell (k+1) (by omega);have c2:=hcell k (by omega);have HC:=qh hcell;have G0:=jkl hN hz.dig he;have u1:=jac hz.dig (j+(k+1));have u2:=jac hv.dig (k+1);have HZ:=qh hz;have HV:=qh hv;have HN:=qh hN;obtain ⟨d,hd⟩:∃q,q=(dg zs (j+(k+1))+dg vs (k+1)) % B64:=⟨_,rfl⟩;obtain ⟨e,hee⟩:∃q,q=(dg zs (j+(k+1))+dg vs (k+1)) / B64:=⟨_,rfl⟩;have a0:=fun w=>jbE _ _ d e hd hee w
 have HD:=qh hd;have HE:=qh hee;have G:=qh G0;have hge:(dg vs (k+1):Int)≤(dg zs (j+(k+2)):Int):=by omega
 have hk0:(0:Int)≤(k:Int):=by omega
 have hkm:(k:Int) < 1099511627776:=by omega
 have U1:=qh u1;have U2:=qh u2;clear hcell hz hv hN hd hee G0 he u1 u2;go_enter Tryz.func204,Tryz.ntmps204;go_wp2
 go_quiet (fail)
 go_wp2
 go_quiet (fail)
 go_upto_block 0 with (fail)
 generalize hwq:(w.drewN _).drewN _=wq;have HW:∃n,wq=w.drewN n:=⟨_,by rw [←hwq,World.drewN_drewN]⟩;clear hwq;have HS1:Hid (d < B64):=by show _ < _;rw [HD.out];exact Nat.mod_lt _ ja9
 have HS2:Hid (e≤1):=by
  show _≤_
  rw [HE.out];exact Nat.le_of_lt_succ ((Nat.div_lt_iff_lt_mul ja9).2 (by have:=U1.out;have:=U2.out;rw [ja7];omega))
 have HG0:Hid (Guess zs vs j k 18446744073709551615 (d+B64*e)):=by
  show Guess _ _ _ _ _ _
  rw [HD.out,HE.out,Nat.mod_add_div];exact G.out
 go_cut [6] (fun s6 wx=>∃q m:Nat,s6= .int .u64 (q:Int)∧wx=w.drewN m∧Guessed zs vs j k q)
 case first=>
  (try clear hk0 hkm)
  go_wp2
  go_loopw [6,7,8] (fun a b c wx=>∃q r o m:Nat,a= .int .u64 (q:Int)∧b= .int .u64 (r:Int)∧c= .int .u64 (o:Int)∧wx=w.drewN m∧r < B64∧o≤1∧Guess zs vs j k q (r+B64*o)) (fun a _ c _=>2*(intOf a).toNat+1 - (intOf c).toNat)
  case atStart=>
   obtain ⟨n,hn⟩:=HW;exact ⟨18446744073709551615,d,e,n,rfl,rfl,rfl,hn,HS1.out,HS2.out,HG0.out⟩
  case round=>
   obtain ⟨q,r,o,m,rfl,rfl,rfl,rfl,hr,ho,hG⟩:=hrel;rcases Nat.eq_zero_or_pos o with h0|h0
   ·subst h0;have w2:=jac HV.out.dig k;have w3:=jac HZ.out.dig (j+k);have W2:=qh w2;have W3:=qh w3;clear w2 w3;have hq:=hG.lt;obtain ⟨hi,ehi⟩:∃x,x=q*dg vs k / B64:=⟨_,rfl⟩;obtain ⟨lo,elo⟩:∃x,x=q*dg vs k % B64:=⟨_,rfl⟩;have hprod:hi*B64+lo=q*dg vs k:=by rw [ehi,elo];exact Nat.div_add_mod' _ _
    have hlo:lo < B64:=by rw [elo];exact Nat.mod_lt _ ja9
    have M1:=qh ehi;have M2:=qh elo;have HQ:=qh hq;have HG:=qh hG;have HR:=qh hr;have HP:=qh hprod;have HLO:=qh hlo;clear ehi elo hG hr hprod hlo hq;rcases Nat.lt_trichotomy hi r with h1|h1|h1
    ·have h1':(hi:Int) < (r:Int):=by omega
     have hend:=jsD (u:=dg zs (j+k)) HP.out HLO.out h1;have HEND:=qh hend;clear hend h1;go_wp2_with (go_at_call 130;((with_reducible refine (jax _ _ _ _ HQ.out W2.out M1.out M2.out _).mono ?_);rintro e w1 ⟨rfl,rfl⟩))
     go_meet;exact ⟨q,m,rfl,rfl,HG.out.ge,HG.out.lt,jc3 HN.out HV.out.dig HG.out HEND.out⟩
    ·have h1':¬(hi:Int) < (r:Int):=by omega
     have h1b:((hi:Int)==(r:Int))=true:=by rw [beq_iff_eq];omega
     rcases Nat.lt_or_ge (dg zs (j+k)) lo with h2|h2
     ·have h2':¬(lo:Int)≤(dg zs (j+k):Int):=by omega
      have hgo:=jsx HP.out h1 h2;clear h1 h2;obtain ⟨gg,g1⟩:=jea HN.out HZ.out.dig HG.out hgo;obtain ⟨q',hq'⟩:∃x,x=q - 1:=⟨_,rfl⟩;rw [←hq'] at gg;have hqq:IntKind.u64.wrap ((q:Int) - 1)=(q':Int):=jiA q 1 q' g1 HQ.out hq';have hql:q' < q:=by omega
      have HQL:=qh hql;obtain ⟨d',hd'⟩:∃x,x=(r+dg vs (k+1)) % B64:=⟨_,rfl⟩;obtain ⟨e',he'⟩:∃x,x=(r+dg vs (k+1)) / B64:=⟨_,rfl⟩;have a1:=fun w=>jbE _ _ d' e' hd' he' w
      have el:e'≤1:=by
       rw [he'];refine Nat.le_of_lt_succ ((Nat.div_lt_iff_lt_mul ja9).2 ?_);have:=HR.out;have:=U2.out;rw [ja7] at*;omega
      have gg0:Guess zs vs j k q' (r+dg vs (k+1)):=by rw [Nat.mul_zero,Nat.add_zero] at gg;exact gg
      have gg':Guess zs vs j k q' (d'+B64*e'):=by
       rw [hd',he',Nat.mod_add_div];exact gg0
      have GG:=qh gg';have HD':Hid (d' < B64):=by show _ < _;rw [hd'];exact Nat.mod_lt _ ja9
      clear gg gg0 gg' hd' he' hgo hq' g1 hql;go_wp2_with (go_at_call 130;((with_reducible refine (jax _ _ _ _ HQ.out W2.out M1.out M2.out _).mono ?_);rintro e w1 ⟨rfl,rfl⟩))
      have HQQ:=qh hqq;clear hqq;refine ⟨?_,by have:=HQL.out;simp [intOf];omega⟩
      (repeat apply Exists.intro);exact ⟨⟨q',d',e',m,rfl,rfl,rfl,rfl,HD'.out,el,GG.out⟩,rfl⟩
     ·have h2':(lo:Int)≤(dg zs (j+k):Int):=by omega
      have hend:=jsA HP.out h1 h2;have HEND:=qh hend;clear hend h1 h2;go_wp2_with (go_at_call 130;((with_reducible refine (jax _ _ _ _ HQ.out W2.out M1.out M2.out _).mono ?_);rintro e w1 ⟨rfl,rfl⟩))
      go_meet;exact ⟨q,m,rfl,rfl,HG.out.ge,HG.out.lt,jc3 HN.out HV.out.dig HG.out HEND.out⟩
    ·have h1':¬(hi:Int) < (r:Int):=by omega
     have h1b:((hi:Int)==(r:Int))=false:=by rw [beq_eq_false_iff_ne];omega
     have hgo:=jsz (u:=dg zs (j+k)) HP.out W3.out h1;clear h1;obtain ⟨gg,g1⟩:=jea HN.out HZ.out.dig HG.out hgo;obtain ⟨q',hq'⟩:∃x,x=q - 1:=⟨_,rfl⟩;rw [←hq'] at gg;have hqq:IntKind.u64.wrap ((q:Int) - 1)=(q':Int):=jiA q 1 q' g1 HQ.out hq';have hql:q' < q:=by omega
     have HQL:=qh hql;obtain ⟨d',hd'⟩:∃x,x=(r+dg vs (k+1)) % B64:=⟨_,rfl⟩;obtain ⟨e',he'⟩:∃x,x=(r+dg vs (k+1)) / B64:=⟨_,rfl⟩;have a1:=fun w=>jbE _ _ d' e' hd' he' w
     have el:e'≤1:=by
      rw [he'];refine Nat.le_of_lt_succ ((Nat.div_lt_iff_lt_mul ja9).2 ?_);have:=HR.out;have:=U2.out;rw [ja7] at*;omega
     have gg0:Guess zs vs j k q' (r+dg vs (k+1)):=by rw [Nat.mul_zero,Nat.add_zero] at gg;exact gg
     have gg':Guess zs vs j k q' (d'+B64*e'):=by
      rw [hd',he',Nat.mod_add_div];exact gg0
     have GG:=qh gg';have HD':Hid (d' < B64):=by show _ < _;rw [hd'];exact Nat.mod_lt _ ja9
     clear gg gg0 gg' hd' he' hgo hq' g1 hql;go_wp2_with (go_at_call 130;((with_reducible refine (jax _ _ _ _ HQ.out W2.out M1.out M2.out _).mono ?_);rintro e w1 ⟨rfl,rfl⟩))
     have HQQ:=qh hqq;clear hqq;refine ⟨?_,by have:=HQL.out;simp [intOf];omega⟩
     (repeat apply Exists.intro);exact ⟨⟨q',d',e',m,rfl,rfl,rfl,rfl,HD'.out,el,GG.out⟩,rfl⟩
   ·have e1:o=1:=by omega
    subst e1;have hend:=jfs HV.out.dig hG (by omega);have HEND:=qh hend;have HG:=qh hG;clear hend hG hr;go_wp2;go_meet;exact ⟨q,m,rfl,rfl,HG.out.ge,HG.out.lt,jc3 HN.out HV.out.dig HG.out HEND.out⟩
 case rest=>
  obtain ⟨q,nd,rfl,rfl,hg⟩:=hcut;have HGD:=qh hg;clear hg hge HW G HD HE U1 U2 p0 p1 p2 c1 c2
  (try clear a0)
  go_wp2
  go_loopw [11,12,105] (fun b c i wx=>∃(i' b' c':Nat) (ws:List Nat),i'≤k+2∧i= .int .i64 (i':Int)∧b= .int .u64 (b':Int)∧c= .int .u64 (c':Int)∧RowAt w wx g m ws∧TakeInv zs ws vs j q i' b' c') (fun _ _ i _=>k+2 - (intOf i).toNat)
  case atStart=>exact ⟨0,0,0,zs,by omega,rfl,rfl,rfl,HZ.out.drewN nd,TakeInv.start _ _ _ _⟩
  case round=>
   obtain ⟨i,bw,cy,ws,hi,rfl,rfl,rfl,hR,hT⟩:=hrel;rcases Nat.lt_or_ge i (k+2) with hlt|hge
   ·obtain ⟨pl1,pl2⟩:=hR.place (j:=j+i) (by omega);have vl:=hR.other hbl hne (HC.out i hlt);have qB:=HGD.out.lt;have vB:=jac HV.out.dig i;have uB:=jac hR.dig (j+i);have hbw:=hT.bor;have hth:=jm8 (c:=cy) qB vB hT.car;obtain ⟨h,eh⟩:∃x,x=q*dg vs i / B64:=⟨_,rfl⟩;obtain ⟨l,el⟩:∃x,x=q*dg vs i % B64:=⟨_,rfl⟩;rw [←eh,←el] at hth;obtain ⟨d1,ed1⟩:∃x,x=(l+cy) % B64:=⟨_,rfl⟩;obtain ⟨e1,ee1⟩:∃x,x=(l+cy) / B64:=⟨_,rfl⟩;rw [←ed1,←ee1] at hth;have hd1:d1 < B64:=by rw [ed1];exact Nat.mod_lt _ ja9
    obtain ⟨d2,ed2⟩:∃x,x=(dg ws (j+i)+B64 - d1 - bw) % B64:=⟨_,rfl⟩;obtain ⟨e2,ee2⟩:∃x,x=if dg ws (j+i) < d1+bw then 1 else 0:=⟨_,rfl⟩
    have hsd:=jcC (c:=bw) (show dg ws (j+i) < B64 from uB) hd1 hbw;rw [←ed2,←ee2] at hsd;have he2:e2≤1:=by rw [ee2];split <;> omega
    have hd2:d2 < B64:=by rw [ed2];exact Nat.mod_lt _ ja9
    have hS:=hT.step (by rw [HZ.out.len];omega) hth.1 hth.2 hsd he2;have hP:=hR.put (j+i) d2 hd2;have b1:(h:Int)+(e1:Int) < 18446744073709551616:=by have:=hth.2;rw [ja7] at this;omega
    have a1:=fun w=>jby l cy d1 e1 ed1 ee1 w
    have a2:=fun w=>jc9 (dg ws (j+i)) d1 bw d2 e2 hbw ed2 ee2 w
    have i0:(0:Int)≤(i:Int):=by omega
    have i1:(i:Int) < (k:Int)+2:=by omega
    have i2:(i:Int) < (k:Int)+2+1:=by omega
    have QB:=qh qB;have VB:=qh vB;have HS:=qh hS;have HPP:=qh hP;have M1:=qh eh;have M2:=qh el;have HLT:=qh hlt;clear qB vB uB hbw hth eh el ed1 ee1 hd1 ed2 ee2 hsd he2 hd2 hS hP hR hT hlt hi;go_wp2_with (go_at_call 130;((with_reducible refine (jax _ _ _ _ QB.out VB.out M1.out M2.out _).mono ?_);rintro e w1 ⟨rfl,rfl⟩))
    refine ⟨?_,by have:=HLT.out;simp [intOf];omega⟩
    (repeat apply Exists.intro);exact ⟨⟨i+1,e2,h+e1,_,by have:=HLT.out;omega,by go_num,rfl,by simp only [Int.natCast_add],HPP.out,HS.out⟩,rfl⟩
   ·have e:i=k+2:=by omega
    subst e;obtain ⟨pl1,pl2⟩:=hR.place (j:=j+(k+2)) (by omega);have uB:=jac hR.dig (j+(k+2));have hbw:=hT.bor;obtain ⟨d2,ed2⟩:∃x,x=(dg ws (j+(k+2))+B64 - cy - bw) % B64:=⟨_,rfl⟩;obtain ⟨e2,ee2⟩:∃x,x=if dg ws (j+(k+2)) < cy+bw then 1 else 0:=⟨_,rfl⟩
    have hsd:=jcC (c:=bw) (show dg ws (j+(k+2)) < B64 from uB) hT.car hbw;rw [←ed2,←ee2] at hsd;have he2:e2≤1:=by rw [ee2];split <;> omega
    have hd2:d2 < B64:=by rw [ed2];exact Nat.mod_lt _ ja9
    have hP:=hR.put (j+(k+2)) d2 hd2;have a2:=fun w=>jc9 (dg ws (j+(k+2))) cy bw d2 e2 hbw ed2 ee2 w
    have HSD:=qh hsd;have HT:=qh hT;have HR:=qh hR;have HPP:=qh hP;have HD2:=qh hd2;clear uB hbw ed2 ee2 hsd hd2 hP hR hT hi hge;rcases Nat.eq_zero_or_pos e2 with e0|e0
    ·have E0:=qh e0;have b1:((e2:Int)==0)=true:=by rw [beq_iff_eq];omega
     clear e0 he2;go_wp2;go_ret;exact je9 rfl (HT.out.right (by rw [HZ.out.len];exact hm) HGD.out.ge (jkG HN.out) HSD.out E0.out) HPP.out
    ·have e1:e2=1:=by omega
     have E1:=qh e1;have b1:((e2:Int)==0)=false:=by rw [beq_eq_false_iff_ne];omega
     clear e0 he2 e1;go_wp2
     go_loopw [17,157] (fun c i wx=>∃(i' c':Nat) (xs:List Nat),i'≤k+2∧i= .int .i64 (i':Int)∧c= .int .u64 (c':Int)∧RowAt w wx g m xs∧BackInv (ws.set (j+(k+2)) d2) xs vs j i' c') (fun _ i _=>k+2 - (intOf i).toNat)
     case atStart=>exact ⟨0,0,_,by omega,rfl,rfl,HPP.out,BackInv.start _ _ _⟩
     case round=>
      obtain ⟨i,c3,xs,hi,rfl,rfl,hR,hT⟩:=hrel;rcases Nat.lt_or_ge i (k+2) with hlt|hge
      ·obtain ⟨pl1,pl2⟩:=hR.place (j:=j+i) (by omega);have vl:=hR.other hbl hne (HC.out i hlt);have vB:=jac HV.out.dig i;have uB:=jac hR.dig (j+i);have hbw:=hT.car;obtain ⟨d3,ed3⟩:∃x,x=(dg xs (j+i)+dg vs i+c3) % B64:=⟨_,rfl⟩;obtain ⟨e3,ee3⟩:∃x,x=(dg xs (j+i)+dg vs i+c3) / B64:=⟨_,rfl⟩;have hd3:d3 < B64:=by rw [ed3];exact Nat.mod_lt _ ja9
       have hsd:d3+B64*e3=dg xs (j+i)+dg vs i+c3:=by rw [ed3,ee3,Nat.mod_add_div]
       have he3:e3≤1:=by rw [ee3];exact jex uB vB hbw
       have hS:=hT.step (by rw [List.length_set,HT.out.len,HZ.out.len];omega) hsd he3;have hP:=hR.put (j+i) d3 hd3;have a1:=fun w=>je4 (dg xs (j+i)) (dg vs i) c3 d3 e3 hbw ed3 ee3 w
       have i0:(0:Int)≤(i:Int):=by omega
       have i1:(i:Int) < (k:Int)+2:=by omega
       have i2:(i:Int) < (k:Int)+2+1:=by omega
       have HS:=qh hS;have HP3:=qh hP;have HLT:=qh hlt;clear vB uB hbw ed3 ee3 hd3 hsd he3 hS hP hR hT hlt hi;go_wp2
       go_region
       go_wp2;exact ⟨⟨i+1,e3,_,by have:=HLT.out;omega,by go_num,rfl,HP3.out.drewN 1,HS.out⟩,by have:=HLT.out;simp [intOf];omega⟩
      ·have e:i=k+2:=by omega
       subst e;obtain ⟨pl1,pl2⟩:=hR.place (j:=j+(k+2)) (by omega);have hq0:=HT.out.q_pos (fun i=>jac HR.out.dig i) HSD.out E1.out HD2.out;obtain ⟨w1,w2⟩:=HT.out.wrong (by rw [HZ.out.len];exact hm) (jkG HN.out) HV.out.dig (fun i=>jac hR.dig i) (fun i=>jac HR.out.dig i) HGD.out.end_ hq0 HSD.out E1.out HD2.out hT;have ed:dg xs (j+(k+2))=d2:=by rw [hT.out _ (by omega),jaY (by rw [HT.out.len,HZ.out.len];exact hm)]
       have a3:=jpD (dg xs (j+(k+2))) c3 0 (by rw [ed];exact w1.symm);have hP:=hR.put (j+(k+2)) 0 ja9;obtain ⟨q',hq'⟩:∃x,x=q - 1:=⟨_,rfl⟩;rw [←hq'] at w2;have hqq:IntKind.u64.wrap ((q:Int) - 1)=(q':Int):=jiA q 1 q' hq0 HGD.out.lt hq';have W2:=qh w2;have HP3:=qh hP;clear w1 w2 ed hP hR hT hq' hi hge hq0;go_wp2;go_ret;exact je9 rfl W2.out HP3.out






theorem jiQ (hi lo y q r:Nat) (hh:hi < y) (hlo:lo < B64) (hy:y < B64) (hq:q=(hi*B64+lo) / y) (hr:r=(hi*B64+lo) % y) (W:World) (n:Nat):
  Calls Tryz.prog 201 #[.int .u64 (hi:Int), .int .u64 (lo:Int), .int .u64 (y:Int)] (W.drewN n) fun e w''=>e= .returned (.tuple #[.int .u64 (q:Int), .int .u64 (r:Int)])∧∃m,w''=W.drewN m:=
 (jdq hi lo y hh hlo hy _).mono fun e w' ⟨he,m,hm⟩=>⟨by rw [he,hq,hr],n+m,by rw [hm,World.drewN_drewN]⟩

theorem jgQ (hi lo y q r:Nat) (hh:hi < y) (hlo:lo < B64) (hy:y < B64) (hq:q=(hi*B64+lo) / y) (hr:r=(hi*B64+lo) % y) (W:World) (a n:Nat):
  Calls Tryz.prog 201 #[.int .u64 (hi:Int), .int .u64 (lo:Int), .int .u64 (y:Int)] (W.drewN (a+n)) fun e w''=>e= .returned (.tuple #[.int .u64 (q:Int), .int .u64 (r:Int)])∧∃m,w''=W.drewN (a+m):=
 (jdq hi lo y hh hlo hy _).mono fun e w' ⟨he,m,hm⟩=>⟨by rw [he,hq,hr],n+m,by rw [hm,World.drewN_drewN,Nat.add_assoc]⟩

theorem jnu (g j k m cu cv bv ov:Nat) (zs vs:List Nat) (w:World) (hz:RowAt w w g m zs) (hm:j+(k+2) < m) (hm2:m < 1099511627776) (hv:Wd w (some ⟨bv,ov,none⟩) (k+2) vs) (hne:bv≠g) (hN:StepNums zs vs j k)
  (he:dg zs (j+(k+2)) < dg vs (k+1)):
  Calls Tryz.prog 204 #[.slice (some ⟨g,j,none⟩) (k+2+1) cu, .slice (some ⟨bv,ov,none⟩) (k+2) cv] w (jdv zs vs g j (k+2) m w):=by
 obtain ⟨b0,o0,e0,hbl,hcell⟩:=hv.at_ (by omega)
 injection e0 with e0
 injection e0 with e1 e2
 subst e1;subst e2;obtain ⟨p0,_⟩:=hz.place (j:=j+(k+2)) (by omega);obtain ⟨p1,_⟩:=hz.place (j:=j+(k+1)) (by omega);obtain ⟨p2,_⟩:=hz.place (j:=j+k) (by omega);have c1:=hcell (k+1) (by omega);have c2:=hcell k (by omega);have HC:=qh hcell;have u1:=jac hz.dig (j+(k+1));have u2:=jac hv.dig (k+1);have HZ:=qh hz;have HV:=qh hv;have HN:=qh hN;obtain ⟨d0,hd⟩:∃q,q=(dg zs (j+(k+2))*B64+dg zs (j+(k+1))) / dg vs (k+1):=⟨_,rfl⟩;obtain ⟨d,hee⟩:∃q,q=(dg zs (j+(k+2))*B64+dg zs (j+(k+1))) % dg vs (k+1):=⟨_,rfl⟩;obtain ⟨e,he0⟩:∃q:Nat,q=0:=⟨_,rfl⟩;have G0:Guess zs vs j k d0 (d+B64*e):=by rw [he0];exact jmN hN hz.dig hv.dig he hd hee
 have hdl:d < B64:=by rw [hee];exact Nat.lt_trans (Nat.mod_lt _ hN.pos) u2
 have a0:=fun W n=>jiQ (dg zs (j+(k+2))) (dg zs (j+(k+1))) (dg vs (k+1)) d0 d he u1 u2 hd hee W n
 have A0:=qh a0;have a1:=fun W a n=>jgQ (dg zs (j+(k+2))) (dg zs (j+(k+1))) (dg vs (k+1)) d0 d he u1 u2 hd hee W a n
 have A1:=qh a1;have HD:=qh hdl;have HE:=qh he0;have G:=qh G0;have hge:decide (dg vs (k+1)≤dg zs (j+(k+2)))=false:=by rw [decide_eq_false_iff_not];omega
 have U1:=qh u1;have U2:=qh u2;clear hcell hz hv hN hd hee G0 he u1 u2 a0 a1 he0 hdl;go_enter Tryz.func204,Tryz.ntmps204;go_wp2
 go_quiet (fail)
 go_wp2
 go_quiet ((go_at_call 201;first|exact A1.out _ _ _|exact A0.out _ _))
 go_upto_block 0 with (fail)
 generalize hwq:World.drewN _ _=wq
 have HW:∃n,wq=w.drewN n:=by
  rw [←hwq]
  (first
    | exact ⟨_,rfl⟩
    | exact ⟨_,World.drewN_drewN _ _ _⟩
    | exact ⟨_,by rw [World.drewN_drewN]⟩)
 clear hwq;have HG0:Hid (Guess zs vs j k d0 (d+B64*0)):=by rw [HE.out] at G;exact G
 go_cut [6] (fun s6 wx=>∃q m:Nat,s6= .int .u64 (q:Int)∧wx=w.drewN m∧Guessed zs vs j k q)
 case first=>
  (try clear hk0 hkm)
  go_wp2
  go_loopw [6,7,8] (fun a b c wx=>∃q r o m:Nat,a= .int .u64 (q:Int)∧b= .int .u64 (r:Int)∧c= .int .u64 (o:Int)∧wx=w.drewN m∧r < B64∧o≤1∧Guess zs vs j k q (r+B64*o)) (fun a _ c _=>2*(intOf a).toNat+1 - (intOf c).toNat)
  case atStart=>
   obtain ⟨n,hn⟩:=HW;exact ⟨d0,d,0,n,rfl,rfl,rfl,hn,HD.out,by omega,HG0.out⟩
  case round=>
   obtain ⟨q,r,o,m,rfl,rfl,rfl,rfl,hr,ho,hG⟩:=hrel;rcases Nat.eq_zero_or_pos o with h0|h0
   ·subst h0;have w2:=jac HV.out.dig k;have w3:=jac HZ.out.dig (j+k);have W2:=qh w2;have W3:=qh w3;clear w2 w3;have hq:=hG.lt;obtain ⟨hi,ehi⟩:∃x,x=q*dg vs k / B64:=⟨_,rfl⟩;obtain ⟨lo,elo⟩:∃x,x=q*dg vs k % B64:=⟨_,rfl⟩;have hprod:hi*B64+lo=q*dg vs k:=by rw [ehi,elo];exact Nat.div_add_mod' _ _
    have hlo:lo < B64:=by rw [elo];exact Nat.mod_lt _ ja9
    have M1:=qh ehi;have M2:=qh elo;have HQ:=qh hq;have HG:=qh hG;have HR:=qh hr;have HP:=qh hprod;have HLO:=qh hlo;clear ehi elo hG hr hprod hlo hq;rcases Nat.lt_trichotomy hi r with h1|h1|h1
    ·have h1':(hi:Int) < (r:Int):=by omega
     have hend:=jsD (u:=dg zs (j+k)) HP.out HLO.out h1;have HEND:=qh hend;clear hend h1;go_wp2_with (go_at_call 130;((with_reducible refine (jax _ _ _ _ HQ.out W2.out M1.out M2.out _).mono ?_);rintro e w1 ⟨rfl,rfl⟩))
     go_meet;exact ⟨q,m,rfl,rfl,HG.out.ge,HG.out.lt,jc3 HN.out HV.out.dig HG.out HEND.out⟩
    ·have h1':¬(hi:Int) < (r:Int):=by omega
     have h1b:((hi:Int)==(r:Int))=true:=by rw [beq_iff_eq];omega
     rcases Nat.lt_or_ge (dg zs (j+k)) lo with h2|h2
     ·have h2':¬(lo:Int)≤(dg zs (j+k):Int):=by omega
      have hgo:=jsx HP.out h1 h2;clear h1 h2;obtain ⟨gg,g1⟩:=jea HN.out HZ.out.dig HG.out hgo;obtain ⟨q',hq'⟩:∃x,x=q - 1:=⟨_,rfl⟩;rw [←hq'] at gg;have hqq:IntKind.u64.wrap ((q:Int) - 1)=(q':Int):=jiA q 1 q' g1 HQ.out hq';have hql:q' < q:=by omega
      have HQL:=qh hql;obtain ⟨d',hd'⟩:∃x,x=(r+dg vs (k+1)) % B64:=⟨_,rfl⟩;obtain ⟨e',he'⟩:∃x,x=(r+dg vs (k+1)) / B64:=⟨_,rfl⟩;have a1:=fun w=>jbE _ _ d' e' hd' he' w
      have el:e'≤1:=by
       rw [he'];refine Nat.le_of_lt_succ ((Nat.div_lt_iff_lt_mul ja9).2 ?_);have:=HR.out;have:=U2.out;rw [ja7] at*;omega
      have gg0:Guess zs vs j k q' (r+dg vs (k+1)):=by rw [Nat.mul_zero,Nat.add_zero] at gg;exact gg
      have gg':Guess zs vs j k q' (d'+B64*e'):=by
       rw [hd',he',Nat.mod_add_div];exact gg0
      have GG:=qh gg';have HD':Hid (d' < B64):=by show _ < _;rw [hd'];exact Nat.mod_lt _ ja9
      clear gg gg0 gg' hd' he' hgo hq' g1 hql;go_wp2_with (go_at_call 130;((with_reducible refine (jax _ _ _ _ HQ.out W2.out M1.out M2.out _).mono ?_);rintro e w1 ⟨rfl,rfl⟩))
      have HQQ:=qh hqq;clear hqq;refine ⟨?_,by have:=HQL.out;simp [intOf];omega⟩
      (repeat apply Exists.intro);exact ⟨⟨q',d',e',m,rfl,rfl,rfl,rfl,HD'.out,el,GG.out⟩,rfl⟩
     ·have h2':(lo:Int)≤(dg zs (j+k):Int):=by omega
      have hend:=jsA HP.out h1 h2;have HEND:=qh hend;clear hend h1 h2;go_wp2_with (go_at_call 130;((with_reducible refine (jax _ _ _ _ HQ.out W2.out M1.out M2.out _).mono ?_);rintro e w1 ⟨rfl,rfl⟩))
      go_meet;exact ⟨q,m,rfl,rfl,HG.out.ge,HG.out.lt,jc3 HN.out HV.out.dig HG.out HEND.out⟩
    ·have h1':¬(hi:Int) < (r:Int):=by omega
     have h1b:((hi:Int)==(r:Int))=false:=by rw [beq_eq_false_iff_ne];omega
     have hgo:=jsz (u:=dg zs (j+k)) HP.out W3.out h1;clear h1;obtain ⟨gg,g1⟩:=jea HN.out HZ.out.dig HG.out hgo;obtain ⟨q',hq'⟩:∃x,x=q - 1:=⟨_,rfl⟩;rw [←hq'] at gg;have hqq:IntKind.u64.wrap ((q:Int) - 1)=(q':Int):=jiA q 1 q' g1 HQ.out hq';have hql:q' < q:=by omega
     have HQL:=qh hql;obtain ⟨d',hd'⟩:∃x,x=(r+dg vs (k+1)) % B64:=⟨_,rfl⟩;obtain ⟨e',he'⟩:∃x,x=(r+dg vs (k+1)) / B64:=⟨_,rfl⟩;have a1:=fun w=>jbE _ _ d' e' hd' he' w
     have el:e'≤1:=by
      rw [he'];refine Nat.le_of_lt_succ ((Nat.div_lt_iff_lt_mul ja9).2 ?_);have:=HR.out;have:=U2.out;rw [ja7] at*;omega
     have gg0:Guess zs vs j k q' (r+dg vs (k+1)):=by rw [Nat.mul_zero,Nat.add_zero] at gg;exact gg
     have gg':Guess zs vs j k q' (d'+B64*e'):=by
      rw [hd',he',Nat.mod_add_div];exact gg0
     have GG:=qh gg';have HD':Hid (d' < B64):=by show _ < _;rw [hd'];exact Nat.mod_lt _ ja9
     clear gg gg0 gg' hd' he' hgo hq' g1 hql;go_wp2_with (go_at_call 130;((with_reducible refine (jax _ _ _ _ HQ.out W2.out M1.out M2.out _).mono ?_);rintro e w1 ⟨rfl,rfl⟩))
     have HQQ:=qh hqq;clear hqq;refine ⟨?_,by have:=HQL.out;simp [intOf];omega⟩
     (repeat apply Exists.intro);exact ⟨⟨q',d',e',m,rfl,rfl,rfl,rfl,HD'.out,el,GG.out⟩,rfl⟩
   ·have e1:o=1:=by omega
    subst e1;have hend:=jfs HV.out.dig hG (by omega);have HEND:=qh hend;have HG:=qh hG;clear hend hG hr;go_wp2;go_meet;exact ⟨q,m,rfl,rfl,HG.out.ge,HG.out.lt,jc3 HN.out HV.out.dig HG.out HEND.out⟩
 case rest=>
  obtain ⟨q,nd,rfl,rfl,hg⟩:=hcut;have HGD:=qh hg;clear hg hge HW G HD HE U1 U2 p0 p1 p2 c1 c2
  (try clear a0)
  go_wp2
  go_loopw [11,12,105] (fun b c i wx=>∃(i' b' c':Nat) (ws:List Nat),i'≤k+2∧i= .int .i64 (i':Int)∧b= .int .u64 (b':Int)∧c= .int .u64 (c':Int)∧RowAt w wx g m ws∧TakeInv zs ws vs j q i' b' c') (fun _ _ i _=>k+2 - (intOf i).toNat)
  case atStart=>exact ⟨0,0,0,zs,by omega,rfl,rfl,rfl,HZ.out.drewN nd,TakeInv.start _ _ _ _⟩
  case round=>
   obtain ⟨i,bw,cy,ws,hi,rfl,rfl,rfl,hR,hT⟩:=hrel;rcases Nat.lt_or_ge i (k+2) with hlt|hge
   ·obtain ⟨pl1,pl2⟩:=hR.place (j:=j+i) (by omega);have vl:=hR.other hbl hne (HC.out i hlt);have qB:=HGD.out.lt;have vB:=jac HV.out.dig i;have uB:=jac hR.dig (j+i);have hbw:=hT.bor;have hth:=jm8 (c:=cy) qB vB hT.car;obtain ⟨h,eh⟩:∃x,x=q*dg vs i / B64:=⟨_,rfl⟩;obtain ⟨l,el⟩:∃x,x=q*dg vs i % B64:=⟨_,rfl⟩;rw [←eh,←el] at hth;obtain ⟨d1,ed1⟩:∃x,x=(l+cy) % B64:=⟨_,rfl⟩;obtain ⟨e1,ee1⟩:∃x,x=(l+cy) / B64:=⟨_,rfl⟩;rw [←ed1,←ee1] at hth;have hd1:d1 < B64:=by rw [ed1];exact Nat.mod_lt _ ja9
    obtain ⟨d2,ed2⟩:∃x,x=(dg ws (j+i)+B64 - d1 - bw) % B64:=⟨_,rfl⟩;obtain ⟨e2,ee2⟩:∃x,x=if dg ws (j+i) < d1+bw then 1 else 0:=⟨_,rfl⟩
    have hsd:=jcC (c:=bw) (show dg ws (j+i) < B64 from uB) hd1 hbw;rw [←ed2,←ee2] at hsd;have he2:e2≤1:=by rw [ee2];split <;> omega
    have hd2:d2 < B64:=by rw [ed2];exact Nat.mod_lt _ ja9
    have hS:=hT.step (by rw [HZ.out.len];omega) hth.1 hth.2 hsd he2;have hP:=hR.put (j+i) d2 hd2;have b1:(h:Int)+(e1:Int) < 18446744073709551616:=by have:=hth.2;rw [ja7] at this;omega
    have a1:=fun w=>jby l cy d1 e1 ed1 ee1 w
    have a2:=fun w=>jc9 (dg ws (j+i)) d1 bw d2 e2 hbw ed2 ee2 w
    have i0:(0:Int)≤(i:Int):=by omega
    have i1:(i:Int) < (k:Int)+2:=by omega
    have i2:(i:Int) < (k:Int)+2+1:=by omega
    have QB:=qh qB;have VB:=qh vB;have HS:=qh hS;have HPP:=qh hP;have M1:=qh eh;have M2:=qh el;have HLT:=qh hlt;clear qB vB uB hbw hth eh el ed1 ee1 hd1 ed2 ee2 hsd he2 hd2 hS hP hR hT hlt hi;go_wp2_with (go_at_call 130;((with_reducible refine (jax _ _ _ _ QB.out VB.out M1.out M2.out _).mono ?_);rintro e w1 ⟨rfl,rfl⟩))
    refine ⟨?_,by have:=HLT.out;simp [intOf];omega⟩
    (repeat apply Exists.intro);exact ⟨⟨i+1,e2,h+e1,_,by have:=HLT.out;omega,by go_num,rfl,by simp only [Int.natCast_add],HPP.out,HS.out⟩,rfl⟩
   ·have e:i=k+2:=by omega
    subst e;obtain ⟨pl1,pl2⟩:=hR.place (j:=j+(k+2)) (by omega);have uB:=jac hR.dig (j+(k+2));have hbw:=hT.bor;obtain ⟨d2,ed2⟩:∃x,x=(dg ws (j+(k+2))+B64 - cy - bw) % B64:=⟨_,rfl⟩;obtain ⟨e2,ee2⟩:∃x,x=if dg ws (j+(k+2)) < cy+bw then 1 else 0:=⟨_,rfl⟩
    have hsd:=jcC (c:=bw) (show dg ws (j+(k+2)) < B64 from uB) hT.car hbw;rw [←ed2,←ee2] at hsd;have he2:e2≤1:=by rw [ee2];split <;> omega
    have hd2:d2 < B64:=by rw [ed2];exact Nat.mod_lt _ ja9
    have hP:=hR.put (j+(k+2)) d2 hd2;have a2:=fun w=>jc9 (dg ws (j+(k+2))) cy bw d2 e2 hbw ed2 ee2 w
    have HSD:=qh hsd;have HT:=qh hT;have HR:=qh hR;have HPP:=qh hP;have HD2:=qh hd2;clear uB hbw ed2 ee2 hsd hd2 hP hR hT hi hge;rcases Nat.eq_zero_or_pos e2 with e0|e0
    ·have E0:=qh e0;have b1:((e2:Int)==0)=true:=by rw [beq_iff_eq];omega
     clear e0 he2;go_wp2;go_ret;exact je9 rfl (HT.out.right (by rw [HZ.out.len];exact hm) HGD.out.ge (jkG HN.out) HSD.out E0.out) HPP.out
    ·have e1:e2=1:=by omega
     have E1:=qh e1;have b1:((e2:Int)==0)=false:=by rw [beq_eq_false_iff_ne];omega
     clear e0 he2 e1;go_wp2
     go_loopw [17,157] (fun c i wx=>∃(i' c':Nat) (xs:List Nat),i'≤k+2∧i= .int .i64 (i':Int)∧c= .int .u64 (c':Int)∧RowAt w wx g m xs∧BackInv (ws.set (j+(k+2)) d2) xs vs j i' c') (fun _ i _=>k+2 - (intOf i).toNat)
     case atStart=>exact ⟨0,0,_,by omega,rfl,rfl,HPP.out,BackInv.start _ _ _⟩
     case round=>
      obtain ⟨i,c3,xs,hi,rfl,rfl,hR,hT⟩:=hrel;rcases Nat.lt_or_ge i (k+2) with hlt|hge
      ·obtain ⟨pl1,pl2⟩:=hR.place (j:=j+i) (by omega);have vl:=hR.other hbl hne (HC.out i hlt);have vB:=jac HV.out.dig i;have uB:=jac hR.dig (j+i);have hbw:=hT.car;obtain ⟨d3,ed3⟩:∃x,x=(dg xs (j+i)+dg vs i+c3) % B64:=⟨_,rfl⟩;obtain ⟨e3,ee3⟩:∃x,x=(dg xs (j+i)+dg vs i+c3) / B64:=⟨_,rfl⟩;have hd3:d3 < B64:=by rw [ed3];exact Nat.mod_lt _ ja9
       have hsd:d3+B64*e3=dg xs (j+i)+dg vs i+c3:=by rw [ed3,ee3,Nat.mod_add_div]
       have he3:e3≤1:=by rw [ee3];exact jex uB vB hbw
       have hS:=hT.step (by rw [List.length_set,HT.out.len,HZ.out.len];omega) hsd he3;have hP:=hR.put (j+i) d3 hd3;have a1:=fun w=>je4 (dg xs (j+i)) (dg vs i) c3 d3 e3 hbw ed3 ee3 w
       have i0:(0:Int)≤(i:Int):=by omega
       have i1:(i:Int) < (k:Int)+2:=by omega
       have i2:(i:Int) < (k:Int)+2+1:=by omega
       have HS:=qh hS;have HP3:=qh hP;have HLT:=qh hlt;clear vB uB hbw ed3 ee3 hd3 hsd he3 hS hP hR hT hlt hi;go_wp2
       go_region
       go_wp2;exact ⟨⟨i+1,e3,_,by have:=HLT.out;omega,by go_num,rfl,HP3.out.drewN 1,HS.out⟩,by have:=HLT.out;simp [intOf];omega⟩
      ·have e:i=k+2:=by omega
       subst e;obtain ⟨pl1,pl2⟩:=hR.place (j:=j+(k+2)) (by omega);have hq0:=HT.out.q_pos (fun i=>jac HR.out.dig i) HSD.out E1.out HD2.out;obtain ⟨w1,w2⟩:=HT.out.wrong (by rw [HZ.out.len];exact hm) (jkG HN.out) HV.out.dig (fun i=>jac hR.dig i) (fun i=>jac HR.out.dig i) HGD.out.end_ hq0 HSD.out E1.out HD2.out hT;have ed:dg xs (j+(k+2))=d2:=by rw [hT.out _ (by omega),jaY (by rw [HT.out.len,HZ.out.len];exact hm)]
       have a3:=jpD (dg xs (j+(k+2))) c3 0 (by rw [ed];exact w1.symm);have hP:=hR.put (j+(k+2)) 0 ja9;obtain ⟨q',hq'⟩:∃x,x=q - 1:=⟨_,rfl⟩;rw [←hq'] at w2;have hqq:IntKind.u64.wrap ((q:Int) - 1)=(q':Int):=jiA q 1 q' hq0 HGD.out.lt hq';have W2:=qh w2;have HP3:=qh hP;clear w1 w2 ed hP hR hT hq' hi hge hq0;go_wp2;go_ret;exact je9 rfl W2.out HP3.out

theorem joi (g j k m cu cv bv ov:Nat) (zs vs:List Nat) (w:World) (hz:RowAt w w g m zs) (hm:j+(k+2) < m) (hm2:m < 1099511627776) (hv:Wd w (some ⟨bv,ov,none⟩) (k+2) vs) (hne:bv≠g) (hN:StepNums zs vs j k):
  Calls Tryz.prog 204 #[.slice (some ⟨g,j,none⟩) (k+2+1) cu, .slice (some ⟨bv,ov,none⟩) (k+2) cv] w (jdv zs vs g j (k+2) m w):=by
 have h:=jrg hN hv.dig;rcases Nat.lt_or_ge (dg zs (j+(k+2))) (dg vs (k+1)) with h1|h1
 ·exact jnu g j k m cu cv bv ov zs vs w hz hm hm2 hv hne hN h1
 ·exact jlR g j k m cu cv bv ov zs vs w hz hm hm2 hv hne hN (by omega)
end Go.Proofs.YteokfcjdfjhhhaaGreatDoor
