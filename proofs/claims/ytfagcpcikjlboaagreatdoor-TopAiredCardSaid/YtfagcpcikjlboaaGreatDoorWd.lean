/- Parts. -/
import Derived.Test.YtfagcpcikjlboaaGreatDoorWaG
import Derived.Test.YtfagcpcikjlboaaGreatDoorShelf
set_option linter.all false
set_option maxRecDepth 100000
set_option maxHeartbeats 8000000
namespace Go.Proofs.YtfagcpcikjlboaaGreatDoor
open Go Go.RowKit Go.Proofs.Tryz

theorem jbB {l:List Nat} {j:Nat} (hj:j < l.length) (d:Nat):Pos.nv B64 (l.set j d)+B64^j*dg l j=Pos.nv B64 l+B64^j*d:=by
 rw [gd hj];exact Pos.nv_set hj
def jis (l:List Nat):Array Value:=(l.map fun d:Nat=>Value.int .u64 (d:Int)).toArray
theorem jcs (l:List Nat) (j d:Nat):(jis l).setIfInBounds j (.int .u64 (d:Int))=jis (l.set j d):=by
 unfold jis;rw [List.setIfInBounds_toArray,List.map_set]
theorem jgC {l:List Nat} {j:Nat} (h:j < l.length):(jis l)[j]? =some (.int .u64 ((dg l j:Nat):Int)):=by
 simp [jis,h,dg]
theorem jcf (m:Nat):jfH [] m=jis (List.replicate m 0):=by simp [jfH,jis]

structure MulInv (w wr:World) (g m:Nat) (zs:List Nat):Prop where
 len:zs.length=m
 dig:Pos.Dig B64 zs
 blk:Blk wr g 168 (jis zs)
 bel:Below w.heap.size w wr
 own:w.heap.size≤g
theorem MulInv.put {w wr:World} {g m:Nat} {zs:List Nat} (h:MulInv w wr g m zs) (j d:Nat) (hd:d < B64):MulInv w (wr.setCell ⟨g,j,none⟩ (.int .u64 (d:Int))) g m (zs.set j d) where
 len:=by rw [List.length_set,h.len]
 dig:=h.dig.set j hd
 blk:=by have:=h.blk.set_ j (.int .u64 (d:Int));rw [jcs] at this;exact this
 bel:=h.bel.setCell h.own _
 own:=h.own
theorem MulInv.place {w wr:World} {g m j:Nat} {zs:List Nat} (h:MulInv w wr g m zs) (hj:j < m):
  wr.cell? ⟨g,j,none⟩=some (.int .u64 ((dg zs j:Nat):Int))∧wr.frozen? ⟨g,j,none⟩=false:=by
 refine ⟨?_,h.blk.frozen j⟩;rw [h.blk.cell,jgC (by rw [h.len];exact hj)]

theorem jjY {b x y z c:Nat} (hx:x < b) (hy:y < b) (hz:z < b) (hc:c < b):
  ((x*y % b+z) % b+c) % b+b*(x*y / b+(x*y % b+z) / b+((x*y % b+z) % b+c) / b)=x*y+z+c∧
    x*y / b+(x*y % b+z) / b+((x*y % b+z) % b+c) / b < b:=by
 have h1:=Nat.mod_add_div (x*y) b;have h2:=Nat.mod_add_div (x*y % b+z) b;have h3:=Nat.mod_add_div ((x*y % b+z) % b+c) b
 have e:((x*y % b+z) % b+c) % b+b*(x*y / b+(x*y % b+z) / b+((x*y % b+z) % b+c) / b)=x*y+z+c:=by
  rw [Nat.mul_add,Nat.mul_add];omega
 refine ⟨e, ?_⟩;obtain ⟨k,rfl⟩:∃k,b=k+1:=⟨b - 1,by omega⟩;have h4:x*y≤k*k:=Nat.mul_le_mul (by omega) (by omega);generalize x*y / (k+1)+(x*y % (k+1)+z) / (k+1)+((x*y % (k+1)+z) % (k+1)+c) / (k+1)=q at e ⊢;have h5:(k+1)*q≤k*k+k+k:=by omega
 have h6:k*k+k+k < (k+1)*(k+1):=by rw [Nat.add_mul,Nat.mul_add];omega
 exact Nat.lt_of_mul_lt_mul_left (Nat.lt_of_le_of_lt h5 h6)

theorem jll (x y:Nat) (hx:x < B64) (hy:y < B64) (w:World):
  Calls prog 127 #[.int .u64 x, .int .u64 y] w fun e w'=>e= .returned (.tuple #[.int .u64 ((x*y / B64:Nat):Int), .int .u64 ((x*y % B64:Nat):Int)])∧w'=w:=
 Tryz.bits_Mul64 x y hx hy w

theorem jam (x y h l:Nat) (hx:x < B64) (hy:y < B64) (eh:h=x*y / B64) (el:l=x*y % B64) (w:World):
  Calls prog 127 #[.int .u64 x, .int .u64 y] w fun e w'=>e= .returned (.tuple #[.int .u64 (h:Int), .int .u64 (l:Int)])∧w'=w:=by
 subst eh;subst el;exact jll x y hx hy w
theorem jbj (x c d e:Nat) (hd:d=(x+c) % B64) (he:e=(x+c) / B64) (w:World):
  (callFunc 166 #[.int .u64 x, .int .u64 c, .int .u64 0]).run prog w= .ok (.value (.tuple #[.int .u64 (d:Int), .int .u64 (e:Int)])) w:=by
 subst hd;subst he;exact jbG x c 0 (by omega) w
structure MulIn (w wr:World) (g i j c:Nat) (xs ys zs:List Nat):Prop where
 inv:MulInv w wr g (xs.length+ys.length) zs
 car:c < B64
 far:∀p,i+ys.length≤p→dg zs p=0
 val:Pos.nv B64 zs+B64^(i+j)*c=Pos.nv B64 (xs.take i)*Pos.nv B64 ys+B64^i*dg xs i*Pos.nv B64 (ys.take j)

theorem jai {l:List Nat} {p q d:Nat} (h:p≠q):dg (l.set p d) q=dg l q:=by
 simp [dg,List.getD_eq_getElem?_getD,List.getElem?_set,h]

theorem MulIn.step {w wr:World} {g i j c:Nat} {xs ys zs:List Nat} (h:MulIn w wr g i j c xs ys zs) (hi:i < xs.length) (hj:j < ys.length) {d e:Nat} (hd:d < B64) (he:e < B64)
  (hde:d+B64*e=dg xs i*dg ys j+dg zs (i+j)+c):
  MulIn w (wr.setCell ⟨g,i+j,none⟩ (.int .u64 (d:Int))) g i (j+1) e xs ys (zs.set (i+j) d) where
 inv:=h.inv.put _ _ hd
 car:=he
 far:=fun p hp=>by rw [jai (by omega)];exact h.far p hp
 val:=by
  have h1:=jbB (l:=zs) (j:=i+j) (by rw [h.inv.len];omega) d;have h2:=h.val;rw [jaB,Nat.mul_add,show i+(j+1)=(i+j)+1 from rfl,Nat.pow_succ];have h3:=congrArg (B64^(i+j)* ·) hde;simp only [Nat.mul_add] at h3
  have h4:B64^i*dg xs i*(B64^j*dg ys j)=B64^(i+j)*(dg xs i*dg ys j):=by
   rw [Nat.pow_add,Nat.mul_assoc,Nat.mul_assoc,Nat.mul_left_comm (dg xs i)]
  have h5:B64^(i+j)*B64*e=B64^(i+j)*(B64*e):=Nat.mul_assoc _ _ _;omega

structure MulOut (w wr:World) (g i:Nat) (xs ys zs:List Nat):Prop where
 inv:MulInv w wr g (xs.length+ys.length) zs
 far:∀p,i+ys.length≤p→dg zs p=0
 val:Pos.nv B64 zs=Pos.nv B64 (xs.take i)*Pos.nv B64 ys

theorem jdi (m p:Nat):dg (List.replicate m 0) p=0:=by
 simp only [dg,List.getD_eq_getElem?_getD,List.getElem?_replicate];split <;> rfl
theorem MulOut.start (w:World) (xs ys:List Nat):MulOut w (w.alloc (.cells (jfH [] (xs.length+ys.length)) 168)) w.heap.size 0 xs ys (List.replicate (xs.length+ys.length) 0) where
 inv:={
  len:=by simp
  dig:=fun d hd=>by rw [List.mem_replicate] at hd;rw [hd.2];exact ja6
  blk:=by rw [jcf];exact Blk.new _ _ _
  bel:=(Below.refl _ _).alloc (Nat.le_refl _) _
  own:=Nat.le_refl _ }
 far:=fun p _=>jdi _ p
 val:=by rw [Pos.nv_zeros];simp [Pos.nv]
theorem MulOut.begin {w wr:World} {g i:Nat} {xs ys zs:List Nat} (h:MulOut w wr g i xs ys zs):MulIn w wr g i 0 0 xs ys zs where
 inv:=h.inv
 car:=ja6
 far:=h.far
 val:=by rw [h.val];simp [Pos.nv]
theorem MulIn.finish {w wr:World} {g i c:Nat} {xs ys zs:List Nat} (h:MulIn w wr g i ys.length c xs ys zs) (hi:i < xs.length):
  MulOut w (wr.setCell ⟨g,i+ys.length,none⟩ (.int .u64 (c:Int))) g (i+1) xs ys (zs.set (i+ys.length) c) where
 inv:=h.inv.put _ _ h.car
 far:=fun p hp=>by rw [jai (by omega)];exact h.far p (by omega)
 val:=by
  have h1:=jbB (l:=zs) (j:=i+ys.length) (by rw [h.inv.len];omega) c;rw [h.far _ (Nat.le_refl _),Nat.mul_zero] at h1;have h2:=h.val;rw [List.take_length] at h2;rw [jaB,Nat.add_mul];omega

theorem jhV (A A':Option Addr) (n n' c c':Nat) (ds es:List Nat) (w:World) (h:Wd w A n ds) (h':Wd w A' n' es) (hn:n < 274877906944) (hn':n' < 274877906944):
  Calls prog 131 #[.slice A n c, .slice A' n' c'] w (jdK (Pos.nv B64 ds*Pos.nv B64 es) w):=by
 obtain rfl:=h.len;obtain rfl:=h'.len;have HD:=qh h;have HE:=qh h';clear h h';have hmk:=fun W=>jbs (ds.length+es.length) (by omega) W
 simp only [Int.natCast_add] at hmk;go_enter func131,ntmps131;go_wp2
 go_loopw [22] (fun i wr=>∃(k:Nat) (zs:List Nat),k≤ds.length∧i= .int .i64 k∧MulOut w wr w.heap.size k ds es zs) (fun i _=>ds.length - (intOf i).toNat)
 case atStart=>exact ⟨0,_,Nat.zero_le _,rfl,MulOut.start _ _ _⟩
 case round=>
  obtain ⟨k,zs,hk,rfl,hI⟩:=hrel;by_cases hlt:k < ds.length
  ·have hB:=hI.begin;obtain ⟨b,o,rfl,hb,hcell⟩:=(HD.o.below hI.inv.bel).at_ (by omega);have hcl:=hcell k hlt;have hk0:(0:Int)≤(k:Int):=by omega
   have hk1:(k:Int) < (ds.length:Int):=by omega
   have HB:=qh hB;have HI:=qh hI;clear hcell hB hI;go_wp2
   go_loopw [8,29] (fun cr j wr2=>∃(j' c:Nat) (zs:List Nat),j'≤es.length∧j= .int .i64 j'∧cr= .int .u64 c∧MulIn w wr2 w.heap.size k j' c ds es zs) (fun _ j _=>es.length - (intOf j).toNat)
   case atStart=>exact ⟨0,0,zs,Nat.zero_le _,rfl,rfl,HB.o⟩
   case round=>
    obtain ⟨j,c,zs,hj,rfl,rfl,hJ⟩:=hrel;by_cases hlj:j < es.length
    ·obtain ⟨pl1,pl2⟩:=hJ.inv.place (j:=k+j) (by omega);obtain ⟨b',o',rfl,hb',hcell'⟩:=(HE.o.below hJ.inv.bel).at_ (by omega);have hcl':=hcell' j hlj;have hj0:(0:Int)≤(j:Int):=by omega
     have hj1:(j:Int) < (es.length:Int):=by omega
     have u1:=ja8 HD.o.dig k;have u2:=ja8 HE.o.dig j;have u3:=ja8 hJ.inv.dig (k+j);have hms:=jjY (b:=B64) u1 u2 u3 hJ.car;obtain ⟨hi,ehi⟩:∃q,q=dg ds k*dg es j / B64:=⟨_,rfl⟩;obtain ⟨lo,elo⟩:∃q,q=dg ds k*dg es j % B64:=⟨_,rfl⟩;rw [←ehi,←elo] at hms;obtain ⟨d1,ed1⟩:∃q,q=(lo+dg zs (k+j)) % B64:=⟨_,rfl⟩;obtain ⟨e1,ee1⟩:∃q,q=(lo+dg zs (k+j)) / B64:=⟨_,rfl⟩;rw [←ed1,←ee1] at hms;obtain ⟨d2,ed2⟩:∃q,q=(d1+c) % B64:=⟨_,rfl⟩;obtain ⟨e2,ee2⟩:∃q,q=(d1+c) / B64:=⟨_,rfl⟩;rw [←ed2,←ee2] at hms;have hS:=hJ.step hlt hlj (by rw [ed2];exact Nat.mod_lt _ ja6) hms.2 hms.1;have b1:(hi:Int)+(e1:Int) < 18446744073709551616:=by have:=hms.2;rw [ja3] at this;omega
     have b2:(hi:Int)+(e1:Int)+(e2:Int) < 18446744073709551616:=by have:=hms.2;rw [ja3] at this;omega
     have HJ:=qh hJ;have HS:=qh hS;have M1:=qh ehi;have M2:=qh elo;have a1:=fun w=>jbj lo (dg zs (k+j)) d1 e1 ed1 ee1 w
     have a2:=fun w=>jbj d1 c d2 e2 ed2 ee2 w
     clear hJ hS hcell' hms ehi elo ed1 ee1 ed2 ee2;go_wp2_with (go_at_call 127;((with_reducible refine (jam _ _ _ _ u1 u2 M1.o M2.o _).mono ?_);rintro e w1 ⟨rfl,rfl⟩))
     exact ⟨⟨j+1,hi+e1+e2,_,by omega,by go_num,by simp only [Int.natCast_add],HS.o⟩,by simp [intOf];omega⟩
    ·have e:j=es.length:=by omega
     subst e;have hF:=hJ.finish hlt;obtain ⟨pl1,pl2⟩:=hJ.inv.place (j:=k+es.length) (by omega);have hj0:(0:Int)≤(es.length:Int):=by omega
     have hj1:(k:Int)+(es.length:Int) < (ds.length:Int)+(es.length:Int):=by omega
     have HJ:=qh hJ;have HF:=qh hF;clear hJ hF;go_wp2
     go_roundw
     case rel=>exact ⟨k+1,_,by omega,by go_num,HF.o⟩
     case measure=>simp [intOf];omega
  ·have e:k=ds.length:=by omega
   subst e
   have st1:Wd wr (some ⟨w.heap.size,0,none⟩) (ds.length+es.length) zs:=
    Wd.of_blk hI.inv.blk rfl hI.inv.len (by omega) hI.inv.dig
   have st2:=hI.val;rw [List.take_length] at st2;have st3:=hI.inv.bel;have H1:=qh st1;have H2:=qh st2;have H3:=qh st3;clear hI st1 st2 st3;go_wp2_with (go_at_call 167;((with_reducible refine (jbd _ _ _ _ _ H1.o (Nat.le_refl _) (by omega)).mono ?_);rintro e w1 ⟨j,hj,ht,hv,rfl,rfl⟩))
   go_ret;exact jh4 rfl hj (by omega) (H1.o.take hj) ht (hv.trans H2.o) H3.o
end Go.Proofs.YtfagcpcikjlboaaGreatDoor
