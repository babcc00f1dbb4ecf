/- Parts. -/
import Derived.Test.YtfagcpcikjlboaaGreatDoorKaG
set_option linter.all false
set_option maxRecDepth 100000
set_option maxHeartbeats 8000000
namespace Go.Proofs.YtfagcpcikjlboaaGreatDoor

def sx (f:Nat→Nat):Nat→Nat
 | 0=>0
 | k+1=>sx f k+B9^k*f k
theorem jc0 {f g:Nat→Nat}:∀{k:Nat},(∀i,i < k→f i=g i)→sx f k=sx g k
 | 0,_=>rfl
 | k+1,h=>by simp only [sx];rw [jc0 fun i hi=>h i (by omega),h k (by omega)]
theorem jfz {f:Nat→Nat} (h:∀i,f i < B9):∀k,sx f k < B9^k
 | 0=>by simp [sx]
 | k+1=>by
   simp only [sx,Nat.pow_succ];have h1:=jfz h k;have h2:B9^k*(f k+1)≤B9^k*B9:=Nat.mul_le_mul_left _ (h k);rw [Nat.mul_add,Nat.mul_one] at h2;omega
theorem jfi (l:List Nat) (k:Nat):sx (dg l) k=Pos.nv B9 (l.take k):=by
 induction k with
 | zero=>simp [sx,Pos.nv]
 | succ k ih=>simp only [sx];rw [ih,jgt]
theorem jk1 (f:Nat→Nat) (j:Nat):∀n,sx f (j+n)=sx f j+B9^j*sx (fun i=>f (j+i)) n
 | 0=>by simp [sx]
 | n+1=>by
   rw [show j+(n+1)=(j+n)+1 from rfl];simp only [sx];rw [jk1 f j n,Nat.pow_add,Nat.mul_add,Nat.mul_assoc,Nat.add_assoc]
theorem jjx {l:List Nat} {k:Nat} (h:l.length≤k):sx (dg l) k=Pos.nv B9 l:=by rw [jfi,List.take_of_length_le h]
theorem jop {l:List Nat} {p d:Nat} (h:p < l.length):dg (l.set p d) p=d:=by
 simp [dg,List.getD_eq_getElem?_getD,h]
theorem jgh {l:List Nat} {p t d:Nat} (h:t≠p):dg (l.set p d) t=dg l t:=jqY h
theorem dg9 {l:List Nat} (h:Pos.Dig B9 l) (i:Nat):dg l i < B9:=jci h i

structure Take9 (zs ws vs:List Nat) (j q k c:Nat):Prop where
 len:ws.length=zs.length
 car:c≤q
 dig:Pos.Dig B9 ws
 out:∀p,p < j∨j+k≤p→dg ws p=dg zs p
 val:sx (fun i=>dg ws (j+i)) k+q*sx (dg vs) k=sx (fun i=>dg zs (j+i)) k+B9^k*c
theorem Take9.start {zs:List Nat} (vs:List Nat) (j q:Nat) (h:Pos.Dig B9 zs):Take9 zs zs vs j q 0 0:=⟨rfl,by omega,h,fun _ _=>rfl,by simp [sx]⟩
theorem Take9.step {zs ws vs:List Nat} {j q k c:Nat} (h:Take9 zs ws vs j q k c) (hk:j+k < zs.length) {d c':Nat} (hd:d < B9)
  (h1:d+(q*dg vs k+c)=dg ws (j+k)+B9*c') (hc':c'≤q):Take9 zs (ws.set (j+k) d) vs j q (k+1) c' where
 len:=by rw [List.length_set,h.len]
 car:=hc'
 dig:=h.dig.set _ hd
 out:=fun p hp=>by rw [jgh (by omega)];exact h.out p (by omega)
 val:=by
  simp only [sx];rw [jc0 (f:=fun i=>dg (ws.set (j+k) d) (j+i)) (g:=fun i=>dg ws (j+i)) fun i hi=>jgh (by omega),jop (by rw [h.len];exact hk)];have hv:=h.val;have ho:=h.out (j+k) (by omega);rw [ho] at h1;have e:=congrArg (B9^k* ·) h1;simp only [Nat.mul_add] at e;have e2:q*(B9^k*dg vs k)=B9^k*(q*dg vs k):=Nat.mul_left_comm _ _ _;rw [Nat.mul_add,e2,Nat.pow_succ,Nat.mul_assoc];omega
theorem jqm {q v c z:Nat} (hq:q≤B9) (hv:v < B9) (hc:c≤q) (hz:z < B9):∃(p s t:Nat),q*v+c=p∧p % B9=s∧p / B9=t∧p≤1000000000000000000∧s < B9∧t≤q∧
  ((s≤z∧z - s < B9∧(z - s)+p=z+B9*t)∨(z < s∧z+B9 - s < B9∧(z+B9 - s)+p=z+B9*(t+1)∧t+1≤q)):=by
 refine ⟨_,_,_,rfl,rfl,rfl, ?_,Nat.mod_lt _ jal, ?_, ?_⟩
 ·have:q*v≤q*(B9 - 1):=Nat.mul_le_mul_left _ (by omega);have:q*(B9 - 1)≤B9*(B9 - 1):=Nat.mul_le_mul_right _ hq;rw [jaq] at*;omega
 ·have h1:q*v+c≤q*(v+1):=by rw [Nat.mul_add,Nat.mul_one];omega
  have h2:q*(v+1)≤q*B9:=Nat.mul_le_mul_left _ hv;exact Nat.div_le_of_le_mul (Nat.le_trans h1 (Nat.le_trans h2 (Nat.le_of_eq (Nat.mul_comm _ _))))
 ·have h1:q*v+c≤q*(v+1):=by rw [Nat.mul_add,Nat.mul_one];omega
  have h2:q*(v+1)≤q*B9:=Nat.mul_le_mul_left _ hv;have hm:=Nat.div_add_mod (q*v+c) B9;have hl:=Nat.mod_lt (q*v+c) jal;obtain ⟨p,hp⟩:∃p,q*v+c=p:=⟨_,rfl⟩;rw [hp] at hm hl h1 ⊢;obtain ⟨s,hs⟩:∃s,p % B9=s:=⟨_,rfl⟩;obtain ⟨t,ht⟩:∃t,p / B9=t:=⟨_,rfl⟩;rw [hs,ht] at hm;rw [hs] at hl ⊢;rw [ht];by_cases hzs:s≤z
  ·exact .inl ⟨hzs,by omega,by omega⟩
  ·refine .inr ⟨by omega,by omega,by rw [Nat.mul_add];omega, ?_⟩;have h3:B9*t < B9*q:=by rw [Nat.mul_comm B9 q];omega
   exact Nat.lt_of_mul_lt_mul_left h3
structure Back9 (zs ws vs:List Nat) (j k c:Nat):Prop where
 len:ws.length=zs.length
 car:c≤1
 dig:Pos.Dig B9 ws
 out:∀p,p < j∨j+k≤p→dg ws p=dg zs p
 val:sx (fun i=>dg ws (j+i)) k+B9^k*c=sx (fun i=>dg zs (j+i)) k+sx (dg vs) k
theorem Back9.start {zs:List Nat} (vs:List Nat) (j:Nat) (h:Pos.Dig B9 zs):Back9 zs zs vs j 0 0:=⟨rfl,by omega,h,fun _ _=>rfl,by simp [sx]⟩
theorem Back9.step {zs ws vs:List Nat} {j k c:Nat} (h:Back9 zs ws vs j k c) (hk:j+k < zs.length) {d c':Nat} (hd:d < B9)
  (h1:d+B9*c'=dg ws (j+k)+dg vs k+c) (hc':c'≤1):Back9 zs (ws.set (j+k) d) vs j (k+1) c' where
 len:=by rw [List.length_set,h.len]
 car:=hc'
 dig:=h.dig.set _ hd
 out:=fun p hp=>by rw [jgh (by omega)];exact h.out p (by omega)
 val:=by
  simp only [sx];rw [jc0 (f:=fun i=>dg (ws.set (j+k) d) (j+i)) (g:=fun i=>dg ws (j+i)) fun i hi=>jgh (by omega),jop (by rw [h.len];exact hk)];have hv:=h.val;have ho:=h.out (j+k) (by omega);rw [ho] at h1;have e:=congrArg (B9^k* ·) h1;simp only [Nat.mul_add] at e;rw [Nat.pow_succ,Nat.mul_assoc];omega
structure Done9 (zs ws vs:List Nat) (j n q:Nat):Prop where
 len:ws.length=zs.length
 dig:Pos.Dig B9 ws
 out:∀p,p < j∨j+n < p→dg ws p=dg zs p
 top:dg ws (j+n)=0
 quo:q=sx (fun i=>dg zs (j+i)) (n+1) / sx (dg vs) n
 rest:sx (fun i=>dg ws (j+i)) n=sx (fun i=>dg zs (j+i)) (n+1) % sx (dg vs) n
theorem jjp {U V q R:Nat} (h:U=q*V+R) (hR:R < V):q=U / V∧R=U % V:=by
 subst h;have h0:0 < V:=by omega
 rw [Nat.add_comm,Nat.add_mul_div_right _ _ h0,Nat.div_eq_of_lt hR,Nat.add_mul_mod_self_right,Nat.mod_eq_of_lt hR];exact ⟨by omega,rfl⟩
section
variable {zs ws xs vs:List Nat} {j n q c z:Nat}
theorem Take9.right (h:Take9 zs ws vs j q n c) (hk:j+n < zs.length) (hz:dg zs (j+n)=z) (hge:sx (fun i=>dg zs (j+i)) (n+1) / sx (dg vs) n≤q) (hV:0 < sx (dg vs) n) (hvs:Pos.Dig B9 vs) (hc:c≤z):
  z=c∧Done9 zs (ws.set (j+n) 0) vs j n q:=by
 have hv:=h.val;have eU:sx (fun i=>dg zs (j+i)) (n+1)=sx (fun i=>dg zs (j+i)) n+B9^n*z:=by rw [←hz];rfl
 have h3:sx (fun i=>dg zs (j+i)) (n+1) < (q+1)*sx (dg vs) n:=(Nat.div_lt_iff_lt_mul hV).1 (Nat.lt_succ_of_le hge);have hVl:sx (dg vs) n < B9^n:=jfz (dg9 hvs) n;have es:sx (fun i=>dg (ws.set (j+n) 0) (j+i)) n=sx (fun i=>dg ws (j+i)) n:=jc0 fun i hi=>jgh (by omega)
 rw [Nat.add_mul,Nat.one_mul] at h3;obtain ⟨x,rfl⟩:∃x,z=c+x:=⟨z - c,by omega⟩;rw [Nat.mul_add] at eU
 have hx:x=0:=by
  rcases Nat.eq_zero_or_pos x with e|e
  ·exact e
  ·have:=Nat.le_mul_of_pos_right (B9^n) e;omega
 subst hx;obtain ⟨r1,r2⟩:=jjp (show sx (fun i=>dg zs (j+i)) (n+1)=q*sx (dg vs) n+sx (fun i=>dg ws (j+i)) n by omega) (by omega);exact ⟨rfl,by rw [List.length_set,h.len],h.dig.set _ jal,fun p hp=>by rw [jgh (by omega)];exact h.out p (by omega),jop (by rw [h.len];exact hk),r1,by rw [es];exact r2⟩
theorem Take9.over (h:Take9 zs ws vs j q n c) (hz:dg zs (j+n)=z) (hlt:q*sx (dg vs) n < sx (fun i=>dg zs (j+i)) (n+1)+sx (dg vs) n) (hvs:Pos.Dig B9 vs) (hc:z < c):c=z+1∧0 < q:=by
 have hv:=h.val;have eU:sx (fun i=>dg zs (j+i)) (n+1)=sx (fun i=>dg zs (j+i)) n+B9^n*z:=by rw [←hz];rfl
 have hVl:sx (dg vs) n < B9^n:=jfz (dg9 hvs) n;have hWl:sx (fun i=>dg ws (j+i)) n < B9^n:=jfz (fun i=>dg9 h.dig _) n;have hcar:=h.car;obtain ⟨x,rfl⟩:∃x,c=z+1+x:=⟨c - z - 1,by omega⟩;rw [Nat.mul_add,Nat.mul_add,Nat.mul_one] at hv;refine ⟨?_,by omega⟩;rcases Nat.eq_zero_or_pos x with e|e
 ·omega
 ·have:=Nat.le_mul_of_pos_right (B9^n) e;omega
theorem Take9.wrong {c2:Nat} (h:Take9 zs ws vs j q n c) (hk:j+n < zs.length) (hz:dg zs (j+n)=z) (hge:sx (fun i=>dg zs (j+i)) (n+1) / sx (dg vs) n≤q) (hV:0 < sx (dg vs) n) (hlt:q*sx (dg vs) n < sx (fun i=>dg zs (j+i)) (n+1)+sx (dg vs) n) (hvs:Pos.Dig B9 vs) (hc:c=z+1) (hq:0 < q)
  (hB:Back9 ws xs vs j n c2):c2=1∧Done9 zs (xs.set (j+n) 0) vs j n (q - 1):=by
 have hv:=h.val;have bv:=hB.val;have eU:sx (fun i=>dg zs (j+i)) (n+1)=sx (fun i=>dg zs (j+i)) n+B9^n*z:=by rw [←hz];rfl
 have hxl:sx (fun i=>dg xs (j+i)) n < B9^n:=jfz (fun i=>dg9 hB.dig _) n;have hWl:sx (fun i=>dg ws (j+i)) n < B9^n:=jfz (fun i=>dg9 h.dig _) n;have es:sx (fun i=>dg (xs.set (j+n) 0) (j+i)) n=sx (fun i=>dg xs (j+i)) n:=jc0 fun i hi=>jgh (by omega)
 have h3:sx (fun i=>dg zs (j+i)) (n+1) < (q+1)*sx (dg vs) n:=(Nat.div_lt_iff_lt_mul hV).1 (Nat.lt_succ_of_le hge);obtain ⟨k,rfl⟩:∃k,q=k+1:=⟨q - 1,by omega⟩;subst hc;rw [Nat.mul_add,Nat.mul_one] at hv;rw [Nat.add_mul,Nat.one_mul] at hv hlt;have hcar:=hB.car
 have hc2:c2=1:=by
  rcases (show c2=0∨c2=1 by omega) with e|e
  ·subst e;omega
  ·exact e
 subst hc2;rw [Nat.mul_one] at bv;have hxlen:xs.length=zs.length:=by rw [hB.len,h.len]
 obtain ⟨r1,r2⟩:=jjp (show sx (fun i=>dg zs (j+i)) (n+1)=k*sx (dg vs) n+sx (fun i=>dg xs (j+i)) n by omega) (by omega);exact ⟨rfl,by rw [List.length_set,hxlen],hB.dig.set _ jal,fun p hp=>by rw [jgh (by omega),hB.out p (by omega)];exact h.out p (by omega),jop (by rw [hxlen];exact hk),by simp only [Nat.add_sub_cancel];exact r1,by rw [es];exact r2⟩
end
structure Gs (us vs:List Nat) (j k:Nat):Prop where
 du:Pos.Dig B9 us
 dv:Pos.Dig B9 vs
 norm:B9≤2*dg vs (k+1)
 lt:sx (fun i=>dg us (j+i)) (k+3) < sx (dg vs) (k+2)*B9
section
variable {us vs:List Nat} {j k t r:Nat}
abbrev gU (us:List Nat) (j k:Nat):Nat:=sx (fun i=>dg us (j+i)) (k+3)
abbrev gV (vs:List Nat) (k:Nat):Nat:=sx (dg vs) (k+2)
theorem jmH:gV vs k=(dg vs (k+1)*B9+dg vs k)*B9^k+sx (dg vs) k:=by
 simp only [gV,sx,Nat.pow_succ,Nat.add_mul];simp only [Nat.mul_comm,Nat.mul_left_comm,Nat.mul_assoc,Nat.add_comm,Nat.add_left_comm,Nat.add_assoc]
theorem jpq:gU us j k=((dg us (j+(k+2))*B9+dg us (j+(k+1)))*B9+dg us (j+k))*B9^k+sx (fun i=>dg us (j+i)) k:=by
 simp only [gU,sx,Nat.pow_succ,Nat.add_mul];simp only [Nat.mul_comm,Nat.mul_left_comm,Nat.mul_assoc,Nat.add_comm,Nat.add_left_comm,Nat.add_assoc]
theorem Gs.v1 (h:Gs us vs j k):0 < dg vs (k+1):=by have:=h.norm;rw [jaq] at this;omega
theorem Gs.W0 (h:Gs us vs j k):0 < dg vs (k+1)*B9+dg vs k:=by have:=Nat.mul_pos h.v1 jal;omega
theorem Gs.V0 (h:Gs us vs j k):0 < gV vs k:=by rw [jmH];have:=Nat.mul_pos h.W0 (Nat.pow_pos (n:=k) jal);omega
structure Gt (us vs:List Nat) (j k t r:Nat):Prop where
 sum:t*dg vs (k+1)+r=dg us (j+(k+2))*B9+dg us (j+(k+1))
 ge:gU us j k / gV vs k≤t
 le:t≤B9+1
theorem Gs.start (h:Gs us vs j k) {T:Nat} (hT:dg us (j+(k+2))*B9+dg us (j+(k+1))=T):Gt us vs j k (T / dg vs (k+1)) (T % dg vs (k+1)):=by
 subst hT;have e1:=QStep.div_le (jmH (vs:=vs) (k:=k)) (jpq (us:=us) (j:=j) (k:=k)) (jfz (fun i=>dg9 h.du _) k) h.W0;have e2:=QStep.guess_ge (W:=dg vs (k+1)*B9+dg vs k) (v1:=dg vs (k+1)) rfl (T:=(dg us (j+(k+2))*B9+dg us (j+(k+1)))*B9+dg us (j+k)) rfl h.v1 (dg9 h.du (j+k));refine ⟨Nat.div_add_mod' _ _,Nat.le_trans e1 e2, ?_⟩;have h1:=h.lt;have hv:=h.v1;have hn:=h.norm;have hv2:=dg9 h.dv k;rw [show sx (fun i=>dg us (j+i)) (k+3)=_ from jpq,show sx (dg vs) (k+2)=_ from jmH] at h1;have hVl:=jfz (dg9 h.dv) k;generalize dg us (j+(k+2))*B9+dg us (j+(k+1))=T at*
 have h2:T*B9*B9^k < (dg vs (k+1)*B9+dg vs k+1)*B9*B9^k:=by
  have e3:(T*B9+dg us (j+k))*B9^k=T*B9*B9^k+dg us (j+k)*B9^k:=Nat.add_mul _ _ _
  have e4:(dg vs (k+1)*B9+dg vs k+1)*B9*B9^k=((dg vs (k+1)*B9+dg vs k)*B9^k+B9^k)*B9:=by
   rw [Nat.mul_assoc,Nat.mul_comm B9 (B9^k),←Nat.mul_assoc,Nat.add_mul,Nat.one_mul]
  have e5:((dg vs (k+1)*B9+dg vs k)*B9^k+sx (dg vs) k)*B9≤((dg vs (k+1)*B9+dg vs k)*B9^k+B9^k)*B9:=Nat.mul_le_mul_right _ (by omega);omega
 have h3:=Nat.lt_of_mul_lt_mul_right h2;have h4:=Nat.lt_of_mul_lt_mul_right h3;have h5:T < (B9+2)*dg vs (k+1):=by rw [Nat.add_mul,Nat.mul_comm B9];omega
 have:=(Nat.div_lt_iff_lt_mul hv).2 h5;omega
theorem Gt.down (G:Gt us vs j k t r) (h:Gs us vs j k) (hc:B9≤t∨r*B9+dg us (j+k) < t*dg vs k):Gt us vs j k (t - 1) (r+dg vs (k+1))∧1≤t:=by
 rcases hc with hc|hc
 ·have hlt:gU us j k / gV vs k < B9:=(Nat.div_lt_iff_lt_mul h.V0).2 (by rw [Nat.mul_comm];exact h.lt);have:=jal;obtain ⟨s,rfl⟩:∃s,t=s+1:=⟨t - 1,by omega⟩;refine ⟨⟨?_,by omega,by have:=G.le;omega⟩,by omega⟩;have:=G.sum;rw [Nat.add_mul,Nat.one_mul] at this;simp only [Nat.add_sub_cancel];omega
 ·obtain ⟨a,b,c⟩:=QStep.go_on (jmH (vs:=vs) (k:=k)) rfl (jpq (us:=us) (j:=j) (k:=k)) (jfz (fun i=>dg9 h.du _) k) rfl h.W0 G.sum hc;exact ⟨⟨c,a,by have:=G.le;omega⟩,b⟩
structure Gd (us vs:List Nat) (j k t:Nat):Prop where
 ge:gU us j k / gV vs k≤t
 lt:t*gV vs k < gU us j k+gV vs k
 le:t≤B9
theorem Gt.stop (G:Gt us vs j k t r) (h:Gs us vs j k) (hc:t < B9∧t*dg vs k≤r*B9+dg us (j+k)∨t≤B9∧B9≤r):Gd us vs j k t:=by
 have hle:t≤B9:=by rcases hc with ⟨a,_⟩|⟨a,_⟩ <;> omega
 refine ⟨G.ge, ?_,hle⟩;refine QStep.exit_le (jmH (vs:=vs) (k:=k)) (jfz (dg9 h.dv) k) rfl (jpq (us:=us) (j:=j) (k:=k)) rfl h.v1 jal G.sum hle ?_;rcases hc with ⟨_,a⟩|⟨_,a⟩
 ·exact a
 ·exact QStep.stop_big hle (dg9 h.dv k) a
end
end Go.Proofs.YtfagcpcikjlboaaGreatDoor
namespace Go.Proofs.YtfagcpcikjlboaaGreatDoor
open Go Go.RowKit Go.Proofs.Tryz

theorem jki {x1 x0:Nat} (h1:x1 < B9) (h0:x0 < B9):IntKind.i64.wrap ((x1:Int)*1000000000)=(x1:Int)*1000000000∧IntKind.i64.wrap ((x1:Int)*1000000000+(x0:Int))=((x1*B9+x0:Nat):Int)∧x1*B9+x0 < 1000000000000000000:=by
 rw [jaq] at*;exact ⟨by rw [IntKind.wrap_i64];omega,by rw [IntKind.wrap_i64];omega,by omega⟩
theorem jtR {t v:Nat} (h1:t≤B9+1) (h0:v < B9):IntKind.i64.wrap ((t:Int)*(v:Int))=((t*v:Nat):Int):=by
 have h:t*v≤(B9+1)*B9:=Nat.mul_le_mul h1 (Nat.le_of_lt h0);rw [←Int.natCast_mul];obtain ⟨p,hp⟩:∃p,t*v=p:=⟨_,rfl⟩;rw [hp] at h ⊢;rw [jaq] at h;rw [IntKind.wrap_i64];omega
theorem ju7 {j n:Nat} {N k:Nat} (hn:n=k+2) (hj:j+n < N) (hN:N≤30000):IntKind.i64.wrap ((j:Int)+(n:Int))=(j:Int)+(n:Int)∧IntKind.i64.wrap ((j:Int)+(n:Int) - 1)=(j:Int)+(n:Int) - 1∧IntKind.i64.wrap ((j:Int)+(n:Int) - 2)=(j:Int)+(n:Int) - 2∧
  IntKind.i64.wrap ((n:Int) - 1)=(n:Int) - 1∧IntKind.i64.wrap ((n:Int) - 2)=(n:Int) - 2∧((j:Int)+(n:Int)).toNat=j+n∧((j:Int)+(n:Int) - 1).toNat=j+(k+1)∧((j:Int)+(n:Int) - 2).toNat=j+k∧((n:Int) - 1).toNat=k+1∧((n:Int) - 2).toNat=k:=by
 refine ⟨by rw [IntKind.wrap_i64];omega,by rw [IntKind.wrap_i64];omega,by rw [IntKind.wrap_i64];omega,by rw [IntKind.wrap_i64];omega,by rw [IntKind.wrap_i64];omega,by omega,by omega,by omega,by omega,by omega⟩
theorem jsS {j n:Nat} {N k:Nat} (hn:n=k+2) (hj:j+n < N) (hN:N≤30000):(0≤(j:Int)+(n:Int)∧(j:Int)+(n:Int) < (N:Int))∧(0≤(j:Int)+(n:Int) - 1∧(j:Int)+(n:Int) - 1 < (N:Int))∧(0≤(j:Int)+(n:Int) - 2∧(j:Int)+(n:Int) - 2 < (N:Int))∧(0≤(n:Int) - 1∧(n:Int) - 1 < (n:Int))∧(0≤(n:Int) - 2∧(n:Int) - 2 < (n:Int))∧wrap64 ((n:Int) - 1)=(n:Int) - 1:=by
 refine ⟨by omega,by omega,by omega,by omega,by omega,by unfold wrap64;omega⟩
section
variable {w:World} {A A':Option Addr} {N n j k c c':Nat} {us vs:List Nat}
theorem jug (h:Dv w A N us) (h':Dv w A' n vs) (hn:n=k+2) (hj:j+n < N) (hN:N≤30000) (G:Gs us vs j k):Calls prog 133 #[.slice A N c, .slice A' n c', .int .i64 (j:Int)] w fun e w'=>∃t:Nat,e= .returned (.int .i64 (t:Int))∧Gd us vs j k t∧Below w.heap.size w w':=by
 have HG:=qh G;obtain ⟨b,o,rfl,hbl,hc⟩:=h.at_ (by omega);obtain ⟨b',o',rfl,hbl',hc'⟩:=h'.at_ (by omega);have cx1:=hc (j+n) hj;have cx0:=hc (j+(k+1)) (by omega);have cu:=hc (j+k) (by omega);have cv1:=hc' (k+1) (by omega);have cv2:=hc' k (by omega);obtain ⟨x1,e1⟩:∃x,dg us (j+n)=x:=⟨_,rfl⟩;obtain ⟨x0,e0⟩:∃x,dg us (j+(k+1))=x:=⟨_,rfl⟩;obtain ⟨u2,e2⟩:∃x,dg us (j+k)=x:=⟨_,rfl⟩;obtain ⟨v1,e3⟩:∃x,dg vs (k+1)=x:=⟨_,rfl⟩;obtain ⟨v2,e4⟩:∃x,dg vs k=x:=⟨_,rfl⟩;have lx1:x1 < B9:=by rw [←e1];exact dg9 h.dig _
 have lx0:x0 < B9:=by rw [←e0];exact dg9 h.dig _
 have lu2:u2 < B9:=by rw [←e2];exact dg9 h.dig _
 have lv1:v1 < B9:=by rw [←e3];exact dg9 h'.dig _
 have lv2:v2 < B9:=by rw [←e4];exact dg9 h'.dig _
 have v10:0 < v1:=by rw [←e3];exact G.v1
 obtain ⟨T,hT⟩:∃T,x1*B9+x0=T:=⟨_,rfl⟩;have G0:=qh (G.start (T:=T) (by rw [←hT,←e1,←e0,hn]));have HDN:=qh (fun t r (Gt0:Gt us vs j k t r) hc=>Gt0.down G hc);have HST:=qh (fun t r (Gt0:Gt us vs j k t r) hc=>Gt0.stop G hc);rw [e3] at cv1 G0 HDN;rw [e4] at cv2 HDN HST;rw [e1] at cx1;rw [e0] at cx0;rw [e2] at cu HDN HST;obtain ⟨g1,g2,g3,g4,g5,g6,g7,g8,g9,g10⟩:=ju7 hn hj hN;obtain ⟨⟨i1,i2⟩,⟨i3,i4⟩,⟨i5,i6⟩,⟨i7,i8⟩,⟨i9,i10⟩,g11⟩:=jsS hn hj hN;have s1:¬((j:Int)+(n:Int) < 1):=by omega
 have s2:¬((j:Int)+(n:Int) < 2):=by omega
 have s3:¬((n:Int) < 1):=by omega
 have s4:¬((n:Int) < 2):=by omega
 have s5:¬(n=0):=by omega
 obtain ⟨f1,f2,f3⟩:=jki lx1 lx0;rw [hT] at f2 f3;have m3:(T:Int).tdiv (v1:Int)=((T / v1:Nat):Int):=by rw [Int.ofNat_tdiv]
 have m4:(T:Int).tmod (v1:Int)=((T % v1:Nat):Int):=by rw [Int.ofNat_tmod]
 have g0:((v1:Int)==0)=false:=by rw [beq_eq_false_iff_ne];omega
 have g00:(v1:Int)≠0:=by omega
 have gv:¬v1=0:=by omega
 have lr0:T % v1 < B9:=Nat.lt_trans (Nat.mod_lt _ v10) lv1;obtain ⟨t0,ht0⟩:∃t,T / v1=t:=⟨_,rfl⟩;obtain ⟨r0,hr0⟩:∃t,T % v1=t:=⟨_,rfl⟩;rw [ht0] at m3 G0;rw [hr0] at m4 G0 lr0;have m5:IntKind.i64.wrap (t0:Int)=(t0:Int):=by have:=G0.o.le;rw [jaq] at this;rw [IntKind.wrap_i64];omega
 have HL:=qh (ai lr0 (ai lv1 (ai lv2 lu2)));clear h h' hc hc' hn hj hN G e1 e0 e2 e3 e4 lx1 lx0 lu2 lv1 lv2 v10 hT ht0 hr0 lr0 f3;go_enter func133,ntmps133;go_wp2;refine ja1 (fun w'=>Below w.heap.size w w') [] (by kernel_rfl) ?_;refine tl [(0,[], .slice (some ⟨b,o,none⟩) N c),(1,[], .int .i64 (j:Int)),(2,[], .int .i64 (n:Int))] [_,_,_] rfl (by kernel_rfl) pk5 (by intros;simp only [tyq,ppq];go_simp) bq0 ?_;simp only [tlq,ppq];refine tl [(3,[], .int .i64 ((j:Int)+(n:Int))),(4,[], .pointer (some ⟨b,o+(j+n),none⟩)),(5,[], .int .i64 (x1:Int))] [_,_,_] rfl (by kernel_rfl) pk5 (by intros;simp only [tyq,ppq];go_simp) bq0 ?_;simp only [tlq,ppq];refine tl [(6,[], .int .i64 ((x1:Int)*1000000000)),(7,[], .slice (some ⟨b,o,none⟩) N c),(8,[], .int .i64 (j:Int))] [_,_,_] rfl (by kernel_rfl) pk5 (by intros;simp only [tyq,ppq];go_simp) bq0 ?_;simp only [tlq,ppq];refine tl [(9,[], .int .i64 (n:Int)),(10,[], .int .i64 ((j:Int)+(n:Int))),(11,[], .int .i64 ((j:Int)+(n:Int) - 1))] [_,_,_] rfl (by kernel_rfl) pk5 (by intros;simp only [tyq,ppq];go_simp) bq0 ?_;simp only [tlq,ppq];refine tl [(12,[], .pointer (some ⟨b,o+(j+(k+1)),none⟩)),(13,[], .int .i64 (x0:Int)),(14,[], .int .i64 (T:Int))] [_,_,_] rfl (by kernel_rfl) pk5 (by intros;simp only [tyq,ppq];go_simp) bq0 ?_;simp only [tlq,ppq];refine rd1 15 (by kernel_rfl) rfl (fun K hK=> ?_);go_simp;refine hK.out _ _ (fun _=>bi) ?_;clear hK K;refine ja2 (by kernel_rfl) ?_ _;go_wp2;obtain ⟨W2,hW2⟩:∃x,w.drew=x:=⟨_,rfl⟩;have bW2:Below w.heap.size w W2:=by rw [←hW2];exact bi
 have cv1w:=(bW2.cell (p:=⟨b',o'+(k+1),none⟩) hbl').trans cv1;have hb2:b' < W2.heap.size:=Nat.lt_of_lt_of_le hbl' bW2.size;rw [hW2];clear hW2;refine ja1 (fun w'=>Below W2.heap.size W2 w') [] (by kernel_rfl) ?_;refine tl [(0,[], .int .i64 (T:Int)),(1,[], .slice (some ⟨b',o',none⟩) n c'),(2,[], .int .i64 (n:Int))] [_,_,_] rfl (by kernel_rfl) pk5 (by intros;simp only [tyq,ppq];go_simp) bq0 ?_;simp only [tlq,ppq];refine tl [(3,[], .int .i64 ((n:Int) - 1)),(4,[], .pointer (some ⟨b',o'+(k+1),none⟩)),(5,[], .int .i64 (v1:Int))] [_,_,_] rfl (by kernel_rfl) pk5 (by intros;simp only [tyq,ppq];go_simp) bq0 ?_;simp only [tlq,ppq];refine tl [(6,[], .int .i64 (t0:Int)),(7,[], .int .i64 (T:Int)),(8,[], .slice (some ⟨b',o',none⟩) n c')] [_,_,_] rfl (by kernel_rfl) pk5 (by intros;simp only [tyq,ppq];go_simp) bq0 ?_;simp only [tlq,ppq];refine tl [(9,[], .int .i64 (n:Int)),(10,[], .int .i64 ((n:Int) - 1)),(11,[], .pointer (some ⟨b',o'+(k+1),none⟩))] [_,_,_] rfl (by kernel_rfl) pk5 (by intros;simp only [tyq,ppq];go_simp) bq0 ?_;simp only [tlq,ppq];refine tl [(12,[], .int .i64 (v1:Int)),(13,[], .int .i64 (r0:Int))] [_,_] rfl (by kernel_rfl) pk5 (by intros;simp only [tyq,ppq];go_simp) bq0 ?_;simp only [tlq,ppq];refine rd1 14 (by kernel_rfl) rfl (fun K hK=> ?_);go_simp;refine hK.out _ _ (fun _=>bi) ?_;clear hK K;refine rd1 15 (by kernel_rfl) rfl (fun K hK=> ?_);go_simp;refine hK.out _ _ (fun _=>bi) ?_;clear hK K;refine ja2 (by kernel_rfl) ?_ _;clear f1 f2 m3 m4 m5 cx1 cx0;go_wp2
 go_loopw [9,10] (fun u v wr=>∃t r:Nat,u= .int .i64 (t:Int)∧v= .int .i64 (r:Int)∧Hd (Gt us vs j k t r)∧r < B9∧Below w.heap.size w wr) (fun u _ _=>(intOf u).toNat)
 case atStart=>exact ⟨t0,r0,rfl,rfl,G0,HL.o.1,(bq (by with_reducible repeat' first|assumption|constructor|go_size))⟩
 case round=>
  obtain ⟨t,r,rfl,rfl,HT,hr,hb⟩:=hrel;have _:=bm hb;have cu':=(hb.cell (p:=⟨b,o+(j+k),none⟩) hbl).trans cu;have cv1':=(hb.cell (p:=⟨b',o'+(k+1),none⟩) hbl').trans cv1;have cv2':=(hb.cell (p:=⟨b',o'+k,none⟩) hbl').trans cv2;obtain ⟨P,hP⟩:∃P,t*v2=P:=⟨_,rfl⟩;obtain ⟨Q,hQ⟩:∃Q,r*B9+u2=Q:=⟨_,rfl⟩;have f4:=jtR HT.o.le HL.o.2.2.1;obtain ⟨f5,f6,f7⟩:=jki hr HL.o.2.2.2;rw [hP] at f4;rw [hQ] at f6;have HPQ:=qh (ai hP hQ);have HR:=qh hr;have hbw:b < wr.heap.size:=Nat.lt_of_lt_of_le hbl hb.size;have hbw':b' < wr.heap.size:=Nat.lt_of_lt_of_le hbl' hb.size;clear hP hQ f7 hr;by_cases hc:B9≤t∨Q < P
  ·have HD:=qh (HDN.o t r HT.o (by rw [HPQ.o.1,HPQ.o.2];exact hc));have m6:wrap64 ((t:Int) - 1)=((t - 1:Nat):Int):=by have:=HD.o.2;have:=HT.o.le;rw [jaq] at this;unfold wrap64;omega
   have m7:wrap64 ((r:Int)+(v1:Int))=((r+v1:Nat):Int):=by have:=HR.o;have:=HL.o.2.1;rw [jaq] at*;unfold wrap64;omega
   obtain ⟨t',ht'⟩:∃x,t - 1=x:=⟨_,rfl⟩;obtain ⟨r',hr'⟩:∃x,r+v1=x:=⟨_,rfl⟩;rw [ht',hr'] at HD;rw [ht'] at m6;rw [hr'] at m7;have HTT:=qh (show t' < t∧t'≤B9 by have:=HD.o.2;have:=HT.o.le;omega);clear ht' hr';by_cases ht:B9≤t
   ·have p0:decide ((1000000000:Int)≤(t:Int))=true:=by rw [decide_eq_true_iff];rw [jaq] at ht;omega
    have p1:(1000000000:Int)≤(t:Int):=by rw [jaq] at ht;omega
    clear hc ht;go_wp2;refine ja1 (fun w'=>Below wr.heap.size wr w') [] (by kernel_rfl) ?_;refine tl [(0,[], .int .i64 (t:Int)),(1,[], .bool true),(2,[], .bool true)] [_,_,_] rfl (by kernel_rfl) pk5 (by intros;simp only [tyq,ppq];go_simp) bq0 ?_;simp only [tlq,ppq];refine ts 3 [] rfl (by kernel_rfl) pk (by rfl) bq0 ?_;simp only [ppq];refine ts 4 [] rfl (by kernel_rfl) pk (by rfl) bq0 ?_;simp only [ppq];refine ts 5 [] rfl (by kernel_rfl) pk (by rfl) bq0 ?_;simp only [ppq];refine ts 6 [] rfl (by kernel_rfl) pk (by rfl) bq0 ?_;simp only [ppq];refine ts 7 [] rfl (by kernel_rfl) pk (by rfl) bq0 ?_;simp only [ppq];refine ts 8 [] rfl (by kernel_rfl) pk (by rfl) bq0 ?_;simp only [ppq];refine ts 9 [] rfl (by kernel_rfl) pk (by rfl) bq0 ?_;simp only [ppq];refine ts 10 [] rfl (by kernel_rfl) pk (by rfl) bq0 ?_;simp only [ppq];refine ts 11 [] rfl (by kernel_rfl) pk (by rfl) bq0 ?_;simp only [ppq];refine ts 12 [] rfl (by kernel_rfl) pk (by rfl) bq0 ?_;simp only [ppq];refine ts 13 [] rfl (by kernel_rfl) pk (by rfl) bq0 ?_;simp only [ppq];refine ts 14 [] rfl (by kernel_rfl) pk (by rfl) bq0 ?_;simp only [ppq];refine ts 15 [] rfl (by kernel_rfl) pk (by rfl) bq0 ?_;simp only [ppq];refine ts 16 [] rfl (by kernel_rfl) pk (by rfl) bq0 ?_;simp only [ppq];refine ts 17 [] rfl (by kernel_rfl) pk (by rfl) bq0 ?_;simp only [ppq];refine ts 18 [] rfl (by kernel_rfl) pk (by rfl) bq0 ?_;simp only [ppq];refine ts 19 [] rfl (by kernel_rfl) pk (by rfl) bq0 ?_;simp only [ppq];refine ts 20 [] rfl (by kernel_rfl) pk (by rfl) bq0 ?_;simp only [ppq];refine rd1 21 (by kernel_rfl) rfl (fun K hK=> ?_);go_simp;refine hK.out _ _ (fun _=>bi) ?_;clear hK K;refine ja2 (by kernel_rfl) ?_ _;clear cu' cv2' f4 f5 f6 p0 p1;by_cases hr9:B9≤r'
    ·have p4:decide ((1000000000:Int)≤(r':Int))=true:=by rw [decide_eq_true_iff];rw [jaq] at hr9;omega
     have HR9:=qh hr9;clear hr9;go_wp2;go_ret;exact ⟨t',by first|rfl|(rw [←m6];rfl),HST.o t' r' HD.o.1 (.inr ⟨HTT.o.2,HR9.o⟩),bi⟩
    ·have p4:decide ((1000000000:Int)≤(r':Int))=false:=by rw [decide_eq_false_iff_not];rw [jaq] at hr9;omega
     have HR9:=qh (show r' < B9 by omega);clear hr9;go_wp2;exact ⟨⟨t',r',by first|rfl|rw [←m6],by first|rfl|rw [←m7],qh HD.o.1,HR9.o,bi⟩,by have:=HTT.o.1;(try rw [m6]);simp [intOf];omega⟩
   ·have p0:decide ((1000000000:Int)≤(t:Int))=false:=by rw [decide_eq_false_iff_not];rw [jaq] at ht;omega
    have p1:¬((1000000000:Int)≤(t:Int)):=by rw [jaq] at ht;omega
    obtain ⟨f,hf⟩:∃f,f=true:=⟨_,rfl⟩;have p2:decide (Q < P)=f:=by rw [hf,decide_eq_true_iff];rcases hc with hc|hc <;> omega
    have p3:decide ((Q:Int) < (P:Int))=f:=by rw [←p2];simp
    clear hc ht;go_wp2;refine ja1 (fun w'=>Below wr.heap.size wr w') [] (by kernel_rfl) ?_;refine tl [(0,[], .int .i64 (t:Int)),(1,[], .bool false),(2,[], .bool false)] [_,_,_] rfl (by kernel_rfl) pk5 (by intros;simp only [tyq,ppq];go_simp) bq0 ?_;simp only [tlq,ppq];refine tl [(3,[], .int .i64 (t:Int)),(4,[], .slice (some ⟨b',o',none⟩) n c'),(5,[], .int .i64 (n:Int))] [_,_,_] rfl (by kernel_rfl) pk5 (by intros;simp only [tyq,ppq];go_simp) bq0 ?_;simp only [tlq,ppq];refine tl [(6,[], .int .i64 ((n:Int) - 2)),(7,[], .pointer (some ⟨b',o'+k,none⟩)),(8,[], .int .i64 (v2:Int))] [_,_,_] rfl (by kernel_rfl) pk5 (by intros;simp only [tyq,ppq];go_simp) bq0 ?_;simp only [tlq,ppq];refine tl [(9,[], .int .i64 (P:Int)),(10,[], .int .i64 (r:Int)),(11,[], .int .i64 ((r:Int)*1000000000))] [_,_,_] rfl (by kernel_rfl) pk5 (by intros;simp only [tyq,ppq];go_simp) bq0 ?_;simp only [tlq,ppq];refine tl [(12,[], .slice (some ⟨b,o,none⟩) N c),(13,[], .int .i64 (j:Int)),(14,[], .int .i64 (n:Int))] [_,_,_] rfl (by kernel_rfl) pk5 (by intros;simp only [tyq,ppq];go_simp) bq0 ?_;simp only [tlq,ppq];refine tl [(15,[], .int .i64 ((j:Int)+(n:Int))),(16,[], .int .i64 ((j:Int)+(n:Int) - 2)),(17,[], .pointer (some ⟨b,o+(j+k),none⟩))] [_,_,_] rfl (by kernel_rfl) pk5 (by intros;simp only [tyq,ppq];go_simp) bq0 ?_;simp only [tlq,ppq];refine tl [(18,[], .int .i64 (u2:Int)),(19,[], .int .i64 (Q:Int)),(20,[], .bool f)] [_,_,_] rfl (by kernel_rfl) pk5 (by intros;simp only [tyq,ppq];go_simp) bq0 ?_;simp only [tlq,ppq];refine rd1 21 (by kernel_rfl) rfl (fun K hK=> ?_);go_simp;refine hK.out _ _ (fun _=>bi) ?_;clear hK K;refine ja2 (by kernel_rfl) ?_ _;subst hf;clear cu' cv2' f4 f5 f6 p0 p1;by_cases hr9:B9≤r'
    ·have p4:decide ((1000000000:Int)≤(r':Int))=true:=by rw [decide_eq_true_iff];rw [jaq] at hr9;omega
     have HR9:=qh hr9;clear hr9;go_wp2;go_ret;exact ⟨t',by first|rfl|(rw [←m6];rfl),HST.o t' r' HD.o.1 (.inr ⟨HTT.o.2,HR9.o⟩),bi⟩
    ·have p4:decide ((1000000000:Int)≤(r':Int))=false:=by rw [decide_eq_false_iff_not];rw [jaq] at hr9;omega
     have HR9:=qh (show r' < B9 by omega);clear hr9;go_wp2;exact ⟨⟨t',r',by first|rfl|rw [←m6],by first|rfl|rw [←m7],qh HD.o.1,HR9.o,bi⟩,by have:=HTT.o.1;(try rw [m6]);simp [intOf];omega⟩
  ·have HS:=qh (HST.o t r HT.o (.inl (by rw [HPQ.o.1,HPQ.o.2];omega)));have p0:decide ((1000000000:Int)≤(t:Int))=false:=by rw [decide_eq_false_iff_not];rw [jaq] at hc;omega
   have p1:¬((1000000000:Int)≤(t:Int)):=by rw [jaq] at hc;omega
   obtain ⟨f,hf⟩:∃f,f=false:=⟨_,rfl⟩;have p2:decide (Q < P)=f:=by rw [hf,decide_eq_false_iff_not];omega
   have p3:decide ((Q:Int) < (P:Int))=f:=by rw [←p2];simp
   clear hc;go_wp2;refine ja1 (fun w'=>Below wr.heap.size wr w') [] (by kernel_rfl) ?_;refine tl [(0,[], .int .i64 (t:Int)),(1,[], .bool false),(2,[], .bool false)] [_,_,_] rfl (by kernel_rfl) pk5 (by intros;simp only [tyq,ppq];go_simp) bq0 ?_;simp only [tlq,ppq];refine tl [(3,[], .int .i64 (t:Int)),(4,[], .slice (some ⟨b',o',none⟩) n c'),(5,[], .int .i64 (n:Int))] [_,_,_] rfl (by kernel_rfl) pk5 (by intros;simp only [tyq,ppq];go_simp) bq0 ?_;simp only [tlq,ppq];refine tl [(6,[], .int .i64 ((n:Int) - 2)),(7,[], .pointer (some ⟨b',o'+k,none⟩)),(8,[], .int .i64 (v2:Int))] [_,_,_] rfl (by kernel_rfl) pk5 (by intros;simp only [tyq,ppq];go_simp) bq0 ?_;simp only [tlq,ppq];refine tl [(9,[], .int .i64 (P:Int)),(10,[], .int .i64 (r:Int)),(11,[], .int .i64 ((r:Int)*1000000000))] [_,_,_] rfl (by kernel_rfl) pk5 (by intros;simp only [tyq,ppq];go_simp) bq0 ?_;simp only [tlq,ppq];refine tl [(12,[], .slice (some ⟨b,o,none⟩) N c),(13,[], .int .i64 (j:Int)),(14,[], .int .i64 (n:Int))] [_,_,_] rfl (by kernel_rfl) pk5 (by intros;simp only [tyq,ppq];go_simp) bq0 ?_;simp only [tlq,ppq];refine tl [(15,[], .int .i64 ((j:Int)+(n:Int))),(16,[], .int .i64 ((j:Int)+(n:Int) - 2)),(17,[], .pointer (some ⟨b,o+(j+k),none⟩))] [_,_,_] rfl (by kernel_rfl) pk5 (by intros;simp only [tyq,ppq];go_simp) bq0 ?_;simp only [tlq,ppq];refine tl [(18,[], .int .i64 (u2:Int)),(19,[], .int .i64 (Q:Int)),(20,[], .bool f)] [_,_,_] rfl (by kernel_rfl) pk5 (by intros;simp only [tyq,ppq];go_simp) bq0 ?_;simp only [tlq,ppq];refine rd1 21 (by kernel_rfl) rfl (fun K hK=> ?_);go_simp;refine hK.out _ _ (fun _=>bi) ?_;clear hK K;refine ja2 (by kernel_rfl) ?_ _;subst hf;clear cu' cv1' cv2' f4 f5 f6 p0 p1;go_wp2;go_ret;exact ⟨t,rfl,HS.o,bi⟩
end
end Go.Proofs.YtfagcpcikjlboaaGreatDoor
