/- Parts. -/
import Derived.Lib.BitFns
import Derived.Lib.ItoaNum
set_option linter.all false
set_option maxRecDepth 100000
set_option maxHeartbeats 8000000
namespace Go.Proofs.YtfagcpcikjlboaaGreatDoor.QStep
section
variable {b m V V' W v1 v2 U U' T t u2 q r:Nat}
variable (hV:V=W*m+V') (hV':V' < m) (hW:W=v1*b+v2) (hU:U=T*m+U') (hU':U' < m) (hT:T=t*b+u2)

include hV hU hU' in
theorem div_le (hm:0 < W):U / V≤T / W:=by
 rw [Nat.le_div_iff_mul_le hm];have h1:U / V*V≤U:=Nat.div_mul_le_self _ _;have h2:U / V*(W*m)≤U:=Nat.le_trans (Nat.mul_le_mul_left _ (by omega)) h1;rw [←Nat.mul_assoc] at h2;have h3:U / V*W*m < (T+1)*m:=by rw [Nat.add_mul,Nat.one_mul];omega
 have:=Nat.lt_of_mul_lt_mul_right h3;omega

include hW hT in
theorem guess_ge (h1:0 < v1) (hu2:u2 < b):T / W≤t / v1:=by
 rw [Nat.le_div_iff_mul_le h1];have h2:T / W*W≤T:=Nat.div_mul_le_self _ _;have h3:T / W*(v1*b)≤T:=Nat.le_trans (Nat.mul_le_mul_left _ (by omega)) h2;rw [←Nat.mul_assoc] at h3;have h4:T / W*v1*b < (t+1)*b:=by rw [Nat.add_mul,Nat.one_mul];omega
 have:=Nat.lt_of_mul_lt_mul_right h4;omega

include hW hT in
theorem qW (hqr:q*v1+r=t):q*W+r*b+u2=T+q*v2:=by
 subst hqr;rw [hW,hT,Nat.mul_add,Nat.add_mul,←Nat.mul_assoc];omega

theorem exit_le (hV:V=W*m+V') (hV':V' < m) (hW:W=v1*b+v2) (hU:U=T*m+U') (hT:T=t*b+u2) (h1:0 < v1) (hb:0 < b) (hqr:q*v1+r=t) (hq:q≤b)
  (h:q*v2≤r*b+u2):q*V < U+V:=by
 have h2:=qW hW hT hqr;have h3:q*W≤T:=by omega
 have h4:q*W*m≤T*m:=Nat.mul_le_mul_right _ h3;have h5:q*V'≤b*V':=Nat.mul_le_mul_right _ hq;have h6:b*V'≤b*m:=Nat.mul_le_mul_left _ (by omega)
 have h7:b*m≤v1*b*m:=by
  rw [Nat.mul_assoc];exact Nat.le_mul_of_pos_left _ h1
 have h8:v1*b*m≤W*m:=Nat.mul_le_mul_right _ (by omega);have h9:q*V=q*W*m+q*V':=by rw [hV,Nat.mul_add,Nat.mul_assoc]
 have h10:b*V' < b*m:=Nat.mul_lt_mul_of_pos_left hV' hb;omega

theorem stop_big (hq:q≤b) (hv:v2 < b) (hr:b≤r):q*v2≤r*b+u2:=by
 have h1:q*v2≤b*v2:=Nat.mul_le_mul_right _ hq;have h2:b*v2≤b*b:=Nat.mul_le_mul_left _ (by omega);have h3:b*b≤r*b:=Nat.mul_le_mul_right _ hr;omega

theorem go_on (hV:V=W*m+V') (hW:W=v1*b+v2) (hU:U=T*m+U') (hU':U' < m) (hT:T=t*b+u2) (h1:0 < W) (hqr:q*v1+r=t)
  (h:r*b+u2 < q*v2):U / V≤q - 1∧1≤q∧(q - 1)*v1+(r+v1)=t:=by
 have h2:=qW hW hT hqr;have h3:T < q*W:=by omega
 have h4:T / W < q:=(Nat.div_lt_iff_lt_mul h1).2 h3;have h5:=div_le hV hU hU' h1;have h6:0 < q:=Nat.lt_of_le_of_lt (Nat.zero_le _) h4;have h7:U / V < q:=Nat.lt_of_le_of_lt h5 h4;clear h4 h5;generalize U / V=x at*;refine ⟨by omega,by omega, ?_⟩;obtain ⟨k,rfl⟩:∃k,q=k+1:=⟨q - 1,by omega⟩;rw [Nat.add_mul,Nat.one_mul] at hqr;simp only [Nat.add_sub_cancel];omega
end
end Go.Proofs.YtfagcpcikjlboaaGreatDoor.QStep
namespace Go.Proofs.YtfagcpcikjlboaaGreatDoor.QDig

def digit (b V u d:Nat):Nat:=(u*b+d) / V

section
variable {b V v1 v0 u d q r:Nat}

theorem digit_lt (hu:u < V) (hd:d < b):digit b V u d < b:=by
 unfold digit;rw [Nat.div_lt_iff_lt_mul (by omega)];have h1:(u+1)*b≤V*b:=Nat.mul_le_mul_right b hu;rw [Nat.add_mul,Nat.one_mul] at h1;rw [Nat.mul_comm b V];omega

theorem jp4 (hV:0 < V) (h:q*V≤u*b+d):q≤digit b V u d:=(Nat.le_div_iff_mul_le hV).2 h
theorem jju (hV:0 < V) (h:u*b+d < q*V):digit b V u d < q:=(Nat.div_lt_iff_lt_mul hV).2 h

theorem qV (hV:V=v1*b+v0) (hqr:q*v1+r=u):q*V+r*b=u*b+q*v0:=by
 subst hqr;rw [hV,Nat.mul_add,Nat.add_mul,←Nat.mul_assoc];omega

theorem exit_small (hV:V=v1*b+v0) (h0:0 < V) (hqr:q*v1+r=u) (hge:digit b V u d≤q) (h:q*v0≤b*r+d):q=digit b V u d:=by
 refine Nat.le_antisymm (jp4 h0 ?_) hge;have:=qV hV hqr;rw [Nat.mul_comm b r] at h;omega

theorem exit_big (hV:V=v1*b+v0) (h0:0 < V) (hqr:q*v1+r=u) (hge:digit b V u d≤q) (hq:q≤b) (hv:v0 < b) (hr:b≤r):q=digit b V u d:=by
 refine exit_small hV h0 hqr hge ?_;have h1:q*v0≤b*v0:=Nat.mul_le_mul_right _ hq;have h2:b*v0≤b*r:=Nat.mul_le_mul_left _ (by omega);omega

theorem go_on (hV:V=v1*b+v0) (h0:0 < V) (hu:u < V) (hd:d < b) (hqr:q*v1+r=u) (hge:digit b V u d≤q)
  (h:b≤q∨b*r+d < q*v0):digit b V u d≤q - 1∧1≤q∧(q - 1)*v1+(r+v1)=u:=by
 have hlt:digit b V u d < q:=by
  rcases h with h|h
  ·have:=digit_lt hu hd;omega
  ·refine jju h0 ?_;have:=qV hV hqr;rw [Nat.mul_comm b r] at h;omega
 refine ⟨by omega,by omega, ?_⟩;obtain ⟨k,rfl⟩:∃k,q=k+1:=⟨q - 1,by omega⟩;rw [Nat.add_mul,Nat.one_mul] at hqr;simp only [Nat.add_sub_cancel];omega

theorem guess_ge (hV:V=v1*b+v0) (h1:0 < v1) (hd:d < b):digit b V u d≤u / v1:=by
 rw [Nat.le_div_iff_mul_le h1];have hb:0 < b:=by omega
 have h0:0 < V:=by rw [hV];have:=Nat.mul_pos h1 hb;omega
 have h2:digit b V u d*V≤u*b+d:=Nat.div_mul_le_self _ _;have h3:digit b V u d*(v1*b)≤u*b+d:=Nat.le_trans (Nat.mul_le_mul_left _ (by omega)) h2;rw [←Nat.mul_assoc] at h3;have h4:digit b V u d*v1*b < (u+1)*b:=by rw [Nat.add_mul,Nat.one_mul];omega
 have:=Nat.lt_of_mul_lt_mul_right h4;omega
theorem guess_le (hV:V=v1*b+v0) (hu:u < V) (hv:v0 < b) (hn:b≤2*v1) (hb:0 < b):u / v1≤b+1:=by
 have h1:0 < v1:=by omega
 have:u / v1 < b+2:=by
  rw [Nat.div_lt_iff_lt_mul h1];rw [Nat.add_mul,Nat.mul_comm b v1];omega
 omega
end
end Go.Proofs.YtfagcpcikjlboaaGreatDoor.QDig
namespace Go.Proofs.YtfagcpcikjlboaaGreatDoor.Dv
open Go.Lib Go.Proofs.YtfagcpcikjlboaaGreatDoor

theorem or_add {a b s:Nat} (hb:b < 2^s):(a*2^s) ||| b=a*2^s+b:=by
 rw [←Nat.shiftLeft_eq,Nat.shiftLeft_add_eq_or_of_lt hb]

theorem lead (y:Nat) (h0:0 < y) (h1:y < 18446744073709551616):∃s:Nat,s < 64∧(64 - (bitLen y:Int))=(s:Int)∧y*2^s < 18446744073709551616∧9223372036854775808≤y*2^s:=by
 have hb:=bitLenAux_bounds 64 y (by simpa using h1) (by omega)
 have hl:bitLen y≤64:=by
  rcases Nat.lt_or_ge 64 (bitLen y) with h|h
  ·exfalso;have h2:2^64≤2^(bitLen y - 1):=Nat.pow_le_pow_right (by omega) (by omega);have h3:2^(bitLen y - 1)≤y:=hb.2.1;omega
  ·exact h
 obtain ⟨k,hk⟩:∃k,bitLen y=k:=⟨_,rfl⟩;have hb1:1≤k∧2^(k - 1)≤y∧y < 2^k:=by rw [←hk];exact hb
 rw [hk] at hl ⊢;refine ⟨64 - k,by omega,by omega, ?_, ?_⟩
 ·have h4:y*2^(64 - k) < 2^k*2^(64 - k):=Nat.mul_lt_mul_of_pos_right hb1.2.2 (Nat.pow_pos (by omega));rw [←Nat.pow_add,show k+(64 - k)=64 by omega] at h4;omega
 ·have h4:2^(k - 1)*2^(64 - k)≤y*2^(64 - k):=Nat.mul_le_mul_right _ hb1.2.1;rw [←Nat.pow_add,show k - 1+(64 - k)=63 by omega] at h4;omega

section
variable {hi lo y s:Nat}
theorem shifted (hs:s < 64) (hlo:lo < 18446744073709551616):
  (hi*2^s+lo / 2^(64 - s))*18446744073709551616+lo*2^s % 18446744073709551616=(hi*18446744073709551616+lo)*2^s:=by
 have e:(18446744073709551616:Nat)=2^(64 - s)*2^s:=by rw [←Nat.pow_add,show 64 - s+s=64 by omega]
 have h1:lo*2^s / 18446744073709551616=lo / 2^(64 - s):=by
  rw [e,Nat.mul_div_mul_right _ _ (Nat.pow_pos (by omega))]
 have h2:=Nat.mod_add_div (lo*2^s) 18446744073709551616;rw [h1] at h2;rw [Nat.add_mul,Nat.add_mul,Nat.mul_right_comm];omega
theorem low_lt (hs:s < 64) (hlo:lo < 18446744073709551616):lo / 2^(64 - s) < 2^s:=by
 rw [Nat.div_lt_iff_lt_mul (Nat.pow_pos (by omega)),←Nat.pow_add,show s+(64 - s)=64 by omega];omega
theorem top_lt (hh:hi < y) (hs:s < 64) (hlo:lo < 18446744073709551616):hi*2^s+lo / 2^(64 - s) < y*2^s:=by
 have h1:=low_lt hs hlo;have h2:(hi+1)*2^s≤y*2^s:=Nat.mul_le_mul_right _ hh;rw [Nat.add_mul,Nat.one_mul] at h2;omega

theorem finish {N Y u32 u1 u0 q1 q0 u21 r b:Nat} (hY:Y=y*2^s) (hY0:0 < Y) (hM:(u32*b+u1)*b+u0=N*2^s)
  (h1:q1=(u32*b+u1) / Y) (h21:u21=u32*b+u1 - q1*Y) (h0:q0=(u21*b+u0) / Y) (hr:r=u21*b+u0 - q0*Y):
  q1*b+q0=N / y∧r / 2^s=N % y:=by
 have a1:(u32*b+u1) / Y*Y+(u32*b+u1) % Y=u32*b+u1:=Nat.div_add_mod' _ _;have a2:(u21*b+u0) / Y*Y+(u21*b+u0) % Y=u21*b+u0:=Nat.div_add_mod' _ _;have l2:(u21*b+u0) % Y < Y:=Nat.mod_lt _ hY0;rw [←h1] at a1;rw [←h0] at a2;have e21:u21+q1*Y=u32*b+u1:=by omega
 have er:r+q0*Y=u21*b+u0:=by omega
 have rl:r < Y:=by omega
 have hN:N*2^s=(q1*b+q0)*Y+r:=by
  rw [←hM,←e21,Nat.add_mul,Nat.add_mul,Nat.mul_right_comm q1 Y b];omega
 have hp:0 < 2^s:=Nat.pow_pos (by omega)
 have hy:0 < y:=by
  rcases Nat.eq_zero_or_pos y with h|h
  ·subst h;omega
  ·exact h
 have hle:(q1*b+q0)*y≤N:=by
  have:(q1*b+q0)*y*2^s≤N*2^s:=by rw [hN,hY,Nat.mul_assoc];omega
  exact Nat.le_of_mul_le_mul_right this hp
 have hrr:r=(N - (q1*b+q0)*y)*2^s:=by
  rw [Nat.sub_mul,hN,hY,Nat.mul_assoc];omega
 have hlt:N - (q1*b+q0)*y < y:=by
  rw [hrr,hY] at rl;exact Nat.lt_of_mul_lt_mul_right rl
 have hq:q1*b+q0=N / y:=by
  refine Nat.le_antisymm ((Nat.le_div_iff_mul_le hy).2 hle) ?_;have:N / y < q1*b+q0+1:=(Nat.div_lt_iff_lt_mul hy).2 (by rw [Nat.add_mul,Nat.one_mul];omega);omega
 refine ⟨hq, ?_⟩;rw [hrr,Nat.mul_div_cancel _ hp];have:=Nat.div_add_mod' N y;rw [←hq] at this;omega
end
end Go.Proofs.YtfagcpcikjlboaaGreatDoor.Dv
