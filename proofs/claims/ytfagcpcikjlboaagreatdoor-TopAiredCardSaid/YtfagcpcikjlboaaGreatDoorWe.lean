/- Parts. -/
import Derived.Test.YtfagcpcikjlboaaGreatDoorWd
import Derived.Test.YtfagcpcikjlboaaGreatDoorQStepG
set_option linter.all false
set_option maxRecDepth 100000
set_option maxHeartbeats 8000000
namespace Go.Proofs.YtfagcpcikjlboaaGreatDoor
open Go Go.RowKit Go.Proofs.Tryz

theorem jem {z:Int} {r:Nat} (h:z % 18446744073709551616=(r:Int)):IntKind.u64.wrap z=(r:Int):=by
 rw [IntKind.wrap_u64];omega
theorem jeK (x y r:Nat) (h:r=x*y % B64):IntKind.u64.wrap ((x:Int)*(y:Int))=(r:Int):=by
 apply jem;rw [h,ja3];simp
theorem jrq (x y r:Nat) (h:r=(x+y) % B64):IntKind.u64.wrap ((x:Int)+(y:Int))=(r:Int):=by
 apply jem;rw [h,ja3];simp
theorem jjl (x y r:Nat) (hy:y≤x) (hx:x < B64) (h:r=x - y):IntKind.u64.wrap ((x:Int) - (y:Int))=(r:Int):=by
 rw [ja3] at hx;apply jem;omega
theorem ju3 (x y r:Nat) (hx:x < B64) (hy:y < B64) (h:r=(x+B64 - y) % B64):IntKind.u64.wrap ((x:Int) - (y:Int))=(r:Int):=by
 rw [ja3] at hx hy h;apply jem;omega
theorem jno (x s r:Nat) (h:r=x*2^s % B64):IntKind.u64.wrap ((x:Int)*2^s)=(r:Int):=by
 apply jem;rw [h,ja3];simp
theorem jve (x y r:Nat) (hx:x < B64) (hy:y < B64) (h:r=x ||| y):bits .or .u64 (x:Int) (y:Int)=(r:Int):=by
 rw [ja3] at hx hy;have hl:x ||| y < 2^64:=Nat.or_lt_two_pow (by omega) (by omega)
 have e:∀a:Nat,a < 18446744073709551616→(BitVec.ofInt 64 (a:Int)).toNat=a:=fun a ha=>by
  rw [BitVec.ofInt_natCast,BitVec.toNat_ofNat];exact Nat.mod_eq_of_lt (by omega)
 show IntKind.u64.wrap ((BitVec.ofInt 64 (x:Int) ||| BitVec.ofInt 64 (y:Int)).toNat:Int)=_
 rw [BitVec.toNat_or,e x hx,e y hy,h];apply jem;omega
theorem jnn (x r:Nat) (hx:x < B64) (h:r=x % 4294967296):bits .and .u64 (x:Int) 4294967295=(r:Int):=by
 rw [ja3] at hx
 have e:∀a:Nat,a < 18446744073709551616→(BitVec.ofInt 64 (a:Int)).toNat=a:=fun a ha=>by
  rw [BitVec.ofInt_natCast,BitVec.toNat_ofNat];exact Nat.mod_eq_of_lt (by omega)
 show IntKind.u64.wrap ((BitVec.ofInt 64 (x:Int) &&& BitVec.ofInt 64 ((4294967295:Nat):Int)).toNat:Int)=_
 rw [BitVec.toNat_and,e x hx,e 4294967295 (by omega),h];have e2:x &&& 4294967295=x % 4294967296:=Nat.and_two_pow_sub_one_eq_mod x 32;rw [e2];apply jem;omega

theorem jfW (y s:Nat) (h0:0 < y) (hy:y < B64) (hs:(64 - (Lib.bitLen y:Int))=(s:Int)) (w:World):
  Calls prog 178 #[.int .u64 (y:Int)] w fun e w'=>e= .returned (.int .i64 (s:Int))∧w'=w:=by
 rw [←hs];rw [ja3] at hy;have:=Tryz.bits_LeadingZeros64 (y:Int) w (by omega) (by omega);rw [Int.toNat_natCast] at this;exact this

def jc7 (N y:Nat) (w:World) (e:Ending) (w':World):Prop:=
 e= .returned (.tuple #[.int .u64 ((N / y:Nat):Int), .int .u64 ((N % y:Nat):Int)])∧∃m,w'=w.drewN m
theorem jmA {N y q r:Nat} {w:World} {v:Value} {m:Nat} (hv:v= .tuple #[.int .u64 (q:Int), .int .u64 (r:Int)]) (hq:q=N / y) (hr:r=N % y):jc7 N y w (.returned v) (w.drewN m):=
 ⟨by rw [hv,hq,hr],m,rfl⟩

theorem jiR (lo y:Nat) (h0:0 < y) (hlo:lo < B64) (hy:y < B64) (w:World):
  Calls prog 177 #[.int .u64 0, .int .u64 (lo:Int), .int .u64 (y:Int)] w (jc7 lo y w):=by
 rw [ja3] at hlo hy;have b1:(((y:Nat):Int)==0)=false:=by rw [beq_eq_false_iff_ne];omega
 have b2:(0:Int) < (y:Int):=by omega
 have b4:(y:Int)≠0:=by omega
 obtain ⟨q,hq⟩:∃q,q=lo / y:=⟨_,rfl⟩;obtain ⟨r,hr⟩:∃r,r=lo % y:=⟨_,rfl⟩;have b5:q < 18446744073709551616:=by rw [hq];exact Nat.lt_of_le_of_lt (Nat.div_le_self _ _) hlo
 have b6:r < 18446744073709551616:=by rw [hr];exact Nat.lt_of_le_of_lt (Nat.mod_le _ _) hlo
 have e1:((lo:Int) / (y:Int))=(q:Int):=by rw [hq];simp
 have e2:((lo:Int) % (y:Int))=(r:Int):=by rw [hr];simp
 have HQ:=qh hq;have HR:=qh hr;clear hq hr;go_enter func177,ntmps177;go_wp2
 go_quiet (fail)
 go_wp2;go_ret2;exact jmA (q:=q) (r:=r) (by simp [e2]) HQ.o HR.o

theorem jcu {Y yn1 yn0 u d q r:Nat} (hY:Y=yn1*4294967296+yn0) (hY0:0 < Y) (hv:yn0 < 4294967296) (hu:u < Y) (hd:d < 4294967296) (hr:r < 4294967296) (hqr:q*yn1+r=u)
  (hge:QDig.digit 4294967296 Y u d≤q):
  (4294967296≤q∨4294967296*r+d < q*yn0)∧QDig.digit 4294967296 Y u d≤q - 1∧1≤q∧(q - 1)*yn1+(r+yn1)=u
    ∨(q < 4294967296∧q*yn0≤4294967296*r+d)∧q=QDig.digit 4294967296 Y u d:=by
 rcases Nat.lt_or_ge q 4294967296 with h1|h1
 ·rcases Nat.lt_or_ge (4294967296*r+d) (q*yn0) with h2|h2
  ·exact .inl ⟨.inr h2,QDig.go_on hY hY0 hu hd hqr hge (.inr h2)⟩
  ·exact .inr ⟨⟨h1,h2⟩,QDig.exit_small hY hY0 hqr hge h2⟩
 ·exact .inl ⟨.inl h1,QDig.go_on hY hY0 hu hd hqr hge (.inl h1)⟩

theorem jpP (a b:Nat) (h:b≤a) (hv:a - b < B64):(a % B64+B64 - b % B64) % B64=a - b:=by
 rw [ja3] at*;omega
theorem jay {u d q Y:Nat} (hY0:0 < Y) (hY:Y < B64) (hq:q=(u*4294967296+d) / Y):∃x1 x2 x3 v:Nat,IntKind.u64.wrap ((u:Int)*4294967296)=(x1:Int)∧IntKind.u64.wrap ((x1:Int)+(d:Int))=(x2:Int)∧
  IntKind.u64.wrap ((q:Int)*(Y:Int))=(x3:Int)∧IntKind.u64.wrap ((x2:Int) - (x3:Int))=(v:Int)∧v=u*4294967296+d - q*Y∧v < Y:=by
 have h1:=Nat.div_add_mod' (u*4294967296+d) Y;have h2:=Nat.mod_lt (u*4294967296+d) hY0;rw [←hq] at h1;refine ⟨u*4294967296 % B64,(u*4294967296 % B64+d) % B64,q*Y % B64,u*4294967296+d - q*Y,jeK u 4294967296 _ rfl,jrq _ _ _ rfl,jeK _ _ _ rfl, ?_,rfl,by omega⟩;refine ju3 _ _ _ (Nat.mod_lt _ ja6) (Nat.mod_lt _ ja6) ?_;rw [Nat.mod_add_mod,jpP _ _ (by omega) (by omega)]
theorem jdh {v d Y yn1 yn0:Nat} (hY:Y=yn1*4294967296+yn0) (hv:v < Y) (h0:yn0 < 4294967296) (h1:2147483648≤yn1) (h2:yn1 < 4294967296) (hd:d < 4294967296):∃qa pa ra:Nat,((v:Int) / (yn1:Int))=(qa:Int)∧
  IntKind.u64.wrap ((qa:Int)*(yn1:Int))=(pa:Int)∧IntKind.u64.wrap ((v:Int) - (pa:Int))=(ra:Int)∧qa≤4294967297∧ra < 4294967296∧qa*yn1+ra=v∧QDig.digit 4294967296 Y v d≤qa:=by
 have hd1:=Nat.div_add_mod' v yn1;have hd2:=Nat.mod_lt v (show 0 < yn1 by omega)
 refine ⟨v / yn1,v / yn1*yn1,v - v / yn1*yn1,by simp,jeK _ _ _ (by rw [Nat.mod_eq_of_lt];rw [ja3];omega),jjl _ _ _ (by omega) (by rw [ja3];omega) rfl,
  QDig.guess_le hY hv h0 (by omega) (by omega),by omega,by omega,QDig.guess_ge hY (by omega) hd⟩

theorem jaL {N y q r:Nat} {w:World} {v:Value} (hv:v= .tuple #[.int .u64 (q:Int), .int .u64 (r:Int)]) (hq:q=N / y) (hr:r=N % y):jc7 N y w (.returned v) w:=
 ⟨by rw [hv,hq,hr],0,rfl⟩




theorem jmr (hi lo y:Nat) (h0:0 < hi) (hh:hi < y) (hlo:lo < B64) (hy:y < B64) (w:World):
  Calls prog 177 #[.int .u64 (hi:Int), .int .u64 (lo:Int), .int .u64 (y:Int)] w (jc7 (hi*B64+lo) y w):=by
 have hy0:0 < y:=by omega
 obtain ⟨s,hs,hbl,hn1,hn2⟩:=Dv.lead y hy0 hy;have hsh:=Dv.shifted (hi:=hi) hs hlo;have htl:=Dv.top_lt hh hs hlo;have hll:=Dv.low_lt hs hlo;rw [ja3] at hlo hy;have b1:(((y:Nat):Int)==0)=false:=by rw [beq_eq_false_iff_ne];omega
 have b2:(((hi:Nat):Int)==0)=false:=by rw [beq_eq_false_iff_ne];omega
 have b3:¬(y:Int)≤(hi:Int):=by omega
 -- the names
 obtain ⟨Y,hY⟩:∃q,q=y*2^s:=⟨_,rfl⟩;obtain ⟨t1,ht1⟩:∃q,q=hi*2^s:=⟨_,rfl⟩;obtain ⟨t2,ht2⟩:∃q,q=lo / 2^(64 - s):=⟨_,rfl⟩;obtain ⟨M,hM⟩:∃q,q=lo*2^s % B64:=⟨_,rfl⟩;rw [←hY] at hn1 hn2 htl;rw [←ht1,←ht2] at hsh htl;rw [←ht2] at hll;rw [←ja3,←hM] at hsh;obtain ⟨u,hu⟩:∃q,q=t1+t2:=⟨_,rfl⟩;rw [←hu] at hsh htl;obtain ⟨yn1,hyn1⟩:∃q,q=Y / 4294967296:=⟨_,rfl⟩;obtain ⟨yn0,hyn0⟩:∃q,q=Y % 4294967296:=⟨_,rfl⟩;obtain ⟨un1,hun1⟩:∃q,q=M / 4294967296:=⟨_,rfl⟩;obtain ⟨un0,hun0⟩:∃q,q=M % 4294967296:=⟨_,rfl⟩;have hMlt:M < B64:=by rw [hM];exact Nat.mod_lt _ ja6
 rw [ja3] at hMlt;have s1:=jno y s Y (by rw [hY,Nat.mod_eq_of_lt];rw [←hY,ja3];omega);have s2:=jno hi s t1 (by rw [←ht1,Nat.mod_eq_of_lt];rw [ja3];omega);have s3:=jno lo s M hM;have s4:=jve t1 t2 u (by rw [ja3];omega) (by rw [ja3];omega) (by rw [ht1,Dv.or_add hll,←ht1];omega);have s5:((lo:Int) / 2^(64 - s))=(t2:Int):=by rw [ht2];simp
 have s6:=jnn Y yn0 (by rw [ja3];omega) hyn0;have s7:((Y:Int) / 4294967296)=(yn1:Int):=by omega
 have s8:((M:Int) / 4294967296)=(un1:Int):=by omega
 have s9:=jnn M un0 (by rw [ja3];omega) hun0;have hYY:Y=yn1*4294967296+yn0:=by omega
 have hY0:0 < Y:=by omega
 have hy1:yn1 < 4294967296:=by omega
 have hy2:2147483648≤yn1:=by omega
 have hy3:yn0 < 4294967296:=by omega
 have hm1:un1 < 4294967296:=by omega
 have hm0:un0 < 4294967296:=by omega
 obtain ⟨qa,pa,ra,d0,d2,d3,hqb,hra,hqr,hga⟩:=jdh hYY htl hy3 hy2 hy1 hm1
 have hsh2:(u*4294967296+un1)*4294967296+un0=(hi*B64+lo)*2^s:=by
  rw [←hsh,ja3,hun1,hun0];omega
 have H11:=qh hsh2;clear hsh2;have K1:=qh hYY;have K2:=qh hqr;have K3:=qh hga;have L1:=jfW y s hy0 (by rw [ja3];omega) hbl;have HL1:=qh L1;clear L1;have H1:=qh hY;have H2:=qh ht1;have H3:=qh ht2;have H4:=qh hM;have H5:=qh hu;have H6:=qh hyn1;have H7:=qh hyn0;have H8:=qh hun1;have H9:=qh hun0;have H10:=qh hsh;clear hY ht1 ht2 hM hu hyn1 hyn0 hun1 hun0 hsh hbl hll hYY hqr hga;go_enter func177,ntmps177;go_wp2_with (go_at_call 178;((with_reducible refine (HL1.o _).mono ?_);rintro e w1 ⟨rfl,rfl⟩))
 go_loop [15,16] (fun a b=>∃q r:Nat,a= .int .u64 (q:Int)∧b= .int .u64 (r:Int)∧r < 4294967296∧q≤4294967297∧Hd (q*yn1+r=u)∧Hd (QDig.digit 4294967296 Y u un1≤q)) (fun a _=>(intOf a).toNat)
 case atStart=>exact ⟨qa,ra,rfl,rfl,hra,hqb,K2,K3⟩
 case round=>
  obtain ⟨q,r,rfl,rfl,hr,hq,G1,G2⟩:=hrel;rcases jcu K1.o hY0 hy3 htl hm1 (by assumption) G1.o G2.o with ⟨c1,c2,c3,c4⟩|⟨⟨c1,c2⟩,c3⟩
  ·obtain ⟨k,rfl⟩:∃k,q=k+1:=⟨q - 1,by omega⟩;simp only [Nat.add_sub_cancel] at c2 c4;rcases Nat.lt_or_ge (k+1) 4294967296 with e1|e1
   ·have hmm1:(k+1)*yn0≤4294967295*4294967295:=Nat.mul_le_mul (by omega) (by omega);have m:=jeK (k+1) yn0 ((k+1)*yn0) (by rw [Nat.mod_eq_of_lt];rw [ja3];omega);obtain ⟨mm,hmm⟩:∃m,m=(k+1)*yn0:=⟨_,rfl⟩;rw [←hmm] at m c1;simp only [Int.natCast_add,Int.natCast_one] at m;have c2':(4294967296*(r:Int)+(un1:Int) < (mm:Int)):=by omega
    have c1':¬(4294967296:Int)≤(k:Int)+1:=by omega
    have k1:k≤4294967297:=by omega
    clear hmm hmm1 e1;rcases Nat.lt_or_ge (r+yn1) 4294967296 with e2|e2
    ·have e3:¬(4294967296:Int)≤(r:Int)+(yn1:Int):=by omega
     have C2:=qh c2;have C4:=qh c4;clear c1 c2 c4;go_wp2;exact ⟨⟨k,r+yn1,rfl,by simp only [Int.natCast_add],e2,k1,C4,C2⟩,by simp [intOf]⟩
    ·have e3:(4294967296:Int)≤(r:Int)+(yn1:Int):=by omega
     have cc:=QDig.exit_big K1.o hY0 c4 c2 (by omega) hy3 e2;clear e2 c4;have hlt1:k < 4294967296:=by rw [cc];exact QDig.digit_lt htl hm1
     obtain ⟨x1,x2,x3,v,n1,n2,n3,n4,n5,n6⟩:=jay hY0 (by rw [ja3];omega) cc;obtain ⟨qb,pb,rb,o1,o2,o3,o4,o5,o6,o7⟩:=jdh K1.o n6 hy3 hy2 hy1 hm0;have N5:=qh n5;have O6:=qh o6;have O7:=qh o7;have P1:=qh cc;clear cc n5 o6 o7 c1 c2;go_wp2
     go_loop [18,16] (fun a b=>∃q r:Nat,a= .int .u64 (q:Int)∧b= .int .u64 (r:Int)∧r < 4294967296∧q≤4294967297∧Hd (q*yn1+r=v)∧Hd (QDig.digit 4294967296 Y v un0≤q)) (fun a _=>(intOf a).toNat)
     case atStart=>exact ⟨qb,rb,rfl,rfl,o5,o4,O6,O7⟩
     case round=>
      obtain ⟨q2,r2,rfl,rfl,hr2,hq2,G1,G2⟩:=hrel;rcases jcu K1.o hY0 hy3 n6 hm0 (by assumption) G1.o G2.o with ⟨c1,c2,c3,c4⟩|⟨⟨c1,c2⟩,c3⟩
      ·obtain ⟨k,rfl⟩:∃k,q2=k+1:=⟨q2 - 1,by omega⟩;simp only [Nat.add_sub_cancel] at c2 c4;rcases Nat.lt_or_ge (k+1) 4294967296 with e1|e1
       ·have hmm1:(k+1)*yn0≤4294967295*4294967295:=Nat.mul_le_mul (by omega) (by omega);have m:=jeK (k+1) yn0 ((k+1)*yn0) (by rw [Nat.mod_eq_of_lt];rw [ja3];omega);obtain ⟨mm,hmm⟩:∃m,m=(k+1)*yn0:=⟨_,rfl⟩;rw [←hmm] at m c1;simp only [Int.natCast_add,Int.natCast_one] at m;have c2':(4294967296*(r2:Int)+(un0:Int) < (mm:Int)):=by omega
        have c1':¬(4294967296:Int)≤(k:Int)+1:=by omega
        have k1:k≤4294967297:=by omega
        clear hmm hmm1 e1;rcases Nat.lt_or_ge (r2+yn1) 4294967296 with e2|e2
        ·have e3:¬(4294967296:Int)≤(r2:Int)+(yn1:Int):=by omega
         have C2:=qh c2;have C4:=qh c4;clear c1 c2 c4;go_wp2;exact ⟨⟨k,r2+yn1,rfl,by simp only [Int.natCast_add],e2,k1,C4,C2⟩,by simp [intOf]⟩
        ·have e3:(4294967296:Int)≤(r2:Int)+(yn1:Int):=by omega
         have cc:=QDig.exit_big K1.o hY0 c4 c2 (by omega) hy3 e2;clear e2 c4;have hlt0:k < 4294967296:=by rw [cc];exact QDig.digit_lt n6 hm0
         obtain ⟨z1,z2,z3,rr,y1,y2,y3,y4,y5,y6⟩:=jay hY0 (by rw [ja3];omega) cc;obtain ⟨rm,hrm⟩:∃r,r=rr / 2^s:=⟨_,rfl⟩;have y7:((rr:Int) / 2^s)=(rm:Int):=by rw [hrm];simp
         have hrb:rm < 18446744073709551616:=by rw [hrm];exact Nat.lt_of_le_of_lt (Nat.div_le_self _ _) (by omega)
         have fin:=Dv.finish (N:=hi*B64+lo) (r:=rr) H1.o hY0 H11.o P1.o N5.o cc y5;rw [←hrm] at fin;have F1:=qh fin.1;have F2:=qh fin.2;clear fin y5 cc hrm c1 c2;go_wp2;go_ret2;exact jaL (by simp) F1.o F2.o
       ·have c1':(4294967296:Int)≤(k:Int)+1:=by omega
        have k1:k≤4294967296:=by omega
        clear e1;rcases Nat.lt_or_ge (r2+yn1) 4294967296 with e2|e2
        ·have e3:¬(4294967296:Int)≤(r2:Int)+(yn1:Int):=by omega
         have C2:=qh c2;have C4:=qh c4;clear c1 c2 c4;go_wp2;exact ⟨⟨k,r2+yn1,rfl,by simp only [Int.natCast_add],e2,by omega,C4,C2⟩,by simp [intOf]⟩
        ·have e3:(4294967296:Int)≤(r2:Int)+(yn1:Int):=by omega
         have cc:=QDig.exit_big K1.o hY0 c4 c2 k1 hy3 e2;clear e2 c4;have hlt0:k < 4294967296:=by rw [cc];exact QDig.digit_lt n6 hm0
         obtain ⟨z1,z2,z3,rr,y1,y2,y3,y4,y5,y6⟩:=jay hY0 (by rw [ja3];omega) cc;obtain ⟨rm,hrm⟩:∃r,r=rr / 2^s:=⟨_,rfl⟩;have y7:((rr:Int) / 2^s)=(rm:Int):=by rw [hrm];simp
         have hrb:rm < 18446744073709551616:=by rw [hrm];exact Nat.lt_of_le_of_lt (Nat.div_le_self _ _) (by omega)
         have fin:=Dv.finish (N:=hi*B64+lo) (r:=rr) H1.o hY0 H11.o P1.o N5.o cc y5;rw [←hrm] at fin;have F1:=qh fin.1;have F2:=qh fin.2;clear fin y5 cc hrm c1 c2;go_wp2;go_ret2;exact jaL (by simp) F1.o F2.o
      ·have m:=jeK q2 yn0 (q2*yn0) (by rw [Nat.mod_eq_of_lt];rw [ja3];omega);obtain ⟨mm,hmm⟩:∃m,m=q2*yn0:=⟨_,rfl⟩;rw [←hmm] at m c2;have c2':¬(4294967296*(r2:Int)+(un0:Int) < (mm:Int)):=by omega
       have c1':¬(4294967296:Int)≤(q2:Int):=by omega
       clear hmm;have hlt0:q2 < 4294967296:=by rw [c3];exact QDig.digit_lt n6 hm0
       obtain ⟨z1,z2,z3,rr,y1,y2,y3,y4,y5,y6⟩:=jay hY0 (by rw [ja3];omega) c3;obtain ⟨rm,hrm⟩:∃r,r=rr / 2^s:=⟨_,rfl⟩;have y7:((rr:Int) / 2^s)=(rm:Int):=by rw [hrm];simp
       have hrb:rm < 18446744073709551616:=by rw [hrm];exact Nat.lt_of_le_of_lt (Nat.div_le_self _ _) (by omega)
       have fin:=Dv.finish (N:=hi*B64+lo) (r:=rr) H1.o hY0 H11.o P1.o N5.o c3 y5;rw [←hrm] at fin;have F1:=qh fin.1;have F2:=qh fin.2;clear fin y5 c3 hrm c1 c2;go_wp2;go_ret2;exact jaL (by simp) F1.o F2.o
   ·have c1':(4294967296:Int)≤(k:Int)+1:=by omega
    have k1:k≤4294967296:=by omega
    clear e1;rcases Nat.lt_or_ge (r+yn1) 4294967296 with e2|e2
    ·have e3:¬(4294967296:Int)≤(r:Int)+(yn1:Int):=by omega
     have C2:=qh c2;have C4:=qh c4;clear c1 c2 c4;go_wp2;exact ⟨⟨k,r+yn1,rfl,by simp only [Int.natCast_add],e2,by omega,C4,C2⟩,by simp [intOf]⟩
    ·have e3:(4294967296:Int)≤(r:Int)+(yn1:Int):=by omega
     have cc:=QDig.exit_big K1.o hY0 c4 c2 k1 hy3 e2;clear e2 c4;have hlt1:k < 4294967296:=by rw [cc];exact QDig.digit_lt htl hm1
     obtain ⟨x1,x2,x3,v,n1,n2,n3,n4,n5,n6⟩:=jay hY0 (by rw [ja3];omega) cc;obtain ⟨qb,pb,rb,o1,o2,o3,o4,o5,o6,o7⟩:=jdh K1.o n6 hy3 hy2 hy1 hm0;have N5:=qh n5;have O6:=qh o6;have O7:=qh o7;have P1:=qh cc;clear cc n5 o6 o7 c1 c2;go_wp2
     go_loop [18,16] (fun a b=>∃q r:Nat,a= .int .u64 (q:Int)∧b= .int .u64 (r:Int)∧r < 4294967296∧q≤4294967297∧Hd (q*yn1+r=v)∧Hd (QDig.digit 4294967296 Y v un0≤q)) (fun a _=>(intOf a).toNat)
     case atStart=>exact ⟨qb,rb,rfl,rfl,o5,o4,O6,O7⟩
     case round=>
      obtain ⟨q2,r2,rfl,rfl,hr2,hq2,G1,G2⟩:=hrel;rcases jcu K1.o hY0 hy3 n6 hm0 (by assumption) G1.o G2.o with ⟨c1,c2,c3,c4⟩|⟨⟨c1,c2⟩,c3⟩
      ·obtain ⟨k,rfl⟩:∃k,q2=k+1:=⟨q2 - 1,by omega⟩;simp only [Nat.add_sub_cancel] at c2 c4;rcases Nat.lt_or_ge (k+1) 4294967296 with e1|e1
       ·have hmm1:(k+1)*yn0≤4294967295*4294967295:=Nat.mul_le_mul (by omega) (by omega);have m:=jeK (k+1) yn0 ((k+1)*yn0) (by rw [Nat.mod_eq_of_lt];rw [ja3];omega);obtain ⟨mm,hmm⟩:∃m,m=(k+1)*yn0:=⟨_,rfl⟩;rw [←hmm] at m c1;simp only [Int.natCast_add,Int.natCast_one] at m;have c2':(4294967296*(r2:Int)+(un0:Int) < (mm:Int)):=by omega
        have c1':¬(4294967296:Int)≤(k:Int)+1:=by omega
        have k1:k≤4294967297:=by omega
        clear hmm hmm1 e1;rcases Nat.lt_or_ge (r2+yn1) 4294967296 with e2|e2
        ·have e3:¬(4294967296:Int)≤(r2:Int)+(yn1:Int):=by omega
         have C2:=qh c2;have C4:=qh c4;clear c1 c2 c4;go_wp2;exact ⟨⟨k,r2+yn1,rfl,by simp only [Int.natCast_add],e2,k1,C4,C2⟩,by simp [intOf]⟩
        ·have e3:(4294967296:Int)≤(r2:Int)+(yn1:Int):=by omega
         have cc:=QDig.exit_big K1.o hY0 c4 c2 (by omega) hy3 e2;clear e2 c4;have hlt0:k < 4294967296:=by rw [cc];exact QDig.digit_lt n6 hm0
         obtain ⟨z1,z2,z3,rr,y1,y2,y3,y4,y5,y6⟩:=jay hY0 (by rw [ja3];omega) cc;obtain ⟨rm,hrm⟩:∃r,r=rr / 2^s:=⟨_,rfl⟩;have y7:((rr:Int) / 2^s)=(rm:Int):=by rw [hrm];simp
         have hrb:rm < 18446744073709551616:=by rw [hrm];exact Nat.lt_of_le_of_lt (Nat.div_le_self _ _) (by omega)
         have fin:=Dv.finish (N:=hi*B64+lo) (r:=rr) H1.o hY0 H11.o P1.o N5.o cc y5;rw [←hrm] at fin;have F1:=qh fin.1;have F2:=qh fin.2;clear fin y5 cc hrm c1 c2;go_wp2;go_ret2;exact jaL (by simp) F1.o F2.o
       ·have c1':(4294967296:Int)≤(k:Int)+1:=by omega
        have k1:k≤4294967296:=by omega
        clear e1;rcases Nat.lt_or_ge (r2+yn1) 4294967296 with e2|e2
        ·have e3:¬(4294967296:Int)≤(r2:Int)+(yn1:Int):=by omega
         have C2:=qh c2;have C4:=qh c4;clear c1 c2 c4;go_wp2;exact ⟨⟨k,r2+yn1,rfl,by simp only [Int.natCast_add],e2,by omega,C4,C2⟩,by simp [intOf]⟩
        ·have e3:(4294967296:Int)≤(r2:Int)+(yn1:Int):=by omega
         have cc:=QDig.exit_big K1.o hY0 c4 c2 k1 hy3 e2;clear e2 c4;have hlt0:k < 4294967296:=by rw [cc];exact QDig.digit_lt n6 hm0
         obtain ⟨z1,z2,z3,rr,y1,y2,y3,y4,y5,y6⟩:=jay hY0 (by rw [ja3];omega) cc;obtain ⟨rm,hrm⟩:∃r,r=rr / 2^s:=⟨_,rfl⟩;have y7:((rr:Int) / 2^s)=(rm:Int):=by rw [hrm];simp
         have hrb:rm < 18446744073709551616:=by rw [hrm];exact Nat.lt_of_le_of_lt (Nat.div_le_self _ _) (by omega)
         have fin:=Dv.finish (N:=hi*B64+lo) (r:=rr) H1.o hY0 H11.o P1.o N5.o cc y5;rw [←hrm] at fin;have F1:=qh fin.1;have F2:=qh fin.2;clear fin y5 cc hrm c1 c2;go_wp2;go_ret2;exact jaL (by simp) F1.o F2.o
      ·have m:=jeK q2 yn0 (q2*yn0) (by rw [Nat.mod_eq_of_lt];rw [ja3];omega);obtain ⟨mm,hmm⟩:∃m,m=q2*yn0:=⟨_,rfl⟩;rw [←hmm] at m c2;have c2':¬(4294967296*(r2:Int)+(un0:Int) < (mm:Int)):=by omega
       have c1':¬(4294967296:Int)≤(q2:Int):=by omega
       clear hmm;have hlt0:q2 < 4294967296:=by rw [c3];exact QDig.digit_lt n6 hm0
       obtain ⟨z1,z2,z3,rr,y1,y2,y3,y4,y5,y6⟩:=jay hY0 (by rw [ja3];omega) c3;obtain ⟨rm,hrm⟩:∃r,r=rr / 2^s:=⟨_,rfl⟩;have y7:((rr:Int) / 2^s)=(rm:Int):=by rw [hrm];simp
       have hrb:rm < 18446744073709551616:=by rw [hrm];exact Nat.lt_of_le_of_lt (Nat.div_le_self _ _) (by omega)
       have fin:=Dv.finish (N:=hi*B64+lo) (r:=rr) H1.o hY0 H11.o P1.o N5.o c3 y5;rw [←hrm] at fin;have F1:=qh fin.1;have F2:=qh fin.2;clear fin y5 c3 hrm c1 c2;go_wp2;go_ret2;exact jaL (by simp) F1.o F2.o
  ·have m:=jeK q yn0 (q*yn0) (by rw [Nat.mod_eq_of_lt];rw [ja3];omega);obtain ⟨mm,hmm⟩:∃m,m=q*yn0:=⟨_,rfl⟩;rw [←hmm] at m c2;have c2':¬(4294967296*(r:Int)+(un1:Int) < (mm:Int)):=by omega
   have c1':¬(4294967296:Int)≤(q:Int):=by omega
   clear hmm;have hlt1:q < 4294967296:=by rw [c3];exact QDig.digit_lt htl hm1
   obtain ⟨x1,x2,x3,v,n1,n2,n3,n4,n5,n6⟩:=jay hY0 (by rw [ja3];omega) c3;obtain ⟨qb,pb,rb,o1,o2,o3,o4,o5,o6,o7⟩:=jdh K1.o n6 hy3 hy2 hy1 hm0;have N5:=qh n5;have O6:=qh o6;have O7:=qh o7;have P1:=qh c3;clear c3 n5 o6 o7 c1 c2;go_wp2
   go_loop [18,16] (fun a b=>∃q r:Nat,a= .int .u64 (q:Int)∧b= .int .u64 (r:Int)∧r < 4294967296∧q≤4294967297∧Hd (q*yn1+r=v)∧Hd (QDig.digit 4294967296 Y v un0≤q)) (fun a _=>(intOf a).toNat)
   case atStart=>exact ⟨qb,rb,rfl,rfl,o5,o4,O6,O7⟩
   case round=>
    obtain ⟨q2,r2,rfl,rfl,hr2,hq2,G1,G2⟩:=hrel;rcases jcu K1.o hY0 hy3 n6 hm0 (by assumption) G1.o G2.o with ⟨c1,c2,c3,c4⟩|⟨⟨c1,c2⟩,c3⟩
    ·obtain ⟨k,rfl⟩:∃k,q2=k+1:=⟨q2 - 1,by omega⟩;simp only [Nat.add_sub_cancel] at c2 c4;rcases Nat.lt_or_ge (k+1) 4294967296 with e1|e1
     ·have hmm1:(k+1)*yn0≤4294967295*4294967295:=Nat.mul_le_mul (by omega) (by omega);have m:=jeK (k+1) yn0 ((k+1)*yn0) (by rw [Nat.mod_eq_of_lt];rw [ja3];omega);obtain ⟨mm,hmm⟩:∃m,m=(k+1)*yn0:=⟨_,rfl⟩;rw [←hmm] at m c1;simp only [Int.natCast_add,Int.natCast_one] at m;have c2':(4294967296*(r2:Int)+(un0:Int) < (mm:Int)):=by omega
      have c1':¬(4294967296:Int)≤(k:Int)+1:=by omega
      have k1:k≤4294967297:=by omega
      clear hmm hmm1 e1;rcases Nat.lt_or_ge (r2+yn1) 4294967296 with e2|e2
      ·have e3:¬(4294967296:Int)≤(r2:Int)+(yn1:Int):=by omega
       have C2:=qh c2;have C4:=qh c4;clear c1 c2 c4;go_wp2;exact ⟨⟨k,r2+yn1,rfl,by simp only [Int.natCast_add],e2,k1,C4,C2⟩,by simp [intOf]⟩
      ·have e3:(4294967296:Int)≤(r2:Int)+(yn1:Int):=by omega
       have cc:=QDig.exit_big K1.o hY0 c4 c2 (by omega) hy3 e2;clear e2 c4;have hlt0:k < 4294967296:=by rw [cc];exact QDig.digit_lt n6 hm0
       obtain ⟨z1,z2,z3,rr,y1,y2,y3,y4,y5,y6⟩:=jay hY0 (by rw [ja3];omega) cc;obtain ⟨rm,hrm⟩:∃r,r=rr / 2^s:=⟨_,rfl⟩;have y7:((rr:Int) / 2^s)=(rm:Int):=by rw [hrm];simp
       have hrb:rm < 18446744073709551616:=by rw [hrm];exact Nat.lt_of_le_of_lt (Nat.div_le_self _ _) (by omega)
       have fin:=Dv.finish (N:=hi*B64+lo) (r:=rr) H1.o hY0 H11.o P1.o N5.o cc y5;rw [←hrm] at fin;have F1:=qh fin.1;have F2:=qh fin.2;clear fin y5 cc hrm c1 c2;go_wp2;go_ret2;exact jaL (by simp) F1.o F2.o
     ·have c1':(4294967296:Int)≤(k:Int)+1:=by omega
      have k1:k≤4294967296:=by omega
      clear e1;rcases Nat.lt_or_ge (r2+yn1) 4294967296 with e2|e2
      ·have e3:¬(4294967296:Int)≤(r2:Int)+(yn1:Int):=by omega
       have C2:=qh c2;have C4:=qh c4;clear c1 c2 c4;go_wp2;exact ⟨⟨k,r2+yn1,rfl,by simp only [Int.natCast_add],e2,by omega,C4,C2⟩,by simp [intOf]⟩
      ·have e3:(4294967296:Int)≤(r2:Int)+(yn1:Int):=by omega
       have cc:=QDig.exit_big K1.o hY0 c4 c2 k1 hy3 e2;clear e2 c4;have hlt0:k < 4294967296:=by rw [cc];exact QDig.digit_lt n6 hm0
       obtain ⟨z1,z2,z3,rr,y1,y2,y3,y4,y5,y6⟩:=jay hY0 (by rw [ja3];omega) cc;obtain ⟨rm,hrm⟩:∃r,r=rr / 2^s:=⟨_,rfl⟩;have y7:((rr:Int) / 2^s)=(rm:Int):=by rw [hrm];simp
       have hrb:rm < 18446744073709551616:=by rw [hrm];exact Nat.lt_of_le_of_lt (Nat.div_le_self _ _) (by omega)
       have fin:=Dv.finish (N:=hi*B64+lo) (r:=rr) H1.o hY0 H11.o P1.o N5.o cc y5;rw [←hrm] at fin;have F1:=qh fin.1;have F2:=qh fin.2;clear fin y5 cc hrm c1 c2;go_wp2;go_ret2;exact jaL (by simp) F1.o F2.o
    ·have m:=jeK q2 yn0 (q2*yn0) (by rw [Nat.mod_eq_of_lt];rw [ja3];omega);obtain ⟨mm,hmm⟩:∃m,m=q2*yn0:=⟨_,rfl⟩;rw [←hmm] at m c2;have c2':¬(4294967296*(r2:Int)+(un0:Int) < (mm:Int)):=by omega
     have c1':¬(4294967296:Int)≤(q2:Int):=by omega
     clear hmm;have hlt0:q2 < 4294967296:=by rw [c3];exact QDig.digit_lt n6 hm0
     obtain ⟨z1,z2,z3,rr,y1,y2,y3,y4,y5,y6⟩:=jay hY0 (by rw [ja3];omega) c3;obtain ⟨rm,hrm⟩:∃r,r=rr / 2^s:=⟨_,rfl⟩;have y7:((rr:Int) / 2^s)=(rm:Int):=by rw [hrm];simp
     have hrb:rm < 18446744073709551616:=by rw [hrm];exact Nat.lt_of_le_of_lt (Nat.div_le_self _ _) (by omega)
     have fin:=Dv.finish (N:=hi*B64+lo) (r:=rr) H1.o hY0 H11.o P1.o N5.o c3 y5;rw [←hrm] at fin;have F1:=qh fin.1;have F2:=qh fin.2;clear fin y5 c3 hrm c1 c2;go_wp2;go_ret2;exact jaL (by simp) F1.o F2.o
end Go.Proofs.YtfagcpcikjlboaaGreatDoor
