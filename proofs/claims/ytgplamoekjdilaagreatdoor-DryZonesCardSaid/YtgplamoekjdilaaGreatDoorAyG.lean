/- Parts. -/
import Derived.Test.YtgplamoekjdilaaGreatDoorAvG
set_option linter.all false
set_option maxRecDepth 100000
set_option maxHeartbeats 8000000
namespace Go.Proofs.YtgplamoekjdilaaGreatDoor
open Go Go.RowKit Go.Sort Go.Proofs.Tryz

section
variable {w:World} {A B:Option Addr} {n m c d:Nat} {ps qs:List Zn}
end
section
variable {w:World} {A B:Option Addr} {n cap m c2:Nat} {hs:List Hr} {c:Clim} {x y z:Rat}
end

theorem jz1 {hs:List Hr} {c:Clim}:∀i,(∀j,j < i→jhG (hs.getD j (0,0)) c=true)→jwG hs c i=i
 | 0,_=>rfl
 | i+1,h=>by
   show jwG hs c i+(if jhG (hs.getD i (0,0)) c then 1 else 0)=i+1
   rw [jz1 i (fun j hj=>h j (by omega)),h i (by omega),if_pos rfl]
theorem jza {hs:List Hr} {c:Clim} {n:Nat} (hl:hs.length=n) (h:∀j,j < n→jhG (hs.getD j (0,0)) c=true):∀j,j < n→jwF hs c j=true:=fun j hj=>by
 rw [jya (i:=n - 1 - j) hl (by omega)];exact h _ (by omega)
theorem ZR.top {hs:List Hr} {c:Clim} {x y z:Rat} {n:Nat} {ps:List Zn} (hz:0 < z) (h:ZR hs c x y z n n ps) (h0:0 < n) (ha:∀j,j < n→jwF hs c j=true):((jxb ps jz4 ((n:Rat)*x) ((n:Rat)*y) z z z).getD 0 zn0).2.2=(tq (frq x z n),tq (frq y z n)):=by
 rw [h.one h0 ha]
 have e:¬z≤jwt (((0:Nat):Rat)*x) z:=by
  rw [show jwt (((0:Nat):Rat)*x) z=frq x z 0 from rfl,jxE hz];grind
 unfold jxb;rw [if_neg e];split <;> rfl
theorem ZR.zero {hs:List Hr} {c:Clim} {x y z:Rat} {n:Nat} {ps:List Zn} (hz:0 < z) (h:ZR hs c x y z n n ps) (h0:n=0):jxb ps jz4 ((n:Rat)*x) ((n:Rat)*y) z z z=[(jz4,(tq 0,tq 0),(tq z,tq z))]:=by
 subst h0;have:ps=[]:=List.eq_nil_of_length_eq_zero (by have:=h.len.1;omega);subst this;have e:∀x:Rat,jwt (((0:Nat):Rat)*x) z=0:=fun x=>jxE (x:=x) hz
 unfold jxb;rw [e,e,jyS,if_neg (by grind)];rfl
theorem Dz.tlz {k:Nat} {x:Rat} (h:Dz k x) (hk:k≤600):(tq x).length≤9000:=by
 have:=jur (h.mono (m:=k+1) (by omega)) (by omega);omega
def jzb (hs:List Hr) (c:Clim) (n:Nat):Nat→Bool
 | 0=>decide (0 < n)
 | i+1=>jzb hs c n i && jhG (hs.getD i (0,0)) c
theorem jyV {hs:List Hr} {c:Clim} {n:Nat}:∀{i:Nat},jzb hs c n i=true→0 < n∧∀j,j < i→jhG (hs.getD j (0,0)) c=true
 | 0,h=>⟨of_decide_eq_true h,fun j hj=>by omega⟩
 | i+1,h=>by
   have h:(jzb hs c n i && jhG (hs.getD i (0,0)) c)=true:=h;rw [Bool.and_eq_true] at h;obtain ⟨h1,h2⟩:=jyV h.1;refine ⟨h1,fun j hj=> ?_⟩;by_cases e:j=i
   ·rw [e];exact h.2
   ·exact h2 j (by omega)
section
variable {w:World} {A B:Option Addr} {n cap m c2:Nat} {hs:List Hr} {c:Clim} {a b d:List UInt8}
set_option maxHeartbeats 16000000 in
theorem jz3 (hE:Env w) (h:Hv6 w A n hs) (ho:24 < n∨12 < a.length∨12 < b.length∨12 < d.length∨jxr hs c a b d≠0):
  Calls prog 4 #[.slice A n cap,clv c, .agg #[bs a,bs b,bs d]] w fun e w'=>e= .returned (.bool true)∧Below w.heap.size w w':=by
 have HA:=qh (fun W (hb:Below w.heap.size w W)=>hE.awake6 hb);by_cases g0:24 < n
 ·have q0:decide ((24:Int) < (n:Int))=true:=by rw [decide_eq_true_iff];omega
  obtain ⟨k1,k2,k3,k4⟩:=c;clear hE h ho g0;go_enter func4,ntmps4;go_wp2_with (first|(go_at_call 12;(with_reducible refine mo0 (HA.o _ bi) fun w9 hb9 hc9 hf9 _=> ?_)))
  go_ret;exact ⟨rfl,bi⟩
 ·have q0:decide ((24:Int) < (n:Int))=false:=by rw [decide_eq_false_iff_not];omega
  have HN:=qh g0;by_cases g1:12 < a.length
  ·have q1:decide ((12:Int) < (a.length:Int))=true:=by rw [decide_eq_true_iff];omega
   obtain ⟨k1,k2,k3,k4⟩:=c;clear hE h ho g0 g1;go_enter func4,ntmps4;go_wp2_with (first|(go_at_call 12;(with_reducible refine mo0 (HA.o _ bi) fun w9 hb9 hc9 hf9 _=> ?_)))
   go_ret;exact ⟨rfl,bi⟩
  ·have q1:decide ((12:Int) < (a.length:Int))=false:=by rw [decide_eq_false_iff_not];omega
   by_cases g2:12 < b.length
   ·have q2:decide ((12:Int) < (b.length:Int))=true:=by rw [decide_eq_true_iff];omega
    obtain ⟨k1,k2,k3,k4⟩:=c;clear hE h ho g0 g1 g2;go_enter func4,ntmps4;go_wp2_with (first|(go_at_call 12;(with_reducible refine mo0 (HA.o _ bi) fun w9 hb9 hc9 hf9 _=> ?_)))
    go_ret;exact ⟨rfl,bi⟩
   ·have q2:decide ((12:Int) < (b.length:Int))=false:=by rw [decide_eq_false_iff_not];omega
    by_cases g3:12 < d.length
    ·have q3:decide ((12:Int) < (d.length:Int))=true:=by rw [decide_eq_true_iff];omega
     obtain ⟨k1,k2,k3,k4⟩:=c;clear hE h ho g0 g1 g2 g3;go_enter func4,ntmps4;go_wp2_with (first|(go_at_call 12;(with_reducible refine mo0 (HA.o _ bi) fun w9 hb9 hc9 hf9 _=> ?_)))
     go_ret;exact ⟨rfl,bi⟩
    ·have q3:decide ((12:Int) < (d.length:Int))=false:=by rw [decide_eq_false_iff_not];omega
     obtain ⟨K,hK⟩:∃K,jxr hs c a b d=K:=⟨_,rfl⟩;have HAE:=qh (fun W (hb:Below w.heap.size w W)=>jxZ (cap:=cap) (h.below hb) (by omega) (by omega) (by omega) (by omega) hK)
     have h0:K≠0:=by
      rcases ho with h|h|h|h|h
      ·exact absurd h g0
      ·exact absurd h g1
      ·exact absurd h g2
      ·exact absurd h g3
      ·rw [←hK];exact h
     have q4:(K != 0)=true:=by rw [bne_iff_ne];exact h0
     obtain ⟨k1,k2,k3,k4⟩:=c;clear hE h ho g0 g1 g2 g3 hK h0;go_enter func4,ntmps4;go_wp2_with (first|(go_at_call 12;(with_reducible refine mo0 (HA.o _ bi) fun w9 hb9 hc9 hf9 _=> ?_))|(go_at_call 22;(with_reducible refine mo0 (HAE.o _ bi) fun w1 hb1 hc1 hf1 _=> ?_)))
     go_ret;exact ⟨rfl,bi⟩
set_option maxHeartbeats 32000000 in
theorem jyZ (hE:Env w) (h:Hv6 w A n hs) (hn:n≤24) (hla:a.length≤12) (hlb:b.length≤12) (hld:d.length≤12) (hK:jxr hs c a b d=0):
  Calls prog 4 #[.slice A n cap,clv c, .agg #[bs a,bs b,bs d]] w fun e w'=>e= .returned (.bool true)∧Below w.heap.size w w':=by
 have HA:=qh (fun W (hb:Below w.heap.size w W)=>hE.awake6 hb);have HAE:=qh (fun W (hb:Below w.heap.size w W)=>jxZ (cap:=cap) (h.below hb) (by omega) (by omega) (by omega) (by omega) hK);have ho:=jxa hK;obtain ⟨x,hx⟩:∃x,numQ a=x:=⟨_,rfl⟩;obtain ⟨y,hy⟩:∃x,numQ b=x:=⟨_,rfl⟩;obtain ⟨z,hz⟩:∃x,numQ d=x:=⟨_,rfl⟩;have Na:=ho.na;have Nb:=ho.nb;have Nd:=ho.nd;rw [hx] at Na;rw [hy] at Nb;rw [hz] at Nd;have hx0:0≤x:=hx ▸ ho.low;have hxy:x≤y:=by have:=ho.ord;rwa [hx,hy] at this
 have hz0:0 < z:=hz ▸ ho.pos;have dx:Dz 30 x:=(Na.dzl hla (by omega)).mono (by omega);have dy:Dz 30 y:=(Nb.dzl hlb (by omega)).mono (by omega);have dz:Dz 30 z:=(Nd.dzl hld (by omega)).mono (by omega);have hW:∀k,k≤n→Wr (frq x z k)∧Wr (frq y z k):=fun k hk=>⟨(jyv (by omega) dx dz).wr (by omega) (by omega),(jyv (by omega) dy dz).wr (by omega) (by omega)⟩
 have HFT:=qh (fun W (hb:Below w.heap.size w W)=>jyl (cap:=cap) (hE.below hb) (h.below hb) (by omega) (by omega) (by omega) (by omega) hx hy hz hK hW);have HZZ:=qh (fun W (hb:Below w.heap.size w W)=>jyo (cap:=cap) (hE.below hb) (h.below hb) (by omega) (by omega) (by omega) (by omega) hx hy hz hK hW (dz.wr (by omega) (by omega)));have q0:decide ((24:Int) < (n:Int))=false:=by rw [decide_eq_false_iff_not];omega
 have q1:decide ((12:Int) < (a.length:Int))=false:=by rw [decide_eq_false_iff_not];omega
 have q2:decide ((12:Int) < (b.length:Int))=false:=by rw [decide_eq_false_iff_not];omega
 have q3:decide ((12:Int) < (d.length:Int))=false:=by rw [decide_eq_false_iff_not];omega
 have HX:=qh (And.intro hx0 (And.intro hxy (And.intro hz0 (And.intro dx (And.intro dy dz)))));have HND:=qh Nd.eq;have H:=qh (fun W (hb:Below w.heap.size w W)=>h.below hb);have HN:=qh hn;obtain ⟨k1,k2,k3,k4⟩:=c;clear hE h hn hla hlb hld hK ho hx hy hz Na Nb Nd hx0 hxy hz0 dx dy dz hW;go_enter func4,ntmps4;go_upto_region 4 with (first|(go_at_call 22;(with_reducible refine mo2 w (HAE.o _ bi) (by go_size) fun w1 hb1 hc1 hf1 z1_0 z1_1 _=> ?_))|(go_at_call 23;(with_reducible refine (HZZ.o _ bi).mono ?_);rintro e2 w2 ⟨A2,c2,ps,rfl,hR2,hP2,hb2⟩;obtain ⟨hc2,hf2,_⟩:=bc0 hb2))
 have hzf:=hR2.zf HX.o.1 HX.o.2.1 HX.o.2.2.1 (by have:=HN.o;omega);have htop:=fun h0 ha=>hR2.top (hs:=hs) HX.o.2.2.1 h0 ha
 have hzero:=fun h0=>hR2.zero HX.o.2.2.1 h0
 have hlZ:(jxb ps jz4 ((n:Rat)*x) ((n:Rat)*y) z z z).length≤1000:=Nat.le_trans (jxF _ _ _ _ _ _ _) (by have:=hR2.len.1;have:=HN.o;omega);obtain ⟨Z,hZ⟩:∃Z,jxb ps jz4 ((n:Rat)*x) ((n:Rat)*y) z z z=Z:=⟨_,rfl⟩;rw [hZ] at hP2 hzf htop hzero hlZ ⊢;obtain ⟨L,hL⟩:∃L,Z.length=L:=⟨_,rfl⟩;rw [hL] at hP2 hlZ ⊢;have hL0:0 < L:=by rw [←hL];exact hzf.pos
 obtain ⟨b2,o2,rfl,hbl,hat⟩:=hP2.at_ hL0;have bw:Below w.heap.size w w2:=bi;have bw0:Below ((w.alloc (.cells #[.int .i64 k1, .int .i64 k2, .int .i64 k3, .int .i64 k4] 43)).alloc (.cells #[bs a,bs b,bs d] 47)).heap.size ((w.alloc (.cells #[.int .i64 k1, .int .i64 k2, .int .i64 k3, .int .i64 k4] 43)).alloc (.cells #[bs a,bs b,bs d] 47)) w2:=bi;have k0:w2.cell? ⟨w.heap.size,0,none⟩=some (.int .i64 k1):=ja9 bw0 (by simp [go_sem]);have k1':w2.cell? ⟨w.heap.size,1,none⟩=some (.int .i64 k2):=ja9 bw0 (by simp [go_sem]);have k2':w2.cell? ⟨w.heap.size,2,none⟩=some (.int .i64 k3):=ja9 bw0 (by simp [go_sem]);have k3':w2.cell? ⟨w.heap.size,3,none⟩=some (.int .i64 k4):=ja9 bw0 (by simp [go_sem]);have e0:w2.cell? ⟨w.heap.size+1,0,none⟩=some (bs a):=ja9 bw0 (by simp [go_sem]);have e1:w2.cell? ⟨w.heap.size+1,1,none⟩=some (bs b):=ja9 bw0 (by simp [go_sem]);have e2:w2.cell? ⟨w.heap.size+1,2,none⟩=some (bs d):=ja9 bw0 (by simp [go_sem]);have HB:=qh bw;obtain ⟨g,hg⟩:∃g,w.heap.size=g:=⟨_,rfl⟩;rw [hg] at k0 k1' k2' k3' e0 e1 e2 ⊢;obtain ⟨ga,hga⟩:∃k,g+1=k:=⟨_,rfl⟩;rw [hga] at e0 e1 e2 ⊢;have HC:=qh (And.intro (And.intro k0 (And.intro k1' (And.intro k2' k3'))) (And.intro e0 (And.intro e1 e2)));have HZF:=qh hzf;have HTOP:=qh (And.intro htop hzero);have HAT:=qh (And.intro hat hP2);have HL:=qh (And.intro hlZ (And.intro hL hL0))
 have f1:w2.cell? ⟨b2,o2+1,none⟩=some (bs [48]):=by
  have:=hat 0 hL0 1 (bs (Z.getD 0 zn0).2.1.1) rfl;rw [hzf.first,jnF] at this;simpa using this
 have f2:w2.cell? ⟨b2,o2+2,none⟩=some (bs [48]):=by
  have:=hat 0 hL0 2 (bs (Z.getD 0 zn0).2.1.2) rfl;rw [hzf.first,jnF] at this;simpa using this
 have l1:((L:Int)==0)=false:=by rw [beq_eq_false_iff_ne];omega
 have l2:(L==0)=false:=by rw [beq_eq_false_iff_ne];omega
 have l3:decide (0 < L)=true:=by rw [decide_eq_true_iff];exact hL0
 clear hb1 hc1 hf1 hb2 hc2 hf2 hg hga bw bw0 hzf htop hzero hlZ hL hP2 hat hR2 k0 k1' k2' k3' e0 e1 e2 HAE HZZ q0 q1 q2 q3;go_upto_region 6 with (fail)
 clear f1 f2 l1 l2;go_wp2
 go_loopw [86] (fun u wr=>∃i:Nat,u= .int .i64 (i:Int)∧i≤L∧RowKit.Below w2.heap.size w2 wr) (fun u _=>L - (intOf u).toNat)
 case atStart=>exact ⟨0,rfl,Nat.zero_le _,bi⟩
 case round=>
  obtain ⟨i,rfl,hin,hb⟩:=hrel;have _:=bm hb;have hnn:=HL.o.1;by_cases hi:i < L
  ·as_aux_lemma=>
    have p9:decide (i < L)=true:=by simpa using hi
    obtain ⟨kd,p1,p2,q1,q2,hz,o1,o2',o3,o4,o5,⟨av,ha,hp1,hp2⟩,hq,hkd⟩:=HZF.o.one i (by rw [HL.o.2.1];exact hi);have d1:Dz 34 p1:=hp1 ▸ jyv ha HX.o.2.2.2.1 HX.o.2.2.2.2.2;have d2:Dz 34 p2:=hp2 ▸ jyv ha HX.o.2.2.2.2.1 HX.o.2.2.2.2.2
    have d3:Dz 34 q1:=by
     rcases hq with ⟨bv,h1,h2,h3⟩|⟨h2,h3⟩
     ·exact h2 ▸ jyv h1 HX.o.2.2.2.1 HX.o.2.2.2.2.2
     ·exact h2 ▸ HX.o.2.2.2.2.2.mono (by omega)
    have d4:Dz 34 q2:=by
     rcases hq with ⟨bv,h1,h2,h3⟩|⟨h2,h3⟩
     ·exact h3 ▸ jyv h1 HX.o.2.2.2.2.1 HX.o.2.2.2.2.2
     ·exact h3 ▸ HX.o.2.2.2.2.2.mono (by omega)
    have HCS1:=qh (fun W=>jxW (w:=W) (d1.tlz (by omega)) (d2.tlz (by omega)) (jyR d1 d2 (by omega) (by omega) o1));have HCS2:=qh (fun W=>jxW (w:=W) (d3.tlz (by omega)) (d4.tlz (by omega)) (jyR d3 d4 (by omega) (by omega) o2'));obtain ⟨j1,hj1⟩:∃j,Rq.cmpQ p1 q1=j:=⟨_,rfl⟩;obtain ⟨j2,hj2⟩:∃j,Rq.cmpQ p2 q2=j:=⟨_,rfl⟩;obtain ⟨j3,hj3⟩:∃j,Rq.cmpQ q2 z=j:=⟨_,rfl⟩;have HC1:=qh (fun W=>jko (w:=W) hj1 d1 d3 (by omega) (by omega) (by omega) (by omega));have HC2:=qh (fun W=>jko (w:=W) hj2 d2 d4 (by omega) (by omega) (by omega) (by omega));have HC3:=qh (fun W=>jko (w:=W) hj3 d4 HX.o.2.2.2.2.2 (by omega) (by omega) (by omega) (by omega));rw [←HND.o] at HC3;have u1:decide (0 < j1)=false:=by rw [decide_eq_false_iff_not,←hj1];exact fun e=>Rat.not_lt.2 o3 (Rq.cmp_pos.1 e)
    have u2:decide (0 < j2)=false:=by rw [decide_eq_false_iff_not,←hj2];exact fun e=>Rat.not_lt.2 o4 (Rq.cmp_pos.1 e)
    have u3:decide (0 < j3)=false:=by rw [decide_eq_false_iff_not,←hj3];exact fun e=>Rat.not_lt.2 o5 (Rq.cmp_pos.1 e)
    have hkd:(kd=[103,111,111,100]∨kd=[98,97,100])∨kd=[111,108,100]∧i+1=L∧tq q1=d:=by
     rcases hkd with ⟨f,rfl⟩|⟨h1,h2,h3⟩
     ·cases f
      ·exact .inl (.inr rfl)
      ·exact .inl (.inl rfl)
     ·exact .inr ⟨h1,by rw [←HL.o.2.1];exact h2,by rw [h3];exact HND.o.symm⟩
    have hadj:0 < i→(Z.getD (i - 1) zn0).2.2=(tq p1,tq p2)∧(Z.getD (i - 1) zn0).1≠kd∧(Z.getD (i - 1) zn0).1≠jz4:=fun h0=>by
     have h:=HZF.o.adj (i - 1) (by rw [HL.o.2.1];omega);rw [show i - 1+1=i by omega,hz] at h;exact h
    have hx:=fun k u h=>ja9 hb (HAT.o.1 i hi k u h)
    rw [hz] at hx;obtain ⟨T1,hT1⟩:∃T,tq p1=T:=⟨_,rfl⟩;obtain ⟨T2,hT2⟩:∃T,tq p2=T:=⟨_,rfl⟩;obtain ⟨T3,hT3⟩:∃T,tq q1=T:=⟨_,rfl⟩;obtain ⟨T4,hT4⟩:∃T,tq q2=T:=⟨_,rfl⟩;rw [hT1,hT2] at HCS1 hx hadj;rw [hT3,hT4] at HCS2 hx;rw [hT1,hT3] at HC1;rw [hT2,hT4] at HC2;rw [hT4] at HC3;rw [hT3] at hkd;have y0:=hx 0 (bs kd) rfl;have y1:=hx 1 (bs T1) rfl;have y2:=hx 2 (bs T2) rfl;have y3:=hx 3 (bs T3) rfl;have y4:=hx 4 (bs T4) rfl;rw [Nat.add_zero] at y0;have e2:=ja9 hb HC.o.2.2.2
    have hpr:0 < i→∃kp s1 s2,wr.cell? ⟨b2,o2+(i - 1)*5,none⟩=some (bs kp)∧wr.cell? ⟨b2,o2+(i - 1)*5+1,none⟩=some (bs s1)∧wr.cell? ⟨b2,o2+(i - 1)*5+2,none⟩=some (bs s2)∧wr.cell? ⟨b2,o2+(i - 1)*5+3,none⟩=some (bs T1)∧wr.cell? ⟨b2,o2+(i - 1)*5+4,none⟩=some (bs T2)∧kp≠kd∧kp≠jz4:=fun h0=>by
     obtain ⟨g1,g2,g3⟩:=hadj h0;have h9:=fun k u h=>ja9 hb (HAT.o.1 (i - 1) (by omega) k u h)
     obtain ⟨⟨kp,⟨s1,s2⟩,s3,s4⟩,hs9⟩:∃v,Z.getD (i - 1) zn0=v:=⟨_,rfl⟩;rw [hs9] at g1 g2 g3 h9;cases g1
     exact ⟨kp,s1,s2,by simpa using h9 0 (bs kp) rfl,h9 1 _ rfl,h9 2 _ rfl,h9 3 _ rfl,h9 4 _ rfl,g2,g3⟩
    have zb:b2 < wr.heap.size:=World.block_lt_of_cell? wr _ y0;have zg:ga < wr.heap.size:=World.block_lt_of_cell? wr _ e2;have HI:=qh (And.intro hi hkd);have HPR:=qh hpr;have HBR:=qh hb;have _:Sl b2 wr.heap.size:=⟨zb⟩;have _:Sl (ga) wr.heap.size:=⟨zg⟩;clear hz o1 o2' o3 o4 o5 ha hp1 hp2 hq hkd d1 d2 d3 d4 hj1 hj2 hj3 hadj hx hT1 hT2 hT3 hT4 hpr hb hin;go_upto_region 11 with (first|((go_at_call 24;(with_reducible refine mo0 (HCS1.o _) fun w11 hb11 hc11 hf11 _=> ?_));have y11_0:=zlt (b2) hb11;have y11_1:=zlt (ga) hb11;have y11_2:=zlt (wr.heap.size) hb11)|((go_at_call 24;(with_reducible refine mo0 (HCS2.o _) fun w12 hb12 hc12 hf12 _=> ?_));have y12_0:=zlt (b2) hb12;have y12_1:=zlt (ga) hb12;have y12_2:=zlt (wr.heap.size) hb12)|((go_at_call 11;(with_reducible refine mo0 (HC1.o _) fun w13 hb13 hc13 hf13 _=> ?_));have y13_0:=zlt (b2) hb13;have y13_1:=zlt (ga) hb13;have y13_2:=zlt (wr.heap.size) hb13)|((go_at_call 11;(with_reducible refine mo0 (HC2.o _) fun w14 hb14 hc14 hf14 _=> ?_));have y14_0:=zlt (b2) hb14;have y14_1:=zlt (ga) hb14;have y14_2:=zlt (wr.heap.size) hb14)|((go_at_call 11;(with_reducible refine mo0 (HC3.o _) fun w15 hb15 hc15 hf15 _=> ?_));have y15_0:=zlt (b2) hb15;have y15_1:=zlt (ga) hb15;have y15_2:=zlt (wr.heap.size) hb15))
    have b15:RowKit.Below wr.heap.size wr w15:=bi;have bx:RowKit.Below (wr.alloc (.cells #[bs kd,bs T1,bs T2,bs T3,bs T4] 53)).heap.size (wr.alloc (.cells #[bs kd,bs T1,bs T2,bs T3,bs T4] 53)) w15:=bi;have v0:w15.cell? ⟨wr.heap.size,0,none⟩=some (bs kd):=ja9 bx (by simp [go_sem]);have v1:w15.cell? ⟨wr.heap.size,1,none⟩=some (bs T1):=ja9 bx (by simp [go_sem]);have v2:w15.cell? ⟨wr.heap.size,2,none⟩=some (bs T2):=ja9 bx (by simp [go_sem]);have v3:w15.cell? ⟨wr.heap.size,3,none⟩=some (bs T3):=ja9 bx (by simp [go_sem]);have v4:w15.cell? ⟨wr.heap.size,4,none⟩=some (bs T4):=ja9 bx (by simp [go_sem]);replace e2:=ja9 b15 e2;have HB15:=qh b15;obtain ⟨gb,hgb⟩:∃k,wr.heap.size=k:=⟨_,rfl⟩;rw [hgb] at v0 v1 v2 v3 v4 ⊢;have HV:=qh (And.intro v0 (And.intro v3 e2));clear y0 y1 y2 y3 y4 hb11 hb12 hb13 hb14 hb15 hc11 hc12 hc13 hc14 hc15 hf11 hf12 hf13 hf14 hf15 hgb b15 bx u1 u2 u3 p9 hi
    go_cut [162] (fun v wx=>v= .bool false∧RowKit.Below w15.heap.size w15 wx)
    case first=>
     by_cases hi0:0 < i
     ·obtain ⟨kp,s1,s2,c0,c1,c2',c3,c4,n1,n2⟩:=HPR.o hi0;replace c0:=ja9 HB15.o c0;replace c1:=ja9 HB15.o c1;replace c2':=ja9 HB15.o c2';replace c3:=ja9 HB15.o c3;replace c4:=ja9 HB15.o c4;have m1:IntKind.i64.wrap ((i:Int) - 1)=((i - 1:Nat):Int):=by have:=HI.o.1;simp [IntKind.wrap,IntKind.bits,IntKind.signed];omega
      have m2:wrap64 ((i:Int) - 1)=((i - 1:Nat):Int):=by have:=HI.o.1;unfold wrap64;omega
      have t1:decide ((0:Int) < (i:Int))=true:=by rw [decide_eq_true_iff];omega
      have t2:i - 1 < L:=by have:=HI.o.1;omega
      have r1:(kp==kd)=false:=by rw [beq_eq_false_iff_ne];exact n1
      have r2:(kp==[111,108,100])=false:=by rw [beq_eq_false_iff_ne];exact n2
      clear n1 n2
      go_quiet (fail)
      go_wp2;go_meet;exact ⟨rfl,bi⟩
     ·have t1:decide ((0:Int) < (i:Int))=false:=by rw [decide_eq_false_iff_not];omega
      skip
      go_quiet (fail)
      go_wp2;go_meet;exact ⟨rfl,bi⟩
    case rest=>
     rename World=>w16
     obtain ⟨rfl,b16⟩:=hcut;have v0:=ja9 b16 HV.o.1;have v3:=ja9 b16 HV.o.2.1;have e2:=ja9 b16 HV.o.2.2;have hbz:=ja0 HBR.o (ja0 HB15.o b16);have HBZ:=qh hbz;have hi:=HI.o.1;have hnn:=HL.o.1;have hk:=HI.o.2;clear b16 hbz;have HII:=qh hi;rcases hk with (rfl|rfl)|⟨rfl,hl,rfl⟩
     ·skip
      go_wp2;exact ⟨⟨i+1,by simp,HII.o,HBZ.o⟩,by have:=HII.o;simp [intOf];omega⟩
     ·skip
      go_wp2;exact ⟨⟨i+1,by simp,HII.o,HBZ.o⟩,by have:=HII.o;simp [intOf];omega⟩
     ·have b1:((i:Int)==(L:Int) - 1)=true:=by rw [beq_iff_eq];omega
      have b3:((i:Int) != (L:Int) - 1)=false:=by rw [bne_eq_false_iff_eq];omega
      have b4:wrap64 ((L:Int) - 1)=(L:Int) - 1:=by unfold wrap64;omega
      have HLL:=qh hl;clear hl;go_wp2;exact ⟨⟨i+1,by simp,HII.o,HBZ.o⟩,by have:=HII.o;simp [intOf];omega⟩
  ·have p9:decide (i < L)=false:=by simp;omega
   have hlast:=HZF.o.last;rw [HL.o.2.1] at hlast;have hx:=fun k u h=>ja9 hb (HAT.o.1 (L - 1) (by have:=HL.o.2.2;omega) k u h)
   obtain ⟨⟨kl,⟨s1,s2⟩,s3,s4⟩,hs9⟩:∃v,Z.getD (L - 1) zn0=v:=⟨_,rfl⟩;rw [hs9] at hx hlast;cases hlast
   rw [←HND.o] at hx;have y0:=hx 0 (bs kl) rfl;have y1:=hx 1 (bs s1) rfl;have y2:=hx 2 (bs s2) rfl;have y3:=hx 3 (bs d) rfl;have y4:=hx 4 (bs d) rfl;rw [Nat.add_zero] at y0;have hL0:=HL.o.2.2;have m2:wrap64 ((L:Int) - 1)=((L - 1:Nat):Int):=by unfold wrap64;omega
   have t2:decide (L - 1 < L)=true:=by rw [decide_eq_true_iff];omega
   have e2:=ja9 hb HC.o.2.2.2
   have hkl:n=0→L=1∧kl=[111,108,100]:=fun h0=>by
    have h1:=HTOP.o.2 h0;have h2:=HL.o.2.1;rw [h1] at h2 hs9;have h3:L=1:=h2.symm;rw [h3] at hs9;exact ⟨h3,(congrArg Prod.fst hs9).symm⟩
   have zb:b2 < wr.heap.size:=World.block_lt_of_cell? wr _ y0;have zg:ga < wr.heap.size:=World.block_lt_of_cell? wr _ e2;have HBR:=qh hb;have HKL:=qh hkl;clear hx hs9 hL0 hkl hb hi hin;go_upto_region 17 with (fail)
   go_cut [226] (fun v wx=>v= .bool false∧RowKit.Below wr.heap.size wr wx)
   case first=>
    by_cases hn0:n=0
    ·obtain ⟨h1,rfl⟩:=HKL.o hn0;have q1:((n:Int)==0)=true:=by rw [beq_iff_eq];omega
     have q2:(n==0)=true:=by rw [beq_iff_eq];exact hn0
     have q3:((L:Int)==1)=true:=by rw [beq_iff_eq];omega
     have q4:(L==1)=true:=by rw [beq_iff_eq];exact h1
     have q5:((L:Int) != 1)=false:=by rw [bne_eq_false_iff_eq];omega
     clear h1 hn0 m2 t2;go_wp2;go_meet;exact ⟨rfl,bi⟩
    ·have q1:((n:Int)==0)=false:=by rw [beq_eq_false_iff_ne];omega
     have q2:(n==0)=false:=by rw [beq_eq_false_iff_ne];exact hn0
     clear hn0 m2 t2;go_wp2;go_meet;exact ⟨rfl,bi⟩
   case rest=>
    rename World=>wa
    obtain ⟨rfl,ba⟩:=hcut;have HBA:=qh (ja0 HBR.o ba);clear y0 y1 y2 y3 y4 e2 zb zg m2 t2 p9 ba;go_wp2
    go_loopw [12,232] (fun f u wr=>∃i:Nat,u= .int .i64 (i:Int)∧i≤n∧f= .bool (jzb hs ⟨k1,k2,k3,k4⟩ n i)∧RowKit.Below wa.heap.size wa wr) (fun _ u _=>n - (intOf u).toNat)
    case atStart=>exact ⟨0,rfl,Nat.zero_le _,by show _=Value.bool (decide (0 < n));simp,bi⟩
    case round=>
     obtain ⟨i,rfl,hin,rfl,hb⟩:=hrel;have _:=bm hb;have hnn:=HN.o;have bb:=ja0 HBA.o hb;by_cases hi:i < n
     ·have p9:decide (i < n)=true:=by simpa using hi
      have hHV:=H.o wr (ja0 HB.o bb);obtain ⟨b,o,rfl,hbl,hcell⟩:=hHV.at_ (by omega);have hxy:=hcell i (by rw [hHV.len];exact hi);obtain ⟨⟨t5,t6⟩,he⟩:∃x,hs.getD i (0,0)=x:=⟨_,rfl⟩;rw [he] at hxy;obtain ⟨y0,y1⟩:=hxy;dsimp only at y0 y1;obtain ⟨f,hf⟩:∃f,jhG (t5,t6) ⟨k1,k2,k3,k4⟩=f:=⟨_,rfl⟩;have HS:=qh (fun W=>jwR (w:=W) hf)
      have hst:jzb hs ⟨k1,k2,k3,k4⟩ n (i+1)=(jzb hs ⟨k1,k2,k3,k4⟩ n i && f):=by
       show (jzb hs ⟨k1,k2,k3,k4⟩ n i && jhG (hs.getD i (0,0)) ⟨k1,k2,k3,k4⟩)=_
       rw [he,hf]
      obtain ⟨f1,hf1⟩:∃f,jzb hs ⟨k1,k2,k3,k4⟩ n i=f:=⟨_,rfl⟩;rw [hf1] at hst ⊢;have p0:=ja9 bb HC.o.1.1;have p1:=ja9 bb HC.o.1.2.1;have p2:=ja9 bb HC.o.1.2.2.1;have p3:=ja9 bb HC.o.1.2.2.2;have zp:g < wr.heap.size:=World.block_lt_of_cell? wr _ p0;have HST:=qh (And.intro hst hi);have HBR:=qh hb;clear hHV hcell he hf hst hf1 hb bb hin;cases f1 with
      | true=>
        go_wp2_with (go_at_call 25;(with_reducible refine mo0 (HS.o _) fun w31 hb31 hc31 hf31 _=> ?_))
        exact ⟨⟨i+1,by simp,hi,by rw [HST.o.1];rfl,ja0 HBR.o bi⟩,by simp [intOf];omega⟩
      | false=>
        go_wp2;exact ⟨⟨i+1,by simp,hi,by rw [HST.o.1];rfl,ja0 HBR.o bi⟩,by simp [intOf];omega⟩
     ·have p9:decide (i < n)=false:=by simp;omega
      obtain rfl:i=n:=by omega
      have bw:=ja0 HB.o bb;obtain ⟨f1,hf1⟩:∃f,jzb hs ⟨k1,k2,k3,k4⟩ i i=f:=⟨_,rfl⟩;rw [hf1];cases f1 with
      | false=>
        clear hf1 hi hin bb hb;go_wp2_with (go_at_call 12;(with_reducible refine mo0 (HA.o _ (ja0 bw bi)) fun w9 hb9 hc9 hf9 _=> ?_))
        go_ret;exact ⟨rfl,ja0 bw bi⟩
      | true=>
        obtain ⟨h0,hall⟩:=jyV hf1;have hsl:=(H.o wr bw).len;have ht:=HTOP.o.1 h0 (jza hsl hall);have hc:=jz1 i hall
        have hTl:(frT hs ⟨k1,k2,k3,k4⟩ x y z i).getD (i - 1) ([],[])=(tq (frq x z i),tq (frq y z i)):=by
         unfold frT frL;rw [List.getD_eq_getElem?_getD,List.getElem?_map,List.getElem?_map,List.getElem?_range (by omega)];show (tq (frq x z (jwG hs ⟨k1,k2,k3,k4⟩ (i - 1+1))),tq (frq y z (jwG hs ⟨k1,k2,k3,k4⟩ (i - 1+1))))=_
         rw [show i - 1+1=i by omega,hc]
        obtain ⟨FT,hFT⟩:∃l,frT hs ⟨k1,k2,k3,k4⟩ x y z i=l:=⟨_,rfl⟩;rw [hFT] at HFT hTl;have hL0:=HL.o.2.2;have hx:=fun k u h=>HAT.o.1 0 hL0 k u h
        obtain ⟨⟨kz,⟨s1,s2⟩,s3,s4⟩,hs9⟩:∃v,Z.getD 0 zn0=v:=⟨_,rfl⟩;rw [hs9] at hx ht;cases ht
        obtain ⟨T1,hT1⟩:∃T,tq (frq x z i)=T:=⟨_,rfl⟩;obtain ⟨T2,hT2⟩:∃T,tq (frq y z i)=T:=⟨_,rfl⟩;rw [hT1,hT2] at hx hTl;have y3:w2.cell? ⟨b2,o2+3,none⟩=some (bs T1):=by simpa using hx 3 (bs T1) rfl
        have y4:w2.cell? ⟨b2,o2+4,none⟩=some (bs T2):=by simpa using hx 4 (bs T2) rfl
        replace y3:=ja9 bb y3;replace y4:=ja9 bb y4;have p0:=ja9 bb HC.o.1.1;have p1:=ja9 bb HC.o.1.2.1;have p2:=ja9 bb HC.o.1.2.2.1;have p3:=ja9 bb HC.o.1.2.2.2;have e0:=ja9 bb HC.o.2.1;have e1:=ja9 bb HC.o.2.2.1;have e2:=ja9 bb HC.o.2.2.2;have zp:g < wr.heap.size:=World.block_lt_of_cell? wr _ p0;have zg:ga < wr.heap.size:=World.block_lt_of_cell? wr _ e0;have zb:b2 < wr.heap.size:=World.block_lt_of_cell? wr _ y3;have _:Sl g wr.heap.size:=⟨zp⟩;have _:Sl ga wr.heap.size:=⟨zg⟩;have _:Sl b2 wr.heap.size:=⟨zb⟩;have l3:decide (0 < L)=true:=by rw [decide_eq_true_iff];exact hL0
        have HFR:=qh (fun W (hb:RowKit.Below wr.heap.size wr W)=>HFT.o W (ja0 bw hb));have HTL:=qh hTl;clear hf1 hi hin bb hb hall hsl hc hFT hx hs9 hT1 hT2 hL0 hTl;go_upto_region 27 with (go_at_call 26;(with_reducible refine (HFR.o _ bi).mono ?_);rintro e41 w41 ⟨A41,c41,rfl,hP41,hb41⟩;obtain ⟨hc41,hf41,_⟩:=bc0 hb41;have y41_0:=zlt (g) hb41;have y41_1:=zlt (ga) hb41;have y41_2:=zlt (b2) hb41)
        obtain ⟨bf,of,rfl,hbf,hcf⟩:=hP41.at_ h0;obtain ⟨c0,c1⟩:=hcf (i - 1) (by omega);rw [HTL.o] at c0 c1;dsimp only at c0 c1;have m2:wrap64 ((i:Int) - 1)=((i - 1:Nat):Int):=by unfold wrap64;omega
        have m1:IntKind.i64.wrap ((i:Int) - 1)=((i - 1:Nat):Int):=by simp [IntKind.wrap,IntKind.bits,IntKind.signed];omega
        have t2:i - 1 < i:=by omega
        have b41:RowKit.Below wr.heap.size wr w41:=bi;replace y3:=ja9 b41 y3;replace y4:=ja9 b41 y4;have HB41:=qh (ja0 bw b41);clear hb41 hc41 hf41 hP41 hcf bw b41 p0 p1 p2 p3 e0 e1 e2 zp zg zb h0
        go_quiet (fail)
        go_wp2_with (go_at_call 12;(with_reducible refine mo0 (HA.o _ (ja0 HB41.o bi)) fun w9 hb9 hc9 hf9 _=> ?_))
        go_ret;exact ⟨rfl,ja0 HB41.o bi⟩
theorem jyW (hE:Env w) (h:Hv6 w A n hs) (_:n≤cap) (c:Clim):
  Calls prog 4 #[.slice A n cap,clv c, .agg #[bs a,bs b,bs d]] w fun e w'=>e= .returned (.bool true)∧Below w.heap.size w w':=by
 by_cases ho:24 < n∨12 < a.length∨12 < b.length∨12 < d.length∨jxr hs c a b d≠0
 ·exact jz3 hE h ho
 ·simp only [not_or] at ho;exact jyZ hE h (by omega) (by omega) (by omega) (by omega) (Classical.not_not.1 ho.2.2.2.2)
end
end Go.Proofs.YtgplamoekjdilaaGreatDoor
