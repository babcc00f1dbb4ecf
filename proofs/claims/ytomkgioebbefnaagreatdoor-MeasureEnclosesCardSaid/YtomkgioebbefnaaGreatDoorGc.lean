/- Parts. -/
import Derived.Test.YtomkgioebbefnaaGreatDoorGaG
import Derived.Test.YtomkgioebbefnaaGreatDoorLn
import Derived.Test.YtomkgioebbefnaaGreatDoorUwG
set_option linter.all false
set_option maxRecDepth 100000
set_option maxHeartbeats 8000000
namespace Go.Proofs.YtomkgioebbefnaaGreatDoor
open Go Go.RowKit

section
variable {w:World} {a1 a2 b1 b2 c1 c2:List UInt8}
abbrev sp3 (a1 a2 b1 b2 c1 c2:List UInt8):Value:= .agg #[bs a1,bs a2,bs b1,bs b2,bs c1,bs c2]
abbrev by3 (p q r:Int):Value:= .agg #[.int .u8 p, .int .u8 q, .int .u8 r]
theorem je2 {W:World} {b:Nat} (h0:W.cell? ⟨b,0,none⟩=some (bs a1)) (h1:W.cell? ⟨b,1,none⟩=some (bs a2)) (h2:W.cell? ⟨b,2,none⟩=some (bs b1)) (h3:W.cell? ⟨b,3,none⟩=some (bs b2)) (h4:W.cell? ⟨b,4,none⟩=some (bs c1)) (h5:W.cell? ⟨b,5,none⟩=some (bs c2)):
  Pv W (some ⟨b,0,none⟩) 3 [(a1,a2),(b1,b2),(c1,c2)]:=
 ⟨rfl,fun _=>⟨b,0,rfl,World.block_lt_of_cell? W _ h0,fun j hj=>by
   match j,hj with
   | 0,_=>exact ⟨h0,h1⟩
   | 1,_=>exact ⟨h2,h3⟩
   | 2,_=>exact ⟨h4,h5⟩⟩⟩
theorem jnY {p q r u v z:Int} (hE:Env w) (hF: [(a1,a2),(b1,b2),(c1,c2)].all (jj1 6)=false):
  Calls Tryz.prog 3 #[sp3 a1 a2 b1 b2 c1 c2,by3 p q r,by3 u v z] w fun e w'=>e= .returned (.bool true)∧Below w.heap.size w w':=by
 have HW:Hid (∀W,Below w.heap.size w W→Calls Tryz.prog 4 #[] W fun e w'=>e= .returned (.bool true)∧Below W.heap.size W w'):=qh (fun W hb=>jfl (hE.below hb))
 have HF:=qh (fun W (b:Nat) (h:Pv W (some ⟨b,0,none⟩) 3 [(a1,a2),(b1,b2),(c1,c2)])=>jbK (c:=3) (d:=6) (m:=3) hF h (by omega) (by omega) (by omega) (by omega))
 clear hE hF
 go_enter Tryz.func3,Tryz.ntmps3
 go_wp2_with (first|(go_at_call 4;(with_reducible refine mo3 w (HW.out _ bi) (by go_size) fun w1 hb1 hc1 hf1 z1_0 z1_1 z1_2 _=> ?_))|(go_at_call 5;(with_reducible refine mo3 w (HF.out _ _ (je2 (by simp [go_sem,hc1]) (by simp [go_sem,hc1]) (by simp [go_sem,hc1]) (by simp [go_sem,hc1]) (by simp [go_sem,hc1]) (by simp [go_sem,hc1]))) (by go_size) fun w2 hb2 hc2 hf2 z2_0 z2_1 z2_2 _=> ?_)))
 go_ret
 exact ⟨rfl,bi⟩
theorem sev {p:Int} (h:0≤p):∃r:Nat,p.tmod 8=(r:Int)∧r≤7:=⟨(p % 8).toNat,by rw [Int.tmod_eq_emod_of_nonneg h];omega,by omega⟩
theorem jnG {x y:Rat} {k:Nat} (hx:Dz k x) (hy:Dz k y) (hk:0 < k) (hk2:k≤600):jk9 x y=tq x∧jkE x y=tq y∧jm7 x y=0:=by
 have h1:=(jbg hx hk hk2).2.1
 have h2:=(jbg hy hk hk2).2.1
 unfold jbF at h1 h2
 have e1:jd2 x=false:=by cases h:jd2 x <;> simp_all
 have e2:jd2 y=false:=by cases h:jd2 y <;> simp_all
 unfold jk9 jkE jm7
 rw [e1,e2];exact ⟨rfl,rfl,rfl⟩
theorem jdG {x y:Rat} {k:Nat} (hx:Dz k x) (hy:Dz k y) (hk:0 < k) (hk2:k≤600) (h:x≤y):jaZ (tq x,tq y)=0:=by
 have h1:=(jbg hx hk hk2).2.2
 have h2:=(jbg hy hk hk2).2.2
 unfold jaZ
 have e:jac chk [tq x,tq y]=0:=by simp [jac,jau.2 ⟨_,h1⟩,jau.2 ⟨_,h2⟩]
 rw [if_neg (by rw [e];simp),if_neg (by rw [h1.numQ,h2.numQ];exact Rat.not_lt.2 h)]
theorem jqK {W:World} {b:Nat} {l h:List UInt8} (h0:W.cell? ⟨b,0,none⟩=some (bs l)) (h1:W.cell? ⟨b,1,none⟩=some (bs h)):Pv W (some ⟨b,0,none⟩) 1 [(l,h)]:=
 ⟨rfl,fun _=>⟨b,0,rfl,World.block_lt_of_cell? W _ h0,fun j hj=>by
   match j,hj with
   | 0,_=>exact ⟨h0,h1⟩⟩⟩
theorem jiG {W:World} {T:TypeId} {p q r:Int} (hp:R64 p) (hq:R64 q) (hr:R64 r):Iv (W.alloc (.cells #[.int .i64 p, .int .i64 q, .int .i64 r] T)) (some ⟨W.heap.size,0,none⟩) 3 [p,q,r]:=
 ⟨rfl,fun z hz=>by simp at hz;rcases hz with rfl|rfl|rfl <;> assumption,fun _=>⟨W.heap.size,0,rfl,by simp,fun j hj=>by
   match j,hj with
   | 0,_=>simp
   | 1,_=>simp
   | 2,_=>simp⟩⟩
theorem jnW {W:World} {T:TypeId} {k l m:List UInt8}:Sv (W.alloc (.cells #[bs k,bs l,bs m] T)) (some ⟨W.heap.size,0,none⟩) 3 [k,l,m]:=
 ⟨rfl,fun _=>⟨W.heap.size,0,rfl,by simp,fun j hj=>by
   match j,hj with
   | 0,_=>simp
   | 1,_=>simp
   | 2,_=>simp⟩⟩
theorem jnp {p q r s:Int} (hp:0≤p∧p < 256) (hq:0≤q∧q < 256) (hr:1≤r∧r≤256) (hs:jfw [p,q,r] 3=s):cw [p,q,r]=(s,0)∧0 < s∧s≤766:=by
 have e:s=p+q+r:=by rw [←hs];simp [jfw]
 subst e
 refine ⟨?_,by omega,by omega⟩
 unfold cw
 rw [jk3,if_neg (by omega),jk3,if_neg (by omega),jk3,if_neg (by omega),jk3,if_neg (by omega)]
 simp
theorem jax {P:Nat→Prop} (h0:P 0) (h1:P 1) (h2:P 2):∀j,j < 3→P j:=fun j hj=>by
 match j,hj with
 | 0,_=>exact h0
 | 1,_=>exact h1
 | 2,_=>exact h2
set_option maxHeartbeats 16000000 in
theorem jqW {p q r u v z:Int} {x1 x2 y1 y2 z1 z2:Rat} (hE:Env w) (hF: [(a1,a2),(b1,b2),(c1,c2)].all (jj1 6)=true) (e1:a1=tq x1) (e2:a2=tq x2) (e3:b1=tq y1) (e4:b2=tq y2) (e5:c1=tq z1) (e6:c2=tq z2)
  (d1:Dz 6 x1) (d2:Dz 6 x2) (d3:Dz 6 y1) (d4:Dz 6 y2) (d5:Dz 6 z1) (d6:Dz 6 z2) (l1:x1≤x2) (l2:y1≤y2) (l3:z1≤z2)
  (hp:0≤p∧p < 256) (hq:0≤q∧q < 256) (hr:0≤r∧r < 256) (hu:0≤u∧u < 256) (hv:0≤v∧v < 256) (hz:0≤z∧z < 256):
  Calls Tryz.prog 3 #[sp3 a1 a2 b1 b2 c1 c2,by3 p q r,by3 u v z] w fun e w'=>e= .returned (.bool true)∧Below w.heap.size w w':=by
 have HW:Hid (∀W,Below w.heap.size w W→Calls Tryz.prog 4 #[] W fun e w'=>e= .returned (.bool true)∧Below W.heap.size W w'):=qh (fun W hb=>jfl (hE.below hb))
 have HF:=qh (fun W (b:Nat) (h:Pv W (some ⟨b,0,none⟩) 3 [(a1,a2),(b1,b2),(c1,c2)])=>jbK (c:=3) (d:=6) (m:=3) hF h (by omega) (by omega) (by omega) (by omega))
 have HE:=qh hE
 have n1:=(jbg d1 (by omega) (by omega)).2.2
 have n2:=(jbg d2 (by omega) (by omega)).2.2
 have n3:=(jbg d3 (by omega) (by omega)).2.2
 have n4:=(jbg d4 (by omega) (by omega)).2.2
 have t1:=jgr d1 (by omega)
 have t2:=jgr d2 (by omega)
 have t3:=jgr d3 (by omega)
 have t4:=jgr d4 (by omega)
 have k1:=jdG d1 d2 (by omega) (by omega) l1
 have k2:=jdG d3 d4 (by omega) (by omega) l2
 have hk:jac jaZ [(tq x1,tq x2),(tq y1,tq y2)]=0:=by simp [jac,k1,k2]
 obtain ⟨rp,m1,rp7⟩:=sev hp.1
 obtain ⟨rq,m2,rq7⟩:=sev hq.1
 obtain ⟨rr,m3,rr7⟩:=sev hr.1
 obtain ⟨tp,htp⟩:∃t,Rat.divInt (rp:Int) ((7:Nat):Int)=t:=⟨_,rfl⟩
 obtain ⟨tr,htr⟩:∃t,Rat.divInt (rr:Int) ((7:Nat):Int)=t:=⟨_,rfl⟩
 obtain ⟨ts,hts⟩:∃t,Rat.divInt (rq:Int) ((7:Nat):Int)=t:=⟨_,rfl⟩
 have HX:=qh (fun W=>jeD (w:=W) hp.1 hp.2 m1 rp7 htp d1 d2 (by omega) (by omega))
 have HY:=qh (fun W=>jeD (w:=W) hq.1 hq.2 m2 rq7 hts d3 d4 (by omega) (by omega))
 have HZ:=qh (fun W=>jeD (w:=W) hr.1 hr.2 m3 rr7 htr d5 d6 (by omega) (by omega))
 have bt (k:Nat) (x y:Rat) (t:Rat) (hx:Dz 6 x) (hy:Dz 6 y) (ht:Dz 1 t):Dz 30 (x+(y - x)*t):=(hx.add ((hy.sub hx).mul ht)).mono (by omega)
 have dX:=bt 6 x1 x2 tp d1 d2 (htp ▸ jbn (by omega) (by omega) (by omega))
 have dY:=bt 6 y1 y2 ts d3 d4 (hts ▸ jbn (by omega) (by omega) (by omega))
 have dZ:=bt 6 z1 z2 tr d5 d6 (htr ▸ jbn (by omega) (by omega) (by omega))
 have bX:=btw l1 (jjZ rp7 htp).1 (jjZ rp7 htp).2
 have bY:=btw l2 (jjZ rq7 hts).1 (jjZ rq7 hts).2
 have bZ:=btw l3 (jjZ rr7 htr).1 (jjZ rr7 htr).2
 obtain ⟨X,eX⟩:∃x,x1+(x2 - x1)*tp=x:=⟨_,rfl⟩
 obtain ⟨Y,eY⟩:∃x,y1+(y2 - y1)*ts=x:=⟨_,rfl⟩
 obtain ⟨Z,eZ⟩:∃x,z1+(z2 - z1)*tr=x:=⟨_,rfl⟩
 rw [eX] at HX dX bX
 rw [eY] at HY dY bY
 rw [eZ] at HZ dZ bZ
 clear bt m1 m2 m3 rp7 rq7 rr7 htp hts htr eX eY eZ
 have p1:Dz 30 (x1*y1):=(d1.mul d3).mono (by omega)
 have p2:Dz 30 (x1*y2):=(d1.mul d4).mono (by omega)
 have p3:Dz 30 (x2*y1):=(d2.mul d3).mono (by omega)
 have p4:Dz 30 (x2*y2):=(d2.mul d4).mono (by omega)
 have dL:=jph p1 p2 p3 p4
 have dM:=jpQ p1 p2 p3 p4
 have bL:=jmy bX.1 bX.2 bY.1 bY.2
 have aL:=joc (x1*y1) (x1*y2) (x2*y1) (x2*y2)
 have aM:=jnu (x1*y1) (x1*y2) (x2*y1) (x2*y2)
 obtain ⟨P,hP⟩:∃z,x1+y1=z:=⟨_,rfl⟩
 obtain ⟨Q,hQ⟩:∃z,x2+y2=z:=⟨_,rfl⟩
 obtain ⟨R,hR⟩:∃z,x1 - y2=z:=⟨_,rfl⟩
 obtain ⟨S,hS⟩:∃z,x2 - y1=z:=⟨_,rfl⟩
 obtain ⟨L,hL⟩:∃z,jeV (x1*y1) [x1*y2,x2*y1,x2*y2]=z:=⟨_,rfl⟩
 obtain ⟨M,hM⟩:∃z,jeW (x1*y1) [x1*y2,x2*y1,x2*y2]=z:=⟨_,rfl⟩
 rw [hL] at dL bL aL
 rw [hM] at dM bL aM
 have dP:Dz 30 P:=hP ▸ (d1.add d3).mono (by omega)
 have dQ:Dz 30 Q:=hQ ▸ (d2.add d4).mono (by omega)
 have dR:Dz 30 R:=hR ▸ (d1.sub d4).mono (by omega)
 have dS:Dz 30 S:=hS ▸ (d2.sub d3).mono (by omega)
 have g1:=jnG dP dQ (by omega) (by omega)
 have g2:=jnG dR dS (by omega) (by omega)
 have g3:=jnG dL dM (by omega) (by omega)
 have HA:=qh (fun W (hb:Below w.heap.size w W)=>jq6 (hE.below hb) (by omega) (by omega) (by omega) (by omega) n1 n2 n3 n4 hk hP hQ (dP.strQ (by omega)) (dQ.strQ (by omega)) g1.1 g1.2.1 g1.2.2)
 have HS:=qh (fun W (hb:Below w.heap.size w W)=>jqp (hE.below hb) (by omega) (by omega) (by omega) (by omega) n1 n2 n3 n4 hk hR hS (dR.strQ (by omega)) (dS.strQ (by omega)) g2.1 g2.2.1 g2.2.2)
 have HM:=qh (fun W (hb:Below w.heap.size w W)=>joy (hE.below hb) (by omega) (by omega) (by omega) (by omega) n1 n2 n3 n4 hk hL hM (dL.strQ (by omega)) (dM.strQ (by omega)) g3.1 g3.2.1 g3.2.2)
 have o1:P≤Q:=by grind
 have o2:R≤S:=by grind
 have o3:L≤M:=Rat.le_trans bL.1 bL.2
 have hF2: [(tq P,tq Q),(tq R,tq S),(tq L,tq M)].all (jj1 30)=true:=by
  simp only [List.all_cons,List.all_nil,Bool.and_true]
  rw [jg4 dP dQ (by omega) (by omega) (by omega) o1,jg4 dR dS (by omega) (by omega) (by omega) o2,jg4 dL dM (by omega) (by omega) (by omega) o3];rfl
 have HF2:=qh (fun W (b:Nat) (h:Pv W (some ⟨b,0,none⟩) 3 [(tq P,tq Q),(tq R,tq S),(tq L,tq M)])=>jbK (c:=3) (d:=30) (m:=3) hF2 h (by omega) (by omega) (by omega) (by omega))
 have HAA:=qh (fun W=>jhe (w:=W) dX dY (by omega) (by omega) (by omega) (by omega))
 have HSS:=qh (fun W=>jiI (w:=W) dX dY (by omega) (by omega) (by omega) (by omega))
 have HMM:=qh (fun W=>jdP (w:=W) dX dY (by omega) (by omega) (by omega) (by omega))
 have HI1:=qh (fun W=>jr0 (w:=W) (lo:=P) (hi:=Q) (x:=X+Y) (k:=100) (by grind) (by grind) ((dX.add dY).mono (by omega)) (dP.mono (by omega)) (dQ.mono (by omega)) (by omega) (by omega))
 have HI2:=qh (fun W=>jr0 (w:=W) (lo:=R) (hi:=S) (x:=X - Y) (k:=100) (by grind) (by grind) ((dX.sub dY).mono (by omega)) (dR.mono (by omega)) (dS.mono (by omega)) (by omega) (by omega))
 have HI3:=qh (fun W=>jr0 (w:=W) (lo:=L) (hi:=M) (x:=X*Y) (k:=100) bL.1 bL.2 ((dX.mul dY).mono (by omega)) (dL.mono (by omega)) (dM.mono (by omega)) (by omega) (by omega))
 obtain ⟨TA,eTA⟩:∃t,tq (X+Y)=t:=⟨_,rfl⟩
 obtain ⟨TB,eTB⟩:∃t,tq (X - Y)=t:=⟨_,rfl⟩
 obtain ⟨TC,eTC⟩:∃t,tq (X*Y)=t:=⟨_,rfl⟩
 unfold QP at HAA HSS HMM
 rw [eTA] at HAA HI1
 rw [eTB] at HSS HI2
 rw [eTC] at HMM HI3
 have HAE:=qh (fun W=>jhe (w:=W) d1 d3 (by omega) (by omega) (by omega) (by omega))
 have HSE:=qh (fun W=>jiI (w:=W) d2 d3 (by omega) (by omega) (by omega) (by omega))
 unfold QP at HAE HSE
 rw [hP] at HAE
 rw [hS] at HSE
 obtain ⟨z',ez⟩:∃z',1+z=z':=⟨_,rfl⟩
 have hz':1≤z'∧z'≤256:=by omega
 have wz:wrap64 (1+z)=z':=by unfold wrap64;omega
 have c1u:IntKind.i64.wrap u=u:=by rw [IntKind.wrap_i64];omega
 have c1v:IntKind.i64.wrap v=v:=by rw [IntKind.wrap_i64];omega
 have c1z:IntKind.i64.wrap z=z:=by rw [IntKind.wrap_i64];omega
 obtain ⟨s,es⟩:∃s,jfw [u,v,z'] 3=s:=⟨_,rfl⟩
 obtain ⟨hcw,hs0,hs7⟩:=jnp hu hv hz' es
 have hws:∀j,j < 3→0≤[u,v,z'].getD j 0∧[u,v,z'].getD j 0≤999999999:=jax (by simp;omega) (by simp;omega) (by simp;omega)
 have ds:Dz 3 (s:Rat):=⟨by rw [Rat.num_intCast];omega,by rw [Rat.den_intCast];omega⟩
 have s0:(s:Rat)≠0:=by have:=hs0;simp;omega
 have sp0:(0:Rat) < (s:Rat):=by exact_mod_cast hs0
 have dz1:Dz 60 (jaw [x1,y1,z1] [u,v,z'] 3 / (s:Rat)):=((jdd (k:=6) (n:=3) (qs:=[x1,y1,z1]) (ws:=[u,v,z']) (jax d1 d3 d5) hws 3 (by omega)).div ds s0).mono (by omega)
 have dz2:Dz 60 (jaw [x2,y2,z2] [u,v,z'] 3 / (s:Rat)):=((jdd (k:=6) (n:=3) (qs:=[x2,y2,z2]) (ws:=[u,v,z']) (jax d2 d4 d6) hws 3 (by omega)).div ds s0).mono (by omega)
 have dz3:Dz 200 (jaw [X,Y,Z] [u,v,z'] 3 / (s:Rat)):=((jdd (k:=30) (n:=3) (qs:=[X,Y,Z]) (ws:=[u,v,z']) (jax dX dY dZ) hws 3 (by omega)).div ds s0).mono (by omega)
 have v1:jaw [x1,y1,z1] [u,v,z'] 3 / (s:Rat)≤jaw [X,Y,Z] [u,v,z'] 3 / (s:Rat):=jjh sp0 (jii (jax bX.1 bY.1 bZ.1) (fun j hj=>(hws j hj).1))
 have v2:jaw [X,Y,Z] [u,v,z'] 3 / (s:Rat)≤jaw [x2,y2,z2] [u,v,z'] 3 / (s:Rat):=jjh sp0 (jii (jax bX.2 bY.2 bZ.2) (fun j hj=>(hws j hj).1))
 obtain ⟨ml,eml⟩:∃m,jaw [x1,y1,z1] [u,v,z'] 3 / (s:Rat)=m:=⟨_,rfl⟩
 obtain ⟨mh,emh⟩:∃m,jaw [x2,y2,z2] [u,v,z'] 3 / (s:Rat)=m:=⟨_,rfl⟩
 obtain ⟨mm,emm⟩:∃m,jaw [X,Y,Z] [u,v,z'] 3 / (s:Rat)=m:=⟨_,rfl⟩
 rw [eml] at dz1 v1
 rw [emh] at dz2 v2
 rw [emm] at dz3 v1 v2
 have gm:=jnG dz1 dz2 (by omega) (by omega)
 have n5:=(jbg d5 (by omega) (by omega)).2.2
 have n6:=(jbg d6 (by omega) (by omega)).2.2
 have t5:=jgr d5 (by omega)
 have t6:=jgr d6 (by omega)
 have k3:=jdG d5 d6 (by omega) (by omega) l3
 have sm6 (x:Rat) (h:Dz 6 x):SmallQ x:=(h.mono (show 6≤18 by omega)).small
 have hspin:∀W b,Pv W (some ⟨b,0,none⟩) 3 [(tq x1,tq x2),(tq y1,tq y2),(tq z1,tq z2)]→SpIn W (some ⟨b,0,none⟩) 3 [(tq x1,tq x2),(tq y1,tq y2),(tq z1,tq z2)] [x1,y1,z1] [x2,y2,z2]:=fun W b hv=>
  ⟨hv,by omega,by omega,fun p hp=>by
    simp only [List.mem_cons,List.not_mem_nil,or_false] at hp
    rcases hp with rfl|rfl|rfl <;> constructor <;> dsimp only <;> omega,by simp [jac,k1,k2,k3],rfl,rfl,
    jax ⟨n1,n2,sm6 _ d1,sm6 _ d2⟩ ⟨n3,n4,sm6 _ d3,sm6 _ d4⟩ ⟨n5,n6,sm6 _ d5,sm6 _ d6⟩⟩
 have HMN:=qh (fun W (hb:Below w.heap.size w W) (b g:Nat) (hv:Pv W (some ⟨b,0,none⟩) 3 [(tq x1,tq x2),(tq y1,tq y2),(tq z1,tq z2)]) (hi:Iv W (some ⟨g,0,none⟩) 3 [u,v,z'])=>
  jjc (c:=3) (d:=3) (hE.below hb) (hspin W b hv) hi hcw hws hs0 (by omega) eml emh (dz1.strQ (by omega)) (dz2.strQ (by omega)) gm.1 gm.2.1 gm.2.2)
 have hF3: [(tq ml,tq mh)].all (jj1 60)=true:=by
  simp only [List.all_cons,List.all_nil,Bool.and_true]
  exact jg4 dz1 dz2 (by omega) (by omega) (by omega) (Rat.le_trans v1 v2)
 have HF3:=qh (fun W (b:Nat) (h:Pv W (some ⟨b,0,none⟩) 1 [(tq ml,tq mh)])=>jbK (c:=1) (d:=60) (m:=1) hF3 h (by omega) (by omega) (by omega) (by omega))
 have HMR:=qh (fun W (b g:Nat) (hs:Sv W (some ⟨b,0,none⟩) 3 [tq X,tq Y,tq Z]) (hi:Iv W (some ⟨g,0,none⟩) 3 [u,v,z'])=>
  jkj (c:=3) (d:=3) (k:=30) (qs:=[X,Y,Z]) (z:=mm) hs hi (by omega) (jax rfl rfl rfl) (jax dX dY dZ) (by omega) (by omega) hws (by rw [es];omega) (by rw [es];exact emm))
 have HI4:=qh (fun W=>jr0 (w:=W) (lo:=ml) (hi:=mh) (x:=mm) (k:=200) v1 v2 dz3 (dz1.mono (by omega)) (dz2.mono (by omega)) (by omega) (by omega))
 unfold QP at HMR
 obtain ⟨TML,eTML⟩:∃t,tq ml=t:=⟨_,rfl⟩
 obtain ⟨TMH,eTMH⟩:∃t,tq mh=t:=⟨_,rfl⟩
 obtain ⟨TMM,eTMM⟩:∃t,tq mm=t:=⟨_,rfl⟩
 rw [eTML,eTMH] at HMN HF3 HI4
 rw [eTMM] at HMR HI4
 have ru:R64 u:=by unfold R64;omega
 have rv':R64 v:=by unfold R64;omega
 have rz:R64 z':=by unfold R64;omega
 subst ez
 clear hz' wz es hcw hs7 hws ds s0 sp0 dz1 dz2 dz3 v1 v2 eml emh emm gm n5 n6 t5 t6 k3 sm6 hspin hF3 eTML eTMH eTMM
 obtain ⟨T,hT⟩:∃T:Nat→Nat→List UInt8,∀i k,T i k=tq ([x1,x2].getD i 0*[y1,y2].getD k 0):=⟨_,fun _ _=>rfl⟩
 have HMUL:Hid (∀W i k,i < 2→k < 2→Calls Tryz.prog 13 #[bs ([tq x1,tq x2].getD i []),bs ([tq y1,tq y2].getD k [])] W fun e w'=>e= .returned (bs (T i k))∧Below W.heap.size W w'):=qh (fun W i k hi hk=>by
  rw [hT]
  match i,k,hi,hk with
  | 0,0,_,_=>exact jdP d1 d3 (by omega) (by omega) (by omega) (by omega)
  | 0,1,_,_=>exact jdP d1 d4 (by omega) (by omega) (by omega) (by omega)
  | 1,0,_,_=>exact jdP d2 d3 (by omega) (by omega) (by omega) (by omega)
  | 1,1,_,_=>exact jdP d2 d4 (by omega) (by omega) (by omega) (by omega))
 have four (z:Rat) (h:z=x1*y1∨z=x1*y2∨z=x2*y1∨z=x2*y2):∃i k,i < 2∧k < 2∧T i k=tq z:=by
  rcases h with rfl|rfl|rfl|rfl
  ·exact ⟨0,0,by omega,by omega,hT 0 0⟩
  ·exact ⟨0,1,by omega,by omega,hT 0 1⟩
  ·exact ⟨1,0,by omega,by omega,hT 1 0⟩
  ·exact ⟨1,1,by omega,by omega,hT 1 1⟩
 have HTL:=qh (four L aL)
 have HTM:=qh (four M aM)
 clear four hT aL aM
 subst e1 e2 e3 e4 e5 e6
 obtain ⟨A1,eA1⟩:∃t,tq x1=t:=⟨_,rfl⟩
 obtain ⟨A2,eA2⟩:∃t,tq x2=t:=⟨_,rfl⟩
 obtain ⟨B1,eB1⟩:∃t,tq y1=t:=⟨_,rfl⟩
 obtain ⟨B2,eB2⟩:∃t,tq y2=t:=⟨_,rfl⟩
 obtain ⟨C1,eC1⟩:∃t,tq z1=t:=⟨_,rfl⟩
 obtain ⟨C2,eC2⟩:∃t,tq z2=t:=⟨_,rfl⟩
 obtain ⟨TP,eP⟩:∃t,tq P=t:=⟨_,rfl⟩
 obtain ⟨TQ,eQ⟩:∃t,tq Q=t:=⟨_,rfl⟩
 obtain ⟨TR,eR⟩:∃t,tq R=t:=⟨_,rfl⟩
 obtain ⟨TS,eS⟩:∃t,tq S=t:=⟨_,rfl⟩
 obtain ⟨TL,eL⟩:∃t,tq L=t:=⟨_,rfl⟩
 obtain ⟨TM,eM⟩:∃t,tq M=t:=⟨_,rfl⟩
 obtain ⟨TX,eX⟩:∃t,tq X=t:=⟨_,rfl⟩
 obtain ⟨TY,eY⟩:∃t,tq Y=t:=⟨_,rfl⟩
 unfold QP at HX HY HZ
 rw [eA1,eA2,eX] at HX
 rw [eB1,eB2,eY] at HY
 rw [eA1,eA2,eB1,eB2,eP,eQ] at HA
 rw [eA1,eA2,eB1,eB2,eR,eS] at HS
 rw [eA1,eA2,eB1,eB2,eL,eM] at HM
 rw [eP,eQ,eR,eS,eL,eM] at HF2
 rw [eX,eY] at HAA HSS HMM
 obtain ⟨TZ,eZ⟩:∃t,tq Z=t:=⟨_,rfl⟩
 rw [eC1,eC2,eZ] at HZ
 rw [eX,eY,eZ] at HMR
 rw [eA1,eA2,eB1,eB2,eC1,eC2] at HMN
 rw [eP,eQ] at HI1
 rw [eR,eS] at HI2
 rw [eL,eM] at HI3
 rw [eA1,eB1,eP] at HAE
 rw [eA2,eB1,eS] at HSE
 rw [eA1,eA2,eB1,eB2] at HMUL
 rw [eL] at HTL
 rw [eM] at HTM
 rw [eA1,eA2,eB1,eB2,eC1,eC2] at HF ⊢
 clear k1 k2 n1 n2 n3 n4 t1 t2 t3 t4 hk hF hF2 g1 g2 g3
 go_enter Tryz.func3,Tryz.ntmps3
 go_upto_region 3 with (first|(go_at_call 4;(with_reducible refine mo3 w (HW.out _ bi) (by go_size) fun w1 hb1 hc1 hf1 z1_0 z1_1 z1_2 _=> ?_))|(go_at_call 5;(with_reducible refine mo3 w (HF.out _ _ (je2 (by simp [go_sem,hc1]) (by simp [go_sem,hc1]) (by simp [go_sem,hc1]) (by simp [go_sem,hc1]) (by simp [go_sem,hc1]) (by simp [go_sem,hc1]))) (by go_size) fun w2 hb2 hc2 hf2 z2_0 z2_1 z2_2 _=> ?_)))
 obtain ⟨W,hWW⟩:∃x,w2=x:=⟨_,rfl⟩
 have cW_0:W.cell? ⟨w.heap.size,0,none⟩=some (bs A1):=(by rw [←hWW];simp [go_sem,hc1,hc2,z1_0,z1_1,z1_2,z2_0,z2_1,z2_2])
 have cW_1:W.cell? ⟨w.heap.size,1,none⟩=some (bs A2):=(by rw [←hWW];simp [go_sem,hc1,hc2,z1_0,z1_1,z1_2,z2_0,z2_1,z2_2])
 have cW_2:W.cell? ⟨w.heap.size,2,none⟩=some (bs B1):=(by rw [←hWW];simp [go_sem,hc1,hc2,z1_0,z1_1,z1_2,z2_0,z2_1,z2_2])
 have cW_3:W.cell? ⟨w.heap.size,3,none⟩=some (bs B2):=(by rw [←hWW];simp [go_sem,hc1,hc2,z1_0,z1_1,z1_2,z2_0,z2_1,z2_2])
 have cW_4:W.cell? ⟨w.heap.size,4,none⟩=some (bs C1):=(by rw [←hWW];simp [go_sem,hc1,hc2,z1_0,z1_1,z1_2,z2_0,z2_1,z2_2])
 have cW_5:W.cell? ⟨w.heap.size,5,none⟩=some (bs C2):=(by rw [←hWW];simp [go_sem,hc1,hc2,z1_0,z1_1,z1_2,z2_0,z2_1,z2_2])
 have cW_6:W.cell? ⟨w.heap.size+1,0,none⟩=some (.int .u8 p):=(by rw [←hWW];simp [go_sem,hc1,hc2,z1_0,z1_1,z1_2,z2_0,z2_1,z2_2])
 have cW_7:W.cell? ⟨w.heap.size+1,1,none⟩=some (.int .u8 q):=(by rw [←hWW];simp [go_sem,hc1,hc2,z1_0,z1_1,z1_2,z2_0,z2_1,z2_2])
 have cW_8:W.cell? ⟨w.heap.size+1,2,none⟩=some (.int .u8 r):=(by rw [←hWW];simp [go_sem,hc1,hc2,z1_0,z1_1,z1_2,z2_0,z2_1,z2_2])
 have cW_9:W.cell? ⟨w.heap.size+1+1,0,none⟩=some (.int .u8 u):=(by rw [←hWW];simp [go_sem,hc1,hc2,z1_0,z1_1,z1_2,z2_0,z2_1,z2_2])
 have cW_10:W.cell? ⟨w.heap.size+1+1,1,none⟩=some (.int .u8 v):=(by rw [←hWW];simp [go_sem,hc1,hc2,z1_0,z1_1,z1_2,z2_0,z2_1,z2_2])
 have cW_11:W.cell? ⟨w.heap.size+1+1,2,none⟩=some (.int .u8 z):=(by rw [←hWW];simp [go_sem,hc1,hc2,z1_0,z1_1,z1_2,z2_0,z2_1,z2_2])
 have zW_0:w.heap.size < W.heap.size:=(by rw [←hWW];first|assumption|(simp;done)|(simp;omega))
 have zW_1:w.heap.size+1 < W.heap.size:=(by rw [←hWW];first|assumption|(simp;done)|(simp;omega))
 have zW_2:w.heap.size+1+1 < W.heap.size:=(by rw [←hWW];first|assumption|(simp;done)|(simp;omega))
 have bW:Below w.heap.size w W:=(by rw [←hWW];exact bi)
 have _:=bm bW
 simp only [hWW]
 replace HE:=qh (HE.out.below bW)
 clear hWW hc1 hf1 hb1 z1_0 z1_1 z1_2 hc2 hf2 hb2 z2_0 z2_1 z2_2
 go_cut [7,8] (fun u v wx=>∃b7 b8,u= .pointer (some ⟨b7,0,none⟩)∧v= .pointer (some ⟨b8,0,none⟩)∧Below W.heap.size W wx∧wx.cell? ⟨b7,0,none⟩=some (bs A1)∧wx.cell? ⟨b7,1,none⟩=some (bs A2)∧wx.cell? ⟨b8,0,none⟩=some (bs B1)∧wx.cell? ⟨b8,1,none⟩=some (bs B2))
 case first=>
  refine ja3 (fun w'=>Below W.heap.size W w') [] (by kernel_rfl) ?_
  refine tb 0 (.pointer (some ⟨w.heap.size,0,none⟩)) [] rfl (by kernel_rfl) pk rfl (by intros;go_simp) bq0 ?_
  simp only [ppq]
  refine tb 1 (sp A1 A2) [] rfl (by kernel_rfl) pk rfl (by intros;go_simp) bq0 ?_
  simp only [ppq]
  refine tb 2 (.pointer (some ⟨w.heap.size,2,none⟩)) [] rfl (by kernel_rfl) pk rfl (by intros;go_simp) bq0 ?_
  simp only [ppq]
  refine tb 3 (sp B1 B2) [] rfl (by kernel_rfl) pk rfl (by intros;go_simp) bq0 ?_
  simp only [ppq]
  refine ja0 (rs:=[4,5]) (by kernel_rfl) (by simp) (AllT.cons rfl (fun K hK=> ?o1) (AllT.cons rfl (fun K hK=> ?o2) AllT.nil))
  case' o1=>
   go_simp
   refine hK.out _ _ (fun _=>bi) ?_
   clear hK K
   refine ja0 (rs:=[5]) (by kernel_rfl) (by simp) (AllT.cons rfl (fun K hK=> ?_) AllT.nil)
   go_simp
   refine hK.out _ _ (fun _=>bi) ?_
   clear hK K
  case' o2=>
   go_simp
   refine hK.out _ _ (fun _=>bi) ?_
   clear hK K
   refine ja0 (rs:=[4]) (by kernel_rfl) (by simp) (AllT.cons rfl (fun K hK=> ?_) AllT.nil)
   go_simp
   refine hK.out _ _ (fun _=>bi) ?_
   clear hK K
  all_goals
   refine rd1 6 (by kernel_rfl) rfl (fun K hK=> ?_)
   go_simp
   refine hK.out _ _ (fun _=>bi) ?_
   clear hK K
   refine rd1 7 (by kernel_rfl) rfl (fun K hK=> ?_)
   go_simp
   refine hK.out _ _ (fun _=>bi) ?_
   clear hK K
   refine ja2 (by kernel_rfl) ?_ _
   go_wp2_with (fail)
   go_meet
   refine ⟨_,_,rfl,rfl,bi, ?_, ?_, ?_, ?_⟩
   all_goals simp [go_sem]
 case rest=>
  obtain ⟨b7,b8,rfl,rfl,hbc,hf70,hf71,hf80,hf81⟩:=hcut
  have _:=bm hbc
  obtain ⟨V,hWV⟩:∃x,wc=x:=⟨_,rfl⟩
  have mV:Below W.heap.size W V:=by rw [←hWV];exact hbc
  have cV_0:=ja4 mV cW_0
  have cV_1:=ja4 mV cW_1
  have cV_2:=ja4 mV cW_2
  have cV_3:=ja4 mV cW_3
  have cV_4:=ja4 mV cW_4
  have cV_5:=ja4 mV cW_5
  have cV_6:=ja4 mV cW_6
  have cV_7:=ja4 mV cW_7
  have cV_8:=ja4 mV cW_8
  have cV_9:=ja4 mV cW_9
  have cV_10:=ja4 mV cW_10
  have cV_11:=ja4 mV cW_11
  have zV_0:=Nat.lt_of_lt_of_le zW_0 mV.size
  have zV_1:=Nat.lt_of_lt_of_le zW_1 mV.size
  have zV_2:=Nat.lt_of_lt_of_le zW_2 mV.size
  have bV:=jcY bW mV
  have _:=bm bV
  (try rw [hWV])
  clear mV bW cW_0 cW_1 cW_2 cW_3 cW_4 cW_5 cW_6 cW_7 cW_8 cW_9 cW_10 cW_11 zW_0 zW_1 zW_2
  rw [hWV] at hf70 hf71 hf80 hf81
  clear hWV hbc
  have zb7:=World.block_lt_of_cell? V _ hf70
  have zb8:=World.block_lt_of_cell? V _ hf80
  dsimp only at zb7 zb8
  go_upto_region 4 with (fail)
  refine ja3 (fun w'=>Below V.heap.size V w') [] (by kernel_rfl) ?_
  refine tb 0 (sp A1 A2) [] rfl (by kernel_rfl) pk rfl (by intros;go_simp) bq0 ?_
  simp only [ppq]
  refine tb 1 (.pointer (some ⟨w.heap.size+1,0,none⟩)) [] rfl (by kernel_rfl) pk rfl (by intros;go_simp) bq0 ?_
  simp only [ppq]
  refine tb 2 (.int .u8 p) [] rfl (by kernel_rfl) pk rfl (by intros;go_simp) bq0 ?_
  simp only [ppq]
  refine tb 4 (sp B1 B2) [] rfl (by kernel_rfl) pk rfl (by intros;go_simp) bq0 ?_
  simp only [ppq]
  refine tb 5 (.pointer (some ⟨w.heap.size+1,1,none⟩)) [] rfl (by kernel_rfl) pk rfl (by intros;go_simp) bq0 ?_
  simp only [ppq]
  refine tb 6 (.int .u8 q) [] rfl (by kernel_rfl) pk rfl (by intros;go_simp) bq0 ?_
  simp only [ppq]
  refine rd1 3 (by kernel_rfl) rfl (fun K hK=> ?_)
  go_simp
  go_wp2_with (go_at_call 6;(with_reducible refine mo0 (HX.out _) fun w3 hb3 hc3 hf3 _=> ?_))
  have sS3:=qh (bst bq0 hb3)
  refine hK.out _ _ (fun _=>sS3.out) ?_
  clear hK K
  refine rd1 7 (by kernel_rfl) rfl (fun K hK=> ?_)
  go_simp
  go_wp2_with (go_at_call 6;(with_reducible refine mo0 (HY.out _) fun w4 hb4 hc4 hf4 _=> ?_))
  have sS4:=qh (bst sS3.out hb4)
  refine hK.out _ _ (fun _=>sS4.out) ?_
  clear hK K
  refine rd1 8 (by kernel_rfl) rfl (fun K hK=> ?_)
  go_simp
  refine hK.out _ _ (fun _=>bi) ?_
  clear hK K
  refine rd1 9 (by kernel_rfl) rfl (fun K hK=> ?_)
  go_simp
  refine hK.out _ _ (fun _=>bi) ?_
  clear hK K
  refine ja2 (by kernel_rfl) ?_ _
  have bb4:Below V.heap.size V w4:=bi
  replace hf70:=ja5 bb4 hf70
  replace hf71:=ja5 bb4 hf71
  replace hf80:=ja5 bb4 hf80
  replace hf81:=ja5 bb4 hf81
  obtain ⟨U,hWU⟩:∃x,w4=x:=⟨_,rfl⟩
  have mU:Below V.heap.size V U:=by rw [←hWU];exact bb4
  have cU_0:=ja4 mU cV_0
  have cU_1:=ja4 mU cV_1
  have cU_2:=ja4 mU cV_2
  have cU_3:=ja4 mU cV_3
  have cU_4:=ja4 mU cV_4
  have cU_5:=ja4 mU cV_5
  have cU_6:=ja4 mU cV_6
  have cU_7:=ja4 mU cV_7
  have cU_8:=ja4 mU cV_8
  have cU_9:=ja4 mU cV_9
  have cU_10:=ja4 mU cV_10
  have cU_11:=ja4 mU cV_11
  have zU_0:=Nat.lt_of_lt_of_le zV_0 mU.size
  have zU_1:=Nat.lt_of_lt_of_le zV_1 mU.size
  have zU_2:=Nat.lt_of_lt_of_le zV_2 mU.size
  have bU:=jcY bV mU
  have _:=bm bU
  (try rw [hWU])
  clear mU bV cV_0 cV_1 cV_2 cV_3 cV_4 cV_5 cV_6 cV_7 cV_8 cV_9 cV_10 cV_11 zV_0 zV_1 zV_2
  rw [hWU] at hf70 hf71 hf80 hf81
  replace zb7:=World.block_lt_of_cell? U _ hf70
  replace zb8:=World.block_lt_of_cell? U _ hf80
  dsimp only at zb7 zb8
  clear hWU hb4 hb3 hc3 hf3 hc4 hf4
  go_upto_region 10 with (first|((go_at_call 7;(with_reducible refine mo0 (HA.out _ bi) fun w5 hb5 hc5 hf5 _=> ?_));(first|have y5_0:=szl (k:=b7) hb5 (by first|go_size|fail)|have y5_0:=Nat.one_pos);(first|have y5_1:=szl (k:=b8) hb5 (by first|go_size|fail)|have y5_1:=Nat.one_pos))|((go_at_call 8;(with_reducible refine mo0 (HS.out _ bi) fun w6 hb6 hc6 hf6 _=> ?_));(first|have y6_0:=szl (k:=w5.heap.size) hb6 (by first|go_size|fail)|have y6_0:=Nat.one_pos);(first|have y6_1:=szl (k:=b7) hb6 (by first|go_size|fail)|have y6_1:=Nat.one_pos);(first|have y6_2:=szl (k:=b8) hb6 (by first|go_size|fail)|have y6_2:=Nat.one_pos))|((go_at_call 9;(with_reducible refine mo0 (HM.out _ bi) fun w7 hb7 hc7 hf7 _=> ?_));(first|have y7_0:=szl (k:=w5.heap.size) hb7 (by first|go_size|fail)|have y7_0:=Nat.one_pos);(first|have y7_1:=szl (k:=w6.heap.size) hb7 (by first|go_size|fail)|have y7_1:=Nat.one_pos);(first|have y7_2:=szl (k:=b7) hb7 (by first|go_size|fail)|have y7_2:=Nat.one_pos);(first|have y7_3:=szl (k:=b8) hb7 (by first|go_size|fail)|have y7_3:=Nat.one_pos))|(go_at_call 5;(with_reducible refine mo0 (HF2.out _ _ (je2 (by simp [go_sem,hc6,hc7,y6_0,y7_0,y7_1]) (by simp [go_sem,hc6,hc7,y6_0,y7_0,y7_1]) (by simp [go_sem,hc6,hc7,y6_0,y7_0,y7_1]) (by simp [go_sem,hc6,hc7,y6_0,y7_0,y7_1]) (by simp [go_sem,hc6,hc7,y6_0,y7_0,y7_1]) (by simp [go_sem,hc6,hc7,y6_0,y7_0,y7_1]))) fun w8 hb8 hc8 hf8 _=> ?_)))
  have k50:w8.cell? ⟨w5.heap.size,0,none⟩=some (bs TP):=by simp [go_sem,hc8,hc7,hc6,y6_0,y7_0,y7_1,nls y6_0,nls y7_0,nl y6_0,nl y7_0,nl y7_1]
  have k51:w8.cell? ⟨w5.heap.size,1,none⟩=some (bs TQ):=by simp [go_sem,hc8,hc7,hc6,y6_0,y7_0,y7_1,nls y6_0,nls y7_0,nl y6_0,nl y7_0,nl y7_1]
  have k60:w8.cell? ⟨w6.heap.size,0,none⟩=some (bs TR):=by simp [go_sem,hc8,hc7,hc6,y6_0,y7_0,y7_1,nls y7_1,nl y6_0,nl y7_0,nl y7_1]
  have k61:w8.cell? ⟨w6.heap.size,1,none⟩=some (bs TS):=by simp [go_sem,hc8,hc7,hc6,y6_0,y7_0,y7_1,nls y7_1,nl y6_0,nl y7_0,nl y7_1]
  have k70:w8.cell? ⟨w7.heap.size,0,none⟩=some (bs TL):=by simp [go_sem,hc8]
  have k71:w8.cell? ⟨w7.heap.size,1,none⟩=some (bs TM):=by simp [go_sem,hc8]
  have bb8:Below U.heap.size U w8:=bi
  replace hf70:=ja5 bb8 hf70
  replace hf71:=ja5 bb8 hf71
  replace hf80:=ja5 bb8 hf80
  replace hf81:=ja5 bb8 hf81
  obtain ⟨Y,hWY⟩:∃x,w8=x:=⟨_,rfl⟩
  have mY:Below U.heap.size U Y:=by rw [←hWY];exact bb8
  have cY_0:=ja4 mY cU_0
  have cY_1:=ja4 mY cU_1
  have cY_2:=ja4 mY cU_2
  have cY_3:=ja4 mY cU_3
  have cY_4:=ja4 mY cU_4
  have cY_5:=ja4 mY cU_5
  have cY_6:=ja4 mY cU_6
  have cY_7:=ja4 mY cU_7
  have cY_8:=ja4 mY cU_8
  have cY_9:=ja4 mY cU_9
  have cY_10:=ja4 mY cU_10
  have cY_11:=ja4 mY cU_11
  have zY_0:=Nat.lt_of_lt_of_le zU_0 mY.size
  have zY_1:=Nat.lt_of_lt_of_le zU_1 mY.size
  have zY_2:=Nat.lt_of_lt_of_le zU_2 mY.size
  have bY:=jcY bU mY
  have _:=bm bY
  (try rw [hWY])
  clear mY bU cU_0 cU_1 cU_2 cU_3 cU_4 cU_5 cU_6 cU_7 cU_8 cU_9 cU_10 cU_11 zU_0 zU_1 zU_2
  rw [hWY] at hf70 hf71 hf80 hf81 k50 k51 k60 k61 k70 k71
  obtain ⟨g5,hg5⟩:∃g,w5.heap.size=g:=⟨_,rfl⟩
  obtain ⟨g6,hg6⟩:∃g,w6.heap.size=g:=⟨_,rfl⟩
  obtain ⟨g7,hg7⟩:∃g,w7.heap.size=g:=⟨_,rfl⟩
  rw [hg5] at k50 k51 ⊢
  rw [hg6] at k60 k61 ⊢
  rw [hg7] at k70 k71 ⊢
  replace zb7:=World.block_lt_of_cell? Y _ hf70
  replace zb8:=World.block_lt_of_cell? Y _ hf80
  have zg5:=World.block_lt_of_cell? Y _ k50
  have zg6:=World.block_lt_of_cell? Y _ k60
  have zg7:=World.block_lt_of_cell? Y _ k70
  dsimp only at zb7 zb8 zg5 zg6 zg7
  clear hWY hb5 hc5 hf5 hb6 hc6 hf6 hb7 hc7 hf7 hb8 hc8 hf8 hg5 hg6 hg7 y5_0 y5_1 y6_0 y6_1 y6_2 y7_0 y7_1 y7_2 y7_3
  refine ja3 (fun w'=>Below Y.heap.size Y w') [] (by kernel_rfl) ?_
  refine tb 0 (bs TX) [] rfl (by kernel_rfl) pk rfl (by intros;go_simp) bq0 ?_
  simp only [ppq]
  refine tb 1 (bs TY) [] rfl (by kernel_rfl) pk rfl (by intros;go_simp) bq0 ?_
  simp only [ppq]
  refine tb 3 (sp TP TQ) [] rfl (by kernel_rfl) pk rfl (by intros;go_simp) bq0 ?_
  simp only [ppq]
  refine rd1 2 (by kernel_rfl) rfl (fun K hK=> ?_)
  go_simp
  go_wp2_with (go_at_call 11;(with_reducible refine mo0 (HAA.out _) fun w9 hb9 hc9 hf9 _=> ?_))
  have sS9:=qh (bst bq0 hb9)
  refine hK.out _ _ (fun _=>sS9.out) ?_
  clear hK K
  refine rd1 4 (by kernel_rfl) rfl (fun K hK=> ?_)
  go_simp
  go_wp2_with (go_at_call 10;(with_reducible refine mo0 (HI1.out _) fun w10 hb10 hc10 hf10 _=> ?_))
  have sS10:=qh (bst sS9.out hb10)
  refine hK.out _ _ (fun _=>sS10.out) ?_
  clear hK K
  refine rd1 5 (by kernel_rfl) rfl (fun K hK=> ?_)
  go_simp
  refine hK.out _ _ (fun _=>bi) ?_
  clear hK K
  refine rd1 6 (by kernel_rfl) rfl (fun K hK=> ?_)
  go_simp
  refine hK.out _ _ (fun _=>bi) ?_
  clear hK K
  refine tb 7 (bs TX) [] rfl (by kernel_rfl) pk rfl (by intros;go_simp) sS10.out ?_
  simp only [ppq]
  refine tb 8 (bs TY) [] rfl (by kernel_rfl) pk rfl (by intros;go_simp) sS10.out ?_
  simp only [ppq]
  refine tb 10 (sp TR TS) [] rfl (by kernel_rfl) pk rfl (by intros;go_simp) sS10.out ?_
  simp only [ppq]
  refine rd1 9 (by kernel_rfl) rfl (fun K hK=> ?_)
  go_simp
  go_wp2_with (go_at_call 12;(with_reducible refine mo0 (HSS.out _) fun w11 hb11 hc11 hf11 _=> ?_))
  have sS11:=qh (bst sS10.out hb11)
  refine hK.out _ _ (fun _=>sS11.out) ?_
  clear hK K
  refine rd1 11 (by kernel_rfl) rfl (fun K hK=> ?_)
  go_simp
  go_wp2_with (go_at_call 10;(with_reducible refine mo0 (HI2.out _) fun w12 hb12 hc12 hf12 _=> ?_))
  have sS12:=qh (bst sS11.out hb12)
  refine hK.out _ _ (fun _=>sS12.out) ?_
  clear hK K
  refine rd1 12 (by kernel_rfl) rfl (fun K hK=> ?_)
  go_simp
  refine hK.out _ _ (fun _=>bi) ?_
  clear hK K
  refine rd1 13 (by kernel_rfl) rfl (fun K hK=> ?_)
  go_simp
  refine hK.out _ _ (fun _=>bi) ?_
  clear hK K
  refine rd1 14 (by kernel_rfl) rfl (fun K hK=> ?_)
  go_simp
  refine hK.out _ _ (fun _=>bi) ?_
  clear hK K
  refine tb 15 (bs TX) [] rfl (by kernel_rfl) pk rfl (by intros;go_simp) sS12.out ?_
  simp only [ppq]
  refine tb 16 (bs TY) [] rfl (by kernel_rfl) pk rfl (by intros;go_simp) sS12.out ?_
  simp only [ppq]
  refine tb 18 (sp TL TM) [] rfl (by kernel_rfl) pk rfl (by intros;go_simp) sS12.out ?_
  simp only [ppq]
  refine rd1 17 (by kernel_rfl) rfl (fun K hK=> ?_)
  go_simp
  go_wp2_with (go_at_call 13;(with_reducible refine mo0 (HMM.out _) fun w13 hb13 hc13 hf13 _=> ?_))
  have sS13:=qh (bst sS12.out hb13)
  refine hK.out _ _ (fun _=>sS13.out) ?_
  clear hK K
  refine rd1 19 (by kernel_rfl) rfl (fun K hK=> ?_)
  go_simp
  go_wp2_with (go_at_call 10;(with_reducible refine mo0 (HI3.out _) fun w14 hb14 hc14 hf14 _=> ?_))
  have sS14:=qh (bst sS13.out hb14)
  refine hK.out _ _ (fun _=>sS14.out) ?_
  clear hK K
  refine rd1 20 (by kernel_rfl) rfl (fun K hK=> ?_)
  go_simp
  refine hK.out _ _ (fun _=>bi) ?_
  clear hK K
  refine rd1 21 (by kernel_rfl) rfl (fun K hK=> ?_)
  go_simp
  refine hK.out _ _ (fun _=>bi) ?_
  clear hK K
  refine ja2 (by kernel_rfl) ?_ _
  have bb14:Below Y.heap.size Y w14:=bi
  replace hf70:=ja5 bb14 hf70
  replace hf71:=ja5 bb14 hf71
  replace hf80:=ja5 bb14 hf80
  replace hf81:=ja5 bb14 hf81
  replace k50:=ja5 bb14 k50
  replace k61:=ja5 bb14 k61
  replace k70:=ja5 bb14 k70
  replace k71:=ja5 bb14 k71
  obtain ⟨J,hWJ⟩:∃x,w14=x:=⟨_,rfl⟩
  have mJ:Below Y.heap.size Y J:=by rw [←hWJ];exact bb14
  have cJ_0:=ja4 mJ cY_0
  have cJ_1:=ja4 mJ cY_1
  have cJ_2:=ja4 mJ cY_2
  have cJ_3:=ja4 mJ cY_3
  have cJ_4:=ja4 mJ cY_4
  have cJ_5:=ja4 mJ cY_5
  have cJ_6:=ja4 mJ cY_6
  have cJ_7:=ja4 mJ cY_7
  have cJ_8:=ja4 mJ cY_8
  have cJ_9:=ja4 mJ cY_9
  have cJ_10:=ja4 mJ cY_10
  have cJ_11:=ja4 mJ cY_11
  have zJ_0:=Nat.lt_of_lt_of_le zY_0 mJ.size
  have zJ_1:=Nat.lt_of_lt_of_le zY_1 mJ.size
  have zJ_2:=Nat.lt_of_lt_of_le zY_2 mJ.size
  have bJ:=jcY bY mJ
  have _:=bm bJ
  (try rw [hWJ])
  clear mJ bY cY_0 cY_1 cY_2 cY_3 cY_4 cY_5 cY_6 cY_7 cY_8 cY_9 cY_10 cY_11 zY_0 zY_1 zY_2
  rw [hWJ] at hf70 hf71 hf80 hf81 k50 k61 k70 k71
  replace zb7:=World.block_lt_of_cell? J _ hf70
  replace zb8:=World.block_lt_of_cell? J _ hf80
  replace zg5:=World.block_lt_of_cell? J _ k50
  replace zg6:=World.block_lt_of_cell? J _ k61
  replace zg7:=World.block_lt_of_cell? J _ k70
  dsimp only at zb7 zb8 zg5 zg6 zg7
  clear hWJ k51 k60 HX HY HA HS HM HF HF2 HW HAA HSS HMM HI1 HI2 HI3 hb9 hc9 hf9 hb10 hc10 hf10 hb11 hc11 hf11 hb12 hc12 hf12 hb13 hc13 hf13 hb14 hc14 hf14 sS9 sS10 sS11 sS12 sS13 sS14
  go_wp2
  go_loopw [17,18,107] (fun u1 u2 u wr=>∃(i:Nat) (lo hi:Int),u1= .int .i64 lo∧u2= .int .i64 hi∧u= .int .i64 (i:Int)∧i≤2∧(0≤lo∧lo≤2*i∧0≤hi∧hi≤2*i)∧(∀a b,a < i→b < 2→(T a b=TL→0 < lo)∧(T a b=TM→0 < hi))∧Below J.heap.size J wr∧wr.cell? ⟨J.heap.size,0,none⟩=some (bs A1)∧wr.cell? ⟨J.heap.size,1,none⟩=some (bs A2)) (fun _ _ u _=>2 - (intOf u).toNat)
  case atStart=>exact ⟨0,0,0,rfl,rfl,rfl,by omega,by omega,fun a b h=>absurd h (by omega),bi,by simp,by simp⟩
  case round=>
   obtain ⟨i,lo,hi,rfl,rfl,rfl,hi2,hlh,hvis,hb,kA0,kA1⟩:=hrel
   have _:=bm hb
   rename World=>wo
   have HVIS:=qh hvis
   have HLH:=qh hlh
   clear hvis hlh
   by_cases hii:i < 2
   ·have p0:decide ((i:Int) < 2)=true:=by rw [decide_eq_true_iff];omega
    obtain ⟨UA,hUA⟩:∃t,[A1,A2].getD i []=t:=⟨_,rfl⟩
    have kx:wo.cell? ⟨J.heap.size,i,none⟩=some (bs UA):=by
     subst hUA
     match i,hii with
     | 0,_=>exact kA0
     | 1,_=>exact kA1
    have kb0:=ja5 hb hf80
    have kb1:=ja5 hb hf81
    have kl0:=ja5 hb k70
    have kl1:=ja5 hb k71
    have zb:=Nat.lt_of_lt_of_le zb8 hb.size
    have zl:=Nat.lt_of_lt_of_le zg7 hb.size
    have zA:=World.block_lt_of_cell? wo _ kA0
    dsimp only at zA
    have HUA:=qh hUA
    have HII:=qh hii
    clear hUA
    go_wp2
    go_loopw [17,18,117] (fun u1 u2 u wr=>∃(k:Nat) (lo2 hi2:Int),u1= .int .i64 lo2∧u2= .int .i64 hi2∧u= .int .i64 (k:Int)∧k≤2∧(0≤lo2∧lo2≤2*i+k∧0≤hi2∧hi2≤2*i+k)∧(∀a b,(a < i∧b < 2)∨(a=i∧b < k)→(T a b=TL→0 < lo2)∧(T a b=TM→0 < hi2))∧Below wo.heap.size wo wr∧wr.cell? ⟨wo.heap.size,0,none⟩=some (bs B1)∧wr.cell? ⟨wo.heap.size,1,none⟩=some (bs B2)) (fun _ _ u _=>2 - (intOf u).toNat)
    case atStart=>exact ⟨0,lo,hi,rfl,rfl,rfl,by omega,by have:=HLH.out;omega,fun a b h=>HVIS.out a b (by omega) (by omega),bi,by simp,by simp⟩
    case round=>
     obtain ⟨k,lo2,hi3,rfl,rfl,rfl,hk2,hlh2,hvis2,hb2,kB0,kB1⟩:=hrel
     have _:=bm hb2
     have HVIS2:=qh hvis2
     have HLH2:=qh hlh2
     clear hvis2 hlh2
     by_cases hk:k < 2
     ·have p1:decide ((k:Int) < 2)=true:=by rw [decide_eq_true_iff];omega
      obtain ⟨UB,hUB⟩:∃t,[B1,B2].getD k []=t:=⟨_,rfl⟩
      have ky:wr.cell? ⟨wo.heap.size,k,none⟩=some (bs UB):=by
       subst hUB
       match k,hk with
       | 0,_=>exact kB0
       | 1,_=>exact kB1
      have HMU:=qh (fun W=>HMUL.out W i k hii hk)
      rw [HUA.out,hUB] at HMU
      obtain ⟨t,ht⟩:∃t,T i k=t:=⟨_,rfl⟩
      rw [ht] at HMU
      have kl20:=ja5 hb2 kl0
      have kl21:=ja5 hb2 kl1
      have zl2:=Nat.lt_of_lt_of_le zl hb2.size
      have bA:=ja5 hb2 kA0
      have wl1:wrap64 (lo2+1)=lo2+1:=by have:=HLH2.out;unfold wrap64;omega
      have wl2:wrap64 (hi3+1)=hi3+1:=by have:=HLH2.out;unfold wrap64;omega
      have HT:=qh ht
      have HK:=qh hk
      have hvk:∀(x y:Int),(t=TL→0 < x)→(t=TM→0 < y)→lo2≤x→hi3≤y→∀a b,(a < i∧b < 2)∨(a=i∧b < k+1)→(T a b=TL→0 < x)∧(T a b=TM→0 < y):=fun x y h1 h2 h3 h4 a b hab=>by
       by_cases e:a=i∧b=k
       ·obtain ⟨rfl,rfl⟩:=e
        rw [HT.out];exact ⟨h1,h2⟩
       ·have hh:=HVIS2.out a b (by omega)
        exact ⟨fun h=>by have:=hh.1 h;omega,fun h=>by have:=hh.2 h;omega⟩
      have HVK:=qh hvk
      clear hvk ht hUB
      by_cases e1:t=TL
      ·have q1:(t==TL)=true:=by rw [beq_iff_eq];exact e1
       by_cases e2:t=TM
       ·have q2:(t==TM)=true:=by rw [beq_iff_eq];exact e2
        have hv:=qh (HVK.out (lo2+1) (hi3+1) (fun _=>by have:=HLH2.out;omega) (fun _=>by have:=HLH2.out;omega) (by omega) (by omega))
        clear e1 e2
        go_wp2_with (go_at_call 13;(with_reducible refine mo0 (HMU.out _) fun w15 hb15 hc15 hf15 _=> ?_))
        exact ⟨⟨k+1,lo2+1,hi3+1,by rw [wl1],by rw [wl2],by simp,HK.out,by have:=HLH2.out;omega,hv.out,bi,ja5 hb15 kB0,ja5 hb15 kB1⟩,by have:=HK.out;simp [intOf];omega⟩
       ·have q2:(t==TM)=false:=by rw [beq_eq_false_iff_ne];exact e2
        have hv:=qh (HVK.out (lo2+1) hi3 (fun _=>by have:=HLH2.out;omega) (fun h=>absurd h e2) (by omega) (by omega))
        clear e1 e2
        go_wp2_with (go_at_call 13;(with_reducible refine mo0 (HMU.out _) fun w15 hb15 hc15 hf15 _=> ?_))
        exact ⟨⟨k+1,lo2+1,hi3,by rw [wl1],rfl,by simp,HK.out,by have:=HLH2.out;omega,hv.out,bi,ja5 hb15 kB0,ja5 hb15 kB1⟩,by have:=HK.out;simp [intOf];omega⟩
      ·have q1:(t==TL)=false:=by rw [beq_eq_false_iff_ne];exact e1
       by_cases e2:t=TM
       ·have q2:(t==TM)=true:=by rw [beq_iff_eq];exact e2
        have hv:=qh (HVK.out lo2 (hi3+1) (fun h=>absurd h e1) (fun _=>by have:=HLH2.out;omega) (by omega) (by omega))
        clear e1 e2
        go_wp2_with (go_at_call 13;(with_reducible refine mo0 (HMU.out _) fun w15 hb15 hc15 hf15 _=> ?_))
        exact ⟨⟨k+1,lo2,hi3+1,rfl,by rw [wl2],by simp,HK.out,by have:=HLH2.out;omega,hv.out,bi,ja5 hb15 kB0,ja5 hb15 kB1⟩,by have:=HK.out;simp [intOf];omega⟩
       ·have q2:(t==TM)=false:=by rw [beq_eq_false_iff_ne];exact e2
        have hv:=qh (HVK.out lo2 hi3 (fun h=>absurd h e1) (fun h=>absurd h e2) (by omega) (by omega))
        clear e1 e2
        go_wp2_with (go_at_call 13;(with_reducible refine mo0 (HMU.out _) fun w15 hb15 hc15 hf15 _=> ?_))
        exact ⟨⟨k+1,lo2,hi3,rfl,rfl,by simp,HK.out,by have:=HLH2.out;omega,hv.out,bi,ja5 hb15 kB0,ja5 hb15 kB1⟩,by have:=HK.out;simp [intOf];omega⟩
     ·have p1:decide ((k:Int) < 2)=false:=by rw [decide_eq_false_iff_not];omega
      have e:k=2:=by omega
      subst e
      clear hk hk2
      go_wp2
      go_roundw
      case rel=>exact ⟨i+1,lo2,hi3,rfl,rfl,by simp,HII.out,by have:=HLH2.out;omega,fun a b h1 h2=>HVIS2.out a b (by omega),bi,ja5 hb2 kA0,ja5 hb2 kA1⟩
      case measure=>have:=HII.out;simp [intOf];omega
   ·have p0:decide ((i:Int) < 2)=false:=by rw [decide_eq_false_iff_not];omega
    have e:i=2:=by omega
    subst e
    have l0:(lo==0)=false:=by
     obtain ⟨a,b,h1,h2,h3⟩:=HTL.out
     have:=(HVIS.out a b h1 h2).1 h3
     rw [beq_eq_false_iff_ne];omega
    have h0:(hi==0)=false:=by
     obtain ⟨a,b,h1,h2,h3⟩:=HTM.out
     have:=(HVIS.out a b h1 h2).2 h3
     rw [beq_eq_false_iff_ne];omega
    replace hf70:=ja5 hb hf70
    replace hf71:=ja5 hb hf71
    replace hf80:=ja5 hb hf80
    replace k50:=ja5 hb k50
    replace k61:=ja5 hb k61
    obtain ⟨G,hWG⟩:∃x,wo=x:=⟨_,rfl⟩
    have mG:Below J.heap.size J G:=by rw [←hWG];exact hb
    have cG_0:=ja4 mG cJ_0
    have cG_1:=ja4 mG cJ_1
    have cG_2:=ja4 mG cJ_2
    have cG_3:=ja4 mG cJ_3
    have cG_4:=ja4 mG cJ_4
    have cG_5:=ja4 mG cJ_5
    have cG_6:=ja4 mG cJ_6
    have cG_7:=ja4 mG cJ_7
    have cG_8:=ja4 mG cJ_8
    have cG_9:=ja4 mG cJ_9
    have cG_10:=ja4 mG cJ_10
    have cG_11:=ja4 mG cJ_11
    have zG_0:=Nat.lt_of_lt_of_le zJ_0 mG.size
    have zG_1:=Nat.lt_of_lt_of_le zJ_1 mG.size
    have zG_2:=Nat.lt_of_lt_of_le zJ_2 mG.size
    have bG:=jcY bJ mG
    have _:=bm bG
    (try rw [hWG])
    clear mG bJ cJ_0 cJ_1 cJ_2 cJ_3 cJ_4 cJ_5 cJ_6 cJ_7 cJ_8 cJ_9 cJ_10 cJ_11 zJ_0 zJ_1 zJ_2
    rw [hWG] at hf70 hf71 hf80 k50 k61
    replace zb7:=World.block_lt_of_cell? G _ hf70
    replace zb8:=World.block_lt_of_cell? G _ hf80
    replace zg5:=World.block_lt_of_cell? G _ k50
    replace zg6:=World.block_lt_of_cell? G _ k61
    dsimp only at zb7 zb8 zg5 zg6
    clear hWG kA0 kA1 hii hi2 HMUL HTL HTM HVIS HLH hf81 k70 k71 zg7
    go_upto_region 26 with (fail)
    refine ja3 (fun w'=>Below G.heap.size G w') [] (by kernel_rfl) ?_
    refine rd1 0 (by kernel_rfl) rfl (fun K hK=> ?_)
    go_simp
    refine hK.out _ _ (fun _=>bi) ?_
    clear hK K
    refine rd1 1 (by kernel_rfl) rfl (fun K hK=> ?_)
    go_simp
    refine hK.out _ _ (fun _=>bi) ?_
    clear hK K
    refine rd1 2 (by kernel_rfl) rfl (fun K hK=> ?_)
    go_simp
    refine hK.out _ _ (fun _=>bi) ?_
    clear hK K
    refine rd1 3 (by kernel_rfl) rfl (fun K hK=> ?_)
    go_simp
    refine hK.out _ _ (fun _=>bi) ?_
    clear hK K
    refine rd1 4 (by kernel_rfl) rfl (fun K hK=> ?_)
    go_simp
    refine hK.out _ _ (fun _=>bi) ?_
    clear hK K
    refine rd1 5 (by kernel_rfl) rfl (fun K hK=> ?_)
    go_simp
    refine hK.out _ _ (fun _=>bi) ?_
    clear hK K
    refine rd1 6 (by kernel_rfl) rfl (fun K hK=> ?_)
    go_simp
    refine hK.out _ _ (fun _=>bi) ?_
    clear hK K
    refine tb 7 (.pointer (some ⟨g5,0,none⟩)) [] rfl (by kernel_rfl) pk rfl (by intros;go_simp) bq0 ?_
    simp only [ppq]
    refine tb 8 (bs TP) [] rfl (by kernel_rfl) pk rfl (by intros;go_simp) bq0 ?_
    simp only [ppq]
    refine tb 9 (.pointer (some ⟨b7,0,none⟩)) [] rfl (by kernel_rfl) pk rfl (by intros;go_simp) bq0 ?_
    simp only [ppq]
    refine tb 10 (bs A1) [] rfl (by kernel_rfl) pk rfl (by intros;go_simp) bq0 ?_
    simp only [ppq]
    refine tb 11 (.pointer (some ⟨b8,0,none⟩)) [] rfl (by kernel_rfl) pk rfl (by intros;go_simp) bq0 ?_
    simp only [ppq]
    refine tb 12 (bs B1) [] rfl (by kernel_rfl) pk rfl (by intros;go_simp) bq0 ?_
    simp only [ppq]
    refine rd1 13 (by kernel_rfl) rfl (fun K hK=> ?_)
    go_simp
    go_wp2_with (go_at_call 11;(with_reducible refine mo0 (HAE.out _) fun w16 hb16 hc16 hf16 _=> ?_))
    have sS16:=qh (bst bq0 hb16)
    refine hK.out _ _ (fun _=>sS16.out) ?_
    clear hK K
    refine rd1 14 (by kernel_rfl) rfl (fun K hK=> ?_)
    go_simp
    refine hK.out _ _ (fun _=>bi) ?_
    clear hK K
    refine rd1 15 (by kernel_rfl) rfl (fun K hK=> ?_)
    go_simp
    refine hK.out _ _ (fun _=>bi) ?_
    clear hK K
    refine rd1 16 (by kernel_rfl) rfl (fun K hK=> ?_)
    go_simp
    refine hK.out _ _ (fun _=>bi) ?_
    clear hK K
    refine tb 17 (.pointer (some ⟨g6,1,none⟩)) [] rfl (by kernel_rfl) pk rfl (by intros;go_simp) sS16.out ?_
    simp only [ppq]
    refine tb 18 (bs TS) [] rfl (by kernel_rfl) pk rfl (by intros;go_simp) sS16.out ?_
    simp only [ppq]
    refine tb 19 (.pointer (some ⟨b7,1,none⟩)) [] rfl (by kernel_rfl) pk rfl (by intros;go_simp) sS16.out ?_
    simp only [ppq]
    refine tb 20 (bs A2) [] rfl (by kernel_rfl) pk rfl (by intros;go_simp) sS16.out ?_
    simp only [ppq]
    refine tb 21 (.pointer (some ⟨b8,0,none⟩)) [] rfl (by kernel_rfl) pk rfl (by intros;go_simp) sS16.out ?_
    simp only [ppq]
    refine tb 22 (bs B1) [] rfl (by kernel_rfl) pk rfl (by intros;go_simp) sS16.out ?_
    simp only [ppq]
    refine rd1 23 (by kernel_rfl) rfl (fun K hK=> ?_)
    go_simp
    go_wp2_with (go_at_call 12;(with_reducible refine mo0 (HSE.out _) fun w17 hb17 hc17 hf17 _=> ?_))
    have sS17:=qh (bst sS16.out hb17)
    refine hK.out _ _ (fun _=>sS17.out) ?_
    clear hK K
    refine rd1 24 (by kernel_rfl) rfl (fun K hK=> ?_)
    go_simp
    refine hK.out _ _ (fun _=>bi) ?_
    clear hK K
    refine rd1 25 (by kernel_rfl) rfl (fun K hK=> ?_)
    go_simp
    refine hK.out _ _ (fun _=>bi) ?_
    clear hK K
    refine ja2 (by kernel_rfl) ?_ _
    have bb17:Below G.heap.size G w17:=bi
    obtain ⟨H,hWH⟩:∃x,w17=x:=⟨_,rfl⟩
    have mH:Below G.heap.size G H:=by rw [←hWH];exact bb17
    have cH_0:=ja4 mH cG_0
    have cH_1:=ja4 mH cG_1
    have cH_2:=ja4 mH cG_2
    have cH_3:=ja4 mH cG_3
    have cH_4:=ja4 mH cG_4
    have cH_5:=ja4 mH cG_5
    have cH_6:=ja4 mH cG_6
    have cH_7:=ja4 mH cG_7
    have cH_8:=ja4 mH cG_8
    have cH_9:=ja4 mH cG_9
    have cH_10:=ja4 mH cG_10
    have cH_11:=ja4 mH cG_11
    have zH_0:=Nat.lt_of_lt_of_le zG_0 mH.size
    have zH_1:=Nat.lt_of_lt_of_le zG_1 mH.size
    have zH_2:=Nat.lt_of_lt_of_le zG_2 mH.size
    have bH:=jcY bG mH
    have _:=bm bH
    (try rw [hWH])
    clear mH bG cG_0 cG_1 cG_2 cG_3 cG_4 cG_5 cG_6 cG_7 cG_8 cG_9 cG_10 cG_11 zG_0 zG_1 zG_2
    clear hWH hf70 hf71 hf80 k50 k61 zb7 zb8 zg5 zg6 hb16 hc16 hf16 hb17 hc17 hf17 sS16 sS17 l0 h0 HAE HSE
    go_upto_region 32 with (first|((go_at_call 14;(with_reducible refine mo0 (HMN.out _ bi _ _ (je2 (jaL cH_0 _) (jaL cH_1 _) (jaL cH_2 _) (jaL cH_3 _) (jaL cH_4 _) (jaL cH_5 _)) (jiG ru rv' rz)) fun w18 hb18 hc18 hf18 _=> ?_));(first|have y18_0:=szl (k:=H.heap.size) hb18 (by first|go_size|fail)|have y18_0:=Nat.one_pos))|((go_at_call 5;(with_reducible refine mo0 (HF3.out _ _ (jqK (by simp) (by simp))) fun w19 hb19 hc19 hf19 _=> ?_));(first|have y19_0:=szl (k:=H.heap.size) hb19 (by first|go_size|fail)|have y19_0:=Nat.one_pos);(first|have y19_1:=szl (k:=w18.heap.size) hb19 (by first|go_size|fail)|have y19_1:=Nat.one_pos)))
    have j0:w19.cell? ⟨w18.heap.size,0,none⟩=some (bs TML):=by simp [go_sem,hc19]
    have j1:w19.cell? ⟨w18.heap.size,1,none⟩=some (bs TMH):=by simp [go_sem,hc19]
    have jw:Iv w19 (some ⟨H.heap.size,0,none⟩) 3 [u,v,1+z]:=(jiG (T:=3) ru rv' rz).below bi
    have jz:=World.block_lt_of_cell? w19 _ j0
    dsimp only at jz
    have JW:=qh jw
    have bb19:Below H.heap.size H w19:=bi
    have l4:=ja5 bb19 cH_4
    have l5:=ja5 bb19 cH_5
    have l8:=ja5 bb19 cH_8
    have yw0:=Nat.lt_of_lt_of_le zH_0 bb19.size
    have yw1:=Nat.lt_of_lt_of_le zH_1 bb19.size
    clear jw
    refine ja3 (fun w'=>Below w19.heap.size w19 w') [] (by kernel_rfl) ?_
    refine tb 0 (bs TX) [] rfl (by kernel_rfl) pk rfl (by intros;go_simp) bq0 ?_
    simp only [ppq]
    refine tb 1 (bs TY) [] rfl (by kernel_rfl) pk rfl (by intros;go_simp) bq0 ?_
    simp only [ppq]
    refine tb 2 (.pointer (some ⟨w.heap.size,4,none⟩)) [] rfl (by kernel_rfl) pk rfl (by intros;go_simp) bq0 ?_
    simp only [ppq]
    refine tb 3 (sp C1 C2) [] rfl (by kernel_rfl) pk rfl (by intros;go_simp) bq0 ?_
    simp only [ppq]
    refine tb 4 (.pointer (some ⟨w.heap.size+1,2,none⟩)) [] rfl (by kernel_rfl) pk rfl (by intros;go_simp) bq0 ?_
    simp only [ppq]
    refine tb 5 (.int .u8 r) [] rfl (by kernel_rfl) pk rfl (by intros;go_simp) bq0 ?_
    simp only [ppq]
    refine tb 8 (.slice (some ⟨H.heap.size,0,none⟩) 3 3) [] rfl (by kernel_rfl) pk rfl (by intros;go_simp) bq0 ?_
    simp only [ppq]
    refine tb 10 (sp TML TMH) [] rfl (by kernel_rfl) pk rfl (by intros;go_simp) bq0 ?_
    simp only [ppq]
    refine rd1 6 (by kernel_rfl) rfl (fun K hK=> ?_)
    go_simp
    go_wp2_with (go_at_call 6;(with_reducible refine mo0 (HZ.out _) fun w20 hb20 hc20 hf20 _=> ?_))
    have sS20:=qh (bst bq0 hb20)
    refine hK.out _ _ (fun _=>sS20.out) ?_
    clear hK K
    refine rd1 7 (by kernel_rfl) rfl (fun K hK=> ?_)
    go_simp
    refine hK.out _ _ (fun _=>bi) ?_
    clear hK K
    refine rd1 9 (by kernel_rfl) rfl (fun K hK=> ?_)
    go_simp
    go_wp2_with (go_at_call 15;(with_reducible refine mo0 (HMR.out _ _ _ jnW (JW.out.below bi)) fun w21 hb21 hc21 hf21 _=> ?_))
    refine hK.out _ _ (fun _=>bi) ?_
    clear hK K
    refine rd1 11 (by kernel_rfl) rfl (fun K hK=> ?_)
    go_simp
    go_wp2_with (go_at_call 10;(with_reducible refine mo0 (HI4.out _) fun w22 hb22 hc22 hf22 _=> ?_))
    refine hK.out _ _ (fun _=>bi) ?_
    clear hK K
    refine rd1 12 (by kernel_rfl) rfl (fun K hK=> ?_)
    go_simp
    refine hK.out _ _ (fun _=>bi) ?_
    clear hK K
    refine ja2 (by kernel_rfl) ?_ _
    go_wp2
    go_ret
    exact ⟨rfl,bi⟩
theorem js7 {a b:List UInt8} (h:jj1 6 (a,b)=true):∃x y,a=tq x∧b=tq y∧Dz 6 x∧Dz 6 y∧x≤y:=by
 unfold jj1 at h
 simp only [Bool.and_eq_true,decide_eq_true_iff] at h
 obtain ⟨h1,h2,h3⟩:=h
 obtain ⟨x,hx⟩:=jdW h1
 obtain ⟨y,hy⟩:=jdW h2
 rw [(hx.is (by decide)).numQ,(hy.is (by decide)).numQ] at h3
 exact ⟨x,y,hx.eq,hy.eq,hx.dz,hy.dz,h3⟩
theorem jnJ {p q r u v z:Int} (hE:Env w) (hp:0≤p∧p < 256) (hq:0≤q∧q < 256) (hr:0≤r∧r < 256) (hu:0≤u∧u < 256) (hv:0≤v∧v < 256) (hz:0≤z∧z < 256):
  Calls Tryz.prog 3 #[sp3 a1 a2 b1 b2 c1 c2,by3 p q r,by3 u v z] w fun e w'=>e= .returned (.bool true)∧Below w.heap.size w w':=by
 cases hF: [(a1,a2),(b1,b2),(c1,c2)].all (jj1 6)
 ·exact jnY hE hF
 ·have h:=hF
  simp only [List.all_cons,List.all_nil,Bool.and_true,Bool.and_eq_true] at h
  obtain ⟨x1,x2,e1,e2,d1,d2,l1⟩:=js7 h.1
  obtain ⟨y1,y2,e3,e4,d3,d4,l2⟩:=js7 h.2.1
  obtain ⟨z1,z2,e5,e6,d5,d6,l3⟩:=js7 h.2.2
  exact jqW hE hF e1 e2 e3 e4 e5 e6 d1 d2 d3 d4 d5 d6 l1 l2 l3 hp hq hr hu hv hz
end
end Go.Proofs.YtomkgioebbefnaaGreatDoor
