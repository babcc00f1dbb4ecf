/- Parts. -/
import Derived.Test.YtdbaealhapgjaaaGreatDoorTwG
set_option linter.all false
set_option maxRecDepth 100000
set_option maxHeartbeats 8000000
namespace Go.Proofs.YtdbaealhapgjaaaGreatDoor
open Go Go.RowKit Go.Proofs.Tryz

section
variable {w:World} {A:Option Addr} {n c:Nat} {g:List UInt8} {ls:List Lay}
theorem jCL {W:World} {B:Option Addr} {N:Int} (h:Par6 g ls) (hv:Lv w A n ls) (h1:1≤N) (h2:N≤999999999) (hv1:Lv W B 1 [⟨g,N,jCv ls⟩]):MixIn W B 1 [⟨g,N,jCv ls⟩] N 18:=by
 have hy:=jyJ (h.mixb hv).layer;have hg:jyT g=true:=by rw [←h.one _ (jzb h.pos)];exact hy.1
 have hc:jyQ ⟨g,N,jCv ls⟩=0:=by
  unfold jyQ;dsimp only;rw [if_neg (by rw [hg];simp),if_neg (show ¬(N < 1∨999999999 < N) by omega)];exact hy.2.2.2
 refine ⟨hv1,by omega,by omega,fun x hx=> ?_,by omega,fun x hx p hp=> ?_,jCm (fun x hx=>by rw [List.mem_singleton.1 hx];exact hc), ?_⟩
 ·rw [List.mem_singleton.1 hx];exact jDv hc (fun p hp=>by have:=(h.part hv hp).2.2.2.2;omega)
 ·rw [List.mem_singleton.1 hx] at hp;exact jDt (h.part hv hp).2.2.1
 ·show jAE g 0 [⟨g,N,jCv ls⟩]=_
  rw [jAE,if_pos rfl,jAE,Int.zero_add];exact if_neg (show ¬(999999999:Int) < N by omega)
theorem Pv.am {ks:List (List UInt8)} {txt:List UInt8→List UInt8} (h:Pv w A n (amL txt ks)) (hn:ks.length=n) {i:Nat} (hi:i < n):∃b o,A=some ⟨b,o,none⟩∧w.cell? ⟨b,o+i*2,none⟩=some (bs (ks.getD i []))∧w.cell? ⟨b,o+i*2+1,none⟩=some (bs (txt (ks.getD i []))):=by
 obtain ⟨b,o,e,_,hc⟩:=h.at_ (by omega);have h1:=hc i hi;have e2:(amL txt ks).getD i ([],[])=(ks.getD i [],txt (ks.getD i [])):=jB4 (d:=[]) (by omega);rw [e2] at h1;exact ⟨b,o,e,h1.1,h1.2⟩
theorem jCF {x:Rat} {k:Nat} (h:Dz k x) (hk:0 < k) (hk2:k≤600):je3 x=false:=by
 obtain ⟨_,g2,_⟩:=jp0 h hk hk2;unfold jbq at g2;cases e:je3 x with
 | false=>rfl
 | true=>rw [e] at g2;simp at g2
end
section
variable {w:World} {A:Option Addr} {n c:Nat} {g:List UInt8} {ls:List Lay} {a t:List UInt8} {N:Int} {z s:Rat}
set_option maxHeartbeats 16000000 in
theorem jD2 (hE:Env w) (hv:Lv w A n ls) (hB:jCr ls=true) (hP:Par6 g ls) (hla:a.length≤12) (hlt:t.length≤12) (hk:jhc (jzq ls) a t=0) (hF:DryF (jzq ls) N a t (numQ a) (numQ t) z s) (hN:N < jzq ls):
  Calls prog 3 #[.slice A n c,bs a,bs t] w fun e w'=>e= .returned (.bool true)∧Below w.heap.size w w':=by
 have hl:=hv.len;have h6:=hP.six;have hM1:=hP.m1;have hM9:=hP.mass;obtain ⟨n1,n2⟩:=hF.c.le;have hxm:=hF.ax;have HX:=qh (fun W (hb:Below w.heap.size w W)=>jzQ (hE.below hb));have HPA:=qh (fun W (hb:Below w.heap.size w W)=>jCl (c:=c) (hv.below hb) hB);have HMS:=qh (fun W (hb:Below w.heap.size w W)=>jCj (c:=c) (hv.below hb) (by omega) (fun x hx=>by have:=jyJ (hP.ok x hx);omega) (rfl:jzq ls=_));have HWA:=qh (fun W=>jj0 (w:=W) hk (by omega) (by omega));have dx:=hF.ax.num.dzl hla (by omega);have h100:(100:Rat)≠0:=by decide
 obtain ⟨P,hPP⟩:∃P,((jzq ls:Int):Rat)*(100 - numQ a) / 100=P:=⟨_,rfl⟩;have hown:=hF.own;rw [hPP] at hown;have dP:Dz 100 P:=hPP ▸ (((dzm hM1 hM9).mul (jc9.sub dx)).div jc9 h100).mono (by omega);obtain ⟨gP,eP,_⟩:=jp0 dP (by omega) (by omega);obtain ⟨gz,ez,iz⟩:=jp0 hF.dz (by omega) (by omega);obtain ⟨gs,es,is⟩:=jp0 hF.ds (by omega) (by omega);have lz:=jur hF.dz (by omega);have lS:=jur hF.ds (by omega);have HD:=qh (fun W (hb:Below w.heap.size w W)=>jtk (a:=a) (b:=t) (N:=N) (rn:=N) (hE.below hb) (by omega) (by omega) hk hF.c hF.ez (hF.dz.strQ (by omega)) gz ez (if_pos rfl));have HSH:=qh (fun W (hb:Below w.heap.size w W)=>jni (a:=a) (b:=t) (hE.below hb) (by omega) (by omega) hk hF.es (hF.ds.strQ (by omega)) gs es);have HCZ:=qh (fun W=>jpl (w:=W) (jjL.2 ⟨_,iz⟩) (by omega));have HCS:=qh (fun W=>jpl (w:=W) (jjL.2 ⟨_,is⟩) (by omega));have HM1:=qh (fun W (hb:Below w.heap.size w W)=>jz7 (hE.below hb) hF.ax (by omega) (by omega) hPP (dP.strQ (by omega)) gP eP (by omega));have HM2:=qh (fun W (hb:Below w.heap.size w W)=>jz7 (hE.below hb) hF.zx (by omega) (by omega) hown (dP.strQ (by omega)) gP eP (by omega));have hmd:=hP.mixd hv;have HL2:=qh (fun W (hb:Below w.heap.size w W)=>jCp (c:=c) (txt:=fun k=>tq (tot (jyG ls) k)) (hE.below hb) (hP.mixin (hv.below hb)) hmd.ord hmd.mem hmd.pos (by have:=hmd.few;omega) (fun k _=>⟨(hP.tdz hv k).strQ (by omega),jCF (hP.tdz hv k) (by omega) (by omega),rfl⟩))
 have HL1:=qh (fun W (hb:Below w.heap.size w W) B e (hv1:Lv W B 1 [⟨g,N,jCv ls⟩])=>jCp (c:=e) (txt:=fun k=>tq (tot (jyG ls) k / ((jzq ls:Int):Rat)*((N:Int):Rat))) (hE.below hb) (jCL hP hv n1 (by omega) hv1) hmd.ord (hmd.mem2 N) hmd.pos (by have:=hmd.few;omega) (fun k hk=>by
  have d:Dz 170 (tot (jyG ls) k / ((jzq ls:Int):Rat)*((N:Int):Rat)):=((hP.pdz hv k).mul (dzm n1 (by omega))).mono (by omega);rw [hP.lots hv N hk]
  exact ⟨d.strQ (by omega),jCF d (by omega) (by omega),rfl⟩))
 have hD1:1≤jzq ls - N:=by omega
 have hM0:((jzq ls:Int):Rat)≠0:=by
  intro e;have:jzq ls=0:=by exact_mod_cast e
  omega
 have HSK:=qh (fun W (hb:Below w.heap.size w W)=>jzJ (c:=c) (txt:=fun k=>tq (tot (jyG ls) k / ((jzq ls:Int):Rat)*((jzq ls - N:Int):Rat))) (hE.below hb) (hP.mixin (hv.below hb)) hmd n1 n2 hN (fun p hp=>by
  have h1:=hP.part hv hp
  exact ⟨h1.1,by unfold maxLen;omega,jDt h1.2.2.1⟩) (fun k hk=>by
 have d:Dz 170 (tot (jyG ls) k / ((jzq ls:Int):Rat)*((jzq ls - N:Int):Rat)):=((hP.pdz hv k).mul (dzm hD1 (by omega))).mono (by omega);rw [hP.lots hv (jzq ls - N) hk]
 exact ⟨d.strQ (by omega),jCF d (by omega) (by omega),rfl⟩))
 obtain ⟨ks,hks⟩:∃k,keysOf (jyG ls)=k:=⟨_,rfl⟩;have hK48:=hP.keys;rw [hks] at HL1 HL2 HSK hK48;have hpos:=hmd.pos;rw [hks] at hpos;obtain ⟨K,hK⟩:∃k,ks.length=k:=⟨_,rfl⟩;rw [hK] at HL1 HL2 HSK hK48 hpos;obtain ⟨Z,hZ⟩:∃T,tq z=T:=⟨_,rfl⟩;obtain ⟨S,hS⟩:∃T,tq s=T:=⟨_,rfl⟩;obtain ⟨TP,hTP⟩:∃T,tq P=T:=⟨_,rfl⟩;obtain ⟨M,hM⟩:∃T,jzq ls=T:=⟨_,rfl⟩;obtain ⟨la,hla'⟩:∃l,a.length=l:=⟨_,rfl⟩;obtain ⟨lt,hlt'⟩:∃l,t.length=l:=⟨_,rfl⟩;have p1:decide ((12:Int) < (la:Int))=false:=by rw [decide_eq_false_iff_not];omega
 have p2:decide ((12:Int) < (lt:Int))=false:=by rw [decide_eq_false_iff_not];omega
 rw [hM] at n2 hM1 hM9 hN;have p3:decide (N < 1)=false:=by rw [decide_eq_false_iff_not];omega
 have p4:decide (M < N)=false:=by rw [decide_eq_false_iff_not];omega
 have p5:(N==M)=false:=by rw [beq_eq_false_iff_ne];omega
 have p6:decide ((0:Int) < (K:Int))=true:=by rw [decide_eq_true_iff];omega
 have p7:((K:Int)==0)=false:=by rw [beq_eq_false_iff_ne];omega
 simp only [hZ,hS,hTP,hM] at HMS HWA HD HSH HCZ HCS HM1 HM2 HL1 HL2 HSK;have HPT:=qh hP;have HVT:=qh hv;have HFT:=qh hF;have HKS:=qh (ai hks (ai hK (ai hM hS)));have HNN:=qh (ai n1 (ai hN (ai hM9 (ai hK48 hpos))));clear hE hv hB hP hla hlt hk hF hN hl h6 hM1 hM9 n1 n2 hxm dx h100 hPP hown dP gP eP gz ez iz gs es is lz lS hmd hD1 hM0 hks hK hZ hS hTP hM hK48;go_enter func3,ntmps3
 go_upto_region 6 with (first
  | (go_at_call 6;(with_reducible refine mo0 (HPA.o _ bi) fun w1 hb1 hc1 hf1 _=> ?_))
  | (go_at_call 8;(with_reducible refine mo0 (HMS.o _ bi) fun w2 hb2 hc2 hf2 _=> ?_))
  | (go_at_call 7;(with_reducible refine mo0 (HWA.o _) fun w3 hb3 hc3 hf3 _=> ?_))
  | (go_at_call 10;(with_reducible refine mo0 (HD.o _ bi) fun w4 hb4 hc4 hf4 _=> ?_))
  | (go_at_call 11;(with_reducible refine mo0 (HSH.o _ bi) fun w5 hb5 hc5 hf5 _=> ?_)))
 have b5:RowKit.Below w.heap.size w w5:=bi;clear hb1 hb2 hb3 hb4 hb5 hc1 hc2 hc3 hc4 hc5 hf1 hf2 hf3 hf4 hf5 HPA HMS HWA HD HSH p1 p2 hla' hlt'
 go_upto_region 13 with (first
  | (go_at_call 12;(with_reducible show Calls _ _ #[bs Z] _ _);(with_reducible refine mo0 (HCZ.o _) fun w6 hb6 hc6 hf6 _=> ?_))
  | (go_at_call 12;(with_reducible show Calls _ _ #[bs S] _ _);(with_reducible refine mo0 (HCS.o _) fun w7 hb7 hc7 hf7 _=> ?_))
  | (go_at_call 13;(with_reducible show Calls _ _ #[.int .i64 M,bs a] _ _);(with_reducible refine mo0 (HM1.o _ (ja0 b5 bi)) fun w8 hb8 hc8 hf8 _=> ?_))
  | (go_at_call 13;(with_reducible show Calls _ _ #[.int .i64 N,bs Z] _ _);(with_reducible refine mo0 (HM2.o _ (ja0 b5 bi)) fun w9 hb9 hc9 hf9 _=> ?_))
  | (go_at_call 14;(with_reducible refine (HSK.o _ (ja0 b5 bi)).mono ?_);rintro e10 w10 ⟨B10,d10,C10,f10,rfl,hpB,hpC,hb10⟩;obtain ⟨hc10,hf10,_⟩:=bc0 hb10))
 have b10:RowKit.Below w.heap.size w w10:=ja0 b5 bi;have HPB:=qh hpB;have HPC:=qh hpC;clear hb6 hb7 hb8 hb9 hb10 hc6 hc7 hc8 hc9 hc10 hf6 hf7 hf8 hf9 hf10 HCZ HCS HM1 HM2 HSK b5 hpB hpC;have HV1:=qh (jAK (g0:=g) (m:=N) (d:=d10) (HPB.o.below (ja5 (Below.refl _ _) (.cells #[bs g, .int .i64 N, .slice B10 K d10] 37))) 37);rw [World.size_alloc] at HV1
 go_upto_region 17 with (first
  | (go_at_call 15;(with_reducible refine (HL1.o _ (ja0 b10 bi) _ _ HV1.o).mono ?_);rintro e11 w11 ⟨A11,c11,rfl,hp11,hb11⟩;obtain ⟨hc11,hf11,_⟩:=bc0 hb11;have HP11:=qh hp11;clear hp11)
  | (go_at_call 15;(with_reducible refine (HL2.o _ (ja0 b10 bi)).mono ?_);rintro e12 w12 ⟨A12,c12,rfl,hp12,hb12⟩;obtain ⟨hc12,hf12,_⟩:=bc0 hb12;have HP12:=qh hp12;clear hp12))
 have b12:RowKit.Below w.heap.size w w12:=ja0 b10 bi;have HA:=qh (HP11.o.below hb12);have HB:=qh HP12.o;have HC:=qh (HPC.o.below (bi:RowKit.Below w10.heap.size w10 w12))
 have HFI:∀W,Calls prog 18 #[.int .i64 (M - N)] W (QP ((M - N:Int):Rat) W):=fun W=>by
  have h:=HNN.o;have:=jlI (w:=W) (n:=(M - N).toNat) (by omega);rwa [Int.toNat_of_nonneg (by omega)] at this
 have HFI:=qh HFI;clear hb11 hb12 hc11 hc12 hf11 hf12 HL1 HL2 HV1 HPB HPC HP11 HP12 b10 p3 p4 p5 p7;go_wp2
 go_loopw [24,178] (fun v u wr=>∃i:Nat,v=bs (tq (jCk (jyG ls) (M:Rat) ((M - N:Int):Rat) ks i))∧u= .int .i64 (i:Int)∧i≤K∧Below w12.heap.size w12 wr) (fun _ u _=>K - (intOf u).toNat)
 case atStart=>exact ⟨0,by rw [show jCk (jyG ls) (M:Rat) ((M - N:Int):Rat) ks 0=0 from rfl,jnF],rfl,Nat.zero_le _,Below.refl _ _⟩
 case round=>
  obtain ⟨i,hv,rfl,hiK,hb⟩:=hrel;have _:=bm hb;have hk48:=HNN.o.2.2.2.1;by_cases hi:i < K
  ·have p0:decide (i < K)=true:=by simpa using hi
   obtain ⟨hn1,hn2,hn3,_,_⟩:=HNN.o;obtain ⟨hks,hK,hM,_⟩:=HKS.o;obtain ⟨key,hkey⟩:∃k,ks.getD i []=k:=⟨_,rfl⟩;have hnx:jCk (jyG ls) (M:Rat) ((M - N:Int):Rat) ks (i+1)=jCk (jyG ls) (M:Rat) ((M - N:Int):Rat) ks i+tot (jyG ls) key / (M:Rat)*((M - N:Int):Rat):=by rw [←hkey];rfl
   have hM0:(M:Rat)≠0:=by
    intro e;have:M=0:=by exact_mod_cast e
    omega
   have dt:=HPT.o.tdz HVT.o key;have dp:=HPT.o.pdz HVT.o key;rw [hM] at dp;have dl:Dz 170 (tot (jyG ls) key / (M:Rat)*(N:Rat)):=(dp.mul (dzm hn1 (by omega))).mono (by omega);have dc:Dz 170 (tot (jyG ls) key / (M:Rat)*((M - N:Int):Rat)):=(dp.mul (dzm (by omega) (by omega))).mono (by omega);have ds:=jCV HPT.o HVT.o (L:=M - N) (by omega) (by omega) i;rw [hM,hks] at ds;have ebo:tot (jyG ls) key / (M:Rat)*(N:Rat)+tot (jyG ls) key / (M:Rat)*((M - N:Int):Rat)=tot (jyG ls) key:=jDr hM0 (by rw [Rat.intCast_sub];grind);obtain ⟨b1,o1,e1,c1,c2⟩:=HA.o.am hK hi;obtain ⟨b2,o2,e2,c3,c4⟩:=HB.o.am hK hi;obtain ⟨b3,o3,e3,c5,c6⟩:=HC.o.am hK hi;obtain ⟨_,_,il⟩:=jp0 dl (by omega) (by omega);obtain ⟨_,_,ic⟩:=jp0 dc (by omega) (by omega);obtain ⟨_,_,it⟩:=jp0 dt (by omega) (by omega);have ll:=jur dl (by omega);have lc:=jur dc (by omega);have lt:=jur dt (by omega);have HK1:=qh (fun W=>jpl (w:=W) (jjL.2 ⟨_,il⟩) (by omega));have HK2:=qh (fun W=>jpl (w:=W) (jjL.2 ⟨_,it⟩) (by omega));have HK3:=qh (fun W=>jpl (w:=W) (jjL.2 ⟨_,ic⟩) (by omega));have HAS:=qh (fun W=>jto (w:=W) ds dc (by omega) (by omega) (by omega) (by omega));have HAR:=qh (fun W=>jto (w:=W) dl dc (by omega) (by omega) (by omega) (by omega));unfold QP at HAS HAR;rw [ebo] at HAR;rw [←hnx] at HAS;rw [hkey] at c1 c2 c3 c4 c5 c6;obtain ⟨TL,hTL⟩:∃T,tq (tot (jyG ls) key / (M:Rat)*(N:Rat))=T:=⟨_,rfl⟩;obtain ⟨TC,hTC⟩:∃T,tq (tot (jyG ls) key / (M:Rat)*((M - N:Int):Rat))=T:=⟨_,rfl⟩;obtain ⟨TT,hTT⟩:∃T,tq (tot (jyG ls) key)=T:=⟨_,rfl⟩;obtain ⟨SI,hSI⟩:∃T,tq (jCk (jyG ls) (M:Rat) ((M - N:Int):Rat) ks i)=T:=⟨_,rfl⟩;obtain ⟨SN,hSN⟩:∃T,tq (jCk (jyG ls) (M:Rat) ((M - N:Int):Rat) ks (i+1))=T:=⟨_,rfl⟩;simp only [hTL,hTC,hTT,hSI,hSN] at HK1 HK2 HK3 HAS HAR c2 c4 c6;rw [hSI] at hv;have HSN:=qh hSN;subst hv e1 e2 e3;have k1:=ja9 hb c1;have k2:=ja9 hb c2;have k3:=ja9 hb c3;have k4:=ja9 hb c4;have k5:=ja9 hb c5;have k6:=ja9 hb c6;clear hn1 hn2 hn3 hks hK hM hkey hnx hM0 dt dp dl dc ds ebo il ic it ll lc lt hTL hTC hTT hSI hSN c1 c2 c3 c4 c5 c6;go_upto_region 21 with (fail)
   obtain ⟨b13,hb13⟩:∃k,wr.heap.size=k:=⟨_,rfl⟩;have q1:(wr.alloc (.cells #[bs key,bs TT] 44)).cell? ⟨b13,0,none⟩=some (bs key):=by subst hb13;simp [go_sem]
   have q2:(wr.alloc (.cells #[bs key,bs TT] 44)).cell? ⟨b13,1,none⟩=some (bs TT):=by subst hb13;simp [go_sem]
   have bA:=ja5 (RowKit.Below.refl wr.heap.size wr) (.cells #[bs key,bs TT] 44);have k1:=ja9 bA k1;have k2:=ja9 bA k2;have k5:=ja9 bA k5;have k6:=ja9 bA k6;have bW:=ja0 hb bA;obtain ⟨W0,hW0⟩:∃W,(wr.alloc (.cells #[.string ⟨key.toArray⟩, .string ⟨TT.toArray⟩] 44))=W:=⟨_,rfl⟩;have hW1:wr.alloc (.cells #[bs key,bs TT] 44)=W0:=hW0;rw [hW1] at q1 q2 k1 k2 k5 k6 bW;simp only [hW0,hb13];clear hW1;have z1:b1 < W0.heap.size:=World.block_lt_of_cell? _ _ k1;have z2:b13 < W0.heap.size:=World.block_lt_of_cell? _ _ q1;have z3:b3 < W0.heap.size:=World.block_lt_of_cell? _ _ k5;clear bA k3 k4;refine ja1 (fun w'=>Below W0.heap.size W0 w') [] (by kernel_rfl) ?_;refine tl [(0,[], .slice (some ⟨b1,o1,none⟩) K c11),(1,[], .int .i64 (i:Int)),(2,[], .pointer (some ⟨b1,o1+i*2,none⟩)),(3,[], .pointer (some ⟨b1,o1+i*2,none⟩)),(4,[],bs key),(5,[], .pointer (some ⟨b13,0,none⟩)),(6,[],bs key),(7,[], .bool false)] [_,_,_,_,_,_,_,_] rfl (by kernel_rfl) pk5 (by intros;simp only [tyq,ppq];go_simp) bq0 ?_;simp only [tlq,ppq];refine tl [(8,[], .bool false),(9,[], .slice (some ⟨b1,o1,none⟩) K c11),(10,[], .int .i64 (i:Int)),(11,[], .pointer (some ⟨b1,o1+i*2,none⟩)),(12,[], .pointer (some ⟨b1,o1+i*2+1,none⟩)),(13,[],bs TL)] [_,_,_,_,_,_] rfl (by kernel_rfl) pk5 (by intros;simp only [tyq,ppq];go_simp) bq0 ?_;simp only [tlq,ppq];refine rd1 14 (by kernel_rfl) rfl (fun K hK=> ?_);go_simp;go_wp2_with (go_at_call 12;(with_reducible refine mo0 (HK1.o _) fun w13 hb13 hc13 hf13 _=> ?_))
   have sS13:=qh (bst bq0 hb13);refine hK.out _ _ (fun _=>sS13.o) ?_;clear hK K;refine rd1 15 (by kernel_rfl) rfl (fun K hK=> ?_);go_simp;refine hK.out _ _ (fun _=>bi) ?_;clear hK K;refine rd1 16 (by kernel_rfl) rfl (fun K hK=> ?_);go_simp;refine hK.out _ _ (fun _=>bi) ?_;clear hK K;refine rd1 17 (by kernel_rfl) rfl (fun K hK=> ?_);go_simp;refine hK.out _ _ (fun _=>bi) ?_;clear hK K;refine tl [(18,[], .pointer (some ⟨b13,1,none⟩)),(19,[],bs TT)] [_,_] rfl (by kernel_rfl) pk5 (by intros;simp only [tyq,ppq];go_simp) sS13.o ?_;simp only [tlq,ppq];refine rd1 20 (by kernel_rfl) rfl (fun K hK=> ?_);go_simp;go_wp2_with (go_at_call 12;(with_reducible refine mo0 (HK2.o _) fun w14 hb14 hc14 hf14 _=> ?_))
   have sS14:=qh (bst sS13.o hb14);refine hK.out _ _ (fun _=>sS14.o) ?_;clear hK K;refine rd1 21 (by kernel_rfl) rfl (fun K hK=> ?_);go_simp;refine hK.out _ _ (fun _=>bi) ?_;clear hK K;refine rd1 22 (by kernel_rfl) rfl (fun K hK=> ?_);go_simp;refine hK.out _ _ (fun _=>bi) ?_;clear hK K;refine ja2 (by kernel_rfl) ?_ _;have b14:RowKit.Below W0.heap.size W0 w14:=bi;replace k2:=ja9 b14 k2;replace k5:=ja9 b14 k5;replace k6:=ja9 b14 k6;replace q1:=ja9 b14 q1;replace q2:=ja9 b14 q2;replace bW:=ja0 bW b14;replace z1:b1 < w14.heap.size:=World.block_lt_of_cell? _ _ k2;replace z2:b13 < w14.heap.size:=World.block_lt_of_cell? _ _ q1;replace z3:b3 < w14.heap.size:=World.block_lt_of_cell? _ _ k5;clear hb13 hb14 hc13 hc14 hf13 hf14 b14 HK1 HK2;go_upto_region 25 with (fail)
   refine ja1 (fun w'=>Below w14.heap.size w14 w') [] (by kernel_rfl) ?_;refine tl [(0,[], .slice (some ⟨b3,o3,none⟩) K f10),(1,[], .int .i64 (i:Int)),(2,[], .pointer (some ⟨b3,o3+i*2,none⟩)),(3,[], .pointer (some ⟨b3,o3+i*2,none⟩)),(4,[],bs key),(5,[], .pointer (some ⟨b13,0,none⟩)),(6,[],bs key),(7,[], .bool false)] [_,_,_,_,_,_,_,_] rfl (by kernel_rfl) pk5 (by intros;simp only [tyq,ppq];go_simp) bq0 ?_;simp only [tlq,ppq];refine tl [(8,[], .bool false),(9,[], .slice (some ⟨b3,o3,none⟩) K f10),(10,[], .int .i64 (i:Int)),(11,[], .pointer (some ⟨b3,o3+i*2,none⟩)),(12,[], .pointer (some ⟨b3,o3+i*2+1,none⟩)),(13,[],bs TC)] [_,_,_,_,_,_] rfl (by kernel_rfl) pk5 (by intros;simp only [tyq,ppq];go_simp) bq0 ?_;simp only [tlq,ppq];refine rd1 14 (by kernel_rfl) rfl (fun K hK=> ?_);go_simp;go_wp2_with (go_at_call 12;(with_reducible refine mo0 (HK3.o _) fun w15 hb15 hc15 hf15 _=> ?_))
   have sS15:=qh (bst bq0 hb15);refine hK.out _ _ (fun _=>sS15.o) ?_;clear hK K;refine rd1 15 (by kernel_rfl) rfl (fun K hK=> ?_);go_simp;refine hK.out _ _ (fun _=>bi) ?_;clear hK K;refine rd1 16 (by kernel_rfl) rfl (fun K hK=> ?_);go_simp;refine hK.out _ _ (fun _=>bi) ?_;clear hK K;refine ja2 (by kernel_rfl) ?_ _;have b15:RowKit.Below w14.heap.size w14 w15:=bi;replace k6:=ja9 b15 k6;replace q2:=ja9 b15 q2;replace bW:=ja0 bW b15;replace z2:b13 < w15.heap.size:=World.block_lt_of_cell? _ _ q2;replace z3:b3 < w15.heap.size:=World.block_lt_of_cell? _ _ k6;clear hb15 hc15 hf15 b15 HK3 k2 k5 q1 z1;go_upto_region 28 with (go_at_call 16;(with_reducible refine mo0 (HAS.o _) fun w16 hb16 hc16 hf16 _=> ?_))
   replace k6:=ja9 hb16 k6;replace q2:=ja9 hb16 q2;replace bW:=ja0 bW hb16;replace z2:b13 < w16.heap.size:=World.block_lt_of_cell? _ _ q2;replace z3:b3 < w16.heap.size:=World.block_lt_of_cell? _ _ k6;clear hb16 hc16 hf16 HAS;go_wp2_with (go_at_call 16;(with_reducible refine mo0 (HAR.o _) fun w17 hb17 hc17 hf17 _=> ?_))
   exact ⟨⟨i+1,by rw [HSN.o],by simp,by omega,ja0 bW bi⟩,by simp [intOf];omega⟩
  ·have p0:decide (i < K)=false:=by simp;omega
   obtain rfl:i=K:=by omega
   obtain ⟨hn1,hn2,hn3,_,_⟩:=HNN.o;obtain ⟨hks,hK,hM,hS⟩:=HKS.o;have hsum:=HPT.o.lossAll ((M - N:Int):Rat);rw [hM,hks,hK] at hsum;rw [hsum] at hv;have hF:=HFT.o;rw [hM] at hF;have dL:=dzm (m:=M - N) (by omega) (by omega);have w1':wrap64 (M - N)=M - N:=by unfold wrap64;omega
   obtain ⟨y,hy⟩:∃y,s - ((M - N:Int):Rat)=y:=⟨_,rfl⟩;have g0:=hF.gap0;have g1:=hF.gap1;rw [hy] at g0 g1;have dy:Dz 200 y:=hy ▸ (hF.ds.sub dL).mono (by omega);have HSU:=qh (fun W=>jg3 (w:=W) hF.ds dL (by omega) (by omega) (by omega) (by omega));obtain ⟨k,hk⟩:∃k,sgn y.num=k:=⟨_,rfl⟩
   have hk0:decide (0≤k)=true:=by
    rw [decide_eq_true_iff,←hk];have:=Rat.num_nonneg.2 g0;unfold sgn;omega
   have HSG:=qh (fun W=>jqN (w:=W) hk dy (by omega) (by omega));have HCM:=qh (fun W=>jko (w:=W) (x:=y) (y:=1) (g:= -1) (if_pos g1) dy (show Dz 1 (1:Rat) from ⟨by decide+kernel,by decide+kernel⟩) (by omega) (by omega) (by omega) (by omega));rw [show tq (1:Rat)=[49] by decide+kernel] at HCM;have HFJ:=HFI.o;unfold QP at HSU HFJ;rw [hS,hy] at HSU;have HFJ:=qh HFJ;obtain ⟨TY,hTY⟩:∃T,tq y=T:=⟨_,rfl⟩;obtain ⟨TD,hTD⟩:∃T,tq ((M - N:Int):Rat)=T:=⟨_,rfl⟩;simp only [hTY,hTD] at HSU HSG HCM HFJ hv;have bW:=ja0 b12 hb;subst hv;clear hn1 hn2 hn3 hks hK hM hS hsum hF dL hy g0 g1 dy hk hTY hTD
   go_upto_region 33 with (first
    | (go_at_call 18;(with_reducible refine mo0 (HFJ.o _) fun w13 hb13 hc13 hf13 _=> ?_))
    | (go_at_call 17;(with_reducible refine mo0 (HSU.o _) fun w14 hb14 hc14 hf14 _=> ?_)))
   go_wp2_with (first
    | (go_at_call 18;(with_reducible refine mo0 (HFJ.o _) fun w15 hb15 hc15 hf15 _=> ?_))
    | (go_at_call 19;(with_reducible refine mo0 (HSG.o _) fun w16 hb16 hc16 hf16 _=> ?_))
    | (go_at_call 20;(with_reducible refine mo0 (HCM.o _) fun w17 hb17 hc17 hf17 _=> ?_))
    | (go_at_call 9;(with_reducible refine mo0 (HX.o _ (ja0 bW bi)) fun w18 hb18 hc18 hf18 _=> ?_)))
   go_ret;exact ⟨rfl,ja0 bW bi⟩
set_option maxHeartbeats 16000000 in
theorem jDh (hE:Env w) (hv:Lv w A n ls) (hB:jCr ls=true) (hP:Par6 g ls) (hla:a.length≤12) (hlt:t.length≤12) (hk:jhc (jzq ls) a t=0) (hF:DryF (jzq ls) (jzq ls) a t (numQ a) (numQ t) z s):
  Calls prog 3 #[.slice A n c,bs a,bs t] w fun e w'=>e= .returned (.bool true)∧Below w.heap.size w w':=by
 have hl:=hv.len;have h6:=hP.six;have hM1:=hP.m1;have hM9:=hP.mass;obtain ⟨n1,n2⟩:=hF.c.le;have hxm:=hF.ax;have HX:=qh (fun W (hb:Below w.heap.size w W)=>jzQ (hE.below hb));have HPA:=qh (fun W (hb:Below w.heap.size w W)=>jCl (c:=c) (hv.below hb) hB);have HMS:=qh (fun W (hb:Below w.heap.size w W)=>jCj (c:=c) (hv.below hb) (by omega) (fun x hx=>by have:=jyJ (hP.ok x hx);omega) (rfl:jzq ls=_));have HWA:=qh (fun W=>jj0 (w:=W) hk (by omega) (by omega));have dx:=hF.ax.num.dzl hla (by omega);have h100:(100:Rat)≠0:=by decide
 obtain ⟨P,hPP⟩:∃P,((jzq ls:Int):Rat)*(100 - numQ a) / 100=P:=⟨_,rfl⟩;have hown:=hF.own;rw [hPP] at hown;have dP:Dz 100 P:=hPP ▸ (((dzm hM1 hM9).mul (jc9.sub dx)).div jc9 h100).mono (by omega);obtain ⟨gP,eP,_⟩:=jp0 dP (by omega) (by omega);obtain ⟨gz,ez,iz⟩:=jp0 hF.dz (by omega) (by omega);obtain ⟨gs,es,is⟩:=jp0 hF.ds (by omega) (by omega);have lz:=jur hF.dz (by omega);have lS:=jur hF.ds (by omega);have HD:=qh (fun W (hb:Below w.heap.size w W)=>jtk (a:=a) (b:=t) (N:=(jzq ls)) (rn:=(jzq ls)) (hE.below hb) (by omega) (by omega) hk hF.c hF.ez (hF.dz.strQ (by omega)) gz ez (if_pos rfl));have HSH:=qh (fun W (hb:Below w.heap.size w W)=>jni (a:=a) (b:=t) (hE.below hb) (by omega) (by omega) hk hF.es (hF.ds.strQ (by omega)) gs es);have HCZ:=qh (fun W=>jpl (w:=W) (jjL.2 ⟨_,iz⟩) (by omega));have HCS:=qh (fun W=>jpl (w:=W) (jjL.2 ⟨_,is⟩) (by omega));have HM1:=qh (fun W (hb:Below w.heap.size w W)=>jz7 (hE.below hb) hF.ax (by omega) (by omega) hPP (dP.strQ (by omega)) gP eP (by omega));have HM2:=qh (fun W (hb:Below w.heap.size w W)=>jz7 (hE.below hb) hF.zx (by omega) (by omega) hown (dP.strQ (by omega)) gP eP (by omega));have hmd:=hP.mixd hv;have HL2:=qh (fun W (hb:Below w.heap.size w W)=>jCp (c:=c) (txt:=fun k=>tq (tot (jyG ls) k)) (hE.below hb) (hP.mixin (hv.below hb)) hmd.ord hmd.mem hmd.pos (by have:=hmd.few;omega) (fun k _=>⟨(hP.tdz hv k).strQ (by omega),jCF (hP.tdz hv k) (by omega) (by omega),rfl⟩))
 have HL1:=qh (fun W (hb:Below w.heap.size w W) B e (hv1:Lv W B 1 [⟨g,(jzq ls),jCv ls⟩])=>jCp (c:=e) (txt:=fun k=>tq (tot (jyG ls) k / ((jzq ls:Int):Rat)*(((jzq ls):Int):Rat))) (hE.below hb) (jCL hP hv n1 (by omega) hv1) hmd.ord (hmd.mem2 (jzq ls)) hmd.pos (by have:=hmd.few;omega) (fun k hk=>by
  have d:Dz 170 (tot (jyG ls) k / ((jzq ls:Int):Rat)*(((jzq ls):Int):Rat)):=((hP.pdz hv k).mul (dzm n1 (by omega))).mono (by omega);rw [hP.lots hv (jzq ls) hk]
  exact ⟨d.strQ (by omega),jCF d (by omega) (by omega),rfl⟩))
 have hM0:((jzq ls:Int):Rat)≠0:=by
  intro e;have:jzq ls=0:=by exact_mod_cast e
  omega
 simp only [Rat.div_mul_cancel hM0] at HL1;have HSK:=qh (fun W (hb:Below w.heap.size w W)=>jCN (c:=c) (hE.below hb) (hP.mixin (hv.below hb)) hmd n1 n2);obtain ⟨ks,hks⟩:∃k,keysOf (jyG ls)=k:=⟨_,rfl⟩;have hK48:=hP.keys;rw [hks] at HL1 HL2 HSK hK48;have hpos:=hmd.pos;rw [hks] at hpos;obtain ⟨K,hK⟩:∃k,ks.length=k:=⟨_,rfl⟩;rw [hK] at HL1 HL2 HSK hK48 hpos;obtain ⟨Z,hZ⟩:∃T,tq z=T:=⟨_,rfl⟩;obtain ⟨S,hS⟩:∃T,tq s=T:=⟨_,rfl⟩;obtain ⟨TP,hTP⟩:∃T,tq P=T:=⟨_,rfl⟩;obtain ⟨M,hM⟩:∃T,jzq ls=T:=⟨_,rfl⟩;obtain ⟨la,hla'⟩:∃l,a.length=l:=⟨_,rfl⟩;obtain ⟨lt,hlt'⟩:∃l,t.length=l:=⟨_,rfl⟩;have p1:decide ((12:Int) < (la:Int))=false:=by rw [decide_eq_false_iff_not];omega
 have p2:decide ((12:Int) < (lt:Int))=false:=by rw [decide_eq_false_iff_not];omega
 rw [hM] at n2 hM1 hM9;have p3:decide (M < 1)=false:=by rw [decide_eq_false_iff_not];omega
 simp only [hZ,hS,hTP,hM] at HMS HWA HD HSH HCZ HCS HM1 HM2 HL1 HL2 HSK;have HPT:=qh hP;have HVT:=qh hv;have HFT:=qh hF;have HKS:=qh (ai hks (ai hK (ai hM hS)));have HNN:=qh (ai hM1 (ai hM9 (ai hK48 hpos)));clear hE hv hB hP hla hlt hk hF hl h6 hM1 hM9 n1 n2 hxm dx h100 hPP hown dP gP eP gz ez iz gs es is lz lS hmd hM0 hks hK hZ hS hTP hM hK48;go_enter func3,ntmps3
 go_upto_region 6 with (first
  | (go_at_call 6;(with_reducible refine mo0 (HPA.o _ bi) fun w1 hb1 hc1 hf1 _=> ?_))
  | (go_at_call 8;(with_reducible refine mo0 (HMS.o _ bi) fun w2 hb2 hc2 hf2 _=> ?_))
  | (go_at_call 7;(with_reducible refine mo0 (HWA.o _) fun w3 hb3 hc3 hf3 _=> ?_))
  | (go_at_call 10;(with_reducible refine mo0 (HD.o _ bi) fun w4 hb4 hc4 hf4 _=> ?_))
  | (go_at_call 11;(with_reducible refine mo0 (HSH.o _ bi) fun w5 hb5 hc5 hf5 _=> ?_)))
 have b5:RowKit.Below w.heap.size w w5:=bi;clear hb1 hb2 hb3 hb4 hb5 hc1 hc2 hc3 hc4 hc5 hf1 hf2 hf3 hf4 hf5 HPA HMS HWA HD HSH p1 p2 hla' hlt'
 go_upto_region 9 with (first
  | (go_at_call 12;(with_reducible show Calls _ _ #[bs Z] _ _);(with_reducible refine mo0 (HCZ.o _) fun w6 hb6 hc6 hf6 _=> ?_))
  | (go_at_call 12;(with_reducible show Calls _ _ #[bs S] _ _);(with_reducible refine mo0 (HCS.o _) fun w7 hb7 hc7 hf7 _=> ?_))
  | (go_at_call 13;(with_reducible show Calls _ _ #[.int .i64 M,bs a] _ _);(with_reducible refine mo0 (HM1.o _ (ja0 b5 bi)) fun w8 hb8 hc8 hf8 _=> ?_)))
 go_upto_region 13 with (first
  | (go_at_call 13;(with_reducible show Calls _ _ #[.int .i64 M,bs Z] _ _);(with_reducible refine mo0 (HM2.o _ (ja0 b5 bi)) fun w9 hb9 hc9 hf9 _=> ?_))
  | (go_at_call 14;(with_reducible refine (HSK.o _ (ja0 b5 bi)).mono ?_);rintro e10 w10 ⟨B10,d10,rfl,hpB,hb10⟩;obtain ⟨hc10,hf10,_⟩:=bc0 hb10))
 have b10:RowKit.Below w.heap.size w w10:=ja0 b5 bi;have HPB:=qh hpB;clear hb6 hb7 hb8 hb9 hb10 hc6 hc7 hc8 hc9 hc10 hf6 hf7 hf8 hf9 hf10 HCZ HCS HM1 HM2 HSK b5 hpB;have HV1:=qh (jAK (g0:=g) (m:=M) (d:=d10) (HPB.o.below (ja5 (Below.refl _ _) (.cells #[bs g, .int .i64 M, .slice B10 K d10] 37))) 37);rw [World.size_alloc] at HV1;go_upto_region 14 with (go_at_call 15;(with_reducible refine (HL1.o _ (ja0 b10 bi) _ _ HV1.o).mono ?_);rintro e11 w11 ⟨A11,c11,rfl,hp11,hb11⟩;obtain ⟨hc11,hf11,_⟩:=bc0 hb11;have HP11:=qh hp11;clear hp11)
 go_upto_region 17 with (go_at_call 15;(with_reducible refine (HL2.o _ (ja0 b10 bi)).mono ?_);rintro e12 w12 ⟨A12,c12,rfl,hp12,hb12⟩;obtain ⟨hc12,hf12,_⟩:=bc0 hb12;have HP12:=qh hp12;clear hp12)
 have b12:RowKit.Below w.heap.size w w12:=ja0 b10 bi;have HA:=qh (HP11.o.below hb12);have HB:=qh HP12.o;have HFI:∀W,Calls prog 18 #[.int .i64 0] W (QP (0:Rat) W):=fun W=>jlI (w:=W) (n:=0) (by omega)
 have HFI:=qh HFI;clear hb11 hb12 hc11 hc12 hf11 hf12 HL1 HL2 HV1 HPB HP11 HP12 b10 p3;go_wp2
 go_loopw [24,178] (fun v u wr=>∃i:Nat,v=bs [48]∧u= .int .i64 (i:Int)∧i≤K∧Below w12.heap.size w12 wr) (fun _ u _=>K - (intOf u).toNat)
 case atStart=>exact ⟨0,rfl,rfl,Nat.zero_le _,Below.refl _ _⟩
 case round=>
  obtain ⟨i,rfl,rfl,hiK,hb⟩:=hrel;have _:=bm hb;have hk48:=HNN.o.2.2.1;by_cases hi:i < K
  ·have p0:decide (i < K)=true:=by simpa using hi
   obtain ⟨hks,hK,hM,_⟩:=HKS.o;obtain ⟨key,hkey⟩:∃k,ks.getD i []=k:=⟨_,rfl⟩;have dt:=HPT.o.tdz HVT.o key;obtain ⟨b1,o1,e1,c1,c2⟩:=HA.o.am hK hi;obtain ⟨b2,o2,e2,c3,c4⟩:=HB.o.am hK hi;obtain ⟨_,_,it⟩:=jp0 dt (by omega) (by omega);have lt:=jur dt (by omega);have HK1:=qh (fun W=>jpl (w:=W) (jjL.2 ⟨_,it⟩) (by omega));rw [hkey] at c1 c2 c3 c4;obtain ⟨TT,hTT⟩:∃T,tq (tot (jyG ls) key)=T:=⟨_,rfl⟩;simp only [hTT] at HK1 c2 c4;subst e1 e2;have k1:=ja9 hb c1;have k2:=ja9 hb c2;have k3:=ja9 hb c3;have k4:=ja9 hb c4;clear hks hK hM hkey dt it lt hTT c1 c2 c3 c4;go_upto_region 21 with (fail)
   obtain ⟨b13,hb13⟩:∃k,wr.heap.size=k:=⟨_,rfl⟩;have q1:(wr.alloc (.cells #[bs key,bs TT] 44)).cell? ⟨b13,0,none⟩=some (bs key):=by subst hb13;simp [go_sem]
   have q2:(wr.alloc (.cells #[bs key,bs TT] 44)).cell? ⟨b13,1,none⟩=some (bs TT):=by subst hb13;simp [go_sem]
   have bA:=ja5 (RowKit.Below.refl wr.heap.size wr) (.cells #[bs key,bs TT] 44);have k1:=ja9 bA k1;have k2:=ja9 bA k2;have bW:=ja0 hb bA;obtain ⟨W0,hW0⟩:∃W,(wr.alloc (.cells #[.string ⟨key.toArray⟩, .string ⟨TT.toArray⟩] 44))=W:=⟨_,rfl⟩;have hW1:wr.alloc (.cells #[bs key,bs TT] 44)=W0:=hW0;rw [hW1] at q1 q2 k1 k2 bW;simp only [hW0,hb13];clear hW1;have z1:b1 < W0.heap.size:=World.block_lt_of_cell? _ _ k1;have z2:b13 < W0.heap.size:=World.block_lt_of_cell? _ _ q1;clear bA k3 k4;refine ja1 (fun w'=>Below W0.heap.size W0 w') [] (by kernel_rfl) ?_;refine tl [(0,[], .slice (some ⟨b1,o1,none⟩) K c11),(1,[], .int .i64 (i:Int)),(2,[], .pointer (some ⟨b1,o1+i*2,none⟩)),(3,[], .pointer (some ⟨b1,o1+i*2,none⟩)),(4,[],bs key),(5,[], .pointer (some ⟨b13,0,none⟩)),(6,[],bs key),(7,[], .bool false)] [_,_,_,_,_,_,_,_] rfl (by kernel_rfl) pk5 (by intros;simp only [tyq,ppq];go_simp) bq0 ?_;simp only [tlq,ppq];refine tl [(8,[], .bool false),(9,[], .slice (some ⟨b1,o1,none⟩) K c11),(10,[], .int .i64 (i:Int)),(11,[], .pointer (some ⟨b1,o1+i*2,none⟩)),(12,[], .pointer (some ⟨b1,o1+i*2+1,none⟩)),(13,[],bs TT)] [_,_,_,_,_,_] rfl (by kernel_rfl) pk5 (by intros;simp only [tyq,ppq];go_simp) bq0 ?_;simp only [tlq,ppq];refine rd1 14 (by kernel_rfl) rfl (fun K hK=> ?_);go_simp;go_wp2_with (go_at_call 12;(with_reducible refine mo0 (HK1.o _) fun w13 hb13 hc13 hf13 _=> ?_))
   have sS13:=qh (bst bq0 hb13);refine hK.out _ _ (fun _=>sS13.o) ?_;clear hK K;refine rd1 15 (by kernel_rfl) rfl (fun K hK=> ?_);go_simp;refine hK.out _ _ (fun _=>bi) ?_;clear hK K;refine rd1 16 (by kernel_rfl) rfl (fun K hK=> ?_);go_simp;refine hK.out _ _ (fun _=>bi) ?_;clear hK K;refine rd1 17 (by kernel_rfl) rfl (fun K hK=> ?_);go_simp;refine hK.out _ _ (fun _=>bi) ?_;clear hK K;refine tl [(18,[], .pointer (some ⟨b13,1,none⟩)),(19,[],bs TT)] [_,_] rfl (by kernel_rfl) pk5 (by intros;simp only [tyq,ppq];go_simp) sS13.o ?_;simp only [tlq,ppq];refine rd1 20 (by kernel_rfl) rfl (fun K hK=> ?_);go_simp;go_wp2_with (go_at_call 12;(with_reducible refine mo0 (HK1.o _) fun w14 hb14 hc14 hf14 _=> ?_))
   have sS14:=qh (bst sS13.o hb14);refine hK.out _ _ (fun _=>sS14.o) ?_;clear hK K;refine rd1 21 (by kernel_rfl) rfl (fun K hK=> ?_);go_simp;refine hK.out _ _ (fun _=>bi) ?_;clear hK K;refine rd1 22 (by kernel_rfl) rfl (fun K hK=> ?_);go_simp;refine hK.out _ _ (fun _=>bi) ?_;clear hK K;refine ja2 (by kernel_rfl) ?_ _;have b14:RowKit.Below W0.heap.size W0 w14:=bi;replace k2:=ja9 b14 k2;replace q2:=ja9 b14 q2;replace bW:=ja0 bW b14;replace z1:b1 < w14.heap.size:=World.block_lt_of_cell? _ _ k2;replace z2:b13 < w14.heap.size:=World.block_lt_of_cell? _ _ q2;clear hb13 hb14 hc13 hc14 hf13 hf14 b14 HK1 q1 k1;go_wp2_with (fail)
   exact ⟨⟨i+1,rfl,by simp,by omega,ja0 bW bi⟩,by simp [intOf];omega⟩
  ·have p0:decide (i < K)=false:=by simp;omega
   obtain ⟨hks,hK,hM,hS⟩:=HKS.o;have hF:=HFT.o;rw [hM] at hF;have d0:=jCA 1 (by omega);have g0:=hF.gap0;have g1:=hF.gap1;rw [show ((M - M:Int):Rat)=0 by rw [Int.sub_self];rfl] at g0 g1;obtain ⟨y,hy⟩:∃y,s - (0:Rat)=y:=⟨_,rfl⟩;rw [hy] at g0 g1;have dy:Dz 200 y:=hy ▸ (hF.ds.sub d0).mono (by omega);have HSU:=qh (fun W=>jg3 (w:=W) hF.ds d0 (by omega) (by omega) (by omega) (by omega));obtain ⟨k,hk⟩:∃k,sgn y.num=k:=⟨_,rfl⟩
   have hk0:decide (0≤k)=true:=by
    rw [decide_eq_true_iff,←hk];have:=Rat.num_nonneg.2 g0;unfold sgn;omega
   have HSG:=qh (fun W=>jqN (w:=W) hk dy (by omega) (by omega));have HCM:=qh (fun W=>jko (w:=W) (x:=y) (y:=1) (g:= -1) (if_pos g1) dy (show Dz 1 (1:Rat) from ⟨by decide+kernel,by decide+kernel⟩) (by omega) (by omega) (by omega) (by omega));rw [show tq (1:Rat)=[49] by decide+kernel] at HCM;have HFJ:=HFI.o;unfold QP at HSU HFJ;rw [hS,hy,jnF] at HSU;rw [jnF] at HFJ;have HFJ:=qh HFJ;obtain ⟨TY,hTY⟩:∃T,tq y=T:=⟨_,rfl⟩;simp only [hTY] at HSU HSG HCM;have bW:=ja0 b12 hb;have w1':wrap64 (M - M)=0:=by unfold wrap64;omega
   clear hks hK hM hS hF d0 hy g0 g1 dy hk hTY
   go_upto_region 33 with (first
    | (go_at_call 18;(with_reducible refine mo0 (HFJ.o _) fun w13 hb13 hc13 hf13 _=> ?_))
    | (go_at_call 17;(with_reducible refine mo0 (HSU.o _) fun w14 hb14 hc14 hf14 _=> ?_)))
   go_wp2_with (first
    | (go_at_call 18;(with_reducible refine mo0 (HFJ.o _) fun w15 hb15 hc15 hf15 _=> ?_))
    | (go_at_call 19;(with_reducible refine mo0 (HSG.o _) fun w16 hb16 hc16 hf16 _=> ?_))
    | (go_at_call 20;(with_reducible refine mo0 (HCM.o _) fun w17 hb17 hc17 hf17 _=> ?_))
    | (go_at_call 9;(with_reducible refine mo0 (HX.o _ (ja0 bW bi)) fun w18 hb18 hc18 hf18 _=> ?_)))
   go_ret;exact ⟨rfl,ja0 bW bi⟩
theorem jDa (hE:Env w) (hv:Lv w A n ls):Calls prog 3 #[.slice A n c,bs a,bs t] w fun e w'=>e= .returned (.bool true)∧Below w.heap.size w w':=by
 by_cases h:jCr ls=true∧a.length≤12∧t.length≤12∧jhc (jzq ls) a t=0
 ·obtain ⟨h1,h2,h3,h4⟩:=h;obtain ⟨N,z,s,hF⟩:=jDg h2 h3 h4;have hn:=hF.c.le;by_cases hN:N < jzq ls
  ·exact jD2 hE hv h1 (jCn h1) h2 h3 h4 hF hN
  ·obtain rfl:N=jzq ls:=by omega
   exact jDh hE hv h1 (jCn h1) h2 h3 h4 hF
 ·refine jDn hE hv (fun _ _ _=>rfl) ?_;by_cases h1:jCr ls=true
  ·by_cases h2:a.length≤12
   ·by_cases h3:t.length≤12
    ·exact .inr (.inr (.inr (fun e=>h ⟨h1,h2,h3,e⟩)))
    ·exact .inr (.inr (.inl (by omega)))
   ·exact .inr (.inl (by omega))
  ·exact .inl (by simpa using h1)
end
end Go.Proofs.YtdbaealhapgjaaaGreatDoor
