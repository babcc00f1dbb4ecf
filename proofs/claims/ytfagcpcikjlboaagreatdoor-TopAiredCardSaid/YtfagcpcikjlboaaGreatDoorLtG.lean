/- Parts. -/
import Derived.Test.YtfagcpcikjlboaaGreatDoorAgG
import Derived.Test.YtfagcpcikjlboaaGreatDoorDbG
set_option linter.all false
set_option maxRecDepth 100000
set_option maxHeartbeats 8000000
namespace Go.Proofs.YtfagcpcikjlboaaGreatDoor
open Go Go.RowKit Go.Proofs.Tryz

section
variable {w:World} {a b kind step:List UInt8} {x y s:Rat}
theorem jxO {w:World} {a b:List UInt8} {k:Int} (hk:jwt (a,b)=k) (hE:Env w) (hl:a.length < 4294967281) (hl':b.length < 4294967281):Calls prog 31 #[sp a b] w fun e w'=>e= .returned (.int .i64 k)∧Below w.heap.size w w':=hk ▸ jxV hE hl hl'
end

noncomputable def jyc (hs:List Hr) (c:Clim) (a b:List UInt8):Int:=jkz [jkg hs,jlz c,jwt (a,b)]
noncomputable def jyr (a d:List UInt8):Int:=jkz [if numQ a < 0 then 3 else 0,chk d]
noncomputable def jym (d:List UInt8):Int:=if numQ d≤0 then 3 else 0
noncomputable def airE (hs:List Hr) (c:Clim) (a b d:List UInt8):Int:=if jyc hs c a b=0 then (if jyr a d=0 then jym d else jyr a d) else jyc hs c a b
theorem jwI {x:Int} {l:List Int} (h:jkz (x::l)=0):x=0∧jkz l=0:=by
 unfold jkz at h;by_cases z:x=0
 ·rw [if_pos z] at h;exact ⟨z,h⟩
 ·rw [if_neg z] at h;exact absurd h z
theorem jwU {hs:List Hr} {c:Clim} {a b:List UInt8} (h:jyc hs c a b=0):jkg hs=0∧jlz c=0∧jwt (a,b)=0:=by
 have h1:=jwI h;have h2:=jwI h1.2;exact ⟨h1.1,h2.1,(jwI h2.2).1⟩
theorem jx1 {hs:List Hr} {c:Clim} {a b:List UInt8} (h:jyc hs c a b=0):IsNum a (numQ a)∧IsNum b (numQ b)∧numQ a≤numQ b:=by
 have h3:=(jwU h).2.2;unfold jwt at h3;split at h3
 ·rename_i z;exact absurd h3 z
 ·rename_i z
  have z:=Classical.not_not.1 z;obtain ⟨e1,e2⟩:=jxa z;split at h3
  ·cases h3
  ·rename_i y;exact ⟨jjb e1,jjb e2,Rat.not_lt.1 y⟩
theorem jxd {a d:List UInt8} (h:jyr a d=0):0≤numQ a∧IsNum d (numQ d):=by
 obtain ⟨h1,h2⟩:=jwI h;obtain ⟨h2,_⟩:=jwI h2;refine ⟨?_,jjb h2⟩;split at h1
 ·cases h1
 ·rename_i z;exact Rat.not_lt.1 z
structure AirOk (hs:List Hr) (c:Clim) (a b d:List UInt8):Prop where
 hrs:jkg hs=0
 clm:jlz c=0
 na:IsNum a (numQ a)
 nb:IsNum b (numQ b)
 nd:IsNum d (numQ d)
 ord:numQ a≤numQ b
 low:0≤numQ a
 pos:0 < numQ d
theorem jx5 {hs:List Hr} {c:Clim} {a b d:List UInt8} (h:airE hs c a b d=0):AirOk hs c a b d:=by
 unfold airE at h;by_cases z1:jyc hs c a b=0
 ·rw [if_pos z1] at h;by_cases z2:jyr a d=0
  ·rw [if_pos z2] at h;unfold jym at h;split at h
   ·cases h
   ·rename_i z3
    obtain ⟨h1,h2,h3⟩:=jx1 z1;obtain ⟨h4,h5⟩:=jxd z2;exact ⟨(jwU z1).1,(jwU z1).2.1,h1,h2,h5,h3,h4,Rat.not_le.1 z3⟩
  ·rw [if_neg z2] at h;exact absurd h z2
 ·rw [if_neg z1] at h;exact absurd h z1
theorem jxU {x:Rat}:sgn x.num≤0↔x≤0:=by
 have hp:0 < x.num↔0 < x:=by rw [Rat.lt_iff];simp
 unfold sgn;by_cases h:x < 0
 ·rw [if_pos (jgN.2 h)];exact ⟨fun _=>Rat.le_of_lt h,fun _=>by decide⟩
 ·rw [if_neg (fun e=>h (jgN.1 e))];by_cases h2:0 < x
  ·rw [if_pos (hp.2 h2)];exact ⟨fun e=>absurd e (by decide),fun e=>absurd h2 (Rat.not_lt.2 e)⟩
  ·rw [if_neg (fun e=>h2 (hp.1 e))];exact ⟨fun _=>Rat.not_lt.1 h2,fun _=>by decide⟩
structure SC (w:World) (g:Nat) (q:PT):Prop where
 c0:w.cell? ⟨g,0,none⟩=some (.int .i64 q.1.1.1)
 c1:w.cell? ⟨g,1,none⟩=some (.slice q.1.1.2.1 q.1.1.2.2.1 q.1.1.2.2.2)
 c2:w.cell? ⟨g,2,none⟩=some (.int .i64 q.1.2.1)
 c3:w.cell? ⟨g,3,none⟩=some (.slice q.1.2.2.1 q.1.2.2.2.1 q.1.2.2.2.2)
 c4:w.cell? ⟨g,4,none⟩=some (.int .i64 q.2.1.1)
 c5:w.cell? ⟨g,5,none⟩=some (.slice q.2.1.2.1 q.2.1.2.2.1 q.2.1.2.2.2)
 c6:w.cell? ⟨g,6,none⟩=some (.int .i64 q.2.2.1)
 c7:w.cell? ⟨g,7,none⟩=some (.slice q.2.2.2.1 q.2.2.2.2.1 q.2.2.2.2.2)
 fz:∀o,w.frozen? ⟨g,o,none⟩=false
theorem SC.lt {w:World} {g:Nat} {q:PT} (h:SC w g q):g < w.heap.size:=World.block_lt_of_cell? w _ h.c0
theorem SC.below {w w':World} {g:Nat} {q:PT} (h:SC w g q) (hb:Below w.heap.size w w'):SC w' g q:=
 ⟨ja9 hb h.c0,ja9 hb h.c1,ja9 hb h.c2,ja9 hb h.c3,ja9 hb h.c4,ja9 hb h.c5,ja9 hb h.c6,ja9 hb h.c7,fun o=>(hb.frozen (p:=⟨g,o,none⟩) h.lt).trans (h.fz o)⟩
theorem SC.made (w:World) (t:TypeId) (s t' u v:Int) (A B C D:Option Addr) (n c m d i j o l:Nat):SC (w.alloc (.cells #[.int .i64 s, .slice A n c, .int .i64 t', .slice B m d, .int .i64 u, .slice C i j, .int .i64 v, .slice D o l] t)) w.heap.size (((s,A,n,c),(t',B,m,d)),((u,C,i,j),(v,D,o,l))):=by
 refine ⟨?_, ?_, ?_, ?_, ?_, ?_, ?_, ?_,fun o=> ?_⟩
 all_goals simp [go_sem]
theorem FC.other8 {w:World} {g b:Nat} {q:FT} {s t u v:Int} {A B C D:Option Addr} {n c m d i j o l:Nat} (h:FC w g q) (hne:g≠b):FC ((((((((w.setCell ⟨b,0,none⟩ (.int .i64 s)).setCell ⟨b,1,none⟩ (.slice A n c)).setCell ⟨b,2,none⟩ (.int .i64 t)).setCell ⟨b,3,none⟩ (.slice B m d)).setCell ⟨b,4,none⟩ (.int .i64 u)).setCell ⟨b,5,none⟩ (.slice C i j)).setCell ⟨b,6,none⟩ (.int .i64 v)).setCell ⟨b,7,none⟩ (.slice D o l)) g q:=by
 obtain ⟨h0,h1,h2,h3,h4⟩:=h;have hne':b≠g:=fun e=>hne e.symm
 refine ⟨?_, ?_, ?_, ?_,fun o=> ?_⟩
 all_goals simp [go_sem,h0,h1,h2,h3,h4,hne,hne']
theorem SC.other8 {w:World} {g b:Nat} {q:PT} {s t u v:Int} {A B C D:Option Addr} {n c m d i j o l:Nat} (h:SC w g q) (hne:g≠b):SC ((((((((w.setCell ⟨b,0,none⟩ (.int .i64 s)).setCell ⟨b,1,none⟩ (.slice A n c)).setCell ⟨b,2,none⟩ (.int .i64 t)).setCell ⟨b,3,none⟩ (.slice B m d)).setCell ⟨b,4,none⟩ (.int .i64 u)).setCell ⟨b,5,none⟩ (.slice C i j)).setCell ⟨b,6,none⟩ (.int .i64 v)).setCell ⟨b,7,none⟩ (.slice D o l)) g q:=by
 obtain ⟨h0,h1,h2,h3,h4,h5,h6,h7,h8⟩:=h;have hne':b≠g:=fun e=>hne e.symm
 refine ⟨?_, ?_, ?_, ?_, ?_, ?_, ?_, ?_,fun o=> ?_⟩
 all_goals simp [go_sem,h0,h1,h2,h3,h4,h5,h6,h7,h8,hne,hne']
theorem SC.other4 {w:World} {g b:Nat} {q:PT} {s t:Int} {A B:Option Addr} {n c m d:Nat} (h:SC w g q) (hne:g≠b):SC ((((w.setCell ⟨b,0,none⟩ (.int .i64 s)).setCell ⟨b,1,none⟩ (.slice A n c)).setCell ⟨b,2,none⟩ (.int .i64 t)).setCell ⟨b,3,none⟩ (.slice B m d)) g q:=by
 obtain ⟨h0,h1,h2,h3,h4,h5,h6,h7,h8⟩:=h;have hne':b≠g:=fun e=>hne e.symm
 refine ⟨?_, ?_, ?_, ?_, ?_, ?_, ?_, ?_,fun o=> ?_⟩
 all_goals simp [go_sem,h0,h1,h2,h3,h4,h5,h6,h7,h8,hne,hne']
def jyv (K:Int) (x y z:Rat) (w:World) (e:Ending) (w':World):Prop:=
 ∃s A n c t B m d u C i j v D o l s' A' n' c' t' B' m' d',e= .returned (.tuple #[.agg #[.int .i64 s, .slice A n c, .int .i64 t, .slice B m d, .int .i64 u, .slice C i j, .int .i64 v, .slice D o l], .agg #[.int .i64 s', .slice A' n' c', .int .i64 t', .slice B' m' d'], .int .i64 K])∧(K=0→(RepF w' s A n c t B m d x∧RepF w' u C i j v D o l y)∧RepF w' s' A' n' c' t' B' m' d' z)∧Below w.heap.size w w'
section
variable {w:World} {A:Option Addr} {n cap:Nat} {hs:List Hr} {c:Clim} {a b d:List UInt8}
set_option maxHeartbeats 32000000 in
theorem jwx {K:Int} {x y z:Rat} (hE:Env w) (h:Hv6 w A n hs) (hn:n≤100000) (hla:a.length < 4294967281) (hlb:b.length < 4294967281) (hld:d.length < 4294967281) (hx:numQ a=x) (hy:numQ b=y) (hz:numQ d=z) (hK:airE hs c a b d=K):
  Calls prog 25 #[.slice A n cap,clv c,sp a b,bs d] w (jyv K x y z w):=by
 unfold airE at hK;obtain ⟨k1,k2,k3,k4⟩:=c;obtain ⟨K1,h1⟩:∃k,jyc hs ⟨k1,k2,k3,k4⟩ a b=k:=⟨_,rfl⟩;rw [h1] at hK;have HE:=qh hE;have HH:=qh (fun W (hb:Below w.heap.size w W)=>jp8 (c:=cap) (h.below hb) hn (rfl:jkg hs=jkg hs));have HC:=qh (fun W=>jhj (w:=W) (rfl:jlz ⟨k1,k2,k3,k4⟩=jlz ⟨k1,k2,k3,k4⟩));have HS:=qh (fun W (hb:Below w.heap.size w W)=>jxO (rfl:jwt (a,b)=jwt (a,b)) (hE.below hb) hla hlb);have HF1:=qh h1;unfold jyc at HF1;obtain ⟨r1,hr1⟩:∃r,jkg hs=r:=⟨_,rfl⟩;obtain ⟨r2,hr2⟩:∃r,jlz ⟨k1,k2,k3,k4⟩=r:=⟨_,rfl⟩;obtain ⟨r3,hr3⟩:∃r,jwt (a,b)=r:=⟨_,rfl⟩;rw [hr1] at HH HF1;rw [hr2] at HC HF1;rw [hr3] at HS HF1;clear hr1 hr2 hr3
 have HNN:=qh (fun e=>by
  obtain ⟨Na,Nb,_⟩:=jx1 (h1.trans e);rw [hx] at Na;rw [hy] at Nb
  exact ai Na Nb)
 obtain ⟨j,hj⟩:∃j,sgn x.num=j:=⟨_,rfl⟩;obtain ⟨lo,hlo⟩:∃f,decide (j < 0)=f:=⟨_,rfl⟩;have HJ:=qh hj;obtain ⟨kd,hkd⟩:∃k,chk d=k:=⟨_,rfl⟩
 have HCD:=qh (show jar chk [d]=kd by
  show (if chk d=0 then (0:Int) else chk d)=kd
  rw [hkd];split <;> omega)
 have HLD:Hd (∀l∈ [d],l.length < 4294967281):=qh (fun l hm=>by rw [List.mem_singleton.1 hm];exact hld);obtain ⟨r4,hr4⟩:∃r,(if lo then (3:Int) else 0)=r:=⟨_,rfl⟩;have HR4:=qh hr4
 have ha2:jyr a d=jkz [r4,kd]:=by
  unfold jyr;rw [hx,hkd,←hr4,←hlo,←hj,jxw];by_cases z0:x < 0
  ·rw [if_pos z0,decide_eq_true z0];rfl
  ·rw [if_neg z0,decide_eq_false z0];rfl
 rw [ha2] at hK;obtain ⟨E2,hE2⟩:∃r,jkz [r4,kd]=r:=⟨_,rfl⟩;have HF2:=qh hE2
 have HND:Hd (E2=0→IsNum d z):=qh (fun h=>by
  have:=(jxd (ha2.trans (hE2.trans h))).2
  rwa [hz] at this)
 rw [hE2] at hK;have HK:=qh hK;have HAZ:=qh (ai (rfl:jym d=jym d) hz);have HF0:=qh (show ((0:Int):Rat)=0 from rfl);have HR0:=qh (show R64 0 by constructor <;> decide);clear hE h hn hla hlb hld h1 hx hy hz hK hj hkd hr4 ha2 hE2;go_enter func25,ntmps25;go_upto_region 1 with (fail)
 obtain ⟨W,hW⟩:∃W,((((w.alloc (.cells #[.int .i64 k1, .int .i64 k2, .int .i64 k3, .int .i64 k4] 27)).alloc (.cells #[bs a,bs b] 25)).alloc (.cells #[.int .i64 0, .slice none 0 0, .int .i64 0, .slice none 0 0, .int .i64 0, .slice none 0 0, .int .i64 0, .slice none 0 0] 72)).alloc (.cells #[.int .i64 0, .slice none 0 0, .int .i64 0, .slice none 0 0] 70))=W:=⟨_,rfl⟩;have bW:Below w.heap.size w W:=by rw [←hW];exact bi
 have p0:W.cell? ⟨w.heap.size,0,none⟩=some (.int .i64 k1):=by rw [←hW];simp [go_sem]
 have p1:W.cell? ⟨w.heap.size,1,none⟩=some (.int .i64 k2):=by rw [←hW];simp [go_sem]
 have p2:W.cell? ⟨w.heap.size,2,none⟩=some (.int .i64 k3):=by rw [←hW];simp [go_sem]
 have p3:W.cell? ⟨w.heap.size,3,none⟩=some (.int .i64 k4):=by rw [←hW];simp [go_sem]
 have q0:W.cell? ⟨w.heap.size+1,0,none⟩=some (bs a):=by rw [←hW];simp [go_sem]
 have q1:W.cell? ⟨w.heap.size+1,1,none⟩=some (bs b):=by rw [←hW];simp [go_sem]
 have r0:W.cell? ⟨w.heap.size+2,0,none⟩=some (.int .i64 0):=by rw [←hW];simp [go_sem]
 have r1:W.cell? ⟨w.heap.size+2,1,none⟩=some (.slice none 0 0):=by rw [←hW];simp [go_sem]
 have r2:W.cell? ⟨w.heap.size+2,2,none⟩=some (.int .i64 0):=by rw [←hW];simp [go_sem]
 have r3:W.cell? ⟨w.heap.size+2,3,none⟩=some (.slice none 0 0):=by rw [←hW];simp [go_sem]
 have r4:W.cell? ⟨w.heap.size+2,4,none⟩=some (.int .i64 0):=by rw [←hW];simp [go_sem]
 have r5:W.cell? ⟨w.heap.size+2,5,none⟩=some (.slice none 0 0):=by rw [←hW];simp [go_sem]
 have r6:W.cell? ⟨w.heap.size+2,6,none⟩=some (.int .i64 0):=by rw [←hW];simp [go_sem]
 have r7:W.cell? ⟨w.heap.size+2,7,none⟩=some (.slice none 0 0):=by rw [←hW];simp [go_sem]
 have u0:W.cell? ⟨w.heap.size+3,0,none⟩=some (.int .i64 0):=by rw [←hW];simp [go_sem]
 have u1:W.cell? ⟨w.heap.size+3,1,none⟩=some (.slice none 0 0):=by rw [←hW];simp [go_sem]
 have u2:W.cell? ⟨w.heap.size+3,2,none⟩=some (.int .i64 0):=by rw [←hW];simp [go_sem]
 have u3:W.cell? ⟨w.heap.size+3,3,none⟩=some (.slice none 0 0):=by rw [←hW];simp [go_sem]
 have rf0:W.frozen? ⟨w.heap.size+2,0,none⟩=false:=by rw [←hW];simp [go_sem]
 have rf1:W.frozen? ⟨w.heap.size+2,1,none⟩=false:=by rw [←hW];simp [go_sem]
 have rf2:W.frozen? ⟨w.heap.size+2,2,none⟩=false:=by rw [←hW];simp [go_sem]
 have rf3:W.frozen? ⟨w.heap.size+2,3,none⟩=false:=by rw [←hW];simp [go_sem]
 have rf4:W.frozen? ⟨w.heap.size+2,4,none⟩=false:=by rw [←hW];simp [go_sem]
 have rf5:W.frozen? ⟨w.heap.size+2,5,none⟩=false:=by rw [←hW];simp [go_sem]
 have rf6:W.frozen? ⟨w.heap.size+2,6,none⟩=false:=by rw [←hW];simp [go_sem]
 have rf7:W.frozen? ⟨w.heap.size+2,7,none⟩=false:=by rw [←hW];simp [go_sem]
 have uf0:W.frozen? ⟨w.heap.size+3,0,none⟩=false:=by rw [←hW];simp [go_sem]
 have uf1:W.frozen? ⟨w.heap.size+3,1,none⟩=false:=by rw [←hW];simp [go_sem]
 have uf2:W.frozen? ⟨w.heap.size+3,2,none⟩=false:=by rw [←hW];simp [go_sem]
 have uf3:W.frozen? ⟨w.heap.size+3,3,none⟩=false:=by rw [←hW];simp [go_sem]
 have zW0:w.heap.size < W.heap.size:=by rw [←hW];first|(simp;done)|(simp;omega)
 have zW1:w.heap.size+1 < W.heap.size:=by rw [←hW];first|(simp;done)|(simp;omega)
 have zW2:w.heap.size+2 < W.heap.size:=by rw [←hW];first|(simp;done)|(simp;omega)
 have zW3:w.heap.size+3 < W.heap.size:=by rw [←hW];first|(simp;done)|(simp;omega)
 simp only [show w.heap.size+1+1+1=w.heap.size+3 from rfl,show w.heap.size+1+1=w.heap.size+2 from rfl];rw [hW];obtain ⟨g,hg⟩:∃b,w.heap.size=b:=⟨_,rfl⟩;rw [hg] at p0 p1 p2 p3 q0 q1 r0 r1 r2 r3 r4 r5 r6 r7 u0 u1 u2 u3 rf0 rf1 rf2 rf3 rf4 rf5 rf6 rf7 uf0 uf1 uf2 uf3 zW0 zW1 zW2 zW3 ⊢;have HB:=qh bW;have HG:=qh hg;have _:Bz w W:=⟨bW⟩;have _:Sx w.heap.size (g+2):=⟨by rw [hg];exact Nat.le_add_right _ _⟩;have _:Sx w.heap.size (g+3):=⟨by rw [hg];exact Nat.le_add_right _ _⟩;have _:Sl g W.heap.size:=⟨zW0⟩;have _:Sl (g+1) W.heap.size:=⟨zW1⟩;have _:Sl (g+2) W.heap.size:=⟨zW2⟩;have _:Sl (g+3) W.heap.size:=⟨zW3⟩;clear hW bW hg;refine ja1 (fun w'=>Below W.heap.size W w') [] (by kernel_rfl) ?_;refine tl [(0,[], .slice A n cap),(2,[], .agg #[.int .i64 k1, .int .i64 k2, .int .i64 k3, .int .i64 k4]),(4,[], .agg #[bs a,bs b])] [_,_,_] rfl (by kernel_rfl) pk5 (by intros;simp only [tyq,ppq];go_simp) bq0 ?_;simp only [tlq,ppq];refine rd1 1 (by kernel_rfl) rfl (fun K hK=> ?_);go_simp;go_wp2_with (go_at_call 66;(with_reducible refine mo0 (HH.o _ (ja0 HB.o bi)) fun w1 hb1 hc1 hf1 _=> ?_))
 have sS1:=qh (bst bq0 hb1);refine hK.out _ _ (fun _=>sS1.o) ?_;clear hK K;refine rd1 3 (by kernel_rfl) rfl (fun K hK=> ?_);go_simp;go_wp2_with (go_at_call 23;(with_reducible refine mo0 (HC.o _) fun w2 hb2 hc2 hf2 _=> ?_))
 have sS2:=qh (bst sS1.o hb2);refine hK.out _ _ (fun _=>sS2.o) ?_;clear hK K;refine rd1 5 (by kernel_rfl) rfl (fun K hK=> ?_);go_simp;go_wp2_with (go_at_call 31;(with_reducible refine mo0 (HS.o _ (ja0 HB.o bi)) fun w3 hb3 hc3 hf3 _=> ?_))
 have sS3:=qh (bst sS2.o hb3);refine hK.out _ _ (fun _=>sS3.o) ?_;clear hK K;refine rd1 6 (by kernel_rfl) rfl (fun K hK=> ?_);go_simp;refine hK.out _ _ (fun _=>bi) ?_;clear hK K;refine rd1 7 (by kernel_rfl) rfl (fun K hK=> ?_);go_simp;go_wp2_with (go_at_call 20;(with_reducible refine mo0 (jbl iv3 (by omega) HF1.o) fun w4 hb4 hc4 hf4 _=> ?_))
 refine hK.out _ _ (fun _=>bi) ?_;clear hK K;refine rd1 8 (by kernel_rfl) rfl (fun K hK=> ?_);go_simp;refine hK.out _ _ (fun _=>bi) ?_;clear hK K;refine ja2 (by kernel_rfl) ?_ _;have b4:RowKit.Below W.heap.size W w4:=bi;replace q0:=ja9 b4 q0;replace q1:=ja9 b4 q1;replace r0:=ja9 b4 r0;replace r1:=ja9 b4 r1;replace r2:=ja9 b4 r2;replace r3:=ja9 b4 r3;replace r4:=ja9 b4 r4;replace r5:=ja9 b4 r5;replace r6:=ja9 b4 r6;replace r7:=ja9 b4 r7;replace u0:=ja9 b4 u0;replace u1:=ja9 b4 u1;replace u2:=ja9 b4 u2;replace u3:=ja9 b4 u3;replace rf0:=(b4.frozen (p:=⟨g+2,0,none⟩) zW2).trans rf0;replace rf1:=(b4.frozen (p:=⟨g+2,1,none⟩) zW2).trans rf1;replace rf2:=(b4.frozen (p:=⟨g+2,2,none⟩) zW2).trans rf2;replace rf3:=(b4.frozen (p:=⟨g+2,3,none⟩) zW2).trans rf3;replace rf4:=(b4.frozen (p:=⟨g+2,4,none⟩) zW2).trans rf4;replace rf5:=(b4.frozen (p:=⟨g+2,5,none⟩) zW2).trans rf5;replace rf6:=(b4.frozen (p:=⟨g+2,6,none⟩) zW2).trans rf6;replace rf7:=(b4.frozen (p:=⟨g+2,7,none⟩) zW2).trans rf7;replace uf0:=(b4.frozen (p:=⟨g+3,0,none⟩) zW3).trans uf0;replace uf1:=(b4.frozen (p:=⟨g+3,1,none⟩) zW3).trans uf1;replace uf2:=(b4.frozen (p:=⟨g+3,2,none⟩) zW3).trans uf2;replace uf3:=(b4.frozen (p:=⟨g+3,3,none⟩) zW3).trans uf3;replace zW0:=Nat.lt_of_lt_of_le zW0 b4.size;replace zW1:=Nat.lt_of_lt_of_le zW1 b4.size;replace zW2:=Nat.lt_of_lt_of_le zW2 b4.size;replace zW3:=Nat.lt_of_lt_of_le zW3 b4.size;have hB4:=qh (ja0 HB.o b4);clear p0 p1 p2 p3 hb1 hb2 hb3 hb4 hc1 hc2 hc3 hc4 hf1 hf2 hf3 hf4 b4 HH HC HS HF1;by_cases hk1:K1=0
 ·subst hk1;obtain ⟨Na,Nb⟩:=HNN.o rfl;have HNA:=qh Na;have HNB:=qh Nb;have HK:=qh (show (if E2=0 then jym d else E2)=K from by have:=HK.o;simpa using this);clear Na Nb HNN;go_upto_region 4 with (fail)
  have HE4:=qh (HE.o.below hB4.out)
  go_cut [12] (fun v wx=>∃(g5:Nat) (q5:PT),v= .pointer (some ⟨g5,0,none⟩)∧(w4.heap.size≤g5)∧SC wx g5 q5∧jlE wx q5.1 x∧jlE wx q5.2 y∧RowKit.Below w4.heap.size w4 wx)
  case first=>
   -- FAST
   refine ja1 (fun w'=>Below w4.heap.size w4 w') [8] (by kernel_rfl) ?_;refine tl [(0,[], .pointer (some ⟨g+1,0,none⟩)),(1,[],bs a),(3,[], .pointer (some ⟨g+1,1,none⟩)),(4,[],bs b)] [_,_,_,_] rfl (by kernel_rfl) pk5 (by intros;simp only [tyq,ppq];go_simp) bq0 ?_;simp only [tlq,ppq];refine wa2 2 7 (by kernel_rfl) rfl rfl (fun K hK=> ?o1) (fun K hK=> ?o2)
   case' o1=>
    go_simp;go_wp2_with ((go_at_call 51;(with_reducible refine mf0 (jaz HNA.o (HE4.o.below bi)) fun w5 s5 A5 n5 c5 t5 B5 m5 d5 hr5 hq5 hb5 hc5 hf5 _=> ?_));have y5_0:=zlt (w4.heap.size) hb5)
    refine hK.out _ _ (fun _=>bi) ?_;clear hK K;refine wa2 5 7 (by kernel_rfl) rfl rfl (fun K hK=> ?o3) (fun K hK=> ?o4)
    case' o3=>
     go_simp;go_wp2_with ((go_at_call 51;(with_reducible refine mf0 (jaz HNB.o (HE4.o.below bi)) fun w6 s6 A6 n6 c6 t6 B6 m6 d6 hr6 hq6 hb6 hc6 hf6 _=> ?_));have y6_0:=zlt (w4.heap.size) hb6;have y6_1:=zlt (w5.heap.size) hb6)
     refine hK.out _ _ (fun _=>bi) ?_;clear hK K;refine wa2 6 7 (by kernel_rfl) rfl rfl (fun K hK=> ?o5) (fun K hK=> ?o6)
     case' o5=>
      go_simp;refine hK.out _ _ (fun _=>bi) ?_;clear hK K;refine wa1 7 (by kernel_rfl) rfl (fun K hK=> ?_);go_simp;refine hK.out _ _ (fun _=>bi) ?_;clear hK K
     case' o6=>
      go_simp;refine hK.out _ _ (fun _=>bi) ?_;clear hK K;refine wa1 6 (by kernel_rfl) rfl (fun K hK=> ?_);go_simp;refine hK.out _ _ (fun _=>bi) ?_;clear hK K
    case' o4=>
     go_simp;refine hK.out _ _ (fun _=>bi) ?_;clear hK K;refine wa1 5 (by kernel_rfl) rfl (fun K hK=> ?_);go_simp;go_wp2_with ((go_at_call 51;(with_reducible refine mf0 (jaz HNB.o (HE4.o.below bi)) fun w6 s6 A6 n6 c6 t6 B6 m6 d6 hr6 hq6 hb6 hc6 hf6 _=> ?_));have y6_0:=zlt (w4.heap.size) hb6;have y6_1:=zlt (w5.heap.size) hb6)
     refine hK.out _ _ (fun _=>bi) ?_;clear hK K;refine wa1 6 (by kernel_rfl) rfl (fun K hK=> ?_);go_simp;refine hK.out _ _ (fun _=>bi) ?_;clear hK K
   case' o2=>
    go_simp;refine hK.out _ _ (fun _=>bi) ?_;clear hK K;refine wa1 2 (by kernel_rfl) rfl (fun K hK=> ?_);go_simp;go_wp2_with ((go_at_call 51;(with_reducible refine mf0 (jaz HNA.o (HE4.o.below bi)) fun w5 s5 A5 n5 c5 t5 B5 m5 d5 hr5 hq5 hb5 hc5 hf5 _=> ?_));have y5_0:=zlt (w4.heap.size) hb5)
    refine hK.out _ _ (fun _=>bi) ?_;clear hK K;refine wa1 5 (by kernel_rfl) rfl (fun K hK=> ?_);go_simp;go_wp2_with ((go_at_call 51;(with_reducible refine mf0 (jaz HNB.o (HE4.o.below bi)) fun w6 s6 A6 n6 c6 t6 B6 m6 d6 hr6 hq6 hb6 hc6 hf6 _=> ?_));have y6_0:=zlt (w4.heap.size) hb6;have y6_1:=zlt (w5.heap.size) hb6)
    refine hK.out _ _ (fun _=>bi) ?_;clear hK K;refine wa1 6 (by kernel_rfl) rfl (fun K hK=> ?_);go_simp;refine hK.out _ _ (fun _=>bi) ?_;clear hK K
   all_goals
    refine rd1 8 (by kernel_rfl) rfl (fun K hK=> ?_);go_simp;refine hK.out _ _ (fun h=>(h (by decide)).elim) ?_;clear hK K;refine ja2 (by kernel_rfl) ?_ _;go_wp2;go_meet
    (refine ⟨_,(((s5,A5,n5,c5),t5,B5,m5,d5),((s6,A6,n6,c6),t6,B6,m6,d6)),rfl, ?_,⟨?_, ?_, ?_, ?_, ?_, ?_, ?_, ?_,fun o=> ?_⟩,⟨?_, ?_⟩,⟨?_, ?_⟩,bi⟩ <;> first|(simp [go_sem,hf6,hf5,hc6,hc5,y5_0,y6_0,y6_1,jxf,nl,Nat.ne_of_gt];done)|(have e2:=hb5.size;have e3:=hb6.size;(try simp at e2);(try simp at e3);(try simp);omega)|exact (by with_reducible repeat first|assumption|apply rZ|refine rP ?_ rfl (by simp [go_sem,hc6,hc5,y5_0,y6_0,y6_1,jxf,Nat.le_of_lt,nl,Nat.ne_of_gt])))
   -- SLOW
  case rest=>
   rename World=>wx
   obtain ⟨g5,⟨⟨⟨s5,A5,n5,c5⟩,t5,B5,m5,d5⟩,⟨⟨s6,A6,n6,c6⟩,t6,B6,m6,d6⟩⟩,rfl,hg5,hS,hX,hY,bx⟩:=hcut;have HN5:=qh (show g5≠g+2∧g5≠g+3 by omega);clear hg5;obtain ⟨hr5,hq5⟩:=hX;obtain ⟨hr6,hq6⟩:=hY;dsimp only at hr5 hq5 hr6 hq6;replace r0:=ja9 bx r0;replace r1:=ja9 bx r1;replace r2:=ja9 bx r2;replace r3:=ja9 bx r3;replace r4:=ja9 bx r4;replace r5:=ja9 bx r5;replace r6:=ja9 bx r6;replace r7:=ja9 bx r7;replace u0:=ja9 bx u0;replace u1:=ja9 bx u1;replace u2:=ja9 bx u2;replace u3:=ja9 bx u3;replace rf0:=(bx.frozen (p:=⟨g+2,0,none⟩) zW2).trans rf0;replace rf1:=(bx.frozen (p:=⟨g+2,1,none⟩) zW2).trans rf1;replace rf2:=(bx.frozen (p:=⟨g+2,2,none⟩) zW2).trans rf2;replace rf3:=(bx.frozen (p:=⟨g+2,3,none⟩) zW2).trans rf3;replace rf4:=(bx.frozen (p:=⟨g+2,4,none⟩) zW2).trans rf4;replace rf5:=(bx.frozen (p:=⟨g+2,5,none⟩) zW2).trans rf5;replace rf6:=(bx.frozen (p:=⟨g+2,6,none⟩) zW2).trans rf6;replace rf7:=(bx.frozen (p:=⟨g+2,7,none⟩) zW2).trans rf7;replace uf0:=(bx.frozen (p:=⟨g+3,0,none⟩) zW3).trans uf0;replace uf1:=(bx.frozen (p:=⟨g+3,1,none⟩) zW3).trans uf1;replace uf2:=(bx.frozen (p:=⟨g+3,2,none⟩) zW3).trans uf2;replace uf3:=(bx.frozen (p:=⟨g+3,3,none⟩) zW3).trans uf3;replace zW0:=Nat.lt_of_lt_of_le zW0 bx.size;replace zW1:=Nat.lt_of_lt_of_le zW1 bx.size;replace zW2:=Nat.lt_of_lt_of_le zW2 bx.size;replace zW3:=Nat.lt_of_lt_of_le zW3 bx.size;have hB5:=qh (ja0 hB4.out bx);have HE5:=qh (HE4.o.below bx);obtain ⟨v0,v1,v2,v3,v4,v5,v6,v7,vf⟩:=hS;dsimp only at v0 v1 v2 v3 v4 v5 v6 v7;have zS:g5 < wx.heap.size:=World.block_lt_of_cell? wx _ v0;have _:Sl g5 wx.heap.size:=⟨zS⟩;have _:Sl (g+2) wx.heap.size:=⟨zW2⟩;have _:Sl (g+3) wx.heap.size:=⟨zW3⟩;have _:Bz w wx:=⟨hB5.out⟩;clear q0 q1 bx HNA HNB;have HX5:=qh (show RepF wx s5 A5 n5 c5 t5 B5 m5 d5 x from ⟨hr5,hq5⟩);have HX6:=qh (show RepF wx s6 A6 n6 c6 t6 B6 m6 d6 y from ⟨hr6,hq6⟩);by_cases h0:E2=0
   ·have HK:=qh (show jym d=K by have:=HK.o;rwa [if_pos h0] at this);have HNZ:=qh (HND.o h0);clear HND;subst h0;obtain ⟨j3,hj3⟩:∃j,sgn z.num=j:=⟨_,rfl⟩;obtain ⟨f3,hf3⟩:∃f,decide (j3≤0)=f:=⟨_,rfl⟩
    have hk3:(if f3 then (3:Int) else 0)=K:=by
     have:=HK.o;unfold jym at this;rw [HAZ.o.2] at this;rw [←this,←hf3,←hj3];have e:decide (sgn z.num≤0)=decide (z≤0):=by rw [decide_eq_decide];exact jxU
     rw [e];by_cases q:z≤0
     ·rw [if_pos q,decide_eq_true q];rfl
     ·rw [if_neg q,decide_eq_false q];rfl
    have HJ3:=qh hj3;have HK3:=qh hk3;clear hj3 hk3 HK;go_upto_region 9 with (first|((go_at_call 68;(with_reducible refine mo0 (jg2 HJ.o (HX5.o.below bi)) fun w7 hb7 hc7 hf7 _=> ?_));have y7_0:=zlt (g+2) hb7;have y7_1:=zlt (g+3) hb7;have y7_2:=zlt (g5) hb7)|((go_at_call 21;(with_reducible refine mo0 (jap HR4.o) fun w8 hb8 hc8 hf8 _=> ?_));have y8_0:=zlt (g+2) hb8;have y8_1:=zlt (g+3) hb8;have y8_2:=zlt (g5) hb8)|((go_at_call 69;(with_reducible refine mo0 (jmp (HE5.o.below bi) (Sv.one w8 _ d) (by omega) HLD.o HCD.o) fun w9 hb9 hc9 hf9 _=> ?_));have y9_0:=zlt (g+2) hb9;have y9_1:=zlt (g+3) hb9;have y9_2:=zlt (g5) hb9)|((go_at_call 20;(with_reducible refine mo0 (jbl iv2 (by omega) HF2.o) fun w10 hb10 hc10 hf10 _=> ?_));have y10_0:=zlt (g+2) hb10;have y10_1:=zlt (g+3) hb10;have y10_2:=zlt (g5) hb10)|((go_at_call 51;(with_reducible refine mf0 (jaz HNZ.o (HE5.o.below bi)) fun w11 s11 A11 n11 c11 t11 B11 m11 d11 hr11 hq11 hb11 hc11 hf11 _=> ?_));have y11_0:=zlt (g+2) hb11;have y11_1:=zlt (g+3) hb11;have y11_2:=zlt (g5) hb11))
    have bV:RowKit.Below wx.heap.size wx (w11.alloc (.cells #[.int .i64 s11, .slice A11 n11 c11, .int .i64 t11, .slice B11 m11 d11] 70)):=bi;have hM:FC (w11.alloc (.cells #[.int .i64 s11, .slice A11 n11 c11, .int .i64 t11, .slice B11 m11 d11] 70)) w11.heap.size ((s11,A11,n11,c11),(t11,B11,m11,d11)):=FC.made w11 _ _ _ _ _ _ _ _ _;have hZ:RepF (w11.alloc (.cells #[.int .i64 s11, .slice A11 n11 c11, .int .i64 t11, .slice B11 m11 d11] 70)) s11 A11 n11 c11 t11 B11 m11 d11 z:=RepF.below (w:=w11) ⟨hr11,hq11⟩ (bA bR);have hP5:=RepF.below HX5.o bV;have hP6:=RepF.below HX6.o bV;obtain ⟨V,hV⟩:∃V,(w11.alloc (.cells #[.int .i64 s11, .slice A11 n11 c11, .int .i64 t11, .slice B11 m11 d11] 70))=V:=⟨_,rfl⟩;rw [hV] at bV hM hZ hP5 hP6 ⊢;have hn2:g5≠g+2:=HN5.o.1;have hn4:g5≠g+3:=HN5.o.2;have hn3:w11.heap.size≠g+3:=fun e=>by have:=y11_1;omega
    have hn1:w11.heap.size≠g+2:=fun e=>by have:=y11_0;omega
    obtain ⟨g6,hg6⟩:∃b,w11.heap.size=b:=⟨_,rfl⟩;rw [hg6] at hM hn1 hn3 ⊢;have zS0:=zS;replace r0:=ja9 bV r0;replace r1:=ja9 bV r1;replace r2:=ja9 bV r2;replace r3:=ja9 bV r3;replace r4:=ja9 bV r4;replace r5:=ja9 bV r5;replace r6:=ja9 bV r6;replace r7:=ja9 bV r7;replace u0:=ja9 bV u0;replace u1:=ja9 bV u1;replace u2:=ja9 bV u2;replace u3:=ja9 bV u3;replace v0:=ja9 bV v0;replace v1:=ja9 bV v1;replace v2:=ja9 bV v2;replace v3:=ja9 bV v3;replace v4:=ja9 bV v4;replace v5:=ja9 bV v5;replace v6:=ja9 bV v6;replace v7:=ja9 bV v7;replace rf0:=(bV.frozen (p:=⟨g+2,0,none⟩) zW2).trans rf0;replace rf1:=(bV.frozen (p:=⟨g+2,1,none⟩) zW2).trans rf1;replace rf2:=(bV.frozen (p:=⟨g+2,2,none⟩) zW2).trans rf2;replace rf3:=(bV.frozen (p:=⟨g+2,3,none⟩) zW2).trans rf3;replace rf4:=(bV.frozen (p:=⟨g+2,4,none⟩) zW2).trans rf4;replace rf5:=(bV.frozen (p:=⟨g+2,5,none⟩) zW2).trans rf5;replace rf6:=(bV.frozen (p:=⟨g+2,6,none⟩) zW2).trans rf6;replace rf7:=(bV.frozen (p:=⟨g+2,7,none⟩) zW2).trans rf7;replace uf0:=(bV.frozen (p:=⟨g+3,0,none⟩) zW3).trans uf0;replace uf1:=(bV.frozen (p:=⟨g+3,1,none⟩) zW3).trans uf1;replace uf2:=(bV.frozen (p:=⟨g+3,2,none⟩) zW3).trans uf2;replace uf3:=(bV.frozen (p:=⟨g+3,3,none⟩) zW3).trans uf3;replace zW0:=Nat.lt_of_lt_of_le zW0 bV.size;replace zW1:=Nat.lt_of_lt_of_le zW1 bV.size;replace zW2:=Nat.lt_of_lt_of_le zW2 bV.size;replace zW3:=Nat.lt_of_lt_of_le zW3 bV.size;replace zS:=Nat.lt_of_lt_of_le zS bV.size;have HFV:=qh hM;have HSV:=qh (show SC V g5 (((s5,A5,n5,c5),(t5,B5,m5,d5)),((s6,A6,n6,c6),(t6,B6,m6,d6))) from ⟨v0,v1,v2,v3,v4,v5,v6,v7,fun o=>(bV.frozen (p:=⟨g5,o,none⟩) zS0).trans (vf o)⟩);have hB6:=qh (ja0 hB5.out bV);obtain ⟨hr25,hq25⟩:=hP5;obtain ⟨hr26,hq26⟩:=hP6;have HZ:=qh hZ;obtain ⟨hr27,hq27⟩:=hZ;clear hV hg6 hb7 hb8 hb9 hb10 hb11 hc7 hc8 hc9 hc10 hc11 hf7 hf8 hf9 hf10 hf11 hr5 hq5 hr6 hq6 hr11 hq11 bV hM vf v0 v1 v2 v3 v4 v5 v6 v7 zS zS0;have _:Bz w V:=⟨hB6.out⟩;have _:Sl (g+2) V.heap.size:=⟨zW2⟩;have _:Sl (g+3) V.heap.size:=⟨zW3⟩;refine ja1 (fun w'=>FC w' g6 ((s11,A11,n11,c11),(t11,B11,m11,d11))∧SC w' g5 (((s5,A5,n5,c5),(t5,B5,m5,d5)),((s6,A6,n6,c6),(t6,B6,m6,d6)))) [] (by kernel_rfl) ?_;have hS0:=ai (HFV.o.below (w':=V.drew) (bD bR)) (HSV.o.below (w':=V.drew) (bD bR));refine tk 0 (.agg #[.int .i64 s5, .slice A5 n5 c5, .int .i64 t5, .slice B5 m5 d5, .int .i64 s6, .slice A6 n6 c6, .int .i64 t6, .slice B6 m6 d6]) [] rfl (by kernel_rfl) pk (by rfl) ?_ hS0 ?_
    ·intro w' hS';obtain ⟨_,⟨v0,v1,v2,v3,v4,v5,v6,v7,_⟩⟩:=hS';go_simp
    simp only [ppq];refine tk 1 (fv s11 A11 n11 c11 t11 B11 m11 d11) [] rfl (by kernel_rfl) pk (by rfl) ?_ hS0 ?_
    ·intro w' hS';obtain ⟨⟨v0,v1,v2,v3,_⟩,_⟩:=hS';go_simp
    simp only [ppq];refine tk 2 (fv s11 A11 n11 c11 t11 B11 m11 d11) [] rfl (by kernel_rfl) pk (by rfl) ?_ hS0 ?_
    ·intro w' hS';obtain ⟨⟨v0,v1,v2,v3,_⟩,_⟩:=hS';go_simp
    simp only [ppq];clear hS0;refine rd1 3 (by kernel_rfl) rfl (fun K hK=> ?_);go_simp;go_wp2_with ((go_at_call 68;(with_reducible refine mo0 (jg2 HJ3.o (HZ.o.below bi)) fun w12 hb12 hc12 hf12 _=> ?_));have y12_0:=zlt (g+2) hb12;have y12_1:=zlt (g+3) hb12)
    refine hK.out _ _ (fun _=>⟨HFV.o.below bi,HSV.o.below bi⟩) ?_;clear hK K;refine rd1 4 (by kernel_rfl) rfl (fun K hK=> ?_);go_simp;refine hK.out _ _ (fun _=>⟨HFV.o.below bi,HSV.o.below bi⟩) ?_;clear hK K;refine rd1 5 (by kernel_rfl) rfl (fun K hK=> ?_);go_simp;go_wp2_with ((go_at_call 21;(with_reducible refine mo0 (jap HK3.o) fun w13 hb13 hc13 hf13 _=> ?_));have y13_0:=zlt (g+2) hb13;have y13_1:=zlt (g+3) hb13)
    refine hK.out _ _ (fun _=>⟨HFV.o.below bi,HSV.o.below bi⟩) ?_;clear hK K;have b13:RowKit.Below V.heap.size V w13:=bi;replace r0:=ja9 b13 r0;replace r1:=ja9 b13 r1;replace r2:=ja9 b13 r2;replace r3:=ja9 b13 r3;replace r4:=ja9 b13 r4;replace r5:=ja9 b13 r5;replace r6:=ja9 b13 r6;replace r7:=ja9 b13 r7;replace u0:=ja9 b13 u0;replace u1:=ja9 b13 u1;replace u2:=ja9 b13 u2;replace u3:=ja9 b13 u3;replace rf0:=(b13.frozen (p:=⟨g+2,0,none⟩) zW2).trans rf0;replace rf1:=(b13.frozen (p:=⟨g+2,1,none⟩) zW2).trans rf1;replace rf2:=(b13.frozen (p:=⟨g+2,2,none⟩) zW2).trans rf2;replace rf3:=(b13.frozen (p:=⟨g+2,3,none⟩) zW2).trans rf3;replace rf4:=(b13.frozen (p:=⟨g+2,4,none⟩) zW2).trans rf4;replace rf5:=(b13.frozen (p:=⟨g+2,5,none⟩) zW2).trans rf5;replace rf6:=(b13.frozen (p:=⟨g+2,6,none⟩) zW2).trans rf6;replace rf7:=(b13.frozen (p:=⟨g+2,7,none⟩) zW2).trans rf7;replace uf0:=(b13.frozen (p:=⟨g+3,0,none⟩) zW3).trans uf0;replace uf1:=(b13.frozen (p:=⟨g+3,1,none⟩) zW3).trans uf1;replace uf2:=(b13.frozen (p:=⟨g+3,2,none⟩) zW3).trans uf2;replace uf3:=(b13.frozen (p:=⟨g+3,3,none⟩) zW3).trans uf3;replace zW0:=Nat.lt_of_lt_of_le zW0 b13.size;replace zW1:=Nat.lt_of_lt_of_le zW1 b13.size;replace zW2:=Nat.lt_of_lt_of_le zW2 b13.size;replace zW3:=Nat.lt_of_lt_of_le zW3 b13.size;have _:Bz w w13:=⟨ja0 hB6.out b13⟩;clear hc12 hc13 hf12 hf13;refine rd1 6 (by kernel_rfl) rfl (fun K hK=> ?_);go_simp;refine hK.out _ _ (fun _=>⟨(HFV.o.below b13).other8 hn1,(HSV.o.below b13).other8 hn2⟩) ?_;clear hK K;refine rd1 7 (by kernel_rfl) rfl (fun K hK=> ?_);go_simp;refine hK.out _ _ (fun _=>⟨((HFV.o.below b13).other8 hn1).otherR hn3,((HSV.o.below b13).other8 hn2).other4 hn4⟩) ?_;clear hK K;refine rd1 8 (by kernel_rfl) rfl (fun K hK=> ?_);go_simp;refine hK.out _ _ (fun _=>⟨((HFV.o.below b13).other8 hn1).otherR hn3,((HSV.o.below b13).other8 hn2).other4 hn4⟩) ?_;clear hK K;refine ja2 (by kernel_rfl) ?_ _;go_wp2;exact bodyPost_ret (v:= .tuple #[.agg #[.int .i64 s5, .slice A5 n5 c5, .int .i64 t5, .slice B5 m5 d5, .int .i64 s6, .slice A6 n6 c6, .int .i64 t6, .slice B6 m6 d6], .agg #[.int .i64 s11, .slice A11 n11 c11, .int .i64 t11, .slice B11 m11 d11], .int .i64 K]) (by simp [results,results25,go_sem,r0,r1,r2,r3,r4,r5,r6,r7,rf0,rf1,rf2,rf3,rf4,rf5,rf6,rf7,u0,u1,u2,u3,uf0,uf1,uf2,uf3,jxf,nl,Nat.ne_of_gt]) rfl ⟨_,_,_,_,_,_,_,_,_,_,_,_,_,_,_,_,_,_,_,_,_,_,_,_,rfl,fun _=>⟨⟨(by constructor <;> (with_reducible repeat first|assumption|apply rZ|refine rP ?_ rfl (by simp [go_sem,r0,r1,r2,r3,r4,r5,r6,r7,u0,u1,u2,u3]))),(by constructor <;> (with_reducible repeat first|assumption|apply rZ|refine rP ?_ rfl (by simp [go_sem,r0,r1,r2,r3,r4,r5,r6,r7,u0,u1,u2,u3])))⟩,(by constructor <;> (with_reducible repeat first|assumption|apply rZ|refine rP ?_ rfl (by simp [go_sem,r0,r1,r2,r3,r4,r5,r6,r7,u0,u1,u2,u3])))⟩,bi⟩
   ·have hKE:E2=K:=by have:=HK.o;rwa [if_neg h0] at this
    subst hKE;have q1:(E2 != 0)=true:=by rw [bne_iff_ne];exact h0
    clear HND;go_upto_region 7 with (first|((go_at_call 68;(with_reducible refine mo0 (jg2 HJ.o (HX5.o.below bi)) fun w7 hb7 hc7 hf7 _=> ?_));have y7_0:=zlt (g+2) hb7;have y7_1:=zlt (g+3) hb7;have y7_2:=zlt (g5) hb7)|((go_at_call 21;(with_reducible refine mo0 (jap HR4.o) fun w8 hb8 hc8 hf8 _=> ?_));have y8_0:=zlt (g+2) hb8;have y8_1:=zlt (g+3) hb8;have y8_2:=zlt (g5) hb8)|((go_at_call 69;(with_reducible refine mo0 (jmp (HE5.o.below bi) (Sv.one w8 _ d) (by omega) HLD.o HCD.o) fun w9 hb9 hc9 hf9 _=> ?_));have y9_0:=zlt (g+2) hb9;have y9_1:=zlt (g+3) hb9;have y9_2:=zlt (g5) hb9)|((go_at_call 20;(with_reducible refine mo0 (jbl iv2 (by omega) HF2.o) fun w10 hb10 hc10 hf10 _=> ?_));have y10_0:=zlt (g+2) hb10;have y10_1:=zlt (g+3) hb10;have y10_2:=zlt (g5) hb10))
    have b10:RowKit.Below wx.heap.size wx w10:=bi;replace r0:=ja9 b10 r0;replace r1:=ja9 b10 r1;replace r2:=ja9 b10 r2;replace r3:=ja9 b10 r3;replace r4:=ja9 b10 r4;replace r5:=ja9 b10 r5;replace r6:=ja9 b10 r6;replace r7:=ja9 b10 r7;replace u0:=ja9 b10 u0;replace u1:=ja9 b10 u1;replace u2:=ja9 b10 u2;replace u3:=ja9 b10 u3;replace rf0:=(b10.frozen (p:=⟨g+2,0,none⟩) zW2).trans rf0;replace rf1:=(b10.frozen (p:=⟨g+2,1,none⟩) zW2).trans rf1;replace rf2:=(b10.frozen (p:=⟨g+2,2,none⟩) zW2).trans rf2;replace rf3:=(b10.frozen (p:=⟨g+2,3,none⟩) zW2).trans rf3;replace rf4:=(b10.frozen (p:=⟨g+2,4,none⟩) zW2).trans rf4;replace rf5:=(b10.frozen (p:=⟨g+2,5,none⟩) zW2).trans rf5;replace rf6:=(b10.frozen (p:=⟨g+2,6,none⟩) zW2).trans rf6;replace rf7:=(b10.frozen (p:=⟨g+2,7,none⟩) zW2).trans rf7;replace uf0:=(b10.frozen (p:=⟨g+3,0,none⟩) zW3).trans uf0;replace uf1:=(b10.frozen (p:=⟨g+3,1,none⟩) zW3).trans uf1;replace uf2:=(b10.frozen (p:=⟨g+3,2,none⟩) zW3).trans uf2;replace uf3:=(b10.frozen (p:=⟨g+3,3,none⟩) zW3).trans uf3;replace zW0:=Nat.lt_of_lt_of_le zW0 b10.size;replace zW1:=Nat.lt_of_lt_of_le zW1 b10.size;replace zW2:=Nat.lt_of_lt_of_le zW2 b10.size;replace zW3:=Nat.lt_of_lt_of_le zW3 b10.size;have hB7:=qh (ja0 hB5.out b10);clear hb7 hb8 hb9 hb10 hc7 hc8 hc9 hc10 hf7 hf8 hf9 hf10 b10;have _:Bz w w10:=⟨hB7.out⟩;have _:Sl (g+2) w10.heap.size:=⟨zW2⟩;have _:Sl (g+3) w10.heap.size:=⟨zW3⟩;go_wp2_with ((go_at_call 67;(with_reducible refine mf0 (jes HF0.o HR0.o) fun w12 s12 A12 n12 c12 t12 B12 m12 d12 hr12 hq12 hb12 hc12 hf12 _=> ?_));have y12_0:=zlt (g+2) hb12;have y12_1:=zlt (g+3) hb12)
    exact bodyPost_ret (v:= .tuple #[.agg #[.int .i64 0, .slice none 0 0, .int .i64 0, .slice none 0 0, .int .i64 0, .slice none 0 0, .int .i64 0, .slice none 0 0], .agg #[.int .i64 s12, .slice A12 n12 c12, .int .i64 t12, .slice B12 m12 d12], .int .i64 E2]) (by simp [results,results25,go_sem,hc12,hf12,y12_0,y12_1,zW2,zW3,r0,r1,r2,r3,r4,r5,r6,r7,rf0,rf1,rf2,rf3,rf4,rf5,rf6,rf7,u0,u1,u2,u3,uf0,uf1,uf2,uf3,jxf,nl,Nat.ne_of_gt]) rfl ⟨_,_,_,_,_,_,_,_,_,_,_,_,_,_,_,_,_,_,_,_,_,_,_,_,rfl,fun h=>absurd h h0,bi⟩
 ·have e:K1=K:=by have:=HK.o;rwa [if_neg hk1] at this
  subst e;have q1:(K1 != 0)=true:=by rw [bne_iff_ne];exact hk1
  have h0:=hk1;have _:Bz w w4:=⟨hB4.out⟩;have _:Sl (g+2) w4.heap.size:=⟨zW2⟩;have _:Sl (g+3) w4.heap.size:=⟨zW3⟩;go_wp2_with ((go_at_call 67;(with_reducible refine mf0 (jes HF0.o HR0.o) fun w5 s5 A5 n5 c5 t5 B5 m5 d5 hr5 hq5 hb5 hc5 hf5 _=> ?_));have y5_0:=zlt (g+2) hb5;have y5_1:=zlt (g+3) hb5)
  exact bodyPost_ret (v:= .tuple #[.agg #[.int .i64 0, .slice none 0 0, .int .i64 0, .slice none 0 0, .int .i64 0, .slice none 0 0, .int .i64 0, .slice none 0 0], .agg #[.int .i64 s5, .slice A5 n5 c5, .int .i64 t5, .slice B5 m5 d5], .int .i64 K1]) (by simp [results,results25,go_sem,hc5,hf5,y5_0,y5_1,zW2,zW3,r0,r1,r2,r3,r4,r5,r6,r7,rf0,rf1,rf2,rf3,rf4,rf5,rf6,rf7,u0,u1,u2,u3,uf0,uf1,uf2,uf3,jxf,nl,Nat.ne_of_gt]) rfl ⟨_,_,_,_,_,_,_,_,_,_,_,_,_,_,_,_,_,_,_,_,_,_,_,_,rfl,fun h=>absurd h h0,bi⟩
end
end Go.Proofs.YtfagcpcikjlboaaGreatDoor
