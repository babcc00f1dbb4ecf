/- Parts. -/
import Derived.Test.YtfoolepjkhgckaaGreatDoorLo
import Derived.Test.YtfoolepjkhgckaaGreatDoorUwG
set_option linter.all false
set_option maxRecDepth 100000
set_option maxHeartbeats 8000000
namespace Go.Proofs.YtfoolepjkhgckaaGreatDoor
open Go Go.RowKit

theorem jeh:tq (1/2:Rat)=[49,47,50]:=by decide+kernel
theorem jgV:tq (1:Rat)=[49]:=by decide+kernel
theorem jch (x:Rat):(tq x==[49,47,50])=decide (x=1/2):=by
 by_cases h:x=1/2
 ·subst h;rw [jeh,decide_eq_true rfl];rfl
 ·rw [decide_eq_false h,beq_eq_false_iff_ne]
  intro e
  exact h (jii (e.trans jeh.symm))
theorem jcK:Dz 1 (1/2:Rat):=⟨by decide+kernel,by decide+kernel⟩
theorem jcS:Dz 1 (1:Rat):=⟨by decide+kernel,by decide+kernel⟩
theorem jd8 (n:Int):decide ((((n:Int):Rat) / 2).den=1)= !decide (n % 2≠0):=by
 have key:(((n:Int):Rat) / 2).den=1↔n % 2=0:=by
  constructor
  ·intro h
   have e:(((n:Int):Rat) / 2)=((((n:Int):Rat) / 2).num:Rat):=(Rat.ext (Rat.num_intCast _) (by rw [Rat.den_intCast,h])).symm
   have e2:((n:Int):Rat)=(((((n:Int):Rat) / 2).num*2:Int):Rat):=by
    rw [Rat.intCast_mul,←e];grind
   have:=Rat.intCast_inj.1 e2
   omega
  ·intro h
   have e:((n:Int):Rat) / 2=((n / 2:Int):Rat):=by
    have e2:n=(n / 2)*2:=by omega
    have e3:((n:Int):Rat)=(((n / 2)*2:Int):Rat):=by rw [←e2]
    rw [Rat.intCast_mul] at e3
    rw [e3];grind
   rw [e,Rat.den_intCast]
 by_cases h:n % 2=0
 ·rw [decide_eq_true (key.2 h),decide_eq_false (by omega)];rfl
 ·rw [decide_eq_false (fun e=>h (key.1 e)),decide_eq_true h];rfl
theorem jpv (h:Int) (o:Bool):upK jdf h o=false:=by unfold upK;rw [if_pos rfl]
theorem jsR (h:Int) (o:Bool):upK kUp h o=true:=by unfold upK;rw [if_neg (by decide),if_pos rfl]
theorem jsm (h:Int) (o:Bool):upK jb8 h o=decide (0≤h):=by unfold upK;rw [if_neg (by decide),if_neg (by decide),if_pos rfl]
theorem jnz (h:Int) (o:Bool):upK jaF h o=(decide (0 < h) || (decide (h=0) && o)):=by unfold upK;rw [if_neg (by decide),if_neg (by decide),if_neg (by decide)]
theorem jm3 (y:Rat):jju jdf y=y.floor:=by
 unfold jju;split
 ·rfl
 ·rw [jpv];simp
theorem jse (y:Rat):jju kUp y=y.floor+(if (!decide (y - (y.floor:Rat)=0))=true then 1 else 0):=by
 unfold jju
 by_cases h:y - (y.floor:Rat)=0
 ·rw [if_pos h,decide_eq_true h];simp
 ·rw [if_neg h,decide_eq_false h,jsR];rfl
theorem jdx {r:Rat} (h:r=0):Rq.cmpQ r (1/2) < 0:=Rq.cmp_neg.2 (by rw [h];decide+kernel)
theorem jou (y:Rat):jju jb8 y=y.floor+(if decide (0≤Rq.cmpQ (y - (y.floor:Rat)) (1/2))=true then 1 else 0):=by
 unfold jju
 by_cases h:y - (y.floor:Rat)=0
 ·have:=jdx h
  rw [if_pos h,decide_eq_false (by omega)];simp
 ·rw [if_neg h,jsm]
theorem jl2 (y:Rat):jju jaF y=y.floor+(if (decide (0 < Rq.cmpQ (y - (y.floor:Rat)) (1/2)) || (decide (y - (y.floor:Rat)=1/2) && decide (y.floor % 2≠0)))=true then 1 else 0):=by
 unfold jju
 have e:decide (Rq.cmpQ (y - (y.floor:Rat)) (1/2)=0)=decide (y - (y.floor:Rat)=1/2):=by
  rw [decide_eq_decide]
  obtain ⟨r,hr⟩:∃r,y - (y.floor:Rat)=r:=⟨_,rfl⟩
  rw [hr]
  have h1:= @Rq.cmp_neg r (1/2)
  have h2:= @Rq.cmp_pos r (1/2)
  constructor
  ·intro h
   have a1:¬r < 1/2:=fun e=>by have:=h1.2 e;omega
   have a2:¬1/2 < r:=fun e=>by have:=h2.2 e;omega
   grind
  ·intro h
   have a1:¬Rq.cmpQ r (1/2) < 0:=fun e=>by have:=h1.1 e;grind
   have a2:¬0 < Rq.cmpQ r (1/2):=fun e=>by have:=h2.1 e;grind
   omega
 by_cases h:y - (y.floor:Rat)=0
 ·have:=jdx h
  rw [if_pos h,decide_eq_false (show ¬0 < Rq.cmpQ (y - (y.floor:Rat)) (1/2) by omega),decide_eq_false (show ¬y - (y.floor:Rat)=1/2 by grind)];simp
 ·rw [if_neg h,jnz,e]
section
variable {w:World} {kind:List UInt8} {x s:Rat} {k m:Nat}
theorem jj2 (hx:Dz k x) (hs:Dz m s) (h0:0 < s) (hk:0 < k) (hm:0 < m) (hk2:k≤30) (hm2:m≤30):Calls Tryz.prog 28 #[bs (tq x),rv jdf (tq s)] w (QP (rnd jdf x s) w):=by
 have hy:=(hx.div hs (show s≠0 by grind)).mono (show k+m≤60 by omega)
 obtain ⟨y,ey⟩:∃y,x / s=y:=⟨_,rfl⟩
 have HDV:=qh (fun W=>jfp (w:=W) hx hs hk hm (by omega) (by omega) (show s≠0 by grind))
 rw [jfT h0]
 rw [ey] at hy HDV ⊢
 have hf:=jcn hy
 obtain ⟨n,en⟩:∃n,y.floor=n:=⟨_,rfl⟩
 have HFL:=qh (fun W=>jck (w:=W) hy (by omega) (by omega))
 rw [en] at hf HFL
 have HSU:=qh (fun W=>jca (w:=W) hy hf (by omega) (by omega) (by omega) (by omega))
 have hr:=(hy.sub hf)
 have hf1:=(hf.add jcS)
 have HAD:=qh (fun W=>jdP (w:=W) hf jcS (by omega) (by omega) (by omega) (by omega))
 have HM0:=qh (fun W=>jbg (w:=W) hf hs (by omega) hm (by omega) (by omega))
 have HM1:=qh (fun W=>jbg (w:=W) hf1 hs (by omega) hm (by omega) (by omega))
 obtain ⟨r,er⟩:∃r,y - ((n:Int):Rat)=r:=⟨_,rfl⟩
 rw [er] at hr HSU
 have HZ:=qh (fun W=>jgc (w:=W) (x:=r) rfl)
 obtain ⟨g,eg⟩:∃g,Rq.cmpQ r (1/2)=g:=⟨_,rfl⟩
 have HCM:=qh (fun W=>jcq (w:=W) eg hr jcK (by omega) (by omega) (by omega) (by omega))
 have HHA:=qh (fun W=>jku (w:=W) hf (by omega) (by omega))
 have hh:=(hf.mul jcK)
 have HWH:=qh (fun W=>je6 (w:=W) (jd8 n) (x:=((n:Int):Rat) / 2) (k:=61) (by rw [show ((n:Int):Rat) / 2=((n:Int):Rat)*(1/2) by grind];exact hh) (by omega) (by omega))
 have hnz:((n+1:Int):Rat)=((n:Int):Rat)+1:=jdN n
 unfold QP at HDV HFL HSU HAD HM0 HM1 HHA ⊢
 rw [jeh] at HCM
 rw [jgV] at HAD
 have e5:=jch r
 obtain ⟨o,eo⟩:∃o,decide (n % 2≠0)=o:=⟨_,rfl⟩
 rw [eo] at HWH
 obtain ⟨z,ez⟩:∃z,decide (r=0)=z:=⟨_,rfl⟩
 rw [ez] at HZ
 obtain ⟨hb,eb⟩:∃z,decide (r=1/2)=z:=⟨_,rfl⟩
 rw [eb] at e5
 obtain ⟨TX,tX⟩:∃t,tq x=t:=⟨_,rfl⟩
 obtain ⟨TS,tS⟩:∃t,tq s=t:=⟨_,rfl⟩
 obtain ⟨TY,tY⟩:∃t,tq y=t:=⟨_,rfl⟩
 obtain ⟨TF,tF⟩:∃t,tq ((n:Int):Rat)=t:=⟨_,rfl⟩
 obtain ⟨TR,tR⟩:∃t,tq r=t:=⟨_,rfl⟩
 obtain ⟨TG,tG⟩:∃t,tq (((n:Int):Rat)+1)=t:=⟨_,rfl⟩
 obtain ⟨TH,tH⟩:∃t,tq (((n:Int):Rat) / 2)=t:=⟨_,rfl⟩
 obtain ⟨R0,r0⟩:∃t,tq (((n:Int):Rat)*s)=t:=⟨_,rfl⟩
 obtain ⟨R1,r1⟩:∃t,tq ((((n:Int):Rat)+1)*s)=t:=⟨_,rfl⟩
 rw [tX,tS,tY] at HDV
 rw [tY,tF] at HFL
 rw [tY,tF,tR] at HSU
 rw [tF,tG] at HAD
 rw [tF,tS,r0] at HM0
 rw [tG,tS,r1] at HM1
 rw [tR] at HZ HCM e5
 rw [tF,tH] at HHA
 rw [tH] at HWH
 rw [tX,tS]
 rw [jm3,en,r0]
 clear hx hs h0 hk hm hk2 hm2 hy ey hf en hr hf1 er eg hh hnz eo ez eb tX tS tY tF tR tG tH r0 r1
 have c0:jdf=[100,111,119,110]:=rfl
 rw [c0]
 clear c0
 go_enter Tryz.func28,Tryz.ntmps28
 go_wp2_with (first|(go_at_call 47;(with_reducible refine mo1 w (HDV.out _) (by go_size) fun w1 hb1 hc1 hf1 z1_0 _=> ?_))|(go_at_call 44;(with_reducible refine mo1 w (HFL.out _) (by go_size) fun w2 hb2 hc2 hf2 z2_0 _=> ?_))|(go_at_call 21;(with_reducible refine mo1 w (HSU.out _) (by go_size) fun w3 hb3 hc3 hf3 z3_0 _=> ?_))|(go_at_call 46;(with_reducible refine mo1 w (HZ.out _) (by go_size) fun w4 hb4 hc4 hf4 z4_0 _=> ?_))|(go_at_call 22;(with_reducible refine mo1 w (HCM.out _) (by go_size) fun w5 hb5 hc5 hf5 z5_0 _=> ?_))|(go_at_call 88;(with_reducible refine mo1 w (HHA.out _) (by go_size) fun w6 hb6 hc6 hf6 z6_0 _=> ?_))|(go_at_call 87;(with_reducible refine mo1 w (HWH.out _) (by go_size) fun w7 hb7 hc7 hf7 z7_0 _=> ?_))|(go_at_call 45;(with_reducible refine mo1 w (HAD.out _) (by go_size) fun w8 hb8 hc8 hf8 z8_0 _=> ?_))|(go_at_call 20;(with_reducible show Calls _ _ #[bs TF,bs TS] _ _);(with_reducible refine mo1 w (HM0.out _) (by go_size) fun w9 hb9 hc9 hf9 z9_0 _=> ?_))|(go_at_call 20;(with_reducible show Calls _ _ #[bs TG,bs TS] _ _);(with_reducible refine mo1 w (HM1.out _) (by go_size) fun w10 hb10 hc10 hf10 z10_0 _=> ?_)))
 go_ret
 exact ⟨rfl,bi⟩
theorem jnU (hx:Dz k x) (hs:Dz m s) (h0:0 < s) (hk:0 < k) (hm:0 < m) (hk2:k≤30) (hm2:m≤30):Calls Tryz.prog 28 #[bs (tq x),rv kUp (tq s)] w (QP (rnd kUp x s) w):=by
 have hy:=(hx.div hs (show s≠0 by grind)).mono (show k+m≤60 by omega)
 obtain ⟨y,ey⟩:∃y,x / s=y:=⟨_,rfl⟩
 have HDV:=qh (fun W=>jfp (w:=W) hx hs hk hm (by omega) (by omega) (show s≠0 by grind))
 rw [jfT h0]
 rw [ey] at hy HDV ⊢
 have hf:=jcn hy
 obtain ⟨n,en⟩:∃n,y.floor=n:=⟨_,rfl⟩
 have HFL:=qh (fun W=>jck (w:=W) hy (by omega) (by omega))
 rw [en] at hf HFL
 have HSU:=qh (fun W=>jca (w:=W) hy hf (by omega) (by omega) (by omega) (by omega))
 have hr:=(hy.sub hf)
 have hf1:=(hf.add jcS)
 have HAD:=qh (fun W=>jdP (w:=W) hf jcS (by omega) (by omega) (by omega) (by omega))
 have HM0:=qh (fun W=>jbg (w:=W) hf hs (by omega) hm (by omega) (by omega))
 have HM1:=qh (fun W=>jbg (w:=W) hf1 hs (by omega) hm (by omega) (by omega))
 obtain ⟨r,er⟩:∃r,y - ((n:Int):Rat)=r:=⟨_,rfl⟩
 rw [er] at hr HSU
 have HZ:=qh (fun W=>jgc (w:=W) (x:=r) rfl)
 obtain ⟨g,eg⟩:∃g,Rq.cmpQ r (1/2)=g:=⟨_,rfl⟩
 have HCM:=qh (fun W=>jcq (w:=W) eg hr jcK (by omega) (by omega) (by omega) (by omega))
 have HHA:=qh (fun W=>jku (w:=W) hf (by omega) (by omega))
 have hh:=(hf.mul jcK)
 have HWH:=qh (fun W=>je6 (w:=W) (jd8 n) (x:=((n:Int):Rat) / 2) (k:=61) (by rw [show ((n:Int):Rat) / 2=((n:Int):Rat)*(1/2) by grind];exact hh) (by omega) (by omega))
 have hnz:((n+1:Int):Rat)=((n:Int):Rat)+1:=jdN n
 unfold QP at HDV HFL HSU HAD HM0 HM1 HHA ⊢
 rw [jeh] at HCM
 rw [jgV] at HAD
 have e5:=jch r
 obtain ⟨o,eo⟩:∃o,decide (n % 2≠0)=o:=⟨_,rfl⟩
 rw [eo] at HWH
 obtain ⟨z,ez⟩:∃z,decide (r=0)=z:=⟨_,rfl⟩
 rw [ez] at HZ
 obtain ⟨hb,eb⟩:∃z,decide (r=1/2)=z:=⟨_,rfl⟩
 rw [eb] at e5
 obtain ⟨TX,tX⟩:∃t,tq x=t:=⟨_,rfl⟩
 obtain ⟨TS,tS⟩:∃t,tq s=t:=⟨_,rfl⟩
 obtain ⟨TY,tY⟩:∃t,tq y=t:=⟨_,rfl⟩
 obtain ⟨TF,tF⟩:∃t,tq ((n:Int):Rat)=t:=⟨_,rfl⟩
 obtain ⟨TR,tR⟩:∃t,tq r=t:=⟨_,rfl⟩
 obtain ⟨TG,tG⟩:∃t,tq (((n:Int):Rat)+1)=t:=⟨_,rfl⟩
 obtain ⟨TH,tH⟩:∃t,tq (((n:Int):Rat) / 2)=t:=⟨_,rfl⟩
 obtain ⟨R0,r0⟩:∃t,tq (((n:Int):Rat)*s)=t:=⟨_,rfl⟩
 obtain ⟨R1,r1⟩:∃t,tq ((((n:Int):Rat)+1)*s)=t:=⟨_,rfl⟩
 rw [tX,tS,tY] at HDV
 rw [tY,tF] at HFL
 rw [tY,tF,tR] at HSU
 rw [tF,tG] at HAD
 rw [tF,tS,r0] at HM0
 rw [tG,tS,r1] at HM1
 rw [tR] at HZ HCM e5
 rw [tF,tH] at HHA
 rw [tH] at HWH
 rw [tX,tS]
 have c0:kUp=[117,112]:=rfl
 rw [jse,en,er,ez]
 cases z
 ·rw [if_pos (by rfl),hnz,r1,c0]
  clear c0
  clear hx hs h0 hk hm hk2 hm2 hy ey hf en hr hf1 er eg hh hnz eo ez eb tX tS tY tF tR tG tH r0 r1
  go_enter Tryz.func28,Tryz.ntmps28
  go_wp2_with (first|(go_at_call 47;(with_reducible refine mo1 w (HDV.out _) (by go_size) fun w1 hb1 hc1 hf1 z1_0 _=> ?_))|(go_at_call 44;(with_reducible refine mo1 w (HFL.out _) (by go_size) fun w2 hb2 hc2 hf2 z2_0 _=> ?_))|(go_at_call 21;(with_reducible refine mo1 w (HSU.out _) (by go_size) fun w3 hb3 hc3 hf3 z3_0 _=> ?_))|(go_at_call 46;(with_reducible refine mo1 w (HZ.out _) (by go_size) fun w4 hb4 hc4 hf4 z4_0 _=> ?_))|(go_at_call 22;(with_reducible refine mo1 w (HCM.out _) (by go_size) fun w5 hb5 hc5 hf5 z5_0 _=> ?_))|(go_at_call 88;(with_reducible refine mo1 w (HHA.out _) (by go_size) fun w6 hb6 hc6 hf6 z6_0 _=> ?_))|(go_at_call 87;(with_reducible refine mo1 w (HWH.out _) (by go_size) fun w7 hb7 hc7 hf7 z7_0 _=> ?_))|(go_at_call 45;(with_reducible refine mo1 w (HAD.out _) (by go_size) fun w8 hb8 hc8 hf8 z8_0 _=> ?_))|(go_at_call 20;(with_reducible show Calls _ _ #[bs TF,bs TS] _ _);(with_reducible refine mo1 w (HM0.out _) (by go_size) fun w9 hb9 hc9 hf9 z9_0 _=> ?_))|(go_at_call 20;(with_reducible show Calls _ _ #[bs TG,bs TS] _ _);(with_reducible refine mo1 w (HM1.out _) (by go_size) fun w10 hb10 hc10 hf10 z10_0 _=> ?_)))
  go_ret
  exact ⟨rfl,bi⟩
 ·rw [if_neg (by decide),Int.add_zero,r0,c0]
  clear c0
  clear hx hs h0 hk hm hk2 hm2 hy ey hf en hr hf1 er eg hh hnz eo ez eb tX tS tY tF tR tG tH r0 r1
  go_enter Tryz.func28,Tryz.ntmps28
  go_wp2_with (first|(go_at_call 47;(with_reducible refine mo1 w (HDV.out _) (by go_size) fun w1 hb1 hc1 hf1 z1_0 _=> ?_))|(go_at_call 44;(with_reducible refine mo1 w (HFL.out _) (by go_size) fun w2 hb2 hc2 hf2 z2_0 _=> ?_))|(go_at_call 21;(with_reducible refine mo1 w (HSU.out _) (by go_size) fun w3 hb3 hc3 hf3 z3_0 _=> ?_))|(go_at_call 46;(with_reducible refine mo1 w (HZ.out _) (by go_size) fun w4 hb4 hc4 hf4 z4_0 _=> ?_))|(go_at_call 22;(with_reducible refine mo1 w (HCM.out _) (by go_size) fun w5 hb5 hc5 hf5 z5_0 _=> ?_))|(go_at_call 88;(with_reducible refine mo1 w (HHA.out _) (by go_size) fun w6 hb6 hc6 hf6 z6_0 _=> ?_))|(go_at_call 87;(with_reducible refine mo1 w (HWH.out _) (by go_size) fun w7 hb7 hc7 hf7 z7_0 _=> ?_))|(go_at_call 45;(with_reducible refine mo1 w (HAD.out _) (by go_size) fun w8 hb8 hc8 hf8 z8_0 _=> ?_))|(go_at_call 20;(with_reducible show Calls _ _ #[bs TF,bs TS] _ _);(with_reducible refine mo1 w (HM0.out _) (by go_size) fun w9 hb9 hc9 hf9 z9_0 _=> ?_))|(go_at_call 20;(with_reducible show Calls _ _ #[bs TG,bs TS] _ _);(with_reducible refine mo1 w (HM1.out _) (by go_size) fun w10 hb10 hc10 hf10 z10_0 _=> ?_)))
  go_ret
  exact ⟨rfl,bi⟩
theorem jlr (hx:Dz k x) (hs:Dz m s) (h0:0 < s) (hk:0 < k) (hm:0 < m) (hk2:k≤30) (hm2:m≤30):Calls Tryz.prog 28 #[bs (tq x),rv jb8 (tq s)] w (QP (rnd jb8 x s) w):=by
 have hy:=(hx.div hs (show s≠0 by grind)).mono (show k+m≤60 by omega)
 obtain ⟨y,ey⟩:∃y,x / s=y:=⟨_,rfl⟩
 have HDV:=qh (fun W=>jfp (w:=W) hx hs hk hm (by omega) (by omega) (show s≠0 by grind))
 rw [jfT h0]
 rw [ey] at hy HDV ⊢
 have hf:=jcn hy
 obtain ⟨n,en⟩:∃n,y.floor=n:=⟨_,rfl⟩
 have HFL:=qh (fun W=>jck (w:=W) hy (by omega) (by omega))
 rw [en] at hf HFL
 have HSU:=qh (fun W=>jca (w:=W) hy hf (by omega) (by omega) (by omega) (by omega))
 have hr:=(hy.sub hf)
 have hf1:=(hf.add jcS)
 have HAD:=qh (fun W=>jdP (w:=W) hf jcS (by omega) (by omega) (by omega) (by omega))
 have HM0:=qh (fun W=>jbg (w:=W) hf hs (by omega) hm (by omega) (by omega))
 have HM1:=qh (fun W=>jbg (w:=W) hf1 hs (by omega) hm (by omega) (by omega))
 obtain ⟨r,er⟩:∃r,y - ((n:Int):Rat)=r:=⟨_,rfl⟩
 rw [er] at hr HSU
 have HZ:=qh (fun W=>jgc (w:=W) (x:=r) rfl)
 obtain ⟨g,eg⟩:∃g,Rq.cmpQ r (1/2)=g:=⟨_,rfl⟩
 have HCM:=qh (fun W=>jcq (w:=W) eg hr jcK (by omega) (by omega) (by omega) (by omega))
 have HHA:=qh (fun W=>jku (w:=W) hf (by omega) (by omega))
 have hh:=(hf.mul jcK)
 have HWH:=qh (fun W=>je6 (w:=W) (jd8 n) (x:=((n:Int):Rat) / 2) (k:=61) (by rw [show ((n:Int):Rat) / 2=((n:Int):Rat)*(1/2) by grind];exact hh) (by omega) (by omega))
 have hnz:((n+1:Int):Rat)=((n:Int):Rat)+1:=jdN n
 unfold QP at HDV HFL HSU HAD HM0 HM1 HHA ⊢
 rw [jeh] at HCM
 rw [jgV] at HAD
 have e5:=jch r
 obtain ⟨o,eo⟩:∃o,decide (n % 2≠0)=o:=⟨_,rfl⟩
 rw [eo] at HWH
 obtain ⟨z,ez⟩:∃z,decide (r=0)=z:=⟨_,rfl⟩
 rw [ez] at HZ
 obtain ⟨hb,eb⟩:∃z,decide (r=1/2)=z:=⟨_,rfl⟩
 rw [eb] at e5
 obtain ⟨TX,tX⟩:∃t,tq x=t:=⟨_,rfl⟩
 obtain ⟨TS,tS⟩:∃t,tq s=t:=⟨_,rfl⟩
 obtain ⟨TY,tY⟩:∃t,tq y=t:=⟨_,rfl⟩
 obtain ⟨TF,tF⟩:∃t,tq ((n:Int):Rat)=t:=⟨_,rfl⟩
 obtain ⟨TR,tR⟩:∃t,tq r=t:=⟨_,rfl⟩
 obtain ⟨TG,tG⟩:∃t,tq (((n:Int):Rat)+1)=t:=⟨_,rfl⟩
 obtain ⟨TH,tH⟩:∃t,tq (((n:Int):Rat) / 2)=t:=⟨_,rfl⟩
 obtain ⟨R0,r0⟩:∃t,tq (((n:Int):Rat)*s)=t:=⟨_,rfl⟩
 obtain ⟨R1,r1⟩:∃t,tq ((((n:Int):Rat)+1)*s)=t:=⟨_,rfl⟩
 rw [tX,tS,tY] at HDV
 rw [tY,tF] at HFL
 rw [tY,tF,tR] at HSU
 rw [tF,tG] at HAD
 rw [tF,tS,r0] at HM0
 rw [tG,tS,r1] at HM1
 rw [tR] at HZ HCM e5
 rw [tF,tH] at HHA
 rw [tH] at HWH
 rw [tX,tS]
 have c0:jb8=[104,97,108,102,45,117,112]:=rfl
 rw [jou,en,er,eg]
 by_cases q:0≤g
 ·have q1:decide (0≤g)=true:=decide_eq_true q
  rw [q1,if_pos rfl,hnz,r1,c0]
  clear c0 q
  clear hx hs h0 hk hm hk2 hm2 hy ey hf en hr hf1 er eg hh hnz eo ez eb tX tS tY tF tR tG tH r0 r1
  go_enter Tryz.func28,Tryz.ntmps28
  go_wp2_with (first|(go_at_call 47;(with_reducible refine mo1 w (HDV.out _) (by go_size) fun w1 hb1 hc1 hf1 z1_0 _=> ?_))|(go_at_call 44;(with_reducible refine mo1 w (HFL.out _) (by go_size) fun w2 hb2 hc2 hf2 z2_0 _=> ?_))|(go_at_call 21;(with_reducible refine mo1 w (HSU.out _) (by go_size) fun w3 hb3 hc3 hf3 z3_0 _=> ?_))|(go_at_call 46;(with_reducible refine mo1 w (HZ.out _) (by go_size) fun w4 hb4 hc4 hf4 z4_0 _=> ?_))|(go_at_call 22;(with_reducible refine mo1 w (HCM.out _) (by go_size) fun w5 hb5 hc5 hf5 z5_0 _=> ?_))|(go_at_call 88;(with_reducible refine mo1 w (HHA.out _) (by go_size) fun w6 hb6 hc6 hf6 z6_0 _=> ?_))|(go_at_call 87;(with_reducible refine mo1 w (HWH.out _) (by go_size) fun w7 hb7 hc7 hf7 z7_0 _=> ?_))|(go_at_call 45;(with_reducible refine mo1 w (HAD.out _) (by go_size) fun w8 hb8 hc8 hf8 z8_0 _=> ?_))|(go_at_call 20;(with_reducible show Calls _ _ #[bs TF,bs TS] _ _);(with_reducible refine mo1 w (HM0.out _) (by go_size) fun w9 hb9 hc9 hf9 z9_0 _=> ?_))|(go_at_call 20;(with_reducible show Calls _ _ #[bs TG,bs TS] _ _);(with_reducible refine mo1 w (HM1.out _) (by go_size) fun w10 hb10 hc10 hf10 z10_0 _=> ?_)))
  go_ret
  exact ⟨rfl,bi⟩
 ·have q1:decide (0≤g)=false:=decide_eq_false q
  rw [q1,if_neg (by decide),Int.add_zero,r0,c0]
  clear c0 q
  clear hx hs h0 hk hm hk2 hm2 hy ey hf en hr hf1 er eg hh hnz eo ez eb tX tS tY tF tR tG tH r0 r1
  go_enter Tryz.func28,Tryz.ntmps28
  go_wp2_with (first|(go_at_call 47;(with_reducible refine mo1 w (HDV.out _) (by go_size) fun w1 hb1 hc1 hf1 z1_0 _=> ?_))|(go_at_call 44;(with_reducible refine mo1 w (HFL.out _) (by go_size) fun w2 hb2 hc2 hf2 z2_0 _=> ?_))|(go_at_call 21;(with_reducible refine mo1 w (HSU.out _) (by go_size) fun w3 hb3 hc3 hf3 z3_0 _=> ?_))|(go_at_call 46;(with_reducible refine mo1 w (HZ.out _) (by go_size) fun w4 hb4 hc4 hf4 z4_0 _=> ?_))|(go_at_call 22;(with_reducible refine mo1 w (HCM.out _) (by go_size) fun w5 hb5 hc5 hf5 z5_0 _=> ?_))|(go_at_call 88;(with_reducible refine mo1 w (HHA.out _) (by go_size) fun w6 hb6 hc6 hf6 z6_0 _=> ?_))|(go_at_call 87;(with_reducible refine mo1 w (HWH.out _) (by go_size) fun w7 hb7 hc7 hf7 z7_0 _=> ?_))|(go_at_call 45;(with_reducible refine mo1 w (HAD.out _) (by go_size) fun w8 hb8 hc8 hf8 z8_0 _=> ?_))|(go_at_call 20;(with_reducible show Calls _ _ #[bs TF,bs TS] _ _);(with_reducible refine mo1 w (HM0.out _) (by go_size) fun w9 hb9 hc9 hf9 z9_0 _=> ?_))|(go_at_call 20;(with_reducible show Calls _ _ #[bs TG,bs TS] _ _);(with_reducible refine mo1 w (HM1.out _) (by go_size) fun w10 hb10 hc10 hf10 z10_0 _=> ?_)))
  go_ret
  exact ⟨rfl,bi⟩
theorem jib (hx:Dz k x) (hs:Dz m s) (h0:0 < s) (hk:0 < k) (hm:0 < m) (hk2:k≤30) (hm2:m≤30):Calls Tryz.prog 28 #[bs (tq x),rv jaF (tq s)] w (QP (rnd jaF x s) w):=by
 have hy:=(hx.div hs (show s≠0 by grind)).mono (show k+m≤60 by omega)
 obtain ⟨y,ey⟩:∃y,x / s=y:=⟨_,rfl⟩
 have HDV:=qh (fun W=>jfp (w:=W) hx hs hk hm (by omega) (by omega) (show s≠0 by grind))
 rw [jfT h0]
 rw [ey] at hy HDV ⊢
 have hf:=jcn hy
 obtain ⟨n,en⟩:∃n,y.floor=n:=⟨_,rfl⟩
 have HFL:=qh (fun W=>jck (w:=W) hy (by omega) (by omega))
 rw [en] at hf HFL
 have HSU:=qh (fun W=>jca (w:=W) hy hf (by omega) (by omega) (by omega) (by omega))
 have hr:=(hy.sub hf)
 have hf1:=(hf.add jcS)
 have HAD:=qh (fun W=>jdP (w:=W) hf jcS (by omega) (by omega) (by omega) (by omega))
 have HM0:=qh (fun W=>jbg (w:=W) hf hs (by omega) hm (by omega) (by omega))
 have HM1:=qh (fun W=>jbg (w:=W) hf1 hs (by omega) hm (by omega) (by omega))
 obtain ⟨r,er⟩:∃r,y - ((n:Int):Rat)=r:=⟨_,rfl⟩
 rw [er] at hr HSU
 have HZ:=qh (fun W=>jgc (w:=W) (x:=r) rfl)
 obtain ⟨g,eg⟩:∃g,Rq.cmpQ r (1/2)=g:=⟨_,rfl⟩
 have HCM:=qh (fun W=>jcq (w:=W) eg hr jcK (by omega) (by omega) (by omega) (by omega))
 have HHA:=qh (fun W=>jku (w:=W) hf (by omega) (by omega))
 have hh:=(hf.mul jcK)
 have HWH:=qh (fun W=>je6 (w:=W) (jd8 n) (x:=((n:Int):Rat) / 2) (k:=61) (by rw [show ((n:Int):Rat) / 2=((n:Int):Rat)*(1/2) by grind];exact hh) (by omega) (by omega))
 have hnz:((n+1:Int):Rat)=((n:Int):Rat)+1:=jdN n
 unfold QP at HDV HFL HSU HAD HM0 HM1 HHA ⊢
 rw [jeh] at HCM
 rw [jgV] at HAD
 have e5:=jch r
 obtain ⟨o,eo⟩:∃o,decide (n % 2≠0)=o:=⟨_,rfl⟩
 rw [eo] at HWH
 obtain ⟨z,ez⟩:∃z,decide (r=0)=z:=⟨_,rfl⟩
 rw [ez] at HZ
 obtain ⟨hb,eb⟩:∃z,decide (r=1/2)=z:=⟨_,rfl⟩
 rw [eb] at e5
 obtain ⟨TX,tX⟩:∃t,tq x=t:=⟨_,rfl⟩
 obtain ⟨TS,tS⟩:∃t,tq s=t:=⟨_,rfl⟩
 obtain ⟨TY,tY⟩:∃t,tq y=t:=⟨_,rfl⟩
 obtain ⟨TF,tF⟩:∃t,tq ((n:Int):Rat)=t:=⟨_,rfl⟩
 obtain ⟨TR,tR⟩:∃t,tq r=t:=⟨_,rfl⟩
 obtain ⟨TG,tG⟩:∃t,tq (((n:Int):Rat)+1)=t:=⟨_,rfl⟩
 obtain ⟨TH,tH⟩:∃t,tq (((n:Int):Rat) / 2)=t:=⟨_,rfl⟩
 obtain ⟨R0,r0⟩:∃t,tq (((n:Int):Rat)*s)=t:=⟨_,rfl⟩
 obtain ⟨R1,r1⟩:∃t,tq ((((n:Int):Rat)+1)*s)=t:=⟨_,rfl⟩
 rw [tX,tS,tY] at HDV
 rw [tY,tF] at HFL
 rw [tY,tF,tR] at HSU
 rw [tF,tG] at HAD
 rw [tF,tS,r0] at HM0
 rw [tG,tS,r1] at HM1
 rw [tR] at HZ HCM e5
 rw [tF,tH] at HHA
 rw [tH] at HWH
 rw [tX,tS]
 have c0:jaF=[104,97,108,102,45,101,118,101,110]:=rfl
 rw [jl2,en,er,eg,eb,eo]
 by_cases q:0 < g
 ·have q1:decide (0 < g)=true:=decide_eq_true q
  rw [q1,Bool.true_or,if_pos rfl,hnz,r1,c0]
  clear c0 q
  clear hx hs h0 hk hm hk2 hm2 hy ey hf en hr hf1 er eg hh hnz eo ez eb tX tS tY tF tR tG tH r0 r1
  go_enter Tryz.func28,Tryz.ntmps28
  go_wp2_with (first|(go_at_call 47;(with_reducible refine mo1 w (HDV.out _) (by go_size) fun w1 hb1 hc1 hf1 z1_0 _=> ?_))|(go_at_call 44;(with_reducible refine mo1 w (HFL.out _) (by go_size) fun w2 hb2 hc2 hf2 z2_0 _=> ?_))|(go_at_call 21;(with_reducible refine mo1 w (HSU.out _) (by go_size) fun w3 hb3 hc3 hf3 z3_0 _=> ?_))|(go_at_call 46;(with_reducible refine mo1 w (HZ.out _) (by go_size) fun w4 hb4 hc4 hf4 z4_0 _=> ?_))|(go_at_call 22;(with_reducible refine mo1 w (HCM.out _) (by go_size) fun w5 hb5 hc5 hf5 z5_0 _=> ?_))|(go_at_call 88;(with_reducible refine mo1 w (HHA.out _) (by go_size) fun w6 hb6 hc6 hf6 z6_0 _=> ?_))|(go_at_call 87;(with_reducible refine mo1 w (HWH.out _) (by go_size) fun w7 hb7 hc7 hf7 z7_0 _=> ?_))|(go_at_call 45;(with_reducible refine mo1 w (HAD.out _) (by go_size) fun w8 hb8 hc8 hf8 z8_0 _=> ?_))|(go_at_call 20;(with_reducible show Calls _ _ #[bs TF,bs TS] _ _);(with_reducible refine mo1 w (HM0.out _) (by go_size) fun w9 hb9 hc9 hf9 z9_0 _=> ?_))|(go_at_call 20;(with_reducible show Calls _ _ #[bs TG,bs TS] _ _);(with_reducible refine mo1 w (HM1.out _) (by go_size) fun w10 hb10 hc10 hf10 z10_0 _=> ?_)))
  go_ret
  exact ⟨rfl,bi⟩
 ·have q1:decide (0 < g)=false:=decide_eq_false q
  rw [q1,Bool.false_or]
  cases hb
  ·rw [Bool.false_and,if_neg (by decide),Int.add_zero,r0,c0]
   clear c0 q
   clear hx hs h0 hk hm hk2 hm2 hy ey hf en hr hf1 er eg hh hnz eo ez eb tX tS tY tF tR tG tH r0 r1
   go_enter Tryz.func28,Tryz.ntmps28
   go_wp2_with (first|(go_at_call 47;(with_reducible refine mo1 w (HDV.out _) (by go_size) fun w1 hb1 hc1 hf1 z1_0 _=> ?_))|(go_at_call 44;(with_reducible refine mo1 w (HFL.out _) (by go_size) fun w2 hb2 hc2 hf2 z2_0 _=> ?_))|(go_at_call 21;(with_reducible refine mo1 w (HSU.out _) (by go_size) fun w3 hb3 hc3 hf3 z3_0 _=> ?_))|(go_at_call 46;(with_reducible refine mo1 w (HZ.out _) (by go_size) fun w4 hb4 hc4 hf4 z4_0 _=> ?_))|(go_at_call 22;(with_reducible refine mo1 w (HCM.out _) (by go_size) fun w5 hb5 hc5 hf5 z5_0 _=> ?_))|(go_at_call 88;(with_reducible refine mo1 w (HHA.out _) (by go_size) fun w6 hb6 hc6 hf6 z6_0 _=> ?_))|(go_at_call 87;(with_reducible refine mo1 w (HWH.out _) (by go_size) fun w7 hb7 hc7 hf7 z7_0 _=> ?_))|(go_at_call 45;(with_reducible refine mo1 w (HAD.out _) (by go_size) fun w8 hb8 hc8 hf8 z8_0 _=> ?_))|(go_at_call 20;(with_reducible show Calls _ _ #[bs TF,bs TS] _ _);(with_reducible refine mo1 w (HM0.out _) (by go_size) fun w9 hb9 hc9 hf9 z9_0 _=> ?_))|(go_at_call 20;(with_reducible show Calls _ _ #[bs TG,bs TS] _ _);(with_reducible refine mo1 w (HM1.out _) (by go_size) fun w10 hb10 hc10 hf10 z10_0 _=> ?_)))
   go_ret
   exact ⟨rfl,bi⟩
  ·cases o
   ·rw [Bool.and_false,if_neg (by decide),Int.add_zero,r0,c0]
    clear c0 q
    clear hx hs h0 hk hm hk2 hm2 hy ey hf en hr hf1 er eg hh hnz eo ez eb tX tS tY tF tR tG tH r0 r1
    go_enter Tryz.func28,Tryz.ntmps28
    go_wp2_with (first|(go_at_call 47;(with_reducible refine mo1 w (HDV.out _) (by go_size) fun w1 hb1 hc1 hf1 z1_0 _=> ?_))|(go_at_call 44;(with_reducible refine mo1 w (HFL.out _) (by go_size) fun w2 hb2 hc2 hf2 z2_0 _=> ?_))|(go_at_call 21;(with_reducible refine mo1 w (HSU.out _) (by go_size) fun w3 hb3 hc3 hf3 z3_0 _=> ?_))|(go_at_call 46;(with_reducible refine mo1 w (HZ.out _) (by go_size) fun w4 hb4 hc4 hf4 z4_0 _=> ?_))|(go_at_call 22;(with_reducible refine mo1 w (HCM.out _) (by go_size) fun w5 hb5 hc5 hf5 z5_0 _=> ?_))|(go_at_call 88;(with_reducible refine mo1 w (HHA.out _) (by go_size) fun w6 hb6 hc6 hf6 z6_0 _=> ?_))|(go_at_call 87;(with_reducible refine mo1 w (HWH.out _) (by go_size) fun w7 hb7 hc7 hf7 z7_0 _=> ?_))|(go_at_call 45;(with_reducible refine mo1 w (HAD.out _) (by go_size) fun w8 hb8 hc8 hf8 z8_0 _=> ?_))|(go_at_call 20;(with_reducible show Calls _ _ #[bs TF,bs TS] _ _);(with_reducible refine mo1 w (HM0.out _) (by go_size) fun w9 hb9 hc9 hf9 z9_0 _=> ?_))|(go_at_call 20;(with_reducible show Calls _ _ #[bs TG,bs TS] _ _);(with_reducible refine mo1 w (HM1.out _) (by go_size) fun w10 hb10 hc10 hf10 z10_0 _=> ?_)))
    go_ret
    exact ⟨rfl,bi⟩
   ·rw [Bool.and_true,if_pos rfl,hnz,r1,c0]
    clear c0 q
    clear hx hs h0 hk hm hk2 hm2 hy ey hf en hr hf1 er eg hh hnz eo ez eb tX tS tY tF tR tG tH r0 r1
    go_enter Tryz.func28,Tryz.ntmps28
    go_wp2_with (first|(go_at_call 47;(with_reducible refine mo1 w (HDV.out _) (by go_size) fun w1 hb1 hc1 hf1 z1_0 _=> ?_))|(go_at_call 44;(with_reducible refine mo1 w (HFL.out _) (by go_size) fun w2 hb2 hc2 hf2 z2_0 _=> ?_))|(go_at_call 21;(with_reducible refine mo1 w (HSU.out _) (by go_size) fun w3 hb3 hc3 hf3 z3_0 _=> ?_))|(go_at_call 46;(with_reducible refine mo1 w (HZ.out _) (by go_size) fun w4 hb4 hc4 hf4 z4_0 _=> ?_))|(go_at_call 22;(with_reducible refine mo1 w (HCM.out _) (by go_size) fun w5 hb5 hc5 hf5 z5_0 _=> ?_))|(go_at_call 88;(with_reducible refine mo1 w (HHA.out _) (by go_size) fun w6 hb6 hc6 hf6 z6_0 _=> ?_))|(go_at_call 87;(with_reducible refine mo1 w (HWH.out _) (by go_size) fun w7 hb7 hc7 hf7 z7_0 _=> ?_))|(go_at_call 45;(with_reducible refine mo1 w (HAD.out _) (by go_size) fun w8 hb8 hc8 hf8 z8_0 _=> ?_))|(go_at_call 20;(with_reducible show Calls _ _ #[bs TF,bs TS] _ _);(with_reducible refine mo1 w (HM0.out _) (by go_size) fun w9 hb9 hc9 hf9 z9_0 _=> ?_))|(go_at_call 20;(with_reducible show Calls _ _ #[bs TG,bs TS] _ _);(with_reducible refine mo1 w (HM1.out _) (by go_size) fun w10 hb10 hc10 hf10 z10_0 _=> ?_)))
    go_ret
    exact ⟨rfl,bi⟩
theorem jmv {l:List UInt8} (h:(jaC l).isSome=true):l=jdf∨l=kUp∨l=jb8∨l=jaF:=by
 unfold jaC at h
 by_cases h1:l=jdf
 ·exact .inl h1
 ·by_cases h2:l=kUp
  ·exact .inr (.inl h2)
  ·by_cases h3:l=jb8
   ·exact .inr (.inr (.inl h3))
   ·by_cases h4:l=jaF
    ·exact .inr (.inr (.inr h4))
    ·rw [if_neg h1,if_neg h2,if_neg h3,if_neg h4] at h;cases h
theorem jgk (hkd:(jaC kind).isSome=true) (hx:Dz k x) (hs:Dz m s) (h0:0 < s) (hk:0 < k) (hm:0 < m) (hk2:k≤30) (hm2:m≤30):Calls Tryz.prog 28 #[bs (tq x),rv kind (tq s)] w (QP (rnd kind x s) w):=by
 rcases jmv hkd with rfl|rfl|rfl|rfl
 ·exact jj2 hx hs h0 hk hm hk2 hm2
 ·exact jnU hx hs h0 hk hm hk2 hm2
 ·exact jlr hx hs h0 hk hm hk2 hm2
 ·exact jib hx hs h0 hk hm hk2 hm2
end

section
variable {w:World} {a b kind step:List UInt8} {x y s:Rat}
theorem jef {w:World} {a b:List UInt8} {k:Int} (hk:jab (a,b)=k) (hE:Env w) (hl:a.length < 4294967281) (hl':b.length < 4294967281):Calls Tryz.prog 34 #[sp a b] w fun e w'=>e= .returned (.int .i64 k)∧Below w.heap.size w w':=hk ▸ jcd hE hl hl'
theorem jkP {k:Int} (hE:Env w) (hl:a.length < 4294967281) (hl':b.length < 4294967281) (hk:jab (a,b)=k) (h0:k≠0):
  Calls Tryz.prog 24 #[sp a b,rv kind step] w fun e w'=>e= .returned (.tuple #[sp [] [], .int .i64 k])∧Below w.heap.size w w':=by
 have HE:=qh hE
 have HL:=qh hl
 have HL':=qh hl'
 have HK:=qh hk
 have q1:(k != 0)=true:=by rw [bne_iff_ne];exact h0
 clear hE hl hl' hk h0
 go_enter Tryz.func24,Tryz.ntmps24
 go_wp2_with (go_at_call 34;(with_reducible refine mo3 w (jef HK.out (HE.out.below bi) HL.out HL'.out) (by go_size) fun w1 hb1 hc1 hf1 z1_0 z1_1 z1_2 _=> ?_))
 exact bodyPost_ret (v:= .tuple #[sp [] [], .int .i64 k]) (by simp [results,Tryz.results24,go_sem,hc1,hf1,z1_2]) rfl ⟨rfl,bi⟩
theorem jkD {k:Int} (hE:Env w) (hl:a.length < 4294967281) (hl':b.length < 4294967281) (hs:step.length < 4294967281) (hc:jab (a,b)=0) (hk:jay kind step=k) (h0:k≠0):
  Calls Tryz.prog 24 #[sp a b,rv kind step] w fun e w'=>e= .returned (.tuple #[sp [] [], .int .i64 k])∧Below w.heap.size w w':=by
 have HE:=qh hE
 have HL:=qh hl
 have HL':=qh hl'
 have HSL:=qh hs
 have HC:=qh hc
 have HK:=qh hk
 have q1:(k != 0)=true:=by rw [bne_iff_ne];exact h0
 clear hE hl hl' hk h0 hs hc
 go_enter Tryz.func24,Tryz.ntmps24
 go_wp2_with (first|(go_at_call 34;(with_reducible refine mo3 w (jef HC.out (HE.out.below bi) HL.out HL'.out) (by go_size) fun w1 hb1 hc1 hf1 z1_0 z1_1 z1_2 _=> ?_))|(go_at_call 26;(with_reducible refine mo3 w (jbT HK.out (HE.out.below bi) HSL.out) (by go_size) fun w2 hb2 hc2 hf2 z2_0 z2_1 z2_2 _=> ?_)))
 exact bodyPost_ret (v:= .tuple #[sp [] [], .int .i64 k]) (by simp [results,Tryz.results24,go_sem,hc1,hf1,z1_2,hc2,hf2,z2_2]) rfl ⟨rfl,bi⟩
theorem jqd {lo hi:Rat} {tl th:List UInt8} {ke:Int} (hE:Env w) (hl:a.length < 4294967281) (hl':b.length < 4294967281) (hs:step.length < 4294967281) (hx:IsNum a x) (hy:IsNum b y) (hc:jab (a,b)=0)
  (hk:(jaC kind).isSome=true) (hst:IsNum step s) (h0:0 < s) (hlo:rnd kind x s=lo) (hhi:rnd kind y s=hi) (hS:StrQ lo) (hS':StrQ hi) (htl:jkk lo hi=tl) (hth:jjU lo hi=th) (hke:jkb lo hi=ke):
  Calls Tryz.prog 24 #[sp a b,rv kind step] w fun e w'=>e= .returned (.tuple #[sp tl th, .int .i64 ke])∧Below w.heap.size w w':=by
 have HE:=qh hE
 have HL:=qh hl
 have HL':=qh hl'
 have HSL:=qh hs
 have HC:=qh hc
 have HX:=qh hx
 have HY:=qh hy
 have HSX:=qh hx.sz
 have HSY:=qh hy.sz
 have HKD:=qh hk
 have HST:=qh hst
 have HNE:=qh (show s≠0 by grind)
 have HK:=qh (jem hk hst h0)
 have HLO:=qh hlo
 have HHI:=qh hhi
 have HS:=qh hS
 have HS':=qh hS'
 have HTL:=qh htl
 have HTH:=qh hth
 have HKE:=qh hke
 clear hE hl hl' hs hx hy hc hk hst h0 hlo hhi hS hS' htl hth hke
 go_enter Tryz.func24,Tryz.ntmps24
 go_upto_region 8 with (first|(go_at_call 34;(with_reducible refine mo3 w (jef HC.out (HE.out.below bi) HL.out HL'.out) (by go_size) fun w1 hb1 hc1 hf1 z1_0 z1_1 z1_2 _=> ?_))|(go_at_call 26;(with_reducible refine mo3 w (jbT HK.out (HE.out.below bi) HSL.out) (by go_size) fun w2 hb2 hc2 hf2 z2_0 z2_1 z2_2 _=> ?_))|(go_at_call 80;((with_reducible refine (jaf (HE.out.below bi) HX.out HY.out).mono ?_);rintro e3 w3 ⟨s3,A3,n3,c3,t3,B3,m3,d3,s4,A4,n4,c4,t4,B4,m4,d4,rfl,⟨hr3,hq3⟩,⟨hr4,hq4⟩,hb3⟩;have _:=bm hb3);obtain ⟨hc3,hf3,z3_0,z3_1,z3_2,_⟩:=bc3 w hb3 (by go_size)))
 refine ja3 (fun w'=>Below (w3.alloc (.cells #[.int .i64 s3, .slice A3 n3 c3, .int .i64 t3, .slice B3 m3 d3, .int .i64 s4, .slice A4 n4 c4, .int .i64 t4, .slice B4 m4 d4] 110)).heap.size (w3.alloc (.cells #[.int .i64 s3, .slice A3 n3 c3, .int .i64 t3, .slice B3 m3 d3, .int .i64 s4, .slice A4 n4 c4, .int .i64 t4, .slice B4 m4 d4] 110)) w') [11,12] (by kernel_rfl) ?_
 refine tb 0 (.pointer (some ⟨w3.heap.size,0,none⟩)) [1] rfl (by kernel_rfl) pk rfl (by intros;go_simp) bq0 ?_
 simp only [ppq]
 refine tb 1 (fv s3 A3 n3 c3 t3 B3 m3 d3) [3] rfl (by kernel_rfl) pk rfl (by intros;go_simp) bq0 ?_
 simp only [ppq]
 refine tb 2 (rv kind step) [3] rfl (by kernel_rfl) pk rfl (by intros;go_simp) bq0 ?_
 simp only [ppq]
 refine tb 4 (.pointer (some ⟨w3.heap.size,4,none⟩)) [5] rfl (by kernel_rfl) pk rfl (by intros;go_simp) bq0 ?_
 simp only [ppq]
 refine tb 5 (fv s4 A4 n4 c4 t4 B4 m4 d4) [7] rfl (by kernel_rfl) pk rfl (by intros;go_simp) bq0 ?_
 simp only [ppq]
 refine tb 6 (rv kind step) [7] rfl (by kernel_rfl) pk rfl (by intros;go_simp) bq0 ?_
 simp only [ppq]
 refine rd1 3 (by kernel_rfl) rfl (fun K hK=> ?_)
 go_simp
 go_wp2_with (go_at_call 78;(with_reducible refine mf3 w (jeR (p:=600) (HE.out.below bi) ⟨(by with_reducible repeat first|assumption|apply rZ|refine rP ?_ rfl (by simp [go_sem,hc3])),(by with_reducible repeat first|assumption|apply rZ|refine rP ?_ rfl (by simp [go_sem,hc3]))⟩ HSX.out (by omega) HST.out HNE.out HSL.out HKD.out HLO.out) (by go_size) fun w14 s14 A14 n14 c14 t14 B14 m14 d14 hr14 hq14 hb14 hc14 hf14 z14_0 z14_1 z14_2 _=> ?_))
 have sS14:=qh (bst bq0 hb14)
 refine hK.out _ _ (fun _=>sS14.out) ?_
 clear hK K
 refine rd1 7 (by kernel_rfl) rfl (fun K hK=> ?_)
 go_simp
 go_wp2_with (go_at_call 78;(with_reducible refine mf3 w (jeR (p:=600) (HE.out.below bi) ⟨(by with_reducible repeat first|assumption|apply rZ|refine rP ?_ rfl (by simp [go_sem,hc3])),(by with_reducible repeat first|assumption|apply rZ|refine rP ?_ rfl (by simp [go_sem,hc3]))⟩ HSY.out (by omega) HST.out HNE.out HSL.out HKD.out HHI.out) (by go_size) fun w15 s15 A15 n15 c15 t15 B15 m15 d15 hr15 hq15 hb15 hc15 hf15 z15_0 z15_1 z15_2 _=> ?_))
 have sS15:=qh (bst sS14.out hb15)
 refine hK.out _ _ (fun _=>sS15.out) ?_
 clear hK K
 refine rd1 8 (by kernel_rfl) rfl (fun K hK=> ?_)
 go_simp
 go_wp2_with (go_at_call 81;(with_reducible refine mo3 w (jc7 HTL.out HTH.out HKE.out (HE.out.below bi) ⟨(by with_reducible repeat first|assumption|apply rZ|refine rP ?_ rfl (by simp [go_sem,hc15])),(by with_reducible repeat first|assumption|apply rZ|refine rP ?_ rfl (by simp [go_sem,hc15]))⟩ ⟨hr15,hq15⟩ HS.out HS'.out) (by go_size) fun w16 hb16 hc16 hf16 z16_0 z16_1 z16_2 _=> ?_))
 have sS16:=qh (bst sS15.out hb16)
 refine hK.out _ _ (fun _=>sS16.out) ?_
 clear hK K
 refine tb 9 (sp tl th) [] rfl (by kernel_rfl) pk rfl (by intros;go_simp) sS16.out ?_
 simp only [ppq]
 refine tb 10 (.int .i64 ke) [] rfl (by kernel_rfl) pk rfl (by intros;go_simp) sS16.out ?_
 simp only [ppq]
 refine rd1 11 (by kernel_rfl) rfl (fun K hK=> ?_)
 go_simp
 refine hK.out _ _ (fun h=>(h (by decide)).elim) ?_
 clear hK K
 refine rd1 12 (by kernel_rfl) rfl (fun K hK=> ?_)
 go_simp
 refine hK.out _ _ (fun h=>(h (by decide)).elim) ?_
 clear hK K
 refine ja2 (by kernel_rfl) ?_ _
 go_wp2
 exact bodyPost_ret (v:= .tuple #[sp tl th, .int .i64 ke]) (by simp [results,Tryz.results24,go_sem,hc1,hc2,hc3,hc14,hc15,hc16,hf1,hf2,hf3,hf14,hf15,hf16,z1_2,z2_2,z3_2,z14_2,z15_2,z16_2,nl z3_2,nls z3_2]) rfl ⟨rfl,bi⟩
end

theorem jc2 {x y:Int}:fnz [x,y]=if x=0 then y else x:=by
 unfold fnz
 by_cases h:x=0
 ·rw [if_pos h,if_pos h];unfold fnz
  by_cases h2:y=0
  ·rw [if_pos h2,h2];rfl
  ·rw [if_neg h2]
 ·rw [if_neg h,if_neg h]
theorem jiT {a b:List UInt8} (h:chk a≠0):jab (a,b)=chk a:=by
 have e:ja7 chk [a,b]=chk a:=by unfold ja7;rw [if_neg h]
 unfold jab;rw [e,if_pos h]
theorem jpK {a b:List UInt8} (h:jab (a,b)=0):IsNum a (numQ a)∧IsNum b (numQ b):=by
 unfold jab at h
 by_cases h1:ja7 chk [a,b]=0
 ·obtain ⟨h2,h3⟩:=jft h1
  exact ⟨jaB h2,jaB h3⟩
 ·rw [if_pos h1] at h;exact absurd h h1
theorem jrw {x y:Rat} {k:Nat} (hx:Dz k x) (hy:Dz k y) (hk:0 < k) (hk2:k≤600):jkk x y=tq x∧jjU x y=tq y∧jkb x y=0:=by
 have h1:=(jat hx hk hk2).2.1
 have h2:=(jat hy hk hk2).2.1
 unfold jba at h1 h2
 have e1:jcz x=false:=by cases h:jcz x <;> simp_all
 have e2:jcz y=false:=by cases h:jcz y <;> simp_all
 unfold jkk jjU jkb
 rw [e1,e2];exact ⟨rfl,rfl,rfl⟩
section
variable {w:World} {a b kind step:List UInt8} {x y s:Rat} {k m:Int}
theorem jlO (hE:Env w) (hl:a.length < 4294967281) (hs:step.length < 4294967281) (hk:fnz [chk a,jay kind step]=k) (h0:k≠0):Calls Tryz.prog 23 #[bs a,rv kind step] w fun e w'=>e= .returned (.tuple #[bs [], .int .i64 k])∧Below w.heap.size w w':=by
 rw [jc2] at hk
 by_cases h:chk a=0
 ·rw [if_pos h] at hk;exact jkS hE hl hs h hk h0
 ·rw [if_neg h] at hk;exact jkO hE hl hk h0
theorem jhj (hE:Env w) (hl:a.length < 4294967281) (hl':b.length < 4294967281) (hs:step.length < 4294967281) (hk:fnz [jab (a,b),jay kind step]=k) (h0:k≠0):Calls Tryz.prog 24 #[sp a b,rv kind step] w fun e w'=>e= .returned (.tuple #[sp [] [], .int .i64 k])∧Below w.heap.size w w':=by
 rw [jc2] at hk
 by_cases h:jab (a,b)=0
 ·rw [if_pos h] at hk;exact jkD hE hl hl' hs h hk h0
 ·rw [if_neg h] at hk;exact jkP hE hl hl' hk h0
theorem joG (hE:Env w) (h:¬(a.length≤30∧b.length≤30∧step.length≤30∧kind.length≤30)):Calls Tryz.prog 5 #[sp a b,rv kind step] w fun e w'=>e= .returned (.bool true)∧Below w.heap.size w w':=by
 have HW:Hid (∀W,Below w.heap.size w W→Calls Tryz.prog 8 #[] W fun e w'=>e= .returned (.bool true)∧Below W.heap.size W w'):=qh (fun W hb=>jas (hE.below hb))
 clear hE
 obtain ⟨g1,q1⟩:∃g,decide ((30:Int) < (a.length:Int))=g:=⟨_,rfl⟩
 obtain ⟨g2,q2⟩:∃g,decide ((30:Int) < (b.length:Int))=g:=⟨_,rfl⟩
 obtain ⟨g3,q3⟩:∃g,decide ((30:Int) < (step.length:Int))=g:=⟨_,rfl⟩
 obtain ⟨g4,q4⟩:∃g,decide ((30:Int) < (kind.length:Int))=g:=⟨_,rfl⟩
 cases g1
 ·cases g2
  ·cases g3
   ·cases g4
    ·simp only [decide_eq_false_iff_not] at q1 q2 q3 q4
     exact absurd (show _ from ⟨by omega,by omega,by omega,by omega⟩) h
    ·clear h
     go_enter Tryz.func5,Tryz.ntmps5
     go_wp2_with (go_at_call 8;(with_reducible refine mo2 w (HW.out _ bi) (by go_size) fun w1 hb1 hc1 hf1 z1_0 z1_1 _=> ?_))
     go_ret
     exact ⟨rfl,bi⟩
   ·clear h q4
    go_enter Tryz.func5,Tryz.ntmps5
    go_wp2_with (go_at_call 8;(with_reducible refine mo2 w (HW.out _ bi) (by go_size) fun w1 hb1 hc1 hf1 z1_0 z1_1 _=> ?_))
    go_ret
    exact ⟨rfl,bi⟩
  ·clear h q3 q4
   go_enter Tryz.func5,Tryz.ntmps5
   go_wp2_with (go_at_call 8;(with_reducible refine mo2 w (HW.out _ bi) (by go_size) fun w1 hb1 hc1 hf1 z1_0 z1_1 _=> ?_))
   go_ret
   exact ⟨rfl,bi⟩
 ·clear h q2 q3 q4
  go_enter Tryz.func5,Tryz.ntmps5
  go_wp2_with (go_at_call 8;(with_reducible refine mo2 w (HW.out _ bi) (by go_size) fun w1 hb1 hc1 hf1 z1_0 z1_1 _=> ?_))
  go_ret
  exact ⟨rfl,bi⟩
set_option maxHeartbeats 16000000 in
theorem jm9 (hE:Env w) (h1:a.length≤30) (h2:b.length≤30) (h3:step.length≤30) (h4:kind.length≤30) (hk:fnz [chk a,jay kind step]=k) (h0:k≠0) (hm:fnz [jab (a,b),jay kind step]=m) (hm0:m≠0):Calls Tryz.prog 5 #[sp a b,rv kind step] w fun e w'=>e= .returned (.bool true)∧Below w.heap.size w w':=by
 have HRD:=qh (fun W (hb:Below w.heap.size w W)=>jlO (hE.below hb) (by omega) (by omega) hk h0)
 have HRS:=qh (fun W (hb:Below w.heap.size w W)=>jhj (hE.below hb) (by omega) (by omega) (by omega) hm hm0)
 have HW:Hid (∀W,Below w.heap.size w W→Calls Tryz.prog 8 #[] W fun e w'=>e= .returned (.bool true)∧Below W.heap.size W w'):=qh (fun W hb=>jas (hE.below hb))
 have q1:decide ((30:Int) < (a.length:Int))=false:=by rw [decide_eq_false_iff_not];omega
 have q2:decide ((30:Int) < (b.length:Int))=false:=by rw [decide_eq_false_iff_not];omega
 have q3:decide ((30:Int) < (step.length:Int))=false:=by rw [decide_eq_false_iff_not];omega
 have q4:decide ((30:Int) < (kind.length:Int))=false:=by rw [decide_eq_false_iff_not];omega
 obtain ⟨kA,hkA⟩:∃k,chk a=k:=⟨_,rfl⟩
 obtain ⟨kW,hkW⟩:∃k,jay kind step=k:=⟨_,rfl⟩
 obtain ⟨kS,hkS⟩:∃k,jab (a,b)=k:=⟨_,rfl⟩
 have HRR:=qh (fun W=>jfc (w:=W) hkW (by omega))
 have HPR:=qh (fun W (hb:Below w.heap.size w W)=>jbT hkW (hE.below hb) (by omega))
 have HCA:=qh (fun W=>jaH (w:=W) hkA (by omega))
 have HCS:=qh (fun W=>jbp (w:=W) (show a.length≤9000 by omega) (show b.length≤9000 by omega) hkS)
 have HF1:=qh (fun W T c=>jcr W T c kA kW k (by rw [←hkA,←hkW];exact hk))
 have HF2:=qh (fun W T c=>jcr W T c kS kW m (by rw [←hkS,←hkW];exact hm))
 have HNU:=qh (fun W=>jbn (w:=W) (b:=[]) h0)
 have HSB:=qh (fun W=>jhb (w:=W) (a:=[]) (b:=[]) hm0)
 have q5:(k==0)=false:=by rw [beq_eq_false_iff_ne];exact h0
 have q6:(m != 0)=true:=by rw [bne_iff_ne];exact hm0
 clear hE h1 h2 h3 h4 hk h0 hm hm0 hkA hkW hkS
 go_enter Tryz.func5,Tryz.ntmps5
 go_wp2_with (first|(go_at_call 8;(with_reducible refine mo2 w (HW.out _ bi) (by go_size) fun w1 hb1 hc1 hf1 z1_0 z1_1 _=> ?_))|(go_at_call 23;(with_reducible refine mo2 w (HRD.out _ bi) (by go_size) fun w2 hb2 hc2 hf2 z2_0 z2_1 _=> ?_))|(go_at_call 24;(with_reducible refine mo2 w (HRS.out _ bi) (by go_size) fun w3 hb3 hc3 hf3 z3_0 z3_1 _=> ?_))|((go_at_call 25;(with_reducible refine mo2 w (HRR.out _) (by go_size) fun w4 hb4 hc4 hf4 z4_0 z4_1 _=> ?_));(first|have y4_0:=szl (k:=w3.heap.size) hb4 (by first|go_size|fail)|have y4_0:=Nat.one_pos))|((go_at_call 26;(with_reducible refine mo2 w (HPR.out _ bi) (by go_size) fun w5 hb5 hc5 hf5 z5_0 z5_1 _=> ?_));(first|have y5_0:=szl (k:=w3.heap.size) hb5 (by first|go_size|fail)|have y5_0:=Nat.one_pos))|((go_at_call 27;(with_reducible refine mo2 w (HCA.out _) (by go_size) fun w6 hb6 hc6 hf6 z6_0 z6_1 _=> ?_));(first|have y6_0:=szl (k:=w3.heap.size) hb6 (by first|go_size|fail)|have y6_0:=Nat.one_pos))|((go_at_call 11;(with_reducible refine mo2 w (HF1.out _ _ _) (by go_size) fun w7 hb7 hc7 hf7 z7_0 z7_1 _=> ?_));(first|have y7_0:=szl (k:=w3.heap.size) hb7 (by first|go_size|fail)|have y7_0:=Nat.one_pos))|((go_at_call 14;(with_reducible refine mo2 w (HNU.out _) (by go_size) fun w8 hb8 hc8 hf8 z8_0 z8_1 _=> ?_));(first|have y8_0:=szl (k:=w3.heap.size) hb8 (by first|go_size|fail)|have y8_0:=Nat.one_pos))|((go_at_call 29;(with_reducible refine mo2 w (HCS.out _) (by go_size) fun w9 hb9 hc9 hf9 z9_0 z9_1 _=> ?_));(first|have y9_0:=szl (k:=w3.heap.size) hb9 (by first|go_size|fail)|have y9_0:=Nat.one_pos))|((go_at_call 11;(with_reducible refine mo2 w (HF2.out _ _ _) (by go_size) fun w10 hb10 hc10 hf10 z10_0 z10_1 _=> ?_));(first|have y10_0:=szl (k:=w3.heap.size) hb10 (by first|go_size|fail)|have y10_0:=Nat.one_pos))|((go_at_call 30;(with_reducible refine mo2 w (HSB.out _) (by go_size) fun w11 hb11 hc11 hf11 z11_0 z11_1 _=> ?_))))
 go_ret
 exact ⟨rfl,bi⟩
set_option maxHeartbeats 16000000 in
theorem joY (hE:Env w) (h1:a.length≤30) (h2:b.length≤30) (h3:step.length≤30) (h4:kind.length≤30) (hx:IsNum a x) (hst:IsNum step s) (hA:chk a=0) (hW0:jay kind step=0) (hm:jab (a,b)=m) (hm0:m≠0):Calls Tryz.prog 5 #[sp a b,rv kind step] w fun e w'=>e= .returned (.bool true)∧Below w.heap.size w w':=by
 have hm2:fnz [jab (a,b),jay kind step]=m:=by rw [jc2,if_neg (hm ▸ hm0)];exact hm
 have HRS:=qh (fun W (hb:Below w.heap.size w W)=>jhj (hE.below hb) (by omega) (by omega) (by omega) hm2 hm0)
 have HW:Hid (∀W,Below w.heap.size w W→Calls Tryz.prog 8 #[] W fun e w'=>e= .returned (.bool true)∧Below W.heap.size W w'):=qh (fun W hb=>jas (hE.below hb))
 have q1:decide ((30:Int) < (a.length:Int))=false:=by rw [decide_eq_false_iff_not];omega
 have q2:decide ((30:Int) < (b.length:Int))=false:=by rw [decide_eq_false_iff_not];omega
 have q3:decide ((30:Int) < (step.length:Int))=false:=by rw [decide_eq_false_iff_not];omega
 have q4:decide ((30:Int) < (kind.length:Int))=false:=by rw [decide_eq_false_iff_not];omega
 obtain ⟨kA,hkA⟩:∃k,chk a=k:=⟨_,rfl⟩
 obtain ⟨kW,hkW⟩:∃k,jay kind step=k:=⟨_,rfl⟩
 obtain ⟨kS,hkS⟩:∃k,jab (a,b)=k:=⟨_,rfl⟩
 have HRR:=qh (fun W=>jfc (w:=W) hkW (by omega))
 have HPR:=qh (fun W (hb:Below w.heap.size w W)=>jbT hkW (hE.below hb) (by omega))
 have HCA:=qh (fun W=>jaH (w:=W) hkA (by omega))
 have HCS:=qh (fun W=>jbp (w:=W) (show a.length≤9000 by omega) (show b.length≤9000 by omega) hkS)
 have HF2:=qh (fun W T c=>jcr W T c kS kW m (by rw [←hkS,←hkW];exact hm2))
 have HSB:=qh (fun W=>jhb (w:=W) (a:=[]) (b:=[]) hm0)
 have q6:(m != 0)=true:=by rw [bne_iff_ne];exact hm0
 have HF1:=qh (fun W T c=>jcr W T c kA kW 0 (by rw [←hkA,←hkW,jc2,hA,if_pos rfl];exact hW0))
 obtain ⟨hkd,hst0,hs0⟩:=jei hW0
 rw [hst.numQ] at hst0 hs0
 have dx:=hx.dzl h1 (by omega)
 have ds:=hst.dzl h3 (by omega)
 obtain ⟨P,hP⟩:∃z,rnd kind x s=z:=⟨_,rfl⟩
 have dP:Dz 61 P:=hP ▸ jn3 hs0 dx ds
 obtain ⟨gP,eP,iP⟩:=jat dP (by omega) (by omega)
 have HRD:=qh (fun W (hb:Below w.heap.size w W)=>jew (hE.below hb) (by omega) (by omega) hx hkd hst hs0 hP (dP.strQ (by omega)) gP eP)
 have HNU:=qh (fun W=>jaE (w:=W) dP (by omega) (by omega))
 have HRQ:=qh (fun W=>jgk (w:=W) hkd dx ds hs0 (by omega) (by omega) (by omega) (by omega))
 unfold QP at HRQ
 rw [hP,←hx.eq,←hst.eq] at HRQ
 obtain ⟨TP,hTP⟩:∃t,tq P=t:=⟨_,rfl⟩
 rw [hTP] at HRD HNU HRQ
 clear hE h1 h2 h3 h4 hx hst hA hW0 hm hm0 hm2 hkA hkW hkS hkd hst0 hs0 dx ds hP dP gP eP iP hTP
 go_enter Tryz.func5,Tryz.ntmps5
 go_wp2_with (first|(go_at_call 8;(with_reducible refine mo2 w (HW.out _ bi) (by go_size) fun w1 hb1 hc1 hf1 z1_0 z1_1 _=> ?_))|(go_at_call 23;(with_reducible refine mo2 w (HRD.out _ bi) (by go_size) fun w2 hb2 hc2 hf2 z2_0 z2_1 _=> ?_))|(go_at_call 24;(with_reducible refine mo2 w (HRS.out _ bi) (by go_size) fun w3 hb3 hc3 hf3 z3_0 z3_1 _=> ?_))|((go_at_call 25;(with_reducible refine mo2 w (HRR.out _) (by go_size) fun w4 hb4 hc4 hf4 z4_0 z4_1 _=> ?_));(first|have y4_0:=szl (k:=w3.heap.size) hb4 (by first|go_size|fail)|have y4_0:=Nat.one_pos))|((go_at_call 26;(with_reducible refine mo2 w (HPR.out _ bi) (by go_size) fun w5 hb5 hc5 hf5 z5_0 z5_1 _=> ?_));(first|have y5_0:=szl (k:=w3.heap.size) hb5 (by first|go_size|fail)|have y5_0:=Nat.one_pos))|((go_at_call 27;(with_reducible refine mo2 w (HCA.out _) (by go_size) fun w6 hb6 hc6 hf6 z6_0 z6_1 _=> ?_));(first|have y6_0:=szl (k:=w3.heap.size) hb6 (by first|go_size|fail)|have y6_0:=Nat.one_pos))|((go_at_call 11;(with_reducible refine mo2 w (HF1.out _ _ _) (by go_size) fun w7 hb7 hc7 hf7 z7_0 z7_1 _=> ?_));(first|have y7_0:=szl (k:=w3.heap.size) hb7 (by first|go_size|fail)|have y7_0:=Nat.one_pos))|((go_at_call 14;(with_reducible refine mo2 w (HNU.out _) (by go_size) fun w8 hb8 hc8 hf8 z8_0 z8_1 _=> ?_));(first|have y8_0:=szl (k:=w3.heap.size) hb8 (by first|go_size|fail)|have y8_0:=Nat.one_pos))|((go_at_call 29;(with_reducible refine mo2 w (HCS.out _) (by go_size) fun w9 hb9 hc9 hf9 z9_0 z9_1 _=> ?_));(first|have y9_0:=szl (k:=w3.heap.size) hb9 (by first|go_size|fail)|have y9_0:=Nat.one_pos))|((go_at_call 11;(with_reducible refine mo2 w (HF2.out _ _ _) (by go_size) fun w10 hb10 hc10 hf10 z10_0 z10_1 _=> ?_));(first|have y10_0:=szl (k:=w3.heap.size) hb10 (by first|go_size|fail)|have y10_0:=Nat.one_pos))|((go_at_call 28;(with_reducible refine mo2 w (HRQ.out _) (by go_size) fun w12 hb12 hc12 hf12 z12_0 z12_1 _=> ?_));(first|have y12_0:=szl (k:=w3.heap.size) hb12 (by first|go_size|fail)|have y12_0:=Nat.one_pos))|((go_at_call 30;(with_reducible refine mo2 w (HSB.out _) (by go_size) fun w11 hb11 hc11 hf11 z11_0 z11_1 _=> ?_))))
 go_ret
 exact ⟨rfl,bi⟩
set_option maxHeartbeats 16000000 in
theorem jt6 (hE:Env w) (h1:a.length≤30) (h2:b.length≤30) (h3:step.length≤30) (h4:kind.length≤30) (hx:IsNum a x) (hy:IsNum b y) (hst:IsNum step s) (hA:chk a=0) (hW0:jay kind step=0) (hm:jab (a,b)=0):Calls Tryz.prog 5 #[sp a b,rv kind step] w fun e w'=>e= .returned (.bool true)∧Below w.heap.size w w':=by
 have HW:Hid (∀W,Below w.heap.size w W→Calls Tryz.prog 8 #[] W fun e w'=>e= .returned (.bool true)∧Below W.heap.size W w'):=qh (fun W hb=>jas (hE.below hb))
 have q1:decide ((30:Int) < (a.length:Int))=false:=by rw [decide_eq_false_iff_not];omega
 have q2:decide ((30:Int) < (b.length:Int))=false:=by rw [decide_eq_false_iff_not];omega
 have q3:decide ((30:Int) < (step.length:Int))=false:=by rw [decide_eq_false_iff_not];omega
 have q4:decide ((30:Int) < (kind.length:Int))=false:=by rw [decide_eq_false_iff_not];omega
 obtain ⟨kA,hkA⟩:∃k,chk a=k:=⟨_,rfl⟩
 obtain ⟨kW,hkW⟩:∃k,jay kind step=k:=⟨_,rfl⟩
 obtain ⟨kS,hkS⟩:∃k,jab (a,b)=k:=⟨_,rfl⟩
 have HRR:=qh (fun W=>jfc (w:=W) hkW (by omega))
 have HPR:=qh (fun W (hb:Below w.heap.size w W)=>jbT hkW (hE.below hb) (by omega))
 have HCA:=qh (fun W=>jaH (w:=W) hkA (by omega))
 have HCS:=qh (fun W=>jbp (w:=W) (show a.length≤9000 by omega) (show b.length≤9000 by omega) hkS)
 have HF2:=qh (fun W T c=>jcr W T c kS kW 0 (by rw [←hkS,←hkW,jc2,hm,if_pos rfl];exact hW0))
 have HF1:=qh (fun W T c=>jcr W T c kA kW 0 (by rw [←hkA,←hkW,jc2,hA,if_pos rfl];exact hW0))
 obtain ⟨hkd,hst0,hs0⟩:=jei hW0
 rw [hst.numQ] at hst0 hs0
 have dx:=hx.dzl h1 (by omega)
 have ds:=hst.dzl h3 (by omega)
 obtain ⟨P,hP⟩:∃z,rnd kind x s=z:=⟨_,rfl⟩
 have dP:Dz 61 P:=hP ▸ jn3 hs0 dx ds
 obtain ⟨gP,eP,iP⟩:=jat dP (by omega) (by omega)
 have HRD:=qh (fun W (hb:Below w.heap.size w W)=>jew (hE.below hb) (by omega) (by omega) hx hkd hst hs0 hP (dP.strQ (by omega)) gP eP)
 have HNU:=qh (fun W=>jaE (w:=W) dP (by omega) (by omega))
 have HRQ:=qh (fun W=>jgk (w:=W) hkd dx ds hs0 (by omega) (by omega) (by omega) (by omega))
 unfold QP at HRQ
 rw [hP,←hx.eq,←hst.eq] at HRQ
 obtain ⟨TP,hTP⟩:∃t,tq P=t:=⟨_,rfl⟩
 have dy:=hy.dzl h2 (by omega)
 obtain ⟨Q,hQ⟩:∃z,rnd kind y s=z:=⟨_,rfl⟩
 have dQ:Dz 61 Q:=hQ ▸ jn3 hs0 dy ds
 obtain ⟨t1,t2,t3⟩:=jrw dP dQ (by omega) (by omega)
 have HRS:=qh (fun W (hb:Below w.heap.size w W)=>jqd (hE.below hb) (by omega) (by omega) (by omega) hx hy hm hkd hst hs0 hP hQ (dP.strQ (by omega)) (dQ.strQ (by omega)) t1 t2 t3)
 have HRB:=qh (fun W=>jgk (w:=W) hkd dy ds hs0 (by omega) (by omega) (by omega) (by omega))
 have HSR:=qh (fun W=>jdb (w:=W) (dP.mono (show 61≤600 by omega)) (dQ.mono (by omega)))
 unfold QP at HRB
 rw [hQ,←hy.eq,←hst.eq] at HRB
 obtain ⟨TQ,hTQ⟩:∃t,tq Q=t:=⟨_,rfl⟩
 rw [hTP] at HRD HNU HRQ HRS HSR
 rw [hTQ] at HRB HRS HSR
 clear hE h1 h2 h3 h4 hx hy hst hA hW0 hm hkA hkW hkS hkd hst0 hs0 dx dy ds hP hQ dP dQ gP eP iP t1 t2 t3 hTP hTQ
 go_enter Tryz.func5,Tryz.ntmps5
 go_upto_region 17 with (first|(go_at_call 8;(with_reducible refine mo2 w (HW.out _ bi) (by go_size) fun w1 hb1 hc1 hf1 z1_0 z1_1 _=> ?_))|(go_at_call 23;(with_reducible refine mo2 w (HRD.out _ bi) (by go_size) fun w2 hb2 hc2 hf2 z2_0 z2_1 _=> ?_))|(go_at_call 24;(with_reducible refine mo2 w (HRS.out _ bi) (by go_size) fun w3 hb3 hc3 hf3 z3_0 z3_1 _=> ?_))|((go_at_call 25;(with_reducible refine mo2 w (HRR.out _) (by go_size) fun w4 hb4 hc4 hf4 z4_0 z4_1 _=> ?_));(first|have y4_0:=szl (k:=w3.heap.size) hb4 (by first|go_size|fail)|have y4_0:=Nat.one_pos))|((go_at_call 26;(with_reducible refine mo2 w (HPR.out _ bi) (by go_size) fun w5 hb5 hc5 hf5 z5_0 z5_1 _=> ?_));(first|have y5_0:=szl (k:=w3.heap.size) hb5 (by first|go_size|fail)|have y5_0:=Nat.one_pos))|((go_at_call 27;(with_reducible refine mo2 w (HCA.out _) (by go_size) fun w6 hb6 hc6 hf6 z6_0 z6_1 _=> ?_));(first|have y6_0:=szl (k:=w3.heap.size) hb6 (by first|go_size|fail)|have y6_0:=Nat.one_pos))|((go_at_call 11;(with_reducible refine mo2 w (HF1.out _ _ _) (by go_size) fun w7 hb7 hc7 hf7 z7_0 z7_1 _=> ?_));(first|have y7_0:=szl (k:=w3.heap.size) hb7 (by first|go_size|fail)|have y7_0:=Nat.one_pos))|((go_at_call 14;(with_reducible refine mo2 w (HNU.out _) (by go_size) fun w8 hb8 hc8 hf8 z8_0 z8_1 _=> ?_));(first|have y8_0:=szl (k:=w3.heap.size) hb8 (by first|go_size|fail)|have y8_0:=Nat.one_pos))|((go_at_call 29;(with_reducible refine mo2 w (HCS.out _) (by go_size) fun w9 hb9 hc9 hf9 z9_0 z9_1 _=> ?_));(first|have y9_0:=szl (k:=w3.heap.size) hb9 (by first|go_size|fail)|have y9_0:=Nat.one_pos))|((go_at_call 11;(with_reducible refine mo2 w (HF2.out _ _ _) (by go_size) fun w10 hb10 hc10 hf10 z10_0 z10_1 _=> ?_));(first|have y10_0:=szl (k:=w3.heap.size) hb10 (by first|go_size|fail)|have y10_0:=Nat.one_pos))|((go_at_call 28;(with_reducible refine mo2 w (HRQ.out _) (by go_size) fun w12 hb12 hc12 hf12 z12_0 z12_1 _=> ?_));(first|have y12_0:=szl (k:=w3.heap.size) hb12 (by first|go_size|fail)|have y12_0:=Nat.one_pos)))
 refine ja3 (fun w'=>Below w10.heap.size w10 w') [] (by kernel_rfl) ?_
 refine tb 0 (sp TP TQ) [] rfl (by kernel_rfl) pk rfl (by intros;go_simp) bq0 ?_
 simp only [ppq]
 refine tb 1 (.int .i64 0) [] rfl (by kernel_rfl) pk rfl (by intros;go_simp) bq0 ?_
 simp only [ppq]
 refine tb 2 (bs TP) [] rfl (by kernel_rfl) pk rfl (by intros;go_simp) bq0 ?_
 simp only [ppq]
 refine tb 3 (.pointer (some ⟨w.heap.size,1,none⟩)) [4] rfl (by kernel_rfl) pk rfl (by intros;go_simp) bq0 ?_
 simp only [ppq]
 refine tb 4 (bs b) [] rfl (by kernel_rfl) pk rfl (by intros;go_simp) bq0 ?_
 simp only [ppq]
 refine tb 5 (rv kind step) [] rfl (by kernel_rfl) pk rfl (by intros;go_simp) bq0 ?_
 simp only [ppq]
 refine rd1 6 (by kernel_rfl) rfl (fun K hK=> ?_)
 go_simp
 go_wp2_with (go_at_call 28;(with_reducible refine mo2 w (HRB.out _) (by go_size) fun w13 hb13 hc13 hf13 z13_0 z13_1 _=> ?_))
 have sS13:=qh (bst bq0 hb13)
 refine hK.out _ _ (fun _=>sS13.out) ?_
 clear hK K
 refine rd1 7 (by kernel_rfl) rfl (fun K hK=> ?_)
 go_simp
 refine hK.out _ _ (fun _=>bi) ?_
 clear hK K
 refine rd1 8 (by kernel_rfl) rfl (fun K hK=> ?_)
 go_simp
 go_wp2_with (go_at_call 30;(with_reducible refine mo2 w (HSR.out _) (by go_size) fun w14 hb14 hc14 hf14 z14_0 z14_1 _=> ?_))
 have sS14:=qh (bst sS13.out hb14)
 refine hK.out _ _ (fun _=>sS14.out) ?_
 clear hK K
 refine rd1 9 (by kernel_rfl) rfl (fun K hK=> ?_)
 go_simp
 refine hK.out _ _ (fun _=>bi) ?_
 clear hK K
 refine ja2 (by kernel_rfl) ?_ _
 go_wp2
 go_ret
 exact ⟨rfl,bi⟩
theorem jp0 (hE:Env w):Calls Tryz.prog 5 #[sp a b,rv kind step] w fun e w'=>e= .returned (.bool true)∧Below w.heap.size w w':=by
 by_cases hl:a.length≤30∧b.length≤30∧step.length≤30∧kind.length≤30
 ·obtain ⟨h1,h2,h3,h4⟩:=hl
  by_cases hA:chk a=0
  ·by_cases hW0:jay kind step=0
   ·have hst:=(jei hW0).2.1
    by_cases hm:jab (a,b)=0
    ·obtain ⟨hx,hy⟩:=jpK hm
     exact jt6 hE h1 h2 h3 h4 hx hy hst hA hW0 hm
    ·exact joY hE h1 h2 h3 h4 (jaB hA) hst hA hW0 rfl hm
   ·have e1:fnz [chk a,jay kind step]≠0:=by rw [jc2,if_pos hA];exact hW0
    have e2:fnz [jab (a,b),jay kind step]≠0:=by
     rw [jc2];split
     ·exact hW0
     ·assumption
    exact jm9 hE h1 h2 h3 h4 rfl e1 rfl e2
  ·have e1:fnz [chk a,jay kind step]≠0:=by rw [jc2,if_neg hA];exact hA
   have e2:fnz [jab (a,b),jay kind step]≠0:=by
    have e:=jiT (b:=b) hA
    rw [jc2,e,if_neg hA];exact hA
   exact jm9 hE h1 h2 h3 h4 rfl e1 rfl e2
 ·exact joG hE hl
end
end Go.Proofs.YtfoolepjkhgckaaGreatDoor
