/- Parts. -/
import Derived.Test.YtmaldbpmnneaaaaGreatDoorMiG
set_option linter.all false
set_option maxRecDepth 100000
set_option maxHeartbeats 8000000
namespace Go.Proofs.YtmaldbpmnneaaaaGreatDoor
open Go Go.RowKit

theorem jio:Rat.divInt 1 2=(1/2:Rat):=by rw [Rat.divInt_eq_div];rfl
theorem joD:(1/2:Rat).num=1:=by rw [←jio];rfl
theorem jmX:(1/2:Rat).den=2:=by rw [←jio];rfl
theorem jpp:Sz 1 (1/2:Rat):=⟨by rw [joD,Nat.pow_one,ja7];decide,by rw [jmX,Nat.pow_one,ja7];decide⟩
theorem jnJ {l:List UInt8} {x s y r z:Rat} {n:Int} (hy:x / s=y) (hn:y.floor=n) (hr:y - ((n:Int):Rat)=r) (hz:rnd l x s=z) (h:r=0):x=z:=by
 subst hy hn hr
 rw [←hz];unfold rnd;rw [if_pos h]
theorem jnW {l:List UInt8} {x s y r z:Rat} {n half so:Int} (hy:x / s=y) (hn:y.floor=n) (hr:y - ((n:Int):Rat)=r) (hz:rnd l x s=z) (h:r≠0) (hh:Rq.cmpQ r (1/2)=half) (ho:sgn (n % 2)=so):
  ((n+(if upK l half (so != 0) then 1 else 0):Int):Rat)*s=z:=by
 subst hy hn hr hh ho
 rw [←hz];unfold rnd;rw [if_neg h]
 have e:(sgn ((x / s).floor % 2) != 0)=decide ((x / s).floor % 2≠0):=by
  rw [Bool.eq_iff_iff]
  simp only [bne_iff_ne,decide_eq_true_eq,ne_eq]
  have:sgn ((x / s).floor % 2)=0↔(x / s).floor % 2=0:=by unfold sgn;split <;> (try split) <;> omega
  rw [this]
 rw [e]
theorem joe {r:Rat}:sgn r.num=0↔r=0:=by
 have h:r=0↔r.num=0:=Rat.num_eq_zero.symm
 rw [h];unfold sgn;split
 ·omega
 ·split <;> omega
section
variable {w:World} {sx tx:Int} {Ax Bx:Option Addr} {nx cx mx dx p g:Nat} {x s y:Rat} {kind step:List UInt8}
theorem jl5 {z:Rat} (hE:Env w) (h:RepF w sx Ax nx cx tx Bx mx dx x) (hs:Sz p x) (hp:p≤20000) (hst:IsNum step s) (hs0:s≠0) (hl:step.length < 4294967281) (hk:(jaM kind).isSome=true) (hz:rnd kind x s=z):
  Calls Tryz.prog 55 #[fv sx Ax nx cx tx Bx mx dx,rv kind step] w (jac z w):=by
 obtain ⟨g,hg1,hg2⟩:=jd8 hk
 have HG:=qh hg1
 have HV:=qh hg2
 have HE:=qh hE
 have HX:=qh h
 have HS:=qh hs
 have HP:=qh hp
 have HST:=qh hst
 have HS0:=qh hs0
 have HL:=qh hl
 have HSS:=qh hst.sz
 have HZ:=qh hz
 obtain ⟨y,hy⟩:∃y,x / s=y:=⟨_,rfl⟩
 have HY:=qh hy
 have HSY:Hid (Sz (p+600) y):=qh (hy ▸ hs.div hst.sz hs0)
 clear hg1 hg2 hE h hs hp hst hs0 hl hz hk hy
 go_enter Tryz.func55,Tryz.ntmps55
 go_upto_region 3 with (first
  | (go_at_call 56;(with_reducible refine mf3 w (jat HST.out (HE.out.below (bq (by with_reducible repeat' first|assumption|constructor|go_size)))) (by go_size) fun w1 s1 A1 n1 c1 t1 B1 m1 d1 hr1 hq1 hb1 hc1 hf1 z1_0 z1_1 z1_2 _=> ?_))
  | (go_at_call 69;(with_reducible refine mf3 w (jbU p 600 HY.out (HX.out.below (bq (by with_reducible repeat' first|assumption|constructor|go_size))) ⟨(by with_reducible repeat first|assumption|apply rZ|refine rP ?_ rfl (by simp [go_sem,hc1])),(by with_reducible repeat first|assumption|apply rZ|refine rP ?_ rfl (by simp [go_sem,hc1]))⟩ HS.out HSS.out (by have:=HP.out;omega) HS0.out) (by go_size) fun w2 s2 A2 n2 c2 t2 B2 m2 d2 hr2 hq2 hb2 hc2 hf2 z2_0 z2_1 z2_2 _=> ?_))
  | (go_at_call 100;(with_reducible refine mi3 w (jkm ⟨hr2,hq2⟩ HSY.out (by have:=HP.out;omega)) (by go_size) fun w3 s3 A3 n3 c3 hr3 hb3 hc3 hf3 z3_0 z3_1 z3_2 _=> ?_)))
 have hx2:w1.heap.size < w2.heap.size:=(by have:=hb2.size;(try simp at this);omega)
 have hx2:w1.heap.size < w2.heap.size:=hx2
 have hx3:w1.heap.size < w3.heap.size:=(by have:=hb3.size;(try simp at this);omega)
 obtain ⟨W,hWW⟩:∃x,w3.alloc (.cells #[.int .i64 s3, .slice A3 n3 c3] 74)=x:=⟨_,rfl⟩
 have cW_0:W.cell? ⟨w.heap.size,0,none⟩=some (.int .i64 sx):=(by rw [←hWW];simp [go_sem,hc3,z3_0,z3_1,z3_2,hx3,hc2,z2_0,z2_1,z2_2,hx2,hc1,z1_0,z1_1,z1_2])
 have cW_1:W.cell? ⟨w.heap.size,1,none⟩=some (.slice Ax nx cx):=(by rw [←hWW];simp [go_sem,hc3,z3_0,z3_1,z3_2,hx3,hc2,z2_0,z2_1,z2_2,hx2,hc1,z1_0,z1_1,z1_2])
 have cW_2:W.cell? ⟨w.heap.size,2,none⟩=some (.int .i64 tx):=(by rw [←hWW];simp [go_sem,hc3,z3_0,z3_1,z3_2,hx3,hc2,z2_0,z2_1,z2_2,hx2,hc1,z1_0,z1_1,z1_2])
 have cW_3:W.cell? ⟨w.heap.size,3,none⟩=some (.slice Bx mx dx):=(by rw [←hWW];simp [go_sem,hc3,z3_0,z3_1,z3_2,hx3,hc2,z2_0,z2_1,z2_2,hx2,hc1,z1_0,z1_1,z1_2])
 have cW_4:W.cell? ⟨w.heap.size+1,0,none⟩=some (bs kind):=(by rw [←hWW];simp [go_sem,hc3,z3_0,z3_1,z3_2,hx3,hc2,z2_0,z2_1,z2_2,hx2,hc1,z1_0,z1_1,z1_2])
 have cW_5:W.cell? ⟨w.heap.size+1,1,none⟩=some (bs step):=(by rw [←hWW];simp [go_sem,hc3,z3_0,z3_1,z3_2,hx3,hc2,z2_0,z2_1,z2_2,hx2,hc1,z1_0,z1_1,z1_2])
 have cW_6:W.cell? ⟨w.heap.size+1+1,0,none⟩=some (.int .i64 0):=(by rw [←hWW];simp [go_sem,hc3,z3_0,z3_1,z3_2,hx3,hc2,z2_0,z2_1,z2_2,hx2,hc1,z1_0,z1_1,z1_2])
 have cW_7:W.cell? ⟨w.heap.size+1+1,1,none⟩=some (.slice none 0 0):=(by rw [←hWW];simp [go_sem,hc3,z3_0,z3_1,z3_2,hx3,hc2,z2_0,z2_1,z2_2,hx2,hc1,z1_0,z1_1,z1_2])
 have cW_8:W.cell? ⟨w.heap.size+1+1,2,none⟩=some (.int .i64 0):=(by rw [←hWW];simp [go_sem,hc3,z3_0,z3_1,z3_2,hx3,hc2,z2_0,z2_1,z2_2,hx2,hc1,z1_0,z1_1,z1_2])
 have cW_9:W.cell? ⟨w.heap.size+1+1,3,none⟩=some (.slice none 0 0):=(by rw [←hWW];simp [go_sem,hc3,z3_0,z3_1,z3_2,hx3,hc2,z2_0,z2_1,z2_2,hx2,hc1,z1_0,z1_1,z1_2])
 have cW_10:W.cell? ⟨w1.heap.size,0,none⟩=some (.int .i64 s1):=(by rw [←hWW];simp [go_sem,hc3,z3_0,z3_1,z3_2,hx3,hc2,z2_0,z2_1,z2_2,hx2,hc1,z1_0,z1_1,z1_2])
 have cW_11:W.cell? ⟨w1.heap.size,1,none⟩=some (.slice A1 n1 c1):=(by rw [←hWW];simp [go_sem,hc3,z3_0,z3_1,z3_2,hx3,hc2,z2_0,z2_1,z2_2,hx2,hc1,z1_0,z1_1,z1_2])
 have cW_12:W.cell? ⟨w1.heap.size,2,none⟩=some (.int .i64 t1):=(by rw [←hWW];simp [go_sem,hc3,z3_0,z3_1,z3_2,hx3,hc2,z2_0,z2_1,z2_2,hx2,hc1,z1_0,z1_1,z1_2])
 have cW_13:W.cell? ⟨w1.heap.size,3,none⟩=some (.slice B1 m1 d1):=(by rw [←hWW];simp [go_sem,hc3,z3_0,z3_1,z3_2,hx3,hc2,z2_0,z2_1,z2_2,hx2,hc1,z1_0,z1_1,z1_2])
 have cW_14:W.cell? ⟨w3.heap.size,0,none⟩=some (.int .i64 s3):=(by rw [←hWW];simp [go_sem,hc3,z3_0,z3_1,z3_2,hx3,hc2,z2_0,z2_1,z2_2,hx2,hc1,z1_0,z1_1,z1_2])
 have cW_15:W.cell? ⟨w3.heap.size,1,none⟩=some (.slice A3 n3 c3):=(by rw [←hWW];simp [go_sem,hc3,z3_0,z3_1,z3_2,hx3,hc2,z2_0,z2_1,z2_2,hx2,hc1,z1_0,z1_1,z1_2])
 have fW_0:∀o,W.frozen? ⟨w.heap.size+1+1,o,none⟩=false:=(by intro o;rw [←hWW];simp [go_sem,hf3,z3_0,z3_1,z3_2,hx3,hf2,z2_0,z2_1,z2_2,hx2,hf1,z1_0,z1_1,z1_2])
 have fW_1:∀o,W.frozen? ⟨w3.heap.size,o,none⟩=false:=(by intro o;rw [←hWW];simp [go_sem,hf3,z3_0,z3_1,z3_2,hx3,hf2,z2_0,z2_1,z2_2,hx2,hf1,z1_0,z1_1,z1_2])
 have zW_0:w.heap.size < W.heap.size:=(by rw [←hWW];first|assumption|(simp;done)|(simp;omega))
 have zW_1:w.heap.size+1 < W.heap.size:=(by rw [←hWW];first|assumption|(simp;done)|(simp;omega))
 have zW_2:w.heap.size+1+1 < W.heap.size:=(by rw [←hWW];first|assumption|(simp;done)|(simp;omega))
 have zW_3:w1.heap.size < W.heap.size:=(by rw [←hWW];first|assumption|(simp;done)|(simp;omega))
 have zW_4:w3.heap.size < W.heap.size:=(by rw [←hWW];first|assumption|(simp;done)|(simp;omega))
 have bW:Below w.heap.size w W:=(by rw [←hWW];exact (bq (by with_reducible repeat' first|assumption|constructor|go_size)))
 have _:=bm bW
 simp only [hWW]
 have HRS:Hid (RepF W s1 A1 n1 c1 t1 B1 m1 d1 s):=qh (by rw [←hWW];exact ⟨(by with_reducible repeat first|assumption|apply rZ|refine rP ?_ rfl (by simp [go_sem,hc1])),(by with_reducible repeat first|assumption|apply rZ|refine rP ?_ rfl (by simp [go_sem,hc1]))⟩)
 have HRN:Hid (Rep W s3 A3 n3 c3 y.floor):=qh (by rw [←hWW];exact (by with_reducible repeat first|assumption|apply rZ|refine rP ?_ rfl (by simp [go_sem,hc1])))
 have o25:w.heap.size+1+1 < w1.heap.size:=z1_2
 have o56:w1.heap.size < w3.heap.size:=hx3
 replace HX:=qh (HX.out.below bW)
 clear hWW hc1 hc2 hc3 hf1 hf2 hf3 z1_0 z1_1 z1_2 z2_0 z2_1 z2_2 z3_0 z3_1 z3_2 hx2 hx3 hr1 hq1 hr2 hq2 hr3 hb1 hb2 hb3
 obtain ⟨b5,hb5⟩:∃b,w1.heap.size=b:=⟨_,rfl⟩
 obtain ⟨b6,hb6⟩:∃b,w3.heap.size=b:=⟨_,rfl⟩
 simp only [hb5,hb6] at*
 clear hb5 hb6
 obtain ⟨n,hn⟩:∃n,y.floor=n:=⟨_,rfl⟩
 rw [hn] at HRN
 have HSN:Hid (Sz (p+600) ((n:Int):Rat)):=qh (hn ▸ HSY.out.floor)
 obtain ⟨r,hr⟩:∃r,y - ((n:Int):Rat)=r:=⟨_,rfl⟩
 have HR:=qh hr
 have HSR:Hid (Sz (2*p+1201) r):=qh (hr ▸ (HSY.out.sub HSN.out).mono (by omega))
 have HN:=qh hn
 have HZ0:Hid (r=0→x=z):=qh (fun h=>jnJ HY.out hn hr HZ.out h)
 obtain ⟨half,hh⟩:∃k,Rq.cmpQ r (1/2)=k:=⟨_,rfl⟩
 have HH:=qh hh
 obtain ⟨so,ho⟩:∃k,sgn (n % 2)=k:=⟨_,rfl⟩
 have HO:=qh ho
 obtain ⟨up,hup⟩:∃b,upK kind half (so != 0)=b:=⟨_,rfl⟩
 have HUP:=qh hup
 have HZ1:Hid (r≠0→((n+(if up then 1 else 0):Int):Rat)*s=z):=qh (fun h=>hup ▸ jnW HY.out hn hr HZ.out h hh ho)
 have HSN1:Hid (Sz (p+601) ((n+1:Int):Rat)):=qh (hn ▸ HSY.out.floor1)
 have HLN:Hid (Lim n):=qh (hn ▸ jga (HSY.out.limN (by have:=HP.out;omega)) (jeN y))
 have HSH:Hid (Sz 1 (1/2:Rat)):=qh jpp
 obtain ⟨k,hk⟩:∃k,sgn r.num=k:=⟨_,rfl⟩
 have HK:=qh hk
 have HKZ:Hid (k=0↔r=0):=qh (hk ▸ joe)
 clear hr hn hh ho hup hk
 go_cut [7] (fun u wx=>∃b s7 A7 n7 c7 t7 B7 m7 d7,u= .pointer (some ⟨b,0,none⟩)∧W.heap.size≤b∧b < wx.heap.size∧Below W.heap.size W wx∧RepF wx s7 A7 n7 c7 t7 B7 m7 d7 r∧wx.cell? ⟨b,0,none⟩=some (.int .i64 s7)∧wx.cell? ⟨b,1,none⟩=some (.slice A7 n7 c7)∧wx.cell? ⟨b,2,none⟩=some (.int .i64 t7)∧wx.cell? ⟨b,3,none⟩=some (.slice B7 m7 d7))
 case first=>
  refine ja3 (fun w'=>Below W.heap.size W w') [7] (by kernel_rfl) ?_
  refine tb 0 (fv sx Ax nx cx tx Bx mx dx) [2] rfl (by kernel_rfl) pk rfl (by intros;go_simp) bq0 ?_
  simp only [ppq]
  refine tb 1 (fv s1 A1 n1 c1 t1 B1 m1 d1) [2] rfl (by kernel_rfl) pk rfl (by intros;go_simp) bq0 ?_
  simp only [ppq]
  refine tb 3 (iv s3 A3 n3 c3) [4] rfl (by kernel_rfl) pk rfl (by intros;go_simp) bq0 ?_
  simp only [ppq]
  refine ja0 (rs:=[2,6]) (by kernel_rfl) (by simp) (AllT.cons rfl (fun K hK=> ?_) (AllT.cons rfl (fun K hK=> ?_) AllT.nil))
  ·go_simp
   go_wp2_with ((go_at_call 69;(with_reducible refine mf0 (jbU p 600 HY.out (HX.out.below (bq (by with_reducible repeat' first|assumption|constructor|go_size))) (HRS.out.below (bq (by with_reducible repeat' first|assumption|constructor|go_size))) HS.out HSS.out (by have:=HP.out;omega) HS0.out) fun w20 s20 A20 n20 c20 t20 B20 m20 d20 hr20 hq20 hb20 hc20 hf20 _=> ?_));(first|have y20_0:=szl (k:=W.heap.size) hb20 (by first|go_size|fail)|have y20_0:=Nat.one_pos))
   refine hK.out _ _ (fun _=>(bq (by with_reducible repeat' first|assumption|constructor|go_size))) ?_
   clear hK K
   refine ja0 (rs:=[4,6]) (by kernel_rfl) (by simp) (AllT.cons rfl (fun K hK=> ?_) (AllT.cons rfl (fun K hK=> ?_) AllT.nil))
   ·go_simp
    go_wp2_with ((go_at_call 50;(with_reducible refine mf0 (jba (x:=((n:Int):Rat)) rfl (HRN.out.below (bq (by with_reducible repeat' first|assumption|constructor|go_size)))) fun w22 s22 A22 n22 c22 t22 B22 m22 d22 hr22 hq22 hb22 hc22 hf22 _=> ?_));(first|have y22_0:=szl (k:=W.heap.size) hb22 (by first|go_size|fail)|have y22_0:=Nat.one_pos);(first|have y22_1:=szl (k:=w20.heap.size) hb22 (by first|go_size|fail)|have y22_1:=Nat.one_pos))
    refine hK.out _ _ (fun _=>(bq (by with_reducible repeat' first|assumption|constructor|go_size))) ?_
    clear hK K
    refine ja0 (rs:=[5,6]) (by kernel_rfl) (by simp) (AllT.cons rfl (fun K hK=> ?_) (AllT.cons rfl (fun K hK=> ?_) AllT.nil))
    ·go_simp
     go_wp2_with ((go_at_call 101;(with_reducible refine mf0 (jcq (p+600) (p+600) HR.out ⟨(by with_reducible repeat first|assumption|apply rZ|refine rP ?_ rfl (by simp [go_sem,hc22])),(by with_reducible repeat first|assumption|apply rZ|refine rP ?_ rfl (by simp [go_sem,hc22]))⟩ ⟨(by with_reducible repeat first|assumption|apply rZ|refine rP ?_ rfl (by simp [go_sem,hc22])),(by with_reducible repeat first|assumption|apply rZ|refine rP ?_ rfl (by simp [go_sem,hc22]))⟩ HSY.out HSN.out (by have:=HP.out;omega)) fun w23 s23 A23 n23 c23 t23 B23 m23 d23 hr23 hq23 hb23 hc23 hf23 _=> ?_));(first|have y23_0:=szl (k:=W.heap.size) hb23 (by first|go_size|fail)|have y23_0:=Nat.one_pos);(first|have y23_1:=szl (k:=w20.heap.size) hb23 (by first|go_size|fail)|have y23_1:=Nat.one_pos);(first|have y23_2:=szl (k:=w22.heap.size) hb23 (by first|go_size|fail)|have y23_2:=Nat.one_pos))
     refine hK.out _ _ (fun _=>(bq (by with_reducible repeat' first|assumption|constructor|go_size))) ?_
     clear hK K
     refine rd1 6 (by kernel_rfl) rfl (fun K hK=> ?_)
     go_simp
     refine hK.out _ _ (fun _=>(bq (by with_reducible repeat' first|assumption|constructor|go_size))) ?_
     clear hK K
     refine rd1 7 (by kernel_rfl) rfl (fun K hK=> ?_)
     go_simp
     refine hK.out _ _ (fun h=>(h (by decide)).elim) ?_
     clear hK K
     refine ja2 (by kernel_rfl) ?_ _
     go_wp2_with (fail)
     go_meet
     have g1:=hb20.size
     have g2:=hb22.size
     have g3:=hb23.size
     (try simp at g1 g2 g3)
     exact ⟨_,s23,A23,n23,c23,t23,B23,m23,d23,rfl,(by omega),(by (try simp);(try omega)),(bq (by with_reducible repeat' first|assumption|constructor|go_size)),⟨(by with_reducible repeat first|assumption|apply rZ|refine rP ?_ rfl (by simp [go_sem,hc23])),(by with_reducible repeat first|assumption|apply rZ|refine rP ?_ rfl (by simp [go_sem,hc23]))⟩,by simp [go_sem,hc23],by simp [go_sem,hc23],by simp [go_sem,hc23],by simp [go_sem,hc23]⟩
    ·go_simp
     refine hK.out _ _ (fun _=>(bq (by with_reducible repeat' first|assumption|constructor|go_size))) ?_
     clear hK K
     refine rd1 5 (by kernel_rfl) rfl (fun K hK=> ?_)
     go_simp
     go_wp2_with ((go_at_call 101;(with_reducible refine mf0 (jcq (p+600) (p+600) HR.out ⟨(by with_reducible repeat first|assumption|apply rZ|refine rP ?_ rfl (by simp [go_sem,hc22])),(by with_reducible repeat first|assumption|apply rZ|refine rP ?_ rfl (by simp [go_sem,hc22]))⟩ ⟨(by with_reducible repeat first|assumption|apply rZ|refine rP ?_ rfl (by simp [go_sem,hc22])),(by with_reducible repeat first|assumption|apply rZ|refine rP ?_ rfl (by simp [go_sem,hc22]))⟩ HSY.out HSN.out (by have:=HP.out;omega)) fun w23 s23 A23 n23 c23 t23 B23 m23 d23 hr23 hq23 hb23 hc23 hf23 _=> ?_));(first|have y23_0:=szl (k:=W.heap.size) hb23 (by first|go_size|fail)|have y23_0:=Nat.one_pos);(first|have y23_1:=szl (k:=w20.heap.size) hb23 (by first|go_size|fail)|have y23_1:=Nat.one_pos);(first|have y23_2:=szl (k:=w22.heap.size) hb23 (by first|go_size|fail)|have y23_2:=Nat.one_pos))
     refine hK.out _ _ (fun _=>(bq (by with_reducible repeat' first|assumption|constructor|go_size))) ?_
     clear hK K
     refine rd1 7 (by kernel_rfl) rfl (fun K hK=> ?_)
     go_simp
     refine hK.out _ _ (fun h=>(h (by decide)).elim) ?_
     clear hK K
     refine ja2 (by kernel_rfl) ?_ _
     go_wp2_with (fail)
     go_meet
     have g1:=hb20.size
     have g2:=hb22.size
     have g3:=hb23.size
     (try simp at g1 g2 g3)
     exact ⟨_,s23,A23,n23,c23,t23,B23,m23,d23,rfl,(by omega),(by (try simp);(try omega)),(bq (by with_reducible repeat' first|assumption|constructor|go_size)),⟨(by with_reducible repeat first|assumption|apply rZ|refine rP ?_ rfl (by simp [go_sem,hc23,y23_2])),(by with_reducible repeat first|assumption|apply rZ|refine rP ?_ rfl (by simp [go_sem,hc23,y23_2]))⟩,by simp [go_sem,hc23,y23_2],by simp [go_sem,hc23,y23_2],by simp [go_sem,hc23,y23_2],by simp [go_sem,hc23,y23_2]⟩
   ·go_simp
    refine hK.out _ _ (fun _=>(bq (by with_reducible repeat' first|assumption|constructor|go_size))) ?_
    clear hK K
    refine rd1 4 (by kernel_rfl) rfl (fun K hK=> ?_)
    go_simp
    go_wp2_with ((go_at_call 50;(with_reducible refine mf0 (jba (x:=((n:Int):Rat)) rfl (HRN.out.below (bq (by with_reducible repeat' first|assumption|constructor|go_size)))) fun w22 s22 A22 n22 c22 t22 B22 m22 d22 hr22 hq22 hb22 hc22 hf22 _=> ?_));(first|have y22_0:=szl (k:=W.heap.size) hb22 (by first|go_size|fail)|have y22_0:=Nat.one_pos);(first|have y22_1:=szl (k:=w20.heap.size) hb22 (by first|go_size|fail)|have y22_1:=Nat.one_pos))
    refine hK.out _ _ (fun _=>(bq (by with_reducible repeat' first|assumption|constructor|go_size))) ?_
    clear hK K
    refine rd1 5 (by kernel_rfl) rfl (fun K hK=> ?_)
    go_simp
    go_wp2_with ((go_at_call 101;(with_reducible refine mf0 (jcq (p+600) (p+600) HR.out ⟨(by with_reducible repeat first|assumption|apply rZ|refine rP ?_ rfl (by simp [go_sem,hc22])),(by with_reducible repeat first|assumption|apply rZ|refine rP ?_ rfl (by simp [go_sem,hc22]))⟩ ⟨(by with_reducible repeat first|assumption|apply rZ|refine rP ?_ rfl (by simp [go_sem,hc22])),(by with_reducible repeat first|assumption|apply rZ|refine rP ?_ rfl (by simp [go_sem,hc22]))⟩ HSY.out HSN.out (by have:=HP.out;omega)) fun w23 s23 A23 n23 c23 t23 B23 m23 d23 hr23 hq23 hb23 hc23 hf23 _=> ?_));(first|have y23_0:=szl (k:=W.heap.size) hb23 (by first|go_size|fail)|have y23_0:=Nat.one_pos);(first|have y23_1:=szl (k:=w20.heap.size) hb23 (by first|go_size|fail)|have y23_1:=Nat.one_pos);(first|have y23_2:=szl (k:=w22.heap.size) hb23 (by first|go_size|fail)|have y23_2:=Nat.one_pos))
    refine hK.out _ _ (fun _=>(bq (by with_reducible repeat' first|assumption|constructor|go_size))) ?_
    clear hK K
    refine rd1 7 (by kernel_rfl) rfl (fun K hK=> ?_)
    go_simp
    refine hK.out _ _ (fun h=>(h (by decide)).elim) ?_
    clear hK K
    refine ja2 (by kernel_rfl) ?_ _
    go_wp2_with (fail)
    go_meet
    have g1:=hb20.size
    have g2:=hb22.size
    have g3:=hb23.size
    (try simp at g1 g2 g3)
    exact ⟨_,s23,A23,n23,c23,t23,B23,m23,d23,rfl,(by omega),(by (try simp);(try omega)),(bq (by with_reducible repeat' first|assumption|constructor|go_size)),⟨(by with_reducible repeat first|assumption|apply rZ|refine rP ?_ rfl (by simp [go_sem,hc22,hc23,y22_1,y23_1])),(by with_reducible repeat first|assumption|apply rZ|refine rP ?_ rfl (by simp [go_sem,hc22,hc23,y22_1,y23_1]))⟩,by simp [go_sem,hc22,hc23,y22_1,y23_1],by simp [go_sem,hc22,hc23,y22_1,y23_1],by simp [go_sem,hc22,hc23,y22_1,y23_1],by simp [go_sem,hc22,hc23,y22_1,y23_1]⟩
  ·go_simp
   refine hK.out _ _ (fun _=>(bq (by with_reducible repeat' first|assumption|constructor|go_size))) ?_
   clear hK K
   refine rd1 2 (by kernel_rfl) rfl (fun K hK=> ?_)
   go_simp
   go_wp2_with ((go_at_call 69;(with_reducible refine mf0 (jbU p 600 HY.out (HX.out.below (bq (by with_reducible repeat' first|assumption|constructor|go_size))) (HRS.out.below (bq (by with_reducible repeat' first|assumption|constructor|go_size))) HS.out HSS.out (by have:=HP.out;omega) HS0.out) fun w20 s20 A20 n20 c20 t20 B20 m20 d20 hr20 hq20 hb20 hc20 hf20 _=> ?_));(first|have y20_0:=szl (k:=W.heap.size) hb20 (by first|go_size|fail)|have y20_0:=Nat.one_pos))
   refine hK.out _ _ (fun _=>(bq (by with_reducible repeat' first|assumption|constructor|go_size))) ?_
   clear hK K
   refine rd1 4 (by kernel_rfl) rfl (fun K hK=> ?_)
   go_simp
   go_wp2_with ((go_at_call 50;(with_reducible refine mf0 (jba (x:=((n:Int):Rat)) rfl (HRN.out.below (bq (by with_reducible repeat' first|assumption|constructor|go_size)))) fun w22 s22 A22 n22 c22 t22 B22 m22 d22 hr22 hq22 hb22 hc22 hf22 _=> ?_));(first|have y22_0:=szl (k:=W.heap.size) hb22 (by first|go_size|fail)|have y22_0:=Nat.one_pos);(first|have y22_1:=szl (k:=w20.heap.size) hb22 (by first|go_size|fail)|have y22_1:=Nat.one_pos))
   refine hK.out _ _ (fun _=>(bq (by with_reducible repeat' first|assumption|constructor|go_size))) ?_
   clear hK K
   refine rd1 5 (by kernel_rfl) rfl (fun K hK=> ?_)
   go_simp
   go_wp2_with ((go_at_call 101;(with_reducible refine mf0 (jcq (p+600) (p+600) HR.out ⟨(by with_reducible repeat first|assumption|apply rZ|refine rP ?_ rfl (by simp [go_sem,hc22])),(by with_reducible repeat first|assumption|apply rZ|refine rP ?_ rfl (by simp [go_sem,hc22]))⟩ ⟨(by with_reducible repeat first|assumption|apply rZ|refine rP ?_ rfl (by simp [go_sem,hc22])),(by with_reducible repeat first|assumption|apply rZ|refine rP ?_ rfl (by simp [go_sem,hc22]))⟩ HSY.out HSN.out (by have:=HP.out;omega)) fun w23 s23 A23 n23 c23 t23 B23 m23 d23 hr23 hq23 hb23 hc23 hf23 _=> ?_));(first|have y23_0:=szl (k:=W.heap.size) hb23 (by first|go_size|fail)|have y23_0:=Nat.one_pos);(first|have y23_1:=szl (k:=w20.heap.size) hb23 (by first|go_size|fail)|have y23_1:=Nat.one_pos);(first|have y23_2:=szl (k:=w22.heap.size) hb23 (by first|go_size|fail)|have y23_2:=Nat.one_pos))
   refine hK.out _ _ (fun _=>(bq (by with_reducible repeat' first|assumption|constructor|go_size))) ?_
   clear hK K
   refine rd1 7 (by kernel_rfl) rfl (fun K hK=> ?_)
   go_simp
   refine hK.out _ _ (fun h=>(h (by decide)).elim) ?_
   clear hK K
   refine ja2 (by kernel_rfl) ?_ _
   go_wp2_with (fail)
   go_meet
   have g1:=hb20.size
   have g2:=hb22.size
   have g3:=hb23.size
   (try simp at g1 g2 g3)
   exact ⟨_,s23,A23,n23,c23,t23,B23,m23,d23,rfl,(by omega),(by (try simp);(try omega)),(bq (by with_reducible repeat' first|assumption|constructor|go_size)),⟨(by with_reducible repeat first|assumption|apply rZ|refine rP ?_ rfl (by simp [go_sem,hc20,hc22,hc23,y20_0,y22_0,y23_0])),(by with_reducible repeat first|assumption|apply rZ|refine rP ?_ rfl (by simp [go_sem,hc20,hc22,hc23,y20_0,y22_0,y23_0]))⟩,by simp [go_sem,hc20,hc22,hc23,y20_0,y22_0,y23_0],by simp [go_sem,hc20,hc22,hc23,y20_0,y22_0,y23_0],by simp [go_sem,hc20,hc22,hc23,y20_0,y22_0,y23_0],by simp [go_sem,hc20,hc22,hc23,y20_0,y22_0,y23_0]⟩
 case rest=>
  obtain ⟨b7,s7,A7,n7,c7,t7,B7,m7,d7,rfl,ob7,oz7,hb7,hr7,q70,q71,q72,q73⟩:=hcut
  have _:=bm hb7
  obtain ⟨hcC,hfC⟩:=jf5 hb7
  have HR7:=qh hr7
  clear HR7
  obtain ⟨X,hWX⟩:∃x,wc=x:=⟨_,rfl⟩
  have mX:Below W.heap.size W X:=by rw [←hWX];exact hb7
  have cX_0:=ja6 mX cW_0
  have cX_1:=ja6 mX cW_1
  have cX_2:=ja6 mX cW_2
  have cX_3:=ja6 mX cW_3
  have cX_4:=ja6 mX cW_4
  have cX_5:=ja6 mX cW_5
  have cX_6:=ja6 mX cW_6
  have cX_7:=ja6 mX cW_7
  have cX_8:=ja6 mX cW_8
  have cX_9:=ja6 mX cW_9
  have cX_10:=ja6 mX cW_10
  have cX_11:=ja6 mX cW_11
  have cX_12:=ja6 mX cW_12
  have cX_13:=ja6 mX cW_13
  have cX_14:=ja6 mX cW_14
  have cX_15:=ja6 mX cW_15
  have fX_0:=jaq mX zW_2 fW_0
  have fX_1:=jaq mX zW_4 fW_1
  have zX_0:=Nat.lt_of_lt_of_le zW_0 mX.size
  have zX_1:=Nat.lt_of_lt_of_le zW_1 mX.size
  have zX_2:=Nat.lt_of_lt_of_le zW_2 mX.size
  have zX_3:=Nat.lt_of_lt_of_le zW_3 mX.size
  have zX_4:=Nat.lt_of_lt_of_le zW_4 mX.size
  have bX:=jiz bW mX
  have _:=bm bX
  replace HRS:=qh (HRS.out.below mX)
  replace HRN:=qh (HRN.out.below mX)
  replace HX:=qh (HX.out.below mX)
  (try rw [hWX])
  clear mX bW cW_0 cW_1 cW_2 cW_3 cW_4 cW_5 cW_6 cW_7 cW_8 cW_9 cW_10 cW_11 cW_12 cW_13 cW_14 cW_15 fW_0 fW_1 zW_0 zW_1 zW_2 zW_3 zW_4
  have HR7:Hid (RepF X s7 A7 n7 c7 t7 B7 m7 d7 r):=qh (by rw [←hWX];exact hr7)
  have cX_16:X.cell? ⟨b7,0,none⟩=some (.int .i64 s7):=by rw [←hWX];exact q70
  have cX_17:X.cell? ⟨b7,1,none⟩=some (.slice A7 n7 c7):=by rw [←hWX];exact q71
  have cX_18:X.cell? ⟨b7,2,none⟩=some (.int .i64 t7):=by rw [←hWX];exact q72
  have cX_19:X.cell? ⟨b7,3,none⟩=some (.slice B7 m7 d7):=by rw [←hWX];exact q73
  have zX_5:b7 < X.heap.size:=by rw [←hWX];exact oz7
  clear hcC hfC hWX hb7 hr7 q70 q71 q72 q73 oz7
  by_cases hk0:k=0
  ·subst hk0
   have hxz:=HZ0.out (HKZ.out.1 rfl)
   subst hxz
   go_wp2_with (go_at_call 99;(with_reducible refine mo0 (jb3 HK.out HR7.out) fun w4 hb4 hc4 hf4 _=> ?_))
   obtain ⟨hx1,hx2⟩:=HX.out
   exact bodyPost_ret (v:= .agg #[.int .i64 (sx), .slice (Ax) (nx) (cx), .int .i64 (tx), .slice (Bx) (mx) (dx)]) (by simp [results,Tryz.results55,go_sem,hc4,hf4,zX_2,cX_6,cX_7,cX_8,cX_9,fX_0]) rfl (jam rfl ⟨(by with_reducible repeat first|assumption|apply rZ|refine rP ?_ rfl (by simp [go_sem,hc4,hf4,zX_2,cX_6,cX_7,cX_8,cX_9,fX_0])),(by with_reducible repeat first|assumption|apply rZ|refine rP ?_ rfl (by simp [go_sem,hc4,hf4,zX_2,cX_6,cX_7,cX_8,cX_9,fX_0]))⟩ (bq (by with_reducible repeat' first|assumption|constructor|go_size)))
  ·have q1:(k==0)=false:=by rw [beq_eq_false_iff_ne];exact hk0
   have HZ2:=qh (HZ1.out (fun h=>hk0 (HKZ.out.2 h)))
   have HR1:=qh (show R64 1 by constructor <;> decide)
   have HR2:=qh (show R64 2 by constructor <;> decide)
   have HL1:=qh (jcd HR1.out)
   have HL2:=qh (jcd HR2.out)
   have HN2:=qh (show (2:Int)≠0 by decide)
   clear hk0
   go_upto_region 6 with ((go_at_call 99;(with_reducible refine mo0 (jb3 HK.out HR7.out) fun w4 hb4 hc4 hf4 _=> ?_)))
   obtain ⟨Y,hWY⟩:∃x,w4=x:=⟨_,rfl⟩
   have mY:Below X.heap.size X Y:=by rw [←hWY];exact hb4
   have cY_0:=ja6 mY cX_0
   have cY_1:=ja6 mY cX_1
   have cY_2:=ja6 mY cX_2
   have cY_3:=ja6 mY cX_3
   have cY_4:=ja6 mY cX_4
   have cY_5:=ja6 mY cX_5
   have cY_6:=ja6 mY cX_6
   have cY_7:=ja6 mY cX_7
   have cY_8:=ja6 mY cX_8
   have cY_9:=ja6 mY cX_9
   have cY_10:=ja6 mY cX_10
   have cY_11:=ja6 mY cX_11
   have cY_12:=ja6 mY cX_12
   have cY_13:=ja6 mY cX_13
   have cY_14:=ja6 mY cX_14
   have cY_15:=ja6 mY cX_15
   have cY_16:=ja6 mY cX_16
   have cY_17:=ja6 mY cX_17
   have cY_18:=ja6 mY cX_18
   have cY_19:=ja6 mY cX_19
   have fY_0:=jaq mY zX_2 fX_0
   have fY_1:=jaq mY zX_4 fX_1
   have zY_0:=Nat.lt_of_lt_of_le zX_0 mY.size
   have zY_1:=Nat.lt_of_lt_of_le zX_1 mY.size
   have zY_2:=Nat.lt_of_lt_of_le zX_2 mY.size
   have zY_3:=Nat.lt_of_lt_of_le zX_3 mY.size
   have zY_4:=Nat.lt_of_lt_of_le zX_4 mY.size
   have zY_5:=Nat.lt_of_lt_of_le zX_5 mY.size
   have bY:=jiz bX mY
   have _:=bm bY
   replace HRS:=qh (HRS.out.below mY)
   replace HRN:=qh (HRN.out.below mY)
   replace HX:=qh (HX.out.below mY)
   replace HR7:=qh (HR7.out.below mY)
   (try rw [hWY])
   clear mY bX cX_0 cX_1 cX_2 cX_3 cX_4 cX_5 cX_6 cX_7 cX_8 cX_9 cX_10 cX_11 cX_12 cX_13 cX_14 cX_15 cX_16 cX_17 cX_18 cX_19 fX_0 fX_1 zX_0 zX_1 zX_2 zX_3 zX_4 zX_5
   clear hWY hb4 hc4 hf4
   refine ja3 (fun w'=>Below Y.heap.size Y w') [] (by kernel_rfl) ?_
   refine tb 0 (fv s7 A7 n7 c7 t7 B7 m7 d7) [4] rfl (by kernel_rfl) pk rfl (by intros;go_simp) bq0 ?_
   simp only [ppq]
   refine rd1 1 (by kernel_rfl) rfl (fun K hK=> ?_)
   go_simp
   go_wp2_with (go_at_call 48;(with_reducible refine mi0 (jbE 1 _ HR1.out) fun w29 s29 A29 n29 c29 hr29 hb29 hc29 hf29 _=> ?_))
   have sS29:=qh (bst bq0 hb29)
   refine hK.out _ _ (fun _=>sS29.out) ?_
   clear hK K
   refine rd1 2 (by kernel_rfl) rfl (fun K hK=> ?_)
   go_simp
   go_wp2_with (go_at_call 48;(with_reducible refine mi0 (jbE 2 _ HR2.out) fun w30 s30 A30 n30 c30 hr30 hb30 hc30 hf30 _=> ?_))
   have sS30:=qh (bst sS29.out hb30)
   refine hK.out _ _ (fun _=>sS30.out) ?_
   clear hK K
   refine rd1 3 (by kernel_rfl) rfl (fun K hK=> ?_)
   go_simp
   go_wp2_with (go_at_call 47;(with_reducible refine mf0 (jbT jio (by with_reducible repeat first|assumption|apply rZ|refine rP ?_ rfl (by simp [go_sem,hc30])) (by with_reducible repeat first|assumption|apply rZ|refine rP ?_ rfl (by simp [go_sem,hc30])) HL1.out HL2.out HN2.out) fun w31 s31 A31 n31 c31 t31 B31 m31 d31 hr31 hq31 hb31 hc31 hf31 _=> ?_))
   have sS31:=qh (bst sS30.out hb31)
   refine hK.out _ _ (fun _=>sS31.out) ?_
   clear hK K
   refine rd1 4 (by kernel_rfl) rfl (fun K hK=> ?_)
   go_simp
   go_wp2_with (go_at_call 33;(with_reducible refine mo0 (jaB (2*p+1201) 1 HH.out (HR7.out.below (bq (by with_reducible repeat' first|assumption|constructor|go_size))) ⟨hr31,hq31⟩ HSR.out HSH.out (by have:=HP.out;omega)) fun w32 hb32 hc32 hf32 _=> ?_))
   have sS32:=qh (bst sS31.out hb32)
   refine hK.out _ _ (fun _=>sS32.out) ?_
   clear hK K
   refine rd1 5 (by kernel_rfl) rfl (fun K hK=> ?_)
   go_simp
   refine hK.out _ _ (fun _=>(bq (by with_reducible repeat' first|assumption|constructor|go_size))) ?_
   clear hK K
   refine ja2 (by kernel_rfl) ?_ _
   go_upto_region 7 with (fail)
   obtain ⟨S,hWS⟩:∃x,w32=x:=⟨_,rfl⟩
   have mS:Below Y.heap.size Y S:=by rw [←hWS];exact (bq (by with_reducible repeat' first|assumption|constructor|go_size))
   have cS_0:=ja6 mS cY_0
   have cS_1:=ja6 mS cY_1
   have cS_2:=ja6 mS cY_2
   have cS_3:=ja6 mS cY_3
   have cS_4:=ja6 mS cY_4
   have cS_5:=ja6 mS cY_5
   have cS_6:=ja6 mS cY_6
   have cS_7:=ja6 mS cY_7
   have cS_8:=ja6 mS cY_8
   have cS_9:=ja6 mS cY_9
   have cS_10:=ja6 mS cY_10
   have cS_11:=ja6 mS cY_11
   have cS_12:=ja6 mS cY_12
   have cS_13:=ja6 mS cY_13
   have cS_14:=ja6 mS cY_14
   have cS_15:=ja6 mS cY_15
   have cS_16:=ja6 mS cY_16
   have cS_17:=ja6 mS cY_17
   have cS_18:=ja6 mS cY_18
   have cS_19:=ja6 mS cY_19
   have fS_0:=jaq mS zY_2 fY_0
   have fS_1:=jaq mS zY_4 fY_1
   have zS_0:=Nat.lt_of_lt_of_le zY_0 mS.size
   have zS_1:=Nat.lt_of_lt_of_le zY_1 mS.size
   have zS_2:=Nat.lt_of_lt_of_le zY_2 mS.size
   have zS_3:=Nat.lt_of_lt_of_le zY_3 mS.size
   have zS_4:=Nat.lt_of_lt_of_le zY_4 mS.size
   have zS_5:=Nat.lt_of_lt_of_le zY_5 mS.size
   have bS:=jiz bY mS
   have _:=bm bS
   replace HRS:=qh (HRS.out.below mS)
   replace HRN:=qh (HRN.out.below mS)
   replace HX:=qh (HX.out.below mS)
   replace HR7:=qh (HR7.out.below mS)
   (try rw [hWS])
   clear mS bY cY_0 cY_1 cY_2 cY_3 cY_4 cY_5 cY_6 cY_7 cY_8 cY_9 cY_10 cY_11 cY_12 cY_13 cY_14 cY_15 cY_16 cY_17 cY_18 cY_19 fY_0 fY_1 zY_0 zY_1 zY_2 zY_3 zY_4 zY_5
   clear hWS hb29 hb30 hb31 hb32 hc29 hc30 hc31 hc32 hf29 hf30 hf31 hf32 hr29 hr30 hr31 hq31
   go_cut [10] (fun u wx=>∃b sd Ad nd cd,u= .pointer (some ⟨b,0,none⟩)∧S.heap.size≤b∧b < wx.heap.size∧Below S.heap.size S wx∧Rep wx sd Ad nd cd (n % 2)∧wx.cell? ⟨b,0,none⟩=some (.int .i64 sd)∧wx.cell? ⟨b,1,none⟩=some (.slice Ad nd cd))
   case first=>
    refine ja3 (fun w'=>Below S.heap.size S w') [] (by kernel_rfl) ?_
    refine tb 0 (iv s3 A3 n3 c3) [2] rfl (by kernel_rfl) pk rfl (by intros;go_simp) bq0 ?_
    simp only [ppq]
    refine ja0 (rs:=[1,6,7]) (by kernel_rfl) (by simp) (AllT.cons rfl (fun K hK=> ?o1) (AllT.cons rfl (fun K hK=> ?o2) (AllT.cons rfl (fun K hK=> ?o3) AllT.nil)))
    case' o1=>
     go_simp
     go_wp2_with ((go_at_call 48;(with_reducible refine mi0 (jbE 2 _ HR2.out) fun w35 s35 A35 n35 c35 hr35 hb35 hc35 hf35 _=> ?_));(first|have y35_0:=szl (k:=S.heap.size) hb35 (by first|go_size|fail)|have y35_0:=Nat.one_pos);(first|have y35_1:=szl (k:=S.heap.size+1) hb35 (by first|go_size|fail)|have y35_1:=Nat.one_pos))
     refine hK.out _ _ (fun _=>(bq (by with_reducible repeat' first|assumption|constructor|go_size))) ?_
     clear hK K
     refine ja0 (rs:=[2,6,7]) (by kernel_rfl) (by simp) (AllT.cons rfl (fun K hK=> ?o4) (AllT.cons rfl (fun K hK=> ?o5) (AllT.cons rfl (fun K hK=> ?o6) AllT.nil)))
     case' o4=>
      go_simp
      go_wp2_with ((go_at_call 102;(with_reducible refine (jap (q:=n / 2) (r:=n % 2) rfl rfl (HRN.out.below (bq (by with_reducible repeat' first|assumption|constructor|go_size))) (by with_reducible repeat first|assumption|apply rZ|refine rP ?_ rfl (by simp [go_sem,hc35])) HLN.out HL2.out (by decide)).mono ?_);rintro e36 w36 ⟨s36,A36,n36,c36,t36,B36,m36,d36,rfl,hr36,hq36,hb36⟩;obtain ⟨hc36,hf36,_⟩:=bc0 hb36);(first|have y36_0:=szl (k:=S.heap.size) hb36 (by first|go_size|fail)|have y36_0:=Nat.one_pos);(first|have y36_1:=szl (k:=S.heap.size+1) hb36 (by first|go_size|fail)|have y36_1:=Nat.one_pos);(first|have y36_2:=szl (k:=w35.heap.size) hb36 (by first|go_size|fail)|have y36_2:=Nat.one_pos);(first|have y36_3:=szl (k:=w35.heap.size+1) hb36 (by first|go_size|fail)|have y36_3:=Nat.one_pos))
      refine hK.out _ _ (fun _=>(bq (by with_reducible repeat' first|assumption|constructor|go_size))) ?_
      clear hK K
      refine tb 3 (.tuple #[iv s36 A36 n36 c36,iv t36 B36 m36 d36]) [4,5] rfl (by kernel_rfl) pk rfl (by intros;go_simp) (bq (by with_reducible repeat' first|assumption|constructor|go_size)) ?_
      simp only [ppq]
      refine tb 4 (iv s36 A36 n36 c36) [8] rfl (by kernel_rfl) pk rfl (by intros;go_simp) (bq (by with_reducible repeat' first|assumption|constructor|go_size)) ?_
      simp only [ppq]
      refine tb 5 (iv t36 B36 m36 d36) [9] rfl (by kernel_rfl) pk rfl (by intros;go_simp) (bq (by with_reducible repeat' first|assumption|constructor|go_size)) ?_
      simp only [ppq]
      refine ja0 (rs:=[6,7]) (by kernel_rfl) (by simp) (AllT.cons rfl (fun K hK=> ?o7) (AllT.cons rfl (fun K hK=> ?o8) AllT.nil))
      case' o7=>
       go_simp
       refine hK.out _ _ (fun _=>(bq (by with_reducible repeat' first|assumption|constructor|go_size))) ?_
       clear hK K
       refine ja0 (rs:=[7]) (by kernel_rfl) (by simp) (AllT.cons rfl (fun K hK=> ?_) AllT.nil)
       go_simp
       refine hK.out _ _ (fun _=>(bq (by with_reducible repeat' first|assumption|constructor|go_size))) ?_
       clear hK K
      case' o8=>
       go_simp
       refine hK.out _ _ (fun _=>(bq (by with_reducible repeat' first|assumption|constructor|go_size))) ?_
       clear hK K
       refine ja0 (rs:=[6]) (by kernel_rfl) (by simp) (AllT.cons rfl (fun K hK=> ?_) AllT.nil)
       go_simp
       refine hK.out _ _ (fun _=>(bq (by with_reducible repeat' first|assumption|constructor|go_size))) ?_
       clear hK K
     case' o5=>
      go_simp
      refine hK.out _ _ (fun _=>(bq (by with_reducible repeat' first|assumption|constructor|go_size))) ?_
      clear hK K
      refine ja0 (rs:=[2,7]) (by kernel_rfl) (by simp) (AllT.cons rfl (fun K hK=> ?o9) (AllT.cons rfl (fun K hK=> ?o10) AllT.nil))
      case' o9=>
       go_simp
       go_wp2_with ((go_at_call 102;(with_reducible refine (jap (q:=n / 2) (r:=n % 2) rfl rfl (HRN.out.below (bq (by with_reducible repeat' first|assumption|constructor|go_size))) (by with_reducible repeat first|assumption|apply rZ|refine rP ?_ rfl (by simp [go_sem,hc35])) HLN.out HL2.out (by decide)).mono ?_);rintro e36 w36 ⟨s36,A36,n36,c36,t36,B36,m36,d36,rfl,hr36,hq36,hb36⟩;obtain ⟨hc36,hf36,_⟩:=bc0 hb36);(first|have y36_0:=szl (k:=S.heap.size) hb36 (by first|go_size|fail)|have y36_0:=Nat.one_pos);(first|have y36_1:=szl (k:=S.heap.size+1) hb36 (by first|go_size|fail)|have y36_1:=Nat.one_pos);(first|have y36_2:=szl (k:=w35.heap.size) hb36 (by first|go_size|fail)|have y36_2:=Nat.one_pos);(first|have y36_3:=szl (k:=w35.heap.size+1) hb36 (by first|go_size|fail)|have y36_3:=Nat.one_pos))
       refine hK.out _ _ (fun _=>(bq (by with_reducible repeat' first|assumption|constructor|go_size))) ?_
       clear hK K
       refine tb 3 (.tuple #[iv s36 A36 n36 c36,iv t36 B36 m36 d36]) [4,5] rfl (by kernel_rfl) pk rfl (by intros;go_simp) (bq (by with_reducible repeat' first|assumption|constructor|go_size)) ?_
       simp only [ppq]
       refine tb 4 (iv s36 A36 n36 c36) [8] rfl (by kernel_rfl) pk rfl (by intros;go_simp) (bq (by with_reducible repeat' first|assumption|constructor|go_size)) ?_
       simp only [ppq]
       refine tb 5 (iv t36 B36 m36 d36) [9] rfl (by kernel_rfl) pk rfl (by intros;go_simp) (bq (by with_reducible repeat' first|assumption|constructor|go_size)) ?_
       simp only [ppq]
       refine ja0 (rs:=[7]) (by kernel_rfl) (by simp) (AllT.cons rfl (fun K hK=> ?_) AllT.nil)
       go_simp
       refine hK.out _ _ (fun _=>(bq (by with_reducible repeat' first|assumption|constructor|go_size))) ?_
       clear hK K
      case' o10=>
       go_simp
       refine hK.out _ _ (fun _=>(bq (by with_reducible repeat' first|assumption|constructor|go_size))) ?_
       clear hK K
       refine ja0 (rs:=[2]) (by kernel_rfl) (by simp) (AllT.cons rfl (fun K hK=> ?_) AllT.nil)
       go_simp
       go_wp2_with ((go_at_call 102;(with_reducible refine (jap (q:=n / 2) (r:=n % 2) rfl rfl (HRN.out.below (bq (by with_reducible repeat' first|assumption|constructor|go_size))) (by with_reducible repeat first|assumption|apply rZ|refine rP ?_ rfl (by simp [go_sem,hc35])) HLN.out HL2.out (by decide)).mono ?_);rintro e36 w36 ⟨s36,A36,n36,c36,t36,B36,m36,d36,rfl,hr36,hq36,hb36⟩;obtain ⟨hc36,hf36,_⟩:=bc0 hb36);(first|have y36_0:=szl (k:=S.heap.size) hb36 (by first|go_size|fail)|have y36_0:=Nat.one_pos);(first|have y36_1:=szl (k:=S.heap.size+1) hb36 (by first|go_size|fail)|have y36_1:=Nat.one_pos);(first|have y36_2:=szl (k:=w35.heap.size) hb36 (by first|go_size|fail)|have y36_2:=Nat.one_pos);(first|have y36_3:=szl (k:=w35.heap.size+1) hb36 (by first|go_size|fail)|have y36_3:=Nat.one_pos))
       refine hK.out _ _ (fun _=>(bq (by with_reducible repeat' first|assumption|constructor|go_size))) ?_
       clear hK K
       refine tb 3 (.tuple #[iv s36 A36 n36 c36,iv t36 B36 m36 d36]) [4,5] rfl (by kernel_rfl) pk rfl (by intros;go_simp) (bq (by with_reducible repeat' first|assumption|constructor|go_size)) ?_
       simp only [ppq]
       refine tb 4 (iv s36 A36 n36 c36) [8] rfl (by kernel_rfl) pk rfl (by intros;go_simp) (bq (by with_reducible repeat' first|assumption|constructor|go_size)) ?_
       simp only [ppq]
       refine tb 5 (iv t36 B36 m36 d36) [9] rfl (by kernel_rfl) pk rfl (by intros;go_simp) (bq (by with_reducible repeat' first|assumption|constructor|go_size)) ?_
       simp only [ppq]
     case' o6=>
      go_simp
      refine hK.out _ _ (fun _=>(bq (by with_reducible repeat' first|assumption|constructor|go_size))) ?_
      clear hK K
      refine ja0 (rs:=[2,6]) (by kernel_rfl) (by simp) (AllT.cons rfl (fun K hK=> ?o11) (AllT.cons rfl (fun K hK=> ?o12) AllT.nil))
      case' o11=>
       go_simp
       go_wp2_with ((go_at_call 102;(with_reducible refine (jap (q:=n / 2) (r:=n % 2) rfl rfl (HRN.out.below (bq (by with_reducible repeat' first|assumption|constructor|go_size))) (by with_reducible repeat first|assumption|apply rZ|refine rP ?_ rfl (by simp [go_sem,hc35])) HLN.out HL2.out (by decide)).mono ?_);rintro e36 w36 ⟨s36,A36,n36,c36,t36,B36,m36,d36,rfl,hr36,hq36,hb36⟩;obtain ⟨hc36,hf36,_⟩:=bc0 hb36);(first|have y36_0:=szl (k:=S.heap.size) hb36 (by first|go_size|fail)|have y36_0:=Nat.one_pos);(first|have y36_1:=szl (k:=S.heap.size+1) hb36 (by first|go_size|fail)|have y36_1:=Nat.one_pos);(first|have y36_2:=szl (k:=w35.heap.size) hb36 (by first|go_size|fail)|have y36_2:=Nat.one_pos);(first|have y36_3:=szl (k:=w35.heap.size+1) hb36 (by first|go_size|fail)|have y36_3:=Nat.one_pos))
       refine hK.out _ _ (fun _=>(bq (by with_reducible repeat' first|assumption|constructor|go_size))) ?_
       clear hK K
       refine tb 3 (.tuple #[iv s36 A36 n36 c36,iv t36 B36 m36 d36]) [4,5] rfl (by kernel_rfl) pk rfl (by intros;go_simp) (bq (by with_reducible repeat' first|assumption|constructor|go_size)) ?_
       simp only [ppq]
       refine tb 4 (iv s36 A36 n36 c36) [8] rfl (by kernel_rfl) pk rfl (by intros;go_simp) (bq (by with_reducible repeat' first|assumption|constructor|go_size)) ?_
       simp only [ppq]
       refine tb 5 (iv t36 B36 m36 d36) [9] rfl (by kernel_rfl) pk rfl (by intros;go_simp) (bq (by with_reducible repeat' first|assumption|constructor|go_size)) ?_
       simp only [ppq]
       refine ja0 (rs:=[6]) (by kernel_rfl) (by simp) (AllT.cons rfl (fun K hK=> ?_) AllT.nil)
       go_simp
       refine hK.out _ _ (fun _=>(bq (by with_reducible repeat' first|assumption|constructor|go_size))) ?_
       clear hK K
      case' o12=>
       go_simp
       refine hK.out _ _ (fun _=>(bq (by with_reducible repeat' first|assumption|constructor|go_size))) ?_
       clear hK K
       refine ja0 (rs:=[2]) (by kernel_rfl) (by simp) (AllT.cons rfl (fun K hK=> ?_) AllT.nil)
       go_simp
       go_wp2_with ((go_at_call 102;(with_reducible refine (jap (q:=n / 2) (r:=n % 2) rfl rfl (HRN.out.below (bq (by with_reducible repeat' first|assumption|constructor|go_size))) (by with_reducible repeat first|assumption|apply rZ|refine rP ?_ rfl (by simp [go_sem,hc35])) HLN.out HL2.out (by decide)).mono ?_);rintro e36 w36 ⟨s36,A36,n36,c36,t36,B36,m36,d36,rfl,hr36,hq36,hb36⟩;obtain ⟨hc36,hf36,_⟩:=bc0 hb36);(first|have y36_0:=szl (k:=S.heap.size) hb36 (by first|go_size|fail)|have y36_0:=Nat.one_pos);(first|have y36_1:=szl (k:=S.heap.size+1) hb36 (by first|go_size|fail)|have y36_1:=Nat.one_pos);(first|have y36_2:=szl (k:=w35.heap.size) hb36 (by first|go_size|fail)|have y36_2:=Nat.one_pos);(first|have y36_3:=szl (k:=w35.heap.size+1) hb36 (by first|go_size|fail)|have y36_3:=Nat.one_pos))
       refine hK.out _ _ (fun _=>(bq (by with_reducible repeat' first|assumption|constructor|go_size))) ?_
       clear hK K
       refine tb 3 (.tuple #[iv s36 A36 n36 c36,iv t36 B36 m36 d36]) [4,5] rfl (by kernel_rfl) pk rfl (by intros;go_simp) (bq (by with_reducible repeat' first|assumption|constructor|go_size)) ?_
       simp only [ppq]
       refine tb 4 (iv s36 A36 n36 c36) [8] rfl (by kernel_rfl) pk rfl (by intros;go_simp) (bq (by with_reducible repeat' first|assumption|constructor|go_size)) ?_
       simp only [ppq]
       refine tb 5 (iv t36 B36 m36 d36) [9] rfl (by kernel_rfl) pk rfl (by intros;go_simp) (bq (by with_reducible repeat' first|assumption|constructor|go_size)) ?_
       simp only [ppq]
    case' o2=>
     go_simp
     refine hK.out _ _ (fun _=>(bq (by with_reducible repeat' first|assumption|constructor|go_size))) ?_
     clear hK K
     refine ja0 (rs:=[1,7]) (by kernel_rfl) (by simp) (AllT.cons rfl (fun K hK=> ?o13) (AllT.cons rfl (fun K hK=> ?o14) AllT.nil))
     case' o13=>
      go_simp
      go_wp2_with ((go_at_call 48;(with_reducible refine mi0 (jbE 2 _ HR2.out) fun w35 s35 A35 n35 c35 hr35 hb35 hc35 hf35 _=> ?_));(first|have y35_0:=szl (k:=S.heap.size) hb35 (by first|go_size|fail)|have y35_0:=Nat.one_pos);(first|have y35_1:=szl (k:=S.heap.size+1) hb35 (by first|go_size|fail)|have y35_1:=Nat.one_pos))
      refine hK.out _ _ (fun _=>(bq (by with_reducible repeat' first|assumption|constructor|go_size))) ?_
      clear hK K
      refine ja0 (rs:=[2,7]) (by kernel_rfl) (by simp) (AllT.cons rfl (fun K hK=> ?o15) (AllT.cons rfl (fun K hK=> ?o16) AllT.nil))
      case' o15=>
       go_simp
       go_wp2_with ((go_at_call 102;(with_reducible refine (jap (q:=n / 2) (r:=n % 2) rfl rfl (HRN.out.below (bq (by with_reducible repeat' first|assumption|constructor|go_size))) (by with_reducible repeat first|assumption|apply rZ|refine rP ?_ rfl (by simp [go_sem,hc35])) HLN.out HL2.out (by decide)).mono ?_);rintro e36 w36 ⟨s36,A36,n36,c36,t36,B36,m36,d36,rfl,hr36,hq36,hb36⟩;obtain ⟨hc36,hf36,_⟩:=bc0 hb36);(first|have y36_0:=szl (k:=S.heap.size) hb36 (by first|go_size|fail)|have y36_0:=Nat.one_pos);(first|have y36_1:=szl (k:=S.heap.size+1) hb36 (by first|go_size|fail)|have y36_1:=Nat.one_pos);(first|have y36_2:=szl (k:=w35.heap.size) hb36 (by first|go_size|fail)|have y36_2:=Nat.one_pos);(first|have y36_3:=szl (k:=w35.heap.size+1) hb36 (by first|go_size|fail)|have y36_3:=Nat.one_pos))
       refine hK.out _ _ (fun _=>(bq (by with_reducible repeat' first|assumption|constructor|go_size))) ?_
       clear hK K
       refine tb 3 (.tuple #[iv s36 A36 n36 c36,iv t36 B36 m36 d36]) [4,5] rfl (by kernel_rfl) pk rfl (by intros;go_simp) (bq (by with_reducible repeat' first|assumption|constructor|go_size)) ?_
       simp only [ppq]
       refine tb 4 (iv s36 A36 n36 c36) [8] rfl (by kernel_rfl) pk rfl (by intros;go_simp) (bq (by with_reducible repeat' first|assumption|constructor|go_size)) ?_
       simp only [ppq]
       refine tb 5 (iv t36 B36 m36 d36) [9] rfl (by kernel_rfl) pk rfl (by intros;go_simp) (bq (by with_reducible repeat' first|assumption|constructor|go_size)) ?_
       simp only [ppq]
       refine ja0 (rs:=[7]) (by kernel_rfl) (by simp) (AllT.cons rfl (fun K hK=> ?_) AllT.nil)
       go_simp
       refine hK.out _ _ (fun _=>(bq (by with_reducible repeat' first|assumption|constructor|go_size))) ?_
       clear hK K
      case' o16=>
       go_simp
       refine hK.out _ _ (fun _=>(bq (by with_reducible repeat' first|assumption|constructor|go_size))) ?_
       clear hK K
       refine ja0 (rs:=[2]) (by kernel_rfl) (by simp) (AllT.cons rfl (fun K hK=> ?_) AllT.nil)
       go_simp
       go_wp2_with ((go_at_call 102;(with_reducible refine (jap (q:=n / 2) (r:=n % 2) rfl rfl (HRN.out.below (bq (by with_reducible repeat' first|assumption|constructor|go_size))) (by with_reducible repeat first|assumption|apply rZ|refine rP ?_ rfl (by simp [go_sem,hc35])) HLN.out HL2.out (by decide)).mono ?_);rintro e36 w36 ⟨s36,A36,n36,c36,t36,B36,m36,d36,rfl,hr36,hq36,hb36⟩;obtain ⟨hc36,hf36,_⟩:=bc0 hb36);(first|have y36_0:=szl (k:=S.heap.size) hb36 (by first|go_size|fail)|have y36_0:=Nat.one_pos);(first|have y36_1:=szl (k:=S.heap.size+1) hb36 (by first|go_size|fail)|have y36_1:=Nat.one_pos);(first|have y36_2:=szl (k:=w35.heap.size) hb36 (by first|go_size|fail)|have y36_2:=Nat.one_pos);(first|have y36_3:=szl (k:=w35.heap.size+1) hb36 (by first|go_size|fail)|have y36_3:=Nat.one_pos))
       refine hK.out _ _ (fun _=>(bq (by with_reducible repeat' first|assumption|constructor|go_size))) ?_
       clear hK K
       refine tb 3 (.tuple #[iv s36 A36 n36 c36,iv t36 B36 m36 d36]) [4,5] rfl (by kernel_rfl) pk rfl (by intros;go_simp) (bq (by with_reducible repeat' first|assumption|constructor|go_size)) ?_
       simp only [ppq]
       refine tb 4 (iv s36 A36 n36 c36) [8] rfl (by kernel_rfl) pk rfl (by intros;go_simp) (bq (by with_reducible repeat' first|assumption|constructor|go_size)) ?_
       simp only [ppq]
       refine tb 5 (iv t36 B36 m36 d36) [9] rfl (by kernel_rfl) pk rfl (by intros;go_simp) (bq (by with_reducible repeat' first|assumption|constructor|go_size)) ?_
       simp only [ppq]
     case' o14=>
      go_simp
      refine hK.out _ _ (fun _=>(bq (by with_reducible repeat' first|assumption|constructor|go_size))) ?_
      clear hK K
      refine ja0 (rs:=[1]) (by kernel_rfl) (by simp) (AllT.cons rfl (fun K hK=> ?_) AllT.nil)
      go_simp
      go_wp2_with ((go_at_call 48;(with_reducible refine mi0 (jbE 2 _ HR2.out) fun w35 s35 A35 n35 c35 hr35 hb35 hc35 hf35 _=> ?_));(first|have y35_0:=szl (k:=S.heap.size) hb35 (by first|go_size|fail)|have y35_0:=Nat.one_pos);(first|have y35_1:=szl (k:=S.heap.size+1) hb35 (by first|go_size|fail)|have y35_1:=Nat.one_pos))
      refine hK.out _ _ (fun _=>(bq (by with_reducible repeat' first|assumption|constructor|go_size))) ?_
      clear hK K
      refine ja0 (rs:=[2]) (by kernel_rfl) (by simp) (AllT.cons rfl (fun K hK=> ?_) AllT.nil)
      go_simp
      go_wp2_with ((go_at_call 102;(with_reducible refine (jap (q:=n / 2) (r:=n % 2) rfl rfl (HRN.out.below (bq (by with_reducible repeat' first|assumption|constructor|go_size))) (by with_reducible repeat first|assumption|apply rZ|refine rP ?_ rfl (by simp [go_sem,hc35])) HLN.out HL2.out (by decide)).mono ?_);rintro e36 w36 ⟨s36,A36,n36,c36,t36,B36,m36,d36,rfl,hr36,hq36,hb36⟩;obtain ⟨hc36,hf36,_⟩:=bc0 hb36);(first|have y36_0:=szl (k:=S.heap.size) hb36 (by first|go_size|fail)|have y36_0:=Nat.one_pos);(first|have y36_1:=szl (k:=S.heap.size+1) hb36 (by first|go_size|fail)|have y36_1:=Nat.one_pos);(first|have y36_2:=szl (k:=w35.heap.size) hb36 (by first|go_size|fail)|have y36_2:=Nat.one_pos);(first|have y36_3:=szl (k:=w35.heap.size+1) hb36 (by first|go_size|fail)|have y36_3:=Nat.one_pos))
      refine hK.out _ _ (fun _=>(bq (by with_reducible repeat' first|assumption|constructor|go_size))) ?_
      clear hK K
      refine tb 3 (.tuple #[iv s36 A36 n36 c36,iv t36 B36 m36 d36]) [4,5] rfl (by kernel_rfl) pk rfl (by intros;go_simp) (bq (by with_reducible repeat' first|assumption|constructor|go_size)) ?_
      simp only [ppq]
      refine tb 4 (iv s36 A36 n36 c36) [8] rfl (by kernel_rfl) pk rfl (by intros;go_simp) (bq (by with_reducible repeat' first|assumption|constructor|go_size)) ?_
      simp only [ppq]
      refine tb 5 (iv t36 B36 m36 d36) [9] rfl (by kernel_rfl) pk rfl (by intros;go_simp) (bq (by with_reducible repeat' first|assumption|constructor|go_size)) ?_
      simp only [ppq]
    case' o3=>
     go_simp
     refine hK.out _ _ (fun _=>(bq (by with_reducible repeat' first|assumption|constructor|go_size))) ?_
     clear hK K
     refine ja0 (rs:=[1,6]) (by kernel_rfl) (by simp) (AllT.cons rfl (fun K hK=> ?o17) (AllT.cons rfl (fun K hK=> ?o18) AllT.nil))
     case' o17=>
      go_simp
      go_wp2_with ((go_at_call 48;(with_reducible refine mi0 (jbE 2 _ HR2.out) fun w35 s35 A35 n35 c35 hr35 hb35 hc35 hf35 _=> ?_));(first|have y35_0:=szl (k:=S.heap.size) hb35 (by first|go_size|fail)|have y35_0:=Nat.one_pos);(first|have y35_1:=szl (k:=S.heap.size+1) hb35 (by first|go_size|fail)|have y35_1:=Nat.one_pos))
      refine hK.out _ _ (fun _=>(bq (by with_reducible repeat' first|assumption|constructor|go_size))) ?_
      clear hK K
      refine ja0 (rs:=[2,6]) (by kernel_rfl) (by simp) (AllT.cons rfl (fun K hK=> ?o19) (AllT.cons rfl (fun K hK=> ?o20) AllT.nil))
      case' o19=>
       go_simp
       go_wp2_with ((go_at_call 102;(with_reducible refine (jap (q:=n / 2) (r:=n % 2) rfl rfl (HRN.out.below (bq (by with_reducible repeat' first|assumption|constructor|go_size))) (by with_reducible repeat first|assumption|apply rZ|refine rP ?_ rfl (by simp [go_sem,hc35])) HLN.out HL2.out (by decide)).mono ?_);rintro e36 w36 ⟨s36,A36,n36,c36,t36,B36,m36,d36,rfl,hr36,hq36,hb36⟩;obtain ⟨hc36,hf36,_⟩:=bc0 hb36);(first|have y36_0:=szl (k:=S.heap.size) hb36 (by first|go_size|fail)|have y36_0:=Nat.one_pos);(first|have y36_1:=szl (k:=S.heap.size+1) hb36 (by first|go_size|fail)|have y36_1:=Nat.one_pos);(first|have y36_2:=szl (k:=w35.heap.size) hb36 (by first|go_size|fail)|have y36_2:=Nat.one_pos);(first|have y36_3:=szl (k:=w35.heap.size+1) hb36 (by first|go_size|fail)|have y36_3:=Nat.one_pos))
       refine hK.out _ _ (fun _=>(bq (by with_reducible repeat' first|assumption|constructor|go_size))) ?_
       clear hK K
       refine tb 3 (.tuple #[iv s36 A36 n36 c36,iv t36 B36 m36 d36]) [4,5] rfl (by kernel_rfl) pk rfl (by intros;go_simp) (bq (by with_reducible repeat' first|assumption|constructor|go_size)) ?_
       simp only [ppq]
       refine tb 4 (iv s36 A36 n36 c36) [8] rfl (by kernel_rfl) pk rfl (by intros;go_simp) (bq (by with_reducible repeat' first|assumption|constructor|go_size)) ?_
       simp only [ppq]
       refine tb 5 (iv t36 B36 m36 d36) [9] rfl (by kernel_rfl) pk rfl (by intros;go_simp) (bq (by with_reducible repeat' first|assumption|constructor|go_size)) ?_
       simp only [ppq]
       refine ja0 (rs:=[6]) (by kernel_rfl) (by simp) (AllT.cons rfl (fun K hK=> ?_) AllT.nil)
       go_simp
       refine hK.out _ _ (fun _=>(bq (by with_reducible repeat' first|assumption|constructor|go_size))) ?_
       clear hK K
      case' o20=>
       go_simp
       refine hK.out _ _ (fun _=>(bq (by with_reducible repeat' first|assumption|constructor|go_size))) ?_
       clear hK K
       refine ja0 (rs:=[2]) (by kernel_rfl) (by simp) (AllT.cons rfl (fun K hK=> ?_) AllT.nil)
       go_simp
       go_wp2_with ((go_at_call 102;(with_reducible refine (jap (q:=n / 2) (r:=n % 2) rfl rfl (HRN.out.below (bq (by with_reducible repeat' first|assumption|constructor|go_size))) (by with_reducible repeat first|assumption|apply rZ|refine rP ?_ rfl (by simp [go_sem,hc35])) HLN.out HL2.out (by decide)).mono ?_);rintro e36 w36 ⟨s36,A36,n36,c36,t36,B36,m36,d36,rfl,hr36,hq36,hb36⟩;obtain ⟨hc36,hf36,_⟩:=bc0 hb36);(first|have y36_0:=szl (k:=S.heap.size) hb36 (by first|go_size|fail)|have y36_0:=Nat.one_pos);(first|have y36_1:=szl (k:=S.heap.size+1) hb36 (by first|go_size|fail)|have y36_1:=Nat.one_pos);(first|have y36_2:=szl (k:=w35.heap.size) hb36 (by first|go_size|fail)|have y36_2:=Nat.one_pos);(first|have y36_3:=szl (k:=w35.heap.size+1) hb36 (by first|go_size|fail)|have y36_3:=Nat.one_pos))
       refine hK.out _ _ (fun _=>(bq (by with_reducible repeat' first|assumption|constructor|go_size))) ?_
       clear hK K
       refine tb 3 (.tuple #[iv s36 A36 n36 c36,iv t36 B36 m36 d36]) [4,5] rfl (by kernel_rfl) pk rfl (by intros;go_simp) (bq (by with_reducible repeat' first|assumption|constructor|go_size)) ?_
       simp only [ppq]
       refine tb 4 (iv s36 A36 n36 c36) [8] rfl (by kernel_rfl) pk rfl (by intros;go_simp) (bq (by with_reducible repeat' first|assumption|constructor|go_size)) ?_
       simp only [ppq]
       refine tb 5 (iv t36 B36 m36 d36) [9] rfl (by kernel_rfl) pk rfl (by intros;go_simp) (bq (by with_reducible repeat' first|assumption|constructor|go_size)) ?_
       simp only [ppq]
     case' o18=>
      go_simp
      refine hK.out _ _ (fun _=>(bq (by with_reducible repeat' first|assumption|constructor|go_size))) ?_
      clear hK K
      refine ja0 (rs:=[1]) (by kernel_rfl) (by simp) (AllT.cons rfl (fun K hK=> ?_) AllT.nil)
      go_simp
      go_wp2_with ((go_at_call 48;(with_reducible refine mi0 (jbE 2 _ HR2.out) fun w35 s35 A35 n35 c35 hr35 hb35 hc35 hf35 _=> ?_));(first|have y35_0:=szl (k:=S.heap.size) hb35 (by first|go_size|fail)|have y35_0:=Nat.one_pos);(first|have y35_1:=szl (k:=S.heap.size+1) hb35 (by first|go_size|fail)|have y35_1:=Nat.one_pos))
      refine hK.out _ _ (fun _=>(bq (by with_reducible repeat' first|assumption|constructor|go_size))) ?_
      clear hK K
      refine ja0 (rs:=[2]) (by kernel_rfl) (by simp) (AllT.cons rfl (fun K hK=> ?_) AllT.nil)
      go_simp
      go_wp2_with ((go_at_call 102;(with_reducible refine (jap (q:=n / 2) (r:=n % 2) rfl rfl (HRN.out.below (bq (by with_reducible repeat' first|assumption|constructor|go_size))) (by with_reducible repeat first|assumption|apply rZ|refine rP ?_ rfl (by simp [go_sem,hc35])) HLN.out HL2.out (by decide)).mono ?_);rintro e36 w36 ⟨s36,A36,n36,c36,t36,B36,m36,d36,rfl,hr36,hq36,hb36⟩;obtain ⟨hc36,hf36,_⟩:=bc0 hb36);(first|have y36_0:=szl (k:=S.heap.size) hb36 (by first|go_size|fail)|have y36_0:=Nat.one_pos);(first|have y36_1:=szl (k:=S.heap.size+1) hb36 (by first|go_size|fail)|have y36_1:=Nat.one_pos);(first|have y36_2:=szl (k:=w35.heap.size) hb36 (by first|go_size|fail)|have y36_2:=Nat.one_pos);(first|have y36_3:=szl (k:=w35.heap.size+1) hb36 (by first|go_size|fail)|have y36_3:=Nat.one_pos))
      refine hK.out _ _ (fun _=>(bq (by with_reducible repeat' first|assumption|constructor|go_size))) ?_
      clear hK K
      refine tb 3 (.tuple #[iv s36 A36 n36 c36,iv t36 B36 m36 d36]) [4,5] rfl (by kernel_rfl) pk rfl (by intros;go_simp) (bq (by with_reducible repeat' first|assumption|constructor|go_size)) ?_
      simp only [ppq]
      refine tb 4 (iv s36 A36 n36 c36) [8] rfl (by kernel_rfl) pk rfl (by intros;go_simp) (bq (by with_reducible repeat' first|assumption|constructor|go_size)) ?_
      simp only [ppq]
      refine tb 5 (iv t36 B36 m36 d36) [9] rfl (by kernel_rfl) pk rfl (by intros;go_simp) (bq (by with_reducible repeat' first|assumption|constructor|go_size)) ?_
      simp only [ppq]
    all_goals
     have g1:=hb35.size
     have g2:=hb36.size
     (try simp at g1 g2)
     refine rd1 8 (by kernel_rfl) rfl (fun K hK=> ?_)
     go_simp
     refine hK.out _ _ (fun _=>(bq (by with_reducible repeat' first|assumption|constructor|go_size))) ?_
     clear hK K
     refine rd1 9 (by kernel_rfl) rfl (fun K hK=> ?_)
     go_simp
     refine hK.out _ _ (fun _=>(bq (by with_reducible repeat' first|assumption|constructor|go_size))) ?_
     clear hK K
     refine ja2 (by kernel_rfl) ?_ _
     go_wp2_with (fail)
     go_meet
     exact ⟨_,t36,B36,m36,d36,rfl,(by omega),(by (try simp);(try omega)),(bq (by with_reducible repeat' first|assumption|constructor|go_size)),(by with_reducible repeat first|assumption|apply rZ|refine rP ?_ rfl (by simp [go_sem,hc35,hc36,y35_0,y35_1,y36_0,y36_1,y36_2,y36_3,jbx,nls y35_0,nls y35_1,nl y35_0,(nl y35_0).symm,nl y36_0,(nl y36_0).symm,nl y36_2,(nl y36_2).symm])),by simp [go_sem,hc35,hc36,y35_0,y35_1,y36_0,y36_1,y36_2,y36_3,jbx,nls y35_0,nls y35_1,nl y35_0,(nl y35_0).symm,nl y36_0,(nl y36_0).symm,nl y36_2,(nl y36_2).symm],by simp [go_sem,hc35,hc36,y35_0,y35_1,y36_0,y36_1,y36_2,y36_3,jbx,nls y35_0,nls y35_1,nl y35_0,(nl y35_0).symm,nl y36_0,(nl y36_0).symm,nl y36_2,(nl y36_2).symm]⟩
   case rest=>
    obtain ⟨bd,sd,Ad,nd,cd,rfl,obd,ozd,hbd,hrd,qd0,qd1⟩:=hcut
    have _:=bm hbd
    obtain ⟨Z,hWZ⟩:∃x,wc=x:=⟨_,rfl⟩
    have mZ:Below S.heap.size S Z:=by rw [←hWZ];exact hbd
    have cZ_0:=ja6 mZ cS_0
    have cZ_1:=ja6 mZ cS_1
    have cZ_2:=ja6 mZ cS_2
    have cZ_3:=ja6 mZ cS_3
    have cZ_4:=ja6 mZ cS_4
    have cZ_5:=ja6 mZ cS_5
    have cZ_6:=ja6 mZ cS_6
    have cZ_7:=ja6 mZ cS_7
    have cZ_8:=ja6 mZ cS_8
    have cZ_9:=ja6 mZ cS_9
    have cZ_10:=ja6 mZ cS_10
    have cZ_11:=ja6 mZ cS_11
    have cZ_12:=ja6 mZ cS_12
    have cZ_13:=ja6 mZ cS_13
    have cZ_14:=ja6 mZ cS_14
    have cZ_15:=ja6 mZ cS_15
    have cZ_16:=ja6 mZ cS_16
    have cZ_17:=ja6 mZ cS_17
    have cZ_18:=ja6 mZ cS_18
    have cZ_19:=ja6 mZ cS_19
    have fZ_0:=jaq mZ zS_2 fS_0
    have fZ_1:=jaq mZ zS_4 fS_1
    have zZ_0:=Nat.lt_of_lt_of_le zS_0 mZ.size
    have zZ_1:=Nat.lt_of_lt_of_le zS_1 mZ.size
    have zZ_2:=Nat.lt_of_lt_of_le zS_2 mZ.size
    have zZ_3:=Nat.lt_of_lt_of_le zS_3 mZ.size
    have zZ_4:=Nat.lt_of_lt_of_le zS_4 mZ.size
    have zZ_5:=Nat.lt_of_lt_of_le zS_5 mZ.size
    have bZ:=jiz bS mZ
    have _:=bm bZ
    replace HRS:=qh (HRS.out.below mZ)
    replace HRN:=qh (HRN.out.below mZ)
    replace HX:=qh (HX.out.below mZ)
    replace HR7:=qh (HR7.out.below mZ)
    (try rw [hWZ])
    clear mZ bS cS_0 cS_1 cS_2 cS_3 cS_4 cS_5 cS_6 cS_7 cS_8 cS_9 cS_10 cS_11 cS_12 cS_13 cS_14 cS_15 cS_16 cS_17 cS_18 cS_19 fS_0 fS_1 zS_0 zS_1 zS_2 zS_3 zS_4 zS_5
    have HRD:Hid (Rep Z sd Ad nd cd (n % 2)):=qh (by rw [←hWZ];exact hrd)
    have cZ_20:Z.cell? ⟨bd,0,none⟩=some (.int .i64 sd):=by rw [←hWZ];exact qd0
    have cZ_21:Z.cell? ⟨bd,1,none⟩=some (.slice Ad nd cd):=by rw [←hWZ];exact qd1
    have zZ_6:bd < Z.heap.size:=by rw [←hWZ];exact ozd
    clear hWZ hbd hrd qd0 qd1 ozd
    go_upto_region 8 with (fail)
    go_cut [48] (fun u wx=>u= .bool up∧Below Z.heap.size Z wx)
    case first=>
     refine ja3 (fun w'=>Below Z.heap.size Z w') [] (by kernel_rfl) ?_
     refine tb 1 (.pointer (some ⟨w.heap.size+1,0,none⟩)) [2] rfl (by kernel_rfl) pk rfl (by intros;go_simp) bq0 ?_
     simp only [ppq]
     refine tb 2 (bs kind) [3] rfl (by kernel_rfl) pk rfl (by intros;go_simp) bq0 ?_
     simp only [ppq]
     refine tb 5 (.int .i64 half) [9] rfl (by kernel_rfl) pk rfl (by intros;go_simp) bq0 ?_
     simp only [ppq]
     refine tb 6 (iv sd Ad nd cd) [7] rfl (by kernel_rfl) pk rfl (by intros;go_simp) bq0 ?_
     simp only [ppq]
     refine ja0 (rs:=[0]) (by kernel_rfl) (by simp) (AllT.cons rfl (fun K hK=> ?_) AllT.nil)
     go_simp
     go_wp2_with (go_at_call 98;(with_reducible refine (jcb).mono ?_);rintro e39 w39 ⟨rfl,rfl⟩)
     refine hK.out _ _ (fun _=>(bq (by with_reducible repeat' first|assumption|constructor|go_size))) ?_
     clear hK K
     refine ja0 (rs:=[3,7]) (by kernel_rfl) (by simp) (AllT.cons rfl (fun K hK=> ?o21) (AllT.cons rfl (fun K hK=> ?o22) AllT.nil))
     case' o21=>
      go_simp
      rw [jmq (by first|exact jbG (by simp)|(rw [hb46.block _ (by simp)];exact jbG (by simp))) HV.out]
      go_simp
      refine hK.out _ _ (fun _=>(bq (by with_reducible repeat' first|assumption|constructor|go_size))) ?_
      clear hK K
      refine tb 4 (.func (.func g) #[] #[]) [9] rfl (by kernel_rfl) pk rfl (by intros;go_simp) (bq (by with_reducible repeat' first|assumption|constructor|go_size)) ?_
      simp only [ppq]
      refine ja0 (rs:=[7]) (by kernel_rfl) (by simp) (AllT.cons rfl (fun K hK=> ?_) AllT.nil)
      go_simp
      go_wp2_with (go_at_call 46;(with_reducible refine mo0 (jaF HO.out (HRD.out.below (bq (by with_reducible repeat' first|assumption|constructor|go_size)))) fun w46 hb46 hc46 hf46 _=> ?_))
      refine hK.out _ _ (fun _=>(bq (by with_reducible repeat' first|assumption|constructor|go_size))) ?_
      clear hK K
      refine tb 8 (.bool (so != 0)) [9] rfl (by kernel_rfl) pk rfl (by intros;go_simp) (bq (by with_reducible repeat' first|assumption|constructor|go_size)) ?_
      simp only [ppq]
      refine ja0 (rs:=[9]) (by kernel_rfl) (by simp) (AllT.cons rfl (fun K hK=> ?_) AllT.nil)
      go_simp
      rw [jft HG.out,Oper.upon_enter]
      (with_reducible refine (jpc HG.out HUP.out).mono ?_)
      rintro e48 w48 ⟨rfl,hb48⟩;have _:=bm hb48
      go_simp
      refine hK.out _ _ (fun _=>(bq (by with_reducible repeat' first|assumption|constructor|go_size))) ?_
      clear hK K
     case' o22=>
      go_simp
      go_wp2_with (go_at_call 46;(with_reducible refine mo0 (jaF HO.out (HRD.out.below (bq (by with_reducible repeat' first|assumption|constructor|go_size)))) fun w46 hb46 hc46 hf46 _=> ?_))
      refine hK.out _ _ (fun _=>(bq (by with_reducible repeat' first|assumption|constructor|go_size))) ?_
      clear hK K
      refine tb 8 (.bool (so != 0)) [9] rfl (by kernel_rfl) pk rfl (by intros;go_simp) (bq (by with_reducible repeat' first|assumption|constructor|go_size)) ?_
      simp only [ppq]
      refine ja0 (rs:=[3]) (by kernel_rfl) (by simp) (AllT.cons rfl (fun K hK=> ?_) AllT.nil)
      go_simp
      rw [jmq (by first|exact jbG (by simp)|(rw [hb46.block _ (by simp)];exact jbG (by simp))) HV.out]
      go_simp
      refine hK.out _ _ (fun _=>(bq (by with_reducible repeat' first|assumption|constructor|go_size))) ?_
      clear hK K
      refine tb 4 (.func (.func g) #[] #[]) [9] rfl (by kernel_rfl) pk rfl (by intros;go_simp) (bq (by with_reducible repeat' first|assumption|constructor|go_size)) ?_
      simp only [ppq]
      refine ja0 (rs:=[9]) (by kernel_rfl) (by simp) (AllT.cons rfl (fun K hK=> ?_) AllT.nil)
      go_simp
      rw [jft HG.out,Oper.upon_enter]
      (with_reducible refine (jpc HG.out HUP.out).mono ?_)
      rintro e48 w48 ⟨rfl,hb48⟩;have _:=bm hb48
      go_simp
      refine hK.out _ _ (fun _=>(bq (by with_reducible repeat' first|assumption|constructor|go_size))) ?_
      clear hK K
     all_goals
      refine ja2 (by kernel_rfl) ?_ _
      go_wp2_with (fail)
      go_meet
      exact ⟨rfl,(bq (by with_reducible repeat' first|assumption|constructor|go_size))⟩
    case rest=>
     obtain ⟨rfl,hbe⟩:=hcut
     have _:=bm hbe
     obtain ⟨V,hWV⟩:∃x,wc=x:=⟨_,rfl⟩
     have mV:Below Z.heap.size Z V:=by rw [←hWV];exact hbe
     have cV_0:=ja6 mV cZ_0
     have cV_1:=ja6 mV cZ_1
     have cV_2:=ja6 mV cZ_2
     have cV_3:=ja6 mV cZ_3
     have cV_4:=ja6 mV cZ_4
     have cV_5:=ja6 mV cZ_5
     have cV_6:=ja6 mV cZ_6
     have cV_7:=ja6 mV cZ_7
     have cV_8:=ja6 mV cZ_8
     have cV_9:=ja6 mV cZ_9
     have cV_10:=ja6 mV cZ_10
     have cV_11:=ja6 mV cZ_11
     have cV_12:=ja6 mV cZ_12
     have cV_13:=ja6 mV cZ_13
     have cV_14:=ja6 mV cZ_14
     have cV_15:=ja6 mV cZ_15
     have cV_16:=ja6 mV cZ_16
     have cV_17:=ja6 mV cZ_17
     have cV_18:=ja6 mV cZ_18
     have cV_19:=ja6 mV cZ_19
     have cV_20:=ja6 mV cZ_20
     have cV_21:=ja6 mV cZ_21
     have fV_0:=jaq mV zZ_2 fZ_0
     have fV_1:=jaq mV zZ_4 fZ_1
     have zV_0:=Nat.lt_of_lt_of_le zZ_0 mV.size
     have zV_1:=Nat.lt_of_lt_of_le zZ_1 mV.size
     have zV_2:=Nat.lt_of_lt_of_le zZ_2 mV.size
     have zV_3:=Nat.lt_of_lt_of_le zZ_3 mV.size
     have zV_4:=Nat.lt_of_lt_of_le zZ_4 mV.size
     have zV_5:=Nat.lt_of_lt_of_le zZ_5 mV.size
     have zV_6:=Nat.lt_of_lt_of_le zZ_6 mV.size
     have bV:=jiz bZ mV
     have _:=bm bV
     replace HRS:=qh (HRS.out.below mV)
     replace HRN:=qh (HRN.out.below mV)
     replace HX:=qh (HX.out.below mV)
     replace HR7:=qh (HR7.out.below mV)
     (try rw [hWV])
     clear mV bZ cZ_0 cZ_1 cZ_2 cZ_3 cZ_4 cZ_5 cZ_6 cZ_7 cZ_8 cZ_9 cZ_10 cZ_11 cZ_12 cZ_13 cZ_14 cZ_15 cZ_16 cZ_17 cZ_18 cZ_19 cZ_20 cZ_21 fZ_0 fZ_1 zZ_0 zZ_1 zZ_2 zZ_3 zZ_4 zZ_5 zZ_6
     clear hWV hbe
     cases up
     ·have HZ3:Hid (((n:Int):Rat)*s=z):=qh (by have:=HZ2.out;simpa using this)
      clear HZ2 HZ1 HZ0 HUP
      go_upto_region 10 with (fail)
      refine ja3 (fun w'=>Below V.heap.size V w') [4] (by kernel_rfl) ?_
      refine tb 0 (iv s3 A3 n3 c3) [1] rfl (by kernel_rfl) pk rfl (by intros;go_simp) bq0 ?_
      simp only [ppq]
      refine tb 2 (fv s1 A1 n1 c1 t1 B1 m1 d1) [3] rfl (by kernel_rfl) pk rfl (by intros;go_simp) bq0 ?_
      simp only [ppq]
      refine rd1 1 (by kernel_rfl) rfl (fun K hK=> ?_)
      go_simp
      go_wp2_with (go_at_call 50;(with_reducible refine mf3 w (jba (x:=((n:Int):Rat)) rfl (HRN.out.below (bq (by with_reducible repeat' first|assumption|constructor|go_size)))) (by go_size) fun w53 s53 A53 n53 c53 t53 B53 m53 d53 hr53 hq53 hb53 hc53 hf53 z53_0 z53_1 z53_2 _=> ?_))
      have sS53:=qh (bst bq0 hb53)
      refine hK.out _ _ (fun _=>sS53.out) ?_
      clear hK K
      refine rd1 3 (by kernel_rfl) rfl (fun K hK=> ?_)
      go_simp
      go_wp2_with (go_at_call 60;(with_reducible refine mf3 w (jaA (p+600) 600 HZ3.out ⟨(by with_reducible repeat first|assumption|apply rZ|refine rP ?_ rfl (by simp [go_sem,hc53])),(by with_reducible repeat first|assumption|apply rZ|refine rP ?_ rfl (by simp [go_sem,hc53]))⟩ (HRS.out.below (bq (by with_reducible repeat' first|assumption|constructor|go_size))) HSN.out HSS.out (by have:=HP.out;omega)) (by go_size) fun w55 s55 A55 n55 c55 t55 B55 m55 d55 hr55 hq55 hb55 hc55 hf55 z55_0 z55_1 z55_2 _=> ?_))
      have sS55:=qh (bst sS53.out hb55)
      refine hK.out _ _ (fun _=>sS55.out) ?_
      clear hK K
      refine rd1 4 (by kernel_rfl) rfl (fun K hK=> ?_)
      go_simp
      refine hK.out _ _ (fun h=>(h (by decide)).elim) ?_
      clear hK K
      refine ja2 (by kernel_rfl) ?_ _
      go_wp2
      exact bodyPost_ret (v:= .agg #[.int .i64 (s55), .slice (A55) (n55) (c55), .int .i64 (t55), .slice (B55) (m55) (d55)]) (by simp [results,Tryz.results55,go_sem,hc55,hf55,hc53,hf53,z53_2,zV_2,cV_6,cV_7,cV_8,cV_9,fV_0]) rfl (jam rfl ⟨(by with_reducible repeat first|assumption|apply rZ|refine rP ?_ rfl (by simp [go_sem,hc55,hf55,hc53,hf53,z53_2,zV_2,cV_6,cV_7,cV_8,cV_9,fV_0])),(by with_reducible repeat first|assumption|apply rZ|refine rP ?_ rfl (by simp [go_sem,hc55,hf55,hc53,hf53,z53_2,zV_2,cV_6,cV_7,cV_8,cV_9,fV_0]))⟩ (bq (by with_reducible repeat' first|assumption|constructor|go_size)))
     ·have HZ3:Hid (((n+1:Int):Rat)*s=z):=qh (by have:=HZ2.out;simpa using this)
      clear HZ2 HZ1 HZ0 HUP
      go_upto_region 9 with (fail)
      refine ja3 (fun w'=>Below V.heap.size V w') [3] (by kernel_rfl) ?_
      refine tb 0 (iv s3 A3 n3 c3) [2] rfl (by kernel_rfl) pk rfl (by intros;go_simp) bq0 ?_
      simp only [ppq]
      refine rd1 1 (by kernel_rfl) rfl (fun K hK=> ?_)
      go_simp
      go_wp2_with ((go_at_call 48;(with_reducible refine mi3 w (jbE 1 _ HR1.out) (by go_size) fun w50 s50 A50 n50 c50 hr50 hb50 hc50 hf50 z50_0 z50_1 z50_2 _=> ?_));(first|have y50_0:=szl (k:=b5) hb50 (by first|go_size|fail)|have y50_0:=Nat.one_pos);(first|have y50_1:=szl (k:=b6) hb50 (by first|go_size|fail)|have y50_1:=Nat.one_pos))
      have sS50:=qh (bst bq0 hb50)
      refine hK.out _ _ (fun _=>sS50.out) ?_
      clear hK K
      refine rd1 2 (by kernel_rfl) rfl (fun K hK=> ?_)
      go_simp
      go_wp2_with ((go_at_call 103;(with_reducible refine mi3 w (jcT (HRN.out.below (bq (by with_reducible repeat' first|assumption|constructor|go_size))) (by with_reducible repeat first|assumption|apply rZ|refine rP ?_ rfl (by simp [go_sem,hc50])) HLN.out HL1.out) (by go_size) fun w51 s51 A51 n51 c51 hr51 hb51 hc51 hf51 z51_0 z51_1 z51_2 _=> ?_));(first|have y51_0:=szl (k:=b5) hb51 (by first|go_size|fail)|have y51_0:=Nat.one_pos);(first|have y51_1:=szl (k:=b6) hb51 (by first|go_size|fail)|have y51_1:=Nat.one_pos))
      have sS51:=qh (bst sS50.out hb51)
      refine hK.out _ _ (fun _=>sS51.out) ?_
      clear hK K
      refine rd1 3 (by kernel_rfl) rfl (fun K hK=> ?_)
      go_simp
      refine hK.out _ _ (fun h=>(h (by decide)).elim) ?_
      clear hK K
      refine ja2 (by kernel_rfl) ?_ _
      go_upto_region 10 with (fail)
      obtain ⟨U,hWU⟩:∃x,(w51.setCell ⟨b6,0,none⟩ (.int .i64 s51)).setCell ⟨b6,1,none⟩ (.slice A51 n51 c51)=x:=⟨_,rfl⟩
      have cU_0:U.cell? ⟨w.heap.size+1+1,0,none⟩=some (.int .i64 0):=(by rw [←hWU];simp [go_sem,hc51,hc50,y50_0,y50_1,z50_2,y51_0,y51_1,z51_2,zV_2,zV_3,zV_4,cV_6,cV_7,cV_8,cV_9,cV_10,cV_11,cV_12,cV_13,cV_14,cV_15,nl o56,nl (Nat.lt_trans o25 o56)])
      have cU_1:U.cell? ⟨w.heap.size+1+1,1,none⟩=some (.slice none 0 0):=(by rw [←hWU];simp [go_sem,hc51,hc50,y50_0,y50_1,z50_2,y51_0,y51_1,z51_2,zV_2,zV_3,zV_4,cV_6,cV_7,cV_8,cV_9,cV_10,cV_11,cV_12,cV_13,cV_14,cV_15,nl o56,nl (Nat.lt_trans o25 o56)])
      have cU_2:U.cell? ⟨w.heap.size+1+1,2,none⟩=some (.int .i64 0):=(by rw [←hWU];simp [go_sem,hc51,hc50,y50_0,y50_1,z50_2,y51_0,y51_1,z51_2,zV_2,zV_3,zV_4,cV_6,cV_7,cV_8,cV_9,cV_10,cV_11,cV_12,cV_13,cV_14,cV_15,nl o56,nl (Nat.lt_trans o25 o56)])
      have cU_3:U.cell? ⟨w.heap.size+1+1,3,none⟩=some (.slice none 0 0):=(by rw [←hWU];simp [go_sem,hc51,hc50,y50_0,y50_1,z50_2,y51_0,y51_1,z51_2,zV_2,zV_3,zV_4,cV_6,cV_7,cV_8,cV_9,cV_10,cV_11,cV_12,cV_13,cV_14,cV_15,nl o56,nl (Nat.lt_trans o25 o56)])
      have cU_4:U.cell? ⟨b5,0,none⟩=some (.int .i64 s1):=(by rw [←hWU];simp [go_sem,hc51,hc50,y50_0,y50_1,z50_2,y51_0,y51_1,z51_2,zV_2,zV_3,zV_4,cV_6,cV_7,cV_8,cV_9,cV_10,cV_11,cV_12,cV_13,cV_14,cV_15,nl o56,nl (Nat.lt_trans o25 o56)])
      have cU_5:U.cell? ⟨b5,1,none⟩=some (.slice A1 n1 c1):=(by rw [←hWU];simp [go_sem,hc51,hc50,y50_0,y50_1,z50_2,y51_0,y51_1,z51_2,zV_2,zV_3,zV_4,cV_6,cV_7,cV_8,cV_9,cV_10,cV_11,cV_12,cV_13,cV_14,cV_15,nl o56,nl (Nat.lt_trans o25 o56)])
      have cU_6:U.cell? ⟨b5,2,none⟩=some (.int .i64 t1):=(by rw [←hWU];simp [go_sem,hc51,hc50,y50_0,y50_1,z50_2,y51_0,y51_1,z51_2,zV_2,zV_3,zV_4,cV_6,cV_7,cV_8,cV_9,cV_10,cV_11,cV_12,cV_13,cV_14,cV_15,nl o56,nl (Nat.lt_trans o25 o56)])
      have cU_7:U.cell? ⟨b5,3,none⟩=some (.slice B1 m1 d1):=(by rw [←hWU];simp [go_sem,hc51,hc50,y50_0,y50_1,z50_2,y51_0,y51_1,z51_2,zV_2,zV_3,zV_4,cV_6,cV_7,cV_8,cV_9,cV_10,cV_11,cV_12,cV_13,cV_14,cV_15,nl o56,nl (Nat.lt_trans o25 o56)])
      have cU_8:U.cell? ⟨b6,0,none⟩=some (.int .i64 s51):=(by rw [←hWU];simp [go_sem,hc51,hc50,y50_0,y50_1,z50_2,y51_0,y51_1,z51_2,zV_2,zV_3,zV_4,cV_6,cV_7,cV_8,cV_9,cV_10,cV_11,cV_12,cV_13,cV_14,cV_15,nl o56,nl (Nat.lt_trans o25 o56)])
      have cU_9:U.cell? ⟨b6,1,none⟩=some (.slice A51 n51 c51):=(by rw [←hWU];simp [go_sem,hc51,hc50,y50_0,y50_1,z50_2,y51_0,y51_1,z51_2,zV_2,zV_3,zV_4,cV_6,cV_7,cV_8,cV_9,cV_10,cV_11,cV_12,cV_13,cV_14,cV_15,nl o56,nl (Nat.lt_trans o25 o56)])
      have fU_0:∀o,U.frozen? ⟨w.heap.size+1+1,o,none⟩=false:=(by intro o;rw [←hWU];simp [go_sem,hf51,hf50,y50_0,y50_1,z50_2,y51_0,y51_1,z51_2,zV_2,zV_3,zV_4,fV_0])
      have bU:Below w.heap.size w U:=(by rw [←hWU];exact (bq (by with_reducible repeat' first|assumption|constructor|go_size)))
      have _:=bm bU
      simp only [hWU]
      have zU_0:w.heap.size+1+1 < U.heap.size:=(by rw [←hWU];have g1:=hb50.size;have g2:=hb51.size;(try simp at g1 g2);(try simp);omega)
      have zU_1:b5 < U.heap.size:=(by rw [←hWU];have g1:=hb50.size;have g2:=hb51.size;(try simp at g1 g2);(try simp);omega)
      have zU_2:b6 < U.heap.size:=(by rw [←hWU];have g1:=hb50.size;have g2:=hb51.size;(try simp at g1 g2);(try simp);omega)
      have hrs1:=HRS.out.num.below (show Below V.heap.size V w51 from (bq (by with_reducible repeat' first|assumption|constructor|go_size)))
      have hrs2:=HRS.out.den.below (show Below V.heap.size V w51 from (bq (by with_reducible repeat' first|assumption|constructor|go_size)))
      have HRS2:Hid (RepF U s1 A1 n1 c1 t1 B1 m1 d1 s):=qh (by rw [←hWU];exact ⟨(by with_reducible repeat first|assumption|apply rZ|refine rP ?_ rfl (by simp [go_sem,hc51,hc50,y50_0,y50_1,z50_2,y51_0,y51_1,z51_2,zV_2,zV_3,zV_4,cV_14,cV_15])),(by with_reducible repeat first|assumption|apply rZ|refine rP ?_ rfl (by simp [go_sem,hc51,hc50,y50_0,y50_1,z50_2,y51_0,y51_1,z51_2,zV_2,zV_3,zV_4,cV_14,cV_15]))⟩)
      have HRN2:Hid (Rep U s51 A51 n51 c51 (n+1)):=qh (by rw [←hWU];exact (by with_reducible repeat first|assumption|apply rZ|refine rP ?_ rfl (by simp [go_sem,hc51,hc50,y50_0,y50_1,z50_2,y51_0,y51_1,z51_2,zV_2,zV_3,zV_4,cV_14,cV_15])))
      clear y50_0 y50_1 y51_0 y51_1 z50_0 z50_1 z50_2 z51_0 z51_1 z51_2 hWU hb50 hb51 hc50 hc51 hf50 hf51 hr50 hr51 hrs1 hrs2
      refine ja3 (fun w'=>Below U.heap.size U w') [4] (by kernel_rfl) ?_
      refine tb 0 (iv s51 A51 n51 c51) [1] rfl (by kernel_rfl) pk rfl (by intros;go_simp) bq0 ?_
      simp only [ppq]
      refine tb 2 (fv s1 A1 n1 c1 t1 B1 m1 d1) [3] rfl (by kernel_rfl) pk rfl (by intros;go_simp) bq0 ?_
      simp only [ppq]
      refine rd1 1 (by kernel_rfl) rfl (fun K hK=> ?_)
      go_simp
      go_wp2_with (go_at_call 50;(with_reducible refine mf3 w (jba (x:=((n+1:Int):Rat)) rfl (HRN2.out.below (bq (by with_reducible repeat' first|assumption|constructor|go_size)))) (by go_size) fun w53 s53 A53 n53 c53 t53 B53 m53 d53 hr53 hq53 hb53 hc53 hf53 z53_0 z53_1 z53_2 _=> ?_))
      have sS53:=qh (bst bq0 hb53)
      refine hK.out _ _ (fun _=>sS53.out) ?_
      clear hK K
      refine rd1 3 (by kernel_rfl) rfl (fun K hK=> ?_)
      go_simp
      go_wp2_with (go_at_call 60;(with_reducible refine mf3 w (jaA (p+601) 600 HZ3.out ⟨(by with_reducible repeat first|assumption|apply rZ|refine rP ?_ rfl (by simp [go_sem,hc53])),(by with_reducible repeat first|assumption|apply rZ|refine rP ?_ rfl (by simp [go_sem,hc53]))⟩ (HRS2.out.below (bq (by with_reducible repeat' first|assumption|constructor|go_size))) HSN1.out HSS.out (by have:=HP.out;omega)) (by go_size) fun w55 s55 A55 n55 c55 t55 B55 m55 d55 hr55 hq55 hb55 hc55 hf55 z55_0 z55_1 z55_2 _=> ?_))
      have sS55:=qh (bst sS53.out hb55)
      refine hK.out _ _ (fun _=>sS55.out) ?_
      clear hK K
      refine rd1 4 (by kernel_rfl) rfl (fun K hK=> ?_)
      go_simp
      refine hK.out _ _ (fun h=>(h (by decide)).elim) ?_
      clear hK K
      refine ja2 (by kernel_rfl) ?_ _
      go_wp2
      exact bodyPost_ret (v:= .agg #[.int .i64 (s55), .slice (A55) (n55) (c55), .int .i64 (t55), .slice (B55) (m55) (d55)]) (by simp [results,Tryz.results55,go_sem,hc55,hf55,hc53,hf53,z53_2,zU_0,cU_0,cU_1,cU_2,cU_3,fU_0]) rfl (jam rfl ⟨(by with_reducible repeat first|assumption|apply rZ|refine rP ?_ rfl (by simp [go_sem,hc55,hf55,hc53,hf53,z53_2,zU_0,cU_0,cU_1,cU_2,cU_3,fU_0])),(by with_reducible repeat first|assumption|apply rZ|refine rP ?_ rfl (by simp [go_sem,hc55,hf55,hc53,hf53,z53_2,zU_0,cU_0,cU_1,cU_2,cU_3,fU_0]))⟩ (bq (by with_reducible repeat' first|assumption|constructor|go_size)))
end
end Go.Proofs.YtmaldbpmnneaaaaGreatDoor
