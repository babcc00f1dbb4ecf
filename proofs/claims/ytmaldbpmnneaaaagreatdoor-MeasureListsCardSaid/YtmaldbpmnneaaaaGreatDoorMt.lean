/- Parts. -/
import Derived.Test.YtmaldbpmnneaaaaGreatDoorMlG
set_option linter.all false
set_option maxRecDepth 100000
set_option maxHeartbeats 8000000
namespace Go.Proofs.YtmaldbpmnneaaaaGreatDoor
open Go Go.RowKit


theorem Qv.fourAt {w:World} {T:TypeId} {b:Nat} {s1 t1 s2 t2 s3 t3 s4 t4:Int} {A1 B1 A2 B2 A3 B3 A4 B4:Option Addr} {n1 c1 m1 d1 n2 c2 m2 d2 n3 c3 m3 d3 n4 c4 m4 d4:Nat} {x y z u:Rat} (hb:b=w.heap.size)
  (h1:RepF (w.alloc (.cells #[.int .i64 s1, .slice A1 n1 c1, .int .i64 t1, .slice B1 m1 d1, .int .i64 s2, .slice A2 n2 c2, .int .i64 t2, .slice B2 m2 d2, .int .i64 s3, .slice A3 n3 c3, .int .i64 t3, .slice B3 m3 d3, .int .i64 s4, .slice A4 n4 c4, .int .i64 t4, .slice B4 m4 d4] T)) s1 A1 n1 c1 t1 B1 m1 d1 x)
  (h2:RepF (w.alloc (.cells #[.int .i64 s1, .slice A1 n1 c1, .int .i64 t1, .slice B1 m1 d1, .int .i64 s2, .slice A2 n2 c2, .int .i64 t2, .slice B2 m2 d2, .int .i64 s3, .slice A3 n3 c3, .int .i64 t3, .slice B3 m3 d3, .int .i64 s4, .slice A4 n4 c4, .int .i64 t4, .slice B4 m4 d4] T)) s2 A2 n2 c2 t2 B2 m2 d2 y)
  (h3:RepF (w.alloc (.cells #[.int .i64 s1, .slice A1 n1 c1, .int .i64 t1, .slice B1 m1 d1, .int .i64 s2, .slice A2 n2 c2, .int .i64 t2, .slice B2 m2 d2, .int .i64 s3, .slice A3 n3 c3, .int .i64 t3, .slice B3 m3 d3, .int .i64 s4, .slice A4 n4 c4, .int .i64 t4, .slice B4 m4 d4] T)) s3 A3 n3 c3 t3 B3 m3 d3 z)
  (h4:RepF (w.alloc (.cells #[.int .i64 s1, .slice A1 n1 c1, .int .i64 t1, .slice B1 m1 d1, .int .i64 s2, .slice A2 n2 c2, .int .i64 t2, .slice B2 m2 d2, .int .i64 s3, .slice A3 n3 c3, .int .i64 t3, .slice B3 m3 d3, .int .i64 s4, .slice A4 n4 c4, .int .i64 t4, .slice B4 m4 d4] T)) s4 A4 n4 c4 t4 B4 m4 d4 u):
  Qv (w.alloc (.cells #[.int .i64 s1, .slice A1 n1 c1, .int .i64 t1, .slice B1 m1 d1, .int .i64 s2, .slice A2 n2 c2, .int .i64 t2, .slice B2 m2 d2, .int .i64 s3, .slice A3 n3 c3, .int .i64 t3, .slice B3 m3 d3, .int .i64 s4, .slice A4 n4 c4, .int .i64 t4, .slice B4 m4 d4] T)) (some ⟨b,0,none⟩) 4 [x,y,z,u]:=by
 subst hb
 exact ⟨rfl,fun _=>⟨w.heap.size,0,rfl,by simp,fun j hj=>by
  have h:j=0∨j=1∨j=2∨j=3:=by omega
  rcases h with rfl|rfl|rfl|rfl
  ·exact ⟨⟨_,_,_,_,_,_,_,_,by simp,by simp,by simp,by simp,h1⟩⟩
  ·exact ⟨⟨_,_,_,_,_,_,_,_,by simp,by simp,by simp,by simp,h2⟩⟩
  ·exact ⟨⟨_,_,_,_,_,_,_,_,by simp,by simp,by simp,by simp,h3⟩⟩
  ·exact ⟨⟨_,_,_,_,_,_,_,_,by simp,by simp,by simp,by simp,h4⟩⟩⟩⟩
section
variable {w:World} {a1 a2 b1 b2:List UInt8} {x1 x2 y1 y2:Rat}
theorem jrs {lo hi:Rat} {tl th:List UInt8} {ke:Int} (hE:Env w) (hl1:a1.length < 4294967281) (hl2:a2.length < 4294967281) (hl3:b1.length < 4294967281) (hl4:b2.length < 4294967281)
  (hx1:IsNum a1 x1) (hx2:IsNum a2 x2) (hy1:IsNum b1 y1) (hy2:IsNum b2 y2) (hk:ja9 jau [(a1,a2),(b1,b2)]=0)
  (hlo:jcA (x1*y1) [x1*y2,x2*y1,x2*y2]=lo) (hhi:jcD (x1*y1) [x1*y2,x2*y1,x2*y2]=hi) (hS:StrQ lo) (hS':StrQ hi) (htl:jlA lo hi=tl) (hth:jl9 lo hi=th) (hke:jkX lo hi=ke):
  Calls Tryz.prog 21 #[sp a1 a2,sp b1 b2] w fun e w'=>e= .returned (.tuple #[sp tl th, .int .i64 ke])∧Below w.heap.size w w':=by
 have HLO:=qh hlo
 have HHI:=qh hhi
 have HS:=qh hS
 have HS':=qh hS'
 have HTL:=qh htl
 have HTH:=qh hth
 have HKE:=qh hke
 clear hlo hhi hS hS' htl hth hke
 have HE:=qh hE
 have HL1:=qh hl1
 have HL2:=qh hl2
 have HL3:=qh hl3
 have HL4:=qh hl4
 have HX1:=qh hx1
 have HX2:=qh hx2
 have HY1:=qh hy1
 have HY2:=qh hy2
 have HSX1:=qh hx1.sz
 have HSX2:=qh hx2.sz
 have HSY1:=qh hy1.sz
 have HSY2:=qh hy2.sz
 have HK:=qh hk
 clear hE hl1 hl2 hl3 hl4 hx1 hx2 hy1 hy2 hk
 go_enter Tryz.func21,Tryz.ntmps21
 go_upto_region 4 with ((go_at_call 57;(with_reducible refine mo3 w (je8 HK.out (HE.out.below bi) (Pv.twoAt (by simp)) (by omega) HL1.out HL2.out HL3.out HL4.out) (by go_size) fun w1 hb1 hc1 hf1 z1_0 z1_1 z1_2 _=> ?_)))
 obtain ⟨W,hWW⟩:∃x,w1=x:=⟨_,rfl⟩
 have cW_0:W.cell? ⟨w.heap.size,0,none⟩=some (bs a1):=(by rw [←hWW];simp [go_sem,hc1,z1_0,z1_1,z1_2])
 have cW_1:W.cell? ⟨w.heap.size,1,none⟩=some (bs a2):=(by rw [←hWW];simp [go_sem,hc1,z1_0,z1_1,z1_2])
 have cW_2:W.cell? ⟨w.heap.size+1,0,none⟩=some (bs b1):=(by rw [←hWW];simp [go_sem,hc1,z1_0,z1_1,z1_2])
 have cW_3:W.cell? ⟨w.heap.size+1,1,none⟩=some (bs b2):=(by rw [←hWW];simp [go_sem,hc1,z1_0,z1_1,z1_2])
 have cW_4:W.cell? ⟨w.heap.size+1+1,0,none⟩=some (bs []):=(by rw [←hWW];simp [go_sem,hc1,z1_0,z1_1,z1_2])
 have cW_5:W.cell? ⟨w.heap.size+1+1,1,none⟩=some (bs []):=(by rw [←hWW];simp [go_sem,hc1,z1_0,z1_1,z1_2])
 have fW_0:∀o,W.frozen? ⟨w.heap.size+1+1,o,none⟩=false:=(by intro o;rw [←hWW];simp [go_sem,hf1,z1_2])
 have zW_0:w.heap.size < W.heap.size:=(by rw [←hWW];first|assumption|(simp;done)|(simp;omega))
 have zW_1:w.heap.size+1 < W.heap.size:=(by rw [←hWW];first|assumption|(simp;done)|(simp;omega))
 have zW_2:w.heap.size+1+1 < W.heap.size:=(by rw [←hWW];first|assumption|(simp;done)|(simp;omega))
 have bW:Below w.heap.size w W:=(by rw [←hWW];exact bi)
 have _:=bm bW
 simp only [hWW]
 replace HE:=qh (HE.out.below bW)
 clear hWW hc1 hf1 hb1 z1_0 z1_1 z1_2
 go_cut [7,8] (fun u v wx=>∃b7 b8,u= .pointer (some ⟨b7,0,none⟩)∧v= .pointer (some ⟨b8,0,none⟩)∧b7 < wx.heap.size∧b8 < wx.heap.size∧Below W.heap.size W wx∧FAt wx b7 0 x1∧FAt wx b7 4 x2∧FAt wx b8 0 y1∧FAt wx b8 4 y2)
 case first=>
  refine ja3 (fun w'=>Below W.heap.size W w') [] (by kernel_rfl) ?_
  refine tb 0 (sp a1 a2) [1] rfl (by kernel_rfl) pk rfl (by intros;go_simp) bq0 ?_
  simp only [ppq]
  refine tb 2 (sp b1 b2) [3] rfl (by kernel_rfl) pk rfl (by intros;go_simp) bq0 ?_
  simp only [ppq]
  refine ja0 (rs:=[1,4,5]) (by kernel_rfl) (by simp) (AllT.cons rfl (fun K hK=> ?o1) (AllT.cons rfl (fun K hK=> ?o2) (AllT.cons rfl (fun K hK=> ?o3) AllT.nil)))
  case' o1=>
   go_simp
   go_wp2_with ((go_at_call 59;((with_reducible refine (jaP (HE.out.below bi) HX1.out HX2.out).mono ?_);rintro e19 w19 ⟨s19,A19,n19,c19,t19,B19,m19,d19,s20,A20,n20,c20,t20,B20,m20,d20,rfl,⟨hr19,hq19⟩,⟨hr20,hq20⟩,hb19⟩;have _:=bm hb19);obtain ⟨hc19,hf19,_⟩:=bc0 hb19);(first|have y19_0:=szl (k:=W.heap.size) hb19 (by first|go_size|fail)|have y19_0:=Nat.one_pos);(first|have y19_1:=szl (k:=W.heap.size+1) hb19 (by first|go_size|fail)|have y19_1:=Nat.one_pos);(first|have y19_2:=szl (k:=W.heap.size) hb19 (by first|go_size|fail)|have y19_2:=Nat.one_pos);(first|have y19_3:=szl (k:=W.heap.size) hb19 (by first|go_size|fail)|have y19_3:=Nat.one_pos))
   refine hK.out _ _ (fun _=>bi) ?_
   clear hK K
   refine ja0 (rs:=[3,4,5]) (by kernel_rfl) (by simp) (AllT.cons rfl (fun K hK=> ?o4) (AllT.cons rfl (fun K hK=> ?o5) (AllT.cons rfl (fun K hK=> ?o6) AllT.nil)))
   case' o4=>
    go_simp
    go_wp2_with ((go_at_call 59;((with_reducible refine (jaP (HE.out.below bi) HY1.out HY2.out).mono ?_);rintro e21 w21 ⟨s21,A21,n21,c21,t21,B21,m21,d21,s22,A22,n22,c22,t22,B22,m22,d22,rfl,⟨hr21,hq21⟩,⟨hr22,hq22⟩,hb21⟩;have _:=bm hb21);obtain ⟨hc21,hf21,_⟩:=bc0 hb21);(first|have y21_0:=szl (k:=W.heap.size) hb21 (by first|go_size|fail)|have y21_0:=Nat.one_pos);(first|have y21_1:=szl (k:=W.heap.size+1) hb21 (by first|go_size|fail)|have y21_1:=Nat.one_pos);(first|have y21_2:=szl (k:=w19.heap.size) hb21 (by first|go_size|fail)|have y21_2:=Nat.one_pos);(first|have y21_3:=szl (k:=w19.heap.size+1) hb21 (by first|go_size|fail)|have y21_3:=Nat.one_pos))
    refine hK.out _ _ (fun _=>bi) ?_
    clear hK K
    refine ja0 (rs:=[4,5]) (by kernel_rfl) (by simp) (AllT.cons rfl (fun K hK=> ?o7) (AllT.cons rfl (fun K hK=> ?o8) AllT.nil))
    case' o7=>
     go_simp
     refine hK.out _ _ (fun _=>bi) ?_
     clear hK K
     refine ja0 (rs:=[5]) (by kernel_rfl) (by simp) (AllT.cons rfl (fun K hK=> ?_) AllT.nil)
     go_simp
     refine hK.out _ _ (fun _=>bi) ?_
     clear hK K
    case' o8=>
     go_simp
     refine hK.out _ _ (fun _=>bi) ?_
     clear hK K
     refine ja0 (rs:=[4]) (by kernel_rfl) (by simp) (AllT.cons rfl (fun K hK=> ?_) AllT.nil)
     go_simp
     refine hK.out _ _ (fun _=>bi) ?_
     clear hK K
   case' o5=>
    go_simp
    refine hK.out _ _ (fun _=>bi) ?_
    clear hK K
    refine ja0 (rs:=[3,5]) (by kernel_rfl) (by simp) (AllT.cons rfl (fun K hK=> ?o9) (AllT.cons rfl (fun K hK=> ?o10) AllT.nil))
    case' o9=>
     go_simp
     go_wp2_with ((go_at_call 59;((with_reducible refine (jaP (HE.out.below bi) HY1.out HY2.out).mono ?_);rintro e21 w21 ⟨s21,A21,n21,c21,t21,B21,m21,d21,s22,A22,n22,c22,t22,B22,m22,d22,rfl,⟨hr21,hq21⟩,⟨hr22,hq22⟩,hb21⟩;have _:=bm hb21);obtain ⟨hc21,hf21,_⟩:=bc0 hb21);(first|have y21_0:=szl (k:=W.heap.size) hb21 (by first|go_size|fail)|have y21_0:=Nat.one_pos);(first|have y21_1:=szl (k:=W.heap.size+1) hb21 (by first|go_size|fail)|have y21_1:=Nat.one_pos);(first|have y21_2:=szl (k:=w19.heap.size) hb21 (by first|go_size|fail)|have y21_2:=Nat.one_pos);(first|have y21_3:=szl (k:=w19.heap.size+1) hb21 (by first|go_size|fail)|have y21_3:=Nat.one_pos))
     refine hK.out _ _ (fun _=>bi) ?_
     clear hK K
     refine ja0 (rs:=[5]) (by kernel_rfl) (by simp) (AllT.cons rfl (fun K hK=> ?_) AllT.nil)
     go_simp
     refine hK.out _ _ (fun _=>bi) ?_
     clear hK K
    case' o10=>
     go_simp
     refine hK.out _ _ (fun _=>bi) ?_
     clear hK K
     refine ja0 (rs:=[3]) (by kernel_rfl) (by simp) (AllT.cons rfl (fun K hK=> ?_) AllT.nil)
     go_simp
     go_wp2_with ((go_at_call 59;((with_reducible refine (jaP (HE.out.below bi) HY1.out HY2.out).mono ?_);rintro e21 w21 ⟨s21,A21,n21,c21,t21,B21,m21,d21,s22,A22,n22,c22,t22,B22,m22,d22,rfl,⟨hr21,hq21⟩,⟨hr22,hq22⟩,hb21⟩;have _:=bm hb21);obtain ⟨hc21,hf21,_⟩:=bc0 hb21);(first|have y21_0:=szl (k:=W.heap.size) hb21 (by first|go_size|fail)|have y21_0:=Nat.one_pos);(first|have y21_1:=szl (k:=W.heap.size+1) hb21 (by first|go_size|fail)|have y21_1:=Nat.one_pos);(first|have y21_2:=szl (k:=w19.heap.size) hb21 (by first|go_size|fail)|have y21_2:=Nat.one_pos);(first|have y21_3:=szl (k:=w19.heap.size+1) hb21 (by first|go_size|fail)|have y21_3:=Nat.one_pos))
     refine hK.out _ _ (fun _=>bi) ?_
     clear hK K
   case' o6=>
    go_simp
    refine hK.out _ _ (fun _=>bi) ?_
    clear hK K
    refine ja0 (rs:=[3,4]) (by kernel_rfl) (by simp) (AllT.cons rfl (fun K hK=> ?o11) (AllT.cons rfl (fun K hK=> ?o12) AllT.nil))
    case' o11=>
     go_simp
     go_wp2_with ((go_at_call 59;((with_reducible refine (jaP (HE.out.below bi) HY1.out HY2.out).mono ?_);rintro e21 w21 ⟨s21,A21,n21,c21,t21,B21,m21,d21,s22,A22,n22,c22,t22,B22,m22,d22,rfl,⟨hr21,hq21⟩,⟨hr22,hq22⟩,hb21⟩;have _:=bm hb21);obtain ⟨hc21,hf21,_⟩:=bc0 hb21);(first|have y21_0:=szl (k:=W.heap.size) hb21 (by first|go_size|fail)|have y21_0:=Nat.one_pos);(first|have y21_1:=szl (k:=W.heap.size+1) hb21 (by first|go_size|fail)|have y21_1:=Nat.one_pos);(first|have y21_2:=szl (k:=w19.heap.size) hb21 (by first|go_size|fail)|have y21_2:=Nat.one_pos);(first|have y21_3:=szl (k:=w19.heap.size+1) hb21 (by first|go_size|fail)|have y21_3:=Nat.one_pos))
     refine hK.out _ _ (fun _=>bi) ?_
     clear hK K
     refine ja0 (rs:=[4]) (by kernel_rfl) (by simp) (AllT.cons rfl (fun K hK=> ?_) AllT.nil)
     go_simp
     refine hK.out _ _ (fun _=>bi) ?_
     clear hK K
    case' o12=>
     go_simp
     refine hK.out _ _ (fun _=>bi) ?_
     clear hK K
     refine ja0 (rs:=[3]) (by kernel_rfl) (by simp) (AllT.cons rfl (fun K hK=> ?_) AllT.nil)
     go_simp
     go_wp2_with ((go_at_call 59;((with_reducible refine (jaP (HE.out.below bi) HY1.out HY2.out).mono ?_);rintro e21 w21 ⟨s21,A21,n21,c21,t21,B21,m21,d21,s22,A22,n22,c22,t22,B22,m22,d22,rfl,⟨hr21,hq21⟩,⟨hr22,hq22⟩,hb21⟩;have _:=bm hb21);obtain ⟨hc21,hf21,_⟩:=bc0 hb21);(first|have y21_0:=szl (k:=W.heap.size) hb21 (by first|go_size|fail)|have y21_0:=Nat.one_pos);(first|have y21_1:=szl (k:=W.heap.size+1) hb21 (by first|go_size|fail)|have y21_1:=Nat.one_pos);(first|have y21_2:=szl (k:=w19.heap.size) hb21 (by first|go_size|fail)|have y21_2:=Nat.one_pos);(first|have y21_3:=szl (k:=w19.heap.size+1) hb21 (by first|go_size|fail)|have y21_3:=Nat.one_pos))
     refine hK.out _ _ (fun _=>bi) ?_
     clear hK K
  case' o2=>
   go_simp
   refine hK.out _ _ (fun _=>bi) ?_
   clear hK K
   refine ja0 (rs:=[1,5]) (by kernel_rfl) (by simp) (AllT.cons rfl (fun K hK=> ?o13) (AllT.cons rfl (fun K hK=> ?o14) AllT.nil))
   case' o13=>
    go_simp
    go_wp2_with ((go_at_call 59;((with_reducible refine (jaP (HE.out.below bi) HX1.out HX2.out).mono ?_);rintro e19 w19 ⟨s19,A19,n19,c19,t19,B19,m19,d19,s20,A20,n20,c20,t20,B20,m20,d20,rfl,⟨hr19,hq19⟩,⟨hr20,hq20⟩,hb19⟩;have _:=bm hb19);obtain ⟨hc19,hf19,_⟩:=bc0 hb19);(first|have y19_0:=szl (k:=W.heap.size) hb19 (by first|go_size|fail)|have y19_0:=Nat.one_pos);(first|have y19_1:=szl (k:=W.heap.size+1) hb19 (by first|go_size|fail)|have y19_1:=Nat.one_pos);(first|have y19_2:=szl (k:=W.heap.size) hb19 (by first|go_size|fail)|have y19_2:=Nat.one_pos);(first|have y19_3:=szl (k:=W.heap.size) hb19 (by first|go_size|fail)|have y19_3:=Nat.one_pos))
    refine hK.out _ _ (fun _=>bi) ?_
    clear hK K
    refine ja0 (rs:=[3,5]) (by kernel_rfl) (by simp) (AllT.cons rfl (fun K hK=> ?o15) (AllT.cons rfl (fun K hK=> ?o16) AllT.nil))
    case' o15=>
     go_simp
     go_wp2_with ((go_at_call 59;((with_reducible refine (jaP (HE.out.below bi) HY1.out HY2.out).mono ?_);rintro e21 w21 ⟨s21,A21,n21,c21,t21,B21,m21,d21,s22,A22,n22,c22,t22,B22,m22,d22,rfl,⟨hr21,hq21⟩,⟨hr22,hq22⟩,hb21⟩;have _:=bm hb21);obtain ⟨hc21,hf21,_⟩:=bc0 hb21);(first|have y21_0:=szl (k:=W.heap.size) hb21 (by first|go_size|fail)|have y21_0:=Nat.one_pos);(first|have y21_1:=szl (k:=W.heap.size+1) hb21 (by first|go_size|fail)|have y21_1:=Nat.one_pos);(first|have y21_2:=szl (k:=w19.heap.size) hb21 (by first|go_size|fail)|have y21_2:=Nat.one_pos);(first|have y21_3:=szl (k:=w19.heap.size+1) hb21 (by first|go_size|fail)|have y21_3:=Nat.one_pos))
     refine hK.out _ _ (fun _=>bi) ?_
     clear hK K
     refine ja0 (rs:=[5]) (by kernel_rfl) (by simp) (AllT.cons rfl (fun K hK=> ?_) AllT.nil)
     go_simp
     refine hK.out _ _ (fun _=>bi) ?_
     clear hK K
    case' o16=>
     go_simp
     refine hK.out _ _ (fun _=>bi) ?_
     clear hK K
     refine ja0 (rs:=[3]) (by kernel_rfl) (by simp) (AllT.cons rfl (fun K hK=> ?_) AllT.nil)
     go_simp
     go_wp2_with ((go_at_call 59;((with_reducible refine (jaP (HE.out.below bi) HY1.out HY2.out).mono ?_);rintro e21 w21 ⟨s21,A21,n21,c21,t21,B21,m21,d21,s22,A22,n22,c22,t22,B22,m22,d22,rfl,⟨hr21,hq21⟩,⟨hr22,hq22⟩,hb21⟩;have _:=bm hb21);obtain ⟨hc21,hf21,_⟩:=bc0 hb21);(first|have y21_0:=szl (k:=W.heap.size) hb21 (by first|go_size|fail)|have y21_0:=Nat.one_pos);(first|have y21_1:=szl (k:=W.heap.size+1) hb21 (by first|go_size|fail)|have y21_1:=Nat.one_pos);(first|have y21_2:=szl (k:=w19.heap.size) hb21 (by first|go_size|fail)|have y21_2:=Nat.one_pos);(first|have y21_3:=szl (k:=w19.heap.size+1) hb21 (by first|go_size|fail)|have y21_3:=Nat.one_pos))
     refine hK.out _ _ (fun _=>bi) ?_
     clear hK K
   case' o14=>
    go_simp
    refine hK.out _ _ (fun _=>bi) ?_
    clear hK K
    refine ja0 (rs:=[1]) (by kernel_rfl) (by simp) (AllT.cons rfl (fun K hK=> ?_) AllT.nil)
    go_simp
    go_wp2_with ((go_at_call 59;((with_reducible refine (jaP (HE.out.below bi) HX1.out HX2.out).mono ?_);rintro e19 w19 ⟨s19,A19,n19,c19,t19,B19,m19,d19,s20,A20,n20,c20,t20,B20,m20,d20,rfl,⟨hr19,hq19⟩,⟨hr20,hq20⟩,hb19⟩;have _:=bm hb19);obtain ⟨hc19,hf19,_⟩:=bc0 hb19);(first|have y19_0:=szl (k:=W.heap.size) hb19 (by first|go_size|fail)|have y19_0:=Nat.one_pos);(first|have y19_1:=szl (k:=W.heap.size+1) hb19 (by first|go_size|fail)|have y19_1:=Nat.one_pos);(first|have y19_2:=szl (k:=W.heap.size) hb19 (by first|go_size|fail)|have y19_2:=Nat.one_pos);(first|have y19_3:=szl (k:=W.heap.size) hb19 (by first|go_size|fail)|have y19_3:=Nat.one_pos))
    refine hK.out _ _ (fun _=>bi) ?_
    clear hK K
    refine ja0 (rs:=[3]) (by kernel_rfl) (by simp) (AllT.cons rfl (fun K hK=> ?_) AllT.nil)
    go_simp
    go_wp2_with ((go_at_call 59;((with_reducible refine (jaP (HE.out.below bi) HY1.out HY2.out).mono ?_);rintro e21 w21 ⟨s21,A21,n21,c21,t21,B21,m21,d21,s22,A22,n22,c22,t22,B22,m22,d22,rfl,⟨hr21,hq21⟩,⟨hr22,hq22⟩,hb21⟩;have _:=bm hb21);obtain ⟨hc21,hf21,_⟩:=bc0 hb21);(first|have y21_0:=szl (k:=W.heap.size) hb21 (by first|go_size|fail)|have y21_0:=Nat.one_pos);(first|have y21_1:=szl (k:=W.heap.size+1) hb21 (by first|go_size|fail)|have y21_1:=Nat.one_pos);(first|have y21_2:=szl (k:=w19.heap.size) hb21 (by first|go_size|fail)|have y21_2:=Nat.one_pos);(first|have y21_3:=szl (k:=w19.heap.size+1) hb21 (by first|go_size|fail)|have y21_3:=Nat.one_pos))
    refine hK.out _ _ (fun _=>bi) ?_
    clear hK K
  case' o3=>
   go_simp
   refine hK.out _ _ (fun _=>bi) ?_
   clear hK K
   refine ja0 (rs:=[1,4]) (by kernel_rfl) (by simp) (AllT.cons rfl (fun K hK=> ?o17) (AllT.cons rfl (fun K hK=> ?o18) AllT.nil))
   case' o17=>
    go_simp
    go_wp2_with ((go_at_call 59;((with_reducible refine (jaP (HE.out.below bi) HX1.out HX2.out).mono ?_);rintro e19 w19 ⟨s19,A19,n19,c19,t19,B19,m19,d19,s20,A20,n20,c20,t20,B20,m20,d20,rfl,⟨hr19,hq19⟩,⟨hr20,hq20⟩,hb19⟩;have _:=bm hb19);obtain ⟨hc19,hf19,_⟩:=bc0 hb19);(first|have y19_0:=szl (k:=W.heap.size) hb19 (by first|go_size|fail)|have y19_0:=Nat.one_pos);(first|have y19_1:=szl (k:=W.heap.size+1) hb19 (by first|go_size|fail)|have y19_1:=Nat.one_pos);(first|have y19_2:=szl (k:=W.heap.size) hb19 (by first|go_size|fail)|have y19_2:=Nat.one_pos);(first|have y19_3:=szl (k:=W.heap.size) hb19 (by first|go_size|fail)|have y19_3:=Nat.one_pos))
    refine hK.out _ _ (fun _=>bi) ?_
    clear hK K
    refine ja0 (rs:=[3,4]) (by kernel_rfl) (by simp) (AllT.cons rfl (fun K hK=> ?o19) (AllT.cons rfl (fun K hK=> ?o20) AllT.nil))
    case' o19=>
     go_simp
     go_wp2_with ((go_at_call 59;((with_reducible refine (jaP (HE.out.below bi) HY1.out HY2.out).mono ?_);rintro e21 w21 ⟨s21,A21,n21,c21,t21,B21,m21,d21,s22,A22,n22,c22,t22,B22,m22,d22,rfl,⟨hr21,hq21⟩,⟨hr22,hq22⟩,hb21⟩;have _:=bm hb21);obtain ⟨hc21,hf21,_⟩:=bc0 hb21);(first|have y21_0:=szl (k:=W.heap.size) hb21 (by first|go_size|fail)|have y21_0:=Nat.one_pos);(first|have y21_1:=szl (k:=W.heap.size+1) hb21 (by first|go_size|fail)|have y21_1:=Nat.one_pos);(first|have y21_2:=szl (k:=w19.heap.size) hb21 (by first|go_size|fail)|have y21_2:=Nat.one_pos);(first|have y21_3:=szl (k:=w19.heap.size+1) hb21 (by first|go_size|fail)|have y21_3:=Nat.one_pos))
     refine hK.out _ _ (fun _=>bi) ?_
     clear hK K
     refine ja0 (rs:=[4]) (by kernel_rfl) (by simp) (AllT.cons rfl (fun K hK=> ?_) AllT.nil)
     go_simp
     refine hK.out _ _ (fun _=>bi) ?_
     clear hK K
    case' o20=>
     go_simp
     refine hK.out _ _ (fun _=>bi) ?_
     clear hK K
     refine ja0 (rs:=[3]) (by kernel_rfl) (by simp) (AllT.cons rfl (fun K hK=> ?_) AllT.nil)
     go_simp
     go_wp2_with ((go_at_call 59;((with_reducible refine (jaP (HE.out.below bi) HY1.out HY2.out).mono ?_);rintro e21 w21 ⟨s21,A21,n21,c21,t21,B21,m21,d21,s22,A22,n22,c22,t22,B22,m22,d22,rfl,⟨hr21,hq21⟩,⟨hr22,hq22⟩,hb21⟩;have _:=bm hb21);obtain ⟨hc21,hf21,_⟩:=bc0 hb21);(first|have y21_0:=szl (k:=W.heap.size) hb21 (by first|go_size|fail)|have y21_0:=Nat.one_pos);(first|have y21_1:=szl (k:=W.heap.size+1) hb21 (by first|go_size|fail)|have y21_1:=Nat.one_pos);(first|have y21_2:=szl (k:=w19.heap.size) hb21 (by first|go_size|fail)|have y21_2:=Nat.one_pos);(first|have y21_3:=szl (k:=w19.heap.size+1) hb21 (by first|go_size|fail)|have y21_3:=Nat.one_pos))
     refine hK.out _ _ (fun _=>bi) ?_
     clear hK K
   case' o18=>
    go_simp
    refine hK.out _ _ (fun _=>bi) ?_
    clear hK K
    refine ja0 (rs:=[1]) (by kernel_rfl) (by simp) (AllT.cons rfl (fun K hK=> ?_) AllT.nil)
    go_simp
    go_wp2_with ((go_at_call 59;((with_reducible refine (jaP (HE.out.below bi) HX1.out HX2.out).mono ?_);rintro e19 w19 ⟨s19,A19,n19,c19,t19,B19,m19,d19,s20,A20,n20,c20,t20,B20,m20,d20,rfl,⟨hr19,hq19⟩,⟨hr20,hq20⟩,hb19⟩;have _:=bm hb19);obtain ⟨hc19,hf19,_⟩:=bc0 hb19);(first|have y19_0:=szl (k:=W.heap.size) hb19 (by first|go_size|fail)|have y19_0:=Nat.one_pos);(first|have y19_1:=szl (k:=W.heap.size+1) hb19 (by first|go_size|fail)|have y19_1:=Nat.one_pos);(first|have y19_2:=szl (k:=W.heap.size) hb19 (by first|go_size|fail)|have y19_2:=Nat.one_pos);(first|have y19_3:=szl (k:=W.heap.size) hb19 (by first|go_size|fail)|have y19_3:=Nat.one_pos))
    refine hK.out _ _ (fun _=>bi) ?_
    clear hK K
    refine ja0 (rs:=[3]) (by kernel_rfl) (by simp) (AllT.cons rfl (fun K hK=> ?_) AllT.nil)
    go_simp
    go_wp2_with ((go_at_call 59;((with_reducible refine (jaP (HE.out.below bi) HY1.out HY2.out).mono ?_);rintro e21 w21 ⟨s21,A21,n21,c21,t21,B21,m21,d21,s22,A22,n22,c22,t22,B22,m22,d22,rfl,⟨hr21,hq21⟩,⟨hr22,hq22⟩,hb21⟩;have _:=bm hb21);obtain ⟨hc21,hf21,_⟩:=bc0 hb21);(first|have y21_0:=szl (k:=W.heap.size) hb21 (by first|go_size|fail)|have y21_0:=Nat.one_pos);(first|have y21_1:=szl (k:=W.heap.size+1) hb21 (by first|go_size|fail)|have y21_1:=Nat.one_pos);(first|have y21_2:=szl (k:=w19.heap.size) hb21 (by first|go_size|fail)|have y21_2:=Nat.one_pos);(first|have y21_3:=szl (k:=w19.heap.size+1) hb21 (by first|go_size|fail)|have y21_3:=Nat.one_pos))
    refine hK.out _ _ (fun _=>bi) ?_
    clear hK K
  all_goals
   have g1:=hb19.size
   have g2:=hb21.size
   (try simp at g1 g2)
   refine rd1 6 (by kernel_rfl) rfl (fun K hK=> ?_)
   go_simp
   refine hK.out _ _ (fun _=>bi) ?_
   clear hK K
   refine rd1 7 (by kernel_rfl) rfl (fun K hK=> ?_)
   go_simp
   refine hK.out _ _ (fun _=>bi) ?_
   clear hK K
   refine ja2 (by kernel_rfl) ?_ _
   go_wp2_with (fail)
   go_meet
   refine ⟨_,_,rfl,rfl,(by (try simp);(try omega)),(by (try simp);(try omega)),bi,⟨⟨s19,A19,n19,c19,t19,B19,m19,d19, ?_, ?_, ?_, ?_,⟨?_, ?_⟩⟩⟩,⟨⟨s20,A20,n20,c20,t20,B20,m20,d20, ?_, ?_, ?_, ?_,⟨?_, ?_⟩⟩⟩,⟨⟨s21,A21,n21,c21,t21,B21,m21,d21, ?_, ?_, ?_, ?_,⟨?_, ?_⟩⟩⟩,⟨⟨s22,A22,n22,c22,t22,B22,m22,d22, ?_, ?_, ?_, ?_,⟨?_, ?_⟩⟩⟩⟩
   all_goals (first
    | (simp [go_sem,hc19,hc21,hf19,hf21,y19_0,y19_1,y21_0,y21_1,y21_2,y21_3,jbx,nls y19_0,nls y19_1,nl y19_0,(nl y19_0).symm,nl y21_0,(nl y21_0).symm,nl y21_2,(nl y21_2).symm];done)
    | exact (by with_reducible repeat first|assumption|apply rZ|refine rP ?_ rfl (by simp [go_sem,hc19,hc21,hf19,hf21,y19_0,y19_1,y21_0,y21_1,y21_2,y21_3,jbx,nls y19_0,nls y19_1,nl y19_0,(nl y19_0).symm,nl y21_0,(nl y21_0).symm,nl y21_2,(nl y21_2).symm])))
 case rest=>
  obtain ⟨b7,b8,rfl,rfl,z7,z8,hbc,hf71,hf72,hf81,hf82⟩:=hcut
  have _:=bm hbc
  obtain ⟨V,hWV⟩:∃x,wc=x:=⟨_,rfl⟩
  have mV:Below W.heap.size W V:=by rw [←hWV];exact hbc
  have cV_0:=ja6 mV cW_0
  have cV_1:=ja6 mV cW_1
  have cV_2:=ja6 mV cW_2
  have cV_3:=ja6 mV cW_3
  have cV_4:=ja6 mV cW_4
  have cV_5:=ja6 mV cW_5
  have fV_0:=jaq mV zW_2 fW_0
  have zV_0:=Nat.lt_of_lt_of_le zW_0 mV.size
  have zV_1:=Nat.lt_of_lt_of_le zW_1 mV.size
  have zV_2:=Nat.lt_of_lt_of_le zW_2 mV.size
  have bV:=jiz bW mV
  have _:=bm bV
  replace HE:=qh (HE.out.below mV)
  (try rw [hWV])
  clear mV bW cW_0 cW_1 cW_2 cW_3 cW_4 cW_5 fW_0 zW_0 zW_1 zW_2
  rw [hWV] at z7 z8 hf71 hf72 hf81 hf82
  clear hWV hbc
  obtain ⟨s31,A31,n31,c31,t31,B31,m31,d31,k31_0,k31_1,k31_2,k31_3,hr31⟩:=hf71.at_
  obtain ⟨s32,A32,n32,c32,t32,B32,m32,d32,k32_0,k32_1,k32_2,k32_3,hr32⟩:=hf72.at_
  obtain ⟨s33,A33,n33,c33,t33,B33,m33,d33,k33_0,k33_1,k33_2,k33_3,hr33⟩:=hf81.at_
  obtain ⟨s34,A34,n34,c34,t34,B34,m34,d34,k34_0,k34_1,k34_2,k34_3,hr34⟩:=hf82.at_
  simp only [Nat.zero_add,Nat.reduceAdd] at k31_0 k31_1 k31_2 k31_3 k32_0 k32_1 k32_2 k32_3 k33_0 k33_1 k33_2 k33_3 k34_0 k34_1 k34_2 k34_3
  have HR31:=qh hr31
  have HR32:=qh hr32
  have HR33:=qh hr33
  have HR34:=qh hr34
  clear hr31 hr32 hr33 hr34 hf71 hf72 hf81 hf82
  go_upto_region 5 with (fail)
  refine ja3 (fun w'=>Below V.heap.size V w') [] (by kernel_rfl) ?_
  refine tb 0 (.pointer (some ⟨b7,0,none⟩)) [1] rfl (by kernel_rfl) pk rfl (by intros;go_simp) bq0 ?_
  simp only [ppq]
  refine tb 1 (fv s31 A31 n31 c31 t31 B31 m31 d31) [4] rfl (by kernel_rfl) pk rfl (by intros;go_simp) bq0 ?_
  simp only [ppq]
  refine tb 2 (.pointer (some ⟨b8,0,none⟩)) [3] rfl (by kernel_rfl) pk rfl (by intros;go_simp) bq0 ?_
  simp only [ppq]
  refine tb 3 (fv s33 A33 n33 c33 t33 B33 m33 d33) [4] rfl (by kernel_rfl) pk rfl (by intros;go_simp) bq0 ?_
  simp only [ppq]
  refine tb 5 (.pointer (some ⟨b7,0,none⟩)) [6] rfl (by kernel_rfl) pk rfl (by intros;go_simp) bq0 ?_
  simp only [ppq]
  refine tb 6 (fv s31 A31 n31 c31 t31 B31 m31 d31) [9] rfl (by kernel_rfl) pk rfl (by intros;go_simp) bq0 ?_
  simp only [ppq]
  refine tb 7 (.pointer (some ⟨b8,4,none⟩)) [8] rfl (by kernel_rfl) pk rfl (by intros;go_simp) bq0 ?_
  simp only [ppq]
  refine tb 8 (fv s34 A34 n34 c34 t34 B34 m34 d34) [9] rfl (by kernel_rfl) pk rfl (by intros;go_simp) bq0 ?_
  simp only [ppq]
  refine tb 10 (.pointer (some ⟨b7,4,none⟩)) [11] rfl (by kernel_rfl) pk rfl (by intros;go_simp) bq0 ?_
  simp only [ppq]
  refine tb 11 (fv s32 A32 n32 c32 t32 B32 m32 d32) [14] rfl (by kernel_rfl) pk rfl (by intros;go_simp) bq0 ?_
  simp only [ppq]
  refine tb 12 (.pointer (some ⟨b8,0,none⟩)) [13] rfl (by kernel_rfl) pk rfl (by intros;go_simp) bq0 ?_
  simp only [ppq]
  refine tb 13 (fv s33 A33 n33 c33 t33 B33 m33 d33) [14] rfl (by kernel_rfl) pk rfl (by intros;go_simp) bq0 ?_
  simp only [ppq]
  refine tb 15 (.pointer (some ⟨b7,4,none⟩)) [16] rfl (by kernel_rfl) pk rfl (by intros;go_simp) bq0 ?_
  simp only [ppq]
  refine tb 16 (fv s32 A32 n32 c32 t32 B32 m32 d32) [19] rfl (by kernel_rfl) pk rfl (by intros;go_simp) bq0 ?_
  simp only [ppq]
  refine tb 17 (.pointer (some ⟨b8,4,none⟩)) [18] rfl (by kernel_rfl) pk rfl (by intros;go_simp) bq0 ?_
  simp only [ppq]
  refine tb 18 (fv s34 A34 n34 c34 t34 B34 m34 d34) [19] rfl (by kernel_rfl) pk rfl (by intros;go_simp) bq0 ?_
  simp only [ppq]
  refine rd1 4 (by kernel_rfl) rfl (fun K hK=> ?_)
  go_simp
  go_wp2_with (go_at_call 60;(with_reducible refine mf0 (jaA 600 600 (z:=x1*y1) rfl (HR31.out.below bi) (HR33.out.below bi) HSX1.out HSY1.out (by omega)) fun w41 s41 A41 n41 c41 t41 B41 m41 d41 hr41 hq41 hb41 hc41 hf41 _=> ?_))
  have sS41:=qh (bst bq0 hb41)
  refine hK.out _ _ (fun _=>sS41.out) ?_
  clear hK K
  refine rd1 9 (by kernel_rfl) rfl (fun K hK=> ?_)
  go_simp
  go_wp2_with (go_at_call 60;(with_reducible refine mf0 (jaA 600 600 (z:=x1*y2) rfl (HR31.out.below bi) (HR34.out.below bi) HSX1.out HSY2.out (by omega)) fun w42 s42 A42 n42 c42 t42 B42 m42 d42 hr42 hq42 hb42 hc42 hf42 _=> ?_))
  have sS42:=qh (bst sS41.out hb42)
  refine hK.out _ _ (fun _=>sS42.out) ?_
  clear hK K
  refine rd1 14 (by kernel_rfl) rfl (fun K hK=> ?_)
  go_simp
  go_wp2_with (go_at_call 60;(with_reducible refine mf0 (jaA 600 600 (z:=x2*y1) rfl (HR32.out.below bi) (HR33.out.below bi) HSX2.out HSY1.out (by omega)) fun w43 s43 A43 n43 c43 t43 B43 m43 d43 hr43 hq43 hb43 hc43 hf43 _=> ?_))
  have sS43:=qh (bst sS42.out hb43)
  refine hK.out _ _ (fun _=>sS43.out) ?_
  clear hK K
  refine rd1 19 (by kernel_rfl) rfl (fun K hK=> ?_)
  go_simp
  go_wp2_with (go_at_call 60;(with_reducible refine mf0 (jaA 600 600 (z:=x2*y2) rfl (HR32.out.below bi) (HR34.out.below bi) HSX2.out HSY2.out (by omega)) fun w44 s44 A44 n44 c44 t44 B44 m44 d44 hr44 hq44 hb44 hc44 hf44 _=> ?_))
  have sS44:=qh (bst sS43.out hb44)
  refine hK.out _ _ (fun _=>sS44.out) ?_
  clear hK K
  refine rd1 20 (by kernel_rfl) rfl (fun K hK=> ?_)
  go_simp
  refine hK.out _ _ (fun _=>bi) ?_
  clear hK K
  refine rd1 21 (by kernel_rfl) rfl (fun K hK=> ?_)
  go_simp
  refine hK.out _ _ (fun _=>bi) ?_
  clear hK K
  refine ja2 (by kernel_rfl) ?_ _
  have HQ:=qh (Qv.fourAt (T:=76) (w:=w44) (s1:=s41) (A1:=A41) (n1:=n41) (c1:=c41) (t1:=t41) (B1:=B41) (m1:=m41) (d1:=d41) (s2:=s42) (A2:=A42) (n2:=n42) (c2:=c42) (t2:=t42) (B2:=B42) (m2:=m42) (d2:=d42) (s3:=s43) (A3:=A43) (n3:=n43) (c3:=c43) (t3:=t43) (B3:=B43) (m3:=m43) (d3:=d43) (s4:=s44) (A4:=A44) (n4:=n44) (c4:=c44) (t4:=t44) (B4:=B44) (m4:=m44) (d4:=d44) rfl ⟨(by with_reducible repeat first|assumption|apply rZ|refine rP ?_ rfl (by simp [go_sem,hc44])),(by with_reducible repeat first|assumption|apply rZ|refine rP ?_ rfl (by simp [go_sem,hc44]))⟩ ⟨(by with_reducible repeat first|assumption|apply rZ|refine rP ?_ rfl (by simp [go_sem,hc44])),(by with_reducible repeat first|assumption|apply rZ|refine rP ?_ rfl (by simp [go_sem,hc44]))⟩ ⟨(by with_reducible repeat first|assumption|apply rZ|refine rP ?_ rfl (by simp [go_sem,hc44])),(by with_reducible repeat first|assumption|apply rZ|refine rP ?_ rfl (by simp [go_sem,hc44]))⟩ ⟨(by with_reducible repeat first|assumption|apply rZ|refine rP ?_ rfl (by simp [go_sem,hc44])),(by with_reducible repeat first|assumption|apply rZ|refine rP ?_ rfl (by simp [go_sem,hc44]))⟩)
  obtain ⟨U,hWU⟩:∃x,w44.alloc (.cells #[.int .i64 s41, .slice A41 n41 c41, .int .i64 t41, .slice B41 m41 d41, .int .i64 s42, .slice A42 n42 c42, .int .i64 t42, .slice B42 m42 d42, .int .i64 s43, .slice A43 n43 c43, .int .i64 t43, .slice B43 m43 d43, .int .i64 s44, .slice A44 n44 c44, .int .i64 t44, .slice B44 m44 d44] 76)=x:=⟨_,rfl⟩
  have mU:Below V.heap.size V U:=by rw [←hWU];exact bi
  have cU_0:=ja6 mU cV_0
  have cU_1:=ja6 mU cV_1
  have cU_2:=ja6 mU cV_2
  have cU_3:=ja6 mU cV_3
  have cU_4:=ja6 mU cV_4
  have cU_5:=ja6 mU cV_5
  have fU_0:=jaq mU zV_2 fV_0
  have zU_0:=Nat.lt_of_lt_of_le zV_0 mU.size
  have zU_1:=Nat.lt_of_lt_of_le zV_1 mU.size
  have zU_2:=Nat.lt_of_lt_of_le zV_2 mU.size
  have bU:=jiz bV mU
  have _:=bm bU
  replace HE:=qh (HE.out.below mU)
  (try rw [hWU])
  clear mU bV cV_0 cV_1 cV_2 cV_3 cV_4 cV_5 fV_0 zV_0 zV_1 zV_2
  rw [hWU] at HQ
  have HS4:Hid (∀q∈ [x1*y1,x1*y2,x2*y1,x2*y2],Sz 1200 q):=qh (by
   intro q hq
   simp only [List.mem_cons,List.not_mem_nil,or_false] at hq
   rcases hq with rfl|rfl|rfl|rfl
   ·exact HSX1.out.mul HSY1.out
   ·exact HSX1.out.mul HSY2.out
   ·exact HSX2.out.mul HSY1.out
   ·exact HSX2.out.mul HSY2.out)
  have HLO2:Hid (jcA (List.getD [x1*y1,x1*y2,x2*y1,x2*y2] 0 0) (List.drop 1 [x1*y1,x1*y2,x2*y1,x2*y2])=lo):=qh HLO.out
  have HHI2:Hid (jcD (List.getD [x1*y1,x1*y2,x2*y1,x2*y2] 0 0) (List.drop 1 [x1*y1,x1*y2,x2*y1,x2*y2])=hi):=qh HHI.out
  clear hWU hb41 hb42 hb43 hb44 hc41 hc42 hc43 hc44 hf41 hf42 hf43 hf44 hr41 hr42 hr43 hr44 hq41 hq42 hq43 hq44 HLO HHI
  go_wp2_with (first
   | (go_at_call 31;(with_reducible refine mf3 w (jdY (HQ.out.below bi) (by omega) (by omega) HS4.out (by omega) HLO2.out) (by go_size) fun w51 s51 A51 n51 c51 t51 B51 m51 d51 hr51 hq51 hb51 hc51 hf51 z51_0 z51_1 z51_2 _=> ?_))
   | (go_at_call 32;(with_reducible refine mf3 w (je1 (HQ.out.below bi) (by omega) (by omega) HS4.out (by omega) HHI2.out) (by go_size) fun w52 s52 A52 n52 c52 t52 B52 m52 d52 hr52 hq52 hb52 hc52 hf52 z52_0 z52_1 z52_2 _=> ?_))
   | (go_at_call 30;(with_reducible refine mo3 w (jcw HTL.out HTH.out HKE.out (HE.out.below bi) ⟨(by with_reducible repeat first|assumption|apply rZ|refine rP ?_ rfl (by simp [go_sem,hc52])),(by with_reducible repeat first|assumption|apply rZ|refine rP ?_ rfl (by simp [go_sem,hc52]))⟩ ⟨hr52,hq52⟩ HS.out HS'.out) (by go_size) fun w53 hb53 hc53 hf53 z53_0 z53_1 z53_2 _=> ?_)))
  exact bodyPost_ret (v:= .tuple #[sp tl th, .int .i64 ke]) (by simp [results,Tryz.results21,go_sem,hc51,hc52,hc53,hf51,hf52,hf53,z51_2,z52_2,z53_2,zU_2,cU_4,cU_5,fU_0]) rfl ⟨rfl,bi⟩
end
end Go.Proofs.YtmaldbpmnneaaaaGreatDoor
