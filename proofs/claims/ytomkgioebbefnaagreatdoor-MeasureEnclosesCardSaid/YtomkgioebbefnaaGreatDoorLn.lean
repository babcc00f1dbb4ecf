/- Parts. -/
import Derived.Test.YtomkgioebbefnaaGreatDoorMt
set_option linter.all false
set_option maxRecDepth 100000
set_option maxHeartbeats 8000000
namespace Go.Proofs.YtomkgioebbefnaaGreatDoor
open Go Go.RowKit


section
variable {w:World} {a1 a2 b1 b2:List UInt8} {x1 x2 y1 y2:Rat}
theorem jq6 {lo hi:Rat} {tl th:List UInt8} {ke:Int} (hE:Env w) (hl1:a1.length < 4294967281) (hl2:a2.length < 4294967281) (hl3:b1.length < 4294967281) (hl4:b2.length < 4294967281)
  (hx1:IsNum a1 x1) (hx2:IsNum a2 x2) (hy1:IsNum b1 y1) (hy2:IsNum b2 y2) (hk:jac jaZ [(a1,a2),(b1,b2)]=0)
  (hlo:x1+y1=lo) (hhi:x2+y2=hi) (hS:StrQ lo) (hS':StrQ hi) (htl:jk9 lo hi=tl) (hth:jkE lo hi=th) (hke:jm7 lo hi=ke):
  Calls Tryz.prog 7 #[sp a1 a2,sp b1 b2] w fun e w'=>e= .returned (.tuple #[sp tl th, .int .i64 ke])∧Below w.heap.size w w':=by
 have HLO:=qh hlo
 have HHI:=qh hhi
 have HS:=qh hS
 have HS':=qh hS'
 have HTL:=qh htl
 have HTH:=qh hth
 have HKE:=qh hke
 clear hlo hhi hS hS' htl hth hke
 have HE:=qh hE
 have HL1:=qh hl1
 have HL2:=qh hl2
 have HL3:=qh hl3
 have HL4:=qh hl4
 have HX1:=qh hx1
 have HX2:=qh hx2
 have HY1:=qh hy1
 have HY2:=qh hy2
 have HSX1:=qh hx1.sz
 have HSX2:=qh hx2.sz
 have HSY1:=qh hy1.sz
 have HSY2:=qh hy2.sz
 have HK:=qh hk
 clear hE hl1 hl2 hl3 hl4 hx1 hx2 hy1 hy2 hk
 go_enter Tryz.func7,Tryz.ntmps7
 go_upto_region 4 with ((go_at_call 29;(with_reducible refine mo3 w (jbA HK.out (HE.out.below bi) (Pv.twoAt (by simp)) (by omega) HL1.out HL2.out HL3.out HL4.out) (by go_size) fun w1 hb1 hc1 hf1 z1_0 z1_1 z1_2 _=> ?_)))
 obtain ⟨W,hWW⟩:∃x,w1=x:=⟨_,rfl⟩
 have cW_0:W.cell? ⟨w.heap.size,0,none⟩=some (bs a1):=(by rw [←hWW];simp [go_sem,hc1,z1_0,z1_1,z1_2])
 have cW_1:W.cell? ⟨w.heap.size,1,none⟩=some (bs a2):=(by rw [←hWW];simp [go_sem,hc1,z1_0,z1_1,z1_2])
 have cW_2:W.cell? ⟨w.heap.size+1,0,none⟩=some (bs b1):=(by rw [←hWW];simp [go_sem,hc1,z1_0,z1_1,z1_2])
 have cW_3:W.cell? ⟨w.heap.size+1,1,none⟩=some (bs b2):=(by rw [←hWW];simp [go_sem,hc1,z1_0,z1_1,z1_2])
 have cW_4:W.cell? ⟨w.heap.size+1+1,0,none⟩=some (bs []):=(by rw [←hWW];simp [go_sem,hc1,z1_0,z1_1,z1_2])
 have cW_5:W.cell? ⟨w.heap.size+1+1,1,none⟩=some (bs []):=(by rw [←hWW];simp [go_sem,hc1,z1_0,z1_1,z1_2])
 have fW_0:∀o,W.frozen? ⟨w.heap.size+1+1,o,none⟩=false:=(by intro o;rw [←hWW];simp [go_sem,hf1,z1_2])
 have zW_0:w.heap.size < W.heap.size:=(by rw [←hWW];first|assumption|(simp;done)|(simp;omega))
 have zW_1:w.heap.size+1 < W.heap.size:=(by rw [←hWW];first|assumption|(simp;done)|(simp;omega))
 have zW_2:w.heap.size+1+1 < W.heap.size:=(by rw [←hWW];first|assumption|(simp;done)|(simp;omega))
 have bW:Below w.heap.size w W:=(by rw [←hWW];exact bi)
 have _:=bm bW
 simp only [hWW]
 replace HE:=qh (HE.out.below bW)
 clear hWW hc1 hf1 hb1 z1_0 z1_1 z1_2
 go_cut [7,8] (fun u v wx=>∃b7 b8,u= .pointer (some ⟨b7,0,none⟩)∧v= .pointer (some ⟨b8,0,none⟩)∧b7 < wx.heap.size∧b8 < wx.heap.size∧Below W.heap.size W wx∧FAt wx b7 0 x1∧FAt wx b7 4 x2∧FAt wx b8 0 y1∧FAt wx b8 4 y2)
 case first=>
  refine ja3 (fun w'=>Below W.heap.size W w') [] (by kernel_rfl) ?_
  refine tb 0 (sp a1 a2) [1] rfl (by kernel_rfl) pk rfl (by intros;go_simp) bq0 ?_
  simp only [ppq]
  refine tb 2 (sp b1 b2) [3] rfl (by kernel_rfl) pk rfl (by intros;go_simp) bq0 ?_
  simp only [ppq]
  refine ja0 (rs:=[1,4,5]) (by kernel_rfl) (by simp) (AllT.cons rfl (fun K hK=> ?o1) (AllT.cons rfl (fun K hK=> ?o2) (AllT.cons rfl (fun K hK=> ?o3) AllT.nil)))
  case' o1=>
   go_simp
   go_wp2_with ((go_at_call 31;((with_reducible refine (jae (HE.out.below bi) HX1.out HX2.out).mono ?_);rintro e19 w19 ⟨s19,A19,n19,c19,t19,B19,m19,d19,s20,A20,n20,c20,t20,B20,m20,d20,rfl,⟨hr19,hq19⟩,⟨hr20,hq20⟩,hb19⟩;have _:=bm hb19);obtain ⟨hc19,hf19,_⟩:=bc0 hb19);(first|have y19_0:=szl (k:=W.heap.size) hb19 (by first|go_size|fail)|have y19_0:=Nat.one_pos);(first|have y19_1:=szl (k:=W.heap.size+1) hb19 (by first|go_size|fail)|have y19_1:=Nat.one_pos);(first|have y19_2:=szl (k:=W.heap.size) hb19 (by first|go_size|fail)|have y19_2:=Nat.one_pos);(first|have y19_3:=szl (k:=W.heap.size) hb19 (by first|go_size|fail)|have y19_3:=Nat.one_pos))
   refine hK.out _ _ (fun _=>bi) ?_
   clear hK K
   refine ja0 (rs:=[3,4,5]) (by kernel_rfl) (by simp) (AllT.cons rfl (fun K hK=> ?o4) (AllT.cons rfl (fun K hK=> ?o5) (AllT.cons rfl (fun K hK=> ?o6) AllT.nil)))
   case' o4=>
    go_simp
    go_wp2_with ((go_at_call 31;((with_reducible refine (jae (HE.out.below bi) HY1.out HY2.out).mono ?_);rintro e21 w21 ⟨s21,A21,n21,c21,t21,B21,m21,d21,s22,A22,n22,c22,t22,B22,m22,d22,rfl,⟨hr21,hq21⟩,⟨hr22,hq22⟩,hb21⟩;have _:=bm hb21);obtain ⟨hc21,hf21,_⟩:=bc0 hb21);(first|have y21_0:=szl (k:=W.heap.size) hb21 (by first|go_size|fail)|have y21_0:=Nat.one_pos);(first|have y21_1:=szl (k:=W.heap.size+1) hb21 (by first|go_size|fail)|have y21_1:=Nat.one_pos);(first|have y21_2:=szl (k:=w19.heap.size) hb21 (by first|go_size|fail)|have y21_2:=Nat.one_pos);(first|have y21_3:=szl (k:=w19.heap.size+1) hb21 (by first|go_size|fail)|have y21_3:=Nat.one_pos))
    refine hK.out _ _ (fun _=>bi) ?_
    clear hK K
    refine ja0 (rs:=[4,5]) (by kernel_rfl) (by simp) (AllT.cons rfl (fun K hK=> ?o7) (AllT.cons rfl (fun K hK=> ?o8) AllT.nil))
    case' o7=>
     go_simp
     refine hK.out _ _ (fun _=>bi) ?_
     clear hK K
     refine ja0 (rs:=[5]) (by kernel_rfl) (by simp) (AllT.cons rfl (fun K hK=> ?_) AllT.nil)
     go_simp
     refine hK.out _ _ (fun _=>bi) ?_
     clear hK K
    case' o8=>
     go_simp
     refine hK.out _ _ (fun _=>bi) ?_
     clear hK K
     refine ja0 (rs:=[4]) (by kernel_rfl) (by simp) (AllT.cons rfl (fun K hK=> ?_) AllT.nil)
     go_simp
     refine hK.out _ _ (fun _=>bi) ?_
     clear hK K
   case' o5=>
    go_simp
    refine hK.out _ _ (fun _=>bi) ?_
    clear hK K
    refine ja0 (rs:=[3,5]) (by kernel_rfl) (by simp) (AllT.cons rfl (fun K hK=> ?o9) (AllT.cons rfl (fun K hK=> ?o10) AllT.nil))
    case' o9=>
     go_simp
     go_wp2_with ((go_at_call 31;((with_reducible refine (jae (HE.out.below bi) HY1.out HY2.out).mono ?_);rintro e21 w21 ⟨s21,A21,n21,c21,t21,B21,m21,d21,s22,A22,n22,c22,t22,B22,m22,d22,rfl,⟨hr21,hq21⟩,⟨hr22,hq22⟩,hb21⟩;have _:=bm hb21);obtain ⟨hc21,hf21,_⟩:=bc0 hb21);(first|have y21_0:=szl (k:=W.heap.size) hb21 (by first|go_size|fail)|have y21_0:=Nat.one_pos);(first|have y21_1:=szl (k:=W.heap.size+1) hb21 (by first|go_size|fail)|have y21_1:=Nat.one_pos);(first|have y21_2:=szl (k:=w19.heap.size) hb21 (by first|go_size|fail)|have y21_2:=Nat.one_pos);(first|have y21_3:=szl (k:=w19.heap.size+1) hb21 (by first|go_size|fail)|have y21_3:=Nat.one_pos))
     refine hK.out _ _ (fun _=>bi) ?_
     clear hK K
     refine ja0 (rs:=[5]) (by kernel_rfl) (by simp) (AllT.cons rfl (fun K hK=> ?_) AllT.nil)
     go_simp
     refine hK.out _ _ (fun _=>bi) ?_
     clear hK K
    case' o10=>
     go_simp
     refine hK.out _ _ (fun _=>bi) ?_
     clear hK K
     refine ja0 (rs:=[3]) (by kernel_rfl) (by simp) (AllT.cons rfl (fun K hK=> ?_) AllT.nil)
     go_simp
     go_wp2_with ((go_at_call 31;((with_reducible refine (jae (HE.out.below bi) HY1.out HY2.out).mono ?_);rintro e21 w21 ⟨s21,A21,n21,c21,t21,B21,m21,d21,s22,A22,n22,c22,t22,B22,m22,d22,rfl,⟨hr21,hq21⟩,⟨hr22,hq22⟩,hb21⟩;have _:=bm hb21);obtain ⟨hc21,hf21,_⟩:=bc0 hb21);(first|have y21_0:=szl (k:=W.heap.size) hb21 (by first|go_size|fail)|have y21_0:=Nat.one_pos);(first|have y21_1:=szl (k:=W.heap.size+1) hb21 (by first|go_size|fail)|have y21_1:=Nat.one_pos);(first|have y21_2:=szl (k:=w19.heap.size) hb21 (by first|go_size|fail)|have y21_2:=Nat.one_pos);(first|have y21_3:=szl (k:=w19.heap.size+1) hb21 (by first|go_size|fail)|have y21_3:=Nat.one_pos))
     refine hK.out _ _ (fun _=>bi) ?_
     clear hK K
   case' o6=>
    go_simp
    refine hK.out _ _ (fun _=>bi) ?_
    clear hK K
    refine ja0 (rs:=[3,4]) (by kernel_rfl) (by simp) (AllT.cons rfl (fun K hK=> ?o11) (AllT.cons rfl (fun K hK=> ?o12) AllT.nil))
    case' o11=>
     go_simp
     go_wp2_with ((go_at_call 31;((with_reducible refine (jae (HE.out.below bi) HY1.out HY2.out).mono ?_);rintro e21 w21 ⟨s21,A21,n21,c21,t21,B21,m21,d21,s22,A22,n22,c22,t22,B22,m22,d22,rfl,⟨hr21,hq21⟩,⟨hr22,hq22⟩,hb21⟩;have _:=bm hb21);obtain ⟨hc21,hf21,_⟩:=bc0 hb21);(first|have y21_0:=szl (k:=W.heap.size) hb21 (by first|go_size|fail)|have y21_0:=Nat.one_pos);(first|have y21_1:=szl (k:=W.heap.size+1) hb21 (by first|go_size|fail)|have y21_1:=Nat.one_pos);(first|have y21_2:=szl (k:=w19.heap.size) hb21 (by first|go_size|fail)|have y21_2:=Nat.one_pos);(first|have y21_3:=szl (k:=w19.heap.size+1) hb21 (by first|go_size|fail)|have y21_3:=Nat.one_pos))
     refine hK.out _ _ (fun _=>bi) ?_
     clear hK K
     refine ja0 (rs:=[4]) (by kernel_rfl) (by simp) (AllT.cons rfl (fun K hK=> ?_) AllT.nil)
     go_simp
     refine hK.out _ _ (fun _=>bi) ?_
     clear hK K
    case' o12=>
     go_simp
     refine hK.out _ _ (fun _=>bi) ?_
     clear hK K
     refine ja0 (rs:=[3]) (by kernel_rfl) (by simp) (AllT.cons rfl (fun K hK=> ?_) AllT.nil)
     go_simp
     go_wp2_with ((go_at_call 31;((with_reducible refine (jae (HE.out.below bi) HY1.out HY2.out).mono ?_);rintro e21 w21 ⟨s21,A21,n21,c21,t21,B21,m21,d21,s22,A22,n22,c22,t22,B22,m22,d22,rfl,⟨hr21,hq21⟩,⟨hr22,hq22⟩,hb21⟩;have _:=bm hb21);obtain ⟨hc21,hf21,_⟩:=bc0 hb21);(first|have y21_0:=szl (k:=W.heap.size) hb21 (by first|go_size|fail)|have y21_0:=Nat.one_pos);(first|have y21_1:=szl (k:=W.heap.size+1) hb21 (by first|go_size|fail)|have y21_1:=Nat.one_pos);(first|have y21_2:=szl (k:=w19.heap.size) hb21 (by first|go_size|fail)|have y21_2:=Nat.one_pos);(first|have y21_3:=szl (k:=w19.heap.size+1) hb21 (by first|go_size|fail)|have y21_3:=Nat.one_pos))
     refine hK.out _ _ (fun _=>bi) ?_
     clear hK K
  case' o2=>
   go_simp
   refine hK.out _ _ (fun _=>bi) ?_
   clear hK K
   refine ja0 (rs:=[1,5]) (by kernel_rfl) (by simp) (AllT.cons rfl (fun K hK=> ?o13) (AllT.cons rfl (fun K hK=> ?o14) AllT.nil))
   case' o13=>
    go_simp
    go_wp2_with ((go_at_call 31;((with_reducible refine (jae (HE.out.below bi) HX1.out HX2.out).mono ?_);rintro e19 w19 ⟨s19,A19,n19,c19,t19,B19,m19,d19,s20,A20,n20,c20,t20,B20,m20,d20,rfl,⟨hr19,hq19⟩,⟨hr20,hq20⟩,hb19⟩;have _:=bm hb19);obtain ⟨hc19,hf19,_⟩:=bc0 hb19);(first|have y19_0:=szl (k:=W.heap.size) hb19 (by first|go_size|fail)|have y19_0:=Nat.one_pos);(first|have y19_1:=szl (k:=W.heap.size+1) hb19 (by first|go_size|fail)|have y19_1:=Nat.one_pos);(first|have y19_2:=szl (k:=W.heap.size) hb19 (by first|go_size|fail)|have y19_2:=Nat.one_pos);(first|have y19_3:=szl (k:=W.heap.size) hb19 (by first|go_size|fail)|have y19_3:=Nat.one_pos))
    refine hK.out _ _ (fun _=>bi) ?_
    clear hK K
    refine ja0 (rs:=[3,5]) (by kernel_rfl) (by simp) (AllT.cons rfl (fun K hK=> ?o15) (AllT.cons rfl (fun K hK=> ?o16) AllT.nil))
    case' o15=>
     go_simp
     go_wp2_with ((go_at_call 31;((with_reducible refine (jae (HE.out.below bi) HY1.out HY2.out).mono ?_);rintro e21 w21 ⟨s21,A21,n21,c21,t21,B21,m21,d21,s22,A22,n22,c22,t22,B22,m22,d22,rfl,⟨hr21,hq21⟩,⟨hr22,hq22⟩,hb21⟩;have _:=bm hb21);obtain ⟨hc21,hf21,_⟩:=bc0 hb21);(first|have y21_0:=szl (k:=W.heap.size) hb21 (by first|go_size|fail)|have y21_0:=Nat.one_pos);(first|have y21_1:=szl (k:=W.heap.size+1) hb21 (by first|go_size|fail)|have y21_1:=Nat.one_pos);(first|have y21_2:=szl (k:=w19.heap.size) hb21 (by first|go_size|fail)|have y21_2:=Nat.one_pos);(first|have y21_3:=szl (k:=w19.heap.size+1) hb21 (by first|go_size|fail)|have y21_3:=Nat.one_pos))
     refine hK.out _ _ (fun _=>bi) ?_
     clear hK K
     refine ja0 (rs:=[5]) (by kernel_rfl) (by simp) (AllT.cons rfl (fun K hK=> ?_) AllT.nil)
     go_simp
     refine hK.out _ _ (fun _=>bi) ?_
     clear hK K
    case' o16=>
     go_simp
     refine hK.out _ _ (fun _=>bi) ?_
     clear hK K
     refine ja0 (rs:=[3]) (by kernel_rfl) (by simp) (AllT.cons rfl (fun K hK=> ?_) AllT.nil)
     go_simp
     go_wp2_with ((go_at_call 31;((with_reducible refine (jae (HE.out.below bi) HY1.out HY2.out).mono ?_);rintro e21 w21 ⟨s21,A21,n21,c21,t21,B21,m21,d21,s22,A22,n22,c22,t22,B22,m22,d22,rfl,⟨hr21,hq21⟩,⟨hr22,hq22⟩,hb21⟩;have _:=bm hb21);obtain ⟨hc21,hf21,_⟩:=bc0 hb21);(first|have y21_0:=szl (k:=W.heap.size) hb21 (by first|go_size|fail)|have y21_0:=Nat.one_pos);(first|have y21_1:=szl (k:=W.heap.size+1) hb21 (by first|go_size|fail)|have y21_1:=Nat.one_pos);(first|have y21_2:=szl (k:=w19.heap.size) hb21 (by first|go_size|fail)|have y21_2:=Nat.one_pos);(first|have y21_3:=szl (k:=w19.heap.size+1) hb21 (by first|go_size|fail)|have y21_3:=Nat.one_pos))
     refine hK.out _ _ (fun _=>bi) ?_
     clear hK K
   case' o14=>
    go_simp
    refine hK.out _ _ (fun _=>bi) ?_
    clear hK K
    refine ja0 (rs:=[1]) (by kernel_rfl) (by simp) (AllT.cons rfl (fun K hK=> ?_) AllT.nil)
    go_simp
    go_wp2_with ((go_at_call 31;((with_reducible refine (jae (HE.out.below bi) HX1.out HX2.out).mono ?_);rintro e19 w19 ⟨s19,A19,n19,c19,t19,B19,m19,d19,s20,A20,n20,c20,t20,B20,m20,d20,rfl,⟨hr19,hq19⟩,⟨hr20,hq20⟩,hb19⟩;have _:=bm hb19);obtain ⟨hc19,hf19,_⟩:=bc0 hb19);(first|have y19_0:=szl (k:=W.heap.size) hb19 (by first|go_size|fail)|have y19_0:=Nat.one_pos);(first|have y19_1:=szl (k:=W.heap.size+1) hb19 (by first|go_size|fail)|have y19_1:=Nat.one_pos);(first|have y19_2:=szl (k:=W.heap.size) hb19 (by first|go_size|fail)|have y19_2:=Nat.one_pos);(first|have y19_3:=szl (k:=W.heap.size) hb19 (by first|go_size|fail)|have y19_3:=Nat.one_pos))
    refine hK.out _ _ (fun _=>bi) ?_
    clear hK K
    refine ja0 (rs:=[3]) (by kernel_rfl) (by simp) (AllT.cons rfl (fun K hK=> ?_) AllT.nil)
    go_simp
    go_wp2_with ((go_at_call 31;((with_reducible refine (jae (HE.out.below bi) HY1.out HY2.out).mono ?_);rintro e21 w21 ⟨s21,A21,n21,c21,t21,B21,m21,d21,s22,A22,n22,c22,t22,B22,m22,d22,rfl,⟨hr21,hq21⟩,⟨hr22,hq22⟩,hb21⟩;have _:=bm hb21);obtain ⟨hc21,hf21,_⟩:=bc0 hb21);(first|have y21_0:=szl (k:=W.heap.size) hb21 (by first|go_size|fail)|have y21_0:=Nat.one_pos);(first|have y21_1:=szl (k:=W.heap.size+1) hb21 (by first|go_size|fail)|have y21_1:=Nat.one_pos);(first|have y21_2:=szl (k:=w19.heap.size) hb21 (by first|go_size|fail)|have y21_2:=Nat.one_pos);(first|have y21_3:=szl (k:=w19.heap.size+1) hb21 (by first|go_size|fail)|have y21_3:=Nat.one_pos))
    refine hK.out _ _ (fun _=>bi) ?_
    clear hK K
  case' o3=>
   go_simp
   refine hK.out _ _ (fun _=>bi) ?_
   clear hK K
   refine ja0 (rs:=[1,4]) (by kernel_rfl) (by simp) (AllT.cons rfl (fun K hK=> ?o17) (AllT.cons rfl (fun K hK=> ?o18) AllT.nil))
   case' o17=>
    go_simp
    go_wp2_with ((go_at_call 31;((with_reducible refine (jae (HE.out.below bi) HX1.out HX2.out).mono ?_);rintro e19 w19 ⟨s19,A19,n19,c19,t19,B19,m19,d19,s20,A20,n20,c20,t20,B20,m20,d20,rfl,⟨hr19,hq19⟩,⟨hr20,hq20⟩,hb19⟩;have _:=bm hb19);obtain ⟨hc19,hf19,_⟩:=bc0 hb19);(first|have y19_0:=szl (k:=W.heap.size) hb19 (by first|go_size|fail)|have y19_0:=Nat.one_pos);(first|have y19_1:=szl (k:=W.heap.size+1) hb19 (by first|go_size|fail)|have y19_1:=Nat.one_pos);(first|have y19_2:=szl (k:=W.heap.size) hb19 (by first|go_size|fail)|have y19_2:=Nat.one_pos);(first|have y19_3:=szl (k:=W.heap.size) hb19 (by first|go_size|fail)|have y19_3:=Nat.one_pos))
    refine hK.out _ _ (fun _=>bi) ?_
    clear hK K
    refine ja0 (rs:=[3,4]) (by kernel_rfl) (by simp) (AllT.cons rfl (fun K hK=> ?o19) (AllT.cons rfl (fun K hK=> ?o20) AllT.nil))
    case' o19=>
     go_simp
     go_wp2_with ((go_at_call 31;((with_reducible refine (jae (HE.out.below bi) HY1.out HY2.out).mono ?_);rintro e21 w21 ⟨s21,A21,n21,c21,t21,B21,m21,d21,s22,A22,n22,c22,t22,B22,m22,d22,rfl,⟨hr21,hq21⟩,⟨hr22,hq22⟩,hb21⟩;have _:=bm hb21);obtain ⟨hc21,hf21,_⟩:=bc0 hb21);(first|have y21_0:=szl (k:=W.heap.size) hb21 (by first|go_size|fail)|have y21_0:=Nat.one_pos);(first|have y21_1:=szl (k:=W.heap.size+1) hb21 (by first|go_size|fail)|have y21_1:=Nat.one_pos);(first|have y21_2:=szl (k:=w19.heap.size) hb21 (by first|go_size|fail)|have y21_2:=Nat.one_pos);(first|have y21_3:=szl (k:=w19.heap.size+1) hb21 (by first|go_size|fail)|have y21_3:=Nat.one_pos))
     refine hK.out _ _ (fun _=>bi) ?_
     clear hK K
     refine ja0 (rs:=[4]) (by kernel_rfl) (by simp) (AllT.cons rfl (fun K hK=> ?_) AllT.nil)
     go_simp
     refine hK.out _ _ (fun _=>bi) ?_
     clear hK K
    case' o20=>
     go_simp
     refine hK.out _ _ (fun _=>bi) ?_
     clear hK K
     refine ja0 (rs:=[3]) (by kernel_rfl) (by simp) (AllT.cons rfl (fun K hK=> ?_) AllT.nil)
     go_simp
     go_wp2_with ((go_at_call 31;((with_reducible refine (jae (HE.out.below bi) HY1.out HY2.out).mono ?_);rintro e21 w21 ⟨s21,A21,n21,c21,t21,B21,m21,d21,s22,A22,n22,c22,t22,B22,m22,d22,rfl,⟨hr21,hq21⟩,⟨hr22,hq22⟩,hb21⟩;have _:=bm hb21);obtain ⟨hc21,hf21,_⟩:=bc0 hb21);(first|have y21_0:=szl (k:=W.heap.size) hb21 (by first|go_size|fail)|have y21_0:=Nat.one_pos);(first|have y21_1:=szl (k:=W.heap.size+1) hb21 (by first|go_size|fail)|have y21_1:=Nat.one_pos);(first|have y21_2:=szl (k:=w19.heap.size) hb21 (by first|go_size|fail)|have y21_2:=Nat.one_pos);(first|have y21_3:=szl (k:=w19.heap.size+1) hb21 (by first|go_size|fail)|have y21_3:=Nat.one_pos))
     refine hK.out _ _ (fun _=>bi) ?_
     clear hK K
   case' o18=>
    go_simp
    refine hK.out _ _ (fun _=>bi) ?_
    clear hK K
    refine ja0 (rs:=[1]) (by kernel_rfl) (by simp) (AllT.cons rfl (fun K hK=> ?_) AllT.nil)
    go_simp
    go_wp2_with ((go_at_call 31;((with_reducible refine (jae (HE.out.below bi) HX1.out HX2.out).mono ?_);rintro e19 w19 ⟨s19,A19,n19,c19,t19,B19,m19,d19,s20,A20,n20,c20,t20,B20,m20,d20,rfl,⟨hr19,hq19⟩,⟨hr20,hq20⟩,hb19⟩;have _:=bm hb19);obtain ⟨hc19,hf19,_⟩:=bc0 hb19);(first|have y19_0:=szl (k:=W.heap.size) hb19 (by first|go_size|fail)|have y19_0:=Nat.one_pos);(first|have y19_1:=szl (k:=W.heap.size+1) hb19 (by first|go_size|fail)|have y19_1:=Nat.one_pos);(first|have y19_2:=szl (k:=W.heap.size) hb19 (by first|go_size|fail)|have y19_2:=Nat.one_pos);(first|have y19_3:=szl (k:=W.heap.size) hb19 (by first|go_size|fail)|have y19_3:=Nat.one_pos))
    refine hK.out _ _ (fun _=>bi) ?_
    clear hK K
    refine ja0 (rs:=[3]) (by kernel_rfl) (by simp) (AllT.cons rfl (fun K hK=> ?_) AllT.nil)
    go_simp
    go_wp2_with ((go_at_call 31;((with_reducible refine (jae (HE.out.below bi) HY1.out HY2.out).mono ?_);rintro e21 w21 ⟨s21,A21,n21,c21,t21,B21,m21,d21,s22,A22,n22,c22,t22,B22,m22,d22,rfl,⟨hr21,hq21⟩,⟨hr22,hq22⟩,hb21⟩;have _:=bm hb21);obtain ⟨hc21,hf21,_⟩:=bc0 hb21);(first|have y21_0:=szl (k:=W.heap.size) hb21 (by first|go_size|fail)|have y21_0:=Nat.one_pos);(first|have y21_1:=szl (k:=W.heap.size+1) hb21 (by first|go_size|fail)|have y21_1:=Nat.one_pos);(first|have y21_2:=szl (k:=w19.heap.size) hb21 (by first|go_size|fail)|have y21_2:=Nat.one_pos);(first|have y21_3:=szl (k:=w19.heap.size+1) hb21 (by first|go_size|fail)|have y21_3:=Nat.one_pos))
    refine hK.out _ _ (fun _=>bi) ?_
    clear hK K
  all_goals
   have g1:=hb19.size
   have g2:=hb21.size
   (try simp at g1 g2)
   refine rd1 6 (by kernel_rfl) rfl (fun K hK=> ?_)
   go_simp
   refine hK.out _ _ (fun _=>bi) ?_
   clear hK K
   refine rd1 7 (by kernel_rfl) rfl (fun K hK=> ?_)
   go_simp
   refine hK.out _ _ (fun _=>bi) ?_
   clear hK K
   refine ja2 (by kernel_rfl) ?_ _
   go_wp2_with (fail)
   go_meet
   refine ⟨_,_,rfl,rfl,(by (try simp);(try omega)),(by (try simp);(try omega)),bi,⟨⟨s19,A19,n19,c19,t19,B19,m19,d19, ?_, ?_, ?_, ?_,⟨?_, ?_⟩⟩⟩,⟨⟨s20,A20,n20,c20,t20,B20,m20,d20, ?_, ?_, ?_, ?_,⟨?_, ?_⟩⟩⟩,⟨⟨s21,A21,n21,c21,t21,B21,m21,d21, ?_, ?_, ?_, ?_,⟨?_, ?_⟩⟩⟩,⟨⟨s22,A22,n22,c22,t22,B22,m22,d22, ?_, ?_, ?_, ?_,⟨?_, ?_⟩⟩⟩⟩
   all_goals (first
    | (simp [go_sem,hc19,hc21,hf19,hf21,y19_0,y19_1,y21_0,y21_1,y21_2,y21_3,jbr,nls y19_0,nls y19_1,nl y19_0,(nl y19_0).symm,nl y21_0,(nl y21_0).symm,nl y21_2,(nl y21_2).symm];done)
    | exact (by with_reducible repeat first|assumption|apply rZ|refine rP ?_ rfl (by simp [go_sem,hc19,hc21,hf19,hf21,y19_0,y19_1,y21_0,y21_1,y21_2,y21_3,jbr,nls y19_0,nls y19_1,nl y19_0,(nl y19_0).symm,nl y21_0,(nl y21_0).symm,nl y21_2,(nl y21_2).symm])))
 case rest=>
  obtain ⟨b7,b8,rfl,rfl,z7,z8,hbc,hf71,hf72,hf81,hf82⟩:=hcut
  have _:=bm hbc
  obtain ⟨V,hWV⟩:∃x,wc=x:=⟨_,rfl⟩
  have mV:Below W.heap.size W V:=by rw [←hWV];exact hbc
  have cV_0:=ja4 mV cW_0
  have cV_1:=ja4 mV cW_1
  have cV_2:=ja4 mV cW_2
  have cV_3:=ja4 mV cW_3
  have cV_4:=ja4 mV cW_4
  have cV_5:=ja4 mV cW_5
  have fV_0:=jat mV zW_2 fW_0
  have zV_0:=Nat.lt_of_lt_of_le zW_0 mV.size
  have zV_1:=Nat.lt_of_lt_of_le zW_1 mV.size
  have zV_2:=Nat.lt_of_lt_of_le zW_2 mV.size
  have bV:=jcY bW mV
  have _:=bm bV
  replace HE:=qh (HE.out.below mV)
  (try rw [hWV])
  clear mV bW cW_0 cW_1 cW_2 cW_3 cW_4 cW_5 fW_0 zW_0 zW_1 zW_2
  rw [hWV] at z7 z8 hf71 hf72 hf81 hf82
  clear hWV hbc
  obtain ⟨s31,A31,n31,c31,t31,B31,m31,d31,k31_0,k31_1,k31_2,k31_3,hr31⟩:=hf71.at_
  obtain ⟨s32,A32,n32,c32,t32,B32,m32,d32,k32_0,k32_1,k32_2,k32_3,hr32⟩:=hf72.at_
  obtain ⟨s33,A33,n33,c33,t33,B33,m33,d33,k33_0,k33_1,k33_2,k33_3,hr33⟩:=hf81.at_
  obtain ⟨s34,A34,n34,c34,t34,B34,m34,d34,k34_0,k34_1,k34_2,k34_3,hr34⟩:=hf82.at_
  simp only [Nat.zero_add,Nat.reduceAdd] at k31_0 k31_1 k31_2 k31_3 k32_0 k32_1 k32_2 k32_3 k33_0 k33_1 k33_2 k33_3 k34_0 k34_1 k34_2 k34_3
  have HR31:=qh hr31
  have HR32:=qh hr32
  have HR33:=qh hr33
  have HR34:=qh hr34
  clear hr31 hr32 hr33 hr34 hf71 hf72 hf81 hf82
  go_upto_region 5 with (fail)
  refine ja3 (fun w'=>Below V.heap.size V w') [13,14] (by kernel_rfl) ?_
  refine tb 0 (.pointer (some ⟨b7,0,none⟩)) [1] rfl (by kernel_rfl) pk rfl (by intros;go_simp) bq0 ?_
  simp only [ppq]
  refine tb 1 (fv s31 A31 n31 c31 t31 B31 m31 d31) [4] rfl (by kernel_rfl) pk rfl (by intros;go_simp) bq0 ?_
  simp only [ppq]
  refine tb 2 (.pointer (some ⟨b8,0,none⟩)) [3] rfl (by kernel_rfl) pk rfl (by intros;go_simp) bq0 ?_
  simp only [ppq]
  refine tb 3 (fv s33 A33 n33 c33 t33 B33 m33 d33) [4] rfl (by kernel_rfl) pk rfl (by intros;go_simp) bq0 ?_
  simp only [ppq]
  refine tb 5 (.pointer (some ⟨b7,4,none⟩)) [6] rfl (by kernel_rfl) pk rfl (by intros;go_simp) bq0 ?_
  simp only [ppq]
  refine tb 6 (fv s32 A32 n32 c32 t32 B32 m32 d32) [9] rfl (by kernel_rfl) pk rfl (by intros;go_simp) bq0 ?_
  simp only [ppq]
  refine tb 7 (.pointer (some ⟨b8,4,none⟩)) [8] rfl (by kernel_rfl) pk rfl (by intros;go_simp) bq0 ?_
  simp only [ppq]
  refine tb 8 (fv s34 A34 n34 c34 t34 B34 m34 d34) [9] rfl (by kernel_rfl) pk rfl (by intros;go_simp) bq0 ?_
  simp only [ppq]
  refine rd1 4 (by kernel_rfl) rfl (fun K hK=> ?_)
  go_simp
  go_wp2_with (go_at_call 33;(with_reducible refine mf3 w (jbV 600 600 HLO.out (HR31.out.below bi) (HR33.out.below bi) HSX1.out HSY1.out (by omega)) (by go_size) fun w41 s41 A41 n41 c41 t41 B41 m41 d41 hr41 hq41 hb41 hc41 hf41 z41_0 z41_1 z41_2 _=> ?_))
  have sS41:=qh (bst bq0 hb41)
  refine hK.out _ _ (fun _=>sS41.out) ?_
  clear hK K
  refine rd1 9 (by kernel_rfl) rfl (fun K hK=> ?_)
  go_simp
  go_wp2_with (go_at_call 33;(with_reducible refine mf3 w (jbV 600 600 HHI.out (HR32.out.below bi) (HR34.out.below bi) HSX2.out HSY2.out (by omega)) (by go_size) fun w42 s42 A42 n42 c42 t42 B42 m42 d42 hr42 hq42 hb42 hc42 hf42 z42_0 z42_1 z42_2 _=> ?_))
  have sS42:=qh (bst sS41.out hb42)
  refine hK.out _ _ (fun _=>sS42.out) ?_
  clear hK K
  refine rd1 10 (by kernel_rfl) rfl (fun K hK=> ?_)
  go_simp
  go_wp2_with (go_at_call 32;(with_reducible refine mo3 w (jcG HTL.out HTH.out HKE.out (HE.out.below bi) ⟨(by with_reducible repeat first|assumption|apply rZ|refine rP ?_ rfl (by simp [go_sem,hc42])),(by with_reducible repeat first|assumption|apply rZ|refine rP ?_ rfl (by simp [go_sem,hc42]))⟩ ⟨hr42,hq42⟩ HS.out HS'.out) (by go_size) fun w43 hb43 hc43 hf43 z43_0 z43_1 z43_2 _=> ?_))
  have sS43:=qh (bst sS42.out hb43)
  refine hK.out _ _ (fun _=>sS43.out) ?_
  clear hK K
  refine tb 11 (sp tl th) [] rfl (by kernel_rfl) pk rfl (by intros;go_simp) sS43.out ?_
  simp only [ppq]
  refine tb 12 (.int .i64 ke) [] rfl (by kernel_rfl) pk rfl (by intros;go_simp) sS43.out ?_
  simp only [ppq]
  refine rd1 13 (by kernel_rfl) rfl (fun K hK=> ?_)
  go_simp
  refine hK.out _ _ (fun h=>(h (by decide)).elim) ?_
  clear hK K
  refine rd1 14 (by kernel_rfl) rfl (fun K hK=> ?_)
  go_simp
  refine hK.out _ _ (fun h=>(h (by decide)).elim) ?_
  clear hK K
  refine ja2 (by kernel_rfl) ?_ _
  go_wp2
  exact bodyPost_ret (v:= .tuple #[sp tl th, .int .i64 ke]) (by simp [results,Tryz.results7,go_sem,hc41,hc42,hc43,hf41,hf42,hf43,z41_2,z42_2,z43_2,zV_2,cV_4,cV_5,fV_0]) rfl ⟨rfl,bi⟩
theorem jqp {lo hi:Rat} {tl th:List UInt8} {ke:Int} (hE:Env w) (hl1:a1.length < 4294967281) (hl2:a2.length < 4294967281) (hl3:b1.length < 4294967281) (hl4:b2.length < 4294967281)
  (hx1:IsNum a1 x1) (hx2:IsNum a2 x2) (hy1:IsNum b1 y1) (hy2:IsNum b2 y2) (hk:jac jaZ [(a1,a2),(b1,b2)]=0)
  (hlo:x1 - y2=lo) (hhi:x2 - y1=hi) (hS:StrQ lo) (hS':StrQ hi) (htl:jk9 lo hi=tl) (hth:jkE lo hi=th) (hke:jm7 lo hi=ke):
  Calls Tryz.prog 8 #[sp a1 a2,sp b1 b2] w fun e w'=>e= .returned (.tuple #[sp tl th, .int .i64 ke])∧Below w.heap.size w w':=by
 have HLO:=qh hlo
 have HHI:=qh hhi
 have HS:=qh hS
 have HS':=qh hS'
 have HTL:=qh htl
 have HTH:=qh hth
 have HKE:=qh hke
 clear hlo hhi hS hS' htl hth hke
 have HE:=qh hE
 have HL1:=qh hl1
 have HL2:=qh hl2
 have HL3:=qh hl3
 have HL4:=qh hl4
 have HX1:=qh hx1
 have HX2:=qh hx2
 have HY1:=qh hy1
 have HY2:=qh hy2
 have HSX1:=qh hx1.sz
 have HSX2:=qh hx2.sz
 have HSY1:=qh hy1.sz
 have HSY2:=qh hy2.sz
 have HK:=qh hk
 clear hE hl1 hl2 hl3 hl4 hx1 hx2 hy1 hy2 hk
 go_enter Tryz.func8,Tryz.ntmps8
 go_upto_region 4 with ((go_at_call 29;(with_reducible refine mo3 w (jbA HK.out (HE.out.below bi) (Pv.twoAt (by simp)) (by omega) HL1.out HL2.out HL3.out HL4.out) (by go_size) fun w1 hb1 hc1 hf1 z1_0 z1_1 z1_2 _=> ?_)))
 obtain ⟨W,hWW⟩:∃x,w1=x:=⟨_,rfl⟩
 have cW_0:W.cell? ⟨w.heap.size,0,none⟩=some (bs a1):=(by rw [←hWW];simp [go_sem,hc1,z1_0,z1_1,z1_2])
 have cW_1:W.cell? ⟨w.heap.size,1,none⟩=some (bs a2):=(by rw [←hWW];simp [go_sem,hc1,z1_0,z1_1,z1_2])
 have cW_2:W.cell? ⟨w.heap.size+1,0,none⟩=some (bs b1):=(by rw [←hWW];simp [go_sem,hc1,z1_0,z1_1,z1_2])
 have cW_3:W.cell? ⟨w.heap.size+1,1,none⟩=some (bs b2):=(by rw [←hWW];simp [go_sem,hc1,z1_0,z1_1,z1_2])
 have cW_4:W.cell? ⟨w.heap.size+1+1,0,none⟩=some (bs []):=(by rw [←hWW];simp [go_sem,hc1,z1_0,z1_1,z1_2])
 have cW_5:W.cell? ⟨w.heap.size+1+1,1,none⟩=some (bs []):=(by rw [←hWW];simp [go_sem,hc1,z1_0,z1_1,z1_2])
 have fW_0:∀o,W.frozen? ⟨w.heap.size+1+1,o,none⟩=false:=(by intro o;rw [←hWW];simp [go_sem,hf1,z1_2])
 have zW_0:w.heap.size < W.heap.size:=(by rw [←hWW];first|assumption|(simp;done)|(simp;omega))
 have zW_1:w.heap.size+1 < W.heap.size:=(by rw [←hWW];first|assumption|(simp;done)|(simp;omega))
 have zW_2:w.heap.size+1+1 < W.heap.size:=(by rw [←hWW];first|assumption|(simp;done)|(simp;omega))
 have bW:Below w.heap.size w W:=(by rw [←hWW];exact bi)
 have _:=bm bW
 simp only [hWW]
 replace HE:=qh (HE.out.below bW)
 clear hWW hc1 hf1 hb1 z1_0 z1_1 z1_2
 go_cut [7,8] (fun u v wx=>∃b7 b8,u= .pointer (some ⟨b7,0,none⟩)∧v= .pointer (some ⟨b8,0,none⟩)∧b7 < wx.heap.size∧b8 < wx.heap.size∧Below W.heap.size W wx∧FAt wx b7 0 x1∧FAt wx b7 4 x2∧FAt wx b8 0 y1∧FAt wx b8 4 y2)
 case first=>
  refine ja3 (fun w'=>Below W.heap.size W w') [] (by kernel_rfl) ?_
  refine tb 0 (sp a1 a2) [1] rfl (by kernel_rfl) pk rfl (by intros;go_simp) bq0 ?_
  simp only [ppq]
  refine tb 2 (sp b1 b2) [3] rfl (by kernel_rfl) pk rfl (by intros;go_simp) bq0 ?_
  simp only [ppq]
  refine ja0 (rs:=[1,4,5]) (by kernel_rfl) (by simp) (AllT.cons rfl (fun K hK=> ?o21) (AllT.cons rfl (fun K hK=> ?o22) (AllT.cons rfl (fun K hK=> ?o23) AllT.nil)))
  case' o21=>
   go_simp
   go_wp2_with ((go_at_call 31;((with_reducible refine (jae (HE.out.below bi) HX1.out HX2.out).mono ?_);rintro e19 w19 ⟨s19,A19,n19,c19,t19,B19,m19,d19,s20,A20,n20,c20,t20,B20,m20,d20,rfl,⟨hr19,hq19⟩,⟨hr20,hq20⟩,hb19⟩;have _:=bm hb19);obtain ⟨hc19,hf19,_⟩:=bc0 hb19);(first|have y19_0:=szl (k:=W.heap.size) hb19 (by first|go_size|fail)|have y19_0:=Nat.one_pos);(first|have y19_1:=szl (k:=W.heap.size+1) hb19 (by first|go_size|fail)|have y19_1:=Nat.one_pos);(first|have y19_2:=szl (k:=W.heap.size) hb19 (by first|go_size|fail)|have y19_2:=Nat.one_pos);(first|have y19_3:=szl (k:=W.heap.size) hb19 (by first|go_size|fail)|have y19_3:=Nat.one_pos))
   refine hK.out _ _ (fun _=>bi) ?_
   clear hK K
   refine ja0 (rs:=[3,4,5]) (by kernel_rfl) (by simp) (AllT.cons rfl (fun K hK=> ?o24) (AllT.cons rfl (fun K hK=> ?o25) (AllT.cons rfl (fun K hK=> ?o26) AllT.nil)))
   case' o24=>
    go_simp
    go_wp2_with ((go_at_call 31;((with_reducible refine (jae (HE.out.below bi) HY1.out HY2.out).mono ?_);rintro e21 w21 ⟨s21,A21,n21,c21,t21,B21,m21,d21,s22,A22,n22,c22,t22,B22,m22,d22,rfl,⟨hr21,hq21⟩,⟨hr22,hq22⟩,hb21⟩;have _:=bm hb21);obtain ⟨hc21,hf21,_⟩:=bc0 hb21);(first|have y21_0:=szl (k:=W.heap.size) hb21 (by first|go_size|fail)|have y21_0:=Nat.one_pos);(first|have y21_1:=szl (k:=W.heap.size+1) hb21 (by first|go_size|fail)|have y21_1:=Nat.one_pos);(first|have y21_2:=szl (k:=w19.heap.size) hb21 (by first|go_size|fail)|have y21_2:=Nat.one_pos);(first|have y21_3:=szl (k:=w19.heap.size+1) hb21 (by first|go_size|fail)|have y21_3:=Nat.one_pos))
    refine hK.out _ _ (fun _=>bi) ?_
    clear hK K
    refine ja0 (rs:=[4,5]) (by kernel_rfl) (by simp) (AllT.cons rfl (fun K hK=> ?o27) (AllT.cons rfl (fun K hK=> ?o28) AllT.nil))
    case' o27=>
     go_simp
     refine hK.out _ _ (fun _=>bi) ?_
     clear hK K
     refine ja0 (rs:=[5]) (by kernel_rfl) (by simp) (AllT.cons rfl (fun K hK=> ?_) AllT.nil)
     go_simp
     refine hK.out _ _ (fun _=>bi) ?_
     clear hK K
    case' o28=>
     go_simp
     refine hK.out _ _ (fun _=>bi) ?_
     clear hK K
     refine ja0 (rs:=[4]) (by kernel_rfl) (by simp) (AllT.cons rfl (fun K hK=> ?_) AllT.nil)
     go_simp
     refine hK.out _ _ (fun _=>bi) ?_
     clear hK K
   case' o25=>
    go_simp
    refine hK.out _ _ (fun _=>bi) ?_
    clear hK K
    refine ja0 (rs:=[3,5]) (by kernel_rfl) (by simp) (AllT.cons rfl (fun K hK=> ?o29) (AllT.cons rfl (fun K hK=> ?o30) AllT.nil))
    case' o29=>
     go_simp
     go_wp2_with ((go_at_call 31;((with_reducible refine (jae (HE.out.below bi) HY1.out HY2.out).mono ?_);rintro e21 w21 ⟨s21,A21,n21,c21,t21,B21,m21,d21,s22,A22,n22,c22,t22,B22,m22,d22,rfl,⟨hr21,hq21⟩,⟨hr22,hq22⟩,hb21⟩;have _:=bm hb21);obtain ⟨hc21,hf21,_⟩:=bc0 hb21);(first|have y21_0:=szl (k:=W.heap.size) hb21 (by first|go_size|fail)|have y21_0:=Nat.one_pos);(first|have y21_1:=szl (k:=W.heap.size+1) hb21 (by first|go_size|fail)|have y21_1:=Nat.one_pos);(first|have y21_2:=szl (k:=w19.heap.size) hb21 (by first|go_size|fail)|have y21_2:=Nat.one_pos);(first|have y21_3:=szl (k:=w19.heap.size+1) hb21 (by first|go_size|fail)|have y21_3:=Nat.one_pos))
     refine hK.out _ _ (fun _=>bi) ?_
     clear hK K
     refine ja0 (rs:=[5]) (by kernel_rfl) (by simp) (AllT.cons rfl (fun K hK=> ?_) AllT.nil)
     go_simp
     refine hK.out _ _ (fun _=>bi) ?_
     clear hK K
    case' o30=>
     go_simp
     refine hK.out _ _ (fun _=>bi) ?_
     clear hK K
     refine ja0 (rs:=[3]) (by kernel_rfl) (by simp) (AllT.cons rfl (fun K hK=> ?_) AllT.nil)
     go_simp
     go_wp2_with ((go_at_call 31;((with_reducible refine (jae (HE.out.below bi) HY1.out HY2.out).mono ?_);rintro e21 w21 ⟨s21,A21,n21,c21,t21,B21,m21,d21,s22,A22,n22,c22,t22,B22,m22,d22,rfl,⟨hr21,hq21⟩,⟨hr22,hq22⟩,hb21⟩;have _:=bm hb21);obtain ⟨hc21,hf21,_⟩:=bc0 hb21);(first|have y21_0:=szl (k:=W.heap.size) hb21 (by first|go_size|fail)|have y21_0:=Nat.one_pos);(first|have y21_1:=szl (k:=W.heap.size+1) hb21 (by first|go_size|fail)|have y21_1:=Nat.one_pos);(first|have y21_2:=szl (k:=w19.heap.size) hb21 (by first|go_size|fail)|have y21_2:=Nat.one_pos);(first|have y21_3:=szl (k:=w19.heap.size+1) hb21 (by first|go_size|fail)|have y21_3:=Nat.one_pos))
     refine hK.out _ _ (fun _=>bi) ?_
     clear hK K
   case' o26=>
    go_simp
    refine hK.out _ _ (fun _=>bi) ?_
    clear hK K
    refine ja0 (rs:=[3,4]) (by kernel_rfl) (by simp) (AllT.cons rfl (fun K hK=> ?o31) (AllT.cons rfl (fun K hK=> ?o32) AllT.nil))
    case' o31=>
     go_simp
     go_wp2_with ((go_at_call 31;((with_reducible refine (jae (HE.out.below bi) HY1.out HY2.out).mono ?_);rintro e21 w21 ⟨s21,A21,n21,c21,t21,B21,m21,d21,s22,A22,n22,c22,t22,B22,m22,d22,rfl,⟨hr21,hq21⟩,⟨hr22,hq22⟩,hb21⟩;have _:=bm hb21);obtain ⟨hc21,hf21,_⟩:=bc0 hb21);(first|have y21_0:=szl (k:=W.heap.size) hb21 (by first|go_size|fail)|have y21_0:=Nat.one_pos);(first|have y21_1:=szl (k:=W.heap.size+1) hb21 (by first|go_size|fail)|have y21_1:=Nat.one_pos);(first|have y21_2:=szl (k:=w19.heap.size) hb21 (by first|go_size|fail)|have y21_2:=Nat.one_pos);(first|have y21_3:=szl (k:=w19.heap.size+1) hb21 (by first|go_size|fail)|have y21_3:=Nat.one_pos))
     refine hK.out _ _ (fun _=>bi) ?_
     clear hK K
     refine ja0 (rs:=[4]) (by kernel_rfl) (by simp) (AllT.cons rfl (fun K hK=> ?_) AllT.nil)
     go_simp
     refine hK.out _ _ (fun _=>bi) ?_
     clear hK K
    case' o32=>
     go_simp
     refine hK.out _ _ (fun _=>bi) ?_
     clear hK K
     refine ja0 (rs:=[3]) (by kernel_rfl) (by simp) (AllT.cons rfl (fun K hK=> ?_) AllT.nil)
     go_simp
     go_wp2_with ((go_at_call 31;((with_reducible refine (jae (HE.out.below bi) HY1.out HY2.out).mono ?_);rintro e21 w21 ⟨s21,A21,n21,c21,t21,B21,m21,d21,s22,A22,n22,c22,t22,B22,m22,d22,rfl,⟨hr21,hq21⟩,⟨hr22,hq22⟩,hb21⟩;have _:=bm hb21);obtain ⟨hc21,hf21,_⟩:=bc0 hb21);(first|have y21_0:=szl (k:=W.heap.size) hb21 (by first|go_size|fail)|have y21_0:=Nat.one_pos);(first|have y21_1:=szl (k:=W.heap.size+1) hb21 (by first|go_size|fail)|have y21_1:=Nat.one_pos);(first|have y21_2:=szl (k:=w19.heap.size) hb21 (by first|go_size|fail)|have y21_2:=Nat.one_pos);(first|have y21_3:=szl (k:=w19.heap.size+1) hb21 (by first|go_size|fail)|have y21_3:=Nat.one_pos))
     refine hK.out _ _ (fun _=>bi) ?_
     clear hK K
  case' o22=>
   go_simp
   refine hK.out _ _ (fun _=>bi) ?_
   clear hK K
   refine ja0 (rs:=[1,5]) (by kernel_rfl) (by simp) (AllT.cons rfl (fun K hK=> ?o33) (AllT.cons rfl (fun K hK=> ?o34) AllT.nil))
   case' o33=>
    go_simp
    go_wp2_with ((go_at_call 31;((with_reducible refine (jae (HE.out.below bi) HX1.out HX2.out).mono ?_);rintro e19 w19 ⟨s19,A19,n19,c19,t19,B19,m19,d19,s20,A20,n20,c20,t20,B20,m20,d20,rfl,⟨hr19,hq19⟩,⟨hr20,hq20⟩,hb19⟩;have _:=bm hb19);obtain ⟨hc19,hf19,_⟩:=bc0 hb19);(first|have y19_0:=szl (k:=W.heap.size) hb19 (by first|go_size|fail)|have y19_0:=Nat.one_pos);(first|have y19_1:=szl (k:=W.heap.size+1) hb19 (by first|go_size|fail)|have y19_1:=Nat.one_pos);(first|have y19_2:=szl (k:=W.heap.size) hb19 (by first|go_size|fail)|have y19_2:=Nat.one_pos);(first|have y19_3:=szl (k:=W.heap.size) hb19 (by first|go_size|fail)|have y19_3:=Nat.one_pos))
    refine hK.out _ _ (fun _=>bi) ?_
    clear hK K
    refine ja0 (rs:=[3,5]) (by kernel_rfl) (by simp) (AllT.cons rfl (fun K hK=> ?o35) (AllT.cons rfl (fun K hK=> ?o36) AllT.nil))
    case' o35=>
     go_simp
     go_wp2_with ((go_at_call 31;((with_reducible refine (jae (HE.out.below bi) HY1.out HY2.out).mono ?_);rintro e21 w21 ⟨s21,A21,n21,c21,t21,B21,m21,d21,s22,A22,n22,c22,t22,B22,m22,d22,rfl,⟨hr21,hq21⟩,⟨hr22,hq22⟩,hb21⟩;have _:=bm hb21);obtain ⟨hc21,hf21,_⟩:=bc0 hb21);(first|have y21_0:=szl (k:=W.heap.size) hb21 (by first|go_size|fail)|have y21_0:=Nat.one_pos);(first|have y21_1:=szl (k:=W.heap.size+1) hb21 (by first|go_size|fail)|have y21_1:=Nat.one_pos);(first|have y21_2:=szl (k:=w19.heap.size) hb21 (by first|go_size|fail)|have y21_2:=Nat.one_pos);(first|have y21_3:=szl (k:=w19.heap.size+1) hb21 (by first|go_size|fail)|have y21_3:=Nat.one_pos))
     refine hK.out _ _ (fun _=>bi) ?_
     clear hK K
     refine ja0 (rs:=[5]) (by kernel_rfl) (by simp) (AllT.cons rfl (fun K hK=> ?_) AllT.nil)
     go_simp
     refine hK.out _ _ (fun _=>bi) ?_
     clear hK K
    case' o36=>
     go_simp
     refine hK.out _ _ (fun _=>bi) ?_
     clear hK K
     refine ja0 (rs:=[3]) (by kernel_rfl) (by simp) (AllT.cons rfl (fun K hK=> ?_) AllT.nil)
     go_simp
     go_wp2_with ((go_at_call 31;((with_reducible refine (jae (HE.out.below bi) HY1.out HY2.out).mono ?_);rintro e21 w21 ⟨s21,A21,n21,c21,t21,B21,m21,d21,s22,A22,n22,c22,t22,B22,m22,d22,rfl,⟨hr21,hq21⟩,⟨hr22,hq22⟩,hb21⟩;have _:=bm hb21);obtain ⟨hc21,hf21,_⟩:=bc0 hb21);(first|have y21_0:=szl (k:=W.heap.size) hb21 (by first|go_size|fail)|have y21_0:=Nat.one_pos);(first|have y21_1:=szl (k:=W.heap.size+1) hb21 (by first|go_size|fail)|have y21_1:=Nat.one_pos);(first|have y21_2:=szl (k:=w19.heap.size) hb21 (by first|go_size|fail)|have y21_2:=Nat.one_pos);(first|have y21_3:=szl (k:=w19.heap.size+1) hb21 (by first|go_size|fail)|have y21_3:=Nat.one_pos))
     refine hK.out _ _ (fun _=>bi) ?_
     clear hK K
   case' o34=>
    go_simp
    refine hK.out _ _ (fun _=>bi) ?_
    clear hK K
    refine ja0 (rs:=[1]) (by kernel_rfl) (by simp) (AllT.cons rfl (fun K hK=> ?_) AllT.nil)
    go_simp
    go_wp2_with ((go_at_call 31;((with_reducible refine (jae (HE.out.below bi) HX1.out HX2.out).mono ?_);rintro e19 w19 ⟨s19,A19,n19,c19,t19,B19,m19,d19,s20,A20,n20,c20,t20,B20,m20,d20,rfl,⟨hr19,hq19⟩,⟨hr20,hq20⟩,hb19⟩;have _:=bm hb19);obtain ⟨hc19,hf19,_⟩:=bc0 hb19);(first|have y19_0:=szl (k:=W.heap.size) hb19 (by first|go_size|fail)|have y19_0:=Nat.one_pos);(first|have y19_1:=szl (k:=W.heap.size+1) hb19 (by first|go_size|fail)|have y19_1:=Nat.one_pos);(first|have y19_2:=szl (k:=W.heap.size) hb19 (by first|go_size|fail)|have y19_2:=Nat.one_pos);(first|have y19_3:=szl (k:=W.heap.size) hb19 (by first|go_size|fail)|have y19_3:=Nat.one_pos))
    refine hK.out _ _ (fun _=>bi) ?_
    clear hK K
    refine ja0 (rs:=[3]) (by kernel_rfl) (by simp) (AllT.cons rfl (fun K hK=> ?_) AllT.nil)
    go_simp
    go_wp2_with ((go_at_call 31;((with_reducible refine (jae (HE.out.below bi) HY1.out HY2.out).mono ?_);rintro e21 w21 ⟨s21,A21,n21,c21,t21,B21,m21,d21,s22,A22,n22,c22,t22,B22,m22,d22,rfl,⟨hr21,hq21⟩,⟨hr22,hq22⟩,hb21⟩;have _:=bm hb21);obtain ⟨hc21,hf21,_⟩:=bc0 hb21);(first|have y21_0:=szl (k:=W.heap.size) hb21 (by first|go_size|fail)|have y21_0:=Nat.one_pos);(first|have y21_1:=szl (k:=W.heap.size+1) hb21 (by first|go_size|fail)|have y21_1:=Nat.one_pos);(first|have y21_2:=szl (k:=w19.heap.size) hb21 (by first|go_size|fail)|have y21_2:=Nat.one_pos);(first|have y21_3:=szl (k:=w19.heap.size+1) hb21 (by first|go_size|fail)|have y21_3:=Nat.one_pos))
    refine hK.out _ _ (fun _=>bi) ?_
    clear hK K
  case' o23=>
   go_simp
   refine hK.out _ _ (fun _=>bi) ?_
   clear hK K
   refine ja0 (rs:=[1,4]) (by kernel_rfl) (by simp) (AllT.cons rfl (fun K hK=> ?o37) (AllT.cons rfl (fun K hK=> ?o38) AllT.nil))
   case' o37=>
    go_simp
    go_wp2_with ((go_at_call 31;((with_reducible refine (jae (HE.out.below bi) HX1.out HX2.out).mono ?_);rintro e19 w19 ⟨s19,A19,n19,c19,t19,B19,m19,d19,s20,A20,n20,c20,t20,B20,m20,d20,rfl,⟨hr19,hq19⟩,⟨hr20,hq20⟩,hb19⟩;have _:=bm hb19);obtain ⟨hc19,hf19,_⟩:=bc0 hb19);(first|have y19_0:=szl (k:=W.heap.size) hb19 (by first|go_size|fail)|have y19_0:=Nat.one_pos);(first|have y19_1:=szl (k:=W.heap.size+1) hb19 (by first|go_size|fail)|have y19_1:=Nat.one_pos);(first|have y19_2:=szl (k:=W.heap.size) hb19 (by first|go_size|fail)|have y19_2:=Nat.one_pos);(first|have y19_3:=szl (k:=W.heap.size) hb19 (by first|go_size|fail)|have y19_3:=Nat.one_pos))
    refine hK.out _ _ (fun _=>bi) ?_
    clear hK K
    refine ja0 (rs:=[3,4]) (by kernel_rfl) (by simp) (AllT.cons rfl (fun K hK=> ?o39) (AllT.cons rfl (fun K hK=> ?o40) AllT.nil))
    case' o39=>
     go_simp
     go_wp2_with ((go_at_call 31;((with_reducible refine (jae (HE.out.below bi) HY1.out HY2.out).mono ?_);rintro e21 w21 ⟨s21,A21,n21,c21,t21,B21,m21,d21,s22,A22,n22,c22,t22,B22,m22,d22,rfl,⟨hr21,hq21⟩,⟨hr22,hq22⟩,hb21⟩;have _:=bm hb21);obtain ⟨hc21,hf21,_⟩:=bc0 hb21);(first|have y21_0:=szl (k:=W.heap.size) hb21 (by first|go_size|fail)|have y21_0:=Nat.one_pos);(first|have y21_1:=szl (k:=W.heap.size+1) hb21 (by first|go_size|fail)|have y21_1:=Nat.one_pos);(first|have y21_2:=szl (k:=w19.heap.size) hb21 (by first|go_size|fail)|have y21_2:=Nat.one_pos);(first|have y21_3:=szl (k:=w19.heap.size+1) hb21 (by first|go_size|fail)|have y21_3:=Nat.one_pos))
     refine hK.out _ _ (fun _=>bi) ?_
     clear hK K
     refine ja0 (rs:=[4]) (by kernel_rfl) (by simp) (AllT.cons rfl (fun K hK=> ?_) AllT.nil)
     go_simp
     refine hK.out _ _ (fun _=>bi) ?_
     clear hK K
    case' o40=>
     go_simp
     refine hK.out _ _ (fun _=>bi) ?_
     clear hK K
     refine ja0 (rs:=[3]) (by kernel_rfl) (by simp) (AllT.cons rfl (fun K hK=> ?_) AllT.nil)
     go_simp
     go_wp2_with ((go_at_call 31;((with_reducible refine (jae (HE.out.below bi) HY1.out HY2.out).mono ?_);rintro e21 w21 ⟨s21,A21,n21,c21,t21,B21,m21,d21,s22,A22,n22,c22,t22,B22,m22,d22,rfl,⟨hr21,hq21⟩,⟨hr22,hq22⟩,hb21⟩;have _:=bm hb21);obtain ⟨hc21,hf21,_⟩:=bc0 hb21);(first|have y21_0:=szl (k:=W.heap.size) hb21 (by first|go_size|fail)|have y21_0:=Nat.one_pos);(first|have y21_1:=szl (k:=W.heap.size+1) hb21 (by first|go_size|fail)|have y21_1:=Nat.one_pos);(first|have y21_2:=szl (k:=w19.heap.size) hb21 (by first|go_size|fail)|have y21_2:=Nat.one_pos);(first|have y21_3:=szl (k:=w19.heap.size+1) hb21 (by first|go_size|fail)|have y21_3:=Nat.one_pos))
     refine hK.out _ _ (fun _=>bi) ?_
     clear hK K
   case' o38=>
    go_simp
    refine hK.out _ _ (fun _=>bi) ?_
    clear hK K
    refine ja0 (rs:=[1]) (by kernel_rfl) (by simp) (AllT.cons rfl (fun K hK=> ?_) AllT.nil)
    go_simp
    go_wp2_with ((go_at_call 31;((with_reducible refine (jae (HE.out.below bi) HX1.out HX2.out).mono ?_);rintro e19 w19 ⟨s19,A19,n19,c19,t19,B19,m19,d19,s20,A20,n20,c20,t20,B20,m20,d20,rfl,⟨hr19,hq19⟩,⟨hr20,hq20⟩,hb19⟩;have _:=bm hb19);obtain ⟨hc19,hf19,_⟩:=bc0 hb19);(first|have y19_0:=szl (k:=W.heap.size) hb19 (by first|go_size|fail)|have y19_0:=Nat.one_pos);(first|have y19_1:=szl (k:=W.heap.size+1) hb19 (by first|go_size|fail)|have y19_1:=Nat.one_pos);(first|have y19_2:=szl (k:=W.heap.size) hb19 (by first|go_size|fail)|have y19_2:=Nat.one_pos);(first|have y19_3:=szl (k:=W.heap.size) hb19 (by first|go_size|fail)|have y19_3:=Nat.one_pos))
    refine hK.out _ _ (fun _=>bi) ?_
    clear hK K
    refine ja0 (rs:=[3]) (by kernel_rfl) (by simp) (AllT.cons rfl (fun K hK=> ?_) AllT.nil)
    go_simp
    go_wp2_with ((go_at_call 31;((with_reducible refine (jae (HE.out.below bi) HY1.out HY2.out).mono ?_);rintro e21 w21 ⟨s21,A21,n21,c21,t21,B21,m21,d21,s22,A22,n22,c22,t22,B22,m22,d22,rfl,⟨hr21,hq21⟩,⟨hr22,hq22⟩,hb21⟩;have _:=bm hb21);obtain ⟨hc21,hf21,_⟩:=bc0 hb21);(first|have y21_0:=szl (k:=W.heap.size) hb21 (by first|go_size|fail)|have y21_0:=Nat.one_pos);(first|have y21_1:=szl (k:=W.heap.size+1) hb21 (by first|go_size|fail)|have y21_1:=Nat.one_pos);(first|have y21_2:=szl (k:=w19.heap.size) hb21 (by first|go_size|fail)|have y21_2:=Nat.one_pos);(first|have y21_3:=szl (k:=w19.heap.size+1) hb21 (by first|go_size|fail)|have y21_3:=Nat.one_pos))
    refine hK.out _ _ (fun _=>bi) ?_
    clear hK K
  all_goals
   have g1:=hb19.size
   have g2:=hb21.size
   (try simp at g1 g2)
   refine rd1 6 (by kernel_rfl) rfl (fun K hK=> ?_)
   go_simp
   refine hK.out _ _ (fun _=>bi) ?_
   clear hK K
   refine rd1 7 (by kernel_rfl) rfl (fun K hK=> ?_)
   go_simp
   refine hK.out _ _ (fun _=>bi) ?_
   clear hK K
   refine ja2 (by kernel_rfl) ?_ _
   go_wp2_with (fail)
   go_meet
   refine ⟨_,_,rfl,rfl,(by (try simp);(try omega)),(by (try simp);(try omega)),bi,⟨⟨s19,A19,n19,c19,t19,B19,m19,d19, ?_, ?_, ?_, ?_,⟨?_, ?_⟩⟩⟩,⟨⟨s20,A20,n20,c20,t20,B20,m20,d20, ?_, ?_, ?_, ?_,⟨?_, ?_⟩⟩⟩,⟨⟨s21,A21,n21,c21,t21,B21,m21,d21, ?_, ?_, ?_, ?_,⟨?_, ?_⟩⟩⟩,⟨⟨s22,A22,n22,c22,t22,B22,m22,d22, ?_, ?_, ?_, ?_,⟨?_, ?_⟩⟩⟩⟩
   all_goals (first
    | (simp [go_sem,hc19,hc21,hf19,hf21,y19_0,y19_1,y21_0,y21_1,y21_2,y21_3,jbr,nls y19_0,nls y19_1,nl y19_0,(nl y19_0).symm,nl y21_0,(nl y21_0).symm,nl y21_2,(nl y21_2).symm];done)
    | exact (by with_reducible repeat first|assumption|apply rZ|refine rP ?_ rfl (by simp [go_sem,hc19,hc21,hf19,hf21,y19_0,y19_1,y21_0,y21_1,y21_2,y21_3,jbr,nls y19_0,nls y19_1,nl y19_0,(nl y19_0).symm,nl y21_0,(nl y21_0).symm,nl y21_2,(nl y21_2).symm])))
 case rest=>
  obtain ⟨b7,b8,rfl,rfl,z7,z8,hbc,hf71,hf72,hf81,hf82⟩:=hcut
  have _:=bm hbc
  obtain ⟨V,hWV⟩:∃x,wc=x:=⟨_,rfl⟩
  have mV:Below W.heap.size W V:=by rw [←hWV];exact hbc
  have cV_0:=ja4 mV cW_0
  have cV_1:=ja4 mV cW_1
  have cV_2:=ja4 mV cW_2
  have cV_3:=ja4 mV cW_3
  have cV_4:=ja4 mV cW_4
  have cV_5:=ja4 mV cW_5
  have fV_0:=jat mV zW_2 fW_0
  have zV_0:=Nat.lt_of_lt_of_le zW_0 mV.size
  have zV_1:=Nat.lt_of_lt_of_le zW_1 mV.size
  have zV_2:=Nat.lt_of_lt_of_le zW_2 mV.size
  have bV:=jcY bW mV
  have _:=bm bV
  replace HE:=qh (HE.out.below mV)
  (try rw [hWV])
  clear mV bW cW_0 cW_1 cW_2 cW_3 cW_4 cW_5 fW_0 zW_0 zW_1 zW_2
  rw [hWV] at z7 z8 hf71 hf72 hf81 hf82
  clear hWV hbc
  obtain ⟨s31,A31,n31,c31,t31,B31,m31,d31,k31_0,k31_1,k31_2,k31_3,hr31⟩:=hf71.at_
  obtain ⟨s32,A32,n32,c32,t32,B32,m32,d32,k32_0,k32_1,k32_2,k32_3,hr32⟩:=hf72.at_
  obtain ⟨s33,A33,n33,c33,t33,B33,m33,d33,k33_0,k33_1,k33_2,k33_3,hr33⟩:=hf81.at_
  obtain ⟨s34,A34,n34,c34,t34,B34,m34,d34,k34_0,k34_1,k34_2,k34_3,hr34⟩:=hf82.at_
  simp only [Nat.zero_add,Nat.reduceAdd] at k31_0 k31_1 k31_2 k31_3 k32_0 k32_1 k32_2 k32_3 k33_0 k33_1 k33_2 k33_3 k34_0 k34_1 k34_2 k34_3
  have HR31:=qh hr31
  have HR32:=qh hr32
  have HR33:=qh hr33
  have HR34:=qh hr34
  clear hr31 hr32 hr33 hr34 hf71 hf72 hf81 hf82
  go_upto_region 5 with (fail)
  refine ja3 (fun w'=>Below V.heap.size V w') [13,14] (by kernel_rfl) ?_
  refine tb 0 (.pointer (some ⟨b7,0,none⟩)) [1] rfl (by kernel_rfl) pk rfl (by intros;go_simp) bq0 ?_
  simp only [ppq]
  refine tb 1 (fv s31 A31 n31 c31 t31 B31 m31 d31) [4] rfl (by kernel_rfl) pk rfl (by intros;go_simp) bq0 ?_
  simp only [ppq]
  refine tb 2 (.pointer (some ⟨b8,4,none⟩)) [3] rfl (by kernel_rfl) pk rfl (by intros;go_simp) bq0 ?_
  simp only [ppq]
  refine tb 3 (fv s34 A34 n34 c34 t34 B34 m34 d34) [4] rfl (by kernel_rfl) pk rfl (by intros;go_simp) bq0 ?_
  simp only [ppq]
  refine tb 5 (.pointer (some ⟨b7,4,none⟩)) [6] rfl (by kernel_rfl) pk rfl (by intros;go_simp) bq0 ?_
  simp only [ppq]
  refine tb 6 (fv s32 A32 n32 c32 t32 B32 m32 d32) [9] rfl (by kernel_rfl) pk rfl (by intros;go_simp) bq0 ?_
  simp only [ppq]
  refine tb 7 (.pointer (some ⟨b8,0,none⟩)) [8] rfl (by kernel_rfl) pk rfl (by intros;go_simp) bq0 ?_
  simp only [ppq]
  refine tb 8 (fv s33 A33 n33 c33 t33 B33 m33 d33) [9] rfl (by kernel_rfl) pk rfl (by intros;go_simp) bq0 ?_
  simp only [ppq]
  refine rd1 4 (by kernel_rfl) rfl (fun K hK=> ?_)
  go_simp
  go_wp2_with (go_at_call 34;(with_reducible refine mf3 w (jby 600 600 HLO.out (HR31.out.below bi) (HR34.out.below bi) HSX1.out HSY2.out (by omega)) (by go_size) fun w41 s41 A41 n41 c41 t41 B41 m41 d41 hr41 hq41 hb41 hc41 hf41 z41_0 z41_1 z41_2 _=> ?_))
  have sS41:=qh (bst bq0 hb41)
  refine hK.out _ _ (fun _=>sS41.out) ?_
  clear hK K
  refine rd1 9 (by kernel_rfl) rfl (fun K hK=> ?_)
  go_simp
  go_wp2_with (go_at_call 34;(with_reducible refine mf3 w (jby 600 600 HHI.out (HR32.out.below bi) (HR33.out.below bi) HSX2.out HSY1.out (by omega)) (by go_size) fun w42 s42 A42 n42 c42 t42 B42 m42 d42 hr42 hq42 hb42 hc42 hf42 z42_0 z42_1 z42_2 _=> ?_))
  have sS42:=qh (bst sS41.out hb42)
  refine hK.out _ _ (fun _=>sS42.out) ?_
  clear hK K
  refine rd1 10 (by kernel_rfl) rfl (fun K hK=> ?_)
  go_simp
  go_wp2_with (go_at_call 32;(with_reducible refine mo3 w (jcG HTL.out HTH.out HKE.out (HE.out.below bi) ⟨(by with_reducible repeat first|assumption|apply rZ|refine rP ?_ rfl (by simp [go_sem,hc42])),(by with_reducible repeat first|assumption|apply rZ|refine rP ?_ rfl (by simp [go_sem,hc42]))⟩ ⟨hr42,hq42⟩ HS.out HS'.out) (by go_size) fun w43 hb43 hc43 hf43 z43_0 z43_1 z43_2 _=> ?_))
  have sS43:=qh (bst sS42.out hb43)
  refine hK.out _ _ (fun _=>sS43.out) ?_
  clear hK K
  refine tb 11 (sp tl th) [] rfl (by kernel_rfl) pk rfl (by intros;go_simp) sS43.out ?_
  simp only [ppq]
  refine tb 12 (.int .i64 ke) [] rfl (by kernel_rfl) pk rfl (by intros;go_simp) sS43.out ?_
  simp only [ppq]
  refine rd1 13 (by kernel_rfl) rfl (fun K hK=> ?_)
  go_simp
  refine hK.out _ _ (fun h=>(h (by decide)).elim) ?_
  clear hK K
  refine rd1 14 (by kernel_rfl) rfl (fun K hK=> ?_)
  go_simp
  refine hK.out _ _ (fun h=>(h (by decide)).elim) ?_
  clear hK K
  refine ja2 (by kernel_rfl) ?_ _
  go_wp2
  exact bodyPost_ret (v:= .tuple #[sp tl th, .int .i64 ke]) (by simp [results,Tryz.results8,go_sem,hc41,hc42,hc43,hf41,hf42,hf43,z41_2,z42_2,z43_2,zV_2,cV_4,cV_5,fV_0]) rfl ⟨rfl,bi⟩
end
end Go.Proofs.YtomkgioebbefnaaGreatDoor
