/- Parts. -/
import Derived.Test.YtfoolepjkhgckaaGreatDoorLo
import Derived.Test.YtfoolepjkhgckaaGreatDoorLn
import Derived.Test.YtfoolepjkhgckaaGreatDoorUwG
set_option linter.all false
set_option maxRecDepth 100000
set_option maxHeartbeats 8000000
namespace Go.Proofs.YtfoolepjkhgckaaGreatDoor
open Go Go.RowKit

abbrev Tx (f:FuncId) (s t r:List UInt8):Prop:=∀W,Calls Tryz.prog f #[bs s,bs t] W fun e w'=>e= .returned (bs r)∧Below W.heap.size W w'
section
variable {w:World} {a1 a2 b1 b2 l h p q r s m1 m2 n1 n2:List UInt8}
theorem jo9 (h1:Tx 45 a1 b1 l) (h2:Tx 45 a2 b2 h):Calls Tryz.prog 35 #[sp a1 a2,sp b1 b2] w fun e w'=>e= .returned (sp l h)∧Below w.heap.size w w':=by
 have H1:=qh h1
 have H2:=qh h2
 clear h1 h2
 go_enter Tryz.func35,Tryz.ntmps35
 go_upto_region 1 with (fail)
 refine ja3 (fun w'=>Below (((w.alloc (.cells #[bs a1,bs a2] 43)).alloc (.cells #[bs b1,bs b2] 43)).alloc (.cells #[bs [],bs []] 43)).heap.size (((w.alloc (.cells #[bs a1,bs a2] 43)).alloc (.cells #[bs b1,bs b2] 43)).alloc (.cells #[bs [],bs []] 43)) w') [11] (by kernel_rfl) ?_
 refine tb 0 (.pointer (some ⟨w.heap.size,0,none⟩)) [1] rfl (by kernel_rfl) pk rfl (by intros;go_simp) bq0 ?_
 simp only [ppq]
 refine tb 1 (bs a1) [4] rfl (by kernel_rfl) pk rfl (by intros;go_simp) bq0 ?_
 simp only [ppq]
 refine tb 2 (.pointer (some ⟨w.heap.size+1,0,none⟩)) [3] rfl (by kernel_rfl) pk rfl (by intros;go_simp) bq0 ?_
 simp only [ppq]
 refine tb 3 (bs b1) [4] rfl (by kernel_rfl) pk rfl (by intros;go_simp) bq0 ?_
 simp only [ppq]
 refine tb 5 (.pointer (some ⟨w.heap.size,1,none⟩)) [6] rfl (by kernel_rfl) pk rfl (by intros;go_simp) bq0 ?_
 simp only [ppq]
 refine tb 6 (bs a2) [9] rfl (by kernel_rfl) pk rfl (by intros;go_simp) bq0 ?_
 simp only [ppq]
 refine tb 7 (.pointer (some ⟨w.heap.size+1,1,none⟩)) [8] rfl (by kernel_rfl) pk rfl (by intros;go_simp) bq0 ?_
 simp only [ppq]
 refine tb 8 (bs b2) [9] rfl (by kernel_rfl) pk rfl (by intros;go_simp) bq0 ?_
 simp only [ppq]
 refine rd1 4 (by kernel_rfl) rfl (fun K hK=> ?_)
 go_simp
 go_wp2_with (go_at_call 45;(with_reducible refine mo3 w (H1.out _) (by go_size) fun w1 hb1 hc1 hf1 z1_0 z1_1 z1_2 _=> ?_))
 have sS1:=qh (bst bq0 hb1)
 refine hK.out _ _ (fun _=>sS1.out) ?_
 clear hK K
 refine rd1 9 (by kernel_rfl) rfl (fun K hK=> ?_)
 go_simp
 go_wp2_with (go_at_call 45;(with_reducible refine mo3 w (H2.out _) (by go_size) fun w2 hb2 hc2 hf2 z2_0 z2_1 z2_2 _=> ?_))
 have sS2:=qh (bst sS1.out hb2)
 refine hK.out _ _ (fun _=>sS2.out) ?_
 clear hK K
 refine rd1 10 (by kernel_rfl) rfl (fun K hK=> ?_)
 go_simp
 refine hK.out _ _ (fun _=>bi) ?_
 clear hK K
 refine rd1 11 (by kernel_rfl) rfl (fun K hK=> ?_)
 go_simp
 refine hK.out _ _ (fun h=>(h (by decide)).elim) ?_
 clear hK K
 refine ja2 (by kernel_rfl) ?_ _
 go_wp2
 exact bodyPost_ret (v:=sp l h) (by simp [results,Tryz.results35,go_sem,hc1,hc2,hf1,hf2,z1_2,z2_2]) rfl ⟨rfl,bi⟩
theorem jnE (h1:Tx 21 a1 b2 l) (h2:Tx 21 a2 b1 h):Calls Tryz.prog 36 #[sp a1 a2,sp b1 b2] w fun e w'=>e= .returned (sp l h)∧Below w.heap.size w w':=by
 have H1:=qh h1
 have H2:=qh h2
 clear h1 h2
 go_enter Tryz.func36,Tryz.ntmps36
 go_upto_region 1 with (fail)
 refine ja3 (fun w'=>Below (((w.alloc (.cells #[bs a1,bs a2] 43)).alloc (.cells #[bs b1,bs b2] 43)).alloc (.cells #[bs [],bs []] 43)).heap.size (((w.alloc (.cells #[bs a1,bs a2] 43)).alloc (.cells #[bs b1,bs b2] 43)).alloc (.cells #[bs [],bs []] 43)) w') [11] (by kernel_rfl) ?_
 refine tb 0 (.pointer (some ⟨w.heap.size,0,none⟩)) [1] rfl (by kernel_rfl) pk rfl (by intros;go_simp) bq0 ?_
 simp only [ppq]
 refine tb 1 (bs a1) [4] rfl (by kernel_rfl) pk rfl (by intros;go_simp) bq0 ?_
 simp only [ppq]
 refine tb 2 (.pointer (some ⟨w.heap.size+1,1,none⟩)) [3] rfl (by kernel_rfl) pk rfl (by intros;go_simp) bq0 ?_
 simp only [ppq]
 refine tb 3 (bs b2) [4] rfl (by kernel_rfl) pk rfl (by intros;go_simp) bq0 ?_
 simp only [ppq]
 refine tb 5 (.pointer (some ⟨w.heap.size,1,none⟩)) [6] rfl (by kernel_rfl) pk rfl (by intros;go_simp) bq0 ?_
 simp only [ppq]
 refine tb 6 (bs a2) [9] rfl (by kernel_rfl) pk rfl (by intros;go_simp) bq0 ?_
 simp only [ppq]
 refine tb 7 (.pointer (some ⟨w.heap.size+1,0,none⟩)) [8] rfl (by kernel_rfl) pk rfl (by intros;go_simp) bq0 ?_
 simp only [ppq]
 refine tb 8 (bs b1) [9] rfl (by kernel_rfl) pk rfl (by intros;go_simp) bq0 ?_
 simp only [ppq]
 refine rd1 4 (by kernel_rfl) rfl (fun K hK=> ?_)
 go_simp
 go_wp2_with (go_at_call 21;(with_reducible refine mo3 w (H1.out _) (by go_size) fun w1 hb1 hc1 hf1 z1_0 z1_1 z1_2 _=> ?_))
 have sS1:=qh (bst bq0 hb1)
 refine hK.out _ _ (fun _=>sS1.out) ?_
 clear hK K
 refine rd1 9 (by kernel_rfl) rfl (fun K hK=> ?_)
 go_simp
 go_wp2_with (go_at_call 21;(with_reducible refine mo3 w (H2.out _) (by go_size) fun w2 hb2 hc2 hf2 z2_0 z2_1 z2_2 _=> ?_))
 have sS2:=qh (bst sS1.out hb2)
 refine hK.out _ _ (fun _=>sS2.out) ?_
 clear hK K
 refine rd1 10 (by kernel_rfl) rfl (fun K hK=> ?_)
 go_simp
 refine hK.out _ _ (fun _=>bi) ?_
 clear hK K
 refine rd1 11 (by kernel_rfl) rfl (fun K hK=> ?_)
 go_simp
 refine hK.out _ _ (fun h=>(h (by decide)).elim) ?_
 clear hK K
 refine ja2 (by kernel_rfl) ?_ _
 go_wp2
 exact bodyPost_ret (v:=sp l h) (by simp [results,Tryz.results36,go_sem,hc1,hc2,hf1,hf2,z1_2,z2_2]) rfl ⟨rfl,bi⟩
theorem jmT (h1:Tx 20 a1 b1 p) (h2:Tx 20 a1 b2 q) (h3:Tx 20 a2 b1 r) (h4:Tx 20 a2 b2 s)
  (i1:Tx 96 p q m1) (i2:Tx 96 r s m2) (i3:Tx 96 m1 m2 l)
  (j1:Tx 97 p q n1) (j2:Tx 97 r s n2) (j3:Tx 97 n1 n2 h):Calls Tryz.prog 37 #[sp a1 a2,sp b1 b2] w fun e w'=>e= .returned (sp l h)∧Below w.heap.size w w':=by
 have H1:=qh h1
 have H2:=qh h2
 have H3:=qh h3
 have H4:=qh h4
 have I1:=qh i1
 have I2:=qh i2
 have I3:=qh i3
 have J1:=qh j1
 have J2:=qh j2
 have J3:=qh j3
 clear h1 h2 h3 h4 i1 i2 i3 j1 j2 j3
 go_enter Tryz.func37,Tryz.ntmps37
 go_upto_region 1 with (fail)
 refine ja3 (fun w'=>Below (((w.alloc (.cells #[bs a1,bs a2] 43)).alloc (.cells #[bs b1,bs b2] 43)).alloc (.cells #[bs [],bs []] 43)).heap.size (((w.alloc (.cells #[bs a1,bs a2] 43)).alloc (.cells #[bs b1,bs b2] 43)).alloc (.cells #[bs [],bs []] 43)) w') [] (by kernel_rfl) ?_
 refine tb 0 (.pointer (some ⟨w.heap.size,0,none⟩)) [1] rfl (by kernel_rfl) pk rfl (by intros;go_simp) bq0 ?_
 simp only [ppq]
 refine tb 1 (bs a1) [4] rfl (by kernel_rfl) pk rfl (by intros;go_simp) bq0 ?_
 simp only [ppq]
 refine tb 2 (.pointer (some ⟨w.heap.size+1,0,none⟩)) [3] rfl (by kernel_rfl) pk rfl (by intros;go_simp) bq0 ?_
 simp only [ppq]
 refine tb 3 (bs b1) [4] rfl (by kernel_rfl) pk rfl (by intros;go_simp) bq0 ?_
 simp only [ppq]
 refine tb 5 (.pointer (some ⟨w.heap.size,0,none⟩)) [6] rfl (by kernel_rfl) pk rfl (by intros;go_simp) bq0 ?_
 simp only [ppq]
 refine tb 6 (bs a1) [9] rfl (by kernel_rfl) pk rfl (by intros;go_simp) bq0 ?_
 simp only [ppq]
 refine tb 7 (.pointer (some ⟨w.heap.size+1,1,none⟩)) [8] rfl (by kernel_rfl) pk rfl (by intros;go_simp) bq0 ?_
 simp only [ppq]
 refine tb 8 (bs b2) [9] rfl (by kernel_rfl) pk rfl (by intros;go_simp) bq0 ?_
 simp only [ppq]
 refine tb 10 (.pointer (some ⟨w.heap.size,1,none⟩)) [11] rfl (by kernel_rfl) pk rfl (by intros;go_simp) bq0 ?_
 simp only [ppq]
 refine tb 11 (bs a2) [14] rfl (by kernel_rfl) pk rfl (by intros;go_simp) bq0 ?_
 simp only [ppq]
 refine tb 12 (.pointer (some ⟨w.heap.size+1,0,none⟩)) [13] rfl (by kernel_rfl) pk rfl (by intros;go_simp) bq0 ?_
 simp only [ppq]
 refine tb 13 (bs b1) [14] rfl (by kernel_rfl) pk rfl (by intros;go_simp) bq0 ?_
 simp only [ppq]
 refine tb 15 (.pointer (some ⟨w.heap.size,1,none⟩)) [16] rfl (by kernel_rfl) pk rfl (by intros;go_simp) bq0 ?_
 simp only [ppq]
 refine tb 16 (bs a2) [19] rfl (by kernel_rfl) pk rfl (by intros;go_simp) bq0 ?_
 simp only [ppq]
 refine tb 17 (.pointer (some ⟨w.heap.size+1,1,none⟩)) [18] rfl (by kernel_rfl) pk rfl (by intros;go_simp) bq0 ?_
 simp only [ppq]
 refine tb 18 (bs b2) [19] rfl (by kernel_rfl) pk rfl (by intros;go_simp) bq0 ?_
 simp only [ppq]
 refine rd1 4 (by kernel_rfl) rfl (fun K hK=> ?_)
 go_simp
 go_wp2_with (go_at_call 20;(with_reducible refine mo3 w (H1.out _) (by go_size) fun w1 hb1 hc1 hf1 z1_0 z1_1 z1_2 _=> ?_))
 have sS1:=qh (bst bq0 hb1)
 refine hK.out _ _ (fun _=>sS1.out) ?_
 clear hK K
 refine rd1 9 (by kernel_rfl) rfl (fun K hK=> ?_)
 go_simp
 go_wp2_with (go_at_call 20;(with_reducible refine mo3 w (H2.out _) (by go_size) fun w2 hb2 hc2 hf2 z2_0 z2_1 z2_2 _=> ?_))
 have sS2:=qh (bst sS1.out hb2)
 refine hK.out _ _ (fun _=>sS2.out) ?_
 clear hK K
 refine rd1 14 (by kernel_rfl) rfl (fun K hK=> ?_)
 go_simp
 go_wp2_with (go_at_call 20;(with_reducible refine mo3 w (H3.out _) (by go_size) fun w3 hb3 hc3 hf3 z3_0 z3_1 z3_2 _=> ?_))
 have sS3:=qh (bst sS2.out hb3)
 refine hK.out _ _ (fun _=>sS3.out) ?_
 clear hK K
 refine rd1 19 (by kernel_rfl) rfl (fun K hK=> ?_)
 go_simp
 go_wp2_with (go_at_call 20;(with_reducible refine mo3 w (H4.out _) (by go_size) fun w4 hb4 hc4 hf4 z4_0 z4_1 z4_2 _=> ?_))
 have sS4:=qh (bst sS3.out hb4)
 refine hK.out _ _ (fun _=>sS4.out) ?_
 clear hK K
 refine rd1 20 (by kernel_rfl) rfl (fun K hK=> ?_)
 go_simp
 refine hK.out _ _ (fun _=>bi) ?_
 clear hK K
 refine rd1 21 (by kernel_rfl) rfl (fun K hK=> ?_)
 go_simp
 refine hK.out _ _ (fun _=>bi) ?_
 clear hK K
 refine rd1 22 (by kernel_rfl) rfl (fun K hK=> ?_)
 go_simp
 refine hK.out _ _ (fun _=>bi) ?_
 clear hK K
 refine rd1 23 (by kernel_rfl) rfl (fun K hK=> ?_)
 go_simp
 refine hK.out _ _ (fun _=>bi) ?_
 clear hK K
 refine ja2 (by kernel_rfl) ?_ _
 go_wp2_with (first|(go_at_call 96;(with_reducible show Calls _ _ #[bs p,bs q] _ _);(with_reducible refine mo3 w (I1.out _) (by go_size) fun w5 hb5 hc5 hf5 z5_0 z5_1 z5_2 _=> ?_))|(go_at_call 96;(with_reducible show Calls _ _ #[bs r,bs s] _ _);(with_reducible refine mo3 w (I2.out _) (by go_size) fun w6 hb6 hc6 hf6 z6_0 z6_1 z6_2 _=> ?_))|(go_at_call 96;(with_reducible show Calls _ _ #[bs m1,bs m2] _ _);(with_reducible refine mo3 w (I3.out _) (by go_size) fun w7 hb7 hc7 hf7 z7_0 z7_1 z7_2 _=> ?_))|(go_at_call 97;(with_reducible show Calls _ _ #[bs p,bs q] _ _);(with_reducible refine mo3 w (J1.out _) (by go_size) fun w8 hb8 hc8 hf8 z8_0 z8_1 z8_2 _=> ?_))|(go_at_call 97;(with_reducible show Calls _ _ #[bs r,bs s] _ _);(with_reducible refine mo3 w (J2.out _) (by go_size) fun w9 hb9 hc9 hf9 z9_0 z9_1 z9_2 _=> ?_))|(go_at_call 97;(with_reducible show Calls _ _ #[bs n1,bs n2] _ _);(with_reducible refine mo3 w (J3.out _) (by go_size) fun w10 hb10 hc10 hf10 z10_0 z10_1 z10_2 _=> ?_)))
 exact bodyPost_ret (v:=sp l h) (by simp [results,Tryz.results37,go_sem,hc1,hc2,hc3,hc4,hc5,hc6,hc7,hc8,hc9,hc10,hf1,hf2,hf3,hf4,hf5,hf6,hf7,hf8,hf9,hf10,z1_2,z2_2,z3_2,z4_2,z5_2,z6_2,z7_2,z8_2,z9_2,z10_2]) rfl ⟨rfl,bi⟩
end
theorem jo2 (p q r s:Rat):jo5 (jo5 p q) (jo5 r s)=jiF p [q,r,s]:=by
 simp only [jiF,jo5,Rq.cmp_neg]
 grind
theorem jmC (p q r s:Rat):jnv (jnv p q) (jnv r s)=jiD p [q,r,s]:=by
 simp only [jiD,jnv,gt_iff_lt,Rq.cmp_pos]
 grind
theorem jr2 {k:Nat} {p q r s:Rat} (hp:Dz k p) (hq:Dz k q) (hr:Dz k r) (hs:Dz k s):Dz k (jiF p [q,r,s]):=by
 simp only [jiF]
 split <;> split <;> split <;> assumption
theorem jrW {k:Nat} {p q r s:Rat} (hp:Dz k p) (hq:Dz k q) (hr:Dz k r) (hs:Dz k s):Dz k (jiD p [q,r,s]):=by
 simp only [jiD]
 split <;> split <;> split <;> assumption

theorem jkf {p q:List UInt8×List UInt8}:fnz [jab p,jab q]=ja7 jab [p,q]:=by
 unfold fnz ja7
 by_cases h:jab p=0
 ·rw [if_pos h,if_pos h];unfold fnz ja7
  by_cases h2:jab q=0
  ·rw [if_pos h2,if_pos h2];rfl
  ·rw [if_neg h2,if_neg h2]
 ·rw [if_neg h,if_neg h]
theorem jni {a b:List UInt8} (h:jab (a,b)=0):IsNum a (numQ a)∧IsNum b (numQ b):=by
 unfold jab at h
 by_cases h1:ja7 chk [a,b]=0
 ·obtain ⟨h2,h3⟩:=jft h1
  exact ⟨jaB h2,jaB h3⟩
 ·rw [if_pos h1] at h;exact absurd h h1
theorem jny {x y:Rat} {k:Nat} (hx:Dz k x) (hy:Dz k y) (hk:0 < k) (hk2:k≤600):jkk x y=tq x∧jjU x y=tq y∧jkb x y=0:=by
 have h1:=(jat hx hk hk2).2.1
 have h2:=(jat hy hk hk2).2.1
 unfold jba at h1 h2
 have e1:jcz x=false:=by cases h:jcz x <;> simp_all
 have e2:jcz y=false:=by cases h:jcz y <;> simp_all
 unfold jkk jjU jkb
 rw [e1,e2];exact ⟨rfl,rfl,rfl⟩
section
variable {w:World} {a1 a2 b1 b2:List UInt8} {x1 x2 y1 y2:Rat}
theorem jox (hE:Env w) (h:¬(a1.length≤40∧a2.length≤40∧b1.length≤40∧b2.length≤40)):Calls Tryz.prog 6 #[sp a1 a2,sp b1 b2] w fun e w'=>e= .returned (.bool true)∧Below w.heap.size w w':=by
 have HW:Hid (∀W,Below w.heap.size w W→Calls Tryz.prog 8 #[] W fun e w'=>e= .returned (.bool true)∧Below W.heap.size W w'):=qh (fun W hb=>jas (hE.below hb))
 clear hE
 obtain ⟨g1,q1⟩:∃g,decide ((40:Int) < (a1.length:Int))=g:=⟨_,rfl⟩
 obtain ⟨g2,q2⟩:∃g,decide ((40:Int) < (a2.length:Int))=g:=⟨_,rfl⟩
 obtain ⟨g3,q3⟩:∃g,decide ((40:Int) < (b1.length:Int))=g:=⟨_,rfl⟩
 obtain ⟨g4,q4⟩:∃g,decide ((40:Int) < (b2.length:Int))=g:=⟨_,rfl⟩
 cases g1
 ·cases g2
  ·cases g3
   ·cases g4
    ·simp only [decide_eq_false_iff_not] at q1 q2 q3 q4
     exact absurd (show _ from ⟨by omega,by omega,by omega,by omega⟩) h
    ·clear h
     go_enter Tryz.func6,Tryz.ntmps6
     go_wp2_with (go_at_call 8;(with_reducible refine mo2 w (HW.out _ bi) (by go_size) fun w1 hb1 hc1 hf1 z1_0 z1_1 _=> ?_))
     go_ret
     exact ⟨rfl,bi⟩
   ·clear h q4
    go_enter Tryz.func6,Tryz.ntmps6
    go_wp2_with (go_at_call 8;(with_reducible refine mo2 w (HW.out _ bi) (by go_size) fun w1 hb1 hc1 hf1 z1_0 z1_1 _=> ?_))
    go_ret
    exact ⟨rfl,bi⟩
  ·clear h q3 q4
   go_enter Tryz.func6,Tryz.ntmps6
   go_wp2_with (go_at_call 8;(with_reducible refine mo2 w (HW.out _ bi) (by go_size) fun w1 hb1 hc1 hf1 z1_0 z1_1 _=> ?_))
   go_ret
   exact ⟨rfl,bi⟩
 ·clear h q2 q3 q4
  go_enter Tryz.func6,Tryz.ntmps6
  go_wp2_with (go_at_call 8;(with_reducible refine mo2 w (HW.out _ bi) (by go_size) fun w1 hb1 hc1 hf1 z1_0 z1_1 _=> ?_))
  go_ret
  exact ⟨rfl,bi⟩
set_option maxHeartbeats 16000000 in
theorem jrV {k:Int} (hE:Env w) (h1:a1.length≤40) (h2:a2.length≤40) (h3:b1.length≤40) (h4:b2.length≤40) (hk:ja7 jab [(a1,a2),(b1,b2)]=k) (h0:k≠0):Calls Tryz.prog 6 #[sp a1 a2,sp b1 b2] w fun e w'=>e= .returned (.bool true)∧Below w.heap.size w w':=by
 have HW:Hid (∀W,Below w.heap.size w W→Calls Tryz.prog 8 #[] W fun e w'=>e= .returned (.bool true)∧Below W.heap.size W w'):=qh (fun W hb=>jas (hE.below hb))
 have q1:decide ((40:Int) < (a1.length:Int))=false:=by rw [decide_eq_false_iff_not];omega
 have q2:decide ((40:Int) < (a2.length:Int))=false:=by rw [decide_eq_false_iff_not];omega
 have q3:decide ((40:Int) < (b1.length:Int))=false:=by rw [decide_eq_false_iff_not];omega
 have q4:decide ((40:Int) < (b2.length:Int))=false:=by rw [decide_eq_false_iff_not];omega
 obtain ⟨k1,hk1⟩:∃k,jab (a1,a2)=k:=⟨_,rfl⟩
 obtain ⟨k2,hk2⟩:∃k,jab (b1,b2)=k:=⟨_,rfl⟩
 have HC1:=qh (fun W=>jbp (w:=W) (show a1.length≤9000 by omega) (show a2.length≤9000 by omega) hk1)
 have HC2:=qh (fun W=>jbp (w:=W) (show b1.length≤9000 by omega) (show b2.length≤9000 by omega) hk2)
 have HC:=qh (fun W (hb:Below w.heap.size w W)=>hk1 ▸ jcd (a:=a1) (b:=a2) (hE.below hb) (by omega) (by omega))
 have HF:=qh (fun W T c=>jcr W T c k1 k2 k (by rw [←hk1,←hk2,jkf];exact hk))
 have HA:=qh (fun W (hb:Below w.heap.size w W)=>jrv (hE.below hb) (by omega) (by omega) (by omega) (by omega) hk h0)
 have HS:=qh (fun W (hb:Below w.heap.size w W)=>jrS (hE.below hb) (by omega) (by omega) (by omega) (by omega) hk h0)
 have HM:=qh (fun W (hb:Below w.heap.size w W)=>jqY (hE.below hb) (by omega) (by omega) (by omega) (by omega) hk h0)
 have HN:=qh (fun W=>jhb (w:=W) (a:=[]) (b:=[]) h0)
 have q5:(k != 0)=true:=by rw [bne_iff_ne];exact h0
 clear hE h1 h2 h3 h4 hk h0 hk1 hk2
 go_enter Tryz.func6,Tryz.ntmps6
 go_wp2_with (first|(go_at_call 8;(with_reducible refine mo2 w (HW.out _ bi) (by go_size) fun w1 hb1 hc1 hf1 z1_0 z1_1 _=> ?_))|(go_at_call 31;(with_reducible refine mo2 w (HA.out _ bi) (by go_size) fun w2 hb2 hc2 hf2 z2_0 z2_1 _=> ?_))|((go_at_call 32;(with_reducible refine mo2 w (HS.out _ bi) (by go_size) fun w3 hb3 hc3 hf3 z3_0 z3_1 _=> ?_));(first|have y3_0:=szl (k:=w2.heap.size) hb3 (by first|go_size|fail)|have y3_0:=Nat.one_pos))|((go_at_call 33;(with_reducible refine mo2 w (HM.out _ bi) (by go_size) fun w4 hb4 hc4 hf4 z4_0 z4_1 _=> ?_));(first|have y4_0:=szl (k:=w2.heap.size) hb4 (by first|go_size|fail)|have y4_0:=Nat.one_pos);(first|have y4_1:=szl (k:=w3.heap.size) hb4 (by first|go_size|fail)|have y4_1:=Nat.one_pos))|((go_at_call 29;(with_reducible show Calls _ _ #[sp a1 a2] _ _);(with_reducible refine mo2 w (HC1.out _) (by go_size) fun w5 hb5 hc5 hf5 z5_0 z5_1 _=> ?_));(first|have y5_0:=szl (k:=w2.heap.size) hb5 (by first|go_size|fail)|have y5_0:=Nat.one_pos);(first|have y5_1:=szl (k:=w3.heap.size) hb5 (by first|go_size|fail)|have y5_1:=Nat.one_pos);(first|have y5_2:=szl (k:=w4.heap.size) hb5 (by first|go_size|fail)|have y5_2:=Nat.one_pos))|((go_at_call 34;(with_reducible refine mo2 w (HC.out _ bi) (by go_size) fun w6 hb6 hc6 hf6 z6_0 z6_1 _=> ?_));(first|have y6_0:=szl (k:=w2.heap.size) hb6 (by first|go_size|fail)|have y6_0:=Nat.one_pos);(first|have y6_1:=szl (k:=w3.heap.size) hb6 (by first|go_size|fail)|have y6_1:=Nat.one_pos);(first|have y6_2:=szl (k:=w4.heap.size) hb6 (by first|go_size|fail)|have y6_2:=Nat.one_pos))|((go_at_call 29;(with_reducible show Calls _ _ #[sp b1 b2] _ _);(with_reducible refine mo2 w (HC2.out _) (by go_size) fun w7 hb7 hc7 hf7 z7_0 z7_1 _=> ?_));(first|have y7_0:=szl (k:=w2.heap.size) hb7 (by first|go_size|fail)|have y7_0:=Nat.one_pos);(first|have y7_1:=szl (k:=w3.heap.size) hb7 (by first|go_size|fail)|have y7_1:=Nat.one_pos);(first|have y7_2:=szl (k:=w4.heap.size) hb7 (by first|go_size|fail)|have y7_2:=Nat.one_pos))|((go_at_call 11;(with_reducible refine mo2 w (HF.out _ _ _) (by go_size) fun w8 hb8 hc8 hf8 z8_0 z8_1 _=> ?_));(first|have y8_0:=szl (k:=w2.heap.size) hb8 (by first|go_size|fail)|have y8_0:=Nat.one_pos);(first|have y8_1:=szl (k:=w3.heap.size) hb8 (by first|go_size|fail)|have y8_1:=Nat.one_pos);(first|have y8_2:=szl (k:=w4.heap.size) hb8 (by first|go_size|fail)|have y8_2:=Nat.one_pos))|((go_at_call 30;(with_reducible refine mo2 w (HN.out _) (by go_size) fun w9 hb9 hc9 hf9 z9_0 z9_1 _=> ?_));(first|have y9_0:=szl (k:=w2.heap.size) hb9 (by first|go_size|fail)|have y9_0:=Nat.one_pos);(first|have y9_1:=szl (k:=w3.heap.size) hb9 (by first|go_size|fail)|have y9_1:=Nat.one_pos);(first|have y9_2:=szl (k:=w4.heap.size) hb9 (by first|go_size|fail)|have y9_2:=Nat.one_pos)))
 go_ret
 exact ⟨rfl,bi⟩
set_option maxHeartbeats 16000000 in
theorem jsC (hE:Env w) (h1:a1.length≤40) (h2:a2.length≤40) (h3:b1.length≤40) (h4:b2.length≤40) (hk:ja7 jab [(a1,a2),(b1,b2)]=0)
  (hx1:IsNum a1 x1) (hx2:IsNum a2 x2) (hy1:IsNum b1 y1) (hy2:IsNum b2 y2):Calls Tryz.prog 6 #[sp a1 a2,sp b1 b2] w fun e w'=>e= .returned (.bool true)∧Below w.heap.size w w':=by
 have HW:Hid (∀W,Below w.heap.size w W→Calls Tryz.prog 8 #[] W fun e w'=>e= .returned (.bool true)∧Below W.heap.size W w'):=qh (fun W hb=>jas (hE.below hb))
 obtain ⟨k,hkk⟩:∃k:Int,k=0:=⟨0,rfl⟩
 rw [←hkk] at hk
 have q1:decide ((40:Int) < (a1.length:Int))=false:=by rw [decide_eq_false_iff_not];omega
 have q2:decide ((40:Int) < (a2.length:Int))=false:=by rw [decide_eq_false_iff_not];omega
 have q3:decide ((40:Int) < (b1.length:Int))=false:=by rw [decide_eq_false_iff_not];omega
 have q4:decide ((40:Int) < (b2.length:Int))=false:=by rw [decide_eq_false_iff_not];omega
 obtain ⟨k1,hk1⟩:∃k,jab (a1,a2)=k:=⟨_,rfl⟩
 obtain ⟨k2,hk2⟩:∃k,jab (b1,b2)=k:=⟨_,rfl⟩
 have HC1:=qh (fun W=>jbp (w:=W) (show a1.length≤9000 by omega) (show a2.length≤9000 by omega) hk1)
 have HC2:=qh (fun W=>jbp (w:=W) (show b1.length≤9000 by omega) (show b2.length≤9000 by omega) hk2)
 have HC:=qh (fun W (hb:Below w.heap.size w W)=>hk1 ▸ jcd (a:=a1) (b:=a2) (hE.below hb) (by omega) (by omega))
 have HF:=qh (fun W T c=>jcr W T c k1 k2 k (by rw [←hk1,←hk2,jkf];exact hk))
 subst hkk
 have d1:=hx1.dzl h1 (by omega)
 have d2:=hx2.dzl h2 (by omega)
 have d3:=hy1.dzl h3 (by omega)
 have d4:=hy2.dzl h4 (by omega)
 obtain ⟨P,hP⟩:∃z,x1+y1=z:=⟨_,rfl⟩
 obtain ⟨Q,hQ⟩:∃z,x2+y2=z:=⟨_,rfl⟩
 obtain ⟨R,hR⟩:∃z,x1 - y2=z:=⟨_,rfl⟩
 obtain ⟨S,hS⟩:∃z,x2 - y1=z:=⟨_,rfl⟩
 have p1:Dz 100 (x1*y1):=(d1.mul d3).mono (by omega)
 have p2:Dz 100 (x1*y2):=(d1.mul d4).mono (by omega)
 have p3:Dz 100 (x2*y1):=(d2.mul d3).mono (by omega)
 have p4:Dz 100 (x2*y2):=(d2.mul d4).mono (by omega)
 have l1:=jr2 p1 p2 p3 p4
 have l2:=jrW p1 p2 p3 p4
 obtain ⟨L,hL⟩:∃z,jiF (x1*y1) [x1*y2,x2*y1,x2*y2]=z:=⟨_,rfl⟩
 obtain ⟨M,hM⟩:∃z,jiD (x1*y1) [x1*y2,x2*y1,x2*y2]=z:=⟨_,rfl⟩
 rw [hL] at l1
 rw [hM] at l2
 have dP:Dz 100 P:=hP ▸ (d1.add d3).mono (by omega)
 have dQ:Dz 100 Q:=hQ ▸ (d2.add d4).mono (by omega)
 have dR:Dz 100 R:=hR ▸ (d1.sub d4).mono (by omega)
 have dS:Dz 100 S:=hS ▸ (d2.sub d3).mono (by omega)
 obtain ⟨t1,t2,t3⟩:=jny dP dQ (by omega) (by omega)
 obtain ⟨t4,t5,t6⟩:=jny dR dS (by omega) (by omega)
 obtain ⟨t7,t8,t9⟩:=jny l1 l2 (by omega) (by omega)
 have HA:=qh (fun W (hb:Below w.heap.size w W)=>jsO (hE.below hb) (by omega) (by omega) (by omega) (by omega) hx1 hx2 hy1 hy2 hk hP hQ (dP.strQ (by omega)) (dQ.strQ (by omega)) t1 t2 t3)
 have HS:=qh (fun W (hb:Below w.heap.size w W)=>jtn (hE.below hb) (by omega) (by omega) (by omega) (by omega) hx1 hx2 hy1 hy2 hk hR hS (dR.strQ (by omega)) (dS.strQ (by omega)) t4 t5 t6)
 have HM:=qh (fun W (hb:Below w.heap.size w W)=>jqF (hE.below hb) (by omega) (by omega) (by omega) (by omega) hx1 hx2 hy1 hy2 hk hL hM (l1.strQ (by omega)) (l2.strQ (by omega)) t7 t8 t9)
 have HNA:=qh (fun W=>jdb (w:=W) (dP.mono (show 100≤600 by omega)) (dQ.mono (by omega)))
 have HNS:=qh (fun W=>jdb (w:=W) (dR.mono (show 100≤600 by omega)) (dS.mono (by omega)))
 have HNM:=qh (fun W=>jdb (w:=W) (l1.mono (show 100≤600 by omega)) (l2.mono (by omega)))
 have HRA:=qh (fun W=>jo9 (w:=W) (a1:=a1) (a2:=a2) (b1:=b1) (b2:=b2) (l:=tq P) (h:=tq Q)
  (fun W=>by rw [hx1.eq,hy1.eq,←hP];exact jdP d1 d3 (by omega) (by omega) (by omega) (by omega)) (fun W=>by rw [hx2.eq,hy2.eq,←hQ];exact jdP d2 d4 (by omega) (by omega) (by omega) (by omega)))
 have HRS:=qh (fun W=>jnE (w:=W) (a1:=a1) (a2:=a2) (b1:=b1) (b2:=b2) (l:=tq R) (h:=tq S)
  (fun W=>by rw [hx1.eq,hy2.eq,←hR];exact jca d1 d4 (by omega) (by omega) (by omega) (by omega)) (fun W=>by rw [hx2.eq,hy1.eq,←hS];exact jca d2 d3 (by omega) (by omega) (by omega) (by omega)))
 have s1:Dz 100 (jo5 (x1*y1) (x1*y2)):=by unfold jo5;split <;> assumption
 have s2:Dz 100 (jo5 (x2*y1) (x2*y2)):=by unfold jo5;split <;> assumption
 have s3:Dz 100 (jnv (x1*y1) (x1*y2)):=by unfold jnv;split <;> assumption
 have s4:Dz 100 (jnv (x2*y1) (x2*y2)):=by unfold jnv;split <;> assumption
 have HRM:=qh (fun W=>jmT (w:=W) (a1:=a1) (a2:=a2) (b1:=b1) (b2:=b2) (l:=tq L) (h:=tq M)
  (fun W=>by rw [hx1.eq,hy1.eq];exact jbg d1 d3 (by omega) (by omega) (by omega) (by omega)) (fun W=>by rw [hx1.eq,hy2.eq];exact jbg d1 d4 (by omega) (by omega) (by omega) (by omega))
  (fun W=>by rw [hx2.eq,hy1.eq];exact jbg d2 d3 (by omega) (by omega) (by omega) (by omega)) (fun W=>by rw [hx2.eq,hy2.eq];exact jbg d2 d4 (by omega) (by omega) (by omega) (by omega))
  (fun W=>jmF p1 p2 (by omega) (by omega) (by omega) (by omega)) (fun W=>jmF p3 p4 (by omega) (by omega) (by omega) (by omega))
  (fun W=>by rw [←hL,←jo2];exact jmF s1 s2 (by omega) (by omega) (by omega) (by omega))
  (fun W=>jmo p1 p2 (by omega) (by omega) (by omega) (by omega)) (fun W=>jmo p3 p4 (by omega) (by omega) (by omega) (by omega))
  (fun W=>by rw [←hM,←jmC];exact jmo s3 s4 (by omega) (by omega) (by omega) (by omega)))
 clear s1 s2 s3 s4
 obtain ⟨TP,e1⟩:∃t,tq P=t:=⟨_,rfl⟩
 obtain ⟨TQ,e2⟩:∃t,tq Q=t:=⟨_,rfl⟩
 obtain ⟨TR,e3⟩:∃t,tq R=t:=⟨_,rfl⟩
 obtain ⟨TS,e4⟩:∃t,tq S=t:=⟨_,rfl⟩
 obtain ⟨TL,e5⟩:∃t,tq L=t:=⟨_,rfl⟩
 obtain ⟨TM,e6⟩:∃t,tq M=t:=⟨_,rfl⟩
 rw [e1,e2] at HA HNA HRA
 rw [e3,e4] at HS HNS HRS
 rw [e5,e6] at HM HNM HRM
 clear hE h1 h2 h3 h4 hk hk1 hk2 hx1 hx2 hy1 hy2 d1 d2 d3 d4 hP hQ hR hS p1 p2 p3 p4 l1 l2 hL hM dP dQ dR dS t1 t2 t3 t4 t5 t6 t7 t8 t9 e1 e2 e3 e4 e5 e6
 go_enter Tryz.func6,Tryz.ntmps6
 go_upto_region 12 with (first|(go_at_call 8;(with_reducible refine mo2 w (HW.out _ bi) (by go_size) fun w1 hb1 hc1 hf1 z1_0 z1_1 _=> ?_))|(go_at_call 31;(with_reducible refine mo2 w (HA.out _ bi) (by go_size) fun w2 hb2 hc2 hf2 z2_0 z2_1 _=> ?_))|((go_at_call 32;(with_reducible refine mo2 w (HS.out _ bi) (by go_size) fun w3 hb3 hc3 hf3 z3_0 z3_1 _=> ?_));(first|have y3_0:=szl (k:=w2.heap.size) hb3 (by first|go_size|fail)|have y3_0:=Nat.one_pos))|((go_at_call 33;(with_reducible refine mo2 w (HM.out _ bi) (by go_size) fun w4 hb4 hc4 hf4 z4_0 z4_1 _=> ?_));(first|have y4_0:=szl (k:=w2.heap.size) hb4 (by first|go_size|fail)|have y4_0:=Nat.one_pos);(first|have y4_1:=szl (k:=w3.heap.size) hb4 (by first|go_size|fail)|have y4_1:=Nat.one_pos))|((go_at_call 29;(with_reducible show Calls _ _ #[sp a1 a2] _ _);(with_reducible refine mo2 w (HC1.out _) (by go_size) fun w5 hb5 hc5 hf5 z5_0 z5_1 _=> ?_));(first|have y5_0:=szl (k:=w2.heap.size) hb5 (by first|go_size|fail)|have y5_0:=Nat.one_pos);(first|have y5_1:=szl (k:=w3.heap.size) hb5 (by first|go_size|fail)|have y5_1:=Nat.one_pos);(first|have y5_2:=szl (k:=w4.heap.size) hb5 (by first|go_size|fail)|have y5_2:=Nat.one_pos))|((go_at_call 34;(with_reducible refine mo2 w (HC.out _ bi) (by go_size) fun w6 hb6 hc6 hf6 z6_0 z6_1 _=> ?_));(first|have y6_0:=szl (k:=w2.heap.size) hb6 (by first|go_size|fail)|have y6_0:=Nat.one_pos);(first|have y6_1:=szl (k:=w3.heap.size) hb6 (by first|go_size|fail)|have y6_1:=Nat.one_pos);(first|have y6_2:=szl (k:=w4.heap.size) hb6 (by first|go_size|fail)|have y6_2:=Nat.one_pos))|((go_at_call 29;(with_reducible show Calls _ _ #[sp b1 b2] _ _);(with_reducible refine mo2 w (HC2.out _) (by go_size) fun w7 hb7 hc7 hf7 z7_0 z7_1 _=> ?_));(first|have y7_0:=szl (k:=w2.heap.size) hb7 (by first|go_size|fail)|have y7_0:=Nat.one_pos);(first|have y7_1:=szl (k:=w3.heap.size) hb7 (by first|go_size|fail)|have y7_1:=Nat.one_pos);(first|have y7_2:=szl (k:=w4.heap.size) hb7 (by first|go_size|fail)|have y7_2:=Nat.one_pos))|((go_at_call 11;(with_reducible refine mo2 w (HF.out _ _ _) (by go_size) fun w8 hb8 hc8 hf8 z8_0 z8_1 _=> ?_));(first|have y8_0:=szl (k:=w2.heap.size) hb8 (by first|go_size|fail)|have y8_0:=Nat.one_pos);(first|have y8_1:=szl (k:=w3.heap.size) hb8 (by first|go_size|fail)|have y8_1:=Nat.one_pos);(first|have y8_2:=szl (k:=w4.heap.size) hb8 (by first|go_size|fail)|have y8_2:=Nat.one_pos)))
 refine ja3 (fun w'=>Below w8.heap.size w8 w') [] (by kernel_rfl) ?_
 refine tb 0 (sp TP TQ) [] rfl (by kernel_rfl) pk rfl (by intros;go_simp) bq0 ?_
 simp only [ppq]
 refine tb 1 (.int .i64 0) [] rfl (by kernel_rfl) pk rfl (by intros;go_simp) bq0 ?_
 simp only [ppq]
 refine tb 2 (sp a1 a2) [] rfl (by kernel_rfl) pk rfl (by intros;go_simp) bq0 ?_
 simp only [ppq]
 refine tb 3 (sp b1 b2) [] rfl (by kernel_rfl) pk rfl (by intros;go_simp) bq0 ?_
 simp only [ppq]
 refine rd1 4 (by kernel_rfl) rfl (fun K hK=> ?_)
 go_simp
 go_wp2_with (go_at_call 35;(with_reducible refine mo2 w (HRA.out _) (by go_size) fun w9 hb9 hc9 hf9 z9_0 z9_1 _=> ?_))
 have sS9:=qh (bst bq0 hb9)
 refine hK.out _ _ (fun _=>sS9.out) ?_
 clear hK K
 refine rd1 5 (by kernel_rfl) rfl (fun K hK=> ?_)
 go_simp
 go_wp2_with (go_at_call 30;(with_reducible refine mo2 w (HNA.out _) (by go_size) fun w12 hb12 hc12 hf12 z12_0 z12_1 _=> ?_))
 have sS12:=qh (bst sS9.out hb12)
 refine hK.out _ _ (fun _=>sS12.out) ?_
 clear hK K
 refine rd1 6 (by kernel_rfl) rfl (fun K hK=> ?_)
 go_simp
 refine hK.out _ _ (fun _=>bi) ?_
 clear hK K
 refine tb 7 (sp TR TS) [] rfl (by kernel_rfl) pk rfl (by intros;go_simp) sS12.out ?_
 simp only [ppq]
 refine tb 8 (.int .i64 0) [] rfl (by kernel_rfl) pk rfl (by intros;go_simp) sS12.out ?_
 simp only [ppq]
 refine tb 9 (sp a1 a2) [] rfl (by kernel_rfl) pk rfl (by intros;go_simp) sS12.out ?_
 simp only [ppq]
 refine tb 10 (sp b1 b2) [] rfl (by kernel_rfl) pk rfl (by intros;go_simp) sS12.out ?_
 simp only [ppq]
 refine rd1 11 (by kernel_rfl) rfl (fun K hK=> ?_)
 go_simp
 go_wp2_with (go_at_call 36;(with_reducible refine mo2 w (HRS.out _) (by go_size) fun w10 hb10 hc10 hf10 z10_0 z10_1 _=> ?_))
 have sS10:=qh (bst sS12.out hb10)
 refine hK.out _ _ (fun _=>sS10.out) ?_
 clear hK K
 refine rd1 12 (by kernel_rfl) rfl (fun K hK=> ?_)
 go_simp
 go_wp2_with (go_at_call 30;(with_reducible refine mo2 w (HNS.out _) (by go_size) fun w13 hb13 hc13 hf13 z13_0 z13_1 _=> ?_))
 have sS13:=qh (bst sS10.out hb13)
 refine hK.out _ _ (fun _=>sS13.out) ?_
 clear hK K
 refine rd1 13 (by kernel_rfl) rfl (fun K hK=> ?_)
 go_simp
 refine hK.out _ _ (fun _=>bi) ?_
 clear hK K
 refine rd1 14 (by kernel_rfl) rfl (fun K hK=> ?_)
 go_simp
 refine hK.out _ _ (fun _=>bi) ?_
 clear hK K
 refine tb 15 (sp TL TM) [] rfl (by kernel_rfl) pk rfl (by intros;go_simp) sS13.out ?_
 simp only [ppq]
 refine tb 16 (.int .i64 0) [] rfl (by kernel_rfl) pk rfl (by intros;go_simp) sS13.out ?_
 simp only [ppq]
 refine tb 17 (sp a1 a2) [] rfl (by kernel_rfl) pk rfl (by intros;go_simp) sS13.out ?_
 simp only [ppq]
 refine tb 18 (sp b1 b2) [] rfl (by kernel_rfl) pk rfl (by intros;go_simp) sS13.out ?_
 simp only [ppq]
 refine rd1 19 (by kernel_rfl) rfl (fun K hK=> ?_)
 go_simp
 go_wp2_with (go_at_call 37;(with_reducible refine mo2 w (HRM.out _) (by go_size) fun w11 hb11 hc11 hf11 z11_0 z11_1 _=> ?_))
 have sS11:=qh (bst sS13.out hb11)
 refine hK.out _ _ (fun _=>sS11.out) ?_
 clear hK K
 refine rd1 20 (by kernel_rfl) rfl (fun K hK=> ?_)
 go_simp
 go_wp2_with (go_at_call 30;(with_reducible refine mo2 w (HNM.out _) (by go_size) fun w14 hb14 hc14 hf14 z14_0 z14_1 _=> ?_))
 have sS14:=qh (bst sS11.out hb14)
 refine hK.out _ _ (fun _=>sS14.out) ?_
 clear hK K
 refine rd1 21 (by kernel_rfl) rfl (fun K hK=> ?_)
 go_simp
 refine hK.out _ _ (fun _=>bi) ?_
 clear hK K
 refine rd1 22 (by kernel_rfl) rfl (fun K hK=> ?_)
 go_simp
 refine hK.out _ _ (fun _=>bi) ?_
 clear hK K
 refine ja2 (by kernel_rfl) ?_ _
 go_wp2
 go_ret
 exact ⟨rfl,bi⟩
theorem jpJ (hE:Env w):Calls Tryz.prog 6 #[sp a1 a2,sp b1 b2] w fun e w'=>e= .returned (.bool true)∧Below w.heap.size w w':=by
 by_cases hl:a1.length≤40∧a2.length≤40∧b1.length≤40∧b2.length≤40
 ·by_cases hk:ja7 jab [(a1,a2),(b1,b2)]=0
  ·have e1:jab (a1,a2)=0:=by
    by_cases e:jab (a1,a2)=0
    ·exact e
    ·unfold ja7 at hk;rw [if_neg e] at hk;exact hk
   have e2:jab (b1,b2)=0:=by
    unfold ja7 at hk;rw [if_pos e1] at hk
    by_cases e:jab (b1,b2)=0
    ·exact e
    ·unfold ja7 at hk;rw [if_neg e] at hk;exact hk
   obtain ⟨x1,x2⟩:=jni e1
   obtain ⟨y1,y2⟩:=jni e2
   exact jsC hE hl.1 hl.2.1 hl.2.2.1 hl.2.2.2 hk x1 x2 y1 y2
  ·exact jrV hE hl.1 hl.2.1 hl.2.2.1 hl.2.2.2 rfl hk
 ·exact jox hE hl
end
end Go.Proofs.YtfoolepjkhgckaaGreatDoor
