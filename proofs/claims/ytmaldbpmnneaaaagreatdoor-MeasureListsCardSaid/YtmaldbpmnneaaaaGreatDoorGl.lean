/- Parts. -/
import Derived.Test.YtmaldbpmnneaaaaGreatDoorGiG
set_option linter.all false
set_option maxRecDepth 100000
set_option maxHeartbeats 8000000
namespace Go.Proofs.YtmaldbpmnneaaaaGreatDoor
open Go Go.RowKit

theorem jqg {x y:Rat} {k:Nat} (hx:Dz k x) (hy:Dz k y) (hk:0 < k) (hk2:k≤600):jlA x y=tq x∧jl9 x y=tq y∧jkX x y=0:=by
 have h1:=(jfH hx hk hk2).2.1
 have h2:=(jfH hy hk hk2).2.1
 unfold jbq at h1 h2
 have e1:jcU x=false:=by cases h:jcU x <;> simp_all
 have e2:jcU y=false:=by cases h:jcU y <;> simp_all
 unfold jlA jl9 jkX
 rw [e1,e2];exact ⟨rfl,rfl,rfl⟩
theorem jgs (x:Int) (r:List Int):∀i,jdD (x::r) (i+1)=x+jdD r i
 | 0=>by simp [jdD]
 | i+1=>by
   rw [jdD,jgs x r i,jdD]
   simp only [List.getD_cons_succ]
   omega
theorem jj2:∀ws:List Int,jdD ws ws.length=ws.sum
 | []=>rfl
 | x::r=>by rw [List.length_cons,jgs,jj2 r,List.sum_cons]
theorem jha:∀{ws:List Int} {s z:Int},0≤s→jgF s ws=(z,0)→(∀x∈ws,0≤x∧x≤999999999)∧z=s+ws.sum∧0 < z
 | [],s,z,h0,h=>by
   rw [jgF] at h
   by_cases e:s=0
   ·rw [if_pos e] at h;cases h
   ·rw [if_neg e] at h;cases h
    exact ⟨fun x hx=>absurd hx (by simp),by simp,by omega⟩
 | x::r,s,z,h0,h=>by
   rw [jgF] at h
   by_cases e:x < 0∨999999999 < x
   ·rw [if_pos e] at h;cases h
   ·rw [if_neg e] at h
    obtain ⟨k1,k2,k3⟩:=jha (by omega) h
    refine ⟨fun y hy=> ?_,by rw [k2,List.sum_cons];omega,k3⟩
    rcases List.mem_cons.1 hy with rfl|hy
    ·omega
    ·exact k1 y hy
theorem jjl {k:Nat} {l:List Rat} {m:Rat} (hm:Dz k m) (hl:∀x∈l,Dz k x):Dz k (jcA m l):=by
 rcases List.mem_cons.1 (jfS l m) with h|h
 ·rw [h];exact hm
 ·exact hl _ h
theorem jjf {k:Nat} {l:List Rat} {m:Rat} (hm:Dz k m) (hl:∀x∈l,Dz k x):Dz k (jcD m l):=by
 rcases List.mem_cons.1 (jgm l m) with h|h
 ·rw [h];exact hm
 ·exact hl _ h
theorem joW {k n:Nat} {l:List Rat} (hn:l.length=n) (h:∀j,j < n→Dz k (l.getD j 0)):∀x∈l,Dz k x:=fun x hx=>by
 obtain ⟨j,hj,rfl⟩:=List.mem_iff_getElem.1 hx
 have:=h j (by omega)
 rwa [List.getD_eq_getElem?_getD,List.getElem?_eq_getElem hj] at this
theorem jkf {x:Rat} (h:Dz 20 x):Sz 2 x:=by
 have e:(10:Nat)^20 < B64^2:=by rw [ja7];decide
 exact ⟨Nat.le_of_lt (Nat.lt_trans h.num e),Nat.le_of_lt (Nat.lt_trans h.den e)⟩
section
variable {w:World} {A B:Option Addr} {n m c d:Nat} {ls:List (List UInt8×List UInt8)} {ws:List Int}
theorem jjI (hE:Env w) (hs:Pv w A n ls) (hsh:jbD n ls=false):Calls Tryz.prog 3 #[.slice A n c, .slice B m d] w fun e w'=>e= .returned (.bool true)∧Below w.heap.size w w':=by
 have HW:Hid (∀W,Below w.heap.size w W→Calls Tryz.prog 4 #[] W fun e w'=>e= .returned (.bool true)∧Below W.heap.size W w'):=qh (fun W hb=>jcH (hE.below hb))
 have HSH:=qh (fun W (hb:Below w.heap.size w W)=>jdj (c:=c) hsh (hs.below hb))
 clear hE hs hsh
 go_enter Tryz.func3,Tryz.ntmps3
 go_wp2_with (first|(go_at_call 4;(with_reducible refine mo0 (HW.out _ bi) fun w1 hb1 hc1 hf1 _=> ?_))|(go_at_call 5;(with_reducible refine mo0 (HSH.out _ bi) fun w2 hb2 hc2 hf2 _=> ?_)))
 go_ret
 exact ⟨rfl,bi⟩
theorem jhU (hE:Env w) (hs:Pv w A n ls) (hsh:jbD n ls=true) (hm:270 < m):Calls Tryz.prog 3 #[.slice A n c, .slice B m d] w fun e w'=>e= .returned (.bool true)∧Below w.heap.size w w':=by
 have HW:Hid (∀W,Below w.heap.size w W→Calls Tryz.prog 4 #[] W fun e w'=>e= .returned (.bool true)∧Below W.heap.size W w'):=qh (fun W hb=>jcH (hE.below hb))
 have HSH:=qh (fun W (hb:Below w.heap.size w W)=>jdj (c:=c) hsh (hs.below hb))
 have q1:decide ((270:Int) < (m:Int))=true:=by rw [decide_eq_true_iff];omega
 clear hE hs hsh hm
 go_enter Tryz.func3,Tryz.ntmps3
 go_wp2_with (first|(go_at_call 4;(with_reducible refine mo0 (HW.out _ bi) fun w1 hb1 hc1 hf1 _=> ?_))|(go_at_call 5;(with_reducible refine mo0 (HSH.out _ bi) fun w2 hb2 hc2 hf2 _=> ?_)))
 go_ret
 exact ⟨rfl,bi⟩
theorem jlS {k:Int} (hE:Env w) (hs:Pv w A n ls) (hsh:jbD n ls=true) (hm:m≤270) (hl:∀p∈ls,p.1.length≤20∧p.2.length≤20) (hk:jaU n ls=k) (h0:k≠0):Calls Tryz.prog 3 #[.slice A n c, .slice B m d] w fun e w'=>e= .returned (.bool true)∧Below w.heap.size w w':=by
 have HW:Hid (∀W,Below w.heap.size w W→Calls Tryz.prog 4 #[] W fun e w'=>e= .returned (.bool true)∧Below W.heap.size W w'):=qh (fun W hb=>jcH (hE.below hb))
 have HSH:=qh (fun W (hb:Below w.heap.size w W)=>jdj (c:=c) hsh (hs.below hb))
 have q1:decide ((270:Int) < (m:Int))=false:=by rw [decide_eq_false_iff_not];omega
 have q5:(k != 0)=true:=by rw [bne_iff_ne];exact h0
 have hl2:∀p∈ls,p.1.length < 4294967281∧p.2.length < 4294967281:=fun p hp=>by have:=hl p hp;omega
 have HU:=qh (fun W (hb:Below w.heap.size w W)=>jnA (c:=c) (hE.below hb) (hs.below hb) hl2 hk h0)
 have HM:=qh (fun W (hb:Below w.heap.size w W)=>jmU (c:=c) (hE.below hb) (hs.below hb) hl2 hk h0)
 have HC:=qh (fun W (hb:Below w.heap.size w W)=>jlb (c:=c) (hE.below hb) (hs.below hb) hl2 hk h0)
 have HN:=qh (fun W (hb:Below w.heap.size w W)=>jnZ (c:=c) (B:=B) (m:=m) (d:=d) (hE.below hb) (hs.below hb) hl2 hk h0)
 have HK:=qh (fun W (hb:Below w.heap.size w W)=>jfh (c:=c) hk (hs.below hb) (fun p hp=>by have:=hl p hp;omega))
 have HS:=qh (fun W=>jg6 (w:=W) (a:=[]) (b:=[]) h0)
 clear hE hs hsh hm hl hl2 hk h0
 go_enter Tryz.func3,Tryz.ntmps3
 go_wp2_with (first|(go_at_call 4;(with_reducible refine mo0 (HW.out _ bi) fun w1 hb1 hc1 hf1 _=> ?_))|(go_at_call 5;(with_reducible refine mo0 (HSH.out _ bi) fun w2 hb2 hc2 hf2 _=> ?_))|(go_at_call 6;(with_reducible refine mo0 (HU.out _ bi) fun w3 hb3 hc3 hf3 _=> ?_))|((go_at_call 7;(with_reducible refine mo0 (HM.out _ bi) fun w4 hb4 hc4 hf4 _=> ?_));(first|have y4_0:=szl (k:=w3.heap.size) hb4 (by first|go_size|fail)|have y4_0:=Nat.one_pos))|((go_at_call 8;(with_reducible refine mo0 (HC.out _ bi) fun w5 hb5 hc5 hf5 _=> ?_));(first|have y5_0:=szl (k:=w3.heap.size) hb5 (by first|go_size|fail)|have y5_0:=Nat.one_pos);(first|have y5_1:=szl (k:=w4.heap.size) hb5 (by first|go_size|fail)|have y5_1:=Nat.one_pos))|((go_at_call 9;(with_reducible refine mo0 (HN.out _ bi) fun w6 hb6 hc6 hf6 _=> ?_));(first|have y6_0:=szl (k:=w3.heap.size) hb6 (by first|go_size|fail)|have y6_0:=Nat.one_pos);(first|have y6_1:=szl (k:=w4.heap.size) hb6 (by first|go_size|fail)|have y6_1:=Nat.one_pos))|((go_at_call 10;(with_reducible refine mo0 (HK.out _ bi) fun w7 hb7 hc7 hf7 _=> ?_));(first|have y7_0:=szl (k:=w3.heap.size) hb7 (by first|go_size|fail)|have y7_0:=Nat.one_pos);(first|have y7_1:=szl (k:=w4.heap.size) hb7 (by first|go_size|fail)|have y7_1:=Nat.one_pos);(first|have y7_2:=szl (k:=w6.heap.size) hb7 (by first|go_size|fail)|have y7_2:=Nat.one_pos))|((go_at_call 11;(with_reducible refine mo0 (HS.out _) fun w8 hb8 hc8 hf8 _=> ?_));(first|have y8_0:=szl (k:=w3.heap.size) hb8 (by first|go_size|fail)|have y8_0:=Nat.one_pos);(first|have y8_1:=szl (k:=w4.heap.size) hb8 (by first|go_size|fail)|have y8_1:=Nat.one_pos);(first|have y8_2:=szl (k:=w6.heap.size) hb8 (by first|go_size|fail)|have y8_2:=Nat.one_pos)))
 go_ret
 exact ⟨rfl,bi⟩
set_option maxHeartbeats 16000000 in
theorem jfg {gm g0:Bool} {H1 H2 M1 M2 N1 N2 Z1 Z2 U1 U2:List UInt8} {e2 eN g I K:Int} {F:Bool} (hE:Env w) (hs:Pv w A n ls) (hsh:jbD n ls=true) (hm:m≤270)
  (HU:Hid (∀W,Below w.heap.size w W→Calls Tryz.prog 6 #[.slice A n c] W fun e w'=>e= .returned (.tuple #[sp H1 H2, .int .i64 0])∧Below W.heap.size W w'))
  (HM:Hid (∀W,Below w.heap.size w W→Calls Tryz.prog 7 #[.slice A n c] W fun e w'=>e= .returned (.tuple #[sp M1 M2, .int .i64 e2])∧Below W.heap.size W w'))
  (HC:Hid (∀W,Below w.heap.size w W→Calls Tryz.prog 8 #[.slice A n c] W fun e w'=>e= .returned (.tuple #[.int .i64 I, .int .i64 K, .int .i64 (if F then 0 else 7)])∧Below W.heap.size W w'))
  (HN:Hid (∀W,Below w.heap.size w W→Calls Tryz.prog 9 #[.slice A n c, .slice B m d] W fun e w'=>e= .returned (.tuple #[sp N1 N2, .int .i64 eN])∧Below W.heap.size W w'))
  (HK:Hid (∀W,Below w.heap.size w W→Calls Tryz.prog 10 #[.slice A n c] W fun e w'=>e= .returned (.int .i64 0)∧Below W.heap.size W w'))
  (HR:Hid (∀W,Below w.heap.size w W→Calls Tryz.prog 12 #[.slice A n c] W fun e w'=>e= .returned (.tuple #[sp Z1 Z2, .bool g0])∧Below W.heap.size W w'))
  (HL:Hid (∀W,Below w.heap.size w W→Calls Tryz.prog 13 #[.slice A n c] W fun e w'=>e= .returned (sp H1 H2)∧Below W.heap.size W w'))
  (S1:Hid (∀W,Calls Tryz.prog 11 #[sp H1 H2, .int .i64 0, .int .i64 0,sp H1 H2] W fun e w'=>e= .returned (.bool true)∧Below W.heap.size W w'))
  (W1:Hid (∀W,Calls Tryz.prog 14 #[.bool (!g0), .int .i64 15] W fun e w'=>e= .returned (.int .i64 e2)∧Below W.heap.size W w'))
  (S2:Hid (∀W,Calls Tryz.prog 11 #[sp M1 M2, .int .i64 e2, .int .i64 e2,sp Z1 Z2] W fun e w'=>e= .returned (.bool true)∧Below W.heap.size W w'))
  (HX:Hid (∀W,Below w.heap.size w W→Calls Tryz.prog 15 #[.slice A n c] W fun e w'=>e= .returned (.tuple #[.int .i64 I, .int .i64 K, .bool F])∧Below W.heap.size W w'))
  (hF:F=false→I=0∧K=0) (hgm:(m != n)=gm)
  (W2:Hid (∀W,Calls Tryz.prog 14 #[.bool gm, .int .i64 2] W fun e w'=>e= .returned (.int .i64 (if gm then 2 else 0))∧Below W.heap.size W w'))
  (HV:Hid (∀W,Below w.heap.size w W→Calls Tryz.prog 17 #[.slice B m d] W fun e w'=>e= .returned (.int .i64 (cw ws).2)∧Below W.heap.size W w'))
  (hg:fnz [if gm then 2 else 0,(cw ws).2]=g)
  (HQ:Hid (g≠0∧(∀W,Calls Tryz.prog 11 #[sp N1 N2, .int .i64 eN, .int .i64 g,sp [] []] W fun e w'=>e= .returned (.bool true)∧Below W.heap.size W w')∨
    g=0∧(∀W,Below w.heap.size w W→Calls Tryz.prog 18 #[.slice A n c, .slice B m d] W fun e w'=>e= .returned (sp U1 U2)∧Below W.heap.size W w')∧∀W,Calls Tryz.prog 11 #[sp N1 N2, .int .i64 eN, .int .i64 0,sp U1 U2] W fun e w'=>e= .returned (.bool true)∧Below W.heap.size W w')):
  Calls Tryz.prog 3 #[.slice A n c, .slice B m d] w fun e w'=>e= .returned (.bool true)∧Below w.heap.size w w':=by
 have HW:Hid (∀W,Below w.heap.size w W→Calls Tryz.prog 4 #[] W fun e w'=>e= .returned (.bool true)∧Below W.heap.size W w'):=qh (fun W hb=>jcH (hE.below hb))
 have HSH:=qh (fun W (hb:Below w.heap.size w W)=>jdj (c:=c) hsh (hs.below hb))
 have q1:decide ((270:Int) < (m:Int))=false:=by rw [decide_eq_false_iff_not];omega
 have hgm2:((m:Int) != (n:Int))=gm:=by
  rw [←hgm,Bool.eq_iff_iff,bne_iff_ne,bne_iff_ne];omega
 have FS:=qh (fun W T c=>jrE W T c (if gm then 2 else 0) (cw ws).2 g hg)
 obtain ⟨gi,egi⟩:∃x:Int,(if gm then 2 else 0:Int)=x:=⟨_,rfl⟩
 obtain ⟨cv,ecv⟩:∃x:Int,(cw ws).2=x:=⟨_,rfl⟩
 obtain ⟨e3,ee3⟩:∃x:Int,(if F then 0 else 7:Int)=x:=⟨_,rfl⟩
 rw [egi,ecv] at FS
 rw [egi] at W2
 rw [ecv] at HV
 rw [ee3] at HC
 have E3:=qh ee3
 have HFF:=qh hF
 clear hE hs hsh hm hg egi ecv ee3 hF
 go_enter Tryz.func3,Tryz.ntmps3
 go_upto_region 11 with (first|(go_at_call 4;(with_reducible refine mo0 (HW.out _ bi) fun w1 hb1 hc1 hf1 _=> ?_))|(go_at_call 5;(with_reducible refine mo0 (HSH.out _ bi) fun w2 hb2 hc2 hf2 _=> ?_))|(go_at_call 6;(with_reducible refine mo0 (HU.out _ bi) fun w3 hb3 hc3 hf3 _=> ?_))|((go_at_call 7;(with_reducible refine mo0 (HM.out _ bi) fun w4 hb4 hc4 hf4 _=> ?_));(first|have y4_0:=szl (k:=w3.heap.size) hb4 (by first|go_size|fail)|have y4_0:=Nat.one_pos))|((go_at_call 8;(with_reducible refine mo0 (HC.out _ bi) fun w5 hb5 hc5 hf5 _=> ?_));(first|have y5_0:=szl (k:=w3.heap.size) hb5 (by first|go_size|fail)|have y5_0:=Nat.one_pos);(first|have y5_1:=szl (k:=w4.heap.size) hb5 (by first|go_size|fail)|have y5_1:=Nat.one_pos))|((go_at_call 9;(with_reducible refine mo0 (HN.out _ bi) fun w6 hb6 hc6 hf6 _=> ?_));(first|have y6_0:=szl (k:=w3.heap.size) hb6 (by first|go_size|fail)|have y6_0:=Nat.one_pos);(first|have y6_1:=szl (k:=w4.heap.size) hb6 (by first|go_size|fail)|have y6_1:=Nat.one_pos))|((go_at_call 10;(with_reducible refine mo0 (HK.out _ bi) fun w7 hb7 hc7 hf7 _=> ?_));(first|have y7_0:=szl (k:=w3.heap.size) hb7 (by first|go_size|fail)|have y7_0:=Nat.one_pos);(first|have y7_1:=szl (k:=w4.heap.size) hb7 (by first|go_size|fail)|have y7_1:=Nat.one_pos);(first|have y7_2:=szl (k:=w6.heap.size) hb7 (by first|go_size|fail)|have y7_2:=Nat.one_pos))|((go_at_call 12;(with_reducible refine mo0 (HR.out _ bi) fun w8 hb8 hc8 hf8 _=> ?_));(first|have y8_0:=szl (k:=w3.heap.size) hb8 (by first|go_size|fail)|have y8_0:=Nat.one_pos);(first|have y8_1:=szl (k:=w4.heap.size) hb8 (by first|go_size|fail)|have y8_1:=Nat.one_pos);(first|have y8_2:=szl (k:=w6.heap.size) hb8 (by first|go_size|fail)|have y8_2:=Nat.one_pos)))
 obtain ⟨V,hV⟩:∃V,w8.alloc (.cells #[bs Z1,bs Z2] 28)=V:=⟨_,rfl⟩
 have k30:V.cell? ⟨w3.heap.size,0,none⟩=some (bs H1):=by rw [←hV];simp [go_sem,hc8,hc7,hc6,hc5,hc4,y4_0,y5_0,y6_0,y7_0,y8_0,nls y4_0,nls y6_0,nl y4_0,nl y5_0,nl y6_0,nl y8_0]
 have k31:V.cell? ⟨w3.heap.size,1,none⟩=some (bs H2):=by rw [←hV];simp [go_sem,hc8,hc7,hc6,hc5,hc4,y4_0,y5_0,y6_0,y7_0,y8_0,nls y4_0,nls y6_0,nl y4_0,nl y5_0,nl y6_0,nl y8_0]
 have k40:V.cell? ⟨w4.heap.size,0,none⟩=some (bs M1):=by rw [←hV];simp [go_sem,hc8,hc7,hc6,hc5,y5_1,y6_1,y7_1,y8_1,nls y6_1,nl y5_1,nl y6_1,nl y8_1]
 have k41:V.cell? ⟨w4.heap.size,1,none⟩=some (bs M2):=by rw [←hV];simp [go_sem,hc8,hc7,hc6,hc5,y5_1,y6_1,y7_1,y8_1,nls y6_1,nl y5_1,nl y6_1,nl y8_1]
 have k60:V.cell? ⟨w6.heap.size,0,none⟩=some (bs N1):=by rw [←hV];simp [go_sem,hc8,hc7,y7_2,y8_2,nl y7_2,nl y8_2]
 have k61:V.cell? ⟨w6.heap.size,1,none⟩=some (bs N2):=by rw [←hV];simp [go_sem,hc8,hc7,y7_2,y8_2,nl y7_2,nl y8_2]
 have k80:V.cell? ⟨w8.heap.size,0,none⟩=some (bs Z1):=by rw [←hV];simp [go_sem]
 have k81:V.cell? ⟨w8.heap.size,1,none⟩=some (bs Z2):=by rw [←hV];simp [go_sem]
 have bV:Below w.heap.size w V:=by rw [←hV];exact bi
 have _:=bm bV
 rw [hV]
 obtain ⟨b3,hb3⟩:∃b,w3.heap.size=b:=⟨_,rfl⟩
 obtain ⟨b4,hb4⟩:∃b,w4.heap.size=b:=⟨_,rfl⟩
 obtain ⟨b6,hb6⟩:∃b,w6.heap.size=b:=⟨_,rfl⟩
 obtain ⟨b8,hb8⟩:∃b,w8.heap.size=b:=⟨_,rfl⟩
 rw [hb3] at k30 k31 ⊢
 rw [hb4] at k40 k41 ⊢
 rw [hb6] at k60 k61 ⊢
 rw [hb8] at k80 k81 ⊢
 have z3:=World.block_lt_of_cell? V _ k30
 have z4:=World.block_lt_of_cell? V _ k40
 have z6:=World.block_lt_of_cell? V _ k60
 have z8:=World.block_lt_of_cell? V _ k80
 dsimp only at z3 z4 z6 z8
 clear hV hc1 hc2 hc3 hc4 hc5 hc6 hc7 hc8 hf1 hf2 hf3 hf4 hf5 hf6 hf7 hf8 y4_0 y5_0 y5_1 y6_0 y6_1 y7_0 y7_1 y7_2 y8_0 y8_1 y8_2 HU HM HC HN HK HR HW HSH
 refine ja3 (fun w'=>Below V.heap.size V w') [] (by kernel_rfl) ?_
 refine tb 0 (sp H1 H2) [] rfl (by kernel_rfl) pk rfl (by intros;go_simp) bq0 ?_
 simp only [ppq]
 refine tb 1 (.int .i64 0) [] rfl (by kernel_rfl) pk rfl (by intros;go_simp) bq0 ?_
 simp only [ppq]
 refine tb 2 (.slice A n c) [] rfl (by kernel_rfl) pk rfl (by intros;go_simp) bq0 ?_
 simp only [ppq]
 refine rd1 3 (by kernel_rfl) rfl (fun K hK=> ?_)
 go_simp
 go_wp2_with (go_at_call 13;(with_reducible refine mo0 (HL.out _ bi) fun w9 hb9 hc9 hf9 _=> ?_))
 have sS9:=qh (bst bq0 hb9)
 refine hK.out _ _ (fun _=>sS9.out) ?_
 clear hK K
 refine rd1 4 (by kernel_rfl) rfl (fun K hK=> ?_)
 go_simp
 go_wp2_with (go_at_call 11;(with_reducible refine mo0 (S1.out _) fun w10 hb10 hc10 hf10 _=> ?_))
 have sS10:=qh (bst sS9.out hb10)
 refine hK.out _ _ (fun _=>sS10.out) ?_
 clear hK K
 refine rd1 5 (by kernel_rfl) rfl (fun K hK=> ?_)
 go_simp
 refine hK.out _ _ (fun _=>bi) ?_
 clear hK K
 refine rd1 6 (by kernel_rfl) rfl (fun K hK=> ?_)
 go_simp
 refine hK.out _ _ (fun _=>bi) ?_
 clear hK K
 refine tb 7 (sp M1 M2) [] rfl (by kernel_rfl) pk rfl (by intros;go_simp) sS10.out ?_
 simp only [ppq]
 refine tb 8 (.int .i64 e2) [] rfl (by kernel_rfl) pk rfl (by intros;go_simp) sS10.out ?_
 simp only [ppq]
 refine tb 9 (.bool g0) [] rfl (by kernel_rfl) pk rfl (by intros;go_simp) sS10.out ?_
 simp only [ppq]
 refine tb 10 (.bool (!g0)) [] rfl (by kernel_rfl) pk rfl (by intros;go_simp) sS10.out ?_
 simp only [ppq]
 refine tb 12 (sp Z1 Z2) [] rfl (by kernel_rfl) pk rfl (by intros;go_simp) sS10.out ?_
 simp only [ppq]
 refine rd1 11 (by kernel_rfl) rfl (fun K hK=> ?_)
 go_simp
 go_wp2_with (go_at_call 14;(with_reducible refine mo0 (W1.out _) fun w11 hb11 hc11 hf11 _=> ?_))
 have sS11:=qh (bst sS10.out hb11)
 refine hK.out _ _ (fun _=>sS11.out) ?_
 clear hK K
 refine rd1 13 (by kernel_rfl) rfl (fun K hK=> ?_)
 go_simp
 go_wp2_with (go_at_call 11;(with_reducible refine mo0 (S2.out _) fun w12 hb12 hc12 hf12 _=> ?_))
 have sS12:=qh (bst sS11.out hb12)
 refine hK.out _ _ (fun _=>sS12.out) ?_
 clear hK K
 refine rd1 14 (by kernel_rfl) rfl (fun K hK=> ?_)
 go_simp
 refine hK.out _ _ (fun _=>bi) ?_
 clear hK K
 refine rd1 15 (by kernel_rfl) rfl (fun K hK=> ?_)
 go_simp
 refine hK.out _ _ (fun _=>bi) ?_
 clear hK K
 refine ja2 (by kernel_rfl) ?_ _
 have bb12:Below V.heap.size V w12:=bi
 replace k60:=ja4 bb12 k60
 replace k61:=ja4 bb12 k61
 obtain ⟨X,hX⟩:∃x,w12=x:=⟨_,rfl⟩
 have bX:Below w.heap.size w X:=by rw [←hX];exact bi
 rw [hX] at k60 k61 ⊢
 have _:=bm bX
 have z6':=World.block_lt_of_cell? X _ k60
 dsimp only at z6'
 clear hX z3 z4 z6 z8 k30 k31 k40 k41 k80 k81 bb12 hb9 hc9 hf9 hb10 hc10 hf10 hb11 hc11 hf11 hb12 hc12 hf12 sS9 sS10 sS11 sS12 HL S1 W1 S2
 go_upto_region 14 with ((go_at_call 15;(with_reducible refine mo0 (HX.out _ bi) fun w13 hb13 hc13 hf13 _=> ?_));(first|have y13_0:=szl (k:=b6) hb13 (by first|go_size|fail)|have y13_0:=Nat.one_pos))
 have bX13:Below X.heap.size X w13:=bi
 replace k60:=ja4 bX13 k60
 replace k61:=ja4 bX13 k61
 have E3o:=E3.out
 have HFo:=HFF.out
 go_cut [148] (fun u wx=>u= .bool false∧wx=w13)
 case first=>
  cases F
  ·obtain ⟨rfl,rfl⟩:=HFo rfl
   have e3':e3=7:=by rw [←E3o];rfl
   subst e3'
   go_wp2
   go_meet
   exact ⟨rfl,rfl⟩
  ·have e3':e3=0:=by rw [←E3o];rfl
   subst e3'
   go_wp2
   go_meet
   exact ⟨rfl,rfl⟩
 case rest=>
  obtain ⟨rfl,rfl⟩:=hcut
  clear E3o HFo E3 HFF HX
  go_upto_region 17 with (first|((go_at_call 14;(with_reducible refine mo0 (W2.out _) fun w14 hb14 hc14 hf14 _=> ?_));(first|have y14_0:=szl (k:=b6) hb14 (by first|go_size|fail)|have y14_0:=Nat.one_pos))|((go_at_call 17;(with_reducible refine mo0 (HV.out _ bi) fun w15 hb15 hc15 hf15 _=> ?_));(first|have y15_0:=szl (k:=b6) hb15 (by first|go_size|fail)|have y15_0:=Nat.one_pos))|((go_at_call 16;(with_reducible refine mo0 (FS.out _ _ _) fun w16 hb16 hc16 hf16 _=> ?_));(first|have y16_0:=szl (k:=b6) hb16 (by first|go_size|fail)|have y16_0:=Nat.one_pos)))
  have bb16:Below wc.heap.size wc w16:=bi
  replace k60:=ja4 bb16 k60
  replace k61:=ja4 bb16 k61
  obtain ⟨Y,hY⟩:∃x,w16=x:=⟨_,rfl⟩
  have bY:Below w.heap.size w Y:=by rw [←hY];exact bi
  rw [hY] at k60 k61 ⊢
  have _:=bm bY
  have z6'':=World.block_lt_of_cell? Y _ k60
  dsimp only at z6''
  clear hY bb16 hb13 hc13 hf13 hb14 hc14 hf14 hb15 hc15 hf15 y13_0 y14_0 y15_0 y16_0 bX13 W2 HV FS
  rcases HQ.out with ⟨g1,hS⟩|⟨g1,hM,hS⟩
  ·have qg:(g != 0)=true:=by rw [bne_iff_ne];exact g1
   have HS:=qh hS
   clear hS HQ g1
   go_wp2_with (go_at_call 11;(with_reducible refine mo0 (HS.out _) fun w17 hb17 hc17 hf17 _=> ?_))
   go_ret
   exact ⟨rfl,bi⟩
  ·subst g1
   have HS:=qh hS
   have HME:=qh hM
   clear hS hM HQ
   go_upto_region 19 with (fail)
   refine ja3 (fun w'=>Below Y.heap.size Y w') [] (by kernel_rfl) ?_
   refine tb 0 (sp N1 N2) [] rfl (by kernel_rfl) pk rfl (by intros;go_simp) bq0 ?_
   simp only [ppq]
   refine tb 1 (.int .i64 eN) [] rfl (by kernel_rfl) pk rfl (by intros;go_simp) bq0 ?_
   simp only [ppq]
   refine tb 2 (.slice A n c) [] rfl (by kernel_rfl) pk rfl (by intros;go_simp) bq0 ?_
   simp only [ppq]
   refine tb 3 (.slice B m d) [] rfl (by kernel_rfl) pk rfl (by intros;go_simp) bq0 ?_
   simp only [ppq]
   refine rd1 4 (by kernel_rfl) rfl (fun K hK=> ?_)
   go_simp
   go_wp2_with (go_at_call 18;(with_reducible refine mo0 (HME.out _ bi) fun w17 hb17 hc17 hf17 _=> ?_))
   have sS17:=qh (bst bq0 hb17)
   refine hK.out _ _ (fun _=>sS17.out) ?_
   clear hK K
   refine rd1 5 (by kernel_rfl) rfl (fun K hK=> ?_)
   go_simp
   go_wp2_with (go_at_call 11;(with_reducible refine mo0 (HS.out _) fun w18 hb18 hc18 hf18 _=> ?_))
   have sS18:=qh (bst sS17.out hb18)
   refine hK.out _ _ (fun _=>sS18.out) ?_
   clear hK K
   refine rd1 6 (by kernel_rfl) rfl (fun K hK=> ?_)
   go_simp
   refine hK.out _ _ (fun _=>bi) ?_
   clear hK K
   refine ja2 (by kernel_rfl) ?_ _
   go_wp2
   go_ret
   exact ⟨rfl,bi⟩
theorem jrV {x y:Int}:fnz [x,y]=if x=0 then y else x:=by
 unfold fnz
 by_cases h:x=0
 ·rw [if_pos h,if_pos h];unfold fnz
  by_cases h2:y=0
  ·rw [if_pos h2,h2];rfl
  ·rw [if_neg h2]
 ·rw [if_neg h,if_neg h]
theorem jeH {α:Type} {f:α→Int}:∀{l:List α},ja9 f l=0→∀p∈l,f p=0
 | [],_,p,h=>by cases h
 | q::r,h,p,hp=>by
   rw [ja9] at h
   by_cases e:f q=0
   ·rw [if_pos e] at h
    rcases List.mem_cons.1 hp with rfl|hp
    ·exact e
    ·exact jeH h p hp
   ·rw [if_neg e] at h;exact absurd h e
theorem job {a b:List UInt8} (h:jau (a,b)=0):IsNum a (numQ a)∧IsNum b (numQ b)∧numQ a≤numQ b:=by
 unfold jau at h
 by_cases h1:ja9 chk [a,b]=0
 ·obtain ⟨h2,h3⟩:=jh0 h1
  rw [if_neg (by simp [h1])] at h
  by_cases h4:numQ b < numQ a
  ·rw [if_pos h4] at h;cases h
  ·exact ⟨jbL h2,jbL h3,Rat.not_lt.1 h4⟩
 ·rw [if_pos h1] at h;exact absurd h h1
theorem jnH (hE:Env w) (hs:Pv w A n ls) (hw:Iv w B m ws) (hsh:jbD n ls=true) (hm:m≤270) (hl:∀p∈ls,p.1.length≤20∧p.2.length≤20) (hn0:0 < n) (hn1:n≤10) (hk:ja9 jau ls=0):
  Calls Tryz.prog 3 #[.slice A n c, .slice B m d] w fun e w'=>e= .returned (.bool true)∧Below w.heap.size w w':=by
 have hmem:∀j,j < n→ls.getD j ([],[])∈ls:=fun j hj=>by
  have hj':j < ls.length:=by rw [hs.len];exact hj
  rw [List.getD_eq_getElem?_getD,List.getElem?_eq_getElem hj'];exact List.getElem_mem hj'
 obtain ⟨los,hlo⟩:∃l,ls.map (fun p=>numQ p.1)=l:=⟨_,rfl⟩
 obtain ⟨his,hhi⟩:∃l,ls.map (fun p=>numQ p.2)=l:=⟨_,rfl⟩
 have ll:los.length=n:=by rw [←hlo];simp [hs.len]
 have lh:his.length=n:=by rw [←hhi];simp [hs.len]
 have g1:∀j,j < n→los.getD j 0=numQ (ls.getD j ([],[])).1:=fun j hj=>by
  have hj':j < ls.length:=by rw [hs.len];exact hj
  rw [←hlo,List.getD_eq_getElem?_getD,List.getD_eq_getElem?_getD,List.getElem?_map,List.getElem?_eq_getElem hj'];rfl
 have g2:∀j,j < n→his.getD j 0=numQ (ls.getD j ([],[])).2:=fun j hj=>by
  have hj':j < ls.length:=by rw [hs.len];exact hj
  rw [←hhi,List.getD_eq_getElem?_getD,List.getD_eq_getElem?_getD,List.getElem?_map,List.getElem?_eq_getElem hj'];rfl
 have nums:∀j,j < n→IsNum (ls.getD j ([],[])).1 (los.getD j 0)∧IsNum (ls.getD j ([],[])).2 (his.getD j 0)∧los.getD j 0≤his.getD j 0∧Dz 20 (los.getD j 0)∧Dz 20 (his.getD j 0):=fun j hj=>by
  have k1:=jeH hk _ (hmem j hj)
  have k2:=hl _ (hmem j hj)
  obtain ⟨i1,i2,i3⟩:=job (a:=(ls.getD j ([],[])).1) (b:=(ls.getD j ([],[])).2) k1
  rw [g1 j hj,g2 j hj]
  exact ⟨i1,i2,i3,i1.dzl k2.1 (by omega),i2.dzl k2.2 (by omega)⟩
 have sIn:SpIn w A n ls los his:=⟨hs,hn0,by omega,fun p hp=>by have:=hl p hp;omega,hk,ll,lh,fun j hj=>⟨(nums j hj).1,(nums j hj).2.1,jkf (nums j hj).2.2.2.1,jkf (nums j hj).2.2.2.2⟩⟩
 have rIn:RSp w A n ls los his 20:=⟨hs,ll,lh,fun j hj=>⟨(nums j hj).1.eq,(nums j hj).2.1.eq,(nums j hj).2.2.2.1,(nums j hj).2.2.2.2⟩⟩
 have dl:=joW ll (fun j hj=>(nums j hj).2.2.2.1)
 have dh:=joW lh (fun j hj=>(nums j hj).2.2.2.2)
 have dl':∀x∈los.drop 1,Dz 20 x:=fun x hx=>dl x (List.mem_of_mem_drop hx)
 have dh':∀x∈his.drop 1,Dz 20 x:=fun x hx=>dh x (List.mem_of_mem_drop hx)
 have d0:=(nums 0 hn0).2.2.2.1
 have e0:=(nums 0 hn0).2.2.2.2
 obtain ⟨r1,h1⟩:∃r,jcA (los.getD 0 0) (los.drop 1)=r:=⟨_,rfl⟩
 obtain ⟨r2,h2⟩:∃r,jcD (his.getD 0 0) (his.drop 1)=r:=⟨_,rfl⟩
 obtain ⟨r3,h3⟩:∃r,jcD (los.getD 0 0) (los.drop 1)=r:=⟨_,rfl⟩
 obtain ⟨r4,h4⟩:∃r,jcA (his.getD 0 0) (his.drop 1)=r:=⟨_,rfl⟩
 have D1:Dz 20 r1:=h1 ▸ jjl d0 dl'
 have D2:Dz 20 r2:=h2 ▸ jjf e0 dh'
 have D3:Dz 20 r3:=h3 ▸ jjf d0 dl'
 have D4:Dz 20 r4:=h4 ▸ jjl e0 dh'
 have G1:=jqg D1 D2 (by omega) (by omega)
 have G2:=jqg D3 D4 (by omega) (by omega)
 obtain ⟨g,hg⟩:∃g,decide (r3≤r4)=g:=⟨_,rfl⟩
 obtain ⟨R,hR⟩:∃R,jid (jfb los his) n n 0=R:=⟨_,rfl⟩
 have hval:∀p∈ls,p.1.length≤9000∧p.2.length≤9000:=fun p hp=>by have:=hl p hp;omega
 have hck:jaU n ls=0:=by unfold jaU;rw [if_neg (by omega),if_neg (by omega),hk]
 have hee:(if R.isSome then 0 else 7:Int)=clE R:=by cases R <;> rfl
 have hIK:R.isSome=false→clI R=0∧clK R=0:=by cases R with|none=>exact fun _=>⟨rfl,rfl⟩|some x=>exact fun h=>by cases h
 have HU:=qh (fun W (hb:Below w.heap.size w W)=>jq0 (c:=c) (hE.below hb) (sIn.below hb) h1 h2 (D1.strQ (by omega)) (D2.strQ (by omega)) G1.1 G1.2.1 G1.2.2)
 have HC:Hid (∀W,Below w.heap.size w W→Calls Tryz.prog 8 #[.slice A n c] W fun e w'=>e= .returned (.tuple #[.int .i64 (clI R), .int .i64 (clK R), .int .i64 (if R.isSome then 0 else 7)])∧Below W.heap.size W w'):=qh (fun W hb=>by rw [hee];exact jiX (hE.below hb) (sIn.below hb) hR)
 have HK:=qh (fun W (hb:Below w.heap.size w W)=>jfh (c:=c) hck (hs.below hb) hval)
 have HR:=qh (fun W (hb:Below w.heap.size w W)=>jkS (c:=c) (rIn.below hb) hn0 (by omega) (by omega) (by omega) h3 h4 hg)
 have HL:=qh (fun W (hb:Below w.heap.size w W)=>jqo (c:=c) (rIn.below hb) hn0 (by omega) (by omega) (by omega) h1 h2)
 have HX:=qh (fun W (hb:Below w.heap.size w W)=>jom (c:=c) (rIn.below hb) (by omega) (by omega) (by omega) (fun j hj=>(nums j hj).2.2.1) hR)
 have HV:=qh (fun W (hb:Below w.heap.size w W)=>jgN (c:=d) rfl (hw.below hb) (by omega))
 have S1:=qh (fun W=>jdB (w:=W) (D1.mono (show 20≤600 by omega)) (D2.mono (by omega)))
 obtain ⟨M1,M2,e2,HM,W1,S2⟩:∃M1 M2 e2,Hid (∀W,Below w.heap.size w W→Calls Tryz.prog 7 #[.slice A n c] W fun e w'=>e= .returned (.tuple #[sp M1 M2, .int .i64 e2])∧Below W.heap.size W w')∧
   Hid (∀W,Calls Tryz.prog 14 #[.bool (!g), .int .i64 15] W fun e w'=>e= .returned (.int .i64 e2)∧Below W.heap.size W w')∧
   Hid (∀W,Calls Tryz.prog 11 #[sp M1 M2, .int .i64 e2, .int .i64 e2,sp (tq r3) (tq r4)] W fun e w'=>e= .returned (.bool true)∧Below W.heap.size W w'):=by
  cases g with
  | true=>exact ⟨_,_,0,fun W hb=>jpQ (hE.below hb) (sIn.below hb) h3 h4 (jkf D3) (jkf D4) (of_decide_eq_true hg) (D3.strQ (by omega)) (D4.strQ (by omega)) G2.1 G2.2.1 G2.2.2,fun W=>jia,fun W=>jdB (D3.mono (by omega)) (D4.mono (by omega))⟩
  | false=>exact ⟨[],[],15,fun W hb=>jlD (hE.below hb) (sIn.below hb) h3 h4 (jkf D3) (jkf D4) (Rat.not_le.1 (of_decide_eq_false hg)),fun W=>jia,fun W=>jg6 (by omega)⟩
 have W2:=qh (fun W=>jia (w:=W) (c:=(m != n)) (g:=2))
 obtain ⟨gg,hgg⟩:∃x,fnz [if (m != n) then 2 else 0,(cw ws).2]=x:=⟨_,rfl⟩
 have hcw:jr2 n m ws=gg:=by
  rw [←hgg,jrV];unfold jr2
  by_cases e:m=n
  ·subst e;simp
  ·simp [e]
 by_cases z:gg=0
 ·subst z
  unfold jr2 at hcw
  have emn:m=n:=by
   by_cases e:m=n
   ·exact e
   ·rw [if_pos e] at hcw;cases hcw
  subst emn
  rw [if_neg (by simp)] at hcw
  obtain ⟨s,hs1⟩:∃s,(cw ws).1=s:=⟨_,rfl⟩
  have hcs:cw ws=(s,0):=Prod.ext hs1 hcw
  obtain ⟨c1,c2,c3⟩:=jha (by omega) hcs
  have hst:jdD ws m=s:=by rw [←hw.len,jj2,c2];omega
  have hwr:∀j,j < m→0≤ws.getD j 0∧ws.getD j 0≤999999999:=fun j hj=>by
   have hj':j < ws.length:=by rw [hw.len];exact hj
   refine c1 _ ?_
   rw [List.getD_eq_getElem?_getD,List.getElem?_eq_getElem hj'];exact List.getElem_mem hj'
  have hsl:=(jiy hwr m (Nat.le_refl _)).2
  rw [hst] at hsl
  have ds:Dz 11 (s:Rat):=⟨by rw [Rat.num_intCast];omega,by rw [Rat.den_intCast];omega⟩
  have s0:(s:Rat)≠0:=by have:=c3;simp;omega
  obtain ⟨zl,hzl⟩:∃z,jaZ los ws m / (s:Rat)=z:=⟨_,rfl⟩
  obtain ⟨zh,hzh⟩:∃z,jaZ his ws m / (s:Rat)=z:=⟨_,rfl⟩
  have kk:m*(20+10)+1+11≤400:=by omega
  have DL:Dz 400 zl:=hzl ▸ ((je7 (fun j hj=>(nums j hj).2.2.2.1) hwr m (Nat.le_refl _)).div ds s0).mono kk
  have DH:Dz 400 zh:=hzh ▸ ((je7 (fun j hj=>(nums j hj).2.2.2.2) hwr m (Nat.le_refl _)).div ds s0).mono kk
  have G3:=jqg DL DH (by omega) (by omega)
  exact jfg hE hs hsh hm HU HM HC (fun W hb=>jiU (hE.below hb) (sIn.below hb) (hw.below hb) hcs hwr c3 (by omega) hzl hzh (DL.strQ (by omega)) (DH.strQ (by omega)) G3.1 G3.2.1 G3.2.2) HK HR HL S1 W1 S2 HX hIK rfl W2 HV hgg
   (.inr ⟨rfl,fun W hb=>jq8 (rIn.below hb) (hw.below hb) hn0 (by omega) (by omega) (by omega) hwr (by rw [hst];omega) (by rw [hst];exact hzl) (by rw [hst];exact hzh),fun W=>jdB (DL.mono (by omega)) (DH.mono (by omega))⟩)
 ·exact jfg (U1:=[]) (U2:=[]) hE hs hsh hm HU HM HC (fun W hb=>joj (hE.below hb) (sIn.below hb) (hw.below hb) (by omega) hcw z) HK HR HL S1 W1 S2 HX hIK rfl W2 HV hgg (.inl ⟨z,fun W=>jg6 z⟩)
theorem jkq (hE:Env w) (hs:Pv w A n ls) (hw:Iv w B m ws):Calls Tryz.prog 3 #[.slice A n c, .slice B m d] w fun e w'=>e= .returned (.bool true)∧Below w.heap.size w w':=by
 cases hsh:jbD n ls
 ·exact jjI hE hs hsh
 ·by_cases hm:270 < m
  ·exact jhU hE hs hsh hm
  ·have h:=hsh
   unfold jbD at h
   simp only [Bool.and_eq_true,Bool.not_eq_true',Bool.or_eq_false_iff,Bool.and_eq_false_iff,decide_eq_false_iff_not] at h
   have hl:∀p∈ls,p.1.length≤20∧p.2.length≤20:=fun p hp=>by
    have:=List.all_eq_true.1 h.2 p hp
    simpa [jhG] using this
   by_cases hk:jaU n ls=0
   ·unfold jaU at hk
    by_cases e0:n=0
    ·rw [if_pos e0] at hk;cases hk
    ·rw [if_neg e0] at hk
     by_cases e1:256 < n
     ·rw [if_pos e1] at hk;cases hk
     ·rw [if_neg e1] at hk
      exact jnH hE hs hw hsh (by omega) hl (by omega) (by omega) hk
   ·exact jlS hE hs hsh (by omega) hl rfl hk
end
end Go.Proofs.YtmaldbpmnneaaaaGreatDoor
