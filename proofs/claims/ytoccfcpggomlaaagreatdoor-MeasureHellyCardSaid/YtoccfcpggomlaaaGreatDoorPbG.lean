/- Plain: the numbers of the document's examples. -/
import Derived.Test.YtoccfcpggomlaaaGreatDoorMl
import Derived.Test.YtoccfcpggomlaaaGreatDoorMxG
import Derived.Test.YtoccfcpggomlaaaGreatDoorMt
import Derived.Test.YtoccfcpggomlaaaGreatDoorMpG
import Derived.Test.YtoccfcpggomlaaaGreatDoorOg
import Derived.Test.YtoccfcpggomlaaaGreatDoorObG
import Derived.Test.YtoccfcpggomlaaaGreatDoorOc
set_option linter.unusedSimpArgs false
set_option linter.unusedVariables false
set_option maxRecDepth 100000
set_option maxHeartbeats 8000000
namespace Go.Proofs.YtoccfcpggomlaaaGreatDoor
open Go Go.RowKit

theorem num_is {x : Rat} {l : List UInt8} (h : tq x = l) (h1 : (Go.Lib.decDigits x.num.natAbs).length ≤ 600) (h2 : (Go.Lib.decDigits x.den).length ≤ 600) : IsNum l x := ⟨h.symm, h1, h2⟩
theorem num1 {x : Rat} {l : List UInt8} (h : tq x = l ∧ (Go.Lib.decDigits x.num.natAbs).length ≤ 600 ∧ (Go.Lib.decDigits x.den).length ≤ 600) : IsNum l x := num_is h.1 h.2.1 h.2.2
theorem ex58 : IsNum [53, 47, 56] (5/8) := num1 (by decide +kernel)
theorem exm58 : IsNum [45, 53, 47, 56] (-5/8) := num1 (by decide +kernel)
theorem ex14 : IsNum [49, 47, 52] (1/4) := num1 (by decide +kernel)
theorem ex12 : IsNum [49, 47, 50] (1/2) := num1 (by decide +kernel)
theorem ex0 : IsNum [48] 0 := num1 (by decide +kernel)
theorem ex1 : IsNum [49] 1 := num1 (by decide +kernel)
theorem ex2 : IsNum [50] 2 := num1 (by decide +kernel)
theorem exm1 : IsNum [45, 49] (-1) := num1 (by decide +kernel)
theorem ex3 : IsNum [51] 3 := num1 (by decide +kernel)
theorem ex4 : IsNum [52] 4 := num1 (by decide +kernel)
theorem ex5 : IsNum [53] 5 := num1 (by decide +kernel)
theorem ex10 : IsNum [49, 48] 10 := num1 (by decide +kernel)
theorem ex11 : IsNum [49, 49] 11 := num1 (by decide +kernel)
theorem ex13 : IsNum [49, 51] 13 := num1 (by decide +kernel)
theorem ex15 : IsNum [49, 53] 15 := num1 (by decide +kernel)
theorem ex20 : IsNum [50, 48] 20 := num1 (by decide +kernel)
theorem ex36 : IsNum [51, 54] 36 := num1 (by decide +kernel)
theorem str_of {x : Rat} (h1 : -9223372036854775808 < x.num) (h2 : x.num < 9223372036854775808) (h3 : x.den < 9223372036854775808) : StrQ x := StrQ.small h1 h2 h3
theorem str1 {x : Rat} (h : -9223372036854775808 < x.num ∧ x.num < 9223372036854775808 ∧ x.den < 9223372036854775808) : StrQ x := str_of h.1 h.2.1 h.2.2
theorem rnd1 : rnd [104, 97, 108, 102, 45, 101, 118, 101, 110] (5/8) (1/4) = 1/2 := by decide +kernel
theorem rnd2 : rnd [104, 97, 108, 102, 45, 117, 112] (-5/8) (1/4) = -1/2 := by decide +kernel
theorem t12 : giveT (1/2) = [49, 47, 50] ∧ giveE (1/2) = 0 := by decide +kernel
theorem tm12 : giveT (-1/2) = [45, 49, 47, 50] ∧ giveE (-1/2) = 0 := by decide +kernel
theorem s12 : StrQ (1/2) := str1 (by decide +kernel)
theorem sm12 : StrQ (-1/2) := str1 (by decide +kernel)
theorem mulLo : minF ((1 : Rat) * (-1)) [1 * 3, 2 * (-1), 2 * 3] = -2 := by decide +kernel
theorem mulHi : maxF ((1 : Rat) * (-1)) [1 * 3, 2 * (-1), 2 * 3] = 6 := by decide +kernel
theorem mulT : gspL (-2) 6 = [45, 50] ∧ gspH (-2) 6 = [54] ∧ gspE (-2) 6 = 0 := by decide +kernel
theorem sm2 : StrQ (-2) := str1 (by decide +kernel)
theorem s6 : StrQ 6 := str1 (by decide +kernel)
theorem clashR : outF (badQ [0, 1, 3] [2, 4, 5]) 3 3 0 = some (0, 2) := by decide +kernel
theorem meanL : wsumQ [10, 13] [2, 1] 2 / ((3 : Int) : Rat) = 11 := by decide +kernel
theorem meanH : wsumQ [11, 15] [2, 1] 2 / ((3 : Int) : Rat) = 37/3 := by decide +kernel
theorem meanT : gspL 11 (37/3) = [49, 49] ∧ gspH 11 (37/3) = [51, 55, 47, 51] ∧ gspE 11 (37/3) = 0 := by decide +kernel
theorem s11 : StrQ 11 := str1 (by decide +kernel)
theorem s373 : StrQ (37/3) := str1 (by decide +kernel)
theorem wetZ : ((1000 : Int) : Rat) * (100 - 20) / (100 - 36) = 1250 := by decide +kernel
theorem wetT : giveT 1250 = [49, 50, 53, 48] ∧ giveE 1250 = 0 := by decide +kernel
theorem s1250 : StrQ 1250 := str1 (by decide +kernel)
theorem apZ : (List.range 3).map (App.out 7 4 (fun j => [3, 0, 1].getD j 0) (apL 7 4 [3, 0, 1] 2) (App.left 7 4 (fun j => [3, 0, 1].getD j 0) 3).toNat) = [5, 0, 2] := by decide +kernel
theorem chkSp {a b : List UInt8} {x y : Rat} (ha : IsNum a x) (hb : IsNum b y) (h : x ≤ y) : chkSpan (a, b) = 0 := by
 have h1 := chk_zero.2 ⟨x, ha⟩
 have h2 := chk_zero.2 ⟨y, hb⟩
 have e : firstNZ chk [a, b] = 0 := by rw [firstNZ_cons_eq h1, firstNZ_cons_eq h2]; rfl
 unfold chkSpan
 dsimp only
 rw [if_neg (by rw [e]; simp), ha.numQ, hb.numQ, if_neg (Rat.not_lt.2 h)]
/-- The layers of the example. -/
def exL : List Lay := [⟨[119, 104, 101, 97, 116], 600, [([97], [49])]⟩, ⟨[119, 104, 101, 97, 116], 400, [([97], [49, 47, 50]), ([98], [49, 47, 50])]⟩]
theorem exC : contr exL = [([97], 600), ([97], 200), ([98], 200)] := by
 have h1 : (1 : Rat) * ((600 : Int) : Rat) = 600 := by decide +kernel
 have h2 : (1/2 : Rat) * ((400 : Int) : Rat) = 200 := by decide +kernel
 show contrL 600 [([97], [49])] ++ (contrL 400 [([97], [49, 47, 50]), ([98], [49, 47, 50])] ++ []) = _
 unfold contrL
 simp only [List.map_cons, List.map_nil, ex1.numQ, ex12.numQ, h1, h2]
 rfl
theorem exS1 : chkShares [([97], [49])] = 0 := by
 have h1 : chk [49] = 0 := chk_zero.2 ⟨_, ex1⟩
 have h2 : ((0 : Rat) + 1 = 1) := by decide +kernel
 have h3 : ¬ ((1 : Rat) ≤ 0) := by decide +kernel
 have h4 : isName [97] = true := by decide +kernel
 unfold chkShares
 simp [csGo, h1, h2, h3, h4, ex1.numQ, lotBad]
theorem exS2 : chkShares [([97], [49, 47, 50]), ([98], [49, 47, 50])] = 0 := by
 have h1 : chk [49, 47, 50] = 0 := chk_zero.2 ⟨_, ex12⟩
 have h2 : ((0 : Rat) + 1/2 + 1/2 = 1) := by decide +kernel
 have h3 : ¬ ((1/2 : Rat) ≤ 0) := by decide +kernel
 have h4 : isName [97] = true := by decide +kernel
 have h5 : isName [98] = true := by decide +kernel
 have h6 : strLe [98] [97] = false := by decide +kernel
 unfold chkShares
 rw [if_neg (by simp), if_neg (by simp), csGo, if_neg (by rw [h4]; simp), if_neg (by simp [lotBad]), if_neg (by simpa using h1), ex12.numQ, if_neg h3, csGo, if_neg (by rw [h5]; simp), if_neg (by simp [lotBad, h6]), if_neg (by simpa using h1), ex12.numQ, if_neg h3, csGo, if_pos h2]
theorem exK : firstNZ chkLayer exL = 0 := by
 have h4 : isName [119, 104, 101, 97, 116] = true := by decide +kernel
 have e1 : chkLayer ⟨[119, 104, 101, 97, 116], 600, [([97], [49])]⟩ = 0 := by
  unfold chkLayer; dsimp only; rw [if_neg (by rw [h4]; simp), if_neg (by omega), exS1]
 have e2 : chkLayer ⟨[119, 104, 101, 97, 116], 400, [([97], [49, 47, 50]), ([98], [49, 47, 50])]⟩ = 0 := by
  unfold chkLayer; dsimp only; rw [if_neg (by rw [h4]; simp), if_neg (by omega), exS2]
 unfold exL
 rw [firstNZ_cons_eq e1, firstNZ_cons_eq e2]; rfl
theorem exM : cmGo (exL.getD 0 lay0).grain 0 exL = (1000, 0) := by decide +kernel
theorem exIn : ∀ x ∈ exL, LayIn x := by
 intro x hx
 simp only [exL, List.mem_cons, List.not_mem_nil, or_false] at hx
 rcases hx with rfl | rfl
 ·exact ⟨⟨by decide, by decide⟩, by decide, by decide⟩
 ·exact ⟨⟨by decide, by decide⟩, by decide, by decide⟩
theorem exSz : ∀ x ∈ exL, ∀ p ∈ x.shares, Sz 1 (numQ p.2) := by
 have h1 : Sz 1 (1 : Rat) := ⟨by rw [Nat.pow_one, B64_eq]; decide +kernel, by rw [Nat.pow_one, B64_eq]; decide +kernel⟩
 have h2 : Sz 1 (1/2 : Rat) := ⟨by rw [Nat.pow_one, B64_eq]; decide +kernel, by rw [Nat.pow_one, B64_eq]; decide +kernel⟩
 intro x hx
 simp only [exL, List.mem_cons, List.not_mem_nil, or_false] at hx
 rcases hx with rfl | rfl
 ·intro p hp
  simp only [List.mem_cons, List.not_mem_nil, or_false] at hp
  subst hp; dsimp only; rw [ex1.numQ]; exact h1
 ·intro p hp
  simp only [List.mem_cons, List.not_mem_nil, or_false] at hp
  rcases hp with rfl | rfl
  ·dsimp only; rw [ex12.numQ]; exact h2
  ·dsimp only; rw [ex12.numQ]; exact h2
def exKs : List (List UInt8) := [[97], [98]]
def exOut : List (List UInt8 × List UInt8) := [([97], [52, 47, 53]), ([98], [49, 47, 53])]
theorem exO : Ordered exKs := ⟨by decide, by decide⟩
theorem exHas : ∀ x, x ∈ exKs ↔ hasK (contr exL) x = true := by
 intro x
 rw [exC]
 simp [exKs, hasK]
 constructor
 ·rintro (rfl | rfl) <;> simp
 ·rintro (rfl | rfl) <;> simp
theorem exT1 : tot (contr exL) [97] / ((1000 : Int) : Rat) = 4/5 := by rw [exC]; decide +kernel
theorem exT2 : tot (contr exL) [98] / ((1000 : Int) : Rat) = 1/5 := by rw [exC]; decide +kernel
theorem ex45 : giveT (4/5) = [52, 47, 53] ∧ giveE (4/5) = 0 ∧ giveT (1/5) = [49, 47, 53] ∧ giveE (1/5) = 0 := by decide +kernel
theorem exOuts : ∀ j, j < exKs.length → (exOut.getD j ([], [])).1 = exKs.getD j [] ∧ StrQ (tot (contr exL) (exKs.getD j []) / ((1000 : Int) : Rat)) ∧ giveT (tot (contr exL) (exKs.getD j []) / ((1000 : Int) : Rat)) = (exOut.getD j ([], [])).2 ∧ giveE (tot (contr exL) (exKs.getD j []) / ((1000 : Int) : Rat)) = 0 := by
 intro j hj
 have h : j = 0 ∨ j = 1 := by simp [exKs] at hj; omega
 rcases h with rfl | rfl
 ·refine ⟨rfl, ?_⟩
  show StrQ (tot (contr exL) [97] / ((1000 : Int) : Rat)) ∧ giveT (tot (contr exL) [97] / ((1000 : Int) : Rat)) = [52, 47, 53] ∧ giveE (tot (contr exL) [97] / ((1000 : Int) : Rat)) = 0
  rw [exT1]
  exact ⟨str1 (by decide +kernel), ex45.1, ex45.2.1⟩
 ·refine ⟨rfl, ?_⟩
  show StrQ (tot (contr exL) [98] / ((1000 : Int) : Rat)) ∧ giveT (tot (contr exL) [98] / ((1000 : Int) : Rat)) = [49, 47, 53] ∧ giveE (tot (contr exL) [98] / ((1000 : Int) : Rat)) = 0
  rw [exT2]
  exact ⟨str1 (by decide +kernel), ex45.2.2.1, ex45.2.2.2⟩

theorem pv_cells {W : World} {p : Nat} {t : TypeId} (ps : List (List UInt8 × List UInt8)) (hp : W.heap.size = p) : Pv (W.alloc (.cells (shs ps).toArray t)) (some ⟨p, 0, none⟩) ps.length ps := by
 subst hp
 refine ⟨rfl, fun _ => ⟨_, 0, rfl, by simp, fun j hj => ?_⟩⟩
 have h (k : Nat) (hk : k < 2) : (W.alloc (.cells (shs ps).toArray t)).cell? ⟨W.heap.size, 0 + j * 2 + k, none⟩ = (shs [ps.getD j ([], [])])[k]? := by
  rw [← shs_at ps j k hj hk]; simp
 exact ⟨h 0 (by omega), h 1 (by omega)⟩
theorem iv_cells {W : World} {p : Nat} {t : TypeId} (zs : List Int) (hz : ∀ z ∈ zs, R64 z) (hp : W.heap.size = p) : Iv (W.alloc (.cells (irow zs) t)) (some ⟨p, 0, none⟩) zs.length zs := by
 subst hp
 refine ⟨rfl, hz, fun _ => ⟨_, 0, rfl, by simp, fun j hj => ?_⟩⟩
 have := irow_at hj
 simpa using this
theorem blk_iv {W : World} {b : Nat} {t : TypeId} {zs : List Int} (hz : ∀ z ∈ zs, R64 z) (h : Blk W b t (irow zs)) : Iv W (some ⟨b, 0, none⟩) zs.length zs := by
 refine ⟨rfl, hz, fun _ => ⟨_, 0, rfl, h.lt, fun j hj => ?_⟩⟩
 have := irow_at hj
 have e : W.heap[b]? = some (.cells (irow zs) t (0, 0)) := h
 simp [World.cell?, e, this]
theorem lv_two {W : World} {p : Nat} {A B : Option Addr} {c d : Nat} (hp : W.heap.size = p) (h1 : Pv W A 1 [([97], [49])]) (h2 : Pv W B 2 [([97], [49, 47, 50]), ([98], [49, 47, 50])]) :
  Lv (W.alloc (.cells #[bs [119, 104, 101, 97, 116], .int .i64 600, .slice A 1 c, bs [119, 104, 101, 97, 116], .int .i64 400, .slice B 2 d] 55)) (some ⟨p, 0, none⟩) 2 exL := by
 subst hp
 refine ⟨rfl, fun _ => ⟨_, 0, rfl, by simp, fun j hj => ?_⟩⟩
 have hb := below_alloc (Below.refl W.heap.size W) (.cells #[bs [119, 104, 101, 97, 116], .int .i64 600, .slice A 1 c, bs [119, 104, 101, 97, 116], .int .i64 400, .slice B 2 d] 55)
 have h : j = 0 ∨ j = 1 := by omega
 rcases h with rfl | rfl
 ·exact ⟨⟨A, c, by simp [exL], by simp [exL], by simp [exL], h1.below hb⟩⟩
 ·exact ⟨⟨B, d, by simp [exL], by simp [exL], by simp [exL], h2.below hb⟩⟩
theorem clash_in {W : World} {p : Nat} (hp : W.heap.size = p) : SpIn (W.alloc (.cells #[bs [48], bs [50], bs [49], bs [52], bs [51], bs [53]] 37)) (some ⟨p, 0, none⟩) 3 [([48], [50]), ([49], [52]), ([51], [53])] [0, 1, 3] [2, 4, 5] :=
 ⟨pv_cells [([48], [50]), ([49], [52]), ([51], [53])] hp, by omega, by omega, by decide, by rw [firstNZ_cons_eq (chkSp ex0 ex2 (by decide +kernel)), firstNZ_cons_eq (chkSp ex1 ex4 (by decide +kernel)), firstNZ_cons_eq (chkSp ex3 ex5 (by decide +kernel))]; rfl, rfl, rfl, fun j hj => by
   have h : j = 0 ∨ j = 1 ∨ j = 2 := by omega
   rcases h with rfl | rfl | rfl
   ·exact ⟨ex0, ex2, ⟨by decide +kernel, by decide +kernel, by decide +kernel⟩, ⟨by decide +kernel, by decide +kernel, by decide +kernel⟩⟩
   ·exact ⟨ex1, ex4, ⟨by decide +kernel, by decide +kernel, by decide +kernel⟩, ⟨by decide +kernel, by decide +kernel, by decide +kernel⟩⟩
   ·exact ⟨ex3, ex5, ⟨by decide +kernel, by decide +kernel, by decide +kernel⟩, ⟨by decide +kernel, by decide +kernel, by decide +kernel⟩⟩⟩
theorem mean_in {W : World} {p : Nat} (hp : W.heap.size = p) : SpIn (W.alloc (.cells #[bs [49, 48], bs [49, 49], bs [49, 51], bs [49, 53]] 37)) (some ⟨p, 0, none⟩) 2 [([49, 48], [49, 49]), ([49, 51], [49, 53])] [10, 13] [11, 15] :=
 ⟨pv_cells [([49, 48], [49, 49]), ([49, 51], [49, 53])] hp, by omega, by omega, by decide, by rw [firstNZ_cons_eq (chkSp ex10 ex11 (by decide +kernel)), firstNZ_cons_eq (chkSp ex13 ex15 (by decide +kernel))]; rfl, rfl, rfl, fun j hj => by
   have h : j = 0 ∨ j = 1 := by omega
   rcases h with rfl | rfl
   ·exact ⟨ex10, ex11, ⟨by decide +kernel, by decide +kernel, by decide +kernel⟩, ⟨by decide +kernel, by decide +kernel, by decide +kernel⟩⟩
   ·exact ⟨ex13, ex15, ⟨by decide +kernel, by decide +kernel, by decide +kernel⟩, ⟨by decide +kernel, by decide +kernel, by decide +kernel⟩⟩⟩
section
variable {w : World}
theorem round1 (hE : Env w) : Calls Tryz.prog 20 #[bs [53, 47, 56], .agg #[bs [104, 97, 108, 102, 45, 101, 118, 101, 110], bs [49, 47, 52]]] w fun e w' => e = .returned (.tuple #[bs [49, 47, 50], .int .i64 0]) ∧ Below w.heap.size w w' :=
 round_ok hE (by decide) (by decide) ex58 (by decide +kernel) ex14 (by decide +kernel) rnd1 s12 t12.1 t12.2
theorem round2 (hE : Env w) : Calls Tryz.prog 20 #[bs [45, 53, 47, 56], .agg #[bs [104, 97, 108, 102, 45, 117, 112], bs [49, 47, 52]]] w fun e w' => e = .returned (.tuple #[bs [45, 49, 47, 50], .int .i64 0]) ∧ Below w.heap.size w w' :=
 round_ok hE (by decide) (by decide) exm58 (by decide +kernel) ex14 (by decide +kernel) rnd2 sm12 tm12.1 tm12.2
theorem mul1 (hE : Env w) : Calls Tryz.prog 21 #[.agg #[bs [49], bs [50]], .agg #[bs [45, 49], bs [51]]] w fun e w' => e = .returned (.tuple #[.agg #[bs [45, 50], bs [54]], .int .i64 0]) ∧ Below w.heap.size w w' :=
 mul_ok hE (by decide) (by decide) (by decide) (by decide) ex1 ex2 exm1 ex3 (by rw [firstNZ_cons_eq (chkSp ex1 ex2 (by decide +kernel)), firstNZ_cons_eq (chkSp exm1 ex3 (by decide +kernel))]; rfl) mulLo mulHi sm2 s6 mulT.1 mulT.2.1 mulT.2.2
theorem wet1 (hE : Env w) : Calls Tryz.prog 25 #[.int .i64 1000, bs [50, 48], bs [51, 54]] w fun e w' => e = .returned (.tuple #[bs [49, 50, 53, 48], .int .i64 0]) ∧ Below w.heap.size w w' :=
 wet_ok hE ⟨ex20, by decide +kernel, by decide +kernel⟩ ⟨ex36, by decide +kernel, by decide +kernel⟩ (by omega) (by omega) wetZ s1250 wetT.1 wetT.2 (by decide) (by decide)
theorem ap1 {A : Option Addr} {c : Nat} (h : Iv w A 3 [3, 0, 1]) : Calls Tryz.prog 6 #[.int .i64 7, .slice A 3 c] w fun e w' => ∃ b, e = .returned (.tuple #[.slice (some ⟨b, 0, none⟩) 3 3, .int .i64 0]) ∧ Iv w' (some ⟨b, 0, none⟩) 3 [5, 0, 2] ∧ Below w.heap.size w w' := by
 refine (apportion_ok (m := 2) (s := 4) rfl (by omega) h (fun j => ?_) (by decide +kernel) (by decide +kernel) (by omega) (by omega) (by omega)).mono ?_
 ·rcases j with _ | _ | _ | j <;> simp
 ·rintro e w' ⟨b, rfl, h1, _, h2⟩
  rw [apZ] at h1
  exact ⟨b, rfl, blk_iv (by intro z hz; simp at hz; rcases hz with rfl | rfl | rfl <;> exact ⟨by decide, by decide⟩) h1, h2⟩
theorem mix1 {A : Option Addr} {c : Nat} (hE : Env w) (h : Lv w A 2 exL) : Calls Tryz.prog 23 #[.slice A 2 c] w fun e w' => ∃ B d, e = .returned (.tuple #[.agg #[bs [119, 104, 101, 97, 116], .int .i64 1000, .slice B 2 d], .int .i64 0]) ∧ Pv w' B 2 exOut ∧ Below w.heap.size w w' :=
 mix_ok (ks := exKs) hE ⟨h, by omega, by omega, exIn, (by omega : 1 ≤ 18), exSz, exK, exM⟩ exO exHas (by decide) (by decide) rfl rfl exOuts
end
end Go.Proofs.YtoccfcpggomlaaaGreatDoor
