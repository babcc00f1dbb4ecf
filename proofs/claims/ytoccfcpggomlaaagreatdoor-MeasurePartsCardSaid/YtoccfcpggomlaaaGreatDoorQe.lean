/- What the laws on parts share. -/
import Derived.Test.YtoccfcpggomlaaaGreatDoorPd
import Derived.Test.YtoccfcpggomlaaaGreatDoorOcG
set_option linter.unusedSimpArgs false
set_option linter.unusedVariables false
set_option maxRecDepth 100000
set_option maxHeartbeats 8000000
namespace Go.Proofs.YtoccfcpggomlaaaGreatDoor
open Go Go.RowKit

theorem awake_at {w W : World} (hE : Env w) (hb : Below w.heap.size w W) : Calls Tryz.prog 5 #[] W fun e w' => e = .returned (.bool true) ∧ Below W.heap.size W w' := awake_true (hE.below hb)
/-- What the law reckons with. -/
structure AddsUp (t : Int) (ws : List Int) (n : Nat) (outs : List Int) : Prop where
 len : outs.length = n
 low : ∀ i, i < n → 0 ≤ outs.getD i 0
 high : ∀ i, i < n → outs.getD i 0 ≤ t
 near : ∀ i, i < n → t * ws.getD i 0 - App.sumTo (fun j => ws.getD j 0) n < outs.getD i 0 * App.sumTo (fun j => ws.getD j 0) n ∧ outs.getD i 0 * App.sumTo (fun j => ws.getD j 0) n < t * ws.getD i 0 + App.sumTo (fun j => ws.getD j 0) n
 zero : ∀ i, i < n → ws.getD i 0 = 0 → outs.getD i 0 = 0
 mono : ∀ i j, i < n → j < n → ws.getD j 0 < ws.getD i 0 → outs.getD j 0 ≤ outs.getD i 0
 sum : App.sumTo (fun j => outs.getD j 0) n = t
theorem addsUp {t s : Int} {ws : List Int} {m : Nat} (hw : ∀ j, 0 ≤ ws.getD j 0) (hs : App.sumTo (fun j => ws.getD j 0) (m + 1) = s) (h1 : 0 < s) (ht : 0 ≤ t) :
  AddsUp t ws (m + 1) ((List.range (m + 1)).map (App.out t s (fun j => ws.getD j 0) (apL t s ws m) (App.left t s (fun j => ws.getD j 0) (m + 1)).toNat)) := by
 have O := apL_order t s ws m
 have hk : (((App.left t s (fun j => ws.getD j 0) (m + 1)).toNat : Nat) : Int) = App.left t s (fun j => ws.getD j 0) (m + 1) := Int.toNat_of_nonneg (App.left_nonneg hs h1)
 obtain ⟨k, hkk⟩ : ∃ k, (App.left t s (fun j => ws.getD j 0) (m + 1)).toNat = k := ⟨_, rfl⟩
 rw [hkk] at hk ⊢
 have at_ : ∀ i, i < m + 1 → ((List.range (m + 1)).map (App.out t s (fun j => ws.getD j 0) (apL t s ws m) k)).getD i 0 = App.out t s (fun j => ws.getD j 0) (apL t s ws m) k i := fun i hi => by
  rw [List.getD_eq_getElem?_getD, List.getElem?_map, List.getElem?_range hi]; rfl
 have hsum := App.out_sum hs h1 O hk
 have hlow : ∀ i, i < m + 1 → 0 ≤ App.out t s (fun j => ws.getD j 0) (apL t s ws m) k i := fun i hi => App.out_nonneg h1 (fun j _ => hw j) ht _ _ i hi
 refine ⟨by simp, fun i hi => by rw [at_ i hi]; exact hlow i hi, fun i hi => ?_, fun i hi => ?_, fun i hi h0 => by rw [at_ i hi]; exact App.out_zero hs h1 O hk i h0,
  fun i j hi hj hij => by rw [at_ i hi, at_ j hj]; exact App.out_mono hs h1 ht O hk i j hi hj hij, by rw [App.sumTo_congr (fun i hi => at_ i hi)]; exact hsum⟩
 ·have := App.sumTo_ge_one hlow hi
  rw [hsum] at this
  rw [at_ i hi]; exact this
 ·rw [at_ i hi, hs]; exact App.out_near hs h1 O hk i
end Go.Proofs.YtoccfcpggomlaaaGreatDoor
