/- Rows of shares that a call appends to, and rows of sorted names. -/
import Derived.Test.YtoccfcpggomlaaaGreatDoorMq
import Derived.Test.YtoccfcpggomlaaaGreatDoorMpG
import Derived.Maps.AppendAt
import Derived.OwnWalk
import Derived.Sort.KeysCollected
set_option linter.unusedSimpArgs false
set_option linter.unusedVariables false
set_option maxRecDepth 100000
set_option maxHeartbeats 8000000
namespace Go.Proofs.YtoccfcpggomlaaaGreatDoor
open Go Go.RowKit Go.Sort

theorem add_off (g j : Nat) : (⟨g, 0, none⟩ : Addr).add j = ⟨g, j, none⟩ := by unfold Addr.add; split <;> simp_all
/-- The cells of some shares. -/
def shs (ps : List (List UInt8 × List UInt8)) : List Value := ps.flatMap fun p => [bs p.1, bs p.2]
theorem shs_append (a b : List (List UInt8 × List UInt8)) : shs (a ++ b) = shs a ++ shs b := by simp [shs]
theorem shs_at : ∀ (a : List (List UInt8 × List UInt8)) (j k : Nat), j < a.length → k < 2 → (shs a)[j * 2 + k]? = (shs [a.getD j ([], [])])[k]?
 | [], j, k, h, _ => absurd h (by simp)
 | q :: r, 0, k, _, hk => by
   rw [show shs (q :: r) = shs [q] ++ shs r from shs_append [q] r, List.getElem?_append_left (by simp [shs]; omega)]; simp
 | q :: r, j + 1, k, h, hk => by
   rw [show shs (q :: r) = shs [q] ++ shs r from shs_append [q] r, List.getElem?_append_right (by simp [shs]; omega)]
   have e : (j + 1) * 2 + k - (shs [q]).length = j * 2 + k := by simp [shs]; omega
   rw [e, shs_at r j k (by simpa using h) hk]; simp
abbrev OwnS (w : World) (base : Nat) (v : Value) (n : Nat) (ps : List (List UInt8 × List UInt8)) : Prop := w.ownsRow base 60 2 v n (shs ps)
theorem OwnS.pv {w : World} {base n : Nat} {v : Value} {ps : List (List UInt8 × List UInt8)} (h : OwnS w base v n ps) (hl : ps.length = n) (h0 : 0 < n) : ∃ A c, v = .slice A n c ∧ Pv w A n ps := by
 rcases h.2 with ⟨rfl, h1⟩ | ⟨g, cap, cur, rfl, hb, hg, hnc, hcm, hcs, ht⟩
 ·omega
 ·refine ⟨some ⟨g, 0, none⟩, cap, rfl, hl, fun _ => ⟨g, 0, rfl, (Array.getElem?_eq_some_iff.1 hg).1, fun j hj => ?_⟩⟩
  have hc := World.ownsRow.cells h (g := g) rfl
  have c (k : Nat) (hk : k < 2) (u : Value) (hu : (shs [ps.getD j ([], [])])[k]? = some u) : w.cell? ⟨g, 0 + j * 2 + k, none⟩ = some u := by
   have := hc (j * 2 + k) u (by rw [shs_at ps j k (by omega) hk, hu])
   rw [add_off] at this
   rw [Nat.zero_add]; exact this
  exact ⟨c 0 (by omega) _ rfl, c 1 (by omega) _ rfl⟩
theorem grown_of {w w' : World} (h : Below w.heap.size w w') (row : Option Nat) : w.grownBy w' row := ⟨h.os, h.tape, h.output, h.size, fun k hk _ => h.block k hk⟩
theorem OwnS.below {w w' : World} {base n : Nat} {v : Value} {ps : List (List UInt8 × List UInt8)} (h : OwnS w base v n ps) (hb : Below w.heap.size w w') : OwnS w' base v n ps :=
 World.ownsRow.kept h (grown_of hb none) (by cases hv : v.ownBlock <;> simp)
theorem share_row : (Tryz.prog.info? 60).map (fun i => (i.zero, i.size, i.bytes)) = some (some (.agg #[.string ByteArray.empty, .string ByteArray.empty]), 2, 32) := by kernel_rfl
theorem app_share {w : World} {base n b c : Nat} {v : Value} {ps : List (List UInt8 × List UInt8)} {x : List UInt8 × List UInt8} (h : OwnS w base v n ps) (hn : n ≤ 100000) (hb : base ≤ w.heap.size)
  (h0 : w.cell? ⟨b, 0, none⟩ = some (bs x.1)) (h1 : w.cell? ⟨b, 1, none⟩ = some (bs x.2)) :
  ∃ v' w', (Builtin.append_ #[53, 53] 53 #[v, .slice (some ⟨b, 0, none⟩) 1 c]).run Tryz.prog w = .ok v' w' ∧ OwnS w' base v' (n + 1) (ps ++ [x]) ∧ w.grownBy w' v.ownBlock ∧ (v'.ownBlock = v.ownBlock ∨ v'.ownBlock = some w.heap.size) := by
 obtain ⟨i, hi, hz0, hz1, hz2⟩ := info_parts share_row
 obtain ⟨v', w', hr, k1, k2, _, k3⟩ := run_append_own_at (P := Tryz.prog) w base 53 53 60 i _ 2 32 Tryz.underlying53 hi hz0 hz1 hz2 rfl (by decide) v n (shs ps) h ⟨b, 0, none⟩ 1 c (shs [x]) (by simp [shs])
  (by
    intro j u hu
    rw [add_off]
    match j, hu with
    | 0, hu => simp [shs] at hu; subst hu; exact h0
    | 1, hu => simp [shs] at hu; subst hu; exact h1
    | j + 2, hu => simp [shs] at hu)
  (by intro u hu; simp [shs] at hu; rcases hu with rfl | rfl <;> rfl)
  (by simp only [maxLen]; omega) (by omega) hb
 exact ⟨v', w', hr, by rw [OwnS, shs_append]; exact k1, k2, k3⟩
theorem app_gen {P : Program} {o : Oper} {a : Act} {K : Act → World → Prop} {Q : Exit → Act → World → Prop} {w w' : World} {v z v' : Value} {t : TypeId} (s y : Operand)
  (ho : o.op = .call { callee := .builtin .append, args := #[s, y], argTypes := #[t, t] }) (hs : a.eval s = v) (hy : a.eval y = z)
  (hr : (Builtin.append_ #[t, t] o.type #[v, z]).run P w = .ok v' w') (hK : K (a.put o.dst v') w') : o.wp P a w K Q := by
 unfold Oper.wp execOp
 simp only [ho, resolve, invoke, builtin, Sem.run_bind, Sem.run_pure, Result.andThen_ok, List.map_toArray, List.map_cons, List.map_nil, hs, hy, hr]
 exact hK
/-- An append of one share, at the operation. -/
theorem wpList_append_share {ops : Array Oper} {rest : List Oper} {o : Oper} {a : Act} {Q : Exit → Act → World → Prop} {w : World} {base n b c : Nat} {v : Value} {ps : List (List UInt8 × List UInt8)} {x : List UInt8 × List UInt8} (hg : o.guard = none) (s y : Operand)
  (ho : o.op = .call { callee := .builtin .append, args := #[s, y], argTypes := #[53, 53] }) (ht : o.type = 53) (hs : a.eval s = v) (hy : a.eval y = .slice (some ⟨b, 0, none⟩) 1 c)
  (h : OwnS w base v n ps) (hn : n ≤ 100000) (hb : base ≤ w.heap.size) (h0 : w.cell? ⟨b, 0, none⟩ = some (bs x.1)) (h1 : w.cell? ⟨b, 1, none⟩ = some (bs x.2))
  (hK : ∀ v' w', OwnS w' base v' (n + 1) (ps ++ [x]) → w.grownBy w' v.ownBlock → (v'.ownBlock = v.ownBlock ∨ v'.ownBlock = some w.heap.size) → wpList Tryz.prog ops Q rest (a.put o.dst v') w') : wpList Tryz.prog ops Q (o :: rest) a w := by
 obtain ⟨v', w', hr, k1, k2, k3⟩ := app_share h hn hb h0 h1
 refine wpList_plain hg fun K' hK' => ?_
 exact app_gen s y ho hs hy (by rw [ht]; exact hr) (hK' _ _ (hK v' w' k1 k2 k3))
theorem OwnS.slice {w : World} {base n : Nat} {v : Value} {ps : List (List UInt8 × List UInt8)} (h : OwnS w base v n ps) : ∃ A c, v = .slice A n c := by
 rcases h.2 with ⟨rfl, h1⟩ | ⟨g, cap, cur, rfl, _⟩
 ·exact ⟨none, 0, by rw [h1]⟩
 ·exact ⟨_, _, rfl⟩
/-- .. with the new slice written out. -/
theorem wpList_append_share' {ops : Array Oper} {rest : List Oper} {o : Oper} {a : Act} {Q : Exit → Act → World → Prop} {w : World} {base n b c : Nat} {v : Value} {ps : List (List UInt8 × List UInt8)} {x : List UInt8 × List UInt8} (hg : o.guard = none) (s y : Operand)
  (ho : o.op = .call { callee := .builtin .append, args := #[s, y], argTypes := #[53, 53] }) (ht : o.type = 53) (hs : a.eval s = v) (hy : a.eval y = .slice (some ⟨b, 0, none⟩) 1 c)
  (h : OwnS w base v n ps) (hn : n ≤ 100000) (hb : base ≤ w.heap.size) (h0 : w.cell? ⟨b, 0, none⟩ = some (bs x.1)) (h1 : w.cell? ⟨b, 1, none⟩ = some (bs x.2))
  (hK : ∀ A' c' w', OwnS w' base (.slice A' (n + 1) c') (n + 1) (ps ++ [x]) → w.grownBy w' v.ownBlock → ((Value.slice A' (n + 1) c').ownBlock = v.ownBlock ∨ (Value.slice A' (n + 1) c').ownBlock = some w.heap.size) → wpList Tryz.prog ops Q rest (a.put o.dst (.slice A' (n + 1) c')) w') : wpList Tryz.prog ops Q (o :: rest) a w :=
 wpList_append_share hg s y ho ht hs hy h hn hb h0 h1 (fun v' w' k1 k2 k3 => by
  obtain ⟨A', c', rfl⟩ := k1.slice
  exact hK A' c' w' k1 k2 k3)
/-- A row of names. -/
theorem names_view {w : World} {base n : Nat} {v : Value} {ks : List (List UInt8)} (h : w.ownsRow base 9 1 v n (ks.map encStr)) (hl : ks.length = n) (h0 : 0 < n) : ∃ A c, v = .slice A n c ∧ Sv w A n ks := by
 rcases h.2 with ⟨rfl, h1⟩ | ⟨g, cap, cur, rfl, hb, hg, hnc, hcm, hcs, ht⟩
 ·omega
 ·refine ⟨some ⟨g, 0, none⟩, cap, rfl, hl, fun _ => ⟨g, 0, rfl, (Array.getElem?_eq_some_iff.1 hg).1, fun j hj => ?_⟩⟩
  have hc := World.ownsRow.cells h (g := g) rfl
  have hjl : j < ks.length := by omega
  have := hc j (encStr (ks.getD j [])) (by rw [List.getElem?_map, List.getElem?_eq_getElem hjl, List.getD_eq_getElem?_getD, List.getElem?_eq_getElem hjl]; rfl)
  rw [add_off] at this
  rw [Nat.zero_add]; exact this
end Go.Proofs.YtoccfcpggomlaaaGreatDoor
namespace Go.Proofs.YtoccfcpggomlaaaGreatDoor
open Go Go.RowKit

abbrev OwnI (w : World) (base : Nat) (v : Value) (n : Nat) (zs : List Int) : Prop := w.ownsRow base 3 1 v n (zs.map (Value.int .i64))
theorem int_row : (Tryz.prog.info? 3).map (fun i => (i.zero, i.size, i.bytes)) = some (some (.int .i64 0), 1, 8) := by kernel_rfl
theorem OwnI.at_ {w : World} {base n : Nat} {v : Value} {zs : List Int} (h : OwnI w base v n zs) (hl : zs.length = n) (h0 : 0 < n) : ∃ g c, v = .slice (some ⟨g, 0, none⟩) n c ∧ g < w.heap.size ∧ ∀ j, j < n → w.cell? ⟨g, j, none⟩ = some (.int .i64 (zs.getD j 0)) := by
 rcases h.2 with ⟨rfl, h1⟩ | ⟨g, cap, cur, rfl, hb, hg, hnc, hcm, hcs, ht⟩
 ·omega
 ·refine ⟨g, cap, rfl, (Array.getElem?_eq_some_iff.1 hg).1, fun j hj => ?_⟩
  have hc := World.ownsRow.cells h (g := g) rfl
  have hjl : j < zs.length := by omega
  have := hc j (.int .i64 (zs.getD j 0)) (by rw [List.getElem?_map, List.getElem?_eq_getElem hjl, List.getD_eq_getElem?_getD, List.getElem?_eq_getElem hjl]; rfl)
  rw [add_off] at this
  exact this
theorem OwnI.iv {w : World} {base n : Nat} {v : Value} {zs : List Int} (h : OwnI w base v n zs) (hl : zs.length = n) (h0 : 0 < n) (hz : ∀ z ∈ zs, R64 z) : ∃ g c, v = .slice (some ⟨g, 0, none⟩) n c ∧ Iv w (some ⟨g, 0, none⟩) n zs := by
 obtain ⟨g, c, e, h1, h2⟩ := OwnI.at_ h hl h0
 exact ⟨g, c, e, hl, hz, fun _ => ⟨g, 0, rfl, h1, fun j hj => by rw [Nat.zero_add]; exact h2 j hj⟩⟩
theorem OwnI.below {w w' : World} {base n : Nat} {v : Value} {zs : List Int} (h : OwnI w base v n zs) (hb : Below w.heap.size w w') : OwnI w' base v n zs :=
 World.ownsRow.kept h (grown_of hb none) (by cases hv : v.ownBlock <;> simp)
theorem app_int {w : World} {base n b c : Nat} {v : Value} {zs : List Int} {x : Int} (h : OwnI w base v n zs) (hn : n ≤ 100000) (hb : base ≤ w.heap.size) (h0 : w.cell? ⟨b, 0, none⟩ = some (.int .i64 x)) :
  ∃ v' w', (Builtin.append_ #[22, 22] 22 #[v, .slice (some ⟨b, 0, none⟩) 1 c]).run Tryz.prog w = .ok v' w' ∧ OwnI w' base v' (n + 1) (zs ++ [x]) ∧ w.grownBy w' v.ownBlock := by
 obtain ⟨i, hi, hz0, hz1, hz2⟩ := info_parts int_row
 obtain ⟨v', w', hr, k1, k2, _, _⟩ := run_append_own_at (P := Tryz.prog) w base 22 22 3 i _ 1 8 Tryz.underlying22 hi hz0 hz1 hz2 rfl (by decide) v n (zs.map (Value.int .i64)) h ⟨b, 0, none⟩ 1 c [.int .i64 x] (by simp)
  (by
    intro j u hu
    rw [add_off]
    match j, hu with
    | 0, hu => simp at hu; subst hu; exact h0
    | j + 1, hu => simp at hu)
  (by intro u hu; simp at hu; subst hu; rfl)
  (by simp only [maxLen]; omega) (by omega) hb
 exact ⟨v', w', hr, by rw [OwnI, List.map_append]; exact k1, k2⟩
theorem wpList_append_int {ops : Array Oper} {rest : List Oper} {o : Oper} {a : Act} {Q : Exit → Act → World → Prop} {w : World} {base n b c : Nat} {v : Value} {zs : List Int} {x : Int} (hg : o.guard = none) (s y : Operand)
  (ho : o.op = .call { callee := .builtin .append, args := #[s, y], argTypes := #[22, 22] }) (ht : o.type = 22) (hs : a.eval s = v) (hy : a.eval y = .slice (some ⟨b, 0, none⟩) 1 c)
  (h : OwnI w base v n zs) (hl : zs.length = n) (hn : n ≤ 100000) (hb : base ≤ w.heap.size) (h0 : w.cell? ⟨b, 0, none⟩ = some (.int .i64 x))
  (hK : ∀ g c' w', OwnI w' base (.slice (some ⟨g, 0, none⟩) (n + 1) c') (n + 1) (zs ++ [x]) → (∀ j, j < n + 1 → w'.cell? ⟨g, j, none⟩ = some (.int .i64 ((zs ++ [x]).getD j 0))) → w.grownBy w' v.ownBlock → wpList Tryz.prog ops Q rest (a.put o.dst (.slice (some ⟨g, 0, none⟩) (n + 1) c')) w') : wpList Tryz.prog ops Q (o :: rest) a w := by
 obtain ⟨v', w', hr, k1, k2⟩ := app_int h hn hb h0
 obtain ⟨g, c', rfl, _, hc⟩ := OwnI.at_ k1 (by simp [hl]) (by omega)
 refine wpList_plain hg fun K' hK' => ?_
 exact app_gen s y ho hs hy (by rw [ht]; exact hr) (hK' _ _ (hK g c' w' k1 hc k2))
/-- A slice of 16-bit integers. -/
structure Hv (w : World) (A : Option Addr) (n : Nat) (us : List Nat) : Prop where
 len : us.length = n
 rng : ∀ u ∈ us, u < 65536
 at_ : 0 < n → ∃ b o, A = some ⟨b, o, none⟩ ∧ b < w.heap.size ∧ ∀ j, j < n → w.cell? ⟨b, o + j, none⟩ = some (.int .u16 ((us.getD j 0 : Nat) : Int))
theorem Hv.below {w w' : World} {A : Option Addr} {n : Nat} {us : List Nat} (h : Hv w A n us) (hb : Below w.heap.size w w') : Hv w' A n us :=
 ⟨h.len, h.rng, fun hn => by
   obtain ⟨b, o, e, h1, h2⟩ := h.at_ hn
   exact ⟨b, o, e, Nat.lt_of_lt_of_le h1 hb.size, fun j hj => by rw [hb.cell (p := ⟨b, o + j, none⟩) h1]; exact h2 j hj⟩⟩
/-- The weights of the law. -/
def wz (us : List Nat) : List Int := us.map fun u => ((u % 1001 : Nat) : Int)
theorem wz_len (us : List Nat) : (wz us).length = us.length := by simp [wz]
theorem wz_at (us : List Nat) (j : Nat) : (wz us).getD j 0 = ((us.getD j 0 % 1001 : Nat) : Int) := by
 unfold wz
 rw [List.getD_eq_getElem?_getD, List.getD_eq_getElem?_getD, List.getElem?_map]
 cases us[j]? <;> simp
theorem wz_rng (us : List Nat) (j : Nat) : 0 ≤ (wz us).getD j 0 ∧ (wz us).getD j 0 ≤ 1000 := by rw [wz_at]; omega
theorem wz_mem {us : List Nat} {z : Int} (h : z ∈ wz us) : 0 ≤ z ∧ z ≤ 1000 := by
 unfold wz at h
 obtain ⟨u, _, rfl⟩ := List.mem_map.1 h
 omega
theorem cwGo_ok : ∀ {ws : List Int} {s : Int}, (∀ x ∈ ws, 0 ≤ x ∧ x ≤ 999999999) → cwGo s ws = if s + ws.sum = 0 then (0, 6) else (s + ws.sum, 0)
 | [], s, _ => by unfold cwGo; simp
 | x :: r, s, h => by
   have hx := h x (List.mem_cons_self ..)
   unfold cwGo
   rw [if_neg (by omega), cwGo_ok (fun y hy => h y (List.mem_cons_of_mem _ hy)), List.sum_cons, Int.add_assoc]
theorem sumTo_take (ws : List Int) : ∀ n, n ≤ ws.length → App.sumTo (fun j => ws.getD j 0) n = (ws.take n).sum
 | 0, _ => by simp [App.sumTo]
 | n + 1, h => by
   rw [App.sumTo, sumTo_take ws n (by omega), List.take_add_one, List.sum_append, List.getD_eq_getElem?_getD, List.getElem?_eq_getElem (by omega)]
   simp
theorem cw_wz (us : List Nat) : cw (wz us) = if App.sumTo (fun j => (wz us).getD j 0) us.length = 0 then (0, 6) else (App.sumTo (fun j => (wz us).getD j 0) us.length, 0) := by
 unfold cw
 rw [cwGo_ok (fun x hx => by have := wz_mem hx; omega), sumTo_take _ _ (by rw [wz_len]; exact Nat.le_refl _), List.take_of_length_le (by rw [wz_len]; exact Nat.le_refl _), Int.zero_add]

def firstOf : List Int → Int
 | [] => 0
 | x :: r => if x = 0 then firstOf r else x
def wh (h : Bool) (e : Int) : Int := if h = true then e else 0
theorem wh_rng {h : Bool} {e : Int} (he : R64 e) : R64 (wh h e) := by cases h <;> simp [wh] <;> first | exact he | exact ⟨by decide, by decide⟩
section
variable {w : World} {A : Option Addr} {n c : Nat} {ws : List Int}
theorem when_num (h : Bool) (e : Int) : Calls Tryz.prog 7 #[.bool h, .int .i64 e] w fun r w' => r = .returned (.int .i64 (wh h e)) ∧ Below w.heap.size w w' := by
 go_enter Tryz.func7, Tryz.ntmps7
 cases h
 ·go_wp2
  go_ret
  exact ⟨rfl, (by with_reducible repeat first | exact bR | assumption | apply bA | apply bD | apply bN | refine bC ?_ (by go_size) | refine bS ?_ ‹_›)⟩
 ·go_wp2
  go_ret
  exact ⟨rfl, (by with_reducible repeat first | exact bR | assumption | apply bA | apply bD | apply bN | refine bC ?_ (by go_size) | refine bS ?_ ‹_›)⟩
theorem first_num (h : Iv w A n ws) (hn : n ≤ 100000) : Calls Tryz.prog 8 #[.slice A n c] w fun e w' => e = .returned (.int .i64 (firstOf ws)) ∧ Below w.heap.size w w' := by
 obtain ⟨R, hR⟩ : ∃ R, firstOf ws = R := ⟨_, rfl⟩
 rw [hR]
 have HR := Lib.hid hR
 have H := Lib.hid h
 have HN := Lib.hid hn
 clear hR h hn
 go_enter Tryz.func8, Tryz.ntmps8
 go_wp2
 go_loopw [3] (fun u wr => ∃ i : Nat, u = .int .i64 (i : Int) ∧ w = wr ∧ i ≤ n ∧ firstOf (ws.drop i) = R) (fun u _ => n - (intOf u).toNat)
 case atStart => exact ⟨0, rfl, rfl, Nat.zero_le _, HR.out⟩
 case round =>
  obtain ⟨i, rfl, rfl, hin, hc⟩ := hrel
  by_cases hi : i < n
  ·have q0 : decide ((i : Int) < (n : Int)) = true := by simp; exact hi
   obtain ⟨b, o, rfl, hb, hcell⟩ := H.out.at_ (by omega)
   have hx := hcell i hi
   rw [drop_cons (by rw [H.out.len]; exact hi), firstOf] at hc
   obtain ⟨x, hxx⟩ : ∃ x, ws.getD i 0 = x := ⟨_, rfl⟩
   rw [hxx] at hx hc
   have hnn := HN.out
   clear hcell
   by_cases hx0 : x = 0
   ·rw [if_pos hx0] at hc
    have q1 : (x != 0) = false := by rw [hx0]; rfl
    have HC := Lib.hid hc
    have HI := Lib.hid hi
    clear hc hx0
    go_wp2
    exact ⟨⟨i + 1, by simp, by first | rfl | trivial, HI.out, HC.out⟩, by have := HI.out; simp [intOf]; omega⟩
   ·rw [if_neg hx0] at hc
    have q1 : (x != 0) = true := by rw [bne_iff_ne]; exact hx0
    subst hc
    clear HR hx0
    go_wp2
    go_ret
    exact ⟨rfl, (by with_reducible repeat first | exact bR | assumption | apply bA | apply bD | apply bN | refine bC ?_ (by go_size) | refine bS ?_ ‹_›)⟩
  ·have q0 : decide (i < n) = false := by simp; omega
   rw [List.drop_eq_nil_of_le (by rw [H.out.len]; omega)] at hc
   have hR0 : R = 0 := hc.symm
   subst hR0
   clear hc HR hi
   go_wp2
   go_ret
   exact ⟨rfl, (by with_reducible repeat first | exact bR | assumption | apply bA | apply bD | apply bN | refine bC ?_ (by go_size) | refine bS ?_ ‹_›)⟩
theorem first_k {k : Int} (h : Iv w A n ws) (hn : n ≤ 100000) (hk : firstOf ws = k) : Calls Tryz.prog 8 #[.slice A n c] w fun e w' => e = .returned (.int .i64 k) ∧ Below w.heap.size w w' := by
 subst hk; exact first_num h hn
theorem refWeights_num (h : Iv w A n ws) (hn : n ≤ 100000) : Calls Tryz.prog 9 #[.slice A n c] w fun e w' => e = .returned (.int .i64 (cw ws).2) ∧ Below w.heap.size w w' := by
 obtain ⟨R, hR⟩ : ∃ R, cw ws = R := ⟨_, rfl⟩
 rw [hR]
 have HR := Lib.hid hR
 have H := Lib.hid h
 have HN := Lib.hid hn
 clear hR h hn
 go_enter Tryz.func9, Tryz.ntmps9
 go_wp2
 go_loopw [3, 4] (fun v u wr => ∃ (s : Int) (i : Nat), v = .int .i64 s ∧ u = .int .i64 (i : Int) ∧ w = wr ∧ i ≤ n ∧ 0 ≤ s ∧ s ≤ i * 999999999 ∧ cwGo s (ws.drop i) = R) (fun _ u _ => n - (intOf u).toNat)
 case atStart => exact ⟨0, 0, rfl, rfl, rfl, by omega, by omega, by omega, HR.out⟩
 case round =>
  obtain ⟨s, i, rfl, rfl, rfl, hin, hs0, hs1, hc⟩ := hrel
  by_cases hi : i < n
  ·have q0 : decide ((i : Int) < (n : Int)) = true := by simp; exact hi
   obtain ⟨b, o, rfl, hb, hcell⟩ := H.out.at_ (by omega)
   have hx := hcell i hi
   rw [drop_cons (by rw [H.out.len]; exact hi)] at hc
   obtain ⟨x, hxx⟩ : ∃ x, ws.getD i 0 = x := ⟨_, rfl⟩
   rw [hxx] at hx hc
   have hnn := HN.out
   clear hcell
   by_cases hx0 : x < 0
   ·have hR : R = (0, 3) := by rw [← hc]; unfold cwGo; rw [if_pos (Or.inl hx0)]
    have q1 : decide (x < 0) = true := by simp; exact hx0
    subst hR
    clear hc HR hx0
    go_wp2
    go_ret
    exact ⟨rfl, (by with_reducible repeat first | exact bR | assumption | apply bA | apply bD | apply bN | refine bC ?_ (by go_size) | refine bS ?_ ‹_›)⟩
   ·have q1 : decide (x < 0) = false := by simp; omega
    by_cases hx1 : 999999999 < x
    ·have hR : R = (0, 3) := by rw [← hc]; unfold cwGo; rw [if_pos (Or.inr hx1)]
     have q2 : decide (999999999 < x) = true := by simp; exact hx1
     subst hR
     clear hc HR hx0 hx1
     go_wp2
     go_ret
     exact ⟨rfl, (by with_reducible repeat first | exact bR | assumption | apply bA | apply bD | apply bN | refine bC ?_ (by go_size) | refine bS ?_ ‹_›)⟩
    ·have q2 : decide (999999999 < x) = false := by simp; omega
     have hc2 : cwGo (s + x) (ws.drop (i + 1)) = R := by
      rw [← hc]; conv => rhs; unfold cwGo
      rw [if_neg (by omega)]
     have HC := Lib.hid hc2
     have hw : wrap64 (s + x) = s + x := by unfold wrap64; omega
     have HS := Lib.hid (show 0 ≤ s + x ∧ s + x ≤ ((i + 1 : Nat) : Int) * 999999999 by omega)
     have HI := Lib.hid hi
     clear hc hc2 hx0 hx1 hs0 hs1
     go_wp2
     exact ⟨⟨s + x, i + 1, by simp [hw], by simp, by first | rfl | trivial, HI.out, HS.out.1, HS.out.2, HC.out⟩, by have := HI.out; simp [intOf]; omega⟩
  ·have q0 : decide (i < n) = false := by simp; omega
   rw [List.drop_eq_nil_of_le (by rw [H.out.len]; omega)] at hc
   by_cases h0 : s = 0
   ·subst h0
    have hR : R = (0, 6) := by rw [← hc]; rfl
    subst hR
    clear hc HR hi
    go_wp2
    go_ret
    exact ⟨rfl, (by with_reducible repeat first | exact bR | assumption | apply bA | apply bD | apply bN | refine bC ?_ (by go_size) | refine bS ?_ ‹_›)⟩
   ·have hR : R = (s, 0) := by rw [← hc]; unfold cwGo; rw [if_neg h0]
    have q1 : (s == 0) = false := by rw [beq_eq_false_iff_ne]; exact h0
    subst hR
    clear hc HR hi h0
    go_wp2
    go_ret
    exact ⟨rfl, (by with_reducible repeat first | exact bR | assumption | apply bA | apply bD | apply bN | refine bC ?_ (by go_size) | refine bS ?_ ‹_›)⟩
end

theorem ref_val {t s : Int} {ws : List Int} {L : List Nat} {j i : Nat} : t * ws.getD i 0 - App.out t s (fun j => ws.getD j 0) L j i * s = App.rem t s (fun j => ws.getD j 0) i - (if i ∈ L.take j then s else 0) := by
 have e := App.quo_mul (t := t) (s := s) (w := fun j => ws.getD j 0) i
 unfold App.out
 rw [Int.add_mul, e]
 split <;> omega
theorem ref_pick {t s : Int} {ws : List Int} {m j b : Nat} (h1 : 0 < s) (hj : j < m + 1) (hb : b < m + 1)
  (hm : ∀ i, i < m + 1 → t * ws.getD i 0 - App.out t s (fun j => ws.getD j 0) (apL t s ws m) j i * s ≤ t * ws.getD b 0 - App.out t s (fun j => ws.getD j 0) (apL t s ws m) j b * s)
  (hf : ∀ i, i < b → t * ws.getD i 0 - App.out t s (fun j => ws.getD j 0) (apL t s ws m) j i * s < t * ws.getD b 0 - App.out t s (fun j => ws.getD j 0) (apL t s ws m) j b * s) :
  b = (apL t s ws m)[j]'(by rw [apL_len]; exact hj) :=
 App.first_max (apL_order t s ws m) s (fun i _ => App.rem_nonneg h1 i) (fun i _ => App.rem_lt h1 i) j hj
  (fun i => t * ws.getD i 0 - App.out t s (fun j => ws.getD j 0) (apL t s ws m) j i * s) (fun _ _ => ref_val) b hb hm hf
theorem ref_wrap {t s x y : Int} (h1 : 0 < s) (hs : s ≤ 18999999981) (hx : 0 ≤ t * x ∧ t * x ≤ 999999998000000001) (hy : 0 ≤ y * s ∧ y * s ≤ t * x + s) : wrap64 (t * x) = t * x ∧ wrap64 (y * s) = y * s ∧ wrap64 (t * x - y * s) = t * x - y * s := by
 obtain ⟨p, hp⟩ : ∃ p, t * x = p := ⟨_, rfl⟩
 obtain ⟨q, hq⟩ : ∃ q, y * s = q := ⟨_, rfl⟩
 simp only [hp, hq] at hx hy ⊢
 refine ⟨?_, ?_, ?_⟩ <;> (unfold wrap64; omega)
theorem ref_near {t s : Int} {ws : List Int} {L : List Nat} {j i : Nat} (h1 : 0 < s) (hw : 0 ≤ ws.getD i 0) (ht : 0 ≤ t) : 0 ≤ App.out t s (fun j => ws.getD j 0) L j i * s ∧ App.out t s (fun j => ws.getD j 0) L j i * s ≤ t * ws.getD i 0 + s := by
 have e := ref_val (t := t) (s := s) (ws := ws) (L := L) (j := j) (i := i)
 have r0 := App.rem_nonneg (t := t) (w := fun j => ws.getD j 0) h1 i
 have r1 := App.rem_lt (t := t) (w := fun j => ws.getD j 0) h1 i
 have q0 : 0 ≤ App.quo t s (fun j => ws.getD j 0) i := Int.ediv_nonneg (Int.mul_nonneg ht hw) (by omega)
 refine ⟨Int.mul_nonneg ?_ (by omega), ?_⟩
 ·unfold App.out; split <;> omega
 ·split at e <;> omega

theorem cwGo_cases : ∀ {ws : List Int} {s z : Int}, cwGo s ws = (z, 0) → (∀ x ∈ ws, 0 ≤ x ∧ x ≤ 999999999) ∧ z = s + ws.sum ∧ z ≠ 0
 | [], s, z, h => by
   unfold cwGo at h
   by_cases h0 : s = 0
   ·rw [if_pos h0] at h; cases h
   ·rw [if_neg h0] at h; cases h
    exact ⟨fun x hx => by simp at hx, by simp, h0⟩
 | x :: r, s, z, h => by
   unfold cwGo at h
   by_cases hx : x < 0 ∨ 999999999 < x
   ·rw [if_pos hx] at h; cases h
   ·rw [if_neg hx] at h
    obtain ⟨a, b, c⟩ := cwGo_cases h
    refine ⟨fun y hy => ?_, by rw [b, List.sum_cons, Int.add_assoc], c⟩
    rcases List.mem_cons.1 hy with rfl | hy
    ·omega
    ·exact a y hy
theorem cwGo_zero : ∀ {ws : List Int} {s z k : Int}, cwGo s ws = (z, k) → k ≠ 0 → z = 0
 | [], s, z, k, h, hk => by
   unfold cwGo at h
   by_cases h0 : s = 0
   ·rw [if_pos h0] at h; cases h; rfl
   ·rw [if_neg h0] at h; cases h; exact absurd rfl hk
 | x :: r, s, z, k, h, hk => by
   unfold cwGo at h
   by_cases hx : x < 0 ∨ 999999999 < x
   ·rw [if_pos hx] at h; cases h; rfl
   ·rw [if_neg hx] at h; exact cwGo_zero h hk
theorem cw_good {ws : List Int} {s : Int} (h : cw ws = (s, 0)) : (∀ j, 0 ≤ ws.getD j 0 ∧ ws.getD j 0 ≤ 999999999) ∧ App.sumTo (fun j => ws.getD j 0) ws.length = s ∧ 0 < s := by
 unfold cw at h
 obtain ⟨a, b, c⟩ := cwGo_cases h
 have hj : ∀ j, 0 ≤ ws.getD j 0 ∧ ws.getD j 0 ≤ 999999999 := fun j => by
  rcases Nat.lt_or_ge j ws.length with hj | hj
  ·exact a _ (by rw [List.getD_eq_getElem?_getD, List.getElem?_eq_getElem hj]; exact List.getElem_mem hj)
  ·rw [List.getD_eq_getElem?_getD, List.getElem?_eq_none hj]; exact ⟨by decide, by decide⟩
 have hs : App.sumTo (fun j => ws.getD j 0) ws.length = s := by
  rw [sumTo_take _ _ (Nat.le_refl _), List.take_length, b, Int.zero_add]
 refine ⟨hj, hs, ?_⟩
 have := App.sumTo_nonneg (f := fun j => ws.getD j 0) (n := ws.length) (fun j _ => (hj j).1)
 omega
theorem sumTo_le {f : Nat → Int} (h : ∀ j, f j ≤ 999999999) : ∀ n : Nat, App.sumTo f n ≤ n * 999999999
 | 0 => by simp [App.sumTo]
 | n + 1 => by
   have := sumTo_le h n
   have := h n
   simp only [App.sumTo]
   omega
theorem val_low {t s x y z : Int} (hx : t * x - y * s = z) (h1 : wrap64 (t * x) = t * x) (h2 : wrap64 (y * s) = y * s) (h3 : wrap64 (t * x - y * s) = t * x - y * s) : wrap64 (wrap64 (t * x) - wrap64 (y * s)) = z := by
 rw [h1, h2, h3, hx]
/-- The row of parts in the rounds. -/
structure R1 (w wr : World) (zs : List Int) : Prop where
 bO : Blk wr w.heap.size 3 (irow zs)
 bel : Below w.heap.size w wr
section
variable {w : World} {A : Option Addr} {n c : Nat} {ws : List Int} {t s : Int}
theorem refParts_ok {m : Nat} (hn : n = m + 1) (hm : m < 19) (h : Iv w A n ws) (hw : ∀ j, 0 ≤ ws.getD j 0 ∧ ws.getD j 0 ≤ 999999999) (hsum : App.sumTo (fun j => ws.getD j 0) n = s) (hs : 0 < s) (ht0 : 0 ≤ t) (ht1 : t ≤ 999999999) :
  Calls Tryz.prog 11 #[.int .i64 t, .slice A n c] w fun e w' => e = .returned (.slice (some ⟨w.heap.size, 0, none⟩) n n) ∧ Blk w' w.heap.size 3 (irow ((List.range n).map (App.out t s (fun j => ws.getD j 0) (apL t s ws m) (App.left t s (fun j => ws.getD j 0) n).toNat))) ∧ Below w.heap.size w w' := by
 have hs2 : s ≤ 18999999981 := by
  have := sumTo_le (f := fun j => ws.getD j 0) (fun j => (hw j).2) n
  rw [hsum] at this; omega
 have hne : s ≠ 0 := by omega
 have H := Lib.hid h
 have HW := Lib.hid hw
 have HT := Lib.hid (And.intro ht0 ht1)
 have HS := Lib.hid (And.intro hs hs2)
 have hmk := fun W => make_int n (by omega) W
 have HN := Lib.hid (And.intro hn hm)
 have hq0 : ∀ j, 0 ≤ App.quo t s (fun j => ws.getD j 0) j := fun j => Int.ediv_nonneg (Int.mul_nonneg ht0 (hw j).1) (by omega)
 have hleft := App.left_nonneg (t := t) hsum hs
 have hleft2 := App.left_lt (t := t) hsum hs
 unfold App.left at hleft hleft2
 have hpre : ∀ i, i ≤ n → 0 ≤ App.sumTo (App.quo t s (fun j => ws.getD j 0)) i ∧ App.sumTo (App.quo t s (fun j => ws.getD j 0)) i ≤ t := fun i hi => by
  have h1 := sumTo_mono (f := App.quo t s (fun j => ws.getD j 0)) (fun j => hq0 j) hi
  have h2 := App.sumTo_nonneg (f := App.quo t s (fun j => ws.getD j 0)) (n := i) (fun j _ => hq0 j)
  exact ⟨h2, by omega⟩
 have hmul : ∀ j, 0 ≤ t * ws.getD j 0 ∧ t * ws.getD j 0 ≤ 999999998000000001 := fun j =>
  ⟨Int.mul_nonneg ht0 (hw j).1, by have := Int.mul_le_mul ht1 (hw j).2 (hw j).1 (show (0 : Int) ≤ 999999999 by omega); omega⟩
 obtain ⟨k, hk⟩ : ∃ k, (App.left t s (fun j => ws.getD j 0) n).toNat = k := ⟨_, rfl⟩
 have HK : Hid (App.left t s (fun j => ws.getD j 0) n = (k : Int) ∧ k < n) := Lib.hid (by unfold App.left at hk ⊢; omega)
 obtain ⟨L, hLL⟩ : ∃ L, apL t s ws m = L := ⟨_, rfl⟩
 rw [hk, hLL]
 have HPK : Hid (∀ j b, j < n → b < n → (∀ i, i < n → t * ws.getD i 0 - App.out t s (fun j => ws.getD j 0) L j i * s ≤ t * ws.getD b 0 - App.out t s (fun j => ws.getD j 0) L j b * s) → (∀ i, i < b → t * ws.getD i 0 - App.out t s (fun j => ws.getD j 0) L j i * s < t * ws.getD b 0 - App.out t s (fun j => ws.getD j 0) L j b * s) → L[j]? = some b) := Lib.hid (by
  intro j b hj hb h1 h2
  subst hn
  rw [← hLL] at h1 h2 ⊢
  rw [ref_pick hs hj hb h1 h2, List.getElem?_eq_getElem])
 have HL : Hid (L.length = n ∧ L.Nodup ∧ ∀ j (h : j < L.length), L[j] < n) := Lib.hid ⟨by rw [← hLL, apL_len, hn], by rw [← hLL]; exact (apL_order t s ws m).nodup, fun j h => by
  have h1 := ((apL_order t s ws m).mem L[j]).1 (by rw [hLL]; exact List.getElem_mem h)
  rw [hn]; exact h1⟩
 have HV : Hid (∀ j i, wrap64 (t * ws.getD i 0) = t * ws.getD i 0 ∧ wrap64 (App.out t s (fun j => ws.getD j 0) L j i * s) = App.out t s (fun j => ws.getD j 0) L j i * s ∧ wrap64 (t * ws.getD i 0 - App.out t s (fun j => ws.getD j 0) L j i * s) = t * ws.getD i 0 - App.out t s (fun j => ws.getD j 0) L j i * s) := Lib.hid (fun j i =>
  ref_wrap hs hs2 (hmul i) (ref_near hs (hw i).1 ht0))
 obtain ⟨q, hq⟩ : ∃ q, App.quo t s (fun j => ws.getD j 0) = q := ⟨_, rfl⟩
 rw [hq] at hpre hq0
 have HPRE := Lib.hid hpre
 have HQ := Lib.hid hq
 have HQ0 := Lib.hid hq0
 have HMU : Hid (∀ p, 0 ≤ App.quo t s (fun j => ws.getD j 0) p ∧ App.quo t s (fun j => ws.getD j 0) p ≤ 999999998000000001) := Lib.hid (fun p => ⟨by rw [hq]; exact hq0 p, Int.le_trans (Int.ediv_le_self _ (hmul p).1) (hmul p).2⟩)
 have HMUL := Lib.hid hmul
 have HSUM := Lib.hid hsum
 clear h hw hs hs2 ht0 ht1 hn hm hq hq0 hleft hleft2 hpre hmul hsum hk hLL
 go_enter Tryz.func11, Tryz.ntmps11
 go_wp2
 go_loopw [5, 6] (fun v u wr => ∃ (z : Int) (i : Nat), v = .int .i64 z ∧ u = .int .i64 (i : Int) ∧ w = wr ∧ i ≤ n ∧ App.sumTo (fun j => ws.getD j 0) i = z ∧ 0 ≤ z ∧ z ≤ i * 999999999) (fun _ u _ => n - (intOf u).toNat)
 case atStart => exact ⟨0, 0, rfl, rfl, rfl, Nat.zero_le _, rfl, by omega, by omega⟩
 case round =>
  obtain ⟨z, i, rfl, rfl, rfl, hin, hz, hz0, hz1⟩ := hrel
  have HZ := Lib.hid (And.intro hz (And.intro hz0 hz1))
  have HIN := Lib.hid hin
  clear hz hz0 hz1 hin
  by_cases hi : i < n
  ·have p0 : decide (i < n) = true := by simpa using hi
   obtain ⟨b, o, rfl, hbl, hat⟩ := H.out.at_ (by omega)
   have hx := hat i hi
   have hwx := HW.out i
   have hsx : App.sumTo (fun j => ws.getD j 0) (i + 1) = z + ws.getD i 0 := by rw [App.sumTo, HZ.out.1]
   obtain ⟨x, hxx⟩ : ∃ x, ws.getD i 0 = x := ⟨_, rfl⟩
   rw [hxx] at hx hwx hsx
   have HX := Lib.hid (And.intro hwx hsx)
   have HII := Lib.hid hi
   have m1 : wrap64 (z + x) = z + x := by have := HZ.out.2; have := HN.out; unfold wrap64; omega
   clear hat hxx hwx hsx
   go_wp2
   exact ⟨⟨z + x, i + 1, by simp [m1], by have := HN.out; have := HII.out; congr 1; unfold wrap64; omega, by first | rfl | trivial, HII.out, HX.out.2, by have := HZ.out; have := HX.out; omega, by have := HZ.out; have := HX.out; omega⟩, by have := HII.out; have := HN.out; rw [show wrap64 ((i : Int) + 1) = ((i + 1 : Nat) : Int) by unfold wrap64; omega]; simp [intOf]; omega⟩
  ·obtain rfl : n = i := by have := HIN.out; omega
   have p0 : decide (n < n) = false := by simp
   obtain rfl : s = z := by rw [← HZ.out.1, HSUM.out]
   clear hi HZ HIN
   go_wp2
   go_loopw [8, 9] (fun lf iv wr => ∃ i : Nat, i ≤ n ∧ lf = .int .i64 (t - App.sumTo q i) ∧ iv = .int .i64 (i : Int) ∧ R1 w wr (upto q n i)) (fun _ iv _ => n - (intOf iv).toNat)
   case atStart =>
    refine ⟨0, by omega, by simp [App.sumTo], rfl, ?_, (by with_reducible repeat first | exact bR | assumption | apply bA | apply bD | apply bN | refine bC ?_ (by go_size) | refine bS ?_ ‹_›)⟩
    rw [upto_zero]
    exact Blk.new w 3 (irow (List.replicate n 0))
   case round =>
    obtain ⟨i, hin, rfl, rfl, hI⟩ := hrel
    have bwr := hI.bel
    have HI := Lib.hid hI
    clear hI
    by_cases hi : i < n
    ·have q5 : decide (i < n) = true := by simpa using hi
     obtain ⟨bw, ow, rfl, hbw, hcell⟩ := (H.out.below bwr).at_ (by omega)
     have hx := hcell i hi
     obtain ⟨x, hxx⟩ : ∃ x, ws.getD i 0 = x := ⟨_, rfl⟩
     have hm1 := HMUL.out i
     have hqi : q i = t * x / s := by rw [← HQ.out, ← hxx]; rfl
     have hpi := HPRE.out i hin
     have hpi1 := HPRE.out (i + 1) hi
     have hq0 := HQ0.out i
     have hsi : App.sumTo q (i + 1) = App.sumTo q i + q i := rfl
     rw [hxx] at hx hm1
     have m1 : wrap64 (t * x) = t * x := by unfold wrap64; omega
     have m2 : (t * x).tdiv s = q i := by rw [hqi]; exact Int.tdiv_eq_ediv_of_nonneg hm1.1
     have ht := HT.out
     obtain ⟨z, hz⟩ : ∃ z, q i = z := ⟨_, rfl⟩
     rw [hz] at m2 hq0 hsi
     have m3 : wrap64 z = z := by unfold wrap64; omega
     have m4 : wrap64 (t - App.sumTo q i - z) = t - App.sumTo q i - z := by unfold wrap64; omega
     have m5 : (s == 0) = false := by rw [beq_eq_false_iff_ne]; exact hne
     have k0 := HI.out.bO.cell i
     rw [irow_at (by rw [upto_len]; exact hi), upto_at hi, if_neg (by omega)] at k0
     have g0 := HI.out.bO.frozen i
     have HZ := Lib.hid hz
     have HSI := Lib.hid hsi
     have HII := Lib.hid hi
     clear hm1 hqi hpi hpi1 hq0 hsi hcell hxx hz ht
     go_wp2
     have hz := HZ.out
     refine ⟨⟨i + 1, HII.out, by rw [m4, HSI.out, Int.sub_sub], by have := HN.out; have := HII.out; congr 1; unfold wrap64; omega, ?_, (by with_reducible repeat first | exact bR | assumption | apply bA | apply bD | apply bN | refine bC ?_ (by go_size) | refine bS ?_ ‹_›)⟩, by have := HN.out; have := HII.out; rw [show wrap64 ((i : Int) + 1) = ((i + 1 : Nat) : Int) by unfold wrap64; omega]; simp [intOf]; omega⟩
     have := HI.out.bO.set_ i (.int .i64 z)
     rw [irow_put, ← hz, upto_set] at this
     rw [← hz]
     exact this
    ·obtain rfl : n = i := by omega
     have q5 : decide (n < n) = false := by simp
     have hki : t - App.sumTo q n = (k : Int) := by rw [← HQ.out]; exact HK.out.1
     rw [hki]
     clear hki hin hi HPRE HMUL
     go_wp2
     go_loopw [8, 10, 11] (fun lf _ _ wr2 => ∃ j : Nat, j ≤ k ∧ lf = .int .i64 ((k : Int) - (j : Int)) ∧ R1 w wr2 (outs t s (fun j => ws.getD j 0) L n j)) (fun lf _ _ _ => (intOf lf).toNat)
     case atStart =>
      refine ⟨0, by omega, by simp, ?_, bwr⟩
      rw [outs_zero, HQ.out]; exact HI.out.bO
     case round =>
      obtain ⟨j, hjk, rfl, hJ⟩ := hrel
      have bJ := hJ.bel
      have HJ := Lib.hid hJ
      clear hJ bwr
      by_cases hj : j < k
      ·have q6 : decide (0 < (k : Int) - (j : Int)) = true := by rw [decide_eq_true_iff]; omega
       obtain ⟨v, hv⟩ : ∃ v : Nat → Int, (fun i => t * ws.getD i 0 - App.out t s (fun j => ws.getD j 0) L j i * s) = v := ⟨_, rfl⟩
       have hvi : ∀ i, t * ws.getD i 0 - App.out t s (fun j => ws.getD j 0) L j i * s = v i := fun i => by rw [← hv]
       have hpk := HPK.out j
       simp only [hvi] at hpk
       have HPJ := Lib.hid hpk
       have HVI := Lib.hid hvi
       have HJK := Lib.hid hj
       clear hv hvi hpk hjk hj
       obtain ⟨y, hy⟩ : ∃ y : Nat → Int, (fun i => App.out t s (fun j => ws.getD j 0) L j i) = y := ⟨_, rfl⟩
       have hyi : ∀ i, App.out t s (fun j => ws.getD j 0) L j i = y i := fun i => by rw [← hy]
       have hfact : ∀ i, i < n → wrap64 (t * ws.getD i 0) = t * ws.getD i 0 ∧ wrap64 (y i * s) = y i * s ∧ wrap64 (t * ws.getD i 0 - y i * s) = v i ∧ (irow (outs t s (fun j => ws.getD j 0) L n j))[i]? = some (.int .i64 (y i)) := fun i hi => by
        have h1 := HV.out j i
        rw [hyi] at h1
        have h2 := HVI.out i
        rw [hyi] at h2
        exact ⟨h1.1, h1.2.1, by rw [h1.2.2, h2], by rw [irow_at (by rw [outs_len]; exact hi), outs_at hi, hyi]⟩
       have HF := Lib.hid hfact
       have HYI := Lib.hid hyi
       clear hy hyi hfact
       go_wp2
       go_loopw [10, 11] (fun u10 u11 wy => ∃ b i : Nat, u10 = .int .i64 (b : Int) ∧ u11 = .int .i64 (i : Int) ∧ i ≤ n ∧ b < i ∧ (∀ e, e < i → v e ≤ v b) ∧ (∀ e, e < b → v e < v b) ∧ Below wr.heap.size wr wy) (fun _ u _ => n - (intOf u).toNat)
       case atStart => exact ⟨0, 1, rfl, rfl, by have := HN.out; omega, by omega, fun e he => (by have h0 : e = 0 := (by omega); subst h0; exact Int.le_refl _), fun e he => by omega, (by with_reducible repeat first | exact bR | assumption | apply bA | apply bD | apply bN | refine bC ?_ (by go_size) | refine bS ?_ ‹_›)⟩
       case round =>
        obtain ⟨b, i, rfl, rfl, hin, hbi, hmx, hfs, hby⟩ := hrel
        have HB := Lib.hid (And.intro hin (And.intro hbi (And.intro hmx hfs)))
        clear hmx hfs
        by_cases hi : i < n
        ·have p2 : decide (i < n) = true := by simpa using hi
         have hb : b < n := by omega
         have bJy : Below w.heap.size w wr := bJ.trans (hby.mono bJ.size)
         obtain ⟨bw, ow, rfl, hbw, hcell⟩ := (H.out.below bJy).at_ (by omega)
         have k1 := hcell i hi
         have k2 := hcell b hb
         obtain ⟨d1, d2, d3, d4⟩ := HF.out i hi
         obtain ⟨e1, e2, e3, e4⟩ := HF.out b hb
         have k3 := (HJ.out.bO.below hby).cell i
         rw [d4] at k3
         have k4 := (HJ.out.bO.below hby).cell b
         rw [e4] at k4
         obtain ⟨xi, hxi⟩ : ∃ x, ws.getD i 0 = x := ⟨_, rfl⟩
         obtain ⟨xb, hxb⟩ : ∃ x, ws.getD b 0 = x := ⟨_, rfl⟩
         obtain ⟨yi, hyi⟩ : ∃ x, y i = x := ⟨_, rfl⟩
         obtain ⟨yb, hyb⟩ : ∃ x, y b = x := ⟨_, rfl⟩
         rw [hxi] at k1 d1 d3
         rw [hxb] at k2 e1 e3
         rw [hyi] at k3 d2 d3
         rw [hyb] at k4 e2 e3
         have HII := Lib.hid hi
         clear hcell d4 e4 hxi hxb hyi hyb hin hbi
         by_cases h : v b < v i
         ·have c1 : decide (v b < v i) = true := by rw [decide_eq_true_iff]; exact h
          have HH := Lib.hid h
          clear h
          go_upto_region 18 with (fail)
          go_quiet (fail)
          go_wp2
          go_roundw
          case rel => exact ⟨i, i + 1, rfl, by have := HII.out; have := HN.out; congr 1; unfold wrap64; omega, HII.out, Nat.lt_succ_self _, fun e he => (by rcases Nat.lt_or_ge e i with h1 | h1; (have := HB.out.2.2.1 e h1; have := HH.out; omega); (have h0 : e = i := (by omega)); subst h0; exact Int.le_refl _), fun e he => (by have := HB.out.2.2.1 e he; have := HH.out; omega), (by with_reducible repeat first | exact bR | assumption | apply bA | apply bD | apply bN | refine bC ?_ (by go_size) | refine bS ?_ ‹_›)⟩
          case measure => have := HII.out; have := HN.out; rw [show wrap64 ((i : Int) + 1) = ((i + 1 : Nat) : Int) by unfold wrap64; omega]; simp [intOf]; omega
         ·have c1 : decide (v b < v i) = false := by rw [decide_eq_false_iff_not]; exact h
          have HH := Lib.hid h
          clear h
          go_upto_region 18 with (fail)
          go_quiet (fail)
          go_wp2
          go_roundw
          case rel => exact ⟨b, i + 1, rfl, by have := HII.out; have := HN.out; congr 1; unfold wrap64; omega, HII.out, Nat.lt_succ_of_lt HB.out.2.1, fun e he => (by rcases Nat.lt_or_ge e i with h1 | h1; (exact HB.out.2.2.1 e h1); (have h0 : e = i := (by omega)); subst h0; have := HH.out; omega), HB.out.2.2.2, (by with_reducible repeat first | exact bR | assumption | apply bA | apply bD | apply bN | refine bC ?_ (by go_size) | refine bS ?_ ‹_›)⟩
          case measure => have := HII.out; have := HN.out; rw [show wrap64 ((i : Int) + 1) = ((i + 1 : Nat) : Int) by unfold wrap64; omega]; simp [intOf]; omega
        ·obtain rfl : n = i := by omega
         have p2 : decide (n < n) = false := by simp
         have hLj := HPJ.out b (by have := HJK.out; have := HK.out; omega) hbi HB.out.2.2.1 HB.out.2.2.2
         have hjL : j < L.length := by have := HL.out; have := HJK.out; have := HK.out; omega
         rw [List.getElem?_eq_getElem hjL] at hLj
         have hLj' : L[j] = b := Option.some.inj hLj
         have hST := outs_step (t := t) (s := s) (f := fun j => ws.getD j 0) (n := n) HL.out.2.1 hjL
         rw [hLj', HYI.out b] at hST
         have hbO := HJ.out.bO.below hby
         have k3 := hbO.cell b
         rw [(HF.out b hbi).2.2.2] at k3
         have g3 := hbO.frozen b
         have hyb := HYI.out b
         have hyw : 0 ≤ y b ∧ y b ≤ 999999998000000002 := by
          have h1 := HMU.out b
          rw [← hyb]; unfold App.out; split <;> omega
         obtain ⟨yb, hyb⟩ : ∃ x, y b = x := ⟨_, rfl⟩
         rw [hyb] at k3 hST hyw
         have m1 : wrap64 (yb + 1) = yb + 1 := by unfold wrap64; omega
         have m2 : wrap64 ((k : Int) - (j : Int) - 1) = (k : Int) - ((j + 1 : Nat) : Int) := by have := HJK.out; have := HK.out; have := HN.out; unfold wrap64; omega
         have HBO := Lib.hid hbO
         have HST := Lib.hid hST
         have bJy : Below w.heap.size w wr := bJ.trans (hby.mono bJ.size)
         have HBI := Lib.hid hbi
         clear hLj hLj' hST hbO hyb hyw hjL hin hi
         go_wp2
         go_roundw
         case rel =>
          refine ⟨j + 1, HJK.out, by rw [m2], ?_, (by with_reducible repeat first | exact bR | assumption | apply bA | apply bD | apply bN | refine bC ?_ (by go_size) | refine bS ?_ ‹_›)⟩
          have := HBO.out.set_ b (.int .i64 (wrap64 (yb + 1)))
          rw [m1, irow_put, HST.out] at this
          exact this
         case measure => rw [m2]; have := HJK.out; simp [intOf]; omega
      ·obtain rfl : k = j := by omega
       have q6 : decide ((0 : Int) < (k : Int) - (k : Int)) = false := by simp
       clear hjk hj
       go_wp2
       go_ret
       exact ⟨rfl, HJ.out.bO, bJ⟩
end
end Go.Proofs.YtoccfcpggomlaaaGreatDoor
