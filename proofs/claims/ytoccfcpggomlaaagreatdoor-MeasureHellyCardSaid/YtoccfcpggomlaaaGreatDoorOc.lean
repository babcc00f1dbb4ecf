/- Rows of shares that a call appends to, and rows of sorted names. -/
import Derived.Test.YtoccfcpggomlaaaGreatDoorMq
import Derived.Maps.AppendAt
import Derived.OwnWalk
import Derived.Sort.KeysCollected
set_option linter.unusedSimpArgs false
set_option linter.unusedVariables false
set_option maxRecDepth 100000
set_option maxHeartbeats 8000000
namespace Go.Proofs.YtoccfcpggomlaaaGreatDoor
open Go Go.RowKit Go.Sort

theorem add_off (g j : Nat) : (⟨g, 0, none⟩ : Addr).add j = ⟨g, j, none⟩ := by unfold Addr.add; split <;> simp_all
/-- The cells of some shares. -/
def shs (ps : List (List UInt8 × List UInt8)) : List Value := ps.flatMap fun p => [bs p.1, bs p.2]
theorem shs_append (a b : List (List UInt8 × List UInt8)) : shs (a ++ b) = shs a ++ shs b := by simp [shs]
theorem shs_at : ∀ (a : List (List UInt8 × List UInt8)) (j k : Nat), j < a.length → k < 2 → (shs a)[j * 2 + k]? = (shs [a.getD j ([], [])])[k]?
 | [], j, k, h, _ => absurd h (by simp)
 | q :: r, 0, k, _, hk => by
   rw [show shs (q :: r) = shs [q] ++ shs r from shs_append [q] r, List.getElem?_append_left (by simp [shs]; omega)]; simp
 | q :: r, j + 1, k, h, hk => by
   rw [show shs (q :: r) = shs [q] ++ shs r from shs_append [q] r, List.getElem?_append_right (by simp [shs]; omega)]
   have e : (j + 1) * 2 + k - (shs [q]).length = j * 2 + k := by simp [shs]; omega
   rw [e, shs_at r j k (by simpa using h) hk]; simp
abbrev OwnS (w : World) (base : Nat) (v : Value) (n : Nat) (ps : List (List UInt8 × List UInt8)) : Prop := w.ownsRow base 60 2 v n (shs ps)
theorem OwnS.pv {w : World} {base n : Nat} {v : Value} {ps : List (List UInt8 × List UInt8)} (h : OwnS w base v n ps) (hl : ps.length = n) (h0 : 0 < n) : ∃ A c, v = .slice A n c ∧ Pv w A n ps := by
 rcases h.2 with ⟨rfl, h1⟩ | ⟨g, cap, cur, rfl, hb, hg, hnc, hcm, hcs, ht⟩
 ·omega
 ·refine ⟨some ⟨g, 0, none⟩, cap, rfl, hl, fun _ => ⟨g, 0, rfl, (Array.getElem?_eq_some_iff.1 hg).1, fun j hj => ?_⟩⟩
  have hc := World.ownsRow.cells h (g := g) rfl
  have c (k : Nat) (hk : k < 2) (u : Value) (hu : (shs [ps.getD j ([], [])])[k]? = some u) : w.cell? ⟨g, 0 + j * 2 + k, none⟩ = some u := by
   have := hc (j * 2 + k) u (by rw [shs_at ps j k (by omega) hk, hu])
   rw [add_off] at this
   rw [Nat.zero_add]; exact this
  exact ⟨c 0 (by omega) _ rfl, c 1 (by omega) _ rfl⟩
theorem grown_of {w w' : World} (h : Below w.heap.size w w') (row : Option Nat) : w.grownBy w' row := ⟨h.os, h.tape, h.output, h.size, fun k hk _ => h.block k hk⟩
theorem OwnS.below {w w' : World} {base n : Nat} {v : Value} {ps : List (List UInt8 × List UInt8)} (h : OwnS w base v n ps) (hb : Below w.heap.size w w') : OwnS w' base v n ps :=
 World.ownsRow.kept h (grown_of hb none) (by cases hv : v.ownBlock <;> simp)
theorem share_row : (Tryz.prog.info? 60).map (fun i => (i.zero, i.size, i.bytes)) = some (some (.agg #[.string ByteArray.empty, .string ByteArray.empty]), 2, 32) := by kernel_rfl
theorem app_share {w : World} {base n b c : Nat} {v : Value} {ps : List (List UInt8 × List UInt8)} {x : List UInt8 × List UInt8} (h : OwnS w base v n ps) (hn : n ≤ 100000) (hb : base ≤ w.heap.size)
  (h0 : w.cell? ⟨b, 0, none⟩ = some (bs x.1)) (h1 : w.cell? ⟨b, 1, none⟩ = some (bs x.2)) :
  ∃ v' w', (Builtin.append_ #[53, 53] 53 #[v, .slice (some ⟨b, 0, none⟩) 1 c]).run Tryz.prog w = .ok v' w' ∧ OwnS w' base v' (n + 1) (ps ++ [x]) ∧ w.grownBy w' v.ownBlock ∧ (v'.ownBlock = v.ownBlock ∨ v'.ownBlock = some w.heap.size) := by
 obtain ⟨i, hi, hz0, hz1, hz2⟩ := info_parts share_row
 obtain ⟨v', w', hr, k1, k2, _, k3⟩ := run_append_own_at (P := Tryz.prog) w base 53 53 60 i _ 2 32 Tryz.underlying53 hi hz0 hz1 hz2 rfl (by decide) v n (shs ps) h ⟨b, 0, none⟩ 1 c (shs [x]) (by simp [shs])
  (by
    intro j u hu
    rw [add_off]
    match j, hu with
    | 0, hu => simp [shs] at hu; subst hu; exact h0
    | 1, hu => simp [shs] at hu; subst hu; exact h1
    | j + 2, hu => simp [shs] at hu)
  (by intro u hu; simp [shs] at hu; rcases hu with rfl | rfl <;> rfl)
  (by simp only [maxLen]; omega) (by omega) hb
 exact ⟨v', w', hr, by rw [OwnS, shs_append]; exact k1, k2, k3⟩
theorem app_gen {P : Program} {o : Oper} {a : Act} {K : Act → World → Prop} {Q : Exit → Act → World → Prop} {w w' : World} {v z v' : Value} {t : TypeId} (s y : Operand)
  (ho : o.op = .call { callee := .builtin .append, args := #[s, y], argTypes := #[t, t] }) (hs : a.eval s = v) (hy : a.eval y = z)
  (hr : (Builtin.append_ #[t, t] o.type #[v, z]).run P w = .ok v' w') (hK : K (a.put o.dst v') w') : o.wp P a w K Q := by
 unfold Oper.wp execOp
 simp only [ho, resolve, invoke, builtin, Sem.run_bind, Sem.run_pure, Result.andThen_ok, List.map_toArray, List.map_cons, List.map_nil, hs, hy, hr]
 exact hK
/-- An append of one share, at the operation. -/
theorem wpList_append_share {ops : Array Oper} {rest : List Oper} {o : Oper} {a : Act} {Q : Exit → Act → World → Prop} {w : World} {base n b c : Nat} {v : Value} {ps : List (List UInt8 × List UInt8)} {x : List UInt8 × List UInt8} (hg : o.guard = none) (s y : Operand)
  (ho : o.op = .call { callee := .builtin .append, args := #[s, y], argTypes := #[53, 53] }) (ht : o.type = 53) (hs : a.eval s = v) (hy : a.eval y = .slice (some ⟨b, 0, none⟩) 1 c)
  (h : OwnS w base v n ps) (hn : n ≤ 100000) (hb : base ≤ w.heap.size) (h0 : w.cell? ⟨b, 0, none⟩ = some (bs x.1)) (h1 : w.cell? ⟨b, 1, none⟩ = some (bs x.2))
  (hK : ∀ v' w', OwnS w' base v' (n + 1) (ps ++ [x]) → w.grownBy w' v.ownBlock → (v'.ownBlock = v.ownBlock ∨ v'.ownBlock = some w.heap.size) → wpList Tryz.prog ops Q rest (a.put o.dst v') w') : wpList Tryz.prog ops Q (o :: rest) a w := by
 obtain ⟨v', w', hr, k1, k2, k3⟩ := app_share h hn hb h0 h1
 refine wpList_plain hg fun K' hK' => ?_
 exact app_gen s y ho hs hy (by rw [ht]; exact hr) (hK' _ _ (hK v' w' k1 k2 k3))
theorem OwnS.slice {w : World} {base n : Nat} {v : Value} {ps : List (List UInt8 × List UInt8)} (h : OwnS w base v n ps) : ∃ A c, v = .slice A n c := by
 rcases h.2 with ⟨rfl, h1⟩ | ⟨g, cap, cur, rfl, _⟩
 ·exact ⟨none, 0, by rw [h1]⟩
 ·exact ⟨_, _, rfl⟩
/-- .. with the new slice written out. -/
theorem wpList_append_share' {ops : Array Oper} {rest : List Oper} {o : Oper} {a : Act} {Q : Exit → Act → World → Prop} {w : World} {base n b c : Nat} {v : Value} {ps : List (List UInt8 × List UInt8)} {x : List UInt8 × List UInt8} (hg : o.guard = none) (s y : Operand)
  (ho : o.op = .call { callee := .builtin .append, args := #[s, y], argTypes := #[53, 53] }) (ht : o.type = 53) (hs : a.eval s = v) (hy : a.eval y = .slice (some ⟨b, 0, none⟩) 1 c)
  (h : OwnS w base v n ps) (hn : n ≤ 100000) (hb : base ≤ w.heap.size) (h0 : w.cell? ⟨b, 0, none⟩ = some (bs x.1)) (h1 : w.cell? ⟨b, 1, none⟩ = some (bs x.2))
  (hK : ∀ A' c' w', OwnS w' base (.slice A' (n + 1) c') (n + 1) (ps ++ [x]) → w.grownBy w' v.ownBlock → ((Value.slice A' (n + 1) c').ownBlock = v.ownBlock ∨ (Value.slice A' (n + 1) c').ownBlock = some w.heap.size) → wpList Tryz.prog ops Q rest (a.put o.dst (.slice A' (n + 1) c')) w') : wpList Tryz.prog ops Q (o :: rest) a w :=
 wpList_append_share hg s y ho ht hs hy h hn hb h0 h1 (fun v' w' k1 k2 k3 => by
  obtain ⟨A', c', rfl⟩ := k1.slice
  exact hK A' c' w' k1 k2 k3)
end Go.Proofs.YtoccfcpggomlaaaGreatDoor
