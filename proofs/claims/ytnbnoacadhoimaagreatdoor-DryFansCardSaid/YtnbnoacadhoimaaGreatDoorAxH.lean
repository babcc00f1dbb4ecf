/- An evaluator for the model: part H. -/
import Derived.Test.YtnbnoacadhoimaaGreatDoorAxG
set_option linter.unusedSimpArgs false
set_option linter.unusedVariables false
set_option maxRecDepth 100000
set_option maxHeartbeats 8000000
namespace Go.Proofs.YtnbnoacadhoimaaGreatDoor.Ax
open Go Go.RowKit
set_option linter.unusedSimpArgs false
set_option linter.unusedVariables false
section
variable {P : Program} {hk : Hook} {self : Self} {all : Array Oper} {n : Nat}
/-- All that is known of a region whose operations were evaluated in their order. -/
structure Reg (P : Program) (all : Array Oper) (n : Nat) (tm0 : Tm) (h0 : Hp) (R : List Rec) (tm' : Tm) (h' : Hp) : Prop where
  T : TrcOk P all n all.toList tm0 h0 R tm' h'
  back : ∀ (j : Nat) (o : Oper), all[j]? = some o → ∀ e ∈ o.after.toList, Region.binds .any e = true → e.on < j
  flow : ∀ (i j : Nat) (o q : Oper) (d : Nat), all[i]? = some o → all[j]? = some q → o.dst = some d → i ≠ j → q.dst ≠ some d ∧
      ((d ∈ tmpsOf q ∨ ∃ g c, q.guard = some (g, c) ∧ dstOf all g = some d) → Nat.testBit ((ancs all.toList []).getD j 0) i = true ∨ Nat.testBit ((ancs all.toList []).getD i 0) j = true)
  pairs : ∀ (i j : Nat) (r s : Rec), i < j → R[i]? = some r → R[j]? = some s → Nat.testBit ((ancs all.toList []).getD j 0) i = true ∨ clash s.fx r.fx = false
/-- The operations that have come are closed under waiting. -/
def Closed (all : Array Oper) (b : Nat → Bool) : Prop := ∀ (j : Nat) (o : Oper), b j = true → all[j]? = some o → ∀ e ∈ o.after.toList, Region.binds .any e = true → b e.on = true
variable {tm0 tm' : Tm} {h0 h' : Hp} {R : List Rec} {b : Nat → Bool}
theorem Reg.anc (G : Reg P all n tm0 h0 R tm' h') (hc : Closed all b) : ∀ (m j : Nat) (o : Oper), j ≤ m → all[j]? = some o → (∀ e ∈ o.after.toList, Region.binds .any e = true → b e.on = true) → ∀ i, Nat.testBit ((ancs all.toList []).getD j 0) i = true → i < j ∧ b i = true
  | m, j, o, hm, ho, hr, i, hi => by
    obtain ⟨e, he, hb, h3⟩ := ancs_at all.toList [] j o (by simpa using ho) i (by simpa using hi)
    have hlt := G.back j o ho e he hb
    have hbe := hr e he hb
    rcases h3 with rfl | ⟨_, h3⟩
    · exact ⟨hlt, hbe⟩
    · cases m with
      | zero => omega
      | succ m =>
        have hj : j < all.size := by
          rcases Nat.lt_or_ge j all.size with h | h
          · exact h
          · rw [Array.getElem?_eq_none h] at ho; cases ho
        have hoe : all[e.on]? = some (all[e.on]'(by omega)) := Array.getElem?_eq_getElem (by omega)
        have := G.anc hc m e.on _ (by omega) hoe (fun e' he' hb' => hc e.on _ hbe hoe e' he' hb') i h3
        exact ⟨by omega, this.2⟩
/-- An operation that has not come does not interfere with one that may come. -/
theorem Reg.apart (G : Reg P all n tm0 h0 R tm' h') (hc : Closed all b) {i j : Nat} {r s : Rec} (hi : R[i]? = some r) (hj : R[j]? = some s) (hne : i ≠ j) (hbi : b i = false) (hri : ∀ e ∈ r.o.after.toList, Region.binds .any e = true → b e.on = true)
    (h : (j < i ∧ b j = false) ∨ (i < j ∧ b j = true)) : clash r.fx s.fx = false := by
  have hoi := (G.T.at_ i r hi).1
  have hoj := (G.T.at_ j s hj).1
  rcases h with ⟨hlt, hbj⟩ | ⟨hlt, hbj⟩
  · rcases G.pairs j i s r hlt hj hi with h1 | h1
    · have := (G.anc hc i i r.o (Nat.le_refl _) (by simpa using hoi) hri j h1).2
      rw [hbj] at this; cases this
    · exact h1
  · rcases G.pairs i j r s hlt hi hj with h1 | h1
    · have := (G.anc hc j j s.o (Nat.le_refl _) (by simpa using hoj) (fun e he hb => hc j s.o hbj (by simpa using hoj) e he hb) i h1).2
      rw [hbi] at this; cases this
    · unfold clash at h1 ⊢
      simp only [Bool.or_eq_false_iff] at h1 ⊢
      exact ⟨⟨⟨h1.1.1.2, h1.1.1.1⟩, h1.2⟩, h1.1.2⟩
theorem clash_spec {r s : Rec} (hr : RecOk P all r) (hs : RecOk P all s) (h : clash r.fx s.fx = false) (id : Nat) :
    (s.fx.wr.has id → ¬ r.fx.rd.has id) ∧ (r.fx.wr.has id → ¬ s.fx.rd.has id) ∧ (s.fx.wr.has id → ¬ (r.h.nx ≤ id ∧ id < r.h2.nx)) ∧ (r.fx.wr.has id → ¬ (s.h.nx ≤ id ∧ id < s.h2.nx)) := by
  unfold clash at h
  simp only [Bool.or_eq_false_iff] at h
  rw [hr.lo, hr.hi, hs.lo, hs.hi] at h
  exact ⟨fun h1 h2 => meets_spec h.1.1.2 id h1 h2, fun h1 h2 => meets_spec h.1.1.1 id h1 h2, fun h1 h2 => within_spec h.2 id h1 h2.1 h2.2, fun h1 h2 => within_spec h.1.2 id h1 h2.1 h2.2⟩
theorem ch_iff {r : Rec} (hr : RecOk P all r) (id : Nat) : r.ch id ↔ (r.fx.wr.has id ∨ (r.h.nx ≤ id ∧ id < r.h2.nx)) := by
  unfold Rec.ch
  rw [hr.lo, hr.hi]
/-- What an operation that may come looks at is there as it was evaluated. -/
theorem Reg.agree (G : Reg P all n tm0 h0 R tm' h') (hc : Closed all b) {i : Nat} {r : Rec} (hi : R[i]? = some r) (hbi : b i = false) (hri : ∀ e ∈ r.o.after.toList, Region.binds .any e = true → b e.on = true) {ι : Emb}
    (hfree : ∀ (j : Nat) (s : Rec), R[j]? = some s → b j = false → Free ι s.h.nx s.h2.nx) (id : Nat) (hrd : r.fx.rd.has id) (hne : ι id ≠ none) (q : Blk) (hq : r.h.h.get id = some q) : hat b 0 R h0.h.get id = some q := by
  have hR := (G.T.at_ i r hi).2.1
  rw [← hq, G.T.heap 0 i r hi id]
  refine hat_congr R 0 _ _ rfl (fun j s hj hb hch => ?_)
  simp only [Nat.zero_add] at hb
  have hS := (G.T.at_ j s hj).2.1
  rw [ch_iff hS] at hch
  by_cases hji : j < i
  · have hbj : b j = false := by simpa [hji] using hb
    have hcl := clash_spec hR hS (G.apart hc hi hj (by omega) hbi hri (.inl ⟨hji, hbj⟩)) id
    rcases hch with h1 | h1
    · exact hcl.1 h1 hrd
    · exact hne (hfree j s hj hbj id h1.1 h1.2)
  · have hbj : b j = true := by simpa [hji] using hb
    have hij : i < j := by
      rcases Nat.lt_or_ge i j with h | h
      · exact h
      · have : j = i := by omega
        subst this; rw [hbi] at hbj; cases hbj
    have hcl := clash_spec hR hS (G.apart hc hi hj (by omega) hbi hri (.inr ⟨hij, hbj⟩)) id
    rcases hch with h1 | h1
    · exact hcl.1 h1 hrd
    · have h2 := G.T.iv i j r s hij hi hj
      have h3 := hR.bd id q hq
      have h4 := hR.le
      omega
theorem Reg.update (G : Reg P all n tm0 h0 R tm' h') (hc : Closed all b) {i : Nat} {r : Rec} (hi : R[i]? = some r) (hbi : b i = false) (hri : ∀ e ∈ r.o.after.toList, Region.binds .any e = true → b e.on = true) (id : Nat) :
    hat (fun m => b m || decide (m = i)) 0 R h0.h.get id = updF r (hat b 0 R h0.h.get) id := by
  have hR := (G.T.at_ i r hi).2.1
  by_cases hch : r.ch id
  · rw [updF_in hch]
    refine hat_last R 0 _ i r hi (by simp) hch (fun j s hij hj hb hs => ?_)
    have hbj : b j = true := by
      have : ¬ j = i := by omega
      simpa [this] using hb
    have hS := (G.T.at_ j s hj).2.1
    have hcl := clash_spec hR hS (G.apart hc hi hj (by omega) hbi hri (.inr ⟨hij, hbj⟩)) id
    have hiv := G.T.iv i j r s hij hi hj
    have hle := hS.le
    have hle2 := hR.le
    rw [ch_iff hR] at hch
    rw [ch_iff hS] at hs
    rcases hch with h1 | h1 <;> rcases hs with h2 | h2
    · exact hcl.1 h2 (hR.wrrd id h1)
    · exact hcl.2.2.2 h1 h2
    · exact hcl.2.2.1 h2 h1
    · omega
  · rw [updF_out hch]
    refine hat_congr R 0 _ _ rfl (fun j s hj hb hs => ?_)
    simp only [Nat.zero_add] at hb
    by_cases hji : j = i
    · subst hji
      have := Option.some.inj (hi.symm.trans hj)
      subst this
      exact hch hs
    · simp [hji] at hb
/-- The variables that an operation looks at. -/
theorem Reg.uses (G : Reg P all n tm0 h0 R tm' h') (hc : Closed all b) {i : Nat} {r : Rec} (hi : R[i]? = some r) (hbi : b i = false) (hri : ∀ e ∈ r.o.after.toList, Region.binds .any e = true → b e.on = true) (t : Nat)
    (hu : t ∈ tmpsOf r.o ∨ ∃ g c, r.o.guard = some (g, c) ∧ dstOf all g = some t) : valL b 0 R (tmpV tm0) t = tmpV r.tm t := by
  have hoi : all[i]? = some r.o := by simpa using (G.T.at_ i r hi).1
  rw [G.T.tms 0 i r hi t]
  refine val_congr R 0 _ _ rfl (fun j s hj hb hd => ?_)
  simp only [Nat.zero_add] at hb
  have hoj : all[j]? = some s.o := by simpa using (G.T.at_ j s hj).1
  by_cases hji : j = i
  · subst hji; simp [hbi] at hb
  · rcases (G.flow j i s.o r.o t hoj hoi hd hji).2 hu with h1 | h1
    · obtain ⟨h2, h3⟩ := G.anc hc i i r.o (Nat.le_refl _) hoi hri j h1
      simp [h2, h3] at hb
    · have hnot : ¬ b j = true := fun hbj => by
        have := (G.anc hc j j s.o (Nat.le_refl _) hoj (fun e he hb => hc j s.o hbj hoj e he hb) i h1).2
        rw [hbi] at this; cases this
      have hlt : i < j := by
        obtain ⟨e, he, hbn, h3⟩ := ancs_at all.toList [] j s.o (by simpa using hoj) i (by simpa using h1)
        have hT : Closed all (fun _ => true) := fun _ _ _ _ _ _ _ => rfl
        exact (G.anc hT j j s.o (Nat.le_refl _) hoj (fun _ _ _ => rfl) i h1).1
      have : ¬ j < i := by omega
      simp [this] at hb
      exact hnot hb
theorem Reg.vals (G : Reg P all n tm0 h0 R tm' h') {i : Nat} {r : Rec} (hi : R[i]? = some r) (t : Nat) :
    valL (fun m => b m || decide (m = i)) 0 R (tmpV tm0) t = if r.o.dst = some t then r.v else valL b 0 R (tmpV tm0) t := by
  have hoi : all[i]? = some r.o := by simpa using (G.T.at_ i r hi).1
  by_cases hd : r.o.dst = some t
  · rw [if_pos hd]
    refine val_last R 0 _ i r hi (by simp) hd (fun j s hij hj _ hs => ?_)
    have hoj : all[j]? = some s.o := by simpa using (G.T.at_ j s hj).1
    exact (G.flow i j r.o s.o t hoi hoj hd (by omega)).1 hs
  · rw [if_neg hd]
    refine val_congr R 0 _ _ rfl (fun j s hj hb hs => ?_)
    simp only [Nat.zero_add] at hb
    by_cases hji : j = i
    · subst hji
      have := Option.some.inj (hi.symm.trans hj)
      subst this
      exact hd hs
    · simp [hji] at hb
end
end Go.Proofs.YtnbnoacadhoimaaGreatDoor.Ax
