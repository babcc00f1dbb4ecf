/- An evaluator for the model: part E. -/
import Derived.Test.YtnbnoacadhoimaaGreatDoorAxD
set_option linter.unusedSimpArgs false
set_option linter.unusedVariables false
set_option maxRecDepth 100000
set_option maxHeartbeats 8000000
namespace Go.Proofs.YtnbnoacadhoimaaGreatDoor.Ax
open Go Go.RowKit
set_option linter.unusedSimpArgs false
set_option linter.unusedVariables false
section
variable {P : Program} {hk : Hook} {self : Self} {w : World} {ι : Emb} {o : Oper} {tm tm' : Tm} {h h' : Hp} {v : AV} {n : Nat} {a : Act}
def Foot.has : Foot → Nat → Prop
  | .ids l, id => id ∈ l
  | .all, _ => True
theorem meets_spec {f g : Foot} (e : f.meets g = false) (id : Nat) (h1 : f.has id) (h2 : g.has id) : False := by
  cases f with
  | ids l => cases g with
    | ids m =>
      simp only [Foot.meets, List.any_eq_false] at e
      have := e id h1
      simp only [Bool.not_eq_true, List.any_eq_false] at this
      have h3 := this id h2
      simp at h3
    | all =>
      cases l with
      | nil => cases h1
      | cons x l => simp [Foot.meets] at e
  | all => cases g with
    | ids m =>
      cases m with
      | nil => cases h2
      | cons x l => simp [Foot.meets] at e
    | all => simp [Foot.meets] at e
theorem within_spec {f : Foot} {lo hi : Nat} (e : f.within lo hi = false) (id : Nat) (h1 : f.has id) (h2 : lo ≤ id) (h3 : id < hi) : False := by
  cases f with
  | ids l =>
    simp only [Foot.within, List.any_eq_false] at e
    have := e id h1
    simp [ble_eq, blt_eq, h2, h3] at this
  | all =>
    simp only [Foot.within, blt_eq, decide_eq_false_iff_not] at e
    omega
/-- One operation of a region, as it was evaluated. -/
structure Rec where
  o : Oper
  wd : Bool
  tm : Tm
  h : Hp
  v : AV
  h2 : Hp
  fx : Fx
def Rec.ch (r : Rec) (id : Nat) : Prop := r.fx.wr.has id ∨ (r.fx.lo ≤ id ∧ id < r.fx.hi)
open Classical in
noncomputable def updF (r : Rec) (H : Hf) : Hf := fun id => if r.ch id then r.h2.h.get id else H id
theorem updF_in {r : Rec} {H : Hf} {id : Nat} (hc : r.ch id) : updF r H id = r.h2.h.get id := by unfold updF; rw [if_pos hc]
theorem updF_out {r : Rec} {H : Hf} {id : Nat} (hc : ¬ r.ch id) : updF r H id = H id := by unfold updF; rw [if_neg hc]
noncomputable def hat (b : Nat → Bool) : Nat → List Rec → Hf → Hf
  | _, [], H => H
  | k, r :: R, H => hat b (k + 1) R (if b k then updF r H else H)
theorem hat_congr {b b' : Nat → Bool} {id : Nat} : ∀ (R : List Rec) (k : Nat) (H H' : Hf), H id = H' id → (∀ (j : Nat) (r : Rec), R[j]? = some r → b (k + j) ≠ b' (k + j) → ¬ r.ch id) → hat b k R H id = hat b' k R H' id
  | [], k, H, H', hH, _ => hH
  | r :: R, k, H, H', hH, hd => by
    refine hat_congr R (k + 1) _ _ ?_ (fun j r' hr hb => hd (j + 1) r' (by simpa using hr) (by rwa [show k + (j + 1) = k + 1 + j by omega]))
    have h0 := hd 0 r rfl
    simp only [Nat.add_zero] at h0
    by_cases hc : r.ch id
    · have hbb : b k = b' k := Classical.byContradiction fun hne => h0 hne hc
      rw [hbb]
      cases b' k
      · exact hH
      · show updF r H id = updF r H' id
        rw [updF_in hc, updF_in hc]
    · have e1 : ∀ (c : Bool) (G : Hf), (if c then updF r G else G) id = G id := fun c G => by
        cases c
        · rfl
        · exact updF_out hc
      rw [e1, e1]; exact hH
theorem hat_last {b : Nat → Bool} {id : Nat} : ∀ (R : List Rec) (k : Nat) (H : Hf) (j : Nat) (r : Rec), R[j]? = some r → b (k + j) = true → r.ch id → (∀ (j' : Nat) (r' : Rec), j < j' → R[j']? = some r' → b (k + j') = true → ¬ r'.ch id) → hat b k R H id = r.h2.h.get id
  | [], k, H, j, r, hr, _, _, _ => by simp at hr
  | r0 :: R, k, H, 0, r, hr, hb, hc, hl => by
    have : r0 = r := by simpa using hr
    subst this
    have e1 := hat_congr (b := b) (b' := fun _ => false) (id := id) R (k + 1) (if b k then updF r0 H else H) (if b k then updF r0 H else H) rfl (fun j r' hr' hb' hc' => by
      refine hl (j + 1) r' (by omega) (by simpa using hr') ?_ hc'
      rw [show k + (j + 1) = k + 1 + j by omega]
      simpa using hb')
    have e2 : ∀ (R : List Rec) (k : Nat) (G : Hf), hat (fun _ => false) k R G = G := by
      intro R
      induction R with
      | nil => intro k G; rfl
      | cons q R ih => intro k G; exact ih (k + 1) G
    have e3 : hat b k (r0 :: R) H = hat b (k + 1) R (if b k then updF r0 H else H) := rfl
    rw [e3, e1, e2, show b k = true from hb]
    exact updF_in hc
  | r0 :: R, k, H, j + 1, r, hr, hb, hc, hl => by
    refine hat_last R (k + 1) _ j r (by simpa using hr) (by rwa [show k + 1 + j = k + (j + 1) by omega]) hc (fun j' r' hj hr' hb' => hl (j' + 1) r' (by omega) (by simpa using hr') (by rwa [show k + (j' + 1) = k + 1 + j' by omega]))
/-- The variables likewise. -/
def valL (b : Nat → Bool) : Nat → List Rec → (Nat → AV) → Nat → AV
  | _, [], V => V
  | k, r :: R, V => valL b (k + 1) R (if b k then (fun t => if r.o.dst = some t then r.v else V t) else V)
theorem val_congr {b b' : Nat → Bool} {t : Nat} : ∀ (R : List Rec) (k : Nat) (V V' : Nat → AV), V t = V' t → (∀ (j : Nat) (r : Rec), R[j]? = some r → b (k + j) ≠ b' (k + j) → r.o.dst ≠ some t) → valL b k R V t = valL b' k R V' t
  | [], k, V, V', hV, _ => hV
  | r :: R, k, V, V', hV, hd => by
    refine val_congr R (k + 1) _ _ ?_ (fun j r' hr hb => hd (j + 1) r' (by simpa using hr) (by rwa [show k + (j + 1) = k + 1 + j by omega]))
    have h0 := hd 0 r rfl
    simp only [Nat.add_zero] at h0
    by_cases hc : r.o.dst = some t
    · have hbb : b k = b' k := Classical.byContradiction fun hne => h0 hne hc
      rw [hbb]
      cases b' k
      · exact hV
      · show (if r.o.dst = some t then r.v else V t) = (if r.o.dst = some t then r.v else V' t)
        rw [if_pos hc, if_pos hc]
    · have e1 : ∀ (c : Bool) (G : Nat → AV), (if c then (fun t => if r.o.dst = some t then r.v else G t) else G) t = G t := fun c G => by
        cases c
        · rfl
        · exact if_neg hc
      rw [e1, e1]; exact hV
theorem val_last {b : Nat → Bool} {t : Nat} : ∀ (R : List Rec) (k : Nat) (V : Nat → AV) (j : Nat) (r : Rec), R[j]? = some r → b (k + j) = true → r.o.dst = some t → (∀ (j' : Nat) (r' : Rec), j < j' → R[j']? = some r' → b (k + j') = true → r'.o.dst ≠ some t) → valL b k R V t = r.v
  | [], k, V, j, r, hr, _, _, _ => by simp at hr
  | r0 :: R, k, V, 0, r, hr, hb, hc, hl => by
    have : r0 = r := by simpa using hr
    subst this
    have e1 := val_congr (b := b) (b' := fun _ => false) (t := t) R (k + 1) (if b k then (fun t => if r0.o.dst = some t then r0.v else V t) else V) (if b k then (fun t => if r0.o.dst = some t then r0.v else V t) else V) rfl (fun j r' hr' hb' hc' => by
      refine hl (j + 1) r' (by omega) (by simpa using hr') ?_ hc'
      rw [show k + (j + 1) = k + 1 + j by omega]
      simpa using hb')
    have e2 : ∀ (R : List Rec) (k : Nat) (G : Nat → AV), valL (fun _ => false) k R G = G := by
      intro R
      induction R with
      | nil => intro k G; rfl
      | cons q R ih => intro k G; exact ih (k + 1) G
    have e3 : valL b k (r0 :: R) V = valL b (k + 1) R (if b k then (fun t => if r0.o.dst = some t then r0.v else V t) else V) := rfl
    rw [e3, e1, e2, show b k = true from hb]
    exact if_pos hc
  | r0 :: R, k, V, j + 1, r, hr, hb, hc, hl => by
    refine val_last R (k + 1) _ j r (by simpa using hr) (by rwa [show k + 1 + j = k + (j + 1) by omega]) hc (fun j' r' hj hr' hb' => hl (j' + 1) r' (by omega) (by simpa using hr') (by rwa [show k + (j' + 1) = k + 1 + j' by omega]))
/-- Only the numbers that have places matter. -/
theorem WR.on {H H' : Hf} (hW : WR ι H w) (hh : ∀ id, ι id ≠ none → ∀ b, H' id = some b → H id = some b) : WR ι H' w := by
  have ne : ∀ {id l}, ι id = some l → ι id ≠ none := fun e => by rw [e]; simp
  exact ⟨hW.gl, fun id l b e h => hW.lt id l b e (hh _ (ne e) _ h), fun id l b e h => hW.blk id l b e (hh _ (ne e) _ h), fun id id' l l' b b' hne e e' h h' => hW.inj id id' l l' b b' hne e e' (hh _ (ne e) _ h) (hh _ (ne e') _ h')⟩
/-- A call that wrote nothing that lay there before. -/
theorem WR.merge {ι' : Emb} {H G : Hf} {w' : World} {lo hi wm : Nat} (hW : WR ι H w) (hG : WR ι' G w') (hf : Free ι lo hi) (he : Ext ι ι' lo hi wm w) (hF : Fr ι wm lo w w') (hwm : lo ≤ wm) : WR ι' (fun id => if lo ≤ id ∧ id < hi then G id else H id) w' := by
  have hle := he.le hf
  have keep : ∀ B, B < w.heap.size → w'.heap[B]? = w.heap[B]? := fun B hB => hF.keep B hB (fun id l h1 h2 _ => by omega)
  have old : ∀ id, ¬ (lo ≤ id ∧ id < hi) → ∀ l, ι' id = some l → ι id = some l := fun id hid l e => by rw [← he.same id hid]; exact e
  have new : ∀ id l, lo ≤ id → id < hi → ι' id = some l → w.heap.size ≤ l.b := fun id l h1 h2 e => by
    rcases he.new id l h1 h2 e with h | ⟨id0, l0, d1, d2, _⟩
    · exact h
    · omega
  refine ⟨hG.gl, fun id l b e h => ?_, fun id l b e h => ?_, fun id id' l l' b b' hne e e' h h' l1 l2 => ?_⟩
  · by_cases hc : lo ≤ id ∧ id < hi
    · simp only [if_pos hc] at h; exact hG.lt id l b e h
    · simp only [if_neg hc] at h; exact Nat.lt_of_lt_of_le (hW.lt id l b (old id hc l e) h) hF.size
  · by_cases hc : lo ≤ id ∧ id < hi
    · simp only [if_pos hc] at h; exact hG.blk id l b e h
    · simp only [if_neg hc] at h
      have e1 := old id hc l e
      exact blkR.mono hle (keep _ (hW.lt id l b e1 h)) (hW.blk id l b e1 h)
  · by_cases hc : lo ≤ id ∧ id < hi
    · simp only [if_pos hc] at h
      by_cases hc' : lo ≤ id' ∧ id' < hi
      · simp only [if_pos hc'] at h'; exact hG.inj id id' l l' b b' hne e e' h h' l1 l2
      · simp only [if_neg hc'] at h'
        have h1 := hW.lt id' l' b' (old id' hc' l' e') h'
        have h2 := new id l hc.1 hc.2 e
        omega
    · simp only [if_neg hc] at h
      have e1 := old id hc l e
      by_cases hc' : lo ≤ id' ∧ id' < hi
      · have h1 := hW.lt id l b e1 h
        have h2 := new id' l' hc'.1 hc'.2 e'
        omega
      · simp only [if_neg hc'] at h'
        exact hW.inj id id' l l' b b' hne e1 (old id' hc' l' e') h h' l1 l2
/-- What is known of an operation that was evaluated. -/
structure RecOk (P : Program) (all : Array Oper) (r : Rec) : Prop where
  lo : r.fx.lo = r.h.nx
  hi : r.fx.hi = r.h2.nx
  le : r.h.nx ≤ r.h2.nx
  same : ∀ id, ¬ r.ch id → r.h2.h.get id = r.h.h.get id
  wrrd : ∀ id, r.fx.wr.has id → r.fx.rd.has id
  bd : Bd r.h
  bd2 : Bd r.h2
  want : want all r.tm r.o = some r.wd
  off : r.wd = false → r.v = .tup [] ∧ r.h2 = r.h ∧ r.fx.wr = .ids []
  run : r.wd = true → ∀ (ι : Emb) (H : Hf) (w : World) (a : Act), WR ι H w → Free ι r.h.nx r.h2.nx → Opr ι r.tm a r.o → (∀ id, r.fx.rd.has id → ι id ≠ none → ∀ b, r.h.h.get id = some b → H id = some b) →
    Gives P ((execOp a.eval r.o).run P w) (Post ι (updF r H) r.h.nx r.h2.nx r.h2.wm w r.v)
theorem Gives.mono {r : Result Next} {K K' : Value → World → Prop} (hg : Gives P r K) (hk : ∀ v w, K v w → K' v w) : Gives P r K' := by
  cases r with
  | halt x w => exact hg.elim
  | ok nx w =>
    cases nx with
    | value v => exact hk _ _ hg
    | skip => exact hk _ _ hg
    | enter f args => exact Calls.mono hg fun e w' ⟨v, he, hv⟩ => ⟨v, he, hk _ _ hv⟩
    | _ => exact hg.elim
theorem recOk {all : Array Oper} (hh : HookOk P hk) (hs : SelfOk P self) (h100 : 100 ≤ h.nx) (hB : Bd h) (hw : want all tm o = some true) {h2 : Hp} (e : one P hk self o tm (hpW h bigWm) = .val v h2) : RecOk P all ⟨o, true, tm, h, v, h2, footOf o tm h.nx h2⟩ := by
  have e1 : full P hk self o.op (aop o.op P tm (hpW h bigWm)) (hpW h bigWm) = .val v h2 := e
  have hB' : Bd (hpW h bigWm) := hB
  cases ha : aop o.op P tm (hpW h bigWm) with
  | bad => rw [ha] at e1; cases e1
  | val v1 h1 =>
    rw [ha] at e1
    obtain ⟨rfl, rfl⟩ := val_inj (show Ro.val v1 h1 = Ro.val v h2 from e1)
    obtain ⟨rd, wr, hft, hO, hsub⟩ := aop_ok ha
    have hfo : footOf o tm h.nx h1 = ⟨.ids rd, .ids wr, h.nx, h1.nx⟩ := by simp only [footOf, hft]
    have hch : ∀ id, Rec.ch ⟨o, true, tm, h, v1, h1, footOf o tm h.nx h1⟩ id ↔ (id ∈ wr ∨ (h.nx ≤ id ∧ id < h1.nx)) := fun id => by unfold Rec.ch; rw [hfo]; exact Iff.rfl
    refine ⟨by rw [hfo], by rw [hfo], hO.nx, fun id hc => ?_, fun id hc => ?_, hB, hO.bd hB', hw, fun h => (by cases h), fun _ ι H w a hW hf ho hA => ?_⟩
    · rw [hch] at hc; exact hO.only id (fun h => hc (.inl h)) (fun h => hc (.inr h))
    · rw [hfo] at hc ⊢; exact hsub id hc
    · rw [hfo] at hA
      have hWp : WR ι (fun id => if ι id = none then h.h.get id else H id) w := hW.on fun id hne b hb => by simp only [if_neg hne] at hb; exact hb
      have hr := hO.run ι (fun id => if ι id = none then h.h.get id else H id) (updF ⟨o, true, tm, h, v1, h1, footOf o tm h.nx h1⟩ (fun id => if ι id = none then h.h.get id else H id)) w a hWp hf ho (fun id hid b hb => by
        by_cases hn : ι id = none
        · simp only [if_pos hn]; exact hb
        · simp only [if_neg hn]; exact hA id hid hn b hb) hB' (fun id hid => updF_in ((hch id).2 hid)) (fun id hi1 hi2 => updF_out (fun hc => by
          rcases (hch id).1 hc with h | h
          · exact hi1 h
          · exact hi2 h))
      refine hr.mono fun vc w' hP => ?_
      obtain ⟨ι', p1, p2, p3, p4⟩ := hP
      refine ⟨ι', p1, p2, p3.on fun id hne b hb => ?_, p4⟩
      by_cases hc : Rec.ch ⟨o, true, tm, h, v1, h1, footOf o tm h.nx h1⟩ id
      · rw [updF_in hc] at hb ⊢; exact hb
      · rw [updF_out hc] at hb ⊢
        have hid : ¬ (h.nx ≤ id ∧ id < h1.nx) := fun hq => hc ((hch id).2 (.inr hq))
        have : ι id ≠ none := by rw [← p1.same id hid]; exact hne
        simp only [if_neg this]; exact hb
  | enter f args =>
    rw [ha] at e1
    have e2 : (bif isFn o.op then call P hk self f args (hpW h bigWm) else .bad) = .val v h2 := e1
    cases hfn : isFn o.op with
    | false => rw [hfn] at e2; cases e2
    | true =>
      rw [hfn] at e2
      have hC := call_ok hh hs (show 100 ≤ (hpW h bigWm).nx from h100) hB' (show call P hk self f args (hpW h bigWm) = .val v h2 from e2)
      obtain ⟨hft, hE⟩ := aop_enter ha hfn
      have hfo : footOf o tm h.nx h2 = ⟨.all, bif Nat.blt h2.wm h.nx then .all else .ids [], h.nx, h2.nx⟩ := by simp only [footOf, hft]
      rw [blt_eq] at hfo
      have hkeep : ∀ id, id < h.nx → id < h2.wm → h2.h.get id = h.h.get id := hC.keep
      have hnx : h.nx ≤ h2.nx := hC.nx
      have none_of : ∀ {g : Hp}, Bd g → ∀ id, g.nx ≤ id → g.h.get id = none := fun {g} hb id hid => by
        cases hq : g.h.get id with
        | none => rfl
        | some b => have := hb id b hq; omega
      by_cases hwr : h2.wm < h.nx
      · rw [decide_eq_true hwr] at hfo
        have hch : ∀ id, Rec.ch ⟨o, true, tm, h, v, h2, footOf o tm h.nx h2⟩ id := fun id => .inl (by rw [hfo]; trivial)
        refine ⟨by rw [hfo], by rw [hfo], hnx, fun id hc => absurd (hch id) hc, fun id _ => by rw [hfo]; trivial, hB, hC.bd hB', hw, fun h => (by cases h), fun _ ι H w a hW hf ho hA => ?_⟩
        obtain ⟨vals, k1, k2⟩ := hE ι a ho
        rw [k2]
        refine (hC.run ι w vals k1 (hW.on fun id hne b hb => hA id (by rw [hfo]; trivial) hne b hb) hf hB').mono fun vc w' hP => ?_
        obtain ⟨ι', p1, p2, p3, p4⟩ := hP
        exact ⟨ι', p1, p2, p3.on fun id _ b hb => by rw [updF_in (hch id)] at hb; exact hb, p4⟩
      · rw [decide_eq_false hwr] at hfo
        have hch : ∀ id, Rec.ch ⟨o, true, tm, h, v, h2, footOf o tm h.nx h2⟩ id ↔ (h.nx ≤ id ∧ id < h2.nx) := fun id => by
          unfold Rec.ch
          rw [hfo]
          constructor
          · rintro (h | h)
            · cases h
            · exact h
          · exact .inr
        refine ⟨by rw [hfo], by rw [hfo], hnx, fun id hc => ?_, fun id hc => (by rw [hfo] at hc; cases hc), hB, hC.bd hB', hw, fun h => (by cases h), fun _ ι H w a hW hf ho hA => ?_⟩
        · rw [hch] at hc
          by_cases hid : id < h.nx
          · exact hkeep id hid (by omega)
          · show h2.h.get id = h.h.get id
            rw [none_of (hC.bd hB') id (by omega), none_of hB id (by omega)]
        · obtain ⟨vals, k1, k2⟩ := hE ι a ho
          rw [k2]
          refine (hC.run ι w vals k1 (hW.on fun id hne b hb => hA id (by rw [hfo]; trivial) hne b hb) hf hB').mono fun vc w' hP => ?_
          obtain ⟨ι', p1, p2, p3, p4⟩ := hP
          refine ⟨ι', p1, p2, (WR.merge hW p3 hf p1 p4 (by show h.nx ≤ h2.wm; omega)).on fun id _ b hb => ?_, p4⟩
          by_cases hc : h.nx ≤ id ∧ id < h2.nx
          · rw [updF_in ((hch id).2 hc)] at hb
            show (if h.nx ≤ id ∧ id < h2.nx then h2.h.get id else H id) = some b
            rw [if_pos hc]; exact hb
          · rw [updF_out (fun hq => hc ((hch id).1 hq))] at hb
            show (if h.nx ≤ id ∧ id < h2.nx then h2.h.get id else H id) = some b
            rw [if_neg hc]; exact hb
end
end Go.Proofs.YtnbnoacadhoimaaGreatDoor.Ax
