/- An evaluator for the model: part X. -/
import Derived.Test.YtnbnoacadhoimaaGreatDoorAxW
set_option linter.unusedSimpArgs false
set_option linter.unusedVariables false
set_option maxRecDepth 100000
set_option maxHeartbeats 8000000
namespace Go.Proofs.YtnbnoacadhoimaaGreatDoor.Ax
open Go Go.RowKit
set_option linter.unusedSimpArgs false
set_option linter.unusedVariables false
section
variable {P : Program} {w : World} {ι : Emb} {o : Oper} {tm : Tm} {h h' : Hp} {v : AV}
theorem bound_run {u : Value} {k : IntKind} {i y : Nat} {cd : BoundsCode} (hu : u = .int k (i : Int)) (hi : i ≤ y) : (Instr.sliceBound u y cd).run P w = .ok i w := by
  subst hu
  have : (0 : Int) ≤ (i : Int) ∧ (i : Int) ≤ (y : Int) := ⟨by omega, by omega⟩
  simp [Instr.sliceBound, asIntOf, this]
theorem bounds_run {a : Act} {lo hi : Option Operand} {len cap l hh : Nat} {b : Bool} (ho : ∀ x, (lo = some x ∨ hi = some x) → VR ι (opd tm x) (a.eval x)) (h1 : asNatD tm hi len = some hh) (h2 : asNatD tm lo 0 = some l) (h3 : l ≤ hh) (h4 : hh ≤ cap) :
    (Instr.sliceBounds b len cap (lo.map a.eval) (hi.map a.eval) none).run P w = .ok (l, hh, cap) w := by
  cases hi with
  | none =>
    have := Option.some.inj (show some len = some hh from h1)
    subst this
    cases lo with
    | none =>
      have := Option.some.inj (show some 0 = some l from h2)
      subst this
      simp [Instr.sliceBounds]
    | some y =>
      obtain ⟨k, hk⟩ := asNat_val (show asNat (opd tm y) = some l from h2) (ho y (.inl rfl))
      simp [Instr.sliceBounds, bound_run (P := P) (w := w) (cd := .sliceB) hk h3]
  | some x =>
    obtain ⟨k, hk⟩ := asNat_val (show asNat (opd tm x) = some hh from h1) (ho x (.inr rfl))
    cases lo with
    | none =>
      have := Option.some.inj (show some 0 = some l from h2)
      subst this
      simp [Instr.sliceBounds, bound_run (P := P) (w := w) (cd := if b then .sliceAcap else .sliceAlen) hk h4]
    | some y =>
      obtain ⟨k2, hk2⟩ := asNat_val (show asNat (opd tm y) = some l from h2) (ho y (.inl rfl))
      simp [Instr.sliceBounds, bound_run (P := P) (w := w) (cd := if b then .sliceAcap else .sliceAlen) hk h4, bound_run (P := P) (w := w) (cd := .sliceB) hk2 h3]
theorem cut_eq {a l hh c id z : Nat} {cap : Cap} (e : cut a l hh c id z cap = some v) : l ≤ hh ∧ hh ≤ c ∧ capFit z cap = true ∧ v = .slc id (a + l * z) (hh - l) (capSub l cap) := by
  unfold cut at e
  simp only [ble_eq] at e
  cases hb : (decide (l ≤ hh) && decide (hh ≤ c) && capFit z cap) with
  | false => rw [hb] at e; cases e
  | true =>
    rw [hb] at e
    simp only [Bool.and_eq_true, decide_eq_true_eq] at hb
    exact ⟨hb.1.1, hb.1.2, hb.2, (Option.some.inj e).symm⟩
theorem slSlc_eq {lo hi : Option Operand} {z id off len : Nat} {cap : Cap} (e : slSlc tm lo hi z id off len cap = some v) :
    ∃ hh l, asNatD tm hi len = some hh ∧ asNatD tm lo 0 = some l ∧ l ≤ hh ∧ hh ≤ capMax len cap ∧ capFit z cap = true ∧ v = .slc id (off + l * z) (hh - l) (capSub l cap) := by
  unfold slSlc at e
  split at e
  · rename_i hh h1
    split at e
    · rename_i l h2
      obtain ⟨h3, h4, h5, h6⟩ := cut_eq e
      exact ⟨hh, l, h1, h2, h3, h4, h5, h6⟩
    · cases e
  · cases e
/-- The slice of a part. -/
theorem slc_part {l : Loc} {id x off len c z lo hh : Nat} {cap : Cap} (hl : ι id = some l) (hx : 0 < c → x = l.d + off) (hc : capR l off len c cap) (h3 : lo ≤ hh) (h4 : hh ≤ capMax len cap) (h5 : capFit z cap = true) :
    hh ≤ c ∧ VR ι (.slc id (off + lo * z) (hh - lo) (capSub lo cap)) (.slice (some (if c = lo then ⟨l.b, x, none⟩ else ⟨l.b, x + lo * z, none⟩)) (hh - lo) (c - lo)) := by
  have hhc : hh ≤ c := by
    cases cap with
    | k k => obtain ⟨rfl, h6⟩ := hc; exact h4
    | r z' => obtain ⟨h6, _⟩ := hc; exact Nat.le_trans h4 h6
  refine ⟨hhc, VR.slc.2 ⟨l, if c = lo then x else x + lo * z, c - lo, hl, ?_, fun hp => ?_, ?_⟩⟩
  · split <;> rfl
  · rw [if_neg (by omega), hx (by omega), Nat.add_assoc]
  · cases cap with
    | k k => obtain ⟨rfl, h6⟩ := hc; exact ⟨rfl, by omega⟩
    | r z' =>
      obtain ⟨h6, h7⟩ := hc
      have hz : z = z' := by simpa [capFit] using h5
      subst hz
      refine ⟨by omega, fun hp => ?_⟩
      have := h7 (by omega)
      obtain ⟨k, rfl⟩ : ∃ k, c = lo + k := ⟨c - lo, by omega⟩
      rw [Nat.add_sub_cancel_left]
      rw [Nat.add_mul] at this
      omega
theorem oSlice_ok {t : TypeId} {x : Operand} {lo hi mx : Option Operand} (hop : o.op = .slice t x lo hi mx) (e : oSlice t x lo hi mx P tm h = .val v h') : OpOk P o tm h h' v [] [] := by
  unfold oSlice at e
  split at e
  · cases e
  · obtain ⟨e1, rfl⟩ := val?_eq e
    refine OpOk.pure fun ι H w a hW ho hA => ?_
    have hx := ho x (by simp [hop, Op.operands])
    have hb : ∀ y, (lo = some y ∨ hi = some y) → VR ι (opd tm y) (a.eval y) := fun y hy => ho y (by
      rcases hy with rfl | rfl <;> simp [hop, Op.operands])
    have arr : ∀ (id off n el : Nat), P.underlying t = some (.array n el) → VR ι (.ptr id off) (a.eval x) → slArr P tm lo hi id off (some (.array n el)) = some v → ∃ vc, (execOp a.eval o).run P w = .ok (.value vc) w ∧ VR ι v vc := by
      intro id off n el hu hx e2
      obtain ⟨l, hl, hv⟩ := VR.ptr.1 hx
      have e3 : (match szOf P el with | some z => slSlc tm lo hi z id off n (.k n) | none => none) = some v := e2
      split at e3
      · rename_i z hz
        obtain ⟨hh, lw, h1, h2, h3, h4, h5, rfl⟩ := slSlc_eq e3
        obtain ⟨g1, g2⟩ := slc_part (x := l.d + off) (c := n) hl (fun _ => rfl) (cap := .k n) (off := off) (len := n) ⟨rfl, Nat.le_refl _⟩ h3 h4 h5
        refine ⟨_, ?_, g2⟩
        simp only [execOp, hop, Instr.sliceAt, run_underlying hu, hv, Instr.sureAddr, Sem.run_bind, Sem.run_pure, Result.andThen_ok, bounds_run (P := P) (w := w) hb h1 h2 h3 g1, szOf_run hz, Addr.add_lit, Option.map_none]
      · cases e3
    unfold slV at e1
    split at e1
    · rename_i s hp
      rw [hp] at hx
      have hv := VR.str.1 hx
      split at e1
      rename_i hu
      unfold slStr at e1
      split at e1
      · rename_i hh h1
        split at e1
        · rename_i lw h2
          simp only [ble_eq] at e1
          cases hbb : (decide (lw ≤ hh) && decide (hh ≤ lenL s)) with
          | false => rw [hbb] at e1; cases e1
          | true =>
            rw [hbb] at e1
            simp only [Bool.and_eq_true, decide_eq_true_eq] at hbb
            have := Option.some.inj e1
            subst this
            rw [lenL_eq] at h1 hbb
            refine ⟨.string (ByteArray.extract ⟨⟨s⟩⟩ lw hh), ?_, VR.str.2 ?_⟩
            · simp only [execOp, hop, Instr.sliceAt, run_underlying hu, hv, Sem.run_bind, Sem.run_pure, Result.andThen_ok, Instr.slice, data_size, bounds_run (P := P) (w := w) hb h1 h2 hbb.1 hbb.2, Option.map_none, Option.isSome_none, Bool.false_eq_true, if_false]
            · congr 1
              apply ByteArray.ext
              rw [takeL_eq, dropL_eq]
              apply Array.ext'
              simp [List.take_drop, Nat.add_sub_cancel' hbb.1]
        · cases e1
      · cases e1
      · cases e1
    · rename_i id off len cap hp
      rw [hp] at hx
      obtain ⟨l, y, c, hl, hv, hc, hcap⟩ := VR.slc.1 hx
      split at e1
      · rename_i el hel
        have hu := sliceElem_eq hel
        split at e1
        · rename_i z hz
          obtain ⟨hh, lw, h1, h2, h3, h4, h5, rfl⟩ := slSlc_eq e1
          obtain ⟨g1, g2⟩ := slc_part hl hc hcap h3 h4 h5
          refine ⟨_, ?_, g2⟩
          simp only [execOp, hop, Instr.sliceAt, run_underlying hu, hv, Sem.run_bind, Sem.run_pure, Result.andThen_ok, Instr.slice, bounds_run (P := P) (w := w) hb h1 h2 h3 g1, szOf_run hz, Option.map_none, Option.map_some, Addr.add_lit]
          split <;> rfl
        · cases e1
      · cases e1
    · rename_i hp
      rw [hp] at hx
      have hv := VR.nils.1 hx
      split at e1
      rename_i el hel
      have hu := sliceElem_eq hel
      split at e1
      rename_i z hz
      unfold slNil at e1
      split at e1
      · rename_i h1
        split at e1
        · rename_i h2
          have := Option.some.inj e1
          subst this
          refine ⟨.slice none 0 0, ?_, VR.nils.2 rfl⟩
          simp only [execOp, hop, Instr.sliceAt, run_underlying hu, hv, Sem.run_bind, Sem.run_pure, Result.andThen_ok, Instr.slice, bounds_run (P := P) (w := w) hb h1 h2 (Nat.le_refl 0) (Nat.le_refl 0), szOf_run hz, Option.map_none]
          rfl
        · cases e1
      · cases e1
      · cases e1
      · cases e1
    · rename_i id off hp
      rw [hp] at hx
      unfold slPtr at e1
      split at e1
      · rename_i ar har
        cases hu2 : P.underlying ar with
        | none => rw [hu2] at e1; cases e1
        | some d =>
          rw [hu2] at e1
          cases d with
          | array n el =>
            obtain ⟨l, hl, hv⟩ := VR.ptr.1 hx
            have e3 : (match szOf P el with | some z => slSlc tm lo hi z id off n (.k n) | none => none) = some v := e1
            split at e3
            · rename_i z hz
              obtain ⟨hh, lw, h1, h2, h3, h4, h5, rfl⟩ := slSlc_eq e3
              obtain ⟨g1, g2⟩ := slc_part (x := l.d + off) (c := n) hl (fun _ => rfl) (cap := .k n) (off := off) (len := n) ⟨rfl, Nat.le_refl _⟩ h3 h4 h5
              refine ⟨_, ?_, g2⟩
              simp only [execOp, hop, Instr.sliceAt, run_underlying har, run_underlying hu2, hv, Instr.slice, asAddr, Sem.run_bind, Sem.run_pure, Result.andThen_ok, bounds_run (P := P) (w := w) hb h1 h2 h3 g1, szOf_run hz, Addr.add_lit, Option.map_none]
            · cases e3
          | _ => cases e1
      · rename_i hnp
        cases hu2 : P.underlying t with
        | none => rw [hu2] at e1; cases e1
        | some d =>
          rw [hu2] at e1
          cases d with
          | array n el => exact arr id off n el hu2 hx e1
          | _ => cases e1
    · cases e1
end
end Go.Proofs.YtnbnoacadhoimaaGreatDoor.Ax
