/- An evaluator for the model: part P. -/
import Derived.Test.YtnbnoacadhoimaaGreatDoorAxO
set_option linter.unusedSimpArgs false
set_option linter.unusedVariables false
set_option maxRecDepth 100000
set_option maxHeartbeats 8000000
namespace Go.Proofs.YtnbnoacadhoimaaGreatDoor.Ax
open Go Go.RowKit
set_option linter.unusedSimpArgs false
set_option linter.unusedVariables false
section
variable {P : Program} {o : Oper} {tm : Tm} {h h' : Hp} {v : AV} {w : World} {ι : Emb}
theorem szOf_eq {t s : Nat} (e : szOf P t = some s) : ∃ i, P.info? t = some i ∧ i.size = s := by
  unfold szOf at e
  split at e
  · rename_i i hi; exact ⟨i, hi, Option.some.inj e⟩
  · cases e
theorem szOf_run {t s : Nat} (e : szOf P t = some s) (w : World) : (Go.sizeOf t).run P w = .ok s w := by
  obtain ⟨i, hi, rfl⟩ := szOf_eq e
  simp [Go.sizeOf, typeInfo, hi]
theorem isAgg_run {t : Nat} {b : Bool} (e : isAgg P t = some b) (w : World) : (Go.isAgg t).run P w = .ok b w := by
  unfold isAgg at e
  cases hu : P.underlying t with
  | none => rw [hu] at e; cases e
  | some d =>
    rw [hu] at e
    cases d <;> (obtain rfl := Option.some.inj e) <;> simp [Go.isAgg, run_underlying hu]
theorem cells_list {b : Nat} : ∀ (vs : List AV) (off : Nat), (∀ (j : Nat) (a : AV), vs[j]? = some a → ∃ v, w.cell? ⟨b, off + j, none⟩ = some v ∧ VR ι a v) →
    ∃ vals : List Value, VRs ι vs vals ∧ ∀ j u, vals[j]? = some u → w.cell? ⟨b, off + j, none⟩ = some u
  | [], off, _ => ⟨[], VRs.nil.2 rfl, fun j u h => by simp at h⟩
  | a :: vs, off, h => by
    obtain ⟨v, h1, h2⟩ := h 0 a rfl
    obtain ⟨vals, h3, h4⟩ := cells_list vs (off + 1) (fun j a' ha => by
      have := h (j + 1) a' (by simpa using ha)
      rwa [show off + (j + 1) = off + 1 + j by omega] at this)
    refine ⟨v :: vals, VRs.cons.2 ⟨v, vals, rfl, h2, h3⟩, fun j u hu => ?_⟩
    cases j with
    | zero => simp at hu; subst hu; simpa using h1
    | succ j => have := h4 j u (by simpa using hu); rwa [show off + 1 + j = off + (j + 1) by omega] at this
/-- What lies in a part of a block. -/
theorem slab_list {l : Loc} {cs r : List AV} {off n : Nat} (hc : cellR ι w l cs) (e : slab cs off n = some r) :
    ∃ vals : List Value, vals.length = n ∧ VRs ι r vals ∧ ∀ j u, vals[j]? = some u → w.cell? ⟨l.b, l.d + off + j, none⟩ = some u := by
  obtain ⟨h1, h2⟩ := slab_eq e
  obtain ⟨vals, h3, h4⟩ := cells_list (w := w) (ι := ι) (b := l.b) r (l.d + off) (fun j a ha => by
    have hj := lt_of_some ha
    rw [h2 j (by omega)] at ha
    obtain ⟨v, h5, h6⟩ := hc.2 _ a ha
    exact ⟨v, by rw [Nat.add_assoc]; exact h5, h6⟩)
  exact ⟨vals, by rw [← ((VRs.iff _ _).1 h3).1, h1], h3, h4⟩
theorem load_run {l : Loc} {cs : List AV} {t off : Nat} (hc : cellR ι w l cs) (e : rdAt P t cs off = some v) : ∃ vc, (loadVar t ⟨l.b, l.d + off, none⟩).run P w = .ok vc w ∧ VR ι v vc := by
  unfold rdAt at e
  split at e
  · rename_i hag
    split at e
    · rename_i s hs
      split at e
      · rename_i vs hv
        have := Option.some.inj e
        subst this
        obtain ⟨vals, h1, h2, h3⟩ := slab_list hc hv
        refine ⟨.agg vals.toArray, ?_, VR.agg.2 ⟨vals, rfl, h2⟩⟩
        have hl := run_loadCells_list (P := P) w ⟨l.b, l.d + off, none⟩ vals (fun j u hu => by rw [Addr.add_lit]; exact h3 j u hu)
        rw [h1] at hl
        simp [loadVar, isAgg_run hag, szOf_run hs, hl]
      · cases e
    · cases e
  · rename_i hag
    rw [nthL_eq] at e
    obtain ⟨vc, h1, h2⟩ := hc.2 off v e
    exact ⟨vc, by simp [loadVar, isAgg_run hag, run_load, h1], h2⟩
  · cases e
theorem part_run {cs : List AV} {vals : List Value} {t off : Nat} (hc : VRs ι cs vals) (e : rdAt P t cs off = some v) : ∃ vc, (part t vals.toArray off).run P w = .ok vc w ∧ VR ι v vc := by
  obtain ⟨hlen, hat⟩ := (VRs.iff _ _).1 hc
  unfold rdAt at e
  split at e
  · rename_i hag
    split at e
    · rename_i s hs
      split at e
      · rename_i vs hv
        have := Option.some.inj e
        subst this
        obtain ⟨h1, h2⟩ := slab_eq hv
        refine ⟨.agg (vals.toArray.extract off (off + s)), by simp [part, isAgg_run hag, szOf_run hs], VR.agg.2 ⟨(vals.toArray.extract off (off + s)).toList, by simp, (VRs.iff _ _).2 ⟨?_, fun j a u ha hu => ?_⟩⟩⟩
        · have hr := takeN_eq _ _ _ hv
          rw [dropL_eq, List.length_drop] at hr
          simp [h1]; omega
        · have hj := lt_of_some ha
          rw [h2 j (by omega)] at ha
          refine hat (off + j) a u ha ?_
          have hu' : (vals.toArray.extract off (off + s))[j]? = some u := by simpa using hu
          rw [Array.getElem?_extract] at hu'
          split at hu'
          · simpa using hu'
          · cases hu'
      · cases e
    · cases e
  · rename_i hag
    rw [nthL_eq] at e
    have hj := lt_of_some e
    refine ⟨vals[off]'(by omega), ?_, hat off v _ e (List.getElem?_eq_getElem (by omega))⟩
    have : vals.toArray[off]? = some (vals[off]'(by omega)) := by simp [List.getElem?_eq_getElem (show off < vals.length by omega)]
    simp [part, isAgg_run hag, this]
  · cases e
theorem rdB_eq {b : Option Blk} {cs : List AV} (e : rdB b = some cs) : b = some (.cells cs) ∨ b = some (.ro cs) := by
  cases b with
  | none => cases e
  | some b => cases b with
    | cells c => exact .inl (by rw [Option.some.inj (show some c = some cs from e)])
    | ro c => exact .inr (by rw [Option.some.inj (show some c = some cs from e)])
    | dead => cases e
theorem wrB_eq {b : Option Blk} {cs : List AV} (e : wrB b = some cs) : b = some (.cells cs) := by
  cases b with
  | none => cases e
  | some b => cases b with
    | cells c => rw [Option.some.inj (show some c = some cs from e)]
    | ro c => cases e
    | dead => cases e
theorem blk_cellR {H : Hf} {id : Nat} {cs : List AV} {l : Loc} (hW : WR ι H w) (hA : ∀ b, h.h.get id = some b → H id = some b) (hl : ι id = some l) (e : blk h id = some cs) : cellR ι w l cs := by
  rcases rdB_eq e with h1 | h1
  · exact (hW.blk id l _ hl (hA _ h1)).1
  · exact hW.blk id l _ hl (hA _ h1)
theorem oLoad_ok {t : TypeId} {x : Operand} (hop : o.op = .load t x) (e : oLoad t x P tm h = .val v h') : OpOk P o tm h h' v (idsOf (opd tm x)) [] := by
  obtain ⟨e1, rfl⟩ := val?_eq (show val? h (ldAt P t h (opd tm x)) = .val v h' from e)
  refine OpOk.pure fun ι H w a hW ho hA => ?_
  have hx := ho x (by simp [hop, Op.operands])
  cases hp : opd tm x with
  | ptr id off =>
    rw [hp] at e1 hx hA
    obtain ⟨l, hl, hv⟩ := VR.ptr.1 hx
    have e1' : (match blk h' id with | some cs => rdAt P t cs off | none => none) = some v := e1
    split at e1'
    · rename_i cs hcs
      obtain ⟨vc, h1, h2⟩ := load_run (P := P) (blk_cellR hW (hA id (by simp [idsOf])) hl hcs) e1'
      exact ⟨vc, by simp [execOp, hop, Instr.loadAt, Instr.sureAddr, hv, h1], h2⟩
    · cases e1'
  | _ => rw [hp] at e1; cases e1
theorem nck_eq {u : AV} (e : nck h u = .val v h') : v = u ∧ h' = h ∧ ((∃ id off, u = .ptr id off) ∨ ∃ f c, u = .fn f c) := by
  unfold nck at e
  split at e
  · obtain ⟨a, b⟩ := val_inj e; exact ⟨a.symm, b.symm, .inl ⟨_, _, rfl⟩⟩
  · obtain ⟨a, b⟩ := val_inj e; exact ⟨a.symm, b.symm, .inr ⟨_, _, rfl⟩⟩
  · cases e
theorem oNil_ok {x : Operand} (hop : o.op = .nilCheck x) (e : oNil x P tm h = .val v h') : OpOk P o tm h h' v [] [] := by
  obtain ⟨rfl, rfl, hc⟩ := nck_eq (show nck h (opd tm x) = .val v h' from e)
  refine OpOk.pure fun ι H w a hW ho hA => ?_
  have hx := ho x (by simp [hop, Op.operands])
  refine ⟨a.eval x, ?_, hx⟩
  rcases hc with ⟨id, off, hp⟩ | ⟨f, c, hp⟩
  · rw [hp] at hx
    obtain ⟨l, _, hv⟩ := VR.ptr.1 hx
    simp [execOp, hop, hv]
  · rw [hp] at hx
    obtain ⟨cs, hv, _⟩ := VR.fn.1 hx
    simp [execOp, hop, hv]
theorem oExtract_ok {x : Operand} {i : Nat} (hop : o.op = .extract x i) (e : oExtract x i P tm h = .val v h') : OpOk P o tm h h' v [] [] := by
  obtain ⟨e1, rfl⟩ := val?_eq (show val? h (exv i (opd tm x)) = .val v h' from e)
  refine OpOk.pure fun ι H w a hW ho hA => ?_
  have hx := ho x (by simp [hop, Op.operands])
  cases hp : opd tm x with
  | tup vs =>
    rw [hp] at e1 hx
    obtain ⟨cs, hv, hr⟩ := VR.tup.1 hx
    obtain ⟨hlen, hat⟩ := (VRs.iff _ _).1 hr
    have e1' : vs[i]? = some v := by rw [← nthL_eq]; exact e1
    have hi := lt_of_some e1'
    have hc : cs[i]? = some (cs[i]'(by omega)) := List.getElem?_eq_getElem (by omega)
    refine ⟨cs[i]'(by omega), ?_, hat i v _ e1' hc⟩
    simp [execOp, hop, Instr.extract, hv, hc]
  | _ => rw [hp] at e1; cases e1
theorem fieldOf_eq {t i : Nat} {f : Field} (e : fieldOf P t i = some f) : ∃ fs, P.underlying t = some (.struct fs) ∧ fs[i]? = some f := by
  unfold fieldOf at e
  split at e
  · rename_i fs hfs
    unfold fields at hfs
    split at hfs
    · rename_i gs hg
      have := Option.some.inj hfs
      subst this
      exact ⟨gs, hg, by rw [nthL_eq] at e; simpa using e⟩
    · cases hfs
  · cases e
theorem oField_ok {t : TypeId} {x : Operand} {i : Nat} (hop : o.op = .field t x i) (e : oField t x i P tm h = .val v h') : OpOk P o tm h h' v [] [] := by
  obtain ⟨e1, rfl⟩ := val?_eq (show val? h (fv P t i (opd tm x)) = .val v h' from e)
  refine OpOk.pure fun ι H w a hW ho hA => ?_
  have hx := ho x (by simp [hop, Op.operands])
  cases hp : opd tm x with
  | agg vs =>
    rw [hp] at e1 hx
    obtain ⟨cs, hv, hr⟩ := VR.agg.1 hx
    have e1' : (match fieldOf P t i with | some fd => rdAt P fd.type vs fd.offset | none => none) = some v := e1
    split at e1'
    · rename_i fd hfd
      obtain ⟨fs, hu, hf⟩ := fieldOf_eq hfd
      obtain ⟨vc, h1, h2⟩ := part_run (P := P) (w := w) hr e1'
      refine ⟨vc, ?_, h2⟩
      simp [execOp, hop, Instr.field, run_underlying hu, hf, hv, asAgg, h1]
    · cases e1'
  | _ => rw [hp] at e1; cases e1
theorem oFieldAddr_ok {t : TypeId} {x : Operand} {i : Nat} (hop : o.op = .fieldAddr t x i) (e : oFieldAddr t x i P tm h = .val v h') : OpOk P o tm h h' v [] [] := by
  cases hp : opd tm x with
  | ptr id off =>
    have e' : (match fieldOf P t i with | some fd => (match szOf P fd.type with | some (_ + 1) => Ro.val (.ptr id (off + fd.offset)) h | _ => .bad) | none => .bad) = .val v h' := by
      have : fa P t i h (opd tm x) = .val v h' := e
      rw [hp] at this; exact this
    split at e'
    · rename_i fd hfd
      split at e'
      · rename_i k hs
        obtain ⟨rfl, rfl⟩ := val_inj e'
        obtain ⟨fs, hu, hf⟩ := fieldOf_eq hfd
        refine OpOk.pure fun ι H w a hW ho hA => ?_
        have hx := ho x (by simp [hop, Op.operands])
        rw [hp] at hx
        obtain ⟨l, hl, hv⟩ := VR.ptr.1 hx
        refine ⟨.pointer (some ⟨l.b, l.d + (off + fd.offset), none⟩), ?_, VR.ptr.2 ⟨l, hl, rfl⟩⟩
        simp [execOp, hop, Instr.fieldAt, run_underlying hu, hf, hv, Instr.sureAddr, fieldPlace, szOf_run hs, Addr.add_lit, Nat.add_assoc]
      · cases e'
    · cases e'
  | _ =>
    have : fa P t i h (opd tm x) = .val v h' := e
    rw [hp] at this; cases this
end
end Go.Proofs.YtnbnoacadhoimaaGreatDoor.Ax
