/- An evaluator for the model: part S. -/
import Derived.Test.YtnbnoacadhoimaaGreatDoorAxQ
set_option linter.unusedSimpArgs false
set_option linter.unusedVariables false
set_option maxRecDepth 100000
set_option maxHeartbeats 8000000
namespace Go.Proofs.YtnbnoacadhoimaaGreatDoor.Ax
open Go Go.RowKit
set_option linter.unusedSimpArgs false
set_option linter.unusedVariables false
section
variable {P : Program} {w : World} {ι : Emb} {o : Oper} {tm : Tm} {h h' : Hp} {v : AV}
def EqOk (P : Program) (w : World) (ι : Emb) (n : Nat) (k : TypeId → AV → AV → Option Bool) : Prop :=
  ∀ t x y vx vy r, VR ι x vx → VR ι y vy → k t x y = some r → ∀ d, n ≤ d → (Op.equalIn d t vx vy).run P w = .ok r w
theorem eqF_run {n : Nat} {k : TypeId → AV → AV → Option Bool} (hk : EqOk P w ι n k) {xs ys : List AV} {vx vy : List Value} (hx : VRs ι xs vx) (hy : VRs ι ys vy) {d : Nat} (hd : n ≤ d) :
    ∀ (l : List Field) (r : Bool), eqF k P xs ys l = some r → (Op.eqFields d vx.toArray vy.toArray l).run P w = .ok r w
  | [], r, e => by
    have := Option.some.inj (show some true = some r from e)
    subst this
    simp [Op.eqFields]
  | f :: l, r, e => by
    have e' : (bif f.name != "_" then eqK (eqF k P xs ys l) (eq2 (k f.type) (rdAt P f.type xs f.offset) (rdAt P f.type ys f.offset)) else none) = some r := e
    cases hn : (f.name != "_") with
    | false => rw [hn] at e'; cases e'
    | true =>
      rw [hn] at e'
      have hn' : f.name ≠ "_" := by simpa using hn
      cases h1 : rdAt P f.type xs f.offset with
      | none => rw [h1] at e'; cases e'
      | some a => cases h2 : rdAt P f.type ys f.offset with
        | none => rw [h1, h2] at e'; cases e'
        | some b =>
          rw [h1, h2] at e'
          obtain ⟨va, p1, q1⟩ := part_run (P := P) (w := w) hx h1
          obtain ⟨vb, p2, q2⟩ := part_run (P := P) (w := w) hy h2
          cases h3 : k f.type a b with
          | none =>
            have e2 : eqK (eqF k P xs ys l) (k f.type a b) = some r := e'
            rw [h3] at e2; cases e2
          | some r1 =>
            have e2 : eqK (eqF k P xs ys l) (k f.type a b) = some r := e'
            rw [h3] at e2
            have p3 := hk f.type a b va vb r1 q1 q2 h3 d hd
            cases r1 with
            | true =>
              have p4 := eqF_run hk hx hy hd l r e2
              simp [Op.eqFields, hn', p1, p2, p3, p4]
            | false =>
              have := Option.some.inj (show some false = some r from e2)
              subst this
              simp [Op.eqFields, hn', p1, p2, p3]
theorem eqT_run : ∀ n, EqOk P w ι n (eqT P n)
  | 0 => fun t x y vx vy r hx hy e => by cases e
  | n + 1 => fun t x y vx vy r hx hy e d hd => by
    have ih := eqT_run n
    obtain ⟨d, rfl⟩ : ∃ d', d = d' + 1 := ⟨d - 1, by omega⟩
    have e' : eqT1 P (eqT P n) t x y = some r := e
    have scal : eqD x y (P.underlying t) = some r → (Op.equalIn (d + 1) t vx vy).run P w = .ok r w := by
      intro e2
      cases hu : P.underlying t with
      | none => rw [hu] at e2; cases e2
      | some td => rw [hu] at e2; exact eqS_run d hu hx hy e2
    cases x with
    | agg xs =>
      have e2 : eqA (eqT P n) P t xs y = some r := e'
      cases y with
      | agg ys =>
        have e3 : (match fields (P.underlying t) with | some fs => bif P.stoodInHeld t then none else eqF (eqT P n) P xs ys fs.toList | none => none) = some r := e2
        split at e3
        · rename_i fs hfs
          cases hs : P.stoodInHeld t with
          | true => rw [hs] at e3; cases e3
          | false =>
            rw [hs] at e3
            have hu : P.underlying t = some (.struct fs) := by
              unfold fields at hfs
              split at hfs
              · rename_i gs hg; rw [hg, Option.some.inj hfs]
              · cases hfs
            obtain ⟨vxs, rfl, hxs⟩ := VR.agg.1 hx
            obtain ⟨vys, rfl, hys⟩ := VR.agg.1 hy
            have hf : P.fieldsOf t = fs := by simp [Program.fieldsOf, hu]
            rw [run_equalIn_struct w d t _ _ (by rw [hf]; exact hu) hs, hf]
            exact eqF_run ih hxs hys (by omega) _ _ e3
        · cases e3
      | _ => cases e2
    | _ => exact scal e'
theorem eqOp_eq {op : BinOp} {r : Option Bool} {v : AV} (e : eqOp op r = v) (hv : v ≠ .any) : ∃ b, r = some b ∧ ((op = .eql ∧ v = .bool b) ∨ (op = .neq ∧ v = .bool (!b))) := by
  cases r with
  | none => exact absurd e.symm hv
  | some b =>
    refine ⟨b, rfl, ?_⟩
    cases op <;> first | (exact absurd e.symm hv) | (exact .inl ⟨rfl, e.symm⟩) | (exact .inr ⟨rfl, e.symm⟩)
/-- What two values that are no numbers and no texts do under == and !=. -/
theorem eq_run {op : BinOp} {t : TypeId} {x y : AV} {vx vy : Value} {v : AV} (hx : VR ι x vx) (hy : VR ι y vy) (hn : ∀ k a, x ≠ .int k a) (hs : ∀ a, x ≠ .str a) (e : eqOp op (eqT P 16 t x y) = v) (hv : v ≠ .any) :
    ∃ vc, (Go.binOp op t vx vy).run P w = .ok vc w ∧ VR ι v vc := by
  obtain ⟨b, hb, hc⟩ := eqOp_eq e hv
  have hr := eqT_run (P := P) (w := w) (ι := ι) 16 t x y vx vy b hx hy hb Op.maxDepth (by decide)
  have hq : (Op.equal t vx vy).run P w = .ok b w := hr
  have main : ∀ op : BinOp, op = .eql ∨ op = .neq → (Go.binOp op t vx vy).run P w = (do let r ← Op.equal t vx vy; pure (Value.bool (if op = BinOp.eql then r else !r))).run P w := by
    intro op hop
    cases x with
    | int k a => exact absurd rfl (hn k a)
    | str a => exact absurd rfl (hs a)
    | any =>
      have h2 : eqT1 P (eqT P 15) t .any y = some b := hb
      have h3 : eqD .any y (P.underlying t) = some b := h2
      unfold eqD at h3
      split at h3
      · unfold eqS at h3; split at h3 <;> cases h3
      · cases h3
    | bool a => have := VR.bool.1 hx; subst this; rcases hop with rfl | rfl <;> cases vy <;> rfl
    | ptr id off => obtain ⟨l, _, this⟩ := VR.ptr.1 hx; subst this; rcases hop with rfl | rfl <;> cases vy <;> rfl
    | nilp => have := VR.nilp.1 hx; subst this; rcases hop with rfl | rfl <;> cases vy <;> rfl
    | slc id off len cap => obtain ⟨l, x, c, _, this, _⟩ := VR.slc.1 hx; subst this; rcases hop with rfl | rfl <;> cases vy <;> rfl
    | nils => have := VR.nils.1 hx; subst this; rcases hop with rfl | rfl <;> cases vy <;> rfl
    | agg vs => obtain ⟨cs, this, _⟩ := VR.agg.1 hx; subst this; rcases hop with rfl | rfl <;> cases vy <;> rfl
    | tup vs => obtain ⟨cs, this, _⟩ := VR.tup.1 hx; subst this; rcases hop with rfl | rfl <;> cases vy <;> rfl
    | fn f vs => obtain ⟨cs, this, _⟩ := VR.fn.1 hx; subst this; rcases hop with rfl | rfl <;> cases vy <;> rfl
    | nilf => have := VR.nilf.1 hx; subst this; rcases hop with rfl | rfl <;> cases vy <;> rfl
    | nili => have := VR.nili.1 hx; subst this; rcases hop with rfl | rfl <;> cases vy <;> rfl
  rcases hc with ⟨rfl, rfl⟩ | ⟨rfl, rfl⟩
  · exact ⟨.bool b, by rw [main _ (.inl rfl)]; simp [hq], VR.bool.2 rfl⟩
  · exact ⟨.bool (!b), by rw [main _ (.inr rfl)]; simp [hq], VR.bool.2 rfl⟩
end
end Go.Proofs.YtnbnoacadhoimaaGreatDoor.Ax
namespace Go.Proofs.YtnbnoacadhoimaaGreatDoor.Ax
open Go Go.RowKit
set_option linter.unusedSimpArgs false
set_option linter.unusedVariables false
section
variable {P : Program} {w : World} {ι : Emb} {o : Oper} {tm : Tm} {h h' : Hp} {v : AV}
theorem binop_run {op : BinOp} {t : TypeId} {x y : AV} {vx vy : Value} (hx : VR ι x vx) (hy : VR ι y vy) (e : binop P op t x y = v) (hv : v ≠ .any) : ∃ vc, (Go.binOp op t vx vy).run P w = .ok vc w ∧ VR ι v vc := by
  unfold binop at e
  split at e
  · rename_i k a
    have := VR.int.1 hx
    subst this
    cases y with
    | int k' b => have := VR.int.1 hy; subst this; exact bInt_run e hv
    | _ => exact absurd e.symm hv
  · rename_i a
    have := VR.str.1 hx
    subst this
    cases y with
    | str b => have := VR.str.1 hy; subst this; exact bStr_run e hv
    | _ => exact absurd e.symm hv
  · rename_i h1 h2
    exact eq_run hx hy h1 h2 e hv
theorem guard_run {op : BinOp} {t : TypeId} {x y : Operand} {a b : AV} {va vb : Value} (ha : VR ι a va) (hb : VR ι b vb) (hg : gOk P t x y a = true) : (eqGuard op t x y va vb).run P w = .ok () w := by
  cases op <;> try rfl
  all_goals
    cases a with
    | nili =>
      have := VR.nili.1 ha
      subst this
      have hg' : (isC x || isC y) = true := hg
      cases vb <;> try rfl
      cases x <;> cases y <;> first | rfl | (cases hg')
    | agg vs =>
      obtain ⟨cs, this, _⟩ := VR.agg.1 ha
      subst this
      have hg' : (!P.eqGuardType P.depth t) = true := hg
      cases vb <;> try rfl
      simp at hg'
      simp [eqGuard, hg']
    | int k n => have := VR.int.1 ha; subst this; rfl
    | bool c => have := VR.bool.1 ha; subst this; rfl
    | str s => have := VR.str.1 ha; subst this; rfl
    | ptr id off => obtain ⟨l, _, this⟩ := VR.ptr.1 ha; subst this; rfl
    | nilp => have := VR.nilp.1 ha; subst this; rfl
    | slc id off len cap => obtain ⟨l, x, c, _, this, _⟩ := VR.slc.1 ha; subst this; rfl
    | nils => have := VR.nils.1 ha; subst this; rfl
    | tup vs => obtain ⟨cs, this, _⟩ := VR.tup.1 ha; subst this; rfl
    | fn f vs => obtain ⟨cs, this, _⟩ := VR.fn.1 ha; subst this; rfl
    | nilf => have := VR.nilf.1 ha; subst this; rfl
    | any => cases hg
theorem oBin_ok {op : BinOp} {t u : TypeId} {x y : Operand} (hop : o.op = .binOp op t x y u) (e : oBin op t x y u P tm h = .val v h') (hv : v ≠ .any) : OpOk P o tm h h' v [] [] := by
  have e' : (bif gOk P t x y (opd tm x) then okv h (binop P op t (opd tm x) (opd tm y)) else .bad) = .val v h' := e
  cases hg : gOk P t x y (opd tm x) with
  | false => rw [hg] at e'; cases e'
  | true =>
    rw [hg] at e'
    obtain ⟨hb, rfl⟩ := okv_eq (show okv h (binop P op t (opd tm x) (opd tm y)) = .val v h' from e')
    refine OpOk.pure fun ι H w a hW ho hA => ?_
    have hx := ho x (by simp [hop, Op.operands])
    have hy := ho y (by simp [hop, Op.operands])
    obtain ⟨vc, h1, h2⟩ := binop_run (w := w) hx hy hb hv
    exact ⟨vc, by simp [execOp, hop, guard_run (op := op) hx hy hg, h1], h2⟩
end
end Go.Proofs.YtnbnoacadhoimaaGreatDoor.Ax
