/- An evaluator for the model: part R. -/
import Derived.Test.YtnbnoacadhoimaaGreatDoorAx
import Derived.Calls
import Derived.Orders
import Derived.Deep.AppendSrc
import Derived.Laws.CopyRow
import Derived.Laws.Sem
import Derived.Handy
set_option linter.unusedSimpArgs false
set_option linter.unusedVariables false
set_option maxRecDepth 100000
set_option maxHeartbeats 8000000
namespace Go.Proofs.YtnbnoacadhoimaaGreatDoor.Ax
open Go
set_option linter.unusedSimpArgs false
set_option linter.unusedVariables false
/-! Lists and trees. -/
section
variable {α : Type}
theorem lenL_eq (l : List α) : lenL l = l.length := by induction l with | nil => rfl | cons a l ih => exact congrArg Nat.succ ih
theorem nthL_eq (l : List α) : ∀ k, nthL l k = l[k]? := by
  induction l with
  | nil => intro k; simp; rfl
  | cons a l ih => intro k; cases k with
    | zero => rfl
    | succ k => rw [List.getElem?_cons_succ]; exact ih k
theorem mapL_eq {β : Type} (f : α → β) (l : List α) : mapL f l = l.map f := by induction l with | nil => rfl | cons a l ih => exact congrArg (f a :: ·) ih
theorem appL_eq (l m : List α) : appL l m = l ++ m := by induction l with | nil => rfl | cons a l ih => exact congrArg (a :: ·) ih
theorem dropL_eq (l : List α) : ∀ k, dropL l k = l.drop k := by
  induction l with
  | nil => intro k; simp; rfl
  | cons a l ih => intro k; cases k with
    | zero => rfl
    | succ k => rw [List.drop_succ_cons]; exact ih k
theorem takeL_eq (l : List α) : ∀ k, takeL l k = l.take k := by
  induction l with
  | nil => intro k; simp; rfl
  | cons a l ih => intro k; cases k with
    | zero => rfl
    | succ k => exact congrArg (a :: ·) (ih k)
theorem consO_eq {a : α} {o : Option (List α)} {r : List α} (h : consO a o = some r) : ∃ l, o = some l ∧ r = a :: l := by
  cases o with
  | none => cases h
  | some l => exact ⟨l, rfl, (Option.some.inj h).symm⟩
namespace Tr
theorem getP_setP (t : Tr α) (x : α) : ∀ p q, getP (setP t p x) q = if q = p then some x else getP t q := by
  have hl : ∀ (p q : List Bool), getP (sLf p x) q = if q = p then some x else none := by
    intro p
    induction p with
    | nil => intro q; cases q with
      | nil => rfl
      | cons b q => cases b <;> rfl
    | cons b p ih => intro q; cases q with
      | nil => cases b <;> rfl
      | cons c q =>
        cases b <;> cases c
        · simp only [List.cons.injEq, true_and]; exact ih q
        · simp; rfl
        · simp; rfl
        · simp only [List.cons.injEq, true_and]; exact ih q
  induction t with
  | lf => intro p q; exact hl p q
  | nd v l r il ir =>
    intro p q
    cases p with
    | nil => cases q with
      | nil => rfl
      | cons c q => simp; rfl
    | cons b p => cases q with
      | nil => cases b <;> simp <;> rfl
      | cons c q =>
        cases b <;> cases c
        · simp only [List.cons.injEq, true_and]; exact ir p q
        · simp; rfl
        · simp; rfl
        · simp only [List.cons.injEq, true_and]; exact il p q
theorem pth_inj : ∀ (f g a b : Nat), a ≤ f → b ≤ g → pthF f a = pthF g b → a = b := by
  intro f
  induction f with
  | zero =>
    intro g a b ha hb h
    have h0 : a = 0 := by omega
    subst h0
    cases g with
    | zero => omega
    | succ g =>
      by_cases hb0 : b = 0
      · omega
      · exfalso
        have : pthF (g + 1) b = Nat.beq (Nat.mod b 2) 1 :: pthF g (Nat.pred (Nat.div (Nat.succ b) 2)) := by
          show (bif Nat.beq b 0 then _ else _) = _
          have : Nat.beq b 0 = false := by cases b with
          | zero => exact absurd rfl hb0
          | succ n => rfl
          rw [this]; rfl
        rw [this] at h
        cases h
  | succ f ih =>
    intro g a b ha hb h
    have step : ∀ (k c : Nat), c ≠ 0 → pthF (k + 1) c = Nat.beq (Nat.mod c 2) 1 :: pthF k (Nat.pred (Nat.div (Nat.succ c) 2)) := by
      intro k c hc
      show (bif Nat.beq c 0 then _ else _) = _
      have : Nat.beq c 0 = false := by cases c with
        | zero => exact absurd rfl hc
        | succ n => rfl
      rw [this]; rfl
    have nil0 : ∀ (k : Nat), pthF k 0 = [] := by intro k; cases k <;> rfl
    by_cases ha0 : a = 0
    · subst ha0
      rw [nil0] at h
      by_cases hb0 : b = 0
      · omega
      · cases g with
        | zero => omega
        | succ g => rw [step g b hb0] at h; cases h
    · rw [step f a ha0] at h
      by_cases hb0 : b = 0
      · subst hb0; rw [nil0] at h; cases h
      · cases g with
        | zero => omega
        | succ g =>
          rw [step g b hb0] at h
          injection h with h1 h2
          have e1 : Nat.pred (Nat.div (Nat.succ a) 2) = (a + 1) / 2 - 1 := rfl
          have e2 : Nat.pred (Nat.div (Nat.succ b) 2) = (b + 1) / 2 - 1 := rfl
          rw [e1, e2] at h2
          have h3 := ih g _ _ (by omega) (by omega) h2
          have m1 : Nat.beq (a % 2) 1 = Nat.beq (b % 2) 1 := h1
          have : a % 2 = b % 2 := by
            rcases Nat.mod_two_eq_zero_or_one a with ha' | ha' <;> rcases Nat.mod_two_eq_zero_or_one b with hb' | hb' <;> rw [ha', hb'] at m1 <;> first | omega | (exfalso; revert m1; decide)
          omega
theorem get_set (t : Tr α) (k j : Nat) (x : α) : (t.set k x).get j = if j = k then some x else t.get j := by
  show getP (setP t (pth k) x) (pth j) = _
  rw [getP_setP]
  by_cases h : j = k
  · subst h; simp
  · rw [if_neg h, if_neg (show ¬ pth j = pth k from fun e => h (pth_inj j k j k (Nat.le_refl _) (Nat.le_refl _) e))]; rfl
theorem get_lf (k : Nat) : (Tr.lf : Tr α).get k = none := rfl
end Tr
end
theorem takeN_eq : ∀ (cs : List AV) (n : Nat) (r : List AV), takeN cs n = some r → n ≤ cs.length ∧ r = cs.take n := by
  intro cs
  induction cs with
  | nil => intro n r h; cases n with
    | zero => exact ⟨Nat.le_refl _, (Option.some.inj h).symm⟩
    | succ n => cases h
  | cons a l ih => intro n r h; cases n with
    | zero => exact ⟨by omega, (Option.some.inj h).symm⟩
    | succ n =>
      obtain ⟨m, hm, hr⟩ := consO_eq (show consO a (takeN l n) = some r from h)
      obtain ⟨h1, h2⟩ := ih n m hm
      exact ⟨by simpa using h1, by rw [hr, h2]; rfl⟩
theorem slab_eq {cs : List AV} {off n : Nat} {r : List AV} (h : slab cs off n = some r) : r.length = n ∧ ∀ j, j < n → r[j]? = cs[off + j]? := by
  obtain ⟨h1, h2⟩ := takeN_eq _ _ _ h
  rw [dropL_eq] at h1 h2
  subst h2
  refine ⟨by rw [List.length_take]; omega, fun j hj => ?_⟩
  rw [List.getElem?_take_of_lt hj, List.getElem?_drop]
theorem setAtL_eq : ∀ (cs : List AV) (off : Nat) (vs r : List AV), setAtL cs off vs = some r → r.length = cs.length ∧ (vs ≠ [] → off + vs.length ≤ cs.length) ∧ ∀ j, r[j]? = if off ≤ j ∧ j < off + vs.length then vs[j - off]? else cs[j]? := by
  intro cs
  induction cs with
  | nil => intro off vs r h; cases vs with
    | nil => have := (Option.some.inj h).symm; subst this; exact ⟨rfl, fun h => absurd rfl h, fun j => by simp⟩
    | cons v vs => cases h
  | cons c l ih =>
    intro off vs r h
    cases off with
    | zero => cases vs with
      | nil => have := (Option.some.inj h).symm; subst this; exact ⟨rfl, fun h => absurd rfl h, fun j => by rw [if_neg (by simp)]⟩
      | cons v vs =>
        obtain ⟨m, hm, hr⟩ := consO_eq (show consO v (setAtL l 0 vs) = some r from h)
        obtain ⟨h1, h2, h3⟩ := ih 0 vs m hm
        subst hr
        refine ⟨by simp [h1], fun _ => ?_, fun j => ?_⟩
        · cases vs with
          | nil => simp
          | cons w vs => have := h2 (by simp); simp at this ⊢; omega
        · cases j with
          | zero => simp
          | succ j => simpa using h3 j
    | succ off =>
      obtain ⟨m, hm, hr⟩ := consO_eq (show consO c (setAtL l off vs) = some r from h)
      obtain ⟨h1, h2, h3⟩ := ih off vs m hm
      subst hr
      refine ⟨by simp [h1], fun hv => by have := h2 hv; simp; omega, fun j => ?_⟩
      cases j with
      | zero => simp
      | succ j => have := h3 j; simp only [List.getElem?_cons_succ, this, List.length_cons]; congr 1; · apply propext; omega
                  · congr 1; omega
theorem rep_len (z : List AV) (n : Nat) : (rep z n).length = n * z.length := by
  induction n with
  | zero => rw [Nat.zero_mul]; rfl
  | succ n ih => show (appL z (rep z n)).length = _; rw [appL_eq, List.length_append, ih, Nat.succ_mul]; omega
end Go.Proofs.YtnbnoacadhoimaaGreatDoor.Ax
