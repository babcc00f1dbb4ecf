/- An evaluator for the model: part G. -/
import Derived.Test.YtnbnoacadhoimaaGreatDoorAxF
set_option linter.unusedSimpArgs false
set_option linter.unusedVariables false
set_option maxRecDepth 100000
set_option maxHeartbeats 8000000
namespace Go.Proofs.YtnbnoacadhoimaaGreatDoor.Ax
open Go Go.RowKit
set_option linter.unusedSimpArgs false
set_option linter.unusedVariables false
section
theorem fold_bit (X : Nat → Nat) : ∀ (es : List Edge) (s i : Nat), Nat.testBit (es.foldl (fun s e => bif Region.binds .any e then Nat.lor s (Nat.lor (Nat.pow 2 e.on) (X e.on)) else s) s) i = true →
    Nat.testBit s i = true ∨ ∃ e ∈ es, Region.binds .any e = true ∧ (i = e.on ∨ Nat.testBit (X e.on) i = true)
  | [], s, i, h => .inl h
  | e :: es, s, i, h => by
    rw [List.foldl_cons] at h
    rcases fold_bit X es _ i h with h1 | ⟨e', he, hb⟩
    · cases hb : Region.binds .any e with
      | false => rw [hb] at h1; exact .inl h1
      | true =>
        rw [hb] at h1
        have h2 : Nat.testBit (s ||| (2 ^ e.on ||| X e.on)) i = true := h1
        rw [Nat.testBit_or, Nat.testBit_or, Nat.testBit_two_pow] at h2
        simp only [Bool.or_eq_true, decide_eq_true_eq] at h2
        rcases h2 with h2 | h2 | h2
        · exact .inl h2
        · exact .inr ⟨e, by simp, hb, .inl h2.symm⟩
        · exact .inr ⟨e, by simp, hb, .inr h2⟩
    · exact .inr ⟨e', by simp [he], hb⟩
theorem ancs_pre : ∀ (l : List Oper) (acc : List Nat) (j : Nat), j < acc.length → (ancs l acc)[j]? = acc.reverse[j]?
  | [], acc, j, h => rfl
  | o :: l, acc, j, h => by
    show (ancs l (_ :: acc))[j]? = _
    rw [ancs_pre l _ j (by simp; omega), List.reverse_cons, List.getElem?_append_left (by simpa using h)]
theorem ancs_at : ∀ (l : List Oper) (acc : List Nat) (j : Nat) (o : Oper), l[j]? = some o → ∀ i, Nat.testBit ((ancs l acc).getD (acc.length + j) 0) i = true →
    ∃ e ∈ o.after.toList, Region.binds .any e = true ∧ (i = e.on ∨ (e.on < acc.length + j ∧ Nat.testBit ((ancs l acc).getD e.on 0) i = true))
  | [], acc, j, o, h, _, _ => by simp at h
  | q :: l, acc, 0, o, h, i, hi => by
    have : q = o := by simpa using h
    subst this
    have hA : (ancs (q :: l) acc)[acc.length]? = some (q.after.toList.foldl (fun s e => bif Region.binds .any e then Nat.lor s (Nat.lor (Nat.pow 2 e.on) (acc.reverse.getD e.on 0)) else s) 0) := by
      show (ancs l (_ :: acc))[acc.length]? = _
      rw [ancs_pre l _ _ (by simp), List.reverse_cons, List.getElem?_append_right (by simp)]
      simp
    rw [Nat.add_zero, List.getD_eq_getElem?_getD, hA, Option.getD_some] at hi
    rcases fold_bit (fun x => acc.reverse.getD x 0) _ _ _ hi with h2 | ⟨e, he, hb, h3⟩
    · simp at h2
    · refine ⟨e, he, hb, ?_⟩
      rcases h3 with h3 | h3
      · exact .inl h3
      · right
        have hlt : e.on < acc.length := by
          rcases Nat.lt_or_ge e.on acc.length with h | h
          · exact h
          · rw [List.getD_eq_getElem?_getD, List.getElem?_eq_none (by simpa using h)] at h3; simp at h3
        refine ⟨by omega, ?_⟩
        rw [List.getD_eq_getElem?_getD, ancs_pre _ acc e.on hlt, ← List.getD_eq_getElem?_getD]
        exact h3
  | q :: l, acc, j + 1, o, h, i, hi => by
    have h1 := ancs_at l ((q.after.toList.foldl (fun s e => bif Region.binds .any e then Nat.lor s (Nat.lor (Nat.pow 2 e.on) (acc.reverse.getD e.on 0)) else s) 0) :: acc) j o (by simpa using h) i
    have e : (q.after.toList.foldl (fun s e => bif Region.binds .any e then Nat.lor s (Nat.lor (Nat.pow 2 e.on) (acc.reverse.getD e.on 0)) else s) 0 :: acc).length + j = acc.length + (j + 1) := by simp; omega
    rw [e] at h1
    exact h1 hi
theorem okWith_at : ∀ (seen : List Fx) (a k : Nat) (f : Fx), (List.rec (motive := fun _ => Nat → Bool) (fun _ => true) (fun g _ ih k => bif Nat.testBit a k || !clash f g then ih (Nat.succ k) else false) seen k : Bool) = true →
    ∀ (i : Nat) (g : Fx), seen[i]? = some g → Nat.testBit a (k + i) = true ∨ clash f g = false
  | [], a, k, f, _, i, g, h => by simp at h
  | s :: seen, a, k, f, h, i, g, hg => by
    have h' : (bif Nat.testBit a k || !clash f s then (List.rec (motive := fun _ => Nat → Bool) (fun _ => true) (fun g _ ih k => bif Nat.testBit a k || !clash f g then ih (Nat.succ k) else false) seen (k + 1) : Bool) else false) = true := h
    cases hc : (Nat.testBit a k || !clash f s) with
    | false => rw [hc] at h'; cases h'
    | true =>
      rw [hc] at h'
      cases i with
      | zero =>
        have : s = g := by simpa using hg
        subst this
        simpa using hc
      | succ i =>
        have := okWith_at seen a (k + 1) f h' i g (by simpa using hg)
        rwa [show k + (i + 1) = k + 1 + i by omega]
theorem okPairs_at : ∀ (as_ : List Nat) (fs seen : List Fx), okPairs as_ fs seen = true → fs.length ≤ as_.length → ∀ (j : Nat) (f : Fx), fs[j]? = some f → ∀ (i : Nat) (g : Fx), (seen ++ fs)[i]? = some g → i < seen.length + j →
    Nat.testBit (as_.getD j 0) i = true ∨ clash f g = false
  | [], fs, seen, _, hl, j, f, hf, _, _, _, _ => by
    have : fs = [] := List.length_eq_zero_iff.1 (by simpa using hl)
    subst this
    simp at hf
  | x :: as_, [], seen, _, _, j, f, hf, _, _, _, _ => by simp at hf
  | x :: as_, q :: fs, seen, h, hl, j, f, hf, i, g, hg, hi => by
    have h' : (okWith x q seen && okPairs as_ fs (seen ++ [q])) = true := h
    simp only [Bool.and_eq_true] at h'
    cases j with
    | zero =>
      have : q = f := by simpa using hf
      subst this
      have hg' : seen[i]? = some g := by rwa [List.getElem?_append_left (by omega)] at hg
      have := okWith_at seen x 0 q h'.1 i g hg'
      simpa using this
    | succ j =>
      have := okPairs_at as_ fs (seen ++ [q]) h'.2 (by simpa using hl) j f (by simpa using hf) i g (by simpa using hg) (by simp; omega)
      simpa using this
theorem ancs_len : ∀ (l : List Oper) (acc : List Nat), (ancs l acc).length = acc.length + l.length
  | [], acc => by simp [ancs]
  | o :: l, acc => by
    show (ancs l (_ :: acc)).length = _
    rw [ancs_len l]
    simp only [List.length_cons]
    omega
variable {ops : Array Oper} {A : List Nat}
/-- What 'flow' says. -/
theorem flow_spec (h : flow ops A = true) :
    (∀ (j : Nat) (o : Oper), ops[j]? = some o → ∀ e ∈ o.after.toList, Region.binds .any e = true → e.on < j) ∧
    (∀ (i j : Nat) (o q : Oper) (d : Nat), ops[i]? = some o → ops[j]? = some q → o.dst = some d → i ≠ j → q.dst ≠ some d ∧
      ((d ∈ tmpsOf q ∨ ∃ g c, q.guard = some (g, c) ∧ dstOf ops g = some d) → Nat.testBit (A.getD j 0) i = true ∨ Nat.testBit (A.getD i 0) j = true)) := by
  have mem : ∀ {j : Nat} {o : Oper}, ops[j]? = some o → (o, j) ∈ ops.toList.zipIdx := fun {j o} ho => by
    rw [List.mem_zipIdx_iff_getElem?]
    simpa using ho
  unfold flow at h
  simp only [Bool.and_eq_true, List.all_eq_true] at h
  refine ⟨fun j o ho e he hb => ?_, fun i j o q d ho hq hd hij => ?_⟩
  · have := h.1 (o, j) (mem ho) e he
    rw [hb] at this
    simpa [blt_eq] using this
  · have h1 := h.2 (o, i) (mem ho)
    simp only [hd, List.all_eq_true] at h1
    have h2 := h1 (q, j) (mem hq)
    simp only [beqN_eq, decide_eq_false hij, Bool.false_or, Bool.and_eq_true, Bool.not_eq_true'] at h2
    refine ⟨fun hqd => ?_, fun hu => ?_⟩
    · rw [hqd] at h2
      simp at h2
    · have h3 := h2.2
      simp only [Bool.or_eq_true, Bool.not_eq_true', Bool.or_eq_false_iff] at h3
      rcases h3 with (h3 | h3) | h3
      · exfalso
        rcases hu with hu | ⟨g, c, hg, hgd⟩
        · have h4 := h3.1
          rw [List.any_eq_false] at h4
          exact h4 d hu (by simp)
        · have h4 := h3.2
          rw [hg] at h4
          simp only [hgd] at h4
          simp at h4
      · exact .inl h3
      · exact .inr h3
end
end Go.Proofs.YtnbnoacadhoimaaGreatDoor.Ax
