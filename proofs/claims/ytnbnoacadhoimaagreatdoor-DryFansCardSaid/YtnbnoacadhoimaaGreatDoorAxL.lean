/- An evaluator for the model: part L. -/
import Derived.Test.YtnbnoacadhoimaaGreatDoorAxI
set_option linter.unusedSimpArgs false
set_option linter.unusedVariables false
set_option maxRecDepth 100000
set_option maxHeartbeats 8000000
namespace Go.Proofs.YtnbnoacadhoimaaGreatDoor.Ax
open Go
/-! Calls that were seen once: their results stand for them. -/
def beqC : Cap → Cap → Bool
  | .k a, .k b => Nat.beq a b
  | .r a, .r b => Nat.beq a b
  | _, _ => false
theorem beqC_eq : ∀ a b, beqC a b = true → a = b := by
  intro a b h
  cases a <;> cases b <;> simp_all [beqC]
mutual
def beqA : AV → AV → Bool
  | .int k n, .int k' n' => decide (k = k') && decide (n = n')
  | .bool a, .bool b => decide (a = b)
  | .str a, .str b => decide (a = b)
  | .ptr a x, .ptr b y => Nat.beq a b && Nat.beq x y
  | .nilp, .nilp => true
  | .slc a x n c, .slc b y m d => Nat.beq a b && Nat.beq x y && Nat.beq n m && beqC c d
  | .nils, .nils => true
  | .agg a, .agg b => beqV a b
  | .tup a, .tup b => beqV a b
  | .fn f a, .fn g b => Nat.beq f g && beqV a b
  | .nilf, .nilf => true
  | .nili, .nili => true
  | .any, .any => true
  | _, _ => false
def beqV : List AV → List AV → Bool
  | [], [] => true
  | a :: l, b :: m => beqA a b && beqV l m
  | _, _ => false
end
mutual
theorem beqA_eq : ∀ a b, beqA a b = true → a = b
  | .int k n, b, h => by cases b <;> simp_all [beqA]
  | .bool a, b, h => by cases b <;> simp_all [beqA]
  | .str a, b, h => by cases b <;> simp_all [beqA]
  | .ptr a x, b, h => by cases b <;> simp_all [beqA]
  | .nilp, b, h => by cases b <;> simp_all [beqA]
  | .slc a x n c, b, h => by
    cases b <;> simp_all [beqA]
    exact beqC_eq _ _ h.2
  | .nils, b, h => by cases b <;> simp_all [beqA]
  | .agg a, b, h => by
    cases b <;> simp_all [beqA]
    exact beqV_eq _ _ h
  | .tup a, b, h => by
    cases b <;> simp_all [beqA]
    exact beqV_eq _ _ h
  | .fn f a, b, h => by
    cases b <;> simp_all [beqA]
    exact beqV_eq _ _ h.2
  | .nilf, b, h => by cases b <;> simp_all [beqA]
  | .nili, b, h => by cases b <;> simp_all [beqA]
  | .any, b, h => by cases b <;> simp_all [beqA]
theorem beqV_eq : ∀ a b, beqV a b = true → a = b
  | [], b, h => by cases b <;> simp_all [beqV]
  | a :: l, b, h => by
    cases b with
    | nil => simp [beqV] at h
    | cons b m =>
      simp only [beqV, Bool.and_eq_true] at h
      rw [beqA_eq _ _ h.1, beqV_eq _ _ h.2]
end
def beqB : Blk → Blk → Bool
  | .cells a, .cells b => beqV a b
  | .ro a, .ro b => beqV a b
  | .dead, .dead => true
  | _, _ => false
theorem beqB_eq (a b : Blk) (h : beqB a b = true) : a = b := by
  cases a <;> cases b <;> simp_all [beqB]
  · exact beqV_eq _ _ h
  · exact beqV_eq _ _ h
def beqO : Option Blk → Option Blk → Bool
  | none, none => true
  | some a, some b => beqB a b
  | _, _ => false
theorem beqO_eq (a b : Option Blk) (h : beqO a b = true) : a = b := by
  cases a <;> cases b <;> simp_all [beqO]
  exact beqB_eq _ _ h
def beqT : Tr Blk → Tr Blk → Bool
  | .lf, .lf => true
  | .nd v l r, .nd v' l' r' => beqO v v' && beqT l l' && beqT r r'
  | _, _ => false
theorem beqT_eq : ∀ a b, beqT a b = true → a = b := by
  intro a
  induction a with
  | lf => intro b h; cases b <;> simp_all [beqT]
  | nd v l r ihl ihr =>
    intro b h
    cases b with
    | lf => simp [beqT] at h
    | nd v' l' r' =>
      simp only [beqT, Bool.and_eq_true] at h
      rw [beqO_eq _ _ h.1.1, ihl _ h.1.2, ihr _ h.2]
def beqH (a b : Hp) : Bool := beqT a.h b.h && Nat.beq a.nx b.nx && Nat.beq a.wm b.wm
theorem beqH_eq (a b : Hp) (h : beqH a b = true) : a = b := by
  obtain ⟨a1, a2, a3⟩ := a
  obtain ⟨b1, b2, b3⟩ := b
  simp only [beqH, Bool.and_eq_true] at h
  rw [show a1 = b1 from beqT_eq _ _ h.1.1, show a2 = b2 by simpa using h.1.2, show a3 = b3 by simpa using h.2]

noncomputable def sets (t : Mem) : List (Nat × Blk) → Mem
  | [] => t
  | p :: l => sets (t.set p.1 p.2) l
theorem sets_get (l : List (Nat × Blk)) : ∀ (t : Mem) id b, (sets t l).get id = some b → (id, b) ∈ l ∨ t.get id = some b := by
  induction l with
  | nil => intro t id b h; exact Or.inr h
  | cons p l ih =>
    intro t id b h
    rcases ih _ _ _ h with k | k
    · exact Or.inl (List.mem_cons_of_mem _ k)
    · rw [Tr.get_set] at k
      by_cases e : id = p.1
      · rw [if_pos e] at k
        cases k; subst e; exact Or.inl (List.mem_cons_self ..)
      · rw [if_neg e] at k; exact Or.inr k
theorem sets_off (l : List (Nat × Blk)) : ∀ (t : Mem) id, (∀ p, p ∈ l → p.1 ≠ id) → (sets t l).get id = t.get id := by
  induction l with
  | nil => intro t id _; rfl
  | cons p l ih =>
    intro t id h
    rw [show sets t (p :: l) = sets (t.set p.1 p.2) l from rfl, ih _ _ (fun q hq => h q (List.mem_cons_of_mem _ hq)), Tr.get_set, if_neg (fun e => h p (List.mem_cons_self ..) e.symm)]
/-- What is kept of the memory behind a call: what was there, and some of what is new. -/
noncomputable def kept (h : Hp) (news : List (Nat × Blk)) (nx : Nat) : Hp := ⟨sets h.h news, nx, h.wm⟩
noncomputable def newsOk (lo : Nat) (h' : Hp) : List (Nat × Blk) → Bool
  | [] => true
  | p :: l => Nat.ble lo p.1 && Nat.blt p.1 h'.nx && beqO (h'.h.get p.1) (some p.2) && newsOk lo h' l
/-- A call gives this, and writes nothing old. -/
noncomputable def seen (h : Hp) (v : AV) (news : List (Nat × Blk)) (nx : Nat) : Ro → Bool
  | .val v' h' => beqA v' v && Nat.beq h'.nx nx && Nat.ble h.nx h'.wm && newsOk h.nx h' news
  | _ => false
theorem newsOk_spec {lo : Nat} {h' : Hp} : ∀ {l : List (Nat × Blk)}, newsOk lo h' l = true → ∀ p, p ∈ l → lo ≤ p.1 ∧ p.1 < h'.nx ∧ h'.h.get p.1 = some p.2
  | [], _, p, hp => by cases hp
  | q :: l, h, p, hp => by
    simp only [newsOk, Bool.and_eq_true] at h
    rcases List.mem_cons.1 hp with e | e
    · subst e
      exact ⟨by simpa using h.1.1.1, by simpa [Nat.blt_eq] using h.1.1.2, beqO_eq _ _ h.1.2⟩
    · exact newsOk_spec h.2 p e
section
variable {P : Program} {f : Nat} {args : List AV} {h h' : Hp} {v : AV}
theorem kept_ok (c : CallOk P f args h v h') (hw : h.nx ≤ h'.wm) {news : List (Nat × Blk)} (hn : ∀ p, p ∈ news → h.nx ≤ p.1 ∧ p.1 < h'.nx ∧ h'.h.get p.1 = some p.2) : CallOk P f args h v (kept h news h'.nx) := by
  have sub : Bd h → ∀ id b, (kept h news h'.nx).h.get id = some b → h'.h.get id = some b := by
    intro hB id b e
    rcases sets_get _ _ _ _ e with k | k
    · exact (hn _ k).2.2
    · have := hB id b k
      rw [c.keep id this (by omega)]; exact k
  refine ⟨c.nx, Nat.le_refl _, fun hB id b e => c.bd hB id b (sub hB id b e), fun id h1 _ => ?_, fun ι w vals h1 h2 h3 h4 => ?_⟩
  · exact sets_off _ _ _ (fun p hp e => by have := (hn p hp).1; omega)
  · have := c.run ι w vals h1 h2 h3 h4
    refine Gives.mono this fun vc w1 hP => ?_
    obtain ⟨ι', p1, p2, p3, p4⟩ := hP
    refine ⟨ι', ⟨p1.same, fun id l a b e => ?_⟩, p2, ?_, ⟨p4.os, p4.tape, p4.output, p4.size, fun B hB _ => p4.keep B hB (fun id l a b e => by omega)⟩⟩
    · rcases p1.new id l a b e with k | ⟨id0, l0, k1, k2, _⟩
      · exact Or.inl k
      · omega
    · exact p3.weaken (sub h4)
theorem seen_ok (hm : P.follows .mixedOrders = true) {hk : Hook} (hh : HookOk P hk) {m : Nat} {news : List (Nat × Blk)} {nx : Nat} (h100 : 100 ≤ h.nx) (hB : Bd h) (e : seen h v news nx (call P hk (ev P hk m) f args h) = true) : CallOk P f args h v (kept h news nx) := by
  generalize hr : call P hk (ev P hk m) f args h = r at e
  cases r with
  | bad => cases e
  | enter _ _ => cases e
  | val v' h' =>
    simp only [seen, Bool.and_eq_true] at e
    have e1 := beqA_eq _ _ e.1.1.1
    have e2 : h'.nx = nx := by simpa using e.1.1.2
    have e3 : h.nx ≤ h'.wm := by simpa using e.1.2
    subst e1; subst e2
    exact kept_ok (call_sound hm hh h100 hB hr) e3 (newsOk_spec e.2)
end
/-- A result that was seen, at just this state. -/
noncomputable def once (args : List AV) (h : Hp) (v : AV) (h' : Hp) (a : List AV) (k : Hp) : Ro := bif beqV a args && beqH k h then .val v h' else .bad
theorem once_ok {P : Program} {f : Nat} {args : List AV} {h h' : Hp} {v : AV} (c : CallOk P f args h v h') : ∀ a k u k', once args h v h' a k = .val u k' → CallOk P f a k u k' := by
  intro a k u k' e
  unfold once at e
  cases hc : (beqV a args && beqH k h) with
  | false => rw [hc] at e; cases e
  | true =>
    rw [hc] at e
    simp only [Bool.and_eq_true] at hc
    rw [beqV_eq _ _ hc.1, beqH_eq _ _ hc.2]
    have : Ro.val v h' = Ro.val u k' := e
    cases this
    exact c
end Go.Proofs.YtnbnoacadhoimaaGreatDoor.Ax
