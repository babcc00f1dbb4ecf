/- Plain facts on rows of digits to a base, the least significant one first: values, sums, differences, products, and which row is without zeros at the end. -/
import Derived.Test.YtnbnoacadhoimaaGreatDoorProg
import Derived.WalkKit
import Derived.IntWalk
import Derived.Lib.Hide
import Derived.Deep.QuietTactic
import Derived.BigQuiet
import Derived.Lib.SliceRun
import Derived.Deep.RegionHeld3
import Derived.Deep.Draws
import Derived.Laws.OwnMore
import Derived.Laws.MakeOwn
import Derived.Laws.Entries
import Derived.OwnWalk
import Derived.KernelRfl
import Derived.Handy
set_option linter.unusedSimpArgs false
set_option linter.unusedVariables false
set_option maxRecDepth 100000
set_option maxHeartbeats 8000000
namespace Go.Proofs.YtnbnoacadhoimaaGreatDoor.Pos

/-- The number that the digits stand for. -/
def nv (b : Nat) : List Nat → Nat
  | [] => 0
  | d :: l => d + b * nv b l

def Dig (b : Nat) (l : List Nat) : Prop := ∀ d ∈ l, d < b
/-- No zero at the end. -/
def Trim (l : List Nat) : Prop := l.getLast? ≠ some 0

section
variable {b : Nat}
theorem nv_append (l m : List Nat) : nv b (l ++ m) = nv b l + b ^ l.length * nv b m := by
  induction l with
  | nil => simp [nv]
  | cons d l ih => simp only [List.cons_append, nv, ih, List.length_cons, Nat.pow_succ, Nat.mul_add]; rw [← Nat.mul_assoc, Nat.mul_comm b (b ^ l.length)]; omega
theorem nv_one (d : Nat) : nv b [d] = d := by simp [nv]
theorem nv_snoc (l : List Nat) (d : Nat) : nv b (l ++ [d]) = nv b l + b ^ l.length * d := by rw [nv_append, nv_one]
theorem nv_zeros (n : Nat) : nv b (List.replicate n 0) = 0 := by
  induction n with
  | zero => rfl
  | succ n ih => simp [List.replicate_succ, nv, ih]
theorem nv_lt {l : List Nat} (h : Dig b l) : nv b l < b ^ l.length := by
  induction l with
  | nil => simp [nv]
  | cons d l ih =>
    have h1 := ih fun x hx => h x (List.mem_cons_of_mem _ hx)
    have h2 := h d List.mem_cons_self
    simp only [nv, List.length_cons, Nat.pow_succ]
    have h3 : b * (nv b l + 1) ≤ b * b ^ l.length := Nat.mul_le_mul_left _ h1
    rw [Nat.mul_add, Nat.mul_one] at h3
    rw [Nat.mul_comm (b ^ l.length)]
    omega
theorem nv_take_succ {l : List Nat} {i : Nat} (h : i < l.length) : nv b (l.take (i + 1)) = nv b (l.take i) + b ^ i * l[i] := by
  rw [List.take_succ_eq_append_getElem h, nv_snoc, List.length_take, Nat.min_eq_left (by omega)]
theorem nv_split (l : List Nat) (i : Nat) (h : i ≤ l.length) : nv b l = nv b (l.take i) + b ^ i * nv b (l.drop i) := by
  have := nv_append (b := b) (l.take i) (l.drop i)
  rw [List.take_append_drop, List.length_take, Nat.min_eq_left h] at this
  exact this
theorem Dig.take {l : List Nat} (h : Dig b l) (i : Nat) : Dig b (l.take i) := fun d hd => h d (List.mem_of_mem_take hd)
theorem Dig.drop {l : List Nat} (h : Dig b l) (i : Nat) : Dig b (l.drop i) := fun d hd => h d (List.mem_of_mem_drop hd)
theorem Dig.nil : Dig b [] := fun _ h => by cases h
theorem Dig.snoc {l : List Nat} (h : Dig b l) {d : Nat} (hd : d < b) : Dig b (l ++ [d]) := fun x hx => by
  rcases List.mem_append.1 hx with h1 | h1
  · exact h x h1
  · rw [List.mem_singleton] at h1; omega
theorem Dig.append {l m : List Nat} (h : Dig b l) (h' : Dig b m) : Dig b (l ++ m) := fun x hx => by
  rcases List.mem_append.1 hx with h1 | h1
  · exact h x h1
  · exact h' x h1
theorem Dig.at {l : List Nat} (h : Dig b l) {i : Nat} (hi : i < l.length) : l[i] < b := h _ (List.getElem_mem hi)
theorem Dig.set {l : List Nat} (h : Dig b l) (i : Nat) {d : Nat} (hd : d < b) : Dig b (l.set i d) := fun x hx => by
  rcases List.mem_or_eq_of_mem_set hx with h1 | h1
  · exact h x h1
  · omega
/-- One digit set anew. -/
theorem nv_set {l : List Nat} {i d : Nat} (h : i < l.length) : nv b (l.set i d) + b ^ i * l[i] = nv b l + b ^ i * d := by
  induction l generalizing i with
  | nil => simp at h
  | cons x l ih =>
    cases i with
    | zero => simp only [List.set_cons_zero, nv, Nat.pow_zero, Nat.one_mul, List.getElem_cons_zero]; omega
    | succ i =>
      have := ih (i := i) (by simpa using h)
      simp only [List.set_cons_succ, nv, List.getElem_cons_succ, Nat.pow_succ]
      have e := congrArg (b * ·) this
      simp only [Nat.mul_add] at e
      rw [Nat.mul_comm (b ^ i) b, Nat.mul_assoc, Nat.mul_assoc]
      omega

theorem Trim.nil : Trim [] := by simp [Trim]
theorem trim_snoc {l : List Nat} {d : Nat} (h : d ≠ 0) : Trim (l ++ [d]) := by simp [Trim, h]
theorem Trim.last {l : List Nat} (h : Trim l) (hl : 0 < l.length) : l[l.length - 1] ≠ 0 := by
  intro hc; apply h
  rw [List.getLast?_eq_getElem?, List.getElem?_eq_getElem (by omega), hc]
theorem Trim.of_last {l : List Nat} (h : ∀ hl : 0 < l.length, l[l.length - 1] ≠ 0) : Trim l := by
  intro hc
  rw [List.getLast?_eq_getElem?] at hc
  by_cases hl : 0 < l.length
  · rw [List.getElem?_eq_getElem (by omega)] at hc; exact h hl (by simpa using hc)
  · rw [List.getElem?_eq_none (by omega)] at hc; cases hc
/-- A row without zeros at the end has at least the value of its last place. -/
theorem nv_ge {l : List Nat} (h : Trim l) (hl : 0 < l.length) : b ^ (l.length - 1) ≤ nv b l := by
  have h1 := h.last hl
  rw [nv_split l (l.length - 1) (by omega), List.drop_eq_getElem_cons (by omega)]
  simp only [nv]
  rw [Nat.mul_add]
  have := Nat.le_mul_of_pos_right (b ^ (l.length - 1)) (show 0 < l[l.length - 1] by omega)
  omega
theorem nv_pos {l : List Nat} (hb : 0 < b) (h : Trim l) (hl : 0 < l.length) : 0 < nv b l := by
  have := nv_ge (b := b) h hl
  have := Nat.pow_pos (n := l.length - 1) hb
  omega
theorem nv_eq_zero {l : List Nat} (hb : 0 < b) (h : Trim l) (h0 : nv b l = 0) : l = [] := by
  cases l with
  | nil => rfl
  | cons d l => have := nv_pos hb h (by simp); omega
/-- A longer row without zeros at the end is greater. -/
theorem nv_lt_of_len {l m : List Nat} (hb : 0 < b) (hd : Dig b l) (hm : Trim m) (h : l.length < m.length) : nv b l < nv b m := by
  have h1 := nv_lt hd
  have h2 := nv_ge (b := b) hm (by omega)
  have h3 : b ^ l.length ≤ b ^ (m.length - 1) := Nat.pow_le_pow_right hb (by omega)
  omega
/-- The first difference from above decides. -/
theorem nv_lt_of_top {l m : List Nat} (hd : Dig b l) (h : l.length = m.length) (i : Nat) (hi : i < l.length) (he : l.drop (i + 1) = m.drop (i + 1)) (hlt : l[i] < m[i]'(by omega)) : nv b l < nv b m := by
  rw [nv_split l (i + 1) (by omega), nv_split m (i + 1) (by omega), he, nv_take_succ hi, nv_take_succ (by omega)]
  have h1 := nv_lt (hd.take i)
  rw [List.length_take, Nat.min_eq_left (by omega)] at h1
  have h2 : b ^ i * (l[i] + 1) ≤ b ^ i * m[i] := Nat.mul_le_mul_left _ hlt
  rw [Nat.mul_add, Nat.mul_one] at h2
  omega
theorem nv_inj {l m : List Nat} (hl : Dig b l) (hm : Dig b m) (h : l.length = m.length) (hv : nv b l = nv b m) : l = m := by
  induction l generalizing m with
  | nil => cases m with
    | nil => rfl
    | cons _ _ => simp at h
  | cons d l ih =>
    cases m with
    | nil => simp at h
    | cons e m =>
      simp only [nv] at hv
      have h1 := hl d List.mem_cons_self
      have h2 := hm e List.mem_cons_self
      have e1 : (d + b * nv b l) % b = (e + b * nv b m) % b := by rw [hv]
      rw [Nat.add_mul_mod_self_left, Nat.add_mul_mod_self_left, Nat.mod_eq_of_lt h1, Nat.mod_eq_of_lt h2] at e1
      subst e1
      have : nv b l = nv b m := Nat.eq_of_mul_eq_mul_left (show 0 < b by omega) (by omega)
      rw [ih (fun x hx => hl x (List.mem_cons_of_mem _ hx)) (fun x hx => hm x (List.mem_cons_of_mem _ hx)) (by simpa using h) this]
/-- A number has one row without zeros at the end. -/
theorem nv_trim_inj {l m : List Nat} (hb : 0 < b) (hl : Dig b l) (hm : Dig b m) (tl : Trim l) (tm : Trim m) (hv : nv b l = nv b m) : l = m := by
  refine nv_inj hl hm ?_ hv
  rcases Nat.lt_trichotomy l.length m.length with h | h | h
  · have := nv_lt_of_len hb hl tm h; omega
  · exact h
  · have := nv_lt_of_len hb hm tl h; omega
end
end Go.Proofs.YtnbnoacadhoimaaGreatDoor.Pos
namespace Go.Proofs.YtnbnoacadhoimaaGreatDoor
open Go Go.RowKit

theorem qh {p : Prop} (h : p) : Hid p := Lib.hid h
theorem below_drewN {B : Nat} {a w : World} (h : Below B a w) (n : Nat) : Below B a (w.drewN n) := ⟨h.os, h.tape, h.output, h.size, h.block⟩
theorem below_step {a b c : World} (h : Below a.heap.size a b) (k : Below b.heap.size b c) : Below a.heap.size a c := h.trans (k.mono h.size)
theorem below_alloc {a b : World} (h : Below a.heap.size a b) (o : Obj) : Below a.heap.size a (b.alloc o) := h.alloc h.size o
theorem bR {n : Nat} {w : World} : Below n w w := Below.refl _ _
theorem bA {a b : World} {o : Obj} (h : Below a.heap.size a b) : Below a.heap.size a (b.alloc o) := below_alloc h o
theorem bD {n : Nat} {a b : World} (h : Below n a b) : Below n a b.drew := h.drew
theorem bN {n k : Nat} {a b : World} (h : Below n a b) : Below n a (b.drewN k) := below_drewN h k
theorem bC {n : Nat} {a b : World} {p : Addr} {u : Value} (h : Below n a b) (hp : n ≤ p.block) : Below n a (b.setCell p u) := h.setCell hp u
theorem bS {a b c : World} (h : Below a.heap.size a b) (k : Below b.heap.size b c) : Below a.heap.size a c := below_step h k
/-- What lies below the end of a is in b as it was, step by step. -/
inductive Bw (a : World) : World → Prop
  | r : Bw a a
  | A {b : World} {o : Obj} (h : Bw a b) : Bw a (b.alloc o)
  | D {b : World} (h : Bw a b) : Bw a b.drew
  | N {b : World} {k : Nat} (h : Bw a b) : Bw a (b.drewN k)
  | C {b : World} {p : Addr} {u : Value} (hp : a.heap.size ≤ p.block) (h : Bw a b) : Bw a (b.setCell p u)
  | S {b c : World} (k : Below b.heap.size b c) (h : Bw a b) : Bw a c
theorem bq {a b : World} (h : Bw a b) : Below a.heap.size a b := by
  induction h with
  | r => exact bR
  | A _ h => exact bA h
  | D _ h => exact bD h
  | N _ h => exact bN h
  | C hp _ h => exact bC h hp
  | S k _ h => exact bS h k
theorem bq0 {a : World} : Below a.heap.size a a.drew := bD bR
theorem bst {a b c : World} (h : Below a.heap.size a b) (k : Below b.heap.size b c) : Below a.heap.size a c := below_step h k
theorem szl {a c : World} {k : Nat} (h : Below a.heap.size a c) (hk : k < a.heap.size) : k < c.heap.size := Nat.lt_of_lt_of_le hk h.size
theorem cell_on {W w1 : World} (hb : Below W.heap.size W w1) {p : Addr} {v : Value} (h : W.cell? p = some v) : w1.cell? p = some v := by
  rw [hb.cell (World.block_lt_of_cell? W p h)]; exact h
theorem bcell {W w1 : World} (hb : Below W.heap.size W w1) : (∀ b o, b < W.heap.size → w1.cell? ⟨b, o, none⟩ = W.cell? ⟨b, o, none⟩) ∧ (∀ b o, b < W.heap.size → w1.frozen? ⟨b, o, none⟩ = W.frozen? ⟨b, o, none⟩) :=
  ⟨fun b o h => hb.cell (p := ⟨b, o, none⟩) h, fun b o h => hb.frozen (p := ⟨b, o, none⟩) h⟩
/-- What lies below W's end is in w1 as it was: for instances. -/
class Bx (W : outParam World) (w1 : World) : Prop where p : Below W.heap.size W w1
class Sx (n m : Nat) : Prop where p : n ≤ m
class Bz (a b : World) : Prop where p : Below a.heap.size a b
instance szs {n m : Nat} [h : Sx n m] : Sx n (m + 1) := ⟨Nat.le_succ_of_le h.p⟩
instance szb {a b : World} [h : Bz a b] : Sx a.heap.size b.heap.size := ⟨h.p.size⟩
instance bzs {a b c : World} [k : Bx b c] [h : Bz a b] : Bz a c := ⟨bS h.p k.p⟩
instance bzc {a b : World} {g o : Nat} {q : Option Nat} {u : Value} [hp : Sx a.heap.size g] [h : Bz a b] : Bz a (b.setCell ⟨g, o, q⟩ u) := ⟨bC h.p hp.p⟩
instance bza {a b : World} {o : Obj} [h : Bz a b] : Bz a (b.alloc o) := ⟨bA h.p⟩
instance bzn {a b : World} {k : Nat} [h : Bz a b] : Bz a (b.drewN k) := ⟨bN h.p⟩
instance bzd {a b : World} [h : Bz a b] : Bz a b.drew := ⟨bD h.p⟩
instance bzr {a : World} : Bz a a := ⟨bR⟩
theorem bm {W w1 : World} (h : Below W.heap.size W w1) : Bx W w1 := ⟨h⟩
theorem bi {a b : World} [h : Bz a b] : Below a.heap.size a b := h.p
/-- V is W without its last draws. -/
class Ux (W : World) (V : outParam World) : Prop where p : W.heap.size = V.heap.size ∧ (∀ a, W.cell? a = V.cell? a) ∧ ∀ a, W.frozen? a = V.frozen? a
instance (priority := 100) udr {W : World} : Ux W W := ⟨rfl, fun _ => rfl, fun _ => rfl⟩
instance udd {W V : World} [h : Ux W V] : Ux W.drew V := ⟨h.p.1, h.p.2.1, h.p.2.2⟩
theorem bcu {W V w1 : World} [u : Ux W V] (hb : Below W.heap.size W w1) : (∀ b o, b < V.heap.size → w1.cell? ⟨b, o, none⟩ = V.cell? ⟨b, o, none⟩) ∧ (∀ b o, b < V.heap.size → w1.frozen? ⟨b, o, none⟩ = V.frozen? ⟨b, o, none⟩) :=
  ⟨fun b o h => (hb.cell (p := ⟨b, o, none⟩) (by rw [u.p.1]; exact h)).trans (u.p.2.1 _), fun b o h => (hb.frozen (p := ⟨b, o, none⟩) (by rw [u.p.1]; exact h)).trans (u.p.2.2 _)⟩
theorem bc0 {W V w1 : World} [Ux W V] (hb : Below W.heap.size W w1) : (∀ b o, b < V.heap.size → w1.cell? ⟨b, o, none⟩ = V.cell? ⟨b, o, none⟩) ∧ (∀ b o, b < V.heap.size → w1.frozen? ⟨b, o, none⟩ = V.frozen? ⟨b, o, none⟩) ∧ Bx W w1 := ⟨(bcu hb).1, (bcu hb).2, ⟨hb⟩⟩
theorem bc1 (w : World) {W V w1 : World} [Ux W V] (hb : Below W.heap.size W w1) (h : w.heap.size < W.heap.size) : (∀ b o, b < V.heap.size → w1.cell? ⟨b, o, none⟩ = V.cell? ⟨b, o, none⟩) ∧ (∀ b o, b < V.heap.size → w1.frozen? ⟨b, o, none⟩ = V.frozen? ⟨b, o, none⟩) ∧ w.heap.size < w1.heap.size ∧ Bx W w1 := ⟨(bcu hb).1, (bcu hb).2, by have e := hb.size; omega, ⟨hb⟩⟩
theorem bc2 (w : World) {W V w1 : World} [Ux W V] (hb : Below W.heap.size W w1) (h : w.heap.size + 1 < W.heap.size) : (∀ b o, b < V.heap.size → w1.cell? ⟨b, o, none⟩ = V.cell? ⟨b, o, none⟩) ∧ (∀ b o, b < V.heap.size → w1.frozen? ⟨b, o, none⟩ = V.frozen? ⟨b, o, none⟩) ∧ w.heap.size < w1.heap.size ∧ w.heap.size + 1 < w1.heap.size ∧ Bx W w1 := ⟨(bcu hb).1, (bcu hb).2, by have e := hb.size; omega, by have e := hb.size; omega, ⟨hb⟩⟩
theorem bc3 (w : World) {W V w1 : World} [Ux W V] (hb : Below W.heap.size W w1) (h : w.heap.size + 1 + 1 < W.heap.size) : (∀ b o, b < V.heap.size → w1.cell? ⟨b, o, none⟩ = V.cell? ⟨b, o, none⟩) ∧ (∀ b o, b < V.heap.size → w1.frozen? ⟨b, o, none⟩ = V.frozen? ⟨b, o, none⟩) ∧ w.heap.size < w1.heap.size ∧ w.heap.size + 1 < w1.heap.size ∧ w.heap.size + 1 + 1 < w1.heap.size ∧ Bx W w1 := ⟨(bcu hb).1, (bcu hb).2, by have e := hb.size; omega, by have e := hb.size; omega, by have e := hb.size; omega, ⟨hb⟩⟩
theorem bc4 (w : World) {W V w1 : World} [Ux W V] (hb : Below W.heap.size W w1) (h : w.heap.size + 1 + 1 + 1 < W.heap.size) : (∀ b o, b < V.heap.size → w1.cell? ⟨b, o, none⟩ = V.cell? ⟨b, o, none⟩) ∧ (∀ b o, b < V.heap.size → w1.frozen? ⟨b, o, none⟩ = V.frozen? ⟨b, o, none⟩) ∧ w.heap.size < w1.heap.size ∧ w.heap.size + 1 < w1.heap.size ∧ w.heap.size + 1 + 1 < w1.heap.size ∧ w.heap.size + 1 + 1 + 1 < w1.heap.size ∧ Bx W w1 := ⟨(bcu hb).1, (bcu hb).2, by have e := hb.size; omega, by have e := hb.size; omega, by have e := hb.size; omega, by have e := hb.size; omega, ⟨hb⟩⟩
section
variable {P : Program} {f : FuncId} {args : Array Value} {W V : World} {R : Ending → World → Prop}
theorem mz {v : Value} (C : Calls P f args W fun e w' => e = .returned v ∧ Below W.heap.size W w') (k : ∀ w1, Below W.heap.size W w1 → Bx W w1 → R (.returned v) w1) : Calls P f args W R :=
  C.mono fun e w1 ⟨he, hb⟩ => by
    subst he
    exact k w1 hb ⟨hb⟩
theorem mo0 [Ux W V] {v : Value} (C : Calls P f args W fun e w' => e = .returned v ∧ Below W.heap.size W w') (k : ∀ w1, Below W.heap.size W w1 → (∀ b o, b < V.heap.size → w1.cell? ⟨b, o, none⟩ = V.cell? ⟨b, o, none⟩) → (∀ b o, b < V.heap.size → w1.frozen? ⟨b, o, none⟩ = V.frozen? ⟨b, o, none⟩) → Bx W w1 → R (.returned v) w1) : Calls P f args W R :=
  C.mono fun e w1 ⟨he, hb⟩ => by
    subst he
    exact k w1 hb (bcu hb).1 (bcu hb).2 ⟨hb⟩
theorem mo1 (w : World) [Ux W V] {v : Value} (C : Calls P f args W fun e w' => e = .returned v ∧ Below W.heap.size W w') (h : w.heap.size < W.heap.size) (k : ∀ w1, Below W.heap.size W w1 → (∀ b o, b < V.heap.size → w1.cell? ⟨b, o, none⟩ = V.cell? ⟨b, o, none⟩) → (∀ b o, b < V.heap.size → w1.frozen? ⟨b, o, none⟩ = V.frozen? ⟨b, o, none⟩) → w.heap.size < w1.heap.size → Bx W w1 → R (.returned v) w1) : Calls P f args W R :=
  C.mono fun e w1 ⟨he, hb⟩ => by
    subst he
    exact k w1 hb (bcu hb).1 (bcu hb).2 (by have e := hb.size; omega) ⟨hb⟩
theorem mo2 (w : World) [Ux W V] {v : Value} (C : Calls P f args W fun e w' => e = .returned v ∧ Below W.heap.size W w') (h : w.heap.size + 1 < W.heap.size) (k : ∀ w1, Below W.heap.size W w1 → (∀ b o, b < V.heap.size → w1.cell? ⟨b, o, none⟩ = V.cell? ⟨b, o, none⟩) → (∀ b o, b < V.heap.size → w1.frozen? ⟨b, o, none⟩ = V.frozen? ⟨b, o, none⟩) → w.heap.size < w1.heap.size → w.heap.size + 1 < w1.heap.size → Bx W w1 → R (.returned v) w1) : Calls P f args W R :=
  C.mono fun e w1 ⟨he, hb⟩ => by
    subst he
    exact k w1 hb (bcu hb).1 (bcu hb).2 (by have e := hb.size; omega) (by have e := hb.size; omega) ⟨hb⟩
theorem mo3 (w : World) [Ux W V] {v : Value} (C : Calls P f args W fun e w' => e = .returned v ∧ Below W.heap.size W w') (h : w.heap.size + 1 + 1 < W.heap.size) (k : ∀ w1, Below W.heap.size W w1 → (∀ b o, b < V.heap.size → w1.cell? ⟨b, o, none⟩ = V.cell? ⟨b, o, none⟩) → (∀ b o, b < V.heap.size → w1.frozen? ⟨b, o, none⟩ = V.frozen? ⟨b, o, none⟩) → w.heap.size < w1.heap.size → w.heap.size + 1 < w1.heap.size → w.heap.size + 1 + 1 < w1.heap.size → Bx W w1 → R (.returned v) w1) : Calls P f args W R :=
  C.mono fun e w1 ⟨he, hb⟩ => by
    subst he
    exact k w1 hb (bcu hb).1 (bcu hb).2 (by have e := hb.size; omega) (by have e := hb.size; omega) (by have e := hb.size; omega) ⟨hb⟩
theorem mo4 (w : World) [Ux W V] {v : Value} (C : Calls P f args W fun e w' => e = .returned v ∧ Below W.heap.size W w') (h : w.heap.size + 1 + 1 + 1 < W.heap.size) (k : ∀ w1, Below W.heap.size W w1 → (∀ b o, b < V.heap.size → w1.cell? ⟨b, o, none⟩ = V.cell? ⟨b, o, none⟩) → (∀ b o, b < V.heap.size → w1.frozen? ⟨b, o, none⟩ = V.frozen? ⟨b, o, none⟩) → w.heap.size < w1.heap.size → w.heap.size + 1 < w1.heap.size → w.heap.size + 1 + 1 < w1.heap.size → w.heap.size + 1 + 1 + 1 < w1.heap.size → Bx W w1 → R (.returned v) w1) : Calls P f args W R :=
  C.mono fun e w1 ⟨he, hb⟩ => by
    subst he
    exact k w1 hb (bcu hb).1 (bcu hb).2 (by have e := hb.size; omega) (by have e := hb.size; omega) (by have e := hb.size; omega) (by have e := hb.size; omega) ⟨hb⟩
end
theorem nl {a b : Nat} (h : a < b) : a ≠ b := Nat.ne_of_lt h
theorem nls {a b : Nat} (h : a < b) : a < Nat.succ b := Nat.lt_succ_of_lt h
theorem dw {w : World} : w.drew.heap.size = w.heap.size ∧ (∀ a, w.drew.cell? a = w.cell? a) ∧ ∀ a, w.drew.frozen? a = w.frozen? a := ⟨rfl, fun _ => rfl, fun _ => rfl⟩
theorem ret_int {k : IntKind} {a b : Int} (h : a = b) : Ending.returned (.int k a) = .returned (.int k b) := by rw [h]

/-- A block that is just these cells, none of them frozen. -/
def Blk (w : World) (g : Nat) (t : TypeId) (cs : Array Value) : Prop := w.heap[g]? = some (.cells cs t (0, 0))
section
variable {w w' : World} {g : Nat} {t : TypeId} {cs : Array Value}
theorem Blk.lt (h : Blk w g t cs) : g < w.heap.size := by
  rcases Nat.lt_or_ge g w.heap.size with hlt | hge
  · exact hlt
  · unfold Blk at h; rw [Array.getElem?_eq_none hge] at h; cases h
theorem Blk.cell (h : Blk w g t cs) (i : Nat) : w.cell? ⟨g, i, none⟩ = cs[i]? := cell_of_row w g i cs t (0, 0) h
theorem Blk.frozen (h : Blk w g t cs) (i : Nat) : w.frozen? ⟨g, i, none⟩ = false := by
  unfold Blk at h
  simp [World.frozen?, h]
theorem Blk.new (w : World) (t : TypeId) (cs : Array Value) : Blk (w.alloc (.cells cs t)) w.heap.size t cs := heap_alloc_new w _
theorem Blk.drewN (h : Blk w g t cs) (n : Nat) : Blk (w.drewN n) g t cs := h
theorem Blk.alloc (h : Blk w g t cs) (o : Obj) : Blk (w.alloc o) g t cs := (Below.heap_alloc w o g h.lt).trans h
theorem Blk.set_ (h : Blk w g t cs) (i : Nat) (u : Value) : Blk (w.setCell ⟨g, i, none⟩ u) g t (cs.setIfInBounds i u) := by
  unfold Blk at h ⊢
  simp [World.setCell, Array.getElem?_modify, h]
theorem Blk.far (h : Blk w g t cs) {p : Addr} (hp : g ≠ p.block) (u : Value) : Blk (w.setCell p u) g t cs := (Below.heap_setCell w p u g hp).trans h
theorem Blk.below (h : Blk w g t cs) (hb : Below w.heap.size w w') : Blk w' g t cs := (hb.block g h.lt).trans h
end

/-- The base of the words. -/
def B64 : Nat := 18446744073709551616
theorem B64_eq : B64 = 18446744073709551616 := rfl
theorem B64_pos : 0 < B64 := by rw [B64_eq]; omega

/-- A digit, 0 beyond the row. -/
def dg (ds : List Nat) (j : Nat) : Nat := ds.getD j 0

/-- A slice of words that reads as a row of digits. -/
structure Wd (w : World) (A : Option Addr) (n : Nat) (ds : List Nat) : Prop where
  len : ds.length = n
  dig : Pos.Dig B64 ds
  big : n < 1099511627776
  at_ : 0 < n → ∃ b o, A = some ⟨b, o, none⟩ ∧ b < w.heap.size ∧ ∀ j, j < n → w.cell? ⟨b, o + j, none⟩ = some (.int .u64 ((dg ds j : Nat) : Int))
section
variable {w w' : World} {A : Option Addr} {n : Nat} {ds : List Nat}
theorem Wd.below (h : Wd w A n ds) (hb : Below w.heap.size w w') : Wd w' A n ds :=
  ⟨h.len, h.dig, h.big, fun hn => by
    obtain ⟨b, o, e, hl, hc⟩ := h.at_ hn
    exact ⟨b, o, e, Nat.lt_of_lt_of_le hl hb.size, fun j hj => (hb.cell (p := ⟨b, o + j, none⟩) hl).trans (hc j hj)⟩⟩
theorem Wd.nil (w : World) (A : Option Addr) : Wd w A 0 [] := ⟨rfl, Pos.Dig.nil, by omega, fun h => absurd h (by omega)⟩
theorem Wd.take (h : Wd w A n ds) {k : Nat} (hk : k ≤ n) : Wd w A k (ds.take k) :=
  ⟨by rw [List.length_take, h.len]; omega, h.dig.take k, by have := h.big; omega, fun h0 => by
    obtain ⟨b, o, e, hl, hc⟩ := h.at_ (by omega)
    refine ⟨b, o, e, hl, fun j hj => ?_⟩
    rw [show dg (ds.take k) j = dg ds j by simp [dg, List.getD_eq_getElem?_getD, List.getElem?_take, hj]]
    exact hc j (by omega)⟩
theorem Wd.of_blk {g t : Nat} {cs : Array Value} (h : Blk w g t cs) (hcs : cs = (ds.map fun d : Nat => Value.int .u64 (d : Int)).toArray) (hn : ds.length = n) (hb : n < 1099511627776) (hd : Pos.Dig B64 ds) : Wd w (some ⟨g, 0, none⟩) n ds :=
  ⟨hn, hd, hb, fun _ => ⟨g, 0, rfl, h.lt, fun j hj => by
    have hj' : j < ds.length := by omega
    rw [h.cell, hcs, Nat.zero_add]; simp [hj', dg]⟩⟩
end
theorem gd {ds : List Nat} {j : Nat} (h : j < ds.length) : dg ds j = ds[j] := by simp [dg, List.getD_eq_getElem?_getD, h]
theorem dig_u64 {ds : List Nat} (h : Pos.Dig B64 ds) (j : Nat) : dg ds j < 18446744073709551616 := by
  rcases Nat.lt_or_ge j ds.length with hj | hj
  · rw [gd hj]; exact h.at hj
  · simp [dg, List.getD_eq_getElem?_getD, hj]

/-- The first words of a row of m words; the others are 0. -/
def zrow (zs : List Nat) (m : Nat) : Array Value := ((zs.map fun d : Nat => Value.int .u64 (d : Int)) ++ List.replicate (m - zs.length) (Value.int .u64 0)).toArray
theorem zrow_size {zs : List Nat} {m : Nat} (h : zs.length ≤ m) : (zrow zs m).size = m := by simp [zrow]; omega
theorem zrow_full (zs : List Nat) : zrow zs zs.length = (zs.map fun d : Nat => Value.int .u64 (d : Int)).toArray := by simp [zrow]
theorem zrow_put (zs : List Nat) (m d : Nat) (h : zs.length < m) : (zrow zs m).setIfInBounds zs.length (.int .u64 (d : Int)) = zrow (zs ++ [d]) m := by
  obtain ⟨k, hk⟩ : ∃ k, m - zs.length = k + 1 := ⟨m - zs.length - 1, by omega⟩
  have hk' : m - (zs ++ [d]).length = k := by simp; omega
  unfold zrow
  rw [hk, hk', List.setIfInBounds_toArray]
  congr 1
  rw [List.set_append_right _ _ (by simp)]
  simp [List.replicate_succ]
theorem zrow_at {zs : List Nat} {m j : Nat} (h : j < zs.length) : (zrow zs m)[j]? = some (.int .u64 ((dg zs j : Nat) : Int)) := by
  simp [zrow, List.getElem?_append, h, dg]
theorem zrow_beyond {zs : List Nat} {m j : Nat} (h : zs.length ≤ j) (hm : j < m) : (zrow zs m)[j]? = some (.int .u64 0) := by
  simp [zrow, List.getElem?_append, List.getElem?_replicate]
  rw [if_neg (by omega), if_pos (by omega)]
theorem info_u64 : (Tryz.prog.info? 208).map (fun i => (i.zero, i.size, i.bytes)) = some (some (.int .u64 0), 1, 8) := by kernel_rfl
theorem madeCells_u64 (l : Nat) : madeCells #[Value.int .u64 0] (l * 1) = zrow [] l := by
  apply Array.ext
  · simp [madeCells, zrow]
  · intro i h1 h2
    simp [madeCells, zrow, Nat.mod_one]
theorem make_u64 (l : Nat) (hl : l < 1099511627776) (W : World) :
    (Instr.makeSlice 118 (.int .i64 (l : Int)) (.int .i64 (l : Int))).run Tryz.prog W = .ok (.slice (some ⟨W.heap.size, 0, none⟩) l l) (W.alloc (.cells (zrow [] l) 208)) := by
  obtain ⟨i0, hi, hz0, hz1, hz2⟩ := info_parts info_u64
  have hr := run_make (P := Tryz.prog) W 118 208 i0 (.int .u64 0) Tryz.underlying118 hi hz0 .i64 .i64 (l : Int) (l : Int) (by omega) (by omega) (by rw [hz2]; omega) (by omega)
  simp only [Int.toNat_natCast, hz1] at hr
  rw [hr, show (Value.int IntKind.u64 0).cells = #[Value.int .u64 0] from rfl, madeCells_u64]

theorem eql_nil (w : World) (a : Option Addr) (n c : Nat) : (binOp .eql 118 (.slice a n c) (.slice none 0 0)).run Tryz.prog w = .ok (.bool a.isNone) w :=
  Lib.run_eql_slice_nil w _ _ a n c 0 0 Tryz.underlying118

def sgn (z : Int) : Int := if z < 0 then -1 else if 0 < z then 1 else 0
end Go.Proofs.YtnbnoacadhoimaaGreatDoor
