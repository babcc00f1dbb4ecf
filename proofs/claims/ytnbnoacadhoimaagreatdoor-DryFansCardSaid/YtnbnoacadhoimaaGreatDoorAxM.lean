/- An evaluator for the model: part M. -/
import Derived.Test.YtnbnoacadhoimaaGreatDoorAxV
import Derived.Below
set_option linter.unusedSimpArgs false
set_option linter.unusedVariables false
set_option maxRecDepth 100000
set_option maxHeartbeats 8000000
namespace Go.Proofs.YtnbnoacadhoimaaGreatDoor.Ax
open Go Go.RowKit
set_option linter.unusedSimpArgs false
set_option linter.unusedVariables false

/-- The answer of an operation. -/
def Gives (P : Program) (r : Result Next) (K : Value → World → Prop) : Prop :=
  match r with
  | .ok (.value v) w => K v w
  | .ok .skip w => K undef w
  | .ok (.enter f args) w => Calls P f args w fun e w' => ∃ v, e = .returned v ∧ K v w'
  | _ => False
def Post (ι : Emb) (H' : Hf) (lo hi wm : Nat) (w : World) (v : AV) (vc : Value) (w' : World) : Prop :=
  ∃ ι', Ext ι ι' lo hi wm w ∧ VR ι' v vc ∧ WR ι' H' w' ∧ Fr ι wm lo w w'
theorem Post.pure {ι : Emb} {H : Hf} {n wm : Nat} {w : World} {v : AV} {vc : Value} (hW : WR ι H w) (hv : VR ι v vc) : Post ι H n n wm w v vc w :=
  ⟨ι, Ext.refl _ _ _ _, hv, hW, Fr.refl _ _ _ _⟩

/-- A new block. -/
structure NewW (w w' : World) (cv : Array Value) (t : TypeId) (fz : Nat × Nat) : Prop where
  os : w'.os = w.os
  tape : w'.tape = w.tape
  output : w'.output = w.output
  size : w'.heap.size = w.heap.size + 1
  old : ∀ B, B < w.heap.size → w'.heap[B]? = w.heap[B]?
  new : w'.heap[w.heap.size]? = some (.cells cv t fz)
theorem NewW.alloc (w : World) (cv : Array Value) (t : TypeId) : NewW w (w.alloc (.cells cv t)) cv t (0, 0) :=
  ⟨rfl, rfl, rfl, by simp, fun B hB => Below.heap_alloc w _ B hB, heap_alloc_new w _⟩
theorem NewW.drewAlloc (w : World) (cv : Array Value) (t : TypeId) : NewW w (w.drew.alloc (.cells cv t)) cv t (0, 0) :=
  ⟨rfl, rfl, rfl, by simp, fun B hB => Below.heap_alloc w.drew _ B hB, heap_alloc_new w.drew _⟩

def put1 (ι : Emb) (n : Nat) (l : Loc) : Emb := fun id => if id = n then some l else ι id
theorem put1_le {ι : Emb} {n : Nat} {l : Loc} (h : ι n = none) : Le ι (put1 ι n l) := fun id m e => by
  unfold put1
  by_cases hc : id = n
  · subst hc; rw [h] at e; cases e
  · rw [if_neg hc]; exact e
theorem put1_at {ι : Emb} {n : Nat} {l : Loc} : put1 ι n l n = some l := by simp [put1]
theorem Free.one {ι : Emb} {n : Nat} (h : Free ι n (n + 1)) : ι n = none := h n (Nat.le_refl _) (Nat.lt_succ_self n)

theorem cells_new {ι : Emb} {w' : World} {B : Nat} {cs : List AV} {cv : Array Value} {t : TypeId} {fz : Nat × Nat} (h : w'.heap[B]? = some (.cells cv t fz))
    (hl : cs.length ≤ cv.size) (hc : ∀ (j : Nat) (a : AV) (v : Value), cs[j]? = some a → cv[j]? = some v → VR ι a v) : cellR ι w' ⟨B, 0, cv.size⟩ cs :=
  ⟨hl, fun j a ha => by
    have hj : j < cs.length := by
      rcases Nat.lt_or_ge j cs.length with h | h
      · exact h
      · rw [List.getElem?_eq_none h] at ha; cases ha
    have hj' : j < cv.size := by omega
    refine ⟨cv[j], ?_, hc j a _ ha (Array.getElem?_eq_getElem hj')⟩
    simp [World.cell?, h, hj']⟩
theorem room_new {w' : World} {B : Nat} {cv : Array Value} {t : TypeId} {fz : Nat × Nat} (h : w'.heap[B]? = some (.cells cv t fz)) : ∀ j, j < cv.size → (w'.cell? ⟨B, 0 + j, none⟩).isSome = true := by
  intro j hj
  simp [World.cell?, h, hj]
theorem frozen_new {w' : World} {B : Nat} {cv : Array Value} {t : TypeId} (h : w'.heap[B]? = some (.cells cv t (0, 0))) (o : Nat) : w'.frozen? ⟨B, o, none⟩ = false := by
  simp [World.frozen?, h]

/-- The world with a new block, and perhaps with a block that is not looked at any more. -/
theorem WR.new {ι : Emb} {H H' : Hf} {w w' : World} {n : Nat} {b : Blk} {cv : Array Value} {t : TypeId} {fz : Nat × Nat} (hW : WR ι H w) (hN : NewW w w' cv t fz) (hf : ι n = none)
    (hn : H' n = some b) (ho : ∀ id, id ≠ n → H' id = H id ∨ (H' id = some .dead ∧ ∃ b', H id = some b')) (hb : blkR (put1 ι n ⟨w.heap.size, 0, cv.size⟩) w' ⟨w.heap.size, 0, cv.size⟩ b) :
    WR (put1 ι n ⟨w.heap.size, 0, cv.size⟩) H' w' := by
  have hle := put1_le (l := ⟨w.heap.size, 0, cv.size⟩) hf
  have old : ∀ id l b, id ≠ n → put1 ι n ⟨w.heap.size, 0, cv.size⟩ id = some l → H' id = some b → ι id = some l ∧ ∃ b', H id = some b' ∧ (b = b' ∨ b = .dead) := by
    intro id l b hid e hb
    have e' : ι id = some l := by unfold put1 at e; rwa [if_neg hid] at e
    refine ⟨e', ?_⟩
    rcases ho id hid with h | ⟨h, b', hb'⟩
    · rw [h] at hb; exact ⟨b, hb, .inl rfl⟩
    · rw [h] at hb; exact ⟨b', hb', .inr (Option.some.inj hb).symm⟩
  refine ⟨fun g hg => ?_, fun id l b' e hb' => ?_, fun id l b' e hb' => ?_, fun id id' l l' b1 b2 hne e e' h1 h2 l1 l2 => ?_⟩
  · obtain ⟨m, hm⟩ := hW.gl g hg
    exact ⟨m, hle _ _ hm⟩
  · by_cases hid : id = n
    · subst hid; rw [put1_at] at e; have := Option.some.inj e; subst this; show w.heap.size < _; rw [hN.size]; omega
    · obtain ⟨e', b2, hb2, _⟩ := old id l b' hid e hb'
      have := hW.lt id l b2 e' hb2
      rw [hN.size]; omega
  · by_cases hid : id = n
    · subst hid
      rw [put1_at] at e
      have := Option.some.inj e
      subst this
      rw [hn] at hb'
      have := Option.some.inj hb'
      subst this
      exact hb
    · obtain ⟨e', b2, hb2, hc⟩ := old id l b' hid e hb'
      rcases hc with rfl | rfl
      · exact blkR.mono hle (hN.old _ (hW.lt id l _ e' hb2)) (hW.blk id l _ e' hb2)
      · trivial
  · by_cases hid : id = n
    · subst hid
      have := Option.some.inj (put1_at.symm.trans e)
      subst this
      obtain ⟨e2, b3, hb3, _⟩ := old id' l' b2 (Ne.symm hne) e' h2
      have := hW.lt _ _ _ e2 hb3
      show w.heap.size ≠ l'.b
      omega
    · by_cases hid' : id' = n
      · subst hid'
        have := Option.some.inj (put1_at.symm.trans e')
        subst this
        obtain ⟨e2, b3, hb3, _⟩ := old id l b1 hid e h1
        have := hW.lt _ _ _ e2 hb3
        show l.b ≠ w.heap.size
        omega
      · obtain ⟨e1, b3, hb3, c1⟩ := old id l b1 hid e h1
        obtain ⟨e2, b4, hb4, c2⟩ := old id' l' b2 hid' e' h2
        rcases c1 with rfl | rfl
        · rcases c2 with rfl | rfl
          · exact hW.inj id id' l l' _ _ hne e1 e2 hb3 hb4 l1 l2
          · exact l2.elim
        · exact l1.elim
theorem NewW.fr {ι : Emb} {lo hi : Nat} {w w' : World} {cv : Array Value} {t : TypeId} {fz : Nat × Nat} (hN : NewW w w' cv t fz) : Fr ι lo hi w w' :=
  ⟨hN.os, hN.tape, hN.output, by rw [hN.size]; omega, fun B hB _ => hN.old B hB⟩
theorem Ext.put {ι : Emb} {n wm : Nat} {w : World} {l : Loc} (h : w.heap.size ≤ l.b ∨ ∃ id0 l0, wm ≤ id0 ∧ id0 < n ∧ ι id0 = some l0 ∧ l0.b = l.b) : Ext ι (put1 ι n l) n (n + 1) wm w :=
  ⟨fun id hid => by unfold put1; rw [if_neg (by omega)], fun id m h1 h2 e => by
    have : id = n := by omega
    subst this
    rw [put1_at] at e
    have := Option.some.inj e
    subst this
    exact h⟩
theorem Post.new {ι : Emb} {H H' : Hf} {w w' : World} {n wm : Nat} {b : Blk} {cv : Array Value} {t : TypeId} {fz : Nat × Nat} {v : AV} {vc : Value} (hW : WR ι H w) (hN : NewW w w' cv t fz) (hf : Free ι n (n + 1))
    (hn : H' n = some b) (ho : ∀ id, id ≠ n → H' id = H id ∨ (H' id = some .dead ∧ ∃ b', H id = some b')) (hb : blkR (put1 ι n ⟨w.heap.size, 0, cv.size⟩) w' ⟨w.heap.size, 0, cv.size⟩ b) (hv : VR (put1 ι n ⟨w.heap.size, 0, cv.size⟩) v vc) :
    Post ι H' n (n + 1) wm w v vc w' :=
  ⟨_, Ext.put (.inl (Nat.le_refl _)), hv, hW.new hN hf.one hn ho hb, hN.fr⟩

/-- Cells of one block are stored. -/
theorem setCells_other (B : Nat) : ∀ (vs : List Value) (o : Nat) (w : World) (B' : Nat), B' ≠ B → (w.setCells B o vs).heap[B']? = w.heap[B']?
  | [], _, _, _, _ => rfl
  | v :: vs, o, w, B', h => by
    rw [World.setCells, setCells_other B vs (o + 1) _ B' h]
    exact Below.heap_setCell w ⟨B, o, none⟩ v B' h
theorem setCells_size (B : Nat) : ∀ (vs : List Value) (o : Nat) (w : World), (w.setCells B o vs).heap.size = w.heap.size
  | [], _, _ => rfl
  | v :: vs, o, w => by rw [World.setCells, setCells_size B vs]; simp [World.setCell]
theorem setCells_rest (B : Nat) : ∀ (vs : List Value) (o : Nat) (w : World), (w.setCells B o vs).os = w.os ∧ (w.setCells B o vs).tape = w.tape ∧ (w.setCells B o vs).output = w.output
  | [], _, _ => ⟨rfl, rfl, rfl⟩
  | v :: vs, o, w => by rw [World.setCells]; exact setCells_rest B vs (o + 1) _
theorem setCells_frozen (B : Nat) : ∀ (vs : List Value) (o : Nat) (w : World) (a : Addr), (w.setCells B o vs).frozen? a = w.frozen? a
  | [], _, _, _ => rfl
  | v :: vs, o, w, a => by rw [World.setCells, setCells_frozen B vs]; simp [go_sem]
end Go.Proofs.YtnbnoacadhoimaaGreatDoor.Ax
