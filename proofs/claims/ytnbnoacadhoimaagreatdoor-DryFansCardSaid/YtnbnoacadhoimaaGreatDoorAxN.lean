/- An evaluator for the model: part N. -/
import Derived.Test.YtnbnoacadhoimaaGreatDoorAxM
set_option linter.unusedSimpArgs false
set_option linter.unusedVariables false
set_option maxRecDepth 100000
set_option maxHeartbeats 8000000
namespace Go.Proofs.YtnbnoacadhoimaaGreatDoor.Ax
open Go Go.RowKit
set_option linter.unusedSimpArgs false
set_option linter.unusedVariables false

theorem lt_of_some {α : Type} {l : List α} {j : Nat} {a : α} (h : l[j]? = some a) : j < l.length := by
  rcases Nat.lt_or_ge j l.length with h' | h'
  · exact h'
  · rw [List.getElem?_eq_none h'] at h; cases h
theorem setCells_some (B : Nat) (vs : List Value) (o : Nat) (w : World) (h : ∀ j, j < vs.length → (w.cell? ⟨B, o + j, none⟩).isSome = true) (k : Nat) (hk : (w.cell? ⟨B, k, none⟩).isSome = true) : ((w.setCells B o vs).cell? ⟨B, k, none⟩).isSome = true := by
  by_cases hr : o ≤ k ∧ k < o + vs.length
  · obtain ⟨j, rfl⟩ : ∃ j, k = o + j := ⟨k - o, by omega⟩
    rw [World.cell?_setCells_in B vs o w h j (by omega)]
    rfl
  · rw [World.cell?_setCells_out B vs o w ⟨B, k, none⟩ (fun _ _ => by show k < o ∨ _ ≤ k; omega)]
    exact hk
theorem setCells_in {ι : Emb} {B o : Nat} {vs : List AV} {vals : List Value} {w : World} (hv : VRs ι vs vals) (h : ∀ j, j < vals.length → (w.cell? ⟨B, o + j, none⟩).isSome = true) {j : Nat} {a : AV} (ha : vs[j]? = some a) :
    ∃ v, (w.setCells B o vals).cell? ⟨B, o + j, none⟩ = some v ∧ VR ι a v := by
  obtain ⟨h1, h2⟩ := (VRs.iff vs vals).1 hv
  have hj := lt_of_some ha
  have hj' : j < vals.length := by omega
  exact ⟨vals[j], World.cell?_setCells_in B vals o w h j hj', h2 j a _ ha (List.getElem?_eq_getElem hj')⟩
theorem Fr.setCells {ι : Emb} {wm n id : Nat} {l : Loc} {w : World} (hl : ι id = some l) (hwm : wm ≤ id) (hlo : id < n) (o : Nat) (vals : List Value) : Fr ι wm n w (w.setCells l.b o vals) := by
  obtain ⟨h1, h2, h3⟩ := setCells_rest l.b vals o w
  refine ⟨h1, h2, h3, by rw [setCells_size]; exact Nat.le_refl _, fun B hB hn => setCells_other l.b vals o w B ?_⟩
  intro e
  exact hn id l hwm hlo hl e.symm
theorem Post.store {ι : Emb} {H H' : Hf} {w : World} {n wm id off : Nat} {l : Loc} {cs cs' vs : List AV} {vals : List Value} (hW : WR ι H w) (hl : ι id = some l) (hc : H id = some (.cells cs)) (hs : setAtL cs off vs = some cs')
    (hv : VRs ι vs vals) (hwm : wm ≤ id) (hlo : id < n) (hn : H' id = some (.cells cs')) (ho : ∀ k, k ≠ id → H' k = H k) : Post ι H' n n wm w (.tup []) undef (w.setCells l.b (l.d + off) vals) := by
  obtain ⟨s1, s2, s3⟩ := setAtL_eq _ _ _ _ hs
  obtain ⟨⟨c1, c2⟩, c3, c4⟩ := hW.blk id l _ hl hc
  have hlen : vs.length = vals.length := ((VRs.iff vs vals).1 hv).1
  have hin : ∀ j, j < vals.length → (w.cell? ⟨l.b, l.d + off + j, none⟩).isSome = true := by
    intro j hj
    have hne : vs ≠ [] := by intro e; rw [e] at hlen; simp at hlen; omega
    have := s2 hne
    have := c3 (off + j) (by omega)
    rwa [← Nat.add_assoc] at this
  refine ⟨ι, Ext.refl _ _ _ _, VR.tup.2 ⟨[], rfl, VRs.nil.2 rfl⟩, ⟨hW.gl, fun k m b e h => ?_, fun k m b e h => ?_, fun k k' m m' b b' hne e e' h h' l1 l2 => ?_⟩, Fr.setCells hl hwm hlo _ _⟩
  · rw [setCells_size]
    by_cases hk : k = id
    · subst hk; exact hW.lt k m _ e hc
    · rw [ho k hk] at h; exact hW.lt k m b e h
  · by_cases hk : k = id
    · subst hk
      have := Option.some.inj (hl.symm.trans e)
      subst this
      rw [hn] at h
      have := Option.some.inj h
      subst this
      refine ⟨⟨by omega, fun j a ha => ?_⟩, fun j hj => ?_, fun o => by rw [setCells_frozen]; exact c4 o⟩
      · rw [s3 j] at ha
        by_cases hr : off ≤ j ∧ j < off + vs.length
        · rw [if_pos hr] at ha
          have := setCells_in (B := l.b) (o := l.d + off) hv hin ha
          rwa [show l.d + off + (j - off) = l.d + j by omega] at this
        · rw [if_neg hr] at ha
          obtain ⟨v, hv1, hv2⟩ := c2 j a ha
          refine ⟨v, ?_, hv2⟩
          rw [World.cell?_setCells_out l.b vals _ w ⟨l.b, l.d + j, none⟩ (fun _ _ => by show l.d + j < _ ∨ _ ≤ l.d + j; omega)]
          exact hv1
      · exact setCells_some l.b vals _ w hin _ (c3 j hj)
    · rw [ho k hk] at h
      cases b with
      | dead => trivial
      | cells ds => exact blkR.mono (Le.refl ι) (setCells_other l.b vals _ w m.b (hW.inj k id m l _ _ hk e hl h hc trivial trivial)) (hW.blk k m _ e h)
      | ro ds => exact blkR.mono (Le.refl ι) (setCells_other l.b vals _ w m.b (hW.inj k id m l _ _ hk e hl h hc trivial trivial)) (hW.blk k m _ e h)
  · have old : ∀ k b, H' k = some b → live b → ∃ b', H k = some b' ∧ live b' := by
      intro k b h hb
      by_cases hk : k = id
      · subst hk; exact ⟨_, hc, trivial⟩
      · rw [ho k hk] at h; exact ⟨b, h, hb⟩
    obtain ⟨b1, h1, h2⟩ := old k b h l1
    obtain ⟨b2, h3, h4⟩ := old k' b' h' l2
    exact hW.inj k k' m m' b1 b2 hne e e' h1 h3 h2 h4

/-- A slice is appended to where it lies. -/
theorem Post.growIn {ι : Emb} {H H' : Hf} {w : World} {n wm id off len m z c : Nat} {l : Loc} {cs old new : List AV} {vals : List Value} (hW : WR ι H w) (hf : Free ι n (n + 1)) (hl : ι id = some l) (hc : H id = some (.cells cs))
    (hold : slab cs off (len * z) = some old) (hv : VRs ι new vals) (hnew : new.length = m * z) (hroom : len + m ≤ c) (hfit : off + c * z ≤ l.n) (hwm : wm ≤ id) (hlo : id < n)
    (hn : H' n = some (.cells (old ++ new))) (hd : H' id = some .dead) (ho : ∀ k, k ≠ id → k ≠ n → H' k = H k) :
    Post ι H' n (n + 1) wm w (.slc n 0 (len + m) (.r z)) (.slice (some ⟨l.b, l.d + off, none⟩) (len + m) c) (w.setCells l.b (l.d + off + len * z) vals) := by
  obtain ⟨o1, o2⟩ := slab_eq hold
  obtain ⟨⟨c1, c2⟩, c3, c4⟩ := hW.blk id l _ hl hc
  have hlen : new.length = vals.length := ((VRs.iff new vals).1 hv).1
  have hmz : (len + m) * z ≤ c * z := Nat.mul_le_mul_right z hroom
  rw [Nat.add_mul] at hmz
  have hin : ∀ j, j < vals.length → (w.cell? ⟨l.b, l.d + off + len * z + j, none⟩).isSome = true := by
    intro j hj
    have := c3 (off + len * z + j) (by omega)
    rwa [← Nat.add_assoc, ← Nat.add_assoc] at this
  have hle := put1_le (l := ⟨l.b, l.d + off, c * z⟩) hf.one
  have hne : id ≠ n := by omega
  have old' : ∀ k q b, k ≠ n → put1 ι n ⟨l.b, l.d + off, c * z⟩ k = some q → H' k = some b → live b → ι k = some q ∧ k ≠ id ∧ H k = some b := by
    intro k q b hk e h hb
    have e' : ι k = some q := by unfold put1 at e; rwa [if_neg hk] at e
    have hki : k ≠ id := by rintro rfl; rw [hd] at h; have := Option.some.inj h; subst this; exact hb.elim
    exact ⟨e', hki, by rw [← ho k hki hk]; exact h⟩
  refine ⟨put1 ι n ⟨l.b, l.d + off, c * z⟩, Ext.put (.inr ⟨id, l, hwm, hlo, hl, rfl⟩), VR.slc.2 ⟨_, _, _, put1_at, rfl, fun _ => by simp, ⟨hroom, fun _ => by simp⟩⟩, ⟨fun g hg => ?_, fun k q b e h => ?_, fun k q b e h => ?_, fun k k' q q' b b' hkk e e' h h' l1 l2 => ?_⟩, Fr.setCells hl hwm hlo _ _⟩
  · obtain ⟨p, hp⟩ := hW.gl g hg
    exact ⟨p, hle _ _ hp⟩
  · rw [setCells_size]
    by_cases hk : k = n
    · subst hk; have := Option.some.inj (put1_at.symm.trans e); subst this; exact hW.lt id l _ hl hc
    · have e' : ι k = some q := by unfold put1 at e; rwa [if_neg hk] at e
      by_cases hki : k = id
      · subst hki; have := Option.some.inj (hl.symm.trans e'); subst this; exact hW.lt k l _ hl hc
      · rw [ho k hki hk] at h; exact hW.lt k q b e' h
  · by_cases hk : k = n
    · subst hk
      have := Option.some.inj (put1_at.symm.trans e)
      subst this
      rw [hn] at h
      have := Option.some.inj h
      subst this
      refine ⟨⟨by rw [List.length_append, o1, hnew]; exact hmz, fun j a ha => ?_⟩, fun j hj => ?_, fun o => by rw [setCells_frozen]; exact c4 o⟩
      · rw [List.getElem?_append] at ha
        by_cases hj : j < old.length
        · rw [if_pos hj, o2 j (by omega)] at ha
          obtain ⟨v, hv1, hv2⟩ := c2 _ a ha
          refine ⟨v, ?_, VR.mono hle a v hv2⟩
          rw [World.cell?_setCells_out l.b vals _ w ⟨l.b, l.d + off + j, none⟩ (fun _ _ => by show l.d + off + j < _ ∨ _ ≤ l.d + off + j; omega), Nat.add_assoc]
          exact hv1
        · rw [if_neg hj] at ha
          obtain ⟨v, hv1, hv2⟩ := setCells_in (B := l.b) (o := l.d + off + len * z) hv hin ha
          exact ⟨v, by rwa [show l.d + off + len * z + (j - old.length) = l.d + off + j by omega] at hv1, VR.mono hle a v hv2⟩
      · have := c3 (off + j) (by have : j < c * z := hj; omega)
        rw [← Nat.add_assoc] at this
        exact setCells_some l.b vals _ w hin _ this
    · cases b with
      | dead => trivial
      | cells ds =>
        obtain ⟨e', hki, h'⟩ := old' k q _ hk e h trivial
        exact blkR.mono hle (setCells_other l.b vals _ w q.b (hW.inj k id q l _ _ hki e' hl h' hc trivial trivial)) (hW.blk k q _ e' h')
      | ro ds =>
        obtain ⟨e', hki, h'⟩ := old' k q _ hk e h trivial
        exact blkR.mono hle (setCells_other l.b vals _ w q.b (hW.inj k id q l _ _ hki e' hl h' hc trivial trivial)) (hW.blk k q _ e' h')
  · by_cases hk : k = n
    · subst hk
      have := Option.some.inj (put1_at.symm.trans e)
      subst this
      obtain ⟨e2, hki, h2⟩ := old' k' q' b' (Ne.symm hkk) e' h' l2
      exact Ne.symm (hW.inj k' id q' l _ _ hki e2 hl h2 hc l2 trivial)
    · obtain ⟨e1, hki, h1⟩ := old' k q b hk e h l1
      by_cases hk' : k' = n
      · subst hk'
        have := Option.some.inj (put1_at.symm.trans e')
        subst this
        exact hW.inj k id q l _ _ hki e1 hl h1 hc l1 trivial
      · obtain ⟨e2, _, h2⟩ := old' k' q' b' hk' e' h' l2
        exact hW.inj k k' q q' _ _ hkk e1 e2 h1 h2 l1 l2
end Go.Proofs.YtnbnoacadhoimaaGreatDoor.Ax
