/- Sorting 20 to 24 ascending numbers in three strokes is sorting them. -/
import Derived.Test.YtnbnoacadhoimaaGreatDoorYd
import Derived.Test.YtnbnoacadhoimaaGreatDoorDbG
import Derived.Test.YtnbnoacadhoimaaGreatDoorDeG
import Derived.WalkMore
set_option linter.unusedSimpArgs false
set_option linter.unusedVariables false
set_option maxRecDepth 100000
set_option maxHeartbeats 8000000
namespace Go.Proofs.YtnbnoacadhoimaaGreatDoor
open Go Go.RowKit Go.Sort Sy

section
variable {α : Type} [Inhabited α]
theorem insInner_permA {lt : α → α → Bool} {a b : Nat} : ∀ (j : Nat) (d : Array α), j < b → b ≤ d.size → PermIn 0 b d (insInner lt a j d)
  | 0, d, _, _ => by unfold insInner; exact permIn_refl _ _ _
  | j + 1, d, hj, hb => by
    unfold insInner
    split
    · exact permIn_trans _ _ _ _ _ (swp_permIn d 0 b (j + 1) j (Nat.zero_le _) hj (Nat.zero_le _) (by omega) hb) (insInner_permA j _ (by omega) (by rw [swp_size]; exact hb))
    · exact permIn_refl _ _ _
theorem insOuter_congrA {lt lt' : α → α → Bool} {a b : Nat} : ∀ (n i : Nat) (d : Array α), b - i = n → b ≤ d.size → (∀ q p, i ≤ q → q < b → p < q → lt d[q]! d[p]! = lt' d[q]! d[p]!) → insOuter lt a b i d = insOuter lt' a b i d
  | 0, i, d, hn, _, _ => by
    rw [insOuter, if_neg (by omega), insOuter, if_neg (by omega)]
  | n + 1, i, d, hn, hb, h => by
    have hlt : i < b := by omega
    rw [insOuter_go _ _ _ _ _ hlt, insOuter_go _ _ _ _ _ hlt]
    rw [← insInner_congr (lt := lt) (lt' := lt') i d (by omega) (fun p hp => h i p (Nat.le_refl _) hlt hp)]
    have hP := insInner_permA (lt := lt) (a := a) (b := i + 1) i d (by omega) (by omega)
    refine insOuter_congrA n (i + 1) _ (by omega) (by rw [hP.1]; exact hb) fun q p hq hqb hpq => ?_
    rw [hP.2.1 q (.inr hq)]
    by_cases hp : p < i + 1
    · exact permIn_all d _ 0 (i + 1) (fun x => lt d[q]! x = lt' d[q]! x) (by omega) hP (fun r _ hr => h q r (by omega) hqb (by omega)) p (Nat.zero_le _) hp
    · rw [hP.2.1 p (.inr (by omega))]
      exact h q p (by omega) hqb hpq
end
/-- Numbers in ascending order. -/
def Asc {m : Nat} (d : Array (Fin (m + 1))) (n : Nat) : Prop := ∀ p q, p < q → q < n → (d[p]!).val < (d[q]!).val
section
variable {m n : Nat} {lt : Fin (m + 1) → Fin (m + 1) → Bool} {d : Array (Fin (m + 1))}
theorem ins_ltT {a b : Nat} {e : Array (Fin (m + 1))} (hb : b ≤ e.size) (h : ∀ p q, p < q → a ≤ q → q < b → (e[p]!).val < (e[q]!).val) : Sort.insertionSort lt e a b = Sort.insertionSort (ltT lt) e a b := by
  unfold Sort.insertionSort
  exact insOuter_congrA _ (a + 1) _ rfl hb fun q p hq hqb hpq => (lt_later (h p q hpq (by omega) hqb)).symm
/-- The two blocks, each sorted. -/
structure Two (lt : Fin (m + 1) → Fin (m + 1) → Bool) (d d2 : Array (Fin (m + 1))) (n : Nat) : Prop where
  perm : PermIn 0 n d d2
  mrg : Mrg (ltT lt) 0 20 n d2
  later : Later 0 20 n d2
theorem two_of (hw : SWO lt) (hd : d.size = n) (ha : Asc d n) (h1 : 20 ≤ n) : Two lt d (Sort.insertionSort lt (Sort.insertionSort lt d 0 20) 20 n) n := by
  have e1 : Sort.insertionSort lt d 0 20 = Sort.insertionSort (ltT lt) d 0 20 := ins_ltT (by omega) fun p q hpq _ hq => ha p q hpq (by omega)
  obtain ⟨P1, S1⟩ := insertionSort_holds (ltT_swo hw) d 0 20 (by omega) (by omega)
  rw [← e1] at P1 S1
  obtain ⟨d1, hd1⟩ : ∃ x, Sort.insertionSort lt d 0 20 = x := ⟨_, rfl⟩
  rw [hd1] at P1 S1 ⊢
  have lo : ∀ i, i < 20 → (d1[i]!).val ≤ (d[19]!).val := fun i hi => permIn_all d d1 0 20 (fun x => x.val ≤ (d[19]!).val) (by omega) P1 (fun j _ hj => by
    by_cases e : j = 19
    · subst e; exact Nat.le_refl _
    · exact Nat.le_of_lt (ha j 19 (by omega) (by omega))) i (Nat.zero_le _) hi
  have hi : ∀ j, 20 ≤ j → d1[j]! = d[j]! := fun j hj => P1.2.1 j (.inr hj)
  have asc : ∀ p q, p < q → 20 ≤ q → q < n → (d1[p]!).val < (d1[q]!).val := fun p q hpq h20 hq => by
    rw [hi q h20]
    by_cases c : p < 20
    · exact Nat.lt_of_le_of_lt (lo p c) (ha 19 q (by omega) hq)
    · rw [hi p (by omega)]; exact ha p q hpq hq
  have e2 : Sort.insertionSort lt d1 20 n = Sort.insertionSort (ltT lt) d1 20 n := ins_ltT (by rw [P1.1]; omega) asc
  obtain ⟨P2, S2⟩ := insertionSort_holds (ltT_swo hw) d1 20 n h1 (by rw [P1.1]; omega)
  rw [← e2] at P2 S2
  have same : ∀ j, j < 20 → (Sort.insertionSort lt d1 20 n)[j]! = d1[j]! := fun j hj => P2.2.1 j (.inl hj)
  refine ⟨permIn_trans _ _ _ _ _ (permIn_mono _ _ _ _ _ _ (Nat.le_refl _) h1 (by omega) P1) (permIn_mono _ _ _ _ _ _ (by omega) (Nat.le_refl _) (by rw [P1.1]; omega) P2), ⟨sorted_same S1 fun k _ hk => same k hk, S2⟩, fun i j _ hi2 hj1 hj2 => ?_⟩
  rw [same i hi2]
  refine Nat.lt_of_le_of_lt (lo i hi2) ?_
  exact permIn_all d1 _ 20 n (fun x => (d[19]!).val < x.val) (by rw [P1.1]; omega) P2 (fun k k1 k2 => by rw [hi k k1]; exact ha 19 k (by omega) k2) j hj1 hj2
theorem ltT_anti {x y : Fin (m + 1)} (h1 : ltT lt y x = false) (h2 : ltT lt x y = false) : x = y := by
  have n1 : ¬ (lt y x = true ∨ (lt x y = false ∧ y.val < x.val)) := by rw [← ltT_iff, h1]; simp
  have n2 : ¬ (lt x y = true ∨ (lt y x = false ∧ x.val < y.val)) := by rw [← ltT_iff, h2]; simp
  have a1 : lt y x = false := by cases q : lt y x with | false => rfl | true => exact absurd (.inl q) n1
  have a2 : lt x y = false := by cases q : lt x y with | false => rfl | true => exact absurd (.inl q) n2
  have b1 : ¬ y.val < x.val := fun k => n1 (.inr ⟨a2, k⟩)
  have b2 : ¬ x.val < y.val := fun k => n2 (.inr ⟨a1, k⟩)
  exact Fin.ext (by omega)
/-- There is one sorted row. -/
theorem sorted_one (hw : SWO lt) {d3 : Array (Fin (m + 1))} (hd : d.size = n) (ha : Asc d n) (hP : PermIn 0 n d d3) (hS : SortedIn (ltT lt) 0 n d3) : d3 = Sort.insertionSort lt d 0 n := by
  have e1 : Sort.insertionSort lt d 0 n = Sort.insertionSort (ltT lt) d 0 n := ins_ltT (by omega) fun p q hpq _ hq => ha p q hpq hq
  obtain ⟨P1, S1⟩ := insertionSort_holds (ltT_swo hw) d 0 n (by omega) (by omega)
  rw [← e1] at P1 S1
  obtain ⟨d1, hd1⟩ : ∃ x, Sort.insertionSort lt d 0 n = x := ⟨_, rfl⟩
  rw [hd1] at P1 S1 ⊢
  have ex : ∀ (d : Array (Fin (m + 1))) (n : Nat), d.size = n → d.extract 0 n = d := fun d n e => by subst e; exact Array.extract_size
  have z3 : d3.size = n := by rw [hP.1, hd]
  have z1 : d1.size = n := by rw [P1.1, hd]
  have q3 := hP.2.2
  have q1 := P1.2.2
  rw [ex _ _ z3, ex _ _ hd] at q3
  rw [ex _ _ z1, ex _ _ hd] at q1
  have pw : ∀ e : Array (Fin (m + 1)), e.size = n → SortedIn (ltT lt) 0 n e → e.toList.Pairwise (fun x y => ltT lt y x = false) := fun e he hs => by
    rw [List.pairwise_iff_getElem]
    intro i j hi hj hij
    have := hs i j (Nat.zero_le _) hij (by simpa [he] using hj)
    rwa [getElem!_pos _ _ (by simpa using hj), getElem!_pos _ _ (by simpa using hi)] at this
  have := List.Perm.eq_of_pairwise (le := fun x y => ltT lt y x = false) (fun a b _ _ k1 k2 => ltT_anti k1 k2) (pw d3 z3 hS) (pw d1 z1 S1) (q3.trans q1.symm)
  exact Array.toList_inj.1 this
theorem two_20 (hw : SWO lt) (hd : d.size = 20) (ha : Asc d 20) {d2 : Array (Fin (m + 1))} (h : Two lt d d2 20) : d2 = Sort.insertionSort lt d 0 20 := sorted_one hw hd ha h.perm h.mrg.fst
theorem two_sym (hw : SWO lt) (hd : d.size = n) (ha : Asc d n) {d2 d3 : Array (Fin (m + 1))} (h : Two lt d d2 n) (hP : PermIn 0 n d2 d3) (hS : SortedIn (ltT lt) 0 n d3) : d3 = Sort.insertionSort lt d 0 n := sorted_one hw hd ha (permIn_trans _ _ _ _ _ h.perm hP) hS
end

section
variable {W : World} {blk off m cap p n : Nat} {cf : Fin (m + 1) → Fin (m + 1) → Int} {d : Array (Fin (m + 1))}
theorem pw_pw {d' : Array (Fin (m + 1))} (h : d'.size = d.size) (k r : Nat) : (Sort.putRow encF (PW W blk off d k) blk off d').drewN r = PW W blk off d' (k + r) := by
  show ((Sort.putRow encF (Sort.putRow encF W blk off d) blk off d').drewN k).drewN r = _
  rw [putRow_putRow encF W blk off d d' h, World.drewN_drewN]
theorem cmpReads_pw {caps : Array Value} (h : CmpReads Tryz.prog 108 caps (encF (n := m + 1)) cf blk off n W) (hd : d.size = n) (k : Nat) : CmpReads Tryz.prog 108 caps (encF (n := m + 1)) cf blk off n (PW W blk off d k) := fun r os dk hk x y => by
  have := h (k + r) os dk hk x y
  have e : sortWorld encF (PW W blk off d k) blk off r dk os = sortWorld encF W blk off (k + r) dk os := by
    have h1 := putRow_ahead_putRow encF W 0 (k + r) blk off d dk (by rw [hk, hd])
    unfold sortWorld
    rw [Nat.zero_add] at h1
    rw [← h1]
    congr 2
    show Sort.ahead (Sort.ahead (Sort.putRow encF W blk off d) k) r = _
    rw [ahead_ahead]
    rfl
  rw [e]
  exact this
theorem ins_pw {caps : Array Value} (hw : SWO (ltOf cf)) (hC : CmpReads Tryz.prog 108 caps (encF (n := m + 1)) cf blk off n W) (hH : Sort.Holds encF W blk off d) (hd : d.size = n) (e : Array (Fin (m + 1))) (he : e.size = n) {a b : Nat} (hab : a ≤ b) (hb : b ≤ n) (hn : n < 1000000) (k : Nat) :
    Calls Tryz.prog 180 #[.slice (some ⟨blk, off, none⟩) n cap, .int .i64 (a : Int), .int .i64 (b : Int), .func (.func 108) #[] caps] (PW W blk off e k) fun r w' => r = .returned (.tuple #[]) ∧ ∃ k', w' = PW W blk off (Sort.insertionSort (ltOf cf) e a b) k' := by
  subst he
  refine (Tryz.insertionSortCmpFunc_one encF one_encF cf 108 caps blk off cap a b e (PW W blk off e k) (enters_of Tryz.func108 (by kernel_rfl) rfl) (cmpReads_pw hC rfl k) (holds_putRow encF W blk off d e hH hd.symm) hab hb (by omega)).mono ?_
  rintro r w' ⟨rfl, q, rfl⟩
  exact ⟨rfl, k + q, pw_pw (insertionSort_holds hw e a b hab hb).1.1 k q⟩
theorem stable20_num (hw : SWO (ltOf cf)) (hC : CmpReads Tryz.prog 108 #[.pointer (some ⟨p, 0, none⟩)] (encF (n := m + 1)) cf blk off n W) (hd : d.size = n) (ha : Asc d n) (hH : Sort.Holds encF W blk off d) (h1 : 20 ≤ n) (h2 : n < 40) :
    Calls Tryz.prog 139 #[.slice (some ⟨blk, off, none⟩) n cap, .int .i64 (n : Int), .func (.func 108) #[] #[.pointer (some ⟨p, 0, none⟩)]] W (StablePost W blk off cf d) := by
  obtain ⟨F1, F2, F3, H1, H2, H3, H4, H5⟩ : ∃ F1 F2 F3 : Nat → World,
      (Calls Tryz.prog 180 #[.slice (some ⟨blk, off, none⟩) n cap, .int .i64 0, .int .i64 20, .func (.func 108) #[] #[.pointer (some ⟨p, 0, none⟩)]] W fun r w' => r = .returned (.tuple #[]) ∧ ∃ k', w' = F1 k') ∧
      (∀ k, Calls Tryz.prog 180 #[.slice (some ⟨blk, off, none⟩) n cap, .int .i64 20, .int .i64 (n : Int), .func (.func 108) #[] #[.pointer (some ⟨p, 0, none⟩)]] (F1 k) fun r w' => r = .returned (.tuple #[]) ∧ ∃ k', w' = F2 k') ∧
      (20 < n → ∀ k, Calls Tryz.prog 181 #[.slice (some ⟨blk, off, none⟩) n cap, .int .i64 0, .int .i64 20, .int .i64 (n : Int), .func (.func 108) #[] #[.pointer (some ⟨p, 0, none⟩)]] (F2 k) fun r w' => r = .returned (.tuple #[]) ∧ ∃ k', w' = F3 k') ∧
      (n = 20 → ∀ k, F2 k = F3 k) ∧ ∀ k, F3 k = (Sort.putRow encF W blk off (Sort.insertionSort (ltOf cf) d 0 d.size)).drewN k := by
    have hT := two_of hw hd ha h1
    have z1 : (Sort.insertionSort (ltOf cf) d 0 20).size = n := by rw [(insertionSort_holds hw d 0 20 (by omega) (by omega)).1.1, hd]
    have z2 : (Sort.insertionSort (ltOf cf) (Sort.insertionSort (ltOf cf) d 0 20) 20 n).size = n := by rw [(insertionSort_holds hw _ 20 n (by omega) (by omega)).1.1, z1]
    refine ⟨fun k => PW W blk off (Sort.insertionSort (ltOf cf) d 0 20) k, fun k => PW W blk off (Sort.insertionSort (ltOf cf) (Sort.insertionSort (ltOf cf) d 0 20) 20 n) k, fun k => PW W blk off (Sort.insertionSort (ltOf cf) d 0 d.size) k, ?_, fun k => ins_pw hw hC hH hd _ z1 h1 (Nat.le_refl _) (by omega) k, fun h k => ?_, fun h k => ?_, fun k => rfl⟩
    · have := ins_pw (cap := cap) hw hC hH hd d hd (a := 0) (b := 20) (by omega) h1 (by omega) 0
      have e : PW W blk off d 0 = W := putRow_self encF W blk off d hH
      rw [e] at this
      exact this
    · refine (sym_num (cap := cap) hw hH (cmpQ_of hC) (by omega) n _ 0 20 n k (by rw [z2, hd]) z2 (by omega) h (Nat.le_refl _) (by omega) hT.mrg hT.later).mono ?_
      rintro r w' ⟨rfl, d3, k', rfl, hP, hS⟩
      refine ⟨rfl, k', ?_⟩
      rw [two_sym hw hd ha hT hP hS, hd]
    · subst h
      show PW W blk off _ k = PW W blk off _ k
      rw [two_20 hw hd ha hT, hd]
  have HF := qh (And.intro H1 (And.intro H2 (And.intro H3 (And.intro H4 H5))))
  show Calls _ _ _ _ fun e w' => _
  unfold StablePost
  obtain ⟨V, hV⟩ : ∃ V, Sort.putRow encF W blk off (Sort.insertionSort (ltOf cf) d 0 d.size) = V := ⟨_, rfl⟩
  rw [hV] at HF ⊢
  have HN := qh (And.intro h1 h2)
  have q1 : decide ((20 : Int) ≤ (n : Int)) = true := by simp; omega
  have q2 : decide ((40 : Int) ≤ (n : Int)) = false := by simp; omega
  have q3 : decide ((40 : Int) < (n : Int)) = false := by simp; omega
  clear hC hd hH h1 h2 ha H1 H2 H3 H4 H5 hV hw
  go_enter Tryz.func139, Tryz.ntmps139
  go_wp2
  go_loopw [7, 8] (fun a b wr => (a = .int .i64 0 ∧ b = .int .i64 20 ∧ wr = W) ∨ (a = .int .i64 20 ∧ b = .int .i64 40 ∧ ∃ k, wr = F1 k)) (fun _ b _ => 100 - (intOf b).toNat)
  case atStart => exact .inl ⟨rfl, rfl, rfl⟩
  case round =>
    rcases hrel with ⟨rfl, rfl, rfl⟩ | ⟨rfl, rfl, k, rfl⟩
    · go_wp2_with (go_at_call 180; (with_reducible refine HF.out.1.mono ?_); rintro e1 w1 ⟨rfl, k, rfl⟩)
      go_roundw
      case rel => exact .inr ⟨rfl, rfl, k, rfl⟩
      case measure => simp [intOf]
    · go_wp2_with (go_at_call 180; (with_reducible refine (HF.out.2.1 k).mono ?_); rintro e1 w1 ⟨rfl, k2, rfl⟩)
      go_loopw [6] (fun a wr => (a = .int .i64 20 ∧ ∃ k, wr = F2 k) ∨ (a = .int .i64 40 ∧ ∃ k, wr = F3 k)) (fun a _ => 100 - (intOf a).toNat)
      case atStart => exact .inl ⟨rfl, k2, rfl⟩
      case round =>
        rcases hrel with ⟨rfl, k3, rfl⟩ | ⟨rfl, k3, rfl⟩
        · by_cases e : n = 20
          · have HE := qh (HF.out.2.2.2.1 e)
            subst e
            go_wp2
            go_end0
            exact ⟨rfl, k3, (HE.out k3).trans (HF.out.2.2.2.2 k3)⟩
          · have q4 : decide ((20 : Int) < (n : Int)) = true := by have := HN.out; simp; omega
            have HS := qh (HF.out.2.2.1 (by have := HN.out; omega))
            clear e
            rename World => w00
            go_wp2
            go_loopw [7, 8] (fun a b wr => a = .int .i64 0 ∧ b = .int .i64 40 ∧ wr = F2 k3) (fun _ _ _ => 0)
            case atStart => exact ⟨rfl, rfl, rfl⟩
            case round =>
              obtain ⟨rfl, rfl, rfl⟩ := hrel
              go_wp2_with (go_at_call 181; (with_reducible refine (HS.out k3).mono ?_); rintro e1 w1 ⟨rfl, k4, rfl⟩)
              go_roundw
              case rel => exact .inr ⟨rfl, k4, rfl⟩
              case measure => simp [intOf]
        · go_wp2
          go_end0
          exact ⟨rfl, k3, HF.out.2.2.2.2 k3⟩
theorem stable24_num (hw : SWO (ltOf cf)) (hC : ∀ n, CmpReads Tryz.prog 108 #[.pointer (some ⟨p, 0, none⟩)] (encF (n := m + 1)) cf blk off n W) (hd : d.size = n) (ha : Asc d n) (hH : Sort.Holds encF W blk off d) (hm : n < 40) :
    Calls Tryz.prog 107 #[.slice (some ⟨blk, off, none⟩) n cap, .func (.func 108) #[] #[.pointer (some ⟨p, 0, none⟩)]] W (StablePost W blk off cf d) := by
  by_cases hn : n < 20
  · exact stable_num hC d hd hH hn
  have HI := qh (stable20_num (cap := cap) hw (hC _) hd ha hH (by omega) hm)
  clear hC hd hH hm hn hw ha
  go_enter Tryz.func107, Tryz.ntmps107
  go_wp2_with (go_at_call 139; (with_reducible refine HI.out.mono ?_); rintro e1 w1 ⟨rfl, k, rfl⟩)
  go_end0
  exact ⟨rfl, _, rfl⟩
end
section
variable {W : World} {base g q m cap N k blk off n : Nat} {cf : Fin (m + 1) → Fin (m + 1) → Int} {zs : List Nat}
theorem by24_num (hw : SWO (ltOf cf)) (hC : ∀ T n, CmpReads Tryz.prog 108 #[.pointer (some ⟨W.heap.size, 0, none⟩)] (encF (n := m + 1)) cf blk off n (W.alloc (.cells #[.slice (some ⟨q, 0, none⟩) k k] T))) (d : Array (Fin (m + 1))) (hd : d.size = n) (ha : Asc d n) (hH : ∀ T, Sort.Holds encF (W.alloc (.cells #[.slice (some ⟨q, 0, none⟩) k k] T)) blk off d) (hm : n < 40) :
    Calls Tryz.prog 48 #[.slice (some ⟨blk, off, none⟩) n cap, .slice (some ⟨q, 0, none⟩) k k] W fun e w' => e = .returned (.tuple #[]) ∧ ∃ T n, w' = (Sort.putRow encF (W.alloc (.cells #[.slice (some ⟨q, 0, none⟩) k k] T)) blk off (Sort.insertionSort (ltOf cf) d 0 d.size)).drewN n := by
  have HI := fun T => qh (stable24_num (cap := cap) hw (hC T) hd ha (hH T) hm)
  clear hC hd hH hm hw ha
  go_enter Tryz.func48, Tryz.ntmps48
  go_wp2_with (go_at_call 107; (with_reducible refine (HI _).out.mono ?_); rintro e1 w1 ⟨rfl, k, rfl⟩)
  go_end0
  exact ⟨rfl, _, _, rfl⟩
theorem dOf_asc {zs : List Nat} (hz : ∀ x ∈ zs, x < m + 1) (hs : zs.Pairwise (· < ·)) : Asc (dOf m zs) zs.length := fun p q hpq hq => by
  have hat : ∀ j (hj : j < zs.length), ((dOf m zs)[j]!).val = zs[j] := fun j hj => by
    have h1 : (dOf m zs)[j]! = Fin.ofNat (m + 1) zs[j] := by
      rw [getElem!_pos _ _ (by rw [dOf_size]; exact hj)]
      simp [dOf]
    rw [h1]
    have := hz _ (List.getElem_mem hj)
    simp [Fin.ofNat, Nat.mod_eq_of_lt this]
  rw [hat p (by omega), hat q hq]
  exact List.pairwise_iff_getElem.1 hs p q (by omega) hq hpq
theorem by24_own (hw : SWO (ltOf cf)) (hC : ∀ T n, CmpReads Tryz.prog 108 #[.pointer (some ⟨W.heap.size, 0, none⟩)] (encF (n := m + 1)) cf g 0 n (W.alloc (.cells #[.slice (some ⟨q, 0, none⟩) k k] T))) (hrow : W.ownsRow base 3 1 (.slice (some ⟨g, 0, none⟩) N cap) N (zs.map encN)) (hz : ∀ x ∈ zs, x < m + 1) (hs : zs.Pairwise (· < ·)) (hN : N < 40) :
    Calls Tryz.prog 48 #[.slice (some ⟨g, 0, none⟩) N cap, .slice (some ⟨q, 0, none⟩) k k] W fun e w' => e = .returned (.tuple #[]) ∧ w'.ownsRow base 3 1 (.slice (some ⟨g, 0, none⟩) N cap) N ((stabG cf zs).map encN) ∧ W.grownBy w' (some g) := by
  obtain ⟨hl, hg, hbg, ⟨cur, hcur, hn, hcm, hcs⟩, hH⟩ := own_get hrow
  refine (by24_num hw hC (dOf m zs) (by rw [dOf_size, hl]) (by rw [← hl]; exact dOf_asc hz hs) (fun T j hj => ?_) hN).mono ?_
  · rw [dOf_size] at hj
    obtain ⟨h1, h2⟩ := hH j hj
    rw [dOf_at hz hj]
    exact ⟨(World.cell?_alloc_old _ _ _ (by show g ≠ W.heap.size; omega)).trans h1, (World.frozen?_alloc_old _ _ _ (by show g ≠ W.heap.size; omega)).trans h2⟩
  · rintro e w' ⟨he, T, r, rfl⟩
    have hal : (W.alloc (.cells #[.slice (some ⟨q, 0, none⟩) k k] T)).heap[g]? = some (.cells cur 3 (0, 0)) := (Below.heap_alloc _ _ _ hg).trans hcur
    rw [dOf_size]
    have hst : (stabG cf zs).map encN = (Sort.insertionSort (ltOf cf) (dOf m zs) 0 zs.length).toList.map encF := by
      unfold stabG
      rw [List.map_map]
      rfl
    rw [hst]
    exact ⟨he, own_put hal hbg hn hcm hcs (by rw [stab_size hw, hl]), grown_trans (World.grownBy_alloc _ (.cells #[.slice (some ⟨q, 0, none⟩) k k] T) _) (put_grown2 (enc := encF) _ _ g (Sort.insertionSort (ltOf cf) (dOf m zs) 0 zs.length) rfl rfl rfl rfl)⟩
end
end Go.Proofs.YtnbnoacadhoimaaGreatDoor
namespace Go.Proofs.YtnbnoacadhoimaaGreatDoor
open Go Go.RowKit Go.Shelf

attribute [local go_sem] Oper.semAt_some
theorem own_some {w : World} {base size n : Nat} {e : TypeId} {v : Value} {xs : List Value} (h : w.ownsRow base e size v n xs) (hn : v ≠ .slice none 0 0) : ∃ g c, v = .slice (some ⟨g, 0, none⟩) n c := by
  rcases h.2 with ⟨e1, e2⟩ | ⟨g, cap, _, hv, _⟩
  · first | exact absurd e1 hn | exact absurd e2 hn
  · exact ⟨g, cap, hv⟩
theorem upSuit_asc (hs : List Hr) (c : Clim) (k : Nat) : (upSuit hs c k).Pairwise (· < ·) := List.pairwise_lt_range.filter _

section
variable {w : World} {A : Option Addr} {n cap : Nat} {hs : List Hr} {c : Clim} {need : Int}

theorem fans24 {k : Nat} (h : Hv w A n hs) (hn : n ≤ 1000) (hk : fansE hs c need = 0) (hf : need = (k : Int)) (h0 : 0 < (upSuit hs c hs.length).length) (h20 : (upSuit hs c hs.length).length < 40) (hkl : k ≤ (upSuit hs c hs.length).length) :
    Calls Tryz.prog 22 #[.slice A n cap, clv c, .int .i64 need] w fun e w' => (∃ v, e = .returned (.tuple #[v, .int .i64 0]) ∧ w'.ownsRow w.heap.size 3 1 v k ((fansL hs c k).map (Value.int .i64))) ∧ Below w.heap.size w w' := by
  have HF := qh hf
  clear hf
  have H := qh h
  have HN := qh (show n ≤ 100000 by omega)
  have HN2 := qh hn
  have HK := qh hk
  clear h hn hk
  obtain ⟨e1, he1⟩ : ∃ e, hoursE hs = e := ⟨_, rfl⟩
  obtain ⟨e2, he2⟩ : ∃ e, climE c = e := ⟨_, rfl⟩
  obtain ⟨g, hg⟩ : ∃ g, decide (need < 0) = g := ⟨_, rfl⟩
  obtain ⟨e3, he3⟩ : ∃ e, (if g then (3 : Int) else 0) = e := ⟨_, rfl⟩
  have HE1 := qh he1
  have HE2 := qh he2
  have HE3 := qh he3
  have HK2 : Hid (fnz [e1, e2, e3] = 0) := by
    show _ = _
    rw [← HK.out]
    unfold fansE
    rw [he1, he2, ← he3, ← hg]
    by_cases q : need < 0 <;> simp [q]
  clear HK he1 he2 he3
  have HK := HK2
  clear HK2
  refine (callsIn_wide (n := 5)).1 (callsIn_of_wp_marks Tryz.func22 rfl trivial ?_ rfl)
  simp only [Tryz.ntmps22, List.size_toArray, List.length_cons, List.length_nil, Nat.reduceAdd, Nat.reduceSub, Array.replicate_succ, Array.replicate_zero, List.push_toArray, List.append_toArray, List.nil_append, List.cons_append]
  gi_wp2
  obtain ⟨V, hV⟩ : ∃ V, (w.alloc (.cells #[.slice A n cap] 48)).alloc (.cells #[.int .i64 c.c, .int .i64 c.m, .int .i64 c.d, .int .i64 c.p] 50) = V := ⟨_, rfl⟩
  have bV : Below w.heap.size w V := by rw [← hV]; exact bi
  have v1 : V.cell? ⟨w.heap.size, 0, none⟩ = some (.slice A n cap) := by rw [← hV]; simp [go_sem]
  have v2 : V.cell? ⟨w.heap.size + 1, 0, none⟩ = some (.int .i64 c.c) := by rw [← hV]; simp [go_sem]
  have v3 : V.cell? ⟨w.heap.size + 1, 1, none⟩ = some (.int .i64 c.m) := by rw [← hV]; simp [go_sem]
  have v4 : V.cell? ⟨w.heap.size + 1, 2, none⟩ = some (.int .i64 c.d) := by rw [← hV]; simp [go_sem]
  have v5 : V.cell? ⟨w.heap.size + 1, 3, none⟩ = some (.int .i64 c.p) := by rw [← hV]; simp [go_sem]
  have z0 : w.heap.size < V.heap.size := by rw [← hV]; simp; omega
  have z1 : w.heap.size + 1 < V.heap.size := by rw [← hV]; simp
  rw [hV]
  clear hV
  replace H := qh (H.out.below bV)
  refine wpIn_wide.2 (wp_only ?_)
  refine wp_region_T (fun w' => Below V.heap.size V w') [] (by kernel_rfl) ?_
  refine tb 0 (.slice A n cap) [1] rfl (by kernel_rfl) pk rfl (by intros; go_simp) bq0 ?_
  simp only [ppq]
  refine tb 2 (clv c) [3] rfl (by kernel_rfl) pk rfl (by intros; go_simp) bq0 ?_
  simp only [ppq]
  refine tb 4 (.int .i64 need) [5] rfl (by kernel_rfl) pk rfl (by intros; go_simp) bq0 ?_
  simp only [ppq]
  refine tb 5 (.bool g) [6] rfl (by kernel_rfl) pk rfl (by intros; go_simp) bq0 ?_
  simp only [ppq]
  refine rd1 1 (by kernel_rfl) rfl (fun K hK => ?_)
  go_simp
  go_wp2_with (go_at_call 26; (with_reducible refine mo0 (hours_ok (H.out.below bi) HN.out HE1.out) fun w1 hb1 hc1 hf1 _ => ?_))
  have sS1 := qh (bst bq0 hb1)
  refine hK.out _ _ (fun _ => sS1.out) ?_
  clear hK K
  refine rd1 3 (by kernel_rfl) rfl (fun K hK => ?_)
  go_simp
  go_wp2_with (go_at_call 27; (with_reducible refine mo0 (climate_fact HE2.out) fun w2 hb2 hc2 hf2 _ => ?_))
  have sS2 := qh (bst sS1.out hb2)
  refine hK.out _ _ (fun _ => sS2.out) ?_
  clear hK K
  refine rd1 6 (by kernel_rfl) rfl (fun K hK => ?_)
  go_simp
  go_wp2_with (go_at_call 52; (with_reducible refine mo0 (when_fact HE3.out) fun w3 hb3 hc3 hf3 _ => ?_))
  have sS3 := qh (bst sS2.out hb3)
  refine hK.out _ _ (fun _ => sS3.out) ?_
  clear hK K
  refine rd1 7 (by kernel_rfl) rfl (fun K hK => ?_)
  go_simp
  refine hK.out _ _ (fun _ => bi) ?_
  clear hK K
  skip
  refine rd1 8 (by kernel_rfl) rfl (fun K hK => ?_)
  go_simp
  go_wp2_with (go_at_call 45; (with_reducible refine mo0 (first_ok (r := 0) iv3 (by omega) HK.out) fun w4 hb4 hc4 hf4 _ => ?_))
  refine hK.out _ _ (fun _ => bi) ?_
  clear hK K
  refine rd1 9 (by kernel_rfl) rfl (fun K hK => ?_)
  go_simp
  refine hK.out _ _ (fun _ => bi) ?_
  clear hK K
  refine wpAnyT_done (by kernel_rfl) ?_ _
  dsimp only
  have b4 : Below V.heap.size V w4 := bi
  have u1 := cell_on b4 v1
  have u2 := cell_on b4 v2
  have u3 := cell_on b4 v3
  have u4 := cell_on b4 v4
  have u5 := cell_on b4 v5
  have y0 : w.heap.size < w4.heap.size := Nat.lt_of_lt_of_le z0 b4.size
  have y1 : w.heap.size + 1 < w4.heap.size := Nat.lt_of_lt_of_le z1 b4.size
  replace H := qh (H.out.below b4)
  replace bV := bst bV b4
  clear v1 v2 v3 v4 v5 z0 z1 hc1 hc2 hc3 hc4 hf1 hf2 hf3 hf4
  gi_wp2_with (refine ⟨trivial, ?_⟩; gi_at_call 63; refine (callsIn_wide.2 (suitable_ok A n cap c)).mono ?_; rintro e5 w5 ⟨rfl, T, U, rfl⟩)
  have bO := ((Boxed.new w4 31 (.slice none 0 0)).alloc (.cells #[.slice A n cap] T)).alloc (.cells #[.int .i64 c.c, .int .i64 c.m, .int .i64 c.d, .int .i64 c.p] U)
  have B5 : Below w4.heap.size w4 (((w4.alloc (Obj.cells #[Value.slice none 0 0] 31)).alloc (.cells #[.slice A n cap] T)).alloc (.cells #[.int .i64 c.c, .int .i64 c.m, .int .i64 c.d, .int .i64 c.p] U)) := bi
  have s1 : (((w4.alloc (Obj.cells #[Value.slice none 0 0] 31)).alloc (.cells #[.slice A n cap] T)).alloc (.cells #[.int .i64 c.c, .int .i64 c.m, .int .i64 c.d, .int .i64 c.p] U)).cell? ⟨w4.heap.size + 1, 0, none⟩ = some (.slice A n cap) := by simp [go_sem]
  have s2 : (((w4.alloc (Obj.cells #[Value.slice none 0 0] 31)).alloc (.cells #[.slice A n cap] T)).alloc (.cells #[.int .i64 c.c, .int .i64 c.m, .int .i64 c.d, .int .i64 c.p] U)).cell? ⟨w4.heap.size + 1 + 1, 0, none⟩ = some (.int .i64 c.c) := by simp [go_sem]
  have s3 : (((w4.alloc (Obj.cells #[Value.slice none 0 0] 31)).alloc (.cells #[.slice A n cap] T)).alloc (.cells #[.int .i64 c.c, .int .i64 c.m, .int .i64 c.d, .int .i64 c.p] U)).cell? ⟨w4.heap.size + 1 + 1, 1, none⟩ = some (.int .i64 c.m) := by simp [go_sem]
  have s4 : (((w4.alloc (Obj.cells #[Value.slice none 0 0] 31)).alloc (.cells #[.slice A n cap] T)).alloc (.cells #[.int .i64 c.c, .int .i64 c.m, .int .i64 c.d, .int .i64 c.p] U)).cell? ⟨w4.heap.size + 1 + 1, 2, none⟩ = some (.int .i64 c.d) := by simp [go_sem]
  have s5 : (((w4.alloc (Obj.cells #[Value.slice none 0 0] 31)).alloc (.cells #[.slice A n cap] T)).alloc (.cells #[.int .i64 c.c, .int .i64 c.m, .int .i64 c.d, .int .i64 c.p] U)).cell? ⟨w4.heap.size + 1 + 1, 3, none⟩ = some (.int .i64 c.p) := by simp [go_sem]
  obtain ⟨W5, hW5⟩ : ∃ W, (((w4.alloc (Obj.cells #[Value.slice none 0 0] 31)).alloc (.cells #[.slice A n cap] T)).alloc (.cells #[.int .i64 c.c, .int .i64 c.m, .int .i64 c.d, .int .i64 c.p] U)) = W := ⟨_, rfl⟩
  have z5 : W5.heap.size = w4.heap.size + 1 + 1 + 1 := by rw [← hW5]; simp
  rw [hW5] at bO B5 s1 s2 s3 s4 s5 ⊢
  clear hW5 hb1 hb2 hb3 hb4 sS1 sS2 sS3 HE1 HE2 HE3 HK
  obtain ⟨b, off, hA, hbl, hHs⟩ := H.out.place (by omega)
  have hlen := H.out.len
  rw [← hlen] at s1
  have hreach : hs.length * 16 ≤ 140737488351232 := by have := HN2.out; omega
  obtain ⟨i0, hi, hz0, hz1, hz2⟩ := info_parts Tryz.info_int
  refine wpIn_rangeFunc_ownG rfl (by decide) (gf := 110) (lb := #[.pointer (some ⟨w4.heap.size + 1, 0, none⟩), .pointer (some ⟨w4.heap.size + 1 + 1, 0, none⟩)]) rfl trivial (enters_of Tryz.func110 (by kernel_rfl) rfl)
    (suitable_stops 4 (by decide) (w4.heap.size + 1) (w4.heap.size + 1 + 1) w4.heap.size b off cap A hs c hA hreach (by omega) hbl (by omega) (by omega) s1 ⟨⟨s2, s3⟩, s4, s5⟩ (hHs.on B5 hbl)) kpb_t (kpb_b (by omega) (by omega)) (Below.refl _ _) (fun _ => rfl)
    (fun pre W => ((∃ v, Boxed W w4.heap.size 31 v ∧ W.ownsRow W5.heap.size 3 1 v pre.length (pre.map encN) ∧ (v = .slice none 0 0 ↔ pre = [])) ∧ Below w4.heap.size w4 W) ∧ W5.heap.size ≤ W.heap.size)
    (fun _ _ _ => False)
    (OwnFrom.and (OwnFrom.and (Own.from (holdsRow_own W5.heap.size w4.heap.size 31 3 1 (fun pre => pre.length) (fun pre => pre.map encN) (fun pre v => v = .slice none 0 0 ↔ pre = [])) _) (ownFrom_below (Nat.le_refl _) (by omega))) (own_size _ _))
    (fun _ _ _ _ _ hs _ _ => hs)
    ⟨⟨⟨_, bO, World.ownsRow_nil _ _ _ _, by simp⟩, B5⟩, Nat.le_refl _⟩
    (fun x => { tmps := #[.slice A n cap, clv c, .int .i64 need, .pointer (some ⟨w.heap.size, 0, none⟩), .pointer (some ⟨w.heap.size + 1, 0, none⟩), undef, .slice none 0 0, .int .i64 0, .int .i64 0, .pointer (some ⟨w4.heap.size, 0, none⟩), encN x, undef, .slice A n cap, .int .i64 e1, clv c, .int .i64 e2, .int .i64 need, .bool g, .int .i64 e3, .slice (some ⟨w3.heap.size, 0, none⟩) 3 3, .int .i64 0, .int .i64 0, .bool false, undef, .slice A n cap, clv c, .func (.func 110) #[] #[.pointer (some ⟨w4.heap.size + 1, 0, none⟩), .pointer (some ⟨w4.heap.size + 1 + 1, 0, none⟩)], encN x, undef, undef, undef, undef, undef, undef, undef, undef, undef, undef, undef, undef, undef, undef, undef, undef, undef, undef, undef], defers := [] }) ?assign ?body ?done ?stop
  case assign =>
    intro l x W K hK
    gi_wp2
    exact hK
  case stop =>
    rintro D c pre W _ _ h _
    exact h.elim
  case body =>
    rintro l pre x W ⟨⟨⟨v, hv, hrow, hnil⟩, hB⟩, hSz⟩ hlt
    have hc := hv.cell
    have hp : pre.length + 1 ≤ 1000 := by have := HN2.out; omega
    gi_wp2_with (gi_at_builtin; refine wpListIn_append_own _ rfl _ _ 31 rfl W5.heap.size 3 i0 (.int .i64 0) 1 8 Tryz.underlying31 hi hz0 hz1 hz2 rfl (by decide) _ _ _ rfl (hrow.alloc _) ⟨W.heap.size, 0, none⟩ 1 1 [encN x] rfl rfl (cell_one_new _ _ _) (by simp [Value.oneCell']) (by unfold maxLen; omega) (by omega) (by simp; omega) ?_; intro v' w1 hown' hgrow _; obtain ⟨g', cap', rfl⟩ := ownsRow_succ hown'; obtain ⟨hv1, hv2, hr2, hk2, hb2⟩ := hv.appended (by decide) (own_le hrow (by omega)) (by omega) (Nat.le_refl _) (own_le hown' (by omega)) hgrow; have hc1 := hv1.cell; have hf1 := hv1.frozen)
    have hbc : (w1.setCell ⟨w4.heap.size, 0, none⟩ (.slice (some ⟨g', 0, none⟩) (pre.length + 1) cap')).heap[w4.heap.size + 1 + 1]? = W.heap[w4.heap.size + 1 + 1]? := by
      rw [Below.heap_setCell _ _ _ _ (by dsimp only; omega), hgrow.block _ (by simp; omega) (fun e => by have := (hrow.lt _ e.symm).1; omega)]
      exact Below.heap_alloc _ _ _ (by omega)
    exact ⟨hk2.from _, ⟨hb2, hbc⟩, ⟨⟨_, hv2, by rw [List.length_append, List.map_append]; exact hown'.kept (grownBy_setCell' _ _ _) (.inr (hv1.not_row (by decide) hown').symm), by simp⟩, hB.trans hb2⟩, Nat.le_trans hSz (Nat.le_trans (by simp) (Nat.le_trans hgrow.size (by simp)))⟩
  case done =>
    rintro D ys W hD hys ⟨⟨⟨v, hv, hrow, hnil⟩, hB⟩, hSz⟩ hK
    have hc := hv.cell
    subst hys
    have hf := HF.out
    subst hf
    obtain ⟨N, hN⟩ : ∃ N, (upSuit hs c hs.length).length = N := ⟨_, rfl⟩
    have hall : ∀ x ∈ upSuit hs c hs.length, x < (hs.length - 1) + 1 := fun x hx => by have := upSuit_lt hx; omega
    rw [hN] at hrow h0 h20 hkl
    obtain ⟨g, cv, rfl⟩ : ∃ g cv, v = .slice (some ⟨g, 0, none⟩) N cv := by
      rcases hrow.2 with ⟨_, e⟩ | ⟨g, cap, _, hv, _⟩
      · omega
      · exact ⟨g, cap, hv⟩
    have hgl := hrow.lt g rfl
    have hgne : ∀ k, w4.heap.size ≤ k → k < W5.heap.size → g ≠ k := fun k _ _ => by omega
    have q1 : decide ((N : Int) < (k : Int)) = false := by simp; omega
    have q2 : decide (N < k) = false := by simp; omega
    have hpos : 0 < hs.length := by
      rcases Nat.eq_zero_or_pos hs.length with e | e
      · rw [e] at hN; simp [upSuit] at hN; omega
      · exact e
    have hAA := hA hpos
    subst hAA
    have HBY : Hid (ByW (W.alloc (.cells #[.func (.func 64) #[] #[.pointer (some ⟨w.heap.size, 0, none⟩)]] 100)) g W.heap.size w.heap.size b off cap (hs.length - 1) hs) := qh (by
      have c3 : W.cell? ⟨w.heap.size, 0, none⟩ = some (.slice (some ⟨b, off, none⟩) hs.length cap) := (hB.cell (p := ⟨w.heap.size, 0, none⟩) y0).trans (by rw [hlen]; exact u1)
      have bA : Below W.heap.size W (W.alloc (.cells #[.func (.func 64) #[] #[.pointer (some ⟨w.heap.size, 0, none⟩)]] 100)) := below_alloc (Below.refl _ _) _
      exact ⟨by simp [go_sem], (bA.cell (p := ⟨w.heap.size, 0, none⟩) (by dsimp only; omega)).trans c3, (hHs.on hB hbl).on bA (by omega), by omega, by omega, by omega, by simp; omega, by simp, by simp; omega, by simp; omega, by omega⟩)
    have hrow1 := hrow.alloc (.cells #[.func (.func 64) #[] #[.pointer (some ⟨w.heap.size, 0, none⟩)]] 100)
    have HR1 := qh hrow1
    have HDK := qh hK
    have HBX := qh hv
    have HH := qh (And.intro hall (And.intro h20 hkl))
    have hkN : k ≤ N := hkl
    have hNc : N ≤ cv := by
      rcases hrow.2 with ⟨e, _⟩ | ⟨g', cap, cur, e, _, _, h1, _⟩
      · cases e
      · cases e; exact h1
    have gne : g ≠ w4.heap.size := hgne _ (Nat.le_refl _) (by omega)
    clear hA hHs s1 s2 s3 s4 s5 u1 u2 u3 u4 u5 hrow1 hrow hK hv bO B5 hnil hlen hall h20 hkl
    gi_wp2_with (first | (refine ⟨trivial, ?_⟩; gi_at_call 48; refine (callsIn_wide.2 (by24_own (ltOf_swo hs (hs.length - 1 + 1)) (fun T n => cmpReads (HBY.out.boxed (T := T)) n) HR1.out HH.out.1 (upSuit_asc _ _ _) HH.out.2.1)).mono ?_; rintro e6 w6 ⟨rfl, hr6, hg6⟩; have c6 := ((HBX.out.alloc _).kept hg6 (fun e => gne (Option.some.inj e).symm)).cell) | (refine ⟨trivial, ?_⟩; gi_at_call 66; refine (callsIn_wide.2 (clone_own hr6 hkN (by have := HH.out.2.1; omega))).mono ?_; rintro e7 w7 ⟨v7, rfl, hr7, hne7, hb7⟩; have _ := bm hb7; obtain ⟨g7, c7, rfl⟩ := own_some hr7 hne7) | (refine ⟨trivial, ?_⟩; gi_at_call 67; refine (callsIn_wide.2 (sort_own hr7 (by have := HH.out.2.1; omega))).mono ?_; rintro e8 w8 ⟨rfl, hr8, hg8⟩))
    have hg7 := (hr7.lt g7 rfl).1
    have sA : (W.alloc (.cells #[.func (.func 64) #[] #[.pointer (some ⟨w.heap.size, 0, none⟩)]] 100)).heap.size = W.heap.size + 1 := by simp
    have s6 := hg6.size
    rw [sA] at s6
    have hDl : D < W.heap.size := (Array.getElem?_eq_some_iff.1 HDK.out).1
    have k1 : (W.alloc (.cells #[.func (.func 64) #[] #[.pointer (some ⟨w.heap.size, 0, none⟩)]] 100)).heap[D]? = some (.deferred (some [])) := (Below.heap_alloc _ _ _ hDl).trans HDK.out
    have hDg : g ≠ D := fun e => by
      rcases HR1.out.2 with ⟨e1, _⟩ | ⟨g', cap, cur, e1, _, h1, _⟩
      · cases e1
      · cases e1
        rw [e, k1] at h1
        cases h1
    have k2 : w6.heap[D]? = some (.deferred (some [])) := (hg6.block D (by omega) (fun e => hDg (Option.some.inj e).symm)).trans k1
    have k3 : w7.heap[D]? = some (.deferred (some [])) := (hb7.block D (by omega)).trans k2
    have k4 : w8.heap[D]? = some (.deferred (some [])) := (hg8.block D (by have := hb7.size; omega) (fun e => by have := Option.some.inj e; omega)).trans k3
    have b1 : Below w.heap.size w W := bV.trans (hB.mono (by omega))
    have b2 : Below w.heap.size w w6 := (below_alloc b1 (.cells #[.func (.func 64) #[] #[.pointer (some ⟨w.heap.size, 0, none⟩)]] 100)).grown hg6 (by omega) (fun k e => by have := Option.some.inj e; omega)
    have b3 : Below w.heap.size w w7 := b2.trans (hb7.mono (by omega))
    have b4 : Below w.heap.size w w8 := b3.grown hg8 (by have := hb7.size; omega) (fun k e => by have := Option.some.inj e; omega)
    refine ⟨by simp, .inl ⟨_, _, rfl, run_takeDeferred k4, ?_⟩⟩
    exact ⟨.tuple #[.slice (some ⟨g7, 0, none⟩) k c7, .int .i64 0], by simp [results, Tryz.results22, go_sem], ⟨_, rfl, ownsRow_putObj (own_le hr8 (by omega)) _ k4 rfl⟩, b4.trans (belowK_b (w := w) (Nat.le_refl _) w8 D _ _ (by omega) k4 rfl rfl)⟩
end

attribute [local go_sem] Oper.semAt_some
section
variable {w : World} {f : Value}
theorem ins_nil : Calls Tryz.prog 180 #[.slice none 0 0, .int .i64 0, .int .i64 0, f] w fun e w' => e = .returned (.tuple #[]) ∧ Below w.heap.size w w' := by
  go_enter Tryz.func180, Tryz.ntmps180
  go_wp2
  go_loopw [8] (fun a wr => a = .int .i64 1 ∧ wr = w) (fun _ _ => 0)
  case atStart => exact ⟨rfl, rfl⟩
  case round =>
    obtain ⟨rfl, rfl⟩ := hrel
    go_wp2
    go_end0
    exact ⟨rfl, Below.refl _ _⟩
theorem stable_nil : Calls Tryz.prog 139 #[.slice none 0 0, .int .i64 0, f] w fun e w' => e = .returned (.tuple #[]) ∧ Below w.heap.size w w' := by
  go_enter Tryz.func139, Tryz.ntmps139
  go_wp2
  go_loopw [7, 8] (fun a b wr => a = .int .i64 0 ∧ b = .int .i64 20 ∧ wr = w) (fun _ _ _ => 0)
  case atStart => exact ⟨rfl, rfl, rfl⟩
  case round =>
    obtain ⟨rfl, rfl, rfl⟩ := hrel
    go_wp2_with (go_at_call 180; (with_reducible refine mz ins_nil fun w1 hb1 _ => ?_))
    go_loopw [6] (fun a wr => a = .int .i64 20 ∧ wr = w1) (fun _ _ => 0)
    case atStart => exact ⟨rfl, rfl⟩
    case round =>
      obtain ⟨rfl, rfl⟩ := hrel
      go_wp2
      go_end0
      exact ⟨rfl, hb1⟩
theorem sortStable_nil : Calls Tryz.prog 107 #[.slice none 0 0, f] w fun e w' => e = .returned (.tuple #[]) ∧ Below w.heap.size w w' := by
  go_enter Tryz.func107, Tryz.ntmps107
  go_wp2_with (go_at_call 139; (with_reducible refine mz stable_nil fun w1 hb1 _ => ?_))
  go_end0
  exact ⟨rfl, hb1⟩
theorem by_nil {g : Value} : Calls Tryz.prog 48 #[.slice none 0 0, g] w fun e w' => e = .returned (.tuple #[]) ∧ Below w.heap.size w w' := by
  go_enter Tryz.func48, Tryz.ntmps48
  go_wp2_with (go_at_call 107; (with_reducible refine mz sortStable_nil fun w1 hb1 _ => ?_))
  go_end0
  exact ⟨rfl, bi⟩
theorem clone_nil : Calls Tryz.prog 66 #[.slice none 0 0] w fun e w' => e = .returned (.slice none 0 0) ∧ Below w.heap.size w w' := by
  have q : ∀ (w : World) (a : Option Addr) (n c n' c' : Nat), (binOp .eql 31 (.slice a n c) (.slice none n' c')).run Tryz.prog w = .ok (.bool a.isNone) w := fun w a n c n' c' => Lib.run_eql_slice_nil w _ _ a n c n' c' Tryz.underlying31
  go_enter Tryz.func66, Tryz.ntmps66
  go_wp2
  go_ret
  exact ⟨rfl, Below.refl _ _⟩
theorem sort_nil : Calls Tryz.prog 67 #[.slice none 0 0] w fun e w' => e = .returned (.tuple #[]) ∧ Below w.heap.size w w' := by
  refine (Tryz.slices_Sort_int_none none 0 w).mono ?_
  rintro e w' ⟨rfl, rfl⟩
  exact ⟨rfl, Below.refl _ _⟩
end
section
variable {w : World} {A : Option Addr} {n cap : Nat} {hs : List Hr} {c : Clim} {need : Int}


theorem fans_zero (h : Hv w A n hs) (hn : n ≤ 1000) (hk : fansE hs c need = 0) (hf : need = 0) (h0 : (upSuit hs c hs.length).length = 0) : Calls Tryz.prog 22 #[.slice A n cap, clv c, .int .i64 need] w fun e w' => e = .returned (.tuple #[.slice none 0 0, .int .i64 0]) ∧ Below w.heap.size w w' := by
  have HF := qh hf
  clear hf
  have H := qh h
  have HN := qh (show n ≤ 100000 by omega)
  have HN2 := qh hn
  have HK := qh hk
  clear h hn hk
  obtain ⟨e1, he1⟩ : ∃ e, hoursE hs = e := ⟨_, rfl⟩
  obtain ⟨e2, he2⟩ : ∃ e, climE c = e := ⟨_, rfl⟩
  obtain ⟨g, hg⟩ : ∃ g, decide (need < 0) = g := ⟨_, rfl⟩
  obtain ⟨e3, he3⟩ : ∃ e, (if g then (3 : Int) else 0) = e := ⟨_, rfl⟩
  have HE1 := qh he1
  have HE2 := qh he2
  have HE3 := qh he3
  have HK2 : Hid (fnz [e1, e2, e3] = 0) := by
    show _ = _
    rw [← HK.out]
    unfold fansE
    rw [he1, he2, ← he3, ← hg]
    by_cases q : need < 0 <;> simp [q]
  clear HK he1 he2 he3
  have HK := HK2
  clear HK2
  refine (callsIn_wide (n := 5)).1 (callsIn_of_wp_marks Tryz.func22 rfl trivial ?_ rfl)
  simp only [Tryz.ntmps22, List.size_toArray, List.length_cons, List.length_nil, Nat.reduceAdd, Nat.reduceSub, Array.replicate_succ, Array.replicate_zero, List.push_toArray, List.append_toArray, List.nil_append, List.cons_append]
  gi_wp2
  obtain ⟨V, hV⟩ : ∃ V, (w.alloc (.cells #[.slice A n cap] 48)).alloc (.cells #[.int .i64 c.c, .int .i64 c.m, .int .i64 c.d, .int .i64 c.p] 50) = V := ⟨_, rfl⟩
  have bV : Below w.heap.size w V := by rw [← hV]; exact bi
  have v1 : V.cell? ⟨w.heap.size, 0, none⟩ = some (.slice A n cap) := by rw [← hV]; simp [go_sem]
  have v2 : V.cell? ⟨w.heap.size + 1, 0, none⟩ = some (.int .i64 c.c) := by rw [← hV]; simp [go_sem]
  have v3 : V.cell? ⟨w.heap.size + 1, 1, none⟩ = some (.int .i64 c.m) := by rw [← hV]; simp [go_sem]
  have v4 : V.cell? ⟨w.heap.size + 1, 2, none⟩ = some (.int .i64 c.d) := by rw [← hV]; simp [go_sem]
  have v5 : V.cell? ⟨w.heap.size + 1, 3, none⟩ = some (.int .i64 c.p) := by rw [← hV]; simp [go_sem]
  have z0 : w.heap.size < V.heap.size := by rw [← hV]; simp; omega
  have z1 : w.heap.size + 1 < V.heap.size := by rw [← hV]; simp
  rw [hV]
  clear hV
  replace H := qh (H.out.below bV)
  refine wpIn_wide.2 (wp_only ?_)
  refine wp_region_T (fun w' => Below V.heap.size V w') [] (by kernel_rfl) ?_
  refine tb 0 (.slice A n cap) [1] rfl (by kernel_rfl) pk rfl (by intros; go_simp) bq0 ?_
  simp only [ppq]
  refine tb 2 (clv c) [3] rfl (by kernel_rfl) pk rfl (by intros; go_simp) bq0 ?_
  simp only [ppq]
  refine tb 4 (.int .i64 need) [5] rfl (by kernel_rfl) pk rfl (by intros; go_simp) bq0 ?_
  simp only [ppq]
  refine tb 5 (.bool g) [6] rfl (by kernel_rfl) pk rfl (by intros; go_simp) bq0 ?_
  simp only [ppq]
  refine rd1 1 (by kernel_rfl) rfl (fun K hK => ?_)
  go_simp
  go_wp2_with (go_at_call 26; (with_reducible refine mo0 (hours_ok (H.out.below bi) HN.out HE1.out) fun w1 hb1 hc1 hf1 _ => ?_))
  have sS1 := qh (bst bq0 hb1)
  refine hK.out _ _ (fun _ => sS1.out) ?_
  clear hK K
  refine rd1 3 (by kernel_rfl) rfl (fun K hK => ?_)
  go_simp
  go_wp2_with (go_at_call 27; (with_reducible refine mo0 (climate_fact HE2.out) fun w2 hb2 hc2 hf2 _ => ?_))
  have sS2 := qh (bst sS1.out hb2)
  refine hK.out _ _ (fun _ => sS2.out) ?_
  clear hK K
  refine rd1 6 (by kernel_rfl) rfl (fun K hK => ?_)
  go_simp
  go_wp2_with (go_at_call 52; (with_reducible refine mo0 (when_fact HE3.out) fun w3 hb3 hc3 hf3 _ => ?_))
  have sS3 := qh (bst sS2.out hb3)
  refine hK.out _ _ (fun _ => sS3.out) ?_
  clear hK K
  refine rd1 7 (by kernel_rfl) rfl (fun K hK => ?_)
  go_simp
  refine hK.out _ _ (fun _ => bi) ?_
  clear hK K
  skip
  refine rd1 8 (by kernel_rfl) rfl (fun K hK => ?_)
  go_simp
  go_wp2_with (go_at_call 45; (with_reducible refine mo0 (first_ok (r := 0) iv3 (by omega) HK.out) fun w4 hb4 hc4 hf4 _ => ?_))
  refine hK.out _ _ (fun _ => bi) ?_
  clear hK K
  refine rd1 9 (by kernel_rfl) rfl (fun K hK => ?_)
  go_simp
  refine hK.out _ _ (fun _ => bi) ?_
  clear hK K
  refine wpAnyT_done (by kernel_rfl) ?_ _
  dsimp only
  have b4 : Below V.heap.size V w4 := bi
  have u1 := cell_on b4 v1
  have u2 := cell_on b4 v2
  have u3 := cell_on b4 v3
  have u4 := cell_on b4 v4
  have u5 := cell_on b4 v5
  have y0 : w.heap.size < w4.heap.size := Nat.lt_of_lt_of_le z0 b4.size
  have y1 : w.heap.size + 1 < w4.heap.size := Nat.lt_of_lt_of_le z1 b4.size
  replace H := qh (H.out.below b4)
  replace bV := bst bV b4
  clear v1 v2 v3 v4 v5 z0 z1 hc1 hc2 hc3 hc4 hf1 hf2 hf3 hf4
  gi_wp2_with (refine ⟨trivial, ?_⟩; gi_at_call 63; refine (callsIn_wide.2 (suitable_ok A n cap c)).mono ?_; rintro e5 w5 ⟨rfl, T, U, rfl⟩)
  have bO := ((Boxed.new w4 31 (.slice none 0 0)).alloc (.cells #[.slice A n cap] T)).alloc (.cells #[.int .i64 c.c, .int .i64 c.m, .int .i64 c.d, .int .i64 c.p] U)
  have B5 : Below w4.heap.size w4 (((w4.alloc (Obj.cells #[Value.slice none 0 0] 31)).alloc (.cells #[.slice A n cap] T)).alloc (.cells #[.int .i64 c.c, .int .i64 c.m, .int .i64 c.d, .int .i64 c.p] U)) := bi
  have s1 : (((w4.alloc (Obj.cells #[Value.slice none 0 0] 31)).alloc (.cells #[.slice A n cap] T)).alloc (.cells #[.int .i64 c.c, .int .i64 c.m, .int .i64 c.d, .int .i64 c.p] U)).cell? ⟨w4.heap.size + 1, 0, none⟩ = some (.slice A n cap) := by simp [go_sem]
  have s2 : (((w4.alloc (Obj.cells #[Value.slice none 0 0] 31)).alloc (.cells #[.slice A n cap] T)).alloc (.cells #[.int .i64 c.c, .int .i64 c.m, .int .i64 c.d, .int .i64 c.p] U)).cell? ⟨w4.heap.size + 1 + 1, 0, none⟩ = some (.int .i64 c.c) := by simp [go_sem]
  have s3 : (((w4.alloc (Obj.cells #[Value.slice none 0 0] 31)).alloc (.cells #[.slice A n cap] T)).alloc (.cells #[.int .i64 c.c, .int .i64 c.m, .int .i64 c.d, .int .i64 c.p] U)).cell? ⟨w4.heap.size + 1 + 1, 1, none⟩ = some (.int .i64 c.m) := by simp [go_sem]
  have s4 : (((w4.alloc (Obj.cells #[Value.slice none 0 0] 31)).alloc (.cells #[.slice A n cap] T)).alloc (.cells #[.int .i64 c.c, .int .i64 c.m, .int .i64 c.d, .int .i64 c.p] U)).cell? ⟨w4.heap.size + 1 + 1, 2, none⟩ = some (.int .i64 c.d) := by simp [go_sem]
  have s5 : (((w4.alloc (Obj.cells #[Value.slice none 0 0] 31)).alloc (.cells #[.slice A n cap] T)).alloc (.cells #[.int .i64 c.c, .int .i64 c.m, .int .i64 c.d, .int .i64 c.p] U)).cell? ⟨w4.heap.size + 1 + 1, 3, none⟩ = some (.int .i64 c.p) := by simp [go_sem]
  obtain ⟨W5, hW5⟩ : ∃ W, (((w4.alloc (Obj.cells #[Value.slice none 0 0] 31)).alloc (.cells #[.slice A n cap] T)).alloc (.cells #[.int .i64 c.c, .int .i64 c.m, .int .i64 c.d, .int .i64 c.p] U)) = W := ⟨_, rfl⟩
  have z5 : W5.heap.size = w4.heap.size + 1 + 1 + 1 := by rw [← hW5]; simp
  rw [hW5] at bO B5 s1 s2 s3 s4 s5 ⊢
  clear hW5 hb1 hb2 hb3 hb4 sS1 sS2 sS3 HE1 HE2 HE3 HK
  obtain ⟨b, off, hA, hbl, hHs⟩ := H.out.place (by omega)
  have hlen := H.out.len
  rw [← hlen] at s1
  have hreach : hs.length * 16 ≤ 140737488351232 := by have := HN2.out; omega
  obtain ⟨i0, hi, hz0, hz1, hz2⟩ := info_parts Tryz.info_int
  refine wpIn_rangeFunc_ownG rfl (by decide) (gf := 110) (lb := #[.pointer (some ⟨w4.heap.size + 1, 0, none⟩), .pointer (some ⟨w4.heap.size + 1 + 1, 0, none⟩)]) rfl trivial (enters_of Tryz.func110 (by kernel_rfl) rfl)
    (suitable_stops 4 (by decide) (w4.heap.size + 1) (w4.heap.size + 1 + 1) w4.heap.size b off cap A hs c hA hreach (by omega) hbl (by omega) (by omega) s1 ⟨⟨s2, s3⟩, s4, s5⟩ (hHs.on B5 hbl)) kpb_t (kpb_b (by omega) (by omega)) (Below.refl _ _) (fun _ => rfl)
    (fun pre W => ((∃ v, Boxed W w4.heap.size 31 v ∧ W.ownsRow W5.heap.size 3 1 v pre.length (pre.map encN) ∧ (v = .slice none 0 0 ↔ pre = [])) ∧ Below w4.heap.size w4 W) ∧ W5.heap.size ≤ W.heap.size)
    (fun _ _ _ => False)
    (OwnFrom.and (OwnFrom.and (Own.from (holdsRow_own W5.heap.size w4.heap.size 31 3 1 (fun pre => pre.length) (fun pre => pre.map encN) (fun pre v => v = .slice none 0 0 ↔ pre = [])) _) (ownFrom_below (Nat.le_refl _) (by omega))) (own_size _ _))
    (fun _ _ _ _ _ hs _ _ => hs)
    ⟨⟨⟨_, bO, World.ownsRow_nil _ _ _ _, by simp⟩, B5⟩, Nat.le_refl _⟩
    (fun x => { tmps := #[.slice A n cap, clv c, .int .i64 need, .pointer (some ⟨w.heap.size, 0, none⟩), .pointer (some ⟨w.heap.size + 1, 0, none⟩), undef, .slice none 0 0, .int .i64 0, .int .i64 0, .pointer (some ⟨w4.heap.size, 0, none⟩), encN x, undef, .slice A n cap, .int .i64 e1, clv c, .int .i64 e2, .int .i64 need, .bool g, .int .i64 e3, .slice (some ⟨w3.heap.size, 0, none⟩) 3 3, .int .i64 0, .int .i64 0, .bool false, undef, .slice A n cap, clv c, .func (.func 110) #[] #[.pointer (some ⟨w4.heap.size + 1, 0, none⟩), .pointer (some ⟨w4.heap.size + 1 + 1, 0, none⟩)], encN x, undef, undef, undef, undef, undef, undef, undef, undef, undef, undef, undef, undef, undef, undef, undef, undef, undef, undef, undef], defers := [] }) ?assign ?body ?done ?stop
  case assign =>
    intro l x W K hK
    gi_wp2
    exact hK
  case stop =>
    rintro D c pre W _ _ h _
    exact h.elim
  case body =>
    rintro l pre x W ⟨⟨⟨v, hv, hrow, hnil⟩, hB⟩, hSz⟩ hlt
    have hc := hv.cell
    have hp : pre.length + 1 ≤ 1000 := by have := HN2.out; omega
    gi_wp2_with (gi_at_builtin; refine wpListIn_append_own _ rfl _ _ 31 rfl W5.heap.size 3 i0 (.int .i64 0) 1 8 Tryz.underlying31 hi hz0 hz1 hz2 rfl (by decide) _ _ _ rfl (hrow.alloc _) ⟨W.heap.size, 0, none⟩ 1 1 [encN x] rfl rfl (cell_one_new _ _ _) (by simp [Value.oneCell']) (by unfold maxLen; omega) (by omega) (by simp; omega) ?_; intro v' w1 hown' hgrow _; obtain ⟨g', cap', rfl⟩ := ownsRow_succ hown'; obtain ⟨hv1, hv2, hr2, hk2, hb2⟩ := hv.appended (by decide) (own_le hrow (by omega)) (by omega) (Nat.le_refl _) (own_le hown' (by omega)) hgrow; have hc1 := hv1.cell; have hf1 := hv1.frozen)
    have hbc : (w1.setCell ⟨w4.heap.size, 0, none⟩ (.slice (some ⟨g', 0, none⟩) (pre.length + 1) cap')).heap[w4.heap.size + 1 + 1]? = W.heap[w4.heap.size + 1 + 1]? := by
      rw [Below.heap_setCell _ _ _ _ (by dsimp only; omega), hgrow.block _ (by simp; omega) (fun e => by have := (hrow.lt _ e.symm).1; omega)]
      exact Below.heap_alloc _ _ _ (by omega)
    exact ⟨hk2.from _, ⟨hb2, hbc⟩, ⟨⟨_, hv2, by rw [List.length_append, List.map_append]; exact hown'.kept (grownBy_setCell' _ _ _) (.inr (hv1.not_row (by decide) hown').symm), by simp⟩, hB.trans hb2⟩, Nat.le_trans hSz (Nat.le_trans (by simp) (Nat.le_trans hgrow.size (by simp)))⟩
  case done =>
    rintro D ys W hD hys ⟨⟨⟨v, hv, hrow, hnil⟩, hB⟩, hSz⟩ hK
    have hc := hv.cell
    subst hys
    have hf := HF.out
    subst hf
    obtain rfl : v = .slice none 0 0 := hnil.2 (by simpa using h0)
    clear hnil
    have q1 : decide (((upSuit hs c hs.length).length : Int) < 0) = false := by simp
    have HDK := qh hK
    have HBX := qh hv
    have hDl : D < W.heap.size := (Array.getElem?_eq_some_iff.1 hK).1
    clear hA hHs s1 s2 s3 s4 s5 u1 u2 u3 u4 u5 hrow hv bO B5 hlen hK
    gi_wp2_with (first | (refine ⟨trivial, ?_⟩; gi_at_call 48; refine (callsIn_wide.2 by_nil).mono ?_; rintro e6 w6 ⟨rfl, hb6⟩; have _ := bm hb6; have c6 := cell_on hb6 (HBX.out.alloc _).cell) | (refine ⟨trivial, ?_⟩; gi_at_call 66; refine (callsIn_wide.2 clone_nil).mono ?_; rintro e7 w7 ⟨rfl, hb7⟩; have _ := bm hb7) | (refine ⟨trivial, ?_⟩; gi_at_call 67; refine (callsIn_wide.2 sort_nil).mono ?_; rintro e8 w8 ⟨rfl, hb8⟩; have _ := bm hb8))
    have sA : (W.alloc (.cells #[.func (.func 64) #[] #[.pointer (some ⟨w.heap.size, 0, none⟩)]] 100)).heap.size = W.heap.size + 1 := by simp
    have s6 := hb6.size
    have s7 := hb7.size
    rw [sA] at s6
    have k1 : (W.alloc (.cells #[.func (.func 64) #[] #[.pointer (some ⟨w.heap.size, 0, none⟩)]] 100)).heap[D]? = some (.deferred (some [])) := (Below.heap_alloc _ _ _ hDl).trans HDK.out
    have k2 : w6.heap[D]? = some (.deferred (some [])) := (hb6.block D (by omega)).trans k1
    have k3 : w7.heap[D]? = some (.deferred (some [])) := (hb7.block D (by omega)).trans k2
    have k4 : w8.heap[D]? = some (.deferred (some [])) := (hb8.block D (by omega)).trans k3
    have b1 : Below w.heap.size w W := bV.trans (hB.mono (by omega))
    have b2 : Below w.heap.size w w6 := (below_alloc b1 (.cells #[.func (.func 64) #[] #[.pointer (some ⟨w.heap.size, 0, none⟩)]] 100)).trans (hb6.mono (by omega))
    have b4 : Below w.heap.size w w8 := (b2.trans (hb7.mono (by omega))).trans (hb8.mono (by omega))
    refine ⟨by simp, .inl ⟨_, _, rfl, run_takeDeferred k4, ?_⟩⟩
    exact ⟨.tuple #[.slice none 0 0, .int .i64 0], by simp [results, Tryz.results22, go_sem], rfl, b4.trans (belowK_b (w := w) (Nat.le_refl _) w8 D _ _ (by omega) k4 rfl rfl)⟩
end
end Go.Proofs.YtnbnoacadhoimaaGreatDoor
namespace Go.Proofs.YtnbnoacadhoimaaGreatDoor
open Go Go.RowKit

def suitsE (h : Hr) (c : Clim) : Int := fnz [if !hourB h then 3 else 0, climE c]
section
variable {w : World}
theorem suits_fact {h : Hr} {c : Clim} {r : Bool} (hr : suitB h c = r) : Calls Tryz.prog 62 #[hrv h, clv c] w fun e w' => e = .returned (.bool r) ∧ Below w.heap.size w w' := hr ▸ suits_ok h c
theorem isHour_fact {t u : Int} {r : Bool} (hr : hourB (t, u) = r) : Calls Tryz.prog 61 #[.agg #[.int .i64 t, .int .i64 u]] w fun e w' => e = .returned (.bool r) ∧ Below w.heap.size w w' := hr ▸ isHour_ok t u
theorem climate_fact' {c : Clim} {r : Int} (hr : climE c = r) : Calls Tryz.prog 27 #[clv c] w fun e w' => e = .returned (.int .i64 r) ∧ Below w.heap.size w w' := hr ▸ climate_ok c
theorem suits_all {h : Hr} {c : Clim} {k : Int} {s : Bool} (hk : suitsE h c = k) (hs : (decide (k = 0) && suitB h c) = s) : Calls Tryz.prog 21 #[hrv h, clv c] w fun e w' => e = .returned (.tuple #[.bool s, .int .i64 k]) ∧ Below w.heap.size w w' := by
  obtain ⟨t, u⟩ := h
  obtain ⟨b1, h1⟩ : ∃ b, hourB (t, u) = b := ⟨_, rfl⟩
  obtain ⟨e1, h2⟩ : ∃ e, (if !b1 then (3 : Int) else 0) = e := ⟨_, rfl⟩
  obtain ⟨e2, h3⟩ : ∃ e, climE c = e := ⟨_, rfl⟩
  have h4 : fnz [e1, e2] = k := by rw [← hk]; unfold suitsE; rw [h1, h2, h3]
  obtain ⟨sb, h5⟩ : ∃ s, suitB (t, u) c = s := ⟨_, rfl⟩
  rw [h5] at hs
  have H1 := qh h1
  have H2 := qh h2
  have H3 := qh h3
  have HK := qh h4
  have H5 := qh h5
  have HS := qh hs
  clear h1 h2 h3 h4 h5 hk hs
  go_enter Tryz.func21, Tryz.ntmps21
  go_upto_region 1 with (fail)
  obtain ⟨V, hV⟩ : ∃ V, (w.alloc (.cells #[.int .i64 t, .int .i64 u] 52)).alloc (.cells #[.int .i64 c.c, .int .i64 c.m, .int .i64 c.d, .int .i64 c.p] 50) = V := ⟨_, rfl⟩
  have bV : Below w.heap.size w V := by rw [← hV]; exact bi
  have v1 : V.cell? ⟨w.heap.size, 0, none⟩ = some (.int .i64 t) := by rw [← hV]; simp [go_sem]
  have v6 : V.cell? ⟨w.heap.size, 1, none⟩ = some (.int .i64 u) := by rw [← hV]; simp [go_sem]
  have v2 : V.cell? ⟨w.heap.size + 1, 0, none⟩ = some (.int .i64 c.c) := by rw [← hV]; simp [go_sem]
  have v3 : V.cell? ⟨w.heap.size + 1, 1, none⟩ = some (.int .i64 c.m) := by rw [← hV]; simp [go_sem]
  have v4 : V.cell? ⟨w.heap.size + 1, 2, none⟩ = some (.int .i64 c.d) := by rw [← hV]; simp [go_sem]
  have v5 : V.cell? ⟨w.heap.size + 1, 3, none⟩ = some (.int .i64 c.p) := by rw [← hV]; simp [go_sem]
  have z0 : w.heap.size < V.heap.size := by rw [← hV]; simp; omega
  have z1 : w.heap.size + 1 < V.heap.size := by rw [← hV]; simp
  rw [hV]
  clear hV
  refine wp_region_T (fun w' => Below V.heap.size V w') [] (by kernel_rfl) ?_
  refine tb 0 (hrv (t, u)) [1] rfl (by kernel_rfl) pk rfl (by intros; go_simp) bq0 ?_
  simp only [ppq]
  refine tb 4 (clv c) [5] rfl (by kernel_rfl) pk rfl (by intros; go_simp) bq0 ?_
  simp only [ppq]
  refine rd1 1 (by kernel_rfl) rfl (fun K hK => ?_)
  go_simp
  go_wp2_with (go_at_call 61; (with_reducible refine mo0 (isHour_fact H1.out) fun w1 hb1 hc1 hf1 _ => ?_))
  have sS1 := qh (bst bq0 hb1)
  refine hK.out _ _ (fun _ => sS1.out) ?_
  clear hK K
  refine rd1 2 (by kernel_rfl) rfl (fun K hK => ?_)
  go_simp
  refine hK.out _ _ (fun _ => bi) ?_
  clear hK K
  refine rd1 3 (by kernel_rfl) rfl (fun K hK => ?_)
  go_simp
  go_wp2_with (go_at_call 52; (with_reducible refine mo0 (when_fact H2.out) fun w2 hb2 hc2 hf2 _ => ?_))
  have sS2 := qh (bst sS1.out hb2)
  refine hK.out _ _ (fun _ => sS2.out) ?_
  clear hK K
  refine rd1 5 (by kernel_rfl) rfl (fun K hK => ?_)
  go_simp
  go_wp2_with (go_at_call 27; (with_reducible refine mo0 (climate_fact' H3.out) fun w3 hb3 hc3 hf3 _ => ?_))
  have sS3 := qh (bst sS2.out hb3)
  refine hK.out _ _ (fun _ => sS3.out) ?_
  clear hK K
  refine rd1 6 (by kernel_rfl) rfl (fun K hK => ?_)
  go_simp
  refine hK.out _ _ (fun _ => bi) ?_
  clear hK K
  skip
  refine rd1 7 (by kernel_rfl) rfl (fun K hK => ?_)
  go_simp
  go_wp2_with (go_at_call 45; (with_reducible refine mo0 (first_ok (r := k) iv2 (by omega) HK.out) fun w4 hb4 hc4 hf4 _ => ?_))
  refine hK.out _ _ (fun _ => bi) ?_
  clear hK K
  refine rd1 8 (by kernel_rfl) rfl (fun K hK => ?_)
  go_simp
  refine hK.out _ _ (fun _ => bi) ?_
  clear hK K
  refine wpAnyT_done (by kernel_rfl) ?_ _
  have b4 : Below V.heap.size V w4 := bi
  have u1 := cell_on b4 v1
  have u6 := cell_on b4 v6
  have u2 := cell_on b4 v2
  have u3 := cell_on b4 v3
  have u4 := cell_on b4 v4
  have u5 := cell_on b4 v5
  have y0 : w.heap.size < w4.heap.size := Nat.lt_of_lt_of_le z0 b4.size
  have y1 : w.heap.size + 1 < w4.heap.size := Nat.lt_of_lt_of_le z1 b4.size
  replace bV := bst bV b4
  clear v1 v2 v3 v4 v5 v6 z0 z1 hc1 hc2 hc3 hc4 hf1 hf2 hf3 hf4
  by_cases hk : k = 0
  · subst hk
    obtain rfl : sb = s := by simpa using HS.out
    go_wp2_with (go_at_call 62; (with_reducible refine mo1 w (suits_fact (h := (t, u)) (c := c) H5.out) (by go_size) fun w5 hb5 hc5 hf5 hz5_0 _ => ?_))
    go_ret2
    exact ⟨rfl, bst bV bi⟩
  · have q1 : (k != 0) = true := by rw [bne_iff_ne]; exact hk
    obtain rfl : false = s := by have := HS.out; rw [← this]; simp [hk]
    go_wp2
    go_ret2
    exact ⟨rfl, bV⟩
end
section
variable {w : World} {A : Option Addr} {n cap : Nat} {hs : List Hr} {c : Clim}
def winE (hs : List Hr) (c : Clim) (need : Int) : Int := fnz [hoursE hs, climE c, if need < 1 then 3 else 0]
/-- All of some hours suit. -/
def runB (hs : List Hr) (c : Clim) (i m : Nat) : Bool := ((hs.drop i).take m).all fun h => suitB h c
/-- The first window at i or behind it. -/
def winL (hs : List Hr) (c : Clim) (m : Nat) : Nat → Nat → Option Nat
  | 0, _ => none
  | f + 1, i => if i + m ≤ hs.length then (if runB hs c i m then some i else winL hs c m f (i + 1)) else none
theorem runB_step {i m k : Nat} (h : i + m ≤ hs.length) (hk : k < m) : ((hs.drop (i + k)).take (m - k)).all (fun h => suitB h c) = (suitB (hs.getD (i + k) (0, 0)) c && ((hs.drop (i + (k + 1))).take (m - (k + 1))).all fun h => suitB h c) := by
  rw [drop_hr (show i + k < hs.length by omega), show m - k = (m - (k + 1)) + 1 by omega, List.take_succ_cons, List.all_cons]
  rfl
end

section
variable {w : World} {A : Option Addr} {n cap : Nat} {hs : List Hr} {c : Clim} {need : Int}
theorem window_bad {k : Int} (h : Hv w A n hs) (hn : n ≤ 100000) (hk : winE hs c need = k) (h0 : k ≠ 0) : Calls Tryz.prog 23 #[.slice A n cap, clv c, .int .i64 need] w fun e w' => e = .returned (.tuple #[.int .i64 0, .int .i64 k]) ∧ Below w.heap.size w w' := by
  have H := qh h
  have HN := qh (show n ≤ 100000 by omega)
  have HN2 := qh hn
  obtain ⟨e1, he1⟩ : ∃ e, hoursE hs = e := ⟨_, rfl⟩
  obtain ⟨e2, he2⟩ : ∃ e, climE c = e := ⟨_, rfl⟩
  obtain ⟨g, hg⟩ : ∃ g, decide (need < 1) = g := ⟨_, rfl⟩
  obtain ⟨e3, he3⟩ : ∃ e, (if g then (3 : Int) else 0) = e := ⟨_, rfl⟩
  have HK : Hid (fnz [e1, e2, e3] = k) := by
    show _ = _
    rw [← hk]
    unfold winE
    rw [he1, he2, ← he3, ← hg]
    by_cases q : need < 1 <;> simp [q]
  have HE1 := qh he1
  have HE2 := qh he2
  have HE3 := qh he3
  clear h hn hk he1 he2 he3
  have q1 : (k != 0) = true := by rw [bne_iff_ne]; exact h0
  go_enter Tryz.func23, Tryz.ntmps23
  go_wp2
  go_step3
  go_upto_region 1 with (fail)
  obtain ⟨V, hV⟩ : ∃ V, w.alloc (.cells #[.int .i64 c.c, .int .i64 c.m, .int .i64 c.d, .int .i64 c.p] 50) = V := ⟨_, rfl⟩
  have bV : Below w.heap.size w V := by rw [← hV]; exact bi
  have v2 : V.cell? ⟨w.heap.size, 0, none⟩ = some (.int .i64 c.c) := by rw [← hV]; simp [go_sem]
  have v3 : V.cell? ⟨w.heap.size, 1, none⟩ = some (.int .i64 c.m) := by rw [← hV]; simp [go_sem]
  have v4 : V.cell? ⟨w.heap.size, 2, none⟩ = some (.int .i64 c.d) := by rw [← hV]; simp [go_sem]
  have v5 : V.cell? ⟨w.heap.size, 3, none⟩ = some (.int .i64 c.p) := by rw [← hV]; simp [go_sem]
  have z1 : w.heap.size < V.heap.size := by rw [← hV]; simp
  rw [hV]
  clear hV
  replace H := qh (H.out.below bV)
  refine wp_region_T (fun w' => Below V.heap.size V w') [] (by kernel_rfl) ?_
  refine tb 0 (.slice A n cap) [1] rfl (by kernel_rfl) pk rfl (by intros; go_simp) bq0 ?_
  simp only [ppq]
  refine tb 2 (clv c) [3] rfl (by kernel_rfl) pk rfl (by intros; go_simp) bq0 ?_
  simp only [ppq]
  refine tb 4 (.int .i64 need) [5] rfl (by kernel_rfl) pk rfl (by intros; go_simp) bq0 ?_
  simp only [ppq]
  refine tb 5 (.bool g) [6] rfl (by kernel_rfl) pk rfl (by intros; go_simp) bq0 ?_
  simp only [ppq]
  refine rd1 1 (by kernel_rfl) rfl (fun K hK => ?_)
  go_simp
  go_wp2_with (go_at_call 26; (with_reducible refine mo0 (hours_ok (H.out.below bi) HN.out HE1.out) fun w1 hb1 hc1 hf1 _ => ?_))
  have sS1 := qh (bst bq0 hb1)
  refine hK.out _ _ (fun _ => sS1.out) ?_
  clear hK K
  refine rd1 3 (by kernel_rfl) rfl (fun K hK => ?_)
  go_simp
  go_wp2_with (go_at_call 27; (with_reducible refine mo0 (climate_fact' HE2.out) fun w2 hb2 hc2 hf2 _ => ?_))
  have sS2 := qh (bst sS1.out hb2)
  refine hK.out _ _ (fun _ => sS2.out) ?_
  clear hK K
  refine rd1 6 (by kernel_rfl) rfl (fun K hK => ?_)
  go_simp
  go_wp2_with (go_at_call 52; (with_reducible refine mo0 (when_fact HE3.out) fun w3 hb3 hc3 hf3 _ => ?_))
  have sS3 := qh (bst sS2.out hb3)
  refine hK.out _ _ (fun _ => sS3.out) ?_
  clear hK K
  refine rd1 7 (by kernel_rfl) rfl (fun K hK => ?_)
  go_simp
  refine hK.out _ _ (fun _ => bi) ?_
  clear hK K
  skip
  refine rd1 8 (by kernel_rfl) rfl (fun K hK => ?_)
  go_simp
  go_wp2_with (go_at_call 45; (with_reducible refine mo0 (first_ok (r := k) iv3 (by omega) HK.out) fun w4 hb4 hc4 hf4 _ => ?_))
  refine hK.out _ _ (fun _ => bi) ?_
  clear hK K
  refine rd1 9 (by kernel_rfl) rfl (fun K hK => ?_)
  go_simp
  refine hK.out _ _ (fun _ => bi) ?_
  clear hK K
  refine wpAnyT_done (by kernel_rfl) ?_ _
  have b4 : Below V.heap.size V w4 := bi
  have u2 := cell_on b4 v2
  have u3 := cell_on b4 v3
  have u4 := cell_on b4 v4
  have u5 := cell_on b4 v5
  have y1 : w.heap.size < w4.heap.size := Nat.lt_of_lt_of_le z1 b4.size
  replace H := qh (H.out.below b4)
  replace bV := bst bV b4
  clear v2 v3 v4 v5 z1 hc1 hc2 hc3 hc4 hf1 hf2 hf3 hf4
  go_wp2
  rw [Exit.noGoto_ret]
  go_ret2
  exact ⟨rfl, bV⟩
theorem window_ok {m : Nat} {R : Option Nat} (h : Hv w A n hs) (hn : n ≤ 1000) (hcp : n ≤ cap) (hk : winE hs c need = 0) (hm : need = (m : Int)) (h1 : 1 ≤ m) (hR : winL hs c m (n + 1) 0 = R) : Calls Tryz.prog 23 #[.slice A n cap, clv c, .int .i64 need] w fun e w' => e = .returned (.tuple #[.int .i64 ((R.getD 0 : Nat) : Int), .int .i64 (if R.isSome then 0 else 7)]) ∧ Below w.heap.size w w' := by
  obtain ⟨r0, hr0⟩ : ∃ r, ((R.getD 0 : Nat) : Int) = r := ⟨_, rfl⟩
  obtain ⟨r1, hr1⟩ : ∃ r, (if R.isSome then (0 : Int) else 7) = r := ⟨_, rfl⟩
  rw [hr0, hr1]
  have HRR := qh (And.intro hr0 hr1)
  clear hr0 hr1
  have HM := qh (And.intro hm (And.intro h1 (And.intro hR hcp)))
  clear hm h1 hR hcp
  have H := qh h
  have HN := qh (show n ≤ 100000 by omega)
  have HN2 := qh hn
  obtain ⟨e1, he1⟩ : ∃ e, hoursE hs = e := ⟨_, rfl⟩
  obtain ⟨e2, he2⟩ : ∃ e, climE c = e := ⟨_, rfl⟩
  obtain ⟨g, hg⟩ : ∃ g, decide (need < 1) = g := ⟨_, rfl⟩
  obtain ⟨e3, he3⟩ : ∃ e, (if g then (3 : Int) else 0) = e := ⟨_, rfl⟩
  have HK : Hid (fnz [e1, e2, e3] = 0) := by
    show _ = _
    rw [← hk]
    unfold winE
    rw [he1, he2, ← he3, ← hg]
    by_cases q : need < 1 <;> simp [q]
  have HE1 := qh he1
  have HE2 := qh he2
  have HE3 := qh he3
  clear h hn hk he1 he2 he3
  go_enter Tryz.func23, Tryz.ntmps23
  go_wp2
  go_step3
  go_upto_region 1 with (fail)
  obtain ⟨V, hV⟩ : ∃ V, w.alloc (.cells #[.int .i64 c.c, .int .i64 c.m, .int .i64 c.d, .int .i64 c.p] 50) = V := ⟨_, rfl⟩
  have bV : Below w.heap.size w V := by rw [← hV]; exact bi
  have v2 : V.cell? ⟨w.heap.size, 0, none⟩ = some (.int .i64 c.c) := by rw [← hV]; simp [go_sem]
  have v3 : V.cell? ⟨w.heap.size, 1, none⟩ = some (.int .i64 c.m) := by rw [← hV]; simp [go_sem]
  have v4 : V.cell? ⟨w.heap.size, 2, none⟩ = some (.int .i64 c.d) := by rw [← hV]; simp [go_sem]
  have v5 : V.cell? ⟨w.heap.size, 3, none⟩ = some (.int .i64 c.p) := by rw [← hV]; simp [go_sem]
  have z1 : w.heap.size < V.heap.size := by rw [← hV]; simp
  rw [hV]
  clear hV
  replace H := qh (H.out.below bV)
  refine wp_region_T (fun w' => Below V.heap.size V w') [] (by kernel_rfl) ?_
  refine tb 0 (.slice A n cap) [1] rfl (by kernel_rfl) pk rfl (by intros; go_simp) bq0 ?_
  simp only [ppq]
  refine tb 2 (clv c) [3] rfl (by kernel_rfl) pk rfl (by intros; go_simp) bq0 ?_
  simp only [ppq]
  refine tb 4 (.int .i64 need) [5] rfl (by kernel_rfl) pk rfl (by intros; go_simp) bq0 ?_
  simp only [ppq]
  refine tb 5 (.bool g) [6] rfl (by kernel_rfl) pk rfl (by intros; go_simp) bq0 ?_
  simp only [ppq]
  refine rd1 1 (by kernel_rfl) rfl (fun K hK => ?_)
  go_simp
  go_wp2_with (go_at_call 26; (with_reducible refine mo0 (hours_ok (H.out.below bi) HN.out HE1.out) fun w1 hb1 hc1 hf1 _ => ?_))
  have sS1 := qh (bst bq0 hb1)
  refine hK.out _ _ (fun _ => sS1.out) ?_
  clear hK K
  refine rd1 3 (by kernel_rfl) rfl (fun K hK => ?_)
  go_simp
  go_wp2_with (go_at_call 27; (with_reducible refine mo0 (climate_fact' HE2.out) fun w2 hb2 hc2 hf2 _ => ?_))
  have sS2 := qh (bst sS1.out hb2)
  refine hK.out _ _ (fun _ => sS2.out) ?_
  clear hK K
  refine rd1 6 (by kernel_rfl) rfl (fun K hK => ?_)
  go_simp
  go_wp2_with (go_at_call 52; (with_reducible refine mo0 (when_fact HE3.out) fun w3 hb3 hc3 hf3 _ => ?_))
  have sS3 := qh (bst sS2.out hb3)
  refine hK.out _ _ (fun _ => sS3.out) ?_
  clear hK K
  refine rd1 7 (by kernel_rfl) rfl (fun K hK => ?_)
  go_simp
  refine hK.out _ _ (fun _ => bi) ?_
  clear hK K
  skip
  refine rd1 8 (by kernel_rfl) rfl (fun K hK => ?_)
  go_simp
  go_wp2_with (go_at_call 45; (with_reducible refine mo0 (first_ok (r := 0) iv3 (by omega) HK.out) fun w4 hb4 hc4 hf4 _ => ?_))
  refine hK.out _ _ (fun _ => bi) ?_
  clear hK K
  refine rd1 9 (by kernel_rfl) rfl (fun K hK => ?_)
  go_simp
  refine hK.out _ _ (fun _ => bi) ?_
  clear hK K
  refine wpAnyT_done (by kernel_rfl) ?_ _
  have b4 : Below V.heap.size V w4 := bi
  have u2 := cell_on b4 v2
  have u3 := cell_on b4 v3
  have u4 := cell_on b4 v4
  have u5 := cell_on b4 v5
  have y1 : w.heap.size < w4.heap.size := Nat.lt_of_lt_of_le z1 b4.size
  replace H := qh (H.out.below b4)
  replace bV := bst bV b4
  clear v2 v3 v4 v5 z1 hc1 hc2 hc3 hc4 hf1 hf2 hf3 hf4
  have hm := HM.out.1
  subst hm
  have hlen := H.out.len
  have HL := qh hlen
  clear hlen HE1 HE2 HE3 HK hg
  go_wp2
  go_step3
  go_wp2
  go_loopw [26] (fun u wr => ∃ (i : Nat), u = .int .i64 (i : Int) ∧ i ≤ n ∧ Below w4.heap.size w4 wr ∧ winL hs c m (n + 1 - i) i = R) (fun u _ => n - (intOf u).toNat)
  case atStart => exact ⟨0, rfl, Nat.zero_le _, Below.refl _ _, HM.out.2.2.1⟩
  case round =>
    obtain ⟨i, rfl, hin, hb, hw⟩ := hrel
    have _ := bm hb
    rename World => wo
    have h1 := HM.out.2.1
    by_cases hi : i < n
    · have p0 : decide (i < n) = true := by simpa using hi
      have hn := HN2.out
      have hcp := HM.out.2.2.2
      have HIW := qh hw
      clear hw
      obtain ⟨b, o, rfl, hbl, hat⟩ := (H.out.below hb).at_ (by omega)
      have HAT := qh (And.intro hbl hat)
      clear hat hbl
      obtain ⟨x, hx⟩ : ∃ x, n - i = x := ⟨_, rfl⟩
      have e1 : IntKind.i64.wrap ((n : Int) - (i : Int)) = (x : Int) := by simp [IntKind.wrap, IntKind.bits, IntKind.signed]; omega
      by_cases hfit : i + m ≤ n
      · have p1 : decide ((x : Int) < (m : Int)) = false := by rw [decide_eq_false_iff_not]; omega
        have p2 : decide (x < m) = false := by rw [decide_eq_false_iff_not]; omega
        obtain ⟨j, hj⟩ : ∃ j, i + m = j := ⟨_, rfl⟩
        have e2 : IntKind.i64.wrap ((i : Int) + (m : Int)) = (j : Int) := by simp [IntKind.wrap, IntKind.bits, IntKind.signed]; omega
        have b1 : i ≤ j := by omega
        have b2 : j ≤ cap := by omega
        have b3 : ¬ cap = i := by omega
        have b4 : j - i = m := by omega
        have HB := qh (And.intro hj (And.intro hfit (And.intro hn (And.intro hcp (And.intro hin hi)))))
        clear hj hfit hn hcp hx hin hi
        go_wp2
        clear e1 e2 p1 p2 b1 b2 b3 b4
        go_loopw [42] (fun u wr => ∃ (k : Nat), u = .int .i64 (k : Int) ∧ k ≤ m ∧ Below wo.heap.size wo wr ∧ runB hs c i m = ((hs.drop (i + k)).take (m - k)).all fun h => suitB h c) (fun u _ => m - (intOf u).toNat)
        case atStart => exact ⟨0, rfl, Nat.zero_le _, Below.refl _ _, rfl⟩
        case round =>
          obtain ⟨k, rfl, hkm, hbk, hrun⟩ := hrel
          have _ := bm hbk
          have hB := HB.out
          by_cases hk : k < m
          · have q0 : decide (k < m) = true := by simpa using hk
            rw [runB_step (by have := HL.out; omega) hk] at hrun
            obtain ⟨k0, k1⟩ := HAT.out.2 (i + k) (by have := HL.out; omega)
            obtain ⟨⟨t, u⟩, hx⟩ : ∃ x, hs.getD (i + k) (0, 0) = x := ⟨_, rfl⟩
            rw [hx] at k0 k1 hrun
            dsimp only at k0 k1
            rw [show o + (i + k) * 2 = o + i * 2 + k * 2 by omega] at k0 k1
            have hbl := HAT.out.1
            replace k0 := cell_on hbk k0
            replace k1 := cell_on hbk k1
            have hbw := below_step hb hbk
            have c2 := cell_on hbw u2
            have c3 := cell_on hbw u3
            have c4 := cell_on hbw u4
            have c5 := cell_on hbw u5
            have y2 := Nat.lt_of_lt_of_le y1 hbw.size
            clear hx
            obtain ⟨f, hf⟩ : ∃ f, suitB (t, u) c = f := ⟨_, rfl⟩
            rw [hf] at hrun
            have HF := qh hf
            have HRUN := qh hrun
            have ek : IntKind.i64.wrap ((k : Int) + 1) = ((k + 1 : Nat) : Int) := by simp [IntKind.wrap, IntKind.bits, IntKind.signed]; omega
            have ei : IntKind.i64.wrap ((i : Int) + 1) = ((i + 1 : Nat) : Int) := by simp [IntKind.wrap, IntKind.bits, IntKind.signed]; omega
            have HKM := qh (And.intro hk hB)
            clear hf hrun hB hkm
            cases f with
            | true =>
              go_wp2_with (go_at_call 62; (with_reducible refine mo1 w (suits_fact (h := (t, u)) (c := c) HF.out) (by go_size) fun w5 hb5 hc5 hf5 hz5_0 _ => ?_))
              have hkm := HKM.out
              exact ⟨⟨k + 1, by simp, by omega, below_step hbk bi, by rw [HRUN.out, Bool.true_and]⟩, by simp [intOf]; omega⟩
            | false =>
              go_wp2_with (go_at_call 62; (with_reducible refine mo1 w (suits_fact (h := (t, u)) (c := c) HF.out) (by go_size) fun w5 hb5 hc5 hf5 hz5_0 _ => ?_))
              have hkm := HKM.out
              have hl := HL.out
              refine ⟨⟨i + 1, by simp, by omega, below_step hbw bi, ?_⟩, by simp [intOf]; omega⟩
              have hw := HIW.out
              rw [show n + 1 - i = (n - i) + 1 by omega, winL, if_pos (by omega), HRUN.out, Bool.false_and, if_neg (by simp)] at hw
              rw [show n + 1 - (i + 1) = n - i by omega]
              exact hw
          · have q0 : decide (k < m) = false := by simpa using hk
            obtain rfl : k = m := by omega
            have hl := HL.out
            have hw := HIW.out
            rw [Nat.sub_self, List.take_zero, List.all_nil] at hrun
            rw [show n + 1 - i = (n - i) + 1 by omega, winL, if_pos (by omega), hrun, if_pos rfl] at hw
            subst hw
            have hr := HRR.out
            simp at hr
            obtain ⟨rfl, rfl⟩ := hr
            have HBK := qh (bst bV (below_step hb hbk))
            clear hB hkm hk hrun hbk
            go_wp2
            rw [Exit.noGoto_ret]
            go_ret2
            exact ⟨rfl, HBK.out⟩
      · have p1 : decide ((x : Int) < (m : Int)) = true := by rw [decide_eq_true_iff]; omega
        have p2 : decide (x < m) = true := by rw [decide_eq_true_iff]; omega
        have hR : R = none := by
          have hl := HL.out
          rw [← HIW.out, show n + 1 - i = (n - i) + 1 by omega, winL, if_neg (by omega)]
        subst hR
        have hr := HRR.out
        simp at hr
        obtain ⟨rfl, rfl⟩ := hr
        clear hfit hn hcp hx hin hi
        go_wp2
        rw [Exit.noGoto_ret]
        go_ret2
        exact ⟨rfl, bst bV hb⟩
    · have p0 : decide (i < n) = false := by simpa using hi
      have hR : R = none := by
        have hl := HL.out
        rw [← hw, show n + 1 - i = (n - i) + 1 by omega, winL, if_neg (by omega)]
      subst hR
      have hr := HRR.out
      simp at hr
      obtain ⟨rfl, rfl⟩ := hr
      clear hin hi hw
      go_wp2
      rw [Exit.noGoto_ret]
      go_ret2
      exact ⟨rfl, bst bV hb⟩
end
end Go.Proofs.YtnbnoacadhoimaaGreatDoor
