/- The examples of chapter 6: the fans. -/
import Derived.Test.YtnbnoacadhoimaaGreatDoorEa
import Derived.Test.YtnbnoacadhoimaaGreatDoorDbG
import Derived.Test.YtnbnoacadhoimaaGreatDoorEb
import Derived.Test.YtnbnoacadhoimaaGreatDoorEc
import Derived.Test.YtnbnoacadhoimaaGreatDoorEd
import Derived.Test.YtnbnoacadhoimaaGreatDoorEe
import Derived.Test.YtnbnoacadhoimaaGreatDoorEf
import Derived.Test.YtnbnoacadhoimaaGreatDoorEg
import Derived.Test.YtnbnoacadhoimaaGreatDoorEh
import Derived.Lib.AppendIntMem
set_option linter.unusedSimpArgs false
set_option linter.unusedVariables false
set_option maxRecDepth 100000
set_option maxHeartbeats 8000000
namespace Go.Proofs.YtnbnoacadhoimaaGreatDoor.E6
open Go Ax Go.RowKit

theorem bd_kept {h : Hp} {news : List (Nat × Ax.Blk)} {nx : Nat} (hB : Bd h) (hx : h.nx ≤ nx) (hn : ∀ p, p ∈ news → p.1 < nx) : Bd (kept h news nx) := by
  intro id c e
  rcases sets_get _ _ _ _ e with k | k
  · exact hn _ k
  · exact Nat.lt_of_lt_of_le (hB id c k) hx
theorem fans_up0 : upSuit [(50, 60), (40, 80), (30, 60), (20, 60)] ⟨0, 60, 0, 70⟩ 4 = [0, 2, 3] := by decide +kernel
theorem fans_list : fansL [(50, 60), (40, 80), (30, 60), (20, 60)] ⟨0, 60, 0, 70⟩ 2 = [2, 3] := by
  unfold fansL
  rw [show ([(50, 60), (40, 80), (30, 60), (20, 60)] : List Hr).length = 4 from rfl, fans_up0]
  have e : stab [(50, 60), (40, 80), (30, 60), (20, 60)] (4 - 1) [0, 2, 3] = [3, 2, 0] := by
    unfold stab stabG
    simp [Sort.insertionSort, Sort.insOuter, Sort.insInner, Sort.swp, dOf, ltOf, cfH, Lib.compareInt]
    rfl
  rw [e]
  simp [List.mergeSort]
theorem fans_err : fansE [(50, 60), (40, 80), (30, 60), (20, 60)] ⟨0, 60, 0, 70⟩ 2 = 0 := by decide +kernel
theorem fans_up : (upSuit [(50, 60), (40, 80), (30, 60), (20, 60)] ⟨0, 60, 0, 70⟩ 4).length = 3 := by decide +kernel
theorem nx6 : s6.nx = 5830 := rfl
theorem newBlk_get (h : Hp) (b : Ax.Blk) (id : Nat) : (newBlk h b).h.get id = if id = h.nx then some b else h.h.get id := Tr.get_set _ _ _ _
theorem kept_get (h : Hp) (p : Nat × Ax.Blk) (nx id : Nat) : (kept h [p] nx).h.get id = if id = p.1 then some p.2 else h.h.get id := Tr.get_set _ _ _ _
theorem hours6 : s6.h.get 5829 = some (.cells [.int .i64 50, .int .i64 60, .int .i64 40, .int .i64 80, .int .i64 30, .int .i64 60, .int .i64 20, .int .i64 60]) := by
  unfold s6 stW
  rw [newBlk_get, if_pos (by decide)]
theorem get6' (id : Nat) : s6'.h.get id = if id = 5830 then some (.cells [.int .i64 2, .int .i64 3]) else s6.h.get id := by
  unfold s6'
  rw [kept_get]
theorem ints_VR {ι : Emb} : ∀ {l : List Int} {cs : List Value}, VRs ι (l.map (AV.int .i64)) cs → cs = l.map (Value.int .i64)
  | [], cs, h => VRs.nil.1 h
  | a :: l, cs, h => by
    obtain ⟨v, vs, rfl, h1, h2⟩ := VRs.cons.1 h
    rw [VR.int.1 h1, ints_VR h2]; rfl
theorem fans_call : CallOk Tryz.prog 22 a6 s6 v6 s6' := by
  refine ⟨show s6.nx ≤ s6'.nx by decide, Nat.le_refl _, fun hB => bd_kept hB (by decide) (by intro p hp; cases List.mem_singleton.1 hp; decide), fun id h1 _ => ?_, fun ι w vals hv hW hf hB => ?_⟩
  · rw [get6', if_neg (by rw [nx6] at h1; omega)]
  obtain ⟨v1, vs1, rfl, e1, t1⟩ := VRs.cons.1 hv
  obtain ⟨v2, vs2, rfl, e2, t2⟩ := VRs.cons.1 t1
  obtain ⟨v3, vs3, rfl, e3, t3⟩ := VRs.cons.1 t2
  obtain rfl := VRs.nil.1 t3
  obtain ⟨l, x, c, hl, rfl, hx, hc⟩ := VR.slc.1 e1
  obtain ⟨rfl, hc4⟩ : c = 4 ∧ 4 ≤ c := hc
  obtain rfl : x = l.d + 0 := hx (by decide)
  obtain ⟨cs, rfl, hcs⟩ := VR.agg.1 e2
  obtain rfl := ints_VR (l := [0, 60, 0, 70]) hcs
  obtain rfl := VR.int.1 e3
  obtain ⟨⟨hln, hcell⟩, _, _⟩ := hW.blk 5829 l _ hl hours6
  have hlt := hW.lt 5829 l _ hl hours6
  have cell : ∀ (j : Nat) (z : Int), ([50, 60, 40, 80, 30, 60, 20, 60] : List Int)[j]? = some z → w.cell? ⟨l.b, l.d + j, none⟩ = some (.int .i64 z) := fun j z hj => by
    obtain ⟨v, k1, k2⟩ := hcell j (.int .i64 z) (by
      have : ([AV.int .i64 50, .int .i64 60, .int .i64 40, .int .i64 80, .int .i64 30, .int .i64 60, .int .i64 20, .int .i64 60] : List AV) = ([50, 60, 40, 80, 30, 60, 20, 60] : List Int).map (AV.int .i64) := rfl
      rw [this, List.getElem?_map, hj]; rfl)
    rw [k1, VR.int.1 k2]
  have hH : Hv w (some ⟨l.b, l.d + 0, none⟩) 4 [(50, 60), (40, 80), (30, 60), (20, 60)] := ⟨rfl, fun _ => ⟨l.b, l.d + 0, rfl, hlt, fun j hj => by
    rcases (show j = 0 ∨ j = 1 ∨ j = 2 ∨ j = 3 by simp at hj; omega) with rfl | rfl | rfl | rfl
    · exact ⟨cell 0 50 rfl, cell 1 60 rfl⟩
    · exact ⟨cell 2 40 rfl, cell 3 80 rfl⟩
    · exact ⟨cell 4 30 rfl, cell 5 60 rfl⟩
    · exact ⟨cell 6 20 rfl, cell 7 60 rfl⟩⟩⟩
  have hC := fans_ok (cap := 4) (c := ⟨0, 60, 0, 70⟩) (need := 2) (k := 2) hH (by decide) fans_err rfl (by rw [show ([(50, 60), (40, 80), (30, 60), (20, 60)] : List Hr).length = 4 from rfl, fans_up]; decide) (by rw [show ([(50, 60), (40, 80), (30, 60), (20, 60)] : List Hr).length = 4 from rfl, fans_up]; decide) (by rw [show ([(50, 60), (40, 80), (30, 60), (20, 60)] : List Hr).length = 4 from rfl, fans_up]; decide) (by decide)
  rw [fans_list] at hC
  have hcall : (callFunc 22 #[.slice (some ⟨l.b, l.d + 0, none⟩) 4 4, clv ⟨0, 60, 0, 70⟩, .int .i64 2]).run Tryz.prog w = .ok (.enter 22 #[.slice (some ⟨l.b, l.d + 0, none⟩) 4 4, clv ⟨0, 60, 0, 70⟩, .int .i64 2]) w := enters_of Tryz.func22 (by kernel_rfl) rfl _ _
  show Gives _ ((callFunc 22 #[.slice (some ⟨l.b, l.d + 0, none⟩) 4 4, clv ⟨0, 60, 0, 70⟩, .int .i64 2]).run Tryz.prog w) _
  rw [hcall]
  refine Calls.mono hC ?_
  rintro e w' ⟨⟨v, rfl, hrow⟩, hb⟩
  obtain ⟨_, ⟨_, h0⟩ | ⟨g, cap, cur, rfl, hg, hgc, hn, hm, hs, ht⟩⟩ := hrow
  · cases h0
  refine ⟨_, rfl, fun id => if id = 5830 then some ⟨g, 0, cap⟩ else ι id, ⟨fun id hid => ?_, fun id l' h1 h2 e => ?_⟩, ?_, ⟨fun g' hg' => ?_, fun id l' b e k => ?_, fun id l' b e k => ?_, fun id id' l1 l2 b b' hne k1 k2 q1 q2 _ _ => ?_⟩, ⟨hb.os, hb.tape, hb.output, hb.size, fun B hB' _ => hb.block B hB'⟩⟩
  · rw [if_neg]
    intro e
    subst e
    exact hid ⟨by decide, by decide⟩
  · by_cases hid : id = 5830
    · rw [if_pos hid] at e; cases e; exact .inl hg
    · exact absurd (show id = 5830 by have : s6.nx = 5830 := nx6; have : s6'.nx = 5831 := rfl; omega) hid
  · refine VR.tup.2 ⟨[.slice (some ⟨g, 0, none⟩) 2 cap, .int .i64 0], rfl, VRs.cons.2 ⟨_, _, rfl, VR.slc.2 ⟨⟨g, 0, cap⟩, 0, cap, by rw [if_pos rfl], rfl, fun _ => rfl, hn, fun _ => by simp⟩, VRs.cons.2 ⟨_, _, rfl, VR.int.2 rfl, VRs.nil.2 rfl⟩⟩⟩
  · obtain ⟨n, hn⟩ := hW.gl g' hg'
    exact ⟨n, by rw [if_neg (by omega)]; exact hn⟩
  · by_cases hid : id = 5830
    · rw [if_pos hid] at e; cases e; exact (Array.getElem?_eq_some_iff.1 hgc).1
    · rw [if_neg hid] at e
      rw [get6', if_neg hid] at k
      exact Nat.lt_of_lt_of_le (hW.lt id l' b e k) hb.size
  · by_cases hid : id = 5830
    · rw [if_pos hid] at e; cases e
      rw [get6', if_pos hid] at k
      cases k
      have hcs : cur.size = cap := by simpa using hs
      have hat : ∀ j, w'.cell? ⟨g, 0 + j, none⟩ = cur[j]? := fun j => by simp [World.cell?, hgc]
      refine ⟨⟨hn, fun j a ha => ?_⟩, fun j hj => ?_, fun o => by simp [World.frozen?, hgc]⟩
      · have hj : j < 2 := by
          have := (List.getElem?_eq_some_iff.1 ha).1
          simpa using this
        have h1 : (cur.toList.take (2 * 1))[j]? = (([2, 3] : List Int).map (Value.int .i64))[j]? := by rw [ht]
        rw [List.getElem?_take, if_pos (by omega), Array.getElem?_toList] at h1
        rcases (show j = 0 ∨ j = 1 by omega) with rfl | rfl
        · cases ha; exact ⟨_, (hat 0).trans h1, VR.int.2 rfl⟩
        · cases ha; exact ⟨_, (hat 1).trans h1, VR.int.2 rfl⟩
      · show (w'.cell? ⟨g, 0 + j, none⟩).isSome = true
        rw [hat, Array.getElem?_eq_getElem (by have : j < cap := hj; omega)]; rfl
    · rw [if_neg hid] at e
      rw [get6', if_neg hid] at k
      refine blkR.mono (fun a la ha => ?_) (hb.block _ (hW.lt id l' b e k)) (hW.blk id l' b e k)
      have : a ≠ 5830 := fun e => by subst e; rw [hf 5830 (by decide) (by decide)] at ha; cases ha
      show (if a = 5830 then _ else ι a) = _
      rw [if_neg this]; exact ha
  · by_cases h1 : id = 5830
    · have h2 : id' ≠ 5830 := fun e => hne (h1.trans e.symm)
      rw [if_pos h1] at k1; rw [if_neg h2] at k2
      rw [get6', if_neg h2] at q2
      cases k1
      have := hW.lt id' l2 b' k2 q2
      intro e
      have e : g = l2.b := e
      omega
    · rw [if_neg h1] at k1
      rw [get6', if_neg h1] at q1
      by_cases h2 : id' = 5830
      · rw [if_pos h2] at k2
        cases k2
        have := hW.lt id l1 b k1 q1
        intro e
        have e : l1.b = g := e
        omega
      · rw [if_neg h2] at k2
        rw [get6', if_neg h2] at q2
        exact hW.inj id id' l1 l2 b b' hne k1 k2 q1 q2 ‹_› ‹_›
end Go.Proofs.YtnbnoacadhoimaaGreatDoor.E6
namespace Go.Proofs.YtnbnoacadhoimaaGreatDoor.E6
open Go Ax Go.RowKit
theorem mixed : Tryz.prog.follows .mixedOrders = true := by kernel_rfl
theorem bd_new {h : Hp} {b : Ax.Blk} (hB : Bd h) : Bd (newBlk h b) := by
  intro id c e
  have e1 : (h.h.set h.nx b).get id = some c := e
  rw [Tr.get_set] at e1
  by_cases k : id = h.nx
  · subst k; exact Nat.lt_succ_self _
  · rw [if_neg k] at e1
    exact Nat.lt_succ_of_lt (hB id c e1)
theorem bd0 : Bd h0 := by
  intro id c e
  rcases sets_get _ _ _ _ e with k | k
  · simp at k
    rcases k with ⟨rfl, _⟩ | ⟨rfl, _⟩ <;> exact by decide
  · cases k
theorem bd1 : Bd s1 := bd_new bd0
theorem bd1' : Bd s1' := bd_kept bd1 (by decide) (by intro p hp; cases hp)
theorem bd2 : Bd s2 := bd_new bd1'
theorem bd2' : Bd s2' := bd_kept bd2 (by decide) (by intro p hp; cases hp)
theorem bd3' : Bd s3' := bd_kept bd2' (by decide) (by intro p hp; cases hp)
theorem bd4 : Bd s4 := bd_new bd3'
theorem bd4' : Bd s4' := bd_kept bd4 (by decide) (by intro p hp; cases List.mem_singleton.1 hp; decide)
theorem bd5 : Bd s5 := bd_new bd4'
theorem bd5' : Bd s5' := bd_kept bd5 (by decide) (by intro p hp; cases hp)
theorem bd6 : Bd s6 := bd_new (bd_new bd5')
theorem bd6' : Bd s6' := bd_kept bd6 (by decide) (by intro p hp; cases List.mem_singleton.1 hp; decide)
theorem bd7 : Bd s7 := bd_new bd6'
theorem area_call : CallOk Tryz.prog 34 a1 s1 v1 s1' := seen_ok mixed hkI_ok (by decide) bd1 area_seen
theorem time_call : CallOk Tryz.prog 36 a2 s2 v2 s2' := seen_ok mixed hkI_ok (by decide) bd2 time_seen
theorem dry_call : CallOk Tryz.prog 37 a3 s2' v3 s3' := seen_ok mixed hkI_ok (by decide) bd2' dry_seen
theorem steps_call : CallOk Tryz.prog 38 a4 s4 v4 s4' := seen_ok mixed hkI_ok (by decide) bd4 steps_seen
theorem energy_call : CallOk Tryz.prog 39 a5 s5 v5 s5' := seen_ok mixed hkI_ok (by decide) bd5 energy_seen
theorem zones_call : CallOk Tryz.prog 42 a7 s7 v7 s7' := seen_ok mixed hkI_ok (by decide) bd7 zones_seen
theorem hkA_ok (fans : CallOk Tryz.prog 22 a6 s6 v6 s6') : HookOk Tryz.prog hkA := by
  intro f g hg args h v h' e
  unfold hkA at hg
  have key : ∀ {n : Nat} {A : List AV} {S S' : Hp} {V : AV} {o : Option (List AV → Hp → Ro)}, CallOk Tryz.prog n A S V S' → ((bif Nat.beq f n then some (once A S V S') else o) = some g) → (o = some g → CallOk Tryz.prog f args h v h') → CallOk Tryz.prog f args h v h' := by
    intro n A S S' V o c k k2
    cases hf : Nat.beq f n with
    | false => rw [hf] at k; exact k2 k
    | true =>
      rw [hf] at k
      have := Nat.eq_of_beq_eq_true hf
      subst this
      cases k
      exact once_ok c args h v h' e
  exact key area_call hg fun hg => key time_call hg fun hg => key dry_call hg fun hg => key steps_call hg fun hg => key energy_call hg fun hg => key fans hg fun hg => key zones_call hg fun hg => nomatch hg
theorem awake_call (fans : CallOk Tryz.prog 22 a6 s6 v6 s6') : ∃ nx, CallOk Tryz.prog 8 [] h0 (.bool true) (kept h0 [] nx) := ⟨_, seen_ok mixed (hkA_ok fans) (by decide) bd0 awake_seen⟩
/-- Where the globals lie. -/
def emb0 : Emb := fun id => if id < 100 then some ⟨id, 0, 20⟩ else none
theorem wr0 {w : World} (hT : Lib.TabIs Tryz.prog w "internal/strconv.uint64pow10" .u64 Lib.pow10Tab) (hM : ∃ m, w.cell? ⟨0, 0, none⟩ = some m) : WR emb0 h0.h.get w := by
  have hpow : ∀ i, i < 20 → w.cell? ⟨5, i, none⟩ = some (.int .u64 (Lib.pow10Tab.getD i 0)) := fun i hi => hT.cell (g := 5) (by kernel_rfl) i hi
  obtain ⟨m, hm⟩ := hM
  have mem : ∀ id b, h0.h.get id = some b → (id = 0 ∧ b = .ro [.any]) ∨ (id = 5 ∧ b = .ro [.int .u64 1, .int .u64 10, .int .u64 100, .int .u64 1000, .int .u64 10000, .int .u64 100000, .int .u64 1000000, .int .u64 10000000, .int .u64 100000000]) := by
    intro id b e
    rcases sets_get _ _ _ _ e with k | k
    · simpa using k
    · cases k
  have at0 : emb0 0 = some ⟨0, 0, 20⟩ := rfl
  have at5 : emb0 5 = some ⟨5, 0, 20⟩ := rfl
  refine ⟨fun g hg => ⟨20, by simp [emb0, hg]⟩, fun id l b e k => ?_, fun id l b e k => ?_, fun id id' l l' b b' hne e e' _ _ _ _ => ?_⟩
  · rcases mem id b k with ⟨rfl, rfl⟩ | ⟨rfl, rfl⟩
    · rw [at0] at e; cases e; exact World.block_lt_of_cell? w _ hm
    · rw [at5] at e; cases e; exact World.block_lt_of_cell? w _ (hpow 0 (by decide))
  · rcases mem id b k with ⟨rfl, rfl⟩ | ⟨rfl, rfl⟩
    · rw [at0] at e; cases e
      refine ⟨by decide, fun j a ha => ?_⟩
      match j, ha with
      | 0, ha => cases ha; exact ⟨m, hm, VR.any⟩
    · rw [at5] at e; cases e
      refine ⟨by decide, fun j a ha => ?_⟩
      match j, ha with
      | 0, ha | 1, ha | 2, ha | 3, ha | 4, ha | 5, ha | 6, ha | 7, ha | 8, ha => cases ha; exact ⟨_, by rw [Nat.zero_add]; exact hpow _ (by decide), VR.int.2 rfl⟩
  · unfold emb0 at e e'
    split at e <;> simp at e
    split at e' <;> simp at e'
    rw [← e, ← e']; exact hne
theorem run_from {P : Program} {f : Nat} {h h' : Hp} {v : AV} {ι : Emb} {w : World} (c : CallOk P f [] h v h') (h1 : WR ι h.h.get w) (h2 : Free ι h.nx h'.nx) (h3 : Bd h) : Gives P ((callFunc f #[]).run P w) (Post ι h'.h.get h.nx h'.nx h'.wm w v) := c.run ι w [] (VRs.nil.2 rfl) h1 h2 h3
theorem calls_from {P : Program} {f : Nat} {fn : Func} {h h' : Hp} {v : AV} {ι : Emb} {w : World} (c : CallOk P f [] h v h') (h1 : WR ι h.h.get w) (h2 : Free ι h.nx h'.nx) (h3 : Bd h) (hf : P.funcs[f]? = some fn) (hn : (fn.name == "runtime.NumGoroutine") = false) (hb : fn.body.isNone = false) (hwm : h.nx ≤ h'.wm) : Calls P f #[] w fun e w' => (∃ u, e = .returned u ∧ ∃ ι', VR ι' v u) ∧ Below w.heap.size w w' := by
  have hr := run_from c h1 h2 h3
  have hcall : (callFunc f #[]).run P w = .ok (.enter f #[]) w := by
    have k1 : ¬ (fn.name = "runtime.NumGoroutine") := by simpa using hn
    have k2 : ¬ (fn.body = none) := fun k => by rw [k] at hb; cases hb
    simp [callFunc, hf, k1, k2]
  rw [hcall] at hr
  refine Calls.mono hr fun e w' ⟨u, e1, ι', p1, p2, p3, p4⟩ => ⟨⟨u, e1, ι', p2⟩, p4.os, p4.tape, p4.output, p4.size, fun k hk => p4.keep k hk fun id l a b e => by omega⟩
theorem awake_true (fans : CallOk Tryz.prog 22 a6 s6 v6 s6') {w : World} (hT : Lib.TabIs Tryz.prog w "internal/strconv.uint64pow10" .u64 Lib.pow10Tab) (hM : ∃ m, w.cell? ⟨0, 0, none⟩ = some m) : Calls Tryz.prog 8 #[] w fun e w' => e = .returned (.bool true) ∧ Below w.heap.size w w' := by
  obtain ⟨nx, c⟩ := awake_call fans
  have n0 : h0.nx = 100 := rfl
  have hf : Free emb0 h0.nx (kept h0 [] nx).nx := fun id h1 _ => by
    unfold emb0
    rw [if_neg (by omega)]
  refine (calls_from c (wr0 hT hM) hf bd0 Tryz.func8 (by kernel_rfl) (by kernel_rfl) (show 100 ≤ 1000000000 by decide)).mono fun e w' ⟨⟨u, e1, ι', h2⟩, hb⟩ => ?_
  exact ⟨by rw [e1, VR.bool.1 h2], hb⟩
theorem awake6 {w : World} (hT : Lib.TabIs Tryz.prog w "internal/strconv.uint64pow10" .u64 Lib.pow10Tab) (hM : ∃ m, w.cell? ⟨0, 0, none⟩ = some m) : Calls Tryz.prog 8 #[] w fun e w' => e = .returned (.bool true) ∧ Below w.heap.size w w' := awake_true fans_call hT hM
end Go.Proofs.YtnbnoacadhoimaaGreatDoor.E6
