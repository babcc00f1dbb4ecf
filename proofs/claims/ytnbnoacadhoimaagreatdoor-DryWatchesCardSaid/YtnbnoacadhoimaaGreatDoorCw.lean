/- The law DryWatches holds: for all arguments the call returns true, and they read afterwards as they read before. Conditions: those of the given row, none beside them. -/
import Derived.Test.YtnbnoacadhoimaaGreatDoorCards
import Derived.Test.YtnbnoacadhoimaaGreatDoorTie
import Derived.Test.YtnbnoacadhoimaaGreatDoorCu
import Derived.Test.YtnbnoacadhoimaaGreatDoorRg
set_option linter.unusedSimpArgs false
set_option linter.unusedVariables false
set_option maxRecDepth 100000
set_option maxHeartbeats 8000000
namespace Go.Proofs.YtnbnoacadhoimaaGreatDoor
open Go Go.ChangeShapes Go.WideShapes Go.ChangeAt Go.RowKit

theorem watches_met (os : Os) : laidMet Tryz.prog Rows.dryWatchesRow.laid ((World.laidAll Tryz.prog os Rows.dryWatchesRow.laid).forCall (fun _ _ => 0) ⟨#[], #[.slice none 0 0, .agg #[.int .i64 0, .int .i64 0, .int .i64 0, .int .i64 0], .agg #[.int .u8 0, .int .u8 0]], []⟩).memory :=
  laidMet_laidAll _ (by kernel_rfl) (by kernel_rfl)
theorem watches_reads (os : Os) {H : Type} (enc : TypeId × Value → H) : ∃ places, DataW.whole enc Tryz.prog ((World.laidAll Tryz.prog os Rows.dryWatchesRow.laid).forCall (fun _ _ => 0) ⟨#[], #[.slice none 0 0, .agg #[.int .i64 0, .int .i64 0, .int .i64 0, .int .i64 0], .agg #[.int .u8 0, .int .u8 0]], []⟩).memory Tryz.f4.params.toList Rows.dryWatchesSpec.vars false #[Value.slice none 0 0, .agg #[.int .i64 0, .int .i64 0, .int .i64 0, .int .i64 0], .agg #[.int .u8 0, .int .u8 0]].toList 8 = some ([.nil, .agg [.lit (.int .i64 0), .lit (.int .i64 0), .lit (.int .i64 0), .lit (.int .i64 0)], .agg [.lit (.int .u8 0), .lit (.int .u8 0)]], [], places) :=
  ⟨[], by kernel_rfl⟩
theorem watches_contract (H : Type) (enc : TypeId × Value → H) (W : World) (base : Nat) (args : Array Value) (ds gs : List (DataW H)) (before : List MemPlace)
    (hval : ∀ (j : Nat) t v, Tryz.f4.params[j]? = some t → args[j]? = some v → Value.okWide Tryz.prog W .any base t v)
    (hW : DataW.Whole enc Tryz.prog Tryz.f4.params.toList Rows.dryWatchesSpec.vars false W args.toList ds gs before) (hL : laidMetH Tryz.prog Rows.dryWatchesRow.laid W) (hS : W.ShapedOpen Tryz.prog) :
    Calls Tryz.prog 4 args W fun e W' => ∃ v, e = .returned v ∧ Rows.dryWatchesSpec.post enc Tryz.prog Tryz.f4 false true false false W args v W' := by
  have hE : Env6 W := env6_of (laidMetH.plain6 hL (by kernel_rfl)).tail.tail hS
  have hW' := hW
  obtain ⟨p, q, hA0, hV, rfl, hfz, hnd⟩ := hW
  have hA : DataW.TrodAll enc Tryz.prog W 0 (fun _ => true) true Tryz.f4.params.toList args.toList ds p := hA0
  rw [Tryz.params4] at hA hval
  obtain ⟨v0, v1, v2, d0, d1, d2, p0, p1, p2, rfl, rfl, rfl, h0, h1, h2⟩ := trodAll_three hA
  obtain ⟨rfl, rfl⟩ := trodVars_none hV
  obtain ⟨A0, n0, c0, rfl⟩ := okWide_slice Tryz.underlying22 (hval 0 22 v0 rfl rfl)
  have h0k := h0
  obtain ⟨fuel0, hf0⟩ := h0
  obtain ⟨x1, rfl, rfl⟩ := open_watch (hval 1 24 v1 rfl rfl) h1
  obtain ⟨n2_1, n2_2, rfl, rfl, w2_1, w2_2⟩ := open_bytes2 (hval 2 44 v2 rfl rfl) h2
  simp only [List.append_nil, List.nil_append] at hW'
  have hlt0 : ∀ y ∈ p0, y.block < W.heap.size := fun y hy => by simpa using hW'.lt y (by simp [hy])
  obtain ⟨⟨ls0, hv0⟩, hc0⟩ := open_rows hf0
  have walk : Calls Tryz.prog 4 #[.slice A0 n0 c0, wtv x1, .agg #[.int .u8 n2_1, .int .u8 n2_2]] W fun e w' => e = .returned (.bool true) ∧ Below W.heap.size W w' := watches_walk hE hv0 hc0 (open_cap hf0) x1 w2_1 w2_2
  refine walk.mono fun e W' ⟨he, hb⟩ => ?_
  subst he
  exact ⟨_, rfl, _, _, _, [], p0, [], hW', trodAll_mk1 (shut_bool Tryz.underlying4 _), (by have h := trodAll_mk3 (p := p0) (p' := []) (p'' := []) (Below.trod laidOut6 (by kernel_rfl) (of_decide_eq_true (by kernel_rfl)) h0k hb hlt0) (Below.trod laidOut6 (by kernel_rfl) (of_decide_eq_true (by kernel_rfl)) h1 hb (fun y hy => by cases hy)) (Below.trod laidOut6 (by kernel_rfl) (of_decide_eq_true (by kernel_rfl)) h2 hb (fun y hy => by cases hy)); simp only [List.append_nil] at h; exact h), rfl, hb.frame _, fun h => by cases h⟩
theorem watches_lifted (os : Os) (started : os.Started) (H : Type) (enc : TypeId × Value → H) (F : Stop.Interp) :
    ReturnsInHanded {} Tryz.checked os 4 .any ((OpenSpec.ofChange Rows.dryWatchesSpec).preRow enc Tryz.prog Tryz.f4 Rows.dryWatchesRow.domain false Rows.dryWatchesRow.laid) (((OpenSpec.ofChange Rows.dryWatchesSpec).at F).post enc Tryz.prog Tryz.f4 false true false false) := by
  obtain ⟨places, hx⟩ := watches_reads os enc
  refine returnsInHanded_of_row (C := Tryz.checked) (s := OpenSpec.ofChange Rows.dryWatchesSpec) own6 started (by kernel_rfl) Tryz.func4
    (witness_row_at (enc := enc) (C := Tryz.checked) false (World.laidAll Tryz.prog os Rows.dryWatchesRow.laid) #[.slice none 0 0, .agg #[.int .i64 0, .int .i64 0, .int .i64 0, .int .i64 0], .agg #[.int .u8 0, .int .u8 0]] (World.laidAll_os _ _ _) (by kernel_rfl) (by kernel_rfl) (by kernel_rfl)
      (OpenSpec.preRow_of_cond 8 hx (by kernel_rfl) (fun k hk => by cases hk) (by kernel_rfl) (by rw [MakeChecks.laidMetH_plain _ _ _ (by kernel_rfl)]; exact watches_met os))) ?_
  intro W base args ds gs before hval hW _ _ _ hL hS _
  exact watches_contract H enc W base args ds gs before hval hW hL hS
theorem watches_j1 : (Rows.dryWatchesRow.inPlace == Tryz.pinned.checked.prog.inPlace 4) = true := by kernel_rfl
theorem watches_j2 : (Rows.dryWatchesRow.unfollowed == Tryz.pinned.checked.prog.unfollowed 4) = true := by kernel_rfl
theorem watches_j3 : (Rows.dryWatchesRow.recurses == Tryz.pinned.checked.prog.recurses 4) = true := by kernel_rfl
theorem watches_j4 : (Rows.dryWatchesRow.named == Tryz.pinned.checked.prog.varsNamed 4) = true := by kernel_rfl
theorem watches_joined : joinedFacts Tryz.pinned.checked.prog 4 Tryz.f4 (OpenSpec.ofChange Rows.dryWatchesSpec).bare Rows.dryWatchesRow = true := by
  unfold joinedFacts
  rw [watches_j1, watches_j2, watches_j3, watches_j4]
  kernel_rfl
theorem watches_said : Rows.DryWatchesSaid :=
  OpenClaim.holds_of_cond 4 Tryz.f4 rfl rfl rfl rfl rfl rfl rfl ⟨rfl, rfl, rfl, rfl, rfl⟩ rfl rfl rfl rfl rfl (by kernel_rfl) Tryz.func4 watches_joined
    (of_decide_eq_true (by kernel_rfl)) (by unfold Func.isWrapper; first | (rw [if_pos (by decide +kernel)]; kernel_rfl) | (rw [if_neg (by decide +kernel)]; exact ⟨rfl, rfl⟩))
    (fun os started H enc _ F => by rw [OpenClaim.pre_eq_preRow]; exact watches_lifted os started H enc F)
theorem watches_plain (f : FuncId) (fn : Func) (hf : Tryz.pinned.checked.prog.funcNamed "bushel/bushellaw06.DryWatches" = some f) (hfn : Tryz.pinned.checked.prog.funcs[f]? = some fn) :
    true = Tryz.pinned.checked.prog.looks [] ∧ ∀ (j : Nat) t, fn.params[j]? = some t → Tryz.pinned.checked.prog.wantsStandIn t = false := by
  obtain rfl : f = 4 := Option.some.inj ((show Tryz.prog.funcNamed "bushel/bushellaw06.DryWatches" = some 4 by kernel_rfl).symm.trans hf) |>.symm
  obtain rfl : fn = Tryz.f4 := (Option.some.inj (Tryz.func4.symm.trans hfn)).symm
  refine ⟨by kernel_rfl, fun j t ht => ?_⟩
  rw [Tryz.params4] at ht
  have hm : t ∈ [22, 24, 44] := by simpa using Array.mem_of_getElem? ht
  have hall : ([22, 24, 44].all fun u => !Tryz.prog.wantsStandIn u) = true := by kernel_rfl
  exact (show Tryz.prog.wantsStandIn t = false by simpa using List.all_eq_true.1 hall t hm)
/-- The card. -/
theorem watches_card : Rows.DryWatchesCardSaid :=
  Claim7.holds_tied_plain_at .later [] _ _ _ _ watches_said (fun _ h => by cases h) (by kernel_rfl) (fun _ h => by cases h) dryWatches_row_tie rfl ⟨rfl, rfl⟩ (by kernel_rfl) rfl watches_plain (by kernel_rfl)
#print axioms watches_card
end Go.Proofs.YtnbnoacadhoimaaGreatDoor
