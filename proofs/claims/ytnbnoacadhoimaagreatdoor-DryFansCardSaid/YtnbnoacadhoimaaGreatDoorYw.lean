/- The law DryFans holds: for all arguments the call returns true, and they read afterwards as they read before. Conditions: those of the given row, none beside them. -/
import Derived.Test.YtnbnoacadhoimaaGreatDoorCards
import Derived.Test.YtnbnoacadhoimaaGreatDoorTie
import Derived.Test.YtnbnoacadhoimaaGreatDoorCrG
import Derived.Test.YtnbnoacadhoimaaGreatDoorYqG
set_option linter.unusedSimpArgs false
set_option linter.unusedVariables false
set_option maxRecDepth 100000
set_option maxHeartbeats 8000000
namespace Go.Proofs.YtnbnoacadhoimaaGreatDoor
open Go Go.ChangeShapes Go.WideShapes Go.ChangeAt Go.RowKit

theorem fans_met (os : Os) : laidMet Tryz.prog Rows.dryFansRow.laid ((World.laidAll Tryz.prog os Rows.dryFansRow.laid).forCall (fun _ _ => 0) ⟨#[], #[.slice none 0 0, .agg #[.int .i64 0, .int .i64 0, .int .i64 0, .int .i64 0], .int .i64 0], []⟩).memory :=
  laidMet_laidAll _ (by kernel_rfl) (by kernel_rfl)
theorem fans_reads (os : Os) {H : Type} (enc : TypeId × Value → H) : ∃ places, DataW.whole enc Tryz.prog ((World.laidAll Tryz.prog os Rows.dryFansRow.laid).forCall (fun _ _ => 0) ⟨#[], #[.slice none 0 0, .agg #[.int .i64 0, .int .i64 0, .int .i64 0, .int .i64 0], .int .i64 0], []⟩).memory Tryz.f6.params.toList Rows.dryFansSpec.vars false #[Value.slice none 0 0, .agg #[.int .i64 0, .int .i64 0, .int .i64 0, .int .i64 0], .int .i64 0].toList 8 = some ([.nil, .agg [.lit (.int .i64 0), .lit (.int .i64 0), .lit (.int .i64 0), .lit (.int .i64 0)], .lit (.int .i64 0)], [], places) :=
  ⟨[], by kernel_rfl⟩
theorem fans_contract (H : Type) (enc : TypeId × Value → H) (W : World) (base : Nat) (args : Array Value) (ds gs : List (DataW H)) (before : List MemPlace)
    (hval : ∀ (j : Nat) t v, Tryz.f6.params[j]? = some t → args[j]? = some v → Value.okWide Tryz.prog W .any base t v)
    (hW : DataW.Whole enc Tryz.prog Tryz.f6.params.toList Rows.dryFansSpec.vars false W args.toList ds gs before) (hL : laidMetH Tryz.prog Rows.dryFansRow.laid W) (hS : W.ShapedOpen Tryz.prog) :
    Calls Tryz.prog 6 args W fun e W' => ∃ v, e = .returned v ∧ Rows.dryFansSpec.post enc Tryz.prog Tryz.f6 false true false false W args v W' := by
  have hE : Env6 W := env6_of (laidMetH.plain6 hL (by kernel_rfl)).tail.tail hS
  have hW' := hW
  obtain ⟨p, q, hA0, hV, rfl, hfz, hnd⟩ := hW
  have hA : DataW.TrodAll enc Tryz.prog W 0 (fun _ => true) true Tryz.f6.params.toList args.toList ds p := hA0
  rw [Tryz.params6] at hA hval
  obtain ⟨v0, v1, v2, d0, d1, d2, p0, p1, p2, rfl, rfl, rfl, h0, h1, h2⟩ := trodAll_three hA
  obtain ⟨rfl, rfl⟩ := trodVars_none hV
  obtain ⟨A0, n0, c0, rfl⟩ := okWide_slice Tryz.underlying48 (hval 0 48 v0 rfl rfl)
  have h0k := h0
  obtain ⟨fuel0, hf0⟩ := h0
  obtain ⟨x1, rfl, rfl⟩ := open_climate (hval 1 50 v1 rfl rfl) h1
  obtain ⟨x2, rfl, rfl, rfl, wx2⟩ := open_int Tryz.underlying3 (hval 2 3 v2 rfl rfl) h2
  simp only [List.append_nil, List.nil_append] at hW'
  have hlt0 : ∀ y ∈ p0, y.block < W.heap.size := fun y hy => by simpa using hW'.lt y (by simp [hy])
  obtain ⟨⟨ls0, hv0⟩, hc0⟩ := open_hours hf0
  have walk : Calls Tryz.prog 6 #[.slice A0 n0 c0, clv x1, .int .i64 x2] W fun e w' => e = .returned (.bool true) ∧ Below W.heap.size W w' := fans_walk hE hv0 hc0 x1 wx2
  refine walk.mono fun e W' ⟨he, hb⟩ => ?_
  subst he
  exact ⟨_, rfl, _, _, _, [], p0, [], hW', trodAll_mk1 (shut_bool Tryz.underlying4 _), (by have h := trodAll_mk3 (p := p0) (p' := []) (p'' := []) (Below.trod laidOut6 (by kernel_rfl) (of_decide_eq_true (by kernel_rfl)) h0k hb hlt0) (Below.trod laidOut6 (by kernel_rfl) (of_decide_eq_true (by kernel_rfl)) h1 hb (fun y hy => by cases hy)) (Below.trod laidOut6 (by kernel_rfl) (of_decide_eq_true (by kernel_rfl)) h2 hb (fun y hy => by cases hy)); simp only [List.append_nil] at h; exact h), rfl, hb.frame _, fun h => by cases h⟩
theorem fans_lifted (os : Os) (started : os.Started) (H : Type) (enc : TypeId × Value → H) (F : Stop.Interp) :
    ReturnsInHanded {} Tryz.checked os 6 .any ((OpenSpec.ofChange Rows.dryFansSpec).preRow enc Tryz.prog Tryz.f6 Rows.dryFansRow.domain false Rows.dryFansRow.laid) (((OpenSpec.ofChange Rows.dryFansSpec).at F).post enc Tryz.prog Tryz.f6 false true false false) := by
  obtain ⟨places, hx⟩ := fans_reads os enc
  refine returnsInHanded_of_row (C := Tryz.checked) (s := OpenSpec.ofChange Rows.dryFansSpec) own6 started (by kernel_rfl) Tryz.func6
    (witness_row_at (enc := enc) (C := Tryz.checked) false (World.laidAll Tryz.prog os Rows.dryFansRow.laid) #[.slice none 0 0, .agg #[.int .i64 0, .int .i64 0, .int .i64 0, .int .i64 0], .int .i64 0] (World.laidAll_os _ _ _) (by kernel_rfl) (by kernel_rfl) (by kernel_rfl)
      (OpenSpec.preRow_of_cond 8 hx (by kernel_rfl) (fun k hk => by cases hk) (by kernel_rfl) (by rw [MakeChecks.laidMetH_plain _ _ _ (by kernel_rfl)]; exact fans_met os))) ?_
  intro W base args ds gs before hval hW _ _ _ hL hS _
  exact fans_contract H enc W base args ds gs before hval hW hL hS
theorem fans_j1 : (Rows.dryFansRow.inPlace == Tryz.pinned.checked.prog.inPlace 6) = true := by kernel_rfl
theorem fans_j2 : (Rows.dryFansRow.unfollowed == Tryz.pinned.checked.prog.unfollowed 6) = true := by kernel_rfl
theorem fans_j3 : (Rows.dryFansRow.recurses == Tryz.pinned.checked.prog.recurses 6) = true := by kernel_rfl
theorem fans_j4 : (Rows.dryFansRow.named == Tryz.pinned.checked.prog.varsNamed 6) = true := by kernel_rfl
theorem fans_joined : joinedFacts Tryz.pinned.checked.prog 6 Tryz.f6 (OpenSpec.ofChange Rows.dryFansSpec).bare Rows.dryFansRow = true := by
  unfold joinedFacts
  rw [fans_j1, fans_j2, fans_j3, fans_j4]
  kernel_rfl
theorem fans_said : Rows.DryFansSaid :=
  OpenClaim.holds_of_cond 6 Tryz.f6 rfl rfl rfl rfl rfl rfl rfl ⟨rfl, rfl, rfl, rfl, rfl⟩ rfl rfl rfl rfl rfl (by kernel_rfl) Tryz.func6 fans_joined
    (of_decide_eq_true (by kernel_rfl)) (by unfold Func.isWrapper; first | (rw [if_pos (by decide +kernel)]; kernel_rfl) | (rw [if_neg (by decide +kernel)]; exact ⟨rfl, rfl⟩))
    (fun os started H enc _ F => by rw [OpenClaim.pre_eq_preRow]; exact fans_lifted os started H enc F)
theorem fans_plain (f : FuncId) (fn : Func) (hf : Tryz.pinned.checked.prog.funcNamed "bushel/bushellaw06.DryFans" = some f) (hfn : Tryz.pinned.checked.prog.funcs[f]? = some fn) :
    true = Tryz.pinned.checked.prog.looks [] ∧ ∀ (j : Nat) t, fn.params[j]? = some t → Tryz.pinned.checked.prog.wantsStandIn t = false := by
  obtain rfl : f = 6 := Option.some.inj ((show Tryz.prog.funcNamed "bushel/bushellaw06.DryFans" = some 6 by kernel_rfl).symm.trans hf) |>.symm
  obtain rfl : fn = Tryz.f6 := (Option.some.inj (Tryz.func6.symm.trans hfn)).symm
  refine ⟨by kernel_rfl, fun j t ht => ?_⟩
  rw [Tryz.params6] at ht
  have hm : t ∈ [48, 50, 3] := by simpa using Array.mem_of_getElem? ht
  have hall : ([48, 50, 3].all fun u => !Tryz.prog.wantsStandIn u) = true := by kernel_rfl
  exact (show Tryz.prog.wantsStandIn t = false by simpa using List.all_eq_true.1 hall t hm)
/-- The card. -/
theorem fans_card : Rows.DryFansCardSaid :=
  Claim7.holds_tied_plain_at .later [] _ _ _ _ fans_said (fun _ h => by cases h) (by kernel_rfl) (fun _ h => by cases h) dryFans_row_tie rfl ⟨rfl, rfl⟩ (by kernel_rfl) rfl fans_plain (by kernel_rfl)
#print axioms fans_card
end Go.Proofs.YtnbnoacadhoimaaGreatDoor
