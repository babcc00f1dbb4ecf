/- The examples of chapter 6: the states between their calls, and the calls as they are to be seen. -/
import Derived.Test.YtnbnoacadhoimaaGreatDoorAxL
import Derived.Test.YtnbnoacadhoimaaGreatDoorProg
import Derived.Laws.StandIn
import Derived.Lib.Bytealg
import Derived.KernelRfl
set_option linter.unusedSimpArgs false
set_option linter.unusedVariables false
set_option maxRecDepth 100000
set_option maxHeartbeats 8000000
namespace Go.Proofs.YtnbnoacadhoimaaGreatDoor.E6
open Go Ax
noncomputable def hkI : Hook := fun f => bif Nat.beq f 236 then some (fun args h => match args with
      | [.str s, .int .u8 c] => .val (.int .i64 (Lib.indexByte s c.toNat.toUInt8)) h
      | _ => .bad) else none
theorem two_VR {ι : Emb} {s : List UInt8} {k : IntKind} {c : Int} {vals : List Value} (hv : VRs ι [.str s, .int k c] vals) : vals.toArray = #[.string ⟨⟨s⟩⟩, .int k c] := by
  obtain ⟨v1, vs1, rfl, e1, e2⟩ := VRs.cons.1 hv
  obtain ⟨v2, vs2, rfl, e3, e4⟩ := VRs.cons.1 e2
  rw [VRs.nil.1 e4, VR.str.1 e1, VR.int.1 e3]
theorem hkI_ok : HookOk Tryz.prog hkI := by
  intro f g hg args h v h' e
  unfold hkI at hg
  cases hf : Nat.beq f 236 with
  | false => rw [hf] at hg; cases hg
  | true =>
    rw [hf] at hg
    have := Nat.eq_of_beq_eq_true hf
    subst this
    cases hg
    dsimp only at e
    split at e
    · rename_i s c
      cases e
      refine ⟨Nat.le_refl _, Nat.le_refl _, id, fun _ _ _ => rfl, fun ι w vals hv hW _ _ => ?_⟩
      rw [two_VR hv]
      rw [run_callFunc_indexByte Tryz.func236 (by kernel_rfl) (by kernel_rfl) (by kernel_rfl) (by kernel_rfl)]
      rw [run_indexByte_string, Lib.firstIdx_eq]
      exact ⟨ι, Ext.refl _ _ _ _, VR.int.2 rfl, hW, Fr.refl _ _ _ _⟩
    · cases e

noncomputable def h0 : Hp := ⟨sets .lf [(0, .ro [.any]), (5, .ro [.int .u64 1, .int .u64 10, .int .u64 100, .int .u64 1000, .int .u64 10000, .int .u64 100000, .int .u64 1000000, .int .u64 10000000, .int .u64 100000000])], 100, 1000000000⟩
noncomputable def stC (h : Hp) : Hp := newBlk h (.cells [.str [48], .str [50,48], .str [50], .str [49,54], .str [54], .str [49,50]])
def clim : AV := .agg [.int .i64 0, .int .i64 60, .int .i64 0, .int .i64 70]
noncomputable def stW (h : Hp) : Hp := newBlk h (.cells [.int .i64 50, .int .i64 60, .int .i64 40, .int .i64 80, .int .i64 30, .int .i64 60, .int .i64 20, .int .i64 60])
noncomputable def s1 : Hp := stC h0
noncomputable def s1' : Hp := kept s1 [] 1126
noncomputable def s2 : Hp := stC s1'
noncomputable def s2' : Hp := kept s2 [] 2246
noncomputable def s3' : Hp := kept s2' [] 2914
noncomputable def s4 : Hp := newBlk s3' (.cells [.str [49,55], .str [49,52]])
def news4 : List (Nat × Blk) := [(4137, .cells [.int .i64 964, .int .i64 931])]
noncomputable def s4' : Hp := kept s4 news4 4175
noncomputable def s5 : Hp := newBlk s4' (.cells [.str [48], .str [49,54], .str [53], .str [49,54], .str [51,48], .str [51]])
noncomputable def s5' : Hp := kept s5 [] 5828
noncomputable def s6 : Hp := stW (newBlk s5' (.cells [.int .i64 0, .int .i64 60, .int .i64 0, .int .i64 70]))
noncomputable def s6' : Hp := kept s6 [(5830, .cells [.int .i64 2, .int .i64 3])] 5831
noncomputable def s7 : Hp := stW s6'
def news7 : List (Nat × Blk) := [(6579, .cells [.str [103,111,111,100], .str [48], .str [48], .str [50], .str [52], .str [98,97,100], .str [50], .str [52], .str [51], .str [53], .str [103,111,111,100], .str [51], .str [53], .str [52], .str [53], .str [111,108,100], .str [52], .str [53], .str [53], .str [53]])]
noncomputable def s7' : Hp := kept s7 news7 6581
def v1 : AV := .tup [.str [57,50], .int .i64 0]
def v2 : AV := .tup [.str [52], .int .i64 0]
def v3 : AV := .tup [.int .i64 931, .str [49,51,49,48,48,47,57,51,49], .int .i64 0]
def v4 : AV := .tup [.slc 4137 0 2 (.r 1), .slc 4160 0 2 (.k 2), .int .i64 0]
def v5 : AV := .tup [.str [51,53,53,48,47,49,55], .int .i64 0]
def v6 : AV := .tup [.slc 5830 0 2 (.r 1), .int .i64 0]
def v7 : AV := .tup [.slc 6579 0 4 (.r 5), .int .i64 0]
def a1 : List AV := [.slc 100 0 3 (.k 3), .str [48], .str [54]]
def a2 : List AV := [.slc 1126 0 3 (.k 3), .str [49,56], .str [49,51]]
def a3 : List AV := [.int .i64 1000, .str [50,48], .str [49,52]]
def a4 : List AV := [.int .i64 1000, .str [50,48], .slc 2914 0 2 (.k 2)]
def a5 : List AV := [.slc 4175 0 2 (.k 2), .int .i64 1050, .str [50,48], .str [49,53]]
def a6 : List AV := [.slc 5829 0 4 (.k 4), clim, .int .i64 2]
def a7 : List AV := [.slc 5831 0 4 (.k 4), clim, .agg [.str [49], .str [50]], .str [53]]
noncomputable def R0 (f : Nat) (args : List AV) (h : Hp) : Ro := call Tryz.prog hkI (ev Tryz.prog hkI 3000) f args h
noncomputable def hkA : Hook := fun f =>
  bif Nat.beq f 34 then some (once a1 s1 v1 s1') else
  bif Nat.beq f 36 then some (once a2 s2 v2 s2') else
  bif Nat.beq f 37 then some (once a3 s2' v3 s3') else
  bif Nat.beq f 38 then some (once a4 s4 v4 s4') else
  bif Nat.beq f 39 then some (once a5 s5 v5 s5') else
  bif Nat.beq f 22 then some (once a6 s6 v6 s6') else
  bif Nat.beq f 42 then some (once a7 s7 v7 s7') else none
end Go.Proofs.YtnbnoacadhoimaaGreatDoor.E6
