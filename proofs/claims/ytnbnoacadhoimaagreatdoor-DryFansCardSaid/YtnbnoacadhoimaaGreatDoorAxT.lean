/- An evaluator for the model: part T. -/
import Derived.Test.YtnbnoacadhoimaaGreatDoorAxS
set_option linter.unusedSimpArgs false
set_option linter.unusedVariables false
set_option maxRecDepth 100000
set_option maxHeartbeats 8000000
namespace Go.Proofs.YtnbnoacadhoimaaGreatDoor.Ax
open Go Go.RowKit
set_option linter.unusedSimpArgs false
set_option linter.unusedVariables false
section
variable {P : Program} {w : World} {ι : Emb} {o : Oper} {tm : Tm} {h h' : Hp} {v : AV}
theorem okv_ne {u : AV} (e : okv h u = .val v h') : v ≠ .any := by
  unfold okv at e
  split at e
  · cases e
  · rename_i h1
    obtain ⟨a, b⟩ := val_inj e
    subst a
    intro h2
    exact h1 h2
theorem oUn_ok {op : UnOp} {t : TypeId} {x : Operand} (hop : o.op = .unOp op t x) (e : oUn op t x P tm h = .val v h') : OpOk P o tm h h' v [] [] := by
  have e' : okv h (unop op (opd tm x)) = .val v h' := e
  have hv := okv_ne e'
  obtain ⟨hb, rfl⟩ := okv_eq e'
  refine OpOk.pure fun ι H w a hW ho hA => ?_
  have hx := ho x (by simp [hop, Op.operands])
  unfold unop at hb
  split at hb
  · rename_i k n hp
    rw [hp] at hx
    have hx' := VR.int.1 hx
    split at hb
    · subst hb
      exact ⟨.int k (k.wrap (0 - n)), by simp [execOp, hop, hx', Op.unary, Op.intArith], VR.int.2 (by rw [wrp_eq]; rfl)⟩
    · subst hb
      exact ⟨.int k (k.wrap (BitVec.ofInt k.bits (if k.signed then -1 else k.max) ^^^ BitVec.ofInt k.bits n).toNat), by simp only [execOp, hop, hx', Op.unary, Op.intBits]; rfl, VR.int.2 (by rw [wrp_eq, BitVec.toNat_xor]; rfl)⟩
    · exact absurd hb.symm hv
  · rename_i b hp
    rw [hp] at hx
    have hx' := VR.bool.1 hx
    split at hb
    · subst hb
      exact ⟨.bool (!b), by simp [execOp, hop, hx', Op.unary], VR.bool.2 rfl⟩
    · exact absurd hb.symm hv
  · exact absurd hb.symm hv
theorem asNat_eq {a : AV} {i : Nat} (e : asNat a = some i) : ∃ k, a = .int k (Int.ofNat i) := by
  cases a with
  | int k n => cases n with
    | ofNat m => have := Option.some.inj (show some m = some i from e); subst this; exact ⟨k, rfl⟩
    | negSucc m => cases e
  | _ => cases e
theorem asNat_val {a : AV} {i : Nat} {u : Value} (e : asNat a = some i) (hx : VR ι a u) : ∃ k, u = .int k (i : Int) := by
  obtain ⟨k, rfl⟩ := asNat_eq e
  exact ⟨k, VR.int.1 hx⟩
theorem sliceElem_eq {d : Option TypeDesc} {e : TypeId} (h : sliceElem d = some e) : d = some (.slice e) := by
  unfold sliceElem at h
  split at h
  · rw [Option.some.inj h]
  · cases h
theorem arrElem_eq {d : Option TypeDesc} {n : Nat} {e : TypeId} (h : arrElem d = some (n, e)) : d = some (.array n e) := by
  unfold arrElem at h
  split at h
  · have := Option.some.inj h; injection this with h1 h2; rw [h1, h2]
  · cases h
theorem ixAt_eq {e id off len i : Nat} (h : ixAt P e id off len i = some v) : i < len ∧ ∃ s, szOf P e = some s ∧ v = .ptr id (off + i * s) := by
  unfold ixAt at h
  rw [blt_eq] at h
  by_cases hi : i < len
  · rw [decide_eq_true hi] at h
    simp only [cond_true] at h
    split at h
    · rename_i s hs; exact ⟨hi, s, hs, (Option.some.inj h).symm⟩
    · cases h
  · rw [decide_eq_false hi] at h; cases h
theorem oIndexAddr_ok {t : TypeId} {x ix : Operand} (hop : o.op = .indexAddr t x ix) (e : oIndexAddr t x ix P tm h = .val v h') : OpOk P o tm h h' v [] [] := by
  unfold oIndexAddr at e
  split at e
  · rename_i i hi
    obtain ⟨e1, rfl⟩ := val?_eq e
    refine OpOk.pure fun ι H w a hW ho hA => ?_
    have hx := ho x (by simp [hop, Op.operands])
    obtain ⟨k, hk⟩ := asNat_val hi (ho ix (by simp [hop, Op.operands]))
    unfold ixa at e1
    split at e1
    · rename_i id off hp
      rw [hp] at hx
      obtain ⟨l, hl, hv⟩ := VR.ptr.1 hx
      split at e1
      · rename_i n el hn
        obtain ⟨h1, s, h2, rfl⟩ := ixAt_eq e1
        have hu := arrElem_eq hn
        refine ⟨.pointer (some ⟨l.b, l.d + (off + i * s), none⟩), ?_, VR.ptr.2 ⟨l, hl, rfl⟩⟩
        simp [execOp, hop, Instr.indexAt, hk, asIntOf, run_underlying hu, hv, Instr.sureAddr, h1, szOf_run h2, Addr.add_lit, Nat.add_assoc]
      · cases e1
    · rename_i id off len cap hp
      rw [hp] at hx
      obtain ⟨l, y, c, hl, hv, hc, hcap⟩ := VR.slc.1 hx
      split at e1
      · rename_i el hn
        obtain ⟨h1, s, h2, rfl⟩ := ixAt_eq e1
        have hu := sliceElem_eq hn
        have hlc : len ≤ c := by cases cap <;> simp [capR] at hcap <;> omega
        have hy := hc (by omega)
        refine ⟨.pointer (some ⟨l.b, l.d + (off + i * s), none⟩), ?_, VR.ptr.2 ⟨l, hl, rfl⟩⟩
        simp [execOp, hop, Instr.indexAt, hk, asIntOf, run_underlying hu, hv, h1, szOf_run h2, Addr.add_lit, hy, Nat.add_assoc]
      · cases e1
    · cases e1
  · cases e
theorem oIndex_ok {t : TypeId} {x ix : Operand} (hop : o.op = .index t x ix) (e : oIndex t x ix P tm h = .val v h') : OpOk P o tm h h' v [] [] := by
  unfold oIndex at e
  split at e
  · rename_i i hi
    obtain ⟨e1, rfl⟩ := val?_eq e
    refine OpOk.pure fun ι H w a hW ho hA => ?_
    have hx := ho x (by simp [hop, Op.operands])
    obtain ⟨k, hk⟩ := asNat_val hi (ho ix (by simp [hop, Op.operands]))
    unfold ixv at e1
    split at e1
    · rename_i cs hp
      rw [hp] at hx
      obtain ⟨vals, hv, hvs⟩ := VR.agg.1 hx
      split at e1
      · rename_i n el hn
        rw [blt_eq] at e1
        by_cases hin : i < n
        · rw [decide_eq_true hin] at e1
          simp only [cond_true] at e1
          split at e1
          · rename_i s hs
            obtain ⟨vc, h1, h2⟩ := part_run (P := P) (w := w) hvs e1
            have hu := arrElem_eq hn
            refine ⟨vc, ?_, h2⟩
            simp [execOp, hop, Instr.index, hk, asIntOf, run_underlying hu, hv, hin, szOf_run hs, h1]
          · cases e1
        · rw [decide_eq_false hin] at e1; cases e1
      · cases e1
    · rename_i s hp
      rw [hp] at hx
      have hv := VR.str.1 hx
      split at e1
      rename_i hu
      split at e1
      · rename_i b hb
        have := Option.some.inj e1
        subst this
        rw [nthL_eq] at hb
        have hlt := lt_of_some hb
        have hb' : (ByteArray.mk ⟨s⟩)[i]? = some b := by
          rw [getElem?_pos (ByteArray.mk ⟨s⟩) i (by rw [data_size]; exact hlt)]
          rw [List.getElem?_eq_getElem hlt] at hb
          exact congrArg some (Option.some.inj hb)
        refine ⟨.int .u8 (b.toNat : Int), ?_, VR.int.2 rfl⟩
        simp [execOp, hop, Instr.index, hk, asIntOf, run_underlying hu, hv, hb']
      · cases e1
      · cases e1
    · cases e1
  · cases e
theorem oFunc_ok {fn : Fn} {first captured : Array Operand} (hop : o.op = .makeFunc fn first captured) (e : oFunc fn first captured P tm h = .val v h') : OpOk P o tm h h' v [] [] := by
  unfold oFunc at e
  split at e
  · rename_i f
    split at e
    · rename_i hf
      obtain ⟨rfl, rfl⟩ := val_inj e
      refine OpOk.pure fun ι H w a hW ho hA => ?_
      have hf' : first = #[] := by
        apply Array.ext'
        simpa using hf
      refine ⟨.func (.func f) #[] (captured.map a.eval), by simp [execOp, hop, Instr.makeFunc, hf'], VR.fn.2 ⟨(captured.map a.eval).toList, by rw [Array.toArray_toList], ?_⟩⟩
      rw [mapL_eq]
      refine (VRs.iff _ _).2 ⟨by simp, fun j u vv hu hvv => ?_⟩
      simp only [List.getElem?_map, Array.toList_map] at hu hvv
      cases hj : captured.toList[j]? with
      | none => rw [hj] at hu; cases hu
      | some y =>
        rw [hj] at hu hvv
        have h1 := Option.some.inj hu
        have h2 := Option.some.inj hvv
        subst h1; subst h2
        exact ho y (by simp [hop, Op.operands, hf']; exact Array.mem_toList_iff.1 (List.mem_of_getElem? hj))
    · cases e
  · cases e
end
end Go.Proofs.YtnbnoacadhoimaaGreatDoor.Ax
