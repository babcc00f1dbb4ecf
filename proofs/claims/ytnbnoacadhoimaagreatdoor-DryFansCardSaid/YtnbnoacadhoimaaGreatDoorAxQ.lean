/- An evaluator for the model: part Q. -/
import Derived.Test.YtnbnoacadhoimaaGreatDoorAxP
import Derived.Laws.StructEq
set_option linter.unusedSimpArgs false
set_option linter.unusedVariables false
set_option maxRecDepth 100000
set_option maxHeartbeats 8000000
namespace Go.Proofs.YtnbnoacadhoimaaGreatDoor.Ax
open Go Go.RowKit
set_option linter.unusedSimpArgs false
set_option linter.unusedVariables false
theorem intEq_eq (a b : Int) : intEq a b = decide (a = b) := by
  rw [Bool.eq_iff_iff]
  cases a <;> cases b <;> simp [intEq, Nat.beq_eq] <;> omega
theorem intLt_eq (a b : Int) : intLt a b = decide (a < b) := by
  rw [Bool.eq_iff_iff]
  cases a <;> cases b <;> simp [intLt, Nat.blt] <;> omega
theorem ble_eq (a b : Nat) : Nat.ble a b = decide (a ≤ b) := by rw [Bool.eq_iff_iff]; simp
theorem blt_eq (a b : Nat) : Nat.blt a b = decide (a < b) := by rw [Bool.eq_iff_iff]; simp [Nat.blt]; omega
theorem beqN_eq (a b : Nat) : Nat.beq a b = decide (a = b) := by rw [Bool.eq_iff_iff]; simp
theorem wrap_in (k : IntKind) (n : Int) (h : (if k.signed then -(lim k : Int) - 1 ≤ n ∧ n ≤ lim k else 0 ≤ n ∧ n ≤ lim k)) : k.wrap n = n := by
  have p7 : (2 : Int) ^ 7 = 128 := by decide
  have p8 : (2 : Int) ^ 8 = 256 := by decide
  have p15 : (2 : Int) ^ 15 = 32768 := by decide
  have p16 : (2 : Int) ^ 16 = 65536 := by decide
  have p31 : (2 : Int) ^ 31 = 2147483648 := by decide
  have p32 : (2 : Int) ^ 32 = 4294967296 := by decide
  have p63 : (2 : Int) ^ 63 = 9223372036854775808 := by decide
  have p64 : (2 : Int) ^ 64 = 18446744073709551616 := by decide
  cases k <;> simp only [IntKind.wrap, IntKind.bits, IntKind.signed, lim, Bool.true_and, Bool.false_and, Nat.reduceSub, p7, p8, p15, p16, p31, p32, p63, p64, if_true, Bool.false_eq_true, if_false, decide_eq_true_eq] at h ⊢ <;> (try split) <;> omega
theorem wrp_eq (k : IntKind) (n : Int) : wrp k n = k.wrap n := by
  cases n with
  | ofNat m =>
    show (bif Nat.ble m (lim k) then Int.ofNat m else k.wrap (.ofNat m)) = _
    rw [ble_eq]
    by_cases hm : m ≤ lim k
    · rw [decide_eq_true hm]
      exact (wrap_in k (.ofNat m) (by cases k <;> simp [IntKind.signed, lim] at hm ⊢ <;> omega)).symm
    · rw [decide_eq_false hm]; rfl
  | negSucc m =>
    show (bif sgnd k then (bif Nat.ble m (lim k) then Int.negSucc m else k.wrap (.negSucc m)) else k.wrap (.negSucc m)) = _
    rw [ble_eq]
    by_cases hm : m ≤ lim k
    · rw [decide_eq_true hm]
      cases hs : sgnd k with
      | false => rfl
      | true => exact (wrap_in k (.negSucc m) (by cases k <;> simp [IntKind.signed, lim, sgnd] at hm hs ⊢ <;> omega)).symm
    · rw [decide_eq_false hm]; cases sgnd k <;> rfl
theorem bytesEq_eq : ∀ a b : List UInt8, bytesEq a b = decide (a = b)
  | [], [] => rfl
  | [], _ :: _ => rfl
  | _ :: _, [] => rfl
  | a :: x, b :: y => by
    show (bif Nat.beq a.toNat b.toNat then bytesEq x y else false) = _
    rw [bytesEq_eq x y, beqN_eq]
    by_cases h : a = b
    · subst h; simp
    · have : ¬ a.toNat = b.toNat := fun e => h (UInt8.toNat_inj.1 e)
      simp [h, this]
theorem bytesLess_eq : ∀ a b : List UInt8, bytesLess a b = Op.bytesLess a b
  | [], [] => rfl
  | [], _ :: _ => rfl
  | _ :: _, [] => rfl
  | a :: x, b :: y => by
    show (bif Nat.blt a.toNat b.toNat then true else bif Nat.beq a.toNat b.toNat then bytesLess x y else false) = _
    rw [bytesLess_eq x y, beqN_eq, blt_eq]
    show _ = (decide (a < b) || (a == b && Op.bytesLess x y))
    have h1 : (a == b) = decide (a.toNat = b.toNat) := by rw [Bool.eq_iff_iff]; simp [UInt8.toNat_inj]
    have h2 : decide (a < b) = decide (a.toNat < b.toNat) := by rw [Bool.eq_iff_iff]; simp [UInt8.lt_iff_toNat_lt]
    rw [h1, h2]
    by_cases h3 : a.toNat < b.toNat
    · simp [h3]
    · by_cases h4 : a.toNat = b.toNat <;> simp [h3, h4]
theorem min_bif (a b : Nat) : (bif Nat.ble a b then a else b) = min a b := by
  rw [ble_eq]
  by_cases h : a ≤ b
  · simp [h, Nat.min_eq_left h]
  · simp only [h, decide_false, cond_false]; rw [Nat.min_eq_right (by omega)]
theorem pow_cast (n : Nat) : Int.ofNat (Nat.pow 2 n) = (2 : Int) ^ n := by
  show ((2 ^ n : Nat) : Int) = _
  rw [Int.natCast_pow]; rfl
section
variable {P : Program} {w : World} {ι : Emb}
theorem bInt_run {op : BinOp} {t : TypeId} {k k' : IntKind} {a b : Int} {v : AV} (e : bInt op k a (.int k' b) = v) (hv : v ≠ .any) : ∃ vc, (Go.binOp op t (.int k a) (.int k' b)).run P w = .ok vc w ∧ VR ι v vc := by
  have e' : (bif isShift op || decide (k = k') then intOp op k a b else .any) = v := e
  have hb : (isShift op || decide (k = k')) = true := by
    cases hb : (isShift op || decide (k = k')) with
    | true => rfl
    | false => rw [hb] at e'; exact absurd e'.symm hv
  rw [hb] at e'
  subst e'
  show ∃ vc, (Go.binOp op t (.int k a) (.int k' b)).run P w = .ok vc w ∧ VR ι (intOp op k a b) vc
  have hne : intOp op k a b ≠ .any := hv
  clear e hv
  have neg : ∀ b : Int, ¬ b < 0 → decide (b < 0) = false := fun b h => by simp [h]
  cases op
  case shl =>
    have h2 : intOp .shl k a b = (bif intLt b 0 then .any else .int k (wrp k (Int.mul a (Int.ofNat (Nat.pow 2 (bif Nat.ble b.toNat k.bits then b.toNat else k.bits)))))) := rfl
    rw [h2] at hne ⊢
    by_cases h0 : b < 0
    · rw [intLt_eq, decide_eq_true h0] at hne; exact absurd rfl hne
    · rw [intLt_eq, neg b h0, min_bif, pow_cast, wrp_eq]
      refine ⟨_, ?_, VR.int.2 rfl⟩
      simp [Go.binOp, Op.shift, h0]
  case shr =>
    have h2 : intOp .shr k a b = (bif intLt b 0 then .any else .int k (Int.fdiv a (Int.ofNat (Nat.pow 2 (bif Nat.ble b.toNat k.bits then b.toNat else k.bits))))) := rfl
    rw [h2] at hne ⊢
    by_cases h0 : b < 0
    · rw [intLt_eq, decide_eq_true h0] at hne; exact absurd rfl hne
    · rw [intLt_eq, neg b h0, min_bif, pow_cast]
      refine ⟨_, ?_, VR.int.2 rfl⟩
      simp [Go.binOp, Op.shift, h0]
  all_goals (have hk : k = k' := by simpa [isShift] using hb)
  all_goals subst hk
  case add => exact ⟨.int k (k.wrap (a + b)), by simp [Go.binOp, Op.intArith], VR.int.2 (by rw [wrp_eq]; rfl)⟩
  case sub => exact ⟨.int k (k.wrap (a - b)), by simp [Go.binOp, Op.intArith], VR.int.2 (by rw [wrp_eq]; rfl)⟩
  case mul => exact ⟨.int k (k.wrap (a * b)), by simp [Go.binOp, Op.intArith], VR.int.2 (by rw [wrp_eq]; rfl)⟩
  case quo =>
    have h2 : intOp .quo k a b = (bif intEq b 0 then .any else .int k (wrp k (Int.tdiv a b))) := rfl
    rw [h2] at hne ⊢
    by_cases h0 : b = 0
    · rw [intEq_eq, decide_eq_true h0] at hne; exact absurd rfl hne
    · rw [intEq_eq, decide_eq_false h0, wrp_eq]
      exact ⟨_, by simp [Go.binOp, Op.intDiv, h0], VR.int.2 rfl⟩
  case rem =>
    have h2 : intOp .rem k a b = (bif intEq b 0 then .any else .int k (Int.tmod a b)) := rfl
    rw [h2] at hne ⊢
    by_cases h0 : b = 0
    · rw [intEq_eq, decide_eq_true h0] at hne; exact absurd rfl hne
    · rw [intEq_eq, decide_eq_false h0]
      exact ⟨_, by simp [Go.binOp, Op.intDiv, h0], VR.int.2 rfl⟩
  case and => exact ⟨.int k (k.wrap (BitVec.ofInt k.bits a &&& BitVec.ofInt k.bits b).toNat), by simp only [Go.binOp, ne_eq, not_true_eq_false, if_false, Op.intBits]; rfl, VR.int.2 (by rw [wrp_eq, BitVec.toNat_and]; rfl)⟩
  case or => exact ⟨.int k (k.wrap (BitVec.ofInt k.bits a ||| BitVec.ofInt k.bits b).toNat), by simp only [Go.binOp, ne_eq, not_true_eq_false, if_false, Op.intBits]; rfl, VR.int.2 (by rw [wrp_eq, BitVec.toNat_or]; rfl)⟩
  case xor => exact ⟨.int k (k.wrap (BitVec.ofInt k.bits a ^^^ BitVec.ofInt k.bits b).toNat), by simp only [Go.binOp, ne_eq, not_true_eq_false, if_false, Op.intBits]; rfl, VR.int.2 (by rw [wrp_eq, BitVec.toNat_xor]; rfl)⟩
  case andNot => exact absurd rfl hne
  case eql => exact ⟨.bool (decide (a = b)), by simp [Go.binOp, Op.intCmp, bne]; rfl, VR.bool.2 (by congr 1; show _ = intEq a b; rw [intEq_eq])⟩
  case neq => exact ⟨.bool (!decide (a = b)), by simp [Go.binOp, Op.intCmp, bne]; rfl, VR.bool.2 (by congr 1; show _ = !intEq a b; rw [intEq_eq])⟩
  case lss => exact ⟨.bool (decide (a < b)), by simp [Go.binOp, Op.intCmp, bne], VR.bool.2 (by congr 1; show _ = intLt a b; rw [intLt_eq])⟩
  case leq => exact ⟨.bool (decide (a ≤ b)), by simp [Go.binOp, Op.intCmp, bne], VR.bool.2 (by congr 1; show _ = !intLt b a; rw [intLt_eq, ← decide_not]; congr 1; simp)⟩
  case gtr => exact ⟨.bool (decide (b < a)), by simp [Go.binOp, Op.intCmp, bne], VR.bool.2 (by congr 1; show _ = intLt b a; rw [intLt_eq])⟩
  case geq => exact ⟨.bool (decide (b ≤ a)), by simp [Go.binOp, Op.intCmp, bne], VR.bool.2 (by congr 1; show _ = !intLt a b; rw [intLt_eq, ← decide_not]; congr 1; simp)⟩

theorem data_size (s : List UInt8) : (ByteArray.mk ⟨s⟩).size = s.length := rfl
theorem bytes_toList (s : List UInt8) : (ByteArray.mk ⟨s⟩).toList = s := by rw [ByteArray.toList_eq]
theorem bytes_append (a b : List UInt8) : (ByteArray.mk ⟨a⟩) ++ (ByteArray.mk ⟨b⟩) = ByteArray.mk ⟨a ++ b⟩ := by
  apply ByteArray.ext
  simp
theorem beqL (a b : List UInt8) : (a == b) = decide (a = b) := by rw [Bool.eq_iff_iff]; simp
theorem bStr_run {op : BinOp} {t : TypeId} {a b : List UInt8} {v : AV} (e : bStr op a (.str b) = v) (hv : v ≠ .any) : ∃ vc, (Go.binOp op t (.string ⟨⟨a⟩⟩) (.string ⟨⟨b⟩⟩)).run P w = .ok vc w ∧ VR ι v vc := by
  have e' : strOp op a b = v := e
  subst e'
  clear e
  cases op
  case add =>
    have h2 : strOp .add a b = (bif Nat.ble (lenL a + lenL b) 1000000 then .str (appL a b) else .any) := rfl
    rw [h2] at hv ⊢
    rw [ble_eq, lenL_eq, lenL_eq] at hv ⊢
    by_cases hl : a.length + b.length ≤ 1000000
    · rw [decide_eq_true hl]
      refine ⟨_, ?_, VR.str.2 rfl⟩
      have := run_string_add_sum (P := P) w ⟨⟨a⟩⟩ ⟨⟨b⟩⟩ (by rw [data_size, data_size]; omega)
      rw [bytes_append] at this
      simpa [Go.binOp, appL_eq] using this
    · rw [decide_eq_false hl] at hv; exact absurd rfl hv
  case eql => exact ⟨.bool (decide (a = b)), by simp [Go.binOp, Op.stringOp, bytes_toList, beqL], VR.bool.2 (by congr 1; show _ = bytesEq a b; rw [bytesEq_eq])⟩
  case neq => exact ⟨.bool (!decide (a = b)), by simp [Go.binOp, Op.stringOp, bytes_toList, beqL], VR.bool.2 (by congr 1; show _ = !bytesEq a b; rw [bytesEq_eq])⟩
  case lss => exact ⟨.bool (Op.bytesLess a b), by simp [Go.binOp, Op.stringOp, bytes_toList], VR.bool.2 (by congr 1; show _ = bytesLess a b; rw [bytesLess_eq])⟩
  case leq => exact ⟨.bool (Op.bytesLess a b || decide (a = b)), by simp [Go.binOp, Op.stringOp, bytes_toList, beqL], VR.bool.2 (by congr 1; show _ = (bytesLess a b || bytesEq a b); rw [bytesLess_eq, bytesEq_eq])⟩
  case gtr => exact ⟨.bool (!(Op.bytesLess a b || decide (a = b))), by simp [Go.binOp, Op.stringOp, bytes_toList, beqL], VR.bool.2 (by congr 1; show _ = !(bytesLess a b || bytesEq a b); rw [bytesLess_eq, bytesEq_eq])⟩
  case geq => exact ⟨.bool (!Op.bytesLess a b), by simp [Go.binOp, Op.stringOp, bytes_toList], VR.bool.2 (by congr 1; show _ = !bytesLess a b; rw [bytesLess_eq])⟩
  all_goals exact absurd rfl hv
/-- Scalars. -/
theorem eqS_run {t : TypeId} {td : TypeDesc} {x y : AV} {vx vy : Value} {r : Bool} (d : Nat) (hu : P.underlying t = some td) (hx : VR ι x vx) (hy : VR ι y vy) (e : eqS x y td = some r) :
    (Op.equalIn (d + 1) t vx vy).run P w = .ok r w := by
  unfold eqS at e
  split at e
  · split at e
    · cases y with
      | bool b =>
        have h1 := VR.bool.1 hx; have h2 := VR.bool.1 hy; subst h1; subst h2
        have h3 := Option.some.inj (show some _ = some r from e)
        subst h3
        rename_i a
        simp [Op.equalIn, run_underlying hu]
        cases a <;> cases b <;> rfl
      | _ => cases e
    · cases e
  · split at e
    · cases y with
      | int k b =>
        have h1 := VR.int.1 hx; have h2 := VR.int.1 hy; subst h1; subst h2
        rename_i k' a
        have e' : (bif decide (k' = k) then some (intEq a b) else none) = some r := e
        by_cases hk : k' = k
        · subst hk
          simp only [decide_true, cond_true] at e'
          have h3 := Option.some.inj e'
          subst h3
          simp [Op.equalIn, run_underlying hu, intEq_eq]
          rfl
        · rw [decide_eq_false hk] at e'; cases e'
      | _ => cases e
    · cases e
  · split at e
    · cases y with
      | str b =>
        have h1 := VR.str.1 hx; have h2 := VR.str.1 hy; subst h1; subst h2
        have h3 := Option.some.inj (show some _ = some r from e)
        subst h3
        rename_i a
        simp only [Op.equalIn, Sem.run_bind, run_underlying hu, Result.andThen_ok, beq_toListBytes, bytes_toList, bytesEq_eq, beqL]
        rfl
      | _ => cases e
    · cases e
  · split at e
    · have h1 := VR.nilp.1 hx; subst h1
      cases y with
      | nilp => have h2 := VR.nilp.1 hy; subst h2; have h3 := Option.some.inj (show some _ = some r from e); subst h3; simp [Op.equalIn, run_underlying hu]
      | ptr id off => obtain ⟨l, _, h2⟩ := VR.ptr.1 hy; subst h2; have h3 := Option.some.inj (show some _ = some r from e); subst h3; simp [Op.equalIn, run_underlying hu]
      | _ => cases e
    · obtain ⟨l, _, h1⟩ := VR.ptr.1 hx; subst h1
      cases y with
      | nilp => have h2 := VR.nilp.1 hy; subst h2; have h3 := Option.some.inj (show some _ = some r from e); subst h3; simp [Op.equalIn, run_underlying hu]
      | _ => cases e
    · cases e
  · split at e
    · have h1 := VR.nils.1 hx; subst h1
      cases y with
      | nils => have h2 := VR.nils.1 hy; subst h2; have h3 := Option.some.inj (show some _ = some r from e); subst h3; simp [Op.equalIn, run_underlying hu]
      | slc id off len cap => obtain ⟨l, x, c, _, h2, _⟩ := VR.slc.1 hy; subst h2; have h3 := Option.some.inj (show some _ = some r from e); subst h3; simp [Op.equalIn, run_underlying hu]
      | _ => cases e
    · obtain ⟨l, x, c, _, h1, _⟩ := VR.slc.1 hx; subst h1
      cases y with
      | nils => have h2 := VR.nils.1 hy; subst h2; have h3 := Option.some.inj (show some _ = some r from e); subst h3; simp [Op.equalIn, run_underlying hu]
      | _ => cases e
    · cases e
  · split at e
    · have h1 := VR.nilf.1 hx; subst h1
      cases y with
      | nilf => have h2 := VR.nilf.1 hy; subst h2; have h3 := Option.some.inj (show some _ = some r from e); subst h3; simp [Op.equalIn, run_underlying hu]
      | fn f cs => obtain ⟨l, h2, _⟩ := VR.fn.1 hy; subst h2; have h3 := Option.some.inj (show some _ = some r from e); subst h3; simp [Op.equalIn, run_underlying hu]
      | _ => cases e
    · obtain ⟨l, h1, _⟩ := VR.fn.1 hx; subst h1
      cases y with
      | nilf => have h2 := VR.nilf.1 hy; subst h2; have h3 := Option.some.inj (show some _ = some r from e); subst h3; simp [Op.equalIn, run_underlying hu]
      | _ => cases e
    · cases e
  · split at e
    · have h1 := VR.nili.1 hx; subst h1
      cases y with
      | nili => have h2 := VR.nili.1 hy; subst h2; have h3 := Option.some.inj (show some _ = some r from e); subst h3; simp [Op.equalIn, run_underlying hu]
      | _ => cases e
    · cases e
  · cases e
end
end Go.Proofs.YtnbnoacadhoimaaGreatDoor.Ax
