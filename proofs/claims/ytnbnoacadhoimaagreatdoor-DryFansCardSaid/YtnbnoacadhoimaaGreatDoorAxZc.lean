/- An evaluator for the model: part Zc. -/
import Derived.Test.YtnbnoacadhoimaaGreatDoorAxZb
set_option linter.unusedSimpArgs false
set_option linter.unusedVariables false
set_option maxRecDepth 100000
set_option maxHeartbeats 8000000
namespace Go.Proofs.YtnbnoacadhoimaaGreatDoor.Ax
open Go Go.RowKit
set_option linter.unusedSimpArgs false
set_option linter.unusedVariables false
section
variable {P : Program} {w : World} {ι : Emb} {o : Oper} {tm : Tm} {h h' : Hp} {v : AV}
theorem oBin_ok' {op : BinOp} {t u : TypeId} {x y : Operand} (hop : o.op = .binOp op t x y u) (e : oBin op t x y u P tm h = .val v h') : OpOk P o tm h h' v [] [] := by
  refine oBin_ok hop e ?_
  have e' : (bif gOk P t x y (opd tm x) then okv h (binop P op t (opd tm x) (opd tm y)) else .bad) = .val v h' := e
  cases hg : gOk P t x y (opd tm x) with
  | false => rw [hg] at e'; cases e'
  | true => rw [hg] at e'; exact okv_ne e'
/-- Every operation that is no call of a function. -/
theorem aop_ok (e : aop o.op P tm h = .val v h') : ∃ rd wr, foot tm o.op = (.ids rd, .ids wr) ∧ OpOk P o tm h h' v rd wr ∧ (∀ id ∈ wr, id ∈ rd) := by
  have nil : ∀ {p : OpOk P o tm h h' v [] []}, foot tm o.op = (.ids [], .ids []) → ∃ rd wr, foot tm o.op = (.ids rd, .ids wr) ∧ OpOk P o tm h h' v rd wr ∧ (∀ id ∈ wr, id ∈ rd) :=
    fun {p} hf => ⟨[], [], hf, p, fun _ h => h⟩
  cases hop : o.op with
  | move x => rw [hop] at e nil; exact nil (p := oMove_ok (.inl hop) e) rfl
  | assign x => rw [hop] at e nil; exact nil (p := oMove_ok (.inr hop) e) rfl
  | pick c a b => rw [hop] at e nil; exact nil (p := oPick_ok hop e) rfl
  | alloc t => rw [hop] at e nil; exact nil (p := oAlloc_ok hop e) rfl
  | box t x => rw [hop] at e nil; exact nil (p := oBox_ok hop e) rfl
  | build t ps => rw [hop] at e nil; exact nil (p := oBuild_ok hop e) rfl
  | buildSlice t n ps => rw [hop] at e nil; exact nil (p := oBuildSlice_ok hop e) rfl
  | load t x => rw [hop] at e; exact ⟨_, _, rfl, oLoad_ok hop e, fun _ h => by cases h⟩
  | store t x y => rw [hop] at e; exact ⟨_, _, rfl, oStore_ok hop e, fun _ h => h⟩
  | nilCheck x => rw [hop] at e nil; exact nil (p := oNil_ok hop e) rfl
  | binOp op t x y u => rw [hop] at e nil; exact nil (p := oBin_ok' hop e) rfl
  | unOp op t x => rw [hop] at e nil; exact nil (p := oUn_ok hop e) rfl
  | convert s d x => rw [hop] at e; exact ⟨_, _, rfl, oConv_ok hop e, fun _ h => by cases h⟩
  | makeFunc f a b => rw [hop] at e nil; exact nil (p := oFunc_ok hop e) rfl
  | makeSlice t a b => rw [hop] at e nil; exact nil (p := oMakeSlice_ok hop e) rfl
  | slice t x a b c => rw [hop] at e nil; exact nil (p := oSlice_ok hop e) rfl
  | fieldAddr t x i => rw [hop] at e nil; exact nil (p := oFieldAddr_ok hop e) rfl
  | field t x i => rw [hop] at e nil; exact nil (p := oField_ok hop e) rfl
  | indexAddr t x i => rw [hop] at e nil; exact nil (p := oIndexAddr_ok hop e) rfl
  | index t x i => rw [hop] at e nil; exact nil (p := oIndex_ok hop e) rfl
  | extract x i => rw [hop] at e nil; exact nil (p := oExtract_ok hop e) rfl
  | call c =>
    rw [hop] at e nil
    have e1 : oCall c P tm h = .val v h' := e
    unfold oCall at e1
    split at e1
    · rename_i f hf
      unfold callee at e1
      split at e1 <;> cases e1
    · rename_i b hb
      have hfoot : foot tm (.call c) = footB b (mapL (opd tm) c.args.toList) := by simp only [foot, hb]
      rw [hfoot]
      unfold bi at e1
      split at e1
      · split at e1
        · rename_i x ha
          split at e1
          · rename_i t ts ht
            exact ⟨[], [], rfl, bLen_ok hop hb ha ht e1, fun _ h => h⟩
          · cases e1
        · cases e1
      · split at e1
        · rename_i s x ha
          split at e1
          · rename_i t u ht
            rw [ha]
            exact ⟨_, _, rfl, bAppend_ok hop hb ha ht e1, fun id hid => List.mem_append.2 (.inl hid)⟩
          · cases e1
        · cases e1
      · split at e1
        · rename_i d s ha
          split at e1
          · rename_i t u ht
            rw [ha]
            exact ⟨_, _, rfl, bCopy_ok hop hb ha ht e1, fun id hid => List.mem_append.2 (.inl hid)⟩
          · cases e1
        · cases e1
      · exact ⟨[], [], rfl, bMM_ok (b := false) rfl hop hb e1, fun _ h => h⟩
      · exact ⟨[], [], rfl, bMM_ok (b := true) rfl hop hb e1, fun _ h => h⟩
      · cases e1
    · cases e1
  | _ => rw [hop] at e; cases e
/-- A call of a function. -/
theorem aop_enter {f : Nat} {args : List AV} (e : aop o.op P tm h = .enter f args) (hfn : isFn o.op = true) : foot tm o.op = (.all, .all) ∧ ∀ (ι : Emb) (a : Act), Opr ι tm a o → ∃ vals : List Value, VRs ι args vals ∧ ∀ w, (execOp a.eval o).run P w = (callFunc f vals.toArray).run P w := by
  unfold isFn at hfn
  split at hfn
  · rename_i c hop
    split at hfn
    · rename_i fo hf
      rw [hop] at e ⊢
      have e1 : oCall c P tm h = .enter f args := e
      unfold oCall at e1
      rw [hf] at e1
      simp only at e1
      unfold callee at e1
      split at e1
      · rename_i g caps hp
        injection e1 with h1 h2
        subst h1
        refine ⟨by simp only [foot, hf], fun ι a ho => ?_⟩
        have hfo := ho fo (by simp [hop, Op.operands, Call.operands, hf])
        rw [hp] at hfo
        obtain ⟨cs, hv, hcs⟩ := VR.fn.1 hfo
        have hargs := args_rel (ι := ι) (tm := tm) (a := a) (xs := c.args.toList) (fun x hx => ho x (by simp [hop, Op.operands, Call.operands, hf]; exact .inr (by simpa using hx)))
        refine ⟨c.args.toList.map a.eval ++ cs, ?_, fun w => ?_⟩
        · rw [← h2, appL_eq]
          obtain ⟨p1, p2⟩ := (VRs.iff _ _).1 hargs
          obtain ⟨q1, q2⟩ := (VRs.iff _ _).1 hcs
          refine (VRs.iff _ _).2 ⟨by rw [List.length_append, List.length_append, p1, q1], fun j b u hb hu => ?_⟩
          rw [List.getElem?_append] at hb hu
          by_cases hj : j < (mapL (opd tm) c.args.toList).length
          · rw [if_pos hj] at hb
            rw [if_pos (by omega)] at hu
            exact p2 j b u hb hu
          · rw [if_neg hj] at hb
            rw [if_neg (by omega)] at hu
            rw [p1] at hb
            exact q2 _ b u hb hu
        · have he : (c.args.map a.eval ++ cs.toArray) = (c.args.toList.map a.eval ++ cs).toArray := by apply Array.ext'; simp
          simp only [execOp, hop, resolve, hf, hv, Deferred.ofValue, Sem.run_bind, Sem.run_pure, Result.andThen_ok, invoke, Array.empty_append, he]
      · cases e1
    · cases hfn
  · cases hfn

theorem Ext.trans {ι1 ι2 : Emb} {w1 : World} {lo mid hi wm1 wm2 : Nat} (h1 : Ext ι ι1 lo mid wm1 w) (h2 : Ext ι1 ι2 mid hi wm2 w1) (hs : w.heap.size ≤ w1.heap.size) (hw : wm2 ≤ wm1) (hl : lo ≤ mid) (hm : mid ≤ hi) : Ext ι ι2 lo hi wm2 w := by
  have fst : ∀ id l, lo ≤ id → id < mid → ι1 id = some l → w.heap.size ≤ l.b ∨ ∃ id0 l0, wm2 ≤ id0 ∧ id0 < lo ∧ ι id0 = some l0 ∧ l0.b = l.b := by
    intro id l a b e
    rcases h1.new id l a b e with h | ⟨id0, l0, c1, c2, c3, c4⟩
    · exact .inl h
    · exact .inr ⟨id0, l0, by omega, c2, c3, c4⟩
  refine ⟨fun id hid => ?_, fun id l a b e => ?_⟩
  · rw [h2.same id (by omega), h1.same id (by omega)]
  · by_cases hc : id < mid
    · rw [h2.same id (by omega)] at e
      exact fst id l a hc e
    · rcases h2.new id l (by omega) b e with h | ⟨id0, l0, c1, c2, c3, c4⟩
      · exact .inl (Nat.le_trans hs h)
      · by_cases hc0 : id0 < lo
        · rw [h1.same id0 (by omega)] at c3
          exact .inr ⟨id0, l0, c1, hc0, c3, c4⟩
        · rcases fst id0 l0 (by omega) c2 c3 with h | ⟨id1, l1, d1, d2, d3, d4⟩
          · exact .inl (by rw [← c4]; exact h)
          · exact .inr ⟨id1, l1, d1, d2, d3, by rw [d4, c4]⟩
theorem Fr.trans {ι1 : Emb} {w1 w2 : World} {lo mid wm1 wm2 : Nat} (he : Ext ι ι1 lo mid wm1 w) (h1 : Fr ι wm1 lo w w1) (h2 : Fr ι1 wm2 mid w1 w2) (hw : wm2 ≤ wm1) : Fr ι wm2 lo w w2 := by
  refine ⟨h2.os.trans h1.os, h2.tape.trans h1.tape, h2.output.trans h1.output, Nat.le_trans h1.size h2.size, fun B hB hn => ?_⟩
  rw [h2.keep B (Nat.lt_of_lt_of_le hB h1.size) (fun id l a b e => ?_), h1.keep B hB (fun id l a b e => hn id l (by omega) b e)]
  by_cases hc : id < lo
  · rw [he.same id (by omega)] at e
    exact hn id l a hc e
  · rcases he.new id l (by omega) b e with h | ⟨id0, l0, d1, d2, d3, d4⟩
    · omega
    · rw [← d4]; exact hn id0 l0 (by omega) d2 d3
theorem Fr.mono {lo lo' hi : Nat} {w' : World} (h : Fr ι lo hi w w') (hl : lo' ≤ lo) : Fr ι lo' hi w w' :=
  ⟨h.os, h.tape, h.output, h.size, fun B hB hn => h.keep B hB fun id l a b e => hn id l (by omega) b e⟩
theorem Ext.mono {ι1 : Emb} {lo hi wm wm' : Nat} (h : Ext ι ι1 lo hi wm w) (hl : wm' ≤ wm) : Ext ι ι1 lo hi wm' w :=
  ⟨h.same, fun id l a b e => by
    rcases h.new id l a b e with h | ⟨id0, l0, c1, c2, c3, c4⟩
    · exact .inl h
    · exact .inr ⟨id0, l0, by omega, c2, c3, c4⟩⟩
theorem Free.sub {lo hi lo' hi' : Nat} (h : Free ι lo hi) (h1 : lo ≤ lo') (h2 : hi' ≤ hi) : Free ι lo' hi' := fun id a b => h id (by omega) (by omega)
theorem Free.ext {ι1 : Emb} {lo mid hi wm : Nat} (h : Free ι lo hi) (he : Ext ι ι1 lo mid wm w) (hm : lo ≤ mid) : Free ι1 mid hi := fun id a b => by
  rw [he.same id (by omega)]
  exact h id (by omega) b
end
end Go.Proofs.YtnbnoacadhoimaaGreatDoor.Ax
