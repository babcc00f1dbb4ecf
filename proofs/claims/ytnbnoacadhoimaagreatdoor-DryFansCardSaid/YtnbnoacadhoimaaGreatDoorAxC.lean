/- An evaluator for the model: part C. -/
import Derived.Test.YtnbnoacadhoimaaGreatDoorAxZc
import Derived.Tactics
set_option linter.unusedSimpArgs false
set_option linter.unusedVariables false
set_option maxRecDepth 100000
set_option maxHeartbeats 8000000
namespace Go.Proofs.YtnbnoacadhoimaaGreatDoor.Ax
open Go Go.RowKit
set_option linter.unusedSimpArgs false
set_option linter.unusedVariables false
/-- The variables of a call. -/
structure TmR (ι : Emb) (tm : Tm) (n : Nat) (a : Act) : Prop where
  size : a.tmps.size = n
  val : ∀ t, VR ι (tmpV tm t) (a.tmps.getD t undef)
section
variable {P : Program} {hk : Hook} {self : Self} {w : World} {ι : Emb} {o : Oper} {tm tm' : Tm} {h h' : Hp} {v : AV} {n : Nat} {a : Act}
theorem TmR.mono {ι' : Emb} (hi : Le ι ι') (hT : TmR ι tm n a) : TmR ι' tm n a := ⟨hT.size, fun t => VR.mono hi _ _ (hT.val t)⟩
theorem TmR.opd {H : Hf} (hT : TmR ι tm n a) (hW : WR ι H w) (x : Operand) : VR ι (opd tm x) (a.eval x) := by
  cases x with
  | tmp t => exact hT.val t
  | const v => exact VR.toAV v
  | func f => exact VR.fn.2 ⟨[], rfl, VRs.nil.2 rfl⟩
  | global g =>
    show VR ι (bif Nat.blt g 100 then .ptr g 0 else .any) (.pointer (some ⟨g, 0, none⟩))
    rw [blt_eq]
    by_cases hg : g < 100
    · rw [decide_eq_true hg]
      obtain ⟨m, hm⟩ := hW.gl g hg
      exact VR.ptr.2 ⟨_, hm, by simp⟩
    · rw [decide_eq_false hg]; exact VR.any
theorem TmR.opr {H : Hf} (hT : TmR ι tm n a) (hW : WR ι H w) : Opr ι tm a o := fun x _ => hT.opd hW x
theorem put_eq {d : Option Nat} (e : put n tm d v = some tm') : (d = none ∧ tm' = tm) ∨ ∃ k, d = some k ∧ k < n ∧ tm' = tm.set k v := by
  cases d with
  | none => exact .inl ⟨rfl, (Option.some.inj (show some tm = some tm' from e)).symm⟩
  | some k =>
    have e' : (Bool.rec (motive := fun _ => Option Tm) none (some (tm.set k v)) (Nat.blt k n) : Option Tm) = some tm' := e
    rw [blt_eq] at e'
    by_cases hk : k < n
    · rw [decide_eq_true hk] at e'
      exact .inr ⟨k, rfl, hk, (Option.some.inj e').symm⟩
    · rw [decide_eq_false hk] at e'; cases e'
theorem tmpV_set (k t : Nat) : tmpV (tm.set k v) t = if t = k then v else tmpV tm t := by
  unfold tmpV
  rw [Tr.get_set]
  split <;> rfl
theorem TmR.put {d : Option Nat} {vc : Value} (hT : TmR ι tm n a) (hv : VR ι v vc) (e : put n tm d v = some tm') : TmR ι tm' n (a.put d vc) := by
  rcases put_eq e with ⟨rfl, rfl⟩ | ⟨k, rfl, hk, rfl⟩
  · exact hT
  · refine ⟨by simpa [Act.put] using hT.size, fun t => ?_⟩
    rw [tmpV_set]
    have hs := hT.size
    by_cases ht : t = k
    · subst ht
      rw [if_pos rfl]
      have : (a.put (some t) vc).tmps.getD t undef = vc := by simp [Act.put, Array.getD, hs, hk]
      rw [this]; exact hv
    · rw [if_neg ht]
      have : (a.put (some k) vc).tmps.getD t undef = a.tmps.getD t undef := by
        simp only [Act.put, Array.getD_eq_getD_getElem?]
        rw [Array.getElem?_setIfInBounds_ne (Ne.symm ht)]
      rw [this]; exact hT.val t
theorem VR.bool_iff {x : AV} {u : Value} (hx : VR ι x u) (hne : x ≠ .any) (b : Bool) (hu : u = .bool b) : x = .bool b := by
  subst hu
  cases x with
  | bool c => have := VR.bool.1 hx; injection this with h; rw [h]
  | int k m => have := VR.int.1 hx; cases this
  | str s => have := VR.str.1 hx; cases this
  | ptr id off => obtain ⟨l, _, this⟩ := VR.ptr.1 hx; cases this
  | nilp => have := VR.nilp.1 hx; cases this
  | slc id off len cap => obtain ⟨l, y, c, _, this, _⟩ := VR.slc.1 hx; cases this
  | nils => have := VR.nils.1 hx; cases this
  | agg vs => obtain ⟨cs, this, _⟩ := VR.agg.1 hx; cases this
  | tup vs => obtain ⟨cs, this, _⟩ := VR.tup.1 hx; cases this
  | fn f vs => obtain ⟨cs, this, _⟩ := VR.fn.1 hx; cases this
  | nilf => have := VR.nilf.1 hx; cases this
  | nili => have := VR.nili.1 hx; cases this
  | any => exact absurd rfl hne
def tv (b : Bool) : Value → Bool
  | .bool c => c == b
  | _ => false
theorem isTrue_eq {b r : Bool} {x : AV} {u : Value} (e : isTrue b x = some r) (hx : VR ι x u) : tv b u = r := by
  unfold isTrue at e
  split at e
  · rename_i c
    have := VR.bool.1 hx
    subst this
    have := Option.some.inj e
    subst this
    cases c <;> cases b <;> rfl
  · cases e
  · rename_i h1 h2
    have := Option.some.inj e
    subst this
    cases u with
    | bool c => exact absurd (VR.bool_iff hx h2 c rfl) (h1 c)
    | _ => rfl
theorem dstOf_eq {ops : Array Oper} {g : Nat} : dstOf ops g = (ops[g]?).bind (·.dst) := by
  unfold dstOf
  rw [nthL_eq]
  have : ops.toList[g]? = ops[g]? := by simp
  rw [this]
  cases ops[g]? <;> rfl
/-- Whether an operation is wanted. -/
theorem want_eq {ops : Array Oper} {b : Bool} (e : want ops tm o = some b) (hT : ∀ g c d, o.guard = some (g, c) → dstOf ops g = some d → VR ι (tmpV tm d) (a.tmps.getD d undef)) : Region.wanted o (yielded ops a.tmps) = b := by
  unfold Region.wanted
  have e' : (Option.rec (motive := fun _ => Option Bool) (some true) (fun g => Option.rec (motive := fun _ => Option Bool) (some false) (fun d => isTrue g.2 (tmpV tm d)) (dstOf ops g.1)) o.guard : Option Bool) = some b := e
  cases hg : o.guard with
  | none => rw [hg] at e'; have := Option.some.inj (show some true = some b from e'); subst this; rfl
  | some g =>
    obtain ⟨g, c⟩ := g
    rw [hg] at e'
    have e2 : (Option.rec (motive := fun _ => Option Bool) (some false) (fun d => isTrue c (tmpV tm d)) (dstOf ops g) : Option Bool) = some b := e'
    show (yielded ops a.tmps g == some c) = b
    unfold yielded
    rw [← dstOf_eq]
    cases hd : dstOf ops g with
    | none =>
      rw [hd] at e2
      have := Option.some.inj (show some false = some b from e2)
      subst this
      rfl
    | some d =>
      rw [hd] at e2
      have e3 : isTrue c (tmpV tm d) = some b := e2
      have h1 := isTrue_eq e3 (hT g c d hg hd)
      rw [← h1]
      simp only [Option.bind_some]
      rw [Array.getD_eq_getD_getElem?]
      cases hq : a.tmps[d]? with
      | none => rfl
      | some u =>
        simp only [Option.getD_some]
        cases u <;> first | rfl | (rename_i x; cases x <;> cases c <;> rfl)

structure CallOk (P : Program) (f : Nat) (args : List AV) (h : Hp) (v : AV) (h' : Hp) : Prop where
  nx : h.nx ≤ h'.nx
  wm : h'.wm ≤ h.wm
  bd : Bd h → Bd h'
  keep : ∀ id, id < h.nx → id < h'.wm → h'.h.get id = h.h.get id
  run : ∀ (ι : Emb) (w : World) (vals : List Value), VRs ι args vals → WR ι h.h.get w → Free ι h.nx h'.nx → Bd h → Gives P ((callFunc f vals.toArray).run P w) (Post ι h'.h.get h.nx h'.nx h'.wm w v)
def HookOk (P : Program) (hk : Hook) : Prop := ∀ f g, hk f = some g → ∀ args h v h', g args h = .val v h' → CallOk P f args h v h'
/-- What is behind a piece of code. -/
def St (ι : Emb) (h : Hp) (n : Nat) (a : Act) (w : World) (tm' : Tm) (h' : Hp) (a' : Act) (w' : World) : Prop :=
  a'.defers = a.defers ∧ ∃ ι', Ext ι ι' h.nx h'.nx h'.wm w ∧ TmR ι' tm' n a' ∧ WR ι' h'.h.get w' ∧ Fr ι h'.wm h.nx w w'
def CP (ι : Emb) (h : Hp) (n : Nat) (a : Act) (w : World) : Rs → Exit → Act → World → Prop
  | .normal tm' h', e, a', w' => e = .normal ∧ St ι h n a w tm' h' a' w'
  | .exit i tm' h', e, a', w' => e = .exit i ∧ St ι h n a w tm' h' a' w'
  | .ret tm' h', e, a', w' => e = .ret ∧ St ι h n a w tm' h' a' w'
  | .bad, _, _, _ => False
def outH : Rs → Option Hp
  | .normal _ h => some h
  | .exit _ _ h => some h
  | .ret _ h => some h
  | .bad => none
/-- What a piece of code does; of a loop: from its body on. -/
def cwp (P : Program) (c : Code) (Q : Exit → Act → World → Prop) (a : Act) (w : World) : Prop :=
  match c with
  | .loop b => ∀ (fr : Frame) (k : List Item) (cs : List Frame), ∃ e a' w', Q e a' w' ∧ Arrives P (lone (fr.at a (.code b :: .inLoop b :: k)) cs w) fr k cs e a' w'
  | c => c.wp P Q a w
theorem cwp_wp {c : Code} {Q : Exit → Act → World → Prop} (hc : cwp P c Q a w) : c.wp P Q a w := by
  cases c with
  | loop b =>
    intro fr k cs
    obtain ⟨e, a', w', hq, ha⟩ := hc fr k cs
    exact ⟨e, a', w', hq, .of_steps (.one step_loop) ha⟩
  | _ => exact hc
/-- A piece of code does what the evaluator says. -/
structure CodeOk (P : Program) (c : Code) (tm : Tm) (n : Nat) (h : Hp) (r : Rs) (h' : Hp) : Prop where
  nx : h.nx ≤ h'.nx
  wm : h'.wm ≤ h.wm
  bd : Bd h → Bd h'
  keep : ∀ id, id < h.nx → id < h'.wm → h'.h.get id = h.h.get id
  run : ∀ (ι : Emb) (w : World) (a : Act), TmR ι tm n a → WR ι h.h.get w → Free ι h.nx h'.nx → Bd h → cwp P c (CP ι h n a w r) a w
def SelfOk (P : Program) (self : Self) : Prop := ∀ c tm n h r h', 100 ≤ h.nx → Bd h → self c tm n h = r → outH r = some h' → CodeOk P c tm n h r h'
/-- Operations in their order. -/
structure OneOk (P : Program) (o : Oper) (tm : Tm) (h h' : Hp) (v : AV) : Prop where
  nx : h.nx ≤ h'.nx
  wm : h'.wm ≤ h.wm
  bd : Bd h → Bd h'
  keep : ∀ id, id < h.nx → id < h'.wm → h'.h.get id = h.h.get id
  run : ∀ (ι : Emb) (w : World) (a : Act), Opr ι tm a o → WR ι h.h.get w → Free ι h.nx h'.nx → Bd h → Gives P ((execOp a.eval o).run P w) (Post ι h'.h.get h.nx h'.nx h'.wm w v)
theorem OneOk.of {rd wr : List Nat} (hO : OpOk P o tm h h' v rd wr) : OneOk P o tm h h' v := by
  have hk : ∀ id, id < h.nx → id < h'.wm → h'.h.get id = h.h.get id := fun id h1 h2 => by
    by_cases hid : id ∈ wr
    · rcases hO.wrw id hid with h3 | h3
      · omega
      · exact h3
    · exact hO.only id hid (by omega)
  refine ⟨hO.nx, hO.wm, hO.bd, hk, fun ι w a ho hW hf hB => hO.run ι h.h.get h'.h.get w a hW hf ho (fun _ _ _ h => h) hB (fun _ _ => rfl) (fun id h1 h2 => hO.only id h1 h2)⟩
theorem undef_VR : VR ι (.tup []) undef := VR.tup.2 ⟨[], rfl, VRs.nil.2 rfl⟩
theorem mkTm_get : ∀ (l : List AV) (i : Nat) (t : Tm) (j : Nat), (mkTm l i t).get j = if i ≤ j ∧ j < i + l.length then l[j - i]? else t.get j
  | [], i, t, j => by
    have : mkTm [] i t = t := rfl
    rw [this, if_neg (by simp)]
  | x :: l, i, t, j => by
    have : mkTm (x :: l) i t = mkTm l (i + 1) (t.set i x) := rfl
    rw [this, mkTm_get l (i + 1) _ j, Tr.get_set]
    simp only [List.length_cons]
    by_cases hj : j = i
    · subst hj
      rw [if_neg (by omega), if_pos rfl, if_pos (by omega), Nat.sub_self]; rfl
    · by_cases hr : i + 1 ≤ j ∧ j < i + 1 + l.length
      · rw [if_pos hr, if_pos (by omega), show j - i = (j - (i + 1)) + 1 by omega, List.getElem?_cons_succ]
      · rw [if_neg hr, if_neg hj, if_neg (by omega)]
theorem enter_TmR {args : List AV} {vals : List Value} (hv : VRs ι args vals) (nt : Nat) : TmR ι (mkTm args 0 .lf) (max nt args.length) { tmps := vals.toArray ++ Array.replicate (nt - vals.toArray.size) undef, defers := [] } := by
  obtain ⟨h1, h2⟩ := (VRs.iff _ _).1 hv
  refine ⟨by simp; omega, fun t => ?_⟩
  unfold tmpV
  rw [mkTm_get]
  simp only [Nat.zero_le, true_and, Nat.zero_add, Nat.sub_zero]
  by_cases ht : t < args.length
  · rw [if_pos ht, List.getElem?_eq_getElem ht]
    have hd : (vals.toArray ++ Array.replicate (nt - vals.toArray.size) undef).getD t undef = vals[t]'(by omega) := by
      rw [Array.getD_eq_getD_getElem?, Array.getElem?_append, if_pos (by simp; omega)]
      simp [List.getElem?_eq_getElem (show t < vals.length by omega)]
    rw [hd]
    exact h2 t _ _ (List.getElem?_eq_getElem ht) (List.getElem?_eq_getElem (by omega))
  · rw [if_neg ht]
    have hd : (vals.toArray ++ Array.replicate (nt - vals.toArray.size) undef).getD t undef = undef := by
      rw [Array.getD_eq_getD_getElem?, Array.getElem?_append, if_neg (by simp; omega)]
      simp only [Array.getElem?_replicate]
      split <;> rfl
    rw [hd]
    exact undef_VR
/-- What a function hands back. -/
def rvS (tmps : Array Value) : ResultVar → Sem Value
  | .tmp t => pure (tmps.getD t undef)
  | .cell p t => do loadVar t (← asAddr (tmps.getD p undef))
theorem results_eq (fn : Func) (tmps : Array Value) : results fn tmps = (do let vs ← fn.results.mapM (rvS tmps); pure (if h : vs.size = 1 then vs[0] else .tuple vs)) := by
  unfold results
  congr 2
theorem resL_run (hT : TmR ι tm n a) (hW : WR ι h.h.get w) : ∀ (rs : List ResultVar) (vs : List AV), resL P tm h rs = some vs →
    ∃ vals : List Value, VRs ι vs vals ∧ (rs.mapM (rvS a.tmps)).run P w = .ok vals w
  | [], vs, e => by
    have := Option.some.inj (show some [] = some vs from e)
    subst this
    exact ⟨[], VRs.nil.2 rfl, by simp⟩
  | r :: rs, vs, e => by
    have e1 : resK (resL P tm h rs) (resV P tm h r) = some vs := e
    cases hr : resV P tm h r with
    | none => rw [hr] at e1; cases e1
    | some v =>
      rw [hr] at e1
      obtain ⟨l, hl, rfl⟩ := consO_eq (show consO v (resL P tm h rs) = some vs from e1)
      obtain ⟨vals, g1, g2⟩ := resL_run hT hW rs l hl
      cases r with
      | tmp t =>
        have := Option.some.inj (show some (tmpV tm t) = some v from hr)
        subst this
        refine ⟨a.tmps.getD t undef :: vals, VRs.cons.2 ⟨_, _, rfl, hT.val t, g1⟩, ?_⟩
        simp only [List.mapM_cons, rvS, Sem.run_bind, Sem.run_pure, Result.andThen_ok, g2]
      | cell p t =>
        have e2 : ldAt P t h (tmpV tm p) = some v := hr
        have hp := hT.val p
        cases hq : tmpV tm p with
        | ptr id off =>
          rw [hq] at e2 hp
          obtain ⟨l0, hl0, hv⟩ := VR.ptr.1 hp
          have e3 : (match blk h id with | some cs => rdAt P t cs off | none => none) = some v := e2
          split at e3
          · rename_i cs hcs
            obtain ⟨vc, k1, k2⟩ := load_run (P := P) (blk_cellR hW (fun _ h => h) hl0 hcs) e3
            refine ⟨vc :: vals, VRs.cons.2 ⟨_, _, rfl, k2, g1⟩, ?_⟩
            have hA : (asAddr (a.tmps.getD p undef)).run P w = .ok ⟨l0.b, l0.d + off, none⟩ w := by rw [hv]; rfl
            simp only [List.mapM_cons, rvS, Sem.run_bind, Sem.run_pure, Result.andThen_ok, hA, k1, g2]
          · cases e3
        | _ => rw [hq] at e2; cases e2
theorem fnD_eq {f : Nat} {d : FnD} (e : fnD P f = some d) : ∃ fn c, P.funcs[f]? = some fn ∧ fn.body = some c ∧ (fn.name == "runtime.NumGoroutine") = false ∧ d = ⟨fn.ntmps, fn.results.toList, c⟩ := by
  unfold fnD at e
  split at e
  · rename_i fn hf
    split at e
    · rename_i c hc
      cases hn : (fn.name == "runtime.NumGoroutine") with
      | true => rw [hn] at e; cases e
      | false => rw [hn] at e; exact ⟨fn, c, hf, hc, hn, (Option.some.inj e).symm⟩
    · cases e
  · cases e
theorem leave_eq {rs : List ResultVar} {r : Rs} (e : leave P rs r = .val v h') : ∃ tm' vs, (r = .normal tm' h' ∨ r = .ret tm' h') ∧ resL P tm' h' rs = some vs ∧ v = tupV vs := by
  have key : ∀ tm h1, retV h1 (resL P tm h1 rs) = .val v h' → h1 = h' ∧ ∃ vs, resL P tm h1 rs = some vs ∧ v = tupV vs := fun tm h1 e => by
    cases hr : resL P tm h1 rs with
    | none => rw [hr] at e; cases e
    | some vs => rw [hr] at e; obtain ⟨a, b⟩ := val_inj (show Ro.val (tupV vs) h1 = .val v h' from e); exact ⟨b, vs, rfl, a.symm⟩
  cases r with
  | normal tm h1 => obtain ⟨rfl, vs, h2, h3⟩ := key tm h1 e; exact ⟨tm, vs, .inl rfl, h2, h3⟩
  | ret tm h1 => obtain ⟨rfl, vs, h2, h3⟩ := key tm h1 e; exact ⟨tm, vs, .inr rfl, h2, h3⟩
  | exit i tm h1 => cases e
  | bad => cases e
theorem tupV_VR {vs : List AV} {vals : List Value} (hv : VRs ι vs vals) : VR ι (tupV vs) (if h : vals.toArray.size = 1 then vals.toArray[0] else .tuple vals.toArray) := by
  obtain ⟨h1, h2⟩ := (VRs.iff _ _).1 hv
  match vs, vals, hv, h1, h2 with
  | [v], [u], hv, h1, h2 => exact h2 0 v u rfl rfl
  | [], [], hv, h1, h2 => exact VR.tup.2 ⟨[], rfl, hv⟩
  | x :: y :: l, p :: q :: m, hv, h1, h2 => exact VR.tup.2 ⟨_, by simp, hv⟩
theorem call_ok (hh : HookOk P hk) (hs : SelfOk P self) {f : Nat} {args : List AV} (h100 : 100 ≤ h.nx) (hB0 : Bd h) (e : call P hk self f args h = .val v h') : CallOk P f args h v h' := by
  have e1 : callH P self f args h (hk f) = .val v h' := e
  cases hg : hk f with
  | some g => rw [hg] at e1; exact hh f g hg args h v h' e1
  | none =>
    rw [hg] at e1
    have e2 : enterD P self args h (fnD P f) = .val v h' := e1
    cases hd : fnD P f with
    | none => rw [hd] at e2; cases e2
    | some d =>
      rw [hd] at e2
      obtain ⟨fn, c, hf, hc, hname, rfl⟩ := fnD_eq hd
      have e3 : leave P fn.results.toList (self c (mkTm args 0 .lf) (bif Nat.ble fn.ntmps (lenL args) then lenL args else fn.ntmps) h) = .val v h' := e2
      obtain ⟨tm', vs, hr, hvs, rfl⟩ := leave_eq e3
      have hmax : (bif Nat.ble fn.ntmps (lenL args) then lenL args else fn.ntmps) = max fn.ntmps args.length := by
        rw [ble_eq, lenL_eq]
        by_cases hc : fn.ntmps ≤ args.length
        · rw [decide_eq_true hc, Nat.max_eq_right hc]; rfl
        · rw [decide_eq_false hc, Nat.max_eq_left (by omega)]; rfl
      rw [hmax] at hr
      have hC : CodeOk P c (mkTm args 0 .lf) (max fn.ntmps args.length) h (self c (mkTm args 0 .lf) (max fn.ntmps args.length) h) h' :=
        hs c _ _ _ _ h' h100 hB0 rfl (by rcases hr with h | h <;> rw [h] <;> rfl)
      refine ⟨hC.nx, hC.wm, hC.bd, hC.keep, fun ι w vals hv hW hf' hB => ?_⟩
      have hcall : (callFunc f vals.toArray).run P w = .ok (.enter f vals.toArray) w := by
        have hn : ¬ (fn.name = "runtime.NumGoroutine") := by simpa using hname
        simp [callFunc, hf, hc, hn]
      rw [hcall]
      have hrun := hC.run ι w { tmps := vals.toArray ++ Array.replicate (fn.ntmps - vals.toArray.size) undef, defers := [] } (enter_TmR hv fn.ntmps) hW hf' hB
      refine calls_of_wp hf hc (wp_mono (cwp_wp hrun) fun e a' w' hp => ?_)
      have fin : St ι h (max fn.ntmps args.length) { tmps := vals.toArray ++ Array.replicate (fn.ntmps - vals.toArray.size) undef, defers := [] } w tm' h' a' w' → a'.defers = [] ∧ ∃ u, (results fn a'.tmps).run P w' = .ok u w' ∧ ∃ u', Ending.returned u = .returned u' ∧ Post ι h'.h.get h.nx h'.nx h'.wm w (tupV vs) u' w' := by
        rintro ⟨d1, ι', d2, d3, d4, d5⟩
        obtain ⟨rvals, k1, k2⟩ := resL_run (P := P) d3 d4 fn.results.toList vs hvs
        refine ⟨d1, _, ?_, _, rfl, ι', d2, tupV_VR k1, d4, d5⟩
        rw [results_eq, Array.mapM_eq_mapM_toList]
        simp only [Sem.run_bind, Sem.run_map, k2, Result.andThen_ok, Sem.run_pure]
      rcases hr with hr | hr
      · rw [hr] at hp
        obtain ⟨rfl, hp⟩ := hp
        exact fin hp
      · rw [hr] at hp
        obtain ⟨rfl, hp⟩ := hp
        exact fin hp
theorem one_ok (hh : HookOk P hk) (hs : SelfOk P self) (h100 : 100 ≤ h.nx) (hB0 : Bd h) (e : one P hk self o tm h = .val v h') : OneOk P o tm h h' v := by
  have e1 : full P hk self o.op (aop o.op P tm h) h = .val v h' := e
  cases ha : aop o.op P tm h with
  | bad => rw [ha] at e1; cases e1
  | val v1 h1 =>
    rw [ha] at e1
    obtain ⟨rfl, rfl⟩ := val_inj (show Ro.val v1 h1 = Ro.val v h' from e1)
    obtain ⟨rd, wr, _, hO, _⟩ := aop_ok ha
    exact .of hO
  | enter f args =>
    rw [ha] at e1
    have e2 : (bif isFn o.op then call P hk self f args h else .bad) = .val v h' := e1
    cases hfn : isFn o.op with
    | false => rw [hfn] at e2; cases e2
    | true =>
      rw [hfn] at e2
      have hC := call_ok hh hs h100 hB0 (show call P hk self f args h = .val v h' from e2)
      obtain ⟨_, hE⟩ := aop_enter ha hfn
      refine ⟨hC.nx, hC.wm, hC.bd, hC.keep, fun ι w a ho hW hf hB => ?_⟩
      obtain ⟨vals, h1, h2⟩ := hE ι a ho
      rw [h2]
      exact hC.run ι w vals h1 hW hf hB
theorem upon_gives {r : Result Next} {K : Value → World → Prop} {next : Act → World → Prop} {Q : Exit → Act → World → Prop} (hg : Gives P r K) (hn : ∀ v w, K v w → next (a.put o.dst v) w) : o.upon P a next Q r := by
  cases r with
  | halt x w => exact hg.elim
  | ok nx w =>
    cases nx with
    | value v => exact hn v w hg
    | skip => exact hn undef w hg
    | enter f args =>
      refine Calls.mono hg fun e w' he => ?_
      obtain ⟨v, rfl, hk⟩ := he
      exact hn v w' hk
    | _ => exact hg.elim
/-- Operations one behind the other. -/
theorem seqO_ok (hh : HookOk P hk) (hs : SelfOk P self) (all : Array Oper) : ∀ (l : List Oper) (tm : Tm) (h : Hp) (r : Rs) (h' : Hp), 100 ≤ h.nx → Bd h → seqO P hk self all l tm n h = r → outH r = some h' →
    ∃ tm', r = .normal tm' h' ∧ h.nx ≤ h'.nx ∧ h'.wm ≤ h.wm ∧ (Bd h → Bd h') ∧ (∀ id, id < h.nx → id < h'.wm → h'.h.get id = h.h.get id) ∧
    ∀ (ι : Emb) (w : World) (a : Act) (Q : Exit → Act → World → Prop), TmR ι tm n a → WR ι h.h.get w → Free ι h.nx h'.nx → Bd h → (∀ a' w', St ι h n a w tm' h' a' w' → Q .normal a' w') → wpList P all Q l a w
  | [], tm, h, r, h', h100, hB0, e, ho => by
    have e' : Rs.normal tm h = r := e
    subst e'
    have := Option.some.inj ho
    subst this
    refine ⟨tm, rfl, Nat.le_refl _, Nat.le_refl _, fun h => h, fun _ _ _ => rfl, fun ι w a Q hT hW hf hB hQ => ?_⟩
    exact wpList_nil (hQ a w ⟨rfl, ι, Ext.refl _ _ _ _, hT, hW, Fr.refl _ _ _ _⟩)
  | o :: l, tm, h, r, h', h100, hB0, e, ho => by
    have e1 : wantS P hk self o (seqO P hk self all l) tm n h (want all tm o) = r := e
    cases hw : want all tm o with
    | none => rw [hw] at e1; have : Rs.bad = r := e1; subst this; cases ho
    | some b =>
      rw [hw] at e1
      cases b with
      | false =>
        have e2 : nextS (seqO P hk self all l) n h (put n tm o.dst (.tup [])) = r := e1
        cases hp : put n tm o.dst (.tup []) with
        | none => rw [hp] at e2; have : Rs.bad = r := e2; subst this; cases ho
        | some tm1 =>
          rw [hp] at e2
          obtain ⟨tm', h1, h2, h3, h4, h5, h6⟩ := seqO_ok hh hs all l tm1 h r h' h100 hB0 e2 ho
          refine ⟨tm', h1, h2, h3, h4, h5, fun ι w a Q hT hW hf hB hQ => wpList_step fun K hK => ?_⟩
          have hwant := want_eq (a := a) hw (fun g c d _ _ => hT.val d)
          rw [if_neg (by rw [hwant]; simp)]
          exact hK _ _ (h6 ι w _ Q (hT.put undef_VR hp) hW hf hB (fun a' w' hS => hQ a' w' (by
            obtain ⟨d1, d2⟩ := hS
            exact ⟨d1.trans (by cases o.dst <;> rfl), d2⟩)))
      | true =>
        have e2 : goS (seqO P hk self all l) o.dst tm n (one P hk self o tm h) = r := e1
        cases h1 : one P hk self o tm h with
        | bad => rw [h1] at e2; have : Rs.bad = r := e2; subst this; cases ho
        | enter f args => rw [h1] at e2; have : Rs.bad = r := e2; subst this; cases ho
        | val v h2 =>
          rw [h1] at e2
          have e3 : nextS (seqO P hk self all l) n h2 (put n tm o.dst v) = r := e2
          cases hp : put n tm o.dst v with
          | none => rw [hp] at e3; have : Rs.bad = r := e3; subst this; cases ho
          | some tm1 =>
            rw [hp] at e3
            have hO := one_ok hh hs h100 hB0 h1
            obtain ⟨tm', g1, g2, g3, g4, g5, g6⟩ := seqO_ok hh hs all l tm1 h2 r h' (Nat.le_trans h100 hO.nx) (hO.bd hB0) e3 ho
            refine ⟨tm', g1, Nat.le_trans hO.nx g2, Nat.le_trans g3 hO.wm, fun hB => g4 (hO.bd hB), fun id i1 i2 => ?_, fun ι w a Q hT hW hf hB hQ => wpList_step fun K hK => ?_⟩
            · rw [g5 id (Nat.lt_of_lt_of_le i1 hO.nx) i2, hO.keep id i1 (by omega)]
            · have hwant := want_eq (a := a) hw (fun g c d _ _ => hT.val d)
              rw [if_pos hwant]
              refine upon_gives (hO.run ι w a (hT.opr hW) hW (hf.sub (Nat.le_refl _) g2) hB) fun vc w1 hP => ?_
              obtain ⟨ι1, p1, p2, p3, p4⟩ := hP
              have hle := p1.le (hf.sub (Nat.le_refl _) g2)
              refine hK _ _ (g6 ι1 w1 _ Q ((hT.mono hle).put p2 hp) p3 (Free.ext hf p1 hO.nx) (hO.bd hB) (fun a' w' hS => hQ a' w' ?_))
              obtain ⟨d1, ι2, q1, q2, q3, q4⟩ := hS
              exact ⟨d1.trans (by cases o.dst <;> rfl), ι2, p1.trans q1 p4.size g3 hO.nx g2, q2, q3, p4.trans p1 q4 g3⟩
end
end Go.Proofs.YtnbnoacadhoimaaGreatDoor.Ax
