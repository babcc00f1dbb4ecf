/- An evaluator for the model: part F. -/
import Derived.Test.YtnbnoacadhoimaaGreatDoorAxE
set_option linter.unusedSimpArgs false
set_option linter.unusedVariables false
set_option maxRecDepth 100000
set_option maxHeartbeats 8000000
namespace Go.Proofs.YtnbnoacadhoimaaGreatDoor.Ax
open Go Go.RowKit
set_option linter.unusedSimpArgs false
set_option linter.unusedVariables false
section
variable {P : Program} {hk : Hook} {self : Self} {w : World} {ι : Emb} {o : Oper} {tm tm' : Tm} {h h' : Hp} {v : AV} {n : Nat} {a : Act} {all : Array Oper}
inductive Trc (P : Program) (hk : Hook) (self : Self) (all : Array Oper) (n : Nat) : List Oper → Tm → Hp → List Rec → Tm → Hp → Prop where
  | nil {tm : Tm} {h : Hp} : Trc P hk self all n [] tm h [] tm h
  | off {o : Oper} {l : List Oper} {tm tm1 tm' : Tm} {h h' : Hp} {R : List Rec} (hw : want all tm o = some false) (hp : put n tm o.dst (.tup []) = some tm1) (ht : Trc P hk self all n l tm1 h R tm' h') :
      Trc P hk self all n (o :: l) tm h (⟨o, false, tm, h, .tup [], h, ⟨.ids [], .ids [], h.nx, h.nx⟩⟩ :: R) tm' h'
  | on {o : Oper} {l : List Oper} {tm tm1 tm' : Tm} {h h2 h' : Hp} {v : AV} {R : List Rec} (hw : want all tm o = some true) (he : one P hk self o tm (hpW h bigWm) = .val v h2) (hp : put n tm o.dst v = some tm1) (ht : Trc P hk self all n l tm1 (minWm h.wm h2) R tm' h') :
      Trc P hk self all n (o :: l) tm h (⟨o, true, tm, h, v, h2, footOf o tm h.nx h2⟩ :: R) tm' h'
theorem seqD_trc {fin : List Fx → Tm → Nat → Hp → Rs} : ∀ (l : List Oper) (fx : List Fx) (tm : Tm) (h : Hp) (r : Rs) (h' : Hp), seqD P hk self all fin l fx tm n h = r → outH r = some h' →
    ∃ R tm' h1, Trc P hk self all n l tm h R tm' h1 ∧ fin ((R.map (·.fx)).reverse ++ fx) tm' n h1 = r
  | [], fx, tm, h, r, h', e, ho => ⟨[], tm, h, .nil, e⟩
  | o :: l, fx, tm, h, r, h', e, ho => by
    have e1 : wantD P hk self o (seqD P hk self all fin l) fx tm n h (want all tm o) = r := e
    cases hw : want all tm o with
    | none => rw [hw] at e1; have : Rs.bad = r := e1; subst this; cases ho
    | some b =>
      rw [hw] at e1
      cases b with
      | false =>
        have e2 : (match put n tm o.dst (.tup []) with | some tm' => seqD P hk self all fin l (⟨.ids [], .ids [], h.nx, h.nx⟩ :: fx) tm' n h | none => .bad) = r := e1
        split at e2
        · rename_i tm1 hp
          obtain ⟨R, tm', h1, ht, hf⟩ := seqD_trc l _ tm1 h r h' e2 ho
          exact ⟨_, tm', h1, .off hw hp ht, by simpa using hf⟩
        · subst e2; cases ho
      | true =>
        have e2 : goD (seqD P hk self all fin l) fx o tm n h (one P hk self o tm (hpW h bigWm)) = r := e1
        cases h1 : one P hk self o tm (hpW h bigWm) with
        | bad => rw [h1] at e2; have : Rs.bad = r := e2; subst this; cases ho
        | enter f args => rw [h1] at e2; have : Rs.bad = r := e2; subst this; cases ho
        | val v h2 =>
          rw [h1] at e2
          have e3 : (match put n tm o.dst v with | some tm' => seqD P hk self all fin l (footOf o tm h.nx h2 :: fx) tm' n (minWm h.wm h2) | none => .bad) = r := e2
          split at e3
          · rename_i tm1 hp
            obtain ⟨R, tm', h1', ht, hf⟩ := seqD_trc l _ tm1 _ r h' e3 ho
            exact ⟨_, tm', h1', .on hw h1 hp ht, by simpa using hf⟩
          · subst e3; cases ho
theorem minWm_le (w : Nat) (h : Hp) : (minWm w h).wm ≤ w ∧ (minWm w h).wm ≤ h.wm := by
  show (bif Nat.ble w h.wm then w else h.wm) ≤ w ∧ (bif Nat.ble w h.wm then w else h.wm) ≤ h.wm
  rw [ble_eq]
  by_cases hc : w ≤ h.wm
  · rw [decide_eq_true hc]; exact ⟨Nat.le_refl _, hc⟩
  · rw [decide_eq_false hc]; exact ⟨by simp only [cond_false]; omega, Nat.le_refl _⟩
theorem put_lt {d : Nat} (e : put n tm (some d) v = some tm') : d < n := by
  rcases put_eq e with ⟨h, _⟩ | ⟨k, h, h2, _⟩
  · cases h
  · have := Option.some.inj h; subst this; exact h2
theorem put_val {d : Option Nat} (e : put n tm d v = some tm') (t : Nat) : tmpV tm' t = if d = some t then v else tmpV tm t := by
  rcases put_eq e with ⟨rfl, rfl⟩ | ⟨k, rfl, _, rfl⟩
  · simp
  · rw [tmpV_set]
    by_cases hc : t = k
    · subst hc; simp
    · rw [if_neg hc, if_neg (fun h => hc (Option.some.inj h).symm)]
theorem offOk (hB : Bd h) (hw : want all tm o = some false) : RecOk P all ⟨o, false, tm, h, .tup [], h, ⟨.ids [], .ids [], h.nx, h.nx⟩⟩ :=
  ⟨rfl, rfl, Nat.le_refl _, fun _ _ => rfl, fun _ h => h, hB, hB, hw, fun _ => ⟨rfl, rfl, rfl⟩, fun h => by cases h⟩
structure TrcOk (P : Program) (all : Array Oper) (n : Nat) (l : List Oper) (tm : Tm) (h : Hp) (R : List Rec) (tm' : Tm) (h' : Hp) : Prop where
  len : R.length = l.length
  at_ : ∀ (j : Nat) (r : Rec), R[j]? = some r → l[j]? = some r.o ∧ RecOk P all r ∧ h.nx ≤ r.h.nx ∧ r.h2.nx ≤ h'.nx ∧ h'.wm ≤ r.h2.wm ∧ (∀ d, r.o.dst = some d → d < n)
  nx : h.nx ≤ h'.nx
  wm : h'.wm ≤ h.wm
  bd : Bd h'
  keep : ∀ id, id < h.nx → id < h'.wm → h'.h.get id = h.h.get id
  iv : ∀ (i j : Nat) (r s : Rec), i < j → R[i]? = some r → R[j]? = some s → r.h2.nx ≤ s.h.nx
  heap : ∀ (k j : Nat) (r : Rec), R[j]? = some r → ∀ id, r.h.h.get id = hat (fun m => decide (m < k + j)) k R h.h.get id
  fin : ∀ (k : Nat) id, h'.h.get id = hat (fun _ => true) k R h.h.get id
  tms : ∀ (k j : Nat) (r : Rec), R[j]? = some r → ∀ t, tmpV r.tm t = valL (fun m => decide (m < k + j)) k R (tmpV tm) t
  ftm : ∀ (k : Nat) t, tmpV tm' t = valL (fun _ => true) k R (tmpV tm) t
theorem hat_off : ∀ (R : List Rec) (k : Nat) (G : Hf) (b : Nat → Bool), (∀ j, b (k + j) = false) → hat b k R G = G
  | [], k, G, b, _ => rfl
  | r :: R, k, G, b, hb => by
    have h0 : b k = false := by have := hb 0; simpa using this
    show hat b (k + 1) R (if b k then updF r G else G) = G
    rw [h0]
    exact hat_off R (k + 1) G b (fun j => by have := hb (j + 1); rwa [show k + (j + 1) = k + 1 + j by omega] at this)
theorem val_off : ∀ (R : List Rec) (k : Nat) (G : Nat → AV) (b : Nat → Bool), (∀ j, b (k + j) = false) → valL b k R G = G
  | [], k, G, b, _ => rfl
  | r :: R, k, G, b, hb => by
    have h0 : b k = false := by have := hb 0; simpa using this
    show valL b (k + 1) R (if b k then (fun t => if r.o.dst = some t then r.v else G t) else G) = G
    rw [h0]
    exact val_off R (k + 1) G b (fun j => by have := hb (j + 1); rwa [show k + (j + 1) = k + 1 + j by omega] at this)
/-- One operation more in front. -/
theorem TrcOk.cons {l : List Oper} {tm1 : Tm} {h1 : Hp} {R : List Rec} {r : Rec} (hr : RecOk P all r) (ro : r.o = o) (rt : r.tm = tm) (rh : r.h = h) (hT : TrcOk P all n l tm1 h1 R tm' h') (e1 : h1.h = r.h2.h) (e2 : h1.nx = r.h2.nx) (e3 : h1.wm ≤ h.wm) (e4 : h1.wm ≤ r.h2.wm)
    (hp : put n tm o.dst r.v = some tm1) (hkp : ∀ id, id < h.nx → id < h1.wm → r.h2.h.get id = h.h.get id) : TrcOk P all n (o :: l) tm h (r :: R) tm' h' := by
  subst ro; subst rt; subst rh
  have hg : h1.h.get = updF r r.h.h.get := by
    funext id
    rw [e1]
    by_cases hc : r.ch id
    · rw [updF_in hc]
    · rw [updF_out hc, hr.same id hc]
  have hv : tmpV tm1 = fun t => if r.o.dst = some t then r.v else tmpV r.tm t := funext fun t => put_val hp t
  have hle : r.h.nx ≤ h1.nx := by rw [e2]; exact hr.le
  refine ⟨by simp [hT.len], fun j s hs => ?_, Nat.le_trans hle hT.nx, Nat.le_trans hT.wm e3, hT.bd, fun id i1 i2 => ?_, fun i j s u hij hs hu => ?_, fun k j s hs id => ?_, fun k id => ?_, fun k j s hs t => ?_, fun k t => ?_⟩
  · cases j with
    | zero =>
      have : r = s := by simpa using hs
      subst this
      refine ⟨rfl, hr, Nat.le_refl _, by rw [← e2]; exact hT.nx, Nat.le_trans hT.wm e4, fun d hd => ?_⟩
      rw [hd] at hp
      exact put_lt hp
    | succ j =>
      obtain ⟨a1, a2, a3, a4, a5, a6⟩ := hT.at_ j s (by simpa using hs)
      exact ⟨by simpa using a1, a2, Nat.le_trans hle a3, a4, a5, a6⟩
  · have := hT.wm
    rw [hT.keep id (by omega) i2, e1]
    exact hkp id i1 (by omega)
  · cases j with
    | zero => omega
    | succ j =>
      cases i with
      | zero =>
        have : r = s := by simpa using hs
        subst this
        obtain ⟨_, _, a3, _⟩ := hT.at_ j u (by simpa using hu)
        rw [← e2]; exact a3
      | succ i => exact hT.iv i j s u (by omega) (by simpa using hs) (by simpa using hu)
  · cases j with
    | zero =>
      have : r = s := by simpa using hs
      subst this
      rw [hat_off _ k _ _ (fun j => by simp)]
    | succ j =>
      rw [hT.heap (k + 1) j s (by simpa using hs) id, hg]
      show _ = hat (fun m => decide (m < k + (j + 1))) (k + 1) R (if decide (k < k + (j + 1)) then updF r r.h.h.get else r.h.h.get) id
      rw [if_pos (by simp), show k + (j + 1) = k + 1 + j by omega]
  · rw [hT.fin (k + 1) id, hg]; rfl
  · cases j with
    | zero =>
      have : r = s := by simpa using hs
      subst this
      rw [val_off _ k _ _ (fun j => by simp)]
    | succ j =>
      rw [hT.tms (k + 1) j s (by simpa using hs) t, hv]
      show _ = valL (fun m => decide (m < k + (j + 1))) (k + 1) R (if decide (k < k + (j + 1)) then (fun t => if r.o.dst = some t then r.v else tmpV r.tm t) else tmpV r.tm) t
      rw [if_pos (by simp), show k + (j + 1) = k + 1 + j by omega]
  · rw [hT.ftm (k + 1) t, hv]; rfl
theorem trc_ok (hh : HookOk P hk) (hs : SelfOk P self) : ∀ {l : List Oper} {tm : Tm} {h : Hp} {R : List Rec} {tm' : Tm} {h' : Hp}, Trc P hk self all n l tm h R tm' h' → 100 ≤ h.nx → Bd h → TrcOk P all n l tm h R tm' h' := by
  intro l tm h R tm' h' ht
  induction ht with
  | nil =>
    intro _ hB
    exact ⟨rfl, fun j r hr => by simp at hr, Nat.le_refl _, Nat.le_refl _, hB, fun _ _ _ => rfl, fun i j r s _ hr => by simp at hr, fun k j r hr => by simp at hr, fun _ _ => rfl, fun k j r hr => by simp at hr, fun _ _ => rfl⟩
  | off hw hp ht ih =>
    intro h100 hB
    exact (ih h100 hB).cons (offOk hB hw) rfl rfl rfl rfl rfl (Nat.le_refl _) (Nat.le_refl _) hp (fun _ _ _ => rfl)
  | on hw he hp ht ih =>
    intro h100 hB
    rename_i o l tm tm1 tm' h h2 h' v R
    have hO := one_ok hh hs (show 100 ≤ (hpW h bigWm).nx from h100) (show Bd (hpW h bigWm) from hB) he
    have hm := minWm_le h.wm h2
    exact (ih (Nat.le_trans h100 hO.nx) (hO.bd hB)).cons (recOk hh hs h100 hB hw he) rfl rfl rfl rfl rfl hm.1 hm.2 hp (fun id i1 i2 => hO.keep id i1 (Nat.lt_of_lt_of_le i2 hm.2))
end
end Go.Proofs.YtnbnoacadhoimaaGreatDoor.Ax
