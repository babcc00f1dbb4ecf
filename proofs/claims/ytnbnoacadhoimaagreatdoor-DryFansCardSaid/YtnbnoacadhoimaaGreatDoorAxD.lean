/- An evaluator for the model: part D. -/
import Derived.Test.YtnbnoacadhoimaaGreatDoorAxC
set_option linter.unusedSimpArgs false
set_option linter.unusedVariables false
set_option maxRecDepth 100000
set_option maxHeartbeats 8000000
namespace Go.Proofs.YtnbnoacadhoimaaGreatDoor.Ax
open Go Go.RowKit
set_option linter.unusedSimpArgs false
set_option linter.unusedVariables false
section
variable {P : Program} {hk : Hook} {self : Self} {w : World} {ι : Emb} {o : Oper} {tm tm' : Tm} {h h' : Hp} {v : AV} {n : Nat} {a : Act}
theorem St.trans {ι1 : Emb} {tm2 : Tm} {h1 h2 : Hp} {a1 a2 : Act} {w1 w2 : World} (d1 : a1.defers = a.defers) (p1 : Ext ι ι1 h.nx h1.nx h1.wm w) (p4 : Fr ι h1.wm h.nx w w1) (n1 : h.nx ≤ h1.nx) (n2 : h1.nx ≤ h2.nx) (m2 : h2.wm ≤ h1.wm)
    (hS : St ι1 h1 n a1 w1 tm2 h2 a2 w2) : St ι h n a w tm2 h2 a2 w2 := by
  obtain ⟨d2, ι2, q1, q2, q3, q4⟩ := hS
  exact ⟨d2.trans d1, ι2, p1.trans q1 p4.size m2 n1 n2, q2, q3, p4.trans p1 q4 m2⟩
def tmOf : Rs → Tm
  | .normal t _ => t
  | .exit _ t _ => t
  | .ret t _ => t
  | .bad => .lf
theorem CP.st {r : Rs} {h' : Hp} {e : Exit} {a' : Act} {w' : World} (ho : outH r = some h') (hp : CP ι h n a w r e a' w') : St ι h n a w (tmOf r) h' a' w' := by
  cases r with
  | bad => cases ho
  | normal t g => have := Option.some.inj ho; subst this; exact hp.2
  | exit i t g => have := Option.some.inj ho; subst this; exact hp.2
  | ret t g => have := Option.some.inj ho; subst this; exact hp.2
theorem CP.of {r : Rs} {h1 h2 : Hp} {ι1 : Emb} {a1 a2 : Act} {w1 w2 : World} {e : Exit} (d1 : a1.defers = a.defers) (p1 : Ext ι ι1 h.nx h1.nx h1.wm w) (p4 : Fr ι h1.wm h.nx w w1) (n1 : h.nx ≤ h1.nx) (ho : outH r = some h2) (n2 : h1.nx ≤ h2.nx) (m2 : h2.wm ≤ h1.wm)
    (hp : CP ι1 h1 n a1 w1 r e a2 w2) : CP ι h n a w r e a2 w2 := by
  cases r with
  | bad => cases ho
  | normal t g => have := Option.some.inj ho; subst this; exact ⟨hp.1, St.trans d1 p1 p4 n1 n2 m2 hp.2⟩
  | exit i t g => have := Option.some.inj ho; subst this; exact ⟨hp.1, St.trans d1 p1 p4 n1 n2 m2 hp.2⟩
  | ret t g => have := Option.some.inj ho; subst this; exact ⟨hp.1, St.trans d1 p1 p4 n1 n2 m2 hp.2⟩
theorem St.refl {H : TmR ι tm n a} (hW : WR ι h.h.get w) : St ι h n a w tm h a w := ⟨rfl, ι, Ext.refl _ _ _ _, H, hW, Fr.refl _ _ _ _⟩
/-- A region whose order is drawn (proved in the next text). -/
def DrawOk (P : Program) (hk : Hook) (self : Self) : Prop :=
  ∀ (os : Array Oper) (id : Nat) (tm : Tm) (n : Nat) (h : Hp) (r : Rs) (h' : Hp), 100 ≤ h.nx → Bd h → seqD P hk self os (finD os) os.toList [] tm n h = r → outH r = some h' → CodeOk P (.region id os true) tm n h r h'
theorem codeF_ok (hh : HookOk P hk) (hs : SelfOk P self) (hd : DrawOk P hk self) : ∀ (c : Code) (tm : Tm) (n : Nat) (h : Hp) (r : Rs) (h' : Hp), 100 ≤ h.nx → Bd h → codeF c P hk self tm n h = r → outH r = some h' → CodeOk P c tm n h r h' := by
  have skip : ∀ (c : Code), (∀ (Q : Exit → Act → World → Prop) a w, Q .normal a w → cwp P c Q a w) → ∀ (tm : Tm) (n : Nat) (h : Hp) (r : Rs) (h' : Hp), Rs.normal tm h = r → outH r = some h' → CodeOk P c tm n h r h' := by
    intro c hc tm n h r h' e ho
    subst e
    have := Option.some.inj ho
    subst this
    exact ⟨Nat.le_refl _, Nat.le_refl _, fun h => h, fun _ _ _ => rfl, fun ι w a hT hW hf hB => hc _ a w ⟨rfl, St.refl (H := hT) hW⟩⟩
  have bad : ∀ {r : Rs} {h' : Hp} {X : Prop}, Rs.bad = r → outH r = some h' → X := fun e ho => by subst e; cases ho
  intro c
  induction c with
  | skip => exact fun tm n h r h' _ _ e ho => skip .skip (fun Q a w hq => wp_skip hq) tm n h r h' e ho
  | label l => exact fun tm n h r h' _ _ e ho => skip (.label l) (fun Q a w hq => wp_label hq) tm n h r h' e ho
  | region id os d =>
    intro tm n h r h' h100 hB0 e ho
    have e1 : (bif d then seqD P hk self os (finD os) os.toList [] tm n h else seqO P hk self os os.toList tm n h) = r := e
    cases d with
    | true => exact hd os id tm n h r h' h100 hB0 e1 ho
    | false =>
      obtain ⟨tm', rfl, g2, g3, g4, g5, g6⟩ := seqO_ok hh hs os os.toList tm h r h' h100 hB0 e1 ho
      exact ⟨g2, g3, g4, g5, fun ι w a hT hW hf hB => wp_region_list (g6 ι w a _ hT hW hf hB fun a' w' hS => ⟨rfl, hS⟩)⟩
  | seq x y ihx ihy =>
    intro tm n h r h' h100 hB0 e ho
    have e1 : seqK (codeF y P hk self) n (codeF x P hk self tm n h) = r := e
    cases hx : codeF x P hk self tm n h with
    | bad => rw [hx] at e1; exact bad e1 ho
    | normal tm1 h1 =>
      rw [hx] at e1
      have e2 : codeF y P hk self tm1 n h1 = r := e1
      have A := ihx tm n h _ h1 h100 hB0 hx rfl
      have B := ihy tm1 n h1 r h' (Nat.le_trans h100 A.nx) (A.bd hB0) e2 ho
      refine ⟨Nat.le_trans A.nx B.nx, Nat.le_trans B.wm A.wm, fun hb => B.bd (A.bd hb), fun id i1 i2 => ?_, fun ι w a hT hW hf hB => wp_seq (wp_mono (cwp_wp (A.run ι w a hT hW (hf.sub (Nat.le_refl _) B.nx) hB)) fun ex a1 w1 hp => ?_)⟩
      · have := B.wm
        rw [B.keep id (Nat.lt_of_lt_of_le i1 A.nx) i2, A.keep id i1 (by omega)]
      · obtain ⟨rfl, d1, ι1, p1, p2, p3, p4⟩ := hp
        exact wp_mono (cwp_wp (B.run ι1 w1 a1 p2 p3 (hf.ext p1 A.nx) (A.bd hB))) fun ex a2 w2 hp2 => CP.of d1 p1 p4 A.nx ho B.nx B.wm hp2
    | exit i tm1 h1 =>
      rw [hx] at e1
      have e2 : Rs.exit i tm1 h1 = r := e1
      subst e2
      have := Option.some.inj ho
      subst this
      have A := ihx tm n h _ h1 h100 hB0 hx rfl
      refine ⟨A.nx, A.wm, A.bd, A.keep, fun ι w a hT hW hf hB => wp_seq (wp_mono (cwp_wp (A.run ι w a hT hW hf hB)) fun ex a1 w1 hp => ?_)⟩
      obtain ⟨rfl, hS⟩ := hp
      exact ⟨rfl, hS⟩
    | ret tm1 h1 =>
      rw [hx] at e1
      have e2 : Rs.ret tm1 h1 = r := e1
      subst e2
      have := Option.some.inj ho
      subst this
      have A := ihx tm n h _ h1 h100 hB0 hx rfl
      refine ⟨A.nx, A.wm, A.bd, A.keep, fun ι w a hT hW hf hB => wp_seq (wp_mono (cwp_wp (A.run ι w a hT hW hf hB)) fun ex a1 w1 hp => ?_)⟩
      obtain ⟨rfl, hS⟩ := hp
      exact ⟨rfl, hS⟩
  | cond x y z ihy ihz =>
    intro tm n h r h' h100 hB0 e ho
    have e1 : condK (codeF y P hk self tm n h) (codeF z P hk self tm n h) (opd tm x) = r := e
    unfold condK at e1
    split at e1
    · rename_i t hx
      cases t with
      | true =>
        have A := ihy tm n h r h' h100 hB0 e1 ho
        refine ⟨A.nx, A.wm, A.bd, A.keep, fun ι w a hT hW hf hB => ?_⟩
        have hv := hT.opd hW x
        rw [hx] at hv
        exact wp_cond_true (VR.bool.1 hv) (cwp_wp (A.run ι w a hT hW hf hB))
      | false =>
        have A := ihz tm n h r h' h100 hB0 e1 ho
        refine ⟨A.nx, A.wm, A.bd, A.keep, fun ι w a hT hW hf hB => ?_⟩
        have hv := hT.opd hW x
        rw [hx] at hv
        exact wp_cond_false (VR.bool.1 hv) (cwp_wp (A.run ι w a hT hW hf hB))
    · exact bad e1 ho
  | block id x ihx =>
    intro tm n h r h' h100 hB0 e ho
    have e1 : blockK id (codeF x P hk self tm n h) = r := e
    cases hx : codeF x P hk self tm n h with
    | bad => rw [hx] at e1; exact bad e1 ho
    | normal tm1 h1 =>
      rw [hx] at e1
      have e2 : Rs.normal tm1 h1 = r := e1
      subst e2
      have := Option.some.inj ho
      subst this
      have A := ihx tm n h _ h1 h100 hB0 hx rfl
      refine ⟨A.nx, A.wm, A.bd, A.keep, fun ι w a hT hW hf hB => wp_block (wp_mono (cwp_wp (A.run ι w a hT hW hf hB)) fun ex a1 w1 hp => ?_)⟩
      obtain ⟨rfl, hS⟩ := hp
      exact ⟨rfl, hS⟩
    | ret tm1 h1 =>
      rw [hx] at e1
      have e2 : Rs.ret tm1 h1 = r := e1
      subst e2
      have := Option.some.inj ho
      subst this
      have A := ihx tm n h _ h1 h100 hB0 hx rfl
      refine ⟨A.nx, A.wm, A.bd, A.keep, fun ι w a hT hW hf hB => wp_block (wp_mono (cwp_wp (A.run ι w a hT hW hf hB)) fun ex a1 w1 hp => ?_)⟩
      obtain ⟨rfl, hS⟩ := hp
      exact ⟨rfl, hS⟩
    | exit i tm1 h1 =>
      rw [hx] at e1
      have e2 : (bif Nat.beq i id then Rs.normal tm1 h1 else .exit i tm1 h1) = r := e1
      have A := ihx tm n h _ h1 h100 hB0 hx rfl
      rw [beqN_eq] at e2
      by_cases hi : i = id
      · subst hi
        rw [decide_eq_true rfl] at e2
        have e3 : Rs.normal tm1 h1 = r := e2
        subst e3
        have := Option.some.inj ho
        subst this
        refine ⟨A.nx, A.wm, A.bd, A.keep, fun ι w a hT hW hf hB => wp_block (wp_mono (cwp_wp (A.run ι w a hT hW hf hB)) fun ex a1 w1 hp => ?_)⟩
        obtain ⟨rfl, hS⟩ := hp
        simp only [Exit.inBlock, if_true]
        exact ⟨rfl, hS⟩
      · rw [decide_eq_false hi] at e2
        have e3 : Rs.exit i tm1 h1 = r := e2
        subst e3
        have := Option.some.inj ho
        subst this
        refine ⟨A.nx, A.wm, A.bd, A.keep, fun ι w a hT hW hf hB => wp_block (wp_mono (cwp_wp (A.run ι w a hT hW hf hB)) fun ex a1 w1 hp => ?_)⟩
        obtain ⟨rfl, hS⟩ := hp
        simp only [Exit.inBlock, if_neg hi]
        exact ⟨rfl, hS⟩
  | loop x ihx =>
    intro tm n h r h' h100 hB0 e ho
    have e1 : seqK (self (.loop x)) n (codeF x P hk self tm n h) = r := e
    cases hx : codeF x P hk self tm n h with
    | bad => rw [hx] at e1; exact bad e1 ho
    | normal tm1 h1 =>
      rw [hx] at e1
      have e2 : self (.loop x) tm1 n h1 = r := e1
      have A := ihx tm n h _ h1 h100 hB0 hx rfl
      have B := hs (.loop x) tm1 n h1 r h' (Nat.le_trans h100 A.nx) (A.bd hB0) e2 ho
      refine ⟨Nat.le_trans A.nx B.nx, Nat.le_trans B.wm A.wm, fun hb => B.bd (A.bd hb), fun id i1 i2 => ?_, fun ι w a hT hW hf hB => ?_⟩
      · have := B.wm
        rw [B.keep id (Nat.lt_of_lt_of_le i1 A.nx) i2, A.keep id i1 (by omega)]
      · intro fr k cs
        obtain ⟨ex, a1, w1, hp, harr⟩ := cwp_wp (A.run ι w a hT hW (hf.sub (Nat.le_refl _) B.nx) hB) fr (.inLoop x :: k) cs
        obtain ⟨rfl, d1, ι1, p1, p2, p3, p4⟩ := hp
        obtain ⟨ex2, a2, w2, hp2, harr2⟩ := B.run ι1 w1 a1 p2 p3 (hf.ext p1 A.nx) (A.bd hB) fr k cs
        exact ⟨ex2, a2, w2, CP.of d1 p1 p4 A.nx ho B.nx B.wm hp2, .of_steps (Steps.trans harr (.one step_inLoop)) harr2⟩
    | exit i tm1 h1 =>
      rw [hx] at e1
      have e2 : Rs.exit i tm1 h1 = r := e1
      subst e2
      have := Option.some.inj ho
      subst this
      have A := ihx tm n h _ h1 h100 hB0 hx rfl
      refine ⟨A.nx, A.wm, A.bd, A.keep, fun ι w a hT hW hf hB => ?_⟩
      intro fr k cs
      obtain ⟨ex, a1, w1, hp, harr⟩ := cwp_wp (A.run ι w a hT hW hf hB) fr (.inLoop x :: k) cs
      obtain ⟨rfl, hS⟩ := hp
      exact ⟨_, a1, w1, ⟨rfl, hS⟩, .pass (x := .inLoop x) rfl (fun _ _ => .inl (by simp)) harr⟩
    | ret tm1 h1 =>
      rw [hx] at e1
      have e2 : Rs.ret tm1 h1 = r := e1
      subst e2
      have := Option.some.inj ho
      subst this
      have A := ihx tm n h _ h1 h100 hB0 hx rfl
      refine ⟨A.nx, A.wm, A.bd, A.keep, fun ι w a hT hW hf hB => ?_⟩
      intro fr k cs
      obtain ⟨ex, a1, w1, hp, harr⟩ := cwp_wp (A.run ι w a hT hW hf hB) fr (.inLoop x :: k) cs
      obtain ⟨rfl, hS⟩ := hp
      exact ⟨_, a1, w1, ⟨rfl, hS⟩, .pass (x := .inLoop x) rfl (fun _ _ => .inl (by simp)) harr⟩
  | exit id =>
    intro tm n h r h' h100 hB0 e ho
    have e1 : Rs.exit id tm h = r := e
    subst e1
    have := Option.some.inj ho
    subst this
    exact ⟨Nat.le_refl _, Nat.le_refl _, fun h => h, fun _ _ _ => rfl, fun ι w a hT hW hf hB => wp_exit ⟨rfl, St.refl (H := hT) hW⟩⟩
  | ret =>
    intro tm n h r h' h100 hB0 e ho
    have e1 : Rs.ret tm h = r := e
    subst e1
    have := Option.some.inj ho
    subst this
    exact ⟨Nat.le_refl _, Nat.le_refl _, fun h => h, fun _ _ _ => rfl, fun ι w a hT hW hf hB => wp_ret ⟨rfl, St.refl (H := hT) hW⟩⟩
  | rangeFunc f ps x y ihx ihy => exact fun tm n h r h' _ _ e ho => bad e ho
  | scope x ihx => exact fun tm n h r h' _ _ e ho => bad e ho
  | goto l => exact fun tm n h r h' _ _ e ho => bad e ho
  | refuse s => exact fun tm n h r h' _ _ e ho => bad e ho
theorem ev_ok (hh : HookOk P hk) (hd : ∀ self, SelfOk P self → DrawOk P hk self) : ∀ m, SelfOk P (ev P hk m)
  | 0 => fun c tm n h r h' _ _ e ho => by
    have e1 : Rs.bad = r := e
    subst e1
    cases ho
  | m + 1 => fun c tm n h r h' h100 hB0 e ho => codeF_ok hh (ev_ok hh hd m) (hd _ (ev_ok hh hd m)) c tm n h r h' h100 hB0 e ho
end
end Go.Proofs.YtnbnoacadhoimaaGreatDoor.Ax
