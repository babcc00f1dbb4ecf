/- An evaluator for the model: part I. -/
import Derived.Test.YtnbnoacadhoimaaGreatDoorAxH
set_option linter.unusedSimpArgs false
set_option linter.unusedVariables false
set_option maxRecDepth 100000
set_option maxHeartbeats 8000000
namespace Go.Proofs.YtnbnoacadhoimaaGreatDoor.Ax
open Go Go.RowKit
set_option linter.unusedSimpArgs false
set_option linter.unusedVariables false
section
variable {P : Program} {hk : Hook} {self : Self} {all : Array Oper} {n : Nat} {tm0 tm' : Tm} {h0 h' : Hp} {R : List Rec} {ι0 : Emb} {a0 a : Act} {w0 w : World}
def lb (listed : Array Bool) : Nat → Bool := fun i => listed.getD i false
structure Inv (P : Program) (all : Array Oper) (n : Nat) (tm0 : Tm) (h0 h' : Hp) (R : List Rec) (ι0 : Emb) (a0 : Act) (w0 : World) (listed : Array Bool) (a : Act) (w : World) (ι : Emb) : Prop where
  size : listed.size = all.size
  closed : Closed all (lb listed)
  free : ∀ (j : Nat) (s : Rec), R[j]? = some s → lb listed j = false → Free ι s.h.nx s.h2.nx
  wr : WR ι (hat (lb listed) 0 R h0.h.get) w
  tsz : a.tmps.size = n
  tv : ∀ t, VR ι (valL (lb listed) 0 R (tmpV tm0) t) (a.tmps.getD t undef)
  df : a.defers = a0.defers
  ext : Ext ι0 ι h0.nx h'.nx h'.wm w0
  fr : Fr ι0 h'.wm h0.nx w0 w
theorem lb_set {listed : Array Bool} {i : Nat} (hi : i < listed.size) : lb (listed.setIfInBounds i true) = fun m => lb listed m || decide (m = i) := by
  funext m
  unfold lb
  by_cases h : m = i
  · subst h
    simp [Array.getD, hi]
  · rw [getD_set_ne false (fun e => h e.symm)]
    simp [h]
theorem Inv.step (G : Reg P all n tm0 h0 R tm' h') {listed : Array Bool} {ι ι' : Emb} {i : Nat} {r : Rec} {vc : Value} {w' : World} (hI : Inv P all n tm0 h0 h' R ι0 a0 w0 listed a w ι) (hi : R[i]? = some r) (hbi : lb listed i = false)
    (hri : ∀ e ∈ r.o.after.toList, Region.binds .any e = true → lb listed e.on = true) (p1 : Ext ι ι' r.h.nx r.h2.nx r.h2.wm w) (p2 : VR ι' r.v vc) (p3 : WR ι' (updF r (hat (lb listed) 0 R h0.h.get)) w') (p4 : Fr ι r.h2.wm r.h.nx w w') :
    Inv P all n tm0 h0 h' R ι0 a0 w0 (listed.setIfInBounds i true) (a.put r.o.dst vc) w' ι' := by
  obtain ⟨ho, hR, hlo, hhi, hwm, hdn⟩ := G.T.at_ i r hi
  have hoi : all[i]? = some r.o := by simpa using ho
  have hil : i < listed.size := by
    rw [hI.size]
    rcases Nat.lt_or_ge i all.size with h | h
    · exact h
    · rw [Array.getElem?_eq_none h] at hoi; cases hoi
  have hle := p1.le (hI.free i r hi hbi)
  have hset := lb_set (listed := listed) hil
  have hrle := hR.le
  refine ⟨by simpa using hI.size, fun j o hj hoj e he hb => ?_, fun j s hj hbj id h1 h2 => ?_, ?_, ?_, fun t => ?_, ?_, ⟨fun id hid => ?_, fun id l h1 h2 e => ?_⟩, ?_⟩
  · rw [hset] at hj ⊢
    simp only [Bool.or_eq_true, decide_eq_true_eq] at hj ⊢
    rcases hj with hj | rfl
    · exact .inl (hI.closed j o hj hoj e he hb)
    · have := Option.some.inj (hoi.symm.trans hoj)
      subst this
      exact .inl (hri e he hb)
  · rw [hset] at hbj
    simp only [Bool.or_eq_false_iff, decide_eq_false_iff_not] at hbj
    have hiv : id < r.h.nx ∨ r.h2.nx ≤ id := by
      rcases Nat.lt_or_ge j i with hji | hji
      · have := G.T.iv j i s r hji hj hi; omega
      · have := G.T.iv i j r s (by omega) hi hj; omega
    rw [p1.same id (by omega)]
    exact hI.free j s hj hbj.1 id h1 h2
  · rw [hset]
    exact p3.on fun id _ q hq => by rw [← G.update hI.closed hi hbi hri id]; exact hq
  · cases hd : r.o.dst with
    | none => exact hI.tsz
    | some d => simpa [Act.put] using hI.tsz
  · rw [hset, G.vals hi t]
    cases hd : r.o.dst with
    | none => rw [if_neg (by simp)]; exact VR.mono hle _ _ (hI.tv t)
    | some d =>
      have hdlt := hdn d hd
      have hts := hI.tsz
      by_cases ht : d = t
      · subst ht
        rw [if_pos rfl]
        have : (a.put (some d) vc).tmps.getD d undef = vc := by simp [Act.put, Array.getD, hts, hdlt]
        rw [this]; exact p2
      · rw [if_neg (fun e => ht (Option.some.inj e))]
        have : (a.put (some d) vc).tmps.getD t undef = a.tmps.getD t undef := by
          simp only [Act.put, Array.getD_eq_getD_getElem?]
          rw [Array.getElem?_setIfInBounds_ne ht]
        rw [this]; exact VR.mono hle _ _ (hI.tv t)
  · have : (a.put r.o.dst vc).defers = a.defers := by cases r.o.dst <;> rfl
    rw [this]; exact hI.df
  · rw [p1.same id (by omega), hI.ext.same id hid]
  · by_cases hc : r.h.nx ≤ id ∧ id < r.h2.nx
    · rcases p1.new id l hc.1 hc.2 e with h | ⟨id0, l0, d1, d2, d3, d4⟩
      · exact .inl (Nat.le_trans hI.fr.size h)
      · by_cases hc0 : id0 < h0.nx
        · rw [hI.ext.same id0 (by omega)] at d3
          exact .inr ⟨id0, l0, by omega, hc0, d3, d4⟩
        · rcases hI.ext.new id0 l0 (by omega) (by omega) d3 with h | ⟨id1, l1, e1, e2, e3, e4⟩
          · exact .inl (by rw [← d4]; exact h)
          · exact .inr ⟨id1, l1, e1, e2, e3, by rw [e4, d4]⟩
    · rw [p1.same id hc] at e
      exact hI.ext.new id l h1 h2 e
  · refine ⟨p4.os.trans hI.fr.os, p4.tape.trans hI.fr.tape, p4.output.trans hI.fr.output, Nat.le_trans hI.fr.size p4.size, fun B hB hn => ?_⟩
    rw [p4.keep B (Nat.lt_of_lt_of_le hB hI.fr.size) (fun id l g1 g2 e => ?_), hI.fr.keep B hB hn]
    by_cases hc0 : id < h0.nx
    · rw [hI.ext.same id (by omega)] at e
      exact hn id l (by omega) hc0 e
    · rcases hI.ext.new id l (by omega) (by omega) e with h | ⟨id1, l1, e1, e2, e3, e4⟩
      · omega
      · rw [← e4]; exact hn id1 l1 e1 e2 e3
theorem Inv.done (G : Reg P all n tm0 h0 R tm' h') {listed : Array Bool} {ι : Emb} (hI : Inv P all n tm0 h0 h' R ι0 a0 w0 listed a w ι) (hall : ∀ j, j < all.size → lb listed j = true) : St ι0 h0 n a0 w0 tm' h' a w := by
  have hlen : R.length = all.size := by rw [G.T.len]; simp
  have hb : ∀ (j : Nat) (r : Rec), R[j]? = some r → lb listed (0 + j) ≠ true → False := fun j r hr hne => by
    rw [Nat.zero_add] at hne
    exact hne (hall j (by rw [← hlen]; exact lt_of_some hr))
  refine ⟨hI.df, ι, hI.ext, ⟨hI.tsz, fun t => ?_⟩, hI.wr.on fun id _ q hq => ?_, hI.fr⟩
  · rw [G.T.ftm 0 t, val_congr (b := fun _ => true) (b' := lb listed) R 0 _ _ rfl (fun j r hr hne _ => hb j r hr (Ne.symm hne))]
    exact hI.tv t
  · rw [G.T.fin 0 id, hat_congr (b := fun _ => true) (b' := lb listed) R 0 _ _ rfl (fun j r hr hne _ => hb j r hr (Ne.symm hne))] at hq
    exact hq
theorem Ext.refl' {ι : Emb} {lo hi wm : Nat} {w : World} (hf : Free ι lo hi) : Ext ι ι lo hi wm w := ⟨fun _ _ => rfl, fun id l h1 h2 e => by rw [hf id h1 h2] at e; cases e⟩
def left (listed : Array Bool) (N : Nat) : Nat := (List.range N).countP fun i => !lb listed i
theorem left_set {listed : Array Bool} {N i : Nat} (hi : i < listed.size) (hN : i < N) (hb : lb listed i = false) : left (listed.setIfInBounds i true) N + 1 = left listed N := by
  unfold left
  rw [lb_set hi]
  have : ∀ M, i < M → (List.range M).countP (fun j => !(lb listed j || decide (j = i))) + 1 = (List.range M).countP (fun j => !lb listed j) := by
    intro M
    induction M with
    | zero => intro h; omega
    | succ M ih =>
      intro h
      rw [List.range_succ, List.countP_append, List.countP_append]
      by_cases hM : i < M
      · have := ih hM
        have hne : ¬ M = i := by omega
        simp [hne] at this ⊢
        omega
      · have hMi : M = i := by omega
        subst hMi
        have hc : (List.range M).countP (fun j => !(lb listed j || decide (j = M))) = (List.range M).countP (fun j => !lb listed j) := by
          apply List.countP_congr
          intro j hj
          have : ¬ j = M := by have := List.mem_range.1 hj; omega
          simp [this]
        rw [hc]
        simp [hb]
  exact this N hN
theorem left_zero {listed : Array Bool} {N : Nat} (h : left listed N = 0) : ∀ j, j < N → lb listed j = true := by
  intro j hj
  unfold left at h
  rw [List.countP_eq_zero] at h
  have := h j (List.mem_range.2 hj)
  simpa using this
theorem mem_ready' {listed : Array Bool} (hsz : listed.size = all.size) {i : Nat} : i ∈ Region.ready .any all listed ↔ ∃ o, all[i]? = some o ∧ lb listed i = false ∧ ∀ e ∈ o.after.toList, Region.binds .any e = true → lb listed e.on = true := by
  rw [mem_ready]
  have hlt : ∀ o, all[i]? = some o → i < listed.size := fun o ho => by
    rw [hsz]
    rcases Nat.lt_or_ge i all.size with h | h
    · exact h
    · rw [Array.getElem?_eq_none h] at ho; cases ho
  constructor
  · rintro ⟨h1, o, ho, h2⟩
    refine ⟨o, ho, ?_, fun e he hb => h2 e (by simpa using he) hb⟩
    have := hlt o ho
    simp [lb, Array.getD, this] at h1 ⊢
    exact h1
  · rintro ⟨o, ho, h1, h2⟩
    refine ⟨?_, o, ho, fun e he hb => h2 e (by simpa using he) hb⟩
    have := hlt o ho
    simp [lb, Array.getD, this] at h1 ⊢
    exact h1
/-- Whatever order comes: the same. -/
theorem draw_main (G : Reg P all n tm0 h0 R tm' h') (Q : Exit → Act → World → Prop) (hQ : ∀ a w, St ι0 h0 n a0 w0 tm' h' a w → Q .normal a w) : ∀ (fuel : Nat) (listed : Array Bool) (a : Act) (w : World) (ι : Emb), left listed all.size = fuel → Inv P all n tm0 h0 h' R ι0 a0 w0 listed a w ι → wpAny P .any all Q fuel listed a w := by
  have hlen : R.length = all.size := by rw [G.T.len]; simp
  intro fuel
  induction fuel with
  | zero =>
    intro listed a w ι hf hI
    have hall := left_zero hf
    refine ⟨?_, hQ a w (hI.done G hall)⟩
    cases hr : Region.ready .any all listed with
    | nil => rfl
    | cons i l =>
      obtain ⟨o, ho, hb, _⟩ := (mem_ready' hI.size).1 (by rw [hr]; simp : i ∈ Region.ready .any all listed)
      have : i < all.size := by
        rcases Nat.lt_or_ge i all.size with h | h
        · exact h
        · rw [Array.getElem?_eq_none h] at ho; cases ho
      rw [hall i this] at hb; cases hb
  | succ fuel ih =>
    intro listed a w ι hf hI
    refine ⟨fun hr => ?_, fun i hi => ?_⟩
    · exfalso
      have hex : ∃ j, j < all.size ∧ lb listed j = false := by
        apply Classical.byContradiction
        intro hn
        have : left listed all.size = 0 := by
          unfold left
          rw [List.countP_eq_zero]
          intro j hj
          have hj' := List.mem_range.1 hj
          cases hb : lb listed j with
          | true => simp
          | false => exact absurd ⟨j, hj', hb⟩ hn
        omega
      have least : ∀ m j, j ≤ m → j < all.size → lb listed j = false → False := by
        intro m
        induction m with
        | zero =>
          intro j hm hj hb
          have h0 : j = 0 := by omega
          subst h0
          have : 0 ∈ Region.ready .any all listed := (mem_ready' hI.size).2 ⟨_, Array.getElem?_eq_getElem hj, hb, fun e he hbn => by
            have := G.back 0 _ (Array.getElem?_eq_getElem hj) e he hbn; omega⟩
          rw [hr] at this; cases this
        | succ m ihm =>
          intro j hm hj hb
          have : j ∈ Region.ready .any all listed := (mem_ready' hI.size).2 ⟨_, Array.getElem?_eq_getElem hj, hb, fun e he hbn => by
            have hlt := G.back j _ (Array.getElem?_eq_getElem hj) e he hbn
            cases hbe : lb listed e.on with
            | true => rfl
            | false => exact (ihm e.on (by omega) (by omega) hbe).elim⟩
          rw [hr] at this; cases this
      obtain ⟨j, hj, hb⟩ := hex
      exact least j j (Nat.le_refl _) hj hb
    · obtain ⟨o, ho, hb, hri⟩ := (mem_ready' hI.size).1 hi
      have hi' : i < all.size := by
        rcases Nat.lt_or_ge i all.size with h | h
        · exact h
        · rw [Array.getElem?_eq_none h] at ho; cases ho
      have hR : R[i]? = some (R[i]'(by omega)) := List.getElem?_eq_getElem (by omega)
      generalize R[i]'(by omega) = r at hR
      obtain ⟨hro, hOk, _⟩ := G.T.at_ i r hR
      have hoo : r.o = o := by
        have h1 : all[i]? = some r.o := by simpa using hro
        exact Option.some.inj (h1.symm.trans ho)
      subst hoo
      have hwant : Region.wanted r.o (yielded all a.tmps) = r.wd := want_eq (a := a) hOk.want (fun g c d hg hd => by
        rw [← G.uses hI.closed hR hb hri d (.inr ⟨g, c, hg, hd⟩)]
        exact hI.tv d)
      have hleft := left_set (N := all.size) (by rw [hI.size]; exact hi') hi' hb
      unfold wpOp
      simp only [ho]
      cases hwd : r.wd with
      | false =>
        rw [hwant, hwd, if_neg (by simp)]
        obtain ⟨hv, hh2, hwr⟩ := hOk.off hwd
        refine ih _ _ _ ι (by omega) (hI.step G hR hb hri (vc := undef) (by rw [hh2]; exact Ext.refl _ _ _ _) (by rw [hv]; exact undef_VR) (hI.wr.on fun id _ q hq => ?_) (Fr.refl _ _ _ _))
        rw [updF_out] at hq
        · exact hq
        · rw [ch_iff hOk, hwr, hh2]
          rintro (h | h)
          · cases h
          · omega
      | true =>
        rw [hwant, hwd, if_pos rfl]
        left
        have hopr : ∀ x, x ∈ r.o.op.operands.toList → VR ι (opd r.tm x) (a.eval x) := fun x hx => by
          cases x with
          | tmp t =>
            have ht : t ∈ tmpsOf r.o := by
              unfold tmpsOf
              rw [List.mem_filterMap]
              exact ⟨.tmp t, hx, rfl⟩
            have := hI.tv t
            rw [G.uses hI.closed hR hb hri t (.inl ht)] at this
            exact this
          | const c => exact VR.toAV c
          | func f => exact VR.fn.2 ⟨[], rfl, VRs.nil.2 rfl⟩
          | global g =>
            show VR ι (bif Nat.blt g 100 then .ptr g 0 else .any) (.pointer (some ⟨g, 0, none⟩))
            rw [blt_eq]
            by_cases hg : g < 100
            · rw [decide_eq_true hg]
              obtain ⟨m, hm⟩ := hI.wr.gl g hg
              exact VR.ptr.2 ⟨_, hm, by simp⟩
            · rw [decide_eq_false hg]; exact VR.any
        have hrun := hOk.run hwd ι (hat (lb listed) 0 R h0.h.get) w a hI.wr (hI.free i r hR hb) hopr (fun id hrd hne q hq => G.agree hI.closed hR hb hri hI.free id hrd hne q hq)
        refine upon_gives hrun fun vc w1 hP => ?_
        obtain ⟨ι', p1, p2, p3, p4⟩ := hP
        exact ih _ _ _ ι' (by omega) (hI.step G hR hb hri p1 p2 p3 p4)
theorem left_all (N : Nat) : left (Array.replicate N false) N = N := by
  unfold left
  have : ∀ M, M ≤ N → (List.range M).countP (fun i => !lb (Array.replicate N false) i) = M := by
    intro M
    induction M with
    | zero => intro _; rfl
    | succ M ih =>
      intro h
      rw [List.range_succ, List.countP_append, ih (by omega)]
      have : lb (Array.replicate N false) M = false := by simp [lb, Array.getD]
      simp [this]
  exact this N (Nat.le_refl _)
theorem draw_ok (hm : P.follows .mixedOrders = true) (hh : HookOk P hk) (hs : SelfOk P self) : DrawOk P hk self := by
  intro os id tm n h r h' h100 hB e ho
  obtain ⟨R, tm', h1, hT, hf⟩ := seqD_trc os.toList [] tm h r h' e ho
  have hf1 : finD os (R.map (·.fx)).reverse tm' n h1 = r := by simpa using hf
  have hf2 : (bif flow os (ancs os.toList []) && okPairs (ancs os.toList []) (R.map (·.fx)).reverse.reverse [] then Rs.normal tm' h1 else .bad) = r := hf1
  rw [List.reverse_reverse] at hf2
  cases hc : (flow os (ancs os.toList []) && okPairs (ancs os.toList []) (R.map (·.fx)) []) with
  | false => rw [hc] at hf2; have : Rs.bad = r := hf2; subst this; cases ho
  | true =>
    rw [hc] at hf2
    have : Rs.normal tm' h1 = r := hf2
    subst this
    have := Option.some.inj ho
    subst this
    simp only [Bool.and_eq_true] at hc
    have T := trc_ok hh hs hT h100 hB
    obtain ⟨f1, f2⟩ := flow_spec hc.1
    have hlenA : (R.map (·.fx)).length ≤ (ancs os.toList []).length := by
      rw [ancs_len, List.length_map, T.len]; simp
    have G : Reg P os n tm h R tm' h1 := ⟨T, f1, f2, fun i j r s hij hi hj => okPairs_at _ _ [] hc.2 hlenA j s.fx (by rw [List.getElem?_map, hj]; rfl) i r.fx (by rw [List.nil_append, List.getElem?_map, hi]; rfl) (by simpa using hij)⟩
    refine ⟨T.nx, T.wm, fun _ => T.bd, T.keep, fun ι w a hTm hW hfr hBd => ?_⟩
    have hlb : lb (Array.replicate os.size false) = fun _ => false := by
      funext i
      unfold lb
      rw [Array.getD_eq_getD_getElem?, Array.getElem?_replicate]
      split <;> rfl
    have hW' : WR ι h.h.get w.drew := ⟨hW.gl, hW.lt, fun id l b e1 e2 => blkR.mono (Le.refl ι) rfl (hW.blk id l b e1 e2), hW.inj⟩
    refine wp_region_any hm (draw_main (ι0 := ι) (a0 := a) (w0 := w.drew) G _ (fun a' w' hS => ?_) os.size _ a w.drew ι (left_all os.size) ⟨by simp, ?_, fun j s hj _ => ?_, ?_, hTm.size, fun t => ?_, rfl, Ext.refl' hfr, Fr.refl _ _ _ _⟩)
    · obtain ⟨d1, ι', q1, q2, q3, q4⟩ := hS
      exact ⟨rfl, d1, ι', ⟨q1.same, q1.new⟩, q2, q3, ⟨q4.os, q4.tape, q4.output, q4.size, q4.keep⟩⟩
    · intro j o hj
      rw [hlb] at hj; cases hj
    · obtain ⟨_, _, b1, b2, _⟩ := T.at_ j s hj
      exact hfr.sub b1 b2
    · rw [hlb, hat_off _ _ _ _ (fun _ => rfl)]; exact hW'
    · rw [hlb, val_off _ _ _ _ (fun _ => rfl)]; exact hTm.val t
theorem ev_sound (hm : P.follows .mixedOrders = true) (hh : HookOk P hk) (m : Nat) : SelfOk P (ev P hk m) := ev_ok hh (fun _ hs => draw_ok hm hh hs) m
/-- A call that was evaluated, at a world that its memory stands for. -/
theorem call_sound (hm : P.follows .mixedOrders = true) (hh : HookOk P hk) {m f : Nat} {args : List AV} {h h' : Hp} {v : AV} (h100 : 100 ≤ h.nx) (hB : Bd h) (e : call P hk (ev P hk m) f args h = .val v h') : CallOk P f args h v h' :=
  call_ok hh (ev_sound hm hh m) h100 hB e
end
end Go.Proofs.YtnbnoacadhoimaaGreatDoor.Ax
