/- The iterator over the hours that suit. -/
import Derived.Test.YtnbnoacadhoimaaGreatDoorDaG
import Derived.Test.YtnbnoacadhoimaaGreatDoorDeG
import Derived.RangeFuncBox
import Derived.RangeFuncLeaves
import Derived.RangeFuncWrites
import Derived.Shelf.Abstract
import Derived.OwnWalkIn
import Derived.TacticsInMore
import Derived.LoopNIn
import Derived.LoopIn
import Derived.Maps.AppendAt
set_option linter.unusedSimpArgs false
set_option linter.unusedVariables false
set_option maxRecDepth 100000
set_option maxHeartbeats 8000000
namespace Go.Proofs.YtnbnoacadhoimaaGreatDoor
open Go Go.RowKit Go.Shelf

attribute [local go_sem] Oper.semAt_some

/-- The hours ahead of k that suit. -/
def upSuit (hs : List Hr) (c : Clim) (k : Nat) : List Nat := (List.range k).filter fun j => suitB (hs.getD j (0, 0)) c
theorem upSuit_hit {hs : List Hr} {c : Clim} {k : Nat} (h : suitB (hs.getD k (0, 0)) c = true) : upSuit hs c (k + 1) = upSuit hs c k ++ [k] := by
  rw [upSuit, List.range_succ, List.filter_append]
  simp only [List.filter_cons, h, if_true, List.filter_nil]
  rfl
theorem upSuit_miss {hs : List Hr} {c : Clim} {k : Nat} (h : suitB (hs.getD k (0, 0)) c = false) : upSuit hs c (k + 1) = upSuit hs c k := by
  rw [upSuit, List.range_succ, List.filter_append]
  simp only [List.filter_cons, h, Bool.false_eq_true, if_false, List.filter_nil, List.append_nil]
  rfl
theorem upSuit_len (hs : List Hr) (c : Clim) (k : Nat) : (upSuit hs c k).length ≤ k := by
  have := List.length_filter_le (fun j => suitB (hs.getD j (0, 0)) c) (List.range k)
  rw [List.length_range] at this
  exact this
/-- What a round keeps. -/
def KpB (n₀ B : Nat) (W W' : World) : Prop := Below n₀ W W' ∧ W'.heap[B]? = W.heap[B]?
theorem cell_heap {W W' : World} {B : Nat} (h : W'.heap[B]? = W.heap[B]?) (o : Nat) : W'.cell? ⟨B, o, none⟩ = W.cell? ⟨B, o, none⟩ := World.cell?_of_block (a := ⟨B, o, none⟩) h
theorem abide {β : Type} {B : Nat} {J : β → World → Prop} {s : β} {W W' : World} (h : AbidesFrom B J) (hs : J s W) (hb : Below W.heap.size W W') : J s W' :=
  h s W W' none hs ⟨hb.os, hb.tape, hb.output, hb.size, fun k hk _ => hb.block k hk⟩ (fun r e => by cases e)
theorem suitable1_in (n : Nat) (hn : 1 ≤ n) (l Bs Bc n₀ B0 b off cap : Nat) (A : Option Addr) (hs : List Hr) (hA : 0 < hs.length → A = some ⟨b, off, none⟩) (c : Clim) (hreach : hs.length * 16 ≤ 140737488351232) (hb : b < n₀) (J Jx : List Nat → World → Prop) (hJ : AbidesFrom B0 J)
    (hY : ∀ (pre : List Nat) (x : Nat) W, J pre W → pre.length < hs.length → YieldAt Fence.wide (n - 1) Tryz.prog l #[.int .i64 (x : Int)] W fun e W' =>
      (e = .returned (.bool true) ∧ J (pre ++ [x]) W' ∧ KpB n₀ Bc W W') ∨ (e = .returned (.bool false) ∧ Jx (pre ++ [x]) W'))
    (W : World) (hn0 : n₀ ≤ W.heap.size) (hBc : Bc < W.heap.size) (hcs : W.cell? ⟨Bs, 0, none⟩ = some (.slice A hs.length cap)) (hcc : (W.cell? ⟨Bc, 0, none⟩ = some (.int .i64 c.c) ∧ W.cell? ⟨Bc, 1, none⟩ = some (.int .i64 c.m)) ∧ W.cell? ⟨Bc, 2, none⟩ = some (.int .i64 c.d) ∧ W.cell? ⟨Bc, 3, none⟩ = some (.int .i64 c.p))
    (hH : Hrs W b off hs) (h0 : J [] W) :
    CallsIn Fence.wide n Tryz.prog 110 #[.func (.yield l) #[] #[], .pointer (some ⟨Bs, 0, none⟩), .pointer (some ⟨Bc, 0, none⟩)] W fun e W' => (∃ v, e = .returned v) ∧
      ((∃ ys, ys = upSuit hs c hs.length ∧ J ys W') ∨ (∃ pre, (∃ k, k ≤ hs.length ∧ pre = upSuit hs c k) ∧ Jx pre W')) := by
  refine callsIn_of_wp Tryz.func110 rfl trivial ?_ rfl
  simp only [Tryz.ntmps110, List.size_toArray, List.length_cons, List.length_nil, Nat.reduceAdd, Nat.reduceSub, Array.replicate_succ, Array.replicate_zero, List.push_toArray, List.append_toArray, List.nil_append, List.cons_append]
  gi_wp2
  gi_loopw [8] (fun i wr => ∃ k : Nat, k ≤ hs.length ∧ i = .int .i64 k ∧ J (upSuit hs c k) wr ∧ Below n₀ W wr ∧ wr.heap[Bc]? = W.heap[Bc]?)
    (fun i _ => hs.length - (intOf i).toNat)
  case atStart => exact ⟨0, Nat.zero_le _, rfl, h0, Below.refl _ _, rfl⟩
  case round =>
    obtain ⟨k, hk, rfl, hJs, hnx, hnc⟩ := hrel
    by_cases hlt : k < hs.length
    · obtain rfl := hA (by omega)
      obtain ⟨hx1, hx2⟩ := hH.on hnx hb k hlt
      have c1 := (cell_heap hnc 0).trans hcc.1.1
      have c2 := (cell_heap hnc 1).trans hcc.1.2
      have c3 := (cell_heap hnc 2).trans hcc.2.1
      have c4 := (cell_heap hnc 3).trans hcc.2.2
      have hsz := hnx.size
      have q1 : Bc < wr.heap.size := by omega
      have q2 : b < wr.heap.size := by omega
      obtain ⟨t, u, hxe⟩ : ∃ t u, hs.getD k (0, 0) = (t, u) := ⟨_, _, rfl⟩
      rw [hxe] at hx1 hx2
      dsimp only at hx1 hx2
      cases hsu : suitB (t, u) c
      · gi_wp2_with (refine ⟨trivial, ?_⟩; gi_at_call 62; refine (callsIn_wide.2 (suits_ok (t, u) c)).mono ?_; rintro e w1 ⟨rfl, hb1⟩; have _ := bm hb1; rw [hsu])
        have hw : Below wr.heap.size wr w1 := bi
        refine ⟨fun _ h => (by cases h), ?_⟩
        gi_wp2
        go_roundw
        case rel => exact ⟨k + 1, by omega, by simp, by rw [upSuit_miss (by rw [hxe]; exact hsu)]; exact abide hJ hJs hw, hnx.trans (hw.mono (by omega)), (hw.block Bc q1).trans hnc⟩
        case measure => simp [intOf]; omega
      · gi_wp2_with (refine ⟨trivial, ?_⟩; gi_at_call 62; refine (callsIn_wide.2 (suits_ok (t, u) c)).mono ?_; rintro e w1 ⟨rfl, hb1⟩; have _ := bm hb1; rw [hsu]; have hw : Below wr.heap.size wr w1 := bi; obtain ⟨fn, tmps, assign, body, hy, hR⟩ := hY _ k w1 (abide hJ hJs hw) (Nat.lt_of_le_of_lt (upSuit_len hs c k) hlt))
        refine hR.mono ?_
        rintro e W3 (⟨rfl, hJ3, hk3⟩ | ⟨rfl, hJx3⟩)
        · gi_wp2
          go_roundw
          case rel => exact ⟨k + 1, by omega, by simp, by rw [upSuit_hit (by rw [hxe]; exact hsu)]; exact hJ3, (hnx.trans (hw.mono (by omega))).trans hk3.1, hk3.2.trans ((hw.block Bc q1).trans hnc)⟩
          case measure => simp [intOf]; omega
        · gi_wp2
          refine bodyPost_ret (results_none rfl _ _ _) rfl ?_
          exact ⟨⟨_, rfl⟩, .inr ⟨_, ⟨k + 1, by omega, (upSuit_hit (by rw [hxe]; exact hsu)).symm⟩, hJx3⟩⟩
    · obtain rfl : k = hs.length := by omega
      gi_wp2
      go_end0
      exact ⟨⟨_, rfl⟩, .inl ⟨_, rfl, hJs⟩⟩

section
variable {w : World}
theorem suitable_ok (A : Option Addr) (n cap : Nat) (c : Clim) : Calls Tryz.prog 63 #[.slice A n cap, clv c] w fun e w' => e = .returned (.func (.func 110) #[] #[.pointer (some ⟨w.heap.size, 0, none⟩), .pointer (some ⟨w.heap.size + 1, 0, none⟩)]) ∧ ∃ T U, w' = (w.alloc (.cells #[.slice A n cap] T)).alloc (.cells #[.int .i64 c.c, .int .i64 c.m, .int .i64 c.d, .int .i64 c.p] U) := by
  go_enter Tryz.func63, Tryz.ntmps63
  go_wp2
  go_ret
  exact ⟨rfl, _, _, rfl⟩
/-- The iterator gives the hours that suit, in their order. -/
theorem suitable_stops (n : Nat) (hn : 1 ≤ n) (Bs Bc n₀ b off cap : Nat) (A : Option Addr) (hs : List Hr) (c : Clim) (hA : 0 < hs.length → A = some ⟨b, off, none⟩) (hreach : hs.length * 16 ≤ 140737488351232) (hn₀ : n₀ ≤ w.heap.size) (hb : b < n₀) (hBs : Bs < w.heap.size) (hBc : Bc < w.heap.size)
    (hcs : w.cell? ⟨Bs, 0, none⟩ = some (.slice A hs.length cap)) (hcc : (w.cell? ⟨Bc, 0, none⟩ = some (.int .i64 c.c) ∧ w.cell? ⟨Bc, 1, none⟩ = some (.int .i64 c.m)) ∧ w.cell? ⟨Bc, 2, none⟩ = some (.int .i64 c.d) ∧ w.cell? ⟨Bc, 3, none⟩ = some (.int .i64 c.p))
    (hH : Hrs w b off hs) :
    SeqStopsK Fence.wide n Tryz.prog 110 #[.pointer (some ⟨Bs, 0, none⟩), .pointer (some ⟨Bc, 0, none⟩)] (fun x : Nat => #[Value.int .i64 (x : Int)]) (KpB n₀ Bc) (fun ys => ys = upSuit hs c hs.length) (fun pre => ∃ k, k ≤ hs.length ∧ pre = upSuit hs c k) hs.length w := fun l J Jx W hW hJ _ hY h0 => by
  refine (suitable1_in n hn l Bs Bc n₀ W.heap.size b off cap A hs hA c hreach hb J Jx hJ hY W (Nat.le_trans hn₀ hW.size) (Nat.lt_of_lt_of_le hBc hW.size) ((hW.cell (p := ⟨Bs, 0, none⟩) hBs).trans hcs)
    ⟨⟨(hW.cell (p := ⟨Bc, 0, none⟩) hBc).trans hcc.1.1, (hW.cell (p := ⟨Bc, 1, none⟩) hBc).trans hcc.1.2⟩, (hW.cell (p := ⟨Bc, 2, none⟩) hBc).trans hcc.2.1, (hW.cell (p := ⟨Bc, 3, none⟩) hBc).trans hcc.2.2⟩ (hH.on hW (Nat.lt_of_lt_of_le hb hn₀)) h0).mono ?_
  rintro e W' ⟨he, ⟨ys, rfl, hj⟩ | ⟨pre, ⟨k, hk, rfl⟩, hj⟩⟩
  · exact ⟨he, .inl ⟨_, rfl, hj⟩⟩
  · exact ⟨he, .inr ⟨_, ⟨k, hk, rfl⟩, hj⟩⟩
end

attribute [local go_sem] Oper.semAt_some
theorem iv3' {W : World} {t : TypeId} {a b c : Int} : Iv (W.alloc (.cells #[.int .i64 a, .int .i64 b, .int .i64 c] t)) (some ⟨W.heap.size, 0, none⟩) 3 [a, b, c] := iv3
/-- A piece of code that ends as it should: what is asked of a panic does not matter. -/
theorem wp_only {P : Program} {c : Code} {Q : Exit → Act → World → Prop} {a : Act} {w : World} (h : c.wp P (fun e a' w' => match e with | .normal => Q .normal a' w' | _ => False) a w) : c.wp P Q a w :=
  wp_mono h fun e a' w' h => by cases e <;> first | exact h | exact h.elim
def fansE (hs : List Hr) (c : Clim) (need : Int) : Int := fnz [hoursE hs, climE c, if need < 0 then 3 else 0]
section
variable {w : World} {A : Option Addr} {n cap : Nat} {hs : List Hr} {c : Clim} {need : Int}

theorem climate_fact {c : Clim} {r : Int} (hr : climE c = r) : Calls Tryz.prog 27 #[clv c] w fun e w' => e = .returned (.int .i64 r) ∧ Below w.heap.size w w' := hr ▸ climate_ok c
theorem fans_bad {k : Int} (h : Hv w A n hs) (hn : n ≤ 100000) (hk : fansE hs c need = k) (h0 : k ≠ 0) : Calls Tryz.prog 22 #[.slice A n cap, clv c, .int .i64 need] w fun e w' => e = .returned (.tuple #[.slice none 0 0, .int .i64 k]) ∧ Below w.heap.size w w' := by
  have H := qh h
  have HN := qh hn
  have HK := qh hk
  clear h hn hk
  have q1 : (k != 0) = true := by rw [bne_iff_ne]; exact h0
  obtain ⟨e1, he1⟩ : ∃ e, hoursE hs = e := ⟨_, rfl⟩
  obtain ⟨e2, he2⟩ : ∃ e, climE c = e := ⟨_, rfl⟩
  obtain ⟨g, hg⟩ : ∃ g, decide (need < 0) = g := ⟨_, rfl⟩
  obtain ⟨e3, he3⟩ : ∃ e, (if g then (3 : Int) else 0) = e := ⟨_, rfl⟩
  have HE1 := qh he1
  have HE2 := qh he2
  have HE3 := qh he3
  have HK2 : Hid (fnz [e1, e2, e3] = k) := by
    show _ = _
    rw [← HK.out]
    unfold fansE
    rw [he1, he2, ← he3, ← hg]
    by_cases q : need < 0 <;> simp [q]
  clear HK he1 he2 he3
  have HK := HK2
  clear HK2
  refine (callsIn_wide (n := 5)).1 (callsIn_of_wp_marks Tryz.func22 rfl trivial ?_ rfl)
  simp only [Tryz.ntmps22, List.size_toArray, List.length_cons, List.length_nil, Nat.reduceAdd, Nat.reduceSub, Array.replicate_succ, Array.replicate_zero, List.push_toArray, List.append_toArray, List.nil_append, List.cons_append]
  gi_wp2
  obtain ⟨V, hV⟩ : ∃ V, (w.alloc (.cells #[.slice A n cap] 48)).alloc (.cells #[.int .i64 c.c, .int .i64 c.m, .int .i64 c.d, .int .i64 c.p] 50) = V := ⟨_, rfl⟩
  have bV : Below w.heap.size w V := by rw [← hV]; exact bi
  have v1 : V.cell? ⟨w.heap.size, 0, none⟩ = some (.slice A n cap) := by rw [← hV]; simp [go_sem]
  have v2 : V.cell? ⟨w.heap.size + 1, 0, none⟩ = some (.int .i64 c.c) := by rw [← hV]; simp [go_sem]
  have v3 : V.cell? ⟨w.heap.size + 1, 1, none⟩ = some (.int .i64 c.m) := by rw [← hV]; simp [go_sem]
  have v4 : V.cell? ⟨w.heap.size + 1, 2, none⟩ = some (.int .i64 c.d) := by rw [← hV]; simp [go_sem]
  have v5 : V.cell? ⟨w.heap.size + 1, 3, none⟩ = some (.int .i64 c.p) := by rw [← hV]; simp [go_sem]
  have z0 : w.heap.size < V.heap.size := by rw [← hV]; simp; omega
  have z1 : w.heap.size + 1 < V.heap.size := by rw [← hV]; simp
  rw [hV]
  clear hV
  replace H := qh (H.out.below bV)
  refine wpIn_wide.2 (wp_only ?_)
  refine wp_region_T (fun w' => Below V.heap.size V w') [] (by kernel_rfl) ?_
  refine tb 0 (.slice A n cap) [1] rfl (by kernel_rfl) pk rfl (by intros; go_simp) bq0 ?_
  simp only [ppq]
  refine tb 2 (clv c) [3] rfl (by kernel_rfl) pk rfl (by intros; go_simp) bq0 ?_
  simp only [ppq]
  refine tb 4 (.int .i64 need) [5] rfl (by kernel_rfl) pk rfl (by intros; go_simp) bq0 ?_
  simp only [ppq]
  refine tb 5 (.bool g) [6] rfl (by kernel_rfl) pk rfl (by intros; go_simp) bq0 ?_
  simp only [ppq]
  refine rd1 1 (by kernel_rfl) rfl (fun K hK => ?_)
  go_simp
  go_wp2_with (go_at_call 26; (with_reducible refine mo0 (hours_ok (H.out.below bi) HN.out HE1.out) fun w1 hb1 hc1 hf1 _ => ?_))
  have sS1 := qh (bst bq0 hb1)
  refine hK.out _ _ (fun _ => sS1.out) ?_
  clear hK K
  refine rd1 3 (by kernel_rfl) rfl (fun K hK => ?_)
  go_simp
  go_wp2_with (go_at_call 27; (with_reducible refine mo0 (climate_fact HE2.out) fun w2 hb2 hc2 hf2 _ => ?_))
  have sS2 := qh (bst sS1.out hb2)
  refine hK.out _ _ (fun _ => sS2.out) ?_
  clear hK K
  refine rd1 6 (by kernel_rfl) rfl (fun K hK => ?_)
  go_simp
  go_wp2_with (go_at_call 52; (with_reducible refine mo0 (when_fact HE3.out) fun w3 hb3 hc3 hf3 _ => ?_))
  have sS3 := qh (bst sS2.out hb3)
  refine hK.out _ _ (fun _ => sS3.out) ?_
  clear hK K
  refine rd1 7 (by kernel_rfl) rfl (fun K hK => ?_)
  go_simp
  refine hK.out _ _ (fun _ => bi) ?_
  clear hK K
  skip
  refine rd1 8 (by kernel_rfl) rfl (fun K hK => ?_)
  go_simp
  go_wp2_with (go_at_call 45; (with_reducible refine mo0 (first_ok (r := k) iv3 (by omega) HK.out) fun w4 hb4 hc4 hf4 _ => ?_))
  refine hK.out _ _ (fun _ => bi) ?_
  clear hK K
  refine rd1 9 (by kernel_rfl) rfl (fun K hK => ?_)
  go_simp
  refine hK.out _ _ (fun _ => bi) ?_
  clear hK K
  refine wpAnyT_done (by kernel_rfl) ?_ _
  dsimp only
  have b4 : Below V.heap.size V w4 := bi
  have u1 := cell_on b4 v1
  have u2 := cell_on b4 v2
  have u3 := cell_on b4 v3
  have u4 := cell_on b4 v4
  have u5 := cell_on b4 v5
  have y0 : w.heap.size < w4.heap.size := Nat.lt_of_lt_of_le z0 b4.size
  have y1 : w.heap.size + 1 < w4.heap.size := Nat.lt_of_lt_of_le z1 b4.size
  replace H := qh (H.out.below b4)
  replace bV := bst bV b4
  clear v1 v2 v3 v4 v5 z0 z1 hc1 hc2 hc3 hc4 hf1 hf2 hf3 hf4
  gi_wp2
  exact ⟨.tuple #[.slice none 0 0, .int .i64 k], by simp [results, Tryz.results22, go_sem], rfl, bV⟩
end

attribute [local go_sem] Oper.semAt_some
theorem Tryz.info_int : (Tryz.prog.info? 3).map (fun i => (i.zero, i.size, i.bytes)) = some (some (.int .i64 0), 1, 8) := by kernel_rfl
theorem kpb_t {n₀ B : Nat} {X Y Z : World} (h : KpB n₀ B X Y) (k : KpB n₀ B Y Z) : KpB n₀ B X Z := ⟨h.1.trans k.1, k.2.trans h.2⟩
theorem own_pos {w : World} {base size n : Nat} {e : TypeId} {v : Value} {xs : List Value} (h : w.ownsRow base e size v n xs) (hn : 0 < n) : ∃ g c, v = .slice (some ⟨g, 0, none⟩) n c := by
  rcases h.2 with ⟨_, h0⟩ | ⟨g, cap, _, hv, _⟩
  · omega
  · exact ⟨g, cap, hv⟩
theorem own_form {w : World} {base size n : Nat} {e : TypeId} {v : Value} {xs : List Value} (h : w.ownsRow base e size v n xs) : ∃ A c, v = .slice A n c := by
  rcases h.2 with ⟨e, rfl⟩ | ⟨g, cap, _, hv, _⟩
  · exact ⟨_, _, e⟩
  · exact ⟨_, _, hv⟩
theorem kpb_b {n₀ B : Nat} {w : World} (h1 : n₀ ≤ w.heap.size) (h2 : B < w.heap.size) (W : World) (l : Nat) (o o' : Obj) (hl : w.heap.size ≤ l) (hk : W.heap[l]? = some o) (hc : o.isCells = false) (hw : o.isWalk = false) : KpB n₀ B W (W.putObj l o') :=
  ⟨belowK_b (w := w) h1 W l o o' hl hk hc hw, World.putObj_heap_other (by omega)⟩
theorem own_size {β : Type} (B k : Nat) : OwnFrom B (fun (_ : β) W => k ≤ W.heap.size) := fun _ _ _ _ hs hg _ => Nat.le_trans hs hg.size
/-- Where the hours lie. -/
theorem Hv.place {w : World} {A : Option Addr} {n : Nat} {hs : List Hr} (h : Hv w A n hs) (h0 : 0 < w.heap.size) : ∃ b off, (0 < hs.length → A = some ⟨b, off, none⟩) ∧ b < w.heap.size ∧ Hrs w b off hs := by
  rcases Nat.eq_zero_or_pos n with e | e
  · subst e
    have hl := h.len
    exact ⟨0, 0, fun h => by omega, h0, fun j hj => by omega⟩
  · obtain ⟨b, o, hA, hb, hH⟩ := h.at_ e
    exact ⟨b, o, fun _ => hA, hb, hH⟩

section
variable {w : World} {A : Option Addr} {n cap : Nat} {hs : List Hr} {c : Clim} {need : Int}

theorem fans_few (h : Hv w A n hs) (hn : n ≤ 1000) (hk : fansE hs c need = 0) (hf : ((upSuit hs c hs.length).length : Int) < need) : Calls Tryz.prog 22 #[.slice A n cap, clv c, .int .i64 need] w fun e w' => e = .returned (.tuple #[.slice none 0 0, .int .i64 7]) ∧ Below w.heap.size w w' := by
  have H := qh h
  have HN := qh (show n ≤ 100000 by omega)
  have HN2 := qh hn
  have HK := qh hk
  clear h hn hk
  obtain ⟨e1, he1⟩ : ∃ e, hoursE hs = e := ⟨_, rfl⟩
  obtain ⟨e2, he2⟩ : ∃ e, climE c = e := ⟨_, rfl⟩
  obtain ⟨g, hg⟩ : ∃ g, decide (need < 0) = g := ⟨_, rfl⟩
  obtain ⟨e3, he3⟩ : ∃ e, (if g then (3 : Int) else 0) = e := ⟨_, rfl⟩
  have HE1 := qh he1
  have HE2 := qh he2
  have HE3 := qh he3
  have HK2 : Hid (fnz [e1, e2, e3] = 0) := by
    show _ = _
    rw [← HK.out]
    unfold fansE
    rw [he1, he2, ← he3, ← hg]
    by_cases q : need < 0 <;> simp [q]
  clear HK he1 he2 he3
  have HK := HK2
  clear HK2
  refine (callsIn_wide (n := 5)).1 (callsIn_of_wp_marks Tryz.func22 rfl trivial ?_ rfl)
  simp only [Tryz.ntmps22, List.size_toArray, List.length_cons, List.length_nil, Nat.reduceAdd, Nat.reduceSub, Array.replicate_succ, Array.replicate_zero, List.push_toArray, List.append_toArray, List.nil_append, List.cons_append]
  gi_wp2
  obtain ⟨V, hV⟩ : ∃ V, (w.alloc (.cells #[.slice A n cap] 48)).alloc (.cells #[.int .i64 c.c, .int .i64 c.m, .int .i64 c.d, .int .i64 c.p] 50) = V := ⟨_, rfl⟩
  have bV : Below w.heap.size w V := by rw [← hV]; exact bi
  have v1 : V.cell? ⟨w.heap.size, 0, none⟩ = some (.slice A n cap) := by rw [← hV]; simp [go_sem]
  have v2 : V.cell? ⟨w.heap.size + 1, 0, none⟩ = some (.int .i64 c.c) := by rw [← hV]; simp [go_sem]
  have v3 : V.cell? ⟨w.heap.size + 1, 1, none⟩ = some (.int .i64 c.m) := by rw [← hV]; simp [go_sem]
  have v4 : V.cell? ⟨w.heap.size + 1, 2, none⟩ = some (.int .i64 c.d) := by rw [← hV]; simp [go_sem]
  have v5 : V.cell? ⟨w.heap.size + 1, 3, none⟩ = some (.int .i64 c.p) := by rw [← hV]; simp [go_sem]
  have z0 : w.heap.size < V.heap.size := by rw [← hV]; simp; omega
  have z1 : w.heap.size + 1 < V.heap.size := by rw [← hV]; simp
  rw [hV]
  clear hV
  replace H := qh (H.out.below bV)
  refine wpIn_wide.2 (wp_only ?_)
  refine wp_region_T (fun w' => Below V.heap.size V w') [] (by kernel_rfl) ?_
  refine tb 0 (.slice A n cap) [1] rfl (by kernel_rfl) pk rfl (by intros; go_simp) bq0 ?_
  simp only [ppq]
  refine tb 2 (clv c) [3] rfl (by kernel_rfl) pk rfl (by intros; go_simp) bq0 ?_
  simp only [ppq]
  refine tb 4 (.int .i64 need) [5] rfl (by kernel_rfl) pk rfl (by intros; go_simp) bq0 ?_
  simp only [ppq]
  refine tb 5 (.bool g) [6] rfl (by kernel_rfl) pk rfl (by intros; go_simp) bq0 ?_
  simp only [ppq]
  refine rd1 1 (by kernel_rfl) rfl (fun K hK => ?_)
  go_simp
  go_wp2_with (go_at_call 26; (with_reducible refine mo0 (hours_ok (H.out.below bi) HN.out HE1.out) fun w1 hb1 hc1 hf1 _ => ?_))
  have sS1 := qh (bst bq0 hb1)
  refine hK.out _ _ (fun _ => sS1.out) ?_
  clear hK K
  refine rd1 3 (by kernel_rfl) rfl (fun K hK => ?_)
  go_simp
  go_wp2_with (go_at_call 27; (with_reducible refine mo0 (climate_fact HE2.out) fun w2 hb2 hc2 hf2 _ => ?_))
  have sS2 := qh (bst sS1.out hb2)
  refine hK.out _ _ (fun _ => sS2.out) ?_
  clear hK K
  refine rd1 6 (by kernel_rfl) rfl (fun K hK => ?_)
  go_simp
  go_wp2_with (go_at_call 52; (with_reducible refine mo0 (when_fact HE3.out) fun w3 hb3 hc3 hf3 _ => ?_))
  have sS3 := qh (bst sS2.out hb3)
  refine hK.out _ _ (fun _ => sS3.out) ?_
  clear hK K
  refine rd1 7 (by kernel_rfl) rfl (fun K hK => ?_)
  go_simp
  refine hK.out _ _ (fun _ => bi) ?_
  clear hK K
  skip
  refine rd1 8 (by kernel_rfl) rfl (fun K hK => ?_)
  go_simp
  go_wp2_with (go_at_call 45; (with_reducible refine mo0 (first_ok (r := 0) iv3 (by omega) HK.out) fun w4 hb4 hc4 hf4 _ => ?_))
  refine hK.out _ _ (fun _ => bi) ?_
  clear hK K
  refine rd1 9 (by kernel_rfl) rfl (fun K hK => ?_)
  go_simp
  refine hK.out _ _ (fun _ => bi) ?_
  clear hK K
  refine wpAnyT_done (by kernel_rfl) ?_ _
  dsimp only
  have b4 : Below V.heap.size V w4 := bi
  have u1 := cell_on b4 v1
  have u2 := cell_on b4 v2
  have u3 := cell_on b4 v3
  have u4 := cell_on b4 v4
  have u5 := cell_on b4 v5
  have y0 : w.heap.size < w4.heap.size := Nat.lt_of_lt_of_le z0 b4.size
  have y1 : w.heap.size + 1 < w4.heap.size := Nat.lt_of_lt_of_le z1 b4.size
  replace H := qh (H.out.below b4)
  replace bV := bst bV b4
  clear v1 v2 v3 v4 v5 z0 z1 hc1 hc2 hc3 hc4 hf1 hf2 hf3 hf4
  gi_wp2_with (refine ⟨trivial, ?_⟩; gi_at_call 63; refine (callsIn_wide.2 (suitable_ok A n cap c)).mono ?_; rintro e5 w5 ⟨rfl, T, U, rfl⟩)
  have bO := ((Boxed.new w4 31 (.slice none 0 0)).alloc (.cells #[.slice A n cap] T)).alloc (.cells #[.int .i64 c.c, .int .i64 c.m, .int .i64 c.d, .int .i64 c.p] U)
  have B5 : Below w4.heap.size w4 (((w4.alloc (Obj.cells #[Value.slice none 0 0] 31)).alloc (.cells #[.slice A n cap] T)).alloc (.cells #[.int .i64 c.c, .int .i64 c.m, .int .i64 c.d, .int .i64 c.p] U)) := bi
  have s1 : (((w4.alloc (Obj.cells #[Value.slice none 0 0] 31)).alloc (.cells #[.slice A n cap] T)).alloc (.cells #[.int .i64 c.c, .int .i64 c.m, .int .i64 c.d, .int .i64 c.p] U)).cell? ⟨w4.heap.size + 1, 0, none⟩ = some (.slice A n cap) := by simp [go_sem]
  have s2 : (((w4.alloc (Obj.cells #[Value.slice none 0 0] 31)).alloc (.cells #[.slice A n cap] T)).alloc (.cells #[.int .i64 c.c, .int .i64 c.m, .int .i64 c.d, .int .i64 c.p] U)).cell? ⟨w4.heap.size + 1 + 1, 0, none⟩ = some (.int .i64 c.c) := by simp [go_sem]
  have s3 : (((w4.alloc (Obj.cells #[Value.slice none 0 0] 31)).alloc (.cells #[.slice A n cap] T)).alloc (.cells #[.int .i64 c.c, .int .i64 c.m, .int .i64 c.d, .int .i64 c.p] U)).cell? ⟨w4.heap.size + 1 + 1, 1, none⟩ = some (.int .i64 c.m) := by simp [go_sem]
  have s4 : (((w4.alloc (Obj.cells #[Value.slice none 0 0] 31)).alloc (.cells #[.slice A n cap] T)).alloc (.cells #[.int .i64 c.c, .int .i64 c.m, .int .i64 c.d, .int .i64 c.p] U)).cell? ⟨w4.heap.size + 1 + 1, 2, none⟩ = some (.int .i64 c.d) := by simp [go_sem]
  have s5 : (((w4.alloc (Obj.cells #[Value.slice none 0 0] 31)).alloc (.cells #[.slice A n cap] T)).alloc (.cells #[.int .i64 c.c, .int .i64 c.m, .int .i64 c.d, .int .i64 c.p] U)).cell? ⟨w4.heap.size + 1 + 1, 3, none⟩ = some (.int .i64 c.p) := by simp [go_sem]
  obtain ⟨W5, hW5⟩ : ∃ W, (((w4.alloc (Obj.cells #[Value.slice none 0 0] 31)).alloc (.cells #[.slice A n cap] T)).alloc (.cells #[.int .i64 c.c, .int .i64 c.m, .int .i64 c.d, .int .i64 c.p] U)) = W := ⟨_, rfl⟩
  have z5 : W5.heap.size = w4.heap.size + 1 + 1 + 1 := by rw [← hW5]; simp
  rw [hW5] at bO B5 s1 s2 s3 s4 s5 ⊢
  clear hW5 hb1 hb2 hb3 hb4 sS1 sS2 sS3 HE1 HE2 HE3 HK
  obtain ⟨b, off, hA, hbl, hHs⟩ := H.out.place (by omega)
  have hlen := H.out.len
  rw [← hlen] at s1
  have hreach : hs.length * 16 ≤ 140737488351232 := by have := HN2.out; omega
  obtain ⟨i0, hi, hz0, hz1, hz2⟩ := info_parts Tryz.info_int
  refine wpIn_rangeFunc_ownG rfl (by decide) (gf := 110) (lb := #[.pointer (some ⟨w4.heap.size + 1, 0, none⟩), .pointer (some ⟨w4.heap.size + 1 + 1, 0, none⟩)]) rfl trivial (enters_of Tryz.func110 (by kernel_rfl) rfl)
    (suitable_stops 4 (by decide) (w4.heap.size + 1) (w4.heap.size + 1 + 1) w4.heap.size b off cap A hs c hA hreach (by omega) hbl (by omega) (by omega) s1 ⟨⟨s2, s3⟩, s4, s5⟩ (hHs.on B5 hbl)) kpb_t (kpb_b (by omega) (by omega)) (Below.refl _ _) (fun _ => rfl)
    (fun pre W => ((∃ v, Boxed W w4.heap.size 31 v ∧ W.ownsRow W5.heap.size 3 1 v pre.length (pre.map encN) ∧ (v = .slice none 0 0 ↔ pre = [])) ∧ Below w4.heap.size w4 W) ∧ W5.heap.size ≤ W.heap.size)
    (fun _ _ _ => False)
    (OwnFrom.and (OwnFrom.and (Own.from (holdsRow_own W5.heap.size w4.heap.size 31 3 1 (fun pre => pre.length) (fun pre => pre.map encN) (fun pre v => v = .slice none 0 0 ↔ pre = [])) _) (ownFrom_below (Nat.le_refl _) (by omega))) (own_size _ _))
    (fun _ _ _ _ _ hs _ _ => hs)
    ⟨⟨⟨_, bO, World.ownsRow_nil _ _ _ _, by simp⟩, B5⟩, Nat.le_refl _⟩
    (fun x => { tmps := #[.slice A n cap, clv c, .int .i64 need, .pointer (some ⟨w.heap.size, 0, none⟩), .pointer (some ⟨w.heap.size + 1, 0, none⟩), undef, .slice none 0 0, .int .i64 0, .int .i64 0, .pointer (some ⟨w4.heap.size, 0, none⟩), encN x, undef, .slice A n cap, .int .i64 e1, clv c, .int .i64 e2, .int .i64 need, .bool g, .int .i64 e3, .slice (some ⟨w3.heap.size, 0, none⟩) 3 3, .int .i64 0, .int .i64 0, .bool false, undef, .slice A n cap, clv c, .func (.func 110) #[] #[.pointer (some ⟨w4.heap.size + 1, 0, none⟩), .pointer (some ⟨w4.heap.size + 1 + 1, 0, none⟩)], encN x, undef, undef, undef, undef, undef, undef, undef, undef, undef, undef, undef, undef, undef, undef, undef, undef, undef, undef, undef], defers := [] }) ?assign ?body ?done ?stop
  case assign =>
    intro l x W K hK
    gi_wp2
    exact hK
  case stop =>
    rintro D c pre W _ _ h _
    exact h.elim
  case body =>
    rintro l pre x W ⟨⟨⟨v, hv, hrow, hnil⟩, hB⟩, hSz⟩ hlt
    have hc := hv.cell
    have hp : pre.length + 1 ≤ 1000 := by have := HN2.out; omega
    gi_wp2_with (gi_at_builtin; refine wpListIn_append_own _ rfl _ _ 31 rfl W5.heap.size 3 i0 (.int .i64 0) 1 8 Tryz.underlying31 hi hz0 hz1 hz2 rfl (by decide) _ _ _ rfl (hrow.alloc _) ⟨W.heap.size, 0, none⟩ 1 1 [encN x] rfl rfl (cell_one_new _ _ _) (by simp [Value.oneCell']) (by unfold maxLen; omega) (by omega) (by simp; omega) ?_; intro v' w1 hown' hgrow _; obtain ⟨g', cap', rfl⟩ := ownsRow_succ hown'; obtain ⟨hv1, hv2, hr2, hk2, hb2⟩ := hv.appended (by decide) (own_le hrow (by omega)) (by omega) (Nat.le_refl _) (own_le hown' (by omega)) hgrow; have hc1 := hv1.cell; have hf1 := hv1.frozen)
    have hbc : (w1.setCell ⟨w4.heap.size, 0, none⟩ (.slice (some ⟨g', 0, none⟩) (pre.length + 1) cap')).heap[w4.heap.size + 1 + 1]? = W.heap[w4.heap.size + 1 + 1]? := by
      rw [Below.heap_setCell _ _ _ _ (by dsimp only; omega), hgrow.block _ (by simp; omega) (fun e => by have := (hrow.lt _ e.symm).1; omega)]
      exact Below.heap_alloc _ _ _ (by omega)
    exact ⟨hk2.from _, ⟨hb2, hbc⟩, ⟨⟨_, hv2, by rw [List.length_append, List.map_append]; exact hown'.kept (grownBy_setCell' _ _ _) (.inr (hv1.not_row (by decide) hown').symm), by simp⟩, hB.trans hb2⟩, Nat.le_trans hSz (Nat.le_trans (by simp) (Nat.le_trans hgrow.size (by simp)))⟩
  case done =>
    rintro D ys W hD hys ⟨⟨⟨v, hv, hrow, hnil⟩, hB⟩, hSz⟩ hK
    have hc := hv.cell
    subst hys
    obtain ⟨Av, cv, rfl⟩ := own_form hrow
    have q1 : decide (((upSuit hs c hs.length).length : Int) < need) = true := by simpa using hf
    clear H HN HN2 hA hHs s1 s2 s3 s4 s5 hlen
    gi_wp2
    refine ⟨by simp, .inl ⟨_, _, rfl, run_takeDeferred hK, ?_⟩⟩
    exact ⟨.tuple #[.slice none 0 0, .int .i64 7], by simp [results, Tryz.results22, go_sem], rfl, (bV.trans (hB.mono (by omega))).trans (belowK_b (w := w) (Nat.le_refl _) W D _ _ (by omega) hK rfl rfl)⟩
/-- The places of the hours in which the fans run. -/
def fansL (hs : List Hr) (c : Clim) (k : Nat) : List Int := (((stab hs (hs.length - 1) (upSuit hs c hs.length)).take k).map Int.ofNat).mergeSort fun x y => decide (x ≤ y)
theorem upSuit_lt {hs : List Hr} {c : Clim} {k x : Nat} (h : x ∈ upSuit hs c k) : x < k := by
  unfold upSuit at h
  exact List.mem_range.1 (List.mem_filter.1 h).1
theorem fans_ok {k : Nat} (h : Hv w A n hs) (hn : n ≤ 1000) (hk : fansE hs c need = 0) (hf : need = (k : Int)) (h0 : 0 < (upSuit hs c hs.length).length) (h20 : (upSuit hs c hs.length).length < 20) (hkl : k ≤ (upSuit hs c hs.length).length) (hk0 : 0 < k) :
    Calls Tryz.prog 22 #[.slice A n cap, clv c, .int .i64 need] w fun e w' => (∃ v, e = .returned (.tuple #[v, .int .i64 0]) ∧ w'.ownsRow w.heap.size 3 1 v k ((fansL hs c k).map (Value.int .i64))) ∧ Below w.heap.size w w' := by
  have HF := qh hf
  clear hf
  have H := qh h
  have HN := qh (show n ≤ 100000 by omega)
  have HN2 := qh hn
  have HK := qh hk
  clear h hn hk
  obtain ⟨e1, he1⟩ : ∃ e, hoursE hs = e := ⟨_, rfl⟩
  obtain ⟨e2, he2⟩ : ∃ e, climE c = e := ⟨_, rfl⟩
  obtain ⟨g, hg⟩ : ∃ g, decide (need < 0) = g := ⟨_, rfl⟩
  obtain ⟨e3, he3⟩ : ∃ e, (if g then (3 : Int) else 0) = e := ⟨_, rfl⟩
  have HE1 := qh he1
  have HE2 := qh he2
  have HE3 := qh he3
  have HK2 : Hid (fnz [e1, e2, e3] = 0) := by
    show _ = _
    rw [← HK.out]
    unfold fansE
    rw [he1, he2, ← he3, ← hg]
    by_cases q : need < 0 <;> simp [q]
  clear HK he1 he2 he3
  have HK := HK2
  clear HK2
  refine (callsIn_wide (n := 5)).1 (callsIn_of_wp_marks Tryz.func22 rfl trivial ?_ rfl)
  simp only [Tryz.ntmps22, List.size_toArray, List.length_cons, List.length_nil, Nat.reduceAdd, Nat.reduceSub, Array.replicate_succ, Array.replicate_zero, List.push_toArray, List.append_toArray, List.nil_append, List.cons_append]
  gi_wp2
  obtain ⟨V, hV⟩ : ∃ V, (w.alloc (.cells #[.slice A n cap] 48)).alloc (.cells #[.int .i64 c.c, .int .i64 c.m, .int .i64 c.d, .int .i64 c.p] 50) = V := ⟨_, rfl⟩
  have bV : Below w.heap.size w V := by rw [← hV]; exact bi
  have v1 : V.cell? ⟨w.heap.size, 0, none⟩ = some (.slice A n cap) := by rw [← hV]; simp [go_sem]
  have v2 : V.cell? ⟨w.heap.size + 1, 0, none⟩ = some (.int .i64 c.c) := by rw [← hV]; simp [go_sem]
  have v3 : V.cell? ⟨w.heap.size + 1, 1, none⟩ = some (.int .i64 c.m) := by rw [← hV]; simp [go_sem]
  have v4 : V.cell? ⟨w.heap.size + 1, 2, none⟩ = some (.int .i64 c.d) := by rw [← hV]; simp [go_sem]
  have v5 : V.cell? ⟨w.heap.size + 1, 3, none⟩ = some (.int .i64 c.p) := by rw [← hV]; simp [go_sem]
  have z0 : w.heap.size < V.heap.size := by rw [← hV]; simp; omega
  have z1 : w.heap.size + 1 < V.heap.size := by rw [← hV]; simp
  rw [hV]
  clear hV
  replace H := qh (H.out.below bV)
  refine wpIn_wide.2 (wp_only ?_)
  refine wp_region_T (fun w' => Below V.heap.size V w') [] (by kernel_rfl) ?_
  refine tb 0 (.slice A n cap) [1] rfl (by kernel_rfl) pk rfl (by intros; go_simp) bq0 ?_
  simp only [ppq]
  refine tb 2 (clv c) [3] rfl (by kernel_rfl) pk rfl (by intros; go_simp) bq0 ?_
  simp only [ppq]
  refine tb 4 (.int .i64 need) [5] rfl (by kernel_rfl) pk rfl (by intros; go_simp) bq0 ?_
  simp only [ppq]
  refine tb 5 (.bool g) [6] rfl (by kernel_rfl) pk rfl (by intros; go_simp) bq0 ?_
  simp only [ppq]
  refine rd1 1 (by kernel_rfl) rfl (fun K hK => ?_)
  go_simp
  go_wp2_with (go_at_call 26; (with_reducible refine mo0 (hours_ok (H.out.below bi) HN.out HE1.out) fun w1 hb1 hc1 hf1 _ => ?_))
  have sS1 := qh (bst bq0 hb1)
  refine hK.out _ _ (fun _ => sS1.out) ?_
  clear hK K
  refine rd1 3 (by kernel_rfl) rfl (fun K hK => ?_)
  go_simp
  go_wp2_with (go_at_call 27; (with_reducible refine mo0 (climate_fact HE2.out) fun w2 hb2 hc2 hf2 _ => ?_))
  have sS2 := qh (bst sS1.out hb2)
  refine hK.out _ _ (fun _ => sS2.out) ?_
  clear hK K
  refine rd1 6 (by kernel_rfl) rfl (fun K hK => ?_)
  go_simp
  go_wp2_with (go_at_call 52; (with_reducible refine mo0 (when_fact HE3.out) fun w3 hb3 hc3 hf3 _ => ?_))
  have sS3 := qh (bst sS2.out hb3)
  refine hK.out _ _ (fun _ => sS3.out) ?_
  clear hK K
  refine rd1 7 (by kernel_rfl) rfl (fun K hK => ?_)
  go_simp
  refine hK.out _ _ (fun _ => bi) ?_
  clear hK K
  skip
  refine rd1 8 (by kernel_rfl) rfl (fun K hK => ?_)
  go_simp
  go_wp2_with (go_at_call 45; (with_reducible refine mo0 (first_ok (r := 0) iv3 (by omega) HK.out) fun w4 hb4 hc4 hf4 _ => ?_))
  refine hK.out _ _ (fun _ => bi) ?_
  clear hK K
  refine rd1 9 (by kernel_rfl) rfl (fun K hK => ?_)
  go_simp
  refine hK.out _ _ (fun _ => bi) ?_
  clear hK K
  refine wpAnyT_done (by kernel_rfl) ?_ _
  dsimp only
  have b4 : Below V.heap.size V w4 := bi
  have u1 := cell_on b4 v1
  have u2 := cell_on b4 v2
  have u3 := cell_on b4 v3
  have u4 := cell_on b4 v4
  have u5 := cell_on b4 v5
  have y0 : w.heap.size < w4.heap.size := Nat.lt_of_lt_of_le z0 b4.size
  have y1 : w.heap.size + 1 < w4.heap.size := Nat.lt_of_lt_of_le z1 b4.size
  replace H := qh (H.out.below b4)
  replace bV := bst bV b4
  clear v1 v2 v3 v4 v5 z0 z1 hc1 hc2 hc3 hc4 hf1 hf2 hf3 hf4
  gi_wp2_with (refine ⟨trivial, ?_⟩; gi_at_call 63; refine (callsIn_wide.2 (suitable_ok A n cap c)).mono ?_; rintro e5 w5 ⟨rfl, T, U, rfl⟩)
  have bO := ((Boxed.new w4 31 (.slice none 0 0)).alloc (.cells #[.slice A n cap] T)).alloc (.cells #[.int .i64 c.c, .int .i64 c.m, .int .i64 c.d, .int .i64 c.p] U)
  have B5 : Below w4.heap.size w4 (((w4.alloc (Obj.cells #[Value.slice none 0 0] 31)).alloc (.cells #[.slice A n cap] T)).alloc (.cells #[.int .i64 c.c, .int .i64 c.m, .int .i64 c.d, .int .i64 c.p] U)) := bi
  have s1 : (((w4.alloc (Obj.cells #[Value.slice none 0 0] 31)).alloc (.cells #[.slice A n cap] T)).alloc (.cells #[.int .i64 c.c, .int .i64 c.m, .int .i64 c.d, .int .i64 c.p] U)).cell? ⟨w4.heap.size + 1, 0, none⟩ = some (.slice A n cap) := by simp [go_sem]
  have s2 : (((w4.alloc (Obj.cells #[Value.slice none 0 0] 31)).alloc (.cells #[.slice A n cap] T)).alloc (.cells #[.int .i64 c.c, .int .i64 c.m, .int .i64 c.d, .int .i64 c.p] U)).cell? ⟨w4.heap.size + 1 + 1, 0, none⟩ = some (.int .i64 c.c) := by simp [go_sem]
  have s3 : (((w4.alloc (Obj.cells #[Value.slice none 0 0] 31)).alloc (.cells #[.slice A n cap] T)).alloc (.cells #[.int .i64 c.c, .int .i64 c.m, .int .i64 c.d, .int .i64 c.p] U)).cell? ⟨w4.heap.size + 1 + 1, 1, none⟩ = some (.int .i64 c.m) := by simp [go_sem]
  have s4 : (((w4.alloc (Obj.cells #[Value.slice none 0 0] 31)).alloc (.cells #[.slice A n cap] T)).alloc (.cells #[.int .i64 c.c, .int .i64 c.m, .int .i64 c.d, .int .i64 c.p] U)).cell? ⟨w4.heap.size + 1 + 1, 2, none⟩ = some (.int .i64 c.d) := by simp [go_sem]
  have s5 : (((w4.alloc (Obj.cells #[Value.slice none 0 0] 31)).alloc (.cells #[.slice A n cap] T)).alloc (.cells #[.int .i64 c.c, .int .i64 c.m, .int .i64 c.d, .int .i64 c.p] U)).cell? ⟨w4.heap.size + 1 + 1, 3, none⟩ = some (.int .i64 c.p) := by simp [go_sem]
  obtain ⟨W5, hW5⟩ : ∃ W, (((w4.alloc (Obj.cells #[Value.slice none 0 0] 31)).alloc (.cells #[.slice A n cap] T)).alloc (.cells #[.int .i64 c.c, .int .i64 c.m, .int .i64 c.d, .int .i64 c.p] U)) = W := ⟨_, rfl⟩
  have z5 : W5.heap.size = w4.heap.size + 1 + 1 + 1 := by rw [← hW5]; simp
  rw [hW5] at bO B5 s1 s2 s3 s4 s5 ⊢
  clear hW5 hb1 hb2 hb3 hb4 sS1 sS2 sS3 HE1 HE2 HE3 HK
  obtain ⟨b, off, hA, hbl, hHs⟩ := H.out.place (by omega)
  have hlen := H.out.len
  rw [← hlen] at s1
  have hreach : hs.length * 16 ≤ 140737488351232 := by have := HN2.out; omega
  obtain ⟨i0, hi, hz0, hz1, hz2⟩ := info_parts Tryz.info_int
  refine wpIn_rangeFunc_ownG rfl (by decide) (gf := 110) (lb := #[.pointer (some ⟨w4.heap.size + 1, 0, none⟩), .pointer (some ⟨w4.heap.size + 1 + 1, 0, none⟩)]) rfl trivial (enters_of Tryz.func110 (by kernel_rfl) rfl)
    (suitable_stops 4 (by decide) (w4.heap.size + 1) (w4.heap.size + 1 + 1) w4.heap.size b off cap A hs c hA hreach (by omega) hbl (by omega) (by omega) s1 ⟨⟨s2, s3⟩, s4, s5⟩ (hHs.on B5 hbl)) kpb_t (kpb_b (by omega) (by omega)) (Below.refl _ _) (fun _ => rfl)
    (fun pre W => ((∃ v, Boxed W w4.heap.size 31 v ∧ W.ownsRow W5.heap.size 3 1 v pre.length (pre.map encN) ∧ (v = .slice none 0 0 ↔ pre = [])) ∧ Below w4.heap.size w4 W) ∧ W5.heap.size ≤ W.heap.size)
    (fun _ _ _ => False)
    (OwnFrom.and (OwnFrom.and (Own.from (holdsRow_own W5.heap.size w4.heap.size 31 3 1 (fun pre => pre.length) (fun pre => pre.map encN) (fun pre v => v = .slice none 0 0 ↔ pre = [])) _) (ownFrom_below (Nat.le_refl _) (by omega))) (own_size _ _))
    (fun _ _ _ _ _ hs _ _ => hs)
    ⟨⟨⟨_, bO, World.ownsRow_nil _ _ _ _, by simp⟩, B5⟩, Nat.le_refl _⟩
    (fun x => { tmps := #[.slice A n cap, clv c, .int .i64 need, .pointer (some ⟨w.heap.size, 0, none⟩), .pointer (some ⟨w.heap.size + 1, 0, none⟩), undef, .slice none 0 0, .int .i64 0, .int .i64 0, .pointer (some ⟨w4.heap.size, 0, none⟩), encN x, undef, .slice A n cap, .int .i64 e1, clv c, .int .i64 e2, .int .i64 need, .bool g, .int .i64 e3, .slice (some ⟨w3.heap.size, 0, none⟩) 3 3, .int .i64 0, .int .i64 0, .bool false, undef, .slice A n cap, clv c, .func (.func 110) #[] #[.pointer (some ⟨w4.heap.size + 1, 0, none⟩), .pointer (some ⟨w4.heap.size + 1 + 1, 0, none⟩)], encN x, undef, undef, undef, undef, undef, undef, undef, undef, undef, undef, undef, undef, undef, undef, undef, undef, undef, undef, undef], defers := [] }) ?assign ?body ?done ?stop
  case assign =>
    intro l x W K hK
    gi_wp2
    exact hK
  case stop =>
    rintro D c pre W _ _ h _
    exact h.elim
  case body =>
    rintro l pre x W ⟨⟨⟨v, hv, hrow, hnil⟩, hB⟩, hSz⟩ hlt
    have hc := hv.cell
    have hp : pre.length + 1 ≤ 1000 := by have := HN2.out; omega
    gi_wp2_with (gi_at_builtin; refine wpListIn_append_own _ rfl _ _ 31 rfl W5.heap.size 3 i0 (.int .i64 0) 1 8 Tryz.underlying31 hi hz0 hz1 hz2 rfl (by decide) _ _ _ rfl (hrow.alloc _) ⟨W.heap.size, 0, none⟩ 1 1 [encN x] rfl rfl (cell_one_new _ _ _) (by simp [Value.oneCell']) (by unfold maxLen; omega) (by omega) (by simp; omega) ?_; intro v' w1 hown' hgrow _; obtain ⟨g', cap', rfl⟩ := ownsRow_succ hown'; obtain ⟨hv1, hv2, hr2, hk2, hb2⟩ := hv.appended (by decide) (own_le hrow (by omega)) (by omega) (Nat.le_refl _) (own_le hown' (by omega)) hgrow; have hc1 := hv1.cell; have hf1 := hv1.frozen)
    have hbc : (w1.setCell ⟨w4.heap.size, 0, none⟩ (.slice (some ⟨g', 0, none⟩) (pre.length + 1) cap')).heap[w4.heap.size + 1 + 1]? = W.heap[w4.heap.size + 1 + 1]? := by
      rw [Below.heap_setCell _ _ _ _ (by dsimp only; omega), hgrow.block _ (by simp; omega) (fun e => by have := (hrow.lt _ e.symm).1; omega)]
      exact Below.heap_alloc _ _ _ (by omega)
    exact ⟨hk2.from _, ⟨hb2, hbc⟩, ⟨⟨_, hv2, by rw [List.length_append, List.map_append]; exact hown'.kept (grownBy_setCell' _ _ _) (.inr (hv1.not_row (by decide) hown').symm), by simp⟩, hB.trans hb2⟩, Nat.le_trans hSz (Nat.le_trans (by simp) (Nat.le_trans hgrow.size (by simp)))⟩
  case done =>
    rintro D ys W hD hys ⟨⟨⟨v, hv, hrow, hnil⟩, hB⟩, hSz⟩ hK
    have hc := hv.cell
    subst hys
    have hf := HF.out
    subst hf
    obtain ⟨N, hN⟩ : ∃ N, (upSuit hs c hs.length).length = N := ⟨_, rfl⟩
    have hall : ∀ x ∈ upSuit hs c hs.length, x < (hs.length - 1) + 1 := fun x hx => by have := upSuit_lt hx; omega
    rw [hN] at hrow h0 h20 hkl
    obtain ⟨g, cv, rfl⟩ : ∃ g cv, v = .slice (some ⟨g, 0, none⟩) N cv := by
      rcases hrow.2 with ⟨_, e⟩ | ⟨g, cap, _, hv, _⟩
      · omega
      · exact ⟨g, cap, hv⟩
    have hgl := hrow.lt g rfl
    have hgne : ∀ k, w4.heap.size ≤ k → k < W5.heap.size → g ≠ k := fun k _ _ => by omega
    have q1 : decide ((N : Int) < (k : Int)) = false := by simp; omega
    have q2 : decide (N < k) = false := by simp; omega
    have hpos : 0 < hs.length := by
      rcases Nat.eq_zero_or_pos hs.length with e | e
      · rw [e] at hN; simp [upSuit] at hN; omega
      · exact e
    have hAA := hA hpos
    subst hAA
    have HBY : Hid (ByW (W.alloc (.cells #[.func (.func 64) #[] #[.pointer (some ⟨w.heap.size, 0, none⟩)]] 100)) g W.heap.size w.heap.size b off cap (hs.length - 1) hs) := qh (by
      have c3 : W.cell? ⟨w.heap.size, 0, none⟩ = some (.slice (some ⟨b, off, none⟩) hs.length cap) := (hB.cell (p := ⟨w.heap.size, 0, none⟩) y0).trans (by rw [hlen]; exact u1)
      have bA : Below W.heap.size W (W.alloc (.cells #[.func (.func 64) #[] #[.pointer (some ⟨w.heap.size, 0, none⟩)]] 100)) := below_alloc (Below.refl _ _) _
      exact ⟨by simp [go_sem], (bA.cell (p := ⟨w.heap.size, 0, none⟩) (by dsimp only; omega)).trans c3, (hHs.on hB hbl).on bA (by omega), by omega, by omega, by omega, by simp; omega, by simp, by simp; omega, by simp; omega, by omega⟩)
    have hrow1 := hrow.alloc (.cells #[.func (.func 64) #[] #[.pointer (some ⟨w.heap.size, 0, none⟩)]] 100)
    have HR1 := qh hrow1
    have HDK := qh hK
    have HBX := qh hv
    have HH := qh (And.intro hall (And.intro h20 (And.intro hkl hk0)))
    have hkN : k ≤ N := hkl
    have hNc : N ≤ cv := by
      rcases hrow.2 with ⟨e, _⟩ | ⟨g', cap, cur, e, _, _, h1, _⟩
      · cases e
      · cases e; exact h1
    have gne : g ≠ w4.heap.size := hgne _ (Nat.le_refl _) (by omega)
    clear hA hHs s1 s2 s3 s4 s5 u1 u2 u3 u4 u5 hrow1 hrow hK hv bO B5 hnil hlen hall h20 hkl hk0
    gi_wp2_with (first | (refine ⟨trivial, ?_⟩; gi_at_call 48; refine (callsIn_wide.2 (by_own (ltOf_swo hs (hs.length - 1 + 1)) (fun T n => cmpReads (HBY.out.boxed (T := T)) n) HR1.out HH.out.1 HH.out.2.1)).mono ?_; rintro e6 w6 ⟨rfl, hr6, hg6⟩; have c6 := ((HBX.out.alloc _).kept hg6 (fun e => gne (Option.some.inj e).symm)).cell) | (refine ⟨trivial, ?_⟩; gi_at_call 66; refine (callsIn_wide.2 (clone_own hr6 hkN (by have := HH.out.2.1; omega))).mono ?_; rintro e7 w7 ⟨v7, rfl, hr7, hne7, hb7⟩; have _ := bm hb7; obtain ⟨g7, c7, rfl⟩ := own_pos hr7 HH.out.2.2.2) | (refine ⟨trivial, ?_⟩; gi_at_call 67; refine (callsIn_wide.2 (sort_own hr7 (by have := HH.out.2.1; omega))).mono ?_; rintro e8 w8 ⟨rfl, hr8, hg8⟩))
    have hg7 := (hr7.lt g7 rfl).1
    have sA : (W.alloc (.cells #[.func (.func 64) #[] #[.pointer (some ⟨w.heap.size, 0, none⟩)]] 100)).heap.size = W.heap.size + 1 := by simp
    have s6 := hg6.size
    rw [sA] at s6
    have hDl : D < W.heap.size := (Array.getElem?_eq_some_iff.1 HDK.out).1
    have k1 : (W.alloc (.cells #[.func (.func 64) #[] #[.pointer (some ⟨w.heap.size, 0, none⟩)]] 100)).heap[D]? = some (.deferred (some [])) := (Below.heap_alloc _ _ _ hDl).trans HDK.out
    have hDg : g ≠ D := fun e => by
      rcases HR1.out.2 with ⟨e1, _⟩ | ⟨g', cap, cur, e1, _, h1, _⟩
      · cases e1
      · cases e1
        rw [e, k1] at h1
        cases h1
    have k2 : w6.heap[D]? = some (.deferred (some [])) := (hg6.block D (by omega) (fun e => hDg (Option.some.inj e).symm)).trans k1
    have k3 : w7.heap[D]? = some (.deferred (some [])) := (hb7.block D (by omega)).trans k2
    have k4 : w8.heap[D]? = some (.deferred (some [])) := (hg8.block D (by have := hb7.size; omega) (fun e => by have := Option.some.inj e; omega)).trans k3
    have b1 : Below w.heap.size w W := bV.trans (hB.mono (by omega))
    have b2 : Below w.heap.size w w6 := (below_alloc b1 (.cells #[.func (.func 64) #[] #[.pointer (some ⟨w.heap.size, 0, none⟩)]] 100)).grown hg6 (by omega) (fun k e => by have := Option.some.inj e; omega)
    have b3 : Below w.heap.size w w7 := b2.trans (hb7.mono (by omega))
    have b4 : Below w.heap.size w w8 := b3.grown hg8 (by have := hb7.size; omega) (fun k e => by have := Option.some.inj e; omega)
    refine ⟨by simp, .inl ⟨_, _, rfl, run_takeDeferred k4, ?_⟩⟩
    exact ⟨.tuple #[.slice (some ⟨g7, 0, none⟩) k c7, .int .i64 0], by simp [results, Tryz.results22, go_sem], ⟨_, rfl, ownsRow_putObj (own_le hr8 (by omega)) _ k4 rfl⟩, b4.trans (belowK_b (w := w) (Nat.le_refl _) w8 D _ _ (by omega) k4 rfl rfl)⟩
end
end Go.Proofs.YtnbnoacadhoimaaGreatDoor
