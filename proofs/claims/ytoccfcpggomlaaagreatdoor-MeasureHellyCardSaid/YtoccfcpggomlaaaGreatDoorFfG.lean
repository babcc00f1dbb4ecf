/- The contracts of the difference, the quotient and the floor of fractions, and of their being the same. -/
import Derived.Test.YtoccfcpggomlaaaGreatDoorFe
import Derived.Test.YtoccfcpggomlaaaGreatDoorShelg
import Derived.Test.YtoccfcpggomlaaaGreatDoorStabG
import Derived.Lib.SmallJoins
import Derived.Lib.AppendIntMem
import Derived.Lib.AtoiErrMem
import Derived.Shelf.Strings.SlTrimAscii
set_option linter.unusedSimpArgs false
set_option linter.unusedVariables false
set_option maxRecDepth 100000
set_option maxHeartbeats 8000000
namespace Go.Proofs.YtoccfcpggomlaaaGreatDoor
open Go Go.RowKit

theorem fadd_fact {w : World} {s t u v : Int} {A B C D : Option Addr} {n c m d i k j l : Nat} {x y z : Rat} (p q : Nat) (hz : x + y = z) (h : RepF w s A n c t B m d x) (h' : RepF w u C i k v D j l y) (hs : Sz p x) (hs' : Sz q y) (hpq : p + q + 1 < 100000) :
  Calls Tryz.prog 63 #[fv s A n c t B m d, fv u C i k v D j l] w (FracPost z w) := hz ▸ fadd_num h h' hs hs' hpq
theorem fmul_fact {w : World} {s t u v : Int} {A B C D : Option Addr} {n c m d i k j l : Nat} {x y z : Rat} (p q : Nat) (hz : x * y = z) (h : RepF w s A n c t B m d x) (h' : RepF w u C i k v D j l y) (hs : Sz p x) (hs' : Sz q y) (hpq : p + q < 100000) :
  Calls Tryz.prog 59 #[fv s A n c t B m d, fv u C i k v D j l] w (FracPost z w) := hz ▸ fmul_num h h' hs hs' hpq
theorem fneg_fact {w : World} {s t : Int} {A B : Option Addr} {n c m d : Nat} {x z : Rat} (hz : -x = z) (h : RepF w s A n c t B m d x) : Calls Tryz.prog 50 #[fv s A n c t B m d] w (FracPost z w) := hz ▸ fneg_num h
theorem finv_fact {w : World} {s t : Int} {A B : Option Addr} {n c m d : Nat} {x z : Rat} (p : Nat) (hz : x⁻¹ = z) (h : RepF w s A n c t B m d x) (hs : Sz p x) (hp : p < 100000) (hx : x ≠ 0) : Calls Tryz.prog 110 #[fv s A n c t B m d] w (FracPost z w) := hz ▸ finv_num h hs hp hx
theorem fcmp_fact {w : World} {s t u v : Int} {A B C D : Option Addr} {n c m d i k j l : Nat} {x y : Rat} {z : Int} (p q : Nat) (hz : Rq.cmpQ x y = z) (h : RepF w s A n c t B m d x) (h' : RepF w u C i k v D j l y) (hs : Sz p x) (hs' : Sz q y) (hpq : p + q < 100000) :
  Calls Tryz.prog 36 #[fv s A n c t B m d, fv u C i k v D j l] w fun e w' => e = .returned (.int .i64 z) ∧ Below w.heap.size w w' := hz ▸ fcmp_num h h' hs hs' hpq
theorem divmod_fact' {s t a b q r : Int} {A B : Option Addr} {n c m d : Nat} {w : World} (hq : a / b = q) (hr : a % b = r) (h : Rep w s A n c a) (h' : Rep w t B m d b) (hl : Lim a) (hl' : Lim b) (hp : 0 < b) :
  Calls Tryz.prog 102 #[iv s A n c, iv t B m d] w (TwoPost q r w) := hr ▸ divmod_fact hq h h' hl hl' hp
section
variable {s t u v : Int} {A B C D : Option Addr} {n c m d i k j l : Nat} {w : World} {x y : Rat} {p q : Nat}
theorem fsub_num (h : RepF w s A n c t B m d x) (h' : RepF w u C i k v D j l y) (hs : Sz p x) (hs' : Sz q y) (hpq : p + q + 1 < 100000) :
  Calls Tryz.prog 101 #[fv s A n c t B m d, fv u C i k v D j l] w (FracPost (x - y) w) := by
 have HA := qh h
 have HB := qh h'
 have HS := qh (And.intro hs hs'.neg)
 have HE := qh (Rq.sub_eq x y).symm
 have HPQ := qh hpq
 obtain ⟨z, hz⟩ : ∃ z, x - y = z := ⟨_, rfl⟩
 obtain ⟨y', hy⟩ : ∃ z, -y = z := ⟨_, rfl⟩
 have HY := qh hy
 rw [hz] at HE ⊢
 rw [hy] at HE HS
 clear h h' hs hs' hpq hz hy
 go_enter Tryz.func101, Tryz.ntmps101
 go_wp2
 refine wp_region_T (fun w' => Below (((w.alloc (.cells #[.int .i64 s, .slice A n c, .int .i64 t, .slice B m d] 77)).alloc (.cells #[.int .i64 u, .slice C i k, .int .i64 v, .slice D j l] 77)).alloc (.cells #[.int .i64 0, .slice none 0 0, .int .i64 0, .slice none 0 0] 77)).heap.size (((w.alloc (.cells #[.int .i64 s, .slice A n c, .int .i64 t, .slice B m d] 77)).alloc (.cells #[.int .i64 u, .slice C i k, .int .i64 v, .slice D j l] 77)).alloc (.cells #[.int .i64 0, .slice none 0 0, .int .i64 0, .slice none 0 0] 77)) w') [4] (by kernel_rfl) ?_
 refine tb 0 (.agg #[.int .i64 s, .slice A n c, .int .i64 t, .slice B m d]) [3] rfl (by kernel_rfl) (fun _ _ _ h => h) (by rfl) (by intros; go_simp) bq0 ?_
 simp only [ppq]
 refine tb 1 (.agg #[.int .i64 u, .slice C i k, .int .i64 v, .slice D j l]) [2] rfl (by kernel_rfl) (fun _ _ _ h => h) (by rfl) (by intros; go_simp) bq0 ?_
 simp only [ppq]
 refine rd1 2 (by kernel_rfl) rfl (fun K hK => ?_)
 go_simp
 go_wp2_with (go_at_call 50; ((with_reducible refine (fneg_fact HY.out (HB.out.below (bq (by with_reducible repeat' first | assumption | constructor | go_size)))).mono ?_); rintro e1 w1 ⟨s1, A1, n1, c1, t1, B1, m1, d1, rfl, ⟨hr1, hq1⟩, hb1⟩); obtain ⟨hc1, hf1⟩ := bcell hb1; (try simp only [dw] at hc1 hf1); have hz1_0 : w.heap.size < w1.heap.size := szl hb1 (by go_size); have hz1_1 : w.heap.size + 1 < w1.heap.size := szl hb1 (by go_size); have hz1_2 : w.heap.size + 1 + 1 < w1.heap.size := szl hb1 (by go_size))
 have sS1 := qh (bst bq0 hb1)
 refine hK.out _ _ (fun _ => sS1.out) ?_
 clear hK K
 refine rd1 3 (by kernel_rfl) rfl (fun K hK => ?_)
 go_simp
 go_wp2_with (go_at_call 63; ((with_reducible refine (fadd_fact p q HE.out (HA.out.below (bq (by with_reducible repeat' first | assumption | constructor | go_size))) ⟨hr1, hq1⟩ HS.out.1 HS.out.2 HPQ.out).mono ?_); rintro e2 w2 ⟨s2, A2, n2, c2, t2, B2, m2, d2, rfl, ⟨hr2, hq2⟩, hb2⟩); obtain ⟨hc2, hf2⟩ := bcell hb2; (try simp only [dw] at hc2 hf2); have hz2_0 : w.heap.size < w2.heap.size := szl hb2 (by go_size); have hz2_1 : w.heap.size + 1 < w2.heap.size := szl hb2 (by go_size); have hz2_2 : w.heap.size + 1 + 1 < w2.heap.size := szl hb2 (by go_size))
 have sS2 := qh (bst sS1.out hb2)
 refine hK.out _ _ (fun _ => sS2.out) ?_
 clear hK K
 refine rd1 4 (by kernel_rfl) rfl (fun K hK => ?_)
 go_simp
 refine hK.out _ _ (fun h => (h (by decide)).elim) ?_
 clear hK K
 refine wpAnyT_done (by kernel_rfl) ?_ _
 go_wp2
 exact bodyPost_ret (v := .agg #[.int .i64 (s2), .slice (A2) (n2) (c2), .int .i64 (t2), .slice (B2) (m2) (d2)]) (by simp [results, Tryz.results101, go_sem, hc2, hz1_2, hc1, hz2_2]) rfl (frac_ret rfl ⟨(by with_reducible repeat first | assumption | apply rD | apply rN | apply rA | refine rP ?_ rfl (by simp [go_sem, hc2, hz1_2, hc1, hz2_2]) | refine rB ?_ ‹_›), (by with_reducible repeat first | assumption | apply rD | apply rN | apply rA | refine rP ?_ rfl (by simp [go_sem, hc2, hz1_2, hc1, hz2_2]) | refine rB ?_ ‹_›)⟩ (bq (by with_reducible repeat' first | assumption | constructor | go_size)))

theorem fdiv_num (h : RepF w s A n c t B m d x) (h' : RepF w u C i k v D j l y) (hs : Sz p x) (hs' : Sz q y) (hpq : p + q < 100000) (hy0 : y ≠ 0) :
  Calls Tryz.prog 66 #[fv s A n c t B m d, fv u C i k v D j l] w (FracPost (x / y) w) := by
 have HA := qh h
 have HB := qh h'
 have HS := qh (And.intro hs (hs'.inv hy0))
 have HS' := qh hs'
 have HE := qh (Rq.div_eq x y).symm
 have HPQ := qh hpq
 have HQ := qh (show q < 100000 by omega)
 have HN := qh hy0
 obtain ⟨z, hz⟩ : ∃ z, x / y = z := ⟨_, rfl⟩
 obtain ⟨y', hy⟩ : ∃ z, y⁻¹ = z := ⟨_, rfl⟩
 have HY := qh hy
 rw [hz] at HE ⊢
 rw [hy] at HE HS
 clear h h' hs hs' hpq hz hy hy0
 go_enter Tryz.func66, Tryz.ntmps66
 go_wp2
 refine wp_region_T (fun w' => Below (((w.alloc (.cells #[.int .i64 s, .slice A n c, .int .i64 t, .slice B m d] 77)).alloc (.cells #[.int .i64 u, .slice C i k, .int .i64 v, .slice D j l] 77)).alloc (.cells #[.int .i64 0, .slice none 0 0, .int .i64 0, .slice none 0 0] 77)).heap.size (((w.alloc (.cells #[.int .i64 s, .slice A n c, .int .i64 t, .slice B m d] 77)).alloc (.cells #[.int .i64 u, .slice C i k, .int .i64 v, .slice D j l] 77)).alloc (.cells #[.int .i64 0, .slice none 0 0, .int .i64 0, .slice none 0 0] 77)) w') [4] (by kernel_rfl) ?_
 refine tb 0 (.agg #[.int .i64 s, .slice A n c, .int .i64 t, .slice B m d]) [3] rfl (by kernel_rfl) (fun _ _ _ h => h) (by rfl) (by intros; go_simp) bq0 ?_
 simp only [ppq]
 refine tb 1 (.agg #[.int .i64 u, .slice C i k, .int .i64 v, .slice D j l]) [2] rfl (by kernel_rfl) (fun _ _ _ h => h) (by rfl) (by intros; go_simp) bq0 ?_
 simp only [ppq]
 refine rd1 2 (by kernel_rfl) rfl (fun K hK => ?_)
 go_simp
 go_wp2_with (go_at_call 110; ((with_reducible refine (finv_fact q HY.out (HB.out.below (bq (by with_reducible repeat' first | assumption | constructor | go_size))) HS'.out HQ.out HN.out).mono ?_); rintro e1 w1 ⟨s1, A1, n1, c1, t1, B1, m1, d1, rfl, ⟨hr1, hq1⟩, hb1⟩); obtain ⟨hc1, hf1⟩ := bcell hb1; (try simp only [dw] at hc1 hf1); have hz1_0 : w.heap.size < w1.heap.size := szl hb1 (by go_size); have hz1_1 : w.heap.size + 1 < w1.heap.size := szl hb1 (by go_size); have hz1_2 : w.heap.size + 1 + 1 < w1.heap.size := szl hb1 (by go_size))
 have sS1 := qh (bst bq0 hb1)
 refine hK.out _ _ (fun _ => sS1.out) ?_
 clear hK K
 refine rd1 3 (by kernel_rfl) rfl (fun K hK => ?_)
 go_simp
 go_wp2_with (go_at_call 59; ((with_reducible refine (fmul_fact p q HE.out (HA.out.below (bq (by with_reducible repeat' first | assumption | constructor | go_size))) ⟨hr1, hq1⟩ HS.out.1 HS.out.2 HPQ.out).mono ?_); rintro e2 w2 ⟨s2, A2, n2, c2, t2, B2, m2, d2, rfl, ⟨hr2, hq2⟩, hb2⟩); obtain ⟨hc2, hf2⟩ := bcell hb2; (try simp only [dw] at hc2 hf2); have hz2_0 : w.heap.size < w2.heap.size := szl hb2 (by go_size); have hz2_1 : w.heap.size + 1 < w2.heap.size := szl hb2 (by go_size); have hz2_2 : w.heap.size + 1 + 1 < w2.heap.size := szl hb2 (by go_size))
 have sS2 := qh (bst sS1.out hb2)
 refine hK.out _ _ (fun _ => sS2.out) ?_
 clear hK K
 refine rd1 4 (by kernel_rfl) rfl (fun K hK => ?_)
 go_simp
 refine hK.out _ _ (fun h => (h (by decide)).elim) ?_
 clear hK K
 refine wpAnyT_done (by kernel_rfl) ?_ _
 go_wp2
 exact bodyPost_ret (v := .agg #[.int .i64 (s2), .slice (A2) (n2) (c2), .int .i64 (t2), .slice (B2) (m2) (d2)]) (by simp [results, Tryz.results66, go_sem, hc2, hz1_2, hc1, hz2_2]) rfl (frac_ret rfl ⟨(by with_reducible repeat first | assumption | apply rD | apply rN | apply rA | refine rP ?_ rfl (by simp [go_sem, hc2, hz1_2, hc1, hz2_2]) | refine rB ?_ ‹_›), (by with_reducible repeat first | assumption | apply rD | apply rN | apply rA | refine rP ?_ rfl (by simp [go_sem, hc2, hz1_2, hc1, hz2_2]) | refine rB ?_ ‹_›)⟩ (bq (by with_reducible repeat' first | assumption | constructor | go_size)))

theorem fsame_num (h : RepF w s A n c t B m d x) (h' : RepF w u C i k v D j l y) (hs : Sz p x) (hs' : Sz q y) (hpq : p + q < 100000) :
  Calls Tryz.prog 191 #[fv s A n c t B m d, fv u C i k v D j l] w fun e w' => e = .returned (.bool (decide (x = y))) ∧ Below w.heap.size w w' := by
 have e : (Rq.cmpQ x y == 0) = decide (x = y) := by
  rw [Bool.eq_iff_iff, beq_iff_eq, Rq.cmp_zero, decide_eq_true_iff]
 rw [← e]
 have HA := qh h
 have HB := qh h'
 have HS := qh (And.intro hs hs')
 have HPQ := qh hpq
 clear h h' hs hs' hpq e
 go_enter Tryz.func191, Tryz.ntmps191
 go_wp2_with (go_at_call 36; ((with_reducible refine (fcmp_fact p q rfl (HA.out.below (bq (by with_reducible repeat' first | assumption | constructor | go_size))) (HB.out.below (bq (by with_reducible repeat' first | assumption | constructor | go_size))) HS.out.1 HS.out.2 HPQ.out).mono ?_); rintro e1 w1 ⟨rfl, hb1⟩); obtain ⟨hc1, hf1⟩ := bcell hb1; (try simp only [dw] at hc1 hf1); have hz1_0 : w.heap.size < w1.heap.size := szl hb1 (by go_size); have hz1_1 : w.heap.size + 1 < w1.heap.size := szl hb1 (by go_size))
 go_ret
 exact ⟨rfl, (bq (by with_reducible repeat' first | assumption | constructor | go_size))⟩

theorem ffloor_num (h : RepF w s A n c t B m d x) (hs : Sz p x) (hp : p < 100000) : Calls Tryz.prog 100 #[fv s A n c t B m d] w (IntPost x.floor w) := by
 have HA := qh h
 have L1 := qh (hs.limN hp)
 have L2 := qh (hs.limD hp)
 have HP := qh (show (0 : Int) < ((x.den : Nat) : Int) by have := x.den_pos; omega)
 have HE := qh (Rat.floor_def x).symm
 obtain ⟨z, hz⟩ : ∃ z, x.floor = z := ⟨_, rfl⟩
 rw [hz] at HE ⊢
 clear h hs hp hz
 go_enter Tryz.func100, Tryz.ntmps100
 go_wp2_with (go_at_call 102; ((with_reducible refine (divmod_fact' HE.out rfl (HA.out.num.below (bq (by with_reducible repeat' first | assumption | constructor | go_size))) (HA.out.den.below (bq (by with_reducible repeat' first | assumption | constructor | go_size))) L1.out L2.out HP.out).mono ?_); rintro e1 w1 ⟨s1, A1, n1, c1, t1, B1, m1, d1, rfl, hr1, hq1, hb1⟩); obtain ⟨hc1, hf1⟩ := bcell hb1; (try simp only [dw] at hc1 hf1); have hz1_0 : w.heap.size < w1.heap.size := szl hb1 (by go_size); have hz1_1 : w.heap.size + 1 < w1.heap.size := szl hb1 (by go_size))
 exact bodyPost_ret (v := .agg #[.int .i64 (s1), .slice (A1) (n1) (c1)]) (by simp [results, Tryz.results100, go_sem, hc1, hz1_0, hz1_1, Nat.ne_of_lt hz1_0, Nat.ne_of_lt hz1_1]) rfl (int_ret rfl ((by with_reducible repeat first | assumption | apply rD | apply rN | apply rA | refine rP ?_ rfl (by simp [go_sem, hc1, hz1_0, hz1_1, Nat.ne_of_lt hz1_0, Nat.ne_of_lt hz1_1]) | refine rB ?_ ‹_›)) (bq (by with_reducible repeat' first | assumption | constructor | go_size)))
end

/-- A text as a value. -/
abbrev bs (l : List UInt8) : Value := .string ⟨l.toArray⟩
/-- What the library's variables hold in every world of a law. -/
structure Env (w : World) : Prop where
 tab : Lib.TabBelow Tryz.prog w.heap.size w "internal/strconv.uint64pow10" .u64 Lib.pow10Tab
 max : ∃ m : Int, w.cell? ⟨0, 0, none⟩ = some (.int .i64 m)
 pos : 0 < w.heap.size
theorem Env.below {w w' : World} (h : Env w) (hb : Below w.heap.size w w') : Env w' :=
 ⟨fun w2 h2 => h.tab w2 (hb.trans (h2.mono hb.size)), by
   obtain ⟨m, hm⟩ := h.max
   exact ⟨m, by rw [hb.cell (p := ⟨0, 0, none⟩) h.pos]; exact hm⟩, Nat.lt_of_lt_of_le h.pos hb.size⟩

section
variable {w : World} {l p : List UInt8}
theorem hasPrefix_any : Calls Tryz.prog 139 #[bs l, bs p] w fun e w' => e = .returned (.bool (Lib.hasPrefix l p)) ∧ Below w.heap.size w w' :=
 (Tryz.strings_HasPrefix ⟨l.toArray⟩ ⟨p.toArray⟩ w).mono fun e w' ⟨he, hw⟩ => ⟨by simpa using he, hw ▸ Below.refl _ _⟩
theorem trimPrefix_any : Calls Tryz.prog 41 #[bs l, bs p] w fun e w' => e = .returned (bs (Lib.trimPrefix l p)) ∧ Below w.heap.size w w' :=
 (Tryz.strings_TrimPrefix ⟨l.toArray⟩ ⟨p.toArray⟩ w).mono fun e w' ⟨he, hw⟩ => ⟨by simpa using he, hw ▸ Below.refl _ _⟩
theorem hasPrefix_fact {g : Bool} (hg : Lib.hasPrefix l p = g) : Calls Tryz.prog 139 #[bs l, bs p] w fun e w' => e = .returned (.bool g) ∧ Below w.heap.size w w' := hg ▸ hasPrefix_any
theorem trimPrefix_fact {m : List UInt8} (hm : Lib.trimPrefix l p = m) : Calls Tryz.prog 41 #[bs l, bs p] w fun e w' => e = .returned (bs m) ∧ Below w.heap.size w w' := hm ▸ trimPrefix_any
theorem cut_any (hE : Env w) (hl : l.length < 4294967281) : Calls Tryz.prog 42 #[bs l, bs p] w fun e w' => e = .returned (.tuple #[bs (Lib.cut l p).1, bs (Lib.cut l p).2.1, .bool (Lib.cut l p).2.2]) ∧ Below w.heap.size w w' := by
 obtain ⟨m, hm⟩ := hE.max
 exact (Tryz.strings_Cut ⟨l.toArray⟩ ⟨p.toArray⟩ m w (by simpa [ByteArray.size] using hl) hm).mono fun e w' ⟨he, n, hw⟩ => ⟨by simpa using he, hw ▸ below_drewN (Below.refl _ _) n⟩
theorem atoi_any {n : Int} (hl : l.length ≤ 18) (h : Lib.atoi l = some n) : Calls Tryz.prog 140 #[bs l] w fun e w' => e = .returned (.tuple #[.int .i64 n, .nilIface]) ∧ Below w.heap.size w w' :=
 (Tryz.strconv_Atoi ⟨l.toArray⟩ n (by simpa [ByteArray.size] using hl) (by simpa using h) w).mono fun e w' ⟨he, t, hw⟩ => ⟨he, hw ▸ Lib.bytesWorld_below w _ t⟩
theorem itoa_any {z : Int} (hE : Env w) (h : R64 z) : Calls Tryz.prog 158 #[.int .i64 z] w fun e w' => e = .returned (bs (Lib.itoa z)) ∧ Below w.heap.size w w' :=
 (Tryz.strconv_Itoa z h.1 (by have := h.2; omega) w hE.tab.here).mono fun e w' ⟨he, k, os, hw⟩ => ⟨he, hw ▸ Lib.below_grow _ w (Nat.le_refl _) k os⟩
end

/-- All signs are decimal digits. -/
def Digs (l : List UInt8) : Prop := ∀ c ∈ l, Dig.isDig c = true
theorem Digs.take {l : List UInt8} (h : Digs l) (k : Nat) : Digs (l.take k) := fun c hc => h c (List.mem_of_mem_take hc)
theorem Digs.drop {l : List UInt8} (h : Digs l) (k : Nat) : Digs (l.drop k) := fun c hc => h c (List.mem_of_mem_drop hc)
theorem not_dash {l : List UInt8} (h : Digs l) : Lib.hasPrefix l [45] = false := by
 cases l with
 | nil => rfl
 | cons c r =>
   have := h c (List.mem_cons_self ..)
   have h1 : c ≠ 45 := by intro e; subst e; revert this; decide
   simp [Lib.hasPrefix, List.isPrefixOf]; exact fun e => h1 e.symm
theorem atoi_digs {l : List UInt8} (h : Digs l) (hn : l ≠ []) : Lib.atoi l = some ((Dig.val l : Nat) : Int) := by
 cases l with
 | nil => exact absurd rfl hn
 | cons c r =>
   have hc := h c (List.mem_cons_self ..)
   have h1 : (c == 45) = false := by
    rw [beq_eq_false_iff_ne]; intro e; subst e; revert hc; decide
   have h2 : (c == 43) = false := by
    rw [beq_eq_false_iff_ne]; intro e; subst e; revert hc; decide
   simp only [Lib.atoi, h1, h2]
   have : Lib.decNat (c :: r) = some (Dig.val (c :: r)) := Dig.decFrom_val (c :: r) 0 h
   simp [this]
theorem extract_take (r : List UInt8) (k : Nat) : (⟨r.toArray⟩ : ByteArray).extract 0 k = ⟨(r.take k).toArray⟩ := by
 apply ByteArray.ext
 simp [ByteArray.data_extract]
theorem of_ten (w : World) : Calls Tryz.prog 47 #[.int .i64 10] w (IntPost ((10 : Nat) : Int) w) := of_num 10 w (by constructor <;> decide)
theorem add_nat {s t : Int} {x y z : Nat} {A B : Option Addr} {n c m d : Nat} {w : World} (hz : x + y = z) (h : Rep w s A n c (x : Nat)) (h' : Rep w t B m d (y : Nat)) (hl : Lim (x : Nat)) (hl' : Lim (y : Nat)) :
  Calls Tryz.prog 103 #[iv s A n c, iv t B m d] w (IntPost (z : Nat) w) := by
 subst hz
 rw [Int.natCast_add]
 exact add_num h h' hl hl'
theorem lim_dec {x n : Nat} (h : x ≤ 10 ^ n) (hn : n < 100000) : Lim ((x : Nat) : Int) :=
 lim_of (m := n) (by simp only [Int.natAbs_natCast]; exact Nat.le_trans h (Nat.pow_le_pow_left (by rw [B64_eq]; omega) n)) hn
theorem extract_drop (r : List UInt8) (k : Nat) : (⟨r.toArray⟩ : ByteArray).extract k r.length = ⟨(r.drop k).toArray⟩ := by
 apply ByteArray.ext
 simp [ByteArray.data_extract, List.take_of_length_le]

/-- The text of a value. -/
def txt : Value → List UInt8
 | .string b => b.data.toList
 | _ => []
@[simp] theorem txt_bs (l : List UInt8) : txt (bs l) = l := by simp [txt]
theorem trim_dash {l : List UInt8} (h : Digs l) : Lib.trimPrefix l [45] = l := by simp [Lib.trimPrefix, not_dash h]
/-- The rounds of reading: x is read, it lies in the variable in block b. -/
structure RI (w wr : World) (b4 : Nat) (x : Nat) (s : Int) (A : Option Addr) (n c : Nat) : Prop where
 rep : Rep wr s A n c (x : Nat)
 c0 : wr.cell? ⟨b4, 0, none⟩ = some (.int .i64 s)
 c1 : wr.cell? ⟨b4, 1, none⟩ = some (.slice A n c)
 c2 : wr.cell? ⟨w.heap.size, 0, none⟩ = some (.int .i64 0)
 c3 : wr.cell? ⟨w.heap.size, 1, none⟩ = some (.slice none 0 0)
 f0 : ∀ o, wr.frozen? ⟨b4, o, none⟩ = false
 f1 : ∀ o, wr.frozen? ⟨w.heap.size, o, none⟩ = false
 bel : Below w.heap.size w wr
 sz : w.heap.size < b4 ∧ b4 < wr.heap.size

section
variable {w : World} {l : List UInt8} {g : Bool}
theorem read_text {L : List UInt8} (hg : Lib.hasPrefix L [45] = g) (ht : Lib.trimPrefix L [45] = l) (h : Digs l) (hl : l.length ≤ 5000) : Calls Tryz.prog 91 #[bs L] w (IntPost (sg g (Dig.val l)) w) := by
 have HP := qh hg
 have HT := qh ht
 have HD := qh h
 have HL := qh hl
 obtain ⟨N, hN⟩ : ∃ N, Dig.val l = N := ⟨_, rfl⟩
 rw [hN]
 have HN := qh hN
 clear hg ht h hl hN
 go_enter Tryz.func91, Tryz.ntmps91
 go_wp2_with (first
  | (go_at_call 139; ((with_reducible refine (hasPrefix_fact HP.out).mono ?_); rintro e1 w1 ⟨rfl, hb1⟩); obtain ⟨hc1, hf1⟩ := bcell hb1; (try simp only [dw] at hc1 hf1); have hz1_0 : w.heap.size < w1.heap.size := szl hb1 (by go_size))
  | (go_at_call 41; ((with_reducible refine (trimPrefix_fact HT.out).mono ?_); rintro e2 w2 ⟨rfl, hb2⟩); obtain ⟨hc2, hf2⟩ := bcell hb2; (try simp only [dw] at hc2 hf2); have hz2_0 : w.heap.size < w2.heap.size := szl hb2 (by go_size)))
 go_loopw [0] (fun v wr => ∃ (pre r : List UInt8) (s : Int) (A : Option Addr) (n c : Nat), v = bs r ∧ l = pre ++ r ∧ RI w wr w2.heap.size (Dig.val pre) s A n c) (fun v _ => (txt v).length)
 case atStart =>
  refine ⟨[], l, 0, none, 0, 0, rfl, rfl, ?_⟩
  exact { rep := .small _ (by decide) (by decide), c0 := by simp [go_sem], c1 := by simp [go_sem], c2 := by simp [go_sem, hc2, hz1_0, hc1, hz2_0, Nat.ne_of_lt hz2_0], c3 := by simp [go_sem, hc2, hz1_0, hc1, hz2_0, Nat.ne_of_lt hz2_0], f0 := by intro o; simp [go_sem], f1 := by intro o; simp [go_sem, hf2, hz1_0, hf1, hz2_0, Nat.ne_of_lt hz2_0], bel := (bq (by with_reducible repeat' first | assumption | constructor | go_size)), sz := ⟨hz2_0, by simp⟩ }
 case round =>
  obtain ⟨b4, hb4⟩ : ∃ b, w2.heap.size = b := ⟨_, rfl⟩
  rw [hb4] at hrel ⊢
  clear hb1 hc1 hf1 hb2 hc2 hf2
  rw [hb4] at hz2_0
  clear hb4
  obtain ⟨pre, r, so, Ao, no, co, rfl, hpr, hI⟩ := hrel
  have f0 := hI.c0
  have f1 := hI.c1
  have f2 := hI.c2
  have f3 := hI.c3
  have g0 := hI.f0
  have g1 := hI.f1
  have hbr := hI.bel
  have hzr := hI.sz.2
  have hzr0 : w.heap.size < wr.heap.size := by omega
  have hn0 : w.heap.size ≠ b4 := by omega
  have e1 := hI.rep
  have HI := qh hI
  have HPR := qh hpr
  clear hI hpr
  by_cases hr : r = []
  ·subst hr
   have e2 : Rep wr so Ao no co (N : Nat) := e1.to (by rw [← HN.out, HPR.out, List.append_nil])
   clear e1
   cases g
   ·have e2 : Rep wr so Ao no co (sg false N) := e2
    go_wp2
    exact bodyPost_ret (v := .agg #[.int .i64 (so), .slice (Ao) (no) (co)]) (by simp [results, Tryz.results91, go_sem, f2, f3, g1]) rfl (int_ret rfl ((by with_reducible repeat first | assumption | apply rD | apply rN | apply rA | refine rP ?_ rfl (by simp [go_sem, f2, f3]) | refine rB ?_ ‹_›)) (bq (by with_reducible repeat' first | assumption | constructor | go_size)))
   ·go_wp2_with (go_at_call 93; ((with_reducible refine (neg_num e2).mono ?_); rintro e5 w5 ⟨s5, A5, n5, c5, rfl, hr5, hb5⟩); obtain ⟨hc5, hf5⟩ := bcell hb5; (try simp only [dw] at hc5 hf5); have hz5_0 : w.heap.size < w5.heap.size := szl hb5 (by go_size))
    have e6 : Rep w5 s5 A5 n5 c5 (sg true N) := hr5
    exact bodyPost_ret (v := .agg #[.int .i64 (s5), .slice (A5) (n5) (c5)]) (by simp [results, Tryz.results91, go_sem, hc5, hzr0, f2, f3]) rfl (int_ret rfl ((by with_reducible repeat first | assumption | apply rD | apply rN | apply rA | refine rP ?_ rfl (by simp [go_sem, hc5, hzr0, f2, f3]) | refine rB ?_ ‹_›)) (bq (by with_reducible repeat' first | assumption | constructor | go_size)))
  ·obtain ⟨k, hk⟩ : ∃ k, min 18 r.length = k := ⟨_, rfl⟩
   have hk1 : min (18 : Int) (r.length : Int) = (k : Int) := by omega
   have hl0 : 0 < r.length := List.length_pos_iff.2 hr
   have q0 : decide (0 < r.length) = true := by simp; exact hl0
   have q2 := extract_take r k
   have q3 := extract_drop r k
   have hkr : k ≤ r.length := by omega
   have hA := atoi_digs (l := r.take k) (fun c hc => HD.out c (by rw [HPR.out]; exact List.mem_append_right _ (List.mem_of_mem_take hc))) (by intro e; have h := congrArg List.length e; rw [List.length_take, List.length_nil] at h; omega)
   obtain ⟨v, hv⟩ : ∃ v, Dig.val (r.take k) = v := ⟨_, rfl⟩
   rw [hv] at hA
   have HA := qh hA
   have HV := qh hv
   have HK := qh hk
   have HLK := qh (show (r.take k).length ≤ 18 by simp; omega)
   clear hA hv hk
   go_wp2_with (go_at_call 140; ((with_reducible refine (atoi_any HLK.out HA.out).mono ?_); rintro e5 w5 ⟨rfl, hb5⟩); obtain ⟨hc5, hf5⟩ := bcell hb5; (try simp only [dw] at hc5 hf5); have hz5_0 : w.heap.size < w5.heap.size := szl hb5 (by go_size))
   have hx5 : b4 < w5.heap.size := (by have := hb5.size; (try simp at this); omega)
   have f0 : w5.cell? ⟨b4, 0, none⟩ = some (.int .i64 so) := by simp [go_sem, hc5, hzr, f0]
   have f1 : w5.cell? ⟨b4, 1, none⟩ = some (.slice Ao no co) := by simp [go_sem, hc5, hzr, f1]
   have f2 : w5.cell? ⟨w.heap.size, 0, none⟩ = some (.int .i64 0) := by simp [go_sem, hc5, hzr0, f2]
   have f3 : w5.cell? ⟨w.heap.size, 1, none⟩ = some (.slice none 0 0) := by simp [go_sem, hc5, hzr0, f3]
   have g0 : ∀ o, w5.frozen? ⟨b4, o, none⟩ = false := by intro o; simp [go_sem, hf5, hzr, g0]
   have g1 : ∀ o, w5.frozen? ⟨w.heap.size, o, none⟩ = false := by intro o; simp [go_sem, hf5, hzr0, g1]
   have e1 : Rep w5 so Ao no co ((Dig.val pre : Nat) : Int) := e1.below hb5
   have hb5 : Below w.heap.size w w5 := below_step hbr hb5
   clear hc5 hf5 hbr
   obtain ⟨p10, hp10⟩ : ∃ x, 10 ^ k = x := ⟨_, rfl⟩
   obtain ⟨y, hy⟩ : ∃ x, Dig.val pre * p10 = x := ⟨_, rfl⟩
   obtain ⟨z, hz⟩ : ∃ x, y + v = x := ⟨_, rfl⟩
   have hlen : pre.length + r.length ≤ 5000 := by have := HL.out; rw [HPR.out, List.length_append] at this; exact this
   have hdp : Dig.val pre < 10 ^ pre.length := Dig.val_lt pre (fun c hc => HD.out c (by rw [HPR.out]; exact List.mem_append_left _ hc))
   have hdv : v < 10 ^ k := by
    rw [← HV.out]
    have := Dig.val_lt (r.take k) (fun c hc => HD.out c (by rw [HPR.out]; exact List.mem_append_right _ (List.mem_of_mem_take hc)))
    rwa [List.length_take, Nat.min_eq_left hkr] at this
   have hyl : y ≤ 10 ^ (pre.length + k) := by rw [← hy, ← hp10, Nat.pow_add]; exact Nat.mul_le_mul_right _ (Nat.le_of_lt hdp)
   have hk18 : k ≤ 18 := by have := HK.out; omega
   have hv18 : v < 1000000000000000000 := Nat.lt_of_lt_of_le hdv (by have := Nat.pow_le_pow_right (show 0 < 10 by omega) hk18; simpa using this)
   have hval : Dig.val (pre ++ r.take k) = z := by rw [Dig.val_append, List.length_take, Nat.min_eq_left hkr, HV.out, hp10, hy, hz]
   have HPW : Hid (Lim ((10 ^ k : Nat) : Int)) := qh (lim_dec (Nat.le_refl _) (by omega))
   have HL1 : Hid (Lim ((Dig.val pre : Nat) : Int)) := qh (lim_dec (Nat.le_of_lt hdp) (by omega))
   have HL2 : Hid (Lim ((y : Nat) : Int)) := qh (lim_dec hyl (by omega))
   have HL3 : Hid (Lim ((v : Nat) : Int)) := qh (lim_dec (Nat.le_of_lt hdv) (by omega))
   have HY := qh hy
   have HZ := qh hz
   have HVAL := qh hval
   have HP10 := qh hp10
   have HRV : Hid (R64 (v : Int)) := qh ⟨by omega, by omega⟩
   have HKK := qh (show k < 9223372036854775808 by omega)
   have HK0 := qh (show 0 < k by have := HK.out; omega)
   clear hy hz hlen hdp hdv hyl hk18 hv18 hval hp10 hk1 q0 q2 q3 hkr hl0 hr
   have h10 : ∀ W, Calls Tryz.prog 47 #[.int .i64 10] W (IntPost ((10 : Nat) : Int) W) := of_ten
   have hpow : ∀ (W : World) (s : Int) (A : Option Addr) (n c : Nat), Rep W s A n c ((10 : Nat) : Int) → Calls Tryz.prog 48 #[iv s A n c, .int .i64 (k : Int)] W (IntPost ((p10 : Nat) : Int) W) := fun W s A n c h => by
    have := pow_num 10 k h (by omega) HKK.out HPW.out
    rwa [HP10.out] at this
   have HPL : Hid (Lim ((p10 : Nat) : Int)) := by have := HPW.out; rw [HP10.out] at this; exact qh this
   have HPOW := qh hpow
   clear hpow h10 HPW
   refine wp_region_T (fun w' => Below w5.heap.size w5 w') [8] (by kernel_rfl) ?_
   refine tb 0 (.agg #[.int .i64 so, .slice Ao no co]) [4] rfl (by kernel_rfl) (fun _ _ _ h => h) (by rfl) (by intros; go_simp) bq0 ?_
   simp only [ppq]
   refine tb 2 (.int .i64 (k : Int)) [3] rfl (by kernel_rfl) (fun _ _ _ h => h) (by rfl) (by intros; go_simp) bq0 ?_
   simp only [ppq]
   refine tb 5 (.int .i64 (v : Int)) [6] rfl (by kernel_rfl) (fun _ _ _ h => h) (by rfl) (by intros; go_simp) bq0 ?_
   simp only [ppq]
   refine rd1 1 (by kernel_rfl) rfl (fun K hK => ?_)
   go_simp
   go_wp2_with ((go_at_call 47; ((with_reducible refine (of_ten _).mono ?_); rintro e6 w6 ⟨s6, A6, n6, c6, rfl, hr6, hb6⟩); obtain ⟨hc6, hf6⟩ := bcell hb6; (try simp only [dw] at hc6 hf6); have hz6_0 : w.heap.size < w6.heap.size := szl hb6 (by go_size)); have hx6 : b4 < w6.heap.size := (by have := hb6.size; (try simp at this); omega))
   have sS6 := qh (bst bq0 hb6)
   refine hK.out _ _ (fun _ => sS6.out) ?_
   clear hK K
   refine rd1 3 (by kernel_rfl) rfl (fun K hK => ?_)
   go_simp
   go_wp2_with ((go_at_call 48; ((with_reducible refine (HPOW.out _ _ _ _ _ hr6).mono ?_); rintro e7 w7 ⟨s7, A7, n7, c7, rfl, hr7, hb7⟩); obtain ⟨hc7, hf7⟩ := bcell hb7; (try simp only [dw] at hc7 hf7); have hz7_0 : w.heap.size < w7.heap.size := szl hb7 (by go_size)); have hx7 : b4 < w7.heap.size := (by have := hb7.size; (try simp at this); omega))
   have sS7 := qh (bst sS6.out hb7)
   refine hK.out _ _ (fun _ => sS7.out) ?_
   clear hK K
   refine rd1 4 (by kernel_rfl) rfl (fun K hK => ?_)
   go_simp
   go_wp2_with ((go_at_call 78; ((with_reducible refine (mul_nat HY.out (by with_reducible repeat first | assumption | apply rD | apply rN | apply rA | refine rP ?_ rfl (by simp [go_sem, hc6]) | refine rB ?_ ‹_›) hr7 HL1.out HPL.out).mono ?_); rintro e8 w8 ⟨s8, A8, n8, c8, rfl, hr8, hb8⟩); obtain ⟨hc8, hf8⟩ := bcell hb8; (try simp only [dw] at hc8 hf8); have hz8_0 : w.heap.size < w8.heap.size := szl hb8 (by go_size)); have hx8 : b4 < w8.heap.size := (by have := hb8.size; (try simp at this); omega))
   have sS8 := qh (bst sS7.out hb8)
   refine hK.out _ _ (fun _ => sS8.out) ?_
   clear hK K
   refine rd1 6 (by kernel_rfl) rfl (fun K hK => ?_)
   go_simp
   go_wp2_with ((go_at_call 47; ((with_reducible refine (of_num (v : Int) _ HRV.out).mono ?_); rintro e9 w9 ⟨s9, A9, n9, c9, rfl, hr9, hb9⟩); obtain ⟨hc9, hf9⟩ := bcell hb9; (try simp only [dw] at hc9 hf9); have hz9_0 : w.heap.size < w9.heap.size := szl hb9 (by go_size)); have hx9 : b4 < w9.heap.size := (by have := hb9.size; (try simp at this); omega))
   have sS9 := qh (bst sS8.out hb9)
   refine hK.out _ _ (fun _ => sS9.out) ?_
   clear hK K
   refine rd1 7 (by kernel_rfl) rfl (fun K hK => ?_)
   go_simp
   go_wp2_with ((go_at_call 103; ((with_reducible refine (add_nat HZ.out (by with_reducible repeat first | assumption | apply rD | apply rN | apply rA | refine rP ?_ rfl (by simp [go_sem, hc9]) | refine rB ?_ ‹_›) hr9 HL2.out HL3.out).mono ?_); rintro e10 w10 ⟨s10, A10, n10, c10, rfl, hr10, hb10⟩); obtain ⟨hc10, hf10⟩ := bcell hb10; (try simp only [dw] at hc10 hf10); have hz10_0 : w.heap.size < w10.heap.size := szl hb10 (by go_size)); have hx10 : b4 < w10.heap.size := (by have := hb10.size; (try simp at this); omega))
   have sS10 := qh (bst sS9.out hb10)
   refine hK.out _ _ (fun _ => sS10.out) ?_
   clear hK K
   refine rd1 8 (by kernel_rfl) rfl (fun K hK => ?_)
   go_simp
   refine hK.out _ _ (fun h => (h (by decide)).elim) ?_
   clear hK K
   refine wpAnyT_done (by kernel_rfl) ?_ _
   have q4 := extract_drop r k
   have k0 : w10.cell? ⟨b4, 0, none⟩ = some (.int .i64 so) := by simp [go_sem, hc10, hx9, hc9, hx8, hc8, hx7, hc7, hx6, hc6, hx5, f0, f1, f2, f3, hz9_0, hz8_0, hz7_0, hz6_0, hz5_0]
   have k1 : w10.cell? ⟨b4, 1, none⟩ = some (.slice Ao no co) := by simp [go_sem, hc10, hx9, hc9, hx8, hc8, hx7, hc7, hx6, hc6, hx5, f0, f1, f2, f3, hz9_0, hz8_0, hz7_0, hz6_0, hz5_0]
   have e5 : Rep ((w10.setCell ⟨b4, 0, none⟩ (.int .i64 s10)).setCell ⟨b4, 1, none⟩ (.slice A10 n10 c10)) s10 A10 n10 c10 ((z : Nat) : Int) := (by with_reducible repeat first | assumption | apply rD | apply rN | apply rA | refine rP ?_ rfl (by simp [go_sem, k0, k1, hx10]) | refine rB ?_ ‹_›)
   obtain ⟨V, hWV⟩ : ∃ x, (w10.setCell ⟨b4, 0, none⟩ (.int .i64 s10)).setCell ⟨b4, 1, none⟩ (.slice A10 n10 c10) = x := ⟨_, rfl⟩
   have cV_0 : V.cell? ⟨b4, 0, none⟩ = some (.int .i64 s10) := (by rw [← hWV]; simp [go_sem, k0, k1, hn0, Ne.symm hn0, hc10, hx9, hc9, hx8, hc8, hx7, hc7, hx6, hc6, hx5, f0, f1, f2, f3, hz9_0, hz8_0, hz7_0, hz6_0, hz5_0])
   have cV_1 : V.cell? ⟨b4, 1, none⟩ = some (.slice A10 n10 c10) := (by rw [← hWV]; simp [go_sem, k0, k1, hn0, Ne.symm hn0, hc10, hx9, hc9, hx8, hc8, hx7, hc7, hx6, hc6, hx5, f0, f1, f2, f3, hz9_0, hz8_0, hz7_0, hz6_0, hz5_0])
   have cV_2 : V.cell? ⟨w.heap.size, 0, none⟩ = some (.int .i64 0) := (by rw [← hWV]; simp [go_sem, k0, k1, hn0, Ne.symm hn0, hc10, hx9, hc9, hx8, hc8, hx7, hc7, hx6, hc6, hx5, f0, f1, f2, f3, hz9_0, hz8_0, hz7_0, hz6_0, hz5_0])
   have cV_3 : V.cell? ⟨w.heap.size, 1, none⟩ = some (.slice none 0 0) := (by rw [← hWV]; simp [go_sem, k0, k1, hn0, Ne.symm hn0, hc10, hx9, hc9, hx8, hc8, hx7, hc7, hx6, hc6, hx5, f0, f1, f2, f3, hz9_0, hz8_0, hz7_0, hz6_0, hz5_0])
   have fV_0 : ∀ o, V.frozen? ⟨b4, o, none⟩ = false := (by intro o; rw [← hWV]; simp [go_sem, hf10, hx9, hf9, hx8, hf8, hx7, hf7, hx6, hf6, hx5, g0, g1, hz9_0, hz8_0, hz7_0, hz6_0, hz5_0])
   have fV_1 : ∀ o, V.frozen? ⟨w.heap.size, o, none⟩ = false := (by intro o; rw [← hWV]; simp [go_sem, hf10, hx9, hf9, hx8, hf8, hx7, hf7, hx6, hf6, hx5, g0, g1, hz9_0, hz8_0, hz7_0, hz6_0, hz5_0])
   have zV_0 : w.heap.size < V.heap.size := (by rw [← hWV]; first | assumption | (simp; done) | (simp; omega))
   have zV_1 : b4 < V.heap.size := (by rw [← hWV]; first | assumption | (simp; done) | (simp; omega))
   have bV : Below w.heap.size w V := (by rw [← hWV]; exact (bq (by with_reducible repeat' first | assumption | constructor | go_size)))
   simp only [hWV]
   rw [hWV] at e5
   clear hWV
   have hkr : k ≤ r.length := by have := HK.out; omega
   go_wp2
   exact ⟨⟨pre ++ r.take k, r.drop k, s10, A10, n10, c10, rfl, by rw [List.append_assoc, List.take_append_drop]; exact HPR.out, { rep := by rw [HVAL.out]; exact e5, c0 := cV_0, c1 := cV_1, c2 := cV_2, c3 := cV_3, f0 := fV_0, f1 := fV_1, bel := bV, sz := ⟨HI.out.sz.1, zV_1⟩ }⟩, by have := HK0.out; simp; omega⟩
end

theorem bitLen_lt {x : Nat} (h : x < B64) : x < 2 ^ Lib.bitLen x ∧ Lib.bitLen x ≤ 64 := by
 by_cases h0 : x = 0
 ·subst h0; exact ⟨by simp [Lib.bitLen, Lib.bitLenAux], by simp [Lib.bitLen, Lib.bitLenAux]⟩
 ·have h1 := Lib.bitLenAux_bounds 64 x (by rw [B64_eq] at h; omega) h0
  refine ⟨h1.2.2, ?_⟩
  show Lib.bitLenAux 64 x ≤ 64
  rcases Nat.lt_or_ge 64 (Lib.bitLenAux 64 x) with h2 | h2
  ·have h3 := Nat.pow_le_pow_right (show 0 < 2 by omega) (show 64 ≤ Lib.bitLenAux 64 x - 1 by omega)
   have h4 := h1.2.1
   rw [B64_eq] at h
   omega
  ·exact h2
theorem nv_bits {ds : List Nat} {n : Nat} (hd : Pos.Dig B64 ds) (hl : ds.length = n + 1) : Pos.nv B64 ds < 2 ^ (64 * n + Lib.bitLen (dg ds n)) := by
 have h1 := Pos.nv_take_succ (b := B64) (l := ds) (i := n) (by omega)
 rw [List.take_of_length_le (by omega)] at h1
 have h2 : ds[n]'(by omega) = dg ds n := (gd (by omega)).symm
 rw [h2] at h1
 have h3 := Pos.nv_lt (hd.take n)
 rw [List.length_take, Nat.min_eq_left (by omega)] at h3
 have h4 := (bitLen_lt (x := dg ds n) (by have := dig_u64 hd n; rw [B64_eq]; exact this)).1
 have h5 : (2 : Nat) ^ (64 * n) = B64 ^ n := by rw [Nat.pow_mul, B64_eq]
 rw [Nat.pow_add, h5]
 have h6 : B64 ^ n * (dg ds n + 1) ≤ B64 ^ n * 2 ^ Lib.bitLen (dg ds n) := Nat.mul_le_mul_left _ h4
 rw [Nat.mul_add] at h6
 omega

theorem len64_fact {x k : Nat} (hx : x < 18446744073709551616) (hk : Lib.bitLen x = k) (w : World) : Calls Tryz.prog 202 #[.int .u64 (x : Int)] w fun e w' => e = .returned (.int .i64 (k : Int)) ∧ Below w.heap.size w w' := by
 subst hk
 refine (Tryz.bits_Len64 (x : Int) w (by omega) (by omega)).mono ?_
 rintro e w' ⟨rfl, rfl⟩
 exact ⟨by simp, Below.refl _ _⟩
section
variable {s z : Int} {A : Option Addr} {n c : Nat} {w : World}
theorem bits_num (h : Rep w s A n c z) : Calls Tryz.prog 157 #[iv s A n c] w fun e w' => ∃ k : Nat, e = .returned (.int .i64 (k : Int)) ∧ z.natAbs < 2 ^ k ∧ k < 9223372036854775808 ∧ Below w.heap.size w w' := by
 have HR := qh h
 clear h
 go_enter Tryz.func157, Tryz.ntmps157
 go_wp2_with (go_at_call 115; (with_reducible refine (parts_any _ _ _ _ _ _ (HR.out.below (bq (by with_reducible repeat' first | assumption | constructor | go_size)))).mono ?_); rintro e1 w1 ⟨A1, n1, c1, ds, rfl, hW, hT, hnc, hcc, hv, hb1⟩; obtain ⟨hc1, hf1⟩ := bcell hb1; (try simp only [dw] at hc1 hf1); have hz1_0 : w.heap.size < w1.heap.size := szl hb1 (by go_size); refine Hid.out ?_)
 rcases Nat.eq_zero_or_pos n1 with h0 | h0
 ·subst h0
  have e : ds = [] := List.eq_nil_of_length_eq_zero hW.len
  subst e
  have hv0 : z.natAbs = 0 := by rw [← hv]; rfl
  refine qh ?_
  go_wp2
  exact bodyPost_ret (v := .int .i64 ((0 : Nat) : Int)) (by simp [results, Tryz.results157, go_sem]) rfl ⟨0, rfl, by omega, by omega, (bq (by with_reducible repeat' first | assumption | constructor | go_size))⟩
 ·obtain ⟨m, rfl⟩ : ∃ m, n1 = m + 1 := ⟨n1 - 1, by omega⟩
  obtain ⟨b, o, rfl, hbl, hce⟩ := hW.at_ (by omega)
  have hcm := hce m (by omega)
  obtain ⟨x, hx⟩ : ∃ x, dg ds m = x := ⟨_, rfl⟩
  rw [hx] at hcm
  have hB := nv_bits hW.dig hW.len
  have hxl := bitLen_lt (x := x) (by rw [← hx]; have := dig_u64 hW.dig m; rw [B64_eq]; exact this)
  rw [hx, hv] at hB
  have hx64 := dig_u64 hW.dig m
  rw [hx] at hx64
  have q1 : (((m + 1 : Nat) : Int) - 1) = (m : Int) := by omega
  have hm : m < 1099511627776 := by omega
  have HB := qh hB
  have HX := qh hxl
  have HV := qh (And.intro hv hx)
  clear hB hxl hv hx hce hW hT
  have q0 : (((m + 1 : Nat) : Int) == 0) = false := by rw [beq_eq_false_iff_ne]; omega
  refine qh ?_
  obtain ⟨k, hk⟩ : ∃ k, Lib.bitLen x = k := ⟨_, rfl⟩
  have HX64 := qh (And.intro hx64 hk)
  rw [hk] at HB HX
  clear hx64 hk
  go_wp2_with (go_at_call 202; ((with_reducible refine (len64_fact HX64.out.1 HX64.out.2 _).mono ?_); rintro e2 w2 ⟨rfl, hb2⟩); obtain ⟨hc2, hf2⟩ := bcell hb2; (try simp only [dw] at hc2 hf2); have hz2_0 : w.heap.size < w2.heap.size := szl hb2 (by go_size))
  have hw : wrap64 (64 * (m : Int) + (k : Int)) = 64 * (m : Int) + (k : Int) := by have := HX.out; unfold wrap64; omega
  exact bodyPost_ret (v := .int .i64 ((64 * m + k : Nat) : Int)) (by simp [results, Tryz.results157, go_sem, hw]) rfl ⟨64 * m + k, rfl, HB.out, by have := HX.out; omega, (bq (by with_reducible repeat' first | assumption | constructor | go_size))⟩

/-- The program writes the integer z in decimal notation. -/
abbrev StrAt (z : Int) : Prop := ∀ (w : World) (s : Int) (A : Option Addr) (n c : Nat), Rep w s A n c z → Env w → Calls Tryz.prog 120 #[iv s A n c] w fun e w' => e = .returned (bs (Lib.itoa z)) ∧ Below w.heap.size w w'
theorem Rep.small_none (h : Rep w s A n c z) (hz : R64 z) (hm : z ≠ -9223372036854775808) : A = none := by
 cases h with
 | small _ h0 h1 => rfl
 | plus _ _ _ ds h => have := h.big; have := hz.1; have := hz.2; omega
 | minus _ _ _ ds h => have := h.big; have := hz.1; have := hz.2; omega
theorem str_none (z : Int) (w : World) (hz : R64 z) (hE : Env w) : Calls Tryz.prog 120 #[iv z none 0 0] w fun e w' => e = .returned (bs (Lib.itoa z)) ∧ Below w.heap.size w w' := by
 have qe := eql_nil
 have HE := qh hE
 have HZ := qh hz
 clear hE hz
 go_enter Tryz.func120, Tryz.ntmps120
 go_wp2_with (go_at_call 158; ((with_reducible refine (itoa_any (HE.out.below (bq (by with_reducible repeat' first | assumption | constructor | go_size))) HZ.out).mono ?_); rintro e1 w1 ⟨rfl, hb1⟩); obtain ⟨hc1, hf1⟩ := bcell hb1; (try simp only [dw] at hc1 hf1); have hz1_0 : w.heap.size < w1.heap.size := szl hb1 (by go_size))
 go_ret
 exact ⟨rfl, (bq (by with_reducible repeat' first | assumption | constructor | go_size))⟩
theorem strAt_small {z : Int} (hz : R64 z) (hm : z ≠ -9223372036854775808) : StrAt z := fun w s A n c h hE => by
 have := h.small_none hz hm
 subst this
 obtain ⟨rfl, rfl, rfl, _⟩ := h.none_
 exact str_none s w hz hE

/-- More than 600 decimal digits. -/
def lng (z : Int) : Bool := decide (600 < (Lib.decDigits z.natAbs).length)
theorem digits_short {x k : Nat} (h : x < 10 ^ (k + 1)) : (Lib.decDigits x).length ≤ k + 1 := by
 rcases Nat.lt_or_ge x 1 with h0 | h0
 ·have : x = 0 := by omega
  subst this
  unfold Lib.decDigits; simp
 ·obtain ⟨j, hj1, hj2⟩ : ∃ j, 10 ^ j ≤ x ∧ x < 10 ^ (j + 1) := by
   have : ∀ k, x < 10 ^ k → ∃ j, 10 ^ j ≤ x ∧ x < 10 ^ (j + 1) := by
    intro k
    induction k with
    | zero => intro h; simp at h; omega
    | succ k ih =>
      intro h
      rcases Nat.lt_or_ge x (10 ^ k) with h1 | h1
      ·exact ih h1
      ·exact ⟨k, h1, h⟩
   exact this _ h
  rw [Dig.digits_len hj1 hj2]
  rcases Nat.lt_or_ge j (k + 1) with h1 | h1
  ·omega
  ·have := Nat.pow_le_pow_right (show 0 < 10 by omega) h1
   omega
theorem pow_eight (n : Nat) : (2 : Nat) ^ (3 * n) ≤ 10 ^ n := by rw [Nat.pow_mul]; exact Nat.pow_le_pow_left (by decide) n
theorem lt_ten {x k n : Nat} (h : x < 2 ^ k) (hk : k ≤ 3 * (n + 1)) : x < 10 ^ (n + 1) :=
 Nat.lt_of_lt_of_le h (Nat.le_trans (Nat.pow_le_pow_right (by omega) hk) (pow_eight (n + 1)))
theorem short_of {x k n : Nat} (h : x < 2 ^ k) (hk : k ≤ 3 * (n + 1)) : (Lib.decDigits x).length ≤ n + 1 := digits_short (lt_ten h hk)
theorem two_ten {x k : Nat} (h : x < 2 ^ k) (hk : k ≤ 1800) : lng (x : Int) = false := by
 have := short_of (n := 599) h (by omega)
 simp [lng]; omega
theorem lng_of {z : Int} {k : Nat} (h : z.natAbs < 2 ^ k) (hk : k ≤ 1800) : lng z = false := by
 have := two_ten h hk
 simpa [lng] using this
theorem trim_itoa (z : Int) : (Lib.trimPrefix (Lib.itoa z) [45]).length = (Lib.decDigits z.natAbs).length := by
 unfold Lib.itoa
 split
 ·simp [Lib.trimPrefix, Lib.hasPrefix, List.isPrefixOf]
 ·rename_i h
  rw [trim_dash (Dig.digits_dig _).1, show z.toNat = z.natAbs by omega]

theorem long_num (h : Rep w s A n c z) (hE : Env w) (hS : StrAt z) : Calls Tryz.prog 119 #[iv s A n c] w fun e w' => e = .returned (.bool (lng z)) ∧ Below w.heap.size w w' := by
 have HR := qh h
 have HE := qh hE
 have HS := qh hS
 obtain ⟨g, hg⟩ : ∃ g, lng z = g := ⟨_, rfl⟩
 rw [hg]
 have HG := qh hg
 clear h hE hS hg
 go_enter Tryz.func119, Tryz.ntmps119
 go_wp2_with (go_at_call 157; (with_reducible refine (bits_num (HR.out.below (bq (by with_reducible repeat' first | assumption | constructor | go_size)))).mono ?_); rintro e1 w1 ⟨k, rfl, hk, hk2, hb1⟩; obtain ⟨hc1, hf1⟩ := bcell hb1; (try simp only [dw] at hc1 hf1); have hz1_0 : w.heap.size < w1.heap.size := szl hb1 (by go_size); refine Hid.out ?_)
 rcases Nat.lt_or_ge 1800 k with h0 | h0
 ·have q0 : decide (1800 < (k : Int)) = true := by simp; omega
  have HL := qh (trim_itoa z)
  obtain ⟨m, hm⟩ : ∃ m, (Lib.decDigits z.natAbs).length = m := ⟨_, rfl⟩
  obtain ⟨t, ht⟩ : ∃ t, Lib.trimPrefix (Lib.itoa z) [45] = t := ⟨_, rfl⟩
  have hlen : t.length = m := by rw [← ht, trim_itoa, hm]
  have HT := qh ht
  have hgm : decide (600 < (m : Int)) = g := by rw [← HG.out, ← hm]; simp [lng]; omega
  clear hk hk2 h0 hm ht
  refine qh ?_
  go_wp2_with (first
   | (go_at_call 120; ((with_reducible refine (HS.out _ _ _ _ _ (HR.out.below (bq (by with_reducible repeat' first | assumption | constructor | go_size))) (HE.out.below (bq (by with_reducible repeat' first | assumption | constructor | go_size)))).mono ?_); rintro e2 w2 ⟨rfl, hb2⟩); obtain ⟨hc2, hf2⟩ := bcell hb2; (try simp only [dw] at hc2 hf2); have hz2_0 : w.heap.size < w2.heap.size := szl hb2 (by go_size))
   | (go_at_call 41; ((with_reducible refine (trimPrefix_fact HT.out).mono ?_); rintro e3 w3 ⟨rfl, hb3⟩); obtain ⟨hc3, hf3⟩ := bcell hb3; (try simp only [dw] at hc3 hf3); have hz3_0 : w.heap.size < w3.heap.size := szl hb3 (by go_size)))
  go_ret
  exact ⟨rfl, (bq (by with_reducible repeat' first | assumption | constructor | go_size))⟩
 ·have q0 : decide (1800 < (k : Int)) = false := by simp; omega
  have hgf : g = false := by rw [← HG.out]; exact lng_of hk h0
  subst hgf
  clear hk hk2 h0
  refine qh ?_
  go_wp2
  go_ret
  exact ⟨rfl, (bq (by with_reducible repeat' first | assumption | constructor | go_size))⟩
end

/-- The notation of a fraction. -/
def tq (x : Rat) : List UInt8 := if x.den = 1 then Lib.itoa x.num else Lib.itoa x.num ++ 47 :: Lib.decDigits x.den
theorem itoa_nat (n : Nat) : Lib.itoa ((n : Nat) : Int) = Lib.decDigits n := by
 unfold Lib.itoa; rw [if_neg (by omega)]; simp
theorem index_byte (c : UInt8) : ∀ (a b : List UInt8), c ∉ a → Lib.index (a ++ c :: b) [c] = a.length
 | [], b, _ => by simp [Lib.index, List.isPrefixOf]
 | x :: a, b, h => by
   have h1 : c ≠ x := fun e => h (by simp [e])
   have h2 := index_byte c a b (fun hm => h (List.mem_cons_of_mem _ hm))
   have h3 : (c == x) = false := by rw [beq_eq_false_iff_ne]; exact h1
   simp only [List.cons_append, Lib.index, List.isPrefixOf, h3, Bool.false_and, h2]
   have h4 : (((a.length : Nat) : Int) == -1) = false := by rw [beq_eq_false_iff_ne]; omega
   simp [h4]
theorem index_miss (c : UInt8) : ∀ (a : List UInt8), c ∉ a → Lib.index a [c] = -1
 | [], _ => by simp [Lib.index]
 | x :: a, h => by
   have h1 : c ≠ x := fun e => h (by simp [e])
   have h2 := index_miss c a (fun hm => h (List.mem_cons_of_mem _ hm))
   have h3 : (c == x) = false := by rw [beq_eq_false_iff_ne]; exact h1
   simp [Lib.index, List.isPrefixOf, h3, h2]
theorem cut_hit {c : UInt8} {a : List UInt8} (b : List UInt8) (h : c ∉ a) : Lib.cut (a ++ c :: b) [c] = (a, b, true) := by
 unfold Lib.cut
 rw [index_byte c a b h]
 simp
theorem cut_miss {c : UInt8} {a : List UInt8} (h : c ∉ a) : Lib.cut a [c] = (a, [], false) := by
 unfold Lib.cut
 rw [index_miss c a h]
 simp
theorem split_first (c : UInt8) : ∀ (l : List UInt8), c ∉ l ∨ ∃ a b, l = a ++ c :: b ∧ c ∉ a
 | [] => Or.inl (by simp)
 | x :: l => by
   by_cases h : x = c
   ·subst h; exact Or.inr ⟨[], l, rfl, by simp⟩
   ·rcases split_first c l with h1 | ⟨a, b, rfl, h2⟩
    ·exact Or.inl (by simp [h1, Ne.symm h])
    ·exact Or.inr ⟨x :: a, b, rfl, by simp [h2, Ne.symm h]⟩
theorem slash_digits (n : Nat) : (47 : UInt8) ∉ Lib.decDigits n := fun h => by
 have := (Dig.digits_dig n).1 _ h
 revert this; decide
theorem slash_itoa (z : Int) : (47 : UInt8) ∉ Lib.itoa z := by
 unfold Lib.itoa
 split
 ·simp only [List.mem_cons, not_or]; exact ⟨by decide, slash_digits _⟩
 ·exact slash_digits _
theorem pre_itoa (z : Int) : Lib.hasPrefix (Lib.itoa z) [45] = decide (z < 0) ∧ Lib.trimPrefix (Lib.itoa z) [45] = Lib.decDigits z.natAbs := by
 unfold Lib.itoa
 split
 ·rename_i h
  simp [Lib.trimPrefix, Lib.hasPrefix, List.isPrefixOf, h]
 ·rename_i h
  have e : z.toNat = z.natAbs := by omega
  rw [trim_dash (Dig.digits_dig _).1, not_dash (Dig.digits_dig _).1, e]
  simp [h]
theorem cat_bytes (a b : List UInt8) : (⟨a.toArray⟩ : ByteArray) ++ ⟨b.toArray⟩ = ⟨(a ++ b).toArray⟩ := by
 apply ByteArray.ext
 simp [ByteArray.data_append]
theorem itoa_len {z : Int} (h : (Lib.decDigits z.natAbs).length ≤ 5000) : (Lib.itoa z).length ≤ 5001 := by
 unfold Lib.itoa
 split
 ·simp; exact h
 ·rename_i h'; rw [show z.toNat = z.natAbs by omega]; omega
/-- Numerator and denominator can be written. -/
structure StrQ (x : Rat) : Prop where
 num : StrAt x.num
 den : StrAt ((x.den : Nat) : Int)
def lngQ (x : Rat) : Bool := lng x.num || lng ((x.den : Nat) : Int)
/-- Numerator and denominator have at most 5000 digits. -/
structure DigQ (x : Rat) : Prop where
 num : (Lib.decDigits x.num.natAbs).length ≤ 5000
 den : (Lib.decDigits x.den).length ≤ 5000

theorem long_fact {w : World} {s z : Int} {A : Option Addr} {n c : Nat} {g : Bool} (hg : lng z = g) (h : Rep w s A n c z) (hE : Env w) (hS : StrAt z) : Calls Tryz.prog 119 #[iv s A n c] w fun e w' => e = .returned (.bool g) ∧ Below w.heap.size w w' := hg ▸ long_num h hE hS
theorem read_int {w : World} (z : Int) (hl : (Lib.decDigits z.natAbs).length ≤ 5000) : Calls Tryz.prog 91 #[bs (Lib.itoa z)] w (IntPost z w) := by
 have h := read_text (w := w) (pre_itoa z).1 (pre_itoa z).2 (Dig.digits_dig _).1 hl
 rwa [Dig.val_digits, sg_natAbs] at h
theorem read_nat {w : World} (n : Nat) (hl : (Lib.decDigits n).length ≤ 5000) : Calls Tryz.prog 91 #[bs (Lib.decDigits n)] w (IntPost ((n : Nat) : Int) w) := by
 have h := read_int (w := w) ((n : Nat) : Int) (by simpa using hl)
 rwa [itoa_nat] at h
theorem cut_fact {w : World} {l p a b : List UInt8} {g : Bool} (hc : Lib.cut l p = (a, b, g)) (hE : Env w) (hl : l.length < 4294967281) : Calls Tryz.prog 42 #[bs l, bs p] w fun e w' => e = .returned (.tuple #[bs a, bs b, .bool g]) ∧ Below w.heap.size w w' := by
 have := cut_any (p := p) hE hl
 rwa [hc] at this
section
variable {s t : Int} {A B : Option Addr} {n c m d : Nat} {w : World} {x : Rat}
theorem large_num (h : RepF w s A n c t B m d x) (hE : Env w) (hS : StrQ x) : Calls Tryz.prog 80 #[fv s A n c t B m d] w fun e w' => e = .returned (.bool (lngQ x)) ∧ Below w.heap.size w w' := by
 have HR := qh h
 have HE := qh hE
 have HS := qh hS
 obtain ⟨g1, hg1⟩ : ∃ g, lng x.num = g := ⟨_, rfl⟩
 obtain ⟨g2, hg2⟩ : ∃ g, lng ((x.den : Nat) : Int) = g := ⟨_, rfl⟩
 have e : lngQ x = (g1 || g2) := by rw [← hg1, ← hg2]; rfl
 rw [e]
 have HG1 := qh hg1
 have HG2 := qh hg2
 clear h hE hS hg1 hg2 e
 cases g1
 ·go_enter Tryz.func80, Tryz.ntmps80
  go_wp2_with (first
   | (go_at_call 119; (with_reducible show Calls _ _ #[iv s A n c] _ _); ((with_reducible refine (long_fact HG1.out (HR.out.num.below (bq (by with_reducible repeat' first | assumption | constructor | go_size))) (HE.out.below (bq (by with_reducible repeat' first | assumption | constructor | go_size))) HS.out.num).mono ?_); rintro e1 w1 ⟨rfl, hb1⟩); obtain ⟨hc1, hf1⟩ := bcell hb1; (try simp only [dw] at hc1 hf1); have hz1_0 : w.heap.size < w1.heap.size := szl hb1 (by go_size))
   | (go_at_call 119; (with_reducible show Calls _ _ #[iv t B m d] _ _); ((with_reducible refine (long_fact HG2.out (HR.out.den.below (bq (by with_reducible repeat' first | assumption | constructor | go_size))) (HE.out.below (bq (by with_reducible repeat' first | assumption | constructor | go_size))) HS.out.den).mono ?_); rintro e2 w2 ⟨rfl, hb2⟩); obtain ⟨hc2, hf2⟩ := bcell hb2; (try simp only [dw] at hc2 hf2); have hz2_0 : w.heap.size < w2.heap.size := szl hb2 (by go_size)))
  go_ret
  exact ⟨by simp, (bq (by with_reducible repeat' first | assumption | constructor | go_size))⟩
 ·go_enter Tryz.func80, Tryz.ntmps80
  go_wp2_with (go_at_call 119; ((with_reducible refine (long_fact HG1.out (HR.out.num.below (bq (by with_reducible repeat' first | assumption | constructor | go_size))) (HE.out.below (bq (by with_reducible repeat' first | assumption | constructor | go_size))) HS.out.num).mono ?_); rintro e1 w1 ⟨rfl, hb1⟩); obtain ⟨hc1, hf1⟩ := bcell hb1; (try simp only [dw] at hc1 hf1); have hz1_0 : w.heap.size < w1.heap.size := szl hb1 (by go_size))
  go_ret
  exact ⟨by simp, (bq (by with_reducible repeat' first | assumption | constructor | go_size))⟩

theorem text_num (h : RepF w s A n c t B m d x) (hE : Env w) (hS : StrQ x) (hD : DigQ x) : Calls Tryz.prog 81 #[fv s A n c t B m d] w fun e w' => e = .returned (bs (tq x)) ∧ Below w.heap.size w w' := by
 have HR := qh h
 have HE := qh hE
 have HS := qh hS
 by_cases hd : x.den = 1
 ·have HD := qh (show decide (x.den = 1) = true by simp [hd])
  have e : tq x = Lib.itoa x.num := by unfold tq; rw [if_pos hd]
  rw [e]
  obtain ⟨l, hl⟩ : ∃ l, Lib.itoa x.num = l := ⟨_, rfl⟩
  have hst := HS.out.num
  unfold StrAt at hst
  rw [hl] at hst ⊢
  have HT := qh hst
  clear h hE hS hd e hl hst
  go_enter Tryz.func81, Tryz.ntmps81
  go_wp2_with (first
   | (go_at_call 106; ((with_reducible refine (isWhole_fact HD.out (HR.out.below (bq (by with_reducible repeat' first | assumption | constructor | go_size)))).mono ?_); rintro e1 w1 ⟨rfl, hb1⟩); obtain ⟨hc1, hf1⟩ := bcell hb1; (try simp only [dw] at hc1 hf1); have hz1_0 : w.heap.size < w1.heap.size := szl hb1 (by go_size))
   | (go_at_call 120; ((with_reducible refine (HT.out _ _ _ _ _ (HR.out.num.below (bq (by with_reducible repeat' first | assumption | constructor | go_size))) (HE.out.below (bq (by with_reducible repeat' first | assumption | constructor | go_size)))).mono ?_); rintro e2 w2 ⟨rfl, hb2⟩); obtain ⟨hc2, hf2⟩ := bcell hb2; (try simp only [dw] at hc2 hf2); have hz2_0 : w.heap.size < w2.heap.size := szl hb2 (by go_size)))
  go_ret
  exact ⟨rfl, (bq (by with_reducible repeat' first | assumption | constructor | go_size))⟩
 ·have HD := qh (show decide (x.den = 1) = false by simp [hd])
  have e : tq x = Lib.itoa x.num ++ [47] ++ Lib.decDigits x.den := by unfold tq; rw [if_neg hd]; simp
  rw [e]
  obtain ⟨l, hl⟩ : ∃ l, Lib.itoa x.num = l := ⟨_, rfl⟩
  obtain ⟨k, hk⟩ : ∃ l, Lib.decDigits x.den = l := ⟨_, rfl⟩
  have hst := HS.out.num
  have hst2 := HS.out.den
  unfold StrAt at hst hst2
  rw [itoa_nat] at hst2
  rw [hl] at hst ⊢
  rw [hk] at hst2 ⊢
  have HT := qh hst
  have HT2 := qh hst2
  have b1 : l.length ≤ 5001 := by rw [← hl]; exact itoa_len hD.num
  have b2 : k.length ≤ 5000 := by rw [← hk]; exact hD.den
  have b3 : l.length ≤ 9223372036854775806 := by omega
  have b4 : ¬ (9223372036854775807 < l.length + 1 + k.length) := by omega
  clear hD b1 b2
  have c1 := cat_bytes l [47]
  have c2 := cat_bytes (l ++ [47]) k
  clear h hE hS hd e hl hk hst hst2
  go_enter Tryz.func81, Tryz.ntmps81
  go_wp2_with (first
   | (go_at_call 106; ((with_reducible refine (isWhole_fact HD.out (HR.out.below (bq (by with_reducible repeat' first | assumption | constructor | go_size)))).mono ?_); rintro e1 w1 ⟨rfl, hb1⟩); obtain ⟨hc1, hf1⟩ := bcell hb1; (try simp only [dw] at hc1 hf1); have hz1_0 : w.heap.size < w1.heap.size := szl hb1 (by go_size)))
  refine wp_region_T (fun w' => Below w1.heap.size w1 w') [] (by kernel_rfl) ?_
  refine tb 0 (.pointer (some ⟨w.heap.size, 0, none⟩)) [1] rfl (by kernel_rfl) (fun _ _ _ h => h) (by rfl) (by intros; go_simp) bq0 ?_
  simp only [ppq]
  refine tb 1 (.agg #[.int .i64 s, .slice A n c]) [2] rfl (by kernel_rfl) (fun _ _ _ h => h) (by rfl) (by intros; go_simp) bq0 ?_
  simp only [ppq]
  refine tb 4 (.pointer (some ⟨w.heap.size, 2, none⟩)) [5] rfl (by kernel_rfl) (fun _ _ _ h => h) (by rfl) (by intros; go_simp) bq0 ?_
  simp only [ppq]
  refine tb 5 (.agg #[.int .i64 t, .slice B m d]) [6] rfl (by kernel_rfl) (fun _ _ _ h => h) (by rfl) (by intros; go_simp) bq0 ?_
  simp only [ppq]
  refine rd1 2 (by kernel_rfl) rfl (fun K hK => ?_)
  go_simp
  go_wp2_with (go_at_call 120; ((with_reducible refine (HT.out _ _ _ _ _ (HR.out.num.below (bq (by with_reducible repeat' first | assumption | constructor | go_size))) (HE.out.below (bq (by with_reducible repeat' first | assumption | constructor | go_size)))).mono ?_); rintro e2 w2 ⟨rfl, hb2⟩); obtain ⟨hc2, hf2⟩ := bcell hb2; (try simp only [dw] at hc2 hf2); have hz2_0 : w.heap.size < w2.heap.size := szl hb2 (by go_size))
  have sS2 := qh (bst bq0 hb2)
  refine hK.out _ _ (fun _ => sS2.out) ?_
  clear hK K
  refine tb 3 (bs (l ++ [47])) [7] rfl (by kernel_rfl) (fun _ _ _ h => h) (by rfl) (by intros; go_simp) sS2.out ?_
  simp only [ppq]
  refine rd1 6 (by kernel_rfl) rfl (fun K hK => ?_)
  go_simp
  go_wp2_with (go_at_call 120; ((with_reducible refine (HT2.out _ _ _ _ _ (HR.out.den.below (bq (by with_reducible repeat' first | assumption | constructor | go_size))) (HE.out.below (bq (by with_reducible repeat' first | assumption | constructor | go_size)))).mono ?_); rintro e3 w3 ⟨rfl, hb3⟩); obtain ⟨hc3, hf3⟩ := bcell hb3; (try simp only [dw] at hc3 hf3); have hz3_0 : w.heap.size < w3.heap.size := szl hb3 (by go_size))
  have sS3 := qh (bst sS2.out hb3)
  refine hK.out _ _ (fun _ => sS3.out) ?_
  clear hK K
  refine rd1 7 (by kernel_rfl) rfl (fun K hK => ?_)
  go_simp
  refine hK.out _ _ (fun _ => (bq (by with_reducible repeat' first | assumption | constructor | go_size))) ?_
  clear hK K
  refine rd1 8 (by kernel_rfl) rfl (fun K hK => ?_)
  go_simp
  refine hK.out _ _ (fun _ => (bq (by with_reducible repeat' first | assumption | constructor | go_size))) ?_
  clear hK K
  refine wpAnyT_done (by kernel_rfl) ?_ _
  go_wp2
  go_ret
  exact ⟨by simp, (bq (by with_reducible repeat' first | assumption | constructor | go_size))⟩

theorem from_num (hE : Env w) (hD : DigQ x) : Calls Tryz.prog 55 #[bs (tq x)] w (FracPost x w) := by
 have HE := qh hE
 have hi : (Lib.itoa x.num).length ≤ 5001 := itoa_len hD.num
 have h2 := hD.den
 have HR1 := qh (fun W => read_int (w := W) x.num hD.num)
 have HR2 := qh (fun W => read_nat (w := W) x.den hD.den)
 by_cases hd : x.den = 1
 ·have e : tq x = Lib.itoa x.num := by unfold tq; rw [if_pos hd]
  have hW := qh (show ((x.num : Int) : Rat) = x from Rat.ext rfl hd.symm)
  rw [e]
  have HC := qh (cut_miss (slash_itoa x.num))
  obtain ⟨l, hl⟩ : ∃ l, Lib.itoa x.num = l := ⟨_, rfl⟩
  rw [hl] at hi HR1 HC ⊢
  have HL := qh (show l.length < 4294967281 by omega)
  clear hE hD hd e hl hi h2 HR2
  go_enter Tryz.func55, Tryz.ntmps55
  go_wp2_with (first
   | (go_at_call 42; ((with_reducible refine (cut_fact HC.out (HE.out.below (bq (by with_reducible repeat' first | assumption | constructor | go_size))) HL.out).mono ?_); rintro e1 w1 ⟨rfl, hb1⟩); obtain ⟨hc1, hf1⟩ := bcell hb1; (try simp only [dw] at hc1 hf1); have hz1_0 : w.heap.size < w1.heap.size := szl hb1 (by go_size))
   | (go_at_call 91; ((with_reducible refine (HR1.out _).mono ?_); rintro e2 w2 ⟨s2, A2, n2, c2, rfl, hr2, hb2⟩); obtain ⟨hc2, hf2⟩ := bcell hb2; (try simp only [dw] at hc2 hf2); have hz2_0 : w.heap.size < w2.heap.size := szl hb2 (by go_size))
   | (go_at_call 49; ((with_reducible refine (whole_fact hW.out hr2).mono ?_); rintro e3 w3 ⟨s3, A3, n3, c3, t3, B3, m3, d3, rfl, ⟨hr3, hq3⟩, hb3⟩); obtain ⟨hc3, hf3⟩ := bcell hb3; (try simp only [dw] at hc3 hf3); have hz3_0 : w.heap.size < w3.heap.size := szl hb3 (by go_size)))
  exact bodyPost_ret (v := .agg #[.int .i64 (s3), .slice (A3) (n3) (c3), .int .i64 (t3), .slice (B3) (m3) (d3)]) (by simp [results, Tryz.results55, go_sem, hc3, hz2_0, hc2, hz1_0, hc1]) rfl (frac_ret rfl ⟨(by with_reducible repeat first | assumption | apply rD | apply rN | apply rA | refine rP ?_ rfl (by simp [go_sem, hc3, hz2_0, hc2, hz1_0, hc1]) | refine rB ?_ ‹_›), (by with_reducible repeat first | assumption | apply rD | apply rN | apply rA | refine rP ?_ rfl (by simp [go_sem, hc3, hz2_0, hc2, hz1_0, hc1]) | refine rB ?_ ‹_›)⟩ (bq (by with_reducible repeat' first | assumption | constructor | go_size)))
 ·have e : tq x = Lib.itoa x.num ++ 47 :: Lib.decDigits x.den := by unfold tq; rw [if_neg hd]
  rw [e]
  have HC := qh (cut_hit (Lib.decDigits x.den) (slash_itoa x.num))
  have HL : Hid ((Lib.itoa x.num ++ 47 :: Lib.decDigits x.den).length < 4294967281) := qh (by simp; omega)
  obtain ⟨l, hl⟩ : ∃ l, Lib.itoa x.num = l := ⟨_, rfl⟩
  obtain ⟨k, hk⟩ : ∃ l, Lib.decDigits x.den = l := ⟨_, rfl⟩
  rw [hl] at HR1 HC HL ⊢
  rw [hk] at HR2 HC HL ⊢
  obtain ⟨L, hLL⟩ : ∃ L, l ++ 47 :: k = L := ⟨_, rfl⟩
  rw [hLL] at HC HL ⊢
  clear hE hD hd e hl hi h2 hk hLL
  go_enter Tryz.func55, Tryz.ntmps55
  go_wp2_with (first
   | (go_at_call 42; ((with_reducible refine (cut_fact HC.out (HE.out.below (bq (by with_reducible repeat' first | assumption | constructor | go_size))) HL.out).mono ?_); rintro e1 w1 ⟨rfl, hb1⟩); obtain ⟨hc1, hf1⟩ := bcell hb1; (try simp only [dw] at hc1 hf1); have hz1_0 : w.heap.size < w1.heap.size := szl hb1 (by go_size))
   | (go_at_call 91; (with_reducible show Calls _ _ #[bs l] _ _); ((with_reducible refine (HR1.out _).mono ?_); rintro e2 w2 ⟨s2, A2, n2, c2, rfl, hr2, hb2⟩); obtain ⟨hc2, hf2⟩ := bcell hb2; (try simp only [dw] at hc2 hf2); have hz2_0 : w.heap.size < w2.heap.size := szl hb2 (by go_size))
   | (go_at_call 91; (with_reducible show Calls _ _ #[bs k] _ _); ((with_reducible refine (HR2.out _).mono ?_); rintro e3 w3 ⟨s3, A3, n3, c3, rfl, hr3, hb3⟩); obtain ⟨hc3, hf3⟩ := bcell hb3; (try simp only [dw] at hc3 hf3); have hz3_0 : w.heap.size < w3.heap.size := szl hb3 (by go_size)))
  exact bodyPost_ret (v := .agg #[.int .i64 (s2), .slice (A2) (n2) (c2), .int .i64 (s3), .slice (A3) (n3) (c3)]) (by simp [results, Tryz.results55, go_sem, hc3, hz2_0, hc2, hz1_0, hc1]) rfl (frac_ret rfl ⟨(by with_reducible repeat first | assumption | apply rD | apply rN | apply rA | refine rP ?_ rfl (by simp [go_sem, hc3, hz2_0, hc2, hz1_0, hc1]) | refine rB ?_ ‹_›), (by with_reducible repeat first | assumption | apply rD | apply rN | apply rA | refine rP ?_ rfl (by simp [go_sem, hc3, hz2_0, hc2, hz1_0, hc1]) | refine rB ?_ ‹_›)⟩ (bq (by with_reducible repeat' first | assumption | constructor | go_size)))
end

abbrev ten : List UInt8 := [48, 49, 50, 51, 52, 53, 54, 55, 56, 57]
def dgs (l : List UInt8) : Bool := !l.isEmpty && l.all Dig.isDig
theorem ten_dig (c : UInt8) : ten.contains c = Dig.isDig c := by
 have : ∀ k : Fin 256, ten.contains (UInt8.ofNat k.val) = Dig.isDig (UInt8.ofNat k.val) := by decide +kernel
 have h := this ⟨c.toNat, c.toNat_lt⟩
 rw [UInt8.ofNat_toNat] at h
 exact h
theorem dropWhile_nil {p : UInt8 → Bool} : ∀ (l : List UInt8), l.dropWhile p = [] ↔ l.all p = true
 | [] => by simp
 | c :: l => by
   by_cases h : p c = true
   ·simp [List.dropWhile, h, dropWhile_nil l]
   ·simp [List.dropWhile, h]
theorem all_reverse {p : UInt8 → Bool} (l : List UInt8) : l.reverse.all p = l.all p := by simp
theorem dropWhile_head {p : UInt8 → Bool} : ∀ (l : List UInt8), l.dropWhile p = [] ∨ ∃ c r, l.dropWhile p = c :: r ∧ p c = false
 | [] => Or.inl rfl
 | c :: l => by
   by_cases h : p c = true
   ·simp only [List.dropWhile, h]; exact dropWhile_head l
   ·exact Or.inr ⟨c, l, by simp [List.dropWhile, h], by simpa using h⟩
theorem trim_nil (l : List UInt8) : Lib.trimS l ten = [] ↔ l.all Dig.isDig = true := by
 have e : (fun c => ten.contains c) = Dig.isDig := funext ten_dig
 unfold Lib.trimS Lib.trimLeftS Lib.trimRightS
 rw [e, dropWhile_nil (p := Dig.isDig), all_reverse]
 rcases dropWhile_head (p := Dig.isDig) l.reverse with h | ⟨c, r, h, hc⟩
 ·rw [h]
  have h1 := (dropWhile_nil l.reverse).1 h
  rw [all_reverse] at h1
  simp [h1]
 ·rw [h]
  have h1 : ¬ (l.all Dig.isDig = true) := fun h2 => by
   rw [← all_reverse, ← dropWhile_nil, h] at h2
   cases h2
  simp [hc, h1]
theorem beq_bytes (a b : List UInt8) : ((⟨a.toArray⟩ : ByteArray) == ⟨b.toArray⟩) = (a == b) := by
 show (a.toArray == b.toArray) = (a == b)
 simp
section
variable {w : World} {l : List UInt8}
theorem trimDigits_any (hl : l.length ≤ 9223372036854775807) : Calls Tryz.prog 90 #[bs l, .string ⟨#[48, 49, 50, 51, 52, 53, 54, 55, 56, 57]⟩] w fun e w' => e = .returned (bs (Lib.trimS l ten)) ∧ Below w.heap.size w w' :=
 (Any.strings_Trim_laid Tryz.lays160 (by kernel_rfl) ⟨l.toArray⟩ ⟨#[48, 49, 50, 51, 52, 53, 54, 55, 56, 57]⟩ w (by simpa [ByteArray.size] using hl) (by decide) (ascii_of_all (by decide))).mono fun e w' ⟨he, hw⟩ => ⟨by simpa using he, hw⟩
theorem trimZeros_any {m : List UInt8} (hm : l.dropWhile (· == 48) = m) : Calls Tryz.prog 92 #[bs l, .string ⟨#[48]⟩] w fun e w' => e = .returned (bs m) ∧ Below w.heap.size w w' := by
 subst hm
 refine (Tryz.strings_TrimLeft_one ⟨l.toArray⟩ 48 (by decide) w).mono ?_
 rintro e w' ⟨rfl, rfl⟩
 refine ⟨?_, Below.refl _ _⟩
 simp [Lib.trimLeftB]
theorem eq_empty (l : List UInt8) : ((⟨l.toArray⟩ : ByteArray) == ⟨#[]⟩) = l.isEmpty := by
 rw [show (#[] : Array UInt8) = ([] : List UInt8).toArray from rfl, beq_bytes]
 cases l <;> rfl
theorem digits_num (hl : l.length ≤ 9223372036854775807) : Calls Tryz.prog 43 #[bs l] w fun e w' => e = .returned (.bool (dgs l)) ∧ Below w.heap.size w w' := by
 have HL := qh hl
 clear hl
 by_cases h0 : l = []
 ·subst h0
  go_enter Tryz.func43, Tryz.ntmps43
  go_wp2
  go_ret
  exact ⟨rfl, (bq (by with_reducible repeat' first | assumption | constructor | go_size))⟩
 ·obtain ⟨m, hm⟩ : ∃ m, Lib.trimS l ten = m := ⟨_, rfl⟩
  have e : dgs l = m.isEmpty := by
   rw [Bool.eq_iff_iff, List.isEmpty_iff, ← hm, trim_nil]
   have : l.isEmpty = false := by cases l with | nil => exact absurd rfl h0 | cons => rfl
   simp [dgs, this]
  rw [e]
  have HT := qh (fun W => hm ▸ trimDigits_any (w := W) HL.out)
  have q0 := eq_empty l
  have q1 := eq_empty m
  have q2 : l.isEmpty = false := by cases l with | nil => exact absurd rfl h0 | cons => rfl
  clear hm e h0
  go_enter Tryz.func43, Tryz.ntmps43
  go_wp2_with (go_at_call 90; ((with_reducible refine (HT.out _).mono ?_); rintro e1 w1 ⟨rfl, hb1⟩); obtain ⟨hc1, hf1⟩ := bcell hb1; (try simp only [dw] at hc1 hf1))
  go_ret
  exact ⟨rfl, (bq (by with_reducible repeat' first | assumption | constructor | go_size))⟩
theorem digits_fact {g : Bool} (hg : dgs l = g) (hl : l.length ≤ 9223372036854775807) : Calls Tryz.prog 43 #[bs l] w fun e w' => e = .returned (.bool g) ∧ Below w.heap.size w w' := hg ▸ digits_num hl
theorem plain_num (hl : l.length ≤ 9223372036854775807) : Calls Tryz.prog 96 #[bs l] w fun e w' => e = .returned (.bool (Dig.plain l)) ∧ Below w.heap.size w w' := by
 have HL := qh hl
 clear hl
 by_cases h0 : dgs l = false
 ·have e : Dig.plain l = false := by
   unfold Dig.plain; unfold dgs at h0; rw [h0]; rfl
  rw [e]
  have H0 := qh h0
  clear e h0
  go_enter Tryz.func96, Tryz.ntmps96
  go_wp2_with (go_at_call 43; ((with_reducible refine (digits_fact H0.out HL.out).mono ?_); rintro e1 w1 ⟨rfl, hb1⟩); obtain ⟨hc1, hf1⟩ := bcell hb1; (try simp only [dw] at hc1 hf1))
  go_ret
  exact ⟨rfl, (bq (by with_reducible repeat' first | assumption | constructor | go_size))⟩
 ·have H0 := qh (show dgs l = true by simpa using h0)
  cases l with
  | nil => exact absurd rfl h0
  | cons c r =>
  have e : Dig.plain (c :: r) = ((c :: r == [48]) || (c != 48)) := by
   have h := H0.out
   unfold dgs at h
   unfold Dig.plain
   rw [h]
   by_cases hc : c = 48 <;> simp [hc, bne]
  rw [e]
  have q2 : ∀ h, (⟨(c :: r).toArray⟩ : ByteArray)[0]'h = c := fun h => rfl
  clear h0 e
  by_cases hc : c = 48
  ·subst hc
   cases r with
   | nil =>
     go_enter Tryz.func96, Tryz.ntmps96
     go_wp2_with (go_at_call 43; ((with_reducible refine (digits_fact H0.out HL.out).mono ?_); rintro e1 w1 ⟨rfl, hb1⟩); obtain ⟨hc1, hf1⟩ := bcell hb1; (try simp only [dw] at hc1 hf1))
     go_ret
     exact ⟨rfl, (bq (by with_reducible repeat' first | assumption | constructor | go_size))⟩
   | cons d r =>
     go_enter Tryz.func96, Tryz.ntmps96
     go_wp2_with (go_at_call 43; ((with_reducible refine (digits_fact H0.out HL.out).mono ?_); rintro e1 w1 ⟨rfl, hb1⟩); obtain ⟨hc1, hf1⟩ := bcell hb1; (try simp only [dw] at hc1 hf1))
     go_ret
     exact ⟨by simp, (bq (by with_reducible repeat' first | assumption | constructor | go_size))⟩
  ·have q3 : (c == 48) = false := by rw [beq_eq_false_iff_ne]; exact hc
   have q4 : (((c.toNat : Nat) : Int) != 48) = true := by
    rw [bne_iff_ne]; intro h
    exact hc (UInt8.toNat_inj.1 (by rw [show (48 : UInt8).toNat = 48 from rfl]; omega))
   have q5 : (c :: r == [48]) = false := by simp [hc]
   have q6 : (c != 48) = true := by simp [hc]
   rw [q5, q6]
   clear q5 q6 hc
   go_enter Tryz.func96, Tryz.ntmps96
   go_wp2_with (go_at_call 43; ((with_reducible refine (digits_fact H0.out HL.out).mono ?_); rintro e1 w1 ⟨rfl, hb1⟩); obtain ⟨hc1, hf1⟩ := bcell hb1; (try simp only [dw] at hc1 hf1))
   go_ret
   exact ⟨by simp, (bq (by with_reducible repeat' first | assumption | constructor | go_size))⟩
theorem plain_fact {g : Bool} (hg : Dig.plain l = g) (hl : l.length ≤ 9223372036854775807) : Calls Tryz.prog 96 #[bs l] w fun e w' => e = .returned (.bool g) ∧ Below w.heap.size w w' := hg ▸ plain_num hl
end
theorem val_zeros : ∀ (l : List UInt8), Dig.val (l.dropWhile (· == 48)) = Dig.val l
 | [] => rfl
 | c :: l => by
   by_cases h : c = 48
   ·subst h
    have e : Dig.val (48 :: l) = Dig.val l := by rw [Dig.val_cons]; simp
    rw [e]
    simpa [List.dropWhile] using val_zeros l
   ·have : (c == 48) = false := by rw [beq_eq_false_iff_ne]; exact h
    simp [List.dropWhile, this]
theorem digs_dropWhile {p : UInt8 → Bool} : ∀ {l : List UInt8}, Digs l → Digs (l.dropWhile p) ∧ (l.dropWhile p).length ≤ l.length
 | [], _ => ⟨by intro c hc; simp at hc, by simp⟩
 | c :: l, h => by
   by_cases hp : p c = true
   ·simp only [List.dropWhile, hp]
    have := digs_dropWhile (p := p) (l := l) (fun x hx => h x (List.mem_cons_of_mem _ hx))
    exact ⟨this.1, Nat.le_trans this.2 (by simp)⟩
   ·simp only [List.dropWhile, hp]
    exact ⟨h, Nat.le_refl _⟩
section
variable {w : World} {l : List UInt8}
theorem readz_num (h : Digs l) (hl : l.length ≤ 5000) : Calls Tryz.prog 44 #[bs l] w (IntPost ((Dig.val l : Nat) : Int) w) := by
 obtain ⟨m, hm⟩ : ∃ m, l.dropWhile (· == 48) = m := ⟨_, rfl⟩
 have h1 := digs_dropWhile (p := (· == 48)) h
 have h2 := val_zeros l
 rw [hm] at h1 h2
 rw [← h2]
 have HM := qh hm
 have HR := qh (fun W => read_text (w := W) (not_dash h1.1) (trim_dash h1.1) h1.1 (Nat.le_trans h1.2 hl))
 clear h hl hm h1 h2
 go_enter Tryz.func44, Tryz.ntmps44
 go_wp2_with (first
  | (go_at_call 92; ((with_reducible refine (trimZeros_any HM.out).mono ?_); rintro e1 w1 ⟨rfl, hb1⟩); obtain ⟨hc1, hf1⟩ := bcell hb1; (try simp only [dw] at hc1 hf1); have hz1_0 : w.heap.size < w1.heap.size := szl hb1 (by go_size))
  | (go_at_call 91; ((with_reducible refine (HR.out _).mono ?_); rintro e2 w2 ⟨s2, A2, n2, c2, rfl, hr2, hb2⟩); obtain ⟨hc2, hf2⟩ := bcell hb2; (try simp only [dw] at hc2 hf2); have hz2_0 : w.heap.size < w2.heap.size := szl hb2 (by go_size)))
 have e2 : Rep w2 s2 A2 n2 c2 ((Dig.val m : Nat) : Int) := hr2
 exact bodyPost_ret (v := .agg #[.int .i64 (s2), .slice (A2) (n2) (c2)]) (by simp [results, Tryz.results44, go_sem, hc2, hz1_0, hc1]) rfl (int_ret rfl ((by with_reducible repeat first | assumption | apply rD | apply rN | apply rA | refine rP ?_ rfl (by simp [go_sem, hc2, hz1_0, hc1]) | refine rB ?_ ‹_›)) (bq (by with_reducible repeat' first | assumption | constructor | go_size)))
end

/-- What give hands back of a fraction: its notation, or nothing and ErrLarge. -/
def giveT (x : Rat) : List UInt8 := if lngQ x then [] else tq x
def giveE (x : Rat) : Int := if lngQ x then 4 else 0
theorem DigQ.of {x : Rat} (h : lngQ x = false) : DigQ x := by
 simp only [lngQ, Bool.or_eq_false_iff, lng, decide_eq_false_iff_not] at h
 exact ⟨by omega, by have := h.2; simp only [Int.natAbs_natCast] at this; omega⟩
section
variable {s t : Int} {A B : Option Addr} {n c m d : Nat} {w : World} {x : Rat}
theorem large_fact {g : Bool} (hg : lngQ x = g) (h : RepF w s A n c t B m d x) (hE : Env w) (hS : StrQ x) : Calls Tryz.prog 80 #[fv s A n c t B m d] w fun e w' => e = .returned (.bool g) ∧ Below w.heap.size w w' := hg ▸ large_num h hE hS
theorem give_num (h : RepF w s A n c t B m d x) (hE : Env w) (hS : StrQ x) : Calls Tryz.prog 51 #[fv s A n c t B m d] w fun e w' => e = .returned (.tuple #[bs (giveT x), .int .i64 (giveE x)]) ∧ Below w.heap.size w w' := by
 have HR := qh h
 have HE := qh hE
 have HS := qh hS
 obtain ⟨g, hg⟩ : ∃ g, lngQ x = g := ⟨_, rfl⟩
 have HG := qh hg
 cases g
 ·have HD := qh (DigQ.of hg)
  have e1 : giveT x = tq x := by unfold giveT; rw [hg]; rfl
  have e2 : giveE x = 0 := by unfold giveE; rw [hg]; rfl
  rw [e1, e2]
  clear h hE hS hg e1 e2
  go_enter Tryz.func51, Tryz.ntmps51
  go_wp2_with (first
   | (go_at_call 80; ((with_reducible refine (large_fact HG.out (HR.out.below (bq (by with_reducible repeat' first | assumption | constructor | go_size))) (HE.out.below (bq (by with_reducible repeat' first | assumption | constructor | go_size))) HS.out).mono ?_); rintro e1 w1 ⟨rfl, hb1⟩); obtain ⟨hc1, hf1⟩ := bcell hb1; (try simp only [dw] at hc1 hf1); have hz1_0 : w.heap.size < w1.heap.size := szl hb1 (by go_size))
   | (go_at_call 81; ((with_reducible refine (text_num (HR.out.below (bq (by with_reducible repeat' first | assumption | constructor | go_size))) (HE.out.below (bq (by with_reducible repeat' first | assumption | constructor | go_size))) HS.out HD.out).mono ?_); rintro e2 w2 ⟨rfl, hb2⟩); obtain ⟨hc2, hf2⟩ := bcell hb2; (try simp only [dw] at hc2 hf2); have hz2_0 : w.heap.size < w2.heap.size := szl hb2 (by go_size)))
  go_ret2
  exact ⟨rfl, (bq (by with_reducible repeat' first | assumption | constructor | go_size))⟩
 ·have e1 : giveT x = [] := by unfold giveT; rw [hg]; rfl
  have e2 : giveE x = 4 := by unfold giveE; rw [hg]; rfl
  rw [e1, e2]
  clear h hE hS hg e1 e2
  go_enter Tryz.func51, Tryz.ntmps51
  go_wp2_with (go_at_call 80; ((with_reducible refine (large_fact HG.out (HR.out.below (bq (by with_reducible repeat' first | assumption | constructor | go_size))) (HE.out.below (bq (by with_reducible repeat' first | assumption | constructor | go_size))) HS.out).mono ?_); rintro e1 w1 ⟨rfl, hb1⟩); obtain ⟨hc1, hf1⟩ := bcell hb1; (try simp only [dw] at hc1 hf1); have hz1_0 : w.heap.size < w1.heap.size := szl hb1 (by go_size))
  go_ret2
  exact ⟨rfl, (bq (by with_reducible repeat' first | assumption | constructor | go_size))⟩
end
end Go.Proofs.YtoccfcpggomlaaaGreatDoor
