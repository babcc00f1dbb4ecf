/- An evaluator for the model: part U. -/
import Derived.Test.YtnbnoacadhoimaaGreatDoorAxT
import Derived.Lib.ConvBytes
import Derived.Laws.BytesArg
set_option linter.unusedSimpArgs false
set_option linter.unusedVariables false
set_option maxRecDepth 100000
set_option maxHeartbeats 8000000
namespace Go.Proofs.YtnbnoacadhoimaaGreatDoor.Ax
open Go Go.RowKit
set_option linter.unusedSimpArgs false
set_option linter.unusedVariables false
section
variable {P : Program} {w : World} {ι : Emb} {o : Oper} {tm : Tm} {h h' : Hp} {v : AV}
theorem byteK_eq {ih : Option (List UInt8)} {a : AV} {s : List UInt8} (e : byteK ih a = some s) : ∃ n r, a = .int .u8 n ∧ ih = some r ∧ s = UInt8.ofNat n.toNat :: r := by
  unfold byteK at e
  split at e
  · obtain ⟨l, h1, h2⟩ := consO_eq e
    exact ⟨_, l, rfl, h1, h2⟩
  · cases e
theorem bytesOf_eq : ∀ (cs : List AV) (vals : List Value) (s : List UInt8), bytesOf cs = some s → VRs ι cs vals → ∃ xs : List Int, xs.length = cs.length ∧ vals = xs.map (Value.int .u8) ∧ s = xs.map fun n => UInt8.ofNat n.toNat
  | [], vals, s, e, h => by
    have h1 := VRs.nil.1 h
    have h2 := Option.some.inj (show some [] = some s from e)
    subst h1; subst h2
    exact ⟨[], rfl, rfl, rfl⟩
  | a :: cs, vals, s, e, h => by
    obtain ⟨n, r, rfl, hr, rfl⟩ := byteK_eq (show byteK (bytesOf cs) a = some s from e)
    obtain ⟨v, vs, rfl, h1, h2⟩ := VRs.cons.1 h
    obtain ⟨xs, h3, rfl, rfl⟩ := bytesOf_eq cs vs r hr h2
    have h4 := VR.int.1 h1
    subst h4
    exact ⟨n :: xs, by simp [h3], rfl, rfl⟩
theorem strOfNums_eq (xs : List Int) : strOfNums xs = ByteArray.mk ⟨xs.map fun n => UInt8.ofNat n.toNat⟩ := by
  simp [strOfNums]
theorem isU8_eq {d : Option TypeDesc} (e : isU8 P d = true) : ∃ el, d = some (.slice el) ∧ P.underlying el = some (.int .u8) := by
  unfold isU8 at e
  split at e
  · rename_i el
    split at e
    · rename_i hu; exact ⟨el, rfl, hu⟩
    · cases e
  · cases e
theorem oConv_ok {src d : TypeId} {x : Operand} (hop : o.op = .convert src d x) (e : oConv src d x P tm h = .val v h') : OpOk P o tm h h' v (idsOf (opd tm x)) [] := by
  unfold oConv at e
  cases hs : P.underlying src with
  | none => rw [hs] at e; cases e
  | some us =>
    rw [hs] at e
    have e1 : cv P src d h (opd tm x) = .val v h' := e
    clear e
    have run : ∀ (a : Act) (w : World), (execOp a.eval o).run P w = ((convert src d (a.eval x)).run P w).andThen fun v w => .ok (.value v) w := by
      intro a w
      simp [execOp, hop]
    unfold cv at e1
    split at e1
    · rename_i id off len cap hp
      unfold cvSlc at e1
      split at e1
      · rename_i hd
        cases hu8 : isU8 P (P.underlying src) with
        | false => rw [hu8] at e1; cases e1
        | true =>
          rw [hu8] at e1
          simp only [cond_true] at e1
          obtain ⟨el, h1, h2⟩ := isU8_eq hu8
          split at e1
          · rename_i cs hcs
            split at e1
            · rename_i s hb
              obtain ⟨rfl, rfl⟩ := val_inj e1
              split at hcs
              · rename_i bs hbs
                refine OpOk.pure fun ι H w a hW ho hA => ?_
                have hx := ho x (by simp [hop, Op.operands])
                rw [hp] at hx hA
                obtain ⟨l, y, c, hl, hv, hc, hcap⟩ := VR.slc.1 hx
                have hR := blk_cellR hW (hA id (by simp [idsOf])) hl hbs
                obtain ⟨vals, g1, g2, g3⟩ := slab_list hR hcs
                obtain ⟨xs, k1, rfl, rfl⟩ := bytesOf_eq cs vals s hb g2
                have hlen : xs.length = len := by rw [← g1]; simp
                have hlc : len ≤ c := by cases cap <;> simp [capR] at hcap <;> omega
                refine ⟨_, ?_, VR.str.2 rfl⟩
                rw [run, hv, run_convert_bytes_arg w src el h1 h2 l.b y len c xs hlen (fun i hi => ?_) d hd, strOfNums_eq]
                · rfl
                · have hy := hc (by omega)
                  subst hy
                  refine g3 i _ ?_
                  rw [List.getElem?_map, List.getElem?_eq_getElem (by omega)]
                  simp [List.getD_eq_getElem?_getD, List.getElem?_eq_getElem (show i < xs.length by omega)]
              · cases hcs
            · cases e1
          · cases e1
      · cases e1
    · rename_i k n hp
      split at e1
      · rename_i kd hd
        obtain ⟨rfl, rfl⟩ := val_inj e1
        refine OpOk.pure fun ι H w a hW ho hA => ?_
        have hx := ho x (by simp [hop, Op.operands])
        rw [hp] at hx
        have hv := VR.int.1 hx
        refine ⟨.int kd (kd.wrap n), ?_, VR.int.2 (by rw [wrp_eq])⟩
        rw [run, hv]
        cases us <;> simp [convert, run_underlying hs, run_underlying hd, Conv.intToInt]
      · cases e1
    · rename_i s hp
      unfold cvStr at e1
      split at e1
      · rename_i hd
        obtain ⟨rfl, rfl⟩ := val_inj e1
        refine OpOk.pure fun ι H w a hW ho hA => ?_
        have hx := ho x (by simp [hop, Op.operands])
        rw [hp] at hx
        have hv := VR.str.1 hx
        refine ⟨.string ⟨⟨s⟩⟩, ?_, VR.str.2 rfl⟩
        rw [run, hv]
        cases us <;> simp [convert, run_underlying hs, run_underlying hd]
      · rename_i el hd
        split at e1
        · rename_i he
          obtain ⟨rfl, rfl⟩ := val_inj e1
          refine OpOk.alloc fun ι H w a hW ho hA hn => ?_
          have hx := ho x (by simp [hop, Op.operands])
          rw [hp] at hx
          have hv := VR.str.1 hx
          have hN : NewW w (Lib.bytesWorld w el ⟨⟨s⟩⟩) (Lib.bytesCells w el ⟨⟨s⟩⟩) el ((Lib.bytesCells w el ⟨⟨s⟩⟩).size, (Lib.bytesCells w el ⟨⟨s⟩⟩).size + 1) :=
            ⟨rfl, rfl, rfl, Lib.bytesWorld_size _ _ _, fun B hB => Lib.bytesWorld_at_old _ _ _ B hB, Lib.bytesWorld_at_new _ _ _⟩
          have hsz : (Lib.bytesCells w el ⟨⟨s⟩⟩).size = s.length + (grownCap w s.length 0 el - s.length) := by simp [Lib.bytesCells, data_size]
          have hge := grownCap_ge w s.length 0 el
          have hVR : VR (put1 ι h.nx ⟨w.heap.size, 0, (Lib.bytesCells w el ⟨⟨s⟩⟩).size⟩) (.slc h.nx 0 (lenL s) (.r 1)) (.slice (some ⟨w.heap.size, 0, none⟩) s.length (grownCap w s.length 0 el)) := by
            rw [lenL_eq]
            refine VR.slc.2 ⟨_, 0, grownCap w s.length 0 el, put1_at, rfl, fun _ => rfl, hge, fun _ => ?_⟩
            show 0 + grownCap w s.length 0 el * 1 ≤ (Lib.bytesCells w el ⟨⟨s⟩⟩).size
            rw [hsz]; omega
          refine ⟨_, _, _, _, _, ?_, hN, cells_new hN.new (by rw [mapL_eq, List.length_map, hsz]; omega) (fun j b u hb hu => ?_), hVR⟩
          · rw [run, hv, Lib.run_convert_string_bytes w src d el ⟨⟨s⟩⟩ hs hd he]
            rfl
          · rw [mapL_eq, List.getElem?_map] at hb
            cases hj : s[j]? with
            | none => rw [hj] at hb; cases hb
            | some q =>
              rw [hj] at hb
              have h1 := Option.some.inj hb
              subst h1
              have hlt := lt_of_some hj
              have h2 : (Lib.bytesCells w el ⟨⟨s⟩⟩)[j]? = some (.int .u8 (q.toNat : Int)) := by
                simp [Lib.bytesCells, Array.getElem?_append, hlt, hj]
                rw [List.getElem?_eq_getElem hlt] at hj
                rw [Option.some.inj hj]
              have h3 := Option.some.inj (h2.symm.trans hu)
              subst h3
              exact VR.int.2 rfl
        · cases e1
      · cases e1
    · cases e1
end
end Go.Proofs.YtnbnoacadhoimaaGreatDoor.Ax
