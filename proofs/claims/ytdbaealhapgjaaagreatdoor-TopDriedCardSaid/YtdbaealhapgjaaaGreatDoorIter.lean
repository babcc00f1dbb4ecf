/-
  DERIVED: THE SHELF's CONTRACTS AT THIS DUMP, IN PLAIN WORDS (tools/lay-plain.mjs out of 'TryzIter.lean', which tools/lay-shelf.mjs wrote): THE SAME DECLARATIONS UNDER THE SAME NAMES: 'import', 'namespace', 'open', 'def', 'theorem' AND NOTHING ELSE: no command of the shelf's: FOR A HAND-IN. Each laying: the table of numbers ('.._ren') and one theorem, a field a fact of the dump's own or the kernel's comparison; each contract: ONE APPLICATION.
-/
import Derived.Shelf.SlIter.Nil
import Derived.Shelf.SortM.Plain
import Derived.Shelf.SortM.SortNone
import Derived.Ground.GgzProg
import Derived.Ground.SlgmProg
import Derived.Test.YtdbaealhapgjaaaGreatDoorProg
namespace Go.Proofs
open Go.Shelf
def Tryz.keys178_ren : Go.Shelf.Ren := ⟨fun | 7 => 178 | 10 => 214 | n => n, fun | 23 => 104 | 26 => 9 | 3 => 82 | 28 => 223 | 0 => 0 | 27 => 222 | 33 => 91 | 4 => 4 | n => n, fun | n => n⟩
theorem Tryz.keys178 : Go.Proofs.SlLaysZ.n7 Tryz.prog Tryz.keys178_ren := {
  mixed := by kernel_rfl
  f7 := ⟨Tryz.f178.name, by decide, Tryz.func178.trans (congrArg some (by kernel_rfl))⟩
  f10 := ⟨Tryz.f214.name, by decide, Tryz.func214.trans (congrArg some (by kernel_rfl))⟩
  t0 := Tryz.underlying0
  a0 := Tryz.isAgg0
  z0 := Tryz.sizeOf0
  v0 := Tryz.zeroValue0
  t4 := Tryz.underlying4
  a4 := Tryz.isAgg4
  z4 := Tryz.sizeOf4
  v4 := Tryz.zeroValue4
  t23 := Tryz.underlying104
  a23 := Tryz.isAgg104
  z23 := Tryz.sizeOf104
  v23 := Tryz.zeroValue104
  t26 := Tryz.underlying9
  a26 := Tryz.isAgg9
  z26 := Tryz.sizeOf9
  v26 := Tryz.zeroValue9
  t27 := Tryz.underlying222
  a27 := Tryz.isAgg222
  z27 := Tryz.sizeOf222
  v27 := Tryz.zeroValue222
  t28 := Tryz.underlying223
  a28 := Tryz.isAgg223
  z28 := Tryz.sizeOf223
  v28 := Tryz.zeroValue223
  t33 := Tryz.underlying91
  a33 := Tryz.isAgg91
  z33 := Tryz.sizeOf91
  v33 := Tryz.zeroValue91 }
def Tryz.sorted177_ren : Go.Shelf.Ren := ⟨fun | 6 => 177 | 8 => 212 | 9 => 213 | 11 => 244 | 13 => 180 | 12 => 245 | 23 => 223 | 24 => 195 | 14 => 268 | 15 => 269 | 16 => 270 | 17 => 271 | 18 => 272 | 19 => 273 | 20 => 274 | 21 => 275 | 22 => 276 | 25 => 286 | 26 => 247 | 27 => 248 | 28 => 287 | 29 => 288 | 30 => 181 | 31 => 292 | n => n, fun | 26 => 9 | 28 => 223 | 24 => 199 | 0 => 0 | 3 => 3 | 37 => 227 | 48 => 253 | 50 => 198 | 4 => 4 | 40 => 247 | 39 => 246 | 45 => 144 | 5 => 5 | 9 => 9 | 51 => 273 | 55 => 277 | 57 => 302 | 58 => 303 | 33 => 91 | n => n, fun | n => n⟩
theorem Tryz.sorted177 : Go.Proofs.SlLaysZ.n6 Tryz.prog Tryz.sorted177_ren := {
  mixed := by kernel_rfl
  f6 := ⟨Tryz.f177.name, by decide, Tryz.func177.trans (congrArg some (by kernel_rfl))⟩
  f8 := ⟨Tryz.f212.name, by decide, Tryz.func212.trans (congrArg some (by kernel_rfl))⟩
  f11 := ⟨Tryz.f244.name, by decide, Tryz.func244.trans (congrArg some (by kernel_rfl))⟩
  t0 := Tryz.underlying0
  a0 := Tryz.isAgg0
  z0 := Tryz.sizeOf0
  v0 := Tryz.zeroValue0
  t24 := Tryz.underlying199
  a24 := Tryz.isAgg199
  z24 := Tryz.sizeOf199
  v24 := Tryz.zeroValue199
  t26 := Tryz.underlying9
  a26 := Tryz.isAgg9
  z26 := Tryz.sizeOf9
  v26 := Tryz.zeroValue9
  t28 := Tryz.underlying223
  a28 := Tryz.isAgg223
  z28 := Tryz.sizeOf223
  v28 := Tryz.zeroValue223
  i26 := by kernel_rfl }
def Tryz.sort213_ren : Go.Shelf.Ren := ⟨fun | 6 => 213 | 8 => 180 | 9 => 245 | 19 => 223 | 20 => 195 | 21 => 268 | 22 => 269 | 23 => 270 | 24 => 271 | 25 => 272 | 26 => 273 | 27 => 274 | 28 => 275 | 29 => 276 | 36 => 286 | 31 => 247 | 32 => 248 | 37 => 287 | 38 => 288 | 39 => 181 | 41 => 292 | n => n, fun | 27 => 199 | 29 => 9 | 3 => 3 | 32 => 227 | 26 => 199 | 0 => 0 | 44 => 253 | 46 => 198 | 4 => 4 | 36 => 247 | 35 => 246 | 41 => 144 | 5 => 5 | 9 => 9 | 53 => 273 | 57 => 277 | 63 => 302 | 64 => 303 | n => n, fun | n => n⟩
theorem Tryz.sort213 : Go.Proofs.SlLaysM.n6 Tryz.prog Tryz.sort213_ren := {
  mixed := by kernel_rfl
  f6 := ⟨Tryz.f213.name, by decide, Tryz.func213.trans (congrArg some (by kernel_rfl))⟩
  f8 := Tryz.func180.trans (congrArg some (by kernel_rfl))
  f9 := ⟨Tryz.f245.name, by decide, Tryz.func245.trans (congrArg some (by kernel_rfl))⟩
  f19 := Tryz.func223.trans (congrArg some (by kernel_rfl))
  f20 := Tryz.func195.trans (congrArg some (by kernel_rfl))
  f21 := ⟨Tryz.f268.name, by decide, Tryz.func268.trans (congrArg some (by kernel_rfl))⟩
  f22 := ⟨Tryz.f269.name, by decide, Tryz.func269.trans (congrArg some (by kernel_rfl))⟩
  f23 := ⟨Tryz.f270.name, by decide, Tryz.func270.trans (congrArg some (by kernel_rfl))⟩
  f24 := ⟨Tryz.f271.name, by decide, Tryz.func271.trans (congrArg some (by kernel_rfl))⟩
  f25 := ⟨Tryz.f272.name, by decide, Tryz.func272.trans (congrArg some (by kernel_rfl))⟩
  f26 := ⟨Tryz.f273.name, by decide, Tryz.func273.trans (congrArg some (by kernel_rfl))⟩
  f27 := ⟨Tryz.f274.name, by decide, Tryz.func274.trans (congrArg some (by kernel_rfl))⟩
  f28 := ⟨Tryz.f275.name, by decide, Tryz.func275.trans (congrArg some (by kernel_rfl))⟩
  f29 := ⟨Tryz.f276.name, by decide, Tryz.func276.trans (congrArg some (by kernel_rfl))⟩
  f31 := Tryz.func247.trans (congrArg some (by kernel_rfl))
  f32 := Tryz.func248.trans (congrArg some (by kernel_rfl))
  f36 := ⟨Tryz.f286.name, by decide, Tryz.func286.trans (congrArg some (by kernel_rfl))⟩
  f37 := ⟨Tryz.f287.name, by decide, Tryz.func287.trans (congrArg some (by kernel_rfl))⟩
  f38 := ⟨Tryz.f288.name, by decide, Tryz.func288.trans (congrArg some (by kernel_rfl))⟩
  f39 := ⟨Tryz.f181.name, by decide, Tryz.func181.trans (congrArg some (by kernel_rfl))⟩
  f41 := ⟨Tryz.f292.name, by decide, Tryz.func292.trans (congrArg some (by kernel_rfl))⟩
  t0 := Tryz.underlying0
  a0 := Tryz.isAgg0
  z0 := Tryz.sizeOf0
  v0 := Tryz.zeroValue0
  t3 := Tryz.underlying3
  a3 := Tryz.isAgg3
  z3 := Tryz.sizeOf3
  v3 := Tryz.zeroValue3
  t4 := Tryz.underlying4
  a4 := Tryz.isAgg4
  z4 := Tryz.sizeOf4
  v4 := Tryz.zeroValue4
  t5 := Tryz.underlying5
  a5 := Tryz.isAgg5
  z5 := Tryz.sizeOf5
  v5 := Tryz.zeroValue5
  t9 := Tryz.underlying9
  a9 := Tryz.isAgg9
  z9 := Tryz.sizeOf9
  v9 := Tryz.zeroValue9
  t26 := Tryz.underlying199
  a26 := Tryz.isAgg199
  z26 := Tryz.sizeOf199
  v26 := Tryz.zeroValue199
  t27 := Tryz.underlying199
  a27 := Tryz.isAgg199
  z27 := Tryz.sizeOf199
  v27 := Tryz.zeroValue199
  t29 := Tryz.underlying9
  a29 := Tryz.isAgg9
  z29 := Tryz.sizeOf9
  v29 := Tryz.zeroValue9
  t32 := Tryz.underlying227
  a32 := Tryz.isAgg227
  z32 := Tryz.sizeOf227
  v32 := Tryz.zeroValue227
  t35 := Tryz.underlying246
  a35 := Tryz.isAgg246
  z35 := Tryz.sizeOf246
  v35 := Tryz.zeroValue246
  t36 := Tryz.underlying247
  a36 := Tryz.isAgg247
  z36 := Tryz.sizeOf247
  v36 := Tryz.zeroValue247
  t41 := Tryz.underlying144
  a41 := Tryz.isAgg144
  z41 := Tryz.sizeOf144
  v41 := Tryz.zeroValue144
  t44 := Tryz.underlying253
  a44 := Tryz.isAgg253
  z44 := Tryz.sizeOf253
  v44 := Tryz.zeroValue253
  t46 := Tryz.underlying198
  a46 := Tryz.isAgg198
  z46 := Tryz.sizeOf198
  v46 := Tryz.zeroValue198
  t53 := Tryz.underlying273
  a53 := Tryz.isAgg273
  z53 := Tryz.sizeOf273
  v53 := Tryz.zeroValue273
  t57 := Tryz.underlying277
  a57 := Tryz.isAgg277
  z57 := Tryz.sizeOf277
  v57 := Tryz.zeroValue277
  t63 := Tryz.underlying302
  a63 := Tryz.isAgg302
  z63 := Tryz.sizeOf302
  v63 := Tryz.zeroValue302
  t64 := Tryz.underlying303
  a64 := Tryz.isAgg303
  z64 := Tryz.sizeOf303
  v64 := Tryz.zeroValue303 }
open Go.RowKit Go.Maps Go.Sort in
/-- slices.Sort's two contracts at this dump, at the fence that asks nothing. -/
theorem Tryz.sorts177 (m : Nat) : AnyZ.SortsIn Tryz.prog Tryz.sorted177_ren Fence.wide m :=
  ⟨fun blk off cap ss W hH hblk hsz => callsIn_wide.2 (AnyM.slices_Sort_string Tryz.sort213 blk off cap ss W hH hblk hsz),
   fun p cap W => callsIn_wide.2 (AnyM.slices_Sort_string_none Tryz.sort213 p cap W)⟩
open Go.RowKit Go.Maps Go.Sort in
/-- **maps.Keys[map[string]bushel/num.Frac,string,bushel/num.Frac], at whatever map, the nil one too:** a function value over ONE NEW BLOCK, which holds the map. -/
theorem Tryz.maps_Keys_178 (mb : Option Nat) (W : World) : CallsIn Fence.wide 5 Tryz.prog 178 #[.map mb] W fun e w' => e = .returned (.func (.func 214) #[] #[.pointer (some ⟨W.heap.size, 0, none⟩)]) ∧ w' = W.alloc (.cells #[.map mb] 104) :=
  AnyZ.keys_in Tryz.keys178 Fence.wide 5 trivial rfl mb W
open Go.RowKit Go.Maps Go.Sort in
/-- **slices.Sorted[string] AT WHAT maps.Keys[map[string]bushel/num.Frac,string,bushel/num.Frac] HANDED BACK FOR A MAP THAT IS NOT nil** ('w': the world AHEAD of maps.Keys' call): A NEW SLICE THAT HOLDS THE MAP's KEYS, SORTED; nil just where it has none; nothing that lay before has turned. -/
theorem Tryz.slices_Sorted_keys_177_178 {H : Type} (b nn : Nat) (D0 : DataW H) (R : Value → Option (DataW H × List MemPlace)) (w : World) (hown : w.ownsMap Tryz.prog 9 R b nn D0) (hmax : Maps.size D0 ≤ maxLen) (hbytes : Maps.size D0 * 16 ≤ 140737488355328) :
    CallsIn Fence.wide 5 Tryz.prog 177 #[.func (.func 214) #[] #[.pointer (some ⟨w.heap.size, 0, none⟩)]] (w.alloc (.cells #[.map (some b)] 104)) fun e w' => ∃ (v : Value) (ss : List (List UInt8)), e = .returned v ∧ ss.Perm (strKeys D0) ∧
      w'.ownsRow (w.alloc (.cells #[.map (some b)] 104)).heap.size 9 1 v ss.length ((ss.mergeSort (fun x y => decide (x ≤ y))).map encStr) ∧ (v = .slice none 0 0 ↔ ss = []) ∧ Below (w.alloc (.cells #[.map (some b)] 104)).heap.size (w.alloc (.cells #[.map (some b)] 104)) w' := by
  have hbl := hown.lt
  have hseq : SeqGives Fence.wide 2 Tryz.prog 214 #[.pointer (some ⟨w.heap.size, 0, none⟩)] encStr (fun ss => ss.Perm (strKeys D0)) (Maps.size D0) (w.alloc (.cells #[.map (some b)] 104)) :=
    AnyZ.keys_gives (ρ := Tryz.keys178_ren) { Tryz.keys178 with } Fence.wide _ trivial rfl (by omega) w.heap.size b nn D0 _ (by simp) (by simp) (by
      obtain ⟨es, clock, hb, Ft, hs, hD⟩ := hown
      exact ⟨es, clock, (Below.heap_alloc _ _ b hbl).trans hb, Ft, hs, hD⟩)
  exact AnyZ.sorted_in Tryz.sorted177 Fence.wide 5 trivial trivial trivial trivial rfl (by omega) (Tryz.sorts177 _) (enters_of Tryz.func213 (by kernel_rfl) rfl) 214 #[.pointer (some ⟨w.heap.size, 0, none⟩)] trivial (enters_of Tryz.func214 (by kernel_rfl) rfl) _ _ hmax hbytes _ hseq
open Go.RowKit Go.Maps Go.Sort in
/-- **.. AND FOR THE nil MAP: nil.** -/
theorem Tryz.slices_Sorted_keys_nil_177_178 (w : World) :
    CallsIn Fence.wide 5 Tryz.prog 177 #[.func (.func 214) #[] #[.pointer (some ⟨w.heap.size, 0, none⟩)]] (w.alloc (.cells #[.map none] 104)) fun e w' => ∃ (v : Value) (ss : List (List UInt8)), e = .returned v ∧ ss = [] ∧
      w'.ownsRow (w.alloc (.cells #[.map none] 104)).heap.size 9 1 v ss.length ((ss.mergeSort (fun x y => decide (x ≤ y))).map encStr) ∧ (v = .slice none 0 0 ↔ ss = []) ∧ Below (w.alloc (.cells #[.map none] 104)).heap.size (w.alloc (.cells #[.map none] 104)) w' := by
  have hseq : SeqGives Fence.wide 2 Tryz.prog 214 #[.pointer (some ⟨w.heap.size, 0, none⟩)] encStr (fun ss : List (List UInt8) => ss = []) 0 (w.alloc (.cells #[.map none] 104)) :=
    AnyZ.keys_gives_nil (ρ := Tryz.keys178_ren) { Tryz.keys178 with } Fence.wide _ trivial rfl w.heap.size _ (by simp) (by simp)
  exact AnyZ.sorted_in Tryz.sorted177 Fence.wide 5 trivial trivial trivial trivial rfl (by omega) (Tryz.sorts177 _) (enters_of Tryz.func213 (by kernel_rfl) rfl) 214 #[.pointer (some ⟨w.heap.size, 0, none⟩)] trivial (enters_of Tryz.func214 (by kernel_rfl) rfl) _ 0 (Nat.zero_le _) (by omega) _ hseq
end Go.Proofs
