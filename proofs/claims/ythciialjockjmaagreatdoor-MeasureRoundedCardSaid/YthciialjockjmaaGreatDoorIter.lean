/-
  DERIVED: THE SHELF's CONTRACTS AT THIS DUMP, IN PLAIN WORDS (tools/lay-plain.mjs out of 'TryzIter.lean', which tools/lay-shelf.mjs wrote): THE SAME DECLARATIONS UNDER THE SAME NAMES: 'import', 'namespace', 'open', 'def', 'theorem' AND NOTHING ELSE: no command of the shelf's: FOR A HAND-IN. Each laying: the table of numbers ('.._ren') and one theorem, a field a fact of the dump's own or the kernel's comparison; each contract: ONE APPLICATION.
-/
import Derived.Shelf.SlIter.Nil
import Derived.Shelf.SortM.Plain
import Derived.Shelf.SortM.SortNone
import Derived.Ground.GgzProg
import Derived.Ground.SlgmProg
import Derived.Test.YthciialjockjmaaGreatDoorProg
namespace Go.Proofs
open Go.Shelf
def Tryz.keys69_ren:Go.Shelf.Ren:=⟨fun | 7=>69 | 10=>113|n=>n,fun | 23=>105 | 26=>9 | 3=>69 | 28=>111 | 0=>0 | 27=>110 | 33=>61 | 4=>4|n=>n,fun|n=>n⟩
theorem Tryz.keys69:Go.Proofs.SlLaysZ.n7 Tryz.prog Tryz.keys69_ren:={
  mixed:=by kernel_rfl
  f7:=⟨Tryz.f69.name,by decide,Tryz.func69.trans (congrArg some (by kernel_rfl))⟩
  f10:=⟨Tryz.f113.name,by decide,Tryz.func113.trans (congrArg some (by kernel_rfl))⟩
  t0:=Tryz.underlying0
  a0:=Tryz.isAgg0
  z0:=Tryz.sizeOf0
  v0:=Tryz.zeroValue0
  t4:=Tryz.underlying4
  a4:=Tryz.isAgg4
  z4:=Tryz.sizeOf4
  v4:=Tryz.zeroValue4
  t23:=Tryz.underlying105
  a23:=Tryz.isAgg105
  z23:=Tryz.sizeOf105
  v23:=Tryz.zeroValue105
  t26:=Tryz.underlying9
  a26:=Tryz.isAgg9
  z26:=Tryz.sizeOf9
  v26:=Tryz.zeroValue9
  t27:=Tryz.underlying110
  a27:=Tryz.isAgg110
  z27:=Tryz.sizeOf110
  v27:=Tryz.zeroValue110
  t28:=Tryz.underlying111
  a28:=Tryz.isAgg111
  z28:=Tryz.sizeOf111
  v28:=Tryz.zeroValue111
  t33:=Tryz.underlying61
  a33:=Tryz.isAgg61
  z33:=Tryz.sizeOf61
  v33:=Tryz.zeroValue61 }
def Tryz.sorted68_ren:Go.Shelf.Ren:=⟨fun | 6=>68 | 8=>111 | 9=>112 | 11=>159 | 13=>161 | 12=>160 | 23=>197 | 24=>198 | 14=>188 | 15=>189 | 16=>190 | 17=>191 | 18=>192 | 19=>193 | 20=>194 | 21=>195 | 22=>196 | 25=>216 | 26=>217 | 27=>218 | 28=>219 | 29=>220 | 30=>221 | 31=>235|n=>n,fun | 26=>9 | 28=>111 | 24=>108 | 0=>0 | 3=>3 | 37=>138 | 48=>218 | 50=>179 | 4=>4 | 40=>212 | 39=>211 | 45=>115 | 5=>5 | 9=>9 | 51=>232 | 55=>236 | 57=>257 | 58=>258 | 33=>61|n=>n,fun|n=>n⟩
theorem Tryz.sorted68:Go.Proofs.SlLaysZ.n6 Tryz.prog Tryz.sorted68_ren:={
  mixed:=by kernel_rfl
  f6:=⟨Tryz.f68.name,by decide,Tryz.func68.trans (congrArg some (by kernel_rfl))⟩
  f8:=⟨Tryz.f111.name,by decide,Tryz.func111.trans (congrArg some (by kernel_rfl))⟩
  f11:=⟨Tryz.f159.name,by decide,Tryz.func159.trans (congrArg some (by kernel_rfl))⟩
  t0:=Tryz.underlying0
  a0:=Tryz.isAgg0
  z0:=Tryz.sizeOf0
  v0:=Tryz.zeroValue0
  t24:=Tryz.underlying108
  a24:=Tryz.isAgg108
  z24:=Tryz.sizeOf108
  v24:=Tryz.zeroValue108
  t26:=Tryz.underlying9
  a26:=Tryz.isAgg9
  z26:=Tryz.sizeOf9
  v26:=Tryz.zeroValue9
  t28:=Tryz.underlying111
  a28:=Tryz.isAgg111
  z28:=Tryz.sizeOf111
  v28:=Tryz.zeroValue111
  i26:=by kernel_rfl }
def Tryz.sort112_ren:Go.Shelf.Ren:=⟨fun | 6=>112 | 8=>161 | 9=>160 | 19=>197 | 20=>198 | 21=>188 | 22=>189 | 23=>190 | 24=>191 | 25=>192 | 26=>193 | 27=>194 | 28=>195 | 29=>196 | 36=>216 | 31=>217 | 32=>218 | 37=>219 | 38=>220 | 39=>221 | 41=>235|n=>n,fun | 27=>108 | 29=>9 | 3=>3 | 32=>138 | 26=>108 | 0=>0 | 44=>218 | 46=>179 | 4=>4 | 36=>212 | 35=>211 | 41=>115 | 5=>5 | 9=>9 | 53=>232 | 57=>236 | 63=>257 | 64=>258|n=>n,fun|n=>n⟩
theorem Tryz.sort112:Go.Proofs.SlLaysM.n6 Tryz.prog Tryz.sort112_ren:={
  mixed:=by kernel_rfl
  f6:=⟨Tryz.f112.name,by decide,Tryz.func112.trans (congrArg some (by kernel_rfl))⟩
  f8:=Tryz.func161.trans (congrArg some (by kernel_rfl))
  f9:=⟨Tryz.f160.name,by decide,Tryz.func160.trans (congrArg some (by kernel_rfl))⟩
  f19:=Tryz.func197.trans (congrArg some (by kernel_rfl))
  f20:=Tryz.func198.trans (congrArg some (by kernel_rfl))
  f21:=⟨Tryz.f188.name,by decide,Tryz.func188.trans (congrArg some (by kernel_rfl))⟩
  f22:=⟨Tryz.f189.name,by decide,Tryz.func189.trans (congrArg some (by kernel_rfl))⟩
  f23:=⟨Tryz.f190.name,by decide,Tryz.func190.trans (congrArg some (by kernel_rfl))⟩
  f24:=⟨Tryz.f191.name,by decide,Tryz.func191.trans (congrArg some (by kernel_rfl))⟩
  f25:=⟨Tryz.f192.name,by decide,Tryz.func192.trans (congrArg some (by kernel_rfl))⟩
  f26:=⟨Tryz.f193.name,by decide,Tryz.func193.trans (congrArg some (by kernel_rfl))⟩
  f27:=⟨Tryz.f194.name,by decide,Tryz.func194.trans (congrArg some (by kernel_rfl))⟩
  f28:=⟨Tryz.f195.name,by decide,Tryz.func195.trans (congrArg some (by kernel_rfl))⟩
  f29:=⟨Tryz.f196.name,by decide,Tryz.func196.trans (congrArg some (by kernel_rfl))⟩
  f31:=Tryz.func217.trans (congrArg some (by kernel_rfl))
  f32:=Tryz.func218.trans (congrArg some (by kernel_rfl))
  f36:=⟨Tryz.f216.name,by decide,Tryz.func216.trans (congrArg some (by kernel_rfl))⟩
  f37:=⟨Tryz.f219.name,by decide,Tryz.func219.trans (congrArg some (by kernel_rfl))⟩
  f38:=⟨Tryz.f220.name,by decide,Tryz.func220.trans (congrArg some (by kernel_rfl))⟩
  f39:=⟨Tryz.f221.name,by decide,Tryz.func221.trans (congrArg some (by kernel_rfl))⟩
  f41:=⟨Tryz.f235.name,by decide,Tryz.func235.trans (congrArg some (by kernel_rfl))⟩
  t0:=Tryz.underlying0
  a0:=Tryz.isAgg0
  z0:=Tryz.sizeOf0
  v0:=Tryz.zeroValue0
  t3:=Tryz.underlying3
  a3:=Tryz.isAgg3
  z3:=Tryz.sizeOf3
  v3:=Tryz.zeroValue3
  t4:=Tryz.underlying4
  a4:=Tryz.isAgg4
  z4:=Tryz.sizeOf4
  v4:=Tryz.zeroValue4
  t5:=Tryz.underlying5
  a5:=Tryz.isAgg5
  z5:=Tryz.sizeOf5
  v5:=Tryz.zeroValue5
  t9:=Tryz.underlying9
  a9:=Tryz.isAgg9
  z9:=Tryz.sizeOf9
  v9:=Tryz.zeroValue9
  t26:=Tryz.underlying108
  a26:=Tryz.isAgg108
  z26:=Tryz.sizeOf108
  v26:=Tryz.zeroValue108
  t27:=Tryz.underlying108
  a27:=Tryz.isAgg108
  z27:=Tryz.sizeOf108
  v27:=Tryz.zeroValue108
  t29:=Tryz.underlying9
  a29:=Tryz.isAgg9
  z29:=Tryz.sizeOf9
  v29:=Tryz.zeroValue9
  t32:=Tryz.underlying138
  a32:=Tryz.isAgg138
  z32:=Tryz.sizeOf138
  v32:=Tryz.zeroValue138
  t35:=Tryz.underlying211
  a35:=Tryz.isAgg211
  z35:=Tryz.sizeOf211
  v35:=Tryz.zeroValue211
  t36:=Tryz.underlying212
  a36:=Tryz.isAgg212
  z36:=Tryz.sizeOf212
  v36:=Tryz.zeroValue212
  t41:=Tryz.underlying115
  a41:=Tryz.isAgg115
  z41:=Tryz.sizeOf115
  v41:=Tryz.zeroValue115
  t44:=Tryz.underlying218
  a44:=Tryz.isAgg218
  z44:=Tryz.sizeOf218
  v44:=Tryz.zeroValue218
  t46:=Tryz.underlying179
  a46:=Tryz.isAgg179
  z46:=Tryz.sizeOf179
  v46:=Tryz.zeroValue179
  t53:=Tryz.underlying232
  a53:=Tryz.isAgg232
  z53:=Tryz.sizeOf232
  v53:=Tryz.zeroValue232
  t57:=Tryz.underlying236
  a57:=Tryz.isAgg236
  z57:=Tryz.sizeOf236
  v57:=Tryz.zeroValue236
  t63:=Tryz.underlying257
  a63:=Tryz.isAgg257
  z63:=Tryz.sizeOf257
  v63:=Tryz.zeroValue257
  t64:=Tryz.underlying258
  a64:=Tryz.isAgg258
  z64:=Tryz.sizeOf258
  v64:=Tryz.zeroValue258 }
open Go.RowKit Go.Maps Go.Sort in
/-- slices.Sort's two contracts at this dump, at the fence that asks nothing. -/
theorem Tryz.sorts68 (m:Nat):AnyZ.SortsIn Tryz.prog Tryz.sorted68_ren Fence.wide m:=
  ⟨fun blk off cap ss W hH hblk hsz=>callsIn_wide.2 (AnyM.slices_Sort_string Tryz.sort112 blk off cap ss W hH hblk hsz),
   fun p cap W=>callsIn_wide.2 (AnyM.slices_Sort_string_none Tryz.sort112 p cap W)⟩
open Go.RowKit Go.Maps Go.Sort in
/-- **maps.Keys[map[string]bushel/num.Frac,string,bushel/num.Frac], at whatever map, the nil one too:** a function value over ONE NEW BLOCK, which holds the map. -/
theorem Tryz.maps_Keys_69 (mb:Option Nat) (W:World):CallsIn Fence.wide 5 Tryz.prog 69 #[.map mb] W fun e w'=>e= .returned (.func (.func 113) #[] #[.pointer (some ⟨W.heap.size,0,none⟩)])∧w'=W.alloc (.cells #[.map mb] 105):=
  AnyZ.keys_in Tryz.keys69 Fence.wide 5 trivial rfl mb W
open Go.RowKit Go.Maps Go.Sort in
/-- **slices.Sorted[string] AT WHAT maps.Keys[map[string]bushel/num.Frac,string,bushel/num.Frac] HANDED BACK FOR A MAP THAT IS NOT nil** ('w': the world AHEAD of maps.Keys' call): A NEW SLICE THAT HOLDS THE MAP's KEYS, SORTED; nil just where it has none; nothing that lay before has turned. -/
theorem Tryz.slices_Sorted_keys_68_69 {H:Type} (b nn:Nat) (D0:DataW H) (R:Value→Option (DataW H×List MemPlace)) (w:World) (hown:w.ownsMap Tryz.prog 9 R b nn D0) (hmax:Maps.size D0≤maxLen) (hbytes:Maps.size D0*16≤140737488355328):
    CallsIn Fence.wide 5 Tryz.prog 68 #[.func (.func 113) #[] #[.pointer (some ⟨w.heap.size,0,none⟩)]] (w.alloc (.cells #[.map (some b)] 105)) fun e w'=>∃(v:Value) (ss:List (List UInt8)),e= .returned v∧ss.Perm (strKeys D0)∧
      w'.ownsRow (w.alloc (.cells #[.map (some b)] 105)).heap.size 9 1 v ss.length ((ss.mergeSort (fun x y=>decide (x≤y))).map encStr)∧(v= .slice none 0 0↔ss=[])∧Below (w.alloc (.cells #[.map (some b)] 105)).heap.size (w.alloc (.cells #[.map (some b)] 105)) w':=by
  have hbl:=hown.lt
  have hseq:SeqGives Fence.wide 2 Tryz.prog 113 #[.pointer (some ⟨w.heap.size,0,none⟩)] encStr (fun ss=>ss.Perm (strKeys D0)) (Maps.size D0) (w.alloc (.cells #[.map (some b)] 105)):=
    AnyZ.keys_gives (ρ:=Tryz.keys69_ren) { Tryz.keys69 with } Fence.wide _ trivial rfl (by omega) w.heap.size b nn D0 _ (by simp) (by simp) (by
      obtain ⟨es,clock,hb,Ft,hs,hD⟩:=hown
      exact ⟨es,clock,(Below.heap_alloc _ _ b hbl).trans hb,Ft,hs,hD⟩)
  exact AnyZ.sorted_in Tryz.sorted68 Fence.wide 5 trivial trivial trivial trivial rfl (by omega) (Tryz.sorts68 _) (enters_of Tryz.func112 (by kernel_rfl) rfl) 113 #[.pointer (some ⟨w.heap.size,0,none⟩)] trivial (enters_of Tryz.func113 (by kernel_rfl) rfl) _ _ hmax hbytes _ hseq
open Go.RowKit Go.Maps Go.Sort in
/-- **.. AND FOR THE nil MAP: nil.** -/
theorem Tryz.slices_Sorted_keys_nil_68_69 (w:World):
    CallsIn Fence.wide 5 Tryz.prog 68 #[.func (.func 113) #[] #[.pointer (some ⟨w.heap.size,0,none⟩)]] (w.alloc (.cells #[.map none] 105)) fun e w'=>∃(v:Value) (ss:List (List UInt8)),e= .returned v∧ss=[]∧
      w'.ownsRow (w.alloc (.cells #[.map none] 105)).heap.size 9 1 v ss.length ((ss.mergeSort (fun x y=>decide (x≤y))).map encStr)∧(v= .slice none 0 0↔ss=[])∧Below (w.alloc (.cells #[.map none] 105)).heap.size (w.alloc (.cells #[.map none] 105)) w':=by
  have hseq:SeqGives Fence.wide 2 Tryz.prog 113 #[.pointer (some ⟨w.heap.size,0,none⟩)] encStr (fun ss:List (List UInt8)=>ss=[]) 0 (w.alloc (.cells #[.map none] 105)):=
    AnyZ.keys_gives_nil (ρ:=Tryz.keys69_ren) { Tryz.keys69 with } Fence.wide _ trivial rfl w.heap.size _ (by simp) (by simp)
  exact AnyZ.sorted_in Tryz.sorted68 Fence.wide 5 trivial trivial trivial trivial rfl (by omega) (Tryz.sorts68 _) (enters_of Tryz.func112 (by kernel_rfl) rfl) 113 #[.pointer (some ⟨w.heap.size,0,none⟩)] trivial (enters_of Tryz.func113 (by kernel_rfl) rfl) _ 0 (Nat.zero_le _) (by omega) _ hseq
end Go.Proofs
