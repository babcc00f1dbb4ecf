/- Parts. -/
import Derived.Test.YthciialjockjmaaGreatDoorMr
set_option linter.all false
set_option maxRecDepth 100000
set_option maxHeartbeats 8000000
namespace Go.Proofs.YthciialjockjmaaGreatDoor
open Go Go.RowKit

theorem Pv.twoAt {w:World} {t:TypeId} {a1 a2 b1 b2:List UInt8} {b:Nat} (hb:b=w.heap.size):Pv (w.alloc (.cells #[bs a1,bs a2,bs b1,bs b2] t)) (some ⟨b,0,none⟩) 2 [(a1,a2),(b1,b2)]:=by
 subst hb
 exact ⟨rfl,fun _=>⟨w.heap.size,0,rfl,by simp,fun j hj=>by
  have h:j=0∨j=1:=by omega
  rcases h with rfl|rfl <;> simp⟩⟩
theorem jeB {w:World} {a1 a2 b1 b2:List UInt8} {A:Option Addr} {n c:Nat} {k:Int} (hk:jaf jby [(a1,a2),(b1,b2)]=k) (hE:Env w) (hs:Pv w A n [(a1,a2),(b1,b2)]) (hn:n≤100000)
  (h1:a1.length < 4294967281) (h2:a2.length < 4294967281) (h3:b1.length < 4294967281) (h4:b2.length < 4294967281):
  Calls Tryz.prog 51 #[.func (.func 52) #[] #[], .slice A n c] w fun e w'=>e= .returned (.int .i64 k)∧Below w.heap.size w w':=by
 subst hk
 exact jcM (c:=c) (f:=jby) hs hn (fun l hm V hV=>by
  rcases List.mem_cons.1 hm with rfl|hm
  ·exact je8 (hE.below hV) h1 h2
  ·rcases List.mem_cons.1 hm with rfl|hm
   ·exact je8 (hE.below hV) h3 h4
   ·cases hm)
end Go.Proofs.YthciialjockjmaaGreatDoor
