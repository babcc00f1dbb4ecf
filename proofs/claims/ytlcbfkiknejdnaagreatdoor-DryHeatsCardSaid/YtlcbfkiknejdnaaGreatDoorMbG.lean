/- Parts. -/
import Derived.Test.YtlcbfkiknejdnaaGreatDoorFfG
import Derived.Laws.RangeAny
set_option linter.all false
set_option maxRecDepth 100000
set_option maxHeartbeats 8000000
namespace Go.Proofs.YtlcbfkiknejdnaaGreatDoor
open Go Go.RowKit

section
variable {w:World} {l:List UInt8}
end

structure Iv (w:World) (A:Option Addr) (n:Nat) (zs:List Int):Prop where
 len:zs.length=n
 rng:∀z∈zs,R64 z
 at_:0 < n→∃b o,A=some ⟨b,o,none⟩∧b < w.heap.size∧∀j,j < n→w.cell? ⟨b,o+j,none⟩=some (.int .i64 (zs.getD j 0))
theorem Iv.below {w w':World} {A:Option Addr} {n:Nat} {zs:List Int} (h:Iv w A n zs) (hb:Below w.heap.size w w'):Iv w' A n zs:=
 ⟨h.len,h.rng,fun hn=>by
   obtain ⟨b,o,e,h1,h2⟩:=h.at_ hn
   exact ⟨b,o,e,Nat.lt_of_lt_of_le h1 hb.size,fun j hj=>by rw [hb.cell (p:=⟨b,o+j,none⟩) h1];exact h2 j hj⟩⟩

def jvH (s:Int):List Int→Int×Int
 | []=>if s=0 then (0,6) else (s,0)
 | x::r=>if x < 0∨999999999 < x then (0,3) else jvH (s+x) r
def cw (ws:List Int):Int×Int:=jvH 0 ws
section
variable {w:World} {A:Option Addr} {n c:Nat} {ws:List Int}
end

section
variable {W:World} {p2 p3 p4:Nat} {bw ow n c:Nat} {ws:List Int} {t s:Int}
end
section
variable {W:World} {blk p2 p3 p4 bw ow m c cap:Nat} {ws:List Int} {t s:Int}
end
end Go.Proofs.YtlcbfkiknejdnaaGreatDoor
