/- Parts. -/
import Derived.Test.YtlcbfkiknejdnaaGreatDoorMpG
import Derived.Maps.AppendAt
import Derived.Sort.KeysCollected
set_option linter.all false
set_option maxRecDepth 100000
set_option maxHeartbeats 8000000
namespace Go.Proofs.YtlcbfkiknejdnaaGreatDoor
open Go Go.RowKit

abbrev sp (a b:List UInt8):Value:= .agg #[bs a,bs b]
section
variable {w:World} {a b:List UInt8} {x y:Rat}
end
section
variable {w:World} {sx tx sy ty:Int} {Ax Bx Ay By:Option Addr} {nx cx mx dx ny cy my dy:Nat} {x y:Rat}
end

section
variable {w:World} {a b:List UInt8} {x y:Rat}
end
section
variable {w:World} {A:Option Addr} {n c:Nat} {ls:List (List UInt8×List UInt8)} {f:List UInt8×List UInt8→Int}
end
end Go.Proofs.YtlcbfkiknejdnaaGreatDoor
namespace Go.Proofs.YtlcbfkiknejdnaaGreatDoor
open Go Go.RowKit Go.Sort

theorem jdP (g j:Nat):(⟨g,0,none⟩:Addr).add j=⟨g,j,none⟩:=by unfold Addr.add;split <;> simp_all
theorem je8 {w w':World} (h:Below w.heap.size w w') (row:Option Nat):w.grownBy w' row:=⟨h.os,h.tape,h.output,h.size,fun k hk _=>h.block k hk⟩
theorem jiI {P:Program} {o:Oper} {a:Act} {K:Act→World→Prop} {Q:Exit→Act→World→Prop} {w w':World} {v z v':Value} {t:TypeId} (s y:Operand)
  (ho:o.op= .call { callee:= .builtin .append,args:= #[s,y],argTypes:= #[t,t] }) (hs:a.eval s=v) (hy:a.eval y=z)
  (hr:(Builtin.append_ #[t,t] o.type #[v,z]).run P w= .ok v' w') (hK:K (a.put o.dst v') w'):o.wp P a w K Q:=by
 unfold Oper.wp execOp;simp only [ho,resolve,invoke,builtin,Sem.run_bind,Sem.run_pure,Result.andThen_ok,List.map_toArray,List.map_cons,List.map_nil,hs,hy,hr];exact hK
end Go.Proofs.YtlcbfkiknejdnaaGreatDoor
