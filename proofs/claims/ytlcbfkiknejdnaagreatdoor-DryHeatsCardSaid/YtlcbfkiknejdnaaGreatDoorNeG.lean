/- Parts. -/
import Derived.Test.YtlcbfkiknejdnaaGreatDoorMrG
import Derived.MapKept
import Derived.Laws.EntriesVeiled
import Derived.Deep.CutRange
import Derived.Maps.Own
import Derived.Maps.OwnSet
import Derived.Maps.Views
set_option linter.all false
set_option maxRecDepth 100000
set_option maxHeartbeats 8000000
namespace Go.Proofs.YtlcbfkiknejdnaaGreatDoor
open Go Go.RowKit

def NoU (w:World) (g:Nat):Prop:=∃cur t f,w.heap[g]? =some (.cells cur t f)∧∀u∈cur.toList,∀z,u≠ .int .u64 z
theorem NoU.cell {w:World} {g o:Nat} {z:Int} (h:NoU w g):w.cell? ⟨g,o,none⟩≠some (.int .u64 z):=by
 obtain ⟨cur,t,f,h1,h2⟩:=h;rw [cell_of_row w g o cur t f h1];intro e;exact h2 _ (by have:=Array.mem_of_getElem? e;simpa using this) z rfl
theorem NoU.kept {w w':World} {g:Nat} (h:NoU w g) (e:w'.heap[g]? =w.heap[g]?):NoU w' g:=by
 obtain ⟨cur,t,f,h1,h2⟩:=h;exact ⟨cur,t,f,e.trans h1,h2⟩
theorem Rep.grown {w w':World} {s z:Int} {A:Option Addr} {n c:Nat} {row:Option Nat} (h:Rep w s A n c z) (hg:w.grownBy w' row) (hr:∀g,row=some g→NoU w g):Rep w' s A n c z:=by
 have key {ds:List Nat} (hb:Big w A n c ds):Big w' A n c ds:=⟨⟨hb.wd.len,hb.wd.dig,hb.wd.big,fun hn=>by
  obtain ⟨b,o,e,hl,hc⟩:=hb.wd.at_ hn
  have hne:some b≠row:=fun e2=>by
   have:=(hr b e2.symm).cell (o:=o+0) (z:=((dg ds 0:Nat):Int));exact this (hc 0 hn)
  exact ⟨b,o,e,Nat.lt_of_lt_of_le hl hg.size,fun j hj=>hg.cell (hc j hj) hne⟩⟩,hb.trim,hb.cap,hb.lim,hb.big⟩
 cases h with
 | small _ h0 h1=>exact .small _ h0 h1
 | plus _ _ _ ds h=>exact .plus _ _ _ ds (key h)
 | minus _ _ _ ds h=>exact .minus _ _ _ ds (key h)
abbrev FT:=(Int×Option Addr×Nat×Nat)×(Int×Option Addr×Nat×Nat)
abbrev jlE (w:World) (q:FT) (x:Rat):Prop:=RepF w q.1.1 q.1.2.1 q.1.2.2.1 q.1.2.2.2 q.2.1 q.2.2.1 q.2.2.2.1 q.2.2.2.2 x

section
variable {w:World} {A:Option Addr} {n c:Nat} {ls:List (List UInt8×List UInt8)}
end
section
variable {w:World} {A:Option Addr} {n c:Nat} {ls:List (List UInt8×List UInt8)} {los his:List Rat}
end

section
variable {w:World} {A:Option Addr} {n c:Nat} {ls:List (List UInt8×List UInt8)} {los his:List Rat}
end

section
variable {w:World} {A:Option Addr} {n c:Nat} {ls:List (List UInt8×List UInt8)} {los his:List Rat}
end

section
variable {los his:List Rat} {n:Nat}
end

section
variable {w:World}
end
section
variable {w:World} {kind step:List UInt8}
end

theorem jwY (n:Nat):n < n+1+1:=by omega
section
variable {w:World} {h:Int} {o:Bool}
end
theorem jna (y:Rat):y.floor.natAbs≤y.num.natAbs:=by
 rw [Rat.floor_def];have hd:=y.den_pos;have h:=Int.natAbs_ediv_le_natAbs y.num (y.den:Int);exact h
theorem Sz.floor {p:Nat} {y:Rat} (h:Sz p y):Sz p (y.floor:Rat):=
 Sz.int (Nat.le_trans (jna y) h.num)

section
variable {w:World} {A B:Option Addr} {n c d p:Nat} {qs:List Rat} {ws:List Int} {s:Int}
end

def jtr (a b:List UInt8):Bool:=Op.bytesLess a b || a==b
@[go_sem] theorem juD (t : TypeId) (x y : List UInt8) : binOp .leq t (.string ⟨x.toArray⟩) (.string ⟨y.toArray⟩) = pure (.bool (jtr x y)) := by
  simp [binOp,Op.stringOp,jtr,Lib.toList_data]
section
variable {w:World} {A:Option Addr} {n c:Nat} {ls:List (List UInt8×List UInt8)}
end

structure Lay where
 grain:List UInt8
 mass:Int
 shares:List (List UInt8×List UInt8)
section
variable {w:World} {A:Option Addr} {n c:Nat} {x:Lay}
end
section
variable {w:World} {A:Option Addr} {n c:Nat} {ls:List Lay} {f:Lay→Int}
end

section
variable {w:World} {A B:Option Addr} {n m c d:Nat} {zs ys:List Int}
end
section
variable {w:World} {A B:Option Addr} {n m c d:Nat} {zs ys:List (List UInt8×List UInt8)}
end
section
variable {w:World} {A B:Option Addr} {n m c d:Nat} {zs ys:List (List UInt8×List UInt8)} {g h:List UInt8} {x y:Int}
end

section
variable {w:World} {sx tx:Int} {Ax Bx:Option Addr} {nx cx mx dx p g:Nat} {x s y:Rat} {kind step:List UInt8}
end

section
variable {w:World} {x s:Rat} {kind step a:List UInt8}
end


section
variable {w:World} {a1 a2 b1 b2:List UInt8} {x1 x2 y1 y2:Rat}
end

section
variable {w:World} {A B:Option Addr} {n c d:Nat} {ls:List (List UInt8×List UInt8)} {los his:List Rat} {ws:List Int} {s:Int}
end
end Go.Proofs.YtlcbfkiknejdnaaGreatDoor
namespace Go.Proofs.YtlcbfkiknejdnaaGreatDoor
open Go Go.RowKit Go.Maps

def jhw (w:World) (b:Nat):Prop:=∀o z,w.cell? ⟨b,o,none⟩≠some (.int .u64 z)
theorem jhw.map {w:World} {b:Nat} {es:Array MapEntry} {cl:Nat} (hb:w.heap[b]? =some (.map es cl)):jhw w b:=fun o z h=>by simp [World.cell?,hb] at h
theorem Wd.turned {w w':World} {A:Option Addr} {n b:Nat} {ds:List Nat} (h:Wd w A n ds) (hb:jhw w b) (hg:w.grownBy w' (some b)):Wd w' A n ds:=
 ⟨h.len,h.dig,h.big,fun hn=>by
   obtain ⟨b',o,e,hl,hc⟩:=h.at_ hn
   have hne:b'≠b:=by
    rintro rfl
    exact hb _ _ (hc 0 hn)
   exact ⟨b',o,e,Nat.lt_of_lt_of_le hl hg.size,fun j hj=>hg.cell (hc j hj) (by simpa using hne)⟩⟩
theorem Rep.turned {w w':World} {s z:Int} {A:Option Addr} {n c b:Nat} (h:Rep w s A n c z) (hb:jhw w b) (hg:w.grownBy w' (some b)):Rep w' s A n c z:=by
 cases h with
 | small _ h0 h1=>exact .small _ h0 h1
 | plus _ _ _ ds h=>exact .plus _ _ _ ds ⟨h.wd.turned hb hg,h.trim,h.cap,h.lim,h.big⟩
 | minus _ _ _ ds h=>exact .minus _ _ _ ds ⟨h.wd.turned hb hg,h.trim,h.cap,h.lim,h.big⟩
theorem RepF.turned {w w':World} {s t:Int} {A B:Option Addr} {n c m d b:Nat} {x:Rat} (h:RepF w s A n c t B m d x) (hb:jhw w b) (hg:w.grownBy w' (some b)):RepF w' s A n c t B m d x:=⟨h.num.turned hb hg,h.den.turned hb hg⟩
section
variable {w:World} {ops:Array Oper} {rest:List Oper} {o:Oper} {a:Act} {Q:Exit→Act→World→Prop} {b n:Nat} {D:DataW Value} {cs:List (List UInt8×Rat)} {y:List UInt8}
end
end Go.Proofs.YtlcbfkiknejdnaaGreatDoor
namespace Go.Proofs.YtlcbfkiknejdnaaGreatDoor
open Go Go.RowKit Go.Maps Go.Sort

end Go.Proofs.YtlcbfkiknejdnaaGreatDoor
namespace Go.Proofs.YtlcbfkiknejdnaaGreatDoor
open Go Go.RowKit


section
variable {w:World} {A:Option Addr} {n c:Nat} {ls:List Lay}
end

section
variable {w:World} {A:Option Addr} {n q:Nat} {ls:List Lay} {mass:Int}
end
section
variable {w:World} {A:Option Addr} {n c q:Nat} {ls:List Lay} {mass:Int} {ks:List (List UInt8)} {outs:List (List UInt8×List UInt8)} {g0:List UInt8}
end

theorem jtd {x:Rat} {l:List UInt8} (h:tq x=l) (h1:(Go.Lib.decDigits x.num.natAbs).length≤600) (h2:(Go.Lib.decDigits x.den).length≤600):IsNum l x:=⟨h.symm,h1,h2⟩
theorem jvU {x:Rat} {l:List UInt8} (h:tq x=l∧(Go.Lib.decDigits x.num.natAbs).length≤600∧(Go.Lib.decDigits x.den).length≤600):IsNum l x:=jtd h.1 h.2.1 h.2.2
theorem ex2:IsNum [50] 2:=jvU (by decide+kernel)
theorem jud {x:Rat} (h1: -9223372036854775808 < x.num) (h2:x.num < 9223372036854775808) (h3:x.den < 9223372036854775808):StrQ x:=StrQ.small h1 h2 h3
theorem jv3 {x:Rat} (h: -9223372036854775808 < x.num∧x.num < 9223372036854775808∧x.den < 9223372036854775808):StrQ x:=jud h.1 h.2.1 h.2.2
theorem t12:jcF (1/2)=[49,47,50]∧jbq (1/2)=0:=by decide+kernel
theorem s12:StrQ (1/2):=jv3 (by decide+kernel)
theorem s6:StrQ 6:=jv3 (by decide+kernel)
theorem s11:StrQ 11:=jv3 (by decide+kernel)

section
variable {w:World}
end

section
variable {w:World}
end
end Go.Proofs.YtlcbfkiknejdnaaGreatDoor
