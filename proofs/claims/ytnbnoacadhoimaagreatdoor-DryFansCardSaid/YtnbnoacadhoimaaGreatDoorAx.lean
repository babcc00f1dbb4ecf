/- An evaluator for the model: part . -/
import GoSem.Core.Code
import GoSem.Core.Text
import GoSem.Core.Program
import GoSem.Core.Region
import GoSem.Dispatch
import GoSem.Step
set_option linter.unusedSimpArgs false
set_option linter.unusedVariables false
set_option maxRecDepth 100000
set_option maxHeartbeats 8000000
namespace Go.Proofs.YtnbnoacadhoimaaGreatDoor.Ax
open Go

/-- A map from numbers. -/
inductive Tr (α : Type) where
  | lf
  | nd (v : Option α) (l r : Tr α)
namespace Tr
noncomputable section
variable {α : Type}
/-- The way to a number. -/
def pthF (f : Nat) : Nat → List Bool :=
  Nat.rec (motive := fun _ => Nat → List Bool) (fun _ => []) (fun _ ih k => bif Nat.beq k 0 then [] else Nat.beq (Nat.mod k 2) 1 :: ih (Nat.pred (Nat.div (Nat.succ k) 2))) f
def pth (k : Nat) : List Bool := pthF k k
def gNd (v : Option α) (_ _ : Tr α) (gl gr : List Bool → Option α) (p : List Bool) : Option α :=
  List.rec (motive := fun _ => Option α) v (fun b p _ => Bool.rec (motive := fun _ => Option α) (gr p) (gl p) b) p
def gLf (_ : List Bool) : Option α := none
def getP (t : Tr α) : List Bool → Option α := Tr.rec (motive := fun _ => List Bool → Option α) gLf gNd t
def get (t : Tr α) (k : Nat) : Option α := getP t (pth k)
def sLf (p : List Bool) (x : α) : Tr α := List.rec (motive := fun _ => Tr α) (.nd (some x) .lf .lf) (fun b _ ih => Bool.rec (motive := fun _ => Tr α) (.nd none .lf ih) (.nd none ih .lf) b) p
def sNd (v : Option α) (l r : Tr α) (sl sr : List Bool → α → Tr α) (p : List Bool) (x : α) : Tr α :=
  List.rec (motive := fun _ => Tr α) (.nd (some x) l r) (fun b p _ => Bool.rec (motive := fun _ => Tr α) (.nd v l (sr p x)) (.nd v (sl p x) r) b) p
def setP (t : Tr α) : List Bool → α → Tr α := Tr.rec (motive := fun _ => List Bool → α → Tr α) sLf sNd t
def set (t : Tr α) (k : Nat) (x : α) : Tr α := setP t (pth k) x
end
end Tr
noncomputable section
def lenL {α : Type} (l : List α) : Nat := List.rec (motive := fun _ => Nat) 0 (fun _ _ ih => Nat.succ ih) l
def nN {α : Type} (_ : Nat) : Option α := none
def nC {α : Type} (a : α) (_ : List α) (ih : Nat → Option α) (k : Nat) : Option α := Nat.rec (motive := fun _ => Option α) (some a) (fun k _ => ih k) k
def nthL {α : Type} (l : List α) : Nat → Option α := List.rec (motive := fun _ => Nat → Option α) nN nC l
def mapL {α β : Type} (f : α → β) (l : List α) : List β := List.rec (motive := fun _ => List β) [] (fun a _ ih => f a :: ih) l
def appL {α : Type} (l m : List α) : List α := List.rec (motive := fun _ => List α) m (fun a _ ih => a :: ih) l
def dN {α : Type} (_ : Nat) : List α := []
def dC {α : Type} (a : α) (l : List α) (ih : Nat → List α) (k : Nat) : List α := Nat.rec (motive := fun _ => List α) (a :: l) (fun k _ => ih k) k
def dropL {α : Type} (l : List α) : Nat → List α := List.rec (motive := fun _ => Nat → List α) dN dC l
def kN {α : Type} (_ : Nat) : List α := []
def kC {α : Type} (a : α) (_ : List α) (ih : Nat → List α) (k : Nat) : List α := Nat.rec (motive := fun _ => List α) [] (fun k _ => a :: ih k) k
def takeL {α : Type} (l : List α) : Nat → List α := List.rec (motive := fun _ => Nat → List α) kN kC l
def consO {α : Type} (a : α) : Option (List α) → Option (List α)
  | some l => some (a :: l)
  | none => none
end

/-- A slice's room: known, or some room, for elements of so many cells. -/
inductive Cap where
  | k (c : Nat)
  | r (z : Nat)
inductive AV where
  | int (k : IntKind) (n : Int)
  | bool (b : Bool)
  | str (s : List UInt8)
  | ptr (id off : Nat)
  | nilp
  | slc (id off len : Nat) (cap : Cap)
  | nils
  | agg (vs : List AV)
  | tup (vs : List AV)
  | fn (f : Nat) (caps : List AV)
  | nilf
  | nili
  | any

inductive Blk where
  | cells (cs : List AV)
  | ro (cs : List AV)
  | dead

def toAV0 : Value → AV
  | .int k n => .int k n
  | .bool b => .bool b
  | .string s => .str s.data.toList
  | .pointer none => .nilp
  | .slice none 0 0 => .nils
  | .nilFunc => .nilf
  | .nilIface => .nili
  | _ => .any
def toAV : Value → AV
  | .agg cs => .agg (cs.toList.map toAV0)
  | v => toAV0 v

def cellsOf : AV → List AV
  | .agg vs => vs
  | v => [v]

abbrev Tm := Tr AV
abbrev Mem := Tr Blk
structure Hp where
  h : Mem
  nx : Nat
  wm : Nat

noncomputable section
def tmpV (tm : Tm) (t : Nat) : AV := Option.rec (motive := fun _ => AV) (.tup []) (fun v => v) (tm.get t)
def opd (tm : Tm) (x : Operand) : AV :=
  Operand.rec (motive := fun _ => Tm → AV) (fun t tm => tmpV tm t) (fun v _ => toAV v) (fun g _ => bif Nat.blt g 100 then .ptr g 0 else .any) (fun f _ => .fn f []) x tm

inductive Ro where
  | bad
  | val (v : AV) (h : Hp)
  | enter (f : Nat) (args : List AV)
inductive Rs where
  | bad
  | normal (tm : Tm) (h : Hp)
  | exit (id : Nat) (tm : Tm) (h : Hp)
  | ret (tm : Tm) (h : Hp)

def newBlk (h : Hp) (b : Blk) : Hp := ⟨h.h.set h.nx b, Nat.succ h.nx, h.wm⟩
noncomputable def rdB (b : Option Blk) : Option (List AV) := Option.rec (motive := fun _ => Option (List AV)) none (fun b => Blk.rec (motive := fun _ => Option (List AV)) some some none b) b
def blk (h : Hp) (id : Nat) : Option (List AV) := rdB (h.h.get id)
noncomputable def wrB (b : Option Blk) : Option (List AV) := Option.rec (motive := fun _ => Option (List AV)) none (fun b => Blk.rec (motive := fun _ => Option (List AV)) some (fun _ => none) none b) b
def wblk (h : Hp) (id : Nat) : Option (List AV) := wrB (h.h.get id)
def wrBlk (h : Hp) (id : Nat) (b : Blk) : Hp := ⟨h.h.set id b, h.nx, bif Nat.ble h.wm id then h.wm else id⟩

end
noncomputable section
def tN (n : Nat) : Option (List AV) := Nat.rec (motive := fun _ => Option (List AV)) (some []) (fun _ _ => none) n
def tC (a : AV) (_ : List AV) (ih : Nat → Option (List AV)) (n : Nat) : Option (List AV) := Nat.rec (motive := fun _ => Option (List AV)) (some []) (fun n _ => consO a (ih n)) n
def takeN (l : List AV) : Nat → Option (List AV) := List.rec (motive := fun _ => Nat → Option (List AV)) tN tC l
def slab (cs : List AV) (off n : Nat) : Option (List AV) := takeN (dropL cs off) n
def pN (_ : Nat) (vs : List AV) : Option (List AV) := List.rec (motive := fun _ => Option (List AV)) (some []) (fun _ _ _ => none) vs
def pC (c : AV) (l : List AV) (ih : Nat → List AV → Option (List AV)) (off : Nat) (vs : List AV) : Option (List AV) :=
  Nat.rec (motive := fun _ => Option (List AV)) (List.rec (motive := fun _ => Option (List AV)) (some (c :: l)) (fun v vs _ => consO v (ih 0 vs)) vs) (fun off _ => consO c (ih off vs)) off
def setAtL (cs : List AV) : Nat → List AV → Option (List AV) := List.rec (motive := fun _ => Nat → List AV → Option (List AV)) pN pC cs
def setAt (off : Nat) (cs vs : List AV) : Option (List AV) := setAtL cs off vs
def rep (zero : List AV) (n : Nat) : List AV := Nat.rec (motive := fun _ => List AV) [] (fun _ ih => appL zero ih) n
def isAgg (P : Program) (t : Nat) : Option Bool := match P.underlying t with | some (.struct _) => some true | some (.array ..) => some true | some _ => some false | none => none
def szOf (P : Program) (t : Nat) : Option Nat := match P.info? t with | some i => some i.size | none => none
def zeroOf (P : Program) (t : Nat) : Option (List AV) := match P.info? t with | some i => (match i.zero with | some v => some (cellsOf (toAV v)) | none => none) | none => none

def fillK (k : List AV → Option (List AV)) : Option (List AV) → Option (List AV)
  | some cs => k cs
  | none => none
def isAny : AV → Bool
  | .any => true
  | _ => false
def fillC (v : AV) (cs : List AV) (k : List AV → Option (List AV)) : Option (Nat × Nat) → Option (List AV)
  | some p => bif Nat.beq (lenL (cellsOf v)) p.2 && !isAny v && Nat.ble (p.1 + p.2) (lenL cs) then fillK k (setAt p.1 cs (cellsOf v)) else none
  | none => none
def fillP (place : Nat → Option (Nat × Nat)) (l : List (Nat × AV)) : List AV → Option (List AV) :=
  List.rec (motive := fun _ => List AV → Option (List AV)) some (fun p _ ih cs => fillC p.2 cs ih (place p.1)) l

def leN (_ : List UInt8) : Bool := false
def ltC (a : UInt8) (_ : List UInt8) (ih : List UInt8 → Bool) (m : List UInt8) : Bool :=
  List.rec (motive := fun _ => Bool) false (fun b m _ => bif Nat.blt a.toNat b.toNat then true else bif Nat.beq a.toNat b.toNat then ih m else false) m
def ltN (m : List UInt8) : Bool := List.rec (motive := fun _ => Bool) false (fun _ _ _ => true) m
def bytesLess (l : List UInt8) : List UInt8 → Bool := List.rec (motive := fun _ => List UInt8 → Bool) ltN ltC l
def beN (m : List UInt8) : Bool := List.rec (motive := fun _ => Bool) true (fun _ _ _ => false) m
def beC (a : UInt8) (_ : List UInt8) (ih : List UInt8 → Bool) (m : List UInt8) : Bool :=
  List.rec (motive := fun _ => Bool) false (fun b m _ => bif Nat.beq a.toNat b.toNat then ih m else false) m
def bytesEq (l : List UInt8) : List UInt8 → Bool := List.rec (motive := fun _ => List UInt8 → Bool) beN beC l
def intEq : Int → Int → Bool
  | .ofNat a, .ofNat b => Nat.beq a b
  | .negSucc a, .negSucc b => Nat.beq a b
  | _, _ => false
def intLt : Int → Int → Bool
  | .ofNat a, .ofNat b => Nat.blt a b
  | .negSucc a, .negSucc b => Nat.blt b a
  | .negSucc _, .ofNat _ => true
  | .ofNat _, .negSucc _ => false

def byteK (ih : Option (List UInt8)) : AV → Option (List UInt8)
  | .int .u8 n => consO (UInt8.ofNat n.toNat) ih
  | _ => none
def bytesOf (l : List AV) : Option (List UInt8) := List.rec (motive := fun _ => Option (List UInt8)) (some []) (fun v _ ih => byteK ih v) l

/-- Whether two values are equal, where this is plain. -/
def eqInt (k : IntKind) (a : Int) : AV → Option Bool
  | .int k' b => bif decide (k = k') then some (intEq a b) else none
  | _ => none
def eqBool (a : Bool) : AV → Option Bool
  | .bool b => some (bif a then b else !b)
  | _ => none
def eqStr (a : List UInt8) : AV → Option Bool
  | .str b => some (bytesEq a b)
  | _ => none
def eqNilp : AV → Option Bool
  | .nilp => some true
  | .ptr .. => some false
  | _ => none
def eqNils : AV → Option Bool
  | .nils => some true
  | .slc .. => some false
  | _ => none
def eqNilf : AV → Option Bool
  | .nilf => some true
  | .fn .. => some false
  | _ => none
def eqNili : AV → Option Bool
  | .nili => some true
  | _ => none
def eqPtr : AV → Option Bool
  | .nilp => some false
  | _ => none
def eqSlc : AV → Option Bool
  | .nils => some false
  | _ => none
def eqFn : AV → Option Bool
  | .nilf => some false
  | _ => none
def eqS (x y : AV) (d : TypeDesc) : Option Bool :=
  match d with
  | .bool => (match x with | .bool a => eqBool a y | _ => none)
  | .int _ => (match x with | .int k a => eqInt k a y | _ => none)
  | .string => (match x with | .str a => eqStr a y | _ => none)
  | .pointer _ => (match x with | .nilp => eqNilp y | .ptr .. => eqPtr y | _ => none)
  | .slice _ => (match x with | .nils => eqNils y | .slc .. => eqSlc y | _ => none)
  | .func .. => (match x with | .nilf => eqNilf y | .fn .. => eqFn y | _ => none)
  | .interface _ => (match x with | .nili => eqNili y | _ => none)
  | _ => none

/-- The greatest number of a kind. -/
def lim : IntKind → Nat
  | .i8 => 127 | .i16 => 32767 | .i32 => 2147483647 | .i64 => 9223372036854775807
  | .u8 => 255 | .u16 => 65535 | .u32 => 4294967295 | .u64 => 18446744073709551615
def sgnd : IntKind → Bool
  | .i8 => true | .i16 => true | .i32 => true | .i64 => true | _ => false
def wrp (k : IntKind) (n : Int) : Int :=
  match n with
  | .ofNat m => bif Nat.ble m (lim k) then .ofNat m else k.wrap (.ofNat m)
  | .negSucc m => bif sgnd k then (bif Nat.ble m (lim k) then .negSucc m else k.wrap (.negSucc m)) else k.wrap (.negSucc m)
def iAdd (k : IntKind) (a b : Int) : AV := .int k (wrp k (Int.add a b))
def iSub (k : IntKind) (a b : Int) : AV := .int k (wrp k (Int.sub a b))
def iMul (k : IntKind) (a b : Int) : AV := .int k (wrp k (Int.mul a b))
def iQuo (k : IntKind) (a b : Int) : AV := bif intEq b 0 then .any else .int k (wrp k (Int.tdiv a b))
def iRem (k : IntKind) (a b : Int) : AV := bif intEq b 0 then .any else .int k (Int.tmod a b)
def iAnd (k : IntKind) (a b : Int) : AV := .int k (wrp k (Int.ofNat (Nat.land (BitVec.ofInt k.bits a).toNat (BitVec.ofInt k.bits b).toNat)))
def iOr (k : IntKind) (a b : Int) : AV := .int k (wrp k (Int.ofNat (Nat.lor (BitVec.ofInt k.bits a).toNat (BitVec.ofInt k.bits b).toNat)))
def iXor (k : IntKind) (a b : Int) : AV := .int k (wrp k (Int.ofNat (Nat.xor (BitVec.ofInt k.bits a).toNat (BitVec.ofInt k.bits b).toNat)))
def iShl (k : IntKind) (a b : Int) : AV := bif intLt b 0 then .any else .int k (wrp k (Int.mul a (Int.ofNat (Nat.pow 2 (bif Nat.ble b.toNat k.bits then b.toNat else k.bits)))))
def iShr (k : IntKind) (a b : Int) : AV := bif intLt b 0 then .any else .int k (Int.fdiv a (Int.ofNat (Nat.pow 2 (bif Nat.ble b.toNat k.bits then b.toNat else k.bits))))
def iBad (_ : IntKind) (_ _ : Int) : AV := .any
def iEql (_ : IntKind) (a b : Int) : AV := .bool (intEq a b)
def iNeq (_ : IntKind) (a b : Int) : AV := .bool (!intEq a b)
def iLss (_ : IntKind) (a b : Int) : AV := .bool (intLt a b)
def iLeq (_ : IntKind) (a b : Int) : AV := .bool (!intLt b a)
def iGtr (_ : IntKind) (a b : Int) : AV := .bool (intLt b a)
def iGeq (_ : IntKind) (a b : Int) : AV := .bool (!intLt a b)
def intOp (op : BinOp) : IntKind → Int → Int → AV :=
  BinOp.rec (motive := fun _ => IntKind → Int → Int → AV) iAdd iSub iMul iQuo iRem iAnd iOr iXor iShl iShr iBad iEql iNeq iLss iLeq iGtr iGeq op
def sBad (_ _ : List UInt8) : AV := .any
def sAdd (a b : List UInt8) : AV := bif Nat.ble (lenL a + lenL b) 1000000 then .str (appL a b) else .any
def sEql (a b : List UInt8) : AV := .bool (bytesEq a b)
def sNeq (a b : List UInt8) : AV := .bool (!bytesEq a b)
def sLss (a b : List UInt8) : AV := .bool (bytesLess a b)
def sLeq (a b : List UInt8) : AV := .bool (bytesLess a b || bytesEq a b)
def sGtr (a b : List UInt8) : AV := .bool (!(bytesLess a b || bytesEq a b))
def sGeq (a b : List UInt8) : AV := .bool (!bytesLess a b)
def strOp (op : BinOp) : List UInt8 → List UInt8 → AV :=
  BinOp.rec (motive := fun _ => List UInt8 → List UInt8 → AV) sAdd sBad sBad sBad sBad sBad sBad sBad sBad sBad sBad sEql sNeq sLss sLeq sGtr sGeq op
def eqOp (op : BinOp) (r : Option Bool) : AV :=
  match r with
  | none => .any
  | some b => match op with
    | .eql => .bool b
    | .neq => .bool (!b)
    | _ => .any
def isShift : BinOp → Bool
  | .shl => true
  | .shr => true
  | _ => false
def bInt (op : BinOp) (k : IntKind) (a : Int) : AV → AV
  | .int k' b => bif isShift op || decide (k = k') then intOp op k a b else .any
  | _ => .any
def bStr (op : BinOp) (a : List UInt8) : AV → AV
  | .str b => strOp op a b
  | _ => .any
def natOf : Int → Option Nat
  | .ofNat m => some m
  | .negSucc _ => none
def asNat : AV → Option Nat
  | .int _ n => natOf n
  | _ => none
def asNatD (tm : Tm) (o : Option Operand) (d : Nat) : Option Nat := match o with | none => some d | some x => asNat (opd tm x)

def lenOf : AV → Option Nat
  | .slc _ _ len _ => some len
  | .nils => some 0
  | .str s => some (lenL s)
  | _ => none

def okv (h : Hp) : AV → Ro
  | .any => .bad
  | v => .val v h
noncomputable def val? (h : Hp) (o : Option AV) : Ro := Option.rec (motive := fun _ => Ro) .bad (fun v => .val v h) o
def new? (h : Hp) (len : Nat) (cap : Cap) : Option (List AV) → Ro
  | some cs => .val (.slc h.nx 0 len cap) (newBlk h (.cells cs))
  | none => .bad

end
noncomputable section
def oBad (_ : Program) (_ : Tm) (_ : Hp) : Ro := .bad
def oMove (x : Operand) (_ : Program) (tm : Tm) (h : Hp) : Ro := .val (opd tm x) h
def pickV (tm : Tm) (h : Hp) (a b : Operand) : AV → Ro
  | .bool t => .val (bif t then opd tm a else opd tm b) h
  | _ => .bad
def oPick (c a b : Operand) (_ : Program) (tm : Tm) (h : Hp) : Ro := pickV tm h a b (opd tm c)
def ptr? (h : Hp) : Option (List AV) → Ro
  | some z => .val (.ptr h.nx 0) (newBlk h (.cells z))
  | none => .bad
def oAlloc (e : TypeId) (P : Program) (_ : Tm) (h : Hp) : Ro := ptr? h (zeroOf P e)
def boxV (h : Hp) : AV → Ro
  | .any => .bad
  | v => .val (.ptr h.nx 0) (newBlk h (.cells (cellsOf v)))
def oBox (_ : TypeId) (x : Operand) (_ : Program) (tm : Tm) (h : Hp) : Ro := boxV h (opd tm x)
def parts (tm : Tm) (l : List (Nat × Operand)) : List (Nat × AV) := mapL (fun p => (p.1, opd tm p.2)) l
def agg? (h : Hp) : Option (List AV) → Ro
  | some cs => .val (.agg cs) h
  | none => .bad
def placesOf (P : Program) (fs : Array Field) : Option (List (Nat × Nat)) := fs.toList.mapM fun f => (P.info? f.type).map fun i => (f.offset, i.size)
def buildIn (P : Program) (tm : Tm) (ps : Array (Nat × Operand)) (z : List AV) : Option TypeDesc → Option (List AV)
  | some (.struct fs) => (match placesOf P fs with | some l => fillP (nthL l) (parts tm ps.toList) z | none => none)
  | some (.array _ e) => (match szOf P e with | some s => fillP (fun i => some (i * s, s)) (parts tm ps.toList) z | none => none)
  | _ => none
def oBuild (t : TypeId) (ps : Array (Nat × Operand)) (P : Program) (tm : Tm) (h : Hp) : Ro :=
  match zeroOf P t with
  | some z => agg? h (buildIn P tm ps z (P.underlying t))
  | none => .bad
def sliceElem : Option TypeDesc → Option TypeId
  | some (.slice e) => some e
  | _ => none
def oBuildSlice (t : TypeId) (len : Nat) (ps : Array (Nat × Operand)) (P : Program) (tm : Tm) (h : Hp) : Ro :=
  match sliceElem (P.underlying t) with
  | some e => (match szOf P e, zeroOf P e with
    | some s, some z => bif Nat.ble (len * s) 65536 && Nat.beq (lenL z) s then new? h len (.k len) (fillP (fun i => some (i * s, s)) (parts tm ps.toList) (rep z len)) else .bad
    | _, _ => .bad)
  | none => .bad
def rdAt (P : Program) (t : TypeId) (cs : List AV) (off : Nat) : Option AV :=
  match isAgg P t with
  | some true => (match szOf P t with | some s => (match slab cs off s with | some vs => some (.agg vs) | none => none) | none => none)
  | some false => nthL cs off
  | none => none
def ldAt (P : Program) (t : TypeId) (h : Hp) : AV → Option AV
  | .ptr id off => (match blk h id with | some cs => rdAt P t cs off | none => none)
  | _ => none
def oLoad (t : TypeId) (x : Operand) (P : Program) (tm : Tm) (h : Hp) : Ro := val? h (ldAt P t h (opd tm x))
def sc : AV → Bool
  | .agg _ => false
  | .tup _ => false
  | .any => false
  | _ => true
def allSc (l : List AV) : Bool := List.rec (motive := fun _ => Bool) true (fun v _ ih => bif sc v then ih else false) l
def stIn (h : Hp) (id : Nat) : Option (List AV) → Ro
  | some cs => .val (.tup []) (wrBlk h id (.cells cs))
  | none => .bad
def stAt (P : Program) (t : TypeId) (h : Hp) (vs : List AV) : AV → Ro
  | .ptr id off => (match wblk h id with
    | some cs => (match szOf P t with | some s => bif Nat.beq (lenL vs) s && allSc vs then stIn h id (setAt off cs vs) else .bad | none => .bad)
    | none => .bad)
  | _ => .bad
def oStore (t : TypeId) (x v : Operand) (P : Program) (tm : Tm) (h : Hp) : Ro := stAt P t h (cellsOf (opd tm v)) (opd tm x)
def eqK (k : Option Bool) : Option Bool → Option Bool
  | some b => bif b then k else some false
  | none => none
def eq2 (k : AV → AV → Option Bool) (x y : Option AV) : Option Bool :=
  match x with
  | some a => (match y with | some b => k a b | none => none)
  | none => none
/-- Whether the fields of two structs are equal. -/
def eqF (k : TypeId → AV → AV → Option Bool) (P : Program) (x y : List AV) (l : List Field) : Option Bool :=
  List.rec (motive := fun _ => Option Bool) (some true) (fun f _ ih => bif f.name != "_" then eqK ih (eq2 (k f.type) (rdAt P f.type x f.offset) (rdAt P f.type y f.offset)) else none) l
def fields : Option TypeDesc → Option (Array Field)
  | some (.struct fs) => some fs
  | _ => none
def eqA (k : TypeId → AV → AV → Option Bool) (P : Program) (t : TypeId) (xs : List AV) : AV → Option Bool
  | .agg ys => (match fields (P.underlying t) with | some fs => bif P.stoodInHeld t then none else eqF k P xs ys fs.toList | none => none)
  | _ => none
def eqD (x y : AV) : Option TypeDesc → Option Bool
  | some d => eqS x y d
  | none => none
def eqT1 (P : Program) (k : TypeId → AV → AV → Option Bool) (t : TypeId) (x y : AV) : Option Bool :=
  match x with
  | .agg xs => eqA k P t xs y
  | x => eqD x y (P.underlying t)
def eqT (P : Program) (n : Nat) : TypeId → AV → AV → Option Bool := Nat.rec (motive := fun _ => TypeId → AV → AV → Option Bool) (fun _ _ _ => none) (fun _ ih t x y => eqT1 P ih t x y) n
def isC : Operand → Bool
  | .const _ => true
  | _ => false
def gOk (P : Program) (t : TypeId) (a b : Operand) : AV → Bool
  | .nili => isC a || isC b
  | .agg _ => !P.eqGuardType P.depth t
  | .any => false
  | _ => true
def binop (P : Program) (op : BinOp) (t : TypeId) (x y : AV) : AV :=
  match x with
  | .int k a => bInt op k a y
  | .str a => bStr op a y
  | x => eqOp op (eqT P 16 t x y)
def nck (h : Hp) : AV → Ro
  | .ptr id off => .val (.ptr id off) h
  | .fn f c => .val (.fn f c) h
  | _ => .bad
def oNil (x : Operand) (_ : Program) (tm : Tm) (h : Hp) : Ro := nck h (opd tm x)
def oBin (op : BinOp) (t : TypeId) (x y : Operand) (_ : TypeId) (P : Program) (tm : Tm) (h : Hp) : Ro :=
  bif gOk P t x y (opd tm x) then okv h (binop P op t (opd tm x) (opd tm y)) else .bad
def unop (op : UnOp) (x : AV) : AV :=
  match x with
  | .int k n => (match op with | .neg => iSub k 0 n | .xor => iXor k (if k.signed then -1 else k.max) n | _ => .any)
  | .bool b => (match op with | .not => .bool (!b) | _ => .any)
  | _ => .any
def oUn (op : UnOp) (_ : TypeId) (x : Operand) (_ : Program) (tm : Tm) (h : Hp) : Ro := okv h (unop op (opd tm x))
def byteV (b : UInt8) : AV := .int .u8 (Int.ofNat b.toNat)
def cvStr (P : Program) (d : TypeId) (h : Hp) (s : List UInt8) : Ro :=
  match P.underlying d with
  | some .string => .val (.str s) h
  | some (.slice e) => (match P.underlying e with
    | some (.int .u8) => .val (.slc h.nx 0 (lenL s) (.r 1)) (newBlk h (.ro (mapL byteV s)))
    | _ => .bad)
  | _ => .bad
def isU8 (P : Program) : Option TypeDesc → Bool
  | some (.slice e) => (match P.underlying e with | some (.int .u8) => true | _ => false)
  | _ => false
def cvSlc (P : Program) (src d : TypeId) (h : Hp) (cs : Option (List AV)) : Ro :=
  match P.underlying d with
  | some .string => bif isU8 P (P.underlying src) then (match cs with
    | some cs => (match bytesOf cs with | some s => .val (.str s) h | none => .bad)
    | none => .bad) else .bad
  | _ => .bad
def cv (P : Program) (src d : TypeId) (h : Hp) : AV → Ro
  | .slc id off len _ => cvSlc P src d h (match blk h id with | some cs => slab cs off len | none => none)
  | .int _ n => (match P.underlying d with | some (.int k) => .val (.int k (wrp k n)) h | _ => .bad)
  | .str s => cvStr P d h s
  | _ => .bad
def oConv (src d : TypeId) (x : Operand) (P : Program) (tm : Tm) (h : Hp) : Ro :=
  match P.underlying src with
  | some _ => cv P src d h (opd tm x)
  | none => .bad
def oFunc (fn : Fn) (first captured : Array Operand) (_ : Program) (tm : Tm) (h : Hp) : Ro :=
  match fn with
  | .func f => (match first.toList with | [] => .val (.fn f (mapL (opd tm) captured.toList)) h | _ => .bad)
  | _ => .bad
def oMakeSlice (t : TypeId) (l c : Operand) (P : Program) (tm : Tm) (h : Hp) : Ro :=
  match sliceElem (P.underlying t) with
  | some e => (match asNat (opd tm l) with
    | some l => (match asNat (opd tm c) with
      | some c => (match zeroOf P e with
        | some z => (match P.info? e with
          | some i => bif Nat.ble l c && Nat.ble c 65536 && Nat.ble i.bytes 65536 && Nat.beq (lenL z) i.size then new? h l (.k c) (some (rep z c)) else .bad
          | none => .bad)
        | none => .bad)
      | none => .bad)
    | none => .bad)
  | none => .bad
def capMax (len : Nat) : Cap → Nat
  | .k c => c
  | .r _ => len
def capSub (l : Nat) : Cap → Cap
  | .k c => .k (c - l)
  | .r z => .r z
def capFit (z : Nat) : Cap → Bool
  | .k _ => true
  | .r z' => Nat.beq z z'
def cut (a l h c : Nat) (id z : Nat) (cap : Cap) : Option AV :=
  bif Nat.ble l h && Nat.ble h c && capFit z cap then some (.slc id (a + l * z) (h - l) (capSub l cap)) else none
def slStr (tm : Tm) (lo hi : Option Operand) (s : List UInt8) : Option AV :=
  match asNatD tm hi (lenL s) with
  | some h => (match asNatD tm lo 0 with
    | some l => bif Nat.ble l h && Nat.ble h (lenL s) then some (.str (takeL (dropL s l) (Nat.sub h l))) else none
    | none => none)
  | none => none
def slSlc (tm : Tm) (lo hi : Option Operand) (z id off len : Nat) (cap : Cap) : Option AV :=
  match asNatD tm hi len with
  | some h => (match asNatD tm lo 0 with
    | some l => cut off l h (capMax len cap) id z cap
    | none => none)
  | none => none
def slNil (tm : Tm) (lo hi : Option Operand) : Option AV :=
  match asNatD tm hi 0 with
  | some 0 => (match asNatD tm lo 0 with | some 0 => some .nils | _ => none)
  | _ => none
def slArr (P : Program) (tm : Tm) (lo hi : Option Operand) (id off : Nat) : Option TypeDesc → Option AV
  | some (.array n e) => (match szOf P e with | some z => slSlc tm lo hi z id off n (.k n) | none => none)
  | _ => none
def slPtr (P : Program) (tm : Tm) (lo hi : Option Operand) (id off : Nat) : Option TypeDesc → Option AV
  | some (.pointer a) => slArr P tm lo hi id off (P.underlying a)
  | d => slArr P tm lo hi id off d
def slV (P : Program) (t : TypeId) (tm : Tm) (lo hi : Option Operand) : AV → Option AV
  | .str s => (match P.underlying t with | some .string => slStr tm lo hi s | _ => none)
  | .slc id off len cap => (match sliceElem (P.underlying t) with
    | some e => (match szOf P e with | some z => slSlc tm lo hi z id off len cap | none => none)
    | none => none)
  | .nils => (match sliceElem (P.underlying t) with | some e => (match szOf P e with | some _ => slNil tm lo hi | none => none) | none => none)
  | .ptr id off => slPtr P tm lo hi id off (P.underlying t)
  | _ => none
def oSlice (t : TypeId) (x : Operand) (lo hi mx : Option Operand) (P : Program) (tm : Tm) (h : Hp) : Ro :=
  match mx with
  | some _ => .bad
  | none => val? h (slV P t tm lo hi (opd tm x))
def fieldOf (P : Program) (t : TypeId) (i : Nat) : Option Field := match fields (P.underlying t) with | some fs => nthL fs.toList i | none => none
def fa (P : Program) (s : TypeId) (f : Nat) (h : Hp) : AV → Ro
  | .ptr id off => (match fieldOf P s f with
    | some fd => (match szOf P fd.type with | some (_ + 1) => .val (.ptr id (off + fd.offset)) h | _ => .bad)
    | none => .bad)
  | _ => .bad
def oFieldAddr (s : TypeId) (x : Operand) (f : Nat) (P : Program) (tm : Tm) (h : Hp) : Ro := fa P s f h (opd tm x)
def fv (P : Program) (s : TypeId) (f : Nat) : AV → Option AV
  | .agg cs => (match fieldOf P s f with | some fd => rdAt P fd.type cs fd.offset | none => none)
  | _ => none
def oField (s : TypeId) (x : Operand) (f : Nat) (P : Program) (tm : Tm) (h : Hp) : Ro := val? h (fv P s f (opd tm x))
def arrElem : Option TypeDesc → Option (Nat × TypeId)
  | some (.array n e) => some (n, e)
  | _ => none
def ixAt (P : Program) (e : TypeId) (id off len i : Nat) : Option AV :=
  bif Nat.blt i len then (match szOf P e with | some s => some (.ptr id (off + i * s)) | none => none) else none
def ixa (P : Program) (t : TypeId) (i : Nat) : AV → Option AV
  | .ptr id off => (match arrElem (P.underlying t) with | some (n, e) => ixAt P e id off n i | none => none)
  | .slc id off len _ => (match sliceElem (P.underlying t) with | some e => ixAt P e id off len i | none => none)
  | _ => none
def oIndexAddr (t : TypeId) (x ix : Operand) (P : Program) (tm : Tm) (h : Hp) : Ro :=
  match asNat (opd tm ix) with
  | some i => val? h (ixa P t i (opd tm x))
  | none => .bad
def ixv (P : Program) (t : TypeId) (i : Nat) : AV → Option AV
  | .agg cs => (match arrElem (P.underlying t) with
    | some (n, e) => bif Nat.blt i n then (match szOf P e with | some s => rdAt P e cs (i * s) | none => none) else none
    | none => none)
  | .str s => (match P.underlying t with | some .string => (match nthL s i with | some b => some (byteV b) | none => none) | _ => none)
  | _ => none
def oIndex (t : TypeId) (x ix : Operand) (P : Program) (tm : Tm) (h : Hp) : Ro :=
  match asNat (opd tm ix) with
  | some i => val? h (ixv P t i (opd tm x))
  | none => .bad
def exv (i : Nat) : AV → Option AV
  | .tup vs => nthL vs i
  | _ => none
def oExtract (x : Operand) (i : Nat) (_ : Program) (tm : Tm) (h : Hp) : Ro := val? h (exv i (opd tm x))

def firstCells (h : Hp) (size n : Nat) : AV → Option (List AV)
  | .slc id off _ _ => (match blk h id with | some cs => slab cs off (n * size) | none => none)
  | .nils => some []
  | .str _ => none
  | _ => none
def pickI (o : Bool) (k : IntKind) (x : Int) : AV → AV
  | .int _ y => .int k (bif (bif o then intLt x y else intLt y x) then y else x)
  | _ => .any
def maxI (o : Bool) (a b : AV) : AV :=
  match a with
  | .int k x => pickI o k x b
  | _ => .any
def lenSl : AV → Option Nat
  | .slc _ _ len _ => some len
  | .nils => some 0
  | _ => none
def bLen (x : AV) (t : Option TypeDesc) (h : Hp) : Ro :=
  match t with
  | some (.array n _) => .val (.int .i64 (Int.ofNat n)) h
  | some .string => (match x with | .str s => .val (.int .i64 (Int.ofNat (lenL s))) h | _ => .bad)
  | some (.slice _) => (match lenSl x with | some n => .val (.int .i64 (Int.ofNat n)) h | none => .bad)
  | _ => .bad
def killed (h : Hp) : AV → Hp
  | .slc id _ _ _ => wrBlk h id .dead
  | _ => h
def app2 (h : Hp) (s : AV) (z n : Nat) (old new : List AV) : Ro :=
  .val (.slc h.nx 0 n (.r z)) (newBlk (killed h s) (.cells (appL old new)))
/-- What lies in a slice to which is appended; its room must be known to lie there. -/
def roomOk (z off : Nat) (cs : List AV) : Cap → Bool
  | .k c => Nat.ble (off + c * z) (lenL cs)
  | .r z' => Nat.beq z z'
def oldOf (h : Hp) (z : Nat) : AV → Option (List AV)
  | .slc id off len cap => (match wblk h id with
    | some cs => bif roomOk z off cs cap then slab cs off (len * z) else none
    | none => none)
  | .nils => some []
  | _ => none
/-- What is appended. -/
def newOf (h : Hp) (z n : Nat) (x : AV) : Option TypeDesc → Option (List AV)
  | some (.slice _) => (match x with
    | .slc id off _ _ => (match blk h id with | some cs => slab cs off (n * z) | none => none)
    | _ => none)
  | some .string => (match x with
    | .str s => bif Nat.beq z 1 then some (mapL byteV s) else none
    | _ => none)
  | _ => none
def isSeq : Option TypeDesc → Bool
  | some (.slice _) => true
  | some .string => true
  | _ => false
def app1 (P : Program) (e z sl n : Nat) (s : AV) (h : Hp) (old : Option (List AV)) (new : Option (List AV)) : Ro :=
  match old with
  | none => .bad
  | some old => match new with
    | none => .bad
    | some new => match P.info? e with
      | none => .bad
      | some i => match i.zero with
        | none => .bad
        | some zv => bif Nat.ble (sl + n) 65536 && Nat.ble i.bytes 65536 && allSc new && Nat.ble 1 z && Nat.beq (lenL (cellsOf (toAV zv))) z then app2 h s z (sl + n) old new else .bad
def keepS (s : AV) (h : Hp) : Ro :=
  match s with
  | .slc .. => .val s h
  | .nils => .val s h
  | _ => .bad
def bAppend (P : Program) (t u : TypeId) (s x : AV) (h : Hp) : Ro :=
  match sliceElem (P.underlying t) with
  | none => .bad
  | some e => match szOf P e with
    | none => .bad
    | some z => match lenOf x with
      | none => .bad
      | some n => match lenOf s with
        | none => .bad
        | some sl => bif isSeq (P.underlying u) then (bif Nat.beq n 0 then keepS s h else app1 P e z sl n s h (oldOf h z s) (newOf h z n x (P.underlying u))) else .bad
def bCopy (P : Program) (t : TypeId) (d s : AV) (h : Hp) : Ro :=
  match d with
  | .slc id off dl _ => (match sliceElem (P.underlying t) with
    | some e => (match szOf P e with
      | some z => (match lenOf s with
        | some sl =>
          (match firstCells h z (bif Nat.ble sl dl then sl else dl) s with
          | some new => (match wblk h id with
            | some cs => (match (bif allSc new then setAt off cs new else none) with | some cs' => .val (.int .i64 (Int.ofNat (bif Nat.ble sl dl then sl else dl))) (wrBlk h id (.cells cs')) | none => .bad)
            | none => .bad)
          | none => .bad)
        | none => .bad)
      | none => .bad)
    | none => .bad)
  | _ => .bad
def foldV (o : Bool) (l : List AV) : AV → AV := List.rec (motive := fun _ => AV → AV) (fun a => a) (fun b _ ih a => ih (maxI o a b)) l
def bMM (o : Bool) (h : Hp) : List AV → Ro
  | a :: b :: l => okv h (foldV o (b :: l) a)
  | _ => .bad
def bi (P : Program) (b : Builtin) (ts : List TypeId) (args : List AV) (h : Hp) : Ro :=
  match b with
  | .len => (match args with | [x] => (match ts with | t :: _ => bLen x (P.underlying t) h | _ => .bad) | _ => .bad)
  | .append => (match args with | [s, x] => (match ts with | [t, u] => bAppend P t u s x h | _ => .bad) | _ => .bad)
  | .copy => (match args with | [d, s] => (match ts with | [t, _] => bCopy P t d s h | _ => .bad) | _ => .bad)
  | .min => bMM false h args
  | .max => bMM true h args
  | _ => .bad
def callee (args : List AV) : AV → Ro
  | .fn f caps => .enter f (appL args caps)
  | _ => .bad
def oCall (c : Call) (P : Program) (tm : Tm) (h : Hp) : Ro :=
  match c.callee with
  | .value f => callee (mapL (opd tm) c.args.toList) (opd tm f)
  | .builtin b => bi P b c.argTypes.toList (mapL (opd tm) c.args.toList) h
  | .invoke .. => .bad

def aop (op : Op) : Program → Tm → Hp → Ro :=
  Op.rec (motive := fun _ => Program → Tm → Hp → Ro)
    oMove oMove oPick oAlloc oBox oBuild oBuildSlice (fun _ _ _ _ => oBad) oLoad oStore (fun _ => oBad) (fun _ => oBad) oNil oBin oUn oConv
    (fun _ _ => oBad) (fun _ _ => oBad) oFunc (fun _ _ => oBad) (fun _ _ => oBad) oMakeSlice oSlice oFieldAddr oField oIndexAddr oIndex (fun _ _ _ _ => oBad) (fun _ _ _ _ => oBad)
    (fun _ _ _ => oBad) (fun _ _ _ _ => oBad) (fun _ _ => oBad) (fun _ _ => oBad) (fun _ => oBad) (fun _ _ _ _ => oBad) oExtract oCall (fun _ => oBad) (fun _ => oBad) (fun _ => oBad) (fun _ _ => oBad) (fun _ _ _ => oBad) (fun _ _ => oBad) op

/-- What lies there and is looked at, or written. -/
inductive Foot where
  | ids (l : List Nat)
  | all
def Foot.meets : Foot → Foot → Bool
  | .ids l, .ids m => l.any fun a => m.any fun b => Nat.beq a b
  | .all, .ids l => !l.isEmpty
  | .ids l, .all => !l.isEmpty
  | .all, .all => true
def idsOf : AV → List Nat
  | .slc id _ _ _ => [id]
  | .ptr id _ => [id]
  | _ => []
def footB (b : Builtin) (args : List AV) : Foot × Foot :=
  match b with
  | .append => (match args with | [s, x] => (.ids (idsOf s ++ idsOf x), .ids (idsOf s)) | _ => (.ids [], .ids []))
  | .copy => (match args with | [d, s] => (.ids (idsOf d ++ idsOf s), .ids (idsOf d)) | _ => (.ids [], .ids []))
  | _ => (.ids [], .ids [])
def foot (tm : Tm) : Op → Foot × Foot
  | .load _ x => (.ids (idsOf (opd tm x)), .ids [])
  | .convert _ _ x => (.ids (idsOf (opd tm x)), .ids [])
  | .store _ x _ => (.ids (idsOf (opd tm x)), .ids (idsOf (opd tm x)))
  | .call c => (match c.callee with | .builtin b => footB b (mapL (opd tm) c.args.toList) | _ => (.all, .all))
  | _ => (.ids [], .ids [])

def put (n : Nat) (tm : Tm) (d : Option Nat) (v : AV) : Option (Tm) :=
  Option.rec (motive := fun _ => Option Tm) (some tm) (fun d => Bool.rec (motive := fun _ => Option Tm) none (some (tm.set d v)) (Nat.blt d n)) d

def isTrue (b : Bool) : AV → Option Bool
  | .bool x => some (bif x then b else !b)
  | .any => none
  | _ => some false
def dstOf (ops : Array Oper) (g : Nat) : Option Nat := match nthL ops.toList g with | some o => o.dst | none => none
def want (ops : Array Oper) (tm : Tm) (o : Oper) : Option Bool :=
  Option.rec (motive := fun _ => Option Bool) (some true) (fun g => Option.rec (motive := fun _ => Option Bool) (some false) (fun d => isTrue g.2 (tmpV tm d)) (dstOf ops g.1)) o.guard

abbrev Self := Code → Tm → Nat → Hp → Rs
structure FnD where
  n : Nat
  rs : List ResultVar
  c : Code
def fnD (P : Program) (f : Nat) : Option FnD :=
  match P.funcs[f]? with
  | some fn => (match fn.body with | some c => bif fn.name == "runtime.NumGoroutine" then none else some ⟨fn.ntmps, fn.results.toList, c⟩ | none => none)
  | none => none
def mkTm (l : List AV) : Nat → Tm → Tm := List.rec (motive := fun _ => Nat → Tm → Tm) (fun _ t => t) (fun v _ ih i t => ih (Nat.succ i) (t.set i v)) l
def resV (P : Program) (tm : Tm) (h : Hp) : ResultVar → Option AV
  | .tmp t => some (tmpV tm t)
  | .cell a t => ldAt P t h (tmpV tm a)
def resK (ih : Option (List AV)) : Option AV → Option (List AV)
  | some v => consO v ih
  | none => none
def resL (P : Program) (tm : Tm) (h : Hp) (l : List ResultVar) : Option (List AV) :=
  List.rec (motive := fun _ => Option (List AV)) (some []) (fun r _ ih => resK ih (resV P tm h r)) l
def tupV : List AV → AV
  | [v] => v
  | vs => .tup vs
def retV (h : Hp) : Option (List AV) → Ro
  | some vs => .val (tupV vs) h
  | none => .bad
def leave (P : Program) (rs : List ResultVar) : Rs → Ro
  | .normal tm h => retV h (resL P tm h rs)
  | .ret tm h => retV h (resL P tm h rs)
  | _ => .bad
abbrev Hook := Nat → Option (List AV → Hp → Ro)
def enterD (P : Program) (self : Self) (args : List AV) (h : Hp) : Option FnD → Ro
  | some d => leave P d.rs (self d.c (mkTm args 0 .lf) (bif Nat.ble d.n (lenL args) then lenL args else d.n) h)
  | none => .bad
def callH (P : Program) (self : Self) (f : Nat) (args : List AV) (h : Hp) : Option (List AV → Hp → Ro) → Ro
  | some g => g args h
  | none => enterD P self args h (fnD P f)
def call (P : Program) (hk : Hook) (self : Self) (f : Nat) (args : List AV) (h : Hp) : Ro := callH P self f args h (hk f)

def isFn : Op → Bool
  | .call c => (match c.callee with | .value _ => true | _ => false)
  | _ => false
def full (P : Program) (hk : Hook) (self : Self) (op : Op) (r : Ro) (h : Hp) : Ro :=
  Ro.rec (motive := fun _ => Ro) .bad (fun v h => .val v h) (fun f args => bif isFn op then call P hk self f args h else .bad) r
/-- One operation, whole: what it gives, or bad. -/
def one (P : Program) (hk : Hook) (self : Self) (o : Oper) (tm : Tm) (h : Hp) : Ro := full P hk self o.op (aop o.op P tm h) h

def nextS (ih : Tm → Nat → Hp → Rs) (n : Nat) (h : Hp) (o : Option Tm) : Rs := Option.rec (motive := fun _ => Rs) .bad (fun tm => ih tm n h) o
def goS (ih : Tm → Nat → Hp → Rs) (d : Option Nat) (tm : Tm) (n : Nat) (r : Ro) : Rs :=
  Ro.rec (motive := fun _ => Rs) .bad (fun v h => nextS ih n h (put n tm d v)) (fun _ _ => .bad) r
def wantS (P : Program) (hk : Hook) (self : Self) (o : Oper) (ih : Tm → Nat → Hp → Rs) (tm : Tm) (n : Nat) (h : Hp) (w : Option Bool) : Rs :=
  Option.rec (motive := fun _ => Rs) .bad (fun b => Bool.rec (motive := fun _ => Rs) (nextS ih n h (put n tm o.dst (.tup []))) (goS ih o.dst tm n (one P hk self o tm h)) b) w
/-- The operations one behind the other. -/
def seqO (P : Program) (hk : Hook) (self : Self) (all : Array Oper) (l : List Oper) : Tm → Nat → Hp → Rs :=
  List.rec (motive := fun _ => Tm → Nat → Hp → Rs) (fun tm _ h => .normal tm h) (fun o _ ih tm n h => wantS P hk self o ih tm n h (want all tm o)) l

def bigWm : Nat := 1000000000
def hpW (h : Hp) (w : Nat) : Hp := ⟨h.h, h.nx, w⟩
/-- What an operation looked at and wrote, and what it made. -/
structure Fx where
  rd : Foot
  wr : Foot
  lo : Nat
  hi : Nat
def footOf (o : Oper) (tm : Tm) (nx : Nat) (h' : Hp) : Fx :=
  match foot tm o.op with
  | (.all, _) => ⟨.all, bif Nat.blt h'.wm nx then .all else .ids [], nx, h'.nx⟩
  | (r, w) => ⟨r, w, nx, h'.nx⟩
def minWm (w : Nat) (h : Hp) : Hp := ⟨h.h, h.nx, bif Nat.ble w h.wm then w else h.wm⟩
def goD (ih : List Fx → Tm → Nat → Hp → Rs) (fx : List Fx) (o : Oper) (tm : Tm) (n : Nat) (h : Hp) : Ro → Rs
  | .val v h' => (match put n tm o.dst v with | some tm' => ih (footOf o tm h.nx h' :: fx) tm' n (minWm h.wm h') | none => .bad)
  | _ => .bad
def wantD (P : Program) (hk : Hook) (self : Self) (o : Oper) (ih : List Fx → Tm → Nat → Hp → Rs) (fx : List Fx) (tm : Tm) (n : Nat) (h : Hp) : Option Bool → Rs
  | some true => goD ih fx o tm n h (one P hk self o tm (hpW h bigWm))
  | some false => (match put n tm o.dst (.tup []) with | some tm' => ih (⟨.ids [], .ids [], h.nx, h.nx⟩ :: fx) tm' n h | none => .bad)
  | none => .bad
def seqD (P : Program) (hk : Hook) (self : Self) (all : Array Oper) (fin : List Fx → Tm → Nat → Hp → Rs) (l : List Oper) : List Fx → Tm → Nat → Hp → Rs :=
  List.rec (motive := fun _ => List Fx → Tm → Nat → Hp → Rs) fin (fun o _ ih fx tm n h => wantD P hk self o ih fx tm n h (want all tm o)) l

/-- The operations that each operation waits for, as bits. -/
def ancs : List Oper → List Nat → List Nat
  | [], acc => acc.reverse
  | o :: l, acc => ancs l ((o.after.toList.foldl (fun s e => bif Region.binds .any e then Nat.lor s (Nat.lor (Nat.pow 2 e.on) (acc.reverse.getD e.on 0)) else s) 0) :: acc)
def Foot.within (lo hi : Nat) : Foot → Bool
  | .ids l => l.any fun a => Nat.ble lo a && Nat.blt a hi
  | .all => Nat.blt lo hi
def clash (f g : Fx) : Bool := f.wr.meets g.rd || g.wr.meets f.rd || f.wr.within g.lo g.hi || g.wr.within f.lo f.hi
/-- Of two operations that do not wait for each other neither writes what the other one looks at or makes. -/
def okWith (a : Nat) (f : Fx) (seen : List Fx) : Bool := List.rec (motive := fun _ => Nat → Bool) (fun _ => true) (fun g _ ih k => bif Nat.testBit a k || !clash f g then ih (Nat.succ k) else false) seen 0
def okPairs (as : List Nat) (fs seen : List Fx) : Bool :=
  match as, fs with
  | a :: as, f :: fs => okWith a f seen && okPairs as fs (seen ++ [f])
  | _, _ => true
/-- No operation looks at the result of one that it does not wait for, and results have places of their own. -/
def tmpsOf (o : Oper) : List Nat := o.op.operands.toList.filterMap fun | .tmp t => some t | _ => none
def flow (ops : Array Oper) (as : List Nat) : Bool :=
  let l := ops.toList.zipIdx
  (l.all fun p => p.1.after.toList.all fun e => !Region.binds .any e || Nat.blt e.on p.2) && l.all fun p => match p.1.dst with
    | none => true
    | some d => l.all fun q => (Nat.beq p.2 q.2) || (!(match q.1.dst with | some d' => Nat.beq d d' | none => false) &&
        (!((tmpsOf q.1).any (Nat.beq d) || (match q.1.guard with | some (g, _) => (match dstOf ops g with | some d' => Nat.beq d d' | none => false) | none => false)) ||
          Nat.testBit (as.getD q.2 0) p.2 || Nat.testBit (as.getD p.2 0) q.2))
def finD (ops : Array Oper) (fx : List Fx) (tm : Tm) (_ : Nat) (h : Hp) : Rs :=
  bif flow ops (ancs ops.toList []) && okPairs (ancs ops.toList []) fx.reverse [] then .normal tm h else .bad

def seqK (k : Tm → Nat → Hp → Rs) (n : Nat) (r : Rs) : Rs :=
  Rs.rec (motive := fun _ => Rs) .bad (fun tm h => k tm n h) (fun i tm h => .exit i tm h) (fun tm h => .ret tm h) r
def blockK (id : Nat) : Rs → Rs
  | .exit i tm h => bif Nat.beq i id then .normal tm h else .exit i tm h
  | r => r
def condK (a b : Rs) : AV → Rs
  | .bool t => bif t then a else b
  | _ => .bad
abbrev CF := Program → Hook → Self → Tm → Nat → Hp → Rs
def cBad : CF := fun _ _ _ _ _ _ => .bad
def cSkip : CF := fun _ _ _ tm _ h => .normal tm h
def cRegion (_ : Nat) (os : Array Oper) (d : Bool) : CF := fun P hk self tm n h =>
  bif d then seqD P hk self os (finD os) os.toList [] tm n h else seqO P hk self os os.toList tm n h
def cSeq (_ _ : Code) (a b : CF) : CF := fun P hk self tm n h => seqK (b P hk self) n (a P hk self tm n h)
def cCond (x : Operand) (_ _ : Code) (a b : CF) : CF := fun P hk self tm n h => condK (a P hk self tm n h) (b P hk self tm n h) (opd tm x)
def cBlock (id : Nat) (_ : Code) (a : CF) : CF := fun P hk self tm n h => blockK id (a P hk self tm n h)
def cLoop (c : Code) (a : CF) : CF := fun P hk self tm n h => seqK (self (.loop c)) n (a P hk self tm n h)
def cExit (id : Nat) : CF := fun _ _ _ tm _ h => .exit id tm h
def cRet : CF := fun _ _ _ tm _ h => .ret tm h
def codeF (c : Code) : CF :=
  Code.rec (motive := fun _ => CF) cSkip cRegion cSeq cCond cBlock cLoop (fun _ _ _ _ _ _ => cBad) cExit (fun _ _ => cBad) (fun _ => cSkip) (fun _ => cBad) cRet (fun _ => cBad) c
def ev (P : Program) (hk : Hook) (fuel : Nat) : Self := Nat.rec (motive := fun _ => Self) (fun _ _ _ _ => .bad) (fun _ ih c tm n h => codeF c P hk ih tm n h) fuel
end
end Go.Proofs.YtnbnoacadhoimaaGreatDoor.Ax
