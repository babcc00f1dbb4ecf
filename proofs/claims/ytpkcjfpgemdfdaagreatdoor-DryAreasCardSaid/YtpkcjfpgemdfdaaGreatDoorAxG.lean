/- Parts. -/
import GoSem.Core.Code
import GoSem.Core.Text
import GoSem.Core.Program
import GoSem.Core.Region
import GoSem.Dispatch
import GoSem.Step
import Derived.Calls
import Derived.Orders
import Derived.Deep.AppendSrc
import Derived.Laws.CopyRow
import Derived.Laws.Sem
import Derived.Handy
import Derived.Below
set_option linter.all false
set_option maxRecDepth 100000
set_option maxHeartbeats 8000000
namespace Go.Proofs.YtpkcjfpgemdfdaaGreatDoor.Ax
open Go

inductive Tr (α:Type) where
 | lf
 | nd (v:Option α) (l r:Tr α)
namespace Tr
noncomputable section
variable {α:Type}
def jqS (f:Nat):Nat→List Bool:=
 Nat.rec (motive:=fun _=>Nat→List Bool) (fun _=> []) (fun _ ih k=>bif Nat.beq k 0 then [] else Nat.beq (Nat.mod k 2) 1::ih (Nat.pred (Nat.div (Nat.succ k) 2))) f
def pth (k:Nat):List Bool:=jqS k k
def gNd (v:Option α) (_ _:Tr α) (gl gr:List Bool→Option α) (p:List Bool):Option α:=
 List.rec (motive:=fun _=>Option α) v (fun b p _=>Bool.rec (motive:=fun _=>Option α) (gr p) (gl p) b) p
def gLf (_:List Bool):Option α:=none
def jtS (t:Tr α):List Bool→Option α:=Tr.rec (motive:=fun _=>List Bool→Option α) gLf gNd t
def get (t:Tr α) (k:Nat):Option α:=jtS t (pth k)
def sLf (p:List Bool) (x:α):Tr α:=List.rec (motive:=fun _=>Tr α) (.nd (some x) .lf .lf) (fun b _ ih=>Bool.rec (motive:=fun _=>Tr α) (.nd none .lf ih) (.nd none ih .lf) b) p
def sNd (v:Option α) (l r:Tr α) (sl sr:List Bool→α→Tr α) (p:List Bool) (x:α):Tr α:=
 List.rec (motive:=fun _=>Tr α) (.nd (some x) l r) (fun b p _=>Bool.rec (motive:=fun _=>Tr α) (.nd v l (sr p x)) (.nd v (sl p x) r) b) p
def jv4 (t:Tr α):List Bool→α→Tr α:=Tr.rec (motive:=fun _=>List Bool→α→Tr α) sLf sNd t
def set (t:Tr α) (k:Nat) (x:α):Tr α:=jv4 t (pth k) x
end
end Tr
noncomputable section
def jch {α:Type} (l:List α):Nat:=List.rec (motive:=fun _=>Nat) 0 (fun _ _ ih=>Nat.succ ih) l
def nN {α:Type} (_:Nat):Option α:=none
def nC {α:Type} (a:α) (_:List α) (ih:Nat→Option α) (k:Nat):Option α:=Nat.rec (motive:=fun _=>Option α) (some a) (fun k _=>ih k) k
def jrZ {α:Type} (l:List α):Nat→Option α:=List.rec (motive:=fun _=>Nat→Option α) nN nC l
def jgD {α β:Type} (f:α→β) (l:List α):List β:=List.rec (motive:=fun _=>List β) [] (fun a _ ih=>f a::ih) l
def jq8 {α:Type} (l m:List α):List α:=List.rec (motive:=fun _=>List α) m (fun a _ ih=>a::ih) l
def dN {α:Type} (_:Nat):List α:=[]
def dC {α:Type} (a:α) (l:List α) (ih:Nat→List α) (k:Nat):List α:=Nat.rec (motive:=fun _=>List α) (a::l) (fun k _=>ih k) k
def jr8 {α:Type} (l:List α):Nat→List α:=List.rec (motive:=fun _=>Nat→List α) dN dC l
def kN {α:Type} (_:Nat):List α:=[]
def kC {α:Type} (a:α) (_:List α) (ih:Nat→List α) (k:Nat):List α:=Nat.rec (motive:=fun _=>List α) [] (fun k _=>a::ih k) k
def jtN {α:Type} (l:List α):Nat→List α:=List.rec (motive:=fun _=>Nat→List α) kN kC l
def jfp {α:Type} (a:α):Option (List α)→Option (List α)
 | some l=>some (a::l)
 | none=>none
end

inductive Cap where
 | k (c:Nat)
 | r (z:Nat)
inductive AV where
 | int (k:IntKind) (n:Int)
 | bool (b:Bool)
 | str (s:List UInt8)
 | ptr (id off:Nat)
 | nilp
 | slc (id off len:Nat) (cap:Cap)
 | nils
 | agg (vs:List AV)
 | tup (vs:List AV)
 | fn (f:Nat) (caps:List AV)
 | nilf
 | nili
 | any

inductive Blk where
 | cells (cs:List AV)
 | ro (cs:List AV)
 | dead

def toAV0:Value→AV
 | .int k n=> .int k n
 | .bool b=> .bool b
 | .string s=> .str s.data.toList
 | .pointer none=> .nilp
 | .slice none 0 0=> .nils
 | .nilFunc=> .nilf
 | .nilIface=> .nili
 | _=> .any
def toAV:Value→AV
 | .agg cs=> .agg (cs.toList.map toAV0)
 | v=>toAV0 v

def cellsOf:AV→List AV
 | .agg vs=>vs
 | v=> [v]

abbrev Tm:=Tr AV
abbrev Mem:=Tr Blk
structure Hp where
 h:Mem
 nx:Nat
 wm:Nat

noncomputable section
def jd0 (tm:Tm) (t:Nat):AV:=Option.rec (motive:=fun _=>AV) (.tup []) (fun v=>v) (tm.get t)
def opd (tm:Tm) (x:Operand):AV:=
 Operand.rec (motive:=fun _=>Tm→AV) (fun t tm=>jd0 tm t) (fun v _=>toAV v) (fun g _=>bif Nat.blt g 100 then .ptr g 0 else .any) (fun f _=> .fn f []) x tm

inductive Ro where
 | bad
 | val (v:AV) (h:Hp)
 | enter (f:Nat) (args:List AV)
inductive Rs where
 | bad
 | normal (tm:Tm) (h:Hp)
 | exit (id:Nat) (tm:Tm) (h:Hp)
 | ret (tm:Tm) (h:Hp)

def jau (h:Hp) (b:Blk):Hp:=⟨h.h.set h.nx b,Nat.succ h.nx,h.wm⟩
noncomputable def rdB (b:Option Blk):Option (List AV):=Option.rec (motive:=fun _=>Option (List AV)) none (fun b=>Blk.rec (motive:=fun _=>Option (List AV)) some some none b) b
def blk (h:Hp) (id:Nat):Option (List AV):=rdB (h.h.get id)
noncomputable def wrB (b:Option Blk):Option (List AV):=Option.rec (motive:=fun _=>Option (List AV)) none (fun b=>Blk.rec (motive:=fun _=>Option (List AV)) some (fun _=>none) none b) b
def juH (h:Hp) (id:Nat):Option (List AV):=wrB (h.h.get id)
def jfo (h:Hp) (id:Nat) (b:Blk):Hp:=⟨h.h.set id b,h.nx,bif Nat.ble h.wm id then h.wm else id⟩

end
noncomputable section
def tN (n:Nat):Option (List AV):=Nat.rec (motive:=fun _=>Option (List AV)) (some []) (fun _ _=>none) n
def tC (a:AV) (_:List AV) (ih:Nat→Option (List AV)) (n:Nat):Option (List AV):=Nat.rec (motive:=fun _=>Option (List AV)) (some []) (fun n _=>jfp a (ih n)) n
def jrp (l:List AV):Nat→Option (List AV):=List.rec (motive:=fun _=>Nat→Option (List AV)) tN tC l
def jpC (cs:List AV) (off n:Nat):Option (List AV):=jrp (jr8 cs off) n
def pN (_:Nat) (vs:List AV):Option (List AV):=List.rec (motive:=fun _=>Option (List AV)) (some []) (fun _ _ _=>none) vs
def pC (c:AV) (l:List AV) (ih:Nat→List AV→Option (List AV)) (off:Nat) (vs:List AV):Option (List AV):=
 Nat.rec (motive:=fun _=>Option (List AV)) (List.rec (motive:=fun _=>Option (List AV)) (some (c::l)) (fun v vs _=>jfp v (ih 0 vs)) vs) (fun off _=>jfp c (ih off vs)) off
def jfT (cs:List AV):Nat→List AV→Option (List AV):=List.rec (motive:=fun _=>Nat→List AV→Option (List AV)) pN pC cs
def jiN (off:Nat) (cs vs:List AV):Option (List AV):=jfT cs off vs
def rep (zero:List AV) (n:Nat):List AV:=Nat.rec (motive:=fun _=>List AV) [] (fun _ ih=>jq8 zero ih) n
def isAgg (P:Program) (t:Nat):Option Bool:=match P.underlying t with|some (.struct _)=>some true|some (.array ..)=>some true|some _=>some false|none=>none
def jg8 (P:Program) (t:Nat):Option Nat:=match P.info? t with|some i=>some i.size|none=>none
def jen (P:Program) (t:Nat):Option (List AV):=match P.info? t with|some i=>(match i.zero with|some v=>some (cellsOf (toAV v))|none=>none)|none=>none

def juz (k:List AV→Option (List AV)):Option (List AV)→Option (List AV)
 | some cs=>k cs
 | none=>none
def jwp:AV→Bool
 | .any=>true
 | _=>false
def jtm (v:AV) (cs:List AV) (k:List AV→Option (List AV)):Option (Nat×Nat)→Option (List AV)
 | some p=>bif Nat.beq (jch (cellsOf v)) p.2 && !jwp v && Nat.ble (p.1+p.2) (jch cs) then juz k (jiN p.1 cs (cellsOf v)) else none
 | none=>none
def jls (place:Nat→Option (Nat×Nat)) (l:List (Nat×AV)):List AV→Option (List AV):=
 List.rec (motive:=fun _=>List AV→Option (List AV)) some (fun p _ ih cs=>jtm p.2 cs ih (place p.1)) l

def ltC (a:UInt8) (_:List UInt8) (ih:List UInt8→Bool) (m:List UInt8):Bool:=
 List.rec (motive:=fun _=>Bool) false (fun b m _=>bif Nat.blt a.toNat b.toNat then true else bif Nat.beq a.toNat b.toNat then ih m else false) m
def ltN (m:List UInt8):Bool:=List.rec (motive:=fun _=>Bool) false (fun _ _ _=>true) m
def bytesLess (l:List UInt8):List UInt8→Bool:=List.rec (motive:=fun _=>List UInt8→Bool) ltN ltC l
def beN (m:List UInt8):Bool:=List.rec (motive:=fun _=>Bool) true (fun _ _ _=>false) m
def beC (a:UInt8) (_:List UInt8) (ih:List UInt8→Bool) (m:List UInt8):Bool:=
 List.rec (motive:=fun _=>Bool) false (fun b m _=>bif Nat.beq a.toNat b.toNat then ih m else false) m
def jbQ (l:List UInt8):List UInt8→Bool:=List.rec (motive:=fun _=>List UInt8→Bool) beN beC l
def jft:Int→Int→Bool
 | .ofNat a, .ofNat b=>Nat.beq a b
 | .negSucc a, .negSucc b=>Nat.beq a b
 | _,_=>false
def jbA:Int→Int→Bool
 | .ofNat a, .ofNat b=>Nat.blt a b
 | .negSucc a, .negSucc b=>Nat.blt b a
 | .negSucc _, .ofNat _=>true
 | .ofNat _, .negSucc _=>false

def jpF (ih:Option (List UInt8)):AV→Option (List UInt8)
 | .int .u8 n=>jfp (UInt8.ofNat n.toNat) ih
 | _=>none
def jj4 (l:List AV):Option (List UInt8):=List.rec (motive:=fun _=>Option (List UInt8)) (some []) (fun v _ ih=>jpF ih v) l

def jvo (k:IntKind) (a:Int):AV→Option Bool
 | .int k' b=>bif decide (k=k') then some (jft a b) else none
 | _=>none
def jtO (a:Bool):AV→Option Bool
 | .bool b=>some (bif a then b else !b)
 | _=>none
def jvc (a:List UInt8):AV→Option Bool
 | .str b=>some (jbQ a b)
 | _=>none
def jub:AV→Option Bool
 | .nilp=>some true
 | .ptr ..=>some false
 | _=>none
def jth:AV→Option Bool
 | .nils=>some true
 | .slc ..=>some false
 | _=>none
def jtw:AV→Option Bool
 | .nilf=>some true
 | .fn ..=>some false
 | _=>none
def jue:AV→Option Bool
 | .nili=>some true
 | _=>none
def jvm:AV→Option Bool
 | .nilp=>some false
 | _=>none
def jv1:AV→Option Bool
 | .nils=>some false
 | _=>none
def jw9:AV→Option Bool
 | .nilf=>some false
 | _=>none
def eqS (x y:AV) (d:TypeDesc):Option Bool:=
 match d with
 | .bool=>(match x with | .bool a=>jtO a y | _=>none)
 | .int _=>(match x with | .int k a=>jvo k a y | _=>none)
 | .string=>(match x with | .str a=>jvc a y | _=>none)
 | .pointer _=>(match x with | .nilp=>jub y | .ptr ..=>jvm y | _=>none)
 | .slice _=>(match x with | .nils=>jth y | .slc ..=>jv1 y | _=>none)
 | .func ..=>(match x with | .nilf=>jtw y | .fn ..=>jw9 y | _=>none)
 | .interface _=>(match x with | .nili=>jue y | _=>none)
 | _=>none

def lim:IntKind→Nat
 | .i8=>127 | .i16=>32767 | .i32=>2147483647 | .i64=>9223372036854775807
 | .u8=>255 | .u16=>65535 | .u32=>4294967295 | .u64=>18446744073709551615
def jte:IntKind→Bool
 | .i8=>true | .i16=>true | .i32=>true | .i64=>true | _=>false
def wrp (k:IntKind) (n:Int):Int:=
 match n with
 | .ofNat m=>bif Nat.ble m (lim k) then .ofNat m else k.wrap (.ofNat m)
 | .negSucc m=>bif jte k then (bif Nat.ble m (lim k) then .negSucc m else k.wrap (.negSucc m)) else k.wrap (.negSucc m)
def jwh (k:IntKind) (a b:Int):AV:= .int k (wrp k (Int.add a b))
def jvB (k:IntKind) (a b:Int):AV:= .int k (wrp k (Int.sub a b))
def jwj (k:IntKind) (a b:Int):AV:= .int k (wrp k (Int.mul a b))
def jwb (k:IntKind) (a b:Int):AV:=bif jft b 0 then .any else .int k (wrp k (Int.tdiv a b))
def jwa (k:IntKind) (a b:Int):AV:=bif jft b 0 then .any else .int k (Int.tmod a b)
def jwm (k:IntKind) (a b:Int):AV:= .int k (wrp k (Int.ofNat (Nat.land (BitVec.ofInt k.bits a).toNat (BitVec.ofInt k.bits b).toNat)))
def iOr (k:IntKind) (a b:Int):AV:= .int k (wrp k (Int.ofNat (Nat.lor (BitVec.ofInt k.bits a).toNat (BitVec.ofInt k.bits b).toNat)))
def jvI (k:IntKind) (a b:Int):AV:= .int k (wrp k (Int.ofNat (Nat.xor (BitVec.ofInt k.bits a).toNat (BitVec.ofInt k.bits b).toNat)))
def jw7 (k:IntKind) (a b:Int):AV:=bif jbA b 0 then .any else .int k (wrp k (Int.mul a (Int.ofNat (Nat.pow 2 (bif Nat.ble b.toNat k.bits then b.toNat else k.bits)))))
def jwf (k:IntKind) (a b:Int):AV:=bif jbA b 0 then .any else .int k (Int.fdiv a (Int.ofNat (Nat.pow 2 (bif Nat.ble b.toNat k.bits then b.toNat else k.bits))))
def jvY (_:IntKind) (_ _:Int):AV:= .any
def jvS (_:IntKind) (a b:Int):AV:= .bool (jft a b)
def jw3 (_:IntKind) (a b:Int):AV:= .bool (!jft a b)
def jwc (_:IntKind) (a b:Int):AV:= .bool (jbA a b)
def jvQ (_:IntKind) (a b:Int):AV:= .bool (!jbA b a)
def jwe (_:IntKind) (a b:Int):AV:= .bool (jbA b a)
def jwd (_:IntKind) (a b:Int):AV:= .bool (!jbA a b)
def jhA (op:BinOp):IntKind→Int→Int→AV:=
 BinOp.rec (motive:=fun _=>IntKind→Int→Int→AV) jwh jvB jwj jwb jwa jwm iOr jvI jw7 jwf jvY jvS jw3 jwc jvQ jwe jwd op
def jof (_ _:List UInt8):AV:= .any
def jw4 (a b:List UInt8):AV:=bif Nat.ble (jch a+jch b) 1000000 then .str (jq8 a b) else .any
def jwi (a b:List UInt8):AV:= .bool (jbQ a b)
def jwq (a b:List UInt8):AV:= .bool (!jbQ a b)
def jvW (a b:List UInt8):AV:= .bool (bytesLess a b)
def jw1 (a b:List UInt8):AV:= .bool (bytesLess a b || jbQ a b)
def jwn (a b:List UInt8):AV:= .bool (!(bytesLess a b || jbQ a b))
def jw5 (a b:List UInt8):AV:= .bool (!bytesLess a b)
def jsi (op:BinOp):List UInt8→List UInt8→AV:=
 BinOp.rec (motive:=fun _=>List UInt8→List UInt8→AV) jw4 jof jof jof jof jof jof jof jof jof jof jwi jwq jvW jw1 jwn jw5 op
def juT (op:BinOp) (r:Option Bool):AV:=
 match r with
 | none=> .any
 | some b=>match op with
   | .eql=> .bool b
   | .neq=> .bool (!b)
   | _=> .any
def jez:BinOp→Bool
 | .shl=>true
 | .shr=>true
 | _=>false
def jvx (op:BinOp) (k:IntKind) (a:Int):AV→AV
 | .int k' b=>bif jez op || decide (k=k') then jhA op k a b else .any
 | _=> .any
def jvO (op:BinOp) (a:List UInt8):AV→AV
 | .str b=>jsi op a b
 | _=> .any
def jvn:Int→Option Nat
 | .ofNat m=>some m
 | .negSucc _=>none
def jfD:AV→Option Nat
 | .int _ n=>jvn n
 | _=>none
def jcK (tm:Tm) (o:Option Operand) (d:Nat):Option Nat:=match o with|none=>some d|some x=>jfD (opd tm x)

def lenOf:AV→Option Nat
 | .slc _ _ len _=>some len
 | .nils=>some 0
 | .str s=>some (jch s)
 | _=>none

def okv (h:Hp):AV→Ro
 | .any=> .bad
 | v=> .val v h
noncomputable def val? (h:Hp) (o:Option AV):Ro:=Option.rec (motive:=fun _=>Ro) .bad (fun v=> .val v h) o
def new? (h:Hp) (len:Nat) (cap:Cap):Option (List AV)→Ro
 | some cs=> .val (.slc h.nx 0 len cap) (jau h (.cells cs))
 | none=> .bad

end
noncomputable section
def jfA (_:Program) (_:Tm) (_:Hp):Ro:= .bad
def jrY (x:Operand) (_:Program) (tm:Tm) (h:Hp):Ro:= .val (opd tm x) h
def jvr (tm:Tm) (h:Hp) (a b:Operand):AV→Ro
 | .bool t=> .val (bif t then opd tm a else opd tm b) h
 | _=> .bad
def jsC (c a b:Operand) (_:Program) (tm:Tm) (h:Hp):Ro:=jvr tm h a b (opd tm c)
def ptr? (h:Hp):Option (List AV)→Ro
 | some z=> .val (.ptr h.nx 0) (jau h (.cells z))
 | none=> .bad
def jo9 (e:TypeId) (P:Program) (_:Tm) (h:Hp):Ro:=ptr? h (jen P e)
def juZ (h:Hp):AV→Ro
 | .any=> .bad
 | v=> .val (.ptr h.nx 0) (jau h (.cells (cellsOf v)))
def jvJ (_:TypeId) (x:Operand) (_:Program) (tm:Tm) (h:Hp):Ro:=juZ h (opd tm x)
def jlr (tm:Tm) (l:List (Nat×Operand)):List (Nat×AV):=jgD (fun p=>(p.1,opd tm p.2)) l
def agg? (h:Hp):Option (List AV)→Ro
 | some cs=> .val (.agg cs) h
 | none=> .bad
def jk5 (P:Program) (fs:Array Field):Option (List (Nat×Nat)):=fs.toList.mapM fun f=>(P.info? f.type).map fun i=>(f.offset,i.size)
def jmt (P:Program) (tm:Tm) (ps:Array (Nat×Operand)) (z:List AV):Option TypeDesc→Option (List AV)
 | some (.struct fs)=>(match jk5 P fs with|some l=>jls (jrZ l) (jlr tm ps.toList) z|none=>none)
 | some (.array _ e)=>(match jg8 P e with|some s=>jls (fun i=>some (i*s,s)) (jlr tm ps.toList) z|none=>none)
 | _=>none
def jlN (t:TypeId) (ps:Array (Nat×Operand)) (P:Program) (tm:Tm) (h:Hp):Ro:=
 match jen P t with
 | some z=>agg? h (jmt P tm ps z (P.underlying t))
 | none=> .bad
def jaX:Option TypeDesc→Option TypeId
 | some (.slice e)=>some e
 | _=>none
def jcQ (t:TypeId) (len:Nat) (ps:Array (Nat×Operand)) (P:Program) (tm:Tm) (h:Hp):Ro:=
 match jaX (P.underlying t) with
 | some e=>(match jg8 P e,jen P e with
   | some s,some z=>bif Nat.ble (len*s) 65536 && Nat.beq (jch z) s then new? h len (.k len) (jls (fun i=>some (i*s,s)) (jlr tm ps.toList) (rep z len)) else .bad
   | _,_=> .bad)
 | none=> .bad
def jir (P:Program) (t:TypeId) (cs:List AV) (off:Nat):Option AV:=
 match isAgg P t with
 | some true=>(match jg8 P t with|some s=>(match jpC cs off s with|some vs=>some (.agg vs)|none=>none)|none=>none)
 | some false=>jrZ cs off
 | none=>none
def juI (P:Program) (t:TypeId) (h:Hp):AV→Option AV
 | .ptr id off=>(match blk h id with|some cs=>jir P t cs off|none=>none)
 | _=>none
def ju4 (t:TypeId) (x:Operand) (P:Program) (tm:Tm) (h:Hp):Ro:=val? h (juI P t h (opd tm x))
def sc:AV→Bool
 | .agg _=>false
 | .tup _=>false
 | .any=>false
 | _=>true
def jeH (l:List AV):Bool:=List.rec (motive:=fun _=>Bool) true (fun v _ ih=>bif sc v then ih else false) l
def jvt (h:Hp) (id:Nat):Option (List AV)→Ro
 | some cs=> .val (.tup []) (jfo h id (.cells cs))
 | none=> .bad
def jv9 (P:Program) (t:TypeId) (h:Hp) (vs:List AV):AV→Ro
 | .ptr id off=>(match juH h id with
   | some cs=>(match jg8 P t with|some s=>bif Nat.beq (jch vs) s && jeH vs then jvt h id (jiN off cs vs) else .bad|none=> .bad)
   | none=> .bad)
 | _=> .bad
def jqU (t:TypeId) (x v:Operand) (P:Program) (tm:Tm) (h:Hp):Ro:=jv9 P t h (cellsOf (opd tm v)) (opd tm x)
def eqK (k:Option Bool):Option Bool→Option Bool
 | some b=>bif b then k else some false
 | none=>none
def eq2 (k:AV→AV→Option Bool) (x y:Option AV):Option Bool:=
 match x with
 | some a=>(match y with|some b=>k a b|none=>none)
 | none=>none
def eqF (k:TypeId→AV→AV→Option Bool) (P:Program) (x y:List AV) (l:List Field):Option Bool:=
 List.rec (motive := fun _ => Option Bool) (some true) (fun f _ ih => bif f.name != "_" then eqK ih (eq2 (k f.type) (jir P f.type x f.offset) (jir P f.type y f.offset)) else none) l
def jin:Option TypeDesc→Option (Array Field)
 | some (.struct fs)=>some fs
 | _=>none
def eqA (k:TypeId→AV→AV→Option Bool) (P:Program) (t:TypeId) (xs:List AV):AV→Option Bool
 | .agg ys=>(match jin (P.underlying t) with|some fs=>bif P.stoodInHeld t then none else eqF k P xs ys fs.toList|none=>none)
 | _=>none
def eqD (x y:AV):Option TypeDesc→Option Bool
 | some d=>eqS x y d
 | none=>none
def jvh (P:Program) (k:TypeId→AV→AV→Option Bool) (t:TypeId) (x y:AV):Option Bool:=
 match x with
 | .agg xs=>eqA k P t xs y
 | x=>eqD x y (P.underlying t)
def eqT (P:Program) (n:Nat):TypeId→AV→AV→Option Bool:=Nat.rec (motive:=fun _=>TypeId→AV→AV→Option Bool) (fun _ _ _=>none) (fun _ ih t x y=>jvh P ih t x y) n
def isC:Operand→Bool
 | .const _=>true
 | _=>false
def gOk (P:Program) (t:TypeId) (a b:Operand):AV→Bool
 | .nili=>isC a || isC b
 | .agg _=> !P.eqGuardType P.depth t
 | .any=>false
 | _=>true
def jkO (P:Program) (op:BinOp) (t:TypeId) (x y:AV):AV:=
 match x with
 | .int k a=>jvx op k a y
 | .str a=>jvO op a y
 | x=>juT op (eqT P 16 t x y)
def nck (h:Hp):AV→Ro
 | .ptr id off=> .val (.ptr id off) h
 | .fn f c=> .val (.fn f c) h
 | _=> .bad
def jvD (x:Operand) (_:Program) (tm:Tm) (h:Hp):Ro:=nck h (opd tm x)
def juY (op:BinOp) (t:TypeId) (x y:Operand) (_:TypeId) (P:Program) (tm:Tm) (h:Hp):Ro:=
 bif gOk P t x y (opd tm x) then okv h (jkO P op t (opd tm x) (opd tm y)) else .bad
def juS (op:UnOp) (x:AV):AV:=
 match x with
 | .int k n=>(match op with | .neg=>jvB k 0 n | .xor=>jvI k (if k.signed then -1 else k.max) n | _=> .any)
 | .bool b=>(match op with | .not=> .bool (!b) | _=> .any)
 | _=> .any
def oUn (op:UnOp) (_:TypeId) (x:Operand) (_:Program) (tm:Tm) (h:Hp):Ro:=okv h (juS op (opd tm x))
def jr6 (b:UInt8):AV:= .int .u8 (Int.ofNat b.toNat)
def ju6 (P:Program) (d:TypeId) (h:Hp) (s:List UInt8):Ro:=
 match P.underlying d with
 | some .string=> .val (.str s) h
 | some (.slice e)=>(match P.underlying e with
   | some (.int .u8)=> .val (.slc h.nx 0 (jch s) (.r 1)) (jau h (.ro (jgD jr6 s)))
   | _=> .bad)
 | _=> .bad
def juJ (P:Program):Option TypeDesc→Bool
 | some (.slice e)=>(match P.underlying e with|some (.int .u8)=>true | _=>false)
 | _=>false
def jtx (P:Program) (src d:TypeId) (h:Hp) (cs:Option (List AV)):Ro:=
 match P.underlying d with
 | some .string=>bif juJ P (P.underlying src) then (match cs with
   | some cs=>(match jj4 cs with|some s=> .val (.str s) h|none=> .bad)
   | none=> .bad) else .bad
 | _=> .bad
def cv (P:Program) (src d:TypeId) (h:Hp):AV→Ro
 | .slc id off len _=>jtx P src d h (match blk h id with|some cs=>jpC cs off len|none=>none)
 | .int _ n=>(match P.underlying d with|some (.int k)=> .val (.int k (wrp k n)) h | _=> .bad)
 | .str s=>ju6 P d h s
 | _=> .bad
def jrg (src d:TypeId) (x:Operand) (P:Program) (tm:Tm) (h:Hp):Ro:=
 match P.underlying src with
 | some _=>cv P src d h (opd tm x)
 | none=> .bad
def jsb (fn:Fn) (first captured:Array Operand) (_:Program) (tm:Tm) (h:Hp):Ro:=
 match fn with
 | .func f=>(match first.toList with | []=> .val (.fn f (jgD (opd tm) captured.toList)) h | _=> .bad)
 | _=> .bad
def jdF (t:TypeId) (l c:Operand) (P:Program) (tm:Tm) (h:Hp):Ro:=
 match jaX (P.underlying t) with
 | some e=>(match jfD (opd tm l) with
   | some l=>(match jfD (opd tm c) with
     | some c=>(match jen P e with
       | some z=>(match P.info? e with
         | some i=>bif Nat.ble l c && Nat.ble c 65536 && Nat.ble i.bytes 65536 && Nat.beq (jch z) i.size then new? h l (.k c) (some (rep z c)) else .bad
         | none=> .bad)
       | none=> .bad)
     | none=> .bad)
   | none=> .bad)
 | none=> .bad
def jnq (len:Nat):Cap→Nat
 | .k c=>c
 | .r _=>len
def jkb (l:Nat):Cap→Cap
 | .k c=> .k (c - l)
 | .r z=> .r z
def jfP (z:Nat):Cap→Bool
 | .k _=>true
 | .r z'=>Nat.beq z z'
def cut (a l h c:Nat) (id z:Nat) (cap:Cap):Option AV:=
 bif Nat.ble l h && Nat.ble h c && jfP z cap then some (.slc id (a+l*z) (h - l) (jkb l cap)) else none
def jt9 (tm:Tm) (lo hi:Option Operand) (s:List UInt8):Option AV:=
 match jcK tm hi (jch s) with
 | some h=>(match jcK tm lo 0 with
   | some l=>bif Nat.ble l h && Nat.ble h (jch s) then some (.str (jtN (jr8 s l) (Nat.sub h l))) else none
   | none=>none)
 | none=>none
def jl6 (tm:Tm) (lo hi:Option Operand) (z id off len:Nat) (cap:Cap):Option AV:=
 match jcK tm hi len with
 | some h=>(match jcK tm lo 0 with
   | some l=>cut off l h (jnq len cap) id z cap
   | none=>none)
 | none=>none
def jtH (tm:Tm) (lo hi:Option Operand):Option AV:=
 match jcK tm hi 0 with
 | some 0=>(match jcK tm lo 0 with|some 0=>some .nils | _=>none)
 | _=>none
def jrD (P:Program) (tm:Tm) (lo hi:Option Operand) (id off:Nat):Option TypeDesc→Option AV
 | some (.array n e)=>(match jg8 P e with|some z=>jl6 tm lo hi z id off n (.k n)|none=>none)
 | _=>none
def ju9 (P:Program) (tm:Tm) (lo hi:Option Operand) (id off:Nat):Option TypeDesc→Option AV
 | some (.pointer a)=>jrD P tm lo hi id off (P.underlying a)
 | d=>jrD P tm lo hi id off d
def slV (P:Program) (t:TypeId) (tm:Tm) (lo hi:Option Operand):AV→Option AV
 | .str s=>(match P.underlying t with|some .string=>jt9 tm lo hi s | _=>none)
 | .slc id off len cap=>(match jaX (P.underlying t) with
   | some e=>(match jg8 P e with|some z=>jl6 tm lo hi z id off len cap|none=>none)
   | none=>none)
 | .nils=>(match jaX (P.underlying t) with|some e=>(match jg8 P e with|some _=>jtH tm lo hi|none=>none)|none=>none)
 | .ptr id off=>ju9 P tm lo hi id off (P.underlying t)
 | _=>none
def jmv (t:TypeId) (x:Operand) (lo hi mx:Option Operand) (P:Program) (tm:Tm) (h:Hp):Ro:=
 match mx with
 | some _=> .bad
 | none=>val? h (slV P t tm lo hi (opd tm x))
def jdJ (P:Program) (t:TypeId) (i:Nat):Option Field:=match jin (P.underlying t) with|some fs=>jrZ fs.toList i|none=>none
def fa (P:Program) (s:TypeId) (f:Nat) (h:Hp):AV→Ro
 | .ptr id off=>(match jdJ P s f with
   | some fd=>(match jg8 P fd.type with|some (_+1)=> .val (.ptr id (off+fd.offset)) h | _=> .bad)
   | none=> .bad)
 | _=> .bad
def jg0 (s:TypeId) (x:Operand) (f:Nat) (P:Program) (tm:Tm) (h:Hp):Ro:=fa P s f h (opd tm x)
def fv (P:Program) (s:TypeId) (f:Nat):AV→Option AV
 | .agg cs=>(match jdJ P s f with|some fd=>jir P fd.type cs fd.offset|none=>none)
 | _=>none
def jqV (s:TypeId) (x:Operand) (f:Nat) (P:Program) (tm:Tm) (h:Hp):Ro:=val? h (fv P s f (opd tm x))
def jh0:Option TypeDesc→Option (Nat×TypeId)
 | some (.array n e)=>some (n,e)
 | _=>none
def juK (P:Program) (e:TypeId) (id off len i:Nat):Option AV:=
 bif Nat.blt i len then (match jg8 P e with|some s=>some (.ptr id (off+i*s))|none=>none) else none
def ixa (P:Program) (t:TypeId) (i:Nat):AV→Option AV
 | .ptr id off=>(match jh0 (P.underlying t) with|some (n,e)=>juK P e id off n i|none=>none)
 | .slc id off len _=>(match jaX (P.underlying t) with|some e=>juK P e id off len i|none=>none)
 | _=>none
def jdH (t:TypeId) (x ix:Operand) (P:Program) (tm:Tm) (h:Hp):Ro:=
 match jfD (opd tm ix) with
 | some i=>val? h (ixa P t i (opd tm x))
 | none=> .bad
def ixv (P:Program) (t:TypeId) (i:Nat):AV→Option AV
 | .agg cs=>(match jh0 (P.underlying t) with
   | some (n,e)=>bif Nat.blt i n then (match jg8 P e with|some s=>jir P e cs (i*s)|none=>none) else none
   | none=>none)
 | .str s=>(match P.underlying t with|some .string=>(match jrZ s i with|some b=>some (jr6 b)|none=>none) | _=>none)
 | _=>none
def jnQ (t:TypeId) (x ix:Operand) (P:Program) (tm:Tm) (h:Hp):Ro:=
 match jfD (opd tm ix) with
 | some i=>val? h (ixv P t i (opd tm x))
 | none=> .bad
def exv (i:Nat):AV→Option AV
 | .tup vs=>jrZ vs i
 | _=>none
def jkc (x:Operand) (i:Nat) (_:Program) (tm:Tm) (h:Hp):Ro:=val? h (exv i (opd tm x))

def firstCells (h:Hp) (size n:Nat):AV→Option (List AV)
 | .slc id off _ _=>(match blk h id with|some cs=>jpC cs off (n*size)|none=>none)
 | .nils=>some []
 | .str _=>none
 | _=>none
def jsR (o:Bool) (k:IntKind) (x:Int):AV→AV
 | .int _ y=> .int k (bif (bif o then jbA x y else jbA y x) then y else x)
 | _=> .any
def juB (o:Bool) (a b:AV):AV:=
 match a with
 | .int k x=>jsR o k x b
 | _=> .any
def jui:AV→Option Nat
 | .slc _ _ len _=>some len
 | .nils=>some 0
 | _=>none
def juW (x:AV) (t:Option TypeDesc) (h:Hp):Ro:=
 match t with
 | some (.array n _)=> .val (.int .i64 (Int.ofNat n)) h
 | some .string=>(match x with | .str s=> .val (.int .i64 (Int.ofNat (jch s))) h | _=> .bad)
 | some (.slice _)=>(match jui x with|some n=> .val (.int .i64 (Int.ofNat n)) h|none=> .bad)
 | _=> .bad
def jk9 (h:Hp):AV→Hp
 | .slc id _ _ _=>jfo h id .dead
 | _=>h
def jw0 (h:Hp) (s:AV) (z n:Nat) (old new:List AV):Ro:=
 .val (.slc h.nx 0 n (.r z)) (jau (jk9 h s) (.cells (jq8 old new)))
def jhy (z off:Nat) (cs:List AV):Cap→Bool
 | .k c=>Nat.ble (off+c*z) (jch cs)
 | .r z'=>Nat.beq z z'
def jtB (h:Hp) (z:Nat):AV→Option (List AV)
 | .slc id off len cap=>(match juH h id with
   | some cs=>bif jhy z off cs cap then jpC cs off (len*z) else none
   | none=>none)
 | .nils=>some []
 | _=>none
def jpi (h:Hp) (z n:Nat) (x:AV):Option TypeDesc→Option (List AV)
 | some (.slice _)=>(match x with
   | .slc id off _ _=>(match blk h id with|some cs=>jpC cs off (n*z)|none=>none)
   | _=>none)
 | some .string=>(match x with
   | .str s=>bif Nat.beq z 1 then some (jgD jr6 s) else none
   | _=>none)
 | _=>none
def jmZ:Option TypeDesc→Bool
 | some (.slice _)=>true
 | some .string=>true
 | _=>false
def juN (P:Program) (e z sl n:Nat) (s:AV) (h:Hp) (old:Option (List AV)) (new:Option (List AV)):Ro:=
 match old with
 | none=> .bad
 | some old=>match new with
   | none=> .bad
   | some new=>match P.info? e with
     | none=> .bad
     | some i=>match i.zero with
       | none=> .bad
       | some zv=>bif Nat.ble (sl+n) 65536 && Nat.ble i.bytes 65536 && jeH new && Nat.ble 1 z && Nat.beq (jch (cellsOf (toAV zv))) z then jw0 h s z (sl+n) old new else .bad
def jpg (s:AV) (h:Hp):Ro:=
 match s with
 | .slc ..=> .val s h
 | .nils=> .val s h
 | _=> .bad
def jiV (P:Program) (t u:TypeId) (s x:AV) (h:Hp):Ro:=
 match jaX (P.underlying t) with
 | none=> .bad
 | some e=>match jg8 P e with
   | none=> .bad
   | some z=>match lenOf x with
     | none=> .bad
     | some n=>match lenOf s with
       | none=> .bad
       | some sl=>bif jmZ (P.underlying u) then (bif Nat.beq n 0 then jpg s h else juN P e z sl n s h (jtB h z s) (jpi h z n x (P.underlying u))) else .bad
def jrG (P:Program) (t:TypeId) (d s:AV) (h:Hp):Ro:=
 match d with
 | .slc id off dl _=>(match jaX (P.underlying t) with
   | some e=>(match jg8 P e with
     | some z=>(match lenOf s with
       | some sl=>
         (match firstCells h z (bif Nat.ble sl dl then sl else dl) s with
 | some new=>(match juH h id with
           | some cs=>(match (bif jeH new then jiN off cs new else none) with|some cs'=> .val (.int .i64 (Int.ofNat (bif Nat.ble sl dl then sl else dl))) (jfo h id (.cells cs'))|none=> .bad)
           | none=> .bad)
 | none=> .bad)
       | none=> .bad)
     | none=> .bad)
   | none=> .bad)
 | _=> .bad
def jm7 (o:Bool) (l:List AV):AV→AV:=List.rec (motive:=fun _=>AV→AV) (fun a=>a) (fun b _ ih a=>ih (juB o a b)) l
def bMM (o:Bool) (h:Hp):List AV→Ro
 | a::b::l=>okv h (jm7 o (b::l) a)
 | _=> .bad
def bi (P:Program) (b:Builtin) (ts:List TypeId) (args:List AV) (h:Hp):Ro:=
 match b with
 | .len=>(match args with | [x]=>(match ts with|t::_=>juW x (P.underlying t) h | _=> .bad) | _=> .bad)
 | .append=>(match args with | [s,x]=>(match ts with | [t,u]=>jiV P t u s x h | _=> .bad) | _=> .bad)
 | .copy=>(match args with | [d,s]=>(match ts with | [t,_]=>jrG P t d s h | _=> .bad) | _=> .bad)
 | .min=>bMM false h args
 | .max=>bMM true h args
 | _=> .bad
def callee (args:List AV):AV→Ro
 | .fn f caps=> .enter f (jq8 args caps)
 | _=> .bad
def jnJ (c:Call) (P:Program) (tm:Tm) (h:Hp):Ro:=
 match c.callee with
 | .value f=>callee (jgD (opd tm) c.args.toList) (opd tm f)
 | .builtin b=>bi P b c.argTypes.toList (jgD (opd tm) c.args.toList) h
 | .invoke ..=> .bad

def aop (op:Op):Program→Tm→Hp→Ro:=
 Op.rec (motive:=fun _=>Program→Tm→Hp→Ro)
  jrY jrY jsC jo9 jvJ jlN jcQ (fun _ _ _ _=>jfA) ju4 jqU (fun _=>jfA) (fun _=>jfA) jvD juY oUn jrg
  (fun _ _=>jfA) (fun _ _=>jfA) jsb (fun _ _=>jfA) (fun _ _=>jfA) jdF jmv jg0 jqV jdH jnQ (fun _ _ _ _=>jfA) (fun _ _ _ _=>jfA)
  (fun _ _ _=>jfA) (fun _ _ _ _=>jfA) (fun _ _=>jfA) (fun _ _=>jfA) (fun _=>jfA) (fun _ _ _ _=>jfA) jkc jnJ (fun _=>jfA) (fun _=>jfA) (fun _=>jfA) (fun _ _=>jfA) (fun _ _ _=>jfA) (fun _ _=>jfA) op

inductive Foot where
 | ids (l:List Nat)
 | all
def Foot.meets:Foot→Foot→Bool
 | .ids l, .ids m=>l.any fun a=>m.any fun b=>Nat.beq a b
 | .all, .ids l=> !l.isEmpty
 | .ids l, .all=> !l.isEmpty
 | .all, .all=>true
def jaF:AV→List Nat
 | .slc id _ _ _=> [id]
 | .ptr id _=> [id]
 | _=> []
def ju5 (b:Builtin) (args:List AV):Foot×Foot:=
 match b with
 | .append=>(match args with | [s,x]=>(.ids (jaF s++jaF x), .ids (jaF s)) | _=>(.ids [], .ids []))
 | .copy=>(match args with | [d,s]=>(.ids (jaF d++jaF s), .ids (jaF d)) | _=>(.ids [], .ids []))
 | _=>(.ids [], .ids [])
def jr0 (tm:Tm):Op→Foot×Foot
 | .load _ x=>(.ids (jaF (opd tm x)), .ids [])
 | .convert _ _ x=>(.ids (jaF (opd tm x)), .ids [])
 | .store _ x _=>(.ids (jaF (opd tm x)), .ids (jaF (opd tm x)))
 | .call c=>(match c.callee with | .builtin b=>ju5 b (jgD (opd tm) c.args.toList) | _=>(.all, .all))
 | _=>(.ids [], .ids [])

def put (n:Nat) (tm:Tm) (d:Option Nat) (v:AV):Option (Tm):=
 Option.rec (motive:=fun _=>Option Tm) (some tm) (fun d=>Bool.rec (motive:=fun _=>Option Tm) none (some (tm.set d v)) (Nat.blt d n)) d

def jfX (b:Bool):AV→Option Bool
 | .bool x=>some (bif x then b else !b)
 | .any=>none
 | _=>some false
def jeh (ops:Array Oper) (g:Nat):Option Nat:=match jrZ ops.toList g with|some o=>o.dst|none=>none
def want (ops:Array Oper) (tm:Tm) (o:Oper):Option Bool:=
 Option.rec (motive:=fun _=>Option Bool) (some true) (fun g=>Option.rec (motive:=fun _=>Option Bool) (some false) (fun d=>jfX g.2 (jd0 tm d)) (jeh ops g.1)) o.guard

abbrev jfx:=Code→Tm→Nat→Hp→Rs
structure FnD where
 n:Nat
 rs:List ResultVar
 c:Code
def fnD (P:Program) (f:Nat):Option FnD:=
 match P.funcs[f]? with
 | some fn => (match fn.body with | some c => bif fn.name == "runtime.NumGoroutine" then none else some ⟨fn.ntmps, fn.results.toList, c⟩ | none => none)
 | none=>none
def jq9 (l:List AV):Nat→Tm→Tm:=List.rec (motive:=fun _=>Nat→Tm→Tm) (fun _ t=>t) (fun v _ ih i t=>ih (Nat.succ i) (t.set i v)) l
def jvk (P:Program) (tm:Tm) (h:Hp):ResultVar→Option AV
 | .tmp t=>some (jd0 tm t)
 | .cell a t=>juI P t h (jd0 tm a)
def jvG (ih:Option (List AV)):Option AV→Option (List AV)
 | some v=>jfp v ih
 | none=>none
def jpN (P:Program) (tm:Tm) (h:Hp) (l:List ResultVar):Option (List AV):=
 List.rec (motive:=fun _=>Option (List AV)) (some []) (fun r _ ih=>jvG ih (jvk P tm h r)) l
def jt7:List AV→AV
 | [v]=>v
 | vs=> .tup vs
def jv0 (h:Hp):Option (List AV)→Ro
 | some vs=> .val (jt7 vs) h
 | none=> .bad
def jrQ (P:Program) (rs:List ResultVar):Rs→Ro
 | .normal tm h=>jv0 h (jpN P tm h rs)
 | .ret tm h=>jv0 h (jpN P tm h rs)
 | _=> .bad
abbrev jfr:=Nat→Option (List AV→Hp→Ro)
def jqI (P:Program) (self:jfx) (args:List AV) (h:Hp):Option FnD→Ro
 | some d=>jrQ P d.rs (self d.c (jq9 args 0 .lf) (bif Nat.ble d.n (jch args) then jch args else d.n) h)
 | none=> .bad
def jtu (P:Program) (self:jfx) (f:Nat) (args:List AV) (h:Hp):Option (List AV→Hp→Ro)→Ro
 | some g=>g args h
 | none=>jqI P self args h (fnD P f)
def call (P:Program) (hk:jfr) (self:jfx) (f:Nat) (args:List AV) (h:Hp):Ro:=jtu P self f args h (hk f)

def js5:Op→Bool
 | .call c=>(match c.callee with | .value _=>true | _=>false)
 | _=>false
def juX (P:Program) (hk:jfr) (self:jfx) (op:Op) (r:Ro) (h:Hp):Ro:=
 Ro.rec (motive:=fun _=>Ro) .bad (fun v h=> .val v h) (fun f args=>bif js5 op then call P hk self f args h else .bad) r
def one (P:Program) (hk:jfr) (self:jfx) (o:Oper) (tm:Tm) (h:Hp):Ro:=juX P hk self o.op (aop o.op P tm h) h

def jq0 (ih:Tm→Nat→Hp→Rs) (n:Nat) (h:Hp) (o:Option Tm):Rs:=Option.rec (motive:=fun _=>Rs) .bad (fun tm=>ih tm n h) o
def goS (ih:Tm→Nat→Hp→Rs) (d:Option Nat) (tm:Tm) (n:Nat) (r:Ro):Rs:=
 Ro.rec (motive:=fun _=>Rs) .bad (fun v h=>jq0 ih n h (put n tm d v)) (fun _ _=> .bad) r
def juq (P:Program) (hk:jfr) (self:jfx) (o:Oper) (ih:Tm→Nat→Hp→Rs) (tm:Tm) (n:Nat) (h:Hp) (w:Option Bool):Rs:=
 Option.rec (motive:=fun _=>Rs) .bad (fun b=>Bool.rec (motive:=fun _=>Rs) (jq0 ih n h (put n tm o.dst (.tup []))) (goS ih o.dst tm n (one P hk self o tm h)) b) w
def jsB (P:Program) (hk:jfr) (self:jfx) (all:Array Oper) (l:List Oper):Tm→Nat→Hp→Rs:=
 List.rec (motive:=fun _=>Tm→Nat→Hp→Rs) (fun tm _ h=> .normal tm h) (fun o _ ih tm n h=>juq P hk self o ih tm n h (want all tm o)) l

def jdk:Nat:=1000000000
def hpW (h:Hp) (w:Nat):Hp:=⟨h.h,h.nx,w⟩
structure Fx where
 rd:Foot
 wr:Foot
 lo:Nat
 hi:Nat
def jbK (o:Oper) (tm:Tm) (nx:Nat) (h':Hp):Fx:=
 match jr0 tm o.op with
 | (.all,_)=>⟨.all,bif Nat.blt h'.wm nx then .all else .ids [],nx,h'.nx⟩
 | (r,w)=>⟨r,w,nx,h'.nx⟩
def jm1 (w:Nat) (h:Hp):Hp:=⟨h.h,h.nx,bif Nat.ble w h.wm then w else h.wm⟩
def goD (ih:List Fx→Tm→Nat→Hp→Rs) (fx:List Fx) (o:Oper) (tm:Tm) (n:Nat) (h:Hp):Ro→Rs
 | .val v h'=>(match put n tm o.dst v with|some tm'=>ih (jbK o tm h.nx h'::fx) tm' n (jm1 h.wm h')|none=> .bad)
 | _=> .bad
def jtj (P:Program) (hk:jfr) (self:jfx) (o:Oper) (ih:List Fx→Tm→Nat→Hp→Rs) (fx:List Fx) (tm:Tm) (n:Nat) (h:Hp):Option Bool→Rs
 | some true=>goD ih fx o tm n h (one P hk self o tm (hpW h jdk))
 | some false=>(match put n tm o.dst (.tup []) with|some tm'=>ih (⟨.ids [], .ids [],h.nx,h.nx⟩::fx) tm' n h|none=> .bad)
 | none=> .bad
def jqQ (P:Program) (hk:jfr) (self:jfx) (all:Array Oper) (fin:List Fx→Tm→Nat→Hp→Rs) (l:List Oper):List Fx→Tm→Nat→Hp→Rs:=
 List.rec (motive:=fun _=>List Fx→Tm→Nat→Hp→Rs) fin (fun o _ ih fx tm n h=>jtj P hk self o ih fx tm n h (want all tm o)) l

def jfs:List Oper→List Nat→List Nat
 | [],acc=>acc.reverse
 | o::l,acc=>jfs l ((o.after.toList.foldl (fun s e=>bif Region.binds .any e then Nat.lor s (Nat.lor (Nat.pow 2 e.on) (acc.reverse.getD e.on 0)) else s) 0)::acc)
def Foot.within (lo hi:Nat):Foot→Bool
 | .ids l=>l.any fun a=>Nat.ble lo a && Nat.blt a hi
 | .all=>Nat.blt lo hi
def jjs (f g:Fx):Bool:=f.wr.meets g.rd || g.wr.meets f.rd || f.wr.within g.lo g.hi || g.wr.within f.lo f.hi
def jqD (a:Nat) (f:Fx) (seen:List Fx):Bool:=List.rec (motive:=fun _=>Nat→Bool) (fun _=>true) (fun g _ ih k=>bif Nat.testBit a k || !jjs f g then ih (Nat.succ k) else false) seen 0
def jdA (zas:List Nat) (fs seen:List Fx):Bool:=
 match zas,fs with
 | a::zas,f::fs=>jqD a f seen && jdA zas fs (seen++[f])
 | _,_=>true
def jfF (o:Oper):List Nat:=o.op.operands.toList.filterMap fun | .tmp t=>some t | _=>none
def flow (ops:Array Oper) (zas:List Nat):Bool:=
 let l:=ops.toList.zipIdx
 (l.all fun p=>p.1.after.toList.all fun e=> !Region.binds .any e || Nat.blt e.on p.2) && l.all fun p=>match p.1.dst with
   | none=>true
   | some d=>l.all fun q=>(Nat.beq p.2 q.2) || (!(match q.1.dst with|some d'=>Nat.beq d d'|none=>false) &&
      (!((jfF q.1).any (Nat.beq d) || (match q.1.guard with|some (g,_)=>(match jeh ops g with|some d'=>Nat.beq d d'|none=>false)|none=>false)) ||
        Nat.testBit (zas.getD q.2 0) p.2 || Nat.testBit (zas.getD p.2 0) q.2))
def juO (ops:Array Oper) (fx:List Fx) (tm:Tm) (_:Nat) (h:Hp):Rs:=
 bif flow ops (jfs ops.toList []) && jdA (jfs ops.toList []) fx.reverse [] then .normal tm h else .bad

def juF (k:Tm→Nat→Hp→Rs) (n:Nat) (r:Rs):Rs:=
 Rs.rec (motive:=fun _=>Rs) .bad (fun tm h=>k tm n h) (fun i tm h=> .exit i tm h) (fun tm h=> .ret tm h) r
def jqv (id:Nat):Rs→Rs
 | .exit i tm h=>bif Nat.beq i id then .normal tm h else .exit i tm h
 | r=>r
def jsu (a b:Rs):AV→Rs
 | .bool t=>bif t then a else b
 | _=> .bad
abbrev CF:=Program→jfr→jfx→Tm→Nat→Hp→Rs
def juM:CF:=fun _ _ _ _ _ _=> .bad
def jtZ:CF:=fun _ _ _ tm _ h=> .normal tm h
def jr9 (_:Nat) (os:Array Oper) (d:Bool):CF:=fun P hk self tm n h=>
 bif d then jqQ P hk self os (juO os) os.toList [] tm n h else jsB P hk self os os.toList tm n h
def jvX (_ _:Code) (a b:CF):CF:=fun P hk self tm n h=>juF (b P hk self) n (a P hk self tm n h)
def juU (x:Operand) (_ _:Code) (a b:CF):CF:=fun P hk self tm n h=>jsu (a P hk self tm n h) (b P hk self tm n h) (opd tm x)
def jtE (id:Nat) (_:Code) (a:CF):CF:=fun P hk self tm n h=>jqv id (a P hk self tm n h)
def juQ (c:Code) (a:CF):CF:=fun P hk self tm n h=>juF (self (.loop c)) n (a P hk self tm n h)
def jvb (id:Nat):CF:=fun _ _ _ tm _ h=> .exit id tm h
def jwo:CF:=fun _ _ _ tm _ h=> .ret tm h
def je2 (c:Code):CF:=
 Code.rec (motive:=fun _=>CF) jtZ jr9 jvX juU jtE juQ (fun _ _ _ _ _ _=>juM) jvb (fun _ _=>juM) (fun _=>jtZ) (fun _=>juM) jwo (fun _=>juM) c
def ev (P:Program) (hk:jfr) (fuel:Nat):jfx:=Nat.rec (motive:=fun _=>jfx) (fun _ _ _ _=> .bad) (fun _ ih c tm n h=>je2 c P hk ih tm n h) fuel
end
end Go.Proofs.YtpkcjfpgemdfdaaGreatDoor.Ax
namespace Go.Proofs.YtpkcjfpgemdfdaaGreatDoor.Ax
open Go
set_option linter.unusedSimpArgs false
set_option linter.unusedVariables false
/-! Lists and trees. -/
section
variable {α:Type}
theorem jaS (l:List α):jch l=l.length:=by induction l with|nil=>rfl|cons a l ih=>exact congrArg Nat.succ ih
theorem jcW (l:List α):∀k,jrZ l k=l[k]? :=by
 induction l with
 | nil=>intro k;simp;rfl
 | cons a l ih=>intro k;cases k with
   | zero=>rfl
   | succ k=>rw [List.getElem?_cons_succ];exact ih k
theorem jc2 {β:Type} (f:α→β) (l:List α):jgD f l=l.map f:=by induction l with|nil=>rfl|cons a l ih=>exact congrArg (f a:: ·) ih
theorem jeE (l m:List α):jq8 l m=l++m:=by induction l with|nil=>rfl|cons a l ih=>exact congrArg (a:: ·) ih
theorem jgk (l:List α):∀k,jr8 l k=l.drop k:=by
 induction l with
 | nil=>intro k;simp;rfl
 | cons a l ih=>intro k;cases k with
   | zero=>rfl
   | succ k=>rw [List.drop_succ_cons];exact ih k
theorem joT (l:List α):∀k,jtN l k=l.take k:=by
 induction l with
 | nil=>intro k;simp;rfl
 | cons a l ih=>intro k;cases k with
   | zero=>rfl
   | succ k=>exact congrArg (a:: ·) (ih k)
theorem jd8 {a:α} {o:Option (List α)} {r:List α} (h:jfp a o=some r):∃l,o=some l∧r=a::l:=by
 cases o with
 | none=>cases h
 | some l=>exact ⟨l,rfl,(Option.some.inj h).symm⟩
namespace Tr
theorem jm9 (t:Tr α) (x:α):∀p q,jtS (jv4 t p x) q=if q=p then some x else jtS t q:=by
 have hl:∀(p q:List Bool),jtS (sLf p x) q=if q=p then some x else none:=by
  intro p
  induction p with
  | nil=>intro q;cases q with
    | nil=>rfl
    | cons b q=>cases b <;> rfl
  | cons b p ih=>intro q;cases q with
    | nil=>cases b <;> rfl
    | cons c q=>
      cases b <;> cases c
      ·simp only [List.cons.injEq,true_and];exact ih q
      ·simp;rfl
      ·simp;rfl
      ·simp only [List.cons.injEq,true_and];exact ih q
 induction t with
 | lf=>intro p q;exact hl p q
 | nd v l r il ir=>
   intro p q;cases p with
   | nil=>cases q with
     | nil=>rfl
     | cons c q=>simp;rfl
   | cons b p=>cases q with
     | nil=>cases b <;> simp <;> rfl
     | cons c q=>
       cases b <;> cases c
       ·simp only [List.cons.injEq,true_and];exact ir p q
       ·simp;rfl
       ·simp;rfl
       ·simp only [List.cons.injEq,true_and];exact il p q
theorem jrR:∀(f g a b:Nat),a≤f→b≤g→jqS f a=jqS g b→a=b:=by
 intro f
 induction f with
 | zero=>
   intro g a b ha hb h;have h0:a=0:=by omega
   subst h0;cases g with
   | zero=>omega
   | succ g=>
     by_cases hb0:b=0
     ·omega
     ·exfalso
      have:jqS (g+1) b=Nat.beq (Nat.mod b 2) 1::jqS g (Nat.pred (Nat.div (Nat.succ b) 2)):=by
       show (bif Nat.beq b 0 then _ else _)=_
       have:Nat.beq b 0=false:=by cases b with
       | zero=>exact absurd rfl hb0
       | succ n=>rfl
       rw [this];rfl
      rw [this] at h;cases h
 | succ f ih=>
   intro g a b ha hb h
   have step:∀(k c:Nat),c≠0→jqS (k+1) c=Nat.beq (Nat.mod c 2) 1::jqS k (Nat.pred (Nat.div (Nat.succ c) 2)):=by
    intro k c hc;show (bif Nat.beq c 0 then _ else _)=_
    have:Nat.beq c 0=false:=by cases c with
     | zero=>exact absurd rfl hc
     | succ n=>rfl
    rw [this];rfl
   have nil0:∀(k:Nat),jqS k 0=[]:=by intro k;cases k <;> rfl
   by_cases ha0:a=0
   ·subst ha0;rw [nil0] at h;by_cases hb0:b=0
    ·omega
    ·cases g with
     | zero=>omega
     | succ g=>rw [step g b hb0] at h;cases h
   ·rw [step f a ha0] at h;by_cases hb0:b=0
    ·subst hb0;rw [nil0] at h;cases h
    ·cases g with
     | zero=>omega
     | succ g=>
       rw [step g b hb0] at h
       injection h with h1 h2
       have e1:Nat.pred (Nat.div (Nat.succ a) 2)=(a+1) / 2 - 1:=rfl;have e2:Nat.pred (Nat.div (Nat.succ b) 2)=(b+1) / 2 - 1:=rfl;rw [e1,e2] at h2;have h3:=ih g _ _ (by omega) (by omega) h2;have m1:Nat.beq (a % 2) 1=Nat.beq (b % 2) 1:=h1
       have:a % 2=b % 2:=by
        rcases Nat.mod_two_eq_zero_or_one a with ha'|ha' <;> rcases Nat.mod_two_eq_zero_or_one b with hb'|hb' <;> rw [ha',hb'] at m1 <;> first|omega|(exfalso;revert m1;decide)
       omega
theorem get_set (t:Tr α) (k j:Nat) (x:α):(t.set k x).get j=if j=k then some x else t.get j:=by
 show jtS (jv4 t (pth k) x) (pth j)=_
 rw [jm9];by_cases h:j=k
 ·subst h;simp
 ·rw [if_neg h,if_neg (show ¬pth j=pth k from fun e=>h (jrR j k j k (Nat.le_refl _) (Nat.le_refl _) e))];rfl
end Tr
end
theorem jk7:∀(cs:List AV) (n:Nat) (r:List AV),jrp cs n=some r→n≤cs.length∧r=cs.take n:=by
 intro cs
 induction cs with
 | nil=>intro n r h;cases n with
   | zero=>exact ⟨Nat.le_refl _,(Option.some.inj h).symm⟩
   | succ n=>cases h
 | cons a l ih=>intro n r h;cases n with
   | zero=>exact ⟨by omega,(Option.some.inj h).symm⟩
   | succ n=>
     obtain ⟨m,hm,hr⟩:=jd8 (show jfp a (jrp l n)=some r from h);obtain ⟨h1,h2⟩:=ih n m hm;exact ⟨by simpa using h1,by rw [hr,h2];rfl⟩
theorem jh1 {cs:List AV} {off n:Nat} {r:List AV} (h:jpC cs off n=some r):r.length=n∧∀j,j < n→r[j]? =cs[off+j]? :=by
 obtain ⟨h1,h2⟩:=jk7 _ _ _ h;rw [jgk] at h1 h2;subst h2;refine ⟨by rw [List.length_take];omega,fun j hj=> ?_⟩;rw [List.getElem?_take_of_lt hj,List.getElem?_drop]
theorem jdb:∀(cs:List AV) (off:Nat) (vs r:List AV),jfT cs off vs=some r→r.length=cs.length∧(vs≠[]→off+vs.length≤cs.length)∧∀j,r[j]? =if off≤j∧j < off+vs.length then vs[j - off]? else cs[j]? :=by
 intro cs
 induction cs with
 | nil=>intro off vs r h;cases vs with
   | nil=>have:=(Option.some.inj h).symm;subst this;exact ⟨rfl,fun h=>absurd rfl h,fun j=>by simp⟩
   | cons v vs=>cases h
 | cons c l ih=>
   intro off vs r h;cases off with
   | zero=>cases vs with
     | nil=>have:=(Option.some.inj h).symm;subst this;exact ⟨rfl,fun h=>absurd rfl h,fun j=>by rw [if_neg (by simp)]⟩
     | cons v vs=>
       obtain ⟨m,hm,hr⟩:=jd8 (show jfp v (jfT l 0 vs)=some r from h);obtain ⟨h1,h2,h3⟩:=ih 0 vs m hm;subst hr;refine ⟨by simp [h1],fun _=> ?_,fun j=> ?_⟩
       ·cases vs with
        | nil=>simp
        | cons w vs=>have:=h2 (by simp);simp at this ⊢;omega
       ·cases j with
        | zero=>simp
        | succ j=>simpa using h3 j
   | succ off=>
     obtain ⟨m,hm,hr⟩:=jd8 (show jfp c (jfT l off vs)=some r from h);obtain ⟨h1,h2,h3⟩:=ih off vs m hm;subst hr;refine ⟨by simp [h1],fun hv=>by have:=h2 hv;simp;omega,fun j=> ?_⟩;cases j with
     | zero=>simp
     | succ j => have:=h3 j;simp only [List.getElem?_cons_succ,this,List.length_cons];congr 1; · apply propext;omega
                 ·congr 1;omega
theorem rep_len (z:List AV) (n:Nat):(rep z n).length=n*z.length:=by
 induction n with
 | zero=>rw [Nat.zero_mul];rfl
 | succ n ih=>show (jq8 z (rep z n)).length=_;rw [jeE,List.length_append,ih,Nat.succ_mul];omega
end Go.Proofs.YtpkcjfpgemdfdaaGreatDoor.Ax
namespace Go.Proofs.YtpkcjfpgemdfdaaGreatDoor.Ax
open Go
set_option linter.unusedSimpArgs false
set_option linter.unusedVariables false

structure Loc where
 b:Nat
 d:Nat
 n:Nat
abbrev Emb:=Nat→Option Loc

def jog (l:Loc) (off len c:Nat):Cap→Prop
 | .k k=>c=k∧len≤c
 | .r z=>len≤c∧(0 < c→off+c*z≤l.n)
mutual
def VR (ι:Emb):AV→Value→Prop
 | .int k n,v=>v= .int k n
 | .bool b,v=>v= .bool b
 | .str s,v=>v= .string ⟨⟨s⟩⟩
 | .ptr id off,v=>∃l,ι id=some l∧v= .pointer (some ⟨l.b,l.d+off,none⟩)
 | .nilp,v=>v= .pointer none
 | .slc id off len cap,v=>∃l x c,ι id=some l∧v= .slice (some ⟨l.b,x,none⟩) len c∧(0 < c→x=l.d+off)∧jog l off len c cap
 | .nils,v=>v= .slice none 0 0
 | .agg vs,v=>∃cs:List Value,v= .agg cs.toArray∧VRs ι vs cs
 | .tup vs,v=>∃cs:List Value,v= .tuple cs.toArray∧VRs ι vs cs
 | .fn f caps,v=>∃cs:List Value,v= .func (.func f) #[] cs.toArray∧VRs ι caps cs
 | .nilf,v=>v= .nilFunc
 | .nili,v=>v= .nilIface
 | .any,_=>True
def VRs (ι:Emb):List AV→List Value→Prop
 | [],cs=>cs=[]
 | a::xs,cs=>∃v vs,cs=v::vs∧VR ι a v∧VRs ι xs vs
end
def Le (ι ι':Emb):Prop:=∀id l,ι id=some l→ι' id=some l
theorem Le.refl (ι:Emb):Le ι ι:=fun _ _ h=>h
theorem Le.trans {a b c:Emb} (h:Le a b) (k:Le b c):Le a c:=fun id l e=>k id l (h id l e)
mutual
theorem VR.mono {ι ι':Emb} (hi:Le ι ι'):∀(a:AV) (v:Value),VR ι a v→VR ι' a v
 | .int k n,v,h=>by unfold VR at h ⊢;exact h
 | .bool b,v,h=>by unfold VR at h ⊢;exact h
 | .str s,v,h=>by unfold VR at h ⊢;exact h
 | .ptr id off,v,h=>by
   unfold VR at h ⊢;obtain ⟨l,e,r⟩:=h;exact ⟨l,hi _ _ e,r⟩
 | .nilp,v,h=>by unfold VR at h ⊢;exact h
 | .slc id off len cap,v,h=>by
   unfold VR at h ⊢;obtain ⟨l,x,c,e,r⟩:=h;exact ⟨l,x,c,hi _ _ e,r⟩
 | .nils,v,h=>by unfold VR at h ⊢;exact h
 | .agg vs,v,h=>by
   unfold VR at h ⊢;obtain ⟨cs,e,r⟩:=h;exact ⟨cs,e,VRs.mono hi vs cs r⟩
 | .tup vs,v,h=>by
   unfold VR at h ⊢;obtain ⟨cs,e,r⟩:=h;exact ⟨cs,e,VRs.mono hi vs cs r⟩
 | .fn f vs,v,h=>by
   unfold VR at h ⊢;obtain ⟨cs,e,r⟩:=h;exact ⟨cs,e,VRs.mono hi vs cs r⟩
 | .nilf,v,h=>by unfold VR at h ⊢;exact h
 | .nili,v,h=>by unfold VR at h ⊢;exact h
 | .any,v,h=>by unfold VR;trivial
theorem VRs.mono {ι ι':Emb} (hi:Le ι ι'):∀(xs:List AV) (vs:List Value),VRs ι xs vs→VRs ι' xs vs
 | [],vs,h=>by unfold VRs at h ⊢;exact h
 | a::xs,cs,h=>by
   unfold VRs at h ⊢;obtain ⟨v,vs,e,h1,h2⟩:=h;exact ⟨v,vs,e,VR.mono hi a v h1,VRs.mono hi xs vs h2⟩
end
section
variable {ι:Emb}
theorem VR.any {v:Value}:VR ι .any v:=by unfold VR;trivial
theorem VR.int {k:IntKind} {n:Int} {v:Value}:VR ι (.int k n) v↔v= .int k n:=by unfold VR;exact Iff.rfl
theorem VR.bool {b:Bool} {v:Value}:VR ι (.bool b) v↔v= .bool b:=by unfold VR;exact Iff.rfl
theorem VR.str {s:List UInt8} {v:Value}:VR ι (.str s) v↔v= .string ⟨⟨s⟩⟩:=by unfold VR;exact Iff.rfl
theorem VR.ptr {id off:Nat} {v:Value}:VR ι (.ptr id off) v↔∃l,ι id=some l∧v= .pointer (some ⟨l.b,l.d+off,none⟩):=by unfold VR;exact Iff.rfl
theorem VR.nilp {v:Value}:VR ι .nilp v↔v= .pointer none:=by unfold VR;exact Iff.rfl
theorem VR.slc {id off len:Nat} {cap:Cap} {v:Value}:VR ι (.slc id off len cap) v↔∃l x c,ι id=some l∧v= .slice (some ⟨l.b,x,none⟩) len c∧(0 < c→x=l.d+off)∧jog l off len c cap:=by unfold VR;exact Iff.rfl
theorem VR.nils {v:Value}:VR ι .nils v↔v= .slice none 0 0:=by unfold VR;exact Iff.rfl
theorem VR.agg {vs:List AV} {v:Value}:VR ι (.agg vs) v↔∃cs:List Value,v= .agg cs.toArray∧VRs ι vs cs:=by unfold VR;exact Iff.rfl
theorem VR.tup {vs:List AV} {v:Value}:VR ι (.tup vs) v↔∃cs:List Value,v= .tuple cs.toArray∧VRs ι vs cs:=by unfold VR;exact Iff.rfl
theorem VR.fn {f:Nat} {vs:List AV} {v:Value}:VR ι (.fn f vs) v↔∃cs:List Value,v= .func (.func f) #[] cs.toArray∧VRs ι vs cs:=by unfold VR;exact Iff.rfl
theorem VR.nilf {v:Value}:VR ι .nilf v↔v= .nilFunc:=by unfold VR;exact Iff.rfl
theorem VR.nili {v:Value}:VR ι .nili v↔v= .nilIface:=by unfold VR;exact Iff.rfl
theorem VRs.nil {cs:List Value}:VRs ι [] cs↔cs=[]:=by unfold VRs;exact Iff.rfl
theorem VRs.cons {a:AV} {xs:List AV} {cs:List Value}:VRs ι (a::xs) cs↔∃v vs,cs=v::vs∧VR ι a v∧VRs ι xs vs:=by rw [VRs]
theorem VRs.iff:∀(xs:List AV) (cs:List Value),VRs ι xs cs↔xs.length=cs.length∧∀(j:Nat) (a:AV) (v:Value),xs[j]? =some a→cs[j]? =some v→VR ι a v
 | [], cs => by rw [VRs.nil];constructor
                ·rintro rfl;exact ⟨rfl,fun j a v h=>by simp at h⟩
                ·rintro ⟨h,_⟩;exact List.length_eq_zero_iff.1 h.symm
 | a::xs,cs=>by
   rw [VRs.cons];constructor
   ·rintro ⟨v,vs,rfl,h1,h2⟩
    obtain ⟨h3,h4⟩:=(VRs.iff xs vs).1 h2;refine ⟨by simp [h3],fun j a' v' ha hv=> ?_⟩;cases j with
    | zero=>simp at ha hv;subst ha;subst hv;exact h1
    | succ j=>simp at ha hv;exact h4 j a' v' ha hv
   ·rintro ⟨h1,h2⟩
    cases cs with
    | nil=>simp at h1
    | cons v vs=>exact ⟨v,vs,rfl,h2 0 a v rfl rfl,(VRs.iff xs vs).2 ⟨by simpa using h1,fun j a' v' ha hv=>h2 (j+1) a' v' (by simpa using ha) (by simpa using hv)⟩⟩
theorem VR.toAV0 (v:Value):VR ι (toAV0 v) v:=by
 unfold Ax.toAV0;split
 ·exact VR.int.2 rfl
 ·exact VR.bool.2 rfl
 ·exact VR.str.2 (by rfl)
 ·exact VR.nilp.2 rfl
 ·exact VR.nils.2 rfl
 ·exact VR.nilf.2 rfl
 ·exact VR.nili.2 rfl
 ·exact VR.any
theorem VRs.toAV0:∀(cs:List Value),VRs ι (cs.map Ax.toAV0) cs
 | []=>VRs.nil.2 rfl
 | v::vs=>VRs.cons.2 ⟨v,vs,rfl,VR.toAV0 v,VRs.toAV0 vs⟩
theorem VR.toAV (v:Value):VR ι (toAV v) v:=by
 unfold Ax.toAV;split
 ·rename_i cs
  exact VR.agg.2 ⟨cs.toList,by simp,VRs.toAV0 _⟩
 ·exact VR.toAV0 v
theorem VR.cells {a:AV} {v:Value} (h:VR ι a v) (hv:a= .any→∀cs,v≠ .agg cs):VRs ι (cellsOf a) v.cells.toList:=by
 have one:∀(a:AV) (v:Value),VR ι a v→VRs ι [a] [v]:=fun a v h=>VRs.cons.2 ⟨v,[],rfl,h,VRs.nil.2 rfl⟩
 cases a with
 | agg vs=>obtain ⟨cs,rfl,h2⟩:=VR.agg.1 h;exact h2
 | int k n=>have:=VR.int.1 h;subst this;exact one _ _ h
 | bool b=>have:=VR.bool.1 h;subst this;exact one _ _ h
 | str s=>have:=VR.str.1 h;subst this;exact one _ _ h
 | ptr id off=>obtain ⟨l,_,rfl⟩:=VR.ptr.1 h;exact one _ _ h
 | nilp=>have:=VR.nilp.1 h;subst this;exact one _ _ h
 | slc id off len cap=>obtain ⟨l,x,c,_,rfl,_⟩:=VR.slc.1 h;exact one _ _ h
 | nils=>have:=VR.nils.1 h;subst this;exact one _ _ h
 | tup vs=>obtain ⟨cs,rfl,_⟩:=VR.tup.1 h;exact one _ _ h
 | fn f vs=>obtain ⟨cs,rfl,_⟩:=VR.fn.1 h;exact one _ _ h
 | nilf=>have:=VR.nilf.1 h;subst this;exact one _ _ h
 | nili=>have:=VR.nili.1 h;subst this;exact one _ _ h
 | any=>
   have:=hv rfl;have e:v.cells= #[v]:=by cases v <;> first|rfl|exact absurd rfl (this _)
   rw [e];exact one _ _ h
theorem VR.one {a:AV} {v:Value} (h:VR ι a v) (hs:sc a=true):v.oneCell'=true:=by
 cases a with
 | int k n=>have:=VR.int.1 h;subst this;rfl
 | bool b=>have:=VR.bool.1 h;subst this;rfl
 | str s=>have:=VR.str.1 h;subst this;rfl
 | ptr id off=>obtain ⟨l,_,rfl⟩:=VR.ptr.1 h;rfl
 | nilp=>have:=VR.nilp.1 h;subst this;rfl
 | slc id off len cap=>obtain ⟨l,x,c,_,rfl,_⟩:=VR.slc.1 h;rfl
 | nils=>have:=VR.nils.1 h;subst this;rfl
 | fn f vs=>obtain ⟨cs,rfl,_⟩:=VR.fn.1 h;rfl
 | nilf=>have:=VR.nilf.1 h;subst this;rfl
 | nili=>have:=VR.nili.1 h;subst this;rfl
 | _=>cases hs
theorem jmN {l:List AV} (h:jeH l=true):∀a∈l,sc a=true:=by
 induction l with
 | nil=>intro a ha;cases ha
 | cons b l ih=>
   have h':(bif sc b then jeH l else false)=true:=h;intro a ha;cases hb:sc b with
   | false=>rw [hb] at h';cases h'
   | true=>
     rw [hb] at h';rcases List.mem_cons.1 ha with rfl|ha
     ·exact hb
     ·exact ih h' a ha
theorem VRs.one {xs:List AV} {cs:List Value} (h:VRs ι xs cs) (hs:jeH xs=true):∀v∈cs,v.oneCell'=true:=by
 intro v hv;obtain ⟨j,hj,e⟩:=List.mem_iff_getElem.1 hv;obtain ⟨h1,h2⟩:=(VRs.iff xs cs).1 h;have hj':j < xs.length:=by omega
 exact VR.one (h2 j xs[j] v (List.getElem?_eq_getElem hj') (by rw [←e];exact List.getElem?_eq_getElem hj)) (jmN hs _ (List.getElem_mem hj'))
end

def jtK:Blk→Prop
 | .dead=>False
 | _=>True
def jey (ι:Emb) (w:World) (l:Loc) (cs:List AV):Prop:=
 cs.length≤l.n∧∀(j:Nat) (a:AV),cs[j]? =some a→∃v,w.cell? ⟨l.b,l.d+j,none⟩=some v∧VR ι a v
def jiZ (ι:Emb) (w:World) (l:Loc):Blk→Prop
 | .cells cs=>jey ι w l cs∧(∀j,j < l.n→(w.cell? ⟨l.b,l.d+j,none⟩).isSome=true)∧∀o,w.frozen? ⟨l.b,o,none⟩=false
 | .ro cs=>jey ι w l cs
 | .dead=>True
abbrev Hf:=Nat→Option Blk
structure WR (ι:Emb) (H:Hf) (w:World):Prop where
 gl:∀g,g < 100→∃n,ι g=some ⟨g,0,n⟩
 lt:∀id l b,ι id=some l→H id=some b→l.b < w.heap.size
 blk:∀id l b,ι id=some l→H id=some b→jiZ ι w l b
 inj:∀id id' l l' b b',id≠id'→ι id=some l→ι id'=some l'→H id=some b→H id'=some b'→jtK b→jtK b'→l.b≠l'.b

theorem jg5 {w w':World} {B:Nat} (h:w'.heap[B]? =w.heap[B]?) (o:Nat):w'.cell? ⟨B,o,none⟩=w.cell? ⟨B,o,none⟩:=by
 simp only [World.cell?,h]
theorem jid {w w':World} {B:Nat} (h:w'.heap[B]? =w.heap[B]?) (o:Nat):w'.frozen? ⟨B,o,none⟩=w.frozen? ⟨B,o,none⟩:=by
 simp only [World.frozen?,h]
theorem jey.mono {ι ι':Emb} {w w':World} {l:Loc} {cs:List AV} (hi:Le ι ι') (h:w'.heap[l.b]? =w.heap[l.b]?) (hc:jey ι w l cs):jey ι' w' l cs:=
 ⟨hc.1,fun j a ha=>by obtain ⟨v,h1,h2⟩:=hc.2 j a ha;exact ⟨v,by rw [jg5 h];exact h1,VR.mono hi a v h2⟩⟩
theorem jiZ.mono {ι ι':Emb} {w w':World} {l:Loc} {b:Blk} (hi:Le ι ι') (h:w'.heap[l.b]? =w.heap[l.b]?) (hb:jiZ ι w l b):jiZ ι' w' l b:=by
 cases b with
 | dead=>trivial
 | ro cs=>exact jey.mono hi h hb
 | cells cs=>exact ⟨jey.mono hi h hb.1,fun j hj=>by rw [jg5 h];exact hb.2.1 j hj,fun o=>by rw [jid h];exact hb.2.2 o⟩

structure Fr (ι:Emb) (lo hi:Nat) (w w':World):Prop where
 os:w'.os=w.os
 tape:w'.tape=w.tape
 output:w'.output=w.output
 size:w.heap.size≤w'.heap.size
 keep:∀B,B < w.heap.size→(∀id l,lo≤id→id < hi→ι id=some l→l.b≠B)→w'.heap[B]? =w.heap[B]?
structure Ext (ι ι':Emb) (lo hi wm:Nat) (w:World):Prop where
 same:∀id,¬(lo≤id∧id < hi)→ι' id=ι id
 new:∀id l,lo≤id→id < hi→ι' id=some l→w.heap.size≤l.b∨∃id0 l0,wm≤id0∧id0 < lo∧ι id0=some l0∧l0.b=l.b
def jdR (ι:Emb) (lo hi:Nat):Prop:=∀id,lo≤id→id < hi→ι id=none
theorem Ext.le {ι ι':Emb} {lo hi wm:Nat} {w:World} (h:Ext ι ι' lo hi wm w) (hf:jdR ι lo hi):Le ι ι':=fun id l e=>by
 by_cases hc:lo≤id∧id < hi
 ·rw [hf id hc.1 hc.2] at e;cases e
 ·rw [h.same id hc];exact e
theorem Ext.refl (ι:Emb) (n wm:Nat) (w:World):Ext ι ι n n wm w:=⟨fun _ _=>rfl,fun id l h1 h2=>by omega⟩
theorem Fr.refl (ι:Emb) (lo hi:Nat) (w:World):Fr ι lo hi w w:=⟨rfl,rfl,rfl,Nat.le_refl _,fun _ _ _=>rfl⟩
end Go.Proofs.YtpkcjfpgemdfdaaGreatDoor.Ax
namespace Go.Proofs.YtpkcjfpgemdfdaaGreatDoor.Ax
open Go Go.RowKit
set_option linter.unusedSimpArgs false
set_option linter.unusedVariables false

def Gives (P:Program) (r:Result Next) (K:Value→World→Prop):Prop:=
 match r with
 | .ok (.value v) w=>K v w
 | .ok .skip w=>K undef w
 | .ok (.enter f args) w=>Calls P f args w fun e w'=>∃v,e= .returned v∧K v w'
 | _=>False
def jer (ι:Emb) (H':Hf) (lo hi wm:Nat) (w:World) (v:AV) (vc:Value) (w':World):Prop:=
 ∃ι',Ext ι ι' lo hi wm w∧VR ι' v vc∧WR ι' H' w'∧Fr ι wm lo w w'
theorem jer.pure {ι:Emb} {H:Hf} {n wm:Nat} {w:World} {v:AV} {vc:Value} (hW:WR ι H w) (hv:VR ι v vc):jer ι H n n wm w v vc w:=
 ⟨ι,Ext.refl _ _ _ _,hv,hW,Fr.refl _ _ _ _⟩

structure NewW (w w':World) (cv:Array Value) (t:TypeId) (fz:Nat×Nat):Prop where
 os:w'.os=w.os
 tape:w'.tape=w.tape
 output:w'.output=w.output
 size:w'.heap.size=w.heap.size+1
 old:∀B,B < w.heap.size→w'.heap[B]? =w.heap[B]?
 new:w'.heap[w.heap.size]? =some (.cells cv t fz)
theorem NewW.alloc (w:World) (cv:Array Value) (t:TypeId):NewW w (w.alloc (.cells cv t)) cv t (0,0):=
 ⟨rfl,rfl,rfl,by simp,fun B hB=>Below.heap_alloc w _ B hB,heap_alloc_new w _⟩
theorem NewW.drewAlloc (w:World) (cv:Array Value) (t:TypeId):NewW w (w.drew.alloc (.cells cv t)) cv t (0,0):=
 ⟨rfl,rfl,rfl,by simp,fun B hB=>Below.heap_alloc w.drew _ B hB,heap_alloc_new w.drew _⟩

def jfl (ι:Emb) (n:Nat) (l:Loc):Emb:=fun id=>if id=n then some l else ι id
theorem jff {ι:Emb} {n:Nat} {l:Loc} (h:ι n=none):Le ι (jfl ι n l):=fun id m e=>by
 unfold jfl;by_cases hc:id=n
 ·subst hc;rw [h] at e;cases e
 ·rw [if_neg hc];exact e
theorem jaO {ι:Emb} {n:Nat} {l:Loc}:jfl ι n l n=some l:=by simp [jfl]
theorem jdR.one {ι:Emb} {n:Nat} (h:jdR ι n (n+1)):ι n=none:=h n (Nat.le_refl _) (Nat.lt_succ_self n)

theorem jbC {ι:Emb} {w':World} {B:Nat} {cs:List AV} {cv:Array Value} {t:TypeId} {fz:Nat×Nat} (h:w'.heap[B]? =some (.cells cv t fz))
  (hl:cs.length≤cv.size) (hc:∀(j:Nat) (a:AV) (v:Value),cs[j]? =some a→cv[j]? =some v→VR ι a v):jey ι w' ⟨B,0,cv.size⟩ cs:=
 ⟨hl,fun j a ha=>by
   have hj:j < cs.length:=by
    rcases Nat.lt_or_ge j cs.length with h|h
    ·exact h
    ·rw [List.getElem?_eq_none h] at ha;cases ha
   have hj':j < cv.size:=by omega
   refine ⟨cv[j], ?_,hc j a _ ha (Array.getElem?_eq_getElem hj')⟩
   simp [World.cell?,h,hj']⟩
theorem jdl {w':World} {B:Nat} {cv:Array Value} {t:TypeId} {fz:Nat×Nat} (h:w'.heap[B]? =some (.cells cv t fz)):∀j,j < cv.size→(w'.cell? ⟨B,0+j,none⟩).isSome=true:=by
 intro j hj;simp [World.cell?,h,hj]
theorem jbF {w':World} {B:Nat} {cv:Array Value} {t:TypeId} (h:w'.heap[B]? =some (.cells cv t (0,0))) (o:Nat):w'.frozen? ⟨B,o,none⟩=false:=by
 simp [World.frozen?,h]

theorem WR.new {ι:Emb} {H H':Hf} {w w':World} {n:Nat} {b:Blk} {cv:Array Value} {t:TypeId} {fz:Nat×Nat} (hW:WR ι H w) (hN:NewW w w' cv t fz) (hf:ι n=none)
  (hn:H' n=some b) (ho:∀id,id≠n→H' id=H id∨(H' id=some .dead∧∃b',H id=some b')) (hb:jiZ (jfl ι n ⟨w.heap.size,0,cv.size⟩) w' ⟨w.heap.size,0,cv.size⟩ b):
  WR (jfl ι n ⟨w.heap.size,0,cv.size⟩) H' w':=by
 have hle:=jff (l:=⟨w.heap.size,0,cv.size⟩) hf
 have old:∀id l b,id≠n→jfl ι n ⟨w.heap.size,0,cv.size⟩ id=some l→H' id=some b→ι id=some l∧∃b',H id=some b'∧(b=b'∨b= .dead):=by
  intro id l b hid e hb;have e':ι id=some l:=by unfold jfl at e;rwa [if_neg hid] at e
  refine ⟨e', ?_⟩;rcases ho id hid with h|⟨h,b',hb'⟩
  ·rw [h] at hb;exact ⟨b,hb, .inl rfl⟩
  ·rw [h] at hb;exact ⟨b',hb', .inr (Option.some.inj hb).symm⟩
 refine ⟨fun g hg=> ?_,fun id l b' e hb'=> ?_,fun id l b' e hb'=> ?_,fun id id' l l' b1 b2 hne e e' h1 h2 l1 l2=> ?_⟩
 ·obtain ⟨m,hm⟩:=hW.gl g hg;exact ⟨m,hle _ _ hm⟩
 ·by_cases hid:id=n
  ·subst hid;rw [jaO] at e;have:=Option.some.inj e;subst this;show w.heap.size < _;rw [hN.size];omega
  ·obtain ⟨e',b2,hb2,_⟩:=old id l b' hid e hb';have:=hW.lt id l b2 e' hb2;rw [hN.size];omega
 ·by_cases hid:id=n
  ·subst hid;rw [jaO] at e;have:=Option.some.inj e;subst this;rw [hn] at hb';have:=Option.some.inj hb';subst this;exact hb
  ·obtain ⟨e',b2,hb2,hc⟩:=old id l b' hid e hb';rcases hc with rfl|rfl
   ·exact jiZ.mono hle (hN.old _ (hW.lt id l _ e' hb2)) (hW.blk id l _ e' hb2)
   ·trivial
 ·by_cases hid:id=n
  ·subst hid;have:=Option.some.inj (jaO.symm.trans e);subst this;obtain ⟨e2,b3,hb3,_⟩:=old id' l' b2 (Ne.symm hne) e' h2;have:=hW.lt _ _ _ e2 hb3;show w.heap.size≠l'.b
   omega
  ·by_cases hid':id'=n
   ·subst hid';have:=Option.some.inj (jaO.symm.trans e');subst this;obtain ⟨e2,b3,hb3,_⟩:=old id l b1 hid e h1;have:=hW.lt _ _ _ e2 hb3;show l.b≠w.heap.size
    omega
   ·obtain ⟨e1,b3,hb3,c1⟩:=old id l b1 hid e h1;obtain ⟨e2,b4,hb4,c2⟩:=old id' l' b2 hid' e' h2;rcases c1 with rfl|rfl
    ·rcases c2 with rfl|rfl
     ·exact hW.inj id id' l l' _ _ hne e1 e2 hb3 hb4 l1 l2
     ·exact l2.elim
    ·exact l1.elim
theorem NewW.fr {ι:Emb} {lo hi:Nat} {w w':World} {cv:Array Value} {t:TypeId} {fz:Nat×Nat} (hN:NewW w w' cv t fz):Fr ι lo hi w w':=
 ⟨hN.os,hN.tape,hN.output,by rw [hN.size];omega,fun B hB _=>hN.old B hB⟩
theorem Ext.put {ι:Emb} {n wm:Nat} {w:World} {l:Loc} (h:w.heap.size≤l.b∨∃id0 l0,wm≤id0∧id0 < n∧ι id0=some l0∧l0.b=l.b):Ext ι (jfl ι n l) n (n+1) wm w:=
 ⟨fun id hid=>by unfold jfl;rw [if_neg (by omega)],fun id m h1 h2 e=>by
   have:id=n:=by omega
   subst this;rw [jaO] at e;have:=Option.some.inj e;subst this
   exact h⟩
theorem jer.new {ι:Emb} {H H':Hf} {w w':World} {n wm:Nat} {b:Blk} {cv:Array Value} {t:TypeId} {fz:Nat×Nat} {v:AV} {vc:Value} (hW:WR ι H w) (hN:NewW w w' cv t fz) (hf:jdR ι n (n+1))
  (hn:H' n=some b) (ho:∀id,id≠n→H' id=H id∨(H' id=some .dead∧∃b',H id=some b')) (hb:jiZ (jfl ι n ⟨w.heap.size,0,cv.size⟩) w' ⟨w.heap.size,0,cv.size⟩ b) (hv:VR (jfl ι n ⟨w.heap.size,0,cv.size⟩) v vc):
  jer ι H' n (n+1) wm w v vc w':=
 ⟨_,Ext.put (.inl (Nat.le_refl _)),hv,hW.new hN hf.one hn ho hb,hN.fr⟩

theorem jaC (B:Nat):∀(vs:List Value) (o:Nat) (w:World) (B':Nat),B'≠B→(w.setCells B o vs).heap[B']? =w.heap[B']?
 | [],_,_,_,_=>rfl
 | v::vs,o,w,B',h=>by
   rw [World.setCells,jaC B vs (o+1) _ B' h];exact Below.heap_setCell w ⟨B,o,none⟩ v B' h
theorem jbb (B:Nat):∀(vs:List Value) (o:Nat) (w:World),(w.setCells B o vs).heap.size=w.heap.size
 | [],_,_=>rfl
 | v::vs,o,w=>by rw [World.setCells,jbb B vs];simp [World.setCell]
theorem jdq (B:Nat):∀(vs:List Value) (o:Nat) (w:World),(w.setCells B o vs).os=w.os∧(w.setCells B o vs).tape=w.tape∧(w.setCells B o vs).output=w.output
 | [],_,_=>⟨rfl,rfl,rfl⟩
 | v::vs,o,w=>by rw [World.setCells];exact jdq B vs (o+1) _
theorem jbm (B:Nat):∀(vs:List Value) (o:Nat) (w:World) (a:Addr),(w.setCells B o vs).frozen? a=w.frozen? a
 | [],_,_,_=>rfl
 | v::vs,o,w,a=>by rw [World.setCells,jbm B vs];simp [go_sem]
end Go.Proofs.YtpkcjfpgemdfdaaGreatDoor.Ax
namespace Go.Proofs.YtpkcjfpgemdfdaaGreatDoor.Ax
open Go Go.RowKit
set_option linter.unusedSimpArgs false
set_option linter.unusedVariables false

theorem jao {α:Type} {l:List α} {j:Nat} {a:α} (h:l[j]? =some a):j < l.length:=by
 rcases Nat.lt_or_ge j l.length with h'|h'
 ·exact h'
 ·rw [List.getElem?_eq_none h'] at h;cases h
theorem jde (B:Nat) (vs:List Value) (o:Nat) (w:World) (h:∀j,j < vs.length→(w.cell? ⟨B,o+j,none⟩).isSome=true) (k:Nat) (hk:(w.cell? ⟨B,k,none⟩).isSome=true):((w.setCells B o vs).cell? ⟨B,k,none⟩).isSome=true:=by
 by_cases hr:o≤k∧k < o+vs.length
 ·obtain ⟨j,rfl⟩:∃j,k=o+j:=⟨k - o,by omega⟩;rw [World.cell?_setCells_in B vs o w h j (by omega)];rfl
 ·rw [World.cell?_setCells_out B vs o w ⟨B,k,none⟩ (fun _ _=>by show k < o∨_≤k;omega)];exact hk
theorem jf6 {ι:Emb} {B o:Nat} {vs:List AV} {vals:List Value} {w:World} (hv:VRs ι vs vals) (h:∀j,j < vals.length→(w.cell? ⟨B,o+j,none⟩).isSome=true) {j:Nat} {a:AV} (ha:vs[j]? =some a):
  ∃v,(w.setCells B o vals).cell? ⟨B,o+j,none⟩=some v∧VR ι a v:=by
 obtain ⟨h1,h2⟩:=(VRs.iff vs vals).1 hv;have hj:=jao ha;have hj':j < vals.length:=by omega
 exact ⟨vals[j],World.cell?_setCells_in B vals o w h j hj',h2 j a _ ha (List.getElem?_eq_getElem hj')⟩
theorem Fr.setCells {ι:Emb} {wm n id:Nat} {l:Loc} {w:World} (hl:ι id=some l) (hwm:wm≤id) (hlo:id < n) (o:Nat) (vals:List Value):Fr ι wm n w (w.setCells l.b o vals):=by
 obtain ⟨h1,h2,h3⟩:=jdq l.b vals o w;refine ⟨h1,h2,h3,by rw [jbb];exact Nat.le_refl _,fun B hB hn=>jaC l.b vals o w B ?_⟩;intro e;exact hn id l hwm hlo hl e.symm
theorem jer.store {ι:Emb} {H H':Hf} {w:World} {n wm id off:Nat} {l:Loc} {cs cs' vs:List AV} {vals:List Value} (hW:WR ι H w) (hl:ι id=some l) (hc:H id=some (.cells cs)) (hs:jfT cs off vs=some cs')
  (hv:VRs ι vs vals) (hwm:wm≤id) (hlo:id < n) (hn:H' id=some (.cells cs')) (ho:∀k,k≠id→H' k=H k):jer ι H' n n wm w (.tup []) undef (w.setCells l.b (l.d+off) vals):=by
 obtain ⟨s1,s2,s3⟩:=jdb _ _ _ _ hs;obtain ⟨⟨c1,c2⟩,c3,c4⟩:=hW.blk id l _ hl hc;have hlen:vs.length=vals.length:=((VRs.iff vs vals).1 hv).1
 have hin:∀j,j < vals.length→(w.cell? ⟨l.b,l.d+off+j,none⟩).isSome=true:=by
  intro j hj;have hne:vs≠[]:=by intro e;rw [e] at hlen;simp at hlen;omega
  have:=s2 hne;have:=c3 (off+j) (by omega);rwa [←Nat.add_assoc] at this
 refine ⟨ι,Ext.refl _ _ _ _,VR.tup.2 ⟨[],rfl,VRs.nil.2 rfl⟩,⟨hW.gl,fun k m b e h=> ?_,fun k m b e h=> ?_,fun k k' m m' b b' hne e e' h h' l1 l2=> ?_⟩,Fr.setCells hl hwm hlo _ _⟩
 ·rw [jbb];by_cases hk:k=id
  ·subst hk;exact hW.lt k m _ e hc
  ·rw [ho k hk] at h;exact hW.lt k m b e h
 ·by_cases hk:k=id
  ·subst hk;have:=Option.some.inj (hl.symm.trans e);subst this;rw [hn] at h;have:=Option.some.inj h;subst this;refine ⟨⟨by omega,fun j a ha=> ?_⟩,fun j hj=> ?_,fun o=>by rw [jbm];exact c4 o⟩
   ·rw [s3 j] at ha;by_cases hr:off≤j∧j < off+vs.length
    ·rw [if_pos hr] at ha;have:=jf6 (B:=l.b) (o:=l.d+off) hv hin ha;rwa [show l.d+off+(j - off)=l.d+j by omega] at this
    ·rw [if_neg hr] at ha;obtain ⟨v,hv1,hv2⟩:=c2 j a ha;refine ⟨v, ?_,hv2⟩;rw [World.cell?_setCells_out l.b vals _ w ⟨l.b,l.d+j,none⟩ (fun _ _=>by show l.d+j < _∨_≤l.d+j;omega)];exact hv1
   ·exact jde l.b vals _ w hin _ (c3 j hj)
  ·rw [ho k hk] at h;cases b with
   | dead=>trivial
   | cells ds=>exact jiZ.mono (Le.refl ι) (jaC l.b vals _ w m.b (hW.inj k id m l _ _ hk e hl h hc trivial trivial)) (hW.blk k m _ e h)
   | ro ds=>exact jiZ.mono (Le.refl ι) (jaC l.b vals _ w m.b (hW.inj k id m l _ _ hk e hl h hc trivial trivial)) (hW.blk k m _ e h)
 ·have old:∀k b,H' k=some b→jtK b→∃b',H k=some b'∧jtK b':=by
   intro k b h hb;by_cases hk:k=id
   ·subst hk;exact ⟨_,hc,trivial⟩
   ·rw [ho k hk] at h;exact ⟨b,h,hb⟩
  obtain ⟨b1,h1,h2⟩:=old k b h l1;obtain ⟨b2,h3,h4⟩:=old k' b' h' l2;exact hW.inj k k' m m' b1 b2 hne e e' h1 h3 h2 h4

theorem jer.growIn {ι:Emb} {H H':Hf} {w:World} {n wm id off len m z c:Nat} {l:Loc} {cs old new:List AV} {vals:List Value} (hW:WR ι H w) (hf:jdR ι n (n+1)) (hl:ι id=some l) (hc:H id=some (.cells cs))
  (hold:jpC cs off (len*z)=some old) (hv:VRs ι new vals) (hnew:new.length=m*z) (hroom:len+m≤c) (hfit:off+c*z≤l.n) (hwm:wm≤id) (hlo:id < n)
  (hn:H' n=some (.cells (old++new))) (hd:H' id=some .dead) (ho:∀k,k≠id→k≠n→H' k=H k):
  jer ι H' n (n+1) wm w (.slc n 0 (len+m) (.r z)) (.slice (some ⟨l.b,l.d+off,none⟩) (len+m) c) (w.setCells l.b (l.d+off+len*z) vals):=by
 obtain ⟨o1,o2⟩:=jh1 hold;obtain ⟨⟨c1,c2⟩,c3,c4⟩:=hW.blk id l _ hl hc;have hlen:new.length=vals.length:=((VRs.iff new vals).1 hv).1;have hmz:(len+m)*z≤c*z:=Nat.mul_le_mul_right z hroom;rw [Nat.add_mul] at hmz
 have hin:∀j,j < vals.length→(w.cell? ⟨l.b,l.d+off+len*z+j,none⟩).isSome=true:=by
  intro j hj;have:=c3 (off+len*z+j) (by omega);rwa [←Nat.add_assoc,←Nat.add_assoc] at this
 have hle:=jff (l:=⟨l.b,l.d+off,c*z⟩) hf.one;have hne:id≠n:=by omega
 have old':∀k q b,k≠n→jfl ι n ⟨l.b,l.d+off,c*z⟩ k=some q→H' k=some b→jtK b→ι k=some q∧k≠id∧H k=some b:=by
  intro k q b hk e h hb;have e':ι k=some q:=by unfold jfl at e;rwa [if_neg hk] at e
  have hki:k≠id:=by rintro rfl;rw [hd] at h;have:=Option.some.inj h;subst this;exact hb.elim
  exact ⟨e',hki,by rw [←ho k hki hk];exact h⟩
 refine ⟨jfl ι n ⟨l.b,l.d+off,c*z⟩,Ext.put (.inr ⟨id,l,hwm,hlo,hl,rfl⟩),VR.slc.2 ⟨_,_,_,jaO,rfl,fun _=>by simp,⟨hroom,fun _=>by simp⟩⟩,⟨fun g hg=> ?_,fun k q b e h=> ?_,fun k q b e h=> ?_,fun k k' q q' b b' hkk e e' h h' l1 l2=> ?_⟩,Fr.setCells hl hwm hlo _ _⟩
 ·obtain ⟨p,hp⟩:=hW.gl g hg;exact ⟨p,hle _ _ hp⟩
 ·rw [jbb];by_cases hk:k=n
  ·subst hk;have:=Option.some.inj (jaO.symm.trans e);subst this;exact hW.lt id l _ hl hc
  ·have e':ι k=some q:=by unfold jfl at e;rwa [if_neg hk] at e
   by_cases hki:k=id
   ·subst hki;have:=Option.some.inj (hl.symm.trans e');subst this;exact hW.lt k l _ hl hc
   ·rw [ho k hki hk] at h;exact hW.lt k q b e' h
 ·by_cases hk:k=n
  ·subst hk;have:=Option.some.inj (jaO.symm.trans e);subst this;rw [hn] at h;have:=Option.some.inj h;subst this;refine ⟨⟨by rw [List.length_append,o1,hnew];exact hmz,fun j a ha=> ?_⟩,fun j hj=> ?_,fun o=>by rw [jbm];exact c4 o⟩
   ·rw [List.getElem?_append] at ha;by_cases hj:j < old.length
    ·rw [if_pos hj,o2 j (by omega)] at ha;obtain ⟨v,hv1,hv2⟩:=c2 _ a ha;refine ⟨v, ?_,VR.mono hle a v hv2⟩;rw [World.cell?_setCells_out l.b vals _ w ⟨l.b,l.d+off+j,none⟩ (fun _ _=>by show l.d+off+j < _∨_≤l.d+off+j;omega),Nat.add_assoc];exact hv1
    ·rw [if_neg hj] at ha;obtain ⟨v,hv1,hv2⟩:=jf6 (B:=l.b) (o:=l.d+off+len*z) hv hin ha;exact ⟨v,by rwa [show l.d+off+len*z+(j - old.length)=l.d+off+j by omega] at hv1,VR.mono hle a v hv2⟩
   ·have:=c3 (off+j) (by have:j < c*z:=hj;omega);rw [←Nat.add_assoc] at this;exact jde l.b vals _ w hin _ this
  ·cases b with
   | dead=>trivial
   | cells ds=>
     obtain ⟨e',hki,h'⟩:=old' k q _ hk e h trivial;exact jiZ.mono hle (jaC l.b vals _ w q.b (hW.inj k id q l _ _ hki e' hl h' hc trivial trivial)) (hW.blk k q _ e' h')
   | ro ds=>
     obtain ⟨e',hki,h'⟩:=old' k q _ hk e h trivial;exact jiZ.mono hle (jaC l.b vals _ w q.b (hW.inj k id q l _ _ hki e' hl h' hc trivial trivial)) (hW.blk k q _ e' h')
 ·by_cases hk:k=n
  ·subst hk;have:=Option.some.inj (jaO.symm.trans e);subst this;obtain ⟨e2,hki,h2⟩:=old' k' q' b' (Ne.symm hkk) e' h' l2;exact Ne.symm (hW.inj k' id q' l _ _ hki e2 hl h2 hc l2 trivial)
  ·obtain ⟨e1,hki,h1⟩:=old' k q b hk e h l1;by_cases hk':k'=n
   ·subst hk';have:=Option.some.inj (jaO.symm.trans e');subst this;exact hW.inj k id q l _ _ hki e1 hl h1 hc l1 trivial
   ·obtain ⟨e2,_,h2⟩:=old' k' q' b' hk' e' h' l2;exact hW.inj k k' q q' _ _ hkk e1 e2 h1 h2 l1 l2
end Go.Proofs.YtpkcjfpgemdfdaaGreatDoor.Ax
namespace Go.Proofs.YtpkcjfpgemdfdaaGreatDoor.Ax
open Go Go.RowKit
set_option linter.unusedSimpArgs false
set_option linter.unusedVariables false

def Bd (h:Hp):Prop:=∀id b,h.h.get id=some b→id < h.nx
def Opr (ι:Emb) (tm:Tm) (a:Act) (o:Oper):Prop:=∀x,x∈o.op.operands.toList→VR ι (opd tm x) (a.eval x)
def jma (rd:List Nat) (h:Hp) (H:Hf):Prop:=∀id,id∈rd→∀b,h.h.get id=some b→H id=some b
structure OpOk (P:Program) (o:Oper) (tm:Tm) (h h':Hp) (v:AV) (rd wr:List Nat):Prop where
 nx:h.nx≤h'.nx
 wm:h'.wm≤h.wm
 bd:Bd h→Bd h'
 wrw:∀id,id∈wr→h'.wm≤id∨h'.h.get id=h.h.get id
 only:∀id,id ∉ wr→¬(h.nx≤id∧id < h'.nx)→h'.h.get id=h.h.get id
 run:∀(ι:Emb) (H H':Hf) (w:World) (a:Act),WR ι H w→jdR ι h.nx h'.nx→Opr ι tm a o→jma rd h H→Bd h→
  (∀id,(id∈wr∨(h.nx≤id∧id < h'.nx))→H' id=h'.h.get id)→(∀id,id ∉ wr→¬(h.nx≤id∧id < h'.nx)→H' id=H id)→
  Gives P ((execOp a.eval o).run P w) (jer ι H' h.nx h'.nx h'.wm w v)
section
variable {P:Program} {o:Oper} {tm:Tm} {h:Hp} {v:AV} {rd:List Nat}
theorem OpOk.pure (hr:∀(ι:Emb) (H:Hf) (w:World) (a:Act),WR ι H w→Opr ι tm a o→jma rd h H→∃vc,(execOp a.eval o).run P w= .ok (.value vc) w∧VR ι v vc):OpOk P o tm h h v rd []:=by
 refine ⟨Nat.le_refl _,Nat.le_refl _,fun h=>h,fun _ _=> .inr rfl,fun _ _ _=>rfl,fun ι H H' w a hW hf ho hA hB h1 h2=> ?_⟩;obtain ⟨vc,he,hv⟩:=hr ι H w a hW ho hA;rw [he];have hH:H'=H:=funext fun id=>h2 id (by simp) (by omega)
 rw [hH];exact jer.pure hW hv
theorem OpOk.alloc {b:Blk} (hr:∀(ι:Emb) (H:Hf) (w:World) (a:Act),WR ι H w→Opr ι tm a o→jma rd h H→ι h.nx=none→
  ∃vc cv t fz w',(execOp a.eval o).run P w= .ok (.value vc) w'∧NewW w w' cv t fz∧jiZ (jfl ι h.nx ⟨w.heap.size,0,cv.size⟩) w' ⟨w.heap.size,0,cv.size⟩ b∧VR (jfl ι h.nx ⟨w.heap.size,0,cv.size⟩) v vc):
  OpOk P o tm h (jau h b) v rd []:=by
 have hnx:(jau h b).nx=h.nx+1:=rfl;have hget:∀id,(jau h b).h.get id=if id=h.nx then some b else h.h.get id:=fun id=>Tr.get_set _ _ _ _
 refine ⟨by rw [hnx];omega,Nat.le_refl _,fun hb id c hc=> ?_,fun _ h=>(by cases h),fun id h1 h2=> ?_,fun ι H H' w a hW hf ho hA hB h1 h2=> ?_⟩
 ·rw [hget] at hc;rw [hnx];by_cases e:id=h.nx
  ·omega
  ·rw [if_neg e] at hc;have:=hb id c hc;omega
 ·rw [hget,if_neg (by rw [hnx] at h2;omega)]
 ·obtain ⟨vc,cv,t,fz,w',he,hN,hb,hv⟩:=hr ι H w a hW ho hA (hf.one);rw [he];have hH:H' h.nx=some b:=by rw [h1 h.nx (.inr ⟨Nat.le_refl _,by rw [hnx];omega⟩),hget,if_pos rfl]
  exact jer.new hW hN hf hH (fun id hid=> .inl (h2 id (by simp) (by rw [hnx];omega))) hb hv
end
section
variable {P:Program} {o:Oper} {tm:Tm} {h h':Hp} {v:AV}
theorem val_inj {v v':AV} {h h':Hp} (e:Ro.val v h=Ro.val v' h'):v=v'∧h=h':=by injection e with a b;exact ⟨a,b⟩
theorem val?_eq {oa:Option AV} (e:val? h oa= .val v h'):oa=some v∧h'=h:=by
 cases oa with
 | none=>cases e
 | some u=>obtain ⟨a,b⟩:=val_inj (show Ro.val u h=Ro.val v h' from e);exact ⟨by rw [a],b.symm⟩
theorem jmg {u:AV} (e:okv h u= .val v h'):u=v∧h'=h:=by
 unfold okv at e;split at e
 ·cases e
 ·obtain ⟨a,b⟩:=val_inj e;exact ⟨a,b.symm⟩
theorem jkq {x:Operand} (hop:o.op= .move x∨o.op= .assign x) (e:jrY x P tm h= .val v h'):OpOk P o tm h h' v [] []:=by
 obtain ⟨rfl,rfl⟩:=val_inj (show Ro.val (opd tm x) h=Ro.val v h' from e);refine OpOk.pure fun ι H w a hW ho hA=>⟨a.eval x, ?_,ho x (by rcases hop with h|h <;> simp [h,Op.operands])⟩
 rcases hop with h|h <;> simp [execOp,h]
theorem jq7 {c x y:Operand} (hop:o.op= .pick c x y) (e:jsC c x y P tm h= .val v h'):OpOk P o tm h h' v [] []:=by
 unfold jsC at e;cases hc:opd tm c with
 | bool t=>
   rw [hc] at e;obtain ⟨rfl,rfl⟩:=val_inj (show Ro.val (bif t then opd tm x else opd tm y) h=Ro.val v h' from e);refine OpOk.pure fun ι H w a hW ho hA=>⟨if t then a.eval x else a.eval y, ?_, ?_⟩
   ·have h1:=ho c (by simp [hop,Op.operands]);rw [hc] at h1;simp [execOp,hop,asBool,VR.bool.1 h1]
   ·cases t
    ·exact ho y (by simp [hop,Op.operands])
    ·exact ho x (by simp [hop,Op.operands])
 | _=>rw [hc] at e;cases e
theorem jsg {u:AV} (e:juZ h u= .val v h'):u≠ .any∧v= .ptr h.nx 0∧h'=jau h (.cells (cellsOf u)):=by
 cases u <;> first|(cases e;done)|(obtain ⟨a,b⟩:=val_inj e;exact ⟨by simp,a.symm,b.symm⟩)
theorem jsv {t:TypeId} {x:Operand} (hop:o.op= .box t x) (e:jvJ t x P tm h= .val v h'):OpOk P o tm h h' v [] []:=by
 obtain ⟨hx,rfl,rfl⟩:=jsg (show juZ h (opd tm x)= .val v h' from e);refine OpOk.alloc fun ι H w a hW ho hA hn=>⟨.pointer (some ⟨w.heap.size,0,none⟩),(a.eval x).cells,t,(0,0),w.alloc (.cells (a.eval x).cells t), ?_,NewW.alloc _ _ _, ?_, ?_⟩
 ·simp [execOp,hop,Instr.box,newVar,newRow]
 ·have hN:=NewW.alloc w (a.eval x).cells t;have h1:VRs (jfl ι h.nx ⟨w.heap.size,0,(a.eval x).cells.size⟩) (cellsOf (opd tm x)) (a.eval x).cells.toList:=VRs.mono (jff hn) _ _ (VR.cells (ho x (by simp [hop,Op.operands])) (fun h=>absurd h hx));obtain ⟨h2,h3⟩:=(VRs.iff _ _).1 h1;exact ⟨jbC hN.new (by rw [h2];simp) (fun j b u hb hu=>h3 j b u hb (by simpa using hu)),jdl hN.new,jbF hN.new⟩
 ·exact VR.ptr.2 ⟨_,jaO,by simp⟩
theorem jd3 {t:TypeId} {z:List AV} (e:jen P t=some z):∃i zv,P.info? t=some i∧i.zero=some zv∧z=cellsOf (toAV zv):=by
 unfold jen at e;split at e
 ·rename_i i hi
  split at e
  ·rename_i zv hz
   exact ⟨i,zv,hi,hz,(Option.some.inj e).symm⟩
  ·cases e
 ·cases e
theorem jj3 (v:Value):cellsOf (toAV0 v)=[toAV0 v]:=by
 unfold toAV0;split <;> rfl
theorem jbN (ι:Emb) (zv:Value):VRs ι (cellsOf (toAV zv)) zv.cells.toList:=by
 have h1:∀u:Value,toAV u=toAV0 u→u.cells= #[u]→VRs ι (cellsOf (toAV u)) u.cells.toList:=fun u e1 e2=>by
  rw [e1,jj3,e2];exact VRs.cons.2 ⟨_,[],rfl,VR.toAV0 u,VRs.nil.2 rfl⟩
 cases zv with
 | agg cs=>exact (by simpa [toAV,cellsOf,Value.cells] using VRs.toAV0 (ι:=ι) cs.toList)
 | _=>exact h1 _ rfl rfl
theorem jms {t:TypeId} (hop:o.op= .alloc t) (e:jo9 t P tm h= .val v h'):OpOk P o tm h h' v [] []:=by
 unfold jo9 at e;cases hz:jen P t with
 | none=>rw [hz] at e;cases e
 | some z=>
   rw [hz] at e;obtain ⟨rfl,rfl⟩:=val_inj (show Ro.val (.ptr h.nx 0) (jau h (.cells z))=Ro.val v h' from e);obtain ⟨i,zv,hi,hzv,rfl⟩:=jd3 hz;refine OpOk.alloc fun ι H w a hW ho hA hn=>⟨.pointer (some ⟨w.heap.size,0,none⟩),zv.cells,t,(0,0),w.alloc (.cells zv.cells t), ?_,NewW.alloc _ _ _, ?_, ?_⟩
   ·simp [execOp,hop,Instr.alloc,newVar,newRow,zeroValue,typeInfo,hi,hzv]
   ·have hN:=NewW.alloc w zv.cells t;obtain ⟨h2,h3⟩:=(VRs.iff _ _).1 (jbN (jfl ι h.nx ⟨w.heap.size,0,zv.cells.size⟩) zv);exact ⟨jbC hN.new (by rw [h2];simp) (fun j b u hb hu=>h3 j b u hb (by simpa using hu)),jdl hN.new,jbF hN.new⟩
   ·exact VR.ptr.2 ⟨_,jaO,by simp⟩
end
end Go.Proofs.YtpkcjfpgemdfdaaGreatDoor.Ax
namespace Go.Proofs.YtpkcjfpgemdfdaaGreatDoor.Ax
open Go Go.RowKit
set_option linter.unusedSimpArgs false
set_option linter.unusedVariables false
section
variable {P:Program} {o:Oper} {tm:Tm} {h h':Hp} {v:AV} {w:World} {ι:Emb}
theorem jha {t s:Nat} (e:jg8 P t=some s):∃i,P.info? t=some i∧i.size=s:=by
 unfold jg8 at e;split at e
 ·rename_i i hi;exact ⟨i,hi,Option.some.inj e⟩
 ·cases e
theorem jaD {t s:Nat} (e:jg8 P t=some s) (w:World):(Go.sizeOf t).run P w= .ok s w:=by
 obtain ⟨i,hi,rfl⟩:=jha e;simp [Go.sizeOf,typeInfo,hi]
theorem jdd {t:Nat} {b:Bool} (e:isAgg P t=some b) (w:World):(Go.isAgg t).run P w= .ok b w:=by
 unfold isAgg at e;cases hu:P.underlying t with
 | none=>rw [hu] at e;cases e
 | some d=>
   rw [hu] at e;cases d <;> (obtain rfl:=Option.some.inj e) <;> simp [Go.isAgg,run_underlying hu]
theorem jgf {b:Nat}:∀(vs:List AV) (off:Nat),(∀(j:Nat) (a:AV),vs[j]? =some a→∃v,w.cell? ⟨b,off+j,none⟩=some v∧VR ι a v)→
  ∃vals:List Value,VRs ι vs vals∧∀j u,vals[j]? =some u→w.cell? ⟨b,off+j,none⟩=some u
 | [],off,_=>⟨[],VRs.nil.2 rfl,fun j u h=>by simp at h⟩
 | a::vs,off,h=>by
   obtain ⟨v,h1,h2⟩:=h 0 a rfl
   obtain ⟨vals,h3,h4⟩:=jgf vs (off+1) (fun j a' ha=>by
    have:=h (j+1) a' (by simpa using ha)
    rwa [show off+(j+1)=off+1+j by omega] at this)
   refine ⟨v::vals,VRs.cons.2 ⟨v,vals,rfl,h2,h3⟩,fun j u hu=> ?_⟩;cases j with
   | zero=>simp at hu;subst hu;simpa using h1
   | succ j=>have:=h4 j u (by simpa using hu);rwa [show off+1+j=off+(j+1) by omega] at this
theorem jco {l:Loc} {cs r:List AV} {off n:Nat} (hc:jey ι w l cs) (e:jpC cs off n=some r):
  ∃vals:List Value,vals.length=n∧VRs ι r vals∧∀j u,vals[j]? =some u→w.cell? ⟨l.b,l.d+off+j,none⟩=some u:=by
 obtain ⟨h1,h2⟩:=jh1 e
 obtain ⟨vals,h3,h4⟩:=jgf (w:=w) (ι:=ι) (b:=l.b) r (l.d+off) (fun j a ha=>by
  have hj:=jao ha;rw [h2 j (by omega)] at ha;obtain ⟨v,h5,h6⟩:=hc.2 _ a ha
  exact ⟨v,by rw [Nat.add_assoc];exact h5,h6⟩)
 exact ⟨vals,by rw [←((VRs.iff _ _).1 h3).1,h1],h3,h4⟩
theorem jjX {l:Loc} {cs:List AV} {t off:Nat} (hc:jey ι w l cs) (e:jir P t cs off=some v):∃vc,(loadVar t ⟨l.b,l.d+off,none⟩).run P w= .ok vc w∧VR ι v vc:=by
 unfold jir at e;split at e
 ·rename_i hag
  split at e
  ·rename_i s hs
   split at e
   ·rename_i vs hv
    have:=Option.some.inj e;subst this;obtain ⟨vals,h1,h2,h3⟩:=jco hc hv;refine ⟨.agg vals.toArray, ?_,VR.agg.2 ⟨vals,rfl,h2⟩⟩;have hl:=run_loadCells_list (P:=P) w ⟨l.b,l.d+off,none⟩ vals (fun j u hu=>by rw [Addr.add_lit];exact h3 j u hu);rw [h1] at hl;simp [loadVar,jdd hag,jaD hs,hl]
   ·cases e
  ·cases e
 ·rename_i hag
  rw [jcW] at e;obtain ⟨vc,h1,h2⟩:=hc.2 off v e;exact ⟨vc,by simp [loadVar,jdd hag,run_load,h1],h2⟩
 ·cases e
theorem je7 {cs:List AV} {vals:List Value} {t off:Nat} (hc:VRs ι cs vals) (e:jir P t cs off=some v):∃vc,(part t vals.toArray off).run P w= .ok vc w∧VR ι v vc:=by
 obtain ⟨hlen,hat⟩:=(VRs.iff _ _).1 hc;unfold jir at e;split at e
 ·rename_i hag
  split at e
  ·rename_i s hs
   split at e
   ·rename_i vs hv
    have:=Option.some.inj e;subst this;obtain ⟨h1,h2⟩:=jh1 hv;refine ⟨.agg (vals.toArray.extract off (off+s)),by simp [part,jdd hag,jaD hs],VR.agg.2 ⟨(vals.toArray.extract off (off+s)).toList,by simp,(VRs.iff _ _).2 ⟨?_,fun j a u ha hu=> ?_⟩⟩⟩
    ·have hr:=jk7 _ _ _ hv;rw [jgk,List.length_drop] at hr;simp [h1];omega
    ·have hj:=jao ha;rw [h2 j (by omega)] at ha;refine hat (off+j) a u ha ?_;have hu':(vals.toArray.extract off (off+s))[j]? =some u:=by simpa using hu
     rw [Array.getElem?_extract] at hu';split at hu'
     ·simpa using hu'
     ·cases hu'
   ·cases e
  ·cases e
 ·rename_i hag
  rw [jcW] at e;have hj:=jao e;refine ⟨vals[off]'(by omega), ?_,hat off v _ e (List.getElem?_eq_getElem (by omega))⟩;have:vals.toArray[off]? =some (vals[off]'(by omega)):=by simp [List.getElem?_eq_getElem (show off < vals.length by omega)]
  simp [part,jdd hag,this]
 ·cases e
theorem juo {b:Option Blk} {cs:List AV} (e:rdB b=some cs):b=some (.cells cs)∨b=some (.ro cs):=by
 cases b with
 | none=>cases e
 | some b=>cases b with
   | cells c=>exact .inl (by rw [Option.some.inj (show some c=some cs from e)])
   | ro c=>exact .inr (by rw [Option.some.inj (show some c=some cs from e)])
   | dead=>cases e
theorem ji1 {b:Option Blk} {cs:List AV} (e:wrB b=some cs):b=some (.cells cs):=by
 cases b with
 | none=>cases e
 | some b=>cases b with
   | cells c=>rw [Option.some.inj (show some c=some cs from e)]
   | ro c=>cases e
   | dead=>cases e
theorem jcm {H:Hf} {id:Nat} {cs:List AV} {l:Loc} (hW:WR ι H w) (hA:∀b,h.h.get id=some b→H id=some b) (hl:ι id=some l) (e:blk h id=some cs):jey ι w l cs:=by
 rcases juo e with h1|h1
 ·exact (hW.blk id l _ hl (hA _ h1)).1
 ·exact hW.blk id l _ hl (hA _ h1)
theorem joB {t:TypeId} {x:Operand} (hop:o.op= .load t x) (e:ju4 t x P tm h= .val v h'):OpOk P o tm h h' v (jaF (opd tm x)) []:=by
 obtain ⟨e1,rfl⟩:=val?_eq (show val? h (juI P t h (opd tm x))= .val v h' from e)
 refine OpOk.pure fun ι H w a hW ho hA=> ?_
 have hx:=ho x (by simp [hop,Op.operands]);cases hp:opd tm x with
 | ptr id off=>
   rw [hp] at e1 hx hA;obtain ⟨l,hl,hv⟩:=VR.ptr.1 hx;have e1':(match blk h' id with|some cs=>jir P t cs off|none=>none)=some v:=e1;split at e1'
   ·rename_i cs hcs
    obtain ⟨vc,h1,h2⟩:=jjX (P:=P) (jcm hW (hA id (by simp [jaF])) hl hcs) e1';exact ⟨vc,by simp [execOp,hop,Instr.loadAt,Instr.sureAddr,hv,h1],h2⟩
   ·cases e1'
 | _=>rw [hp] at e1;cases e1
theorem jtL {u:AV} (e:nck h u= .val v h'):v=u∧h'=h∧((∃id off,u= .ptr id off)∨∃f c,u= .fn f c):=by
 unfold nck at e;split at e
 ·obtain ⟨a,b⟩:=val_inj e;exact ⟨a.symm,b.symm, .inl ⟨_,_,rfl⟩⟩
 ·obtain ⟨a,b⟩:=val_inj e;exact ⟨a.symm,b.symm, .inr ⟨_,_,rfl⟩⟩
 ·cases e
theorem jsE {x:Operand} (hop:o.op= .nilCheck x) (e:jvD x P tm h= .val v h'):OpOk P o tm h h' v [] []:=by
 obtain ⟨rfl,rfl,hc⟩:=jtL (show nck h (opd tm x)= .val v h' from e);refine OpOk.pure fun ι H w a hW ho hA=> ?_
 have hx:=ho x (by simp [hop,Op.operands]);refine ⟨a.eval x, ?_,hx⟩;rcases hc with ⟨id,off,hp⟩|⟨f,c,hp⟩
 ·rw [hp] at hx;obtain ⟨l,_,hv⟩:=VR.ptr.1 hx;simp [execOp,hop,hv]
 ·rw [hp] at hx;obtain ⟨cs,hv,_⟩:=VR.fn.1 hx;simp [execOp,hop,hv]
theorem jiE {x:Operand} {i:Nat} (hop:o.op= .extract x i) (e:jkc x i P tm h= .val v h'):OpOk P o tm h h' v [] []:=by
 obtain ⟨e1,rfl⟩:=val?_eq (show val? h (exv i (opd tm x))= .val v h' from e)
 refine OpOk.pure fun ι H w a hW ho hA=> ?_
 have hx:=ho x (by simp [hop,Op.operands]);cases hp:opd tm x with
 | tup vs=>
   rw [hp] at e1 hx;obtain ⟨cs,hv,hr⟩:=VR.tup.1 hx;obtain ⟨hlen,hat⟩:=(VRs.iff _ _).1 hr;have e1':vs[i]? =some v:=by rw [←jcW];exact e1
   have hi:=jao e1';have hc:cs[i]? =some (cs[i]'(by omega)):=List.getElem?_eq_getElem (by omega)
   refine ⟨cs[i]'(by omega), ?_,hat i v _ e1' hc⟩;simp [execOp,hop,Instr.extract,hv,hc]
 | _=>rw [hp] at e1;cases e1
theorem jgc {t i:Nat} {f:Field} (e:jdJ P t i=some f):∃fs,P.underlying t=some (.struct fs)∧fs[i]? =some f:=by
 unfold jdJ at e;split at e
 ·rename_i fs hfs
  unfold jin at hfs;split at hfs
  ·rename_i gs hg
   have:=Option.some.inj hfs;subst this;exact ⟨gs,hg,by rw [jcW] at e;simpa using e⟩
  ·cases hfs
 ·cases e
theorem jmF {t:TypeId} {x:Operand} {i:Nat} (hop:o.op= .field t x i) (e:jqV t x i P tm h= .val v h'):OpOk P o tm h h' v [] []:=by
 obtain ⟨e1,rfl⟩:=val?_eq (show val? h (fv P t i (opd tm x))= .val v h' from e)
 refine OpOk.pure fun ι H w a hW ho hA=> ?_
 have hx:=ho x (by simp [hop,Op.operands]);cases hp:opd tm x with
 | agg vs=>
   rw [hp] at e1 hx;obtain ⟨cs,hv,hr⟩:=VR.agg.1 hx;have e1':(match jdJ P t i with|some fd=>jir P fd.type vs fd.offset|none=>none)=some v:=e1;split at e1'
   ·rename_i fd hfd
    obtain ⟨fs,hu,hf⟩:=jgc hfd;obtain ⟨vc,h1,h2⟩:=je7 (P:=P) (w:=w) hr e1';refine ⟨vc, ?_,h2⟩;simp [execOp,hop,Instr.field,run_underlying hu,hf,hv,asAgg,h1]
   ·cases e1'
 | _=>rw [hp] at e1;cases e1
theorem jgS {t:TypeId} {x:Operand} {i:Nat} (hop:o.op= .fieldAddr t x i) (e:jg0 t x i P tm h= .val v h'):OpOk P o tm h h' v [] []:=by
 cases hp:opd tm x with
 | ptr id off=>
   have e':(match jdJ P t i with|some fd=>(match jg8 P fd.type with|some (_+1)=>Ro.val (.ptr id (off+fd.offset)) h | _=> .bad)|none=> .bad)= .val v h':=by
    have:fa P t i h (opd tm x)= .val v h':=e;rw [hp] at this;exact this
   split at e'
   ·rename_i fd hfd
    split at e'
    ·rename_i k hs
     obtain ⟨rfl,rfl⟩:=val_inj e';obtain ⟨fs,hu,hf⟩:=jgc hfd;refine OpOk.pure fun ι H w a hW ho hA=> ?_
     have hx:=ho x (by simp [hop,Op.operands]);rw [hp] at hx;obtain ⟨l,hl,hv⟩:=VR.ptr.1 hx;refine ⟨.pointer (some ⟨l.b,l.d+(off+fd.offset),none⟩), ?_,VR.ptr.2 ⟨l,hl,rfl⟩⟩;simp [execOp,hop,Instr.fieldAt,run_underlying hu,hf,hv,Instr.sureAddr,fieldPlace,jaD hs,Addr.add_lit,Nat.add_assoc]
    ·cases e'
   ·cases e'
 | _=>
   have:fa P t i h (opd tm x)= .val v h':=e;rw [hp] at this;cases this
end
end Go.Proofs.YtpkcjfpgemdfdaaGreatDoor.Ax
