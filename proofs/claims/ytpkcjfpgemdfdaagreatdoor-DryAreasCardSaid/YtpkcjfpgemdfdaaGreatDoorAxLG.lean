/- Parts. -/
import Derived.Test.YtpkcjfpgemdfdaaGreatDoorAxZcG
import Derived.Test.YtpkcjfpgemdfdaaGreatDoorProg
import Derived.Laws.StandIn
import Derived.Lib.Bytealg
import Derived.KernelRfl
set_option linter.all false
set_option maxRecDepth 100000
set_option maxHeartbeats 8000000
namespace Go.Proofs.YtpkcjfpgemdfdaaGreatDoor.Ax
open Go
/-! Calls that were seen once: their results stand for them. -/
def juP:Cap→Cap→Bool
 | .k a, .k b=>Nat.beq a b
 | .r a, .r b=>Nat.beq a b
 | _,_=>false
theorem jsI:∀a b,juP a b=true→a=b:=by
 intro a b h;cases a <;> cases b <;> simp_all [juP]
mutual
def jiq:AV→AV→Bool
 | .int k n, .int k' n'=>decide (k=k') && decide (n=n')
 | .bool a, .bool b=>decide (a=b)
 | .str a, .str b=>decide (a=b)
 | .ptr a x, .ptr b y=>Nat.beq a b && Nat.beq x y
 | .nilp, .nilp=>true
 | .slc a x n c, .slc b y m d=>Nat.beq a b && Nat.beq x y && Nat.beq n m && juP c d
 | .nils, .nils=>true
 | .agg a, .agg b=>jlC a b
 | .tup a, .tup b=>jlC a b
 | .fn f a, .fn g b=>Nat.beq f g && jlC a b
 | .nilf, .nilf=>true
 | .nili, .nili=>true
 | .any, .any=>true
 | _,_=>false
def jlC:List AV→List AV→Bool
 | [],[]=>true
 | a::l,b::m=>jiq a b && jlC l m
 | _,_=>false
end
mutual
theorem jnW:∀a b,jiq a b=true→a=b
 | .int k n,b,h=>by cases b <;> simp_all [jiq]
 | .bool a,b,h=>by cases b <;> simp_all [jiq]
 | .str a,b,h=>by cases b <;> simp_all [jiq]
 | .ptr a x,b,h=>by cases b <;> simp_all [jiq]
 | .nilp,b,h=>by cases b <;> simp_all [jiq]
 | .slc a x n c,b,h=>by
   cases b <;> simp_all [jiq]
   exact jsI _ _ h.2
 | .nils,b,h=>by cases b <;> simp_all [jiq]
 | .agg a,b,h=>by
   cases b <;> simp_all [jiq]
   exact jcR _ _ h
 | .tup a,b,h=>by
   cases b <;> simp_all [jiq]
   exact jcR _ _ h
 | .fn f a,b,h=>by
   cases b <;> simp_all [jiq]
   exact jcR _ _ h.2
 | .nilf,b,h=>by cases b <;> simp_all [jiq]
 | .nili,b,h=>by cases b <;> simp_all [jiq]
 | .any,b,h=>by cases b <;> simp_all [jiq]
theorem jcR:∀a b,jlC a b=true→a=b
 | [],b,h=>by cases b <;> simp_all [jlC]
 | a::l,b,h=>by
   cases b with
   | nil=>simp [jlC] at h
   | cons b m=>
     simp only [jlC,Bool.and_eq_true] at h;rw [jnW _ _ h.1,jcR _ _ h.2]
end
def jv8:Blk→Blk→Bool
 | .cells a, .cells b=>jlC a b
 | .ro a, .ro b=>jlC a b
 | .dead, .dead=>true
 | _,_=>false
theorem jsq (a b:Blk) (h:jv8 a b=true):a=b:=by
 cases a <;> cases b <;> simp_all [jv8]
 ·exact jcR _ _ h
 ·exact jcR _ _ h
def juL:Option Blk→Option Blk→Bool
 | none,none=>true
 | some a,some b=>jv8 a b
 | _,_=>false
theorem jlT (a b:Option Blk) (h:juL a b=true):a=b:=by
 cases a <;> cases b <;> simp_all [juL]
 exact jsq _ _ h
def jsG:Tr Blk→Tr Blk→Bool
 | .lf, .lf=>true
 | .nd v l r, .nd v' l' r'=>juL v v' && jsG l l' && jsG r r'
 | _,_=>false
theorem jrO:∀a b,jsG a b=true→a=b:=by
 intro a
 induction a with
 | lf=>intro b h;cases b <;> simp_all [jsG]
 | nd v l r ihl ihr=>
   intro b h;cases b with
   | lf=>simp [jsG] at h
   | nd v' l' r'=>
     simp only [jsG,Bool.and_eq_true] at h;rw [jlT _ _ h.1.1,ihl _ h.1.2,ihr _ h.2]
def juC (a b:Hp):Bool:=jsG a.h b.h && Nat.beq a.nx b.nx && Nat.beq a.wm b.wm
theorem jrt (a b:Hp) (h:juC a b=true):a=b:=by
 obtain ⟨a1,a2,a3⟩:=a;obtain ⟨b1,b2,b3⟩:=b;simp only [juC,Bool.and_eq_true] at h;rw [show a1=b1 from jrO _ _ h.1.1,show a2=b2 by simpa using h.1.2,show a3=b3 by simpa using h.2]

noncomputable def jrH (t:Mem):List (Nat×Blk)→Mem
 | []=>t
 | p::l=>jrH (t.set p.1 p.2) l
theorem je4 (l:List (Nat×Blk)):∀(t:Mem) id b,(jrH t l).get id=some b→(id,b)∈l∨t.get id=some b:=by
 induction l with
 | nil=>intro t id b h;exact Or.inr h
 | cons p l ih=>
   intro t id b h;rcases ih _ _ _ h with k|k
   ·exact Or.inl (List.mem_cons_of_mem _ k)
   ·rw [Tr.get_set] at k;by_cases e:id=p.1
    ·rw [if_pos e] at k;cases k;subst e;exact Or.inl (List.mem_cons_self ..)
    ·rw [if_neg e] at k;exact Or.inr k
theorem jps (l:List (Nat×Blk)):∀(t:Mem) id,(∀p,p∈l→p.1≠id)→(jrH t l).get id=t.get id:=by
 induction l with
 | nil=>intro t id _;rfl
 | cons p l ih=>
   intro t id h;rw [show jrH t (p::l)=jrH (t.set p.1 p.2) l from rfl,ih _ _ (fun q hq=>h q (List.mem_cons_of_mem _ hq)),Tr.get_set,if_neg (fun e=>h p (List.mem_cons_self ..) e.symm)]
noncomputable def kept (h:Hp) (news:List (Nat×Blk)) (nx:Nat):Hp:=⟨jrH h.h news,nx,h.wm⟩
noncomputable def jjO (lo:Nat) (h':Hp):List (Nat×Blk)→Bool
 | []=>true
 | p::l=>Nat.ble lo p.1 && Nat.blt p.1 h'.nx && juL (h'.h.get p.1) (some p.2) && jjO lo h' l
noncomputable def seen (h:Hp) (v:AV) (news:List (Nat×Blk)) (nx:Nat):Ro→Bool
 | .val v' h'=>jiq v' v && Nat.beq h'.nx nx && Nat.ble h.nx h'.wm && jjO h.nx h' news
 | _=>false
theorem jfb {lo:Nat} {h':Hp}:∀{l:List (Nat×Blk)},jjO lo h' l=true→∀p,p∈l→lo≤p.1∧p.1 < h'.nx∧h'.h.get p.1=some p.2
 | [],_,p,hp=>by cases hp
 | q::l,h,p,hp=>by
   simp only [jjO,Bool.and_eq_true] at h;rcases List.mem_cons.1 hp with e|e
   ·subst e;exact ⟨by simpa using h.1.1.1,by simpa [Nat.blt_eq] using h.1.1.2,jlT _ _ h.1.2⟩
   ·exact jfb h.2 p e
section
variable {P:Program} {f:Nat} {args:List AV} {h h':Hp} {v:AV}
theorem jrB (c:CallOk P f args h v h') (hw:h.nx≤h'.wm) {news:List (Nat×Blk)} (hn:∀p,p∈news→h.nx≤p.1∧p.1 < h'.nx∧h'.h.get p.1=some p.2):CallOk P f args h v (kept h news h'.nx):=by
 have sub:Bd h→∀id b,(kept h news h'.nx).h.get id=some b→h'.h.get id=some b:=by
  intro hB id b e;rcases je4 _ _ _ _ e with k|k
  ·exact (hn _ k).2.2
  ·have:=hB id b k;rw [c.keep id this (by omega)];exact k
 refine ⟨c.nx,Nat.le_refl _,fun hB id b e=>c.bd hB id b (sub hB id b e),fun id h1 _=> ?_,fun ι w vals h1 h2 h3 h4=> ?_⟩
 ·exact jps _ _ _ (fun p hp e=>by have:=(hn p hp).1;omega)
 ·have:=c.run ι w vals h1 h2 h3 h4;refine Gives.mono this fun vc w1 hP=> ?_
  obtain ⟨ι',p1,p2,p3,p4⟩:=hP;refine ⟨ι',⟨p1.same,fun id l a b e=> ?_⟩,p2, ?_,⟨p4.os,p4.tape,p4.output,p4.size,fun B hB _=>p4.keep B hB (fun id l a b e=>by omega)⟩⟩
  ·rcases p1.new id l a b e with k|⟨id0,l0,k1,k2,_⟩
   ·exact Or.inl k
   ·omega
  ·exact p3.weaken (sub h4)
theorem jcN (hm:P.follows .mixedOrders=true) {hk:jfr} (hh:jbD P hk) {m:Nat} {news:List (Nat×Blk)} {nx:Nat} (h100:100≤h.nx) (hB:Bd h) (e:seen h v news nx (call P hk (ev P hk m) f args h)=true):CallOk P f args h v (kept h news nx):=by
 generalize hr:call P hk (ev P hk m) f args h=r at e;cases r with
 | bad=>cases e
 | enter _ _=>cases e
 | val v' h'=>
   simp only [seen,Bool.and_eq_true] at e;have e1:=jnW _ _ e.1.1.1;have e2:h'.nx=nx:=by simpa using e.1.1.2
   have e3:h.nx≤h'.wm:=by simpa using e.1.2
   subst e1;subst e2;exact jrB (jle hm hh h100 hB hr) e3 (jfb e.2)
end
noncomputable def jnN (args:List AV) (h:Hp) (v:AV) (h':Hp) (a:List AV) (k:Hp):Ro:=bif jlC a args && juC k h then .val v h' else .bad
theorem jsQ {P:Program} {f:Nat} {args:List AV} {h h':Hp} {v:AV} (c:CallOk P f args h v h'):∀a k u k',jnN args h v h' a k= .val u k'→CallOk P f a k u k':=by
 intro a k u k' e;unfold jnN at e;cases hc:(jlC a args && juC k h) with
 | false=>rw [hc] at e;cases e
 | true=>
   rw [hc] at e;simp only [Bool.and_eq_true] at hc;rw [jcR _ _ hc.1,jrt _ _ hc.2];have:Ro.val v h'=Ro.val u k':=e;cases this
   exact c
end Go.Proofs.YtpkcjfpgemdfdaaGreatDoor.Ax
namespace Go.Proofs.YtpkcjfpgemdfdaaGreatDoor.E6
open Go Ax
noncomputable def hkI:jfr:=fun f=>bif Nat.beq f 252 then some (fun args h=>match args with
   | [.str s, .int .u8 c]=> .val (.int .i64 (Lib.indexByte s c.toNat.toUInt8)) h
   | _=> .bad) else none
theorem jtJ {ι:Emb} {s:List UInt8} {k:IntKind} {c:Int} {vals:List Value} (hv:VRs ι [.str s, .int k c] vals):vals.toArray= #[.string ⟨⟨s⟩⟩, .int k c]:=by
 obtain ⟨v1,vs1,rfl,e1,e2⟩:=VRs.cons.1 hv;obtain ⟨v2,vs2,rfl,e3,e4⟩:=VRs.cons.1 e2;rw [VRs.nil.1 e4,VR.str.1 e1,VR.int.1 e3]
theorem jgd:jbD Tryz.prog hkI:=by
 intro f g hg args h v h' e;unfold hkI at hg;cases hf:Nat.beq f 252 with
 | false=>rw [hf] at hg;cases hg
 | true=>
   rw [hf] at hg;have:=Nat.eq_of_beq_eq_true hf;subst this;cases hg
   dsimp only at e;split at e
   ·rename_i s c
    cases e
    refine ⟨Nat.le_refl _,Nat.le_refl _,id,fun _ _ _=>rfl,fun ι w vals hv hW _ _=> ?_⟩;rw [jtJ hv];rw [run_callFunc_indexByte Tryz.func252 (by kernel_rfl) (by kernel_rfl) (by kernel_rfl) (by kernel_rfl)];rw [run_indexByte_string,Lib.firstIdx_eq];exact ⟨ι,Ext.refl _ _ _ _,VR.int.2 rfl,hW,Fr.refl _ _ _ _⟩
   ·cases e

noncomputable def h0:Hp:=⟨jrH .lf [(0, .ro [.any]),(5, .ro [.int .u64 1, .int .u64 10, .int .u64 100, .int .u64 1000, .int .u64 10000, .int .u64 100000, .int .u64 1000000, .int .u64 10000000, .int .u64 100000000])],100,1000000000⟩
noncomputable def stC (h:Hp):Hp:=jau h (.cells [.str [48], .str [50,48], .str [50], .str [49,54], .str [54], .str [49,50]])
def jvv:AV:= .agg [.int .i64 0, .int .i64 60, .int .i64 0, .int .i64 70]
noncomputable def stW (h:Hp):Hp:=jau h (.cells [.int .i64 50, .int .i64 60, .int .i64 40, .int .i64 80, .int .i64 30, .int .i64 60, .int .i64 20, .int .i64 60])
noncomputable def s1:Hp:=stC h0
noncomputable def s1':Hp:=kept s1 [] 1126
noncomputable def s2:Hp:=stC s1'
noncomputable def s2':Hp:=kept s2 [] 2246
noncomputable def s3':Hp:=kept s2' [] 2914
noncomputable def s4:Hp:=jau s3' (.cells [.str [49,55], .str [49,52]])
def jtD:List (Nat×Blk):=[(4137, .cells [.int .i64 964, .int .i64 931])]
noncomputable def s4':Hp:=kept s4 jtD 4175
noncomputable def s5:Hp:=jau s4' (.cells [.str [48], .str [49,54], .str [53], .str [49,54], .str [51,48], .str [51]])
noncomputable def s5':Hp:=kept s5 [] 5828
noncomputable def s6:Hp:=stW (jau s5' (.cells [.int .i64 0, .int .i64 60, .int .i64 0, .int .i64 70]))
noncomputable def s6':Hp:=kept s6 [(5830, .cells [.int .i64 2, .int .i64 3])] 5831
noncomputable def s7:Hp:=stW s6'
def jul:List (Nat×Blk):=[(6579, .cells [.str [103,111,111,100], .str [48], .str [48], .str [50], .str [52], .str [98,97,100], .str [50], .str [52], .str [51], .str [53], .str [103,111,111,100], .str [51], .str [53], .str [52], .str [53], .str [111,108,100], .str [52], .str [53], .str [53], .str [53]])]
noncomputable def s7':Hp:=kept s7 jul 6581
def v1:AV:= .tup [.str [57,50], .int .i64 0]
def v2:AV:= .tup [.str [52], .int .i64 0]
def v3:AV:= .tup [.int .i64 931, .str [49,51,49,48,48,47,57,51,49], .int .i64 0]
def v4:AV:= .tup [.slc 4137 0 2 (.r 1), .slc 4160 0 2 (.k 2), .int .i64 0]
def v5:AV:= .tup [.str [51,53,53,48,47,49,55], .int .i64 0]
def v6:AV:= .tup [.slc 5830 0 2 (.r 1), .int .i64 0]
def v7:AV:= .tup [.slc 6579 0 4 (.r 5), .int .i64 0]
def a1:List AV:=[.slc 100 0 3 (.k 3), .str [48], .str [54]]
def a2:List AV:=[.slc 1126 0 3 (.k 3), .str [49,56], .str [49,51]]
def a3:List AV:=[.int .i64 1000, .str [50,48], .str [49,52]]
def a4:List AV:=[.int .i64 1000, .str [50,48], .slc 2914 0 2 (.k 2)]
def a5:List AV:=[.slc 4175 0 2 (.k 2), .int .i64 1050, .str [50,48], .str [49,53]]
def a6:List AV:=[.slc 5829 0 4 (.k 4),jvv, .int .i64 2]
def a7:List AV:=[.slc 5831 0 4 (.k 4),jvv, .agg [.str [49], .str [50]], .str [53]]
noncomputable def R0 (f:Nat) (args:List AV) (h:Hp):Ro:=call Tryz.prog hkI (ev Tryz.prog hkI 3000) f args h
noncomputable def hkA:jfr:=fun f=>
 bif Nat.beq f 10 then some (jnN a1 s1 v1 s1') else
 bif Nat.beq f 22 then some (jnN a2 s2 v2 s2') else
 bif Nat.beq f 23 then some (jnN a3 s2' v3 s3') else
 bif Nat.beq f 24 then some (jnN a4 s4 v4 s4') else
 bif Nat.beq f 25 then some (jnN a5 s5 v5 s5') else
 bif Nat.beq f 27 then some (jnN a6 s6 v6 s6') else
 bif Nat.beq f 29 then some (jnN a7 s7 v7 s7') else none
end Go.Proofs.YtpkcjfpgemdfdaaGreatDoor.E6
namespace Go.Proofs.YtpkcjfpgemdfdaaGreatDoor.E6
open Go Ax
set_option maxRecDepth 100000
theorem jns:Ax.seen s1 v1 [] 1126 (R0 10 a1 s1)=true:=by decide+kernel
end Go.Proofs.YtpkcjfpgemdfdaaGreatDoor.E6
