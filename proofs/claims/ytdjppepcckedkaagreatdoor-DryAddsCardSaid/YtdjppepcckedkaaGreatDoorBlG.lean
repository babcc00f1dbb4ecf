/- Parts. -/
import Derived.Test.YtdjppepcckedkaaGreatDoorBgG
import Derived.Test.YtdjppepcckedkaaGreatDoorRows
import Derived.Test.YtdjppepcckedkaaGreatDoorCards
import Derived.Test.YtdjppepcckedkaaGreatDoorTie
import Derived.ProofKit
import Derived.OpenShut
import Derived.Carry
import Derived.Deep.DeepHandedRow
import Derived.Lib.LaidTab
import Derived.Stop.LaidErr
import Derived.Lay
import Derived.MakeChecks
import Derived.Shelf.Vars
import Derived.ChangeMaps5
import Derived.ChangeSame
import Derived.Deep.SlicePairs
set_option linter.all false
set_option maxRecDepth 100000
set_option maxHeartbeats 8000000
namespace Go.Proofs.YtdjppepcckedkaaGreatDoor
open Go Go.RowKit Go.Proofs.Tryz

noncomputable def clQ (p q u:Rat):Rat:=jwr (jwy u p) q
theorem jwG {x y:Rat} {b:Bd} (hxy:y≤x) (hpq:numQ b.1≤numQ b.2.1):tT x y b=((100 - clQ (numQ b.1) (numQ b.2.1) x)⁻¹ - (100 - clQ (numQ b.1) (numQ b.2.1) y)⁻¹)*numQ b.2.2:=by
 unfold tT;obtain ⟨p,hp⟩:∃p,numQ b.1=p:=⟨_,rfl⟩;obtain ⟨q,hq⟩:∃p,numQ b.2.1=p:=⟨_,rfl⟩;rw [hp,hq] at hpq ⊢
 have e:jwy y p < jwr x q∧clQ p q x=jwr x q∧clQ p q y=jwy y p∨¬jwy y p < jwr x q∧clQ p q x=clQ p q y:=by
  unfold clQ jwr jwy
  grind
 rcases e with ⟨h1,h2,h3⟩|⟨h1,h2⟩
 ·rw [if_pos h1,h2,h3]
 ·rw [if_neg h1,h2];grind
theorem jxD {x m y:Rat} {b:Bd} (h1:m≤x) (h2:y≤m) (hpq:numQ b.1≤numQ b.2.1):tT x y b=tT x m b+tT m y b:=by
 rw [jwG h1 hpq,jwG h2 hpq,jwG (by grind) hpq];grind
theorem jxm {x m y:Rat} {ls:List Bd} {n:Nat} (h1:m≤x) (h2:y≤m) (hpq:∀i,i < n→numQ (ls.getD i ([],[],[])).1≤numQ (ls.getD i ([],[],[])).2.1):∀i,i≤n→tS x y ls i=tS x m ls i+tS m y ls i
 | 0,_=>by show (0:Rat)=0+0;grind
 | i+1,hi=>by
   show tS x y ls i+_=(tS x m ls i+_)+(tS m y ls i+_)
   rw [jxm h1 h2 hpq i (by omega),jxD h1 h2 (hpq i (by omega))];grind
theorem jxw {mass N:Int} {x m y:Rat} {ls:List Bd} {n:Nat} (h1:m≤x) (h2:y≤m) (hN:(N:Rat)*(100 - m)=(mass:Rat)*(100 - x)) (hpq:∀i,i < n→numQ (ls.getD i ([],[],[])).1≤numQ (ls.getD i ([],[],[])).2.1):
  enS mass x m ls n+enS N m y ls n=enS mass x y ls n:=by
 rw [jwA,jwA,jwA,hN,jxm h1 h2 hpq n (Nat.le_refl _)];grind
def jwv (t:List UInt8) (ls:List Bd):List Bd:=ls.map fun b=>(b.1,b.2.1,t)
theorem jws {t:List UInt8} {ls:List Bd} {i:Nat} (h:i < ls.length):(jwv t ls).getD i ([],[],[])=((ls.getD i ([],[],[])).1,(ls.getD i ([],[],[])).2.1,t):=by
 simp [jwv,List.getD_eq_getElem?_getD,h]
theorem jxq {p q u:Rat} (g:p≤q):u≤p∧jwr u p=u∧clQ p q u=p∧jwr u q=u∨jwr u p=p∧clQ p q u=jwr u q:=by
 unfold clQ jwr jwy;grind
theorem jxz {p q u:Rat} (h:p≤q) (hu:p≤u):clQ p q u=jwr u q:=by
 unfold clQ jwr jwy;grind
theorem jxL {a b c:Rat}:a - b+(c - a)=c - b:=by grind
theorem jxa {ls:List Bd} {n:Nat} {u:Rat} (hpq:∀i,i < n→numQ (ls.getD i ([],[],[])).1≤numQ (ls.getD i ([],[],[])).2.1)
  (hc:∀i,0 < i→i < n→numQ (ls.getD i ([],[],[])).1=numQ (ls.getD (i - 1) ([],[],[])).2.1) (hu:numQ (ls.getD 0 ([],[],[])).1≤u) (F:Nat→Rat) (h0:F 0=0)
  (hF:∀i,i < n→F (i+1)=F i+((100 - clQ (numQ (ls.getD i ([],[],[])).1) (numQ (ls.getD i ([],[],[])).2.1) u)⁻¹ - (100 - numQ (ls.getD i ([],[],[])).1)⁻¹)):
  ∀i,i < n→F (i+1)=(100 - jwr u (numQ (ls.getD i ([],[],[])).2.1))⁻¹ - (100 - numQ (ls.getD 0 ([],[],[])).1)⁻¹
 | 0,hi=>by rw [hF 0 hi,h0,jxz (hpq 0 hi) hu,Rat.zero_add]
 | i+1,hi=>by
   have h:=jxa hpq hc hu F h0 hF i (by omega);have e:=hc (i+1) (by omega) hi;rw [Nat.add_sub_cancel] at e;have g:=hpq (i+1) hi;rw [hF (i+1) hi,h,e];rw [e] at g;rcases jxq (u:=u) g with ⟨_,e3,e4,e5⟩|⟨e3,e4⟩
   ·rw [e3,e4,e5,Rat.sub_self,Rat.add_zero]
   ·rw [e3,e4,jxL]
noncomputable def clS (u:Rat) (ls:List Bd):Nat→Rat
 | 0=>0
 | i+1=>clS u ls i+((100 - clQ (numQ (ls.getD i ([],[],[])).1) (numQ (ls.getD i ([],[],[])).2.1) u)⁻¹ - (100 - numQ (ls.getD i ([],[],[])).1)⁻¹)
theorem jx8 {t:List UInt8} {x y:Rat} {ls:List Bd} {n:Nat} (hl:ls.length=n) (hxy:y≤x) (hpq:∀i,i < n→numQ (ls.getD i ([],[],[])).1≤numQ (ls.getD i ([],[],[])).2.1):∀i,i≤n→tS x y (jwv t ls) i=(clS x ls i - clS y ls i)*numQ t
 | 0,_=>by show (0:Rat)=(0 - 0)*numQ t;grind
 | i+1,hi=>by
   show tS x y (jwv t ls) i+tT x y _=((clS x ls i+_) - (clS y ls i+_))*numQ t
   rw [jx8 hl hxy hpq i (by omega),jws (by omega),jwG (b:=((ls.getD i ([],[],[])).1,(ls.getD i ([],[],[])).2.1,t)) hxy (hpq i (by omega))];dsimp only
   grind
theorem jxg {mass:Int} {t:List UInt8} {x y:Rat} {ls:List Bd} {n:Nat} (hl:ls.length=n) (hn:0 < n) (hxy:y≤x) (hx:x < 100) (hpq:∀i,i < n→numQ (ls.getD i ([],[],[])).1≤numQ (ls.getD i ([],[],[])).2.1)
  (hc:∀i,0 < i→i < n→numQ (ls.getD i ([],[],[])).1=numQ (ls.getD (i - 1) ([],[],[])).2.1) (hv:jwB ls x y=0):
  enS mass x y (jwv t ls) n=numQ t*((mass:Rat)*(x - y) / (100 - y)):=by
 unfold jwB at hv;rw [hl] at hv;have h1:x≤numQ (ls.getD (n - 1) ([],[],[])).2.1:=Rat.not_lt.1 fun h=>by rw [if_pos (.inl h)] at hv;cases hv
 have h2:numQ (ls.getD 0 ([],[],[])).1≤y:=Rat.not_lt.1 fun h=>by rw [if_pos (.inr h)] at hv;cases hv
 have sx:=jxa (u:=x) hpq hc (by grind) (clS x ls) rfl (fun i _=>rfl) (n - 1) (by omega);have sy:=jxa (u:=y) hpq hc h2 (clS y ls) rfl (fun i _=>rfl) (n - 1) (by omega);rw [Nat.sub_add_cancel hn] at sx sy;rw [show jwr x (numQ (ls.getD (n - 1) ([],[],[])).2.1)=x by unfold jwr;rw [if_neg (Rat.not_lt.2 h1)]] at sx;rw [show jwr y (numQ (ls.getD (n - 1) ([],[],[])).2.1)=y by unfold jwr;rw [if_neg (Rat.not_lt.2 (Rat.le_trans hxy h1))]] at sy;rw [jwA,jx8 hl hxy hpq n (Nat.le_refl _),sx,sy];have a1:(100:Rat) - x≠0:=by grind
 have a2:(100:Rat) - y≠0:=by grind
 grind
section
variable {n:Nat} {ls:List Bd} {x y:Rat} {mass:Int} {k:Nat}
theorem jxr {p q v:Rat} (h1:1≤mass) (h2:mass≤999999999) (dx:Dz k x) (dy:Dz k y) (hx:x < 100) {b:Bd} (o:BdOk 30 b p q v):Dz (4*k+200) (enT mass x y b):=by
 unfold enT;rw [o.n0,o.n1,o.n2];split
 ·rename_i hc
  have da:=jx6 dx o.d1;have dc:=jx7 dy o.d0;have ha:jwr x q≤x:=jwM x q;have n1:(100:Rat) - jwr x q≠0:=by grind
  have n2:(100:Rat) - jwy y p≠0:=by grind
  exact (((((dzm h1 h2).mul (jc9.sub dx)).div (jc9.sub da) n1).sub (((dzm h1 h2).mul (jc9.sub dx)).div (jc9.sub dc) n2)).mul o.d2).mono (by omega)
 ·exact Dz.mono (k:=1) ⟨by decide+kernel,by decide+kernel⟩ (by omega)
theorem jwU (h1:1≤mass) (h2:mass≤999999999) (dx:Dz k x) (dy:Dz k y) (hx:x < 100) (hB:∀i,i < n→BdOk 30 (ls.getD i ([],[],[])) (numQ (ls.getD i ([],[],[])).1) (numQ (ls.getD i ([],[],[])).2.1) (numQ (ls.getD i ([],[],[])).2.2)):∀i,i≤n→Dz (1+(4*k+201)*i) (enS mass x y ls i)
 | 0,_=>show Dz 1 (0:Rat) from ⟨by decide+kernel,by decide+kernel⟩
 | i+1,hi=>by
   have h:=jwU h1 h2 dx dy hx hB i (by omega);have:=(h.add (jxr h1 h2 dx dy hx (hB i (by omega))));rw [show 1+(4*k+201)*(i+1)=1+(4*k+201)*i+(4*k+200)+1 by rw [Nat.mul_add];omega];exact this
end

def bds (ls:List Bd):List Value:=ls.flatMap fun b=> [bs b.1,bs b.2.1,bs b.2.2]
theorem jwR (a b:List Bd):bds (a++b)=bds a++bds b:=by simp [bds]
theorem jwZ (a:List Bd):(bds a).length=a.length*3:=by
 induction a with
 | nil=>rfl
 | cons q r ih=>rw [show bds (q::r)=[bs q.1,bs q.2.1,bs q.2.2]++bds r from rfl,List.length_append,ih];simp;omega
theorem jwV:∀(a:List Bd) (j k:Nat),j < a.length→k < 3→(bds a)[j*3+k]? =([bs (a.getD j ([],[],[])).1,bs (a.getD j ([],[],[])).2.1,bs (a.getD j ([],[],[])).2.2]:List Value)[k]?
 | [],j,k,h,_=>by cases h
 | q::r,0,k,_,hk=>by
   rw [show bds (q::r)=[bs q.1,bs q.2.1,bs q.2.2]++bds r from rfl,Nat.zero_mul,Nat.zero_add,List.getElem?_append_left (by simpa using hk)];rfl
 | q::r,j+1,k,h,hk=>by
   rw [show bds (q::r)=[bs q.1,bs q.2.1,bs q.2.2]++bds r from rfl,List.getElem?_append_right (by simp;omega)];rw [show (j+1)*3+k - [bs q.1,bs q.2.1,bs q.2.2].length=j*3+k by simp;omega,jwV r j k (by simpa using h) hk];simp
theorem jxt {a:List Bd}:∀u∈bds a,u.oneCell'=true:=by
 intro u hu;simp only [bds,List.mem_flatMap] at hu;obtain ⟨p,_,hp⟩:=hu;simp at hp;rcases hp with rfl|rfl|rfl <;> rfl
theorem jxk:(prog.info? 27).map (fun i=>(i.zero,i.size,i.bytes))=some (some (.agg #[.string ByteArray.empty, .string ByteArray.empty, .string ByteArray.empty]),3,48):=by kernel_rfl
abbrev jwT (w:World) (base:Nat) (v:Value) (n:Nat) (ls:List Bd):Prop:=w.ownsRow base 27 3 v n (bds ls)
theorem jxh (w:World):jwT (w.alloc (.cells #[] 27)) w.heap.size (.slice (some ⟨w.heap.size,0,none⟩) 0 0) 0 []:=World.ownsRow_made w #[] 0 (Nat.le_refl _) (Nat.zero_le _) rfl
section
variable {w:World} {A B:Option Addr} {n m c base:Nat} {v:Value} {ls ys:List Bd}
theorem jwT.form (h:jwT w base v n ls):∃A c,v= .slice A n c:=by
 rcases h.2 with ⟨rfl,h1⟩|⟨g,cap,cur,rfl,_⟩
 ·exact ⟨none,0,by rw [h1]⟩
 ·exact ⟨_,_,rfl⟩
theorem jwT.blk (h:jwT w base (.slice A n c) n ls) (hl:ls.length=n) (h0:0 < n):∃g cs,A=some ⟨g,0,none⟩∧base≤g∧Blk w g 27 cs∧∀j,j < n→cs[j*3]? =some (bs (ls.getD j ([],[],[])).1)∧cs[j*3+1]? =some (bs (ls.getD j ([],[],[])).2.1)∧cs[j*3+2]? =some (bs (ls.getD j ([],[],[])).2.2):=by
 have hlt:=World.ownsRow.lt h;rcases h.2 with ⟨e,h1⟩|⟨g,cap,cur,e,hb,hg,hnc,hcm,hcs,ht⟩
 ·cases e;omega
 ·cases e
  refine ⟨g,cur,rfl,(hlt g rfl).1,hg,fun j hj=> ?_⟩
  have c (k:Nat) (hk:k < 3) (u:Value) (hu:([bs (ls.getD j ([],[],[])).1,bs (ls.getD j ([],[],[])).2.1,bs (ls.getD j ([],[],[])).2.2]:List Value)[k]? =some u):cur[j*3+k]? =some u:=by
   have:=World.ownsRow.cells h (g:=g) rfl (j*3+k) u (by rw [jwV ls j k (by omega) hk,hu]);rw [jdP] at this;rwa [cell_of_row w g _ cur 27 (0,0) hg] at this
  exact ⟨c 0 (by omega) _ rfl,c 1 (by omega) _ rfl,c 2 (by omega) _ rfl⟩
theorem jx3 (h:jwT w base v n ls) (hn:n≤100000) (hm:m≤100000) (hb:base≤w.heap.size) (hy:Bv w B m ys) (h0:0 < m):
  ∃A' c' w',(Builtin.append_ #[22,22] 22 #[v, .slice B m c]).run prog w= .ok (.slice A' (n+m) c') w'∧jwT w' base (.slice A' (n+m) c') (n+m) (ls++ys)∧w.grownBy w' v.ownBlock:=by
 obtain ⟨i,hi,hz0,hz1,hz2⟩:=info_parts jxk;have hl:=hy.len;obtain ⟨b,o,rfl,_,hc⟩:=hy.at_ h0
 obtain ⟨v',w',hr,k1,k2,_,k3⟩:=run_append_own_at (P:=prog) w base 22 22 27 i _ 3 48 underlying22 hi hz0 hz1 hz2 rfl (by decide) v n (bds ls) h ⟨b,o,none⟩ m c (bds ys) (by rw [jwZ,hl])
  (by
    intro j u hu
    have hj:j < m*3:=by
     have:=(List.getElem?_eq_some_iff.1 hu).1;rw [jwZ,hl] at this;exact this
    have e:(⟨b,o,none⟩:Addr).add j=⟨b,o+j,none⟩:=by unfold Addr.add;split <;> simp_all
    rw [e];have hs:=jwV ys (j / 3) (j % 3) (by omega) (by omega);rw [show j / 3*3+j % 3=j by omega,hu] at hs;obtain ⟨k0,k1,k2⟩:=hc (j / 3) (by omega);have h3:j % 3=0∨j % 3=1∨j % 3=2:=by omega
    rcases h3 with hz|hz|hz
    ·rw [hz] at hs;simp at hs;rw [show o+j=o+j / 3*3 by omega,k0,hs,List.getD_eq_getElem?_getD]
    ·rw [hz] at hs;simp at hs;rw [show o+j=o+j / 3*3+1 by omega,k1,hs,List.getD_eq_getElem?_getD]
    ·rw [hz] at hs;simp at hs
     rw [show o+j=o+j / 3*3+2 by omega,k2,hs,List.getD_eq_getElem?_getD])
  jxt (by simp only [maxLen];omega) (by omega) hb
 have k4:jwT w' base v' (n+m) (ls++ys):=by unfold jwT;rw [jwR];exact k1
 obtain ⟨A',c',rfl⟩:=k4.form;exact ⟨A',c',w',hr,k4,k2⟩
theorem jww {ops:Array Oper} {rest:List Oper} {o:Oper} {a:Act} {Q:Exit→Act→World→Prop} {N:Nat} (hg:o.guard=none) (s y:Operand)
  (ho:o.op= .call { callee:= .builtin .append,args:= #[s,y],argTypes:= #[22,22] }) (ht:o.type=22) (hs:a.eval s=v) (hy:a.eval y= .slice B m c)
  (h:jwT w base v n ls) (hn:n≤100000) (hm:m≤100000) (hb:base≤w.heap.size) (hv:Bv w B m ys) (h0:0 < m) (hN:n+m=N)
  (hK:∀A' c' w',jwT w' base (.slice A' N c') N (ls++ys)→w.grownBy w' v.ownBlock→wpList prog ops Q rest (a.put o.dst (.slice A' N c')) w'):wpList prog ops Q (o::rest) a w:=by
 subst hN;obtain ⟨A',c',w',hr,k1,k2⟩:=jx3 h hn hm hb hv h0;refine wpList_plain hg fun K' hK'=> ?_
 exact jiI s y ho hs hy (by rw [ht];exact hr) (hK' _ _ (hK A' c' w' k1 k2))
structure FlatI (w:World) (g n i:Nat) (t:List UInt8) (ls:List Bd):Prop where
 blk:∃cs,Blk w g 27 cs∧∀j,j < n→cs[j*3]? =some (bs (ls.getD j ([],[],[])).1)∧cs[j*3+1]? =some (bs (ls.getD j ([],[],[])).2.1)∧cs[j*3+2]? =some (bs (if j < i then t else (ls.getD j ([],[],[])).2.2))
theorem FlatI.below {w':World} {g i:Nat} {t:List UInt8} (h:FlatI w g n i t ls) (hb:Below w.heap.size w w'):FlatI w' g n i t ls:=by
 obtain ⟨cs,h1,h2⟩:=h.blk;exact ⟨cs,h1.below hb,h2⟩
theorem FlatI.lt {g i:Nat} {t:List UInt8} (h:FlatI w g n i t ls):g < w.heap.size:=by
 obtain ⟨cs,h1,h2⟩:=h.blk;exact h1.lt
theorem FlatI.at_ {g i j:Nat} {t:List UInt8} (h:FlatI w g n i t ls) (hj:j < n):w.cell? ⟨g,j*3,none⟩=some (bs (ls.getD j ([],[],[])).1)∧w.cell? ⟨g,j*3+1,none⟩=some (bs (ls.getD j ([],[],[])).2.1)∧w.cell? ⟨g,j*3+2,none⟩=some (bs (if j < i then t else (ls.getD j ([],[],[])).2.2))∧w.frozen? ⟨g,j*3+2,none⟩=false:=by
 obtain ⟨cs,h1,h2⟩:=h.blk;obtain ⟨k0,k1,k2⟩:=h2 j hj;exact ⟨(h1.cell _).trans k0,(h1.cell _).trans k1,(h1.cell _).trans k2,h1.frozen _⟩
theorem FlatI.set {g i:Nat} {t:List UInt8} (h:FlatI w g n i t ls) (hi:i < n):FlatI (w.setCell ⟨g,i*3+2,none⟩ (bs t)) g n (i+1) t ls:=by
 obtain ⟨cs,h1,h2⟩:=h.blk;refine ⟨_,h1.set_ (i*3+2) (bs t),fun j hj=> ?_⟩;obtain ⟨k0,k1,k2⟩:=h2 j hj
 have e:i*3+2 < cs.size:=by
  obtain ⟨_,_,k⟩:=h2 i hi;exact (Array.getElem?_eq_some_iff.1 k).1
 refine ⟨?_, ?_, ?_⟩
 ·rw [Array.getElem?_setIfInBounds_ne (by omega)];exact k0
 ·rw [Array.getElem?_setIfInBounds_ne (by omega)];exact k1
 ·by_cases q:j=i
  ·subst q;rw [Array.getElem?_setIfInBounds_self_of_lt e,if_pos (by omega)]
  ·rw [Array.getElem?_setIfInBounds_ne (by omega),k2];by_cases q2:j < i
   ·rw [if_pos q2,if_pos (by omega)]
   ·rw [if_neg q2,if_neg (by omega)]
theorem FlatI.bv {g:Nat} {t:List UInt8} (h:FlatI w g n n t ls) (hl:ls.length=n):Bv w (some ⟨g,0,none⟩) n (jwv t ls):=by
 refine ⟨by unfold jwv;rw [List.length_map];exact hl,fun h0=>⟨g,0,rfl,h.lt,fun j hj=> ?_⟩⟩;obtain ⟨k0,k1,k2,_⟩:=h.at_ hj;rw [jws (by omega),Nat.zero_add];rw [if_pos hj] at k2;exact ⟨k0,k1,k2⟩
end

section
variable {w:World} {A:Option Addr} {n c:Nat} {ls:List Bd} {a t:List UInt8} {mass:Int}
theorem jwF {k:Nat} (h:jwI ls n=0) (hlen:ls.length=n) (hl:∀l∈ls,l.1.length≤k+2∧l.2.1.length≤k+2∧l.2.2.length≤k+2):(0 < n∧n≤64)∧∀i,i < n→BdOk (k+2) (ls.getD i ([],[],[])) (numQ (ls.getD i ([],[],[])).1) (numQ (ls.getD i ([],[],[])).2.1) (numQ (ls.getD i ([],[],[])).2.2)∧(IsNum (ls.getD i ([],[],[])).1 (numQ (ls.getD i ([],[],[])).1)∧IsNum (ls.getD i ([],[],[])).2.1 (numQ (ls.getD i ([],[],[])).2.1)∧IsNum (ls.getD i ([],[],[])).2.2 (numQ (ls.getD i ([],[],[])).2.2))∧((numQ (ls.getD i ([],[],[])).1).den≤10^k∧(numQ (ls.getD i ([],[],[])).2.1).den≤10^k∧(numQ (ls.getD i ([],[],[])).2.2).den≤10^k):=by
 unfold jwI at h;by_cases h1:n=0
 ·rw [if_pos h1] at h;cases h
 rw [if_neg h1] at h;by_cases h2:64 < n
 ·rw [if_pos h2] at h;cases h
 rw [if_neg h2] at h;refine ⟨by omega,fun i hi=> ?_⟩;have e:=jdI h i (List.mem_range.2 hi);have hm:ls.getD i ([],[],[])∈ls:=by rw [List.getD_eq_getElem?_getD,List.getElem?_eq_getElem (by omega)];exact List.getElem_mem _
 have l:=hl _ hm;have o:=jxB e l (by omega)
 have n0:IsNum (ls.getD i ([],[],[])).1 (numQ (ls.getD i ([],[],[])).1)∧IsNum (ls.getD i ([],[],[])).2.1 (numQ (ls.getD i ([],[],[])).2.1)∧IsNum (ls.getD i ([],[],[])).2.2 (numQ (ls.getD i ([],[],[])).2.2):=by
  unfold bdE at e;by_cases h0:bdC (ls.getD i ([],[],[]))=0
  ·obtain ⟨z0,z1,z2⟩:=jwx h0;exact ⟨jjb z0,jjb z1,jjb z2⟩
  ·rw [if_neg h0] at e;exact absurd e h0
 exact ⟨o,n0,n0.1.dd l.1,n0.2.1.dd l.2.1,n0.2.2.dd l.2.2⟩
end

def adS (b:Bd):Bool:=decide (b.1.length≤12) && decide (b.2.1.length≤12) && decide (b.2.2.length≤12)
structure AdG (mass:Int) (a t u:List UInt8) (ls:List Bd) (n:Nat):Prop where
 len:ls.length=n
 all:ls.all adS=true
 n6:n≤6
 la:a.length≤12
 lt:t.length≤12
 lu:u.length≤12
 bnd:jwI ls n=0
 w1:jhc mass a t=0
 w2:jhc mass a u=0
 c1:jwB ls (numQ a) (numQ t)=0
 c2:jwB ls (numQ a) (numQ u)=0
section
variable {w:World} {A:Option Addr} {n c:Nat} {ls:List Bd} {a t u:List UInt8} {mass:Int} {x y:Rat}
theorem jxc {v:List UInt8} (hl:ls.length=n) (h:jwI ls n=0) (hv:chk v=0) (h0:0≤numQ v):jwI (jwv v ls) n=0:=by
 have hall:=fun i hi=>jdI (f:=bdE ls) (l:=List.range n) (by
  unfold jwI at h;by_cases h1:n=0
  ·rw [if_pos h1] at h;cases h
  rw [if_neg h1] at h;by_cases h2:64 < n
  ·rw [if_pos h2] at h;cases h
  rwa [if_neg h2] at h) i hi
 unfold jwI at h ⊢;by_cases h1:n=0
 ·rw [if_pos h1] at h;cases h
 rw [if_neg h1] at h ⊢;by_cases h2:64 < n
 ·rw [if_pos h2] at h;cases h
 rw [if_neg h2] at h ⊢
 have hz:∀l:List Nat,(∀i∈l,i < n)→jar (bdE (jwv v ls)) l=0:=by
  intro l
  induction l with
  | nil=>intro _;rfl
  | cons i r ih=>
    intro hr;have hi:i < n:=hr i (List.mem_cons_self ..);have e:=hall i (List.mem_range.2 hi);rw [jf3]
    ·exact ih fun j hj=>hr j (List.mem_cons_of_mem _ hj)
    ·unfold bdE at e ⊢;by_cases e0:bdC (ls.getD i ([],[],[]))=0
     ·rw [if_pos e0] at e;obtain ⟨z0,z1,z2⟩:=jwx e0;by_cases e1:bdR (ls.getD i ([],[],[]))=0
      ·rw [if_pos e1] at e
       have g0:bdC ((jwv v ls).getD i ([],[],[]))=0:=by
        rw [jws (by omega)];unfold bdC;rw [jf3 z0,jf3 z1,jf3 hv];rfl
       have g1:bdR ((jwv v ls).getD i ([],[],[]))=0:=by
        rw [jws (by omega)];unfold bdR at e1 ⊢;dsimp only;rw [if_neg];intro q;have e2:¬(numQ (ls.getD i ([],[],[])).1 < 0∨numQ (ls.getD i ([],[],[])).2.1≤numQ (ls.getD i ([],[],[])).1∨100≤numQ (ls.getD i ([],[],[])).2.1∨numQ (ls.getD i ([],[],[])).2.2 < 0):=fun e=>by rw [if_pos e] at e1;cases e1
        rcases q with q|q|q|q
        ·exact e2 (.inl q)
        ·exact e2 (.inr (.inl q))
        ·exact e2 (.inr (.inr (.inl q)))
        ·exact Rat.not_lt.2 h0 q
       rw [if_pos g0,if_pos g1];unfold bdO at e ⊢;rw [jws (by omega)];by_cases hi0:0 < i
       ·rw [jws (by omega)];exact e
       ·rw [if_neg (fun q=>hi0 q.1)]
      ·rw [if_neg e1] at e;exact absurd e e1
     ·rw [if_neg e0] at e;exact absurd e e0
 exact hz _ fun i hi=>List.mem_range.1 hi
theorem jwu (hE:Env w) (h:Bv w A n ls) (hn:n≤6) (hl:∀l∈ls,l.1.length≤30∧l.2.1.length≤30∧l.2.2.length≤30) (h1:jwI ls n=0) (hk:jhc mass a t=0) (hxx:numQ a=x) (hyy:numQ t=y) (hc:jwB ls x y=0) (hla:a.length < 4294967281) (hlb:t.length < 4294967281)
  (dx:Dz 60 x) (dy:Dz 60 y) (ex:x.den≤10^28) (ey:y.den≤10^28):
  (Calls prog 9 #[.slice A n c, .int .i64 mass,bs a,bs t] w fun e w'=>e= .returned (.tuple #[bs (tq (enS mass x y ls n)), .int .i64 0])∧Below w.heap.size w w')∧Dz 3000 (enS mass x y ls n)∧je3 (enS mass x y ls n)=false:=by
 obtain ⟨⟨n0,_⟩,hall⟩:=jwF (k:=28) h1 h.len hl;obtain ⟨⟨m1,m2⟩,hx,hy,_⟩:=jcg hk;rw [hxx] at hx;rw [hyy] at hy;have hB:=fun i hi=>(hall i hi).1
 have hD:=jwU m1 m2 dx dy hx.high hB;have hg:=jx9 hn m1 m2 hx.low hx.high hy.low ex ey hB (fun i hi=>(hall i hi).2.2);refine ⟨jwJ (k:=60) (K:=3000) hE h hn n0 (fun l hm=>by have:=hl l hm;omega) h1 hla hlb hk hxx hyy hc hB (fun i hi=>(hall i hi).2.1) dx dy (by omega) (fun i hi=>(hD i hi).mono ?_) (by omega) hg,(hD n (Nat.le_refl _)).mono ?_,hg⟩
 ·have:(4*60+201)*i≤(4*60+201)*6:=Nat.mul_le_mul_left _ (by omega);omega
 ·have:(4*60+201)*n≤(4*60+201)*6:=Nat.mul_le_mul_left _ (by omega);omega
structure AdM (mass N:Int) (x y z m:Rat) (ls:List Bd) (t:List UInt8):Prop where
 ceil:Ceil mass N x z
 meq:100 - (mass:Rat)*(100 - x) / (N:Rat)=m
 one:Once mass N x z m
 n1:1≤N
 n2:N≤999999999
 mo:IsMoist (tq m) m
 dz:Dz 60 m
 den:m.den≤10^28
 len:(tq m).length≤200
theorem AdG.mid (G:AdG mass a t u ls n):AdM mass (crN mass (numQ a) (numQ u)) (numQ a) (numQ t) (numQ u) (crX mass (numQ a) (numQ u)) ls t:=by
 obtain ⟨⟨m1,m2⟩,hx,hz,hzx⟩:=jcg G.w2;have hc:Ceil mass (crN mass (numQ a) (numQ u)) (numQ a) (numQ u):=⟨rfl,m1,m2,hx.high,hzx⟩;obtain ⟨c1,c2⟩:=hc.le;have ho:=hc.once (z:=crX mass (numQ a) (numQ u)) rfl
 have hN0:((crN mass (numQ a) (numQ u):Int):Rat)≠0:=by
  intro e;have:crN mass (numQ a) (numQ u)=0:=by exact_mod_cast e
  omega
 have dx:=hx.num.dzl G.la (by omega);have dm:Dz 60 (crX mass (numQ a) (numQ u)):=(jc9.sub (((dzm m1 m2).mul (jc9.sub dx)).div (dzm c1 (by omega)) hN0)).mono (by omega);have ex:(numQ a).den≤10^10:=hx.num.dd (k:=10) G.la
 have eN:(((crN mass (numQ a) (numQ u):Int):Rat)⁻¹).den≤10^9:=by
  rw [Rat.inv_def,Rat.num_intCast,Rat.den_intCast,show (crN mass (numQ a) (numQ u))=((((crN mass (numQ a) (numQ u)).natAbs:Nat):Int)) by omega];exact Nat.le_trans (jhY (by omega)).2 (by omega)
 have em:(crX mass (numQ a) (numQ u)).den≤10^28:=by
  have h1:=jwH (x:=(mass:Rat)) (k:=0) (by rw [Rat.den_intCast];exact Nat.le_refl _) (jwC (x:=100) (k:=0) (by decide+kernel) ex);have h2:=jwC (x:=100) (k:=0) (by decide+kernel) (jwH h1 eN);unfold crX;rw [Rat.div_def];exact Nat.le_trans h2 (jbM (by omega))
 have hnum:IsNum (tq (crX mass (numQ a) (numQ u))) (crX mass (numQ a) (numQ u)):=⟨rfl,Nat.le_trans (jb0 dm.num (by omega)) (by omega),Nat.le_trans (jb0 dm.den (by omega)) (by omega)⟩;exact ⟨hc,rfl,ho,c1,by omega,⟨hnum,Rat.le_trans hz.low ho.low,by have:=ho.high;have:=hx.high;grind⟩,dm,em,Nat.le_trans (jur dm (by omega)) (by omega)⟩
theorem jx5 {mass:Int} {a b:List UInt8} {x y:Rat} (h1:1≤mass) (h2:mass≤999999999) (hx:IsMoist a x) (hy:IsMoist b y) (h:y≤x):jhc mass a b=0:=by
 unfold jhc jlB;rw [jxb h1 h2,if_pos rfl,jxn hx,if_pos rfl,jxn hy,if_pos rfl,hx.num.numQ,hy.num.numQ,if_neg (Rat.not_lt.2 h)]
theorem jxF {x x' y y':Rat} (hc:jwB ls x y=0) (hd:jwB ls x' y'=0):jwB ls x y'=0∧∀z,z≤x→y'≤z→jwB ls z y=0∧jwB ls x z=0:=by
 unfold jwB at hc hd ⊢;have g:∀{p:Prop} [Decidable p],(if p then (3:Int) else 0)=0→¬p:=fun h q=>by rw [if_pos q] at h;cases h
 have g1:=g hc;have g2:=g hd;rw [not_or] at g1 g2;refine ⟨if_neg (not_or.2 ⟨g1.1,g2.2⟩),fun z hz hy=>⟨if_neg (not_or.2 ⟨fun q=>g1.1 (by grind),g1.2⟩),if_neg (not_or.2 ⟨g1.1,fun q=>g2.2 (by grind)⟩)⟩⟩
theorem jwN {k:Nat} {x:Rat} (h:Dz k x) (h0:0 < k) (hk:k≤600):je3 x=false:=by
 unfold je3 lng;have a1:=jb0 h.num h0;have a2:=jb0 h.den h0;rw [Int.natAbs_natCast,decide_eq_false (by omega),decide_eq_false (by omega)];rfl
theorem jwt {x:Rat} (h:je3 x=false):IsNum (tq x) x:=by
 unfold je3 lng at h;rw [Bool.or_eq_false_iff,decide_eq_false_iff_not,decide_eq_false_iff_not,Int.natAbs_natCast] at h;exact ⟨rfl,by omega,by omega⟩
theorem jwO {x:Rat} (h:je3 x=false):jcF x=tq x∧jbq x=0:=⟨by unfold jcF;rw [h];rfl,by unfold jbq;rw [h];rfl⟩
theorem jxj {v:List UInt8} (h:jwB ls x y=0) (h0:0 < ls.length):jwB (jwv v ls) x y=0:=by
 unfold jwB at h ⊢;rw [show (jwv v ls).length=ls.length by simp [jwv],jws (by omega),jws h0];exact h
theorem jxe {v:List UInt8} {k:Nat} (h:∀l∈ls,l.1.length≤k∧l.2.1.length≤k∧l.2.2.length≤k) (hv:v.length≤k):∀l∈jwv v ls,l.1.length≤k∧l.2.1.length≤k∧l.2.2.length≤k:=by
 intro l hl;unfold jwv at hl;obtain ⟨b,hb,rfl⟩:=List.mem_map.1 hl;obtain ⟨h1,h2,_⟩:=h b hb;exact ⟨h1,h2,hv⟩
theorem jxI (h:jwI ls n=0) (hlen:ls.length=n) (hl:∀l∈ls,l.1.length≤30∧l.2.1.length≤30∧l.2.2.length≤30):(∀i,i < n→numQ (ls.getD i ([],[],[])).1≤numQ (ls.getD i ([],[],[])).2.1)∧∀i,0 < i→i < n→numQ (ls.getD i ([],[],[])).1=numQ (ls.getD (i - 1) ([],[],[])).2.1:=by
 obtain ⟨⟨n0,n1⟩,hall⟩:=jwF (k:=28) h hlen hl;refine ⟨fun i hi=>Rat.le_of_lt (hall i hi).1.pq,fun i h0 hi=> ?_⟩
 have e:=jdI (f:=bdE ls) (l:=List.range n) (by
  unfold jwI at h
  rwa [if_neg (by omega),if_neg (by omega)] at h) i (List.mem_range.2 hi)
 unfold bdE at e;by_cases e0:bdC (ls.getD i ([],[],[]))=0
 ·rw [if_pos e0] at e;by_cases e1:bdR (ls.getD i ([],[],[]))=0
  ·rw [if_pos e1] at e;unfold bdO at e;by_cases e2:(ls.getD (i - 1) ([],[],[])).2.1=(ls.getD i ([],[],[])).1
   ·rw [e2]
   ·rw [if_pos ⟨h0,e2⟩] at e;cases e
  ·rw [if_neg e1] at e;exact absurd e e1
 ·rw [if_neg e0] at e;exact absurd e e0
end

section
variable {w:World} {A:Option Addr} {n c:Nat} {ls:List Bd} {a t u:List UInt8} {mass:Int}
set_option maxHeartbeats 32000000 in
theorem jwW (hE:Env w) (h:Bv w A n ls) (hn:n < 9223372036854775808):
  Calls prog 3 #[.slice A n c, .agg #[.int .i64 mass,bs a,bs t],bs u] w fun e w'=>e= .returned (.bool true)∧Below w.heap.size w w':=by
 have HA:=qh (fun W (hb:Below w.heap.size w W)=>hE.awake6 hb);have HE:=qh hE;have H:=qh h;have HN:=qh hn;clear hE h hn;go_enter func3,ntmps3;go_wp2
 go_loopw [26] (fun u wr=>∃(i:Nat),u= .int .i64 (i:Int)∧i≤n∧Below w.heap.size w wr∧(∀j,j < i→adS (ls.getD j ([],[],[]))=true)∧wr.cell? ⟨w.heap.size,0,none⟩=some (.int .i64 mass)∧wr.cell? ⟨w.heap.size,1,none⟩=some (bs a)∧wr.cell? ⟨w.heap.size,2,none⟩=some (bs t)) (fun u _=>n - (intOf u).toNat)
 case atStart=>exact ⟨0,rfl,Nat.zero_le _,bi,fun j hj=>by omega,by simp [go_sem],by simp [go_sem],by simp [go_sem]⟩
 case round=>
  obtain ⟨i,rfl,hin,hb,hj,v0,v1,v2⟩:=hrel;have _:=bm hb;have hnn:=HN.o;have vz:w.heap.size < wr.heap.size:=World.block_lt_of_cell? wr _ v0;by_cases hi:i < n
  ·have q0:decide ((i:Int) < (n:Int))=true:=by simp;exact hi
   have q9:decide (i < n)=true:=by simpa using hi
   obtain ⟨b,o,rfl,hbl,hcell⟩:=(H.o.below hb).at_ (by omega);obtain ⟨y0,y1,y2⟩:=hcell i hi;obtain ⟨⟨x0,x1,x2⟩,hx⟩:∃x,ls.getD i ([],[],[])=x:=⟨_,rfl⟩;rw [hx] at y0 y1 y2;dsimp only at y0 y1 y2;obtain ⟨f0,p0⟩:∃f,decide ((12:Int) < (x0.length:Int))=f:=⟨_,rfl⟩;obtain ⟨f1,p1⟩:∃f,decide ((12:Int) < (x1.length:Int))=f:=⟨_,rfl⟩;obtain ⟨f2,p2⟩:∃f,decide ((12:Int) < (x2.length:Int))=f:=⟨_,rfl⟩;have HI:=qh hi;have HJ:=qh hj;have HX:=qh hx;clear hj hx hcell;cases f0 with
   | true=>
     go_wp2_with (go_at_call 4;(with_reducible refine mo0 (HA.o _ (ja0 hb bi)) fun w1 hb1 hc1 hf1 _=> ?_))
     go_ret;exact ⟨rfl,ja0 hb bi⟩
   | false=>
     cases f1 with
     | true=>
       go_wp2_with (go_at_call 4;(with_reducible refine mo0 (HA.o _ (ja0 hb bi)) fun w1 hb1 hc1 hf1 _=> ?_))
       go_ret;exact ⟨rfl,ja0 hb bi⟩
     | false=>
       cases f2 with
       | true=>
         go_wp2_with (go_at_call 4;(with_reducible refine mo0 (HA.o _ (ja0 hb bi)) fun w1 hb1 hc1 hf1 _=> ?_))
         go_ret;exact ⟨rfl,ja0 hb bi⟩
       | false=>
         have HS:Hd (adS (x0,x1,x2)=true):=qh (by
          rw [decide_eq_false_iff_not] at p0 p1 p2;unfold adS;dsimp only
          rw [decide_eq_true (by omega),decide_eq_true (by omega),decide_eq_true (by omega)];rfl)
         go_wp2;have b1:Below wr.heap.size wr (wr.alloc (.cells #[bs x0,bs x1,bs x2] 27)):=bi
         exact ⟨⟨i+1,by simp,HI.o,ja0 hb b1,fun j hj=>by
          rcases Nat.lt_or_ge j i with q|q
          ·exact HJ.o j q
          ·obtain rfl:j=i:=by omega
           rw [HX.o];exact HS.o,ja9 b1 v0,ja9 b1 v1,ja9 b1 v2⟩,by have:=HI.o;simp [intOf];omega⟩
  ·have q0:decide (i < n)=false:=by simp;omega
   have hall:ls.all adS=true:=List.all_eq_true.2 fun x hx=>by
    obtain ⟨j,hj2,rfl⟩:=List.getElem_of_mem hx;have:=hj j (by rw [H.o.len] at hj2;omega);rwa [List.getD_eq_getElem?_getD,List.getElem?_eq_getElem hj2] at this
   have hl:∀l∈ls,l.1.length≤12∧l.2.1.length≤12∧l.2.2.length≤12:=fun l hm=>by
    have:=List.all_eq_true.1 hall l hm;unfold adS at this;simpa [and_assoc] using this
   have HAL:=qh (And.intro hall hl);have HB:=qh hb;have HR:=qh (H.o.below hb);have HV:=qh (And.intro v0 (And.intro v1 v2));have _:Sl w.heap.size wr.heap.size:=⟨vz⟩;clear hi hin hj hall hl;go_upto_region 7 with (fail)
   go_cut [108] (fun v wx=>∃f,v= .bool f∧(f=false→AdG mass a t u ls n)∧Below wr.heap.size wr wx)
   case first=>
    -- FAST
    obtain ⟨hall,hl⟩:=HAL.o;have hlen:=H.o.len;have HAL2:=qh hall;by_cases c1:6 < n
    ·have p1:decide ((6:Int) < (n:Int))=true:=by rw [decide_eq_true_iff];omega
     clear c1 hl hall;go_wp2;go_meet;exact ⟨true,rfl,fun h=>(by cases h),bi⟩
    have p1:decide ((6:Int) < (n:Int))=false:=by rw [decide_eq_false_iff_not];omega
    by_cases c2:12 < a.length
    ·have p2:decide ((12:Int) < (a.length:Int))=true:=by rw [decide_eq_true_iff];omega
     clear c1 c2 hl hall;go_wp2;go_meet;exact ⟨true,rfl,fun h=>(by cases h),bi⟩
    have p2:decide ((12:Int) < (a.length:Int))=false:=by rw [decide_eq_false_iff_not];omega
    by_cases c3:12 < t.length
    ·have p3:decide ((12:Int) < (t.length:Int))=true:=by rw [decide_eq_true_iff];omega
     clear c1 c2 c3 hl hall;go_wp2;go_meet;exact ⟨true,rfl,fun h=>(by cases h),bi⟩
    have p3:decide ((12:Int) < (t.length:Int))=false:=by rw [decide_eq_false_iff_not];omega
    by_cases c4:12 < u.length
    ·have p4:decide ((12:Int) < (u.length:Int))=true:=by rw [decide_eq_true_iff];omega
     clear c1 c2 c3 c4 hl hall;go_wp2;go_meet;exact ⟨true,rfl,fun h=>(by cases h),bi⟩
    have p4:decide ((12:Int) < (u.length:Int))=false:=by rw [decide_eq_false_iff_not];omega
    have hl30:∀l∈ls,l.1.length≤30∧l.2.1.length≤30∧l.2.2.length≤30:=fun l hm=>by have:=hl l hm;omega
    obtain ⟨D,hD⟩:∃K,jwI ls n=K:=⟨_,rfl⟩;obtain ⟨Y,hY⟩:∃K,jhc mass a t=K:=⟨_,rfl⟩;obtain ⟨Z,hZ⟩:∃K,jhc mass a u=K:=⟨_,rfl⟩;obtain ⟨C,hC⟩:∃K,jwB ls (numQ a) (numQ t)=K:=⟨_,rfl⟩;obtain ⟨E,hEE⟩:∃K,jwB ls (numQ a) (numQ u)=K:=⟨_,rfl⟩;have HRB:=qh (fun W (h:Below wr.heap.size wr W)=>jx4 (c:=c) (HR.o.below h) (by omega) hl30 hD);have HW1:=qh (fun W=>jj0 (w:=W) hY (by omega) (by omega));have HW2:=qh (fun W=>jj0 (w:=W) hZ (by omega) (by omega));by_cases d0:D=0
    rotate_left
    ·have q1:(D != 0)=true:=by rw [bne_iff_ne];exact d0
     clear c1 c2 c3 c4 hl hall hl30 hD hY hZ hC hEE d0;go_wp2_with ((go_at_call 5;(with_reducible refine mo0 (HRB.o _ bi) fun w1 hb1 hc1 hf1 _=> ?_));have y1_0:=zlt (w.heap.size) hb1)
     go_meet;exact ⟨true,rfl,fun h=>(by cases h),bi⟩
    subst d0;by_cases d1:Y=0
    rotate_left
    ·have q1:(Y != 0)=true:=by rw [bne_iff_ne];exact d1
     clear c1 c2 c3 c4 hl hall hl30 hD hY hZ hC hEE d1;go_wp2_with (first|((go_at_call 5;(with_reducible refine mo0 (HRB.o _ bi) fun w1 hb1 hc1 hf1 _=> ?_));have y1_0:=zlt (w.heap.size) hb1)|((go_at_call 6;(with_reducible show Calls _ _ #[.int .i64 mass,bs a,bs t] _ _);(with_reducible refine mo0 (HW1.o _) fun w2 hb2 hc2 hf2 _=> ?_));have y2_0:=zlt (w.heap.size) hb2))
     go_meet;exact ⟨true,rfl,fun h=>(by cases h),bi⟩
    subst d1;by_cases d2:Z=0
    rotate_left
    ·have q1:(Z != 0)=true:=by rw [bne_iff_ne];exact d2
     clear c1 c2 c3 c4 hl hall hl30 hD hY hZ hC hEE d2;go_wp2_with (first|((go_at_call 5;(with_reducible refine mo0 (HRB.o _ bi) fun w1 hb1 hc1 hf1 _=> ?_));have y1_0:=zlt (w.heap.size) hb1)|((go_at_call 6;(with_reducible show Calls _ _ #[.int .i64 mass,bs a,bs t] _ _);(with_reducible refine mo0 (HW1.o _) fun w2 hb2 hc2 hf2 _=> ?_));have y2_0:=zlt (w.heap.size) hb2)|((go_at_call 6;(with_reducible show Calls _ _ #[.int .i64 mass,bs a,bs u] _ _);(with_reducible refine mo0 (HW2.o _) fun w3 hb3 hc3 hf3 _=> ?_));have y3_0:=zlt (w.heap.size) hb3))
     go_meet;exact ⟨true,rfl,fun h=>(by cases h),bi⟩
    subst d2;obtain ⟨⟨n0,_⟩,hB⟩:=jwF (k:=28) hD hlen hl30;obtain ⟨_,hx,hy,_⟩:=jcg hY;obtain ⟨_,_,hz,_⟩:=jcg hZ
    have HC1:=qh (fun W (h:Below wr.heap.size wr W)=>by
     have:=jwD (c:=c) (HR.o.below h) n0 (by omega) (fun i hi=>(hB i hi).1) (hx.num.dzl (show a.length≤30 by omega) (by omega)) (hy.num.dzl (show t.length≤30 by omega) (by omega)) (by omega) (by omega) hC
     rwa [←hx.num.eq,←hy.num.eq] at this)
    have HC2:=qh (fun W (h:Below wr.heap.size wr W)=>by
     have:=jwD (c:=c) (HR.o.below h) n0 (by omega) (fun i hi=>(hB i hi).1) (hx.num.dzl (show a.length≤30 by omega) (by omega)) (hz.num.dzl (show u.length≤30 by omega) (by omega)) (by omega) (by omega) hEE
     rwa [←hx.num.eq,←hz.num.eq] at this)
    by_cases d3:C=0
    rotate_left
    ·have q1:(C != 0)=true:=by rw [bne_iff_ne];exact d3
     clear c1 c2 c3 c4 hl hall hl30 hD hY hZ hC hEE d3 hB hx hy hz;go_wp2_with (first|((go_at_call 5;(with_reducible refine mo0 (HRB.o _ bi) fun w1 hb1 hc1 hf1 _=> ?_));have y1_0:=zlt (w.heap.size) hb1)|((go_at_call 6;(with_reducible show Calls _ _ #[.int .i64 mass,bs a,bs t] _ _);(with_reducible refine mo0 (HW1.o _) fun w2 hb2 hc2 hf2 _=> ?_));have y2_0:=zlt (w.heap.size) hb2)|((go_at_call 6;(with_reducible show Calls _ _ #[.int .i64 mass,bs a,bs u] _ _);(with_reducible refine mo0 (HW2.o _) fun w3 hb3 hc3 hf3 _=> ?_));have y3_0:=zlt (w.heap.size) hb3)|((go_at_call 7;(with_reducible show Calls _ _ #[.slice A n c,bs a,bs t] _ _);(with_reducible refine mo0 (HC1.o _ bi) fun w4 hb4 hc4 hf4 _=> ?_));have y4_0:=zlt (w.heap.size) hb4))
     go_meet;exact ⟨true,rfl,fun h=>(by cases h),bi⟩
    subst d3;by_cases d4:E=0
    rotate_left
    ·have q1:(E != 0)=true:=by rw [bne_iff_ne];exact d4
     clear c1 c2 c3 c4 hl hall hl30 hD hY hZ hC hEE d4 hB hx hy hz;go_wp2_with (first|((go_at_call 5;(with_reducible refine mo0 (HRB.o _ bi) fun w1 hb1 hc1 hf1 _=> ?_));have y1_0:=zlt (w.heap.size) hb1)|((go_at_call 6;(with_reducible show Calls _ _ #[.int .i64 mass,bs a,bs t] _ _);(with_reducible refine mo0 (HW1.o _) fun w2 hb2 hc2 hf2 _=> ?_));have y2_0:=zlt (w.heap.size) hb2)|((go_at_call 6;(with_reducible show Calls _ _ #[.int .i64 mass,bs a,bs u] _ _);(with_reducible refine mo0 (HW2.o _) fun w3 hb3 hc3 hf3 _=> ?_));have y3_0:=zlt (w.heap.size) hb3)|((go_at_call 7;(with_reducible show Calls _ _ #[.slice A n c,bs a,bs t] _ _);(with_reducible refine mo0 (HC1.o _ bi) fun w4 hb4 hc4 hf4 _=> ?_));have y4_0:=zlt (w.heap.size) hb4)|((go_at_call 7;(with_reducible show Calls _ _ #[.slice A n c,bs a,bs u] _ _);(with_reducible refine mo0 (HC2.o _ bi) fun w5 hb5 hc5 hf5 _=> ?_));have y5_0:=zlt (w.heap.size) hb5))
     go_meet;exact ⟨true,rfl,fun h=>(by cases h),bi⟩
    subst d4;have HG:=qh (show AdG mass a t u ls n from ⟨hlen,hall,by omega,by omega,by omega,by omega,hD,hY,hZ,hC,hEE⟩);clear c1 c2 c3 c4 hl hall hl30 hD hY hZ hC hEE hB hx hy hz;go_wp2_with (first|((go_at_call 5;(with_reducible refine mo0 (HRB.o _ bi) fun w1 hb1 hc1 hf1 _=> ?_));have y1_0:=zlt (w.heap.size) hb1)|((go_at_call 6;(with_reducible show Calls _ _ #[.int .i64 mass,bs a,bs t] _ _);(with_reducible refine mo0 (HW1.o _) fun w2 hb2 hc2 hf2 _=> ?_));have y2_0:=zlt (w.heap.size) hb2)|((go_at_call 6;(with_reducible show Calls _ _ #[.int .i64 mass,bs a,bs u] _ _);(with_reducible refine mo0 (HW2.o _) fun w3 hb3 hc3 hf3 _=> ?_));have y3_0:=zlt (w.heap.size) hb3)|((go_at_call 7;(with_reducible show Calls _ _ #[.slice A n c,bs a,bs t] _ _);(with_reducible refine mo0 (HC1.o _ bi) fun w4 hb4 hc4 hf4 _=> ?_));have y4_0:=zlt (w.heap.size) hb4)|((go_at_call 7;(with_reducible show Calls _ _ #[.slice A n c,bs a,bs u] _ _);(with_reducible refine mo0 (HC2.o _ bi) fun w5 hb5 hc5 hf5 _=> ?_));have y5_0:=zlt (w.heap.size) hb5))
    go_meet;exact ⟨false,rfl,fun _=>HG.o,bi⟩
    -- SLOW
   case rest=>
    rename World=>wx
    obtain ⟨f,rfl,hG,bx⟩:=hcut;have hbb:=ja0 HB.o bx;obtain ⟨v0,v1,v2⟩:=HV.o;replace v0:=ja9 bx v0;replace v1:=ja9 bx v1;replace v2:=ja9 bx v2;have vz:=World.block_lt_of_cell? wx _ v0;dsimp only at vz;have _:Sl w.heap.size wx.heap.size:=⟨vz⟩;have HBX:=qh hbb;clear hnn q0 HR HB HV bx;cases f with
    | true=>
      clear hG;go_wp2_with (go_at_call 4;(with_reducible refine mo0 (HA.o _ (ja0 HBX.o bi)) fun w1 hb1 hc1 hf1 _=> ?_))
      go_ret;exact ⟨rfl,ja0 HBX.o bi⟩
    | false=>
      have G:=hG rfl;clear hG;have M:=G.mid;obtain ⟨_,hl12⟩:=HAL.o;have hl30:∀l∈ls,l.1.length≤30∧l.2.1.length≤30∧l.2.2.length≤30:=fun l hm=>by have:=hl12 l hm;omega
      obtain ⟨⟨m1,m2⟩,hx,hy,hyx⟩:=jcg G.w1;obtain ⟨_,_,hz,hzx⟩:=jcg G.w2;obtain ⟨⟨n0,_⟩,_⟩:=jwF (k:=28) G.bnd G.len hl30;obtain ⟨hpq,hcc⟩:=jxI G.bnd G.len hl30;have dx:=hx.num.dzl (k:=12) G.la (by omega);have dy:=hy.num.dzl (k:=12) G.lt (by omega);have ex:(numQ a).den≤10^28:=Nat.le_trans (hx.num.dd (k:=10) G.la) (jbM (by omega));have ey:(numQ t).den≤10^28:=Nat.le_trans (hy.num.dd (k:=10) G.lt) (jbM (by omega));have la:=G.la;have lt:=G.lt;have lu:=G.lu;have n6:=G.n6;obtain ⟨N,hNN⟩:∃N,crN mass (numQ a) (numQ u)=N:=⟨_,rfl⟩;obtain ⟨m,hmm⟩:∃m,crX mass (numQ a) (numQ u)=m:=⟨_,rfl⟩;rw [hNN,hmm] at M;have gm:=jwO (jwN M.dz (by omega) (by omega));have lm:=M.len;have n1:=M.n1;have n2:=M.n2;have hmo:=M.mo;have HDR:=qh (fun W (h:Below wx.heap.size wx W)=>jtk (HE.o.below (ja0 hbb h)) (by omega) (by omega) G.w2 M.ceil M.meq (M.dz.strQ (by omega)) gm.1 gm.2 (rn:=N) rfl);have HW3:=qh (fun W=>jj0 (w:=W) (jx5 n1 n2 hmo hmo Rat.le_refl) (by omega) (by omega));obtain ⟨S,hS⟩:∃S,(mass:Rat)*(numQ a - numQ t) / (100 - numQ t)=S:=⟨_,rfl⟩;have ny:(100:Rat) - numQ t≠0:=by have:=hy.high;grind
      have dS:Dz 60 S:=hS ▸ (((dzm m1 m2).mul (dx.sub dy)).div (jc9.sub dy) ny).mono (by omega);have gS:=jwO (jwN dS (by omega) (by omega));have HSH:=qh (fun W (h:Below wx.heap.size wx W)=>jni (HE.o.below (ja0 hbb h)) (by omega) (by omega) G.w1 hS (dS.strQ (by omega)) gS.1 gS.2);have HCK:=qh (fun W=>jpl (w:=W) (l:=tq S) (k:=0) (jjL.2 ⟨S,jwt (jwN dS (by omega) (by omega))⟩) (Nat.le_trans (jur dS (by omega)) (by omega)));have d7:Dz 1 ((7:Rat) / 2):=⟨by decide+kernel,by decide+kernel⟩;have e7:tq ((7:Rat) / 2)=[55,47,50]:=by decide+kernel
      have i7:IsNum [55,47,50] ((7:Rat) / 2):=e7 ▸ jwt (jwN d7 (by omega) (by omega));have HMU:=qh (fun W=>jka (w:=W) d7 dS (by omega) (by omega) (by omega) (by omega));have hfl:=jxg (mass:=mass) (t:=[55,47,50]) G.len n0 hyx hx.high hpq hcc G.c1;rw [hS,i7.numQ] at hfl;have HFE:=qh (fun W (h:Below wx.heap.size wx W) (g cp:Nat) (hf:FlatI W g n n [55,47,50] ls)=>(jwu (c:=cp) (HE.o.below (ja0 hbb h)) (hf.bv G.len) n6 (jxe hl30 (by simp)) (jxc G.len G.bnd (jjL.2 ⟨_,i7⟩) (by rw [i7.numQ];decide+kernel)) G.w1 rfl rfl (jxj G.c1 (by rw [G.len];exact n0)) (by omega) (by omega) (dx.mono (by omega)) (dy.mono (by omega)) ex ey).1);rw [hfl] at HFE;obtain ⟨j,hj⟩:∃j,Rq.cmpQ (numQ t) m=j:=⟨_,rfl⟩;have HCM:=qh (fun W=>jko (w:=W) hj dy M.dz (by omega) (by omega) (by omega) (by omega));rw [←hy.num.eq] at HCM;obtain ⟨TM,hTM⟩:∃X,tq m=X:=⟨_,rfl⟩;obtain ⟨TS,hTS⟩:∃X,tq S=X:=⟨_,rfl⟩;obtain ⟨TH,hTH⟩:∃X,tq ((7:Rat) / 2*S)=X:=⟨_,rfl⟩;unfold QP at HMU;rw [hTM] at HDR;rw [hTM] at HW3 HCM;rw [hTS] at HSH;rw [hTS] at HCK;rw [e7,hTS,hTH] at HMU;rw [hTH] at HFE;have HBV:=qh (fun W (h:Below wx.heap.size wx W)=>H.o.below (ja0 hbb h));have HLEN:=qh G.len;have HN0:=qh (And.intro n0 n6)
      have HJ:Hd (¬0 < j→∃T1 T2 T3:List UInt8,(∀W (h:Below wx.heap.size wx W),Calls prog 9 #[.slice A n c, .int .i64 mass,bs a,bs TM] W fun e w'=>e= .returned (.tuple #[bs T1, .int .i64 0])∧Below W.heap.size W w')∧(∀W (h:Below wx.heap.size wx W),Calls prog 9 #[.slice A n c, .int .i64 N,bs TM,bs t] W fun e w'=>e= .returned (.tuple #[bs T2, .int .i64 0])∧Below W.heap.size W w')∧(∀W (h:Below wx.heap.size wx W),Calls prog 9 #[.slice A n c, .int .i64 mass,bs a,bs t] W fun e w'=>e= .returned (.tuple #[bs T3, .int .i64 0])∧Below W.heap.size W w')∧(jar chk [T1,T2,T3]=0∧∀l∈ [T1,T2,T3],l.length≤15000)∧∀W,Calls prog 15 #[bs T1,bs T2] W fun e w'=>e= .returned (bs T3)∧Below W.heap.size W w'):=qh (fun hj0=>by
       have hym:numQ t≤m:=Rat.not_lt.1 fun q=>hj0 (hj ▸ Rq.cmp_pos.2 q)
       obtain ⟨g1,g2⟩:=(jxF G.c1 G.c2).2 m M.one.high M.one.low;have k1:=fun W (h:Below wx.heap.size wx W)=>jwu (c:=c) (HE.o.below (ja0 hbb h)) (HBV.o W h) n6 hl30 G.bnd (jx5 m1 m2 hx hmo M.one.high) rfl hmo.num.numQ g2 (by omega) (by omega) (dx.mono (by omega)) M.dz ex M.den
       have k2:=fun W (h:Below wx.heap.size wx W)=>jwu (c:=c) (HE.o.below (ja0 hbb h)) (HBV.o W h) n6 hl30 G.bnd (jx5 n1 n2 hmo hy hym) hmo.num.numQ rfl g1 (by omega) (by omega) M.dz (dy.mono (by omega)) M.den ey
       have k3:=fun W (h:Below wx.heap.size wx W)=>jwu (c:=c) (HE.o.below (ja0 hbb h)) (HBV.o W h) n6 hl30 G.bnd G.w1 rfl rfl G.c1 (by omega) (by omega) (dx.mono (by omega)) (dy.mono (by omega)) ex ey
       obtain ⟨_,a1,a2⟩:=k1 wx (Below.refl _ _);obtain ⟨_,b1,b2⟩:=k2 wx (Below.refl _ _);obtain ⟨_,c1,c2⟩:=k3 wx (Below.refl _ _);have e3:=jxw M.one.high hym M.one.back hpq;rw [hTM] at k1 k2;refine ⟨_,_,_,fun W h=>(k1 W h).1,fun W h=>(k2 W h).1,fun W h=>(k3 W h).1,⟨?_,fun l hl=> ?_⟩,fun W=> ?_⟩
       ·rw [jf3 (jjL.2 ⟨_,jwt a2⟩),jf3 (jjL.2 ⟨_,jwt b2⟩),jf3 (jjL.2 ⟨_,jwt c2⟩)];rfl
       ·rcases List.mem_cons.1 hl with rfl|hl
        ·exact Nat.le_trans (jur a1 (by omega)) (by omega)
        rcases List.mem_cons.1 hl with rfl|hl
        ·exact Nat.le_trans (jur b1 (by omega)) (by omega)
        rw [List.mem_singleton.1 hl];exact Nat.le_trans (jur c1 (by omega)) (by omega)
       ·have:=jto (w:=W) a1 b1 (by omega) (by omega) (by omega) (by omega);rw [e3] at this
        exact this)
      clear hl30 hl12 m1 m2 hx hy hyx hz hzx hpq hcc dx dy ex ey la lt lu G M hNN hmm gm lm n1 n2 hmo hS ny dS gS d7 e7 i7 hfl hj hTM hTS hTH hbb n0 n6;go_upto_region 12 with (first|((go_at_call 8;(with_reducible refine mo0 (HDR.o _ bi) fun w1 hb1 hc1 hf1 _=> ?_));have y1_0:=zlt (w.heap.size) hb1)|((go_at_call 6;(with_reducible refine mo0 (HW3.o _) fun w2 hb2 hc2 hf2 _=> ?_));have y2_0:=zlt (w.heap.size) hb2))
      have b2:Below wx.heap.size wx w2:=bi;have HB2:=qh b2;have HBV2:=qh (HBV.o w2 b2);replace v0:=ja9 b2 v0;replace v1:=ja9 b2 v1;replace v2:=ja9 b2 v2;obtain ⟨n0,n6⟩:=HN0.o;clear hc1 hc2 hf1 hf2 hb1 hb2 y1_0 y2_0 vz HDR HW3;have vz:=World.block_lt_of_cell? w2 _ v0;dsimp only at vz;go_upto_region 13 with (at_builtin;refine jww (n:=0) (m:=n) (N:=n) (ls:=[]) (ys:=ls) (base:=w2.heap.size) rfl _ _ rfl rfl rfl rfl (jxh w2) (by omega) (by omega) (by simp) (HBV2.o.below (bA bR)) n0 (by omega) ?_;intro A5 c5 w5 ho5 hg5)
      have b5:Below w2.heap.size w2 w5:=Below.trans (ja5 (Below.refl _ _) _) (jxH hg5 (by simp) (fun j hj=>by cases hj;exact Nat.le_refl _));obtain ⟨g,cs,rfl,hgb,hbk,hcs⟩:=jwT.blk ho5 (show ([]++ls).length=n by simpa using HLEN.o) n0;have hF0:FlatI w5 g n 0 [55,47,50] ls:=⟨cs,hbk,fun j hj=>by simpa using hcs j hj⟩;have HF0:=qh (And.intro b5 hF0);have HGB:=qh hgb;have HV:=qh (And.intro v0 (And.intro v1 v2));clear b2 b5 hgb hbk hcs hF0 ho5 hg5 v0 v1 v2 vz HBV2;go_wp2
      go_loopw [134] (fun u wr=>∃(i:Nat),u= .int .i64 (i:Int)∧i≤n∧Below w2.heap.size w2 wr∧FlatI wr g n i [55,47,50] ls) (fun u _=>n - (intOf u).toNat)
      case atStart=>exact ⟨0,rfl,Nat.zero_le _,HF0.o.1,HF0.o.2⟩
      case round=>
       obtain ⟨i,rfl,hin,hb,hF⟩:=hrel;have _:=bm hb;by_cases hi:i < n
       ·have q0:decide ((i:Int) < (n:Int))=true:=by simp;exact hi
        have q9:decide (i < n)=true:=by simpa using hi
        obtain ⟨z0,z1,z2,zf⟩:=hF.at_ hi;have HF:=qh hF;have HBB:=qh hb;clear hF hb z0 z1;go_wp2;exact ⟨⟨i+1,by simp,hi,bC HBB.o HGB.o,HF.o.set hi⟩,by simp [intOf];omega⟩
       ·have q0:decide (i < n)=false:=by simp;omega
        obtain rfl:i=n:=by omega
        rename World=>wf
        obtain ⟨v0,v1,v2⟩:=HV.o;replace v0:=ja9 hb v0;replace v1:=ja9 hb v1;replace v2:=ja9 hb v2;have vz:=World.block_lt_of_cell? wf _ v0;dsimp only at vz;have _:Sl w.heap.size wf.heap.size:=⟨vz⟩;have HFF:=qh hF;have HBF:=qh (ja0 HB2.o hb);have HBW:=qh (ja0 HBX.o (ja0 HB2.o hb));clear hi hin hF hb HV HF0;go_upto_region 22 with (first|((go_at_call 9;(with_reducible show Calls _ _ #[.slice (some ⟨g,0,none⟩) i c5, .int .i64 mass,bs a,bs t] _ _);(with_reducible refine mo0 (HFE.o _ HBF.o g c5 HFF.o) fun w6 hb6 hc6 hf6 _=> ?_));have y6_0:=zlt (w.heap.size) hb6)|((go_at_call 10;(with_reducible refine mo0 (HSH.o _ (ja0 HBF.o bi)) fun w7 hb7 hc7 hf7 _=> ?_));have y7_0:=zlt (w.heap.size) hb7)|((go_at_call 11;(with_reducible refine mo0 (HCK.o _) fun w8 hb8 hc8 hf8 _=> ?_));have y8_0:=zlt (w.heap.size) hb8)|((go_at_call 12;(with_reducible refine mo0 (HMU.o _) fun w9 hb9 hc9 hf9 _=> ?_));have y9_0:=zlt (w.heap.size) hb9))
        by_cases hj0:0 < j
        ·have q3:decide (0 < j)=true:=by rw [decide_eq_true_iff];exact hj0
         clear hj0;go_wp2_with (first|((go_at_call 13;(with_reducible refine mo0 (HCM.o _) fun w10 hb10 hc10 hf10 _=> ?_));have y10_0:=zlt (w.heap.size) hb10)|(go_at_call 4;(with_reducible refine mo0 (HA.o _ (ja0 HBW.o bi)) fun w11 hb11 hc11 hf11 _=> ?_)))
         go_ret;exact ⟨rfl,ja0 HBW.o bi⟩
        ·have q3:decide (0 < j)=false:=by rw [decide_eq_false_iff_not];exact hj0
         obtain ⟨T1,T2,T3,e1,e2,e3,⟨ec,el⟩,ea⟩:=HJ.o (Int.not_lt.1 hj0);have HE1:=qh e1;have HE2:=qh e2;have HE3:=qh e3;have HEC:=qh ec;have HEL:=qh el;have HAD:=qh ea;clear hj0 e1 e2 e3 ec el ea HJ;go_wp2_with (first|((go_at_call 13;(with_reducible refine mo0 (HCM.o _) fun w10 hb10 hc10 hf10 _=> ?_));have y10_0:=zlt (w.heap.size) hb10)|((go_at_call 9;(with_reducible refine mo0 (HE1.o _ (ja0 HBF.o bi)) fun w12 hb12 hc12 hf12 _=> ?_));have y12_0:=zlt (w.heap.size) hb12)|((go_at_call 9;(with_reducible refine mo0 (HE2.o _ (ja0 HBF.o bi)) fun w13 hb13 hc13 hf13 _=> ?_));have y13_0:=zlt (w.heap.size) hb13)|((go_at_call 9;(with_reducible refine mo0 (HE3.o _ (ja0 HBF.o bi)) fun w14 hb14 hc14 hf14 _=> ?_));have y14_0:=zlt (w.heap.size) hb14)|(go_at_call 14;(with_reducible refine mo1 w (jx1 (Sv.three _ _ T1 T2 T3) (by omega) HEL.o HEC.o) (by go_size) fun w15 hb15 hc15 hf15 z15_0 _=> ?_))|(go_at_call 15;(with_reducible refine mo0 (HAD.o _) fun w16 hb16 hc16 hf16 _=> ?_))|(go_at_call 4;(with_reducible refine mo0 (HA.o _ (ja0 HBW.o bi)) fun w17 hb17 hc17 hf17 _=> ?_)))
         go_ret;exact ⟨rfl,ja0 HBW.o bi⟩
end
end Go.Proofs.YtdjppepcckedkaaGreatDoor
namespace Go.Proofs.YtdjppepcckedkaaGreatDoor
open Go Go.ChangeShapes Go.WideShapes Go.ChangeAt Go.RowKit Go.Proofs.Tryz

theorem own:ownKnob prog.godebug=none:=by kernel_rfl
theorem jix:laidOutB prog=true:=by kernel_rfl
theorem jw6 : prog.globalNamed "internal/strconv.uint64pow10" = some 5 := by kernel_rfl
theorem jpM:(prog.globals[5]?).map (·.type)=some 298:=by kernel_rfl
theorem jq2:prog.cellsOf 298=20:=by kernel_rfl
theorem joE:prog.cellsOf 211=1:=by kernel_rfl
theorem laidMetH.plain {l:List (String×DataW Unit)} {W:World} (h:laidMetH prog l W) (hp:(l.all fun x=>x.2.handleName?.isNone)=true):laidMet prog l W:=by
 rw [MakeChecks.laidMetH_plain _ _ _ hp] at h;exact h
theorem jtM {W : World} {l : List (String × DataW Unit)} (h : laidMet prog (("internal/strconv.uint64pow10", Rows.laid_internal_strconv_uint64pow10) :: l) W) (hs : W.ShapedOpen prog) : Env W := by
 obtain ⟨m,hm⟩:=Go.Proofs.cell_of_shapedOpen_int (g:=0) (zero:= #[.int .i64 0]) (t:=3) hs (of_decide_eq_true (by kernel_rfl)) (by kernel_rfl) rfl (by kernel_rfl) (by kernel_rfl) underlying3;exact ⟨Lib.tabBelow_of_tabIs (Lib.tabIs_of_head (zs:=Lib.pow10Tab) jw6 jpM underlying298 underlying211 joE jq2 h),⟨m,hm⟩,World.block_lt_of_cell? W ⟨0,0,none⟩ hm⟩
end Go.Proofs.YtdjppepcckedkaaGreatDoor
namespace Go.Proofs.YtdjppepcckedkaaGreatDoor
open Go Go.ChangeShapes Go.WideShapes Go.ChangeAt Go.RowKit Go.ChangeMaps Go.Proofs.Tryz

theorem jmJ {H:Type} {enc:TypeId×Value→H} {W:World} {sp:Nat→Bool} {held:Bool} {r:Reach} {b0 base:Nat} {t:TypeId} {v:Value} {d:DataW H} {ps:List MemPlace} (ht:prog.underlying t=some .string) (hval:Value.okWide prog W r b0 t v) (hd:DataW.Trod enc prog W base sp held t v d ps):
  ∃a:List UInt8,v=bs a∧ps=[]:=by
 obtain ⟨s,rfl,_,rfl,_⟩:=open_string ht hval hd;exact ⟨s.data.toList,rfl,rfl⟩
end Go.Proofs.YtdjppepcckedkaaGreatDoor
namespace Go.Proofs.YtdjppepcckedkaaGreatDoor
open Go Go.ChangeShapes Go.WideShapes Go.ChangeAt Go.RowKit Go.Deep Go.Joins Go.Proofs.Tryz

theorem jwQ {H:Type} {enc:TypeId×Value→H} {W:World} {A:Option Addr} {n c fuel:Nat} {x:DataW H×List MemPlace} (h:DataW.trod enc prog W 0 (fun _=>true) true fuel 22 [.slice A n c]=some x):∃ls,Bv W A n ls∧n < 9223372036854775808:=by
 rcases Go.Deep.open_slice underlying22 h with ⟨hcs,_⟩|⟨a,len,cap,m,fu,D,Pl,hcs,_,hl,hm,hz,_,hx⟩
 ·simp at hcs;obtain ⟨rfl,rfl,rfl⟩:=hcs;exact ⟨[],⟨rfl,fun h=>by omega⟩,by omega⟩
 ·simp at hcs;obtain ⟨rfl,rfl,rfl⟩:=hcs;simp only [if_true] at hz;obtain ⟨b,off,spot⟩:=a;have hc:prog.cellsOf 27=3:=by kernel_rfl
  have hs:prog.cellsOf 23=1:=by kernel_rfl
  have hbig:n < 9223372036854775808:=by unfold maxLen at hm;omega
  obtain ⟨f0,f1,f2,hu,ht0,ht1,ht2,ho0,ho1,ho2⟩:∃f0 f1 f2:Field,prog.underlying 27=some (.struct #[f0,f1,f2])∧f0.type=23∧f1.type=23∧f2.type=23∧f0.offset=0∧f1.offset=1∧f2.offset=2:=⟨_,_,_,underlying27,rfl,rfl,rfl,rfl,rfl,rfl⟩;rcases Nat.eq_zero_or_pos n with h0|h0
  ·subst h0;exact ⟨[],⟨rfl,fun h=>by omega⟩,hbig⟩
  have hspot:spot=none:=by
   obtain ⟨cs',h1,_⟩:=hx 0 (by omega);rw [hc] at h1;obtain ⟨_,hlen,hcell⟩:=World.cells?_some h1
   match cs',hlen with
   | [v0,v1,v2],_=>
     have e0:=hcell 0 (by omega);simpa [Addr.add] using World.cell?_spot e0
  subst hspot;have ea:∀o i,(⟨b,o,none⟩:Addr).add i=⟨b,o+i,none⟩:=fun o i=>by unfold Addr.add;split <;> simp_all
  have each:∀i,i < n→∃y:Bd,b < W.heap.size∧W.cell? ⟨b,off+i*3,none⟩=some (bs y.1)∧W.cell? ⟨b,off+i*3+1,none⟩=some (bs y.2.1)∧W.cell? ⟨b,off+i*3+2,none⟩=some (bs y.2.2):=by
   intro i hin;obtain ⟨cs',h1,h2⟩:=hx i (by omega);rw [hc] at h1;obtain ⟨_,hlen,hcell⟩:=World.cells?_some h1
   obtain ⟨xs,k,hk,hxy,_,hxl,hf⟩:=DataW.trod_struct hu h2
   match xs,hxl,cs',hlen with
   | [y0,y1,y2],_,[v0,v1,v2],_=>
     have g0:=hf 0 f0 rfl;have g1:=hf 1 f1 rfl;have g2:=hf 2 f2 rfl;rw [ht0,hs,ho0] at g0;rw [ht1,hs,ho1] at g1;rw [ht2,hs,ho2] at g2;obtain ⟨s0,k0,_,_⟩:=DataW.trod_string underlying23 g0;obtain ⟨s1,k1,_,_⟩:=DataW.trod_string underlying23 g1;obtain ⟨s2,k2,_,_⟩:=DataW.trod_string underlying23 g2;simp at k0 k1 k2;subst k0 k1 k2;have e0:=hcell 0 (by omega);have e1:=hcell 1 (by omega);have e2:=hcell 2 (by omega);rw [ea,ea] at e0 e1 e2;simp only [Nat.add_zero] at e0;exact ⟨(s0.data.toList,s1.data.toList,s2.data.toList),World.block_lt_of_cell? W _ e0,by simpa using e0,by simpa using e1,by simpa using e2⟩
  have:Inhabited Bd:=⟨([],[],[])⟩;obtain ⟨f,hf⟩:=Go.Deep.choose_lt each;refine ⟨(List.range n).map f,⟨by simp,fun _=>⟨b,off,rfl,(hf 0 h0).1,fun j hj=> ?_⟩⟩,hbig⟩;rw [List.getD_eq_getElem?_getD,List.getElem?_map,List.getElem?_range hj,Option.map_some,Option.getD_some];exact (hf j hj).2
abbrev jxK (m:Int) (a b:List UInt8):Value:= .agg #[.int .i64 m,bs a,bs b]
theorem jxf {H:Type} {enc:TypeId×Value→H} {W:World} {sp:Nat→Bool} {held:Bool} {r:Reach} {b0 base:Nat} {v:Value} {d:DataW H} {ps:List MemPlace} (hval:Value.okWide prog W r b0 25 v) (hd:DataW.Trod enc prog W base sp held 25 v d ps):
  ∃(m:Int) (a b:List UInt8),v=jxK m a b∧ps=[]:=by
 have hc:prog.cellsOf 25=3:=by kernel_rfl
 obtain ⟨f0,f1,f2,hu,e0,e1,e2⟩:∃f0 f1 f2:Field,prog.underlying 25=some (.struct #[f0,f1,f2])∧f0.type=3∧f1.type=23∧f2.type=23:=⟨_,_,_,underlying25,rfl,rfl,rfl⟩
 have hone:oneCellFields prog #[f0,f1,f2]=true:=by
  have:(match prog.underlying 25 with|some (.struct fs)=>oneCellFields prog fs | _=>false)=true:=by kernel_rfl
  rw [hu] at this;exact this
 obtain ⟨v0,v1,v2,y0,y1,y2,n,rfl,_,hp,h0,h1,h2⟩:=open_agg3 hu hone hc hval hd;rw [e0] at h0;rw [e1] at h1;rw [e2] at h2;obtain ⟨z0,k0,x0,_⟩:=DataW.trod_int underlying3 h0;obtain ⟨z1,k1,x1,_⟩:=DataW.trod_string underlying23 h1;obtain ⟨z2,k2,x2,_⟩:=DataW.trod_string underlying23 h2;simp at k0 k1 k2;subst k0 k1 k2;exact ⟨z0,z1.data.toList,z2.data.toList,rfl,by rw [hp,x0,x1,x2];rfl⟩
end Go.Proofs.YtdjppepcckedkaaGreatDoor
namespace Go.Proofs.YtdjppepcckedkaaGreatDoor
open Go Go.ChangeShapes Go.WideShapes Go.ChangeAt Go.RowKit Go.Proofs.Tryz

theorem jxi (os:Os):laidMet prog Rows.dryAddsRow.laid ((World.laidAll prog os Rows.dryAddsRow.laid).forCall (fun _ _=>0) ⟨#[], #[.slice none 0 0, .agg #[.int .i64 0, .string ⟨#[]⟩, .string ⟨#[]⟩], .string ⟨#[]⟩],[]⟩).memory:=
 laidMet_laidAll _ (by kernel_rfl) (by kernel_rfl)
theorem jwS (os:Os) {H:Type} (enc:TypeId×Value→H):∃places,DataW.whole enc prog ((World.laidAll prog os Rows.dryAddsRow.laid).forCall (fun _ _=>0) ⟨#[], #[.slice none 0 0, .agg #[.int .i64 0, .string ⟨#[]⟩, .string ⟨#[]⟩], .string ⟨#[]⟩],[]⟩).memory Tryz.f3.params.toList Rows.dryAddsSpec.vars false #[Value.slice none 0 0, .agg #[.int .i64 0, .string ⟨#[]⟩, .string ⟨#[]⟩], .string ⟨#[]⟩].toList 8=some ([.nil, .agg [.lit (.int .i64 0), .lit (.string []), .lit (.string [])], .lit (.string [])],[],places):=
 ⟨[],by kernel_rfl⟩
theorem jwE (H:Type) (enc:TypeId×Value→H) (W:World) (base:Nat) (args:Array Value) (ds gs:List (DataW H)) (before:List MemPlace)
  (hval:∀(j:Nat) t v,Tryz.f3.params[j]? =some t→args[j]? =some v→Value.okWide prog W .any base t v)
  (hW:DataW.Whole enc prog Tryz.f3.params.toList Rows.dryAddsSpec.vars false W args.toList ds gs before) (hL:laidMetH prog Rows.dryAddsRow.laid W) (hS:W.ShapedOpen prog):
  Calls prog 3 args W fun e W'=>∃v,e= .returned v∧Rows.dryAddsSpec.post enc prog Tryz.f3 false true false false W args v W':=by
 have hE:Env W:=jtM (laidMetH.plain hL (by kernel_rfl)).tail.tail hS;have hW':=hW;obtain ⟨p,q,hA0,hV,rfl,hfz,hnd⟩:=hW;have hA:DataW.TrodAll enc prog W 0 (fun _=>true) true Tryz.f3.params.toList args.toList ds p:=hA0;rw [params3] at hA hval;obtain ⟨v0,v1,v2,d0,d1,d2,p0,p1,p2,rfl,rfl,rfl,h0,h1,h2⟩:=trodAll_three hA;obtain ⟨rfl,rfl⟩:=trodVars_none hV;obtain ⟨A0,n0,c0,rfl⟩:=okWide_slice underlying22 (hval 0 22 v0 rfl rfl);have h0k:=h0;obtain ⟨fuel0,hf0⟩:=h0;obtain ⟨m1,a1,b1,rfl,rfl⟩:=jxf (hval 1 25 v1 rfl rfl) h1;obtain ⟨a2,rfl,rfl⟩:=jmJ underlying23 (hval 2 23 v2 rfl rfl) h2;simp only [List.append_nil,List.nil_append] at hW';have hlt0:∀y∈p0,y.block < W.heap.size:=fun y hy=>by simpa using hW'.lt y (by simp [hy])
 obtain ⟨ls0,hv0,hc0⟩:=jwQ hf0;have walk:Calls prog 3 #[.slice A0 n0 c0,jxK m1 a1 b1,bs a2] W fun e w'=>e= .returned (.bool true)∧Below W.heap.size W w':=jwW hE hv0 hc0  
 refine walk.mono fun e W' ⟨he,hb⟩=> ?_
 subst he;exact ⟨_,rfl,_,_,_,[],p0,[],hW',trodAll_mk1 (shut_bool underlying4 _),(by have h:=trodAll_mk3 (p:=p0) (p':=[]) (p'':=[]) (Below.trod jix (by kernel_rfl) (of_decide_eq_true (by kernel_rfl)) h0k hb hlt0) (Below.trod jix (by kernel_rfl) (of_decide_eq_true (by kernel_rfl)) h1 hb (fun y hy=>by cases hy)) (Below.trod jix (by kernel_rfl) (of_decide_eq_true (by kernel_rfl)) h2 hb (fun y hy=>by cases hy));first|exact h|(simp only [List.append_nil,List.nil_append] at h;exact h)),rfl,hb.frame _,fun h=>by cases h⟩
theorem jwL (os:Os) (started:os.Started) (H:Type) (enc:TypeId×Value→H) (F:Stop.Interp):
  ReturnsInHanded {} Tryz.checked os 3 .any ((OpenSpec.ofChange Rows.dryAddsSpec).preRow enc prog Tryz.f3 Rows.dryAddsRow.domain false Rows.dryAddsRow.laid) (((OpenSpec.ofChange Rows.dryAddsSpec).at F).post enc prog Tryz.f3 false true false false):=by
 obtain ⟨places,hx⟩:=jwS os enc
 refine returnsInHanded_of_row (C:=Tryz.checked) (s:=OpenSpec.ofChange Rows.dryAddsSpec) own started (by kernel_rfl) func3
  (witness_row_at (enc:=enc) (C:=Tryz.checked) false (World.laidAll prog os Rows.dryAddsRow.laid) #[.slice none 0 0, .agg #[.int .i64 0, .string ⟨#[]⟩, .string ⟨#[]⟩], .string ⟨#[]⟩] (World.laidAll_os _ _ _) (by kernel_rfl) (by kernel_rfl) (by kernel_rfl)
    (OpenSpec.preRow_of_cond 8 hx (by kernel_rfl) (fun k hk=>by cases hk) (by kernel_rfl) (by rw [MakeChecks.laidMetH_plain _ _ _ (by kernel_rfl)];exact jxi os))) ?_
 intro W base args ds gs before hval hW _ _ _ hL hS _;exact jwE H enc W base args ds gs before hval hW hL hS
theorem jxx:(Rows.dryAddsRow.inPlace==Tryz.pinned.checked.prog.inPlace 3)=true:=by kernel_rfl
theorem jxy:(Rows.dryAddsRow.unfollowed==Tryz.pinned.checked.prog.unfollowed 3)=true:=by kernel_rfl
theorem jxu:(Rows.dryAddsRow.recurses==Tryz.pinned.checked.prog.recurses 3)=true:=by kernel_rfl
theorem jxv:(Rows.dryAddsRow.named==Tryz.pinned.checked.prog.varsNamed 3)=true:=by kernel_rfl
theorem jwK:joinedFacts Tryz.pinned.checked.prog 3 Tryz.f3 (OpenSpec.ofChange Rows.dryAddsSpec).bare Rows.dryAddsRow=true:=by
 unfold joinedFacts;rw [jxx,jxy,jxu,jxv]
 kernel_rfl
theorem jwX:Rows.DryAddsSaid:=
 OpenClaim.holds_of_cond 3 Tryz.f3 rfl rfl rfl rfl rfl rfl rfl ⟨rfl,rfl,rfl,rfl,rfl⟩ rfl rfl rfl rfl rfl (by kernel_rfl) func3 jwK
  (of_decide_eq_true (by kernel_rfl)) (by unfold Func.isWrapper;first|(rw [if_pos (by decide+kernel)];kernel_rfl)|(rw [if_neg (by decide+kernel)];exact ⟨rfl,rfl⟩))
  (fun os started H enc _ F=>by rw [OpenClaim.pre_eq_preRow];exact jwL os started H enc F)
theorem jwP (f : FuncId) (fn : Func) (hf : Tryz.pinned.checked.prog.funcNamed "bushel/bushellaw06.DryAdds" = some f) (hfn : Tryz.pinned.checked.prog.funcs[f]? = some fn) :
  true=Tryz.pinned.checked.prog.looks []∧∀(j:Nat) t,fn.params[j]? =some t→Tryz.pinned.checked.prog.wantsStandIn t=false:=by
 obtain rfl : f = 3 := Option.some.inj ((show prog.funcNamed "bushel/bushellaw06.DryAdds" = some 3 by kernel_rfl).symm.trans hf) |>.symm
 obtain rfl:fn=Tryz.f3:=(Option.some.inj (func3.symm.trans hfn)).symm;refine ⟨by kernel_rfl,fun j t ht=> ?_⟩;rw [params3] at ht;have hm:t∈ [22,25,23]:=by simpa using Array.mem_of_getElem? ht
 have hall:([22,25,23].all fun u=> !prog.wantsStandIn u)=true:=by kernel_rfl
 exact (show prog.wantsStandIn t=false by simpa using List.all_eq_true.1 hall t hm)
theorem adds_card:Rows.DryAddsCardSaid:=
 Claim7.holds_tied_plain_at .later [] _ _ _ _ jwX (fun _ h=>by cases h) (by kernel_rfl) (fun _ h=>by cases h) dryAdds_row_tie rfl ⟨rfl,rfl⟩ (by kernel_rfl) rfl jwP (by kernel_rfl)
#print axioms adds_card
end Go.Proofs.YtdjppepcckedkaaGreatDoor
