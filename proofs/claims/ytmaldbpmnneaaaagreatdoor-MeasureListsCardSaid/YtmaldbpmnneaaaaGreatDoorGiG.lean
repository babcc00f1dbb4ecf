/- Parts. -/
import Derived.Test.YtmaldbpmnneaaaaGreatDoorGaG
import Derived.Test.YtmaldbpmnneaaaaGreatDoorUwG
import Derived.Deep.SlicePairs
import Derived.ChangeMaps5
import Derived.ChangeSame
set_option linter.all false
set_option maxRecDepth 100000
set_option maxHeartbeats 8000000
namespace Go.Proofs.YtmaldbpmnneaaaaGreatDoor
open Go Go.RowKit

theorem jn1 {los his:List Rat} {i k:Nat} (h1:los.getD i 0≤his.getD i 0) (h2:los.getD k 0≤his.getD k 0):
  decide (jcD (los.getD i 0) [los.getD k 0]≤jcA (his.getD i 0) [his.getD k 0])= !jfb los his i k:=by
 rw [Bool.eq_iff_iff,Bool.not_eq_true',decide_eq_true_iff,←Bool.not_eq_true,jou]
 simp only [jcD,jcA,gt_iff_lt,Rq.cmp_pos,Rq.cmp_neg]
 grind
section
variable {w:World} {A:Option Addr} {n c k:Nat} {ls:List (List UInt8×List UInt8)} {los his:List Rat}
theorem jlo {x1 x2 y1 y2:Rat} {g:Bool} {W:World} {b:Nat} (d1:Dz k x1) (d2:Dz k x2) (d3:Dz k y1) (d4:Dz k y2) (hk:0 < k) (hk2:k≤9000) (hg:decide (jcD x1 [y1]≤jcA x2 [y2])=g)
  (h0:W.cell? ⟨b,0,none⟩=some (bs (tq x1))) (h1:W.cell? ⟨b,1,none⟩=some (bs (tq x2))) (h2:W.cell? ⟨b,2,none⟩=some (bs (tq y1))) (h3:W.cell? ⟨b,3,none⟩=some (bs (tq y2))):
  Calls Tryz.prog 12 #[.slice (some ⟨b,0,none⟩) 2 2] W fun e w'=>e= .returned (.tuple #[sp (tq (jcD x1 [y1])) (tq (jcA x2 [y2])), .bool g])∧Below W.heap.size W w':=
 jkS (ls:=[(tq x1,tq x2),(tq y1,tq y2)]) (los:=[x1,y1]) (his:=[x2,y2]) (k:=k) ⟨⟨rfl,fun _=>⟨b,0,rfl,World.block_lt_of_cell? W _ h0,fun j hj=>by
  match j,hj with
  | 0,_=>exact ⟨h0,h1⟩
  | 1,_=>exact ⟨h2,h3⟩⟩⟩,rfl,rfl,fun j hj=>by
  match j,hj with
  | 0,_=>exact ⟨rfl,rfl,d1,d2⟩
  | 1,_=>exact ⟨rfl,rfl,d3,d4⟩⟩ (by omega) (by omega) hk hk2 rfl rfl hg
theorem jom {R:Option (Nat×Nat)} (h:RSp w A n ls los his k) (hn:n≤1000) (hk:0 < k) (hk2:k≤9000) (hv:∀j,j < n→los.getD j 0≤his.getD j 0) (hR:jid (jfb los his) n n 0=R):
  Calls Tryz.prog 15 #[.slice A n c] w fun e w'=>e= .returned (.tuple #[.int .i64 (clI R), .int .i64 (clK R), .bool R.isSome])∧Below w.heap.size w w':=by
 have H:=qh h
 have HN:=qh hn
 have HK:=qh (And.intro hk hk2)
 have HV:=qh hv
 have HR:=qh hR
 clear h hn hk hk2 hv hR
 go_enter Tryz.func15,Tryz.ntmps15
 go_wp2
 go_loopw [5] (fun u wr=>∃(i:Nat),u= .int .i64 (i:Int)∧i≤n∧Below w.heap.size w wr∧jid (jfb los his) n (n - i) i=R) (fun u _=>n - (intOf u).toNat)
 case atStart=>exact ⟨0,rfl,Nat.zero_le _,bi,HR.out⟩
 case round=>
  obtain ⟨i,rfl,hin,hb,hc⟩:=hrel
  have _:=bm hb
  rename World=>wo
  have HC:=qh hc
  have hnn:=HN.out
  clear hc
  by_cases hi:i < n
  ·have p0:decide (i < n)=true:=by simpa using hi
   have HI:=qh hi
   have w1i:wrap64 ((i:Int)+1)=(i:Int)+1:=by unfold wrap64;omega
   clear hi
   go_wp2
   go_loopw [6] (fun u wr=>∃(j:Nat),u= .int .i64 (j:Int)∧j≤n∧Below w.heap.size w wr∧atF (jfb los his) n i j=R) (fun u _=>n - (intOf u).toNat)
   case atStart=>exact ⟨i+1,by simp,HI.out,hb,by rw [←jlY HI.out];exact HC.out⟩
   case round=>
    obtain ⟨j,rfl,hjn,hb2,hc2⟩:=hrel
    have _:=bm hb2
    have HC2:=qh hc2
    have hii:=HI.out
    clear hc2 hb
    by_cases hj:j < n
    ·have p1:decide (j < n)=true:=by simpa using hj
     obtain ⟨b,o,rfl,hbl,hat⟩:=(H.out.view.below hb2).at_ (by omega)
     obtain ⟨k0,k1⟩:=hat i hii
     obtain ⟨k2,k3⟩:=hat j hj
     obtain ⟨t1,t2,g1,g2⟩:=H.out.num i hii
     obtain ⟨t3,t4,g3,g4⟩:=H.out.num j hj
     rw [t1] at k0
     rw [t2] at k1
     rw [t3] at k2
     rw [t4] at k3
     have mb:=jn1 (HV.out i hii) (HV.out j hj)
     obtain ⟨g,hg⟩:∃g,jfb los his i j=g:=⟨_,rfl⟩
     rw [hg] at mb
     have HG:=qh hg
     obtain ⟨x1,e1⟩:∃x,los.getD i 0=x:=⟨_,rfl⟩
     obtain ⟨x2,e2⟩:∃x,his.getD i 0=x:=⟨_,rfl⟩
     obtain ⟨y1,e3⟩:∃x,los.getD j 0=x:=⟨_,rfl⟩
     obtain ⟨y2,e4⟩:∃x,his.getD j 0=x:=⟨_,rfl⟩
     rw [e1] at k0 g1 mb
     rw [e2] at k1 g2 mb
     rw [e3] at k2 g3 mb
     rw [e4] at k3 g4 mb
     have HM:=qh (fun W b h0 h1 h2 h3=>jlo (W:=W) (b:=b) g1 g2 g3 g4 HK.out.1 HK.out.2 mb h0 h1 h2 h3)
     obtain ⟨X1,f1⟩:∃x,tq x1=x:=⟨_,rfl⟩
     obtain ⟨X2,f2⟩:∃x,tq x2=x:=⟨_,rfl⟩
     obtain ⟨Y1,f3⟩:∃x,tq y1=x:=⟨_,rfl⟩
     obtain ⟨Y2,f4⟩:∃x,tq y2=x:=⟨_,rfl⟩
     obtain ⟨Z1,f5⟩:∃x,tq (jcD x1 [y1])=x:=⟨_,rfl⟩
     obtain ⟨Z2,f6⟩:∃x,tq (jcA x2 [y2])=x:=⟨_,rfl⟩
     rw [f1,f2,f3,f4,f5,f6] at HM
     rw [f1] at k0
     rw [f2] at k1
     rw [f3] at k2
     rw [f4] at k3
     have HJ:=qh hj
     clear hat t1 t2 t3 t4 g1 g2 g3 g4 mb hg e1 e2 e3 e4 f1 f2 f3 f4 f5 f6
     go_upto_region 7 with (fail)
     go_cut [8] (fun u wx=>u= .bool (!g)∧Below wr.heap.size wr wx)
     case first=>
      refine ja3 (fun w'=>Below wr.heap.size wr w') [] (by kernel_rfl) ?_
      refine tb 0 (.slice (some ⟨b,o,none⟩) n c) [] rfl (by kernel_rfl) pk rfl (by intros;go_simp) bq0 ?_
      simp only [ppq]
      refine tb 1 (.int .i64 (i:Int)) [] rfl (by kernel_rfl) pk rfl (by intros;go_simp) bq0 ?_
      simp only [ppq]
      refine tb 2 (.pointer (some ⟨b,o+i*2,none⟩)) [] rfl (by kernel_rfl) pk rfl (by intros;go_simp) bq0 ?_
      simp only [ppq]
      refine tb 3 (sp X1 X2) [] rfl (by kernel_rfl) pk rfl (by intros;go_simp) bq0 ?_
      simp only [ppq]
      refine tb 4 (.slice (some ⟨b,o,none⟩) n c) [] rfl (by kernel_rfl) pk rfl (by intros;go_simp) bq0 ?_
      simp only [ppq]
      refine tb 5 (.int .i64 (j:Int)) [] rfl (by kernel_rfl) pk rfl (by intros;go_simp) bq0 ?_
      simp only [ppq]
      refine tb 6 (.pointer (some ⟨b,o+j*2,none⟩)) [] rfl (by kernel_rfl) pk rfl (by intros;go_simp) bq0 ?_
      simp only [ppq]
      refine tb 7 (sp Y1 Y2) [] rfl (by kernel_rfl) pk rfl (by intros;go_simp) bq0 ?_
      simp only [ppq]
      refine ja0 (rs:=[8,13]) (by kernel_rfl) (by simp) (AllT.cons rfl (fun K hK=> ?o1) (AllT.cons rfl (fun K hK=> ?o2) AllT.nil))
      case' o1=>
       go_simp
       refine hK.out _ _ (fun _=>bi) ?_
       clear hK K
       refine ja0 (rs:=[9,13]) (by kernel_rfl) (by simp) (AllT.cons rfl (fun K hK=> ?o3) (AllT.cons rfl (fun K hK=> ?o4) AllT.nil))
       case' o3=>
        go_simp
        go_wp2_with (go_at_call 12;(with_reducible refine mo0 (HM.out _ _ (by simp [go_sem]) (by simp [go_sem]) (by simp [go_sem]) (by simp [go_sem])) fun w1 hb1 hc1 hf1 _=> ?_))
        refine hK.out _ _ (fun _=>bi) ?_
        clear hK K
        refine tb 10 (.tuple #[sp Z1 Z2, .bool (!g)]) [] rfl (by kernel_rfl) pk rfl (by intros;go_simp) bi ?_
        simp only [ppq]
        refine tb 11 (sp Z1 Z2) [] rfl (by kernel_rfl) pk rfl (by intros;go_simp) bi ?_
        simp only [ppq]
        refine tb 12 (.bool (!g)) [] rfl (by kernel_rfl) pk rfl (by intros;go_simp) bi ?_
        simp only [ppq]
        refine ja0 (rs:=[13]) (by kernel_rfl) (by simp) (AllT.cons rfl (fun K hK=> ?_) AllT.nil)
        go_simp
        refine hK.out _ _ (fun _=>bi) ?_
        clear hK K
       case' o4=>
        go_simp
        refine hK.out _ _ (fun _=>bi) ?_
        clear hK K
        refine ja0 (rs:=[9]) (by kernel_rfl) (by simp) (AllT.cons rfl (fun K hK=> ?_) AllT.nil)
        go_simp
        go_wp2_with (go_at_call 12;(with_reducible refine mo0 (HM.out _ _ (by simp [go_sem]) (by simp [go_sem]) (by simp [go_sem]) (by simp [go_sem])) fun w1 hb1 hc1 hf1 _=> ?_))
        refine hK.out _ _ (fun _=>bi) ?_
        clear hK K
        refine tb 10 (.tuple #[sp Z1 Z2, .bool (!g)]) [] rfl (by kernel_rfl) pk rfl (by intros;go_simp) bi ?_
        simp only [ppq]
        refine tb 11 (sp Z1 Z2) [] rfl (by kernel_rfl) pk rfl (by intros;go_simp) bi ?_
        simp only [ppq]
        refine tb 12 (.bool (!g)) [] rfl (by kernel_rfl) pk rfl (by intros;go_simp) bi ?_
        simp only [ppq]
      case' o2=>
       go_simp
       refine hK.out _ _ (fun _=>bi) ?_
       clear hK K
       refine ja0 (rs:=[8]) (by kernel_rfl) (by simp) (AllT.cons rfl (fun K hK=> ?_) AllT.nil)
       go_simp
       refine hK.out _ _ (fun _=>bi) ?_
       clear hK K
       refine ja0 (rs:=[9]) (by kernel_rfl) (by simp) (AllT.cons rfl (fun K hK=> ?_) AllT.nil)
       go_simp
       go_wp2_with (go_at_call 12;(with_reducible refine mo0 (HM.out _ _ (by simp [go_sem]) (by simp [go_sem]) (by simp [go_sem]) (by simp [go_sem])) fun w1 hb1 hc1 hf1 _=> ?_))
       refine hK.out _ _ (fun _=>bi) ?_
       clear hK K
       refine tb 10 (.tuple #[sp Z1 Z2, .bool (!g)]) [] rfl (by kernel_rfl) pk rfl (by intros;go_simp) bi ?_
       simp only [ppq]
       refine tb 11 (sp Z1 Z2) [] rfl (by kernel_rfl) pk rfl (by intros;go_simp) bi ?_
       simp only [ppq]
       refine tb 12 (.bool (!g)) [] rfl (by kernel_rfl) pk rfl (by intros;go_simp) bi ?_
       simp only [ppq]
      all_goals
       refine rd1 14 (by kernel_rfl) rfl (fun K hK=> ?_)
       go_simp
       refine hK.out _ _ (fun _=>bi) ?_
       clear hK K
       refine rd1 15 (by kernel_rfl) rfl (fun K hK=> ?_)
       go_simp
       refine hK.out _ _ (fun _=>bi) ?_
       clear hK K
       refine ja2 (by kernel_rfl) ?_ _
       go_wp2_with (fail)
       go_meet
       exact ⟨rfl,bi⟩
     case rest=>
      obtain ⟨rfl,hbc⟩:=hcut
      have _:=bm hbc
      cases g
      ·have HM2:=qh (jiL HJ.out (p:=jfb los his) (i:=i) HG.out)
       go_wp2
       exact ⟨⟨j+1,by simp,HJ.out,bi,by rw [←HM2.out];exact HC2.out⟩,by have:=HJ.out;simp [intOf];omega⟩
      ·have HM2:=qh (jil HJ.out (p:=jfb los his) (i:=i) HG.out)
       go_wp2
       have hR:=HC2.out
       rw [HM2.out] at hR
       subst hR
       go_ret3
       exact ⟨rfl,bi⟩
    ·have p1:decide (j < n)=false:=by simp;omega
     have e:j=n:=by omega
     subst e
     have HE2:Hid (jid (jfb los his) j (j - (i+1)) (i+1)=R):=qh (by rw [←jli];exact HC2.out)
     clear hj hjn HC2
     go_wp2
     go_roundw
     case rel=>exact ⟨i+1,by simp,HI.out,bi,HE2.out⟩
     case measure=>have:=HI.out;simp [intOf];omega
  ·have p0:decide (i < n)=false:=by simp;omega
   have e:i=n:=by omega
   subst e
   have hR:=HC.out
   rw [jjc] at hR
   subst hR
   clear hi hin HC HR
   go_wp2
   go_ret3
   exact ⟨rfl,bi⟩
end

abbrev jeZ (w:World) (base:Nat) (v:Value) (n:Nat) (ts:List (List UInt8)):Prop:=w.ownsRow base 26 1 v n (ts.map bs)
theorem jpK:(Tryz.prog.info? 26).map (fun i=>(i.zero,i.size,i.bytes))=some (some (.string ByteArray.empty),1,16):=by kernel_rfl
theorem jeZ.below {w w':World} {base n:Nat} {v:Value} {ts:List (List UInt8)} (h:jeZ w base v n ts) (hb:Below w.heap.size w w'):jeZ w' base v n ts:=
 World.ownsRow.kept h (jdb hb none) (by cases hv:v.ownBlock <;> simp)
theorem jeZ.sv {w:World} {base n:Nat} {v:Value} {ts:List (List UInt8)} (h:jeZ w base v n ts) (h0:0 < n):∃A c,v= .slice A n c∧Sv w A n ts:=by
 have hl:ts.length=n:=by have:=h.1;simpa using this
 rcases h.2 with ⟨rfl,h1⟩|⟨g,cap,cur,rfl,hb,hg,hnc,hcm,hcs,ht⟩
 ·omega
 ·refine ⟨_,cap,rfl,hl,fun _=>⟨g,0,rfl,(Array.getElem?_eq_some_iff.1 hg).1,fun j hj=> ?_⟩⟩
  have hc:=World.ownsRow.cells h (g:=g) rfl
  have hjl:j < ts.length:=by omega
  have:=hc j (bs (ts.getD j [])) (by rw [List.getElem?_map,List.getElem?_eq_getElem hjl,List.getD_eq_getElem?_getD,List.getElem?_eq_getElem hjl];rfl)
  rw [jc5] at this
  rw [Nat.zero_add];exact this
theorem jqq {w:World} {base n b c:Nat} {v:Value} {ts:List (List UInt8)} {x:List UInt8} (h:jeZ w base v n ts) (hn:n≤100000) (hb:base≤w.heap.size) (h0:w.cell? ⟨b,0,none⟩=some (bs x)):
  ∃v' w',(Builtin.append_ #[85,85] 85 #[v, .slice (some ⟨b,0,none⟩) 1 c]).run Tryz.prog w= .ok v' w'∧jeZ w' base v' (n+1) (ts++[x])∧w.grownBy w' v.ownBlock∧(v'.ownBlock=v.ownBlock∨v'.ownBlock=some w.heap.size):=by
 obtain ⟨i,hi,hz0,hz1,hz2⟩:=info_parts jpK
 obtain ⟨v',w',hr,k1,k2,_,k3⟩:=run_append_own_at (P:=Tryz.prog) w base 85 85 26 i _ 1 16 Tryz.underlying85 hi hz0 hz1 hz2 rfl (by decide) v n (ts.map bs) h ⟨b,0,none⟩ 1 c [bs x] (by simp)
  (by
    intro j u hu
    rw [jc5]
    match j,hu with
    | 0,hu=>simp at hu;subst hu;exact h0
    | j+1,hu=>simp at hu)
  (by intro u hu;simp at hu;subst hu;rfl)
  (by simp only [maxLen];omega) (by omega) hb
 exact ⟨v',w',hr,by rw [jeZ,List.map_append];exact k1,k2,k3⟩
theorem jbN {ops:Array Oper} {rest:List Oper} {o:Oper} {a:Act} {Q:Exit→Act→World→Prop} {w:World} {base n b c:Nat} {v:Value} {ts:List (List UInt8)} {x:List UInt8} (hg:o.guard=none) (s y:Operand)
  (ho:o.op= .call { callee:= .builtin .append,args:= #[s,y],argTypes:= #[85,85] }) (ht:o.type=85) (hs:a.eval s=v) (hy:a.eval y= .slice (some ⟨b,0,none⟩) 1 c)
  (h:jeZ w base v n ts) (hn:n≤100000) (hb:base≤w.heap.size) (h0:w.cell? ⟨b,0,none⟩=some (bs x))
  (hK:∀v' w',jeZ w' base v' (n+1) (ts++[x])→w.grownBy w' v.ownBlock→(v'.ownBlock=v.ownBlock∨v'.ownBlock=some w.heap.size)→wpList Tryz.prog ops Q rest (a.put o.dst v') w'):wpList Tryz.prog ops Q (o::rest) a w:=by
 obtain ⟨v',w',hr,k1,k2,k3⟩:=jqq h hn hb h0
 refine wpList_plain hg fun K' hK'=> ?_
 exact jfE s y ho hs hy (by rw [ht];exact hr) (hK' _ _ (hK v' w' k1 k2 k3))
section
variable {w:World} {A B:Option Addr} {n m c d k:Nat} {ls:List (List UInt8×List UInt8)} {los his:List Rat} {ws:List Int}
theorem jgN {g:Int} (hg:(cw ws).2=g) (h:Iv w A n ws) (hn:n≤100000):Calls Tryz.prog 17 #[.slice A n c] w fun e w'=>e= .returned (.int .i64 g)∧Below w.heap.size w w':=by
 subst hg
 obtain ⟨R,hR⟩:∃R,cw ws=R:=⟨_,rfl⟩
 rw [hR]
 have HR:=qh hR
 have H:=qh h
 have HN:=qh hn
 clear hR h hn
 go_enter Tryz.func17,Tryz.ntmps17
 go_wp2
 go_loopw [3,4] (fun v u wr=>∃(s:Int) (i:Nat),v= .int .i64 s∧u= .int .i64 (i:Int)∧wr=w∧i≤n∧0≤s∧s≤i*999999999∧jgF s (ws.drop i)=R) (fun _ u _=>n - (intOf u).toNat)
 case atStart=>exact ⟨0,0,rfl,rfl,rfl,by omega,by omega,by omega,HR.out⟩
 case round=>
  obtain ⟨s,i,rfl,rfl,rfl,hin,hs0,hs1,hc⟩:=hrel
  by_cases hi:i < n
  ·have q0:decide (i < n)=true:=by simpa using hi
   obtain ⟨b,o,rfl,hb,hcell⟩:=H.out.at_ (by omega)
   have hx:=hcell i hi
   rw [jgS (by rw [H.out.len];exact hi)] at hc
   obtain ⟨x,hxx⟩:∃x,ws.getD i 0=x:=⟨_,rfl⟩
   rw [hxx] at hx hc
   have hnn:=HN.out
   clear hcell
   by_cases hx0:x < 0
   ·have hR:R=(0,3):=by rw [←hc];unfold jgF;rw [if_pos (Or.inl hx0)]
    have q1:decide (x < 0)=true:=by simp;exact hx0
    subst hR
    clear hc HR hx0
    go_wp2
    go_ret
    exact ⟨rfl,bi⟩
   ·have q1:decide (x < 0)=false:=by simp;omega
    by_cases hx1:999999999 < x
    ·have hR:R=(0,3):=by rw [←hc];unfold jgF;rw [if_pos (Or.inr hx1)]
     have q2:decide (999999999 < x)=true:=by simp;exact hx1
     subst hR
     clear hc HR hx0 hx1
     go_wp2
     go_ret
     exact ⟨rfl,bi⟩
    ·have q2:decide (999999999 < x)=false:=by simp;omega
     have hc2:jgF (s+x) (ws.drop (i+1))=R:=by
      rw [←hc];conv=>rhs;unfold jgF
      rw [if_neg (by omega)]
     have HC:=qh hc2
     have hw:wrap64 (s+x)=s+x:=by unfold wrap64;omega
     have HS:=qh (show 0≤s+x∧s+x≤((i+1:Nat):Int)*999999999 by omega)
     have HI:=qh hi
     clear hc hc2 hx0 hx1 hs0 hs1
     go_wp2
     exact ⟨⟨s+x,i+1,by simp [hw],by simp,by first|rfl|trivial,HI.out,HS.out.1,HS.out.2,HC.out⟩,by have:=HI.out;simp [intOf];omega⟩
  ·have q0:decide (i < n)=false:=by simp;omega
   rw [List.drop_eq_nil_of_le (by rw [H.out.len];omega)] at hc
   by_cases h0:s=0
   ·subst h0
    have hR:R=(0,6):=by rw [←hc];rfl
    subst hR
    clear hc HR hi
    go_wp2
    go_ret
    exact ⟨rfl,bi⟩
   ·have hR:R=(s,0):=by rw [←hc];unfold jgF;rw [if_neg h0]
    have q1:(s==0)=false:=by rw [beq_eq_false_iff_ne];exact h0
    subst hR
    clear hc HR hi h0
    go_wp2
    go_ret
    exact ⟨rfl,bi⟩
theorem jln {base i:Nat} {w wr w1 w2:World} {u2 u3 v1 v2:Value} {K1 K2 K3:List (List UInt8)} {o0 o1:Obj} (hbase:base=w.heap.size) (hb:Below w.heap.size w wr) (ho1:jeZ wr base u2 i K3) (ho2:jeZ wr base u3 i K2) (hne:∀g,u2.ownBlock=some g→u3.ownBlock≠some g)
  (hg1:(wr.alloc o0).grownBy w1 u2.ownBlock) (h1:jeZ w1 base v1 (i+1) K1) (hl1:v1.ownBlock=u2.ownBlock∨v1.ownBlock=some (wr.alloc o0).heap.size):
  Below w.heap.size w w1∧jeZ (w1.alloc o1) base u3 i K2∧(∀g,v1.ownBlock=some g→u3.ownBlock≠some g)∧
  (∀K4,(w1.alloc o1).grownBy w2 u3.ownBlock→jeZ w2 base v2 (i+1) K4→(v2.ownBlock=u3.ownBlock∨v2.ownBlock=some (w1.alloc o1).heap.size)→Below w.heap.size w w2∧jeZ w2 base v1 (i+1) K1∧(∀g,v1.ownBlock=some g→v2.ownBlock≠some g)):=by
 subst hbase
 have z0:=hb.size
 have z1:=hg1.size
 simp only [World.size_alloc] at z1
 have hw0:Below w.heap.size w (wr.alloc o0):=ja5 hb o0
 have hw1:Below w.heap.size w w1:=hw0.trans (jae hg1 hw0.size (fun k hk=>(World.ownsRow.lt ho1 k hk).1))
 have hd:∀g,v1.ownBlock=some g→u3.ownBlock≠some g:=fun g hg e=>by
  rcases hl1 with hl|hl
  ·exact hne g (hl ▸ hg) e
  ·rw [hl] at hg
   have:=(World.ownsRow.lt ho2 g e).2
   simp at hg;omega
 have k2:jeZ (w1.alloc o1) w.heap.size u3 i K2:=World.ownsRow.alloc (World.ownsRow.kept (World.ownsRow.alloc ho2 o0) hg1 (by
  cases h:u2.ownBlock with
  | none=>cases h':u3.ownBlock <;> simp
  | some g=>exact .inr (hne g h))) o1
 refine ⟨hw1,k2,hd,fun K4 hg2 h2 hl2=> ?_⟩
 have hw2:Below w.heap.size w (w1.alloc o1):=ja5 hw1 o1
 have z2:=hg2.size
 refine ⟨hw2.trans (jae hg2 hw2.size (fun k hk=>(World.ownsRow.lt k2 k hk).1)),World.ownsRow.kept (World.ownsRow.alloc h1 o1) hg2 ?_,fun g hg e=> ?_⟩
 ·cases h:v1.ownBlock with
  | none=>exact .inl rfl
  | some g=>exact .inr (fun e=>hd g h e.symm)
 ·rcases hl2 with hl|hl
  ·exact hd g hg (hl ▸ e)
  ·rw [hl] at e
   have:=(World.ownsRow.lt h1 g hg).2
   simp at e;omega
theorem jlU {qs:List Rat} {i:Nat} {r:Rat} (h:i < qs.length) (hr:qs.getD i 0=r):(qs.take i).map tq++[tq r]=(qs.take (i+1)).map tq:=by
 rw [←jel h hr,List.map_append];rfl
theorem jq8 {z1 z2:Rat} (h:RSp w A n ls los his k) (hw:Iv w B n ws) (h0:0 < n) (hn:n≤12) (hk:0 < k) (hk2:k≤600) (hws:∀j,j < n→0≤ws.getD j 0∧ws.getD j 0≤999999999) (hs0:jdD ws n≠0)
  (hz1:jaZ los ws n / ((jdD ws n:Int):Rat)=z1) (hz2:jaZ his ws n / ((jdD ws n:Int):Rat)=z2):
  Calls Tryz.prog 18 #[.slice A n c, .slice B n d] w fun e w'=>e= .returned (sp (tq z1) (tq z2))∧Below w.heap.size w w':=by
 have H:=qh h
 have HW:=qh hw
 have HN:=qh (And.intro h0 hn)
 have gl (j:Nat) (hj:j < n):(los.map tq).getD j []=tq (los.getD j 0):=by
  have:j < los.length:=by rw [h.lo];exact hj
  simp [List.getD_eq_getElem?_getD,this]
 have gh (j:Nat) (hj:j < n):(his.map tq).getD j []=tq (his.getD j 0):=by
  have:j < his.length:=by rw [h.hi];exact hj
  simp [List.getD_eq_getElem?_getD,this]
 have M1:=qh (fun W A c (hs:Sv W A n (los.map tq)) (hi:Iv W B n ws)=>jhh (c:=c) (d:=d) (k:=k) hs hi hn gl (fun j hj=>(h.num j hj).2.2.1) hk hk2 hws hs0 hz1)
 have M2:=qh (fun W A c (hs:Sv W A n (his.map tq)) (hi:Iv W B n ws)=>jhh (c:=c) (d:=d) (k:=k) hs hi hn gh (fun j hj=>(h.num j hj).2.2.2) hk hk2 hws hs0 hz2)
 unfold QP at M1 M2
 obtain ⟨Z1,e1⟩:∃t,tq z1=t:=⟨_,rfl⟩
 obtain ⟨Z2,e2⟩:∃t,tq z2=t:=⟨_,rfl⟩
 rw [e1] at M1 ⊢
 rw [e2] at M2 ⊢
 clear h hw hk hk2 hws hs0 hz1 hz2 gl gh e1 e2 hn h0
 go_enter Tryz.func18,Tryz.ntmps18
 go_wp2
 obtain ⟨W,hWW⟩:∃x,(w.alloc (.cells #[bs [],bs []] 28))=x:=⟨_,rfl⟩
 have cW_0:W.cell? ⟨w.heap.size,0,none⟩=some (bs []):=(by rw [←hWW];simp [go_sem,jbx])
 have cW_1:W.cell? ⟨w.heap.size,1,none⟩=some (bs []):=(by rw [←hWW];simp [go_sem,jbx])
 have fW_0:∀o,W.frozen? ⟨w.heap.size,o,none⟩=false:=(by intro o;rw [←hWW];simp [go_sem,jbx])
 have zW_0:w.heap.size < W.heap.size:=(by rw [←hWW];first|assumption|(simp;done)|(simp;omega))
 have bW:Below w.heap.size w W:=(by rw [←hWW];exact bi)
 have _:=bm bW
 simp only [hWW]
 have sW:W.heap.size=w.heap.size+1:=by rw [←hWW];simp
 clear hWW
 go_loopw [5,6,7] (fun u1 u2 u wr=>∃(i:Nat),u= .int .i64 (i:Int)∧i≤n∧Below W.heap.size W wr∧jeZ wr W.heap.size u1 i ((los.take i).map tq)∧jeZ wr W.heap.size u2 i ((his.take i).map tq)∧(∀g,u1.ownBlock=some g→u2.ownBlock≠some g)) (fun _ _ u _=>n - (intOf u).toNat)
 case atStart=>exact ⟨0,rfl,by omega,bi,World.ownsRow_nil _ _ _ _,World.ownsRow_nil _ _ _ _,fun g hg=>by cases hg⟩
 case round=>
  obtain ⟨i,rfl,hin,hb,ho1,ho2,hne⟩:=hrel
  have _:=bm hb
  have HO1:=qh ho1
  have HO2:=qh ho2
  have HNE:=qh hne
  have hnn:=HN.out
  clear ho1 ho2 hne
  by_cases hi:i < n
  ·have p0:decide (i < n)=true:=by simpa using hi
   obtain ⟨b,o,rfl,hbl,hat⟩:=(H.out.view.below bW).at_ (by omega)
   obtain ⟨k0,k1⟩:=hat i hi
   obtain ⟨t1,t2,g1,g2⟩:=H.out.num i hi
   rw [t1] at k0
   rw [t2] at k1
   have T1:Hid ((los.take i).map tq++[tq (los.getD i 0)]=(los.take (i+1)).map tq):=qh (jlU (by rw [H.out.lo];exact hi) rfl)
   have T2:Hid ((his.take i).map tq++[tq (his.getD i 0)]=(his.take (i+1)).map tq):=qh (jlU (by rw [H.out.hi];exact hi) rfl)
   obtain ⟨U,hU⟩:∃t,tq (los.getD i 0)=t:=⟨_,rfl⟩
   obtain ⟨V,hV⟩:∃t,tq (his.getD i 0)=t:=⟨_,rfl⟩
   rw [hU] at k0 T1
   rw [hV] at k1 T2
   replace k0:=ja4 hb k0
   replace k1:=ja4 hb k1
   have hbs:=hb.size
   have zb:b < wr.heap.size:=by omega
   have far1:some b≠u5.ownBlock:=fun e=>by have:=(World.ownsRow.lt HO1.out b e.symm).1;omega
   have HI:=qh hi
   clear hat t1 t2 g1 g2 hU hV
   go_upto_region 6 with (at_builtin;refine jbN (v:=u5) (x:=U) (base:=W.heap.size) (n:=i) rfl _ _ rfl rfl rfl rfl (World.ownsRow.alloc HO1.out _) (by omega) (by simp;omega) (by simp) ?_;intro v1 w1 ho1 hg1 hl1)
   have k1':=hg1.cell (jbO k1 _) far1
   have zb1:b < w1.heap.size:=World.block_lt_of_cell? w1 _ k1'
   have o2 (o1:Obj):=(jln (o1:=o1) (v2:=v1) (w2:=w1) rfl hb HO1.out HO2.out HNE.out hg1 ho1 hl1).2.1
   have zW:W.heap.size≤w1.heap.size:=by have:=hg1.size;simp at this;omega
   go_wp2_with (at_builtin;refine jbN (v:=u6) (x:=V) (base:=W.heap.size) (n:=i) rfl _ _ rfl rfl rfl rfl (o2 _) (by omega) (by simp;omega) (by simp) ?_;intro v2 w2 ho2 hg2 hl2)
   have hfin:=(jln rfl hb HO1.out HO2.out HNE.out hg1 ho1 hl1).2.2.2 _ hg2 ho2 hl2
   exact ⟨⟨i+1,by simp,HI.out,hfin.1,by rw [←T1.out];exact hfin.2.1,by rw [←T2.out];exact ho2,hfin.2.2⟩,by have:=HI.out;simp [intOf];omega⟩
  ·have p0:decide (i < n)=false:=by simp;omega
   have e:i=n:=by omega
   subst e
   have h1:=HO1.out
   have h2:=HO2.out
   rw [List.take_of_length_le (by rw [H.out.lo];omega)] at h1
   rw [List.take_of_length_le (by rw [H.out.hi];omega)] at h2
   obtain ⟨A1,c1,rfl,s1⟩:=jeZ.sv h1 hnn.1
   obtain ⟨A2,c2,rfl,s2⟩:=jeZ.sv h2 hnn.1
   have S1:=qh s1
   have S2:=qh s2
   have e0:=ja4 hb cW_0
   have e1:=ja4 hb cW_1
   have f0:=jaq hb zW_0 fW_0
   have z0:=Nat.lt_of_lt_of_le zW_0 hb.size
   clear h1 h2 s1 s2 hi hin HO1 HO2 HNE cW_0 cW_1 fW_0
   go_wp2_with (first|((go_at_call 41;(with_reducible refine mo0 (M1.out _ _ _ (S1.out.below bi) (HW.out.below bi)) fun w1 hb1 hc1 hf1 _=> ?_));(first|have y1_0:=szl (k:=w.heap.size) hb1 (by first|go_size|fail)|have y1_0:=Nat.one_pos))|((go_at_call 41;(with_reducible refine mo0 (M2.out _ _ _ (S2.out.below bi) (HW.out.below bi)) fun w2 hb2 hc2 hf2 _=> ?_));(first|have y2_0:=szl (k:=w.heap.size) hb2 (by first|go_size|fail)|have y2_0:=Nat.one_pos)))
   exact bodyPost_ret (v:=sp Z1 Z2) (by simp [results,Tryz.results18,go_sem,hc1,hc2,hf1,hf2,e0,e1,f0,z0,y1_0,y2_0]) rfl ⟨rfl,bi⟩
end

section
variable {w:World} {A B:Option Addr} {n m c d:Nat} {ls:List (List UInt8×List UInt8)} {ws:List Int} {k:Int}
theorem jd5 (hE:Env w) (hs:Pv w A n ls) (hl:∀p∈ls,p.1.length < 4294967281∧p.2.length < 4294967281) (hk:jaU n ls=k) (h0:k≠0):
  Calls Tryz.prog 29 #[.slice A n c] w fun e w'=>e= .returned (.tuple #[.slice none 0 0, .slice none 0 0, .int .i64 k])∧Below w.heap.size w w':=by
 subst hk
 unfold jaU at h0 ⊢
 by_cases e0:n=0
 ·subst e0;rw [if_pos rfl];exact jjN
 ·rw [if_neg e0] at h0 ⊢
  by_cases e1:256 < n
  ·rw [if_pos e1];exact jjz e1
  ·rw [if_neg e1] at h0 ⊢;exact jlJ hE hs (by omega) (by omega) hl rfl h0
theorem jnA (hE:Env w) (hs:Pv w A n ls) (hl:∀p∈ls,p.1.length < 4294967281∧p.2.length < 4294967281) (hk:jaU n ls=k) (h0:k≠0):
  Calls Tryz.prog 6 #[.slice A n c] w fun e w'=>e= .returned (.tuple #[sp [] [], .int .i64 k])∧Below w.heap.size w w':=by
 have q5:(k != 0)=true:=by rw [bne_iff_ne];exact h0
 have HS:=qh (fun W (hb:Below w.heap.size w W)=>jd5 (c:=c) (hE.below hb) (hs.below hb) hl hk h0)
 clear hE hs hl hk h0
 go_enter Tryz.func6,Tryz.ntmps6
 go_wp2_with (go_at_call 29;(with_reducible refine mo1 w (HS.out _ bi) (by go_size) fun w1 hb1 hc1 hf1 z1_0 _=> ?_))
 exact bodyPost_ret (v:= .tuple #[sp [] [], .int .i64 k]) (by simp [results,Tryz.results6,go_sem,hc1,hf1,z1_0]) rfl ⟨rfl,bi⟩
theorem jmU (hE:Env w) (hs:Pv w A n ls) (hl:∀p∈ls,p.1.length < 4294967281∧p.2.length < 4294967281) (hk:jaU n ls=k) (h0:k≠0):
  Calls Tryz.prog 7 #[.slice A n c] w fun e w'=>e= .returned (.tuple #[sp [] [], .int .i64 k])∧Below w.heap.size w w':=by
 have q5:(k != 0)=true:=by rw [bne_iff_ne];exact h0
 have HS:=qh (fun W (hb:Below w.heap.size w W)=>jd5 (c:=c) (hE.below hb) (hs.below hb) hl hk h0)
 clear hE hs hl hk h0
 go_enter Tryz.func7,Tryz.ntmps7
 go_wp2_with (go_at_call 29;(with_reducible refine mo1 w (HS.out _ bi) (by go_size) fun w1 hb1 hc1 hf1 z1_0 _=> ?_))
 exact bodyPost_ret (v:= .tuple #[sp [] [], .int .i64 k]) (by simp [results,Tryz.results7,go_sem,hc1,hf1,z1_0]) rfl ⟨rfl,bi⟩
theorem jnZ (hE:Env w) (hs:Pv w A n ls) (hl:∀p∈ls,p.1.length < 4294967281∧p.2.length < 4294967281) (hk:jaU n ls=k) (h0:k≠0):
  Calls Tryz.prog 9 #[.slice A n c, .slice B m d] w fun e w'=>e= .returned (.tuple #[sp [] [], .int .i64 k])∧Below w.heap.size w w':=by
 have q5:(k != 0)=true:=by rw [bne_iff_ne];exact h0
 have HS:=qh (fun W (hb:Below w.heap.size w W)=>jd5 (c:=c) (hE.below hb) (hs.below hb) hl hk h0)
 clear hE hs hl hk h0
 go_enter Tryz.func9,Tryz.ntmps9
 go_wp2_with (go_at_call 29;(with_reducible refine mo1 w (HS.out _ bi) (by go_size) fun w1 hb1 hc1 hf1 z1_0 _=> ?_))
 exact bodyPost_ret (v:= .tuple #[sp [] [], .int .i64 k]) (by simp [results,Tryz.results9,go_sem,hc1,hf1,z1_0]) rfl ⟨rfl,bi⟩
theorem jlb (hE:Env w) (hs:Pv w A n ls) (hl:∀p∈ls,p.1.length < 4294967281∧p.2.length < 4294967281) (hk:jaU n ls=k) (h0:k≠0):
  Calls Tryz.prog 8 #[.slice A n c] w fun e w'=>e= .returned (.tuple #[.int .i64 0, .int .i64 0, .int .i64 k])∧Below w.heap.size w w':=by
 have q5:(k != 0)=true:=by rw [bne_iff_ne];exact h0
 have HS:=qh (fun W (hb:Below w.heap.size w W)=>jd5 (c:=c) (hE.below hb) (hs.below hb) hl hk h0)
 clear hE hs hl hk h0
 go_enter Tryz.func8,Tryz.ntmps8
 go_wp2
 go_step3
 go_wp2_with (go_at_call 29;(with_reducible refine mo0 (HS.out _ bi) fun w1 hb1 hc1 hf1 _=> ?_))
 rw [Exit.noGoto_ret]
 go_ret3
 exact ⟨rfl,bi⟩
def jr2 (n m:Nat) (ws:List Int):Int:=if m≠n then 2 else (cw ws).2
theorem joj {los his:List Rat} {g:Int} (hE:Env w) (h:SpIn w A n ls los his) (hw:Iv w B m ws) (hm:m≤1000) (hg:jr2 n m ws=g) (h0:g≠0):
  Calls Tryz.prog 9 #[.slice A n c, .slice B m d] w fun e w'=>e= .returned (.tuple #[sp [] [], .int .i64 g])∧Below w.heap.size w w':=by
 have HE:=qh hE
 have HS:=qh h
 have q5:(g != 0)=true:=by rw [bne_iff_ne];exact h0
 unfold jr2 at hg
 by_cases e:m=n
 ·subst e
  rw [if_neg (by simp)] at hg
  obtain ⟨s,hs⟩:∃s,(cw ws).1=s:=⟨_,rfl⟩
  have HCW:Hid (∀W,Below w.heap.size w W→Calls Tryz.prog 34 #[.slice B m d] W fun e w'=>e= .returned (.tuple #[.int .i64 s, .int .i64 g])∧Below W.heap.size W w'):=qh (fun W hb=>by
   have:=jbo (c:=d) (hw.below hb) (show m≤100000 by omega)
   rwa [hs,hg] at this)
  clear hE h hw hg h0 hs
  go_enter Tryz.func9,Tryz.ntmps9
  go_wp2_with (first
   | (go_at_call 29;((with_reducible refine (jc1 (HE.out.below bi) (HS.out.below bi)).mono ?_);rintro e1 w1 ⟨A1,c1,A2,c2,rfl,hv1,hv2,hb1⟩;have _:=bm hb1);obtain ⟨hc1,hf1,z1_0,_⟩:=bc1 w hb1 (by go_size))
   | (go_at_call 34;(with_reducible refine mo1 w (HCW.out _ bi) (by go_size) fun w2 hb2 hc2 hf2 z2_0 _=> ?_)))
  exact bodyPost_ret (v:= .tuple #[sp [] [], .int .i64 g]) (by simp [results,Tryz.results9,go_sem,hc1,hc2,hf1,hf2,z1_0,z2_0]) rfl ⟨rfl,bi⟩
 ·rw [if_pos e] at hg
  subst hg
  have hne:((m:Int) != (n:Int))=true:=by rw [bne_iff_ne];omega
  have hne2:(m != n)=true:=by rw [bne_iff_ne];exact e
  clear hE h hw h0
  go_enter Tryz.func9,Tryz.ntmps9
  go_wp2_with (first
   | (go_at_call 29;((with_reducible refine (jc1 (HE.out.below bi) (HS.out.below bi)).mono ?_);rintro e1 w1 ⟨A1,c1,A2,c2,rfl,hv1,hv2,hb1⟩;have _:=bm hb1);obtain ⟨hc1,hf1,z1_0,_⟩:=bc1 w hb1 (by go_size)))
  exact bodyPost_ret (v:= .tuple #[sp [] [], .int .i64 2]) (by simp [results,Tryz.results9,go_sem,hc1,hf1,z1_0]) rfl ⟨rfl,bi⟩
end
end Go.Proofs.YtmaldbpmnneaaaaGreatDoor
namespace Go.Proofs.YtmaldbpmnneaaaaGreatDoor
open Go Go.ChangeShapes Go.WideShapes Go.ChangeAt Go.RowKit

theorem jkj {H:Type} {enc:TypeId×Value→H} {W:World} {A:Option Addr} {n c fuel:Nat} {x:DataW H×List MemPlace} (h:DataW.trod enc Tryz.prog W 0 (fun _=>true) true fuel 22 [.slice A n c]=some x):∃ls,Pv W A n ls:=by
 rcases Go.Deep.open_slice_pairs Tryz.underlying22 Tryz.underlying28 (by kernel_rfl) rfl rfl (by kernel_rfl) (by kernel_rfl) h with ⟨hcs,_⟩|⟨a,len,cap,m,fu,V0,V1,D0,D1,P0,P1,hcs,_,hl,hm,hz,_,hcell⟩
 ·simp at hcs
  obtain ⟨rfl,rfl,rfl⟩:=hcs
  exact ⟨[],rfl,fun h=>by omega⟩
 ·simp at hcs
  obtain ⟨rfl,rfl,rfl⟩:=hcs
  simp only [if_true] at hz
  obtain ⟨b,off,spot⟩:=a
  have s0:∀i,i < m→∃s:ByteArray,V0 i= .string s:=fun i hi=>by
   obtain ⟨s,h1,_,_⟩:=DataW.trod_string Tryz.underlying26 (hcell i hi).2.2.1
   exact ⟨s,by simpa using h1⟩
  have s1:∀i,i < m→∃s:ByteArray,V1 i= .string s:=fun i hi=>by
   obtain ⟨s,h1,_,_⟩:=DataW.trod_string Tryz.underlying26 (hcell i hi).2.2.2
   exact ⟨s,by simpa using h1⟩
  let txt:Value→List UInt8:=fun v=>match v with | .string s=>s.data.toList | _=> []
  refine ⟨(List.range n).map fun i=>(txt (V0 i),txt (V1 i)),by simp,fun h0=> ?_⟩
  have hspot:spot=none:=by simpa [Addr.add] using World.cell?_spot (hcell 0 (by omega)).1
  subst hspot
  refine ⟨b,off,rfl,World.block_lt_of_cell? W _ (hcell 0 (by omega)).1,fun j hj=> ?_⟩
  have hj':j < m:=by omega
  obtain ⟨c0,c1,_,_⟩:=hcell j hj'
  obtain ⟨t0,e0⟩:=s0 j hj'
  obtain ⟨t1,e1⟩:=s1 j hj'
  rw [add_plain,e0] at c0
  rw [add_plain,e1] at c1
  rw [List.getD_eq_getElem?_getD,List.getElem?_map,List.getElem?_range hj,Option.map_some,Option.getD_some,c0,e0,e1]
  rw [←Nat.add_assoc] at c1
  rw [c1]
  exact ⟨rfl,rfl⟩
end Go.Proofs.YtmaldbpmnneaaaaGreatDoor
