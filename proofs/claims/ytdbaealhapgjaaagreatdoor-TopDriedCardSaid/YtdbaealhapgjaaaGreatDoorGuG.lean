/- Parts. -/
import Derived.Test.YtdbaealhapgjaaaGreatDoorGnG
set_option linter.all false
set_option maxRecDepth 100000
set_option maxHeartbeats 8000000
namespace Go.Proofs.YtdbaealhapgjaaaGreatDoor
open Go Go.RowKit Go.Sort

theorem jDc {q x:List UInt8} (h:jAS (some q) x=false):q < x:=by
 simp only [jAS,jtr,bytesLess_eq,Bool.or_eq_false_iff,decide_eq_false_iff_not,beq_eq_false_iff_ne] at h;exact Classical.byContradiction fun hc=>h.2 (List.le_antisymm (List.not_lt.1 hc) (List.not_lt.1 h.1))
theorem jCD:∀{l:List (List UInt8×List UInt8)} {s:Rat} {p:Option (List UInt8)},jBm s p l=0→(∀q,p=some q→∀x∈l,q < x.1)∧l.Pairwise (fun a b=>a.1 < b.1)
 | [],_,_,_=>⟨fun _ _ x hx=>(by simp at hx),List.Pairwise.nil⟩
 | y::r,s,p,h=>by
   rw [jBm] at h;split at h
   ·omega
   ·split at h
    ·omega
    ·rename_i h2
     split at h
     ·omega
     ·split at h
      ·omega
      ·obtain ⟨k1,k2⟩:=jCD h;have k3:=k1 _ rfl;refine ⟨fun q hq x hx=> ?_,List.pairwise_cons.2 ⟨k3,k2⟩⟩;subst hq;have h4:q < y.1:=jDc (by simpa using h2);rcases List.mem_cons.1 hx with rfl|hx
       ·exact h4
       ·exact List.lt_trans h4 (k3 x hx)
theorem jCo {ps:List (List UInt8×List UInt8)} (h:jyU ps=0):(ps.map (·.1)).Nodup:=by
 unfold jyU at h;split at h
 ·omega
 ·split at h
  ·omega
  ·have:=(jCD h).2;rw [List.Nodup,List.pairwise_map];exact this.imp (fun {a b} (hab:a.1 < b.1) (e:a.1=b.1)=>List.lt_irrefl b.1 (by rw [e] at hab;exact hab))
theorem jCA (k:Nat) (hk:0 < k):Dz k 0:=by
 have:1 < 10^k:=Nat.one_lt_pow (by omega) (by omega);exact ⟨by simpa using (by omega),by simpa using (by omega)⟩
theorem jDy {m:Int} (h:1≤m∧m≤999999999):Dz 9 ((m:Int):Rat):=⟨by simp;omega,by simp⟩
theorem jD9 (a b:List (List UInt8×Rat)) (y:List UInt8):tot (a++b) y=tot a y+tot b y:=by
 induction a with
 | nil=>simp [tot,Rat.zero_add]
 | cons p r ih=>rw [List.cons_append,tot,ih,tot,Rat.add_assoc]
theorem jCX {k:Nat} (hk:0 < k) (y:List UInt8):∀{cs:List (List UInt8×Rat)},(cs.map (·.1)).Nodup→(∀c∈cs,Dz k c.2)→Dz k (tot cs y)
 | [],_,_=>jCA k hk
 | p::r,hn,h=>by
   rw [List.map_cons,List.nodup_cons] at hn;have ih:=jCX hk y hn.2 (fun c hc=>h c (List.mem_cons_of_mem _ hc));rw [tot];by_cases e:p.1=y
   ·rw [if_pos e,jzy (by
     rw [←Bool.not_eq_true];intro hh;obtain ⟨c,hc,he⟩:=List.any_eq_true.1 hh
     exact hn.1 (List.mem_map.2 ⟨c,hc,by rw [e];simpa using he⟩)),Rat.add_zero]
    exact h p (List.mem_cons_self ..)
   ·rw [if_neg e,Rat.zero_add];exact ih
structure RMix (w:World) (A:Option Addr) (n:Nat) (ls:List Lay) (d:Nat):Prop where
 view:Lv w A n ls
 ok:∀x∈ls,jyQ x=0
 dz:∀x∈ls,∀p∈x.shares,Dz d (numQ p.2)
 d0:0 < d
 lim:(n+2)*(d+10)≤9000
 nle:n≤100
section
variable {w:World} {A:Option Addr} {n d:Nat} {ls:List Lay}
theorem RMix.below {W:World} (h:RMix w A n ls d) (hb:Below w.heap.size w W):RMix W A n ls d:=⟨h.view.below hb,h.ok,h.dz,h.d0,h.lim,h.nle⟩
theorem RMix.nums (h:RMix w A n ls d):0 < (n+2)*(d+10)∧d≤9000∧0 < d+9∧d+9≤9000:=by
 have h1:=h.lim;have h2:d+10≤(n+2)*(d+10):=Nat.le_mul_of_pos_left _ (by omega);obtain ⟨x,hx⟩:∃x,(n+2)*(d+10)=x:=⟨_,rfl⟩;rw [hx] at h1 h2 ⊢;omega
theorem RMix.layer (h:RMix w A n ls d) {i:Nat} (hi:i < n):(ls.getD i jyL)∈ls∧(1≤(ls.getD i jyL).mass∧(ls.getD i jyL).mass≤999999999)∧(ls.getD i jyL).shares.length≤64∧jyU (ls.getD i jyL).shares=0:=by
 have hm:=jzb (d:=jyL) (show i < ls.length by rw [h.view.len];exact hi);have h1:=jyJ (h.ok _ hm);exact ⟨hm,⟨h1.2.1,h1.2.2.1⟩,(jyP h1.2.2.2).1.2,h1.2.2.2⟩
theorem RMix.cdz (h:RMix w A n ls d) {x:Lay} (hx:x∈ls) {k:Nat} {c:List UInt8×Rat} (hc:c∈jyO x.mass (x.shares.take k)):Dz (d+9) c.2:=by
 unfold jyO at hc;obtain ⟨p,hp,rfl⟩:=List.mem_map.1 hc;have h1:=jyJ (h.ok _ hx);exact (h.dz x hx p (List.mem_of_mem_take hp)).mul (jDy ⟨h1.2.1,h1.2.2.1⟩)
theorem RMix.tdz (h:RMix w A n ls d) {x:Lay} (hx:x∈ls) (k:Nat) (y:List UInt8):Dz (d+9) (tot (jyO x.mass (x.shares.take k)) y):=by
 have hn:=jCo (jyJ (h.ok _ hx)).2.2.2;refine jCX (by have:=h.d0;omega) y ?_ (fun c hc=>h.cdz hx hc);have:(jyO x.mass (x.shares.take k)).map (·.1)=(x.shares.map (·.1)).take k:=by unfold jyO;rw [List.map_map,List.map_take];rfl
 rw [this];exact hn.sublist (List.take_sublist k _)
theorem RMix.idz (h:RMix w A n ls d) (y:List UInt8):∀{i:Nat},i≤n→Dz (i*(d+10)+1) (tot (jyG (ls.take i)) y)
 | 0,_=>by simpa [jyG,tot] using jCA 1 (by omega)
 | i+1,hi=>by
   have h1:=RMix.idz h y (i:=i) (by omega);have hm:=(h.layer (i:=i) (by omega)).1;have h2:=h.tdz hm (ls.getD i jyL).shares.length y;rw [List.take_length] at h2;rw [←jAu (by rw [h.view.len];omega) rfl,jD9];exact (h1.add h2).mono (by rw [Nat.add_mul];omega)
theorem RMix.all (h:RMix w A n ls d) (y:List UInt8):Dz (n*(d+10)+1) (tot (jyG ls) y):=by
 have:=h.idz y (Nat.le_refl n);rwa [List.take_of_length_le (by rw [h.view.len];omega)] at this
theorem jDd:∀{cs:List (List UInt8×Rat)} {ks:List (List UInt8)},ks.Nodup→(∀x∈ks,jzc cs x=true)→ks.length≤cs.length
 | [],ks,_,hm=>by
   cases ks with
   | nil=>simp
   | cons y r=>exact absurd (hm y (List.mem_cons_self ..)) (by simp [jzc])
 | p::r,ks,hn,hm=>by
   have h1:=jDd (cs:=r) (ks:=ks.erase p.1) (hn.erase _) (fun x hx=>by
    obtain ⟨k1,k2⟩:=hn.mem_erase_iff.1 hx;have:=hm x k2;simp only [jzc,List.any_cons,Bool.or_eq_true,beq_iff_eq] at this ⊢
    exact this.resolve_left fun e=>k1 e.symm)
   by_cases hp:p.1∈ks
   ·rw [List.length_erase_of_mem hp] at h1;rw [List.length_cons];omega
   ·rw [List.erase_of_not_mem hp] at h1;rw [List.length_cons];omega
end

section
variable {w:World} {A:Option Addr} {n d c:Nat} {ls:List Lay} {ks:List (List UInt8)}
end

section
variable {w:World} {A:Option Addr} {n c:Nat} {ls:List Lay} {k:Int}
end
end Go.Proofs.YtdbaealhapgjaaaGreatDoor
