/- Orphans as a row: who stands behind whom. -/
import Derived.Test.YtdkcjalmhdofcaaGreatDoorCfg
import Derived.Test.YtdkcjalmhdofcaaGreatDoorObg
import Derived.Test.YtdkcjalmhdofcaaGreatDoorIpu
set_option linter.unusedSimpArgs false
set_option linter.unusedVariables false
set_option linter.unusedSectionVars false
namespace Go.Proofs.YtdkcjalmhdofcaaGreatDoor
def nxt:List Nat→Nat→Nat
 | [],_=>0
 | x :: l,i=>if x=i then l.headD 0 else nxt l i
theorem Zh6:∀ {l:List Nat} {i:Nat},nxt l i=0∨nxt l i∈l
 | [],_=>.inl rfl
 | x :: l,i=>by
  unfold nxt
  split
  ·cases l with
   | nil=>exact .inl rfl
   | cons y l=>exact .inr (by simp)
  ·rcases Zh6 (l:=l) (i:=i) with h|h
   ·exact .inl h
   ·exact .inr (List.mem_cons_of_mem _ h)
theorem Nc:∀ {l:List Nat} {i:Nat},i ∉ l→nxt l i=0
 | [],_,_=>rfl
 | x :: l,i,h=>by
  rw[List.mem_cons,not_or] at h
  unfold nxt
  rw[if_neg (Ne.symm h.1),Nc h.2]
theorem Zdl:∀ {l:List Nat} {k:Nat} {x:Nat},l.Nodup→l[k]? = some x→nxt l x=(l[k+1]?).getD 0
 | [],_,_,_,h=>by simp at h
 | y :: l,0,x,_,h=>by
  obtain rfl:y=x:=by simpa using h
  unfold nxt
  rw[if_pos rfl]
  cases l<;>rfl
 | y :: l,k+1,x,hn,h=>by
  rw[List.nodup_cons] at hn
  have hx:l[k]? = some x:=by simpa using h
  have:y≠x:=fun e=>hn.1 (e ▸ List.mem_of_getElem? hx)
  unfold nxt
  rw[if_neg this,Zdl hn.2 hx]
  simp
theorem Zx4 {l:List Nat} {i j:Nat}:nxt (i :: l) j=if j=i then l.headD 0 else nxt l j:=by
 show (if i=j then _ else _)=_
 by_cases e:j=i
 ·rw[if_pos e,if_pos e.symm]
 ·rw[if_neg e,if_neg (Ne.symm e)]
def wo (l:List Nat) (i:Nat):List Nat:=l.filter fun x=>decide (x≠i)
theorem Qw:∀ {l:List Nat} {i:Nat},i ∉ l→wo l i=l
 | [],_,_=>rfl
 | x :: l,i,h=>by
  rw[List.mem_cons,not_or] at h
  unfold wo
  rw[List.filter_cons,if_pos (by simpa using Ne.symm h.1)]
  congr 1
  exact Qw h.2
theorem Zin {l:List Nat} {i x:Nat}:x∈wo l i ↔ x∈l∧x≠i:=by
 unfold wo
 rw[List.mem_filter]
 simp
theorem Zkg {l:List Nat} {i:Nat} (h:l.Nodup):(wo l i).Nodup:=h.filter _
theorem Zc7 {x i:Nat} {l:List Nat}:wo (x :: l) i=if x=i then wo l i else x :: wo l i:=by
 unfold wo
 rw[List.filter_cons]
 by_cases e:x=i
 ·rw[if_pos e,if_neg (by simp [e])]
 ·rw[if_neg e,if_pos (by simpa using e)]
theorem Zof:∀ {l:List Nat} {i:Nat},l.Nodup→i∈l→i≠0→0 ∉ l→∀ j,j≠i→nxt (wo l i) j=if nxt l j=i then nxt l i else nxt l j
 | [],_,_,h,_,_,_,_=>by simp at h
 | x :: r,i,hn,hi,i0,z,j,hj=>by
  rw[List.nodup_cons] at hn
  rw[List.mem_cons,not_or] at z
  rw[Zc7]
  by_cases e:x=i
  ·subst e
   rw[if_pos rfl,Qw hn.1]
   have q:nxt (x :: r) j=nxt r j:=by show (if x=j then _ else _)=_; rw[if_neg (Ne.symm hj)]
   rw[q,if_neg]
   intro w
   rcases Zh6 (l:=r) (i:=j) with h|h
   ·rw[w] at h; exact i0 h
   ·rw[w] at h; exact hn.1 h
  ·have hr:i∈r:=by
    rcases List.mem_cons.1 hi with h|h
    ·exact absurd h.symm e
    ·exact h
   rw[if_neg e]
   have qi:nxt (x :: r) i=nxt r i:=by show (if x=i then _ else _)=_; rw[if_neg e]
   rw[qi]
   by_cases ej:x=j
   ·subst ej
    have q1:nxt (x :: wo r i) x=(wo r i).headD 0:=by show (if x=x then _ else _)=_; rw[if_pos rfl]
    have q2:nxt (x :: r) x=r.headD 0:=by show (if x=x then _ else _)=_; rw[if_pos rfl]
    rw[q1,q2]
    cases r with
    | nil=>simp at hr
    | cons y s =>
     rw[List.nodup_cons] at hn
     rw[Zc7]
     by_cases ey:y=i
     ·subst ey
      rw[if_pos rfl,Qw hn.2.1]
      show s.headD 0=if y=y then nxt (y :: s) y else y
      rw[if_pos rfl]
      show _=if y=y then s.headD 0 else _
      rw[if_pos rfl]
     ·rw[if_neg ey]
      show y=if y=i then _ else y
      rw[if_neg ey]
   ·have q1:nxt (x :: wo r i) j=nxt (wo r i) j:=by show (if x=j then _ else _)=_; rw[if_neg ej]
    have q2:nxt (x :: r) j=nxt r j:=by show (if x=j then _ else _)=_; rw[if_neg ej]
    rw[q1,q2]
    exact Zof hn.2 hr i0 z.2 j hj
theorem Zll {l:List Nat} {k i p:Nat} (hn:l.Nodup) (z:0 ∉ l) (hk:l[k+1]? = some i) (hp:l[k]? = some p) (j:Nat):nxt l j=i ↔ j=p:=by
 have i0:i≠0:=fun e=>z (e ▸ List.mem_of_getElem? hk)
 constructor
 ·intro h
  by_cases hj:j∈l
  ·obtain⟨m,hm⟩:=List.mem_iff_getElem?.1 hj
   rw[Zdl hn hm] at h
   cases hm1:l[m+1]? with
   | none=>rw[hm1] at h; exact absurd h.symm i0
   | some y =>
    rw[hm1] at h
    have h:y=i:=h
    subst h
    have:m+1=k+1:=(List.getElem?_inj (by
     rcases Nat.lt_or_ge (m+1) l.length with q|q
     ·exact q
     ·rw[List.getElem?_eq_none q] at hm1; cases hm1) hn).1 (hm1.trans hk.symm)
    obtain rfl:m=k:=by omega
    rw[hp] at hm
    exact (Option.some.inj hm).symm
  ·rw[Nc hj] at h
   exact absurd h.symm i0
 ·rintro rfl
  rw[Zdl hn hp,hk]
  rfl
theorem Zq7 {l:List Nat} {i:Nat} (hn:l.Nodup) (z:0 ∉ l) (h0:l[0]? = some i) (j:Nat):nxt l j≠i:=by
 have i0:i≠0:=fun e=>z (e ▸ List.mem_of_getElem? h0)
 intro h
 by_cases hj:j∈l
 ·obtain⟨m,hm⟩:=List.mem_iff_getElem?.1 hj
  rw[Zdl hn hm] at h
  cases hm1:l[m+1]? with
  | none=>rw[hm1] at h; exact i0 h.symm
  | some y =>
   rw[hm1] at h
   have h:y=i:=h
   subst h
   have:m+1=0:=(List.getElem?_inj (by
    rcases Nat.lt_or_ge (m+1) l.length with q|q
    ·exact q
    ·rw[List.getElem?_eq_none q] at hm1; cases hm1) hn).1 (hm1.trans h0.symm)
   omega
 ·rw[Nc hj] at h
  exact i0 h.symm
end Go.Proofs.YtdkcjalmhdofcaaGreatDoor
set_option maxRecDepth 100000
set_option maxHeartbeats 4000000
namespace Go.Proofs.YtdkcjalmhdofcaaGreatDoor
open Go.Ev
theorem Ziy {a b c e:Nat} {V:Nat→List Nat} {z:Nat} {x:List Nat} (ne:∀ j,j<a * c→Y6 b c e j≠z) (i:Int):gI a b c e (Gi V z x) i=gI a b c e V i:=by
 unfold gI
 by_cases h:1≤i∧i≤((a * c:Nat):Int)
 ·rw[if_pos h,if_pos h,Gq (ne _ (by omega))]
 ·rw[if_neg h,if_neg h]
theorem Zp5 {a b c e j k l g s p0 p1 p2 p3 p4 p5 p6 p7 p8 p9 p10 nx:Nat} {V:Nat→List Nat} (jl:j<a * c) (sl:(V (Y6 b c e j)).length=256) (kb:k<256) (lb:l<65536) (gb:g<4294967296) (sb:s<4294967296) (pb:∀ v∈[p0,p1,p2,p3,p4,p5,p6,p7,p8,p9,p10],v<4294967296) (nb:nx<4294967296) (hm:Zet k l s p0 p1 p2 p3 p4 p5 p6 p7 p8 p9 p10 nx=true) :
  gI a b c e (Gi V (Y6 b c e j) (Bh (V (Y6 b c e j)) (Dx c j) k l g s [p0,p1,p2,p3,p4,p5,p6,p7,p8,p9,p10] nx)) ((j+1:Nat):Int)=(O9 k l g s p0 p1 p2 p3 p4 p5 p6 p7 p8 p9 p10 nx,0):=by
 have pc:=D7 c j
 unfold gI
 rw[if_pos ⟨by omega,by omega⟩,show ((j+1:Nat):Int).toNat - 1=j by omega,Fu,Ztj (by omega) kb lb gb sb pb nb hm]
theorem Zjp {a b c e i j k l g s nx:Nat} {ps:List Nat} {V:Nat→List Nat} (F:Fine a b c e) (sl:(V (Y6 b c e j)).length=256) (ne:i≠j) (pl:ps.length=11) :
  gI a b c e (Gi V (Y6 b c e j) (Bh (V (Y6 b c e j)) (Dx c j) k l g s ps nx)) ((i+1:Nat):Int)=gI a b c e V ((i+1:Nat):Int):=by
 unfold gI
 by_cases h:1≤((i+1:Nat):Int)∧((i+1:Nat):Int)≤((a * c:Nat):Int)
 ·rw[if_pos h,if_pos h,show ((i+1:Nat):Int).toNat - 1=i by omega]
  by_cases q:Y6 b c e i=Y6 b c e j
  ·have p:=Zvz F ne q
   have c1:=D7 c j
   have c2:=D7 c i
   rw[q,Fu,Zkk (by rw[sl]; omega) (by rw[sl]; omega) pl (by omega)]
  ·rw[Gq q]
 ·rw[if_neg h,if_neg h]
theorem Zeg {a b c e:Nat} (F:Fine a b c e) {z:Nat} (hz:z<2+e∨∃ k,z=2+e+k * b+1∨z=2+e+k * b):∀ j,j<a * c→Y6 b c e j≠z:=fun j hj q=>by
 obtain⟨g1,g2,g3,g4,g5,g6,g7,g8,g9,g10,g11⟩:=F
 have tc:j % c<c:=Nat.mod_lt _ (by omega)
 unfold Y6 at q
 rcases hz with hz|⟨k,hz⟩
 ·omega
 ·have:j / c=k∨j / c<k∨k<j / c:=by omega
  rcases this with h1|h1|h1
  ·rw[h1] at q; omega
  ·have:=Nat.mul_le_mul_right b (Nat.succ_le_of_lt h1)
   rw[Nat.succ_mul] at this
   omega
  ·have:=Nat.mul_le_mul_right b (Nat.succ_le_of_lt h1)
   rw[Nat.succ_mul] at this
   omega
end Go.Proofs.YtdkcjalmhdofcaaGreatDoor
