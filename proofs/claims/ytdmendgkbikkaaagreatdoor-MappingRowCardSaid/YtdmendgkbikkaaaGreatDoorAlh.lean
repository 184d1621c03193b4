/- A store's data blocks are given one behind the other, where none was given back. -/
import Derived.Test.YtdmendgkbikkaaaGreatDoorBtd
import Derived.Test.YtdmendgkbikkaaaGreatDoorMpd
import Derived.Test.YtdmendgkbikkaaaGreatDoorIbn
set_option linter.unusedSimpArgs false
set_option linter.unusedVariables false
set_option linter.unusedSectionVars false
set_option maxRecDepth 100000
set_option maxHeartbeats 4000000
namespace Go.Proofs.YtdmendgkbikkaaaGreatDoor
open Go.Ev
def fF (b c:Nat):Nat:=b - 2 - c / 4
def Zbo (b c e m:Nat):Nat:=2+e+m / fF b c * b+(2+c / 4+m % fF b c)
def gG (b c m k j:Nat):Bool:=decide (j<2+c / 4+min (fF b c) (m - k * fF b c)) || decide (b≤j)
def DG (a b c:Nat) (iw:Nat→Nat × Nat) (m:Nat):List Oi:=(List.range a).map fun k=>(fF b c - min (fF b c) (m - k * fF b c),iw k)
def AlG (a b c e:Nat) (iw:Nat→Nat × Nat) (V:Nat→List Nat) (m:Nat):Prop:=Bmp a b c e V (DG a b c iw m) (gG b c m)
def mtG (a b e z:Nat):Prop:=z=1∨∃ k,k<a∧z=2+e+k * b
def Z0d (c:Nat) (iw:Nat→Nat × Nat):Prop:=∀ k,(iw k).2+(iw k).1≤c
section
variable {a b c e:Nat} {iw:Nat→Nat × Nat} {V:Nat→List Nat} {m:Nat}
theorem Zqg {k:Nat} (ka:k<a):(DG a b c iw m)[k]? = some (fF b c - min (fF b c) (m - k * fF b c),iw k):=by
 unfold DG
 rw[List.getElem?_map,List.getElem?_range ka]
 rfl
theorem Zbm:(DG a b c iw m).length=a:=by unfold DG; rw[List.length_map,List.length_range]
theorem Znl (h:Z0d c iw):(DG a b c iw m).all (Zan (b - 2 - c / 4) c)=true:=by
 unfold DG
 rw[List.all_map]
 refine List.all_eq_true.2 fun k _=>?_
 have:=h k
 show Zan (b - 2 - c / 4) c (fF b c - min (fF b c) (m - k * fF b c),iw k)=true
 simp only[Zan]
 rw[Wn (by unfold fF; omega),Wn (by omega),Wn this]
 rfl
theorem Zsi (f:Y2 a b c e=true) {D:List Oi} (Dl:D.length=a) (Dm:D.all (Zan (b - 2 - c / 4) c)=true):goodD (Zny D) a b c=true∧Be (Zny D) a 0=D:=by
 obtain⟨_,h1,h2⟩:=Zsh f Dl Dm
 unfold Zsg at h1 h2
 rw[Ga] at h1 h2
 rw[Rh] at h1
 rw[Mg] at h2
 exact⟨h1,h2⟩
theorem Z0n {k m F:Nat} (h:m / F=k) (hF:0<F):k * F≤m∧m<k * F+F∧m - k * F=m % F:=by
 have:=Nat.div_add_mod m F
 have h2:=Nat.mod_lt m hF
 rw[h,Nat.mul_comm] at this
 omega
theorem Np {k k' F:Nat} (h:k<k'):k * F+F≤k' * F:=by
 have:=Nat.mul_le_mul_right F (Nat.succ_le_of_lt h)
 rwa [Nat.succ_mul] at this
theorem Zz3 {k:Nat} (hF:0<fF b c) (hk:m / fF b c=k):Zch (gG b c m k) (2+c / 4+m % fF b c)=gG b c (m+1) k:=by
 obtain⟨h1,h2,h3⟩:=Z0n hk hF
 have h4:=Nat.mod_lt m hF
 have h5:m+1 - k * fF b c=m % fF b c+1:=by omega
 funext j
 unfold Zch gG
 rw[h3,h5,Bool.eq_iff_iff]
 simp only[Bool.or_eq_true,decide_eq_true_eq]
 omega
theorem Zvv {k k':Nat} (hF:0<fF b c) (hk:m / fF b c=k) (ne:k'≠k):gG b c (m+1) k'=gG b c m k'∧min (fF b c) (m+1 - k' * fF b c)=min (fF b c) (m - k' * fF b c):=by
 obtain⟨h1,h2,h3⟩:=Z0n hk hF
 have e:min (fF b c) (m+1 - k' * fF b c)=min (fF b c) (m - k' * fF b c):=by
  rcases Nat.lt_or_gt_of_ne ne with q|q
  ·have:=Np (F:=fF b c) q; omega
  ·have:=Np (F:=fF b c) q; omega
 refine⟨?_,e⟩
 funext j
 unfold gG
 rw[e]
theorem Z2b {k:Nat} (hF:0<fF b c) (hk:m / fF b c=k) (ka:k<a):(DG a b c iw m).set k (fF b c - m % fF b c - 1,iw k)=DG a b c iw (m+1):=by
 obtain⟨h1,h2,h3⟩:=Z0n hk hF
 have h4:=Nat.mod_lt m hF
 apply List.ext_getElem?
 intro i
 rcases Nat.lt_or_ge i a with q|q
 ·by_cases e:i=k
  ·subst e
   rw[List.getElem?_set_self (by rw[Zbm]; exact q),Zqg q]
   congr 2
   omega
  ·rw[List.getElem?_set_ne (Ne.symm e),Zqg q,Zqg q,(Zvv hF hk e).2]
 ·rw[List.getElem?_eq_none (by rw[List.length_set,Zbm]; exact q),List.getElem?_eq_none (by rw[Zbm]; exact q)]
theorem AlG.step (f:Y2 a b c e=true) (io:Z0d c iw) (A:AlG a b c e iw V m) (hF:0<fF b c) {k:Nat} (hk:m / fF b c=k) (ka:k<a):AlG a b c e iw (Zg4 b e V (DG a b c iw m) (gG b c m) k (2+c / 4+m % fF b c) (fF b c - m % fF b c) (iw k).1 (iw k).2) (m+1):=by
 obtain⟨g1,g2,g3,g4,g5,g6,g7,g8,g9,g10,g11⟩:=Yh f
 obtain⟨gd,td⟩:=Zsi f (D:=DG a b c iw (m+1)) Zbm (Znl io)
 unfold Zg4
 have es:(DG a b c iw m).set k (fF b c - m % fF b c - 1,(iw k).1,(iw k).2)=DG a b c iw (m+1):=Z2b hF hk ka
 rw[es,Zz3 hF hk]
 refine⟨fun k' hk'=>?_,⟨by rw[Bv]; exact gd,by rw[Bv]; exact td,Zbm⟩,Znl io⟩
 rw[Bf (by omega)]
 by_cases e:k'=k
 ·subst e
  rw[Bv]
 ·rw[Bf (fun w=>by
   rcases Nat.lt_or_gt_of_ne e with q|q
   ·have:=Np (F:=b) q; omega
   ·have:=Np (F:=b) q; omega),(Zvv hF hk e).1]
  exact A.bm k' hk'
theorem Zji (f:Y2 a b c e=true):0<fF b c∧2+c / 4+fF b c=b:=by
 obtain⟨g1,g2,g3,g4,g5,g6,g7,g8,g9,g10,g11⟩:=Yh f
 unfold fF
 omega
theorem Zqr (f:Y2 a b c e=true) (h:m<a * fF b c):m / fF b c<a∧Zbo b c e m<2+e+a * b∧2+e≤Zbo b c e m:=by
 obtain⟨p1,p2⟩:=Zji f
 have ka:m / fF b c<a:=Nat.div_lt_of_lt_mul (by rw[Nat.mul_comm]; exact h)
 have:=Nat.mod_lt m p1
 have st:=Zao (b:=b) ka
 refine⟨ka,?_,?_⟩
 ·unfold Zbo; omega
 ·unfold Zbo; omega
theorem Zlb (f:Y2 a b c e=true) {k r:Nat} (hr:r<2+c / 4):Zbo b c e m≠2+e+k * b+r:=fun w=>by
 obtain⟨p1,p2⟩:=Zji f
 have:=Nat.mod_lt m p1
 unfold Zbo at w
 rcases Nat.lt_trichotomy (m / fF b c) k with q|q|q
 ·have:=Np (F:=b) q; omega
 ·rw[q] at w; omega
 ·have:=Np (F:=b) q; omega
theorem Zla (f:Y2 a b c e=true) {m':Nat} (h:Zbo b c e m=Zbo b c e m'):m=m':=by
 obtain⟨p1,p2⟩:=Zji f
 have h1:=Nat.mod_lt m p1
 have h2:=Nat.mod_lt m' p1
 have d1:=Nat.div_add_mod m (fF b c)
 have d2:=Nat.div_add_mod m' (fF b c)
 unfold Zbo at h
 rcases Nat.lt_trichotomy (m / fF b c) (m' / fF b c) with q|q|q
 ·have:=Np (F:=b) q; omega
 ·rw[q] at h d1
  omega
 ·have:=Np (F:=b) q; omega
section
variable (Hh:Hearts K Tryz.prog)
include Hh
variable {n q:Nat} {cr:Cr} [Opn cr] {md:Int} {S:List Nat} {cap:Nat} {h:Go.Ev.H} {T:List Nat}
theorem Z6b (f:Y2 a b c e=true) (io:Z0d c iw) {lo:Nat} (cF:lo+cap≤a * fF b c) (s1:1∈S) (s2:∀ m,m<cap→2+e+(lo+m) / fF b c * b∈S):AlcV n q a b c e cr md S (fun V m=>AlG a b c e iw V (lo+m)) (fun m=>Zbo b c e (lo+m)) cap (mtG a b e) (fun near=>near<9223372036854775808∧Du a b c e near * fF b c≤lo):=by
 obtain⟨p1,p2⟩:=Zji f
 have FF:=Yh f
 refine⟨fun {V h T m near} M A mc nr hT=>?_,fun {V m z x} A hz=>?_,fun m mc=>?_,fun m m' _ _ e=>Nat.add_left_cancel (Zla f e)⟩
 ·obtain⟨ka,b1,b2⟩:=Zqr f (show lo+m<a * fF b c by omega)
  obtain⟨k,hk⟩:∃ k,(lo+m) / fF b c=k:=⟨_,rfl⟩
  obtain⟨h1,h2,h3⟩:=Z0n hk p1
  have h4:=Nat.mod_lt (lo+m) p1
  have sk:=s2 m mc
  rw[hk] at ka sk
  obtain⟨g,hg⟩:∃ g,Du a b c e near=g:=⟨_,rfl⟩
  have gk:g≤k:=by
   have:=nr.2
   rw[hg] at this
   rcases Nat.lt_or_ge k g with w|w
   ·have:=Np (F:=fF b c) w; omega
   ·exact w
  have F:FreeG b c (DG a b c iw (lo+m)) (gG b c (lo+m)) k (2+c / 4+(lo+m) % fF b c) (fF b c - (lo+m) % fF b c) (iw k).1 (iw k).2:=by
   refine⟨by omega,by omega,fun j h1 h2=>?_,?_,?_,by omega⟩
   ·unfold gG
    rw[h3,decide_eq_true (by omega)]
    rfl
   ·unfold gG
    rw[h3,decide_eq_false (by omega),decide_eq_false (by omega)]
    rfl
   ·rw[Zqg ka,h3]
    congr 2
    omega
  obtain⟨h',c',M',k'⟩:=Z2k Hh f M A (near:=near) nr.1 (j:=k - g) (k:=k) (by omega) (fun i hi=>by
   rw[hg,Nat.mod_eq_of_lt (by omega)]
   intro j q1 q2
   have:=Np (F:=fF b c) (show g+i<k by omega)
   unfold gG
   rw[decide_eq_true (by omega)]
   rfl) (by rw[hg,show g+(k - g)=k by omega,Nat.mod_eq_of_lt ka]) F ⟨s1,hT 1 (.inl rfl)⟩ ⟨sk,hT _ (.inr ⟨k,ka,rfl⟩)⟩
  refine⟨h',_,?_,M',k',A.step f io p1 hk ka,fun z hz=>?_⟩
  ·have e1:2+e+k * b+(2+c / 4+(lo+m) % fF b c)=Zbo b c e (lo+m):=by unfold Zbo; rw[hk]
   rw[e1] at c'
   exact c'
  ·unfold Zg4
   rw[Bf (fun w=>hz (.inl w)),Bf (fun w=>hz (.inr ⟨k,ka,w⟩))]
 ·obtain⟨bm,⟨d1,d2,d3⟩,my⟩:=A
  refine⟨fun k hk=>?_,⟨?_,?_,d3⟩,my⟩
  ·rw[Bf (fun w=>hz (.inr ⟨k,hk,w.symm⟩))]; exact bm k hk
  ·rw[Bf (fun w=>hz (.inl w.symm))]; exact d1
  ·rw[Bf (fun w=>hz (.inl w.symm))]; exact d2
 ·obtain⟨ka,b1,b2⟩:=Zqr f (show lo+m<a * fF b c by omega)
  refine⟨V3 FF b2 b1,b1,by omega,fun w=>?_⟩
  rcases w with w|⟨k,_,w⟩
  ·omega
  ·exact Zlb (m:=lo+m) f (k:=k) (r:=0) (by omega) w
end
def iw0 (c k:Nat):Nat × Nat:=if k=0 then (c - 1,1) else (c,0)
theorem Zv9 (hc:1≤c):Z0d c (iw0 c):=fun k=>by
 unfold iw0
 split
 ·show 1+(c - 1)≤c; omega
 ·show 0+c≤c; omega
end
end Go.Proofs.YtdmendgkbikkaaaGreatDoor
