/- A store's data blocks are given one behind the other, where none was given back. -/
import Derived.Test.YteiljiijagmonaaGreatDoorBtd
import Derived.Test.YteiljiijagmonaaGreatDoorIbn
set_option maxRecDepth 100000
set_option maxHeartbeats 4000000
set_option linter.unusedSimpArgs false
set_option linter.unusedVariables false
set_option linter.unusedSectionVars false
namespace Go.Proofs.YteiljiijagmonaaGreatDoor
open Go.Ev
def fF (b c:Nat):Nat:=b - 2 - c / 4
def Wv (b c e m:Nat):Nat:=2+e+m / fF b c * b+(2+c / 4+m % fF b c)
def gG (b c m k j:Nat):Bool:=decide (j<2+c / 4+min (fF b c) (m - k * fF b c)) || decide (b<=j)
def DG (a b c:Nat) (iw:Nat->Nat × Nat) (m:Nat):List Oq:=(List.range a).map fun k=>(fF b c - min (fF b c) (m - k * fF b c),iw k)
def AlG (a b c e:Nat) (iw:Nat->Nat × Nat) (V:Nat->Lq) (m:Nat):Prop:=Bmp a b c e V (DG a b c iw m) (gG b c m)
def mtG (a b e z:Nat):Prop:=z=1\/∃ k,k<a/\z=2+e+k * b
def Zzn (c:Nat) (iw:Nat->Nat × Nat):Prop:=∀ k,(iw k).2+(iw k).1<=c
section
variable {a b c e:Nat} {iw:Nat->Nat × Nat} {V:Nat->Lq} {m:Nat}
theorem Zcb {k:Nat} (ka:k<a):(DG a b c iw m)[k]? = some (fF b c - min (fF b c) (m - k * fF b c),iw k):=by
 unfold DG
 rw[List.getElem?_map,List.getElem?_range ka]
 rfl
theorem M6:(DG a b c iw m).length=a:=by unfold DG; rw[List.length_map,List.length_range]
theorem Zgb (h:Zzn c iw):(DG a b c iw m).all (Qr (b - 2 - c / 4) c)=true:=by
 unfold DG
 rw[List.all_map]
 refine List.all_eq_true.2 fun k _=>?_
 have:=h k
 show Qr (b - 2 - c / 4) c (fF b c - min (fF b c) (m - k * fF b c),iw k)=true
 simp only[Qr]
 rw[Ze1 (by unfold fF; omega),Ze1 oM,Ze1 this]
 rfl
theorem Zj7 (f:Y1 a b c e=true) {D:List Oq} (Dl:D.length=a) (Dm:D.all (Qr (b - 2 - c / 4) c)=true):goodD (Zgw D) a b c=true/\Dc (Zgw D) a 0=D:=by
 obtain⟨_,h1,h2⟩:=Zvz f Dl Dm
 unfold Zvy at h1 h2
 rw[Gh] at h1 h2
 rw[Tq] at h1
 rw[Re] at h2
 exact⟨h1,h2⟩
theorem Zwc {k m F:Nat} (h:m / F=k) (hF:0<F):k * F<=m/\m<k * F+F/\m - k * F=m % F:=by
 have:=Nat.div_add_mod m F
 have h2:=Nat.mod_lt m hF
 rw[h,Nat.mul_comm] at this
 omega
theorem Na {k k' F:Nat} (h:k<k'):k * F+F<=k' * F:=by
 have:=Nat.mul_le_mul_right F (Nat.succ_le_of_lt h)
 rwa [Nat.succ_mul] at this
theorem Z3o {k:Nat} (hF:0<fF b c) (hk:m / fF b c=k):Zes (gG b c m k) (2+c / 4+m % fF b c)=gG b c (m+1) k:=by
 obtain⟨h1,h2,h3⟩:=Zwc hk hF
 have h4:=Nat.mod_lt m hF
 have h5:m+1 - k * fF b c=m % fF b c+1:=oM
 funext j
 unfold Zes gG
 rw[h3,h5,Bool.eq_iff_iff]
 simp only[Bool.or_eq_true,decide_eq_true_eq]
 omega
theorem Zme {k k':Nat} (hF:0<fF b c) (hk:m / fF b c=k) (ne:k'≠k):gG b c (m+1) k'=gG b c m k'/\min (fF b c) (m+1 - k' * fF b c)=min (fF b c) (m - k' * fF b c):=by
 obtain⟨h1,h2,h3⟩:=Zwc hk hF
 have e:min (fF b c) (m+1 - k' * fF b c)=min (fF b c) (m - k' * fF b c):=by
  rcases Nat.lt_or_gt_of_ne ne with q|q
  ·have:=Na (F:=fF b c) q; omega
  ·have:=Na (F:=fF b c) q; omega
 refine⟨?_,e⟩
 funext j
 unfold gG
 rw[e]
theorem Z51 {k:Nat} (hF:0<fF b c) (hk:m / fF b c=k) (ka:k<a):(DG a b c iw m).set k (fF b c - m % fF b c - 1,iw k)=DG a b c iw (m+1):=by
 obtain⟨h1,h2,h3⟩:=Zwc hk hF
 have h4:=Nat.mod_lt m hF
 apply List.ext_getElem?
 intro i
 rcases Nat.lt_or_ge i a with q|q
 ·by_cases e:i=k
  ·subst e
   rw[List.getElem?_set_self (by rw[M6]; exact q),Zcb q]
   congr 2
   omega
  ·rw[List.getElem?_set_ne (Ne.symm e),Zcb q,Zcb q,(Zme hF hk e).2]
 ·rw[List.getElem?_eq_none (by rw[List.length_set,M6]; exact q),List.getElem?_eq_none (by rw[M6]; exact q)]
theorem AlG.step (f:Y1 a b c e=true) (io:Zzn c iw) (A:AlG a b c e iw V m) (hF:0<fF b c) {k:Nat} (hk:m / fF b c=k) (ka:k<a):AlG a b c e iw (Zjr b e V (DG a b c iw m) (gG b c m) k (2+c / 4+m % fF b c) (fF b c - m % fF b c) (iw k).1 (iw k).2) (m+1):=by
 obtain⟨g1,g2,g3,g4,g5,g6,g7,g8,g9,g10,g11⟩:=Ya f
 obtain⟨gd,td⟩:=Zj7 f (D:=DG a b c iw (m+1)) M6 (Zgb io)
 unfold Zjr
 have es:(DG a b c iw m).set k (fF b c - m % fF b c - 1,(iw k).1,(iw k).2)=DG a b c iw (m+1):=Z51 hF hk ka
 rw[es,Z3o hF hk]
 refine⟨fun k' hk'=>?_,⟨by rw[Ov]; exact gd,by rw[Ov]; exact td,M6⟩,Zgb io⟩
 rw[Y9 oM]
 by_cases e:k'=k
 ·subst e
  rw[Ov]
 ·rw[Y9 (fun w=>by
   rcases Nat.lt_or_gt_of_ne e with q|q
   ·have:=Na (F:=b) q; omega
   ·have:=Na (F:=b) q; omega),(Zme hF hk e).1]
  exact A.bm k' hk'
theorem Zg7 (f:Y1 a b c e=true):0<fF b c/\2+c / 4+fF b c=b:=by
 obtain⟨g1,g2,g3,g4,g5,g6,g7,g8,g9,g10,g11⟩:=Ya f
 unfold fF
 omega
theorem Zt2 (f:Y1 a b c e=true) (h:m<a * fF b c):m / fF b c<a/\Wv b c e m<2+e+a * b/\2+e<=Wv b c e m:=by
 obtain⟨p1,p2⟩:=Zg7 f
 have ka:m / fF b c<a:=Nat.div_lt_of_lt_mul (by rw[Nat.mul_comm]; exact h)
 have:=Nat.mod_lt m p1
 have st:=N8 (b:=b) ka
 refine⟨ka,?_,?_⟩
 ·unfold Wv; omega
 ·unfold Wv; omega
theorem Zcg (f:Y1 a b c e=true) {k r:Nat} (hr:r<2+c / 4):Wv b c e m≠2+e+k * b+r:=fun w=>by
 obtain⟨p1,p2⟩:=Zg7 f
 have:=Nat.mod_lt m p1
 unfold Wv at w
 rcases Nat.lt_trichotomy (m / fF b c) k with q|q|q
 ·have:=Na (F:=b) q; omega
 ·rw[q] at w; omega
 ·have:=Na (F:=b) q; omega
theorem Zgo (f:Y1 a b c e=true) {m':Nat} (h:Wv b c e m=Wv b c e m'):m=m':=by
 obtain⟨p1,p2⟩:=Zg7 f
 have h1:=Nat.mod_lt m p1
 have h2:=Nat.mod_lt m' p1
 have d1:=Nat.div_add_mod m (fF b c)
 have d2:=Nat.div_add_mod m' (fF b c)
 unfold Wv at h
 rcases Nat.lt_trichotomy (m / fF b c) (m' / fF b c) with q|q|q
 ·have:=Na (F:=b) q; omega
 ·rw[q] at h d1
  omega
 ·have:=Na (F:=b) q; omega
section
variable (Hh:Hearts K Tryz.prog)
include Hh
variable {n q:Nat} {cr:Cr} [Opn cr] {md:Int} {S:Lq} {cap:Nat} {h:Hq} {T:Lq}
theorem Yam (f:Y1 a b c e=true) (io:Zzn c iw) {lo:Nat} (cF:lo+cap<=a * fF b c) (s1:1∈S) (s2:∀ m,m<cap->2+e+(lo+m) / fF b c * b∈S):AlcV n q a b c e cr md S (fun V m=>AlG a b c e iw V (lo+m)) (fun m=>Wv b c e (lo+m)) cap (mtG a b e) (fun near=>near<9223372036854775808/\Fj a b c e near * fF b c<=lo):=by
 obtain⟨p1,p2⟩:=Zg7 f
 have FF:=Ya f
 refine⟨fun {V h T m near} M A mc nr hT=>?_,fun {V m z x} A hz=>?_,fun m mc=>?_,fun m m' _ _ e=>Nat.add_left_cancel (Zgo f e)⟩
 ·obtain⟨ka,b1,b2⟩:=Zt2 f (show lo+m<a * fF b c by omega)
  obtain⟨k,hk⟩:=xzE ((lo+m) / fF b c)
  obtain⟨h1,h2,h3⟩:=Zwc hk p1
  have h4:=Nat.mod_lt (lo+m) p1
  have sk:=s2 m mc
  rw[hk] at ka sk
  obtain⟨g,hg⟩:=xzE (Fj a b c e near)
  have gk:g<=k:=by
   have:=nr.2
   rw[hg] at this
   rcases Nat.lt_or_ge k g with w|w
   ·have:=Na (F:=fF b c) w; omega
   ·exact w
  have F:FreeG b c (DG a b c iw (lo+m)) (gG b c (lo+m)) k (2+c / 4+(lo+m) % fF b c) (fF b c - (lo+m) % fF b c) (iw k).1 (iw k).2:=by
   refine⟨oM,oM,fun j h1 h2=>?_,?_,?_,oM⟩
   ·unfold gG
    rw[h3,decide_eq_true oM]
    rfl
   ·unfold gG
    rw[h3,decide_eq_false oM,decide_eq_false oM]
    rfl
   ·rw[Zcb ka,h3]
    congr 2
    omega
  obtain⟨h',c',M',k'⟩:=Z6a Hh f M A (near:=near) nr.1 (j:=k - g) (k:=k) oM (fun i hi=>by
   rw[hg,Nat.mod_eq_of_lt oM]
   intro j q1 q2
   have:=Na (F:=fF b c) (show g+i<k by omega)
   unfold gG
   rw[decide_eq_true oM]
   rfl) (by rw[hg,show g+(k - g)=k by omega,Nat.mod_eq_of_lt ka]) F ⟨s1,hT 1 (.inl rfl)⟩ ⟨sk,hT _ (.inr ⟨k,ka,rfl⟩)⟩
  refine⟨h',_,?_,M',k',A.step f io p1 hk ka,fun z hz=>?_⟩
  ·have e1:2+e+k * b+(2+c / 4+(lo+m) % fF b c)=Wv b c e (lo+m):=by unfold Wv; rw[hk]
   rw[e1] at c'
   exact c'
  ·unfold Zjr
   rw[Y9 (fun w=>hz (.inl w)),Y9 (fun w=>hz (.inr ⟨k,ka,w⟩))]
 ·obtain⟨bm,⟨d1,d2,d3⟩,my⟩:=A
  refine⟨fun k hk=>?_,⟨?_,?_,d3⟩,my⟩
  ·rw[Y9 (fun w=>hz (.inr ⟨k,hk,w.symm⟩))]; exact bm k hk
  ·rw[Y9 (fun w=>hz (.inl w.symm))]; exact d1
  ·rw[Y9 (fun w=>hz (.inl w.symm))]; exact d2
 ·obtain⟨ka,b1,b2⟩:=Zt2 f (show lo+m<a * fF b c by omega)
  refine⟨F7 FF b2 b1,b1,oM,fun w=>?_⟩
  rcases w with w|⟨k,_,w⟩
  ·omega
  ·exact Zcg (m:=lo+m) f (k:=k) (r:=0) oM w
end
def iw0 (c k:Nat):Nat × Nat:=if k=0 then (c - 1,1) else (c,0)
theorem Zml (hc:1<=c):Zzn c (iw0 c):=fun k=>by
 unfold iw0
 split
 ·show 1+(c - 1)<=c; omega
 ·show 0+c<=c; omega
end
end Go.Proofs.YteiljiijagmonaaGreatDoor
