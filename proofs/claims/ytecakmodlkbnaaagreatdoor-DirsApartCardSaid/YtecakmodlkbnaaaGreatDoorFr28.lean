/- Any new file system gives its data blocks one behind the other. -/
import Derived.Test.YtecakmodlkbnaaaGreatDoorBtd
import Derived.Test.YtecakmodlkbnaaaGreatDoorPge
import Derived.Test.YtecakmodlkbnaaaGreatDoorMak3
import Derived.Test.YtecakmodlkbnaaaGreatDoorIpu
import Derived.Test.YtecakmodlkbnaaaGreatDoorDai
import Derived.Test.YtecakmodlkbnaaaGreatDoorRn2
import Derived.Test.YtecakmodlkbnaaaGreatDoorEvC
import Derived.Test.YtecakmodlkbnaaaGreatDoorMpg
import Derived.Test.YtecakmodlkbnaaaGreatDoorNew2
import Derived.Test.YtecakmodlkbnaaaGreatDoorSto4
set_option linter.unusedSimpArgs false
set_option linter.unusedVariables false
set_option linter.unusedSectionVars false
set_option maxRecDepth 100000
set_option maxHeartbeats 4000000
namespace Go.Proofs.YtecakmodlkbnaaaGreatDoor
open Go.Ev
def fF (b c:Nat):Nat:=b - 2 - c / 4
def Vr (b c e m:Nat):Nat:=2+e+m / fF b c * b+(2+c / 4+m % fF b c)
def gG (b c m k j:Nat):Bool:=decide (j<2+c / 4+min (fF b c) (m - k * fF b c)) || decide (b≤j)
def DG (a b c:Nat) (iw:Nat→Nat × Nat) (m:Nat):List Oy:=(List.range a).map fun k=>(fF b c - min (fF b c) (m - k * fF b c),iw k)
def AlG (a b c e:Nat) (iw:Nat→Nat × Nat) (V:Nat→List Nat) (m:Nat):Prop:=Bmp a b c e V (DG a b c iw m) (gG b c m)
def mtG (a b e z:Nat):Prop:=z=1∨∃ k,k<a∧z=2+e+k * b
def nkG (a b c e near:Nat):Prop:=near<9223372036854775808∧E9 a b c e near=0
def Zsr (c:Nat) (iw:Nat→Nat × Nat):Prop:=∀ k,(iw k).2+(iw k).1≤c
theorem Zxl {g g':Nat→Bool} {t:Nat} (h:∀ j,8 * t≤j→j<8 * t+8→g j=g' j):byB g t=byB g' t:=by
 unfold byB
 rw[h _ (by omega) (by omega),h _ (by omega) (by omega),h _ (by omega) (by omega),h _ (by omega) (by omega),h _ (by omega) (by omega),h _ (by omega) (by omega),h _ (by omega) (by omega),h _ (by omega) (by omega)]
theorem Zsv {g g':Nat→Bool} (h:∀ j,j<2048→g j=g' j):Wp g=Wp g':=by
 unfold Wp
 refine List.map_congr_left fun t ht=>?_
 have:=List.mem_range.1 ht
 exact Zxl fun j _ h2=>h j (by omega)
theorem Zpk (g:Nat→Bool):(Wp g).map (· % 256)=Wp g:=by
 unfold Wp
 rw[List.map_map]
 refine List.map_congr_left fun t _=>?_
 exact Nat.mod_eq_of_lt (Rl g t)
section
variable {a b c e:Nat} {iw:Nat→Nat × Nat} {V:Nat→List Nat} {m:Nat}
theorem Zdu {k:Nat} (ka:k<a):(DG a b c iw m)[k]? = some (fF b c - min (fF b c) (m - k * fF b c),iw k):=by
 unfold DG
 rw[List.getElem?_map,List.getElem?_range ka]
 rfl
theorem Ng:(DG a b c iw m).length=a:=by unfold DG; rw[List.length_map,List.length_range]
theorem Zik (h:Zsr c iw):(DG a b c iw m).all (Xy (b - 2 - c / 4) c)=true:=by
 unfold DG
 rw[List.all_map]
 refine List.all_eq_true.2 fun k _=>?_
 have:=h k
 show Xy (b - 2 - c / 4) c (fF b c - min (fF b c) (m - k * fF b c),iw k)=true
 simp only[Xy]
 rw[Nj (by unfold fF; omega),Nj (by omega),Nj this]
 rfl
theorem Zd0 (f:Ym a b c e=true) {D:List Oy} (Dl:D.length=a) (Dm:D.all (Xy (b - 2 - c / 4) c)=true):goodD (Zbr D) a b c=true∧Bh (Zbr D) a 0=D:=by
 obtain⟨_,h1,h2⟩:=Zxz f Dl Dm
 unfold Zv5 at h1 h2
 rw[Od] at h1 h2
 rw[Lm] at h1
 rw[Fp] at h2
 exact⟨h1,h2⟩
theorem Z4d {k m F:Nat} (h:m / F=k) (hF:0<F):k * F≤m∧m<k * F+F∧m - k * F=m % F:=by
 have:=Nat.div_add_mod m F
 have h2:=Nat.mod_lt m hF
 rw[h,Nat.mul_comm] at this
 omega
theorem Nb {k k' F:Nat} (h:k<k'):k * F+F≤k' * F:=by
 have:=Nat.mul_le_mul_right F (Nat.succ_le_of_lt h)
 rwa [Nat.succ_mul] at this
theorem Z6p {k:Nat} (hF:0<fF b c) (hk:m / fF b c=k):Mq (gG b c m k) (2+c / 4+m % fF b c)=gG b c (m+1) k:=by
 obtain⟨h1,h2,h3⟩:=Z4d hk hF
 have h4:=Nat.mod_lt m hF
 have h5:m+1 - k * fF b c=m % fF b c+1:=by omega
 funext j
 unfold Mq gG
 rw[h3,h5,Bool.eq_iff_iff]
 simp only[Bool.or_eq_true,decide_eq_true_eq]
 omega
theorem Z08 {k k':Nat} (hF:0<fF b c) (hk:m / fF b c=k) (ne:k'≠k):gG b c (m+1) k'=gG b c m k'∧min (fF b c) (m+1 - k' * fF b c)=min (fF b c) (m - k' * fF b c):=by
 obtain⟨h1,h2,h3⟩:=Z4d hk hF
 have e:min (fF b c) (m+1 - k' * fF b c)=min (fF b c) (m - k' * fF b c):=by
  rcases Nat.lt_or_gt_of_ne ne with q|q
  ·have:=Nb (F:=fF b c) q; omega
  ·have:=Nb (F:=fF b c) q; omega
 refine⟨?_,e⟩
 funext j
 unfold gG
 rw[e]
theorem Z82 {k:Nat} (hF:0<fF b c) (hk:m / fF b c=k) (ka:k<a):(DG a b c iw m).set k (fF b c - m % fF b c - 1,iw k)=DG a b c iw (m+1):=by
 obtain⟨h1,h2,h3⟩:=Z4d hk hF
 have h4:=Nat.mod_lt m hF
 apply List.ext_getElem?
 intro i
 rcases Nat.lt_or_ge i a with q|q
 ·by_cases e:i=k
  ·subst e
   rw[List.getElem?_set_self (by rw[Ng]; exact q),Zdu q]
   congr 2
   omega
  ·rw[List.getElem?_set_ne (Ne.symm e),Zdu q,Zdu q,(Z08 hF hk e).2]
 ·rw[List.getElem?_eq_none (by rw[List.length_set,Ng]; exact q),List.getElem?_eq_none (by rw[Ng]; exact q)]
theorem AlG.step (f:Ym a b c e=true) (io:Zsr c iw) (A:AlG a b c e iw V m) (hF:0<fF b c) {k:Nat} (hk:m / fF b c=k) (ka:k<a):AlG a b c e iw (Zji b e V (DG a b c iw m) (gG b c m) k (2+c / 4+m % fF b c) (fF b c - m % fF b c) (iw k).1 (iw k).2) (m+1):=by
 obtain⟨g1,g2,g3,g4,g5,g6,g7,g8,g9,g10,g11⟩:=Zv f
 obtain⟨gd,td⟩:=Zd0 f (D:=DG a b c iw (m+1)) Ng (Zik io)
 unfold Zji
 have es:(DG a b c iw m).set k (fF b c - m % fF b c - 1,(iw k).1,(iw k).2)=DG a b c iw (m+1):=Z82 hF hk ka
 rw[es,Z6p hF hk]
 refine⟨fun k' hk'=>?_,⟨by rw[Bl]; exact gd,by rw[Bl]; exact td,Ng⟩,Zik io⟩
 rw[J6 (by omega)]
 by_cases e:k'=k
 ·subst e
  rw[Bl]
 ·rw[J6 (fun w=>by
   rcases Nat.lt_or_gt_of_ne e with q|q
   ·have:=Nb (F:=b) q; omega
   ·have:=Nb (F:=b) q; omega),(Z08 hF hk e).1]
  exact A.bm k' hk'
theorem Zbs (f:Ym a b c e=true):0<fF b c∧2+c / 4+fF b c=b:=by
 obtain⟨g1,g2,g3,g4,g5,g6,g7,g8,g9,g10,g11⟩:=Zv f
 unfold fF
 omega
theorem Td (f:Ym a b c e=true) (h:m<a * fF b c):m / fF b c<a∧Vr b c e m<2+e+a * b∧2+e≤Vr b c e m:=by
 obtain⟨p1,p2⟩:=Zbs f
 have ka:m / fF b c<a:=Nat.div_lt_of_lt_mul (by rw[Nat.mul_comm]; exact h)
 have:=Nat.mod_lt m p1
 have st:=Jp (b:=b) ka
 refine⟨ka,?_,?_⟩
 ·unfold Vr; omega
 ·unfold Vr; omega
theorem Qq (f:Ym a b c e=true) {k r:Nat} (hr:r<2+c / 4):Vr b c e m≠2+e+k * b+r:=fun w=>by
 obtain⟨p1,p2⟩:=Zbs f
 have:=Nat.mod_lt m p1
 unfold Vr at w
 rcases Nat.lt_trichotomy (m / fF b c) k with q|q|q
 ·have:=Nb (F:=b) q; omega
 ·rw[q] at w; omega
 ·have:=Nb (F:=b) q; omega
theorem Zda (f:Ym a b c e=true) (i:Nat):Y1 b c e i≠Vr b c e m:=fun w=>by
 obtain⟨g1,g2,g3,g4,g5,g6,g7,g8,g9,g10,g11⟩:=Zv f
 have tc:i % c<c:=Nat.mod_lt _ (by omega)
 refine Qq (m:=m) f (k:=i / c) (r:=2+i % c / 4) (by omega) ?_
 rw[←w]
 unfold Y1
 omega
theorem Zhh (f:Ym a b c e=true) {m':Nat} (h:Vr b c e m=Vr b c e m'):m=m':=by
 obtain⟨p1,p2⟩:=Zbs f
 have h1:=Nat.mod_lt m p1
 have h2:=Nat.mod_lt m' p1
 have d1:=Nat.div_add_mod m (fF b c)
 have d2:=Nat.div_add_mod m' (fF b c)
 unfold Vr at h
 rcases Nat.lt_trichotomy (m / fF b c) (m' / fF b c) with q|q|q
 ·have:=Nb (F:=b) q; omega
 ·rw[q] at h d1
  omega
 ·have:=Nb (F:=b) q; omega
theorem Zf3 (f:Ym a b c e=true) (i:Nat):¬ mtG a b e (Y1 b c e i):=fun w=>by
 obtain⟨g1,g2,g3,g4,g5,g6,g7,g8,g9,g10,g11⟩:=Zv f
 have tc:i % c<c:=Nat.mod_lt _ (by omega)
 rcases w with w|⟨k,ka,w⟩
 ·unfold Y1 at w; omega
 ·unfold Y1 at w
  rcases Nat.lt_trichotomy (i / c) k with q|q|q
  ·have:=Nb (F:=b) q; omega
  ·rw[q] at w; omega
  ·have:=Nb (F:=b) q; omega
theorem Zcb (f:Ym a b c e=true) {i:Nat} (hi:i<c):nkG a b c e (Y1 b c e i):=by
 obtain⟨g1,g2,g3,g4,g5,g6,g7,g8,g9,g10,g11⟩:=Zv f
 have d0:i / c=0:=Nat.div_eq_of_lt hi
 have m0:i % c=i:=Nat.mod_eq_of_lt hi
 have st:=Jp (b:=b) (show 0<a by omega)
 have ic:i / 4<c / 4:=by omega
 have eb:Y1 b c e i=2+e+(2+i / 4):=by unfold Y1; rw[d0,m0]; omega
 refine⟨by rw[eb]; omega,?_⟩
 rw[eb]
 unfold E9 U7
 rw[if_neg (by omega),if_neg (by omega),if_neg (by omega),if_neg (by omega)]
 show (2+e+(2+i / 4) - 2 - e) / b=0
 exact Nat.div_eq_of_lt (by omega)
section
variable (Hh:Hearts K Tryz.prog)
include Hh
variable {n q:Nat} {cr:Cr} {md:Int} {S:List Nat} {cap:Nat} {h:Go.Ev.H} {T:List Nat}
theorem Z8n (f:Ym a b c e=true) (io:Zsr c iw) (cF:cap≤a * fF b c) (s1:1∈S) (s2:∀ m,m<cap→Vr b c e m∈S∧2+e+m / fF b c * b∈S):AlcW n q a b c e cr md S (AlG a b c e iw) (Vr b c e) cap (mtG a b e) (nkG a b c e):=by
 obtain⟨p1,p2⟩:=Zbs f
 have FF:=Zv f
 refine⟨fun {V h T m near} M A mc nr hT=>?_,fun {V m z x} A hz=>?_,fun m mc=>?_,fun m m' _ _ e=>Zhh f e⟩
 ·obtain⟨ka,b1,b2⟩:=Td f (show m<a * fF b c by omega)
  obtain⟨k,hk⟩:∃ k,m / fF b c=k:=⟨_,rfl⟩
  obtain⟨h1,h2,h3⟩:=Z4d hk p1
  have h4:=Nat.mod_lt m p1
  have sk:=(s2 m mc).2
  rw[hk] at ka sk
  have F:FreeG b c (DG a b c iw m) (gG b c m) k (2+c / 4+m % fF b c) (fF b c - m % fF b c) (iw k).1 (iw k).2:=by
   refine⟨by omega,by omega,fun j h1 h2=>?_,?_,?_,by omega⟩
   ·unfold gG
    rw[h3,decide_eq_true (by omega)]
    rfl
   ·unfold gG
    rw[h3,decide_eq_false (by omega),decide_eq_false (by omega)]
    rfl
   ·rw[Zdu ka,h3]
    congr 2
    omega
  obtain⟨h',c',M',k'⟩:=Z8q Hh f M A (near:=near) nr.1 (j:=k) (k:=k) ka (fun i hi=>by
   rw[nr.2,Nat.zero_add,Nat.mod_eq_of_lt (by omega)]
   intro j q1 q2
   have:=Nb (F:=fF b c) hi
   unfold gG
   rw[decide_eq_true (by omega)]
   rfl) (by rw[nr.2,Nat.zero_add,Nat.mod_eq_of_lt ka]) F ⟨s1,hT 1 (.inl rfl)⟩ ⟨sk,hT _ (.inr ⟨k,ka,rfl⟩)⟩
  refine⟨h',_,?_,M',k',A.step f io p1 hk ka,fun z hz=>?_⟩
  ·have e1:2+e+k * b+(2+c / 4+m % fF b c)=Vr b c e m:=by unfold Vr; rw[hk]
   rw[e1] at c'
   exact c'
  ·unfold Zji
   rw[J6 (fun w=>hz (.inl w)),J6 (fun w=>hz (.inr ⟨k,ka,w⟩))]
 ·obtain⟨bm,⟨d1,d2,d3⟩,my⟩:=A
  refine⟨fun k hk=>?_,⟨?_,?_,d3⟩,my⟩
  ·rw[J6 (fun w=>hz (.inr ⟨k,hk,w.symm⟩))]; exact bm k hk
  ·rw[J6 (fun w=>hz (.inl w.symm))]; exact d1
  ·rw[J6 (fun w=>hz (.inl w.symm))]; exact d2
 ·obtain⟨ka,b1,b2⟩:=Td f (show m<a * fF b c by omega)
  refine⟨Dx FF b2 b1,b1,by omega,fun w=>?_,(s2 m mc).1⟩
  rcases w with w|⟨k,_,w⟩
  ·omega
  ·exact Qq (m:=m) f (k:=k) (r:=0) (by omega) w
theorem noG (f:Ym a b c e=true) (M:HE n q a b c e cr md S T V h) (A:AlG a b c e iw V (a * fF b c)) {near:Nat} (nr:nkG a b c e near):∃ h',Zg 186 [.c (.ptr (n+13) 0),.c (.int .i64 (near:Int))] h (.tup [.c (.int .i64 0),.c (.int .i64 230)]) h'∧HE n q a b c e cr md S T V h'∧Kp n q h h':=by
 obtain⟨p1,p2⟩:=Zbs f
 refine Z88 Hh f M A nr.1 fun i hi j h1 h2=>?_
 rw[nr.2,Nat.zero_add,Nat.mod_eq_of_lt hi]
 have:=Nb (F:=fF b c) hi
 unfold gG
 rw[decide_eq_true (by omega)]
 rfl
end
def vI (L:List (List C)) (z:Nat):List Nat:=unN ((L[z]?).getD [])
theorem Zro {L:List (List C)} (I:Image a b c e L):∀ z,z<2+e+a * b→(vI L z).length=256∧L[z]? = some (pgL (vI L z)):=fun z hz=>by
 have zl:z<L.length:=by rw[I.len]; exact hz
 have hx:L[z]? = some L[z]:=List.getElem?_eq_getElem zl
 have xl:=(Zmm I.im (List.mem_of_getElem? hx)).1
 obtain⟨ns,e1,nl⟩:=Zf4 (List.all_eq_true.1 I.ab _ (List.mem_of_getElem? hx))
 have v:vI L z=ns.map (· % 256):=by unfold vI; rw[hx,Option.getD_some,e1,Od]
 rw[v]
 refine⟨by rw[List.length_map,nl]; exact xl,?_⟩
 rw[hx,Zmb]
 exact congrArg some e1
def iw0 (c k:Nat):Nat × Nat:=if k=0 then (c - 1,1) else (c,0)
theorem Zs6 (hc:1≤c):Zsr c (iw0 c):=fun k=>by
 unfold iw0
 split
 ·show 1+(c - 1)≤c; omega
 ·show 0+c≤c; omega
theorem Ych (ha:1≤a):DG a b c (iw0 c) 0=R4 a b c:=by
 apply List.ext_getElem?
 intro i
 unfold R4
 rcases Nat.lt_or_ge i a with q|q
 ·rw[Zdu q,Nat.zero_sub,Nat.min_zero,Nat.sub_zero]
  match i with
  | 0=>rfl
  | i+1 =>
   rw[List.getElem?_cons_succ,List.getElem?_replicate,if_pos (by omega)]
   rfl
 ·rw[List.getElem?_eq_none (by rw[Ng]; exact q),List.getElem?_eq_none (by rw[List.length_cons,List.length_replicate]; omega)]
theorem Zq1 (f:Ym a b c e=true) {L:List (List C)} (I:Image a b c e L):AlG a b c e (iw0 c) (vI L) 0:=by
 have FF:=Zv f
 obtain⟨g1,g2,g3,g4,g5,g6,g7,g8,g9,g10,g11⟩:=FF
 have D0:=Ych (b:=b) (c:=c) g1
 refine⟨fun k hk=>?_,?_,Zik (Zs6 (by omega))⟩
 ·have:vI L (2+e+k * b)=(Wp (F9 (2+c / 4) b 2048)).map (· % 256):=by
   unfold vI
   rw[I.bb k hk,Option.getD_some]
   unfold bmB
   rw[Zby,Od]
  rw[this,Zpk]
  refine Zsv fun j hj=>?_
  unfold F9 gG
  rw[Nat.zero_sub,Nat.min_zero,Nat.add_zero,decide_eq_true hj,Bool.and_true]
 ·have v1:vI L 1=(Gc (Fe (R4 a b c) 0 O0)).map (· % 256):=by
   unfold vI
   rw[I.de,Option.getD_some]
   unfold Zdn
   rw[Od]
  obtain⟨gd,td⟩:=Zd0 f (D:=DG a b c (iw0 c) 0) Ng (Zik (Zs6 (by omega)))
  unfold Zbr at gd td
  rw[D0] at gd td ⊢
  exact⟨by rw[v1,Lm]; exact gd,by rw[v1,Fp]; exact td,Zi7 g1⟩
end
def Nk (L:List (List Sl)):List Sl:=(Jn L).map Prod.snd
theorem Zk4:∀ (L:List (List Sl)) (l:List Sl) (j:Nat),(L9 j (L++[l])).map Prod.snd=(L9 j L).map Prod.snd++l
 | [],l,j=>by
  show (l.map (fun x=>(j,x))++[]).map Prod.snd=[]++l
  rw[List.append_nil,List.map_map]
  exact List.map_id l
 | l0 :: r,l,j=>by
  show (l0.map (fun x=>(j,x))++L9 (j+1) (r++[l])).map Prod.snd=(l0.map (fun x=>(j,x))++L9 (j+1) r).map Prod.snd++l
  rw[List.map_append,List.map_append,Zk4 r l (j+1),List.append_assoc]
theorem Z3b (L:List (List Sl)) (l:List Sl):Nk (L++[l])=Nk L++l:=Zk4 L l 0
theorem Z8h (l:List Sl) (j:Nat):(l.map (fun x=>(j,x))).map Prod.snd=l:=by
 rw[List.map_map]
 exact List.map_id l
theorem Zj9:∀ {L:List (List Sl)} {i k j:Nat} {l:List Sl} (x:Sl),(∀ l∈L,l.length=8)→L[i]? = some l→k<8→(L9 j (L.set i (l.set k x))).map Prod.snd=((L9 j L).map Prod.snd).set (8 * i+k) x
 | [],_,_,_,_,_,_,h,_=>by simp at h
 | l0 :: r,0,k,j,l,x,hl,h,hk=>by
  obtain rfl:l0=l:=by simpa using h
  have l8:=hl l0 (List.mem_cons_self ..)
  show ((l0.set k x).map (fun x=>(j,x))++L9 (j+1) r).map Prod.snd=((l0.map (fun x=>(j,x))++L9 (j+1) r).map Prod.snd).set (8 * 0+k) x
  rw[List.map_append,List.map_append,Z8h,Z8h,Nat.mul_zero,Nat.zero_add,List.set_append_left _ _ (by omega)]
 | l0 :: r,i+1,k,j,l,x,hl,h,hk=>by
  have l8:=hl l0 (List.mem_cons_self ..)
  have ih:=Zj9 (L:=r) (i:=i) (k:=k) (j:=j+1) (l:=l) x (fun l h=>hl l (List.mem_cons_of_mem _ h)) (by simpa using h) hk
  show (l0.map (fun x=>(j,x))++L9 (j+1) (r.set i (l.set k x))).map Prod.snd=((l0.map (fun x=>(j,x))++L9 (j+1) r).map Prod.snd).set (8 * (i+1)+k) x
  rw[List.map_append,List.map_append,Z8h,ih,List.set_append_right _ _ (by omega),l8,show 8 * (i+1)+k - 8=8 * i+k by omega]
theorem Zqm {L:List (List Sl)} {i k:Nat} {l:List Sl} (x:Sl) (hl:∀ l∈L,l.length=8) (h:L[i]? = some l) (hk:k<8):Nk (L.set i (l.set k x))=(Nk L).set (8 * i+k) x:=Zj9 x hl h hk
theorem Z6g {L:List (List Sl)} {t i:Nat} {x:Sl} (h:(Jn L)[t]? = some (i,x)):(Nk L)[t]? = some x:=by
 unfold Nk
 rw[List.getElem?_map,h]
 rfl
def Xd (E:List Sl) (r:Nat):List Sl:=E++List.replicate r sl0
theorem Z2n {E:List Sl} {r:Nat} (h:∀ x∈E,x.1≠0):(Xd E r).filter (fun x=>!Nat.beq x.1 0)=E:=by
 unfold Xd
 rw[List.filter_append,List.filter_eq_self.2 (fun x hx=>by rw[Nn (h x hx)]; rfl),List.filter_eq_nil_iff.2 (fun x hx=>by
  rw[List.eq_of_mem_replicate hx]
  decide),List.append_nil]
theorem Z1n {E:List Sl} {r:Nat} (x:Sl) (h:0<r):(Xd E r).set E.length x=Xd (E++[x]) (r - 1):=by
 obtain⟨r,rfl⟩:∃ k,r=k+1:=⟨r - 1,by omega⟩
 unfold Xd
 rw[List.set_append_right _ _ (Nat.le_refl _),Nat.sub_self,List.replicate_succ,List.set_cons_zero,List.append_assoc,Nat.add_sub_cancel]
 rfl
theorem Zx2 (E:List Sl) (x:Sl):Xd E 0++sl8.set 0 x=Xd (E++[x]) 7:=by
 unfold Xd
 rw[List.replicate_zero,List.append_nil,List.append_assoc]
 rfl
theorem Zad {E:List Sl} {r t:Nat} {x:Sl} (h:(Xd E r)[t]? = some x):t<E.length∧E[t]? = some x∨E.length≤t∧t<E.length+r∧x=sl0:=by
 unfold Xd at h
 rcases Nat.lt_or_ge t E.length with q|q
 ·rw[List.getElem?_append_left q] at h
  exact .inl ⟨q,h⟩
 ·rw[List.getElem?_append_right q,List.getElem?_replicate] at h
  split at h
  ·cases h
   exact .inr ⟨q,by omega,rfl⟩
  ·cases h
def SG (b c e cap:Nat):List Nat:=1 :: (2+e+1) :: Y1 b c e 0 :: Y1 b c e 1 :: ((List.range cap).map (Vr b c e)++(List.range cap).map fun m=>2+e+m / fF b c * b)
theorem Zyr (b c e cap:Nat):(SG b c e cap).length=4+2 * cap:=by
 unfold SG
 simp only[List.length_cons,List.length_append,List.length_map,List.length_range]
 omega
theorem Zhz {b c e cap m:Nat} (h:m<cap):Vr b c e m∈SG b c e cap∧2+e+m / fF b c * b∈SG b c e cap:=by
 unfold SG
 simp only[List.mem_cons,List.mem_append,List.mem_map,List.mem_range]
 exact⟨.inr (.inr (.inr (.inr (.inl ⟨m,h,rfl⟩)))),.inr (.inr (.inr (.inr (.inr ⟨m,h,rfl⟩))))⟩
theorem Zm2 {b c e cap:Nat}:1∈SG b c e cap∧2+e+1∈SG b c e cap∧Y1 b c e 0∈SG b c e cap∧Y1 b c e 1∈SG b c e cap:=by
 unfold SG
 simp
structure RowD (n q a b c e:Nat) (cr:Cr) (md:Int) (cap:Nat) (iw:Nat→Nat × Nat) (E:List Sl) (h:Go.Ev.H):Prop where
 ex:∃ V P bs L m r,HE n q a b c e cr md (SG b c e cap) [] V h∧AlG a b c e iw V m∧DirS a b c e V 0 1 P bs L∧Nk L=Xd E r∧r<8∧bs=(List.range m).map (Vr b c e)∧m≤cap
section
variable (Hh:Hearts K Tryz.prog)
include Hh
variable {n q a b c e:Nat} {cr:Cr} {md:Int} {cap:Nat} {iw:Nat→Nat × Nat} {E:List Sl} {h:Go.Ev.H} {s:List UInt8} {u:Nat}
theorem Zv4 {L:List (List C)} (f:Ym a b c e=true) (I:Image a b c e L):DirS a b c e (vI L) 0 1 (fun _=>0) [] []:=by
 obtain⟨g1,g2,g3,g4,g5,g6,g7,g8,g9,g10,g11⟩:=Zv f
 have ac:1≤a * c:=Nat.mul_pos (by omega) (by omega)
 refine⟨?_,by omega,by omega,fun i _=>by omega,fun _ _ _=>rfl,⟨by simp,rfl,fun i z hz=>by simp at hz⟩,List.nodup_nil,fun z hz=>by simp at hz⟩
 have e0:Y1 b c e 0=2+e+2:=by unfold Y1; rw[Nat.zero_div,Nat.zero_mod,Nat.zero_mul,Nat.zero_div]
 have p0:D9 c 0=0:=by unfold D9; rw[Nat.zero_mod]
 have v0:vI L (2+e+2)=unN Rx:=by
  have:=I.ti 0 0 (by omega) (by omega)
  rw[Nat.zero_mul,Nat.add_zero,Nat.add_zero,if_pos ⟨rfl,rfl⟩] at this
  unfold vI
  rw[this,Option.getD_some]
 unfold gI
 rw[if_pos ⟨by omega,by omega⟩]
 show Rv (vI L (Y1 b c e 0)) (D9 c 0)=_
 rw[e0,p0,v0]
 kernel_rfl
theorem Z9p (f:Ym a b c e=true) (m0:md≠0) (io:Zsr c iw) (c8:cap=min 3 (a * fF b c)) (W:RowD n q a b c e cr md cap iw E h) (Ez:∀ x∈E,x.1≠0) (Es:∀ x∈E,x.2≠s) (El:E.length<20) (u0:0<u) (u1:u≤a * c) (u32:u<4294967296) :
  ∃ h' r,Zg 9 [.c (.ptr (n+13) 0),.c (.int .i64 1),.c (.str s),.c (.int .i64 (u:Int))] h (.w (.c (.int .i64 r))) h'∧Kp n q h h'∧(r=290∨r=230∨r=0∧RowD n q a b c e cr md cap iw (E++[(u,s)]) h'):=by
 obtain⟨V,P,bs,L,m,r,M,al,D,fl,r8,hbs,mc⟩:=W.ex
 obtain⟨p1,p2⟩:=Zbs f
 cases my:Vv s with
 | false =>
  obtain⟨h',cc,M',kr⟩:=Zpf Hh f m0 M 1 (u:Int) my
  exact⟨h',290,cc,kr.kp,.inl rfl⟩
 | true =>
  have Al:(Jn L).length=8 * bs.length:=by unfold Jn; rw[R3 D.db.l8,D.db.ll]
  have Fl:(Nk L).length=E.length+r:=by rw[fl]; unfold Xd; simp
  have bl:bs.length=m:=by rw[hbs,List.length_map,List.length_range]
  have fl8:E.length+r=8 * m:=by
   rw[←Fl,←bl,←Al]
   unfold Nk
   rw[List.length_map]
  have sl:∀ t i x,(Jn L)[t]? = some (i,x)→(Xd E r)[t]? = some x:=fun t i x h=>by rw[←fl]; exact Z6g h
  have th:thF s (Jn L)=false:=by
   unfold thF
   refine List.any_eq_false.2 fun p hp=>?_
   obtain⟨t,ht⟩:=List.mem_iff_getElem?.1 hp
   rcases Zad (sl t p.1 p.2 ht) with ⟨_,w⟩|⟨_,_,w⟩
   ·rw[Zaj,decide_eq_false (Es p.2 (List.mem_of_getElem? w)),Bool.and_false]
    decide
   ·rw[w]
    simp [sl0]
  have z1:((0+1:Nat):Int)=1:=rfl
  rcases Nat.eq_zero_or_pos r with r0|r0
  ·subst r0
   have fz:frF bs (Jn L)=0:=by
    apply Classical.byContradiction
    intro z0
    obtain⟨i,k,l,f1,f2,f3,f4,f5⟩:=D.db.free rfl z0
    have:=Xq (j:=0) D.db.l8 f2 f3
    rcases Zad (sl _ _ _ this) with ⟨_,w⟩|⟨_,_,_⟩
    ·exact Ez _ (List.mem_of_getElem? w) rfl
    ·omega
   by_cases full:m<cap
   ·have A:=Z8n Hh (n:=n) (q:=q) (cr:=cr) (md:=md) (S:=SG b c e cap) f io (show cap≤a * fF b c by omega) Zm2.1 fun m hm=>Zhz hm
    obtain⟨ka,b1,b2⟩:=Td f (show m<a * fF b c by omega)
    have FF:=Zv f
    obtain⟨g1,g2,g3,g4,g5,g6,g7,g8,g9,g10,g11⟩:=FF
    obtain⟨h',V',cc,kp,M',al',D',_,_⟩:=Zey Hh f m0 M D my u0 u1 u32 th fz (by omega) A al full (by omega) (fun i _=>Zf3 f i) (fun i _=>Zda f i) Zm2.2.2.1 (Zcb f (by omega)) (fun z hz=>by
     rw[hbs] at hz
     obtain⟨k,hk,rfl⟩:=List.mem_map.1 hz
     have kl:=List.mem_range.1 hk
     refine⟨fun w=>?_,fun w=>by have:=Zhh f w; omega⟩
     rcases w with w|⟨k',_,w⟩
     ·have:=(Td f (m:=k) (a:=a) (by omega)).2.2; omega
     ·exact Qq (m:=k) f (k:=k') (r:=0) (by omega) w)
    rw[z1] at cc
    refine⟨h',0,cc,kp,.inr (.inr ⟨rfl,⟨V',_,_,_,m+1,7,M',al',D',?_,by omega,?_,full⟩⟩)⟩
    ·rw[Z3b,fl,Zx2]
    ·rw[hbs,List.range_succ,List.map_append]; rfl
   ·have me:m=a * fF b c:=by omega
    rw[me] at al
    have M0:=M
    have no:∀ h,HE n q a b c e cr md (SG b c e cap) [] V h→_:=fun h M=>noG Hh f M al (Zcb f (i:=0) (by
     obtain⟨g1,g2,g3,g4,g5,g6,g7,g8,g9,g10,g11⟩:=Zv f
     omega))
    obtain⟨h',cc,M',kp⟩:=Zkn Hh f m0 M D my u0 u1 u32 th fz (by omega) no
    rw[z1] at cc
    exact⟨h',230,cc,kp,.inr (.inl rfl)⟩
  ·have fz:frF bs (Jn L)≠0:=fun w=>by
    have hl:E.length<(Jn L).length:=by omega
    have q1:=Zvp D.db.nz w _ (List.getElem_mem hl)
    have q2:=sl E.length _ _ (List.getElem?_eq_getElem hl)
    rcases Zad q2 with ⟨w,_⟩|⟨_,_,w⟩
    ·omega
    ·exact q1 (congrArg Prod.fst w)
   obtain⟨z,hz⟩:∃ z,frF bs (Jn L)=z:=⟨_,rfl⟩
   rw[hz] at fz
   have zS:z∈SG b c e cap:=by
    obtain⟨i,k,l,f1,_⟩:=D.db.free hz fz
    rw[hbs,List.getElem?_map] at f1
    obtain⟨k',hk,e⟩:=Option.map_eq_some_iff.1 f1
    rw[←e]
    exact (Zhz (by have:=List.mem_range.1 (List.mem_of_getElem? hk); omega)).1
   obtain⟨h',i,k,l,cc,kp,f1,f2,f3,f5,M',D'⟩:=Zxu Hh f m0 M D my u0 u1 u32 th hz fz zS
   rw[z1] at cc
   have l8:=D.db.l8 l (List.mem_of_getElem? f2)
   have k8:k<8:=by
    rcases Nat.lt_or_ge k l.length with q|q
    ·omega
    ·rw[List.getElem?_eq_none q] at f3; cases f3
   have at_:=Xq (j:=0) D.db.l8 f2 f3
   have te:8 * i+k=E.length:=by
    rcases Zad (sl _ _ _ at_) with ⟨_,w⟩|⟨w1,w2,_⟩
    ·exact absurd rfl (Ez _ (List.mem_of_getElem? w))
    ·rcases Nat.eq_or_lt_of_le w1 with q|q
     ·exact q.symm
     ·exfalso
      have hl:E.length<(Jn L).length:=by omega
      have q1:=f5 E.length _ q (List.getElem?_eq_getElem hl)
      have q2:=sl E.length _ _ (List.getElem?_eq_getElem hl)
      rcases Zad q2 with ⟨w,_⟩|⟨_,_,w⟩
      ·omega
      ·exact q1 (congrArg Prod.fst w)
   have FF:=Zv f
   have nm:¬ mtG a b e z:=by
    rw[hbs,List.getElem?_map] at f1
    obtain⟨k',hk,e⟩:=Option.map_eq_some_iff.1 f1
    have kl:=List.mem_range.1 (List.mem_of_getElem? hk)
    have km:k'<a * fF b c:=by omega
    intro w
    rw[←e] at w
    rcases w with w|⟨k2,_,w⟩
    ·have:=(Td f km).2.2; omega
    ·exact Qq (m:=k') f (k:=k2) (r:=0) (by omega) w
   have A:=Z8n Hh (n:=n) (q:=q) (cr:=cr) (md:=md) (S:=SG b c e cap) f io (show cap≤a * fF b c by omega) Zm2.1 fun m hm=>Zhz hm
   refine⟨h',0,cc,kp,.inr (.inr ⟨rfl,⟨_,P,bs,_,m,r - 1,M',A.upd al nm,D',?_,by omega,hbs,mc⟩⟩)⟩
   rw[Zqm _ D.db.l8 f2 k8,fl,te,Z1n _ r0]
end
end Go.Proofs.YtecakmodlkbnaaaGreatDoor
set_option maxRecDepth 100000
namespace Go.Proofs.YtecakmodlkbnaaaGreatDoor
open Go.Ev Go.ChangeShapes Go.WideShapes
def Sr (A:List (List UInt8)):List (List C):=A.map fun s=>[.str s]
theorem Z18 {A:List (List UInt8)} {k:Nat} {s:List UInt8} (h:A[k]? = some s):read1 1 (Sr A) k=some (.str s):=by
 have e:(Sr A)[k]? = some [.str s]:=by simp [Sr,h]
 have:=Md (sz:=1) (i:=k) (j:=0) (by omega) e
 rw[Nat.mul_one,Nat.add_zero] at this
 exact this
def ArS (n:Nat) (h:Go.Ev.H) (c:C) (A:List (List UInt8)):Prop:=(Y7 K 27 (.c c)=true∧∀ h,J3 K h 27 (.c c)=some (.int .i64 (A.length:Nat)))∧(A=[]∨∃ p ro,p<n∧c=.slice p 0 A.length 1∧h.get p=some (.row 1 (Sr A) ro))
theorem ArS.keep {n:Nat} {h h':Go.Ev.H} {c:C} {A:List (List UInt8)} (a:ArS n h c A) (k:∀ p,p<n→h'.get p=h.get p):ArS n h' c A :=
 ⟨a.1,a.2.imp id fun ⟨p,ro,h1,h2,h3⟩=>⟨p,ro,h1,h2,(k p h1).trans h3⟩⟩
def Zaa (v:Value):Prop:=v=.slice none 0 0∨∃ b o sp len cap,v=.slice (some ⟨b,o,sp⟩) len cap∧len≤cap∧(cap=0∨sp=none)
theorem Ztl {H:Type} {enc:TypeId × Value→H} {W:World} {fuel:Nat} {cs:List Value} {x:DataW H × List MemPlace} (h:DataW.trod enc Tryz.prog W 0 (fun _=>true) true fuel 24 cs=some x):∃ v,cs=[v]∧Zaa v:=by
 rcases DataW.trod_slice Tryz.underlying24 h with ⟨h0,_⟩|⟨⟨b,o,sp⟩,len,cap,elems,rest,n,rfl,rfl,_,_,hl,_,hlen,hel,hsp,_⟩
 ·exact⟨_,h0,.inl rfl⟩
 refine⟨_,rfl,.inr ⟨b,o,sp,len,cap,rfl,hl,?_⟩⟩
 rcases Nat.eq_zero_or_pos cap with c0|c0
 ·exact .inl c0
 right
 have c2:Tryz.prog.cellsOf 395=3:=by kernel_rfl
 obtain⟨hrl,hr⟩:=hsp rfl
 rw[c2] at hel hr
 have key:∃ y,(W.cells? 0 ((⟨b,o,sp⟩:Addr).add (0 * 3)) 3).bind (DataW.trod enc Tryz.prog W 0 (fun _=>true) true n 395)=some y:=by
  by_cases h1:0<len
  ·exact⟨_,(hel 0 h1).trans (List.getElem?_eq_getElem (by omega))⟩
  ·have:=hr (0 - len) (by omega)
   rw[show len+(0 - len)=0 by omega] at this
   exact⟨_,this.trans (List.getElem?_eq_getElem (by omega))⟩
 obtain⟨y,hy⟩:=key
 obtain⟨cs',h1,h2⟩:=Option.bind_eq_some_iff.1 hy
 obtain⟨hl2,hc⟩:=Zlk h1
 have q0:=hc 0 (by omega)
 rw[List.getElem?_eq_getElem (by omega)] at q0
 have:=World.cell?_spot q0
 simpa [Addr.add] using this
theorem Zgo {H:Type} {enc:TypeId × Value→H} {W:World} {base b0:Nat} {r:Reach} {v:Value} {d:DataW H} {p:List MemPlace} (hv:Value.okWide Tryz.prog W r b0 26 v) (h:DataW.Trod enc Tryz.prog W base (fun _=>true) true 26 v d p) (hb:base=0):∃ (a b c e md:Int) (v5:Value),v=.agg #[.int .i64 a,.int .i64 b,.int .i64 c,.int .i64 e,.int .u8 md,v5]∧Zaa v5:=by
 subst hb
 obtain⟨cs,rfl,_⟩:=okWide_struct Tryz.underlying26 hv
 obtain⟨fuel,hf0⟩:=h
 have hf:DataW.trod enc Tryz.prog W 0 (fun _=>true) true fuel 26 cs.toList=_:=hf0
 obtain⟨Lc,hLc⟩:∃ l,cs.toList=l:=⟨_,rfl⟩
 rw[hLc] at hf
 obtain⟨xs,m,_,_,hl,hlen,hfl⟩:=DataW.trod_struct Tryz.underlying26 hf
 have xl:xs.length=3:=hlen
 have c6:Tryz.prog.cellsOf 26=6:=by kernel_rfl
 have cg:Tryz.prog.cellsOf 23=4:=by kernel_rfl
 have cb:Tryz.prog.cellsOf 5=1:=by kernel_rfl
 have ct:Tryz.prog.cellsOf 24=1:=by kernel_rfl
 have k0:=hfl 0 _ rfl
 have k1:=hfl 1 _ rfl
 have k2:=hfl 2 _ rfl
 rw[List.getElem?_eq_getElem (by omega)] at k0 k1 k2
 have l6:Lc.length=6:=hl.trans c6
 match Lc,l6 with
 | [u0,u1,u2,u3,u4,u5],_ =>
  have e0:(([u0,u1,u2,u3,u4,u5]:List Value).drop 0).take (Tryz.prog.cellsOf 23)=[u0,u1,u2,u3]:=by rw[cg]; rfl
  have e1:(([u0,u1,u2,u3,u4,u5]:List Value).drop 4).take (Tryz.prog.cellsOf 5)=[u4]:=by rw[cb]; rfl
  have e2:(([u0,u1,u2,u3,u4,u5]:List Value).drop 5).take (Tryz.prog.cellsOf 24)=[u5]:=by rw[ct]; rfl
  have k0':DataW.trod enc Tryz.prog W 0 (fun _=>true) true m 23 [u0,u1,u2,u3]=_:=e0 ▸ k0
  have k1':DataW.trod enc Tryz.prog W 0 (fun _=>true) true m 5 [u4]=_:=e1 ▸ k1
  have k2':DataW.trod enc Tryz.prog W 0 (fun _=>true) true m 24 [u5]=_:=e2 ▸ k2
  obtain⟨⟨z0,rfl,_⟩,⟨z1,rfl,_⟩,⟨z2,rfl,_⟩,⟨z3,rfl,_⟩,_⟩:=Qw 8 (show kinds Tryz.prog 8 23=some [.int .i64,.int .i64,.int .i64,.int .i64] by kernel_rfl) k0'
  obtain⟨⟨z4,rfl,_⟩,_⟩:=Qw 8 (show kinds Tryz.prog 8 5=some [.int .u8] by kernel_rfl) k1'
  obtain⟨v5,e5,ok⟩:=Ztl k2'
  cases e5
  exact⟨z0,z1,z2,z3,z4,_,by congr 1; rw[←Array.toList_inj,hLc],ok⟩
theorem Yca:Y7 K 24 (.c .snil)=true:=by kernel_rfl
theorem Ybq (p o l:Nat):Y7 K 24 (.c (.slice p o l 3))=true:=by kernel_rfl
theorem Zaa.art {v:Value} (k:Nat) (ok:Zaa v):∃ (c:C) (len:Int) (l:Go.Ev.Loc),(∀ ρ:Ren,ρ k=some l→Ju ρ (.c c) v)∧Y7 K 24 (.c c)=true∧(∀ h,J3 K h 24 (.c c)=some (.int .i64 len))∧0≤len:=by
 rcases ok with rfl|⟨bk,o,sp,len,cap,rfl,hlc,hc⟩
 ·exact⟨.snil,0,⟨0,0,0⟩,fun ρ _=>rfl,Yca,fun _=>rfl,by omega⟩
 ·rcases hc with c0|rfl
  ·subst c0
   obtain rfl:len=0:=by omega
   exact⟨.slice k 0 0 3,0,⟨0,0,0⟩,fun ρ e=>⟨⟨0,0,0⟩,_,_,e,rfl,.inl ⟨rfl,rfl⟩⟩,Ybq ..,fun _=>rfl,by omega⟩
  ·exact⟨.slice k 0 len 3,len,⟨bk,o,o+cap * 3⟩,fun ρ e=>⟨⟨bk,o,o+cap * 3⟩,_,_,e,rfl,.inr ⟨rfl,hlc,by show o+0+cap * 3≤o+cap * 3; omega⟩⟩,Ybq ..,fun _=>rfl,by omega⟩
def Zm7 (W:World) (v:Value):Prop:=v=.slice none 0 0∨∃ b o sp len cap,v=.slice (some ⟨b,o,sp⟩) len cap∧len≤cap∧(cap=0∨sp=none∧∃ cl t fr,W.heap[b]? = some (.cells cl t fr)∧o+cap≤cl.size∧∀ i,i<cap→∃ B:ByteArray,cl[o+i]? = some (.string B))
theorem open_strs {H:Type} {enc:TypeId × Value→H} {W:World} {base b0:Nat} {r:Reach} {v:Value} {d:DataW H} {p:List MemPlace} (hv:Value.okWide Tryz.prog W r b0 27 v) (h:DataW.Trod enc Tryz.prog W base (fun _=>true) true 27 v d p) (hb:base=0):∃ w:Value,v=w∧Zm7 W w:=by
 subst hb
 refine⟨v,rfl,?_⟩
 obtain⟨sa,sl,sc,rfl⟩:=okWide_slice Tryz.underlying27 hv
 obtain⟨fuel,hf0⟩:=h
 have hf:DataW.trod enc Tryz.prog W 0 (fun _=>true) true fuel 27 [.slice sa sl sc]=_:=hf0
 rcases DataW.trod_slice Tryz.underlying27 hf with ⟨h0,_⟩|⟨⟨b,o,sp⟩,len,cap,elems,rest,n,rfl,h0,_,_,hl,_,hlen,hel,hsp,_⟩
 ·exact .inl (List.cons.inj h0).1
 have h1:=(List.cons.inj h0).1
 refine .inr ⟨b,o,sp,len,cap,h1,hl,?_⟩
 rcases Nat.eq_zero_or_pos cap with c0|c0
 ·exact .inl c0
 right
 have c2:Tryz.prog.cellsOf 9=1:=by kernel_rfl
 obtain⟨hrl,hr⟩:=hsp rfl
 rw[c2] at hel hr
 have each:∀ i,i<cap→∃ B:ByteArray,W.cell? ((⟨b,o,sp⟩:Addr).add (i * 1))=some (.string B):=by
  intro i hi
  have key:∃ y,(W.cells? 0 ((⟨b,o,sp⟩:Addr).add (i * 1)) 1).bind (DataW.trod enc Tryz.prog W 0 (fun _=>true) true n 9)=some y:=by
   by_cases h1:i<len
   ·exact⟨_,(hel i h1).trans (List.getElem?_eq_getElem (by omega))⟩
   ·have:=hr (i - len) (by omega)
    rw[show len+(i - len)=i by omega] at this
    exact⟨_,this.trans (List.getElem?_eq_getElem (by omega))⟩
  obtain⟨y,hy⟩:=key
  obtain⟨cs',h1,h2⟩:=Option.bind_eq_some_iff.1 hy
  obtain⟨hl2,hc⟩:=Zlk h1
  match cs',hl2 with
  | [v0],_ =>
   obtain⟨⟨B,rfl⟩,_⟩:=Qw 8 (show kinds Tryz.prog 8 9=some [.str] by kernel_rfl) h2
   refine⟨B,?_⟩
   have:=hc 0 (by omega)
   rw[show ((⟨b,o,sp⟩:Addr).add (i * 1)).add 0=(⟨b,o,sp⟩:Addr).add (i * 1) by unfold Addr.add; split<;>simp_all] at this
   exact this
 obtain⟨B0,q0⟩:=each 0 c0
 have hspot:sp=none:=by simpa [Addr.add] using World.cell?_spot q0
 subst hspot
 refine⟨rfl,?_⟩
 have at':∀ i,(⟨b,o,none⟩:Addr).add (i * 1)=⟨b,o+i * 1,none⟩:=fun i=>Go.WideShapes.add_plain b o (i * 1)
 rw[at' 0] at q0
 unfold World.cell? at q0
 split at q0
 ·rename_i cl t fr hb
  have hb':W.heap[b]? = some (.cells cl t fr):=hb
  have cell:∀ k,W.cell? ⟨b,k,none⟩=cl[k]?:=fun k=>by
   unfold World.cell?
   rw[show W.heap[(⟨b,k,none⟩:Addr).block]? = some (.cells cl t fr) from hb']
   rfl
  have each':∀ i,i<cap→∃ B:ByteArray,cl[o+i]? = some (.string B):=fun i hi=>by
   obtain⟨B,e1⟩:=each i hi
   rw[at',cell,Nat.mul_one] at e1
   exact⟨B,e1⟩
  refine⟨cl,t,fr,hb',?_,each'⟩
  obtain⟨B,e2⟩:=each' (cap - 1) (by omega)
  have:=(Array.getElem?_eq_some_iff.1 e2).1
  omega
 ·cases q0
def strOf (cl:Array Value) (o i:Nat):List UInt8:=match cl[o+i]? with
 | some (.string B)=>B.data.toList
 | _=>[]
theorem Z30 (p o l:Nat):Y7 K 27 (.c (.slice p o l 1))=true:=by kernel_rfl
theorem Z4u:Y7 K 27 (.c .snil)=true:=by kernel_rfl
theorem Zm7.ars {W:World} {v:Value} (k:Nat) (ok:Zm7 W v):∃ (c:C) (A:List (List UInt8)) (a:Option (List (List UInt8))) (l:Go.Ev.Loc),(∀ ρ:Ren,ρ k=some l→Ju ρ (.c c) v)∧(∀ (ρ:Ren) A',a=some A'→Bn ρ W (.row 1 (Sr A') true) l)∧(Y7 K 27 (.c c)=true∧∀ h,J3 K h 27 (.c c)=some (.int .i64 (A.length:Nat)))∧(A=[]∨c=.slice k 0 A.length 1∧a=some A):=by
 rcases ok with rfl|⟨bk,o,sp,len,cap,rfl,hlc,hc⟩
 ·exact⟨.snil,[],none,⟨0,0,0⟩,fun ρ _=>rfl,fun _ _ e=>(by cases e),⟨Z4u,fun _=>rfl⟩,.inl rfl⟩
 ·rcases hc with c0|⟨rfl,cl,t,fr,hb,hsz,each⟩
  ·subst c0
   obtain rfl:len=0:=by omega
   exact⟨.slice k 0 0 1,[],none,⟨0,0,0⟩,fun ρ e=>⟨⟨0,0,0⟩,_,_,e,rfl,.inl ⟨rfl,rfl⟩⟩,fun _ _ e=>(by cases e),⟨Z30 ..,fun _=>rfl⟩,.inl rfl⟩
  ·have pl:((List.range len).map (strOf cl o)).length=len:=by rw[List.length_map,List.length_range]
   refine⟨.slice k 0 len 1,(List.range len).map (strOf cl o),some ((List.range len).map (strOf cl o)),⟨bk,o,cl.size⟩,fun ρ e=>⟨⟨bk,o,cl.size⟩,_,_,e,rfl,.inr ⟨rfl,hlc,by show o+0+cap * 1≤cl.size; omega⟩⟩,fun ρ A' e=>?_,⟨Z30 ..,fun _=>by rw[pl]; rfl⟩,.inr ⟨by rw[pl],rfl⟩⟩
   cases e
   refine⟨cl,t,fr,hb,rfl,fun h=>(by cases h),fun p hp=>?_,fun i c hi=>?_⟩
   ·obtain⟨z,_,rfl⟩:=List.mem_map.1 hp
    rfl
   ·unfold read1 Sr at hi
    rw[Nat.div_one,Nat.mod_one,List.map_map,List.getElem?_map] at hi
    by_cases h1:i<len
    ·rw[List.getElem?_range h1] at hi
     obtain⟨B,e⟩:=each i (by omega)
     have ei:strOf cl o i=B.data.toList:=by unfold strOf; rw[e]
     simp only[Option.map_some,Function.comp_apply,ei] at hi
     cases hi
     exact⟨_,e,rfl⟩
    ·rw[List.getElem?_eq_none (by rw[List.length_range]; omega)] at hi
     cases hi
noncomputable def Zhw (a:Option (List (List UInt8))):Go.Ev.H:=match a with
 | none=>⟨Rj.m,3⟩
 | some A=>(⟨Rj.m,3⟩:Go.Ev.H).put 2 (.row 1 (Sr A) true)
theorem Zlc {n:Nat} {a:Option (List (List UInt8))} {o:O} (e:(Zhw a).get n=some o):(n=2∧∃ A,a=some A∧o=.row 1 (Sr A) true)∨Rj.get n=some o:=by
 cases a with
 | none=>exact .inr e
 | some A =>
  have e':((⟨Rj.m,3⟩:Go.Ev.H).put 2 (.row 1 (Sr A) true)).get n=some o:=e
  rw[H.get_put] at e'
  split at e'
  ·rename_i q; cases e'; exact .inl ⟨q,A,rfl,rfl⟩
  ·exact .inr e'
theorem Zb9 {a:Option (List (List UInt8))} {n:Nat} {o:O} (e:(Zhw a).get n=some o):o.ro=true:=by
 rcases Zlc e with ⟨_,A,_,rfl⟩|q
 ·rfl
 ·rw[(Er q).2]; rfl
theorem R8 (a:Option (List (List UInt8))):(Zhw a).next=3:=by
 cases a with
 | none=>rfl
 | some A=>exact H.Zd ..
theorem Zui (a:Option (List (List UInt8))):(Zhw a).get 0=some Gf:=by
 cases a with
 | none=>rfl
 | some A=>exact (Ze (by omega)).trans rfl
def Zlr (la lb:Go.Ev.Loc):Go.Ev.Ren:=fun n=>if n=2 then some lb else if n=1 then some la else if n=0 then some ⟨1,0,16⟩ else none
theorem Zj6 (la lb:Go.Ev.Loc):Dom (Zlr la lb) 3:=fun n hn=>by
 unfold Zlr
 rw[if_neg (by omega),if_neg (by omega),if_neg (by omega)]
theorem Zo2 {W:World} {cs:Array Value} {t:TypeId} {fr:Nat × Nat} (hb:W.heap[1]? = some (.cells cs t fr)) (hcs:cs.toList=steps16.map (Value.int .u32)) {a:Option (List (List UInt8))} {la lb:Go.Ev.Loc} (hb2:∀ (ρ:Ren) A,a=some A→Bn ρ W (.row 1 (Sr A) true) lb):Rep K (Zlr la lb) (Zhw a) W:=by
 have R:=Zd3 gl hb hcs
 refine⟨fun g n h=>?_,fun n o h=>?_,fun n n' o o' l l' hne h h' _ _ hq=>?_⟩
 ·obtain⟨rfl,rfl⟩:=Vj gl h
  exact⟨16,rfl⟩
 ·rcases Zlc h with ⟨rfl,A,e,rfl⟩|q
  ·exact⟨lb,rfl,hb2 _ A e⟩
  ·obtain⟨l0,hl0,hor⟩:=R.obj n o q
   obtain⟨rfl,rfl⟩:=Er q
   refine⟨l0,hl0,?_⟩
   have hs:(O.row 16 [steps16.map (C.int .u32)] true).simple=true:=rfl
   exact (Wx (σ:=fun _=>0) (ρ:=Zlr la lb) (w:=W) hs l0).2 ((Wx (σ:=fun _=>0) (ρ:=Tn 1) (w:=W) hs l0).1 hor)
 ·rw[Zb9 h,Zb9 h'] at hq
  rcases hq with q|q<;>cases q
end Go.Proofs.YtecakmodlkbnaaaGreatDoor
set_option maxRecDepth 100000
set_option maxHeartbeats 4000000
namespace Go.Proofs.YtecakmodlkbnaaaGreatDoor
open Go.Ev
def stO (n:Nat):Stt:=⟨n+12,n+20,n+21,n+22,.snil,false⟩
def txO (n:Nat):Tx:=⟨n+15,n+16,n+17,n+19,1,false,0,0,.mnil,.mnil,.mnil,.mnil,.pnil⟩
structure ClD (n d d1 d2 a b c e:Nat) (md:Int) (L:List (List C)) (h:Go.Ev.H):Prop where
 st:h.get 0=some Gf
 n0:0<n
 nx:n+23≤h.next
 l1:d<n+5
 l2:d2<n+5
 ht:h.get (n+20)=some (.row 13 [txL (txO n)] false)
 hg:h.get (n+12)=some (.row 9 [gdL ⟨a,b,c,e,md,d,n+8,n+9,n+11⟩] false)
 hc:h.get (n+8)=some (.row 3 [ckL ⟨d,n+6,n+7⟩] false)
 hd:h.get d=some (.row 6 [dkL ⟨d1,d2,2+e+a * b,.snil,0,0⟩] false)
 hq:h.get d2=some (.row 256 L false)
 hli:h.get (n+11)=some (.row 8 [[.bool true,.int .i64 (a:Int),.int .i64 (b:Int),.int .i64 (c:Int),.int .i64 (e:Int),.bool false,.int .u32 0,.snil]] false)
 hm:h.get (n+6)=some (.map [])
 hfr:h.get (n+17)=some (.map [])
 hod:h.get (n+16)=some (.map [])
 hrv:h.get (n+19)=some (.row 1 [[.map (n+18)]] false)
 hrc:h.get (n+18)=some (.map [])
 hs:h.get (n+13)=some (.row 8 [stL (stO n)] false)
 hdt:h.get (n+21)=some (.map [])
 hgv:h.get (n+22)=some (.map [])
 hch:h.get (n+15)=some (.map [])
theorem ClD.keep {n d d1 d2 a b c e:Nat} {md:Int} {L:List (List C)} {h h2:Go.Ev.H} (M:ClD n d d1 d2 a b c e md L h) (hx:h.next≤h2.next) (k:∀ m,m<n+23→h2.get m=h.get m):ClD n d d1 d2 a b c e md L h2:=by
 obtain⟨f1,f2,f3,l1,l2,f4,f5,f6,f7,f8,f9,f10,f11,f12,f13,f14,f15,f16,f17,f18⟩:=M
 refine⟨?_,f2,by omega,l1,l2,?_,?_,?_,?_,?_,?_,?_,?_,?_,?_,?_,?_,?_,?_,?_⟩
 all_goals (rw[k _ (by omega)]; assumption)
theorem Ycn {h:Go.Ev.H} (l5:6≤h.next) (hst:h.get 0=some Gf) {d d1 d2 a b c e:Nat} {L:List (List C)} (ld:d<h.next) (ld2:d2<h.next) (hd:h.get d=some (.row 6 [dkL ⟨d1,d2,2+e+a * b,.snil,0,0⟩] false)) (hq:h.get d2=some (.row 256 L false)) (md:Int):ClD (h.next - 5) d d1 d2 a b c e md L (Qs h d a b c e md 1)∧h.next≤(Qs h d a b c e md 1).next∧∀ m,m<h.next→(Qs h d a b c e md 1).get m=h.get m:=by
 have kk:∀ m,m<h.next→(Qs h d a b c e md 1).get m=h.get m:=fun m hm=>by
  unfold Qs
  simp (discharger:=omega) only [H.get_put,H.Z7,H.Zb,H.Zd,if_neg]
 obtain⟨n,hn⟩:∃ n,h.next=n+5:=⟨h.next - 5,by omega⟩
 rw[show h.next - 5=n by omega]
 refine⟨⟨(kk 0 (by omega)).trans hst,?_,?_,by omega,by omega,?_,?_,?_,(kk d ld).trans hd,(kk d2 ld2).trans hq,?_,?_,?_,?_,?_,?_,?_,?_,?_,?_⟩,?_,kk⟩
 ·omega
 ·unfold Qs; simp only[H.Zd,H.Zb]; omega
 all_goals (unfold Qs; first|(simp only[H.Zd,H.Zb]; omega)|(simp (discharger:=omega) only [H.get_put,H.Z7,H.Zb,H.Zd,hn,if_neg,if_pos,if_true]; rfl)|(simp (discharger:=omega) only [H.get_put,H.Z7,H.Zb,H.Zd,hn,if_neg,if_pos,if_true]))
noncomputable def Zat (n:Nat) (h:Go.Ev.H) (cr:Cr):Go.Ev.H:=Zfq (Rn h (n+13) (stO n)) (n+20) (txO n) cr.c cr.r
theorem Gp {n m:Nat} {h:Go.Ev.H} (nx:n+23≤h.next) (hm:m<h.next) (m1:m≠n+13) (m2:m≠n+20) (cr:Cr):(Zat n h cr).get m=h.get m:=by
 unfold Zat Zfq Fu Rn
 simp (discharger:=omega) only [H.get_put,H.Z7,H.Zb,H.Zd,if_neg]
section
variable {n d d1 d2 a b c e:Nat} {md:Int} {cr:Cr} {L:List (List C)} {h h2:Go.Ev.H}
theorem ClD.beg (M:ClD n d d1 d2 a b c e md L h) (fb:Ym a b c e=true) {s:Int} (sz:Zj7 cr.c cr.r=some s) (sj:s≤(e:Int) - 1):Xa [.c (.ptr (n+13) 0),.c (.int .i64 cr.c),.c (.int .i64 cr.r)] h=some (.w (.c (.int .i64 0)),Zat n h cr):=by
 obtain⟨f1,f2,f3,l1,l2,f4,f5,f6,f7,f8,f9,f10,f11,f12,f13,f14,f15,f16,f17,f18⟩:=M
 have s9:decide (s≤(e:Int) - 1)=true:=decide_eq_true sj
 unfold Xa Zat
 simp (maxSteps:=9^6) +decide (disch:=first|omega|(simp only[lens]<;>omega)|decide) only [go_sem,Zn,Zm,simprocAttr,f15,stO,f4,txO,f5,gdL,f12,f13,f14,f11,f18,fb,sz,s9]<;>rfl
theorem ClD.begun (M:ClD n d d1 d2 a b c e md L h) {S:List Nat} {V:Nat→List Nat} (Sc:(S.length:Int)≤cr.c) (see:∀ z,z<2+e+a * b→Bp a b c e (z:Int)=true→(V z).length=256∧L[z]? = some (pgL (V z))):HE n h.next a b c e cr md S [] V (Zat n h cr):=by
 obtain⟨f1,f2,f3,l1,l2,f4,f5,f6,f7,f8,f9,f10,f11,f12,f13,f14,f15,f16,f17,f18⟩:=M
 refine⟨d,d1,d2,false,[],[],[],[],L,rfl,Z0n L,rfl,rfl,rfl,(fun _ _ e=>by cases e),rfl,(fun _ _ e=>by cases e),Sc,(fun _ _ e=>by cases e),fun z z1 hz=>⟨(see z z1 hz).1,.inr ⟨rfl,.inr ⟨rfl,(see z z1 hz).2⟩⟩⟩,?_,f2,f3,?_,l1,l2,?_,?_,?_,?_,?_,?_,?_,?_,?_,?_,?_,?_,?_,?_,?_,?_,?_⟩
 ·rw[Gp f3 (by omega) (by omega) (by omega)]; exact f1
 ·unfold Zat Zfq Fu Rn; simp only[H.Zb,H.Zd]; omega
 ·unfold Zat Zfq Fu Rn; simp (discharger:=omega) only [H.get_put,H.Z7,H.Zb,H.Zd,if_neg,if_pos]; rfl
 ·rw[Gp f3 (by omega) (by omega) (by omega)]; exact f5
 ·rw[Gp f3 (by omega) (by omega) (by omega)]; exact f6
 ·rw[Gp f3 (by omega) (by omega) (by omega)]; exact f7
 ·rw[Gp f3 (by omega) (by omega) (by omega)]; exact f8
 ·rw[Gp f3 (by omega) (by omega) (by omega)]; exact f9
 ·unfold Zat Zfq Fu Rn; simp (discharger:=omega) only [H.get_put,H.Z7,H.Zb,H.Zd,if_neg,if_pos,if_true]
 ·rw[Gp f3 (by omega) (by omega) (by omega)]; exact f11
 ·rw[Gp f3 (by omega) (by omega) (by omega)]; exact f12
 ·rw[Gp f3 (by omega) (by omega) (by omega)]; exact f13
 ·rw[Gp f3 (by omega) (by omega) (by omega)]; exact f14
 ·unfold Zat Zfq Fu Rn; simp (discharger:=omega) only [H.get_put,H.Z7,H.Zb,H.Zd,if_neg,if_pos,if_true]; rfl
 ·unfold Zat Zfq Fu Rn; simp (discharger:=omega) only [H.get_put,H.Z7,H.Zb,H.Zd,if_neg,if_pos,if_true]
 ·rw[Gp f3 (by omega) (by omega) (by omega)]; exact f10
 ·unfold Zat Zfq Fu Rn; simp (discharger:=omega) only [H.get_put,H.Z7,H.Zb,H.Zd,if_neg,if_pos]; rfl
 ·unfold Zat Zfq Fu Rn; simp (discharger:=omega) only [H.get_put,H.Z7,H.Zb,H.Zd,if_neg,if_pos,if_true]; rfl
 ·rw[Gp f3 (by omega) (by omega) (by omega)]; exact f18
end
noncomputable def q7 (p:List Nat):Code:=piece p (Uh Tryz.f7)
theorem rs7:Tryz.f7.results.toList=[.tmp 4,.tmp 5]:=rfl
attribute [go_sem] rs7
noncomputable def frI (h:Go.Ev.H) (a b c e:Nat) (L:List (List C)):Go.Ev.H:=((((h.new (.row 4 [Jk a b c e] false)).new (.row 256 L false)).new (.row 256 L false)).new (.row 256 L false)).new (.row 6 [dkL ⟨h.next+1+1,h.next+1+1+1,2+e+a * b,.snil,0,0⟩] false)
section
variable (Hh:Hearts K Tryz.prog)
include Hh
theorem Zkt {a b c d:Nat} {md:Int} (f:Ym a b c d=true) (m1:1≤md) (m2:md≤3) {h:Go.Ev.H} (hst:h.get 0=some Gf) (l0:0<h.next):∃ L h',Image a b c d L∧Zg 7 [.g [.int .i64 (a:Int),.int .i64 (b:Int),.int .i64 (c:Int),.int .i64 (d:Int)],.c (.int .u8 md)] h (.tup [.c (.ptr (h.next+13) 0),.c (.bool true)]) h'∧ClD h.next (h.next+4) (h.next+2) (h.next+3) a b c d md L h'∧h.next≤h'.next∧∀ m,m<h.next→h'.get m=h.get m:=by
 obtain⟨g1,g2,g3,g4,g5,g6,g7,g8,g9,g10,g11⟩:=Zv f
 obtain⟨L,I,c1⟩:=Z79 Hh f (h:=h.new (.row 4 [[.int .i64 (a:Int),.int .i64 (b:Int),.int .i64 (c:Int),.int .i64 (d:Int)]] false)) (by rw[Z8 (by omega)]; exact hst) (by rw[H.Zb]; omega)
 rw[H.Zb] at c1
 have nI:(frI h a b c d L).next=h.next+5:=by unfold frI; simp only[H.Zb]
 have ND:=Ycn (h:=frI h a b c d L) (by omega) (by unfold frI; refine Eq.trans ?_ hst; exact Yc) (d:=h.next+4) (d1:=h.next+2) (d2:=h.next+3) (a:=a) (b:=b) (c:=c) (e:=d) (L:=L) (by omega) (by omega) (by unfold frI; exact Jv (by simp only[H.Zb]; omega)) (by unfold frI; rw[Z8 (by simp only[H.Zb]; omega)]; exact Jv (by simp only[H.Zb]; omega)) md
 rw[show (frI h a b c d L).next - 5=h.next by omega] at ND
 obtain⟨MC,nC,kC⟩:=ND
 refine⟨L,_,I,?_,MC,by omega,fun m hm=>(kC m (by omega)).trans (by unfold frI; exact Yc)⟩
 have im:=I.im
 have ll:=I.len
 obtain⟨N,hN⟩:∃ N,2+d+a * b=N:=⟨_,rfl⟩
 unfold frI
 rw[hN] at c1 ll g11 ⊢
 have nn:1≤N:=by omega
 refine fnG Hh Tryz.f7 ?_
 have Jf:=U1 @f @im @ll @hN @rd4
 iterate 3 (first|apply Zk|refine Zq Hh Za Y5 ?_)
 iterate 2 (first|apply Zk|refine Zq Hh (Zp Za c1) Y5 ?_)
 iterate 11 (first|apply Zk|apply Zw|apply Z0|refine Goes.Zi Y5 ?_|refine Zq Hh (EY (EY Za (Zwu Hh)) (Z1g Hh)) Y5 ?_)
 simp (maxSteps:=9^6) +decide (disch:=first|omega|(simp only[lens]<;>omega)|decide) only [go_sem,Zm,simprocAttr,Jk]<;>rfl
end
end Go.Proofs.YtecakmodlkbnaaaGreatDoor
