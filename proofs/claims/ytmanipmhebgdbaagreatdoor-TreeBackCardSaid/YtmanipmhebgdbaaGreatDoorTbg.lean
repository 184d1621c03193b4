/- TreeBack's names of two letters: called, run by the kernel. -/
import Derived.Test.YtmanipmhebgdbaaGreatDoorTrn
import Derived.Test.YtmanipmhebgdbaaGreatDoorTbu
import Derived.Test.YtmanipmhebgdbaaGreatDoorTbv
import Derived.Test.YtmanipmhebgdbaaGreatDoorTbw
import Derived.Test.YtmanipmhebgdbaaGreatDoorTwd
set_option maxRecDepth 100000
set_option maxHeartbeats 4000000
set_option linter.unusedSimpArgs false
set_option linter.unusedVariables false
set_option linter.unusedSectionVars false
namespace Go.Proofs.YtmanipmhebgdbaaGreatDoor
open Go.Ev
noncomputable def Zom:Kn1:=fun args h=>match args with
 | [.c (.int .i64 k)]=>if 0<=k/\k<676 then some (.w (.c (.str (nmQ k.toNat))),h) else none
 | _=>none
theorem spqg0:Zcr 0=true:=kR
theorem spqg1:Zcr 1=true:=kR
theorem spqg2:Zcr 2=true:=kR
theorem spqg3:Zcr 3=true:=kR
theorem spqg4:Zcr 4=true:=kR
theorem spqg5:Zcr 5=true:=kR
theorem spqg6:Zcr 6=true:=kR
theorem spqg7:Zcr 7=true:=kR
theorem spqg8:Zcr 8=true:=kR
theorem spqg9:Zcr 9=true:=kR
theorem spqg10:Zcr 10=true:=kR
theorem spqg11:Zcr 11=true:=kR
theorem spqg12:Zcr 12=true:=kR
theorem Z99:Zbk 676 (fun j=>Rp (120 :: nmQ j))=true:=kR
theorem Yaa:Zbk 676 (fun j=>Rp (121 :: nmQ j))=true:=kR
section
variable (Hh:Hearts K Tryz.prog)
include Hh
theorem Z5i {k:Nat} (h:k<676) (m:Hq):Zb 8 [.c (.int .i64 (k:Int))] m (.w (.c (.str (nmQ k)))) m:=by
 obtain⟨i,j,hi,hj,rfl⟩:=in13 h
 have e:∀ i,i<13->Zcr i=true:=lt13 spqg0 spqg1 spqg2 spqg3 spqg4 spqg5 spqg6 spqg7 spqg8 spqg9 spqg10 spqg11 spqg12
 exact Zx.closed fits Hh Z8x gl (n:=1000) (Z9z (Zcj (e i hi) j hj)) rfl rfl m
theorem Zt8 {args:List W} {h h':Hq} {v:V} (e:Zom args h=some (v,h')):Zb 8 args h v h':=by
 unfold Zom at e
 split at e
 ·rename_i k
  split at e
  ·rename_i c
   obtain⟨n,rfl⟩:=Int.eq_ofNat_of_zero_le c.1
   cases e
   rw[Int.toNat_natCast]
   exact Z5i Hh oM h
  ·cases e
 ·cases e
omit Hh in
theorem Zjq {k:Nat} (h:k<676) (m:Hq):Zom [.c (.int .i64 (k:Int))] m=some (.w (.c (.str (nmQ k))),m):=by
 show (if (0:Int)<=(k:Int)/\(k:Int)<676 then some (V.w (.c (.str (nmQ (k:Int).toNat))),m) else none)=_
 rw[if_pos ⟨oM,oM⟩,Int.toNat_natCast]
end
open Go.Ev
structure QB (A:List (List UInt8)) (iw:Nat->Nat × Nat) (V:Nat->Lq) (J:Lq) (NN:Nat->List UInt8->Nat):Prop where
 ex:∃ m bl,TSt 2 60 32 40 iw V m J bl NN/\m=bl 0+bl 1+bl 2/\(∀ j,bl j<=1)/\∀ j,j ∉ J->bl j=0
 j3:∀ j∈J,j<3
 few:∀ j∈J,∀ r,NN j r≠0->r∈A
 may:∀ r∈A,Rp r=true
section
variable {A:List (List UInt8)} {iw:Nat->Nat × Nat} {V V':Nat->Lq} {J:Lq} {NN:Nat->List UInt8->Nat} {t j:Nat}
theorem Ybu {k w:Nat} (h:w<=44):w≠Fs 60 32 40 k:=fun e=>by unfold Fs at e; omega
theorem ISt.dir (o:ISt V t) (jt:j<t) (hg:∀ i:Nat,i≠j->gI 2 60 32 40 V' ((i+1:Nat):Int)=gI 2 60 32 40 V ((i+1:Nat):Int)) (hb:V' (2+40+1)=V (2+40+1)):ISt V' t :=
 o.keep hb fun i h1 _=>by
  obtain⟨k,rfl⟩:∃ k,i=k+1:=⟨i - 1,oM⟩
  exact hg k oM
theorem QB.more (T:QB A iw V J NN) (ni:t ∉ J) (t3:t<3) (D:DirS 2 60 32 40 V t 1 (fun _=>0) [] []) (z:NN t=fun _=>0):QB A iw V (t :: J) NN:=by
 obtain⟨⟨m,bl,T1,e,b1,b0⟩,j3,few,may⟩:=T
 have eb:upJ bl t 0=bl:=funext fun j=>by
  by_cases q:j=t
  ·subst q; rw[Y7,b0 _ ni]
  ·rw[Ji q]
 have eN:upJ NN t (fun _=>0)=NN:=funext fun j=>by
  by_cases q:j=t
  ·subst q; rw[Y7,z]
  ·rw[Ji q]
 have T2:=T1.more ni D
 rw[eb,eN] at T2
 refine⟨⟨m,bl,T2,e,b1,fun j hj=>b0 j fun w=>hj (List.mem_cons_of_mem _ w)⟩,fun j hj=>?_,fun j hj r hr=>?_,may⟩
 ·rcases List.mem_cons.1 hj with rfl|w
  ·exact t3
  ·exact j3 j w
 ·rcases List.mem_cons.1 hj with rfl|w
  ·rw[z] at hr; exact absurd rfl hr
  ·exact few j w r hr
theorem QB.leads (Hh:Hearts K Tryz.prog) {n q:Nat} {cr:Cr} {md:Int} (m0:md≠0) {S T':Lq} {s:List UInt8} (T:QB A iw V J NN) (hj:j∈J) (my:Rp s=true):O0 n q 2 60 32 40 cr md S T' V (j+1) s (NN j s) (if NN j s=0 then 301 else 0):=by
 obtain⟨m,bl,T1,_⟩:=T.ex
 exact T1.leads Hh Vy m0 hj my
theorem QB.no (Hh:Hearts K Tryz.prog) {n q:Nat} {cr:Cr} {md:Int} (m0:md≠0) {S T':Lq} {s:List UInt8} (T:QB A iw V J NN) (hj:j∈J) (my:s∈A) (e:NN j s=0):O0 n q 2 60 32 40 cr md S T' V (j+1) s 0 301:=by
 have:=T.leads (n:=n) (q:=q) (cr:=cr) (S:=S) (T':=T') Hh m0 hj (T.may s my)
 rw[e] at this
 exact this
theorem QB.yes (Hh:Hearts K Tryz.prog) {n q:Nat} {cr:Cr} {md:Int} (m0:md≠0) {S T':Lq} {s:List UInt8} {w:Nat} (T:QB A iw V J NN) (hj:j∈J) (my:s∈A) (e:NN j s=w) (w0:w≠0):O0 n q 2 60 32 40 cr md S T' V (j+1) s w 0:=by
 have:=T.leads (n:=n) (q:=q) (cr:=cr) (S:=S) (T':=T') Hh m0 hj (T.may s my)
 rw[e,if_neg w0] at this
 exact this
theorem QB.ino (T:QB A iw V J NN) (hj:j∈J):∃ y,gI 2 60 32 40 V ((j+1:Nat):Int)=(y,0)/\y.length=16/\read1 16 [y] 0=some (.int .u8 2):=by
 obtain⟨m,bl,T1,_⟩:=T.ex
 obtain⟨g,P,bs,L,h1,_⟩:=T1.ex
 obtain⟨D,_⟩:=h1 j hj
 exact⟨_,D.gz,rfl,rfl⟩
end
section
variable (Hh:Hearts K Tryz.prog)
include Hh
variable {n q:Nat} {cr:Cr} {md:Int} {A:List (List UInt8)} {iw:Nat->Nat × Nat} {V:Nat->Lq} {J:Lq} {NN:Nat->List UInt8->Nat} {h:Hq} {t j u i0 w0 kq:Nat} {s:List UInt8}
variable [Opn cr]
theorem QB.add (m0:md≠0) (io:Zbm 32 iw) (A8:A.length<8) (M:HE n q 2 60 32 40 cr md chT [] V h) (T:QB A iw V J NN) (hj:j∈J) (hs:s∈A) (s0:NN j s=0) (u0:0<u) (u4:u<=4) :
  ∃ h' V',Zb 23 [.c (.ptr (n+13) 0),.c (.int .i64 ((j+1:Nat):Int)),.c (.str s),.c (.int .i64 (u:Int))] h (.w (.c (.int .i64 0))) h'/\HE n q 2 60 32 40 cr md chT [] V' h'/\QB A iw V' J (upJ NN j (upN (NN j) s u))/\Kp n q h h'/\(∀ i:Nat,i≠j->gI 2 60 32 40 V' ((i+1:Nat):Int)=gI 2 60 32 40 V ((i+1:Nat):Int))/\V' (2+40+1)=V (2+40+1):=by
 obtain⟨⟨m,bl,T1,e,b1,b0⟩,j3,few,may⟩:=T
 have jl:=j3 j hj
 have c0:=b1 0
 have c1:=b1 1
 have c2:=b1 2
 have bt:Y0 60 32 40 j=44:=Ybv oM
 obtain⟨h',V',m',bl',cc,kp,M',t',w,g',o'⟩:=Ydy Hh (cap:=4) (u:=u) (j:=j) Vy m0 io M T1 hj (may s hs) s0 u0 oM oM dM dM Z8f (by rw[bt]; decide) oM oM (by rw[Z0f m oM]; omega) (few j hj) oM
 refine⟨h',V',cc,M',⟨⟨m',bl',t',?_⟩,j3,fun i hi r hr=>?_,may⟩,kp,g',o' _ (fun w=>?_) (fun k=>Ybu oM) (by rw[bt]; omega)⟩
 ·rcases w with ⟨rfl,rfl⟩|⟨rfl,rfl,w⟩
  ·exact⟨e,b1,b0⟩
  ·have z:bl j=0:=oM
   refine⟨?_,fun i=>?_,fun i hi=>?_⟩
   ·rw[e,z]
    unfold upJ
    rcases (by omega:j=0\/j=1\/j=2) with rfl|rfl|rfl<;>simp<;>omega
   ·by_cases q:i=j
    ·subst q; rw[Y7]; omega
    ·rw[Ji q]; exact b1 i
   ·rw[Ji (show i≠j from fun q=>hi (by rw[q]; exact hj))]; exact b0 i hi
 ·by_cases q:i=j
  ·subst q
   rw[Y7] at hr
   by_cases rs:r=s
   ·rw[rs]; exact hs
   ·rw[Zfd rs] at hr; exact few i hi r hr
  ·rw[Ji q] at hr; exact few i hi r hr
 ·rcases w with w|⟨k,_,w⟩<;>omega
theorem QB.rem (m0:md≠0) (io:Zbm 32 iw) (M:HE n q 2 60 32 40 cr md chT [] V h) (T:QB A iw V J NN) (hj:j∈J) (s0:NN j s≠0) :
  ∃ h' V',Zb 29 [.c (.ptr (n+13) 0),.c (.int .i64 ((j+1:Nat):Int)),.c (.str s)] h (.w (.c (.int .i64 0))) h'/\HE n q 2 60 32 40 cr md chT [] V' h'/\QB A iw V' J (upJ NN j (upN (NN j) s 0))/\Kp n q h h':=by
 obtain⟨⟨m,bl,T1,e,b1,b0⟩,j3,few,may⟩:=T
 have c0:=b1 0
 have c1:=b1 1
 have c2:=b1 2
 obtain⟨h',V',cc,kp,M',t',g',o'⟩:=Ydz Hh (cap:=4) (j:=j) Vy m0 io M T1 hj (may s (few j hj s s0)) s0 dM dM Z8f oM
 refine⟨h',V',cc,M',⟨⟨m,bl,t',e,b1,b0⟩,j3,fun i hi r hr=>?_,may⟩,kp⟩
 by_cases q:i=j
 ·subst q
  rw[Y7] at hr
  by_cases rs:r=s
  ·rw[rs,Zdy] at hr; exact absurd rfl hr
  ·rw[Zfd rs] at hr; exact few i hi r hr
 ·rw[Ji q] at hr; exact few i hi r hr
end
section
variable (Hh:Hearts K Tryz.prog)
include Hh
variable {n q:Nat} {md:Int} {A:List (List UInt8)} {iw:Nat->Nat × Nat} {V:Nat->Lq} {J:Lq} {NN:Nat->List UInt8->Nat} {t j u i0 w0 kq:Nat} {s:List UInt8}
theorem QB.takes (m0:md≠0) (io:Zbm 32 iw) (A8:A.length<8) (T:QB A iw V J NN) (o:ISt V t) (t1:1<=t) (t4:t<4) (e0:iw 0=(i0,w0)) (i1:1<=i0) (iw':w0+i0<=32) (kk:kq=1\/kq=2/\t<3) (hj:j∈J) (nj:t ∉ J) (jt:j<t) (hs:s∈A) (s0:NN j s=0) (z:NN t=fun _=>0) :
  Zkw n md V kq (j+1) s (t+1) (fun V'=>QB A (upJ iw 0 (i0 - 1,Lx (kq:Int) w0)) V' (if kq=2 then t :: J else J) (upJ NN j (upN (NN j) s (t+1)))/\ISt V' (t+1))/\Zbm 32 (upJ iw 0 (i0 - 1,Lx (kq:Int) w0)):=by
 have jl:=T.j3 j hj
 have dn:Lx (kq:Int) w0<=w0+1:=by
  unfold Lx; split<;>omega
 have io':Zbm 32 (upJ iw 0 (i0 - 1,Lx (kq:Int) w0)):=fun k=>by
  by_cases e:k=0
  ·subst e; rw[Y7]; show Lx (kq:Int) w0+(i0 - 1)<=32; omega
  ·rw[Ji e]; exact io k
 refine⟨?_,io'⟩
 intro q cr _ h M
 obtain⟨⟨m,bl,T1,e,b1,b0⟩,j3,few,may⟩:=T
 obtain⟨h1,V1,c1,M1,k1,T2,I1,g1,_,_,_⟩:=Yb7 Hh M T1 o t1 t4 nj e0 io i1 iw' (kq:=kq) (by rcases kk with w|w; exact .inl w; exact .inr w.1) (near:=j+1) ⟨oM,oM⟩ dM dM dM
 have T3:QB A (upJ iw 0 (i0 - 1,Lx (kq:Int) w0)) V1 (if kq=2 then t :: J else J) NN:=by
  have T3:QB A (upJ iw 0 (i0 - 1,Lx (kq:Int) w0)) V1 J NN:=⟨⟨m,bl,T2,e,b1,b0⟩,j3,few,may⟩
  rcases kk with rfl|⟨rfl,t3⟩
  ·exact T3
  ·exact T3.more nj t3 (Z8g oM oM g1) z
 have hj':j∈(if kq=2 then t :: J else J):=by
  split
  ·exact List.mem_cons_of_mem _ hj
  ·exact hj
 refine⟨h1,V1,c1,M1,k1,fun {h1} M1=>?_⟩
 obtain⟨h2,V2,c2,M2,T4,k2,g2,o2⟩:=QB.add Hh m0 io' A8 M1 T3 hj' hs s0 (u:=t+1) oM oM
 exact⟨h2,V2,c2,M2,⟨T4,I1.dir oM g2 o2⟩,k2⟩
theorem QB.moves (m0:md≠0) (io:Zbm 32 iw) (A8:A.length<8) (T:QB A iw V J NN) {j':Nat} {s':List UInt8} (hj:j∈J) (hj':j'∈J) (jj:j≠j') (hs:s'∈A) (s0:NN j' s'=0) (s1:NN j s≠0) (u0:0<u) (u4:u<=4) :
  Moves n md V (j+1) s (j'+1) s' u (fun V'=>QB A iw V' J (upJ (upJ NN j' (upN (NN j') s' u)) j (upN (NN j) s 0)))/\True:=by
 refine⟨?_,trivial⟩
 intro q cr _ h M
 obtain⟨h1,V1,c1,M1,T1,k1,_,_⟩:=QB.add Hh m0 io A8 M T hj' hs s0 u0 u4
 refine⟨h1,V1,c1,M1,k1,fun {h1} M1=>?_⟩
 have e:upJ NN j' (upN (NN j') s' u) j=NN j:=Ji jj
 obtain⟨h2,V2,c2,M2,T2,k2⟩:=QB.rem Hh m0 io M1 T1 hj (s:=s) (by rw[e]; exact s1)
 rw[e] at T2
 exact⟨h2,V2,c2,M2,T2,k2⟩
end
open Go.Ev
def nnQ (x y:List UInt8) (o t f z:Nat):Nat->List UInt8->Nat:=fun j r=>if j=0 then (if r=x then o else if r=y then t else 0) else if j=1 then (if r=[102] then f else 0) else if j=2 then (if r=[122] then z else 0) else 0
section
variable {x y:List UInt8} {o t f z o' t' f' z':Nat}
theorem nn0:nnQ x y o t f z 0=fun r=>if r=x then o else if r=y then t else 0:=rfl
theorem nn1:nnQ x y o t f z 1=fun r=>if r=[102] then f else 0:=rfl
theorem nn2:nnQ x y o t f z 2=fun r=>if r=[122] then z else 0:=rfl
theorem nn3:nnQ x y o t f z 3=fun _=>0:=rfl
theorem Yd7:nnQ x y o t 0 z 1=fun _=>0:=by rw[nn1]; exact funext fun r=>ite_self 0
theorem Yd8:nnQ x y o t f 0 2=fun _=>0:=by rw[nn2]; exact funext fun r=>ite_self 0
theorem Zny {N N':Nat->List UInt8->Nat} (h0:N 0=N' 0) (h1:N 1=N' 1) (h2:N 2=N' 2) (h3:∀ j,3<=j->N j=N' j):N=N':=funext fun j =>
 match j with
 | 0=>h0
 | 1=>h1
 | 2=>h2
 | j+3=>h3 _ oM
theorem Zg3 {s:List UInt8} {a b:Nat} {g:List UInt8->Nat}:upN (fun r=>if r=s then a else g r) s b=fun r=>if r=s then b else g r:=funext fun r=>by
 by_cases e:r=s
 ·simp [upN,e]
 ·simp [upN,e]
theorem Z3b {s s':List UInt8} (ne:s≠s') {a:Nat} {g:List UInt8->Nat} {v:Nat}:upN (fun r=>if r=s then a else g r) s' v=fun r=>if r=s then a else upN g s' v r:=funext fun r=>by
 by_cases e:r=s
 ·simp [upN,e,ne]
 ·simp [upN,e]
theorem Yad:upJ (nnQ x y o t f z) 0 (upN (nnQ x y o t f z 0) x o')=nnQ x y o' t f z :=
 Zny (by rw[Y7,nn0,nn0]; exact Zg3 (g:=fun r=>if r=y then t else 0)) (Ji oM) (Ji oM) fun j h=>(Ji oM).trans (by unfold nnQ; simp only[show ¬ j=0 by omega,show ¬ j=1 by omega,show ¬ j=2 by omega,if_false])
theorem Yea (xy:x≠y):upJ (nnQ x y o t f z) 0 (upN (nnQ x y o t f z 0) y t')=nnQ x y o t' f z :=
 Zny (by rw[Y7,nn0,nn0,Z3b xy (g:=fun r=>if r=y then t else 0)]; exact funext fun r=>by rw[show (fun r=>if r=y then t else 0)=fun r=>if r=y then t else (fun _=>0) r from rfl,Zg3]) (Ji oM) (Ji oM) fun j h=>(Ji oM).trans (by unfold nnQ; simp only[show ¬ j=0 by omega,show ¬ j=1 by omega,show ¬ j=2 by omega,if_false])
theorem Yd9:upJ (nnQ x y o t f z) 1 (upN (nnQ x y o t f z 1) [102] f')=nnQ x y o t f' z :=
 Zny (Ji oM) (by rw[Y7,nn1,nn1]; exact Zg3 (g:=fun _=>0)) (Ji oM) fun j h=>(Ji oM).trans (by unfold nnQ; simp only[show ¬ j=0 by omega,show ¬ j=1 by omega,show ¬ j=2 by omega,if_false])
theorem Yc1:upJ (nnQ x y o t f z) 2 (upN (nnQ x y o t f z 2) [122] z')=nnQ x y o t f z' :=
 Zny (Ji oM) (Ji oM) (by rw[Y7,nn2,nn2]; exact Zg3 (g:=fun _=>0)) fun j h=>(Ji oM).trans (by unfold nnQ; simp only[show ¬ j=0 by omega,show ¬ j=1 by omega,show ¬ j=2 by omega,if_false])
theorem Yc2:upJ (upJ (nnQ x y o t f z) 2 (upN (nnQ x y o t f z 2) [122] z')) 0 (upN (nnQ x y o t f z 0) x o')=nnQ x y o' t f z':=by
 rw[Yc1,show nnQ x y o t f z 0=nnQ x y o t f z' 0 from rfl]; exact Yad
theorem Yc0:upJ (upJ (nnQ x y o t f z) 0 (upN (nnQ x y o t f z 0) x o')) 2 (upN (nnQ x y o t f z 2) [122] z')=nnQ x y o' t f z':=by
 rw[Yad,show nnQ x y o t f z 2=nnQ x y o' t f z 2 from rfl]; exact Yc1
theorem Z6v:nnQ x y 0 0 0 0=fun _ _=>0:=funext fun j=>funext fun r=>by
 unfold nnQ
 simp only[ite_self]
theorem Zkg:nnQ x y o t f z 0 x=o:=by rw[nn0]; exact if_pos rfl
theorem Zsf (xy:x≠y):nnQ x y o t f z 0 y=t:=by rw[nn0]; exact (if_neg (Ne.symm xy)).trans (if_pos rfl)
theorem Z4y:nnQ x y o t f z 1 [102]=f:=by rw[nn1]; exact if_pos rfl
theorem Zzz:nnQ x y o t f z 2 [122]=z:=by rw[nn2]; exact if_pos rfl
end
section
variable {k1 k2:Nat}
theorem xQ (h:k1<676):Rp (120 :: nmQ k1)=true:=Zcj Z99 k1 h
theorem yQ (h:k2<676):Rp (121 :: nmQ k2)=true:=Zcj Yaa k2 h
theorem Ydr:(120 :: nmQ k1:List UInt8)≠121 :: nmQ k2:=fun e=>by
 have:=(List.cons.inj e).1
 exact absurd this dM
theorem qb0 (h1:k1<676) (h2:k2<676):QB [120 :: nmQ k1,121 :: nmQ k2,[102],[122]] (iw0 32) V4 [0] (nnQ (120 :: nmQ k1) (121 :: nmQ k2) 0 0 0 0):=by
 rw[Z6v]
 refine⟨⟨0,_,tst0,rfl,fun _=>Nat.zero_le _,fun _ _=>rfl⟩,fun j hj=>by obtain rfl:=List.mem_singleton.1 hj; omega,fun _ _ r hr=>absurd rfl hr,fun r hr=>?_⟩
 rcases List.mem_cons.1 hr with rfl|hr
 ·exact xQ h1
 rcases List.mem_cons.1 hr with rfl|hr
 ·exact yQ h2
 rcases List.mem_cons.1 hr with rfl|hr
 ·kernel_rfl
 rcases List.mem_cons.1 hr with rfl|hr
 ·kernel_rfl
 cases hr
end
open Go.Ev
noncomputable def q5 (p:Lq):Code:=piece p (J8 Tryz.f5)
theorem rs5:Tryz.f5.results.toList=[.tmp 6]:=rfl
attribute [go_sem] rs5
def Ycs:Nat->Nat × Nat:=upJ (iw0 32) 0 (31 - 1,Lx ((2:Nat):Int) 1)
def Yct:Nat->Nat × Nat:=upJ Ycs 0 (30 - 1,Lx ((2:Nat):Int) 2)
def Yd3:Nat->Nat × Nat:=upJ Yct 0 (29 - 1,Lx ((1:Nat):Int) 3)
section
variable (Hh:Hearts K Tryz.prog)
include Hh
theorem Z6d {h:Hq} (hst:h.get 0=some Bt) (l0:0<h.next) {mo:Nat} (mo1:mo<256) (a1 a2:Int) :
  ∃ h',Zb 5 [.c (.int .u8 (mo:Int)),.c (.int .i64 a1),.c (.int .i64 a2)] h (.w (.c (.bool true))) h':=by
 have wz1:=Zrr a1
 have wz2:=Zrr a2
 obtain⟨Z1,hZ1⟩:∃ Z,(a1 % 18446744073709551616).toNat=Z:=⟨_,rfl⟩
 obtain⟨Z2,hZ2⟩:∃ Z,(a2 % 18446744073709551616).toNat=Z:=⟨_,rfl⟩
 rw[hZ1] at wz1
 rw[hZ2] at wz2
 have rm1:Nr .u64 (Z1:Int) 676=some (.int .u64 ((Z1 % 676:Nat):Int)):=Et (b:=676) oM
 have rm2:Nr .u64 (Z2:Int) 676=some (.int .u64 ((Z2 % 676:Nat):Int)):=Et (b:=676) oM
 have j1:=Nat.mod_lt Z1 (show 0<676 by omega)
 have j2:=Nat.mod_lt Z2 (show 0<676 by omega)
 obtain⟨k1,hk1⟩:∃ k,Z1 % 676=k:=⟨_,rfl⟩
 obtain⟨k2,hk2⟩:∃ k,Z2 % 676=k:=⟨_,rfl⟩
 rw[hk1] at rm1 j1
 rw[hk2] at rm2 j2
 have md0:(1+((mo % 3:Nat):Int))≠0:=oM
 obtain⟨hW,n,r,d,y,cW,MW,nW,kW⟩:=Ya8 Hh mo1 hst l0
 obtain⟨md,hmd⟩:=xzE (1+((mo % 3:Nat):Int))
 rw[hmd] at MW md0
 have wx:=MW.nx
 have rd4:∀ a b c d:C,read1 4 [[a,b,c,d]] 0=some a:=fun _ _ _ _=>rfl
 have T0:=qb0 j1 j2
 have xy:=Ydr (k1:=k1) (k2:=k2)
 have sa:=Yeq Hh j1
 have sb:=Yer Hh j1
 have sc:=Yes Hh j2
 have sd:=Yet Hh j2
 have se:=Yeu Hh j2
 have sf:=Yev Hh j2
 have ca:=Zjq j1
 have cb:=Zjq j2
 have eyx:Uk (121 :: nmQ k2) (120 :: nmQ k1)=false:=rfl
 have eyy:Uk (121 :: nmQ k2) (121 :: nmQ k2)=true:=Ep.2 rfl
 have b1:R6 .add [47,120] (nmQ k1)=some (.str (Y1 120 [] k1)):=rfl
 have b2:R6 .add [47,121] (nmQ k2)=some (.str (Y1 121 [] k2)):=rfl
 have b3:R6 .add (Y1 120 [] k1) [47,102]=some (.str (Y1 120 [47,102] k1)):=rfl
 have b4:R6 .add (Y1 121 [] k2) [47,122]=some (.str (Y1 121 [47,122] k2)):=rfl
 have b5:R6 .add (Y1 121 [] k2) [47,122,47,102]=some (.str (Y1 121 [47,122,47,102] k2)):=rfl
 have b6:R6 .add (Y1 121 [] k2) [47,122,47,119]=some (.str (Y1 121 [47,122,47,119] k2)):=rfl
 obtain⟨x,hx⟩:=xzE ((120 :: nmQ k1:List UInt8))
 obtain⟨w,hw⟩:∃ x,(121 :: nmQ k2:List UInt8)=x:=⟨_,rfl⟩
 obtain⟨A,hA0⟩:=xzE ([x,w,[102],[122]])
 have xA:x∈A:=by rw[<-hA0]; simp
 have wA:w∈A:=by rw[<-hA0]; simp
 have fA:[102]∈A:=by rw[<-hA0]; simp
 have zA:[122]∈A:=by rw[<-hA0]; simp
 have A8:A.length<8:=by rw[<-hA0]; simp
 rw[hx] at xy sa sb T0 eyx
 rw[hw] at xy sc sd se sf T0 eyx eyy
 rw[hA0] at T0
 clear hA0 hx hw
 obtain⟨P,hP⟩:=xzE (Y1 120 [] k1)
 obtain⟨Pf,hPf⟩:∃ P,Y1 120 [47,102] k1=P:=⟨_,rfl⟩
 obtain⟨Q,hQ⟩:∃ P,Y1 121 [] k2=P:=⟨_,rfl⟩
 obtain⟨Qz,hQz⟩:∃ P,Y1 121 [47,122] k2=P:=⟨_,rfl⟩
 obtain⟨Qf,hQf⟩:∃ P,Y1 121 [47,122,47,102] k2=P:=⟨_,rfl⟩
 obtain⟨Qw,hQw⟩:∃ P,Y1 121 [47,122,47,119] k2=P:=⟨_,rfl⟩
 obtain⟨m1,hm1⟩:∃ P,nmQ k1=P:=⟨_,rfl⟩
 obtain⟨m2,hm2⟩:∃ P,nmQ k2=P:=⟨_,rfl⟩
 rw[hP] at b1 b3 sa
 rw[hPf] at b3 sb
 rw[hQ] at b2 b4 b5 b6 sc
 rw[hQz] at b4 sd
 rw[hQf] at b5 se
 rw[hQw] at b6 sf
 rw[hm1] at b1 ca
 rw[hm2] at b2 cb
 have io0:Zbm 32 (iw0 32):=Z1o oM
 obtain⟨tk1,io1⟩:=QB.takes (n:=n) (md:=md) Hh md0 io0 A8 T0 ISt.init oM oM (i0:=31) (w0:=1) rfl oM oM (kq:=2) (.inr ⟨rfl,oM⟩) (j:=0) (List.mem_singleton.2 rfl) dM oM xA Zkg Yd7
 rw[Yad] at tk1
 have tk1:Zkw n md V4 2 1 x 2 (fun V=>QB A Ycs V [1,0] (nnQ x w 2 0 0 0)/\ISt V 2):=tk1
 obtain⟨v,h',cc,rfl⟩:∃ v h',Zb 5 [.c (.int .u8 (mo:Int)),.c (.int .i64 a1),.c (.int .i64 a2)] h v h'/\v=.w (.c (.bool true)):=by
  refine Ym Hh Tryz.f5 ?_
  have Jf:=Gq @wz1 @wz2 @rm1 @rm2 (Yp @ca @cb @b1 @b2 @b3 @b4 @b5 @b6 @rd4)
  iterate 3 (first|refine Zn Hh Za Zt ?_|apply gS)
  iterate 7 (first|refine Goes.Zi Zt ?_|refine Zn Hh (Zj Za cW) Zt ?_|apply gS)
  refine gO fits Hh (EY Za (Zt8 Hh)) (by
   iterate 14 (refine U1 Zt ?_)
   exact U0) ?_
  apply Z6
  refine Jq fun hA eA=>?_
  have nA:hA.next=hW.next+1:=nxQ eA
  have kA:∀ m,m<hW.next->hA.get m=hW.get m:=kQ eA
  have a5:hA.get hW.next=some (.row 4 [[.ptr (n+13) 0,.ptr r 0,.ptr d 0,.ptr y 0]] false):=by rw[eA]; exact Yi
  clear eA
  have MA:=MW.keep (h2:=hA) oM (fun m hm=>kA m oM)
  obtain⟨h5,q5,V5,c5,M5,⟨T5,I5⟩,n5,k5⟩:=Zod Hh md0 (.inr rfl) MA (fun k hk=>by cases hk) oM (k:=0) (z:=fun _=>1) sa rfl oM rfl (fun j s hj=>absurd hj oM) rfl rfl (T0.no Hh md0 (List.mem_singleton.2 rfl) xA Zkg) tk1
  have c5:Zb 7 [.c (.ptr (n+13) 0),.c (.str P),.c (.int .u8 2)] hA (.tup [.c (.int .i64 2),.c (.int .i64 0)]) h5:=c5
  have e5:=(k5 hW.next oM oM).trans a5
  obtain⟨tk2,io2⟩:=QB.takes (n:=n) (md:=md) Hh md0 io1 A8 T5 I5 oM oM (i0:=30) (w0:=2) rfl oM oM (kq:=2) (.inr ⟨rfl,oM⟩) (j:=0) (by simp) dM oM wA (Zsf xy) Yd8
  rw[Yea xy] at tk2
  have tk2:Zkw n md V5 2 1 w 3 (fun V=>QB A Yct V [2,1,0] (nnQ x w 2 3 0 0)/\ISt V 3):=tk2
  obtain⟨h6,q6,V6,c6,M6,⟨T6,I6⟩,n6,k6⟩:=Zod Hh md0 (.inr rfl) M5 (fun _ hk=>hk) oM (k:=0) (z:=fun _=>1) sc rfl oM rfl (fun j s hj=>absurd hj oM) rfl rfl (T5.no Hh md0 (by simp) wA (Zsf xy)) tk2
  have c6:Zb 7 [.c (.ptr (n+13) 0),.c (.str Q),.c (.int .u8 2)] h5 (.tup [.c (.int .i64 3),.c (.int .i64 0)]) h6:=c6
  have e6:=(k6 hW.next oM oM).trans e5
  obtain⟨tk3,io3⟩:=QB.takes (n:=n) (md:=md) Hh md0 io2 A8 T6 I6 oM oM (i0:=29) (w0:=3) rfl oM oM (kq:=1) (.inl rfl) (j:=1) (by simp) dM oM fA Z4y nn3
  rw[Yd9] at tk3
  have tk3:Zkw n md V6 1 2 [102] 4 (fun V=>QB A Yd3 V [2,1,0] (nnQ x w 2 3 4 0)/\ISt V 4):=tk3
  obtain⟨h7,q7,V7,c7,M7,⟨T7,I7⟩,n7,k7⟩:=Zod Hh md0 (.inl rfl) M6 (fun _ hk=>hk) oM (k:=1) (z:=fun j=>j+1) sb rfl oM rfl (fun j s hj hs=>by
   obtain rfl:j=0:=oM
   obtain rfl:x=s:=Option.some.inj hs
   exact T6.yes Hh md0 (j:=0) (by simp) xA Zkg dM) rfl rfl (T6.no Hh md0 (j:=1) (by simp) fA Z4y) tk3
  have c7:Zb 7 [.c (.ptr (n+13) 0),.c (.str Pf),.c (.int .u8 1)] h6 (.tup [.c (.int .i64 4),.c (.int .i64 0)]) h7:=c7
  have e7:=(k7 hW.next oM oM).trans e6
  obtain⟨y7,gy7,yl7,yk7⟩:=T7.ino (j:=1) (by simp)
  obtain⟨mv1,_⟩:=QB.moves (n:=n) (md:=md) Hh md0 io3 A8 T7 (j:=0) (j':=2) (s:=x) (s':=[122]) (u:=2) (by simp) (by simp) oM zA Zzz (by rw[Zkg]; omega) oM oM
  rw[Yc2] at mv1
  obtain⟨h10,c10,q10,V10,M10,T10,n10,k10⟩:=Z7e Hh md0 M7 (fun _ hk=>hk) oM (z:=fun _=>1) (z':=fun j=>2 * j+1) (w:=2) sa rfl sd rfl rfl (fun j s hj=>absurd hj oM) rfl (T7.yes Hh md0 (j:=0) (by simp) xA Zkg dM) oM gy7 yl7 yk7 rfl eyx rfl (fun j s hj hs=>by
   obtain rfl:j=0:=oM
   obtain rfl:w=s:=Option.some.inj hs
   exact T7.yes Hh md0 (j:=0) (by simp) wA (Zsf xy) dM) rfl (T7.no Hh md0 (j:=2) (by simp) zA Zzz) mv1
  have e10:=(k10 hW.next oM oM).trans e7
  obtain⟨h11,c11,M11,k11⟩:=Zoc Hh Vy md0 M10 se (k:=3) (z:=fun j=>match j with|0=>1|1=>3|2=>2|_=>4) rfl oM rfl (fun j s hj hs=>by
   match j,hj with
   | 0,_ =>
    obtain rfl:w=s:=Option.some.inj hs
    exact T10.yes Hh md0 (j:=0) (by simp) wA (Zsf xy) dM
   | 1,_ =>
    obtain rfl:[122]=s:=Option.some.inj hs
    exact T10.yes Hh md0 (j:=2) (by simp) zA Zzz dM
   | 2,_ =>
    obtain rfl:[102]=s:=Option.some.inj hs
    exact T10.yes Hh md0 (j:=1) (by simp) fA Z4y dM)
  have c11:Zb 13 [.c (.ptr (n+13) 0),.c (.str Qf)] h10 (.tup [.c (.int .i64 4),.c (.int .i64 0)]) h11:=c11
  have n11:=k11.1
  have e11:=(k11.2 hW.next oM oM).trans e10
  obtain⟨h12,c12,M12,k12⟩:=Yaz Hh Vy md0 M11 sa (z:=fun _=>1) (by simp) rfl (t:=0) (by simp) (fun j s hj=>absurd hj oM) rfl (er:=301) oM (T10.no Hh md0 (j:=0) (by simp) xA Zkg)
  have n12:=k12.1
  have e12:=(k12.2 hW.next oM oM).trans e11
  obtain⟨y10,gy10,yl10,yk10⟩:=T10.ino (j:=2) (by simp)
  obtain⟨h15,c15,M15,n15,k15⟩:=Z7f Hh md0 M12 (fun _ hk=>hk) oM (z:=fun _=>1) (w:=3) sc rfl sf rfl rfl (fun j s hj=>absurd hj oM) rfl (T10.yes Hh md0 (j:=0) (by simp) wA (Zsf xy) dM) oM gy10 yl10 yk10 rfl eyy
  have e15:=(k15 hW.next oM oM).trans e12
  obtain⟨y1,gy1,yl1,yk1⟩:=T10.ino (j:=1) (by simp)
  obtain⟨mv2,_⟩:=QB.moves (n:=n) (md:=md) Hh md0 io3 A8 T10 (j:=2) (j':=0) (s:=[122]) (s':=x) (u:=2) (by simp) (by simp) oM xA Zkg (by rw[Zzz]; omega) oM oM
  rw[Yc0] at mv2
  obtain⟨h16,c16,q16,V16,M16,T16,n16,k16⟩:=Ydd Hh md0 M15 (fun _ hk=>hk) oM (z:=fun j=>2 * j+1) (z':=fun _=>1) (w:=2) sd rfl sa rfl rfl (fun j s hj hs=>by
   obtain rfl:j=0:=oM
   obtain rfl:w=s:=Option.some.inj hs
   exact T10.yes Hh md0 (j:=0) (by simp) wA (Zsf xy) dM) rfl (T10.yes Hh md0 (j:=2) (by simp) zA Zzz dM) oM gy1 yl1 yk1 rfl (fun j s hj=>absurd hj oM) rfl (T10.no Hh md0 (j:=0) (by simp) xA Zkg) mv2
  have e16:=(k16 hW.next oM oM).trans e15
  obtain⟨h17,c17,M17,k17⟩:=Zoc Hh Vy md0 M16 sb (k:=2) (z:=fun j=>match j with|0=>1|1=>2|_=>4) rfl oM rfl (fun j s hj hs=>by
   match j,hj with
   | 0,_ =>
    obtain rfl:x=s:=Option.some.inj hs
    exact T16.yes Hh md0 (j:=0) (by simp) xA Zkg dM
   | 1,_ =>
    obtain rfl:[102]=s:=Option.some.inj hs
    exact T16.yes Hh md0 (j:=1) (by simp) fA Z4y dM)
  have c17:Zb 13 [.c (.ptr (n+13) 0),.c (.str Pf)] h16 (.tup [.c (.int .i64 4),.c (.int .i64 0)]) h17:=c17
  have n17:=k17.1
  have e17:=(k17.2 hW.next oM oM).trans e16
  obtain⟨h18,c18,M18,k18⟩:=Zoc Hh Vy md0 M17 sc (k:=1) (z:=fun j=>match j with|0=>1|_=>3) rfl oM rfl (fun j s hj hs=>by
   obtain rfl:j=0:=oM
   obtain rfl:w=s:=Option.some.inj hs
   exact T16.yes Hh md0 (j:=0) (by simp) wA (Zsf xy) dM)
  have c18:Zb 13 [.c (.ptr (n+13) 0),.c (.str Q)] h17 (.tup [.c (.int .i64 3),.c (.int .i64 0)]) h18:=c18
  have n18:=k18.1
  have e18:=(k18.2 hW.next oM oM).trans e17
  obtain⟨h19,c19,M19,k19⟩:=Zoc Hh Vy md0 M18 sa (k:=1) (z:=fun j=>match j with|0=>1|_=>2) rfl oM rfl (fun j s hj hs=>by
   obtain rfl:j=0:=oM
   obtain rfl:x=s:=Option.some.inj hs
   exact T16.yes Hh md0 (j:=0) (by simp) xA Zkg dM)
  have c19:Zb 13 [.c (.ptr (n+13) 0),.c (.str P)] h18 (.tup [.c (.int .i64 2),.c (.int .i64 0)]) h19:=c19
  have Jf:=J4 Jf @a5 @e5 (Yp @e6 @e7 @e10 @e11 @e12 @e15 @e16 @e17 @e18)
  iterate 2 (first|refine Zn Hh (Zj Za c5) Zt ?_|apply gS)
  iterate 2 (first|refine Zn Hh (Zj Za c6) Zt ?_|apply gS)
  iterate 7 (first|refine Goes.Zi Zt ?_|refine Zn Hh (Zj Za c7) Zt ?_|apply gS)
  refine gO fits Hh (Zj Za c10) (by
   iterate 13 (refine U1 (by simp (maxSteps:=9^6) +decide (disch:=first|exact dZ|fail) only [go_sem,Zh,simprocAttr,Z7,wz1,wz2,rm1,rm2,ca,cb,b1,b2,b3,b4,b5,b6,rd4,a5,e5,e6,e7,e10,e11,e12,e15,e16,e17,e18]<;>rfl) ?_)
   exact U0) ?_
  apply Z6
  iterate 2 (first|refine Zn Hh (Zj Za c11) Zt ?_|apply gS)
  iterate 3 (first|refine Zn Hh (Zj Za c12) Zt ?_|apply gS)
  refine gO fits Hh Za (by
   iterate 22 (refine U1 Zt ?_)
   exact U0) ?_
  iterate 3 (first|refine Goes.Zi Zt ?_|apply gS)
  refine gO fits Hh (Zj Za c15) (by
   iterate 13 (refine U1 (by simp (maxSteps:=9^6) +decide (disch:=first|exact dZ|fail) only [go_sem,Zh,simprocAttr,Z7,wz1,wz2,rm1,rm2,ca,cb,b1,b2,b3,b4,b5,b6,rd4,a5,e5,e6,e7,e10,e11,e12,e15,e16,e17,e18]<;>rfl) ?_)
   exact U0) ?_
  apply Z6
  refine gO fits Hh (Zj Za c16) (by
   iterate 13 (refine U1 (by simp (maxSteps:=9^6) +decide (disch:=first|exact dZ|fail) only [go_sem,Zh,simprocAttr,Z7,wz1,wz2,rm1,rm2,ca,cb,b1,b2,b3,b4,b5,b6,rd4,a5,e5,e6,e7,e10,e11,e12,e15,e16,e17,e18]<;>rfl) ?_)
   exact U0) ?_
  apply Z6
  iterate 2 (first|refine Zn Hh (Zj Za c17) Zt ?_|apply gS)
  iterate 2 (first|refine Zn Hh (Zj Za c18) Zt ?_|apply gS)
  iterate 2 (first|refine Zn Hh (Zj Za c19) Zt ?_|apply gS)
  refine gO fits Hh Za (by
   iterate 42 (refine U1 Zt ?_)
   exact U0) ?_
  apply Yc
  exact⟨_,_,Yi,rfl⟩
 exact⟨h',cc⟩
end
open Go.Ev Go.ChangeShapes Go.WideShapes
section
variable (Hh:Hearts K Tryz.prog)
include Hh
theorem Zsk {W:World} {cs:Array Value} {t:TypeId} {fr:Nat × Nat} (hb:W.heap[1]? = some (.cells cs t fr)) (hcs:cs.toList=steps16.map (Value.int .u32)) (z0 z1 z2:Int) (wf0:(Lit.int .u8 z0).wf=true) :
  Calls Tryz.prog 5 #[.int .u8 z0,.int .i64 z1,.int .i64 z2] W fun e W'=>e=.returned (.bool true)/\Go.RowKit.Below W.heap.size W W':=by
 obtain⟨m0,m1⟩:=wf_u8 wf0
 obtain⟨mo,rfl⟩:=Int.eq_ofNat_of_zero_le m0
 have h0:(Zij none none).get 0=some Bt:=by
  unfold Zij
  rw[Zwk _ _ oM,Zwk _ _ oM]
  rfl
 have nx:(Zij none none).next=3:=by unfold Zij; rw[Zlx,Zlx]
 obtain⟨h',cc⟩:=Z6d Hh h0 oM (mo:=mo) oM z1 z2
 exact Zm0 (ρ:=Zq9 ⟨0,0,0⟩ ⟨0,0,0⟩) (vals:=[.int .u8 (mo:Int),.int .i64 z1,.int .i64 z2]) (Z2r hb hcs (fun _ _ e=>by cases e) (fun _ _ e=>by cases e)) (by rw[nx]; exact Zym ⟨0,0,0⟩ ⟨0,0,0⟩) (fun n o e=>Zik e) cc ⟨rfl,rfl,rfl,trivial⟩
end
end Go.Proofs.YtmanipmhebgdbaaGreatDoor
