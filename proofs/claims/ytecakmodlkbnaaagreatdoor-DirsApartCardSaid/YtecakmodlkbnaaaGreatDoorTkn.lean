/- inodes.descs, inodes.change, over any store whose handle is open. -/
import Derived.Test.YtecakmodlkbnaaaGreatDoorMpg
import Derived.Test.YtecakmodlkbnaaaGreatDoorStrX
import Derived.Test.YtecakmodlkbnaaaGreatDoorCrcX
import Derived.Test.YtecakmodlkbnaaaGreatDoorBtk
import Derived.Test.YtecakmodlkbnaaaGreatDoorFr28
import Derived.Test.YtecakmodlkbnaaaGreatDoorDai
set_option linter.unusedSimpArgs false
set_option linter.unusedVariables false
set_option linter.unusedSectionVars false
set_option maxRecDepth 100000
set_option maxHeartbeats 4000000
namespace Go.Proofs.YtecakmodlkbnaaaGreatDoor
open Go.Ev
theorem rs45:Tryz.f45.results.toList=[.tmp 2,.tmp 3]:=rfl
theorem rs51:Tryz.f51.results.toList=[.tmp 12]:=rfl
attribute [go_sem] rs45 rs51
section
variable (Hh:Hearts K Tryz.prog)
include Hh
variable {n q a b c e:Nat} {cr:Cr} {md:Int} {S T:List Nat} {V:Nat→List Nat} {h:Go.Ev.H}
theorem Z5r (f:Ym a b c e=true) (M:HE n q a b c e cr md S T V h) {D:List Oy} (dd:Des V a b c D) :
  ∃ h' p,Zg 45 [.c (.ptr (n+13) 0)] h (.tup [.c (.slice p 0 a 3),.c (.int .i64 0)]) h'∧HE n q a b c e cr md S T V h'∧Kr n q h h'∧h.next≤p∧p<h'.next∧h'.get p=some (.row 3 (D.map Uj) false):=by
 obtain⟨g1,g2,g3,g4,g5,g6,g7,g8,g9,g10,g11⟩:=Zv f
 obtain⟨gd,td,Dl⟩:=dd
 obtain⟨hG,e1,MG,nG,rG⟩:=M.get f (z:=1) (Vt a b c e) (by omega)
 have c1:Zg 36 [.c (.ptr (n+13) 0),.c (.int .i64 1)] h (.tup [.g (pgL (V 1)),.c (.int .i64 0)]) hG:=Dq Hh e1
 have Yl:(pgL (V 1)).length=256:=by rw[Jy]; exact M.len (z:=1) (Vt a b c e) (by omega)
 have bd:=Qu (V 1)
 have gd':goodD (unN (pgL (V 1))) a b c=true:=by rw[Od,Lm]; exact gd
 have td':Bh (unN (pgL (V 1))) a 0=D:=by rw[Od,Fp]; exact td
 obtain⟨Y,hY⟩:∃ Y,pgL (V 1)=Y:=⟨_,rfl⟩
 rw[hY] at c1 Yl bd gd' td'
 obtain⟨nq,nx,n0⟩:=M.nx
 obtain⟨st,⟨kn,hs⟩,⟨dk,gl⟩,ht⟩:=MG.cells
 obtain⟨st0,⟨kn0,hs0⟩,⟨dk0,gl0⟩,ht0⟩:=M.cells
 unfold gdL gdD at gl gl0
 obtain⟨v,h',cc,p,rfl,M',hk,p1,p2,p3⟩:∃ v h',Zg 45 [.c (.ptr (n+13) 0)] h v h'∧∃ p,v=.tup [.c (.slice p 0 a 3),.c (.int .i64 0)]∧HE n q a b c e cr md S T V h'∧Kr n q h h'∧h.next≤p∧p<h'.next∧h'.get p=some (.row 3 (D.map Uj) false):=by
  refine Yg Hh Tryz.f45 ?_
  have Jf:=Jb @f @st (Yu @hs @gl @hs0 @gl0 @Yl @bd @gd' @td' @Dl)
  iterate 3 (first|apply Zk|refine Zq Hh Za Ov ?_)
  iterate 7 (first|apply Zk|apply Zw|refine Goes.Zi Ov ?_|refine Zq Hh (Zp Za c1) Ov ?_)
  iterate 2 (first|apply Z0|refine Ed Hh (EY (EY Za (Jh Hh)) (Zvu Hh)) Zpc ?_)
  refine⟨_,_,Yn,_,rfl,MG.keep ?_ (fun m hm=>?_),⟨?_,fun m hm hne=>?_⟩,?_,?_,?_⟩
  ·first|omega|(simp only[H.Zd,H.Zb]<;>omega)
  ·exact Yc
  ·first|omega|(simp only[H.Zd,H.Zb]<;>omega)
  ·refine Eq.trans ?_ (rG m hm hne); exact Yc
  ·first|omega|(simp only[H.Zd,H.Zb]<;>omega)
  ·first|omega|(simp only[H.Zd,H.Zb]<;>omega)
  ·exact Yn
 exact⟨h',p,cc,M',hk,p1,p2,p3⟩
theorem Zy5 (f:Ym a b c e=true) (M:HE n q a b c e cr md S T V h) {j:Nat} (jl:j<a * c) (s1:Y1 b c e j∈S∧Y1 b c e j ∉ T) (s2:1∈S∧1 ∉ T) (s3:2+e+j / c * b+1∈S∧2+e+j / c * b+1 ∉ T) {ms nb:List Nat} (ml:ms.length=256) (nbl:nb.length=256) {y:List C} (yl:y.length=16)
  {F pD pq:Nat} {D D':List Oy} (hp:h.get pD=some (.row 3 (D.map Uj) false)) (Dl:D.length=a) (Dl':D'.length=a) (Dm:D'.all (Xy (b - 2 - c / 4) c)=true) (pl:pD<h.next) (p32:q+9≤pD)
  (hF:∀ h2,(∀ m,m<h.next→Out n q m→h2.get m=h.get m)→Zg F [.c (.ptr pD (j / c * 3)),.c (.ptr pq 0)] h2 (.tup []) (h2.put pD (.row 3 (D'.map Uj) false)))
  (hi:∀ h m,h.get m=some (.row 256 [pgL (V (Y1 b c e j))] false)→m<h.next→∃ h',Zg 64 [.c (.ptr m 0),.c (.int .i64 (D9 c j:Nat)),.g y] h (.w (.c (.int .i64 0))) h'∧h.next≤h'.next∧h'.get m=some (.row 256 [pgL ms] false)∧∀ k,k<h.next→k≠m→h'.get k=h.get k) :
  ∃ h',Zg 51 [.c (.ptr (n+13) 0),.c (.int .i64 ((j+1:Nat):Int)),.g (pgL nb),.c (.slice pD 0 a 3),.g y,.c (.fn F [] [some (pq,0)])] h (.w (.c (.int .i64 0))) h'∧HE n q a b c e cr md S T (O9 (O9 (O9 V (2+e+j / c * b+1) nb) 1 (Zbr D')) (Y1 b c e j) ms) h'∧h.next≤h'.next∧∀ m,m<h.next→Out n q m→m≠pD→h'.get m=h.get m:=by
 obtain⟨g1,g2,g3,g4,g5,g6,g7,g8,g9,g10,g11⟩:=Zv f
 have ka:j / c<a:=Nat.div_lt_of_lt_mul (by rw[Nat.mul_comm]; omega)
 have st:=Jp (b:=b) ka
 obtain⟨k,kj⟩:∃ k,j / c=k:=⟨_,rfl⟩
 rw[kj] at ka st hF s3 ⊢
 obtain⟨zb,hb⟩:∃ z,2+e+k * b+1=z:=⟨_,rfl⟩
 rw[hb] at s3 ⊢
 have zbl:zb<2+e+a * b:=by omega
 have ob:=Dx (z:=zb) (Zv f) (by omega) zbl
 have t1:((j+1:Nat):Int).toNat - 1=j:=by omega
 have d1:decide (1≤((j+1:Nat):Int))=true:=decide_eq_true (by omega)
 have d2:decide (((j+1:Nat):Int)≤((a * c:Nat):Int))=true:=decide_eq_true (by omega)
 obtain⟨nq,nx,n0⟩:=M.nx
 have bl:(pgL nb).length=256:=by rw[Jy,nbl]
 have ne1:Y1 b c e j≠1:=by unfold Y1; omega
 have nez:Y1 b c e j≠zb:=by
  unfold Y1
  rw[kj,←hb]
  omega
 have hB1:=fun {h:Go.Ev.H} (M:HE n q a b c e cr md S T V h)=>M.put f ob zbl nbl s3.1 s3.2
 have hB2:=fun {V:Nat→List Nat} {h:Go.Ev.H} (M:HE n q a b c e cr md S T V h)=>M.put f (z:=1) (Vt a b c e) (by omega) (Zdf D') s2.1 s2.2
 have hW:=fun {h:Go.Ev.H} (M:HE n q a b c e cr md S T (O9 (O9 V zb nb) 1 (Zbr D')) h)=>Zuv Hh f M jl s1.1 s1.2 ml yl (by
  rw[J6 ne1,J6 nez]
  exact hi)
 obtain⟨mB,hmB⟩:∃ x,pgL nb=x:=⟨_,rfl⟩
 obtain⟨Y,hY⟩:∃ Y,pgL (Zbr D')=Y:=⟨_,rfl⟩
 have Yl:Y.length=256:=by rw[←hY,Jy,Zdf]
 have hY':pgL (Gc (Fe D' 0 O0))=Y:=hY
 rw[hmB] at bl ⊢
 simp only[hmB] at hB1
 simp only[hY] at hB2
 clear hi
 refine Ou ?_
 refine Yg Hh Tryz.f51 ?_
 have Jf:=Yu @f @t1 @d1 @d2 @kj @hb @bl @yl @Nat.zero_add
 iterate 3 (first|apply Zk|refine Zq Hh Za O4 ?_)
 obtain⟨_,⟨kn0,hs0⟩,⟨dk0,gl0⟩,_⟩:=M.cells
 unfold gdL gdD at gl0
 have Jf:=Jb Jf @hs0 @gl0
 iterate 3 (first|apply Zk|refine Zq Hh (EY (EY Za (Jh Hh)) (D5 Hh)) O4 ?_)
 refine Uc fun hA eA=>?_
 have nA:hA.next=h.next+1+1:=by rw[eA]; first|rfl|simp only[H.Zd,H.Zb]
 have kA:∀ m,m<h.next→hA.get m=h.get m:=fun m hm=>by rw[eA]; exact Yc
 have bA:hA.get h.next=some (.row 256 [mB] false):=by rw[eA]; exact Z5
 have cA:hA.get (h.next+1)=some (.row 16 [y] false):=by rw[eA]; exact Z5
 clear eA
 have MA:=M.keep (h2:=hA) (by omega) (fun m hm=>kA m (by omega))
 obtain⟨_,⟨knA,hsA⟩,⟨dkA,glA⟩,_⟩:=MA.cells
 unfold gdL gdD at glA
 obtain⟨hB,e1,MB,nB,kB⟩:=hB1 MA
 have c1:=Mo Hh e1
 have Jf:=U1 Jf @nA @bA @hsA @glA
 iterate 6 (first|apply Zk|apply Zw|refine Goes.Zi O4 ?_|refine Zq Hh (Zp (EY (EY Za (Jh Hh)) (Te Hh)) c1) O4 ?_|refine Ed Hh (Zp (EY (EY Za (Jh Hh)) (Te Hh)) c1) Z0p ?_)
 have c2:=hF hB (fun m hm ho=>(kB m ho.1).trans (kA m hm))
 have pB:=(kB pD ⟨by omega,by omega,by omega,by omega,by omega⟩).trans ((kA _ pl).trans hp)
 iterate 2 (first|apply Zk|refine Zq Hh (Zp Za c2) O4 ?_)
 refine Uc fun hC eC=>?_
 have nC:hC.next=h.next+1+1:=by rw[eC,H.Zd,nB,nA]
 have kC:∀ m,m<h.next+2→Out n q m→m≠pD→hC.get m=hA.get m:=fun m hm ho hne=>by rw[eC,Ze hne]; exact kB m ho.1
 have pC:hC.get pD=some (.row 3 (D'.map Uj) false):=by rw[eC,Zz]
 have MC:=MB.keep (h2:=hC) (by rw[eC,H.Zd]; omega) (fun m hm=>by rw[eC,Ze (by omega)])
 clear eC
 obtain⟨stC,⟨knC,hsC⟩,⟨dkC,glC⟩,_⟩:=MC.cells
 unfold gdL gdD at glC
 have Jf:=Yy Jf (Yu @nC @pC @hsC @glC @stC @Dl' @Dm @hY' @Yl)
 iterate 8 (first|apply Zk|apply Zw|refine Goes.Zi O4 ?_|refine Zq Hh (EY (EY Za (Jh Hh)) (Zgf Hh)) O4 ?_)
 refine Uc fun hD eD=>?_
 have nD:hD.next=h.next+1+1+1:=by rw[eD]; simp only[H.Zd,H.Zb,nC]
 have kD:∀ m,m<h.next+2→Out n q m→m≠pD→hD.get m=hA.get m:=fun m hm ho hne=>by rw[eD]; refine Eq.trans ?_ (kC m hm ho hne); exact Yc
 have bD:hD.get (h.next+1+1)=some (.row 256 [Y] false):=by rw[eD]; exact Z5
 have MD:=MC.keep (h2:=hD) (by omega) (fun m hm=>by rw[eD]; exact Yc)
 clear eD
 obtain⟨hE,e3,ME,nE,kE⟩:=hB2 MD
 have c3:Zg 43 [.c (.ptr (n+13) 0),.c (.int .i64 1),.g Y] hD (.w (.c (.int .i64 0))) hE:=Mo Hh e3
 have Jf:=Yy Jf @bD
 iterate 6 (first|apply Zk|apply Zw|refine Goes.Zi O4 ?_|refine Zq Hh (Zp Za c3) O4 ?_)
 have o1:Out n q (h.next+1):=⟨⟨by omega,by omega,by omega,by omega,by omega⟩,by omega⟩
 have cE:=(kE (h.next+1) o1.1).trans ((kD (h.next+1) (by omega) o1 (by omega)).trans cA)
 have r16:Zn 16 [y] 0 16=some y:=Fz (by omega)
 obtain⟨hF,c4,MF,kF⟩:=hW ME
 have nF:=kF.1
 have Jf:=Jb Jf @cE @r16
 iterate 2 (first|apply Z0|refine Zq Hh (Zp Za c4) O4 ?_)
 exact⟨_,_,Yn,rfl,MF,(by omega),fun m hm ho hne=>(kF.2 m (by omega) ho).trans ((kE m ho.1).trans ((kD m (by omega) ho hne).trans (kA m hm)))⟩
end
noncomputable def q13 (p:List Nat):Code:=piece p (Uh Tryz.f13)
theorem Zj4:q13 [1,1,1,1,1,1,0,1,2]=.rangeFunc (.tmp 41) #[42] (q13 [1,1,1,1,1,1,0,1,2,5]) (q13 [1,1,1,1,1,1,0,1,2,6]):=by kernel_rfl
theorem Zig:q13 [1,1,1,1,1,1,0,1,2,5]=.region 11 (Zy1 (q13 [1,1,1,1,1,1,0,1,2,5])) false:=by kernel_rfl
theorem Ziu:q13 [1,1,1,1,1,1,0,1,2,6]=.block 1 (q13 [1,1,1,1,1,1,0,1,2,6,2]):=by kernel_rfl
theorem rs13:Tryz.f13.results.toList=[.cell 6 3,.cell 7 33]:=rfl
theorem rs105:Tryz.f105.results.toList=[]:=rfl
attribute [go_sem] rs13 rs105
theorem rs52:Tryz.f52.results.toList=[]:=rfl
attribute [go_sem] rs52
def Ze4 (a c:Nat) (near:Int):Nat:=if 1≤near∧near≤((a * c:Nat):Int) then (near.toNat - 1) / c else 0
def Zrp (kq:Int) (w:Nat):Nat:=if kq=2 then w+1 else w
def Mine (S T:List Nat) (z:Nat):Prop:=z∈S∧z ∉ T
structure GrpH (a b c e:Nat) (S T:List Nat) (V:Nat→List Nat) (D:List Oy) (kq:Int) (g:Nat→Bool) (k t x0 i0 w0 gn:Nat) (o:List C):Prop where
 ka:k<a
 low:∀ i,i<t→g i=true
 gm:g t=false
 tc:t<c
 kk:kq=1∨kq=2
 bm:V (2+e+k * b+1)=Wp g
 des:Des V a b c D
 old:gI a b c e V ((k * c+t+1:Nat):Int)=(o,0)
 ol:o.length=16
 o2:o[2]? = some (.int .u32 (gn:Int))
 gb:gn+1<4294967296
 hk:D[k]? = some (x0,i0,w0)
 y1:1≤i0
 y2:i0<4096
 y3:w0<4096
 Dm:(D.set k (x0,i0 - 1,Zrp kq w0)).all (Xy (b - 2 - c / 4) c)=true
 s1:Mine S T (Y1 b c e (k * c+t))
 s2:Mine S T 1
 s3:Mine S T (2+e+k * b+1)
def Zq0 (b c e:Nat) (V:Nat→List Nat) (D:List Oy) (kq:Int) (g:Nat→Bool) (k t x0 i0 w0 gn:Nat):Nat→List Nat :=
 O9 (O9 (O9 V (2+e+k * b+1) (Wp (Mq g t))) 1 (Zbr (D.set k (x0,i0 - 1,Zrp kq w0)))) (Y1 b c e (k * c+t)) (Ec (V (Y1 b c e (k * c+t))) (D9 c (k * c+t)) kq.toNat 1 (gn+1) 0 [0,0,0,0,0,0,0,0,0,0,0] 0)
section
variable (Hh:Hearts K Tryz.prog)
include Hh
theorem Z8t {h:Go.Ev.H} {p q k:Nat} {D:List Oy} {ro:Bool} {x y w:Nat} {kq:Int} (kk:kq=1∨kq=2) (hq:h.get q=some (.row 1 [[.int .u8 kq]] ro)) (hp:h.get p=some (.row 3 (D.map Uj) false)) (hk:D[k]? = some (x,y,w)) (y1:1≤y) (y2:y<4096) (w2:w<4096) (pq:p≠q):Zg 52 [.c (.ptr p (k * 3)),.c (.ptr q 0)] h (.tup []) (h.put p (.row 3 ((D.set k (x,y - 1,Zrp kq w)).map Uj) false)):=by
 have hr:(D.map Uj)[k]? = some [.int .i64 (x:Int),.int .i64 (y:Int),.int .i64 (w:Int)]:=by rw[List.getElem?_map,hk]; rfl
 have kl:k<(D.map Uj).length:=by
  rcases Nat.lt_or_ge k (D.map Uj).length with h1|h1
  ·exact h1
  ·rw[List.getElem?_eq_none h1] at hr; cases hr
 have r1:read1 3 (D.map Uj) (k * 3+1)=some (.int .i64 (y:Int)):=Md (sz:=3) (j:=1) (by omega) hr
 have w1:Z4 3 (D.map Uj) (k * 3+1) [.int .i64 ((y:Int) - 1)]=some ((D.map Uj).set k [.int .i64 (x:Int),.int .i64 ((y:Int) - 1),.int .i64 (w:Int)]):=Tq hr rfl (by omega)
 have hr2:((D.map Uj).set k [.int .i64 (x:Int),.int .i64 ((y:Int) - 1),.int .i64 (w:Int)])[k]? = some [.int .i64 (x:Int),.int .i64 ((y:Int) - 1),.int .i64 (w:Int)]:=List.getElem?_set_self kl
 have r2:read1 3 ((D.map Uj).set k [.int .i64 (x:Int),.int .i64 ((y:Int) - 1),.int .i64 (w:Int)]) (k * 3+2)=some (.int .i64 (w:Int)):=Md (sz:=3) (j:=2) (by omega) hr2
 have w2':Z4 3 ((D.map Uj).set k [.int .i64 (x:Int),.int .i64 ((y:Int) - 1),.int .i64 (w:Int)]) (k * 3+2) [.int .i64 ((w:Int)+1)]=some (((D.map Uj).set k [.int .i64 (x:Int),.int .i64 ((y:Int) - 1),.int .i64 (w:Int)]).set k [.int .i64 (x:Int),.int .i64 ((y:Int) - 1),.int .i64 ((w:Int)+1)]):=Tq hr2 rfl (by omega)
 have rq:read1 1 [[C.int .u8 kq]] 0=some (.int .u8 kq):=rfl
 have fin:((D.map Uj).set k [.int .i64 (x:Int),.int .i64 ((y:Int) - 1),.int .i64 (w:Int)]).set k [.int .i64 (x:Int),.int .i64 ((y:Int) - 1),.int .i64 ((w:Int)+1)]=(D.set k (x,y - 1,w+1)).map Uj:=by
  rw[List.set_set,List.map_set]
  congr 1
  show _=[C.int .i64 (x:Int),.int .i64 ((y - 1:Nat):Int),.int .i64 ((w+1:Nat):Int)]
  rw[show ((y - 1:Nat):Int)=(y:Int) - 1 by omega]
  rfl
 have fin1:(D.map Uj).set k [.int .i64 (x:Int),.int .i64 ((y:Int) - 1),.int .i64 (w:Int)]=(D.set k (x,y - 1,w)).map Uj:=by
  rw[List.map_set]
  congr 1
  show _=[C.int .i64 (x:Int),.int .i64 ((y - 1:Nat):Int),.int .i64 (w:Int)]
  rw[show ((y - 1:Nat):Int)=(y:Int) - 1 by omega]
 obtain⟨Z,hZ⟩:∃ Z,D.map Uj=Z:=⟨_,rfl⟩
 have fg:=fin
 have fg1:=fin1
 rw[hZ] at hp r1 w1 r2 w2' fg fg1
 have pp:=@H.Zal
 obtain⟨v,h',cc,rfl,rfl⟩:∃ v h',Zg 52 [.c (.ptr p (k * 3)),.c (.ptr q 0)] h v h'∧v=.tup []∧h'=h.put p (.row 3 ((D.set k (x,y - 1,Zrp kq w)).map Uj) false):=by
  rcases kk with rfl|rfl
  ·have dn:Zrp 1 w=w:=rfl
   rw[dn]
   refine Yg Hh Tryz.f52 ?_
   have Jf:=Sy @hq @hp @r1 @w1 @rq @pp
   repeat (first|apply Zk|apply Zw|refine Goes.Zi Zj ?_|refine Zq Hh Za Zj ?_)
   exact⟨_,_,(by have Jf:=@pp; exact Zj),rfl,by rw[fg1]⟩
  ·have dn:Zrp 2 w=w+1:=rfl
   rw[dn]
   refine Yg Hh Tryz.f52 ?_
   have Jf:=Yu @hq @hp @r1 @w1 @r2 @w2' @rq @pp @fg
   repeat (first|apply Zk|apply Zw|refine Goes.Zi Zj ?_|refine Zq Hh Za Zj ?_)
   exact⟨_,_,(by have Jf:=Yy @fg @pp; exact Zj),rfl,rfl⟩
 exact cc
variable {n q a b c e:Nat} {cr:Cr} {md:Int} {S T:List Nat} {V:Nat→List Nat} {h:Go.Ev.H}
theorem Z9s (f:Ym a b c e=true) (M:HE n q a b c e cr md S T V h) {D:List Oy} {kq:Int} {g:Nat→Bool} {k t x0 i0 w0 gn:Nat} {o:List C} (G:GrpH a b c e S T V D kq g k t x0 i0 w0 gn o)
  {l p3 p4 p6 p7 p9 p11 pD:Nat} {o6 o7:C} {ts:Zx} (e3:Zh ts 3=.w (.c (.ptr p3 0))) (e4:Zh ts 4=.w (.c (.ptr p4 0))) (e6:Zh ts 6=.w (.c (.ptr p6 0))) (e7:Zh ts 7=.w (.c (.ptr p7 0))) (e9:Zh ts 9=.w (.c (.ptr p9 0))) (e11:Zh ts 11=.w (.c (.ptr p11 0))) (e12:Zh ts 12=.w (.c (.int .i64 (k:Int))))
  (c3:h.get p3=some (.row 1 [[.ptr (n+13) 0]] false)) (c4:h.get p4=some (.row 1 [[.int .u8 kq]] false)) (c6:h.get p6=some (.row 1 [[o6]] false)) (c7:h.get p7=some (.row 1 [[o7]] false)) (c9:h.get p9=some (.row 1 [[.slice pD 0 a 3]] false)) (c11:h.get p11=some (.row 4 [[.int .i64 (a:Int),.int .i64 (b:Int),.int .i64 (c:Int),.int .i64 (e:Int)]] false)) (cD:h.get pD=some (.row 3 (D.map Uj) false))
  (b3:q+9≤p3∧p3<h.next) (b4:q+9≤p4∧p4<h.next) (b6:q+9≤p6∧p6<h.next) (b7:q+9≤p7∧p7<h.next) (b9:q+9≤p9∧p9<h.next) (b11:q+9≤p11∧p11<h.next) (bD:q+9≤pD∧pD<h.next) (bl:q+9≤l∧l<h.next)
  (n1:p3≠pD) (n2:p4≠pD) (n3:p6≠pD) (n4:p7≠pD) (n5:p6≠p7) :
  Ye 96 (some l) (q13 [1,1,1,1,1,1,0,1,2,6]) [] ts h fun x _ _ h'=>x=.ret∧h.next≤h'.next∧HE n q a b c e cr md S T (Zq0 b c e V D kq g k t x0 i0 w0 gn) h'∧(∀ m,m<h.next→Out n q m→m≠pD→m≠p6→m≠p7→h'.get m=h.get m)∧h'.get p6=some (.row 1 [[.int .i64 ((k * c+t+1:Nat):Int)]] false)∧h'.get p7=some (.row 1 [[.int .i64 0]] false):=by
 obtain⟨ka,low,gm,tc,kk,bm,des,old,ol,o2,gb,hk,y1,y2,y3,Dm,s1,s2,s3⟩:=G
 have Dl:=des.2.2
 obtain⟨g1,g2,g3,g4,g5,g6,g7,g8,g9,g10,g11⟩:=Zv f
 have st:=Jp (b:=b) ka
 have sc:=Jp (b:=c) ka
 obtain⟨zb,hb⟩:∃ z,2+e+k * b+1=z:=⟨_,rfl⟩
 rw[hb] at bm s3
 have zbl:zb<2+e+a * b:=by omega
 have ob:=Dx (z:=zb) (Zv f) (by omega) zbl
 obtain⟨nq,nx,_⟩:=M.nx
 have bl1:(Jd g).length=256:=Uu _
 have cF:∀ h,Zg 48 [.g (Jd g),.c (.int .i64 0),.c (.int .i64 (c:Int))] h (.w (.c (.int .i64 (t:Int)))) h:=fun h=>by
  have:=Z0e Hh g (s:=0) (t:=t) (u:=c) (by omega) (by omega) (by omega) (fun j _ h=>low j h) (fun _=>gm) h
  rwa [if_pos tc] at this
 have ra:(k * 3+1) / 3=k:=by omega
 have rb:(k * 3+1) % 3=1:=by omega
 have rc:(D.map Uj)[k]? = some [.int .i64 (x0:Int),.int .i64 (i0:Int),.int .i64 (w0:Int)]:=by rw[List.getElem?_map,hk]; rfl
 have ml:(Jd (Mq g t)).length=256:=Uu _
 unfold Zq0
 rw[hb]
 obtain⟨j,hj⟩:∃ j,k * c+t=j:=⟨_,rfl⟩
 rw[hj] at old s1 ⊢
 have kj:j / c=k:=by rw[←hj,Nat.mul_comm,Nat.mul_add_div (by omega),Nat.div_eq_of_lt tc,Nat.add_zero]
 have jl:j<a * c:=by omega
 obtain⟨D',hD'⟩:∃ D',D.set k (x0,i0 - 1,Zrp kq w0)=D':=⟨_,rfl⟩
 have Dl':D'.length=a:=by rw[←hD',List.length_set,Dl]
 rw[hD'] at Dm ⊢
 have pc:=Ra c j
 have mI:Zif (kq.toNat:Nat) (1:Nat) (0:Nat) (0:Nat) (0:Nat) (0:Nat) (0:Nat) (0:Nat) (0:Nat) (0:Nat) (0:Nat) (0:Nat) (0:Nat) (0:Nat) (0:Nat)=true:=by rcases kk with rfl|rfl<;>rfl
 have kb:kq.toNat<256:=by rcases kk with rfl|rfl<;>decide
 have ke:((kq.toNat:Nat):Int)=kq:=by rcases kk with rfl|rfl<;>rfl
 have sl:(V (Y1 b c e j)).length=256:=by
  have tj:j % c<c:=Nat.mod_lt _ (by omega)
  exact M.len (Dx (Zv f) (by unfold Y1; rw[kj]; omega) (by unfold Y1; rw[kj]; omega)) (by unfold Y1; rw[kj]; omega)
 have hi:=fun (h:Go.Ev.H) (m:Nat) (hp:h.get m=some (.row 256 [pgL (V (Y1 b c e j))] false)) (lm:m<h.next)=>Zug Hh sl pc kb (l:=1) (g:=gn+1) (s:=0) (p0:=0) (p1:=0) (p2:=0) (p3:=0) (p4:=0) (p5:=0) (p6:=0) (p7:=0) (p8:=0) (p9:=0) (p10:=0) (nx:=0) (by omega) (by omega) (by omega) (fun v hv=>by simp only[List.mem_cons,List.not_mem_nil,or_false,or_self] at hv; omega) (by omega) mI hp lm
 obtain⟨ms,hms⟩:∃ ms,Ec (V (Y1 b c e j)) (D9 c j) kq.toNat 1 (gn+1) 0 [0,0,0,0,0,0,0,0,0,0,0] 0=ms:=⟨_,rfl⟩
 have msl:ms.length=256:=by rw[←hms,Zga (by omega),sl]
 rw[hms] at hi ⊢
 have hi':∀ h m,h.get m=some (.row 256 [pgL (V (Y1 b c e j))] false)→m<h.next→∃ h',Zg 64 [.c (.ptr m 0),.c (.int .i64 (D9 c j:Nat)),.g (Nc kq 1 ((gn:Int)+1) 0 0 0 0 0 0 0 0 0 0 0 0 0)] h (.w (.c (.int .i64 0))) h'∧h.next≤h'.next∧h'.get m=some (.row 256 [pgL ms] false)∧∀ k,k<h.next→k≠m→h'.get k=h.get k:=fun h m hp lm=>by
  have:=hi h m hp lm
  rw[ke] at this
  exact this
 clear hi
 have gi:(gn:Int)+1<4294967296:=by omega
 obtain⟨B,hB⟩:∃ B,Jd g=B:=⟨_,rfl⟩
 have hG:=fun {h:Go.Ev.H} (M:HE n q a b c e cr md S T V h)=>Z2y Hh f M ((j+1:Nat):Int)
 simp only[old] at hG
 have hGE:=fun {h:Go.Ev.H} (M:HE n q a b c e cr md S T V h)=>M.get f ob zbl
 simp only[bm,←Zby] at hGE
 have hC:=fun {h:Go.Ev.H} (M:HE n q a b c e cr md S T V h) {pq:Nat} (hp:h.get pD=some (.row 3 (D.map Uj) false)) (pl:pD<h.next)=>Zy5 Hh f M jl s1 s2 (by rw[kj,hb]; exact s3) msl (Zpo (Mq g t)) (y:=Nc kq 1 ((gn:Int)+1) 0 0 0 0 0 0 0 0 0 0 0 0 0) rfl (F:=52) (pq:=pq) hp Dl Dl' Dm pl bD.1
 rw[kj,hb] at hC
 simp only[←Zby] at hC
 rw[hB] at bl1 cF
 simp only[hB] at hGE
 iterate 2 (first|apply Zk|apply Yt)
 obtain⟨hZ,e1,MZ,nZ,rZ⟩:=hGE M
 have k1:=Dq Hh e1
 have Jf:=Yu @f @e3 @e4 @e6 @e7 @e9 @e11 @e12 (Yu @c3 @c4 @c6 @c7 @c9 @c11 @cD @rd4 (Yu @hb @bl1 @ra @rb @rc @hj @ol @gi @Nat.zero_add))
 iterate 7 (first|apply Zk|apply Zw|refine Goes.Zi Ep ?_|refine Zq Hh (Zp (EY Za (Te Hh)) k1) Ep ?_|refine Ed Hh (Zp (EY Za (Te Hh)) k1) Z2e ?_)
 have z3:=(rZ p3 (by omega) (by omega)).trans c3
 have z9:=(rZ p9 (by omega) (by omega)).trans c9
 have z11:=(rZ p11 (by omega) (by omega)).trans c11
 have zD:=(rZ pD (by omega) (by omega)).trans cD
 have Jf:=Sy Jf @z3 @z9 @z11 @zD @nZ
 iterate 12 (first|apply Zk|apply Zw|refine Goes.Zi Ep ?_|refine Zq Hh (Yp Za cF) Ep ?_)
 iterate 2 (first|apply Zk|refine Zq Hh (EY Za (Zqs Hh)) Ep ?_)
 refine Uc fun hA eA=>?_
 have nA:hA.next=h.next+1:=by rw[eA]; simp only[H.Zd,H.Zb,nZ]
 have kA:∀ m,m<h.next→m≠n+6→hA.get m=h.get m:=fun m hm hne=>by rw[eA]; refine Eq.trans ?_ (rZ m hm hne); exact Yc
 have bA:hA.get h.next=some (.row 256 [B] false):=by rw[eA]; exact Z5
 have MA:=MZ.keep (h2:=hA) (by rw[eA]; simp only[H.Zd,H.Zb]<;>omega) (fun m hm=>by rw[eA]; exact Yc)
 clear eA
 obtain⟨hG',k3,MG,rG⟩:=hG MA
 have nG:=rG.1
 have cA3:=(kA p3 (by omega) (by omega)).trans c3
 have Jf:=Jb Jf @cA3 @nA
 iterate 7 (first|apply Zk|apply Zw|refine Goes.Zi Ep ?_|refine Zq Hh (Zp Za k3) Ep ?_)
 refine Uc fun hC' eC=>?_
 have nC:hC'.next=hG'.next+1:=by rw[eC]; simp only[H.Zd,H.Zb]
 have kC:∀ m,m<h.next+1→m≠n+6→hC'.get m=hA.get m:=fun m hm hne=>by rw[eC]; refine Eq.trans ?_ (rG.2 m (by omega) hne); exact Yc
 have iC:hC'.get hG'.next=some (.row 16 [o] false):=by rw[eC]; exact Z5
 have MC:=MG.keep (h2:=hC') (by rw[eC]; simp only[H.Zd,H.Zb]<;>omega) (fun m hm=>by rw[eC]; exact Yc)
 clear eC
 have bC:=(kC h.next (by omega) (by omega)).trans bA
 rw[←hB] at bC
 have k4:=Zuz Hh hC' h.next t g (by omega) gm bC
 iterate 2 (first|apply Zk|refine Zq Hh (Zp Za k4) Ep ?_)
 refine Uc fun hD eD=>?_
 have nD:hD.next=hG'.next+1:=by rw[eD,H.Zd,nC]
 have kD:∀ m,m<h.next→m≠n+6→hD.get m=h.get m:=fun m hm hne=>by rw[eD,Ze (by omega),kC m (by omega) hne]; exact kA m hm hne
 have bD':hD.get h.next=some (.row 256 [Jd (Mq g t)] false):=by rw[eD,Zz]
 have iD:hD.get hG'.next=some (.row 16 [o] false):=by rw[eD,Ze (by omega)]; exact iC
 have MD:=MC.keep (h2:=hD) (by rw[eD,H.Zd]; omega) (fun m hm=>by rw[eD,Ze (by omega)])
 clear eD
 have d3:=(kD p3 (by omega) (by omega)).trans c3
 have d4:=(kD p4 (by omega) (by omega)).trans c4
 have d9:=(kD p9 (by omega) (by omega)).trans c9
 have dD:=(kD pD (by omega) (by omega)).trans cD
 obtain⟨hE,k5,ME,nE,kE⟩:=hC MD (pq:=p4) dD (by omega) (fun h2 k2=>by
  have:=Z8t Hh (h:=h2) kk ((k2 p4 (by omega) ⟨⟨by omega,by omega,by omega,by omega,by omega⟩,by omega⟩).trans d4) ((k2 pD (by omega) ⟨⟨by omega,by omega,by omega,by omega,by omega⟩,by omega⟩).trans dD) hk y1 y2 y3 (Ne.symm n2)
  rw[hD'] at this
  exact this) hi'
 simp only[Nc] at k5
 have rm:Zn 256 [Jd (Mq g t)] 0 256=some (Jd (Mq g t)):=Fz (by omega)
 have q6:=(kE p6 (by omega) ⟨⟨by omega,by omega,by omega,by omega,by omega⟩,by omega⟩ (by omega)).trans ((kD p6 (by omega) (by omega)).trans c6)
 have q7:=(kE p7 (by omega) ⟨⟨by omega,by omega,by omega,by omega,by omega⟩,by omega⟩ (by omega)).trans ((kD p7 (by omega) (by omega)).trans c7)
 have Jf:=Yy Jf (Yu @d3 @d4 @d9 @bD' @iD @o2 @rm @q6 @q7)
 iterate 9 (first|apply Zk|apply Zw|apply Z0|refine Goes.Zi Ep ?_|refine Zq Hh (Zp Za k5) Ep ?_)
 refine⟨rfl,?_,ME.keep ?_ (fun m hm=>?_),?_,?_,?_⟩
 ·simp only[H.Zd]; omega
 ·simp only[H.Zd]; omega
 ·rw[Ze (by omega),Ze (by omega)]
 ·intro m m1 m2 m3 m4 m5; rw[Ze m5,Ze m4]; exact (kE m (by omega) m2 m3).trans (kD m m1 m2.1.1)
 ·rw[Ze (by omega),Zz]
 ·rw[Zz]
end
structure TCg (n q a b c e:Nat) (cr:Cr) (md:Int) (S T:List Nat) (V:Nat→List Nat) (D:List Oy) (kq:Int) (l p3 p4 p6 p7 p9 p11 pD:Nat) (ts:Zx) (h:Go.Ev.H):Prop where
 M:HE n q a b c e cr md S T V h
 e3:Zh ts 3=.w (.c (.ptr p3 0))
 e4:Zh ts 4=.w (.c (.ptr p4 0))
 e6:Zh ts 6=.w (.c (.ptr p6 0))
 e7:Zh ts 7=.w (.c (.ptr p7 0))
 e9:Zh ts 9=.w (.c (.ptr p9 0))
 e11:Zh ts 11=.w (.c (.ptr p11 0))
 c3:h.get p3=some (.row 1 [[.ptr (n+13) 0]] false)
 c4:h.get p4=some (.row 1 [[.int .u8 kq]] false)
 c6:h.get p6=some (.row 1 [[.int .i64 0]] false)
 c7:h.get p7=some (.row 1 [[.int .i64 0]] false)
 c9:h.get p9=some (.row 1 [[.slice pD 0 a 3]] false)
 c11:h.get p11=some (.row 4 [[.int .i64 (a:Int),.int .i64 (b:Int),.int .i64 (c:Int),.int .i64 (e:Int)]] false)
 cD:h.get pD=some (.row 3 (D.map Uj) false)
 b3:q+9≤p3∧p3<h.next
 b4:q+9≤p4∧p4<h.next
 b6:q+9≤p6∧p6<h.next
 b7:q+9≤p7∧p7<h.next
 b9:q+9≤p9∧p9<h.next
 b11:q+9≤p11∧p11<h.next
 bD:q+9≤pD∧pD<h.next
 bl:q+9≤l∧l<h.next
 n1:p3≠pD
 n2:p4≠pD
 n3:p6≠pD
 n4:p7≠pD
 n5:p6≠p7
 n6:l≠pD
 n7:l≠p6
 n8:l≠p7
 n9:l≠p3∧l≠p4∧l≠p9∧l≠p11
structure TAg (n q a b c e:Nat) (cr:Cr) (md:Int) (S T:List Nat) (V:Nat→List Nat) (pD l p6 p7 d v:Nat) (ts:Zx) (h0 h:Go.Ev.H):Prop where
 M:HE n q a b c e cr md S T V h
 next:h0.next≤h.next
 hl:h.get l=some (.loop ts 96 [42] (q13 [1,1,1,1,1,1,0,1,2,5]) (q13 [1,1,1,1,1,1,0,1,2,6]) .done (some .ret) d)
 r6:h.get p6=some (.row 1 [[.int .i64 (v:Int)]] false)
 r7:h.get p7=some (.row 1 [[.int .i64 0]] false)
 keep:∀ m,m<h0.next→Out n q m→m≠l→m≠pD→m≠p6→m≠p7→h.get m=h0.get m
section
variable (Hh:Hearts K Tryz.prog)
include Hh
variable {n q a b c e:Nat} {cr:Cr} {md:Int} {S T:List Nat} {V:Nat→List Nat} {D:List Oy} {kq:Int} {g:Nat→Bool} {k t x0 i0 w0 gn:Nat} {o:List C} {l p3 p4 p6 p7 p9 p11 pD d:Nat} {ts:Zx} {h:Go.Ev.H}
theorem Z90 (l:Nat) (ts:Zx) (k:Nat) (h:Go.Ev.H):Ye 96 (some l) (q13 [1,1,1,1,1,1,0,1,2,5]) [] (ts.set 42 (.w (.c (.int .i64 (k:Int))))) h fun x ds' ts' h'=>x=.normal∧ds'=[]∧(∀ s,s≤11→Zh ts' s=Zh ts s)∧Zh ts' 12=.w (.c (.int .i64 (k:Int)))∧h'=h:=by
 refine Zq Hh Za Zc ?_
 refine⟨rfl,rfl,fun s hs=>?_,?_,rfl⟩
 ·simp (decide:=true) only [Yz hs]
 ·exact Zc
theorem Zrg (f:Ym a b c e=true) (G:GrpH a b c e S T V D kq g k t x0 i0 w0 gn o) (TC:TCg n q a b c e cr md S T V D kq l p3 p4 p6 p7 p9 p11 pD ts h) (hl:h.get l=some (.loop ts 96 [42] (q13 [1,1,1,1,1,1,0,1,2,5]) (q13 [1,1,1,1,1,1,0,1,2,6]) .ready none d)) :
  ∃ E h',Sound K Tryz.prog E∧Jz E l (some [.c (.int .i64 (k:Int))]) h (some (.loop ts 96 [42] (q13 [1,1,1,1,1,1,0,1,2,5]) (q13 [1,1,1,1,1,1,0,1,2,6]) .ready none d))=some (.val (.w (.c (.bool false))) h')∧TAg n q a b c e cr md S T (Zq0 b c e V D kq g k t x0 i0 w0 gn) pD l p6 p7 d (k * c+t+1) ts h h':=by
 obtain⟨xa,ds1,ts1,h1,kA,rfl,rfl,t1,t12,rfl⟩:=Z90 Hh l ts k h
 obtain⟨M,e3,e4,e6,e7,e9,e11,c3,c4,c6,c7,c9,c11,cD,b3,b4,b6,b7,b9,b11,bD,bl,n1,n2,n3,n4,n5,n6,n7,n8,n9⟩:=TC
 obtain⟨nq,nx,_⟩:=M.nx
 have M':=M.keep (h2:=h1.put l (.loop ts 96 [42] (q13 [1,1,1,1,1,1,0,1,2,5]) (q13 [1,1,1,1,1,1,0,1,2,6]) .busy none d)) (by rw[H.Zd]; omega) (fun m hm=>by rw[Ze (by omega)])
 obtain⟨xb,ds2,ts2,h2,kB,rfl,nn,MB,kk,r6,r7⟩:=Z9s Hh f M' G (l:=l) (ts:=ts1) ((t1 3 (by decide)).trans e3) ((t1 4 (by decide)).trans e4) ((t1 6 (by decide)).trans e6) ((t1 7 (by decide)).trans e7) ((t1 9 (by decide)).trans e9) ((t1 11 (by decide)).trans e11) t12
  (by rw[Ze (Ne.symm n9.1)]; exact c3) (by rw[Ze (Ne.symm n9.2.1)]; exact c4) (by rw[Ze (Ne.symm n7)]; exact c6) (by rw[Ze (Ne.symm n8)]; exact c7) (by rw[Ze (Ne.symm n9.2.2.1)]; exact c9) (by rw[Ze (Ne.symm n9.2.2.2)]; exact c11) (by rw[Ze (Ne.symm n6)]; exact cD) b3 b4 b6 b7 b9 b11 bD bl n1 n2 n3 n4 n5
 have gl:=(kk l (by rw[H.Zd]; omega) ⟨⟨by omega,by omega,by omega,by omega,by omega⟩,by omega⟩ n6 n7 n8).trans (Zz ..)
 have Sd:=Bj (Bj Za kB) kA
 obtain⟨E,h3,Sd2,rnd,rfl⟩:∃ E h3,Sound K Tryz.prog E∧Jz E l (some [.c (.int .i64 (k:Int))]) h1 (h1.get l)=some (.val (.w (.c (.bool false))) h3)∧h3=h2.put l (.loop ts 96 [42] (q13 [1,1,1,1,1,1,0,1,2,5]) (q13 [1,1,1,1,1,1,0,1,2,6]) .done (some .ret) d):=by
  refine⟨_,_,Sd,Lg hl (by simp only[U4]; rfl) (Eh ..) hl (Qf (fun e=>?_) |>.trans (Eh ..)) gl,rfl⟩
  have e1:=(Task.code.inj e).1
  rw[Ziu,Zig] at e1
  cases e1
 rw[hl] at rnd
 refine⟨_,_,Sd2,rnd,MB.keep (by rw[H.Zd]; omega) (fun m hm=>by rw[Ze (by omega)]),?_,Zz ..,?_,?_,fun m m1 m2 m3 m4 m5 m6=>?_⟩
 ·rw[H.Zd] at nn ⊢
  exact nn
 ·rw[Ze (Ne.symm n7)]; exact r6
 ·rw[Ze (Ne.symm n8)]; exact r7
 ·rw[Ze m3,kk m (by rw[H.Zd]; exact m1) m2 m4 m5 m6,Ze m3]
theorem Z0b (f:Ym a b c e=true) {near:Int} (hk:Ze4 a c near=k) (G:GrpH a b c e S T V D kq g k t x0 i0 w0 gn o) (TC:TCg n q a b c e cr md S T V D kq l p3 p4 p6 p7 p9 p11 pD ts h) (hl:h.get l=some (.loop ts 96 [42] (q13 [1,1,1,1,1,1,0,1,2,5]) (q13 [1,1,1,1,1,1,0,1,2,6]) .ready none d)) {pg pn:Nat} (hg:h.get pg=some (.row 4 [[.int .i64 (a:Int),.int .i64 (b:Int),.int .i64 (c:Int),.int .i64 (e:Int)]] false)) (hn:h.get pn=some (.row 1 [[.int .i64 near]] false)) :
  ∃ v h',Zg 105 [.c (.yield l),.c (.ptr pg 0),.c (.ptr pn 0)] h v h'∧TAg n q a b c e cr md S T (Zq0 b c e V D kq g k t x0 i0 w0 gn) pD l p6 p7 d (k * c+t+1) ts h h':=by
 obtain⟨g1,g2,g3,g4,g5,g6,g7,g8,g9,g10,g11⟩:=Zv f
 obtain⟨E,h2,Sd,rnd,A⟩:=Zrg Hh f G TC hl
 have ka:=G.ka
 by_cases hv:1≤near∧near≤((a * c:Nat):Int)
 ·obtain⟨v1,v2⟩:=hv
  obtain⟨j,hj⟩:∃ j,near.toNat - 1=j:=⟨_,rfl⟩
  obtain rfl:near=((j+1:Nat):Int):=by omega
  have d1:=decide_eq_true v1
  have d2:=decide_eq_true v2
  have gk:Ze4 a c ((j+1:Nat):Int)=j / c:=by unfold Ze4; rw[if_pos ⟨v1,v2⟩,hj]
  rw[gk] at hk
  have km:k % a=k:=Nat.mod_eq_of_lt ka
  have rm:Np .i64 (k:Int) (a:Int)=some (.int .i64 (k:Int)):=by rw[Em (by omega),km]
  have e0:(k:Int)+0=(k:Int):=Int.add_zero _
  refine Yg Hh Tryz.f105 ?_
  have Jf:=Uq @f @hg @hn (Yu @hl @rd4 @d1 @d2 @hj @hk @rm @e0 @rnd)
  iterate 21 (first|apply Zk|apply Zw|apply Yt|apply Je|refine Goes.Zi Uo ?_|refine Zq Hh (EY Za (D5 Hh)) Uo ?_)
  iterate 3 (first|apply Z0|refine Goes.Zi Uo ?_|refine Zq Hh Sd Uo ?_)
  exact⟨_,_,Zc,A⟩
 ·have gk:Ze4 a c near=0:=by unfold Ze4; rw[if_neg hv]
  obtain rfl:k=0:=hk.symm.trans gk
  have rnd0:Jz E l (some [.c (.int .i64 0)]) h (some (.loop ts 96 [42] (q13 [1,1,1,1,1,1,0,1,2,5]) (q13 [1,1,1,1,1,1,0,1,2,6]) .ready none d))=some (.val (.w (.c (.bool false))) h2):=rnd
  have dd:(decide (1≤near)&&decide (near≤((a * c:Nat):Int)))=false:=by
   rw[←Bool.decide_and]
   exact decide_eq_false hv
  have rm:Np .i64 0 (a:Int)=some (.int .i64 0):=by
   have:=Em (k:=.i64) (a:=0) (b:=a) (by omega)
   rwa [Nat.zero_mod] at this
  refine Yg Hh Tryz.f105 ?_
  have Jf:=Vu @f @hg @hn @hl @rd4 @dd @rm @rnd0
  iterate 21 (first|apply Zk|apply Zw|apply Yt|apply Je|refine Goes.Zi Uo ?_|refine Zq Hh (EY Za (D5 Hh)) Uo ?_)
  iterate 3 (first|apply Z0|refine Goes.Zi Uo ?_|refine Zq Hh Sd Uo ?_)
  exact⟨_,_,Zc,A⟩
theorem Zx0 (f:Ym a b c e=true) {near:Int} (hk:Ze4 a c near=k) (G:GrpH a b c e S T V D kq g k t x0 i0 w0 gn o) {pg pn:Nat} (TC:∀ h2 l,h.next<l→l<h2.next→(∀ m,m<h.next→h2.get m=h.get m)→TCg n q a b c e cr md S T V D kq l p3 p4 p6 p7 p9 p11 pD ts h2) (nh:q+9≤h.next) (nq:n+23≤q) (p6h:p6<h.next) (p7h:p7<h.next) (pDh:pD<h.next)
  (hg:h.get pg=some (.row 4 [[.int .i64 (a:Int),.int .i64 (b:Int),.int .i64 (c:Int),.int .i64 (e:Int)]] false)) (hn:h.get pn=some (.row 1 [[.int .i64 near]] false)) (lg:pg<h.next) (ln:pn<h.next) (e41:Zh ts 41=.w (.c (.fn 105 [] [some (pg,0),some (pn,0)]))) :
  Ye 96 none (q13 [1,1,1,1,1,1,0,1,2]) [] ts h fun x ds' ts' h'=>x=.ret∧ts'=ts∧ds'=[h.next]∧h'.get h.next=some .defers∧h'.get p6=some (.row 1 [[.int .i64 ((k * c+t+1:Nat):Int)]] false)∧h'.get p7=some (.row 1 [[.int .i64 0]] false)∧HE n q a b c e cr md S T (Zq0 b c e V D kq g k t x0 i0 w0 gn) h'∧h.next≤h'.next∧∀ m,m<h.next→Out n q m→m≠pD→m≠p6→m≠p7→h'.get m=h.get m:=by
 have g0:∀ (o:O) m,m<h.next→((h.new .defers).new o).get m=h.get m:=fun o m hm=>by rw[Z8 (by rw[H.Zb]; omega),Z8 (by omega)]
 have gd:∀ o:O,((h.new .defers).new o).get h.next=some .defers:=fun o=>by rw[Z8 (by rw[H.Zb]; omega),U8]
 have T1:=TC ((h.new .defers).new (.loop ts 96 [42] (q13 [1,1,1,1,1,1,0,1,2,5]) (q13 [1,1,1,1,1,1,0,1,2,6]) .ready none h.next)) (h.next+1) (by omega) (by simp only[H.Zb]; omega) (fun m hm=>g0 _ m hm)
 rw[Zj4]
 refine Goes.Zbq fits Hh (f:=105) (first:=[]) (caps:=[some (pg,0),some (pn,0)]) (by simp only[Z6,Y2,e41,asC]) (exE (Z0b Hh f hk G T1 (by rw[Jv (by simp only[H.Zb]; omega)]) ((g0 _ _ lg).trans hg) ((g0 _ _ ln).trans hn)) ?_)
 rintro v h3 A
 have an:=A.next
 simp only[H.Zb] at an
 refine⟨_,_,_,_,_,_,_,_,A.hl,by simp,?_⟩
 show _∧_∧_
 refine⟨rfl,rfl,rfl,?_,?_,?_,A.M.keep (by rw[H.Zd]; omega) (fun m hm=>by rw[Ze (by omega)]),by rw[H.Zd]; omega,fun m hm ho m1 m2 m3=>?_⟩
 ·rw[Ze (by omega),A.keep _ (by simp only[H.Zb]; omega) ⟨⟨by omega,by omega,by omega,by omega,by omega⟩,by omega⟩ (by omega) (by omega) (by omega) (by omega),gd]
 ·rw[Ze (by omega),A.r6]
 ·rw[Ze (by omega),A.r7]
 ·rw[Ze (by omega),A.keep m (by simp only[H.Zb]; omega) ho (by omega) m1 m2 m3,g0 _ _ hm]
theorem Z4v (f:Ym a b c e=true) (M:HE n q a b c e cr md S T V h) {near:Int} (hk:Ze4 a c near=k) (G:GrpH a b c e S T V D kq g k t x0 i0 w0 gn o) :
  ∃ h',Zg 13 [.c (.ptr (n+13) 0),.c (.int .u8 kq),.c (.int .i64 near)] h (.tup [.c (.int .i64 ((k * c+t+1:Nat):Int)),.c (.int .i64 0)]) h'∧HE n q a b c e cr md S T (Zq0 b c e V D kq g k t x0 i0 w0 gn) h'∧h.next≤h'.next∧∀ m,m<h.next→Out n q m→h'.get m=h.get m:=by
 obtain⟨g1,g2,g3,g4,g5,g6,g7,g8,g9,g10,g11⟩:=Zv f
 have kk:=G.kk
 have ek:(kq != 1&&kq != 2)=false:=by rcases kk with rfl|rfl<;>rfl
 obtain⟨nq,nx,_⟩:=M.nx
 obtain⟨_,⟨kn0,hs⟩,⟨dk0,gl⟩,ht⟩:=M.cells
 unfold gdL gdD at gl
 refine Ou ?_
 obtain⟨kv,hkv⟩:∃ kv,kv=kq:=⟨_,rfl⟩
 rcases kk with rfl|rfl
 all_goals
  refine Yg Hh Tryz.f13 ?_
  have Jf:=Uq @f @hs @gl @ht
  iterate 15 (first|apply Zk|apply Zw|refine Goes.Zi Gm ?_|refine Zq Hh (EY Za (Zko Hh)) Gm ?_)
  refine Uc fun hA eA=>?_
  have nA:hA.next=h.next+1+1+1+1:=by rw[eA]; simp only[H.Zd,H.Zb]
  have kA:∀ m,m<h.next→hA.get m=h.get m:=fun m hm=>by rw[eA]; exact Yc
  have a3:hA.get h.next=some (.row 1 [[.ptr (n+13) 0]] false):=by rw[eA]; exact Zc
  have a4:hA.get (h.next+1)=some (.row 1 [[.int .u8 kv]] false):=by rw[eA,hkv]; exact Zc
  have a6:hA.get (h.next+1+1)=some (.row 1 [[.int .i64 0]] false):=by rw[eA]; exact Zc
  have a7:hA.get (h.next+1+1+1)=some (.row 1 [[.int .i64 0]] false):=by rw[eA]; exact Zc
  clear eA
  subst hkv
  have MA:=M.keep (h2:=hA) (by omega) (fun m hm=>kA m (by omega))
  obtain⟨hB,pD,k6,MB,kB',pD1,pD2,cD⟩:=Z5r Hh f MA G.des
  have kB:=kB'.2
  obtain⟨_,⟨knB,hsB⟩,⟨dkB,glB⟩,_⟩:=MB.cells
  unfold gdL gdD at glB
  have b3:=(kB h.next (by omega) (by omega)).trans a3
  have b4:=(kB (h.next+1) (by omega) (by omega)).trans a4
  have b6:=(kB (h.next+1+1) (by omega) (by omega)).trans a6
  have b7:=(kB (h.next+1+1+1) (by omega) (by omega)).trans a7
  have Jf:=Yu @f @hs @gl @ht @a3 @hsB @glB @b3 @b4
  iterate 7 (first|apply Zk|apply Zw|refine Goes.Zi Gm ?_|refine Zq Hh (Zp Za k6) Gm ?_)
  iterate 5 (first|apply Zk|apply Yt|refine Zq Hh (EY (EY Za (Jh Hh)) (Zso Hh)) Gm ?_)
  refine Uc fun hC eC=>?_
  have nC:hC.next=hB.next+1+1+1+1:=by rw[eC]; simp only[H.Zd,H.Zb]
  have kC:∀ m,m<hB.next→hC.get m=hB.get m:=fun m hm=>by rw[eC]; exact Yc
  have c9:hC.get hB.next=some (.row 1 [[.slice pD 0 a 3]] false):=by rw[eC]; exact Zc
  have c11:hC.get (hB.next+1)=some (.row 4 [[.int .i64 (a:Int),.int .i64 (b:Int),.int .i64 (c:Int),.int .i64 (e:Int)]] false):=by rw[eC]; exact Zc
  have cg:hC.get (hB.next+1+1)=some (.row 4 [[.int .i64 (a:Int),.int .i64 (b:Int),.int .i64 (c:Int),.int .i64 (e:Int)]] false):=by rw[eC]; exact Zc
  have cn:hC.get (hB.next+1+1+1)=some (.row 1 [[.int .i64 near]] false):=by rw[eC]; exact Zc
  clear eC
  have nB:=MB.nx.2.1
  have MC:=MB.keep (h2:=hC) (by omega) (fun m hm=>kC m (by omega))
  refine (Zx0 Hh (h:=hC) (n:=n) (cr:=cr) (md:=md) (S:=S) (T:=T) f hk G (p3:=h.next) (p4:=h.next+1) (p6:=h.next+1+1) (p7:=h.next+1+1+1) (p9:=hB.next) (p11:=hB.next+1) (pD:=pD) (pg:=hB.next+1+1) (pn:=hB.next+1+1+1) ?_ (by omega) nq (by omega) (by omega) (by omega) cg cn (by omega) (by omega) ?_).mono ?_
  ·intro h2 l l1 l2 k2
   refine⟨MC.keep (by omega) (fun m hm=>k2 m (by omega)),?_,?_,?_,?_,?_,?_,(k2 _ (by omega)).trans ((kC _ (by omega)).trans b3),(k2 _ (by omega)).trans ((kC _ (by omega)).trans b4),(k2 _ (by omega)).trans ((kC _ (by omega)).trans b6),(k2 _ (by omega)).trans ((kC _ (by omega)).trans b7),(k2 _ (by omega)).trans c9,(k2 _ (by omega)).trans c11,(k2 _ (by omega)).trans ((kC _ (by omega)).trans cD),?_,?_,?_,?_,?_,?_,?_,?_,?_,?_,?_,?_,?_,?_,?_,?_,?_⟩
   all_goals (first|omega|(simp (decide:=true) only [Zf,reduceIte]))
  ·simp (decide:=true) only [Zf,reduceIte]
  rintro x ds' ts' h' ⟨rfl,rfl,rfl,gd',r6,r7,MM,nn,kk⟩
  refine⟨_,_,(by have Jf:=Jb @gd' @r6 @r7; exact Yq),rfl,MM.keep ?_ (fun m hm=>?_),?_,fun m hm ho=>?_⟩
  ·simp only[H.Zd,H.Zb,H.Yv]<;>omega
  ·exact Yc
  ·simp only[H.Zd,H.Zb,H.Yv]<;>omega
  ·refine Eq.trans ?_ ((kk m (by omega) ho (by omega) (by omega) (by omega)).trans ((kC m (by omega)).trans ((kB m (by omega) ho.1.1).trans (kA m hm)))); exact Yc
end
def iw1 (c k:Nat):Nat × Nat:=if k=0 then (c - 2,2) else (c,0)
theorem Z1o {c:Nat} (hc:2≤c):Zsr c (iw1 c):=fun k=>by
 unfold iw1
 split
 ·show 2+(c - 2)≤c; omega
 ·show 0+c≤c; omega
theorem Z7e {a b c:Nat} (ha:1≤a):(DG a b c (iw0 c) 0).set 0 (fF b c,c - 1 - 1,2)=DG a b c (iw1 c) 0:=by
 apply List.ext_getElem?
 intro i
 rcases Nat.lt_or_ge i a with q|q
 ·rcases Nat.eq_zero_or_pos i with rfl|p
  ·rw[List.getElem?_set_self (by rw[Ng]; exact q),Zdu q,Nat.zero_sub,Nat.min_zero,Nat.sub_zero]
   rfl
  ·rw[List.getElem?_set_ne (by omega),Zdu q,Zdu q]
   unfold iw0 iw1
   rw[if_neg (by omega),if_neg (by omega)]
 ·rw[List.getElem?_eq_none (by rw[List.length_set,Ng]; exact q),List.getElem?_eq_none (by rw[Ng]; exact q)]
theorem Zux {a b c e j g:Nat} {V:Nat→List Nat} (jl:j<a * c) (gb:g<4294967296) (gz:gI a b c e V ((j+1:Nat):Int)=(Fa 2 1 g 0 (fun _=>0) 0,0)):DirS a b c e V j g (fun _=>0) [] [] :=
 ⟨gz,jl,gb,fun i _=>by omega,fun _ _ _=>rfl,⟨by simp,rfl,fun i z hz=>by simp at hz⟩,List.nodup_nil,fun z hz=>by simp at hz⟩
section
variable (Hh:Hearts K Tryz.prog)
include Hh
variable {n q a b c e:Nat} {cr:Cr} {md:Int} {cap:Nat} {h:Go.Ev.H}
theorem Z4f {L:List (List C)} (f:Ym a b c e=true) (I:Image a b c e L) (D0:DirS a b c e (vI L) 0 1 (fun _=>0) [] []) (M:HE n q a b c e cr md (SG b c e cap) [] (vI L) h) :
  ∃ h' V,Zg 13 [.c (.ptr (n+13) 0),.c (.int .u8 2),.c (.int .i64 1)] h (.tup [.c (.int .i64 2),.c (.int .i64 0)]) h'∧HE n q a b c e cr md (SG b c e cap) [] V h'∧Kp n q h h'∧AlG a b c e (iw1 c) V 0∧DirS a b c e V 0 1 (fun _=>0) [] []∧DirS a b c e V 1 1 (fun _=>0) [] []:=by
 have FF:=Zv f
 have F:=FF
 obtain⟨g1,g2,g3,g4,g5,g6,g7,g8,g9,g10,g11⟩:=FF
 have ac:c≤a * c:=Nat.le_mul_of_pos_left _ (by omega)
 obtain⟨A1,A2,A3⟩:=Zq1 f I
 have e0:Y1 b c e 1=2+e+2:=by
  unfold Y1
  rw[Nat.div_eq_of_lt (show 1<c by omega),Nat.mod_eq_of_lt (show 1<c by omega),Nat.zero_mul]
 have p0:D9 c 1=64:=by unfold D9; rw[Nat.mod_eq_of_lt (show 1<c by omega)]
 have v0:vI L (2+e+2)=unN Rx:=by
  have:=I.ti 0 0 (by omega) (by omega)
  rw[Nat.zero_mul,Nat.add_zero,Nat.add_zero,if_pos ⟨rfl,rfl⟩] at this
  unfold vI
  rw[this,Option.getD_some]
 have may:=Zik (a:=a) (b:=b) (Z1o (c:=c) (by omega)) (m:=0)
 have G:GrpH a b c e (SG b c e cap) [] (vI L) (DG a b c (iw0 c) 0) 2 (F9 1 c 2048) 0 1 (fF b c) (c - 1) 1 0 ino0:=by
  refine⟨by omega,fun i hi=>?_,?_,by omega,.inr rfl,?_,A2,?_,rfl,rfl,by omega,?_,by omega,by omega,by omega,?_,?_,?_,?_⟩
  ·unfold F9; rw[decide_eq_true hi]; rfl
  ·unfold F9; rw[decide_eq_false (by omega),decide_eq_false (by omega)]; rfl
  ·have:=I.bm 0 (by omega)
   rw[if_pos rfl] at this
   unfold vI
   rw[this,Option.getD_some]
   unfold bmB
   rw[Zby,Od,Zpk]
  ·rw[Nat.zero_mul,Nat.zero_add]
   unfold gI
   rw[if_pos ⟨by omega,by omega⟩]
   show Rv (vI L (Y1 b c e 1)) (D9 c 1)=_
   rw[e0,p0,v0]
   kernel_rfl
  ·rw[Zdu (by omega),Nat.zero_sub,Nat.min_zero,Nat.sub_zero]; rfl
  ·have:=may
   rw[←Z7e g1] at this
   exact this
  ·rw[Nat.zero_mul,Nat.zero_add]; exact⟨Zm2.2.2.2,by simp⟩
  ·exact⟨Zm2.1,by simp⟩
  ·rw[Nat.zero_mul,Nat.add_zero]; exact⟨Zm2.2.1,by simp⟩
 obtain⟨h',cc,M',nn,kk⟩:=Z4v Hh f M (near:=1) (k:=0) (by
  unfold Ze4
  rw[if_pos ⟨by omega,by omega⟩]
  exact Nat.zero_div c) G
 have l1:(vI L (Y1 b c e 1)).length=256:=(Zro I _ (by rw[e0]; have:=Jp (b:=b) (show 0<a by omega); omega)).1
 have n1:Y1 b c e 1≠1:=by omega
 have n2:Y1 b c e 1≠2+e+0 * b+1:=by omega
 have hV:Zq0 b c e (vI L) (DG a b c (iw0 c) 0) 2 (F9 1 c 2048) 0 1 (fF b c) (c - 1) 1 0=O9 (O9 (O9 (vI L) (2+e+0 * b+1) (Wp (Mq (F9 1 c 2048) 1))) 1 (Zbr (DG a b c (iw1 c) 0))) (Y1 b c e 1) (Ec (O9 (O9 (vI L) (2+e+0 * b+1) (Wp (Mq (F9 1 c 2048) 1))) 1 (Zbr (DG a b c (iw1 c) 0)) (Y1 b c e 1)) (D9 c 1) 2 1 1 0 [0,0,0,0,0,0,0,0,0,0,0] 0):=by
  rw[J6 n1,J6 n2,←Z7e g1]
  unfold Zq0
  rw[Nat.zero_mul c,Nat.zero_add 1]
  rfl
 rw[hV] at M'
 obtain⟨W,hW⟩:∃ W,O9 (O9 (vI L) (2+e+0 * b+1) (Wp (Mq (F9 1 c 2048) 1))) 1 (Zbr (DG a b c (iw1 c) 0))=W:=⟨_,rfl⟩
 rw[hW] at M'
 have Wl:(W (Y1 b c e 1)).length=256:=by rw[←hW,J6 n1,J6 n2]; exact l1
 have Wg:∀ i,gI a b c e W i=gI a b c e (vI L) i:=fun i=>by
  rw[←hW,Zf1 (Zoh F (.inl (by omega))),Zf1 (Zoh F (.inr ⟨0,.inl rfl⟩))]
 have z2:((0 * c+1+1:Nat):Int)=2:=by rw[Nat.zero_mul]; rfl
 rw[z2] at cc
 refine⟨h',_,cc,M',⟨nn,kk⟩,?_,?_,?_⟩
 ·obtain⟨gd,td⟩:=Zd0 f (D:=DG a b c (iw1 c) 0) Ng may
  have gg:gG b c 0=gG b c 0:=rfl
  refine⟨fun k hk=>?_,⟨?_,?_,Ng⟩,may⟩
  ·rw[J6 (fun w=>Zf3 f 1 (.inr ⟨k,hk,w.symm⟩)),←hW,J6 (by omega),J6 (by
    rcases Nat.eq_zero_or_pos k with rfl|p
    ·omega
    ·have:=Nat.le_mul_of_pos_left b p; omega)]
   exact A1 k hk
  ·rw[J6 (Ne.symm n1),←hW,Bl]; exact gd
  ·rw[J6 (Ne.symm n1),←hW,Bl]; exact td
 ·refine Zux (by omega) (by omega) ?_
  rw[Zvb F Wl (by omega) rfl,Wg]
  exact D0.gz
 ·refine Zux (by omega) (by omega) ?_
  rw[Zv3 (by omega) Wl (by omega) (by omega) (by omega) (by omega) (fun v hv=>by simp at hv; omega) (by omega) (by kernel_rfl)]
  rfl
end
end Go.Proofs.YtecakmodlkbnaaaGreatDoor
