/- blocks.Take: the groups, one behind the other. -/
import Derived.Test.YtmanipmhebgdbaaGreatDoorBtk
set_option maxRecDepth 100000
set_option maxHeartbeats 4000000
set_option linter.unusedSimpArgs false
set_option linter.unusedVariables false
set_option linter.unusedSectionVars false
namespace Go.Proofs.YtmanipmhebgdbaaGreatDoor
open Go.Ev
noncomputable section
noncomputable def q270 (p:Lq):Code:=piece p (J8 Tryz.f270)
theorem Zn8:q270 [1,1,1,1,0,1,2]=.rangeFunc (.tmp 32) #[33] (q270 [1,1,1,1,0,1,2,5]) (q270 [1,1,1,1,0,1,2,6]):=kR
theorem Zbw:q270 [1,1,1,1,0,1,2,5]=.region 8 (Z61 (q270 [1,1,1,1,0,1,2,5])) false:=kR
theorem Zbx:q270 [1,1,1,1,0,1,2,6]=.block 1 (q270 [1,1,1,1,0,1,2,6,2]):=kR
noncomputable def q352 (p:Lq):Code:=piece p (J8 Tryz.f352)
theorem rs270:Tryz.f270.results.toList=[.cell 4 3,.cell 5 31]:=rfl
theorem rs352:Tryz.f352.results.toList=[]:=rfl
attribute [go_sem] rs270 rs352
theorem rd1 (c:C):read1 1 [[c]] 0=some c:=rfl
structure Bmp (a b c e:Nat) (V:Nat->Lq) (D:List Gc) (g:Nat->Nat->Bool):Prop where
 bm:∀ k,k<a->V (2+e+k * b)=Zb5 (g k)
 des:Des V a b c D
 may:D.all (Zbn (b - 2 - c / 4) c)=true
def Zkv (b c:Nat) (g:Nat->Bool):Prop:=∀ j,2+c / 4<=j->j<b->g j=true
structure FreeG (b c:Nat) (D:List Gc) (g:Nat->Nat->Bool) (k t x y w:Nat):Prop where
 t0:2+c / 4<=t
 tb:t<b
 low:∀ j,2+c / 4<=j->j<t->g k j=true
 gt:g k t=false
 hk:D[k]? = some (x,y,w)
 x1:1<=x
def Zkt (b e:Nat) (V:Nat->Lq) (D:List Gc) (g:Nat->Nat->Bool) (k t x y w:Nat):Nat->Lq:=Gp (Gp V (2+e+k * b) (Zb5 (Tg (g k) t))) 1 (Zeg (D.set k (x - 1,y,w)))
structure TCb (n q a b c e:Nat) (cr:Cr) (md:Int) (S T:Lq) (V:Nat->Lq) (D:List Gc) (l p2 p4 p5 p7 pD:Nat) (ts:Zv) (h:Hq):Prop where
 M:HE n q a b c e cr md S T V h
 e2:Zg ts 2=.w (.c (.ptr p2 0))
 e4:Zg ts 4=.w (.c (.ptr p4 0))
 e5:Zg ts 5=.w (.c (.ptr p5 0))
 e7:Zg ts 7=.w (.c (.ptr p7 0))
 c2:h.get p2=some (.row 1 [[.ptr (n+13) 0]] false)
 c4:h.get p4=some (.row 1 [[.int .i64 0]] false)
 c5:h.get p5=some (.row 1 [[.int .i64 0]] false)
 c7:h.get p7=some (.row 1 [[.slice pD 0 a 3]] false)
 cD:h.get pD=some (.row 3 (D.map U4) false)
 b2:q+9<=p2/\p2<h.next
 b4:q+9<=p4/\p4<h.next
 b5:q+9<=p5/\p5<h.next
 b7:q+9<=p7/\p7<h.next
 bD:q+9<=pD/\pD<h.next
 bl:q+9<=l/\l<h.next
 n1:p2≠pD/\p4≠pD/\p5≠pD/\p7≠pD/\l≠pD
 n2:p4≠p5/\p2≠p4/\p2≠p5/\p7≠p4/\p7≠p5
 n3:l≠p2/\l≠p4/\l≠p5/\l≠p7
theorem TCb.keep {n q a b c e:Nat} {cr:Cr} {md:Int} {S T:Lq} {V:Nat->Lq} {D:List Gc} {l p2 p4 p5 p7 pD:Nat} {ts:Zv} {h h2:Hq} (C:TCb n q a b c e cr md S T V D l p2 p4 p5 p7 pD ts h) (M2:HE n q a b c e cr md S T V h2) (nx:h.next<=h2.next) (k:∀ m,m<h.next->q+9<=m->m≠l->h2.get m=h.get m):TCb n q a b c e cr md S T V D l p2 p4 p5 p7 pD ts h2:=by
 obtain⟨M,e2,e4,e5,e7,c2,c4,c5,c7,cD,b2,b4,b5,b7,bD,bl,n1,n2,n3⟩:=C
 exact⟨M2,e2,e4,e5,e7,(k _ b2.2 b2.1 (Ne.symm n3.1)).trans c2,(k _ b4.2 b4.1 (Ne.symm n3.2.1)).trans c4,(k _ b5.2 b5.1 (Ne.symm n3.2.2.1)).trans c5,(k _ b7.2 b7.1 (Ne.symm n3.2.2.2)).trans c7,(k _ bD.2 bD.1 (Ne.symm n1.2.2.2.2)).trans cD,⟨b2.1,oM⟩,⟨b4.1,oM⟩,⟨b5.1,oM⟩,⟨b7.1,oM⟩,⟨bD.1,oM⟩,⟨bl.1,oM⟩,n1,n2,n3⟩
section
variable (Hh:Hearts K Tryz.prog)
include Hh
variable {n q a b c e:Nat} {cr:Cr} [Opn cr] {md:Int} {S T:Lq} {V:Nat->Lq} {D:List Gc} {g:Nat->Nat->Bool} {l p2 p4 p5 p7 pD d:Nat} {ts:Zv} {h:Hq}
theorem btA (l:Nat) (ts:Zv) (k:Nat) (h:Hq):Z9 75 (some l) (q270 [1,1,1,1,0,1,2,5]) [] (ts.set 33 (.w (.c (.int .i64 (k:Int))))) h fun x ds' ts' h'=>x=.normal/\ds'=[]/\(∀ s,s<=8->Zg ts' s=Zg ts s)/\Zg ts' 9=.w (.c (.int .i64 (k:Int)))/\h'=h:=by
 refine Zn Hh Za Zd ?_
 refine⟨rfl,rfl,fun s hs=>?_,?_,rfl⟩
 ·simp (decide:=true) only [Y9 hs]
 ·exact Zd
theorem Z9c (f:Yu a b c e=true) (B:Bmp a b c e V D g) {k:Nat} (ka:k<a) (fu:Zkv b c (g k)) (C:TCb n q a b c e cr md S T V D l p2 p4 p5 p7 pD ts h) (e9:Zg ts 9=.w (.c (.int .i64 (k:Int)))) :
  Z9 75 (some l) (q270 [1,1,1,1,0,1,2,6]) [] ts h fun x _ _ h'=>x=.normal/\h.next<=h'.next/\HE n q a b c e cr md S T V h'/\∀ m,m<h.next->m≠n+6->m≠n+13->h'.get m=h.get m:=by
 obtain⟨M,e2,e4,e5,e7,c2,c4,c5,c7,cD,b2,b4,b5,b7,bD,bl,n1,n2,n3⟩:=C
 obtain⟨g1,g2,g3,g4,g5,g6,g7,g8,g9,g10,g11⟩:=Z5 f
 have st:=Dc (b:=b) ka
 have bm:=B.bm k ka
 obtain⟨nq,nx,n0⟩:=M.nx
 obtain⟨zb,hb⟩:∃ z,2+e+k * b=z:=⟨_,rfl⟩
 rw[hb] at bm
 have zbl:zb<2+e+a * b:=oM
 have ob:=Df (z:=zb) (Z5 f) oM zbl
 have bl1:(Oi (g k)).length=256:=Fz _
 have hGE:=fun {h:Hq} (M:HE n q a b c e cr md S T V h)=>M.get f ob zbl
 simp only[bm,<-Zhg] at hGE
 have hFr:=fun {h:Hq} (M:HE n q a b c e cr md S T V h)=>Z0a Hh f M (g:=g k) (t:=b) fu oM (Nat.le_refl _) (fun w=>absurd w oM) (s:=zb) oM
 simp only[if_neg (Nat.lt_irrefl b)] at hFr
 obtain⟨B',hB⟩:=xzE (Oi (g k))
 rw[hB] at bl1
 simp only[hB] at hGE hFr
 obtain⟨_,⟨kn0,hs0⟩,⟨dk0,gl0⟩,_⟩:=M.cells
 unfold gdL gdD at gl0
 have Jf:=Jh @f @hs0 (Yp @gl0 @e2 @e4 @e5 @e7 @e9 @c2 @hb @bl1)
 iterate 4 (first|refine Zn Hh (EY (EY Za (J3 Hh)) (Ms Hh)) O5 ?_|apply gS)
 obtain⟨hZ,e1,MZ,nZ,rZ⟩:=hGE M
 have k1:=Eo Hh e1
 iterate 7 (first|refine Goes.Zi O5 ?_|refine Zn Hh (Zj Za k1) O5 ?_|apply gS)
 refine Jq fun hA eA=>?_
 have nA:hA.next=h.next+1:=by rw[eA]; simp only[H.Zf,H.Ze,nZ]
 have kA:∀ m,m<h.next->m≠n+6->hA.get m=h.get m:=fun m hm hne=>by rw[eA]; refine Eq.trans ?_ (rZ m hm hne); exact Yn
 have bA:hA.get h.next=some (.row 256 [B'] false):=by rw[eA,<-nZ]; exact Zt
 have MA:=MZ.keep (h2:=hA) oM (fun m hm=>by rw[eA]; exact Yn)
 clear eA
 have cA2:=(kA p2 oM oM).trans c2
 obtain⟨hC,k3,MC,nC,rC⟩:=hFr MA
 have Jf:=J4 Jf @cA2 @bA @nZ
 iterate 6 (first|refine Goes.Zi O5 ?_|refine Zn Hh (Zj Za k3) O5 ?_|apply gS)
 exact⟨rfl,oM,MC,fun m hm h6 h13=>(rC m oM h13).trans (kA m hm h6)⟩
theorem Ybz (f:Yu a b c e=true) (B:Bmp a b c e V D g) {k t x y w:Nat} (ka:k<a) (F:FreeG b c D g k t x y w) (s2:1∈S/\1 ∉ T) (s3:2+e+k * b∈S/\2+e+k * b ∉ T) (C:TCb n q a b c e cr md S T V D l p2 p4 p5 p7 pD ts h) (e9:Zg ts 9=.w (.c (.int .i64 (k:Int)))) :
  Z9 75 (some l) (q270 [1,1,1,1,0,1,2,6]) [] ts h fun x' _ _ h'=>x'=.ret/\h.next<=h'.next/\HE n q a b c e cr md S T (Zkt b e V D g k t x y w) h'/\(∀ m,m<h.next->Out n q m->m≠pD->m≠p4->m≠p5->h'.get m=h.get m)/\h'.get p4=some (.row 1 [[.int .i64 ((2+e+k * b+t:Nat):Int)]] false)/\h'.get p5=some (.row 1 [[.int .i64 0]] false):=by
 obtain⟨M,e2,e4,e5,e7,c2,c4,c5,c7,cD,b2,b4,b5,b7,bD,bl,n1,n2,n3⟩:=C
 obtain⟨t0,tb,low,gt,hk,x1⟩:=F
 obtain⟨g1,g2,g3,g4,g5,g6,g7,g8,g9,g10,g11⟩:=Z5 f
 have st:=Dc (b:=b) ka
 have bm:=B.bm k ka
 have Dl:=B.des.2.2
 obtain⟨nq,nx,n0⟩:=M.nx
 have mx:=Za8 (List.all_eq_true.1 B.may _ (lM hk))
 simp only at mx
 have Dm:(D.set k (x - 1,y,w)).all (Zbn (b - 2 - c / 4) c)=true:=by
  rw[List.all_eq_true]
  intro z hz
  rcases List.mem_or_eq_of_mem_set hz with h1|h1
  ·exact List.all_eq_true.1 B.may z h1
  ·rw[h1]
   unfold Zbn
   rw[R7 (by show x - 1<=_; omega),R7 (by show y<=_; omega),R7 (by show w+y<=_; omega)]
   rfl
 unfold Zkt
 obtain⟨D',hD'⟩:=xzE (D.set k (x - 1,y,w))
 have Dl':D'.length=a:=by rw[<-hD',List.length_set,Dl]
 rw[hD'] at Dm ⊢
 obtain⟨zb,hb⟩:∃ z,2+e+k * b=z:=⟨_,rfl⟩
 rw[hb] at bm s3 ⊢
 have zbl:zb<2+e+a * b:=oM
 have ob:=Df (z:=zb) (Z5 f) oM zbl
 have bl1:(Oi (g k)).length=256:=Fz _
 have ml:(Oi (Tg (g k) t)).length=256:=Fz _
 have hGE:=fun {h:Hq} (M:HE n q a b c e cr md S T V h)=>M.get f ob zbl
 simp only[bm,<-Zhg] at hGE
 have hFr:=fun {h:Hq} (M:HE n q a b c e cr md S T V h)=>Z0a Hh f M (g:=g k) (t:=t) low t0 oM (fun _=>gt) (s:=zb) oM
 simp only[if_pos tb] at hFr
 have hC:=fun {h:Hq} (M:HE n q a b c e cr md S T V h) (hp:h.get pD=some (.row 3 (D.map U4) false)) (pl:pD<h.next)=>Zz9 Hh f M ka s2 (by rw[hb]; exact s3) (Zpn (Tg (g k) t)) (F:=320) hp Dl Dl' Dm pl bD.1 (fun h2 hp2=>by
  have:=Z46 Hh hp2 hk x1 oM
  rw[hD'] at this
  exact this)
 rw[hb] at hC
 simp only[<-Zhg] at hC
 have hr:(D.map U4)[k]? = some [.int .i64 (x:Int),.int .i64 (y:Int),.int .i64 (w:Int)]:=by rw[List.getElem?_map,hk]; rfl
 have r0:read1 3 (D.map U4) (k * 3)=some (.int .i64 (x:Int)):=Fa (sz:=3) (j:=0) oM hr
 have dx:decide ((x:Int)<=0)=false:=decide_eq_false oM
 have es:(zb:Int)+(t:Int)=((zb+t:Nat):Int):=rfl
 obtain⟨B',hB⟩:=xzE (Oi (g k))
 obtain⟨N',hN⟩:=xzE (Oi (Tg (g k) t))
 rw[hB] at bl1
 rw[hN] at ml
 simp only[hB] at hGE hFr
 simp only[hN] at hC
 obtain⟨_,⟨kn0,hs0⟩,⟨dk0,gl0⟩,_⟩:=M.cells
 unfold gdL gdD at gl0
 obtain⟨R,hR⟩:=xzE (D.map U4)
 have cD':=cD
 rw[hR] at r0 cD'
 have Jf:=Y2 @f (Yp @hs0 @gl0 @e2 @e4 @e5 @e7 @e9 @c2 (Yp @hb @bl1 @ml @rd1 @r0 @dx @es @Nat.zero_add @Nat.add_zero))
 iterate 4 (first|refine Zn Hh (EY (EY Za (J3 Hh)) (Ms Hh)) Uh ?_|apply gS)
 obtain⟨hZ,e1,MZ,nZ,rZ⟩:=hGE M
 have k1:=Eo Hh e1
 iterate 7 (first|refine Goes.Zi Uh ?_|refine Zn Hh (Zj Za k1) Uh ?_|apply gS)
 refine Jq fun hA eA=>?_
 have nA:hA.next=h.next+1:=by rw[eA]; simp only[H.Zf,H.Ze,nZ]
 have kA:∀ m,m<h.next->m≠n+6->hA.get m=h.get m:=fun m hm hne=>by rw[eA]; refine Eq.trans ?_ (rZ m hm hne); exact Yn
 have bA:hA.get h.next=some (.row 256 [B'] false):=by rw[eA,<-nZ]; exact Zt
 have MA:=MZ.keep (h2:=hA) oM (fun m hm=>by rw[eA]; exact Yn)
 clear eA
 have cA2:=(kA p2 oM oM).trans c2
 obtain⟨hC',k3,MC,nC,rC⟩:=hFr MA
 have kC:∀ m,m<h.next->m≠n+6->m≠n+13->hC'.get m=h.get m:=fun m hm h6 h13=>(rC m oM h13).trans (kA m hm h6)
 have cC2:=(kC p2 oM oM oM).trans c2
 have cC7:=(kC p7 oM oM oM).trans c7
 have cCD:=(kC pD oM oM oM).trans cD'
 have bC:=(rC h.next oM oM).trans bA
 have Jf:=J4 Jf @cA2 @bA @nZ
 iterate 8 (first|refine Goes.Zi Uh ?_|refine Zn Hh (Zj Za k3) Uh ?_|apply gS)
 have Jf:=Jh Jf @cC7 @cCD
 iterate 4 (first|refine Goes.Zi Uh ?_|refine Zn Hh Za Uh ?_|apply gS)
 have bC':=bC
 rw[<-hB] at bC'
 have k4:=Z8o Hh hC' h.next t (g k) oM gt bC'
 rw[hN] at k4
 iterate 3 (first|refine Zn Hh (Zj Za k4) Uh ?_|apply gS)
 refine Jq fun hD eD=>?_
 have nD:hD.next=hC'.next:=by rw[eD,H.Zf]
 have kD:∀ m,m<h.next->hD.get m=hC'.get m:=fun m hm=>by rw[eD,Zc oM]
 have bD':hD.get h.next=some (.row 256 [N'] false):=by rw[eD,Zz]
 have MD:=MC.keep (h2:=hD) oM (fun m hm=>kD m oM)
 clear eD
 have d2:=(kD p2 oM).trans cC2
 have d7:=(kD p7 oM).trans cC7
 have dD:=((kD pD oM).trans (kC pD oM oM oM)).trans cD
 obtain⟨hE,k5,ME,nE,kE⟩:=hC MD dD oM
 have q4:=(kE p4 oM ⟨⟨oM,oM,oM,oM,oM⟩,oM⟩ oM).trans ((kD p4 oM).trans ((kC p4 oM oM oM).trans c4))
 have q5:=(kE p5 oM ⟨⟨oM,oM,oM,oM,oM⟩,oM⟩ oM).trans ((kD p5 oM).trans ((kC p5 oM oM oM).trans c5))
 have Jf:=J4 Jf @d2 @d7 @bD'
 iterate 6 (first|refine Goes.Zi Uh ?_|refine Zn Hh (Zj Za k5) Uh ?_|apply gS)
 have Jf:=Jh Jf @q4 @q5
 iterate 2 (first|refine Zn Hh Za Uh ?_|apply gS)
 refine⟨rfl,?_,ME.keep ?_ (fun m hm=>?_),fun m hm ho h1 h2 h3=>?_,?_,?_⟩
 ·simp only[H.Zf]; omega
 ·simp only[H.Zf]; omega
 ·exact Yn
 ·refine Eq.trans ?_ ((kE m oM ho h1).trans ((kD m hm).trans (kC m hm ho.1.1 ho.1.2.1))); exact Yn
 ·exact Zvi
 ·exact Zvi
end
def lpB (ts:Zv) (d:Nat):O:=.loop ts 75 [33] (q270 [1,1,1,1,0,1,2,5]) (q270 [1,1,1,1,0,1,2,6]) .ready none d
structure GSb (n q a b c e:Nat) (cr:Cr) (md:Int) (S T:Lq) (V:Nat->Lq) (D:List Gc) (l p2 p4 p5 p7 pD:Nat) (ts:Zv) (d pg fi i:Nat) (ts1:Zv) (h h1:Hq):Prop where
 C:TCb n q a b c e cr md S T V D l p2 p4 p5 p7 pD ts h1
 hl:h1.get l=some (lpB ts d)
 s0:Zg ts1 0=.w (.c (.yield l))
 s1:Zg ts1 1=.w (.c (.ptr pg 0))
 s5:Zg ts1 5=.w (.c (.int .i64 (fi:Int)))
 s18:Zg ts1 18=.w (.c (.int .i64 (a:Int)))
 s19:Zg ts1 19=.w (.c (.int .i64 (i:Int)))
 gp:h1.get pg=some (.row 4 [[.int .i64 (a:Int),.int .i64 (b:Int),.int .i64 (c:Int),.int .i64 (e:Int)]] false)
 bg:q+9<=pg/\pg<h1.next/\pg≠l
 nx:h.next<=h1.next
 kp:∀ m,m<h.next->m≠n+6->m≠n+13->m≠l->h1.get m=h.get m
structure TAb (n q a b c e:Nat) (cr:Cr) (md:Int) (S T:Lq) (V:Nat->Lq) (pD l p4 p5 v:Nat) (ts:Zv) (d:Nat) (h0 h:Hq):Prop where
 M:HE n q a b c e cr md S T V h
 next:h0.next<=h.next
 hl:h.get l=some (.loop ts 75 [33] (q270 [1,1,1,1,0,1,2,5]) (q270 [1,1,1,1,0,1,2,6]) .done (some .ret) d)
 r4:h.get p4=some (.row 1 [[.int .i64 (v:Int)]] false)
 r5:h.get p5=some (.row 1 [[.int .i64 0]] false)
 keep:∀ m,m<h0.next->Out n q m->m≠l->m≠pD->m≠p4->m≠p5->h.get m=h0.get m
section
variable (Hh:Hearts K Tryz.prog)
include Hh
variable {n q a b c e:Nat} {cr:Cr} [Opn cr] {md:Int} {S T:Lq} {V:Nat->Lq} {D:List Gc} {g:Nat->Nat->Bool} {l p2 p4 p5 p7 pD d pg fi:Nat} {ts:Zv} {h:Hq}
theorem Z44 (f:Yu a b c e=true) (B:Bmp a b c e V D g) {k:Nat} (ka:k<a) (fu:Zkv b c (g k)) (C:TCb n q a b c e cr md S T V D l p2 p4 p5 p7 pD ts h) (hl:h.get l=some (lpB ts d)) :
  ∃ E h',Sound K Tryz.prog E/\J5 E l (some [.c (.int .i64 (k:Int))]) h (some (lpB ts d))=some (.val (.w (.c (.bool true))) h')/\TCb n q a b c e cr md S T V D l p2 p4 p5 p7 pD ts h'/\h'.get l=some (lpB ts d)/\h.next<=h'.next/\∀ m,m<h.next->m≠n+6->m≠n+13->m≠l->h'.get m=h.get m:=by
 unfold lpB at hl ⊢
 obtain⟨xa,ds1,ts1,h1,kA,rfl,rfl,t1,t9,rfl⟩:=btA Hh l ts k h
 have C':=C
 obtain⟨M,e2,e4,e5,e7,c2,c4,c5,c7,cD,b2,b4,b5,b7,bD,bl,n1,n2,n3⟩:=C
 obtain⟨nq,nx,_⟩:=M.nx
 have M':=M.keep (h2:=h1.put l (.loop ts 75 [33] (q270 [1,1,1,1,0,1,2,5]) (q270 [1,1,1,1,0,1,2,6]) .busy none d)) (by rw[H.Zf]; omega) (fun m hm=>by rw[Zc oM])
 have Cb:TCb n q a b c e cr md S T V D l p2 p4 p5 p7 pD ts1 (h1.put l (.loop ts 75 [33] (q270 [1,1,1,1,0,1,2,5]) (q270 [1,1,1,1,0,1,2,6]) .busy none d)):=by
  refine⟨M',(t1 2 dM).trans e2,(t1 4 dM).trans e4,(t1 5 dM).trans e5,(t1 7 dM).trans e7,?_,?_,?_,?_,?_,b2,b4,b5,b7,bD,bl,n1,n2,n3⟩
  ·rw[Zc (Ne.symm n3.1)]; exact c2
  ·rw[Zc (Ne.symm n3.2.1)]; exact c4
  ·rw[Zc (Ne.symm n3.2.2.1)]; exact c5
  ·rw[Zc (Ne.symm n3.2.2.2)]; exact c7
  ·rw[Zc (Ne.symm n1.2.2.2.2)]; exact cD
 obtain⟨xb,ds2,ts2,h2,kB,rfl,nn,MB,kk⟩:=Z9c Hh f B ka fu Cb t9
 rw[H.Zf] at nn
 have gl:=(kk l (by rw[H.Zf]; exact bl.2) oM oM).trans (Zz ..)
 have Sd:=Dq (Dq Za kB) kA
 obtain⟨E,h3,Sd2,rnd,rfl⟩:∃ E h3,Sound K Tryz.prog E/\J5 E l (some [.c (.int .i64 (k:Int))]) h1 (h1.get l)=some (.val (.w (.c (.bool true))) h3)/\h3=h2.put l (.loop ts 75 [33] (q270 [1,1,1,1,0,1,2,5]) (q270 [1,1,1,1,0,1,2,6]) .ready none d):=by
  refine⟨_,_,Sd,Mj hl (by simp only[Oh]; rfl) (Ex ..) hl (Qm (fun e=>?_) |>.trans (Ex ..)) gl,rfl⟩
  have e1:=(Task.code.inj e).1
  rw[Zbx,Zbw] at e1
  cases e1
 rw[hl] at rnd
 have kk':∀ m,m<h1.next->m≠n+6->m≠n+13->m≠l->(h2.put l (.loop ts 75 [33] (q270 [1,1,1,1,0,1,2,5]) (q270 [1,1,1,1,0,1,2,6]) .ready none d)).get m=h1.get m:=fun m hm h6 h13 hne=>by
  rw[Zc hne,kk m (by rw[H.Zf]; exact hm) h6 h13,Zc hne]
 have M3:HE n q a b c e cr md S T V (h2.put l (.loop ts 75 [33] (q270 [1,1,1,1,0,1,2,5]) (q270 [1,1,1,1,0,1,2,6]) .ready none d)):=MB.keep (by rw[H.Zf]; omega) (fun m hm=>by rw[Zc oM])
 refine⟨_,_,Sd2,rnd,C'.keep M3 (by rw[H.Zf]; exact nn) (fun m hm hq hne=>kk' m hm oM oM hne),Zz ..,by rw[H.Zf]; exact nn,kk'⟩
theorem Z45 (f:Yu a b c e=true) (B:Bmp a b c e V D g) {k t x y w:Nat} (ka:k<a) (F:FreeG b c D g k t x y w) (s2:1∈S/\1 ∉ T) (s3:2+e+k * b∈S/\2+e+k * b ∉ T) (C:TCb n q a b c e cr md S T V D l p2 p4 p5 p7 pD ts h) (hl:h.get l=some (lpB ts d)) :
  ∃ E h',Sound K Tryz.prog E/\J5 E l (some [.c (.int .i64 (k:Int))]) h (some (lpB ts d))=some (.val (.w (.c (.bool false))) h')/\TAb n q a b c e cr md S T (Zkt b e V D g k t x y w) pD l p4 p5 (2+e+k * b+t) ts d h h':=by
 unfold lpB at hl ⊢
 obtain⟨xa,ds1,ts1,h1,kA,rfl,rfl,t1,t9,rfl⟩:=btA Hh l ts k h
 obtain⟨M,e2,e4,e5,e7,c2,c4,c5,c7,cD,b2,b4,b5,b7,bD,bl,n1,n2,n3⟩:=C
 obtain⟨nq,nx,_⟩:=M.nx
 have M':=M.keep (h2:=h1.put l (.loop ts 75 [33] (q270 [1,1,1,1,0,1,2,5]) (q270 [1,1,1,1,0,1,2,6]) .busy none d)) (by rw[H.Zf]; omega) (fun m hm=>by rw[Zc oM])
 have Cb:TCb n q a b c e cr md S T V D l p2 p4 p5 p7 pD ts1 (h1.put l (.loop ts 75 [33] (q270 [1,1,1,1,0,1,2,5]) (q270 [1,1,1,1,0,1,2,6]) .busy none d)):=by
  refine⟨M',(t1 2 dM).trans e2,(t1 4 dM).trans e4,(t1 5 dM).trans e5,(t1 7 dM).trans e7,?_,?_,?_,?_,?_,b2,b4,b5,b7,bD,bl,n1,n2,n3⟩
  ·rw[Zc (Ne.symm n3.1)]; exact c2
  ·rw[Zc (Ne.symm n3.2.1)]; exact c4
  ·rw[Zc (Ne.symm n3.2.2.1)]; exact c5
  ·rw[Zc (Ne.symm n3.2.2.2)]; exact c7
  ·rw[Zc (Ne.symm n1.2.2.2.2)]; exact cD
 obtain⟨xb,ds2,ts2,h2,kB,rfl,nn,MB,kk,r4,r5⟩:=Ybz Hh f B ka F s2 s3 Cb t9
 rw[H.Zf] at nn
 have gl:=(kk l (by rw[H.Zf]; exact bl.2) ⟨⟨oM,oM,oM,oM,oM⟩,oM⟩ n1.2.2.2.2 n3.2.1 n3.2.2.1).trans (Zz ..)
 have Sd:=Dq (Dq Za kB) kA
 obtain⟨E,h3,Sd2,rnd,rfl⟩:∃ E h3,Sound K Tryz.prog E/\J5 E l (some [.c (.int .i64 (k:Int))]) h1 (h1.get l)=some (.val (.w (.c (.bool false))) h3)/\h3=h2.put l (.loop ts 75 [33] (q270 [1,1,1,1,0,1,2,5]) (q270 [1,1,1,1,0,1,2,6]) .done (some .ret) d):=by
  refine⟨_,_,Sd,Mj hl (by simp only[Oh]; rfl) (Ex ..) hl (Qm (fun e=>?_) |>.trans (Ex ..)) gl,rfl⟩
  have e1:=(Task.code.inj e).1
  rw[Zbx,Zbw] at e1
  cases e1
 rw[hl] at rnd
 refine⟨_,_,Sd2,rnd,MB.keep (by rw[H.Zf]; omega) (fun m hm=>by rw[Zc oM]),by rw[H.Zf]; exact nn,Zz ..,?_,?_,fun m m1 m2 m3 m4 m5 m6=>?_⟩
 ·rw[Zc (Ne.symm n3.2.1)]; exact r4
 ·rw[Zc (Ne.symm n3.2.2.1)]; exact r5
 ·rw[Zc m3,kk m (by rw[H.Zf]; exact m1) m2 m4 m5 m6,Zc m3]
theorem Z1e (f:Yu a b c e=true) (B:Bmp a b c e V D g) {j:Nat} (ja:j<=a) {Q:X->Lq->Zv->Hq->Prop}:∀ (k i:Nat) (ts1:Zv) (h1:Hq),i+k=j->(∀ i',i<=i'->i'<j->Zkv b c (g ((fi+i') % a)))->GSb n q a b c e cr md S T V D l p2 p4 p5 p7 pD ts d pg fi i ts1 h h1 ->
  (∀ ts2 h2,GSb n q a b c e cr md S T V D l p2 p4 p5 p7 pD ts d pg fi j ts2 h h2->Z9 32 none (q352 [1,1,1,2]) [] ts2 h2 Q)->fi<4096 ->
  Z9 32 none (q352 [1,1,1,2]) [] ts1 h1 Q:=by
 obtain⟨g1,g2,g3,g4,g5,g6,g7,g8,g9,g10,g11⟩:=Z5 f
 intro k
 induction k with
 | zero =>
  intro i ts1 h1 hi fu G r _
  obtain rfl:i=j:=oM
  exact r ts1 h1 G
 | succ k ih =>
  intro i ts1 h1 hi fu G r fl
  obtain⟨C,hl,s0,s1,s5,s18,s19,gp,bg,nx,kp⟩:=G
  have km:=Nat.mod_lt (fi+i) (show 0<a by omega)
  have rm:Nr .i64 ((fi:Int)+(i:Int)) (a:Int)=some (.int .i64 (((fi+i) % a:Nat):Int)):=by
   have:=Et (k:=.i64) (a:=fi+i) (b:=a) oM
   rwa [Int.natCast_add] at this
  have fu0:=fu i (Nat.le_refl _) oM
  obtain⟨kk,hkk⟩:=xzE ((fi+i) % a)
  rw[hkk] at km rm fu0
  obtain⟨E,h2,Sd,rnd,C2,hl2,n2,k2⟩:=Z44 Hh f B km fu0 C hl
  have gp2:=(k2 pg bg.2.1 (by have:=C.M.nx; omega) (by have:=C.M.nx; omega) bg.2.2).trans gp
  have dl:decide ((i:Int)<(a:Int))=true:=decide_eq_true oM
  have Jf:=Y2 @s0 (Yp @s1 @s5 @s18 @s19 @gp @hl @dl @rm @rnd)
  iterate 11 (first|refine Goes.Zi Ye ?_|refine Zn Hh Za Ye ?_|apply gS)
  iterate 4 (first|refine Goes.Zi Ye ?_|refine Zn Hh Sd Ye ?_|apply gS)
  show Z9 32 none (q352 [1,1,1,2]) _ _ _ _
  refine ih (i+1) _ h2 oM (fun i' h1 h2=>fu i' oM h2) ⟨C2,hl2,?_,?_,?_,?_,?_,gp2,⟨bg.1,oM,bg.2.2⟩,oM,fun m hm h6 h13 hne=>(k2 m oM h6 h13 hne).trans (kp m hm h6 h13 hne)⟩ r fl
  ·have Jf:=@s0; exact Zq
  ·have Jf:=@s1; exact Zq
  ·have Jf:=@s5; exact Zq
  ·have Jf:=@s18; exact Zq
  ·exact Zd
end
def Sn (a b c e near:Nat):Nat:=(O8 a b c e near).2.1
theorem Ztd {a b c e near:Nat} (h:(O8 a b c e near).1=0):Sn a b c e near=0:=by
 unfold Sn O8 at *
 split at h
 ·cases h
 ·split at h
  ·cases h
  ·split at h
   ·cases h
   ·split at h
    ·rw[if_neg (by assumption),if_neg (by assumption),if_neg (by assumption),if_pos (by assumption)]
    ·exfalso
     simp only at h
     split at h
     ·cases h
     ·split at h
      ·cases h
      ·split at h<;>cases h
theorem Z10 {a b c e near:Nat} (f:Yu a b c e=true):Sn a b c e near<4096:=by
 obtain⟨g1,g2,g3,g4,g5,g6,g7,g8,g9,g10,g11⟩:=Z5 f
 unfold Sn O8
 split
 ·exact (by omega:0<4096)
 ·split
  ·exact (by omega:0<4096)
  ·split
   ·exact (by omega:0<4096)
   ·split
    ·exact (by omega:0<4096)
    ·show (near - 2 - e) / b<4096
     have:(near - 2 - e) / b<=near - 2 - e:=Nat.div_le_self _ _
     omega
section
variable (Hh:Hearts K Tryz.prog)
include Hh
variable {n q a b c e:Nat} {cr:Cr} [Opn cr] {md:Int} {S T:Lq} {V:Nat->Lq} {D:List Gc} {g:Nat->Nat->Bool} {l p2 p4 p5 p7 pD d pg pn:Nat} {ts:Zv} {h:Hq}
theorem Z43 (f:Yu a b c e=true) (B:Bmp a b c e V D g) {near:Nat} (nl:near<9223372036854775808) {j k t x y w:Nat} (ja:j<a) (fu:∀ i,i<j->Zkv b c (g ((Sn a b c e near+i) % a))) (hk:(Sn a b c e near+j) % a=k) (F:FreeG b c D g k t x y w) (s2:1∈S/\1 ∉ T) (s3:2+e+k * b∈S/\2+e+k * b ∉ T) (C:TCb n q a b c e cr md S T V D l p2 p4 p5 p7 pD ts h) (hl:h.get l=some (lpB ts d))
  (hg:h.get pg=some (.row 4 [[.int .i64 (a:Int),.int .i64 (b:Int),.int .i64 (c:Int),.int .i64 (e:Int)]] false)) (hn:h.get pn=some (.row 1 [[.int .i64 (near:Int)]] false)) (bg:q+9<=pg/\pg<h.next/\pg≠l) :
  ∃ v h',Zb 352 [.c (.yield l),.c (.ptr pg 0),.c (.ptr pn 0)] h v h'/\TAb n q a b c e cr md S T (Zkt b e V D g k t x y w) pD l p4 p5 (2+e+k * b+t) ts d h h':=by
 obtain⟨g1,g2,g3,g4,g5,g6,g7,g8,g9,g10,g11⟩:=Z5 f
 have cW:=fun h=>Z3f Hh (Z5 f) h near nl
 have hz:=Ztd (a:=a) (b:=b) (c:=c) (e:=e) (near:=near)
 have fl:=Z10 (near:=near) f
 have km:=Nat.mod_lt (Sn a b c e near+j) (show 0<a by omega)
 rw[hk] at km
 obtain⟨kd,hkd⟩:=xzE ((O8 a b c e near).1)
 obtain⟨od,hod⟩:=xzE ((O8 a b c e near).2.2)
 have hfi:(O8 a b c e near).2.1=Sn a b c e near:=rfl
 obtain⟨fi,hf⟩:=xzE (Sn a b c e near)
 simp only[hkd,hod,hfi,hf] at cW hz fu hk fl
 have last:∀ {Q:X->Lq->Zv->Hq->Prop} (ts2:Zv) (h2:Hq),GSb n q a b c e cr md S T V D l p2 p4 p5 p7 pD ts d pg fi j ts2 h h2->(∀ ts3 h3,TAb n q a b c e cr md S T (Zkt b e V D g k t x y w) pD l p4 p5 (2+e+k * b+t) ts d h h3->Q .ret [] ts3 h3)->Z9 32 none (q352 [1,1,1,2]) [] ts2 h2 Q:=by
  intro Q ts2 h2 G2 hQ
  obtain⟨C2,hl2,s0,s1,s5,s18,s19,gp,bg2,nx,kp⟩:=G2
  have rm:Nr .i64 ((fi:Int)+(j:Int)) (a:Int)=some (.int .i64 (k:Int)):=by
   have:=Et (k:=.i64) (a:=fi+j) (b:=a) oM
   rw[hk] at this
   rwa [Int.natCast_add] at this
  obtain⟨E,h3,Sd,rnd,A⟩:=Z45 Hh f B km F s2 s3 C2 hl2
  have dl:decide ((j:Int)<(a:Int))=true:=decide_eq_true oM
  have Jf:=Y2 @s0 (Yp @s1 @s5 @s18 @s19 @gp @hl2 @dl @rm @rnd)
  iterate 11 (first|refine Goes.Zi Ye ?_|refine Zn Hh Za Ye ?_|apply gS)
  iterate 3 (first|refine Goes.Zi Ye ?_|refine Zn Hh Sd Ye ?_|apply gS)
  refine hQ _ _ ⟨A.M,by have:=A.next; omega,A.hl,A.r4,A.r5,fun m hm ho m1 m2 m3 m4=>(A.keep m oM ho m1 m2 m3 m4).trans (kp m hm ho.1.1 ho.1.2.1 m1)⟩
 by_cases k0:kd=0
 ·obtain rfl:fi=0:=hz k0
  have e0:((kd:Int) == 0)=true:=Q9 oM
  refine Ym Hh Tryz.f352 ?_
  apply Z6
  iterate 9 (first|((first|apply Goes.Zi|apply gO fits Hh (Y3 Za cW)); · simp (maxSteps:=9^6) +decide (disch:=first|exact dZ|fail) only [go_sem,Zm,Zh,simprocAttr,hg,hn,e0,Jw,read1]<;>rfl)|apply gS)
  refine Z1e Hh f B (Nat.le_of_lt ja) j 0 _ _ oM (fun i' _ h2=>fu i' h2) (h:=h) ⟨C,hl,?_,?_,?_,?_,?_,hg,bg,Nat.le_refl _,fun _ _ _ _ _=>rfl⟩ (fun ts2 h2 G2=>last ts2 h2 G2 (fun ts3 h3 A=>?_)) fl
  ·exact Zd
  ·exact Zd
  ·exact Zd
  ·exact Zd
  ·exact Zd
  exact⟨_,_,Zd,A⟩
 ·have e0:((kd:Int) == 0)=false:=Db oM
  refine Ym Hh Tryz.f352 ?_
  apply Z6
  iterate 9 (first|((first|apply Goes.Zi|apply gO fits Hh (Y3 Za cW)); · simp (maxSteps:=9^6) +decide (disch:=first|exact dZ|fail) only [go_sem,Zm,Zh,simprocAttr,hg,hn,e0,Jw,read1]<;>rfl)|apply gS)
  refine Z1e Hh f B (Nat.le_of_lt ja) j 0 _ _ oM (fun i' _ h2=>fu i' h2) (h:=h) ⟨C,hl,?_,?_,?_,?_,?_,hg,bg,Nat.le_refl _,fun _ _ _ _ _=>rfl⟩ (fun ts2 h2 G2=>last ts2 h2 G2 (fun ts3 h3 A=>?_)) fl
  ·exact Zd
  ·exact Zd
  ·exact Zd
  ·exact Zd
  ·exact Zd
  exact⟨_,_,Zd,A⟩
end
section
variable (Hh:Hearts K Tryz.prog)
include Hh
variable {n q a b c e:Nat} {cr:Cr} [Opn cr] {md:Int} {S T:Lq} {V:Nat->Lq} {D:List Gc} {g:Nat->Nat->Bool} {p2 p4 p5 p7 pD pg pn:Nat} {ts:Zv} {h:Hq}
theorem Z5e (f:Yu a b c e=true) (B:Bmp a b c e V D g) {near:Nat} (nl:near<9223372036854775808) {j k t x y w:Nat} (ja:j<a) (fu:∀ i,i<j->Zkv b c (g ((Sn a b c e near+i) % a))) (hk:(Sn a b c e near+j) % a=k) (F:FreeG b c D g k t x y w) (s2:1∈S/\1 ∉ T) (s3:2+e+k * b∈S/\2+e+k * b ∉ T)
  (C:∀ h2 l,h.next<l->l<h2.next->(∀ m,m<h.next->h2.get m=h.get m)->TCb n q a b c e cr md S T V D l p2 p4 p5 p7 pD ts h2) (nh:q+9<=h.next) (nq:n+23<=q) (l4:p4<h.next) (l5:p5<h.next) (lD:pD<h.next)
  (hg:h.get pg=some (.row 4 [[.int .i64 (a:Int),.int .i64 (b:Int),.int .i64 (c:Int),.int .i64 (e:Int)]] false)) (hn:h.get pn=some (.row 1 [[.int .i64 (near:Int)]] false)) (lg:q+9<=pg/\pg<h.next) (ln:pn<h.next) (e32:Zg ts 32=.w (.c (.fn 352 [] [some (pg,0),some (pn,0)]))) :
  Z9 75 none (q270 [1,1,1,1,0,1,2]) [] ts h fun x' ds' ts' h'=>x'=.ret/\ts'=ts/\ds'=[h.next]/\h'.get h.next=some .defers/\h'.get p4=some (.row 1 [[.int .i64 ((2+e+k * b+t:Nat):Int)]] false)/\h'.get p5=some (.row 1 [[.int .i64 0]] false)/\HE n q a b c e cr md S T (Zkt b e V D g k t x y w) h'/\h.next<=h'.next/\∀ m,m<h.next->Out n q m->m≠pD->m≠p4->m≠p5->h'.get m=h.get m:=by
 have g0:∀ (o:O) m,m<h.next->((h.new .defers).new o).get m=h.get m:=fun o m hm=>by rw[Yf (by rw[H.Ze]; omega),Yf oM]
 have gd:∀ o:O,((h.new .defers).new o).get h.next=some .defers:=fun o=>by rw[Yf (by rw[H.Ze]; omega),O6]
 have T1:=C ((h.new .defers).new (lpB ts h.next)) (h.next+1) oM (by simp only[H.Ze]; omega) (fun m hm=>g0 _ m hm)
 rw[Zn8]
 refine Goes.Ze4 fits Hh (f:=352) (first:=[]) (caps:=[some (pg,0),some (pn,0)]) (by simp only[Z4,Ya,e32,asC]) (exE (Z43 Hh f B nl ja fu hk F s2 s3 T1 (by rw[Oe (by simp only[H.Ze]; omega)]; rfl) ((g0 _ _ lg.2).trans hg) ((g0 _ _ ln).trans hn) ⟨lg.1,by simp only[H.Ze]; omega,oM⟩) ?_)
 rintro v h3 A
 have an:=A.next
 simp only[H.Ze] at an
 refine⟨_,_,_,_,_,_,_,_,A.hl,by simp,?_⟩
 show _/\_/\_
 refine⟨rfl,rfl,rfl,?_,?_,?_,A.M.keep (by rw[H.Zf]; omega) (fun m hm=>by rw[Zc oM]),by rw[H.Zf]; omega,fun m hm ho m1 m2 m3=>?_⟩
 ·rw[Zc oM,A.keep _ (by simp only[H.Ze]; omega) ⟨⟨oM,oM,oM,oM,oM⟩,oM⟩ oM oM oM oM,gd]
 ·rw[Zc oM,A.r4]
 ·rw[Zc oM,A.r5]
 ·rw[Zc oM,A.keep m (by simp only[H.Ze]; omega) ho oM m1 m2 m3,g0 _ _ hm]
theorem Z88 (f:Yu a b c e=true) (M:HE n q a b c e cr md S T V h) (B:Bmp a b c e V D g) {near:Nat} (nl:near<9223372036854775808) {j k t x y w:Nat} (ja:j<a) (fu:∀ i,i<j->Zkv b c (g ((Sn a b c e near+i) % a))) (hk:(Sn a b c e near+j) % a=k) (F:FreeG b c D g k t x y w) (s2:1∈S/\1 ∉ T) (s3:2+e+k * b∈S/\2+e+k * b ∉ T) :
  ∃ h',Zb 270 [.c (.ptr (n+13) 0),.c (.int .i64 (near:Int))] h (.tup [.c (.int .i64 ((2+e+k * b+t:Nat):Int)),.c (.int .i64 0)]) h'/\HE n q a b c e cr md S T (Zkt b e V D g k t x y w) h'/\Kp n q h h':=by
 obtain⟨nq,nx,_⟩:=M.nxO
 obtain⟨_,⟨kn0,hs⟩,⟨dk0,gl⟩,ht⟩:=M.cells
 unfold gdL gdD at gl
 refine Ow ?_
 refine Ym Hh Tryz.f270 ?_
 have Jf:=J4 @f @hs @gl @ht
 iterate 10 (first|refine Goes.Zi Mw ?_|refine Zn Hh (EY Za (Zy3 Hh)) Mw ?_|apply gS)
 refine Jq fun hA eA=>?_
 have nA:hA.next=h.next+1+1+1:=nxQ eA
 have kA:∀ m,m<h.next->hA.get m=h.get m:=kQ eA
 have a2:hA.get h.next=some (.row 1 [[.ptr (n+13) 0]] false):=by rw[eA]; exact Zd
 have a4:hA.get (h.next+1)=some (.row 1 [[.int .i64 0]] false):=by rw[eA]; exact Zd
 have a5:hA.get (h.next+1+1)=some (.row 1 [[.int .i64 0]] false):=by rw[eA]; exact Zd
 clear eA
 have MA:=M.keep (h2:=hA) oM (fun m hm=>kA m oM)
 obtain⟨hB,pD,k6,MB,kB',pD1,pD2,cD⟩:=Z42 Hh f MA B.des
 have kB:=kB'.2
 obtain⟨_,⟨knB,hsB⟩,⟨dkB,glB⟩,_⟩:=MB.cells
 unfold gdL gdD at glB
 have b2:=(kB h.next oM oM).trans a2
 have b4:=(kB (h.next+1) oM oM).trans a4
 have b5:=(kB (h.next+1+1) oM oM).trans a5
 have Jf:=Gq Jf @a2 @hsB @glB @b2
 iterate 8 (first|refine Goes.Zi Mw ?_|refine Zn Hh (Zj Za k6) Mw ?_|apply gS)
 iterate 2 (first|refine Zn Hh (EY (EY Za (J3 Hh)) (Zrs Hh)) Mw ?_|apply gS)
 refine Jq fun hC eC=>?_
 have nC:hC.next=hB.next+1+1+1:=nxQ eC
 have kC:∀ m,m<hB.next->hC.get m=hB.get m:=kQ eC
 have c7:hC.get hB.next=some (.row 1 [[.slice pD 0 a 3]] false):=by rw[eC]; exact Zd
 have cg:hC.get (hB.next+1)=some (.row 4 [[.int .i64 (a:Int),.int .i64 (b:Int),.int .i64 (c:Int),.int .i64 (e:Int)]] false):=by rw[eC]; exact Zd
 have cn:hC.get (hB.next+1+1)=some (.row 1 [[.int .i64 (near:Int)]] false):=by rw[eC]; exact Zd
 clear eC
 have nB:=MB.nx.2.1
 have MC:=MB.keep (h2:=hC) oM (fun m hm=>kC m oM)
 refine (Z5e Hh (h:=hC) (n:=n) (cr:=cr) (md:=md) (S:=S) (T:=T) f B nl ja fu hk F s2 s3 (p2:=h.next) (p4:=h.next+1) (p5:=h.next+1+1) (p7:=hB.next) (pD:=pD) (pg:=hB.next+1) (pn:=hB.next+1+1) ?_ oM nq oM oM oM cg cn ⟨oM,oM⟩ oM ?_).mono ?_
 ·intro h2 l l1 l2 k2
  refine⟨MC.keep oM (fun m hm=>k2 m oM),?_,?_,?_,?_,(k2 _ oM).trans ((kC _ oM).trans b2),(k2 _ oM).trans ((kC _ oM).trans b4),(k2 _ oM).trans ((kC _ oM).trans b5),(k2 _ oM).trans c7,(k2 _ oM).trans ((kC _ oM).trans cD),?_,?_,?_,?_,?_,?_,?_,?_,?_⟩
  all_goals (first|omega|(simp (decide:=true) only [Zo,reduceIte]))
 ·exact tY
 rintro x ds' ts' h' ⟨rfl,rfl,rfl,gd',r4,r5,MM,nn,kk⟩
 refine⟨_,_,(by have Jf:=Jh @gd' @r4 @r5; exact Ye),rfl,MM.keep ?_ (fun m hm=>?_),?_,fun m hm ho=>?_⟩
 ·simp only[H.Zf,H.Ze,H.Yv]<;>omega
 ·exact Yn
 ·simp only[H.Zf,H.Ze,H.Yv]<;>omega
 ·refine Eq.trans ?_ ((kk m oM ho oM oM oM).trans ((kC m oM).trans ((kB m oM ho.1.1).trans (kA m hm)))); exact Yn
end
def fF (b c:Nat):Nat:=b - 2 - c / 4
def Fs (b c e m:Nat):Nat:=2+e+m / fF b c * b+(2+c / 4+m % fF b c)
def gG (b c m k j:Nat):Bool:=decide (j<2+c / 4+min (fF b c) (m - k * fF b c)) || decide (b<=j)
def DG (a b c:Nat) (iw:Nat->Nat × Nat) (m:Nat):List Gc:=(List.range a).map fun k=>(fF b c - min (fF b c) (m - k * fF b c),iw k)
def AlG (a b c e:Nat) (iw:Nat->Nat × Nat) (V:Nat->Lq) (m:Nat):Prop:=Bmp a b c e V (DG a b c iw m) (gG b c m)
def mtG (a b e z:Nat):Prop:=z=1\/∃ k,k<a/\z=2+e+k * b
def nkG (a b c e near:Nat):Prop:=near<9223372036854775808/\Sn a b c e near=0
def Zbm (c:Nat) (iw:Nat->Nat × Nat):Prop:=∀ k,(iw k).2+(iw k).1<=c
section
variable {a b c e:Nat} {iw:Nat->Nat × Nat} {V:Nat->Lq} {m:Nat}
theorem Zfp {k:Nat} (ka:k<a):(DG a b c iw m)[k]? = some (fF b c - min (fF b c) (m - k * fF b c),iw k):=by
 unfold DG
 rw[List.getElem?_map,List.getElem?_range ka]
 rfl
theorem Ry:(DG a b c iw m).length=a:=by unfold DG; rw[List.length_map,List.length_range]
theorem Zmq (h:Zbm c iw):(DG a b c iw m).all (Zbn (b - 2 - c / 4) c)=true:=by
 unfold DG
 rw[List.all_map]
 refine List.all_eq_true.2 fun k _=>?_
 have:=h k
 show Zbn (b - 2 - c / 4) c (fF b c - min (fF b c) (m - k * fF b c),iw k)=true
 simp only[Zbn]
 rw[Qs (by unfold fF; omega),Qs oM,Qs this]
 rfl
theorem Zk7 (f:Yu a b c e=true) {D:List Gc} (Dl:D.length=a) (Dm:D.all (Zbn (b - 2 - c / 4) c)=true):goodD (Zeg D) a b c=true/\Dn (Zeg D) a 0=D:=by
 obtain⟨_,h1,h2⟩:=Zxn f Dl Dm
 unfold Zxm at h1 h2
 rw[Gr] at h1 h2
 rw[Ru] at h1
 rw[Nw] at h2
 exact⟨h1,h2⟩
theorem Z6r {k m F:Nat} (h:m / F=k) (hF:0<F):k * F<=m/\m<k * F+F/\m - k * F=m % F:=by
 have:=Nat.div_add_mod m F
 have h2:=Nat.mod_lt m hF
 rw[h,Nat.mul_comm] at this
 omega
theorem Sk {k k' F:Nat} (h:k<k'):k * F+F<=k' * F:=by
 have:=Nat.mul_le_mul_right F (Nat.succ_le_of_lt h)
 rwa [Nat.succ_mul] at this
theorem Z50 {k:Nat} (hF:0<fF b c) (hk:m / fF b c=k):Tg (gG b c m k) (2+c / 4+m % fF b c)=gG b c (m+1) k:=by
 obtain⟨h1,h2,h3⟩:=Z6r hk hF
 have h4:=Nat.mod_lt m hF
 have h5:m+1 - k * fF b c=m % fF b c+1:=oM
 funext j
 unfold Tg gG
 rw[h3,h5,Bool.eq_iff_iff]
 simp only[Bool.or_eq_true,decide_eq_true_eq]
 omega
theorem Z07 {k k':Nat} (hF:0<fF b c) (hk:m / fF b c=k) (ne:k'≠k):gG b c (m+1) k'=gG b c m k'/\min (fF b c) (m+1 - k' * fF b c)=min (fF b c) (m - k' * fF b c):=by
 obtain⟨h1,h2,h3⟩:=Z6r hk hF
 have e:min (fF b c) (m+1 - k' * fF b c)=min (fF b c) (m - k' * fF b c):=by
  rcases Nat.lt_or_gt_of_ne ne with q|q
  ·have:=Sk (F:=fF b c) q; omega
  ·have:=Sk (F:=fF b c) q; omega
 refine⟨?_,e⟩
 funext j
 unfold gG
 rw[e]
theorem Z8y {k:Nat} (hF:0<fF b c) (hk:m / fF b c=k) (ka:k<a):(DG a b c iw m).set k (fF b c - m % fF b c - 1,iw k)=DG a b c iw (m+1):=by
 obtain⟨h1,h2,h3⟩:=Z6r hk hF
 have h4:=Nat.mod_lt m hF
 apply List.ext_getElem?
 intro i
 rcases Nat.lt_or_ge i a with q|q
 ·by_cases e:i=k
  ·subst e
   rw[List.getElem?_set_self (by rw[Ry]; exact q),Zfp q]
   congr 2
   omega
  ·rw[List.getElem?_set_ne (Ne.symm e),Zfp q,Zfp q,(Z07 hF hk e).2]
 ·rw[lN (by rw[List.length_set,Ry]; exact q),lN (by rw[Ry]; exact q)]
theorem AlG.step (f:Yu a b c e=true) (io:Zbm c iw) (A:AlG a b c e iw V m) (hF:0<fF b c) {k:Nat} (hk:m / fF b c=k) (ka:k<a):AlG a b c e iw (Zkt b e V (DG a b c iw m) (gG b c m) k (2+c / 4+m % fF b c) (fF b c - m % fF b c) (iw k).1 (iw k).2) (m+1):=by
 obtain⟨g1,g2,g3,g4,g5,g6,g7,g8,g9,g10,g11⟩:=Z5 f
 obtain⟨gd,td⟩:=Zk7 f (D:=DG a b c iw (m+1)) Ry (Zmq io)
 unfold Zkt
 have es:(DG a b c iw m).set k (fF b c - m % fF b c - 1,(iw k).1,(iw k).2)=DG a b c iw (m+1):=Z8y hF hk ka
 rw[es,Z50 hF hk]
 refine⟨fun k' hk'=>?_,⟨by rw[Bg]; exact gd,by rw[Bg]; exact td,Ry⟩,Zmq io⟩
 rw[Jo oM]
 by_cases e:k'=k
 ·subst e
  rw[Bg]
 ·rw[Jo (fun w=>by
   rcases Nat.lt_or_gt_of_ne e with q|q
   ·have:=Sk (F:=b) q; omega
   ·have:=Sk (F:=b) q; omega),(Z07 hF hk e).1]
  exact A.bm k' hk'
theorem Znh (f:Yu a b c e=true):0<fF b c/\2+c / 4+fF b c=b:=by
 obtain⟨g1,g2,g3,g4,g5,g6,g7,g8,g9,g10,g11⟩:=Z5 f
 unfold fF
 omega
theorem Zgm (f:Yu a b c e=true) (h:m<a * fF b c):m / fF b c<a/\Fs b c e m<2+e+a * b/\2+e<=Fs b c e m:=by
 obtain⟨p1,p2⟩:=Znh f
 have ka:m / fF b c<a:=Nat.div_lt_of_lt_mul (by rw[Nat.mul_comm]; exact h)
 have:=Nat.mod_lt m p1
 have st:=Dc (b:=b) ka
 refine⟨ka,?_,?_⟩
 ·unfold Fs; omega
 ·unfold Fs; omega
theorem Vt (f:Yu a b c e=true) {k r:Nat} (hr:r<2+c / 4):Fs b c e m≠2+e+k * b+r:=fun w=>by
 obtain⟨p1,p2⟩:=Znh f
 have:=Nat.mod_lt m p1
 unfold Fs at w
 rcases Nat.lt_trichotomy (m / fF b c) k with q|q|q
 ·have:=Sk (F:=b) q; omega
 ·rw[q] at w; omega
 ·have:=Sk (F:=b) q; omega
theorem Z0g (f:Yu a b c e=true) (i:Nat):Y0 b c e i≠Fs b c e m:=fun w=>by
 obtain⟨g1,g2,g3,g4,g5,g6,g7,g8,g9,g10,g11⟩:=Z5 f
 have tc:i % c<c:=Nat.mod_lt _ oM
 refine Vt (m:=m) f (k:=i / c) (r:=2+i % c / 4) oM ?_
 rw[<-w]
 unfold Y0
 omega
theorem Zcp (f:Yu a b c e=true) {m':Nat} (h:Fs b c e m=Fs b c e m'):m=m':=by
 obtain⟨p1,p2⟩:=Znh f
 have h1:=Nat.mod_lt m p1
 have h2:=Nat.mod_lt m' p1
 have d1:=Nat.div_add_mod m (fF b c)
 have d2:=Nat.div_add_mod m' (fF b c)
 unfold Fs at h
 rcases Nat.lt_trichotomy (m / fF b c) (m' / fF b c) with q|q|q
 ·have:=Sk (F:=b) q; omega
 ·rw[q] at h d1
  omega
 ·have:=Sk (F:=b) q; omega
theorem Z6q (f:Yu a b c e=true) (i:Nat):¬ mtG a b e (Y0 b c e i):=fun w=>by
 obtain⟨g1,g2,g3,g4,g5,g6,g7,g8,g9,g10,g11⟩:=Z5 f
 have tc:i % c<c:=Nat.mod_lt _ oM
 rcases w with w|⟨k,ka,w⟩
 ·unfold Y0 at w; omega
 ·unfold Y0 at w
  rcases Nat.lt_trichotomy (i / c) k with q|q|q
  ·have:=Sk (F:=b) q; omega
  ·rw[q] at w; omega
  ·have:=Sk (F:=b) q; omega
theorem Z6u (f:Yu a b c e=true) {i:Nat} (hi:i<c):nkG a b c e (Y0 b c e i):=by
 obtain⟨g1,g2,g3,g4,g5,g6,g7,g8,g9,g10,g11⟩:=Z5 f
 have d0:i / c=0:=Nat.div_eq_of_lt hi
 have m0:i % c=i:=Nat.mod_eq_of_lt hi
 have st:=Dc (b:=b) (show 0<a by omega)
 have ic:i / 4<c / 4:=oM
 have eb:Y0 b c e i=2+e+(2+i / 4):=by unfold Y0; rw[d0,m0]; omega
 refine⟨by rw[eb]; omega,?_⟩
 rw[eb]
 unfold Sn O8
 rw[if_neg oM,if_neg oM,if_neg oM,if_neg oM]
 show (2+e+(2+i / 4) - 2 - e) / b=0
 exact Nat.div_eq_of_lt oM
section
variable (Hh:Hearts K Tryz.prog)
include Hh
variable {n q:Nat} {cr:Cr} [Opn cr] {md:Int} {S:Lq} {cap:Nat} {h:Hq} {T:Lq}
theorem Ybk (f:Yu a b c e=true) (io:Zbm c iw) (cF:cap<=a * fF b c) (s1:1∈S) (s2:∀ m,m<cap->Fs b c e m∈S/\2+e+m / fF b c * b∈S):AlcW n q a b c e cr md S (AlG a b c e iw) (Fs b c e) cap (mtG a b e) (nkG a b c e):=by
 obtain⟨p1,p2⟩:=Znh f
 have FF:=Z5 f
 refine⟨⟨fun {V h T m near} M A mc nr hT=>?_,fun {V m z x} A hz=>?_,fun m mc=>?_,fun m m' _ _ e=>Zcp f e⟩,fun m mc=>(s2 m mc).1⟩
 ·obtain⟨ka,b1,b2⟩:=Zgm f (show m<a * fF b c by omega)
  obtain⟨k,hk⟩:=xzE (m / fF b c)
  obtain⟨h1,h2,h3⟩:=Z6r hk p1
  have h4:=Nat.mod_lt m p1
  have sk:=(s2 m mc).2
  rw[hk] at ka sk
  have F:FreeG b c (DG a b c iw m) (gG b c m) k (2+c / 4+m % fF b c) (fF b c - m % fF b c) (iw k).1 (iw k).2:=by
   refine⟨oM,oM,fun j h1 h2=>?_,?_,?_,oM⟩
   ·unfold gG
    rw[h3,decide_eq_true oM]
    rfl
   ·unfold gG
    rw[h3,decide_eq_false oM,decide_eq_false oM]
    rfl
   ·rw[Zfp ka,h3]
    congr 2
    omega
  obtain⟨h',c',M',k'⟩:=Z88 Hh f M A (near:=near) nr.1 (j:=k) (k:=k) ka (fun i hi=>by
   rw[nr.2,Nat.zero_add,Nat.mod_eq_of_lt oM]
   intro j q1 q2
   have:=Sk (F:=fF b c) hi
   unfold gG
   rw[decide_eq_true oM]
   rfl) (by rw[nr.2,Nat.zero_add,Nat.mod_eq_of_lt ka]) F ⟨s1,hT 1 (.inl rfl)⟩ ⟨sk,hT _ (.inr ⟨k,ka,rfl⟩)⟩
  refine⟨h',_,?_,M',k',A.step f io p1 hk ka,fun z hz=>?_⟩
  ·have e1:2+e+k * b+(2+c / 4+m % fF b c)=Fs b c e m:=by unfold Fs; rw[hk]
   rw[e1] at c'
   exact c'
  ·unfold Zkt
   rw[Jo (fun w=>hz (.inl w)),Jo (fun w=>hz (.inr ⟨k,ka,w⟩))]
 ·obtain⟨bm,⟨d1,d2,d3⟩,my⟩:=A
  refine⟨fun k hk=>?_,⟨?_,?_,d3⟩,my⟩
  ·rw[Jo (fun w=>hz (.inr ⟨k,hk,w.symm⟩))]; exact bm k hk
  ·rw[Jo (fun w=>hz (.inl w.symm))]; exact d1
  ·rw[Jo (fun w=>hz (.inl w.symm))]; exact d2
 ·obtain⟨ka,b1,b2⟩:=Zgm f (show m<a * fF b c by omega)
  refine⟨Df FF b2 b1,b1,oM,fun w=>?_⟩
  rcases w with w|⟨k,_,w⟩
  ·omega
  ·exact Vt (m:=m) f (k:=k) (r:=0) oM w
end
def iw0 (c k:Nat):Nat × Nat:=if k=0 then (c - 1,1) else (c,0)
theorem Z1o (hc:1<=c):Zbm c (iw0 c):=fun k=>by
 unfold iw0
 split
 ·show 1+(c - 1)<=c; omega
 ·show 0+c<=c; omega
end
end
end Go.Proofs.YtmanipmhebgdbaaGreatDoor
