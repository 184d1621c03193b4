/- blocks.Take: the groups, one behind the other. -/
import Derived.Test.YtecakmodlkbnaaaGreatDoorBtk
import Derived.Test.YtecakmodlkbnaaaGreatDoorWhat3
set_option linter.unusedSimpArgs false
set_option linter.unusedVariables false
set_option linter.unusedSectionVars false
set_option maxRecDepth 100000
set_option maxHeartbeats 4000000
namespace Go.Proofs.YtecakmodlkbnaaaGreatDoor
open Go.Ev
noncomputable def q186 (p:List Nat):Code:=piece p (Uh Tryz.f186)
theorem Zcf:q186 [1,1,1,1,0,1,2]=.rangeFunc (.tmp 32) #[33] (q186 [1,1,1,1,0,1,2,5]) (q186 [1,1,1,1,0,1,2,6]):=by kernel_rfl
theorem Za4:q186 [1,1,1,1,0,1,2,5]=.region 8 (Zy1 (q186 [1,1,1,1,0,1,2,5])) false:=by kernel_rfl
theorem Zbb:q186 [1,1,1,1,0,1,2,6]=.block 1 (q186 [1,1,1,1,0,1,2,6,2]):=by kernel_rfl
noncomputable def q261 (p:List Nat):Code:=piece p (Uh Tryz.f261)
theorem rs186:Tryz.f186.results.toList=[.cell 4 3,.cell 5 33]:=rfl
theorem rs261:Tryz.f261.results.toList=[]:=rfl
attribute [go_sem] rs186 rs261
theorem rd1 (c:C):read1 1 [[c]] 0=some c:=rfl
structure Bmp (a b c e:Nat) (V:Nat→List Nat) (D:List Oy) (g:Nat→Nat→Bool):Prop where
 bm:∀ k,k<a→V (2+e+k * b)=Wp (g k)
 des:Des V a b c D
 may:D.all (Xy (b - 2 - c / 4) c)=true
def Zcd (b c:Nat) (g:Nat→Bool):Prop:=∀ j,2+c / 4≤j→j<b→g j=true
structure FreeG (b c:Nat) (D:List Oy) (g:Nat→Nat→Bool) (k t x y w:Nat):Prop where
 t0:2+c / 4≤t
 tb:t<b
 low:∀ j,2+c / 4≤j→j<t→g k j=true
 gt:g k t=false
 hk:D[k]? = some (x,y,w)
 x1:1≤x
def Zji (b e:Nat) (V:Nat→List Nat) (D:List Oy) (g:Nat→Nat→Bool) (k t x y w:Nat):Nat→List Nat:=O9 (O9 V (2+e+k * b) (Wp (Mq (g k) t))) 1 (Zbr (D.set k (x - 1,y,w)))
structure TCb (n q a b c e:Nat) (cr:Cr) (md:Int) (S T:List Nat) (V:Nat→List Nat) (D:List Oy) (l p2 p4 p5 p7 pD:Nat) (ts:Zx) (h:Go.Ev.H):Prop where
 M:HE n q a b c e cr md S T V h
 e2:Zh ts 2=.w (.c (.ptr p2 0))
 e4:Zh ts 4=.w (.c (.ptr p4 0))
 e5:Zh ts 5=.w (.c (.ptr p5 0))
 e7:Zh ts 7=.w (.c (.ptr p7 0))
 c2:h.get p2=some (.row 1 [[.ptr (n+13) 0]] false)
 c4:h.get p4=some (.row 1 [[.int .i64 0]] false)
 c5:h.get p5=some (.row 1 [[.int .i64 0]] false)
 c7:h.get p7=some (.row 1 [[.slice pD 0 a 3]] false)
 cD:h.get pD=some (.row 3 (D.map Uj) false)
 b2:q+9≤p2∧p2<h.next
 b4:q+9≤p4∧p4<h.next
 b5:q+9≤p5∧p5<h.next
 b7:q+9≤p7∧p7<h.next
 bD:q+9≤pD∧pD<h.next
 bl:q+9≤l∧l<h.next
 n1:p2≠pD∧p4≠pD∧p5≠pD∧p7≠pD∧l≠pD
 n2:p4≠p5∧p2≠p4∧p2≠p5∧p7≠p4∧p7≠p5
 n3:l≠p2∧l≠p4∧l≠p5∧l≠p7
theorem TCb.keep {n q a b c e:Nat} {cr:Cr} {md:Int} {S T:List Nat} {V:Nat→List Nat} {D:List Oy} {l p2 p4 p5 p7 pD:Nat} {ts:Zx} {h h2:Go.Ev.H} (C:TCb n q a b c e cr md S T V D l p2 p4 p5 p7 pD ts h) (M2:HE n q a b c e cr md S T V h2) (nx:h.next≤h2.next) (k:∀ m,m<h.next→q+9≤m→m≠l→h2.get m=h.get m):TCb n q a b c e cr md S T V D l p2 p4 p5 p7 pD ts h2:=by
 obtain⟨M,e2,e4,e5,e7,c2,c4,c5,c7,cD,b2,b4,b5,b7,bD,bl,n1,n2,n3⟩:=C
 exact⟨M2,e2,e4,e5,e7,(k _ b2.2 b2.1 (Ne.symm n3.1)).trans c2,(k _ b4.2 b4.1 (Ne.symm n3.2.1)).trans c4,(k _ b5.2 b5.1 (Ne.symm n3.2.2.1)).trans c5,(k _ b7.2 b7.1 (Ne.symm n3.2.2.2)).trans c7,(k _ bD.2 bD.1 (Ne.symm n1.2.2.2.2)).trans cD,⟨b2.1,by omega⟩,⟨b4.1,by omega⟩,⟨b5.1,by omega⟩,⟨b7.1,by omega⟩,⟨bD.1,by omega⟩,⟨bl.1,by omega⟩,n1,n2,n3⟩
section
variable (Hh:Hearts K Tryz.prog)
include Hh
variable {n q a b c e:Nat} {cr:Cr} {md:Int} {S T:List Nat} {V:Nat→List Nat} {D:List Oy} {g:Nat→Nat→Bool} {l p2 p4 p5 p7 pD d:Nat} {ts:Zx} {h:Go.Ev.H}
theorem btA (l:Nat) (ts:Zx) (k:Nat) (h:Go.Ev.H):Ye 75 (some l) (q186 [1,1,1,1,0,1,2,5]) [] (ts.set 33 (.w (.c (.int .i64 (k:Int))))) h fun x ds' ts' h'=>x=.normal∧ds'=[]∧(∀ s,s≤8→Zh ts' s=Zh ts s)∧Zh ts' 9=.w (.c (.int .i64 (k:Int)))∧h'=h:=by
 refine Zq Hh Za Zc ?_
 refine⟨rfl,rfl,fun s hs=>?_,?_,rfl⟩
 ·simp (decide:=true) only [Yz hs]
 ·exact Zc
theorem Z9l (f:Ym a b c e=true) (B:Bmp a b c e V D g) {k:Nat} (ka:k<a) (fu:Zcd b c (g k)) (C:TCb n q a b c e cr md S T V D l p2 p4 p5 p7 pD ts h) (e9:Zh ts 9=.w (.c (.int .i64 (k:Int)))) :
  Ye 75 (some l) (q186 [1,1,1,1,0,1,2,6]) [] ts h fun x _ _ h'=>x=.normal∧h.next≤h'.next∧HE n q a b c e cr md S T V h'∧∀ m,m<h.next→m≠n+6→m≠n+13→h'.get m=h.get m:=by
 obtain⟨M,e2,e4,e5,e7,c2,c4,c5,c7,cD,b2,b4,b5,b7,bD,bl,n1,n2,n3⟩:=C
 obtain⟨g1,g2,g3,g4,g5,g6,g7,g8,g9,g10,g11⟩:=Zv f
 have st:=Jp (b:=b) ka
 have bm:=B.bm k ka
 obtain⟨nq,nx,n0⟩:=M.nx
 obtain⟨zb,hb⟩:∃ z,2+e+k * b=z:=⟨_,rfl⟩
 rw[hb] at bm
 have zbl:zb<2+e+a * b:=by omega
 have ob:=Dx (z:=zb) (Zv f) (by omega) zbl
 have bl1:(Jd (g k)).length=256:=Uu _
 have hGE:=fun {h:Go.Ev.H} (M:HE n q a b c e cr md S T V h)=>M.get f ob zbl
 simp only[bm,←Zby] at hGE
 have hFr:=fun {h:Go.Ev.H} (M:HE n q a b c e cr md S T V h)=>Zy6 Hh f M (g:=g k) (t:=b) fu (by omega) (Nat.le_refl _) (fun w=>absurd w (by omega)) (s:=zb) (by omega)
 simp only[if_neg (Nat.lt_irrefl b)] at hFr
 obtain⟨B',hB⟩:∃ B',Jd (g k)=B':=⟨_,rfl⟩
 rw[hB] at bl1
 simp only[hB] at hGE hFr
 obtain⟨_,⟨kn0,hs0⟩,⟨dk0,gl0⟩,_⟩:=M.cells
 unfold gdL gdD at gl0
 have Jf:=Jb @f @hs0 (Yu @gl0 @e2 @e4 @e5 @e7 @e9 @c2 @hb @bl1)
 iterate 4 (first|apply Zk|apply Yt|refine Zq Hh (EY (EY Za (Jh Hh)) (Dy Hh)) Ov ?_)
 obtain⟨hZ,e1,MZ,nZ,rZ⟩:=hGE M
 have k1:=Dq Hh e1
 iterate 7 (first|apply Zk|apply Zw|refine Goes.Zi Ov ?_|refine Zq Hh (Zp Za k1) Ov ?_)
 refine Uc fun hA eA=>?_
 have nA:hA.next=h.next+1:=by rw[eA]; simp only[H.Zd,H.Zb,nZ]
 have kA:∀ m,m<h.next→m≠n+6→hA.get m=h.get m:=fun m hm hne=>by rw[eA]; refine Eq.trans ?_ (rZ m hm hne); exact Yc
 have bA:hA.get h.next=some (.row 256 [B'] false):=by rw[eA,←nZ]; exact Z5
 have MA:=MZ.keep (h2:=hA) (by omega) (fun m hm=>by rw[eA]; exact Yc)
 clear eA
 have cA2:=(kA p2 (by omega) (by omega)).trans c2
 obtain⟨hC,k3,MC,nC,rC⟩:=hFr MA
 have Jf:=Uq Jf @cA2 @bA @nZ
 iterate 6 (first|apply Zk|apply Ux|refine Goes.Zi Ov ?_|refine Zq Hh (Zp Za k3) Ov ?_)
 exact⟨rfl,by omega,MC,fun m hm h6 h13=>(rC m (by omega) h13).trans (kA m hm h6)⟩
theorem Yae (f:Ym a b c e=true) (B:Bmp a b c e V D g) {k t x y w:Nat} (ka:k<a) (F:FreeG b c D g k t x y w) (s2:1∈S∧1 ∉ T) (s3:2+e+k * b∈S∧2+e+k * b ∉ T) (C:TCb n q a b c e cr md S T V D l p2 p4 p5 p7 pD ts h) (e9:Zh ts 9=.w (.c (.int .i64 (k:Int)))) :
  Ye 75 (some l) (q186 [1,1,1,1,0,1,2,6]) [] ts h fun x' _ _ h'=>x'=.ret∧h.next≤h'.next∧HE n q a b c e cr md S T (Zji b e V D g k t x y w) h'∧(∀ m,m<h.next→Out n q m→m≠pD→m≠p4→m≠p5→h'.get m=h.get m)∧h'.get p4=some (.row 1 [[.int .i64 ((2+e+k * b+t:Nat):Int)]] false)∧h'.get p5=some (.row 1 [[.int .i64 0]] false):=by
 obtain⟨M,e2,e4,e5,e7,c2,c4,c5,c7,cD,b2,b4,b5,b7,bD,bl,n1,n2,n3⟩:=C
 obtain⟨t0,tb,low,gt,hk,x1⟩:=F
 obtain⟨g1,g2,g3,g4,g5,g6,g7,g8,g9,g10,g11⟩:=Zv f
 have st:=Jp (b:=b) ka
 have bm:=B.bm k ka
 have Dl:=B.des.2.2
 obtain⟨nq,nx,n0⟩:=M.nx
 have mx:=Zak (List.all_eq_true.1 B.may _ (List.mem_of_getElem? hk))
 simp only at mx
 have Dm:(D.set k (x - 1,y,w)).all (Xy (b - 2 - c / 4) c)=true:=by
  rw[List.all_eq_true]
  intro z hz
  rcases List.mem_or_eq_of_mem_set hz with h1|h1
  ·exact List.all_eq_true.1 B.may z h1
  ·rw[h1]
   unfold Xy
   rw[Zcq (by show x - 1≤_; omega),Zcq (by show y≤_; omega),Zcq (by show w+y≤_; omega)]
   rfl
 unfold Zji
 obtain⟨D',hD'⟩:∃ D',D.set k (x - 1,y,w)=D':=⟨_,rfl⟩
 have Dl':D'.length=a:=by rw[←hD',List.length_set,Dl]
 rw[hD'] at Dm ⊢
 obtain⟨zb,hb⟩:∃ z,2+e+k * b=z:=⟨_,rfl⟩
 rw[hb] at bm s3 ⊢
 have zbl:zb<2+e+a * b:=by omega
 have ob:=Dx (z:=zb) (Zv f) (by omega) zbl
 have bl1:(Jd (g k)).length=256:=Uu _
 have ml:(Jd (Mq (g k) t)).length=256:=Uu _
 have hGE:=fun {h:Go.Ev.H} (M:HE n q a b c e cr md S T V h)=>M.get f ob zbl
 simp only[bm,←Zby] at hGE
 have hFr:=fun {h:Go.Ev.H} (M:HE n q a b c e cr md S T V h)=>Zy6 Hh f M (g:=g k) (t:=t) low t0 (by omega) (fun _=>gt) (s:=zb) (by omega)
 simp only[if_pos tb] at hFr
 have hC:=fun {h:Go.Ev.H} (M:HE n q a b c e cr md S T V h) (hp:h.get pD=some (.row 3 (D.map Uj) false)) (pl:pD<h.next)=>Zzd Hh f M ka s2 (by rw[hb]; exact s3) (Zpo (Mq (g k) t)) (F:=225) hp Dl Dl' Dm pl bD.1 (fun h2 hp2=>by
  have:=Z41 Hh hp2 hk x1 (by omega)
  rw[hD'] at this
  exact this)
 rw[hb] at hC
 simp only[←Zby] at hC
 have hr:(D.map Uj)[k]? = some [.int .i64 (x:Int),.int .i64 (y:Int),.int .i64 (w:Int)]:=by rw[List.getElem?_map,hk]; rfl
 have r0:read1 3 (D.map Uj) (k * 3)=some (.int .i64 (x:Int)):=Md (sz:=3) (j:=0) (by omega) hr
 have dx:decide ((x:Int)≤0)=false:=decide_eq_false (by omega)
 have es:(zb:Int)+(t:Int)=((zb+t:Nat):Int):=rfl
 obtain⟨B',hB⟩:∃ B',Jd (g k)=B':=⟨_,rfl⟩
 obtain⟨N',hN⟩:∃ N',Jd (Mq (g k) t)=N':=⟨_,rfl⟩
 rw[hB] at bl1
 rw[hN] at ml
 simp only[hB] at hGE hFr
 simp only[hN] at hC
 obtain⟨_,⟨kn0,hs0⟩,⟨dk0,gl0⟩,_⟩:=M.cells
 unfold gdL gdD at gl0
 obtain⟨R,hR⟩:∃ R,D.map Uj=R:=⟨_,rfl⟩
 have cD':=cD
 rw[hR] at r0 cD'
 have Jf:=Yy @f (Yu @hs0 @gl0 @e2 @e4 @e5 @e7 @e9 @c2 (Yu @hb @bl1 @ml @rd1 @r0 @dx @es @Nat.zero_add @Nat.add_zero))
 iterate 4 (first|apply Zk|apply Yt|refine Zq Hh (EY (EY Za (Jh Hh)) (Dy Hh)) Ue ?_)
 obtain⟨hZ,e1,MZ,nZ,rZ⟩:=hGE M
 have k1:=Dq Hh e1
 iterate 7 (first|apply Zk|apply Zw|refine Goes.Zi Ue ?_|refine Zq Hh (Zp Za k1) Ue ?_)
 refine Uc fun hA eA=>?_
 have nA:hA.next=h.next+1:=by rw[eA]; simp only[H.Zd,H.Zb,nZ]
 have kA:∀ m,m<h.next→m≠n+6→hA.get m=h.get m:=fun m hm hne=>by rw[eA]; refine Eq.trans ?_ (rZ m hm hne); exact Yc
 have bA:hA.get h.next=some (.row 256 [B'] false):=by rw[eA,←nZ]; exact Z5
 have MA:=MZ.keep (h2:=hA) (by omega) (fun m hm=>by rw[eA]; exact Yc)
 clear eA
 have cA2:=(kA p2 (by omega) (by omega)).trans c2
 obtain⟨hC',k3,MC,nC,rC⟩:=hFr MA
 have kC:∀ m,m<h.next→m≠n+6→m≠n+13→hC'.get m=h.get m:=fun m hm h6 h13=>(rC m (by omega) h13).trans (kA m hm h6)
 have cC2:=(kC p2 (by omega) (by omega) (by omega)).trans c2
 have cC7:=(kC p7 (by omega) (by omega) (by omega)).trans c7
 have cCD:=(kC pD (by omega) (by omega) (by omega)).trans cD'
 have bC:=(rC h.next (by omega) (by omega)).trans bA
 have Jf:=Uq Jf @cA2 @bA @nZ
 iterate 8 (first|apply Zk|apply Zw|refine Goes.Zi Ue ?_|refine Zq Hh (Zp Za k3) Ue ?_)
 have Jf:=Jb Jf @cC7 @cCD
 iterate 4 (first|apply Zk|apply Zw|refine Goes.Zi Ue ?_|refine Zq Hh Za Ue ?_)
 have bC':=bC
 rw[←hB] at bC'
 have k4:=Zuz Hh hC' h.next t (g k) (by omega) gt bC'
 rw[hN] at k4
 iterate 3 (first|apply Zk|refine Zq Hh (Zp Za k4) Ue ?_)
 refine Uc fun hD eD=>?_
 have nD:hD.next=hC'.next:=by rw[eD,H.Zd]
 have kD:∀ m,m<h.next→hD.get m=hC'.get m:=fun m hm=>by rw[eD,Ze (by omega)]
 have bD':hD.get h.next=some (.row 256 [N'] false):=by rw[eD,Zz]
 have MD:=MC.keep (h2:=hD) (by omega) (fun m hm=>kD m (by omega))
 clear eD
 have d2:=(kD p2 (by omega)).trans cC2
 have d7:=(kD p7 (by omega)).trans cC7
 have dD:=((kD pD (by omega)).trans (kC pD (by omega) (by omega) (by omega))).trans cD
 obtain⟨hE,k5,ME,nE,kE⟩:=hC MD dD (by omega)
 have q4:=(kE p4 (by omega) ⟨⟨by omega,by omega,by omega,by omega,by omega⟩,by omega⟩ (by omega)).trans ((kD p4 (by omega)).trans ((kC p4 (by omega) (by omega) (by omega)).trans c4))
 have q5:=(kE p5 (by omega) ⟨⟨by omega,by omega,by omega,by omega,by omega⟩,by omega⟩ (by omega)).trans ((kD p5 (by omega)).trans ((kC p5 (by omega) (by omega) (by omega)).trans c5))
 have Jf:=Uq Jf @d2 @d7 @bD'
 iterate 6 (first|apply Zk|apply Zw|refine Goes.Zi Ue ?_|refine Zq Hh (Zp Za k5) Ue ?_)
 have Jf:=Jb Jf @q4 @q5
 iterate 2 (first|apply Z0|refine Zq Hh Za Ue ?_)
 refine⟨rfl,?_,ME.keep ?_ (fun m hm=>?_),fun m hm ho h1 h2 h3=>?_,?_,?_⟩
 ·simp only[H.Zd]; omega
 ·simp only[H.Zd]; omega
 ·exact Yc
 ·refine Eq.trans ?_ ((kE m (by omega) ho h1).trans ((kD m hm).trans (kC m hm ho.1.1 ho.1.2.1))); exact Yc
 ·exact Zur
 ·exact Zur
end
noncomputable def lpB (ts:Zx) (d:Nat):O:=.loop ts 75 [33] (q186 [1,1,1,1,0,1,2,5]) (q186 [1,1,1,1,0,1,2,6]) .ready none d
structure GSb (n q a b c e:Nat) (cr:Cr) (md:Int) (S T:List Nat) (V:Nat→List Nat) (D:List Oy) (l p2 p4 p5 p7 pD:Nat) (ts:Zx) (d pg fi i:Nat) (ts1:Zx) (h h1:Go.Ev.H):Prop where
 C:TCb n q a b c e cr md S T V D l p2 p4 p5 p7 pD ts h1
 hl:h1.get l=some (lpB ts d)
 s0:Zh ts1 0=.w (.c (.yield l))
 s1:Zh ts1 1=.w (.c (.ptr pg 0))
 s5:Zh ts1 5=.w (.c (.int .i64 (fi:Int)))
 s18:Zh ts1 18=.w (.c (.int .i64 (a:Int)))
 s19:Zh ts1 19=.w (.c (.int .i64 (i:Int)))
 gp:h1.get pg=some (.row 4 [[.int .i64 (a:Int),.int .i64 (b:Int),.int .i64 (c:Int),.int .i64 (e:Int)]] false)
 bg:q+9≤pg∧pg<h1.next∧pg≠l
 nx:h.next≤h1.next
 kp:∀ m,m<h.next→m≠n+6→m≠n+13→m≠l→h1.get m=h.get m
structure TAb (n q a b c e:Nat) (cr:Cr) (md:Int) (S T:List Nat) (V:Nat→List Nat) (pD l p4 p5 v:Nat) (ts:Zx) (d:Nat) (h0 h:Go.Ev.H):Prop where
 M:HE n q a b c e cr md S T V h
 next:h0.next≤h.next
 hl:h.get l=some (.loop ts 75 [33] (q186 [1,1,1,1,0,1,2,5]) (q186 [1,1,1,1,0,1,2,6]) .done (some .ret) d)
 r4:h.get p4=some (.row 1 [[.int .i64 (v:Int)]] false)
 r5:h.get p5=some (.row 1 [[.int .i64 0]] false)
 keep:∀ m,m<h0.next→Out n q m→m≠l→m≠pD→m≠p4→m≠p5→h.get m=h0.get m
section
variable (Hh:Hearts K Tryz.prog)
include Hh
variable {n q a b c e:Nat} {cr:Cr} {md:Int} {S T:List Nat} {V:Nat→List Nat} {D:List Oy} {g:Nat→Nat→Bool} {l p2 p4 p5 p7 pD d pg fi:Nat} {ts:Zx} {h:Go.Ev.H}
theorem Z4l (f:Ym a b c e=true) (B:Bmp a b c e V D g) {k:Nat} (ka:k<a) (fu:Zcd b c (g k)) (C:TCb n q a b c e cr md S T V D l p2 p4 p5 p7 pD ts h) (hl:h.get l=some (lpB ts d)) :
  ∃ E h',Sound K Tryz.prog E∧Jz E l (some [.c (.int .i64 (k:Int))]) h (some (lpB ts d))=some (.val (.w (.c (.bool true))) h')∧TCb n q a b c e cr md S T V D l p2 p4 p5 p7 pD ts h'∧h'.get l=some (lpB ts d)∧h.next≤h'.next∧∀ m,m<h.next→m≠n+6→m≠n+13→m≠l→h'.get m=h.get m:=by
 unfold lpB at hl ⊢
 obtain⟨xa,ds1,ts1,h1,kA,rfl,rfl,t1,t9,rfl⟩:=btA Hh l ts k h
 have C':=C
 obtain⟨M,e2,e4,e5,e7,c2,c4,c5,c7,cD,b2,b4,b5,b7,bD,bl,n1,n2,n3⟩:=C
 obtain⟨nq,nx,_⟩:=M.nx
 have M':=M.keep (h2:=h1.put l (.loop ts 75 [33] (q186 [1,1,1,1,0,1,2,5]) (q186 [1,1,1,1,0,1,2,6]) .busy none d)) (by rw[H.Zd]; omega) (fun m hm=>by rw[Ze (by omega)])
 have Cb:TCb n q a b c e cr md S T V D l p2 p4 p5 p7 pD ts1 (h1.put l (.loop ts 75 [33] (q186 [1,1,1,1,0,1,2,5]) (q186 [1,1,1,1,0,1,2,6]) .busy none d)):=by
  refine⟨M',(t1 2 (by decide)).trans e2,(t1 4 (by decide)).trans e4,(t1 5 (by decide)).trans e5,(t1 7 (by decide)).trans e7,?_,?_,?_,?_,?_,b2,b4,b5,b7,bD,bl,n1,n2,n3⟩
  ·rw[Ze (Ne.symm n3.1)]; exact c2
  ·rw[Ze (Ne.symm n3.2.1)]; exact c4
  ·rw[Ze (Ne.symm n3.2.2.1)]; exact c5
  ·rw[Ze (Ne.symm n3.2.2.2)]; exact c7
  ·rw[Ze (Ne.symm n1.2.2.2.2)]; exact cD
 obtain⟨xb,ds2,ts2,h2,kB,rfl,nn,MB,kk⟩:=Z9l Hh f B ka fu Cb t9
 rw[H.Zd] at nn
 have gl:=(kk l (by rw[H.Zd]; exact bl.2) (by omega) (by omega)).trans (Zz ..)
 have Sd:=Bj (Bj Za kB) kA
 obtain⟨E,h3,Sd2,rnd,rfl⟩:∃ E h3,Sound K Tryz.prog E∧Jz E l (some [.c (.int .i64 (k:Int))]) h1 (h1.get l)=some (.val (.w (.c (.bool true))) h3)∧h3=h2.put l (.loop ts 75 [33] (q186 [1,1,1,1,0,1,2,5]) (q186 [1,1,1,1,0,1,2,6]) .ready none d):=by
  refine⟨_,_,Sd,Lg hl (by simp only[U4]; rfl) (Eh ..) hl (Qf (fun e=>?_) |>.trans (Eh ..)) gl,rfl⟩
  have e1:=(Task.code.inj e).1
  rw[Zbb,Za4] at e1
  cases e1
 rw[hl] at rnd
 have kk':∀ m,m<h1.next→m≠n+6→m≠n+13→m≠l→(h2.put l (.loop ts 75 [33] (q186 [1,1,1,1,0,1,2,5]) (q186 [1,1,1,1,0,1,2,6]) .ready none d)).get m=h1.get m:=fun m hm h6 h13 hne=>by
  rw[Ze hne,kk m (by rw[H.Zd]; exact hm) h6 h13,Ze hne]
 have M3:HE n q a b c e cr md S T V (h2.put l (.loop ts 75 [33] (q186 [1,1,1,1,0,1,2,5]) (q186 [1,1,1,1,0,1,2,6]) .ready none d)):=MB.keep (by rw[H.Zd]; omega) (fun m hm=>by rw[Ze (by omega)])
 refine⟨_,_,Sd2,rnd,C'.keep M3 (by rw[H.Zd]; exact nn) (fun m hm hq hne=>kk' m hm (by omega) (by omega) hne),Zz ..,by rw[H.Zd]; exact nn,kk'⟩
theorem Z6m (f:Ym a b c e=true) (B:Bmp a b c e V D g) {k t x y w:Nat} (ka:k<a) (F:FreeG b c D g k t x y w) (s2:1∈S∧1 ∉ T) (s3:2+e+k * b∈S∧2+e+k * b ∉ T) (C:TCb n q a b c e cr md S T V D l p2 p4 p5 p7 pD ts h) (hl:h.get l=some (lpB ts d)) :
  ∃ E h',Sound K Tryz.prog E∧Jz E l (some [.c (.int .i64 (k:Int))]) h (some (lpB ts d))=some (.val (.w (.c (.bool false))) h')∧TAb n q a b c e cr md S T (Zji b e V D g k t x y w) pD l p4 p5 (2+e+k * b+t) ts d h h':=by
 unfold lpB at hl ⊢
 obtain⟨xa,ds1,ts1,h1,kA,rfl,rfl,t1,t9,rfl⟩:=btA Hh l ts k h
 obtain⟨M,e2,e4,e5,e7,c2,c4,c5,c7,cD,b2,b4,b5,b7,bD,bl,n1,n2,n3⟩:=C
 obtain⟨nq,nx,_⟩:=M.nx
 have M':=M.keep (h2:=h1.put l (.loop ts 75 [33] (q186 [1,1,1,1,0,1,2,5]) (q186 [1,1,1,1,0,1,2,6]) .busy none d)) (by rw[H.Zd]; omega) (fun m hm=>by rw[Ze (by omega)])
 have Cb:TCb n q a b c e cr md S T V D l p2 p4 p5 p7 pD ts1 (h1.put l (.loop ts 75 [33] (q186 [1,1,1,1,0,1,2,5]) (q186 [1,1,1,1,0,1,2,6]) .busy none d)):=by
  refine⟨M',(t1 2 (by decide)).trans e2,(t1 4 (by decide)).trans e4,(t1 5 (by decide)).trans e5,(t1 7 (by decide)).trans e7,?_,?_,?_,?_,?_,b2,b4,b5,b7,bD,bl,n1,n2,n3⟩
  ·rw[Ze (Ne.symm n3.1)]; exact c2
  ·rw[Ze (Ne.symm n3.2.1)]; exact c4
  ·rw[Ze (Ne.symm n3.2.2.1)]; exact c5
  ·rw[Ze (Ne.symm n3.2.2.2)]; exact c7
  ·rw[Ze (Ne.symm n1.2.2.2.2)]; exact cD
 obtain⟨xb,ds2,ts2,h2,kB,rfl,nn,MB,kk,r4,r5⟩:=Yae Hh f B ka F s2 s3 Cb t9
 rw[H.Zd] at nn
 have gl:=(kk l (by rw[H.Zd]; exact bl.2) ⟨⟨by omega,by omega,by omega,by omega,by omega⟩,by omega⟩ n1.2.2.2.2 n3.2.1 n3.2.2.1).trans (Zz ..)
 have Sd:=Bj (Bj Za kB) kA
 obtain⟨E,h3,Sd2,rnd,rfl⟩:∃ E h3,Sound K Tryz.prog E∧Jz E l (some [.c (.int .i64 (k:Int))]) h1 (h1.get l)=some (.val (.w (.c (.bool false))) h3)∧h3=h2.put l (.loop ts 75 [33] (q186 [1,1,1,1,0,1,2,5]) (q186 [1,1,1,1,0,1,2,6]) .done (some .ret) d):=by
  refine⟨_,_,Sd,Lg hl (by simp only[U4]; rfl) (Eh ..) hl (Qf (fun e=>?_) |>.trans (Eh ..)) gl,rfl⟩
  have e1:=(Task.code.inj e).1
  rw[Zbb,Za4] at e1
  cases e1
 rw[hl] at rnd
 refine⟨_,_,Sd2,rnd,MB.keep (by rw[H.Zd]; omega) (fun m hm=>by rw[Ze (by omega)]),by rw[H.Zd]; exact nn,Zz ..,?_,?_,fun m m1 m2 m3 m4 m5 m6=>?_⟩
 ·rw[Ze (Ne.symm n3.2.1)]; exact r4
 ·rw[Ze (Ne.symm n3.2.2.1)]; exact r5
 ·rw[Ze m3,kk m (by rw[H.Zd]; exact m1) m2 m4 m5 m6,Ze m3]
theorem Zm3 (f:Ym a b c e=true) (B:Bmp a b c e V D g) {j:Nat} (ja:j≤a) {Q:X→List Nat→Zx→Go.Ev.H→Prop}:∀ (k i:Nat) (ts1:Zx) (h1:Go.Ev.H),i+k=j→(∀ i',i≤i'→i'<j→Zcd b c (g ((fi+i') % a)))→GSb n q a b c e cr md S T V D l p2 p4 p5 p7 pD ts d pg fi i ts1 h h1 →
  (∀ ts2 h2,GSb n q a b c e cr md S T V D l p2 p4 p5 p7 pD ts d pg fi j ts2 h h2→Ye 32 none (q261 [1,1,1,2]) [] ts2 h2 Q)→fi<4096 →
  Ye 32 none (q261 [1,1,1,2]) [] ts1 h1 Q:=by
 obtain⟨g1,g2,g3,g4,g5,g6,g7,g8,g9,g10,g11⟩:=Zv f
 intro k
 induction k with
 | zero =>
  intro i ts1 h1 hi fu G r _
  obtain rfl:i=j:=by omega
  exact r ts1 h1 G
 | succ k ih =>
  intro i ts1 h1 hi fu G r fl
  obtain⟨C,hl,s0,s1,s5,s18,s19,gp,bg,nx,kp⟩:=G
  have km:=Nat.mod_lt (fi+i) (show 0<a by omega)
  have rm:Np .i64 ((fi:Int)+(i:Int)) (a:Int)=some (.int .i64 (((fi+i) % a:Nat):Int)):=by
   have:=Em (k:=.i64) (a:=fi+i) (b:=a) (by omega)
   rwa [Int.natCast_add] at this
  have fu0:=fu i (Nat.le_refl _) (by omega)
  obtain⟨kk,hkk⟩:∃ kk,(fi+i) % a=kk:=⟨_,rfl⟩
  rw[hkk] at km rm fu0
  obtain⟨E,h2,Sd,rnd,C2,hl2,n2,k2⟩:=Z4l Hh f B km fu0 C hl
  have gp2:=(k2 pg bg.2.1 (by have:=C.M.nx; omega) (by have:=C.M.nx; omega) bg.2.2).trans gp
  have dl:decide ((i:Int)<(a:Int))=true:=decide_eq_true (by omega)
  have Jf:=Yy @s0 (Yu @s1 @s5 @s18 @s19 @gp @hl @dl @rm @rnd)
  iterate 11 (first|apply Zk|apply Zw|apply Yt|apply Je|refine Goes.Zi Yq ?_|refine Zq Hh Za Yq ?_)
  iterate 4 (first|apply Zw|refine Goes.Zi Yq ?_|refine Zq Hh Sd Yq ?_)
  show Ye 32 none (q261 [1,1,1,2]) _ _ _ _
  refine ih (i+1) _ h2 (by omega) (fun i' h1 h2=>fu i' (by omega) h2) ⟨C2,hl2,?_,?_,?_,?_,?_,gp2,⟨bg.1,by omega,bg.2.2⟩,by omega,fun m hm h6 h13 hne=>(k2 m (by omega) h6 h13 hne).trans (kp m hm h6 h13 hne)⟩ r fl
  ·have Jf:=@s0; exact Zj
  ·have Jf:=@s1; exact Zj
  ·have Jf:=@s5; exact Zj
  ·have Jf:=@s18; exact Zj
  ·exact Zc
end
def E9 (a b c e near:Nat):Nat:=(U7 a b c e near).2.1
theorem Zhx {a b c e near:Nat} (h:(U7 a b c e near).1=0):E9 a b c e near=0:=by
 unfold E9 U7 at *
 split at h
 ·cases h
 ·split at h
  ·cases h
  ·split at h
   ·cases h
   ·split at h
    ·rw[if_neg (by assumption),if_neg (by assumption),if_neg (by assumption),if_pos (by assumption)]
    ·exfalso
     simp only at h
     split at h
     ·cases h
     ·split at h
      ·cases h
      ·split at h<;>cases h
theorem Zou {a b c e near:Nat} (f:Ym a b c e=true):E9 a b c e near<4096:=by
 obtain⟨g1,g2,g3,g4,g5,g6,g7,g8,g9,g10,g11⟩:=Zv f
 unfold E9 U7
 split
 ·exact (by omega:0<4096)
 ·split
  ·exact (by omega:0<4096)
  ·split
   ·exact (by omega:0<4096)
   ·split
    ·exact (by omega:0<4096)
    ·show (near - 2 - e) / b<4096
     have:(near - 2 - e) / b≤near - 2 - e:=Nat.div_le_self _ _
     omega
section
variable (Hh:Hearts K Tryz.prog)
include Hh
variable {n q a b c e:Nat} {cr:Cr} {md:Int} {S T:List Nat} {V:Nat→List Nat} {D:List Oy} {g:Nat→Nat→Bool} {l p2 p4 p5 p7 pD d pg pn:Nat} {ts:Zx} {h:Go.Ev.H}
theorem Z4j (f:Ym a b c e=true) (B:Bmp a b c e V D g) {near:Nat} (nl:near<9223372036854775808) {j k t x y w:Nat} (ja:j<a) (fu:∀ i,i<j→Zcd b c (g ((E9 a b c e near+i) % a))) (hk:(E9 a b c e near+j) % a=k) (F:FreeG b c D g k t x y w) (s2:1∈S∧1 ∉ T) (s3:2+e+k * b∈S∧2+e+k * b ∉ T) (C:TCb n q a b c e cr md S T V D l p2 p4 p5 p7 pD ts h) (hl:h.get l=some (lpB ts d))
  (hg:h.get pg=some (.row 4 [[.int .i64 (a:Int),.int .i64 (b:Int),.int .i64 (c:Int),.int .i64 (e:Int)]] false)) (hn:h.get pn=some (.row 1 [[.int .i64 (near:Int)]] false)) (bg:q+9≤pg∧pg<h.next∧pg≠l) :
  ∃ v h',Zg 261 [.c (.yield l),.c (.ptr pg 0),.c (.ptr pn 0)] h v h'∧TAb n q a b c e cr md S T (Zji b e V D g k t x y w) pD l p4 p5 (2+e+k * b+t) ts d h h':=by
 obtain⟨g1,g2,g3,g4,g5,g6,g7,g8,g9,g10,g11⟩:=Zv f
 have cW:=fun h=>Zoa Hh (Zv f) h near nl
 have hz:=Zhx (a:=a) (b:=b) (c:=c) (e:=e) (near:=near)
 have fl:=Zou (near:=near) f
 have km:=Nat.mod_lt (E9 a b c e near+j) (show 0<a by omega)
 rw[hk] at km
 obtain⟨kd,hkd⟩:∃ kd,(U7 a b c e near).1=kd:=⟨_,rfl⟩
 obtain⟨od,hod⟩:∃ od,(U7 a b c e near).2.2=od:=⟨_,rfl⟩
 have hfi:(U7 a b c e near).2.1=E9 a b c e near:=rfl
 obtain⟨fi,hf⟩:∃ fi,E9 a b c e near=fi:=⟨_,rfl⟩
 simp only[hkd,hod,hfi,hf] at cW hz fu hk fl
 have last:∀ {Q:X→List Nat→Zx→Go.Ev.H→Prop} (ts2:Zx) (h2:Go.Ev.H),GSb n q a b c e cr md S T V D l p2 p4 p5 p7 pD ts d pg fi j ts2 h h2→(∀ ts3 h3,TAb n q a b c e cr md S T (Zji b e V D g k t x y w) pD l p4 p5 (2+e+k * b+t) ts d h h3→Q .ret [] ts3 h3)→Ye 32 none (q261 [1,1,1,2]) [] ts2 h2 Q:=by
  intro Q ts2 h2 G2 hQ
  obtain⟨C2,hl2,s0,s1,s5,s18,s19,gp,bg2,nx,kp⟩:=G2
  have rm:Np .i64 ((fi:Int)+(j:Int)) (a:Int)=some (.int .i64 (k:Int)):=by
   have:=Em (k:=.i64) (a:=fi+j) (b:=a) (by omega)
   rw[hk] at this
   rwa [Int.natCast_add] at this
  obtain⟨E,h3,Sd,rnd,A⟩:=Z6m Hh f B km F s2 s3 C2 hl2
  have dl:decide ((j:Int)<(a:Int))=true:=decide_eq_true (by omega)
  have Jf:=Yy @s0 (Yu @s1 @s5 @s18 @s19 @gp @hl2 @dl @rm @rnd)
  iterate 11 (first|apply Zk|apply Zw|apply Yt|apply Je|refine Goes.Zi Yq ?_|refine Zq Hh Za Yq ?_)
  iterate 3 (first|apply Z0|refine Goes.Zi Yq ?_|refine Zq Hh Sd Yq ?_)
  refine hQ _ _ ⟨A.M,by have:=A.next; omega,A.hl,A.r4,A.r5,fun m hm ho m1 m2 m3 m4=>(A.keep m (by omega) ho m1 m2 m3 m4).trans (kp m hm ho.1.1 ho.1.2.1 m1)⟩
 by_cases k0:kd=0
 ·obtain rfl:fi=0:=hz k0
  have e0:((kd:Int) == 0)=true:=Za7 (by omega)
  refine Yg Hh Tryz.f261 ?_
  apply Zk
  iterate 9 (first|apply Zk|apply Yt|((first|apply Goes.Zi|apply Goes.ops2 fits Hh (Yp Za cW)); · simp (maxSteps:=9^6) +decide (disch:=first|omega|(simp only[lens]<;>omega)|decide) only [go_sem,Zn,Zm,simprocAttr,hg,hn,e0,Jk,read1]<;>rfl))
  refine Zm3 Hh f B (Nat.le_of_lt ja) j 0 _ _ (by omega) (fun i' _ h2=>fu i' h2) (h:=h) ⟨C,hl,?_,?_,?_,?_,?_,hg,bg,Nat.le_refl _,fun _ _ _ _ _=>rfl⟩ (fun ts2 h2 G2=>last ts2 h2 G2 (fun ts3 h3 A=>?_)) fl
  ·exact Zc
  ·exact Zc
  ·exact Zc
  ·exact Zc
  ·exact Zc
  exact⟨_,_,Zc,A⟩
 ·have e0:((kd:Int) == 0)=false:=Ee (by omega)
  refine Yg Hh Tryz.f261 ?_
  apply Zk
  iterate 9 (first|apply Zk|apply Zw|apply Yt|((first|apply Goes.Zi|apply Goes.ops2 fits Hh (Yp Za cW)); · simp (maxSteps:=9^6) +decide (disch:=first|omega|(simp only[lens]<;>omega)|decide) only [go_sem,Zn,Zm,simprocAttr,hg,hn,e0,Jk,read1]<;>rfl))
  refine Zm3 Hh f B (Nat.le_of_lt ja) j 0 _ _ (by omega) (fun i' _ h2=>fu i' h2) (h:=h) ⟨C,hl,?_,?_,?_,?_,?_,hg,bg,Nat.le_refl _,fun _ _ _ _ _=>rfl⟩ (fun ts2 h2 G2=>last ts2 h2 G2 (fun ts3 h3 A=>?_)) fl
  ·exact Zc
  ·exact Zc
  ·exact Zc
  ·exact Zc
  ·exact Zc
  exact⟨_,_,Zc,A⟩
theorem Z8z (f:Ym a b c e=true) (B:Bmp a b c e V D g) {near:Nat} (nl:near<9223372036854775808) (fu:∀ i,i<a→Zcd b c (g ((E9 a b c e near+i) % a))) (C:TCb n q a b c e cr md S T V D l p2 p4 p5 p7 pD ts h) (hl:h.get l=some (lpB ts d))
  (hg:h.get pg=some (.row 4 [[.int .i64 (a:Int),.int .i64 (b:Int),.int .i64 (c:Int),.int .i64 (e:Int)]] false)) (hn:h.get pn=some (.row 1 [[.int .i64 (near:Int)]] false)) (bg:q+9≤pg∧pg<h.next∧pg≠l) :
  ∃ v h',Zg 261 [.c (.yield l),.c (.ptr pg 0),.c (.ptr pn 0)] h v h'∧TCb n q a b c e cr md S T V D l p2 p4 p5 p7 pD ts h'∧h'.get l=some (lpB ts d)∧h.next≤h'.next∧∀ m,m<h.next→m≠n+6→m≠n+13→m≠l→h'.get m=h.get m:=by
 obtain⟨g1,g2,g3,g4,g5,g6,g7,g8,g9,g10,g11⟩:=Zv f
 have cW:=fun h=>Zoa Hh (Zv f) h near nl
 have hz:=Zhx (a:=a) (b:=b) (c:=c) (e:=e) (near:=near)
 have fl:=Zou (near:=near) f
 obtain⟨kd,hkd⟩:∃ kd,(U7 a b c e near).1=kd:=⟨_,rfl⟩
 obtain⟨od,hod⟩:∃ od,(U7 a b c e near).2.2=od:=⟨_,rfl⟩
 have hfi:(U7 a b c e near).2.1=E9 a b c e near:=rfl
 obtain⟨fi,hf⟩:∃ fi,E9 a b c e near=fi:=⟨_,rfl⟩
 simp only[hkd,hod,hfi,hf] at cW hz fu fl
 have last:∀ {Q:X→List Nat→Zx→Go.Ev.H→Prop} (ts2:Zx) (h2:Go.Ev.H),GSb n q a b c e cr md S T V D l p2 p4 p5 p7 pD ts d pg fi a ts2 h h2→(∀ ts3,Q (.exit 0) [] ts3 h2)→Ye 32 none (q261 [1,1,1,2]) [] ts2 h2 Q:=by
  intro Q ts2 h2 G2 hQ
  obtain⟨C2,hl2,s0,s1,s5,s18,s19,gp,bg2,nx,kp⟩:=G2
  have dl:decide ((a:Int)<(a:Int))=false:=decide_eq_false (by omega)
  have Jf:=Jb @s18 @s19 @dl
  iterate 6 (first|apply Zk|apply Ux|apply Je|refine Goes.Zi Zj ?_|refine Zq Hh Za Zj ?_)
  exact hQ _
 by_cases k0:kd=0
 ·obtain rfl:fi=0:=hz k0
  have e0:((kd:Int) == 0)=true:=Za7 (by omega)
  refine Yg Hh Tryz.f261 ?_
  apply Zk
  iterate 9 (first|apply Zk|apply Yt|((first|apply Goes.Zi|apply Goes.ops2 fits Hh (Yp Za cW)); · simp (maxSteps:=9^6) +decide (disch:=first|omega|(simp only[lens]<;>omega)|decide) only [go_sem,Zn,Zm,simprocAttr,hg,hn,e0,Jk,read1]<;>rfl))
  refine Zm3 Hh f B (Nat.le_refl a) a 0 _ _ (by omega) (fun i' _ h2=>fu i' h2) (h:=h) ⟨C,hl,?_,?_,?_,?_,?_,hg,bg,Nat.le_refl _,fun _ _ _ _ _=>rfl⟩ (fun ts2 h2 G2=>last ts2 h2 G2 (fun ts3=>?_)) fl
  ·exact Zc
  ·exact Zc
  ·exact Zc
  ·exact Zc
  ·exact Zc
  exact⟨_,_,Zc,G2.C,G2.hl,G2.nx,G2.kp⟩
 ·have e0:((kd:Int) == 0)=false:=Ee (by omega)
  refine Yg Hh Tryz.f261 ?_
  apply Zk
  iterate 9 (first|apply Zk|apply Zw|apply Yt|((first|apply Goes.Zi|apply Goes.ops2 fits Hh (Yp Za cW)); · simp (maxSteps:=9^6) +decide (disch:=first|omega|(simp only[lens]<;>omega)|decide) only [go_sem,Zn,Zm,simprocAttr,hg,hn,e0,Jk,read1]<;>rfl))
  refine Zm3 Hh f B (Nat.le_refl a) a 0 _ _ (by omega) (fun i' _ h2=>fu i' h2) (h:=h) ⟨C,hl,?_,?_,?_,?_,?_,hg,bg,Nat.le_refl _,fun _ _ _ _ _=>rfl⟩ (fun ts2 h2 G2=>last ts2 h2 G2 (fun ts3=>?_)) fl
  ·exact Zc
  ·exact Zc
  ·exact Zc
  ·exact Zc
  ·exact Zc
  exact⟨_,_,Zc,G2.C,G2.hl,G2.nx,G2.kp⟩
end
section
variable (Hh:Hearts K Tryz.prog)
include Hh
variable {n q a b c e:Nat} {cr:Cr} {md:Int} {S T:List Nat} {V:Nat→List Nat} {D:List Oy} {g:Nat→Nat→Bool} {p2 p4 p5 p7 pD pg pn:Nat} {ts:Zx} {h:Go.Ev.H}
theorem Z4r (f:Ym a b c e=true) (B:Bmp a b c e V D g) {near:Nat} (nl:near<9223372036854775808) {j k t x y w:Nat} (ja:j<a) (fu:∀ i,i<j→Zcd b c (g ((E9 a b c e near+i) % a))) (hk:(E9 a b c e near+j) % a=k) (F:FreeG b c D g k t x y w) (s2:1∈S∧1 ∉ T) (s3:2+e+k * b∈S∧2+e+k * b ∉ T)
  (C:∀ h2 l,h.next<l→l<h2.next→(∀ m,m<h.next→h2.get m=h.get m)→TCb n q a b c e cr md S T V D l p2 p4 p5 p7 pD ts h2) (nh:q+9≤h.next) (nq:n+23≤q) (l4:p4<h.next) (l5:p5<h.next) (lD:pD<h.next)
  (hg:h.get pg=some (.row 4 [[.int .i64 (a:Int),.int .i64 (b:Int),.int .i64 (c:Int),.int .i64 (e:Int)]] false)) (hn:h.get pn=some (.row 1 [[.int .i64 (near:Int)]] false)) (lg:q+9≤pg∧pg<h.next) (ln:pn<h.next) (e32:Zh ts 32=.w (.c (.fn 261 [] [some (pg,0),some (pn,0)]))) :
  Ye 75 none (q186 [1,1,1,1,0,1,2]) [] ts h fun x' ds' ts' h'=>x'=.ret∧ts'=ts∧ds'=[h.next]∧h'.get h.next=some .defers∧h'.get p4=some (.row 1 [[.int .i64 ((2+e+k * b+t:Nat):Int)]] false)∧h'.get p5=some (.row 1 [[.int .i64 0]] false)∧HE n q a b c e cr md S T (Zji b e V D g k t x y w) h'∧h.next≤h'.next∧∀ m,m<h.next→Out n q m→m≠pD→m≠p4→m≠p5→h'.get m=h.get m:=by
 have g0:∀ (o:O) m,m<h.next→((h.new .defers).new o).get m=h.get m:=fun o m hm=>by rw[Z8 (by rw[H.Zb]; omega),Z8 (by omega)]
 have gd:∀ o:O,((h.new .defers).new o).get h.next=some .defers:=fun o=>by rw[Z8 (by rw[H.Zb]; omega),U8]
 have T1:=C ((h.new .defers).new (lpB ts h.next)) (h.next+1) (by omega) (by simp only[H.Zb]; omega) (fun m hm=>g0 _ m hm)
 rw[Zcf]
 refine Goes.Zbq fits Hh (f:=261) (first:=[]) (caps:=[some (pg,0),some (pn,0)]) (by simp only[Z6,Y2,e32,asC]) (exE (Z4j Hh f B nl ja fu hk F s2 s3 T1 (by rw[Jv (by simp only[H.Zb]; omega)]; rfl) ((g0 _ _ lg.2).trans hg) ((g0 _ _ ln).trans hn) ⟨lg.1,by simp only[H.Zb]; omega,by omega⟩) ?_)
 rintro v h3 A
 have an:=A.next
 simp only[H.Zb] at an
 refine⟨_,_,_,_,_,_,_,_,A.hl,by simp,?_⟩
 show _∧_∧_
 refine⟨rfl,rfl,rfl,?_,?_,?_,A.M.keep (by rw[H.Zd]; omega) (fun m hm=>by rw[Ze (by omega)]),by rw[H.Zd]; omega,fun m hm ho m1 m2 m3=>?_⟩
 ·rw[Ze (by omega),A.keep _ (by simp only[H.Zb]; omega) ⟨⟨by omega,by omega,by omega,by omega,by omega⟩,by omega⟩ (by omega) (by omega) (by omega) (by omega),gd]
 ·rw[Ze (by omega),A.r4]
 ·rw[Ze (by omega),A.r5]
 ·rw[Ze (by omega),A.keep m (by simp only[H.Zb]; omega) ho (by omega) m1 m2 m3,g0 _ _ hm]
theorem Z6b (f:Ym a b c e=true) (B:Bmp a b c e V D g) {near:Nat} (nl:near<9223372036854775808) (fu:∀ i,i<a→Zcd b c (g ((E9 a b c e near+i) % a)))
  (C:∀ h2 l,h.next<l→l<h2.next→(∀ m,m<h.next→h2.get m=h.get m)→TCb n q a b c e cr md S T V D l p2 p4 p5 p7 pD ts h2) (nh:q+9≤h.next) (nq:n+23≤q) (l4:p4<h.next) (l5:p5<h.next)
  (hg:h.get pg=some (.row 4 [[.int .i64 (a:Int),.int .i64 (b:Int),.int .i64 (c:Int),.int .i64 (e:Int)]] false)) (hn:h.get pn=some (.row 1 [[.int .i64 (near:Int)]] false)) (lg:q+9≤pg∧pg<h.next) (ln:pn<h.next) (e32:Zh ts 32=.w (.c (.fn 261 [] [some (pg,0),some (pn,0)]))) :
  Ye 75 none (q186 [1,1,1,1,0,1,2]) [] ts h fun x' ds' ts' h'=>x'=.normal∧ts'=ts∧ds'=[h.next]∧h'.get h.next=some .defers∧h'.get p4=some (.row 1 [[.int .i64 0]] false)∧h'.get p5=some (.row 1 [[.int .i64 0]] false)∧HE n q a b c e cr md S T V h'∧h.next≤h'.next∧∀ m,m<h.next→Out n q m→h'.get m=h.get m:=by
 have g0:∀ (o:O) m,m<h.next→((h.new .defers).new o).get m=h.get m:=fun o m hm=>by rw[Z8 (by rw[H.Zb]; omega),Z8 (by omega)]
 have gd:∀ o:O,((h.new .defers).new o).get h.next=some .defers:=fun o=>by rw[Z8 (by rw[H.Zb]; omega),U8]
 have T1:=C ((h.new .defers).new (lpB ts h.next)) (h.next+1) (by omega) (by simp only[H.Zb]; omega) (fun m hm=>g0 _ m hm)
 rw[Zcf]
 refine Goes.Zbq fits Hh (f:=261) (first:=[]) (caps:=[some (pg,0),some (pn,0)]) (by simp only[Z6,Y2,e32,asC]) (exE (Z8z Hh f B nl fu T1 (by rw[Jv (by simp only[H.Zb]; omega)]; rfl) ((g0 _ _ lg.2).trans hg) ((g0 _ _ ln).trans hn) ⟨lg.1,by simp only[H.Zb]; omega,by omega⟩) ?_)
 rintro v h3 ⟨C3,hl3,n3,k3⟩
 simp only[H.Zb] at n3
 have c4:=C3.c4
 have c5:=C3.c5
 refine⟨_,_,_,_,_,_,_,_,hl3,by simp,?_⟩
 show _∧_∧_
 refine⟨rfl,rfl,rfl,?_,?_,?_,C3.M.keep (by rw[H.Zd]; omega) (fun m hm=>by rw[Ze (by omega)]),by rw[H.Zd]; omega,fun m hm ho=>?_⟩
 ·rw[Ze (by omega),k3 _ (by simp only[H.Zb]; omega) (by omega) (by omega) (by omega),gd]
 ·rw[Ze (by omega),c4]
 ·rw[Ze (by omega),c5]
 ·rw[Ze (by omega),k3 m (by simp only[H.Zb]; omega) ho.1.1 ho.1.2.1 (by omega),g0 _ _ hm]
theorem Z8q (f:Ym a b c e=true) (M:HE n q a b c e cr md S T V h) (B:Bmp a b c e V D g) {near:Nat} (nl:near<9223372036854775808) {j k t x y w:Nat} (ja:j<a) (fu:∀ i,i<j→Zcd b c (g ((E9 a b c e near+i) % a))) (hk:(E9 a b c e near+j) % a=k) (F:FreeG b c D g k t x y w) (s2:1∈S∧1 ∉ T) (s3:2+e+k * b∈S∧2+e+k * b ∉ T) :
  ∃ h',Zg 186 [.c (.ptr (n+13) 0),.c (.int .i64 (near:Int))] h (.tup [.c (.int .i64 ((2+e+k * b+t:Nat):Int)),.c (.int .i64 0)]) h'∧HE n q a b c e cr md S T (Zji b e V D g k t x y w) h'∧Kp n q h h':=by
 obtain⟨nq,nx,_⟩:=M.nx
 obtain⟨_,⟨kn0,hs⟩,⟨dk0,gl⟩,ht⟩:=M.cells
 unfold gdL gdD at gl
 refine Ou ?_
 refine Yg Hh Tryz.f186 ?_
 have Jf:=Uq @f @hs @gl @ht
 iterate 10 (first|apply Zk|apply Zw|refine Goes.Zi Gm ?_|refine Zq Hh (EY Za (Zkh Hh)) Gm ?_)
 refine Uc fun hA eA=>?_
 have nA:hA.next=h.next+1+1+1:=by rw[eA]; simp only[H.Zd,H.Zb]
 have kA:∀ m,m<h.next→hA.get m=h.get m:=fun m hm=>by rw[eA]; exact Yc
 have a2:hA.get h.next=some (.row 1 [[.ptr (n+13) 0]] false):=by rw[eA]; exact Zc
 have a4:hA.get (h.next+1)=some (.row 1 [[.int .i64 0]] false):=by rw[eA]; exact Zc
 have a5:hA.get (h.next+1+1)=some (.row 1 [[.int .i64 0]] false):=by rw[eA]; exact Zc
 clear eA
 have MA:=M.keep (h2:=hA) (by omega) (fun m hm=>kA m (by omega))
 obtain⟨hB,pD,k6,MB,kB',pD1,pD2,cD⟩:=Zv2 Hh f MA B.des
 have kB:=kB'.2
 obtain⟨_,⟨knB,hsB⟩,⟨dkB,glB⟩,_⟩:=MB.cells
 unfold gdL gdD at glB
 have b2:=(kB h.next (by omega) (by omega)).trans a2
 have b4:=(kB (h.next+1) (by omega) (by omega)).trans a4
 have b5:=(kB (h.next+1+1) (by omega) (by omega)).trans a5
 have Jf:=U1 Jf @a2 @hsB @glB @b2
 iterate 8 (first|apply Zk|apply Zw|refine Goes.Zi Gm ?_|refine Zq Hh (Zp Za k6) Gm ?_)
 iterate 2 (first|apply Yt|refine Zq Hh (EY (EY Za (Jh Hh)) (Zfg Hh)) Gm ?_)
 refine Uc fun hC eC=>?_
 have nC:hC.next=hB.next+1+1+1:=by rw[eC]; simp only[H.Zd,H.Zb]
 have kC:∀ m,m<hB.next→hC.get m=hB.get m:=fun m hm=>by rw[eC]; exact Yc
 have c7:hC.get hB.next=some (.row 1 [[.slice pD 0 a 3]] false):=by rw[eC]; exact Zc
 have cg:hC.get (hB.next+1)=some (.row 4 [[.int .i64 (a:Int),.int .i64 (b:Int),.int .i64 (c:Int),.int .i64 (e:Int)]] false):=by rw[eC]; exact Zc
 have cn:hC.get (hB.next+1+1)=some (.row 1 [[.int .i64 (near:Int)]] false):=by rw[eC]; exact Zc
 clear eC
 have nB:=MB.nx.2.1
 have MC:=MB.keep (h2:=hC) (by omega) (fun m hm=>kC m (by omega))
 refine (Z4r Hh (h:=hC) (n:=n) (cr:=cr) (md:=md) (S:=S) (T:=T) f B nl ja fu hk F s2 s3 (p2:=h.next) (p4:=h.next+1) (p5:=h.next+1+1) (p7:=hB.next) (pD:=pD) (pg:=hB.next+1) (pn:=hB.next+1+1) ?_ (by omega) nq (by omega) (by omega) (by omega) cg cn ⟨by omega,by omega⟩ (by omega) ?_).mono ?_
 ·intro h2 l l1 l2 k2
  refine⟨MC.keep (by omega) (fun m hm=>k2 m (by omega)),?_,?_,?_,?_,(k2 _ (by omega)).trans ((kC _ (by omega)).trans b2),(k2 _ (by omega)).trans ((kC _ (by omega)).trans b4),(k2 _ (by omega)).trans ((kC _ (by omega)).trans b5),(k2 _ (by omega)).trans c7,(k2 _ (by omega)).trans ((kC _ (by omega)).trans cD),?_,?_,?_,?_,?_,?_,?_,?_,?_⟩
  all_goals (first|omega|(simp (decide:=true) only [Zf,reduceIte]))
 ·simp (decide:=true) only [Zf,reduceIte]
 rintro x ds' ts' h' ⟨rfl,rfl,rfl,gd',r4,r5,MM,nn,kk⟩
 refine⟨_,_,(by have Jf:=Jb @gd' @r4 @r5; exact Yq),rfl,MM.keep ?_ (fun m hm=>?_),?_,fun m hm ho=>?_⟩
 ·simp only[H.Zd,H.Zb,H.Yv]<;>omega
 ·exact Yc
 ·simp only[H.Zd,H.Zb,H.Yv]<;>omega
 ·refine Eq.trans ?_ ((kk m (by omega) ho (by omega) (by omega) (by omega)).trans ((kC m (by omega)).trans ((kB m (by omega) ho.1.1).trans (kA m hm)))); exact Yc
theorem Z88 (f:Ym a b c e=true) (M:HE n q a b c e cr md S T V h) (B:Bmp a b c e V D g) {near:Nat} (nl:near<9223372036854775808) (fu:∀ i,i<a→Zcd b c (g ((E9 a b c e near+i) % a))) :
  ∃ h',Zg 186 [.c (.ptr (n+13) 0),.c (.int .i64 (near:Int))] h (.tup [.c (.int .i64 0),.c (.int .i64 230)]) h'∧HE n q a b c e cr md S T V h'∧Kp n q h h':=by
 obtain⟨nq,nx,_⟩:=M.nx
 obtain⟨_,⟨kn0,hs⟩,⟨dk0,gl⟩,ht⟩:=M.cells
 unfold gdL gdD at gl
 refine Ou ?_
 refine Yg Hh Tryz.f186 ?_
 have Jf:=Uq @f @hs @gl @ht
 iterate 10 (first|apply Zk|apply Zw|refine Goes.Zi Gm ?_|refine Zq Hh (EY Za (Zkh Hh)) Gm ?_)
 refine Uc fun hA eA=>?_
 have nA:hA.next=h.next+1+1+1:=by rw[eA]; simp only[H.Zd,H.Zb]
 have kA:∀ m,m<h.next→hA.get m=h.get m:=fun m hm=>by rw[eA]; exact Yc
 have a2:hA.get h.next=some (.row 1 [[.ptr (n+13) 0]] false):=by rw[eA]; exact Zc
 have a4:hA.get (h.next+1)=some (.row 1 [[.int .i64 0]] false):=by rw[eA]; exact Zc
 have a5:hA.get (h.next+1+1)=some (.row 1 [[.int .i64 0]] false):=by rw[eA]; exact Zc
 clear eA
 have MA:=M.keep (h2:=hA) (by omega) (fun m hm=>kA m (by omega))
 obtain⟨hB,pD,k6,MB,kB',pD1,pD2,cD⟩:=Zv2 Hh f MA B.des
 have kB:=kB'.2
 obtain⟨_,⟨knB,hsB⟩,⟨dkB,glB⟩,_⟩:=MB.cells
 unfold gdL gdD at glB
 have b2:=(kB h.next (by omega) (by omega)).trans a2
 have b4:=(kB (h.next+1) (by omega) (by omega)).trans a4
 have b5:=(kB (h.next+1+1) (by omega) (by omega)).trans a5
 have Jf:=U1 Jf @a2 @hsB @glB @b2
 iterate 8 (first|apply Zk|apply Zw|refine Goes.Zi Gm ?_|refine Zq Hh (Zp Za k6) Gm ?_)
 iterate 2 (first|apply Yt|refine Zq Hh (EY (EY Za (Jh Hh)) (Zfg Hh)) Gm ?_)
 refine Uc fun hC eC=>?_
 have nC:hC.next=hB.next+1+1+1:=by rw[eC]; simp only[H.Zd,H.Zb]
 have kC:∀ m,m<hB.next→hC.get m=hB.get m:=fun m hm=>by rw[eC]; exact Yc
 have c7:hC.get hB.next=some (.row 1 [[.slice pD 0 a 3]] false):=by rw[eC]; exact Zc
 have cg:hC.get (hB.next+1)=some (.row 4 [[.int .i64 (a:Int),.int .i64 (b:Int),.int .i64 (c:Int),.int .i64 (e:Int)]] false):=by rw[eC]; exact Zc
 have cn:hC.get (hB.next+1+1)=some (.row 1 [[.int .i64 (near:Int)]] false):=by rw[eC]; exact Zc
 clear eC
 have nB:=MB.nx.2.1
 have MC:=MB.keep (h2:=hC) (by omega) (fun m hm=>kC m (by omega))
 refine (Z6b Hh (h:=hC) (n:=n) (cr:=cr) (md:=md) (S:=S) (T:=T) f B nl fu (p2:=h.next) (p4:=h.next+1) (p5:=h.next+1+1) (p7:=hB.next) (pD:=pD) (pg:=hB.next+1) (pn:=hB.next+1+1) ?_ (by omega) nq (by omega) (by omega) cg cn ⟨by omega,by omega⟩ (by omega) ?_).mono ?_
 ·intro h2 l l1 l2 k2
  refine⟨MC.keep (by omega) (fun m hm=>k2 m (by omega)),?_,?_,?_,?_,(k2 _ (by omega)).trans ((kC _ (by omega)).trans b2),(k2 _ (by omega)).trans ((kC _ (by omega)).trans b4),(k2 _ (by omega)).trans ((kC _ (by omega)).trans b5),(k2 _ (by omega)).trans c7,(k2 _ (by omega)).trans ((kC _ (by omega)).trans cD),?_,?_,?_,?_,?_,?_,?_,?_,?_⟩
  all_goals (first|omega|(simp (decide:=true) only [Zf,reduceIte]))
 ·simp (decide:=true) only [Zf,reduceIte]
 rintro x ds' ts' h' ⟨rfl,rfl,rfl,gd',r4,r5,MM,nn,kk⟩
 have Jf:=Jb Jf @r4 @r5
 iterate 3 (first|apply Zk|apply Z0|refine Zq Hh Za Gm ?_)
 refine⟨_,_,(by have Jf:=Jb @gd' @r4 @r5; exact Zcz),rfl,MM.keep ?_ (fun m hm=>?_),?_,fun m hm ho=>?_⟩
 ·simp only[H.Zd,H.Zb,H.Yv]<;>omega
 ·exact Yc
 ·simp only[H.Zd,H.Zb,H.Yv]<;>omega
 ·refine Eq.trans ?_ ((kk m (by omega) ho).trans ((kC m (by omega)).trans ((kB m (by omega) ho.1.1).trans (kA m hm)))); exact Yc
end
end Go.Proofs.YtecakmodlkbnaaaGreatDoor
