/- blocks: open, descs, free, change; over any store whose handle is open. -/
import Derived.Test.YteiljiijagmonaaGreatDoorBfg
set_option maxRecDepth 100000
set_option maxHeartbeats 4000000
set_option linter.unusedSimpArgs false
set_option linter.unusedVariables false
set_option linter.unusedSectionVars false
namespace Go.Proofs.YteiljiijagmonaaGreatDoor
open Go.Ev
noncomputable section
theorem rs14:Tryz.f14.results.toList=[.tmp 2]:=rfl
theorem rs137:Tryz.f137.results.toList=[.tmp 2]:=rfl
theorem rs15:Tryz.f15.results.toList=[.tmp 2,.tmp 3]:=rfl
theorem rs161:Tryz.f161.results.toList=[.tmp 4]:=rfl
theorem rs162:Tryz.f162.results.toList=[.tmp 6]:=rfl
theorem rs140:Tryz.f140.results.toList=[.tmp 10]:=rfl
theorem rs164:Tryz.f164.results.toList=[]:=rfl
attribute [go_sem] rs14 rs137 rs15 rs161 rs162 rs140 rs164
def Zsj:Kn1:=fun args h=>match args with
 | [.c (.ptr s 0)]=>(Da h s).bind fun S=>(Mj h S.gd).bind fun _=>some (.w (.c (.int .i64 0)),h)
 | _=>none
def Zsk:Kn1:=fun args h=>match args with
 | [.c (.ptr s 0)]=>(Da h s).bind fun S=>(Mj h S.gd).bind fun _=>(Uf h S.tx).bind fun X=>Yt X.op (some (.w (.c (.int .i64 0)),h))
 | _=>none
def Ziq:Kn1:=fun args h=>match args with
 | [.g [a,b,c,d],.c z]=>some (.w (.c (.fn 208 [] [some (h.next,0),some (h.next+1,0)])),(h.new (.row 4 [[a,b,c,d]] false)).new (.row 1 [[z]] false))
 | _=>none
attribute [go_sem] Zsj Zsk Ziq
section
variable (Hh:Hearts K Tryz.prog)
include Hh
theorem Zld {args:List W} {h h':Hq} {v:V} (e:Zsj args h=some (v,h')):Zi 14 args h v h':=by
 unfold Zsj at e
 split at e
 ·rename_i s
  obtain⟨S,hs,e⟩:=Zj e
  have hs:=Y8 hs
  obtain⟨G,hg,e⟩:=Zj e
  obtain⟨hg,fb⟩:=Uz hg
  cases e
  refine fnG Hh Tryz.f14 ?_
  repeat (first|apply Zu|apply Ye|apply Yc|((first|apply Goes.Zl|apply Goes.ops2 fits Hh (EY (EY Za (G7 Hh)) (Br Hh))); · simp (maxSteps:=9^6) +decide (disch:=first|exact dZ|fail) only [go_sem,Zk,Zh,simprocAttr,hs,hg,gdL,fb,Jr]<;>rfl))
  exact Zf
 ·cases e
theorem Zle {args:List W} {h h':Hq} {v:V} (e:Zsk args h=some (v,h')):Zi 137 args h v h':=by
 unfold Zsk at e
 split at e
 ·rename_i s
  obtain⟨S,hs,e⟩:=Zj e
  have hs:=Y8 hs
  obtain⟨G,hg,e⟩:=Zj e
  obtain⟨hg,fb⟩:=Uz hg
  obtain⟨X,ht,e⟩:=Zj e
  have ht:=Yk ht
  obtain⟨bo,e⟩:=Zq.1 e
  cases e
  refine fnG Hh Tryz.f137 ?_
  repeat (first|apply Zu|apply Zmg|apply Ye|apply Yc|((first|apply Goes.Zl|apply Goes.ops2 fits Hh (EY (EY (EY Za (Zld Hh)) (Zlj Hh)) (Zqp Hh))); · simp (maxSteps:=9^6) +decide (disch:=first|exact dZ|fail) only [go_sem,Zk,Zh,simprocAttr,hs,ht,hg,gdL,fb,bo]<;>rfl)|simp +decide only [reduceIte])
  exact Zf
 ·cases e
theorem Zqh {args:List W} {h h':Hq} {v:V} (e:Ziq args h=some (v,h')):Zi 161 args h v h':=by
 unfold Ziq at e
 split at e
 ·cases e
  refine fnG Hh Tryz.f161 ?_
  repeat (first|apply Zu|apply Yc|((first|apply Goes.Zl|apply Goes.ops2 fits Hh Za); · simp (maxSteps:=9^6) +decide (disch:=first|exact dZ|fail) only [go_sem,Zk,Zh,simprocAttr,Yy,Bh,Gm,ptrs]<;>rfl))
  exact Zf
 ·cases e
variable {n q a b c e:Nat} {cr:Cr} {md:Int} {S T:Lq} {V:Nat->Lq} {h:Hq}
theorem Zlr (f:Y1 a b c e=true) (M:HE n q a b c e cr md S T V h) {D:List Oq} (dd:Des V a b c D) :
  ∃ h' p,Zi 15 [.c (.ptr (n+13) 0)] h (.tup [.c (.slice p 0 a 3),.c (.int .i64 0)]) h'/\HE n q a b c e cr md S T V h'/\Kr n q h h'/\h.next<=p/\p<h'.next/\h'.get p=some (.row 3 (D.map U1) false):=by
 obtain⟨g1,g2,g3,g4,g5,g6,g7,g8,g9,g10,g11⟩:=Ya f
 obtain⟨gd,td,Dl⟩:=dd
 obtain⟨hG,e1,MG,nG,rG⟩:=M.get f (z:=1) (Zc5 a b c e) oM
 have c1:Zi 19 [.c (.ptr (n+13) 0),.c (.int .i64 1)] h (.tup [.g (pgL (V 1)),.c (.int .i64 0)]) hG:=Eu Hh e1
 have Yl:(pgL (V 1)).length=256:=by rw[Oz]; exact M.len (z:=1) (Zc5 a b c e) oM
 have bd:=Wy (V 1)
 have gd':goodD (unN (pgL (V 1))) a b c=true:=by rw[Gh,Tq]; exact gd
 have td':Dc (unN (pgL (V 1))) a 0=D:=by rw[Gh,Re]; exact td
 obtain⟨Y,hY⟩:=xzE (pgL (V 1))
 rw[hY] at c1 Yl bd gd' td'
 obtain⟨nq,nx,n0⟩:=M.nx
 obtain⟨st,⟨kn,hs⟩,⟨dk,gl⟩,ht⟩:=MG.cells
 obtain⟨st0,⟨kn0,hs0⟩,⟨dk0,gl0⟩,ht0⟩:=M.cells
 unfold gdL gdD at gl gl0
 obtain⟨v,h',cc,p,rfl,M',hk,p1,p2,p3⟩:∃ v h',Zi 15 [.c (.ptr (n+13) 0)] h v h'/\∃ p,v=.tup [.c (.slice p 0 a 3),.c (.int .i64 0)]/\HE n q a b c e cr md S T V h'/\Kr n q h h'/\h.next<=p/\p<h'.next/\h'.get p=some (.row 3 (D.map U1) false):=by
  refine Y0 Hh Tryz.f15 ?_
  have Jf:=Ju @f @st (Yw @hs @gl @hs0 @gl0 @Yl @bd @gd' @td' @Dl)
  iterate 3 (first|refine Zr Hh Za Rv ?_|apply gS)
  iterate 7 (first|refine Goes.Zl Rv ?_|refine Zr Hh (Zp Za c1) Rv ?_|apply gS)
  iterate 2 (first|refine G6 Hh (EY (EY Za (G7 Hh)) (Z5c Hh)) Zyg ?_|apply gS)
  refine⟨_,_,Y6,_,rfl,MG.keep ?_ (fun m hm=>?_),⟨?_,fun m hm hne=>?_⟩,?_,?_,?_⟩
  ·first|omega|(simp only[H.Zb,H.Zc]<;>omega)
  ·exact Jg
  ·first|omega|(simp only[H.Zb,H.Zc]<;>omega)
  ·refine Eq.trans ?_ (rG m hm hne); exact Jg
  ·first|omega|(simp only[H.Zb,H.Zc]<;>omega)
  ·first|omega|(simp only[H.Zb,H.Zc]<;>omega)
  ·exact Y6
 exact⟨h',p,cc,M',hk,p1,p2,p3⟩
theorem Zyk [Opn cr] (f:Y1 a b c e=true) (M:HE n q a b c e cr md S T V h) {g:Nat->Bool} {t:Nat} (low:∀ j,2+c / 4<=j->j<t->g j=true) (t0:2+c / 4<=t) (tb:t<=b) (gt:t<b->g t=false) {s:Nat} (sl:s<=4096) :
  ∃ h',Zi 162 [.c (.ptr (n+13) 0),.c (.int .i64 (s:Int)),.g (J6 g)] h (.w (.c (.int .i64 (if t<b then (t:Int) else -1)))) h'/\HE n q a b c e cr md S T V h'/\h.next<=h'.next/\∀ m,m<h.next->m≠n+13->h'.get m=h.get m:=by
 obtain⟨g1,g2,g3,g4,g5,g6,g7,g8,g9,g10,g11⟩:=Ya f
 obtain⟨nq,nx,n0⟩:=M.nx
 obtain⟨st,⟨kn,hs⟩,⟨dk,gl⟩,ht⟩:=M.cells
 unfold gdL gdD at gl
 have pl:(J6 g).length=256:=Eb _
 have cF:=Z6z Hh g (s:=2+c / 4) (t:=t) (u:=b) t0 tb oM low gt
 have q4:R6 .i64 (c:Int) 4=some (.int .i64 ((c / 4:Nat):Int)):=Nj (b:=4) oM oM
 have e2:(2:Int)+((c / 4:Nat):Int)=((2+c / 4:Nat):Int):=rfl
 have d0:decide (((2+c / 4:Nat):Int)<(b:Int))=true:=decide_eq_true oM
 obtain⟨y,hy⟩:=xzE (2+c / 4)
 rw[hy] at cF e2 d0 t0
 obtain⟨B,hB⟩:=xzE (J6 g)
 rw[hB] at pl cF ⊢
 obtain⟨z,hz⟩:=xzE ((if t<b then (t:Int) else -1))
 rw[hz] at cF ⊢
 refine Fz ?_
 by_cases tl:t<b
 ·obtain rfl:z=(t:Int):=by rw[<-hz,if_pos tl]
  have es:(s:Int)+(t:Int)=((s+t:Nat):Int):=rfl
  refine Y0 Hh Tryz.f162 ?_
  have Jf:=Lg @f @hs @gl @pl @q4 @e2 @d0 @es
  iterate 17 (first|refine Goes.Zl Lx ?_|refine Zr Hh (EY Za (G7 Hh)) Lx ?_|apply gS)
  iterate 7 (first|refine Goes.Zl Lx ?_|refine Zr Hh (Jj Za cF) Lx ?_|apply gS)
  refine Ow fun hA eA=>?_
  have nA:hA.next=h.next+2:=nxQ eA
  have kA:∀ m,m<h.next->hA.get m=h.get m:=kQ eA
  clear eA
  have MA:=M.keep (h2:=hA) oM (fun m hm=>kA m oM)
  obtain⟨hC,e8,MC,nC,rC⟩:=MA.busy ((s+t:Nat):Int)
  have c8:=Zxq Hh e8
  iterate 5 (first|refine Goes.Zl Lx ?_|refine Zr Hh (Zp Za c8) Lx ?_|apply gS)
  exact⟨_,_,Zf,rfl,MC,oM,fun m hm hne=>(rC m hne).trans (kA m hm)⟩
 ·obtain rfl:z = -1:=by rw[<-hz,if_neg tl]
  refine Y0 Hh Tryz.f162 ?_
  have Jf:=El @f @hs @gl @pl @q4 @e2 @d0
  iterate 17 (first|refine Goes.Zl Lx ?_|refine Zr Hh (EY Za (G7 Hh)) Lx ?_|apply gS)
  iterate 8 (first|refine Goes.Zl Lx ?_|refine Zr Hh (Jj Za cF) Lx ?_|apply gS)
  refine⟨_,_,Zf,rfl,M.keep ?_ (fun m hm=>?_),?_,fun m hm hne=>?_⟩
  ·first|omega|(simp only[H.Zb,H.Zc]<;>omega)
  ·exact Jg
  ·first|omega|(simp only[H.Zb,H.Zc]<;>omega)
  ·exact Jg
theorem Z2r {p k:Nat} {D:List Oq} {x y w:Nat} {h:Hq} (hp:h.get p=some (.row 3 (D.map U1) false)) (hk:D[k]? = some (x,y,w)) (x1:1<=x) (x2:x<4096):Zi 164 [.c (.ptr p (k * 3))] h (.tup []) (h.put p (.row 3 ((D.set k (x - 1,y,w)).map U1) false)):=by
 have hr:(D.map U1)[k]? = some [.int .i64 (x:Int),.int .i64 (y:Int),.int .i64 (w:Int)]:=by rw[List.getElem?_map,hk]; rfl
 have r1:read1 3 (D.map U1) (k * 3)=some (.int .i64 (x:Int)):=Mr (sz:=3) (j:=0) oM hr
 have w1:Z5 3 (D.map U1) (k * 3) [.int .i64 ((x:Int) - 1)]=some ((D.map U1).set k [.int .i64 ((x:Int) - 1),.int .i64 (y:Int),.int .i64 (w:Int)]):=Zbu (j:=0) hr rfl oM
 have fin:(D.map U1).set k [.int .i64 ((x:Int) - 1),.int .i64 (y:Int),.int .i64 (w:Int)]=(D.set k (x - 1,y,w)).map U1:=by
  rw[List.map_set]
  congr 1
  show _=[C.int .i64 ((x - 1:Nat):Int),.int .i64 (y:Int),.int .i64 (w:Int)]
  rw[show ((x - 1:Nat):Int)=(x:Int) - 1 by omega]
 obtain⟨Z,hZ⟩:=xzE (D.map U1)
 rw[hZ] at hp r1 w1 fin
 refine fnG Hh Tryz.f164 ?_
 have Jf:=Um @hp @r1 @w1 @Nat.add_zero
 repeat (first|refine Zr Hh Za Zn ?_)
 have Jf:=@fin; exact Zn
variable [Opn cr]
theorem Zyi (f:Y1 a b c e=true) (M:HE n q a b c e cr md S T V h) {k:Nat} (ka:k<a) (s2:1∈S/\1 ∉ T) (s3:2+e+k * b∈S/\2+e+k * b ∉ T) {nb:Lq} (nbl:nb.length=256)
  {F pD:Nat} {D D':List Oq} (hp:h.get pD=some (.row 3 (D.map U1) false)) (Dl:D.length=a) (Dl':D'.length=a) (Dm:D'.all (Qr (b - 2 - c / 4) c)=true) (pl:pD<h.next) (p32:q+9<=pD)
  (hF:∀ h2,h2.get pD=some (.row 3 (D.map U1) false)->Zi F [.c (.ptr pD (k * 3))] h2 (.tup []) (h2.put pD (.row 3 (D'.map U1) false))) :
  ∃ h',Zi 140 [.c (.ptr (n+13) 0),.c (.int .i64 (k:Int)),.g (pgL nb),.c (.slice pD 0 a 3),.c (.fn F [] [])] h (.w (.c (.int .i64 0))) h'/\HE n q a b c e cr md S T (Df (Df V (2+e+k * b) nb) 1 (Zgw D')) h'/\h.next<=h'.next/\∀ m,m<h.next->Out n q m->m≠pD->h'.get m=h.get m:=by
 obtain⟨g1,g2,g3,g4,g5,g6,g7,g8,g9,g10,g11⟩:=Ya f
 have st:=N8 (b:=b) ka
 obtain⟨zb,hb⟩:∃ z,2+e+k * b=z:=⟨_,rfl⟩
 rw[hb] at s3 ⊢
 have zbl:zb<2+e+a * b:=oM
 have ob:=F7 (z:=zb) (Ya f) oM zbl
 obtain⟨nq,nx,n0⟩:=M.nx
 have bl:(pgL nb).length=256:=by rw[Oz,nbl]
 have hB1:=fun {h:Hq} (M:HE n q a b c e cr md S T V h)=>M.put f ob zbl nbl s3.1 s3.2
 have hB2:=fun {V:Nat->Lq} {h:Hq} (M:HE n q a b c e cr md S T V h)=>M.put f (z:=1) (Zc5 a b c e) oM (Zco D') s2.1 s2.2
 obtain⟨mB,hmB⟩:∃ x,pgL nb=x:=⟨_,rfl⟩
 obtain⟨Y,hY⟩:=xzE (pgL (Zgw D'))
 have Yl:Y.length=256:=by rw[<-hY,Oz,Zco]
 have hY':pgL (Et (Lj D' 0 Bg))=Y:=hY
 rw[hmB] at bl ⊢
 simp only[hmB] at hB1
 simp only[hY] at hB2
 refine Fz ?_
 refine Y0 Hh Tryz.f140 ?_
 have Jf:=Um @f @hb @bl @Nat.zero_add
 iterate 3 (first|refine Zr Hh Za Gt ?_|apply gS)
 refine Ow fun hA eA=>?_
 have nA:hA.next=h.next+1:=nxQ eA
 have kA:∀ m,m<h.next->hA.get m=h.get m:=kQ eA
 have bA:hA.get h.next=some (.row 256 [mB] false):=by rw[eA]; exact Z0
 clear eA
 have MA:=M.keep (h2:=hA) oM (fun m hm=>kA m oM)
 obtain⟨_,⟨knA,hsA⟩,⟨dkA,glA⟩,_⟩:=MA.cells
 unfold gdL gdD at glA
 obtain⟨hB,e1,MB,nB,kB⟩:=hB1 MA
 have c1:=Zdt Hh e1
 have Jf:=Ej Jf @nA @bA @hsA @glA
 iterate 3 (first|refine Zr Hh (EY (EY Za (G7 Hh)) (Ro Hh)) Gt ?_|apply gS)
 iterate 6 (first|refine Goes.Zl Gt ?_|refine Zr Hh (Zp Za c1) Gt ?_|apply gS)
 have pB:=(kB pD ⟨oM,oM,oM,oM,oM⟩).trans ((kA _ pl).trans hp)
 have c2:=hF hB pB
 iterate 2 (first|refine Zr Hh (Zp Za c2) Gt ?_|apply gS)
 refine Ow fun hC eC=>?_
 have nC:hC.next=h.next+1:=by rw[eC,H.Zb,nB,nA]
 have kC:∀ m,m<h.next+1->Out n q m->m≠pD->hC.get m=hA.get m:=fun m hm ho hne=>by rw[eC,Zd hne]; exact kB m ho.1
 have pC:hC.get pD=some (.row 3 (D'.map U1) false):=by rw[eC,Zx]
 have MC:=MB.keep (h2:=hC) (by rw[eC,H.Zb]; omega) (fun m hm=>by rw[eC,Zd oM])
 clear eC
 obtain⟨stC,⟨knC,hsC⟩,⟨dkC,glC⟩,_⟩:=MC.cells
 unfold gdL gdD at glC
 have Jf:=Jl Jf (Yw @nC @pC @hsC @glC @stC @Dl' @Dm @hY' @Yl)
 iterate 7 (first|refine Goes.Zl Gt ?_|refine Zr Hh (EY (EY Za (G7 Hh)) (Zu8 Hh)) Gt ?_|apply gS)
 refine Ow fun hD eD=>?_
 have nD:hD.next=h.next+2:=by rw[eD]; simp only[H.Zb,H.Zc,nC]
 have kD:∀ m,m<h.next+1->Out n q m->m≠pD->hD.get m=hA.get m:=fun m hm ho hne=>by rw[eD]; refine Eq.trans ?_ (kC m hm ho hne); exact Jg
 have bD:hD.get (h.next+1)=some (.row 256 [Y] false):=by rw[eD,<-nC]; exact Z0
 have MD:=MC.keep (h2:=hD) oM (fun m hm=>by rw[eD]; have:=MC.nx; exact Jg)
 clear eD
 obtain⟨hE,e3,ME,nE,kE⟩:=hB2 MD
 have c3:=Zdt Hh e3
 have Jf:=Jl Jf @bD
 iterate 2 (first|refine Zr Hh (Zp Za c3) Gt ?_|apply gS)
 exact⟨_,_,Y6,rfl,ME,oM,fun m hm ho hne=>(kE m ho.1).trans ((kD m oM ho hne).trans (kA m hm))⟩
end
noncomputable def q115 (p:Lq):Code:=piece p (Ug Tryz.f115)
theorem Zmz:q115 [1,1,1,1,0,1,2]=.rangeFunc (.tmp 32) #[33] (q115 [1,1,1,1,0,1,2,5]) (q115 [1,1,1,1,0,1,2,6]):=kR
theorem Zbo:q115 [1,1,1,1,0,1,2,5]=.region 8 (Z7q (q115 [1,1,1,1,0,1,2,5])) false:=kR
theorem Zbp:q115 [1,1,1,1,0,1,2,6]=.block 1 (q115 [1,1,1,1,0,1,2,6,2]):=kR
noncomputable def q208 (p:Lq):Code:=piece p (Ug Tryz.f208)
theorem rs115:Tryz.f115.results.toList=[.cell 4 3,.cell 5 31]:=rfl
theorem rs208:Tryz.f208.results.toList=[]:=rfl
attribute [go_sem] rs115 rs208
theorem rd1 (c:C):read1 1 [[c]] 0=some c:=rfl
structure Bmp (a b c e:Nat) (V:Nat->Lq) (D:List Oq) (g:Nat->Nat->Bool):Prop where
 bm:∀ k,k<a->V (2+e+k * b)=Zfm (g k)
 des:Des V a b c D
 may:D.all (Qr (b - 2 - c / 4) c)=true
def Zjt (b c:Nat) (g:Nat->Bool):Prop:=∀ j,2+c / 4<=j->j<b->g j=true
structure FreeG (b c:Nat) (D:List Oq) (g:Nat->Nat->Bool) (k t x y w:Nat):Prop where
 t0:2+c / 4<=t
 tb:t<b
 low:∀ j,2+c / 4<=j->j<t->g k j=true
 gt:g k t=false
 hk:D[k]? = some (x,y,w)
 x1:1<=x
def Zjr (b e:Nat) (V:Nat->Lq) (D:List Oq) (g:Nat->Nat->Bool) (k t x y w:Nat):Nat->Lq:=Df (Df V (2+e+k * b) (Zfm (Zes (g k) t))) 1 (Zgw (D.set k (x - 1,y,w)))
structure TCb (n q a b c e:Nat) (cr:Cr) (md:Int) (S T:Lq) (V:Nat->Lq) (D:List Oq) (l p2 p4 p5 p7 pD:Nat) (ts:Zw) (h:Hq):Prop where
 M:HE n q a b c e cr md S T V h
 e2:Ze ts 2=.w (.c (.ptr p2 0))
 e4:Ze ts 4=.w (.c (.ptr p4 0))
 e5:Ze ts 5=.w (.c (.ptr p5 0))
 e7:Ze ts 7=.w (.c (.ptr p7 0))
 c2:h.get p2=some (.row 1 [[.ptr (n+13) 0]] false)
 c4:h.get p4=some (.row 1 [[.int .i64 0]] false)
 c5:h.get p5=some (.row 1 [[.int .i64 0]] false)
 c7:h.get p7=some (.row 1 [[.slice pD 0 a 3]] false)
 cD:h.get pD=some (.row 3 (D.map U1) false)
 b2:q+9<=p2/\p2<h.next
 b4:q+9<=p4/\p4<h.next
 b5:q+9<=p5/\p5<h.next
 b7:q+9<=p7/\p7<h.next
 bD:q+9<=pD/\pD<h.next
 bl:q+9<=l/\l<h.next
 n1:p2≠pD/\p4≠pD/\p5≠pD/\p7≠pD/\l≠pD
 n2:p4≠p5/\p2≠p4/\p2≠p5/\p7≠p4/\p7≠p5
 n3:l≠p2/\l≠p4/\l≠p5/\l≠p7
theorem TCb.keep {n q a b c e:Nat} {cr:Cr} {md:Int} {S T:Lq} {V:Nat->Lq} {D:List Oq} {l p2 p4 p5 p7 pD:Nat} {ts:Zw} {h h2:Hq} (C:TCb n q a b c e cr md S T V D l p2 p4 p5 p7 pD ts h) (M2:HE n q a b c e cr md S T V h2) (nx:h.next<=h2.next) (k:∀ m,m<h.next->q+9<=m->m≠l->h2.get m=h.get m):TCb n q a b c e cr md S T V D l p2 p4 p5 p7 pD ts h2:=by
 obtain⟨M,e2,e4,e5,e7,c2,c4,c5,c7,cD,b2,b4,b5,b7,bD,bl,n1,n2,n3⟩:=C
 exact⟨M2,e2,e4,e5,e7,(k _ b2.2 b2.1 (Ne.symm n3.1)).trans c2,(k _ b4.2 b4.1 (Ne.symm n3.2.1)).trans c4,(k _ b5.2 b5.1 (Ne.symm n3.2.2.1)).trans c5,(k _ b7.2 b7.1 (Ne.symm n3.2.2.2)).trans c7,(k _ bD.2 bD.1 (Ne.symm n1.2.2.2.2)).trans cD,⟨b2.1,oM⟩,⟨b4.1,oM⟩,⟨b5.1,oM⟩,⟨b7.1,oM⟩,⟨bD.1,oM⟩,⟨bl.1,oM⟩,n1,n2,n3⟩
section
variable (Hh:Hearts K Tryz.prog)
include Hh
variable {n q a b c e:Nat} {cr:Cr} [Opn cr] {md:Int} {S T:Lq} {V:Nat->Lq} {D:List Oq} {g:Nat->Nat->Bool} {l p2 p4 p5 p7 pD d:Nat} {ts:Zw} {h:Hq}
theorem btA (l:Nat) (ts:Zw) (k:Nat) (h:Hq):Z7 75 (some l) (q115 [1,1,1,1,0,1,2,5]) [] (ts.set 33 (.w (.c (.int .i64 (k:Int))))) h fun x ds' ts' h'=>x=.normal/\ds'=[]/\(∀ s,s<=8->Ze ts' s=Ze ts s)/\Ze ts' 9=.w (.c (.int .i64 (k:Int)))/\h'=h:=by
 refine Zr Hh Za Zf ?_
 refine⟨rfl,rfl,fun s hs=>?_,?_,rfl⟩
 ·simp (decide:=true) only [Yh hs]
 ·exact Zf
theorem Z6f (f:Y1 a b c e=true) (B:Bmp a b c e V D g) {k:Nat} (ka:k<a) (fu:Zjt b c (g k)) (C:TCb n q a b c e cr md S T V D l p2 p4 p5 p7 pD ts h) (e9:Ze ts 9=.w (.c (.int .i64 (k:Int)))) :
  Z7 75 (some l) (q115 [1,1,1,1,0,1,2,6]) [] ts h fun x _ _ h'=>x=.normal/\h.next<=h'.next/\HE n q a b c e cr md S T V h'/\∀ m,m<h.next->m≠n+6->m≠n+13->h'.get m=h.get m:=by
 obtain⟨M,e2,e4,e5,e7,c2,c4,c5,c7,cD,b2,b4,b5,b7,bD,bl,n1,n2,n3⟩:=C
 obtain⟨g1,g2,g3,g4,g5,g6,g7,g8,g9,g10,g11⟩:=Ya f
 have st:=N8 (b:=b) ka
 have bm:=B.bm k ka
 obtain⟨nq,nx,n0⟩:=M.nx
 obtain⟨zb,hb⟩:∃ z,2+e+k * b=z:=⟨_,rfl⟩
 rw[hb] at bm
 have zbl:zb<2+e+a * b:=oM
 have ob:=F7 (z:=zb) (Ya f) oM zbl
 have bl1:(J6 (g k)).length=256:=Eb _
 have hGE:=fun {h:Hq} (M:HE n q a b c e cr md S T V h)=>M.get f ob zbl
 simp only[bm,<-Zgn] at hGE
 have hFr:=fun {h:Hq} (M:HE n q a b c e cr md S T V h)=>Zyk Hh f M (g:=g k) (t:=b) fu oM (Nat.le_refl _) (fun w=>absurd w oM) (s:=zb) oM
 simp only[if_neg (Nat.lt_irrefl b)] at hFr
 obtain⟨B',hB⟩:=xzE (J6 (g k))
 rw[hB] at bl1
 simp only[hB] at hGE hFr
 obtain⟨_,⟨kn0,hs0⟩,⟨dk0,gl0⟩,_⟩:=M.cells
 unfold gdL gdD at gl0
 have Jf:=Ju @f @hs0 (Yw @gl0 @e2 @e4 @e5 @e7 @e9 @c2 @hb @bl1)
 iterate 4 (first|refine Zr Hh (EY (EY Za (G7 Hh)) (Ro Hh)) Rv ?_|apply gS)
 obtain⟨hZ,e1,MZ,nZ,rZ⟩:=hGE M
 have k1:=Eu Hh e1
 iterate 7 (first|refine Goes.Zl Rv ?_|refine Zr Hh (Zp Za k1) Rv ?_|apply gS)
 refine Ow fun hA eA=>?_
 have nA:hA.next=h.next+1:=by rw[eA]; simp only[H.Zb,H.Zc,nZ]
 have kA:∀ m,m<h.next->m≠n+6->hA.get m=h.get m:=fun m hm hne=>by rw[eA]; refine Eq.trans ?_ (rZ m hm hne); exact Jg
 have bA:hA.get h.next=some (.row 256 [B'] false):=by rw[eA,<-nZ]; exact Z0
 have MA:=MZ.keep (h2:=hA) oM (fun m hm=>by rw[eA]; exact Jg)
 clear eA
 have cA2:=(kA p2 oM oM).trans c2
 obtain⟨hC,k3,MC,nC,rC⟩:=hFr MA
 have Jf:=Um Jf @cA2 @bA @nZ
 iterate 6 (first|refine Goes.Zl Rv ?_|refine Zr Hh (Zp Za k3) Rv ?_|apply gS)
 exact⟨rfl,oM,MC,fun m hm h6 h13=>(rC m oM h13).trans (kA m hm h6)⟩
theorem Z81 (f:Y1 a b c e=true) (B:Bmp a b c e V D g) {k t x y w:Nat} (ka:k<a) (F:FreeG b c D g k t x y w) (s2:1∈S/\1 ∉ T) (s3:2+e+k * b∈S/\2+e+k * b ∉ T) (C:TCb n q a b c e cr md S T V D l p2 p4 p5 p7 pD ts h) (e9:Ze ts 9=.w (.c (.int .i64 (k:Int)))) :
  Z7 75 (some l) (q115 [1,1,1,1,0,1,2,6]) [] ts h fun x' _ _ h'=>x'=.ret/\h.next<=h'.next/\HE n q a b c e cr md S T (Zjr b e V D g k t x y w) h'/\(∀ m,m<h.next->Out n q m->m≠pD->m≠p4->m≠p5->h'.get m=h.get m)/\h'.get p4=some (.row 1 [[.int .i64 ((2+e+k * b+t:Nat):Int)]] false)/\h'.get p5=some (.row 1 [[.int .i64 0]] false):=by
 obtain⟨M,e2,e4,e5,e7,c2,c4,c5,c7,cD,b2,b4,b5,b7,bD,bl,n1,n2,n3⟩:=C
 obtain⟨t0,tb,low,gt,hk,x1⟩:=F
 obtain⟨g1,g2,g3,g4,g5,g6,g7,g8,g9,g10,g11⟩:=Ya f
 have st:=N8 (b:=b) ka
 have bm:=B.bm k ka
 have Dl:=B.des.2.2
 obtain⟨nq,nx,n0⟩:=M.nx
 have mx:=Tv (List.all_eq_true.1 B.may _ (List.mem_of_getElem? hk))
 simp only at mx
 have Dm:(D.set k (x - 1,y,w)).all (Qr (b - 2 - c / 4) c)=true:=by
  rw[List.all_eq_true]
  intro z hz
  rcases List.mem_or_eq_of_mem_set hz with h1|h1
  ·exact List.all_eq_true.1 B.may z h1
  ·rw[h1]
   unfold Qr
   rw[Em (by show x - 1<=_; omega),Em (by show y<=_; omega),Em (by show w+y<=_; omega)]
   rfl
 unfold Zjr
 obtain⟨D',hD'⟩:=xzE (D.set k (x - 1,y,w))
 have Dl':D'.length=a:=by rw[<-hD',List.length_set,Dl]
 rw[hD'] at Dm ⊢
 obtain⟨zb,hb⟩:∃ z,2+e+k * b=z:=⟨_,rfl⟩
 rw[hb] at bm s3 ⊢
 have zbl:zb<2+e+a * b:=oM
 have ob:=F7 (z:=zb) (Ya f) oM zbl
 have bl1:(J6 (g k)).length=256:=Eb _
 have ml:(J6 (Zes (g k) t)).length=256:=Eb _
 have hGE:=fun {h:Hq} (M:HE n q a b c e cr md S T V h)=>M.get f ob zbl
 simp only[bm,<-Zgn] at hGE
 have hFr:=fun {h:Hq} (M:HE n q a b c e cr md S T V h)=>Zyk Hh f M (g:=g k) (t:=t) low t0 oM (fun _=>gt) (s:=zb) oM
 simp only[if_pos tb] at hFr
 have hC:=fun {h:Hq} (M:HE n q a b c e cr md S T V h) (hp:h.get pD=some (.row 3 (D.map U1) false)) (pl:pD<h.next)=>Zyi Hh f M ka s2 (by rw[hb]; exact s3) (Zoc (Zes (g k) t)) (F:=164) hp Dl Dl' Dm pl bD.1 (fun h2 hp2=>by
  have:=Z2r Hh hp2 hk x1 oM
  rw[hD'] at this
  exact this)
 rw[hb] at hC
 simp only[<-Zgn] at hC
 have hr:(D.map U1)[k]? = some [.int .i64 (x:Int),.int .i64 (y:Int),.int .i64 (w:Int)]:=by rw[List.getElem?_map,hk]; rfl
 have r0:read1 3 (D.map U1) (k * 3)=some (.int .i64 (x:Int)):=Mr (sz:=3) (j:=0) oM hr
 have dx:decide ((x:Int)<=0)=false:=decide_eq_false oM
 have es:(zb:Int)+(t:Int)=((zb+t:Nat):Int):=rfl
 obtain⟨B',hB⟩:=xzE (J6 (g k))
 obtain⟨N',hN⟩:=xzE (J6 (Zes (g k) t))
 rw[hB] at bl1
 rw[hN] at ml
 simp only[hB] at hGE hFr
 simp only[hN] at hC
 obtain⟨_,⟨kn0,hs0⟩,⟨dk0,gl0⟩,_⟩:=M.cells
 unfold gdL gdD at gl0
 obtain⟨R,hR⟩:=xzE (D.map U1)
 have cD':=cD
 rw[hR] at r0 cD'
 have Jf:=Jl @f (Yw @hs0 @gl0 @e2 @e4 @e5 @e7 @e9 @c2 (Yw @hb @bl1 @ml @rd1 @r0 @dx @es @Nat.zero_add @Nat.add_zero))
 iterate 4 (first|refine Zr Hh (EY (EY Za (G7 Hh)) (Ro Hh)) J3 ?_|apply gS)
 obtain⟨hZ,e1,MZ,nZ,rZ⟩:=hGE M
 have k1:=Eu Hh e1
 iterate 7 (first|refine Goes.Zl J3 ?_|refine Zr Hh (Zp Za k1) J3 ?_|apply gS)
 refine Ow fun hA eA=>?_
 have nA:hA.next=h.next+1:=by rw[eA]; simp only[H.Zb,H.Zc,nZ]
 have kA:∀ m,m<h.next->m≠n+6->hA.get m=h.get m:=fun m hm hne=>by rw[eA]; refine Eq.trans ?_ (rZ m hm hne); exact Jg
 have bA:hA.get h.next=some (.row 256 [B'] false):=by rw[eA,<-nZ]; exact Z0
 have MA:=MZ.keep (h2:=hA) oM (fun m hm=>by rw[eA]; exact Jg)
 clear eA
 have cA2:=(kA p2 oM oM).trans c2
 obtain⟨hC',k3,MC,nC,rC⟩:=hFr MA
 have kC:∀ m,m<h.next->m≠n+6->m≠n+13->hC'.get m=h.get m:=fun m hm h6 h13=>(rC m oM h13).trans (kA m hm h6)
 have cC2:=(kC p2 oM oM oM).trans c2
 have cC7:=(kC p7 oM oM oM).trans c7
 have cCD:=(kC pD oM oM oM).trans cD'
 have bC:=(rC h.next oM oM).trans bA
 have Jf:=Um Jf @cA2 @bA @nZ
 iterate 8 (first|refine Goes.Zl J3 ?_|refine Zr Hh (Zp Za k3) J3 ?_|apply gS)
 have Jf:=Ju Jf @cC7 @cCD
 iterate 4 (first|refine Goes.Zl J3 ?_|refine Zr Hh Za J3 ?_|apply gS)
 have bC':=bC
 rw[<-hB] at bC'
 have k4:=Z98 Hh hC' h.next t (g k) oM gt bC'
 rw[hN] at k4
 iterate 3 (first|refine Zr Hh (Zp Za k4) J3 ?_|apply gS)
 refine Ow fun hD eD=>?_
 have nD:hD.next=hC'.next:=by rw[eD,H.Zb]
 have kD:∀ m,m<h.next->hD.get m=hC'.get m:=fun m hm=>by rw[eD,Zd oM]
 have bD':hD.get h.next=some (.row 256 [N'] false):=by rw[eD,Zx]
 have MD:=MC.keep (h2:=hD) oM (fun m hm=>kD m oM)
 clear eD
 have d2:=(kD p2 oM).trans cC2
 have d7:=(kD p7 oM).trans cC7
 have dD:=((kD pD oM).trans (kC pD oM oM oM)).trans cD
 obtain⟨hE,k5,ME,nE,kE⟩:=hC MD dD oM
 have q4:=(kE p4 oM ⟨⟨oM,oM,oM,oM,oM⟩,oM⟩ oM).trans ((kD p4 oM).trans ((kC p4 oM oM oM).trans c4))
 have q5:=(kE p5 oM ⟨⟨oM,oM,oM,oM,oM⟩,oM⟩ oM).trans ((kD p5 oM).trans ((kC p5 oM oM oM).trans c5))
 have Jf:=Um Jf @d2 @d7 @bD'
 iterate 6 (first|refine Goes.Zl J3 ?_|refine Zr Hh (Zp Za k5) J3 ?_|apply gS)
 have Jf:=Ju Jf @q4 @q5
 iterate 2 (first|refine Zr Hh Za J3 ?_|apply gS)
 refine⟨rfl,?_,ME.keep ?_ (fun m hm=>?_),fun m hm ho h1 h2 h3=>?_,?_,?_⟩
 ·simp only[H.Zb]; omega
 ·simp only[H.Zb]; omega
 ·exact Jg
 ·refine Eq.trans ?_ ((kE m oM ho h1).trans ((kD m hm).trans (kC m hm ho.1.1 ho.1.2.1))); exact Jg
 ·exact Ztx
 ·exact Ztx
end
end
end Go.Proofs.YteiljiijagmonaaGreatDoor
