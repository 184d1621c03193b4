/- mapping.take, and the steps of mapping.down, over any store whose handle is open. -/
import Derived.Test.YteiljiijagmonaaGreatDoorMpg
set_option maxRecDepth 100000
set_option maxHeartbeats 4000000
set_option linter.unusedSimpArgs false
set_option linter.unusedVariables false
set_option linter.unusedSectionVars false
namespace Go.Proofs.YteiljiijagmonaaGreatDoor
open Go.Ev
theorem ty225:K.types.get 225=some ti225:=kR
theorem sz225:ti225.size=1:=by rfl
theorem ag225:ti225.agg=false:=by rfl
attribute [go_sem] ty225 sz225 ag225
theorem rs54:Tryz.f54.results.toList=[.tmp 6,.tmp 7]:=rfl
theorem rs116:Tryz.f116.results.toList=[.tmp 8,.tmp 9,.tmp 10]:=rfl
attribute [go_sem] rs54 rs116
theorem Zz8 {ts:Zw} {h:Hq} (t:Go.TypeId) (x:Go.Operand) (lo hi:Option Go.Operand):Ux K ts h (.slice t x lo hi none)=Gf h (Ni K h (K.types.get t) (Zz K ts x) (N9 K ts lo) (N9 K ts hi)):=rfl
attribute [go_sem] Zz8
theorem Z7w (c:C):read1 1 [[c]] 0=some c:=rfl
def zer0:Lq:=List.replicate 256 0
theorem Zdz:zer0.length=256:=rfl
theorem Z5g:pgL zer0=List.replicate 256 (.int .u8 0):=kR
structure AlcV (n q a b c e:Nat) (cr:Cr) (md:Int) (S:Lq) (Al:(Nat->Lq)->Nat->Prop) (blk:Nat->Nat) (cap:Nat) (mt nk:Nat->Prop):Prop where
 take:∀ {V:Nat->Lq} {h:Hq} {T:Lq} {m near:Nat},HE n q a b c e cr md S T V h->Al V m->m<cap->nk near->(∀ z,mt z->z ∉ T)->∃ h' V',Zi 115 [.c (.ptr (n+13) 0),.c (.int .i64 (near:Int))] h (.tup [.c (.int .i64 (blk m:Nat)),.c (.int .i64 0)]) h'/\HE n q a b c e cr md S T V' h'/\Kp n q h h'/\Al V' (m+1)/\∀ z,¬ mt z->V' z=V z
 upd:∀ {V:Nat->Lq} {m z:Nat} {x:Lq},Al V m->¬ mt z->Al (Df V z x) m
 our4:∀ m,m<cap->Uu a b c e (blk m:Nat)=true/\blk m<2+e+a * b/\0<blk m/\¬ mt (blk m)
 inj:∀ m m',m<cap->m'<cap->blk m=blk m'->m=m'
structure AlcW (n q a b c e:Nat) (cr:Cr) (md:Int) (S:Lq) (Al:(Nat->Lq)->Nat->Prop) (blk:Nat->Nat) (cap:Nat) (mt nk:Nat->Prop):Prop extends AlcV n q a b c e cr md S Al blk cap mt nk where
 sS:∀ m,m<cap->blk m∈S
theorem AlcW.ours {n q a b c e:Nat} {cr:Cr} {md:Int} {S:Lq} {Al:(Nat->Lq)->Nat->Prop} {blk:Nat->Nat} {cap:Nat} {mt nk:Nat->Prop} (A:AlcW n q a b c e cr md S Al blk cap mt nk) (m:Nat) (h:m<cap):Uu a b c e (blk m:Nat)=true/\blk m<2+e+a * b/\0<blk m/\¬ mt (blk m)/\blk m∈S:=by
 obtain⟨o1,o2,o3,o4⟩:=A.our4 m h
 exact⟨o1,o2,o3,o4,A.sS m h⟩
structure Alc (n q a b c e:Nat) (cr:Cr) (md:Int) (S:Lq) (Al:(Nat->Lq)->Nat->Prop) (blk:Nat->Nat) (cap:Nat) (mt nk:Nat->Prop):Prop extends AlcW n q a b c e cr md S Al blk cap mt nk where
 near:nk 0/\∀ m,m<cap->nk (blk m)
section
variable (Hh:Hearts K Tryz.prog)
include Hh
variable {n q a b c e:Nat} {cr:Cr} [Opn cr] {md:Int} {S T:Lq} {V:Nat->Lq} {h:Hq} {Al:(Nat->Lq)->Nat->Prop} {blk:Nat->Nat} {cap:Nat} {mt nk:Nat->Prop} {m:Nat}
theorem Zzv (f:Y1 a b c e=true) (A:AlcV n q a b c e cr md S Al blk cap mt nk) {lv:Nat} (lS:0<lv->blk m∈S) (M:HE n q a b c e cr md S T V h) (al:Al V m) (mc:m<cap) {near:Nat} (nr:nk near) (hT:∀ z,mt z->z ∉ T) (bT:blk m ∉ T) (lv8:lv<=8) :
  ∃ h' V',Zi 54 [.c (.ptr (n+13) 0),.c (.int .i64 (lv:Int)),.c (.int .i64 (near:Int))] h (.tup [.c (.int .i64 (blk m:Nat)),.c (.int .i64 0)]) h'/\HE n q a b c e cr md S T V' h'/\Kp n q h h'/\Al V' (m+1)/\(∀ z,¬ mt z->z≠blk m->V' z=V z)/\(0<lv->V' (blk m)=zer0):=by
 obtain⟨o1,o2,o3,o4⟩:=A.our4 m mc
 obtain⟨hA,V1,c1,MA,kA,alA,vA⟩:=A.take M al mc nr hT
 by_cases l0:lv=0
 ·subst l0
  have d0:decide ((((0:Nat):Int)) > 0)=false:=rfl
  obtain⟨v,h',cc,rfl,rfl⟩:∃ v h',Zi 54 [.c (.ptr (n+13) 0),.c (.int .i64 ((0:Nat):Int)),.c (.int .i64 (near:Int))] h v h'/\v=.tup [.c (.int .i64 (blk m:Nat)),.c (.int .i64 0)]/\h'=hA:=by
   refine Y0 Hh Tryz.f54 ?_
   have Jf:=@d0
   iterate 3 (first|refine Zr Hh Za Zn ?_|apply gS)
   iterate 14 (first|refine Goes.Zl Zn ?_|refine Zr Hh (Zp Za c1) Zn ?_|apply gS)
   exact⟨_,_,Zf,rfl,rfl⟩
  exact⟨_,V1,cc,MA,kA,alA,fun z hz _=>vA z hz,fun w=>absurd w oM⟩
 ·have d0:decide ((lv:Int) > 0)=true:=decide_eq_true oM
  obtain⟨hB,e5,MB,nB,kB⟩:=MA.put f o1 o2 Zdz (lS oM) bT
  have c5:=Zdt Hh e5
  rw[Z5g] at c5
  obtain⟨v,h',cc,rfl,rfl⟩:∃ v h',Zi 54 [.c (.ptr (n+13) 0),.c (.int .i64 (lv:Int)),.c (.int .i64 (near:Int))] h v h'/\v=.tup [.c (.int .i64 (blk m:Nat)),.c (.int .i64 0)]/\h'=hB:=by
   refine Y0 Hh Tryz.f54 ?_
   have Jf:=@d0
   iterate 3 (first|refine Zr Hh Za Zn ?_|apply gS)
   iterate 11 (first|refine Goes.Zl Zn ?_|refine Zr Hh (Zp Za c1) Zn ?_|apply gS)
   iterate 8 (first|refine Goes.Zl Zn ?_|refine Zr Hh (Zp Za c5) Zn ?_|apply gS)
   exact⟨_,_,Zf,rfl,rfl⟩
  refine⟨_,Df V1 (blk m) zer0,cc,MB,⟨by have:=kA.1; omega,fun p hp ho=>(kB p ho.1).trans (kA.2 p hp ho)⟩,A.upd alA o4,fun z hz hne=>by rw[Y9 hne]; exact vA z hz,fun _=>Ov ..⟩
variable {p4 p11 p o k:Nat} {L:Lq}
theorem Zf6 (b0:Nat) (fr:Bool) (p o:Nat):Zi 116 [.c (.int .i64 (b0:Int)),.c (.slice p o 0 1),.c (.bool fr),.c (.ptr p4 0),.c (.ptr p11 0)] h (.tup [.c (.int .i64 (b0:Int)),.c (.bool fr),.c (.int .i64 0)]) h:=by
 have lf:=Xf p o 0
 refine fnG Hh Tryz.f116 ?_
 have Jf:=@lf
 iterate 9 (first|refine Goes.Zl Ur ?_|refine Zr Hh Za Ur ?_|apply gS)
 exact Zf
theorem Z0v (b0:Nat) (fr:Bool):Zi 116 [.c (.int .i64 (b0:Int)),.c .snil,.c (.bool fr),.c (.ptr p4 0),.c (.ptr p11 0)] h (.tup [.c (.int .i64 (b0:Int)),.c (.bool fr),.c (.int .i64 0)]) h:=by
 have lf:=Zuo
 refine fnG Hh Tryz.f116 ?_
 have Jf:=@lf
 iterate 9 (first|refine Goes.Zl Ur ?_|refine Zr Hh Za Ur ?_|apply gS)
 exact Zf
theorem Z42 (f:Y1 a b c e=true) (M:HE n q a b c e cr md S T V h) {b0 w:Nat} (ob:Uu a b c e (b0:Nat)=true) (bl:b0<2+e+a * b) (w6:w<64) (nz:Yq (V b0) (4 * w)≠0) (fr:Bool)
  (h4:h.get p4=some (.row 1 [[.ptr (n+13) 0]] false)) (h11:h.get p11=some (.row 1 [[.fn 116 [] [some (p4,0),some (p11,0)]]] false)) (hp:h.get p=some (.row 1 (rwI L) false)) (hw:L[o]? = some w) (b4:q+9<=p4/\p4<h.next) (b11:q+9<=p11/\p11<h.next) (bp:q+9<=p/\p<h.next) (k8:k<=8) {Q:Hq->Prop} {r1:Nat} {r2:Bool}
  (rec:∀ h1,HE n q a b c e cr md S T V h1->Kr n q h h1->∃ h2,Zi 116 [.c (.int .i64 (Yq (V b0) (4 * w):Nat)),.c (.slice p (o+1) k 1),.c (.bool false),.c (.ptr p4 0),.c (.ptr p11 0)] h1 (.tup [.c (.int .i64 (r1:Int)),.c (.bool r2),.c (.int .i64 0)]) h2/\h1.next<=h2.next/\Q h2) :
  ∃ h',Zi 116 [.c (.int .i64 (b0:Int)),.c (.slice p o (k+1) 1),.c (.bool fr),.c (.ptr p4 0),.c (.ptr p11 0)] h (.tup [.c (.int .i64 (r1:Int)),.c (.bool r2),.c (.int .i64 0)]) h'/\Q h':=by
 obtain⟨nq,nx,n0⟩:=M.nx
 obtain⟨hG,eG,MG,nG,rG⟩:=M.get f ob bl
 have c3:=Eu Hh eG
 have vl:=M.len ob bl
 have Yl:(pgL (V b0)).length=256:=by rw[Oz,vl]
 have cP:=fun {h:Hq} {p:Nat} (hp:h.get p=some (.row 256 [pgL (V b0)] false))=>Zzu Hh vl hp w6
 have rd:=rdI hw
 have lf:=Xf p o (k+1)
 have sf:=Zm8 p o (k+1) 1
 obtain⟨z,hz⟩:=xzE (Yq (V b0) (4 * w))
 obtain⟨Y,hY⟩:=xzE (pgL (V b0))
 rw[hY] at c3 Yl
 simp only[hz,hY] at cP rec
 rw[hz] at nz
 have ez:((z:Int) == 0)=false:=U7 oM
 have kz:(((k+1:Nat):Int) == 0)=false:=U7 oM
 obtain⟨R,hR⟩:=xzE (rwI L)
 rw[hR] at hp rd
 refine Fz ?_
 refine Y0 Hh Tryz.f116 ?_
 have Jf:=Ju @lf @sf (Yw @kz @h4 @Z7w @rd @Yl @ez @Nat.add_zero @Nat.mul_one @Nat.add_sub_cancel)
 iterate 8 (first|refine Goes.Zl O1 ?_|refine Zr Hh Za O1 ?_|apply gS)
 iterate 7 (first|refine Goes.Zl O1 ?_|refine Zr Hh (Zp Za c3) O1 ?_|apply gS)
 refine Ow fun hA eA=>?_
 have nA:hA.next=h.next+1:=by rw[eA]; simp only[H.Zb,H.Zc,nG]
 have kA:∀ m,m<h.next->m≠n+6->hA.get m=h.get m:=fun m hm hne=>by rw[eA]; refine Eq.trans ?_ (rG m hm hne); exact Jg
 have bA:hA.get h.next=some (.row 256 [Y] false):=by rw[eA,<-nG]; exact Z0
 have MA:=MG.keep (h2:=hA) oM (fun m hm=>by rw[eA]; exact Jg)
 clear eA
 have a4:=(kA p4 oM oM).trans h4
 have a11:=(kA p11 oM oM).trans h11
 have ap:=(kA p oM oM).trans hp
 have c6:=cP bA
 rw[<-nG] at c6
 obtain⟨hB,c19,nB,hQ⟩:=rec hA MA ⟨oM,kA⟩
 have Jf:=Ju Jf @a11 @ap
 iterate 9 (first|refine Goes.Zl O1 ?_|refine Zr Hh (Zp Za c6) O1 ?_|apply gS)
 iterate 2 (first|refine G6 Hh (Zp Za c19) Zgg ?_|apply gS)
 exact⟨_,_,Zf,rfl,hQ⟩
theorem Q6 (f:Y1 a b c e=true) (A:AlcV n q a b c e cr md S Al blk cap mt nk) (kS:0<k->blk m∈S) (M:HE n q a b c e cr md S T V h) (al:Al V m) (mc:m<cap) (hT:∀ z,mt z->z ∉ T) (bT:blk m ∉ T) {b0 w:Nat} (ob:Uu a b c e (b0:Nat)=true) (bl:b0<2+e+a * b) (bk:nk b0) (bm:¬ mt b0) (bS:b0∈S/\b0 ∉ T) (bn:b0≠blk m) (w6:w<64) (nz:Yq (V b0) (4 * w)=0) (fr:Bool)
  (h4:h.get p4=some (.row 1 [[.ptr (n+13) 0]] false)) (h11:h.get p11=some (.row 1 [[.fn 116 [] [some (p4,0),some (p11,0)]]] false)) (hp:h.get p=some (.row 1 (rwI L) false)) (hw:L[o]? = some w) (b4:q+9<=p4/\p4<h.next) (b11:q+9<=p11/\p11<h.next) (bp:q+9<=p/\p<h.next) (k8:k<=8) (b32:blk m<4096) {Q:Hq->Prop} {r1:Nat} {r2:Bool}
  (rec:∀ h1 V',HE n q a b c e cr md S T (Df V' b0 (Jd (V b0) (4 * w) (blk m))) h1->Al (Df V' b0 (Jd (V b0) (4 * w) (blk m))) (m+1)->(∀ z,¬ mt z->z≠blk m->V' z=V z)->(0<k->V' (blk m)=zer0)->Kp n q h h1->∃ h2,Zi 116 [.c (.int .i64 (blk m:Nat)),.c (.slice p (o+1) k 1),.c (.bool true),.c (.ptr p4 0),.c (.ptr p11 0)] h1 (.tup [.c (.int .i64 (r1:Int)),.c (.bool r2),.c (.int .i64 0)]) h2/\h1.next<=h2.next/\Q h2) :
  ∃ h',Zi 116 [.c (.int .i64 (b0:Int)),.c (.slice p o (k+1) 1),.c (.bool fr),.c (.ptr p4 0),.c (.ptr p11 0)] h (.tup [.c (.int .i64 (r1:Int)),.c (.bool r2),.c (.int .i64 0)]) h'/\Q h':=by
 obtain⟨nq,nx,n0⟩:=M.nx
 obtain⟨hG,eG,MG,nG,rG⟩:=M.get f ob bl
 have c3:=Eu Hh eG
 have vl:=M.len ob bl
 have Yl:(pgL (V b0)).length=256:=by rw[Oz,vl]
 have cP:=fun {h:Hq} {p:Nat} (hp:h.get p=some (.row 256 [pgL (V b0)] false))=>Zzu Hh vl hp w6
 have hTk:=fun {h:Hq} (M:HE n q a b c e cr md S T V h)=>Zzv Hh f A kS M al mc bk hT bT k8
 have pl:(Jd (V b0) (4 * w) (blk m)).length=256:=by rw[Qx]; exact vl
 have xb:=Wy (V b0)
 have u4:pgL (Jd (unN (pgL (V b0))) (4 * w) (blk m))=pgL (Jd (V b0) (4 * w) (blk m)):=by rw[Gh,Vd]
 have rl:(pgL (Jd (V b0) (4 * w) (blk m))).length=256:=by rw[Oz,pl]
 have r5:read1 256 [pgL (V b0)] 255=some (.int .u8 ((atN (V b0) 255:Nat):Int)):=Zr7 ⟨oM,oM⟩
 have rc:reaches 0 256 (some (.row 256 [pgL (V b0)] false))=true:=by
  show (match read1 256 [pgL (V b0)] 255 with|some _=>Nat.ble 1 256|none=>false)=true
  rw[r5]
  rfl
 have rd:=rdI hw
 have lf:=Xf p o (k+1)
 have sf:=Zm8 p o (k+1) 1
 have e1:(4:Int) * (w:Int)=((4 * w:Nat):Int):=rfl
 have kz:(((k+1:Nat):Int) == 0)=false:=U7 oM
 have k1:((k+1:Nat):Int) - 1=(k:Int):=oM
 have ez:(((0:Nat):Int) == 0)=true:=rfl
 obtain⟨X,hX⟩:=xzE (Jd (V b0) (4 * w) (blk m))
 obtain⟨u,hu⟩:=xzE (4 * w)
 have ul:u+4<=256:=oM
 obtain⟨Y,hY⟩:=xzE (pgL (V b0))
 obtain⟨G,hG'⟩:=xzE (blk m)
 rw[hX] at pl u4 rl
 rw[hu] at u4 e1
 rw[hY] at c3 Yl xb u4 rc
 simp only[nz,hY] at cP
 simp only[hX] at rec
 rw[hG'] at u4 b32 bn
 simp only[hG'] at rec hTk
 obtain⟨Z,hZ⟩:=xzE (pgL X)
 rw[hZ] at u4 rl
 obtain⟨R,hR⟩:=xzE (rwI L)
 rw[hR] at hp rd
 refine Fz ?_
 refine Y0 Hh Tryz.f116 ?_
 have Jf:=Nt @lf @sf @kz @k1 @h4 (Yw @Z7w @rd @Yl @ez @e1 @Nat.zero_add @Nat.add_zero @Nat.mul_one @Nat.add_sub_cancel)
 iterate 8 (first|refine Goes.Zl O1 ?_|refine Zr Hh Za O1 ?_|apply gS)
 iterate 7 (first|refine Goes.Zl O1 ?_|refine Zr Hh (Zp Za c3) O1 ?_|apply gS)
 refine Ow fun hA eA=>?_
 have nA:hA.next=h.next+1:=by rw[eA]; simp only[H.Zb,H.Zc,nG]
 have kA:∀ m,m<h.next->m≠n+6->hA.get m=h.get m:=fun m hm hne=>by rw[eA]; refine Eq.trans ?_ (rG m hm hne); exact Jg
 have bA:hA.get h.next=some (.row 256 [Y] false):=by rw[eA,<-nG]; exact Z0
 have MA:=MG.keep (h2:=hA) oM (fun m hm=>by rw[eA]; exact Jg)
 clear eA
 have a4:=(kA p4 oM oM).trans h4
 have a11:=(kA p11 oM oM).trans h11
 have ap:=(kA p oM oM).trans hp
 have c6:=cP bA
 rw[<-nG] at c6
 obtain⟨hB,V',c9,MB,kB,alB,vB,zB⟩:=hTk MA
 have nB:=kB.1
 have bb4:=(kB.2 p4 oM ⟨⟨oM,oM,oM,oM,oM⟩,oM⟩).trans a4
 have bb11:=(kB.2 p11 oM ⟨⟨oM,oM,oM,oM,oM⟩,oM⟩).trans a11
 have bbp:=(kB.2 p oM ⟨⟨oM,oM,oM,oM,oM⟩,oM⟩).trans ap
 have bbA:=(kB.2 h.next oM ⟨⟨oM,oM,oM,oM,oM⟩,oM⟩).trans bA
 obtain⟨hC,eC,MC,nC,rC⟩:=MB.get f ob bl
 rw[vB b0 bm bn,hY] at eC
 have c12:=Eu Hh eC
 have cc4:=(rC p4 oM oM).trans bb4
 have cc11:=(rC p11 oM oM).trans bb11
 have ccp:=(rC p oM oM).trans bbp
 have ccA:=(rC h.next oM oM).trans bbA
 have Jf:=Jl Jf (Yw @a4 @a11 @ap @bb4 @cc4 @cc11 @ccp @ccA @nG)
 iterate 9 (first|refine Goes.Zl O1 ?_|refine Zr Hh (Zp Za c6) O1 ?_|apply gS)
 iterate 7 (first|refine Goes.Zl O1 ?_|refine Zr Hh (Zp Za c9) O1 ?_|apply gS)
 iterate 6 (first|refine Goes.Zl O1 ?_|refine Zr Hh (Zp Za c12) O1 ?_|apply gS)
 refine Ow fun hD eD=>?_
 have nD:hD.next=hC.next:=by rw[eD,H.Zb]
 have kD:∀ m,m≠h.next->hD.get m=hC.get m:=fun m hm=>by rw[eD,Zd oM]
 have dA:hD.get h.next=some (.row 256 [Y] false):=by rw[eD]; exact Z0
 clear eD
 have d4:=(kD p4 oM).trans cc4
 have d11:=(kD p11 oM).trans cc11
 have dp:=(kD p oM).trans ccp
 have Jf:=Lg Jf @dA @d4 @d11 @dp @xb @u4 @rc
 iterate 2 (first|refine G6 Hh (EY Za (Za5 Hh)) Zgg ?_|apply gS)
 refine Ow fun hE eE=>?_
 have nE:hE.next=hC.next:=by rw[eE,H.Zb,nD]
 have kE:∀ m,m≠h.next->hE.get m=hC.get m:=fun m hm=>by rw[eE,Zd oM]; exact kD m hm
 have xA:hE.get h.next=some (.row 256 [Z] false):=by rw[eE]; exact Z0
 clear eE
 have x4:=(kE p4 oM).trans cc4
 have x11:=(kE p11 oM).trans cc11
 have xp:=(kE p oM).trans ccp
 have ME:=MC.keep (h2:=hE) oM (fun m hm=>kE m oM)
 obtain⟨hF,eF,MF,nF,kF⟩:=ME.put f ob bl pl bS.1 bS.2
 rw[hZ] at eF
 have c16:=Zdt Hh eF
 have y4:=(kF p4 ⟨oM,oM,oM,oM,oM⟩).trans x4
 have y11:=(kF p11 ⟨oM,oM,oM,oM,oM⟩).trans x11
 have yp:=(kF p ⟨oM,oM,oM,oM,oM⟩).trans xp
 obtain⟨hH,c19,nH,hQ⟩:=rec hF V' MF (A.upd alB bm) vB zB ⟨oM,fun m hm ho=>(kF m ho.1).trans ((kE m oM).trans ((rC m oM ho.1.1).trans ((kB.2 m oM ho).trans (kA m hm ho.1.1))))⟩
 have Jf:=Nt Jf @xA @x4 @y11 @yp @rl
 iterate 6 (first|refine Goes.Zl O1 ?_|refine Zr Hh (Zp Za c16) O1 ?_|apply gS)
 iterate 2 (first|refine G6 Hh (Zp Za c19) Zgg ?_|apply gS)
 exact⟨_,_,Zf,rfl,hQ⟩
end
theorem rs55:Tryz.f55.results.toList=[.tmp 8,.tmp 9,.tmp 10]:=rfl
theorem rs16:Tryz.f16.results.toList=[.cell 8 37,.tmp 9,.tmp 10,.tmp 11]:=rfl
attribute [go_sem] rs55 rs16
section
variable (Hh:Hearts K Tryz.prog)
include Hh
variable {n q a b c e:Nat} {cr:Cr} [Opn cr] {md:Int} {S T:Lq} {V:Nat->Lq} {h:Hq} {Al:(Nat->Lq)->Nat->Prop} {blk:Nat->Nat} {cap:Nat} {mt nk:Nat->Prop} {m:Nat}
theorem Zc2 (M:HE n q a b c e cr md S T V h) {b0:Nat} {s:C} {fr:Bool} {r1:Nat} {r2:Bool} {R:(Nat->Lq)->Prop}
  (rec:∀ h1 p4 p11,HE n q a b c e cr md S T V h1->h.next<=h1.next->(∀ m,m<h.next->h1.get m=h.get m)->h1.get p4=some (.row 1 [[.ptr (n+13) 0]] false)->h1.get p11=some (.row 1 [[.fn 116 [] [some (p4,0),some (p11,0)]]] false)->q+9<=p4/\p4<h1.next->q+9<=p11/\p11<h1.next->∃ h2,Zi 116 [.c (.int .i64 (b0:Int)),.c s,.c (.bool fr),.c (.ptr p4 0),.c (.ptr p11 0)] h1 (.tup [.c (.int .i64 (r1:Int)),.c (.bool r2),.c (.int .i64 0)]) h2/\Kp n q h1 h2/\∃ V',HE n q a b c e cr md S T V' h2/\R V') :
  ∃ h',Zi 55 [.c (.ptr (n+13) 0),.c (.int .i64 (b0:Int)),.c s,.c (.bool fr)] h (.tup [.c (.int .i64 (r1:Int)),.c (.bool r2),.c (.int .i64 0)]) h'/\Kp n q h h'/\∃ V',HE n q a b c e cr md S T V' h'/\R V':=by
 obtain⟨nq,nx,n0⟩:=M.nx
 refine Fz ?_
 refine Y0 Hh Tryz.f55 ?_
 have Jf:=@Z7w
 iterate 7 (first|refine Zr Hh Za Zty ?_|apply gS)
 refine Ow fun hA eA=>?_
 have nA:hA.next=h.next+1+1:=nxQ eA
 have kA:∀ m,m<h.next->hA.get m=h.get m:=kQ eA
 have a4:hA.get h.next=some (.row 1 [[.ptr (n+13) 0]] false):=by rw[eA]; exact Zf
 have a11:hA.get (h.next+1)=some (.row 1 [[.fn 116 [] [some (h.next,0),some (h.next+1,0)]]] false):=by rw[eA]; exact Zf
 clear eA
 have MA:=M.keep (h2:=hA) oM (fun m hm=>kA m oM)
 obtain⟨hB,c3,kB,hR⟩:=rec hA h.next (h.next+1) MA oM kA a4 a11 ⟨oM,oM⟩ ⟨oM,oM⟩
 have Jf:=Jl Jf @a11
 iterate 2 (first|refine Zr Hh (Zp Za c3) Zty ?_|apply gS)
 exact⟨_,_,Zf,rfl,⟨by have:=kB.1; omega,fun m hm ho=>(kB.2 m oM ho).trans (kA m hm)⟩,hR⟩
theorem Z5s (f:Y1 a b c e=true) (m0:md≠0) (M:HE n q a b c e cr md S T V h) {x:List C} {P:Nat->Nat} (X:InoP x P) {i:Nat} (hi:i<110) (near:Int) (nz:P (Uw i).1≠0) {r1:Nat} {r2:Bool} {R:(Nat->Lq)->Prop}
  (dn:∀ h1 s,HE n q a b c e cr md S T V h1->SlI h1 s (Uw i).2->(∀ p o n z,s=.slice p o n z->q+9<=p/\p<h1.next)->∃ h2,Zi 55 [.c (.ptr (n+13) 0),.c (.int .i64 (P (Uw i).1:Nat)),.c s,.c (.bool false)] h1 (.tup [.c (.int .i64 (r1:Int)),.c (.bool r2),.c (.int .i64 0)]) h2/\Kp n q h1 h2/\∃ V',HE n q a b c e cr md S T V' h2/\R V') :
  ∃ h',Zi 16 [.c (.ptr (n+13) 0),.g x,.c (.int .i64 (i:Int)),.c (.int .i64 near)] h (.tup [.g x,.c (.int .i64 (r1:Int)),.c (.bool r2),.c (.int .i64 0)]) h'/\Kp n q h h'/\∃ V',HE n q a b c e cr md S T V' h'/\R V':=by
 obtain⟨nq,nx,n0⟩:=M.nx
 obtain⟨st,⟨kn,hs⟩,⟨dk,gl⟩,ht⟩:=M.cells
 unfold gdL gdD at gl
 have dm:(md != 0)=true:=Zhp m0
 obtain⟨p11,w6⟩:=Zsg hi
 have xl:=X.xl
 have rx:=X.rd p11
 have pb:=X.pb _ p11
 have hO:=fun {h:Hq} (h0:0<h.next)=>Z7n Hh hi (h:=h) h0
 obtain⟨ws,hws⟩:=xzE ((Uw i).2)
 obtain⟨pk,hpk⟩:=xzE ((Uw i).1)
 simp only[hws,hpk] at hO dn p11 rx pb nz
 obtain⟨b0,hb0⟩:=xzE (P pk)
 simp only[hb0] at rx pb nz dn
 have ez:((b0:Int) == 0)=false:=U7 oM
 refine Fz ?_
 refine Y0 Hh Tryz.f16 ?_
 have Jf:=Jl @f (Yw @hs @gl @ht @dm @xl @rx @pb @p11 @ez)
 iterate 8 (first|refine Goes.Zl Ji ?_|refine Zr Hh (EY Za (Vk Hh)) Ji ?_|apply gS)
 refine Ow fun hA eA=>?_
 have nA:hA.next=h.next+2:=nxQ eA
 have kA:∀ m,m<h.next->hA.get m=h.get m:=kQ eA
 have b5:hA.get h.next=some (.row 16 [x] false):=by rw[eA]; exact Z0
 obtain⟨y,yl,b8⟩:∃ y:List C,y.length=16/\hA.get (h.next+1)=some (.row 16 [y] false):=⟨_,rfl,by rw[eA]; exact Y6⟩
 clear eA
 obtain⟨hB,s,c3,nB,kB,sB,lB⟩:=hO (h:=hA) oM
 have B5:=(kB h.next oM).trans b5
 have B8:=(kB (h.next+1) oM).trans b8
 have MB:=M.keep (h2:=hB) oM (fun m hm=>(kB m oM).trans (kA m oM))
 obtain⟨_,⟨knB,hsB⟩,⟨dkB,glB⟩,htB⟩:=MB.cells
 unfold gdL gdD at glB
 have Jf:=El Jf @B5 @B8 @yl @hsB @glB @htB
 iterate 8 (first|refine Goes.Zl Ji ?_|refine Zr Hh (Zp Za c3) Ji ?_|apply gS)
 iterate 16 (first|refine Goes.Zl Ji ?_|refine Zr Hh (EY Za (Zeu Hh)) Ji ?_|apply gS)
 refine Ow fun hC eC=>?_
 have nC:hC.next=hB.next:=by rw[eC]; simp only[H.Zb]
 have kC:∀ m,m<hB.next->m≠h.next+1->hC.get m=hB.get m:=fun m hm hne=>by rw[eC]; exact Jg
 have C8:hC.get (h.next+1)=some (.row 16 [x] false):=by rw[eC]; exact Z0
 clear eC
 have MC:=MB.keep (h2:=hC) oM (fun m hm=>kC m oM oM)
 obtain⟨hD,c17,kD,V',MD,rv⟩:=dn hC s MC (sB.keep fun p o n z e=>kC p (lB p o n z e).2 (by have:=(lB p o n z e).1; omega)) (fun p o n z e=>⟨by have:=(lB p o n z e).1; omega,by have:=(lB p o n z e).2; omega⟩)
 have nD:=kD.1
 have D8:=(kD.2 (h.next+1) oM ⟨⟨oM,oM,oM,oM,oM⟩,oM⟩).trans C8
 have Jf:=Jl Jf @D8
 iterate 8 (first|refine Goes.Zl Ji ?_|refine Zr Hh (Zp Za c17) Ji ?_|apply gS)
 refine⟨_,_,Z0,rfl,⟨?_,fun m hm ho=>?_⟩,V',MD.keep ?_ (fun m hm=>?_),rv⟩
 ·first|omega|(simp only[H.Zb,H.Zc]<;>omega)
 ·refine Eq.trans ?_ ((kD.2 m oM ho).trans ((kC m oM oM).trans ((kB m oM).trans (kA m hm)))); exact Jg
 ·first|omega|(simp only[H.Zb,H.Zc]<;>omega)
 ·exact Jg
theorem Zzt (f:Y1 a b c e=true) (m0:md≠0) (A:AlcV n q a b c e cr md S Al blk cap mt nk) {i:Nat} (wS:0<(Uw i).2.length->blk m∈S) (M:HE n q a b c e cr md S T V h) (al:Al V m) (mc:m<cap) (hT:∀ z,mt z->z ∉ T) (bT:blk m ∉ T) (b32:blk m<4096) {x:List C} {P:Nat->Nat} (X:InoP x P) (hi:i<110) {near:Nat} (nr:nk near) (nz:P (Uw i).1=0) {r1:Nat} {r2:Bool} {R:(Nat->Lq)->Prop}
  (dn:∀ h1 s V1,HE n q a b c e cr md S T V1 h1->Al V1 (m+1)->(∀ z,¬ mt z->z≠blk m->V1 z=V z)->(0<(Uw i).2.length->V1 (blk m)=zer0)->SlI h1 s (Uw i).2->(∀ p o n z,s=.slice p o n z->q+9<=p/\p<h1.next)->∃ h2,Zi 55 [.c (.ptr (n+13) 0),.c (.int .i64 (blk m:Nat)),.c s,.c (.bool true)] h1 (.tup [.c (.int .i64 (r1:Int)),.c (.bool r2),.c (.int .i64 0)]) h2/\Kp n q h1 h2/\∃ V',HE n q a b c e cr md S T V' h2/\R V') :
  ∃ h',Zi 16 [.c (.ptr (n+13) 0),.g x,.c (.int .i64 (i:Int)),.c (.int .i64 (near:Int))] h (.tup [.g (x.set (4+(Uw i).1) (.int .u32 (blk m:Nat))),.c (.int .i64 (r1:Int)),.c (.bool r2),.c (.int .i64 0)]) h'/\Kp n q h h'/\∃ V',HE n q a b c e cr md S T V' h'/\R V':=by
 obtain⟨nq,nx,n0⟩:=M.nx
 obtain⟨st,⟨kn,hs⟩,⟨dk,gl⟩,ht⟩:=M.cells
 unfold gdL gdD at gl
 have dm:(md != 0)=true:=Zhp m0
 obtain⟨p11,w6⟩:=Zsg hi
 have xl:=X.xl
 have rx:=X.rd p11
 have wl:=Znf i
 have hO:=fun {h:Hq} (h0:0<h.next)=>Z7n Hh hi (h:=h) h0
 obtain⟨ws,hws⟩:=xzE ((Uw i).2)
 obtain⟨pk,hpk⟩:=xzE ((Uw i).1)
 simp only[hws,hpk] at hO dn p11 rx nz wl wS ⊢
 rw[nz] at rx
 have hTk:=fun {h:Hq} (M:HE n q a b c e cr md S T V h)=>Zzv Hh f A wS M al mc nr hT bT wl
 obtain⟨G,hG'⟩:=xzE (blk m)
 simp only[hG'] at dn hTk ⊢
 rw[hG'] at b32
 have w8:Z5 16 [x] (4+pk) [.int .u32 (G:Int)]=some [x.set (4+pk) (.int .u32 (G:Int))]:=by
  have h1:(4+pk) / 16=0:=oM
  have h2:(4+pk) % 16=4+pk:=oM
  simp only[Z5,h1,h2,List.getElem?_cons_zero]
  rw[Zci oM,cond_true]
  rfl
 have wU:Jb .u32 (G:Int)=.int .u32 (G:Int):=Zdq oM
 have x1l:(x.set (4+pk) (.int .u32 (G:Int))).length=16:=by rw[List.length_set]; exact xl
 obtain⟨x1,hx1⟩:=xzE (x.set (4+pk) (.int .u32 (G:Int)))
 rw[hx1] at w8 x1l ⊢
 have ez:(((0:Nat):Int) == 0)=true:=rfl
 refine Fz ?_
 refine Y0 Hh Tryz.f16 ?_
 have Jf:=Yw @f @hs @gl @ht @dm @xl @rx @p11 @ez
 iterate 8 (first|refine Goes.Zl Ji ?_|refine Zr Hh (EY Za (Vk Hh)) Ji ?_|apply gS)
 refine Ow fun hA eA=>?_
 have nA:hA.next=h.next+2:=nxQ eA
 have kA:∀ m,m<h.next->hA.get m=h.get m:=kQ eA
 have b5:hA.get h.next=some (.row 16 [x] false):=by rw[eA]; exact Z0
 obtain⟨y,yl,b8⟩:∃ y:List C,y.length=16/\hA.get (h.next+1)=some (.row 16 [y] false):=⟨_,rfl,by rw[eA]; exact Y6⟩
 clear eA
 obtain⟨hB,s,c3,nB,kB,sB,lB⟩:=hO (h:=hA) oM
 have B5:=(kB h.next oM).trans b5
 have B8:=(kB (h.next+1) oM).trans b8
 have MB:=M.keep (h2:=hB) oM (fun m hm=>(kB m oM).trans (kA m oM))
 obtain⟨_,⟨knB,hsB⟩,⟨dkB,glB⟩,htB⟩:=MB.cells
 unfold gdL gdD at glB
 obtain⟨lf,ln⟩:=Zrs sB
 have Jf:=Yw Jf @B5 @B8 @yl @hsB @glB @htB @lf @ln
 iterate 8 (first|refine Goes.Zl Ji ?_|refine Zr Hh (Zp Za c3) Ji ?_|apply gS)
 iterate 15 (first|refine Goes.Zl Ji ?_|refine Zr Hh (EY Za (Zeu Hh)) Ji ?_|apply gS)
 refine Ow fun hC eC=>?_
 have nC:hC.next=hB.next:=by rw[eC]; simp only[H.Zb]
 have kC:∀ m,m<hB.next->m≠h.next+1->hC.get m=hB.get m:=fun m hm hne=>by rw[eC]; exact Jg
 have C8:hC.get (h.next+1)=some (.row 16 [x] false):=by rw[eC]; exact Z0
 clear eC
 have MC:=MB.keep (h2:=hC) oM (fun m hm=>kC m oM oM)
 obtain⟨hE,V1,c12,ME,kE,alE,vE,zE⟩:=hTk MC
 have nE:=kE.1
 have E8:=(kE.2 (h.next+1) oM ⟨⟨oM,oM,oM,oM,oM⟩,oM⟩).trans C8
 have Jf:=Um Jf @E8 @w8 @wU
 iterate 10 (first|refine Goes.Zl Ji ?_|refine Zr Hh (Zp Za c12) Ji ?_|apply gS)
 refine Ow fun hF eF=>?_
 have nF:hF.next=hE.next:=by rw[eF]; simp only[H.Zb]
 have kF:∀ m,m≠h.next+1->hF.get m=hE.get m:=fun m hne=>by rw[eF,Zd hne]
 have F8:hF.get (h.next+1)=some (.row 16 [x1] false):=by rw[eF,Zx]
 clear eF
 have MF:=ME.keep (h2:=hF) oM (fun m hm=>kF m oM)
 obtain⟨hD,c17,kD,V',MD,rv⟩:=dn hF s V1 MF alE vE zE (sB.keep fun p o n' z e=>by
  have l1:=lB p o n' z e
  refine (kF p oM).trans ((kE.2 p oM ⟨⟨oM,oM,oM,oM,oM⟩,oM⟩).trans (kC p l1.2 oM))) (fun p o n z e=>⟨by have:=(lB p o n z e).1; omega,by have:=(lB p o n z e).2; omega⟩)
 have nD:=kD.1
 have D8:=(kD.2 (h.next+1) oM ⟨⟨oM,oM,oM,oM,oM⟩,oM⟩).trans F8
 have Jf:=Jl Jf @D8
 iterate 8 (first|refine Goes.Zl Ji ?_|refine Zr Hh (Zp Za c17) Ji ?_|apply gS)
 refine⟨_,_,(by have Jf:=Jl @D8 @x1l; exact Z0),rfl,⟨?_,fun m hm ho=>?_⟩,V',MD.keep ?_ (fun m hm=>?_),rv⟩
 ·first|omega|(simp only[H.Zb,H.Zc]<;>omega)
 ·refine Eq.trans ?_ ((kD.2 m oM ho).trans ((kF m oM).trans ((kE.2 m oM ho).trans ((kC m oM oM).trans ((kB m oM).trans (kA m hm)))))); exact Jg
 ·first|omega|(simp only[H.Zb,H.Zc]<;>omega)
 ·exact Jg
end
end Go.Proofs.YteiljiijagmonaaGreatDoor
