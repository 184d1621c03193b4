/- dirs.Add: a free slot; a new block; no block; a name that may not be. -/
import Derived.Test.YtmanipmhebgdbaaGreatDoorTnm
import Derived.Test.YtmanipmhebgdbaaGreatDoorAlh
set_option maxRecDepth 100000
set_option maxHeartbeats 4000000
set_option linter.unusedSimpArgs false
set_option linter.unusedVariables false
set_option linter.unusedSectionVars false
namespace Go.Proofs.YtmanipmhebgdbaaGreatDoor
open Go.Ev
section
variable (Hh:Hearts K Tryz.prog)
include Hh
variable {n q a b c e:Nat} {cr:Cr} [Opn cr] {md:Int} {S:Lq} {V:Nat->Lq} {h:Hq} {P:Nat->Nat} {bs:Lq} {L:List (List Sl)} {s:List UInt8} {j g u:Nat}
theorem Zxp (f:Yu a b c e=true) (m0:md≠0) (M:HE n q a b c e cr md S [] V h) (D:DirS a b c e V j g P bs L) (my:Rp s=true) (u0:0<u) (u1:u<=a * c) (u32:u<4294967296) (th:thF s (Uw L)=false) {z:Nat} (fz:frF bs (Uw L)=z) (z0:z≠0) (zs:z∈S) :
  ∃ h' i k l,Zb 23 [.c (.ptr (n+13) 0),.c (.int .i64 ((j+1:Nat):Int)),.c (.str s),.c (.int .i64 (u:Int))] h (.w (.c (.int .i64 0))) h'/\Kp n q h h'/\bs[i]? = some z/\L[i]? = some l/\l[k]? = some sl0/\(∀ t p,t<8 * i+k->(Uw L)[t]? = some p->p.2.1≠0)/\HE n q a b c e cr md S [] (Gp V z (Vo (V z) k (u,s))) h'/\DirS a b c e (Gp V z (Vo (V z) k (u,s))) j g P bs (L.set i (l.set k (u,s))):=by
 obtain⟨nq,nx,n0⟩:=M.nx
 obtain⟨st,⟨kn,hs⟩,⟨dk,gl⟩,ht⟩:=M.cells
 unfold gdL gdD at gl
 have dm:(md != 0)=true:=Nn m0
 have cM:=fun h=>Zx6 Hh s h
 rw[my] at cM
 have du1:decide (1<=(u:Int))=true:=decide_eq_true oM
 have du2:decide ((u:Int)<=((a * c:Nat):Int))=true:=decide_eq_true oM
 obtain⟨gz,jl,gb,pb,vd,db,nd,dat⟩:=D
 have ip:=Zc6 (k:=2) (l:=1) (g:=g) (s:=256 * bs.length) (nx:=0) pb
 have yl:=ip.xl
 obtain⟨i,k,l,f1,f2,f3,f4,f5⟩:=db.free fz z0
 obtain⟨d1,d2,d3,d4,l1,d5,d6⟩:=db.at_ i z f1
 rw[f2] at d5
 cases d5
 have hn:∀ y∈l,y.1≠0->y.2≠s:=fun y hy=>Z7s th (i,y) (Z6o db.l8 f2 hy)
 have l27:=(Zdd my).2
 have DD:DirS a b c e (Gp V z (Vo (V z) k (u,s))) j g P bs (L.set i (l.set k (u,s))):=DirS.upd ⟨gz,jl,gb,pb,vd,db,nd,dat⟩ f1 f2 (d6.add f3 (x:=(u,s)) (.inr ⟨u0,u32,my⟩) hn l27)
 have hG:=fun {h:Hq} (M:HE n q a b c e cr md S [] V h)=>M.get f d3 d4
 have hW:=fun {h:Hq} (M:HE n q a b c e cr md S [] V h)=>Z0v Hh f M d3 d4 zs List.not_mem_nil d6 f3 f4 my u0 u32 hn
 have xl:(pgL (V z)).length=256:=by rw[J7,d6.vl]
 obtain⟨V',hV'⟩:=xzE (Gp V z (Vo (V z) k (u,s)))
 rw[hV'] at DD
 simp only[hV'] at hW
 obtain⟨X0,hX0⟩:∃ X,pgL (V z)=X:=⟨_,rfl⟩
 rw[hX0] at xl
 simp only[hX0] at hG hW
 have ez:((z:Int) == 0)=false:=Db oM
 have wu:Jm .u32 (u:Int)=.int .u32 (u:Int):=Zap oM
 obtain⟨y,hy⟩:=xzE (Rm 2 1 g (256 * bs.length) P 0)
 have ky:y[0]? = some (.int .u8 2):=by rw[<-hy]; rfl
 have y3:y[3]? = some (.int .i64 ((256 * bs.length:Nat):Int)):=by rw[<-hy]; rfl
 rw[hy] at gz ip yl
 obtain⟨v,h',cc,rfl,M',k'⟩:∃ v h',Zb 23 [.c (.ptr (n+13) 0),.c (.int .i64 ((j+1:Nat):Int)),.c (.str s),.c (.int .i64 (u:Int))] h v h'/\v=.w (.c (.int .i64 0))/\HE n q a b c e cr md S [] V' h'/\Kp n q h h':=by
  refine Ym Hh Tryz.f23 ?_
  have Jf:=Vr @f @hs @gl @ht @dm @du1 @du2 @Ba
  iterate 11 (first|refine Goes.Zi Yd ?_|refine Zn Hh (EY Za (Zcf Hh)) Yd ?_|apply gS)
  iterate 5 (first|refine Goes.Zi Yd ?_|refine Zn Hh (Y3 Za cM) Yd ?_|apply gS)
  iterate 6 (first|refine Goes.Zi Yd ?_|refine Zn Hh (EY (EY Za (J3 Hh)) (Mr Hh)) Yd ?_|apply gS)
  refine Jq fun hA eA=>?_
  have nA:hA.next=h.next+1:=nxQ eA
  have kA:∀ m,m<h.next->hA.get m=h.get m:=kQ eA
  have gA:hA.get h.next=some (.row 1 [[.str s]] false):=by rw[eA]; exact Zd
  clear eA
  obtain⟨hB,c9,BR,nB,MB,kB⟩:=Zgr Hh f m0 (M.keep (h2:=hA) oM fun m hm=>kA m oM) gz ky yl
  have gB:=(kB.2 h.next oM oM).trans gA
  obtain⟨b1,hb1⟩:=xzE (hB.next)
  obtain⟨R,hR⟩:=xzE (hA.next)
  rw[hR] at c9 BR nB
  have cA:=fun h=>Znb Hh R h
  have Jf:=Y2 Jf @gB
  iterate 5 (first|refine Zn Hh (Zj Za c9) Yd ?_|apply gS)
  iterate 2 (first|refine Zn Hh (Y3 Za cA) Yd ?_|apply gS)
  refine Jq fun hC eC=>?_
  have nC:hC.next=b1+4:=by rw[eC]; simp only[H.Zf,H.Ze,hb1]
  have kC:∀ m,m<hB.next->hC.get m=hB.get m:=kQ eC
  have a13:hC.get b1=some (.row 1 [[.ptr R 0]] false):=by rw[eC,<-hb1]; exact Zd
  have a14:hC.get (b1+1)=some (.row 1 [[.bool false]] false):=by rw[eC,<-hb1]; exact Zd
  have a15:hC.get (b1+2)=some (.row 1 [[.int .i64 0]] false):=by rw[eC,<-hb1]; exact Zd
  have a7:hC.get (b1+3)=some (.row 1 [[.ptr R 0]] false):=by rw[eC,<-hb1]; exact Zd
  clear eC
  show Z9 105 none (q23 [1,1,1,1,1,1,0,1,2]) _ _ _ _
  refine Z82 fun ts hts=>?_
  refine (Zzp Hh f m0 nC (p6:=h.next) oM (R:=R) oM oM ip db y3 (MB.keep oM fun m hm=>kC m oM) ((kC R oM).trans BR) ((kC _ oM).trans gB) a13 a14 a15 a7 ?_ ?_ ?_ ?_ ?_).mono ?_
  ·rw[hts]; exact Zd
  ·rw[hts,<-hb1]; exact Zd
  ·rw[hts,<-hb1]; exact Zd
  ·rw[hts,<-hb1]; exact Zd
  ·rw[hts,<-hb1]; exact Zd
  rintro x1 ds1 ts1 h1 ⟨rfl,rfl,rfl,gd,c6,c13,c14,c15,M1,⟨cs,R1⟩,n1,k1⟩
  subst hts
  obtain⟨g0,g1,g2,g3,g4,g5⟩:=Rs (n:=n) (s:=cs) (e:=0) yl
  obtain⟨r0,hr0⟩:∃ r,rdC n y cs 0=r:=⟨_,rfl⟩
  have R1':=R1
  rw[hr0] at R1 g1 g3
  have kk:∀ m,m<h.next->m≠n+6->h1.get m=h.get m:=fun m hm m6=>(k1 m hm m6).trans ((kC m oM).trans ((kB.2 m oM m6).trans (kA m hm)))
  rw[th] at c14
  rw[fz] at c15
  obtain⟨hG1,eG,MG,nG,kG⟩:=hG M1
  have c24:=Eo Hh eG
  have gG:=(kG h.next oM oM).trans c6
  have G15:=(kG (b1+2) oM oM).trans c15
  have gd':=(kG (b1+4) oM oM).trans gd
  have nb1:n+23<=b1:=oM
  have Jf:=Jh @f @hs (Yp @gl @ht @dm @du1 @du2 @Ba @gB @gd (Yp @c13 @c14 @c15 @R1 @g3 @hb1 @ez @xl @wu))
  iterate 13 (first|refine Goes.Zi Yd ?_|refine Zn Hh Za Yd ?_|apply gS)
  iterate 7 (first|refine Goes.Zi Yd ?_|refine Zn Hh (Zj Za c24) Yd ?_|apply gS)
  refine Jq fun hD eD=>?_
  have nD:hD.next=hG1.next+1:=nxQ eD
  have kD:∀ m,m<hG1.next->hD.get m=hG1.get m:=kQ eD
  have gD:hD.get hG1.next=some (.row 256 [X0] false):=by rw[eD]; exact Zt
  clear eD
  have D6:=(kD h.next oM).trans gG
  have D15:=(kD (b1+2) oM).trans G15
  have Dgd:=(kD (b1+4) oM).trans gd'
  have MD:=MG.keep (h2:=hD) oM fun m hm=>kD m (by have:=MG.nx; omega)
  obtain⟨hE,c27,ME,kE⟩:=hW MD
  have nE:=kE.1
  have Egd:=(kE.2 (b1+4) oM ⟨⟨oM,oM,oM,oM,oM⟩,oM⟩).trans Dgd
  iterate 2 (first|(apply gO fits Hh (Zj Za c27); · simp (maxSteps:=9^6) +decide (disch:=first|exact dZ|fail) only [go_sem,Zh,simprocAttr,Z7,f,hs,stG,gl,ht,txC,dm,Jw,du1,du2,Ba,gB,gd,c13,c14,c15,R1,g3,hb1,ez,xl,wu,gD,D6,D15,Yt]<;>rfl)|apply gS)
  refine⟨_,_,(by have Jf:=Y2 @Egd @hb1; exact Zq),rfl,ME.keep ?_ fun m hm=>?_,⟨?_,fun m hm ho=>?_⟩⟩
  ·simp only[H.Zf,H.Yv]<;>omega
  ·exact Yn
  ·simp only[H.Zf,H.Yv]<;>omega
  ·refine Eq.trans ?_ ((kE.2 m oM ho).trans ((kD m oM).trans ((kG m oM ho.1.1).trans (kk m hm ho.1.1)))); exact Yn
 subst hV'
 exact⟨h',i,k,l,cc,k',f1,f2,f3,f5,M',DD⟩
variable {Al:(Nat->Lq)->Nat->Prop} {blk:Nat->Nat} {cap:Nat} {mt nk:Nat->Prop} {m:Nat}
theorem Zxo (f:Yu a b c e=true) (m0:md≠0) (M:HE n q a b c e cr md S [] V h) (D:DirS a b c e V j g P bs L) (my:Rp s=true) (u0:0<u) (u1:u<=a * c) (u32:u<4294967296) (th:thF s (Uw L)=false) (fz:frF bs (Uw L)=0) (n8:bs.length<8)
  (A:AlcW n q a b c e cr md S Al blk cap mt nk) (al:Al V m) (mc:m<cap) (b32:blk m<4096) (mtI:∀ i,i<a * c->¬ mt (Y0 b c e i)) (bI:∀ i,i<a * c->Y0 b c e i≠blk m) (js:Y0 b c e j∈S) (nr:nk (Y0 b c e j)) (bm:∀ z∈bs,¬ mt z/\z≠blk m) :
  ∃ h' V',Zb 23 [.c (.ptr (n+13) 0),.c (.int .i64 ((j+1:Nat):Int)),.c (.str s),.c (.int .i64 (u:Int))] h (.w (.c (.int .i64 0))) h'/\Kp n q h h'/\HE n q a b c e cr md S [] V' h'/\Al V' (m+1)/\DirS a b c e V' j g (Od P bs.length (blk m)) (bs++[blk m]) (L++[sl8.set 0 (u,s)])/\(∀ i,i≠j->gI a b c e V' ((i+1:Nat):Int)=gI a b c e V ((i+1:Nat):Int))/\∀ w,¬ mt w->w≠blk m->w≠Y0 b c e j->V' w=V w:=by
 obtain⟨nq,nx,n0⟩:=M.nx
 obtain⟨st,⟨kn,hs⟩,⟨dk,gl⟩,ht⟩:=M.cells
 unfold gdL gdD at gl
 have dm:(md != 0)=true:=Nn m0
 have cM:=fun h=>Zx6 Hh s h
 rw[my] at cM
 have du1:decide (1<=(u:Int))=true:=decide_eq_true oM
 have du2:decide ((u:Int)<=((a * c:Nat):Int))=true:=decide_eq_true oM
 obtain⟨gz,jl,gb,pb,vd,db,nd,dat⟩:=D
 have ip:=Zc6 (k:=2) (l:=1) (g:=g) (s:=256 * bs.length) (nx:=0) pb
 have yl:=ip.xl
 have hG:=fun {h:Hq} (M:HE n q a b c e cr md S [] V h)=>Z0u Hh (s:=s) f m0 A M al mc b32 mtI bI (u:=u) jl js nr gb n8 (vd _ (Nat.le_refl _) oM) pb my u0 u32
 obtain⟨o1,o2,o3,o4,o5⟩:=A.ours m mc
 have wu:Jm .u32 (u:Int)=.int .u32 (u:Int):=Zap oM
 have gz0:=gz
 obtain⟨y,hy⟩:=xzE (Rm 2 1 g (256 * bs.length) P 0)
 have ky:y[0]? = some (.int .u8 2):=by rw[<-hy]; rfl
 have y3:y[3]? = some (.int .i64 ((256 * bs.length:Nat):Int)):=by rw[<-hy]; rfl
 have y16:=Zc7 2 1 g (256 * bs.length) P 0
 rw[hy] at gz ip yl y16
 simp only[hy] at hG
 obtain⟨v,h',cc,V',rfl,M',k',r1,r2,r3,r4,r5⟩:∃ v h',Zb 23 [.c (.ptr (n+13) 0),.c (.int .i64 ((j+1:Nat):Int)),.c (.str s),.c (.int .i64 (u:Int))] h v h'/\∃ V',v=.w (.c (.int .i64 0))/\HE n q a b c e cr md S [] V' h'/\Kp n q h h'/\Al V' (m+1)/\V' (blk m)=Vo zer0 0 (u,s)/\gI a b c e V' ((j+1:Nat):Int)=(Rm 2 1 g (256 * (bs.length+1)) (Od P bs.length (blk m)) 0,0)/\(∀ i,i≠j->gI a b c e V' ((i+1:Nat):Int)=gI a b c e V ((i+1:Nat):Int))/\∀ w,¬ mt w->w≠blk m->w≠Y0 b c e j->V' w=V w:=by
  refine Ym Hh Tryz.f23 ?_
  have Jf:=Yp @f @hs @gl @ht @dm @du1 @du2 @Ba @wu
  iterate 11 (first|refine Goes.Zi Yd ?_|refine Zn Hh (EY Za (Zcf Hh)) Yd ?_|apply gS)
  iterate 5 (first|refine Goes.Zi Yd ?_|refine Zn Hh (Y3 Za cM) Yd ?_|apply gS)
  iterate 6 (first|refine Goes.Zi Yd ?_|refine Zn Hh (EY (EY Za (J3 Hh)) (Mr Hh)) Yd ?_|apply gS)
  refine Jq fun hA eA=>?_
  have nA:hA.next=h.next+1:=nxQ eA
  have kA:∀ m,m<h.next->hA.get m=h.get m:=kQ eA
  have gA:hA.get h.next=some (.row 1 [[.str s]] false):=by rw[eA]; exact Zd
  clear eA
  obtain⟨hB,c9,BR,nB,MB,kB⟩:=Zgr Hh f m0 (M.keep (h2:=hA) oM fun m hm=>kA m oM) gz ky yl
  have gB:=(kB.2 h.next oM oM).trans gA
  obtain⟨b1,hb1⟩:=xzE (hB.next)
  obtain⟨R,hR⟩:=xzE (hA.next)
  rw[hR] at c9 BR nB
  have cA:=fun h=>Znb Hh R h
  have Jf:=Y2 Jf @gB
  iterate 5 (first|refine Zn Hh (Zj Za c9) Yd ?_|apply gS)
  iterate 2 (first|refine Zn Hh (Y3 Za cA) Yd ?_|apply gS)
  refine Jq fun hC eC=>?_
  have nC:hC.next=b1+4:=by rw[eC]; simp only[H.Zf,H.Ze,hb1]
  have kC:∀ m,m<hB.next->hC.get m=hB.get m:=kQ eC
  have a13:hC.get b1=some (.row 1 [[.ptr R 0]] false):=by rw[eC,<-hb1]; exact Zd
  have a14:hC.get (b1+1)=some (.row 1 [[.bool false]] false):=by rw[eC,<-hb1]; exact Zd
  have a15:hC.get (b1+2)=some (.row 1 [[.int .i64 0]] false):=by rw[eC,<-hb1]; exact Zd
  have a7:hC.get (b1+3)=some (.row 1 [[.ptr R 0]] false):=by rw[eC,<-hb1]; exact Zd
  clear eC
  show Z9 105 none (q23 [1,1,1,1,1,1,0,1,2]) _ _ _ _
  refine Z82 fun ts hts=>?_
  refine (Zzp Hh f m0 nC (p6:=h.next) oM (R:=R) oM oM ip db y3 (MB.keep oM fun m hm=>kC m oM) ((kC R oM).trans BR) ((kC _ oM).trans gB) a13 a14 a15 a7 ?_ ?_ ?_ ?_ ?_).mono ?_
  ·rw[hts]; exact Zd
  ·rw[hts,<-hb1]; exact Zd
  ·rw[hts,<-hb1]; exact Zd
  ·rw[hts,<-hb1]; exact Zd
  ·rw[hts,<-hb1]; exact Zd
  rintro x1 ds1 ts1 h1 ⟨rfl,rfl,rfl,gd,c6,c13,c14,c15,M1,⟨cs,R1⟩,n1,k1⟩
  subst hts
  obtain⟨g0,g1,g2,g3,g4,g5⟩:=Rs (n:=n) (s:=cs) (e:=0) yl
  obtain⟨r0,hr0⟩:∃ r,rdC n y cs 0=r:=⟨_,rfl⟩
  have R1':=R1
  rw[hr0] at R1 g1 g3
  have kk:∀ m,m<h.next->m≠n+6->h1.get m=h.get m:=fun m hm m6=>(k1 m hm m6).trans ((kC m oM).trans ((kB.2 m oM m6).trans (kA m hm)))
  rw[th] at c14
  rw[fz] at c15
  have Egd0:=gd
  have n1':h.next<=h1.next:=oM
  have nb1:n+23<=b1:=oM
  have ez:(((0:Nat):Int) == 0)=true:=rfl
  obtain⟨hE,V',c23,ME,kE,r1,r2,r3,r4,r5⟩:=hG M1
  have nE:=kE.1
  have Egd:=(kE.2 (b1+4) oM ⟨⟨oM,oM,oM,oM,oM⟩,oM⟩).trans gd
  have Jf:=Gq @f @hs @gl @ht (Yp @dm @du1 @du2 @Ba @wu @gB @gd @c6 (Yp @c13 @c14 @c15 @R1 @g1 @g3 @hb1 @ez @Zx9))
  iterate 12 (first|refine Goes.Zi Yd ?_|refine Zn Hh Za Yd ?_|apply gS)
  iterate 2 (first|refine Fe Hh (Zj Za c23) Zz4 ?_|apply gS)
  refine⟨_,_,(by have Jf:=Y2 @Egd @hb1; exact Zq),V',rfl,ME.keep ?_ fun m hm=>?_,⟨?_,fun m hm ho=>?_⟩,r1,r2,r3,r4,r5⟩
  ·simp only[H.Zf,H.Yv]<;>omega
  ·exact Yn
  ·simp only[H.Zf,H.Yv]<;>omega
  ·refine Eq.trans ?_ ((kE.2 m oM ho).trans (kk m hm ho.1.1)); exact Yn
 have zn:blk m ∉ bs:=fun w=>(bm _ w).2 rfl
 refine⟨h',V',cc,k',M',r1,DirS.grow ⟨gz0,jl,gb,pb,vd,db,nd,dat⟩ n8 o1 o2 oM oM zn bI r3 (fun w hw=>r5 w (bm w hw).1 (bm w hw).2 (Ne.symm (dat w hw j jl))) ?_,r4,r5⟩
 rw[r2]
 exact Ydh.add (i:=0) (x:=(u,s)) rfl (.inr ⟨u0,u32,my⟩) (fun y hy y0=>by
  rw[List.eq_of_mem_replicate hy] at y0
  exact absurd rfl y0) (Zdd my).2
end
def upJ {α:Type} (N:Nat->α) (j:Nat) (x:α):Nat->α:=fun i=>if i=j then x else N i
theorem Y7 {α:Type} (N:Nat->α) (j:Nat) (x:α):upJ N j x j=x:=if_pos rfl
theorem Ji {α:Type} {N:Nat->α} {i j:Nat} {x:α} (h:i≠j):upJ N j x i=N i:=if_neg h
structure TSt (a b c e:Nat) (iw:Nat->Nat × Nat) (V:Nat->Lq) (m:Nat) (J:Lq) (bl:Nat->Nat) (N:Nat->List UInt8->Nat):Prop where
 al:AlG a b c e iw V m
 ex:∃ (g:Nat->Nat) (P:Nat->Nat->Nat) (bs:Nat->Lq) (L:Nat->List (List Sl)),(∀ j∈J,DirS a b c e V j (g j) (P j) (bs j) (L j)/\DN (L j) (N j)/\(bs j).length=bl j/\∀ z∈bs j,∃ k,k<m/\z=Fs b c e k)/\∀ j∈J,∀ i∈J,i≠j->∀ z∈bs j,z ∉ bs i
section
variable {a b c e:Nat} {iw iw':Nat->Nat × Nat} {V V':Nat->Lq} {m:Nat} {J:Lq} {bl:Nat->Nat} {N:Nat->List UInt8->Nat}
theorem TSt.other (T:TSt a b c e iw V m J bl N) (al:AlG a b c e iw' V' m) (hg:∀ j∈J,gI a b c e V' ((j+1:Nat):Int)=gI a b c e V ((j+1:Nat):Int)) (hb:∀ k,k<m->V' (Fs b c e k)=V (Fs b c e k)):TSt a b c e iw' V' m J bl N:=by
 obtain⟨g,P,bs,L,h1,h2⟩:=T.ex
 refine⟨al,g,P,bs,L,fun j hj=>?_,h2⟩
 obtain⟨D,d,l,o⟩:=h1 j hj
 exact⟨D.keep (hg j hj) fun z hz=>by obtain⟨k,hk,rfl⟩:=o z hz; exact hb k hk,d,l,o⟩
theorem TSt.more (T:TSt a b c e iw V m J bl N) {i g0:Nat} (ni:i ∉ J) (D:DirS a b c e V i g0 (fun _=>0) [] []):TSt a b c e iw V m (i :: J) (upJ bl i 0) (upJ N i fun _=>0):=by
 obtain⟨g,P,bs,L,h1,h2⟩:=T.ex
 refine⟨T.al,upJ g i g0,upJ P i fun _=>0,upJ bs i [],upJ L i [],fun j hj=>?_,fun j hj k hk ne z hz=>?_⟩
 ·rcases List.mem_cons.1 hj with rfl|hj
  ·rw[Y7,Y7,Y7,Y7,Y7,Y7]
   exact⟨D,DN.nil,rfl,fun z hz=>by cases hz⟩
  ·have ne:j≠i:=fun q=>ni (q ▸ hj)
   rw[Ji ne,Ji ne,Ji ne,Ji ne,Ji ne,Ji ne]
   exact h1 j hj
 ·rcases List.mem_cons.1 hj with rfl|hj
  ·rw[Y7] at hz; cases hz
  ·have nj:j≠i:=fun q=>ni (q ▸ hj)
   rw[Ji nj] at hz
   rcases List.mem_cons.1 hk with rfl|hk
   ·rw[Y7]; exact List.not_mem_nil
   ·rw[Ji fun q=>ni (by rw[<-q]; exact hk)]; exact h2 j hj k hk ne z hz
end
section
variable (Hh:Hearts K Tryz.prog)
include Hh
variable {n q a b c e:Nat} {cr:Cr} {md:Int} {S T:Lq} {iw:Nat->Nat × Nat} {V:Nat->Lq} {m:Nat} {J:Lq} {bl:Nat->Nat} {N:Nat->List UInt8->Nat} {h:Hq} {j u cap:Nat} {s:List UInt8}
omit Hh in
theorem TSt.leads (Hh:Hearts K Tryz.prog) (f:Yu a b c e=true) (m0:md≠0) (T':TSt a b c e iw V m J bl N) (hj:j∈J) (my:Rp s=true):O0 n q a b c e cr md S T V (j+1) s (N j s) (if N j s=0 then 301 else 0):=by
 obtain⟨g,P,bs,L,h1,h2⟩:=T'.ex
 obtain⟨D,d,l,o⟩:=h1 j hj
 exact O0.of f Hh m0 D.o my (d.look _ _)
variable [Opn cr]
theorem Ydy (f:Yu a b c e=true) (m0:md≠0) (io:Zbm c iw) (M:HE n q a b c e cr md S [] V h) (T':TSt a b c e iw V m J bl N) (hj:j∈J) (my:Rp s=true) (s0:N j s=0) (u0:0<u) (u1:u<=a * c) (u32:u<4294967296) (cF:cap<=a * fF b c) (s1:1∈S) (s2:∀ m,m<cap->Fs b c e m∈S/\2+e+m / fF b c * b∈S) (js:Y0 b c e j∈S) (jc:j<c) (mc:m<cap) (c4:Fs b c e m<4096) {A:List (List UInt8)} (few:∀ r,N j r≠0->r∈A) (A64:A.length<64) :
  ∃ h' V' m' bl',Zb 23 [.c (.ptr (n+13) 0),.c (.int .i64 ((j+1:Nat):Int)),.c (.str s),.c (.int .i64 (u:Int))] h (.w (.c (.int .i64 0))) h'/\Kp n q h h'/\HE n q a b c e cr md S [] V' h'/\TSt a b c e iw V' m' J bl' (upJ N j (upN (N j) s u))/\(m'=m/\bl'=bl\/m'=m+1/\bl'=upJ bl j (bl j+1)/\8 * bl j<=A.length)/\(∀ i,i≠j->gI a b c e V' ((i+1:Nat):Int)=gI a b c e V ((i+1:Nat):Int))/\∀ w,¬ mtG a b e w->(∀ k,w≠Fs b c e k)->w≠Y0 b c e j->V' w=V w:=by
 obtain⟨g,P,bs,L,h1,h2⟩:=T'.ex
 obtain⟨D,d,l,o⟩:=h1 j hj
 have AA:=Ybk Hh (n:=n) (q:=q) (cr:=cr) (md:=md) (S:=S) f io cF s1 s2
 have th:=d.th s0
 have nmk:∀ k,k<cap->¬ mtG a b e (Fs b c e k):=fun k hk w=>by
  have km:k<a * fF b c:=oM
  rcases w with w|⟨k2,_,w⟩
  ·have:=(Zgm f km).2.2
   obtain⟨g1,g2,g3,g4,g5,g6,g7,g8,g9,g10,g11⟩:=Z5 f
   omega
  ·exact Vt (m:=k) f (k:=k2) (r:=0) oM w
 obtain⟨z,hz⟩:=xzE (frF (bs j) (Uw (L j)))
 by_cases z0:z=0
 ·subst z0
  have fu:=Zvz D.db.nz hz
  have Al:(U3 (L j)).length=8 * (bs j).length:=by
   unfold U3 Uw
   rw[List.length_map,Zck D.db.l8,D.db.ll]
  have fA:=d.full few fu
  rw[Al,l] at fA
  obtain⟨h',V',cc,kp,M',al',D',e1,e2⟩:=Zxo Hh f m0 M D my u0 u1 u32 th hz oM AA T'.al mc c4 (fun i _=>Z6q f i) (fun i _=>Z0g f i) js (Z6u f jc) (fun z hz=>by
   obtain⟨k,hk,rfl⟩:=o z hz
   exact⟨nmk k oM,fun w=>by have:=Zcp f w; omega⟩)
  refine⟨h',V',m+1,_,cc,kp,M',⟨al',g,upJ P j (Od (P j) (bs j).length (Fs b c e m)),upJ bs j (bs j++[Fs b c e m]),upJ L j (L j++[sl8.set 0 (u,s)]),fun i hi=>?_,fun i hi k hk ne y hy=>?_⟩,.inr ⟨rfl,rfl,fA⟩,e1,fun w w1 w2 w3=>e2 w w1 (w2 m) w3⟩
  ·by_cases ij:i=j
   ·subst ij
    rw[Y7,Y7,Y7,Y7,Y7]
    refine⟨D',d.grow s0 oM,by rw[List.length_append,l]; rfl,fun z hz=>?_⟩
    rcases List.mem_append.1 hz with hz|hz
    ·obtain⟨k,hk,rfl⟩:=o z hz; exact⟨k,oM,rfl⟩
    ·rw[List.mem_singleton.1 hz]; exact⟨m,oM,rfl⟩
   ·rw[Ji ij,Ji ij,Ji ij,Ji ij,Ji ij]
    obtain⟨Di,di,li,oi⟩:=h1 i hi
    refine⟨Di.keep (e1 i ij) fun z hz=>?_,di,li,fun z hz=>?_⟩
    ·have dz:=Di.dat z hz j D.jl
     obtain⟨k,hk,rfl⟩:=oi z hz
     exact e2 _ (nmk k oM) (fun w=>by have:=Zcp f w; omega) (Ne.symm dz)
    ·obtain⟨k,hk,rfl⟩:=oi z hz; exact⟨k,oM,rfl⟩
  ·have old:∀ i,i∈J->∀ z∈bs i,z≠Fs b c e m:=fun i hi z hz w=>by
    obtain⟨_,_,_,oi⟩:=h1 i hi
    obtain⟨k,hk,rfl⟩:=oi z hz
    have:=Zcp f w
    omega
   by_cases ij:i=j
   ·subst ij
    rw[Y7] at hy
    rw[Ji ne]
    rcases List.mem_append.1 hy with hy|hy
    ·exact h2 i hi k hk ne y hy
    ·rw[List.mem_singleton.1 hy]; exact fun w=>old k hk _ w rfl
   ·rw[Ji ij] at hy
    by_cases kj:k=j
    ·subst kj
     rw[Y7]
     exact fun w=>by
      rcases List.mem_append.1 w with w|w
      ·exact h2 i hi k hk ne y hy w
      ·exact old i hi y hy (List.mem_singleton.1 w)
    ·rw[Ji kj]; exact h2 i hi k hk ne y hy
 ·have zb:z∈bs j:=by
   obtain⟨i,k,l,f1,_⟩:=D.db.free hz z0
   exact lM f1
  obtain⟨kz,kzm,ez⟩:=o z zb
  obtain⟨h',i,k,l',cc,kp,f1,f2,f3,f5,M',D'⟩:=Zxp Hh f m0 M D my u0 u1 u32 th hz z0 (by rw[ez]; exact (s2 kz oM).1)
  have gi:∀ i:Nat,gI a b c e (Gp V z (Vo (V z) k (u,s))) ((i+1:Nat):Int)=gI a b c e V ((i+1:Nat):Int):=fun i=>Za3 (fun i hi=>D.dat z zb i hi) _
  have nz:¬ mtG a b e z:=by rw[ez]; exact nmk kz oM
  refine⟨h',_,m,bl,cc,kp,M',⟨AA.upd T'.al nz,g,P,bs,upJ L j ((L j).set i (l'.set k (u,s))),fun i' hi=>?_,h2⟩,.inl ⟨rfl,rfl⟩,fun i _=>gi i,fun w _ w2 _=>Jo (by rw[ez]; exact w2 kz)⟩
  by_cases ij:i'=j
  ·subst ij
   rw[Y7,Y7]
   exact⟨D',d.set D.db.l8 f2 f3 s0 oM,l,o⟩
  ·rw[Ji ij,Ji ij]
   obtain⟨Di,di,li,oi⟩:=h1 i' hi
   exact⟨Di.keep (gi i') fun y hy=>Jo fun w=>h2 i' hi j hj (Ne.symm ij) y hy (by rw[w]; exact zb),di,li,oi⟩
theorem Ydz (f:Yu a b c e=true) (m0:md≠0) (io:Zbm c iw) (M:HE n q a b c e cr md S [] V h) (T':TSt a b c e iw V m J bl N) (hj:j∈J) (my:Rp s=true) (s0:N j s≠0) (cF:cap<=a * fF b c) (s1:1∈S) (s2:∀ m,m<cap->Fs b c e m∈S/\2+e+m / fF b c * b∈S) (mc:m<=cap) :
  ∃ h' V',Zb 29 [.c (.ptr (n+13) 0),.c (.int .i64 ((j+1:Nat):Int)),.c (.str s)] h (.w (.c (.int .i64 0))) h'/\Kp n q h h'/\HE n q a b c e cr md S [] V' h'/\TSt a b c e iw V' m J bl (upJ N j (upN (N j) s 0))/\(∀ i:Nat,gI a b c e V' ((i+1:Nat):Int)=gI a b c e V ((i+1:Nat):Int))/\∀ w,(∀ k,w≠Fs b c e k)->V' w=V w:=by
 obtain⟨g,P,bs,L,h1,h2⟩:=T'.ex
 obtain⟨D,d,l,o⟩:=h1 j hj
 have AA:=Ybk Hh (n:=n) (q:=q) (cr:=cr) (md:=md) (S:=S) f io cF s1 s2
 have w0:(lkF (bs j) s (Uw (L j))).1≠0:=by rw[d.look]; exact s0
 have zb:(lkF (bs j) s (Uw (L j))).2∈bs j:=by
  obtain⟨i,k,l,x,f1,_⟩:=D.db.Z8c w0
  exact lM f1
 obtain⟨kz,kzm,ez⟩:=o _ zb
 obtain⟨h',i,k,l',x,z,cc,kp,hz,f1,f2,f3,x0,f5,f7,M',D'⟩:=Z5s Hh f m0 M D my w0 (by rw[ez]; exact (s2 kz oM).1)
 rw[<-hz] at ez zb
 have gi:∀ i:Nat,gI a b c e (Gp V z (Ze5 (V z) k)) ((i+1:Nat):Int)=gI a b c e V ((i+1:Nat):Int):=fun i=>Za3 (fun i hi=>D.dat z zb i hi) _
 have nz:¬ mtG a b e z:=by
  rw[ez]
  intro w
  have km:kz<a * fF b c:=oM
  rcases w with w|⟨k2,_,w⟩
  ·have:=(Zgm f km).2.2
   obtain⟨g1,g2,g3,g4,g5,g6,g7,g8,g9,g10,g11⟩:=Z5 f
   omega
  ·exact Vt (m:=kz) f (k:=k2) (r:=0) oM w
 refine⟨h',_,cc,kp,M',⟨AA.upd T'.al nz,g,P,bs,upJ L j ((L j).set i (l'.set k sl0)),fun i' hi=>?_,h2⟩,gi,fun w w2=>Jo (by rw[ez]; exact w2 kz)⟩
 by_cases ij:i'=j
 ·subst ij
  rw[Y7,Y7]
  refine⟨D',?_,l,o⟩
  have:=d.rem D.db.l8 f2 f3 x0
  rw[f5] at this
  exact this
 ·rw[Ji ij,Ji ij]
  obtain⟨Di,di,li,oi⟩:=h1 i' hi
  exact⟨Di.keep (gi i') fun y hy=>Jo fun w=>h2 i' hi j hj (Ne.symm ij) y hy (by rw[w]; exact zb),di,li,oi⟩
end
theorem rs60:Tryz.f60.results.toList=[.tmp 2,.tmp 3]:=rfl
theorem rs66:Tryz.f66.results.toList=[.tmp 12]:=rfl
attribute [go_sem] rs60 rs66
section
variable (Hh:Hearts K Tryz.prog)
include Hh
variable {n q a b c e:Nat} {cr:Cr} {md:Int} {S T:Lq} {V:Nat->Lq} {h:Hq}
theorem Z54 (f:Yu a b c e=true) (M:HE n q a b c e cr md S T V h) {D:List Gc} (dd:Des V a b c D) :
  ∃ h' p,Zb 60 [.c (.ptr (n+13) 0)] h (.tup [.c (.slice p 0 a 3),.c (.int .i64 0)]) h'/\HE n q a b c e cr md S T V h'/\Kr n q h h'/\h.next<=p/\p<h'.next/\h'.get p=some (.row 3 (D.map U4) false):=by
 obtain⟨g1,g2,g3,g4,g5,g6,g7,g8,g9,g10,g11⟩:=Z5 f
 obtain⟨gd,td,Dl⟩:=dd
 obtain⟨hG,e1,MG,nG,rG⟩:=M.get f (z:=1) (Xd a b c e) oM
 have c1:Zb 34 [.c (.ptr (n+13) 0),.c (.int .i64 1)] h (.tup [.g (pgL (V 1)),.c (.int .i64 0)]) hG:=Eo Hh e1
 have Yl:(pgL (V 1)).length=256:=by rw[J7]; exact M.len (z:=1) (Xd a b c e) oM
 have bd:=Zee (V 1)
 have gd':goodD (unN (pgL (V 1))) a b c=true:=by rw[Gr,Ru]; exact gd
 have td':Dn (unN (pgL (V 1))) a 0=D:=by rw[Gr,Nw]; exact td
 obtain⟨Y,hY⟩:=xzE (pgL (V 1))
 rw[hY] at c1 Yl bd gd' td'
 obtain⟨nq,nx,n0⟩:=M.nx
 obtain⟨st,⟨kn,hs⟩,⟨dk,gl⟩,ht⟩:=MG.cells
 obtain⟨st0,⟨kn0,hs0⟩,⟨dk0,gl0⟩,ht0⟩:=M.cells
 unfold gdL gdD at gl gl0
 obtain⟨v,h',cc,p,rfl,M',hk,p1,p2,p3⟩:∃ v h',Zb 60 [.c (.ptr (n+13) 0)] h v h'/\∃ p,v=.tup [.c (.slice p 0 a 3),.c (.int .i64 0)]/\HE n q a b c e cr md S T V h'/\Kr n q h h'/\h.next<=p/\p<h'.next/\h'.get p=some (.row 3 (D.map U4) false):=by
  refine Ym Hh Tryz.f60 ?_
  have Jf:=Jh @f @st (Yp @hs @gl @hs0 @gl0 @Yl @bd @gd' @td' @Dl)
  iterate 3 (first|refine Zn Hh Za O5 ?_|apply gS)
  iterate 7 (first|refine Goes.Zi O5 ?_|refine Zn Hh (Zj Za c1) O5 ?_|apply gS)
  iterate 2 (first|refine Fe Hh (EY (EY Za (J3 Hh)) (Zwv Hh)) Zpl ?_|apply gS)
  refine⟨_,_,Yi,_,rfl,MG.keep ?_ (fun m hm=>?_),⟨?_,fun m hm hne=>?_⟩,?_,?_,?_⟩
  ·first|omega|(simp only[H.Zf,H.Ze]<;>omega)
  ·exact Yn
  ·first|omega|(simp only[H.Zf,H.Ze]<;>omega)
  ·refine Eq.trans ?_ (rG m hm hne); exact Yn
  ·first|omega|(simp only[H.Zf,H.Ze]<;>omega)
  ·first|omega|(simp only[H.Zf,H.Ze]<;>omega)
  ·exact Yi
 exact⟨h',p,cc,M',hk,p1,p2,p3⟩
variable [Opn cr]
theorem Z1h (f:Yu a b c e=true) (M:HE n q a b c e cr md S T V h) {j:Nat} (jl:j<a * c) (s1:Y0 b c e j∈S/\Y0 b c e j ∉ T) (s2:1∈S/\1 ∉ T) (s3:2+e+j / c * b+1∈S/\2+e+j / c * b+1 ∉ T) {ms nb:Lq} (ml:ms.length=256) (nbl:nb.length=256) {y:List C} (yl:y.length=16)
  {F pD pq:Nat} {D D':List Gc} (hp:h.get pD=some (.row 3 (D.map U4) false)) (Dl:D.length=a) (Dl':D'.length=a) (Dm:D'.all (Zbn (b - 2 - c / 4) c)=true) (pl:pD<h.next) (p32:q+9<=pD)
  (hF:∀ h2,(∀ m,m<h.next->Out n q m->h2.get m=h.get m)->Zb F [.c (.ptr pD (j / c * 3)),.c (.ptr pq 0)] h2 (.tup []) (h2.put pD (.row 3 (D'.map U4) false)))
  (hi:∀ h m,h.get m=some (.row 256 [pgL (V (Y0 b c e j))] false)->m<h.next->∃ h',Zb 148 [.c (.ptr m 0),.c (.int .i64 (La c j:Nat)),.g y] h (.w (.c (.int .i64 0))) h'/\h.next<=h'.next/\h'.get m=some (.row 256 [pgL ms] false)/\∀ k,k<h.next->k≠m->h'.get k=h.get k) :
  ∃ h',Zb 66 [.c (.ptr (n+13) 0),.c (.int .i64 ((j+1:Nat):Int)),.g (pgL nb),.c (.slice pD 0 a 3),.g y,.c (.fn F [] [some (pq,0)])] h (.w (.c (.int .i64 0))) h'/\HE n q a b c e cr md S T (Gp (Gp (Gp V (2+e+j / c * b+1) nb) 1 (Zeg D')) (Y0 b c e j) ms) h'/\h.next<=h'.next/\∀ m,m<h.next->Out n q m->m≠pD->h'.get m=h.get m:=by
 obtain⟨g1,g2,g3,g4,g5,g6,g7,g8,g9,g10,g11⟩:=Z5 f
 have ka:j / c<a:=Nat.div_lt_of_lt_mul (by rw[Nat.mul_comm]; omega)
 have st:=Dc (b:=b) ka
 obtain⟨k,kj⟩:=xzE (j / c)
 rw[kj] at ka st hF s3 ⊢
 obtain⟨zb,hb⟩:∃ z,2+e+k * b+1=z:=⟨_,rfl⟩
 rw[hb] at s3 ⊢
 have zbl:zb<2+e+a * b:=oM
 have ob:=Df (z:=zb) (Z5 f) oM zbl
 have t1:((j+1:Nat):Int).toNat - 1=j:=oM
 have d1:decide (1<=((j+1:Nat):Int))=true:=decide_eq_true oM
 have d2:decide (((j+1:Nat):Int)<=((a * c:Nat):Int))=true:=decide_eq_true oM
 obtain⟨nq,nx,n0⟩:=M.nx
 have bl:(pgL nb).length=256:=by rw[J7,nbl]
 have ne1:Y0 b c e j≠1:=by unfold Y0; omega
 have nez:Y0 b c e j≠zb:=by
  unfold Y0
  rw[kj,<-hb]
  omega
 have hB1:=fun {h:Hq} (M:HE n q a b c e cr md S T V h)=>M.put f ob zbl nbl s3.1 s3.2
 have hB2:=fun {V:Nat->Lq} {h:Hq} (M:HE n q a b c e cr md S T V h)=>M.put f (z:=1) (Xd a b c e) oM (Zcu D') s2.1 s2.2
 have hW:=fun {h:Hq} (M:HE n q a b c e cr md S T (Gp (Gp V zb nb) 1 (Zeg D')) h)=>Zv5 Hh f M jl s1.1 s1.2 ml yl (by
  rw[Jo ne1,Jo nez]
  exact hi)
 obtain⟨mB,hmB⟩:∃ x,pgL nb=x:=⟨_,rfl⟩
 obtain⟨Y,hY⟩:=xzE (pgL (Zeg D'))
 have Yl:Y.length=256:=by rw[<-hY,J7,Zcu]
 have hY':pgL (Fg (Ma D' 0 Br))=Y:=hY
 rw[hmB] at bl ⊢
 simp only[hmB] at hB1
 simp only[hY] at hB2
 clear hi
 refine Ow ?_
 refine Ym Hh Tryz.f66 ?_
 have Jf:=Yp @f @t1 @d1 @d2 @kj @hb @bl @yl @Nat.zero_add
 iterate 3 (first|refine Zn Hh Za Gl ?_|apply gS)
 obtain⟨_,⟨kn0,hs0⟩,⟨dk0,gl0⟩,_⟩:=M.cells
 unfold gdL gdD at gl0
 have Jf:=Jh Jf @hs0 @gl0
 iterate 3 (first|refine Zn Hh (EY (EY Za (J3 Hh)) (Mr Hh)) Gl ?_|apply gS)
 refine Jq fun hA eA=>?_
 have nA:hA.next=h.next+1+1:=nxQ eA
 have kA:∀ m,m<h.next->hA.get m=h.get m:=kQ eA
 have bA:hA.get h.next=some (.row 256 [mB] false):=by rw[eA]; exact Zt
 have cA:hA.get (h.next+1)=some (.row 16 [y] false):=by rw[eA]; exact Zt
 clear eA
 have MA:=M.keep (h2:=hA) oM (fun m hm=>kA m oM)
 obtain⟨_,⟨knA,hsA⟩,⟨dkA,glA⟩,_⟩:=MA.cells
 unfold gdL gdD at glA
 obtain⟨hB,e1,MB,nB,kB⟩:=hB1 MA
 have c1:=N7 Hh e1
 have Jf:=Gq Jf @nA @bA @hsA @glA
 iterate 6 (first|refine Goes.Zi Gl ?_|refine Zn Hh (Zj (EY (EY Za (J3 Hh)) (T9 Hh)) c1) Gl ?_|refine Fe Hh (Zj (EY (EY Za (J3 Hh)) (T9 Hh)) c1) Zz5 ?_|apply gS)
 have c2:=hF hB (fun m hm ho=>(kB m ho.1).trans (kA m hm))
 have pB:=(kB pD ⟨oM,oM,oM,oM,oM⟩).trans ((kA _ pl).trans hp)
 iterate 2 (first|refine Zn Hh (Zj Za c2) Gl ?_|apply gS)
 refine Jq fun hC eC=>?_
 have nC:hC.next=h.next+1+1:=by rw[eC,H.Zf,nB,nA]
 have kC:∀ m,m<h.next+2->Out n q m->m≠pD->hC.get m=hA.get m:=fun m hm ho hne=>by rw[eC,Zc hne]; exact kB m ho.1
 have pC:hC.get pD=some (.row 3 (D'.map U4) false):=by rw[eC,Zz]
 have MC:=MB.keep (h2:=hC) (by rw[eC,H.Zf]; omega) (fun m hm=>by rw[eC,Zc oM])
 clear eC
 obtain⟨stC,⟨knC,hsC⟩,⟨dkC,glC⟩,_⟩:=MC.cells
 unfold gdL gdD at glC
 have Jf:=Y2 Jf (Yp @nC @pC @hsC @glC @stC @Dl' @Dm @hY' @Yl)
 iterate 8 (first|refine Goes.Zi Gl ?_|refine Zn Hh (EY (EY Za (J3 Hh)) (Zww Hh)) Gl ?_|apply gS)
 refine Jq fun hD eD=>?_
 have nD:hD.next=h.next+1+1+1:=by rw[eD]; simp only[H.Zf,H.Ze,nC]
 have kD:∀ m,m<h.next+2->Out n q m->m≠pD->hD.get m=hA.get m:=fun m hm ho hne=>by rw[eD]; refine Eq.trans ?_ (kC m hm ho hne); exact Yn
 have bD:hD.get (h.next+1+1)=some (.row 256 [Y] false):=by rw[eD]; exact Zt
 have MD:=MC.keep (h2:=hD) oM (fun m hm=>by rw[eD]; exact Yn)
 clear eD
 obtain⟨hE,e3,ME,nE,kE⟩:=hB2 MD
 have c3:Zb 77 [.c (.ptr (n+13) 0),.c (.int .i64 1),.g Y] hD (.w (.c (.int .i64 0))) hE:=N7 Hh e3
 have Jf:=Y2 Jf @bD
 iterate 6 (first|refine Goes.Zi Gl ?_|refine Zn Hh (Zj Za c3) Gl ?_|apply gS)
 have o1:Out n q (h.next+1):=⟨⟨oM,oM,oM,oM,oM⟩,oM⟩
 have cE:=(kE (h.next+1) o1.1).trans ((kD (h.next+1) oM o1 oM).trans cA)
 have r16:Zm 16 [y] 0 16=some y:=Lm oM
 obtain⟨hF,c4,MF,kF⟩:=hW ME
 have nF:=kF.1
 have Jf:=Jh Jf @cE @r16
 iterate 2 (first|refine Zn Hh (Zj Za c4) Gl ?_|apply gS)
 exact⟨_,_,Yi,rfl,MF,oM,fun m hm ho hne=>(kF.2 m oM ho).trans ((kE m ho.1).trans ((kD m oM ho hne).trans (kA m hm)))⟩
end
noncomputable def q22 (p:Lq):Code:=piece p (J8 Tryz.f22)
theorem Zko:q22 [1,1,1,1,1,1,0,1,2]=.rangeFunc (.tmp 41) #[42] (q22 [1,1,1,1,1,1,0,1,2,5]) (q22 [1,1,1,1,1,1,0,1,2,6]):=kR
theorem Zi5:q22 [1,1,1,1,1,1,0,1,2,5]=.region 11 (Z61 (q22 [1,1,1,1,1,1,0,1,2,5])) false:=kR
theorem Zi6:q22 [1,1,1,1,1,1,0,1,2,6]=.block 1 (q22 [1,1,1,1,1,1,0,1,2,6,2]):=kR
theorem rs22:Tryz.f22.results.toList=[.cell 6 3,.cell 7 31]:=rfl
theorem rs140:Tryz.f140.results.toList=[]:=rfl
attribute [go_sem] rs22 rs140
theorem rs67:Tryz.f67.results.toList=[]:=rfl
attribute [go_sem] rs67
def Zf2 (a c:Nat) (near:Int):Nat:=if 1<=near/\near<=((a * c:Nat):Int) then (near.toNat - 1) / c else 0
def Lx (kq:Int) (w:Nat):Nat:=if kq=2 then w+1 else w
def Mine (S T:Lq) (z:Nat):Prop:=z∈S/\z ∉ T
structure GrpH (a b c e:Nat) (S T:Lq) (V:Nat->Lq) (D:List Gc) (kq:Int) (g:Nat->Bool) (k t x0 i0 w0 gn:Nat) (o:List C):Prop where
 ka:k<a
 low:∀ i,i<t->g i=true
 gm:g t=false
 tc:t<c
 kk:kq=1\/kq=2
 bm:V (2+e+k * b+1)=Zb5 g
 des:Des V a b c D
 old:gI a b c e V ((k * c+t+1:Nat):Int)=(o,0)
 ol:o.length=16
 o2:o[2]? = some (.int .u32 (gn:Int))
 gb:gn+1<4294967296
 hk:D[k]? = some (x0,i0,w0)
 y1:1<=i0
 y2:i0<4096
 y3:w0<4096
 Dm:(D.set k (x0,i0 - 1,Lx kq w0)).all (Zbn (b - 2 - c / 4) c)=true
 s1:Mine S T (Y0 b c e (k * c+t))
 s2:Mine S T 1
 s3:Mine S T (2+e+k * b+1)
def Zrl (b c e:Nat) (V:Nat->Lq) (D:List Gc) (kq:Int) (g:Nat->Bool) (k t x0 i0 w0 gn:Nat):Nat->Lq :=
 Gp (Gp (Gp V (2+e+k * b+1) (Zb5 (Tg g t))) 1 (Zeg (D.set k (x0,i0 - 1,Lx kq w0)))) (Y0 b c e (k * c+t)) (Ed (V (Y0 b c e (k * c+t))) (La c (k * c+t)) kq.toNat 1 (gn+1) 0 [0,0,0,0,0,0,0,0,0,0,0] 0)
section
variable (Hh:Hearts K Tryz.prog)
include Hh
theorem Ya1 {h:Hq} {p q k:Nat} {D:List Gc} {ro:Bool} {x y w:Nat} {kq:Int} (kk:kq=1\/kq=2) (hq:h.get q=some (.row 1 [[.int .u8 kq]] ro)) (hp:h.get p=some (.row 3 (D.map U4) false)) (hk:D[k]? = some (x,y,w)) (y1:1<=y) (y2:y<4096) (w2:w<4096) (pq:p≠q):Zb 67 [.c (.ptr p (k * 3)),.c (.ptr q 0)] h (.tup []) (h.put p (.row 3 ((D.set k (x,y - 1,Lx kq w)).map U4) false)):=by
 have hr:(D.map U4)[k]? = some [.int .i64 (x:Int),.int .i64 (y:Int),.int .i64 (w:Int)]:=by rw[List.getElem?_map,hk]; rfl
 have kl:k<(D.map U4).length:=by
  rcases Nat.lt_or_ge k (D.map U4).length with h1|h1
  ·exact h1
  ·rw[lN h1] at hr; cases hr
 have r1:read1 3 (D.map U4) (k * 3+1)=some (.int .i64 (y:Int)):=Fa (sz:=3) (j:=1) oM hr
 have w1:Z0 3 (D.map U4) (k * 3+1) [.int .i64 ((y:Int) - 1)]=some ((D.map U4).set k [.int .i64 (x:Int),.int .i64 ((y:Int) - 1),.int .i64 (w:Int)]):=Vm hr rfl oM
 have hr2:((D.map U4).set k [.int .i64 (x:Int),.int .i64 ((y:Int) - 1),.int .i64 (w:Int)])[k]? = some [.int .i64 (x:Int),.int .i64 ((y:Int) - 1),.int .i64 (w:Int)]:=List.getElem?_set_self kl
 have r2:read1 3 ((D.map U4).set k [.int .i64 (x:Int),.int .i64 ((y:Int) - 1),.int .i64 (w:Int)]) (k * 3+2)=some (.int .i64 (w:Int)):=Fa (sz:=3) (j:=2) oM hr2
 have w2':Z0 3 ((D.map U4).set k [.int .i64 (x:Int),.int .i64 ((y:Int) - 1),.int .i64 (w:Int)]) (k * 3+2) [.int .i64 ((w:Int)+1)]=some (((D.map U4).set k [.int .i64 (x:Int),.int .i64 ((y:Int) - 1),.int .i64 (w:Int)]).set k [.int .i64 (x:Int),.int .i64 ((y:Int) - 1),.int .i64 ((w:Int)+1)]):=Vm hr2 rfl oM
 have rq:read1 1 [[C.int .u8 kq]] 0=some (.int .u8 kq):=rfl
 have fin:((D.map U4).set k [.int .i64 (x:Int),.int .i64 ((y:Int) - 1),.int .i64 (w:Int)]).set k [.int .i64 (x:Int),.int .i64 ((y:Int) - 1),.int .i64 ((w:Int)+1)]=(D.set k (x,y - 1,w+1)).map U4:=by
  rw[List.set_set,List.map_set]
  congr 1
  show _=[C.int .i64 (x:Int),.int .i64 ((y - 1:Nat):Int),.int .i64 ((w+1:Nat):Int)]
  rw[show ((y - 1:Nat):Int)=(y:Int) - 1 by omega]
  rfl
 have fin1:(D.map U4).set k [.int .i64 (x:Int),.int .i64 ((y:Int) - 1),.int .i64 (w:Int)]=(D.set k (x,y - 1,w)).map U4:=by
  rw[List.map_set]
  congr 1
  show _=[C.int .i64 (x:Int),.int .i64 ((y - 1:Nat):Int),.int .i64 (w:Int)]
  rw[show ((y - 1:Nat):Int)=(y:Int) - 1 by omega]
 obtain⟨Z,hZ⟩:=xzE (D.map U4)
 have fg:=fin
 have fg1:=fin1
 rw[hZ] at hp r1 w1 r2 w2' fg fg1
 have pp:=@H.Zdl
 obtain⟨v,h',cc,rfl,rfl⟩:∃ v h',Zb 67 [.c (.ptr p (k * 3)),.c (.ptr q 0)] h v h'/\v=.tup []/\h'=h.put p (.row 3 ((D.set k (x,y - 1,Lx kq w)).map U4) false):=by
  rcases kk with rfl|rfl
  ·have dn:Lx 1 w=w:=rfl
   rw[dn]
   refine Ym Hh Tryz.f67 ?_
   have Jf:=L8 @hq @hp @r1 @w1 @rq @pp
   repeat (first|apply Z6|apply Yx|refine Goes.Zi Zq ?_|refine Zn Hh Za Zq ?_)
   exact⟨_,_,(by have Jf:=@pp; exact Zq),rfl,by rw[fg1]⟩
  ·have dn:Lx 2 w=w+1:=rfl
   rw[dn]
   refine Ym Hh Tryz.f67 ?_
   have Jf:=Yp @hq @hp @r1 @w1 @r2 @w2' @rq @pp @fg
   repeat (first|apply Z6|apply Yx|refine Goes.Zi Zq ?_|refine Zn Hh Za Zq ?_)
   exact⟨_,_,(by have Jf:=Y2 @fg @pp; exact Zq),rfl,rfl⟩
 exact cc
variable {n q a b c e:Nat} {cr:Cr} [Opn cr] {md:Int} {S T:Lq} {V:Nat->Lq} {h:Hq}
theorem Ya3 (f:Yu a b c e=true) (M:HE n q a b c e cr md S T V h) {D:List Gc} {kq:Int} {g:Nat->Bool} {k t x0 i0 w0 gn:Nat} {o:List C} (G:GrpH a b c e S T V D kq g k t x0 i0 w0 gn o)
  {l p3 p4 p6 p7 p9 p11 pD:Nat} {o6 o7:C} {ts:Zv} (e3:Zg ts 3=.w (.c (.ptr p3 0))) (e4:Zg ts 4=.w (.c (.ptr p4 0))) (e6:Zg ts 6=.w (.c (.ptr p6 0))) (e7:Zg ts 7=.w (.c (.ptr p7 0))) (e9:Zg ts 9=.w (.c (.ptr p9 0))) (e11:Zg ts 11=.w (.c (.ptr p11 0))) (e12:Zg ts 12=.w (.c (.int .i64 (k:Int))))
  (c3:h.get p3=some (.row 1 [[.ptr (n+13) 0]] false)) (c4:h.get p4=some (.row 1 [[.int .u8 kq]] false)) (c6:h.get p6=some (.row 1 [[o6]] false)) (c7:h.get p7=some (.row 1 [[o7]] false)) (c9:h.get p9=some (.row 1 [[.slice pD 0 a 3]] false)) (c11:h.get p11=some (.row 4 [[.int .i64 (a:Int),.int .i64 (b:Int),.int .i64 (c:Int),.int .i64 (e:Int)]] false)) (cD:h.get pD=some (.row 3 (D.map U4) false))
  (b3:q+9<=p3/\p3<h.next) (b4:q+9<=p4/\p4<h.next) (b6:q+9<=p6/\p6<h.next) (b7:q+9<=p7/\p7<h.next) (b9:q+9<=p9/\p9<h.next) (b11:q+9<=p11/\p11<h.next) (bD:q+9<=pD/\pD<h.next) (bl:q+9<=l/\l<h.next)
  (n1:p3≠pD) (n2:p4≠pD) (n3:p6≠pD) (n4:p7≠pD) (n5:p6≠p7) :
  Z9 96 (some l) (q22 [1,1,1,1,1,1,0,1,2,6]) [] ts h fun x _ _ h'=>x=.ret/\h.next<=h'.next/\HE n q a b c e cr md S T (Zrl b c e V D kq g k t x0 i0 w0 gn) h'/\(∀ m,m<h.next->Out n q m->m≠pD->m≠p6->m≠p7->h'.get m=h.get m)/\h'.get p6=some (.row 1 [[.int .i64 ((k * c+t+1:Nat):Int)]] false)/\h'.get p7=some (.row 1 [[.int .i64 0]] false):=by
 obtain⟨ka,low,gm,tc,kk,bm,des,old,ol,o2,gb,hk,y1,y2,y3,Dm,s1,s2,s3⟩:=G
 have Dl:=des.2.2
 obtain⟨g1,g2,g3,g4,g5,g6,g7,g8,g9,g10,g11⟩:=Z5 f
 have st:=Dc (b:=b) ka
 have sc:=Dc (b:=c) ka
 obtain⟨zb,hb⟩:∃ z,2+e+k * b+1=z:=⟨_,rfl⟩
 rw[hb] at bm s3
 have zbl:zb<2+e+a * b:=oM
 have ob:=Df (z:=zb) (Z5 f) oM zbl
 obtain⟨nq,nx,_⟩:=M.nxO
 have bl1:(Oi g).length=256:=Fz _
 have cF:∀ h,Zb 63 [.g (Oi g),.c (.int .i64 0),.c (.int .i64 (c:Int))] h (.w (.c (.int .i64 (t:Int)))) h:=fun h=>by
  have:=Z05 Hh g (s:=0) (t:=t) (u:=c) oM oM oM (fun j _ h=>low j h) (fun _=>gm) h
  rwa [if_pos tc] at this
 have ra:(k * 3+1) / 3=k:=oM
 have rb:(k * 3+1) % 3=1:=oM
 have rc:(D.map U4)[k]? = some [.int .i64 (x0:Int),.int .i64 (i0:Int),.int .i64 (w0:Int)]:=by rw[List.getElem?_map,hk]; rfl
 have ml:(Oi (Tg g t)).length=256:=Fz _
 unfold Zrl
 rw[hb]
 obtain⟨j,hj⟩:=xzE (k * c+t)
 rw[hj] at old s1 ⊢
 have kj:j / c=k:=by rw[<-hj,Nat.mul_comm,Nat.mul_add_div oM,Nat.div_eq_of_lt tc,Nat.add_zero]
 have jl:j<a * c:=oM
 obtain⟨D',hD'⟩:=xzE (D.set k (x0,i0 - 1,Lx kq w0))
 have Dl':D'.length=a:=by rw[<-hD',List.length_set,Dl]
 rw[hD'] at Dm ⊢
 have pc:=Rw c j
 have mI:Ziq (kq.toNat:Nat) (1:Nat) (0:Nat) (0:Nat) (0:Nat) (0:Nat) (0:Nat) (0:Nat) (0:Nat) (0:Nat) (0:Nat) (0:Nat) (0:Nat) (0:Nat) (0:Nat)=true:=by rcases kk with rfl|rfl<;>rfl
 have kb:kq.toNat<256:=by rcases kk with rfl|rfl<;>decide
 have ke:((kq.toNat:Nat):Int)=kq:=by rcases kk with rfl|rfl<;>rfl
 have sl:(V (Y0 b c e j)).length=256:=by
  have tj:j % c<c:=Nat.mod_lt _ oM
  exact M.len (Df (Z5 f) (by unfold Y0; rw[kj]; omega) (by unfold Y0; rw[kj]; omega)) (by unfold Y0; rw[kj]; omega)
 have hi:=fun (h:Hq) (m:Nat) (hp:h.get m=some (.row 256 [pgL (V (Y0 b c e j))] false)) (lm:m<h.next)=>Zv6 Hh sl pc kb (l:=1) (g:=gn+1) (s:=0) (p0:=0) (p1:=0) (p2:=0) (p3:=0) (p4:=0) (p5:=0) (p6:=0) (p7:=0) (p8:=0) (p9:=0) (p10:=0) (nx:=0) oM oM oM (fun v hv=>by simp only[List.mem_cons,List.not_mem_nil,or_false,or_self] at hv; omega) oM mI hp lm
 obtain⟨ms,hms⟩:=xzE (Ed (V (Y0 b c e j)) (La c j) kq.toNat 1 (gn+1) 0 [0,0,0,0,0,0,0,0,0,0,0] 0)
 have msl:ms.length=256:=by rw[<-hms,Zgt oM,sl]
 rw[hms] at hi ⊢
 have hi':∀ h m,h.get m=some (.row 256 [pgL (V (Y0 b c e j))] false)->m<h.next->∃ h',Zb 148 [.c (.ptr m 0),.c (.int .i64 (La c j:Nat)),.g (Ra kq 1 ((gn:Int)+1) 0 0 0 0 0 0 0 0 0 0 0 0 0)] h (.w (.c (.int .i64 0))) h'/\h.next<=h'.next/\h'.get m=some (.row 256 [pgL ms] false)/\∀ k,k<h.next->k≠m->h'.get k=h.get k:=fun h m hp lm=>by
  have:=hi h m hp lm
  rw[ke] at this
  exact this
 clear hi
 have gi:(gn:Int)+1<4294967296:=oM
 obtain⟨B,hB⟩:=xzE (Oi g)
 have hG:=fun {h:Hq} (M:HE n q a b c e cr md S T V h)=>Z1i Hh f M ((j+1:Nat):Int)
 simp only[old] at hG
 have hGE:=fun {h:Hq} (M:HE n q a b c e cr md S T V h)=>M.get f ob zbl
 simp only[bm,<-Zhg] at hGE
 have hC:=fun {h:Hq} (M:HE n q a b c e cr md S T V h) {pq:Nat} (hp:h.get pD=some (.row 3 (D.map U4) false)) (pl:pD<h.next)=>Z1h Hh f M jl s1 s2 (by rw[kj,hb]; exact s3) msl (Zpn (Tg g t)) (y:=Ra kq 1 ((gn:Int)+1) 0 0 0 0 0 0 0 0 0 0 0 0 0) rfl (F:=67) (pq:=pq) hp Dl Dl' Dm pl bD.1
 rw[kj,hb] at hC
 simp only[<-Zhg] at hC
 rw[hB] at bl1 cF
 simp only[hB] at hGE
 iterate 2 (first|apply gS)
 obtain⟨hZ,e1,MZ,nZ,rZ⟩:=hGE M
 have k1:=Eo Hh e1
 have Jf:=Yp @f @e3 @e4 @e6 @e7 @e9 @e11 @e12 (Yp @c3 @c4 @c6 @c7 @c9 @c11 @cD @rd4 (Yp @hb @bl1 @ra @rb @rc @hj @ol @gi @Nat.zero_add))
 iterate 7 (first|refine Goes.Zi Mt ?_|refine Zn Hh (Zj (EY Za (T9 Hh)) k1) Mt ?_|refine Fe Hh (Zj (EY Za (T9 Hh)) k1) Zz3 ?_|apply gS)
 have z3:=(rZ p3 oM oM).trans c3
 have z9:=(rZ p9 oM oM).trans c9
 have z11:=(rZ p11 oM oM).trans c11
 have zD:=(rZ pD oM oM).trans cD
 have Jf:=L8 Jf @z3 @z9 @z11 @zD @nZ
 iterate 12 (first|refine Goes.Zi Mt ?_|refine Zn Hh (Y3 Za cF) Mt ?_|apply gS)
 iterate 2 (first|refine Zn Hh (EY Za (Zr5 Hh)) Mt ?_|apply gS)
 refine Jq fun hA eA=>?_
 have nA:hA.next=h.next+1:=by rw[eA]; simp only[H.Zf,H.Ze,nZ]
 have kA:∀ m,m<h.next->m≠n+6->hA.get m=h.get m:=fun m hm hne=>by rw[eA]; refine Eq.trans ?_ (rZ m hm hne); exact Yn
 have bA:hA.get h.next=some (.row 256 [B] false):=by rw[eA]; exact Zt
 have MA:=MZ.keep (h2:=hA) (by rw[eA]; simp only[H.Zf,H.Ze]<;>omega) (fun m hm=>by rw[eA]; exact Yn)
 clear eA
 obtain⟨hG',k3,MG,rG⟩:=hG MA
 have nG:=rG.1
 have cA3:=(kA p3 oM oM).trans c3
 have Jf:=Jh Jf @cA3 @nA
 iterate 7 (first|refine Goes.Zi Mt ?_|refine Zn Hh (Zj Za k3) Mt ?_|apply gS)
 refine Jq fun hC' eC=>?_
 have nC:hC'.next=hG'.next+1:=nxQ eC
 have kC:∀ m,m<h.next+1->m≠n+6->hC'.get m=hA.get m:=fun m hm hne=>by rw[eC]; refine Eq.trans ?_ (rG.2 m oM hne); exact Yn
 have iC:hC'.get hG'.next=some (.row 16 [o] false):=by rw[eC]; exact Zt
 have MC:=MG.keep (h2:=hC') (by rw[eC]; simp only[H.Zf,H.Ze]<;>omega) (fun m hm=>by rw[eC]; exact Yn)
 clear eC
 have bC:=(kC h.next oM oM).trans bA
 rw[<-hB] at bC
 have k4:=Z8o Hh hC' h.next t g oM gm bC
 iterate 2 (first|refine Zn Hh (Zj Za k4) Mt ?_|apply gS)
 refine Jq fun hD eD=>?_
 have nD:hD.next=hG'.next+1:=by rw[eD,H.Zf,nC]
 have kD:∀ m,m<h.next->m≠n+6->hD.get m=h.get m:=fun m hm hne=>by rw[eD,Zc oM,kC m oM hne]; exact kA m hm hne
 have bD':hD.get h.next=some (.row 256 [Oi (Tg g t)] false):=by rw[eD,Zz]
 have iD:hD.get hG'.next=some (.row 16 [o] false):=by rw[eD,Zc oM]; exact iC
 have MD:=MC.keep (h2:=hD) (by rw[eD,H.Zf]; omega) (fun m hm=>by rw[eD,Zc oM])
 clear eD
 have d3:=(kD p3 oM oM).trans c3
 have d4:=(kD p4 oM oM).trans c4
 have d9:=(kD p9 oM oM).trans c9
 have dD:=(kD pD oM oM).trans cD
 obtain⟨hE,k5,ME,nE,kE⟩:=hC MD (pq:=p4) dD oM (fun h2 k2=>by
  have:=Ya1 Hh (h:=h2) kk ((k2 p4 oM ⟨⟨oM,oM,oM,oM,oM⟩,oM⟩).trans d4) ((k2 pD oM ⟨⟨oM,oM,oM,oM,oM⟩,oM⟩).trans dD) hk y1 y2 y3 (Ne.symm n2)
  rw[hD'] at this
  exact this) hi'
 simp only[Ra] at k5
 have rm:Zm 256 [Oi (Tg g t)] 0 256=some (Oi (Tg g t)):=Lm oM
 have q6:=(kE p6 oM ⟨⟨oM,oM,oM,oM,oM⟩,oM⟩ oM).trans ((kD p6 oM oM).trans c6)
 have q7:=(kE p7 oM ⟨⟨oM,oM,oM,oM,oM⟩,oM⟩ oM).trans ((kD p7 oM oM).trans c7)
 have Jf:=Y2 Jf (Yp @d3 @d4 @d9 @bD' @iD @o2 @rm @q6 @q7)
 iterate 9 (first|refine Goes.Zi Mt ?_|refine Zn Hh (Zj Za k5) Mt ?_|apply gS)
 refine⟨rfl,?_,ME.keep ?_ (fun m hm=>?_),?_,?_,?_⟩
 ·simp only[H.Zf]; omega
 ·simp only[H.Zf]; omega
 ·rw[Zc oM,Zc oM]
 ·intro m m1 m2 m3 m4 m5; rw[Zc m5,Zc m4]; exact (kE m oM m2 m3).trans (kD m m1 m2.1.1)
 ·rw[Zc oM,Zz]
 ·rw[Zz]
end
structure TCg (n q a b c e:Nat) (cr:Cr) (md:Int) (S T:Lq) (V:Nat->Lq) (D:List Gc) (kq:Int) (l p3 p4 p6 p7 p9 p11 pD:Nat) (ts:Zv) (h:Hq):Prop where
 M:HE n q a b c e cr md S T V h
 e3:Zg ts 3=.w (.c (.ptr p3 0))
 e4:Zg ts 4=.w (.c (.ptr p4 0))
 e6:Zg ts 6=.w (.c (.ptr p6 0))
 e7:Zg ts 7=.w (.c (.ptr p7 0))
 e9:Zg ts 9=.w (.c (.ptr p9 0))
 e11:Zg ts 11=.w (.c (.ptr p11 0))
 c3:h.get p3=some (.row 1 [[.ptr (n+13) 0]] false)
 c4:h.get p4=some (.row 1 [[.int .u8 kq]] false)
 c6:h.get p6=some (.row 1 [[.int .i64 0]] false)
 c7:h.get p7=some (.row 1 [[.int .i64 0]] false)
 c9:h.get p9=some (.row 1 [[.slice pD 0 a 3]] false)
 c11:h.get p11=some (.row 4 [[.int .i64 (a:Int),.int .i64 (b:Int),.int .i64 (c:Int),.int .i64 (e:Int)]] false)
 cD:h.get pD=some (.row 3 (D.map U4) false)
 b3:q+9<=p3/\p3<h.next
 b4:q+9<=p4/\p4<h.next
 b6:q+9<=p6/\p6<h.next
 b7:q+9<=p7/\p7<h.next
 b9:q+9<=p9/\p9<h.next
 b11:q+9<=p11/\p11<h.next
 bD:q+9<=pD/\pD<h.next
 bl:q+9<=l/\l<h.next
 n1:p3≠pD
 n2:p4≠pD
 n3:p6≠pD
 n4:p7≠pD
 n5:p6≠p7
 n6:l≠pD
 n7:l≠p6
 n8:l≠p7
 n9:l≠p3/\l≠p4/\l≠p9/\l≠p11
structure TAg (n q a b c e:Nat) (cr:Cr) (md:Int) (S T:Lq) (V:Nat->Lq) (pD l p6 p7 d v:Nat) (ts:Zv) (h0 h:Hq):Prop where
 M:HE n q a b c e cr md S T V h
 next:h0.next<=h.next
 hl:h.get l=some (.loop ts 96 [42] (q22 [1,1,1,1,1,1,0,1,2,5]) (q22 [1,1,1,1,1,1,0,1,2,6]) .done (some .ret) d)
 r6:h.get p6=some (.row 1 [[.int .i64 (v:Int)]] false)
 r7:h.get p7=some (.row 1 [[.int .i64 0]] false)
 keep:∀ m,m<h0.next->Out n q m->m≠l->m≠pD->m≠p6->m≠p7->h.get m=h0.get m
section
variable (Hh:Hearts K Tryz.prog)
include Hh
variable {n q a b c e:Nat} {cr:Cr} [Opn cr] {md:Int} {S T:Lq} {V:Nat->Lq} {D:List Gc} {kq:Int} {g:Nat->Bool} {k t x0 i0 w0 gn:Nat} {o:List C} {l p3 p4 p6 p7 p9 p11 pD d:Nat} {ts:Zv} {h:Hq}
theorem Ya2 (l:Nat) (ts:Zv) (k:Nat) (h:Hq):Z9 96 (some l) (q22 [1,1,1,1,1,1,0,1,2,5]) [] (ts.set 42 (.w (.c (.int .i64 (k:Int))))) h fun x ds' ts' h'=>x=.normal/\ds'=[]/\(∀ s,s<=11->Zg ts' s=Zg ts s)/\Zg ts' 12=.w (.c (.int .i64 (k:Int)))/\h'=h:=by
 refine Zn Hh Za Zd ?_
 refine⟨rfl,rfl,fun s hs=>?_,?_,rfl⟩
 ·simp (decide:=true) only [Y9 hs]
 ·exact Zd
theorem Zt2 (f:Yu a b c e=true) (G:GrpH a b c e S T V D kq g k t x0 i0 w0 gn o) (TC:TCg n q a b c e cr md S T V D kq l p3 p4 p6 p7 p9 p11 pD ts h) (hl:h.get l=some (.loop ts 96 [42] (q22 [1,1,1,1,1,1,0,1,2,5]) (q22 [1,1,1,1,1,1,0,1,2,6]) .ready none d)) :
  ∃ E h',Sound K Tryz.prog E/\J5 E l (some [.c (.int .i64 (k:Int))]) h (some (.loop ts 96 [42] (q22 [1,1,1,1,1,1,0,1,2,5]) (q22 [1,1,1,1,1,1,0,1,2,6]) .ready none d))=some (.val (.w (.c (.bool false))) h')/\TAg n q a b c e cr md S T (Zrl b c e V D kq g k t x0 i0 w0 gn) pD l p6 p7 d (k * c+t+1) ts h h':=by
 obtain⟨xa,ds1,ts1,h1,kA,rfl,rfl,t1,t12,rfl⟩:=Ya2 Hh l ts k h
 obtain⟨M,e3,e4,e6,e7,e9,e11,c3,c4,c6,c7,c9,c11,cD,b3,b4,b6,b7,b9,b11,bD,bl,n1,n2,n3,n4,n5,n6,n7,n8,n9⟩:=TC
 obtain⟨nq,nx,_⟩:=M.nxO
 have M':=M.keep (h2:=h1.put l (.loop ts 96 [42] (q22 [1,1,1,1,1,1,0,1,2,5]) (q22 [1,1,1,1,1,1,0,1,2,6]) .busy none d)) (by rw[H.Zf]; omega) (fun m hm=>by rw[Zc oM])
 obtain⟨xb,ds2,ts2,h2,kB,rfl,nn,MB,kk,r6,r7⟩:=Ya3 Hh f M' G (l:=l) (ts:=ts1) ((t1 3 dM).trans e3) ((t1 4 dM).trans e4) ((t1 6 dM).trans e6) ((t1 7 dM).trans e7) ((t1 9 dM).trans e9) ((t1 11 dM).trans e11) t12
  (by rw[Zc (Ne.symm n9.1)]; exact c3) (by rw[Zc (Ne.symm n9.2.1)]; exact c4) (by rw[Zc (Ne.symm n7)]; exact c6) (by rw[Zc (Ne.symm n8)]; exact c7) (by rw[Zc (Ne.symm n9.2.2.1)]; exact c9) (by rw[Zc (Ne.symm n9.2.2.2)]; exact c11) (by rw[Zc (Ne.symm n6)]; exact cD) b3 b4 b6 b7 b9 b11 bD bl n1 n2 n3 n4 n5
 have gl:=(kk l (by rw[H.Zf]; omega) ⟨⟨oM,oM,oM,oM,oM⟩,oM⟩ n6 n7 n8).trans (Zz ..)
 have Sd:=Dq (Dq Za kB) kA
 obtain⟨E,h3,Sd2,rnd,rfl⟩:∃ E h3,Sound K Tryz.prog E/\J5 E l (some [.c (.int .i64 (k:Int))]) h1 (h1.get l)=some (.val (.w (.c (.bool false))) h3)/\h3=h2.put l (.loop ts 96 [42] (q22 [1,1,1,1,1,1,0,1,2,5]) (q22 [1,1,1,1,1,1,0,1,2,6]) .done (some .ret) d):=by
  refine⟨_,_,Sd,Mj hl (by simp only[Oh]; rfl) (Ex ..) hl (Qm (fun e=>?_) |>.trans (Ex ..)) gl,rfl⟩
  have e1:=(Task.code.inj e).1
  rw[Zi6,Zi5] at e1
  cases e1
 rw[hl] at rnd
 refine⟨_,_,Sd2,rnd,MB.keep (by rw[H.Zf]; omega) (fun m hm=>by rw[Zc oM]),?_,Zz ..,?_,?_,fun m m1 m2 m3 m4 m5 m6=>?_⟩
 ·rw[H.Zf] at nn ⊢
  exact nn
 ·rw[Zc (Ne.symm n7)]; exact r6
 ·rw[Zc (Ne.symm n8)]; exact r7
 ·rw[Zc m3,kk m (by rw[H.Zf]; exact m1) m2 m4 m5 m6,Zc m3]
theorem Z1d (f:Yu a b c e=true) {near:Int} (hk:Zf2 a c near=k) (G:GrpH a b c e S T V D kq g k t x0 i0 w0 gn o) (TC:TCg n q a b c e cr md S T V D kq l p3 p4 p6 p7 p9 p11 pD ts h) (hl:h.get l=some (.loop ts 96 [42] (q22 [1,1,1,1,1,1,0,1,2,5]) (q22 [1,1,1,1,1,1,0,1,2,6]) .ready none d)) {pg pn:Nat} (hg:h.get pg=some (.row 4 [[.int .i64 (a:Int),.int .i64 (b:Int),.int .i64 (c:Int),.int .i64 (e:Int)]] false)) (hn:h.get pn=some (.row 1 [[.int .i64 near]] false)) :
  ∃ v h',Zb 140 [.c (.yield l),.c (.ptr pg 0),.c (.ptr pn 0)] h v h'/\TAg n q a b c e cr md S T (Zrl b c e V D kq g k t x0 i0 w0 gn) pD l p6 p7 d (k * c+t+1) ts h h':=by
 obtain⟨g1,g2,g3,g4,g5,g6,g7,g8,g9,g10,g11⟩:=Z5 f
 obtain⟨E,h2,Sd,rnd,A⟩:=Zt2 Hh f G TC hl
 have ka:=G.ka
 by_cases hv:1<=near/\near<=((a * c:Nat):Int)
 ·obtain⟨v1,v2⟩:=hv
  obtain⟨j,hj⟩:=xzE (near.toNat - 1)
  obtain rfl:near=((j+1:Nat):Int):=oM
  have d1:=decide_eq_true v1
  have d2:=decide_eq_true v2
  have gk:Zf2 a c ((j+1:Nat):Int)=j / c:=by unfold Zf2; rw[if_pos ⟨v1,v2⟩,hj]
  rw[gk] at hk
  have km:k % a=k:=Nat.mod_eq_of_lt ka
  have rm:Nr .i64 (k:Int) (a:Int)=some (.int .i64 (k:Int)):=by rw[Et oM,km]
  have e0:(k:Int)+0=(k:Int):=Int.add_zero _
  refine Ym Hh Tryz.f140 ?_
  have Jf:=J4 @f @hg @hn (Yp @hl @rd4 @d1 @d2 @hj @hk @rm @e0 @rnd)
  iterate 21 (first|refine Goes.Zi Uq ?_|refine Zn Hh (EY Za (Mr Hh)) Uq ?_|apply gS)
  iterate 3 (first|refine Goes.Zi Uq ?_|refine Zn Hh Sd Uq ?_|apply gS)
  exact⟨_,_,Zd,A⟩
 ·have gk:Zf2 a c near=0:=by unfold Zf2; rw[if_neg hv]
  obtain rfl:k=0:=hk.symm.trans gk
  have rnd0:J5 E l (some [.c (.int .i64 0)]) h (some (.loop ts 96 [42] (q22 [1,1,1,1,1,1,0,1,2,5]) (q22 [1,1,1,1,1,1,0,1,2,6]) .ready none d))=some (.val (.w (.c (.bool false))) h2):=rnd
  have dd:(decide (1<=near)&&decide (near<=((a * c:Nat):Int)))=false:=by
   rw[<-Bool.decide_and]
   exact decide_eq_false hv
  have rm:Nr .i64 0 (a:Int)=some (.int .i64 0):=by
   have:=Et (k:=.i64) (a:=0) (b:=a) oM
   rwa [Nat.zero_mod] at this
  refine Ym Hh Tryz.f140 ?_
  have Jf:=Vr @f @hg @hn @hl @rd4 @dd @rm @rnd0
  iterate 21 (first|refine Goes.Zi Uq ?_|refine Zn Hh (EY Za (Mr Hh)) Uq ?_|apply gS)
  iterate 3 (first|refine Goes.Zi Uq ?_|refine Zn Hh Sd Uq ?_|apply gS)
  exact⟨_,_,Zd,A⟩
theorem Zyy (f:Yu a b c e=true) {near:Int} (hk:Zf2 a c near=k) (G:GrpH a b c e S T V D kq g k t x0 i0 w0 gn o) {pg pn:Nat} (TC:∀ h2 l,h.next<l->l<h2.next->(∀ m,m<h.next->h2.get m=h.get m)->TCg n q a b c e cr md S T V D kq l p3 p4 p6 p7 p9 p11 pD ts h2) (nh:q+9<=h.next) (nq:n+23<=q) (p6h:p6<h.next) (p7h:p7<h.next) (pDh:pD<h.next)
  (hg:h.get pg=some (.row 4 [[.int .i64 (a:Int),.int .i64 (b:Int),.int .i64 (c:Int),.int .i64 (e:Int)]] false)) (hn:h.get pn=some (.row 1 [[.int .i64 near]] false)) (lg:pg<h.next) (ln:pn<h.next) (e41:Zg ts 41=.w (.c (.fn 140 [] [some (pg,0),some (pn,0)]))) :
  Z9 96 none (q22 [1,1,1,1,1,1,0,1,2]) [] ts h fun x ds' ts' h'=>x=.ret/\ts'=ts/\ds'=[h.next]/\h'.get h.next=some .defers/\h'.get p6=some (.row 1 [[.int .i64 ((k * c+t+1:Nat):Int)]] false)/\h'.get p7=some (.row 1 [[.int .i64 0]] false)/\HE n q a b c e cr md S T (Zrl b c e V D kq g k t x0 i0 w0 gn) h'/\h.next<=h'.next/\∀ m,m<h.next->Out n q m->m≠pD->m≠p6->m≠p7->h'.get m=h.get m:=by
 have g0:∀ (o:O) m,m<h.next->((h.new .defers).new o).get m=h.get m:=fun o m hm=>by rw[Yf (by rw[H.Ze]; omega),Yf oM]
 have gd:∀ o:O,((h.new .defers).new o).get h.next=some .defers:=fun o=>by rw[Yf (by rw[H.Ze]; omega),O6]
 have T1:=TC ((h.new .defers).new (.loop ts 96 [42] (q22 [1,1,1,1,1,1,0,1,2,5]) (q22 [1,1,1,1,1,1,0,1,2,6]) .ready none h.next)) (h.next+1) oM (by simp only[H.Ze]; omega) (fun m hm=>g0 _ m hm)
 rw[Zko]
 refine Goes.Ze4 fits Hh (f:=140) (first:=[]) (caps:=[some (pg,0),some (pn,0)]) (by simp only[Z4,Ya,e41,asC]) (exE (Z1d Hh f hk G T1 (by rw[Oe (by simp only[H.Ze]; omega)]) ((g0 _ _ lg).trans hg) ((g0 _ _ ln).trans hn)) ?_)
 rintro v h3 A
 have an:=A.next
 simp only[H.Ze] at an
 refine⟨_,_,_,_,_,_,_,_,A.hl,by simp,?_⟩
 show _/\_/\_
 refine⟨rfl,rfl,rfl,?_,?_,?_,A.M.keep (by rw[H.Zf]; omega) (fun m hm=>by rw[Zc oM]),by rw[H.Zf]; omega,fun m hm ho m1 m2 m3=>?_⟩
 ·rw[Zc oM,A.keep _ (by simp only[H.Ze]; omega) ⟨⟨oM,oM,oM,oM,oM⟩,oM⟩ oM oM oM oM,gd]
 ·rw[Zc oM,A.r6]
 ·rw[Zc oM,A.r7]
 ·rw[Zc oM,A.keep m (by simp only[H.Ze]; omega) ho oM m1 m2 m3,g0 _ _ hm]
theorem Z7q (f:Yu a b c e=true) (M:HE n q a b c e cr md S T V h) {near:Int} (hk:Zf2 a c near=k) (G:GrpH a b c e S T V D kq g k t x0 i0 w0 gn o) :
  ∃ h',Zb 22 [.c (.ptr (n+13) 0),.c (.int .u8 kq),.c (.int .i64 near)] h (.tup [.c (.int .i64 ((k * c+t+1:Nat):Int)),.c (.int .i64 0)]) h'/\HE n q a b c e cr md S T (Zrl b c e V D kq g k t x0 i0 w0 gn) h'/\h.next<=h'.next/\∀ m,m<h.next->Out n q m->h'.get m=h.get m:=by
 obtain⟨g1,g2,g3,g4,g5,g6,g7,g8,g9,g10,g11⟩:=Z5 f
 have kk:=G.kk
 have ek:(kq != 1&&kq != 2)=false:=by rcases kk with rfl|rfl<;>rfl
 obtain⟨nq,nx,_⟩:=M.nxO
 obtain⟨_,⟨kn0,hs⟩,⟨dk0,gl⟩,ht⟩:=M.cells
 unfold gdL gdD at gl
 refine Ow ?_
 obtain⟨kv,hkv⟩:∃ kv,kv=kq:=⟨_,rfl⟩
 rcases kk with rfl|rfl
 all_goals
  refine Ym Hh Tryz.f22 ?_
  have Jf:=J4 @f @hs @gl @ht
  iterate 15 (first|refine Goes.Zi Mw ?_|refine Zn Hh (EY Za (Zmf Hh)) Mw ?_|apply gS)
  refine Jq fun hA eA=>?_
  have nA:hA.next=h.next+1+1+1+1:=nxQ eA
  have kA:∀ m,m<h.next->hA.get m=h.get m:=kQ eA
  have a3:hA.get h.next=some (.row 1 [[.ptr (n+13) 0]] false):=by rw[eA]; exact Zd
  have a4:hA.get (h.next+1)=some (.row 1 [[.int .u8 kv]] false):=by rw[eA,hkv]; exact Zd
  have a6:hA.get (h.next+1+1)=some (.row 1 [[.int .i64 0]] false):=by rw[eA]; exact Zd
  have a7:hA.get (h.next+1+1+1)=some (.row 1 [[.int .i64 0]] false):=by rw[eA]; exact Zd
  clear eA
  subst hkv
  have MA:=M.keep (h2:=hA) oM (fun m hm=>kA m oM)
  obtain⟨hB,pD,k6,MB,kB',pD1,pD2,cD⟩:=Z54 Hh f MA G.des
  have kB:=kB'.2
  obtain⟨_,⟨knB,hsB⟩,⟨dkB,glB⟩,_⟩:=MB.cells
  unfold gdL gdD at glB
  have b3:=(kB h.next oM oM).trans a3
  have b4:=(kB (h.next+1) oM oM).trans a4
  have b6:=(kB (h.next+1+1) oM oM).trans a6
  have b7:=(kB (h.next+1+1+1) oM oM).trans a7
  have Jf:=Yp @f @hs @gl @ht @a3 @hsB @glB @b3 @b4
  iterate 7 (first|refine Goes.Zi Mw ?_|refine Zn Hh (Zj Za k6) Mw ?_|apply gS)
  iterate 5 (first|refine Zn Hh (EY (EY Za (J3 Hh)) (Zuf Hh)) Mw ?_|apply gS)
  refine Jq fun hC eC=>?_
  have nC:hC.next=hB.next+1+1+1+1:=nxQ eC
  have kC:∀ m,m<hB.next->hC.get m=hB.get m:=kQ eC
  have c9:hC.get hB.next=some (.row 1 [[.slice pD 0 a 3]] false):=by rw[eC]; exact Zd
  have c11:hC.get (hB.next+1)=some (.row 4 [[.int .i64 (a:Int),.int .i64 (b:Int),.int .i64 (c:Int),.int .i64 (e:Int)]] false):=by rw[eC]; exact Zd
  have cg:hC.get (hB.next+1+1)=some (.row 4 [[.int .i64 (a:Int),.int .i64 (b:Int),.int .i64 (c:Int),.int .i64 (e:Int)]] false):=by rw[eC]; exact Zd
  have cn:hC.get (hB.next+1+1+1)=some (.row 1 [[.int .i64 near]] false):=by rw[eC]; exact Zd
  clear eC
  have nB:=MB.nxO.2.1
  have MC:=MB.keep (h2:=hC) oM (fun m hm=>kC m oM)
  refine (Zyy Hh (h:=hC) (n:=n) (cr:=cr) (md:=md) (S:=S) (T:=T) f hk G (p3:=h.next) (p4:=h.next+1) (p6:=h.next+1+1) (p7:=h.next+1+1+1) (p9:=hB.next) (p11:=hB.next+1) (pD:=pD) (pg:=hB.next+1+1) (pn:=hB.next+1+1+1) ?_ oM nq oM oM oM cg cn oM oM ?_).mono ?_
  ·intro h2 l l1 l2 k2
   refine⟨MC.keep oM (fun m hm=>k2 m oM),?_,?_,?_,?_,?_,?_,(k2 _ oM).trans ((kC _ oM).trans b3),(k2 _ oM).trans ((kC _ oM).trans b4),(k2 _ oM).trans ((kC _ oM).trans b6),(k2 _ oM).trans ((kC _ oM).trans b7),(k2 _ oM).trans c9,(k2 _ oM).trans c11,(k2 _ oM).trans ((kC _ oM).trans cD),?_,?_,?_,?_,?_,?_,?_,?_,?_,?_,?_,?_,?_,?_,?_,?_,?_⟩
   all_goals (first|omega|(simp (decide:=true) only [Zo,reduceIte]))
  ·exact tY
  rintro x ds' ts' h' ⟨rfl,rfl,rfl,gd',r6,r7,MM,nn,kk⟩
  refine⟨_,_,(by have Jf:=Jh @gd' @r6 @r7; exact Ye),rfl,MM.keep ?_ (fun m hm=>?_),?_,fun m hm ho=>?_⟩
  ·simp only[H.Zf,H.Ze,H.Yv]<;>omega
  ·exact Yn
  ·simp only[H.Zf,H.Ze,H.Yv]<;>omega
  ·refine Eq.trans ?_ ((kk m oM ho oM oM oM).trans ((kC m oM).trans ((kB m oM ho.1.1).trans (kA m hm)))); exact Yn
end
end Go.Proofs.YtmanipmhebgdbaaGreatDoor
