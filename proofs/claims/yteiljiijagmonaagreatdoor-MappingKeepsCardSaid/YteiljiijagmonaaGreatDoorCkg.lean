/- A cut below an indirect block: the whole. -/
import Derived.Test.YteiljiijagmonaaGreatDoorCkd
set_option maxRecDepth 100000
set_option maxHeartbeats 4000000
set_option linter.unusedSimpArgs false
set_option linter.unusedVariables false
set_option linter.unusedSectionVars false
namespace Go.Proofs.YteiljiijagmonaaGreatDoor
open Go.Ev
section
variable (Hh:Hearts K Tryz.prog)
include Hh
theorem span0 (h:Hq):Zi 33 [.c (.int .i64 0)] h (.w (.c (.int .i64 1))) h:=by
 refine fnG Hh Tryz.f33 ?_
 iterate 22 (first|apply Zu|apply Ye|apply Jc|apply Gr|apply Yc|apply J8|refine Goes.Zl Zf ?_|refine Zr Hh Za Zf ?_)
 exact Zf
theorem span1 (h:Hq):Zi 33 [.c (.int .i64 1)] h (.w (.c (.int .i64 64))) h:=by
 refine fnG Hh Tryz.f33 ?_
 iterate 32 (first|apply Zu|apply Ye|apply Jc|apply Gr|apply Yc|apply J8|refine Goes.Zl Zf ?_|refine Zr Hh Za Zf ?_)
 exact Zf
variable {n q sh pc pb pk pl fr mo z k0 lv p6 pD p11 k nn:Nat} {md:Int} {ptr:Nat->Nat->Nat} {Q:Nat->(Nat->Lq)->Prop} {W0:Lq} {V:Nat->Lq} {h:Hq} {ts:Zw}
theorem Z26 {sp fi w0:Nat} {Kf:Nat->Nat} {pa pf pr:Nat} (lv4:lv<4) (kid:∀ w,w<64->w0<=w->Zgc n q md sh pc pb pk pl fr mo ptr Q z lv (fi+w * sp) w (Kf w) (Kf (w+1))) (mon:∀ i j,i<=j->Kf i<=Kf j) (p32:∀ k w,ptr k w<4294967296) (t3:Ze ts 3=.w (.c (.ptr pb 0))) (t4:Ze ts 4=.w (.c (.ptr pk 0))) (t6:Ze ts 6=.w (.c (.ptr p6 0))) (t10:Ze ts 10=.w (.c (.ptr pD 0))) (t11:Ze ts 11=.w (.c (.ptr p11 0))) (t35:Ze ts 35=.w (.c (.fn 133 [] [some (pa,0),some (pf,0),some (pr,0)])))
  (sp6:sp<=64) (fi4:fi<100000) (fr4:fr<100000) (hw:∀ w,w<64->(fi+w * sp+sp<=fr ↔ w<w0)) (w64:w0<=64) (cS:∀ h,Zi 33 [.c (.int .i64 ((lv:Int) - 1))] h (.w (.c (.int .i64 (sp:Int)))) h) (B:BS n q md sh pc pb pk pl fr mo ptr Q z k0 W0 lv p6 pD p11 k nn false V h) (kj:k<=Kf 64)
  (ha:h.get pa=some (.row 1 [[.int .i64 (lv:Int)]] false)) (hf:h.get pf=some (.row 1 [[.int .i64 (fi:Int)]] false)) (hr:h.get pr=some (.row 1 [[.int .i64 (fr:Int)]] false)) (oa:pa<h.next) (of:(q+9<=pf/\pf<h.next)/\pf≠pc/\pf≠pD/\pf≠p11) (or:(q+9<=pr/\pr<h.next)/\pr≠pc/\pr≠pD/\pr≠p11) :
  Z7 99 none (q72 [1,1,1,1,0,1,2]) [] ts h fun x' ds' ts' h'=>∃ k2 nn2 fu2 V2,x'=(bif fu2 then .exit 0 else .normal)/\ts'=ts/\ds'=[h.next]/\h'.get h.next=some .defers/\Acc mo (Kf w0) k nn k2 nn2 fu2/\BS n q md sh pc pb pk pl fr mo ptr Q z k0 W0 lv p6 pD p11 k2 nn2 fu2 V2 h'/\h.next<h'.next/\∀ m,m<h.next->Ez n q m->m≠pc->m≠pD->m≠p11->h'.get m=h.get m:=by
 have nx:=B.C.M.nx
 have b1:=B.b1
 have c1:=B.C.b1
 have c0:=B.C.b0
 have g0:∀ (o:O) m,m<h.next->((h.new .defers).new o).get m=h.get m:=fun o m hm=>by rw[Yi (by rw[H.Zc]; omega),Yi oM]
 have gd:∀ o:O,((h.new .defers).new o).get h.next=some .defers:=fun o=>by rw[Yi (by rw[H.Zc]; omega),Dy]
 have T1:BS n q md sh pc pb pk pl fr mo ptr Q z k0 W0 lv p6 pD p11 k nn false V ((h.new .defers).new (lpC ts h.next false)):=B.keep (by simp only[H.Zc]; omega) fun m hm=>g0 _ m oM
 have N:NL q pc pb pk pl p6 pD p11 (h.next+1):=⟨oM,oM,oM,oM,oM,oM,oM,oM⟩
 have acc:Acc mo (Kf 64) k nn k nn false:=⟨rfl,(fun _=>by omega),fun w=>by cases w⟩
 have L:=fun ts1 h1=>Z6h Hh (W0:=W0) (k0:=k0) (d:=h.next) (kk0:=k) (nn0:=nn) (pf:=pf) (pr:=pr) N lv4 kid mon p32 t3 t4 t6 t10 t11 sp6 fi4 fr4 hw ⟨⟨oM,.inr of.1.1⟩,of.2.1,of.2.2.1,of.2.2.2,oM⟩ ⟨⟨oM,.inr or.1.1⟩,or.2.1,or.2.2.1,or.2.2.2,oM⟩ 64 k nn V ts1 h1 (Nat.le_refl _) w64
 have l1:((h.new .defers).new (lpC ts h.next false)).get (h.next+1)=some (lpC ts h.next false):=by rw[Ob (by simp only[H.Zc]; omega)]
 have ha1:=(g0 (lpC ts h.next false) pa oa).trans ha
 have hf1:=(g0 (lpC ts h.next false) pf of.1.2).trans hf
 have hr1:=(g0 (lpC ts h.next false) pr or.1.2).trans hr
 have n1:((h.new .defers).new (lpC ts h.next false)).next=h.next+1+1:=by simp only[H.Zc]
 obtain⟨h0,hh⟩:=xzE ((h.new .defers).new (lpC ts h.next false))
 have gd1:=gd (lpC ts h.next false)
 have g01:=g0 (lpC ts h.next false)
 rw[hh] at T1 l1 ha1 hf1 hr1 n1 gd1 g01
 have cB:∃ v h',Zi 133 [.c (.yield (h.next+1)),.c (.ptr pa 0),.c (.ptr pf 0),.c (.ptr pr 0)] h0 v h'/\∃ k2 nn2 fu2 V2,Acc mo (Kf w0) k nn k2 nn2 fu2/\BS n q md sh pc pb pk pl fr mo ptr Q z k0 W0 lv p6 pD p11 k2 nn2 fu2 V2 h'/\h'.get (h.next+1)=some (lpC ts h.next fu2)/\KL n q pc pD p11 (h.next+1) h0 h':=by
  refine Y0 Hh Tryz.f133 ?_
  apply Zu
  have Jf:=@ha1
  iterate 4 (first|apply Zu|apply Jc|refine Zr Hh (Jj Za cS) Z6 ?_)
  refine (L _ _ T1 acc kj l1 oM oM oM hf1 hr1 ?_ ?_ ?_ ?_ ?_).mono ?_
  ·exact Zf
  ·exact Zf
  ·exact Zf
  ·exact Zf
  ·exact Zf
  rintro x ds _ h' ⟨k2,nn2,fu2,V2,hx,rfl,a2,B2,hl2,k2'⟩
  rcases hx with rfl|rfl
  ·exact⟨_,_,Zf,k2,nn2,fu2,V2,a2,B2,hl2,k2'⟩
  ·exact⟨_,_,Zf,k2,nn2,fu2,V2,a2,B2,hl2,k2'⟩
 rw[Zpw]
 refine Goes.Zm5 fits Hh (f:=133) (first:=[]) (caps:=[some (pa,0),some (pf,0),some (pr,0)]) (by simp only[Zz,Yb,t35,asC]) (exE (by rw[show (h.new .defers).new (.loop ts 99 (#[36,37]:Array Go.Tmp).toList (q72 [1,1,1,1,0,1,2,5]) (q72 [1,1,1,1,0,1,2,6]) .ready none h.next)=h0 from hh]; exact cB) ?_)
 rintro v h3 ⟨k2,nn2,fu2,V2,a2,B2,hl2,n3,k3⟩
 have lo:Ez n q h.next:=⟨oM,oM⟩
 have e1:(h3.put (h.next+1) (.loop ts 99 [36,37] (q72 [1,1,1,1,0,1,2,5]) (q72 [1,1,1,1,0,1,2,6]) .exhausted (bif fu2 then some (.exit 0) else none) h.next)).get h.next=some .defers:=(Zd oM).trans ((k3 _ oM lo oM oM oM oM).trans gd1)
 have k4:∀ m,m<h.next->Ez n q m->m≠pc->m≠pD->m≠p11->(h3.put (h.next+1) (.loop ts 99 [36,37] (q72 [1,1,1,1,0,1,2,5]) (q72 [1,1,1,1,0,1,2,6]) .exhausted (bif fu2 then some (.exit 0) else none) h.next)).get m=h.get m:=fun m hm ho m1 m2 m3=>(Zd oM).trans ((k3 m oM ho m1 m2 m3 oM).trans (g01 m hm))
 cases fu2 with
 | true=>exact⟨_,_,_,_,_,_,_,_,hl2,(by simp),⟨k2,nn2,true,V2,rfl,rfl,rfl,e1,a2,N.get B2,by rw[H.Zb]; omega,k4⟩⟩
 | false=>exact⟨_,_,_,_,_,_,_,_,hl2,(by simp),⟨k2,nn2,false,V2,rfl,rfl,rfl,e1,a2,N.get B2,by rw[H.Zb]; omega,k4⟩⟩
end
section
variable (Hh:Hearts K Tryz.prog)
include Hh
variable {n q sh pc pb pk pl fr mo z lv k nn:Nat} {md:Int} {ptr:Nat->Nat->Nat} {Q:Nat->(Nat->Lq)->Prop} {V:Nat->Lq} {h:Hq}
theorem Zt6 {sp fi w0:Nat} {Kf:Nat->Nat} (lv4:lv<4) (kid:∀ w,w<64->w0<=w->Zgc n q md sh pc pb pk pl fr mo ptr Q z lv (fi+w * sp) w (Kf w) (Kf (w+1))) (mon:∀ i j,i<=j->Kf i<=Kf j) (p32:∀ k w,ptr k w<4294967296)
  (sp6:sp<=64) (fi4:fi<100000) (fr4:fr<100000) (hw:∀ w,w<64->(fi+w * sp+sp<=fr ↔ w<w0)) (w64:w0<=64) (cS:∀ h,Zi 33 [.c (.int .i64 ((lv:Int) - 1))] h (.w (.c (.int .i64 (sp:Int)))) h) (C:CS n q md sh pc pb pk pl fr mo k nn false V h) (kj:k<=Kf 64) (qq:Q k V) (hp:∀ w,w<64->Yq (V z) (4 * w)=ptr k w) (oz:Uu 4 60 8 40 (z:Int)=true) (z1:z<2+40+4 * 60) (zs:z∈chM) (zm:z≠1/\∀ k,k<4->2+40+k * 60≠z) (Qu:∀ k V ns,Q k V->Q k (Df V z ns)) :
  ∃ vd k2 nn2 fu2 V2 h',Zi 72 [.c (.int .i64 (z:Int)),.c (.int .i64 (lv:Int)),.c (.int .i64 (fi:Int)),.c (.ptr pb 0),.c (.ptr pk 0)] h (.tup [.c (.bool vd),.c (.int .i64 0)]) h'/\CS n q md sh pc pb pk pl fr mo k2 nn2 fu2 V2 h'/\Kc n q pc h h'/\Q k2 V2/\Acc mo (Kf w0) k nn k2 nn2 fu2/\(vd=true ↔ fu2=false/\∀ w,w<64->ptr k2 w=0)/\(vd=true/\nn2<mo\/∀ w,w<64->Yq (V2 z) (4 * w)=ptr k2 w):=by
 have nx:=C.M.nx
 have b0:=C.b0
 have b1:=C.b1
 have hcb:=C.cb
 have hck:=C.ck
 have hc:=C.c0
 have cB:=Z2s Hh (lv:Int) (fi:Int) (fr:Int)
 obtain⟨v,h',cc,vd,k2,nn2,fu2,V2,rfl,C2,kc,q2,ac,vi,pt⟩:∃ v h',Zi 72 [.c (.int .i64 (z:Int)),.c (.int .i64 (lv:Int)),.c (.int .i64 (fi:Int)),.c (.ptr pb 0),.c (.ptr pk 0)] h v h'/\∃ vd k2 nn2 fu2 V2,v=.tup [.c (.bool vd),.c (.int .i64 0)]/\CS n q md sh pc pb pk pl fr mo k2 nn2 fu2 V2 h'/\Kc n q pc h h'/\Q k2 V2/\Acc mo (Kf w0) k nn k2 nn2 fu2/\(vd=true ↔ fu2=false/\∀ w,w<64->ptr k2 w=0)/\(vd=true/\nn2<mo\/∀ w,w<64->Yq (V2 z) (4 * w)=ptr k2 w):=by
  refine Y0 Hh Tryz.f72 ?_
  have Jf:=Ju @hcb @hck @hc
  iterate 3 (first|apply Zu|refine Zr Hh Za O3 ?_)
  refine Ow fun hA eA=>?_
  have nA:hA.next=h.next+1+1+1:=nxQ eA
  have kA:∀ m,m<h.next->hA.get m=h.get m:=kQ eA
  have a6:hA.get h.next=some (.row 1 [[.int .i64 (lv:Int)]] false):=by rw[eA]; exact Zf
  have a8:hA.get (h.next+1)=some (.row 1 [[.bool false]] false):=by rw[eA]; exact Zf
  have a9:hA.get (h.next+1+1)=some (.row 1 [[.int .i64 0]] false):=by rw[eA]; exact Zf
  clear eA
  have CA:=C.keep (h2:=hA) oM (fun m hm=>kA m oM)
  obtain⟨hG,eG,MG,nG,rG⟩:=CA.M.get Bl oz z1
  have c1:=Eu Hh eG
  have Vl:=MG.len oz z1
  have Yl:(pgL (V z)).length=256:=by rw[Oz,Vl]
  obtain⟨Y,hY⟩:=xzE (pgL (V z))
  rw[hY] at c1 Yl
  have acb:=(kA pb oM).trans hcb
  have ac0:=(kA pc oM).trans hc
  have gcb:=(rG pb oM oM).trans acb
  have gc0:=(rG pc oM oM).trans ac0
  have g9:=(rG (h.next+1+1) oM oM).trans a9
  have g6:=(rG h.next oM oM).trans a6
  have Jf:=Ju Jf @a6 (Yw @a8 @a9 @acb @ac0 @gcb @gc0 @g9 @g6 @Yl)
  iterate 10 (first|apply Zu|apply Ye|refine Goes.Zl O3 ?_|refine Zr Hh (Zp Za c1) O3 ?_)
  iterate 2 (first|apply Jc|refine G6 Hh (Jj Za cB) Zgh ?_)
  refine Ow fun hC eC=>?_
  have nC:hC.next=h.next+8:=by rw[eC]; simp only[H.Zb,H.Zc,nG,nA]
  have kx:∀ m,m<h.next->m≠n+6->hC.get m=h.get m:=fun m hm h6=>by rw[eC]; refine Eq.trans ?_ ((rG m oM h6).trans (kA m hm)); exact Jg
  have c6:hC.get h.next=some (.row 1 [[.int .i64 (lv:Int)]] false):=by rw[eC]; refine Eq.trans ?_ g6; exact Jg
  have c8:hC.get (h.next+1)=some (.row 1 [[.bool false]] false):=by rw[eC]; refine Eq.trans ?_ ((rG _ oM oM).trans a8); exact Jg
  have c9:hC.get (h.next+2)=some (.row 1 [[.int .i64 0]] false):=by rw[eC]; exact Zf
  have cD:hC.get (h.next+3)=some (.row 256 [Y] false):=by rw[eC,show h.next+3=hG.next by omega]; exact Z0
  have c11:hC.get (h.next+4)=some (.row 1 [[.bool false]] false):=by rw[eC,show h.next+4=hG.next+1 by omega]; exact Zf
  have ca:hC.get (h.next+5)=some (.row 1 [[.int .i64 (lv:Int)]] false):=by rw[eC,show h.next+5=hG.next+1+1 by omega]; exact Zf
  have cf:hC.get (h.next+6)=some (.row 1 [[.int .i64 (fi:Int)]] false):=by rw[eC,show h.next+6=hG.next+1+1+1 by omega]; exact Zf
  have cr:hC.get (h.next+7)=some (.row 1 [[.int .i64 (fr:Int)]] false):=by rw[eC,show h.next+7=hG.next+1+1+1+1 by omega]; exact Zf
  have MC:=MG.keep (h2:=hC) oM (fun m hm=>by rw[eC]; exact Jg)
  clear eC
  refine Zfl fun tA eT=>?_
  have t0:Ze tA 0=.w (.c (.int .i64 (z:Int))):=by rw[eT]; simp (maxSteps:=9^6) +decide (disch:=first|exact dZ|fail) only [go_sem,Zk,Zh,simprocAttr]
  have t3:Ze tA 3=.w (.c (.ptr pb 0)):=by rw[eT]; simp (maxSteps:=9^6) +decide (disch:=first|exact dZ|fail) only [go_sem,Zk,Zh,simprocAttr]
  have t4:Ze tA 4=.w (.c (.ptr pk 0)):=by rw[eT]; simp (maxSteps:=9^6) +decide (disch:=first|exact dZ|fail) only [go_sem,Zk,Zh,simprocAttr]
  have t6:Ze tA 6=.w (.c (.ptr h.next 0)):=by rw[eT]; simp (maxSteps:=9^6) +decide (disch:=first|exact dZ|fail) only [go_sem,Zk,Zh,simprocAttr]
  have t8:Ze tA 8=.w (.c (.ptr (h.next+1) 0)):=by rw[eT]; simp (maxSteps:=9^6) +decide (disch:=first|exact dZ|fail) only [go_sem,Zk,Zh,simprocAttr]
  have t9:Ze tA 9=.w (.c (.ptr (h.next+2) 0)):=by rw[eT]; simp (maxSteps:=9^6) +decide (disch:=first|exact dZ|fail) only [go_sem,Zk,Zh,simprocAttr]
  have t10:Ze tA 10=.w (.c (.ptr (h.next+3) 0)):=by rw[eT,show h.next+3=hG.next by omega]; simp (maxSteps:=9^6) +decide (disch:=first|exact dZ|fail) only [go_sem,Zk,Zh,simprocAttr]
  have t11:Ze tA 11=.w (.c (.ptr (h.next+4) 0)):=by rw[eT,show h.next+4=hG.next+1 by omega]; simp (maxSteps:=9^6) +decide (disch:=first|exact dZ|fail) only [go_sem,Zk,Zh,simprocAttr]
  have t35:Ze tA 35=.w (.c (.fn 133 [] [some (h.next+5,0),some (h.next+6,0),some (h.next+7,0)])):=by rw[eT,show h.next+5=hG.next+1+1 by omega,show h.next+6=hG.next+1+1+1 by omega,show h.next+7=hG.next+1+1+1+1 by omega]; simp (maxSteps:=9^6) +decide (disch:=first|exact dZ|fail) only [go_sem,Zk,Zh,simprocAttr]
  clear eT
  have BC:BS n q md sh pc pb pk pl fr mo ptr Q z k (V z) lv h.next (h.next+3) (h.next+4) k nn false V hC:=⟨⟨MC,C.al,(kx pc oM oM).trans hc,(kx pb oM oM).trans hcb,(kx pk oM oM).trans hck,(kx pl oM oM).trans C.cl,b0,⟨oM,oM,oM,oM⟩,C.ne,C.le,C.kl⟩,c6,⟨V z,Vl,by rw[hY]; exact cD,hp⟩,⟨false,c11,fun _ _ _=>rfl⟩,qq,rfl,⟨oM,oM,oM⟩,⟨oM,oM,oM⟩,⟨oM,oM,oM,oM,oM,oM⟩,⟨oM,oM,oM,oM,oM,oM⟩⟩
  refine (Z26 Hh lv4 kid mon p32 t3 t4 t6 t10 t11 t35 sp6 fi4 fr4 hw w64 cS BC kj ca cf cr oM ⟨⟨oM,oM⟩,oM,oM,oM⟩ ⟨⟨oM,oM⟩,oM,oM,oM⟩).mono ?_
  rintro x ds' ts' h2 ⟨k2,nn2,fu2,V2,rfl,rfl,rfl,gd,ac,B2,n2,kk⟩
  have ou:∀ m,h.next<=m->Ez n q m:=fun m hm=>⟨oM,oM⟩
  obtain⟨vd,V3,g⟩:=Z6i Hh (ds:=[hC.next]) B2 hp oz z1 zs zm (fun ns=>Qu _ _ _ B2.qq) t0 t3 t8 t9 t10 t11 ⟨false,(kk (h.next+1) oM (ou _ oM) oM oM oM).trans c8⟩ ((kk (h.next+2) oM (ou _ oM) oM oM oM).trans c9) ⟨oM,oM,oM,oM,oM,oM,oM,oM⟩ ⟨oM,oM,oM,oM,oM,oM,oM,oM⟩ oM
  cases fu2
  ·show Z7 99 none (q72 [1,1,1,1,1]) _ _ _ _
   refine g.mono ?_
   rintro x2 ds2 ts2 h3 ⟨rfl,rfl,w8,w9,r8,r9,C3,q3,vi,pt,n3,k3⟩
   have gd3:=(k3 hC.next n2 (ou _ oM) oM oM).trans gd
   refine⟨_,_,(by have Jf:=Ej @gd3 @r8 @r9 @w8 @w9; exact Z6),vd,k2,nn2,false,V3,rfl,C3.keep ?_ (fun m hm=>?_),⟨?_,fun m hm ho hne=>?_⟩,q3,ac,vi,pt⟩
   ·rw[H.Yp]; exact Nat.le_refl _
   ·exact Dq oM
   ·rw[H.Yp]; omega
   ·exact (Dq oM).trans ((k3 m oM ho oM oM).trans ((kk m oM ho hne oM oM).trans (kx m hm (by have:=ho.1; omega))))
  ·show Z7 99 none (q72 [1,1,1,1,1]) _ _ _ _
   refine g.mono ?_
   rintro x2 ds2 ts2 h3 ⟨rfl,rfl,w8,w9,r8,r9,C3,q3,vi,pt,n3,k3⟩
   have gd3:=(k3 hC.next n2 (ou _ oM) oM oM).trans gd
   refine⟨_,_,(by have Jf:=Ej @gd3 @r8 @r9 @w8 @w9; exact Z6),vd,k2,nn2,true,V3,rfl,C3.keep ?_ (fun m hm=>?_),⟨?_,fun m hm ho hne=>?_⟩,q3,ac,vi,pt⟩
   ·rw[H.Yp]; exact Nat.le_refl _
   ·exact Dq oM
   ·rw[H.Yp]; omega
   ·exact (Dq oM).trans ((k3 m oM ho oM oM).trans ((kk m oM ho hne oM oM).trans (kx m hm (by have:=ho.1; omega))))
 exact⟨vd,k2,nn2,fu2,V2,h',cc,C2,kc,q2,ac,vi,pt⟩
end
section
variable (Hh:Hearts K Tryz.prog)
include Hh
variable {n q sh pc pb pk pl fr mo k nn:Nat} {md:Int} {fu:Bool} {V:Nat->Lq} {h:Hq}
theorem Z3q (C:CS n q md sh pc pb pk pl fr mo (k+1) nn false V h) (nm:nn<mo):∃ h1 V',Zi 78 [.c (.ptr (n+13) 0),.c (.int .i64 (Yo k:Nat))] h (.w (.c (.int .i64 0))) h1/\h1.get pc=h.get pc/\h1.get pb=h.get pb/\CS n q md sh pc pb pk pl fr mo k (nn+1) false V' (h1.put pc (.row 5 [[.ptr (n+13) 0,.int .i64 (fr:Int),.int .i64 (mo:Int),.int .i64 ((nn+1:Nat):Int),.bool false]] false))/\Kc n q pc h (h1.put pc (.row 5 [[.ptr (n+13) 0,.int .i64 (fr:Int),.int .i64 (mo:Int),.int .i64 ((nn+1:Nat):Int),.bool false]] false))/\∀ j,j<103->j≠k->V' (Yo j)=V (Yo j):=by
 obtain⟨M,al,c0,cb,ck,cl,b0,b1,ne,le,kl⟩:=C
 have z46:=O4 k
 have F56:fF 60 8=56:=rfl
 have ka:k / fF 60 8<4:=by rw[F56]; omega
 have k56:=Nat.mod_lt k (show 0<56 by omega)
 have X:=Zcb (a:=4) (b:=60) (c:=8) (iw:=iw0 8) (m:=k+1) ka
 have mn:fF 60 8 - min (fF 60 8) (k+1 - k / fF 60 8 * fF 60 8)=fF 60 8 - k % fF 60 8 - 1:=by rw[F56]; omega
 rw[mn] at X
 have gi:gG 60 8 (k+1) (k / fF 60 8) (2+8 / 4+k % fF 60 8)=true:=by
  unfold gG
  rw[F56,Bool.or_eq_true]
  left
  exact decide_eq_true oM
 have bz:2+40+k / fF 60 8 * 60+(2+8 / 4+k % fF 60 8)=Yo k:=rfl
 have s3:2+40+k / fF 60 8 * 60∈chM:=by
  have:k / 56=0\/k / 56=1:=oM
  rw[F56]
  rcases this with w|w<;>(rw[w]; simp [chM])
 obtain⟨h1,ns,cG,nl,M1,k1⟩:=Ztz Hh Bl M al (k:=k / fF 60 8) (i:=2+8 / 4+k % fF 60 8) (Y:=(iw0 8 (k / fF 60 8)).1) (W':=(iw0 8 (k / fF 60 8)).2) ka oM (by rw[F56]; omega) gi X (by rw[F56]; omega) (by simp [chM]) s3 oM oM (by rw[bz]; exact Zxy oM) (by rw[bz]; exact Zx0 oM)
 rw[bz] at cG M1
 have al1:=al.back Bl (Zml (c:=8) oM) rfl ka ns
 have ag:∀ j,j<103->j≠k->Df (Zjg 60 40 V (DG 4 60 8 (iw0 8) (k+1)) (gG 60 8 (k+1)) (k / fF 60 8) (2+8 / 4+k % fF 60 8) (fF 60 8 - k % fF 60 8 - 1) (iw0 8 (k / fF 60 8)).1 (iw0 8 (k / fF 60 8)).2) (Yo k) ns (Yo j)=V (Yo j):=fun j hj hne=>by
  have h1:=O4 j
  have e2:2+40+k / fF 60 8 * 60=42\/2+40+k / fF 60 8 * 60=102:=by rw[F56]; omega
  unfold Zjg
  rw[Y9 (fun w=>hne (Ww w)),Y9 (Zoe hj (.inl rfl)),Y9 (fun w=>by rcases e2 with e2|e2<;>(rw[e2] at w; omega))]
 obtain⟨V',hV'⟩:=xzE (Df (Zjg 60 40 V (DG 4 60 8 (iw0 8) (k+1)) (gG 60 8 (k+1)) (k / fF 60 8) (2+8 / 4+k % fF 60 8) (fF 60 8 - k % fF 60 8 - 1) (iw0 8 (k / fF 60 8)).1 (iw0 8 (k / fF 60 8)).2) (Yo k) ns)
 rw[hV'] at M1 ag
 have al1:AlG 4 60 8 40 (iw0 8) V' k:=by rw[<-hV']; exact al1
 have nx:=M.nx
 have o:∀ m,m<h.next->q+9<=m->h1.get m=h.get m:=fun m hm hq=>k1.2 m hm ⟨oM,oM⟩
 have r1:(mo:Int) - (nn:Int) - 1=(mo:Int) - ((nn+1:Nat):Int):=oM
 rw[r1] at M1
 have k11:=k1.1
 exact⟨h1,V',cG,o pc b1.1 b0.1,o pb b1.2.1 b0.2.1,⟨M1.keep (by rw[H.Zb]; omega) fun m hm=>Zd oM,al1,Zx ..,(Zd ne.1).trans ((o pb b1.2.1 b0.2.1).trans cb),(Zd ne.2.1).trans ((o pk b1.2.2.1 b0.2.2.1).trans ck),(Zd ne.2.2).trans ((o pl b1.2.2.2 b0.2.2.2).trans cl),b0,⟨by rw[H.Zb]; omega,by rw[H.Zb]; omega,by rw[H.Zb]; omega,by rw[H.Zb]; omega⟩,ne,⟨oM,le.2⟩,oM⟩,⟨by rw[H.Zb]; exact k1.1,fun m hm ho hne=>(Zd hne).trans (k1.2 m hm ho)⟩,ag⟩
theorem Zub {β lv fi T T1:Nat} {ptr:Nat->Nat->Nat} {Q:Nat->(Nat->Lq)->Prop} (C:CS n q md sh pc pb pk pl fr mo k nn false V h) (l0:0<lv) (bk:β<k)
  (bel:∃ vd k2 nn2 fu2 V2 h',Zi 72 [.c (.int .i64 (Yo β:Nat)),.c (.int .i64 (lv:Int)),.c (.int .i64 (fi:Int)),.c (.ptr pb 0),.c (.ptr pk 0)] h (.tup [.c (.bool vd),.c (.int .i64 0)]) h'/\CS n q md sh pc pb pk pl fr mo k2 nn2 fu2 V2 h'/\Kc n q pc h h'/\Q k2 V2/\Acc mo T1 k nn k2 nn2 fu2/\(vd=true ↔ fu2=false/\∀ w,w<64->ptr k2 w=0)/\(vd=true/\nn2<mo\/∀ w,w<64->Yq (V2 (Yo β)) (4 * w)=ptr k2 w))
  (zp:∀ k',(∀ w,w<64->ptr k' w=0) ↔ k'<=β+1) (hm:(T1=β+1/\T=β)\/(β+2<=T1/\β+2<=k/\T=T1)) (Qg:∀ V V',(∀ j,j<103->j≠β->V' (Yo j)=V (Yo j))->Q (β+1) V->Q β V') :
  ∃ k2 nn2 fu2 V2 h',Zi 77 [.c (.int .i64 (Yo β:Nat)),.c (.int .i64 (lv:Int)),.c (.int .i64 (fi:Int)),.c (.ptr pl 0),.c (.ptr pb 0)] h (.tup [.c (.int .i64 ((if β<k2 then Yo β else 0:Nat):Int)),.c (.int .i64 0)]) h'/\CS n q md sh pc pb pk pl fr mo k2 nn2 fu2 V2 h'/\Kc n q pc h h'/\Q k2 V2/\Acc mo T k nn k2 nn2 fu2/\(β<k2->∀ w,w<64->Yq (V2 (Yo β)) (4 * w)=ptr k2 w):=by
 obtain⟨vd,k2,nn2,fu2,V2,hB,cB,CB,kB,QB,ac,vi,pt⟩:=bel
 have z46:=O4 β
 obtain⟨z,hz⟩:=xzE (Yo β)
 rw[hz] at cB ⊢
 have e0:((z:Int) == 0)=false:=U7 oM
 have d0:decide ((0:Int)<(lv:Int))=true:=decide_eq_true oM
 have hcl:=C.cl
 have cc:=CB.c0
 have cb:=CB.cb
 have z00:((0:Int) != 0)=false:=rfl
 have ac':=ac
 obtain⟨a1,a2,a3⟩:=ac'
 have zk:=zp k2
 have le:=CB.le
 have kl:=CB.kl
 cases vd with
 | false =>
  have nz:fu2=true\/β+1<k2:=by
   cases fu2 with
   | true=>exact .inl rfl
   | false =>
    refine .inr (Nat.lt_of_not_le fun w=>?_)
    have:=vi.2 ⟨rfl,zk.2 w⟩
    cases this
  have bk2:β<k2:=by
   rcases nz with w|w
   ·have:=a3 w; omega
   ·omega
  have pt2:∀ w,w<64->Yq (V2 z) (4 * w)=ptr k2 w:=fun w hw=>by rw[<-hz]; exact pt.resolve_left (fun x=>by cases x.1) w hw
  refine⟨k2,nn2,fu2,V2,hB,?_,CB,kB,QB,?_,fun _=>pt2⟩
  ·rw[if_pos bk2]
   refine fnG Hh Tryz.f77 ?_
   have Jf:=Um @e0 @d0 @hcl @z00
   iterate 12 (first|apply Zu|apply Ye|refine Goes.Zl Ew ?_|refine Zr Hh Za Ew ?_)
   iterate 7 (first|apply Zu|apply Yc|refine Goes.Zl Ew ?_|refine Zr Hh (Zp Za cB) Ew ?_)
   exact Ew
  ·rcases hm with ⟨t1,t2⟩|⟨t1,t2,t3⟩
   ·refine⟨a1,fun w=>?_,fun w=>?_⟩
    ·exfalso
     have:=a2 w
     rcases nz with x|x
     ·rw[w] at x; cases x
     ·omega
    ·have:=a3 w; omega
   ·rw[t3]; exact ac
 | true =>
  obtain⟨rfl,zr⟩:=vi.1 rfl
  have zk2:=zk.1 zr
  have a2:=a2 rfl
  have tt:T1=β+1/\T=β:=by
   rcases hm with w|w
   ·exact w
   ·omega
  have k21:k2=β+1:=oM
  subst k21
  by_cases full:nn2<mo
  ·have d1:decide ((mo:Int)<=(nn2:Int))=false:=decide_eq_false oM
   obtain⟨h1,V',cG,g1,g2,CG,kG,ag⟩:=Z3q Hh CB full
   rw[hz] at cG
   have gc:=g1.trans cc
   have gb:=g2.trans cb
   have en:(nn2:Int)+1=((nn2+1:Nat):Int):=rfl
   refine⟨β,nn2+1,false,V',_,?_,CG,kB.then kG,Qg _ _ ag QB,⟨oM,fun _=>by omega,fun w=>by cases w⟩,fun w=>by omega⟩
   rw[if_neg (Nat.lt_irrefl _)]
   refine fnG Hh Tryz.f77 ?_
   have Jf:=Jl @e0 (Yw @d0 @d1 @hcl @z00 @cc @cb @gc @gb @en)
   iterate 12 (first|apply Zu|apply Ye|refine Goes.Zl Du ?_|refine Zr Hh Za Du ?_)
   iterate 12 (first|apply Zu|apply Ye|refine Goes.Zl Du ?_|refine Zr Hh (Zp Za cB) Du ?_|refine G6 Hh (Zp Za cB) Zgl ?_)
   iterate 10 (first|apply Zu|apply Ye|apply Yc|refine Goes.Zl Du ?_|refine Zr Hh (Zp Za cG) Du ?_)
   exact Du
  ·have nm:nn2=mo:=oM
   subst nm
   have d1:decide ((nn2:Int)<=(nn2:Int))=true:=decide_eq_true oM
   have pt2:∀ w,w<64->Yq (V2 z) (4 * w)=ptr (β+1) w:=fun w hw=>by rw[<-hz]; exact pt.resolve_left (fun x=>full x.2) w hw
   have ne:=CB.ne
   refine⟨β+1,nn2,true,V2,hB.put pc (.row 5 [[.ptr (n+13) 0,.int .i64 (fr:Int),.int .i64 (nn2:Int),.int .i64 (nn2:Int),.bool true]] false),?_,⟨CB.M.keep (by rw[H.Zb]; omega) fun m hm=>Zd (by have:=CB.b0; omega),CB.al,Zx ..,(Zd ne.1).trans cb,(Zd ne.2.1).trans CB.ck,(Zd ne.2.2).trans CB.cl,CB.b0,CB.b1,ne,CB.le,CB.kl⟩,kB.then ⟨by rw[H.Zb]; omega,fun m _ _ hne=>Zd hne⟩,QB,⟨oM,(fun w=>by cases w),fun _=>⟨rfl,oM⟩⟩,fun _=>pt2⟩
   rw[if_pos (Nat.lt_succ_self _)]
   refine fnG Hh Tryz.f77 ?_
   have Jf:=El @e0 @d0 @d1 @hcl @z00 @cc @cb
   iterate 12 (first|apply Zu|apply Ye|refine Goes.Zl Du ?_|refine Zr Hh Za Du ?_)
   iterate 14 (first|apply Zu|apply Ye|apply Yc|refine Goes.Zl Du ?_|refine Zr Hh (Zp Za cB) Du ?_|refine G6 Hh (Zp Za cB) Zgl ?_)
   exact Du
end
end Go.Proofs.YteiljiijagmonaaGreatDoor
