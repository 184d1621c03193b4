/- A cut below an indirect block: behind its pointers, region by region. -/
import Derived.Test.YteiljiijagmonaaGreatDoorCkc
set_option maxRecDepth 100000
set_option maxHeartbeats 4000000
set_option linter.unusedSimpArgs false
set_option linter.unusedVariables false
set_option linter.unusedSectionVars false
namespace Go.Proofs.YteiljiijagmonaaGreatDoor
open Go.Ev
section
variable (Hh:Hearts K Tryz.prog)
include Hh
theorem Z6k {pc pb p8 pD:Nat} {x0:C} {b':Bool} {fr mo nn:Int} {fu zb:Bool} {Y:List C} {h:Hq} {ts:Zw} {ds:Lq} (t3:Ze ts 3=.w (.c (.ptr pb 0))) (t8:Ze ts 8=.w (.c (.ptr p8 0))) (t10:Ze ts 10=.w (.c (.ptr pD 0))) (c8:h.get p8=some (.row 1 [[.bool b']] false)) (hcb:h.get pb=some (.row 1 [[.ptr pc 0]] false)) (hc:h.get pc=some (.row 5 [[x0,.int .i64 (fr:Int),.int .i64 (mo:Int),.int .i64 (nn:Int),.bool fu]] false)) (hD:h.get pD=some (.row 256 [Y] false)) (xb:Zlu Y=true) (zz:Fv (unN Y) 0 256=zb) (rc:reaches 0 256 (some (.row 256 [Y] false))=true) (Yl:Y.length=256) :
    Z7 99 none (q72 [1,1,1,1,1,0]) ds ts h fun x ds' ts' h'=>x=.normal/\ds'=ds/\(∀ s,s<=15->Ze ts' s=Ze ts s)/\h'=h.put p8 (.row 1 [[.bool (!fu&&zb)]] false):=by
  cases fu with
  | true =>
    have Jf:=El @t3 @t8 @t10 @c8 @hcb @hc @hD
    refine Zr Hh (EY Za (Zga Hh)) Dv ?_
    refine⟨rfl,rfl,fun s hs=>?_,rfl⟩
    simp (decide:=true) only [Yh hs]
  | false =>
    cases zb with
    | true =>
      have Jf:=Ju @t3 @t8 (Yw @t10 @c8 @hcb @hc @hD @xb @zz @rc @Yl)
      refine Zr Hh (EY Za (Zga Hh)) Dv ?_
      refine⟨rfl,rfl,fun s hs=>?_,rfl⟩
      simp (decide:=true) only [Yh hs]
    | false =>
      have Jf:=Ju @t3 @t8 (Yw @t10 @c8 @hcb @hc @hD @xb @zz @rc @Yl)
      refine Zr Hh (EY Za (Zga Hh)) Dv ?_
      refine⟨rfl,rfl,fun s hs=>?_,rfl⟩
      simp (decide:=true) only [Yh hs]
theorem Z6j {pc pb p8 p11:Nat} {x0:C} {fr mo nn:Int} {fu vd lt b:Bool} {h:Hq} {ts:Zw} {ds:Lq} (t3:Ze ts 3=.w (.c (.ptr pb 0))) (t8:Ze ts 8=.w (.c (.ptr p8 0))) (t11:Ze ts 11=.w (.c (.ptr p11 0))) (c8:h.get p8=some (.row 1 [[.bool vd]] false)) (hcb:h.get pb=some (.row 1 [[.ptr pc 0]] false)) (hc:h.get pc=some (.row 5 [[x0,.int .i64 (fr:Int),.int .i64 (mo:Int),.int .i64 (nn:Int),.bool fu]] false)) (hb:h.get p11=some (.row 1 [[.bool b]] false)) (dl:decide (nn<mo)=lt) :
    Z7 99 none (q72 [1,1,1,1,1,1,0,0]) ds ts h fun x ds' ts' h'=>x=.normal/\ds'=ds/\Ze ts' 89=.w (.c (.bool ((vd&&lt) || !b)))/\(∀ s,s<=15->Ze ts' s=Ze ts s)/\h'=h:=by
  cases vd with
  | false =>
    cases b with
    | false =>
      have Jf:=El @t3 @t8 @t11 @c8 @hcb @hc @hb
      refine G6 Hh Za Mf ?_
      refine⟨rfl,rfl,?_,fun s hs=>?_,rfl⟩
      · exact Zf
      · simp (decide:=true) only [Yh hs]
    | true =>
      have Jf:=El @t3 @t8 @t11 @c8 @hcb @hc @hb
      refine G6 Hh Za Mf ?_
      refine⟨rfl,rfl,?_,fun s hs=>?_,rfl⟩
      · exact Zf
      · simp (decide:=true) only [Yh hs]
  | true =>
    cases lt with
    | true =>
      have Jf:=Lg @t3 @t8 @t11 @c8 @hcb @hc @hb @dl
      refine G6 Hh Za Mf ?_
      refine⟨rfl,rfl,?_,fun s hs=>?_,rfl⟩
      · exact Zf
      · simp (decide:=true) only [Yh hs]
    | false =>
      cases b with
      | false =>
        have Jf:=Lg @t3 @t8 @t11 @c8 @hcb @hc @hb @dl
        refine G6 Hh Za Mf ?_
        refine⟨rfl,rfl,?_,fun s hs=>?_,rfl⟩
        · exact Zf
        · simp (decide:=true) only [Yh hs]
      | true =>
        have Jf:=Lg @t3 @t8 @t11 @c8 @hcb @hc @hb @dl
        refine G6 Hh Za Mf ?_
        refine⟨rfl,rfl,?_,fun s hs=>?_,rfl⟩
        · exact Zf
        · simp (decide:=true) only [Yh hs]
theorem Z85 {p8 p9:Nat} {vd:Bool} {h:Hq} {ts:Zw} {ds:Lq} (t8:Ze ts 8=.w (.c (.ptr p8 0))) (t9:Ze ts 9=.w (.c (.ptr p9 0))) (c8:h.get p8=some (.row 1 [[.bool vd]] false)) (c9:h.get p9=some (.row 1 [[.int .i64 0]] false)) (ne:p8≠p9) :
    Z7 99 none (q72 [1,1,1,1,1,1,0,1,3,0]) ds ts h fun x ds' ts' h'=>x=.normal/\ds'=ds/\Ze ts' 8=.w (.c (.ptr p8 0))/\Ze ts' 9=.w (.c (.ptr p9 0))/\h'=(h.put p8 (.row 1 [[.bool vd]] false)).put p9 (.row 1 [[.int .i64 0]] false):=by
  have Jf:=Um @t8 @t9 @c8 @c9
  refine Zr Hh Za Gu ?_
  refine⟨rfl,rfl,?_,?_,rfl⟩
  · have Jf:=@t8; exact Zn
  · have Jf:=@t9; exact Zn
theorem Z86 {n pc pb z p8 p9 pD:Nat} {fr mo nn:Int} {fu vd:Bool} {Y:List C} {h hP:Hq} {ts:Zw} {ds:Lq} (t0:Ze ts 0=.w (.c (.int .i64 (z:Int)))) (t3:Ze ts 3=.w (.c (.ptr pb 0))) (t8:Ze ts 8=.w (.c (.ptr p8 0))) (t9:Ze ts 9=.w (.c (.ptr p9 0))) (t10:Ze ts 10=.w (.c (.ptr pD 0))) (c8:h.get p8=some (.row 1 [[.bool vd]] false)) (hcb:h.get pb=some (.row 1 [[.ptr pc 0]] false)) (hc:h.get pc=some (.row 5 [[.ptr (n+13) 0,.int .i64 (fr:Int),.int .i64 (mo:Int),.int .i64 (nn:Int),.bool fu]] false)) (hD:h.get pD=some (.row 256 [Y] false))
   (g8:hP.get p8=some (.row 1 [[.bool vd]] false)) (gb:hP.get pb=some (.row 1 [[.ptr pc 0]] false)) (gc:hP.get pc=some (.row 5 [[.ptr (n+13) 0,.int .i64 (fr:Int),.int .i64 (mo:Int),.int .i64 (nn:Int),.bool fu]] false)) (gD:hP.get pD=some (.row 256 [Y] false)) (g9:hP.get p9=some (.row 1 [[.int .i64 0]] false)) (cP:Zi 76 [.c (.ptr (n+13) 0),.c (.int .i64 (z:Int)),.g Y] h (.w (.c (.int .i64 0))) hP) (ne:p8≠p9/\p8≠pb/\p8≠pc/\p8≠pD/\p9≠pb/\p9≠pc/\p9≠pD) (Yl:Y.length=256) (nb:Nat.ble h.next hP.next=true) :
    Z7 99 none (q72 [1,1,1,1,1,1,1,0]) ds ts h fun x ds' ts' h'=>x=.normal/\ds'=ds/\Ze ts' 8=.w (.c (.ptr p8 0))/\Ze ts' 9=.w (.c (.ptr p9 0))/\h'=(hP.put p8 (.row 1 [[.bool vd]] false)).put p9 (.row 1 [[.int .i64 0]] false):=by
  have tk:Y.take 256=Y:=List.take_of_length_le oM
  have Jf:=Lg @t0 @t3 @t8 @t9 @t10 @c8 @hcb (Yw @hc @hD @g8 @gb @gc @gD @g9 @tk @nb)
  refine G6 Hh (Zp Za cP) Zgl ?_
  refine⟨rfl,rfl,?_,?_,rfl⟩
  · have Jf:=@t8; exact Zn
  · have Jf:=@t9; exact Zn
end
open Go.Ev
noncomputable def q73 (p:Lq):Code:=piece p (Ug Tryz.f73)
theorem rs73:Tryz.f73.results.toList=[.tmp 6]:=rfl
attribute [go_sem] rs73
theorem Zxw:∀ l:Lq,Zd0 l=true ↔ ∀ x∈l,x=0:=by
 intro l
 induction l with
 | nil=>exact⟨fun _ x hx=>(by cases hx),fun _=>rfl⟩
 | cons b l ih =>
  simp only[Zd0,List.mem_cons,forall_eq_or_imp]
  cases hb:Nat.beq b 0 with
  | true=>rw[cond_true,ih]; exact⟨fun w=>⟨bQ hb,w⟩,fun w=>w.2⟩
  | false=>exact⟨fun w=>(by cases w),fun w=>(by rw[w.1] at hb; cases hb)⟩
theorem Z5h {D:Lq} (Dl:D.length=256):Fv D 0 256=true ↔ ∀ w,w<64->Yq D (4 * w)=0:=by
 unfold Fv
 rw[Zxw,List.drop_zero,List.take_of_length_le oM]
 have at0:(∀ x∈D.map (· % 256),x=0) ↔ ∀ j,j<256->atN D j=0:=by
  constructor
  ·intro w j hj
   have e:D[j]? = some (D[j]' oM):=List.getElem?_eq_getElem oM
   unfold atN
   rw[List.getD_eq_getElem?_getD,e]
   exact w _ (List.mem_map.2 ⟨_,List.getElem_mem _,rfl⟩)
  ·intro w x hx
   obtain⟨y,hy,rfl⟩:=List.mem_map.1 hx
   obtain⟨j,hj⟩:=List.getElem?_of_mem hy
   have jl:j<D.length:=(List.getElem?_eq_some_iff.1 hj).1
   have:=w j oM
   unfold atN at this
   rw[List.getD_eq_getElem?_getD,hj] at this
   exact this
 rw[at0]
 constructor
 ·intro w i hi
  unfold Yq
  rw[w _ oM,w _ oM,w _ oM,w _ oM]
 ·intro w j hj
  have:=w (j / 4) oM
  unfold Yq at this
  have h4:j=4 * (j / 4)\/j=4 * (j / 4)+1\/j=4 * (j / 4)+2\/j=4 * (j / 4)+3:=oM
  rcases h4 with e|e|e|e<;>(rw[e]; omega)
theorem AlG.upd {a b c e m z:Nat} {iw:Nat->Nat × Nat} {V:Nat->Lq} (A:AlG a b c e iw V m) (z1:z≠1) (zb:∀ k,k<a->2+e+k * b≠z) (ns:Lq):AlG a b c e iw (Df V z ns) m :=
 ⟨fun k hk=>by rw[Y9 (zb k hk)]; exact A.bm k hk,⟨by rw[Y9 (Ne.symm z1)]; exact A.des.1,by rw[Y9 (Ne.symm z1)]; exact A.des.2.1,M6⟩,A.may⟩
section
variable (Hh:Hearts K Tryz.prog)
include Hh
variable {n q sh pc pb pk pl fr mo z k0 lv p6 p8 p9 pD p11 k nn:Nat} {md:Int} {ptr:Nat->Nat->Nat} {Q:Nat->(Nat->Lq)->Prop} {W0:Lq} {V:Nat->Lq} {h:Hq} {d:Nat} {fu:Bool} {ts:Zw} {ds:Lq}
theorem Z2s (lv fi fr:Int) (h:Hq):Zi 73 [.c (.int .i64 lv),.c (.int .i64 fi),.c (.int .i64 fr)] h (.w (.c (.fn 133 [] [some (h.next,0),some (h.next+1,0),some (h.next+1+1,0)]))) (((h.new (.row 1 [[.int .i64 lv]] false)).new (.row 1 [[.int .i64 fi]] false)).new (.row 1 [[.int .i64 fr]] false)):=by
 refine fnG Hh Tryz.f73 ?_
 iterate 5 (first|apply Zu|apply Yc|(apply Goes.ops2 fits Hh Za; · simp (maxSteps:=9^6) +decide (disch:=first|exact dZ|fail) only [go_sem,Zk,Zh,simprocAttr,Yy,Bh,Gm,ptrs]<;>rfl))
 simp (maxSteps:=9^6) +decide (disch:=first|exact dZ|fail) only [go_sem,Zk,Zh,simprocAttr,Yy,Bh,Gm,ptrs]<;>rfl
theorem Z6i (B:BS n q md sh pc pb pk pl fr mo ptr Q z k0 W0 lv p6 pD p11 k nn fu V h) (W:∀ w,w<64->Yq W0 (4 * w)=ptr k0 w) (oz:Uu 4 60 8 40 (z:Int)=true) (z1:z<2+40+4 * 60) (zs:z∈chM) (zm:z≠1/\∀ k,k<4->2+40+k * 60≠z) (Qu:∀ ns,Q k (Df V z ns)) (t0:Ze ts 0=.w (.c (.int .i64 (z:Int)))) (t3:Ze ts 3=.w (.c (.ptr pb 0))) (t8:Ze ts 8=.w (.c (.ptr p8 0))) (t9:Ze ts 9=.w (.c (.ptr p9 0))) (t10:Ze ts 10=.w (.c (.ptr pD 0))) (t11:Ze ts 11=.w (.c (.ptr p11 0))) (c8:∃ b,h.get p8=some (.row 1 [[.bool b]] false)) (c9:h.get p9=some (.row 1 [[.int .i64 0]] false)) (b8:q+9<=p8/\p8<h.next/\p8≠pc/\p8≠pb/\p8≠pk/\p8≠pl/\p8≠pD/\p8≠p11) (b9:q+9<=p9/\p9<h.next/\p9≠pc/\p9≠pb/\p9≠pk/\p9≠pl/\p9≠pD/\p9≠p11) (n89:p8≠p9) :
  ∃ vd V2,Z7 99 none (q72 [1,1,1,1,1]) ds ts h fun x ds' ts' h'=>x=.ret/\ds'=ds/\Ze ts' 8=.w (.c (.ptr p8 0))/\Ze ts' 9=.w (.c (.ptr p9 0))/\h'.get p8=some (.row 1 [[.bool vd]] false)/\h'.get p9=some (.row 1 [[.int .i64 0]] false)/\CS n q md sh pc pb pk pl fr mo k nn fu V2 h'/\Q k V2/\(vd=true ↔ fu=false/\∀ w,w<64->ptr k w=0)/\(vd=true/\nn<mo\/∀ w,w<64->Yq (V2 z) (4 * w)=ptr k w)/\h.next<=h'.next/\∀ m,m<h.next->Ez n q m->m≠p8->m≠p9->h'.get m=h.get m:=by
 obtain⟨C,c6,⟨D,Dl,hD,Dp⟩,⟨b,hb,bp⟩,qq,vz,b0,b1,n1,n2⟩:=B
 obtain⟨b',c8⟩:=c8
 have hc:=C.c0
 have hcb:=C.cb
 have ot:∀ m,m<q+9\/m=pc\/m=pb\/m=pk\/m=pl->m≠p8/\m≠p9:=fun m hm=>by
  obtain⟨x1,x2,x3,x4,x5,x6,x7,x8⟩:=b8
  obtain⟨y1,y2,y3,y4,y5,y6,y7,y8⟩:=b9
  rcases hm with e|e|e|e|e
  ·exact⟨oM,oM⟩
  all_goals (rw[e]; exact⟨Ne.symm (by assumption),Ne.symm (by assumption)⟩)
 have Z:=Z5h Dl
 have Z2:Fv D 0 256=true ↔ ∀ w,w<64->ptr k w=0:=Z.trans ⟨fun w i hi=>(Dp i hi).symm.trans (w i hi),fun w i hi=>(Dp i hi).trans (w i hi)⟩
 have Hd:Holds h (.slice pD 0 256 1) ((D.drop 0).take 256 |>.map (· % 256)):=Holds.pg Dl hD oM
 have cZ:Zi 75 [.c (.slice pD 0 256 1)] h (.w (.c (.bool (Fv D 0 256)))) h:=Z2c Hh h _ _ Hd
 have Yl:(pgL D).length=256:=by rw[Oz,Dl]
 have r5:read1 256 [pgL D] 255=some (.int .u8 ((atN D 255:Nat):Int)):=Zr7 ⟨oM,oM⟩
 have rc:reaches 0 256 (some (.row 256 [pgL D] false))=true:=by
  show (match read1 256 [pgL D] 255 with|some _=>Nat.ble 1 256|none=>false)=true
  rw[r5]
  rfl
 obtain⟨zb,hz⟩:=xzE (Fv D 0 256)
 rw[hz] at Z2 cZ
 have xb:=Wy D
 have zz:Fv (unN (pgL D)) 0 256=zb:=by rw[Gh,Zbb]; exact hz
 obtain⟨Y,hY⟩:=xzE (pgL D)
 have same:b=false->∀ w,w<64->Yq (V z) (4 * w)=ptr k w:=fun e w hw=>by rw[vz,W w hw,bp e w hw]
 have Z9v:∀ (vd:Bool),∃ hP,Zi 76 [.c (.ptr (n+13) 0),.c (.int .i64 (z:Int)),.g Y] (h.put p8 (.row 1 [[.bool vd]] false)) (.w (.c (.int .i64 0))) hP/\CS n q md sh pc pb pk pl fr mo k nn fu (Df V z D) ((hP.put p8 (.row 1 [[.bool vd]] false)).put p9 (.row 1 [[.int .i64 0]] false))/\h.next<=hP.next/\((hP.put p8 (.row 1 [[.bool vd]] false)).put p9 (.row 1 [[.int .i64 0]] false)).get p8=some (.row 1 [[.bool vd]] false)/\(∀ m,m<h.next->Ez n q m->m≠p8->hP.get m=h.get m)/\hP.get p8=some (.row 1 [[.bool vd]] false)/\hP.get p9=some (.row 1 [[.int .i64 0]] false):=fun vd=>by
  have C1:=C.keep (h2:=h.put p8 (.row 1 [[.bool vd]] false)) (by rw[H.Zb]; omega) fun m hm=>Zd (ot m hm).1
  obtain⟨hP,cP,MP,kP⟩:=C1.M.Z7v Hh Bl oz z1 Dl zs
  rw[hY] at cP
  have kp:∀ m,m<h.next->Ez n q m->hP.get m=(h.put p8 (.row 1 [[.bool vd]] false)).get m:=fun m hm ho=>kP.2 m hm ho
  have nx:=C.M.nx
  have o:∀ m,m<h.next->q+9<=m->Ez n q m:=fun m _ hq=>⟨oM,.inr hq⟩
  have kq:∀ m,m<h.next->Ez n q m->m≠p8->m≠p9->((hP.put p8 (.row 1 [[.bool vd]] false)).put p9 (.row 1 [[.int .i64 0]] false)).get m=h.get m:=fun m hm ho m1 m2=>(Zd m2).trans ((Zd m1).trans ((kp m hm ho).trans (Zd m1)))
  have b0:=C.b0
  have b1:=C.b1
  have nP:h.next<=hP.next:=kP.1
  have tc:=ot pc (.inr (.inl rfl))
  have tb:=ot pb (.inr (.inr (.inl rfl)))
  have tk:=ot pk (.inr (.inr (.inr (.inl rfl))))
  have tl:=ot pl (.inr (.inr (.inr (.inr rfl))))
  refine⟨hP,cP,⟨MP.keep (by simp only[H.Zb]; omega) (fun m hm=>(Zd (ot m (.inl hm)).2).trans (Zd (ot m (.inl hm)).1)),C.al.upd zm.1 zm.2 D,?_,?_,?_,?_,b0,⟨by simp only[H.Zb]; omega,by simp only[H.Zb]; omega,by simp only[H.Zb]; omega,by simp only[H.Zb]; omega⟩,C.ne,C.le,C.kl⟩,nP,(Zd n89).trans (Zx ..),fun m hm ho m1=>(kp m hm ho).trans (Zd m1),(kp p8 b8.2.1 (o _ b8.2.1 b8.1)).trans (Zx ..),(kp p9 b9.2.1 (o _ b9.2.1 b9.1)).trans ((Zd (Ne.symm n89)).trans c9)⟩
  ·exact (kq pc b1.1 (o _ b1.1 b0.1) tc.1 tc.2).trans C.c0
  ·exact (kq pb b1.2.1 (o _ b1.2.1 b0.2.1) tb.1 tb.2).trans C.cb
  ·exact (kq pk b1.2.2.1 (o _ b1.2.2.1 b0.2.2.1) tk.1 tk.2).trans C.ck
  ·exact (kq pl b1.2.2.2 (o _ b1.2.2.2 b0.2.2.2) tl.1 tl.2).trans C.cl
 have retG:∀ (vd:Bool),CS n q md sh pc pb pk pl fr mo k nn fu V (((h.put p8 (.row 1 [[.bool vd]] false)).put p8 (.row 1 [[.bool vd]] false)).put p9 (.row 1 [[.int .i64 0]] false)):=fun vd=>C.keep (by simp only[H.Zb]; omega) fun m hm=>(Zd (ot m hm).2).trans ((Zd (ot m hm).1).trans (Zd (ot m hm).1))
 rw[hY] at Yl rc hD xb zz
 obtain⟨vd,hv⟩:=xzE ((!fu&&zb))
 have vi:vd=true ↔ fu=false/\∀ w,w<64->ptr k w=0:=by
  rw[<-Z2,<-hv,aQ,Bool.not_eq_true']
 obtain⟨hP,cP,CP,nP,g8,kP,g8',g9'⟩:=Z9v vd
 have gb':hP.get pb=some (.row 1 [[.ptr pc 0]] false):=by
  have:=C.b0; have:=C.b1; have:=C.M.nx
  exact (kP pb oM ⟨oM,oM⟩ (Ne.symm b8.2.2.2.1)).trans C.cb
 have gc':hP.get pc=some (.row 5 [[.ptr (n+13) 0,.int .i64 (fr:Int),.int .i64 (mo:Int),.int .i64 (nn:Int),.bool fu]] false):=by
  have:=C.b0; have:=C.b1; have:=C.M.nx
  exact (kP pc oM ⟨oM,oM⟩ (Ne.symm b8.2.2.1)).trans C.c0
 have gD':hP.get pD=some (.row 256 [Y] false):=by
  have:=C.M.nx
  exact (kP pD oM ⟨oM,oM⟩ (Ne.symm b8.2.2.2.2.2.2.1)).trans hD
 have g11':hP.get p11=some (.row 1 [[.bool b]] false):=by
  have:=C.M.nx
  exact (kP p11 oM ⟨oM,oM⟩ (Ne.symm b8.2.2.2.2.2.2.2)).trans hb
 have CR:=retG vd
 have uz:∀ w,w<64->Yq (Df V z D z) (4 * w)=ptr k w:=fun w hw=>by rw[Ov]; exact Dp w hw
 have nb:Nat.ble (h.put p8 (.row 1 [[.bool vd]] false)).next hP.next=true:=by rw[H.Zb]; exact Nat.ble_eq_true_of_le nP
 obtain⟨lt,hlt⟩:=xzE (decide ((nn:Int)<(mo:Int)))
 have fr1:∀ m,m<h.next->Ez n q m->m≠p8->m≠p9->(((h.put p8 (.row 1 [[.bool vd]] false)).put p8 (.row 1 [[.bool vd]] false)).put p9 (.row 1 [[.int .i64 0]] false)).get m=h.get m:=fun m _ _ m1 m2=>(Zd m2).trans ((Zd m1).trans (Zd m1))
 have fr2:∀ m,m<h.next->Ez n q m->m≠p8->m≠p9->((hP.put p8 (.row 1 [[.bool vd]] false)).put p9 (.row 1 [[.int .i64 0]] false)).get m=h.get m:=fun m hm ho m1 m2=>(Zd m2).trans ((Zd m1).trans (kP m hm ho m1))
 have r8:(((h.put p8 (.row 1 [[.bool vd]] false)).put p8 (.row 1 [[.bool vd]] false)).put p9 (.row 1 [[.int .i64 0]] false)).get p8=some (.row 1 [[.bool vd]] false):=(Zd n89).trans (Zx ..)
 have hb1:=(Zd (h:=h) (o:=.row 1 [[.bool vd]] false) (Ne.symm b8.2.2.2.2.2.2.2)).trans hb
 have hcb1:=(Zd (h:=h) (o:=.row 1 [[.bool vd]] false) (Ne.symm b8.2.2.2.1)).trans hcb
 have hc1:=(Zd (h:=h) (o:=.row 1 [[.bool vd]] false) (Ne.symm b8.2.2.1)).trans hc
 have hD1:=(Zd (h:=h) (o:=.row 1 [[.bool vd]] false) (Ne.symm b8.2.2.2.2.2.2.1)).trans hD
 have c91:=(Zd (h:=h) (o:=.row 1 [[.bool vd]] false) (Ne.symm n89)).trans c9
 refine⟨vd,bif (vd&&lt) || !b then V else Df V z D,?_⟩
 rw[Zwv]
 refine Zu ((Z6k Hh t3 t8 t10 c8 hcb hc hD xb zz rc Yl).mono ?_)
 rintro _ _ ts1 _ ⟨rfl,rfl,s1,rfl⟩
 rw[hv]
 have u0:=(s1 0 dM).trans t0
 have u3:=(s1 3 dM).trans t3
 have u8:=(s1 8 dM).trans t8
 have u9:=(s1 9 dM).trans t9
 have u10:=(s1 10 dM).trans t10
 have u11:=(s1 11 dM).trans t11
 show Z7 99 none (q72 [1,1,1,1,1,1]) _ _ _ _
 rw[Zr6]
 refine Zu ?_
 rw[Zpx]
 refine Zu ((Z6j Hh u3 u8 u11 (Zx ..) hcb1 hc1 hb1 hlt).mono ?_)
 rintro _ _ ts2 _ ⟨rfl,rfl,e89,s2,rfl⟩
 have v0:=(s2 0 dM).trans u0
 have v3:=(s2 3 dM).trans u3
 have v8:=(s2 8 dM).trans u8
 have v9:=(s2 9 dM).trans u9
 have v10:=(s2 10 dM).trans u10
 show Z7 99 none (q72 [1,1,1,1,1,1,0,1]) _ _ _ _
 rw[Zm2]
 refine Goes.Zl (v:=(vd&&lt) || !b) (by simp only[Zz,Yb,e89,asC]) ?_
 cases hr:(vd&&lt) || !b with
 | true =>
  rw[cond_true,cond_true,Zjl]
  refine Zu ((Z85 Hh v8 v9 (Zx ..) c91 n89).mono ?_)
  rintro _ _ ts3 _ ⟨rfl,rfl,w8,w9,rfl⟩
  show Z7 99 none (q72 [1,1,1,1,1,1,0,1,3,1]) _ _ _ _
  rw[Zh9]
  refine Yc ⟨rfl,rfl,w8,w9,r8,Zx ..,CR,qq,vi,?_,Nat.le_refl _,fr1⟩
  cases hb:b with
  | false=>exact .inr (same hb)
  | true =>
   rw[hb,Bool.not_true,Bool.or_false,aQ] at hr
   exact .inl ⟨hr.1,of_decide_eq_true (hlt.trans hr.2) |> Int.ofNat_lt.1⟩
 | false =>
  rw[cond_false,cond_false,Zjm]
  refine Ye ?_
  show Z7 99 none (q72 [1,1,1,1,1,1,1]) _ _ _ _
  rw[Zpy]
  refine Zu ((Z86 Hh v0 v3 v8 v9 v10 (Zx ..) hcb1 hc1 hD1 g8' gb' gc' gD' g9' cP ⟨n89,b8.2.2.2.1,b8.2.2.1,b8.2.2.2.2.2.2.1,b9.2.2.2.1,b9.2.2.1,b9.2.2.2.2.2.2.1⟩ Yl nb).mono ?_)
  rintro _ _ ts3 _ ⟨rfl,rfl,w8,w9,rfl⟩
  show Z7 99 none (q72 [1,1,1,1,1,1,1,1]) _ _ _ _
  rw[Zm3]
  exact Yc ⟨rfl,rfl,w8,w9,g8,Zx ..,CP,Qu _,vi,.inr uz,nP,fr2⟩
end
end Go.Proofs.YteiljiijagmonaaGreatDoor
