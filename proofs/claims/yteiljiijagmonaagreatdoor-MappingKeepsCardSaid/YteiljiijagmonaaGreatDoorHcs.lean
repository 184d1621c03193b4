/- End of a handle that gave blocks back, and put nothing as data. -/
import Derived.Test.YteiljiijagmonaaGreatDoorBgs
set_option maxRecDepth 100000
set_option maxHeartbeats 8000000
set_option linter.unusedSimpArgs false
set_option linter.unusedVariables false
set_option linter.unusedSectionVars false
namespace Go.Proofs.YteiljiijagmonaaGreatDoor
open Go.Ev
noncomputable section
theorem rs84:Tryz.f84.results.toList=[.tmp 4]:=rfl
theorem rs38:Tryz.f38.results.toList=[.tmp 4]:=rfl
attribute [go_sem] rs84 rs38
def Zsn:Kn1:=fun args h=>match args with
 | [.c (.ptr c 0),.c (.int .i64 _)]=>(Zcy h c).bind fun X=>Yt (Om h X.pn) (some (.w (.c (.bool false)),h))
 | _=>none
def Zsl:Kn1:=fun args h=>match args with
 | [.c (.ptr c 0),.c (.int .i64 z)]=>(Zcy h c).bind fun X=>(Nz h X.d).bind fun D=>(getM h X.m).bind fun l=>Yt (Om h X.pn&&decide (0<=z)&&decide (z<(D.n:Int))) (some (.w (.c (.int .i64 0)),h.put X.m (.map (Y5 (Dw z l)))))
 | _=>none
def Zti:Kn1:=fun args h=>match args with
 | [.c (.fn g [] [some (a,0)])]=>Yt (K.keys.contains g) (match h.get a with
  | some (.row sz [[.map n]] _)=>Yt (Nat.beq sz 1) (match h.get n with
   | some (.map es)=>(match Od es with
    | some []=>some (.w (.c .snil),h)
    | some (k :: ks)=>Yt (Nat.ble (k :: ks).length 1000000) (some (.w (.c (.slice h.next 0 (k :: ks).length 1)),h.new (.row 1 ((k :: ks).map fun i=>[.int .i64 i]) false)))
    | none=>none)
   | _=>none)
  | _=>none)
 | _=>none
attribute [go_sem] Zsn Zsl Zti
theorem Z37 (kt:TypeId) (k:W):Zcw K kt k []=some none:=rfl
theorem Zbs:∀ {l:List Int},(∀ k∈l,Dz k=true)->Od (gvE l)=some (Wj l)
 | [],_=>rfl
 | k :: l,h=>by
  show (bif Dz k then (match Od (gvE l) with
   | none=>none
   | some r=>some (Zbe k r)) else none)=_
  rw[h k (by simp),Zbs (fun p hp=>h p (by simp [hp]))]
  rfl
def Zvx:List Int->Ut->Ut
 | [],l=>l
 | k :: ks,l=>Zvx ks (Dw k l)
theorem Zj4:∀ {ks:List Int} {l:Ut},Ou l=true->Ou (Zvx ks l)=true
 | [],_,h=>h
 | k :: ks,l,h=>Zj4 (ks:=ks) (l:=Dw k l) (Tj h)
theorem Zj5 {a b c e:Nat} {L:List (List C)}:∀ {ks:List Int} {l:Ut},SeenP a b c e l L->SeenP a b c e (Zvx ks l) L
 | [],_,h=>h
 | k :: ks,l,h=>Zj5 (ks:=ks) ⟨fun z y hy=>by
  by_cases w:(z:Int)=k
  ·rw[w,L9 h.u] at hy
   cases hy
  ·rw[Mo w] at hy
   exact h.s z y hy,Zhs h.u,h.p⟩
section
variable (Hh:Hearts K Tryz.prog)
include Hh
theorem Zxd {args:List W} {h h':Hq} {v:V} (e:Zsn args h=some (v,h')):Zi 84 args h v h':=by
 unfold Zsn at e
 split at e
 ·rename_i c z
  obtain⟨X,hc,e⟩:=Zj e
  have hc:=Fa hc
  obtain⟨b,e⟩:=Zq.1 e
  have hp:=Yz b
  cases e
  refine Zy.tidy ⟨Tryz.f84,Tryz.func84,kR,by decide⟩ fun tidy=>?_
  have l1:=tidy _ _ hc
  have l2:=tidy _ _ hp
  refine X0 rfl ?_
  refine Y0 Hh Tryz.f84 ?_
  have Jf:=Ju @hc @hp @Z37
  repeat (first|apply Zu|apply Yc|refine Zr Hh Za O3 ?_)
  exact⟨_,_,Zf,rfl,fun j hj=>by exact Le⟩
 ·cases e
theorem Zxb {args:List W} {h h':Hq} {v:V} (e:Zsl args h=some (v,h')):Zi 38 args h v h':=by
 unfold Zsl at e
 split at e
 ·rename_i c z
  obtain⟨X,hc,e⟩:=Zj e
  have hc:=Fa hc
  obtain⟨D,hd,e⟩:=Zj e
  obtain⟨hd,n0,n1⟩:=Uy hd
  obtain⟨l,hm,e⟩:=Zj e
  have hm:=getM_some hm
  obtain⟨b,e⟩:=Zq.1 e
  simp only[aQ,decide_eq_true_eq] at b
  obtain⟨⟨bv,z0⟩,z1⟩:=b
  have hp:=Yz bv
  cases e
  refine fnG Hh Tryz.f38 ?_
  repeat (first|apply Zu|apply Ye|apply Yc|((first|apply Goes.Zl|apply Goes.ops2 fits Hh (EY (EY Za (Rj Hh)) (Zxd Hh))); · simp (maxSteps:=9^6) +decide (disch:=first|exact dZ|fail) only [go_sem,Zk,Zh,simprocAttr,hc,hd,hm,hp,read1,Zt,Oy,Eg]<;>rfl))
  exact Zf
 ·cases e
theorem Za7 {args:List W} {h h':Hq} {v:V} (e:Zti args h=some (v,h')):Zi 35 args h v h':=by
 refine Zdj Hh ?_
 have e1:Di K E0 35 args h=Ep K h args:=kR
 rw[e1]
 unfold Zti at e
 split at e
 ·rename_i g a
  obtain⟨b,e⟩:=Zq.1 e
  split at e
  ·rename_i n ro hg
   obtain⟨b1,e⟩:=Zq.1 e
   obtain rfl:=bQ b1
   split at e
   ·rename_i es hl
    have r1:read1 1 [[C.map n]] 0=some (.map n):=rfl
    simp only[Ep,b,cond_true,hg,r1,Q5,hl]
    split at e
    ·rename_i hk
     cases e
     rw[hk]
     rfl
    ·rename_i k ks hk
     have e:Yt (Nat.ble (k :: ks).length 1000000) (some (V.w (.c (.slice h.next 0 (k :: ks).length 1)),h.new (.row 1 ((k :: ks).map fun i=>[.int .i64 i]) false)))=some (v,h'):=e
     obtain⟨b2,e⟩:=Zq.1 e
     injection e with e
     injection e with ev eh
     subst ev eh
     rw[hk]
     show (bif Nat.ble (k :: ks).length 1000000 then _ else none)=_
     rw[b2]
     rfl
    ·cases e
   ·cases e
  ·cases e
 ·cases e
structure GvF (s:Nat) (S:Stt) (G:Gd) (Y:Ck) (D:Dk) (L:List Int) (sv:C) (h:Hq):Prop where
 hs:h.get s=some (.row 8 [stL S] false)
 hg:h.get S.gd=some (.row 9 [gdL G] false)
 hc:h.get G.ca=some (.row 3 [ckL Y] false)
 hd:h.get Y.d=some (.row 6 [dkL D] false)
 hp:h.get Y.pn=some (.map [])
 hn:sv=.snil/\L=[]\/∃ p,sv=.slice p 0 L.length 1/\h.get p=some (.row 1 (L.map fun i=>[.int .i64 i]) false)
theorem Z63 {s:Nat} {S:Stt} {G:Gd} {Y:Ck} {D:Dk} {L:List Int} {sv:C} (n0:0<D.n) (n1:D.n<=2048) (fb:Y1 G.gr G.sz G.ino G.jr=true) (pm:Y.pn≠Y.m) (hk:∀ k∈L,0<=k/\k<(D.n:Int)) (hL:L.length<=1000000):∀ (rest:List Int) (i:Nat) (lm:Ut) (ts:Zw) (h:Hq),L.drop i=rest->GvF s S G Y D L sv h->h.get Y.m=some (.map (Y5 lm)) ->
  Ze ts 0=.w (.c (.ptr s 0))->Ze ts 21=.w (.c sv)->Ze ts 22=.w (.c (.int .i64 (L.length:Nat)))->Ze ts 23=.w (.c (.int .i64 (i:Nat))) ->
  Z7 115 none (q10 [1,1,0,1,2]) [] ts h fun x ds' ts' h'=>x=.exit 0/\ds'=[]/\Ze ts' 0=.w (.c (.ptr s 0))/\h'.next=h.next/\h'.get Y.m=some (.map (Y5 (Zvx rest lm)))/\∀ m,m≠Y.m->h'.get m=h.get m:=by
 intro rest
 induction rest with
 | nil =>
  intro i lm ts h hr E hm h0 h21 h22 h23
  have il:L.length<=i:=by
   have:=congrArg List.length hr
   rw[List.length_drop] at this
   simp only[List.length_nil] at this
   omega
  have Jf:=Um @h0 @h21 @h22 @h23
  iterate 6 (first|apply Zu|apply Gr|apply J8|refine Goes.Zl Zn ?_|refine Zr Hh Za Zn ?_)
  refine⟨rfl,rfl,?_,rfl,hm,fun m _=>rfl⟩
  simp (decide:=true) only [Zo,reduceIte,h0]
 | cons k rest ih =>
  intro i lm ts h hr E hm h0 h21 h22 h23
  have hi:L[i]? = some k:=by
   have:=congrArg (fun l=>l[0]?) hr
   simpa [List.getElem?_drop] using this
  have il:i<L.length:=by
   rcases Nat.lt_or_ge i L.length with h1|h1
   ·exact h1
   ·rw[List.getElem?_eq_none h1] at hi; cases hi
  have hr':L.drop (i+1)=rest:=by
   rw[List.drop_eq_getElem_cons il] at hr
   exact (List.cons.inj hr).2
  obtain⟨k0,k1⟩:=hk k (List.mem_of_getElem? hi)
  obtain⟨hs,hg,hc,hd,hp,hn⟩:=E
  rcases hn with ⟨rfl,rfl⟩|⟨p,rfl,hn⟩
  ·cases il
  have rk:(L.map fun i=>[C.int .i64 i])[i]? = some [C.int .i64 k]:=by rw[List.getElem?_map,hi]; rfl
  have a1:=Xp hs hm
  have a2:=Xp hg hm
  have a3:=Xp hc hm
  have a4:=Xp hd hm
  have a5:=Xp hn hm
  have e1:(((i:Nat):Int)+1)=((i+1:Nat):Int):=rfl
  obtain⟨R,hR⟩:=xzE ((L.map fun i=>[C.int .i64 i]))
  obtain⟨N,hN⟩:=xzE (L.length)
  have hn':=hn
  have h21':=h21
  have h22':=h22
  rw[hR] at hn' rk
  rw[hN] at h21' h22' il hL
  iterate 22 (first|apply Zu|apply Ye|apply Jc|apply J8|((first|apply Goes.Zl|apply Goes.ops2 fits Hh (EY Za (Zxb Hh))); · simp (maxSteps:=9^6) +decide (disch:=first|exact dZ|fail) only [go_sem,Zk,Zh,simprocAttr,h0,h21',h22',h23,e1,rk,Nat.div_one,Nat.mod_one,hs,hg,gdL,fb,hc,hd,hn',hm,hp,read1]<;>rfl))
  show Z7 115 none (q10 [1,1,0,1,2]) _ _ _ _
  refine (ih (i+1) (Dw k lm) _ _ hr' ⟨(Zd a1).trans hs,(Zd a2).trans hg,(Zd a3).trans hc,(Zd a4).trans hd,(Zd pm).trans hp,.inr ⟨p,rfl,(Zd a5).trans hn⟩⟩ (Zx ..) ?_ ?_ ?_ ?_).mono ?_
  ·exact tZ h0
  ·exact tZ h21
  ·exact tZ h22
  ·exact tY
  rintro x ds' ts' h' ⟨q1,q2,q3,q4,q5,q6⟩
  exact⟨q1,q2,q3,q4,q5,fun m hm1=>(q6 m hm1).trans (Zd hm1)⟩
end
open Go.Ev
abbrev Cr.clR (ch F R:Lq):Cr:=⟨0,0,false,ch,F,R,0⟩
theorem Zuk:∀ {l:List Int},l.Nodup->Rp (vdE l)=true
 | [],_=>rfl
 | k :: l,h=>by
  have hh:=List.nodup_cons.1 h
  show ((Ym k (vdE l)).isNone&&Rp (vdE l))=true
  rw[Zuk hh.2,Bool.and_true]
  cases hl:Ym k (vdE l) with
  | none=>rfl
  | some y =>
   obtain⟨z,hz,e⟩:=List.mem_map.1 (Zef hl)
   cases e
   exact absurd hz hh.1
theorem Zpe {l:List Int} {R:Lq} (nd:l.Nodup) (m:∀ z∈l,∃ k∈R,z=((k:Nat):Int)):l.length<=R.length:=by
 have:=Zap (S:=R) (Zuk nd) (fun z y hz=>by
  obtain⟨w,hw,e⟩:=List.mem_map.1 (Zef hz)
  cases e
  exact m _ hw)
 rwa [show (vdE l).length=l.length from List.length_map ..] at this
theorem Zp7 {k m i j:Nat} {x r s:Int} (h:Bq ((m:Int)+x) ((j:Int)+r)=some s) (hk:k<=m) (hi:i<=j) (x0:0<x) (r0:0<=r):∃ s',Bq ((k:Int)+x) ((i:Int)+r)=some s'/\s'<=s:=by
 obtain⟨a1,a2,a3,a4,rfl⟩:=Gn h
 refine⟨(k:Int)+x+((k:Int)+x+30 - 1) / 30+((i:Int)+r+60 - 1) / 60+1,?_,oM⟩
 unfold Bq
 rw[decide_eq_true oM,decide_eq_true oM,decide_eq_true oM,decide_eq_true oM]
 rfl
section
variable (Hh:Hearts K Tryz.prog)
include Hh
variable {n q a b c e:Nat} {md:Int} {h:Hq} {S Ch F R:Lq} {V:Nat->Lq}
theorem HE.Yan (M:HE n q a b c e (Cr.clR Ch F R) md S [] V h) (fb:Y1 a b c e=true) {x r s1 s2:Int} {C2 S':Lq} (hC:∀ k∈Ch++S,k∈C2) (C4:∀ k∈C2,k<4096) (cl:C2.length<=4096) (Rl:R.length<=1000) (z1:Bq x r=some s1) (y1:s1<=(e:Int) - 1) (z2:Bq ((C2.length:Int)+x) ((R.length:Int)+r)=some s2) (y2:s2<=(e:Int) - 1) (hS:(S'.length:Int)<=x) :
  ∃ h' sh,Zi 8 [.c (.ptr (n+13) 0),.c (.int .i64 x),.c (.int .i64 r)] h (.w (.c (.int .i64 0))) h'/\HE n h.next a b c e ⟨x,r,true,C2,F,R,sh⟩ md S' [] V h'/\h.next<=h'.next/\∀ m,m<h.next->m≠n+13->m≠n+20->h'.get m=h.get m:=by
 obtain⟨d,d1,d2,kn,ld,lt,lc,lm,L,fl,sn,ft,fc,t5,vt,t7,t8,t9,tT,see,M⟩:=M
 obtain⟨f1,f2,f3,f4,l1,l2,f5,f6,f7,f8,f9,f10,f11,f12,f13,f14,f15,f16,f17,f18,f19,f20,f21,f22⟩:=M
 obtain rfl:ld=[]:=by
  cases ld with
  | nil=>rfl
  | cons p l =>
   obtain⟨k,hk,_⟩:=tT p.1 p.2 (by show (bif p.1 == p.1 then some p.2 else Ym p.1 l)=_; rw[O7 rfl]; rfl)
   cases hk
 obtain⟨lf,f12,m2⟩:=f12
 obtain⟨lr,f15,nd3,m3⟩:=f15
 have hc':∀ z y,Ym z lc=some y->∃ k∈C2,z=(k:Nat):=fun z y hz=>by
  obtain⟨k,hk,e⟩:=t9.2.2 z y hz
  exact⟨k,hC k hk,e⟩
 obtain⟨ko,kb⟩:=Zul t9.2.1 hc' C4 cl
 obtain⟨x0,x1,r0,r1,_⟩:=Gn z1
 have lrl:=Zpe nd3 m3
 obtain⟨s3,z3,y3⟩:=Zp7 z2 kb lrl x0 r0
 obtain⟨_,_,rr0,rr1,_⟩:=Gn z3
 have y1':decide (s1<=(e:Int) - 1)=true:=decide_eq_true y1
 have y3':decide (s3<=(e:Int) - 1)=true:=decide_eq_true oM
 have n23:n+23<=h.next:=oM
 obtain⟨g1,g2,g3,g4,g5,g6,g7,g8,g9,g10,g11⟩:=Ya fb
 have f5:h.get (n+20)=some (.row 13 [txL ⟨n+15,n+16,n+17,n+19,1,false,0,0,.mnil,.mnil,.mnil,.mnil,.pnil⟩] false):=f5
 have f19:h.get (n+13)=some (.row 8 [stL ⟨n+12,n+20,q+7,q+8,.snil,kn⟩] false):=f19
 have bl:Nat.ble lr.length 1000000=true:=Nat.ble_eq_true_of_le oM
 have eN:Znl [.c (.ptr (n+13) 0),.c (.int .i64 x),.c (.int .i64 r)] h=some (.tup [.c (.int .i64 s3),.c (.int .i64 ((lr.length:Int)+r))],h):=by
  unfold Znl
  have Jf:=Lg @f19 @f5 @f14 @f15 @f21 @z3 @ko @bl; exact Zn
 obtain⟨v,h',cc,rfl,sh,nn,k20,k2,kd,kg,k13,kk⟩:∃ v h',Zi 8 [.c (.ptr (n+13) 0),.c (.int .i64 x),.c (.int .i64 r)] h v h'/\v=.w (.c (.int .i64 0))/\∃ sh,h'.next=h.next+9+sh/\h'.get (n+20)=some (.row 13 [txL ⟨n+15,n+16,n+17,n+19,1,true,x,r,.map (h.next+2),.map (h.next+6+sh),.map (h.next+7+sh),.map (h.next+8+sh),.ptr (h.next+5) 0⟩] false)/\h'.get (h.next+2)=some (.map [])/\h'.get h.next=some (.map [])/\h'.get (h.next+1)=some (.map [])/\h'.get (n+13)=some (.row 8 [stL ⟨n+12,n+20,h.next,h.next+1,.snil,false⟩] false)/\∀ m,m<h.next->m≠n+13->m≠n+20->h'.get m=h.get m:=by
  refine Y0 Hh Tryz.f8 ?_
  iterate 44 (first|apply Zu|apply Ye|((first|apply Goes.Zl|apply Goes.ops2 fits Hh (EY (EY (EY (EY (EY (EY Za (Oa Hh)) (Zqs Hh)) (Za8 Hh)) (M0 Hh)) (Zxk Hh)) (Oe Hh))); · simp (maxSteps:=9^6) +decide (disch:=first|exact dZ|fail) only [go_sem,Zk,Zh,simprocAttr,eN,f19,f5,f6,gdL,gdD,fb,z1,y1',y3',read1]<;>rfl))
  refine Ow fun hA eA=>?_
  have nA:hA.next=h.next+2:=by rw[eA]; simp only[Jm,H.Zb,H.Zc]
  have kA:∀ m,m<h.next->m≠n+13->hA.get m=h.get m:=fun m hm hne=>by rw[eA]; simp (discharger:=omega) only [Jm,H.get_put,H.Zg,H.Zb,H.Zc,if_neg]
  have a0:hA.get h.next=some (.map []):=by rw[eA]; simp (discharger:=omega) only [Jm,H.get_put,H.Zg,H.Zb,H.Zc,if_neg,if_true]
  have a1:hA.get (h.next+1)=some (.map []):=by rw[eA]; simp (discharger:=omega) only [Jm,H.get_put,H.Zg,H.Zb,H.Zc,if_neg,if_true]
  have a13:hA.get (n+13)=some (.row 8 [stL ⟨n+12,n+20,h.next,h.next+1,.snil,false⟩] false):=by rw[eA]; simp (discharger:=omega) only [Jm,H.get_put,H.Zg,H.Zb,H.Zc,if_neg,if_true]<;>rfl
  clear eA
  obtain⟨h2,sh,cT,Q1,Q2,Q3,Q4⟩:=Yaf Hh (h:=hA) (t:=n+20) (m:=n+18) (X:=⟨n+15,n+16,n+17,n+19,1,false,0,0,.mnil,.mnil,.mnil,.mnil,.pnil⟩) (lr:=lr) (esc:=Y5 lc) (eso:=[]) (esf:=Y5 (vdE lf)) (c:=x) (r:=r) oM (show n+19<_ by omega) oM (show n+15<_ by omega) (show n+16<_ by omega) (show n+17<_ by omega) ((kA _ oM oM).trans f5) ((kA (n+19) oM oM).trans f14) ((kA _ oM oM).trans f15) oM (fun k hk=>by obtain⟨j,_,e⟩:=m3 k hk; omega) ((kA (n+15) oM oM).trans f21) ((kA (n+16) oM oM).trans f13) ((kA (n+17) oM oM).trans f12) rfl oM oM
  have aT:=(kA (n+20) oM oM).trans f5
  iterate 2 (first|apply Yc|(apply Goes.ops2 fits Hh (Zp Za cT); · simp (maxSteps:=9^6) +decide (disch:=first|exact dZ|fail) only [go_sem,Zk,Zh,simprocAttr,Z4,eN,f19,f5,f6,gdL,gdD,fb,z1,y1',y3',a13,aT,read1]<;>rfl))
  refine⟨_,_,Zf,rfl,sh,oM,?_,?_,(Q4 _ oM oM).trans a0,(Q4 _ oM oM).trans a1,(Q4 _ oM oM).trans a13,fun m hm h1 h2=>(Q4 m oM h2).trans (kA m hm h1)⟩
  ·rw[Q2,nA,show h.next+2+4+sh=h.next+6+sh by omega,show h.next+2+5+sh=h.next+7+sh by omega,show h.next+2+6+sh=h.next+8+sh by omega]
  ·rw[<-nA]; exact Q3
 have kp:∀ {m:Nat} {o:O},h.get m=some o->m<n+13\/n+14<=m/\m<n+20->h'.get m=some o:=fun {m} {o} e w=>(kk m oM oM oM).trans e
 refine⟨h',sh,cc,⟨d,d1,d2,false,[],[],lc,lm,L,fl,sn,rfl,fc,rfl,(fun _ _ e=>by cases e),rfl,(fun _ _ e=>by cases e),⟨fun _=>hS,t9.2.1,fun z y hz=>by obtain⟨k,hk,e⟩:=hc' z y hz; exact⟨k,List.mem_append_left _ hk,e⟩⟩,tT,fun z z1 hz=>see z z1 hz,?_⟩,oM,kk⟩
 exact⟨kp f1 oM,f2,oM,oM,l1,l2,k20,kp f6 oM,kp f7 oM,kp f8 oM,kp f9 oM,kp f10 oM,⟨[],kg,List.nodup_nil,fun _ e=>by cases e⟩,⟨lf,kp f12 oM,m2⟩,kp f13 oM,kp f14 oM,⟨lr,kp f15 oM,nd3,m3⟩,kd,fun _=>n23,kp f18 oM,k13,fun _=>k2,kp f21 oM,kp f22 oM⟩
end
section
variable (Hh:Hearts K Tryz.prog)
include Hh
variable {n q a b c e:Nat} {md:Int} {h:Hq} {S Ch F R:Lq} {V:Nat->Lq} {x r:Int} {sh:Nat}
theorem HE.Z9f (M:HE n q a b c e ⟨x,r,true,Ch,F,R,sh⟩ md S [] V h) (fb:Y1 a b c e=true) (hF:∀ k∈F,k<2+e+a * b) (Fl:F.length<=4096) {C2:Lq} (hC:∀ k∈Ch++S,k∈C2) :
  ∃ h' q',Zi 10 [.c (.ptr (n+13) 0)] h (.w (.c (.int .i64 0))) h'/\HE n q' a b c e (Cr.clR C2 F R) md [] [] V h'/\(h.next<=h'.next/\h.next<=q'+7)/\∀ m,m<h.next->m≠n+6->m≠n+13->m≠n+20->h'.get m=h.get m:=by
 obtain⟨d,d1,d2,kn,ld,lt,lc,lm,L,fl,sn,ft,fc,t5,vt,t7,t8,t9,tT,see,M⟩:=M
 obtain⟨f1,f2,f3,f4,l1,l2,f5,f6,f7,f8,f9,f10,f11,f12,f13,f14,f15,f16,f17,f18,f19,f20,f21,f22⟩:=M
 have n23:=f17 rfl
 obtain rfl:ld=[]:=by
  cases ld with
  | nil=>rfl
  | cons p l =>
   obtain⟨k,hk,_⟩:=tT p.1 p.2 (by show (bif p.1 == p.1 then some p.2 else Ym p.1 l)=_; rw[O7 rfl]; rfl)
   cases hk
 obtain⟨lg,f11,nd4,m4⟩:=f11
 obtain⟨lf,f12,m2⟩:=f12
 obtain⟨lr,f15,nd3,m3⟩:=f15
 obtain⟨g1,g2,g3,g4,g5,g6,g7,g8,g9,g10,g11⟩:=Ya fb
 have f5:h.get (n+20)=some (.row 13 [txL ⟨n+15,n+16,n+17,n+19,1,true,x,r,.map (q+2),.map (q+6+sh),.map (q+7+sh),.map (q+8+sh),.ptr (q+5) 0⟩] false):=f5
 have f19:h.get (n+13)=some (.row 8 [stL ⟨n+12,n+20,q,q+1,.snil,kn⟩] false):=f19
 have f16:h.get q=some (.map (Y5 [])):=f16
 have f11:h.get (q+1)=some (.map (gvE lg)):=f11
 have lgl:lg.length<=F.length:=Zpe nd4 m4
 have lg0:∀ k∈lg,0<=k/\k<((2+e+a * b:Nat):Int):=fun k hk=>by
  obtain⟨j,hj,e⟩:=m4 k hk
  have:=hF j hj
  omega
 have kf:∀ k∈lg,Dz k=true:=fun k hk=>by
  have:=lg0 k hk
  unfold Dz
  rw[decide_eq_true oM,decide_eq_true oM]
  rfl
 have hsk:=Zbs kf
 have sp:=Vh lg
 have sl:(Wj lg).length<=1000000:=by rw[sp.length_eq]; omega
 have s0:∀ k∈Wj lg,0<=k/\k<((2+e+a * b:Nat):Int):=fun k hk=>lg0 k (sp.mem_iff.1 hk)
 have sk0:Od (Y5 [])=some []:=rfl
 have rb:=fun (sv:C)=>Z63 Hh (sv:=sv) (s:=n+13) (S:=⟨n+12,n+20,q,q+1,.snil,kn⟩) (G:=gdD n d a b c e md) (Y:=ckD n d) (D:=⟨d1,d2,2+e+a * b,.snil,0,0⟩) (L:=Wj lg) (show 0<2+e+a * b by omega) (show 2+e+a * b<=2048 by omega) fb (show n+7≠n+6 by omega) s0 sl (Wj lg) 0 lm
 obtain⟨v,h',cc,rfl,m1,nn,nl,k20,kd,kg,k13,k6,kk⟩:∃ v h',Zi 10 [.c (.ptr (n+13) 0)] h v h'/\v=.w (.c (.int .i64 0))/\∃ m1,h'.next=m1+2/\h.next<=m1/\h'.get (n+20)=some (.row 13 [txL ⟨n+15,n+16,n+17,n+19,1,false,0,0,.mnil,.mnil,.mnil,.mnil,.pnil⟩] false)/\h'.get m1=some (.map [])/\h'.get (m1+1)=some (.map [])/\h'.get (n+13)=some (.row 8 [stL ⟨n+12,n+20,m1,m1+1,.snil,false⟩] false)/\h'.get (n+6)=some (.map (Y5 (Zvx (Wj lg) lm)))/\∀ m,m<h.next->m≠n+6->m≠n+13->m≠n+20->h'.get m=h.get m:=by
  rcases hs:Wj lg with _|⟨k,ks⟩
  ·
   rw[hs] at hsk
   simp only[hs] at rb
   refine Y0 Hh Tryz.f10 ?_
   iterate 13 (first|apply Zu|apply Ye|apply Jc|((first|apply Goes.Zl|apply Goes.ops2 fits Hh (EY (EY (EY Za (Vp Hh)) (Za4 Hh)) (Za7 Hh))); · simp (maxSteps:=9^6) +decide (disch:=first|exact dZ|fail) only [go_sem,Zk,Zh,simprocAttr,f19,f5,f6,gdL,gdD,fb,f11,hsk,sk0,G5,read1,Zt,J5]<;>rfl))
   refine (rb .snil _ _ rfl ⟨?_,?_,?_,?_,?_,.inl ⟨rfl,rfl⟩⟩ ?_ ?_ ?_ ?_ ?_).mono ?_
   ·rw[H.Zg,if_neg oM]; exact f19
   ·rw[H.Zg,if_neg (by show n+12≠_; omega)]; exact f6
   ·rw[H.Zg,if_neg (by show n+8≠_; omega)]; exact f7
   ·rw[H.Zg,if_neg (by show d≠_; omega)]; exact f8
   ·rw[H.Zg,if_neg (by show n+7≠_; omega)]; exact f22
   ·rw[H.Zg,if_neg (by show n+6≠_; omega)]; exact f18
   ·exact Zf
   ·exact Zf
   ·exact Zf
   ·exact Zf
   rintro x1 ds' ts' h2 ⟨rfl,rfl,e0,nx,m2',kp⟩
   simp only[H.Zc] at nx
   have kq:∀ m,m<h.next->m≠n+6->h2.get m=h.get m:=fun m hm hne=>(kp m hne).trans (by rw[H.Zg,if_neg oM])
   have w1:=(kq (n+13) oM oM).trans f19
   have w2:=(kq (n+20) oM oM).trans f5
   have w3:=(kq q oM oM).trans f16
   have w4:h2.get (n+6)=_:=m2'
   iterate 15 (first|apply Zu|apply Jc|apply Gr|apply Yc|apply J8|((first|apply Goes.Zl|apply Goes.ops2 fits Hh (EY (EY (EY (EY Za (Za3 Hh)) (Za7 Hh)) (Oe Hh)) (Zdv Hh))); · simp (maxSteps:=9^6) +decide (disch:=first|exact dZ|fail) only [go_sem,Zk,Zh,simprocAttr,f19,f5,f6,gdL,gdD,fb,f11,hsk,sk0,G5,e0,w1,w2,w3,read1,Zt,J5]<;>rfl))
   refine⟨_,_,(by have Jf:=@e0; exact Zn),rfl,h2.next+1,?_,oM,?_,?_,?_,?_,?_,fun m hm q1 q2 q3=>?_⟩
   ·simp only[Zkb,H.Zb,H.Zc]
   ·rw[U5,if_pos rfl]; rfl
   ·rw[U5,if_neg oM]; simp (discharger:=omega) only [H.get_put,H.Zg,H.Zb,H.Zc,if_neg,if_true]<;>rfl
   ·rw[U5,if_neg oM]; simp (discharger:=omega) only [H.get_put,H.Zg,H.Zb,H.Zc,if_neg,if_true]<;>rfl
   ·rw[U5,if_neg oM]; simp (discharger:=omega) only [H.get_put,H.Zg,H.Zb,H.Zc,if_neg,if_true]<;>rfl
   ·rw[U5,if_neg oM]; simp (discharger:=omega) only [H.get_put,H.Zg,H.Zb,H.Zc,if_neg,if_true]; exact w4
   ·rw[U5,if_neg q3]; simp (discharger:=omega) only [H.get_put,H.Zg,H.Zb,H.Zc,if_neg,if_true]; exact kq m hm q1
  ·
   have sl2:ks.length+1<=1000000:=by rw[hs] at sl; exact sl
   rw[hs] at hsk
   simp only[hs] at rb
   have lfi:=Xf
   refine Y0 Hh Tryz.f10 ?_
   iterate 13 (first|apply Zu|apply Ye|apply Jc|((first|apply Goes.Zl|apply Goes.ops2 fits Hh (EY (EY (EY Za (Vp Hh)) (Za4 Hh)) (Za7 Hh))); · simp (maxSteps:=9^6) +decide (disch:=first|exact dZ|fail) only [go_sem,Zk,Zh,simprocAttr,f19,f5,f6,gdL,gdD,fb,f11,hsk,sk0,lfi,G5,read1,Zt,J5]<;>rfl))
   refine (rb (.slice (h.next+1) 0 (k :: ks).length 1) _ _ rfl ⟨?_,?_,?_,?_,?_,.inr ⟨_,rfl,?_⟩⟩ ?_ ?_ ?_ ?_ ?_).mono ?_
   ·simp (discharger:=omega) only [H.Zg,H.Zc,if_neg]; exact f19
   ·show H.get _ (n+12)=_; simp only[H.Zg,H.Zc]; rw[if_neg oM,if_neg oM]; exact f6
   ·show H.get _ (n+8)=_; simp only[H.Zg,H.Zc]; rw[if_neg oM,if_neg oM]; exact f7
   ·show H.get _ (d)=_; simp only[H.Zg,H.Zc]; rw[if_neg oM,if_neg oM]; exact f8
   ·show H.get _ (n+7)=_; simp only[H.Zg,H.Zc]; rw[if_neg oM,if_neg oM]; exact f22
   ·simp only[H.Zg,H.Zc,if_true]
   ·show H.get _ (n+6)=_; simp only[H.Zg,H.Zc]; rw[if_neg oM,if_neg oM]; exact f18
   ·exact Zf
   ·exact Zf
   ·exact Zf
   ·exact Zf
   rintro x1 ds' ts' h2 ⟨rfl,rfl,e0,nx,m2',kp⟩
   simp only[H.Zc] at nx
   have kq:∀ m,m<h.next->m≠n+6->h2.get m=h.get m:=fun m hm hne=>(kp m hne).trans (by simp only[H.Zg,H.Zc]; rw[if_neg oM,if_neg oM])
   have w1:=(kq (n+13) oM oM).trans f19
   have w2:=(kq (n+20) oM oM).trans f5
   have w3:=(kq q oM oM).trans f16
   have w4:h2.get (n+6)=_:=m2'
   iterate 15 (first|apply Zu|apply Jc|apply Gr|apply Yc|apply J8|((first|apply Goes.Zl|apply Goes.ops2 fits Hh (EY (EY (EY (EY Za (Za3 Hh)) (Za7 Hh)) (Oe Hh)) (Zdv Hh))); · simp (maxSteps:=9^6) +decide (disch:=first|exact dZ|fail) only [go_sem,Zk,Zh,simprocAttr,f19,f5,f6,gdL,gdD,fb,f11,hsk,sk0,lfi,G5,e0,w1,w2,w3,read1,Zt,J5]<;>rfl))
   refine⟨_,_,(by have Jf:=@e0; exact Zn),rfl,h2.next+1,?_,oM,?_,?_,?_,?_,?_,fun m hm q1 q2 q3=>?_⟩
   ·simp only[Zkb,H.Zb,H.Zc]
   ·rw[U5,if_pos rfl]; rfl
   ·rw[U5,if_neg oM]; simp (discharger:=omega) only [H.get_put,H.Zg,H.Zb,H.Zc,if_neg,if_true]<;>rfl
   ·rw[U5,if_neg oM]; simp (discharger:=omega) only [H.get_put,H.Zg,H.Zb,H.Zc,if_neg,if_true]<;>rfl
   ·rw[U5,if_neg oM]; simp (discharger:=omega) only [H.get_put,H.Zg,H.Zb,H.Zc,if_neg,if_true]<;>rfl
   ·rw[U5,if_neg oM]; simp (discharger:=omega) only [H.get_put,H.Zg,H.Zb,H.Zc,if_neg,if_true]; exact w4
   ·rw[U5,if_neg q3]; simp (discharger:=omega) only [H.get_put,H.Zg,H.Zb,H.Zc,if_neg,if_true]; exact kq m hm q1
 have kp:∀ {m:Nat} {o:O},h.get m=some o->m<n+6\/n+7<=m/\m<n+13\/n+14<=m/\m<n+20->h'.get m=some o:=fun {m} {o} e w=>(kk m oM oM oM oM).trans e
 have hc':∀ z y,Ym z lc=some y->∃ k∈C2++[],z=(k:Nat):=fun z y hz=>by
  obtain⟨k,hk,e⟩:=t9.2.2 z y hz
  exact⟨k,by rw[List.append_nil]; exact hC k hk,e⟩
 have q7:m1 - 7+7=m1:=oM
 have q8:m1 - 7+8=m1+1:=oM
 refine⟨h',m1 - 7,cc,⟨d,d1,d2,false,[],[],lc,Zvx (Wj lg) lm,L,Zj4 fl,Zj5 sn,rfl,fc,rfl,(fun _ _ e=>by cases e),rfl,(fun _ _ e=>by cases e),⟨(fun o=>by cases o),t9.2.1,hc'⟩,(fun _ _ e=>by cases e),see,?_⟩,⟨oM,oM⟩,kk⟩
 exact⟨kp f1 oM,f2,oM,oM,l1,l2,k20,kp f6 oM,kp f7 oM,kp f8 oM,kp f9 oM,kp f10 oM,⟨[],by show h'.get (m1 - 7+7+1)=_; rw[q7]; exact kg,List.nodup_nil,fun _ e=>by cases e⟩,⟨lf,kp f12 oM,m2⟩,kp f13 oM,kp f14 oM,⟨lr,kp f15 oM,nd3,m3⟩,by show h'.get (m1 - 7+7)=_; rw[q7]; exact kd,(fun o=>by cases o),k6,by rw[k13]; show some (O.row 8 [stL ⟨n+12,n+20,m1,m1+1,.snil,false⟩] false)=some (O.row 8 [stL ⟨n+12,n+20,m1 - 7+7,m1 - 7+7+1,.snil,false⟩] false); rw[q7],(fun o=>by cases o),kp f21 oM,kp f22 oM⟩
end
end
end Go.Proofs.YteiljiijagmonaaGreatDoor
