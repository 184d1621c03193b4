/- Begin of a store whose transaction has changed blocks, with room for more. -/
import Derived.Test.YteiljiijagmonaaGreatDoorObg
set_option maxRecDepth 100000
set_option maxHeartbeats 4000000
set_option linter.unusedSimpArgs false
set_option linter.unusedVariables false
set_option linter.unusedSectionVars false
namespace Go.Proofs.YteiljiijagmonaaGreatDoor
open Go.Ev
noncomputable section
def Nb (l:Ut):Bool:=l.all (fun p=>Dz p.1)&&Nat.ble l.length 1000000
def Zqo:Kn1:=fun args h=>match args with
 | [.c (.map m)]=>(getM h m).bind fun l=>Yt (Nb l) (match l with
  | []=>some (.w (.c .snil),h)
  | p :: l'=>some (.w (.c (.slice h.next 0 (p :: l').length 1)),h.new (.row 1 ((Ml (p :: l')).map fun i=>[.int .i64 i]) false)))
 | _=>none
def Zi3:Kn1:=fun args h=>match args with
 | [.c (.ptr t 0)]=>(Uf h t).bind fun X=>Zqo [.c (.map X.ch)] h
 | _=>none
def Zs1:Kn1:=fun args h=>match args with
 | [.c (.ptr s 0),.c (.int .i64 a),.c (.int .i64 b)]=>(Da h s).bind fun S=>(Uf h S.tx).bind fun X=>(Ee h X.rv).bind fun m=>(getM h X.ch).bind fun l=>(Bq ((l.length:Int)+a) b).bind fun n=>Yt (Om h m&&Nb l) (some (.tup [.c (.int .i64 n),.c (.int .i64 b)],h))
 | _=>none
def F3 (h:Hq) (es:List (W × W)):Hq:=((((((h.new (.row 4 [[.mnil,.mnil,.mnil,.pnil]] false)).new (.map [])).new (.row 1 [[.map (h.next+1)]] false)).new (.map es)).new (.map [])).new (.map [])).put h.next (.row 4 [[.map (h.next+1+1+1),.map (h.next+1+1+1+1),.map (h.next+1+1+1+1+1),.ptr (h.next+1+1) 0]] false)
def Znj:Kn1:=fun args h=>match args with
 | [.c (.ptr t 0),.c (.int .u32 _)]=>(Uf h t).bind fun X=>(Ee h X.rv).bind fun m=>match h.get X.ch with
  | some (.map es)=>Yt (Om h m&&Om h X.od&&Om h X.fr) (some (.w (.g [.map (h.next+1+1+1),.map (h.next+1+1+1+1),.map (h.next+1+1+1+1+1),.ptr (h.next+1+1) 0]),F3 h es))
  | _=>none
 | _=>none
def Zd3 (h:Hq) (t:Nat) (X:Tx) (es:List (W × W)) (c r:Int):Hq :=
 (F3 ((((((h.put t (.row 13 [txL { X with op:=true }] false)).put t (.row 13 [txL { X with op:=true,cr:=c }] false)).put t (.row 13 [txL { X with op:=true,cr:=c,rk:=r }] false)).new (.map [])).put t (.row 13 [txL { X with op:=true,cr:=c,rk:=r,to:=.map h.next }] false))) es).put t (.row 13 [txL { X with op:=true,cr:=c,rk:=r,to:=.map h.next,b1:=.map (h.next+1+1+1+1),b2:=.map (h.next+1+1+1+1+1),b3:=.map (h.next+1+1+1+1+1+1),b4:=.ptr (h.next+1+1+1) 0 }] false)
def Ztk:Kn1:=fun args h=>match args with
 | [.c (.ptr t 0),.c (.int .i64 c),.c (.int .i64 r)]=>(Uf h t).bind fun X=>(Ee h X.rv).bind fun m=>match h.get X.ch with
  | some (.map es)=>Yt (!X.op&&decide (0<=c)&&decide (0<=r)&&Om h m&&Om h X.od&&Om h X.fr) (some (.w (.c (.int .i64 0)),Zd3 h t X es c r))
  | _=>none
 | _=>none
def Zno:Kn1:=fun args h=>match args with
 | [.c (.ptr s 0),.c (.int .i64 c),.c (.int .i64 r)]=>(Da h s).bind fun S=>(Uf h S.tx).bind fun X=>(Mj h S.gd).bind fun G=>(Ee h X.rv).bind fun m=>(getM h X.ch).bind fun l=>(Bq c r).bind fun n=>(Bq ((l.length:Int)+c) r).bind fun n2=>Yt (decide (n<=(G.jr:Int) - 1)&&decide (n2<=(G.jr:Int) - 1)&&!X.op&&decide (X.sq<=2147483648)&&Om h m&&Nb l&&Om h X.od&&Om h X.fr) (some (.w (.c (.int .i64 0)),Zd3 (Jm h s S) S.tx X (Y5 l) c r))
 | _=>none
attribute [go_sem] Znj Ztk
section
variable (Hh:Hearts K Tryz.prog)
include Hh
theorem Z1t {args:List W} {h h':Hq} {v:V} (e:Zqo args h=some (v,h')):Zi 125 args h v h':=by
 unfold Zqo at e
 split at e
 ·rename_i m
  obtain⟨l,hl,e⟩:=Zj e
  have hm:=getM_some hl
  obtain⟨bk,e⟩:=Zq.1 e
  unfold Nb at bk
  rw[aQ] at bk
  have hsk:=X8 (l:=l) (fun p hp=>List.all_eq_true.1 bk.1 p hp)
  have kl:=bk.2
  rw[<-Zaq l] at kl
  cases l with
  | nil =>
   cases e
   refine Z1s Hh ?_
   show Yt (Om h m) _=_
   rw[show Om h m=true by unfold Om; rw[hm]; rfl]
   rfl
  | cons p l' =>
   cases e
   rw[<-Zaq (p :: l')]
   have kn:0<(Ml (p :: l')).length:=by rw[Zaq,List.length_cons]; omega
   obtain⟨ks,hks⟩:=xzE (Ml (p :: l'))
   simp only[hks] at hsk kl kn ⊢
   obtain⟨k0,kt,rfl⟩:∃ k0 kt,ks=k0 :: kt:=by
    cases ks with
    | nil=>simp at kn
    | cons a b=>exact⟨a,b,rfl⟩
   obtain⟨l2,hl2⟩:=xzE (p :: l')
   rw[hl2] at hm hsk
   have kl:Nat.ble (kt.length+1) 1000000=true:=kl
   refine Zy.tidy ⟨Tryz.f125,Tryz.func125,kR,by decide⟩ fun tidy=>?_
   have l2:=tidy _ _ hm
   obtain⟨v,h',cc,n',rfl,n1,n2,n3,hk⟩:∃ v h',Zi 125 [.c (.map m)] h v h'/\∃ n',v=.w (.c (.slice n' 0 (k0 :: kt).length 1))/\h.next<=n'/\n'<h'.next/\h'.get n'=some (.row 1 ((k0 :: kt).map fun i=>[.int .i64 i]) false)/\∀ j,j<h.next->h'.get j=h.get j:=by
    refine Y0 Hh Tryz.f125 ?_
    have Jf:=Ju @hm @hsk @kl
    repeat (first|apply Zu|apply Yc|refine Zr Hh (EY (EY Za (Zlg Hh)) (Rn Hh)) Z6 ?_)
    refine⟨_,_,Zf,_,rfl,?_,?_,?_,fun j hj=>by exact Jg⟩
    ·first|omega|(simp only[H.Zb,H.Zc]<;>omega)
    ·first|omega|(simp only[H.Zb,H.Zc]<;>omega)
    ·exact Zf
   exact Zy.row1 cc n1 n3 (List.all_eq_true.2 fun x hx=>by obtain⟨i,_,rfl⟩:=List.mem_map.1 hx; rfl) n2 hk
 ·cases e
theorem Vr {args:List W} {h h':Hq} {v:V} (e:Zi3 args h=some (v,h')):Zi 64 args h v h':=by
 unfold Zi3 at e
 split at e
 ·rename_i t
  obtain⟨X,ht,e⟩:=Zj e
  have ht:=Yk ht
  have e0:Zqo [.c (.map X.ch)] h=some (v,h'):=e
  obtain⟨w,rfl⟩:∃ w,v=.w w:=by
   have e1:=e0
   unfold Zqo at e1
   obtain⟨l,hl,e1⟩:=Zj e1
   obtain⟨b,e1⟩:=Zq.1 e1
   split at e1<;>(cases e1; exact⟨_,rfl⟩)
  clear e
  refine fnG Hh Tryz.f64 ?_
  have Jf:=Jl @ht @e0
  repeat (first|apply Zu|apply Ye|apply Yc|refine Goes.Zl Z6 ?_|refine Zr Hh (EY (EY Za (Uj Hh)) (Z1t Hh)) Z6 ?_)
  exact Zf
 ·cases e
theorem Zxj {args:List W} {h h':Hq} {v:V} (e:Zs1 args h=some (v,h')):Zi 25 args h v h':=by
 unfold Zs1 at e
 split at e
 ·rename_i s a b
  obtain⟨S,hs,e⟩:=Zj e
  have hs:=Y8 hs
  obtain⟨X,hT,e⟩:=Zj e
  have ht:=Yk hT
  obtain⟨m,hr,e⟩:=Zj e
  have hr:=Jk hr
  obtain⟨l,hl,e⟩:=Zj e
  obtain⟨n,hn,e⟩:=Zj e
  obtain⟨bb,e⟩:=Zq.1 e
  cases e
  rw[aQ] at bb
  have hm:=Yz bb.1
  have bk:=bb.2
  obtain⟨a0,a1,r0,r1,_⟩:=Gn hn
  have e1:∀ r,(Yt (Nb l) (match l with
   | []=>some (.w (.c .snil),h)
   | p :: l'=>some (.w (.c (.slice h.next 0 (p :: l').length 1)),h.new (.row 1 ((Ml (p :: l')).map fun i=>[.int .i64 i]) false))))=r->Zi3 [.c (.ptr S.tx 0)] h=r:=fun r hr=>by
   show (Uf h S.tx).bind _=_
   rw[hT]
   show (getM h X.ch).bind _=_
   rw[hl]
   exact hr
  rw[bk] at e1
  refine Zy.tidy ⟨Tryz.f25,Tryz.func25,kR,by decide⟩ fun tidy=>?_
  have l1:=tidy _ _ hs
  have l2:=tidy _ _ ht
  have l3:=tidy _ _ hr
  have l4:=tidy _ _ hm
  cases l with
  | nil =>
   have e2:Zi3 [.c (.ptr S.tx 0)] h=some (.w (.c .snil),h):=e1 _ rfl
   have hn':Bq a b=some n:=by simpa using hn
   obtain⟨b0,b1,_,_,_⟩:=Gn hn'
   refine fnG Hh Tryz.f25 ?_
   have Jf:=El @hs @ht @hr @hm @e2 @hn' @Int.zero_add
   repeat (first|apply Zu|apply Yc|refine Zr Hh (EY (EY (EY Za (Zdx Hh)) (Vr Hh)) (M0 Hh)) Bi ?_)
   exact Zf
  | cons p l' =>
   have e2:Zi3 [.c (.ptr S.tx 0)] h=some (.w (.c (.slice h.next 0 (p :: l').length 1)),h.new (.row 1 ((Ml (p :: l')).map fun i=>[.int .i64 i]) false)):=e1 _ rfl
   have kl:Nat.ble (p :: l').length 1000000=true:=by
    unfold Nb at bk
    rw[aQ] at bk
    exact bk.2
   have kl2:=lQ kl
   obtain⟨L,hL⟩:=xzE ((p :: l').length)
   obtain⟨R,hR⟩:=xzE (((Ml (p :: l')).map fun i=>[C.int .i64 i]))
   have lf:Yx K 40 (.c (.slice h.next 0 L 1))=true:=kR
   rw[hL] at e2 hn kl2 a0 a1
   rw[hR] at e2
   refine X0 rfl ?_
   refine Y0 Hh Tryz.f25 ?_
   have Jf:=Lg @hs @ht @hr @hm @e2 @hn @lf @Int.zero_add
   repeat (first|apply Zu|apply Yc|refine Zr Hh (EY (EY (EY Za (Zdx Hh)) (Vr Hh)) (M0 Hh)) Bi ?_)
   exact⟨_,_,Zf,rfl,fun j hj=>by exact Jg⟩
 ·cases e
theorem Zit {args:List W} {h h':Hq} {v:V} (e:Znj args h=some (v,h')):Zi 69 args h v h':=by
 unfold Znj at e
 split at e
 ·rename_i t q
  obtain⟨X,ht,e⟩:=Zj e
  have ht:=Yk ht
  obtain⟨m,hr,e⟩:=Zj e
  have hr:=Jk hr
  split at e
  ·rename_i es hc
   obtain⟨b,e⟩:=Zq.1 e
   cases e
   simp only[aQ] at b
   obtain⟨⟨b1,b3⟩,b4⟩:=b
   have hm:=Yz b1
   have ho:=Yz b3
   have hf:=Yz b4
   refine Zy.tidy ⟨Tryz.f69,Tryz.func69,kR,by decide⟩ fun tidy=>?_
   have l1:=tidy _ _ ht
   have l2:=tidy _ _ hr
   have l3:=tidy _ _ hm
   have l4:=tidy _ _ hc
   have l5:=tidy _ _ ho
   have l6:=tidy _ _ hf
   refine fnG Hh Tryz.f69 ?_
   have Jf:=Nt @ht @hr @hm @hc @ho @hf
   repeat (first|apply Zu|apply Jc|apply J8|apply Ye|apply Gr|apply Yc|refine Goes.Zl Zfq ?_|refine Zr Hh (EY (EY (EY (EY (EY Za (Vo Hh)) (Zf9 Hh)) (Rk Hh)) (Xx Hh)) (Xy Hh)) Zfq ?_|refine G6 Hh (EY (EY (EY (EY (EY Za (Vo Hh)) (Zf9 Hh)) (Rk Hh)) (Xx Hh)) (Xy Hh)) Zgk ?_)
   simp (maxSteps:=9^6) +decide (disch:=first|exact dZ|fail) only [go_sem,Zk,Zh,simprocAttr,F3]<;>rfl
  ·cases e
 ·cases e
set_option maxHeartbeats 1000000 in
theorem Zxt {args:List W} {h h':Hq} {v:V} (e:Ztk args h=some (v,h')):Zi 28 args h v h':=by
 unfold Ztk at e
 split at e
 ·rename_i t c r
  obtain⟨X,ht,e⟩:=Zj e
  have ht:=Yk ht
  obtain⟨m,hr,e⟩:=Zj e
  have hr:=Jk hr
  split at e
  ·rename_i es hc
   obtain⟨b,e⟩:=Zq.1 e
   cases e
   simp only[aQ,decide_eq_true_eq,Bool.not_eq_true'] at b
   obtain⟨⟨⟨⟨⟨bo,c0⟩,r0⟩,b1⟩,b3⟩,b4⟩:=b
   have hm:=Yz b1
   have ho:=Yz b3
   have hf:=Yz b4
   refine Zy.tidy ⟨Tryz.f28,Tryz.func28,kR,by decide⟩ fun tidy=>?_
   have l1:=tidy _ _ ht
   have l2:=tidy _ _ hr
   have l3:=tidy _ _ hm
   have l4:=tidy _ _ hc
   have l5:=tidy _ _ ho
   have l6:=tidy _ _ hf
   have n2:X.rv≠t:=fun e1=>by rw[e1,ht] at hr; cases hr
   have n3:m≠t:=fun e1=>by rw[e1,ht] at hm; cases hm
   have n4:X.ch≠t:=fun e1=>by rw[e1,ht] at hc; cases hc
   have n5:X.od≠t:=fun e1=>by rw[e1,ht] at ho; cases ho
   have n6:X.fr≠t:=fun e1=>by rw[e1,ht] at hf; cases hf
   refine fnG Hh Tryz.f28 ?_
   repeat (first|apply Zu|apply Jc|apply Ye|apply Yc|((first|apply Goes.Zl|apply Goes.ops2 fits Hh (EY (EY Za (Uj Hh)) (Zit Hh))); · simp (maxSteps:=9^6) +decide (disch:=first|exact dZ|fail) only [go_sem,Zk,Zh,simprocAttr,ht,bo,hr,hm,hc,ho,hf,read1,Z5,F3]<;>rfl)|(apply Goes.drawn2 fits Hh (EY (EY Za (Uj Hh)) (Zit Hh)) kR; · simp (maxSteps:=9^6) +decide (disch:=first|exact dZ|fail) only [go_sem,Zk,Zh,simprocAttr,drG,ht,bo,hr,hm,hc,ho,hf,read1,Z5,F3]<;>rfl))
   simp (maxSteps:=9^6) +decide (disch:=first|exact dZ|fail) only [go_sem,Zk,Zh,simprocAttr,Zd3,F3]<;>rfl
  ·cases e
 ·cases e
set_option maxHeartbeats 4000000 in
theorem Zxp {args:List W} {h h':Hq} {v:V} (e:Zno args h=some (v,h')):Zi 8 args h v h':=by
 unfold Zno at e
 split at e
 ·rename_i s c r
  obtain⟨S,hS,e⟩:=Zj e
  have hs:=Y8 hS
  obtain⟨X,hT,e⟩:=Zj e
  have ht:=Yk hT
  obtain⟨G,hg,e⟩:=Zj e
  obtain⟨hg,fb⟩:=Uz hg
  obtain⟨m,hR,e⟩:=Zj e
  have hr:=Jk hR
  obtain⟨l,hl,e⟩:=Zj e
  have hc:=getM_some hl
  obtain⟨n,hn,e⟩:=Zj e
  obtain⟨n2,hn2,e⟩:=Zj e
  obtain⟨b,e⟩:=Zq.1 e
  cases e
  simp only[aQ,decide_eq_true_eq,Bool.not_eq_true'] at b
  obtain⟨⟨⟨⟨⟨⟨⟨bn,bn2⟩,bo⟩,sq⟩,b1⟩,bk⟩,b3⟩,b4⟩:=b
  have hm:=Yz b1
  have ho:=Yz b3
  have hf:=Yz b4
  have F:=Ya fb
  obtain⟨g1,g2,g3,g4,g5,g6,g7,g8,g9,g10,g11⟩:=F
  have eN:Zs1 [.c (.ptr s 0),.c (.int .i64 c),.c (.int .i64 r)] h=some (.tup [.c (.int .i64 n2),.c (.int .i64 r)],h):=by
   show (Da h s).bind _=_
   rw[hS]
   show (Uf h S.tx).bind _=_
   rw[hT]
   show (Ee h X.rv).bind _=_
   rw[hR]
   show (getM h X.ch).bind _=_
   rw[hl]
   show (Bq _ _).bind _=_
   rw[hn2]
   show Yt (Om h m&&Nb l) _=_
   rw[b1,bk]
   rfl
  refine Zy.tidy ⟨Tryz.f8,Tryz.func8,kR,by decide⟩ fun tidy=>?_
  have l1:=tidy _ _ ht
  have l2:=tidy _ _ hr
  have l3:=tidy _ _ hm
  have l4:=tidy _ _ hc
  have l5:=tidy _ _ ho
  have l6:=tidy _ _ hf
  have l7:=tidy _ _ hs
  have l8:=tidy _ _ hg
  have n1:S.tx≠s:=fun e1=>by rw[e1,hs] at ht; cases ht
  have n2:X.rv≠s:=fun e1=>by rw[e1,hs] at hr; cases hr
  have n3:m≠s:=fun e1=>by rw[e1,hs] at hm; cases hm
  have n4:X.ch≠s:=fun e1=>by rw[e1,hs] at hc; cases hc
  have n5:X.od≠s:=fun e1=>by rw[e1,hs] at ho; cases ho
  have n6:X.fr≠s:=fun e1=>by rw[e1,hs] at hf; cases hf
  obtain⟨c0,c1,r0,r1,nn⟩:=Gn hn
  refine fnG Hh Tryz.f8 ?_
  repeat (first|apply Zu|apply Ye|apply Yc|((first|apply Goes.Zl|apply Goes.ops2 fits Hh (EY (EY (EY (EY (EY (EY (EY Za (Oa Hh)) (Zqs Hh)) (Za8 Hh)) (M0 Hh)) (Zxj Hh)) (Oe Hh)) (Zxt Hh))); · simp (maxSteps:=9^6) +decide (disch:=first|exact dZ|fail) only [go_sem,Zk,Zh,simprocAttr,hn,eN,hs,ht,bo,hg,gdL,fb,hr,hm,hc,ho,hf,read1]<;>rfl))
  simp (maxSteps:=9^6) +decide (disch:=first|exact dZ|fail) only [go_sem,Zk,Zh,simprocAttr,Jm]<;>rfl
 ·cases e
end
noncomputable def q10 (p:Lq):Code:=piece p (Ug Tryz.f10)
theorem rs10:Tryz.f10.results.toList=[.tmp 2]:=rfl
attribute [go_sem] rs10
def Zd7 (h:Hq) (s:Nat) (S:Stt) (X:Tx):Hq:=Zl9 (Jm ((h.new (.row 1 [[.map S.gv]] false)).new (.row 1 [[.map S.dt]] false)) s S) S.tx X
def Znr:Kn1:=fun args h=>match args with
 | [.c (.ptr s 0)]=>(Da h s).bind fun S=>(Uf h S.tx).bind fun X=>(Mj h S.gd).bind fun _=>Yt (X.op&&Om h S.dt&&Om h S.gv) (some (.w (.c (.int .i64 0)),Zd7 h s S X))
 | _=>none
section
variable (Hh:Hearts K Tryz.prog)
include Hh
theorem Zxr {args:List W} {h h':Hq} {v:V} (e:Znr args h=some (v,h')):Zi 10 args h v h':=by
 unfold Znr at e
 split at e
 ·rename_i s
  obtain⟨S,hs,e⟩:=Zj e
  have hs:=Y8 hs
  obtain⟨X,ht,e⟩:=Zj e
  have ht:=Yk ht
  obtain⟨G,hg,e⟩:=Zj e
  obtain⟨hg,fb⟩:=Uz hg
  obtain⟨b,e⟩:=Zq.1 e
  cases e
  simp only[aQ] at b
  obtain⟨⟨bo,b1⟩,b2⟩:=b
  have hl:=Yz b1
  have hv:=Yz b2
  refine Zy.tidy ⟨Tryz.f10,Tryz.func10,kR,by decide⟩ fun tidy=>?_
  have l1:=tidy _ _ hs
  have l2:=tidy _ _ ht
  have l3:=tidy _ _ hl
  have l4:=tidy _ _ hv
  have l5:=tidy _ _ hg
  have n1:S.tx≠s:=fun e1=>by rw[e1,hs] at ht; cases ht
  have n2:S.dt≠s:=fun e1=>by rw[e1,hs] at hl; cases hl
  have n3:S.gv≠s:=fun e1=>by rw[e1,hs] at hv; cases hv
  refine fnG Hh Tryz.f10 ?_
  repeat (first|apply Zu|apply Jc|apply J8|apply Ye|apply Gr|apply Yc|((first|apply Goes.Zl|apply Goes.ops2 fits Hh (EY (EY (EY (EY (EY (EY (EY (EY Za (Vp Hh)) (Za4 Hh)) (Rn Hh)) (Za3 Hh)) (Zir Hh)) (Zi5 Hh)) (Oe Hh)) (Zdv Hh))); · simp (maxSteps:=9^6) +decide (disch:=first|exact dZ|fail) only [go_sem,Zk,Zh,simprocAttr,hs,ht,bo,hg,gdL,fb,hl,hv,G5,read1,Zt,J5]<;>rfl)|(apply Goes.drawn2 fits Hh (EY (EY (EY (EY (EY (EY (EY (EY Za (Vp Hh)) (Za4 Hh)) (Rn Hh)) (Za3 Hh)) (Zir Hh)) (Zi5 Hh)) (Oe Hh)) (Zdv Hh)) kR; · simp (maxSteps:=9^6) +decide (disch:=first|exact dZ|fail) only [go_sem,Zk,Zh,simprocAttr,drG,hs,ht,bo,hg,gdL,fb,hl,hv,G5,read1,Zt,J5]<;>rfl))
  simp (maxSteps:=9^6) +decide (disch:=first|exact dZ|fail) only [go_sem,Zk,Zh,simprocAttr,Zd7,Jm]<;>rfl
 ·cases e
end
abbrev Cr.cl (ch:Lq):Cr:=⟨0,0,false,ch,[],[],0⟩
section
variable {n d d1 d2 q a b c e:Nat} {md:Int} {cr:Cr} {L:List (List C)} {h:Hq} {S T:Lq} {V:Nat->Lq}
theorem ClD.closed (M:ClD n d d1 d2 a b c e md L h) (see:∀ z,z<2+e+a * b->Uu a b c e (z:Int)=true->(V z).length=256/\L[z]? = some (pgL (V z))):HE n (n+14) a b c e (Cr.cl []) md [] [] V h:=by
 obtain⟨f1,f2,f3,l1,l2,f4,f5,f6,f7,f8,f9,f10,f11,f12,f13,f14,f15,f16,f17,f18,f19⟩:=M
 refine⟨d,d1,d2,false,[],[],[],[],L,rfl,Zk4 see,rfl,rfl,rfl,(fun _ _ e=>by cases e),rfl,(fun _ _ e=>by cases e),⟨(fun o=>by cases o),rfl,(fun _ _ e=>by cases e)⟩,(fun _ _ e=>by cases e),fun z z1 hz=>⟨(see z z1 hz).1,.inr ⟨rfl,.inr ⟨rfl,(see z z1 hz).2⟩⟩⟩,⟨f1,f2,Nat.le_refl _,oM,l1,l2,f4,f5,f6,f7,f8,f9,Xb.2 f17,Nh.2 f11,f12,f13,Xm.2 f14,f16,(fun o=>by cases o),f10,f15,(fun o=>by cases o),f18,f19⟩⟩
theorem Zsc {k m:Nat} {x r s:Int} (h:Bq ((m:Int)+x) r=some s) (hk:k<=m) (x0:0<x):∃ s',Bq ((k:Int)+x) r=some s'/\s'<=s:=by
 obtain⟨a1,a2,a3,a4,rfl⟩:=Gn h
 refine⟨(k:Int)+x+((k:Int)+x+30 - 1) / 30+(r+60 - 1) / 60+1,?_,oM⟩
 unfold Bq
 rw[decide_eq_true oM,decide_eq_true oM,decide_eq_true a3,decide_eq_true a4]
 rfl
theorem Zob {m:Nat} {cr':Cr} {kn:Bool} {es:List (W × W)} {X:Tx} (nx:n+23<=h.next) (hm:m<h.next) (m1:m≠n+13) (m2:m≠n+20):(Zd3 (Jm h (n+13) (stH n q cr kn)) (n+20) X es cr'.c cr'.r).get m=h.get m:=by
 unfold Zd3 F3 Jm
 simp (discharger:=omega) only [H.get_put,H.Zg,H.Zc,H.Zb,if_neg]
theorem Zul {l:Ut} {C:Lq} (hu:Rp l=true) (hs:∀ z y,Ym z l=some y->∃ k∈C,z=(k:Nat)) (hC:∀ k∈C,k<4096) (cl:C.length<=4096):Nb l=true/\l.length<=C.length:=by
 have kb:=Zap hu hs
 refine⟨?_,kb⟩
 unfold Nb
 rw[Nat.ble_eq_true_of_le oM,Bool.and_true]
 refine List.all_eq_true.2 fun p hp=>?_
 have:(Ym p.1 l).isSome=true:=Zkp.1 (by
  clear hs kb hu
  induction l with
  | nil=>cases hp
  | cons x l ih =>
   rw[Ml,Zhr]
   rcases List.mem_cons.1 hp with w|w
   ·exact .inl (by rw[w])
   ·exact .inr (ih w))
 obtain⟨y,hy⟩:=Option.isSome_iff_exists.1 this
 obtain⟨k,hk,e⟩:=hs _ _ hy
 have:=hC k hk
 unfold Dz
 rw[e,decide_eq_true oM,decide_eq_true oM]
 rfl
theorem HE.beg {ch:Lq} (M:HE n q a b c e (Cr.cl ch) md S [] V h) (fb:Y1 a b c e=true) {x r s1 s2:Int} {C S':Lq} (hC:∀ k∈ch++S,k∈C) (C4:∀ k∈C,k<4096) (cl:C.length<=4096) (z1:Bq x r=some s1) (y1:s1<=(e:Int) - 1) (z2:Bq ((C.length:Int)+x) r=some s2) (y2:s2<=(e:Int) - 1) (hS:(S'.length:Int)<=x) :
  ∃ h',Zno [.c (.ptr (n+13) 0),.c (.int .i64 x),.c (.int .i64 r)] h=some (.w (.c (.int .i64 0)),h')/\HE n h.next a b c e (Cr.on x r C) md S' [] V h'/\h.next<=h'.next/\∀ m,m<h.next->m≠n+13->m≠n+20->h'.get m=h.get m:=by
 obtain⟨d,d1,d2,kn,ld,lt,lc,lm,L,fl,sn,ft,fc,t5,vt,t7,t8,t9,tT,see,M⟩:=M
 obtain⟨f1,f2,f3,f4,l1,l2,f5,f6,f7,f8,f9,f10,f11,f12,f13,f14,f15,f16,f17,f18,f19,f20,f21,f22⟩:=M
 obtain rfl:ld=[]:=by
  cases ld with
  | nil=>rfl
  | cons p l =>
   obtain⟨k,hk,_⟩:=tT p.1 p.2 (by show (bif p.1 == p.1 then some p.2 else Ym p.1 l)=_; rw[O7 rfl]; rfl)
   cases hk
 have f11':=f11
 have f12':=f12
 have f15':=f15
 have f11:=Xb.1 f11'
 have f12:=Nh.1 f12'
 have f15:=Xm.1 f15'
 have hc':∀ z y,Ym z lc=some y->∃ k∈C,z=(k:Nat):=fun z y hz=>by
  obtain⟨k,hk,e⟩:=t9.2.2 z y hz
  exact⟨k,hC k hk,e⟩
 obtain⟨ko,kb⟩:=Zul t9.2.1 hc' C4 cl
 obtain⟨x0,_,_,_,_⟩:=Gn z1
 obtain⟨s3,z3,y3⟩:=Zsc z2 kb x0
 have y1':decide (s1<=(e:Int) - 1)=true:=decide_eq_true y1
 have y3':decide (s3<=(e:Int) - 1)=true:=decide_eq_true oM
 have n23:n+23<=h.next:=oM
 refine⟨_,by unfold Zno; simp (maxSteps:=9^6) +decide (disch:=first|exact dZ|fail) only [go_sem,Zk,Zh,simprocAttr,f19,f5,f6,gdL,gdD,f14,f21,fb,z1,z3,y1',y3',f15,f13,f12,ko]<;>rfl,⟨d,d1,d2,false,[],[],lc,lm,L,fl,sn,rfl,fc,rfl,(fun _ _ e=>by cases e),rfl,(fun _ _ e=>by cases e),⟨fun _=>hS,t9.2.1,fun z y hz=>by obtain⟨k,hk,e⟩:=hc' z y hz; exact⟨k,List.mem_append_left _ hk,e⟩⟩,tT,fun z z1 hz=>see z z1 hz,?_⟩,?_,fun m hm m1 m2=>Zob n23 hm m1 m2 (cr':=Cr.on x r C) (es:=Y5 lc)⟩
 ·have old:∀ {m:Nat} {o:O},h.get m=some o->m<h.next->m≠n+13->m≠n+20->(Zd3 (Jm h (n+13) (stH n q (Cr.cl ch) kn)) (n+20) (txH n q (Cr.cl ch)) (Y5 lc) x r).get m=some o:=fun e hm m1 m2=>(Zob n23 hm m1 m2 (cr':=Cr.on x r C)).trans e
  refine⟨old f1 oM oM oM,f2,oM,?_,l1,l2,?_,old f6 oM oM oM,old f7 oM oM oM,old f8 oM oM oM,old f9 oM oM oM,old f10 oM oM oM,Xb.2 ?_,Nh.2 (old f12 oM oM oM),old f13 oM oM oM,old f14 oM oM oM,Xm.2 (old f15 oM oM oM),?_,fun _=>n23,old f18 oM oM oM,?_,fun _=>?_,old f21 oM oM oM,old f22 oM oM oM⟩
  ·unfold Zd3 F3 Jm; simp only[H.Zc,H.Zb]; omega
  ·unfold Zd3 F3 Jm; simp (discharger:=omega) only [H.get_put,H.Zg,H.Zc,H.Zb,if_neg,if_pos]; rfl
  ·show H.get _ (h.next+1)=_; unfold Zd3 F3 Jm; simp (discharger:=omega) only [H.get_put,H.Zg,H.Zc,H.Zb,if_neg,if_pos,if_true]
  ·show H.get _ h.next=_; unfold Zd3 F3 Jm; simp (discharger:=omega) only [H.get_put,H.Zg,H.Zc,H.Zb,if_neg,if_pos,if_true]; rfl
  ·unfold Zd3 F3 Jm; simp (discharger:=omega) only [H.get_put,H.Zg,H.Zc,H.Zb,if_neg,if_pos]; rfl
  ·unfold Zd3 F3 Jm; simp (discharger:=omega) only [H.get_put,H.Zg,H.Zc,H.Zb,if_neg,if_pos,if_true]; rfl
 ·unfold Zd3 F3 Jm; simp only[H.Zb,H.Zc]; omega
theorem Zy1 {m:Nat} {St:Stt} {X:Tx} (nx:n+23<=h.next) (hm:m<h.next) (m1:m≠n+13) (m2:m≠n+20):(Zd7 h (n+13) St (X)).get m=h.get m\/St.tx≠n+20:=by
 by_cases e:St.tx=n+20
 ·left
  unfold Zd7
  rw[U5,e,if_neg m2]
  unfold Jm
  simp (discharger:=omega) only [H.get_put,H.Zg,H.Zc,H.Zb,if_neg]
 ·exact .inr e
theorem HE.fin [Opn cr] (M:HE n q a b c e cr md S [] V h) (fb:Y1 a b c e=true) {C:Lq} (hC:∀ k∈cr.ch++S,k∈C) :
  ∃ h',Znr [.c (.ptr (n+13) 0)] h=some (.w (.c (.int .i64 0)),h')/\HE n (h.next - 5) a b c e (Cr.cl C) md [] [] V h'/\h.next+4<=h'.next/\∀ m,m<h.next->m≠n+13->m≠n+20->h'.get m=h.get m:=by
 obtain⟨d,d1,d2,kn,ld,lt,lc,lm,L,fl,sn,ft,fc,t5,vt,t7,t8,t9,tT,see,M⟩:=M
 obtain⟨f1,f2,f3,f4,l1,l2,f5,f6,f7,f8,f9,f10,f11,f12,f13,f14,f15,f16,f17,f18,f19,f20,f21,f22⟩:=M
 obtain rfl:ld=[]:=by
  cases ld with
  | nil=>rfl
  | cons p l =>
   obtain⟨k,hk,_⟩:=tT p.1 p.2 (by show (bif p.1 == p.1 then some p.2 else Ym p.1 l)=_; rw[O7 rfl]; rfl)
   cases hk
 rw[Z0a (cr:=cr)] at f11 f12
 rw[Z7p (cr:=cr)] at f15
 have f11:=Xb.1 f11
 have f12:=Nh.1 f12
 have f15:=Xm.1 f15
 have hc':∀ z y,Ym z lc=some y->∃ k∈C++[],z=(k:Nat):=fun z y hz=>by
  obtain⟨k,hk,e⟩:=t9.2.2 z y hz
  exact⟨k,by rw[List.append_nil]; exact hC k hk,e⟩
 have n23:n+23<=h.next:=oM
 have tx0:(stH n q cr kn).tx=n+20:=rfl
 have ng:∀ m,m<h.next->m≠n+13->m≠n+20->(Zd7 h (n+13) (stH n q cr kn) (txH n q cr)).get m=h.get m:=fun m hm m1 m2=>(Zy1 n23 hm m1 m2).resolve_right (fun w=>w rfl)
 have old:∀ {m:Nat} {o:O},h.get m=some o->m<h.next->m≠n+13->m≠n+20->(Zd7 h (n+13) (stH n q cr kn) (txH n q cr)).get m=some o:=fun e hm m1 m2=>(ng _ hm m1 m2).trans e
 refine⟨Zd7 h (n+13) (stH n q cr kn) (txH n q cr),by unfold Znr; simp (maxSteps:=9^6) +decide (disch:=first|exact dZ|fail) only [go_sem,Zk,Zh,simprocAttr,f19,f5,f6,gdL,gdD,fb,f16,f11]<;>rfl,⟨d,d1,d2,false,[],[],lc,lm,L,fl,sn,rfl,fc,rfl,(fun _ _ e=>by cases e),rfl,(fun _ _ e=>by cases e),⟨(fun o=>by cases o),t9.2.1,hc'⟩,(fun _ _ e=>by cases e),see,?_⟩,?_,ng⟩
 ·refine⟨old f1 oM oM oM,f2,oM,?_,l1,l2,?_,old f6 oM oM oM,old f7 oM oM oM,old f8 oM oM oM,old f9 oM oM oM,old f10 oM oM oM,Xb.2 ?_,Nh.2 (old f12 oM oM oM),old f13 oM oM oM,old f14 oM oM oM,Xm.2 (old f15 oM oM oM),?_,(fun o=>by cases o),old f18 oM oM oM,?_,(fun o=>by cases o),old f21 oM oM oM,old f22 oM oM oM⟩
  ·unfold Zd7 Zl9 Jm; simp only[H.Zc,H.Zb]; omega
  ·unfold Zd7; rw[U5,tx0,if_pos rfl]; rfl
  ·show H.get _ (h.next - 5+7+1)=_
   unfold Zd7
   rw[U5,tx0,if_neg (show h.next - 5+7+1≠n+20 by omega)]
   unfold Jm; simp (discharger:=omega) only [H.get_put,H.Zg,H.Zc,H.Zb,if_neg,if_pos,if_true]
  ·show H.get _ (h.next - 5+7)=_
   unfold Zd7
   rw[U5,tx0,if_neg (show h.next - 5+7≠n+20 by omega)]
   unfold Jm; simp (discharger:=omega) only [H.get_put,H.Zg,H.Zc,H.Zb,if_neg,if_pos,if_true]; rfl
  ·unfold Zd7
   rw[U5,tx0,if_neg (show n+13≠n+20 by omega)]
   unfold Jm; simp (discharger:=omega) only [H.get_put,H.Zg,H.Zc,H.Zb,if_neg,if_pos,if_true]
   show some (O.row 8 [stL ⟨n+12,n+20,h.next+2,h.next+3,.snil,false⟩] false)=some (O.row 8 [stL ⟨n+12,n+20,h.next - 5+7,h.next - 5+7+1,.snil,false⟩] false)
   rw[show h.next - 5+7=h.next+2 by omega]
 ·unfold Zd7 Zl9 Jm; simp only[H.Zc,H.Zb]; omega
theorem HE.widen {a b c e:Nat} {ch C S T:Lq} (M:HE n q a b c e (Cr.cl ch) md S T V h) (hC:∀ k∈ch,k∈C):HE n q a b c e (Cr.cl C) md S T V h:=by
 obtain⟨d,d1,d2,kn,ld,lt,lc,lm,L,f1,f2,f3,f4,f5,f6,f7,f8,f9,f10,f11,M⟩:=M
 obtain⟨g1,g2,g3,g4,l1,l2,g5,g6,g7,g8,g9,g10,g11,g12,g13,g14,g15,g16,g17,g18,g19,g20,g21,g22⟩:=M
 refine⟨d,d1,d2,kn,ld,lt,lc,lm,L,f1,f2,f3,f4,f5,f6,f7,f8,⟨(fun o=>by cases o),f9.2.1,fun z y hz=>?_⟩,f10,f11,⟨g1,g2,g3,g4,l1,l2,g5,g6,g7,g8,g9,g10,g11,g12,g13,g14,g15,g16,(fun o=>by cases o),g18,g19,(fun o=>by cases o),g21,g22⟩⟩
 obtain⟨k,hk,e⟩:=f9.2.2 z y hz
 exact⟨k,List.mem_append.2 ((List.mem_append.1 hk).imp (hC k) id),e⟩
theorem HE.Z5r {a b c e:Nat} {ch S T:Lq} {h2:Hq} (M:HE n q a b c e (Cr.cl ch) md S T V h) (hx:h.next<=h2.next) (k:∀ m,m<n+23\/q+7<=m/\m<q+9->h2.get m=h.get m):HE n q a b c e (Cr.cl ch) md S T V h2:=by
 obtain⟨d,d1,d2,kn,ld,lt,lc,lm,L,f1,f2,f3,f4,f5,f6,f7,f8,f9,f10,f11,M⟩:=M
 obtain⟨g1,g2,g3,g4,l1,l2,g5,g6,g7,g8,g9,g10,g11,g12,g13,g14,g15,g16,g17,g18,g19,g20,g21,g22⟩:=M
 refine⟨d,d1,d2,kn,ld,lt,lc,lm,L,f1,f2,f3,f4,f5,f6,f7,f8,f9,f10,f11,⟨(k _ oM).trans g1,g2,g3,oM,l1,l2,(k _ oM).trans g5,(k _ oM).trans g6,(k _ oM).trans g7,(k _ oM).trans g8,(k _ oM).trans g9,(k _ oM).trans g10,(by rw[show dtN q (Cr.cl ch)+1=q+7+1 from rfl,k (q+7+1) oM]; exact g11),(by rw[k _ oM]; exact g12),(k _ oM).trans g13,(k _ oM).trans g14,(by rw[k _ oM]; exact g15),(k (q+7) oM).trans g16,g17,(k _ oM).trans g18,(k _ oM).trans g19,(fun o=>by cases o),(k _ oM).trans g21,(k _ oM).trans g22⟩⟩
end
end
end Go.Proofs.YteiljiijagmonaaGreatDoor
