/- A store that is new, its disk anywhere; Begin over it. -/
import Derived.Test.YtmanipmhebgdbaaGreatDoorPge
set_option maxRecDepth 100000
set_option maxHeartbeats 4000000
set_option linter.unusedSimpArgs false
set_option linter.unusedVariables false
set_option linter.unusedSectionVars false
namespace Go.Proofs.YtmanipmhebgdbaaGreatDoor
open Go.Ev
noncomputable section
def stO (n:Nat):Stt:=⟨n+12,n+20,n+21,n+22,.snil,false⟩
def txO (n:Nat):Tx:=⟨n+15,n+16,n+17,n+19,1,false,0,0,.mnil,.mnil,.mnil,.mnil,.pnil⟩
structure ClD (n d d1 d2 a b c e:Nat) (md:Int) (L:List (List C)) (h:Hq):Prop where
 st:h.get 0=some Bt
 n0:0<n
 nx:n+23<=h.next
 l1:d<n+5
 l2:d2<n+5
 ht:h.get (n+20)=some (.row 13 [txL (txO n)] false)
 hg:h.get (n+12)=some (.row 9 [gdL ⟨a,b,c,e,md,d,n+8,n+9,n+11⟩] false)
 hc:h.get (n+8)=some (.row 3 [ckL ⟨d,n+6,n+7⟩] false)
 hd:h.get d=some (.row 6 [dkL ⟨d1,d2,2+e+a * b,.snil,0,0⟩] false)
 hq:h.get d2=some (.row 256 L false)
 hli:h.get (n+11)=some (.row 8 [[.bool true,.int .i64 (a:Int),.int .i64 (b:Int),.int .i64 (c:Int),.int .i64 (e:Int),.bool false,.int .u32 0,.snil]] false)
 hm:h.get (n+6)=some (.map [])
 hfr:h.get (n+17)=some (.map [])
 hod:h.get (n+16)=some (.map [])
 hrv:h.get (n+19)=some (.row 1 [[.map (n+18)]] false)
 hrc:h.get (n+18)=some (.map [])
 hs:h.get (n+13)=some (.row 8 [stL (stO n)] false)
 hdt:h.get (n+21)=some (.map [])
 hgv:h.get (n+22)=some (.map [])
 hch:h.get (n+15)=some (.map [])
theorem ClD.keep {n d d1 d2 a b c e:Nat} {md:Int} {L:List (List C)} {h h2:Hq} (M:ClD n d d1 d2 a b c e md L h) (hx:h.next<=h2.next) (k:∀ m,m<n+23->h2.get m=h.get m):ClD n d d1 d2 a b c e md L h2:=by
 obtain⟨f1,f2,f3,l1,l2,f4,f5,f6,f7,f8,f9,f10,f11,f12,f13,f14,f15,f16,f17,f18⟩:=M
 refine⟨?_,f2,oM,l1,l2,?_,?_,?_,?_,?_,?_,?_,?_,?_,?_,?_,?_,?_,?_,?_⟩
 all_goals (rw[k _ oM]; assumption)
theorem ClD.but {n d d1 d2 a b c e w:Nat} {md:Int} {L:List (List C)} {h h2:Hq} (M:ClD n d d1 d2 a b c e md L h) (hx:h.next<=h2.next) (wl:w<n+5/\w≠d/\w≠d2/\0<w) (k:∀ m,m<n+23->m≠w->h2.get m=h.get m):ClD n d d1 d2 a b c e md L h2:=by
 obtain⟨f1,f2,f3,l1,l2,f4,f5,f6,f7,f8,f9,f10,f11,f12,f13,f14,f15,f16,f17,f18⟩:=M
 refine⟨?_,f2,oM,l1,l2,?_,?_,?_,?_,?_,?_,?_,?_,?_,?_,?_,?_,?_,?_,?_⟩
 all_goals (rw[k _ oM oM]; assumption)
theorem Yd6 {h:Hq} (l5:6<=h.next) (hst:h.get 0=some Bt) {d d1 d2 a b c e:Nat} {L:List (List C)} (ld:d<h.next) (ld2:d2<h.next) (hd:h.get d=some (.row 6 [dkL ⟨d1,d2,2+e+a * b,.snil,0,0⟩] false)) (hq:h.get d2=some (.row 256 L false)) (md:Int):ClD (h.next - 5) d d1 d2 a b c e md L (Qc h d a b c e md 1)/\h.next<=(Qc h d a b c e md 1).next/\∀ m,m<h.next->(Qc h d a b c e md 1).get m=h.get m:=by
 have kk:∀ m,m<h.next->(Qc h d a b c e md 1).get m=h.get m:=fun m hm=>by
  unfold Qc
  simp (discharger:=omega) only [H.get_put,H.Zp,H.Ze,H.Zf,if_neg]
 obtain⟨n,hn⟩:∃ n,h.next=n+5:=⟨h.next - 5,oM⟩
 rw[show h.next - 5=n by omega]
 refine⟨⟨(kk 0 oM).trans hst,?_,?_,oM,oM,?_,?_,?_,(kk d ld).trans hd,(kk d2 ld2).trans hq,?_,?_,?_,?_,?_,?_,?_,?_,?_,?_⟩,?_,kk⟩
 ·omega
 ·unfold Qc; simp only[H.Zf,H.Ze]; omega
 all_goals (unfold Qc; first|(simp only[H.Zf,H.Ze]; omega)|(simp (discharger:=omega) only [H.get_put,H.Zp,H.Ze,H.Zf,hn,if_neg,if_pos,if_true]; rfl)|(simp (discharger:=omega) only [H.get_put,H.Zp,H.Ze,H.Zf,hn,if_neg,if_pos,if_true]))
def Zhf (n:Nat) (h:Hq) (cr:Cr):Hq:=Zmy (Uz h (n+13) (stO n)) (n+20) (txO n) cr.c cr.r
theorem Bz {n m:Nat} {h:Hq} (nx:n+23<=h.next) (hm:m<h.next) (m1:m≠n+13) (m2:m≠n+20) (cr:Cr):(Zhf n h cr).get m=h.get m:=by
 unfold Zhf Zmy Qu Uz
 simp (discharger:=omega) only [H.get_put,H.Zp,H.Ze,H.Zf,if_neg]
section
variable {n d d1 d2 a b c e:Nat} {md:Int} {cr:Cr} {L:List (List C)} {h h2:Hq}
theorem ClD.beg (M:ClD n d d1 d2 a b c e md L h) (fb:Yu a b c e=true) {s:Int} (sz:Re cr.c cr.r=some s) (sj:s<=(e:Int) - 1):Zow [.c (.ptr (n+13) 0),.c (.int .i64 cr.c),.c (.int .i64 cr.r)] h=some (.w (.c (.int .i64 0)),Zhf n h cr):=by
 obtain⟨f1,f2,f3,l1,l2,f4,f5,f6,f7,f8,f9,f10,f11,f12,f13,f14,f15,f16,f17,f18⟩:=M
 have s9:decide (s<=(e:Int) - 1)=true:=decide_eq_true sj
 unfold Zow Zhf
 simp (maxSteps:=9^6) +decide (disch:=first|exact dZ|fail) only [go_sem,Zm,Zh,simprocAttr,f15,stO,f4,txO,f5,gdL,f12,f13,f14,f11,f18,fb,sz,s9]<;>rfl
theorem ClD.begun [Opn cr] (M:ClD n d d1 d2 a b c e md L h) {S:Lq} {V:Nat->Lq} (Sc:(S.length:Int)<=cr.c) (see:∀ z,z<2+e+a * b->Bp a b c e (z:Int)=true->(V z).length=256/\L[z]? = some (pgL (V z))):HE n h.next a b c e cr md S [] V (Zhf n h cr):=by
 have oc:cr.o=true:=opn
 obtain⟨x,r,o,ch⟩:=cr
 obtain rfl:o=true:=oc
 obtain⟨f1,f2,f3,l1,l2,f4,f5,f6,f7,f8,f9,f10,f11,f12,f13,f14,f15,f16,f17,f18⟩:=M
 refine⟨d,d1,d2,false,[],[],[],[],L,rfl,Zre L,rfl,rfl,rfl,(fun _ _ e=>by cases e),rfl,(fun _ _ e=>by cases e),⟨fun _=>Sc,rfl,(fun _ _ e=>by cases e)⟩,(fun _ _ e=>by cases e),fun z z1 hz=>⟨(see z z1 hz).1,.inr ⟨rfl,.inr ⟨rfl,(see z z1 hz).2⟩⟩⟩,?_,f2,oM,?_,l1,l2,?_,?_,?_,?_,?_,?_,?_,?_,?_,?_,?_,?_,?_,?_,?_,?_,?_⟩
 ·rw[Bz f3 oM oM oM]; exact f1
 ·unfold Zhf Zmy Qu Uz; simp only[H.Ze,H.Zf]; omega
 ·unfold Zhf Zmy Qu Uz; simp (discharger:=omega) only [H.get_put,H.Zp,H.Ze,H.Zf,if_neg,if_pos]; rfl
 ·rw[Bz f3 oM oM oM]; exact f5
 ·rw[Bz f3 oM oM oM]; exact f6
 ·rw[Bz f3 oM oM oM]; exact f7
 ·rw[Bz f3 oM oM oM]; exact f8
 ·rw[Bz f3 oM oM oM]; exact f9
 ·show H.get _ (h.next+1)=_; unfold Zhf Zmy Qu Uz; simp (discharger:=omega) only [H.get_put,H.Zp,H.Ze,H.Zf,if_neg,if_pos,if_true]
 ·rw[Bz f3 oM oM oM]; exact f11
 ·rw[Bz f3 oM oM oM]; exact f12
 ·rw[Bz f3 oM oM oM]; exact f13
 ·rw[Bz f3 oM oM oM]; exact f14
 ·show H.get _ h.next=_; unfold Zhf Zmy Qu Uz; simp (discharger:=omega) only [H.get_put,H.Zp,H.Ze,H.Zf,if_neg,if_pos,if_true]; rfl
 ·exact fun _=>f3
 ·rw[Bz f3 oM oM oM]; exact f10
 ·unfold Zhf Zmy Qu Uz; simp (discharger:=omega) only [H.get_put,H.Zp,H.Ze,H.Zf,if_neg,if_pos]; rfl
 ·intro _; unfold Zhf Zmy Qu Uz; simp (discharger:=omega) only [H.get_put,H.Zp,H.Ze,H.Zf,if_neg,if_pos,if_true]; rfl
 ·rw[Bz f3 oM oM oM]; exact f18
end
def Wj (l:G9):Bool:=l.all (fun p=>Rn p.1)&&Nat.ble l.length 1000000
def Zrz:Kn1:=fun args h=>match args with
 | [.c (.map m)]=>(getM h m).bind fun l=>Y5 (Wj l) (match l with
  | []=>some (.w (.c .snil),h)
  | p :: l'=>some (.w (.c (.slice h.next 0 (p :: l').length 1)),h.new (.row 1 ((Tp (p :: l')).map fun i=>[.int .i64 i]) false)))
 | _=>none
def Zr1:Kn1:=fun args h=>match args with
 | [.c (.ptr t 0)]=>(Ov h t).bind fun X=>Zrz [.c (.map X.ch)] h
 | _=>none
def Zuo:Kn1:=fun args h=>match args with
 | [.c (.ptr s 0),.c (.int .i64 a),.c (.int .i64 b)]=>(G6 h s).bind fun S=>(Ov h S.tx).bind fun X=>(Si h X.rv).bind fun m=>(getM h X.ch).bind fun l=>(Re ((l.length:Int)+a) b).bind fun n=>Y5 (Gh h m&&Wj l) (some (.tup [.c (.int .i64 n),.c (.int .i64 b)],h))
 | _=>none
def Lg (h:Hq) (es:List (W × W)):Hq:=((((((h.new (.row 4 [[.mnil,.mnil,.mnil,.pnil]] false)).new (.map [])).new (.row 1 [[.map (h.next+1)]] false)).new (.map es)).new (.map [])).new (.map [])).put h.next (.row 4 [[.map (h.next+1+1+1),.map (h.next+1+1+1+1),.map (h.next+1+1+1+1+1),.ptr (h.next+1+1) 0]] false)
def Zoo:Kn1:=fun args h=>match args with
 | [.c (.ptr t 0),.c (.int .u32 _)]=>(Ov h t).bind fun X=>(Si h X.rv).bind fun m=>match h.get X.ch with
  | some (.map es)=>Y5 (Gh h m&&Gh h X.od&&Gh h X.fr) (some (.w (.g [.map (h.next+1+1+1),.map (h.next+1+1+1+1),.map (h.next+1+1+1+1+1),.ptr (h.next+1+1) 0]),Lg h es))
  | _=>none
 | _=>none
def Zec (h:Hq) (t:Nat) (X:Tx) (es:List (W × W)) (c r:Int):Hq :=
 (Lg ((((((h.put t (.row 13 [txL { X with op:=true }] false)).put t (.row 13 [txL { X with op:=true,cr:=c }] false)).put t (.row 13 [txL { X with op:=true,cr:=c,rk:=r }] false)).new (.map [])).put t (.row 13 [txL { X with op:=true,cr:=c,rk:=r,to:=.map h.next }] false))) es).put t (.row 13 [txL { X with op:=true,cr:=c,rk:=r,to:=.map h.next,b1:=.map (h.next+1+1+1+1),b2:=.map (h.next+1+1+1+1+1),b3:=.map (h.next+1+1+1+1+1+1),b4:=.ptr (h.next+1+1+1) 0 }] false)
def Zu5:Kn1:=fun args h=>match args with
 | [.c (.ptr t 0),.c (.int .i64 c),.c (.int .i64 r)]=>(Ov h t).bind fun X=>(Si h X.rv).bind fun m=>match h.get X.ch with
  | some (.map es)=>Y5 (!X.op&&decide (0<=c)&&decide (0<=r)&&Gh h m&&Gh h X.od&&Gh h X.fr) (some (.w (.c (.int .i64 0)),Zec h t X es c r))
  | _=>none
 | _=>none
def Zov:Kn1:=fun args h=>match args with
 | [.c (.ptr s 0),.c (.int .i64 c),.c (.int .i64 r)]=>(G6 h s).bind fun S=>(Ov h S.tx).bind fun X=>(Eu h S.gd).bind fun G=>(Si h X.rv).bind fun m=>(getM h X.ch).bind fun l=>(Re c r).bind fun n=>(Re ((l.length:Int)+c) r).bind fun n2=>Y5 (decide (n<=(G.jr:Int) - 1)&&decide (n2<=(G.jr:Int) - 1)&&!X.op&&decide (X.sq<=2147483648)&&Gh h m&&Wj l&&Gh h X.od&&Gh h X.fr) (some (.w (.c (.int .i64 0)),Zec (Uz h s S) S.tx X (Uv l) c r))
 | _=>none
attribute [go_sem] Zoo Zu5
section
variable (Hh:Hearts K Tryz.prog)
include Hh
theorem Z33 {args:List W} {h h':Hq} {v:V} (e:Zrz args h=some (v,h')):Zb 254 args h v h':=by
 unfold Zrz at e
 split at e
 ·rename_i m
  obtain⟨l,hl,e⟩:=Zk e
  have hm:=getM_some hl
  obtain⟨bk,e⟩:=Zu.1 e
  unfold Wj at bk
  rw[aQ] at bk
  have hsk:=Qe (l:=l) (fun p hp=>List.all_eq_true.1 bk.1 p hp)
  have kl:=bk.2
  rw[<-Za7 l] at kl
  cases l with
  | nil =>
   cases e
   refine Z32 Hh ?_
   show Y5 (Gh h m) _=_
   rw[show Gh h m=true by unfold Gh; rw[hm]; rfl]
   rfl
  | cons p l' =>
   cases e
   rw[<-Za7 (p :: l')]
   have kn:0<(Tp (p :: l')).length:=by rw[Za7,List.length_cons]; omega
   obtain⟨ks,hks⟩:=xzE (Tp (p :: l'))
   simp only[hks] at hsk kl kn ⊢
   obtain⟨k0,kt,rfl⟩:∃ k0 kt,ks=k0 :: kt:=by
    cases ks with
    | nil=>simp at kn
    | cons a b=>exact⟨a,b,rfl⟩
   obtain⟨l2,hl2⟩:=xzE (p :: l')
   rw[hl2] at hm hsk
   have kl:Nat.ble (kt.length+1) 1000000=true:=kl
   refine Zx.tidy ⟨Tryz.f254,Tryz.func254,kR,by decide⟩ fun tidy=>?_
   have l2:=tidy _ _ hm
   obtain⟨v,h',cc,n',rfl,n1,n2,n3,hk⟩:∃ v h',Zb 254 [.c (.map m)] h v h'/\∃ n',v=.w (.c (.slice n' 0 (k0 :: kt).length 1))/\h.next<=n'/\n'<h'.next/\h'.get n'=some (.row 1 ((k0 :: kt).map fun i=>[.int .i64 i]) false)/\∀ j,j<h.next->h'.get j=h.get j:=by
    refine Ym Hh Tryz.f254 ?_
    have Jf:=Jh @hm @hsk @kl
    repeat (first|apply Z6|apply Yc|refine Zn Hh (EY (EY Za (Zmg Hh)) (Ta Hh)) Ye ?_)
    refine⟨_,_,Zd,_,rfl,?_,?_,?_,fun j hj=>by exact Yn⟩
    ·first|omega|(simp only[H.Zf,H.Ze]<;>omega)
    ·first|omega|(simp only[H.Zf,H.Ze]<;>omega)
    ·exact Zd
   exact Zx.row1 cc n1 n3 (List.all_eq_true.2 fun x hx=>by obtain⟨i,_,rfl⟩:=List.mem_map.1 hx; rfl) n2 hk
 ·cases e
theorem Zr2 {args:List W} {h h':Hq} {v:V} (e:Zr1 args h=some (v,h')):Zb 193 args h v h':=by
 unfold Zr1 at e
 split at e
 ·rename_i t
  obtain⟨X,ht,e⟩:=Zk e
  have ht:=Yw ht
  have e0:Zrz [.c (.map X.ch)] h=some (v,h'):=e
  obtain⟨w,rfl⟩:∃ w,v=.w w:=by
   have e1:=e0
   unfold Zrz at e1
   obtain⟨l,hl,e1⟩:=Zk e1
   obtain⟨b,e1⟩:=Zu.1 e1
   split at e1<;>(cases e1; exact⟨_,rfl⟩)
  clear e
  refine fnG Hh Tryz.f193 ?_
  have Jf:=Y2 @ht @e0
  repeat (first|apply Z6|apply Yx|apply Yc|refine Goes.Zi Ye ?_|refine Zn Hh (EY (EY Za (Bh Hh)) (Z33 Hh)) Ye ?_)
  exact Zd
 ·cases e
theorem Zy9 {args:List W} {h h':Hq} {v:V} (e:Zuo args h=some (v,h')):Zb 123 args h v h':=by
 unfold Zuo at e
 split at e
 ·rename_i s a b
  obtain⟨S,hs,e⟩:=Zk e
  have hs:=Y6 hs
  obtain⟨X,hT,e⟩:=Zk e
  have ht:=Yw hT
  obtain⟨m,hr,e⟩:=Zk e
  have hr:=Gf hr
  obtain⟨l,hl,e⟩:=Zk e
  obtain⟨n,hn,e⟩:=Zk e
  obtain⟨bb,e⟩:=Zu.1 e
  cases e
  rw[aQ] at bb
  have hm:=Je bb.1
  have bk:=bb.2
  obtain⟨a0,a1,r0,r1,_⟩:=Ml hn
  have e1:∀ r,(Y5 (Wj l) (match l with
   | []=>some (.w (.c .snil),h)
   | p :: l'=>some (.w (.c (.slice h.next 0 (p :: l').length 1)),h.new (.row 1 ((Tp (p :: l')).map fun i=>[.int .i64 i]) false))))=r->Zr1 [.c (.ptr S.tx 0)] h=r:=fun r hr=>by
   show (Ov h S.tx).bind _=_
   rw[hT]
   show (getM h X.ch).bind _=_
   rw[hl]
   exact hr
  rw[bk] at e1
  refine Zx.tidy ⟨Tryz.f123,Tryz.func123,kR,by decide⟩ fun tidy=>?_
  have l1:=tidy _ _ hs
  have l2:=tidy _ _ ht
  have l3:=tidy _ _ hr
  have l4:=tidy _ _ hm
  cases l with
  | nil =>
   have e2:Zr1 [.c (.ptr S.tx 0)] h=some (.w (.c .snil),h):=e1 _ rfl
   have hn':Re a b=some n:=by simpa using hn
   obtain⟨b0,b1,_,_,_⟩:=Ml hn'
   refine fnG Hh Tryz.f123 ?_
   have Jf:=Ng @hs @ht @hr @hm @e2 @hn' @Int.zero_add
   repeat (first|apply Z6|apply Yc|refine Zn Hh (EY (EY (EY Za (Zd8 Hh)) (Zr2 Hh)) (Zj5 Hh)) Rj ?_)
   exact Zd
  | cons p l' =>
   have e2:Zr1 [.c (.ptr S.tx 0)] h=some (.w (.c (.slice h.next 0 (p :: l').length 1)),h.new (.row 1 ((Tp (p :: l')).map fun i=>[.int .i64 i]) false)):=e1 _ rfl
   have kl:Nat.ble (p :: l').length 1000000=true:=by
    unfold Wj at bk
    rw[aQ] at bk
    exact bk.2
   have kl2:=lQ kl
   obtain⟨L,hL⟩:=xzE ((p :: l').length)
   obtain⟨R,hR⟩:=xzE (((Tp (p :: l')).map fun i=>[C.int .i64 i]))
   have lf:Y4 K 22 (.c (.slice h.next 0 L 1))=true:=kR
   rw[hL] at e2 hn kl2 a0 a1
   rw[hR] at e2
   refine Dx rfl ?_
   refine Ym Hh Tryz.f123 ?_
   have Jf:=Vr @hs @ht @hr @hm @e2 @hn @lf @Int.zero_add
   repeat (first|apply Z6|apply Yc|refine Zn Hh (EY (EY (EY Za (Zd8 Hh)) (Zr2 Hh)) (Zj5 Hh)) Rj ?_)
   exact⟨_,_,Zd,rfl,fun j hj=>by exact Yn⟩
 ·cases e
theorem Zjt {args:List W} {h h':Hq} {v:V} (e:Zoo args h=some (v,h')):Zb 198 args h v h':=by
 unfold Zoo at e
 split at e
 ·rename_i t q
  obtain⟨X,ht,e⟩:=Zk e
  have ht:=Yw ht
  obtain⟨m,hr,e⟩:=Zk e
  have hr:=Gf hr
  split at e
  ·rename_i es hc
   obtain⟨b,e⟩:=Zu.1 e
   cases e
   simp only[aQ] at b
   obtain⟨⟨b1,b3⟩,b4⟩:=b
   have hm:=Je b1
   have ho:=Je b3
   have hf:=Je b4
   refine Zx.tidy ⟨Tryz.f198,Tryz.func198,kR,by decide⟩ fun tidy=>?_
   have l1:=tidy _ _ ht
   have l2:=tidy _ _ hr
   have l3:=tidy _ _ hm
   have l4:=tidy _ _ hc
   have l5:=tidy _ _ ho
   have l6:=tidy _ _ hf
   refine fnG Hh Tryz.f198 ?_
   have Jf:=L8 @ht @hr @hm @hc @ho @hf
   repeat (first|apply Z6|apply O9|apply E9|apply Yx|apply Ea|apply Yc|refine Goes.Zi Zvj ?_|refine Zn Hh (EY (EY (EY (EY Za (Zfi Hh)) (Zg4 Hh)) (Zjr Hh)) (Zju Hh)) Zvj ?_|refine Fe Hh (EY (EY (EY (EY Za (Zfi Hh)) (Zg4 Hh)) (Zjr Hh)) (Zju Hh)) Zz8 ?_)
   simp (maxSteps:=9^6) +decide (disch:=first|exact dZ|fail) only [go_sem,Zm,Zh,simprocAttr,Lg]<;>rfl
  ·cases e
 ·cases e
set_option maxHeartbeats 1000000 in
theorem Zzg {args:List W} {h h':Hq} {v:V} (e:Zu5 args h=some (v,h')):Zb 125 args h v h':=by
 unfold Zu5 at e
 split at e
 ·rename_i t c r
  obtain⟨X,ht,e⟩:=Zk e
  have ht:=Yw ht
  obtain⟨m,hr,e⟩:=Zk e
  have hr:=Gf hr
  split at e
  ·rename_i es hc
   obtain⟨b,e⟩:=Zu.1 e
   cases e
   simp only[aQ,decide_eq_true_eq,Bool.not_eq_true'] at b
   obtain⟨⟨⟨⟨⟨bo,c0⟩,r0⟩,b1⟩,b3⟩,b4⟩:=b
   have hm:=Je b1
   have ho:=Je b3
   have hf:=Je b4
   refine Zx.tidy ⟨Tryz.f125,Tryz.func125,kR,by decide⟩ fun tidy=>?_
   have l1:=tidy _ _ ht
   have l2:=tidy _ _ hr
   have l3:=tidy _ _ hm
   have l4:=tidy _ _ hc
   have l5:=tidy _ _ ho
   have l6:=tidy _ _ hf
   have n2:X.rv≠t:=fun e1=>by rw[e1,ht] at hr; cases hr
   have n3:m≠t:=fun e1=>by rw[e1,ht] at hm; cases hm
   have n4:X.ch≠t:=fun e1=>by rw[e1,ht] at hc; cases hc
   have n5:X.od≠t:=fun e1=>by rw[e1,ht] at ho; cases ho
   have n6:X.fr≠t:=fun e1=>by rw[e1,ht] at hf; cases hf
   refine fnG Hh Tryz.f125 ?_
   repeat (first|apply Z6|apply O9|apply Yx|apply Yc|((first|apply Goes.Zi|apply gO fits Hh (EY (EY Za (Bh Hh)) (Zjt Hh))); · simp (maxSteps:=9^6) +decide (disch:=first|exact dZ|fail) only [go_sem,Zm,Zh,simprocAttr,ht,bo,hr,hm,hc,ho,hf,read1,Z0,Lg]<;>rfl)|(apply Goes.drawn2 fits Hh (EY (EY Za (Bh Hh)) (Zjt Hh)) kR; · simp (maxSteps:=9^6) +decide (disch:=first|exact dZ|fail) only [go_sem,Zm,Zh,simprocAttr,drG,ht,bo,hr,hm,hc,ho,hf,read1,Z0,Lg]<;>rfl))
   simp (maxSteps:=9^6) +decide (disch:=first|exact dZ|fail) only [go_sem,Zm,Zh,simprocAttr,Zec,Lg]<;>rfl
  ·cases e
 ·cases e
set_option maxHeartbeats 4000000 in
theorem Zzd {args:List W} {h h':Hq} {v:V} (e:Zov args h=some (v,h')):Zb 55 args h v h':=by
 unfold Zov at e
 split at e
 ·rename_i s c r
  obtain⟨S,hS,e⟩:=Zk e
  have hs:=Y6 hS
  obtain⟨X,hT,e⟩:=Zk e
  have ht:=Yw hT
  obtain⟨G,hg,e⟩:=Zk e
  obtain⟨hg,fb⟩:=Jp hg
  obtain⟨m,hR,e⟩:=Zk e
  have hr:=Gf hR
  obtain⟨l,hl,e⟩:=Zk e
  have hc:=getM_some hl
  obtain⟨n,hn,e⟩:=Zk e
  obtain⟨n2,hn2,e⟩:=Zk e
  obtain⟨b,e⟩:=Zu.1 e
  cases e
  simp only[aQ,decide_eq_true_eq,Bool.not_eq_true'] at b
  obtain⟨⟨⟨⟨⟨⟨⟨bn,bn2⟩,bo⟩,sq⟩,b1⟩,bk⟩,b3⟩,b4⟩:=b
  have hm:=Je b1
  have ho:=Je b3
  have hf:=Je b4
  have F:=Z5 fb
  obtain⟨g1,g2,g3,g4,g5,g6,g7,g8,g9,g10,g11⟩:=F
  have eN:Zuo [.c (.ptr s 0),.c (.int .i64 c),.c (.int .i64 r)] h=some (.tup [.c (.int .i64 n2),.c (.int .i64 r)],h):=by
   show (G6 h s).bind _=_
   rw[hS]
   show (Ov h S.tx).bind _=_
   rw[hT]
   show (Si h X.rv).bind _=_
   rw[hR]
   show (getM h X.ch).bind _=_
   rw[hl]
   show (Re _ _).bind _=_
   rw[hn2]
   show Y5 (Gh h m&&Wj l) _=_
   rw[b1,bk]
   rfl
  refine Zx.tidy ⟨Tryz.f55,Tryz.func55,kR,by decide⟩ fun tidy=>?_
  have l1:=tidy _ _ ht
  have l2:=tidy _ _ hr
  have l3:=tidy _ _ hm
  have l4:=tidy _ _ hc
  have l5:=tidy _ _ ho
  have l6:=tidy _ _ hf
  have l7:=tidy _ _ hs
  have l8:=tidy _ _ hg
  have n1:S.tx≠s:=fun e1=>by rw[e1,hs] at ht; cases ht
  have n2:X.rv≠s:=fun e1=>by rw[e1,hs] at hr; cases hr
  have n3:m≠s:=fun e1=>by rw[e1,hs] at hm; cases hm
  have n4:X.ch≠s:=fun e1=>by rw[e1,hs] at hc; cases hc
  have n5:X.od≠s:=fun e1=>by rw[e1,hs] at ho; cases ho
  have n6:X.fr≠s:=fun e1=>by rw[e1,hs] at hf; cases hf
  obtain⟨c0,c1,r0,r1,nn⟩:=Ml hn
  refine fnG Hh Tryz.f55 ?_
  repeat (first|apply Z6|apply Yx|apply Yc|((first|apply Goes.Zi|apply gO fits Hh (EY (EY (EY (EY (EY (EY (EY Za (Ga Hh)) (Z4l Hh)) (Zfm Hh)) (Zj5 Hh)) (Zy9 Hh)) (Bu Hh)) (Zzg Hh))); · simp (maxSteps:=9^6) +decide (disch:=first|exact dZ|fail) only [go_sem,Zm,Zh,simprocAttr,hn,eN,hs,ht,bo,hg,gdL,fb,hr,hm,hc,ho,hf,read1]<;>rfl))
  simp (maxSteps:=9^6) +decide (disch:=first|exact dZ|fail) only [go_sem,Zm,Zh,simprocAttr,Uz]<;>rfl
 ·cases e
end
theorem rs58:Tryz.f58.results.toList=[.tmp 2]:=rfl
attribute [go_sem] rs58
def Zei (h:Hq) (s:Nat) (S:Stt) (X:Tx):Hq:=Zp3 (Uz ((h.new (.row 1 [[.map S.gv]] false)).new (.row 1 [[.map S.dt]] false)) s S) S.tx X
def Zoy:Kn1:=fun args h=>match args with
 | [.c (.ptr s 0)]=>(G6 h s).bind fun S=>(Ov h S.tx).bind fun X=>(Eu h S.gd).bind fun _=>Y5 (X.op&&Gh h S.dt&&Gh h S.gv) (some (.w (.c (.int .i64 0)),Zei h s S X))
 | _=>none
section
variable (Hh:Hearts K Tryz.prog)
include Hh
theorem Zzf {args:List W} {h h':Hq} {v:V} (e:Zoy args h=some (v,h')):Zb 58 args h v h':=by
 unfold Zoy at e
 split at e
 ·rename_i s
  obtain⟨S,hs,e⟩:=Zk e
  have hs:=Y6 hs
  obtain⟨X,ht,e⟩:=Zk e
  have ht:=Yw ht
  obtain⟨G,hg,e⟩:=Zk e
  obtain⟨hg,fb⟩:=Jp hg
  obtain⟨b,e⟩:=Zu.1 e
  cases e
  simp only[aQ] at b
  obtain⟨⟨bo,b1⟩,b2⟩:=b
  have hl:=Je b1
  have hv:=Je b2
  refine Zx.tidy ⟨Tryz.f58,Tryz.func58,kR,by decide⟩ fun tidy=>?_
  have l1:=tidy _ _ hs
  have l2:=tidy _ _ ht
  have l3:=tidy _ _ hl
  have l4:=tidy _ _ hv
  have l5:=tidy _ _ hg
  have n1:S.tx≠s:=fun e1=>by rw[e1,hs] at ht; cases ht
  have n2:S.dt≠s:=fun e1=>by rw[e1,hs] at hl; cases hl
  have n3:S.gv≠s:=fun e1=>by rw[e1,hs] at hv; cases hv
  refine fnG Hh Tryz.f58 ?_
  repeat (first|apply Z6|apply O9|apply E9|apply Yx|apply Ea|apply Yc|((first|apply Goes.Zi|apply gO fits Hh (EY (EY (EY (EY (EY (EY (EY (EY Za (Zfl Hh)) (Zmi Hh)) (Ta Hh)) (Zmh Hh)) (Zjp Hh)) (Zj6 Hh)) (Bu Hh)) (Zr3 Hh))); · simp (maxSteps:=9^6) +decide (disch:=first|exact dZ|fail) only [go_sem,Zm,Zh,simprocAttr,hs,ht,bo,hg,gdL,fb,hl,hv,Zdb,read1,Zr,Jl]<;>rfl)|(apply Goes.drawn2 fits Hh (EY (EY (EY (EY (EY (EY (EY (EY Za (Zfl Hh)) (Zmi Hh)) (Ta Hh)) (Zmh Hh)) (Zjp Hh)) (Zj6 Hh)) (Bu Hh)) (Zr3 Hh)) kR; · simp (maxSteps:=9^6) +decide (disch:=first|exact dZ|fail) only [go_sem,Zm,Zh,simprocAttr,drG,hs,ht,bo,hg,gdL,fb,hl,hv,Zdb,read1,Zr,Jl]<;>rfl))
  simp (maxSteps:=9^6) +decide (disch:=first|exact dZ|fail) only [go_sem,Zm,Zh,simprocAttr,Zei,Uz]<;>rfl
 ·cases e
end
abbrev Cr.cl (ch:Lq):Cr:=⟨0,0,false,ch⟩
section
variable {n d d1 d2 q a b c e:Nat} {md:Int} {cr:Cr} {L:List (List C)} {h:Hq} {S T:Lq} {V:Nat->Lq}
theorem ClD.closed (M:ClD n d d1 d2 a b c e md L h) (see:∀ z,z<2+e+a * b->Bp a b c e (z:Int)=true->(V z).length=256/\L[z]? = some (pgL (V z))):HE n (n+14) a b c e (Cr.cl []) md [] [] V h:=by
 obtain⟨f1,f2,f3,l1,l2,f4,f5,f6,f7,f8,f9,f10,f11,f12,f13,f14,f15,f16,f17,f18⟩:=M
 refine⟨d,d1,d2,false,[],[],[],[],L,rfl,Zre L,rfl,rfl,rfl,(fun _ _ e=>by cases e),rfl,(fun _ _ e=>by cases e),⟨(fun o=>by cases o),rfl,(fun _ _ e=>by cases e)⟩,(fun _ _ e=>by cases e),fun z z1 hz=>⟨(see z z1 hz).1,.inr ⟨rfl,.inr ⟨rfl,(see z z1 hz).2⟩⟩⟩,⟨f1,f2,Nat.le_refl _,oM,l1,l2,f4,f5,f6,f7,f8,f9,f17,f11,f12,f13,f14,f16,(fun o=>by cases o),f10,f15,(fun o=>by cases o),f18⟩⟩
theorem Ztv {k m:Nat} {x r s:Int} (h:Re ((m:Int)+x) r=some s) (hk:k<=m) (x0:0<x):∃ s',Re ((k:Int)+x) r=some s'/\s'<=s:=by
 obtain⟨a1,a2,a3,a4,rfl⟩:=Ml h
 refine⟨(k:Int)+x+((k:Int)+x+30 - 1) / 30+(r+60 - 1) / 60+1,?_,oM⟩
 unfold Re
 rw[decide_eq_true oM,decide_eq_true oM,decide_eq_true a3,decide_eq_true a4]
 rfl
theorem Zpm {m:Nat} {cr':Cr} {kn:Bool} {es:List (W × W)} {X:Tx} (nx:n+23<=h.next) (hm:m<h.next) (m1:m≠n+13) (m2:m≠n+20):(Zec (Uz h (n+13) (stH n q cr kn)) (n+20) X es cr'.c cr'.r).get m=h.get m:=by
 unfold Zec Lg Uz
 simp (discharger:=omega) only [H.get_put,H.Zp,H.Ze,H.Zf,if_neg]
theorem Z6c {l:G9} {C:Lq} (hu:Zgf l=true) (hs:∀ z y,Jd z l=some y->∃ k∈C,z=(k:Nat)) (hC:∀ k∈C,k<4096) (cl:C.length<=4096):Wj l=true/\l.length<=C.length:=by
 have kb:=Zet hu hs
 refine⟨?_,kb⟩
 unfold Wj
 rw[Nat.ble_eq_true_of_le oM,Bool.and_true]
 refine List.all_eq_true.2 fun p hp=>?_
 have:(Jd p.1 l).isSome=true:=Zlq.1 (by
  clear hs kb hu
  induction l with
  | nil=>cases hp
  | cons x l ih =>
   rw[Tp,Zim]
   rcases List.mem_cons.1 hp with w|w
   ·exact .inl (by rw[w])
   ·exact .inr (ih w))
 obtain⟨y,hy⟩:=Option.isSome_iff_exists.1 this
 obtain⟨k,hk,e⟩:=hs _ _ hy
 have:=hC k hk
 unfold Rn
 rw[e,decide_eq_true oM,decide_eq_true oM]
 rfl
theorem HE.beg {ch:Lq} (M:HE n q a b c e (Cr.cl ch) md S [] V h) (fb:Yu a b c e=true) {x r s1 s2:Int} {C S':Lq} (hC:∀ k∈ch++S,k∈C) (C4:∀ k∈C,k<4096) (cl:C.length<=4096) (z1:Re x r=some s1) (y1:s1<=(e:Int) - 1) (z2:Re ((C.length:Int)+x) r=some s2) (y2:s2<=(e:Int) - 1) (hS:(S'.length:Int)<=x) :
  ∃ h',Zov [.c (.ptr (n+13) 0),.c (.int .i64 x),.c (.int .i64 r)] h=some (.w (.c (.int .i64 0)),h')/\HE n h.next a b c e ⟨x,r,true,C⟩ md S' [] V h'/\h.next<=h'.next/\∀ m,m<h.next->m≠n+13->m≠n+20->h'.get m=h.get m:=by
 obtain⟨d,d1,d2,kn,ld,lt,lc,lm,L,fl,sn,ft,fc,t5,vt,t7,t8,t9,tT,see,M⟩:=M
 obtain⟨f1,f2,f3,f4,l1,l2,f5,f6,f7,f8,f9,f10,f11,f12,f13,f14,f15,f16,f17,f18,f19,f20,f21⟩:=M
 obtain rfl:ld=[]:=by
  cases ld with
  | nil=>rfl
  | cons p l =>
   obtain⟨k,hk,_⟩:=tT p.1 p.2 (by show (bif p.1 == p.1 then some p.2 else Jd p.1 l)=_; rw[Q9 rfl]; rfl)
   cases hk
 have hc':∀ z y,Jd z lc=some y->∃ k∈C,z=(k:Nat):=fun z y hz=>by
  obtain⟨k,hk,e⟩:=t9.2.2 z y hz
  exact⟨k,hC k hk,e⟩
 obtain⟨ko,kb⟩:=Z6c t9.2.1 hc' C4 cl
 obtain⟨x0,_,_,_,_⟩:=Ml z1
 obtain⟨s3,z3,y3⟩:=Ztv z2 kb x0
 have y1':decide (s1<=(e:Int) - 1)=true:=decide_eq_true y1
 have y3':decide (s3<=(e:Int) - 1)=true:=decide_eq_true oM
 have n23:n+23<=h.next:=oM
 refine⟨_,by unfold Zov; simp (maxSteps:=9^6) +decide (disch:=first|exact dZ|fail) only [go_sem,Zm,Zh,simprocAttr,f19,f5,f6,gdL,gdD,f14,f21,fb,z1,z3,y1',y3',f15,f13,f12,ko]<;>rfl,⟨d,d1,d2,false,[],[],lc,lm,L,fl,sn,rfl,fc,rfl,(fun _ _ e=>by cases e),rfl,(fun _ _ e=>by cases e),⟨fun _=>hS,t9.2.1,fun z y hz=>by obtain⟨k,hk,e⟩:=hc' z y hz; exact⟨k,List.mem_append_left _ hk,e⟩⟩,tT,fun z z1 hz=>see z z1 hz,?_⟩,?_,fun m hm m1 m2=>Zpm n23 hm m1 m2 (cr':=⟨x,r,true,C⟩) (es:=Uv lc)⟩
 ·have old:∀ {m:Nat} {o:O},h.get m=some o->m<h.next->m≠n+13->m≠n+20->(Zec (Uz h (n+13) (stH n q (Cr.cl ch) kn)) (n+20) (txH n q (Cr.cl ch)) (Uv lc) x r).get m=some o:=fun e hm m1 m2=>(Zpm n23 hm m1 m2 (cr':=⟨x,r,true,C⟩)).trans e
  refine⟨old f1 oM oM oM,f2,oM,?_,l1,l2,?_,old f6 oM oM oM,old f7 oM oM oM,old f8 oM oM oM,old f9 oM oM oM,old f10 oM oM oM,?_,old f12 oM oM oM,old f13 oM oM oM,old f14 oM oM oM,old f15 oM oM oM,?_,fun _=>n23,old f18 oM oM oM,?_,fun _=>?_,old f21 oM oM oM⟩
  ·unfold Zec Lg Uz; simp only[H.Ze,H.Zf]; omega
  ·unfold Zec Lg Uz; simp (discharger:=omega) only [H.get_put,H.Zp,H.Ze,H.Zf,if_neg,if_pos]; rfl
  ·show H.get _ (h.next+1)=_; unfold Zec Lg Uz; simp (discharger:=omega) only [H.get_put,H.Zp,H.Ze,H.Zf,if_neg,if_pos,if_true]
  ·show H.get _ h.next=_; unfold Zec Lg Uz; simp (discharger:=omega) only [H.get_put,H.Zp,H.Ze,H.Zf,if_neg,if_pos,if_true]; rfl
  ·unfold Zec Lg Uz; simp (discharger:=omega) only [H.get_put,H.Zp,H.Ze,H.Zf,if_neg,if_pos]; rfl
  ·unfold Zec Lg Uz; simp (discharger:=omega) only [H.get_put,H.Zp,H.Ze,H.Zf,if_neg,if_pos,if_true]; rfl
 ·unfold Zec Lg Uz; simp only[H.Zf,H.Ze]; omega
theorem Z0y {m:Nat} {St:Stt} {X:Tx} (nx:n+23<=h.next) (hm:m<h.next) (m1:m≠n+13) (m2:m≠n+20):(Zei h (n+13) St (X)).get m=h.get m\/St.tx≠n+20:=by
 by_cases e:St.tx=n+20
 ·left
  unfold Zei
  rw[Q3,e,if_neg m2]
  unfold Uz
  simp (discharger:=omega) only [H.get_put,H.Zp,H.Ze,H.Zf,if_neg]
 ·exact .inr e
theorem HE.fin [Opn cr] (M:HE n q a b c e cr md S [] V h) (fb:Yu a b c e=true) {C:Lq} (hC:∀ k∈cr.ch++S,k∈C) :
  ∃ h',Zoy [.c (.ptr (n+13) 0)] h=some (.w (.c (.int .i64 0)),h')/\HE n (h.next - 5) a b c e (Cr.cl C) md [] [] V h'/\h.next+4<=h'.next/\∀ m,m<h.next->m≠n+13->m≠n+20->h'.get m=h.get m:=by
 obtain⟨d,d1,d2,kn,ld,lt,lc,lm,L,fl,sn,ft,fc,t5,vt,t7,t8,t9,tT,see,M⟩:=M
 obtain⟨f1,f2,f3,f4,l1,l2,f5,f6,f7,f8,f9,f10,f11,f12,f13,f14,f15,f16,f17,f18,f19,f20,f21⟩:=M
 obtain rfl:ld=[]:=by
  cases ld with
  | nil=>rfl
  | cons p l =>
   obtain⟨k,hk,_⟩:=tT p.1 p.2 (by show (bif p.1 == p.1 then some p.2 else Jd p.1 l)=_; rw[Q9 rfl]; rfl)
   cases hk
 have hc':∀ z y,Jd z lc=some y->∃ k∈C++[],z=(k:Nat):=fun z y hz=>by
  obtain⟨k,hk,e⟩:=t9.2.2 z y hz
  exact⟨k,by rw[List.append_nil]; exact hC k hk,e⟩
 have n23:n+23<=h.next:=oM
 have tx0:(stH n q cr kn).tx=n+20:=rfl
 have ng:∀ m,m<h.next->m≠n+13->m≠n+20->(Zei h (n+13) (stH n q cr kn) (txH n q cr)).get m=h.get m:=fun m hm m1 m2=>(Z0y n23 hm m1 m2).resolve_right (fun w=>w rfl)
 have old:∀ {m:Nat} {o:O},h.get m=some o->m<h.next->m≠n+13->m≠n+20->(Zei h (n+13) (stH n q cr kn) (txH n q cr)).get m=some o:=fun e hm m1 m2=>(ng _ hm m1 m2).trans e
 refine⟨Zei h (n+13) (stH n q cr kn) (txH n q cr),by unfold Zoy; simp (maxSteps:=9^6) +decide (disch:=first|exact dZ|fail) only [go_sem,Zm,Zh,simprocAttr,f19,f5,f6,gdL,gdD,fb,f16,f11]<;>rfl,⟨d,d1,d2,false,[],[],lc,lm,L,fl,sn,rfl,fc,rfl,(fun _ _ e=>by cases e),rfl,(fun _ _ e=>by cases e),⟨(fun o=>by cases o),t9.2.1,hc'⟩,(fun _ _ e=>by cases e),see,?_⟩,?_,ng⟩
 ·refine⟨old f1 oM oM oM,f2,oM,?_,l1,l2,?_,old f6 oM oM oM,old f7 oM oM oM,old f8 oM oM oM,old f9 oM oM oM,old f10 oM oM oM,?_,old f12 oM oM oM,old f13 oM oM oM,old f14 oM oM oM,old f15 oM oM oM,?_,(fun o=>by cases o),old f18 oM oM oM,?_,(fun o=>by cases o),old f21 oM oM oM⟩
  ·unfold Zei Zp3 Uz; simp only[H.Ze,H.Zf]; omega
  ·unfold Zei; rw[Q3,tx0,if_pos rfl]; rfl
  ·show H.get _ (h.next - 5+7+1)=_
   unfold Zei
   rw[Q3,tx0,if_neg (show h.next - 5+7+1≠n+20 by omega)]
   unfold Uz; simp (discharger:=omega) only [H.get_put,H.Zp,H.Ze,H.Zf,if_neg,if_pos,if_true]
  ·show H.get _ (h.next - 5+7)=_
   unfold Zei
   rw[Q3,tx0,if_neg (show h.next - 5+7≠n+20 by omega)]
   unfold Uz; simp (discharger:=omega) only [H.get_put,H.Zp,H.Ze,H.Zf,if_neg,if_pos,if_true]; rfl
  ·unfold Zei
   rw[Q3,tx0,if_neg (show n+13≠n+20 by omega)]
   unfold Uz; simp (discharger:=omega) only [H.get_put,H.Zp,H.Ze,H.Zf,if_neg,if_pos,if_true]
   show some (O.row 8 [stL ⟨n+12,n+20,h.next+2,h.next+3,.snil,false⟩] false)=some (O.row 8 [stL ⟨n+12,n+20,h.next - 5+7,h.next - 5+7+1,.snil,false⟩] false)
   rw[show h.next - 5+7=h.next+2 by omega]
 ·unfold Zei Zp3 Uz; simp only[H.Ze,H.Zf]; omega
theorem HE.Z1p {a b c e:Nat} {ch S T:Lq} {h2:Hq} (M:HE n q a b c e (Cr.cl ch) md S T V h) (hx:h.next<=h2.next) (k:∀ m,m<n+23\/q+7<=m/\m<q+9->h2.get m=h.get m):HE n q a b c e (Cr.cl ch) md S T V h2:=by
 obtain⟨d,d1,d2,kn,ld,lt,lc,lm,L,f1,f2,f3,f4,f5,f6,f7,f8,f9,f10,f11,M⟩:=M
 obtain⟨g1,g2,g3,g4,l1,l2,g5,g6,g7,g8,g9,g10,g11,g12,g13,g14,g15,g16,g17,g18,g19,g20,g21⟩:=M
 refine⟨d,d1,d2,kn,ld,lt,lc,lm,L,f1,f2,f3,f4,f5,f6,f7,f8,f9,f10,f11,⟨(k _ oM).trans g1,g2,g3,oM,l1,l2,(k _ oM).trans g5,(k _ oM).trans g6,(k _ oM).trans g7,(k _ oM).trans g8,(k _ oM).trans g9,(k _ oM).trans g10,(k (q+7+1) oM).trans g11,(k _ oM).trans g12,(k _ oM).trans g13,(k _ oM).trans g14,(k _ oM).trans g15,(k (q+7) oM).trans g16,g17,(k _ oM).trans g18,(k _ oM).trans g19,(fun o=>by cases o),(k _ oM).trans g21⟩⟩
end
noncomputable def q20 (p:Lq):Code:=piece p (J8 Tryz.f20)
theorem rs20:Tryz.f20.results.toList=[.cell 6 31]:=rfl
attribute [go_sem] rs20
theorem HE.Z8k {n q a b c e:Nat} {cr:Cr} {md:Int} {S T:Lq} {V:Nat->Lq} {h h2:Hq} (M:HE n q a b c e cr md S T V h) (hx:h.next<=h2.next) (k:∀ m,m<n+23\/q<=m/\m<q+9->h2.get m=h.get m):HE n q a b c e cr md S T V h2:=by
 obtain⟨d,d1,d2,kn,ld,lt,lc,lm,L,f1,f2,f3,f4,f5,f6,f7,f8,f9,f10,f11,M⟩:=M
 obtain⟨g1,g2,g3,g4,l1,l2,g5,g6,g7,g8,g9,g10,g11,g12,g13,g14,g15,g16,g17,g18,g19,g20,g21⟩:=M
 have db:=Zhr q cr
 exact⟨d,d1,d2,kn,ld,lt,lc,lm,L,f1,f2,f3,f4,f5,f6,f7,f8,f9,f10,f11,⟨(k _ oM).trans g1,g2,g3,oM,l1,l2,(k _ oM).trans g5,(k _ oM).trans g6,(k _ oM).trans g7,(k _ oM).trans g8,(k _ oM).trans g9,(k _ oM).trans g10,(k _ oM).trans g11,(k _ oM).trans g12,(k _ oM).trans g13,(k _ oM).trans g14,(k _ oM).trans g15,(k _ oM).trans g16,g17,(k _ oM).trans g18,(k _ oM).trans g19,(fun o=>(k _ oM).trans (g20 o)),(k _ oM).trans g21⟩⟩
theorem Vi {n q m:Nat} (h1:m<n+6\/n+23<=m) (h2:m<q\/q+9<=m):Out n q m:=⟨⟨oM,oM,oM,oM,oM⟩,oM⟩
section
variable (Hh:Hearts K Tryz.prog)
include Hh
variable {n q a b c e:Nat} {md:Int} {V:Nat->Lq} {h:Hq}
theorem Ycn {p3 p6:Nat} (g6:h.get p6=some (.row 1 [[.int .i64 0]] false)):Zg6 K Tryz.prog 56 [.c (.ptr p6 0),.c (.ptr p3 0)] h h:=by
 refine Zg6.of kR (show Tryz.f56.body=some _ from rfl) rfl ?_
 have Jf:=@g6
 iterate 4 (first|refine Goes.Zi Ye ?_|refine Zn Hh Za Ye ?_|apply gS)
 exact⟨rfl,rfl,rfl,_,rfl⟩
theorem Yco {ts:Zv} {p3 p6 s:Nat} {F:FuncId} {first caps:List (Option (Nat × Nat))} {h1 h2:Hq} (t2:Zg ts 2=.w (.c (.fn F first caps))) (t3:Zg ts 3=.w (.c (.ptr p3 0))) (t6:Zg ts 6=.w (.c (.ptr p6 0))) (cD:Zb F (O1 [] first caps) h (.w (.c (.int .i64 0))) h1) (g3:h1.get p3=some (.row 1 [[.ptr s 0]] false)) (g6:h1.get p6=some (.row 1 [[.int .i64 0]] false)) (cE:Zb 58 [.c (.ptr s 0)] h1 (.w (.c (.int .i64 0))) h2) (k6:h2.get p6=some (.row 1 [[.int .i64 0]] false)) :
  ∃ v h',SpineR K Tryz.prog Tryz.f20 (q20 [1,1]) ts h v h'/\v=.w (.c (.int .i64 0))/\h'=h2.put p6 (.row 1 [[.int .i64 0]] false):=by
 refine SpineR.Yc5 (Za) rfl (by show Fw K E0 _ 23 _ _ _=_; simp (maxSteps:=9^6) +decide (disch:=first|exact dZ|fail) only [go_sem,Zm,Zh,simprocAttr,t3,t6,read1]<;>rfl) (by have Jf:=Y2 @t3 @t6; exact Ye) ?_
 show Z9 23 none _ [] _ _ _
 iterate 2 (apply gS)
 have Jf:=L8 @t2 @t3 @t6 @g3 @g6 @k6
 iterate 6 (first|refine Goes.Zi Ye ?_|refine Zn Hh (Zj Za cD) Ye ?_|apply gS)
 iterate 2 (first|refine Zn Hh (Zj Za cE) Ye ?_|apply gS)
 exact⟨rfl,_,rfl,_,Ycn Hh (Zz ..),_,Ye,rfl,rfl⟩
theorem Yd2 {ts:Zv} {p3 p6 s:Nat} {rv:Int} {F:FuncId} {first caps:List (Option (Nat × Nat))} {h1 h2 h3:Hq} (t1:Zg ts 1=.w (.c (.int .i64 rv))) (t2:Zg ts 2=.w (.c (.fn F first caps))) (t3:Zg ts 3=.w (.c (.ptr p3 0))) (t6:Zg ts 6=.w (.c (.ptr p6 0))) (a3:h.get p3=some (.row 1 [[.ptr s 0]] false)) (cB:Zb 55 [.c (.ptr s 0),.c (.int .i64 20),.c (.int .i64 rv)] h (.w (.c (.int .i64 0))) h1) (cD:Zb F (O1 [] first caps) h1 (.w (.c (.int .i64 0))) h2) (g3:h2.get p3=some (.row 1 [[.ptr s 0]] false)) (g6:h2.get p6=some (.row 1 [[.int .i64 0]] false)) (cE:Zb 58 [.c (.ptr s 0)] h2 (.w (.c (.int .i64 0))) h3) (k6:h3.get p6=some (.row 1 [[.int .i64 0]] false)) :
  ∃ v h',SpineR K Tryz.prog Tryz.f20 (q20 [1]) ts h v h'/\v=.w (.c (.int .i64 0))/\h'=h3.put p6 (.row 1 [[.int .i64 0]] false):=by
 refine SpineR.goE ?_
 show Z9 23 none _ [] _ _ _
 apply Z6
 have Jf:=Gq @t1 @t2 @t3 @t6 @a3
 iterate 5 (first|refine Goes.Zi Ye ?_|refine Zn Hh (Zj Za cB) Ye ?_|apply gS)
 exact⟨rfl,rfl,Yco Hh (by have Jf:=@t2; exact Zq) (by have Jf:=@t3; exact Zq) (by have Jf:=@t6; exact Zq) cD g3 g6 cE k6⟩
theorem Zt1 {s:Nat} {rv:Int} {F:FuncId} {first caps:List (Option (Nat × Nat))} {h1 h2 h3:Hq} (cB:Zb 55 [.c (.ptr s 0),.c (.int .i64 20),.c (.int .i64 rv)] ((h.new (.row 1 [[.ptr s 0]] false)).new (.row 1 [[.int .i64 0]] false)) (.w (.c (.int .i64 0))) h1) (cD:Zb F (O1 [] first caps) h1 (.w (.c (.int .i64 0))) h2) (g3:h2.get h.next=some (.row 1 [[.ptr s 0]] false)) (g6:h2.get (h.next+1)=some (.row 1 [[.int .i64 0]] false)) (cE:Zb 58 [.c (.ptr s 0)] h2 (.w (.c (.int .i64 0))) h3) (k6:h3.get (h.next+1)=some (.row 1 [[.int .i64 0]] false)) :
  Zb 20 [.c (.ptr s 0),.c (.int .i64 rv),.c (.fn F first caps)] h (.w (.c (.int .i64 0))) (h3.put (h.next+1) (.row 1 [[.int .i64 0]] false)):=by
 obtain⟨v,h',cc,rfl,rfl⟩:∃ v h',Zb 20 [.c (.ptr s 0),.c (.int .i64 rv),.c (.fn F first caps)] h v h'/\v=.w (.c (.int .i64 0))/\h'=h3.put (h.next+1) (.row 1 [[.int .i64 0]] false):=by
  refine Zx.Yay fits ?_ kR (show Tryz.f20.body=some _ from rfl) rfl
  refine SpineR.goE ?_
  show Z9 23 none _ [] _ _ _
  refine Zn Hh Za Z83 ?_
  exact⟨rfl,rfl,Yd2 Hh Zd Zd Zd Zd Zmw cB cD g3 g6 cE k6⟩
 exact cc
theorem Zfb (f:Yu a b c e=true) {ch C:Lq} {R:(Nat->Lq)->Hq->Prop} (M:HE n q a b c e (Cr.cl ch) md [] [] V h) (n23:n+23<=h.next) (hC:∀ k∈ch,k∈C) (C4:∀ k∈C,k<4096) (cl:C.length<=10) (e40:40<=e) {F:FuncId} {first caps:List (Option (Nat × Nat))}
  (act:∀ h1,HE n (h.next+2) a b c e ⟨20,0,true,C⟩ md C [] V h1->h.next+2<=h1.next->(∀ m,m<h.next->(m<n+6\/n+23<=m)->h1.get m=h.get m)->∃ h2 V',Zb F (O1 [] first caps) h1 (.w (.c (.int .i64 0))) h2/\HE n (h.next+2) a b c e ⟨20,0,true,C⟩ md C [] V' h2/\h1.next<=h2.next/\(h2.get h.next=h1.get h.next/\h2.get (h.next+1)=h1.get (h.next+1))/\R V' h2) :
  ∃ h2 h' q' V',Zb 20 [.c (.ptr (n+13) 0),.c (.int .i64 0),.c (.fn F first caps)] h (.w (.c (.int .i64 0))) h'/\HE n q' a b c e (Cr.cl C) md [] [] V' h'/\R V' h2/\(h2.next<=h'.next/\h2.next<=q'+5)/\∀ m,m<h2.next->(m<n+6\/n+23<=m)->m≠h.next+1->h'.get m=h2.get m:=by
 obtain⟨hA,eA⟩:∃ hA,hA=(h.new (.row 1 [[.ptr (n+13) 0]] false)).new (.row 1 [[.int .i64 0]] false):=⟨_,rfl⟩
 have nA:hA.next=h.next+2:=by rw[eA]; simp only[H.Ze]
 have kA:∀ m,m<h.next->hA.get m=h.get m:=kQ eA
 have a3:hA.get h.next=some (.row 1 [[.ptr (n+13) 0]] false):=by rw[eA]; exact Zd
 have a6:hA.get (h.next+1)=some (.row 1 [[.int .i64 0]] false):=by rw[eA]; exact Zd
 have nx:=M.nx
 have sm:∀ k:Nat,k<=10->∃ s,Re ((k:Int)+20) 0=some s/\s<=39:=fun k hk=>by
  match k,hk with
  | 0,_=>exact⟨_,rfl,by decide⟩
  | 1,_=>exact⟨_,rfl,by decide⟩
  | 2,_=>exact⟨_,rfl,by decide⟩
  | 3,_=>exact⟨_,rfl,by decide⟩
  | 4,_=>exact⟨_,rfl,by decide⟩
  | 5,_=>exact⟨_,rfl,by decide⟩
  | 6,_=>exact⟨_,rfl,by decide⟩
  | 7,_=>exact⟨_,rfl,by decide⟩
  | 8,_=>exact⟨_,rfl,by decide⟩
  | 9,_=>exact⟨_,rfl,by decide⟩
  | 10,_=>exact⟨_,rfl,by decide⟩
 obtain⟨s2,z2,y2⟩:=sm C.length cl
 obtain⟨h1,b1,M1,nx1,k1⟩:=(M.keep (h2:=hA) oM fun m hm=>kA m oM).beg f (x:=20) (r:=0) (s1:=22) (C:=C) (S':=C) (fun k hk=>hC k (by simpa using hk)) C4 oM rfl oM z2 oM oM
 rw[nA] at M1
 obtain⟨h2,V',cD,M2,nx2,⟨r3,r6⟩,r⟩:=act h1 M1 oM fun m hm ho=>(k1 m oM oM oM).trans (kA m hm)
 have g3:=r3.trans ((k1 _ oM oM oM).trans a3)
 have g6:=r6.trans ((k1 _ oM oM oM).trans a6)
 obtain⟨h3,e3,M3,nx3,k3⟩:=M2.fin f (C:=C) (fun k hk=>by rcases List.mem_append.1 hk with w|w<;>exact w)
 have k6:=(k3 (h.next+1) oM oM oM).trans g6
 rw[eA] at b1
 have cc:=Zt1 Hh (Zzd Hh b1) cD g3 g6 (Zzf Hh e3) k6
 refine⟨h2,_,_,V',cc,M3.Z1p (by rw[H.Zf]; omega) fun m hm=>Zc oM,r,⟨by rw[H.Zf]; omega,oM⟩,fun m hm ho hne=>?_⟩
 rw[Zc hne]
 exact k3 m hm oM oM
end
end
end Go.Proofs.YtmanipmhebgdbaaGreatDoor
