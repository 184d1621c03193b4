/- dirs: what it asks of a store; a reader; a block of slots. -/
import Derived.Test.YtmanipmhebgdbaaGreatDoorRn2
set_option maxRecDepth 100000
set_option maxHeartbeats 4000000
set_option linter.unusedSimpArgs false
set_option linter.unusedVariables false
set_option linter.unusedSectionVars false
namespace Go.Proofs.YtmanipmhebgdbaaGreatDoor
open Go.Ev
noncomputable section
theorem ty91:K.types.get 91=some ti91:=kR
theorem sz91:ti91.size=1:=by rfl
theorem ag91:ti91.agg=false:=by rfl
theorem ze91:ti91.zero=(.c (.pnil)):=by rfl
theorem fo99_0:Zw K 99 0=some (0,ti23):=kR
theorem fo99_1:Zw K 99 1=some (1,ti43):=kR
theorem fo99_2:Zw K 99 2=some (17,ti22):=kR
theorem fo99_3:Zw K 99 3=some (18,ti31):=kR
theorem bu99 (ps:List (Nat × W)):Yr K 99 (some ps)=gW (Yh K 99 ps ti99.zero.cells):=kR
theorem ze99:ti99.zero=(.g ([.pnil,.int .u8 0,.int .i64 0,.int .u32 0,.int .i64 0,.int .u32 0,.int .u32 0,.int .u32 0,.int .u32 0,.int .u32 0,.int .u32 0,.int .u32 0,.int .u32 0,.int .u32 0,.int .u32 0,.int .u32 0,.int .u32 0,.snil,.int .i64 0])):=by rfl
attribute [go_sem] ty91 sz91 ag91 ze91 fo99_0 fo99_1 fo99_2 fo99_3 bu99 ze99
noncomputable def q90 (p:Lq):Code:=piece p (J8 Tryz.f90)
theorem rs89:Tryz.f89.results.toList=[.tmp 2]:=rfl
theorem rs68:Tryz.f68.results.toList=[.tmp 2]:=rfl
theorem rs36:Tryz.f36.results.toList=[.tmp 4]:=rfl
theorem rs91:Tryz.f91.results.toList=[.tmp 4,.tmp 5]:=rfl
theorem rs37:Tryz.f37.results.toList=[.tmp 2]:=rfl
theorem rs90:Tryz.f90.results.toList=[]:=rfl
attribute [go_sem] rs89 rs68 rs36 rs91 rs37 rs90
def Zoq:Kn1:=fun args h=>match args with
 | [.c (.ptr s 0)]=>(G6 h s).bind fun S=>(Eu h S.gd).bind fun G=>some (.w (.c (.bool (G.md != 0))),h)
 | _=>none
def Zor:Kn1:=fun args h=>match args with
 | [.c (.ptr s 0)]=>(G6 h s).bind fun S=>(Eu h S.gd).bind fun G=>(Ov h S.tx).bind fun X=>Y5 (X.op&&(G.md != 0)) (some (.w (.c (.int .i64 0)),h))
 | _=>none
attribute [go_sem] Zoq Zor
def rdC (n:Nat) (y:List C) (s:C) (e:Int):List C:=.ptr (n+13) 0 :: (y++[s,.int .i64 e])
section
variable {n:Nat} {y:List C} {s:C} {e:Int}
theorem Z69 (yl:y.length=16):(rdC n y s e).length=19:=by simp [rdC,yl]
theorem Rs (yl:y.length=16):read1 19 [rdC n y s e] 0=some (.ptr (n+13) 0)/\Zm 19 [rdC n y s e] 1 16=some y/\read1 19 [rdC n y s e] 17=some s/\read1 19 [rdC n y s e] 18=some (.int .i64 e)/\read1 19 [rdC n y s e] 1=y[0]?/\read1 19 [rdC n y s e] 4=y[3]?:=by
 match y,yl with
 | [y0,y1,y2,y3,y4,y5,y6,y7,y8,y9,y10,y11,y12,y13,y14,y15],_=>exact⟨rfl,rfl,rfl,rfl,rfl,rfl⟩
theorem Yak (yl:y.length=16) (s':C):Z0 19 [rdC n y s e] 17 [s']=some [rdC n y s' e]:=by
 match y,yl with
 | [y0,y1,y2,y3,y4,y5,y6,y7,y8,y9,y10,y11,y12,y13,y14,y15],_=>rfl
theorem Yal (yl:y.length=16) (e':Int):Z0 19 [rdC n y s e] 18 [.int .i64 e']=some [rdC n y s e']:=by
 match y,yl with
 | [y0,y1,y2,y3,y4,y5,y6,y7,y8,y9,y10,y11,y12,y13,y14,y15],_=>rfl
theorem Yam (yl:y.length=16):Z0 19 [[.ptr (n+13) 0,.int .u8 0,.int .i64 0,.int .u32 0,.int .i64 0,.int .u32 0,.int .u32 0,.int .u32 0,.int .u32 0,.int .u32 0,.int .u32 0,.int .u32 0,.int .u32 0,.int .u32 0,.int .u32 0,.int .u32 0,.int .u32 0,.snil,.int .i64 0]] 1 y=some [rdC n y .snil 0]:=by
 match y,yl with
 | [y0,y1,y2,y3,y4,y5,y6,y7,y8,y9,y10,y11,y12,y13,y14,y15],_=>rfl
end
section
variable (Hh:Hearts K Tryz.prog)
include Hh
theorem Sz {args:List W} {h h':Hq} {v:V} (e:Zoq args h=some (v,h')):Zb 89 args h v h':=by
 unfold Zoq at e
 split at e
 ·rename_i s
  obtain⟨S,hs,e⟩:=Zk e
  have hs:=Y6 hs
  obtain⟨G,hg,e⟩:=Zk e
  obtain⟨hg,fb⟩:=Jp hg
  cases e
  refine fnG Hh Tryz.f89 ?_
  repeat (first|apply Z6|apply Yc|((first|apply Goes.Zi|apply gO fits Hh (EY Za (Zfk Hh))); · simp (maxSteps:=9^6) +decide (disch:=first|exact dZ|fail) only [go_sem,Zm,Zh,simprocAttr,hs,hg,gdL,fb]<;>rfl))
  exact Zd
 ·cases e
theorem Zcf {args:List W} {h h':Hq} {v:V} (e:Zor args h=some (v,h')):Zb 68 args h v h':=by
 unfold Zor at e
 split at e
 ·rename_i s
  obtain⟨S,hs,e⟩:=Zk e
  have hs:=Y6 hs
  obtain⟨G,hg,e⟩:=Zk e
  obtain⟨hg,fb⟩:=Jp hg
  obtain⟨X,ht,e⟩:=Zk e
  have ht:=Yw ht
  obtain⟨bo,e⟩:=Zu.1 e
  rw[aQ] at bo
  obtain⟨bo,mo⟩:=bo
  cases e
  refine fnG Hh Tryz.f68 ?_
  repeat (first|apply Z6|apply Qj|apply Yx|apply Yc|((first|apply Goes.Zi|apply gO fits Hh (EY (EY (EY Za (Sz Hh)) (Zbi Hh)) (Zd4 Hh))); · simp (maxSteps:=9^6) +decide (disch:=first|exact dZ|fail) only [go_sem,Zm,Zh,simprocAttr,hs,ht,hg,gdL,fb,bo,mo]<;>rfl)|simp +decide only [reduceIte])
  exact Zd
 ·cases e
variable {n q a b c e:Nat} {cr:Cr} {md:Int} {S T:Lq} {V:Nat->Lq} {h:Hq} {y:List C}
theorem Zgr (f:Yu a b c e=true) (m0:md≠0) (M:HE n q a b c e cr md S T V h) {z:Int} (gz:gI a b c e V z=(y,0)) (ky:y[0]? = some (.int .u8 2)) (yl:y.length=16) :
  ∃ h',Zb 36 [.c (.ptr (n+13) 0),.c (.int .i64 z)] h (.w (.c (.ptr h.next 0))) h'/\h'.get h.next=some (.row 19 [rdC n y .snil 0] false)/\h.next<h'.next/\HE n q a b c e cr md S T V h'/\Kr n q h h':=by
 obtain⟨nq,nx,n0⟩:=M.nx
 obtain⟨st,⟨kn,hs⟩,⟨dk,gl⟩,ht⟩:=M.cells
 unfold gdL gdD at gl
 have dm:(md != 0)=true:=Nn m0
 obtain⟨g0,g1,g2,g3,g4,g5⟩:=Rs (n:=n) (s:=.snil) (e:=0) yl
 rw[ky] at g4
 have wi:=Yam (n:=n) yl
 have we:=Yal (n:=n) (s:=.snil) (e:=0) yl 0
 have hG:=fun {h:Hq} (M:HE n q a b c e cr md S T V h)=>Z1i Hh f M z
 rw[gz] at hG
 simp only at hG
 have rl:=Z69 (n:=n) (s:=.snil) (e:=0) yl
 obtain⟨R,hR⟩:=xzE (rdC n y .snil 0)
 rw[hR] at g0 g1 g2 g3 g4 g5 wi we rl ⊢
 refine Ow ?_
 refine Ym Hh Tryz.f36 ?_
 have Jf:=Yp @f @hs @gl @dm @g3 @g4 @wi @we @rl
 iterate 10 (first|refine Goes.Zi Yd ?_|refine Zn Hh (EY Za (Sz Hh)) Yd ?_|apply gS)
 refine Jq fun hA eA=>?_
 have nA:hA.next=h.next+1:=nxQ eA
 have kA:∀ m,m<h.next->hA.get m=h.get m:=kQ eA
 have gA:hA.get h.next=some (.row 19 [[.ptr (n+13) 0,.int .u8 0,.int .i64 0,.int .u32 0,.int .i64 0,.int .u32 0,.int .u32 0,.int .u32 0,.int .u32 0,.int .u32 0,.int .u32 0,.int .u32 0,.int .u32 0,.int .u32 0,.int .u32 0,.int .u32 0,.int .u32 0,.snil,.int .i64 0]] false):=by rw[eA]; exact Yi
 clear eA
 obtain⟨hB,c5,MB,kB⟩:=hG (M.keep (h2:=hA) oM fun m hm=>kA m oM)
 have nB:=kB.1
 have gB:=(kB.2 h.next oM oM).trans gA
 have Jf:=Y2 Jf @gB
 iterate 9 (first|refine Goes.Zi Yd ?_|refine Zn Hh (Zj Za c5) Yd ?_|apply gS)
 refine⟨_,_,Yi,rfl,?_,?_,MB.keep ?_ fun m hm=>?_,?_,fun m hm ho=>?_⟩
 ·first|exact Zz .. | (simp (maxSteps:=9^6) +decide (disch:=first|exact dZ|fail) only [go_sem,Zm,Zh,simprocAttr]; done)
 ·simp only[H.Zf,H.Ze]; omega
 ·simp only[H.Zf,H.Ze]; omega
 ·exact Yn
 ·simp only[H.Zf,H.Ze]; omega
 ·refine Eq.trans ?_ ((kB.2 m oM ho).trans (kA m hm)); exact Yn
variable {P:Nat->Nat} {l:List Sl}
theorem Z5r (f:Yu a b c e=true) (m0:md≠0) (M:HE n q a b c e cr md S T V h) (X:InoP y P) {i z:Nat} (i8:i<8) (hz:P i=z) (z0:z≠0) (oz:Bp a b c e (z:Nat)=true) (zl:z<2+e+a * b) (Sv:SlV (V z) l) {R bB:Nat} {s:C} {bl:Lq} (hR:h.get R=some (.row 19 [rdC n y s 0] false)) (sb:SlB bB h s bl) (bR:q+9<=R/\R<bB/\bB<=h.next) (bl4:bl.length<=4000) :
  ∃ p s' h',Zb 91 [.c (.ptr R 0),.c (.int .i64 (i:Int))] h (.tup [.c (.slice p 0 8 2),.c (.int .i64 0)]) h'/\h'.get p=some (.row 16 [Oo l] false)/\h.next<=p/\p<h'.next/\h'.get R=some (.row 19 [rdC n y s' 0] false)/\SlB bB h' s' (bl++[z])/\HE n q a b c e cr md S T V h'/\h.next<=h'.next/\∀ m,m<h.next->m≠n+6->m≠R->(∀ o k z,s≠.slice m o k z)->h'.get m=h.get m:=by
 obtain⟨nq,nx,n0⟩:=M.nx
 have yl:=X.xl
 obtain⟨hB,c1,MB,kB⟩:=Z6k Hh f m0 M X (i:=i) oM (by
  rw[Zoi i8]
  intro j hj
  exact absurd hj (by simp))
 rw[Z0e i8,hz] at c1
 have nB:=kB.1
 have BR:=(kB.2 R oM oM).trans hR
 obtain⟨hG,eG,MG,nG,rG⟩:=MB.get f oz zl
 have c6:=Eo Hh eG
 have GR:=(rG R oM oM).trans BR
 have xl:(pgL (V z)).length=256:=by rw[J7,M.len oz zl]
 have cL:=fun h=>Z20 Hh Sv h
 obtain⟨g0,g1,g2,g3,g4,g5⟩:=Rs (n:=n) (s:=s) (e:=0) yl
 have wb:=fun s'=>Yak (n:=n) (s:=s) (e:=0) yl s'
 have ez:((z:Int) == 0)=false:=Db oM
 have sB:SlB bB hB s bl:=⟨sb.1.keep fun p o k z e=>kB.2 p (sb.2 p o k z e).2 (by have:=(sb.2 p o k z e).1; omega),fun p o k z e=>⟨(sb.2 p o k z e).1,by have:=(sb.2 p o k z e).2; omega⟩⟩
 have sG:SlB bB hG s bl:=⟨sB.1.keep fun p o k z e=>rG p (sB.2 p o k z e).2 (by have:=(sB.2 p o k z e).1; omega),fun p o k z e=>⟨(sB.2 p o k z e).1,by have:=(sB.2 p o k z e).2; omega⟩⟩
 have sfI:=Yew sG.1
 have sf1:=Z2z
 obtain⟨X0,hX0⟩:∃ x,pgL (V z)=x:=⟨_,rfl⟩
 rw[hX0] at c6 xl
 simp only[hX0] at cL
 obtain⟨r0,hr0⟩:∃ r,rdC n y s 0=r:=⟨_,rfl⟩
 have hR':=hR
 rw[hr0] at hR' BR GR g0 g1 g2 g3
 simp only[hr0] at wb
 obtain⟨v,h',cc,p,s',rfl,q⟩:∃ v h',Zb 91 [.c (.ptr R 0),.c (.int .i64 (i:Int))] h v h'/\∃ p s',v=.tup [.c (.slice p 0 8 2),.c (.int .i64 0)]/\h'.get p=some (.row 16 [Oo l] false)/\h.next<=p/\p<h'.next/\h'.get R=some (.row 19 [rdC n y s' 0] false)/\SlB bB h' s' (bl++[z])/\HE n q a b c e cr md S T V h'/\h.next<=h'.next/\∀ m,m<h.next->m≠n+6->m≠R->(∀ o k z,s≠.slice m o k z)->h'.get m=h.get m:=by
  refine Ym Hh Tryz.f91 ?_
  have Jf:=Jh @hR' @BR (Yp @g0 @g1 @g2 @g3 @ez @xl @yl @tA1 @tA0)
  iterate 3 (first|refine Zn Hh Za Oq ?_|apply gS)
  iterate 12 (first|refine Goes.Zi Oq ?_|refine Zn Hh (Zj Za c1) Oq ?_|refine Fe Hh (Zj Za c1) Zz0 ?_|apply gS)
  iterate 7 (first|refine Goes.Zi Oq ?_|refine Zn Hh (Zj Za c6) Oq ?_|apply gS)
  refine Jq fun hC eC=>?_
  have nC:hC.next=hG.next+1:=nxQ eC
  have kC:∀ m,m<hG.next->hC.get m=hG.get m:=kQ eC
  have gC:hC.get hG.next=some (.row 256 [X0] false):=by rw[eC]; exact Zt
  clear eC
  have CR:=(kC R oM).trans GR
  have MC:=MG.keep (h2:=hC) oM fun m hm=>kC m oM
  have sC:SlB bB hC s bl:=⟨sG.1.keep fun p o k z e=>kC p (sG.2 p o k z e).2,fun p o k z e=>⟨(sG.2 p o k z e).1,by have:=(sG.2 p o k z e).2; omega⟩⟩
  obtain⟨s',hD,ap,sD,nD,kD⟩:=Yci sC oM bl4 z
  have neP:∀ p,p<h.next->(∀ o k z,s≠.slice p o k z)->hD.get p=hC.get p:=fun p hp ne=>kD p oM ne
  have neR:∀ o k z,s≠.slice R o k z:=fun o k z e=>by have:=(sb.2 R o k z e).1; omega
  have neG:∀ o k z,s≠.slice hG.next o k z:=fun o k z e=>by have:=(sG.2 hG.next o k z e).2; omega
  have DR:=(kD R oM neR).trans CR
  have gD:=(kD hG.next oM neG).trans gC
  have lowN:∀ p,p<q+9->∀ o k z,s≠.slice p o k z:=fun p hp o k z e=>by have:=(sb.2 p o k z e).1; omega
  have MD:=MC.keep (h2:=hD) oM fun m hm=>kD m oM (lowN m hm)
  have Jf:=Yp Jf @CR @gC @ap @Yby @sfI @sf1 @DR @wb
  iterate 2 (first|refine Zn Hh Za Oq ?_|apply gS)
  refine Jq fun hE eE=>?_
  have nE:hE.next=hD.next:=by rw[eE,H.Zf]
  have kE:∀ m,m≠R->hE.get m=hD.get m:=fun m hm=>by rw[eE,Zc hm]
  have ER:hE.get R=some (.row 19 [rdC n y s' 0] false):=by rw[eE,Zz]
  clear eE
  have gE:=(kE hG.next oM).trans gD
  obtain⟨p,hF,c10,F1,F2,F3,F4⟩:=cL hE
  have Jf:=Y2 Jf @gE
  iterate 2 (first|refine Zn Hh (Zj Za c10) Oq ?_|apply gS)
  refine⟨_,_,Yi,p,s',rfl,F1,oM,F3,(F4 R oM).trans ER,⟨sD.1.keep fun p' o k z e=>(F4 p' (by have:=(sD.2 p' o k z e).2; omega)).trans (kE p' (by have:=(sD.2 p' o k z e).1; omega)),fun p' o k z e=>⟨(sD.2 p' o k z e).1,by have:=(sD.2 p' o k z e).2; omega⟩⟩,MD.keep oM fun m hm=>(F4 m oM).trans (kE m oM),oM,fun m hm h6 hRm hs=>?_⟩
  rw[F4 m oM,kE m hRm,kD m oM hs,kC m oM,rG m oM h6,kB.2 m hm h6]
 exact⟨p,s',h',cc,q⟩
end
def Lv:Nat->List (List Sl)->List (Nat × Sl)
 | _,[]=>[]
 | i,l :: r=>l.map (fun x=>(i,x))++Lv (i+1) r
def Uw (L:List (List Sl)):List (Nat × Sl):=Lv 0 L
theorem Zar:∀ {L:List (List Sl)} {j i k:Nat} {l:List Sl} {x:Sl},(∀ l∈L,l.length=8)->L[i]? = some l->l[k]? = some x->(Lv j L)[8 * i+k]? = some (j+i,x)
 | [],_,_,_,_,_,_,h,_=>by simp at h
 | l0 :: r,j,0,k,l,x,hl,h,hx=>by
  obtain rfl:l0=l:=by simpa using h
  have kl:k<l0.length:=by
   rcases Nat.lt_or_ge k l0.length with q|q
   ·exact q
   ·rw[lN q] at hx; cases hx
  unfold Lv
  rw[Nat.mul_zero,Nat.zero_add,List.getElem?_append_left (by rw[List.length_map]; exact kl),List.getElem?_map,hx]
  rfl
 | l0 :: r,j,i+1,k,l,x,hl,h,hx=>by
  have l8:=hl l0 (List.mem_cons_self ..)
  have:=Zar (L:=r) (j:=j+1) (i:=i) (k:=k) (fun l h=>hl l (List.mem_cons_of_mem _ h)) (by simpa using h) hx
  unfold Lv
  rw[List.getElem?_append_right (by rw[List.length_map]; omega),List.length_map,l8,show 8 * (i+1)+k - 8=8 * i+k by omega,this,show j+1+i=j+(i+1) by omega]
theorem Zck:∀ {L:List (List Sl)} {j:Nat},(∀ l∈L,l.length=8)->(Lv j L).length=8 * L.length
 | [],_,_=>rfl
 | l0 :: r,j,hl=>by
  unfold Lv
  rw[List.length_append,List.length_map,hl l0 (List.mem_cons_self ..),Zck fun l h=>hl l (List.mem_cons_of_mem _ h),List.length_cons]
  omega
structure DirB (a b c e:Nat) (V:Nat->Lq) (P:Nat->Nat) (bs:Lq) (L:List (List Sl)):Prop where
 lb:bs.length<=8
 ll:L.length=bs.length
 at_:∀ i z,bs[i]? = some z->P i=z/\z≠0/\Bp a b c e (z:Nat)=true/\z<2+e+a * b/\∃ l,L[i]? = some l/\SlV (V z) l
theorem DirB.l8 {a b c e:Nat} {V:Nat->Lq} {P:Nat->Nat} {bs:Lq} {L:List (List Sl)} (D:DirB a b c e V P bs L):∀ l∈L,l.length=8:=fun l hl=>by
 obtain⟨i,hi⟩:=List.mem_iff_getElem?.1 hl
 have il:i<bs.length:=by
  rcases Nat.lt_or_ge i L.length with q|q
  ·rw[D.ll] at q; exact q
  ·rw[lN q] at hi; cases hi
 obtain⟨_,_,_,_,l',h1,h2⟩:=D.at_ i _ (lG il)
 rw[h1] at hi
 cases hi
 exact h2.ll
structure RnP (n q R p1 l B:Nat) (A:Lq):Prop where
 nq:n+14<=q
 bR:q+9<=R/\R<l
 bp:q+9<=p1/\p1<l/\p1≠R
 bA:∀ m∈A,q+9<=m/\m<l/\m≠R/\m≠p1
 bB:q+9<=B
def RdS (n:Nat) (y:List C) (R l:Nat) (bl:Lq) (h:Hq):Prop:=∃ s,h.get R=some (.row 19 [rdC n y s 0] false)/\SlB (l+1) h s bl
def Kpt (n R l B:Nat) (A:Lq) (h h':Hq):Prop:=h.next<=h'.next/\∀ m,m<l->m≠R->m≠n+6->m ∉ A->(m<B\/∀ x,h.get m≠some (.row 2 x false))->h'.get m=h.get m
theorem Ba (c:C):read1 1 [[c]] 0=some c:=rfl
def Kpr (l B:Nat) (A:Lq) (h h':Hq):Prop:=h.next<=h'.next/\∀ m,m<h.next->m≠l->m ∉ A->(m<B\/∀ x,h.get m≠some (.row 2 x false))->h'.get m=h.get m
def Kpi (n R l:Nat) (h h':Hq):Prop:=h.next<=h'.next/\∀ m,m<h.next->(m<l/\m≠R/\m≠n+6\/∃ x,h.get m=some (.row 2 x false))->h'.get m=h.get m
theorem Kpt.then {n R l B:Nat} {A:Lq} {h h1 h2:Hq} (k:Kpt n R l B A h h1) (k2:Kpt n R l B A h1 h2):Kpt n R l B A h h2 :=
 ⟨Nat.le_trans k.1 k2.1,fun m m1 m3 m4 m5 m6=>by
  have e:=k.2 m m1 m3 m4 m5 m6
  exact (k2.2 m m1 m3 m4 m5 (m6.imp id fun w x=>by rw[e]; exact w x)).trans e⟩
theorem Kpr.t {n R l B:Nat} {A:Lq} {h h1:Hq} (k:Kpr l B A h h1) (ln:l<h.next):Kpt n R l B A h h1:=⟨k.1,fun m m1 _ _ m5 m6=>k.2 m oM oM m5 m6⟩
section
variable (Hh:Hearts K Tryz.prog)
include Hh
theorem Znb (R:Nat) (h:Hq):Zb 37 [.c (.ptr R 0)] h (.w (.c (.fn 90 [] [some (h.next,0)]))) (h.new (.row 1 [[.ptr R 0]] false)):=by
 refine fnG Hh Tryz.f37 ?_
 iterate 5 (first|apply Z6|apply Yc|refine Zn Hh Za Fq ?_)
 exact Fq
variable {n q a b c e:Nat} {cr:Cr} {md:Int} {S T:Lq} {V:Nat->Lq} {h0:Hq} {y:List C} {P:Nat->Nat} {bs:Lq} {L:List (List Sl)} {R p1 l B:Nat} {A:Lq} {lp:O} {I:Nat->Hq->Prop}
structure RnS (n q a b c e:Nat) (cr:Cr) (md:Int) (S T:Lq) (V:Nat->Lq) (h0:Hq) (y:List C) (bs:Lq) (R p1 l B:Nat) (A:Lq) (lp:O) (I:Nat->Hq->Prop) (t i j:Nat) (ts:Zv) (h:Hq):Prop where
 iv:I t h
 M:HE n q a b c e cr md S T V h
 rd:RdS n y R l (bs.take j) h
 hl:h.get l=some lp
 g1:h.get p1=some (.row 1 [[.ptr R 0]] false)
 kp:Kpt n R l B A h0 h
 ln:l<h.next
 s0:Zg ts 0=.w (.c (.yield l))
 s1:Zg ts 1=.w (.c (.ptr p1 0))
 s18:Zg ts 18=.w (.c (.int .i64 (bs.length:Int)))
 s19:Zg ts 19=.w (.c (.int .i64 (i:Int)))
theorem runIn (U:RnP n q R p1 l B A) (D:DirB a b c e V P bs L) (Ik:∀ t h h2,I t h->Kpi n R l h h2->I t h2)
  (round:∀ t i x h,(Uw L)[t]? = some (i,x)->i<bs.length->I t h->HE n q a b c e cr md S T V h->RdS n y R l (bs.take (i+1)) h->h.get l=some lp->l<h.next->∃ E h',Sound K Tryz.prog E/\J5 E l (some [.c (.int .i64 (i:Int)),.g (slC x)]) h (some lp)=some (.val (.w (.c (.bool true))) h')/\I (t+1) h'/\h'.get l=some lp/\HE n q a b c e cr md S T V h'/\Kpr l B A h h')
  {i p:Nat} (ib:i<bs.length) {li:List Sl} (hL:L[i]? = some li) (lp1:l<p):∀ (r k:Nat) (ts:Zv) (h:Hq),k+r=8->RnS n q a b c e cr md S T V h0 y bs R p1 l B A lp I (8 * i+k) i (i+1) ts h->h.get p=some (.row 16 [Oo li] false)->p<h.next->Zg ts 3=.w (.c (.int .i64 (i:Int)))->Zg ts 34=.w (.c (.slice p 0 8 2))->Zg ts 35=.w (.c (.int .i64 8))->Zg ts 36=.w (.c (.int .i64 (k:Int))) ->
  Z9 47 none (q90 [1,1,2,2,1,1,0,2,1,1,1,1,2]) [] ts h fun x ds' ts' h'=>x=.exit 2/\ds'=[]/\RnS n q a b c e cr md S T V h0 y bs R p1 l B A lp I (8 * i+8) i (i+1) ts' h':=by
 have l8:=D.l8 li (lM hL)
 obtain⟨nq,bR,bp,bA,bB⟩:=U
 intro r
 induction r with
 | zero =>
  intro k ts h hk N hp pl t3 t34 t35 t36
  obtain rfl:k=8:=oM
  obtain⟨i1,M,rd,hl,g1,kp,ln,s0,s1,s18,s19⟩:=N
  have Jf:=Y2 @t35 @t36
  iterate 6 (first|apply Z6|apply Ea|apply E9|refine Goes.Zi Zq ?_|refine Zn Hh Za Zq ?_)
  refine⟨rfl,rfl,i1,M,rd,hl,g1,kp,ln,?_,?_,?_,?_⟩
  ·have Jf:=@s0; exact Zq
  ·have Jf:=@s1; exact Zq
  ·have Jf:=@s18; exact Zq
  ·have Jf:=@s19; exact Zq
 | succ r ih =>
  intro k ts h hk N hp pl t3 t34 t35 t36
  obtain⟨i1,M,rd,hl,g1,kp,ln,s0,s1,s18,s19⟩:=N
  have k8:k<8:=oM
  obtain⟨x,hx⟩:∃ x,li[k]? = some x:=⟨_,lG oM⟩
  obtain⟨r0,r1,r2⟩:=Z7b l8 hx
  have at_:(Uw L)[8 * i+k]? = some (i,x):=by
   have:=Zar (j:=0) D.l8 hL hx
   rw[Nat.zero_add] at this
   exact this
  obtain⟨W,hW⟩:=xzE (Oo li)
  have hp':=hp
  rw[hW] at hp' r2
  have wz:Z0 2 [[C.int .u32 0,.str []]] 0 (slC x)=some [slC x]:=rfl
  have rz:Zm 2 [slC x] 0 2=some (slC x):=rfl
  have sl2:(slC x).length=2:=rfl
  have rd':=fun h=>round (8 * i+k) i x h at_ ib
  obtain⟨X,hX⟩:=xzE (slC x)
  rw[hX] at r2 wz rz sl2
  simp only[hX] at rd'
  have dd:decide ((k:Int)<8)=true:=decide_eq_true oM
  have Jf:=J4 @s0 @t3 @t34 (Yp @t35 @t36 @dd @hp' @r2 @wz @rz @sl2 @Nat.zero_add)
  iterate 11 (first|apply Z6|apply Yx|apply O9|apply E9|refine Goes.Zi Zt ?_|refine Zn Hh Za Zt ?_)
  refine Jq fun hA eA=>?_
  have nA:hA.next=h.next+1:=nxQ eA
  have kA:∀ m,m<h.next->hA.get m=h.get m:=kQ eA
  have bA':hA.get h.next=some (.row 2 [X] false):=by rw[eA]; exact Zt
  clear eA
  obtain⟨nq',nx,n0⟩:=M.nx
  have MA:=M.keep (h2:=hA) oM fun m hm=>kA m oM
  obtain⟨s,R1,R2⟩:=rd
  have rdA:RdS n y R l (bs.take (i+1)) hA:=⟨s,(kA R oM).trans R1,R2.1.keep fun p' o k z e=>kA p' (R2.2 p' o k z e).2,fun p' o k z e=>⟨(R2.2 p' o k z e).1,by have:=(R2.2 p' o k z e).2; omega⟩⟩
  obtain⟨E,hB,Sd,rnd,iB,lB,MB,kB⟩:=rd' hA (Ik _ _ _ i1 ⟨oM,fun m hm _=>kA m hm⟩) MA rdA ((kA l ln).trans hl) oM
  have al:=(kA l ln).trans hl
  have nB:=kB.1
  have nA_:∀ m,l<m->m ∉ A:=fun m hm w=>by have:=bA m w; omega
  have RA:=rdA
  obtain⟨s',R1',R2'⟩:=rdA
  have RB:RdS n y R l (bs.take (i+1)) hB:=⟨s',(kB.2 R oM oM (fun w=>(bA R w).2.2.1 rfl) (.inr fun x w=>by rw[R1'] at w; cases w)).trans R1',by
   rcases R2'.1 with q1|⟨p',a1,a2,a3⟩
   ·exact .inl q1
   ·have b':=R2'.2 _ _ _ _ a2
    exact .inr ⟨p',a1,a2,(kB.2 p' b'.2 oM (nA_ p' oM) (.inr fun x w=>by rw[a3] at w; cases w)).trans a3⟩,fun p' o k z e=>⟨(R2'.2 p' o k z e).1,by have:=(R2'.2 p' o k z e).2; omega⟩⟩
  have g1B:=(kB.2 p1 oM oM (fun w=>(bA p1 w).2.2.2 rfl) (.inr fun x w=>by rw[kA p1 oM,g1] at w; cases w)).trans ((kA p1 oM).trans g1)
  have pB:=(kB.2 p oM oM (nA_ p lp1) (.inr fun x w=>by rw[kA p pl,hp] at w; cases w)).trans ((kA p pl).trans hp)
  have kpA:Kpt n R l B A h hA:=⟨oM,fun m hm _ _ _ _=>kA m oM⟩
  have Jf:=J4 Jf @al @bA' @rnd
  iterate 4 (first|apply Yx|refine Goes.Zi Zt ?_|refine Zn Hh Sd Zt ?_)
  show Z9 47 none (q90 [1,1,2,2,1,1,0,2,1,1,1,1,2]) _ _ _ _
  refine ih (k+1) _ hB oM ⟨iB,MB,RB,lB,g1B,(kp.then kpA).then (kB.t oM),oM,?_,?_,?_,?_⟩ pB oM ?_ ?_ ?_ ?_
  ·have Jf:=@s0; exact Zq
  ·have Jf:=@s1; exact Zq
  ·have Jf:=@s18; exact Zq
  ·have Jf:=@s19; exact Zq
  ·have Jf:=@t3; exact Zq
  ·have Jf:=@t34; exact Zq
  ·have Jf:=@t35; exact Zq
  ·exact Zd
theorem Yas (f:Yu a b c e=true) (m0:md≠0) (U:RnP n q R p1 l B A) (X:InoP y P) (D:DirB a b c e V P bs L) (Ik:∀ t h h2,I t h->Kpi n R l h h2->I t h2)
  (round:∀ t i x h,(Uw L)[t]? = some (i,x)->i<bs.length->I t h->HE n q a b c e cr md S T V h->RdS n y R l (bs.take (i+1)) h->h.get l=some lp->l<h.next->∃ E h',Sound K Tryz.prog E/\J5 E l (some [.c (.int .i64 (i:Int)),.g (slC x)]) h (some lp)=some (.val (.w (.c (.bool true))) h')/\I (t+1) h'/\h'.get l=some lp/\HE n q a b c e cr md S T V h'/\Kpr l B A h h')
  (b0:B<=h0.next) (lo:∀ x,lp≠.row 2 x false):∀ (r i:Nat) (ts:Zv) (h:Hq),i+r=bs.length->RnS n q a b c e cr md S T V h0 y bs R p1 l B A lp I (8 * i) i i ts h ->
  Z9 47 none (q90 [1,1,2]) [] ts h fun x ds' ts' h'=>x=.exit 0/\ds'=[]/\RnS n q a b c e cr md S T V h0 y bs R p1 l B A lp I (8 * bs.length) bs.length bs.length ts' h':=by
 intro r
 induction r with
 | zero =>
  intro i ts h hi N
  obtain rfl:i=bs.length:=oM
  obtain⟨i1,M,rd,hl,g1,kp,ln,s0,s1,s18,s19⟩:=N
  have dd:decide (((bs.length:Nat):Int)<((bs.length:Nat):Int))=false:=decide_eq_false oM
  have Jf:=Jh @s18 @s19 @dd
  iterate 6 (first|apply Z6|apply Ea|apply E9|refine Goes.Zi Zq ?_|refine Zn Hh Za Zq ?_)
  refine⟨rfl,rfl,i1,M,rd,hl,g1,kp,ln,?_,?_,?_,?_⟩
  ·have Jf:=@s0; exact Zq
  ·have Jf:=@s1; exact Zq
  ·have Jf:=@s18; exact Zq
  ·have Jf:=@s19; exact Zq
 | succ r ih =>
  intro i ts h hi N
  have ib:i<bs.length:=oM
  obtain⟨i1,M,rd,hl,g1,kp,ln,s0,s1,s18,s19⟩:=N
  have lb:=D.lb
  obtain⟨z,hz⟩:∃ z,bs[i]? = some z:=⟨_,lG ib⟩
  obtain⟨d1,d2,d3,d4,li,d5,d6⟩:=D.at_ i z hz
  obtain⟨s,R1,R2⟩:=rd
  have UU:=U
  obtain⟨nq,bR,bp,bA,bB⟩:=U
  obtain⟨p,s',hB,c4,F1,F2,F3,F4,F5,MB,nB,kB⟩:=Z5r Hh f m0 M X (i:=i) oM d1 d2 d3 d4 d6 (bB:=l+1) R1 R2 ⟨bR.1,oM,oM⟩ (by rw[List.length_take]; omega)
  have tk:bs.take i++[z]=bs.take (i+1):=by rw[List.take_add_one,hz]; rfl
  rw[tk] at F5
  have neS:∀ m,m<=l->∀ o k z,s≠.slice m o k z:=fun m hm o k z w=>by have:=(R2.2 m o k z w).1; omega
  have lB:=(kB l ln oM oM (neS l oM)).trans hl
  have g1B:=(kB p1 oM oM oM (neS p1 oM)).trans g1
  have iB:=Ik _ _ _ i1 ⟨nB,fun m hm w=>by
   rcases w with ⟨w1,w2,w3⟩|⟨x,w⟩
   ·exact kB m hm w3 w2 (neS m oM)
   ·refine kB m hm (fun w2=>?_) (fun w2=>?_) (fun o k z w2=>?_)
    ·subst w2
     obtain⟨d,d1',d2',kn,ld,lt,lc,lm,LL,q1,q2,q3,q4,q5,q6,q7,q8,q9,q10,q11,MM⟩:=M
     rw[MM.hm] at w
     cases w
    ·subst w2
     rw[R1] at w
     cases w
    ·rcases R2.1 with ⟨_,q1⟩|⟨p',a1,a2,a3⟩
     ·rw[q1] at w2; cases w2
     ·rw[a2] at w2
      cases w2
      rw[a3] at w
      cases w⟩
  have kpB:Kpt n R l B A h hB:=⟨nB,fun m hm mR m6 _ w=>kB m oM m6 mR (neS m oM)⟩
  have lf:=Znw
  have dd:decide ((i:Int)<((bs.length:Nat):Int))=true:=decide_eq_true oM
  obtain⟨nb,hnb⟩:=xzE (bs.length)
  rw[hnb] at dd
  have s18':=s18
  rw[hnb] at s18'
  have Jf:=Vr @s0 @s1 @s18' @s19 @g1 @dd @Ba @lf
  iterate 11 (first|apply Z6|apply Yx|apply O9|apply E9|refine Goes.Zi Tj ?_|refine Zn Hh Za Tj ?_)
  iterate 9 (first|apply Z6|apply Yx|apply O9|refine Goes.Zi Tj ?_|refine Zn Hh (Zj Za c4) Tj ?_)
  refine (runIn Hh UU D Ik round ib d5 oM 8 0 _ hB oM ⟨iB,MB,⟨s',F4,F5⟩,lB,g1B,kp.then kpB,oM,?_,?_,?_,?_⟩ F1 F3 ?_ ?_ ?_ ?_).mono ?_
  ·have Jf:=@s0; exact Zq
  ·have Jf:=@s1; exact Zq
  ·have Jf:=@s18; exact Zq
  ·have Jf:=@s19; exact Zq
  ·exact Zd
  ·exact Zd
  ·exact Zd
  ·exact Zd
  rintro x1 ds1 ts1 h1 ⟨rfl,rfl,N1⟩
  obtain⟨i2,M2,rd2,hl2,g2,kp2,ln2,u0,u1,u18,u19⟩:=N1
  have Jf:=@u19
  refine Zn Hh Za Zq ?_
  show Z9 47 none (q90 [1,1,2]) _ _ _ _
  refine ih (i+1) _ h1 oM ⟨i2,M2,rd2,hl2,g2,kp2,ln2,?_,?_,?_,?_⟩
  ·have Jf:=@u0; exact Zq
  ·have Jf:=@u1; exact Zq
  ·have Jf:=@u18; exact Zq
  ·exact Zd
theorem Yar (f:Yu a b c e=true) (m0:md≠0) (U:RnP n q R p1 l B A) (X:InoP y P) (D:DirB a b c e V P bs L) (y3:y[3]? = some (.int .i64 ((256 * bs.length:Nat):Int))) (Ik:∀ t h h2,I t h->Kpi n R l h h2->I t h2)
  (round:∀ t i x h,(Uw L)[t]? = some (i,x)->i<bs.length->I t h->HE n q a b c e cr md S T V h->RdS n y R l (bs.take (i+1)) h->h.get l=some lp->l<h.next->∃ E h',Sound K Tryz.prog E/\J5 E l (some [.c (.int .i64 (i:Int)),.g (slC x)]) h (some lp)=some (.val (.w (.c (.bool true))) h')/\I (t+1) h'/\h'.get l=some lp/\HE n q a b c e cr md S T V h'/\Kpr l B A h h')
  (b0:B<=h0.next) (lo:∀ x,lp≠.row 2 x false) (i0:I 0 h0) (M:HE n q a b c e cr md S T V h0) (hR:h0.get R=some (.row 19 [rdC n y .snil 0] false)) (hl:h0.get l=some lp) (g1:h0.get p1=some (.row 1 [[.ptr R 0]] false)) (ln:l<h0.next) :
  ∃ v h',Zb 90 [.c (.yield l),.c (.ptr p1 0)] h0 v h'/\I (8 * bs.length) h'/\HE n q a b c e cr md S T V h'/\RdS n y R l bs h'/\h'.get l=some lp/\Kpt n R l B A h0 h':=by
 have yl:=X.xl
 obtain⟨q0,q1,q2,q3,q4,q5⟩:=Rs (n:=n) (s:=.snil) (e:=0) yl
 rw[y3] at q5
 obtain⟨r0,hr0⟩:∃ r,rdC n y .snil 0=r:=⟨_,rfl⟩
 have hR':=hR
 rw[hr0] at hR' q0 q1 q2 q3 q4 q5
 have lb:=D.lb
 obtain⟨nb,hnb⟩:=xzE (bs.length)
 have dv:256 * nb / 256=nb:=oM
 rw[hnb] at q5 lb
 obtain⟨N,hN⟩:=xzE (256 * nb)
 rw[hN] at q5 dv
 obtain⟨v,h',cc,q⟩:∃ v h',Zb 90 [.c (.yield l),.c (.ptr p1 0)] h0 v h'/\I (8 * bs.length) h'/\HE n q a b c e cr md S T V h'/\RdS n y R l bs h'/\h'.get l=some lp/\Kpt n R l B A h0 h':=by
  refine Ym Hh Tryz.f90 ?_
  have Jf:=L8 @hR' @g1 @q3 @q5 @dv @Ba
  iterate 8 (first|apply Z6|apply Yx|apply O9|refine Goes.Zi Zt ?_|refine Zn Hh Za Zt ?_)
  refine (Yas Hh f m0 U X D Ik round b0 lo bs.length 0 _ h0 oM ⟨i0,M,⟨.snil,hR,.inl ⟨rfl,rfl⟩,fun p o k z e=>by cases e⟩,hl,g1,⟨Nat.le_refl _,fun _ _ _ _ _ _=>rfl⟩,ln,?_,?_,?_,?_⟩).mono ?_
  ·exact Zd
  ·exact Zd
  ·rw[hnb]; exact Zd
  ·exact Zd
  rintro x1 ds1 ts1 h1 ⟨rfl,rfl,N1⟩
  obtain⟨i2,M2,rd2,hl2,g2,kp2,ln2,u0,u1,u18,u19⟩:=N1
  rw[List.take_of_length_le (Nat.le_refl _)] at rd2
  show ∃ v h',leave K Tryz.f90 (some (Out.at Go.Ev.X.normal [] ts1 h1))=some (Out.val v h')/\_
  exact⟨_,_,Zd,i2,M2,rd2,hl2,kp2⟩
 exact⟨v,h',cc,q⟩
theorem Zvu {nt pr1 pr2 b1:Nat} {Aa Bd:Go.Code} (ne:Bd≠Aa) (pn1:pr1<nt) (pn2:pr2<nt) {ts:Zv} {hC:Hq} {JT:Zv->Nat->Nat->Prop} (f:Yu a b c e=true) (m0:md≠0) (nC:hC.next=b1) (U:RnP n q R p1 (b1+1) B A) (X:InoP y P) (D:DirB a b c e V P bs L) (y3:y[3]? = some (.int .i64 ((256 * bs.length:Nat):Int))) (Ik:∀ t h h2,I t h->Kpi n R (b1+1) h h2->I t h2) (bB:B<=b1) (bl:R<b1/\p1<b1/\∀ m∈A,m<b1)
  (hA:∀ (i:Nat) (x:Sl) (h:Hq),Z9 nt (some (b1+1)) Aa [] ((ts.set pr1 (.w (.c (.int .i64 (i:Int))))).set pr2 (.w (.g (slC x)))) h fun x' ds' ts' h'=>x'=.normal/\ds'=[]/\JT ts' i h.next/\h'.next=h.next+1/\(∀ m,m<h.next->h'.get m=h.get m)/\h'.get h.next=some (.row 2 [slC x] false))
  (hB:∀ (t i:Nat) (x:Sl) (ts':Zv) (h:Hq) (hb:Nat),(Uw L)[t]? = some (i,x)->i<bs.length->JT ts' i hb->h.get hb=some (.row 2 [slC x] false)->b1+1<hb->hb<h.next->I t h->HE n q a b c e cr md S T V h->RdS n y R (b1+1) (bs.take (i+1)) h->(∃ lo,h.get (b1+1)=some lo/\∀ x,lo≠.row 2 x false)->Z9 nt (some (b1+1)) Bd [] ts' h fun x' _ _ h'=>x'=.normal/\h'.get (b1+1)=h.get (b1+1)/\I (t+1) h'/\HE n q a b c e cr md S T V h'/\Kpr (b1+1) B A h h')
  (hR:hC.get R=some (.row 19 [rdC n y .snil 0] false)) (g1:hC.get p1=some (.row 1 [[.ptr R 0]] false)) {g:Go.Operand} (eg:Z4 K ts g=some (.fn 90 [] [some (p1,0)])) (M:HE n q a b c e cr md S T V hC)
  (I0:∀ h2,b1+2<=h2.next->(∀ p,p<b1->h2.get p=hC.get p)->I 0 h2) :
  Z9 nt none (.rangeFunc g #[pr1,pr2] Aa Bd) [] ts hC fun x' ds' ts' h'=>x'=.normal/\ts'=ts/\ds'=[b1]/\h'.get b1=some .defers/\I (8 * bs.length) h'/\HE n q a b c e cr md S T V h'/\RdS n y R (b1+1) bs h'/\b1+2<=h'.next/\∀ m,m<b1->m≠R->m≠n+6->m ∉ A->(m<B\/∀ x,hC.get m≠some (.row 2 x false))->h'.get m=hC.get m:=by
 obtain⟨nq',nx,n0⟩:=M.nx
 have U':=U
 obtain⟨nq,bR,bp,bA,bB'⟩:=U'
 obtain⟨lp,hlp⟩:∃ lp,lp=O.loop ts nt [pr1,pr2] Aa Bd .ready none b1:=⟨_,rfl⟩
 have nA:∀ m,b1<m->m ∉ A:=fun m hm w=>by have:=bA m w; omega
 have round:∀ t i x h,(Uw L)[t]? = some (i,x)->i<bs.length->I t h->HE n q a b c e cr md S T V h->RdS n y R (b1+1) (bs.take (i+1)) h->h.get (b1+1)=some lp->b1+1<h.next->∃ E h',Sound K Tryz.prog E/\J5 E (b1+1) (some [.c (.int .i64 (i:Int)),.g (slC x)]) h (some lp)=some (.val (.w (.c (.bool true))) h')/\I (t+1) h'/\h'.get (b1+1)=some lp/\HE n q a b c e cr md S T V h'/\Kpr (b1+1) B A h h':=by
  intro t i x h at_ ib J Mh rd hl l9
  subst hlp
  obtain⟨s,R1,R2⟩:=rd
  obtain⟨E2,h2,Sd,rnd,⟨J',nl2⟩,M2,kk⟩:=Zx7 (l:=b1+1) (nt:=nt) (J:=fun ts' h'=>JT ts' i h.next/\h'.next=h.next+1/\(∀ m,m<h.next->h'.get m=h.get m)/\h'.get h.next=some (.row 2 [slC x] false))
   (Q:=fun h2=>(I (t+1) h2/\∀ x,h2.get (b1+1)≠some (.row 2 x false))/\HE n q a b c e cr md S T V h2/\Kpr (b1+1) B A h h2) ne (us:=[.c (.int .i64 (i:Int)),.g (slC x)]) (tz:=(ts.set pr1 (.w (.c (.int .i64 (i:Int))))).set pr2 (.w (.g (slC x)))) (by simp only[Oh,Zbr pn1,Zbr pn2,cond_true]) hl
   ((hA i x h).mono fun x' ds' ts' h' ⟨e1,e2,t1,n1,k1,r1⟩=>⟨e1,e2,k1 _ l9,t1,n1,k1,r1⟩)
   (fun ts' h' ⟨E',n1,k1,r1⟩=>(hB t i x ts' (h'.put (b1+1) (.loop ts nt [pr1,pr2] Aa Bd .busy none b1)) h.next at_ ib E' (by rw[Zc oM]; exact r1) oM (by rw[H.Zf]; omega) (Ik t h _ J ⟨by rw[H.Zf]; omega,fun m hm w=>by
     have:m≠b1+1:=fun q=>by
      rcases w with w|⟨x,w⟩
      ·omega
      ·rw[q,hl] at w; cases w
     rw[Zc this]; exact k1 m hm⟩) (Mh.keep (by rw[H.Zf]; omega) fun m hm=>by rw[Zc oM]; exact k1 m oM) ⟨s,by rw[Zc oM,k1 R oM]; exact R1,R2.1.keep fun p' o k z e=>by
      have:=R2.2 p' o k z e
      rw[Zc oM]; exact k1 p' this.2,fun p' o k z e=>⟨(R2.2 p' o k z e).1,by have:=(R2.2 p' o k z e).2; rw[H.Zf]; omega⟩⟩ ⟨_,Zz ..,fun x w=>by cases w⟩).mono fun x2 _ _ h2 ⟨e1,e9,J2,M2,n2,k2⟩=>by
    rw[H.Zf] at n2 k2
    refine⟨e1,e9.trans (Zz ..),⟨J2,fun x w=>by rw[e9,Zz] at w; cases w⟩,M2,oM,fun m hm ml mA w=>?_⟩
    have e0:(h'.put (b1+1) (.loop ts nt [pr1,pr2] Aa Bd .busy none b1)).get m=h.get m:=by rw[Zc ml]; exact k1 m hm
    exact (k2 m oM ml mA (w.imp id fun w x=>by rw[e0]; exact w x)).trans e0)
  have n2:=kk.1
  refine⟨E2,_,Sd,rnd,Ik _ _ _ J' ⟨by rw[H.Zf]; omega,fun m hm w=>?_⟩,Zz ..,M2.keep (by rw[H.Zf]; omega) fun m hm=>Zc oM,by rw[H.Zf]; exact n2,fun m hm ml mA w=>by rw[Zc ml]; exact kk.2 m hm ml mA w⟩
  by_cases e:m=b1+1
  ·subst e
   rcases w with w|⟨x,w⟩
   ·omega
   ·exact absurd w (nl2 x)
  ·exact Zc e
 have gl:((hC.new .defers).new lp).get (b1+1)=some lp:=Oe (by rw[H.Ze]; omega)
 have gd:((hC.new .defers).new lp).get b1=some .defers:=by rw[Yf (by rw[H.Ze]; omega),Oe oM]
 have gk:∀ p,p<b1->((hC.new .defers).new lp).get p=hC.get p:=fun p hp=>by rw[Yf (by rw[H.Ze]; omega),Yf oM]
 have nx2:((hC.new .defers).new lp).next=b1+2:=by simp only[H.Ze]; omega
 obtain⟨v,h3,cc,J,M3,rd3,g9,k3⟩:=Yar Hh f m0 U X D y3 Ik round (h0:=(hC.new .defers).new lp) oM (by subst hlp; intro x w; cases w) (I0 _ oM gk) (M.keep oM fun m hm=>gk m oM) ((gk R oM).trans hR) gl ((gk p1 oM).trans g1) oM
 have n3:=k3.1
 refine Goes.Ze4 fits Hh (f:=90) (first:=[]) (caps:=[some (p1,0)]) eg ⟨v,h3,?_,?_⟩
 ·rw[nC]
  subst hlp
  exact cc
 ·rw[nC]
  subst hlp
  refine⟨_,_,_,_,_,_,_,_,g9,by simp,?_⟩
  show _/\_/\_
  obtain⟨s,R1,R2⟩:=rd3
  refine⟨rfl,rfl,rfl,?_,Ik _ _ _ J ⟨by rw[H.Zf]; omega,fun m hm w=>Zc fun q=>?_⟩,M3.keep (by rw[H.Zf]; omega) fun m hm=>Zc oM,⟨s,by rw[Zc oM]; exact R1,R2.1.keep fun p' o k z e=>Zc (by have:=(R2.2 p' o k z e).1; omega),fun p' o k z e=>⟨(R2.2 p' o k z e).1,by have:=(R2.2 p' o k z e).2; rw[H.Zf]; omega⟩⟩,by rw[H.Zf]; omega,fun m hm mR m6 mA w=>?_⟩
  ·rw[Zc oM,k3.2 b1 oM oM oM (fun w=>by have:=bl.2.2 b1 w; omega) (.inr fun x w=>by rw[gd] at w; cases w)]
   exact gd
  ·rcases w with w|⟨x,w⟩
   ·omega
   ·rw[q,g9] at w; cases w
  ·rw[Zc oM,k3.2 m oM mR m6 mA (w.imp id fun w x=>by rw[gk m hm]; exact w x)]
   exact gk m hm
end
theorem ty258:K.types.get 258=some ti258:=kR
theorem sz258:ti258.size=1:=by rfl
theorem ag258:ti258.agg=false:=by rfl
attribute [go_sem] ty258 sz258 ag258
noncomputable def q75 (p:Lq):Code:=piece p (J8 Tryz.f75)
theorem Zyl:q75 [1,1,0,1,2]=.rangeFunc (.tmp 11) #[12,13] (q75 [1,1,0,1,2,5]) (q75 [1,1,0,1,2,6]):=kR
theorem Ztp:q75 [1,1,0,1,2,5]=.seq (q75 [1,1,0,1,2,5,0]) (q75 [1,1,0,1,2,5,1]):=kR
theorem Ztq:q75 [1,1,0,1,2,6]=.block 1 (q75 [1,1,0,1,2,6,2]):=kR
theorem rs75:Tryz.f75.results.toList=[.cell 4 3,.cell 5 3]:=rfl
theorem rs149:Tryz.f149.results.toList=[]:=rfl
theorem rs92:Tryz.f92.results.toList=[.tmp 6,.tmp 7]:=rfl
attribute [go_sem] rs75 rs149 rs92
def lkF (bs:Lq) (s:List UInt8):List (Nat × Sl)->Nat × Nat
 | []=>(0,0)
 | (i,x) :: r=>if x.1≠0/\x.2=s then (x.1,bs.getD i 0) else lkF bs s r
theorem Zqr {bs:Lq} {s:List UInt8} {i:Nat} {x:Sl}:∀ {l:List (Nat × Sl)},lkF bs s (l++[(i,x)])=if (lkF bs s l).1=0/\x.1≠0/\x.2=s then (x.1,bs.getD i 0) else lkF bs s l
 | []=>by
  show (if x.1≠0/\x.2=s then (x.1,bs.getD i 0) else (0,0))=if (0:Nat)=0/\x.1≠0/\x.2=s then (x.1,bs.getD i 0) else (0,0)
  simp
 | (j,y) :: r=>by
  have ih:=Zqr (bs:=bs) (s:=s) (i:=i) (x:=x) (l:=r)
  show (if y.1≠0/\y.2=s then (y.1,bs.getD j 0) else lkF bs s (r++[(i,x)]))=_
  have e:lkF bs s ((j,y) :: r)=if y.1≠0/\y.2=s then (y.1,bs.getD j 0) else lkF bs s r:=rfl
  rw[ih,e]
  by_cases w:y.1≠0/\y.2=s
  ·simp only[if_pos w]
   rw[if_neg fun q=>w.1 q.1]
  ·simp only[if_neg w]
theorem Zma {α:Type} {l:List α} {t:Nat} {x:α} (h:l[t]? = some x):l.take (t+1)=l.take t++[x]:=by
 rw[List.take_add_one,h]
 rfl
section
variable (Hh:Hearts K Tryz.prog)
include Hh
variable {n q a b c e:Nat} {cr:Cr} {md:Int} {S T:Lq} {V:Nat->Lq} {h:Hq} {y:List C} {P:Nat->Nat} {bs:Lq} {L:List (List Sl)} {R l:Nat} {s:List UInt8}
theorem Z6h (yl:y.length=16) {x1 x2 x3 x4 i u w z:Nat} {x:Sl} {bl:Lq} (rd:RdS n y R l bl h) (hz:bl[i]? = some z) (xb:x.1<4294967296) (g1:h.get x1=some (.row 1 [[.ptr R 0]] false)) (g2:h.get x2=some (.row 1 [[.str s]] false)) (g3:h.get x3=some (.row 1 [[.int .i64 (u:Int)]] false)) (g4:h.get x4=some (.row 1 [[.int .i64 (w:Int)]] false)) (b1:x1<h.next) (b2:x2<h.next) (b3:x3<h.next) (b4:x4<h.next) (bR:R<h.next) (ne:x3≠x4/\x3≠R/\x4≠R/\x3≠x1/\x4≠x1/\x3≠x2/\x4≠x2/\x3<=l/\x4<=l) :
  ∃ h',Zb 149 [.c (.int .i64 (i:Int)),.g (slC x),.c (.ptr x3 0),.c (.ptr x2 0),.c (.ptr x1 0),.c (.ptr x4 0)] h (.tup []) h'/\h.next<=h'.next/\(∀ m,m<h.next->m≠x3->m≠x4->h'.get m=h.get m)/\h'.get x3=some (.row 1 [[.int .i64 ((if u=0/\x.1≠0/\x.2=s then x.1 else u:Nat):Int)]] false)/\h'.get x4=some (.row 1 [[.int .i64 ((if u=0/\x.1≠0/\x.2=s then z else w:Nat):Int)]] false):=by
 obtain⟨c,R1,R2⟩:=rd
 obtain⟨q0,q1,q2,q3,q4,q5⟩:=Rs (n:=n) (s:=c) (e:=0) yl
 obtain⟨r0,hr0⟩:∃ r,rdC n y c 0=r:=⟨_,rfl⟩
 rw[hr0] at R1 q2
 obtain⟨xi,xn⟩:=x
 unfold slC
 simp only at xb ⊢
 obtain⟨p,rfl,gp,bp,pl⟩:∃ p,c=.slice p 0 bl.length 1/\h.get p=some (.row 1 (rwI bl) false)/\l+1<=p/\p<h.next:=by
  rcases R2.1 with ⟨w,_⟩|⟨p,a1,a2,a3⟩
  ·rw[w] at hz; simp at hz
  ·exact⟨p,a2,a3,(R2.2 _ _ _ _ a2).1,(R2.2 _ _ _ _ a2).2⟩
 have ib:i<bl.length:=by
  rcases Nat.lt_or_ge i bl.length with w|w
  ·exact w
  ·rw[lN w] at hz; cases hz
 have rz:=rdI hz
 obtain⟨B,hB⟩:=xzE (rwI bl)
 obtain⟨lb,hlb⟩:=xzE (bl.length)
 rw[hB] at gp rz
 rw[hlb] at q2 ib
 refine Ow ?_
 by_cases u0:u=0
 ·have e1:((u:Int) == 0)=true:=by subst u0; rfl
  by_cases x0:xi=0
  ·have e2:((xi:Int) != 0)=false:=by subst x0; rfl
   have nn:¬ (u=0/\xi≠0/\xn=s):=fun w=>w.2.1 x0
   simp only[if_neg nn]
   refine Ym Hh Tryz.f149 ?_
   have Jf:=L8 @g3 @e1 @e2 @rd20 @rd21 @Ba
   iterate 6 (first|refine Goes.Zi Zas ?_|refine Zn Hh Za Zas ?_|apply gS)
   exact⟨_,_,Zd,rfl,by simp only[H.Zf,H.Ze]; omega,fun m hm _ _=>by exact Yn,by refine Eq.trans ?_ g3; exact Yn,by refine Eq.trans ?_ g4; exact Yn⟩
  ·have e2:((xi:Int) != 0)=true:=Nn oM
   by_cases xs:xn=s
   ·have e3:Uk xn s=true:=Ep.2 xs
    have nn:u=0/\xi≠0/\xn=s:=⟨u0,x0,xs⟩
    simp only[if_pos nn]
    refine Ym Hh Tryz.f149 ?_
    iterate 6 (first|((first|apply Goes.Zi|apply gO fits Hh Za); · simp (maxSteps:=9^6) +decide (disch:=first|exact dZ|fail) only [go_sem,Zh,simprocAttr,g1,g2,g3,g4,e1,e2,e3,R1,q2,gp,rz,rd20,rd21,Ba,Yt,R6]<;>rfl)|(apply Goes.drawn2 fits Hh Za kR; · simp (maxSteps:=9^6) +decide (disch:=first|exact dZ|fail) only [go_sem,Zh,simprocAttr,drG,g1,g2,g3,g4,e1,e2,e3,R1,q2,gp,rz,rd20,rd21,Ba,Yt,R6]<;>rfl)|apply gS)
    refine⟨_,_,Zd,rfl,?_,fun m hm _ _=>?_,?_,?_⟩
    ·simp only[H.Zf,H.Ze]; omega
    ·exact Yn
    ·exact Yn<;>rfl
    ·exact Yn<;>rfl
   ·have e3:Uk xn s=false:=by rw[Zel]; exact decide_eq_false xs
    have nn:¬ (u=0/\xi≠0/\xn=s):=fun w=>xs w.2.2
    simp only[if_neg nn]
    refine Ym Hh Tryz.f149 ?_
    iterate 6 (first|((first|apply Goes.Zi|apply gO fits Hh Za); · simp (maxSteps:=9^6) +decide (disch:=first|exact dZ|fail) only [go_sem,Zm,Zh,simprocAttr,g2,g3,e1,e2,e3,rd20,rd21,Ba,Yt,R6]<;>rfl)|apply gS)
    exact⟨_,_,Zd,rfl,by simp only[H.Zf,H.Ze]; omega,fun m hm _ _=>by exact Yn,by refine Eq.trans ?_ g3; exact Yn,by refine Eq.trans ?_ g4; exact Yn⟩
 ·have e1:((u:Int) == 0)=false:=Db oM
  have nn:¬ (u=0/\xi≠0/\xn=s):=fun w=>u0 w.1
  simp only[if_neg nn]
  refine Ym Hh Tryz.f149 ?_
  have Jf:=Gq @g3 @e1 @rd20 @rd21 @Ba
  iterate 6 (first|refine Goes.Zi Zas ?_|refine Zn Hh Za Zas ?_|apply gS)
  exact⟨_,_,Zd,rfl,by simp only[H.Zf,H.Ze]; omega,fun m hm _ _=>by exact Yn,by refine Eq.trans ?_ g3; exact Yn,by refine Eq.trans ?_ g4; exact Yn⟩
structure LkI (n R b0:Nat) (bs:Lq) (s:List UInt8) (A:List (Nat × Sl)) (t:Nat) (h:Hq):Prop where
 c1:h.get b0=some (.row 1 [[.ptr R 0]] false)
 c2:h.get (b0+1)=some (.row 1 [[.str s]] false)
 c3:h.get (b0+2)=some (.row 1 [[.int .i64 ((lkF bs s (A.take t)).1:Int)]] false)
 c4:h.get (b0+3)=some (.row 1 [[.int .i64 ((lkF bs s (A.take t)).2:Int)]] false)
 c6:h.get (b0+4)=some (.row 1 [[.fn 149 [] [some (b0+2,0),some (b0+1,0),some (b0,0),some (b0+3,0)]]] false)
 nx:b0+8<=h.next
theorem lkA (lq:Nat) (ts:Zv) (i:Nat) (u:List C) (ul:u.length=2) (h:Hq):Z9 20 (some lq) (q75 [1,1,0,1,2,5]) [] ((ts.set 12 (.w (.c (.int .i64 (i:Int))))).set 13 (.w (.g u))) h fun x ds' ts' h'=>x=.normal/\ds'=[]/\((∀ s,s<=6->Zg ts' s=Zg ts s)/\Zg ts' 7=.w (.c (.int .i64 (i:Int)))/\Zg ts' 8=.w (.c (.ptr h.next 0)))/\h'.next=h.next+1/\(∀ m,m<h.next->h'.get m=h.get m)/\h'.get h.next=some (.row 2 [u] false):=by
 have wr2:Z0 2 [[.int .u32 0,.str []]] 0 u=some [u]:=by
  match u,ul with
  | [u0,u1],_=>rfl
 have Jf:=Y2 @ul @wr2
 iterate 3 (first|refine Zn Hh Za Zt ?_|apply gS)
 refine⟨rfl,rfl,⟨fun s hs=>?_,?_,?_⟩,?_,fun m hm=>?_,?_⟩
 ·simp (decide:=true) only [Y9 hs]
 ·exact Zd
 ·exact Zd
 ·simp only[H.Zf,H.Ze]
 ·exact Yn
 ·first|exact Zz .. | (simp (maxSteps:=9^6) +decide (disch:=first|exact dZ|fail) only [go_sem,Zm,Zh,simprocAttr]; done)|(exact Zd)
theorem lkB (yl:y.length=16) (M:HE n q a b c e cr md S T V h) {b0 t i hb:Nat} {x:Sl} {A:List (Nat × Sl)} {ts:Zv} (bq:q+9<=b0) (nq:n+14<=q) (bR:q+9<=R/\R<b0) (at_:A[t]? = some (i,x)) (ib:i<bs.length) (xb:x.1<4294967296) (t6:Zg ts 6=.w (.c (.ptr (b0+4) 0))) (t7:Zg ts 7=.w (.c (.int .i64 (i:Int)))) (t8:Zg ts 8=.w (.c (.ptr hb 0))) (gb:h.get hb=some (.row 2 [slC x] false)) (J:LkI n R b0 bs s A t h) (rd:RdS n y R (b0+7) (bs.take (i+1)) h) :
  Z9 20 (some (b0+7)) (q75 [1,1,0,1,2,6]) [] ts h fun x' _ _ h'=>x'=.normal/\h'.get (b0+7)=h.get (b0+7)/\LkI n R b0 bs s A (t+1) h'/\HE n q a b c e cr md S T V h'/\Kpr (b0+7) b0 [b0+2,b0+3] h h':=by
 obtain⟨c1,c2,c3,c4,c6,nx⟩:=J
 obtain⟨z,hz⟩:∃ z,bs[i]? = some z:=⟨_,lG ib⟩
 have hz':(bs.take (i+1))[i]? = some z:=by rw[List.getElem?_take_of_lt oM]; exact hz
 obtain⟨hB,cc,nB,kB,r3,r4⟩:=Z6h Hh yl rd hz' xb c1 c2 c3 c4 oM oM oM oM oM ⟨oM,oM,oM,oM,oM,oM,oM,oM,oM⟩
 have sn:=Zqr (bs:=bs) (s:=s) (i:=i) (x:=x) (l:=A.take t)
 rw[<-Zma at_] at sn
 have zz:bs.getD i 0=z:=by rw[List.getD_eq_getElem?_getD,hz]; rfl
 have e3:(if (lkF bs s (A.take t)).1=0/\x.1≠0/\x.2=s then x.1 else (lkF bs s (A.take t)).1)=(lkF bs s (A.take (t+1))).1:=by
  rw[sn]
  split<;>rfl
 have e4:(if (lkF bs s (A.take t)).1=0/\x.1≠0/\x.2=s then z else (lkF bs s (A.take t)).2)=(lkF bs s (A.take (t+1))).2:=by
  rw[sn]
  split
  ·exact zz.symm
  ·rfl
 rw[e3] at r3
 rw[e4] at r4
 have sl2:Zm 2 [slC x] 0 2=some (slC x):=rfl
 obtain⟨X,hX⟩:=xzE (slC x)
 rw[hX] at cc gb sl2
 apply O9
 have Jf:=Ng @t6 @t7 @t8 @c6 @gb @sl2 @Ba
 refine Zn Hh (Zj Za cc) Z4z ?_
 refine⟨rfl,kB _ oM oM oM,⟨(kB _ oM oM oM).trans c1,(kB _ oM oM oM).trans c2,r3,r4,(kB _ oM oM oM).trans c6,oM⟩,M.keep nB fun m hm=>kB m oM oM oM,nB,fun m hm _ mA _=>kB m hm (fun w=>mA (by rw[w]; simp)) (fun w=>mA (by rw[w]; simp))⟩
theorem Z1t (f:Yu a b c e=true) (m0:md≠0) (M:HE n q a b c e cr md S T V h) (X:InoP y P) (D:DirB a b c e V P bs L) (y3:y[3]? = some (.int .i64 ((256 * bs.length:Nat):Int))) (sok:∀ p∈Uw L,p.2.1<4294967296) (hR:h.get R=some (.row 19 [rdC n y .snil 0] false)) (bR:q+9<=R/\R<h.next) :
  ∃ h',Zb 75 [.c (.ptr R 0),.c (.str s)] h (.tup [.c (.int .i64 ((lkF bs s (Uw L)).1:Int)),.c (.int .i64 ((lkF bs s (Uw L)).2:Int))]) h'/\HE n q a b c e cr md S T V h'/\(∃ c,h'.get R=some (.row 19 [rdC n y c 0] false))/\h.next<=h'.next/\∀ m,m<h.next->m≠R->m≠n+6->h'.get m=h.get m:=by
 obtain⟨nq,nx,n0⟩:=M.nx
 have yl:=X.xl
 have Al:(Uw L).length=8 * bs.length:=by unfold Uw; rw[Zck D.l8,D.ll]
 have cA:=fun h=>Znb Hh R h
 obtain⟨b0,hb0⟩:=xzE (h.next)
 have U:RnP n q R (b0+5) (b0+7) b0 [b0+2,b0+3]:=⟨nq,⟨oM,oM⟩,⟨oM,oM,oM⟩,fun m hm=>by
  simp only[List.mem_cons,List.not_mem_nil,or_false] at hm
  omega,oM⟩
 refine Ow ?_
 refine Ym Hh Tryz.f75 ?_
 have Jf:=@Ba
 iterate 6 (first|refine Zn Hh Za Zgj ?_|apply gS)
 iterate 2 (first|refine Zn Hh (Y3 Za cA) Zgj ?_|apply gS)
 refine Jq fun hC eC=>?_
 have nC:hC.next=b0+6:=by rw[eC]; simp only[H.Zf,H.Ze,hb0]
 have kC:∀ m,m<h.next->hC.get m=h.get m:=kQ eC
 have a1:hC.get b0=some (.row 1 [[.ptr R 0]] false):=by rw[eC,<-hb0]; exact Zd
 have a2:hC.get (b0+1)=some (.row 1 [[.str s]] false):=by rw[eC,<-hb0]; exact Zd
 have a3:hC.get (b0+2)=some (.row 1 [[.int .i64 0]] false):=by rw[eC,<-hb0]; exact Zd
 have a4:hC.get (b0+3)=some (.row 1 [[.int .i64 0]] false):=by rw[eC,<-hb0]; exact Zd
 have a6:hC.get (b0+4)=some (.row 1 [[.fn 149 [] [some (b0+2,0),some (b0+1,0),some (b0,0),some (b0+3,0)]]] false):=by rw[eC,<-hb0]; exact Zd
 have a7:hC.get (b0+5)=some (.row 1 [[.ptr R 0]] false):=by rw[eC,<-hb0]; exact Zd
 clear eC
 have ne:(q75 [1,1,0,1,2,6])≠(q75 [1,1,0,1,2,5]):=fun e1=>by
  rw[Ztq,Ztp] at e1
  cases e1
 show Z9 20 none (q75 [1,1,0,1,2]) _ _ _ _
 rw[Zyl]
 refine Z82 fun ts hts=>?_
 have t6:Zg ts 6=.w (.c (.ptr (b0+4) 0)):=by rw[hts,<-hb0]; exact Zd
 have eg:Z4 K ts (.tmp 11)=some (.fn 90 [] [some (b0+5,0)]):=by
  rw[hts,<-hb0]
  exact Zd
 refine (Zvu Hh (I:=LkI n R b0 bs s (Uw L)) (JT:=fun ts' i hb=>Zg ts' 6=.w (.c (.ptr (b0+4) 0))/\Zg ts' 7=.w (.c (.int .i64 (i:Int)))/\Zg ts' 8=.w (.c (.ptr hb 0))) ne oM oM f m0 nC U X D y3 ?_ oM ⟨oM,oM,fun m hm=>by simp only[List.mem_cons,List.not_mem_nil,or_false] at hm; omega⟩ ?_ ?_ ((kC R bR.2).trans hR) a7 eg (M.keep oM fun m hm=>kC m oM) ?_).mono ?_
 ·exact fun t h1 h2 J k=>by
   have kk:∀ m,m<b0+6->m≠R->m≠n+6->h2.get m=h1.get m:=fun m hm h1' h2'=>k.2 m (by have:=J.nx; omega) (.inl ⟨oM,h1',h2'⟩)
   exact⟨(kk _ oM oM oM).trans J.c1,(kk _ oM oM oM).trans J.c2,(kk _ oM oM oM).trans J.c3,(kk _ oM oM oM).trans J.c4,(kk _ oM oM oM).trans J.c6,Nat.le_trans J.nx k.1⟩
 ·exact fun i x h1=>(lkA Hh (b0+6+1) ts i (slC x) rfl h1).mono fun x' ds' ts' h' ⟨e1,e2,⟨t1,t7,t8⟩,n1,k1,r1⟩=>⟨e1,e2,⟨(t1 6 dM).trans t6,t7,t8⟩,n1,k1,r1⟩
 ·exact fun t i x ts' h1 hb at_ ib ⟨u6,u7,u8⟩ gb p1 p2 J M1 rd1 _=>lkB Hh yl M1 oM nq ⟨bR.1,oM⟩ at_ ib (sok _ (lM at_)) u6 u7 u8 gb J rd1
 ·exact fun h2 n2 k2=>⟨(k2 _ oM).trans a1,(k2 _ oM).trans a2,(k2 _ oM).trans a3,(k2 _ oM).trans a4,(k2 _ oM).trans a6,oM⟩
 rintro x1 ds1 ts1 h1 ⟨rfl,rfl,rfl,gd,J,M1,rd1,n1,k1⟩
 subst hts
 rw[<-Al] at J
 obtain⟨c1,c2,c3,c4,c6,nx'⟩:=J
 rw[List.take_of_length_le (Nat.le_refl _)] at c3 c4
 obtain⟨cs,R1,R2⟩:=rd1
 obtain⟨w1,hw1⟩:∃ w,(lkF bs s (Uw L)).1=w:=⟨_,rfl⟩
 obtain⟨w2,hw2⟩:∃ w,(lkF bs s (Uw L)).2=w:=⟨_,rfl⟩
 rw[hw1] at c3 ⊢
 rw[hw2] at c4 ⊢
 have z1:h.next+1+1=b0+2:=oM
 have z2:h.next+1+1+1=b0+3:=oM
 have Jf:=L8 @Ba @gd @c3 @c4 @z1 @z2
 iterate 3 (first|refine Fe Hh Za Zz7 ?_|apply gS)
 refine⟨_,_,Zq,rfl,M1.keep ?_ fun m hm=>?_,⟨cs,?_⟩,?_,fun m hm mR m6=>?_⟩
 ·simp only[H.Zf,H.Yv]<;>omega
 ·exact Yn
 ·refine Eq.trans ?_ R1; exact Yn
 ·simp only[H.Zf,H.Yv]<;>omega
 ·refine Eq.trans ?_ ((k1 m oM mR m6 (fun w=>by simp only[List.mem_cons,List.not_mem_nil,or_false] at w; omega) (.inl oM)).trans (kC m hm)); exact Yn
structure DirO (a b c e:Nat) (V:Nat->Lq) (z:Int) (y:List C) (P:Nat->Nat) (bs:Lq) (L:List (List Sl)):Prop where
 gz:gI a b c e V z=(y,0)
 ky:y[0]? = some (.int .u8 2)
 ip:InoP y P
 sz:y[3]? = some (.int .i64 ((256 * bs.length:Nat):Int))
 db:DirB a b c e V P bs L
omit Hh in
theorem DirB.sok (D:DirB a b c e V P bs L):∀ p∈Uw L,Z21 p.2:=by
 have key:∀ (L:List (List Sl)) (j:Nat),(∀ l∈L,∀ x∈l,Z21 x)->∀ p∈Lv j L,Z21 p.2:=fun L=>by
  induction L with
  | nil=>intro j _ p hp; simp [Lv] at hp
  | cons l r ih =>
   intro j hl p hp
   unfold Lv at hp
   rcases List.mem_append.1 hp with w|w
   ·obtain⟨x,hx,rfl⟩:=List.mem_map.1 w
    exact hl l (List.mem_cons_self ..) x hx
   ·exact ih (j+1) (fun l' h'=>hl l' (List.mem_cons_of_mem _ h')) p w
 refine key L 0 fun l hl=>?_
 obtain⟨i,hi⟩:=List.mem_iff_getElem?.1 hl
 have il:i<bs.length:=by
  rcases Nat.lt_or_ge i L.length with q|q
  ·rw[D.ll] at q; exact q
  ·rw[lN q] at hi; cases hi
 obtain⟨_,_,_,_,l',h1,h2⟩:=D.at_ i _ (lG il)
 rw[h1] at hi
 cases hi
 exact h2.ok
omit Hh in
theorem DirB.sb (D:DirB a b c e V P bs L):∀ p∈Uw L,p.2.1<4294967296:=fun p hp=>by
 rcases D.sok p hp with w|w
 ·rw[w]; show 0<_; omega
 ·exact w.2.1
theorem Z0t (f:Yu a b c e=true) (m0:md≠0) (M:HE n q a b c e cr md S T V h) {z:Int} (O:DirO a b c e V z y P bs L) (s:List UInt8) :
  ∃ h',Zb 92 [.c (.ptr (n+13) 0),.c (.int .i64 z),.c (.str s)] h (.tup [.c (.int .i64 (if Rp s=true then ((lkF bs s (Uw L)).1:Int) else 0)),.c (.int .i64 (if Rp s=true then (if (lkF bs s (Uw L)).1=0 then 301 else 0) else 290))]) h'/\HE n q a b c e cr md S T V h'/\Kr n q h h':=by
 obtain⟨nq,nx,n0⟩:=M.nx
 obtain⟨st,⟨kn,hs⟩,⟨dk,gl⟩,ht⟩:=M.cells
 unfold gdL gdD at gl
 have dm:(md != 0)=true:=Nn m0
 have cM:=fun h=>Zx6 Hh s h
 obtain⟨gz,ky,ip,sz,db⟩:=O
 have yl:=ip.xl
 refine Ow ?_
 cases my:Rp s with
 | false =>
  rw[my] at cM
  rw[if_neg dM,if_neg dM]
  refine Ym Hh Tryz.f92 ?_
  have Jf:=J4 @f @hs @gl @dm
  iterate 9 (first|refine Goes.Zi Ot ?_|refine Zn Hh (EY Za (Sz Hh)) Ot ?_|apply gS)
  iterate 5 (first|refine Goes.Zi Ot ?_|refine Zn Hh (Y3 Za cM) Ot ?_|apply gS)
  exact⟨_,_,Zd,rfl,M,⟨Nat.le_refl _,fun _ _ _=>rfl⟩⟩
 | true =>
  rw[my] at cM
  simp only[if_true]
  obtain⟨hB,c5,BR,nB,MB,kB⟩:=Zgr Hh f m0 M gz ky yl
  obtain⟨hD,c6,MD,⟨cs,DR⟩,nD,kD⟩:=Z1t Hh (s:=s) f m0 MB ip db sz db.sb BR ⟨oM,nB⟩
  obtain⟨g0,g1,g2,g3,g4,g5⟩:=Rs (n:=n) (s:=cs) (e:=0) yl
  obtain⟨r0,hr0⟩:∃ r,rdC n y cs 0=r:=⟨_,rfl⟩
  rw[hr0] at DR g3
  obtain⟨w1,hw1⟩:∃ w,(lkF bs s (Uw L)).1=w:=⟨_,rfl⟩
  obtain⟨w2,hw2⟩:∃ w,(lkF bs s (Uw L)).2=w:=⟨_,rfl⟩
  rw[hw1,hw2] at c6
  rw[hw1]
  have kr:Kr n q h hD:=⟨oM,fun m hm m6=>(kD m oM oM m6).trans (kB.2 m hm m6)⟩
  by_cases w0:w1=0
  ·have ew:((w1:Int) == 0)=true:=by subst w0; rfl
   rw[if_pos w0,w0]
   rw[w0] at ew c6
   refine Ym Hh Tryz.f92 ?_
   have Jf:=Ng @f @hs @gl @dm @DR @g3 @ew
   iterate 9 (first|refine Goes.Zi Uh ?_|refine Zn Hh (EY Za (Sz Hh)) Uh ?_|apply gS)
   iterate 4 (first|refine Goes.Zi Uh ?_|refine Zn Hh (Y3 Za cM) Uh ?_|apply gS)
   iterate 2 (first|refine Zn Hh (Zj Za c5) Uh ?_|apply gS)
   iterate 13 (first|refine Goes.Zi Uh ?_|refine Zn Hh (Zj Za c6) Uh ?_|apply gS)
   exact⟨_,_,Zd,rfl,MD,kr⟩
  ·have ew:((w1:Int) == 0)=false:=Db oM
   rw[if_neg w0]
   refine Ym Hh Tryz.f92 ?_
   have Jf:=Ng @f @hs @gl @dm @DR @g3 @ew
   iterate 9 (first|refine Goes.Zi Uh ?_|refine Zn Hh (EY Za (Sz Hh)) Uh ?_|apply gS)
   iterate 4 (first|refine Goes.Zi Uh ?_|refine Zn Hh (Y3 Za cM) Uh ?_|apply gS)
   iterate 2 (first|refine Zn Hh (Zj Za c5) Uh ?_|apply gS)
   iterate 14 (first|refine Goes.Zi Uh ?_|refine Zn Hh (Zj Za c6) Uh ?_|apply gS)
   exact⟨_,_,Zd,rfl,MD,kr⟩
end
theorem ty62:K.types.get 62=some ti62:=kR
theorem de62:ti62.desc=(.slice 9):=by rfl
theorem ty66:K.types.get 66=some ti66:=kR
theorem sz66:ti66.size=3:=by rfl
theorem ag66:ti66.agg=true:=by rfl
theorem fo66_0:Zw K 66 0=some (0,ti3):=kR
theorem fo66_1:Zw K 66 1=some (1,ti9):=kR
theorem fo66_2:Zw K 66 2=some (2,ti3):=kR
theorem bu66 (ps:List (Nat × W)):Yr K 66 (some ps)=gW (Yh K 66 ps ti66.zero.cells):=kR
theorem ze66:ti66.zero=(.g ([.int .i64 0,.str [],.int .i64 0])):=by rfl
attribute [go_sem] ty62 de62 ty66 sz66 ag66 fo66_0 fo66_1 fo66_2 bu66 ze66
noncomputable def q38 (p:Lq):Code:=piece p (J8 Tryz.f38)
theorem rs17:Tryz.f17.results.toList=[.tmp 2]:=rfl
theorem rs38:Tryz.f38.results.toList=[.tmp 4,.tmp 5]:=rfl
theorem rs43:Tryz.f43.results.toList=[.cell 4 66,.tmp 5]:=rfl
theorem rs25:Tryz.f25.results.toList=[.cell 4 66,.cell 5 43,.tmp 6]:=rfl
theorem rs19:Tryz.f19.results.toList=[.cell 4 66,.tmp 5]:=rfl
attribute [go_sem] rs17 rs38 rs43 rs25 rs19
def Zo3:Kn1:=fun args h=>match args with
 | [.c (.ptr s 0)]=>(G6 h s).bind fun S=>(Eu h S.gd).bind fun G=>some (.w (.c (.bool (G.md != 0))),h)
 | _=>none
attribute [go_sem] Zo3
def Mk (A:List (List UInt8)):List (List C):=A.map fun s=>[.str s]
theorem Z2n {A:List (List UInt8)} {k:Nat} {s:List UInt8} (h:A[k]? = some s):read1 1 (Mk A) k=some (.str s):=by
 have hr:(Mk A)[k]? = some [C.str s]:=by unfold Mk; rw[List.getElem?_map,h]; rfl
 have:=Fa (L:=Mk A) (sz:=1) (i:=k) (j:=0) oM hr
 rwa [Nat.mul_one,Nat.add_zero] at this
theorem Zio:∀ {k:Nat},k<=4->∀ p:Nat,Y4 K 62 (.c (.slice p 0 k 1))=true
 | 0,_,p=>kR
 | 1,_,p=>kR
 | 2,_,p=>kR
 | 3,_,p=>kR
 | 4,_,p=>kR
section
variable (Hh:Hearts K Tryz.prog)
include Hh
theorem Qa {args:List W} {h h':Hq} {v:V} (e:Zo3 args h=some (v,h')):Zb 17 args h v h':=by
 unfold Zo3 at e
 split at e
 ·rename_i s
  obtain⟨S,hs,e⟩:=Zk e
  have hs:=Y6 hs
  obtain⟨G,hg,e⟩:=Zk e
  obtain⟨hg,fb⟩:=Jp hg
  cases e
  refine fnG Hh Tryz.f17 ?_
  repeat (first|apply Z6|apply Yc|((first|apply Goes.Zi|apply gO fits Hh (EY Za (Zfk Hh))); · simp (maxSteps:=9^6) +decide (disch:=first|exact dZ|fail) only [go_sem,Zm,Zh,simprocAttr,hs,hg,gdL,fb]<;>rfl))
  exact Zd
 ·cases e
variable {n q a b' c e:Nat} {cr:Cr} {md:Int} {S T:Lq} {V:Nat->Lq} {h:Hq} {A:List (List UInt8)} {p k:Nat} {z:Nat->Nat}
omit Hh in
def O0 (n q a b' c e:Nat) (cr:Cr) (md:Int) (S T:Lq) (V:Nat->Lq) (u:Nat) (s:List UInt8) (w:Nat) (er:Int):Prop:=∀ h,HE n q a b' c e cr md S T V h->∃ h',Zb 92 [.c (.ptr (n+13) 0),.c (.int .i64 (u:Int)),.c (.str s)] h (.tup [.c (.int .i64 (w:Int)),.c (.int .i64 er)]) h'/\HE n q a b' c e cr md S T V h'/\Kr n q h h'
omit Hh in
theorem O0.of (f:Yu a b' c e=true) (Hh:Hearts K Tryz.prog) (m0:md≠0) {u:Nat} {y:List C} {P:Nat->Nat} {bs:Lq} {L:List (List Sl)} (O:DirO a b' c e V (u:Int) y P bs L) {s:List UInt8} (my:Rp s=true) {w:Nat} (lk:(lkF bs s (Uw L)).1=w):O0 n q a b' c e cr md S T V u s w (if w=0 then 301 else 0):=fun h M=>by
 obtain⟨h',cc,M',k⟩:=Z0t Hh f m0 M O s
 rw[if_pos my,if_pos my,lk] at cc
 exact⟨h',cc,M',k⟩
theorem Z8r (pn:n+7<=p) {t:Nat} (k4:k<=A.length) (A4:A.length<=4) {Q:Go.Ev.X->Lq->Zv->Hq->Prop} (b:Hq)
  (st:∀ j s,j<t->A[j]? = some s->O0 n q a b' c e cr md S T V (z j) s (z (j+1)) 0) (tk:t<=k)
  (go:∀ ts h,HE n q a b' c e cr md S T V h->Kr n q b h->h.get p=some (.row 1 (Mk A) false)->p<h.next->Zg ts 0=.w (.c (.ptr (n+13) 0))->Zg ts 6=.w (.c (.int .i64 (z t:Nat)))->Zg ts 11=.w (.c (.slice p 0 k 1))->Zg ts 12=.w (.c (.int .i64 (k:Nat)))->Zg ts 13=.w (.c (.int .i64 (t:Nat)))->Z9 30 none (q38 [1,1,0,1,2]) [] ts h Q) :
  ∀ (m j:Nat) (ts:Zv) (h:Hq),j+m=t->HE n q a b' c e cr md S T V h->Kr n q b h->h.get p=some (.row 1 (Mk A) false)->p<h.next->Zg ts 0=.w (.c (.ptr (n+13) 0))->Zg ts 6=.w (.c (.int .i64 (z j:Nat)))->Zg ts 11=.w (.c (.slice p 0 k 1))->Zg ts 12=.w (.c (.int .i64 (k:Nat)))->Zg ts 13=.w (.c (.int .i64 (j:Nat))) ->
  Z9 30 none (q38 [1,1,0,1,2]) [] ts h Q:=by
 intro m
 induction m with
 | zero =>
  intro j ts h hj M kb gp pl t0 t6 t11 t12 t13
  obtain rfl:j=t:=oM
  exact go ts h M kb gp pl t0 t6 t11 t12 t13
 | succ m ih =>
  intro j ts h hj M kb gp pl t0 t6 t11 t12 t13
  obtain⟨s,hs⟩:∃ s,A[j]? = some s:=⟨_,lG oM⟩
  obtain⟨h1,cF,M1,k1⟩:=st j s oM hs h M
  have rd:=Z2n hs
  have dj:decide ((j:Int)<(k:Int))=true:=decide_eq_true oM
  have jk:j<k:=oM
  have n1:=k1.1
  have gp1:=(k1.2 p pl oM).trans gp
  obtain⟨R,hR⟩:=xzE (Mk A)
  rw[hR] at gp gp1 rd
  have Jf:=Yp @t0 @t6 @t11 @t12 @t13 @dj @jk @gp @rd
  iterate 11 (first|refine Goes.Zi Zt ?_|refine Zn Hh Za Zt ?_|apply gS)
  iterate 8 (first|refine Goes.Zi Zt ?_|refine Zn Hh (Zj Za cF) Zt ?_|apply gS)
  show Z9 30 none (q38 [1,1,0,1,2]) _ _ _ _
  refine ih (j+1) _ h1 oM M1 ⟨by have:=kb.1; omega,fun m hm ho=>(k1.2 m (by have:=kb.1; omega) ho).trans (kb.2 m hm ho)⟩ (by rw[hR]; exact gp1) oM ?_ ?_ ?_ ?_ ?_
  ·have Jf:=@t0; exact Zq
  ·exact Zq
  ·have Jf:=@t11; exact Zq
  ·have Jf:=@t12; exact Zq
  ·exact Zq
theorem Ydj {ts:Zv} {t:Nat} (t6:Zg ts 6=.w (.c (.int .i64 (t:Nat)))) (t12:Zg ts 12=.w (.c (.int .i64 (k:Nat)))) (t13:Zg ts 13=.w (.c (.int .i64 (k:Nat)))):Z9 30 none (q38 [1,1,0,1,2]) [] ts h fun x ds' ts' h'=>x=.exit 0/\ds'=[]/\h'=h/\Zg ts' 6=.w (.c (.int .i64 (t:Nat))):=by
 have dj:decide ((k:Int)<(k:Int))=false:=decide_eq_false oM
 have Jf:=J4 @t6 @t12 @t13 @dj
 iterate 6 (first|refine Goes.Zi Zq ?_|refine Zn Hh Za Zq ?_|apply gS)
 exact⟨rfl,rfl,rfl,by simp (maxSteps:=9^6) +decide (disch:=first|exact dZ|fail) only [go_sem,Zm,Zh,simprocAttr,t6]⟩
theorem Ydk {ts:Zv} {t w:Nat} {s:List UInt8} {er:Int} (M:HE n q a b' c e cr md S T V h) (ld:O0 n q a b' c e cr md S T V w s 0 er) (er0:er≠0) (hs:A[t]? = some s) (tk:t<k) (gp:h.get p=some (.row 1 (Mk A) false)) (t0:Zg ts 0=.w (.c (.ptr (n+13) 0))) (t6:Zg ts 6=.w (.c (.int .i64 (w:Nat)))) (t11:Zg ts 11=.w (.c (.slice p 0 k 1))) (t12:Zg ts 12=.w (.c (.int .i64 (k:Nat)))) (t13:Zg ts 13=.w (.c (.int .i64 (t:Nat)))):Z9 30 none (q38 [1,1,0,1,2]) [] ts h fun x ds' ts' h'=>x=.ret/\ds'=[]/\HE n q a b' c e cr md S T V h'/\Kr n q h h'/\Zg ts' 4=.w (.c (.int .i64 0))/\Zg ts' 5=.w (.c (.int .i64 er)):=by
 obtain⟨h1,cF,M1,k1⟩:=ld h M
 have rd:=Z2n hs
 have dj:decide ((t:Int)<(k:Int))=true:=decide_eq_true oM
 have de:(er != 0)=true:=Nn er0
 obtain⟨R,hR⟩:=xzE (Mk A)
 rw[hR] at gp rd
 have Jf:=Y2 @t0 (Yp @t6 @t11 @t12 @t13 @dj @tk @gp @rd @de)
 iterate 11 (first|refine Goes.Zi Zt ?_|refine Zn Hh Za Zt ?_|apply gS)
 iterate 8 (first|refine Goes.Zi Zt ?_|refine Zn Hh (Zj Za cF) Zt ?_|apply gS)
 exact⟨rfl,rfl,M1,k1,by exact Zd,by exact Zd⟩
theorem Zwp (M:HE n q a b' c e cr md S T V h) (gp:h.get p=some (.row 1 (Mk A) false)) (pn:n+7<=p/\p<h.next) (kA:k<=A.length) (A4:A.length<=4) (z0:z 0=1)
  (st:∀ j s,j<k->A[j]? = some s->O0 n q a b' c e cr md S T V (z j) s (z (j+1)) 0) :
  ∃ h',Zb 38 [.c (.ptr (n+13) 0),.c (.slice p 0 k 1)] h (.tup [.c (.int .i64 (z k:Nat)),.c (.int .i64 0)]) h'/\HE n q a b' c e cr md S T V h'/\Kr n q h h':=by
 have lf:=Zio (k:=k) oM p
 have nx:=M.nx
 refine Ow ?_
 refine Ym Hh Tryz.f38 ?_
 have Jf:=@lf
 iterate 8 (first|refine Zn Hh Za Ui ?_|apply gS)
 refine (Z8r Hh (p:=p) (k:=k) (t:=k) (z:=z) pn.1 kA A4 h st (Nat.le_refl _) (Q:=fun x ds' ts' h'=>x=.exit 0/\ds'=[]/\HE n q a b' c e cr md S T V h'/\Kr n q h h'/\Zg ts' 6=.w (.c (.int .i64 (z k:Nat)))) ?_ k 0 _ h oM M ⟨Nat.le_refl _,fun _ _ _=>rfl⟩ gp pn.2 ?_ ?_ ?_ ?_ ?_).mono ?_
 ·exact fun ts h1 M1 k1 g1 p1 t0 t6 t11 t12 t13=>(Ydj Hh (k:=k) t6 t12 t13).mono fun x ds' ts' h' ⟨e1,e2,e3,e4⟩=>⟨e1,e2,by rw[e3]; exact M1,by rw[e3]; exact k1,e4⟩
 ·exact Zd
 ·rw[z0]; exact Zd
 ·exact Zd
 ·exact Zd
 ·exact Zd
 rintro x1 d1 u1 h1 ⟨rfl,rfl,M1,k1,t6⟩
 have Jf:=@t6
 iterate 3 (first|refine Zn Hh Za Zq ?_|apply gS)
 exact⟨_,_,Zq,rfl,M1,k1⟩
theorem Z7p (M:HE n q a b' c e cr md S T V h) (gp:h.get p=some (.row 1 (Mk A) false)) (pn:n+7<=p/\p<h.next) {t:Nat} (tk:t<k) (kA:k<=A.length) (A4:A.length<=4) (z0:z 0=1)
  (st:∀ j s,j<t->A[j]? = some s->O0 n q a b' c e cr md S T V (z j) s (z (j+1)) 0) {s:List UInt8} (hs:A[t]? = some s) {er:Int} (er0:er≠0) (ld:O0 n q a b' c e cr md S T V (z t) s 0 er) :
  ∃ h',Zb 38 [.c (.ptr (n+13) 0),.c (.slice p 0 k 1)] h (.tup [.c (.int .i64 0),.c (.int .i64 er)]) h'/\HE n q a b' c e cr md S T V h'/\Kr n q h h':=by
 have lf:=Zio (k:=k) oM p
 have nx:=M.nx
 refine Ow ?_
 refine Ym Hh Tryz.f38 ?_
 have Jf:=@lf
 iterate 8 (first|refine Zn Hh Za Ui ?_|apply gS)
 refine (Z8r Hh (p:=p) (k:=k) (t:=t) (z:=z) pn.1 kA A4 h st oM (Q:=fun x ds' ts' h'=>x=.ret/\ds'=[]/\HE n q a b' c e cr md S T V h'/\Kr n q h h'/\Zg ts' 4=.w (.c (.int .i64 0))/\Zg ts' 5=.w (.c (.int .i64 er))) ?_ t 0 _ h oM M ⟨Nat.le_refl _,fun _ _ _=>rfl⟩ gp pn.2 ?_ ?_ ?_ ?_ ?_).mono ?_
 ·exact fun ts h1 M1 k1 g1 p1 t0 t6 t11 t12 t13=>(Ydk Hh M1 ld er0 hs tk g1 t0 t6 t11 t12 t13).mono fun x ds' ts' h' ⟨e1,e2,e3,e4,e5⟩=>⟨e1,e2,e3,⟨Nat.le_trans k1.1 e4.1,fun m hm ho=>(e4.2 m (by have:=k1.1; omega) ho).trans (k1.2 m hm ho)⟩,e5⟩
 ·exact Zd
 ·rw[z0]; exact Zd
 ·exact Zd
 ·exact Zd
 ·exact Zd
 rintro x1 d1 u1 h1 ⟨rfl,rfl,M1,k1,t4,t5⟩
 exact⟨_,_,(by have Jf:=Y2 @t4 @t5; exact Zq),rfl,M1,k1⟩
end
section
variable (Hh:Hearts K Tryz.prog)
include Hh
variable {n q a b' c e:Nat} {cr:Cr} {md:Int} {S T:Lq} {V:Nat->Lq} {h:Hq} {A:List (List UInt8)} {p k:Nat} {z:Nat->Nat} {s:List UInt8} {w:Nat}
def spC (u:Nat) (s:List UInt8) (w:Nat):List C:=[.int .i64 (u:Int),.str s,.int .i64 (w:Int)]
theorem Zg2 (M:HE n q a b' c e cr md S T V h) (gp:h.get p=some (.row 1 (Mk A) false)) (pn:n+7<=p/\p<h.next) (kA:A.length=k+1) (A4:k<=3) (z0:z 0=1)
  (st:∀ j s,j<k->A[j]? = some s->O0 n q a b' c e cr md S T V (z j) s (z (j+1)) 0) (hs:A[k]? = some s) {er:Int} (er0:er=0\/er=301) (ld:O0 n q a b' c e cr md S T V (z k) s w er) :
  ∃ h',Zb 43 [.c (.ptr (n+13) 0),.c (.slice p 0 (k+1) 1)] h (.tup [.g (spC (z k) s w),.c (.int .i64 0)]) h'/\HE n q a b' c e cr md S T V h'/\Kr n q h h':=by
 have lf:=Zio (k:=k+1) oM p
 have nx:=M.nx
 have rd:=Z2n hs
 have k1:((k+1:Nat):Int) - 1=(k:Int):=oM
 have kk1:k<k+1:=oM
 have kle:k<=k+1:=oM
 have de:(er != 0&&er != 301)=false:=by rcases er0 with rfl|rfl<;>rfl
 have d1:(er != 0)=true->(er != 301)=false:=fun w=>by
  rw[w,Bool.true_and] at de; exact de
 refine Ow ?_
 rcases er0 with rfl|rfl
 all_goals
  refine Ym Hh Tryz.f43 ?_
  have Jf:=Ng @lf @k1 @kk1 @kle @tA0 @tA1 @Nat.sub_zero
  iterate 5 (first|refine Zn Hh Za Y8 ?_|apply gS)
  refine Jq fun hA eA=>?_
  have nA:hA.next=h.next+1:=nxQ eA
  have kA:∀ m,m<h.next->hA.get m=h.get m:=kQ eA
  obtain⟨w1,wl,aA⟩:∃ w:List C,w.length=3/\hA.get h.next=some (.row 3 [w] false):=⟨_,rfl,by rw[eA]; exact Yi⟩
  clear eA
  obtain⟨h1,c2,M1,q1⟩:=Zwp Hh (k:=k) (z:=z) (M.keep (h2:=hA) oM (fun m hm=>kA m oM)) ((kA p pn.2).trans gp) ⟨pn.1,oM⟩ oM oM z0 st
  obtain⟨h2,c5,M2,q2⟩:=ld h1 M1
  have n1:=q1.1
  have n2:=q2.1
  have g1:=(q1.2 p oM oM).trans ((kA p pn.2).trans gp)
  have g2:=(q2.2 p oM oM).trans g1
  have a2:=(q2.2 h.next oM oM).trans ((q1.2 h.next oM oM).trans aA)
  obtain⟨R,hR⟩:=xzE (Mk A)
  rw[hR] at g1 g2 rd
  have Jf:=L8 Jf @g1 @g2 @rd @a2 @wl
  iterate 7 (first|refine Goes.Zi Y8 ?_|refine Zn Hh (Zj Za c2) Y8 ?_|apply gS)
  iterate 9 (first|refine Goes.Zi Y8 ?_|refine Zn Hh (Zj Za c5) Y8 ?_|apply gS)
  refine⟨_,_,Yi,rfl,M2.keep ?_ (fun m hm=>?_),?_,fun m hm ho=>?_⟩
  ·first|omega|(simp only[H.Zf,H.Ze]<;>omega)
  ·exact Yn
  ·first|omega|(simp only[H.Zf,H.Ze]<;>omega)
  ·refine Eq.trans ?_ ((q2.2 m oM ho).trans ((q1.2 m oM ho).trans (kA m hm))); exact Yn
theorem Ya0 (M:HE n q a b' c e cr md S T V h) (gp:h.get p=some (.row 1 (Mk A) false)) (pn:n+7<=p/\p<h.next) (kA:A.length=k+1) (A4:k<=3) (z0:z 0=1)
  (st:∀ j s,j<k->A[j]? = some s->O0 n q a b' c e cr md S T V (z j) s (z (j+1)) 0) (hs:A[k]? = some s) (ld:O0 n q a b' c e cr md S T V (z k) s 0 301) :
  ∃ h',Zb 19 [.c (.ptr (n+13) 0),.c (.slice p 0 (k+1) 1)] h (.tup [.g (spC (z k) s 0),.c (.int .i64 0)]) h'/\HE n q a b' c e cr md S T V h'/\Kr n q h h':=by
 have lf:=Zio (k:=k+1) oM p
 have nx:=M.nx
 have e1:(((k+1:Nat):Int) == 0)=false:=Db oM
 have sl:(spC (z k) s 0).length=3:=rfl
 have s2:read1 3 [spC (z k) s 0] 2=some (.int .i64 0):=rfl
 obtain⟨X,hX⟩:=xzE (spC (z k) s 0)
 rw[hX] at sl s2
 obtain⟨v,h',cc,rfl,M',kk⟩:∃ v h',Zb 19 [.c (.ptr (n+13) 0),.c (.slice p 0 (k+1) 1)] h v h'/\v=.tup [.g X,.c (.int .i64 0)]/\HE n q a b' c e cr md S T V h'/\Kr n q h h':=by
  refine Ym Hh Tryz.f19 ?_
  have Jf:=J4 @lf @e1 @sl @s2
  iterate 8 (first|refine Goes.Zi Tj ?_|refine Zn Hh Za Tj ?_|apply gS)
  refine Jq fun hA eA=>?_
  have nA:hA.next=h.next+1:=nxQ eA
  have kA:∀ m,m<h.next->hA.get m=h.get m:=kQ eA
  obtain⟨w1,wl,aA⟩:∃ w:List C,w.length=3/\hA.get h.next=some (.row 3 [w] false):=⟨_,rfl,by rw[eA]; exact Yi⟩
  clear eA
  obtain⟨h1,c3,M1,q1⟩:=Zg2 Hh (k:=k) (z:=z) (M.keep (h2:=hA) oM (fun m hm=>kA m oM)) ((kA p pn.2).trans gp) ⟨pn.1,oM⟩ oM oM z0 st hs (.inr rfl) ld
  rw[hX] at c3
  have n1:=q1.1
  have a1:=(q1.2 h.next oM oM).trans aA
  have Jf:=Jh Jf @a1 @wl
  iterate 14 (first|refine Goes.Zi Tj ?_|refine Zn Hh (Zj Za c3) Tj ?_|apply gS)
  refine⟨_,_,Zt,rfl,M1.keep ?_ (fun m hm=>?_),?_,fun m hm ho=>?_⟩
  ·first|omega|(simp only[H.Zf,H.Ze]<;>omega)
  ·exact Yn
  ·first|omega|(simp only[H.Zf,H.Ze]<;>omega)
  ·refine Eq.trans ?_ ((q1.2 m oM ho).trans (kA m hm)); exact Yn
 rw[hX]
 exact⟨h',cc,M',kk⟩
theorem Zjh (f:Yu a b' c e=true) (M:HE n q a b' c e cr md S T V h) (gp:h.get p=some (.row 1 (Mk A) false)) (pn:n+7<=p/\p<h.next) (kA:A.length=k+1) (A4:k<=3) (z0:z 0=1)
  (st:∀ j s,j<k->A[j]? = some s->O0 n q a b' c e cr md S T V (z j) s (z (j+1)) 0) (hs:A[k]? = some s) (ld:O0 n q a b' c e cr md S T V (z k) s w 0) (w0:w≠0) {y:List C} (gw:gI a b' c e V (w:Int)=(y,0)) (yl:y.length=16) :
  ∃ h',Zb 25 [.c (.ptr (n+13) 0),.c (.slice p 0 (k+1) 1)] h (.tup [.g (spC (z k) s w),.g y,.c (.int .i64 0)]) h'/\HE n q a b' c e cr md S T V h'/\Kr n q h h':=by
 have nx:=M.nx
 have e1:((w:Int) == 0)=false:=Db oM
 have sl:(spC (z k) s w).length=3:=rfl
 have s2:read1 3 [spC (z k) s w] 2=some (.int .i64 (w:Int)):=rfl
 have hG:=fun {h:Hq} (M:HE n q a b' c e cr md S T V h)=>Z1i Hh f M (w:Int)
 rw[gw] at hG
 simp only at hG
 obtain⟨X,hX⟩:=xzE (spC (z k) s w)
 rw[hX] at sl s2
 obtain⟨v,h',cc,rfl,M',kk⟩:∃ v h',Zb 25 [.c (.ptr (n+13) 0),.c (.slice p 0 (k+1) 1)] h v h'/\v=.tup [.g X,.g y,.c (.int .i64 0)]/\HE n q a b' c e cr md S T V h'/\Kr n q h h':=by
  refine Ym Hh Tryz.f25 ?_
  have Jf:=J4 @e1 @sl @s2 @yl
  iterate 3 (first|refine Zn Hh Za Zt ?_|apply gS)
  refine Jq fun hA eA=>?_
  have nA:hA.next=h.next+2:=nxQ eA
  have kA:∀ m,m<h.next->hA.get m=h.get m:=kQ eA
  obtain⟨w1,wl,aA⟩:∃ w:List C,w.length=3/\hA.get h.next=some (.row 3 [w] false):=⟨_,rfl,by rw[eA]; exact Yi⟩
  obtain⟨w2,wl2,bA⟩:∃ w:List C,w.length=16/\hA.get (h.next+1)=some (.row 16 [w] false):=⟨_,rfl,by rw[eA]; exact Yi⟩
  clear eA
  obtain⟨h1,c1,M1,q1⟩:=Zg2 Hh (k:=k) (z:=z) (M.keep (h2:=hA) oM (fun m hm=>kA m oM)) ((kA p pn.2).trans gp) ⟨pn.1,oM⟩ oM oM z0 st hs (.inl rfl) ld
  rw[hX] at c1
  have n1:=q1.1
  have a1:=(q1.2 h.next oM oM).trans aA
  have b1:=(q1.2 (h.next+1) oM oM).trans bA
  have Jf:=Gq Jf @a1 @wl @b1 @wl2
  iterate 12 (first|refine Goes.Zi Zt ?_|refine Zn Hh (Zj Za c1) Zt ?_|apply gS)
  refine Jq fun hB eB=>?_
  have nB:hB.next=h1.next+1:=nxQ eB
  have kB:∀ m,m<h1.next->hB.get m=h1.get m:=kQ eB
  have cB:hB.get h1.next=some (.row 3 [X] false):=by rw[eB]; exact Zt
  clear eB
  obtain⟨h2,c6,M2,q2⟩:=hG (M1.keep (h2:=hB) oM fun m hm=>kB m (by have:=M1.nx; omega))
  have n2:=q2.1
  have a2:=(q2.2 h.next oM oM).trans ((kB _ oM).trans a1)
  have b2:=(q2.2 (h.next+1) oM oM).trans ((kB _ oM).trans b1)
  have x2:=(q2.2 h1.next oM oM).trans cB
  have Jf:=Gq Jf @cB @a2 @b2 @x2
  iterate 9 (first|refine Goes.Zi Zt ?_|refine Zn Hh (Zj Za c6) Zt ?_|refine Fe Hh (Zj Za c6) Zpi ?_|apply gS)
  refine⟨_,_,Zt,rfl,M2.keep ?_ (fun m hm=>?_),?_,fun m hm ho=>?_⟩
  ·first|omega|(simp only[H.Zf,H.Ze]<;>omega)
  ·exact Yn
  ·first|omega|(simp only[H.Zf,H.Ze]<;>omega)
  ·refine Eq.trans ?_ ((q2.2 m oM ho).trans ((kB m oM).trans ((q1.2 m oM ho).trans (kA m hm)))); exact Yn
 rw[hX]
 exact⟨h',cc,M',kk⟩
end
end
end Go.Proofs.YtmanipmhebgdbaaGreatDoor
