/- dirs: what it asks of a store; a reader; a block of slots. -/
import Derived.Test.YtecakmodlkbnaaaGreatDoorMpg
import Derived.Test.YtecakmodlkbnaaaGreatDoorStrX
import Derived.Test.YtecakmodlkbnaaaGreatDoorRn2
set_option linter.unusedSimpArgs false
set_option linter.unusedVariables false
set_option linter.unusedSectionVars false
set_option maxRecDepth 100000
set_option maxHeartbeats 4000000
namespace Go.Proofs.YtecakmodlkbnaaaGreatDoor
open Go.Ev
theorem ty88:K.types.get 88=some ti88:=by kernel_rfl
theorem sz88:ti88.size=1:=by rfl
theorem ag88:ti88.agg=false:=by rfl
theorem de88:ti88.desc=(.pointer 96):=by rfl
theorem ze88:ti88.zero=(.c (.pnil)):=by rfl
theorem by88:ti88.bytes=8:=by rfl
theorem ty96:K.types.get 96=some ti96:=by kernel_rfl
theorem sz96:ti96.size=19:=by rfl
theorem ag96:ti96.agg=true:=by rfl
theorem fo96_0:Zt K 96 0=some (0,ti30):=by kernel_rfl
theorem fo96_1:Zt K 96 1=some (1,ti39):=by kernel_rfl
theorem fo96_2:Zt K 96 2=some (17,ti70):=by kernel_rfl
theorem fo96_3:Zt K 96 3=some (18,ti33):=by kernel_rfl
theorem bu96 (ps:List (Nat × W)):Yo K 96 (some ps)=gW (Yd K 96 ps ti96.zero.cells):=by kernel_rfl
theorem ze96:ti96.zero=(.g ([.pnil,.int .u8 0,.int .i64 0,.int .u32 0,.int .i64 0,.int .u32 0,.int .u32 0,.int .u32 0,.int .u32 0,.int .u32 0,.int .u32 0,.int .u32 0,.int .u32 0,.int .u32 0,.int .u32 0,.int .u32 0,.int .u32 0,.snil,.int .i64 0])):=by rfl
theorem by96:ti96.bytes=120:=by rfl
attribute [go_sem] ty88 sz88 ag88 de88 ze88 by88 ty96 sz96 ag96 fo96_0 fo96_1 fo96_2 fo96_3 bu96 ze96 by96
noncomputable def q85 (p:List Nat):Code:=piece p (Uh Tryz.f85)
theorem rs53:Tryz.f53.results.toList=[.tmp 2]:=rfl
theorem rs29:Tryz.f29.results.toList=[.tmp 2]:=rfl
theorem rs33:Tryz.f33.results.toList=[.tmp 4]:=rfl
theorem rs86:Tryz.f86.results.toList=[.tmp 4,.tmp 5]:=rfl
theorem rs34:Tryz.f34.results.toList=[.tmp 2]:=rfl
theorem rs85:Tryz.f85.results.toList=[]:=rfl
attribute [go_sem] rs53 rs29 rs33 rs86 rs34 rs85
noncomputable def Znx:Kn1:=fun args h=>match args with
 | [.c (.ptr s 0)]=>(Br h s).bind fun S=>(Fx h S.gd).bind fun G=>some (.w (.c (.bool (G.md != 0))),h)
 | _=>none
noncomputable def Znl:Kn1:=fun args h=>match args with
 | [.c (.ptr s 0)]=>(Br h s).bind fun S=>(Fx h S.gd).bind fun G=>(Gn h S.tx).bind fun X=>Y8 (X.op&&(G.md != 0)) (some (.w (.c (.int .i64 0)),h))
 | _=>none
attribute [go_sem] Znx Znl
def rdC (n:Nat) (y:List C) (s:C) (e:Int):List C:=.ptr (n+13) 0 :: (y++[s,.int .i64 e])
section
variable {n:Nat} {y:List C} {s:C} {e:Int}
theorem Z6d (yl:y.length=16):(rdC n y s e).length=19:=by simp [rdC,yl]
theorem Ej (yl:y.length=16):read1 19 [rdC n y s e] 0=some (.ptr (n+13) 0)∧Zn 19 [rdC n y s e] 1 16=some y∧read1 19 [rdC n y s e] 17=some s∧read1 19 [rdC n y s e] 18=some (.int .i64 e)∧read1 19 [rdC n y s e] 1=y[0]?∧read1 19 [rdC n y s e] 4=y[3]?:=by
 match y,yl with
 | [y0,y1,y2,y3,y4,y5,y6,y7,y8,y9,y10,y11,y12,y13,y14,y15],_=>exact⟨rfl,rfl,rfl,rfl,rfl,rfl⟩
theorem Z8m (yl:y.length=16) (s':C):Z4 19 [rdC n y s e] 17 [s']=some [rdC n y s' e]:=by
 match y,yl with
 | [y0,y1,y2,y3,y4,y5,y6,y7,y8,y9,y10,y11,y12,y13,y14,y15],_=>rfl
theorem Z7x (yl:y.length=16) (e':Int):Z4 19 [rdC n y s e] 18 [.int .i64 e']=some [rdC n y s e']:=by
 match y,yl with
 | [y0,y1,y2,y3,y4,y5,y6,y7,y8,y9,y10,y11,y12,y13,y14,y15],_=>rfl
theorem Z8p (yl:y.length=16):Z4 19 [[.ptr (n+13) 0,.int .u8 0,.int .i64 0,.int .u32 0,.int .i64 0,.int .u32 0,.int .u32 0,.int .u32 0,.int .u32 0,.int .u32 0,.int .u32 0,.int .u32 0,.int .u32 0,.int .u32 0,.int .u32 0,.int .u32 0,.int .u32 0,.snil,.int .i64 0]] 1 y=some [rdC n y .snil 0]:=by
 match y,yl with
 | [y0,y1,y2,y3,y4,y5,y6,y7,y8,y9,y10,y11,y12,y13,y14,y15],_=>rfl
end
section
variable (Hh:Hearts K Tryz.prog)
include Hh
theorem Rk {args:List W} {h h':Go.Ev.H} {v:V} (e:Znx args h=some (v,h')):Zg 53 args h v h':=by
 unfold Znx at e
 split at e
 ·rename_i s
  obtain⟨S,hs,e⟩:=Zo e
  have hs:=Jc hs
  obtain⟨G,hg,e⟩:=Zo e
  obtain⟨hg,fb⟩:=J4 hg
  cases e
  refine fnG Hh Tryz.f53 ?_
  repeat (first|apply Zk|apply Z0|((first|apply Goes.Zi|apply Goes.ops2 fits Hh (EY Za (Zky Hh))); · simp (maxSteps:=9^6) +decide (disch:=first|omega|(simp only[lens]<;>omega)|decide) only [go_sem,Zn,Zm,simprocAttr,hs,hg,gdL,fb]<;>rfl))
  exact Zc
 ·cases e
theorem Lj {args:List W} {h h':Go.Ev.H} {v:V} (e:Znl args h=some (v,h')):Zg 29 args h v h':=by
 unfold Znl at e
 split at e
 ·rename_i s
  obtain⟨S,hs,e⟩:=Zo e
  have hs:=Jc hs
  obtain⟨G,hg,e⟩:=Zo e
  obtain⟨hg,fb⟩:=J4 hg
  obtain⟨X,ht,e⟩:=Zo e
  have ht:=Y4 ht
  obtain⟨bo,e⟩:=Zu.1 e
  rw[Bool.and_eq_true] at bo
  obtain⟨bo,mo⟩:=bo
  cases e
  refine fnG Hh Tryz.f29 ?_
  repeat (first|apply Zk|apply Wn|apply Zw|apply Z0|((first|apply Goes.Zi|apply Goes.ops2 fits Hh (EY (EY (EY Za (Rk Hh)) (Q0 Hh)) (Zco Hh))); · simp (maxSteps:=9^6) +decide (disch:=first|omega|(simp only[lens]<;>omega)|decide) only [go_sem,Zn,Zm,simprocAttr,hs,ht,hg,gdL,fb,bo,mo]<;>rfl)|simp +decide only [reduceIte])
  exact Zc
 ·cases e
variable {n q a b c e:Nat} {cr:Cr} {md:Int} {S T:List Nat} {V:Nat→List Nat} {h:Go.Ev.H} {y:List C}
theorem Xe (f:Ym a b c e=true) (m0:md≠0) (M:HE n q a b c e cr md S T V h) {z:Int} (gz:gI a b c e V z=(y,0)) (ky:y[0]? = some (.int .u8 2)) (yl:y.length=16) :
  ∃ h',Zg 33 [.c (.ptr (n+13) 0),.c (.int .i64 z)] h (.w (.c (.ptr h.next 0))) h'∧h'.get h.next=some (.row 19 [rdC n y .snil 0] false)∧h.next<h'.next∧HE n q a b c e cr md S T V h'∧Kr n q h h':=by
 obtain⟨nq,nx,n0⟩:=M.nx
 obtain⟨st,⟨kn,hs⟩,⟨dk,gl⟩,ht⟩:=M.cells
 unfold gdL gdD at gl
 have dm:(md != 0)=true:=Mr m0
 obtain⟨g0,g1,g2,g3,g4,g5⟩:=Ej (n:=n) (s:=.snil) (e:=0) yl
 rw[ky] at g4
 have wi:=Z8p (n:=n) yl
 have we:=Z7x (n:=n) (s:=.snil) (e:=0) yl 0
 have hG:=fun {h:Go.Ev.H} (M:HE n q a b c e cr md S T V h)=>Z2y Hh f M z
 rw[gz] at hG
 simp only at hG
 have rl:=Z6d (n:=n) (s:=.snil) (e:=0) yl
 obtain⟨R,hR⟩:∃ R,rdC n y .snil 0=R:=⟨_,rfl⟩
 rw[hR] at g0 g1 g2 g3 g4 g5 wi we rl ⊢
 refine Ou ?_
 refine Yg Hh Tryz.f33 ?_
 have Jf:=Yu @f @hs @gl @dm @g3 @g4 @wi @we @rl
 iterate 10 (first|apply Zk|apply Zw|refine Goes.Zi Yb ?_|refine Zq Hh (EY Za (Rk Hh)) Yb ?_)
 refine Uc fun hA eA=>?_
 have nA:hA.next=h.next+1:=by rw[eA]; first|rfl|simp only[H.Zd,H.Zb]
 have kA:∀ m,m<h.next→hA.get m=h.get m:=fun m hm=>by rw[eA]; exact Yc
 have gA:hA.get h.next=some (.row 19 [[.ptr (n+13) 0,.int .u8 0,.int .i64 0,.int .u32 0,.int .i64 0,.int .u32 0,.int .u32 0,.int .u32 0,.int .u32 0,.int .u32 0,.int .u32 0,.int .u32 0,.int .u32 0,.int .u32 0,.int .u32 0,.int .u32 0,.int .u32 0,.snil,.int .i64 0]] false):=by rw[eA]; exact Yn
 clear eA
 obtain⟨hB,c5,MB,kB⟩:=hG (M.keep (h2:=hA) (by omega) fun m hm=>kA m (by omega))
 have nB:=kB.1
 have gB:=(kB.2 h.next (by omega) (by omega)).trans gA
 have Jf:=Yy Jf @gB
 iterate 9 (first|apply Zk|apply Zw|apply Z0|refine Goes.Zi Yb ?_|refine Zq Hh (Zp Za c5) Yb ?_)
 refine⟨_,_,Yn,rfl,?_,?_,MB.keep ?_ fun m hm=>?_,?_,fun m hm ho=>?_⟩
 ·first|exact Zz .. | (simp (maxSteps:=9^6) +decide (disch:=first|omega|(simp only[lens]<;>omega)|decide) only [go_sem,Zn,Zm,simprocAttr]; done)
 ·simp only[H.Zd,H.Zb]; omega
 ·simp only[H.Zd,H.Zb]; omega
 ·exact Yc
 ·simp only[H.Zd,H.Zb]; omega
 ·refine Eq.trans ?_ ((kB.2 m (by omega) ho).trans (kA m hm)); exact Yc
variable {P:Nat→Nat} {l:List Sl}
theorem Z4o (f:Ym a b c e=true) (m0:md≠0) (M:HE n q a b c e cr md S T V h) (X:InoP y P) {i z:Nat} (i8:i<8) (hz:P i=z) (z0:z≠0) (oz:Bp a b c e (z:Nat)=true) (zl:z<2+e+a * b) (Sv:SlV (V z) l) {R bB:Nat} {s:C} {bl:List Nat} (hR:h.get R=some (.row 19 [rdC n y s 0] false)) (sb:SlB bB h s bl) (bR:q+9≤R∧R<bB∧bB≤h.next) (bl4:bl.length≤4000) :
  ∃ p s' h',Zg 86 [.c (.ptr R 0),.c (.int .i64 (i:Int))] h (.tup [.c (.slice p 0 8 2),.c (.int .i64 0)]) h'∧h'.get p=some (.row 16 [Og l] false)∧h.next≤p∧p<h'.next∧h'.get R=some (.row 19 [rdC n y s' 0] false)∧SlB bB h' s' (bl++[z])∧HE n q a b c e cr md S T V h'∧h.next≤h'.next∧∀ m,m<h.next→m≠n+6→m≠R→(∀ o k z,s≠.slice m o k z)→h'.get m=h.get m:=by
 obtain⟨nq,nx,n0⟩:=M.nx
 have yl:=X.xl
 obtain⟨hB,c1,MB,kB⟩:=Z5u Hh f m0 M X (i:=i) (by omega) (by
  rw[Zfy i8]
  intro j hj
  exact absurd hj (by simp))
 rw[Z2j i8,hz] at c1
 have nB:=kB.1
 have BR:=(kB.2 R (by omega) (by omega)).trans hR
 obtain⟨hG,eG,MG,nG,rG⟩:=MB.get f oz zl
 have c6:=Dq Hh eG
 have GR:=(rG R (by omega) (by omega)).trans BR
 have xl:(pgL (V z)).length=256:=by rw[Jy,M.len oz zl]
 have cL:=fun h=>Zzm Hh Sv h
 obtain⟨g0,g1,g2,g3,g4,g5⟩:=Ej (n:=n) (s:=s) (e:=0) yl
 have wb:=fun s'=>Z8m (n:=n) (s:=s) (e:=0) yl s'
 have ez:((z:Int) == 0)=false:=Ee (by omega)
 have sB:SlB bB hB s bl:=⟨sb.1.keep fun p o k z e=>kB.2 p (sb.2 p o k z e).2 (by have:=(sb.2 p o k z e).1; omega),fun p o k z e=>⟨(sb.2 p o k z e).1,by have:=(sb.2 p o k z e).2; omega⟩⟩
 have sG:SlB bB hG s bl:=⟨sB.1.keep fun p o k z e=>rG p (sB.2 p o k z e).2 (by have:=(sB.2 p o k z e).1; omega),fun p o k z e=>⟨(sB.2 p o k z e).1,by have:=(sB.2 p o k z e).2; omega⟩⟩
 have sfI:=Ycc sG.1
 have sf1:=Z0i
 obtain⟨X0,hX0⟩:∃ x,pgL (V z)=x:=⟨_,rfl⟩
 rw[hX0] at c6 xl
 simp only[hX0] at cL
 obtain⟨r0,hr0⟩:∃ r,rdC n y s 0=r:=⟨_,rfl⟩
 have hR':=hR
 rw[hr0] at hR' BR GR g0 g1 g2 g3
 simp only[hr0] at wb
 obtain⟨v,h',cc,p,s',rfl,q⟩:∃ v h',Zg 86 [.c (.ptr R 0),.c (.int .i64 (i:Int))] h v h'∧∃ p s',v=.tup [.c (.slice p 0 8 2),.c (.int .i64 0)]∧h'.get p=some (.row 16 [Og l] false)∧h.next≤p∧p<h'.next∧h'.get R=some (.row 19 [rdC n y s' 0] false)∧SlB bB h' s' (bl++[z])∧HE n q a b c e cr md S T V h'∧h.next≤h'.next∧∀ m,m<h.next→m≠n+6→m≠R→(∀ o k z,s≠.slice m o k z)→h'.get m=h.get m:=by
  refine Yg Hh Tryz.f86 ?_
  have Jf:=Jb @hR' @BR (Yu @g0 @g1 @g2 @g3 @ez @xl @yl @tA1 @tA0)
  iterate 3 (first|apply Zk|refine Zq Hh Za O8 ?_)
  iterate 12 (first|apply Zk|apply Zw|refine Goes.Zi O8 ?_|refine Zq Hh (Zp Za c1) O8 ?_|refine Ed Hh (Zp Za c1) Zcw ?_)
  iterate 7 (first|apply Zk|apply Zw|refine Goes.Zi O8 ?_|refine Zq Hh (Zp Za c6) O8 ?_)
  refine Uc fun hC eC=>?_
  have nC:hC.next=hG.next+1:=by rw[eC]; simp only[H.Zd,H.Zb]
  have kC:∀ m,m<hG.next→hC.get m=hG.get m:=fun m hm=>by rw[eC]; exact Yc
  have gC:hC.get hG.next=some (.row 256 [X0] false):=by rw[eC]; exact Z5
  clear eC
  have CR:=(kC R (by omega)).trans GR
  have MC:=MG.keep (h2:=hC) (by omega) fun m hm=>kC m (by omega)
  have sC:SlB bB hC s bl:=⟨sG.1.keep fun p o k z e=>kC p (sG.2 p o k z e).2,fun p o k z e=>⟨(sG.2 p o k z e).1,by have:=(sG.2 p o k z e).2; omega⟩⟩
  obtain⟨s',hD,ap,sD,nD,kD⟩:=Ybj sC (by omega) bl4 z
  have neP:∀ p,p<h.next→(∀ o k z,s≠.slice p o k z)→hD.get p=hC.get p:=fun p hp ne=>kD p (by omega) ne
  have neR:∀ o k z,s≠.slice R o k z:=fun o k z e=>by have:=(sb.2 R o k z e).1; omega
  have neG:∀ o k z,s≠.slice hG.next o k z:=fun o k z e=>by have:=(sG.2 hG.next o k z e).2; omega
  have DR:=(kD R (by omega) neR).trans CR
  have gD:=(kD hG.next (by omega) neG).trans gC
  have lowN:∀ p,p<q+9→∀ o k z,s≠.slice p o k z:=fun p hp o k z e=>by have:=(sb.2 p o k z e).1; omega
  have MD:=MC.keep (h2:=hD) (by omega) fun m hm=>kD m (by omega) (lowN m hm)
  have Jf:=Yu Jf @CR @gC @ap @Yay @sfI @sf1 @DR @wb
  iterate 2 (first|apply Zk|refine Zq Hh Za O8 ?_)
  refine Uc fun hE eE=>?_
  have nE:hE.next=hD.next:=by rw[eE,H.Zd]
  have kE:∀ m,m≠R→hE.get m=hD.get m:=fun m hm=>by rw[eE,Ze hm]
  have ER:hE.get R=some (.row 19 [rdC n y s' 0] false):=by rw[eE,Zz]
  clear eE
  have gE:=(kE hG.next (by omega)).trans gD
  obtain⟨p,hF,c10,F1,F2,F3,F4⟩:=cL hE
  have Jf:=Yy Jf @gE
  iterate 2 (first|apply Z0|refine Zq Hh (Zp Za c10) O8 ?_)
  refine⟨_,_,Yn,p,s',rfl,F1,by omega,F3,(F4 R (by omega)).trans ER,⟨sD.1.keep fun p' o k z e=>(F4 p' (by have:=(sD.2 p' o k z e).2; omega)).trans (kE p' (by have:=(sD.2 p' o k z e).1; omega)),fun p' o k z e=>⟨(sD.2 p' o k z e).1,by have:=(sD.2 p' o k z e).2; omega⟩⟩,MD.keep (by omega) fun m hm=>(F4 m (by omega)).trans (kE m (by omega)),by omega,fun m hm h6 hRm hs=>?_⟩
  rw[F4 m (by omega),kE m hRm,kD m (by omega) hs,kC m (by omega),rG m (by omega) h6,kB.2 m hm h6]
 exact⟨p,s',h',cc,q⟩
end
def L9:Nat→List (List Sl)→List (Nat × Sl)
 | _,[]=>[]
 | i,l :: r=>l.map (fun x=>(i,x))++L9 (i+1) r
def Jn (L:List (List Sl)):List (Nat × Sl):=L9 0 L
theorem Xq:∀ {L:List (List Sl)} {j i k:Nat} {l:List Sl} {x:Sl},(∀ l∈L,l.length=8)→L[i]? = some l→l[k]? = some x→(L9 j L)[8 * i+k]? = some (j+i,x)
 | [],_,_,_,_,_,_,h,_=>by simp at h
 | l0 :: r,j,0,k,l,x,hl,h,hx=>by
  obtain rfl:l0=l:=by simpa using h
  have kl:k<l0.length:=by
   rcases Nat.lt_or_ge k l0.length with q|q
   ·exact q
   ·rw[List.getElem?_eq_none q] at hx; cases hx
  unfold L9
  rw[Nat.mul_zero,Nat.zero_add,List.getElem?_append_left (by rw[List.length_map]; exact kl),List.getElem?_map,hx]
  rfl
 | l0 :: r,j,i+1,k,l,x,hl,h,hx=>by
  have l8:=hl l0 (List.mem_cons_self ..)
  have:=Xq (L:=r) (j:=j+1) (i:=i) (k:=k) (fun l h=>hl l (List.mem_cons_of_mem _ h)) (by simpa using h) hx
  unfold L9
  rw[List.getElem?_append_right (by rw[List.length_map]; omega),List.length_map,l8,show 8 * (i+1)+k - 8=8 * i+k by omega,this,show j+1+i=j+(i+1) by omega]
theorem R3:∀ {L:List (List Sl)} {j:Nat},(∀ l∈L,l.length=8)→(L9 j L).length=8 * L.length
 | [],_,_=>rfl
 | l0 :: r,j,hl=>by
  unfold L9
  rw[List.length_append,List.length_map,hl l0 (List.mem_cons_self ..),R3 fun l h=>hl l (List.mem_cons_of_mem _ h),List.length_cons]
  omega
structure DirB (a b c e:Nat) (V:Nat→List Nat) (P:Nat→Nat) (bs:List Nat) (L:List (List Sl)):Prop where
 lb:bs.length≤8
 ll:L.length=bs.length
 at_:∀ i z,bs[i]? = some z→P i=z∧z≠0∧Bp a b c e (z:Nat)=true∧z<2+e+a * b∧∃ l,L[i]? = some l∧SlV (V z) l
theorem DirB.l8 {a b c e:Nat} {V:Nat→List Nat} {P:Nat→Nat} {bs:List Nat} {L:List (List Sl)} (D:DirB a b c e V P bs L):∀ l∈L,l.length=8:=fun l hl=>by
 obtain⟨i,hi⟩:=List.mem_iff_getElem?.1 hl
 have il:i<bs.length:=by
  rcases Nat.lt_or_ge i L.length with q|q
  ·rw[D.ll] at q; exact q
  ·rw[List.getElem?_eq_none q] at hi; cases hi
 obtain⟨_,_,_,_,l',h1,h2⟩:=D.at_ i _ (List.getElem?_eq_getElem il)
 rw[h1] at hi
 cases hi
 exact h2.ll
structure RnP (n q R p1 l B:Nat) (A:List Nat):Prop where
 nq:n+23≤q
 bR:q+9≤R∧R<l
 bp:q+9≤p1∧p1<l∧p1≠R
 bA:∀ m∈A,q+9≤m∧m<l∧m≠R∧m≠p1
 bB:q+9≤B
def RdS (n:Nat) (y:List C) (R l:Nat) (bl:List Nat) (h:Go.Ev.H):Prop:=∃ s,h.get R=some (.row 19 [rdC n y s 0] false)∧SlB (l+1) h s bl
def Kpt (n R l B:Nat) (A:List Nat) (h h':Go.Ev.H):Prop:=h.next≤h'.next∧∀ m,m<l→m≠R→m≠n+6→m ∉ A→(m<B∨∀ x,h.get m≠some (.row 2 x false))→h'.get m=h.get m
theorem Ff (c:C):read1 1 [[c]] 0=some c:=rfl
def Kpr (l B:Nat) (A:List Nat) (h h':Go.Ev.H):Prop:=h.next≤h'.next∧∀ m,m<h.next→m≠l→m ∉ A→(m<B∨∀ x,h.get m≠some (.row 2 x false))→h'.get m=h.get m
def Kpi (n R l:Nat) (h h':Go.Ev.H):Prop:=h.next≤h'.next∧∀ m,m<h.next→(m<l∧m≠R∧m≠n+6∨∃ x,h.get m=some (.row 2 x false))→h'.get m=h.get m
theorem Kpt.then {n R l B:Nat} {A:List Nat} {h h1 h2:Go.Ev.H} (k:Kpt n R l B A h h1) (k2:Kpt n R l B A h1 h2):Kpt n R l B A h h2 :=
 ⟨Nat.le_trans k.1 k2.1,fun m m1 m3 m4 m5 m6=>by
  have e:=k.2 m m1 m3 m4 m5 m6
  exact (k2.2 m m1 m3 m4 m5 (m6.imp id fun w x=>by rw[e]; exact w x)).trans e⟩
theorem Kpr.t {n R l B:Nat} {A:List Nat} {h h1:Go.Ev.H} (k:Kpr l B A h h1) (ln:l<h.next):Kpt n R l B A h h1:=⟨k.1,fun m m1 _ _ m5 m6=>k.2 m (by omega) (by omega) m5 m6⟩
section
variable (Hh:Hearts K Tryz.prog)
include Hh
theorem Zar (R:Nat) (h:Go.Ev.H):Zg 34 [.c (.ptr R 0)] h (.w (.c (.fn 85 [] [some (h.next,0)]))) (h.new (.row 1 [[.ptr R 0]] false)):=by
 refine fnG Hh Tryz.f34 ?_
 iterate 5 (first|apply Zk|apply Z0|refine Zq Hh Za Rw ?_)
 exact Rw
variable {n q a b c e:Nat} {cr:Cr} {md:Int} {S T:List Nat} {V:Nat→List Nat} {h0:Go.Ev.H} {y:List C} {P:Nat→Nat} {bs:List Nat} {L:List (List Sl)} {R p1 l B:Nat} {A:List Nat} {lp:O} {I:Nat→Go.Ev.H→Prop}
structure RnS (n q a b c e:Nat) (cr:Cr) (md:Int) (S T:List Nat) (V:Nat→List Nat) (h0:Go.Ev.H) (y:List C) (bs:List Nat) (R p1 l B:Nat) (A:List Nat) (lp:O) (I:Nat→Go.Ev.H→Prop) (t i j:Nat) (ts:Zx) (h:Go.Ev.H):Prop where
 iv:I t h
 M:HE n q a b c e cr md S T V h
 rd:RdS n y R l (bs.take j) h
 hl:h.get l=some lp
 g1:h.get p1=some (.row 1 [[.ptr R 0]] false)
 kp:Kpt n R l B A h0 h
 ln:l<h.next
 s0:Zh ts 0=.w (.c (.yield l))
 s1:Zh ts 1=.w (.c (.ptr p1 0))
 s18:Zh ts 18=.w (.c (.int .i64 (bs.length:Int)))
 s19:Zh ts 19=.w (.c (.int .i64 (i:Int)))
theorem runIn (U:RnP n q R p1 l B A) (D:DirB a b c e V P bs L) (Ik:∀ t h h2,I t h→Kpi n R l h h2→I t h2)
  (round:∀ t i x h,(Jn L)[t]? = some (i,x)→i<bs.length→I t h→HE n q a b c e cr md S T V h→RdS n y R l (bs.take (i+1)) h→h.get l=some lp→l<h.next→∃ E h',Sound K Tryz.prog E∧Jz E l (some [.c (.int .i64 (i:Int)),.g (slC x)]) h (some lp)=some (.val (.w (.c (.bool true))) h')∧I (t+1) h'∧h'.get l=some lp∧HE n q a b c e cr md S T V h'∧Kpr l B A h h')
  {i p:Nat} (ib:i<bs.length) {li:List Sl} (hL:L[i]? = some li) (lp1:l<p):∀ (r k:Nat) (ts:Zx) (h:Go.Ev.H),k+r=8→RnS n q a b c e cr md S T V h0 y bs R p1 l B A lp I (8 * i+k) i (i+1) ts h→h.get p=some (.row 16 [Og li] false)→p<h.next→Zh ts 3=.w (.c (.int .i64 (i:Int)))→Zh ts 34=.w (.c (.slice p 0 8 2))→Zh ts 35=.w (.c (.int .i64 8))→Zh ts 36=.w (.c (.int .i64 (k:Int))) →
  Ye 47 none (q85 [1,1,2,2,1,1,0,2,1,1,1,1,2]) [] ts h fun x ds' ts' h'=>x=.exit 2∧ds'=[]∧RnS n q a b c e cr md S T V h0 y bs R p1 l B A lp I (8 * i+8) i (i+1) ts' h':=by
 have l8:=D.l8 li (List.mem_of_getElem? hL)
 obtain⟨nq,bR,bp,bA,bB⟩:=U
 intro r
 induction r with
 | zero =>
  intro k ts h hk N hp pl t3 t34 t35 t36
  obtain rfl:k=8:=by omega
  obtain⟨i1,M,rd,hl,g1,kp,ln,s0,s1,s18,s19⟩:=N
  have Jf:=Yy @t35 @t36
  iterate 6 (first|apply Zk|apply Ux|apply Je|refine Goes.Zi Zj ?_|refine Zq Hh Za Zj ?_)
  refine⟨rfl,rfl,i1,M,rd,hl,g1,kp,ln,?_,?_,?_,?_⟩
  ·have Jf:=@s0; exact Zj
  ·have Jf:=@s1; exact Zj
  ·have Jf:=@s18; exact Zj
  ·have Jf:=@s19; exact Zj
 | succ r ih =>
  intro k ts h hk N hp pl t3 t34 t35 t36
  obtain⟨i1,M,rd,hl,g1,kp,ln,s0,s1,s18,s19⟩:=N
  have k8:k<8:=by omega
  obtain⟨x,hx⟩:∃ x,li[k]? = some x:=⟨_,List.getElem?_eq_getElem (by omega)⟩
  obtain⟨r0,r1,r2⟩:=Z5j l8 hx
  have at_:(Jn L)[8 * i+k]? = some (i,x):=by
   have:=Xq (j:=0) D.l8 hL hx
   rw[Nat.zero_add] at this
   exact this
  obtain⟨W,hW⟩:∃ W,Og li=W:=⟨_,rfl⟩
  have hp':=hp
  rw[hW] at hp' r2
  have wz:Z4 2 [[C.int .u32 0,.str []]] 0 (slC x)=some [slC x]:=rfl
  have rz:Zn 2 [slC x] 0 2=some (slC x):=rfl
  have sl2:(slC x).length=2:=rfl
  have rd':=fun h=>round (8 * i+k) i x h at_ ib
  obtain⟨X,hX⟩:∃ X,slC x=X:=⟨_,rfl⟩
  rw[hX] at r2 wz rz sl2
  simp only[hX] at rd'
  have dd:decide ((k:Int)<8)=true:=decide_eq_true (by omega)
  have Jf:=Uq @s0 @t3 @t34 (Yu @t35 @t36 @dd @hp' @r2 @wz @rz @sl2 @Nat.zero_add)
  iterate 11 (first|apply Zk|apply Zw|apply Yt|apply Je|refine Goes.Zi Z5 ?_|refine Zq Hh Za Z5 ?_)
  refine Uc fun hA eA=>?_
  have nA:hA.next=h.next+1:=by rw[eA]; simp only[H.Zd,H.Zb]
  have kA:∀ m,m<h.next→hA.get m=h.get m:=fun m hm=>by rw[eA]; exact Yc
  have bA':hA.get h.next=some (.row 2 [X] false):=by rw[eA]; exact Z5
  clear eA
  obtain⟨nq',nx,n0⟩:=M.nx
  have MA:=M.keep (h2:=hA) (by omega) fun m hm=>kA m (by omega)
  obtain⟨s,R1,R2⟩:=rd
  have rdA:RdS n y R l (bs.take (i+1)) hA:=⟨s,(kA R (by omega)).trans R1,R2.1.keep fun p' o k z e=>kA p' (R2.2 p' o k z e).2,fun p' o k z e=>⟨(R2.2 p' o k z e).1,by have:=(R2.2 p' o k z e).2; omega⟩⟩
  obtain⟨E,hB,Sd,rnd,iB,lB,MB,kB⟩:=rd' hA (Ik _ _ _ i1 ⟨by omega,fun m hm _=>kA m hm⟩) MA rdA ((kA l ln).trans hl) (by omega)
  have al:=(kA l ln).trans hl
  have nB:=kB.1
  have nA_:∀ m,l<m→m ∉ A:=fun m hm w=>by have:=bA m w; omega
  have RA:=rdA
  obtain⟨s',R1',R2'⟩:=rdA
  have RB:RdS n y R l (bs.take (i+1)) hB:=⟨s',(kB.2 R (by omega) (by omega) (fun w=>(bA R w).2.2.1 rfl) (.inr fun x w=>by rw[R1'] at w; cases w)).trans R1',by
   rcases R2'.1 with q1|⟨p',a1,a2,a3⟩
   ·exact .inl q1
   ·have b':=R2'.2 _ _ _ _ a2
    exact .inr ⟨p',a1,a2,(kB.2 p' b'.2 (by omega) (nA_ p' (by omega)) (.inr fun x w=>by rw[a3] at w; cases w)).trans a3⟩,fun p' o k z e=>⟨(R2'.2 p' o k z e).1,by have:=(R2'.2 p' o k z e).2; omega⟩⟩
  have g1B:=(kB.2 p1 (by omega) (by omega) (fun w=>(bA p1 w).2.2.2 rfl) (.inr fun x w=>by rw[kA p1 (by omega),g1] at w; cases w)).trans ((kA p1 (by omega)).trans g1)
  have pB:=(kB.2 p (by omega) (by omega) (nA_ p lp1) (.inr fun x w=>by rw[kA p pl,hp] at w; cases w)).trans ((kA p pl).trans hp)
  have kpA:Kpt n R l B A h hA:=⟨by omega,fun m hm _ _ _ _=>kA m (by omega)⟩
  have Jf:=Uq Jf @al @bA' @rnd
  iterate 4 (first|apply Zw|refine Goes.Zi Z5 ?_|refine Zq Hh Sd Z5 ?_)
  show Ye 47 none (q85 [1,1,2,2,1,1,0,2,1,1,1,1,2]) _ _ _ _
  refine ih (k+1) _ hB (by omega) ⟨iB,MB,RB,lB,g1B,(kp.then kpA).then (kB.t (by omega)),by omega,?_,?_,?_,?_⟩ pB (by omega) ?_ ?_ ?_ ?_
  ·have Jf:=@s0; exact Zj
  ·have Jf:=@s1; exact Zj
  ·have Jf:=@s18; exact Zj
  ·have Jf:=@s19; exact Zj
  ·have Jf:=@t3; exact Zj
  ·have Jf:=@t34; exact Zj
  ·have Jf:=@t35; exact Zj
  ·exact Zc
theorem Z9r (f:Ym a b c e=true) (m0:md≠0) (U:RnP n q R p1 l B A) (X:InoP y P) (D:DirB a b c e V P bs L) (Ik:∀ t h h2,I t h→Kpi n R l h h2→I t h2)
  (round:∀ t i x h,(Jn L)[t]? = some (i,x)→i<bs.length→I t h→HE n q a b c e cr md S T V h→RdS n y R l (bs.take (i+1)) h→h.get l=some lp→l<h.next→∃ E h',Sound K Tryz.prog E∧Jz E l (some [.c (.int .i64 (i:Int)),.g (slC x)]) h (some lp)=some (.val (.w (.c (.bool true))) h')∧I (t+1) h'∧h'.get l=some lp∧HE n q a b c e cr md S T V h'∧Kpr l B A h h')
  (b0:B≤h0.next) (lo:∀ x,lp≠.row 2 x false):∀ (r i:Nat) (ts:Zx) (h:Go.Ev.H),i+r=bs.length→RnS n q a b c e cr md S T V h0 y bs R p1 l B A lp I (8 * i) i i ts h →
  Ye 47 none (q85 [1,1,2]) [] ts h fun x ds' ts' h'=>x=.exit 0∧ds'=[]∧RnS n q a b c e cr md S T V h0 y bs R p1 l B A lp I (8 * bs.length) bs.length bs.length ts' h':=by
 intro r
 induction r with
 | zero =>
  intro i ts h hi N
  obtain rfl:i=bs.length:=by omega
  obtain⟨i1,M,rd,hl,g1,kp,ln,s0,s1,s18,s19⟩:=N
  have dd:decide (((bs.length:Nat):Int)<((bs.length:Nat):Int))=false:=decide_eq_false (by omega)
  have Jf:=Jb @s18 @s19 @dd
  iterate 6 (first|apply Zk|apply Ux|apply Je|refine Goes.Zi Zj ?_|refine Zq Hh Za Zj ?_)
  refine⟨rfl,rfl,i1,M,rd,hl,g1,kp,ln,?_,?_,?_,?_⟩
  ·have Jf:=@s0; exact Zj
  ·have Jf:=@s1; exact Zj
  ·have Jf:=@s18; exact Zj
  ·have Jf:=@s19; exact Zj
 | succ r ih =>
  intro i ts h hi N
  have ib:i<bs.length:=by omega
  obtain⟨i1,M,rd,hl,g1,kp,ln,s0,s1,s18,s19⟩:=N
  have lb:=D.lb
  obtain⟨z,hz⟩:∃ z,bs[i]? = some z:=⟨_,List.getElem?_eq_getElem ib⟩
  obtain⟨d1,d2,d3,d4,li,d5,d6⟩:=D.at_ i z hz
  obtain⟨s,R1,R2⟩:=rd
  have UU:=U
  obtain⟨nq,bR,bp,bA,bB⟩:=U
  obtain⟨p,s',hB,c4,F1,F2,F3,F4,F5,MB,nB,kB⟩:=Z4o Hh f m0 M X (i:=i) (by omega) d1 d2 d3 d4 d6 (bB:=l+1) R1 R2 ⟨bR.1,by omega,by omega⟩ (by rw[List.length_take]; omega)
  have tk:bs.take i++[z]=bs.take (i+1):=by rw[List.take_add_one,hz]; rfl
  rw[tk] at F5
  have neS:∀ m,m≤l→∀ o k z,s≠.slice m o k z:=fun m hm o k z w=>by have:=(R2.2 m o k z w).1; omega
  have lB:=(kB l ln (by omega) (by omega) (neS l (by omega))).trans hl
  have g1B:=(kB p1 (by omega) (by omega) (by omega) (neS p1 (by omega))).trans g1
  have iB:=Ik _ _ _ i1 ⟨nB,fun m hm w=>by
   rcases w with ⟨w1,w2,w3⟩|⟨x,w⟩
   ·exact kB m hm w3 w2 (neS m (by omega))
   ·refine kB m hm (fun w2=>?_) (fun w2=>?_) (fun o k z w2=>?_)
    ·subst w2
     obtain⟨d,d1',d2',kn,ld,lt,lc,lm,LL,q1,q2,q3,q4,q5,q6,q7,q8,q9,q10,q11,MM⟩:=M
     rw[MM.hm] at w
     cases w
    ·subst w2
     rw[R1] at w
     cases w
    ·rcases R2.1 with ⟨_,q1⟩|⟨p',a1,a2,a3⟩
     ·rw[q1] at w2; cases w2
     ·rw[a2] at w2
      cases w2
      rw[a3] at w
      cases w⟩
  have kpB:Kpt n R l B A h hB:=⟨nB,fun m hm mR m6 _ w=>kB m (by omega) m6 mR (neS m (by omega))⟩
  have lf:=Zl2
  have dd:decide ((i:Int)<((bs.length:Nat):Int))=true:=decide_eq_true (by omega)
  obtain⟨nb,hnb⟩:∃ nb,bs.length=nb:=⟨_,rfl⟩
  rw[hnb] at dd
  have s18':=s18
  rw[hnb] at s18'
  have Jf:=Vu @s0 @s1 @s18' @s19 @g1 @dd @Ff @lf
  iterate 11 (first|apply Zk|apply Zw|apply Yt|apply Je|refine Goes.Zi Zf8 ?_|refine Zq Hh Za Zf8 ?_)
  iterate 9 (first|apply Zk|apply Zw|apply Yt|refine Goes.Zi Zf8 ?_|refine Zq Hh (Zp Za c4) Zf8 ?_)
  refine (runIn Hh UU D Ik round ib d5 (by omega) 8 0 _ hB (by omega) ⟨iB,MB,⟨s',F4,F5⟩,lB,g1B,kp.then kpB,by omega,?_,?_,?_,?_⟩ F1 F3 ?_ ?_ ?_ ?_).mono ?_
  ·have Jf:=@s0; exact Zj
  ·have Jf:=@s1; exact Zj
  ·have Jf:=@s18; exact Zj
  ·have Jf:=@s19; exact Zj
  ·exact Zc
  ·exact Zc
  ·exact Zc
  ·exact Zc
  rintro x1 ds1 ts1 h1 ⟨rfl,rfl,N1⟩
  obtain⟨i2,M2,rd2,hl2,g2,kp2,ln2,u0,u1,u18,u19⟩:=N1
  have Jf:=@u19
  refine Zq Hh Za Zj ?_
  show Ye 47 none (q85 [1,1,2]) _ _ _ _
  refine ih (i+1) _ h1 (by omega) ⟨i2,M2,rd2,hl2,g2,kp2,ln2,?_,?_,?_,?_⟩
  ·have Jf:=@u0; exact Zj
  ·have Jf:=@u1; exact Zj
  ·have Jf:=@u18; exact Zj
  ·exact Zc
theorem Z8v (f:Ym a b c e=true) (m0:md≠0) (U:RnP n q R p1 l B A) (X:InoP y P) (D:DirB a b c e V P bs L) (y3:y[3]? = some (.int .i64 ((256 * bs.length:Nat):Int))) (Ik:∀ t h h2,I t h→Kpi n R l h h2→I t h2)
  (round:∀ t i x h,(Jn L)[t]? = some (i,x)→i<bs.length→I t h→HE n q a b c e cr md S T V h→RdS n y R l (bs.take (i+1)) h→h.get l=some lp→l<h.next→∃ E h',Sound K Tryz.prog E∧Jz E l (some [.c (.int .i64 (i:Int)),.g (slC x)]) h (some lp)=some (.val (.w (.c (.bool true))) h')∧I (t+1) h'∧h'.get l=some lp∧HE n q a b c e cr md S T V h'∧Kpr l B A h h')
  (b0:B≤h0.next) (lo:∀ x,lp≠.row 2 x false) (i0:I 0 h0) (M:HE n q a b c e cr md S T V h0) (hR:h0.get R=some (.row 19 [rdC n y .snil 0] false)) (hl:h0.get l=some lp) (g1:h0.get p1=some (.row 1 [[.ptr R 0]] false)) (ln:l<h0.next) :
  ∃ v h',Zg 85 [.c (.yield l),.c (.ptr p1 0)] h0 v h'∧I (8 * bs.length) h'∧HE n q a b c e cr md S T V h'∧RdS n y R l bs h'∧h'.get l=some lp∧Kpt n R l B A h0 h':=by
 have yl:=X.xl
 obtain⟨q0,q1,q2,q3,q4,q5⟩:=Ej (n:=n) (s:=.snil) (e:=0) yl
 rw[y3] at q5
 obtain⟨r0,hr0⟩:∃ r,rdC n y .snil 0=r:=⟨_,rfl⟩
 have hR':=hR
 rw[hr0] at hR' q0 q1 q2 q3 q4 q5
 have lb:=D.lb
 obtain⟨nb,hnb⟩:∃ nb,bs.length=nb:=⟨_,rfl⟩
 have dv:256 * nb / 256=nb:=by omega
 rw[hnb] at q5 lb
 obtain⟨N,hN⟩:∃ N,256 * nb=N:=⟨_,rfl⟩
 rw[hN] at q5 dv
 obtain⟨v,h',cc,q⟩:∃ v h',Zg 85 [.c (.yield l),.c (.ptr p1 0)] h0 v h'∧I (8 * bs.length) h'∧HE n q a b c e cr md S T V h'∧RdS n y R l bs h'∧h'.get l=some lp∧Kpt n R l B A h0 h':=by
  refine Yg Hh Tryz.f85 ?_
  have Jf:=Sy @hR' @g1 @q3 @q5 @dv @Ff
  iterate 8 (first|apply Zk|apply Zw|apply Yt|refine Goes.Zi Z5 ?_|refine Zq Hh Za Z5 ?_)
  refine (Z9r Hh f m0 U X D Ik round b0 lo bs.length 0 _ h0 (by omega) ⟨i0,M,⟨.snil,hR,.inl ⟨rfl,rfl⟩,fun p o k z e=>by cases e⟩,hl,g1,⟨Nat.le_refl _,fun _ _ _ _ _ _=>rfl⟩,ln,?_,?_,?_,?_⟩).mono ?_
  ·exact Zc
  ·exact Zc
  ·rw[hnb]; exact Zc
  ·exact Zc
  rintro x1 ds1 ts1 h1 ⟨rfl,rfl,N1⟩
  obtain⟨i2,M2,rd2,hl2,g2,kp2,ln2,u0,u1,u18,u19⟩:=N1
  rw[List.take_of_length_le (Nat.le_refl _)] at rd2
  show ∃ v h',leave K Tryz.f85 (some (Out.at Go.Ev.X.normal [] ts1 h1))=some (Out.val v h')∧_
  exact⟨_,_,Zc,i2,M2,rd2,hl2,kp2⟩
 exact⟨v,h',cc,q⟩
theorem Zmc {nt pr1 pr2 b1:Nat} {Aa Bd:Go.Code} (ne:Bd≠Aa) (pn1:pr1<nt) (pn2:pr2<nt) {ts:Zx} {hC:Go.Ev.H} {JT:Zx→Nat→Nat→Prop} (f:Ym a b c e=true) (m0:md≠0) (nC:hC.next=b1) (U:RnP n q R p1 (b1+1) B A) (X:InoP y P) (D:DirB a b c e V P bs L) (y3:y[3]? = some (.int .i64 ((256 * bs.length:Nat):Int))) (Ik:∀ t h h2,I t h→Kpi n R (b1+1) h h2→I t h2) (bB:B≤b1) (bl:R<b1∧p1<b1∧∀ m∈A,m<b1)
  (hA:∀ (i:Nat) (x:Sl) (h:Go.Ev.H),Ye nt (some (b1+1)) Aa [] ((ts.set pr1 (.w (.c (.int .i64 (i:Int))))).set pr2 (.w (.g (slC x)))) h fun x' ds' ts' h'=>x'=.normal∧ds'=[]∧JT ts' i h.next∧h'.next=h.next+1∧(∀ m,m<h.next→h'.get m=h.get m)∧h'.get h.next=some (.row 2 [slC x] false))
  (hB:∀ (t i:Nat) (x:Sl) (ts':Zx) (h:Go.Ev.H) (hb:Nat),(Jn L)[t]? = some (i,x)→i<bs.length→JT ts' i hb→h.get hb=some (.row 2 [slC x] false)→b1+1<hb→hb<h.next→I t h→HE n q a b c e cr md S T V h→RdS n y R (b1+1) (bs.take (i+1)) h→(∃ lo,h.get (b1+1)=some lo∧∀ x,lo≠.row 2 x false)→Ye nt (some (b1+1)) Bd [] ts' h fun x' _ _ h'=>x'=.normal∧h'.get (b1+1)=h.get (b1+1)∧I (t+1) h'∧HE n q a b c e cr md S T V h'∧Kpr (b1+1) B A h h')
  (hR:hC.get R=some (.row 19 [rdC n y .snil 0] false)) (g1:hC.get p1=some (.row 1 [[.ptr R 0]] false)) {g:Go.Operand} (eg:Z6 K ts g=some (.fn 85 [] [some (p1,0)])) (M:HE n q a b c e cr md S T V hC)
  (I0:∀ h2,b1+2≤h2.next→(∀ p,p<b1→h2.get p=hC.get p)→I 0 h2) :
  Ye nt none (.rangeFunc g #[pr1,pr2] Aa Bd) [] ts hC fun x' ds' ts' h'=>x'=.normal∧ts'=ts∧ds'=[b1]∧h'.get b1=some .defers∧I (8 * bs.length) h'∧HE n q a b c e cr md S T V h'∧RdS n y R (b1+1) bs h'∧b1+2≤h'.next∧∀ m,m<b1→m≠R→m≠n+6→m ∉ A→(m<B∨∀ x,hC.get m≠some (.row 2 x false))→h'.get m=hC.get m:=by
 obtain⟨nq',nx,n0⟩:=M.nx
 have U':=U
 obtain⟨nq,bR,bp,bA,bB'⟩:=U'
 obtain⟨lp,hlp⟩:∃ lp,lp=O.loop ts nt [pr1,pr2] Aa Bd .ready none b1:=⟨_,rfl⟩
 have nA:∀ m,b1<m→m ∉ A:=fun m hm w=>by have:=bA m w; omega
 have round:∀ t i x h,(Jn L)[t]? = some (i,x)→i<bs.length→I t h→HE n q a b c e cr md S T V h→RdS n y R (b1+1) (bs.take (i+1)) h→h.get (b1+1)=some lp→b1+1<h.next→∃ E h',Sound K Tryz.prog E∧Jz E (b1+1) (some [.c (.int .i64 (i:Int)),.g (slC x)]) h (some lp)=some (.val (.w (.c (.bool true))) h')∧I (t+1) h'∧h'.get (b1+1)=some lp∧HE n q a b c e cr md S T V h'∧Kpr (b1+1) B A h h':=by
  intro t i x h at_ ib J Mh rd hl l9
  subst hlp
  obtain⟨s,R1,R2⟩:=rd
  obtain⟨E2,h2,Sd,rnd,⟨J',nl2⟩,M2,kk⟩:=Zwj (l:=b1+1) (nt:=nt) (J:=fun ts' h'=>JT ts' i h.next∧h'.next=h.next+1∧(∀ m,m<h.next→h'.get m=h.get m)∧h'.get h.next=some (.row 2 [slC x] false))
   (Q:=fun h2=>(I (t+1) h2∧∀ x,h2.get (b1+1)≠some (.row 2 x false))∧HE n q a b c e cr md S T V h2∧Kpr (b1+1) B A h h2) ne (us:=[.c (.int .i64 (i:Int)),.g (slC x)]) (tz:=(ts.set pr1 (.w (.c (.int .i64 (i:Int))))).set pr2 (.w (.g (slC x)))) (by simp only[U4,Qm pn1,Qm pn2,cond_true]) hl
   ((hA i x h).mono fun x' ds' ts' h' ⟨e1,e2,t1,n1,k1,r1⟩=>⟨e1,e2,k1 _ l9,t1,n1,k1,r1⟩)
   (fun ts' h' ⟨E',n1,k1,r1⟩=>(hB t i x ts' (h'.put (b1+1) (.loop ts nt [pr1,pr2] Aa Bd .busy none b1)) h.next at_ ib E' (by rw[Ze (by omega)]; exact r1) (by omega) (by rw[H.Zd]; omega) (Ik t h _ J ⟨by rw[H.Zd]; omega,fun m hm w=>by
     have:m≠b1+1:=fun q=>by
      rcases w with w|⟨x,w⟩
      ·omega
      ·rw[q,hl] at w; cases w
     rw[Ze this]; exact k1 m hm⟩) (Mh.keep (by rw[H.Zd]; omega) fun m hm=>by rw[Ze (by omega)]; exact k1 m (by omega)) ⟨s,by rw[Ze (by omega),k1 R (by omega)]; exact R1,R2.1.keep fun p' o k z e=>by
      have:=R2.2 p' o k z e
      rw[Ze (by omega)]; exact k1 p' this.2,fun p' o k z e=>⟨(R2.2 p' o k z e).1,by have:=(R2.2 p' o k z e).2; rw[H.Zd]; omega⟩⟩ ⟨_,Zz ..,fun x w=>by cases w⟩).mono fun x2 _ _ h2 ⟨e1,e9,J2,M2,n2,k2⟩=>by
    rw[H.Zd] at n2 k2
    refine⟨e1,e9.trans (Zz ..),⟨J2,fun x w=>by rw[e9,Zz] at w; cases w⟩,M2,by omega,fun m hm ml mA w=>?_⟩
    have e0:(h'.put (b1+1) (.loop ts nt [pr1,pr2] Aa Bd .busy none b1)).get m=h.get m:=by rw[Ze ml]; exact k1 m hm
    exact (k2 m (by omega) ml mA (w.imp id fun w x=>by rw[e0]; exact w x)).trans e0)
  have n2:=kk.1
  refine⟨E2,_,Sd,rnd,Ik _ _ _ J' ⟨by rw[H.Zd]; omega,fun m hm w=>?_⟩,Zz ..,M2.keep (by rw[H.Zd]; omega) fun m hm=>Ze (by omega),by rw[H.Zd]; exact n2,fun m hm ml mA w=>by rw[Ze ml]; exact kk.2 m hm ml mA w⟩
  by_cases e:m=b1+1
  ·subst e
   rcases w with w|⟨x,w⟩
   ·omega
   ·exact absurd w (nl2 x)
  ·exact Ze e
 have gl:((hC.new .defers).new lp).get (b1+1)=some lp:=Jv (by rw[H.Zb]; omega)
 have gd:((hC.new .defers).new lp).get b1=some .defers:=by rw[Z8 (by rw[H.Zb]; omega),Jv (by omega)]
 have gk:∀ p,p<b1→((hC.new .defers).new lp).get p=hC.get p:=fun p hp=>by rw[Z8 (by rw[H.Zb]; omega),Z8 (by omega)]
 have nx2:((hC.new .defers).new lp).next=b1+2:=by simp only[H.Zb]; omega
 obtain⟨v,h3,cc,J,M3,rd3,g9,k3⟩:=Z8v Hh f m0 U X D y3 Ik round (h0:=(hC.new .defers).new lp) (by omega) (by subst hlp; intro x w; cases w) (I0 _ (by omega) gk) (M.keep (by omega) fun m hm=>gk m (by omega)) ((gk R (by omega)).trans hR) gl ((gk p1 (by omega)).trans g1) (by omega)
 have n3:=k3.1
 refine Goes.Zbq fits Hh (f:=85) (first:=[]) (caps:=[some (p1,0)]) eg ⟨v,h3,?_,?_⟩
 ·rw[nC]
  subst hlp
  exact cc
 ·rw[nC]
  subst hlp
  refine⟨_,_,_,_,_,_,_,_,g9,by simp,?_⟩
  show _∧_∧_
  obtain⟨s,R1,R2⟩:=rd3
  refine⟨rfl,rfl,rfl,?_,Ik _ _ _ J ⟨by rw[H.Zd]; omega,fun m hm w=>Ze fun q=>?_⟩,M3.keep (by rw[H.Zd]; omega) fun m hm=>Ze (by omega),⟨s,by rw[Ze (by omega)]; exact R1,R2.1.keep fun p' o k z e=>Ze (by have:=(R2.2 p' o k z e).1; omega),fun p' o k z e=>⟨(R2.2 p' o k z e).1,by have:=(R2.2 p' o k z e).2; rw[H.Zd]; omega⟩⟩,by rw[H.Zd]; omega,fun m hm mR m6 mA w=>?_⟩
  ·rw[Ze (by omega),k3.2 b1 (by omega) (by omega) (by omega) (fun w=>by have:=bl.2.2 b1 w; omega) (.inr fun x w=>by rw[gd] at w; cases w)]
   exact gd
  ·rcases w with w|⟨x,w⟩
   ·omega
   ·rw[q,g9] at w; cases w
  ·rw[Ze (by omega),k3.2 m (by omega) mR m6 mA (w.imp id fun w x=>by rw[gk m hm]; exact w x)]
   exact gk m hm
end
theorem ty180:K.types.get 180=some ti180:=by kernel_rfl
theorem sz180:ti180.size=1:=by rfl
theorem ag180:ti180.agg=false:=by rfl
attribute [go_sem] ty180 sz180 ag180
noncomputable def q41 (p:List Nat):Code:=piece p (Uh Tryz.f41)
theorem Zxt:q41 [1,1,0,1,2]=.rangeFunc (.tmp 11) #[12,13] (q41 [1,1,0,1,2,5]) (q41 [1,1,0,1,2,6]):=by kernel_rfl
theorem Zt3:q41 [1,1,0,1,2,5]=.seq (q41 [1,1,0,1,2,5,0]) (q41 [1,1,0,1,2,5,1]):=by kernel_rfl
theorem Zrd:q41 [1,1,0,1,2,6]=.block 1 (q41 [1,1,0,1,2,6,2]):=by kernel_rfl
theorem rs41:Tryz.f41.results.toList=[.cell 4 3,.cell 5 3]:=rfl
theorem rs98:Tryz.f98.results.toList=[]:=rfl
theorem rs14:Tryz.f14.results.toList=[.tmp 6,.tmp 7]:=rfl
attribute [go_sem] rs41 rs98 rs14
def lkF (bs:List Nat) (s:List UInt8):List (Nat × Sl)→Nat × Nat
 | []=>(0,0)
 | (i,x) :: r=>if x.1≠0∧x.2=s then (x.1,bs.getD i 0) else lkF bs s r
theorem Zqc {bs:List Nat} {s:List UInt8} {i:Nat} {x:Sl}:∀ {l:List (Nat × Sl)},lkF bs s (l++[(i,x)])=if (lkF bs s l).1=0∧x.1≠0∧x.2=s then (x.1,bs.getD i 0) else lkF bs s l
 | []=>by
  show (if x.1≠0∧x.2=s then (x.1,bs.getD i 0) else (0,0))=if (0:Nat)=0∧x.1≠0∧x.2=s then (x.1,bs.getD i 0) else (0,0)
  simp
 | (j,y) :: r=>by
  have ih:=Zqc (bs:=bs) (s:=s) (i:=i) (x:=x) (l:=r)
  show (if y.1≠0∧y.2=s then (y.1,bs.getD j 0) else lkF bs s (r++[(i,x)]))=_
  have e:lkF bs s ((j,y) :: r)=if y.1≠0∧y.2=s then (y.1,bs.getD j 0) else lkF bs s r:=rfl
  rw[ih,e]
  by_cases w:y.1≠0∧y.2=s
  ·simp only[if_pos w]
   rw[if_neg fun q=>w.1 q.1]
  ·simp only[if_neg w]
theorem Zew {α:Type} {l:List α} {t:Nat} {x:α} (h:l[t]? = some x):l.take (t+1)=l.take t++[x]:=by
 rw[List.take_add_one,h]
 rfl
section
variable (Hh:Hearts K Tryz.prog)
include Hh
variable {n q a b c e:Nat} {cr:Cr} {md:Int} {S T:List Nat} {V:Nat→List Nat} {h:Go.Ev.H} {y:List C} {P:Nat→Nat} {bs:List Nat} {L:List (List Sl)} {R l:Nat} {s:List UInt8}
theorem Z6i (yl:y.length=16) {x1 x2 x3 x4 i u w z:Nat} {x:Sl} {bl:List Nat} (rd:RdS n y R l bl h) (hz:bl[i]? = some z) (xb:x.1<4294967296) (g1:h.get x1=some (.row 1 [[.ptr R 0]] false)) (g2:h.get x2=some (.row 1 [[.str s]] false)) (g3:h.get x3=some (.row 1 [[.int .i64 (u:Int)]] false)) (g4:h.get x4=some (.row 1 [[.int .i64 (w:Int)]] false)) (b1:x1<h.next) (b2:x2<h.next) (b3:x3<h.next) (b4:x4<h.next) (bR:R<h.next) (ne:x3≠x4∧x3≠R∧x4≠R∧x3≠x1∧x4≠x1∧x3≠x2∧x4≠x2∧x3≤l∧x4≤l) :
  ∃ h',Zg 98 [.c (.int .i64 (i:Int)),.g (slC x),.c (.ptr x3 0),.c (.ptr x2 0),.c (.ptr x1 0),.c (.ptr x4 0)] h (.tup []) h'∧h.next≤h'.next∧(∀ m,m<h.next→m≠x3→m≠x4→h'.get m=h.get m)∧h'.get x3=some (.row 1 [[.int .i64 ((if u=0∧x.1≠0∧x.2=s then x.1 else u:Nat):Int)]] false)∧h'.get x4=some (.row 1 [[.int .i64 ((if u=0∧x.1≠0∧x.2=s then z else w:Nat):Int)]] false):=by
 obtain⟨c,R1,R2⟩:=rd
 obtain⟨q0,q1,q2,q3,q4,q5⟩:=Ej (n:=n) (s:=c) (e:=0) yl
 obtain⟨r0,hr0⟩:∃ r,rdC n y c 0=r:=⟨_,rfl⟩
 rw[hr0] at R1 q2
 obtain⟨xi,xn⟩:=x
 unfold slC
 simp only at xb ⊢
 obtain⟨p,rfl,gp,bp,pl⟩:∃ p,c=.slice p 0 bl.length 1∧h.get p=some (.row 1 (rwI bl) false)∧l+1≤p∧p<h.next:=by
  rcases R2.1 with ⟨w,_⟩|⟨p,a1,a2,a3⟩
  ·rw[w] at hz; simp at hz
  ·exact⟨p,a2,a3,(R2.2 _ _ _ _ a2).1,(R2.2 _ _ _ _ a2).2⟩
 have ib:i<bl.length:=by
  rcases Nat.lt_or_ge i bl.length with w|w
  ·exact w
  ·rw[List.getElem?_eq_none w] at hz; cases hz
 have rz:=rdI hz
 obtain⟨B,hB⟩:∃ B,rwI bl=B:=⟨_,rfl⟩
 obtain⟨lb,hlb⟩:∃ lb,bl.length=lb:=⟨_,rfl⟩
 rw[hB] at gp rz
 rw[hlb] at q2 ib
 refine Ou ?_
 by_cases u0:u=0
 ·have e1:((u:Int) == 0)=true:=by subst u0; rfl
  by_cases x0:xi=0
  ·have e2:((xi:Int) != 0)=false:=by subst x0; rfl
   have nn:¬ (u=0∧xi≠0∧xn=s):=fun w=>w.2.1 x0
   simp only[if_neg nn]
   refine Yg Hh Tryz.f98 ?_
   have Jf:=Sy @g3 @e1 @e2 @rd20 @rd21 @Ff
   iterate 6 (first|apply Zk|apply Zw|refine Goes.Zi Ji ?_|refine Zq Hh Za Ji ?_)
   exact⟨_,_,Zc,rfl,by simp only[H.Zd,H.Zb]; omega,fun m hm _ _=>by exact Yc,by refine Eq.trans ?_ g3; exact Yc,by refine Eq.trans ?_ g4; exact Yc⟩
  ·have e2:((xi:Int) != 0)=true:=Mr (by omega)
   by_cases xs:xn=s
   ·have e3:Uw xn s=true:=Dz.2 xs
    have nn:u=0∧xi≠0∧xn=s:=⟨u0,x0,xs⟩
    simp only[if_pos nn]
    refine Yg Hh Tryz.f98 ?_
    iterate 6 (first|apply Zk|((first|apply Goes.Zi|apply Goes.ops2 fits Hh Za); · simp (maxSteps:=9^6) +decide (disch:=first|omega|(simp only[lens]<;>omega)|decide) only [go_sem,Zm,simprocAttr,g1,g2,g3,g4,e1,e2,e3,R1,q2,gp,rz,rd20,rd21,Ff,Yf,Tm]<;>rfl)|(apply Goes.drawn2 fits Hh Za (by kernel_rfl); · simp (maxSteps:=9^6) +decide (disch:=first|omega|(simp only[lens]<;>omega)|decide) only [go_sem,Zm,simprocAttr,drG,g1,g2,g3,g4,e1,e2,e3,R1,q2,gp,rz,rd20,rd21,Ff,Yf,Tm]<;>rfl))
    refine⟨_,_,Zc,rfl,?_,fun m hm _ _=>?_,?_,?_⟩
    ·simp only[H.Zd,H.Zb]; omega
    ·exact Yc
    ·exact Yc<;>rfl
    ·exact Yc<;>rfl
   ·have e3:Uw xn s=false:=by rw[Zaj]; exact decide_eq_false xs
    have nn:¬ (u=0∧xi≠0∧xn=s):=fun w=>xs w.2.2
    simp only[if_neg nn]
    refine Yg Hh Tryz.f98 ?_
    iterate 6 (first|apply Zk|apply Zw|((first|apply Goes.Zi|apply Goes.ops2 fits Hh Za); · simp (maxSteps:=9^6) +decide (disch:=first|omega|(simp only[lens]<;>omega)|decide) only [go_sem,Zn,Zm,simprocAttr,g2,g3,e1,e2,e3,rd20,rd21,Ff,Yf,Tm]<;>rfl))
    exact⟨_,_,Zc,rfl,by simp only[H.Zd,H.Zb]; omega,fun m hm _ _=>by exact Yc,by refine Eq.trans ?_ g3; exact Yc,by refine Eq.trans ?_ g4; exact Yc⟩
 ·have e1:((u:Int) == 0)=false:=Ee (by omega)
  have nn:¬ (u=0∧xi≠0∧xn=s):=fun w=>u0 w.1
  simp only[if_neg nn]
  refine Yg Hh Tryz.f98 ?_
  have Jf:=U1 @g3 @e1 @rd20 @rd21 @Ff
  iterate 6 (first|apply Zk|apply Zw|refine Goes.Zi Ji ?_|refine Zq Hh Za Ji ?_)
  exact⟨_,_,Zc,rfl,by simp only[H.Zd,H.Zb]; omega,fun m hm _ _=>by exact Yc,by refine Eq.trans ?_ g3; exact Yc,by refine Eq.trans ?_ g4; exact Yc⟩
structure LkI (n R b0:Nat) (bs:List Nat) (s:List UInt8) (A:List (Nat × Sl)) (t:Nat) (h:Go.Ev.H):Prop where
 c1:h.get b0=some (.row 1 [[.ptr R 0]] false)
 c2:h.get (b0+1)=some (.row 1 [[.str s]] false)
 c3:h.get (b0+2)=some (.row 1 [[.int .i64 ((lkF bs s (A.take t)).1:Int)]] false)
 c4:h.get (b0+3)=some (.row 1 [[.int .i64 ((lkF bs s (A.take t)).2:Int)]] false)
 c6:h.get (b0+4)=some (.row 1 [[.fn 98 [] [some (b0+2,0),some (b0+1,0),some (b0,0),some (b0+3,0)]]] false)
 nx:b0+8≤h.next
theorem lkA (lq:Nat) (ts:Zx) (i:Nat) (u:List C) (ul:u.length=2) (h:Go.Ev.H):Ye 20 (some lq) (q41 [1,1,0,1,2,5]) [] ((ts.set 12 (.w (.c (.int .i64 (i:Int))))).set 13 (.w (.g u))) h fun x ds' ts' h'=>x=.normal∧ds'=[]∧((∀ s,s≤6→Zh ts' s=Zh ts s)∧Zh ts' 7=.w (.c (.int .i64 (i:Int)))∧Zh ts' 8=.w (.c (.ptr h.next 0)))∧h'.next=h.next+1∧(∀ m,m<h.next→h'.get m=h.get m)∧h'.get h.next=some (.row 2 [u] false):=by
 have wr2:Z4 2 [[.int .u32 0,.str []]] 0 u=some [u]:=by
  match u,ul with
  | [u0,u1],_=>rfl
 have Jf:=Yy @ul @wr2
 iterate 3 (first|apply Zk|refine Zq Hh Za Z5 ?_)
 refine⟨rfl,rfl,⟨fun s hs=>?_,?_,?_⟩,?_,fun m hm=>?_,?_⟩
 ·simp (decide:=true) only [Yz hs]
 ·exact Zc
 ·exact Zc
 ·simp only[H.Zd,H.Zb]
 ·exact Yc
 ·first|exact Zz .. | (simp (maxSteps:=9^6) +decide (disch:=first|omega|(simp only[lens]<;>omega)|decide) only [go_sem,Zn,Zm,simprocAttr]; done)|(exact Zc)
theorem lkB (yl:y.length=16) (M:HE n q a b c e cr md S T V h) {b0 t i hb:Nat} {x:Sl} {A:List (Nat × Sl)} {ts:Zx} (bq:q+9≤b0) (nq:n+23≤q) (bR:q+9≤R∧R<b0) (at_:A[t]? = some (i,x)) (ib:i<bs.length) (xb:x.1<4294967296) (t6:Zh ts 6=.w (.c (.ptr (b0+4) 0))) (t7:Zh ts 7=.w (.c (.int .i64 (i:Int)))) (t8:Zh ts 8=.w (.c (.ptr hb 0))) (gb:h.get hb=some (.row 2 [slC x] false)) (J:LkI n R b0 bs s A t h) (rd:RdS n y R (b0+7) (bs.take (i+1)) h) :
  Ye 20 (some (b0+7)) (q41 [1,1,0,1,2,6]) [] ts h fun x' _ _ h'=>x'=.normal∧h'.get (b0+7)=h.get (b0+7)∧LkI n R b0 bs s A (t+1) h'∧HE n q a b c e cr md S T V h'∧Kpr (b0+7) b0 [b0+2,b0+3] h h':=by
 obtain⟨c1,c2,c3,c4,c6,nx⟩:=J
 obtain⟨z,hz⟩:∃ z,bs[i]? = some z:=⟨_,List.getElem?_eq_getElem ib⟩
 have hz':(bs.take (i+1))[i]? = some z:=by rw[List.getElem?_take_of_lt (by omega)]; exact hz
 obtain⟨hB,cc,nB,kB,r3,r4⟩:=Z6i Hh yl rd hz' xb c1 c2 c3 c4 (by omega) (by omega) (by omega) (by omega) (by omega) ⟨by omega,by omega,by omega,by omega,by omega,by omega,by omega,by omega,by omega⟩
 have sn:=Zqc (bs:=bs) (s:=s) (i:=i) (x:=x) (l:=A.take t)
 rw[←Zew at_] at sn
 have zz:bs.getD i 0=z:=by rw[List.getD_eq_getElem?_getD,hz]; rfl
 have e3:(if (lkF bs s (A.take t)).1=0∧x.1≠0∧x.2=s then x.1 else (lkF bs s (A.take t)).1)=(lkF bs s (A.take (t+1))).1:=by
  rw[sn]
  split<;>rfl
 have e4:(if (lkF bs s (A.take t)).1=0∧x.1≠0∧x.2=s then z else (lkF bs s (A.take t)).2)=(lkF bs s (A.take (t+1))).2:=by
  rw[sn]
  split
  ·exact zz.symm
  ·rfl
 rw[e3] at r3
 rw[e4] at r4
 have sl2:Zn 2 [slC x] 0 2=some (slC x):=rfl
 obtain⟨X,hX⟩:∃ X,slC x=X:=⟨_,rfl⟩
 rw[hX] at cc gb sl2
 apply Yt
 have Jf:=M8 @t6 @t7 @t8 @c6 @gb @sl2 @Ff
 refine Zq Hh (Zp Za cc) Z39 ?_
 refine⟨rfl,kB _ (by omega) (by omega) (by omega),⟨(kB _ (by omega) (by omega) (by omega)).trans c1,(kB _ (by omega) (by omega) (by omega)).trans c2,r3,r4,(kB _ (by omega) (by omega) (by omega)).trans c6,by omega⟩,M.keep nB fun m hm=>kB m (by omega) (by omega) (by omega),nB,fun m hm _ mA _=>kB m hm (fun w=>mA (by rw[w]; simp)) (fun w=>mA (by rw[w]; simp))⟩
theorem Z1d (f:Ym a b c e=true) (m0:md≠0) (M:HE n q a b c e cr md S T V h) (X:InoP y P) (D:DirB a b c e V P bs L) (y3:y[3]? = some (.int .i64 ((256 * bs.length:Nat):Int))) (sok:∀ p∈Jn L,p.2.1<4294967296) (hR:h.get R=some (.row 19 [rdC n y .snil 0] false)) (bR:q+9≤R∧R<h.next) :
  ∃ h',Zg 41 [.c (.ptr R 0),.c (.str s)] h (.tup [.c (.int .i64 ((lkF bs s (Jn L)).1:Int)),.c (.int .i64 ((lkF bs s (Jn L)).2:Int))]) h'∧HE n q a b c e cr md S T V h'∧(∃ c,h'.get R=some (.row 19 [rdC n y c 0] false))∧h.next≤h'.next∧∀ m,m<h.next→m≠R→m≠n+6→h'.get m=h.get m:=by
 obtain⟨nq,nx,n0⟩:=M.nx
 have yl:=X.xl
 have Al:(Jn L).length=8 * bs.length:=by unfold Jn; rw[R3 D.l8,D.ll]
 have cA:=fun h=>Zar Hh R h
 obtain⟨b0,hb0⟩:∃ b0,h.next=b0:=⟨_,rfl⟩
 have U:RnP n q R (b0+5) (b0+7) b0 [b0+2,b0+3]:=⟨nq,⟨by omega,by omega⟩,⟨by omega,by omega,by omega⟩,fun m hm=>by
  simp only[List.mem_cons,List.not_mem_nil,or_false] at hm
  omega,by omega⟩
 refine Ou ?_
 refine Yg Hh Tryz.f41 ?_
 have Jf:=@Ff
 iterate 6 (first|apply Zk|refine Zq Hh Za Zfw ?_)
 iterate 2 (first|apply Yt|refine Zq Hh (Yp Za cA) Zfw ?_)
 refine Uc fun hC eC=>?_
 have nC:hC.next=b0+6:=by rw[eC]; simp only[H.Zd,H.Zb,hb0]
 have kC:∀ m,m<h.next→hC.get m=h.get m:=fun m hm=>by rw[eC]; exact Yc
 have a1:hC.get b0=some (.row 1 [[.ptr R 0]] false):=by rw[eC,←hb0]; exact Zc
 have a2:hC.get (b0+1)=some (.row 1 [[.str s]] false):=by rw[eC,←hb0]; exact Zc
 have a3:hC.get (b0+2)=some (.row 1 [[.int .i64 0]] false):=by rw[eC,←hb0]; exact Zc
 have a4:hC.get (b0+3)=some (.row 1 [[.int .i64 0]] false):=by rw[eC,←hb0]; exact Zc
 have a6:hC.get (b0+4)=some (.row 1 [[.fn 98 [] [some (b0+2,0),some (b0+1,0),some (b0,0),some (b0+3,0)]]] false):=by rw[eC,←hb0]; exact Zc
 have a7:hC.get (b0+5)=some (.row 1 [[.ptr R 0]] false):=by rw[eC,←hb0]; exact Zc
 clear eC
 have ne:(q41 [1,1,0,1,2,6])≠(q41 [1,1,0,1,2,5]):=fun e1=>by
  rw[Zrd,Zt3] at e1
  cases e1
 show Ye 20 none (q41 [1,1,0,1,2]) _ _ _ _
 rw[Zxt]
 refine Zxq fun ts hts=>?_
 have t6:Zh ts 6=.w (.c (.ptr (b0+4) 0)):=by rw[hts,←hb0]; exact Zc
 have eg:Z6 K ts (.tmp 11)=some (.fn 85 [] [some (b0+5,0)]):=by
  rw[hts,←hb0]
  exact Zc
 refine (Zmc Hh (I:=LkI n R b0 bs s (Jn L)) (JT:=fun ts' i hb=>Zh ts' 6=.w (.c (.ptr (b0+4) 0))∧Zh ts' 7=.w (.c (.int .i64 (i:Int)))∧Zh ts' 8=.w (.c (.ptr hb 0))) ne (by omega) (by omega) f m0 nC U X D y3 ?_ (by omega) ⟨by omega,by omega,fun m hm=>by simp only[List.mem_cons,List.not_mem_nil,or_false] at hm; omega⟩ ?_ ?_ ((kC R bR.2).trans hR) a7 eg (M.keep (by omega) fun m hm=>kC m (by omega)) ?_).mono ?_
 ·exact fun t h1 h2 J k=>by
   have kk:∀ m,m<b0+6→m≠R→m≠n+6→h2.get m=h1.get m:=fun m hm h1' h2'=>k.2 m (by have:=J.nx; omega) (.inl ⟨by omega,h1',h2'⟩)
   exact⟨(kk _ (by omega) (by omega) (by omega)).trans J.c1,(kk _ (by omega) (by omega) (by omega)).trans J.c2,(kk _ (by omega) (by omega) (by omega)).trans J.c3,(kk _ (by omega) (by omega) (by omega)).trans J.c4,(kk _ (by omega) (by omega) (by omega)).trans J.c6,Nat.le_trans J.nx k.1⟩
 ·exact fun i x h1=>(lkA Hh (b0+6+1) ts i (slC x) rfl h1).mono fun x' ds' ts' h' ⟨e1,e2,⟨t1,t7,t8⟩,n1,k1,r1⟩=>⟨e1,e2,⟨(t1 6 (by decide)).trans t6,t7,t8⟩,n1,k1,r1⟩
 ·exact fun t i x ts' h1 hb at_ ib ⟨u6,u7,u8⟩ gb p1 p2 J M1 rd1 _=>lkB Hh yl M1 (by omega) nq ⟨bR.1,by omega⟩ at_ ib (sok _ (List.mem_of_getElem? at_)) u6 u7 u8 gb J rd1
 ·exact fun h2 n2 k2=>⟨(k2 _ (by omega)).trans a1,(k2 _ (by omega)).trans a2,(k2 _ (by omega)).trans a3,(k2 _ (by omega)).trans a4,(k2 _ (by omega)).trans a6,by omega⟩
 rintro x1 ds1 ts1 h1 ⟨rfl,rfl,rfl,gd,J,M1,rd1,n1,k1⟩
 subst hts
 rw[←Al] at J
 obtain⟨c1,c2,c3,c4,c6,nx'⟩:=J
 rw[List.take_of_length_le (Nat.le_refl _)] at c3 c4
 obtain⟨cs,R1,R2⟩:=rd1
 obtain⟨w1,hw1⟩:∃ w,(lkF bs s (Jn L)).1=w:=⟨_,rfl⟩
 obtain⟨w2,hw2⟩:∃ w,(lkF bs s (Jn L)).2=w:=⟨_,rfl⟩
 rw[hw1] at c3 ⊢
 rw[hw2] at c4 ⊢
 have z1:h.next+1+1=b0+2:=by omega
 have z2:h.next+1+1+1=b0+3:=by omega
 have Jf:=Sy @Ff @gd @c3 @c4 @z1 @z2
 iterate 3 (first|apply Zk|apply Z0|refine Ed Hh Za Zza ?_)
 refine⟨_,_,Zj,rfl,M1.keep ?_ fun m hm=>?_,⟨cs,?_⟩,?_,fun m hm mR m6=>?_⟩
 ·simp only[H.Zd,H.Yv]<;>omega
 ·exact Yc
 ·refine Eq.trans ?_ R1; exact Yc
 ·simp only[H.Zd,H.Yv]<;>omega
 ·refine Eq.trans ?_ ((k1 m (by omega) mR m6 (fun w=>by simp only[List.mem_cons,List.not_mem_nil,or_false] at w; omega) (.inl (by omega))).trans (kC m hm)); exact Yc
structure DirO (a b c e:Nat) (V:Nat→List Nat) (z:Int) (y:List C) (P:Nat→Nat) (bs:List Nat) (L:List (List Sl)):Prop where
 gz:gI a b c e V z=(y,0)
 ky:y[0]? = some (.int .u8 2)
 ip:InoP y P
 sz:y[3]? = some (.int .i64 ((256 * bs.length:Nat):Int))
 db:DirB a b c e V P bs L
omit Hh in
theorem DirB.sok (D:DirB a b c e V P bs L):∀ p∈Jn L,Zz5 p.2:=by
 have key:∀ (L:List (List Sl)) (j:Nat),(∀ l∈L,∀ x∈l,Zz5 x)→∀ p∈L9 j L,Zz5 p.2:=fun L=>by
  induction L with
  | nil=>intro j _ p hp; simp [L9] at hp
  | cons l r ih =>
   intro j hl p hp
   unfold L9 at hp
   rcases List.mem_append.1 hp with w|w
   ·obtain⟨x,hx,rfl⟩:=List.mem_map.1 w
    exact hl l (List.mem_cons_self ..) x hx
   ·exact ih (j+1) (fun l' h'=>hl l' (List.mem_cons_of_mem _ h')) p w
 refine key L 0 fun l hl=>?_
 obtain⟨i,hi⟩:=List.mem_iff_getElem?.1 hl
 have il:i<bs.length:=by
  rcases Nat.lt_or_ge i L.length with q|q
  ·rw[D.ll] at q; exact q
  ·rw[List.getElem?_eq_none q] at hi; cases hi
 obtain⟨_,_,_,_,l',h1,h2⟩:=D.at_ i _ (List.getElem?_eq_getElem il)
 rw[h1] at hi
 cases hi
 exact h2.ok
omit Hh in
theorem DirB.sb (D:DirB a b c e V P bs L):∀ p∈Jn L,p.2.1<4294967296:=fun p hp=>by
 rcases D.sok p hp with w|w
 ·rw[w]; show 0<_; omega
 ·exact w.2.1
theorem Zgq (f:Ym a b c e=true) (m0:md≠0) (M:HE n q a b c e cr md S T V h) {z:Int} (O:DirO a b c e V z y P bs L) (s:List UInt8) :
  ∃ h',Zg 14 [.c (.ptr (n+13) 0),.c (.int .i64 z),.c (.str s)] h (.tup [.c (.int .i64 (if Vv s=true then ((lkF bs s (Jn L)).1:Int) else 0)),.c (.int .i64 (if Vv s=true then (if (lkF bs s (Jn L)).1=0 then 301 else 0) else 290))]) h'∧HE n q a b c e cr md S T V h'∧Kr n q h h':=by
 obtain⟨nq,nx,n0⟩:=M.nx
 obtain⟨st,⟨kn,hs⟩,⟨dk,gl⟩,ht⟩:=M.cells
 unfold gdL gdD at gl
 have dm:(md != 0)=true:=Mr m0
 have cM:=fun h=>Zn6 Hh s h
 obtain⟨gz,ky,ip,sz,db⟩:=O
 have yl:=ip.xl
 refine Ou ?_
 cases my:Vv s with
 | false =>
  rw[my] at cM
  rw[if_neg (by decide),if_neg (by decide)]
  refine Yg Hh Tryz.f14 ?_
  have Jf:=Uq @f @hs @gl @dm
  iterate 9 (first|apply Zk|apply Zw|refine Goes.Zi Zgi ?_|refine Zq Hh (EY Za (Rk Hh)) Zgi ?_)
  iterate 5 (first|apply Zk|apply Z0|refine Goes.Zi Zgi ?_|refine Zq Hh (Yp Za cM) Zgi ?_)
  exact⟨_,_,Zc,rfl,M,⟨Nat.le_refl _,fun _ _ _=>rfl⟩⟩
 | true =>
  rw[my] at cM
  simp only[if_true]
  obtain⟨hB,c5,BR,nB,MB,kB⟩:=Xe Hh f m0 M gz ky yl
  obtain⟨hD,c6,MD,⟨cs,DR⟩,nD,kD⟩:=Z1d Hh (s:=s) f m0 MB ip db sz db.sb BR ⟨by omega,nB⟩
  obtain⟨g0,g1,g2,g3,g4,g5⟩:=Ej (n:=n) (s:=cs) (e:=0) yl
  obtain⟨r0,hr0⟩:∃ r,rdC n y cs 0=r:=⟨_,rfl⟩
  rw[hr0] at DR g3
  obtain⟨w1,hw1⟩:∃ w,(lkF bs s (Jn L)).1=w:=⟨_,rfl⟩
  obtain⟨w2,hw2⟩:∃ w,(lkF bs s (Jn L)).2=w:=⟨_,rfl⟩
  rw[hw1,hw2] at c6
  rw[hw1]
  have kr:Kr n q h hD:=⟨by omega,fun m hm m6=>(kD m (by omega) (by omega) m6).trans (kB.2 m hm m6)⟩
  by_cases w0:w1=0
  ·have ew:((w1:Int) == 0)=true:=by subst w0; rfl
   rw[if_pos w0,w0]
   rw[w0] at ew c6
   refine Yg Hh Tryz.f14 ?_
   have Jf:=M8 @f @hs @gl @dm @DR @g3 @ew
   iterate 9 (first|apply Zk|apply Zw|refine Goes.Zi Ue ?_|refine Zq Hh (EY Za (Rk Hh)) Ue ?_)
   iterate 4 (first|apply Zk|apply Zw|refine Goes.Zi Ue ?_|refine Zq Hh (Yp Za cM) Ue ?_)
   iterate 2 (first|apply Zk|refine Zq Hh (Zp Za c5) Ue ?_)
   iterate 13 (first|apply Zk|apply Zw|apply Z0|refine Goes.Zi Ue ?_|refine Zq Hh (Zp Za c6) Ue ?_)
   exact⟨_,_,Zc,rfl,MD,kr⟩
  ·have ew:((w1:Int) == 0)=false:=Ee (by omega)
   rw[if_neg w0]
   refine Yg Hh Tryz.f14 ?_
   have Jf:=M8 @f @hs @gl @dm @DR @g3 @ew
   iterate 9 (first|apply Zk|apply Zw|refine Goes.Zi Ue ?_|refine Zq Hh (EY Za (Rk Hh)) Ue ?_)
   iterate 4 (first|apply Zk|apply Zw|refine Goes.Zi Ue ?_|refine Zq Hh (Yp Za cM) Ue ?_)
   iterate 2 (first|apply Zk|refine Zq Hh (Zp Za c5) Ue ?_)
   iterate 14 (first|apply Zk|apply Zw|apply Z0|refine Goes.Zi Ue ?_|refine Zq Hh (Zp Za c6) Ue ?_)
   exact⟨_,_,Zc,rfl,MD,kr⟩
end
end Go.Proofs.YtecakmodlkbnaaaGreatDoor
