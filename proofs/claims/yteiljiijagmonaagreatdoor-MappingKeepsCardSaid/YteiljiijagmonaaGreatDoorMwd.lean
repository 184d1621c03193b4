/- blocks.Free: the sum of what the descriptors say. -/
import Derived.Test.YteiljiijagmonaaGreatDoorMrl
import Derived.Test.YteiljiijagmonaaGreatDoorMal
import Derived.Test.YteiljiijagmonaaGreatDoorIin
set_option maxRecDepth 100000
set_option maxHeartbeats 4000000
set_option linter.unusedSimpArgs false
set_option linter.unusedVariables false
set_option linter.unusedSectionVars false
namespace Go.Proofs.YteiljiijagmonaaGreatDoor
open Go.Ev
noncomputable def q5 (p:Lq):Code:=piece p (Ug Tryz.f5)
theorem rs5:Tryz.f5.results.toList=[.tmp 2,.tmp 3]:=rfl
attribute [go_sem] rs5
def Zdl (D:List Oq):Nat:=(D.map (·.1)).sum
theorem Zk9 {D:List Oq} {t:Nat} {x:Oq} (h:D[t]? = some x):Zdl (D.take (t+1))=Zdl (D.take t)+x.1:=by
 unfold Zdl
 rw[List.take_add_one,h,Option.toList_some,List.map_append,List.sum_append]
 rfl
theorem Zna {D:List Oq} {b:Nat} (h:∀ x∈D,x.1<=b):∀ t,Zdl (D.take t)<=t * b
 | 0=>Nat.zero_le _
 | t+1=>by
  rcases Nat.lt_or_ge t D.length with w|w
  ·rw[Zk9 (List.getElem?_eq_getElem w),Nat.succ_mul]
   exact Nat.add_le_add (Zna h t) (h _ (List.getElem_mem w))
  ·have:=Zna h t
   rw[List.take_of_length_le w] at this
   rw[List.take_of_length_le oM,Nat.succ_mul]
   omega
section
variable (Hh:Hearts K Tryz.prog)
include Hh
theorem Zy8 {D:List Oq} (D4:D.length<=4) (hb:∀ x∈D,x.1<=2048) {p b0:Nat}:∀ (r k:Nat) (ts:Zw) (h:Hq),k+r=D.length->b0<=h.next->h.get p=some (.row 3 (D.map U1) false)->p<b0->Ze ts 23=.w (.c (.slice p 0 D.length 3))->Ze ts 24=.w (.c (.int .i64 (D.length:Nat)))->Ze ts 25=.w (.c (.int .i64 (k:Nat)))->Ze ts 7=.w (.c (.int .i64 (Zdl (D.take k):Nat))) ->
  Z7 35 none (q5 [1,1,1,1,1,0,1,2]) [] ts h fun x ds' ts' h'=>x=.exit 0/\ds'=[]/\Ze ts' 7=.w (.c (.int .i64 (Zdl D:Nat)))/\h.next<=h'.next/\∀ m,m<b0->h'.get m=h.get m:=by
 intro r
 induction r with
 | zero =>
  intro k ts h hk nb hp pl t23 t24 t25 t7
  obtain rfl:k=D.length:=oM
  rw[List.take_length] at t7
  have dl:decide ((D.length:Int)<(D.length:Int))=false:=decide_eq_false oM
  have Jf:=Ju @t24 @t25 @dl
  iterate 6 (first|apply Zu|apply Gr|apply J8|refine Goes.Zl Zn ?_|refine Zr Hh Za Zn ?_)
  refine⟨rfl,rfl,?_,Nat.le_refl _,fun m _=>rfl⟩
  simp (maxSteps:=9^6) +decide (disch:=first|exact dZ|fail) only [go_sem,Zk,Zh,simprocAttr,t7]
 | succ r ih =>
  intro k ts h hk nb hp pl t23 t24 t25 t7
  have kl:k<D.length:=oM
  obtain⟨x,hx⟩:∃ x,D[k]? = some x:=⟨_,List.getElem?_eq_getElem kl⟩
  have x1:=hb x (List.mem_of_getElem? hx)
  have sm:=Zk9 hx
  have sl:=Zna hb k
  have sl4:Zdl (D.take k)<=8192:=by
   have:k * 2048<=4 * 2048:=Nat.mul_le_mul_right _ oM
   omega
  have dl:decide ((k:Int)<(D.length:Int))=true:=decide_eq_true oM
  have rx:(D.map U1)[k]? = some (U1 x):=by rw[List.getElem?_map,hx]; rfl
  have r3:Zk 3 (D.map U1) (k * 3) 3=some (U1 x):=by
   have e1:k * 3 / 3=k:=oM
   have e2:k * 3 % 3=0:=oM
   simp only[Zk,e1,e2,rx]
   rfl
  have e7:((Zdl (D.take k):Nat):Int)+((x.1:Nat):Int)=((Zdl (D.take (k+1)):Nat):Int):=by rw[sm]; rfl
  have r0:read1 3 [U1 x] 0=some (.int .i64 (x.1:Nat)):=rfl
  have l3:(U1 x).length=3:=rfl
  obtain⟨Dl,hDl⟩:=xzE (D.length)
  rw[hDl] at dl t23 t24 ih
  obtain⟨Y,hY⟩:=xzE (U1 x)
  rw[hY] at r3 r0 l3
  obtain⟨R,hR⟩:=xzE (D.map U1)
  rw[hR] at hp r3 ih
  obtain⟨z,hz⟩:=xzE (Zdl (D.take k))
  obtain⟨z',hz'⟩:∃ z,Zdl (D.take (k+1))=z:=⟨_,rfl⟩
  rw[hz] at t7 sl4
  rw[hz,hz'] at e7
  have Jf:=Um @t23 @t24 @t25 (Yw @t7 @dl @hp @r3 @r0 @l3 @e7 @Nat.zero_add @Nat.add_zero)
  iterate 12 (first|apply Zu|apply Ye|apply Jc|apply J8|refine Goes.Zl Z0 ?_|refine Zr Hh Za Z0 ?_)
  show Z7 35 none (q5 [1,1,1,1,1,0,1,2]) _ _ _ _
  refine (ih (k+1) _ _ oM ?_ ?_ pl ?_ ?_ ?_ ?_).mono ?_
  ·simp only[H.Zb,H.Zc]; omega
  ·exact Eq.trans (by exact Jg) hp
  ·have Jf:=@t23; exact Zn
  ·have Jf:=@t24; exact Zn
  ·exact Zf
  ·rw[hz']; exact Zf
  ·rintro x1 d1 s1 h1 ⟨q1,q2,q3,q4,q5⟩
   refine⟨q1,q2,q3,?_,fun m hm=>(q5 m hm).trans (by exact Jg)⟩
   simp only[H.Zb,H.Zc] at q4; omega
variable {n q a b c e:Nat} {cr:Cr} {md:Int} {S T:Lq} {V:Nat->Lq} {h:Hq}
theorem Zy9 (f:Y1 a b c e=true) (M:HE n q a b c e cr md S T V h) {D:List Oq} (dd:Des V a b c D) (hb:∀ x∈D,x.1<=2048) :
  ∃ h',Zi 5 [.c (.ptr (n+13) 0)] h (.tup [.c (.int .i64 (Zdl D:Nat)),.c (.int .i64 0)]) h'/\HE n q a b c e cr md S T V h'/\Kr n q h h':=by
 obtain⟨g1,g2,g3,g4,g5,g6,g7,g8,g9,g10,g11⟩:=Ya f
 obtain⟨nq,nx,n0⟩:=M.nx
 obtain⟨st,⟨kn,hs⟩,⟨dk,gl⟩,ht⟩:=M.cells
 unfold gdL gdD at gl
 obtain⟨h1,p,c1,M1,k1,p1,p2,p3⟩:=Zlr Hh f M dd
 have Dl:=dd.2.2
 have lf:Yx K 57 (.c (.slice p 0 a 3))=true:=kR
 refine Fz ?_
 refine Y0 Hh Tryz.f5 ?_
 have Jf:=Um @f @hs @gl @lf
 iterate 10 (first|apply Zu|apply Ye|refine Goes.Zl Ur ?_|refine Zr Hh (EY Za (Zld Hh)) Ur ?_)
 iterate 12 (first|apply Zu|apply Ye|apply Jc|refine Goes.Zl Ur ?_|refine Zr Hh (Zp Za c1) Ur ?_)
 refine (Zy8 Hh (D:=D) oM hb (p:=p) (b0:=h1.next) D.length 0 _ h1 oM (Nat.le_refl _) p3 p2 ?_ ?_ ?_ ?_).mono ?_
 ·rw[Dl]; exact Zf
 ·rw[Dl]; exact Zf
 ·exact Zf
 ·exact Zf
 rintro x ds' ts' h2 ⟨rfl,rfl,t7,nn,kk⟩
 have Jf:=Jl Jf @t7
 iterate 3 (first|apply Zu|apply Yc|refine Zr Hh Za Ur ?_)
 refine⟨_,_,Zn,rfl,M1.keep nn (fun m hm=>kk m (by have:=M1.nx; omega)),⟨by have:=k1.1; omega,fun m hm hne=>(kk m (by have:=k1.1; omega)).trans (k1.2 m hm hne)⟩⟩
end
noncomputable def q4 (p:Lq):Code:=piece p (Ug Tryz.f4)
theorem rs4:Tryz.f4.results.toList=[.cell 2 28,.tmp 3]:=rfl
attribute [go_sem] rs4
theorem lfB (p:Nat):Yx K 115 (.c (.slice p 0 282 256))=true:=kR
theorem lfT:Yx K 53 (.c .snil)=true:=kR
theorem HE.Z82 {n q a b c e w:Nat} {cr:Cr} {md:Int} {S T:Lq} {V:Nat->Lq} {h h2:Hq} {y:List (List C)} {ro:Bool} (M:HE n q a b c e cr md S T V h) (hw:h.get w=some (.row 4 y ro)) (w0:0<w) (wn:w<n) (nx:h.next<=h2.next) (k:∀ m,m<q+9->m≠w->h2.get m=h.get m):HE n q a b c e cr md S T V h2:=by
 obtain⟨d,d1,d2,kn,ld,lt,lc,lm,L,f1,f2,f3,f4,f5,f6,f7,f8,f9,f10,f11,M⟩:=M
 refine⟨d,d1,d2,kn,ld,lt,lc,lm,L,f1,f2,f3,f4,f5,f6,f7,f8,f9,f10,f11,?_⟩
 obtain⟨f1,f2,f3,f4,l1,l2,f5,f6,f7,f8,f9,f10,f11,f12,f13,f14,f15,f16,f17,f18,f19,f20,f21,f22⟩:=M
 have wd:d≠w:=fun e=>by
  rw[e,hw] at f8
  have:=(O.row.inj (Option.some.inj f8)).1
  omega
 have wq:d2≠w:=fun e=>by
  rw[e,hw] at f9
  have:=(O.row.inj (Option.some.inj f9)).1
  omega
 have db:=Zl8 q cr
 exact⟨(k _ oM oM).trans f1,f2,f3,oM,l1,l2,(k _ oM oM).trans f5,(k _ oM oM).trans f6,(k _ oM oM).trans f7,(k _ oM oM).trans f8,(k _ oM oM).trans f9,(k _ oM oM).trans f10,(by rw[k _ oM oM]; exact f11),(by rw[k _ oM oM]; exact f12),(k _ oM oM).trans f13,(k _ oM oM).trans f14,(by rw[k _ oM oM]; exact f15),(k _ oM oM).trans f16,f17,(k _ oM oM).trans f18,(k _ oM oM).trans f19,(fun o=>(k _ oM oM).trans (f20 o)),(k _ oM oM).trans f21,(k _ oM oM).trans f22⟩
section
variable (Hh:Hearts K Tryz.prog)
include Hh
theorem Z8d {mo:Nat} (mo1:mo<256) {h:Hq} (hst:h.get 0=some Bj) (l0:0<h.next) :
  ∃ h' n r d y,Zi 4 [.c (.int .u8 (mo:Int))] h (.tup [.g [.ptr (n+13) 0,.ptr r 0,.ptr d 0,.ptr y 0],.c (.bool true)]) h'/\HE n (n+14) 4 60 8 40 (Cr.cl []) (1+((mo % 3:Nat):Int)) [] [] V4 h'/\h.next<=n/\∀ m,m<h.next->h'.get m=h.get m:=by
 have rm3:T9 .u8 (mo:Int) 3=some (.int .u8 ((mo % 3:Nat):Int)):=Sa (b:=3) oM
 have k3:=Nat.mod_lt mo (show 0<3 by omega)
 obtain⟨k,hk⟩:=xzE (mo % 3)
 rw[hk] at rm3 k3 ⊢
 obtain⟨md,hmd⟩:=xzE (1+(k:Int))
 have m1:1<=md/\md<=3:=oM
 have wmd:Jb .u8 (1+(k:Int))=.int .u8 md:=by rw[Zf7 oM,hmd]
 rw[hmd]
 obtain⟨v,h',cc,n,r,d,y,rfl,M',hn,kk⟩:∃ v h',Zi 4 [.c (.int .u8 (mo:Int))] h v h'/\∃ n r d y,v=.tup [.g [.ptr (n+13) 0,.ptr r 0,.ptr d 0,.ptr y 0],.c (.bool true)]/\HE n (n+14) 4 60 8 40 (Cr.cl []) md [] [] V4 h'/\h.next<=n/\∀ m,m<h.next->h'.get m=h.get m:=by
  refine Y0 Hh Tryz.f4 ?_
  have Jf:=Jl @rm3 @wmd
  iterate 3 (first|apply Zu|refine Zr Hh Za Zfo ?_)
  refine Ow fun hA eA=>?_
  have nA:hA.next=h.next+1:=nxQ eA
  have kA:∀ m,m<h.next->hA.get m=h.get m:=kQ eA
  obtain⟨y2,y2l,a2⟩:∃ y:List C,y.length=4/\hA.get h.next=some (.row 4 [y] false):=⟨_,rfl,by rw[eA]; exact Y6⟩
  clear eA
  obtain⟨hW,n,d,d1,d2',r,y,c1,MW,nW,kW⟩:=Z5b Hh m1.1 m1.2 (h:=hA) ((kA 0 l0).trans hst) oM lfB lfT
  have wx:=MW.nx
  have W2:=(kW h.next oM).trans a2
  have Jf:=Ju Jf @W2 @y2l
  iterate 2 (first|apply Yc|refine Zr Hh (Zp Za c1) Zfo ?_)
  refine⟨_,_,Z0,n,r,d,y,rfl,(MW.closed (fun z z1 _=>Z53 z z1)).Z82 W2 oM oM ?_ (fun m hm hne=>?_),oM,fun m hm=>?_⟩
  ·simp only[H.Zb,H.Zc,H.Yp]<;>omega
  ·exact Jg
  ·refine Eq.trans ?_ ((kW m oM).trans (kA m hm)); exact Jg
 exact⟨h',n,r,d,y,cc,M',hn,kk⟩
end
def Z74 (N:Nat):Lq:=(List.range (inc N)).map Yo
theorem Z0q (N:Nat):(Z74 N).length=inc N:=by unfold Z74; rw[List.length_map,List.length_range]
theorem inc_le {N:Nat} (h:N<=100):N<=inc N/\inc N<=103:=by
 unfold inc
 split
 ·omega
 ·split<;>omega
theorem Gv {k:Nat} (h:k<128):Uu 4 60 8 40 (Yo k:Nat)=true/\Yo k<2+40+4 * 60/\0<Yo k:=(Z94 (i:=0) oM).old k h
section
variable {V:Nat->Lq} {P:Nat->Nat} {N:Nat}
theorem Z0n (R:RowF Yo V P N) (h:N<=100):allT V P 11=Z74 N:=R.all (fun k hk=>by have:=(Gv hk).2.2; omega) h
theorem Z4v (R:RowF Yo V P N) (p:Nat) (hp:p<11):Wn 4 60 8 40 V (Rq p) (P p):=by
 obtain⟨pd,p8,p9,p10,v8,v9,v10⟩:=R
 rcases Nat.lt_or_ge p 8 with w|w
 ·rw[show Rq p=0 by unfold Rq; omega]; exact True.intro
 have w3:p=8\/p=9\/p=10:=oM
 rcases w3 with rfl|rfl|rfl
 ·intro z
  rw[p8] at z ⊢
  by_cases q:8<N
  ·rw[if_pos q] at z ⊢
   exact⟨(Gv oM).1,(Gv oM).2.1,fun _ _=>True.intro⟩
  ·rw[if_neg q] at z; exact absurd rfl z
 ·intro z
  rw[p9] at z ⊢
  by_cases q:72<N
  ·rw[if_pos q] at z ⊢
   refine⟨(Gv oM).1,(Gv oM).2.1,fun w hw z2=>?_⟩
   rw[v9 q w hw] at z2 ⊢
   by_cases e:w=0
   ·rw[if_pos e] at z2 ⊢
    exact⟨(Gv oM).1,(Gv oM).2.1,fun _ _=>True.intro⟩
   ·rw[if_neg e] at z2; exact absurd rfl z2
  ·rw[if_neg q] at z; exact absurd rfl z
 ·intro z
  rw[p10] at z
  exact absurd rfl z
theorem Z0r (R:RowF Yo V P N) {j:Nat} (hj:j<110):Zx1 4 60 8 40 V (P (Uw j).1) (Uw j).2:=by
 obtain⟨pd,p8,p9,p10,v8,v9,v10⟩:=R
 rcases Nat.lt_or_ge j 8 with w|w
 ·rw[Zay w]; intro t ht; exact absurd ht (by simp)
 rcases Nat.lt_or_ge j 72 with w2|w2
 ·rw[Zaz w w2]
  intro t ht z
  obtain rfl:t=0:=by simpa using ht
  have z':P 8≠0:=z
  show Uu _ _ _ _ ((P 8:Nat):Int)=true/\P 8<_
  rw[p8] at z' ⊢
  by_cases q:8<N
  ·rw[if_pos q]
   exact⟨(Gv oM).1,(Gv oM).2.1⟩
  ·rw[if_neg q] at z'; exact absurd rfl z'
 ·rw[Zdn w2 oM]
  intro t ht z
  have t2:t=0\/t=1:=by
   have:t<2:=ht
   omega
  rcases t2 with rfl|rfl
  ·have z':P 9≠0:=z
   show Uu _ _ _ _ ((P 9:Nat):Int)=true/\P 9<_
   rw[p9] at z' ⊢
   by_cases q:72<N
   ·rw[if_pos q]
    exact⟨(Gv oM).1,(Gv oM).2.1⟩
   ·rw[if_neg q] at z'; exact absurd rfl z'
  ·have z':(if P 9=0 then 0 else Yq (V (P 9)) (4 * 0))≠0:=z
   show Uu _ _ _ _ (((if P 9=0 then 0 else Yq (V (P 9)) (4 * 0)):Nat):Int)=true/\(if P 9=0 then 0 else Yq (V (P 9)) (4 * 0))<_
   rw[p9] at z' ⊢
   by_cases q:72<N
   ·rw[if_pos q] at z' ⊢
    rw[if_neg (by have:=(Gv (k:=73) oM).2.2; omega),v9 q 0 oM,if_pos rfl]
    exact⟨(Gv oM).1,(Gv oM).2.1⟩
   ·rw[if_neg q,if_pos rfl] at z'; exact absurd rfl z'
end
theorem Zu0 {m:Nat} (h:m<=112):Zdl (DG 4 60 8 (iw0 8) m)=224 - m:=by
 have ff:fF 60 8=56:=rfl
 unfold DG Zdl
 rw[ff,show List.range 4=[0,1,2,3] from rfl]
 simp only[List.map_cons,List.map_nil,List.sum_cons,List.sum_nil]
 omega
theorem Z0o (m:Nat):∀ x∈DG 4 60 8 (iw0 8) m,x.1<=2048:=fun x hx=>by
 have ff:fF 60 8=56:=rfl
 unfold DG at hx
 obtain⟨k,_,rfl⟩:=List.mem_map.1 hx
 show fF 60 8 - _<=2048
 rw[ff]
 omega
end Go.Proofs.YteiljiijagmonaaGreatDoor
