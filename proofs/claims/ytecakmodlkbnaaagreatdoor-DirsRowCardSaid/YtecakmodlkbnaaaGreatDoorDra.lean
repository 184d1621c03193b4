/- DirsRow: a name goes; the law from its parts. -/
import Derived.Test.YtecakmodlkbnaaaGreatDoorDar
import Derived.Test.YtecakmodlkbnaaaGreatDoorFr28
import Derived.Test.YtecakmodlkbnaaaGreatDoorX28
import Derived.Test.YtecakmodlkbnaaaGreatDoorAw28
set_option linter.unusedSimpArgs false
set_option linter.unusedVariables false
set_option linter.unusedSectionVars false
set_option maxRecDepth 100000
set_option maxHeartbeats 4000000
namespace Go.Proofs.YtecakmodlkbnaaaGreatDoor
open Go.Ev
section
variable (Hh:Hearts K Tryz.prog)
include Hh
variable {n q a b c e:Nat} {cr:Cr} {md:Int} {cap:Nat} {iw:Nat→Nat × Nat} {E:List Sl} {h:Go.Ev.H}
omit Hh in
theorem Z42 {V:Nat→List Nat} {P:Nat→Nat} {bs:List Nat} {L:List (List Sl)} {r:Nat} (D:DirS a b c e V 0 1 P bs L) (fl:Nk L=Xd E r) (r8:r<8) (Ez:∀ x∈E,x.1≠0):Zav (Jn L)=E∧bs.length=(E.length+7) / 8:=by
 refine⟨by rw[Zk0,fl,Z2n Ez],?_⟩
 have Al:(Jn L).length=8 * bs.length:=by unfold Jn; rw[R3 D.db.l8,D.db.ll]
 have Fl:(Nk L).length=E.length+r:=by rw[fl]; unfold Xd; simp
 unfold Nk at Fl
 rw[List.length_map] at Fl
 omega
theorem Z9n (f:Ym a b c e=true) (m0:md≠0) (W:RowD n q a b c e cr md cap iw E h) (Ez:∀ x∈E,x.1≠0) {g:Nat} {x:Sl} (hg:E[g]? = some x) (ds:∀ k y,k<g→E[k]? = some y→y.2≠x.2) :
  ∃ h',Zg 12 [.c (.ptr (n+13) 0),.c (.int .i64 1),.c (.str x.2)] h (.w (.c (.int .i64 0))) h'∧Kp n q h h'∧∃ V P bs L,HE n q a b c e cr md (SG b c e cap) [] V h'∧DirS a b c e V 0 1 P bs L∧Zav (Jn L)=E.eraseIdx g:=by
 obtain⟨V,P,bs,L,m,r,M,al,D,fl,r8,hbs,mc⟩:=W.ex
 have gl:g<E.length:=by
  rcases Nat.lt_or_ge g E.length with q|q
  ·exact q
  ·rw[List.getElem?_eq_none q] at hg; cases hg
 have x0:=Ez x (List.mem_of_getElem? hg)
 have Al:(Jn L).length=8 * bs.length:=by unfold Jn; rw[R3 D.db.l8,D.db.ll]
 have Fl:(Nk L).length=E.length+r:=by rw[fl]; unfold Xd; simp
 have sl:∀ (t:Nat) (p:Nat × Sl),(Jn L)[t]? = some p→(Xd E r)[t]? = some p.2:=fun t p h=>by rw[←fl]; unfold Nk; rw[List.getElem?_map,h]; rfl
 have gA:g<(Jn L).length:=by
  unfold Nk at Fl
  rw[List.length_map] at Fl
  omega
 obtain⟨pg,hpg⟩:∃ p,(Jn L)[g]? = some p:=⟨_,List.getElem?_eq_getElem gA⟩
 have pg2:pg.2=x:=by
  have:=sl g pg hpg
  unfold Xd at this
  rw[List.getElem?_append_left gl,hg] at this
  exact (Option.some.inj this).symm
 have my:Vv x.2=true:=by
  have:=D.db.sok pg (List.mem_of_getElem? hpg)
  rw[pg2] at this
  rcases this with w|w
  ·rw[w] at x0; exact absurd rfl x0
  ·exact w.2.2
 have w0:(lkF bs x.2 (Jn L)).1≠0:=fun w=>by
  have lz:∀ (A:List (Nat × Sl)),(lkF bs x.2 A).1=0→∀ p∈A,p.2.1≠0→p.2.2≠x.2:=fun A=>by
   induction A with
   | nil=>intro _ p hp; simp at hp
   | cons y r ih =>
    intro h p hp p0 pe
    obtain⟨i,y⟩:=y
    have e:lkF bs x.2 ((i,y) :: r)=if y.1≠0∧y.2=x.2 then (y.1,bs.getD i 0) else lkF bs x.2 r:=rfl
    rw[e] at h
    by_cases w:y.1≠0∧y.2=x.2
    ·rw[if_pos w] at h; exact w.1 h
    ·rw[if_neg w] at h
     rcases List.mem_cons.1 hp with rfl|hp
     ·exact w ⟨p0,pe⟩
     ·exact ih h p hp p0 pe
  exact lz _ w pg (List.mem_of_getElem? hpg) (by rw[pg2]; exact x0) (by rw[pg2])
 have zS:(lkF bs x.2 (Jn L)).2∈SG b c e cap:=by
  obtain⟨i,k,l,y,f1,_⟩:=D.db.Z7c w0
  obtain⟨z,hz⟩:∃ z,(lkF bs x.2 (Jn L)).2=z:=⟨_,rfl⟩
  rw[hz] at f1 ⊢
  rw[hbs,List.getElem?_map] at f1
  obtain⟨k',hk,e⟩:=Option.map_eq_some_iff.1 f1
  rw[←e]
  exact (Zhz (by have:=List.mem_range.1 (List.mem_of_getElem? hk); omega)).1
 obtain⟨h',i,k,l,y,z,cc,kp,_,f1,f2,f3,y0,y2,f7,M',D'⟩:=Z6a Hh f m0 M D my w0 zS
 have z1:((0+1:Nat):Int)=1:=rfl
 rw[z1] at cc
 refine⟨h',cc,kp,_,P,bs,_,M',D',?_⟩
 have l8:=D.db.l8 l (List.mem_of_getElem? f2)
 have k8:k<8:=by
  rcases Nat.lt_or_ge k l.length with q|q
  ·omega
  ·rw[List.getElem?_eq_none q] at f3; cases f3
 have at_:=sl _ _ (Xq (j:=0) D.db.l8 f2 f3)
 have te:8 * i+k=g:=by
  rcases Zad at_ with ⟨w1,w2⟩|⟨_,_,w⟩
  ·rcases Nat.lt_trichotomy (8 * i+k) g with q|q|q
   ·exact absurd y2 (ds _ _ q w2)
   ·exact q
   ·exact absurd (show pg.2.2=x.2 by rw[pg2]) (f7 g pg q hpg (by rw[pg2]; exact x0))
  ·exact absurd (congrArg Prod.fst w) y0
 rw[Zk0,Zqm _ D.db.l8 f2 k8,fl,te]
 unfold Xd
 rw[List.set_append_left _ _ gl,List.filter_append,Zuk Ez gl,List.filter_eq_nil_iff.2 (fun x hx=>by
  rw[List.eq_of_mem_replicate hx]
  decide),List.append_nil]
theorem Z74 {L:List (List C)} {d d1 d2:Nat} (f:Ym a b c e=true) (I:Image a b c e L) (M:ClD n d d1 d2 a b c e md L h) (c3:cap≤3):Xa [.c (.ptr (n+13) 0),.c (.int .i64 30),.c (.int .i64 0)] h=some (.w (.c (.int .i64 0)),Zat n h ⟨30,0⟩)∧RowD n h.next a b c e ⟨30,0⟩ md cap (iw0 c) [] (Zat n h ⟨30,0⟩):=by
 obtain⟨g1,g2,g3,g4,g5,g6,g7,g8,g9,g10,g11⟩:=Zv f
 refine⟨M.beg f (cr:=⟨30,0⟩) (s:=32) (by decide) (by omega),⟨vI L,_,[],[],0,0,M.begun (S:=SG b c e cap) (V:=vI L) (by rw[Zyr]; show ((4+2 * cap:Nat):Int)≤30; omega) (fun z z1 _=>Zro I z z1),Zq1 f I,Zv4 Hh f I,rfl,by omega,rfl,by omega⟩⟩
omit Hh in
theorem SlE.keep {b:Nat} {h h':Go.Ev.H} {c:C} {l:List Sl} (s:SlE b h c l) (nx:h.next≤h'.next) (k:∀ p,b≤p→p<h.next→h'.get p=h.get p):SlE b h' c l:=by
 rcases s with s|⟨p,a1,a2,a3,a4,a5⟩
 ·exact .inl s
 ·exact .inr ⟨p,a1,a2,(k p a4 a5).trans a3,a4,by omega⟩
theorem Z4n (f:Ym a b c e=true) (m0:md≠0) {sl:C} {A:List (List UInt8)} (A20:A.length≤20) {X0:Nat} {xs:List C} (x2:read1 6 [xs] 2=some (.int .i64 (c:Int))) (X0n:X0<n) (ar:ArS X0 h sl A) (W:RowD n q a b c e cr md cap iw (Ww c A A.length) h) (ds:∀ j,j<A.length→∀ k,k<j→A.getD k []≠A.getD j []) (gX:h.get X0=some (.row 6 [xs] false)) (gone:Int) (ts:Zx) (t1:Zh ts 1=.w (.c sl)) (t2:Zh ts 2=.w (.c (.int .i64 gone))) (t3:Zh ts 3=.w (.c (.ptr X0 0))) (t7:Zh ts 7=.w (.c (.ptr (n+13) 0))) :
  Ye 208 none (q3 [1,1,1,1,1,1]) [] ts h fun x ds' ts' h'=>ds'=[]∧x=.ret∧Zh ts' 6=.w (.c (.bool true)):=by
 obtain⟨g1,g2,g3,g4,g5,g6,g7,g8,g9,g10,g11⟩:=Zv f
 obtain⟨V,P,bs,L,m,r,M,al,D,fl,r8,hbs,mc⟩:=W.ex
 obtain⟨e1,b1⟩:=Z42 D fl r8 (Zm6 c A A.length)
 rw[Mv] at b1
 obtain⟨nq,nx,n0⟩:=M.nx
 obtain⟨h1,c1,M1,k1⟩:=Z2y Hh f M ((0+1:Nat):Int)
 have sz:=D.o.sz
 have yl:(Fa 2 1 1 (256 * bs.length) P 0).length=16:=rfl
 rw[D.gz] at c1
 obtain⟨y,hy⟩:∃ y,Fa 2 1 1 (256 * bs.length) P 0=y:=⟨_,rfl⟩
 rw[hy] at c1 sz yl
 have c1:Zg 10 [.c (.ptr (n+13) 0),.c (.int .i64 1)] h (.tup [.g y,.c (.int .i64 0)]) h1:=c1
 have n1:=k1.1
 have ry:read1 16 [y] 3=some (.int .i64 ((256 * bs.length:Nat):Int)):=by
  have:=Md (L:=[y]) (sz:=16) (i:=0) (j:=3) (by omega) rfl
  rw[Nat.zero_mul,Nat.zero_add] at this
  exact this.trans sz
 rw[b1] at ry
 obtain⟨lfA,lnA⟩:=ar.1
 have q1:Mk .i64 ((A.length:Int)+7) 8=some (.int .i64 (((A.length+7) / 8:Nat):Int)):=Ea (a:=A.length+7) (b:=8) (by omega) (by omega)
 have k8:(A.length+7) / 8≤3:=by omega
 have u1:(256:Int) * (((A.length+7) / 8:Nat):Int)=((256 * ((A.length+7) / 8):Nat):Int):=rfl
 obtain⟨B8,hB8⟩:∃ x,(A.length+7) / 8=x:=⟨_,rfl⟩
 rw[hB8] at ry q1 k8 u1
 obtain⟨N,hN⟩:∃ N,A.length=N:=⟨_,rfl⟩
 have lnA':=lnA
 have lfA':=lfA
 rw[hN] at lnA' q1
 have N20:N≤20:=by omega
 apply Zk
 have Jf:=U1 @t1 @t2 @t3 @t7 @yl
 iterate 2 (first|apply Zk|refine Zq Hh (Zp Za c1) Ji ?_)
 refine Uc fun hD eD=>?_
 have nD:hD.next=h1.next+1:=by rw[eD]; first|rfl|simp only[H.Zd,H.Zb]
 have kD:∀ m,m<h1.next→hD.get m=h1.get m:=fun m hm=>by rw[eD]; exact Yc
 have gD:hD.get h1.next=some (.row 16 [y] false):=by rw[eD]; exact Zc
 clear eD
 have MD:=M1.keep (by omega) fun m hm=>kD m (by omega)
 obtain⟨cs,h2,c2,se,M2,k2⟩:=Zqi Hh f m0 MD D.o
 have c2:Zg 11 [.c (.ptr (n+13) 0),.c (.int .i64 1)] hD (.tup [.c cs,.c (.int .i64 0)]) h2:=c2
 rw[e1] at se
 have n2:=k2.1
 have g2:=(k2.2 h1.next (by omega) (by omega)).trans gD
 obtain⟨lfE,lnE⟩:=Z81 se
 rw[Mv,hN] at lnE
 iterate 3 (first|apply Zk|refine Zq Hh (Zp Za c2) Ji ?_)
 have Jf:=Yu Jf @g2 @ry @q1 @u1 @lfA' @lnA' @lfE @lnE
 iterate 7 (first|apply Zk|apply Zw|apply Yt|refine Goes.Zi Ji ?_|refine Zq Hh Za Ji ?_)
 have k2':∀ p,p<X0+1→h2.get p=h.get p:=fun p hp=>(k2.2 p (by omega) (by omega)).trans ((kD p (by omega)).trans (k1.2 p (by omega) (by omega)))
 have ar2:ArS X0 h2 sl A:=ar.keep fun p hp=>k2' p (by omega)
 have gX2:=(k2' X0 (by omega)).trans gX
 refine (Z5z Hh A20 (by omega) (by omega) x2 ar2 se gX2 A.length 0 _ (by omega) ?_ ?_ ?_ ?_).mono ?_
 ·have Jf:=@t1; exact Zj
 ·have Jf:=@t3; exact Zj
 ·exact Zc
 ·exact Zc
 rintro x1 ds1 ts1 h2 ⟨rfl,rfl,rfl,tk⟩
 have t1':Zh ts1 1=.w (.c sl):=(tk 1 (by decide)).trans (by have Jf:=@t1; exact Zj)
 have t2':Zh ts1 2=.w (.c (.int .i64 gone)):=(tk 2 (by decide)).trans (by have Jf:=@t2; exact Zj)
 have t3':Zh ts1 3=.w (.c (.ptr X0 0)):=(tk 3 (by decide)).trans (by have Jf:=@t3; exact Zj)
 have t7':Zh ts1 7=.w (.c (.ptr (n+13) 0)):=(tk 7 (by decide)).trans (by have Jf:=@t7; exact Zj)
 have t14':Zh ts1 14=.w (.c cs):=(tk 14 (by decide)).trans Zc
 clear tk
 by_cases gn:gone<0
 ·have dn:decide (gone<0)=true:=decide_eq_true gn
  have Jf:=U1 @t1' @t2' @dn @lfA' @lnA'
  iterate 7 (first|apply Zk|apply Z0|refine Goes.Zi Ji ?_|refine Zq Hh Za Ji ?_)
  exact⟨rfl,rfl,by exact Zc⟩
 ·have dn:decide (gone<0)=false:=decide_eq_false gn
  by_cases gN:gone ≥ (N:Int)
  ·have dN:decide (gone ≥ (N:Int))=true:=decide_eq_true gN
   have Jf:=Sy @t1' @t2' @dn @dN @lfA' @lnA'
   iterate 7 (first|apply Zk|apply Z0|refine Goes.Zi Ji ?_|refine Zq Hh Za Ji ?_)
   exact⟨rfl,rfl,by exact Zc⟩
  ·obtain⟨g,rfl⟩:=Int.eq_ofNat_of_zero_le (show 0≤gone by omega)
   have dN:decide ((g:Int) ≥ (N:Int))=false:=decide_eq_false gN
   have gl:g<A.length:=by omega
   have W2:RowD n q a b c e cr md cap iw (Ww c A A.length) h2:=⟨V,P,bs,L,m,r,M2,al,D,fl,r8,hbs,mc⟩
   obtain⟨h3,c3,kp3,V3,P3,bs3,L3,M3,D3,e3⟩:=Z9n Hh f m0 W2 (Zm6 c A A.length) (Zlx (c:=c) (A:=A) gl) (fun k y hk hy=>by
    rw[Zlx (by omega)] at hy
    cases hy
    exact ds g gl k hk)
   obtain⟨cs2,h4,c4,se2,M4,k4⟩:=Zqi Hh f m0 M3 D3.o
   have c4:Zg 11 [.c (.ptr (n+13) 0),.c (.int .i64 1)] h3 (.tup [.c cs2,.c (.int .i64 0)]) h4:=c4
   rw[e3] at se2
   have n3:=kp3.1
   have se4:=se.keep (h':=h4) (by have:=k4.1; omega) (fun p p1 p2=>(k4.2 p (by omega) (by omega)).trans (kp3.2 p p2 ⟨⟨by omega,by omega,by omega,by omega,by omega⟩,by omega⟩))
   obtain⟨lf2,ln2⟩:=Z81 se2
   have gE:g<(Ww c A A.length).length:=by rw[Mv]; exact gl
   have l2:((Ww c A A.length).eraseIdx g).length=N - 1:=by rw[List.length_eraseIdx,if_pos gE,Mv,hN]
   rw[l2] at ln2
   have u2:(N:Int) - 1=((N - 1:Nat):Int):=by omega
   obtain⟨N1,hN1⟩:∃ x,N - 1=x:=⟨_,rfl⟩
   rw[hN1] at ln2 u2
   obtain⟨pa,ro,pn,hsl,hp⟩:=ar2.2.resolve_left (fun w=>by rw[w] at gl; simp at gl)
   have r1:=Z18 (A:=A) (k:=g) (s:=A.getD g []) (by rw[List.getD_eq_getElem?_getD,List.getElem?_eq_getElem gl]; rfl)
   have c3:Zg 12 [.c (.ptr (n+13) 0),.c (.int .i64 1),.c (.str (A.getD g []))] h2 (.w (.c (.int .i64 0))) h3:=c3
   obtain⟨s,hs⟩:∃ s,A.getD g []=s:=⟨_,rfl⟩
   obtain⟨RR,hRR⟩:∃ s,Sr A=s:=⟨_,rfl⟩
   have gl':=gl
   rw[hs] at r1 c3
   rw[hRR] at r1 hp
   rw[hN] at hsl gl'
   subst hsl
   have Jf:=U1 @t1' @t2' @t7' @dn (Yu @dN @lfA' @lnA' @gl' @hp @r1 @lf2 @ln2 @u2)
   iterate 6 (first|apply Zk|apply Zw|refine Goes.Zi Ji ?_|refine Zq Hh Za Ji ?_)
   iterate 2 (first|apply Zk|refine Zq Hh (Zp Za c3) Ji ?_)
   iterate 10 (first|apply Zk|apply Zw|apply Yt|refine Goes.Zi Ji ?_|refine Zq Hh (Zp Za c4) Ji ?_)
   refine (Zzc Hh (by rw[Mv]; exact A20) gE se4 se2 _ 0 _ (Nat.zero_add _) ?_ ?_ ?_ ?_).mono ?_
   ·have Jf:=@t2'; exact Zj
   ·have Jf:=@t14'; exact Zj
   ·exact Zc
   ·exact Zc
   rintro x1 ds1 ts1 h2 ⟨rfl,rfl,rfl,tk⟩
   iterate 3 (first|apply Zk|apply Z0|refine Zq Hh Za Zc ?_)
   exact⟨rfl,rfl,by exact Zc⟩
theorem Z9o {S:C} {len:Int} (lf:Y7 K 24 (.c S)=true) (hln:∀ h,J3 K h 24 (.c S)=some (.int .i64 len)) (l1:0≤len) {h:Go.Ev.H} (hst:h.get 0=some Gf) (l0:0<h.next) {sl:C} {A:List (List UInt8)} (ar:ArS h.next h sl A) (a b c d md gone:Int) :
  ∃ h',Zg 3 [.g [.int .i64 a,.int .i64 b,.int .i64 c,.int .i64 d,.int .u8 md,S],.c sl,.c (.int .i64 gone)] h (.w (.c (.bool true))) h':=by
 have cf:=fun h=>Z2k Hh lf hln a b c d md h
 have r6:Zn 6 [[.int .i64 a,.int .i64 b,.int .i64 c,.int .i64 d,.int .u8 md,S]] 0 6=some [.int .i64 a,.int .i64 b,.int .i64 c,.int .i64 d,.int .u8 md,S]:=rfl
 have r4:Zn 6 [[.int .i64 a,.int .i64 b,.int .i64 c,.int .i64 d,.int .u8 md,S]] 0 4=some [.int .i64 a,.int .i64 b,.int .i64 c,.int .i64 d]:=rfl
 obtain⟨lfs,lns⟩:=ar.1
 obtain⟨v,h',cc,rfl⟩:∃ v h',Zg 3 [.g [.int .i64 a,.int .i64 b,.int .i64 c,.int .i64 d,.int .u8 md,S],.c sl,.c (.int .i64 gone)] h v h'∧v=.w (.c (.bool true)):=by
  rcases hf:Zwn a b c d md len with _|_
  ·
   rw[hf] at cf
   refine Yg Hh Tryz.f3 ?_
   iterate 9 (first|apply Zk|apply Zw|((first|apply Goes.Zi|apply Goes.ops2 fits Hh (EY Za (Qh Hh))); · simp (maxSteps:=9^6) +decide (disch:=first|omega|(simp only[lens]<;>omega)|decide) only [go_sem,Zm,simprocAttr,xaw,hst,r6,lf,hln,read1,Yf,Zr]<;>rfl))
   iterate 5 (first|apply Zk|apply Z0|((first|apply Goes.Zi|apply Goes.ops2 fits Hh (Yp Za cf)); · simp (maxSteps:=9^6) +decide (disch:=first|omega|(simp only[lens]<;>omega)|decide) only [go_sem,Zm,simprocAttr,xaw,hst,r6,lf,hln,read1,Yf,Zr]<;>rfl))
   exact⟨_,_,Yn,rfl⟩
  ·rw[hf] at cf
   by_cases hz:0<len
   ·
    have dz:decide (len > 0)=true:=decide_eq_true hz
    refine Yg Hh Tryz.f3 ?_
    iterate 9 (first|apply Zk|apply Zw|((first|apply Goes.Zi|apply Goes.ops2 fits Hh (EY Za (Qh Hh))); · simp (maxSteps:=9^6) +decide (disch:=first|omega|(simp only[lens]<;>omega)|decide) only [go_sem,Zm,simprocAttr,xaw,hst,r6,lf,hln,dz,read1,Yf,Zr]<;>rfl))
    iterate 5 (first|apply Zk|apply Z0|((first|apply Goes.Zi|apply Goes.ops2 fits Hh (Yp Za cf)); · simp (maxSteps:=9^6) +decide (disch:=first|omega|(simp only[lens]<;>omega)|decide) only [go_sem,Zm,simprocAttr,xaw,hst,r6,lf,hln,dz,read1,Yf,Zr]<;>rfl))
    exact⟨_,_,Yn,rfl⟩
   ·have dz:decide (len > 0)=false:=decide_eq_false hz
    by_cases A21:20<A.length
    ·have da:decide (((A.length:Nat):Int) > 20)=true:=decide_eq_true (by omega)
     refine Yg Hh Tryz.f3 ?_
     iterate 9 (first|apply Zk|apply Zw|((first|apply Goes.Zi|apply Goes.ops2 fits Hh (EY Za (Qh Hh))); · simp (maxSteps:=9^6) +decide (disch:=first|omega|(simp only[lens]<;>omega)|decide) only [go_sem,Zm,simprocAttr,xaw,hst,r6,lf,hln,dz,lfs,lns,da,read1,Yf,Zr]<;>rfl))
     iterate 5 (first|apply Zk|apply Z0|((first|apply Goes.Zi|apply Goes.ops2 fits Hh (Yp Za cf)); · simp (maxSteps:=9^6) +decide (disch:=first|omega|(simp only[lens]<;>omega)|decide) only [go_sem,Zm,simprocAttr,xaw,hst,r6,lf,hln,dz,lfs,lns,da,read1,Yf,Zr]<;>rfl))
     exact⟨_,_,Yn,rfl⟩
    ·have A20:A.length≤20:=by omega
     have da:decide (((A.length:Nat):Int) > 20)=false:=decide_eq_false (by omega)
     unfold Zwn at hf
     simp only[Bool.and_eq_true,decide_eq_true_eq] at hf
     obtain⟨⟨⟨⟨hf,f1⟩,m1⟩,m3⟩,f4⟩:=hf
     have hf':=hf
     unfold Zaz at hf'
     simp only[Bool.and_eq_true,decide_eq_true_eq] at hf'
     obtain⟨⟨⟨⟨p1,p2⟩,p3⟩,p4⟩,fb⟩:=hf'
     obtain⟨a,rfl⟩:=Int.eq_ofNat_of_zero_le p1
     obtain⟨b,rfl⟩:=Int.eq_ofNat_of_zero_le p2
     obtain⟨c,rfl⟩:=Int.eq_ofNat_of_zero_le p3
     obtain⟨d,rfl⟩:=Int.eq_ofNat_of_zero_le p4
     simp only[Int.toNat_natCast] at fb
     obtain⟨g1,g2,g3,g4,g5,g6,g7,g8,g9,g10,g11⟩:=Zv fb
     have m0:md≠0:=by omega
     have io:=Zs6 (c:=c) (by omega)
     have x2:read1 6 [[.int .i64 (a:Int),.int .i64 (b:Int),.int .i64 (c:Int),.int .i64 (d:Int),.int .u8 md,S]] 2=some (.int .i64 (c:Int)):=rfl
     refine Yg Hh Tryz.f3 ?_
     iterate 9 (first|apply Zk|apply Zw|((first|apply Goes.Zi|apply Goes.ops2 fits Hh (EY Za (Qh Hh))); · simp (maxSteps:=9^6) +decide (disch:=first|omega|(simp only[lens]<;>omega)|decide) only [go_sem,Zm,simprocAttr,xaw,hst,r6,r4,fb,lf,hln,dz,lfs,lns,da,read1,Yf,Zr]<;>rfl))
     iterate 4 (first|apply Zk|apply Zw|((first|apply Goes.Zi|apply Goes.ops2 fits Hh (Yp Za cf)); · simp (maxSteps:=9^6) +decide (disch:=first|omega|(simp only[lens]<;>omega)|decide) only [go_sem,Zm,simprocAttr,xaw,hst,r6,r4,fb,lf,hln,dz,lfs,lns,da,read1,Yf,Zr]<;>rfl))
     refine Uc fun hA eA=>?_
     have nA:hA.next=h.next+1:=by rw[eA]; first|rfl|simp only[H.Zd,H.Zb]
     have kA:∀ m,m<h.next→hA.get m=h.get m:=fun m hm=>by rw[eA]; exact Yc
     have gA:hA.get h.next=some (.row 6 [[.int .i64 (a:Int),.int .i64 (b:Int),.int .i64 (c:Int),.int .i64 (d:Int),.int .u8 md,S]] false):=by rw[eA]; exact Yn
     clear eA
     obtain⟨L,h5,I,c5,M5,n5,k5⟩:=Zkt Hh fb m1 m3 ((kA 0 l0).trans hst) (by omega)
     obtain⟨e6,W⟩:=Z74 Hh (cap:=min 3 (a * fF b c)) fb I M5 (by omega)
     have c6:=Zia Hh e6
     have g5':=(k5 h.next (by omega)).trans gA
     iterate 3 (first|apply Zk|(apply Goes.ops2 fits Hh (Zp Za c5); · simp (maxSteps:=9^6) +decide (disch:=first|omega|(simp only[lens]<;>omega)|decide) only [go_sem,Zm,simprocAttr,Ya,xaw,hst,r6,r4,fb,lf,hln,dz,lfs,lns,da,gA,read1,Yf,Zr]<;>rfl))
     iterate 7 (first|apply Zk|apply Zw|apply Yt|((first|apply Goes.Zi|apply Goes.ops2 fits Hh (Zp Za c6)); · simp (maxSteps:=9^6) +decide (disch:=first|omega|(simp only[lens]<;>omega)|decide) only [go_sem,Zm,simprocAttr,Ya,xaw,hst,r6,r4,fb,lf,hln,dz,lfs,lns,da,gA,read1,Yf,Zr]<;>rfl))
     refine Uc fun hB eB=>?_
     have nx5:=M5.nx
     have kB:∀ m,m<h5.next→m≠hA.next+13→m≠hA.next+20→hB.get m=h5.get m:=fun m hm h1 h2=>by rw[eB]; exact Gp nx5 hm h1 h2 _
     have gB:=(kB h.next (by omega) (by omega) (by omega)).trans g5'
     rw[←eB] at W
     clear eB
     have arB:ArS h.next hB sl A:=ar.keep fun p hp=>(kB p (by omega) (by omega) (by omega)).trans ((k5 p (by omega)).trans (kA p hp))
     refine (Z47 Hh fb m0 io rfl A20 (X0:=h.next) x2 (by omega) A.length 0 _ hB (by omega) arB W (fun j hj=>absurd hj (by omega)) gB ?_ ?_ ?_ ?_).mono ?_
     ·exact Zc
     ·exact Zc
     ·exact Zc
     ·exact Zc
     rintro x1 ds1 ts1 h1 ⟨rfl,⟨rfl,t6⟩|⟨rfl,W1,ds,k1,tk⟩⟩
     ·exact⟨_,_,(by have Jf:=@t6; exact Zj),rfl⟩
     obtain⟨nq9,nx9,n09⟩:=W.nx
     have XB:=(k1.2 h.next (by omega) ⟨⟨by omega,by omega,by omega,by omega,by omega⟩,by omega⟩).trans gB
     have arC:ArS h.next h1 sl A:=arB.keep fun p hp=>k1.2 p (by omega) ⟨⟨by omega,by omega,by omega,by omega,by omega⟩,by omega⟩
     have tail:=fun t1 t2 t3 t7=>Z4n Hh fb m0 A20 x2 (by omega) arC W1 ds XB gone ts1 t1 t2 t3 t7
     refine (tail ((tk 1 (by decide)).trans Zc) ((tk 2 (by decide)).trans Zc) ((tk 3 (by decide)).trans Zc) ((tk 7 (by decide)).trans Zc)).mono ?_
     rintro x2 ds2 ts2 h2 ⟨rfl,rfl,t6⟩
     exact⟨_,_,(by have Jf:=@t6; exact Zj),rfl⟩
 exact⟨h',cc⟩
end
end Go.Proofs.YtecakmodlkbnaaaGreatDoor
set_option maxRecDepth 100000
namespace Go.Proofs.YtecakmodlkbnaaaGreatDoor
open Go.Ev Go.ChangeShapes Go.WideShapes
section
variable (Hh:Hearts K Tryz.prog)
include Hh
theorem Zxn {W:World} {cs:Array Value} {t:TypeId} {fr:Nat × Nat} (hb:W.heap[1]? = some (.cells cs t fr)) (hcs:cs.toList=steps16.map (Value.int .u32)) (a b c d md gone:Int) {v5 v6:Value} (ok5:Zaa v5) (ok6:Zm7 W v6) :
  Calls Tryz.prog 3 #[.agg #[.int .i64 a,.int .i64 b,.int .i64 c,.int .i64 d,.int .u8 md,v5],v6,.int .i64 gone] W fun e W'=>e=.returned (.bool true)∧Go.RowKit.Below W.heap.size W W':=by
 obtain⟨c5,len,la,k5,lf5,ln5,l5⟩:=ok5.art 1
 obtain⟨c6,A,o,lb,k6,o6,l6,s6⟩:=ok6.ars 2
 have a6:ArS (Zhw o).next (Zhw o) c6 A:=by
  refine⟨l6,s6.imp id fun ⟨e,e2⟩=>⟨2,true,?_,e,?_⟩⟩
  ·rw[R8]; exact (by omega:2<3)
  ·subst e2
   exact Zz ..
 obtain⟨h',cc⟩:=Z9o Hh lf5 ln5 l5 (Zui o) (by rw[R8]; omega) a6 a b c d md gone
 exact Zcv (ρ:=Zlr la lb) (vals:=[.agg #[.int .i64 a,.int .i64 b,.int .i64 c,.int .i64 d,.int .u8 md,v5],v6,.int .i64 gone]) (Zo2 hb hcs o6) (by rw[R8]; exact Zj6 la lb) (fun n o e=>Zb9 e) cc ⟨⟨_,rfl,rfl,rfl,rfl,rfl,rfl,k5 _ rfl,trivial⟩,k6 _ rfl,rfl,trivial⟩
end
end Go.Proofs.YtecakmodlkbnaaaGreatDoor
