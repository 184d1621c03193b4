/- tree.both. -/
import Derived.Test.YtmanipmhebgdbaaGreatDoorTvn
set_option maxRecDepth 100000
set_option maxHeartbeats 4000000
set_option linter.unusedSimpArgs false
set_option linter.unusedVariables false
set_option linter.unusedSectionVars false
namespace Go.Proofs.YtmanipmhebgdbaaGreatDoor
open Go.Ev
theorem rs24:Tryz.f24.results.toList=[.tmp 6,.tmp 7,.tmp 8]:=rfl
attribute [go_sem] rs24
section
variable (Hh:Hearts K Tryz.prog)
include Hh
variable {n q:Nat} {cr:Cr} {md:Int} {V:Nat->Lq} {h:Hq}
theorem Zob {a b c e:Nat} {S T:Lq} (f:Yu a b c e=true) (m0:md≠0) (M:HE n q a b c e cr md S T V h) {path other:List UInt8} {A B:List (List UInt8)} (sp1:Splits path A) (sp2:Splits other B) :
  ∃ h' p1 p2,Zb 24 [.c (.ptr (n+13) 0),.c (.str path),.c (.str other)] h (.tup [.c (.slice p1 0 A.length 1),.c (.slice p2 0 B.length 1),.c (.int .i64 0)]) h'/\(h.next<=p1/\p1<h'.next)/\(h.next<=p2/\p2<h'.next)/\h'.get p1=some (.row 1 (Mk A) false)/\h'.get p2=some (.row 1 (Mk B) false)/\∀ m,m<h.next->h'.get m=h.get m:=by
 obtain⟨nq,nx,n0⟩:=M.nx
 obtain⟨st,⟨kn,hs⟩,⟨dk,gl⟩,ht⟩:=M.cells
 unfold gdL gdD at gl
 have dm:(md != 0)=true:=Nn m0
 obtain⟨h1,p1,c3,a1,a2,a3,a4⟩:=sp1 h oM
 obtain⟨h2,p2,c6,b1,b2,b3,b4⟩:=sp2 h1 oM
 have g1:=(b4 p1 a2).trans a3
 obtain⟨v,h',cc,rfl,rfl⟩:∃ v h',Zb 24 [.c (.ptr (n+13) 0),.c (.str path),.c (.str other)] h v h'/\v=.tup [.c (.slice p1 0 A.length 1),.c (.slice p2 0 B.length 1),.c (.int .i64 0)]/\h'=h2:=by
  refine Ym Hh Tryz.f24 ?_
  have Jf:=Gq @Ba @f @hs @gl @dm
  iterate 9 (first|refine Goes.Zi Ot ?_|refine Zn Hh (EY Za (Qa Hh)) Ot ?_|apply gS)
  iterate 7 (first|refine Goes.Zi Ot ?_|refine Zn Hh (Zj Za c3) Ot ?_|apply gS)
  iterate 8 (first|refine Goes.Zi Ot ?_|refine Zn Hh (Zj Za c6) Ot ?_|apply gS)
  exact⟨_,_,Zd,rfl,rfl⟩
 exact⟨h',p1,p2,cc,⟨a1,oM⟩,⟨oM,b2⟩,g1,b3,fun m hm=>(b4 m oM).trans (a4 m hm)⟩
end
noncomputable def q42 (p:Lq):Code:=piece p (J8 Tryz.f42)
theorem rs42:Tryz.f42.results.toList=[.tmp 4]:=rfl
theorem rs13:Tryz.f13.results.toList=[.tmp 4,.tmp 5]:=rfl
attribute [go_sem] rs42 rs13
section
variable (Hh:Hearts K Tryz.prog)
include Hh
theorem Ycb {ts:Zv} {h:Hq} (t12:Zg ts 12=.w (.c (.int .i64 1))) (t13:Zg ts 13=.w (.c (.int .i64 1))):Z9 26 none (q42 [1,1,0,1,2]) [] ts h fun x ds' ts' h'=>x=.exit 0/\ds'=[]/\h'=h:=by
 have Jf:=Y2 @t12 @t13
 iterate 6 (first|refine Goes.Zi Zq ?_|refine Zn Hh Za Zq ?_|apply gS)
 exact⟨rfl,rfl,rfl⟩
theorem Z9l {ts:Zv} {h:Hq} {p1 p2:Nat} {RA RB:List (List C)} {a:List UInt8} (ga:h.get p1=some (.row 1 RA false)) (gb:h.get p2=some (.row 1 RB false)) (ra:read1 1 RA 0=some (.str a)) (rb:read1 1 RB 0=some (.str a)) (t0:Zg ts 0=.w (.c (.slice p1 0 1 1))) (t1:Zg ts 1=.w (.c (.slice p2 0 1 1))) (t12:Zg ts 12=.w (.c (.int .i64 1))) (t13:Zg ts 13=.w (.c (.int .i64 0))):Z9 26 none (q42 [1,1,0,1,2]) [] ts h fun x ds' ts' h'=>x=.exit 0/\ds'=[]/\h'=h:=by
 have es:Uk a a=true:=Ep.2 rfl
 have Jf:=Yp @t0 @t1 @t12 @t13 @ga @gb @ra @rb @es
 iterate 15 (first|refine Goes.Zi Zq ?_|refine Zn Hh Za Zq ?_|refine Fe Hh Za Vs ?_|apply gS)
 show Z9 26 none (q42 [1,1,0,1,2]) _ _ _ _
 exact Ycb Hh (by have Jf:=@t12; exact Zq) Zd
theorem Z9k {ts:Zv} {h:Hq} {p1 p2:Nat} {RA RB:List (List C)} {a b:List UInt8} (ga:h.get p1=some (.row 1 RA false)) (gb:h.get p2=some (.row 1 RB false)) (ra:read1 1 RA 0=some (.str a)) (rb:read1 1 RB 0=some (.str b)) (es:Uk a b=false) (t0:Zg ts 0=.w (.c (.slice p1 0 1 1))) (t1:Zg ts 1=.w (.c (.slice p2 0 1 1))) (t12:Zg ts 12=.w (.c (.int .i64 1))) (t13:Zg ts 13=.w (.c (.int .i64 0))):Z9 26 none (q42 [1,1,0,1,2]) [] ts h fun x ds' ts' h'=>x=.ret/\ds'=[]/\h'=h/\Zg ts' 4=.w (.c (.bool false)):=by
 have Jf:=Yp @t0 @t1 @t12 @t13 @ga @gb @ra @rb @es
 iterate 16 (first|refine Goes.Zi Zq ?_|refine Zn Hh Za Zq ?_|refine Fe Hh Za Vs ?_|apply gS)
 exact⟨rfl,rfl,rfl,by exact Zd⟩
theorem Z8h {h:Hq} {p1 p2:Nat} {A B:List (List UInt8)} {a b:List UInt8} (ga:h.get p1=some (.row 1 (Mk A) false)) (gb:h.get p2=some (.row 1 (Mk B) false)) (ha:A[0]? = some a) (hb:B[0]? = some b):Zb 42 [.c (.slice p1 0 1 1),.c (.slice p2 0 1 1)] h (.w (.c (.bool (Uk a b)))) h:=by
 have lf:=Zio (k:=1) oM
 have ra:=Z2n ha
 have rb:=Z2n hb
 obtain⟨RA,hRA⟩:∃ R,Mk A=R:=⟨_,rfl⟩
 obtain⟨RB,hRB⟩:∃ R,Mk B=R:=⟨_,rfl⟩
 rw[hRA] at ga ra
 rw[hRB] at gb rb
 obtain⟨v,h',cc,rfl,rfl⟩:∃ v h',Zb 42 [.c (.slice p1 0 1 1),.c (.slice p2 0 1 1)] h v h'/\v=.w (.c (.bool (Uk a b)))/\h'=h:=by
  cases es:Uk a b with
  | true =>
   have ab:=Ep.1 es
   subst ab
   refine Ym Hh Tryz.f42 ?_
   have Jf:=@lf
   iterate 11 (first|refine Goes.Zi Ui ?_|refine Zn Hh Za Ui ?_|apply gS)
   refine (Z9l Hh ga gb ra rb ?_ ?_ ?_ ?_).mono ?_
   ·exact Zd
   ·exact Zd
   ·exact Zd
   ·exact Zd
   rintro x1 d1 u1 h1 ⟨rfl,rfl,rfl⟩
   iterate 3 (first|refine Zn Hh Za Zd ?_|apply gS)
   exact⟨_,_,Zd,rfl,rfl⟩
  | false =>
   refine Ym Hh Tryz.f42 ?_
   have Jf:=@lf
   iterate 11 (first|refine Goes.Zi Ui ?_|refine Zn Hh Za Ui ?_|apply gS)
   refine (Z9k Hh ga gb ra rb es ?_ ?_ ?_ ?_).mono ?_
   ·exact Zd
   ·exact Zd
   ·exact Zd
   ·exact Zd
   rintro x1 d1 u1 h1 ⟨rfl,rfl,rfl,t4⟩
   exact⟨_,_,(by have Jf:=@t4; exact Zq),rfl,rfl⟩
 exact cc
end
section
variable (Hh:Hearts K Tryz.prog)
include Hh
variable {n q a b c e:Nat} {cr:Cr} {md:Int} {S T:Lq} {V:Nat->Lq} {h:Hq} {path:List UInt8} {A:List (List UInt8)} {k:Nat} {z:Nat->Nat}
theorem Zoc (f:Yu a b c e=true) (m0:md≠0) (M:HE n q a b c e cr md S T V h) (sp:Splits path A) (kA:A.length=k) (A4:k<=4) (z0:z 0=1) (st:∀ j s,j<k->A[j]? = some s->O0 n q a b c e cr md S T V (z j) s (z (j+1)) 0) :
  ∃ h',Zb 13 [.c (.ptr (n+13) 0),.c (.str path)] h (.tup [.c (.int .i64 (z k:Nat)),.c (.int .i64 0)]) h'/\HE n q a b c e cr md S T V h'/\Kr n q h h':=by
 obtain⟨nq,nx,n0⟩:=M.nx
 obtain⟨st0,⟨kn,hs0⟩,⟨dk,gl⟩,ht⟩:=M.cells
 unfold gdL gdD at gl
 have dm:(md != 0)=true:=Nn m0
 subst kA
 obtain⟨h1,p1,c3,b1,b2,g1,k1⟩:=sp h oM
 have M1:=M.keep (h2:=h1) oM fun m hm=>k1 m oM
 obtain⟨h2,c6,M2,k2⟩:=Zwp Hh (k:=A.length) (z:=z) M1 g1 ⟨oM,oM⟩ (Nat.le_refl _) A4 z0 st
 obtain⟨zk,hzk⟩:∃ w,z A.length=w:=⟨_,rfl⟩
 obtain⟨kk,hkk⟩:∃ w,A.length=w:=⟨_,rfl⟩
 rw[hzk] at c6 ⊢
 rw[hkk] at c3 c6
 obtain⟨v,h',cc,rfl,rfl⟩:∃ v h',Zb 13 [.c (.ptr (n+13) 0),.c (.str path)] h v h'/\v=.tup [.c (.int .i64 (zk:Nat)),.c (.int .i64 0)]/\h'=h2:=by
  refine Ym Hh Tryz.f13 ?_
  have Jf:=Gq @Ba @f @hs0 @gl @dm
  iterate 8 (first|refine Goes.Zi Ot ?_|refine Zn Hh (EY Za (Qa Hh)) Ot ?_|apply gS)
  iterate 7 (first|refine Goes.Zi Ot ?_|refine Zn Hh (Zj Za c3) Ot ?_|apply gS)
  iterate 2 (first|refine Zn Hh (Zj Za c6) Ot ?_|apply gS)
  exact⟨_,_,Zd,rfl,rfl⟩
 exact⟨h',cc,M2,⟨by have:=k2.1; omega,fun m hm ho=>(k2.2 m oM ho).trans (k1 m hm)⟩⟩
theorem Yaz (f:Yu a b c e=true) (m0:md≠0) (M:HE n q a b c e cr md S T V h) (sp:Splits path A) (A4:A.length<=4) (z0:z 0=1) {t:Nat} (tk:t<A.length) (st:∀ j s,j<t->A[j]? = some s->O0 n q a b c e cr md S T V (z j) s (z (j+1)) 0) {s:List UInt8} (hs:A[t]? = some s) {er:Int} (er0:er≠0) (ld:O0 n q a b c e cr md S T V (z t) s 0 er) :
  ∃ h',Zb 13 [.c (.ptr (n+13) 0),.c (.str path)] h (.tup [.c (.int .i64 0),.c (.int .i64 er)]) h'/\HE n q a b c e cr md S T V h'/\Kr n q h h':=by
 obtain⟨nq,nx,n0⟩:=M.nx
 obtain⟨st0,⟨kn,hs0⟩,⟨dk,gl⟩,ht⟩:=M.cells
 unfold gdL gdD at gl
 have dm:(md != 0)=true:=Nn m0
 obtain⟨h1,p1,c3,b1,b2,g1,k1⟩:=sp h oM
 have M1:=M.keep (h2:=h1) oM fun m hm=>k1 m oM
 obtain⟨h2,c6,M2,k2⟩:=Z7p Hh (k:=A.length) (z:=z) M1 g1 ⟨oM,oM⟩ tk (Nat.le_refl _) A4 z0 st hs er0 ld
 obtain⟨kk,hkk⟩:∃ w,A.length=w:=⟨_,rfl⟩
 rw[hkk] at c3 c6
 obtain⟨v,h',cc,rfl,rfl⟩:∃ v h',Zb 13 [.c (.ptr (n+13) 0),.c (.str path)] h v h'/\v=.tup [.c (.int .i64 0),.c (.int .i64 er)]/\h'=h2:=by
  refine Ym Hh Tryz.f13 ?_
  have Jf:=Gq @Ba @f @hs0 @gl @dm
  iterate 8 (first|refine Goes.Zi Ot ?_|refine Zn Hh (EY Za (Qa Hh)) Ot ?_|apply gS)
  iterate 7 (first|refine Goes.Zi Ot ?_|refine Zn Hh (Zj Za c3) Ot ?_|apply gS)
  iterate 2 (first|refine Zn Hh (Zj Za c6) Ot ?_|apply gS)
  exact⟨_,_,Zd,rfl,rfl⟩
 exact⟨h',cc,M2,⟨by have:=k2.1; omega,fun m hm ho=>(k2.2 m oM ho).trans (k1 m hm)⟩⟩
end
theorem rs44:Tryz.f44.results.toList=[.tmp 6,.tmp 7,.tmp 8]:=rfl
theorem rs46:Tryz.f46.results.toList=[.tmp 10,.tmp 11]:=rfl
theorem rs45:Tryz.f45.results.toList=[.tmp 6]:=rfl
attribute [go_sem] rs44 rs46 rs45
section
variable (Hh:Hearts K Tryz.prog)
include Hh
variable {n q:Nat} {cr:Cr} {md:Int} {V:Nat->Lq} {h:Hq} {s s':List UInt8} {u u' w:Nat} {R:(Nat->Lq)->Prop}
theorem Z2s {x:C} {b:Bool} (h:Hq):Zb 44 [.c x,.c (.int .i64 0),.c (.bool b)] h (.tup [.c (.int .i64 0),.c (.bool false),.c (.int .i64 0)]) h:=by
 refine fnG Hh Tryz.f44 ?_
 iterate 9 (first|refine Goes.Zi Zd ?_|refine Zn Hh Za Zd ?_|apply gS)
 exact Zd
def Moves (n:Nat) (md:Int) (V:Nat->Lq) (u:Nat) (s:List UInt8) (u':Nat) (s':List UInt8) (w:Nat) (R:(Nat->Lq)->Prop):Prop:=∀ {q:Nat} {cr:Cr} [Opn cr] {h:Hq},HE n q 2 60 32 40 cr md chT [] V h->∃ h1 V1,Zb 23 [.c (.ptr (n+13) 0),.c (.int .i64 (u':Int)),.c (.str s'),.c (.int .i64 (w:Int))] h (.w (.c (.int .i64 0))) h1/\HE n q 2 60 32 40 cr md chT [] V1 h1/\Kp n q h h1/\∀ {h1:Hq},HE n q 2 60 32 40 cr md chT [] V1 h1->∃ h2 V2,Zb 29 [.c (.ptr (n+13) 0),.c (.int .i64 (u:Int)),.c (.str s)] h1 (.w (.c (.int .i64 0))) h2/\HE n q 2 60 32 40 cr md chT [] V2 h2/\R V2/\Kp n q h1 h2
theorem Yab [Opn cr] (M:HE n q 2 60 32 40 cr md chT [] V h) (mv:Moves n md V u s u' s' w R) (o:∀ m,h.next<=m->m<h.next+2->n+23<=m/\(m<q\/q+9<=m)) {b:Bool} {k:Int} :
  ∃ h' V',Zb 46 [.c (.ptr (n+13) 0),.g (spC u s w),.g (spC u' s' 0),.c (.bool b),.c (.int .i64 k)] h (.tup [.c (.bool false),.c (.int .i64 0)]) h'/\HE n q 2 60 32 40 cr md chT [] V' h'/\R V'/\Kp n q h h':=by
 have nx:=M.nx
 have o1:=o h.next oM oM
 have o2:=o (h.next+1) oM oM
 have xl:(spC u s w).length=3:=rfl
 have yl:(spC u' s' 0).length=3:=rfl
 have x0:read1 3 [spC u s w] 0=some (.int .i64 (u:Int)):=rfl
 have x1:read1 3 [spC u s w] 1=some (.str s):=rfl
 have x2:read1 3 [spC u s w] 2=some (.int .i64 (w:Int)):=rfl
 have y0:read1 3 [spC u' s' 0] 0=some (.int .i64 (u':Int)):=rfl
 have y1:read1 3 [spC u' s' 0] 1=some (.str s'):=rfl
 have y2:read1 3 [spC u' s' 0] 2=some (.int .i64 0):=rfl
 obtain⟨X,hX⟩:=xzE (spC u s w)
 obtain⟨Y,hY⟩:∃ X,spC u' s' 0=X:=⟨_,rfl⟩
 rw[hX] at xl x0 x1 x2
 rw[hY] at yl y0 y1 y2
 obtain⟨v,h',cc,V',rfl,M',r,kk⟩:∃ v h',Zb 46 [.c (.ptr (n+13) 0),.g X,.g Y,.c (.bool b),.c (.int .i64 k)] h v h'/\∃ V',v=.tup [.c (.bool false),.c (.int .i64 0)]/\HE n q 2 60 32 40 cr md chT [] V' h'/\R V'/\Kp n q h h':=by
  refine Ym Hh Tryz.f46 ?_
  have Jf:=Yp @Ba @xl @yl @x0 @x1 @x2 @y0 @y1 @y2
  iterate 9 (first|refine Goes.Zi Oq ?_|refine Zn Hh Za Oq ?_|apply gS)
  refine Jq fun hA eA=>?_
  have nA:hA.next=h.next+2:=nxQ eA
  have kA:∀ m,m<h.next->hA.get m=h.get m:=kQ eA
  have aX:hA.get h.next=some (.row 3 [X] false):=by rw[eA]; exact Zt
  have aY:hA.get (h.next+1)=some (.row 3 [Y] false):=by rw[eA]; exact Zt
  clear eA
  have MA:=M.keep (h2:=hA) oM fun m hm=>kA m oM
  obtain⟨h1,V1,c10,M1,k1,rm⟩:=mv MA
  have n1:=k1.1
  have bX:=(k1.2 h.next oM (Vi (.inr o1.1) o1.2)).trans aX
  have bY:=(k1.2 (h.next+1) oM (Vi (.inr o2.1) o2.2)).trans aY
  obtain⟨h2,V2,c13,M2,r2,k2⟩:=rm M1
  have n2:=k2.1
  have Jf:=Gq Jf @aX @aY @bX @bY
  iterate 7 (first|refine Goes.Zi Oq ?_|refine Zn Hh (Zj Za c10) Oq ?_|apply gS)
  iterate 8 (first|refine Goes.Zi Oq ?_|refine Zn Hh (Zj Za c13) Oq ?_|apply gS)
  exact⟨_,_,Yi,V2,rfl,M2,r2,⟨oM,fun m hm ho=>(k2.2 m oM ho).trans ((k1.2 m oM ho).trans (kA m hm))⟩⟩
 rw[hX,hY]
 exact⟨h',V',cc,M',r,kk⟩
theorem Z2q [Opn cr] (M:HE n q 2 60 32 40 cr md chT [] V h) (mv:Moves n md V u s u' s' w R) {p3 p11 p13 p15 p14 p7:Nat} {b z7:Bool} {k:Int} (g3:h.get p3=some (.row 1 [[.ptr (n+13) 0]] false)) (g11:h.get p11=some (.row 3 [spC u s w] false)) (g13:h.get p13=some (.row 3 [spC u' s' 0] false)) (g15:h.get p15=some (.row 1 [[.bool b]] false)) (g14:h.get p14=some (.row 1 [[.int .i64 k]] false)) (g7:h.get p7=some (.row 1 [[.bool z7]] false)) (o:∀ m,h.next<=m->n+23<=m/\(m<q\/q+9<=m)) (b7:p7<h.next/\n+23<=p7/\(p7<q\/q+9<=p7)) :
  ∃ h' V',Zb 45 [.c (.ptr p3 0),.c (.ptr p11 0),.c (.ptr p13 0),.c (.ptr p15 0),.c (.ptr p14 0),.c (.ptr p7 0)] h (.w (.c (.int .i64 0))) h'/\HE n q 2 60 32 40 cr md chT [] V' h'/\R V'/\h'.get p7=some (.row 1 [[.bool false]] false)/\h.next<=h'.next/\∀ m,m<h.next->(m<n+6\/n+23<=m)->(m<q\/q+9<=m)->m≠p7->h'.get m=h.get m:=by
 have xl:(spC u s w).length=3:=rfl
 have yl:(spC u' s' 0).length=3:=rfl
 obtain⟨h1,V1,c1,M1,r1,k1⟩:=Yab Hh M mv (fun m hm _=>o m hm) (b:=b) (k:=k)
 have n1:=k1.1
 have e7:=(k1.2 p7 oM (Vi (.inr b7.2.1) b7.2.2)).trans g7
 obtain⟨X,hX⟩:=xzE (spC u s w)
 obtain⟨Y,hY⟩:∃ X,spC u' s' 0=X:=⟨_,rfl⟩
 rw[hX] at xl c1 g11
 rw[hY] at yl c1 g13
 obtain⟨v,h',cc,rfl,rfl⟩:∃ v h',Zb 45 [.c (.ptr p3 0),.c (.ptr p11 0),.c (.ptr p13 0),.c (.ptr p15 0),.c (.ptr p14 0),.c (.ptr p7 0)] h v h'/\v=.w (.c (.int .i64 0))/\h'=h1.put p7 (.row 1 [[.bool false]] false):=by
  refine Ym Hh Tryz.f45 ?_
  have Jf:=Yp @Ba @xl @yl @g3 @g11 @g13 @g15 @g14 @e7
  iterate 3 (first|refine Zn Hh Za Zt ?_|apply gS)
  iterate 4 (first|refine Zn Hh (Zj Za c1) Zt ?_|apply gS)
  exact⟨_,_,Zd,rfl,rfl⟩
 exact⟨_,V1,cc,M1.Z8k (by rw[H.Zf]; omega) (fun m hm=>Zc oM),r1,Zz ..,by rw[H.Zf]; omega,fun m hm o1 o2 hne=>by rw[Zc hne,k1.2 m oM (Vi o1 o2)]⟩
end
theorem rs15:Tryz.f15.results.toList=[.tmp 6,.cell 7 4,.tmp 8]:=rfl
attribute [go_sem] rs15
section
variable (Hh:Hearts K Tryz.prog)
include Hh
variable {n q:Nat} {md:Int} {V:Nat->Lq} {h:Hq} {s s' b0:List UInt8} {w:Nat} {R:(Nat->Lq)->Prop} {path other:List UInt8} {A B:List (List UInt8)} {z z':Nat->Nat} {y:List C}
theorem Z7e (m0:md≠0) {ch:Lq} (M:HE n q 2 60 32 40 (Cr.cl ch) md [] [] V h) (hch:∀ k∈ch,k∈chT) (n23:n+23<=h.next) (sp1:Splits path A) (kA:A.length=1) (sp2:Splits other B) (kB:B.length=2) (z0:z 0=1) (st:∀ j s,j<0->A[j]? = some s->O0 n q 2 60 32 40 (Cr.cl ch) md [] [] V (z j) s (z (j+1)) 0) (hs:A[0]? = some s) (ld:O0 n q 2 60 32 40 (Cr.cl ch) md [] [] V (z 0) s w 0) (w0:w≠0) (gw:gI 2 60 32 40 V (w:Int)=(y,0)) (yl:y.length=16) (y0:read1 16 [y] 0=some (.int .u8 2)) (hb:B[0]? = some b0) (es:Uk b0 s=false) (z0':z' 0=1) (stB:∀ j s,j<1->B[j]? = some s->O0 n q 2 60 32 40 (Cr.cl ch) md [] [] V (z' j) s (z' (j+1)) 0) (hs':B[1]? = some s') (ldB:O0 n q 2 60 32 40 (Cr.cl ch) md [] [] V (z' 1) s' 0 301) (mv:Moves n md V (z 0) s (z' 1) s' w R) :
  ∃ h',Zb 15 [.c (.ptr (n+13) 0),.c (.str path),.c (.str other)] h (.tup [.c (.int .i64 0),.c (.bool false),.c (.int .i64 0)]) h'/\∃ q' V',HE n q' 2 60 32 40 (Cr.cl chT) md [] [] V' h'/\R V'/\(h.next<=h'.next/\h.next<=q'+5)/\∀ m,m<h.next->(m<n+6\/n+23<=m)->h'.get m=h.get m:=by
 have f:=Vy
 have nx:=M.nx
 have lfA:=Zio (k:=1) oM
 have lfB:=Zio (k:=2) oM
 have x2:read1 3 [spC (z 0) s w] 2=some (.int .i64 (w:Int)):=rfl
 have xl1:(spC (z 0) s w).length=3:=rfl
 refine Ow ?_
 refine Ym Hh Tryz.f15 ?_
 have Jf:=Jh @Ba @lfA (Yp @lfB @y0 @yl @x2 @xl1 @tA0 @tA1 @es @Nat.sub_zero)
 iterate 3 (first|refine Zn Hh Za Y8 ?_|apply gS)
 refine Jq fun hA eA=>?_
 have nA:hA.next=h.next+2:=nxQ eA
 have kA':∀ m,m<h.next->hA.get m=h.get m:=fun m hm=>by rw[eA]; exact Yn
 have a3:hA.get h.next=some (.row 1 [[.ptr (n+13) 0]] false):=by rw[eA]; exact Yi
 have a7:hA.get (h.next+1)=some (.row 1 [[.bool false]] false):=by rw[eA]; exact Yi
 clear eA
 have MA:=M.keep (h2:=hA) oM fun m hm=>kA' m oM
 obtain⟨h1,p1,p2,c1,b1,b2,g1,g2,k1⟩:=Zob Hh f m0 MA sp1 sp2
 rw[kA,kB] at c1
 have M1:=MA.keep (h2:=h1) oM fun m hm=>k1 m oM
 have a31:=(k1 h.next oM).trans a3
 have a71:=(k1 (h.next+1) oM).trans a7
 obtain⟨h2,c6,M2,k2⟩:=Zjh Hh (A:=A) (k:=0) (z:=z) (w:=w) f M1 g1 ⟨oM,oM⟩ kA oM z0 st hs ld w0 gw yl
 have c6:Zb 25 [.c (.ptr (n+13) 0),.c (.slice p1 0 1 1)] h1 (.tup [.g (spC (z 0) s w),.g y,.c (.int .i64 0)]) h2:=c6
 have n2:=k2.1
 have a32:=(k2.2 h.next oM oM).trans a31
 have a72:=(k2.2 (h.next+1) oM oM).trans a71
 have g12:=(k2.2 p1 oM oM).trans g1
 have g22:=(k2.2 p2 oM oM).trans g2
 obtain⟨X1,hX1⟩:∃ Y,spC (z 0) s w=Y:=⟨_,rfl⟩
 rw[hX1] at c6 x2 xl1
 have Jf:=Vr @Ba @lfA @lfB @y0 @yl @x2 @xl1 (Yp @tA0 @tA1 @es @a3 @a7 @a31 @a32 @a72 @Nat.sub_zero)
 iterate 12 (first|refine Goes.Zi Y8 ?_|refine Zn Hh (Zj Za c1) Y8 ?_|apply gS)
 iterate 8 (first|refine Goes.Zi Y8 ?_|refine Zn Hh (Zj Za c6) Y8 ?_|apply gS)
 refine Jq fun hC eC=>?_
 have nC:hC.next=h2.next+2:=nxQ eC
 have kC:∀ m,m<h2.next->hC.get m=h2.get m:=kQ eC
 have C11:hC.get h2.next=some (.row 3 [X1] false):=by rw[eC]; exact Zt
 have C12:hC.get (h2.next+1)=some (.row 16 [y] false):=by rw[eC]; exact Zt
 clear eC
 have MC:=M2.keep (h2:=hC) oM fun m hm=>kC m (by have:=M2.nx; omega)
 have C3:=(kC h.next oM).trans a32
 have C7:=(kC (h.next+1) oM).trans a72
 have G1:=(kC p1 oM).trans g12
 have G2:=(kC p2 oM).trans g22
 have c9:=Z8h Hh G2 G1 hb (show A[0]? = some s from hs)
 rw[es] at c9
 obtain⟨h3,c11,M3,k3⟩:=Zg2 Hh (A:=B) (k:=1) (z:=z') (w:=0) MC G2 ⟨oM,oM⟩ kB oM z0' stB hs' (.inr rfl) ldB
 have c11:Zb 43 [.c (.ptr (n+13) 0),.c (.slice p2 0 2 1)] hC (.tup [.g (spC (z' 1) s' 0),.c (.int .i64 0)]) h3:=c11
 have t2:read1 3 [spC (z' 1) s' 0] 2=some (.int .i64 0):=rfl
 have tl:(spC (z' 1) s' 0).length=3:=rfl
 have w2:((0:Int) == (w:Int))=false:=Db oM
 obtain⟨X2,hX2⟩:∃ Y,spC (z' 1) s' 0=Y:=⟨_,rfl⟩
 rw[hX2] at c11 t2 tl
 have n3:=k3.1
 have D3:=(k3.2 h.next oM oM).trans C3
 have D7:=(k3.2 (h.next+1) oM oM).trans C7
 have D11:=(k3.2 h2.next oM oM).trans C11
 have D12:=(k3.2 (h2.next+1) oM oM).trans C12
 refine gO fits Hh (Zj Za c9) (by
  iterate 18 (refine U1 (by simp (maxSteps:=9^6) +decide (disch:=first|exact dZ|fail) only [go_sem,Zh,simprocAttr,Z7,Ba,lfA,lfB,y0,yl,x2,xl1,tA0,tA1,es,a3,a7,a31,a32,a72,C3,C7,C11,C12,D3,D7,D11,D12,w2,t2,tl,Yt,Zr,Jl,Uj,Bf,bound,Dy,Nat.sub_zero]<;>rfl) ?_)
  exact U0) ?_
 have Jf:=J4 Jf @C3 @C7 (Yp @C11 @C12 @D3 @D7 @D11 @D12 @w2 @t2 @tl)
 iterate 3 (first|refine Goes.Zi Y8 ?_|apply gS)
 iterate 12 (first|refine Goes.Zi Y8 ?_|refine Zn Hh (Zj Za c11) Y8 ?_|apply gS)
 refine Jq fun hD eD=>?_
 have nD:hD.next=h3.next+1:=nxQ eD
 have kD:∀ m,m<h3.next->hD.get m=h3.get m:=kQ eD
 have E13:hD.get h3.next=some (.row 3 [X2] false):=by rw[eD]; exact Zt
 clear eD
 have MD:=M3.keep (h2:=hD) oM fun m hm=>kD m (by have:=M3.nx; omega)
 have E3:=(kD h.next oM).trans D3
 have E7:=(kD (h.next+1) oM).trans D7
 have E11:=(kD h2.next oM).trans D11
 have E12:=(kD (h2.next+1) oM).trans D12
 have c16:=Z2s Hh (x:=.ptr (n+13) 0) (b:=true) hD
 refine gO fits Hh (Zj Za c16) (by
  iterate 16 (refine U1 (by simp (maxSteps:=9^6) +decide (disch:=first|exact dZ|fail) only [go_sem,Zh,simprocAttr,Z7,Ba,lfA,lfB,y0,yl,x2,xl1,tA0,tA1,es,a3,a7,a31,a32,a72,C3,C7,C11,C12,D3,D7,D11,D12,w2,t2,tl,E3,E7,E11,E12,E13,Yt,Zr,Jl,Uj,Bf,bound,Dy,Nat.sub_zero]<;>rfl) ?_)
  exact U0) ?_
 have Jf:=L8 Jf @E3 @E7 @E11 @E12 @E13
 iterate 6 (first|refine Goes.Zi Y8 ?_|refine Zn Hh Za Y8 ?_|apply gS)
 refine Jq fun hE eE=>?_
 have nE:hE.next=hD.next+2:=nxQ eE
 have kE:∀ m,m<hD.next->hE.get m=hD.get m:=kQ eE
 have F14:hE.get hD.next=some (.row 1 [[.int .i64 0]] false):=by rw[eE]; exact Yi
 have F15:hE.get (hD.next+1)=some (.row 1 [[.bool false]] false):=by rw[eE]; exact Yi
 clear eE
 have ME:=MD.keep (h2:=hE) oM fun m hm=>kE m (by have:=MD.nx; omega)
 have F3:=(kE h.next oM).trans E3
 have F7:=(kE (h.next+1) oM).trans E7
 have F11:=(kE h2.next oM).trans E11
 have F13:=(kE h3.next oM).trans E13
 obtain⟨h4,h5,q',V',c19,M5,⟨T5,r5,n5,u5⟩,nn5,k5⟩:=Zfb Hh f (R:=fun V' h4=>R V'/\h4.get (h.next+1)=some (.row 1 [[.bool false]] false)/\hE.next<=h4.next/\∀ m,m<hE.next->(m<n+6\/n+23<=m)->m≠h.next+1->h4.get m=hE.get m) ME oM hch Z9d dM oM (F:=45) (first:=[]) (caps:=[some (h.next,0),some (h2.next,0),some (h3.next,0),some (hD.next+1,0),some (hD.next,0),some (h.next+1,0)]) (fun u1 Mu nu ku=>by
  subst hX1; subst hX2
  obtain⟨u2,V2,cc,Mv,Tv,v7,nv,kv⟩:=Z2q Hh Mu mv (p3:=h.next) (p11:=h2.next) (p13:=h3.next) (p15:=hD.next+1) (p14:=hD.next) (p7:=h.next+1) ((ku _ oM oM).trans F3) ((ku _ oM oM).trans F11) ((ku _ oM oM).trans F13) ((ku _ oM oM).trans F15) ((ku _ oM oM).trans F14) ((ku _ oM oM).trans F7) (fun m hm=>by have:=Mu.nx; omega) oM
  exact⟨u2,V2,cc,Mv,nv,⟨kv _ oM oM oM oM,kv _ oM oM oM oM⟩,Tv,v7,oM,fun m hm ho hne=>(kv m oM ho oM hne).trans (ku m hm ho)⟩)
 have H13:=(k5 h3.next oM oM oM).trans ((u5 h3.next oM oM oM).trans F13)
 have H7:=(k5 (h.next+1) oM oM oM).trans r5
 have Jf:=J4 @Ba @lfA @lfB (Yp @y0 @yl @x2 @xl1 @tA0 @tA1 @es @a3 (Yp @a7 @a31 @a32 @a72 @C3 @C7 @C11 @C12 (Yp @D3 @D7 @D11 @D12 @w2 @t2 @tl @E3 (Yp @E7 @E11 @E12 @E13 @F3 @F14 @H13 @H7 @Nat.sub_zero))))
 iterate 9 (first|refine Goes.Zi Y8 ?_|refine Zn Hh (Zj Za c19) Y8 ?_|refine Fe Hh (Zj Za c19) Zpj ?_|apply gS)
 refine⟨_,_,Yi,rfl,q',V',M5.Z1p ?_ (fun m hm=>?_),T5,⟨?_,oM⟩,fun m hm ho=>?_⟩
 ·simp only[H.Zf]; omega
 ·exact Zc oM
 ·simp only[H.Zf]; omega
 ·rw[Zc oM,k5 m oM ho oM,u5 m oM ho oM,kE m oM,kD m oM,k3.2 m oM oM,kC m oM,k2.2 m oM oM,k1 m oM,kA' m hm]
theorem Ydd (m0:md≠0) {ch:Lq} (M:HE n q 2 60 32 40 (Cr.cl ch) md [] [] V h) (hch:∀ k∈ch,k∈chT) (n23:n+23<=h.next) (sp1:Splits path A) (kA:A.length=2) (sp2:Splits other B) (kB:B.length=1) (z0:z 0=1) (st:∀ j s,j<1->A[j]? = some s->O0 n q 2 60 32 40 (Cr.cl ch) md [] [] V (z j) s (z (j+1)) 0) (hs:A[1]? = some s) (ld:O0 n q 2 60 32 40 (Cr.cl ch) md [] [] V (z 1) s w 0) (w0:w≠0) (gw:gI 2 60 32 40 V (w:Int)=(y,0)) (yl:y.length=16) (y0:read1 16 [y] 0=some (.int .u8 2)) (z0':z' 0=1) (stB:∀ j s,j<0->B[j]? = some s->O0 n q 2 60 32 40 (Cr.cl ch) md [] [] V (z' j) s (z' (j+1)) 0) (hs':B[0]? = some s') (ldB:O0 n q 2 60 32 40 (Cr.cl ch) md [] [] V (z' 0) s' 0 301) (mv:Moves n md V (z 1) s (z' 0) s' w R) :
  ∃ h',Zb 15 [.c (.ptr (n+13) 0),.c (.str path),.c (.str other)] h (.tup [.c (.int .i64 0),.c (.bool false),.c (.int .i64 0)]) h'/\∃ q' V',HE n q' 2 60 32 40 (Cr.cl chT) md [] [] V' h'/\R V'/\(h.next<=h'.next/\h.next<=q'+5)/\∀ m,m<h.next->(m<n+6\/n+23<=m)->h'.get m=h.get m:=by
 have f:=Vy
 have nx:=M.nx
 have lfA:=Zio (k:=2) oM
 have lfB:=Zio (k:=1) oM
 have x2:read1 3 [spC (z 1) s w] 2=some (.int .i64 (w:Int)):=rfl
 have xl1:(spC (z 1) s w).length=3:=rfl
 refine Ow ?_
 refine Ym Hh Tryz.f15 ?_
 have Jf:=Y2 @Ba (Yp @lfA @lfB @y0 @yl @x2 @xl1 @tA0 @tA1 @Nat.sub_zero)
 iterate 3 (first|refine Zn Hh Za Y8 ?_|apply gS)
 refine Jq fun hA eA=>?_
 have nA:hA.next=h.next+2:=nxQ eA
 have kA':∀ m,m<h.next->hA.get m=h.get m:=fun m hm=>by rw[eA]; exact Yn
 have a3:hA.get h.next=some (.row 1 [[.ptr (n+13) 0]] false):=by rw[eA]; exact Yi
 have a7:hA.get (h.next+1)=some (.row 1 [[.bool false]] false):=by rw[eA]; exact Yi
 clear eA
 have MA:=M.keep (h2:=hA) oM fun m hm=>kA' m oM
 obtain⟨h1,p1,p2,c1,b1,b2,g1,g2,k1⟩:=Zob Hh f m0 MA sp1 sp2
 rw[kA,kB] at c1
 have M1:=MA.keep (h2:=h1) oM fun m hm=>k1 m oM
 have a31:=(k1 h.next oM).trans a3
 have a71:=(k1 (h.next+1) oM).trans a7
 obtain⟨h2,c6,M2,k2⟩:=Zjh Hh (A:=A) (k:=1) (z:=z) (w:=w) f M1 g1 ⟨oM,oM⟩ kA oM z0 st hs ld w0 gw yl
 have c6:Zb 25 [.c (.ptr (n+13) 0),.c (.slice p1 0 2 1)] h1 (.tup [.g (spC (z 1) s w),.g y,.c (.int .i64 0)]) h2:=c6
 have n2:=k2.1
 have a32:=(k2.2 h.next oM oM).trans a31
 have a72:=(k2.2 (h.next+1) oM oM).trans a71
 have g12:=(k2.2 p1 oM oM).trans g1
 have g22:=(k2.2 p2 oM oM).trans g2
 obtain⟨X1,hX1⟩:∃ Y,spC (z 1) s w=Y:=⟨_,rfl⟩
 rw[hX1] at c6 x2 xl1
 have Jf:=Ng @Ba @lfA @lfB @y0 @yl @x2 (Yp @xl1 @tA0 @tA1 @a3 @a7 @a31 @a32 @a72 @Nat.sub_zero)
 iterate 12 (first|refine Goes.Zi Y8 ?_|refine Zn Hh (Zj Za c1) Y8 ?_|apply gS)
 iterate 8 (first|refine Goes.Zi Y8 ?_|refine Zn Hh (Zj Za c6) Y8 ?_|apply gS)
 refine Jq fun hC eC=>?_
 have nC:hC.next=h2.next+2:=nxQ eC
 have kC:∀ m,m<h2.next->hC.get m=h2.get m:=kQ eC
 have C11:hC.get h2.next=some (.row 3 [X1] false):=by rw[eC]; exact Zt
 have C12:hC.get (h2.next+1)=some (.row 16 [y] false):=by rw[eC]; exact Zt
 clear eC
 have MC:=M2.keep (h2:=hC) oM fun m hm=>kC m (by have:=M2.nx; omega)
 have C3:=(kC h.next oM).trans a32
 have C7:=(kC (h.next+1) oM).trans a72
 have G1:=(kC p1 oM).trans g12
 have G2:=(kC p2 oM).trans g22
 obtain⟨h3,c11,M3,k3⟩:=Zg2 Hh (A:=B) (k:=0) (z:=z') (w:=0) MC G2 ⟨oM,oM⟩ kB oM z0' stB hs' (.inr rfl) ldB
 have c11:Zb 43 [.c (.ptr (n+13) 0),.c (.slice p2 0 1 1)] hC (.tup [.g (spC (z' 0) s' 0),.c (.int .i64 0)]) h3:=c11
 have t2:read1 3 [spC (z' 0) s' 0] 2=some (.int .i64 0):=rfl
 have tl:(spC (z' 0) s' 0).length=3:=rfl
 have w2:((0:Int) == (w:Int))=false:=Db oM
 obtain⟨X2,hX2⟩:∃ Y,spC (z' 0) s' 0=Y:=⟨_,rfl⟩
 rw[hX2] at c11 t2 tl
 have n3:=k3.1
 have D3:=(k3.2 h.next oM oM).trans C3
 have D7:=(k3.2 (h.next+1) oM oM).trans C7
 have D11:=(k3.2 h2.next oM oM).trans C11
 have D12:=(k3.2 (h2.next+1) oM oM).trans C12
 have Jf:=J4 Jf @C3 @C7 (Yp @C11 @C12 @D3 @D7 @D11 @D12 @w2 @t2 @tl)
 refine gO fits Hh Za (by
  iterate 18 (refine U1 Y8 ?_)
  exact U0) ?_
 iterate 3 (first|refine Goes.Zi Y8 ?_|apply gS)
 iterate 12 (first|refine Goes.Zi Y8 ?_|refine Zn Hh (Zj Za c11) Y8 ?_|apply gS)
 refine Jq fun hD eD=>?_
 have nD:hD.next=h3.next+1:=nxQ eD
 have kD:∀ m,m<h3.next->hD.get m=h3.get m:=kQ eD
 have E13:hD.get h3.next=some (.row 3 [X2] false):=by rw[eD]; exact Zt
 clear eD
 have MD:=M3.keep (h2:=hD) oM fun m hm=>kD m (by have:=M3.nx; omega)
 have E3:=(kD h.next oM).trans D3
 have E7:=(kD (h.next+1) oM).trans D7
 have E11:=(kD h2.next oM).trans D11
 have E12:=(kD (h2.next+1) oM).trans D12
 have c16:=Z2s Hh (x:=.ptr (n+13) 0) (b:=true) hD
 refine gO fits Hh (Zj Za c16) (by
  iterate 16 (refine U1 (by simp (maxSteps:=9^6) +decide (disch:=first|exact dZ|fail) only [go_sem,Zh,simprocAttr,Z7,Ba,lfA,lfB,y0,yl,x2,xl1,tA0,tA1,a3,a7,a31,a32,a72,C3,C7,C11,C12,D3,D7,D11,D12,w2,t2,tl,E3,E7,E11,E12,E13,Yt,Zr,Jl,Uj,Bf,bound,Dy,Nat.sub_zero]<;>rfl) ?_)
  exact U0) ?_
 have Jf:=L8 Jf @E3 @E7 @E11 @E12 @E13
 iterate 6 (first|refine Goes.Zi Y8 ?_|refine Zn Hh Za Y8 ?_|apply gS)
 refine Jq fun hE eE=>?_
 have nE:hE.next=hD.next+2:=nxQ eE
 have kE:∀ m,m<hD.next->hE.get m=hD.get m:=kQ eE
 have F14:hE.get hD.next=some (.row 1 [[.int .i64 0]] false):=by rw[eE]; exact Yi
 have F15:hE.get (hD.next+1)=some (.row 1 [[.bool false]] false):=by rw[eE]; exact Yi
 clear eE
 have ME:=MD.keep (h2:=hE) oM fun m hm=>kE m (by have:=MD.nx; omega)
 have F3:=(kE h.next oM).trans E3
 have F7:=(kE (h.next+1) oM).trans E7
 have F11:=(kE h2.next oM).trans E11
 have F13:=(kE h3.next oM).trans E13
 obtain⟨h4,h5,q',V',c19,M5,⟨T5,r5,n5,u5⟩,nn5,k5⟩:=Zfb Hh f (R:=fun V' h4=>R V'/\h4.get (h.next+1)=some (.row 1 [[.bool false]] false)/\hE.next<=h4.next/\∀ m,m<hE.next->(m<n+6\/n+23<=m)->m≠h.next+1->h4.get m=hE.get m) ME oM hch Z9d dM oM (F:=45) (first:=[]) (caps:=[some (h.next,0),some (h2.next,0),some (h3.next,0),some (hD.next+1,0),some (hD.next,0),some (h.next+1,0)]) (fun u1 Mu nu ku=>by
  subst hX1; subst hX2
  obtain⟨u2,V2,cc,Mv,Tv,v7,nv,kv⟩:=Z2q Hh Mu mv (p3:=h.next) (p11:=h2.next) (p13:=h3.next) (p15:=hD.next+1) (p14:=hD.next) (p7:=h.next+1) ((ku _ oM oM).trans F3) ((ku _ oM oM).trans F11) ((ku _ oM oM).trans F13) ((ku _ oM oM).trans F15) ((ku _ oM oM).trans F14) ((ku _ oM oM).trans F7) (fun m hm=>by have:=Mu.nx; omega) oM
  exact⟨u2,V2,cc,Mv,nv,⟨kv _ oM oM oM oM,kv _ oM oM oM oM⟩,Tv,v7,oM,fun m hm ho hne=>(kv m oM ho oM hne).trans (ku m hm ho)⟩)
 have H13:=(k5 h3.next oM oM oM).trans ((u5 h3.next oM oM oM).trans F13)
 have H7:=(k5 (h.next+1) oM oM oM).trans r5
 have Jf:=Jh @Ba @lfA (Yp @lfB @y0 @yl @x2 @xl1 @tA0 @tA1 @a3 (Yp @a7 @a31 @a32 @a72 @C3 @C7 @C11 @C12 (Yp @D3 @D7 @D11 @D12 @w2 @t2 @tl @E3 (Yp @E7 @E11 @E12 @E13 @F3 @F14 @H13 @H7 @Nat.sub_zero))))
 iterate 9 (first|refine Goes.Zi Y8 ?_|refine Zn Hh (Zj Za c19) Y8 ?_|refine Fe Hh (Zj Za c19) Zpj ?_|apply gS)
 refine⟨_,_,Yi,rfl,q',V',M5.Z1p ?_ (fun m hm=>?_),T5,⟨?_,oM⟩,fun m hm ho=>?_⟩
 ·simp only[H.Zf]; omega
 ·exact Zc oM
 ·simp only[H.Zf]; omega
 ·rw[Zc oM,k5 m oM ho oM,u5 m oM ho oM,kE m oM,kD m oM,k3.2 m oM oM,kC m oM,k2.2 m oM oM,k1 m oM,kA' m hm]
theorem Z7f (m0:md≠0) {ch:Lq} (M:HE n q 2 60 32 40 (Cr.cl ch) md [] [] V h) (hch:∀ k∈ch,k∈chT) (n23:n+23<=h.next) (sp1:Splits path A) (kA:A.length=1) (sp2:Splits other B) (kB:B.length=3) (z0:z 0=1) (st:∀ j s,j<0->A[j]? = some s->O0 n q 2 60 32 40 (Cr.cl ch) md [] [] V (z j) s (z (j+1)) 0) (hs:A[0]? = some s) (ld:O0 n q 2 60 32 40 (Cr.cl ch) md [] [] V (z 0) s w 0) (w0:w≠0) (gw:gI 2 60 32 40 V (w:Int)=(y,0)) (yl:y.length=16) (y0:read1 16 [y] 0=some (.int .u8 2)) (hb:B[0]? = some b0) (es:Uk b0 s=true) :
  ∃ h',Zb 15 [.c (.ptr (n+13) 0),.c (.str path),.c (.str other)] h (.tup [.c (.int .i64 0),.c (.bool false),.c (.int .i64 305)]) h'/\HE n q 2 60 32 40 (Cr.cl ch) md [] [] V h'/\h.next<=h'.next/\∀ m,m<h.next->(m<n+6\/n+23<=m)->h'.get m=h.get m:=by
 have f:=Vy
 have nx:=M.nx
 have lfA:=Zio (k:=1) oM
 have lfB:=Zio (k:=3) oM
 have x2:read1 3 [spC (z 0) s w] 2=some (.int .i64 (w:Int)):=rfl
 have xl1:(spC (z 0) s w).length=3:=rfl
 refine Ow ?_
 refine Ym Hh Tryz.f15 ?_
 have Jf:=Jh @Ba @lfA (Yp @lfB @y0 @yl @x2 @xl1 @tA0 @tA1 @es @Nat.sub_zero)
 iterate 3 (first|refine Zn Hh Za Y8 ?_|apply gS)
 refine Jq fun hA eA=>?_
 have nA:hA.next=h.next+2:=nxQ eA
 have kA':∀ m,m<h.next->hA.get m=h.get m:=fun m hm=>by rw[eA]; exact Yn
 have a3:hA.get h.next=some (.row 1 [[.ptr (n+13) 0]] false):=by rw[eA]; exact Yi
 have a7:hA.get (h.next+1)=some (.row 1 [[.bool false]] false):=by rw[eA]; exact Yi
 clear eA
 have MA:=M.keep (h2:=hA) oM fun m hm=>kA' m oM
 obtain⟨h1,p1,p2,c1,b1,b2,g1,g2,k1⟩:=Zob Hh f m0 MA sp1 sp2
 rw[kA,kB] at c1
 have M1:=MA.keep (h2:=h1) oM fun m hm=>k1 m oM
 have a31:=(k1 h.next oM).trans a3
 have a71:=(k1 (h.next+1) oM).trans a7
 obtain⟨h2,c6,M2,k2⟩:=Zjh Hh (A:=A) (k:=0) (z:=z) (w:=w) f M1 g1 ⟨oM,oM⟩ kA oM z0 st hs ld w0 gw yl
 have c6:Zb 25 [.c (.ptr (n+13) 0),.c (.slice p1 0 1 1)] h1 (.tup [.g (spC (z 0) s w),.g y,.c (.int .i64 0)]) h2:=c6
 have n2:=k2.1
 have a32:=(k2.2 h.next oM oM).trans a31
 have a72:=(k2.2 (h.next+1) oM oM).trans a71
 have g12:=(k2.2 p1 oM oM).trans g1
 have g22:=(k2.2 p2 oM oM).trans g2
 obtain⟨X1,hX1⟩:∃ Y,spC (z 0) s w=Y:=⟨_,rfl⟩
 rw[hX1] at c6 x2 xl1
 have Jf:=Vr @Ba @lfA @lfB @y0 @yl @x2 @xl1 (Yp @tA0 @tA1 @es @a3 @a7 @a31 @a32 @a72 @Nat.sub_zero)
 iterate 12 (first|refine Goes.Zi Y8 ?_|refine Zn Hh (Zj Za c1) Y8 ?_|apply gS)
 iterate 8 (first|refine Goes.Zi Y8 ?_|refine Zn Hh (Zj Za c6) Y8 ?_|apply gS)
 refine Jq fun hC eC=>?_
 have nC:hC.next=h2.next+2:=nxQ eC
 have kC:∀ m,m<h2.next->hC.get m=h2.get m:=kQ eC
 have C11:hC.get h2.next=some (.row 3 [X1] false):=by rw[eC]; exact Zt
 have C12:hC.get (h2.next+1)=some (.row 16 [y] false):=by rw[eC]; exact Zt
 clear eC
 have MC:=M2.keep (h2:=hC) oM fun m hm=>kC m (by have:=M2.nx; omega)
 have C3:=(kC h.next oM).trans a32
 have C7:=(kC (h.next+1) oM).trans a72
 have G1:=(kC p1 oM).trans g12
 have G2:=(kC p2 oM).trans g22
 have c9:=Z8h Hh G2 G1 hb (show A[0]? = some s from hs)
 rw[es] at c9
 refine gO fits Hh (Zj Za c9) (by
  iterate 18 (refine U1 (by simp (maxSteps:=9^6) +decide (disch:=first|exact dZ|fail) only [go_sem,Zh,simprocAttr,Z7,Ba,lfA,lfB,y0,yl,x2,xl1,tA0,tA1,es,a3,a7,a31,a32,a72,C3,C7,C11,C12,Yt,Zr,Jl,Uj,Bf,bound,Dy,Nat.sub_zero]<;>rfl) ?_)
  exact U0) ?_
 have Jf:=Gq Jf @C3 @C7 @C11 @C12
 iterate 4 (first|refine Goes.Zi Y8 ?_|refine Zn Hh Za Y8 ?_|apply gS)
 refine⟨_,_,Yi,rfl,MC.keep ?_ (fun m hm=>?_),?_,fun m hm ho=>?_⟩
 ·first|omega|(simp only[H.Zf,H.Ze]<;>omega)
 ·exact Zc (by have:=M.nx; omega)
 ·first|omega|(simp only[H.Zf,H.Ze]<;>omega)
 ·rw[Zc oM,kC m oM,k2.2 m oM oM,k1 m oM,kA' m hm]
end
end Go.Proofs.YtmanipmhebgdbaaGreatDoor
