/- quernlaw25.row: a row of blocks, each in a handle of its own. -/
import Derived.Test.YteiljiijagmonaaGreatDoorMwl
set_option maxRecDepth 100000
set_option maxHeartbeats 4000000
set_option linter.unusedSimpArgs false
set_option linter.unusedVariables false
set_option linter.unusedSectionVars false
namespace Go.Proofs.YteiljiijagmonaaGreatDoor
open Go.Ev
noncomputable def q6 (p:Lq):Code:=piece p (Ug Tryz.f6)
theorem rs6:Tryz.f6.results.toList=[.cell 4 37,.tmp 5]:=rfl
attribute [go_sem] rs6
theorem Ve (a b c d:C):read1 4 [[a,b,c,d]] 0=some a:=rfl
section
variable (Hh:Hearts K Tryz.prog)
include Hh
theorem Z4t {n r d y N b0 pw p4 p6:Nat} {md:Int} {z4:List C} (m0:md≠0) (N1:N<=100) (pb:n+23<=b0/\b0<=pw/\b0<=p4/\b0<=p6) (pne:pw≠p4/\pw≠p6/\p4≠p6) (zl:z4.length=16):∀ (k i q:Nat) (V:Nat->Lq) (x:List C) (P:Nat->Nat) (ts:Zw) (h:Hq),i+k=N->HE n q 4 60 8 40 (Cr.cl chM) md [] [] V h->AlG 4 60 8 40 (iw0 8) V (inc i)->InoP x P->RowF Yo V P i->h.get pw=some (.row 4 [[.ptr (n+13) 0,.ptr r 0,.ptr d 0,.ptr y 0]] false)->h.get p4=some (.row 16 [z4] false)->h.get p6=some (.row 16 [x] false)->(pw<h.next/\p4<h.next/\p6<h.next)->(p4<q+7\/q+9<=p4) ->
  Ze ts 1=.w (.c (.int .i64 (N:Int)))->Ze ts 2=.w (.c (.ptr pw 0))->Ze ts 4=.w (.c (.ptr p4 0))->Ze ts 6=.w (.c (.ptr p6 0))->Ze ts 7=.w (.c (.int .i64 (i:Int))) ->
  Z7 48 none (q6 [1,1,0,1,2]) [] ts h fun x' ds' ts' h'=>x'=.exit 0/\ds'=[]/\(Ze ts' 4=.w (.c (.ptr p4 0))/\Ze ts' 6=.w (.c (.ptr p6 0)))/\(∃ q' V' x' P',HE n q' 4 60 8 40 (Cr.cl chM) md [] [] V' h'/\AlG 4 60 8 40 (iw0 8) V' (inc N)/\InoP x' P'/\RowF Yo V' P' N/\h'.get p6=some (.row 16 [x'] false)/\(p4<q'+7\/q'+9<=p4))/\h'.get p4=some (.row 16 [z4] false)/\h.next<=h'.next/\∀ m,m<b0->n+23<=m->h'.get m=h.get m:=by
 intro k
 induction k with
 | zero =>
  intro i q V x P ts h hi M al X R gw g4 g6 lt sep t1 t2 t4 t6 t7
  obtain rfl:i=N:=oM
  have dd:decide ((i:Int)<(i:Int))=false:=decide_eq_false oM
  have Jf:=Ju @t1 @t7 @dd
  iterate 6 (first|apply Zu|apply Gr|apply J8|refine Goes.Zl Zn ?_|refine Zr Hh Za Zn ?_)
  refine⟨rfl,rfl,⟨?_,?_⟩,⟨q,V,x,P,M,al,X,R,g6,sep⟩,g4,Nat.le_refl _,fun _ _ _=>rfl⟩
  ·have Jf:=@t4; exact Zn
  ·have Jf:=@t6; exact Zn
 | succ k ih =>
  intro i q V x P ts h hi M al X R gw g4 g6 lt sep t1 t2 t4 t6 t7
  have iN:i<N:=oM
  obtain⟨l1,l2,l3⟩:=lt
  obtain⟨h1,h2,x',P',V',cB,cE,al',X',R',nx1,nx2,k12,fin⟩:=Z4u Hh m0 (i:=i) oM M al X R
  have w1:=(k12 pw l1 oM).1.trans gw
  have w2:=(k12 pw l1 oM).2.trans gw
  have s1:=(k12 p6 l3 oM).1.trans g6
  have s2:=(k12 p6 l3 oM).2.trans g6
  have a2:=(k12 p4 l2 oM).2.trans g4
  have xl:=X.xl
  have xl':=X'.xl
  have dd:decide ((i:Int)<(N:Int))=true:=decide_eq_true oM
  obtain⟨B,hB⟩:=xzE (Yo (bI i))
  rw[hB] at cE
  have Jf:=Ej @t1 @t2 @t6 @t7 (Yw @dd @gw @w1 @w2 @s1 @s2 @xl @xl' @Ve)
  iterate 10 (first|apply Zu|apply Ye|apply Jc|apply J8|refine Goes.Zl Z0 ?_|refine Zr Hh Za Z0 ?_)
  iterate 4 (first|apply Zu|apply Ye|refine Goes.Zl Z0 ?_|refine Zr Hh (Zp Za cB) Z0 ?_)
  refine Goes.ops2 fits Hh (Zp Za cE) (by
   iterate 15 (refine Yv (by simp (maxSteps:=9^6) +decide (disch:=first|exact dZ|fail) only [go_sem,Zh,simprocAttr,Z4,t1,t2,t6,t7,dd,gw,w1,w2,s1,s2,xl,xl',Ve]<;>rfl) ?_)
   exact Yu) ?_
  iterate 2 (apply Zu)
  refine Ow fun hA eA=>?_
  have nA:hA.next=h2.next+1:=nxQ eA
  have kA:∀ m,m<h2.next->hA.get m=h2.get m:=kQ eA
  have gA:hA.get h2.next=some (.row 16 [x'] false):=by rw[eA]; exact Z0
  clear eA
  obtain⟨h3,q',cN,M3,⟨n3,n4⟩,k3⟩:=fin hA oM kA
  have wA:=(kA pw oM).trans w2
  have b3:=(k3 h2.next oM oM).trans gA
  have s3:=(k3 p6 oM oM).trans ((kA p6 oM).trans s2)
  have a3:=(k3 p4 oM oM).trans ((kA p4 oM).trans a2)
  have w3:=(k3 pw oM oM).trans wA
  refine Goes.ops2 fits Hh (Zp Za cN) (by
   iterate 12 (refine Yv (by simp (maxSteps:=9^6) +decide (disch:=first|exact dZ|fail) only [go_sem,Zh,simprocAttr,Z4,t1,t2,t6,t7,dd,gw,w1,w2,s1,s2,xl,xl',Ve,wA,b3,s3]<;>rfl) ?_)
   exact Yu) ?_
  have Jf:=Um Jf @wA @b3 @s3
  iterate 4 (first|apply Ye|refine Goes.Zl Z0 ?_|refine Zr Hh Za Z0 ?_)
  show Z7 48 none (q6 [1,1,0,1,2]) _ _ _ _
  refine (ih (i+1) q' V' x' P' _ (h3.put p6 (.row 16 [x'] false)) oM (M3.Z5r (by rw[H.Zb]; omega) fun m hm=>Zd oM) al' X' R' (by rw[Zd pne.2.1]; exact w3) (by rw[Zd pne.2.2]; exact a3) (Zx ..) ⟨by rw[H.Zb]; omega,by rw[H.Zb]; omega,by rw[H.Zb]; omega⟩ oM ?_ ?_ ?_ ?_ ?_).mono ?_
  ·have Jf:=@t1; exact Zn
  ·have Jf:=@t2; exact Zn
  ·have Jf:=@t4; exact Zn
  ·have Jf:=@t6; exact Zn
  ·exact Zf
  rintro x1 d1 u1 h4 ⟨q1,q2,q3,q4,q5,q6,q7⟩
  rw[H.Zb] at q6
  refine⟨q1,q2,q3,q4,q5,oM,fun m hm ho=>(q7 m hm ho).trans ?_⟩
  rw[Zd oM,k3 m oM ho,kA m oM]
  exact (k12 m oM ho).2
def Z8n:List C:=.int .u8 0 :: .int .i64 0 :: .int .u32 0 :: .int .i64 0 :: List.replicate 12 (.int .u32 0)
omit Hh in
theorem Z5f:InoP Z8n (fun _=>0):=⟨rfl,fun i hi=>by
 match i,hi with
 | 0,_=>rfl
 | 1,_=>rfl
 | 2,_=>rfl
 | 3,_=>rfl
 | 4,_=>rfl
 | 5,_=>rfl
 | 6,_=>rfl
 | 7,_=>rfl
 | 8,_=>rfl
 | 9,_=>rfl
 | 10,_=>rfl
 | i+11,h=>omega,fun _ _=>by decide⟩
omit Hh in
theorem Z0p (V:Nat->Lq):RowF Yo V (fun _=>0) 0:=⟨fun j _=>(if_neg oM).symm,(if_neg oM).symm,(if_neg oM).symm,rfl,fun w=>by omega,fun w=>by omega,fun w=>by omega⟩
theorem rowOk {n q r d y N:Nat} {md:Int} (m0:md≠0) (N1:N<=100) {V:Nat->Lq} {h:Hq} (M:HE n q 4 60 8 40 (Cr.cl chM) md [] [] V h) (n23:n+23<=h.next) (al:AlG 4 60 8 40 (iw0 8) V 0) :
  ∃ x h',Zi 6 [.g [.ptr (n+13) 0,.ptr r 0,.ptr d 0,.ptr y 0],.c (.int .i64 (N:Int))] h (.tup [.g x,.c (.bool true)]) h'/\(∃ q' V' P',HE n q' 4 60 8 40 (Cr.cl chM) md [] [] V' h'/\AlG 4 60 8 40 (iw0 8) V' (inc N)/\InoP x P'/\RowF Yo V' P' N)/\h.next<=h'.next/\∀ m,m<h.next->n+23<=m->h'.get m=h.get m:=by
 have nx:=M.nx
 obtain⟨b1,hb1⟩:=xzE (h.next)
 obtain⟨v,h',cc,x,rfl,qq⟩:∃ v h',Zi 6 [.g [.ptr (n+13) 0,.ptr r 0,.ptr d 0,.ptr y 0],.c (.int .i64 (N:Int))] h v h'/\∃ x,v=.tup [.g x,.c (.bool true)]/\(∃ q' V' P',HE n q' 4 60 8 40 (Cr.cl chM) md [] [] V' h'/\AlG 4 60 8 40 (iw0 8) V' (inc N)/\InoP x P'/\RowF Yo V' P' N)/\h.next<=h'.next/\∀ m,m<h.next->n+23<=m->h'.get m=h.get m:=by
  refine Y0 Hh Tryz.f6 ?_
  iterate 8 (first|apply Zu|apply Jc|refine Zr Hh Za Z55 ?_)
  refine Ow fun hA eA=>?_
  have nA:hA.next=b1+3:=by rw[eA]; simp only[H.Zb,H.Zc,hb1]
  have kA:∀ m,m<h.next->hA.get m=h.get m:=kQ eA
  have gw:hA.get b1=some (.row 4 [[.ptr (n+13) 0,.ptr r 0,.ptr d 0,.ptr y 0]] false):=by rw[eA,<-hb1]; exact Y6
  obtain⟨z4,zl,g4⟩:∃ z4:List C,z4.length=16/\hA.get (b1+1)=some (.row 16 [z4] false):=⟨_,rfl,by rw[eA,<-hb1]; exact Y6⟩
  have g6:hA.get (b1+2)=some (.row 16 [Z8n] false):=by rw[eA,<-hb1]; exact Y6
  clear eA
  refine (Z4t Hh (n:=n) (r:=r) (d:=d) (y:=y) (N:=N) (b0:=b1) (pw:=b1) (p4:=b1+1) (p6:=b1+2) m0 N1 ⟨oM,oM,oM,oM⟩ ⟨oM,oM,oM⟩ zl N 0 q V Z8n (fun _=>0) _ hA oM (M.keep oM fun m hm=>kA m oM) al Z5f (Z0p V) gw g4 g6 ⟨oM,oM,oM⟩ oM ?_ ?_ ?_ ?_ ?_).mono ?_
  ·exact Zf
  ·rw[<-hb1]; exact Zf
  ·rw[<-hb1]; exact Zf
  ·rw[<-hb1]; exact Zf
  ·exact Zf
  rintro x1 d1 u1 h1 ⟨rfl,rfl,⟨t4,t6⟩,⟨q',V',x',P',M1,al1,X1,R1,c6,sep⟩,c4,n1,k1⟩
  have xl:=X1.xl
  have Jf:=Nt @t4 @t6 @c4 @c6 @zl @xl
  iterate 3 (first|apply Zu|apply Yc|refine Zr Hh Za Z0 ?_)
  refine⟨_,_,Z0,x',rfl,⟨q',V',P',M1.Z5r ?_ fun m hm=>Zd oM,al1,X1,R1⟩,?_,fun m hm ho=>?_⟩
  ·simp only[H.Zb]<;>omega
  ·simp only[H.Zb]<;>omega
  ·rw[Zd oM,k1 m oM ho]; exact kA m hm
 exact⟨x,h',cc,qq⟩
end
end Go.Proofs.YteiljiijagmonaaGreatDoor
