/- mapping.Cut: the loop over a row's pointers. -/
import Derived.Test.YteiljiijagmonaaGreatDoorCki
set_option maxRecDepth 100000
set_option maxHeartbeats 4000000
set_option linter.unusedSimpArgs false
set_option linter.unusedVariables false
set_option linter.unusedSectionVars false
namespace Go.Proofs.YteiljiijagmonaaGreatDoor
open Go.Ev
noncomputable def q9 (p:Lq):Code:=piece p (Ug Tryz.f9)
theorem Zpz:q9 [1,1,1,1,1,1,1,1]=.seq (q9 [1,1,1,1,1,1,1,1,0]) (q9 [1,1,1,1,1,1,1,1,1]):=kR
theorem Zm4:q9 [1,1,1,1,1,1,1,1,1]=.ret:=kR
theorem rs9:Tryz.f9.results.toList=[.cell 8 37,.tmp 9,.tmp 10,.tmp 11]:=rfl
theorem rs30:Tryz.f30.results.toList=[.tmp 2]:=rfl
attribute [go_sem] rs9 rs30
def spP (p:Nat):Nat:=if p<8 then 1 else if p=8 then 64 else if p=9 then 4096 else 262144
def jeP (fr:Nat):Nat:=if fr<=8 then fr else if fr<72 then 8 else 9
theorem Zrq {fr:Nat} (f4:fr<110):Kpt fr (jeP fr)=inc fr:=by
 unfold jeP
 split
 ·unfold Kpt inc
  repeat' split
  all_goals omega
 ·split
  ·show (if fr<=8 then 8 else fr+1)=inc fr
   unfold inc
   repeat' split
   all_goals omega
  ·show (if fr<=72 then 73 else fr+3)=inc fr
   unfold inc
   repeat' split
   all_goals omega
theorem Zo7 {fr p:Nat} (f4:fr<110):Kpt fr p<=Kpt fr (p+1):=by
 unfold Kpt
 by_cases a:p+1<8
 ·rw[if_pos a,if_pos oM]; omega
 ·by_cases b:p=7
  ·subst b
   show 7<=if fr<=8 then 8 else fr+1
   split<;>omega
  ·by_cases c:p=8
   ·subst c
    show (if fr<=8 then 8 else fr+1)<=if fr<=72 then 73 else fr+3
    repeat' split
    all_goals omega
   ·rw[if_neg (by omega:¬ p<8),if_neg c,if_neg (by omega:¬ p+1<8),if_neg (by omega:¬ p+1=8),if_neg (by omega:¬ p+1=9)]
    split
    ·split<;>omega
    ·exact Nat.le_refl _
theorem Z7d {fr:Nat} (f4:fr<110):∀ p,jeP fr<=p->p<12->inc fr<=Kpt fr p:=by
 intro p h hp
 rw[<-Zrq f4]
 induction p with
 | zero=>rw[Nat.le_zero.1 h]; exact Nat.le_refl _
 | succ p ih =>
  rcases Nat.lt_or_ge p (jeP fr) with w|w
  ·rw[show jeP fr=p+1 by omega]; exact Nat.le_refl _
  ·exact Nat.le_trans (ih w oM) (Zo7 f4)
theorem Z48 {fr p:Nat} (f4:fr<110) (hp:p<11):fiP p+spP p<=fr ↔ p<jeP fr:=by
 unfold fiP spP jeP
 by_cases a:p<8
 ·rw[if_pos a,if_pos a]
  split
  ·omega
  ·split<;>omega
 ·rw[if_neg a,if_neg a]
  by_cases b:p=8
  ·rw[if_pos b,if_pos b]
   split
   ·omega
   ·split<;>omega
  ·rw[if_neg b,if_neg b]
   by_cases c:p=9
   ·rw[if_pos c,if_pos c]
    split
    ·omega
    ·split<;>omega
   ·rw[if_neg c,if_neg c]
    split
    ·omega
    ·split<;>omega
section
variable (Hh:Hearts K Tryz.prog)
include Hh
theorem Ya8 {p:Nat} (hp:p<11) (h:Hq):Zi 31 [.c (.int .i64 (p:Int))] h (.w (.c (.int .i64 (lvP p:Nat)))) h/\Zi 32 [.c (.int .i64 (p:Int))] h (.w (.c (.int .i64 (fiP p:Nat)))) h/\Zi 33 [.c (.int .i64 (lvP p:Nat))] h (.w (.c (.int .i64 (spP p:Nat)))) h:=by
 have:p=0\/p=1\/p=2\/p=3\/p=4\/p=5\/p=6\/p=7\/p=8\/p=9\/p=10:=oM
 rcases this with rfl|rfl|rfl|rfl|rfl|rfl|rfl|rfl|rfl|rfl|rfl
 all_goals exact⟨Zy.closed fits Hh Q9 gl (n:=2000) kR rfl rfl h,Zy.closed fits Hh Q9 gl (n:=4000) kR rfl rfl h,Zy.closed fits Hh Q9 gl (n:=2000) kR rfl rfl h⟩
theorem Z3c (pc:Nat) (h:Hq):∃ h',Zi 30 [.c (.ptr pc 0)] h (.w (.c (.fn 77 [] [some (h.next+2,0),some (h.next,0)]))) h'/\h'.next=h.next+3/\(∀ m,m<h.next->h'.get m=h.get m)/\h'.get h.next=some (.row 1 [[.ptr pc 0]] false)/\h'.get (h.next+1)=some (.row 1 [[.fn 77 [] [some (h.next+2,0),some (h.next,0)]]] false)/\h'.get (h.next+2)=some (.row 1 [[.fn 72 [] [some (h.next,0),some (h.next+1,0)]]] false):=by
 refine Fz ?_
 refine Y0 Hh Tryz.f30 ?_
 iterate 11 (first|apply Zu|apply Yc|(apply Goes.ops2 fits Hh Za; · simp (maxSteps:=9^6) +decide (disch:=first|exact dZ|fail) only [go_sem,Zk,Zh,simprocAttr,Yy,Bh,Gm,ptrs,read1,Z5]<;>rfl))
 refine⟨_,_,Zf,rfl,?_,fun m hm=>?_,?_,?_,?_⟩
 ·simp only[H.Zb,H.Zc]
 ·exact Jg
 ·exact Zf
 ·exact Zf
 ·exact Zf
end
section
variable (Hh:Hearts K Tryz.prog)
include Hh
variable {n q sh pc pb pk pl fr mo k0 nn0 py:Nat} {md:Int} {h:Hq}
theorem Z5t {ts:Zw} {j:Nat} {x0:C} {mo' nn' fr':Int} {fu:Bool} (hf:j=0\/fu=true) (hc:h.get pc=some (.row 5 [[x0,.int .i64 fr',.int .i64 mo',.int .i64 nn',.bool fu]] false)) (t13:Ze ts 13=.w (.c (.ptr pc 0))) (t8:Ze ts 8=.w (.c (.ptr py 0))) (t15:Ze ts 15=.w (.c (.int .i64 ((j:Int) - 1)))):Z7 97 none (q9 [1,1,1,1,1,1,1,0,1,2]) [] ts h fun x ds ts' h'=>x=.exit 0/\ds=[]/\Ze ts' 8=.w (.c (.ptr py 0))/\Ze ts' 13=.w (.c (.ptr pc 0))/\h'=h:=by
 by_cases j0:j=0
 ·have d0:decide ((j:Int) - 1 >= 0)=false:=decide_eq_false oM
  have Jf:=Um @t13 @t15 @d0 @hc
  iterate 6 (first|apply Zu|apply Gr|apply J8|refine Goes.Zl Z6 ?_|refine Zr Hh Za Z6 ?_)
  refine⟨rfl,rfl,?_,?_,rfl⟩
  ·have Jf:=@t8; exact Zn
  ·have Jf:=@t13; exact Zn
 ·obtain rfl:=hf.resolve_left j0
  have d0:decide (0<=(j:Int) - 1)=true:=decide_eq_true oM
  have Jf:=Um @t13 @t15 @d0 @hc
  iterate 6 (first|apply Zu|apply Gr|apply J8|refine Goes.Zl Z6 ?_|refine Zr Hh Za Z6 ?_)
  refine⟨rfl,rfl,?_,?_,rfl⟩
  ·have Jf:=@t8; exact Zn
  ·have Jf:=@t13; exact Zn
theorem Z7k (f4:fr<110) (bp:q+9<=py/\py≠pc/\py≠pb/\py≠pk/\py≠pl):∀ (j k nn:Nat) (V:Nat->Lq) (x:List C) (ts:Zw) (h:Hq),j<=11->jeP fr<=j->CS n q md sh pc pb pk pl fr mo k nn false V h->RK fr k V->InoP x (Ec k)->Acc mo (Kpt fr j) k0 nn0 k nn false->k<=Kpt fr j->py<h.next->h.get py=some (.row 16 [x] false) ->
  Ze ts 2=.w (.c (.int .i64 (fr:Int)))->Ze ts 8=.w (.c (.ptr py 0))->Ze ts 13=.w (.c (.ptr pc 0))->Ze ts 14=.w (.c (.fn 77 [] [some (pl,0),some (pb,0)]))->Ze ts 15=.w (.c (.int .i64 ((j:Int) - 1))) ->
  Z7 97 none (q9 [1,1,1,1,1,1,1,0,1,2]) [] ts h fun x' ds ts' h'=>x'=.exit 0/\ds=[]/\Ze ts' 8=.w (.c (.ptr py 0))/\Ze ts' 13=.w (.c (.ptr pc 0))/\∃ k2 nn2 fu2 V2 x2,Acc mo (inc fr) k0 nn0 k2 nn2 fu2/\CS n q md sh pc pb pk pl fr mo k2 nn2 fu2 V2 h'/\RK fr k2 V2/\InoP x2 (Ec k2)/\h'.get py=some (.row 16 [x2] false)/\h.next<=h'.next/\∀ m,m<h.next->Ez n q m->m≠pc->m≠py->h'.get m=h.get m:=by
 intro j
 induction j with
 | zero =>
  intro k nn V x ts h j11 jj C R X ac kk lp hp t2 t8 t13 t14 t15
  refine (Z5t Hh (.inl rfl) C.c0 t13 t8 t15).mono ?_
  rintro _ _ ts' _ ⟨rfl,rfl,w8,w13,rfl⟩
  refine⟨rfl,rfl,w8,w13,k,nn,false,V,x,?_,C,R,X,hp,Nat.le_refl _,fun _ _ _ _ _=>rfl⟩
  rw[<-Zrq f4,show jeP fr=0 by omega]
  exact ac
 | succ p ih =>
  intro k nn V x ts h j11 jj C R X ac kk lp hp t2 t8 t13 t14 t15
  have et:((p+1:Nat):Int) - 1=(p:Int):=oM
  rw[et] at t15
  have d0:decide (0<=(p:Int))=true:=decide_eq_true oM
  have vi:=Z48 (fr:=fr) (p:=p) f4 oM
  have pv:=fun h=>Ya8 Hh (p:=p) oM h
  have hc:=C.c0
  have xl:=X.xl
  by_cases vs:fiP p+spP p<=fr
  ·have e:jeP fr=p+1:=by have:=vi.1 vs; omega
   obtain⟨lv,hlv⟩:=xzE (lvP p)
   obtain⟨fi,hfi⟩:=xzE (fiP p)
   obtain⟨sp,hsp⟩:=xzE (spP p)
   simp only[hlv,hfi,hsp] at pv vs
   have cL:=fun h=>(pv h).1
   have cF:=fun h=>(pv h).2.1
   have cS:=fun h=>(pv h).2.2
   have d1:decide ((fi:Int)+(sp:Int)<=(fr:Int))=true:=decide_eq_true oM
   have fb:fi<10000/\sp<1000000:=oM
   have Jf:=Lg @t2 @t8 @t13 @t14 @t15 @d0 @d1 @hc
   iterate 9 (first|apply Zu|apply Ye|apply Zmg|apply J8|refine Goes.Zl Z6 ?_|refine Zr Hh Za Z6 ?_)
   iterate 3 (first|apply Zu|refine Zr Hh (Jj (Jj Za cL) cF) Z6 ?_)
   iterate 3 (first|apply Gr|refine Goes.Zl Z6 ?_|refine Zr Hh (Jj Za cS) Z6 ?_)
   refine⟨rfl,rfl,?_,?_,k,nn,false,V,x,?_,C,R,X,hp,Nat.le_refl _,fun _ _ _ _ _=>rfl⟩
   ·have Jf:=@t8; exact Zn
   ·have Jf:=@t13; exact Zn
   ·rw[<-Zrq f4,e]; exact ac
  ·have pj:jeP fr<=p:=Nat.le_of_not_lt fun w=>vs (vi.2 w)
   have v1:p<8->fr<=p:=fun w=>by
    unfold fiP spP at vs
    rw[if_pos w,if_pos w] at vs
    omega
   have v2:p=8->fr<72:=fun w=>by
    unfold fiP spP at vs
    rw[if_neg oM,if_pos w,if_neg oM,if_pos w] at vs
    omega
   obtain⟨k2,nn2,fu2,V2,h2,c16,C2,kc,R2,ac2,oth,kle⟩:=Z79 Hh (p:=p) oM f4 v1 v2 C R kk
   have rx:=X.rd (i:=p) oM
   have pb1:=X.pb p oM
   have pb2:Ec k2 p<4294967296:=by
    have:=C2.kl
    unfold Ec
    repeat' split
    all_goals first|omega|(have:=Zae (k:=p) oM; omega)|(have:=Zae (k:=8) oM; omega)|(have:=Zae (k:=73) oM; omega)
   have X2:InoP (x.set (4+p) (.int .u32 (Ec k2 p:Nat))) (Ec k2):=by
    refine⟨by rw[List.length_set]; exact xl,fun i hi=>?_,fun i hi=>?_⟩
    ·by_cases e:i=p
     ·subst e
      rw[List.getElem?_set_self oM]
     ·rw[List.getElem?_set_ne oM,oth i e]
      exact X.pt i hi
    ·by_cases e:i=p
     ·rw[e]; exact pb2
     ·rw[oth i e]; exact X.pb i hi
   have o:Ez n q py:=⟨by have:=C.M.nx; omega,.inr bp.1⟩
   have hp2:=(kc.2 py lp o bp.2.1).trans hp
   have hc2:=C2.c0
   have nl:=kc.1
   have aj:=ac.then ac2 (Zo7 f4)
   have kj2:fu2=false->k2<=Kpt fr p:=fun w=>by have:=ac2.2.1 w; omega
   obtain⟨y,hy⟩:=xzE (Ec k p)
   obtain⟨y2,hy2⟩:=xzE (Ec k2 p)
   obtain⟨lv,hlv⟩:=xzE (lvP p)
   obtain⟨fi,hfi⟩:=xzE (fiP p)
   obtain⟨sp,hsp⟩:=xzE (spP p)
   have fb:fi<10000/\sp<1000000:=by
    rw[<-hfi,<-hsp]
    unfold fiP spP
    constructor
    ·repeat' split
     all_goals omega
    ·repeat' split
     all_goals omega
   simp only[hlv,hfi,hsp] at pv vs c16
   rw[hy] at rx pb1 c16
   rw[hy2] at pb2 X2 c16
   have cL:=fun h=>(pv h).1
   have cF:=fun h=>(pv h).2.1
   have cS:=fun h=>(pv h).2.2
   have d1:decide ((fi:Int)+(sp:Int)<=(fr:Int))=false:=decide_eq_false oM
   have w8:Z5 16 [x] (4+p) [.int .u32 (y2:Int)]=some [x.set (4+p) (.int .u32 (y2:Int))]:=by
    have h1:(4+p) / 16=0:=oM
    have h2:(4+p) % 16=4+p:=oM
    simp only[Z5,h1,h2,List.getElem?_cons_zero]
    rw[Zci oM,cond_true]
    rfl
   have wU:Jb .u32 (y2:Int)=.int .u32 (y2:Int):=Zdq oM
   obtain⟨x1,hx1⟩:=xzE (x.set (4+p) (.int .u32 (y2:Int)))
   rw[hx1] at w8 X2
   have x1l:=X2.xl
   have CK:CS n q md sh pc pb pk pl fr mo k2 nn2 fu2 V2 (h2.put py (.row 16 [x1] false)):=C2.keep (by rw[H.Zb]; omega) fun m hm=>Zd (by rcases hm with e|e|e|e|e<;>(first|omega|(rw[e]; exact Ne.symm (by first|exact bp.2.1|exact bp.2.2.1|exact bp.2.2.2.1|exact bp.2.2.2.2))))
   have z0:((0:Int) != 0)=false:=rfl
   have rc:read1 5 [[.ptr (n+13) 0,.int .i64 (fr:Int),.int .i64 (mo:Int),.int .i64 (nn:Int),.bool false]] 4=some (.bool false):=rfl
   have Jf:=Jl @t2 (Yw @t8 @t13 @t14 @t15 @d0 @d1 @hc @rc (Yw @hp @rx @pb1 @pb2 @hp2 @w8 @wU @z0 @xl))
   iterate 9 (first|apply Zu|apply Ye|apply Zmg|apply J8|refine Goes.Zl Vw ?_|refine Zr Hh Za Vw ?_)
   iterate 3 (first|apply Zu|refine Zr Hh (Jj (Jj Za cL) cF) Vw ?_)
   iterate 4 (first|apply Zu|apply Ye|refine Goes.Zl Vw ?_|refine Zr Hh (Jj Za cS) Vw ?_)
   iterate 8 (first|apply Zu|apply Ye|refine Goes.Zl Vw ?_|refine Zr Hh (Zp Za c16) Vw ?_)
   show Z7 97 none (q9 [1,1,1,1,1,1,1,0,1,2]) _ _ _ _
   refine Zfl fun tA eT=>?_
   have u2:Ze tA 2=.w (.c (.int .i64 (fr:Int))):=by rw[eT]; simp (maxSteps:=9^6) +decide (disch:=first|exact dZ|fail) only [go_sem,Zk,Zh,simprocAttr,t2]
   have u8:Ze tA 8=.w (.c (.ptr py 0)):=by rw[eT]; simp (maxSteps:=9^6) +decide (disch:=first|exact dZ|fail) only [go_sem,Zk,Zh,simprocAttr,t8]
   have u13:Ze tA 13=.w (.c (.ptr pc 0)):=by rw[eT]; simp (maxSteps:=9^6) +decide (disch:=first|exact dZ|fail) only [go_sem,Zk,Zh,simprocAttr,t13]
   have u14:Ze tA 14=.w (.c (.fn 77 [] [some (pl,0),some (pb,0)])):=by rw[eT]; simp (maxSteps:=9^6) +decide (disch:=first|exact dZ|fail) only [go_sem,Zk,Zh,simprocAttr,t14]
   have u15:Ze tA 15=.w (.c (.int .i64 ((p:Int) - 1))):=by rw[eT]; exact Zf
   clear eT
   have fin:∀ m,m<h.next->Ez n q m->m≠pc->m≠py->(h2.put py (.row 16 [x1] false)).get m=h.get m:=fun m hm ho m1 m2=>(Zd m2).trans (kc.2 m hm ho m1)
   cases fu2
   ·refine (ih k2 nn2 V2 x1 tA _ oM pj CK R2 X2 aj (kj2 rfl) (by rw[H.Zb]; omega) (Zx ..) u2 u8 u13 u14 u15).mono ?_
    rintro _ _ ts' h' ⟨rfl,rfl,w8,w13,k3,nn3,fu3,V3,x3,a3,C3,R3,X3,hp3,n3,k3'⟩
    rw[H.Zb] at n3
    exact⟨rfl,rfl,w8,w13,k3,nn3,fu3,V3,x3,a3,C3,R3,X3,hp3,oM,fun m hm ho m1 m2=>(k3' m (by rw[H.Zb]; omega) ho m1 m2).trans (fin m hm ho m1 m2)⟩
   ·refine (Z5t Hh (.inr rfl) CK.c0 u13 u8 u15).mono ?_
    rintro _ _ ts' _ ⟨rfl,rfl,w8,w13,rfl⟩
    exact⟨rfl,rfl,w8,w13,k2,nn2,true,V2,x1,aj.low (Z7d f4 p pj oM),CK,R2,X2,Zx ..,by rw[H.Zb]; omega,fin⟩
end
theorem Z69 (fr:Nat):jeP fr<=9:=by
 unfold jeP
 split
 ·omega
 ·split<;>omega
section
variable (Hh:Hearts K Tryz.prog)
include Hh
theorem Z9s {pc py:Nat} {x0:C} {fr mo nn:Int} {fu:Bool} {x2:List C} {ts:Zw} {h:Hq} (t8:Ze ts 8=.w (.c (.ptr py 0))) (t13:Ze ts 13=.w (.c (.ptr pc 0))) (hc:h.get pc=some (.row 5 [[x0,.int .i64 fr,.int .i64 mo,.int .i64 nn,.bool fu]] false)) (hp:h.get py=some (.row 16 [x2] false)) (xl:x2.length=16) (ne:py≠pc) :
  Z7 97 none (q9 [1,1,1,1,1,1,1,1,0]) [] ts h fun x' ds' ts' h'=>x'=.normal/\ds'=[]/\Ze ts' 8=.w (.c (.ptr py 0))/\Ze ts' 9=.w (.c (.int .i64 nn))/\Ze ts' 10=.w (.c (.bool (!fu)))/\Ze ts' 11=.w (.c (.int .i64 0))/\h'=h.put py (.row 16 [x2] false):=by
 have r3:read1 5 [[x0,.int .i64 fr,.int .i64 mo,.int .i64 nn,.bool fu]] 3=some (.int .i64 nn):=rfl
 have r4:read1 5 [[x0,.int .i64 fr,.int .i64 mo,.int .i64 nn,.bool fu]] 4=some (.bool fu):=rfl
 have Jf:=El @t8 @t13 @hc @hp @xl @r3 @r4
 refine G6 Hh Za Zye ?_
 refine⟨rfl,rfl,?_,?_,?_,?_,rfl⟩
 ·have Jf:=@t8; exact Zn
 ·exact Zf
 ·exact Zf
 ·exact Zf
variable {n q sh fr mo k:Nat} {md:Int} {V:Nat->Lq} {h:Hq}
theorem Z7h (m0:md≠0) (f4:fr<110) (mo9:mo<=9) (M:HE n q 4 60 8 40 ⟨16,(mo:Int) - ((0:Nat):Int),true,chM,FM,RM,sh⟩ md chM [] V h) (al:AlG 4 60 8 40 (iw0 8) V k) {x:List C} (X:InoP x (Ec k)) (R:RK fr k V) (kl:k<=103) :
  ∃ x2 k2 nn2 fu2 V2 h',Zi 9 [.c (.ptr (n+13) 0),.g x,.c (.int .i64 (fr:Int)),.c (.int .i64 (mo:Int))] h (.tup [.g x2,.c (.int .i64 (nn2:Nat)),.c (.bool (!fu2)),.c (.int .i64 0)]) h'/\Acc mo (inc fr) k 0 k2 nn2 fu2/\HE n q 4 60 8 40 ⟨16,(mo:Int) - (nn2:Int),true,chM,FM,RM,sh⟩ md chM [] V2 h'/\AlG 4 60 8 40 (iw0 8) V2 k2/\RK fr k2 V2/\InoP x2 (Ec k2)/\nn2<=mo/\Kf n q h h':=by
 obtain⟨nq,nx,n0⟩:=M.nx
 obtain⟨st,⟨kn,hs⟩,⟨dk,gl⟩,ht⟩:=M.cells
 unfold gdL gdD at gl
 have ht:h.get (n+20)=some (.row 13 [txL ⟨n+15,n+16,n+17,n+19,1,true,16,(mo:Int) - ((0:Nat):Int),.map (q+2),.map (q+6+sh),.map (q+7+sh),.map (q+8+sh),.ptr (q+5) 0⟩] false):=ht
 have f:=Bl
 have dm:(md != 0)=true:=Zhp m0
 have xl:=X.xl
 have d1:decide ((fr:Int)<0)=false:=decide_eq_false oM
 have d2:decide ((mo:Int)<0)=false:=decide_eq_false oM
 obtain⟨v,h',cc,x2,k2,nn2,fu2,V2,rfl,res⟩:∃ v h',Zi 9 [.c (.ptr (n+13) 0),.g x,.c (.int .i64 (fr:Int)),.c (.int .i64 (mo:Int))] h v h'/\∃ x2 k2 nn2 fu2 V2,v=.tup [.g x2,.c (.int .i64 (nn2:Nat)),.c (.bool (!fu2)),.c (.int .i64 0)]/\Acc mo (inc fr) k 0 k2 nn2 fu2/\HE n q 4 60 8 40 ⟨16,(mo:Int) - (nn2:Int),true,chM,FM,RM,sh⟩ md chM [] V2 h'/\AlG 4 60 8 40 (iw0 8) V2 k2/\RK fr k2 V2/\InoP x2 (Ec k2)/\nn2<=mo/\Kf n q h h':=by
  refine Y0 Hh Tryz.f9 ?_
  have Jf:=Lg @f @dm @hs @gl @ht @d1 @d2 @xl
  iterate 22 (first|apply Zu|apply Ye|refine Goes.Zl Ji ?_|refine Zr Hh (EY (EY Za (Vk Hh)) (Zeu Hh)) Ji ?_)
  refine Ow fun hA eA=>?_
  have nA:hA.next=h.next+3:=nxQ eA
  have kA:∀ m,m<h.next->hA.get m=h.get m:=kQ eA
  have a5:hA.get h.next=some (.row 16 [x] false):=by rw[eA]; exact Z0
  obtain⟨y,yl,a8⟩:∃ y:List C,y.length=16/\hA.get (h.next+1)=some (.row 16 [y] false):=⟨_,rfl,by rw[eA]; exact Y6⟩
  have ac:hA.get (h.next+2)=some (.row 5 [[.ptr (n+13) 0,.int .i64 (fr:Int),.int .i64 (mo:Int),.int .i64 ((0:Nat):Int),.bool false]] false):=by rw[eA]; exact Zf
  clear eA
  obtain⟨hB,c9,nB,kB,bb,bk,bl⟩:=Z3c Hh (h.next+2) hA
  have b5:=(kB h.next oM).trans a5
  have b8:=(kB (h.next+1) oM).trans a8
  have Jf:=Um Jf @b5 @b8 @yl
  iterate 7 (first|apply Zu|apply Jc|refine Zr Hh (Zp Za c9) Ji ?_)
  refine Ow fun hC eC=>?_
  have nC:hC.next=h.next+6:=by rw[eC]; simp only[H.Zb,nB,nA]
  have kC':∀ m,m≠h.next+1->hC.get m=hB.get m:=fun m hm=>by rw[eC]; exact Zd hm
  have c8:hC.get (h.next+1)=some (.row 16 [x] false):=by rw[eC]; exact Zx ..
  clear eC
  have kC:∀ m,m<h.next->hC.get m=h.get m:=fun m hm=>(kC' m oM).trans ((kB m oM).trans (kA m hm))
  have nA3:hA.next=h.next+3:=nA
  rw[nA3] at bb bk bl
  have MC:=M.keep (h2:=hC) oM (fun m hm=>kC m oM)
  have CC:CS n q md sh (h.next+2) (h.next+3) (h.next+4) (h.next+5) fr mo k 0 false V hC:=⟨MC,al,(kC' _ oM).trans ((kB _ oM).trans ac),(kC' _ oM).trans bb,(kC' _ oM).trans bk,(kC' _ oM).trans bl,⟨oM,oM,oM,oM⟩,⟨oM,oM,oM,oM⟩,⟨oM,oM,oM⟩,⟨oM,mo9⟩,kl⟩
  refine Zfl fun tA eT=>?_
  have t2:Ze tA 2=.w (.c (.int .i64 (fr:Int))):=by rw[eT]; simp (maxSteps:=9^6) +decide (disch:=first|exact dZ|fail) only [go_sem,Zk,Zh,simprocAttr]
  have t8:Ze tA 8=.w (.c (.ptr (h.next+1) 0)):=by rw[eT]; simp (maxSteps:=9^6) +decide (disch:=first|exact dZ|fail) only [go_sem,Zk,Zh,simprocAttr]
  have t13:Ze tA 13=.w (.c (.ptr (h.next+2) 0)):=by rw[eT]; exact Zf
  have t14:Ze tA 14=.w (.c (.fn 77 [] [some (h.next+5,0),some (h.next+3,0)])):=by rw[eT,show h.next+5=hA.next+2 by omega,show h.next+3=hA.next by omega]; simp (maxSteps:=9^6) +decide (disch:=first|exact dZ|fail) only [go_sem,Zk,Zh,simprocAttr]
  have t15:Ze tA 15=.w (.c (.int .i64 (((11:Nat):Int) - 1))):=by rw[eT]; exact Zf
  clear eT
  have a0:Acc mo (Kpt fr 11) k 0 k 0 false:=⟨rfl,(fun _=>by show k=min k 200; omega),fun w=>by cases w⟩
  refine (Z7k Hh (k0:=k) (nn0:=0) (py:=h.next+1) f4 ⟨oM,oM,oM,oM,oM⟩ 11 k 0 V x tA hC (Nat.le_refl _) (Nat.le_trans (Z69 fr) oM) CC R X a0 (by show k<=200; omega) oM c8 t2 t8 t13 t14 t15).mono ?_
  rintro _ _ ts' h2 ⟨rfl,rfl,w8,w13,k2,nn2,fu2,V2,x2,a2,C2,R2,X2,hp2,n2,k2'⟩
  show Z7 97 none (q9 [1,1,1,1,1,1,1,1]) _ _ _ _
  rw[Zpz]
  refine Zu ((Z9s Hh w8 w13 C2.c0 hp2 X2.xl oM).mono ?_)
  rintro _ _ ts3 _ ⟨rfl,rfl,e8,e9,e10,e11,rfl⟩
  show Z7 97 none (q9 [1,1,1,1,1,1,1,1,1]) _ _ _ _
  rw[Zm4]
  have x2l:=X2.xl
  have hp3:(h2.put (h.next+1) (.row 16 [x2] false)).get (h.next+1)=some (.row 16 [x2] false):=Zx ..
  have kf:∀ m,m<h.next->Ez n q m->(h2.put (h.next+1) (.row 16 [x2] false)).get m=h.get m:=fun m hm ho=>(Zd oM).trans ((k2' m oM ho oM oM).trans (kC m hm))
  have kq:∀ m,m<q+9->(h2.put (h.next+1) (.row 16 [x2] false)).get m=h2.get m:=fun m hm=>Zd oM
  have kn2:(h2.put (h.next+1) (.row 16 [x2] false)).next=h2.next:=rfl
  obtain⟨hF,hhF⟩:=xzE (h2.put (h.next+1) (.row 16 [x2] false))
  rw[hhF] at hp3 kf kq kn2 ⊢
  refine Yc ⟨_,_,(by have Jf:=Nt @e8 @e9 @e10 @e11 @hp3 @x2l; exact Z0),x2,k2,nn2,fu2,V2,rfl,a2,C2.M.keep oM kq,C2.al,R2,X2,C2.le.1,oM,kf⟩
 exact⟨x2,k2,nn2,fu2,V2,h',cc,res⟩
end
end Go.Proofs.YteiljiijagmonaaGreatDoor
