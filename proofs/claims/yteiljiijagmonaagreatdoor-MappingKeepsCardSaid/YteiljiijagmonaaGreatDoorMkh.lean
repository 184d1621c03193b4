/- A row's file, cut: between the cuts; the row told by its blocks. -/
import Derived.Test.YteiljiijagmonaaGreatDoorCkl
import Derived.Test.YteiljiijagmonaaGreatDoorMwd
import Derived.Test.YteiljiijagmonaaGreatDoorHcs
set_option maxRecDepth 100000
set_option maxHeartbeats 4000000
set_option linter.unusedSimpArgs false
set_option linter.unusedVariables false
set_option linter.unusedSectionVars false
namespace Go.Proofs.YteiljiijagmonaaGreatDoor
open Go.Ev
section
variable {n q:Nat} {md:Int} {V:Nat->Lq} {h:Hq}
theorem HE.Z8e {a b c e:Nat} {ch F R S T:Lq} (M:HE n q a b c e (Cr.cl ch) md S T V h):HE n q a b c e (Cr.clR ch F R) md S T V h:=by
 obtain⟨d,d1,d2,kn,ld,lt,lc,lm,L,f1,f2,f3,f4,f5,f6,f7,f8,f9,f10,f11,M⟩:=M
 obtain⟨g1,g2,g3,g4,l1,l2,g5,g6,g7,g8,g9,g10,g11,g12,g13,g14,g15,g16,g17,g18,g19,g20,g21,g22⟩:=M
 obtain⟨y1,y2,y3,y4⟩:=g11
 obtain⟨z1,z2,z3⟩:=g12
 obtain⟨w1,w2,w3,w4⟩:=g15
 exact⟨d,d1,d2,kn,ld,lt,lc,lm,L,f1,f2,f3,f4,f5,f6,f7,f8,f9,f10,f11,⟨g1,g2,g3,g4,l1,l2,g5,g6,g7,g8,g9,g10,⟨y1,y2,y3,fun z hz=>by obtain⟨k,hk,_⟩:=y4 z hz; cases hk⟩,⟨z1,z2,fun z hz=>by obtain⟨k,hk,_⟩:=z3 z hz; cases hk⟩,g13,g14,⟨w1,w2,w3,fun z hz=>by obtain⟨k,hk,_⟩:=w4 z hz; cases hk⟩,g16,(fun o=>by cases o),g18,g19,(fun o=>by cases o),g21,g22⟩⟩
theorem HE.Zzo {a b c e:Nat} {ch F R S T:Lq} {h2:Hq} (M:HE n q a b c e (Cr.clR ch F R) md S T V h) (hx:h.next<=h2.next) (k:∀ m,m<n+23\/q+7<=m/\m<q+9->h2.get m=h.get m):HE n q a b c e (Cr.clR ch F R) md S T V h2:=by
 obtain⟨d,d1,d2,kn,ld,lt,lc,lm,L,f1,f2,f3,f4,f5,f6,f7,f8,f9,f10,f11,M⟩:=M
 obtain⟨g1,g2,g3,g4,l1,l2,g5,g6,g7,g8,g9,g10,g11,g12,g13,g14,g15,g16,g17,g18,g19,g20,g21,g22⟩:=M
 refine⟨d,d1,d2,kn,ld,lt,lc,lm,L,f1,f2,f3,f4,f5,f6,f7,f8,f9,f10,f11,⟨(k _ oM).trans g1,g2,g3,oM,l1,l2,(k _ oM).trans g5,(k _ oM).trans g6,(k _ oM).trans g7,(k _ oM).trans g8,(k _ oM).trans g9,(k _ oM).trans g10,(by rw[show dtN q (Cr.clR ch F R)+1=q+7+1 from rfl,k (q+7+1) oM]; exact g11),(by rw[k _ oM]; exact g12),(k _ oM).trans g13,(k _ oM).trans g14,(by rw[k _ oM]; exact g15),(k (q+7) oM).trans g16,g17,(k _ oM).trans g18,(k _ oM).trans g19,(fun o=>by cases o),(k _ oM).trans g21,(k _ oM).trans g22⟩⟩
end
theorem Zf0 {i j:Nat} (hj:j<8):j<inc i ↔ j<i:=by
 unfold inc
 repeat' split
 all_goals omega
theorem inc8 {i:Nat}:8<inc i ↔ 8<i:=by
 unfold inc
 repeat' split
 all_goals omega
theorem inc73 {i:Nat}:73<inc i ↔ 72<i:=by
 unfold inc
 repeat' split
 all_goals omega
theorem Zmk {i:Nat}:inc i≠9/\inc i≠74/\inc i≠75:=by
 unfold inc
 repeat' split
 all_goals omega
theorem Z3w (i j:Nat):min (inc i) (inc j)=inc (min i j):=by
 have mono:∀ {a b:Nat},a<=b->inc a<=inc b:=fun {a b} h=>by
  unfold inc
  repeat' split
  all_goals omega
 rcases Nat.le_total i j with h|h
 ·rw[Nat.min_eq_left h,Nat.min_eq_left (mono h)]
 ·rw[Nat.min_eq_right h,Nat.min_eq_right (mono h)]
theorem RowF.top {V:Nat->Lq} {P:Nat->Nat} {i:Nat} (R:RowF Yo V P i):∀ p,p<11->P p=Ec (inc i) p:=fun p hp=>by
 unfold Ec
 by_cases a:p<8
 ·rw[if_pos a,R.pd p a]
  by_cases b:p<i
  ·rw[if_pos b,if_pos ((Zf0 a).2 b)]
  ·rw[if_neg b,if_neg (fun w=>b ((Zf0 a).1 w))]
 ·rw[if_neg a]
  by_cases b:p=8
  ·rw[if_pos b,b,R.p8]
   by_cases x:8<i
   ·rw[if_pos x,if_pos (inc8.2 x)]
   ·rw[if_neg x,if_neg (fun w=>x (inc8.1 w))]
  ·rw[if_neg b]
   by_cases c:p=9
   ·rw[if_pos c,c,R.p9]
    by_cases x:72<i
    ·rw[if_pos x,if_pos (inc73.2 x)]
    ·rw[if_neg x,if_neg (fun w=>x (inc73.1 w))]
   ·rw[if_neg c,show p=10 by omega,R.p10]
theorem leaf8 {i w:Nat} (h:8<i) (hw:w<64):(if 8+w<i then Yo (9+w) else 0)=Fh 8 (inc i) w:=by
 unfold Fh inc
 rw[if_neg (by omega:¬ i<=8)]
 by_cases a:i<=72
 ·rw[if_pos a]
  by_cases b:8+w<i
  ·rw[if_pos b,if_pos oM]
  ·rw[if_neg b,if_neg oM]
 ·rw[if_neg a,if_pos oM,if_pos oM]
theorem leaf74 {i w:Nat} (h:72<i):(if 72+w<i then Yo (75+w) else 0)=Fh 74 (inc i) w:=by
 unfold Fh inc
 rw[if_neg (by omega:¬ i<=8),if_neg (by omega:¬ i<=72)]
 by_cases b:72+w<i
 ·rw[if_pos b,if_pos oM]
 ·rw[if_neg b,if_neg oM]
theorem dbl73 {i w:Nat} (h:72<i):(if w=0 then Yo 74 else 0)=Zbz (inc i) w:=by
 unfold Zbz inc
 rw[if_neg (by omega:¬ i<=8),if_neg (by omega:¬ i<=72)]
 by_cases b:w=0
 ·rw[if_pos b,if_pos ⟨b,oM⟩]
 ·rw[if_neg b,if_neg (fun x=>b x.1)]
theorem RowF.rk {V:Nat->Lq} {P:Nat->Nat} {i fr:Nat} (R:RowF Yo V P i):RK fr (inc i) V:=by
 refine⟨fun h w hw=>?_,fun h w hw=>?_,fun h w hw=>?_,fun _=>Zmk.1,fun _=>Zmk.2⟩
 ·rw[R.v8 (inc8.1 h) w hw,leaf8 (inc8.1 h) hw]
 ·rw[R.v9 (inc73.1 h) w hw,dbl73 (inc73.1 h)]
 ·have h':=inc73.1 (show 73<inc i by omega)
  rw[R.v10 h' w hw,leaf74 h']
theorem RK.Yba {V:Nat->Lq} {i fr:Nat} (R:RK fr (inc i) V):RowF Yo V (Ec (inc i)) i:=by
 refine⟨fun j hj=>?_,?_,?_,rfl,fun h w hw=>?_,fun h w hw=>?_,fun h w hw=>?_⟩
 ·unfold Ec
  rw[if_pos hj]
  by_cases b:j<i
  ·rw[if_pos b,if_pos ((Zf0 hj).2 b)]
  ·rw[if_neg b,if_neg (fun w=>b ((Zf0 hj).1 w))]
 ·show (if 8<inc i then Yo 8 else 0)=_
  by_cases x:8<i
  ·rw[if_pos x,if_pos (inc8.2 x)]
  ·rw[if_neg x,if_neg (fun w=>x (inc8.1 w))]
 ·show (if 73<inc i then Yo 73 else 0)=_
  by_cases x:72<i
  ·rw[if_pos x,if_pos (inc73.2 x)]
  ·rw[if_neg x,if_neg (fun w=>x (inc73.1 w))]
 ·rw[R.v8 (inc8.2 h) w hw,leaf8 h hw]
 ·rw[R.v9 (inc73.2 h) w hw,dbl73 h]
 ·rw[R.v10 (by have:=inc73.2 h; have:=(Zmk (i:=i)).2.1; omega) w hw,leaf74 h]
theorem InoP.Yaq {x:List C} {P P':Nat->Nat} (X:InoP x P) (e:∀ p,p<11->P p=P' p):InoP x P':=⟨X.xl,fun i hi=>by rw[<-e i hi]; exact X.pt i hi,fun i hi=>by rw[<-e i hi]; exact X.pb i hi⟩
def Zbh (j:Nat):Lq:=(List.range j).map fun i=>Yo (bI i)
theorem Zdm (j:Nat):(Zbh j).length=j:=by simp [Zbh]
theorem Z8c {j i:Nat} (h:i<j):(Zbh j)[i]? = some (Yo (bI i)):=by
 unfold Zbh
 rw[List.getElem?_map,List.getElem?_range h]
 rfl
theorem Z03 (j:Nat):Zbh (j+1)=Zbh j++[Yo (bI j)]:=by
 unfold Zbh
 rw[List.range_succ,List.map_append]
 rfl
noncomputable def q3 (p:Lq):Code:=piece p (Ug Tryz.f3)
theorem rs3:Tryz.f3.results.toList=[.tmp 8]:=rfl
attribute [go_sem] rs3
section
variable (Hh:Hearts K Tryz.prog)
include Hh
theorem Z49 {n q N fr p9 p13 b0:Nat} {r d y:Nat} {md:Int} {V:Nat->Lq} {P:Nat->Nat} {x:List C} (m0:md≠0) (N1:N<=100) (f4:fr<110) (X:InoP x P) (R:RowF Yo V P N) (n5:n+7<=p9/\n+7<=p13/\p9<b0/\p13<b0) (qb:q+9<=b0):∀ (k j:Nat) (c:C) (ts:Zw) (h:Hq),j+k=min N fr->HE n q 4 60 8 40 (Cr.cl chM) md [] [] V h->SlB b0 h c (Zbh j)->b0<=h.next->h.get p9=some (.row 4 [[.ptr (n+13) 0,.ptr r 0,.ptr d 0,.ptr y 0]] false)->h.get p13=some (.row 16 [x] false)->Ze ts 1=.w (.c (.int .i64 (N:Int)))->Ze ts 2=.w (.c (.int .i64 (fr:Int)))->Ze ts 9=.w (.c (.ptr p9 0))->Ze ts 13=.w (.c (.ptr p13 0))->Ze ts 15=.w (.c c)->Ze ts 16=.w (.c (.int .i64 (j:Int))) ->
  Z7 212 none (q3 [1,1,1,1,1,1,1,1,1,1,0,1,2]) [] ts h fun x' ds' ts' h'=>x'=.exit 0/\ds'=[]/\(∀ s,s<=14->Ze ts' s=Ze ts s)/\HE n q 4 60 8 40 (Cr.cl chM) md [] [] V h'/\h.next<=h'.next/\(∀ m,m<b0->m≠n+6->h'.get m=h.get m)/\∃ c',Ze ts' 15=.w (.c c')/\SlB b0 h' c' (Zbh (min N fr)):=by
 have xl:=X.xl
 intro k
 induction k with
 | zero =>
  intro j c ts h hj M sl bh g9 g13 t1 t2 t9 t13 t15 t16
  obtain rfl:j=min N fr:=oM
  by_cases w:min N fr<fr
  ·have d1:decide (((min N fr:Nat):Int)<(fr:Int))=true:=decide_eq_true oM
   have d2:decide (((min N fr:Nat):Int)<(N:Int))=false:=decide_eq_false oM
   obtain⟨L,hL⟩:=xzE (min N fr)
   rw[hL] at t16 d1 d2 sl ⊢
   have Jf:=Ej @t1 @t2 @t16 @d1 @d2
   iterate 6 (first|apply Zu|apply Gr|apply J8|refine Goes.Zl Zn ?_|refine Zr Hh Za Zn ?_)
   refine⟨rfl,rfl,fun s hs=>?_,M,Nat.le_refl _,fun _ _ _=>rfl,c,?_,sl⟩
   ·simp (decide:=true) only [Yh hs]
   ·have Jf:=@t15; exact Zn
  ·have d1:decide (((min N fr:Nat):Int)<(fr:Int))=false:=decide_eq_false oM
   obtain⟨L,hL⟩:=xzE (min N fr)
   rw[hL] at t16 d1 sl ⊢
   have Jf:=Um @t1 @t2 @t16 @d1
   iterate 6 (first|apply Zu|apply Gr|apply J8|refine Goes.Zl Zn ?_|refine Zr Hh Za Zn ?_)
   refine⟨rfl,rfl,fun s hs=>?_,M,Nat.le_refl _,fun _ _ _=>rfl,c,?_,sl⟩
   ·simp (decide:=true) only [Yh hs]
   ·have Jf:=@t15; exact Zn
 | succ k ih =>
  intro j c ts h hj M sl bh g9 g13 t1 t2 t9 t13 t15 t16
  have jN:j<N:=oM
  obtain⟨h1,cF,M1,k1⟩:=Zuq Hh Bl m0 M X (i:=j) oM (Z0r R oM)
  have nx:=M.nx
  rw[R.find (fun k hk=>by have:=(Gv hk).2.2; omega) N1 oM,if_pos jN] at cF
  have d1:decide ((j:Int)<(fr:Int))=true:=decide_eq_true oM
  have d2:decide ((j:Int)<(N:Int))=true:=decide_eq_true oM
  have n1:=k1.1
  have s9:=(k1.2 p9 oM oM).trans g9
  have s13:=(k1.2 p13 oM oM).trans g13
  have sl1:SlB b0 h1 c (Zbh j):=sl.keep n1 fun p h1 h2=>k1.2 p h2 oM
  have ws:=Z03 j
  obtain⟨B,hB⟩:=xzE (Yo (bI j))
  rw[hB] at cF ws
  obtain⟨c',hD,ap,sD,nD,kD⟩:=Z3s sl1 oM (by rw[Zdm]; omega) B
  rw[<-ws] at sD
  have sf:=Yaa sl1.1
  iterate 3 (first|apply Zu|apply J8)
  have Jf:=El @t1 @t2 @t9 @t13 @t15 @t16 (Yw @d1 @d2 @g9 @g13 @xl @Ve @Zyo @sf @ap)
  refine Goes.ops2 fits Hh Za (by
   iterate 8 (refine Yv Ub ?_)
   exact Yu) ?_
  iterate 5 (first|apply Zu|apply Ye|apply Jc|refine Goes.Zl Ub ?_)
  refine Goes.ops2 fits Hh (Zp Za cF) (by
   iterate 10 (refine Yv (by simp (maxSteps:=9^6) +decide (disch:=first|exact dZ|fail) only [go_sem,Zh,simprocAttr,Z4,t1,t2,t9,t13,t15,t16,d1,d2,g9,g13,xl,Ve,Zyo,sf,ap,Zt]<;>rfl) ?_)
   exact Yu) ?_
  iterate 2 (refine Zr Hh Za Ub ?_)
  show Z7 212 none (q3 [1,1,1,1,1,1,1,1,1,1,0,1,2]) _ _ _ _
  refine Zfl fun tA eT=>?_
  have u1:∀ s,s<=14->Ze tA s=Ze ts s:=fun s hs=>by rw[eT]; simp (decide:=true) only [Yh hs]
  have u15:Ze tA 15=.w (.c c'):=by rw[eT]; exact Zf
  have u16:Ze tA 16=.w (.c (.int .i64 ((j+1:Nat):Int))):=by rw[eT]; exact Zf
  clear eT
  refine (ih (j+1) c' tA hD oM (M1.keep nD fun m hm=>kD m oM) sD oM ((kD _ oM).trans s9) ((kD _ oM).trans s13) ((u1 1 dM).trans t1) ((u1 2 dM).trans t2) ((u1 9 dM).trans t9) ((u1 13 dM).trans t13) u15 u16).mono ?_
  rintro _ _ ts' h' ⟨rfl,rfl,v1,M2,n2,k2,r⟩
  exact⟨rfl,rfl,fun s hs=>(v1 s hs).trans (u1 s hs),M2,oM,fun m hm ho=>(k2 m hm ho).trans ((kD m hm).trans (k1.2 m oM ho)),r⟩
end
section
variable (Hh:Hearts K Tryz.prog)
include Hh
theorem Z6n {ts:Zw} {h:Hq} (t19:Ze ts 19=.w (.c (.bool true))):Z7 212 none (q3 [1,1,1,1,1,1,1,1,1,1,1,1,0,1,2]) [] ts h fun x' ds' ts' h'=>x'=.exit 2/\ds'=[]/\(∀ s,s<=15->Ze ts' s=Ze ts s)/\h'=h:=by
 have Jf:=@t19
 iterate 6 (first|apply Zu|apply Gr|apply J8|refine Goes.Zl Zn ?_|refine Zr Hh Za Zn ?_)
 refine⟨rfl,rfl,fun s hs=>?_,rfl⟩
 simp (decide:=true) only [Yh hs]
theorem Z3b {n fr mo p9 p13 b0:Nat} {r d y:Nat} {md:Int} {c:C} {L:Lq} (m0:md≠0) (mo9:1<=mo/\mo<=9) (f4:fr<110) (n5:n+23<=p9/\n+23<=p13/\p9<b0/\p13<b0/\p9≠p13):∀ (m k t q:Nat) (V:Nat->Lq) (x:List C) (ts:Zw) (h:Hq),k<m->k<=103->t+k<=103->HE n q 4 60 8 40 (Cr.clR chM FM RM) md [] [] V h->AlG 4 60 8 40 (iw0 8) V k->RK fr k V->InoP x (Ec k)->SlB b0 h c L->b0<=h.next->h.get p9=some (.row 4 [[.ptr (n+13) 0,.ptr r 0,.ptr d 0,.ptr y 0]] false)->h.get p13=some (.row 16 [x] false)->Ze ts 2=.w (.c (.int .i64 (fr:Int)))->Ze ts 3=.w (.c (.int .i64 (mo:Int)))->Ze ts 9=.w (.c (.ptr p9 0))->Ze ts 13=.w (.c (.ptr p13 0))->Ze ts 19=.w (.c (.bool false))->Ze ts 20=.w (.c (.int .i64 (t:Int))) ->
  Z7 212 none (q3 [1,1,1,1,1,1,1,1,1,1,1,1,0,1,2]) [] ts h fun x' ds' ts' h'=>x'=.exit 2/\ds'=[]/\(∀ s,s<=15->Ze ts' s=Ze ts s)/\∃ q2 V2 x2,HE n q2 4 60 8 40 (Cr.clR chM FM RM) md [] [] V2 h'/\AlG 4 60 8 40 (iw0 8) V2 (min k (inc fr))/\RK fr (min k (inc fr)) V2/\InoP x2 (Ec (min k (inc fr)))/\SlB b0 h' c L/\h.next<=h'.next/\h'.get p9=some (.row 4 [[.ptr (n+13) 0,.ptr r 0,.ptr d 0,.ptr y 0]] false)/\h'.get p13=some (.row 16 [x2] false):=by
 intro m
 induction m with
 | zero =>
  intro k t q V x ts h km
  omega
 | succ m ih =>
  intro k t q V x ts h km kl tk M al R X sl bh g9 g13 t2 t3 t9 t13 t19 t20
  have z1:Bq 16 (mo:Int)=some 19:=by
   have:mo=1\/mo=2\/mo=3\/mo=4\/mo=5\/mo=6\/mo=7\/mo=8\/mo=9:=oM
   rcases this with rfl|rfl|rfl|rfl|rfl|rfl|rfl|rfl|rfl<;>rfl
  have z2:Bq ((chM.length:Int)+16) ((RM.length:Int)+(mo:Int))=some 25:=by
   have:mo=1\/mo=2\/mo=3\/mo=4\/mo=5\/mo=6\/mo=7\/mo=8\/mo=9:=oM
   rcases this with rfl|rfl|rfl|rfl|rfl|rfl|rfl|rfl|rfl<;>rfl
  have nx0:=M.nx
  obtain⟨hB,sh,cB,MB,nB,kB⟩:=M.Yan Hh Bl (x:=16) (r:=(mo:Int)) (C2:=chM) (S':=chM) (fun k hk=>by rw[List.append_nil] at hk; exact hk) Z83 dM dM z1 oM z2 oM dM
  rw[show ((mo:Int))=(mo:Int) - ((0:Nat):Int) by omega] at MB
  have B9:=(kB p9 oM oM oM).trans g9
  have B13:=(kB p13 oM oM oM).trans g13
  obtain⟨x2,k2,nn2,fu2,V2,hC,cC,ac,MC,alC,RC,XC,nn9,kC⟩:=Z7h Hh m0 f4 mo9.2 MB al X R kl
  obtain⟨a1,a2,a3⟩:=id ac
  have C9:=(kC.2 p9 oM ⟨oM,oM⟩).trans B9
  have C13:=(kC.2 p13 oM ⟨oM,oM⟩).trans B13
  have nC:=kC.1
  have nxC:=MC.nx
  have x2l:=XC.xl
  have xl:=X.xl
  have dt:decide ((t:Int) > 120)=false:=decide_eq_false oM
  have d1:decide ((mo:Int)<(nn2:Int))=false:=decide_eq_false oM
  have z00:((0:Int) != 0)=false:=rfl
  cases fu2 with
  | true =>
   obtain⟨a4,a5⟩:=a3 rfl
   have d2:decide ((nn2:Int)<(mo:Int))=false:=decide_eq_false oM
   have Jf:=Jl @t2 (Yw @t3 @t9 @t13 @t19 @t20 @dt @d1 @d2 (Yw @g9 @B9 @B13 @C9 @C13 @x2l @xl @z00 @Ve))
   iterate 10 (first|apply Zu|apply Ye|apply Jc|apply J8|refine Goes.Zl Z0 ?_|refine Zr Hh Za Z0 ?_)
   refine Goes.ops2 fits Hh (Zp Za cB) (by
    iterate 9 (refine Yv (by simp (maxSteps:=9^6) +decide (disch:=first|exact dZ|fail) only [go_sem,Zh,simprocAttr,Z4,t2,t3,t9,t13,t19,t20,dt,d1,d2,g9,B9,B13,C9,C13,x2l,xl,z00,Ve]<;>rfl) ?_)
    exact Yu) ?_
   iterate 3 (first|apply Zu|apply Ye|refine Goes.Zl Z0 ?_)
   refine Goes.ops2 fits Hh (Zp Za cC) (by
    iterate 16 (refine Yv (by simp (maxSteps:=9^6) +decide (disch:=first|exact dZ|fail) only [go_sem,Zh,simprocAttr,Z4,t2,t3,t9,t13,t19,t20,dt,d1,d2,g9,B9,B13,C9,C13,x2l,xl,z00,Ve]<;>rfl) ?_)
    exact Yu) ?_
   iterate 2 (apply Zu)
   refine Ow fun hD eD=>?_
   have nD:hD.next=hC.next+1:=nxQ eD
   have kD:∀ m,m<hC.next->hD.get m=hC.get m:=kQ eD
   have D21:hD.get hC.next=some (.row 16 [x2] false):=by rw[eD]; exact Z0
   clear eD
   have D9:=(kD p9 oM).trans C9
   have D13:=(kD p13 oM).trans C13
   have MD:=MC.keep (h2:=hD) oM (fun m hm=>kD m oM)
   obtain⟨hE,qz,cE,ME,⟨nE,qE⟩,kE⟩:=MD.Z9f Hh Bl Z5i dM (C2:=chM) (fun k hk=>(List.mem_append.1 hk).elim id id)
   rw[nD] at nE qE
   have E9:=(kE p9 oM oM oM oM).trans D9
   have E13:=(kE p13 oM oM oM oM).trans D13
   have E21:=(kE hC.next oM oM oM oM).trans D21
   refine Goes.ops2 fits Hh (Zp Za cE) (by
    iterate 22 (refine Yv (by simp (maxSteps:=9^6) +decide (disch:=first|exact dZ|fail) only [go_sem,Zh,simprocAttr,Z4,t2,t3,t9,t13,t19,t20,dt,d1,d2,g9,B9,B13,C9,C13,x2l,xl,z00,Ve,D9,D13,D21,E9,E13,E21]<;>rfl) ?_)
    exact Yu) ?_
   have Jf:=El Jf @D9 @D13 @D21 @E9 @E13 @E21
   iterate 6 (first|apply Zu|apply Ye|refine Goes.Zl Z0 ?_|refine Zr Hh Za Z0 ?_)
   show Z7 212 none (q3 [1,1,1,1,1,1,1,1,1,1,1,1,0,1,2]) _ _ _ _
   refine Ow fun hF eF=>?_
   have nF:hF.next=hE.next:=by rw[eF,H.Zb]
   have kF:∀ m,m≠p13->hF.get m=hE.get m:=fun m hm=>by rw[eF]; exact Zd hm
   have F13:hF.get p13=some (.row 16 [x2] false):=by rw[eF]; exact Zx ..
   clear eF
   refine Zfl fun tA eT=>?_
   have u1:∀ s,s<=15->Ze tA s=Ze ts s:=fun s hs=>by rw[eT]; simp (decide:=true) only [Yh hs]
   have u19:Ze tA 19=.w (.c (.bool false)):=by rw[eT]; exact Zf
   have u20:Ze tA 20=.w (.c (.int .i64 ((t+1:Nat):Int))):=by rw[eT]; exact Zf
   clear eT
   have MF:=HE.Zzo ME (h2:=hF) oM (fun m hm=>kF m oM)
   have slF:SlB b0 hF c L:=sl.keep oM fun p h1 h2=>(kF p oM).trans ((kE p oM oM oM oM).trans ((kD p oM).trans ((kC.2 p oM ⟨oM,oM⟩).trans (kB p h2 oM oM))))
   have F9:=(kF p9 n5.2.2.2.2).trans E9
   have mn:min k2 (inc fr)=min k (inc fr):=oM
   have G:=ih k2 (t+1) qz V2 x2 tA hF oM oM oM MF alC RC XC slF oM F9 F13 ((u1 2 dM).trans t2) ((u1 3 dM).trans t3) ((u1 9 dM).trans t9) ((u1 13 dM).trans t13) u19 u20
   rw[mn] at G
   refine G.mono ?_
   rintro _ _ ts' h' ⟨rfl,rfl,v1,q4,V4,x4,M4,al4,R4,X4,s4,n4,g4,g4'⟩
   exact⟨rfl,rfl,fun s hs=>(v1 s hs).trans (u1 s hs),q4,V4,x4,M4,al4,R4,X4,s4,oM,g4,g4'⟩
  | false =>
   have k2e:=a2 rfl
   subst k2e
   have Jf:=Yw @t2 @t3 @t9 @t13 @t19 @t20 @dt @d1 (Yw @g9 @B9 @B13 @C9 @C13 @x2l @xl @z00 @Ve)
   iterate 10 (first|apply Zu|apply Ye|apply Jc|apply J8|refine Goes.Zl Z0 ?_|refine Zr Hh Za Z0 ?_)
   refine Goes.ops2 fits Hh (Zp Za cB) (by
    iterate 9 (refine Yv (by simp (maxSteps:=9^6) +decide (disch:=first|exact dZ|fail) only [go_sem,Zh,simprocAttr,Z4,t2,t3,t9,t13,t19,t20,dt,d1,g9,B9,B13,C9,C13,x2l,xl,z00,Ve]<;>rfl) ?_)
    exact Yu) ?_
   iterate 3 (first|apply Zu|apply Ye|refine Goes.Zl Z0 ?_)
   refine Goes.ops2 fits Hh (Zp Za cC) (by
    iterate 16 (refine Yv (by simp (maxSteps:=9^6) +decide (disch:=first|exact dZ|fail) only [go_sem,Zh,simprocAttr,Z4,t2,t3,t9,t13,t19,t20,dt,d1,g9,B9,B13,C9,C13,x2l,xl,z00,Ve]<;>rfl) ?_)
    exact Yu) ?_
   iterate 2 (apply Zu)
   refine Ow fun hD eD=>?_
   have nD:hD.next=hC.next+1:=nxQ eD
   have kD:∀ m,m<hC.next->hD.get m=hC.get m:=kQ eD
   have D21:hD.get hC.next=some (.row 16 [x2] false):=by rw[eD]; exact Z0
   clear eD
   have D9:=(kD p9 oM).trans C9
   have D13:=(kD p13 oM).trans C13
   have MD:=MC.keep (h2:=hD) oM (fun m hm=>kD m oM)
   obtain⟨hE,qz,cE,ME,⟨nE,qE⟩,kE⟩:=MD.Z9f Hh Bl Z5i dM (C2:=chM) (fun k hk=>(List.mem_append.1 hk).elim id id)
   rw[nD] at nE qE
   have E9:=(kE p9 oM oM oM oM).trans D9
   have E13:=(kE p13 oM oM oM oM).trans D13
   have E21:=(kE hC.next oM oM oM oM).trans D21
   refine Goes.ops2 fits Hh (Zp Za cE) (by
    iterate 22 (refine Yv (by simp (maxSteps:=9^6) +decide (disch:=first|exact dZ|fail) only [go_sem,Zh,simprocAttr,Z4,t2,t3,t9,t13,t19,t20,dt,d1,g9,B9,B13,C9,C13,x2l,xl,z00,Ve,D9,D13,D21,E9,E13,E21]<;>rfl) ?_)
    exact Yu) ?_
   have Jf:=El Jf @D9 @D13 @D21 @E9 @E13 @E21
   iterate 6 (first|apply Zu|apply Ye|refine Goes.Zl Z0 ?_|refine Zr Hh Za Z0 ?_)
   show Z7 212 none (q3 [1,1,1,1,1,1,1,1,1,1,1,1,0,1,2]) _ _ _ _
   refine Ow fun hF eF=>?_
   have nF:hF.next=hE.next:=by rw[eF,H.Zb]
   have kF:∀ m,m≠p13->hF.get m=hE.get m:=fun m hm=>by rw[eF]; exact Zd hm
   have F13:hF.get p13=some (.row 16 [x2] false):=by rw[eF]; exact Zx ..
   clear eF
   refine Zfl fun tA eT=>?_
   have u1:∀ s,s<=15->Ze tA s=Ze ts s:=fun s hs=>by rw[eT]; simp (decide:=true) only [Yh hs]
   have u19:Ze tA 19=.w (.c (.bool true)):=by rw[eT]; exact Zf
   have u20:Ze tA 20=.w (.c (.int .i64 ((t+1:Nat):Int))):=by rw[eT]; exact Zf
   clear eT
   have MF:=HE.Zzo ME (h2:=hF) oM (fun m hm=>kF m oM)
   have slF:SlB b0 hF c L:=sl.keep oM fun p h1 h2=>(kF p oM).trans ((kE p oM oM oM oM).trans ((kD p oM).trans ((kC.2 p oM ⟨oM,oM⟩).trans (kB p h2 oM oM))))
   have F9:=(kF p9 n5.2.2.2.2).trans E9
   refine (Z6n Hh u19).mono ?_
   rintro _ _ ts' _ ⟨rfl,rfl,v1,rfl⟩
   exact⟨rfl,rfl,fun s hs=>(v1 s hs).trans (u1 s hs),qz,V2,x2,MF,alC,RC,XC,slF,oM,F9,F13⟩
end
section
variable (Hh:Hearts K Tryz.prog)
include Hh
theorem Z31 {n q L p9 p13 b0:Nat} {r d y:Nat} {md:Int} {V:Nat->Lq} {P:Nat->Nat} {x:List C} {c:C} (m0:md≠0) (L1:L<=100) (X:InoP x P) (R:RowF Yo V P L) (n5:n+7<=p9/\n+7<=p13/\p9<b0/\p13<b0):∀ (k j:Nat) (ts:Zw) (h:Hq),j+k=110->HE n q 4 60 8 40 (Cr.clR chM FM RM) md [] [] V h->SlB b0 h c (Zbh L)->b0<=h.next->h.get p9=some (.row 4 [[.ptr (n+13) 0,.ptr r 0,.ptr d 0,.ptr y 0]] false)->h.get p13=some (.row 16 [x] false)->Ze ts 9=.w (.c (.ptr p9 0))->Ze ts 13=.w (.c (.ptr p13 0))->Ze ts 15=.w (.c c)->Ze ts 25=.w (.c (.int .i64 (j:Int))) ->
  Z7 212 none (q3 [1,1,1,1,1,1,1,1,1,1,1,1,1,0,1,2]) [] ts h fun x' ds' ts' h'=>x'=.exit 4/\ds'=[]/\(∀ s,s<=15->Ze ts' s=Ze ts s)/\HE n q 4 60 8 40 (Cr.clR chM FM RM) md [] [] V h'/\SlB b0 h' c (Zbh L)/\h.next<=h'.next/\∀ m,m<h.next->m≠n+6->h'.get m=h.get m:=by
 have xl:=X.xl
 intro k
 induction k with
 | zero =>
  intro j ts h hj M sl bh g9 g13 t9 t13 t15 t25
  obtain rfl:j=110:=oM
  have Jf:=@t25
  iterate 6 (first|apply Zu|apply Gr|apply J8|refine Goes.Zl Zn ?_|refine Zr Hh Za Zn ?_)
  refine⟨rfl,rfl,fun s hs=>?_,M,sl,Nat.le_refl _,fun _ _ _=>rfl⟩
  simp (decide:=true) only [Yh hs]
 | succ k ih =>
  intro j ts h hj M sl bh g9 g13 t9 t13 t15 t25
  have jl:j<110:=oM
  obtain⟨h1,cF,M1,k1⟩:=Zuq Hh Bl m0 M X (i:=j) jl (Z0r R jl)
  have nx:=M.nx
  rw[R.find (fun k hk=>by have:=(Gv hk).2.2; omega) L1 jl] at cF
  have dd:decide ((j:Int)<110)=true:=decide_eq_true oM
  have n1:=k1.1
  have s9:=(k1.2 p9 oM oM).trans g9
  have s13:=(k1.2 p13 oM oM).trans g13
  have sl1:SlB b0 h1 c (Zbh L):=sl.keep n1 fun p h1 h2=>k1.2 p h2 oM
  obtain⟨lf,ln⟩:=Zrs sl1.1
  rw[Zdm] at ln
  have z00:((0:Int) != 0)=false:=rfl
  by_cases w:j<L
  ·rw[if_pos w] at cF
   have wa:=Z8c w
   obtain⟨B,hB⟩:=xzE (Yo (bI j))
   rw[hB] at cF wa
   obtain⟨p,pl,hc,hp⟩:∃ p,0<(Zbh L).length/\c=.slice p 0 L 1/\h1.get p=some (.row 1 (rwI (Zbh L)) false):=by
    rcases sl1.1 with ⟨e,_⟩|⟨p,q1,q2,q3⟩
    ·have:=Zdm L
     rw[e] at this
     simp at this
     omega
    ·rw[Zdm] at q2
     exact⟨p,q1,q2,q3⟩
   have rd:=rdI wa
   obtain⟨Z,hZ⟩:=xzE (rwI (Zbh L))
   rw[hZ] at hp rd
   have lf1:=lf
   rw[hc] at lf1
   have t15':=t15
   rw[hc] at t15'
   have ln1:=ln
   rw[hc] at ln1
   have ex:((B:Int) != (B:Int))=false:=Zzi rfl
   have d1:decide ((j:Int)<(L:Int))=true:=decide_eq_true oM
   have d2:decide ((j:Int) >= (L:Int))=false:=decide_eq_false oM
   have Jf:=Yw @t9 @t13 @t15' @t25 @dd @g9 @g13 @xl (Yw @Ve @z00 @lf1 @ln1 @ex @d1 @d2 @hp @rd)
   iterate 9 (first|apply Zu|apply Ye|apply Jc|apply J8|refine Goes.Zl Ub ?_|refine Zr Hh Za Ub ?_)
   refine Goes.ops2 fits Hh (Zp Za cF) (by
    iterate 10 (refine Yv (by simp (maxSteps:=9^6) +decide (disch:=first|exact dZ|fail) only [go_sem,Zh,simprocAttr,Z4,t9,t13,t15',t25,dd,g9,g13,xl,Ve,z00,lf1,ln1,ex,d1,d2,hp,rd,Zt]<;>rfl) ?_)
    exact Yu) ?_
   apply Zu
   refine Goes.ops2 fits Hh Za (by
    iterate 26 (refine Yv Ub ?_)
    exact Yu) ?_
   iterate 3 (first|apply Ye|refine Goes.Zl Ub ?_|refine Zr Hh Za Ub ?_)
   show Z7 212 none (q3 [1,1,1,1,1,1,1,1,1,1,1,1,1,0,1,2]) _ _ _ _
   refine Zfl fun tA eT=>?_
   have u1:∀ s,s<=15->Ze tA s=Ze ts s:=fun s hs=>by rw[eT]; simp (decide:=true) only [Yh hs]
   have u25:Ze tA 25=.w (.c (.int .i64 ((j+1:Nat):Int))):=by rw[eT]; exact Zf
   clear eT
   refine (ih (j+1) tA h1 oM M1 sl1 oM s9 s13 ((u1 9 dM).trans t9) ((u1 13 dM).trans t13) ((u1 15 dM).trans t15) u25).mono ?_
   rintro _ _ ts' h' ⟨rfl,rfl,v1,M2,s2,n2,k2⟩
   exact⟨rfl,rfl,fun s hs=>(v1 s hs).trans (u1 s hs),M2,s2,oM,fun m hm ho=>(k2 m oM ho).trans (k1.2 m hm ho)⟩
  ·rw[if_neg w] at cF
   have d1:decide ((j:Int)<(L:Int))=false:=decide_eq_false oM
   have d2:decide ((j:Int) >= (L:Int))=true:=decide_eq_true oM
   have Jf:=Nt @t9 @t13 @t15 @t25 @dd (Yw @g9 @g13 @xl @Ve @z00 @lf @ln @d1 @d2)
   iterate 9 (first|apply Zu|apply Ye|apply Jc|apply J8|refine Goes.Zl Ub ?_|refine Zr Hh Za Ub ?_)
   refine Goes.ops2 fits Hh (Zp Za cF) (by
    iterate 10 (refine Yv (by simp (maxSteps:=9^6) +decide (disch:=first|exact dZ|fail) only [go_sem,Zh,simprocAttr,Z4,t9,t13,t15,t25,dd,g9,g13,xl,Ve,z00,lf,ln,d1,d2,Zt]<;>rfl) ?_)
    exact Yu) ?_
   apply Zu
   refine Goes.ops2 fits Hh Za (by
    iterate 26 (refine Yv Ub ?_)
    exact Yu) ?_
   iterate 3 (first|apply Ye|refine Goes.Zl Ub ?_|refine Zr Hh Za Ub ?_)
   show Z7 212 none (q3 [1,1,1,1,1,1,1,1,1,1,1,1,1,0,1,2]) _ _ _ _
   refine Zfl fun tA eT=>?_
   have u1:∀ s,s<=15->Ze tA s=Ze ts s:=fun s hs=>by rw[eT]; simp (decide:=true) only [Yh hs]
   have u25:Ze tA 25=.w (.c (.int .i64 ((j+1:Nat):Int))):=by rw[eT]; exact Zf
   clear eT
   refine (ih (j+1) tA h1 oM M1 sl1 oM s9 s13 ((u1 9 dM).trans t9) ((u1 13 dM).trans t13) ((u1 15 dM).trans t15) u25).mono ?_
   rintro _ _ ts' h' ⟨rfl,rfl,v1,M2,s2,n2,k2⟩
   exact⟨rfl,rfl,fun s hs=>(v1 s hs).trans (u1 s hs),M2,s2,oM,fun m hm ho=>(k2 m oM ho).trans (k1.2 m hm ho)⟩
end
end Go.Proofs.YteiljiijagmonaaGreatDoor
