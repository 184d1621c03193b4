/- quernref10.Indirect: how many indirect blocks a file has. -/
import Derived.Test.YteiljiijagmonaaGreatDoorMkh
set_option maxRecDepth 100000
set_option maxHeartbeats 4000000
set_option linter.unusedSimpArgs false
set_option linter.unusedVariables false
set_option linter.unusedSectionVars false
namespace Go.Proofs.YteiljiijagmonaaGreatDoor
open Go.Ev
noncomputable def q12 (p:Lq):Code:=piece p (Ug Tryz.f12)
theorem rs12:Tryz.f12.results.toList=[.tmp 2]:=rfl
attribute [go_sem] rs12
noncomputable def Zw2 (i:Nat):Bool:=match Zsa (evX K x00 5000 (.call 45 [.c (.int .i64 (i:Int))] ⟨.nil,1⟩)) with
 | some (p,r)=>decide (p=((Uw i).1:Nat))&&okI (Uw i).2 r
 | none=>false
theorem rof0:(List.range 25).all (fun k=>Zw2 k)=true:=kR
theorem rof1:(List.range 25).all (fun k=>Zw2 (25+k))=true:=kR
theorem rof2:(List.range 25).all (fun k=>Zw2 (50+k))=true:=kR
theorem rof3:(List.range 25).all (fun k=>Zw2 (75+k))=true:=kR
theorem Z71 (i:Nat) (h:i<100):Zsa (evX K x00 5000 (.call 45 [.c (.int .i64 (i:Int))] ⟨.nil,1⟩))=some ((((Uw i).1:Nat):Int),rwI (Uw i).2):=by
 have c:Zw2 i=true:=by
  rcases Nat.lt_or_ge i 25 with w|w
  ·exact List.all_eq_true.1 rof0 i (List.mem_range.2 w)
  rcases Nat.lt_or_ge i 50 with w2|w2
  ·have:=List.all_eq_true.1 rof1 (i - 25) (List.mem_range.2 oM); rwa [show 25+(i - 25)=i by omega] at this
  rcases Nat.lt_or_ge i 75 with w3|w3
  ·have:=List.all_eq_true.1 rof2 (i - 50) (List.mem_range.2 oM); rwa [show 50+(i - 50)=i by omega] at this
  ·have:=List.all_eq_true.1 rof3 (i - 75) (List.mem_range.2 oM); rwa [show 75+(i - 75)=i by omega] at this
 unfold Zw2 at c
 split at c
 ·rename_i p r e
  rw[aQ] at c
  rw[e,Zrv c.2,show p=(((Uw i).1:Nat):Int) from of_decide_eq_true c.1]
 ·cases c
def tzR:Lq->Nat
 | []=>0
 | x :: l=>if x=0 then tzR l+1 else 0
def tzT (L:Lq) (k:Nat):Nat:=tzR (L.take k).reverse
theorem Zqd {L:Lq} {k x:Nat} (h:L[k]? = some x):tzT L (k+1)=if x=0 then tzT L k+1 else 0:=by
 unfold tzT
 rw[List.take_add_one,h,Option.toList_some,List.reverse_append]
 rfl
theorem Zsf (L:Lq):∀ k,tzT L k<=k
 | 0=>Nat.le_refl _
 | k+1=>by
  cases h:L[k]? with
  | none =>
   unfold tzT
   rw[List.take_add_one,h,Option.toList_none,List.append_nil]
   exact Nat.le_succ_of_le (Zsf L k)
  | some x =>
   rw[Zqd h]
   have:=Zsf L k
   split<;>omega
theorem Z3x {i:Nat} (hi:i<100):inc (i+1) - (i+1)=(inc i - i)+tzT (Uw i).2 (Uw i).2.length:=by
 unfold inc
 rcases Nat.lt_or_ge i 8 with w|w
 ·rw[Zay w,if_pos oM,if_pos oM]
  show i+1 - (i+1)=i - i+0
  omega
 rcases Nat.lt_or_ge i 72 with w2|w2
 ·rw[Zaz w w2,if_neg oM,if_pos oM]
  show i+1+1 - (i+1)=(if i<=8 then i else if i<=72 then i+1 else i+3) - i+(if i - 8=0 then 0+1 else 0)
  by_cases e:i=8
  ·subst e; rfl
  ·rw[if_neg oM,if_pos oM,if_neg oM]
   omega
 ·rw[Zdn w2 oM,if_neg oM,if_neg oM]
  show i+1+3 - (i+1)=(if i<=8 then i else if i<=72 then i+1 else i+3) - i+(if i - 72=0 then (0+1)+1 else 0)
  by_cases e:i=72
  ·subst e; rfl
  ·rw[if_neg oM,if_neg oM,if_neg oM]
   omega
section
variable (Hh:Hearts K Tryz.prog)
include Hh
theorem Z92 {i:Nat} (hi:i<100) {h:Hq} (h0:0<h.next):∃ h' s,Zi 45 [.c (.int .i64 (i:Int))] h (.tup [.c (.int .i64 ((Uw i).1:Nat)),.c s,.c (.int .i64 0)]) h'/\h.next<=h'.next/\(∀ m,m<h.next->h'.get m=h.get m)/\SlI h' s (Uw i).2:=by
 obtain⟨h',s,c,n,k,r⟩:=Zy.Zt8 fits Hh Q9 gl (Z71 i hi) rfl h h0
 refine⟨h',s,c,n,k,?_⟩
 rcases r with ⟨e,rfl⟩|⟨q,q1,q2,rfl,ho,el⟩
 ·left
  refine⟨?_,rfl⟩
  have:=congrArg List.length e
  rw[Sb] at this
  exact List.eq_nil_of_length_eq_zero this
 ·rw[Sb] at el ⊢
  exact .inr ⟨q,el,rfl,ho⟩
theorem Z9n {L:Lq} {s:C} {h:Hq} {i n:Nat} (ll:L.length<=8) (sl:SlI h s L):∀ (k m:Nat) (ts:Zw),k<=L.length->m+k<1000->Ze ts 0=.w (.c (.int .i64 (n:Int)))->Ze ts 3=.w (.c (.int .i64 (m:Int)))->Ze ts 4=.w (.c (.int .i64 (i:Int)))->Ze ts 6=.w (.c s)->Ze ts 8=.w (.c (.int .i64 ((k:Int) - 1))) ->
  Z7 41 none (q12 [1,1,0,1,2,2,1,0,2,1,1,2]) [] ts h fun x ds' ts' h'=>x=.exit 2/\ds'=[]/\h'=h/\Ze ts' 0=.w (.c (.int .i64 (n:Int)))/\Ze ts' 3=.w (.c (.int .i64 ((m+tzT L k:Nat):Int)))/\Ze ts' 4=.w (.c (.int .i64 (i:Int))):=by
 intro k
 induction k with
 | zero =>
  intro m ts kl m4 t0 t3 t4 t6 t8
  have dd:decide ((((0:Nat):Int) - 1) >= 0)=false:=rfl
  iterate 3 (first|apply Zu|apply J8)
  have Jf:=Um @t3 @t6 @t8 @dd
  refine Goes.ops2 fits Hh Za (by
   iterate 9 (refine Yv Zn ?_)
   exact Yu) ?_
  iterate 2 (first|apply Gr|refine Goes.Zl Zn ?_)
  refine⟨rfl,rfl,rfl,?_,?_,?_⟩
  ·have Jf:=@t0; exact Zn
  ·exact Zn
  ·have Jf:=@t4; exact Zn
 | succ k ih =>
  intro m ts kl m4 t0 t3 t4 t6 t8
  obtain⟨x,hx⟩:∃ x,L[k]? = some x:=⟨_,List.getElem?_eq_getElem oM⟩
  have sx:=Zqd hx
  rcases sl with ⟨w,_⟩|⟨p,p1,rfl,hp⟩
  ·rw[w] at kl; simp at kl
  have rx:=rdI hx
  obtain⟨R,hR⟩:=xzE (rwI L)
  have hp':=hp
  rw[hR] at hp' rx
  have e8:(((k+1:Nat):Int) - 1)=(k:Int):=oM
  rw[e8] at t8
  have dd:decide ((k:Int) >= 0)=true:=decide_eq_true oM
  obtain⟨n',hn⟩:∃ n,L.length=n:=⟨_,rfl⟩
  have t6':=t6
  rw[hn] at t6' kl ll
  by_cases x0:x=0
  ·have ex:((x:Int) == 0)=true:=O7 oM
   rw[if_pos x0] at sx
   iterate 3 (first|apply Zu|apply J8)
   have Jf:=Yw @t0 @t3 @t4 @t6' @t8 @dd @hp' @rx @ex
   refine Goes.ops2 fits Hh Za (by
    iterate 9 (refine Yv Zn ?_)
    exact Yu) ?_
   iterate 6 (first|apply Zu|apply Ye|apply Jc|refine Goes.Zl Zn ?_|refine Zr Hh Za Zn ?_)
   show Z7 41 none (q12 [1,1,0,1,2,2,1,0,2,1,1,2]) _ _ _ _
   refine (ih (m+1) _ oM oM ?_ ?_ ?_ ?_ ?_).mono ?_
   ·have Jf:=@t0; exact Zn
   ·exact Zf
   ·have Jf:=@t4; exact Zn
   ·have Jf:=@t6; exact Zn
   ·exact Zf
   ·rintro x1 d1 s1 h1 ⟨q1,q2,q3,q4,q5,q6⟩
    exact⟨q1,q2,q3,q4,by rw[sx,show m+(tzT L k+1)=m+1+tzT L k by omega]; exact q5,q6⟩
  ·have ex:((x:Int) == 0)=false:=U7 oM
   rw[if_neg x0] at sx
   iterate 3 (first|apply Zu|apply J8)
   have Jf:=Yw @t0 @t3 @t4 @t6' @t8 @dd @hp' @rx @ex
   refine Goes.ops2 fits Hh Za (by
    iterate 9 (refine Yv Zn ?_)
    exact Yu) ?_
   iterate 2 (first|apply Gr|refine Goes.Zl Zn ?_)
   refine⟨rfl,rfl,rfl,?_,?_,?_⟩
   ·have Jf:=@t0; exact Zn
   ·rw[sx]; exact Zn
   ·have Jf:=@t4; exact Zn
theorem Z66 {n:Nat} (hn:n<=100) {b0:Nat}:∀ (r i:Nat) (ts:Zw) (h:Hq),i+r=n->0<h.next->b0<=h.next->Ze ts 0=.w (.c (.int .i64 (n:Int)))->Ze ts 3=.w (.c (.int .i64 ((inc i - i:Nat):Int)))->Ze ts 4=.w (.c (.int .i64 (i:Int))) ->
  Z7 41 none (q12 [1,1,0,1,2]) [] ts h fun x ds' ts' h'=>x=.exit 0/\ds'=[]/\Ze ts' 3=.w (.c (.int .i64 ((inc n - n:Nat):Int)))/\h.next<=h'.next/\∀ m,m<b0->h'.get m=h.get m:=by
 have lf:=Xf
 intro r
 induction r with
 | zero =>
  intro i ts h hi h0 hb t0 t3 t4
  obtain rfl:i=n:=oM
  have dd:decide ((i:Int)<(i:Int))=false:=decide_eq_false oM
  iterate 3 (first|apply Zu|apply J8)
  have Jf:=Ju @t0 @t4 @dd
  refine Goes.ops2 fits Hh Za (by
   iterate 7 (refine Yv Zn ?_)
   exact Yu) ?_
  iterate 2 (first|apply Gr|refine Goes.Zl Zn ?_)
  refine⟨rfl,rfl,?_,Nat.le_refl _,fun _ _=>rfl⟩
  simp (maxSteps:=9^6) +decide (disch:=first|exact dZ|fail) only [go_sem,Zk,Zh,simprocAttr,t3]
 | succ r ih =>
  intro i ts h hi h0 hb t0 t3 t4
  have i1:i<n:=oM
  have iw:=Z3x (i:=i) oM
  have wl:=Znf i
  have tl:=Zsf (Uw i).2 (Uw i).2.length
  obtain⟨h1,s,c5,n1,k1,sl⟩:=Z92 Hh (i:=i) oM h0
  have il:inc i - i<900:=by unfold inc; split<;>(first|omega|(split<;>omega))
  have lp:=fun ts=>Z9n Hh (i:=i) (n:=n) (h:=h1) wl sl (Uw i).2.length (inc i - i) ts (Nat.le_refl _) oM
  obtain⟨lf1,ln1⟩:=Zrs sl
  obtain⟨L,hL⟩:=xzE ((Uw i).2)
  obtain⟨z,hz⟩:=xzE ((Uw i).1)
  obtain⟨m,hm⟩:=xzE (inc i - i)
  simp only[hL,hm] at lp iw ln1 wl tl
  rw[hz] at c5
  rw[hm] at t3
  have dd:decide ((i:Int)<(n:Int))=true:=decide_eq_true oM
  have d6:decide ((i:Int)<65536)=true:=decide_eq_true oM
  obtain⟨ll,hll⟩:=xzE (L.length)
  simp only[hll] at lp iw ln1 wl tl
  iterate 3 (first|apply Zu|apply J8)
  have Jf:=El @t0 @t3 @t4 @dd @d6 @lf1 @ln1
  refine Goes.ops2 fits Hh Za (by
   iterate 7 (refine Yv Zcd ?_)
   exact Yu) ?_
  iterate 5 (first|apply Zu|apply Ye|apply Jc|refine Goes.Zl Zcd ?_)
  refine Goes.ops2 fits Hh (Zp Za c5) (by
   iterate 9 (refine Yv (by simp (maxSteps:=9^6) +decide (disch:=first|exact dZ|fail) only [go_sem,Zk,Zh,simprocAttr,Z4,t0,t3,t4,dd,d6,lf1,ln1,Zt]<;>rfl) ?_)
   exact Yu) ?_
  iterate 3 (first|apply Zu|apply Jc|refine Zr Hh Za Zcd ?_)
  refine (lp _ ?_ ?_ ?_ ?_ ?_).mono ?_
  ·have Jf:=@t0; exact Zn
  ·have Jf:=@t3; exact Zn
  ·have Jf:=@t4; exact Zn
  ·exact Zf
  ·exact Zf
  rintro x ds' ts' h' ⟨rfl,rfl,rfl,u0,u3,u4⟩
  have Jf:=@u4
  refine Zr Hh Za Zn ?_
  show Z7 41 none (q12 [1,1,0,1,2]) _ _ _ _
  refine (ih (i+1) _ h' oM oM oM ?_ ?_ ?_).mono ?_
  ·have Jf:=@u0; exact Zn
  ·rw[iw]; have Jf:=@u3; exact Zn
  ·exact Zf
  rintro x1 d1 s1 h2 ⟨q1,q2,q3,q4,q5⟩
  exact⟨q1,q2,q3,oM,fun m hm=>(q5 m hm).trans (k1 m oM)⟩
theorem Z9o {n:Nat} (hn:n<=100) {h:Hq} (h0:0<h.next):∃ h',Zi 12 [.c (.int .i64 (n:Int))] h (.w (.c (.int .i64 ((inc n - n:Nat):Int)))) h'/\h.next<=h'.next/\∀ m,m<h.next->h'.get m=h.get m:=by
 have lp:=fun ts=>Z66 Hh hn (b0:=h.next) n 0 ts h oM h0 (Nat.le_refl _)
 refine Fz ?_
 refine Y0 Hh Tryz.f12 ?_
 iterate 8 (first|apply Zu|apply Jc|refine Zr Hh Za Zf ?_)
 refine (lp _ ?_ ?_ ?_).mono ?_
 ·exact Zf
 ·exact Zf
 ·exact Zf
 rintro x ds' ts' h' ⟨rfl,rfl,t3,nn,kk⟩
 have Jf:=@t3
 iterate 3 (first|apply Zu|apply Yc|refine Zr Hh Za Zn ?_)
 exact⟨_,_,Zn,rfl,nn,kk⟩
end
section
variable (Hh:Hearts K Tryz.prog)
include Hh
theorem Zzp {h:Hq} (hst:h.get 0=some Bj) (l0:0<h.next) {mo:Nat} (mo1:mo<256) (nn ff mm:Int) :
  ∃ h',Zi 3 [.c (.int .u8 (mo:Int)),.c (.int .i64 nn),.c (.int .i64 ff),.c (.int .i64 mm)] h (.w (.c (.bool true))) h':=by
 have wz:=Zio nn
 have wy:=Zio ff
 have wx:=Zio mm
 obtain⟨Z,hZ⟩:=xzE ((nn % 18446744073709551616).toNat)
 obtain⟨Y,hY⟩:=xzE ((ff % 18446744073709551616).toNat)
 obtain⟨X,hX⟩:=xzE ((mm % 18446744073709551616).toNat)
 rw[hZ] at wz
 rw[hY] at wy
 rw[hX] at wx
 have rm1:T9 .u64 (Z:Int) 101=some (.int .u64 ((Z % 101:Nat):Int)):=Sa (b:=101) oM
 have rm2:T9 .u64 (Y:Int) 110=some (.int .u64 ((Y % 110:Nat):Int)):=Sa (b:=110) oM
 have rm3:T9 .u64 (X:Int) 9=some (.int .u64 ((X % 9:Nat):Int)):=Sa (b:=9) oM
 have j1:=Nat.mod_lt Z (show 0<101 by omega)
 have j2:=Nat.mod_lt Y (show 0<110 by omega)
 have j3:=Nat.mod_lt X (show 0<9 by omega)
 obtain⟨N,hN⟩:=xzE (Z % 101)
 obtain⟨fr,hfr⟩:=xzE (Y % 110)
 obtain⟨m9,hm9⟩:=xzE (X % 9)
 rw[hN] at rm1 j1
 rw[hfr] at rm2 j2
 rw[hm9] at rm3 j3
 have N1:N<=100:=oM
 have em:(1:Int)+(m9:Int)=((m9+1:Nat):Int):=oM
 obtain⟨mt,hmt⟩:=xzE (m9+1)
 rw[hmt] at em
 have mt9:1<=mt/\mt<=9:=oM
 have md0:(1+((mo % 3:Nat):Int))≠0:=oM
 obtain⟨hW,n,r,d,y,cW,MW,nW,kW⟩:=Z8d Hh mo1 hst l0
 obtain⟨md,hmd⟩:=xzE (1+((mo % 3:Nat):Int))
 rw[hmd] at MW md0
 have wx2:=MW.nx
 obtain⟨L,hL⟩:=xzE (min N fr)
 have L1:L<=100:=oM
 have eL:min (inc N) (inc fr)=inc L:=by rw[Z3w,hL]
 obtain⟨iN,i103⟩:=inc_le N1
 obtain⟨iL,i104⟩:=inc_le L1
 have f0:=Zu0 (m:=0) oM
 have fL:=Zu0 (m:=inc L) oM
 have Lln:=Z0q L
 have e1:(L:Int)+((inc L - L:Nat):Int)=((inc L:Nat):Int):=oM
 have e2:((224:Nat):Int) - ((inc L:Nat):Int)=((224 - inc L:Nat):Int):=oM
 have e3:(((inc L:Nat):Int) == ((inc L:Nat):Int))=true:=O7 rfl
 have e4:(((224 - inc L:Nat):Int) == ((224 - inc L:Nat):Int))=true:=O7 rfl
 have z00:((0:Int) == 0)=true:=rfl
 obtain⟨v,h',cc,rfl⟩:∃ v h',Zi 3 [.c (.int .u8 (mo:Int)),.c (.int .i64 nn),.c (.int .i64 ff),.c (.int .i64 mm)] h v h'/\v=.w (.c (.bool true)):=by
  refine Y0 Hh Tryz.f3 ?_
  have Jf:=Lg @wz @wy @wx @rm1 @rm2 @rm3 @em @Ve
  iterate 9 (first|apply Zu|refine Zr Hh Za Ub ?_)
  iterate 7 (first|apply Zu|apply Ye|refine Goes.Zl Ub ?_|refine Zr Hh (Zp Za cW) Ub ?_)
  refine Ow fun hA eA=>?_
  have nA:hA.next=hW.next+1:=nxQ eA
  have kA:∀ m,m<hW.next->hA.get m=hW.get m:=kQ eA
  have a5:hA.get hW.next=some (.row 4 [[.ptr (n+13) 0,.ptr r 0,.ptr d 0,.ptr y 0]] false):=by rw[eA]; exact Y6
  clear eA
  have MA:=(MW.keep (h2:=hA) oM (fun m hm=>kA m oM)).widen (C:=chM) (fun k hk=>by cases hk)
  obtain⟨h1,c7,M1,k1⟩:=Zy9 Hh Bl MA alM.des (Z0o 0)
  rw[f0] at c7
  have n1:=k1.1
  have b5:=(k1.2 _ oM oM).trans a5
  obtain⟨x,h2,c8,⟨q2,V2,P2,M2,al2,X2,R2⟩,n2,k2⟩:=rowOk Hh (N:=N) md0 N1 M1 (r:=r) (d:=d) (y:=y) oM alM
  have r5:=(k2 _ oM oM).trans b5
  have xl:=X2.xl
  have Jf:=Um Jf @a5 @b5 @r5
  iterate 2 (first|apply Zu|refine Zr Hh (Zp Za c7) Ub ?_)
  iterate 12 (first|apply Zu|apply Ye|apply Jc|refine Goes.Zl Ub ?_|refine Zr Hh (Zp Za c8) Ub ?_)
  refine Ow fun hB eB=>?_
  have nB:hB.next=h2.next+1:=nxQ eB
  have kB:∀ m,m<h2.next->hB.get m=h2.get m:=kQ eB
  have b9:hB.get h2.next=some (.row 16 [x] false):=by rw[eB]; have Jf:=@xl; exact Z0
  clear eB
  have B5:=(kB _ oM).trans r5
  have MB:=M2.keep (h2:=hB) oM (fun m hm=>kB m (by have:=M2.nx; omega))
  have nx2:=M2.nx
  refine Zfl fun tA eT=>?_
  have t1:Ze tA 1=.w (.c (.int .i64 (N:Int))):=by rw[eT]; exact Zf
  have t2:Ze tA 2=.w (.c (.int .i64 (fr:Int))):=by rw[eT]; exact Zf
  have t3:Ze tA 3=.w (.c (.int .i64 (mt:Int))):=by rw[eT]; exact Zf
  have t9:Ze tA 9=.w (.c (.ptr hW.next 0)):=by rw[eT]; exact Zf
  have t11:Ze tA 11=.w (.c (.int .i64 ((224:Nat):Int))):=by rw[eT]; exact Zf
  have t13:Ze tA 13=.w (.c (.ptr h2.next 0)):=by rw[eT]; exact Zf
  have t15:Ze tA 15=.w (.c .snil):=by rw[eT]; exact Zf
  have t16:Ze tA 16=.w (.c (.int .i64 ((0:Nat):Int))):=by rw[eT]; exact Zf
  clear eT
  refine (Z49 Hh (b0:=h2.next+1) md0 N1 j2 X2 R2 ⟨oM,oM,oM,oM⟩ oM (min N fr) 0 .snil tA hB oM MB ⟨.inl ⟨rfl,rfl⟩,fun p o n z e=>by cases e⟩ oM B5 b9 t1 t2 t9 t13 t15 t16).mono ?_
  rintro _ _ tB hC ⟨rfl,rfl,vB,MC,nC,kC,c',v15,slC⟩
  rw[hL] at slC
  have C5:=(kC hW.next oM oM).trans B5
  have C9:=(kC h2.next oM oM).trans b9
  iterate 6 (first|apply Zu|apply Jc|refine Zr Hh Za Zf ?_)
  refine Zfl fun tD eT=>?_
  have uD:∀ s,s<=15->Ze tD s=Ze tB s:=fun s hs=>by rw[eT]; simp (decide:=true) only [Yh hs]
  have u19:Ze tD 19=.w (.c (.bool false)):=by rw[eT]; exact Zf
  have u20:Ze tD 20=.w (.c (.int .i64 ((0:Nat):Int))):=by rw[eT]; exact Zf
  clear eT
  have w:∀ s,s<=14->Ze tD s=Ze tA s:=fun s hs=>(uD s (Nat.le_trans hs dM)).trans (vB s hs)
  refine (Z3b Hh (mo:=mt) (b0:=h2.next+1) md0 mt9 j2 ⟨oM,oM,oM,oM,oM⟩ 200 (inc N) 0 q2 V2 x tD hC oM i103 oM (HE.Z8e MC) al2 R2.rk (X2.Yaq R2.top) slC oM C5 C9 ((w 2 dM).trans t2) ((w 3 dM).trans t3) ((w 9 dM).trans t9) ((w 13 dM).trans t13) u19 u20).mono ?_
  rintro _ _ tE hE ⟨rfl,rfl,vE,q4,V4,x4,M4,al4,R4,X4,sl4,nE,E5,E9⟩
  rw[eL] at al4 R4 X4
  have R5:=R4.Yba
  have x4l:=X4.xl
  iterate 4 (first|apply Zu|apply Jc|refine Zr Hh Za Zf ?_)
  refine Zfl fun tF eT=>?_
  have uF:∀ s,s<=15->Ze tF s=Ze tE s:=fun s hs=>by rw[eT]; simp (decide:=true) only [Yh hs]
  have u25:Ze tF 25=.w (.c (.int .i64 ((0:Nat):Int))):=by rw[eT]; exact Zf
  clear eT
  have w2:∀ s,s<=15->Ze tF s=Ze tD s:=fun s hs=>(uF s hs).trans (vE s hs)
  refine (Z31 Hh (b0:=h2.next+1) md0 L1 X4 R5 ⟨oM,oM,oM,oM⟩ 110 0 tF hE oM M4 sl4 oM E5 E9 ((w2 9 dM).trans ((w 9 dM).trans t9)) ((w2 13 dM).trans ((w 13 dM).trans t13)) ((w2 15 dM).trans ((uD 15 dM).trans v15)) u25).mono ?_
  rintro _ _ tG hG ⟨rfl,rfl,vG,MG,slG,nG,kG⟩
  have w3:∀ s,s<=15->Ze tG s=Ze tD s:=fun s hs=>(vG s hs).trans (w2 s hs)
  have t9:=(w3 9 dM).trans ((w 9 dM).trans t9)
  have t11:=(w3 11 dM).trans ((w 11 dM).trans t11)
  have t13:=(w3 13 dM).trans ((w 13 dM).trans t13)
  have t15:=(w3 15 dM).trans ((uD 15 dM).trans v15)
  have g5:=(kG hW.next oM oM).trans E5
  have g9:=(kG h2.next oM oM).trans E9
  obtain⟨cs,h7,c34,sl,M7,n7,k7⟩:=Z7g Hh Bl md0 MG X4 (Z4v R5) (by rw[Z0n R5 L1,Lln]; omega)
  rw[Z0n R5 L1] at sl
  have s5:=k7 _ _ oM oM g5
  have s9:=k7 _ _ oM oM g9
  obtain⟨h8,c35,M8,k8⟩:=Zy9 Hh Bl M7 al4.des (Z0o _)
  rw[fL] at c35
  have n8:=k8.1
  have u5:=(k8.2 _ oM oM).trans s5
  have u9:=(k8.2 _ oM oM).trans s9
  obtain⟨lf,ln⟩:=Zrs sl.1
  rw[Lln] at ln
  obtain⟨lf2,ln2⟩:=Zrs slG.1
  rw[Zdm] at ln2
  obtain⟨h9,c36,n9,k9⟩:=Z9o Hh L1 (h:=h8) oM
  apply Zu
  have Jf:=Ej @t9 @t11 @t13 @t15 (Yw @g5 @g9 @s5 @s9 @u5 @u9 @x4l @Ve (Yw @lf @ln @lf2 @ln2 @e1 @e2 @e3 @e4 @z00))
  iterate 2 (first|apply Zu|refine Zr Hh (Zp Za c34) Ub ?_)
  iterate 2 (first|apply Zu|refine Zr Hh (Zp Za c35) Ub ?_)
  refine Goes.ops2 fits Hh (Zp Za c36) (by
   iterate 26 (refine Yv (by simp (maxSteps:=9^6) +decide (disch:=first|exact dZ|fail) only [go_sem,Zh,simprocAttr,Z4,t9,t11,t13,t15,g5,g9,s5,s9,u5,u9,x4l,Ve,lf,ln,lf2,ln2,e1,e2,e3,e4,z00,Zt]<;>rfl) ?_)
   exact Yu) ?_
  apply Yc
  exact⟨_,_,Zf,rfl⟩
 exact⟨h',cc⟩
end
open Go.Ev Go.ChangeShapes Go.WideShapes
section
variable (Hh:Hearts K Tryz.prog)
include Hh
theorem Zoi {W:World} {cs:Array Value} {t:TypeId} {fr:Nat × Nat} (hb:W.heap[0]? = some (.cells cs t fr)) (hcs:cs.toList=steps16.map (Value.int .u32)) (z0 z1 z2 z3:Int) (wf0:(Lit.int .u8 z0).wf=true) :
  Calls Tryz.prog 3 #[.int .u8 z0,.int .i64 z1,.int .i64 z2,.int .i64 z3] W fun e W'=>e=.returned (.bool true)/\Go.RowKit.Below W.heap.size W W':=by
 obtain⟨m0,m1⟩:=wf_u8 wf0
 obtain⟨mo,rfl⟩:=Int.eq_ofNat_of_zero_le m0
 have h0:(Zhn none none).get 0=some Bj:=by
  unfold Zhn
  rw[Zuy _ _ oM,Zuy _ _ oM]
  rfl
 have nx:(Zhn none none).next=3:=by unfold Zhn; rw[Zkv,Zkv]
 obtain⟨h',cc⟩:=Zzp Hh h0 oM (mo:=mo) oM z1 z2 z3
 exact Zlv (ρ:=Zp0 ⟨0,0,0⟩ ⟨0,0,0⟩) (vals:=[.int .u8 (mo:Int),.int .i64 z1,.int .i64 z2,.int .i64 z3]) (Z0m hb hcs (fun _ _ e=>by cases e) (fun _ _ e=>by cases e)) (by rw[nx]; exact Zwx ⟨0,0,0⟩ ⟨0,0,0⟩) (fun n o e=>Zho e) cc ⟨rfl,rfl,rfl,rfl,trivial⟩
end
end Go.Proofs.YteiljiijagmonaaGreatDoor
