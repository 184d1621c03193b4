/- quernref10.Indirect: how many indirect blocks a file has. -/
import Derived.Test.YtdmendgkbikkaaaGreatDoorBeg3
import Derived.Test.YtdmendgkbikkaaaGreatDoorMra
set_option linter.unusedSimpArgs false
set_option linter.unusedVariables false
set_option linter.unusedSectionVars false
set_option maxRecDepth 100000
set_option maxHeartbeats 4000000
namespace Go.Proofs.YtdmendgkbikkaaaGreatDoor
open Go.Ev
noncomputable def q9 (p:List Nat):Code:=piece p (Ut Tryz.f9)
theorem rs9:Tryz.f9.results.toList=[.tmp 2]:=rfl
attribute [go_sem] rs9
noncomputable def Ztk (i:Nat):Bool:=match Zo1 (evX K x00 5000 (.call 21 [.c (.int .i64 (i:Int))] ⟨.nil,1⟩)) with
 | some (p,r)=>decide (p=((Uk i).1:Nat))&&okI (Uk i).2 r
 | none=>false
theorem rof0:(List.range 25).all (fun k=>Ztk k)=true:=by kernel_rfl
theorem rof1:(List.range 25).all (fun k=>Ztk (25+k))=true:=by kernel_rfl
theorem rof2:(List.range 25).all (fun k=>Ztk (50+k))=true:=by kernel_rfl
theorem rof3:(List.range 25).all (fun k=>Ztk (75+k))=true:=by kernel_rfl
theorem Z3r (i:Nat) (h:i<100):Zo1 (evX K x00 5000 (.call 21 [.c (.int .i64 (i:Int))] ⟨.nil,1⟩))=some ((((Uk i).1:Nat):Int),rwI (Uk i).2):=by
 have c:Ztk i=true:=by
  rcases Nat.lt_or_ge i 25 with w|w
  ·exact List.all_eq_true.1 rof0 i (List.mem_range.2 w)
  rcases Nat.lt_or_ge i 50 with w2|w2
  ·have:=List.all_eq_true.1 rof1 (i - 25) (List.mem_range.2 (by omega)); rwa [show 25+(i - 25)=i by omega] at this
  rcases Nat.lt_or_ge i 75 with w3|w3
  ·have:=List.all_eq_true.1 rof2 (i - 50) (List.mem_range.2 (by omega)); rwa [show 50+(i - 50)=i by omega] at this
  ·have:=List.all_eq_true.1 rof3 (i - 75) (List.mem_range.2 (by omega)); rwa [show 75+(i - 75)=i by omega] at this
 unfold Ztk at c
 split at c
 ·rename_i p r e
  rw[Bool.and_eq_true] at c
  rw[e,Zom c.2,show p=(((Uk i).1:Nat):Int) from of_decide_eq_true c.1]
 ·cases c
def tzR:List Nat→Nat
 | []=>0
 | x :: l=>if x=0 then tzR l+1 else 0
def tzT (L:List Nat) (k:Nat):Nat:=tzR (L.take k).reverse
theorem Zm2 {L:List Nat} {k x:Nat} (h:L[k]? = some x):tzT L (k+1)=if x=0 then tzT L k+1 else 0:=by
 unfold tzT
 rw[List.take_add_one,h,Option.toList_some,List.reverse_append]
 rfl
theorem Zo8 (L:List Nat):∀ k,tzT L k≤k
 | 0=>Nat.le_refl _
 | k+1=>by
  cases h:L[k]? with
  | none =>
   unfold tzT
   rw[List.take_add_one,h,Option.toList_none,List.append_nil]
   exact Nat.le_succ_of_le (Zo8 L k)
  | some x =>
   rw[Zm2 h]
   have:=Zo8 L k
   split<;>omega
theorem Z0a {i:Nat} (hi:i<100):inc (i+1) - (i+1)=(inc i - i)+tzT (Uk i).2 (Uk i).2.length:=by
 unfold inc
 rcases Nat.lt_or_ge i 8 with w|w
 ·rw[X3 w,if_pos (by omega),if_pos (by omega)]
  show i+1 - (i+1)=i - i+0
  omega
 rcases Nat.lt_or_ge i 72 with w2|w2
 ·rw[X4 w w2,if_neg (by omega),if_pos (by omega)]
  show i+1+1 - (i+1)=(if i≤8 then i else if i≤72 then i+1 else i+3) - i+(if i - 8=0 then 0+1 else 0)
  by_cases e:i=8
  ·subst e; rfl
  ·rw[if_neg (by omega),if_pos (by omega),if_neg (by omega)]
   omega
 ·rw[Za9 w2 (by omega),if_neg (by omega),if_neg (by omega)]
  show i+1+3 - (i+1)=(if i≤8 then i else if i≤72 then i+1 else i+3) - i+(if i - 72=0 then (0+1)+1 else 0)
  by_cases e:i=72
  ·subst e; rfl
  ·rw[if_neg (by omega),if_neg (by omega),if_neg (by omega)]
   omega
section
variable (Hh:Hearts K Tryz.prog)
include Hh
theorem Z5r {i:Nat} (hi:i<100) {h:Go.Ev.H} (h0:0<h.next):∃ h' s,Zg 21 [.c (.int .i64 (i:Int))] h (.tup [.c (.int .i64 ((Uk i).1:Nat)),.c s,.c (.int .i64 0)]) h'∧h.next≤h'.next∧(∀ m,m<h.next→h'.get m=h.get m)∧SlI h' s (Uk i).2:=by
 obtain⟨h',s,c,n,k,r⟩:=Zv.Zqu fits Hh Zf4 gl (Z3r i hi) rfl h h0
 refine⟨h',s,c,n,k,?_⟩
 rcases r with ⟨e,rfl⟩|⟨q,q1,q2,rfl,ho,el⟩
 ·left
  refine⟨?_,rfl⟩
  have:=congrArg List.length e
  rw[Xx] at this
  exact List.eq_nil_of_length_eq_zero this
 ·rw[Xx] at el ⊢
  exact .inr ⟨q,el,rfl,ho⟩
theorem Z5f {L:List Nat} {s:C} {h:Go.Ev.H} {i n:Nat} (ll:L.length≤8) (sl:SlI h s L):∀ (k m:Nat) (ts:Zw),k≤L.length→m+k<1000→Zi ts 0=.w (.c (.int .i64 (n:Int)))→Zi ts 3=.w (.c (.int .i64 (m:Int)))→Zi ts 4=.w (.c (.int .i64 (i:Int)))→Zi ts 6=.w (.c s)→Zi ts 8=.w (.c (.int .i64 ((k:Int) - 1))) →
  Ya 41 none (q9 [1,1,0,1,2,2,1,0,2,1,1,2]) [] ts h fun x ds' ts' h'=>x=.exit 2∧ds'=[]∧h'=h∧Zi ts' 0=.w (.c (.int .i64 (n:Int)))∧Zi ts' 3=.w (.c (.int .i64 ((m+tzT L k:Nat):Int)))∧Zi ts' 4=.w (.c (.int .i64 (i:Int))):=by
 intro k
 induction k with
 | zero =>
  intro m ts kl m4 t0 t3 t4 t6 t8
  have dd:decide ((((0:Nat):Int) - 1) ≥ 0)=false:=rfl
  iterate 3 (first|apply Zp|apply Yt)
  have Jf:=Oz @t3 @t6 @t8 @dd
  refine Goes.ops2 fits Hh Za (by
   iterate 9 (refine Y9 Zq ?_)
   exact Y8) ?_
  iterate 2 (first|apply Oe|refine Goes.Zn Zq ?_)
  refine⟨rfl,rfl,rfl,?_,?_,?_⟩
  ·have Jf:=@t0; exact Zq
  ·exact Zq
  ·have Jf:=@t4; exact Zq
 | succ k ih =>
  intro m ts kl m4 t0 t3 t4 t6 t8
  obtain⟨x,hx⟩:∃ x,L[k]? = some x:=⟨_,List.getElem?_eq_getElem (by omega)⟩
  have sx:=Zm2 hx
  rcases sl with ⟨w,_⟩|⟨p,p1,rfl,hp⟩
  ·rw[w] at kl; simp at kl
  have rx:=rdI hx
  obtain⟨R,hR⟩:∃ R,rwI L=R:=⟨_,rfl⟩
  have hp':=hp
  rw[hR] at hp' rx
  have e8:(((k+1:Nat):Int) - 1)=(k:Int):=by omega
  rw[e8] at t8
  have dd:decide ((k:Int) ≥ 0)=true:=decide_eq_true (by omega)
  obtain⟨n',hn⟩:∃ n,L.length=n:=⟨_,rfl⟩
  have t6':=t6
  rw[hn] at t6' kl ll
  by_cases x0:x=0
  ·have ex:((x:Int) == 0)=true:=Tf (by omega)
   rw[if_pos x0] at sx
   iterate 3 (first|apply Zp|apply Yt)
   have Jf:=Ur @t0 @t3 @t4 @t6' @t8 @dd @hp' @rx @ex
   refine Goes.ops2 fits Hh Za (by
    iterate 9 (refine Y9 Zq ?_)
    exact Y8) ?_
   iterate 6 (first|apply Zp|apply Z6|apply Yk|refine Goes.Zn Zq ?_|refine Zy Hh Za Zq ?_)
   show Ya 41 none (q9 [1,1,0,1,2,2,1,0,2,1,1,2]) _ _ _ _
   refine (ih (m+1) _ (by omega) (by omega) ?_ ?_ ?_ ?_ ?_).mono ?_
   ·have Jf:=@t0; exact Zq
   ·exact Zj
   ·have Jf:=@t4; exact Zq
   ·have Jf:=@t6; exact Zq
   ·exact Zj
   ·rintro x1 d1 s1 h1 ⟨q1,q2,q3,q4,q5,q6⟩
    exact⟨q1,q2,q3,q4,by rw[sx,show m+(tzT L k+1)=m+1+tzT L k by omega]; exact q5,q6⟩
  ·have ex:((x:Int) == 0)=false:=Bl (by omega)
   rw[if_neg x0] at sx
   iterate 3 (first|apply Zp|apply Yt)
   have Jf:=Ur @t0 @t3 @t4 @t6' @t8 @dd @hp' @rx @ex
   refine Goes.ops2 fits Hh Za (by
    iterate 9 (refine Y9 Zq ?_)
    exact Y8) ?_
   iterate 2 (first|apply Oe|refine Goes.Zn Zq ?_)
   refine⟨rfl,rfl,rfl,?_,?_,?_⟩
   ·have Jf:=@t0; exact Zq
   ·rw[sx]; exact Zq
   ·have Jf:=@t4; exact Zq
theorem Z25 {n:Nat} (hn:n≤100) {b0:Nat}:∀ (r i:Nat) (ts:Zw) (h:Go.Ev.H),i+r=n→0<h.next→b0≤h.next→Zi ts 0=.w (.c (.int .i64 (n:Int)))→Zi ts 3=.w (.c (.int .i64 ((inc i - i:Nat):Int)))→Zi ts 4=.w (.c (.int .i64 (i:Int))) →
  Ya 41 none (q9 [1,1,0,1,2]) [] ts h fun x ds' ts' h'=>x=.exit 0∧ds'=[]∧Zi ts' 3=.w (.c (.int .i64 ((inc n - n:Nat):Int)))∧h.next≤h'.next∧∀ m,m<b0→h'.get m=h.get m:=by
 have lf:=Vv
 intro r
 induction r with
 | zero =>
  intro i ts h hi h0 hb t0 t3 t4
  obtain rfl:i=n:=by omega
  have dd:decide ((i:Int)<(i:Int))=false:=decide_eq_false (by omega)
  iterate 3 (first|apply Zp|apply Yt)
  have Jf:=Uc @t0 @t4 @dd
  refine Goes.ops2 fits Hh Za (by
   iterate 7 (refine Y9 Zq ?_)
   exact Y8) ?_
  iterate 2 (first|apply Oe|refine Goes.Zn Zq ?_)
  refine⟨rfl,rfl,?_,Nat.le_refl _,fun _ _=>rfl⟩
  simp (maxSteps:=9^6) +decide (disch:=first|omega|(simp only[lens]<;>omega)|decide) only [go_sem,Zm,Ze,simprocAttr,t3]
 | succ r ih =>
  intro i ts h hi h0 hb t0 t3 t4
  have i1:i<n:=by omega
  have iw:=Z0a (i:=i) (by omega)
  have wl:=Zkd i
  have tl:=Zo8 (Uk i).2 (Uk i).2.length
  obtain⟨h1,s,c5,n1,k1,sl⟩:=Z5r Hh (i:=i) (by omega) h0
  have il:inc i - i<900:=by unfold inc; split<;>(first|omega|(split<;>omega))
  have lp:=fun ts=>Z5f Hh (i:=i) (n:=n) (h:=h1) wl sl (Uk i).2.length (inc i - i) ts (Nat.le_refl _) (by omega)
  obtain⟨lf1,ln1⟩:=Zwc sl
  obtain⟨L,hL⟩:∃ L,(Uk i).2=L:=⟨_,rfl⟩
  obtain⟨z,hz⟩:∃ z,(Uk i).1=z:=⟨_,rfl⟩
  obtain⟨m,hm⟩:∃ m,inc i - i=m:=⟨_,rfl⟩
  simp only[hL,hm] at lp iw ln1 wl tl
  rw[hz] at c5
  rw[hm] at t3
  have dd:decide ((i:Int)<(n:Int))=true:=decide_eq_true (by omega)
  have d6:decide ((i:Int)<65536)=true:=decide_eq_true (by omega)
  obtain⟨ll,hll⟩:∃ ll,L.length=ll:=⟨_,rfl⟩
  simp only[hll] at lp iw ln1 wl tl
  iterate 3 (first|apply Zp|apply Yt)
  have Jf:=Qv @t0 @t3 @t4 @dd @d6 @lf1 @ln1
  refine Goes.ops2 fits Hh Za (by
   iterate 7 (refine Y9 Qw ?_)
   exact Y8) ?_
  iterate 5 (first|apply Zp|apply Z6|apply Yk|refine Goes.Zn Qw ?_)
  refine Goes.ops2 fits Hh (Zu Za c5) (by
   iterate 9 (refine Y9 (by simp (maxSteps:=9^6) +decide (disch:=first|omega|(simp only[lens]<;>omega)|decide) only [go_sem,Zm,Ze,simprocAttr,Z8,t0,t3,t4,dd,d6,lf1,ln1,Zt]<;>rfl) ?_)
   exact Y8) ?_
  iterate 3 (first|apply Zp|apply Yk|refine Zy Hh Za Qw ?_)
  refine (lp _ ?_ ?_ ?_ ?_ ?_).mono ?_
  ·have Jf:=@t0; exact Zq
  ·have Jf:=@t3; exact Zq
  ·have Jf:=@t4; exact Zq
  ·exact Zj
  ·exact Zj
  rintro x ds' ts' h' ⟨rfl,rfl,rfl,u0,u3,u4⟩
  have Jf:=@u4
  refine Zy Hh Za Zq ?_
  show Ya 41 none (q9 [1,1,0,1,2]) _ _ _ _
  refine (ih (i+1) _ h' (by omega) (by omega) (by omega) ?_ ?_ ?_).mono ?_
  ·have Jf:=@u0; exact Zq
  ·rw[iw]; have Jf:=@u3; exact Zq
  ·exact Zj
  rintro x1 d1 s1 h2 ⟨q1,q2,q3,q4,q5⟩
  exact⟨q1,q2,q3,by omega,fun m hm=>(q5 m hm).trans (k1 m (by omega))⟩
theorem Z5g {n:Nat} (hn:n≤100) {h:Go.Ev.H} (h0:0<h.next):∃ h',Zg 9 [.c (.int .i64 (n:Int))] h (.w (.c (.int .i64 ((inc n - n:Nat):Int)))) h'∧h.next≤h'.next∧∀ m,m<h.next→h'.get m=h.get m:=by
 have lp:=fun ts=>Z25 Hh hn (b0:=h.next) n 0 ts h (by omega) h0 (Nat.le_refl _)
 refine F5 ?_
 refine Jd Hh Tryz.f9 ?_
 iterate 8 (first|apply Zp|apply Yk|refine Zy Hh Za Zj ?_)
 refine (lp _ ?_ ?_ ?_).mono ?_
 ·exact Zj
 ·exact Zj
 ·exact Zj
 rintro x ds' ts' h' ⟨rfl,rfl,t3,nn,kk⟩
 have Jf:=@t3
 iterate 3 (first|apply Zp|apply Yb|refine Zy Hh Za Zq ?_)
 exact⟨_,_,Zq,rfl,nn,kk⟩
end
end Go.Proofs.YtdmendgkbikkaaaGreatDoor
