/- quernlaw25.twice: no number stands twice. -/
import Derived.Test.YtdmendgkbikkaaaGreatDoorSli
set_option linter.unusedSimpArgs false
set_option linter.unusedVariables false
set_option linter.unusedSectionVars false
set_option maxRecDepth 100000
set_option maxHeartbeats 4000000
namespace Go.Proofs.YtdmendgkbikkaaaGreatDoor
open Go.Ev
noncomputable def q10 (p:List Nat):Code:=piece p (Ut Tryz.f10)
theorem rs10:Tryz.f10.results.toList=[.tmp 2]:=rfl
attribute [go_sem] rs10
section
variable (Hh:Hearts K Tryz.prog)
include Hh
theorem Z63 {l:List Nat} {p i:Nat} {h:Go.Ev.H} (nd:l.Nodup) (il:i<l.length) (ll:l.length<1000000) (hp:h.get p=some (.row 1 (rwI l) false)):∀ (r j:Nat) (ts:Zw),j+r=i→Zi ts 0=.w (.c (.slice p 0 l.length 1))→Zi ts 3=.w (.c (.int .i64 (i:Int)))→Zi ts 4=.w (.c (.int .i64 (j:Int))) →
  Ya 25 none (q10 [1,0,1,2,2,1,0,2,1,2]) [] ts h fun x ds' ts' h'=>x=.exit 2∧ds'=[]∧h'=h∧Zi ts' 0=.w (.c (.slice p 0 l.length 1))∧Zi ts' 3=.w (.c (.int .i64 (i:Int))):=by
 intro r
 induction r with
 | zero =>
  intro j ts hj t0 t3 t4
  obtain rfl:j=i:=by omega
  have dd:decide ((j:Int)<(j:Int))=false:=decide_eq_false (by omega)
  have Jf:=Uc @t3 @t4 @dd
  iterate 6 (first|apply Zp|apply Oe|apply Yt|refine Goes.Zn Zq ?_|refine Zy Hh Za Zq ?_)
  refine⟨rfl,rfl,rfl,?_,?_⟩
  ·have Jf:=@t0; exact Zq
  ·have Jf:=@t3; exact Zq
 | succ r ih =>
  intro j ts hj t0 t3 t4
  have ji:j<i:=by omega
  have hx:l[i]? = some l[i]:=List.getElem?_eq_getElem il
  have hy:l[j]? = some l[j]:=List.getElem?_eq_getElem (by omega)
  have ne:l[j]≠l[i]:=List.pairwise_iff_getElem.1 nd j i (by omega) il ji
  have ei:(((l[i]:Nat):Int) == ((l[j]:Nat):Int))=false:=Bl (by omega)
  have rx:=rdI hx
  have ry:=rdI hy
  obtain⟨x,ex⟩:∃ x,l[i]=x:=⟨_,rfl⟩
  obtain⟨y,ey⟩:∃ y,l[j]=y:=⟨_,rfl⟩
  rw[ex] at rx ei
  rw[ey] at ry ei
  obtain⟨n,hn⟩:∃ n,l.length=n:=⟨_,rfl⟩
  obtain⟨R,hR⟩:∃ R,rwI l=R:=⟨_,rfl⟩
  have hp':=hp
  have t0':=t0
  rw[hR] at hp' rx ry
  rw[hn] at t0' il ll
  have dd:decide ((j:Int)<(i:Int))=true:=decide_eq_true (by omega)
  have Jf:=Zd0 @t0' @t3 @t4 @dd @hp' @rx @ry @ei
  iterate 13 (first|apply Zp|apply Z6|apply Yk|apply Yt|refine Goes.Zn Zq ?_|refine Zy Hh Za Zq ?_|refine Ms Hh Za Vb ?_)
  show Ya 25 none (q10 [1,0,1,2,2,1,0,2,1,2]) _ _ _ _
  refine ih (j+1) _ (by omega) ?_ ?_ ?_
  ·have Jf:=@t0; exact Zq
  ·have Jf:=@t3; exact Zq
  ·exact Zj
theorem Z50 {l:List Nat} {p:Nat} {h:Go.Ev.H} (nd:l.Nodup) (ll:l.length<1000000) (hp:h.get p=some (.row 1 (rwI l) false)):∀ (r i:Nat) (ts:Zw),i+r=l.length→Zi ts 0=.w (.c (.slice p 0 l.length 1))→Zi ts 3=.w (.c (.int .i64 (i:Int))) →
  Ya 25 none (q10 [1,0,1,2]) [] ts h fun x ds' ts' h'=>x=.exit 0∧ds'=[]∧h'=h:=by
 have lf:=Vv
 intro r
 induction r with
 | zero =>
  intro i ts hi t0 t3
  obtain rfl:i=l.length:=by omega
  have Jf:=Uc @t0 @t3 @lf
  iterate 6 (first|apply Zp|apply Oe|apply Yt|refine Goes.Zn Je ?_|refine Zy Hh Za Je ?_)
  exact⟨rfl,rfl,rfl⟩
 | succ r ih =>
  intro i ts hi t0 t3
  have il:i<l.length:=by omega
  have lp:=fun ts=>Z63 Hh nd il ll hp i 0 ts (by omega)
  obtain⟨n,hn⟩:∃ n,l.length=n:=⟨_,rfl⟩
  have t0':=t0
  rw[hn] at t0' il
  simp only[hn] at lp ih
  have dd:decide ((i:Int)<(n:Int))=true:=decide_eq_true (by omega)
  have Jf:=Oz @t0' @t3 @lf @dd
  iterate 11 (first|apply Zp|apply Z6|apply Yk|apply Yt|refine Goes.Zn Je ?_|refine Zy Hh Za Je ?_)
  refine (lp _ ?_ ?_ ?_).mono ?_
  ·have Jf:=@t0'; exact Zq
  ·have Jf:=@t3; exact Zq
  ·exact Zj
  rintro x ds' ts' h' ⟨rfl,rfl,rfl,u0,u3⟩
  have Jf:=@u3
  refine Zy Hh Za Zq ?_
  show Ya 25 none (q10 [1,0,1,2]) _ _ _ _
  refine ih (i+1) _ (by omega) ?_ ?_
  ·have Jf:=@u0; exact Zq
  ·exact Zj
theorem Z1e {h:Go.Ev.H} {c:C} {l:List Nat} (nd:l.Nodup) (ll:l.length<1000000) (s:SlI h c l):Zg 10 [.c c] h (.w (.c (.bool false))) h:=by
 have lf:=Vv
 have lf0:=Zjp
 rcases s with ⟨rfl,rfl⟩|⟨p,l1,rfl,hp⟩
 ·
  refine fnG Hh Tryz.f10 ?_
  have Jf:=@lf0
  repeat (first|apply Zp|apply Yk|apply Yt|apply Z6|apply Oe|apply Yb|refine Goes.Zn Je ?_|refine Zy Hh Za Je ?_|refine Ms Hh Za Zuu ?_)
  exact Zj
 ·obtain⟨v,h',cc,rfl,rfl⟩:∃ v h',Zg 10 [.c (.slice p 0 l.length 1)] h v h'∧v=.w (.c (.bool false))∧h'=h:=by
   have lp:=fun ts=>Z50 Hh nd ll hp l.length 0 ts (by omega)
   refine Jd Hh Tryz.f10 ?_
   iterate 6 (first|apply Zp|apply Yk|refine Zy Hh Za Zj ?_)
   refine (lp _ ?_ ?_).mono ?_
   ·exact Zj
   ·exact Zj
   rintro x ds' ts' h' ⟨rfl,rfl,rfl⟩
   iterate 3 (first|apply Zp|apply Yb|refine Zy Hh Za Zj ?_)
   exact⟨_,_,Zj,rfl,rfl⟩
  exact cc
end
end Go.Proofs.YtdmendgkbikkaaaGreatDoor
