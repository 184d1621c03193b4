/- blocks.Free: the sum of what the descriptors say. -/
import Derived.Test.YtdmendgkbikkaaaGreatDoorBta
set_option linter.unusedSimpArgs false
set_option linter.unusedVariables false
set_option linter.unusedSectionVars false
set_option maxRecDepth 100000
set_option maxHeartbeats 4000000
namespace Go.Proofs.YtdmendgkbikkaaaGreatDoor
open Go.Ev
noncomputable def q6 (p:List Nat):Code:=piece p (Ut Tryz.f6)
theorem rs6:Tryz.f6.results.toList=[.tmp 2,.tmp 3]:=rfl
attribute [go_sem] rs6
def Za8 (D:List Oi):Nat:=(D.map (·.1)).sum
theorem Zib {D:List Oi} {t:Nat} {x:Oi} (h:D[t]? = some x):Za8 (D.take (t+1))=Za8 (D.take t)+x.1:=by
 unfold Za8
 rw[List.take_add_one,h,Option.toList_some,List.map_append,List.sum_append]
 rfl
theorem Zj8 {D:List Oi} {b:Nat} (h:∀ x∈D,x.1≤b):∀ t,Za8 (D.take t)≤t * b
 | 0=>Nat.zero_le _
 | t+1=>by
  rcases Nat.lt_or_ge t D.length with w|w
  ·rw[Zib (List.getElem?_eq_getElem w),Nat.succ_mul]
   exact Nat.add_le_add (Zj8 h t) (h _ (List.getElem_mem w))
  ·have:=Zj8 h t
   rw[List.take_of_length_le w] at this
   rw[List.take_of_length_le (by omega),Nat.succ_mul]
   omega
section
variable (Hh:Hearts K Tryz.prog)
include Hh
theorem Zvt {D:List Oi} (D4:D.length≤4) (hb:∀ x∈D,x.1≤2048) {p b0:Nat}:∀ (r k:Nat) (ts:Zw) (h:Go.Ev.H),k+r=D.length→b0≤h.next→h.get p=some (.row 3 (D.map O9) false)→p<b0→Zi ts 23=.w (.c (.slice p 0 D.length 3))→Zi ts 24=.w (.c (.int .i64 (D.length:Nat)))→Zi ts 25=.w (.c (.int .i64 (k:Nat)))→Zi ts 7=.w (.c (.int .i64 (Za8 (D.take k):Nat))) →
  Ya 35 none (q6 [1,1,1,1,1,0,1,2]) [] ts h fun x ds' ts' h'=>x=.exit 0∧ds'=[]∧Zi ts' 7=.w (.c (.int .i64 (Za8 D:Nat)))∧h.next≤h'.next∧∀ m,m<b0→h'.get m=h.get m:=by
 intro r
 induction r with
 | zero =>
  intro k ts h hk nb hp pl t23 t24 t25 t7
  obtain rfl:k=D.length:=by omega
  rw[List.take_length] at t7
  have dl:decide ((D.length:Int)<(D.length:Int))=false:=decide_eq_false (by omega)
  have Jf:=Uc @t24 @t25 @dl
  iterate 6 (first|apply Zp|apply Oe|apply Yt|refine Goes.Zn Zq ?_|refine Zy Hh Za Zq ?_)
  refine⟨rfl,rfl,?_,Nat.le_refl _,fun m _=>rfl⟩
  simp (maxSteps:=9^6) +decide (disch:=first|omega|(simp only[lens]<;>omega)|decide) only [go_sem,Zm,Ze,simprocAttr,t7]
 | succ r ih =>
  intro k ts h hk nb hp pl t23 t24 t25 t7
  have kl:k<D.length:=by omega
  obtain⟨x,hx⟩:∃ x,D[k]? = some x:=⟨_,List.getElem?_eq_getElem kl⟩
  have x1:=hb x (List.mem_of_getElem? hx)
  have sm:=Zib hx
  have sl:=Zj8 hb k
  have sl4:Za8 (D.take k)≤8192:=by
   have:k * 2048≤4 * 2048:=Nat.mul_le_mul_right _ (by omega)
   omega
  have dl:decide ((k:Int)<(D.length:Int))=true:=decide_eq_true (by omega)
  have rx:(D.map O9)[k]? = some (O9 x):=by rw[List.getElem?_map,hx]; rfl
  have r3:Zm 3 (D.map O9) (k * 3) 3=some (O9 x):=by
   have e1:k * 3 / 3=k:=by omega
   have e2:k * 3 % 3=0:=by omega
   simp only[Zm,e1,e2,rx]
   rfl
  have e7:((Za8 (D.take k):Nat):Int)+((x.1:Nat):Int)=((Za8 (D.take (k+1)):Nat):Int):=by rw[sm]; rfl
  have r0:read1 3 [O9 x] 0=some (.int .i64 (x.1:Nat)):=rfl
  have l3:(O9 x).length=3:=rfl
  obtain⟨Dl,hDl⟩:∃ Dl,D.length=Dl:=⟨_,rfl⟩
  rw[hDl] at dl t23 t24 ih
  obtain⟨Y,hY⟩:∃ Y,O9 x=Y:=⟨_,rfl⟩
  rw[hY] at r3 r0 l3
  obtain⟨R,hR⟩:∃ R,D.map O9=R:=⟨_,rfl⟩
  rw[hR] at hp r3 ih
  obtain⟨z,hz⟩:∃ z,Za8 (D.take k)=z:=⟨_,rfl⟩
  obtain⟨z',hz'⟩:∃ z,Za8 (D.take (k+1))=z:=⟨_,rfl⟩
  rw[hz] at t7 sl4
  rw[hz,hz'] at e7
  have Jf:=Oz @t23 @t24 @t25 (Ur @t7 @dl @hp @r3 @r0 @l3 @e7 @Nat.zero_add @Nat.add_zero)
  iterate 12 (first|apply Zp|apply Z6|apply Yk|apply Yt|refine Goes.Zn Z5 ?_|refine Zy Hh Za Z5 ?_)
  show Ya 35 none (q6 [1,1,1,1,1,0,1,2]) _ _ _ _
  refine (ih (k+1) _ _ (by omega) ?_ ?_ pl ?_ ?_ ?_ ?_).mono ?_
  ·simp only[H.Zf,H.Zc]; omega
  ·exact Eq.trans (by exact Jg) hp
  ·have Jf:=@t23; exact Zq
  ·have Jf:=@t24; exact Zq
  ·exact Zj
  ·rw[hz']; exact Zj
  ·rintro x1 d1 s1 h1 ⟨q1,q2,q3,q4,q5⟩
   refine⟨q1,q2,q3,?_,fun m hm=>(q5 m hm).trans (by exact Jg)⟩
   simp only[H.Zf,H.Zc] at q4; omega
variable {n q a b c e:Nat} {cr:Cr} {md:Int} {S T:List Nat} {V:Nat→List Nat} {h:Go.Ev.H}
theorem Zvu (f:Y2 a b c e=true) (M:HE n q a b c e cr md S T V h) {D:List Oi} (dd:Des V a b c D) (hb:∀ x∈D,x.1≤2048) :
  ∃ h',Zg 6 [.c (.ptr (n+13) 0)] h (.tup [.c (.int .i64 (Za8 D:Nat)),.c (.int .i64 0)]) h'∧HE n q a b c e cr md S T V h'∧Kr n q h h':=by
 obtain⟨g1,g2,g3,g4,g5,g6,g7,g8,g9,g10,g11⟩:=Yh f
 obtain⟨nq,nx,n0⟩:=M.nx
 obtain⟨st,⟨kn,hs⟩,⟨dk,gl⟩,ht⟩:=M.cells
 unfold gdL gdD at gl
 obtain⟨h1,p,c1,M1,k1,p1,p2,p3⟩:=Zqn Hh f M dd
 have Dl:=dd.2.2
 have lf:Yv K 59 (.c (.slice p 0 a 3))=true:=by kernel_rfl
 refine F5 ?_
 refine Jd Hh Tryz.f6 ?_
 have Jf:=Oz @f @hs @gl @lf
 iterate 10 (first|apply Zp|apply Z6|refine Goes.Zn Je ?_|refine Zy Hh (EY Za (Zif Hh)) Je ?_)
 iterate 12 (first|apply Zp|apply Z6|apply Yk|refine Goes.Zn Je ?_|refine Zy Hh (Zu Za c1) Je ?_)
 refine (Zvt Hh (D:=D) (by omega) hb (p:=p) (b0:=h1.next) D.length 0 _ h1 (by omega) (Nat.le_refl _) p3 p2 ?_ ?_ ?_ ?_).mono ?_
 ·rw[Dl]; exact Zj
 ·rw[Dl]; exact Zj
 ·exact Zj
 ·exact Zj
 rintro x ds' ts' h2 ⟨rfl,rfl,t7,nn,kk⟩
 have Jf:=Uq Jf @t7
 iterate 3 (first|apply Zp|apply Yb|refine Zy Hh Za Je ?_)
 refine⟨_,_,Zq,rfl,M1.keep nn (fun m hm=>kk m (by have:=M1.nx; omega)),⟨by have:=k1.1; omega,fun m hm hne=>(kk m (by have:=k1.1; omega)).trans (k1.2 m hm hne)⟩⟩
end
end Go.Proofs.YtdmendgkbikkaaaGreatDoor
