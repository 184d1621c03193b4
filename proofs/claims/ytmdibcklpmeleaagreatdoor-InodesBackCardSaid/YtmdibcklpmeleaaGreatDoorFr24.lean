/- Undo of a store's handle. -/
import Derived.Test.YtmdibcklpmeleaaGreatDoorIbk
import Derived.Test.YtmdibcklpmeleaaGreatDoorInp
set_option linter.unusedSimpArgs false
set_option linter.unusedVariables false
set_option linter.unusedSectionVars false
set_option maxRecDepth 100000
set_option maxHeartbeats 4000000
namespace Go.Proofs.YtmdibcklpmeleaaGreatDoor
open Go.Ev
theorem rs35:Tryz.f35.results.toList=[.tmp 2]:=rfl
theorem rs10:Tryz.f10.results.toList=[.tmp 2]:=rfl
attribute [go_sem] rs35 rs10
def Zxt (X:Tx) (c1 c2 c3 r:Nat):Tx:={ X with ch:=c1,od:=c2,fr:=c3,rv:=r }
noncomputable def Zbl (h:Go.Ev.H) (t:Nat) (X:Tx):Go.Ev.H:=Zbe (h.put t (.row 13 [txL X] false)) t X
noncomputable def toP:C→Option Nat
 | .ptr r o=>Y2 (Nat.beq o 0) (some r)
 | _=>none
theorem Z7j {c:C} {m:Nat} (e:toP c=some m):c=.ptr m 0:=by
 cases c<;>first|(cases e; done)|skip
 obtain⟨b,e⟩:=Zu.1 e
 cases e
 obtain rfl:=Nat.eq_of_beq_eq_true b
 rfl
theorem Z9q (r:Nat):toP (.ptr r 0)=some r:=rfl
noncomputable def Zwa:Kn1:=fun args h=>match args with
 | [.c (.ptr t 0)]=>(Gw h t).bind fun X=>(toN X.b1).bind fun c1=>(toN X.b2).bind fun c2=>(toN X.b3).bind fun c3=>(toP X.b4).bind fun r=>Y2 X.op (some (.w (.c (.int .i64 0)),Zbl h t (Zxt X c1 c2 c3 r)))
 | _=>none
attribute [go_sem] Zwa Z9q
section
variable (Hh:Hearts K Tryz.prog)
include Hh
theorem Z1v {args:List W} {h h':Go.Ev.H} {v:V} (e:Zwa args h=some (v,h')):Zd K Tryz.prog 35 args h v h':=by
 unfold Zwa at e
 split at e
 ·rename_i t
  obtain⟨X,ht,e⟩:=Zo e
  have ht:=Y5 ht
  obtain⟨c1,h1,e⟩:=Zo e
  have h1:=Zal h1
  obtain⟨c2,h2,e⟩:=Zo e
  have h2:=Zal h2
  obtain⟨c3,h3,e⟩:=Zo e
  have h3:=Zal h3
  obtain⟨r,h4,e⟩:=Zo e
  have h4:=Z7j h4
  obtain⟨bo,e⟩:=Zu.1 e
  cases e
  obtain⟨ch,od,fr,rv,sq,op,cr,rk,to,b1,b2,b3,b4⟩:=X
  obtain rfl:b1=_:=h1
  obtain rfl:b2=_:=h2
  obtain rfl:b3=_:=h3
  obtain rfl:b4=_:=h4
  obtain rfl:op=true:=bo
  have pp:=@H.Zeg
  refine Zd.goes fits Hh (by kernel_rfl) (by kernel_rfl) (by kernel_rfl) (show Tryz.f35.body=some _ from rfl) rfl ?_
  repeat (first
   | refine Goes.seq ?_
   | refine Goes.block ?_
   | refine Goes.loop ?_
   | refine Goes.skip ?_
   | refine Goes.exit ?_
   | refine Goes.ret ?_
   | refine Goes.Z4 (by simp (maxSteps:=9^6) +decide (disch:=first|omega|(simp only[lens]<;>omega)|decide) only [go_sem,Zc,Za,simprocAttr,ht,read1,Zx]<;>rfl) ?_
   | refine Goes.ops2 fits Hh (Zf (Zf Zb (fun _ _ _ _=>Znr Hh)) (fun _ _ _ _=>Zvk Hh)) (by simp (maxSteps:=9^6) +decide (disch:=first|omega|(simp only[lens]<;>omega)|decide) only [go_sem,Zc,Za,simprocAttr,ht,read1,Zx]; rfl) ?_)
  simp (maxSteps:=9^6) +decide (disch:=first|omega|(simp only[lens]<;>omega)|decide) only [go_sem,Zc,Za,simprocAttr,Zbl,Zxt,Zbe]<;>rfl
 ·cases e
theorem Yax {n a b c e:Nat} {md:Int} {S:Stt} {X:Tx} {lc:Gt} {L:List (List C)} {h:Go.Ev.H} (f:U7 a b c e=true) (R:RsE n a b c e md S X lc L h) (bo:X.op=true) {c1 c2 c3 r:Nat} (b1:X.b1=.map c1) (b2:X.b2=.map c2) (b3:X.b3=.map c3) (b4:X.b4=.ptr r 0) (hv:h.get c1=some (.map [])) (cl:c1<h.next) (c6:c1≠n+6) (t13:S.tx≠n+13) :
  ∃ h' S' X',Zd K Tryz.prog 10 [.c (.ptr (n+13) 0)] h (.w (.c (.int .i64 0))) h'∧RsE n a b c e md S' X' [] L h'∧h.next≤h'.next∧∀ m,m<h.next→m≠n+13→m≠S.tx→h'.get m=h.get m:=by
 obtain⟨lm,fl,sn,R⟩:=R
 obtain⟨nx,f1,f2,f3,f4,f5,f6,f7,f8,f9,f10,l1,l2,l3,l4,e1,e2,e3,e4⟩:=R
 have cs:c1≠n+13:=fun q=>by rw[q,f1] at hv; cases hv
 have ct:c1≠S.tx:=fun q=>by rw[q,f2] at hv; cases hv
 have d6:S.tx≠n+13:=t13
 have q1:=Zi3 c1
 have q2:=Zi3 c2
 have q3:=Zi3 c3
 have c0:Zd K Tryz.prog 10 [.c (.ptr (n+13) 0)] h (.w (.c (.int .i64 0))) (Zbl (O9 h (n+13) S) S.tx (Zxt X c1 c2 c3 r)):=by
  obtain⟨ch,od,fr,rv,sq,op,cr,rk,to,x1,x2,x3,x4⟩:=X
  obtain rfl:x1=_:=b1
  obtain rfl:x2=_:=b2
  obtain rfl:x3=_:=b3
  obtain rfl:x4=_:=b4
  obtain rfl:op=true:=bo
  refine Zd.goes fits Hh (by kernel_rfl) (by kernel_rfl) (by kernel_rfl) (show Tryz.f10.body=some _ from rfl) rfl ?_
  repeat (first
   | refine Goes.seq ?_
   | refine Goes.block ?_
   | refine Goes.loop ?_
   | refine Goes.skip ?_
   | refine Goes.exit ?_
   | refine Goes.ret ?_
   | refine Goes.Z4 (by simp (maxSteps:=9^6) +decide (disch:=first|omega|(simp only[lens]<;>omega)|decide) only [go_sem,Zc,Za,simprocAttr,f1,f2,f3,gdL,gdN,f,q1,q2,q3,read1]<;>rfl) ?_
   | refine Goes.ops2 fits Hh (Zf (Zf (Zf Zb (fun _ _ _ _=>Zoo Hh)) (fun _ _ _ _=>D9 Hh)) (fun _ _ _ _=>Z1v Hh)) (by simp (maxSteps:=9^6) +decide (disch:=first|omega|(simp only[lens]<;>omega)|decide) only [go_sem,Zc,Za,simprocAttr,f1,f2,f3,gdL,gdN,f,q1,q2,q3,read1]; rfl) ?_)
  simp (maxSteps:=9^6) +decide (disch:=first|omega|(simp only[lens]<;>omega)|decide) only [go_sem,Zc,Za,simprocAttr,O9]<;>rfl
 have gs:∀ m,m<h.next→m≠n+13→m≠S.tx→(Zbl (O9 h (n+13) S) S.tx (Zxt X c1 c2 c3 r)).get m=h.get m:=fun m hm h1 h2=>by
  unfold Zbl Zbe O9
  simp (discharger:=omega) only [H.get_put,H.Zh,H.Ze,H.Zg,if_neg]
 have ng:∀ {m:Nat} {o:O} {es:List (W × W)},h.get m=some o→(∀ q,o≠.row 8 [stL q] false)→m≠n+13:=fun hm ho q=>by
  rw[q,f1] at hm
  cases hm
  exact ho _ rfl
 have nt:∀ {m:Nat} {o:O},h.get m=some o→(∀ q,o≠.row 13 [txL q] false)→m≠S.tx:=fun hm ho q=>by
  rw[q,f2] at hm
  cases hm
  exact ho _ rfl
 refine⟨_,{ S with dt:=h.next,gv:=h.next+1,kn:=false },Z0f (Zxt X c1 c2 c3 r),c0,⟨lm,fl,sn,?_⟩,?_,gs⟩
 ·refine⟨?_,?_,?_,?_,?_,?_,?_,?_,?_,?_,?_,?_,?_,?_,?_,e1,e2,?_,c6⟩
  ·unfold Zbl Zbe O9; simp only[H.Ze,H.Zg]; omega
  ·unfold Zbl Zbe O9; simp (discharger:=omega) only [H.get_put,H.Zh,H.Ze,H.Zg,if_neg,if_true]
  ·show (Zbl (O9 h (n+13) S) S.tx (Zxt X c1 c2 c3 r)).get S.tx=_
   unfold Zbl Zbe; exact Yk _ _ _
  ·exact (gs _ l2 (ng (es:=[]) f3 fun q h=>by cases h) (nt f3 fun q h=>by cases h)).trans f3
  ·exact (gs _ (by omega) (by omega) (nt f4 fun q h=>by cases h)).trans f4
  ·exact (gs _ (by omega) (by omega) (nt f5 fun q h=>by cases h)).trans f5
  ·exact (gs _ (by omega) (by omega) (nt f6 fun q h=>by cases h)).trans f6
  ·exact (gs _ (by omega) (by omega) (nt f7 fun q h=>by cases h)).trans f7
  ·show (Zbl (O9 h (n+13) S) S.tx (Zxt X c1 c2 c3 r)).get h.next=_
   unfold Zbl Zbe O9; simp (discharger:=omega) only [H.get_put,H.Zh,H.Ze,H.Zg,if_neg,if_true]
  ·exact (gs c1 cl cs ct).trans hv
  ·exact (gs _ (by omega) (by omega) (nt f10 fun q h=>by cases h)).trans f10
  ·show S.tx<_
   unfold Zbl Zbe O9; simp only[H.Ze,H.Zg]; omega
  ·show S.gd<_
   unfold Zbl Zbe O9; simp only[H.Ze,H.Zg]; omega
  ·show h.next<_
   unfold Zbl Zbe O9; simp only[H.Ze,H.Zg]; omega
  ·show c1<_
   unfold Zbl Zbe O9; simp only[H.Ze,H.Zg]; omega
  ·show h.next≠n+6
   omega
 ·unfold Zbl Zbe O9; simp only[H.Ze,H.Zg]; omega
end
end Go.Proofs.YtmdibcklpmeleaaGreatDoor
set_option maxRecDepth 100000
set_option maxHeartbeats 4000000
namespace Go.Proofs.YtmdibcklpmeleaaGreatDoor
open Go.Ev
theorem Zr3 (k l g s p0 p1 p2 p3 p4 p5 p6 p7 p8 p9 p10 nx:Int):eqT K 20 30 (.g (Dq k l g s p0 p1 p2 p3 p4 p5 p6 p7 p8 p9 p10 nx)) (.g (Dq k l g s p0 p1 p2 p3 p4 p5 p6 p7 p8 p9 p10 nx))=some true:=by
 have e1:eqT K 20 30 (.g (Dq k l g s p0 p1 p2 p3 p4 p5 p6 p7 p8 p9 p10 nx)) (.g (Dq k l g s p0 p1 p2 p3 p4 p5 p6 p7 p8 p9 p10 nx))=mB (k == k) (mB (l == l) (mB (g == g) (mB (s == s) (mO (Ym [.int .u32 p0,.int .u32 p1,.int .u32 p2,.int .u32 p3,.int .u32 p4,.int .u32 p5,.int .u32 p6,.int .u32 p7,.int .u32 p8,.int .u32 p9,.int .u32 p10] [.int .u32 p0,.int .u32 p1,.int .u32 p2,.int .u32 p3,.int .u32 p4,.int .u32 p5,.int .u32 p6,.int .u32 p7,.int .u32 p8,.int .u32 p9,.int .u32 p10]) (mB (nx == nx) (some true)))))):=by kernel_rfl
 rw[e1]
 simp only[Ym,beq_self_eq_true,if_true,cond_true,Zzc,Zzg,Bool.true_and]
theorem Yh3 (ns:List Nat) (p:Nat):eqT K 20 30 (.g (Mf ns p).1) (.g (Mf ns p).1)=some true:=by
 unfold Mf
 cases Nat.beq (atN ns (p+1)) 0&&(Sw ns (p+60) 4&&Zk4 ns p)
 ·exact Zr3 ..
 ·exact Zr3 ..
theorem eqG (a b c e:Nat) (U:Nat→List Nat) (z:Int):eqT K 20 30 (.g (gI a b c e U z).1) (.g (gI a b c e U z).1)=some true:=by
 unfold gI
 split
 ·exact Yh3 ..
 ·exact Zr3 ..
theorem Zqv (a b c e:Nat) (U:Nat→List Nat) (z:Int):(gI a b c e U z).1.length=16:=by
 unfold gI
 split
 ·exact Zud ..
 ·rfl
def Yfw (a b c e:Nat) (lc:Gt) (L:List (List C)) (U:Nat→List Nat):Prop:=∀ j,j<a * c→At lc L (Dp b c e j) (pgL (U (Dp b c e j)))∧(U (Dp b c e j)).length=256
section
variable {n a b c e:Nat} {L:List (List C)} {h h' h2:Go.Ev.H}
theorem sees0 (F:Fine a b c e) (I:Image a b c e L):Yfw a b c e [] L (U0 e):=fun j hj=>⟨.inr ⟨rfl,I.at F hj⟩,Qx ..⟩
theorem sees1 (F:Fine a b c e) (I:Image a b c e L) (z:Nat) {x:List Nat} (xl:x.length=256):Yfw a b c e [((z:Int),pgL x)] L (U1 (U0 e) z x):=fun j hj=>by
 obtain⟨w,hw⟩:∃ w,Dp b c e j=w:=⟨_,rfl⟩
 have hI:=I.at F hj
 rw[hw] at hI ⊢
 unfold U1 At Oy
 by_cases q:w=z
 ·subst q
  rw[if_pos rfl,beq_self_eq_true,cond_true]
  exact⟨.inl rfl,xl⟩
 ·have:((w:Int) == (z:Int))=false:=beq_eq_false_iff_ne.2 (by omega)
  rw[if_neg q,this,cond_false]
  exact⟨.inr ⟨rfl,hI⟩,Qx ..⟩
def Ks (n:Nat) (h h':Go.Ev.H):Prop:=h.next≤h'.next∧∀ m,m<h.next→m<n∨n+26≤m→h'.get m=h.get m
theorem Ks.of (hx:h.next≤h'.next) (k:∀ m,m<h.next→h'.get m=h.get m):Ks n h h':=⟨hx,fun m hm _=>k m hm⟩
theorem Rd.ks (r:Rd n L h h'):Ks n h h':=⟨r.1,fun m hm q=>r.2.1 m hm (by omega)⟩
theorem Ks.then (r:Ks n h h') (r2:Ks n h' h2):Ks n h h2:=⟨Nat.le_trans r.1 r2.1,fun m hm q=>(r2.2 m (Nat.lt_of_lt_of_le hm r.1) q).trans (r.2 m hm q)⟩
end
section
variable (Hh:Hearts K Tryz.prog)
include Hh
variable {n a b c e:Nat} {md:Int} {kn:Bool} {L:List (List C)} {h:Go.Ev.H}
theorem Yas (f:U7 a b c e=true) (I:Image a b c e L) (M:MdE n a b c e md kn [] [] L h) (z:Int) {k l g s p0 p1 p2 p3 p4 p5 p6 p7 p8 p9 p10 nx:Int} (gb:0≤g∧g<4294967296) (pb:∀ v∈[p0,p1,p2,p3,p4,p5,p6,p7,p8,p9,p10],0≤v∧v<4294967296) (nb:0≤nx∧nx<4294967296) :
  ∃ h' r kn' lt lc U,Zd K Tryz.prog 9 [.c (.ptr (n+13) 0),.c (.int .i64 z),.g (Dq k l g s p0 p1 p2 p3 p4 p5 p6 p7 p8 p9 p10 nx)] h (.w (.c (.int .i64 r))) h'∧MdE n a b c e md kn' lt lc L h'∧Yfw a b c e lc L U∧Ks n h h' ∧
   (r=0∧(gI a b c e (U0 e) z).2=0∧gI a b c e U z=(Dq k l g s p0 p1 p2 p3 p4 p5 p6 p7 p8 p9 p10 nx,0)∨(r=2∨r=70)∧gI a b c e U z=gI a b c e (U0 e) z)∧∀ z2,z≠z2→gI a b c e U z2=gI a b c e (U0 e) z2:=by
 have F:=Yn f
 by_cases hz:1≤z∧z≤((a * c:Nat):Int)
 ·cases hm:Zh4 k l s p0 p1 p2 p3 p4 p5 p6 p7 p8 p9 p10 nx with
  | false =>
   obtain⟨h',cc,rd⟩:=Yhz Hh f M hz (g:=g) hm
   exact⟨h',70,kn,[],[],U0 e,cc,M.rd rd,sees0 F I,rd.ks,.inr ⟨.inr rfl,rfl⟩,fun _ _=>rfl⟩
  | true =>
   obtain⟨k1,k2,l1,l2,s1,s2⟩:=Zvu hm
   obtain⟨j,hj⟩:∃ j,z.toNat - 1=j:=⟨_,rfl⟩
   have ok:=Yhx a b c e z hz
   have hz':=hz
   obtain⟨z1,z2⟩:=hz
   obtain rfl:z=((j+1:Nat):Int):=by omega
   have jl:j<a * c:=by omega
   obtain⟨k,rfl⟩:=Int.eq_ofNat_of_zero_le k1
   obtain⟨l,rfl⟩:=Int.eq_ofNat_of_zero_le l1
   obtain⟨s,rfl⟩:=Int.eq_ofNat_of_zero_le s1
   obtain⟨g,rfl⟩:=Int.eq_ofNat_of_zero_le gb.1
   obtain⟨nx,rfl⟩:=Int.eq_ofNat_of_zero_le nb.1
   have bb:∀ v,v∈[p0,p1,p2,p3,p4,p5,p6,p7,p8,p9,p10]→∃ w:Nat,v=(w:Int)∧w<4294967296:=fun v hv=>by
    obtain⟨v1,v2⟩:=pb v hv
    exact⟨v.toNat,by omega,by omega⟩
   obtain⟨p0,rfl,b0⟩:=bb p0 (by simp)
   obtain⟨p1,rfl,b1⟩:=bb p1 (by simp)
   obtain⟨p2,rfl,b2⟩:=bb p2 (by simp)
   obtain⟨p3,rfl,b3⟩:=bb p3 (by simp)
   obtain⟨p4,rfl,b4⟩:=bb p4 (by simp)
   obtain⟨p5,rfl,b5⟩:=bb p5 (by simp)
   obtain⟨p6,rfl,b6⟩:=bb p6 (by simp)
   obtain⟨p7,rfl,b7⟩:=bb p7 (by simp)
   obtain⟨p8,rfl,b8⟩:=bb p8 (by simp)
   obtain⟨p9,rfl,b9⟩:=bb p9 (by simp)
   obtain⟨p10,rfl,b10⟩:=bb p10 (by simp)
   have pb':∀ v∈[p0,p1,p2,p3,p4,p5,p6,p7,p8,p9,p10],v<4294967296:=fun v hv=>by
    simp only[List.mem_cons,List.not_mem_nil,or_false] at hv
    rcases hv with rfl|rfl|rfl|rfl|rfl|rfl|rfl|rfl|rfl|rfl|rfl<;>assumption
   have kb:k<256:=by omega
   have lb:l<65536:=by omega
   have sb:s<4294967296:=by omega
   have gb':g<4294967296:=by omega
   have nb':nx<4294967296:=by omega
   obtain⟨h',cc,M',hn,hk⟩:=Yf3 Hh f M jl (I.at F jl) (Qx ..) kb lb gb' sb pb' nb' hm
   have pc:=N9 c j
   have e1:gI a b c e (U1 (U0 e) (Dp b c e j) (F5 (U0 e (Dp b c e j)) (Nh c j) k l g s [p0,p1,p2,p3,p4,p5,p6,p7,p8,p9,p10] nx)) ((j+1:Nat):Int)=(Dq k l g s p0 p1 p2 p3 p4 p5 p6 p7 p8 p9 p10 nx,0):=by
    unfold gI
    rw[if_pos hz',hj]
    unfold U1
    rw[if_pos rfl,Z38 (by rw[Qx]; omega) kb lb gb' sb pb' nb' hm]
   refine⟨h',0,false,_,_,U1 (U0 e) (Dp b c e j) (F5 (U0 e (Dp b c e j)) (Nh c j) k l g s [p0,p1,p2,p3,p4,p5,p6,p7,p8,p9,p10] nx),cc,M',sees1 F I _ (by rw[Ziy (by rw[Qx]; omega),Qx]),⟨hn,fun m hm q=>hk m hm fun q'=>by unfold Zt4 at q'; omega⟩,.inl ⟨rfl,ok,e1⟩,fun z2 ne=>?_⟩
   have:=Z5e (k:=k) (l:=l) (g:=g) (s:=s) (nx:=nx) (ps:=[p0,p1,p2,p3,p4,p5,p6,p7,p8,p9,p10]) F hz' ne rfl
   rw[hj] at this
   exact this
 ·obtain⟨h',cc,rd⟩:=Yg0 Hh f M hz (y:=Dq k l g s p0 p1 p2 p3 p4 p5 p6 p7 p8 p9 p10 nx) rfl
  exact⟨h',2,kn,[],[],U0 e,cc,M.rd rd,sees0 F I,rd.ks,.inr ⟨.inl rfl,rfl⟩,fun _ _=>rfl⟩
end
end Go.Proofs.YtmdibcklpmeleaaGreatDoor
set_option maxRecDepth 100000
set_option maxHeartbeats 4000000
namespace Go.Proofs.YtmdibcklpmeleaaGreatDoor
open Go.Ev
noncomputable def q6 (p:List Nat):Code:=piece p (Z5 Tryz.f6)
theorem q6_:q6 []=.seq (q6 [0]) (q6 [1]):=by kernel_rfl
theorem q6_0:q6 [0]=.region 0 (Zt (q6 [0])) false:=by kernel_rfl
theorem q6_1:q6 [1]=.seq (q6 [1,0]) (q6 [1,1]):=by kernel_rfl
theorem Ygt:q6 [1,0]=.region 1 (Zt (q6 [1,0])) false:=by kernel_rfl
theorem Ygd:q6 [1,1]=.seq (q6 [1,1,0]) (q6 [1,1,1]):=by kernel_rfl
theorem Yd7:q6 [1,1,0]=.region 2 (Zt (q6 [1,1,0])) false:=by kernel_rfl
theorem Yfk:q6 [1,1,1]=.seq (q6 [1,1,1,0]) (q6 [1,1,1,1]):=by kernel_rfl
theorem Z97:q6 [1,1,1,0]=.seq (q6 [1,1,1,0,0]) (q6 [1,1,1,0,1]):=by kernel_rfl
theorem Z8b:q6 [1,1,1,0,0]=.region 3 (Zt (q6 [1,1,1,0,0])) false:=by kernel_rfl
theorem Z6d:q6 [1,1,1,0,1]=.cond (.tmp 27) (q6 [1,1,1,0,1,3]) (q6 [1,1,1,0,1,4]):=by kernel_rfl
theorem Z3t:q6 [1,1,1,0,1,4]=.skip:=by kernel_rfl
theorem Ya9:q6 [1,1,1,1]=.seq (q6 [1,1,1,1,0]) (q6 [1,1,1,1,1]):=by kernel_rfl
theorem Z8a:q6 [1,1,1,1,0]=.region 5 (Zt (q6 [1,1,1,1,0])) false:=by kernel_rfl
theorem Z8v:q6 [1,1,1,1,1]=.seq (q6 [1,1,1,1,1,0]) (q6 [1,1,1,1,1,1]):=by kernel_rfl
theorem Z2h:q6 [1,1,1,1,1,0]=.region 6 (Zt (q6 [1,1,1,1,1,0])) false:=by kernel_rfl
theorem Z12:q6 [1,1,1,1,1,1]=.ret:=by kernel_rfl
theorem rs6:Tryz.f6.results.toList=[.tmp 4,.tmp 5]:=rfl
attribute [go_sem] rs6
noncomputable def frM (h:Go.Ev.H) (a b c e:Nat) (md:Int) (L:List (List C)):Go.Ev.H:=Mx (((((h.new (.row 4 [Yf a b c e] false)).new (.row 256 L false)).new (.row 256 L false)).new (.row 256 L false)).new (.row 6 [dkL ⟨h.next+1+1,h.next+1+1+1,2+e+a * b,.snil,0,0⟩] false)) (h.next+1+1+1+1) a b c e md 1
def stB (n:Nat):Stt:=⟨n+12,n+20,n+21,n+22,.snil,false⟩
def txB (n:Nat):Tx:=⟨n+15,n+16,n+17,n+19,1,false,0,0,.mnil,.mnil,.mnil,.mnil,.pnil⟩
noncomputable def begun (h:Go.Ev.H) (a b c e:Nat) (md:Int) (L:List (List C)):Go.Ev.H:=Ztc (O9 (frM h a b c e md L) (h.next+13) (stB h.next)) (h.next+20) (txB h.next) 3 0
theorem Yiu (h:Go.Ev.H) (a b c e:Nat) (md:Int) (L:List (List C)) (fb:U7 a b c e=true):Zdu [.c (.ptr (h.next+13) 0),.c (.int .i64 3),.c (.int .i64 0)] (frM h a b c e md L)=some (.w (.c (.int .i64 0)),begun h a b c e md L):=by
 have f1:(frM h a b c e md L).get (h.next+13)=some (.row 8 [stL (stB h.next)] false):=by unfold frM Mx; simp (discharger:=omega) only [H.get_put,H.Zh,H.Ze,H.Zg,if_neg,if_pos]; rfl
 have f2:(frM h a b c e md L).get (h.next+20)=some (.row 13 [txL (txB h.next)] false):=by unfold frM Mx; simp (discharger:=omega) only [H.get_put,H.Zh,H.Ze,H.Zg,if_neg,if_pos]; rfl
 have f3:(frM h a b c e md L).get (h.next+12)=some (.row 9 [gdL (gdN h.next a b c e md)] false):=by unfold frM Mx; simp (discharger:=omega) only [H.get_put,H.Zh,H.Ze,H.Zg,if_neg,if_pos]; rfl
 have f4:(frM h a b c e md L).get (h.next+19)=some (.row 1 [[.map (h.next+18)]] false):=by unfold frM Mx; simp (discharger:=omega) only [H.get_put,H.Zh,H.Ze,H.Zg,if_neg,if_pos]; rfl
 have f5:(frM h a b c e md L).get (h.next+18)=some (.map []):=by unfold frM Mx; simp (discharger:=omega) only [H.get_put,H.Zh,H.Ze,H.Zg,if_neg,if_pos]<;>rfl
 have f6:(frM h a b c e md L).get (h.next+15)=some (.map []):=by unfold frM Mx; simp (discharger:=omega) only [H.get_put,H.Zh,H.Ze,H.Zg,if_neg,if_pos]<;>rfl
 have f7:(frM h a b c e md L).get (h.next+16)=some (.map []):=by unfold frM Mx; simp (discharger:=omega) only [H.get_put,H.Zh,H.Ze,H.Zg,if_neg,if_pos]<;>rfl
 have f8:(frM h a b c e md L).get (h.next+17)=some (.map []):=by unfold frM Mx; simp (discharger:=omega) only [H.get_put,H.Zh,H.Ze,H.Zg,if_neg,if_pos]<;>rfl
 have s3:Zn8 3=some 5:=rfl
 unfold Zdu begun
 simp (maxSteps:=9^6) +decide (disch:=first|omega|(simp only[lens]<;>omega)|decide) only [go_sem,Zc,Za,simprocAttr,f1,stB,f2,txB,f3,gdL,gdN,f4,f5,f6,f7,f8,fb,s3]<;>rfl
theorem Z7g (h:Go.Ev.H) (l0:0<h.next) (hst:h.get 0=some Bz) (a b c e:Nat) (md:Int) (L:List (List C)):Md h.next a b c e md false [] [] [] L (begun h a b c e md L):=by
 refine⟨?_,l0,Nat.le_refl _,?_,?_,?_,?_,?_,?_,?_,?_,?_,?_,?_,?_,?_,?_,?_,?_⟩
 ·refine Eq.trans ?_ hst
  unfold begun Ztc Rc O9 frM Mx
  simp (discharger:=omega) only [H.get_put,H.Zh,H.Ze,H.Zg,if_neg]
 all_goals (unfold begun Ztc Rc O9 frM Mx; simp (discharger:=omega) only [H.get_put,H.Zh,H.Ze,H.Zg,if_neg,if_pos]; rfl)
section
variable (Hh:Hearts K Tryz.prog)
include Hh
theorem Z1c {a b c d:Nat} {md:Int} (f:U7 a b c d=true) (m1:1≤md) (m2:md≤3) {h:Go.Ev.H} (hst:h.get 0=some Bz) (l0:0<h.next):∃ L,Image a b c d L∧Zd K Tryz.prog 6 [.g [.int .i64 (a:Int),.int .i64 (b:Int),.int .i64 (c:Int),.int .i64 (d:Int)],.c (.int .u8 md)] h (.tup [.c (.ptr (h.next+13) 0),.c (.bool true)]) (frM h a b c d md L):=by
 obtain⟨g1,g2,g3,g4,g5,g6,g7,g8,g9,g10,g11⟩:=Yn f
 obtain⟨L,I,c1⟩:=Yfs Hh f (h:=h.new (.row 4 [[.int .i64 (a:Int),.int .i64 (b:Int),.int .i64 (c:Int),.int .i64 (d:Int)]] false)) (by rw[Y3 (by omega)]; exact hst) (by rw[H.Ze]; omega)
 rw[H.Ze] at c1
 refine⟨L,I,?_⟩
 have im:=I.im
 have ll:=I.len
 obtain⟨N,hN⟩:∃ N,2+d+a * b=N:=⟨_,rfl⟩
 unfold frM
 rw[hN] at c1 ll g11 ⊢
 have nn:1≤N:=by omega
 refine Zd.goes fits Hh (by kernel_rfl) (by kernel_rfl) (by kernel_rfl) (show Tryz.f6.body=some (q6 []) by kernel_rfl) rfl ?_
 show Goes K Tryz.prog 42 none _ _ _ _ _
 refine Goes.Zq q6_ ?_
 refine Goes.Zw q6_0 fits Hh Zb (by
  simp (maxSteps:=9^6) +decide (disch:=first|omega|(simp only[lens]<;>omega)|decide) only [go_sem,q6,Tryz.f6,Za,simprocAttr,f,im,ll,hN,rd4,read1,Zn]
  rfl) ?_
 refine Goes.Zq q6_1 ?_
 refine Goes.Zw Ygt fits Hh (Z8 Zb c1) (by
  simp (maxSteps:=9^6) +decide (disch:=first|omega|(simp only[lens]<;>omega)|decide) only [go_sem,q6,Tryz.f6,Za,simprocAttr,Yo,f,im,ll,hN,rd4,read1,Zn]
  rfl) ?_
 refine Goes.Zq Ygd ?_
 refine Goes.Zw Yd7 fits Hh (Zf Zb (fun _ _ _ _=>Z0n Hh)) (by
  simp (maxSteps:=9^6) +decide (disch:=first|omega|(simp only[lens]<;>omega)|decide) only [go_sem,q6,Tryz.f6,Za,simprocAttr,f,im,ll,hN,rd4,read1,Zn]
  rfl) ?_
 refine Goes.Zq Yfk ?_
 refine Goes.Zq Z97 ?_
 refine Goes.Zw Z8b fits Hh Zb (by
  simp (maxSteps:=9^6) +decide (disch:=first|omega|(simp only[lens]<;>omega)|decide) only [go_sem,q6,Tryz.f6,Za,simprocAttr,f,im,ll,hN,rd4,read1,Zn]
  rfl) ?_
 refine Goes.Yy Z6d (by simp (maxSteps:=9^6) +decide (disch:=first|omega|(simp only[lens]<;>omega)|decide) only [go_sem,Za,simprocAttr,f,im,ll,hN,rd4,read1,Zn]<;>rfl) (by first|rfl|assumption|exact decide_eq_false (by omega)|(simp; omega)) ?_
 refine Goes.Jc Z3t ?_
 refine Goes.Zq Ya9 ?_
 refine Goes.Zw Z8a fits Hh (Zf Zb (fun _ _ _ _=>Z8g Hh)) (by
  simp (maxSteps:=9^6) +decide (disch:=first|omega|(simp only[lens]<;>omega)|decide) only [go_sem,q6,Tryz.f6,Za,simprocAttr,f,im,ll,hN,rd4,read1,Zn]
  rfl) ?_
 refine Goes.Zq Z8v ?_
 refine Goes.Zw Z2h fits Hh Zb (by
  simp (maxSteps:=9^6) +decide (disch:=first|omega|(simp only[lens]<;>omega)|decide) only [go_sem,q6,Tryz.f6,Za,simprocAttr,f,im,ll,hN,rd4,read1,Zn]
  rfl) ?_
 refine Goes.Gl Z12 ?_
 simp (maxSteps:=9^6) +decide (disch:=first|omega|(simp only[lens]<;>omega)|decide) only [go_sem,Za,simprocAttr,Yf]<;>rfl
end
end Go.Proofs.YtmdibcklpmeleaaGreatDoor
