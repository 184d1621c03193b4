/- quernlaw24.fresh and Begin: a store over a new image, its handle open. -/
import Derived.Test.YtngejdlimkgjfaaGreatDoorMdg
set_option linter.unusedSimpArgs false
set_option linter.unusedVariables false
set_option linter.unusedSectionVars false
set_option maxRecDepth 100000
set_option maxHeartbeats 4000000
namespace Go.Proofs.YtngejdlimkgjfaaGreatDoor
open Go.Ev
noncomputable def q6 (p:List Nat):Code:=piece p (Yc Tryz.f6)
theorem rs6:Tryz.f6.results.toList=[.tmp 4,.tmp 5]:=rfl
attribute [go_sem] rs6
noncomputable def frM (h:Go.Ev.H) (a b c e:Nat) (md:Int) (L:List (List C)):Go.Ev.H:=Zen (((((h.new (.row 4 [Y6 a b c e] false)).new (.row 256 L false)).new (.row 256 L false)).new (.row 256 L false)).new (.row 6 [dkL ⟨h.next+1+1,h.next+1+1+1,2+e+a * b,.snil,0,0⟩] false)) (h.next+1+1+1+1) a b c e md 1
def stB (n:Nat):Stt:=⟨n+12,n+20,n+21,n+22,.snil,false⟩
def txB (n:Nat):Tx:=⟨n+15,n+16,n+17,n+19,1,false,0,0,.mnil,.mnil,.mnil,.mnil,.pnil⟩
noncomputable def begun (h:Go.Ev.H) (a b c e:Nat) (md:Int) (L:List (List C)):Go.Ev.H:=Zbw (Oc (frM h a b c e md L) (h.next+13) (stB h.next)) (h.next+20) (txB h.next) 3 0
section
variable (Hh:Hearts K Tryz.prog)
include Hh
theorem Zu1 {a b c d:Nat} {md:Int} (f:Jm a b c d=true) (m1:1≤md) (m2:md≤3) {h:Go.Ev.H} (hst:h.get 0=some O1) (l0:0<h.next):∃ L,Image a b c d L∧Ze K Tryz.prog 6 [.g [.int .i64 (a:Int),.int .i64 (b:Int),.int .i64 (c:Int),.int .i64 (d:Int)],.c (.int .u8 md)] h (.tup [.c (.ptr (h.next+13) 0),.c (.bool true)]) (frM h a b c d md L):=by
 obtain⟨g1,g2,g3,g4,g5,g6,g7,g8,g9,g10,g11⟩:=Z0 f
 obtain⟨L,I,c1⟩:=Z3l Hh f (h:=h.new (.row 4 [[.int .i64 (a:Int),.int .i64 (b:Int),.int .i64 (c:Int),.int .i64 (d:Int)]] false)) (by rw[Y4 (by omega)]; exact hst) (by rw[H.Zd]; omega)
 rw[H.Zd] at c1
 refine⟨L,I,?_⟩
 have im:=I.im
 have ll:=I.len
 obtain⟨N,hN⟩:∃ N,2+d+a * b=N:=⟨_,rfl⟩
 unfold frM
 rw[hN] at c1 ll g11 ⊢
 have nn:1≤N:=by omega
 refine Ze.goes fits Hh (by kernel_rfl) (by kernel_rfl) (by kernel_rfl) (show Tryz.f6.body=some _ from rfl) rfl ?_
 iterate 3 (first|apply Goes.seq|(apply Goes.ops2 fits Hh Zc; · simp (maxSteps:=9^6) +decide (disch:=first|omega|(simp only[lens]<;>omega)|decide) only [go_sem,Za,simprocAttr,f,im,ll,hN,rd4,read1,Zw]<;>rfl))
 iterate 2 (first|apply Goes.seq|(apply Goes.ops2 fits Hh (Zy Zc c1); · simp (maxSteps:=9^6) +decide (disch:=first|omega|(simp only[lens]<;>omega)|decide) only [go_sem,Za,simprocAttr,Z7,f,im,ll,hN,rd4,read1,Zw]<;>rfl))
 iterate 11 (first|apply Goes.seq|apply Goes.skip|apply Goes.ret|((first|apply Goes.Zr|apply Goes.ops2 fits Hh (Zh (Zh Zc (fun _ _ _ _=>Zv3 Hh)) (fun _ _ _ _=>Zx2 Hh))); · simp (maxSteps:=9^6) +decide (disch:=first|omega|(simp only[lens]<;>omega)|decide) only [go_sem,Za,simprocAttr,f,im,ll,hN,rd4,read1,Zw]<;>rfl))
 simp (maxSteps:=9^6) +decide (disch:=first|omega|(simp only[lens]<;>omega)|decide) only [go_sem,Za,simprocAttr,Y6]<;>rfl
end
end Go.Proofs.YtngejdlimkgjfaaGreatDoor
set_option maxRecDepth 100000
set_option maxHeartbeats 4000000
namespace Go.Proofs.YtngejdlimkgjfaaGreatDoor
open Go.Ev
structure Cl (n a b c e:Nat) (md:Int) (L:List (List C)) (h:Go.Ev.H):Prop where
 st:h.get 0=some O1
 n0:0<n
 nx:n+23≤h.next
 ht:h.get (n+20)=some (.row 13 [txL (txB n)] false)
 hg:h.get (n+12)=some (.row 9 [gdL (gdN n a b c e md)] false)
 hc:h.get (n+8)=some (.row 3 [ckL (ckN n)] false)
 hd:h.get (n+4)=some (.row 6 [dkL (dkN n (2+e+a * b))] false)
 hq:h.get (n+3)=some (.row 256 L false)
 hli:h.get (n+11)=some (.row 8 [[.bool true,.int .i64 (a:Int),.int .i64 (b:Int),.int .i64 (c:Int),.int .i64 (e:Int),.bool false,.int .u32 0,.snil]] false)
 hfr:h.get (n+17)=some (.map [])
 hod:h.get (n+16)=some (.map [])
 hrv:h.get (n+19)=some (.row 1 [[.map (n+18)]] false)
 hrc:h.get (n+18)=some (.map [])
 hs:h.get (n+13)=some (.row 8 [stL (stB n)] false)
 hdt:h.get (n+21)=some (.map [])
 hgv:h.get (n+22)=some (.map [])
 hch:h.get (n+15)=some (.map [])
def ClE (n a b c e:Nat) (md:Int) (L:List (List C)) (h:Go.Ev.H):Prop:=Cl n a b c e md L h∧∃ lm,Gc lm=true∧Seen lm L∧h.get (n+6)=some (.map (J5 lm))
noncomputable def Zdl (n:Nat) (h:Go.Ev.H) (cr:Int):Go.Ev.H:=Zbw (Oc h (n+13) (stB n)) (n+20) (txB n) cr 0
theorem G7 {n m:Nat} {h:Go.Ev.H} (nx:n+23≤h.next) (hm:m<h.next) (m1:m≠n+13) (m2:m≠n+20) (cr:Int):(Zdl n h cr).get m=h.get m:=by
 unfold Zdl Zbw Em Oc
 simp (discharger:=omega) only [H.get_put,H.Zi,H.Zd,H.Zg,if_neg]
section
variable {n a b c e:Nat} {md:Int} {L:List (List C)} {h h2:Go.Ev.H}
theorem Z3e (l0:0<h.next) (hst:h.get 0=some O1) (a b c e:Nat) (md:Int) (L:List (List C)):ClE h.next a b c e md L (frM h a b c e md L):=by
 refine⟨⟨?_,l0,Nat.le_refl _,?_,?_,?_,?_,?_,?_,?_,?_,?_,?_,?_,?_,?_,?_⟩,[],rfl,Zxp L,?_⟩
 ·refine Eq.trans ?_ hst
  unfold frM Zen
  simp (discharger:=omega) only [H.get_put,H.Zi,H.Zd,H.Zg,if_neg]
 all_goals (unfold frM Zen; simp (discharger:=omega) only [H.get_put,H.Zi,H.Zd,H.Zg,if_neg,if_pos]; rfl)
theorem Cl.rd (M:Cl n a b c e md L h) (r:Rd n L h h2):Cl n a b c e md L h2:=by
 obtain⟨f1,f2,f3,f4,f5,f6,f7,f8,f9,f10,f11,f12,f13,f14,f15,f16,f17⟩:=M
 obtain⟨q1,q2,_⟩:=r
 refine⟨?_,f2,by omega,?_,?_,?_,?_,?_,?_,?_,?_,?_,?_,?_,?_,?_,?_⟩
 all_goals (rw[q2 _ (by omega) (by omega)]; assumption)
theorem ClE.rd (M:ClE n a b c e md L h) (r:Rd n L h h2):ClE n a b c e md L h2:=⟨M.1.rd r,r.2.2⟩
theorem ClE.rs (M:ClE n a b c e md L h):RsE n a b c e md (stB n) (txB n) [] L h:=by
 obtain⟨⟨f1,f2,f3,f4,f5,f6,f7,f8,f9,f10,f11,f12,f13,f14,f15,f16,f17⟩,lm,fl,sn,hm⟩:=M
 exact⟨lm,fl,sn,by omega,f14,f4,f5,f6,f7,f8,f9,f15,f17,hm,by show n+20<_; omega,by show n+12<_; omega,by show n+21<_; omega,by show n+15<_; omega,by show n+20≠_; omega,by show n+12≠_; omega,by show n+21≠_; omega,by show n+15≠_; omega⟩
theorem Cl.beg (M:Cl n a b c e md L h) (fb:Jm a b c e=true):Qz [.c (.ptr (n+13) 0),.c (.int .i64 9),.c (.int .i64 0)] h=some (.w (.c (.int .i64 0)),Zdl n h 9):=by
 obtain⟨f1,f2,f3,f4,f5,f6,f7,f8,f9,f10,f11,f12,f13,f14,f15,f16,f17⟩:=M
 have s9:(Zjn 9).isSome=true:=rfl
 obtain⟨v9,s9⟩:=Option.isSome_iff_exists.1 s9
 unfold Qz Zdl
 simp (maxSteps:=9^6) +decide (disch:=first|omega|(simp only[lens]<;>omega)|decide) only [go_sem,Zf,Za,simprocAttr,f14,stB,f4,txB,f5,gdL,gdN,f12,f13,f17,f11,f10,fb,s9]<;>rfl
theorem ClE.begun (M:ClE n a b c e md L h):MhE n h.next a b c e 9 md 0 false [] L (Zdl n h 9):=by
 obtain⟨⟨f1,f2,f3,f4,f5,f6,f7,f8,f9,f10,f11,f12,f13,f14,f15,f16,f17⟩,lm,fl,sn,hm⟩:=M
 refine⟨[],lm,fl,sn,rfl,rfl,(fun _ _ e=>by cases e),Nat.le_refl _,?_,f2,f3,?_,?_,?_,?_,?_,?_,?_,?_,?_,?_,?_,?_,?_,?_,?_,?_,?_,?_⟩
 ·rw[G7 f3 (by omega) (by omega) (by omega)]; exact f1
 ·unfold Zdl Zbw Em Oc; simp only[H.Zd,H.Zg]; omega
 ·unfold Zdl Zbw Em Oc; simp (discharger:=omega) only [H.get_put,H.Zi,H.Zd,H.Zg,if_neg,if_pos]; rfl
 ·rw[G7 f3 (by omega) (by omega) (by omega)]; exact f5
 ·rw[G7 f3 (by omega) (by omega) (by omega)]; exact f6
 ·rw[G7 f3 (by omega) (by omega) (by omega)]; exact f7
 ·rw[G7 f3 (by omega) (by omega) (by omega)]; exact f8
 ·rw[G7 f3 (by omega) (by omega) (by omega)]; exact f9
 ·unfold Zdl Zbw Em Oc; simp (discharger:=omega) only [H.get_put,H.Zi,H.Zd,H.Zg,if_neg,if_pos,if_true]
 ·rw[G7 f3 (by omega) (by omega) (by omega)]; exact f10
 ·rw[G7 f3 (by omega) (by omega) (by omega)]; exact f11
 ·rw[G7 f3 (by omega) (by omega) (by omega)]; exact f12
 ·rw[G7 f3 (by omega) (by omega) (by omega)]; exact f13
 ·unfold Zdl Zbw Em Oc; simp (discharger:=omega) only [H.get_put,H.Zi,H.Zd,H.Zg,if_neg,if_pos,if_true]
 ·unfold Zdl Zbw Em Oc; simp (discharger:=omega) only [H.get_put,H.Zi,H.Zd,H.Zg,if_neg,if_pos,if_true]
 ·rw[G7 f3 (by omega) (by omega) (by omega)]; exact hm
 ·unfold Zdl Zbw Em Oc; simp (discharger:=omega) only [H.get_put,H.Zi,H.Zd,H.Zg,if_neg,if_pos]; rfl
 ·unfold Zdl Zbw Em Oc; simp (discharger:=omega) only [H.get_put,H.Zi,H.Zd,H.Zg,if_neg,if_pos]; rfl
 ·rw[G7 f3 (by omega) (by omega) (by omega)]; exact f17
theorem RsE.seen {S:Stt} {X:Tx} {lc:J9} (R:RsE n a b c e md S X lc L h) (fb:Jm a b c e=true) {z:Nat} (z1:z<2+e+a * b) {x:List C} (hx:At lc L z x) (xl:x.length=256) (xf:x.all C.flat=true) :
  ∃ h',Fy [.c (.ptr (n+13) 0),.c (.int .i64 (z:Int))] h=some (.tup [.g x,.c (.int .i64 0)],h')∧Rd n L h h'∧h'.next=h.next:=by
 obtain⟨lm,fl,sn,R⟩:=R
 obtain⟨g1,g2,g3,g4,g5,g6,g7,g8,g9,g10,g11⟩:=Z0 fb
 obtain⟨nx,f1,f2,f3,f4,f5,f6,f7,f8,f9,f10,l1,l2,l3,l4,e1,e2,e3,e4⟩:=R
 have ld:∀ z,Oi z []=none:=fun _=>rfl
 have e0:Xd []=some []:=rfl
 obtain⟨N,hN⟩:∃ N,2+e+a * b=N:=⟨_,rfl⟩
 rw[hN] at f5 z1
 rcases hx with hl|⟨hl,hx⟩
 ·exact⟨h,by unfold Fy; simp (maxSteps:=9^6) +decide (disch:=first|omega|(simp only[lens]<;>omega)|decide) only [go_sem,Zf,Za,simprocAttr,f1,f2,f3,gdL,gdN,f7,f8,f9,f10,fb,hl,xl,xf,ld,e0]<;>rfl,Rd.refl fl sn f10,rfl⟩
 ·rcases hl2:Oi (z:Int) lm with _|y
  ·exact⟨h.put (n+6) (.map (J5 (J2 (z:Int) (x++[.bool false]) lm))),by unfold Fy N7; simp (maxSteps:=9^6) +decide (disch:=first|omega|(simp only[lens]<;>omega)|decide) only [go_sem,Zf,Za,simprocAttr,f1,f2,f3,gdL,gdN,f4,ckN,f5,dkN,f6,f7,f8,f9,f10,fb,hl,hl2,fl,hx,xl,xf,ld,e0,Int.toNat_natCast]<;>rfl,⟨Nat.le_refl _,fun m _ hm=>Zp hm,_,Bv (by rw[List.all_append,xf]; rfl) fl,sn.upd hx,Z9 _ _ _⟩,rfl⟩
  ·obtain⟨x',hx',rfl⟩:=sn z y hl2
   rw[hx] at hx'
   cases hx'
   have yl:(x++[C.bool false]).length=257:=by rw[List.length_append,xl]; rfl
   have yf:(x++[C.bool false]).all C.flat=true:=by rw[List.all_append,xf]; rfl
   have yt:(x++[C.bool false]).take 256=x:=by rw[←xl,List.take_left']; rfl
   obtain⟨y,hy⟩:∃ y,x++[C.bool false]=y:=⟨_,rfl⟩
   rw[hy] at hl2 yl yf yt
   exact⟨h,by unfold Fy N7; simp (maxSteps:=9^6) +decide (disch:=first|omega|(simp only[lens]<;>omega)|decide) only [go_sem,Zf,Za,simprocAttr,f1,f2,f3,gdL,gdN,f4,ckN,f5,dkN,f6,f7,f8,f9,f10,fb,hl,hl2,yl,yf,yt,ld,e0]<;>rfl,Rd.refl fl sn f10,rfl⟩
end
end Go.Proofs.YtngejdlimkgjfaaGreatDoor
