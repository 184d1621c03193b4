/- The memory of a store over an image, its handle open: names counted from where fresh began. -/
import Derived.Test.YtngejdlimkgjfaaGreatDoorNew2
import Derived.Test.YtngejdlimkgjfaaGreatDoorBeg3
import Derived.Test.YtngejdlimkgjfaaGreatDoorSto4
import Derived.Test.YtngejdlimkgjfaaGreatDoorInd
import Derived.Test.YtngejdlimkgjfaaGreatDoorMak3
set_option linter.unusedSimpArgs false
set_option linter.unusedVariables false
set_option linter.unusedSectionVars false
set_option maxRecDepth 100000
set_option maxHeartbeats 4000000
namespace Go.Proofs.YtngejdlimkgjfaaGreatDoor
open Go.Ev
def stN (n:Nat) (kn:Bool):Stt:=⟨n+12,n+20,n+23,n+24,.snil,kn⟩
def txN (n:Nat):Tx:=⟨n+15,n+16,n+17,n+19,1,true,3,0,.map (n+25),.map (n+29),.map (n+30),.map (n+31),.ptr (n+28) 0⟩
def gdN (n a b c e:Nat) (md:Int):Gd:=⟨a,b,c,e,md,n+4,n+8,n+9,n+11⟩
def ckN (n:Nat):Ck:=⟨n+4,n+6,n+7⟩
def dkN (n N:Nat):Dk:=⟨n+2,n+3,N,.snil,0,0⟩
structure Md (n a b c e:Nat) (md:Int) (kn:Bool) (lt lc lm:J9) (L:List (List C)) (h:Go.Ev.H):Prop where
 st:h.get 0=some O1
 n0:0<n
 nx:n+32≤h.next
 ht:h.get (n+20)=some (.row 13 [txL (txN n)] false)
 hg:h.get (n+12)=some (.row 9 [gdL (gdN n a b c e md)] false)
 hc:h.get (n+8)=some (.row 3 [ckL (ckN n)] false)
 hd:h.get (n+4)=some (.row 6 [dkL (dkN n (2+e+a * b))] false)
 hq:h.get (n+3)=some (.row 256 L false)
 hli:h.get (n+11)=some (.row 8 [[.bool true,.int .i64 (a:Int),.int .i64 (b:Int),.int .i64 (c:Int),.int .i64 (e:Int),.bool false,.int .u32 0,.snil]] false)
 hgv:h.get (n+24)=some (.map [])
 hfr:h.get (n+17)=some (.map [])
 hod:h.get (n+16)=some (.map [])
 hrv:h.get (n+19)=some (.row 1 [[.map (n+18)]] false)
 hrc:h.get (n+18)=some (.map [])
 hdt:h.get (n+23)=some (.map [])
 hm:h.get (n+6)=some (.map (J5 lm))
 hs:h.get (n+13)=some (.row 8 [stL (stN n kn)] false)
 hto:h.get (n+25)=some (.map (J5 lt))
 hch:h.get (n+15)=some (.map (J5 lc))
section
variable {n a b c e:Nat} {md:Int} {kn:Bool} {lt lc lm:J9} {L:List (List C)} {h h2:Go.Ev.H}
theorem Md.keep (M:Md n a b c e md kn lt lc lm L h) (hx:h.next≤h2.next) (k:∀ m,m<n+32→h2.get m=h.get m):Md n a b c e md kn lt lc lm L h2:=by
 obtain⟨f1,f2,f3,f4,f5,f6,f7,f8,f9,f10,f11,f12,f13,f14,f15,f16,f17,f18,f19⟩:=M
 refine⟨?_,f2,by omega,?_,?_,?_,?_,?_,?_,?_,?_,?_,?_,?_,?_,?_,?_,?_,?_⟩
 all_goals (rw[k _ (by omega)]; assumption)
theorem Md.seen (M:Md n a b c e md kn lt lc lm L h) (lm':J9):Md n a b c e md kn lt lc lm' L (h.put (n+6) (.map (J5 lm'))):=by
 obtain⟨f1,f2,f3,f4,f5,f6,f7,f8,f9,f10,f11,f12,f13,f14,f15,f16,f17,f18,f19⟩:=M
 refine⟨?_,f2,f3,?_,?_,?_,?_,?_,?_,?_,?_,?_,?_,?_,?_,Z9 _ _ _,?_,?_,?_⟩
 all_goals (rw[Zp (by omega)]; assumption)
noncomputable def Z4y (n:Nat) (lt lc:J9) (h:Go.Ev.H):Go.Ev.H:=(((h.put (n+13) (.row 8 [stL (stN n false)] false)).put (n+25) (.map (J5 lt))).put (n+15) (.map (J5 lc))).put (n+17) (.map [])
theorem Md.txn (M:Md n a b c e md kn lt lc lm L h) (lt' lc':J9):Md n a b c e md false lt' lc' lm L (Z4y n lt' lc' h):=by
 obtain⟨f1,f2,f3,f4,f5,f6,f7,f8,f9,f10,f11,f12,f13,f14,f15,f16,f17,f18,f19⟩:=M
 unfold Z4y
 refine⟨?_,f2,f3,?_,?_,?_,?_,?_,?_,?_,Z9 _ _ _,?_,?_,?_,?_,?_,?_,?_,?_⟩
 all_goals (first|(rw[Zp (by omega),Zp (by omega),Zp (by omega),Zp (by omega)]; assumption)|(simp (discharger:=omega) only [H.get_put,if_neg,if_true]))
end
theorem T9 {a b c e z:Nat} (F:Fine a b c e) (h1:2+e≤z) (h2:z<2+e+a * b):La a b c e (z:Int)=true:=by
 obtain⟨g1,g2,g3,g4,g5,g6,g7,g8,g9,g10,g11⟩:=F
 unfold La
 rw[decide_eq_true (by omega),Int.toNat_natCast]
 unfold Dp
 rw[if_neg (by omega),if_neg (by omega),if_neg (by omega),if_neg (by omega)]
 split
 ·rfl
 ·split
  ·rfl
  ·split<;>rfl
theorem Znk (a b c e:Nat):La a b c e ((1:Nat):Int)=true:=by
 unfold La
 rw[decide_eq_true (by omega),Int.toNat_natCast]
 unfold Dp
 rw[if_neg (by omega),if_pos (by omega)]
 rfl
end Go.Proofs.YtngejdlimkgjfaaGreatDoor
set_option maxRecDepth 100000
set_option maxHeartbeats 4000000
namespace Go.Proofs.YtngejdlimkgjfaaGreatDoor
open Go.Ev
structure Rs (n a b c e:Nat) (md:Int) (S:Stt) (X:Tx) (lc lm:J9) (L:List (List C)) (h:Go.Ev.H):Prop where
 nx:n+23≤h.next
 hs:h.get (n+13)=some (.row 8 [stL S] false)
 ht:h.get S.tx=some (.row 13 [txL X] false)
 hg:h.get S.gd=some (.row 9 [gdL (gdN n a b c e md)] false)
 hc:h.get (n+8)=some (.row 3 [ckL (ckN n)] false)
 hd:h.get (n+4)=some (.row 6 [dkL (dkN n (2+e+a * b))] false)
 hq:h.get (n+3)=some (.row 256 L false)
 hli:h.get (n+11)=some (.row 8 [[.bool true,.int .i64 (a:Int),.int .i64 (b:Int),.int .i64 (c:Int),.int .i64 (e:Int),.bool false,.int .u32 0,.snil]] false)
 hdt:h.get S.dt=some (.map [])
 hch:h.get X.ch=some (.map (J5 lc))
 hm:h.get (n+6)=some (.map (J5 lm))
 l1:S.tx<h.next
 l2:S.gd<h.next
 l3:S.dt<h.next
 l4:X.ch<h.next
 e1:S.tx≠n+6
 e2:S.gd≠n+6
 e3:S.dt≠n+6
 e4:X.ch≠n+6
def Seen (lm:J9) (L:List (List C)):Prop:=∀ (z:Nat) (y:List C),Oi (z:Int) lm=some y→∃ x,L[z]? = some x∧y=x++[.bool false]
def Rd (n:Nat) (L:List (List C)) (h h':Go.Ev.H):Prop:=h.next≤h'.next∧(∀ m,m<h.next→m≠n+6→h'.get m=h.get m)∧∃ lm,Gc lm=true∧Seen lm L∧h'.get (n+6)=some (.map (J5 lm))
def RsE (n a b c e:Nat) (md:Int) (S:Stt) (X:Tx) (lc:J9) (L:List (List C)) (h:Go.Ev.H):Prop:=∃ lm,Gc lm=true∧Seen lm L∧Rs n a b c e md S X lc lm L h
def MdE (n a b c e:Nat) (md:Int) (kn:Bool) (lt lc:J9) (L:List (List C)) (h:Go.Ev.H):Prop:=∃ lm,Gc lm=true∧Seen lm L∧Md n a b c e md kn lt lc lm L h
theorem Zxp (L:List (List C)):Seen [] L:=fun _ _ e=>by cases e
theorem Seen.upd {lm:J9} {L:List (List C)} (s:Seen lm L) {z:Nat} {x:List C} (hx:L[z]? = some x):Seen (J2 (z:Int) (x++[.bool false]) lm) L:=fun z' y e=>by
 rw[Wz] at e
 by_cases q:((z':Int)=z)
 ·obtain rfl:z'=z:=by omega
  rw[if_pos rfl] at e
  cases e
  exact⟨x,hx,rfl⟩
 ·rw[if_neg q] at e
  exact s z' y e
section
variable {n a b c e:Nat} {md:Int} {kn:Bool} {S:Stt} {X:Tx} {lt lc lm lm':J9} {L:List (List C)} {h h2:Go.Ev.H}
theorem Rs.keep (R:Rs n a b c e md S X lc lm L h) (hx:h.next≤h2.next) (k:∀ m,m<h.next→h2.get m=h.get m):Rs n a b c e md S X lc lm L h2:=by
 obtain⟨nx,f1,f2,f3,f4,f5,f6,f7,f8,f9,f10,l1,l2,l3,l4,e1,e2,e3,e4⟩:=R
 refine⟨by omega,?_,?_,?_,?_,?_,?_,?_,?_,?_,?_,by omega,by omega,by omega,by omega,e1,e2,e3,e4⟩
 all_goals (rw[k _ (by omega)]; assumption)
theorem Rs.upd (R:Rs n a b c e md S X lc lm L h) (hx:h.next≤h2.next) (k:∀ m,m<h.next→m≠n+6→h2.get m=h.get m) (hm:h2.get (n+6)=some (.map (J5 lm'))):Rs n a b c e md S X lc lm' L h2:=by
 obtain⟨nx,f1,f2,f3,f4,f5,f6,f7,f8,f9,f10,l1,l2,l3,l4,e1,e2,e3,e4⟩:=R
 refine⟨by omega,?_,?_,?_,?_,?_,?_,?_,?_,?_,hm,by omega,by omega,by omega,by omega,e1,e2,e3,e4⟩
 all_goals (rw[k _ (by omega) (by omega)]; assumption)
theorem Md.upd (M:Md n a b c e md kn lt lc lm L h) (hx:h.next≤h2.next) (k:∀ m,m<n+32→m≠n+6→h2.get m=h.get m) (hm:h2.get (n+6)=some (.map (J5 lm'))):Md n a b c e md kn lt lc lm' L h2:=by
 obtain⟨f1,f2,f3,f4,f5,f6,f7,f8,f9,f10,f11,f12,f13,f14,f15,f16,f17,f18,f19⟩:=M
 refine⟨?_,f2,by omega,?_,?_,?_,?_,?_,?_,?_,?_,?_,?_,?_,?_,hm,?_,?_,?_⟩
 all_goals (rw[k _ (by omega) (by omega)]; assumption)
theorem Md.rs (M:Md n a b c e md kn lt lc lm L h):Rs n a b c e md (stN n kn) (txN n) lc lm L h:=by
 obtain⟨f1,f2,f3,f4,f5,f6,f7,f8,f9,f10,f11,f12,f13,f14,f15,f16,f17,f18,f19⟩:=M
 exact⟨by omega,f17,f4,f5,f6,f7,f8,f9,f15,f19,f16,by show n+20<_; omega,by show n+12<_; omega,by show n+23<_; omega,by show n+15<_; omega,by show n+20≠_; omega,by show n+12≠_; omega,by show n+23≠_; omega,by show n+15≠_; omega⟩
theorem Rd.refl {lm:J9} (fl:Gc lm=true) (sn:Seen lm L) (hm:h.get (n+6)=some (.map (J5 lm))):Rd n L h h:=⟨Nat.le_refl _,fun _ _ _=>rfl,lm,fl,sn,hm⟩
theorem Rd.then {h3:Go.Ev.H} (R:Rd n L h h2) (hx:h2.next≤h3.next) (k:∀ m,m<h2.next→h3.get m=h2.get m) (nl:n+6<h2.next):Rd n L h h3:=by
 obtain⟨q1,q2,lm,q3,q4,q5⟩:=R
 exact⟨by omega,fun m hm hne=>(k m (by omega)).trans (q2 m hm hne),lm,q3,q4,(k _ nl).trans q5⟩
theorem RsE.rd (R:RsE n a b c e md S X lc L h) (q:Rd n L h h2):RsE n a b c e md S X lc L h2:=by
 obtain⟨lm,fl,sn,R⟩:=R
 obtain⟨q1,q2,lm',q3,q4,q5⟩:=q
 exact⟨lm',q3,q4,R.upd q1 q2 q5⟩
theorem RsE.keep (R:RsE n a b c e md S X lc L h) (hx:h.next≤h2.next) (k:∀ m,m<h.next→h2.get m=h.get m):RsE n a b c e md S X lc L h2:=by
 obtain⟨lm,fl,sn,R⟩:=R
 exact⟨lm,fl,sn,R.keep hx k⟩
theorem MdE.rd (M:MdE n a b c e md kn lt lc L h) (q:Rd n L h h2):MdE n a b c e md kn lt lc L h2:=by
 obtain⟨lm,fl,sn,M⟩:=M
 obtain⟨q1,q2,lm',q3,q4,q5⟩:=q
 have nx:=M.nx
 exact⟨lm',q3,q4,M.upd q1 (fun m hm hne=>q2 m (by omega) hne) q5⟩
theorem MdE.keep (M:MdE n a b c e md kn lt lc L h) (hx:h.next≤h2.next) (k:∀ m,m<n+32→h2.get m=h.get m):MdE n a b c e md kn lt lc L h2:=by
 obtain⟨lm,fl,sn,M⟩:=M
 exact⟨lm,fl,sn,M.keep hx k⟩
theorem MdE.rs (M:MdE n a b c e md kn lt lc L h):RsE n a b c e md (stN n kn) (txN n) lc L h:=by
 obtain⟨lm,fl,sn,M⟩:=M
 exact⟨lm,fl,sn,M.rs⟩
def At (lc:J9) (L:List (List C)) (z:Nat) (x:List C):Prop:=Oi (z:Int) lc=some x∨Oi (z:Int) lc=none∧L[z]? = some x
theorem RsE.get (R:RsE n a b c e md S X lc L h) (fb:Jm a b c e=true) {z:Nat} (hz:La a b c e (z:Int)=true) (z1:z<2+e+a * b) {x:List C} (hx:At lc L z x) (xl:x.length=256) (xf:x.all C.flat=true) :
  ∃ h',Zew [.c (.ptr (n+13) 0),.c (.int .i64 (z:Int))] h=some (.tup [.g x,.c (.int .i64 0)],h')∧Rd n L h h'∧h'.next=h.next:=by
 obtain⟨lm,fl,sn,R⟩:=R
 obtain⟨g1,g2,g3,g4,g5,g6,g7,g8,g9,g10,g11⟩:=Z0 fb
 obtain⟨nx,f1,f2,f3,f4,f5,f6,f7,f8,f9,f10,l1,l2,l3,l4,e1,e2,e3,e4⟩:=R
 have ld:∀ z,Oi z []=none:=fun _=>rfl
 have e0:Xd []=some []:=rfl
 obtain⟨N,hN⟩:∃ N,2+e+a * b=N:=⟨_,rfl⟩
 rw[hN] at f5 z1
 rcases hx with hl|⟨hl,hx⟩
 ·exact⟨h,by unfold Zew Fy; simp (maxSteps:=9^6) +decide (disch:=first|omega|(simp only[lens]<;>omega)|decide) only [go_sem,Zf,Za,simprocAttr,f1,f2,f3,gdL,gdN,f7,f8,f9,f10,fb,hz,hl,xl,xf,ld,e0]<;>rfl,Rd.refl fl sn f10,rfl⟩
 ·rcases hl2:Oi (z:Int) lm with _|y
  ·exact⟨h.put (n+6) (.map (J5 (J2 (z:Int) (x++[.bool false]) lm))),by unfold Zew Fy N7; simp (maxSteps:=9^6) +decide (disch:=first|omega|(simp only[lens]<;>omega)|decide) only [go_sem,Zf,Za,simprocAttr,f1,f2,f3,gdL,gdN,f4,ckN,f5,dkN,f6,f7,f8,f9,f10,fb,hz,hl,hl2,fl,hx,xl,xf,ld,e0,Int.toNat_natCast]<;>rfl,⟨Nat.le_refl _,fun m _ hm=>Zp hm,_,Bv (by rw[List.all_append,xf]; rfl) fl,sn.upd hx,Z9 _ _ _⟩,rfl⟩
  ·obtain⟨x',hx',rfl⟩:=sn z y hl2
   rw[hx] at hx'
   cases hx'
   have yl:(x++[C.bool false]).length=257:=by rw[List.length_append,xl]; rfl
   have yf:(x++[C.bool false]).all C.flat=true:=by rw[List.all_append,xf]; rfl
   have yt:(x++[C.bool false]).take 256=x:=by rw[←xl,List.take_left']; rfl
   obtain⟨y,hy⟩:∃ y,x++[C.bool false]=y:=⟨_,rfl⟩
   rw[hy] at hl2 yl yf yt
   exact⟨h,by unfold Zew Fy N7; simp (maxSteps:=9^6) +decide (disch:=first|omega|(simp only[lens]<;>omega)|decide) only [go_sem,Zf,Za,simprocAttr,f1,f2,f3,gdL,gdN,f4,ckN,f5,dkN,f6,f7,f8,f9,f10,fb,hz,hl,hl2,yl,yf,yt,ld,e0]<;>rfl,Rd.refl fl sn f10,rfl⟩
end
end Go.Proofs.YtngejdlimkgjfaaGreatDoor
set_option maxRecDepth 100000
set_option maxHeartbeats 4000000
namespace Go.Proofs.YtngejdlimkgjfaaGreatDoor
open Go.Ev
def stG (n q:Nat) (kn:Bool):Stt:=⟨n+12,n+20,q,q+1,.snil,kn⟩
def txG (n q:Nat) (cr:Int):Tx:=⟨n+15,n+16,n+17,n+19,1,true,cr,0,.map (q+2),.map (q+6),.map (q+7),.map (q+8),.ptr (q+5) 0⟩
structure Mh (n q a b c e:Nat) (cr md:Int) (kn:Bool) (lt lc lm:J9) (L:List (List C)) (h:Go.Ev.H):Prop where
 st:h.get 0=some O1
 n0:0<n
 nq:n+23≤q
 nx:q+9≤h.next
 ht:h.get (n+20)=some (.row 13 [txL (txG n q cr)] false)
 hg:h.get (n+12)=some (.row 9 [gdL (gdN n a b c e md)] false)
 hc:h.get (n+8)=some (.row 3 [ckL (ckN n)] false)
 hd:h.get (n+4)=some (.row 6 [dkL (dkN n (2+e+a * b))] false)
 hq:h.get (n+3)=some (.row 256 L false)
 hli:h.get (n+11)=some (.row 8 [[.bool true,.int .i64 (a:Int),.int .i64 (b:Int),.int .i64 (c:Int),.int .i64 (e:Int),.bool false,.int .u32 0,.snil]] false)
 hgv:h.get (q+1)=some (.map [])
 hfr:h.get (n+17)=some (.map [])
 hod:h.get (n+16)=some (.map [])
 hrv:h.get (n+19)=some (.row 1 [[.map (n+18)]] false)
 hrc:h.get (n+18)=some (.map [])
 hdt:h.get q=some (.map [])
 hv6:h.get (q+6)=some (.map [])
 hm:h.get (n+6)=some (.map (J5 lm))
 hs:h.get (n+13)=some (.row 8 [stL (stG n q kn)] false)
 hto:h.get (q+2)=some (.map (J5 lt))
 hch:h.get (n+15)=some (.map (J5 lc))
def Off (n q m:Nat):Prop:=m≠n+6∧m≠n+13∧m≠n+15∧m≠n+17∧m≠q+2
section
variable {n q a b c e:Nat} {cr md:Int} {kn:Bool} {lt lc lm lm':J9} {L:List (List C)} {h h2:Go.Ev.H}
theorem Mh.keep (M:Mh n q a b c e cr md kn lt lc lm L h) (hx:h.next≤h2.next) (k:∀ m,m<q+9→h2.get m=h.get m):Mh n q a b c e cr md kn lt lc lm L h2:=by
 obtain⟨f1,f2,f3,f4,f5,f6,f7,f8,f9,f10,f11,f12,f13,f14,f15,f16,f17,f18,f19,f20,f21⟩:=M
 refine⟨?_,f2,f3,by omega,?_,?_,?_,?_,?_,?_,?_,?_,?_,?_,?_,?_,?_,?_,?_,?_,?_⟩
 all_goals (rw[k _ (by omega)]; assumption)
theorem Mh.upd (M:Mh n q a b c e cr md kn lt lc lm L h) (hx:h.next≤h2.next) (k:∀ m,m<q+9→m≠n+6→h2.get m=h.get m) (hm:h2.get (n+6)=some (.map (J5 lm'))):Mh n q a b c e cr md kn lt lc lm' L h2:=by
 obtain⟨f1,f2,f3,f4,f5,f6,f7,f8,f9,f10,f11,f12,f13,f14,f15,f16,f17,f18,f19,f20,f21⟩:=M
 refine⟨?_,f2,f3,by omega,?_,?_,?_,?_,?_,?_,?_,?_,?_,?_,?_,?_,?_,hm,?_,?_,?_⟩
 all_goals (rw[k _ (by omega) (by omega)]; assumption)
theorem Mh.rs (M:Mh n q a b c e cr md kn lt lc lm L h):Rs n a b c e md (stG n q kn) (txG n q cr) lc lm L h:=by
 obtain⟨f1,f2,f3,f4,f5,f6,f7,f8,f9,f10,f11,f12,f13,f14,f15,f16,f17,f18,f19,f20,f21⟩:=M
 exact⟨by omega,f19,f5,f6,f7,f8,f9,f10,f16,f21,f18,by show n+20<_; omega,by show n+12<_; omega,by show q<_; omega,by show n+15<_; omega,by show n+20≠_; omega,by show n+12≠_; omega,by show q≠_; omega,by show n+15≠_; omega⟩
noncomputable def Zq8 (n q:Nat) (lt lc:J9) (h:Go.Ev.H):Go.Ev.H:=(((h.put (n+13) (.row 8 [stL (stG n q false)] false)).put (q+2) (.map (J5 lt))).put (n+15) (.map (J5 lc))).put (n+17) (.map [])
theorem Zm4 (lt' lc':J9) {m:Nat} (o:m≠n+13∧m≠n+15∧m≠n+17∧m≠q+2):(Zq8 n q lt' lc' h).get m=h.get m:=by
 unfold Zq8
 rw[Zp o.2.2.1,Zp o.2.1,Zp o.2.2.2,Zp o.1]
theorem Mh.txn (M:Mh n q a b c e cr md kn lt lc lm L h) (lt' lc':J9):Mh n q a b c e cr md false lt' lc' lm L (Zq8 n q lt' lc' h):=by
 obtain⟨f1,f2,f3,f4,f5,f6,f7,f8,f9,f10,f11,f12,f13,f14,f15,f16,f17,f18,f19,f20,f21⟩:=M
 refine⟨?_,f2,f3,f4,?_,?_,?_,?_,?_,?_,?_,Z9 _ _ _,?_,?_,?_,?_,?_,?_,?_,?_,?_⟩
 all_goals (first|(rw[Zm4 _ _ ⟨by omega,by omega,by omega,by omega⟩]; assumption)|(unfold Zq8; simp (discharger:=omega) only [H.get_put,if_neg,if_true]))
def Zsi (lt:J9):Prop:=∀ z y,Oi z lt=some y→y=[]
theorem Zsi.upd {lt:J9} (v:Zsi lt) (z:Int):Zsi (J2 z [] lt):=fun z' y e=>by
 rw[Wz] at e
 split at e
 ·cases e; rfl
 ·exact v z' y e
def MhE (n q a b c e:Nat) (cr md:Int) (w:Nat) (kn:Bool) (lc:J9) (L:List (List C)) (h:Go.Ev.H):Prop:=∃ lt lm,Gc lm=true∧Seen lm L∧Gc lt=true∧Gc lc=true∧Zsi lt∧lt.length≤w∧Mh n q a b c e cr md kn lt lc lm L h
variable {w:Nat}
theorem MhE.keep (M:MhE n q a b c e cr md w kn lc L h) (hx:h.next≤h2.next) (k:∀ m,m<q+9→h2.get m=h.get m):MhE n q a b c e cr md w kn lc L h2:=by
 obtain⟨lt,lm,f1,f2,f3,f4,f5,f6,M⟩:=M
 exact⟨lt,lm,f1,f2,f3,f4,f5,f6,M.keep hx k⟩
theorem MhE.rd (M:MhE n q a b c e cr md w kn lc L h) (r:Rd n L h h2):MhE n q a b c e cr md w kn lc L h2:=by
 obtain⟨lt,lm,f1,f2,f3,f4,f5,f6,M⟩:=M
 obtain⟨q1,q2,lm',q3,q4,q5⟩:=r
 have nx:=M.nx
 exact⟨lt,lm',q3,q4,f3,f4,f5,f6,M.upd q1 (fun m hm hne=>q2 m (by omega) hne) q5⟩
theorem MhE.rs (M:MhE n q a b c e cr md w kn lc L h):RsE n a b c e md (stG n q kn) (txG n q cr) lc L h:=by
 obtain⟨lt,lm,f1,f2,f3,f4,f5,f6,M⟩:=M
 exact⟨lm,f1,f2,M.rs⟩
theorem MhE.nx (M:MhE n q a b c e cr md w kn lc L h):n+23≤q∧q+9≤h.next:=by
 obtain⟨lt,lm,f1,f2,f3,f4,f5,f6,M⟩:=M
 exact⟨M.nq,M.nx⟩
theorem MhE.get (M:MhE n q a b c e cr md w kn lc L h) (fb:Jm a b c e=true) {z:Nat} (hz:La a b c e (z:Int)=true) (z1:z<2+e+a * b) {x:List C} (hx:At lc L z x) (xl:x.length=256) (xf:x.all C.flat=true) :
  ∃ h',Zew [.c (.ptr (n+13) 0),.c (.int .i64 (z:Int))] h=some (.tup [.g x,.c (.int .i64 0)],h')∧Rd n L h h'∧h'.next=h.next∧MhE n q a b c e cr md w kn lc L h':=by
 obtain⟨h',e,r,x⟩:=M.rs.get fb hz z1 hx xl xf
 exact⟨h',e,r,x,M.rd r⟩
theorem MhE.put (M:MhE n q a b c e cr md w kn lc L h) (fb:Jm a b c e=true) {z:Nat} (hz:La a b c e (z:Int)=true) (z1:z<2+e+a * b) {x:List C} (xl:x.length=256) (xf:x.all C.flat=true) (wc:(w:Int)<cr) :
  ∃ h',Zmy [.c (.ptr (n+13) 0),.c (.int .i64 (z:Int)),.g x] h=some (.w (.c (.int .i64 0)),h')∧MhE n q a b c e cr md (w+1) false (J2 (z:Int) x lc) L h'∧h'.next=h.next∧∀ m,Off n q m→h'.get m=h.get m:=by
 obtain⟨lt,lm,fm,sn,ft,fc,vt,lw,M⟩:=M
 have MM:=M
 obtain⟨g1,g2,g3,g4,g5,g6,g7,g8,g9,g10,g11⟩:=Z0 fb
 obtain⟨f1,f2,f3,f4,f5,f6,f7,f8,f9,f10,f11,f12,f13,f14,f15,f16,f17,f18,f19,f20,f21⟩:=M
 have tl':decide (((lt.length:Nat):Int)<cr)=true:=decide_eq_true (by omega)
 have fn:Gc []=true:=rfl
 have dn:J5 (Zh0 (z:Int) [])=[]:=rfl
 have e1:Zmy [.c (.ptr (n+13) 0),.c (.int .i64 (z:Int)),.g x] h=some (.w (.c (.int .i64 0)),Zq8 n q (J2 (z:Int) [] lt) (J2 (z:Int) x lc) h):=by
  unfold Zmy Zpm Zgc
  rcases hl:Oi (z:Int) lt with _|y
  ·simp (maxSteps:=9^6) +decide (disch:=first|omega|(simp only[lens]<;>omega)|decide) only [go_sem,Zf,Za,simprocAttr,f19,stG,f5,txG,f6,gdL,gdN,f16,f11,f20,f21,f12,f14,f15,fb,hz,xl,xf,ft,fc,fn,hl,tl',dn,Zq8,C.flat]<;>rfl
  ·obtain rfl:=vt _ _ hl
   simp (maxSteps:=9^6) +decide (disch:=first|omega|(simp only[lens]<;>omega)|decide) only [go_sem,Zf,Za,simprocAttr,f19,stG,f5,txG,f6,gdL,gdN,f16,f11,f20,f21,f12,f14,f15,fb,hz,xl,xf,ft,fc,fn,hl,tl',dn,Zq8,C.flat]<;>rfl
 refine⟨_,e1,⟨_,lm,fm,sn,Bv rfl ft,Bv xf fc,vt.upd _,?_,MM.txn _ _⟩,rfl,fun m o=>Zm4 _ _ ⟨o.2.1,o.2.2.1,o.2.2.2.1,o.2.2.2.2⟩⟩
 have:=Zsy (z:Int) [] lt
 rw[this]
 split<;>omega
end
theorem At.upd {lc:J9} {L:List (List C)} {z z2:Nat} {x y:List C} (h:At lc L z2 y) (ne:z2≠z):At (J2 (z:Int) x lc) L z2 y:=by
 unfold At at h ⊢
 rw[Wz,if_neg (by omega)]
 exact h
theorem At.put (lc:J9) (L:List (List C)) (z:Nat) (x:List C):At (J2 (z:Int) x lc) L z x:=by
 unfold At
 rw[Wz,if_pos rfl]
 exact .inl rfl
end Go.Proofs.YtngejdlimkgjfaaGreatDoor
