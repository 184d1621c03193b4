/- The memory of a store over an image, its handle open: names counted from where fresh began. -/
import Derived.Test.YtmdibcklpmeleaaGreatDoorNew2
import Derived.Test.YtmdibcklpmeleaaGreatDoorBeg3
import Derived.Test.YtmdibcklpmeleaaGreatDoorSto4
import Derived.Test.YtmdibcklpmeleaaGreatDoorInd
import Derived.Test.YtmdibcklpmeleaaGreatDoorMak3
import Derived.Test.YtmdibcklpmeleaaGreatDoorPge
import Derived.Test.YtmdibcklpmeleaaGreatDoorEvC
set_option linter.unusedSimpArgs false
set_option linter.unusedVariables false
set_option linter.unusedSectionVars false
set_option maxRecDepth 100000
set_option maxHeartbeats 4000000
namespace Go.Proofs.YtmdibcklpmeleaaGreatDoor
open Go.Ev
def stN (n:Nat) (kn:Bool):Stt:=⟨n+12,n+20,n+23,n+24,.snil,kn⟩
def txN (n:Nat):Tx:=⟨n+15,n+16,n+17,n+19,1,true,3,0,.map (n+25),.map (n+29),.map (n+30),.map (n+31),.ptr (n+28) 0⟩
def gdN (n a b c e:Nat) (md:Int):Gd:=⟨a,b,c,e,md,n+4,n+8,n+9,n+11⟩
def ckN (n:Nat):Ck:=⟨n+4,n+6,n+7⟩
def dkN (n N:Nat):Dk:=⟨n+2,n+3,N,.snil,0,0⟩
structure Md (n a b c e:Nat) (md:Int) (kn:Bool) (lt lc lm:Gt) (L:List (List C)) (h:Go.Ev.H):Prop where
 st:h.get 0=some Bz
 n0:0<n
 nx:n+32≤h.next
 ht:h.get (n+20)=some (.row 13 [txL (txN n)] false)
 hg:h.get (n+12)=some (.row 9 [gdL (gdN n a b c e md)] false)
 hc:h.get (n+8)=some (.row 3 [ckL (ckN n)] false)
 hd:h.get (n+4)=some (.row 6 [dkL (dkN n (2+e+a * b))] false)
 hq:h.get (n+3)=some (.row 256 L false)
 hli:h.get (n+11)=some (.row 8 [[.bool true,.int .i64 (a:Int),.int .i64 (b:Int),.int .i64 (c:Int),.int .i64 (e:Int),.bool false,.int .u32 0,.snil]] false)
 hgv:h.get (n+24)=some (.map [])
 hfr:h.get (n+17)=some (.map [])
 hod:h.get (n+16)=some (.map [])
 hrv:h.get (n+19)=some (.row 1 [[.map (n+18)]] false)
 hrc:h.get (n+18)=some (.map [])
 hdt:h.get (n+23)=some (.map [])
 hm:h.get (n+6)=some (.map (Uf lm))
 hs:h.get (n+13)=some (.row 8 [stL (stN n kn)] false)
 hto:h.get (n+25)=some (.map (Uf lt))
 hch:h.get (n+15)=some (.map (Uf lc))
section
variable {n a b c e:Nat} {md:Int} {kn:Bool} {lt lc lm:Gt} {L:List (List C)} {h h2:Go.Ev.H}
theorem Md.keep (M:Md n a b c e md kn lt lc lm L h) (hx:h.next≤h2.next) (k:∀ m,m<n+32→h2.get m=h.get m):Md n a b c e md kn lt lc lm L h2:=by
 obtain⟨f1,f2,f3,f4,f5,f6,f7,f8,f9,f10,f11,f12,f13,f14,f15,f16,f17,f18,f19⟩:=M
 refine⟨?_,f2,by omega,?_,?_,?_,?_,?_,?_,?_,?_,?_,?_,?_,?_,?_,?_,?_,?_⟩
 all_goals (rw[k _ (by omega)]; assumption)
theorem Md.seen (M:Md n a b c e md kn lt lc lm L h) (lm':Gt):Md n a b c e md kn lt lc lm' L (h.put (n+6) (.map (Uf lm'))):=by
 obtain⟨f1,f2,f3,f4,f5,f6,f7,f8,f9,f10,f11,f12,f13,f14,f15,f16,f17,f18,f19⟩:=M
 refine⟨?_,f2,f3,?_,?_,?_,?_,?_,?_,?_,?_,?_,?_,?_,?_,Yk _ _ _,?_,?_,?_⟩
 all_goals (rw[Zv (by omega)]; assumption)
noncomputable def Zvw (n:Nat) (lt lc:Gt) (h:Go.Ev.H):Go.Ev.H:=(((h.put (n+13) (.row 8 [stL (stN n false)] false)).put (n+25) (.map (Uf lt))).put (n+15) (.map (Uf lc))).put (n+17) (.map [])
theorem Md.txn (M:Md n a b c e md kn lt lc lm L h) (lt' lc':Gt):Md n a b c e md false lt' lc' lm L (Zvw n lt' lc' h):=by
 obtain⟨f1,f2,f3,f4,f5,f6,f7,f8,f9,f10,f11,f12,f13,f14,f15,f16,f17,f18,f19⟩:=M
 unfold Zvw
 refine⟨?_,f2,f3,?_,?_,?_,?_,?_,?_,?_,Yk _ _ _,?_,?_,?_,?_,?_,?_,?_,?_⟩
 all_goals (first|(rw[Zv (by omega),Zv (by omega),Zv (by omega),Zv (by omega)]; assumption)|(simp (discharger:=omega) only [H.get_put,if_neg,if_true]))
theorem Z0y (lt' lc':Gt):(Zvw n lt' lc' h).next=h.next:=rfl
theorem Z39 (lt' lc':Gt) {m:Nat} (h1:m≠n+13) (h2:m≠n+25) (h3:m≠n+15) (h4:m≠n+17):(Zvw n lt' lc' h).get m=h.get m:=by
 unfold Zvw
 rw[Zv h4,Zv h3,Zv h2,Zv h1]
theorem Md.Yio (M:Md n a b c e md kn lt lc lm L h) (fb:U7 a b c e=true) {z:Nat} (hz:Vx a b c e (z:Int)=true) (z1:z<2+e+a * b) {x:List C} (xl:x.length=256) (xf:x.all C.flat=true) (ft:Gi lt=true) (fc:Gi lc=true) (tk:Oy (z:Int) lt=none) (tl:lt.length<3):Zzi [.c (.ptr (n+13) 0),.c (.int .i64 (z:Int)),.g x] h=some (.w (.c (.int .i64 0)),Zvw n (Lu (z:Int) [] lt) (Lu (z:Int) x lc) h):=by
 obtain⟨g1,g2,g3,g4,g5,g6,g7,g8,g9,g10,g11⟩:=Yn fb
 obtain⟨f1,f2,f3,f4,f5,f6,f7,f8,f9,f10,f11,f12,f13,f14,f15,f16,f17,f18,f19⟩:=M
 have tl':decide (((lt.length:Nat):Int)<3)=true:=decide_eq_true (by omega)
 have fn:Gi []=true:=rfl
 have dn:Uf (Zky (z:Int) [])=[]:=rfl
 unfold Zzi Zwc Zkr
 simp (maxSteps:=9^6) +decide (disch:=first|omega|(simp only[lens]<;>omega)|decide) only [go_sem,Zc,Za,simprocAttr,f17,stN,f4,txN,f5,gdL,gdN,f15,f10,f18,f19,f11,f13,f14,fb,hz,xl,xf,ft,fc,fn,tk,tl',dn,Zvw,C.flat]<;>rfl
end
theorem Ztp {a b c e z:Nat} (F:Fine a b c e) (h1:2+e≤z) (h2:z<2+e+a * b):Vx a b c e (z:Int)=true:=by
 obtain⟨g1,g2,g3,g4,g5,g6,g7,g8,g9,g10,g11⟩:=F
 unfold Vx
 rw[decide_eq_true (by omega),Int.toNat_natCast]
 unfold Ee
 rw[if_neg (by omega),if_neg (by omega),if_neg (by omega),if_neg (by omega)]
 split
 ·rfl
 ·split
  ·rfl
  ·split<;>rfl
end Go.Proofs.YtmdibcklpmeleaaGreatDoor
set_option maxRecDepth 100000
set_option maxHeartbeats 4000000
namespace Go.Proofs.YtmdibcklpmeleaaGreatDoor
open Go.Ev
structure Rs (n a b c e:Nat) (md:Int) (S:Stt) (X:Tx) (lc lm:Gt) (L:List (List C)) (h:Go.Ev.H):Prop where
 nx:n+32≤h.next
 hs:h.get (n+13)=some (.row 8 [stL S] false)
 ht:h.get S.tx=some (.row 13 [txL X] false)
 hg:h.get S.gd=some (.row 9 [gdL (gdN n a b c e md)] false)
 hc:h.get (n+8)=some (.row 3 [ckL (ckN n)] false)
 hd:h.get (n+4)=some (.row 6 [dkL (dkN n (2+e+a * b))] false)
 hq:h.get (n+3)=some (.row 256 L false)
 hli:h.get (n+11)=some (.row 8 [[.bool true,.int .i64 (a:Int),.int .i64 (b:Int),.int .i64 (c:Int),.int .i64 (e:Int),.bool false,.int .u32 0,.snil]] false)
 hdt:h.get S.dt=some (.map [])
 hch:h.get X.ch=some (.map (Uf lc))
 hm:h.get (n+6)=some (.map (Uf lm))
 l1:S.tx<h.next
 l2:S.gd<h.next
 l3:S.dt<h.next
 l4:X.ch<h.next
 e1:S.tx≠n+6
 e2:S.gd≠n+6
 e3:S.dt≠n+6
 e4:X.ch≠n+6
def Seen (lm:Gt) (L:List (List C)):Prop:=∀ (z:Nat) (y:List C),Oy (z:Int) lm=some y→∃ x,L[z]? = some x∧y=x++[.bool false]
def Rd (n:Nat) (L:List (List C)) (h h':Go.Ev.H):Prop:=h.next≤h'.next∧(∀ m,m<h.next→m≠n+6→h'.get m=h.get m)∧∃ lm,Gi lm=true∧Seen lm L∧h'.get (n+6)=some (.map (Uf lm))
def RsE (n a b c e:Nat) (md:Int) (S:Stt) (X:Tx) (lc:Gt) (L:List (List C)) (h:Go.Ev.H):Prop:=∃ lm,Gi lm=true∧Seen lm L∧Rs n a b c e md S X lc lm L h
def MdE (n a b c e:Nat) (md:Int) (kn:Bool) (lt lc:Gt) (L:List (List C)) (h:Go.Ev.H):Prop:=∃ lm,Gi lm=true∧Seen lm L∧Md n a b c e md kn lt lc lm L h
theorem Z7u (L:List (List C)):Seen [] L:=fun _ _ e=>by cases e
theorem Seen.upd {lm:Gt} {L:List (List C)} (s:Seen lm L) {z:Nat} {x:List C} (hx:L[z]? = some x):Seen (Lu (z:Int) (x++[.bool false]) lm) L:=fun z' y e=>by
 rw[Zs4] at e
 by_cases q:((z':Int)=z)
 ·obtain rfl:z'=z:=by omega
  rw[if_pos rfl] at e
  cases e
  exact⟨x,hx,rfl⟩
 ·rw[if_neg q] at e
  exact s z' y e
section
variable {n a b c e:Nat} {md:Int} {kn:Bool} {S:Stt} {X:Tx} {lt lc lm lm':Gt} {L:List (List C)} {h h2:Go.Ev.H}
theorem Rs.keep (R:Rs n a b c e md S X lc lm L h) (hx:h.next≤h2.next) (k:∀ m,m<h.next→h2.get m=h.get m):Rs n a b c e md S X lc lm L h2:=by
 obtain⟨nx,f1,f2,f3,f4,f5,f6,f7,f8,f9,f10,l1,l2,l3,l4,e1,e2,e3,e4⟩:=R
 refine⟨by omega,?_,?_,?_,?_,?_,?_,?_,?_,?_,?_,by omega,by omega,by omega,by omega,e1,e2,e3,e4⟩
 all_goals (rw[k _ (by omega)]; assumption)
theorem Rs.upd (R:Rs n a b c e md S X lc lm L h) (hx:h.next≤h2.next) (k:∀ m,m<h.next→m≠n+6→h2.get m=h.get m) (hm:h2.get (n+6)=some (.map (Uf lm'))):Rs n a b c e md S X lc lm' L h2:=by
 obtain⟨nx,f1,f2,f3,f4,f5,f6,f7,f8,f9,f10,l1,l2,l3,l4,e1,e2,e3,e4⟩:=R
 refine⟨by omega,?_,?_,?_,?_,?_,?_,?_,?_,?_,hm,by omega,by omega,by omega,by omega,e1,e2,e3,e4⟩
 all_goals (rw[k _ (by omega) (by omega)]; assumption)
theorem Md.upd (M:Md n a b c e md kn lt lc lm L h) (hx:h.next≤h2.next) (k:∀ m,m<n+32→m≠n+6→h2.get m=h.get m) (hm:h2.get (n+6)=some (.map (Uf lm'))):Md n a b c e md kn lt lc lm' L h2:=by
 obtain⟨f1,f2,f3,f4,f5,f6,f7,f8,f9,f10,f11,f12,f13,f14,f15,f16,f17,f18,f19⟩:=M
 refine⟨?_,f2,by omega,?_,?_,?_,?_,?_,?_,?_,?_,?_,?_,?_,?_,hm,?_,?_,?_⟩
 all_goals (rw[k _ (by omega) (by omega)]; assumption)
theorem Md.rs (M:Md n a b c e md kn lt lc lm L h):Rs n a b c e md (stN n kn) (txN n) lc lm L h:=by
 obtain⟨f1,f2,f3,f4,f5,f6,f7,f8,f9,f10,f11,f12,f13,f14,f15,f16,f17,f18,f19⟩:=M
 exact⟨f3,f17,f4,f5,f6,f7,f8,f9,f15,f19,f16,by show n+20<_; omega,by show n+12<_; omega,by show n+23<_; omega,by show n+15<_; omega,by show n+20≠_; omega,by show n+12≠_; omega,by show n+23≠_; omega,by show n+15≠_; omega⟩
theorem Rd.refl {lm:Gt} (fl:Gi lm=true) (sn:Seen lm L) (hm:h.get (n+6)=some (.map (Uf lm))):Rd n L h h:=⟨Nat.le_refl _,fun _ _ _=>rfl,lm,fl,sn,hm⟩
theorem Rd.then {h3:Go.Ev.H} (R:Rd n L h h2) (hx:h2.next≤h3.next) (k:∀ m,m<h2.next→h3.get m=h2.get m) (nl:n+6<h2.next):Rd n L h h3:=by
 obtain⟨q1,q2,lm,q3,q4,q5⟩:=R
 exact⟨by omega,fun m hm hne=>(k m (by omega)).trans (q2 m hm hne),lm,q3,q4,(k _ nl).trans q5⟩
theorem RsE.rd (R:RsE n a b c e md S X lc L h) (q:Rd n L h h2):RsE n a b c e md S X lc L h2:=by
 obtain⟨lm,fl,sn,R⟩:=R
 obtain⟨q1,q2,lm',q3,q4,q5⟩:=q
 exact⟨lm',q3,q4,R.upd q1 q2 q5⟩
theorem RsE.keep (R:RsE n a b c e md S X lc L h) (hx:h.next≤h2.next) (k:∀ m,m<h.next→h2.get m=h.get m):RsE n a b c e md S X lc L h2:=by
 obtain⟨lm,fl,sn,R⟩:=R
 exact⟨lm,fl,sn,R.keep hx k⟩
theorem MdE.rd (M:MdE n a b c e md kn lt lc L h) (q:Rd n L h h2):MdE n a b c e md kn lt lc L h2:=by
 obtain⟨lm,fl,sn,M⟩:=M
 obtain⟨q1,q2,lm',q3,q4,q5⟩:=q
 have nx:=M.nx
 exact⟨lm',q3,q4,M.upd q1 (fun m hm hne=>q2 m (by omega) hne) q5⟩
theorem MdE.keep (M:MdE n a b c e md kn lt lc L h) (hx:h.next≤h2.next) (k:∀ m,m<n+32→h2.get m=h.get m):MdE n a b c e md kn lt lc L h2:=by
 obtain⟨lm,fl,sn,M⟩:=M
 exact⟨lm,fl,sn,M.keep hx k⟩
theorem MdE.rs (M:MdE n a b c e md kn lt lc L h):RsE n a b c e md (stN n kn) (txN n) lc L h:=by
 obtain⟨lm,fl,sn,M⟩:=M
 exact⟨lm,fl,sn,M.rs⟩
def At (lc:Gt) (L:List (List C)) (z:Nat) (x:List C):Prop:=Oy (z:Int) lc=some x∨Oy (z:Int) lc=none∧L[z]? = some x
theorem RsE.get (R:RsE n a b c e md S X lc L h) (fb:U7 a b c e=true) {z:Nat} (hz:Vx a b c e (z:Int)=true) (z1:z<2+e+a * b) {x:List C} (hx:At lc L z x) (xl:x.length=256) (xf:x.all C.flat=true) :
  ∃ h',Zki [.c (.ptr (n+13) 0),.c (.int .i64 (z:Int))] h=some (.tup [.g x,.c (.int .i64 0)],h')∧Rd n L h h'∧h'.next=h.next:=by
 obtain⟨lm,fl,sn,R⟩:=R
 obtain⟨g1,g2,g3,g4,g5,g6,g7,g8,g9,g10,g11⟩:=Yn fb
 obtain⟨nx,f1,f2,f3,f4,f5,f6,f7,f8,f9,f10,l1,l2,l3,l4,e1,e2,e3,e4⟩:=R
 have ld:∀ z,Oy z []=none:=fun _=>rfl
 have e0:Qy []=some []:=rfl
 obtain⟨N,hN⟩:∃ N,2+e+a * b=N:=⟨_,rfl⟩
 rw[hN] at f5 z1
 rcases hx with hl|⟨hl,hx⟩
 ·exact⟨h,by unfold Zki Sy; simp (maxSteps:=9^6) +decide (disch:=first|omega|(simp only[lens]<;>omega)|decide) only [go_sem,Zc,Za,simprocAttr,f1,f2,f3,gdL,gdN,f7,f8,f9,f10,fb,hz,hl,xl,xf,ld,e0]<;>rfl,Rd.refl fl sn f10,rfl⟩
 ·rcases hl2:Oy (z:Int) lm with _|y
  ·exact⟨h.put (n+6) (.map (Uf (Lu (z:Int) (x++[.bool false]) lm))),by unfold Zki Sy Wj; simp (maxSteps:=9^6) +decide (disch:=first|omega|(simp only[lens]<;>omega)|decide) only [go_sem,Zc,Za,simprocAttr,f1,f2,f3,gdL,gdN,f4,ckN,f5,dkN,f6,f7,f8,f9,f10,fb,hz,hl,hl2,fl,hx,xl,xf,ld,e0,Int.toNat_natCast]<;>rfl,⟨Nat.le_refl _,fun m _ hm=>Zv hm,_,Ld (by rw[List.all_append,xf]; rfl) fl,sn.upd hx,Yk _ _ _⟩,rfl⟩
  ·obtain⟨x',hx',rfl⟩:=sn z y hl2
   rw[hx] at hx'
   cases hx'
   have yl:(x++[C.bool false]).length=257:=by rw[List.length_append,xl]; rfl
   have yf:(x++[C.bool false]).all C.flat=true:=by rw[List.all_append,xf]; rfl
   have yt:(x++[C.bool false]).take 256=x:=by rw[←xl,List.take_left']; rfl
   obtain⟨y,hy⟩:∃ y,x++[C.bool false]=y:=⟨_,rfl⟩
   rw[hy] at hl2 yl yf yt
   exact⟨h,by unfold Zki Sy Wj; simp (maxSteps:=9^6) +decide (disch:=first|omega|(simp only[lens]<;>omega)|decide) only [go_sem,Zc,Za,simprocAttr,f1,f2,f3,gdL,gdN,f4,ckN,f5,dkN,f6,f7,f8,f9,f10,fb,hz,hl,hl2,yl,yf,yt,ld,e0]<;>rfl,Rd.refl fl sn f10,rfl⟩
end
end Go.Proofs.YtmdibcklpmeleaaGreatDoor
set_option maxRecDepth 100000
set_option maxHeartbeats 4000000
namespace Go.Proofs.YtmdibcklpmeleaaGreatDoor
open Go.Ev
attribute [go_sem] ty28 sz28 ag28 de28 ze28 by28 eq28 ty30 sz30 ag30 fo30_0 fo30_1 fo30_2 fo30_3 fo30_4 fo30_5 bu30 ze30 by30
theorem rs32:Tryz.f32.results.toList=[.tmp 2]:=rfl
theorem rs76:Tryz.f76.results.toList=[.tmp 2]:=rfl
attribute [go_sem] rs32 rs76
def Dq (k l g s p0 p1 p2 p3 p4 p5 p6 p7 p8 p9 p10 nx:Int):List C:=[.int .u8 k,.int .i64 l,.int .u32 g,.int .i64 s,.int .u32 p0,.int .u32 p1,.int .u32 p2,.int .u32 p3,.int .u32 p4,.int .u32 p5,.int .u32 p6,.int .u32 p7,.int .u32 p8,.int .u32 p9,.int .u32 p10,.int .u32 nx]
def Nw (l s:Int):Bool:=decide (0≤l)&&decide (l≤1000)&&decide (0≤s)&&decide (s≤16777216)
def Z8p (l s p0 p1 p2 p3 p4 p5 p6 p7 p8 p9 p10 nx:Int):Bool:=l == 0&&(s == 0&&((p0 == 0&&(p1 == 0&&(p2 == 0&&(p3 == 0&&(p4 == 0&&(p5 == 0&&(p6 == 0&&(p7 == 0&&(p8 == 0&&(p9 == 0&&(p10 == 0&&true)))))))))))&&(nx == 0&&true)))
def Zh4 (k l s p0 p1 p2 p3 p4 p5 p6 p7 p8 p9 p10 nx:Int):Bool :=
 bif decide (k=0) then Z8p l s p0 p1 p2 p3 p4 p5 p6 p7 p8 p9 p10 nx
 else bif decide (k=2) then decide (l=1)&&decide (s % 256=0)&&decide (nx=0)&&Nw l s
 else bif decide (k=1) then Nw l s else false
noncomputable def Zkj:Kn1:=fun args h=>match args with
 | [.c (.int .i64 z)]=>some (.w (.c (.bool (decide (z=0∨z=64∨z=128∨z=192)))),h)
 | _=>none
noncomputable def Ydz:Kn1:=fun args h=>match args with
 | [.g [.int .u8 k,.int .i64 l,.int .u32 g,.int .i64 s,.int .u32 p0,.int .u32 p1,.int .u32 p2,.int .u32 p3,.int .u32 p4,.int .u32 p5,.int .u32 p6,.int .u32 p7,.int .u32 p8,.int .u32 p9,.int .u32 p10,.int .u32 nx]]=>some (.w (.c (.bool (Zh4 k l s p0 p1 p2 p3 p4 p5 p6 p7 p8 p9 p10 nx))),h)
 | _=>none
attribute [go_sem] Zkj Ydz
def mB (b:Bool) (r:Option Bool):Option Bool:=match some b with
 | some true=>r
 | r'=>r'
def mO (o:Option Bool) (r:Option Bool):Option Bool:=match o with
 | some true=>r
 | r'=>r'
theorem Zzc (b x:Bool):mB b (some x)=some (b&&x):=by cases b<;>rfl
theorem Zzg (b x:Bool):mO (some b) (some x)=some (b&&x):=by cases b<;>rfl
theorem Eb (k:IntKind) (a:Int) (x y:List C) (r:Bool) (h:Ym x y=some r):Ym (.int k a :: x) (.int k 0 :: y)=some (a == 0&&r):=by
 simp only[Ym,if_true,h]
 cases (a == 0)<;>rfl
theorem Yhr (k l g s p0 p1 p2 p3 p4 p5 p6 p7 p8 p9 p10 nx:Int):eqT K 20 30 (.g (Dq k l g s p0 p1 p2 p3 p4 p5 p6 p7 p8 p9 p10 nx)) (.g (Dq 0 0 g 0 0 0 0 0 0 0 0 0 0 0 0 0))=some (k == 0&&(l == 0&&(s == 0&&((p0 == 0&&(p1 == 0&&(p2 == 0&&(p3 == 0&&(p4 == 0&&(p5 == 0&&(p6 == 0&&(p7 == 0&&(p8 == 0&&(p9 == 0&&(p10 == 0&&true)))))))))))&&(nx == 0&&true))))):=by
 have e1:eqT K 20 30 (.g (Dq k l g s p0 p1 p2 p3 p4 p5 p6 p7 p8 p9 p10 nx)) (.g (Dq 0 0 g 0 0 0 0 0 0 0 0 0 0 0 0 0))=mB (k == 0) (mB (l == 0) (mB (g == g) (mB (s == 0) (mO (Ym [.int .u32 p0,.int .u32 p1,.int .u32 p2,.int .u32 p3,.int .u32 p4,.int .u32 p5,.int .u32 p6,.int .u32 p7,.int .u32 p8,.int .u32 p9,.int .u32 p10] [.int .u32 0,.int .u32 0,.int .u32 0,.int .u32 0,.int .u32 0,.int .u32 0,.int .u32 0,.int .u32 0,.int .u32 0,.int .u32 0,.int .u32 0]) (mB (nx == 0) (some true)))))):=by kernel_rfl
 rw[e1]
 have e2:Ym [C.int .u32 p0,C.int .u32 p1,C.int .u32 p2,C.int .u32 p3,C.int .u32 p4,C.int .u32 p5,C.int .u32 p6,C.int .u32 p7,C.int .u32 p8,C.int .u32 p9,C.int .u32 p10] [C.int .u32 0,C.int .u32 0,C.int .u32 0,C.int .u32 0,C.int .u32 0,C.int .u32 0,C.int .u32 0,C.int .u32 0,C.int .u32 0,C.int .u32 0,C.int .u32 0]=some _:=Eb _ _ _ _ _ (Eb _ _ _ _ _ (Eb _ _ _ _ _ (Eb _ _ _ _ _ (Eb _ _ _ _ _ (Eb _ _ _ _ _ (Eb _ _ _ _ _ (Eb _ _ _ _ _ (Eb _ _ _ _ _ (Eb _ _ _ _ _ (Eb _ _ _ _ _ (rfl)))))))))))
 rw[e2]
 simp only[beq_self_eq_true,Zzc,Zzg,Bool.true_and]
section
variable (Hh:Hearts K Tryz.prog)
include Hh
theorem Sq {args:List W} {h h':Go.Ev.H} {v:V} (e:Zkj args h=some (v,h')):Zd K Tryz.prog 76 args h v h':=by
 unfold Zkj at e
 split at e
 ·rename_i z
  cases e
  by_cases z0:0≤z
  ·by_cases z1:z<256
   ·obtain⟨n,rfl⟩:=Int.eq_ofNat_of_zero_le z0
    have rm:Zb8 .i64 (n:Int) 64=some (.int .i64 ((n % 64:Nat):Int)):=Nu (b:=64) (by omega)
    by_cases z2:n % 64=0
    ·rw[decide_eq_true (show (n:Int)=0∨(n:Int)=64∨(n:Int)=128∨(n:Int)=192 by omega)]
     refine Zd.goes fits Hh (by kernel_rfl) (by kernel_rfl) (by kernel_rfl) (show Tryz.f76.body=some _ from rfl) rfl ?_
     repeat (first
      | refine Goes.seq ?_
      | refine Goes.block ?_
      | refine Goes.loop ?_
      | refine Goes.skip ?_
      | refine Goes.exit ?_
      | refine Goes.ret ?_
      | refine Goes.Z4 (by simp (maxSteps:=9^6) +decide (disch:=first|omega|(simp only[lens]<;>omega)|decide) only [go_sem,Zc,Za,simprocAttr,rm,z2]<;>rfl) ?_
      | refine Goes.ops2 fits Hh Zb (by simp (maxSteps:=9^6) +decide (disch:=first|omega|(simp only[lens]<;>omega)|decide) only [go_sem,Zc,Za,simprocAttr,rm,z2]; rfl) ?_)
     simp (maxSteps:=9^6) +decide (disch:=first|omega|(simp only[lens]<;>omega)|decide) only [go_sem,Zc,Za,simprocAttr]<;>rfl
    ·rw[decide_eq_false (show ¬((n:Int)=0∨(n:Int)=64∨(n:Int)=128∨(n:Int)=192) by omega)]
     have z3:(((n % 64:Nat):Int) == 0)=false:=beq_eq_false_iff_ne.2 (by omega)
     refine Zd.goes fits Hh (by kernel_rfl) (by kernel_rfl) (by kernel_rfl) (show Tryz.f76.body=some _ from rfl) rfl ?_
     repeat (first
      | refine Goes.seq ?_
      | refine Goes.block ?_
      | refine Goes.loop ?_
      | refine Goes.skip ?_
      | refine Goes.exit ?_
      | refine Goes.ret ?_
      | refine Goes.Z4 (by simp (maxSteps:=9^6) +decide (disch:=first|omega|(simp only[lens]<;>omega)|decide) only [go_sem,Zc,Za,simprocAttr,rm,z3]<;>rfl) ?_
      | refine Goes.ops2 fits Hh Zb (by simp (maxSteps:=9^6) +decide (disch:=first|omega|(simp only[lens]<;>omega)|decide) only [go_sem,Zc,Za,simprocAttr,rm,z3]; rfl) ?_)
     simp (maxSteps:=9^6) +decide (disch:=first|omega|(simp only[lens]<;>omega)|decide) only [go_sem,Zc,Za,simprocAttr]<;>rfl
   ·rw[decide_eq_false (show ¬(z=0∨z=64∨z=128∨z=192) by omega)]
    refine Zd.goes fits Hh (by kernel_rfl) (by kernel_rfl) (by kernel_rfl) (show Tryz.f76.body=some _ from rfl) rfl ?_
    repeat (first
     | refine Goes.seq ?_
     | refine Goes.block ?_
     | refine Goes.loop ?_
     | refine Goes.skip ?_
     | refine Goes.exit ?_
     | refine Goes.ret ?_
     | refine Goes.Z4 (by simp (maxSteps:=9^6) +decide (disch:=first|omega|(simp only[lens]<;>omega)|decide) only [go_sem,Zc,Za,simprocAttr]<;>rfl) ?_
     | refine Goes.ops2 fits Hh Zb (by simp (maxSteps:=9^6) +decide (disch:=first|omega|(simp only[lens]<;>omega)|decide) only [go_sem,Zc,Za,simprocAttr]; rfl) ?_)
    simp (maxSteps:=9^6) +decide (disch:=first|omega|(simp only[lens]<;>omega)|decide) only [go_sem,Zc,Za,simprocAttr]<;>rfl
  ·rw[decide_eq_false (show ¬(z=0∨z=64∨z=128∨z=192) by omega)]
   refine Zd.goes fits Hh (by kernel_rfl) (by kernel_rfl) (by kernel_rfl) (show Tryz.f76.body=some _ from rfl) rfl ?_
   repeat (first
    | refine Goes.seq ?_
    | refine Goes.block ?_
    | refine Goes.loop ?_
    | refine Goes.skip ?_
    | refine Goes.exit ?_
    | refine Goes.ret ?_
    | refine Goes.Z4 (by simp (maxSteps:=9^6) +decide (disch:=first|omega|(simp only[lens]<;>omega)|decide) only [go_sem,Zc,Za,simprocAttr]<;>rfl) ?_
    | refine Goes.ops2 fits Hh Zb (by simp (maxSteps:=9^6) +decide (disch:=first|omega|(simp only[lens]<;>omega)|decide) only [go_sem,Zc,Za,simprocAttr]; rfl) ?_)
   simp (maxSteps:=9^6) +decide (disch:=first|omega|(simp only[lens]<;>omega)|decide) only [go_sem,Zc,Za,simprocAttr]<;>rfl
 ·cases e
theorem Zi6 (k l g s p0 p1 p2 p3 p4 p5 p6 p7 p8 p9 p10 nx:Int) (h:Go.Ev.H):Zd K Tryz.prog 32 [.g [.int .u8 k,.int .i64 l,.int .u32 g,.int .i64 s,.int .u32 p0,.int .u32 p1,.int .u32 p2,.int .u32 p3,.int .u32 p4,.int .u32 p5,.int .u32 p6,.int .u32 p7,.int .u32 p8,.int .u32 p9,.int .u32 p10,.int .u32 nx]] h (.w (.c (.bool (Zh4 k l s p0 p1 p2 p3 p4 p5 p6 p7 p8 p9 p10 nx)))) h:=by
 have r16:∀ k,Zc 16 [[.int .u8 k,.int .i64 l,.int .u32 g,.int .i64 s,.int .u32 p0,.int .u32 p1,.int .u32 p2,.int .u32 p3,.int .u32 p4,.int .u32 p5,.int .u32 p6,.int .u32 p7,.int .u32 p8,.int .u32 p9,.int .u32 p10,.int .u32 nx]] 0 16=some [.int .u8 k,.int .i64 l,.int .u32 g,.int .i64 s,.int .u32 p0,.int .u32 p1,.int .u32 p2,.int .u32 p3,.int .u32 p4,.int .u32 p5,.int .u32 p6,.int .u32 p7,.int .u32 p8,.int .u32 p9,.int .u32 p10,.int .u32 nx]:=fun _=>rfl
 obtain⟨v,h',c,rfl,hk⟩:∃ v h',Zd K Tryz.prog 32 [.g [.int .u8 k,.int .i64 l,.int .u32 g,.int .i64 s,.int .u32 p0,.int .u32 p1,.int .u32 p2,.int .u32 p3,.int .u32 p4,.int .u32 p5,.int .u32 p6,.int .u32 p7,.int .u32 p8,.int .u32 p9,.int .u32 p10,.int .u32 nx]] h v h'∧v=.w (.c (.bool (Zh4 k l s p0 p1 p2 p3 p4 p5 p6 p7 p8 p9 p10 nx)))∧∀ m,m<h.next→h'.get m=h.get m:=by
  unfold Zh4
  by_cases k0:k=0
  ·subst k0
   have q:=Yhr 0 l g s p0 p1 p2 p3 p4 p5 p6 p7 p8 p9 p10 nx
   simp only[Dq] at q
   refine Zd.Ya fits Hh (by kernel_rfl) (by kernel_rfl) (by kernel_rfl) (show Tryz.f32.body=some _ from rfl) rfl ?_
   repeat (first
    | refine Goes.seq ?_
    | refine Goes.block2 ?_
    | refine Goes.loop ?_
    | refine Goes.skip ?_
    | refine Goes.exit ?_
    | refine Goes.ret ?_
    | refine Goes.Z4 (by simp (maxSteps:=9^6) +decide (disch:=first|omega|(simp only[lens]<;>omega)|decide) only [go_sem,Za,simprocAttr,r16,q,read1,Zn]<;>rfl) ?_
    | refine Goes.ops2 fits Hh Zb (by simp (maxSteps:=9^6) +decide (disch:=first|omega|(simp only[lens]<;>omega)|decide) only [go_sem,Za,simprocAttr,r16,q,read1,Zn]; rfl) ?_
    | simp +decide only [reduceIte])
   exact⟨_,_,(by simp (maxSteps:=9^6) +decide (disch:=first|omega|(simp only[lens]<;>omega)|decide) only [go_sem,Za,simprocAttr]<;>rfl),by simp [Z8p],fun m hm=>by (first|(simp (discharger:=omega) only [H.get_put,H.Zh,H.Zk,H.Ze,H.Zg,H.Zj,if_neg]; done)|(simp only[H.get_put,H.Zh,H.Zk,H.Ze,H.Zg,H.Zj]; (repeat' split)<;>first|rfl|(exfalso; omega)|omega))⟩
  ·by_cases k2:k=2
   ·subst k2
    rw[decide_eq_false (by omega),decide_eq_true rfl,cond_false,cond_true]
    by_cases l1:l=1
    ·subst l1
     by_cases s0:0≤s
     ·obtain⟨z,rfl⟩:=Int.eq_ofNat_of_zero_le s0
      have rm:Zb8 .i64 (z:Int) 256=some (.int .i64 ((z % 256:Nat):Int)):=Nu (b:=256) (by omega)
      have em:((z:Int) % 256)=((z % 256:Nat):Int):=rfl
      rw[em]
      by_cases z2:z % 256=0
      ·by_cases n0:nx=0
       ·subst n0
        by_cases z3:z≤16777216
        ·
         refine Zd.Ya fits Hh (by kernel_rfl) (by kernel_rfl) (by kernel_rfl) (show Tryz.f32.body=some _ from rfl) rfl ?_
         repeat (first
          | refine Goes.seq ?_
          | refine Goes.block2 ?_
          | refine Goes.loop ?_
          | refine Goes.skip ?_
          | refine Goes.exit ?_
          | refine Goes.ret ?_
          | refine Goes.Z4 (by simp (maxSteps:=9^6) +decide (disch:=first|omega|(simp only[lens]<;>omega)|decide) only [go_sem,Za,simprocAttr,r16,rm,z2,read1,Zn]<;>rfl) ?_
          | refine Goes.ops2 fits Hh Zb (by simp (maxSteps:=9^6) +decide (disch:=first|omega|(simp only[lens]<;>omega)|decide) only [go_sem,Za,simprocAttr,r16,rm,z2,read1,Zn]; rfl) ?_
          | simp +decide only [reduceIte])
         exact⟨_,_,(by simp (maxSteps:=9^6) +decide (disch:=first|omega|(simp only[lens]<;>omega)|decide) only [go_sem,Za,simprocAttr]<;>rfl),by simp [Nw,z2]; omega,fun m hm=>by (first|(simp (discharger:=omega) only [H.get_put,H.Zh,H.Zk,H.Ze,H.Zg,H.Zj,if_neg]; done)|(simp only[H.get_put,H.Zh,H.Zk,H.Ze,H.Zg,H.Zj]; (repeat' split)<;>first|rfl|(exfalso; omega)|omega))⟩
        ·
         refine Zd.Ya fits Hh (by kernel_rfl) (by kernel_rfl) (by kernel_rfl) (show Tryz.f32.body=some _ from rfl) rfl ?_
         repeat (first
          | refine Goes.seq ?_
          | refine Goes.block2 ?_
          | refine Goes.loop ?_
          | refine Goes.skip ?_
          | refine Goes.exit ?_
          | refine Goes.ret ?_
          | refine Goes.Z4 (by simp (maxSteps:=9^6) +decide (disch:=first|omega|(simp only[lens]<;>omega)|decide) only [go_sem,Za,simprocAttr,r16,rm,z2,read1,Zn]<;>rfl) ?_
          | refine Goes.ops2 fits Hh Zb (by simp (maxSteps:=9^6) +decide (disch:=first|omega|(simp only[lens]<;>omega)|decide) only [go_sem,Za,simprocAttr,r16,rm,z2,read1,Zn]; rfl) ?_
          | simp +decide only [reduceIte])
         exact⟨_,_,(by simp (maxSteps:=9^6) +decide (disch:=first|omega|(simp only[lens]<;>omega)|decide) only [go_sem,Za,simprocAttr]<;>rfl),by simp [Nw,z2]; omega,fun m hm=>by (first|(simp (discharger:=omega) only [H.get_put,H.Zh,H.Zk,H.Ze,H.Zg,H.Zj,if_neg]; done)|(simp only[H.get_put,H.Zh,H.Zk,H.Ze,H.Zg,H.Zj]; (repeat' split)<;>first|rfl|(exfalso; omega)|omega))⟩
       ·
        refine Zd.Ya fits Hh (by kernel_rfl) (by kernel_rfl) (by kernel_rfl) (show Tryz.f32.body=some _ from rfl) rfl ?_
        repeat (first
         | refine Goes.seq ?_
         | refine Goes.block2 ?_
         | refine Goes.loop ?_
         | refine Goes.skip ?_
         | refine Goes.exit ?_
         | refine Goes.ret ?_
         | refine Goes.Z4 (by simp (maxSteps:=9^6) +decide (disch:=first|omega|(simp only[lens]<;>omega)|decide) only [go_sem,Za,simprocAttr,r16,rm,z2,n0,read1,Zn]<;>rfl) ?_
         | refine Goes.ops2 fits Hh Zb (by simp (maxSteps:=9^6) +decide (disch:=first|omega|(simp only[lens]<;>omega)|decide) only [go_sem,Za,simprocAttr,r16,rm,z2,n0,read1,Zn]; rfl) ?_
         | simp +decide only [reduceIte])
        exact⟨_,_,(by simp (maxSteps:=9^6) +decide (disch:=first|omega|(simp only[lens]<;>omega)|decide) only [go_sem,Za,simprocAttr]<;>rfl),by simp [n0],fun m hm=>by (first|(simp (discharger:=omega) only [H.get_put,H.Zh,H.Zk,H.Ze,H.Zg,H.Zj,if_neg]; done)|(simp only[H.get_put,H.Zh,H.Zk,H.Ze,H.Zg,H.Zj]; (repeat' split)<;>first|rfl|(exfalso; omega)|omega))⟩
      ·have z3:(((z % 256:Nat):Int) == 0)=false:=beq_eq_false_iff_ne.2 (by omega)
       have z4:(((z % 256:Nat):Int) != 0)=true:=by rw[bne,z3]; rfl
       refine Zd.Ya fits Hh (by kernel_rfl) (by kernel_rfl) (by kernel_rfl) (show Tryz.f32.body=some _ from rfl) rfl ?_
       repeat (first
        | refine Goes.seq ?_
        | refine Goes.block2 ?_
        | refine Goes.loop ?_
        | refine Goes.skip ?_
        | refine Goes.exit ?_
        | refine Goes.ret ?_
        | refine Goes.Z4 (by simp (maxSteps:=9^6) +decide (disch:=first|omega|(simp only[lens]<;>omega)|decide) only [go_sem,Za,simprocAttr,r16,rm,z4,read1,Zn]<;>rfl) ?_
        | refine Goes.ops2 fits Hh Zb (by simp (maxSteps:=9^6) +decide (disch:=first|omega|(simp only[lens]<;>omega)|decide) only [go_sem,Za,simprocAttr,r16,rm,z4,read1,Zn]; rfl) ?_
        | simp +decide only [reduceIte])
       exact⟨_,_,(by simp (maxSteps:=9^6) +decide (disch:=first|omega|(simp only[lens]<;>omega)|decide) only [go_sem,Za,simprocAttr]<;>rfl),by rw[decide_eq_false (show ¬(((z % 256:Nat):Int)=0) by omega)]; rfl,fun m hm=>by (first|(simp (discharger:=omega) only [H.get_put,H.Zh,H.Zk,H.Ze,H.Zg,H.Zj,if_neg]; done)|(simp only[H.get_put,H.Zh,H.Zk,H.Ze,H.Zg,H.Zj]; (repeat' split)<;>first|rfl|(exfalso; omega)|omega))⟩
     ·have rm:Zb8 .i64 s 256=some (.int .i64 (s.tmod 256)):=rfl
      have mf:Nw 1 s=false:=by unfold Nw; rw[decide_eq_false s0]; rfl
      rw[mf,Bool.and_false]
      by_cases z2:s.tmod 256=0
      ·by_cases n0:nx=0
       ·subst n0
        refine Zd.Ya fits Hh (by kernel_rfl) (by kernel_rfl) (by kernel_rfl) (show Tryz.f32.body=some _ from rfl) rfl ?_
        repeat (first
         | refine Goes.seq ?_
         | refine Goes.block2 ?_
         | refine Goes.loop ?_
         | refine Goes.skip ?_
         | refine Goes.exit ?_
         | refine Goes.ret ?_
         | refine Goes.Z4 (by simp (maxSteps:=9^6) +decide (disch:=first|omega|(simp only[lens]<;>omega)|decide) only [go_sem,Za,simprocAttr,r16,rm,z2,read1,Zn]<;>rfl) ?_
         | refine Goes.ops2 fits Hh Zb (by simp (maxSteps:=9^6) +decide (disch:=first|omega|(simp only[lens]<;>omega)|decide) only [go_sem,Za,simprocAttr,r16,rm,z2,read1,Zn]; rfl) ?_
         | simp +decide only [reduceIte])
        exact⟨_,_,(by simp (maxSteps:=9^6) +decide (disch:=first|omega|(simp only[lens]<;>omega)|decide) only [go_sem,Za,simprocAttr]<;>rfl),rfl,fun m hm=>by (first|(simp (discharger:=omega) only [H.get_put,H.Zh,H.Zk,H.Ze,H.Zg,H.Zj,if_neg]; done)|(simp only[H.get_put,H.Zh,H.Zk,H.Ze,H.Zg,H.Zj]; (repeat' split)<;>first|rfl|(exfalso; omega)|omega))⟩
       ·
        refine Zd.Ya fits Hh (by kernel_rfl) (by kernel_rfl) (by kernel_rfl) (show Tryz.f32.body=some _ from rfl) rfl ?_
        repeat (first
         | refine Goes.seq ?_
         | refine Goes.block2 ?_
         | refine Goes.loop ?_
         | refine Goes.skip ?_
         | refine Goes.exit ?_
         | refine Goes.ret ?_
         | refine Goes.Z4 (by simp (maxSteps:=9^6) +decide (disch:=first|omega|(simp only[lens]<;>omega)|decide) only [go_sem,Za,simprocAttr,r16,rm,z2,n0,read1,Zn]<;>rfl) ?_
         | refine Goes.ops2 fits Hh Zb (by simp (maxSteps:=9^6) +decide (disch:=first|omega|(simp only[lens]<;>omega)|decide) only [go_sem,Za,simprocAttr,r16,rm,z2,n0,read1,Zn]; rfl) ?_
         | simp +decide only [reduceIte])
        exact⟨_,_,(by simp (maxSteps:=9^6) +decide (disch:=first|omega|(simp only[lens]<;>omega)|decide) only [go_sem,Za,simprocAttr]<;>rfl),rfl,fun m hm=>by (first|(simp (discharger:=omega) only [H.get_put,H.Zh,H.Zk,H.Ze,H.Zg,H.Zj,if_neg]; done)|(simp only[H.get_put,H.Zh,H.Zk,H.Ze,H.Zg,H.Zj]; (repeat' split)<;>first|rfl|(exfalso; omega)|omega))⟩
      ·have z4:(s.tmod 256 != 0)=true:=by rw[bne,beq_eq_false_iff_ne.2 z2]; rfl
       refine Zd.Ya fits Hh (by kernel_rfl) (by kernel_rfl) (by kernel_rfl) (show Tryz.f32.body=some _ from rfl) rfl ?_
       repeat (first
        | refine Goes.seq ?_
        | refine Goes.block2 ?_
        | refine Goes.loop ?_
        | refine Goes.skip ?_
        | refine Goes.exit ?_
        | refine Goes.ret ?_
        | refine Goes.Z4 (by simp (maxSteps:=9^6) +decide (disch:=first|omega|(simp only[lens]<;>omega)|decide) only [go_sem,Za,simprocAttr,r16,rm,z4,read1,Zn]<;>rfl) ?_
        | refine Goes.ops2 fits Hh Zb (by simp (maxSteps:=9^6) +decide (disch:=first|omega|(simp only[lens]<;>omega)|decide) only [go_sem,Za,simprocAttr,r16,rm,z4,read1,Zn]; rfl) ?_
        | simp +decide only [reduceIte])
       exact⟨_,_,(by simp (maxSteps:=9^6) +decide (disch:=first|omega|(simp only[lens]<;>omega)|decide) only [go_sem,Za,simprocAttr]<;>rfl),rfl,fun m hm=>by (first|(simp (discharger:=omega) only [H.get_put,H.Zh,H.Zk,H.Ze,H.Zg,H.Zj,if_neg]; done)|(simp only[H.get_put,H.Zh,H.Zk,H.Ze,H.Zg,H.Zj]; (repeat' split)<;>first|rfl|(exfalso; omega)|omega))⟩
    ·have l2:(l != 1)=true:=by rw[bne,beq_eq_false_iff_ne.2 l1]; rfl
     rw[decide_eq_false l1]
     refine Zd.Ya fits Hh (by kernel_rfl) (by kernel_rfl) (by kernel_rfl) (show Tryz.f32.body=some _ from rfl) rfl ?_
     repeat (first
      | refine Goes.seq ?_
      | refine Goes.block2 ?_
      | refine Goes.loop ?_
      | refine Goes.skip ?_
      | refine Goes.exit ?_
      | refine Goes.ret ?_
      | refine Goes.Z4 (by simp (maxSteps:=9^6) +decide (disch:=first|omega|(simp only[lens]<;>omega)|decide) only [go_sem,Za,simprocAttr,r16,l2,read1,Zn]<;>rfl) ?_
      | refine Goes.ops2 fits Hh Zb (by simp (maxSteps:=9^6) +decide (disch:=first|omega|(simp only[lens]<;>omega)|decide) only [go_sem,Za,simprocAttr,r16,l2,read1,Zn]; rfl) ?_
      | simp +decide only [reduceIte])
     exact⟨_,_,(by simp (maxSteps:=9^6) +decide (disch:=first|omega|(simp only[lens]<;>omega)|decide) only [go_sem,Za,simprocAttr]<;>rfl),rfl,fun m hm=>by (first|(simp (discharger:=omega) only [H.get_put,H.Zh,H.Zk,H.Ze,H.Zg,H.Zj,if_neg]; done)|(simp only[H.get_put,H.Zh,H.Zk,H.Ze,H.Zg,H.Zj]; (repeat' split)<;>first|rfl|(exfalso; omega)|omega))⟩
   ·by_cases k1:k=1
    ·subst k1
     rw[decide_eq_false (by omega),decide_eq_false (by omega),decide_eq_true rfl,cond_false,cond_false,cond_true]
     unfold Nw
     by_cases a1:0≤l
     ·by_cases a2:l≤1000
      ·by_cases a3:0≤s
       ·by_cases a4:s≤16777216
        all_goals
         refine Zd.Ya fits Hh (by kernel_rfl) (by kernel_rfl) (by kernel_rfl) (show Tryz.f32.body=some _ from rfl) rfl ?_
         repeat (first
          | refine Goes.seq ?_
          | refine Goes.block2 ?_
          | refine Goes.loop ?_
          | refine Goes.skip ?_
          | refine Goes.exit ?_
          | refine Goes.ret ?_
          | refine Goes.Z4 (by simp (maxSteps:=9^6) +decide (disch:=first|omega|(simp only[lens]<;>omega)|decide) only [go_sem,Za,simprocAttr,r16,read1,Zn]<;>rfl) ?_
          | refine Goes.ops2 fits Hh Zb (by simp (maxSteps:=9^6) +decide (disch:=first|omega|(simp only[lens]<;>omega)|decide) only [go_sem,Za,simprocAttr,r16,read1,Zn]; rfl) ?_
          | simp +decide only [reduceIte])
         exact⟨_,_,(by simp (maxSteps:=9^6) +decide (disch:=first|omega|(simp only[lens]<;>omega)|decide) only [go_sem,Za,simprocAttr]<;>rfl),by simp [a1,a2,a3,a4],fun m hm=>by (first|(simp (discharger:=omega) only [H.get_put,H.Zh,H.Zk,H.Ze,H.Zg,H.Zj,if_neg]; done)|(simp only[H.get_put,H.Zh,H.Zk,H.Ze,H.Zg,H.Zj]; (repeat' split)<;>first|rfl|(exfalso; omega)|omega))⟩
       ·
        refine Zd.Ya fits Hh (by kernel_rfl) (by kernel_rfl) (by kernel_rfl) (show Tryz.f32.body=some _ from rfl) rfl ?_
        repeat (first
         | refine Goes.seq ?_
         | refine Goes.block2 ?_
         | refine Goes.loop ?_
         | refine Goes.skip ?_
         | refine Goes.exit ?_
         | refine Goes.ret ?_
         | refine Goes.Z4 (by simp (maxSteps:=9^6) +decide (disch:=first|omega|(simp only[lens]<;>omega)|decide) only [go_sem,Za,simprocAttr,r16,read1,Zn]<;>rfl) ?_
         | refine Goes.ops2 fits Hh Zb (by simp (maxSteps:=9^6) +decide (disch:=first|omega|(simp only[lens]<;>omega)|decide) only [go_sem,Za,simprocAttr,r16,read1,Zn]; rfl) ?_
         | simp +decide only [reduceIte])
        exact⟨_,_,(by simp (maxSteps:=9^6) +decide (disch:=first|omega|(simp only[lens]<;>omega)|decide) only [go_sem,Za,simprocAttr]<;>rfl),by simp [a3],fun m hm=>by (first|(simp (discharger:=omega) only [H.get_put,H.Zh,H.Zk,H.Ze,H.Zg,H.Zj,if_neg]; done)|(simp only[H.get_put,H.Zh,H.Zk,H.Ze,H.Zg,H.Zj]; (repeat' split)<;>first|rfl|(exfalso; omega)|omega))⟩
      ·
       refine Zd.Ya fits Hh (by kernel_rfl) (by kernel_rfl) (by kernel_rfl) (show Tryz.f32.body=some _ from rfl) rfl ?_
       repeat (first
        | refine Goes.seq ?_
        | refine Goes.block2 ?_
        | refine Goes.loop ?_
        | refine Goes.skip ?_
        | refine Goes.exit ?_
        | refine Goes.ret ?_
        | refine Goes.Z4 (by simp (maxSteps:=9^6) +decide (disch:=first|omega|(simp only[lens]<;>omega)|decide) only [go_sem,Za,simprocAttr,r16,read1,Zn]<;>rfl) ?_
        | refine Goes.ops2 fits Hh Zb (by simp (maxSteps:=9^6) +decide (disch:=first|omega|(simp only[lens]<;>omega)|decide) only [go_sem,Za,simprocAttr,r16,read1,Zn]; rfl) ?_
        | simp +decide only [reduceIte])
       exact⟨_,_,(by simp (maxSteps:=9^6) +decide (disch:=first|omega|(simp only[lens]<;>omega)|decide) only [go_sem,Za,simprocAttr]<;>rfl),by simp [a2],fun m hm=>by (first|(simp (discharger:=omega) only [H.get_put,H.Zh,H.Zk,H.Ze,H.Zg,H.Zj,if_neg]; done)|(simp only[H.get_put,H.Zh,H.Zk,H.Ze,H.Zg,H.Zj]; (repeat' split)<;>first|rfl|(exfalso; omega)|omega))⟩
     ·
      refine Zd.Ya fits Hh (by kernel_rfl) (by kernel_rfl) (by kernel_rfl) (show Tryz.f32.body=some _ from rfl) rfl ?_
      repeat (first
       | refine Goes.seq ?_
       | refine Goes.block2 ?_
       | refine Goes.loop ?_
       | refine Goes.skip ?_
       | refine Goes.exit ?_
       | refine Goes.ret ?_
       | refine Goes.Z4 (by simp (maxSteps:=9^6) +decide (disch:=first|omega|(simp only[lens]<;>omega)|decide) only [go_sem,Za,simprocAttr,r16,read1,Zn]<;>rfl) ?_
       | refine Goes.ops2 fits Hh Zb (by simp (maxSteps:=9^6) +decide (disch:=first|omega|(simp only[lens]<;>omega)|decide) only [go_sem,Za,simprocAttr,r16,read1,Zn]; rfl) ?_
       | simp +decide only [reduceIte])
      exact⟨_,_,(by simp (maxSteps:=9^6) +decide (disch:=first|omega|(simp only[lens]<;>omega)|decide) only [go_sem,Za,simprocAttr]<;>rfl),by simp [a1],fun m hm=>by (first|(simp (discharger:=omega) only [H.get_put,H.Zh,H.Zk,H.Ze,H.Zg,H.Zj,if_neg]; done)|(simp only[H.get_put,H.Zh,H.Zk,H.Ze,H.Zg,H.Zj]; (repeat' split)<;>first|rfl|(exfalso; omega)|omega))⟩
    ·rw[decide_eq_false k0,decide_eq_false k2,decide_eq_false k1,cond_false,cond_false,cond_false]
     have b0:(k == 0)=false:=beq_eq_false_iff_ne.2 k0
     have b1:(k == 1)=false:=beq_eq_false_iff_ne.2 k1
     have b2:(k == 2)=false:=beq_eq_false_iff_ne.2 k2
     refine Zd.Ya fits Hh (by kernel_rfl) (by kernel_rfl) (by kernel_rfl) (show Tryz.f32.body=some _ from rfl) rfl ?_
     repeat (first
      | refine Goes.seq ?_
      | refine Goes.block2 ?_
      | refine Goes.loop ?_
      | refine Goes.skip ?_
      | refine Goes.exit ?_
      | refine Goes.ret ?_
      | refine Goes.Z4 (by simp (maxSteps:=9^6) +decide (disch:=first|omega|(simp only[lens]<;>omega)|decide) only [go_sem,Za,simprocAttr,r16,b0,b1,b2,read1,Zn]<;>rfl) ?_
      | refine Goes.ops2 fits Hh Zb (by simp (maxSteps:=9^6) +decide (disch:=first|omega|(simp only[lens]<;>omega)|decide) only [go_sem,Za,simprocAttr,r16,b0,b1,b2,read1,Zn]; rfl) ?_
      | simp +decide only [reduceIte])
     exact⟨_,_,(by simp (maxSteps:=9^6) +decide (disch:=first|omega|(simp only[lens]<;>omega)|decide) only [go_sem,Za,simprocAttr]<;>rfl),rfl,fun m hm=>by (first|(simp (discharger:=omega) only [H.get_put,H.Zh,H.Zk,H.Ze,H.Zg,H.Zj,if_neg]; done)|(simp only[H.get_put,H.Zh,H.Zk,H.Ze,H.Zg,H.Zj]; (repeat' split)<;>first|rfl|(exfalso; omega)|omega))⟩
 exact c.quiet rfl hk
end
end Go.Proofs.YtmdibcklpmeleaaGreatDoor
set_option maxRecDepth 100000
set_option maxHeartbeats 4000000
namespace Go.Proofs.YtmdibcklpmeleaaGreatDoor
open Go.Ev
def Zel (ns:List Nat) (p:Nat):List Nat:=ns.take p++(List.replicate 64 0++ns.drop (p+64))
def Zh0 (ns:List Nat) (a:Nat):List Nat→List Nat
 | []=>ns
 | v :: vs=>Zh0 (Uk ns a v) (a+4) vs
def Tn (ns:List Nat) (a:Nat):Nat→List Nat
 | 0=>[]
 | n+1=>Yj ns a :: Tn ns (a+4) n
def F5 (ns:List Nat) (p k l g s:Nat) (ps:List Nat) (nx:Nat):List Nat :=
 Uk (Zh0 (Uk (Uk (Ut ((Zel ns p).set p k) (p+2) l) (p+4) g) (p+8) s) (p+12) ps) (p+56) nx
theorem at_set (ns:List Nat) (i j v:Nat) (h:i<ns.length):atN (ns.set i v) j=if j=i then v % 256 else atN ns j:=by
 unfold atN
 rw[List.getD_eq_getElem?_getD,List.getD_eq_getElem?_getD,List.getElem?_set]
 by_cases e:i=j
 ·subst e; rw[if_pos rfl,if_pos rfl,if_pos h]; rfl
 ·rw[if_neg e,if_neg (Ne.symm e)]
theorem Zqm (ns:List Nat) (i j v:Nat) (h:i+2≤ns.length):atN (Ut ns i v) j=if j=i+1 then v / 256 % 256 else if j=i then v % 256 else atN ns j:=by
 unfold Ut
 rw[at_set _ _ _ _ (by rw[List.length_set]; omega),at_set _ _ _ _ (by omega)]
theorem Zd6 (ns:List Nat) (i j v:Nat) (h:i+4≤ns.length):atN (Uk ns i v) j=if j=i+3 then v / 256 / 256 / 256 % 256 else if j=i+2 then v / 256 / 256 % 256 else if j=i+1 then v / 256 % 256 else if j=i then v % 256 else atN ns j:=by
 unfold Uk
 rw[at_set _ _ _ _ (by simp only[List.length_set]; omega),at_set _ _ _ _ (by simp only[List.length_set]; omega),at_set _ _ _ _ (by simp only[List.length_set]; omega),at_set _ _ _ _ (by omega)]
theorem Za7 (ns:List Nat) (i v:Nat) (h:i+4≤ns.length) (hv:v<4294967296):Yj (Uk ns i v) i=v:=by
 unfold Yj
 rw[Zd6 _ _ _ _ h,Zd6 _ _ _ _ h,Zd6 _ _ _ _ h,Zd6 _ _ _ _ h]
 simp (discharger:=omega) only [if_neg,if_true]
 omega
theorem Z29 (ns:List Nat) (i v:Nat) (h:i+2≤ns.length) (hv:v<65536):Gj (Ut ns i v) i=v:=by
 unfold Gj
 rw[Zqm _ _ _ _ h,Zqm _ _ _ _ h]
 simp (discharger:=omega) only [if_neg,if_true]
 omega
theorem Jj (ns:List Nat) (i j v:Nat) (h:i+4≤ns.length) (d:j<i∨i+4≤j):atN (Uk ns i v) j=atN ns j:=by
 rw[Zd6 _ _ _ _ h,if_neg (by omega),if_neg (by omega),if_neg (by omega),if_neg (by omega)]
theorem Zcv (ns:List Nat) (i j v:Nat) (h:i+2≤ns.length) (d:j<i∨i+2≤j):atN (Ut ns i v) j=atN ns j:=by
 rw[Zqm _ _ _ _ h,if_neg (by omega),if_neg (by omega)]
theorem Dx {ns ms:List Nat} {i:Nat} (h:∀ j,i≤j→j<i+4→atN ms j=atN ns j):Yj ms i=Yj ns i:=by
 unfold Yj
 rw[h i (by omega) (by omega),h (i+1) (by omega) (by omega),h (i+2) (by omega) (by omega),h (i+3) (by omega) (by omega)]
theorem Ry {ns ms:List Nat} {i:Nat} (h:∀ j,i≤j→j<i+2→atN ms j=atN ns j):Gj ms i=Gj ns i:=by
 unfold Gj
 rw[h i (by omega) (by omega),h (i+1) (by omega) (by omega)]
theorem Zk8 {ns ms:List Nat}:∀ {n a:Nat},(∀ j,a≤j→j<a+4 * n→atN ms j=atN ns j)→Tn ms a n=Tn ns a n
 | 0,_,_=>rfl
 | n+1,a,h=>by
  unfold Tn
  rw[Dx fun j h1 h2=>h j h1 (by omega),Zk8 fun j h1 h2=>h j (by omega) (by omega)]
theorem Ec:∀ (vs ns:List Nat) (a:Nat),(Zh0 ns a vs).length=ns.length
 | [],_,_=>rfl
 | v :: vs,ns,a=>by
  unfold Zh0
  rw[Ec vs,Ye]
theorem Sj:∀ (vs ns:List Nat) (a j:Nat),a+4 * vs.length≤ns.length→j<a∨a+4 * vs.length≤j→atN (Zh0 ns a vs) j=atN ns j
 | [],_,_,_,_,_=>rfl
 | v :: vs,ns,a,j,h,d=>by
  unfold Zh0
  rw[List.length_cons] at h d
  rw[Sj vs _ _ _ (by rw[Ye]; omega) (by omega),Jj _ _ _ _ (by omega) (by omega)]
theorem Zns:∀ (vs ns:List Nat) (a:Nat),a+4 * vs.length≤ns.length→(∀ v∈vs,v<4294967296)→Tn (Zh0 ns a vs) a vs.length=vs
 | [],_,_,_,_=>rfl
 | v :: vs,ns,a,h,b=>by
  rw[List.length_cons] at h ⊢
  unfold Zh0 Tn
  rw[Zns vs _ _ (by rw[Ye]; omega) fun v hv=>b v (List.mem_cons_of_mem _ hv),Dx (ns:=Uk ns a v) fun j h1 h2=>Sj _ _ _ _ (by rw[Ye]; omega) (by omega),Za7 _ _ _ (by omega) (b v (List.mem_cons_self ..))]
theorem Mo {ns:List Nat} {p:Nat} (h:p+64≤ns.length):(Zel ns p).length=ns.length:=by
 unfold Zel
 simp only[List.length_append,List.length_take,List.length_replicate,List.length_drop]
 omega
theorem Z84 {ns:List Nat} {p:Nat} (h:p+64≤ns.length) (j:Nat):atN (Zel ns p) j=if p≤j∧j<p+64 then 0 else atN ns j:=by
 unfold atN Zel
 rw[List.getD_eq_getElem?_getD,List.getD_eq_getElem?_getD,List.getElem?_append,List.length_take,List.getElem?_append,List.length_replicate,Nat.min_eq_left (by omega)]
 by_cases h1:j<p
 ·rw[if_pos h1,if_neg (by omega),List.getElem?_take_of_lt h1]
 ·rw[if_neg h1]
  by_cases h2:j<p+64
  ·rw[if_pos (by omega),if_pos (by omega),List.getElem?_replicate,if_pos (by omega)]; rfl
  ·rw[if_neg (by omega),if_neg (by omega),List.getElem?_drop,show p+64+(j - p - 64)=j by omega]
theorem Ziu:∀ (n:Nat) (ns:List Nat) (a:Nat),a+n≤ns.length→(Sw ns a n=true ↔ ∀ i,i<n→atN ns (a+i)=0)
 | 0,ns,a,_=>by
  unfold Sw
  rw[List.take_zero]
  exact⟨fun _ i hi=>absurd hi (by omega),fun _=>rfl⟩
 | n+1,ns,a,h=>by
  have ih:=Ziu n ns (a+1) (by omega)
  have e:Sw ns a (n+1)=(bif Nat.beq (atN ns a) 0 then Sw ns (a+1) n else false):=by
   unfold Sw
   rw[List.drop_eq_getElem_cons (by omega),List.take_succ_cons,List.map_cons]
   unfold atN
   rw[List.getD_eq_getElem?_getD,List.getElem?_eq_getElem (by omega)]
   rfl
  rw[e]
  cases hb:Nat.beq (atN ns a) 0 with
  | true =>
   have b:=Nat.eq_of_beq_eq_true hb
   rw[cond_true,ih]
   refine⟨fun q i hi=>?_,fun q i hi=>?_⟩
   ·match i with
    | 0=>exact b
    | i+1=>have:=q i (by omega); rwa [show a+1+i=a+(i+1) by omega] at this
   ·have:=q (i+1) (by omega); rwa [show a+(i+1)=a+1+i by omega] at this
  | false =>
   rw[cond_false]
   refine⟨fun q=>by (cases q),fun q=>?_⟩
   have:=q 0 (by omega)
   rw[Nat.add_zero] at this
   rw[this] at hb
   cases hb
theorem Z3a {ns ms:List Nat} {a n:Nat} (l1:a+n≤ns.length) (l2:a+n≤ms.length) (h:∀ j,a≤j→j<a+n→atN ms j=atN ns j):Sw ms a n=Sw ns a n:=by
 rw[Bool.eq_iff_iff,Ziu n ms a l2,Ziu n ns a l1]
 exact⟨fun q i hi=>(h (a+i) (by omega) (by omega)).symm.trans (q i hi),fun q i hi=>(h (a+i) (by omega) (by omega)).trans (q i hi)⟩
theorem Ziy {ns:List Nat} {p:Nat} (h:p+64≤ns.length) (k l g s nx:Nat) (ps:List Nat):(F5 ns p k l g s ps nx).length=ns.length:=by
 unfold F5
 rw[Ye,Ec,Ye,Ye,Yt,List.length_set,Mo h]
section
variable {ns:List Nat} {p k l g s nx:Nat} {ps:List Nat}
theorem Zvi (h:p+64≤ns.length) (pl:ps.length=11) {j:Nat} (d:j<p∨p+64≤j):atN (F5 ns p k l g s ps nx) j=atN ns j:=by
 have c:=Mo h
 unfold F5
 rw[Jj _ _ _ _ (by simp only[Ec,Ye,Yt,List.length_set,c]; omega) (by omega),
  Sj _ _ _ _ (by simp only[Ye,Yt,List.length_set,c]; omega) (by omega),
  Jj _ _ _ _ (by simp only[Ye,Yt,List.length_set,c]; omega) (by omega),
  Jj _ _ _ _ (by simp only[Ye,Yt,List.length_set,c]; omega) (by omega),
  Zcv _ _ _ _ (by simp only[Ye,Yt,List.length_set,c]; omega) (by omega),
  at_set _ _ _ _ (by rw[c]; omega),if_neg (by omega),Z84 h,if_neg (by omega)]
theorem Zg0 (h:p+64≤ns.length) (pl:ps.length=11) {j:Nat} (d:j=p+1∨p+60≤j∧j<p+64):atN (F5 ns p k l g s ps nx) j=0:=by
 have c:=Mo h
 unfold F5
 rw[Jj _ _ _ _ (by simp only[Ec,Ye,Yt,List.length_set,c]; omega) (by omega),
  Sj _ _ _ _ (by simp only[Ye,Yt,List.length_set,c]; omega) (by omega),
  Jj _ _ _ _ (by simp only[Ye,Yt,List.length_set,c]; omega) (by omega),
  Jj _ _ _ _ (by simp only[Ye,Yt,List.length_set,c]; omega) (by omega),
  Zcv _ _ _ _ (by simp only[Ye,Yt,List.length_set,c]; omega) (by omega),
  at_set _ _ _ _ (by rw[c]; omega),if_neg (by omega),Z84 h,if_pos (by omega)]
theorem Ztz (h:p+64≤ns.length) (pl:ps.length=11) (kl:k<256):atN (F5 ns p k l g s ps nx) p=k:=by
 have c:=Mo h
 unfold F5
 rw[Jj _ _ _ _ (by simp only[Ec,Ye,Yt,List.length_set,c]; omega) (by omega),
  Sj _ _ _ _ (by simp only[Ye,Yt,List.length_set,c]; omega) (by omega),
  Jj _ _ _ _ (by simp only[Ye,Yt,List.length_set,c]; omega) (by omega),
  Jj _ _ _ _ (by simp only[Ye,Yt,List.length_set,c]; omega) (by omega),
  Zcv _ _ _ _ (by simp only[Ye,Yt,List.length_set,c]; omega) (by omega),
  at_set _ _ _ _ (by rw[c]; omega),if_pos rfl,Nat.mod_eq_of_lt kl]
theorem Znf (h:p+64≤ns.length) (pl:ps.length=11) (ll:l<65536):Gj (F5 ns p k l g s ps nx) (p+2)=l:=by
 have c:=Mo h
 unfold F5
 rw[Ry fun j h1 h2=>Jj _ _ _ _ (by simp only[Ec,Ye,Yt,List.length_set,c]; omega) (by omega),
  Ry fun j h1 h2=>Sj _ _ _ _ (by simp only[Ye,Yt,List.length_set,c]; omega) (by omega),
  Ry fun j h1 h2=>Jj _ _ _ _ (by simp only[Ye,Yt,List.length_set,c]; omega) (by omega),
  Ry fun j h1 h2=>Jj _ _ _ _ (by simp only[Ye,Yt,List.length_set,c]; omega) (by omega),
  Z29 _ _ _ (by simp only[List.length_set,c]; omega) ll]
theorem Zuq (h:p+64≤ns.length) (pl:ps.length=11) (gl:g<4294967296):Yj (F5 ns p k l g s ps nx) (p+4)=g:=by
 have c:=Mo h
 unfold F5
 rw[Dx fun j h1 h2=>Jj _ _ _ _ (by simp only[Ec,Ye,Yt,List.length_set,c]; omega) (by omega),
  Dx fun j h1 h2=>Sj _ _ _ _ (by simp only[Ye,Yt,List.length_set,c]; omega) (by omega),
  Dx fun j h1 h2=>Jj _ _ _ _ (by simp only[Ye,Yt,List.length_set,c]; omega) (by omega),
  Za7 _ _ _ (by simp only[Yt,List.length_set,c]; omega) gl]
theorem Zqn (h:p+64≤ns.length) (pl:ps.length=11) (sl:s<4294967296):Yj (F5 ns p k l g s ps nx) (p+8)=s:=by
 have c:=Mo h
 unfold F5
 rw[Dx fun j h1 h2=>Jj _ _ _ _ (by simp only[Ec,Ye,Yt,List.length_set,c]; omega) (by omega),
  Dx fun j h1 h2=>Sj _ _ _ _ (by simp only[Ye,Yt,List.length_set,c]; omega) (by omega),
  Za7 _ _ _ (by simp only[Ye,Yt,List.length_set,c]; omega) sl]
theorem Zpx (h:p+64≤ns.length) (pl:ps.length=11) (pb:∀ v∈ps,v<4294967296):Tn (F5 ns p k l g s ps nx) (p+12) 11=ps:=by
 have c:=Mo h
 unfold F5
 rw[Zk8 fun j h1 h2=>Jj _ _ _ _ (by simp only[Ec,Ye,Yt,List.length_set,c]; omega) (by omega),←pl]
 exact Zns _ _ _ (by simp only[Ye,Yt,List.length_set,c]; omega) pb
theorem Zpi (h:p+64≤ns.length) (pl:ps.length=11) (nl:nx<4294967296):Yj (F5 ns p k l g s ps nx) (p+56)=nx:=by
 have c:=Mo h
 unfold F5
 rw[Za7 _ _ _ (by simp only[Ec,Ye,Yt,List.length_set,c]; omega) nl]
end
def ino0:List C:=Dq 0 0 0 0 0 0 0 0 0 0 0 0 0 0 0 0
def Zq2 (ns:List Nat) (p:Nat):List C:=Dq (atN ns p) (Gj ns (p+2)) (Yj ns (p+4)) (Yj ns (p+8)) (Yj ns (p+12)) (Yj ns (p+16)) (Yj ns (p+20)) (Yj ns (p+24)) (Yj ns (p+28)) (Yj ns (p+32)) (Yj ns (p+36)) (Yj ns (p+40)) (Yj ns (p+44)) (Yj ns (p+48)) (Yj ns (p+52)) (Yj ns (p+56))
def Zk4 (ns:List Nat) (p:Nat):Bool:=Zh4 (atN ns p) (Gj ns (p+2)) (Yj ns (p+8)) (Yj ns (p+12)) (Yj ns (p+16)) (Yj ns (p+20)) (Yj ns (p+24)) (Yj ns (p+28)) (Yj ns (p+32)) (Yj ns (p+36)) (Yj ns (p+40)) (Yj ns (p+44)) (Yj ns (p+48)) (Yj ns (p+52)) (Yj ns (p+56))
def Mf (ns:List Nat) (p:Nat):List C × Int:=bif Nat.beq (atN ns (p+1)) 0&&(Sw ns (p+60) 4&&Zk4 ns p) then (Zq2 ns p,0) else (ino0,70)
theorem Zuw:ino0.length=16:=rfl
theorem Zud (ns:List Nat) (p:Nat):(Mf ns p).1.length=16:=by
 unfold Mf
 cases Nat.beq (atN ns (p+1)) 0&&(Sw ns (p+60) 4&&Zk4 ns p)<;>rfl
theorem Zvc {ns ms:List Nat} {p:Nat} (l1:p+64≤ns.length) (l2:p+64≤ms.length) (h:∀ j,p≤j→j<p+64→atN ms j=atN ns j):Mf ms p=Mf ns p:=by
 have w:∀ i,p≤i→i+4≤p+64→Yj ms i=Yj ns i:=fun i h1 h2=>Dx fun j q1 q2=>h j (by omega) (by omega)
 have e0:=h p (by omega) (by omega)
 have e1:=h (p+1) (by omega) (by omega)
 have e2:Gj ms (p+2)=Gj ns (p+2):=Ry fun j q1 q2=>h j (by omega) (by omega)
 have e3:Sw ms (p+60) 4=Sw ns (p+60) 4:=Z3a (by omega) (by omega) fun j q1 q2=>h j (by omega) (by omega)
 unfold Mf Zq2 Zk4
 simp (discharger:=omega) only [e0,e1,e2,e3,w]
theorem Z38 {ns:List Nat} {p k l g s p0 p1 p2 p3 p4 p5 p6 p7 p8 p9 p10 nx:Nat} (h:p+64≤ns.length) (kl:k<256) (ll:l<65536) (gl:g<4294967296) (sl:s<4294967296) (pb:∀ v∈[p0,p1,p2,p3,p4,p5,p6,p7,p8,p9,p10],v<4294967296) (nl:nx<4294967296)
  (m:Zh4 k l s p0 p1 p2 p3 p4 p5 p6 p7 p8 p9 p10 nx=true):Mf (F5 ns p k l g s [p0,p1,p2,p3,p4,p5,p6,p7,p8,p9,p10] nx) p=(Dq k l g s p0 p1 p2 p3 p4 p5 p6 p7 p8 p9 p10 nx,0):=by
 have pl:[p0,p1,p2,p3,p4,p5,p6,p7,p8,p9,p10].length=11:=rfl
 have e0:=Ztz (l:=l) (g:=g) (s:=s) (nx:=nx) h pl kl
 have e1:=Zg0 (k:=k) (l:=l) (g:=g) (s:=s) (nx:=nx) h pl (j:=p+1) (.inl rfl)
 have e2:=Znf (k:=k) (g:=g) (s:=s) (nx:=nx) h pl ll
 have e3:=Zuq (k:=k) (l:=l) (s:=s) (nx:=nx) h pl gl
 have e4:=Zqn (k:=k) (l:=l) (g:=g) (nx:=nx) h pl sl
 have e5:=Zpx (k:=k) (l:=l) (g:=g) (s:=s) (nx:=nx) h pl pb
 have e6:=Zpi (k:=k) (l:=l) (g:=g) (s:=s) h pl nl
 have e7:Sw (F5 ns p k l g s [p0,p1,p2,p3,p4,p5,p6,p7,p8,p9,p10] nx) (p+60) 4=true:=(Ziu 4 _ _ (by rw[Ziy h]; omega)).2 fun i hi=>Zg0 h pl (.inr ⟨by omega,by omega⟩)
 obtain⟨E,hE⟩:∃ E,F5 ns p k l g s [p0,p1,p2,p3,p4,p5,p6,p7,p8,p9,p10] nx=E:=⟨_,rfl⟩
 rw[hE] at e0 e1 e2 e3 e4 e5 e6 e7 ⊢
 simp only[Tn,Nat.add_assoc,Nat.reduceAdd,List.cons.injEq] at e5
 obtain⟨q0,q1,q2,q3,q4,q5,q6,q7,q8,q9,q10,_⟩:=e5
 unfold Mf Zq2 Zk4
 rw[e0,e1,e2,e3,e4,e6,e7,q0,q1,q2,q3,q4,q5,q6,q7,q8,q9,q10,m]
 rfl
theorem Zs6 {ns:List Nat} {p q k l g s nx:Nat} {ps:List Nat} (h:p+64≤ns.length) (h2:q+64≤ns.length) (pl:ps.length=11) (d:q+64≤p∨p+64≤q):Mf (F5 ns p k l g s ps nx) q=Mf ns q :=
 Zvc h2 (by rw[Ziy h]; exact h2) fun j h1 h2=>Zvi h pl (by omega)
theorem Zvu {k l s p0 p1 p2 p3 p4 p5 p6 p7 p8 p9 p10 nx:Int} (h:Zh4 k l s p0 p1 p2 p3 p4 p5 p6 p7 p8 p9 p10 nx=true):0≤k∧k<256∧0≤l∧l<65536∧0≤s∧s<4294967296:=by
 unfold Zh4 at h
 by_cases k0:k=0
 ·rw[decide_eq_true k0,cond_true] at h
  unfold Z8p at h
  simp only[Bool.and_eq_true,beq_iff_eq] at h
  obtain⟨h1,h2,_⟩:=h
  omega
 ·rw[decide_eq_false k0,cond_false] at h
  by_cases k2:k=2
  ·rw[decide_eq_true k2,cond_true] at h
   unfold Nw at h
   simp only[Bool.and_eq_true,decide_eq_true_eq] at h
   omega
  ·rw[decide_eq_false k2,cond_false] at h
   by_cases k1:k=1
   ·rw[decide_eq_true k1,cond_true] at h
    unfold Nw at h
    simp only[Bool.and_eq_true,decide_eq_true_eq] at h
    omega
   ·rw[decide_eq_false k1,cond_false] at h
    cases h
end Go.Proofs.YtmdibcklpmeleaaGreatDoor
