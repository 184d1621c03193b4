/- A store in whose handle calls read and put: what is seen of each block; the blocks that may be put. n: where the store began; q: where Begin began. -/
import Derived.Test.YtecakmodlkbnaaaGreatDoorCrcX
import Derived.Test.YtecakmodlkbnaaaGreatDoorIbk
import Derived.Test.YtecakmodlkbnaaaGreatDoorIpu
import Derived.Test.YtecakmodlkbnaaaGreatDoorTxn2
import Derived.Test.YtecakmodlkbnaaaGreatDoorEvC
import Derived.KernelRfl
import Derived.Test.YtecakmodlkbnaaaGreatDoorSto4
set_option linter.unusedSimpArgs false
set_option linter.unusedVariables false
set_option linter.unusedSectionVars false
set_option maxRecDepth 100000
set_option maxHeartbeats 4000000
namespace Go.Proofs.YtecakmodlkbnaaaGreatDoor
open Go.Ev
structure Cr where
 c:Int
 r:Int
def txC (n q:Nat) (cr:Cr):Tx:=⟨n+15,n+16,n+17,n+19,1,true,cr.c,cr.r,.map (q+2),.map (q+6),.map (q+7),.map (q+8),.ptr (q+5) 0⟩
theorem Ue {p:Prop} (g:p:=by simp (maxSteps:=9^6) +decide (disch:=first|omega|(simp only[lens]<;>omega)|decide) only [go_sem,Zm,simprocAttr,Ya,stG,txC,Jk,Jf]<;>rfl):p:=g
theorem Yb {p:Prop} (g:p:=by simp (maxSteps:=9^6) +decide (disch:=first|omega|(simp only[lens]<;>omega)|decide) only [go_sem,Zm,simprocAttr,Ya,stG,txC,Jk,Yf,Zr,Jf]<;>rfl):p:=g
theorem Zoz {p:Prop} (g:p:=by simp (maxSteps:=9^6) +decide (disch:=first|omega|(simp only[lens]<;>omega)|decide) only [go_sem,Zm,simprocAttr,Ya,stG,txC,Jk,Yf,Zr,drG,Jf]<;>rfl):p:=g
theorem Ov {p:Prop} (g:p:=by simp (maxSteps:=9^6) +decide (disch:=first|omega|(simp only[lens]<;>omega)|decide) only [go_sem,Zm,simprocAttr,Ya,stG,txC,Jk,read1,Jf]<;>rfl):p:=g
theorem Zpc {p:Prop} (g:p:=by simp (maxSteps:=9^6) +decide (disch:=first|omega|(simp only[lens]<;>omega)|decide) only [go_sem,Zm,simprocAttr,Ya,stG,txC,Jk,read1,drG,Jf]<;>rfl):p:=g
theorem Us {p:Prop} (g:p:=by simp (maxSteps:=9^6) +decide (disch:=first|omega|(simp only[lens]<;>omega)|decide) only [go_sem,Zm,simprocAttr,Ya,stG,txC,Jk,read1,Yf,Zr,Jf]<;>rfl):p:=g
theorem O4 {p:Prop} (g:p:=by simp (maxSteps:=9^6) +decide (disch:=first|omega|(simp only[lens]<;>omega)|decide) only [go_sem,Zm,simprocAttr,Ya,stG,txC,Jk,read1,Yf,Zr,Sb,List.map_cons,List.map_nil,List.cons_append,List.nil_append,Jf]<;>rfl):p:=g
theorem Z0p {p:Prop} (g:p:=by simp (maxSteps:=9^6) +decide (disch:=first|omega|(simp only[lens]<;>omega)|decide) only [go_sem,Zm,simprocAttr,Ya,stG,txC,Jk,read1,Yf,Zr,Sb,List.map_cons,List.map_nil,List.cons_append,List.nil_append,drG,Jf]<;>rfl):p:=g
theorem Zgi {p:Prop} (g:p:=by simp (maxSteps:=9^6) +decide (disch:=first|omega|(simp only[lens]<;>omega)|decide) only [go_sem,Zn,Zm,simprocAttr,Ya,stG,txC,Jk,Jf]<;>rfl):p:=g
theorem Df {p:Prop} (g:p:=by simp (maxSteps:=9^6) +decide (disch:=first|omega|(simp only[lens]<;>omega)|decide) only [go_sem,Zn,Zm,simprocAttr,Ya,stG,txC,Jk,Yf,Zr,Jf]<;>rfl):p:=g
theorem Gm {p:Prop} (g:p:=by simp (maxSteps:=9^6) +decide (disch:=first|omega|(simp only[lens]<;>omega)|decide) only [go_sem,Zn,Zm,simprocAttr,Ya,stG,txC,Jk,read1,Yf,Zr,Jf]<;>rfl):p:=g
def gdD (n d a b c e:Nat) (md:Int):Gd:=⟨a,b,c,e,md,d,n+8,n+9,n+11⟩
def ckD (n d:Nat):Ck:=⟨d,n+6,n+7⟩
structure Hv (n d d1 d2 q a b c e:Nat) (cr:Cr) (md:Int) (kn:Bool) (ld lt lc lm:Dg) (L:List (List C)) (h:Go.Ev.H):Prop where
 st:h.get 0=some Gf
 n0:0<n
 nq:n+23≤q
 nx:q+9≤h.next
 l1:d<n+5
 l2:d2<n+5
 ht:h.get (n+20)=some (.row 13 [txL (txC n q cr)] false)
 hg:h.get (n+12)=some (.row 9 [gdL (gdD n d a b c e md)] false)
 hc:h.get (n+8)=some (.row 3 [ckL (ckD n d)] false)
 hd:h.get d=some (.row 6 [dkL ⟨d1,d2,2+e+a * b,.snil,0,0⟩] false)
 hq:h.get d2=some (.row 256 L false)
 hli:h.get (n+11)=some (.row 8 [[.bool true,.int .i64 (a:Int),.int .i64 (b:Int),.int .i64 (c:Int),.int .i64 (e:Int),.bool false,.int .u32 0,.snil]] false)
 hgv:h.get (q+1)=some (.map [])
 hfr:h.get (n+17)=some (.map [])
 hod:h.get (n+16)=some (.map [])
 hrv:h.get (n+19)=some (.row 1 [[.map (n+18)]] false)
 hrc:h.get (n+18)=some (.map [])
 hdt:h.get q=some (.map (Oe ld))
 hv6:h.get (q+6)=some (.map [])
 hm:h.get (n+6)=some (.map (Oe lm))
 hs:h.get (n+13)=some (.row 8 [stL (stG n q kn)] false)
 hto:h.get (q+2)=some (.map (Oe lt))
 hch:h.get (n+15)=some (.map (Oe lc))
def Out (n q m:Nat):Prop:=Off n q m∧m≠q
def Atd (ld lc:Dg) (L:List (List C)) (z:Nat) (x:List C):Prop:=Jt (z:Int) ld=some (.int .i64 (z:Int) :: x)∨Jt (z:Int) ld=none∧At lc L z x
def Zjl:Dg→Bool
 | []=>true
 | (k,_) :: l=>(Jt k l).isNone&&Zjl l
theorem Zp7 {k:Int} {x:List C}:∀ {l:Dg},Zjl l=true→Zjl (Dw k x l)=true
 | [],_=>rfl
 | (j,y) :: l,h=>by
  have h':((Jt j l).isNone&&Zjl l)=true:=h
  rw[Bool.and_eq_true] at h'
  show Zjl (bif k == j then (k,x) :: l else (j,y) :: Dw k x l)=true
  by_cases e:k=j
  ·subst e
   rw[Za7 rfl]
   exact h
  ·rw[Ee e]
   show ((Jt j (Dw k x l)).isNone&&Zjl (Dw k x l))=true
   rw[Rc,if_neg (Ne.symm e),h'.1,Zp7 h'.2]
   rfl
theorem Zk7:∀ {l:Dg} {S:List Nat},Zjl l=true→(∀ z y,Jt z l=some y→∃ k∈S,z=(k:Nat))→l.length≤S.length
 | [],S,_,_=>Nat.zero_le _
 | (j,y) :: l,S,hu,hs=>by
  have h':((Jt j l).isNone&&Zjl l)=true:=hu
  rw[Bool.and_eq_true] at h'
  have jn:Jt j l=none:=by simpa using h'.1
  obtain⟨k,hk,rfl⟩:=hs j y (by show (bif j == j then some y else Jt j l)=some y; rw[Za7 rfl]; rfl)
  have hr:∀ z y',Jt z l=some y'→∃ k'∈S.erase k,z=(k':Nat):=fun z y' hz=>by
   have ne:z≠(k:Int):=fun q=>by rw[q,jn] at hz; cases hz
   obtain⟨k',hk',e⟩:=hs z y' (by show (bif z == (k:Int) then some y else Jt z l)=some y'; rw[Ee ne]; exact hz)
   exact⟨k',(List.mem_erase_of_ne (by omega)).2 hk',e⟩
  have:=Zk7 h'.2 hr
  rw[List.length_erase_of_mem hk] at this
  have:0<S.length:=List.length_pos_of_mem hk
  rw[List.length_cons]
  omega
theorem Zz1 {l:Dg} {S:List Nat} {z:Nat} (hu:Zjl l=true) (hs:∀ z y,Jt z l=some y→∃ k∈S,z=(k:Nat)) (hz:z∈S) (hn:Jt (z:Int) l=none):l.length+1≤S.length:=by
 have hr:∀ z' y',Jt z' l=some y'→∃ k'∈S.erase z,z'=(k':Nat):=fun z' y' h=>by
  obtain⟨k',hk',e⟩:=hs z' y' h
  subst e
  have ne:k'≠z:=fun q=>by rw[q,hn] at h; cases h
  exact⟨k',(List.mem_erase_of_ne ne).2 hk',rfl⟩
 have:=Zk7 hu hr
 rw[List.length_erase_of_mem hz] at this
 have:0<S.length:=List.length_pos_of_mem hz
 omega
def O9 (V:Nat→List Nat) (z:Nat) (x:List Nat):Nat→List Nat:=fun y=>if y=z then x else V y
theorem Bl (V:Nat→List Nat) (z:Nat) (x:List Nat):O9 V z x z=x:=if_pos rfl
theorem J6 {V:Nat→List Nat} {z y:Nat} {x:List Nat} (h:y≠z):O9 V z x y=V y:=if_neg h
def HE (n q a b c e:Nat) (cr:Cr) (md:Int) (S T:List Nat) (V:Nat→List Nat) (h:Go.Ev.H):Prop:=∃ d d1 d2 kn ld lt lc lm L,Bg lm=true∧Seen lm L∧Bg lt=true∧Bg lc=true∧Bg ld=true∧Zvq lt∧Zjl lt=true∧(∀ z y,Jt z lt=some y→∃ k∈S,z=(k:Nat))∧(S.length:Int)≤cr.c∧(∀ z y,Jt z ld=some y→∃ k∈T,z=(k:Nat))∧(∀ z,z<2+e+a * b→Bp a b c e (z:Int)=true→(V z).length=256∧Atd ld lc L z (pgL (V z)))∧Hv n d d1 d2 q a b c e cr md kn ld lt lc lm L h
section
variable {n d d1 d2 q a b c e:Nat} {cr:Cr} {md:Int} {kn:Bool} {ld lt lc lm lm':Dg} {L:List (List C)} {h h2:Go.Ev.H} {S T:List Nat} {V:Nat→List Nat}
theorem Hv.keep (M:Hv n d d1 d2 q a b c e cr md kn ld lt lc lm L h) (hx:h.next≤h2.next) (k:∀ m,m<q+9→h2.get m=h.get m):Hv n d d1 d2 q a b c e cr md kn ld lt lc lm L h2:=by
 obtain⟨f1,f2,f3,f4,l1,l2,f5,f6,f7,f8,f9,f10,f11,f12,f13,f14,f15,f16,f17,f18,f19,f20,f21⟩:=M
 refine⟨?_,f2,f3,by omega,l1,l2,?_,?_,?_,?_,?_,?_,?_,?_,?_,?_,?_,?_,?_,?_,?_,?_,?_⟩
 all_goals (rw[k _ (by omega)]; assumption)
theorem HE.keep (M:HE n q a b c e cr md S T V h) (hx:h.next≤h2.next) (k:∀ m,m<q+9→h2.get m=h.get m):HE n q a b c e cr md S T V h2:=by
 obtain⟨d,d1,d2,kn,ld,lt,lc,lm,L,f1,f2,f3,f4,f5,f6,f7,f8,f9,f10,f11,M⟩:=M
 exact⟨d,d1,d2,kn,ld,lt,lc,lm,L,f1,f2,f3,f4,f5,f6,f7,f8,f9,f10,f11,M.keep hx k⟩
theorem HE.nx (M:HE n q a b c e cr md S T V h):n+23≤q∧q+9≤h.next∧0<n:=by
 obtain⟨d,d1,d2,kn,ld,lt,lc,lm,L,f1,f2,f3,f4,f5,f6,f7,f8,f9,f10,f11,M⟩:=M
 exact⟨M.nq,M.nx,M.n0⟩
theorem HE.cells (M:HE n q a b c e cr md S T V h):h.get 0=some Gf∧(∃ kn,h.get (n+13)=some (.row 8 [stL (stG n q kn)] false))∧(∃ d,h.get (n+12)=some (.row 9 [gdL (gdD n d a b c e md)] false))∧h.get (n+20)=some (.row 13 [txL (txC n q cr)] false):=by
 obtain⟨d,d1,d2,kn,ld,lt,lc,lm,L,f1,f2,f3,f4,f5,f6,f7,f8,f9,f10,f11,M⟩:=M
 exact⟨M.st,⟨kn,M.hs⟩,⟨d,M.hg⟩,M.ht⟩
theorem HE.len (M:HE n q a b c e cr md S T V h) {z:Nat} (hz:Bp a b c e (z:Int)=true) (z1:z<2+e+a * b):(V z).length=256:=by
 obtain⟨d,d1,d2,kn,ld,lt,lc,lm,L,f1,f2,f3,f4,f5,f6,f7,f8,f9,f10,f11,M⟩:=M
 exact (f11 z z1 hz).1
theorem HE.grow (M:HE n q a b c e cr md S T V h) {S':List Nat} (s:∀ k∈S,k∈S') (l:(S'.length:Int)≤cr.c):HE n q a b c e cr md S' T V h:=by
 obtain⟨d,d1,d2,kn,ld,lt,lc,lm,L,f1,f2,f3,f4,f5,f6,f7,f8,f9,f10,f11,M⟩:=M
 exact⟨d,d1,d2,kn,ld,lt,lc,lm,L,f1,f2,f3,f4,f5,f6,f7,fun z y hz=>by obtain⟨k,hk,e⟩:=f8 z y hz; exact⟨k,s k hk,e⟩,l,f10,f11,M⟩
def Kr (n q:Nat) (h h':Go.Ev.H):Prop:=h.next≤h'.next∧∀ m,m<h.next→m≠n+6→h'.get m=h.get m
def Kp (n q:Nat) (h h':Go.Ev.H):Prop:=h.next≤h'.next∧∀ m,m<h.next→Out n q m→h'.get m=h.get m
theorem Kr.kp {n q:Nat} {h h':Go.Ev.H} (r:Kr n q h h'):Kp n q h h':=⟨r.1,fun m hm o=>r.2 m hm o.1.1⟩
theorem Kp.refl (n q:Nat) (h:Go.Ev.H):Kp n q h h:=⟨Nat.le_refl _,fun _ _ _=>rfl⟩
theorem Kp.then {n q:Nat} {h h' h2:Go.Ev.H} (r:Kp n q h h') (r2:Kp n q h' h2):Kp n q h h2:=⟨Nat.le_trans r.1 r2.1,fun m hm o=>(r2.2 m (Nat.lt_of_lt_of_le hm r.1) o).trans (r.2 m hm o)⟩
theorem Kp.of {n q:Nat} {h h':Go.Ev.H} (hx:h.next≤h'.next) (k:∀ m,m<h.next→h'.get m=h.get m):Kp n q h h':=⟨hx,fun m hm _=>k m hm⟩
theorem HE.get (M:HE n q a b c e cr md S T V h) (fb:Ym a b c e=true) {z:Nat} (hz:Bp a b c e (z:Int)=true) (z1:z<2+e+a * b) :
  ∃ h',Zfm [.c (.ptr (n+13) 0),.c (.int .i64 (z:Int))] h=some (.tup [.g (pgL (V z)),.c (.int .i64 0)],h')∧HE n q a b c e cr md S T V h'∧h'.next=h.next∧∀ m,m<h.next→m≠n+6→h'.get m=h.get m:=by
 obtain⟨d,d1,d2,kn,ld,lt,lc,lm,L,fl,sn,t3,t4,t5,t6,t7,t8,t9,tT,see,M⟩:=M
 have MM:=M
 obtain⟨g1,g2,g3,g4,g5,g6,g7,g8,g9,g10,g11⟩:=Zv fb
 obtain⟨f1,f2,f3,f4,l1,l2,f5,f6,f7,f8,f9,f10,f11,f12,f13,f14,f15,f16,f17,f18,f19,f20,f21⟩:=M
 obtain⟨nl,at0⟩:=see z z1 hz
 have xl:(pgL (V z)).length=256:=by rw[Jy,nl]
 have xf:=Tc (V z)
 have back:∀ {h2:Go.Ev.H},h2=h→HE n q a b c e cr md S T V h2:=fun q=>by subst q; exact⟨d,d1,d2,kn,ld,lt,lc,lm,L,fl,sn,t3,t4,t5,t6,t7,t8,t9,tT,see,MM⟩
 obtain⟨x,hx⟩:∃ x,pgL (V z)=x:=⟨_,rfl⟩
 rw[hx] at at0 xl xf ⊢
 have ld0:∀ z,Jt z []=none:=fun _=>rfl
 have e0:Qd []=some []:=rfl
 obtain⟨N,hN⟩:∃ N,2+e+a * b=N:=⟨_,rfl⟩
 rw[hN] at f8 z1
 rcases at0 with hl|⟨hd,hl|⟨hl,hx⟩⟩
 ·have yl:(C.int .i64 (z:Int) :: x).length=257:=by rw[List.length_cons,xl]
  have yf:(C.int .i64 (z:Int) :: x).all C.flat=true:=by rw[List.all_cons,xf]; rfl
  have yt:(C.int .i64 (z:Int) :: x).drop 1=x:=rfl
  obtain⟨y,hy⟩:∃ y,C.int .i64 (z:Int) :: x=y:=⟨_,rfl⟩
  rw[hy] at hl yl yf yt
  exact⟨h,by unfold Zfm Rb; simp (maxSteps:=9^6) +decide (disch:=first|omega|(simp only[lens]<;>omega)|decide) only [go_sem,Zn,Zm,simprocAttr,f19,stG,f5,txC,f6,gdL,gdD,f16,f21,f18,fb,hz,hl,yl,yf,yt]<;>rfl,back rfl,rfl,fun _ _ _=>rfl⟩
 ·exact⟨h,by unfold Zfm Rb; simp (maxSteps:=9^6) +decide (disch:=first|omega|(simp only[lens]<;>omega)|decide) only [go_sem,Zn,Zm,simprocAttr,f19,stG,f5,txC,f6,gdL,gdD,f16,f21,f18,fb,hz,hd,hl,xl,xf,e0]<;>rfl,back rfl,rfl,fun _ _ _=>rfl⟩
 ·rcases hl2:Jt (z:Int) lm with _|y
  ·refine⟨h.put (n+6) (.map (Oe (Dw (z:Int) (x++[.bool false]) lm))),by unfold Zfm Rb Xo; simp (maxSteps:=9^6) +decide (disch:=first|omega|(simp only[lens]<;>omega)|decide) only [go_sem,Zn,Zm,simprocAttr,f19,stG,f5,txC,f6,gdL,gdD,f7,ckD,f8,f9,f10,f16,f21,f18,fb,hz,hd,hl,hl2,fl,hx,xl,xf,ld0,e0,Int.toNat_natCast]<;>rfl,⟨d,d1,d2,kn,ld,lt,lc,_,L,Dh (by rw[List.all_append,xf]; rfl) fl,sn.upd hx,t3,t4,t5,t6,t7,t8,t9,tT,see,?_⟩,rfl,fun m _ hm=>Ze hm⟩
   obtain⟨f1,f2,f3,f4,l1,l2,f5,f6,f7,f8,f9,f10,f11,f12,f13,f14,f15,f16,f17,f18,f19,f20,f21⟩:=MM
   refine⟨?_,f2,f3,f4,l1,l2,?_,?_,?_,?_,?_,?_,?_,?_,?_,?_,?_,?_,?_,Zz ..,?_,?_,?_⟩
   all_goals (rw[Ze (by omega)]; assumption)
  ·obtain⟨x',hx',rfl⟩:=sn z y hl2
   rw[hx] at hx'
   cases hx'
   have yl:(x++[C.bool false]).length=257:=by rw[List.length_append,xl]; rfl
   have yf:(x++[C.bool false]).all C.flat=true:=by rw[List.all_append,xf]; rfl
   have yt:(x++[C.bool false]).take 256=x:=by rw[←xl,List.take_left']; rfl
   obtain⟨y,hy⟩:∃ y,x++[C.bool false]=y:=⟨_,rfl⟩
   rw[hy] at hl2 yl yf yt
   exact⟨h,by unfold Zfm Rb Xo; simp (maxSteps:=9^6) +decide (disch:=first|omega|(simp only[lens]<;>omega)|decide) only [go_sem,Zn,Zm,simprocAttr,f19,stG,f5,txC,f6,gdL,gdD,f7,ckD,f8,f9,f10,f16,f21,f18,fb,hz,hd,hl,hl2,yl,yf,yt,ld0,e0]<;>rfl,back rfl,rfl,fun _ _ _=>rfl⟩
theorem HE.put (M:HE n q a b c e cr md S T V h) (fb:Ym a b c e=true) {z:Nat} (hz:Bp a b c e (z:Int)=true) (z1:z<2+e+a * b) {ns:List Nat} (nl:ns.length=256) (zs:z∈S) (zt:z ∉ T) :
  ∃ h',Zpq [.c (.ptr (n+13) 0),.c (.int .i64 (z:Int)),.g (pgL ns)] h=some (.w (.c (.int .i64 0)),h')∧HE n q a b c e cr md S T (O9 V z ns) h'∧h'.next=h.next∧∀ m,Off n q m→h'.get m=h.get m:=by
 obtain⟨d,d1,d2,kn,ld,lt,lc,lm,L,fl,sn,ft,fc,t5,vt,t7,t8,t9,tT,see,M⟩:=M
 have MM:=M
 have hd:Jt (z:Int) ld=none:=by
  rcases hl:Jt (z:Int) ld with _|y
  ·rfl
  ·obtain⟨k,hk,e⟩:=tT _ _ hl
   obtain rfl:z=k:=by omega
   exact absurd hk zt
 obtain⟨g1,g2,g3,g4,g5,g6,g7,g8,g9,g10,g11⟩:=Zv fb
 obtain⟨f1,f2,f3,f4,l1,l2,f5,f6,f7,f8,f9,f10,f11,f12,f13,f14,f15,f16,f17,f18,f19,f20,f21⟩:=M
 have xl:(pgL ns).length=256:=by rw[Jy,nl]
 have xf:=Tc ns
 have fn:Bg []=true:=rfl
 have dn:Oe (Zii (z:Int) [])=[]:=rfl
 have e1:Zpq [.c (.ptr (n+13) 0),.c (.int .i64 (z:Int)),.g (pgL ns)] h=some (.w (.c (.int .i64 0)),Zxm n q (Dw (z:Int) [] lt) (Dw (z:Int) (pgL ns) lc) h):=by
  obtain⟨x,hx⟩:∃ x,pgL ns=x:=⟨_,rfl⟩
  rw[hx] at xl xf ⊢
  unfold Zpq Zs0 Zg6
  rcases hl:Jt (z:Int) lt with _|y
  ·have:=Zz1 t7 t8 zs hl
   have tl':decide (((lt.length:Nat):Int)<cr.c)=true:=decide_eq_true (by omega)
   simp (maxSteps:=9^6) +decide (disch:=first|omega|(simp only[lens]<;>omega)|decide) only [go_sem,Zn,Zm,simprocAttr,f19,stG,f5,txC,f6,gdL,gdD,f16,f11,f20,f21,f12,f14,f15,fb,hz,xl,xf,ft,fc,fn,hl,tl',dn,Zxm,C.flat]<;>rfl
  ·obtain rfl:=vt _ _ hl
   simp (maxSteps:=9^6) +decide (disch:=first|omega|(simp only[lens]<;>omega)|decide) only [go_sem,Zn,Zm,simprocAttr,f19,stG,f5,txC,f6,gdL,gdD,f16,f11,f20,f21,f12,f14,f15,fb,hz,xl,xf,ft,fc,fn,hl,dn,Zxm,C.flat]<;>rfl
 refine⟨_,e1,⟨d,d1,d2,false,ld,Dw (z:Int) [] lt,Dw (z:Int) (pgL ns) lc,lm,L,fl,sn,Dh rfl ft,Dh xf fc,t5,vt.upd _,Zp7 t7,fun z' y hz'=>?_,t9,tT,fun z' z1' hz'=>?_,?_⟩,rfl,fun m o=>Zof _ _ ⟨o.2.1,o.2.2.1,o.2.2.2.1,o.2.2.2.2⟩⟩
 ·rw[Rc] at hz'
  split at hz'
  ·rename_i w
   exact⟨z,zs,w⟩
  ·exact t8 z' y hz'
 ·unfold O9
  split
  ·rename_i w
   subst w
   exact⟨nl,.inr ⟨hd,At.put ..⟩⟩
  ·rename_i w
   obtain⟨q1,q2⟩:=see z' z1' hz'
   refine⟨q1,?_⟩
   rcases q2 with q2|⟨q2,q3⟩
   ·exact .inl q2
   ·exact .inr ⟨q2,q3.upd w⟩
 ·refine⟨?_,f2,f3,f4,l1,l2,?_,?_,?_,?_,?_,?_,?_,Zz _ _ _,?_,?_,?_,?_,?_,?_,?_,?_,?_⟩
  all_goals (first|(rw[Zof _ _ ⟨by omega,by omega,by omega,by omega⟩]; assumption)|(unfold Zxm; simp (discharger:=omega) only [H.get_put,if_neg,if_true]))
end
noncomputable def q10 (p:List Nat):Code:=piece p (Uh Tryz.f10)
theorem rs10:Tryz.f10.results.toList=[.cell 4 39,.tmp 5]:=rfl
theorem rs108:Tryz.f108.results.toList=[.tmp 6]:=rfl
theorem rs88:Tryz.f88.results.toList=[.tmp 6]:=rfl
attribute [go_sem] rs10 rs108 rs88
section
variable (Hh:Hearts K Tryz.prog)
include Hh
variable {n q a b c e:Nat} {cr:Cr} {md:Int} {S T:List Nat} {V:Nat→List Nat} {h:Go.Ev.H}
theorem Z2y (f:Ym a b c e=true) (M:HE n q a b c e cr md S T V h) (z:Int) :
  ∃ h',Zg 10 [.c (.ptr (n+13) 0),.c (.int .i64 z)] h (.tup [.g (gI a b c e V z).1,.c (.int .i64 (gI a b c e V z).2)]) h'∧HE n q a b c e cr md S T V h'∧Kr n q h h':=by
 obtain⟨nq,nx,n0⟩:=M.nx
 obtain⟨st,⟨kn,hs⟩,⟨dd0,gl⟩,ht⟩:=M.cells
 unfold gdL gdD at gl
 obtain⟨g1,g2,g3,g4,g5,g6,g7,g8,g9,g10,g11⟩:=Zv f
 by_cases hz:1≤z∧z≤((a * c:Nat):Int)
 ·obtain⟨j,hj⟩:∃ j,z.toNat - 1=j:=⟨_,rfl⟩
  obtain⟨z1,z2⟩:=hz
  obtain rfl:z=((j+1:Nat):Int):=by omega
  have jl:j<a * c:=by omega
  have qg:gI a b c e V ((j+1:Nat):Int)=Rv (V (Y1 b c e j)) (D9 c j):=by
   unfold gI
   rw[if_pos ⟨z1,z2⟩,hj]
  rw[qg]
  have pc:=Ra c j
  have ka:j / c<a:=Nat.div_lt_of_lt_mul (by rw[Nat.mul_comm]; omega)
  have tc:j % c<c:=Nat.mod_lt _ (by omega)
  have st:=Jp (b:=b) ka
  obtain⟨z,hz⟩:∃ z,Y1 b c e j=z:=⟨_,rfl⟩
  obtain⟨p,hp⟩:∃ p,D9 c j=p:=⟨_,rfl⟩
  rw[hz]
  rw[hp] at pc ⊢
  unfold Y1 at hz
  unfold D9 at hp
  have zl:z<2+e+a * b:=by omega
  have oz:=Dx (z:=z) (Zv f) (by omega) zl
  have t1:((j+1:Nat):Int).toNat - 1=j:=by omega
  have d1:decide (1≤((j+1:Nat):Int))=true:=decide_eq_true (by omega)
  have d2:decide (((j+1:Nat):Int)≤((a * c:Nat):Int))=true:=decide_eq_true (by omega)
  have nl:=M.len oz zl
  have c2:=Z6q Hh nl pc
  have il:=Z01 (V z) p
  obtain⟨y,hy⟩:∃ y,(Rv (V z) p).1=y:=⟨_,rfl⟩
  obtain⟨er,her⟩:∃ y,(Rv (V z) p).2=y:=⟨_,rfl⟩
  rw[hy] at il
  rw[hy,her] at c2 ⊢
  have xl:(pgL (V z)).length=256:=by rw[Jy,nl]
  have hG:=fun {h:Go.Ev.H} (M:HE n q a b c e cr md S T V h)=>M.get f oz zl
  obtain⟨x,hxx⟩:∃ x,pgL (V z)=x:=⟨_,rfl⟩
  rw[hxx] at c2 xl
  simp only[hxx] at hG
  refine Ou ?_
  refine Yg Hh Tryz.f10 ?_
  have Jf:=Yy @f (Yu @hs @gl @t1 @d1 @d2 @hz @hp @xl @il)
  iterate 17 (first|apply Zk|apply Zw|refine Goes.Zi Ov ?_|refine Zq Hh (EY (EY (EY Za (Zej Hh)) (Jh Hh)) (Et Hh)) Ov ?_)
  refine Uc fun hA eA=>?_
  have nA:hA.next=h.next+1:=by rw[eA]; first|rfl|simp only[H.Zd,H.Zb]
  have kA:∀ m,m<h.next→hA.get m=h.get m:=fun m hm=>by rw[eA]; exact Yc
  obtain⟨w,wl,cA⟩:∃ w:List C,w.length=16∧hA.get h.next=some (.row 16 [w] false):=⟨_,Zpa,by rw[eA]; exact Yn⟩
  clear eA
  obtain⟨hA1,e1,MA1,nA1,rA⟩:=hG (M.keep (h2:=hA) (by omega) (fun m hm=>kA m (by omega)))
  have c1:=Dq Hh e1
  have cA1:=(rA h.next (by omega) (by omega)).trans cA
  iterate 3 (first|apply Zk|refine Zq Hh (Zp Za c1) Ov ?_)
  have Jf:=Uq Jf @nA @nA1 @cA1
  iterate 4 (first|apply Zk|apply Zw|refine Goes.Zi Ov ?_|refine Zq Hh Za Ov ?_)
  refine Uc fun hB eB=>?_
  have nB:hB.next=h.next+1+1:=by rw[eB]; simp only[H.Zd,H.Zb,nA1,nA]
  have kB:∀ m,m<hA1.next→hB.get m=hA1.get m:=fun m hm=>by rw[eB]; exact Yc
  have cB:hB.get h.next=some (.row 16 [w] false):=(kB _ (by omega)).trans cA1
  have bB:hB.get (h.next+1)=some (.row 256 [x] false):=by rw[eB]; exact Z5
  clear eB
  have MB:=MA1.keep (h2:=hB) (by omega) (fun m hm=>kB m (by omega))
  have c3:=c2 hB
  have Jf:=U1 Jf @nB @cB @bB @wl
  iterate 2 (first|apply Z0|refine Zq Hh (Zp Za c3) Ov ?_)
  refine⟨_,_,Z5,rfl,MB.keep ?_ (fun m hm=>?_),?_,fun m hm hne=>?_⟩
  ·first|omega|(simp only[H.Zd,H.Zb]<;>omega)
  ·exact Yc
  ·first|omega|(simp only[H.Zd,H.Zb]<;>omega)
  ·refine Eq.trans ?_ ((kB m (by omega)).trans ((rA m (by omega) hne).trans (kA m hm))); exact Yc
 ·have qg:gI a b c e V z=(ino0,2):=by unfold gI; rw[if_neg hz]
  rw[qg]
  have dd:(decide (1≤z)&&decide (z≤((a * c:Nat):Int)))=false:=by
   rw[←Bool.decide_and]
   exact decide_eq_false hz
  refine Ou ?_
  refine Yg Hh Tryz.f10 ?_
  have Jf:=Uq @f @hs @gl @dd
  iterate 18 (first|apply Zk|apply Zw|apply Z0|refine Goes.Zi Ov ?_|refine Zq Hh (EY (EY (EY Za (Zej Hh)) (Jh Hh)) (Et Hh)) Ov ?_)
  refine⟨_,_,Yn,rfl,M.keep ?_ (fun m hm=>?_),?_,fun m hm hne=>?_⟩
  ·first|omega|(simp only[H.Zd,H.Zb]<;>omega)
  ·exact Yc
  ·first|omega|(simp only[H.Zd,H.Zb]<;>omega)
  ·exact Yc
theorem Zuv (f:Ym a b c e=true) (M:HE n q a b c e cr md S T V h) {j:Nat} (jl:j<a * c) (js:Y1 b c e j∈S) (jt:Y1 b c e j ∉ T) {ms:List Nat} (ml:ms.length=256) {y:List C} (yl:y.length=16)
  (hi:∀ h m,h.get m=some (.row 256 [pgL (V (Y1 b c e j))] false)→m<h.next→∃ h',Zg 64 [.c (.ptr m 0),.c (.int .i64 (D9 c j:Nat)),.g y] h (.w (.c (.int .i64 0))) h'∧h.next≤h'.next∧h'.get m=some (.row 256 [pgL ms] false)∧∀ k,k<h.next→k≠m→h'.get k=h.get k) :
  ∃ h',Zg 108 [.c (.ptr (n+13) 0),.c (.int .i64 ((j+1:Nat):Int)),.g y] h (.w (.c (.int .i64 0))) h'∧HE n q a b c e cr md S T (O9 V (Y1 b c e j) ms) h'∧Kp n q h h':=by
 obtain⟨g1,g2,g3,g4,g5,g6,g7,g8,g9,g10,g11⟩:=Zv f
 have ka:j / c<a:=Nat.div_lt_of_lt_mul (by rw[Nat.mul_comm]; omega)
 have tc:j % c<c:=Nat.mod_lt _ (by omega)
 have st:=Jp (b:=b) ka
 obtain⟨z,hz⟩:∃ z,Y1 b c e j=z:=⟨_,rfl⟩
 obtain⟨p,hp⟩:∃ p,D9 c j=p:=⟨_,rfl⟩
 rw[hz] at js jt ⊢
 rw[hp,hz] at hi
 unfold Y1 at hz
 unfold D9 at hp
 have zl:z<2+e+a * b:=by omega
 have oz:=Dx (z:=z) (Zv f) (by omega) zl
 have t1:((j+1:Nat):Int).toNat - 1=j:=by omega
 have d1:decide (1≤((j+1:Nat):Int))=true:=decide_eq_true (by omega)
 have d2:decide (((j+1:Nat):Int)≤((a * c:Nat):Int))=true:=decide_eq_true (by omega)
 have xl:(pgL (V z)).length=256:=by rw[Jy,M.len oz zl]
 have wl:(pgL ms).length=256:=by rw[Jy,ml]
 have hG:=fun {h:Go.Ev.H} (M:HE n q a b c e cr md S T V h)=>M.get f oz zl
 have hP:=fun {h:Go.Ev.H} (M:HE n q a b c e cr md S T V h)=>M.put f oz zl ml js jt
 obtain⟨x,hxx⟩:∃ x,pgL (V z)=x:=⟨_,rfl⟩
 obtain⟨v,hww⟩:∃ v,pgL ms=v:=⟨_,rfl⟩
 rw[hxx] at xl
 rw[hww] at wl
 simp only[hxx,hww] at hi hG hP
 obtain⟨nq,nx,n0⟩:=M.nx
 obtain⟨st,⟨kn,hs⟩,⟨dd0,gl⟩,ht⟩:=M.cells
 unfold gdL gdD at gl
 obtain⟨v',h',cc,rfl,M',kk⟩:∃ v' h',Zg 108 [.c (.ptr (n+13) 0),.c (.int .i64 ((j+1:Nat):Int)),.g y] h v' h'∧v'=.w (.c (.int .i64 0))∧HE n q a b c e cr md S T (O9 V z ms) h'∧Kp n q h h':=by
  refine Yg Hh Tryz.f108 ?_
  have Jf:=Jb @f @hs (Yu @gl @t1 @d1 @d2 @hz @hp @xl @wl @yl)
  iterate 10 (first|apply Zk|apply Zw|refine Goes.Zi Us ?_|refine Zq Hh (EY (EY Za (Jh Hh)) (Et Hh)) Us ?_)
  refine Uc fun hA eA=>?_
  have nA:hA.next=h.next+1:=by rw[eA]; first|rfl|simp only[H.Zd,H.Zb]
  have kA:∀ m,m<h.next→hA.get m=h.get m:=fun m hm=>by rw[eA]; exact Yc
  have cA:hA.get h.next=some (.row 16 [y] false):=by rw[eA]; exact Yn
  clear eA
  obtain⟨hA1,e1,MA1,nA1,rA⟩:=hG (M.keep (h2:=hA) (by omega) (fun m hm=>kA m (by omega)))
  have c1:=Dq Hh e1
  have cA1:=(rA h.next (by omega) (by omega)).trans cA
  have kA1:∀ m,m<h.next→m≠n+6→hA1.get m=h.get m:=fun m hm hne=>(rA m (by omega) hne).trans (kA m hm)
  iterate 3 (first|apply Zk|refine Zq Hh (Zp Za c1) Us ?_)
  have Jf:=Uq Jf @nA @nA1 @cA1
  iterate 5 (first|apply Zk|apply Zw|refine Goes.Zi Us ?_|refine Zq Hh Za Us ?_)
  refine Uc fun hB eB=>?_
  have nB:hB.next=h.next+1+1:=by rw[eB]; simp only[H.Zd,H.Zb,nA1,nA]
  have cB:hB.get h.next=some (.row 16 [y] false):=by rw[eB]; refine Eq.trans ?_ cA1; exact Yc
  have kB:∀ m,m<h.next→m≠n+6→hB.get m=h.get m:=fun m hm hne=>by rw[eB]; refine Eq.trans ?_ (kA1 m hm hne); exact Yc
  have bB:hB.get (h.next+1)=some (.row 256 [x] false):=by rw[eB]; exact Z5
  have MB:=MA1.keep (h2:=hB) (by omega) (fun m hm=>by rw[eB]; exact Yc)
  clear eB
  obtain⟨hC,c2,nC,bC,kC⟩:=hi hB _ bB (by omega)
  have MC:=MB.keep nC (fun m hm=>kC m (by omega) (by omega))
  have r16:Zn 16 [y] 0 16=some y:=Fz (by omega)
  have Jf:=U1 Jf @nB @cB @bB @r16
  iterate 6 (first|apply Zk|apply Zw|refine Goes.Zi Us ?_|refine Zq Hh (Zp Za c2) Us ?_)
  obtain⟨hP',e3,MP,nP,kP⟩:=hP MC
  have c3:=Mo Hh e3
  have Jf:=Yy Jf @bC
  iterate 2 (first|apply Z0|refine Zq Hh (Zp Za c3) Us ?_)
  exact⟨_,_,Yn,rfl,MP,(by omega),fun m hm ho=>(kP m ho.1).trans ((kC m (by omega) (by omega)).trans (kB m hm ho.1.1))⟩
 exact⟨h',cc,M',kk⟩
theorem Yan (f:Ym a b c e=true) (M:HE n q a b c e cr md S T V h) {j:Nat} (jl:j<a * c) (js:Y1 b c e j∈S) (jt:Y1 b c e j ∉ T) {k l g s p0 p1 p2 p3 p4 p5 p6 p7 p8 p9 p10 nx:Nat} (kb:k<256) (lb:l<65536) (gb:g<4294967296) (sb:s<4294967296) (pb:∀ v∈[p0,p1,p2,p3,p4,p5,p6,p7,p8,p9,p10],v<4294967296) (nb:nx<4294967296) (hm:Zif k l s p0 p1 p2 p3 p4 p5 p6 p7 p8 p9 p10 nx=true) :
  ∃ h',Zg 88 [.c (.ptr (n+13) 0),.c (.int .i64 ((j+1:Nat):Int)),.g (Nc k l g s p0 p1 p2 p3 p4 p5 p6 p7 p8 p9 p10 nx)] h (.w (.c (.int .i64 0))) h'∧HE n q a b c e cr md S T (O9 V (Y1 b c e j) (Ec (V (Y1 b c e j)) (D9 c j) k l g s [p0,p1,p2,p3,p4,p5,p6,p7,p8,p9,p10] nx)) h'∧Kp n q h h':=by
 have d1:decide (1≤((j+1:Nat):Int))=true:=decide_eq_true (by omega)
 have d2:decide (((j+1:Nat):Int)≤((a * c:Nat):Int))=true:=decide_eq_true (by omega)
 have pc:=Ra c j
 obtain⟨g1,g2,g3,g4,g5,g6,g7,g8,g9,g10,g11⟩:=Zv f
 have nl:(V (Y1 b c e j)).length=256:=by
  have ka:j / c<a:=Nat.div_lt_of_lt_mul (by rw[Nat.mul_comm]; omega)
  have tc:j % c<c:=Nat.mod_lt _ (by omega)
  have st:=Jp (b:=b) ka
  exact M.len (Dx (Zv f) (by unfold Y1; omega) (by unfold Y1; omega)) (by unfold Y1; omega)
 have ml:(Ec (V (Y1 b c e j)) (D9 c j) k l g s [p0,p1,p2,p3,p4,p5,p6,p7,p8,p9,p10] nx).length=256:=by rw[Zga (by omega),nl]
 have cI:=fun h=>Zmv Hh k l g s p0 p1 p2 p3 p4 p5 p6 p7 p8 p9 p10 nx h
 rw[hm] at cI
 have yl:(Nc k l g s p0 p1 p2 p3 p4 p5 p6 p7 p8 p9 p10 nx).length=16:=rfl
 change ∀ h,Zg 97 [.g (Nc k l g s p0 p1 p2 p3 p4 p5 p6 p7 p8 p9 p10 nx)] h (.w (.c (.bool true))) h at cI
 have hW:=fun (h:Go.Ev.H) (M:HE n q a b c e cr md S T V h)=>Zuv Hh f M jl js jt ml yl fun h m q1 q2=>Zug Hh nl pc kb lb gb sb pb nb hm q1 q2
 obtain⟨y,hy⟩:∃ y,Nc k l g s p0 p1 p2 p3 p4 p5 p6 p7 p8 p9 p10 nx=y:=⟨_,rfl⟩
 rw[hy] at yl cI ⊢
 simp only[hy] at hW
 obtain⟨V',hV⟩:∃ V',O9 V (Y1 b c e j) (Ec (V (Y1 b c e j)) (D9 c j) k l g s [p0,p1,p2,p3,p4,p5,p6,p7,p8,p9,p10] nx)=V':=⟨_,rfl⟩
 rw[hV]
 simp only[hV] at hW
 obtain⟨nq,nx',n0⟩:=M.nx
 obtain⟨st,⟨kn,hs⟩,⟨dd0,gl⟩,ht⟩:=M.cells
 unfold gdL gdD at gl
 refine Ou ?_
 refine Yg Hh Tryz.f88 ?_
 have Jf:=M8 @f @hs @gl @ht @d1 @d2 @yl
 iterate 18 (first|apply Zk|apply Zw|refine Goes.Zi Us ?_|refine Zq Hh (EY (EY (EY Za (Zko Hh)) (Jh Hh)) (Et Hh)) Us ?_)
 iterate 4 (first|apply Zk|apply Zw|refine Goes.Zi Us ?_|refine Zq Hh (Yp Za cI) Us ?_)
 refine Uc fun hA eA=>?_
 have nA:hA.next=h.next+1:=by rw[eA]; first|rfl|simp only[H.Zd,H.Zb]
 have kA:∀ m,m<h.next→hA.get m=h.get m:=fun m hm=>by rw[eA]; exact Yc
 have cA:hA.get h.next=some (.row 16 [y] false):=by rw[eA]; exact Yn
 clear eA
 obtain⟨hC,c9,MC,kC⟩:=hW hA (M.keep (by omega) (fun m hm=>kA m (by omega)))
 have nC:=kC.1
 have Jf:=Jb Jf @nA @cA
 iterate 2 (first|apply Z0|refine Zq Hh (Zp Za c9) Us ?_)
 exact⟨_,_,Yn,rfl,MC,by omega,fun m hm ho=>(kC.2 m (by omega) ho).trans (kA m hm)⟩
end
def rwI (l:List Nat):List (List C):=l.map fun (x:Nat)=>[.int .i64 (x:Int)]
theorem Zf7 (l:List Nat):(rwI l).length=l.length:=by simp [rwI]
theorem Z8f {l:List Nat} {k x:Nat} (h:l[k]? = some x):(rwI l)[k]? = some [.int .i64 (x:Int)]:=by simp [rwI,h]
theorem rdI {l:List Nat} {k x:Nat} (h:l[k]? = some x):read1 1 (rwI l) k=some (.int .i64 (x:Int)):=by
 have:=Md (sz:=1) (i:=k) (j:=0) (by omega) (Z8f h)
 rw[Nat.mul_one,Nat.add_zero] at this
 exact this
def SlI (h:Go.Ev.H) (c:C) (l:List Nat):Prop:=(l=[]∧c=.snil)∨∃ p,0<l.length∧c=.slice p 0 l.length 1∧h.get p=some (.row 1 (rwI l) false)
theorem SlI.keep {h h2:Go.Ev.H} {c:C} {l:List Nat} (s:SlI h c l) (k:∀ p o n z,c=.slice p o n z→h2.get p=h.get p):SlI h2 c l:=by
 rcases s with s|⟨p,h1,rfl,h2⟩
 ·exact .inl s
 ·exact .inr ⟨p,h1,rfl,(k _ _ _ _ rfl).trans h2⟩
theorem Z3f (p o l:Nat):Y7 K 70 (.c (.slice p o l 1))=true:=by kernel_rfl
theorem Zu4:Y7 K 70 (.c .snil)=true:=by kernel_rfl
section
variable (Hh:Hearts K Tryz.prog)
include Hh
end
theorem Z7b:K.types.get 70=some ti70:=by kernel_rfl
theorem Z0i (n off len sz:Nat):Jg K 70 (.slice n off len sz)=true:=by unfold Jg; rw[Z7b]; rfl
theorem Z48:Jg K 70 .snil=true:=by unfold Jg; rw[Z7b]; rfl
theorem Ybn:ti3.bytes=8:=rfl
theorem Ya3:ti3.size=1:=rfl
theorem Yay (h:Go.Ev.H) (c:C):Yj h 1 (some ti3) (some [(0,.c c)])=some (.w (.c (.slice h.next 0 1 1)),h.new (.row 1 [[c]] false)):=rfl
theorem Yba {h:Go.Ev.H} {n:Nat} {L:List (List C)} (x:List C) (ho:h.get n=some (.row 1 L false)) (hn:n<h.next) (hl:L.length≤4000) :
  Ol (h.new (.row 1 [x] false)) (some ti3) (.slice n 0 L.length 1) (.slice h.next 0 1 1)=some (.w (.c (.slice (h.next+1) 0 (L.length+1) 1)),((h.new (.row 1 [x] false)).del n).new (.row 1 (L++[x]) false)) :=
 Zam (M:=[x]) Ya3 (by rw[H.Z7,if_neg (by omega)]; exact ho) (by rw[H.Z7,if_pos rfl]) (by simp) (by rw[Ybn]; show (L.length+1) * 8≤_; omega) (by show L.length+1≤_; omega)
theorem Z8y {h:Go.Ev.H} (x:List C) :
  Ol (h.new (.row 1 [x] false)) (some ti3) .snil (.slice h.next 0 1 1)=some (.w (.c (.slice (h.next+1) 0 1 1)),(h.new (.row 1 [x] false)).new (.row 1 [x] false)) :=
 append_nil (M:=[x]) Ya3 (by rw[H.Z7,if_pos rfl]) (by simp) (by rw[Ybn]; show 1 * 8≤_; omega) (by show 1≤_; omega)
theorem Z1c (l:List Nat) (x:Nat):rwI l++[[.int .i64 (x:Int)]]=rwI (l++[x]):=by simp [rwI]
theorem Ycc {h:Go.Ev.H} {c:C} {l:List Nat} (s:SlI h c l):Jg K 70 c=true:=by
 rcases s with ⟨_,rfl⟩|⟨p,_,rfl,_⟩
 ·exact Z48
 ·exact Z0i ..
theorem Z84 {h:Go.Ev.H} {c:C} {l:List Nat} (s:SlI h c l):Y7 K 70 (.c c)=true∧∀ h,J3 K h 70 (.c c)=some (.int .i64 (l.length:Nat)):=by
 rcases s with ⟨rfl,rfl⟩|⟨p,_,rfl,_⟩
 ·exact⟨Zu4,fun _=>rfl⟩
 ·exact⟨Z3f ..,fun _=>rfl⟩
def Y9 (i:Nat):Nat × List Nat:=if i<8 then (i,[]) else if i<72 then (8,[i - 8]) else (9,[(i - 72) / 64,(i - 72) % 64])
theorem of0:Gv (evX K x00 5000 (.call 138 [.c (.int .i64 0)] ⟨.nil,1⟩))=some ((((Y9 0).1:Nat):Int),rwI (Y9 0).2):=by kernel_rfl
theorem of1:Gv (evX K x00 5000 (.call 138 [.c (.int .i64 1)] ⟨.nil,1⟩))=some ((((Y9 1).1:Nat):Int),rwI (Y9 1).2):=by kernel_rfl
theorem of2:Gv (evX K x00 5000 (.call 138 [.c (.int .i64 2)] ⟨.nil,1⟩))=some ((((Y9 2).1:Nat):Int),rwI (Y9 2).2):=by kernel_rfl
theorem of3:Gv (evX K x00 5000 (.call 138 [.c (.int .i64 3)] ⟨.nil,1⟩))=some ((((Y9 3).1:Nat):Int),rwI (Y9 3).2):=by kernel_rfl
theorem of4:Gv (evX K x00 5000 (.call 138 [.c (.int .i64 4)] ⟨.nil,1⟩))=some ((((Y9 4).1:Nat):Int),rwI (Y9 4).2):=by kernel_rfl
theorem of5:Gv (evX K x00 5000 (.call 138 [.c (.int .i64 5)] ⟨.nil,1⟩))=some ((((Y9 5).1:Nat):Int),rwI (Y9 5).2):=by kernel_rfl
theorem of6:Gv (evX K x00 5000 (.call 138 [.c (.int .i64 6)] ⟨.nil,1⟩))=some ((((Y9 6).1:Nat):Int),rwI (Y9 6).2):=by kernel_rfl
theorem of7:Gv (evX K x00 5000 (.call 138 [.c (.int .i64 7)] ⟨.nil,1⟩))=some ((((Y9 7).1:Nat):Int),rwI (Y9 7).2):=by kernel_rfl
theorem of8:Gv (evX K x00 5000 (.call 138 [.c (.int .i64 8)] ⟨.nil,1⟩))=some ((((Y9 8).1:Nat):Int),rwI (Y9 8).2):=by kernel_rfl
theorem of9:Gv (evX K x00 5000 (.call 138 [.c (.int .i64 9)] ⟨.nil,1⟩))=some ((((Y9 9).1:Nat):Int),rwI (Y9 9).2):=by kernel_rfl
theorem of10:Gv (evX K x00 5000 (.call 138 [.c (.int .i64 10)] ⟨.nil,1⟩))=some ((((Y9 10).1:Nat):Int),rwI (Y9 10).2):=by kernel_rfl
theorem of11:Gv (evX K x00 5000 (.call 138 [.c (.int .i64 11)] ⟨.nil,1⟩))=some ((((Y9 11).1:Nat):Int),rwI (Y9 11).2):=by kernel_rfl
theorem of12:Gv (evX K x00 5000 (.call 138 [.c (.int .i64 12)] ⟨.nil,1⟩))=some ((((Y9 12).1:Nat):Int),rwI (Y9 12).2):=by kernel_rfl
theorem of13:Gv (evX K x00 5000 (.call 138 [.c (.int .i64 13)] ⟨.nil,1⟩))=some ((((Y9 13).1:Nat):Int),rwI (Y9 13).2):=by kernel_rfl
theorem of14:Gv (evX K x00 5000 (.call 138 [.c (.int .i64 14)] ⟨.nil,1⟩))=some ((((Y9 14).1:Nat):Int),rwI (Y9 14).2):=by kernel_rfl
theorem of15:Gv (evX K x00 5000 (.call 138 [.c (.int .i64 15)] ⟨.nil,1⟩))=some ((((Y9 15).1:Nat):Int),rwI (Y9 15).2):=by kernel_rfl
theorem of16:Gv (evX K x00 5000 (.call 138 [.c (.int .i64 16)] ⟨.nil,1⟩))=some ((((Y9 16).1:Nat):Int),rwI (Y9 16).2):=by kernel_rfl
theorem of17:Gv (evX K x00 5000 (.call 138 [.c (.int .i64 17)] ⟨.nil,1⟩))=some ((((Y9 17).1:Nat):Int),rwI (Y9 17).2):=by kernel_rfl
theorem of18:Gv (evX K x00 5000 (.call 138 [.c (.int .i64 18)] ⟨.nil,1⟩))=some ((((Y9 18).1:Nat):Int),rwI (Y9 18).2):=by kernel_rfl
theorem of19:Gv (evX K x00 5000 (.call 138 [.c (.int .i64 19)] ⟨.nil,1⟩))=some ((((Y9 19).1:Nat):Int),rwI (Y9 19).2):=by kernel_rfl
theorem of20:Gv (evX K x00 5000 (.call 138 [.c (.int .i64 20)] ⟨.nil,1⟩))=some ((((Y9 20).1:Nat):Int),rwI (Y9 20).2):=by kernel_rfl
theorem of21:Gv (evX K x00 5000 (.call 138 [.c (.int .i64 21)] ⟨.nil,1⟩))=some ((((Y9 21).1:Nat):Int),rwI (Y9 21).2):=by kernel_rfl
theorem of22:Gv (evX K x00 5000 (.call 138 [.c (.int .i64 22)] ⟨.nil,1⟩))=some ((((Y9 22).1:Nat):Int),rwI (Y9 22).2):=by kernel_rfl
theorem of23:Gv (evX K x00 5000 (.call 138 [.c (.int .i64 23)] ⟨.nil,1⟩))=some ((((Y9 23).1:Nat):Int),rwI (Y9 23).2):=by kernel_rfl
theorem of24:Gv (evX K x00 5000 (.call 138 [.c (.int .i64 24)] ⟨.nil,1⟩))=some ((((Y9 24).1:Nat):Int),rwI (Y9 24).2):=by kernel_rfl
theorem of25:Gv (evX K x00 5000 (.call 138 [.c (.int .i64 25)] ⟨.nil,1⟩))=some ((((Y9 25).1:Nat):Int),rwI (Y9 25).2):=by kernel_rfl
theorem of26:Gv (evX K x00 5000 (.call 138 [.c (.int .i64 26)] ⟨.nil,1⟩))=some ((((Y9 26).1:Nat):Int),rwI (Y9 26).2):=by kernel_rfl
theorem of27:Gv (evX K x00 5000 (.call 138 [.c (.int .i64 27)] ⟨.nil,1⟩))=some ((((Y9 27).1:Nat):Int),rwI (Y9 27).2):=by kernel_rfl
theorem of28:Gv (evX K x00 5000 (.call 138 [.c (.int .i64 28)] ⟨.nil,1⟩))=some ((((Y9 28).1:Nat):Int),rwI (Y9 28).2):=by kernel_rfl
theorem of29:Gv (evX K x00 5000 (.call 138 [.c (.int .i64 29)] ⟨.nil,1⟩))=some ((((Y9 29).1:Nat):Int),rwI (Y9 29).2):=by kernel_rfl
theorem of30:Gv (evX K x00 5000 (.call 138 [.c (.int .i64 30)] ⟨.nil,1⟩))=some ((((Y9 30).1:Nat):Int),rwI (Y9 30).2):=by kernel_rfl
theorem of31:Gv (evX K x00 5000 (.call 138 [.c (.int .i64 31)] ⟨.nil,1⟩))=some ((((Y9 31).1:Nat):Int),rwI (Y9 31).2):=by kernel_rfl
theorem of32:Gv (evX K x00 5000 (.call 138 [.c (.int .i64 32)] ⟨.nil,1⟩))=some ((((Y9 32).1:Nat):Int),rwI (Y9 32).2):=by kernel_rfl
theorem of33:Gv (evX K x00 5000 (.call 138 [.c (.int .i64 33)] ⟨.nil,1⟩))=some ((((Y9 33).1:Nat):Int),rwI (Y9 33).2):=by kernel_rfl
theorem of34:Gv (evX K x00 5000 (.call 138 [.c (.int .i64 34)] ⟨.nil,1⟩))=some ((((Y9 34).1:Nat):Int),rwI (Y9 34).2):=by kernel_rfl
theorem of35:Gv (evX K x00 5000 (.call 138 [.c (.int .i64 35)] ⟨.nil,1⟩))=some ((((Y9 35).1:Nat):Int),rwI (Y9 35).2):=by kernel_rfl
theorem Ybt:∀ i:Nat,i<36→Gv (evX K x00 5000 (.call 138 [.c (.int .i64 (i:Int))] ⟨.nil,1⟩))=some ((((Y9 i).1:Nat):Int),rwI (Y9 i).2)
 | 0,_=>of0
 | 1,_=>of1
 | 2,_=>of2
 | 3,_=>of3
 | 4,_=>of4
 | 5,_=>of5
 | 6,_=>of6
 | 7,_=>of7
 | 8,_=>of8
 | 9,_=>of9
 | 10,_=>of10
 | 11,_=>of11
 | 12,_=>of12
 | 13,_=>of13
 | 14,_=>of14
 | 15,_=>of15
 | 16,_=>of16
 | 17,_=>of17
 | 18,_=>of18
 | 19,_=>of19
 | 20,_=>of20
 | 21,_=>of21
 | 22,_=>of22
 | 23,_=>of23
 | 24,_=>of24
 | 25,_=>of25
 | 26,_=>of26
 | 27,_=>of27
 | 28,_=>of28
 | 29,_=>of29
 | 30,_=>of30
 | 31,_=>of31
 | 32,_=>of32
 | 33,_=>of33
 | 34,_=>of34
 | 35,_=>of35
 | n+36,h=>by omega
theorem Zz8 {i:Nat} (h:i<36):(Y9 i).1<11∧∀ w∈(Y9 i).2,w<64:=by
 unfold Y9
 split
 ·exact⟨by show i<11; omega,fun w hw=>by simp at hw⟩
 ·split
  ·exact⟨by show 8<11; omega,fun w hw=>by simp at hw; omega⟩
  ·omega
section
variable (Hh:Hearts K Tryz.prog)
include Hh
theorem Z9t {i:Nat} (hi:i<36) {h:Go.Ev.H} (h0:0<h.next):∃ h' s,Zg 138 [.c (.int .i64 (i:Int))] h (.tup [.c (.int .i64 ((Y9 i).1:Nat)),.c s,.c (.int .i64 0)]) h'∧h.next≤h'.next∧(∀ m,m<h.next→h'.get m=h.get m)∧SlI h' s (Y9 i).2∧∀ p o n z,s=.slice p o n z→h.next≤p∧p<h'.next:=by
 obtain⟨h',s,c,n,k,r⟩:=Zy.Z5h fits Hh Z12 gl (Ybt i hi) rfl h h0
 refine⟨h',s,c,n,k,?_,fun p o l z e=>?_⟩
 ·rcases r with ⟨e,rfl⟩|⟨q,q1,q2,rfl,ho,el⟩
  ·left
   refine⟨?_,rfl⟩
   have:=congrArg List.length e
   rw[Zf7] at this
   exact List.eq_nil_of_length_eq_zero this
  ·rw[Zf7] at el ⊢
   exact .inr ⟨q,el,rfl,ho⟩
 ·rcases r with ⟨_,rfl⟩|⟨q,q1,q2,rfl,ho,el⟩
  ·cases e
  ·cases e; exact⟨q1,q2⟩
end
def Sg (md:Int) (T:List Nat) (z:Nat):List Nat:=if md=3 then T else z :: T
section
variable {n q a b c e:Nat} {cr:Cr} {md:Int} {h:Go.Ev.H} {S T:List Nat} {V:Nat→List Nat}
theorem HE.more (M:HE n q a b c e cr md S T V h) {T':List Nat} (s:∀ z∈T,z∈T'):HE n q a b c e cr md S T' V h:=by
 obtain⟨d,d1,d2,kn,ld,lt,lc,lm,L,f1,f2,f3,f4,f5,f6,f7,f8,f9,f10,f11,M⟩:=M
 exact⟨d,d1,d2,kn,ld,lt,lc,lm,L,f1,f2,f3,f4,f5,f6,f7,f8,f9,fun z y hz=>by obtain⟨k,hk,e⟩:=f10 z y hz; exact⟨k,s k hk,e⟩,f11,M⟩
end
attribute [go_sem] ty37 sz37 ag37 de37 ze37 by37 eq37 ty39 sz39 ag39 fo39_0 fo39_1 fo39_2 fo39_3 fo39_4 fo39_5 bu39 ze39 by39
noncomputable def q135 (p:List Nat):Code:=piece p (Uh Tryz.f135)
theorem rs109:Tryz.f109.results.toList=[.tmp 2]:=rfl
theorem rs137:Tryz.f137.results.toList=[.tmp 2]:=rfl
theorem rs139:Tryz.f139.results.toList=[.tmp 2]:=rfl
theorem rs182:Tryz.f182.results.toList=[.tmp 4]:=rfl
theorem rs135:Tryz.f135.results.toList=[.tmp 6,.tmp 7]:=rfl
attribute [go_sem] rs109 rs137 rs139 rs182 rs135
noncomputable def Zub:Kn1:=fun args h=>match args with
 | [.c (.ptr s 0)]=>(Br h s).bind fun S=>(Fx h S.gd).bind fun G=>some (.w (.c (.int .u8 G.md)),h)
 | _=>none
noncomputable def Zre:Kn1:=fun args h=>match args with
 | [.c (.ptr s 0)]=>(Br h s).bind fun S=>(Fx h S.gd).bind fun G=>some (.w (.c (.bool (G.md != 0))),h)
 | _=>none
noncomputable def Ztc:Kn1:=fun args h=>match args with
 | [.c (.ptr s 0)]=>(Br h s).bind fun S=>(Fx h S.gd).bind fun _=>(Gn h S.tx).bind fun X=>Y8 X.op (some (.w (.c (.int .i64 0)),h))
 | _=>none
attribute [go_sem] Zub Zre Ztc
def Z5q (V:Nat→List Nat) (b w:Nat):Nat:=if b=0 then 0 else Yk (V b) (4 * w)
def Qa (V:Nat→List Nat) (b:Nat) (ws:List Nat):Nat:=ws.foldl (Z5q V) b
theorem Zj8 (V:Nat→List Nat):∀ ws,Qa V 0 ws=0
 | []=>rfl
 | w :: ws=>by
  show Qa V (Z5q V 0 w) ws=0
  rw[show Z5q V 0 w=0 from if_pos rfl]
  exact Zj8 V ws
theorem Zwr (V:Nat→List Nat) (b:Nat) (ws:List Nat) (w:Nat):Qa V b (ws++[w])=Z5q V (Qa V b ws) w:=by
 unfold Qa
 rw[List.foldl_append]
 rfl
def Z7p (a b c e:Nat) (V:Nat→List Nat) (b0:Nat) (ws:List Nat):Prop:=∀ j,j<ws.length→Qa V b0 (ws.take j)≠0→Bp a b c e ((Qa V b0 (ws.take j):Nat):Int)=true∧Qa V b0 (ws.take j)<2+e+a * b
section
variable (Hh:Hearts K Tryz.prog)
include Hh
theorem Zky {args:List W} {h h':Go.Ev.H} {v:V} (e:Zub args h=some (v,h')):Zg 109 args h v h':=by
 unfold Zub at e
 split at e
 ·rename_i s
  obtain⟨S,hs,e⟩:=Zo e
  have hs:=Jc hs
  obtain⟨G,hg,e⟩:=Zo e
  obtain⟨hg,fb⟩:=J4 hg
  cases e
  refine fnG Hh Tryz.f109 ?_
  repeat (first|apply Zk|apply Zw|apply Z0|((first|apply Goes.Zi|apply Goes.ops2 fits Hh (EY Za (Ox Hh))); · simp (maxSteps:=9^6) +decide (disch:=first|omega|(simp only[lens]<;>omega)|decide) only [go_sem,Zn,Zm,simprocAttr,hs,hg,gdL,read1]<;>rfl))
  exact Zc
 ·cases e
theorem Zed {args:List W} {h h':Go.Ev.H} {v:V} (e:Zre args h=some (v,h')):Zg 137 args h v h':=by
 unfold Zre at e
 split at e
 ·rename_i s
  obtain⟨S,hs,e⟩:=Zo e
  have hs:=Jc hs
  obtain⟨G,hg,e⟩:=Zo e
  obtain⟨hg,fb⟩:=J4 hg
  cases e
  refine fnG Hh Tryz.f137 ?_
  repeat (first|apply Zk|apply Z0|((first|apply Goes.Zi|apply Goes.ops2 fits Hh (EY Za (Zky Hh))); · simp (maxSteps:=9^6) +decide (disch:=first|omega|(simp only[lens]<;>omega)|decide) only [go_sem,Zn,Zm,simprocAttr,hs,hg,gdL,fb]<;>rfl))
  exact Zc
 ·cases e
theorem Zln {args:List W} {h h':Go.Ev.H} {v:V} (e:Ztc args h=some (v,h')):Zg 139 args h v h':=by
 unfold Ztc at e
 split at e
 ·rename_i s
  obtain⟨S,hs,e⟩:=Zo e
  have hs:=Jc hs
  obtain⟨G,hg,e⟩:=Zo e
  obtain⟨hg,fb⟩:=J4 hg
  obtain⟨X,ht,e⟩:=Zo e
  have ht:=Y4 ht
  obtain⟨bo,e⟩:=Zu.1 e
  cases e
  refine fnG Hh Tryz.f139 ?_
  repeat (first|apply Zk|apply Zw|apply Z0|((first|apply Goes.Zi|apply Goes.ops2 fits Hh (EY (EY Za (Q0 Hh)) (Zco Hh))); · simp (maxSteps:=9^6) +decide (disch:=first|omega|(simp only[lens]<;>omega)|decide) only [go_sem,Zn,Zm,simprocAttr,hs,ht,hg,gdL,fb,bo]<;>rfl))
  exact Zc
 ·cases e
theorem Yb3 {h:Go.Ev.H} {p w:Nat} {ns:List Nat} (nl:ns.length=256) (hp:h.get p=some (.row 256 [pgL ns] false)) (hw:w<64):Zg 182 [.c (.ptr p 0),.c (.int .i64 (w:Int))] h (.w (.c (.int .i64 ((Yk ns (4 * w):Nat):Int)))) h:=by
 have e1:(4:Int) * (w:Int)=((4 * w:Nat):Int):=rfl
 have g4:=Zn2 ns (4 * w)
 have xl:(pgL ns).length=256:=by rw[Jy,nl]
 have xb:=Qu ns
 have u4:Yk (unN (pgL ns)) (4 * w)=Yk ns (4 * w):=by rw[Od,R6]
 have r5:read1 256 [pgL ns] 255=some (.int .u8 ((atN ns 255:Nat):Int)):=Zpm ⟨by omega,by omega⟩
 have rd:reaches 0 256 (some (.row 256 [pgL ns] false))=true:=by
  show (match read1 256 [pgL ns] 255 with|some _=>Nat.ble 1 256|none=>false)=true
  rw[r5]
  rfl
 obtain⟨Y,hY⟩:∃ Y,pgL ns=Y:=⟨_,rfl⟩
 obtain⟨z,hz⟩:∃ z,Yk ns (4 * w)=z:=⟨_,rfl⟩
 obtain⟨u,hu⟩:∃ u,4 * w=u:=⟨_,rfl⟩
 have ul:u+4≤256:=by omega
 rw[hY] at hp xl xb u4 rd
 rw[hz] at u4 g4 ⊢
 rw[hu] at u4 e1
 refine fnG Hh Tryz.f182 ?_
 have Jf:=M8 @e1 @hp @xl @xb @u4 @rd @Nat.zero_add
 repeat (first|apply Zk|apply Z0|refine Zq Hh (EY Za (Lh Hh)) Zap ?_)
 exact Zc
variable {n q a b c e:Nat} {cr:Cr} {md:Int} {S T:List Nat} {V:Nat→List Nat}
theorem Zz3 (f:Ym a b c e=true) {b0:Nat} {ws:List Nat} {s:C} (w0:Z7p a b c e V b0 ws) (w64:∀ w∈ws,w<64) (wl:ws.length≤8):∀ (k j:Nat) (ts:Zx) (h:Go.Ev.H),j+k=ws.length→HE n q a b c e cr md S T V h→SlI h s ws→(∀ p o n z,s=.slice p o n z→q+9≤p∧p<h.next)→Zh ts 0=.w (.c (.ptr (n+13) 0))→Zh ts 33=.w (.c s)→Zh ts 34=.w (.c (.int .i64 (ws.length:Nat)))→Zh ts 35=.w (.c (.int .i64 (j:Nat)))→Zh ts 11=.w (.c (.int .i64 (Qa V b0 (ws.take j):Nat))) →
  Ye 54 none (q135 [1,1,1,1,1,0,1,2]) [] ts h fun x ds' ts' h'=>x=.exit 0∧ds'=[]∧HE n q a b c e cr md S T V h'∧Kr n q h h'∧Zh ts' 11=.w (.c (.int .i64 (Qa V b0 ws:Nat))):=by
 obtain⟨g1,g2,g3,g4,g5,g6,g7,g8,g9,g10,g11⟩:=Zv f
 intro k
 induction k with
 | zero =>
  intro j ts h hj M sl sb t0 t33 t34 t35 t11
  obtain rfl:j=ws.length:=by omega
  rw[List.take_length] at t11
  have dl:decide ((ws.length:Int)<(ws.length:Int))=false:=decide_eq_false (by omega)
  have Jf:=Jb @t34 @t35 @dl
  iterate 6 (first|apply Zk|apply Ux|apply Je|refine Goes.Zi Zj ?_|refine Zq Hh Za Zj ?_)
  refine⟨rfl,rfl,M,⟨Nat.le_refl _,fun _ _ _=>rfl⟩,?_⟩
  simp (maxSteps:=9^6) +decide (disch:=first|omega|(simp only[lens]<;>omega)|decide) only [go_sem,Zn,Zm,simprocAttr,t11]
 | succ k ih =>
  intro j ts h hj M sl sb t0 t33 t34 t35 t11
  have jl:j<ws.length:=by omega
  obtain⟨w,hw⟩:∃ w,ws[j]? = some w:=⟨_,List.getElem?_eq_getElem jl⟩
  have w6:=w64 w (List.mem_of_getElem? hw)
  have tk:ws.take (j+1)=ws.take j++[w]:=by rw[List.take_add_one,hw]; rfl
  have sn:=Zwr V b0 (ws.take j) w
  rw[←tk] at sn
  have rd:=rdI hw
  have dl:decide ((j:Int)<(ws.length:Int))=true:=decide_eq_true (by omega)
  have wo:=w0 j jl
  have sl0:=sl
  obtain⟨e0,_⟩|⟨p,_,rfl,hp⟩:=sl
  ·rw[e0] at jl; simp at jl
  have pb:=sb _ _ _ _ rfl
  have lf:=Z3f
  have t33':=t33
  have t34':=t34
  obtain⟨nq,nx,n0⟩:=M.nx
  obtain⟨N,hN⟩:∃ N,ws.length=N:=⟨_,rfl⟩
  obtain⟨R,hR⟩:∃ R,rwI ws=R:=⟨_,rfl⟩
  rw[hN] at t33' t34' dl jl
  rw[hR] at hp rd
  by_cases b0':Qa V b0 (ws.take j)=0
  ·rw[b0'] at t11
   have all0:Qa V b0 ws=0:=by
    have:ws=ws.take j++ws.drop j:=(List.take_append_drop j ws).symm
    rw[this]
    unfold Qa at b0' ⊢
    rw[List.foldl_append,b0']
    exact Zj8 V _
   have ez:(((0:Nat):Int) == 0)=true:=rfl
   rw[all0]
   have Jf:=Yu @t33' @t34' @t35 @t11 @dl @lf @hp @rd @ez
   iterate 15 (first|apply Zk|apply Zw|apply Wn|apply Ux|apply Je|refine Goes.Zi Zj ?_|refine Zq Hh Za Zj ?_)
   show _∧_∧_
   refine⟨rfl,rfl,M,⟨Nat.le_refl _,fun _ _ _=>rfl⟩,?_⟩
   exact Zj
  ·obtain⟨ob,bl⟩:=wo b0'
   have e1:Qa V b0 (ws.take (j+1))=Yk (V (Qa V b0 (ws.take j))) (4 * w):=by rw[sn]; exact if_neg b0'
   obtain⟨B,hB⟩:∃ B,Qa V b0 (ws.take j)=B:=⟨_,rfl⟩
   rw[hB] at t11 ob bl e1 b0'
   have ez:((B:Int) == 0)=false:=Ee (by omega)
   obtain⟨hG,eG,MG,nG,rG⟩:=M.get f ob bl
   have c11:=Dq Hh eG
   have vl:=M.len ob bl
   have Yl:(pgL (V B)).length=256:=by rw[Jy,vl]
   have cP:=fun {h:Go.Ev.H} {p:Nat} (hp:h.get p=some (.row 256 [pgL (V B)] false))=>Yb3 Hh vl hp w6
   obtain⟨z,hz⟩:∃ z,Yk (V B) (4 * w)=z:=⟨_,rfl⟩
   obtain⟨Y,hY⟩:∃ Y,pgL (V B)=Y:=⟨_,rfl⟩
   rw[hY] at c11 Yl
   simp only[hz,hY] at cP
   rw[hz] at e1
   have Jf:=Jb @t0 @t33' (Yu @t34' @t35 @t11 @dl @lf @hp @rd @ez @Yl)
   iterate 16 (first|apply Zk|apply Zw|apply Yt|apply Je|refine Goes.Zi Z5 ?_|refine Zq Hh Za Z5 ?_)
   iterate 6 (first|apply Zk|apply Zw|refine Goes.Zi Z5 ?_|refine Zq Hh (Zp Za c11) Z5 ?_)
   refine Uc fun hA eA=>?_
   have nA:hA.next=h.next+1:=by rw[eA]; simp only[H.Zd,H.Zb,nG]
   have kA:∀ m,m<h.next→m≠n+6→hA.get m=h.get m:=fun m hm hne=>by rw[eA]; refine Eq.trans ?_ (rG m hm hne); exact Yc
   have bA:hA.get h.next=some (.row 256 [Y] false):=by rw[eA,←nG]; exact Z5
   have MA:=MG.keep (h2:=hA) (by omega) (fun m hm=>by rw[eA]; exact Yc)
   clear eA
   have c14:=cP bA
   rw[←nG] at c14
   iterate 2 (refine Zq Hh (Zp Za c14) Z5 ?_)
   show Ye 54 none (q135 [1,1,1,1,1,0,1,2]) _ _ _ _
   refine (ih (j+1) _ hA (by omega) MA (sl0.keep fun p' o n' z e=>by cases e; exact kA p (by omega) (by omega)) (fun p' o n' z e=>by cases e; exact⟨pb.1,by omega⟩) ?_ ?_ ?_ ?_ ?_).mono ?_
   ·have Jf:=@t0; exact Zj
   ·have Jf:=@t33; exact Zj
   ·have Jf:=@t34; exact Zj
   ·exact Zc
   ·rw[e1]; exact Zc
   rintro x' ds' ts' h' ⟨w1,w2,w3,w4,w5⟩
   exact⟨w1,w2,w3,⟨by have:=w4.1; omega,fun m hm hne=>(w4.2 m (by omega) hne).trans (kA m hm hne)⟩,w5⟩
end
structure InoP (x:List C) (P:Nat→Nat):Prop where
 xl:x.length=16
 pt:∀ i,i<11→x[4+i]? = some (.int .u32 (P i:Nat))
 pb:∀ i,i<11→P i<4294967296
theorem InoP.rd {x:List C} {P:Nat→Nat} (X:InoP x P) {i:Nat} (hi:i<11):read1 16 [x] (4+i)=some (.int .u32 (P i:Nat)):=by
 have:=Md (L:=[x]) (sz:=16) (i:=0) (j:=4+i) (by omega) rfl
 rw[Nat.zero_mul,Nat.zero_add] at this
 rw[this]
 exact X.pt i hi
def Zay (V:Nat→List Nat) (P:Nat→Nat) (i:Nat):Nat:=Qa V (P (Y9 i).1) (Y9 i).2
theorem Zun (i:Nat):(Y9 i).2.length≤8:=by
 unfold Y9
 split
 ·exact (by omega:0≤8)
 ·split
  ·exact (by omega:1≤8)
  ·exact (by omega:2≤8)
section
variable (Hh:Hearts K Tryz.prog)
include Hh
variable {n q a b c e:Nat} {cr:Cr} {md:Int} {S T:List Nat} {V:Nat→List Nat} {h:Go.Ev.H}
theorem Z5u (f:Ym a b c e=true) (m0:md≠0) (M:HE n q a b c e cr md S T V h) {x:List C} {P:Nat→Nat} (X:InoP x P) {i:Nat} (hi:i<36) (w0:Z7p a b c e V (P (Y9 i).1) (Y9 i).2) :
  ∃ h',Zg 135 [.c (.ptr (n+13) 0),.g x,.c (.int .i64 (i:Int))] h (.tup [.c (.int .i64 (Zay V P i:Nat)),.c (.int .i64 0)]) h'∧HE n q a b c e cr md S T V h'∧Kr n q h h':=by
 obtain⟨nq,nx,n0⟩:=M.nx
 obtain⟨st,⟨kn,hs⟩,⟨dk,gl⟩,ht⟩:=M.cells
 unfold gdL gdD at gl
 have dm:(md != 0)=true:=Mr m0
 obtain⟨p11,w6⟩:=Zz8 hi
 have xl:=X.xl
 have rx:=X.rd p11
 have pb:=X.pb _ p11
 have wl:=Zun i
 unfold Zay
 obtain⟨ws,hws⟩:∃ ws,(Y9 i).2=ws:=⟨_,rfl⟩
 have hO:=fun {h:Go.Ev.H} (h0:0<h.next)=>Z9t Hh hi (h:=h) h0
 obtain⟨pk,hpk⟩:∃ pk,(Y9 i).1=pk:=⟨_,rfl⟩
 simp only[hws,hpk] at hO w0 w6 p11 rx pb wl ⊢
 obtain⟨b0,hb0⟩:∃ b0,P pk=b0:=⟨_,rfl⟩
 rw[hb0] at rx pb w0 ⊢
 have lp:=fun s=>Zz3 Hh (n:=n) (q:=q) (cr:=cr) (md:=md) (S:=S) (T:=T) (s:=s) f w0 w6 wl ws.length 0
 refine Ou ?_
 refine Yg Hh Tryz.f135 ?_
 have Jf:=U1 @f @hs @gl @dm @xl
 iterate 8 (first|apply Zk|apply Zw|refine Goes.Zi Yb ?_|refine Zq Hh (EY Za (Zed Hh)) Yb ?_)
 refine Uc fun hA eA=>?_
 have nA:hA.next=h.next+1:=by rw[eA]; simp only[H.Zd,H.Zb]
 have kA:∀ m,m<h.next→hA.get m=h.get m:=fun m hm=>by rw[eA]; exact Yc
 have bA:hA.get h.next=some (.row 16 [x] false):=by rw[eA]; exact Z5
 clear eA
 obtain⟨hB,s,c3,nB,kB,sB,lB⟩:=hO (h:=hA) (by omega)
 have bB:=(kB h.next (by omega)).trans bA
 have MB:=M.keep (h2:=hB) (by omega) (fun m hm=>(kB m (by omega)).trans (kA m (by omega)))
 obtain⟨lf,ln⟩:=Z84 sB
 have Jf:=M8 Jf @bB @rx @pb @p11 @lf @ln
 iterate 12 (first|apply Zk|apply Zw|apply Yt|refine Goes.Zi Yb ?_|refine Zq Hh (Zp Za c3) Yb ?_)
 refine (lp s _ hB (by omega) MB sB (fun p o n z e=>⟨by have:=(lB p o n z e).1; omega,(lB p o n z e).2⟩) ?_ ?_ ?_ ?_ ?_).mono ?_
 ·exact Zc
 ·exact Zc
 ·exact Zc
 ·exact Zc
 ·exact Zc
 rintro x1 ds1 ts1 h1 ⟨rfl,rfl,M1,k1,t11⟩
 have Jf:=@t11
 iterate 3 (first|apply Zk|apply Z0|refine Zq Hh Za Zj ?_)
 exact⟨_,_,Zj,rfl,M1,⟨by have:=k1.1; omega,fun m hm hne=>(k1.2 m (by omega) hne).trans ((kB m (by omega)).trans (kA m hm))⟩⟩
end
end Go.Proofs.YtecakmodlkbnaaaGreatDoor
