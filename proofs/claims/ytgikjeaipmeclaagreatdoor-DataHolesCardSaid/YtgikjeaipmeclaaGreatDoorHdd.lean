/- A store in whose handle calls read and put: what is seen of each block; the blocks that may be put. n: where the store began; q: where Begin began. -/
import Derived.Test.YtgikjeaipmeclaaGreatDoorHba
import Derived.Test.YtgikjeaipmeclaaGreatDoorPag
set_option linter.unusedSimpArgs false
set_option linter.unusedVariables false
set_option linter.unusedSectionVars false
set_option maxRecDepth 100000
set_option maxHeartbeats 4000000
namespace Go.Proofs.YtgikjeaipmeclaaGreatDoor
open Go.Ev
structure Cr where
 c:Int
 r:Int
def txC (n q:Nat) (cr:Cr):Tx:=⟨n+15,n+16,n+17,n+19,1,true,cr.c,cr.r,.map (q+2),.map (q+6),.map (q+7),.map (q+8),.ptr (q+5) 0⟩
def gdD (n d a b c e:Nat) (md:Int):Gd:=⟨a,b,c,e,md,d,n+8,n+9,n+11⟩
def ckD (n d:Nat):Ck:=⟨d,n+6,n+7⟩
structure Hv (n d d1 d2 q a b c e:Nat) (cr:Cr) (md:Int) (kn:Bool) (ld lt lc lm:G6) (L:List (List C)) (h:Go.Ev.H):Prop where
 st:h.get 0=some Oh
 n0:0<n
 nq:n+23≤q
 nx:q+9≤h.next
 l1:d<n+5
 l2:d2<n+5
 ht:h.get (n+20)=some (.row 13 [txL (txC n q cr)] false)
 hg:h.get (n+12)=some (.row 9 [gdL (gdD n d a b c e md)] false)
 hc:h.get (n+8)=some (.row 3 [ckL (ckD n d)] false)
 hd:h.get d=some (.row 6 [dkL ⟨d1,d2,2+e+a * b,.snil,0,0⟩] false)
 hq:h.get d2=some (.row 256 L false)
 hli:h.get (n+11)=some (.row 8 [[.bool true,.int .i64 (a:Int),.int .i64 (b:Int),.int .i64 (c:Int),.int .i64 (e:Int),.bool false,.int .u32 0,.snil]] false)
 hgv:h.get (q+1)=some (.map [])
 hfr:h.get (n+17)=some (.map [])
 hod:h.get (n+16)=some (.map [])
 hrv:h.get (n+19)=some (.row 1 [[.map (n+18)]] false)
 hrc:h.get (n+18)=some (.map [])
 hdt:h.get q=some (.map (Jv ld))
 hv6:h.get (q+6)=some (.map [])
 hm:h.get (n+6)=some (.map (Jv lm))
 hs:h.get (n+13)=some (.row 8 [stL (stG n q kn)] false)
 hto:h.get (q+2)=some (.map (Jv lt))
 hch:h.get (n+15)=some (.map (Jv lc))
def Out (n q m:Nat):Prop:=Off n q m∧m≠q
def Atd (ld lc:G6) (L:List (List C)) (z:Nat) (x:List C):Prop:=Y6 (z:Int) ld=some (.int .i64 (z:Int) :: x)∨Y6 (z:Int) ld=none∧At lc L z x
def Zf0:G6→Bool
 | []=>true
 | (k,_) :: l=>(Y6 k l).isNone&&Zf0 l
theorem Zk1 {k:Int} {x:List C}:∀ {l:G6},Zf0 l=true→Zf0 (Oc k x l)=true
 | [],_=>rfl
 | (j,y) :: l,h=>by
  have h':((Y6 j l).isNone&&Zf0 l)=true:=h
  rw[Bool.and_eq_true] at h'
  show Zf0 (bif k == j then (k,x) :: l else (j,y) :: Oc k x l)=true
  by_cases e:k=j
  ·subst e
   rw[Nn rfl]
   exact h
  ·rw[Dx e]
   show ((Y6 j (Oc k x l)).isNone&&Zf0 (Oc k x l))=true
   rw[Br,if_neg (Ne.symm e),h'.1,Zk1 h'.2]
   rfl
theorem Zgg:∀ {l:G6} {S:List Nat},Zf0 l=true→(∀ z y,Y6 z l=some y→∃ k∈S,z=(k:Nat))→l.length≤S.length
 | [],S,_,_=>Nat.zero_le _
 | (j,y) :: l,S,hu,hs=>by
  have h':((Y6 j l).isNone&&Zf0 l)=true:=hu
  rw[Bool.and_eq_true] at h'
  have jn:Y6 j l=none:=by simpa using h'.1
  obtain⟨k,hk,rfl⟩:=hs j y (by show (bif j == j then some y else Y6 j l)=some y; rw[Nn rfl]; rfl)
  have hr:∀ z y',Y6 z l=some y'→∃ k'∈S.erase k,z=(k':Nat):=fun z y' hz=>by
   have ne:z≠(k:Int):=fun q=>by rw[q,jn] at hz; cases hz
   obtain⟨k',hk',e⟩:=hs z y' (by show (bif z == (k:Int) then some y else Y6 z l)=some y'; rw[Dx ne]; exact hz)
   exact⟨k',(List.mem_erase_of_ne (by omega)).2 hk',e⟩
  have:=Zgg h'.2 hr
  rw[List.length_erase_of_mem hk] at this
  have:0<S.length:=List.length_pos_of_mem hk
  rw[List.length_cons]
  omega
theorem Zte {l:G6} {S:List Nat} {z:Nat} (hu:Zf0 l=true) (hs:∀ z y,Y6 z l=some y→∃ k∈S,z=(k:Nat)) (hz:z∈S) (hn:Y6 (z:Int) l=none):l.length+1≤S.length:=by
 have hr:∀ z' y',Y6 z' l=some y'→∃ k'∈S.erase z,z'=(k':Nat):=fun z' y' h=>by
  obtain⟨k',hk',e⟩:=hs z' y' h
  subst e
  have ne:k'≠z:=fun q=>by rw[q,hn] at h; cases h
  exact⟨k',(List.mem_erase_of_ne ne).2 hk',rfl⟩
 have:=Zgg hu hr
 rw[List.length_erase_of_mem hz] at this
 have:0<S.length:=List.length_pos_of_mem hz
 omega
def Gn (V:Nat→List Nat) (z:Nat) (x:List Nat):Nat→List Nat:=fun y=>if y=z then x else V y
theorem Em (V:Nat→List Nat) (z:Nat) (x:List Nat):Gn V z x z=x:=if_pos rfl
theorem Oo {V:Nat→List Nat} {z y:Nat} {x:List Nat} (h:y≠z):Gn V z x y=V y:=if_neg h
def HE (n q a b c e:Nat) (cr:Cr) (md:Int) (S T:List Nat) (V:Nat→List Nat) (h:Go.Ev.H):Prop:=∃ d d1 d2 kn ld lt lc lm L,O1 lm=true∧Seen lm L∧O1 lt=true∧O1 lc=true∧O1 ld=true∧Zp8 lt∧Zf0 lt=true∧(∀ z y,Y6 z lt=some y→∃ k∈S,z=(k:Nat))∧(S.length:Int)≤cr.c∧(∀ z y,Y6 z ld=some y→∃ k∈T,z=(k:Nat))∧(∀ z,z<2+e+a * b→O6 a b c e (z:Int)=true→(V z).length=256∧Atd ld lc L z (pgL (V z)))∧Hv n d d1 d2 q a b c e cr md kn ld lt lc lm L h
section
variable {n d d1 d2 q a b c e:Nat} {cr:Cr} {md:Int} {kn:Bool} {ld lt lc lm lm':G6} {L:List (List C)} {h h2:Go.Ev.H} {S T:List Nat} {V:Nat→List Nat}
theorem Hv.keep (M:Hv n d d1 d2 q a b c e cr md kn ld lt lc lm L h) (hx:h.next≤h2.next) (k:∀ m,m<q+9→h2.get m=h.get m):Hv n d d1 d2 q a b c e cr md kn ld lt lc lm L h2:=by
 obtain⟨f1,f2,f3,f4,l1,l2,f5,f6,f7,f8,f9,f10,f11,f12,f13,f14,f15,f16,f17,f18,f19,f20,f21⟩:=M
 refine⟨?_,f2,f3,by omega,l1,l2,?_,?_,?_,?_,?_,?_,?_,?_,?_,?_,?_,?_,?_,?_,?_,?_,?_⟩
 all_goals (rw[k _ (by omega)]; assumption)
theorem HE.keep (M:HE n q a b c e cr md S T V h) (hx:h.next≤h2.next) (k:∀ m,m<q+9→h2.get m=h.get m):HE n q a b c e cr md S T V h2:=by
 obtain⟨d,d1,d2,kn,ld,lt,lc,lm,L,f1,f2,f3,f4,f5,f6,f7,f8,f9,f10,f11,M⟩:=M
 exact⟨d,d1,d2,kn,ld,lt,lc,lm,L,f1,f2,f3,f4,f5,f6,f7,f8,f9,f10,f11,M.keep hx k⟩
theorem HE.nx (M:HE n q a b c e cr md S T V h):n+23≤q∧q+9≤h.next∧0<n:=by
 obtain⟨d,d1,d2,kn,ld,lt,lc,lm,L,f1,f2,f3,f4,f5,f6,f7,f8,f9,f10,f11,M⟩:=M
 exact⟨M.nq,M.nx,M.n0⟩
theorem HE.cells (M:HE n q a b c e cr md S T V h):h.get 0=some Oh∧(∃ kn,h.get (n+13)=some (.row 8 [stL (stG n q kn)] false))∧(∃ d,h.get (n+12)=some (.row 9 [gdL (gdD n d a b c e md)] false))∧h.get (n+20)=some (.row 13 [txL (txC n q cr)] false):=by
 obtain⟨d,d1,d2,kn,ld,lt,lc,lm,L,f1,f2,f3,f4,f5,f6,f7,f8,f9,f10,f11,M⟩:=M
 exact⟨M.st,⟨kn,M.hs⟩,⟨d,M.hg⟩,M.ht⟩
theorem HE.len (M:HE n q a b c e cr md S T V h) {z:Nat} (hz:O6 a b c e (z:Int)=true) (z1:z<2+e+a * b):(V z).length=256:=by
 obtain⟨d,d1,d2,kn,ld,lt,lc,lm,L,f1,f2,f3,f4,f5,f6,f7,f8,f9,f10,f11,M⟩:=M
 exact (f11 z z1 hz).1
theorem HE.grow (M:HE n q a b c e cr md S T V h) {S':List Nat} (s:∀ k∈S,k∈S') (l:(S'.length:Int)≤cr.c):HE n q a b c e cr md S' T V h:=by
 obtain⟨d,d1,d2,kn,ld,lt,lc,lm,L,f1,f2,f3,f4,f5,f6,f7,f8,f9,f10,f11,M⟩:=M
 exact⟨d,d1,d2,kn,ld,lt,lc,lm,L,f1,f2,f3,f4,f5,f6,f7,fun z y hz=>by obtain⟨k,hk,e⟩:=f8 z y hz; exact⟨k,s k hk,e⟩,l,f10,f11,M⟩
def Kr (n q:Nat) (h h':Go.Ev.H):Prop:=h.next≤h'.next∧∀ m,m<h.next→m≠n+6→h'.get m=h.get m
def Kp (n q:Nat) (h h':Go.Ev.H):Prop:=h.next≤h'.next∧∀ m,m<h.next→Out n q m→h'.get m=h.get m
theorem Kr.kp {n q:Nat} {h h':Go.Ev.H} (r:Kr n q h h'):Kp n q h h':=⟨r.1,fun m hm o=>r.2 m hm o.1.1⟩
theorem Kp.refl (n q:Nat) (h:Go.Ev.H):Kp n q h h:=⟨Nat.le_refl _,fun _ _ _=>rfl⟩
theorem Kp.then {n q:Nat} {h h' h2:Go.Ev.H} (r:Kp n q h h') (r2:Kp n q h' h2):Kp n q h h2:=⟨Nat.le_trans r.1 r2.1,fun m hm o=>(r2.2 m (Nat.lt_of_lt_of_le hm r.1) o).trans (r.2 m hm o)⟩
theorem Kp.of {n q:Nat} {h h':Go.Ev.H} (hx:h.next≤h'.next) (k:∀ m,m<h.next→h'.get m=h.get m):Kp n q h h':=⟨hx,fun m hm _=>k m hm⟩
theorem HE.get (M:HE n q a b c e cr md S T V h) (fb:Y4 a b c e=true) {z:Nat} (hz:O6 a b c e (z:Int)=true) (z1:z<2+e+a * b) :
  ∃ h',Zch [.c (.ptr (n+13) 0),.c (.int .i64 (z:Int))] h=some (.tup [.g (pgL (V z)),.c (.int .i64 0)],h')∧HE n q a b c e cr md S T V h'∧h'.next=h.next∧∀ m,m<h.next→m≠n+6→h'.get m=h.get m:=by
 obtain⟨d,d1,d2,kn,ld,lt,lc,lm,L,fl,sn,t3,t4,t5,t6,t7,t8,t9,tT,see,M⟩:=M
 have MM:=M
 obtain⟨g1,g2,g3,g4,g5,g6,g7,g8,g9,g10,g11⟩:=Yk fb
 obtain⟨f1,f2,f3,f4,l1,l2,f5,f6,f7,f8,f9,f10,f11,f12,f13,f14,f15,f16,f17,f18,f19,f20,f21⟩:=M
 obtain⟨nl,at0⟩:=see z z1 hz
 have xl:(pgL (V z)).length=256:=by rw[Ug,nl]
 have xf:=Vs (V z)
 have back:∀ {h2:Go.Ev.H},h2=h→HE n q a b c e cr md S T V h2:=fun q=>by subst q; exact⟨d,d1,d2,kn,ld,lt,lc,lm,L,fl,sn,t3,t4,t5,t6,t7,t8,t9,tT,see,MM⟩
 obtain⟨x,hx⟩:∃ x,pgL (V z)=x:=⟨_,rfl⟩
 rw[hx] at at0 xl xf ⊢
 have ld0:∀ z,Y6 z []=none:=fun _=>rfl
 have e0:Tp []=some []:=rfl
 obtain⟨N,hN⟩:∃ N,2+e+a * b=N:=⟨_,rfl⟩
 rw[hN] at f8 z1
 rcases at0 with hl|⟨hd,hl|⟨hl,hx⟩⟩
 ·have yl:(C.int .i64 (z:Int) :: x).length=257:=by rw[List.length_cons,xl]
  have yf:(C.int .i64 (z:Int) :: x).all C.flat=true:=by rw[List.all_cons,xf]; rfl
  have yt:(C.int .i64 (z:Int) :: x).drop 1=x:=rfl
  obtain⟨y,hy⟩:∃ y,C.int .i64 (z:Int) :: x=y:=⟨_,rfl⟩
  rw[hy] at hl yl yf yt
  exact⟨h,by unfold Zch Lu; simp (maxSteps:=9^6) +decide (disch:=first|omega|(simp only[lens]<;>omega)|decide) only [go_sem,Zb,Za,simprocAttr,f19,stG,f5,txC,f6,gdL,gdD,f16,f21,f18,fb,hz,hl,yl,yf,yt]<;>rfl,back rfl,rfl,fun _ _ _=>rfl⟩
 ·exact⟨h,by unfold Zch Lu; simp (maxSteps:=9^6) +decide (disch:=first|omega|(simp only[lens]<;>omega)|decide) only [go_sem,Zb,Za,simprocAttr,f19,stG,f5,txC,f6,gdL,gdD,f16,f21,f18,fb,hz,hd,hl,xl,xf,e0]<;>rfl,back rfl,rfl,fun _ _ _=>rfl⟩
 ·rcases hl2:Y6 (z:Int) lm with _|y
  ·refine⟨h.put (n+6) (.map (Jv (Oc (z:Int) (x++[.bool false]) lm))),by unfold Zch Lu R8; simp (maxSteps:=9^6) +decide (disch:=first|omega|(simp only[lens]<;>omega)|decide) only [go_sem,Zb,Za,simprocAttr,f19,stG,f5,txC,f6,gdL,gdD,f7,ckD,f8,f9,f10,f16,f21,f18,fb,hz,hd,hl,hl2,fl,hx,xl,xf,ld0,e0,Int.toNat_natCast]<;>rfl,⟨d,d1,d2,kn,ld,lt,lc,_,L,Ux (by rw[List.all_append,xf]; rfl) fl,sn.upd hx,t3,t4,t5,t6,t7,t8,t9,tT,see,?_⟩,rfl,fun m _ hm=>Zp hm⟩
   obtain⟨f1,f2,f3,f4,l1,l2,f5,f6,f7,f8,f9,f10,f11,f12,f13,f14,f15,f16,f17,f18,f19,f20,f21⟩:=MM
   refine⟨?_,f2,f3,f4,l1,l2,?_,?_,?_,?_,?_,?_,?_,?_,?_,?_,?_,?_,?_,Z8 ..,?_,?_,?_⟩
   all_goals (rw[Zp (by omega)]; assumption)
  ·obtain⟨x',hx',rfl⟩:=sn z y hl2
   rw[hx] at hx'
   cases hx'
   have yl:(x++[C.bool false]).length=257:=by rw[List.length_append,xl]; rfl
   have yf:(x++[C.bool false]).all C.flat=true:=by rw[List.all_append,xf]; rfl
   have yt:(x++[C.bool false]).take 256=x:=by rw[←xl,List.take_left']; rfl
   obtain⟨y,hy⟩:∃ y,x++[C.bool false]=y:=⟨_,rfl⟩
   rw[hy] at hl2 yl yf yt
   exact⟨h,by unfold Zch Lu R8; simp (maxSteps:=9^6) +decide (disch:=first|omega|(simp only[lens]<;>omega)|decide) only [go_sem,Zb,Za,simprocAttr,f19,stG,f5,txC,f6,gdL,gdD,f7,ckD,f8,f9,f10,f16,f21,f18,fb,hz,hd,hl,hl2,yl,yf,yt,ld0,e0]<;>rfl,back rfl,rfl,fun _ _ _=>rfl⟩
theorem HE.put (M:HE n q a b c e cr md S T V h) (fb:Y4 a b c e=true) {z:Nat} (hz:O6 a b c e (z:Int)=true) (z1:z<2+e+a * b) {ns:List Nat} (nl:ns.length=256) (zs:z∈S) (zt:z ∉ T) :
  ∃ h',Zgt [.c (.ptr (n+13) 0),.c (.int .i64 (z:Int)),.g (pgL ns)] h=some (.w (.c (.int .i64 0)),h')∧HE n q a b c e cr md S T (Gn V z ns) h'∧h'.next=h.next∧∀ m,Off n q m→h'.get m=h.get m:=by
 obtain⟨d,d1,d2,kn,ld,lt,lc,lm,L,fl,sn,ft,fc,t5,vt,t7,t8,t9,tT,see,M⟩:=M
 have MM:=M
 have hd:Y6 (z:Int) ld=none:=by
  rcases hl:Y6 (z:Int) ld with _|y
  ·rfl
  ·obtain⟨k,hk,e⟩:=tT _ _ hl
   obtain rfl:z=k:=by omega
   exact absurd hk zt
 obtain⟨g1,g2,g3,g4,g5,g6,g7,g8,g9,g10,g11⟩:=Yk fb
 obtain⟨f1,f2,f3,f4,l1,l2,f5,f6,f7,f8,f9,f10,f11,f12,f13,f14,f15,f16,f17,f18,f19,f20,f21⟩:=M
 have xl:(pgL ns).length=256:=by rw[Ug,nl]
 have xf:=Vs ns
 have fn:O1 []=true:=rfl
 have dn:Jv (Zco (z:Int) [])=[]:=rfl
 have e1:Zgt [.c (.ptr (n+13) 0),.c (.int .i64 (z:Int)),.g (pgL ns)] h=some (.w (.c (.int .i64 0)),Zq6 n q (Oc (z:Int) [] lt) (Oc (z:Int) (pgL ns) lc) h):=by
  obtain⟨x,hx⟩:∃ x,pgL ns=x:=⟨_,rfl⟩
  rw[hx] at xl xf ⊢
  unfold Zgt Za7 Zew
  rcases hl:Y6 (z:Int) lt with _|y
  ·have:=Zte t7 t8 zs hl
   have tl':decide (((lt.length:Nat):Int)<cr.c)=true:=decide_eq_true (by omega)
   simp (maxSteps:=9^6) +decide (disch:=first|omega|(simp only[lens]<;>omega)|decide) only [go_sem,Zb,Za,simprocAttr,f19,stG,f5,txC,f6,gdL,gdD,f16,f11,f20,f21,f12,f14,f15,fb,hz,xl,xf,ft,fc,fn,hl,tl',dn,Zq6,C.flat]<;>rfl
  ·obtain rfl:=vt _ _ hl
   simp (maxSteps:=9^6) +decide (disch:=first|omega|(simp only[lens]<;>omega)|decide) only [go_sem,Zb,Za,simprocAttr,f19,stG,f5,txC,f6,gdL,gdD,f16,f11,f20,f21,f12,f14,f15,fb,hz,xl,xf,ft,fc,fn,hl,dn,Zq6,C.flat]<;>rfl
 refine⟨_,e1,⟨d,d1,d2,false,ld,Oc (z:Int) [] lt,Oc (z:Int) (pgL ns) lc,lm,L,fl,sn,Ux rfl ft,Ux xf fc,t5,vt.upd _,Zk1 t7,fun z' y hz'=>?_,t9,tT,fun z' z1' hz'=>?_,?_⟩,rfl,fun m o=>Zkf _ _ ⟨o.2.1,o.2.2.1,o.2.2.2.1,o.2.2.2.2⟩⟩
 ·rw[Br] at hz'
  split at hz'
  ·rename_i w
   exact⟨z,zs,w⟩
  ·exact t8 z' y hz'
 ·unfold Gn
  split
  ·rename_i w
   subst w
   exact⟨nl,.inr ⟨hd,At.put ..⟩⟩
  ·rename_i w
   obtain⟨q1,q2⟩:=see z' z1' hz'
   refine⟨q1,?_⟩
   rcases q2 with q2|⟨q2,q3⟩
   ·exact .inl q2
   ·exact .inr ⟨q2,q3.upd w⟩
 ·refine⟨?_,f2,f3,f4,l1,l2,?_,?_,?_,?_,?_,?_,?_,Z8 _ _ _,?_,?_,?_,?_,?_,?_,?_,?_,?_⟩
  all_goals (first|(rw[Zkf _ _ ⟨by omega,by omega,by omega,by omega⟩]; assumption)|(unfold Zq6; simp (discharger:=omega) only [H.get_put,if_neg,if_true]))
end
def Bi (md:Int) (T:List Nat) (z:Nat):List Nat:=if md=3 then T else z :: T
theorem Zua {md:Int} {T:List Nat} {z x:Nat} (h:x∈Bi md T z):x=z∨x∈T:=by
 unfold Bi at h
 split at h
 ·exact .inr h
 ·exact List.mem_cons.1 h
section
variable {n q a b c e:Nat} {cr:Cr} {md:Int} {h:Go.Ev.H} {S T:List Nat} {V:Nat→List Nat}
theorem HE.Z24 (M:HE n q a b c e cr md S T V h) (fb:Y4 a b c e=true) {z:Nat} (hz:O6 a b c e (z:Int)=true) (z1:z<2+e+a * b) {ns:List Nat} (nl:ns.length=256) (zs:z∈S) (zt:md=3→z ∉ T) :
  ∃ h',F6 [.c (.ptr (n+13) 0),.c (.int .i64 (z:Int)),.g (pgL ns)] h=some (.w (.c (.int .i64 0)),h')∧HE n q a b c e cr md S (Bi md T z) (Gn V z ns) h'∧h'.next=h.next∧∀ m,Out n q m→h'.get m=h.get m:=by
 have zd:decide ((z:Int)<9223372036854775808)=true:=by
  obtain⟨g1,g2,g3,g4,g5,g6,g7,g8,g9,g10,g11⟩:=Yk fb
  exact decide_eq_true (by omega)
 by_cases m3:md=3
 ·obtain⟨h',e1,M',nx,kk⟩:=M.put fb hz z1 nl zs (zt m3)
  have T':Bi md T z=T:=if_pos m3
  rw[T']
  refine⟨h',Eq.trans ?_ e1,M',nx,fun m o=>kk m o.1⟩
  obtain⟨d,d1,d2,kn,ld,lt,lc,lm,L,fl,sn,ft,fc,t5,vt,t7,t8,t9,tT,see,M⟩:=M
  obtain⟨f1,f2,f3,f4,l1,l2,f5,f6,f7,f8,f9,f10,f11,f12,f13,f14,f15,f16,f17,f18,f19,f20,f21⟩:=M
  subst m3
  unfold F6 Zgt
  simp (maxSteps:=9^6) +decide (disch:=first|omega|(simp only[lens]<;>omega)|decide) only [go_sem,Zb,Za,simprocAttr,f19,stG,f5,txC,f6,gdL,gdD,fb,zd]
 ·obtain⟨d,d1,d2,kn,ld,lt,lc,lm,L,fl,sn,ft,fc,t5,vt,t7,t8,t9,tT,see,M⟩:=M
  have MM:=M
  obtain⟨f1,f2,f3,f4,l1,l2,f5,f6,f7,f8,f9,f10,f11,f12,f13,f14,f15,f16,f17,f18,f19,f20,f21⟩:=M
  have xl:(pgL ns).length=256:=by rw[Ug,nl]
  have xf:=Vs ns
  have md3:decide (md=3)=false:=decide_eq_false m3
  have T':Bi md T z=z :: T:=if_neg m3
  rw[T']
  have e1:F6 [.c (.ptr (n+13) 0),.c (.int .i64 (z:Int)),.g (pgL ns)] h=some (.w (.c (.int .i64 0)),h.put q (.map (Jv (Oc (z:Int) (.int .i64 (z:Int) :: pgL ns) ld)))):=by
   obtain⟨x,hx⟩:∃ x,pgL ns=x:=⟨_,rfl⟩
   rw[hx] at xl xf ⊢
   unfold F6
   simp (maxSteps:=9^6) +decide (disch:=first|omega|(simp only[lens]<;>omega)|decide) only [go_sem,Zb,Za,simprocAttr,f19,stG,f5,txC,f6,gdL,gdD,f16,fb,hz,zd,md3,xl,xf,t5]<;>rfl
  refine⟨_,e1,⟨d,d1,d2,kn,Oc (z:Int) (.int .i64 (z:Int) :: pgL ns) ld,lt,lc,lm,L,fl,sn,ft,fc,Ux (by rw[List.all_cons,xf]; rfl) t5,vt,t7,t8,t9,fun z' y hz'=>?_,fun z' z1' hz'=>?_,?_⟩,rfl,fun m o=>Zp o.2⟩
  ·rw[Br] at hz'
   split at hz'
   ·rename_i w
    exact⟨z,by simp,w⟩
   ·obtain⟨k,hk,e⟩:=tT z' y hz'
    exact⟨k,by simp [hk],e⟩
  ·unfold Gn
   split
   ·rename_i w
    subst w
    exact⟨nl,.inl (by rw[Br,if_pos rfl])⟩
   ·rename_i w
    obtain⟨q1,q2⟩:=see z' z1' hz'
    refine⟨q1,?_⟩
    have lk:Y6 (z':Int) (Oc (z:Int) (.int .i64 (z:Int) :: pgL ns) ld)=Y6 (z':Int) ld:=by rw[Br,if_neg (by omega)]
    unfold Atd
    rw[lk]
    exact q2
  ·refine⟨?_,f2,f3,f4,l1,l2,?_,?_,?_,?_,?_,?_,?_,?_,?_,?_,?_,Z8 _ _ _,?_,?_,?_,?_,?_⟩
   all_goals (rw[Zp (by omega)]; assumption)
theorem HE.more (M:HE n q a b c e cr md S T V h) {T':List Nat} (s:∀ z∈T,z∈T'):HE n q a b c e cr md S T' V h:=by
 obtain⟨d,d1,d2,kn,ld,lt,lc,lm,L,f1,f2,f3,f4,f5,f6,f7,f8,f9,f10,f11,M⟩:=M
 exact⟨d,d1,d2,kn,ld,lt,lc,lm,L,f1,f2,f3,f4,f5,f6,f7,f8,f9,fun z y hz=>by obtain⟨k,hk,e⟩:=f10 z y hz; exact⟨k,s k hk,e⟩,f11,M⟩
end
end Go.Proofs.YtgikjeaipmeclaaGreatDoor
