/- A store in whose handle calls read and put: what is seen of each block; the blocks that may be put. n: where the store began; q: where Begin began. -/
import Derived.Test.YtdkcjalmhdofcaaGreatDoorHba
import Derived.Test.YtdkcjalmhdofcaaGreatDoorPag
import Derived.Test.YtdkcjalmhdofcaaGreatDoorNww
set_option linter.unusedSimpArgs false
set_option linter.unusedVariables false
set_option linter.unusedSectionVars false
set_option maxRecDepth 100000
set_option maxHeartbeats 4000000
namespace Go.Proofs.YtdkcjalmhdofcaaGreatDoor
open Go.Ev
def gdD (n d a b c e:Nat) (md:Int):Gd:=⟨a,b,c,e,md,d,n+8,n+9,n+11⟩
def ckD (n d:Nat):Ck:=⟨d,n+6,n+7⟩
structure Hv (n d d1 d2 q a b c e:Nat) (cr md:Int) (kn:Bool) (ld lt lc lm:Gt) (L:List (List C)) (h:Go.Ev.H):Prop where
 st:h.get 0=some Ul
 n0:0<n
 nq:n+23≤q
 nx:q+9≤h.next
 l1:d<n+5
 l2:d2<n+5
 ht:h.get (n+20)=some (.row 13 [txL (txG n q cr)] false)
 hg:h.get (n+12)=some (.row 9 [gdL (gdD n d a b c e md)] false)
 hc:h.get (n+8)=some (.row 3 [ckL (ckD n d)] false)
 hd:h.get d=some (.row 6 [dkL ⟨d1,d2,2+e+a * b,.snil,0,0⟩] false)
 hq:h.get d2=some (.row 256 L false)
 hli:h.get (n+11)=some (.row 8 [[.bool true,.int .i64 (a:Int),.int .i64 (b:Int),.int .i64 (c:Int),.int .i64 (e:Int),.bool false,.int .u32 0,.snil]] false)
 hgv:h.get (q+1)=some (.map [])
 hfr:h.get (n+17)=some (.map [])
 hod:h.get (n+16)=some (.map [])
 hrv:h.get (n+19)=some (.row 1 [[.map (n+18)]] false)
 hrc:h.get (n+18)=some (.map [])
 hdt:h.get q=some (.map (J9 ld))
 hv6:h.get (q+6)=some (.map [])
 hm:h.get (n+6)=some (.map (J9 lm))
 hs:h.get (n+13)=some (.row 8 [stL (stG n q kn)] false)
 hto:h.get (q+2)=some (.map (J9 lt))
 hch:h.get (n+15)=some (.map (J9 lc))
def Out (n q m:Nat):Prop:=Off n q m∧m≠q
def Atd (ld lc:Gt) (L:List (List C)) (z:Nat) (x:List C):Prop:=Y5 (z:Int) ld=some (.int .i64 (z:Int) :: x)∨Y5 (z:Int) ld=none∧At lc L z x
def Zf4:Gt→Bool
 | []=>true
 | (k,_) :: l=>(Y5 k l).isNone&&Zf4 l
theorem Zkq {k:Int} {x:List C}:∀ {l:Gt},Zf4 l=true→Zf4 (Gh k x l)=true
 | [],_=>rfl
 | (j,y) :: l,h=>by
  have h':((Y5 j l).isNone&&Zf4 l)=true:=h
  rw[Bool.and_eq_true] at h'
  show Zf4 (bif k == j then (k,x) :: l else (j,y) :: Gh k x l)=true
  by_cases e:k=j
  ·subst e
   rw[Q4 rfl]
   exact h
  ·rw[Va e]
   show ((Y5 j (Gh k x l)).isNone&&Zf4 (Gh k x l))=true
   rw[Lf,if_neg (Ne.symm e),h'.1,Zkq h'.2]
   rfl
theorem Zgq:∀ {l:Gt} {S:List Nat},Zf4 l=true→(∀ z y,Y5 z l=some y→∃ k∈S,z=(k:Nat))→l.length≤S.length
 | [],S,_,_=>Nat.zero_le _
 | (j,y) :: l,S,hu,hs=>by
  have h':((Y5 j l).isNone&&Zf4 l)=true:=hu
  rw[Bool.and_eq_true] at h'
  have jn:Y5 j l=none:=by simpa using h'.1
  obtain⟨k,hk,rfl⟩:=hs j y (by show (bif j == j then some y else Y5 j l)=some y; rw[Q4 rfl]; rfl)
  have hr:∀ z y',Y5 z l=some y'→∃ k'∈S.erase k,z=(k':Nat):=fun z y' hz=>by
   have ne:z≠(k:Int):=fun q=>by rw[q,jn] at hz; cases hz
   obtain⟨k',hk',e⟩:=hs z y' (by show (bif z == (k:Int) then some y else Y5 z l)=some y'; rw[Va ne]; exact hz)
   exact⟨k',(List.mem_erase_of_ne (by omega)).2 hk',e⟩
  have:=Zgq h'.2 hr
  rw[List.length_erase_of_mem hk] at this
  have:0<S.length:=List.length_pos_of_mem hk
  rw[List.length_cons]
  omega
theorem Zwf {l:Gt} {S:List Nat} {z:Nat} (hu:Zf4 l=true) (hs:∀ z y,Y5 z l=some y→∃ k∈S,z=(k:Nat)) (hz:z∈S) (hn:Y5 (z:Int) l=none):l.length+1≤S.length:=by
 have hr:∀ z' y',Y5 z' l=some y'→∃ k'∈S.erase z,z'=(k':Nat):=fun z' y' h=>by
  obtain⟨k',hk',e⟩:=hs z' y' h
  subst e
  have ne:k'≠z:=fun q=>by rw[q,hn] at h; cases h
  exact⟨k',(List.mem_erase_of_ne ne).2 hk',rfl⟩
 have:=Zgq hu hr
 rw[List.length_erase_of_mem hz] at this
 have:0<S.length:=List.length_pos_of_mem hz
 omega
def Gi (V:Nat→List Nat) (z:Nat) (x:List Nat):Nat→List Nat:=fun y=>if y=z then x else V y
theorem Fu (V:Nat→List Nat) (z:Nat) (x:List Nat):Gi V z x z=x:=if_pos rfl
theorem Gq {V:Nat→List Nat} {z y:Nat} {x:List Nat} (h:y≠z):Gi V z x y=V y:=if_neg h
def HE (n q a b c e:Nat) (cr md:Int) (S T:List Nat) (V:Nat→List Nat) (h:Go.Ev.H):Prop:=∃ d d1 d2 kn ld lt lc lm L,Oy lm=true∧Seen lm L∧Oy lt=true∧Oy lc=true∧Oy ld=true∧Zpm lt∧Zf4 lt=true∧(∀ z y,Y5 z lt=some y→∃ k∈S,z=(k:Nat))∧(S.length:Int)≤cr∧(∀ z y,Y5 z ld=some y→∃ k∈T,z=(k:Nat))∧(∀ z,z<2+e+a * b→Dj a b c e (z:Int)=true→(V z).length=256∧Atd ld lc L z (pgL (V z)))∧Hv n d d1 d2 q a b c e cr md kn ld lt lc lm L h
section
variable {n d d1 d2 q a b c e:Nat} {cr md:Int} {kn:Bool} {ld lt lc lm lm':Gt} {L:List (List C)} {h h2:Go.Ev.H} {S T:List Nat} {V:Nat→List Nat}
theorem Hv.keep (M:Hv n d d1 d2 q a b c e cr md kn ld lt lc lm L h) (hx:h.next≤h2.next) (k:∀ m,m<q+9→h2.get m=h.get m):Hv n d d1 d2 q a b c e cr md kn ld lt lc lm L h2:=by
 obtain⟨f1,f2,f3,f4,l1,l2,f5,f6,f7,f8,f9,f10,f11,f12,f13,f14,f15,f16,f17,f18,f19,f20,f21⟩:=M
 refine⟨?_,f2,f3,by omega,l1,l2,?_,?_,?_,?_,?_,?_,?_,?_,?_,?_,?_,?_,?_,?_,?_,?_,?_⟩
 all_goals (rw[k _ (by omega)]; assumption)
theorem HE.keep (M:HE n q a b c e cr md S T V h) (hx:h.next≤h2.next) (k:∀ m,m<q+9→h2.get m=h.get m):HE n q a b c e cr md S T V h2:=by
 obtain⟨d,d1,d2,kn,ld,lt,lc,lm,L,f1,f2,f3,f4,f5,f6,f7,f8,f9,f10,f11,M⟩:=M
 exact⟨d,d1,d2,kn,ld,lt,lc,lm,L,f1,f2,f3,f4,f5,f6,f7,f8,f9,f10,f11,M.keep hx k⟩
theorem HE.nx (M:HE n q a b c e cr md S T V h):n+23≤q∧q+9≤h.next∧0<n:=by
 obtain⟨d,d1,d2,kn,ld,lt,lc,lm,L,f1,f2,f3,f4,f5,f6,f7,f8,f9,f10,f11,M⟩:=M
 exact⟨M.nq,M.nx,M.n0⟩
theorem HE.cells (M:HE n q a b c e cr md S T V h):h.get 0=some Ul∧(∃ kn,h.get (n+13)=some (.row 8 [stL (stG n q kn)] false))∧(∃ d,h.get (n+12)=some (.row 9 [gdL (gdD n d a b c e md)] false))∧h.get (n+20)=some (.row 13 [txL (txG n q cr)] false):=by
 obtain⟨d,d1,d2,kn,ld,lt,lc,lm,L,f1,f2,f3,f4,f5,f6,f7,f8,f9,f10,f11,M⟩:=M
 exact⟨M.st,⟨kn,M.hs⟩,⟨d,M.hg⟩,M.ht⟩
theorem HE.len (M:HE n q a b c e cr md S T V h) {z:Nat} (hz:Dj a b c e (z:Int)=true) (z1:z<2+e+a * b):(V z).length=256:=by
 obtain⟨d,d1,d2,kn,ld,lt,lc,lm,L,f1,f2,f3,f4,f5,f6,f7,f8,f9,f10,f11,M⟩:=M
 exact (f11 z z1 hz).1
theorem HE.grow (M:HE n q a b c e cr md S T V h) {S':List Nat} (s:∀ k∈S,k∈S') (l:(S'.length:Int)≤cr):HE n q a b c e cr md S' T V h:=by
 obtain⟨d,d1,d2,kn,ld,lt,lc,lm,L,f1,f2,f3,f4,f5,f6,f7,f8,f9,f10,f11,M⟩:=M
 exact⟨d,d1,d2,kn,ld,lt,lc,lm,L,f1,f2,f3,f4,f5,f6,f7,fun z y hz=>by obtain⟨k,hk,e⟩:=f8 z y hz; exact⟨k,s k hk,e⟩,l,f10,f11,M⟩
def Kr (n q:Nat) (h h':Go.Ev.H):Prop:=h.next≤h'.next∧∀ m,m<h.next→m≠n+6→h'.get m=h.get m
def Kp (n q:Nat) (h h':Go.Ev.H):Prop:=h.next≤h'.next∧∀ m,m<h.next→Out n q m→h'.get m=h.get m
theorem Kr.kp {n q:Nat} {h h':Go.Ev.H} (r:Kr n q h h'):Kp n q h h':=⟨r.1,fun m hm o=>r.2 m hm o.1.1⟩
theorem Kp.refl (n q:Nat) (h:Go.Ev.H):Kp n q h h:=⟨Nat.le_refl _,fun _ _ _=>rfl⟩
theorem Kp.then {n q:Nat} {h h' h2:Go.Ev.H} (r:Kp n q h h') (r2:Kp n q h' h2):Kp n q h h2:=⟨Nat.le_trans r.1 r2.1,fun m hm o=>(r2.2 m (Nat.lt_of_lt_of_le hm r.1) o).trans (r.2 m hm o)⟩
theorem Kp.of {n q:Nat} {h h':Go.Ev.H} (hx:h.next≤h'.next) (k:∀ m,m<h.next→h'.get m=h.get m):Kp n q h h':=⟨hx,fun m hm _=>k m hm⟩
theorem HE.get (M:HE n q a b c e cr md S T V h) (fb:U4 a b c e=true) {z:Nat} (hz:Dj a b c e (z:Int)=true) (z1:z<2+e+a * b) :
  ∃ h',Zca [.c (.ptr (n+13) 0),.c (.int .i64 (z:Int))] h=some (.tup [.g (pgL (V z)),.c (.int .i64 0)],h')∧HE n q a b c e cr md S T V h'∧h'.next=h.next∧∀ m,m<h.next→m≠n+6→h'.get m=h.get m:=by
 obtain⟨d,d1,d2,kn,ld,lt,lc,lm,L,fl,sn,t3,t4,t5,t6,t7,t8,t9,tT,see,M⟩:=M
 have MM:=M
 obtain⟨g1,g2,g3,g4,g5,g6,g7,g8,g9,g10,g11⟩:=Yc fb
 obtain⟨f1,f2,f3,f4,l1,l2,f5,f6,f7,f8,f9,f10,f11,f12,f13,f14,f15,f16,f17,f18,f19,f20,f21⟩:=M
 obtain⟨nl,at0⟩:=see z z1 hz
 have xl:(pgL (V z)).length=256:=by rw[Ob,nl]
 have xf:=Ru (V z)
 have back:∀ {h2:Go.Ev.H},h2=h→HE n q a b c e cr md S T V h2:=fun q=>by subst q; exact⟨d,d1,d2,kn,ld,lt,lc,lm,L,fl,sn,t3,t4,t5,t6,t7,t8,t9,tT,see,MM⟩
 obtain⟨x,hx⟩:∃ x,pgL (V z)=x:=⟨_,rfl⟩
 rw[hx] at at0 xl xf ⊢
 have ld0:∀ z,Y5 z []=none:=fun _=>rfl
 have e0:Ty []=some []:=rfl
 obtain⟨N,hN⟩:∃ N,2+e+a * b=N:=⟨_,rfl⟩
 rw[hN] at f8 z1
 rcases at0 with hl|⟨hd,hl|⟨hl,hx⟩⟩
 ·have yl:(C.int .i64 (z:Int) :: x).length=257:=by rw[List.length_cons,xl]
  have yf:(C.int .i64 (z:Int) :: x).all C.flat=true:=by rw[List.all_cons,xf]; rfl
  have yt:(C.int .i64 (z:Int) :: x).drop 1=x:=rfl
  obtain⟨y,hy⟩:∃ y,C.int .i64 (z:Int) :: x=y:=⟨_,rfl⟩
  rw[hy] at hl yl yf yt
  exact⟨h,by unfold Zca Lc; simp (maxSteps:=9^6) +decide (disch:=first|omega|(simp only[lens]<;>omega)|decide) only [go_sem,Zd,Za,simprocAttr,f19,stG,f5,txG,f6,gdL,gdD,f16,f21,f18,fb,hz,hl,yl,yf,yt]<;>rfl,back rfl,rfl,fun _ _ _=>rfl⟩
 ·exact⟨h,by unfold Zca Lc; simp (maxSteps:=9^6) +decide (disch:=first|omega|(simp only[lens]<;>omega)|decide) only [go_sem,Zd,Za,simprocAttr,f19,stG,f5,txG,f6,gdL,gdD,f16,f21,f18,fb,hz,hd,hl,xl,xf,e0]<;>rfl,back rfl,rfl,fun _ _ _=>rfl⟩
 ·rcases hl2:Y5 (z:Int) lm with _|y
  ·refine⟨h.put (n+6) (.map (J9 (Gh (z:Int) (x++[.bool false]) lm))),by unfold Zca Lc Rf; simp (maxSteps:=9^6) +decide (disch:=first|omega|(simp only[lens]<;>omega)|decide) only [go_sem,Zd,Za,simprocAttr,f19,stG,f5,txG,f6,gdL,gdD,f7,ckD,f8,f9,f10,f16,f21,f18,fb,hz,hd,hl,hl2,fl,hx,xl,xf,ld0,e0,Int.toNat_natCast]<;>rfl,⟨d,d1,d2,kn,ld,lt,lc,_,L,Gx (by rw[List.all_append,xf]; rfl) fl,sn.upd hx,t3,t4,t5,t6,t7,t8,t9,tT,see,?_⟩,rfl,fun m _ hm=>Zu hm⟩
   obtain⟨f1,f2,f3,f4,l1,l2,f5,f6,f7,f8,f9,f10,f11,f12,f13,f14,f15,f16,f17,f18,f19,f20,f21⟩:=MM
   refine⟨?_,f2,f3,f4,l1,l2,?_,?_,?_,?_,?_,?_,?_,?_,?_,?_,?_,?_,?_,Yh ..,?_,?_,?_⟩
   all_goals (rw[Zu (by omega)]; assumption)
  ·obtain⟨x',hx',rfl⟩:=sn z y hl2
   rw[hx] at hx'
   cases hx'
   have yl:(x++[C.bool false]).length=257:=by rw[List.length_append,xl]; rfl
   have yf:(x++[C.bool false]).all C.flat=true:=by rw[List.all_append,xf]; rfl
   have yt:(x++[C.bool false]).take 256=x:=by rw[←xl,List.take_left']; rfl
   obtain⟨y,hy⟩:∃ y,x++[C.bool false]=y:=⟨_,rfl⟩
   rw[hy] at hl2 yl yf yt
   exact⟨h,by unfold Zca Lc Rf; simp (maxSteps:=9^6) +decide (disch:=first|omega|(simp only[lens]<;>omega)|decide) only [go_sem,Zd,Za,simprocAttr,f19,stG,f5,txG,f6,gdL,gdD,f7,ckD,f8,f9,f10,f16,f21,f18,fb,hz,hd,hl,hl2,yl,yf,yt,ld0,e0]<;>rfl,back rfl,rfl,fun _ _ _=>rfl⟩
theorem HE.put (M:HE n q a b c e cr md S T V h) (fb:U4 a b c e=true) {z:Nat} (hz:Dj a b c e (z:Int)=true) (z1:z<2+e+a * b) {ns:List Nat} (nl:ns.length=256) (zs:z∈S) (zt:z ∉ T) :
  ∃ h',Zk9 [.c (.ptr (n+13) 0),.c (.int .i64 (z:Int)),.g (pgL ns)] h=some (.w (.c (.int .i64 0)),h')∧HE n q a b c e cr md S T (Gi V z ns) h'∧h'.next=h.next∧∀ m,Off n q m→h'.get m=h.get m:=by
 obtain⟨d,d1,d2,kn,ld,lt,lc,lm,L,fl,sn,ft,fc,t5,vt,t7,t8,t9,tT,see,M⟩:=M
 have MM:=M
 have hd:Y5 (z:Int) ld=none:=by
  rcases hl:Y5 (z:Int) ld with _|y
  ·rfl
  ·obtain⟨k,hk,e⟩:=tT _ _ hl
   obtain rfl:z=k:=by omega
   exact absurd hk zt
 obtain⟨g1,g2,g3,g4,g5,g6,g7,g8,g9,g10,g11⟩:=Yc fb
 obtain⟨f1,f2,f3,f4,l1,l2,f5,f6,f7,f8,f9,f10,f11,f12,f13,f14,f15,f16,f17,f18,f19,f20,f21⟩:=M
 have xl:(pgL ns).length=256:=by rw[Ob,nl]
 have xf:=Ru ns
 have fn:Oy []=true:=rfl
 have dn:J9 (Zez (z:Int) [])=[]:=rfl
 have e1:Zk9 [.c (.ptr (n+13) 0),.c (.int .i64 (z:Int)),.g (pgL ns)] h=some (.w (.c (.int .i64 0)),Zq8 n q (Gh (z:Int) [] lt) (Gh (z:Int) (pgL ns) lc) h):=by
  obtain⟨x,hx⟩:∃ x,pgL ns=x:=⟨_,rfl⟩
  rw[hx] at xl xf ⊢
  unfold Zk9 Zni Zfe
  rcases hl:Y5 (z:Int) lt with _|y
  ·have:=Zwf t7 t8 zs hl
   have tl':decide (((lt.length:Nat):Int)<cr)=true:=decide_eq_true (by omega)
   simp (maxSteps:=9^6) +decide (disch:=first|omega|(simp only[lens]<;>omega)|decide) only [go_sem,Zd,Za,simprocAttr,f19,stG,f5,txG,f6,gdL,gdD,f16,f11,f20,f21,f12,f14,f15,fb,hz,xl,xf,ft,fc,fn,hl,tl',dn,Zq8,C.flat]<;>rfl
  ·obtain rfl:=vt _ _ hl
   simp (maxSteps:=9^6) +decide (disch:=first|omega|(simp only[lens]<;>omega)|decide) only [go_sem,Zd,Za,simprocAttr,f19,stG,f5,txG,f6,gdL,gdD,f16,f11,f20,f21,f12,f14,f15,fb,hz,xl,xf,ft,fc,fn,hl,dn,Zq8,C.flat]<;>rfl
 refine⟨_,e1,⟨d,d1,d2,false,ld,Gh (z:Int) [] lt,Gh (z:Int) (pgL ns) lc,lm,L,fl,sn,Gx rfl ft,Gx xf fc,t5,vt.upd _,Zkq t7,fun z' y hz'=>?_,t9,tT,fun z' z1' hz'=>?_,?_⟩,rfl,fun m o=>Zlk _ _ ⟨o.2.1,o.2.2.1,o.2.2.2.1,o.2.2.2.2⟩⟩
 ·rw[Lf] at hz'
  split at hz'
  ·rename_i w
   exact⟨z,zs,w⟩
  ·exact t8 z' y hz'
 ·unfold Gi
  split
  ·rename_i w
   subst w
   exact⟨nl,.inr ⟨hd,At.put ..⟩⟩
  ·rename_i w
   obtain⟨q1,q2⟩:=see z' z1' hz'
   refine⟨q1,?_⟩
   rcases q2 with q2|⟨q2,q3⟩
   ·exact .inl q2
   ·exact .inr ⟨q2,q3.upd w⟩
 ·refine⟨?_,f2,f3,f4,l1,l2,?_,?_,?_,?_,?_,?_,?_,Yh _ _ _,?_,?_,?_,?_,?_,?_,?_,?_,?_⟩
  all_goals (first|(rw[Zlk _ _ ⟨by omega,by omega,by omega,by omega⟩]; assumption)|(unfold Zq8; simp (discharger:=omega) only [H.get_put,if_neg,if_true]))
end
end Go.Proofs.YtdkcjalmhdofcaaGreatDoor
set_option maxRecDepth 100000
set_option maxHeartbeats 4000000
namespace Go.Proofs.YtdkcjalmhdofcaaGreatDoor
open Go.Ev
noncomputable def Zbi (n:Nat) (h:Go.Ev.H) (cr:Int):Go.Ev.H:=Zck (Fz h (n+13) (stO n)) (n+20) (txO n) cr 0
theorem Og {n m:Nat} {h:Go.Ev.H} (nx:n+23≤h.next) (hm:m<h.next) (m1:m≠n+13) (m2:m≠n+20) (cr:Int):(Zbi n h cr).get m=h.get m:=by
 unfold Zbi Zck De Fz
 simp (discharger:=omega) only [H.get_put,H.Zf,H.Zc,H.Zh,if_neg]
section
variable {n d d1 d2 a b c e:Nat} {md cr:Int} {L:List (List C)} {h h2:Go.Ev.H}
theorem ClD.beg (M:ClD n d d1 d2 a b c e md L h) (fb:U4 a b c e=true) (sz:(Zhp cr).isSome=true):Zaj [.c (.ptr (n+13) 0),.c (.int .i64 cr),.c (.int .i64 0)] h=some (.w (.c (.int .i64 0)),Zbi n h cr):=by
 obtain⟨f1,f2,f3,l1,l2,f4,f5,f6,f7,f8,f9,f10,f11,f12,f13,f14,f15,f16,f17,f18⟩:=M
 obtain⟨v9,s9⟩:=Option.isSome_iff_exists.1 sz
 unfold Zaj Zbi
 simp (maxSteps:=9^6) +decide (disch:=first|omega|(simp only[lens]<;>omega)|decide) only [go_sem,Zd,Za,simprocAttr,f15,stO,f4,txO,f5,gdL,f12,f13,f14,f11,f18,fb,s9]<;>rfl
theorem ClD.begun (M:ClD n d d1 d2 a b c e md L h) {S:List Nat} {V:Nat→List Nat} (Sc:(S.length:Int)≤cr) (see:∀ z,z<2+e+a * b→Dj a b c e (z:Int)=true→(V z).length=256∧L[z]? = some (pgL (V z))):HE n h.next a b c e cr md S [] V (Zbi n h cr):=by
 obtain⟨f1,f2,f3,l1,l2,f4,f5,f6,f7,f8,f9,f10,f11,f12,f13,f14,f15,f16,f17,f18⟩:=M
 refine⟨d,d1,d2,false,[],[],[],[],L,rfl,Zu8 L,rfl,rfl,rfl,(fun _ _ e=>by cases e),rfl,(fun _ _ e=>by cases e),Sc,(fun _ _ e=>by cases e),fun z z1 hz=>⟨(see z z1 hz).1,.inr ⟨rfl,.inr ⟨rfl,(see z z1 hz).2⟩⟩⟩,?_,f2,f3,?_,l1,l2,?_,?_,?_,?_,?_,?_,?_,?_,?_,?_,?_,?_,?_,?_,?_,?_,?_⟩
 ·rw[Og f3 (by omega) (by omega) (by omega)]; exact f1
 ·unfold Zbi Zck De Fz; simp only[H.Zc,H.Zh]; omega
 ·unfold Zbi Zck De Fz; simp (discharger:=omega) only [H.get_put,H.Zf,H.Zc,H.Zh,if_neg,if_pos]; rfl
 ·rw[Og f3 (by omega) (by omega) (by omega)]; exact f5
 ·rw[Og f3 (by omega) (by omega) (by omega)]; exact f6
 ·rw[Og f3 (by omega) (by omega) (by omega)]; exact f7
 ·rw[Og f3 (by omega) (by omega) (by omega)]; exact f8
 ·rw[Og f3 (by omega) (by omega) (by omega)]; exact f9
 ·unfold Zbi Zck De Fz; simp (discharger:=omega) only [H.get_put,H.Zf,H.Zc,H.Zh,if_neg,if_pos,if_true]
 ·rw[Og f3 (by omega) (by omega) (by omega)]; exact f11
 ·rw[Og f3 (by omega) (by omega) (by omega)]; exact f12
 ·rw[Og f3 (by omega) (by omega) (by omega)]; exact f13
 ·rw[Og f3 (by omega) (by omega) (by omega)]; exact f14
 ·unfold Zbi Zck De Fz; simp (discharger:=omega) only [H.get_put,H.Zf,H.Zc,H.Zh,if_neg,if_pos,if_true]; rfl
 ·unfold Zbi Zck De Fz; simp (discharger:=omega) only [H.get_put,H.Zf,H.Zc,H.Zh,if_neg,if_pos,if_true]
 ·rw[Og f3 (by omega) (by omega) (by omega)]; exact f10
 ·unfold Zbi Zck De Fz; simp (discharger:=omega) only [H.get_put,H.Zf,H.Zc,H.Zh,if_neg,if_pos]; rfl
 ·unfold Zbi Zck De Fz; simp (discharger:=omega) only [H.get_put,H.Zf,H.Zc,H.Zh,if_neg,if_pos,if_true]; rfl
 ·rw[Og f3 (by omega) (by omega) (by omega)]; exact f18
end
noncomputable def V4 (z:Nat):List Nat:=unN ((Vo[z]?).getD [])
theorem Z1m:∀ z,z<90→(V4 z).length=256∧Vo[z]? = some (pgL (V4 z)):=by
 have il:Vo.length=90:=by kernel_rfl
 have ib:Vo.all (fun x=>Nat.beq x.length 256&&Zkr x)=true:=by kernel_rfl
 intro z hz
 have hx:Vo[z]? = some Vo[z]:=List.getElem?_eq_getElem (by omega)
 have:=List.all_eq_true.1 ib _ (List.getElem_mem (by omega:z<Vo.length))
 rw[Bool.and_eq_true] at this
 obtain⟨ns,e,nl⟩:=Zc4 this.2
 have xl:=Nat.eq_of_beq_eq_true this.1
 have hx':Vo[z]? = some (pgL ns):=hx.trans (congrArg some e)
 have v:V4 z=ns.map (· % 256):=by unfold V4; rw[hx',Option.getD_some,Om]
 rw[v]
 refine⟨by rw[List.length_map,nl]; exact xl,?_⟩
 rw[hx',Zh3]
end Go.Proofs.YtdkcjalmhdofcaaGreatDoor
