/- A store in whose handle calls read and put: what is seen of each block; the blocks that may be put. n: where the store began; q: where Begin began. -/
import Derived.Test.YtdmendgkbikkaaaGreatDoorHba
import Derived.Test.YtdmendgkbikkaaaGreatDoorPag
set_option linter.unusedSimpArgs false
set_option linter.unusedVariables false
set_option linter.unusedSectionVars false
set_option maxRecDepth 100000
set_option maxHeartbeats 4000000
namespace Go.Proofs.YtdmendgkbikkaaaGreatDoor
open Go.Ev
structure Cr where
 c:Int
 r:Int
 o:Bool
 ch:List Nat
abbrev Cr.op (c r:Int):Cr:=⟨c,r,true,[]⟩
abbrev Opn (cr:Cr):Prop:=Nonempty (PLift (cr.o=true))
instance opnI {c r:Int} {ch:List Nat}:Opn ⟨c,r,true,ch⟩:=⟨⟨rfl⟩⟩
theorem opn {cr:Cr} [i:Opn cr]:cr.o=true:=by
 obtain⟨⟨h⟩⟩:=i
 exact h
def oI (o:Bool) (x:Int):Int:=bif o then x else 0
def oC (o:Bool) (x y:C):C:=bif o then x else y
theorem Z6p (x:Int):oI true x=x:=rfl
theorem Z6o (x y:C):oC true x y=x:=rfl
def txH (n q:Nat) (cr:Cr):Tx:=⟨n+15,n+16,n+17,n+19,1,cr.o,oI cr.o cr.c,oI cr.o cr.r,oC cr.o (.map (q+2)) .mnil,oC cr.o (.map (q+6)) .mnil,oC cr.o (.map (q+7)) .mnil,oC cr.o (.map (q+8)) .mnil,oC cr.o (.ptr (q+5) 0) .pnil⟩
def dtN (q:Nat) (cr:Cr):Nat:=bif cr.o then q else q+7
def stH (n q:Nat) (cr:Cr) (kn:Bool):Stt:=⟨n+12,n+20,dtN q cr,dtN q cr+1,.snil,kn⟩
theorem Z45 {q:Nat} {cr:Cr} [Opn cr]:dtN q cr=q:=by unfold dtN; rw[opn]; rfl
theorem Zjd (q:Nat) (cr:Cr):dtN q cr=q∨dtN q cr=q+7:=by
 unfold dtN
 cases cr.o with
 | true=>exact .inl rfl
 | false=>exact .inr rfl
attribute [go_sem] opn Z6p Z6o txH stH
def txC (n q:Nat) (cr:Cr):Tx:=⟨n+15,n+16,n+17,n+19,1,true,cr.c,cr.r,.map (q+2),.map (q+6),.map (q+7),.map (q+8),.ptr (q+5) 0⟩
theorem Dz {p:Prop} (g:p:=by simp (maxSteps:=9^6) +decide (disch:=first|omega|(simp only[lens]<;>omega)|decide) only [go_sem,Ze,simprocAttr,Z8,stG,txC,Yw,Jf]<;>rfl):p:=g
theorem Ju {p:Prop} (g:p:=by simp (maxSteps:=9^6) +decide (disch:=first|omega|(simp only[lens]<;>omega)|decide) only [go_sem,Ze,simprocAttr,Z8,stG,txC,Yw,Yr,Zt,Jf]<;>rfl):p:=g
theorem Mv {p:Prop} (g:p:=by simp (maxSteps:=9^6) +decide (disch:=first|omega|(simp only[lens]<;>omega)|decide) only [go_sem,Ze,simprocAttr,Z8,stG,txC,Yw,read1,Jf]<;>rfl):p:=g
theorem Zut {p:Prop} (g:p:=by simp (maxSteps:=9^6) +decide (disch:=first|omega|(simp only[lens]<;>omega)|decide) only [go_sem,Ze,simprocAttr,Z8,stG,txC,Yw,read1,drG,Jf]<;>rfl):p:=g
theorem Ey {p:Prop} (g:p:=by simp (maxSteps:=9^6) +decide (disch:=first|omega|(simp only[lens]<;>omega)|decide) only [go_sem,Ze,simprocAttr,Z8,stG,txC,Yw,read1,Yr,Zt,Jf]<;>rfl):p:=g
theorem Mw {p:Prop} (g:p:=by simp (maxSteps:=9^6) +decide (disch:=first|omega|(simp only[lens]<;>omega)|decide) only [go_sem,Ze,simprocAttr,Z8,stG,txC,Yw,read1,Yr,Zt,We,List.map_cons,List.map_nil,List.cons_append,List.nil_append,Jf]<;>rfl):p:=g
theorem Qx {p:Prop} (g:p:=by simp (maxSteps:=9^6) +decide (disch:=first|omega|(simp only[lens]<;>omega)|decide) only [go_sem,Zm,Ze,simprocAttr,Z8,stG,txC,Yw,read1,Yr,Zt,Jf]<;>rfl):p:=g
def gdD (n d a b c e:Nat) (md:Int):Gd:=⟨a,b,c,e,md,d,n+8,n+9,n+11⟩
def ckD (n d:Nat):Ck:=⟨d,n+6,n+7⟩
structure Hv (n d d1 d2 q a b c e:Nat) (cr:Cr) (md:Int) (kn:Bool) (ld lt lc lm:O3) (L:List (List C)) (h:Go.Ev.H):Prop where
 st:h.get 0=some Gr
 n0:0<n
 nq:n+14≤q
 nx:q+9≤h.next
 l1:d<n+5
 l2:d2<n+5
 ht:h.get (n+20)=some (.row 13 [txL (txH n q cr)] false)
 hg:h.get (n+12)=some (.row 9 [gdL (gdD n d a b c e md)] false)
 hc:h.get (n+8)=some (.row 3 [ckL (ckD n d)] false)
 hd:h.get d=some (.row 6 [dkL ⟨d1,d2,2+e+a * b,.snil,0,0⟩] false)
 hq:h.get d2=some (.row 256 L false)
 hli:h.get (n+11)=some (.row 8 [[.bool true,.int .i64 (a:Int),.int .i64 (b:Int),.int .i64 (c:Int),.int .i64 (e:Int),.bool false,.int .u32 0,.snil]] false)
 hgv:h.get (dtN q cr+1)=some (.map [])
 hfr:h.get (n+17)=some (.map [])
 hod:h.get (n+16)=some (.map [])
 hrv:h.get (n+19)=some (.row 1 [[.map (n+18)]] false)
 hrc:h.get (n+18)=some (.map [])
 hdt:h.get (dtN q cr)=some (.map (J5 ld))
 hv6:cr.o=true→n+23≤q
 hm:h.get (n+6)=some (.map (J5 lm))
 hs:h.get (n+13)=some (.row 8 [stL (stH n q cr kn)] false)
 hto:cr.o=true→h.get (q+2)=some (.map (J5 lt))
 hch:h.get (n+15)=some (.map (J5 lc))
def Out (n q m:Nat):Prop:=Off n q m∧m≠q
def Atd (ld lc:O3) (L:List (List C)) (z:Nat) (x:List C):Prop:=Yx (z:Int) ld=some (.int .i64 (z:Int) :: x)∨Yx (z:Int) ld=none∧At lc L z x
def Zdd:O3→Bool
 | []=>true
 | (k,_) :: l=>(Yx k l).isNone&&Zdd l
theorem Ze9 {k:Int} {x:List C}:∀ {l:O3},Zdd l=true→Zdd (Gy k x l)=true
 | [],_=>rfl
 | (j,y) :: l,h=>by
  have h':((Yx j l).isNone&&Zdd l)=true:=h
  rw[Bool.and_eq_true] at h'
  show Zdd (bif k == j then (k,x) :: l else (j,y) :: Gy k x l)=true
  by_cases e:k=j
  ·subst e
   rw[Tf rfl]
   exact h
  ·rw[Bl e]
   show ((Yx j (Gy k x l)).isNone&&Zdd (Gy k x l))=true
   rw[Fs,if_neg (Ne.symm e),h'.1,Ze9 h'.2]
   rfl
theorem Zb2:∀ {l:O3} {S:List Nat},Zdd l=true→(∀ z y,Yx z l=some y→∃ k∈S,z=(k:Nat))→l.length≤S.length
 | [],S,_,_=>Nat.zero_le _
 | (j,y) :: l,S,hu,hs=>by
  have h':((Yx j l).isNone&&Zdd l)=true:=hu
  rw[Bool.and_eq_true] at h'
  have jn:Yx j l=none:=by simpa using h'.1
  obtain⟨k,hk,rfl⟩:=hs j y (by show (bif j == j then some y else Yx j l)=some y; rw[Tf rfl]; rfl)
  have hr:∀ z y',Yx z l=some y'→∃ k'∈S.erase k,z=(k':Nat):=fun z y' hz=>by
   have ne:z≠(k:Int):=fun q=>by rw[q,jn] at hz; cases hz
   obtain⟨k',hk',e⟩:=hs z y' (by show (bif z == (k:Int) then some y else Yx z l)=some y'; rw[Bl ne]; exact hz)
   exact⟨k',(List.mem_erase_of_ne (by omega)).2 hk',e⟩
  have:=Zb2 h'.2 hr
  rw[List.length_erase_of_mem hk] at this
  have:0<S.length:=List.length_pos_of_mem hk
  rw[List.length_cons]
  omega
theorem Zwb {l:O3} {S:List Nat} {z:Nat} (hu:Zdd l=true) (hs:∀ z y,Yx z l=some y→∃ k∈S,z=(k:Nat)) (hz:z∈S) (hn:Yx (z:Int) l=none):l.length+1≤S.length:=by
 have hr:∀ z' y',Yx z' l=some y'→∃ k'∈S.erase z,z'=(k':Nat):=fun z' y' h=>by
  obtain⟨k',hk',e⟩:=hs z' y' h
  subst e
  have ne:k'≠z:=fun q=>by rw[q,hn] at h; cases h
  exact⟨k',(List.mem_erase_of_ne ne).2 hk',rfl⟩
 have:=Zb2 hu hr
 rw[List.length_erase_of_mem hz] at this
 have:0<S.length:=List.length_pos_of_mem hz
 omega
def Zci (V:Nat→List Nat) (z:Nat) (x:List Nat):Nat→List Nat:=fun y=>if y=z then x else V y
theorem Bv (V:Nat→List Nat) (z:Nat) (x:List Nat):Zci V z x z=x:=if_pos rfl
theorem Bf {V:Nat→List Nat} {z y:Nat} {x:List Nat} (h:y≠z):Zci V z x y=V y:=if_neg h
def HE (n q a b c e:Nat) (cr:Cr) (md:Int) (S T:List Nat) (V:Nat→List Nat) (h:Go.Ev.H):Prop:=∃ d d1 d2 kn ld lt lc lm L,Gg lm=true∧Seen lm L∧Gg lt=true∧Gg lc=true∧Gg ld=true∧Zqi lt∧Zdd lt=true∧(∀ z y,Yx z lt=some y→∃ k∈S,z=(k:Nat))∧((cr.o=true→(S.length:Int)≤cr.c)∧Zdd lc=true∧∀ z y,Yx z lc=some y→∃ k∈cr.ch++S,z=(k:Nat))∧(∀ z y,Yx z ld=some y→∃ k∈T,z=(k:Nat))∧(∀ z,z<2+e+a * b→Og a b c e (z:Int)=true→(V z).length=256∧Atd ld lc L z (pgL (V z)))∧Hv n d d1 d2 q a b c e cr md kn ld lt lc lm L h
noncomputable def Ztb (n q:Nat) (cr:Cr) (lt lc:O3) (h:Go.Ev.H):Go.Ev.H:=(((h.put (n+13) (.row 8 [stL (stH n q cr false)] false)).put (q+2) (.map (J5 lt))).put (n+15) (.map (J5 lc))).put (n+17) (.map [])
theorem Zmn {n q:Nat} {cr:Cr} {h:Go.Ev.H} (lt' lc':O3) {m:Nat} (o:m≠n+13∧m≠n+15∧m≠n+17∧m≠q+2):(Ztb n q cr lt' lc' h).get m=h.get m:=by
 unfold Ztb
 rw[Zo o.2.2.1,Zo o.2.1,Zo o.2.2.2,Zo o.1]
section
variable {n d d1 d2 q a b c e:Nat} {cr:Cr} {md:Int} {kn:Bool} {ld lt lc lm lm':O3} {L:List (List C)} {h h2:Go.Ev.H} {S T:List Nat} {V:Nat→List Nat}
theorem Hv.keep (M:Hv n d d1 d2 q a b c e cr md kn ld lt lc lm L h) (hx:h.next≤h2.next) (k:∀ m,m<q+9→h2.get m=h.get m):Hv n d d1 d2 q a b c e cr md kn ld lt lc lm L h2:=by
 obtain⟨f1,f2,f3,f4,l1,l2,f5,f6,f7,f8,f9,f10,f11,f12,f13,f14,f15,f16,f17,f18,f19,f20,f21⟩:=M
 have db:=Zjd q cr
 refine⟨?_,f2,f3,by omega,l1,l2,?_,?_,?_,?_,?_,?_,?_,?_,?_,?_,?_,?_,f17,?_,?_,fun o=>?_,?_⟩
 all_goals (rw[k _ (by omega)]; first|assumption|exact f20 o)
theorem HE.keep (M:HE n q a b c e cr md S T V h) (hx:h.next≤h2.next) (k:∀ m,m<q+9→h2.get m=h.get m):HE n q a b c e cr md S T V h2:=by
 obtain⟨d,d1,d2,kn,ld,lt,lc,lm,L,f1,f2,f3,f4,f5,f6,f7,f8,f9,f10,f11,M⟩:=M
 exact⟨d,d1,d2,kn,ld,lt,lc,lm,L,f1,f2,f3,f4,f5,f6,f7,f8,f9,f10,f11,M.keep hx k⟩
theorem HE.nx (M:HE n q a b c e cr md S T V h):n+14≤q∧q+9≤h.next∧0<n:=by
 obtain⟨d,d1,d2,kn,ld,lt,lc,lm,L,f1,f2,f3,f4,f5,f6,f7,f8,f9,f10,f11,M⟩:=M
 exact⟨M.nq,M.nx,M.n0⟩
theorem HE.nxO [Opn cr] (M:HE n q a b c e cr md S T V h):n+23≤q∧q+9≤h.next∧0<n:=by
 obtain⟨d,d1,d2,kn,ld,lt,lc,lm,L,f1,f2,f3,f4,f5,f6,f7,f8,f9,f10,f11,M⟩:=M
 exact⟨M.hv6 opn,M.nx,M.n0⟩
theorem HE.cells (M:HE n q a b c e cr md S T V h):h.get 0=some Gr∧(∃ kn,h.get (n+13)=some (.row 8 [stL (stH n q cr kn)] false))∧(∃ d,h.get (n+12)=some (.row 9 [gdL (gdD n d a b c e md)] false))∧h.get (n+20)=some (.row 13 [txL (txH n q cr)] false):=by
 obtain⟨d,d1,d2,kn,ld,lt,lc,lm,L,f1,f2,f3,f4,f5,f6,f7,f8,f9,f10,f11,M⟩:=M
 exact⟨M.st,⟨kn,M.hs⟩,⟨d,M.hg⟩,M.ht⟩
theorem HE.len (M:HE n q a b c e cr md S T V h) {z:Nat} (hz:Og a b c e (z:Int)=true) (z1:z<2+e+a * b):(V z).length=256:=by
 obtain⟨d,d1,d2,kn,ld,lt,lc,lm,L,f1,f2,f3,f4,f5,f6,f7,f8,f9,f10,f11,M⟩:=M
 exact (f11 z z1 hz).1
theorem HE.grow (M:HE n q a b c e cr md S T V h) {S':List Nat} (s:∀ k∈S,k∈S') (l:(S'.length:Int)≤cr.c):HE n q a b c e cr md S' T V h:=by
 obtain⟨d,d1,d2,kn,ld,lt,lc,lm,L,f1,f2,f3,f4,f5,f6,f7,f8,f9,f10,f11,M⟩:=M
 exact⟨d,d1,d2,kn,ld,lt,lc,lm,L,f1,f2,f3,f4,f5,f6,f7,fun z y hz=>by obtain⟨k,hk,e⟩:=f8 z y hz; exact⟨k,s k hk,e⟩,⟨fun _=>l,f9.2.1,fun z y hz=>by obtain⟨k,hk,e⟩:=f9.2.2 z y hz; exact⟨k,List.mem_append.2 ((List.mem_append.1 hk).imp id (s k)),e⟩⟩,f10,f11,M⟩
def Kr (n q:Nat) (h h':Go.Ev.H):Prop:=h.next≤h'.next∧∀ m,m<h.next→m≠n+6→h'.get m=h.get m
def Kp (n q:Nat) (h h':Go.Ev.H):Prop:=h.next≤h'.next∧∀ m,m<h.next→Out n q m→h'.get m=h.get m
theorem Kr.kp {n q:Nat} {h h':Go.Ev.H} (r:Kr n q h h'):Kp n q h h':=⟨r.1,fun m hm o=>r.2 m hm o.1.1⟩
theorem Kp.refl (n q:Nat) (h:Go.Ev.H):Kp n q h h:=⟨Nat.le_refl _,fun _ _ _=>rfl⟩
theorem Kp.then {n q:Nat} {h h' h2:Go.Ev.H} (r:Kp n q h h') (r2:Kp n q h' h2):Kp n q h h2:=⟨Nat.le_trans r.1 r2.1,fun m hm o=>(r2.2 m (Nat.lt_of_lt_of_le hm r.1) o).trans (r.2 m hm o)⟩
theorem Kp.of {n q:Nat} {h h':Go.Ev.H} (hx:h.next≤h'.next) (k:∀ m,m<h.next→h'.get m=h.get m):Kp n q h h':=⟨hx,fun m hm _=>k m hm⟩
theorem HE.get (M:HE n q a b c e cr md S T V h) (fb:Y2 a b c e=true) {z:Nat} (hz:Og a b c e (z:Int)=true) (z1:z<2+e+a * b) :
  ∃ h',Zda [.c (.ptr (n+13) 0),.c (.int .i64 (z:Int))] h=some (.tup [.g (pgL (V z)),.c (.int .i64 0)],h')∧HE n q a b c e cr md S T V h'∧h'.next=h.next∧∀ m,m<h.next→m≠n+6→h'.get m=h.get m:=by
 obtain⟨d,d1,d2,kn,ld,lt,lc,lm,L,fl,sn,t3,t4,t5,t6,t7,t8,t9,tT,see,M⟩:=M
 have MM:=M
 obtain⟨g1,g2,g3,g4,g5,g6,g7,g8,g9,g10,g11⟩:=Yh fb
 obtain⟨f1,f2,f3,f4,l1,l2,f5,f6,f7,f8,f9,f10,f11,f12,f13,f14,f15,f16,f17,f18,f19,f20,f21⟩:=M
 obtain⟨nl,at0⟩:=see z z1 hz
 have xl:(pgL (V z)).length=256:=by rw[Da,nl]
 have xf:=Zad (V z)
 have back:∀ {h2:Go.Ev.H},h2=h→HE n q a b c e cr md S T V h2:=fun q=>by subst q; exact⟨d,d1,d2,kn,ld,lt,lc,lm,L,fl,sn,t3,t4,t5,t6,t7,t8,t9,tT,see,MM⟩
 obtain⟨x,hx⟩:∃ x,pgL (V z)=x:=⟨_,rfl⟩
 rw[hx] at at0 xl xf ⊢
 have ld0:∀ z,Yx z []=none:=fun _=>rfl
 have e0:Vk []=some []:=rfl
 obtain⟨N,hN⟩:∃ N,2+e+a * b=N:=⟨_,rfl⟩
 rw[hN] at f8 z1
 rcases at0 with hl|⟨hd,hl|⟨hl,hx⟩⟩
 ·have yl:(C.int .i64 (z:Int) :: x).length=257:=by rw[List.length_cons,xl]
  have yf:(C.int .i64 (z:Int) :: x).all C.flat=true:=by rw[List.all_cons,xf]; rfl
  have yt:(C.int .i64 (z:Int) :: x).drop 1=x:=rfl
  obtain⟨y,hy⟩:∃ y,C.int .i64 (z:Int) :: x=y:=⟨_,rfl⟩
  rw[hy] at hl yl yf yt
  exact⟨h,by unfold Zda Mi; simp (maxSteps:=9^6) +decide (disch:=first|omega|(simp only[lens]<;>omega)|decide) only [go_sem,Zm,Ze,simprocAttr,f19,f5,f6,gdL,gdD,f16,f21,f18,fb,hz,hl,yl,yf,yt]<;>rfl,back rfl,rfl,fun _ _ _=>rfl⟩
 ·exact⟨h,by unfold Zda Mi; simp (maxSteps:=9^6) +decide (disch:=first|omega|(simp only[lens]<;>omega)|decide) only [go_sem,Zm,Ze,simprocAttr,f19,f5,f6,gdL,gdD,f16,f21,f18,fb,hz,hd,hl,xl,xf,e0]<;>rfl,back rfl,rfl,fun _ _ _=>rfl⟩
 ·rcases hl2:Yx (z:Int) lm with _|y
  ·refine⟨h.put (n+6) (.map (J5 (Gy (z:Int) (x++[.bool false]) lm))),by unfold Zda Mi Tc; simp (maxSteps:=9^6) +decide (disch:=first|omega|(simp only[lens]<;>omega)|decide) only [go_sem,Zm,Ze,simprocAttr,f19,f5,f6,gdL,gdD,f7,ckD,f8,f9,f10,f16,f21,f18,fb,hz,hd,hl,hl2,fl,hx,xl,xf,ld0,e0,Int.toNat_natCast]<;>rfl,⟨d,d1,d2,kn,ld,lt,lc,_,L,Gu (by rw[List.all_append,xf]; rfl) fl,sn.upd hx,t3,t4,t5,t6,t7,t8,t9,tT,see,?_⟩,rfl,fun m _ hm=>Zo hm⟩
   obtain⟨f1,f2,f3,f4,l1,l2,f5,f6,f7,f8,f9,f10,f11,f12,f13,f14,f15,f16,f17,f18,f19,f20,f21⟩:=MM
   have db:=Zjd q cr
   refine⟨?_,f2,f3,f4,l1,l2,?_,?_,?_,?_,?_,?_,?_,?_,?_,?_,?_,?_,f17,Yg ..,?_,fun o=>?_,?_⟩
   all_goals (rw[Zo (by omega)]; first|assumption|exact f20 o)
  ·obtain⟨x',hx',rfl⟩:=sn z y hl2
   rw[hx] at hx'
   cases hx'
   have yl:(x++[C.bool false]).length=257:=by rw[List.length_append,xl]; rfl
   have yf:(x++[C.bool false]).all C.flat=true:=by rw[List.all_append,xf]; rfl
   have yt:(x++[C.bool false]).take 256=x:=by rw[←xl,List.take_left']; rfl
   obtain⟨y,hy⟩:∃ y,x++[C.bool false]=y:=⟨_,rfl⟩
   rw[hy] at hl2 yl yf yt
   exact⟨h,by unfold Zda Mi Tc; simp (maxSteps:=9^6) +decide (disch:=first|omega|(simp only[lens]<;>omega)|decide) only [go_sem,Zm,Ze,simprocAttr,f19,f5,f6,gdL,gdD,f7,ckD,f8,f9,f10,f16,f21,f18,fb,hz,hd,hl,hl2,yl,yf,yt,ld0,e0]<;>rfl,back rfl,rfl,fun _ _ _=>rfl⟩
theorem HE.put [Opn cr] (M:HE n q a b c e cr md S T V h) (fb:Y2 a b c e=true) {z:Nat} (hz:Og a b c e (z:Int)=true) (z1:z<2+e+a * b) {ns:List Nat} (nl:ns.length=256) (zs:z∈S) (zt:z ∉ T) :
  ∃ h',Znf [.c (.ptr (n+13) 0),.c (.int .i64 (z:Int)),.g (pgL ns)] h=some (.w (.c (.int .i64 0)),h')∧HE n q a b c e cr md S T (Zci V z ns) h'∧h'.next=h.next∧∀ m,Off n q m→h'.get m=h.get m:=by
 obtain⟨d,d1,d2,kn,ld,lt,lc,lm,L,fl,sn,ft,fc,t5,vt,t7,t8,t9,tT,see,M⟩:=M
 have MM:=M
 have hd:Yx (z:Int) ld=none:=by
  rcases hl:Yx (z:Int) ld with _|y
  ·rfl
  ·obtain⟨k,hk,e⟩:=tT _ _ hl
   obtain rfl:z=k:=by omega
   exact absurd hk zt
 obtain⟨g1,g2,g3,g4,g5,g6,g7,g8,g9,g10,g11⟩:=Yh fb
 obtain⟨f1,f2,f3,f4,l1,l2,f5,f6,f7,f8,f9,f10,f11,f12,f13,f14,f15,f16,f17,f18,f19,f20,f21⟩:=M
 have xl:(pgL ns).length=256:=by rw[Da,nl]
 have xf:=Zad ns
 have fn:Gg []=true:=rfl
 have dn:J5 (Zec (z:Int) [])=[]:=rfl
 have dq:=Z45 (q:=q) (cr:=cr)
 have n23:=f17 opn
 have f20':=f20 opn
 have e1:Znf [.c (.ptr (n+13) 0),.c (.int .i64 (z:Int)),.g (pgL ns)] h=some (.w (.c (.int .i64 0)),Ztb n q cr (Gy (z:Int) [] lt) (Gy (z:Int) (pgL ns) lc) h):=by
  obtain⟨x,hx⟩:∃ x,pgL ns=x:=⟨_,rfl⟩
  rw[hx] at xl xf ⊢
  unfold Znf Zpx Zgl
  rcases hl:Yx (z:Int) lt with _|y
  ·have:=Zwb t7 t8 zs hl
   have t9':=t9.1 opn
   have tl':decide (((lt.length:Nat):Int)<cr.c)=true:=decide_eq_true (by omega)
   simp (maxSteps:=9^6) +decide (disch:=first|omega|(simp only[lens]<;>omega)|decide) only [go_sem,Zm,Ze,simprocAttr,f19,f5,f6,gdL,gdD,f16,f11,f20',f21,f12,f14,f15,fb,hz,xl,xf,ft,fc,fn,hl,tl',dn,Ztb,C.flat]<;>rfl
  ·obtain rfl:=vt _ _ hl
   simp (maxSteps:=9^6) +decide (disch:=first|omega|(simp only[lens]<;>omega)|decide) only [go_sem,Zm,Ze,simprocAttr,f19,f5,f6,gdL,gdD,f16,f11,f20',f21,f12,f14,f15,fb,hz,xl,xf,ft,fc,fn,hl,dn,Ztb,C.flat]<;>rfl
 refine⟨_,e1,⟨d,d1,d2,false,ld,Gy (z:Int) [] lt,Gy (z:Int) (pgL ns) lc,lm,L,fl,sn,Gu rfl ft,Gu xf fc,t5,vt.upd _,Ze9 t7,fun z' y hz'=>?_,⟨t9.1,Ze9 t9.2.1,fun z' y hz'=>?_⟩,tT,fun z' z1' hz'=>?_,?_⟩,rfl,fun m o=>Zmn _ _ ⟨o.2.1,o.2.2.1,o.2.2.2.1,o.2.2.2.2⟩⟩
 ·rw[Fs] at hz'
  split at hz'
  ·rename_i w
   exact⟨z,zs,w⟩
  ·exact t8 z' y hz'
 ·rw[Fs] at hz'
  split at hz'
  ·rename_i w
   exact⟨z,List.mem_append_right _ zs,w⟩
  ·exact t9.2.2 z' y hz'
 ·unfold Zci
  split
  ·rename_i w
   subst w
   exact⟨nl,.inr ⟨hd,At.put ..⟩⟩
  ·rename_i w
   obtain⟨q1,q2⟩:=see z' z1' hz'
   refine⟨q1,?_⟩
   rcases q2 with q2|⟨q2,q3⟩
   ·exact .inl q2
   ·exact .inr ⟨q2,q3.upd w⟩
 ·refine⟨?_,f2,f3,f4,l1,l2,?_,?_,?_,?_,?_,?_,?_,Yg _ _ _,?_,?_,?_,?_,f17,?_,?_,fun o=>?_,?_⟩
  all_goals (first|(rw[Zmn _ _ ⟨by omega,by omega,by omega,by omega⟩]; assumption)|(unfold Ztb; simp (discharger:=omega) only [H.get_put,if_neg,if_true]))
end
def Mr (md:Int) (T:List Nat) (z:Nat):List Nat:=if md=3 then T else z :: T
section
variable {n q a b c e:Nat} {cr:Cr} {md:Int} {h:Go.Ev.H} {S T:List Nat} {V:Nat→List Nat}
theorem HE.more (M:HE n q a b c e cr md S T V h) {T':List Nat} (s:∀ z∈T,z∈T'):HE n q a b c e cr md S T' V h:=by
 obtain⟨d,d1,d2,kn,ld,lt,lc,lm,L,f1,f2,f3,f4,f5,f6,f7,f8,f9,f10,f11,M⟩:=M
 exact⟨d,d1,d2,kn,ld,lt,lc,lm,L,f1,f2,f3,f4,f5,f6,f7,f8,f9,fun z y hz=>by obtain⟨k,hk,e⟩:=f10 z y hz; exact⟨k,s k hk,e⟩,f11,M⟩
end
end Go.Proofs.YtdmendgkbikkaaaGreatDoor
