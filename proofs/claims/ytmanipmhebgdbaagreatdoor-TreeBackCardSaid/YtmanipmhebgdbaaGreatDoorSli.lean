/- A store in whose handle calls read and put: what is seen of each block; the blocks that may be put. n: where the store began; q: where Begin began. -/
import Derived.Test.YtmanipmhebgdbaaGreatDoorIpu
set_option maxRecDepth 100000
set_option maxHeartbeats 4000000
set_option linter.unusedSimpArgs false
set_option linter.unusedVariables false
set_option linter.unusedSectionVars false
namespace Go.Proofs.YtmanipmhebgdbaaGreatDoor
open Go.Ev
structure Cr where
 c:Int
 r:Int
 o:Bool
 ch:Lq
abbrev Cr.op (c r:Int):Cr:=⟨c,r,true,[]⟩
abbrev Opn (cr:Cr):Prop:=Nonempty (PLift (cr.o=true))
instance opnI {c r:Int} {ch:Lq}:Opn ⟨c,r,true,ch⟩:=⟨⟨rfl⟩⟩
theorem opn {cr:Cr} [i:Opn cr]:cr.o=true:=by
 obtain⟨⟨h⟩⟩:=i
 exact h
def oI (o:Bool) (x:Int):Int:=bif o then x else 0
def oC (o:Bool) (x y:C):C:=bif o then x else y
theorem Yec (x:Int):oI true x=x:=rfl
theorem Yeb (x y:C):oC true x y=x:=rfl
def txH (n q:Nat) (cr:Cr):Tx:=⟨n+15,n+16,n+17,n+19,1,cr.o,oI cr.o cr.c,oI cr.o cr.r,oC cr.o (.map (q+2)) .mnil,oC cr.o (.map (q+6)) .mnil,oC cr.o (.map (q+7)) .mnil,oC cr.o (.map (q+8)) .mnil,oC cr.o (.ptr (q+5) 0) .pnil⟩
def dtN (q:Nat) (cr:Cr):Nat:=bif cr.o then q else q+7
def stH (n q:Nat) (cr:Cr) (kn:Bool):Stt:=⟨n+12,n+20,dtN q cr,dtN q cr+1,.snil,kn⟩
theorem Yca {q:Nat} {cr:Cr} [Opn cr]:dtN q cr=q:=by unfold dtN; rw[opn]; rfl
theorem Zhr (q:Nat) (cr:Cr):dtN q cr=q\/dtN q cr=q+7:=by
 unfold dtN
 cases cr.o with
 | true=>exact .inl rfl
 | false=>exact .inr rfl
attribute [go_sem] opn Yec Yeb txH stH
def txC (n q:Nat) (cr:Cr):Tx:=⟨n+15,n+16,n+17,n+19,1,true,cr.c,cr.r,.map (q+2),.map (q+6),.map (q+7),.map (q+8),.ptr (q+5) 0⟩
theorem Uh {p:Prop} (g:p:=by simp (maxSteps:=9^6) +decide (disch:=first|exact dZ|fail) only [go_sem,Zh,simprocAttr,Z7,stG,txC,Jw,Jf]<;>rfl):p:=g
theorem Yd {p:Prop} (g:p:=by simp (maxSteps:=9^6) +decide (disch:=first|exact dZ|fail) only [go_sem,Zh,simprocAttr,Z7,stG,txC,Jw,Yt,Zr,Jf]<;>rfl):p:=g
theorem Zz4 {p:Prop} (g:p:=by simp (maxSteps:=9^6) +decide (disch:=first|exact dZ|fail) only [go_sem,Zh,simprocAttr,Z7,stG,txC,Jw,Yt,Zr,drG,Jf]<;>rfl):p:=g
theorem O5 {p:Prop} (g:p:=by simp (maxSteps:=9^6) +decide (disch:=first|exact dZ|fail) only [go_sem,Zh,simprocAttr,Z7,stG,txC,Jw,read1,Jf]<;>rfl):p:=g
theorem Zpl {p:Prop} (g:p:=by simp (maxSteps:=9^6) +decide (disch:=first|exact dZ|fail) only [go_sem,Zh,simprocAttr,Z7,stG,txC,Jw,read1,drG,Jf]<;>rfl):p:=g
theorem Ux {p:Prop} (g:p:=by simp (maxSteps:=9^6) +decide (disch:=first|exact dZ|fail) only [go_sem,Zh,simprocAttr,Z7,stG,txC,Jw,read1,Yt,Zr,Jf]<;>rfl):p:=g
theorem Gl {p:Prop} (g:p:=by simp (maxSteps:=9^6) +decide (disch:=first|exact dZ|fail) only [go_sem,Zh,simprocAttr,Z7,stG,txC,Jw,read1,Yt,Zr,Xf,List.map_cons,List.map_nil,List.cons_append,List.nil_append,Jf]<;>rfl):p:=g
theorem Zz5 {p:Prop} (g:p:=by simp (maxSteps:=9^6) +decide (disch:=first|exact dZ|fail) only [go_sem,Zh,simprocAttr,Z7,stG,txC,Jw,read1,Yt,Zr,Xf,List.map_cons,List.map_nil,List.cons_append,List.nil_append,drG,Jf]<;>rfl):p:=g
theorem Ot {p:Prop} (g:p:=by simp (maxSteps:=9^6) +decide (disch:=first|exact dZ|fail) only [go_sem,Zm,Zh,simprocAttr,Z7,stG,txC,Jw,Jf]<;>rfl):p:=g
theorem Mw {p:Prop} (g:p:=by simp (maxSteps:=9^6) +decide (disch:=first|exact dZ|fail) only [go_sem,Zm,Zh,simprocAttr,Z7,stG,txC,Jw,read1,Yt,Zr,Jf]<;>rfl):p:=g
def gdD (n d a b c e:Nat) (md:Int):Gd:=⟨a,b,c,e,md,d,n+8,n+9,n+11⟩
def ckD (n d:Nat):Ck:=⟨d,n+6,n+7⟩
structure Hv (n d d1 d2 q a b c e:Nat) (cr:Cr) (md:Int) (kn:Bool) (ld lt lc lm:G9) (L:List (List C)) (h:Hq):Prop where
 st:h.get 0=some Bt
 n0:0<n
 nq:n+14<=q
 nx:q+9<=h.next
 l1:d<n+5
 l2:d2<n+5
 ht:h.get (n+20)=some (.row 13 [txL (txH n q cr)] false)
 hg:h.get (n+12)=some (.row 9 [gdL (gdD n d a b c e md)] false)
 hc:h.get (n+8)=some (.row 3 [ckL (ckD n d)] false)
 hd:h.get d=some (.row 6 [dkL ⟨d1,d2,2+e+a * b,.snil,0,0⟩] false)
 hq:h.get d2=some (.row 256 L false)
 hli:h.get (n+11)=some (.row 8 [[.bool true,.int .i64 (a:Int),.int .i64 (b:Int),.int .i64 (c:Int),.int .i64 (e:Int),.bool false,.int .u32 0,.snil]] false)
 hgv:h.get (dtN q cr+1)=some (.map [])
 hfr:h.get (n+17)=some (.map [])
 hod:h.get (n+16)=some (.map [])
 hrv:h.get (n+19)=some (.row 1 [[.map (n+18)]] false)
 hrc:h.get (n+18)=some (.map [])
 hdt:h.get (dtN q cr)=some (.map (Uv ld))
 hv6:cr.o=true->n+23<=q
 hm:h.get (n+6)=some (.map (Uv lm))
 hs:h.get (n+13)=some (.row 8 [stL (stH n q cr kn)] false)
 hto:cr.o=true->h.get (q+2)=some (.map (Uv lt))
 hch:h.get (n+15)=some (.map (Uv lc))
def Out (n q m:Nat):Prop:=Off n q m/\m≠q
def Atd (ld lc:G9) (L:List (List C)) (z:Nat) (x:List C):Prop:=Jd (z:Int) ld=some (.int .i64 (z:Int) :: x)\/Jd (z:Int) ld=none/\At lc L z x
def Zgf:G9->Bool
 | []=>true
 | (k,_) :: l=>(Jd k l).isNone&&Zgf l
theorem Zin {k:Int} {x:List C}:∀ {l:G9},Zgf l=true->Zgf (Dp k x l)=true
 | [],_=>rfl
 | (j,y) :: l,h=>by
  have h':((Jd j l).isNone&&Zgf l)=true:=h
  rw[aQ] at h'
  show Zgf (bif k == j then (k,x) :: l else (j,y) :: Dp k x l)=true
  by_cases e:k=j
  ·subst e
   rw[Q9 rfl]
   exact h
  ·rw[Db e]
   show ((Jd j (Dp k x l)).isNone&&Zgf (Dp k x l))=true
   rw[Np,if_neg (Ne.symm e),h'.1,Zin h'.2]
   rfl
theorem Zet:∀ {l:G9} {S:Lq},Zgf l=true->(∀ z y,Jd z l=some y->∃ k∈S,z=(k:Nat))->l.length<=S.length
 | [],S,_,_=>Nat.zero_le _
 | (j,y) :: l,S,hu,hs=>by
  have h':((Jd j l).isNone&&Zgf l)=true:=hu
  rw[aQ] at h'
  have jn:Jd j l=none:=by simpa using h'.1
  obtain⟨k,hk,rfl⟩:=hs j y (by show (bif j == j then some y else Jd j l)=some y; rw[Q9 rfl]; rfl)
  have hr:∀ z y',Jd z l=some y'->∃ k'∈S.erase k,z=(k':Nat):=fun z y' hz=>by
   have ne:z≠(k:Int):=fun q=>by rw[q,jn] at hz; cases hz
   obtain⟨k',hk',e⟩:=hs z y' (by show (bif z == (k:Int) then some y else Jd z l)=some y'; rw[Db ne]; exact hz)
   exact⟨k',(List.mem_erase_of_ne oM).2 hk',e⟩
  have:=Zet h'.2 hr
  rw[List.length_erase_of_mem hk] at this
  have:0<S.length:=List.length_pos_of_mem hk
  rw[List.length_cons]
  omega
theorem Z1q {l:G9} {S:Lq} {z:Nat} (hu:Zgf l=true) (hs:∀ z y,Jd z l=some y->∃ k∈S,z=(k:Nat)) (hz:z∈S) (hn:Jd (z:Int) l=none):l.length+1<=S.length:=by
 have hr:∀ z' y',Jd z' l=some y'->∃ k'∈S.erase z,z'=(k':Nat):=fun z' y' h=>by
  obtain⟨k',hk',e⟩:=hs z' y' h
  subst e
  have ne:k'≠z:=fun q=>by rw[q,hn] at h; cases h
  exact⟨k',(List.mem_erase_of_ne ne).2 hk',rfl⟩
 have:=Zet hu hr
 rw[List.length_erase_of_mem hz] at this
 have:0<S.length:=List.length_pos_of_mem hz
 omega
def Gp (V:Nat->Lq) (z:Nat) (x:Lq):Nat->Lq:=fun y=>if y=z then x else V y
theorem Bg (V:Nat->Lq) (z:Nat) (x:Lq):Gp V z x z=x:=if_pos rfl
theorem Jo {V:Nat->Lq} {z y:Nat} {x:Lq} (h:y≠z):Gp V z x y=V y:=if_neg h
def HE (n q a b c e:Nat) (cr:Cr) (md:Int) (S T:Lq) (V:Nat->Lq) (h:Hq):Prop:=∃ d d1 d2 kn ld lt lc lm L,Bj lm=true/\Seen lm L/\Bj lt=true/\Bj lc=true/\Bj ld=true/\Zvg lt/\Zgf lt=true/\(∀ z y,Jd z lt=some y->∃ k∈S,z=(k:Nat))/\((cr.o=true->(S.length:Int)<=cr.c)/\Zgf lc=true/\∀ z y,Jd z lc=some y->∃ k∈cr.ch++S,z=(k:Nat))/\(∀ z y,Jd z ld=some y->∃ k∈T,z=(k:Nat))/\(∀ z,z<2+e+a * b->Bp a b c e (z:Int)=true->(V z).length=256/\Atd ld lc L z (pgL (V z)))/\Hv n d d1 d2 q a b c e cr md kn ld lt lc lm L h
noncomputable def Zyh (n q:Nat) (cr:Cr) (lt lc:G9) (h:Hq):Hq:=(((h.put (n+13) (.row 8 [stL (stH n q cr false)] false)).put (q+2) (.map (Uv lt))).put (n+15) (.map (Uv lc))).put (n+17) (.map [])
theorem Zq6 {n q:Nat} {cr:Cr} {h:Hq} (lt' lc':G9) {m:Nat} (o:m≠n+13/\m≠n+15/\m≠n+17/\m≠q+2):(Zyh n q cr lt' lc' h).get m=h.get m:=by
 unfold Zyh
 rw[Zc o.2.2.1,Zc o.2.1,Zc o.2.2.2,Zc o.1]
section
variable {n d d1 d2 q a b c e:Nat} {cr:Cr} {md:Int} {kn:Bool} {ld lt lc lm lm':G9} {L:List (List C)} {h h2:Hq} {S T:Lq} {V:Nat->Lq}
theorem Hv.keep (M:Hv n d d1 d2 q a b c e cr md kn ld lt lc lm L h) (hx:h.next<=h2.next) (k:∀ m,m<q+9->h2.get m=h.get m):Hv n d d1 d2 q a b c e cr md kn ld lt lc lm L h2:=by
 obtain⟨f1,f2,f3,f4,l1,l2,f5,f6,f7,f8,f9,f10,f11,f12,f13,f14,f15,f16,f17,f18,f19,f20,f21⟩:=M
 have db:=Zhr q cr
 refine⟨?_,f2,f3,oM,l1,l2,?_,?_,?_,?_,?_,?_,?_,?_,?_,?_,?_,?_,f17,?_,?_,fun o=>?_,?_⟩
 all_goals (rw[k _ oM]; first|assumption|exact f20 o)
theorem HE.keep (M:HE n q a b c e cr md S T V h) (hx:h.next<=h2.next) (k:∀ m,m<q+9->h2.get m=h.get m):HE n q a b c e cr md S T V h2:=by
 obtain⟨d,d1,d2,kn,ld,lt,lc,lm,L,f1,f2,f3,f4,f5,f6,f7,f8,f9,f10,f11,M⟩:=M
 exact⟨d,d1,d2,kn,ld,lt,lc,lm,L,f1,f2,f3,f4,f5,f6,f7,f8,f9,f10,f11,M.keep hx k⟩
theorem HE.nx (M:HE n q a b c e cr md S T V h):n+14<=q/\q+9<=h.next/\0<n:=by
 obtain⟨d,d1,d2,kn,ld,lt,lc,lm,L,f1,f2,f3,f4,f5,f6,f7,f8,f9,f10,f11,M⟩:=M
 exact⟨M.nq,M.nx,M.n0⟩
theorem HE.nxO [Opn cr] (M:HE n q a b c e cr md S T V h):n+23<=q/\q+9<=h.next/\0<n:=by
 obtain⟨d,d1,d2,kn,ld,lt,lc,lm,L,f1,f2,f3,f4,f5,f6,f7,f8,f9,f10,f11,M⟩:=M
 exact⟨M.hv6 opn,M.nx,M.n0⟩
theorem HE.cells (M:HE n q a b c e cr md S T V h):h.get 0=some Bt/\(∃ kn,h.get (n+13)=some (.row 8 [stL (stH n q cr kn)] false))/\(∃ d,h.get (n+12)=some (.row 9 [gdL (gdD n d a b c e md)] false))/\h.get (n+20)=some (.row 13 [txL (txH n q cr)] false):=by
 obtain⟨d,d1,d2,kn,ld,lt,lc,lm,L,f1,f2,f3,f4,f5,f6,f7,f8,f9,f10,f11,M⟩:=M
 exact⟨M.st,⟨kn,M.hs⟩,⟨d,M.hg⟩,M.ht⟩
theorem HE.len (M:HE n q a b c e cr md S T V h) {z:Nat} (hz:Bp a b c e (z:Int)=true) (z1:z<2+e+a * b):(V z).length=256:=by
 obtain⟨d,d1,d2,kn,ld,lt,lc,lm,L,f1,f2,f3,f4,f5,f6,f7,f8,f9,f10,f11,M⟩:=M
 exact (f11 z z1 hz).1
theorem HE.grow (M:HE n q a b c e cr md S T V h) {S':Lq} (s:∀ k∈S,k∈S') (l:(S'.length:Int)<=cr.c):HE n q a b c e cr md S' T V h:=by
 obtain⟨d,d1,d2,kn,ld,lt,lc,lm,L,f1,f2,f3,f4,f5,f6,f7,f8,f9,f10,f11,M⟩:=M
 exact⟨d,d1,d2,kn,ld,lt,lc,lm,L,f1,f2,f3,f4,f5,f6,f7,fun z y hz=>by obtain⟨k,hk,e⟩:=f8 z y hz; exact⟨k,s k hk,e⟩,⟨fun _=>l,f9.2.1,fun z y hz=>by obtain⟨k,hk,e⟩:=f9.2.2 z y hz; exact⟨k,List.mem_append.2 ((List.mem_append.1 hk).imp id (s k)),e⟩⟩,f10,f11,M⟩
def Kr (n q:Nat) (h h':Hq):Prop:=h.next<=h'.next/\∀ m,m<h.next->m≠n+6->h'.get m=h.get m
def Kp (n q:Nat) (h h':Hq):Prop:=h.next<=h'.next/\∀ m,m<h.next->Out n q m->h'.get m=h.get m
theorem Kr.kp {n q:Nat} {h h':Hq} (r:Kr n q h h'):Kp n q h h':=⟨r.1,fun m hm o=>r.2 m hm o.1.1⟩
theorem Kp.refl (n q:Nat) (h:Hq):Kp n q h h:=⟨Nat.le_refl _,fun _ _ _=>rfl⟩
theorem Kp.then {n q:Nat} {h h' h2:Hq} (r:Kp n q h h') (r2:Kp n q h' h2):Kp n q h h2:=⟨Nat.le_trans r.1 r2.1,fun m hm o=>(r2.2 m (Nat.lt_of_lt_of_le hm r.1) o).trans (r.2 m hm o)⟩
theorem Kp.of {n q:Nat} {h h':Hq} (hx:h.next<=h'.next) (k:∀ m,m<h.next->h'.get m=h.get m):Kp n q h h':=⟨hx,fun m hm _=>k m hm⟩
theorem HE.get (M:HE n q a b c e cr md S T V h) (fb:Yu a b c e=true) {z:Nat} (hz:Bp a b c e (z:Int)=true) (z1:z<2+e+a * b) :
  ∃ h',Zga [.c (.ptr (n+13) 0),.c (.int .i64 (z:Int))] h=some (.tup [.g (pgL (V z)),.c (.int .i64 0)],h')/\HE n q a b c e cr md S T V h'/\h'.next=h.next/\∀ m,m<h.next->m≠n+6->h'.get m=h.get m:=by
 obtain⟨d,d1,d2,kn,ld,lt,lc,lm,L,fl,sn,t3,t4,t5,t6,t7,t8,t9,tT,see,M⟩:=M
 have MM:=M
 obtain⟨g1,g2,g3,g4,g5,g6,g7,g8,g9,g10,g11⟩:=Z5 fb
 obtain⟨f1,f2,f3,f4,l1,l2,f5,f6,f7,f8,f9,f10,f11,f12,f13,f14,f15,f16,f17,f18,f19,f20,f21⟩:=M
 obtain⟨nl,at0⟩:=see z z1 hz
 have xl:(pgL (V z)).length=256:=by rw[J7,nl]
 have xf:=Zc3 (V z)
 have back:∀ {h2:Hq},h2=h->HE n q a b c e cr md S T V h2:=fun q=>by subst q; exact⟨d,d1,d2,kn,ld,lt,lc,lm,L,fl,sn,t3,t4,t5,t6,t7,t8,t9,tT,see,MM⟩
 obtain⟨x,hx⟩:=xzE (pgL (V z))
 rw[hx] at at0 xl xf ⊢
 have ld0:∀ z,Jd z []=none:=fun _=>rfl
 have e0:Q4 []=some []:=rfl
 obtain⟨N,hN⟩:=xzE (2+e+a * b)
 rw[hN] at f8 z1
 rcases at0 with hl|⟨hd,hl|⟨hl,hx⟩⟩
 ·have yl:(C.int .i64 (z:Int) :: x).length=257:=by rw[List.length_cons,xl]
  have yf:(C.int .i64 (z:Int) :: x).all C.flat=true:=by rw[List.all_cons,xf]; rfl
  have yt:(C.int .i64 (z:Int) :: x).drop 1=x:=rfl
  obtain⟨y,hy⟩:=xzE (C.int .i64 (z:Int) :: x)
  rw[hy] at hl yl yf yt
  exact⟨h,by unfold Zga S9; simp (maxSteps:=9^6) +decide (disch:=first|exact dZ|fail) only [go_sem,Zm,Zh,simprocAttr,f19,f5,f6,gdL,gdD,f16,f21,f18,fb,hz,hl,yl,yf,yt]<;>rfl,back rfl,rfl,fun _ _ _=>rfl⟩
 ·exact⟨h,by unfold Zga S9; simp (maxSteps:=9^6) +decide (disch:=first|exact dZ|fail) only [go_sem,Zm,Zh,simprocAttr,f19,f5,f6,gdL,gdD,f16,f21,f18,fb,hz,hd,hl,xl,xf,e0]<;>rfl,back rfl,rfl,fun _ _ _=>rfl⟩
 ·rcases hl2:Jd (z:Int) lm with _|y
  ·refine⟨h.put (n+6) (.map (Uv (Dp (z:Int) (x++[.bool false]) lm))),by unfold Zga S9 W9; simp (maxSteps:=9^6) +decide (disch:=first|exact dZ|fail) only [go_sem,Zm,Zh,simprocAttr,f19,f5,f6,gdL,gdD,f7,ckD,f8,f9,f10,f16,f21,f18,fb,hz,hd,hl,hl2,fl,hx,xl,xf,ld0,e0,Int.toNat_natCast]<;>rfl,⟨d,d1,d2,kn,ld,lt,lc,_,L,Da (by rw[List.all_append,xf]; rfl) fl,sn.upd hx,t3,t4,t5,t6,t7,t8,t9,tT,see,?_⟩,rfl,fun m _ hm=>Zc hm⟩
   obtain⟨f1,f2,f3,f4,l1,l2,f5,f6,f7,f8,f9,f10,f11,f12,f13,f14,f15,f16,f17,f18,f19,f20,f21⟩:=MM
   have db:=Zhr q cr
   refine⟨?_,f2,f3,f4,l1,l2,?_,?_,?_,?_,?_,?_,?_,?_,?_,?_,?_,?_,f17,Zz ..,?_,fun o=>?_,?_⟩
   all_goals (rw[Zc oM]; first|assumption|exact f20 o)
  ·obtain⟨x',hx',rfl⟩:=sn z y hl2
   rw[hx] at hx'
   cases hx'
   have yl:(x++[C.bool false]).length=257:=by rw[List.length_append,xl]; rfl
   have yf:(x++[C.bool false]).all C.flat=true:=by rw[List.all_append,xf]; rfl
   have yt:(x++[C.bool false]).take 256=x:=by rw[<-xl,List.take_left']; rfl
   obtain⟨y,hy⟩:=xzE (x++[C.bool false])
   rw[hy] at hl2 yl yf yt
   exact⟨h,by unfold Zga S9 W9; simp (maxSteps:=9^6) +decide (disch:=first|exact dZ|fail) only [go_sem,Zm,Zh,simprocAttr,f19,f5,f6,gdL,gdD,f7,ckD,f8,f9,f10,f16,f21,f18,fb,hz,hd,hl,hl2,yl,yf,yt,ld0,e0]<;>rfl,back rfl,rfl,fun _ _ _=>rfl⟩
theorem HE.put [Opn cr] (M:HE n q a b c e cr md S T V h) (fb:Yu a b c e=true) {z:Nat} (hz:Bp a b c e (z:Int)=true) (z1:z<2+e+a * b) {ns:Lq} (nl:ns.length=256) (zs:z∈S) (zt:z ∉ T) :
  ∃ h',Zr0 [.c (.ptr (n+13) 0),.c (.int .i64 (z:Int)),.g (pgL ns)] h=some (.w (.c (.int .i64 0)),h')/\HE n q a b c e cr md S T (Gp V z ns) h'/\h'.next=h.next/\∀ m,Off n q m->h'.get m=h.get m:=by
 obtain⟨d,d1,d2,kn,ld,lt,lc,lm,L,fl,sn,ft,fc,t5,vt,t7,t8,t9,tT,see,M⟩:=M
 have MM:=M
 have hd:Jd (z:Int) ld=none:=by
  rcases hl:Jd (z:Int) ld with _|y
  ·rfl
  ·obtain⟨k,hk,e⟩:=tT _ _ hl
   obtain rfl:z=k:=oM
   exact absurd hk zt
 obtain⟨g1,g2,g3,g4,g5,g6,g7,g8,g9,g10,g11⟩:=Z5 fb
 obtain⟨f1,f2,f3,f4,l1,l2,f5,f6,f7,f8,f9,f10,f11,f12,f13,f14,f15,f16,f17,f18,f19,f20,f21⟩:=M
 have xl:(pgL ns).length=256:=by rw[J7,nl]
 have xf:=Zc3 ns
 have fn:Bj []=true:=rfl
 have dn:Uv (Zhn (z:Int) [])=[]:=rfl
 have dq:=Yca (q:=q) (cr:=cr)
 have n23:=f17 opn
 have f20':=f20 opn
 have e1:Zr0 [.c (.ptr (n+13) 0),.c (.int .i64 (z:Int)),.g (pgL ns)] h=some (.w (.c (.int .i64 0)),Zyh n q cr (Dp (z:Int) [] lt) (Dp (z:Int) (pgL ns) lc) h):=by
  obtain⟨x,hx⟩:=xzE (pgL ns)
  rw[hx] at xl xf ⊢
  unfold Zr0 Zuv Zj7
  rcases hl:Jd (z:Int) lt with _|y
  ·have:=Z1q t7 t8 zs hl
   have t9':=t9.1 opn
   have tl':decide (((lt.length:Nat):Int)<cr.c)=true:=decide_eq_true oM
   simp (maxSteps:=9^6) +decide (disch:=first|exact dZ|fail) only [go_sem,Zm,Zh,simprocAttr,f19,f5,f6,gdL,gdD,f16,f11,f20',f21,f12,f14,f15,fb,hz,xl,xf,ft,fc,fn,hl,tl',dn,Zyh,C.flat]<;>rfl
  ·obtain rfl:=vt _ _ hl
   simp (maxSteps:=9^6) +decide (disch:=first|exact dZ|fail) only [go_sem,Zm,Zh,simprocAttr,f19,f5,f6,gdL,gdD,f16,f11,f20',f21,f12,f14,f15,fb,hz,xl,xf,ft,fc,fn,hl,dn,Zyh,C.flat]<;>rfl
 refine⟨_,e1,⟨d,d1,d2,false,ld,Dp (z:Int) [] lt,Dp (z:Int) (pgL ns) lc,lm,L,fl,sn,Da rfl ft,Da xf fc,t5,vt.upd _,Zin t7,fun z' y hz'=>?_,⟨t9.1,Zin t9.2.1,fun z' y hz'=>?_⟩,tT,fun z' z1' hz'=>?_,?_⟩,rfl,fun m o=>Zq6 _ _ ⟨o.2.1,o.2.2.1,o.2.2.2.1,o.2.2.2.2⟩⟩
 ·rw[Np] at hz'
  split at hz'
  ·rename_i w
   exact⟨z,zs,w⟩
  ·exact t8 z' y hz'
 ·rw[Np] at hz'
  split at hz'
  ·rename_i w
   exact⟨z,List.mem_append_right _ zs,w⟩
  ·exact t9.2.2 z' y hz'
 ·unfold Gp
  split
  ·rename_i w
   subst w
   exact⟨nl,.inr ⟨hd,At.put ..⟩⟩
  ·rename_i w
   obtain⟨q1,q2⟩:=see z' z1' hz'
   refine⟨q1,?_⟩
   rcases q2 with q2|⟨q2,q3⟩
   ·exact .inl q2
   ·exact .inr ⟨q2,q3.upd w⟩
 ·refine⟨?_,f2,f3,f4,l1,l2,?_,?_,?_,?_,?_,?_,?_,Zz _ _ _,?_,?_,?_,?_,f17,?_,?_,fun o=>?_,?_⟩
  all_goals (first|(rw[Zq6 _ _ ⟨oM,oM,oM,oM⟩]; assumption)|(unfold Zyh; simp (discharger:=omega) only [H.get_put,if_neg,if_true]))
end
noncomputable def q11 (p:Lq):Code:=piece p (J8 Tryz.f11)
theorem rs11:Tryz.f11.results.toList=[.cell 4 43,.tmp 5]:=rfl
theorem rs74:Tryz.f74.results.toList=[.tmp 6]:=rfl
theorem rs27:Tryz.f27.results.toList=[.tmp 6]:=rfl
attribute [go_sem] rs11 rs74 rs27
section
variable (Hh:Hearts K Tryz.prog)
include Hh
variable {n q a b c e:Nat} {cr:Cr} {md:Int} {S T:Lq} {V:Nat->Lq} {h:Hq}
theorem Z1i (f:Yu a b c e=true) (M:HE n q a b c e cr md S T V h) (z:Int) :
  ∃ h',Zb 11 [.c (.ptr (n+13) 0),.c (.int .i64 z)] h (.tup [.g (gI a b c e V z).1,.c (.int .i64 (gI a b c e V z).2)]) h'/\HE n q a b c e cr md S T V h'/\Kr n q h h':=by
 obtain⟨nq,nx,n0⟩:=M.nx
 obtain⟨st,⟨kn,hs⟩,⟨dd0,gl⟩,ht⟩:=M.cells
 unfold gdL gdD at gl
 obtain⟨g1,g2,g3,g4,g5,g6,g7,g8,g9,g10,g11⟩:=Z5 f
 by_cases hz:1<=z/\z<=((a * c:Nat):Int)
 ·obtain⟨j,hj⟩:=xzE (z.toNat - 1)
  obtain⟨z1,z2⟩:=hz
  obtain rfl:z=((j+1:Nat):Int):=oM
  have jl:j<a * c:=oM
  have qg:gI a b c e V ((j+1:Nat):Int)=Ve (V (Y0 b c e j)) (La c j):=by
   unfold gI
   rw[if_pos ⟨z1,z2⟩,hj]
  rw[qg]
  have pc:=Rw c j
  have ka:j / c<a:=Nat.div_lt_of_lt_mul (by rw[Nat.mul_comm]; omega)
  have tc:j % c<c:=Nat.mod_lt _ oM
  have st:=Dc (b:=b) ka
  obtain⟨z,hz⟩:=xzE (Y0 b c e j)
  obtain⟨p,hp⟩:=xzE (La c j)
  rw[hz]
  rw[hp] at pc ⊢
  unfold Y0 at hz
  unfold La at hp
  have zl:z<2+e+a * b:=oM
  have oz:=Df (z:=z) (Z5 f) oM zl
  have t1:((j+1:Nat):Int).toNat - 1=j:=oM
  have d1:decide (1<=((j+1:Nat):Int))=true:=decide_eq_true oM
  have d2:decide (((j+1:Nat):Int)<=((a * c:Nat):Int))=true:=decide_eq_true oM
  have nl:=M.len oz zl
  have c2:=Z56 Hh nl pc
  have il:=Z0r (V z) p
  obtain⟨y,hy⟩:=xzE ((Ve (V z) p).1)
  obtain⟨er,her⟩:∃ y,(Ve (V z) p).2=y:=⟨_,rfl⟩
  rw[hy] at il
  rw[hy,her] at c2 ⊢
  have xl:(pgL (V z)).length=256:=by rw[J7,nl]
  have hG:=fun {h:Hq} (M:HE n q a b c e cr md S T V h)=>M.get f oz zl
  obtain⟨x,hxx⟩:=xzE (pgL (V z))
  rw[hxx] at c2 xl
  simp only[hxx] at hG
  refine Ow ?_
  refine Ym Hh Tryz.f11 ?_
  have Jf:=Y2 @f (Yp @hs @gl @t1 @d1 @d2 @hz @hp @xl @il)
  iterate 17 (first|refine Goes.Zi O5 ?_|refine Zn Hh (EY (EY (EY Za (Zff Hh)) (J3 Hh)) (Td Hh)) O5 ?_|apply gS)
  refine Jq fun hA eA=>?_
  have nA:hA.next=h.next+1:=nxQ eA
  have kA:∀ m,m<h.next->hA.get m=h.get m:=kQ eA
  obtain⟨w,wl,cA⟩:∃ w:List C,w.length=16/\hA.get h.next=some (.row 16 [w] false):=⟨_,Zqn,by rw[eA]; exact Yi⟩
  clear eA
  obtain⟨hA1,e1,MA1,nA1,rA⟩:=hG (M.keep (h2:=hA) oM (fun m hm=>kA m oM))
  have c1:=Eo Hh e1
  have cA1:=(rA h.next oM oM).trans cA
  iterate 3 (first|refine Zn Hh (Zj Za c1) O5 ?_|apply gS)
  have Jf:=J4 Jf @nA @nA1 @cA1
  iterate 4 (first|refine Goes.Zi O5 ?_|refine Zn Hh Za O5 ?_|apply gS)
  refine Jq fun hB eB=>?_
  have nB:hB.next=h.next+1+1:=by rw[eB]; simp only[H.Zf,H.Ze,nA1,nA]
  have kB:∀ m,m<hA1.next->hB.get m=hA1.get m:=kQ eB
  have cB:hB.get h.next=some (.row 16 [w] false):=(kB _ oM).trans cA1
  have bB:hB.get (h.next+1)=some (.row 256 [x] false):=by rw[eB]; exact Zt
  clear eB
  have MB:=MA1.keep (h2:=hB) oM (fun m hm=>kB m oM)
  have c3:=c2 hB
  have Jf:=Gq Jf @nB @cB @bB @wl
  iterate 2 (first|refine Zn Hh (Zj Za c3) O5 ?_|apply gS)
  refine⟨_,_,Zt,rfl,MB.keep ?_ (fun m hm=>?_),?_,fun m hm hne=>?_⟩
  ·first|omega|(simp only[H.Zf,H.Ze]<;>omega)
  ·exact Yn
  ·first|omega|(simp only[H.Zf,H.Ze]<;>omega)
  ·refine Eq.trans ?_ ((kB m oM).trans ((rA m oM hne).trans (kA m hm))); exact Yn
 ·have qg:gI a b c e V z=(ino0,2):=by unfold gI; rw[if_neg hz]
  rw[qg]
  have dd:(decide (1<=z)&&decide (z<=((a * c:Nat):Int)))=false:=by
   rw[<-Bool.decide_and]
   exact decide_eq_false hz
  refine Ow ?_
  refine Ym Hh Tryz.f11 ?_
  have Jf:=J4 @f @hs @gl @dd
  iterate 18 (first|refine Goes.Zi O5 ?_|refine Zn Hh (EY (EY (EY Za (Zff Hh)) (J3 Hh)) (Td Hh)) O5 ?_|apply gS)
  refine⟨_,_,Yi,rfl,M.keep ?_ (fun m hm=>?_),?_,fun m hm hne=>?_⟩
  ·first|omega|(simp only[H.Zf,H.Ze]<;>omega)
  ·exact Yn
  ·first|omega|(simp only[H.Zf,H.Ze]<;>omega)
  ·exact Yn
variable [Opn cr]
theorem Zv5 (f:Yu a b c e=true) (M:HE n q a b c e cr md S T V h) {j:Nat} (jl:j<a * c) (js:Y0 b c e j∈S) (jt:Y0 b c e j ∉ T) {ms:Lq} (ml:ms.length=256) {y:List C} (yl:y.length=16)
  (hi:∀ h m,h.get m=some (.row 256 [pgL (V (Y0 b c e j))] false)->m<h.next->∃ h',Zb 148 [.c (.ptr m 0),.c (.int .i64 (La c j:Nat)),.g y] h (.w (.c (.int .i64 0))) h'/\h.next<=h'.next/\h'.get m=some (.row 256 [pgL ms] false)/\∀ k,k<h.next->k≠m->h'.get k=h.get k) :
  ∃ h',Zb 74 [.c (.ptr (n+13) 0),.c (.int .i64 ((j+1:Nat):Int)),.g y] h (.w (.c (.int .i64 0))) h'/\HE n q a b c e cr md S T (Gp V (Y0 b c e j) ms) h'/\Kp n q h h':=by
 obtain⟨g1,g2,g3,g4,g5,g6,g7,g8,g9,g10,g11⟩:=Z5 f
 have ka:j / c<a:=Nat.div_lt_of_lt_mul (by rw[Nat.mul_comm]; omega)
 have tc:j % c<c:=Nat.mod_lt _ oM
 have st:=Dc (b:=b) ka
 obtain⟨z,hz⟩:=xzE (Y0 b c e j)
 obtain⟨p,hp⟩:=xzE (La c j)
 rw[hz] at js jt ⊢
 rw[hp,hz] at hi
 unfold Y0 at hz
 unfold La at hp
 have zl:z<2+e+a * b:=oM
 have oz:=Df (z:=z) (Z5 f) oM zl
 have t1:((j+1:Nat):Int).toNat - 1=j:=oM
 have d1:decide (1<=((j+1:Nat):Int))=true:=decide_eq_true oM
 have d2:decide (((j+1:Nat):Int)<=((a * c:Nat):Int))=true:=decide_eq_true oM
 have xl:(pgL (V z)).length=256:=by rw[J7,M.len oz zl]
 have wl:(pgL ms).length=256:=by rw[J7,ml]
 have hG:=fun {h:Hq} (M:HE n q a b c e cr md S T V h)=>M.get f oz zl
 have hP:=fun {h:Hq} (M:HE n q a b c e cr md S T V h)=>M.put f oz zl ml js jt
 obtain⟨x,hxx⟩:=xzE (pgL (V z))
 obtain⟨v,hww⟩:=xzE (pgL ms)
 rw[hxx] at xl
 rw[hww] at wl
 simp only[hxx,hww] at hi hG hP
 obtain⟨nq,nx,n0⟩:=M.nx
 obtain⟨st,⟨kn,hs⟩,⟨dd0,gl⟩,ht⟩:=M.cells
 unfold gdL gdD at gl
 obtain⟨v',h',cc,rfl,M',kk⟩:∃ v' h',Zb 74 [.c (.ptr (n+13) 0),.c (.int .i64 ((j+1:Nat):Int)),.g y] h v' h'/\v'=.w (.c (.int .i64 0))/\HE n q a b c e cr md S T (Gp V z ms) h'/\Kp n q h h':=by
  refine Ym Hh Tryz.f74 ?_
  have Jf:=Jh @f @hs (Yp @gl @t1 @d1 @d2 @hz @hp @xl @wl @yl)
  iterate 10 (first|refine Goes.Zi Ux ?_|refine Zn Hh (EY (EY Za (J3 Hh)) (Td Hh)) Ux ?_|apply gS)
  refine Jq fun hA eA=>?_
  have nA:hA.next=h.next+1:=nxQ eA
  have kA:∀ m,m<h.next->hA.get m=h.get m:=kQ eA
  have cA:hA.get h.next=some (.row 16 [y] false):=by rw[eA]; exact Yi
  clear eA
  obtain⟨hA1,e1,MA1,nA1,rA⟩:=hG (M.keep (h2:=hA) oM (fun m hm=>kA m oM))
  have c1:=Eo Hh e1
  have cA1:=(rA h.next oM oM).trans cA
  have kA1:∀ m,m<h.next->m≠n+6->hA1.get m=h.get m:=fun m hm hne=>(rA m oM hne).trans (kA m hm)
  iterate 3 (first|refine Zn Hh (Zj Za c1) Ux ?_|apply gS)
  have Jf:=J4 Jf @nA @nA1 @cA1
  iterate 5 (first|refine Goes.Zi Ux ?_|refine Zn Hh Za Ux ?_|apply gS)
  refine Jq fun hB eB=>?_
  have nB:hB.next=h.next+1+1:=by rw[eB]; simp only[H.Zf,H.Ze,nA1,nA]
  have cB:hB.get h.next=some (.row 16 [y] false):=by rw[eB]; refine Eq.trans ?_ cA1; exact Yn
  have kB:∀ m,m<h.next->m≠n+6->hB.get m=h.get m:=fun m hm hne=>by rw[eB]; refine Eq.trans ?_ (kA1 m hm hne); exact Yn
  have bB:hB.get (h.next+1)=some (.row 256 [x] false):=by rw[eB]; exact Zt
  have MB:=MA1.keep (h2:=hB) oM (fun m hm=>by rw[eB]; exact Yn)
  clear eB
  obtain⟨hC,c2,nC,bC,kC⟩:=hi hB _ bB oM
  have MC:=MB.keep nC (fun m hm=>kC m oM oM)
  have r16:Zm 16 [y] 0 16=some y:=Lm oM
  have Jf:=Gq Jf @nB @cB @bB @r16
  iterate 6 (first|refine Goes.Zi Ux ?_|refine Zn Hh (Zj Za c2) Ux ?_|apply gS)
  obtain⟨hP',e3,MP,nP,kP⟩:=hP MC
  have c3:=N7 Hh e3
  have Jf:=Y2 Jf @bC
  iterate 2 (first|refine Zn Hh (Zj Za c3) Ux ?_|apply gS)
  exact⟨_,_,Yi,rfl,MP,oM,fun m hm ho=>(kP m ho.1).trans ((kC m oM oM).trans (kB m hm ho.1.1))⟩
 exact⟨h',cc,M',kk⟩
theorem Ycq (f:Yu a b c e=true) (M:HE n q a b c e cr md S T V h) {j:Nat} (jl:j<a * c) (js:Y0 b c e j∈S) (jt:Y0 b c e j ∉ T) {k l g s p0 p1 p2 p3 p4 p5 p6 p7 p8 p9 p10 nx:Nat} (kb:k<256) (lb:l<65536) (gb:g<4294967296) (sb:s<4294967296) (pb:∀ v∈[p0,p1,p2,p3,p4,p5,p6,p7,p8,p9,p10],v<4294967296) (nb:nx<4294967296) (hm:Ziq k l s p0 p1 p2 p3 p4 p5 p6 p7 p8 p9 p10 nx=true) :
  ∃ h',Zb 27 [.c (.ptr (n+13) 0),.c (.int .i64 ((j+1:Nat):Int)),.g (Ra k l g s p0 p1 p2 p3 p4 p5 p6 p7 p8 p9 p10 nx)] h (.w (.c (.int .i64 0))) h'/\HE n q a b c e cr md S T (Gp V (Y0 b c e j) (Ed (V (Y0 b c e j)) (La c j) k l g s [p0,p1,p2,p3,p4,p5,p6,p7,p8,p9,p10] nx)) h'/\Kp n q h h':=by
 have d1:decide (1<=((j+1:Nat):Int))=true:=decide_eq_true oM
 have d2:decide (((j+1:Nat):Int)<=((a * c:Nat):Int))=true:=decide_eq_true oM
 have pc:=Rw c j
 obtain⟨g1,g2,g3,g4,g5,g6,g7,g8,g9,g10,g11⟩:=Z5 f
 have nl:(V (Y0 b c e j)).length=256:=by
  have ka:j / c<a:=Nat.div_lt_of_lt_mul (by rw[Nat.mul_comm]; omega)
  have tc:j % c<c:=Nat.mod_lt _ oM
  have st:=Dc (b:=b) ka
  exact M.len (Df (Z5 f) (by unfold Y0; omega) (by unfold Y0; omega)) (by unfold Y0; omega)
 have ml:(Ed (V (Y0 b c e j)) (La c j) k l g s [p0,p1,p2,p3,p4,p5,p6,p7,p8,p9,p10] nx).length=256:=by rw[Zgt oM,nl]
 have cI:=fun h=>Zns Hh k l g s p0 p1 p2 p3 p4 p5 p6 p7 p8 p9 p10 nx h
 rw[hm] at cI
 have yl:(Ra k l g s p0 p1 p2 p3 p4 p5 p6 p7 p8 p9 p10 nx).length=16:=rfl
 change ∀ h,Zb 73 [.g (Ra k l g s p0 p1 p2 p3 p4 p5 p6 p7 p8 p9 p10 nx)] h (.w (.c (.bool true))) h at cI
 have hW:=fun (h:Hq) (M:HE n q a b c e cr md S T V h)=>Zv5 Hh f M jl js jt ml yl fun h m q1 q2=>Zv6 Hh nl pc kb lb gb sb pb nb hm q1 q2
 obtain⟨y,hy⟩:=xzE (Ra k l g s p0 p1 p2 p3 p4 p5 p6 p7 p8 p9 p10 nx)
 rw[hy] at yl cI ⊢
 simp only[hy] at hW
 obtain⟨V',hV⟩:=xzE (Gp V (Y0 b c e j) (Ed (V (Y0 b c e j)) (La c j) k l g s [p0,p1,p2,p3,p4,p5,p6,p7,p8,p9,p10] nx))
 rw[hV]
 simp only[hV] at hW
 obtain⟨nq,nx',n0⟩:=M.nx
 obtain⟨st,⟨kn,hs⟩,⟨dd0,gl⟩,ht⟩:=M.cells
 unfold gdL gdD at gl
 refine Ow ?_
 refine Ym Hh Tryz.f27 ?_
 have Jf:=Ng @f @hs @gl @ht @d1 @d2 @yl
 iterate 18 (first|refine Goes.Zi Ux ?_|refine Zn Hh (EY (EY (EY Za (Zmf Hh)) (J3 Hh)) (Td Hh)) Ux ?_|apply gS)
 iterate 4 (first|refine Goes.Zi Ux ?_|refine Zn Hh (Y3 Za cI) Ux ?_|apply gS)
 refine Jq fun hA eA=>?_
 have nA:hA.next=h.next+1:=nxQ eA
 have kA:∀ m,m<h.next->hA.get m=h.get m:=kQ eA
 have cA:hA.get h.next=some (.row 16 [y] false):=by rw[eA]; exact Yi
 clear eA
 obtain⟨hC,c9,MC,kC⟩:=hW hA (M.keep oM (fun m hm=>kA m oM))
 have nC:=kC.1
 have Jf:=Jh Jf @nA @cA
 iterate 2 (first|refine Zn Hh (Zj Za c9) Ux ?_|apply gS)
 exact⟨_,_,Yi,rfl,MC,oM,fun m hm ho=>(kC.2 m oM ho).trans (kA m hm)⟩
end
attribute [go_sem] ty3 sz3 ag3 de3 ze3 ke3 ty22 sz22 ag22 de22 el22
theorem rs204:Tryz.f204.results.toList=[.tmp 4]:=rfl
theorem rs130:Tryz.f130.results.toList=[.tmp 4]:=rfl
attribute [go_sem] rs204 rs130
def rwI (l:Lq):List (List C):=l.map fun (x:Nat)=>[.int .i64 (x:Int)]
theorem Zg1 (l:Lq):(rwI l).length=l.length:=by simp [rwI]
theorem Yat {l:Lq} {k x:Nat} (h:l[k]? = some x):(rwI l)[k]? = some [.int .i64 (x:Int)]:=by simp [rwI,h]
theorem rdI {l:Lq} {k x:Nat} (h:l[k]? = some x):read1 1 (rwI l) k=some (.int .i64 (x:Int)):=by
 have:=Fa (sz:=1) (i:=k) (j:=0) oM (Yat h)
 rw[Nat.mul_one,Nat.add_zero] at this
 exact this
def SlI (h:Hq) (c:C) (l:Lq):Prop:=(l=[]/\c=.snil)\/∃ p,0<l.length/\c=.slice p 0 l.length 1/\h.get p=some (.row 1 (rwI l) false)
theorem SlI.keep {h h2:Hq} {c:C} {l:Lq} (s:SlI h c l) (k:∀ p o n z,c=.slice p o n z->h2.get p=h.get p):SlI h2 c l:=by
 rcases s with s|⟨p,h1,rfl,h2⟩
 ·exact .inl s
 ·exact .inr ⟨p,h1,rfl,(k _ _ _ _ rfl).trans h2⟩
theorem Z1s (p o l:Nat):Y4 K 22 (.c (.slice p o l 1))=true:=kR
theorem Zwa:Y4 K 22 (.c .snil)=true:=kR
section
variable (Hh:Hearts K Tryz.prog)
include Hh
end
theorem Z8t:K.types.get 22=some ti22:=kR
theorem Z2z (n off len sz:Nat):Jt K 22 (.slice n off len sz)=true:=by unfold Jt; rw[Z8t]; rfl
theorem Z7g:Jt K 22 .snil=true:=by unfold Jt; rw[Z8t]; rfl
theorem Ybp:ti3.bytes=8:=rfl
theorem Ydf:ti3.size=1:=rfl
theorem Yby (h:Hq) (c:C):Js h 1 (some ti3) (some [(0,.c c)])=some (.w (.c (.slice h.next 0 1 1)),h.new (.row 1 [[c]] false)):=rfl
theorem Yck {h:Hq} {n:Nat} {L:List (List C)} (x:List C) (ho:h.get n=some (.row 1 L false)) (hn:n<h.next) (hl:L.length<=4000) :
  O3 (h.new (.row 1 [x] false)) (some ti3) (.slice n 0 L.length 1) (.slice h.next 0 1 1)=some (.w (.c (.slice (h.next+1) 0 (L.length+1) 1)),((h.new (.row 1 [x] false)).del n).new (.row 1 (L++[x]) false)) :=
 Zkx (M:=[x]) Ydf (by rw[H.Zp,if_neg oM]; exact ho) (by rw[H.Zp,if_pos rfl]) (by simp) (by rw[Ybp]; show (L.length+1) * 8<=_; omega) (by show L.length+1<=_; omega)
theorem Z9u {h:Hq} (x:List C) :
  O3 (h.new (.row 1 [x] false)) (some ti3) .snil (.slice h.next 0 1 1)=some (.w (.c (.slice (h.next+1) 0 1 1)),(h.new (.row 1 [x] false)).new (.row 1 [x] false)) :=
 append_nil (M:=[x]) Ydf (by rw[H.Zp,if_pos rfl]) (by simp) (by rw[Ybp]; show 1 * 8<=_; omega) (by show 1<=_; omega)
theorem Z2x (l:Lq) (x:Nat):rwI l++[[.int .i64 (x:Int)]]=rwI (l++[x]):=by simp [rwI]
theorem Yew {h:Hq} {c:C} {l:Lq} (s:SlI h c l):Jt K 22 c=true:=by
 rcases s with ⟨_,rfl⟩|⟨p,_,rfl,_⟩
 ·exact Z7g
 ·exact Z2z ..
theorem Ycv {h:Hq} {c:C} {l:Lq} (s:SlI h c l):Y4 K 22 (.c c)=true/\∀ h,Jl K h 22 (.c c)=some (.int .i64 (l.length:Nat)):=by
 rcases s with ⟨rfl,rfl⟩|⟨p,_,rfl,_⟩
 ·exact⟨Zwa,fun _=>rfl⟩
 ·exact⟨Z1s ..,fun _=>rfl⟩
end Go.Proofs.YtmanipmhebgdbaaGreatDoor
