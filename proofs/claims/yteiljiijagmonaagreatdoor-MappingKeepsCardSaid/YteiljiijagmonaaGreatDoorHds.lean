/- A store in whose handle calls read and put: what is seen of each block; the blocks that may be put. n: where the store began; q: where Begin began. -/
import Derived.Test.YteiljiijagmonaaGreatDoorHba
import Derived.Test.YteiljiijagmonaaGreatDoorPag
set_option maxRecDepth 100000
set_option maxHeartbeats 4000000
set_option linter.unusedSimpArgs false
set_option linter.unusedVariables false
set_option linter.unusedSectionVars false
namespace Go.Proofs.YteiljiijagmonaaGreatDoor
open Go.Ev
structure Cr where
 c:Int
 r:Int
 o:Bool
 ch:Lq
 fr:Lq
 rv:Lq
 sh:Nat
abbrev Cr.on (c r:Int) (ch:Lq):Cr:=⟨c,r,true,ch,[],[],0⟩
abbrev Cr.op (c r:Int):Cr:=Cr.on c r []
abbrev Opn (cr:Cr):Prop:=Nonempty (PLift (cr.o=true/\cr.fr=[]/\cr.rv=[]/\cr.sh=0))
instance opnI {c r:Int} {ch:Lq}:Opn ⟨c,r,true,ch,[],[],0⟩:=⟨⟨rfl,rfl,rfl,rfl⟩⟩
theorem opn {cr:Cr} [i:Opn cr]:cr.o=true:=by
 obtain⟨⟨h⟩⟩:=i
 exact h.1
theorem Z0a {cr:Cr} [i:Opn cr]:cr.fr=[]:=by
 obtain⟨⟨h⟩⟩:=i
 exact h.2.1
theorem Z7p {cr:Cr} [i:Opn cr]:cr.rv=[]:=by
 obtain⟨⟨h⟩⟩:=i
 exact h.2.2.1
theorem Ya6 {cr:Cr} [i:Opn cr]:cr.sh=0:=by
 obtain⟨⟨h⟩⟩:=i
 exact h.2.2.2
def oI (o:Bool) (x:Int):Int:=bif o then x else 0
def oC (o:Bool) (x y:C):C:=bif o then x else y
theorem Ya0 (x:Int):oI true x=x:=rfl
theorem Yaz (x y:C):oC true x y=x:=rfl
def txH (n q:Nat) (cr:Cr):Tx:=⟨n+15,n+16,n+17,n+19,1,cr.o,oI cr.o cr.c,oI cr.o cr.r,oC cr.o (.map (q+2)) .mnil,oC cr.o (.map (q+6+cr.sh)) .mnil,oC cr.o (.map (q+7+cr.sh)) .mnil,oC cr.o (.map (q+8+cr.sh)) .mnil,oC cr.o (.ptr (q+5) 0) .pnil⟩
def dtN (q:Nat) (cr:Cr):Nat:=bif cr.o then q else q+7
def stH (n q:Nat) (cr:Cr) (kn:Bool):Stt:=⟨n+12,n+20,dtN q cr,dtN q cr+1,.snil,kn⟩
theorem Z9e {q:Nat} {cr:Cr} [Opn cr]:dtN q cr=q:=by unfold dtN; rw[opn]; rfl
theorem Zl8 (q:Nat) (cr:Cr):dtN q cr=q\/dtN q cr=q+7:=by
 unfold dtN
 cases cr.o with
 | true=>exact .inl rfl
 | false=>exact .inr rfl
attribute [go_sem] opn Ya0 Yaz txH stH
def txC (n q:Nat) (cr:Cr):Tx:=⟨n+15,n+16,n+17,n+19,1,true,cr.c,cr.r,.map (q+2),.map (q+6+cr.sh),.map (q+7+cr.sh),.map (q+8+cr.sh),.ptr (q+5) 0⟩
theorem J3 {p:Prop} (g:p:=by simp (maxSteps:=9^6) +decide (disch:=first|exact dZ|fail) only [go_sem,Zh,simprocAttr,Z4,stG,txC,Jr,Jf]<;>rfl):p:=g
theorem Ji {p:Prop} (g:p:=by simp (maxSteps:=9^6) +decide (disch:=first|exact dZ|fail) only [go_sem,Zh,simprocAttr,Z4,stG,txC,Jr,Yy,Zt,Jf]<;>rfl):p:=g
theorem Rv {p:Prop} (g:p:=by simp (maxSteps:=9^6) +decide (disch:=first|exact dZ|fail) only [go_sem,Zh,simprocAttr,Z4,stG,txC,Jr,read1,Jf]<;>rfl):p:=g
theorem Zyg {p:Prop} (g:p:=by simp (maxSteps:=9^6) +decide (disch:=first|exact dZ|fail) only [go_sem,Zh,simprocAttr,Z4,stG,txC,Jr,read1,drG,Jf]<;>rfl):p:=g
theorem Lx {p:Prop} (g:p:=by simp (maxSteps:=9^6) +decide (disch:=first|exact dZ|fail) only [go_sem,Zh,simprocAttr,Z4,stG,txC,Jr,read1,Yy,Zt,Jf]<;>rfl):p:=g
theorem Gt {p:Prop} (g:p:=by simp (maxSteps:=9^6) +decide (disch:=first|exact dZ|fail) only [go_sem,Zh,simprocAttr,Z4,stG,txC,Jr,read1,Yy,Zt,Xj,List.map_cons,List.map_nil,List.cons_append,List.nil_append,Jf]<;>rfl):p:=g
theorem Zce {p:Prop} (g:p:=by simp (maxSteps:=9^6) +decide (disch:=first|exact dZ|fail) only [go_sem,Zk,Zh,simprocAttr,Z4,stG,txC,Jr,read1,Yy,Zt,Jf]<;>rfl):p:=g
def gdD (n d a b c e:Nat) (md:Int):Gd:=⟨a,b,c,e,md,d,n+8,n+9,n+11⟩
def ckD (n d:Nat):Ck:=⟨d,n+6,n+7⟩
def FrM (o:Option O) (F:Lq):Prop:=∃ lf,o=some (.map (Y5 (vdE lf)))/\∀ z∈lf,∃ k∈F,z=((k:Nat):Int)
def RcM (o:Option O) (R:Lq):Prop:=∃ lr,o=some (.map (Fu 1 lr))/\lr.Nodup/\∀ z∈lr,∃ k∈R,z=((k:Nat):Int)
def GvM (o:Option O) (F:Lq):Prop:=∃ lg,o=some (.map (gvE lg))/\lg.Nodup/\∀ z∈lg,∃ k∈F,z=((k:Nat):Int)
theorem Nh {o:Option O}:FrM o [] ↔ o=some (.map []):=by
 constructor
 ·rintro⟨lf,rfl,h⟩
  cases lf with
  | nil=>rfl
  | cons p l=>obtain⟨k,hk,_⟩:=h p (List.mem_cons_self ..); cases hk
 ·rintro rfl
  exact⟨[],rfl,(fun _ e=>by cases e)⟩
theorem Xm {o:Option O}:RcM o [] ↔ o=some (.map []):=by
 constructor
 ·rintro⟨lf,rfl,_,h⟩
  cases lf with
  | nil=>rfl
  | cons p l=>obtain⟨k,hk,_⟩:=h p (List.mem_cons_self ..); cases hk
 ·rintro rfl
  exact⟨[],rfl,List.nodup_nil,(fun _ e=>by cases e)⟩
theorem Xb {o:Option O}:GvM o [] ↔ o=some (.map []):=by
 constructor
 ·rintro⟨lf,rfl,_,h⟩
  cases lf with
  | nil=>rfl
  | cons p l=>obtain⟨k,hk,_⟩:=h p (List.mem_cons_self ..); cases hk
 ·rintro rfl
  exact⟨[],rfl,List.nodup_nil,(fun _ e=>by cases e)⟩
def Rp:Ut->Bool
 | []=>true
 | (k,_) :: l=>(Ym k l).isNone&&Rp l
theorem Tt {k:Int} {x:List C}:∀ {l:Ut},Rp l=true->Rp (Ol k x l)=true
 | [],_=>rfl
 | (j,y) :: l,h=>by
  have h':((Ym j l).isNone&&Rp l)=true:=h
  rw[aQ] at h'
  show Rp (bif k == j then (k,x) :: l else (j,y) :: Ol k x l)=true
  by_cases e:k=j
  ·subst e
   rw[O7 rfl]
   exact h
  ·rw[U7 e]
   show ((Ym j (Ol k x l)).isNone&&Rp (Ol k x l))=true
   rw[Eo,if_neg (Ne.symm e),h'.1,Tt h'.2]
   rfl
structure SeenP (a b c e:Nat) (lm:Ut) (L:List (List C)):Prop where
 s:Seen lm L
 u:Rp lm=true
 p:∀ z,z<2+e+a * b->Uu a b c e (z:Int)=true->∃ ns,ns.length=256/\L[z]? = some (pgL ns)
theorem SeenP.upd {a b c e:Nat} {lm:Ut} {L:List (List C)} (h:SeenP a b c e lm L) {z:Nat} {x:List C} (hx:L[z]? = some x):SeenP a b c e (Ol (z:Int) (x++[.bool false]) lm) L:=⟨h.s.upd hx,Tt h.u,h.p⟩
theorem Zk4 {a b c e:Nat} {L:List (List C)} {V:Nat->Lq} (see:∀ z,z<2+e+a * b->Uu a b c e (z:Int)=true->(V z).length=256/\L[z]? = some (pgL (V z))):SeenP a b c e [] L:=⟨Z0u L,rfl,fun z h1 h2=>⟨V z,see z h1 h2⟩⟩
structure Hv (n d d1 d2 q a b c e:Nat) (cr:Cr) (md:Int) (kn:Bool) (ld lt lc lm:Ut) (L:List (List C)) (h:Hq):Prop where
 st:h.get 0=some Bj
 n0:0<n
 nq:n+14<=q
 nx:q+9<=h.next
 l1:d<n+5
 l2:d2<n+5
 ht:h.get (n+20)=some (.row 13 [txL (txH n q cr)] false)
 hg:h.get (n+12)=some (.row 9 [gdL (gdD n d a b c e md)] false)
 hc:h.get (n+8)=some (.row 3 [ckL (ckD n d)] false)
 hd:h.get d=some (.row 6 [dkL ⟨d1,d2,2+e+a * b,.snil,0,0⟩] false)
 hq:h.get d2=some (.row 256 L false)
 hli:h.get (n+11)=some (.row 8 [[.bool true,.int .i64 (a:Int),.int .i64 (b:Int),.int .i64 (c:Int),.int .i64 (e:Int),.bool false,.int .u32 0,.snil]] false)
 hgv:GvM (h.get (dtN q cr+1)) cr.fr
 hfr:FrM (h.get (n+17)) cr.fr
 hod:h.get (n+16)=some (.map [])
 hrv:h.get (n+19)=some (.row 1 [[.map (n+18)]] false)
 hrc:RcM (h.get (n+18)) cr.rv
 hdt:h.get (dtN q cr)=some (.map (Y5 ld))
 hv6:cr.o=true->n+23<=q
 hm:h.get (n+6)=some (.map (Y5 lm))
 hs:h.get (n+13)=some (.row 8 [stL (stH n q cr kn)] false)
 hto:cr.o=true->h.get (q+2)=some (.map (Y5 lt))
 hch:h.get (n+15)=some (.map (Y5 lc))
 hpn:h.get (n+7)=some (.map [])
def Out (n q m:Nat):Prop:=Off n q m/\m≠q
def Atd (ld lc:Ut) (L:List (List C)) (z:Nat) (x:List C):Prop:=Ym (z:Int) ld=some (.int .i64 (z:Int) :: x)\/Ym (z:Int) ld=none/\At lc L z x
theorem Zap:∀ {l:Ut} {S:Lq},Rp l=true->(∀ z y,Ym z l=some y->∃ k∈S,z=(k:Nat))->l.length<=S.length
 | [],S,_,_=>Nat.zero_le _
 | (j,y) :: l,S,hu,hs=>by
  have h':((Ym j l).isNone&&Rp l)=true:=hu
  rw[aQ] at h'
  have jn:Ym j l=none:=by simpa using h'.1
  obtain⟨k,hk,rfl⟩:=hs j y (by show (bif j == j then some y else Ym j l)=some y; rw[O7 rfl]; rfl)
  have hr:∀ z y',Ym z l=some y'->∃ k'∈S.erase k,z=(k':Nat):=fun z y' hz=>by
   have ne:z≠(k:Int):=fun q=>by rw[q,jn] at hz; cases hz
   obtain⟨k',hk',e⟩:=hs z y' (by show (bif z == (k:Int) then some y else Ym z l)=some y'; rw[U7 ne]; exact hz)
   exact⟨k',(List.mem_erase_of_ne oM).2 hk',e⟩
  have:=Zap h'.2 hr
  rw[List.length_erase_of_mem hk] at this
  have:0<S.length:=List.length_pos_of_mem hk
  rw[List.length_cons]
  omega
theorem Zo6 {l:Ut} {S:Lq} {z:Nat} (hu:Rp l=true) (hs:∀ z y,Ym z l=some y->∃ k∈S,z=(k:Nat)) (hz:z∈S) (hn:Ym (z:Int) l=none):l.length+1<=S.length:=by
 have hr:∀ z' y',Ym z' l=some y'->∃ k'∈S.erase z,z'=(k':Nat):=fun z' y' h=>by
  obtain⟨k',hk',e⟩:=hs z' y' h
  subst e
  have ne:k'≠z:=fun q=>by rw[q,hn] at h; cases h
  exact⟨k',(List.mem_erase_of_ne ne).2 hk',rfl⟩
 have:=Zap hu hr
 rw[List.length_erase_of_mem hz] at this
 have:0<S.length:=List.length_pos_of_mem hz
 omega
def Df (V:Nat->Lq) (z:Nat) (x:Lq):Nat->Lq:=fun y=>if y=z then x else V y
theorem Ov (V:Nat->Lq) (z:Nat) (x:Lq):Df V z x z=x:=if_pos rfl
theorem Y9 {V:Nat->Lq} {z y:Nat} {x:Lq} (h:y≠z):Df V z x y=V y:=if_neg h
def HE (n q a b c e:Nat) (cr:Cr) (md:Int) (S T:Lq) (V:Nat->Lq) (h:Hq):Prop:=∃ d d1 d2 kn ld lt lc lm L,Ou lm=true/\SeenP a b c e lm L/\Ou lt=true/\Ou lc=true/\Ou ld=true/\Ztv lt/\Rp lt=true/\(∀ z y,Ym z lt=some y->∃ k∈S,z=(k:Nat))/\((cr.o=true->(S.length:Int)<=cr.c)/\Rp lc=true/\∀ z y,Ym z lc=some y->∃ k∈cr.ch++S,z=(k:Nat))/\(∀ z y,Ym z ld=some y->∃ k∈T,z=(k:Nat))/\(∀ z,z<2+e+a * b->Uu a b c e (z:Int)=true->(V z).length=256/\Atd ld lc L z (pgL (V z)))/\Hv n d d1 d2 q a b c e cr md kn ld lt lc lm L h
noncomputable def Zws (n q:Nat) (cr:Cr) (lt lc:Ut) (h:Hq):Hq:=(((h.put (n+13) (.row 8 [stL (stH n q cr false)] false)).put (q+2) (.map (Y5 lt))).put (n+15) (.map (Y5 lc))).put (n+17) (.map [])
theorem Zpq {n q:Nat} {cr:Cr} {h:Hq} (lt' lc':Ut) {m:Nat} (o:m≠n+13/\m≠n+15/\m≠n+17/\m≠q+2):(Zws n q cr lt' lc' h).get m=h.get m:=by
 unfold Zws
 rw[Zd o.2.2.1,Zd o.2.1,Zd o.2.2.2,Zd o.1]
section
variable {n d d1 d2 q a b c e:Nat} {cr:Cr} {md:Int} {kn:Bool} {ld lt lc lm lm':Ut} {L:List (List C)} {h h2:Hq} {S T:Lq} {V:Nat->Lq}
theorem Hv.keep (M:Hv n d d1 d2 q a b c e cr md kn ld lt lc lm L h) (hx:h.next<=h2.next) (k:∀ m,m<q+9->h2.get m=h.get m):Hv n d d1 d2 q a b c e cr md kn ld lt lc lm L h2:=by
 obtain⟨f1,f2,f3,f4,l1,l2,f5,f6,f7,f8,f9,f10,f11,f12,f13,f14,f15,f16,f17,f18,f19,f20,f21,f22⟩:=M
 have db:=Zl8 q cr
 refine⟨?_,f2,f3,oM,l1,l2,?_,?_,?_,?_,?_,?_,?_,?_,?_,?_,?_,?_,f17,?_,?_,fun o=>?_,?_,?_⟩
 all_goals (rw[k _ oM]; first|assumption|exact f20 o)
theorem HE.keep (M:HE n q a b c e cr md S T V h) (hx:h.next<=h2.next) (k:∀ m,m<q+9->h2.get m=h.get m):HE n q a b c e cr md S T V h2:=by
 obtain⟨d,d1,d2,kn,ld,lt,lc,lm,L,f1,f2,f3,f4,f5,f6,f7,f8,f9,f10,f11,M⟩:=M
 exact⟨d,d1,d2,kn,ld,lt,lc,lm,L,f1,f2,f3,f4,f5,f6,f7,f8,f9,f10,f11,M.keep hx k⟩
theorem HE.nx (M:HE n q a b c e cr md S T V h):n+14<=q/\q+9<=h.next/\0<n:=by
 obtain⟨d,d1,d2,kn,ld,lt,lc,lm,L,f1,f2,f3,f4,f5,f6,f7,f8,f9,f10,f11,M⟩:=M
 exact⟨M.nq,M.nx,M.n0⟩
theorem HE.nxO [Opn cr] (M:HE n q a b c e cr md S T V h):n+23<=q/\q+9<=h.next/\0<n:=by
 obtain⟨d,d1,d2,kn,ld,lt,lc,lm,L,f1,f2,f3,f4,f5,f6,f7,f8,f9,f10,f11,M⟩:=M
 exact⟨M.hv6 opn,M.nx,M.n0⟩
theorem HE.cells (M:HE n q a b c e cr md S T V h):h.get 0=some Bj/\(∃ kn,h.get (n+13)=some (.row 8 [stL (stH n q cr kn)] false))/\(∃ d,h.get (n+12)=some (.row 9 [gdL (gdD n d a b c e md)] false))/\h.get (n+20)=some (.row 13 [txL (txH n q cr)] false):=by
 obtain⟨d,d1,d2,kn,ld,lt,lc,lm,L,f1,f2,f3,f4,f5,f6,f7,f8,f9,f10,f11,M⟩:=M
 exact⟨M.st,⟨kn,M.hs⟩,⟨d,M.hg⟩,M.ht⟩
theorem HE.len (M:HE n q a b c e cr md S T V h) {z:Nat} (hz:Uu a b c e (z:Int)=true) (z1:z<2+e+a * b):(V z).length=256:=by
 obtain⟨d,d1,d2,kn,ld,lt,lc,lm,L,f1,f2,f3,f4,f5,f6,f7,f8,f9,f10,f11,M⟩:=M
 exact (f11 z z1 hz).1
theorem HE.grow (M:HE n q a b c e cr md S T V h) {S':Lq} (s:∀ k∈S,k∈S') (l:(S'.length:Int)<=cr.c):HE n q a b c e cr md S' T V h:=by
 obtain⟨d,d1,d2,kn,ld,lt,lc,lm,L,f1,f2,f3,f4,f5,f6,f7,f8,f9,f10,f11,M⟩:=M
 exact⟨d,d1,d2,kn,ld,lt,lc,lm,L,f1,f2,f3,f4,f5,f6,f7,fun z y hz=>by obtain⟨k,hk,e⟩:=f8 z y hz; exact⟨k,s k hk,e⟩,⟨fun _=>l,f9.2.1,fun z y hz=>by obtain⟨k,hk,e⟩:=f9.2.2 z y hz; exact⟨k,List.mem_append.2 ((List.mem_append.1 hk).imp id (s k)),e⟩⟩,f10,f11,M⟩
def Kr (n q:Nat) (h h':Hq):Prop:=h.next<=h'.next/\∀ m,m<h.next->m≠n+6->h'.get m=h.get m
def Kp (n q:Nat) (h h':Hq):Prop:=h.next<=h'.next/\∀ m,m<h.next->Out n q m->h'.get m=h.get m
theorem Kr.kp {n q:Nat} {h h':Hq} (r:Kr n q h h'):Kp n q h h':=⟨r.1,fun m hm o=>r.2 m hm o.1.1⟩
theorem Kp.refl (n q:Nat) (h:Hq):Kp n q h h:=⟨Nat.le_refl _,fun _ _ _=>rfl⟩
theorem Kp.then {n q:Nat} {h h' h2:Hq} (r:Kp n q h h') (r2:Kp n q h' h2):Kp n q h h2:=⟨Nat.le_trans r.1 r2.1,fun m hm o=>(r2.2 m (Nat.lt_of_lt_of_le hm r.1) o).trans (r.2 m hm o)⟩
theorem Kp.of {n q:Nat} {h h':Hq} (hx:h.next<=h'.next) (k:∀ m,m<h.next->h'.get m=h.get m):Kp n q h h':=⟨hx,fun m hm _=>k m hm⟩
theorem HE.get (M:HE n q a b c e cr md S T V h) (fb:Y1 a b c e=true) {z:Nat} (hz:Uu a b c e (z:Int)=true) (z1:z<2+e+a * b) :
  ∃ h',Zfj [.c (.ptr (n+13) 0),.c (.int .i64 (z:Int))] h=some (.tup [.g (pgL (V z)),.c (.int .i64 0)],h')/\HE n q a b c e cr md S T V h'/\h'.next=h.next/\∀ m,m<h.next->m≠n+6->h'.get m=h.get m:=by
 obtain⟨d,d1,d2,kn,ld,lt,lc,lm,L,fl,sn,t3,t4,t5,t6,t7,t8,t9,tT,see,M⟩:=M
 have MM:=M
 obtain⟨g1,g2,g3,g4,g5,g6,g7,g8,g9,g10,g11⟩:=Ya fb
 obtain⟨f1,f2,f3,f4,l1,l2,f5,f6,f7,f8,f9,f10,f11,f12,f13,f14,f15,f16,f17,f18,f19,f20,f21,f22⟩:=M
 obtain⟨nl,at0⟩:=see z z1 hz
 have xl:(pgL (V z)).length=256:=by rw[Oz,nl]
 have xf:=V8 (V z)
 have back:∀ {h2:Hq},h2=h->HE n q a b c e cr md S T V h2:=fun q=>by subst q; exact⟨d,d1,d2,kn,ld,lt,lc,lm,L,fl,sn,t3,t4,t5,t6,t7,t8,t9,tT,see,MM⟩
 obtain⟨x,hx⟩:=xzE (pgL (V z))
 rw[hx] at at0 xl xf ⊢
 have ld0:∀ z,Ym z []=none:=fun _=>rfl
 have e0:Qd []=some []:=rfl
 obtain⟨N,hN⟩:=xzE (2+e+a * b)
 rw[hN] at f8 z1
 rcases at0 with hl|⟨hd,hl|⟨hl,hx⟩⟩
 ·have yl:(C.int .i64 (z:Int) :: x).length=257:=by rw[List.length_cons,xl]
  have yf:(C.int .i64 (z:Int) :: x).all C.flat=true:=by rw[List.all_cons,xf]; rfl
  have yt:(C.int .i64 (z:Int) :: x).drop 1=x:=rfl
  obtain⟨y,hy⟩:=xzE (C.int .i64 (z:Int) :: x)
  rw[hy] at hl yl yf yt
  exact⟨h,by unfold Zfj Rm; simp (maxSteps:=9^6) +decide (disch:=first|exact dZ|fail) only [go_sem,Zk,Zh,simprocAttr,f19,f5,f6,gdL,gdD,f16,f21,f18,fb,hz,hl,yl,yf,yt]<;>rfl,back rfl,rfl,fun _ _ _=>rfl⟩
 ·exact⟨h,by unfold Zfj Rm; simp (maxSteps:=9^6) +decide (disch:=first|exact dZ|fail) only [go_sem,Zk,Zh,simprocAttr,f19,f5,f6,gdL,gdD,f16,f21,f18,fb,hz,hd,hl,xl,xf,e0]<;>rfl,back rfl,rfl,fun _ _ _=>rfl⟩
 ·rcases hl2:Ym (z:Int) lm with _|y
  ·refine⟨h.put (n+6) (.map (Y5 (Ol (z:Int) (x++[.bool false]) lm))),by unfold Zfj Rm Xw; simp (maxSteps:=9^6) +decide (disch:=first|exact dZ|fail) only [go_sem,Zk,Zh,simprocAttr,f19,f5,f6,gdL,gdD,f7,ckD,f8,f9,f10,f16,f21,f18,fb,hz,hd,hl,hl2,fl,hx,xl,xf,ld0,e0,Int.toNat_natCast]<;>rfl,⟨d,d1,d2,kn,ld,lt,lc,_,L,Og (by rw[List.all_append,xf]; rfl) fl,sn.upd hx,t3,t4,t5,t6,t7,t8,t9,tT,see,?_⟩,rfl,fun m _ hm=>Zd hm⟩
   obtain⟨f1,f2,f3,f4,l1,l2,f5,f6,f7,f8,f9,f10,f11,f12,f13,f14,f15,f16,f17,f18,f19,f20,f21,f22⟩:=MM
   have db:=Zl8 q cr
   refine⟨?_,f2,f3,f4,l1,l2,?_,?_,?_,?_,?_,?_,?_,?_,?_,?_,?_,?_,f17,Zx ..,?_,fun o=>?_,?_,?_⟩
   all_goals (rw[Zd oM]; first|assumption|exact f20 o)
  ·obtain⟨x',hx',rfl⟩:=sn.s z y hl2
   rw[hx] at hx'
   cases hx'
   have yl:(x++[C.bool false]).length=257:=by rw[List.length_append,xl]; rfl
   have yf:(x++[C.bool false]).all C.flat=true:=by rw[List.all_append,xf]; rfl
   have yt:(x++[C.bool false]).take 256=x:=by rw[<-xl,List.take_left']; rfl
   obtain⟨y,hy⟩:=xzE (x++[C.bool false])
   rw[hy] at hl2 yl yf yt
   exact⟨h,by unfold Zfj Rm Xw; simp (maxSteps:=9^6) +decide (disch:=first|exact dZ|fail) only [go_sem,Zk,Zh,simprocAttr,f19,f5,f6,gdL,gdD,f7,ckD,f8,f9,f10,f16,f21,f18,fb,hz,hd,hl,hl2,yl,yf,yt,ld0,e0]<;>rfl,back rfl,rfl,fun _ _ _=>rfl⟩
theorem HE.put [Opn cr] (M:HE n q a b c e cr md S T V h) (fb:Y1 a b c e=true) {z:Nat} (hz:Uu a b c e (z:Int)=true) (z1:z<2+e+a * b) {ns:Lq} (nl:ns.length=256) (zs:z∈S) (zt:z ∉ T) :
  ∃ h',Zqq [.c (.ptr (n+13) 0),.c (.int .i64 (z:Int)),.g (pgL ns)] h=some (.w (.c (.int .i64 0)),h')/\HE n q a b c e cr md S T (Df V z ns) h'/\h'.next=h.next/\∀ m,Off n q m->h'.get m=h.get m:=by
 obtain⟨d,d1,d2,kn,ld,lt,lc,lm,L,fl,sn,ft,fc,t5,vt,t7,t8,t9,tT,see,M⟩:=M
 have MM:=M
 have hd:Ym (z:Int) ld=none:=by
  rcases hl:Ym (z:Int) ld with _|y
  ·rfl
  ·obtain⟨k,hk,e⟩:=tT _ _ hl
   obtain rfl:z=k:=oM
   exact absurd hk zt
 obtain⟨g1,g2,g3,g4,g5,g6,g7,g8,g9,g10,g11⟩:=Ya fb
 obtain⟨f1,f2,f3,f4,l1,l2,f5,f6,f7,f8,f9,f10,f11,f12,f13,f14,f15,f16,f17,f18,f19,f20,f21,f22⟩:=M
 have xl:(pgL ns).length=256:=by rw[Oz,nl]
 have xf:=V8 ns
 have fn:Ou []=true:=rfl
 have dn:Y5 (Dw (z:Int) [])=[]:=rfl
 have dq:=Z9e (q:=q) (cr:=cr)
 have n23:=f17 opn
 have f20':=f20 opn
 have g11':=f11
 have g12':=f12
 have g15':=f15
 rw[Z0a (cr:=cr)] at f11 f12
 rw[Z7p (cr:=cr)] at f15
 have f11:=Xb.1 f11
 have f12:=Nh.1 f12
 have f15:=Xm.1 f15
 have fr0:=Z0a (cr:=cr)
 have e1:Zqq [.c (.ptr (n+13) 0),.c (.int .i64 (z:Int)),.g (pgL ns)] h=some (.w (.c (.int .i64 0)),Zws n q cr (Ol (z:Int) [] lt) (Ol (z:Int) (pgL ns) lc) h):=by
  obtain⟨x,hx⟩:=xzE (pgL ns)
  rw[hx] at xl xf ⊢
  unfold Zqq Zs8 Zi6
  rcases hl:Ym (z:Int) lt with _|y
  ·have:=Zo6 t7 t8 zs hl
   have t9':=t9.1 opn
   have tl':decide (((lt.length:Nat):Int)<cr.c)=true:=decide_eq_true oM
   simp (maxSteps:=9^6) +decide (disch:=first|exact dZ|fail) only [go_sem,Zk,Zh,simprocAttr,f19,f5,f6,gdL,gdD,f16,f11,f20',f21,f12,f14,f15,fb,hz,xl,xf,ft,fc,fn,hl,tl',dn,Zws,C.flat]<;>rfl
  ·obtain rfl:=vt _ _ hl
   simp (maxSteps:=9^6) +decide (disch:=first|exact dZ|fail) only [go_sem,Zk,Zh,simprocAttr,f19,f5,f6,gdL,gdD,f16,f11,f20',f21,f12,f14,f15,fb,hz,xl,xf,ft,fc,fn,hl,dn,Zws,C.flat]<;>rfl
 refine⟨_,e1,⟨d,d1,d2,false,ld,Ol (z:Int) [] lt,Ol (z:Int) (pgL ns) lc,lm,L,fl,sn,Og rfl ft,Og xf fc,t5,vt.upd _,Tt t7,fun z' y hz'=>?_,⟨t9.1,Tt t9.2.1,fun z' y hz'=>?_⟩,tT,fun z' z1' hz'=>?_,?_⟩,rfl,fun m o=>Zpq _ _ ⟨o.2.1,o.2.2.1,o.2.2.2.1,o.2.2.2.2⟩⟩
 ·rw[Eo] at hz'
  split at hz'
  ·rename_i w
   exact⟨z,zs,w⟩
  ·exact t8 z' y hz'
 ·rw[Eo] at hz'
  split at hz'
  ·rename_i w
   exact⟨z,List.mem_append_right _ zs,w⟩
  ·exact t9.2.2 z' y hz'
 ·unfold Df
  split
  ·rename_i w
   subst w
   exact⟨nl,.inr ⟨hd,At.put ..⟩⟩
  ·rename_i w
   obtain⟨q1,q2⟩:=see z' z1' hz'
   refine⟨q1,?_⟩
   rcases q2 with q2|⟨q2,q3⟩
   ·exact .inl q2
   ·exact .inr ⟨q2,q3.upd w⟩
 ·refine⟨?_,f2,f3,f4,l1,l2,?_,?_,?_,?_,?_,?_,?_,(by rw[fr0]; exact Nh.2 (Zx _ _ _)),?_,?_,?_,?_,f17,?_,?_,fun o=>?_,?_,?_⟩
  all_goals (first|(rw[Zpq _ _ ⟨oM,oM,oM,oM⟩]; assumption)|(unfold Zws; simp (discharger:=omega) only [H.get_put,if_neg,if_true]))
end
def Rt (md:Int) (T:Lq) (z:Nat):Lq:=if md=3 then T else z :: T
section
variable {n q a b c e:Nat} {cr:Cr} {md:Int} {h:Hq} {S T:Lq} {V:Nat->Lq}
theorem HE.more (M:HE n q a b c e cr md S T V h) {T':Lq} (s:∀ z∈T,z∈T'):HE n q a b c e cr md S T' V h:=by
 obtain⟨d,d1,d2,kn,ld,lt,lc,lm,L,f1,f2,f3,f4,f5,f6,f7,f8,f9,f10,f11,M⟩:=M
 exact⟨d,d1,d2,kn,ld,lt,lc,lm,L,f1,f2,f3,f4,f5,f6,f7,f8,f9,fun z y hz=>by obtain⟨k,hk,e⟩:=f10 z y hz; exact⟨k,s k hk,e⟩,f11,M⟩
end
def Ez (n q m:Nat):Prop:=(m<n+6\/n+23<=m)/\(m<q\/q+9<=m)
theorem Ez.out {n q m:Nat} (o:Ez n q m):Out n q m:=⟨⟨by have:=o.1; omega,by have:=o.1; omega,by have:=o.1; omega,by have:=o.1; omega,by have:=o.2; omega⟩,by have:=o.2; omega⟩
def Kf (n q:Nat) (h h':Hq):Prop:=h.next<=h'.next/\∀ m,m<h.next->Ez n q m->h'.get m=h.get m
theorem Kf.refl (n q:Nat) (h:Hq):Kf n q h h:=⟨Nat.le_refl _,fun _ _ _=>rfl⟩
theorem Kf.then {n q:Nat} {h h' h2:Hq} (r:Kf n q h h') (r2:Kf n q h' h2):Kf n q h h2:=⟨Nat.le_trans r.1 r2.1,fun m hm o=>(r2.2 m (Nat.lt_of_lt_of_le hm r.1) o).trans (r.2 m hm o)⟩
theorem Kp.kf {n q:Nat} {h h':Hq} (r:Kp n q h h'):Kf n q h h':=⟨r.1,fun m hm o=>r.2 m hm o.out⟩
theorem Mo {k z:Int} (ne:k≠z):∀ {l:Ut},Ym k (Dw z l)=Ym k l
 | []=>rfl
 | (j,y) :: l=>by
  show Ym k (bif z == j then l else (j,y) :: Dw z l)=bif k == j then some y else Ym k l
  by_cases e:z=j
  ·subst e
   rw[O7 rfl,U7 ne]
   rfl
  ·rw[U7 e]
   show (bif k == j then some y else Ym k (Dw z l))=_
   rw[Mo ne]
theorem L9 {z:Int}:∀ {l:Ut},Rp l=true->Ym z (Dw z l)=none
 | [],_=>rfl
 | (j,y) :: l,h=>by
  have h':((Ym j l).isNone&&Rp l)=true:=h
  rw[aQ] at h'
  show Ym z (bif z == j then l else (j,y) :: Dw z l)=none
  by_cases e:z=j
  ·subst e
   rw[O7 rfl]
   simpa using h'.1
  ·rw[U7 e]
   show (bif z == j then some y else Ym z (Dw z l))=none
   rw[U7 e]
   exact L9 h'.2
theorem Zhs {z:Int}:∀ {l:Ut},Rp l=true->Rp (Dw z l)=true
 | [],_=>rfl
 | (j,y) :: l,h=>by
  have h':((Ym j l).isNone&&Rp l)=true:=h
  rw[aQ] at h'
  show Rp (bif z == j then l else (j,y) :: Dw z l)=true
  by_cases e:z=j
  ·subst e
   rw[O7 rfl]
   exact h'.2
  ·rw[U7 e]
   show ((Ym j (Dw z l)).isNone&&Rp (Dw z l))=true
   rw[Mo (Ne.symm e),h'.1,Zhs h'.2]
   rfl
section
variable (Hh:Hearts K Tryz.prog)
include Hh
variable {n q a b c e:Nat} {md:Int} {h:Hq} {S Ch F R:Lq} {V:Nat->Lq} {x r:Int} {sh:Nat}
theorem HE.forget (M:HE n q a b c e ⟨x,r,true,Ch,F,R,sh⟩ md S [] V h) (fb:Y1 a b c e=true) {z:Nat} (hz:Uu a b c e (z:Int)=true) (z1:z<2+e+a * b) (r0:0<r) (r1:r<2048) (zF:z∈F) (zR:z∈Ch++S->z∈R) :
  ∃ h' ns,Zi 142 [.c (.ptr (n+13) 0),.c (.int .i64 (z:Int))] h (.w (.c (.int .i64 0))) h'/\ns.length=256/\HE n q a b c e ⟨x,r - 1,true,Ch,F,R,sh⟩ md S [] (Df V z ns) h'/\Kf n q h h':=by
 obtain⟨d,d1,d2,kn,ld,lt,lc,lm,L,fl,sn,ft,fc,t5,vt,t7,t8,t9,tT,see,M⟩:=M
 obtain⟨f1,f2,f3,f4,l1,l2,f5,f6,f7,f8,f9,f10,f11,f12,f13,f14,f15,f16,f17,f18,f19,f20,f21,f22⟩:=M
 have n23:=f17 rfl
 have f20:=f20 rfl
 obtain rfl:ld=[]:=by
  cases ld with
  | nil=>rfl
  | cons p l =>
   obtain⟨k,hk,_⟩:=tT p.1 p.2 (by show (bif p.1 == p.1 then some p.2 else Ym p.1 l)=_; rw[O7 rfl]; rfl)
   cases hk
 obtain⟨lf,f12,m2⟩:=f12
 obtain⟨lr,f15,nd3,m3⟩:=f15
 obtain⟨lg,f11,nd4,m4⟩:=f11
 have f5:h.get (n+20)=some (.row 13 [txL ⟨n+15,n+16,n+17,n+19,1,true,x,r,.map (q+2),.map (q+6+sh),.map (q+7+sh),.map (q+8+sh),.ptr (q+5) 0⟩] false):=f5
 have f19:h.get (n+13)=some (.row 8 [stL ⟨n+12,n+20,q,q+1,.snil,kn⟩] false):=f19
 have f16:h.get q=some (.map (Y5 [])):=f16
 have f11:h.get (q+1)=some (.map (gvE lg)):=f11
 have f13:h.get (n+16)=some (.map (Y5 [])):=f13
 have dn:Dw (z:Int) []=[]:=rfl
 have rz:decide (r<2048)=true:=decide_eq_true r1
 have rz0:decide (0<r)=true:=decide_eq_true r0
 obtain⟨g1,g2,g3,g4,g5,g6,g7,g8,g9,g10,g11⟩:=Ya fb
 have zd:decide ((z:Int)<9223372036854775808)=true:=decide_eq_true oM
 have z0:decide (0<=(z:Int))=true:=decide_eq_true oM
 obtain⟨v,h',cc,rfl,nn,k20,k13,k15,k16,k17,⟨lr',k18,nd',m'⟩,k0,k1,kk⟩:∃ v h',Zi 142 [.c (.ptr (n+13) 0),.c (.int .i64 (z:Int))] h v h'/\v=.w (.c (.int .i64 0))/\h.next<=h'.next/\h'.get (n+20)=some (.row 13 [txL ⟨n+15,n+16,n+17,n+19,1,true,x,r - 1,.map (q+2),.map (q+6+sh),.map (q+7+sh),.map (q+8+sh),.ptr (q+5) 0⟩] false)/\h'.get (n+13)=some (.row 8 [stL ⟨n+12,n+20,q,q+1,.snil,false⟩] false)/\h'.get (n+15)=some (.map (Y5 (Dw (z:Int) lc)))/\h'.get (n+16)=some (.map [])/\h'.get (n+17)=some (.map (Y5 (vdE (Sq (z:Int) lf))))/\(∃ lr',h'.get (n+18)=some (.map (Fu 1 lr'))/\lr'.Nodup/\∀ k∈lr',∃ j∈R,k=((j:Nat):Int))/\h'.get q=some (.map (Y5 []))/\h'.get (q+1)=some (.map (gvE (Sq (z:Int) lg)))/\∀ m,m<h.next->m≠n+13->m≠n+15->m≠n+16->m≠n+17->m≠n+18->m≠n+20->m≠q->m≠q+1->h'.get m=h.get m:=by
  rcases hl:Ym (z:Int) lc with _|y
  ·
   refine Y0 Hh Tryz.f142 ?_
   repeat (first|apply Zu|apply Ye|apply Yc|((first|apply Goes.Zl|apply Goes.ops2 fits Hh (EY (EY (EY (EY (EY Za (Uo Hh)) (M5 Hh)) (Mx Hh)) (Zf8 Hh)) (Sk Hh))); · simp (maxSteps:=9^6) +decide (disch:=first|exact dZ|fail) only [go_sem,Zk,Zh,simprocAttr,f19,f5,f6,gdL,gdD,f10,f11,f12,f13,f14,f15,f16,f21,fb,hz,zd,z0,rz,rz0,hl,dn,fgM,Zil,read1,Zt,Oy,Eg]<;>rfl)|(apply Goes.drawn2 fits Hh (EY (EY (EY (EY (EY Za (Uo Hh)) (M5 Hh)) (Mx Hh)) (Zf8 Hh)) (Sk Hh)) kR; · simp (maxSteps:=9^6) +decide (disch:=first|exact dZ|fail) only [go_sem,Zk,Zh,simprocAttr,drG,f19,f5,f6,gdL,gdD,f10,f11,f12,f13,f14,f15,f16,f21,fb,hz,zd,z0,rz,rz0,hl,dn,fgM,Zil,read1,Zt,Oy,Eg]<;>rfl))
   exact⟨_,_,Zf,rfl,(by simp (discharger:=omega) only [H.get_put,H.Zg,H.Zc,H.Zb,if_neg,if_true,txL,stL]<;>first|rfl|omega),(by simp (discharger:=omega) only [H.get_put,H.Zg,H.Zc,H.Zb,if_neg,if_true,txL,stL]<;>first|rfl|omega),(by simp (discharger:=omega) only [H.get_put,H.Zg,H.Zc,H.Zb,if_neg,if_true,txL,stL]<;>first|rfl|omega),(by simp (discharger:=omega) only [H.get_put,H.Zg,H.Zc,H.Zb,if_neg,if_true,txL,stL]<;>first|rfl|omega),(by simp (discharger:=omega) only [H.get_put,H.Zg,H.Zc,H.Zb,if_neg,if_true,txL,stL]<;>first|rfl|omega),(by simp (discharger:=omega) only [H.get_put,H.Zg,H.Zc,H.Zb,if_neg,if_true,txL,stL]<;>first|rfl|omega),⟨lr,(by simp (discharger:=omega) only [H.get_put,H.Zg,H.Zc,H.Zb,if_neg,if_true,txL,stL]<;>first|rfl|omega),nd3,m3⟩,(by simp (discharger:=omega) only [H.get_put,H.Zg,H.Zc,H.Zb,if_neg,if_true,txL,stL]<;>first|rfl|omega),(by simp (discharger:=omega) only [H.get_put,H.Zg,H.Zc,H.Zb,if_neg,if_true,txL,stL]<;>first|rfl|omega),fun m hm _ _ _ _ _ _ _ _=>(by simp (discharger:=omega) only [H.get_put,H.Zg,H.Zc,H.Zb,if_neg,if_true,txL,stL]<;>first|rfl|omega)⟩
  ·have zc:=t9.2.2 _ _ hl
   obtain⟨j,hj,ej⟩:=zc
   obtain rfl:z=j:=oM
   have zr:=zR hj
   obtain⟨yl,yf⟩:y.length=256/\y.all C.flat=true:=by
    obtain⟨q1,q2|⟨_,q2|⟨q2,_⟩⟩⟩:=see z z1 hz
    ·cases q2
    ·rw[hl] at q2
     cases q2
     exact⟨by rw[Oz,q1],V8 _⟩
    ·rw[hl] at q2
     cases q2
   refine Y0 Hh Tryz.f142 ?_
   repeat (first|apply Zu|apply Ye|apply Yc|((first|apply Goes.Zl|apply Goes.ops2 fits Hh (EY (EY (EY (EY (EY Za (Uo Hh)) (M5 Hh)) (Mx Hh)) (Zf8 Hh)) (Sk Hh))); · simp (maxSteps:=9^6) +decide (disch:=first|exact dZ|fail) only [go_sem,Zh,simprocAttr,f19,f5,f6,gdL,gdD,f10,f11,f12,f13,f14,f15,f16,f21,fb,hz,zd,z0,rz,rz0,hl,yl,yf,dn,fgM,Zil,zB,read1,Zt,Oy,Eg]<;>rfl)|(apply Goes.drawn2 fits Hh (EY (EY (EY (EY (EY Za (Uo Hh)) (M5 Hh)) (Mx Hh)) (Zf8 Hh)) (Sk Hh)) kR; · simp (maxSteps:=9^6) +decide (disch:=first|exact dZ|fail) only [go_sem,Zh,simprocAttr,drG,f19,f5,f6,gdL,gdD,f10,f11,f12,f13,f14,f15,f16,f21,fb,hz,zd,z0,rz,rz0,hl,yl,yf,dn,fgM,Zil,zB,read1,Zt,Oy,Eg]<;>rfl))
   exact⟨_,_,Y6,rfl,(by simp (discharger:=omega) only [H.get_put,H.Zg,H.Zc,H.Zb,if_neg,if_true,txL,stL]<;>first|rfl|omega),(by simp (discharger:=omega) only [H.get_put,H.Zg,H.Zc,H.Zb,if_neg,if_true,txL,stL]<;>first|rfl|omega),(by simp (discharger:=omega) only [H.get_put,H.Zg,H.Zc,H.Zb,if_neg,if_true,txL,stL]<;>first|rfl|omega),(by simp (discharger:=omega) only [H.get_put,H.Zg,H.Zc,H.Zb,if_neg,if_true,txL,stL]<;>first|rfl|omega),(by simp (discharger:=omega) only [H.get_put,H.Zg,H.Zc,H.Zb,if_neg,if_true,txL,stL]<;>first|rfl|omega),(by simp (discharger:=omega) only [H.get_put,H.Zg,H.Zc,H.Zb,if_neg,if_true,txL,stL]<;>first|rfl|omega),⟨Sq (z:Int) lr,(by simp (discharger:=omega) only [H.get_put,H.Zg,H.Zc,H.Zb,if_neg,if_true,txL,stL]<;>first|rfl|omega),Zb1 nd3,fun k hk=>by
    rcases Qo.1 hk with w|w
    ·exact⟨z,zr,w⟩
    ·exact m3 k w⟩,(by simp (discharger:=omega) only [H.get_put,H.Zg,H.Zc,H.Zb,if_neg,if_true,txL,stL]<;>first|rfl|omega),(by simp (discharger:=omega) only [H.get_put,H.Zg,H.Zc,H.Zb,if_neg,if_true,txL,stL]<;>first|rfl|omega),fun m hm _ _ _ _ _ _ _ _=>(by simp (discharger:=omega) only [H.get_put,H.Zg,H.Zc,H.Zb,if_neg,if_true,txL,stL]<;>first|rfl|omega)⟩
 obtain⟨ns,nl,hL⟩:=sn.p z z1 hz
 have kp:∀ {m:Nat} {o:O},h.get m=some o->m<n+13\/m=n+19\/m=q+2->h'.get m=some o:=fun {m} {o} e w=>(kk m oM oM oM oM oM oM oM oM oM).trans e
 refine⟨h',ns,cc,nl,⟨d,d1,d2,false,[],lt,Dw (z:Int) lc,lm,L,fl,sn,ft,Tj fc,rfl,vt,t7,t8,⟨t9.1,Zhs t9.2.1,fun k y hk=>?_⟩,tT,fun z' z1' hz'=>?_,?_⟩,nn,fun m hm o=>kk m hm (by have:=o.1; omega) (by have:=o.1; omega) (by have:=o.1; omega) (by have:=o.1; omega) (by have:=o.1; omega) (by have:=o.1; omega) (by have:=o.2; omega) (by have:=o.2; omega)⟩
 ·by_cases w:k=(z:Int)
  ·rw[w,L9 t9.2.1] at hk
   cases hk
  ·rw[Mo w] at hk
   exact t9.2.2 k y hk
 ·unfold Df
  split
  ·rename_i w
   subst w
   exact⟨nl,.inr ⟨rfl,.inr ⟨L9 t9.2.1,hL⟩⟩⟩
  ·rename_i w
   obtain⟨q1,q2|⟨_,q2⟩⟩:=see z' z1' hz'
   ·cases q2
   ·refine⟨q1,.inr ⟨rfl,?_⟩⟩
    unfold At
    rw[Mo oM]
    exact q2
 ·exact⟨kp f1 oM,f2,f3,oM,l1,l2,k20,kp f6 oM,kp f7 oM,kp f8 oM,kp f9 oM,kp f10 oM,⟨_,k1,Zb1 nd4,fun w hw=>by
   rcases Qo.1 hw with q|q
   ·exact⟨z,zF,q⟩
   ·exact m4 w q⟩,⟨_,k17,fun w hw=>by
   rcases Qo.1 hw with q|q
   ·exact⟨z,zF,q⟩
   ·exact m2 w q⟩,k16,kp f14 oM,⟨lr',k18,nd',m'⟩,k0,fun _=>n23,kp f18 oM,k13,fun _=>kp f20 oM,k15,kp f22 oM⟩
end
section
variable (Hh:Hearts K Tryz.prog)
include Hh
variable {n q a b c e:Nat} {md:Int} {h:Hq} {S Ch F R:Lq} {V:Nat->Lq} {x r:Int} {sh:Nat}
theorem HE.Z7v (M:HE n q a b c e ⟨x,r,true,Ch,F,R,sh⟩ md S [] V h) (fb:Y1 a b c e=true) {z:Nat} (hz:Uu a b c e (z:Int)=true) (z1:z<2+e+a * b) {ns:Lq} (nl:ns.length=256) (zs:z∈S) :
  ∃ h',Zi 76 [.c (.ptr (n+13) 0),.c (.int .i64 (z:Int)),.g (pgL ns)] h (.w (.c (.int .i64 0))) h'/\HE n q a b c e ⟨x,r,true,Ch,F,R,sh⟩ md S [] (Df V z ns) h'/\Kf n q h h':=by
 obtain⟨d,d1,d2,kn,ld,lt,lc,lm,L,fl,sn,ft,fc,t5,vt,t7,t8,t9,tT,see,M⟩:=M
 obtain⟨f1,f2,f3,f4,l1,l2,f5,f6,f7,f8,f9,f10,f11,f12,f13,f14,f15,f16,f17,f18,f19,f20,f21,f22⟩:=M
 have n23:=f17 rfl
 have f20:=f20 rfl
 obtain rfl:ld=[]:=by
  cases ld with
  | nil=>rfl
  | cons p l =>
   obtain⟨k,hk,_⟩:=tT p.1 p.2 (by show (bif p.1 == p.1 then some p.2 else Ym p.1 l)=_; rw[O7 rfl]; rfl)
   cases hk
 obtain⟨lf,f12,m2⟩:=f12
 obtain⟨lr,f15,nd3,m3⟩:=f15
 have f5:h.get (n+20)=some (.row 13 [txL ⟨n+15,n+16,n+17,n+19,1,true,x,r,.map (q+2),.map (q+6+sh),.map (q+7+sh),.map (q+8+sh),.ptr (q+5) 0⟩] false):=f5
 have f19:h.get (n+13)=some (.row 8 [stL ⟨n+12,n+20,q,q+1,.snil,kn⟩] false):=f19
 have fv:=Z3k lf
 have xl:(pgL ns).length=256:=by rw[Oz,nl]
 have xf:=V8 ns
 have t9':(S.length:Int)<=x:=t9.1 rfl
 obtain⟨g1,g2,g3,g4,g5,g6,g7,g8,g9,g10,g11⟩:=Ya fb
 have zd:decide ((z:Int)<9223372036854775808)=true:=decide_eq_true oM
 have z0:decide (0<=(z:Int))=true:=decide_eq_true oM
 obtain⟨X,hX⟩:=xzE (pgL ns)
 rw[hX] at xl xf ⊢
 obtain⟨v,h',cc,rfl,nn,k13,k15,k17,k18,k2,kk⟩:∃ v h',Zi 76 [.c (.ptr (n+13) 0),.c (.int .i64 (z:Int)),.g X] h v h'/\v=.w (.c (.int .i64 0))/\h.next<=h'.next/\h'.get (n+13)=some (.row 8 [stL ⟨n+12,n+20,q,q+1,.snil,false⟩] false)/\h'.get (n+15)=some (.map (Y5 (Ol (z:Int) X lc)))/\h'.get (n+17)=some (.map (Y5 (vdE (Zbd (z:Int) lf))))/\h'.get (n+18)=some (.map (Fu 1 (Zbd (z:Int) lr)))/\h'.get (q+2)=some (.map (Y5 (Ol (z:Int) [] lt)))/\∀ m,m<h.next->m≠n+13->m≠n+15->m≠n+17->m≠n+18->m≠q+2->h'.get m=h.get m:=by
  rcases hl:Ym (z:Int) lt with _|y
  ·have:=Zo6 t7 t8 zs hl
   have tl':decide (((lt.length:Nat):Int)<x)=true:=decide_eq_true oM
   refine Y0 Hh Tryz.f76 ?_
   repeat (first|apply Zu|apply Ye|apply Yc|((first|apply Goes.Zl|apply Goes.ops2 fits Hh (EY (EY Za (Uo Hh)) (Za9 Hh))); · simp (maxSteps:=9^6) +decide (disch:=first|exact dZ|fail) only [go_sem,Zh,simprocAttr,f19,f5,f6,gdL,gdD,f12,f14,f15,f20,f21,fb,hz,zd,z0,hl,tl',xl,xf,ft,fc,fv,Zgu,read1]<;>rfl)|(apply Goes.drawn2 fits Hh (EY (EY Za (Uo Hh)) (Za9 Hh)) kR; · simp (maxSteps:=9^6) +decide (disch:=first|exact dZ|fail) only [go_sem,Zh,simprocAttr,drG,f19,f5,f6,gdL,gdD,f12,f14,f15,f20,f21,fb,hz,zd,z0,hl,tl',xl,xf,ft,fc,fv,Zgu,read1]<;>rfl))
   exact⟨_,_,Y6,rfl,(by simp (discharger:=omega) only [H.get_put,H.Zg,H.Zc,H.Zb,if_neg,if_true,txL,stL]<;>first|rfl|omega),(by simp (discharger:=omega) only [H.get_put,H.Zg,H.Zc,H.Zb,if_neg,if_true,txL,stL]<;>first|rfl|omega),(by simp (discharger:=omega) only [H.get_put,H.Zg,H.Zc,H.Zb,if_neg,if_true,txL,stL]<;>first|rfl|omega),(by simp (discharger:=omega) only [H.get_put,H.Zg,H.Zc,H.Zb,if_neg,if_true,txL,stL]<;>first|rfl|omega),(by simp (discharger:=omega) only [H.get_put,H.Zg,H.Zc,H.Zb,if_neg,if_true,txL,stL]<;>first|rfl|omega),(by simp (discharger:=omega) only [H.get_put,H.Zg,H.Zc,H.Zb,if_neg,if_true,txL,stL]<;>first|rfl|omega),fun m hm _ _ _ _ _=>(by simp (discharger:=omega) only [H.get_put,H.Zg,H.Zc,H.Zb,if_neg,if_true,txL,stL]<;>first|rfl|omega)⟩
  ·obtain rfl:=vt _ _ hl
   refine Y0 Hh Tryz.f76 ?_
   repeat (first|apply Zu|apply Ye|apply Yc|((first|apply Goes.Zl|apply Goes.ops2 fits Hh (EY (EY Za (Uo Hh)) (Za9 Hh))); · simp (maxSteps:=9^6) +decide (disch:=first|exact dZ|fail) only [go_sem,Zh,simprocAttr,f19,f5,f6,gdL,gdD,f12,f14,f15,f20,f21,fb,hz,zd,z0,hl,xl,xf,ft,fc,fv,Zgu,read1]<;>rfl)|(apply Goes.drawn2 fits Hh (EY (EY Za (Uo Hh)) (Za9 Hh)) kR; · simp (maxSteps:=9^6) +decide (disch:=first|exact dZ|fail) only [go_sem,Zh,simprocAttr,drG,f19,f5,f6,gdL,gdD,f12,f14,f15,f20,f21,fb,hz,zd,z0,hl,xl,xf,ft,fc,fv,Zgu,read1]<;>rfl))
   exact⟨_,_,Y6,rfl,(by simp (discharger:=omega) only [H.get_put,H.Zg,H.Zc,H.Zb,if_neg,if_true,txL,stL]<;>first|rfl|omega),(by simp (discharger:=omega) only [H.get_put,H.Zg,H.Zc,H.Zb,if_neg,if_true,txL,stL]<;>first|rfl|omega),(by simp (discharger:=omega) only [H.get_put,H.Zg,H.Zc,H.Zb,if_neg,if_true,txL,stL]<;>first|rfl|omega),(by simp (discharger:=omega) only [H.get_put,H.Zg,H.Zc,H.Zb,if_neg,if_true,txL,stL]<;>first|rfl|omega),(by simp (discharger:=omega) only [H.get_put,H.Zg,H.Zc,H.Zb,if_neg,if_true,txL,stL]<;>first|rfl|omega),(by simp (discharger:=omega) only [H.get_put,H.Zg,H.Zc,H.Zb,if_neg,if_true,txL,stL]<;>first|rfl|omega),fun m hm _ _ _ _ _=>(by simp (discharger:=omega) only [H.get_put,H.Zg,H.Zc,H.Zb,if_neg,if_true,txL,stL]<;>first|rfl|omega)⟩
 have kp:∀ {m:Nat} {o:O},h.get m=some o->m<n+13\/m=n+16\/m=n+19\/m=n+20\/m=q\/m=q+1->h'.get m=some o:=fun {m} {o} e w=>(kk m oM oM oM oM oM oM).trans e
 refine⟨h',cc,⟨d,d1,d2,false,[],Ol (z:Int) [] lt,Ol (z:Int) X lc,lm,L,fl,sn,Og rfl ft,Og xf fc,rfl,vt.upd _,Tt t7,fun z' y hz'=>?_,⟨t9.1,Tt t9.2.1,fun z' y hz'=>?_⟩,tT,fun z' z1' hz'=>?_,?_⟩,nn,fun m hm o=>kk m hm (by have:=o.1; omega) (by have:=o.1; omega) (by have:=o.1; omega) (by have:=o.1; omega) (by have:=o.2; omega)⟩
 ·rw[Eo] at hz'
  split at hz'
  ·rename_i w
   exact⟨z,zs,w⟩
  ·exact t8 z' y hz'
 ·rw[Eo] at hz'
  split at hz'
  ·rename_i w
   exact⟨z,List.mem_append_right _ zs,w⟩
  ·exact t9.2.2 z' y hz'
 ·unfold Df
  split
  ·rename_i w
   subst w
   rw[hX]
   exact⟨nl,.inr ⟨rfl,At.put ..⟩⟩
  ·rename_i w
   obtain⟨q1,q2|⟨_,q3⟩⟩:=see z' z1' hz'
   ·cases q2
   ·exact⟨q1,.inr ⟨rfl,q3.upd w⟩⟩
 ·exact⟨kp f1 oM,f2,f3,oM,l1,l2,kp f5 oM,kp f6 oM,kp f7 oM,kp f8 oM,kp f9 oM,kp f10 oM,(by obtain⟨lg,g1,g2⟩:=f11; exact⟨lg,kp g1 (.inr (.inr (.inr (.inr (.inr rfl))))),g2⟩),⟨_,k17,fun w hw=>m2 w (Zcn hw)⟩,kp f13 oM,kp f14 oM,⟨_,k18,(Zgt nd3).1,fun w hw=>m3 w (Zcn hw)⟩,kp f16 (.inr (.inr (.inr (.inr (.inl rfl))))),fun _=>n23,kp f18 oM,k13,fun _=>k2,k15,kp f22 oM⟩
end
end Go.Proofs.YteiljiijagmonaaGreatDoor
