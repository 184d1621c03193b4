/- super: geometries and descriptors handed on. -/
import Derived.Test.YtmanipmhebgdbaaGreatDoorPge
import Derived.Test.YtmanipmhebgdbaaGreatDoorLay
set_option maxRecDepth 100000
set_option maxHeartbeats 10000000
set_option linter.unusedSimpArgs false
set_option linter.unusedVariables false
set_option linter.unusedSectionVars false
namespace Go.Proofs.YtmanipmhebgdbaaGreatDoor
open Go.Ev
noncomputable section
theorem ty35:K.types.get 35=some ti35:=kR
theorem de35:ti35.desc=(.int .u64):=by rfl
theorem ty125:K.types.get 125=some ti125:=kR
theorem sz125:ti125.size=1:=by rfl
theorem ag125:ti125.agg=false:=by rfl
theorem de125:ti125.desc=(.slice 134):=by rfl
theorem ze125:ti125.zero=(.c (.snil)):=by rfl
theorem el125:J9 K 125=some ti134:=kR
theorem ty134:K.types.get 134=some ti134:=kR
theorem sz134:ti134.size=3:=by rfl
theorem ag134:ti134.agg=true:=by rfl
theorem fo134_0:Zw K 134 0=some (0,ti3):=kR
theorem fo134_1:Zw K 134 1=some (1,ti3):=kR
theorem fo134_2:Zw K 134 2=some (2,ti3):=kR
theorem bu134 (ps:List (Nat × W)):Yr K 134 (some ps)=gW (Yh K 134 ps ti134.zero.cells):=kR
theorem ze134:ti134.zero=(.g ([.int .i64 0,.int .i64 0,.int .i64 0])):=by rfl
theorem by134:ti134.bytes=24:=by rfl
theorem ty191:K.types.get 191=some ti191:=kR
theorem sz191:ti191.size=5:=by rfl
theorem ag191:ti191.agg=true:=by rfl
theorem fo191_0:Zw K 191 0=some (0,ti57):=kR
theorem fo191_1:Zw K 191 1=some (4,ti40):=kR
theorem ze191:ti191.zero=(.g ([.int .i64 0,.int .i64 0,.int .i64 0,.int .i64 0,.int .u32 0])):=by rfl
attribute [go_sem] ty35 de35 ty125 sz125 ag125 de125 ze125 el125 ty134 sz134 ag134 fo134_0 fo134_1 fo134_2 bu134 ze134 by134 ty191 sz191 ag191 fo191_0 fo191_1 ze191
theorem rs277:Tryz.f277.results.toList=[]:=rfl
theorem rs214:Tryz.f214.results.toList=[]:=rfl
theorem rs211:Tryz.f211.results.toList=[.cell 4 134]:=rfl
theorem rs276:Tryz.f276.results.toList=[.tmp 2]:=rfl
theorem rs229:Tryz.f229.results.toList=[.cell 2 87,.tmp 3]:=rfl
theorem rs213:Tryz.f213.results.toList=[.tmp 4]:=rfl
attribute [go_sem] rs277 rs214 rs211 rs276 rs229 rs213
def Z9q (ns:Lq) (a b c d:Nat):Lq:=G8 (G8 (G8 (G8 ns 8 a) 10 b) 12 c) 14 d
def Zm9 (ns:Lq) (i a b c:Nat):Lq:=G8 (G8 (G8 ns i a) (i+2) b) (i+4) c
theorem Z64 (ns:Lq) (i v:Nat):pgL (G8 ns i v)=((pgL ns).set i (.int .u8 ((v % 256:Nat):Int))).set (i+1) (.int .u8 ((v / 256 % 256:Nat):Int)):=by rw[Mi,Mi]; rfl
theorem Zvt (ns:Lq) (i a b c:Nat):pgL (Zm9 (ns.map (· % 256)) i a b c)=pgL (Zm9 ns i a b c):=by simp only[Zm9,Z64,Zth]
theorem Zv2 (ns:Lq) (a b c d:Nat):(Z9q ns a b c d).length=ns.length:=by simp only[Z9q,Yz]
theorem Zna (ns:Lq) (i a b c:Nat):(Zm9 ns i a b c).length=ns.length:=by simp only[Zm9,Yz]
def Zj2:Kn1:=fun args h=>match args with
 | [.c (.int .i64 i),.g [.int .i64 a,.int .i64 b,.int .i64 c],.c (.fn f [some (p,0)] [])]=>(Ob i).bind fun i=>(Ob a).bind fun a=>(Ob b).bind fun b=>(Ob c).bind fun c=>(Li h p).bind fun x=>Y5 (Nat.beq f 215&&decide (i+6<=256)&&decide (a<65536)&&decide (b<65536)&&decide (c<65536)) (some (.tup [],h.put p (.row 256 [pgL (Zm9 (unN x) i a b c)] false)))
 | _=>none
def Zjx:Kn1:=fun args h=>match args with
 | [.c (.int .i64 i),.c (.fn f [some (p,0)] [])]=>(Ob i).bind fun i=>(Li h p).bind fun x=>Y5 (Nat.beq f 212&&decide (i+6<=256)) (some (.w (.g [.int .i64 ((Ou (unN x) i:Nat):Int),.int .i64 ((Ou (unN x) (i+2):Nat):Int),.int .i64 ((Ou (unN x) (i+4):Nat):Int)]),h))
 | _=>none
def Z6n (dt ino:Nat):List C->Bool
 | [.int .i64 x,.int .i64 y,.int .i64 z]=>decide (0<=x)&&decide (x<=(dt:Int))&&decide (0<=y)&&decide (y<=(ino:Int))&&decide (0<=z)&&decide (z<=(ino:Int) - y)
 | _=>false
theorem Za9 {dt ino:Nat} {l:List C} (e:Z6n dt ino l=true):∃ x y z:Int,l=[.int .i64 x,.int .i64 y,.int .i64 z]/\0<=x/\x<=(dt:Int)/\0<=y/\y<=(ino:Int)/\0<=z/\z<=(ino:Int) - y:=by
 unfold Z6n at e
 split at e
 ·simp only[aQ,decide_eq_true_eq] at e
  obtain⟨⟨⟨⟨⟨e1,e2⟩,e3⟩,e4⟩,e5⟩,e6⟩:=e
  exact⟨_,_,_,rfl,e1,e2,e3,e4,e5,e6⟩
 ·cases e
def Zu4:Kn1:=fun args h=>match args with
 | [.g [.int .i64 a,.int .i64 b,.int .i64 c,.int .i64 d],.c (.slice n 0 len 3)]=>Zgd a b c d fun a b c _=>match h.get n with
  | some (.row s L _)=>Y5 (Nat.beq s 3&&Nat.beq len a&&Nat.beq L.length a&&L.all (Z6n (b - 2 - c / 4) c)) (some (.w (.c (.bool true)),h))
  | _=>none
 | _=>none
attribute [go_sem] Zj2 Zjx Zu4 Zvt Zv2 Zna Z6n
theorem Z6e (p o l:Nat):Y4 K 125 (.c (.slice p o l 3))=true:=kR
attribute [go_sem] Z6e
theorem Z93 {b:Nat} (ns:Lq):Zwy b (.row 256 [pgL ns] false):=Zwb fun τ _=>by
 show [(pgL ns).map (C.ren τ)]=_
 rw[Jr (fun a ha=>C.Jj ha _) (Zc3 ns)]
section
variable (Hh:Hearts K Tryz.prog)
include Hh
theorem Zry {args:List W} {h h':Hq} {v:V} (e:Zj2 args h=some (v,h')):Zb 214 args h v h':=by
 unfold Zj2 at e
 split at e
 ·rename_i p
  obtain⟨i,hi,e⟩:=Zk e
  obtain⟨a,ha,e⟩:=Zk e
  obtain⟨b,hb,e⟩:=Zk e
  obtain⟨c,hc,e⟩:=Zk e
  obtain⟨x,hx,e⟩:=Zk e
  obtain⟨ns,rfl,hl,hp⟩:=J6 hx
  obtain⟨q,e⟩:=Zu.1 e
  simp only[aQ,decide_eq_true_eq] at q
  obtain⟨⟨⟨⟨q1,q2⟩,q3⟩,q4⟩,q5⟩:=q
  cases e
  obtain rfl:=bQ q1
  rw[Yb hi,Yb ha,Yb hb,Yb hc,Gr,Zvt]
  have e2:(i:Int)+2=((i+2:Nat):Int):=rfl
  have e4:(i:Int)+4=((i+4:Nat):Int):=rfl
  unfold Zm9
  refine Zx.tidy ⟨Tryz.f214,Tryz.func214,kR,by decide⟩ fun tidy=>?_
  have lp:=tidy _ _ hp
  have pp:=@H.Zdl
  obtain⟨v,h',cc,rfl,hk⟩:∃ v h',Zb 214 [.c (.int .i64 (i:Int)),.g [.int .i64 (a:Int),.int .i64 (b:Int),.int .i64 (c:Int)],.c (.fn 215 [some (p,0)] [])] h v h'/\v=.tup []/\∀ m,m<h.next->h'.get m=(h.put p (.row 256 [pgL (G8 (G8 (G8 ns i a) (i+2) b) (i+4) c)] false)).get m:=by
   refine Ym Hh Tryz.f214 ?_
   have Jf:=Gq @hp @hl @e2 @e4 @pp
   repeat (first|apply Z6|refine Zn Hh (EY Za (Z3x Hh)) Z40 ?_)
   exact⟨_,_,Zd,rfl,fun m hm=>by exact Ni⟩
  exact cc.settle ((Vn.refl tidy).put lp (Z93 _)) (Zkb.flat rfl) hk
 ·cases e
theorem Zrw {args:List W} {h h':Hq} {v:V} (e:Zjx args h=some (v,h')):Zb 211 args h v h':=by
 unfold Zjx at e
 split at e
 ·rename_i p
  obtain⟨i,hi,e⟩:=Zk e
  obtain⟨x,hx,e⟩:=Zk e
  obtain⟨ns,rfl,hl,hp⟩:=J6 hx
  obtain⟨q,e⟩:=Zu.1 e
  simp only[aQ,decide_eq_true_eq] at q
  obtain⟨q1,q2⟩:=q
  cases e
  obtain rfl:=bQ q1
  rw[Yb hi]
  simp only[Gr,Q6]
  have e2:(i:Int)+2=((i+2:Nat):Int):=rfl
  have e4:(i:Int)+4=((i+4:Nat):Int):=rfl
  refine Zx.tidy ⟨Tryz.f211,Tryz.func211,kR,by decide⟩ fun tidy=>?_
  have lp:=tidy _ _ hp
  refine Dx rfl ?_
  refine Ym Hh Tryz.f211 ?_
  have Jf:=J4 @hp @hl @e2 @e4
  repeat (first|apply Z6|apply Yc|refine Zn Hh (EY Za (Z3v Hh)) Z41 ?_)
  exact⟨_,_,Zd,rfl,fun m hm=>by exact Ni⟩
 ·cases e
theorem Zmn {args:List W} {h h':Hq} {v:V} (e:Zu4 args h=some (v,h')):Zb 213 args h v h':=by
 unfold Zu4 at e
 split at e
 ·rename_i n len
  obtain⟨a,b,c,d,rfl,rfl,rfl,rfl,f,e⟩:=Dt e
  split at e
  ·rename_i s L ro heq
   obtain⟨q,e⟩:=Zu.1 e
   cases e
   simp only[aQ] at q
   obtain⟨⟨⟨q1,q2⟩,q3⟩,q4⟩:=q
   obtain rfl:=bQ q1
   obtain rfl:=bQ q2
   have q3:=bQ q3
   have q4:=List.all_eq_true.1 q4
   have F:=Z5 f
   obtain⟨g1,g2,g3,g4,g5,g6,g7,g8,g9,g10,g11⟩:=F
   refine Zx.tidy ⟨Tryz.f213,Tryz.func213,kR,by decide⟩ fun tidy=>?_
   have l1:=tidy _ _ heq
   refine Dx rfl ?_
   rcases L with _|⟨r0,_|⟨r1,_|⟨r2,_|⟨r3,_|⟨r4,L⟩⟩⟩⟩⟩
   ·simp only[List.length_nil] at q3; omega
   rotate_right
   ·simp only[List.length_cons] at q3; omega
   all_goals
    simp only[List.length_cons,List.length_nil] at q3
    subst q3
    obtain⟨x0,y0,z0,rfl,a1,a2,a3,a4,a5,a6⟩:=Za9 (q4 r0 (by simp))
    try obtain⟨x1,y1,z1,rfl,b1,b2,b3,b4,b5,b6⟩:=Za9 (q4 r1 (by simp))
    try obtain⟨x2,y2,z2,rfl,c1,c2,c3,c4,c5,c6⟩:=Za9 (q4 r2 (by simp))
    try obtain⟨x3,y3,z3,rfl,d1,d2,d3,d4,d5,d6⟩:=Za9 (q4 r3 (by simp))
    refine Ym Hh Tryz.f213 ?_
    have Jf:=Y2 @f @heq
    repeat (first|apply Z6|apply O9|apply E9|apply Yx|apply Ea|apply Yc|refine Goes.Zi Rj ?_|refine Zn Hh (EY Za (Zzi Hh)) Rj ?_)
    exact⟨_,_,Zd,rfl,fun m hm=>by exact Ni⟩
  ·cases e
 ·cases e
end
def Br:Lq:=List.replicate 256 0
def Fg (ns:Lq):Lq:=Jz ns 252 (Qx ns)
abbrev Gc:=Nat × Nat × Nat
def U4 (d:Gc):List C:=[.int .i64 (d.1:Int),.int .i64 (d.2.1:Int),.int .i64 (d.2.2:Int)]
def Ma:List Gc->Nat->Lq->Lq
 | [],_,x=>x
 | d :: D,i,x=>Ma D (i+8) (Zm9 x i d.1 d.2.1 d.2.2)
def getD (ns:Lq) (i:Nat):Gc:=(Ou ns i,Ou ns (i+2),Ou ns (i+4))
def Dn (ns:Lq):Nat->Nat->List Gc
 | 0,_=>[]
 | k+1,i=>getD ns i :: Dn ns k (i+8)
theorem zPg:List.replicate 256 (C.int .u8 0)=pgL Br:=kR
theorem Zo8:Br.length=256:=kR
theorem Zl3:∀ D:List Gc,(D.map U4).all (fun l=>l.all C.flat)=true
 | []=>rfl
 | _ :: D=>Zl3 D
theorem Zwj:(∀ ns:Lq,(pgL ns).length=ns.length)/\(∀ (ns:Lq) (i v:Nat),(G8 ns i v).length=ns.length)/\(∀ (ns:Lq) (i v:Nat),(Jz ns i v).length=ns.length)/\(∀ (ns:Lq) (a b c d:Nat),(Z9q ns a b c d).length=ns.length)/\(∀ (ns:Lq) (i a b c:Nat),(Zm9 ns i a b c).length=ns.length):=⟨J7,Yz,Yj,Zv2,Zna⟩
theorem Z7a {ns:Lq} (h:ns.length<=256/\256<=ns.length):Zm 256 [pgL ns] 0 256=some (pgL ns):=Lm (by rw[J7]; omega)
theorem Ydp {ns:Lq} {x:List C} (h:(ns.length<=256/\256<=ns.length)/\x.length<=256/\256<=x.length):Z0 256 [x] 0 (pgL ns)=some [pgL ns]:=Tz (by rw[J7]; omega)
theorem rd4 (a b c d:C):Zm 4 [[a,b,c,d]] 0 4=some [a,b,c,d]:=rfl
theorem rd30 (x y z:C) (L:List (List C)):Zm 3 ([x,y,z] :: L) 0 3=some [x,y,z]:=rfl
theorem rd31 (r0:List C) (x y z:C) (L:List (List C)):Zm 3 (r0 :: [x,y,z] :: L) 3 3=some [x,y,z]:=rfl
theorem rd32 (r0 r1:List C) (x y z:C) (L:List (List C)):Zm 3 (r0 :: r1 :: [x,y,z] :: L) 6 3=some [x,y,z]:=rfl
theorem rd33 (r0 r1 r2:List C) (x y z:C) (L:List (List C)):Zm 3 (r0 :: r1 :: r2 :: [x,y,z] :: L) 9 3=some [x,y,z]:=rfl
theorem wr30 (x y z a b c:C) (L:List (List C)):Z0 3 ([x,y,z] :: L) 0 [a,b,c]=some ([a,b,c] :: L):=rfl
theorem wr31 (r0:List C) (x y z a b c:C) (L:List (List C)):Z0 3 (r0 :: [x,y,z] :: L) 3 [a,b,c]=some (r0 :: [a,b,c] :: L):=rfl
theorem wr32 (r0 r1:List C) (x y z a b c:C) (L:List (List C)):Z0 3 (r0 :: r1 :: [x,y,z] :: L) 6 [a,b,c]=some (r0 :: r1 :: [a,b,c] :: L):=rfl
theorem wr33 (r0 r1 r2:List C) (x y z a b c:C) (L:List (List C)):Z0 3 (r0 :: r1 :: r2 :: [x,y,z] :: L) 9 [a,b,c]=some (r0 :: r1 :: r2 :: [a,b,c] :: L):=rfl
section
variable (Hh:Hearts K Tryz.prog)
include Hh
end
open Go.Ev
theorem rs143:Tryz.f143.results.toList=[.cell 4 87,.tmp 5]:=rfl
attribute [go_sem] rs143
section
variable (Hh:Hearts K Tryz.prog)
include Hh
theorem Zy1 {a b c d n:Nat} {D:List Gc} {ro:Bool} (f:Yu a b c d=true) {h:Hq} (hst:h.get 0=some Bt) (hn:h.get n=some (.row 3 (D.map U4) ro)) (hD:D.length=a) (ok:∀ d∈D,d.1<=b - 2 - c / 4/\d.2.1<=c/\d.2.2+d.2.1<=c) :
  Zb 143 [.g [.int .i64 (a:Int),.int .i64 (b:Int),.int .i64 (c:Int),.int .i64 (d:Int)],.c (.slice n 0 a 3)] h (.tup [.g (pgL (Fg (Ma D 0 Br))),.c (.int .i64 0)]) h:=by
 obtain⟨g1,g2,g3,g4,g5,g6,g7,g8,g9,g10,g11⟩:=Z5 f
 obtain⟨Z,hZ⟩:=xzE (Br)
 have z0:=zPg
 have zl:=Zo8
 rw[hZ] at z0 zl ⊢
 refine Zx.tidy ⟨Tryz.f143,Tryz.func143,kR,by decide⟩ fun tidy=>?_
 have l0:=tidy _ _ hst
 have l1:=tidy _ _ hn
 refine Dx (by simp only[V.flat,W.flat,List.all_cons,Zc3]; rfl) ?_
 rcases D with _|⟨⟨x0,y0,w0⟩,_|⟨⟨x1,y1,w1⟩,_|⟨⟨x2,y2,w2⟩,_|⟨⟨x3,y3,w3⟩,_|⟨r4,D⟩⟩⟩⟩⟩
 ·simp only[List.length_nil] at hD; omega
 rotate_right
 ·simp only[List.length_cons] at hD; omega
 all_goals
  simp only[List.length_cons,List.length_nil,Nat.reduceAdd] at hD
  subst hD
  simp only[List.map_cons,List.map_nil,U4] at hn
  have o0:=ok (x0,y0,w0) (by simp)
  try have o1:=ok (x1,y1,w1) (by simp)
  try have o2:=ok (x2,y2,w2) (by simp)
  try have o3:=ok (x3,y3,w3) (by simp)
  simp only at o0
  try simp only at o1
  try simp only at o2
  try simp only at o3
  refine Ym Hh Tryz.f143 ?_
  repeat (first|apply Z6|apply O9|apply E9|apply Yx|apply Ea|apply Yc|((first|apply Goes.Zi|apply gO fits Hh (EY (EY (EY (EY Za (Gi Hh)) (Zmn Hh)) (Zry Hh)) (Zzc Hh))); · simp (maxSteps:=9^6) +decide (disch:=first|omega|(simp only[lens,Zwj]<;>omega)|decide) only [go_sem,Zh,simprocAttr,f,hst,hn,List.all_cons,List.all_nil,Bool.and_true,Bool.true_and,z0,zl,Z7a,Ydp,rd4,rd30,rd31,rd32,rd33,Yt,Zr,Jl,read1]<;>rfl))
  exact⟨_,_,(by simp (maxSteps:=9^6) +decide (disch:=first|omega|(simp only[lens,Zwj]<;>omega)|decide) only [go_sem,Zh,simprocAttr,zl,Z7a]<;>rfl),(by simp only[Fg,Ma,Nat.reduceAdd]),fun m hm=>by exact Yn⟩
end
theorem rs139:Tryz.f139.results.toList=[.tmp 4,.tmp 5]:=rfl
attribute [go_sem] rs139
section
variable (Hh:Hearts K Tryz.prog)
include Hh
theorem Zyn {a b c d:Nat} {ns:Lq} (f:Yu a b c d=true) {h:Hq} (hst:h.get 0=some Bt) (hl:ns.length=256) (s1:Yk ns 252=Qx ns) (s2:Bv ns (8 * a) (252 - 8 * a)=true) (s3:∀ k,k<a->Bv ns (8 * k+6) 2=true) (ok:∀ d∈Dn ns a 0,d.1<=b - 2 - c / 4/\d.2.1<=c/\d.2.2+d.2.1<=c) :
  Zb 139 [.g [.int .i64 (a:Int),.int .i64 (b:Int),.int .i64 (c:Int),.int .i64 (d:Int)],.g (pgL ns)] h (.tup [.c (.slice h.next 0 a 3),.c (.int .i64 0)]) (h.new (.row 3 ((Dn ns a 0).map U4) false)):=by
 obtain⟨g1,g2,g3,g4,g5,g6,g7,g8,g9,g10,g11⟩:=Z5 f
 refine Zx.tidy ⟨Tryz.f139,Tryz.func139,kR,by decide⟩ fun tidy=>?_
 have l0:=tidy _ _ hst
 have t0:Bv ns 6 2=true:=s3 0 oM
 have t1:1<a->Bv ns 14 2=true:=s3 1
 have t2:2<a->Bv ns 22 2=true:=s3 2
 have t3:3<a->Bv ns 30 2=true:=s3 3
 obtain⟨v,h',cc,n,rfl,n1,n2,n3,hk⟩:∃ v h',Zb 139 [.g [.int .i64 (a:Int),.int .i64 (b:Int),.int .i64 (c:Int),.int .i64 (d:Int)],.g (pgL ns)] h v h'/\∃ n,v=.tup [.c (.slice n 0 a 3),.c (.int .i64 0)]/\h.next<=n/\n<h'.next/\h'.get n=some (.row 3 ((Dn ns a 0).map U4) false)/\∀ m,m<h.next->h'.get m=h.get m:=by
  obtain rfl|rfl|rfl|rfl:a=1\/a=2\/a=3\/a=4:=oM
  all_goals
   simp only[Dn,getD,List.forall_mem_cons,Nat.reduceAdd,Nat.reduceMul,Nat.reduceSub] at ok s2
   obtain⟨o0,ok⟩:=ok
   try obtain⟨o1,ok⟩:=ok
   try obtain⟨o2,ok⟩:=ok
   try obtain⟨o3,ok⟩:=ok
   refine Ym Hh Tryz.f139 ?_
   repeat (first|apply Z6|apply O9|apply E9|apply Yx|apply Ea|apply Yc|((first|apply Goes.Zi|apply gO fits Hh (EY (EY (EY (EY (EY Za (Gi Hh)) (Zrx Hh)) (Zot Hh)) (Zrw Hh)) (Zmn Hh))); · simp (maxSteps:=9^6) +decide (disch:=first|omega|(simp only[lens,Zwj]<;>omega)|decide) only [go_sem,Zh,simprocAttr,f,hst,hl,List.all_cons,List.all_nil,Bool.and_true,Bool.true_and,s1,s2,t0,t1,t2,t3,Z7a,Ydp,rd4,rd30,rd31,rd32,rd33,wr30,wr31,wr32,wr33,List.replicate_succ,List.replicate_zero,Yt,Zr,Jl,U7,Uo,read1]<;>rfl))
   exact⟨_,_,(by simp (maxSteps:=9^6) +decide (disch:=first|omega|(simp only[lens,Zwj]<;>omega)|decide) only [go_sem,Zh,simprocAttr,hl,Z7a]<;>rfl),_,rfl,(by first|omega|(simp only[H.Ze,H.Zf]<;>omega)),(by first|omega|(simp only[H.Ze,H.Zf]<;>omega)),by simp (maxSteps:=9^6) +decide (disch:=first|exact dZ|fail) only [go_sem,Zh,simprocAttr,Dn,getD,U4,List.map_cons,List.map_nil]<;>rfl,fun m hm=>by exact Yn⟩
 exact Zx.row cc n1 n3 rfl (Zl3 _) n2 hk
end
open Go.Ev
def Zxk:List C->Option Gc
 | [.int .i64 x,.int .i64 y,.int .i64 z]=>(Ob x).bind fun x=>(Ob y).bind fun y=>(Ob z).bind fun z=>some (x,y,z)
 | _=>none
def Z0p:List (List C)->Option (List Gc)
 | []=>some []
 | r :: L=>(Zxk r).bind fun d=>(Z0p L).bind fun D=>some (d :: D)
theorem Z0s (d:Gc):Zxk (U4 d)=some d:=by simp only[Zxk,U4,Zir,Option.bind_some]
theorem Zk4:∀ D:List Gc,Z0p (D.map U4)=some D
 | []=>rfl
 | d :: D=>by simp only[List.map_cons,Z0p,Z0s,Option.bind_some,Zk4 D]
theorem Zxl {r:List C} {d:Gc} (e:Zxk r=some d):r=U4 d:=by
 unfold Zxk at e
 split at e
 ·obtain⟨x,hx,e⟩:=Zk e
  obtain⟨y,hy,e⟩:=Zk e
  obtain⟨z,hz,e⟩:=Zk e
  cases e
  rw[Yb hx,Yb hy,Yb hz]
  rfl
 ·cases e
theorem Zk5:∀ {L:List (List C)} {D:List Gc},Z0p L=some D->L=D.map U4
 | [],D,e=>by cases e; rfl
 | r :: L,D,e=>by
  obtain⟨d,hd,e⟩:=Zk (show (Zxk r).bind _=some D from e)
  obtain⟨D',hD,e⟩:=Zk e
  cases e
  rw[List.map_cons,<-Zxl hd,<-Zk5 hD]
def Zbn (dt ino:Nat) (d:Gc):Bool:=Nat.ble d.1 dt&&Nat.ble d.2.1 ino&&Nat.ble (d.2.2+d.2.1) ino
theorem Za8 {dt ino:Nat} {d:Gc} (e:Zbn dt ino d=true):d.1<=dt/\d.2.1<=ino/\d.2.2+d.2.1<=ino:=by
 simp only[Zbn,aQ] at e
 exact⟨lQ e.1.1,lQ e.1.2,lQ e.2⟩
def Ybf:Kn1:=fun args h=>match args with
 | [.g [.int .i64 a,.int .i64 b,.int .i64 c,.int .i64 d],.c (.slice n 0 len 3)]=>Zgd a b c d fun a b c _=>match h.get n with
  | some (.row s L _)=>(Z0p L).bind fun D=>Y5 (Nat.beq s 3&&Nat.beq len a&&Nat.beq D.length a&&D.all (Zbn (b - 2 - c / 4) c)&&M4 (h.get 0)) (some (.tup [.g (pgL (Fg (Ma D 0 Br))),.c (.int .i64 0)],h))
  | _=>none
 | _=>none
def Rf (ns:Lq):Nat->Nat->Bool
 | 0,_=>true
 | k+1,i=>Bv ns (i+6) 2&&Rf ns k (i+8)
theorem Zrp {ns:Lq}:∀ {a i:Nat},Rf ns a i=true->∀ k,k<a->Bv ns (8 * k+i+6) 2=true
 | 0,_,_,k,hk=>by omega
 | a+1,i,e,k,hk=>by
  have e':(Bv ns (i+6) 2&&Rf ns a (i+8))=true:=e
  rw[aQ] at e'
  cases k with
  | zero=>rw[Nat.mul_zero,Nat.zero_add]; exact e'.1
  | succ k=>have:=Zrp e'.2 k oM; rwa [show 8 * (k+1)+i+6=8 * k+(i+8)+6 by omega]
def goodD (ns:Lq) (a b c:Nat):Bool:=Nat.beq (Yk ns 252) (Qx ns)&&Bv ns (8 * a) (252 - 8 * a)&&Rf ns a 0&&(Dn ns a 0).all (Zbn (b - 2 - c / 4) c)
theorem Nw (ns:Lq):∀ a i,Dn (ns.map (· % 256)) a i=Dn ns a i
 | 0,_=>rfl
 | a+1,i=>by simp only[Dn,getD,Q6,Nw ns a]
theorem Zmb (ns:Lq):∀ a i,Rf (ns.map (· % 256)) a i=Rf ns a i
 | 0,_=>rfl
 | a+1,i=>by simp only[Rf,Zea,Zmb ns a]
theorem Ru (ns:Lq) (a b c:Nat):goodD (ns.map (· % 256)) a b c=goodD ns a b c:=by simp only[goodD,Vz,Zax,Zea,Zmb,Nw]
def Ybc:Kn1:=fun args h=>match args with
 | [.g [.int .i64 a,.int .i64 b,.int .i64 c,.int .i64 d],.g x]=>Zgd a b c d fun a b c _=>Y5 (Zpr x&&Nat.beq x.length 256&&goodD (unN x) a b c&&M4 (h.get 0)) (some (.tup [.c (.slice h.next 0 a 3),.c (.int .i64 0)],h.new (.row 3 ((Dn (unN x) a 0).map U4) false)))
 | _=>none
attribute [go_sem] Ybf Ybc Zk4 Nw Ru
section
variable (Hh:Hearts K Tryz.prog)
include Hh
theorem Zww {args:List W} {h h':Hq} {v:V} (e:Ybf args h=some (v,h')):Zb 143 args h v h':=by
 unfold Ybf at e
 split at e
 ·obtain⟨a,b,c,d,rfl,rfl,rfl,rfl,f,e⟩:=Dt e
  split at e
  ·rename_i s L ro heq
   obtain⟨D,hD,e⟩:=Zk e
   obtain⟨q,e⟩:=Zu.1 e
   cases e
   simp only[aQ] at q
   obtain⟨⟨⟨⟨q1,q2⟩,q3⟩,q4⟩,q5⟩:=q
   obtain rfl:=bQ q1
   obtain rfl:=bQ q2
   rw[Zk5 hD] at heq
   exact Zy1 Hh f (Md q5) heq (bQ q3) fun d hd=>Za8 (List.all_eq_true.1 q4 d hd)
  ·cases e
 ·cases e
theorem Zwv {args:List W} {h h':Hq} {v:V} (e:Ybc args h=some (v,h')):Zb 139 args h v h':=by
 unfold Ybc at e
 split at e
 ·obtain⟨a,b,c,d,rfl,rfl,rfl,rfl,f,e⟩:=Dt e
  obtain⟨q,e⟩:=Zu.1 e
  cases e
  simp only[aQ] at q
  obtain⟨⟨⟨q1,q2⟩,q3⟩,q5⟩:=q
  obtain⟨ns,rfl,hl⟩:=Zgn q1
  have q2:=bQ q2
  rw[q2] at hl
  rw[Gr,Ru] at q3
  rw[Gr,Nw]
  simp only[goodD,aQ] at q3
  obtain⟨⟨⟨r1,r2⟩,r3⟩,r4⟩:=q3
  exact Zyn Hh f (Md q5) hl (bQ r1) r2 (fun k hk=>by have:=Zrp r3 k hk; rwa [Nat.add_zero] at this) fun d hd=>Za8 (List.all_eq_true.1 r4 d hd)
 ·cases e
end
theorem Zho:∀ (D:List Gc) (i:Nat) (x:Lq),(Ma D i x).length=x.length
 | [],_,_=>rfl
 | d :: D,i,x=>by rw[Ma,Zho D,Zna]
def w2 (v:Nat):Nat:=v % 256+256 * (v / 256 % 256)
theorem Z3c {v:Nat} (h:v<65536):w2 v=v:=by unfold w2; omega
theorem at_set {ns:Lq} {i v:Nat} (h:i<ns.length):atN (ns.set i v) i=v % 256:=by
 unfold atN
 rw[List.getD_eq_getElem?_getD,List.getElem?_set_self h]
 rfl
theorem Zbq {ns:Lq} {i j v:Nat} (h:i≠j):atN (ns.set i v) j=atN ns j:=by
 unfold atN
 rw[List.getD_eq_getElem?_getD,List.getD_eq_getElem?_getD,List.getElem?_set_ne h]
theorem Z09 {ns:Lq} {i v:Nat} (h:i+4<=ns.length) (hv:v<4294967296):Yk (Jz ns i v) i=v:=by
 unfold Yk Jz
 have h0:atN ((((ns.set i v).set (i+1) (v / 256)).set (i+2) (v / 256 / 256)).set (i+3) (v / 256 / 256 / 256)) i=v % 256:=by
  rw[Zbq oM,Zbq oM,Zbq oM,at_set oM]
 have h1:atN ((((ns.set i v).set (i+1) (v / 256)).set (i+2) (v / 256 / 256)).set (i+3) (v / 256 / 256 / 256)) (i+1)=v / 256 % 256:=by
  rw[Zbq oM,Zbq oM,at_set (by rw[List.length_set]; omega)]
 have h2:atN ((((ns.set i v).set (i+1) (v / 256)).set (i+2) (v / 256 / 256)).set (i+3) (v / 256 / 256 / 256)) (i+2)=v / 256 / 256 % 256:=by
  rw[Zbq oM,at_set (by rw[List.length_set,List.length_set]; omega)]
 have h3:atN ((((ns.set i v).set (i+1) (v / 256)).set (i+2) (v / 256 / 256)).set (i+3) (v / 256 / 256 / 256)) (i+3)=v / 256 / 256 / 256 % 256:=by
  rw[at_set (by rw[List.length_set,List.length_set,List.length_set]; omega)]
 rw[h0,h1,h2,h3]
 omega
theorem take_set {ns:Lq} {i v k:Nat} (h:k<=i):(ns.set i v).take k=ns.take k:=by
 refine List.ext_getElem? fun j=>?_
 rw[List.getElem?_take,List.getElem?_take]
 split
 ·rw[List.getElem?_set_ne oM]
 ·rfl
theorem Z0l (ns:Lq):Qx (Fg ns)=Qx ns:=by
 have:(Fg ns).take 252=ns.take 252:=by
  unfold Fg Jz
  rw[take_set oM,take_set oM,take_set oM,take_set oM]
 unfold Qx
 rw[this]
theorem Zr6 (ns:Lq) {i n:Nat} (h:i+n<=252):Bv (Fg ns) i n=Bv ns i n:=by
 have:((Fg ns).drop i).take n=(ns.drop i).take n:=by
  rw[List.take_drop,List.take_drop]
  congr 1
  unfold Fg Jz
  rw[take_set oM,take_set oM,take_set oM,take_set oM]
 unfold Bv
 rw[this]
theorem Zvh (ns:Lq) {i:Nat} (h:i<252):atN (Fg ns) i=atN ns i:=by
 unfold Fg Jz
 rw[Zbq oM,Zbq oM,Zbq oM,Zbq oM]
theorem Zep (ns:Lq) {i:Nat} (h:i<250):Ou (Fg ns) i=Ou ns i:=by
 unfold Ou
 rw[Zvh _ oM,Zvh _ oM]
theorem Zfc (ns:Lq):∀ (a i:Nat),i+8 * a<=240->Dn (Fg ns) a i=Dn ns a i
 | 0,_,_=>rfl
 | a+1,i,h=>by
  rw[Dn,Dn,Zfc ns a (i+8) oM]
  unfold getD
  rw[Zep _ oM,Zep _ oM,Zep _ oM]
theorem Zmc (ns:Lq):∀ (a i:Nat),i+8 * a<=240->Rf (Fg ns) a i=Rf ns a i
 | 0,_,_=>rfl
 | a+1,i,h=>by rw[Rf,Rf,Zmc ns a (i+8) oM,Zr6 _ oM]
def wD (d:Gc):Gc:=(w2 d.1,w2 d.2.1,w2 d.2.2)
theorem Ydm {d:Gc} (h:d.1<65536/\d.2.1<65536/\d.2.2<65536):wD d=d:=by
 unfold wD
 rw[Z3c h.1,Z3c h.2.1,Z3c h.2.2]
theorem tell1 (q x y:Nat):Dn (Ma [(q,x,y)] 0 Br) 1 0=[wD (q,x,y)]/\Rf (Ma [(q,x,y)] 0 Br) 1 0=true/\Bv (Ma [(q,x,y)] 0 Br) 8 244=true:=⟨kR,kR,kR⟩
theorem tell2 (q x y q1 x1 y1:Nat):Dn (Ma [(q,x,y),(q1,x1,y1)] 0 Br) 2 0=[wD (q,x,y),wD (q1,x1,y1)]/\Rf (Ma [(q,x,y),(q1,x1,y1)] 0 Br) 2 0=true/\Bv (Ma [(q,x,y),(q1,x1,y1)] 0 Br) 16 236=true:=⟨kR,kR,kR⟩
theorem tell3 (q x y q1 x1 y1 q2 x2 y2:Nat):Dn (Ma [(q,x,y),(q1,x1,y1),(q2,x2,y2)] 0 Br) 3 0=[wD (q,x,y),wD (q1,x1,y1),wD (q2,x2,y2)]/\Rf (Ma [(q,x,y),(q1,x1,y1),(q2,x2,y2)] 0 Br) 3 0=true/\Bv (Ma [(q,x,y),(q1,x1,y1),(q2,x2,y2)] 0 Br) 24 228=true:=⟨kR,kR,kR⟩
theorem tell4 (q x y q1 x1 y1 q2 x2 y2 q3 x3 y3:Nat):Dn (Ma [(q,x,y),(q1,x1,y1),(q2,x2,y2),(q3,x3,y3)] 0 Br) 4 0=[wD (q,x,y),wD (q1,x1,y1),wD (q2,x2,y2),wD (q3,x3,y3)]/\Rf (Ma [(q,x,y),(q1,x1,y1),(q2,x2,y2),(q3,x3,y3)] 0 Br) 4 0=true/\Bv (Ma [(q,x,y),(q1,x1,y1),(q2,x2,y2),(q3,x3,y3)] 0 Br) 32 220=true:=⟨kR,kR,kR⟩
def Zxm (D:List Gc):List C:=pgL (Fg (Ma D 0 Br))
theorem Z26 {a m x:Nat} {D:List Gc} (a1:1<=a) (a4:a<=4) (Dl:D.length=a) (Dm:D.all (Zbn m x)=true) (mm:m<65536) (xx:x<65536):Dn (Ma D 0 Br) a 0=D/\Rf (Ma D 0 Br) a 0=true/\Bv (Ma D 0 Br) (8 * a) (252 - 8 * a)=true:=by
 have b:∀ d∈D,wD d=d:=fun d hd=>by
  obtain⟨h1,h2,h3⟩:=Za8 (List.all_eq_true.1 Dm d hd)
  exact Ydm ⟨oM,oM,oM⟩
 match D,Dl with
 | [],Dl=>simp at Dl; omega
 | [(q,u,v)],Dl =>
  obtain rfl:a=1:=by simpa using Dl.symm
  have:=tell1 q u v
  rw[b _ (by simp)] at this
  exact this
 | [(q,u,v),(q1,u1,v1)],Dl =>
  obtain rfl:a=2:=by simpa using Dl.symm
  have:=tell2 q u v q1 u1 v1
  rw[b _ (by simp),b (q1,u1,v1) (by simp)] at this
  exact this
 | [(q,u,v),(q1,u1,v1),(q2,u2,v2)],Dl =>
  obtain rfl:a=3:=by simpa using Dl.symm
  have:=tell3 q u v q1 u1 v1 q2 u2 v2
  rw[b _ (by simp),b (q1,u1,v1) (by simp),b (q2,u2,v2) (by simp)] at this
  exact this
 | [(q,u,v),(q1,u1,v1),(q2,u2,v2),(q3,u3,v3)],Dl =>
  obtain rfl:a=4:=by simpa using Dl.symm
  have:=tell4 q u v q1 u1 v1 q2 u2 v2 q3 u3 v3
  rw[b _ (by simp),b (q1,u1,v1) (by simp),b (q2,u2,v2) (by simp),b (q3,u3,v3) (by simp)] at this
  exact this
 | _ :: _ :: _ :: _ :: _ :: _,Dl=>simp only[List.length_cons] at Dl; omega
theorem Zxn {a b c d:Nat} (f:Yu a b c d=true) {D:List Gc} (Dl:D.length=a) (Dm:D.all (Zbn (b - 2 - c / 4) c)=true):Zpr (Zxm D)=true/\goodD (unN (Zxm D)) a b c=true/\Dn (unN (Zxm D)) a 0=D:=by
 obtain⟨g1,g2,g3,g4,g5,g6,g7,g8,g9,g10,g11⟩:=Z5 f
 obtain⟨t1,t2,t3⟩:=Z26 g1 g2 Dl Dm oM oM
 refine⟨Zee _,?_,?_⟩
 ·unfold Zxm
  rw[Gr,Ru]
  have q1:Yk (Fg (Ma D 0 Br)) 252=Qx (Fg (Ma D 0 Br)):=by
   rw[Z0l]
   exact Z09 (by rw[Zho,Zo8]; omega) (Z0k _)
  unfold goodD
  rw[q1,Nat.beq_refl,Zr6 _ oM,t3,Zmc _ _ _ oM,t2,Zfc _ _ _ oM,t1,Dm]
  rfl
 ·unfold Zxm
  rw[Gr,Nw,Zfc _ _ _ oM]
  exact t1
open Go.Ev
theorem Zoi {i:Nat} (h:i<8):Lb i=(i,[]):=if_pos h
theorem Z0e {V:Nat->Lq} {P:Nat->Nat} {i:Nat} (h:i<8):Zbl V P i=P i:=by
 unfold Zbl
 rw[Zoi h]
 rfl
structure FI (blk:Nat->Nat) (V:Nat->Lq) (P:Nat->Nat) (lo m:Nat):Prop where
 i8:P 8=0\/∃ k,lo<=k/\k<m/\P 8=blk k
 bl:∀ i,i<72->Zbl V P i=0\/∃ k,lo<=k/\k<m/\Zbl V P i=blk k
 dj:∀ i j,i<72->j<72->Zbl V P i≠0->Zbl V P i=Zbl V P j->i=j
 d8:∀ i,i<72->Zbl V P i≠0->Zbl V P i≠P 8
theorem FI.step {blk:Nat->Nat} {V V':Nat->Lq} {P P':Nat->Nat} {lo m m' cap i k1:Nat} (F:FI blk V P lo m) (inj:∀ m m',m<cap->m'<cap->blk m=blk m'->m=m') (mc:m'<=cap) (lm:lo<=m) (mm:m<=m') (hP:P' 8=P 8\/∃ k,m<=k/\k<m'/\P' 8=blk k) (hj:∀ j,j<72->j≠i->Zbl V' P' j=Zbl V P j) (k1m:m<=k1) (k1l:k1<m') (hi:Zbl V' P' i=blk k1) (h8:blk k1≠P' 8):FI blk V' P' lo m':=by
 obtain⟨i8,bl,dj,d8⟩:=F
 have old:∀ j,j<72->j≠i->Zbl V' P' j≠0->Zbl V' P' j≠blk k1:=fun j h1 h2 h3 e=>by
  rw[hj j h1 h2] at h3 e
  rcases bl j h1 with w|⟨k,a1,a2,a3⟩
  ·exact h3 w
  ·have:=inj k k1 oM oM (a3.symm.trans e)
   omega
 refine⟨?_,fun j h1=>?_,fun j l h1 h2 h3 e=>?_,fun j h1 h2=>?_⟩
 ·rcases hP with w|⟨k,a1,a2,a3⟩
  ·rw[w]
   rcases i8 with w2|⟨k,a1,a2,a3⟩
   ·exact .inl w2
   ·exact .inr ⟨k,a1,oM,a3⟩
  ·exact .inr ⟨k,oM,a2,a3⟩
 ·by_cases q:j=i
  ·subst q
   exact .inr ⟨k1,oM,k1l,hi⟩
  ·rw[hj j h1 q]
   rcases bl j h1 with w|⟨k,a1,a2,a3⟩
   ·exact .inl w
   ·exact .inr ⟨k,a1,oM,a3⟩
 ·by_cases q:j=i
  ·subst q
   by_cases q2:l=j
   ·exact q2.symm
   ·exact absurd (e.symm.trans hi) (old l h2 q2 (by rw[<-e]; exact h3))
  ·by_cases q2:l=i
   ·subst q2
    exact absurd (e.trans hi) (old j h1 q h3)
   ·rw[hj j h1 q] at h3 e
    rw[hj l h2 q2] at e
    exact dj j l h1 h2 h3 e
 ·by_cases q:j=i
  ·subst q
   rw[hi]
   exact h8
  ·rw[hj j h1 q] at h2 ⊢
   rcases hP with w|⟨k,a1,a2,a3⟩
   ·rw[w]; exact d8 j h1 h2
   ·rcases bl j h1 with w|⟨k',b1,b2,b3⟩
    ·exact absurd w h2
    ·rw[b3,a3]
     intro e
     have:=inj k' k oM oM e
     omega
def Od (P:Nat->Nat) (k v:Nat):Nat->Nat:=fun j=>if j=k then v else P j
theorem InoP.set {x:List C} {P:Nat->Nat} (X:InoP x P) {k v:Nat} (hk:k<11) (hv:v<4294967296):InoP (x.set (4+k) (.int .u32 (v:Nat))) (Od P k v):=by
 obtain⟨xl,pt,pb⟩:=X
 refine⟨by rw[List.length_set]; exact xl,fun i hi=>?_,fun i hi=>?_⟩
 ·unfold Od
  by_cases e:i=k
  ·subst e
   rw[if_pos rfl,List.getElem?_set_self oM]
  ·rw[if_neg e,List.getElem?_set_ne oM]
   exact pt i hi
 ·unfold Od
  split
  ·exact hv
  ·exact pb i hi
def cpN (ns:Lq) (f:Nat) (xs:Lq):Lq:=ns.take f++(xs++ns.drop (f+xs.length))
theorem Zvr {ns xs:Lq} {f:Nat} (h:f+xs.length<=ns.length):(cpN ns f xs).length=ns.length:=by
 simp only[cpN,List.length_append,List.length_take,List.length_drop]; omega
theorem Z8w {ns xs:Lq} {f:Nat} (nl:ns.length=256) (h:f+xs.length<=256) (x0:0<xs.length):Z0 256 [pgL ns] f (pgL xs)=some [pgL (cpN ns f xs)]:=by
 have e:pgL (cpN ns f xs)=(pgL ns).take f++pgL xs++(pgL ns).drop (f+xs.length):=by simp only[cpN,pgL,List.map_append,List.map_take,List.map_drop,List.append_assoc]
 rw[e]
 match xs,x0 with
 | [x],_ =>
  have f2:f<256:=by simp only[List.length_cons,List.length_nil] at h; omega
  simp only[Z0,pgL,List.map_cons,List.map_nil]
  rw[Nat.div_eq_of_lt f2,Nat.mod_eq_of_lt f2,List.getElem?_cons_zero]
  have b:Nat.blt f (List.map (fun n=>C.int .u8 ((n % 256:Nat):Int)) ns).length=true:=by rw[List.length_map,nl]; exact Nat.ble_eq_true_of_le f2
  simp only[b,cond_true,List.set_cons_zero]
  rw[List.set_eq_take_append_cons_drop,if_pos (by rw[List.length_map,nl]; exact f2)]
  simp
 | x :: y :: r,_ =>
  simp only[List.length_cons] at h
  simp only[Z0,pgL,List.map_cons]
  rw[Nat.div_eq_of_lt oM,Nat.mod_eq_of_lt oM,List.getElem?_cons_zero]
  simp only[List.length_map,List.length_cons,nl]
  rw[Qs oM,cond_true]
  rfl
theorem Z5k {h:Hq} {te:TI} {b f k:Nat} {ns:Lq} (t1:te.zero=.c (.int .u8 0)) (hb:h.get b=some (.row 256 [pgL ns] false)) (nl:ns.length=256) (k0:0<k) (fk:f+k<=256) :
  Rq h (some te) (.slice b f k 1)=some (Go.Ev.undef,h.put b (.row 256 [pgL (cpN ns f (List.replicate k 0))] false)):=by
 have e:List.replicate k (C.int .u8 0)=pgL (List.replicate k 0):=by simp [pgL]
 have w:=Z8w (ns:=ns) (xs:=List.replicate k 0) (f:=f) nl (by rw[List.length_replicate]; omega) (by rw[List.length_replicate]; omega)
 have b0:Nat.blt 0 k=true:=Nat.ble_eq_true_of_le k0
 simp only[Rq,Zew,b0,Bool.and_self,cond_true,Zb6,t1,Xy,hb,e,w]
theorem Zzw {ns xs:Lq} {f j:Nat} (h:f+xs.length<=ns.length):atN (cpN ns f xs) j=if f<=j/\j<f+xs.length then atN xs (j - f) else atN ns j:=by
 unfold atN cpN
 simp only[List.getD_eq_getElem?_getD]
 by_cases h1:j<f
 ·rw[if_neg oM,List.getElem?_append_left (by rw[List.length_take]; omega),List.getElem?_take_of_lt h1]
 ·have l1:(ns.take f).length=f:=by rw[List.length_take]; omega
  rw[List.getElem?_append_right oM,l1]
  by_cases h2:j<f+xs.length
  ·rw[if_pos ⟨oM,h2⟩,List.getElem?_append_left oM]
  ·rw[if_neg oM,List.getElem?_append_right oM,List.getElem?_drop,show f+xs.length+(j - f - xs.length)=j by omega]
theorem Zcm (ns:Lq) (i v j:Nat) (h:i<ns.length):atN (ns.set i v) j=if j=i then v % 256 else atN ns j:=by
 unfold atN
 simp only[List.getD_eq_getElem?_getD]
 by_cases e:j=i
 ·subst e
  rw[if_pos rfl,List.getElem?_set_self h]
  rfl
 ·rw[if_neg e,List.getElem?_set_ne (Ne.symm e)]
theorem Z4o {ns:Lq} {a n:Nat} (h:a+n<=ns.length) (z:∀ j,j<n->atN ns (a+j)=0):Bv ns a n=true:=by
 have key:∀ l:Lq,(∀ b∈l,b=0)->Zgb l=true:=fun l=>by
  induction l with
  | nil=>intro _; rfl
  | cons b l ih =>
   intro hl
   obtain rfl:=hl b (List.mem_cons_self ..)
   exact ih fun b hb=>hl b (List.mem_cons_of_mem _ hb)
 refine key _ fun b hb=>?_
 obtain⟨j,hj⟩:=List.mem_iff_getElem?.1 hb
 have jn:j<n:=by
  rcases Nat.lt_or_ge j n with q|q
  ·exact q
  ·rw[lN (by rw[List.length_map,List.length_take,List.length_drop]; omega)] at hj; cases hj
 rw[List.getElem?_map,List.getElem?_take_of_lt jn,List.getElem?_drop] at hj
 have:=z j jn
 unfold atN at this
 rw[List.getD_eq_getElem?_getD] at this
 rw[lG oM] at hj this
 cases hj
 exact this
theorem Yan {x:List C} {o n:Nat} (n0:0<n) (h:o+n<=256) (xl:x.length=256):Zm 256 [x] o n=some ((x.drop o).take n):=by
 unfold Zm
 rw[Qq oM,cond_false,Nat.div_eq_of_lt oM,Nat.mod_eq_of_lt oM,List.getElem?_cons_zero]
 simp only
 rw[xl,Qs h,cond_true]
theorem chunks1:∀ (l:List C),chunks 1 l.length l=l.map fun c=>[c]
 | []=>rfl
 | c :: l=>by
  rw[List.length_cons,chunks,List.map_cons]
  show [c] :: chunks 1 l.length l=_
  rw[chunks1 l]
theorem Zk1:∀ (l:Lq),bytesOf ((pgL l).map fun c=>[c])=some (l.map fun n=>UInt8.ofNat (n % 256))
 | []=>rfl
 | n :: l=>by
  show (match bytesOf ((pgL l).map fun c=>[c]) with
   | none=>none
   | some r=>some (UInt8.ofNat (n % 256) :: r))=_
  rw[Zk1 l]
  rfl
theorem Z7o {h:Hq} {p o:Nat} {ns:Lq} {s:List UInt8} (hp:h.get p=some (.row 256 [pgL ns] false)) (nl:ns.length=256) (s0:0<s.length) (ho:o+s.length<=256) (hs:∀ j (b:UInt8),s[j]? = some b->atN ns (o+j)=b.toNat):Zjg h (Uf h 1 (.slice p o s.length 1))=some (.w (.c (.str s)),h):=by
 have e:Uf h 1 (.slice p o s.length 1)=some ((pgL ((ns.drop o).take s.length)).map fun c=>[c]):=by
  have l1:((pgL ns).drop o).take s.length=pgL ((ns.drop o).take s.length):=by simp only[pgL,List.map_take,List.map_drop]
  have l2:(pgL ((ns.drop o).take s.length)).length=s.length:=by rw[J7,List.length_take,List.length_drop]; omega
  have:=chunks1 (pgL ((ns.drop o).take s.length))
  rw[l2] at this
  simp only[Uf,Zew,cond_true,Qq (show s.length≠0 by omega),cond_false,hp,Wt,Fb,Qq (show (256:Nat)≠1 by decide),Nat.mul_one,Yan (x:=pgL ns) s0 ho (by rw[J7,nl]),l1,this]
 rw[e]
 show Go.Ev.strOf h (bytesOf _)=_
 rw[Zk1]
 show some (V.w (.c (.str _)),h)=_
 congr 5
 apply List.ext_getElem?
 intro j
 rw[List.getElem?_map]
 rcases Nat.lt_or_ge j s.length with q|q
 ·rw[List.getElem?_take_of_lt q,List.getElem?_drop,lG oM,lG q,Option.map_some]
  have:=hs j _ (lG q)
  unfold atN at this
  rw[List.getD_eq_getElem?_getD,lG oM,Option.getD_some] at this
  rw[this]
  simp
 ·rw[lN (by rw[List.length_take]; omega),lN q]
  rfl
theorem Z5o {h:Hq} {te:TI} {b f l:Nat} {ns:Lq} {s:List UInt8} (t1:te.size=1) (hb:h.get b=some (.row 256 [pgL ns] false)) (nl:ns.length=256) (s0:0<s.length) (fk:f+s.length<=256) (kl:s.length<=l) :
  Zb9 h (some te) (.slice b f l 1) (.str s)=some (.w (.c (.int .i64 (s.length:Int))),h.put b (.row 256 [pgL (cpN ns f (s.map UInt8.toNat))] false)):=by
 have e:(s.map fun c=>[C.int .u8 (c.toNat:Int)])=(pgL (s.map UInt8.toNat)).map fun c=>[c]:=by
  rw[pgL,List.map_map,List.map_map]
  refine List.map_congr_left fun c _=>?_
  show [C.int .u8 _]=[C.int .u8 ((c.toNat % 256:Nat):Int)]
  rw[Nat.mod_eq_of_lt c.toNat_lt]
 have fl:∀ l:List C,(l.map fun c=>[c]).flatten=l:=fun l=>by
  induction l with
  | nil=>rfl
  | cons c l ih=>rw[List.map_cons,List.flatten_cons,ih]; rfl
 have wm:Xk 256 [pgL ns] f 1 (s.map fun c=>[C.int .u8 (c.toNat:Int)])=some [pgL (cpN ns f (s.map UInt8.toNat))]:=by
  have w2:=Z8w (ns:=ns) (xs:=s.map UInt8.toNat) (f:=f) nl (by rw[List.length_map]; omega) (by rw[List.length_map]; omega)
  rw[<-fl (pgL (s.map UInt8.toNat)),<-e] at w2
  obtain⟨X,hX⟩:=xzE ((s.map fun c=>[C.int .u8 (c.toNat:Int)]))
  have Xl:X.length=s.length:=by rw[<-hX,List.length_map]
  rw[hX] at w2 ⊢
  match X,Xl with
  | [],x=>rw[List.length_nil] at x; omega
  | x :: X,_=>exact w2
 have n0:Nat.beq s.length 0=false:=Qq oM
 simp only[Zb9,Znv,Nat.min_eq_left kl,n0,cond_false,t1,Zew,cond_true,Zsm,Uf,Zhm,List.take_length,Zsl,hb,wm]
open Go.Ev
def xIB (args:List W) (h:Hq):Option (V × Hq):=match args with
 | [.c (.str s),.c (.int .u8 c)]=>some (.w (.c (.int .i64 (Go.Lib.indexByte s c.toNat.toUInt8))),h)
 | _=>none
theorem Zqm (s:List UInt8) (c:Int) (h:Hq):Zb 144 [.c (.str s),.c (.int .u8 c)] h (.w (.c (.int .i64 (Go.Lib.indexByte s c.toNat.toUInt8)))) h:=by
 refine Zx.Zwc ⟨Tryz.f144,Tryz.func144,kR,by decide⟩ fun ρ w vals hr ha=>?_
 obtain⟨a,b,rfl,hx,hy⟩:=Ez ha
 have e1:a=.string ⟨⟨s⟩⟩:=hx
 have e2:b=.int .u8 c:=hy
 subst e1; subst e2
 exact⟨_,rfl,Any.strings_IndexByte Tryz.lays137 ⟨⟨s⟩⟩ c w⟩
theorem Zcg {args:List W} {h h':Hq} {v:V} (e:xIB args h=some (v,h')):Zb 144 args h v h':=by
 unfold xIB at e
 split at e
 ·cases e
  exact Zqm _ _ _
 ·cases e
end
end Go.Proofs.YtmanipmhebgdbaaGreatDoor
