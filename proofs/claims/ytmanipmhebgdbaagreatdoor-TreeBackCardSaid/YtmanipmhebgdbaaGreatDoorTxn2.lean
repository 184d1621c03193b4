/- The disk's functions, of any disk whose power is on. -/
import Derived.Test.YtmanipmhebgdbaaGreatDoorBlk
set_option maxRecDepth 100000
set_option maxHeartbeats 4000000
set_option linter.unusedSimpArgs false
set_option linter.unusedVariables false
set_option linter.unusedSectionVars false
namespace Go.Proofs.YtmanipmhebgdbaaGreatDoor
open Go.Ev
noncomputable section
theorem ty3:K.types.get 3=some ti3:=kR
theorem sz3:ti3.size=1:=by rfl
theorem ag3:ti3.agg=false:=by rfl
theorem de3:ti3.desc=(.int .i64):=by rfl
theorem ze3:ti3.zero=(.c (.int .i64 0)):=by rfl
theorem ke3 (k:IntKind) (n:Int):Vh K 20 3 (.c (.int k n))=true:=kR
theorem ty4:K.types.get 4=some ti4:=kR
theorem sz4:ti4.size=1:=by rfl
theorem ag4:ti4.agg=false:=by rfl
theorem ze4:ti4.zero=(.c (.bool false)):=by rfl
theorem ty5:K.types.get 5=some ti5:=kR
theorem sz5:ti5.size=1:=by rfl
theorem ag5:ti5.agg=false:=by rfl
theorem de5:ti5.desc=(.int .u8):=by rfl
theorem ze5:ti5.zero=(.c (.int .u8 0)):=by rfl
theorem by5:ti5.bytes=1:=by rfl
theorem ty25:K.types.get 25=some ti25:=kR
theorem sz25:ti25.size=1:=by rfl
theorem ag25:ti25.agg=false:=by rfl
theorem de25:ti25.desc=(.pointer 200):=by rfl
theorem ty31:K.types.get 31=some ti31:=kR
theorem sz31:ti31.size=1:=by rfl
theorem ag31:ti31.agg=false:=by rfl
theorem ze31:ti31.zero=(.c (.int .i64 0)):=by rfl
theorem ty87:K.types.get 87=some ti87:=kR
theorem sz87:ti87.size=256:=by rfl
theorem ag87:ti87.agg=true:=by rfl
theorem de87:ti87.desc=(.array 256 5):=by rfl
theorem ze87:ti87.zero=(.g ((List.replicate 256 (.int .u8 0)))):=by rfl
theorem by87:ti87.bytes=256:=by rfl
theorem ty106:K.types.get 106=some ti106:=kR
theorem sz106:ti106.size=1:=by rfl
theorem ag106:ti106.agg=false:=by rfl
theorem de106:ti106.desc=(.slice 87):=by rfl
theorem el106:J9 K 106=some ti87:=kR
theorem fo200_0:Zw K 200 0=some (0,ti106):=kR
theorem fo200_1:Zw K 200 1=some (1,ti106):=kR
theorem fo200_4:Zw K 200 4=some (4,ti4):=kR
theorem fo200_5:Zw K 200 5=some (5,ti3):=kR
theorem bu200 (ps:List (Nat × W)):Yr K 200 (some ps)=gW (Yh K 200 ps ti200.zero.cells):=kR
theorem ze200:ti200.zero=(.g ([.snil,.snil,.snil,.int .i64 0,.bool false,.int .i64 0])):=by rfl
attribute [go_sem] ty3 sz3 ag3 de3 ze3 ke3 ty4 sz4 ag4 ze4 ty5 sz5 ag5 de5 ze5 by5 ty25 sz25 ag25 de25 ty31 sz31 ag31 ze31 ty87 sz87 ag87 de87 ze87 by87 ty106 sz106 ag106 de106 el106 fo200_0 fo200_1 fo200_4 fo200_5 bu200 ze200
theorem rs186:Tryz.f186.results.toList=[.tmp 2]:=rfl
theorem rs107:Tryz.f107.results.toList=[.tmp 2]:=rfl
theorem rs354:Tryz.f354.results.toList=[.tmp 2]:=rfl
theorem rs322:Tryz.f322.results.toList=[.tmp 2]:=rfl
theorem rs279:Tryz.f279.results.toList=[.tmp 4]:=rfl
theorem rs234:Tryz.f234.results.toList=[.cell 4 87,.tmp 5]:=rfl
attribute [go_sem] rs186 rs107 rs354 rs322 rs279 rs234
structure Dk where
 p:Nat
 q:Nat
 n:Nat
 wt:C
 ac:Int
 lf:Int
def dkL (D:Dk):List C:=[.slice D.p 0 D.n 256,.slice D.q 0 D.n 256,D.wt,.int .i64 D.ac,.bool false,.int .i64 D.lf]
attribute [go_sem] dkL
def Tn (h:Hq) (d:Nat):Option Dk:=match h.get d with
 | some (.row sz [[.slice p o1 n s1,.slice q o2 n2 s2,wt,.int .i64 ac,.bool st,.int .i64 lf]] ro)=>Y5 (Nat.beq sz 6&&Nat.beq o1 0&&Nat.beq s1 256&&Nat.beq o2 0&&Nat.beq s2 256&&Nat.beq n2 n&&Nat.blt 0 n&&Nat.ble n 2048&&!st&&!ro) (some ⟨p,q,n,wt,ac,lf⟩)
 | _=>none
theorem Ox {h:Hq} {d:Nat} {D:Dk} (e:Tn h d=some D):h.get d=some (.row 6 [dkL D] false)/\0<D.n/\D.n<=2048:=by
 unfold Tn at e
 split at e
 ·rename_i heq
  obtain⟨b,e⟩:=Zu.1 e
  cases e
  simp only[aQ,Bool.not_eq_true'] at b
  obtain⟨⟨⟨⟨⟨⟨⟨⟨⟨b1,b2⟩,b3⟩,b4⟩,b5⟩,b6⟩,b7⟩,b8⟩,rfl⟩,rfl⟩:=b
  obtain rfl:=bQ b1
  obtain rfl:=bQ b2
  obtain rfl:=bQ b3
  obtain rfl:=bQ b4
  obtain rfl:=bQ b5
  obtain rfl:=bQ b6
  exact⟨heq,by simpa [Nat.blt_eq] using b7,lQ b8⟩
 ·cases e
theorem Z1r (p o n:Nat):Y4 K 106 (.c (.slice p o n 256))=true:=kR
def Z1b (h:Hq) (q:Nat) (b:Nat):Option (List C):=match h.get q with
 | some (.row sz L _)=>Y5 (Nat.beq sz 256) (L[b]?.bind fun x=>Y5 (Nat.beq x.length 256&&x.all C.flat) (some x))
 | _=>none
theorem Zeq {h:Hq} {q b:Nat} {x:List C} (e:Z1b h q b=some x):∃ L ro,h.get q=some (.row 256 L ro)/\L[b]? = some x/\x.length=256/\x.all C.flat=true:=by
 unfold Z1b at e
 split at e
 ·rename_i sz L ro heq
  obtain⟨b1,e⟩:=Zu.1 e
  obtain rfl:=bQ b1
  obtain⟨y,hy,e⟩:=Zk e
  obtain⟨b2,e⟩:=Zu.1 e
  cases e
  rw[aQ] at b2
  exact⟨L,ro,heq,hy,bQ b2.1,b2.2⟩
 ·cases e
def Zub:Kn1:=fun args h=>match args with
 | [.c (.ptr d 0)]=>(Tn h d).bind fun _=>some (.w (.c (.bool true)),h)
 | _=>none
def Zjv:Kn1:=fun args h=>match args with
 | [.c (.ptr d 0)]=>(Tn h d).bind fun D=>some (.w (.c (.int .i64 (D.n:Int))),h)
 | _=>none
def Zt9:Kn1:=fun args h=>match args with
 | [.c (.ptr d 0)]=>(Tn h d).bind fun _=>some (.w (.c (.bool false)),h)
 | _=>none
def Zjw:Kn1:=fun args h=>match args with
 | [.c (.ptr d 0)]=>(Tn h d).bind fun _=>some (.w (.c (.int .i64 0)),h)
 | _=>none
def Zce:Kn1:=fun args h=>match args with
 | [.c (.ptr d 0),.c (.int .i64 z)]=>(Tn h d).bind fun D=>Y5 (decide (0<=z)&&decide (z<(D.n:Int))) (some (.w (.c (.int .i64 0)),h))
 | _=>none
def Zuc:Kn1:=fun args h=>match args with
 | [.c (.ptr d 0),.c (.int .i64 z)]=>(Tn h d).bind fun D=>Y5 (decide (0<=z)&&decide (z<(D.n:Int))) ((Z1b h D.q z.toNat).bind fun x=>some (.tup [.g x,.c (.int .i64 0)],h))
 | _=>none
attribute [go_sem] Tn Z1b Z1r Zub Zjv Zt9 Zjw Zce Zuc
section
variable (Hh:Hearts K Tryz.prog)
include Hh
theorem Zfe {args:List W} {h h':Hq} {v:V} (e:Zub args h=some (v,h')):Zb 186 args h v h':=by
 unfold Zub at e
 split at e
 ·rename_i d
  obtain⟨D,hd,e⟩:=Zk e
  obtain⟨hd,n0,n1⟩:=Ox hd
  cases e
  refine fnG Hh Tryz.f186 ?_
  have Jf:=@hd
  repeat (first|apply Z6|apply Yc|refine Zn Hh Za Rj ?_)
  exact Zd
 ·cases e
theorem Bq {args:List W} {h h':Hq} {v:V} (e:Zjv args h=some (v,h')):Zb 107 args h v h':=by
 unfold Zjv at e
 split at e
 ·rename_i d
  obtain⟨D,hd,e⟩:=Zk e
  obtain⟨hd,n0,n1⟩:=Ox hd
  cases e
  refine fnG Hh Tryz.f107 ?_
  have Jf:=@hd
  repeat (first|apply Z6|apply Yx|apply Yc|refine Goes.Zi Rj ?_|refine Zn Hh (EY Za (Zfe Hh)) Rj ?_)
  exact Zd
 ·cases e
theorem Zy5 {args:List W} {h h':Hq} {v:V} (e:Zt9 args h=some (v,h')):Zb 354 args h v h':=by
 unfold Zt9 at e
 split at e
 ·rename_i d
  obtain⟨D,hd,e⟩:=Zk e
  obtain⟨hd,n0,n1⟩:=Ox hd
  cases e
  refine fnG Hh Tryz.f354 ?_
  have Jf:=@hd
  repeat (first|apply Z6|apply Yc|refine Zn Hh (EY Za (Zfe Hh)) Ye ?_)
  exact Zd
 ·cases e
theorem Zrv {args:List W} {h h':Hq} {v:V} (e:Zjw args h=some (v,h')):Zb 322 args h v h':=by
 unfold Zjw at e
 split at e
 ·rename_i d
  obtain⟨D,hd,e⟩:=Zk e
  obtain⟨hd,n0,n1⟩:=Ox hd
  cases e
  refine fnG Hh Tryz.f322 ?_
  have Jf:=@hd
  repeat (first|apply Z6|apply O9|apply Yx|apply Yc|refine Goes.Zi Ye ?_|refine Zn Hh (EY (EY Za (Zfe Hh)) (Zy5 Hh)) Ye ?_)
  exact Zd
 ·cases e
theorem Zku {args:List W} {h h':Hq} {v:V} (e:Zce args h=some (v,h')):Zb 279 args h v h':=by
 unfold Zce at e
 split at e
 ·rename_i d z
  obtain⟨D,hd,e⟩:=Zk e
  obtain⟨hd,n0,n1⟩:=Ox hd
  obtain⟨b,e⟩:=Zu.1 e
  simp only[aQ,decide_eq_true_eq] at b
  obtain⟨z0,z1⟩:=b
  cases e
  refine fnG Hh Tryz.f279 ?_
  have Jf:=@hd
  repeat (first|apply Z6|apply Yx|apply Yc|refine Goes.Zi Rj ?_|refine Zn Hh (EY Za (Zrv Hh)) Rj ?_)
  exact Zd
 ·cases e
theorem Zbh {args:List W} {h h':Hq} {v:V} (e:Zuc args h=some (v,h')):Zb 234 args h v h':=by
 unfold Zuc at e
 split at e
 ·rename_i d z
  obtain⟨D,hd,e⟩:=Zk e
  obtain⟨hd,n0,n1⟩:=Ox hd
  obtain⟨b,e⟩:=Zu.1 e
  simp only[aQ,decide_eq_true_eq] at b
  obtain⟨z0,z1⟩:=b
  obtain⟨b,rfl⟩:=Int.eq_ofNat_of_zero_le z0
  obtain⟨x,hx,e⟩:=Zk e
  rw[Int.toNat_natCast] at hx
  obtain⟨L,ro,hq,hL,xl,xf⟩:=Zeq hx
  have rr:Zm 256 L (b * 256) 256=some x:=Zjb oM hL xl
  cases e
  refine Zx.tidy ⟨Tryz.f234,Tryz.func234,kR,by decide⟩ fun tidy=>?_
  have ld:=tidy _ _ hd
  have lq:=tidy _ _ hq
  obtain⟨v,h',c,rfl,hk⟩:∃ v h',Zb 234 [.c (.ptr d 0),.c (.int .i64 (b:Int))] h v h'/\v=.tup [.g x,.c (.int .i64 0)]/\∀ m,m<h.next->h'.get m=h.get m:=by
   refine Ym Hh Tryz.f234 ?_
   have Jf:=J4 @hd @hq @rr @xl
   repeat (first|apply Z6|apply Yx|apply Yc|refine Goes.Zi Gj ?_|refine Zn Hh (EY Za (Zku Hh)) Gj ?_)
   exact⟨_,_,(by have Jf:=J4 @hd @hq @rr @xl; exact Zt),rfl,fun m hm=>by exact Yn⟩
  exact c.quiet (by show (x.all C.flat&&true)=true; rw[xf]; rfl) hk
 ·cases e
end
open Go.Ev
theorem ty160:K.types.get 160=some ti160:=kR
theorem sz160:ti160.size=1:=by rfl
theorem ag160:ti160.agg=false:=by rfl
theorem de160:ti160.desc=(.pointer 297):=by rfl
theorem ty294:K.types.get 294=some ti294:=kR
theorem sz294:ti294.size=1:=by rfl
theorem ag294:ti294.agg=false:=by rfl
theorem mp294:Ej K 294=some (3,323):=kR
theorem ty295:K.types.get 295=some ti295:=kR
theorem sz295:ti295.size=1:=by rfl
theorem ag295:ti295.agg=false:=by rfl
theorem mp295:Ej K 295=some (3,324):=kR
theorem fo297_0:Zw K 297 0=some (0,ti25):=kR
theorem fo297_1:Zw K 297 1=some (1,ti294):=kR
theorem fo297_2:Zw K 297 2=some (2,ti295):=kR
theorem bu297 (ps:List (Nat × W)):Yr K 297 (some ps)=gW (Yh K 297 ps ti297.zero.cells):=kR
theorem ze297:ti297.zero=(.g ([.pnil,.mnil,.mnil])):=by rfl
theorem ty323:K.types.get 323=some ti323:=kR
theorem sz323:ti323.size=257:=by rfl
theorem fo323_0:Zw K 323 0=some (0,ti87):=kR
theorem fo323_1:Zw K 323 1=some (256,ti4):=kR
theorem ze323:ti323.zero=(.g (List.replicate 256 (.int .u8 0)++List.replicate 1 (.bool false))):=by rfl
theorem ty324:K.types.get 324=some ti324:=kR
theorem sz324:ti324.size=0:=by rfl
theorem bu324 (ps:List (Nat × W)):Yr K 324 (some ps)=gW (Yh K 324 ps ti324.zero.cells):=kR
theorem ze324:ti324.zero=(.g ([])):=by rfl
attribute [go_sem] ty160 sz160 ag160 de160 ty294 sz294 ag294 mp294 ty295 sz295 ag295 mp295 fo297_0 fo297_1 fo297_2 bu297 ze297 ty323 sz323 fo323_0 fo323_1 ze323 ty324 sz324 bu324 ze324
theorem rs264:Tryz.f264.results.toList=[.tmp 2]:=rfl
theorem rs205:Tryz.f205.results.toList=[.tmp 4]:=rfl
theorem rs162:Tryz.f162.results.toList=[.cell 4 87,.tmp 5]:=rfl
theorem rs134:Tryz.f134.results.toList=[.tmp 6]:=rfl
attribute [go_sem] rs264 rs205 rs162 rs134
structure Ck where
 d:Nat
 m:Nat
 pn:Nat
def ckL (X:Ck):List C:=[.ptr X.d 0,.map X.m,.map X.pn]
attribute [go_sem] ckL
def Zh5 (h:Hq) (c:Nat):Option Ck:=match h.get c with
 | some (.row sz [[.ptr d o,.map m,.map pn]] ro)=>Y5 (Nat.beq sz 3&&Nat.beq o 0&&!ro) (some ⟨d,m,pn⟩)
 | _=>none
theorem Sg {h:Hq} {c:Nat} {X:Ck} (e:Zh5 h c=some X):h.get c=some (.row 3 [ckL X] false):=by
 unfold Zh5 at e
 split at e
 ·rename_i heq
  obtain⟨b,e⟩:=Zu.1 e
  cases e
  simp only[aQ,Bool.not_eq_true'] at b
  obtain⟨⟨b1,b2⟩,rfl⟩:=b
  obtain rfl:=bQ b1
  obtain rfl:=bQ b2
  exact heq
 ·cases e
def Zt7:Kn1:=fun args h=>match args with
 | [.c (.ptr c 0)]=>(Zh5 h c).bind fun _=>some (.w (.c (.bool true)),h)
 | _=>none
def Z3j:Kn1:=fun args h=>match args with
 | [.c (.ptr c 0),.c (.int .i64 z)]=>(Zh5 h c).bind fun X=>(Tn h X.d).bind fun D=>Y5 (decide (0<=z)&&decide (z<(D.n:Int))) (some (.w (.c (.int .i64 0)),h))
 | _=>none
def W9:Kn1:=fun args h=>match args with
 | [.c (.ptr c 0),.c (.int .i64 z)]=>(Zh5 h c).bind fun X=>(Tn h X.d).bind fun D=>Y5 (decide (0<=z)&&decide (z<(D.n:Int))) ((getM h X.m).bind fun l=>match Jd z l with
  | some y=>Y5 (Nat.beq y.length 257&&y.all C.flat) (some (.tup [.g (y.take 256),.c (.int .i64 0)],h))
  | none=>Y5 (Bj l) ((Z1b h D.q z.toNat).bind fun x=>some (.tup [.g x,.c (.int .i64 0)],h.put X.m (.map (Uv (Dp z (x++[.bool false]) l))))))
 | _=>none
def Zol:Kn1:=fun args h=>match args with
 | [.c (.ptr c 0),.c (.int .i64 z),.g x]=>(Zh5 h c).bind fun X=>(Tn h X.d).bind fun D=>Y5 (decide (0<=z)&&decide (z<(D.n:Int))) ((getM h X.m).bind fun l=>Y5 (Nat.beq x.length 256&&x.all C.flat&&Bj l) (some (.w (.c (.int .i64 0)),h.put X.m (.map (Uv (Dp z (x++[.bool true]) l))))))
 | _=>none
attribute [go_sem] Zh5 Zt7 Z3j W9 Zol
theorem Ybo {x:List C} {b:Bool} (h:x.length<=256/\256<=x.length):Yr K 323 (some [(0,.g x),(1,.c (.bool b))])=some (.g (x++[.bool b])):=by
 have z:(ti323.zero).cells.drop 256=[.bool false]:=kR
 have zl:(ti323.zero).cells.length=257:=kR
 have bu:∀ ps,Yr K 323 (some ps)=gW (Yh K 323 ps (ti323.zero).cells):=fun ps=>kR
 rw[bu]
 simp only[Yh,fo323_0,fo323_1]
 rw[show ti87.size=256 from rfl,Zqa ⟨h.1,h.2,oM⟩,z]
 simp only
 rw[show ti4.size=1 from rfl,Zxs ⟨h.1,h.2,by simp,by simp⟩]
 rfl
theorem Z87 {x:List C} (h:x.length<=256/\256<=x.length):Yr K 323 (some [(0,.g x)])=some (.g (x++[.bool false])):=by
 have z:(ti323.zero).cells.drop 256=[.bool false]:=kR
 have zl:(ti323.zero).cells.length=257:=kR
 have bu:∀ ps,Yr K 323 (some ps)=gW (Yh K 323 ps (ti323.zero).cells):=fun ps=>kR
 rw[bu]
 simp only[Yh,fo323_0]
 rw[show ti87.size=256 from rfl,Zqa ⟨h.1,h.2,oM⟩,z]
 rfl
attribute [go_sem] Ybo Z87
section
variable (Hh:Hearts K Tryz.prog)
include Hh
theorem Zy4 {args:List W} {h h':Hq} {v:V} (e:Zt7 args h=some (v,h')):Zb 264 args h v h':=by
 unfold Zt7 at e
 split at e
 ·rename_i c
  obtain⟨X,hc,e⟩:=Zk e
  have hc:=Sg hc
  cases e
  refine fnG Hh Tryz.f264 ?_
  have Jf:=@hc
  repeat (first|apply Z6|apply Yc|refine Zn Hh Za Ye ?_)
  exact Zd
 ·cases e
theorem Xm {args:List W} {h h':Hq} {v:V} (e:Z3j args h=some (v,h')):Zb 205 args h v h':=by
 unfold Z3j at e
 split at e
 ·rename_i c z
  obtain⟨X,hc,e⟩:=Zk e
  have hc:=Sg hc
  obtain⟨D,hd,e⟩:=Zk e
  obtain⟨hd,n0,n1⟩:=Ox hd
  obtain⟨b,e⟩:=Zu.1 e
  simp only[aQ,decide_eq_true_eq] at b
  obtain⟨z0,z1⟩:=b
  cases e
  refine fnG Hh Tryz.f205 ?_
  have Jf:=Y2 @hc @hd
  repeat (first|apply Z6|apply O9|apply Yx|apply Yc|refine Goes.Zi Ye ?_|refine Zn Hh (EY (EY Za (Zy4 Hh)) (Bq Hh)) Ye ?_)
  exact Zd
 ·cases e
theorem Zbg {args:List W} {h h':Hq} {v:V} (e:W9 args h=some (v,h')):Zb 162 args h v h':=by
 unfold W9 at e
 split at e
 ·rename_i c z
  obtain⟨X,hc,e⟩:=Zk e
  have hc:=Sg hc
  obtain⟨D,hd,e⟩:=Zk e
  obtain⟨hd,n0,n1⟩:=Ox hd
  obtain⟨b,e⟩:=Zu.1 e
  simp only[aQ,decide_eq_true_eq] at b
  obtain⟨z0,z1⟩:=b
  obtain⟨l,hm,e⟩:=Zk e
  have hm:=getM_some hm
  refine Zx.tidy ⟨Tryz.f162,Tryz.func162,kR,by decide⟩ fun tidy=>?_
  have lc:=tidy _ _ hc
  have ld:=tidy _ _ hd
  have lm:=tidy _ _ hm
  split at e
  ·rename_i y hl
   obtain⟨b,e⟩:=Zu.1 e
   rw[aQ] at b
   have yl:=bQ b.1
   have yf:=b.2
   cases e
   have rr:Zm 257 [y] 0 256=some (y.take 256):=Zrb oM
   have tl:(y.take 256).length=256:=by rw[List.length_take]; omega
   obtain⟨v,h',c,rfl,hk⟩:∃ v h',Zb 162 [.c (.ptr c 0),.c (.int .i64 z)] h v h'/\v=.tup [.g (y.take 256),.c (.int .i64 0)]/\∀ m,m<h.next->h'.get m=h.get m:=by
    refine Ym Hh Tryz.f162 ?_
    have Jf:=Gq @hc @hd @hm @hl @rr
    repeat (first|apply Z6|apply Yx|apply Yc|refine Goes.Zi Uq ?_|refine Zn Hh (EY (EY Za (Xm Hh)) (Zbh Hh)) Uq ?_|refine Fe Hh (EY (EY Za (Xm Hh)) (Zbh Hh)) Zpk ?_)
    exact⟨_,_,(by have Jf:=Gq @hc @hd @hm @hl @rr; exact Zt),rfl,fun m hm=>by exact Ni⟩
   refine c.quiet ?_ hk
   show ((y.take 256).all C.flat&&true)=true
   rw[Bool.and_true,List.all_eq_true]
   exact fun x hx=>List.all_eq_true.1 yf x (List.mem_of_mem_take hx)
  ·rename_i hl
   obtain⟨fl,e⟩:=Zu.1 e
   obtain⟨x,hx,e⟩:=Zk e
   obtain⟨b,rfl⟩:=Int.eq_ofNat_of_zero_le z0
   rw[Int.toNat_natCast] at hx
   obtain⟨L,ro,hq,hL,xl,xf⟩:=Zeq hx
   have lq:=tidy _ _ hq
   cases e
   obtain⟨v,h',c,rfl,hk⟩:∃ v h',Zb 162 [.c (.ptr c 0),.c (.int .i64 (b:Int))] h v h'/\v=.tup [.g x,.c (.int .i64 0)]/\∀ m,m<h.next->h'.get m=(h.put X.m (.map (Uv (Dp (b:Int) (x++[.bool false]) l)))).get m:=by
    refine Ym Hh Tryz.f162 ?_
    have Jf:=Vr @hc @hd @hm @hl @hq @hL @xl @xf
    repeat (first|apply Z6|apply Yx|apply Yc|refine Goes.Zi Uq ?_|refine Zn Hh (EY (EY Za (Xm Hh)) (Zbh Hh)) Uq ?_|refine Fe Hh (EY (EY Za (Xm Hh)) (Zbh Hh)) Zpk ?_)
    exact⟨_,_,(by have Jf:=Ng @hc @hd @hm @hl @hq @hL @xl; exact Zt),rfl,fun m hm=>by exact Ni⟩
   refine c.settle ((Vn.refl tidy).put lm (M8 (Da ?_ fl))) (Zkb.flat ?_) hk
   ·rw[List.all_append,xf]; rfl
   ·show (x.all C.flat&&true)=true; rw[xf]; rfl
 ·cases e
theorem Zjp {args:List W} {h h':Hq} {v:V} (e:Zol args h=some (v,h')):Zb 134 args h v h':=by
 unfold Zol at e
 split at e
 ·rename_i c z x
  obtain⟨X,hc,e⟩:=Zk e
  have hc:=Sg hc
  obtain⟨D,hd,e⟩:=Zk e
  obtain⟨hd,n0,n1⟩:=Ox hd
  obtain⟨b,e⟩:=Zu.1 e
  simp only[aQ,decide_eq_true_eq] at b
  obtain⟨z0,z1⟩:=b
  obtain⟨l,hm,e⟩:=Zk e
  have hm:=getM_some hm
  obtain⟨b,e⟩:=Zu.1 e
  simp only[aQ] at b
  obtain⟨⟨b1,xf⟩,fl⟩:=b
  have xl:=bQ b1
  refine Zx.tidy ⟨Tryz.f134,Tryz.func134,kR,by decide⟩ fun tidy=>?_
  have lc:=tidy _ _ hc
  have ld:=tidy _ _ hd
  have lm:=tidy _ _ hm
  cases e
  obtain⟨v,h',c,rfl,hk⟩:∃ v h',Zb 134 [.c (.ptr c 0),.c (.int .i64 z),.g x] h v h'/\v=.w (.c (.int .i64 0))/\∀ m,m<h.next->h'.get m=(h.put X.m (.map (Uv (Dp z (x++[.bool true]) l)))).get m:=by
   refine Ym Hh Tryz.f134 ?_
   have Jf:=J4 @hc @hd @hm @xl
   repeat (first|apply Z6|apply Yx|apply Yc|refine Goes.Zi Jk ?_|refine Zn Hh (EY Za (Xm Hh)) Jk ?_|refine Fe Hh (EY Za (Xm Hh)) Zz2 ?_)
   exact⟨_,_,(by have Jf:=Jh @hc @hd @hm; exact Zq),rfl,fun m hm=>by exact Ni⟩
  refine c.settle ((Vn.refl tidy).put lm (M8 (Da ?_ fl))) (Zkb.flat rfl) hk
  rw[List.all_append,xf]; rfl
 ·cases e
end
open Go.Ev
theorem ty40:K.types.get 40=some ti40:=kR
theorem sz40:ti40.size=1:=by rfl
theorem ag40:ti40.agg=false:=by rfl
theorem de40:ti40.desc=(.int .u32):=by rfl
theorem ty154:K.types.get 154=some ti154:=kR
theorem sz154:ti154.size=1:=by rfl
theorem ag154:ti154.agg=false:=by rfl
theorem de154:ti154.desc=(.pointer 309):=by rfl
theorem ty303:K.types.get 303=some ti303:=kR
theorem sz303:ti303.size=1:=by rfl
theorem ag303:ti303.agg=false:=by rfl
theorem de303:ti303.desc=(.map 3 87):=by rfl
theorem mp303:Ej K 303=some (3,87):=kR
theorem ty304:K.types.get 304=some ti304:=kR
theorem sz304:ti304.size=1:=by rfl
theorem ag304:ti304.agg=false:=by rfl
theorem de304:ti304.desc=(.pointer 388):=by rfl
theorem ty306:K.types.get 306=some ti306:=kR
theorem sz306:ti306.size=4:=by rfl
theorem ag306:ti306.agg=true:=by rfl
theorem fo306_0:Zw K 306 0=some (0,ti303):=kR
theorem fo306_1:Zw K 306 1=some (1,ti295):=kR
theorem fo306_2:Zw K 306 2=some (2,ti295):=kR
theorem fo306_3:Zw K 306 3=some (3,ti304):=kR
theorem bu306 (ps:List (Nat × W)):Yr K 306 (some ps)=gW (Yh K 306 ps ti306.zero.cells):=kR
theorem ze306:ti306.zero=(.g ([.mnil,.mnil,.mnil,.pnil])):=by rfl
theorem fo309_0:Zw K 309 0=some (0,ti306):=kR
theorem fo309_1:Zw K 309 1=some (4,ti40):=kR
theorem fo309_2:Zw K 309 2=some (5,ti4):=kR
theorem fo309_3:Zw K 309 3=some (6,ti3):=kR
theorem fo309_4:Zw K 309 4=some (7,ti3):=kR
theorem fo309_5:Zw K 309 5=some (8,ti295):=kR
theorem fo309_6:Zw K 309 6=some (9,ti306):=kR
theorem bu309 (ps:List (Nat × W)):Yr K 309 (some ps)=gW (Yh K 309 ps ti309.zero.cells):=kR
theorem ze309:ti309.zero=(.g ([.mnil,.mnil,.mnil,.pnil,.int .u32 0,.bool false,.int .i64 0,.int .i64 0,.mnil,.mnil,.mnil,.mnil,.pnil])):=by rfl
theorem ty386:K.types.get 386=some ti386:=kR
theorem sz386:ti386.size=1:=by rfl
theorem ag386:ti386.agg=false:=by rfl
theorem de386:ti386.desc=(.map 390 324):=by rfl
theorem mp386:Ej K 386=some (390,324):=kR
theorem fo388_0:Zw K 388 0=some (0,ti386):=kR
theorem bu388 (ps:List (Nat × W)):Yr K 388 (some ps)=gW (Yh K 388 ps ti388.zero.cells):=kR
theorem ze388:ti388.zero=(.g ([.mnil])):=by rfl
theorem fo390_0:Zw K 390 0=some (0,ti3):=kR
theorem fo390_1:Zw K 390 1=some (1,ti40):=kR
theorem bu390 (ps:List (Nat × W)):Yr K 390 (some ps)=gW (Yh K 390 ps ti390.zero.cells):=kR
theorem ze390:ti390.zero=(.g ([.int .i64 0,.int .u32 0])):=by rfl
attribute [go_sem] ty3 sz3 ag3 de3 ze3 ke3 ty4 sz4 ag4 ze4 ty5 sz5 ag5 de5 ze5 by5 ty31 sz31 ag31 ze31 ty40 sz40 ag40 de40 ty87 sz87 ag87 de87 ze87 by87 ty154 sz154 ag154 de154 ty295 sz295 ag295 mp295 ty303 sz303 ag303 de303 mp303 ty304 sz304 ag304 de304 ty306 sz306 ag306 fo306_0 fo306_1 fo306_2 fo306_3 bu306 ze306 fo309_0 fo309_1 fo309_2 fo309_3 fo309_4 fo309_5 fo309_6 bu309 ze309 ty324 sz324 bu324 ze324 ty386 sz386 ag386 de386 mp386 fo388_0 bu388 ze388 fo390_0 fo390_1 bu390 ze390
theorem rs292:Tryz.f292.results.toList=[.tmp 2]:=rfl
theorem rs274:Tryz.f274.results.toList=[.tmp 4]:=rfl
theorem rs226:Tryz.f226.results.toList=[.tmp 6]:=rfl
theorem rs190:Tryz.f190.results.toList=[.tmp 2]:=rfl
theorem rs199:Tryz.f199.results.toList=[.tmp 2]:=rfl
theorem rs208:Tryz.f208.results.toList=[.tmp 4]:=rfl
theorem rs120:Tryz.f120.results.toList=[.tmp 2]:=rfl
theorem rs121:Tryz.f121.results.toList=[.tmp 2]:=rfl
theorem rs159:Tryz.f159.results.toList=[.cell 4 87,.tmp 5]:=rfl
theorem rs154:Tryz.f154.results.toList=[.tmp 6]:=rfl
theorem rs135:Tryz.f135.results.toList=[.tmp 4]:=rfl
theorem rs200:Tryz.f200.results.toList=[]:=rfl
theorem rs136:Tryz.f136.results.toList=[.tmp 2]:=rfl
attribute [go_sem] rs292 rs274 rs226 rs190 rs199 rs208 rs120 rs121 rs159 rs154 rs135 rs200 rs136
structure Tx where
 ch:Nat
 od:Nat
 fr:Nat
 rv:Nat
 sq:Int
 op:Bool
 cr:Int
 rk:Int
 to:C
 b1:C
 b2:C
 b3:C
 b4:C
def txL (X:Tx):List C:=[.map X.ch,.map X.od,.map X.fr,.ptr X.rv 0,.int .u32 X.sq,.bool X.op,.int .i64 X.cr,.int .i64 X.rk,X.to,X.b1,X.b2,X.b3,X.b4]
attribute [go_sem] txL
def Ov (h:Hq) (t:Nat):Option Tx:=match h.get t with
 | some (.row sz [[.map ch,.map od,.map fr,.ptr rv o,.int .u32 sq,.bool op,.int .i64 cr,.int .i64 rk,to,b1,b2,b3,b4]] ro)=>Y5 (Nat.beq sz 13&&Nat.beq o 0&&!ro) (some ⟨ch,od,fr,rv,sq,op,cr,rk,to,b1,b2,b3,b4⟩)
 | _=>none
theorem Yw {h:Hq} {t:Nat} {X:Tx} (e:Ov h t=some X):h.get t=some (.row 13 [txL X] false):=by
 unfold Ov at e
 split at e
 ·rename_i heq
  obtain⟨b,e⟩:=Zu.1 e
  cases e
  simp only[aQ,Bool.not_eq_true'] at b
  obtain⟨⟨b1,b2⟩,rfl⟩:=b
  obtain rfl:=bQ b1
  obtain rfl:=bQ b2
  exact heq
 ·cases e
def Si (h:Hq) (r:Nat):Option Nat:=match h.get r with
 | some (.row sz [[.map m]] ro)=>Y5 (Nat.beq sz 1&&!ro) (some m)
 | _=>none
theorem Gf {h:Hq} {r m:Nat} (e:Si h r=some m):h.get r=some (.row 1 [[.map m]] false):=by
 unfold Si at e
 split at e
 ·rename_i heq
  obtain⟨b,e⟩:=Zu.1 e
  cases e
  simp only[aQ,Bool.not_eq_true'] at b
  obtain⟨b1,rfl⟩:=b
  obtain rfl:=bQ b1
  exact heq
 ·cases e
def Gh (h:Hq) (m:Nat):Bool:=match h.get m with
 | some (.map [])=>true
 | _=>false
theorem Je {h:Hq} {m:Nat} (e:Gh h m=true):h.get m=some (.map []):=by
 unfold Gh at e
 split at e
 ·assumption
 ·cases e
def toN:C->Option Nat
 | .map m=>some m
 | _=>none
theorem Zrm {c:C} {m:Nat} (e:toN c=some m):c=.map m:=by
 cases c<;>first|(cases e; rfl)|cases e
theorem Z7u (m:Nat):toN (.map m)=some m:=rfl
theorem Z9i (kt:TypeId) (k:W):Zp1 K kt k []=some []:=rfl
def Zuw:Kn1:=fun args h=>match args with
 | [.c (.ptr r 0)]=>(Si h r).bind fun _=>some (.w (.c (.bool true)),h)
 | _=>none
def Z3y:Kn1:=fun args h=>match args with
 | [.c (.ptr r 0),.c (.int .i64 z)]=>(Si h r).bind fun _=>Y5 (decide (0<=z)) (some (.w (.c (.int .i64 0)),h))
 | _=>none
def Zj3:Kn1:=fun args h=>match args with
 | [.c (.ptr r 0),.c (.int .i64 z),.c (.int .u32 _)]=>(Si h r).bind fun m=>Y5 (decide (0<=z)&&Gh h m) (some (.w (.c (.int .i64 0)),h))
 | _=>none
def Zu9:Kn1:=fun args h=>match args with
 | [.c (.ptr t 0)]=>(Ov h t).bind fun _=>some (.w (.c (.bool true)),h)
 | _=>none
def Zu8:Kn1:=fun args h=>match args with
 | [.c (.ptr t 0)]=>(Ov h t).bind fun X=>Y5 X.op (some (.w (.c (.int .i64 0)),h))
 | _=>none
def Z4g:Kn1:=fun args h=>match args with
 | [.c (.ptr t 0),.c (.int .i64 z)]=>(Ov h t).bind fun X=>Y5 (X.op&&decide (0<=z)) (some (.w (.c (.int .i64 0)),h))
 | _=>none
def Z4k:Kn1:=fun args h=>match args with
 | [.c (.ptr t 0)]=>(Ov h t).bind fun X=>some (.w (.c (.int .u32 X.sq)),h)
 | _=>none
def Zva:Kn1:=fun args h=>match args with
 | [.c (.ptr t 0)]=>(Ov h t).bind fun X=>some (.w (.c (.bool X.op)),h)
 | _=>none
def Z4i:Kn1:=fun args h=>match args with
 | [.c (.ptr t 0),.c (.int .i64 z)]=>(Ov h t).bind fun X=>(getM h X.ch).bind fun l=>match Jd z l with
  | some y=>Y5 (Nat.beq y.length 256&&y.all C.flat) (some (.tup [.g y,.c (.bool true)],h))
  | none=>some (.tup [.g (List.replicate 256 (.int .u8 0)),.c (.bool false)],h)
 | _=>none
def Zj7:Kn1:=fun args h=>match args with
 | [.c (.ptr t 0),.c (.int .i64 z),.g x]=>(Ov h t).bind fun X=>(toN X.to).bind fun to=>(getM h to).bind fun lt=>(getM h X.ch).bind fun lc=>(getM h X.fr).bind fun lf=>(Si h X.rv).bind fun m =>
  Y5 (X.op&&decide (0<=z)&&Gh h m&&(match Jd z lt with|none=>decide ((lt.length:Int)<X.cr)|some []=>true|some (_ :: _)=>false)&&Nat.beq x.length 256&&x.all C.flat&&Bj lt&&Bj lc&&Bj lf&&!(Nat.beq to X.ch)&&!(Nat.beq to X.fr)&&!(Nat.beq X.ch X.fr)&&!(Nat.beq to m)&&!(Nat.beq X.ch m)&&!(Nat.beq X.fr m)&&!(Nat.beq to t)&&!(Nat.beq X.ch t)&&!(Nat.beq X.fr t)&&!(Nat.beq to X.rv)&&!(Nat.beq X.ch X.rv)&&!(Nat.beq X.fr X.rv))
   (some (.w (.c (.int .i64 0)),((h.put to (.map (Uv (Dp z [] lt)))).put X.ch (.map (Uv (Dp z x lc)))).put X.fr (.map (Uv (Zhn z lf)))))
 | _=>none
def Zo2:Kn1:=fun args h=>match args with
 | [.c (.ptr t 0),.c (.int .i64 z)]=>(Ov h t).bind fun X=>(getM h X.od).bind fun l=>Y5 (X.op&&decide (0<=z)) (some (.w (.c (.int .i64 0)),h.put X.od (.map (Uv (Dp z [] l)))))
 | _=>none
def Z29 (X:Tx):Tx:={ X with op:=false,cr:=0,rk:=0,to:=.mnil,b1:=.mnil,b2:=.mnil,b3:=.mnil,b4:=.pnil }
def Zp3 (h:Hq) (t:Nat) (X:Tx):Hq:=((((h.put t (.row 13 [txL { X with op:=false }] false)).put t (.row 13 [txL { X with op:=false,cr:=0 }] false)).put t (.row 13 [txL { X with op:=false,cr:=0,rk:=0 }] false)).put t (.row 13 [txL { X with op:=false,cr:=0,rk:=0,to:=.mnil }] false)).put t (.row 13 [txL (Z29 X)] false)
theorem Q3 (h:Hq) (t:Nat) (X:Tx) (m:Nat):(Zp3 h t X).get m=if m=t then some (.row 13 [txL (Z29 X)] false) else h.get m:=by
 unfold Zp3
 simp only[H.get_put]
 split<;>rfl
def Zo0:Kn1:=fun args h=>match args with
 | [.c (.ptr t 0)]=>(Ov h t).bind fun X=>some (.tup [],Zp3 h t X)
 | _=>none
def Z4h:Kn1:=fun args h=>match args with
 | [.c (.ptr t 0)]=>(Ov h t).bind fun X=>Y5 X.op (some (.w (.c (.int .i64 0)),Zp3 h t X))
 | _=>none
attribute [go_sem] Ov Si Gh Z7u Z9i Zuw Z3y Zj3 Zu9 Zu8 Z4g Z4k Zva Z4i Zj7 Zo2 Zo0 Z4h
theorem Ycu (a s:Int):Vh K 20 390 (.g [.int .i64 a,.int .u32 s])=true:=kR
attribute [go_sem] Ycu
section
variable (Hh:Hearts K Tryz.prog)
include Hh
theorem Zml {args:List W} {h h':Hq} {v:V} (e:Zuw args h=some (v,h')):Zb 292 args h v h':=by
 unfold Zuw at e
 split at e
 ·rename_i r
  obtain⟨m,hr,e⟩:=Zk e
  have hr:=Gf hr
  cases e
  refine fnG Hh Tryz.f292 ?_
  have Jf:=@hr
  repeat (first|apply Z6|apply Yc|refine Zn Hh Za Ye ?_)
  exact Zd
 ·cases e
theorem Z3z {args:List W} {h h':Hq} {v:V} (e:Z3y args h=some (v,h')):Zb 274 args h v h':=by
 unfold Z3y at e
 split at e
 ·rename_i r z
  obtain⟨m,hr,e⟩:=Zk e
  have hr:=Gf hr
  obtain⟨b,e⟩:=Zu.1 e
  have z0:=of_decide_eq_true b
  cases e
  refine fnG Hh Tryz.f274 ?_
  have Jf:=@hr
  repeat (first|apply Z6|apply O9|apply Yx|apply Yc|refine Goes.Zi Ye ?_|refine Zn Hh (EY Za (Zml Hh)) Ye ?_)
  exact Zd
 ·cases e
theorem Vb {args:List W} {h h':Hq} {v:V} (e:Zj3 args h=some (v,h')):Zb 226 args h v h':=by
 unfold Zj3 at e
 split at e
 ·rename_i r z s
  obtain⟨m,hr,e⟩:=Zk e
  have hr:=Gf hr
  obtain⟨b,e⟩:=Zu.1 e
  simp only[aQ,decide_eq_true_eq] at b
  obtain⟨z0,b⟩:=b
  have hm:=Je b
  cases e
  obtain⟨v,h',c,rfl,hk⟩:∃ v h',Zb 226 [.c (.ptr r 0),.c (.int .i64 z),.c (.int .u32 s)] h v h'/\v=.w (.c (.int .i64 0))/\∀ j,j<h.next->h'.get j=h.get j:=by
   refine Ym Hh Tryz.f226 ?_
   repeat (first|apply Z6|apply Yx|apply Yc|((first|apply Goes.Zi|apply gO fits Hh (EY Za (Z3z Hh))); · simp (maxSteps:=9^6) +decide (disch:=first|exact dZ|fail) only [go_sem,Zm,Zh,simprocAttr,hr,hm,read1,Zr,Zaf,Ze2]<;>rfl))
   exact⟨_,_,(by have Jf:=Y2 @hr @hm; exact Zq),rfl,fun j _=>by rw[H.get_put]; split<;>first|(rename_i ej; rw[ej,hm])|rfl⟩
  exact c.quiet rfl hk
 ·cases e
theorem Bh {args:List W} {h h':Hq} {v:V} (e:Zu9 args h=some (v,h')):Zb 190 args h v h':=by
 unfold Zu9 at e
 split at e
 ·rename_i t
  obtain⟨X,ht,e⟩:=Zk e
  have ht:=Yw ht
  cases e
  refine fnG Hh Tryz.f190 ?_
  have Jf:=@ht
  repeat (first|apply Z6|apply Yc|refine Zn Hh Za Ye ?_)
  exact Zd
 ·cases e
theorem Zmo {args:List W} {h h':Hq} {v:V} (e:Zu8 args h=some (v,h')):Zb 199 args h v h':=by
 unfold Zu8 at e
 split at e
 ·rename_i t
  obtain⟨X,ht,e⟩:=Zk e
  have ht:=Yw ht
  obtain⟨bo,e⟩:=Zu.1 e
  cases e
  refine fnG Hh Tryz.f199 ?_
  have Jf:=Y2 @ht @bo
  repeat (first|apply Z6|apply O9|apply Yx|apply Yc|refine Goes.Zi Ye ?_|refine Zn Hh (EY Za (Bh Hh)) Ye ?_)
  exact Zd
 ·cases e
theorem Zaq {args:List W} {h h':Hq} {v:V} (e:Z4g args h=some (v,h')):Zb 208 args h v h':=by
 unfold Z4g at e
 split at e
 ·rename_i t z
  obtain⟨X,ht,e⟩:=Zk e
  have ht:=Yw ht
  obtain⟨b,e⟩:=Zu.1 e
  simp only[aQ,decide_eq_true_eq] at b
  obtain⟨bo,z0⟩:=b
  cases e
  refine fnG Hh Tryz.f208 ?_
  have Jf:=Y2 @ht @bo
  repeat (first|apply Z6|apply Yx|apply Yc|refine Goes.Zi Ye ?_|refine Zn Hh (EY Za (Zmo Hh)) Ye ?_)
  exact Zd
 ·cases e
theorem Z4l {args:List W} {h h':Hq} {v:V} (e:Z4k args h=some (v,h')):Zb 120 args h v h':=by
 unfold Z4k at e
 split at e
 ·rename_i t
  obtain⟨X,ht,e⟩:=Zk e
  have ht:=Yw ht
  cases e
  refine fnG Hh Tryz.f120 ?_
  have Jf:=@ht
  repeat (first|apply Z6|apply Yx|apply Yc|refine Goes.Zi Ye ?_|refine Zn Hh (EY Za (Bh Hh)) Ye ?_)
  exact Zd
 ·cases e
theorem Zfm {args:List W} {h h':Hq} {v:V} (e:Zva args h=some (v,h')):Zb 121 args h v h':=by
 unfold Zva at e
 split at e
 ·rename_i t
  obtain⟨X,ht,e⟩:=Zk e
  have ht:=Yw ht
  cases e
  refine fnG Hh Tryz.f121 ?_
  have Jf:=@ht
  repeat (first|apply Z6|apply Yc|refine Zn Hh (EY Za (Bh Hh)) Ye ?_)
  exact Zd
 ·cases e
theorem Zd6 {args:List W} {h h':Hq} {v:V} (e:Z4i args h=some (v,h')):Zb 159 args h v h':=by
 unfold Z4i at e
 split at e
 ·rename_i t z
  obtain⟨X,ht,e⟩:=Zk e
  have ht:=Yw ht
  obtain⟨l,hm,e⟩:=Zk e
  have hm:=getM_some hm
  refine Zx.tidy ⟨Tryz.f159,Tryz.func159,kR,by decide⟩ fun tidy=>?_
  have lt:=tidy _ _ ht
  have lm:=tidy _ _ hm
  split at e
  ·rename_i y hl
   obtain⟨b,e⟩:=Zu.1 e
   rw[aQ] at b
   have yl:=bQ b.1
   have yf:=b.2
   cases e
   obtain⟨v,h',c,rfl,hk⟩:∃ v h',Zb 159 [.c (.ptr t 0),.c (.int .i64 z)] h v h'/\v=.tup [.g y,.c (.bool true)]/\∀ m,m<h.next->h'.get m=h.get m:=by
    refine Ym Hh Tryz.f159 ?_
    have Jf:=Jh @ht @hm @hl
    repeat (first|apply Z6|apply Yx|apply Yc|refine Goes.Zi Uq ?_|refine Zn Hh (EY Za (Bh Hh)) Uq ?_)
    exact⟨_,_,(by have Jf:=Jh @ht @hm @hl; exact Zt),rfl,fun m hm=>by exact Yn⟩
   refine c.quiet ?_ hk
   show (y.all C.flat&&true)=true
   rw[yf]; rfl
  ·rename_i hl
   cases e
   obtain⟨v,h',c,rfl,hk⟩:∃ v h',Zb 159 [.c (.ptr t 0),.c (.int .i64 z)] h v h'/\v=.tup [.g (List.replicate 256 (.int .u8 0)),.c (.bool false)]/\∀ m,m<h.next->h'.get m=h.get m:=by
    refine Ym Hh Tryz.f159 ?_
    have Jf:=Jh @ht @hm @hl
    repeat (first|apply Z6|apply Yx|apply Yc|refine Goes.Zi Uq ?_|refine Zn Hh (EY Za (Bh Hh)) Uq ?_)
    exact⟨_,_,(by have Jf:=Jh @ht @hm @hl; exact Zt),rfl,fun m hm=>by exact Yn⟩
   exact c.quiet kR hk
 ·cases e
end
theorem Ut {a b:Nat} (h:Nat.beq a b=false):a≠b:=fun e=>by rw[e,Nat.beq_refl] at h; cases h
theorem Z6g (m:Nat):Y4 K 295 (.c (.map m))=true:=kR
attribute [go_sem] Z6g
section
variable (Hh:Hearts K Tryz.prog)
include Hh
set_option maxHeartbeats 1000000 in
theorem Zd7 {args:List W} {h h':Hq} {v:V} (e:Zj7 args h=some (v,h')):Zb 154 args h v h':=by
 unfold Zj7 at e
 split at e
 ·rename_i t z x
  obtain⟨X,ht,e⟩:=Zk e
  have ht:=Yw ht
  obtain⟨to,hto,e⟩:=Zk e
  have hto:=Zrm hto
  obtain⟨lt,hlt,e⟩:=Zk e
  have hlt:=getM_some hlt
  obtain⟨lc,hlc,e⟩:=Zk e
  have hlc:=getM_some hlc
  obtain⟨lf,hlf,e⟩:=Zk e
  have hlf:=getM_some hlf
  obtain⟨m,hr,e⟩:=Zk e
  have hrv:=hr
  have hr:=Gf hr
  obtain⟨b,e⟩:=Zu.1 e
  cases e
  refine Zx.tidy ⟨Tryz.f154,Tryz.func154,kR,by decide⟩ fun tidy=>?_
  have l1:=tidy _ _ ht
  have l2:=tidy _ _ hlt
  have l3:=tidy _ _ hlc
  have l4:=tidy _ _ hlf
  have l5:=tidy _ _ hr
  simp only[aQ,decide_eq_true_eq,Bool.not_eq_true'] at b
  obtain⟨⟨⟨⟨⟨⟨⟨⟨⟨⟨⟨⟨⟨⟨⟨⟨⟨⟨⟨⟨bo,z0⟩,bm⟩,bc⟩,bx⟩,xf⟩,f1⟩,f2⟩,f3⟩,c1⟩,c2⟩,c3⟩,c4⟩,c5⟩,c6⟩,c7⟩,c8⟩,c9⟩,c10⟩,c11⟩,c12⟩:=b
  have hm:=Je bm
  have l6:=tidy _ _ hm
  have xl:=bQ bx
  have n1:=Ut c1
  have n2:=Ut c2
  have n3:=Ut c3
  have n4:=Ut c4
  have n5:=Ut c5
  have n6:=Ut c6
  have n7:=Ut c7
  have n8:=Ut c8
  have n9:=Ut c9
  have n10:=Ut c10
  have n11:=Ut c11
  have n12:=Ut c12
  obtain⟨v,h',c,rfl,hk⟩:∃ v h',Zb 154 [.c (.ptr t 0),.c (.int .i64 z),.g x] h v h'/\v=.w (.c (.int .i64 0))/\∀ j,j<h.next->h'.get j=(((h.put to (.map (Uv (Dp z [] lt)))).put X.ch (.map (Uv (Dp z x lc)))).put X.fr (.map (Uv (Zhn z lf)))).get j:=by
   rcases hl:Jd z lt with _|y
   ·rw[hl] at bc
    have bc:=of_decide_eq_true bc
    refine Ym Hh Tryz.f154 ?_
    have Jf:=Jh @ht @hto (Yp @hlt @hlc @hlf @hr @hm @bo @hl @xl @Zht)
    repeat (first|apply Z6|apply Yx|apply Yc|refine Goes.Zi Gj ?_|refine Zn Hh (EY (EY Za (Zaq Hh)) (Vb Hh)) Gj ?_|refine Fe Hh (EY (EY Za (Zaq Hh)) (Vb Hh)) Zhc ?_)
    exact⟨_,_,Zd,rfl,fun j hj=>by exact Ni⟩
   ·rw[hl] at bc
    rcases y with _|⟨y0,y⟩
    ·
     refine Ym Hh Tryz.f154 ?_
     have Jf:=Jh @ht @hto (Yp @hlt @hlc @hlf @hr @hm @bo @hl @xl @Zht)
     repeat (first|apply Z6|apply Yx|apply Yc|refine Goes.Zi Gj ?_|refine Zn Hh (EY (EY Za (Zaq Hh)) (Vb Hh)) Gj ?_|refine Fe Hh (EY (EY Za (Zaq Hh)) (Vb Hh)) Zhc ?_)
     exact⟨_,_,Zd,rfl,fun j hj=>by exact Ni⟩
    ·cases bc
  exact c.settle ((((Vn.refl tidy).put l2 (M8 (Da rfl f1))).put l3 (M8 (Da xf f2))).put l4 (M8 (Zh3 f3))) (Zkb.flat rfl) hk
 ·cases e
theorem Zj6 {args:List W} {h h':Hq} {v:V} (e:Zo2 args h=some (v,h')):Zb 135 args h v h':=by
 unfold Zo2 at e
 split at e
 ·rename_i t z
  obtain⟨X,ht,e⟩:=Zk e
  have ht:=Yw ht
  obtain⟨l,hl,e⟩:=Zk e
  have hl:=getM_some hl
  obtain⟨b,e⟩:=Zu.1 e
  simp only[aQ,decide_eq_true_eq] at b
  obtain⟨bo,z0⟩:=b
  cases e
  refine fnG Hh Tryz.f135 ?_
  have Jf:=Jh @ht @bo @hl
  repeat (first|apply Z6|apply Yx|apply Yc|refine Goes.Zi Ye ?_|refine Zn Hh (EY Za (Zaq Hh)) Ye ?_)
  exact Zd
 ·cases e
theorem Zu6 {args:List W} {h h':Hq} {v:V} (e:Zo0 args h=some (v,h')):Zb 200 args h v h':=by
 unfold Zo0 at e
 split at e
 ·rename_i t
  obtain⟨X,ht,e⟩:=Zk e
  have ht:=Yw ht
  cases e
  refine fnG Hh Tryz.f200 ?_
  repeat (first|apply Z6|((first|apply Goes.Zi|apply gO fits Hh Za); · simp (maxSteps:=9^6) +decide (disch:=first|exact dZ|fail) only [go_sem,Zm,Zh,simprocAttr,ht,Z29,Zp3,read1,Z0]<;>rfl))
  exact Zd
 ·cases e
theorem Zr3 {args:List W} {h h':Hq} {v:V} (e:Z4h args h=some (v,h')):Zb 136 args h v h':=by
 unfold Z4h at e
 split at e
 ·rename_i t
  obtain⟨X,ht,e⟩:=Zk e
  have ht:=Yw ht
  obtain⟨bo,e⟩:=Zu.1 e
  cases e
  refine fnG Hh Tryz.f136 ?_
  have Jf:=Y2 @ht @bo
  repeat (first|apply Z6|apply Yx|apply Yc|refine Goes.Zi Ye ?_|refine Zn Hh (EY (EY Za (Zmo Hh)) (Zu6 Hh)) Ye ?_)
  exact Zd
 ·cases e
end
end
end Go.Proofs.YtmanipmhebgdbaaGreatDoor
