/- The disk's functions, of any disk whose power is on. -/
import Derived.Test.YtmanipmhebgdbaaGreatDoorBlk
set_option maxRecDepth 100000
set_option maxHeartbeats 4000000
set_option linter.unusedSimpArgs false
set_option linter.unusedVariables false
set_option linter.unusedSectionVars false
namespace Go.Proofs.YtmanipmhebgdbaaGreatDoor
open Go.Ev
noncomputable section
theorem ty3:K.types.get 3=some ti3:=kR
theorem sz3:ti3.size=1:=by rfl
theorem ag3:ti3.agg=false:=by rfl
theorem de3:ti3.desc=(.int .i64):=by rfl
theorem ze3:ti3.zero=(.c (.int .i64 0)):=by rfl
theorem ke3 (k:IntKind) (n:Int):Vo K 20 3 (.c (.int k n))=true:=kR
theorem ty4:K.types.get 4=some ti4:=kR
theorem sz4:ti4.size=1:=by rfl
theorem ag4:ti4.agg=false:=by rfl
theorem ze4:ti4.zero=(.c (.bool false)):=by rfl
theorem ty5:K.types.get 5=some ti5:=kR
theorem sz5:ti5.size=1:=by rfl
theorem ag5:ti5.agg=false:=by rfl
theorem de5:ti5.desc=(.int .u8):=by rfl
theorem ze5:ti5.zero=(.c (.int .u8 0)):=by rfl
theorem by5:ti5.bytes=1:=by rfl
theorem ty25:K.types.get 25=some ti25:=kR
theorem sz25:ti25.size=1:=by rfl
theorem ag25:ti25.agg=false:=by rfl
theorem de25:ti25.desc=(.pointer 200):=by rfl
theorem ty31:K.types.get 31=some ti31:=kR
theorem sz31:ti31.size=1:=by rfl
theorem ag31:ti31.agg=false:=by rfl
theorem ze31:ti31.zero=(.c (.int .i64 0)):=by rfl
theorem ty87:K.types.get 87=some ti87:=kR
theorem sz87:ti87.size=256:=by rfl
theorem ag87:ti87.agg=true:=by rfl
theorem de87:ti87.desc=(.array 256 5):=by rfl
theorem ze87:ti87.zero=(.g ((List.replicate 256 (.int .u8 0)))):=by rfl
theorem by87:ti87.bytes=256:=by rfl
theorem ty106:K.types.get 106=some ti106:=kR
theorem sz106:ti106.size=1:=by rfl
theorem ag106:ti106.agg=false:=by rfl
theorem de106:ti106.desc=(.slice 87):=by rfl
theorem el106:J9 K 106=some ti87:=kR
theorem fo200_0:Zw K 200 0=some (0,ti106):=kR
theorem fo200_1:Zw K 200 1=some (1,ti106):=kR
theorem fo200_4:Zw K 200 4=some (4,ti4):=kR
theorem fo200_5:Zw K 200 5=some (5,ti3):=kR
theorem bu200 (ps:List (Nat × W)):Yq K 200 (some ps)=gW (Yh K 200 ps ti200.zero.cells):=kR
theorem ze200:ti200.zero=(.g ([.snil,.snil,.snil,.int .i64 0,.bool false,.int .i64 0])):=by rfl
attribute [go_sem] ty3 sz3 ag3 de3 ze3 ke3 ty4 sz4 ag4 ze4 ty5 sz5 ag5 de5 ze5 by5 ty25 sz25 ag25 de25 ty31 sz31 ag31 ze31 ty87 sz87 ag87 de87 ze87 by87 ty106 sz106 ag106 de106 el106 fo200_0 fo200_1 fo200_4 fo200_5 bu200 ze200
theorem rs186:Tryz.f186.results.toList=[.tmp 2]:=rfl
theorem rs107:Tryz.f107.results.toList=[.tmp 2]:=rfl
theorem rs354:Tryz.f354.results.toList=[.tmp 2]:=rfl
theorem rs322:Tryz.f322.results.toList=[.tmp 2]:=rfl
theorem rs279:Tryz.f279.results.toList=[.tmp 4]:=rfl
theorem rs234:Tryz.f234.results.toList=[.cell 4 87,.tmp 5]:=rfl
attribute [go_sem] rs186 rs107 rs354 rs322 rs279 rs234
structure Dk where
 p:Nat
 q:Nat
 n:Nat
 wt:C
 ac:Int
 lf:Int
def dkL (D:Dk):List C:=[.slice D.p 0 D.n 256,.slice D.q 0 D.n 256,D.wt,.int .i64 D.ac,.bool false,.int .i64 D.lf]
attribute [go_sem] dkL
def Tw (h:Hq) (d:Nat):Option Dk:=match h.get d with
 | some (.row sz [[.slice p o1 n s1,.slice q o2 n2 s2,wt,.int .i64 ac,.bool st,.int .i64 lf]] ro)=>Y5 (Nat.beq sz 6&&Nat.beq o1 0&&Nat.beq s1 256&&Nat.beq o2 0&&Nat.beq s2 256&&Nat.beq n2 n&&Nat.blt 0 n&&Nat.ble n 2048&&!st&&!ro) (some ⟨p,q,n,wt,ac,lf⟩)
 | _=>none
theorem Oo {h:Hq} {d:Nat} {D:Dk} (e:Tw h d=some D):h.get d=some (.row 6 [dkL D] false)/\0<D.n/\D.n<=2048:=by
 unfold Tw at e
 split at e
 ·rename_i heq
  obtain⟨b,e⟩:=Zv.1 e
  cases e
  simp only[aQ,Bool.not_eq_true'] at b
  obtain⟨⟨⟨⟨⟨⟨⟨⟨⟨b1,b2⟩,b3⟩,b4⟩,b5⟩,b6⟩,b7⟩,b8⟩,rfl⟩,rfl⟩:=b
  obtain rfl:=bQ b1
  obtain rfl:=bQ b2
  obtain rfl:=bQ b3
  obtain rfl:=bQ b4
  obtain rfl:=bQ b5
  obtain rfl:=bQ b6
  exact⟨heq,by simpa [Nat.blt_eq] using b7,lQ b8⟩
 ·cases e
theorem Z2q (p o n:Nat):Y3 K 106 (.c (.slice p o n 256))=true:=kR
def Z19 (h:Hq) (q:Nat) (b:Nat):Option (List C):=match h.get q with
 | some (.row sz L _)=>Y5 (Nat.beq sz 256) (L[b]?.bind fun x=>Y5 (Nat.beq x.length 256&&x.all C.flat) (some x))
 | _=>none
theorem Zfc {h:Hq} {q b:Nat} {x:List C} (e:Z19 h q b=some x):∃ L ro,h.get q=some (.row 256 L ro)/\L[b]? = some x/\x.length=256/\x.all C.flat=true:=by
 unfold Z19 at e
 split at e
 ·rename_i sz L ro heq
  obtain⟨b1,e⟩:=Zv.1 e
  obtain rfl:=bQ b1
  obtain⟨y,hy,e⟩:=Zk e
  obtain⟨b2,e⟩:=Zv.1 e
  cases e
  rw[aQ] at b2
  exact⟨L,ro,heq,hy,bQ b2.1,b2.2⟩
 ·cases e
def Zuv:Kn1:=fun args h=>match args with
 | [.c (.ptr d 0)]=>(Tw h d).bind fun _=>some (.w (.c (.bool true)),h)
 | _=>none
def Zki:Kn1:=fun args h=>match args with
 | [.c (.ptr d 0)]=>(Tw h d).bind fun D=>some (.w (.c (.int .i64 (D.n:Int))),h)
 | _=>none
def Zut:Kn1:=fun args h=>match args with
 | [.c (.ptr d 0)]=>(Tw h d).bind fun _=>some (.w (.c (.bool false)),h)
 | _=>none
def Zkj:Kn1:=fun args h=>match args with
 | [.c (.ptr d 0)]=>(Tw h d).bind fun _=>some (.w (.c (.int .i64 0)),h)
 | _=>none
def Zcz:Kn1:=fun args h=>match args with
 | [.c (.ptr d 0),.c (.int .i64 z)]=>(Tw h d).bind fun D=>Y5 (decide (0<=z)&&decide (z<(D.n:Int))) (some (.w (.c (.int .i64 0)),h))
 | _=>none
def Zuw:Kn1:=fun args h=>match args with
 | [.c (.ptr d 0),.c (.int .i64 z)]=>(Tw h d).bind fun D=>Y5 (decide (0<=z)&&decide (z<(D.n:Int))) ((Z19 h D.q z.toNat).bind fun x=>some (.tup [.g x,.c (.int .i64 0)],h))
 | _=>none
attribute [go_sem] Tw Z19 Z2q Zuv Zki Zut Zkj Zcz Zuw
section
variable (Hh:Hearts K Tryz.prog)
include Hh
theorem Zf0 {args:List W} {h h':Hq} {v:V} (e:Zuv args h=some (v,h')):Zb 186 args h v h':=by
 unfold Zuv at e
 split at e
 ·rename_i d
  obtain⟨D,hd,e⟩:=Zk e
  obtain⟨hd,n0,n1⟩:=Oo hd
  cases e
  refine fnG Hh Tryz.f186 ?_
  have Jf:=@hd
  repeat (first|apply Z6|apply Yc|refine Zo Hh Za Rp ?_)
  exact Zf
 ·cases e
theorem Bn {args:List W} {h h':Hq} {v:V} (e:Zki args h=some (v,h')):Zb 107 args h v h':=by
 unfold Zki at e
 split at e
 ·rename_i d
  obtain⟨D,hd,e⟩:=Zk e
  obtain⟨hd,n0,n1⟩:=Oo hd
  cases e
  refine fnG Hh Tryz.f107 ?_
  have Jf:=@hd
  repeat (first|apply Z6|apply Yt|apply Yc|refine Goes.Zh Rp ?_|refine Zo Hh (EY Za (Zf0 Hh)) Rp ?_)
  exact Zf
 ·cases e
theorem Zzz {args:List W} {h h':Hq} {v:V} (e:Zut args h=some (v,h')):Zb 354 args h v h':=by
 unfold Zut at e
 split at e
 ·rename_i d
  obtain⟨D,hd,e⟩:=Zk e
  obtain⟨hd,n0,n1⟩:=Oo hd
  cases e
  refine fnG Hh Tryz.f354 ?_
  have Jf:=@hd
  repeat (first|apply Z6|apply Yc|refine Zo Hh (EY Za (Zf0 Hh)) Ye ?_)
  exact Zf
 ·cases e
theorem Zsh {args:List W} {h h':Hq} {v:V} (e:Zkj args h=some (v,h')):Zb 322 args h v h':=by
 unfold Zkj at e
 split at e
 ·rename_i d
  obtain⟨D,hd,e⟩:=Zk e
  obtain⟨hd,n0,n1⟩:=Oo hd
  cases e
  refine fnG Hh Tryz.f322 ?_
  have Jf:=@hd
  repeat (first|apply Z6|apply Og|apply Yt|apply Yc|refine Goes.Zh Ye ?_|refine Zo Hh (EY (EY Za (Zf0 Hh)) (Zzz Hh)) Ye ?_)
  exact Zf
 ·cases e
theorem Zlf {args:List W} {h h':Hq} {v:V} (e:Zcz args h=some (v,h')):Zb 279 args h v h':=by
 unfold Zcz at e
 split at e
 ·rename_i d z
  obtain⟨D,hd,e⟩:=Zk e
  obtain⟨hd,n0,n1⟩:=Oo hd
  obtain⟨b,e⟩:=Zv.1 e
  simp only[aQ,decide_eq_true_eq] at b
  obtain⟨z0,z1⟩:=b
  cases e
  refine fnG Hh Tryz.f279 ?_
  have Jf:=@hd
  repeat (first|apply Z6|apply Yt|apply Yc|refine Goes.Zh Rp ?_|refine Zo Hh (EY Za (Zsh Hh)) Rp ?_)
  exact Zf
 ·cases e
theorem Zbw {args:List W} {h h':Hq} {v:V} (e:Zuw args h=some (v,h')):Zb 234 args h v h':=by
 unfold Zuw at e
 split at e
 ·rename_i d z
  obtain⟨D,hd,e⟩:=Zk e
  obtain⟨hd,n0,n1⟩:=Oo hd
  obtain⟨b,e⟩:=Zv.1 e
  simp only[aQ,decide_eq_true_eq] at b
  obtain⟨z0,z1⟩:=b
  obtain⟨b,rfl⟩:=Int.eq_ofNat_of_zero_le z0
  obtain⟨x,hx,e⟩:=Zk e
  rw[Int.toNat_natCast] at hx
  obtain⟨L,ro,hq,hL,xl,xf⟩:=Zfc hx
  have rr:Zn 256 L (b * 256) 256=some x:=Zjy oM hL xl
  cases e
  refine Zu.tidy ⟨Tryz.f234,Tryz.func234,kR,by decide⟩ fun tidy=>?_
  have ld:=tidy _ _ hd
  have lq:=tidy _ _ hq
  obtain⟨v,h',c,rfl,hk⟩:∃ v h',Zb 234 [.c (.ptr d 0),.c (.int .i64 (b:Int))] h v h'/\v=.tup [.g x,.c (.int .i64 0)]/\∀ m,m<h.next->h'.get m=h.get m:=by
   refine Yk Hh Tryz.f234 ?_
   have Jf:=J6 @hd @hq @rr @xl
   repeat (first|apply Z6|apply Yt|apply Yc|refine Goes.Zh Gi ?_|refine Zo Hh (EY Za (Zlf Hh)) Gi ?_)
   exact⟨_,_,(by have Jf:=J6 @hd @hq @rr @xl; exact Zr),rfl,fun m hm=>by exact Ym⟩
  exact c.quiet (by show (x.all C.flat&&true)=true; rw[xf]; rfl) hk
 ·cases e
end
open Go.Ev
theorem ty160:K.types.get 160=some ti160:=kR
theorem sz160:ti160.size=1:=by rfl
theorem ag160:ti160.agg=false:=by rfl
theorem de160:ti160.desc=(.pointer 297):=by rfl
theorem ty294:K.types.get 294=some ti294:=kR
theorem sz294:ti294.size=1:=by rfl
theorem ag294:ti294.agg=false:=by rfl
theorem mp294:El K 294=some (3,323):=kR
theorem ty295:K.types.get 295=some ti295:=kR
theorem sz295:ti295.size=1:=by rfl
theorem ag295:ti295.agg=false:=by rfl
theorem mp295:El K 295=some (3,324):=kR
theorem fo297_0:Zw K 297 0=some (0,ti25):=kR
theorem fo297_1:Zw K 297 1=some (1,ti294):=kR
theorem fo297_2:Zw K 297 2=some (2,ti295):=kR
theorem bu297 (ps:List (Nat × W)):Yq K 297 (some ps)=gW (Yh K 297 ps ti297.zero.cells):=kR
theorem ze297:ti297.zero=(.g ([.pnil,.mnil,.mnil])):=by rfl
theorem ty323:K.types.get 323=some ti323:=kR
theorem sz323:ti323.size=257:=by rfl
theorem fo323_0:Zw K 323 0=some (0,ti87):=kR
theorem fo323_1:Zw K 323 1=some (256,ti4):=kR
theorem ze323:ti323.zero=(.g (List.replicate 256 (.int .u8 0)++List.replicate 1 (.bool false))):=by rfl
theorem ty324:K.types.get 324=some ti324:=kR
theorem sz324:ti324.size=0:=by rfl
theorem bu324 (ps:List (Nat × W)):Yq K 324 (some ps)=gW (Yh K 324 ps ti324.zero.cells):=kR
theorem ze324:ti324.zero=(.g ([])):=by rfl
attribute [go_sem] ty160 sz160 ag160 de160 ty294 sz294 ag294 mp294 ty295 sz295 ag295 mp295 fo297_0 fo297_1 fo297_2 bu297 ze297 ty323 sz323 fo323_0 fo323_1 ze323 ty324 sz324 bu324 ze324
theorem rs264:Tryz.f264.results.toList=[.tmp 2]:=rfl
theorem rs205:Tryz.f205.results.toList=[.tmp 4]:=rfl
theorem rs162:Tryz.f162.results.toList=[.cell 4 87,.tmp 5]:=rfl
theorem rs134:Tryz.f134.results.toList=[.tmp 6]:=rfl
attribute [go_sem] rs264 rs205 rs162 rs134
structure Ck where
 d:Nat
 m:Nat
 pn:Nat
def ckL (X:Ck):List C:=[.ptr X.d 0,.map X.m,.map X.pn]
attribute [go_sem] ckL
def Ziu (h:Hq) (c:Nat):Option Ck:=match h.get c with
 | some (.row sz [[.ptr d o,.map m,.map pn]] ro)=>Y5 (Nat.beq sz 3&&Nat.beq o 0&&!ro) (some ⟨d,m,pn⟩)
 | _=>none
theorem Sn {h:Hq} {c:Nat} {X:Ck} (e:Ziu h c=some X):h.get c=some (.row 3 [ckL X] false):=by
 unfold Ziu at e
 split at e
 ·rename_i heq
  obtain⟨b,e⟩:=Zv.1 e
  cases e
  simp only[aQ,Bool.not_eq_true'] at b
  obtain⟨⟨b1,b2⟩,rfl⟩:=b
  obtain rfl:=bQ b1
  obtain rfl:=bQ b2
  exact heq
 ·cases e
def Zus:Kn1:=fun args h=>match args with
 | [.c (.ptr c 0)]=>(Ziu h c).bind fun _=>some (.w (.c (.bool true)),h)
 | _=>none
def Z4g:Kn1:=fun args h=>match args with
 | [.c (.ptr c 0),.c (.int .i64 z)]=>(Ziu h c).bind fun X=>(Tw h X.d).bind fun D=>Y5 (decide (0<=z)&&decide (z<(D.n:Int))) (some (.w (.c (.int .i64 0)),h))
 | _=>none
def Qj:Kn1:=fun args h=>match args with
 | [.c (.ptr c 0),.c (.int .i64 z)]=>(Ziu h c).bind fun X=>(Tw h X.d).bind fun D=>Y5 (decide (0<=z)&&decide (z<(D.n:Int))) ((getM h X.m).bind fun l=>match Je z l with
  | some y=>Y5 (Nat.beq y.length 257&&y.all C.flat) (some (.tup [.g (y.take 256),.c (.int .i64 0)],h))
  | none=>Y5 (Bg l) ((Z19 h D.q z.toNat).bind fun x=>some (.tup [.g x,.c (.int .i64 0)],h.put X.m (.map (Uq (Dn z (x++[.bool false]) l))))))
 | _=>none
def Zo8:Kn1:=fun args h=>match args with
 | [.c (.ptr c 0),.c (.int .i64 z),.g x]=>(Ziu h c).bind fun X=>(Tw h X.d).bind fun D=>Y5 (decide (0<=z)&&decide (z<(D.n:Int))) ((getM h X.m).bind fun l=>Y5 (Nat.beq x.length 256&&x.all C.flat&&Bg l) (some (.w (.c (.int .i64 0)),h.put X.m (.map (Uq (Dn z (x++[.bool true]) l))))))
 | _=>none
attribute [go_sem] Ziu Zus Z4g Qj Zo8
theorem Yck {x:List C} {b:Bool} (h:x.length<=256/\256<=x.length):Yq K 323 (some [(0,.g x),(1,.c (.bool b))])=some (.g (x++[.bool b])):=by
 have z:(ti323.zero).cells.drop 256=[.bool false]:=kR
 have zl:(ti323.zero).cells.length=257:=kR
 have bu:∀ ps,Yq K 323 (some ps)=gW (Yh K 323 ps (ti323.zero).cells):=fun ps=>kR
 rw[bu]
 simp only[Yh,fo323_0,fo323_1]
 rw[show ti87.size=256 from rfl,Zqy ⟨h.1,h.2,oM⟩,z]
 simp only
 rw[show ti4.size=1 from rfl,Zyj ⟨h.1,h.2,by simp,by simp⟩]
 rfl
theorem Z98 {x:List C} (h:x.length<=256/\256<=x.length):Yq K 323 (some [(0,.g x)])=some (.g (x++[.bool false])):=by
 have z:(ti323.zero).cells.drop 256=[.bool false]:=kR
 have zl:(ti323.zero).cells.length=257:=kR
 have bu:∀ ps,Yq K 323 (some ps)=gW (Yh K 323 ps (ti323.zero).cells):=fun ps=>kR
 rw[bu]
 simp only[Yh,fo323_0]
 rw[show ti87.size=256 from rfl,Zqy ⟨h.1,h.2,oM⟩,z]
 rfl
attribute [go_sem] Yck Z98
section
variable (Hh:Hearts K Tryz.prog)
include Hh
theorem Zzy {args:List W} {h h':Hq} {v:V} (e:Zus args h=some (v,h')):Zb 264 args h v h':=by
 unfold Zus at e
 split at e
 ·rename_i c
  obtain⟨X,hc,e⟩:=Zk e
  have hc:=Sn hc
  cases e
  refine fnG Hh Tryz.f264 ?_
  have Jf:=@hc
  repeat (first|apply Z6|apply Yc|refine Zo Hh Za Ye ?_)
  exact Zf
 ·cases e
theorem Xu {args:List W} {h h':Hq} {v:V} (e:Z4g args h=some (v,h')):Zb 205 args h v h':=by
 unfold Z4g at e
 split at e
 ·rename_i c z
  obtain⟨X,hc,e⟩:=Zk e
  have hc:=Sn hc
  obtain⟨D,hd,e⟩:=Zk e
  obtain⟨hd,n0,n1⟩:=Oo hd
  obtain⟨b,e⟩:=Zv.1 e
  simp only[aQ,decide_eq_true_eq] at b
  obtain⟨z0,z1⟩:=b
  cases e
  refine fnG Hh Tryz.f205 ?_
  have Jf:=Yy @hc @hd
  repeat (first|apply Z6|apply Og|apply Yt|apply Yc|refine Goes.Zh Ye ?_|refine Zo Hh (EY (EY Za (Zzy Hh)) (Bn Hh)) Ye ?_)
  exact Zf
 ·cases e
theorem Zbv {args:List W} {h h':Hq} {v:V} (e:Qj args h=some (v,h')):Zb 162 args h v h':=by
 unfold Qj at e
 split at e
 ·rename_i c z
  obtain⟨X,hc,e⟩:=Zk e
  have hc:=Sn hc
  obtain⟨D,hd,e⟩:=Zk e
  obtain⟨hd,n0,n1⟩:=Oo hd
  obtain⟨b,e⟩:=Zv.1 e
  simp only[aQ,decide_eq_true_eq] at b
  obtain⟨z0,z1⟩:=b
  obtain⟨l,hm,e⟩:=Zk e
  have hm:=getM_some hm
  refine Zu.tidy ⟨Tryz.f162,Tryz.func162,kR,by decide⟩ fun tidy=>?_
  have lc:=tidy _ _ hc
  have ld:=tidy _ _ hd
  have lm:=tidy _ _ hm
  split at e
  ·rename_i y hl
   obtain⟨b,e⟩:=Zv.1 e
   rw[aQ] at b
   have yl:=bQ b.1
   have yf:=b.2
   cases e
   have rr:Zn 257 [y] 0 256=some (y.take 256):=Zry oM
   have tl:(y.take 256).length=256:=by rw[List.length_take]; omega
   obtain⟨v,h',c,rfl,hk⟩:∃ v h',Zb 162 [.c (.ptr c 0),.c (.int .i64 z)] h v h'/\v=.tup [.g (y.take 256),.c (.int .i64 0)]/\∀ m,m<h.next->h'.get m=h.get m:=by
    refine Yk Hh Tryz.f162 ?_
    have Jf:=G6 @hc @hd @hm @hl @rr
    repeat (first|apply Z6|apply Yt|apply Yc|refine Goes.Zh Jh ?_|refine Zo Hh (EY (EY Za (Xu Hh)) (Zbw Hh)) Jh ?_|refine F7 Hh (EY (EY Za (Xu Hh)) (Zbw Hh)) Zp6 ?_)
    exact⟨_,_,(by have Jf:=G6 @hc @hd @hm @hl @rr; exact Zr),rfl,fun m hm=>by exact Np⟩
   refine c.quiet ?_ hk
   show ((y.take 256).all C.flat&&true)=true
   rw[Bool.and_true,List.all_eq_true]
   exact fun x hx=>List.all_eq_true.1 yf x (List.mem_of_mem_take hx)
  ·rename_i hl
   obtain⟨fl,e⟩:=Zv.1 e
   obtain⟨x,hx,e⟩:=Zk e
   obtain⟨b,rfl⟩:=Int.eq_ofNat_of_zero_le z0
   rw[Int.toNat_natCast] at hx
   obtain⟨L,ro,hq,hL,xl,xf⟩:=Zfc hx
   have lq:=tidy _ _ hq
   cases e
   obtain⟨v,h',c,rfl,hk⟩:∃ v h',Zb 162 [.c (.ptr c 0),.c (.int .i64 (b:Int))] h v h'/\v=.tup [.g x,.c (.int .i64 0)]/\∀ m,m<h.next->h'.get m=(h.put X.m (.map (Uq (Dn (b:Int) (x++[.bool false]) l)))).get m:=by
    refine Yk Hh Tryz.f162 ?_
    have Jf:=Nl @hc @hd @hm @hl @hq @hL @xl @xf
    repeat (first|apply Z6|apply Yt|apply Yc|refine Goes.Zh Jh ?_|refine Zo Hh (EY (EY Za (Xu Hh)) (Zbw Hh)) Jh ?_|refine F7 Hh (EY (EY Za (Xu Hh)) (Zbw Hh)) Zp6 ?_)
    exact⟨_,_,(by have Jf:=Lc @hc @hd @hm @hl @hq @hL @xl; exact Zr),rfl,fun m hm=>by exact Np⟩
   refine c.settle ((Vt.refl tidy).put lm (Na (Bu ?_ fl))) (Zky.flat ?_) hk
   ·rw[List.all_append,xf]; rfl
   ·show (x.all C.flat&&true)=true; rw[xf]; rfl
 ·cases e
theorem Zkd {args:List W} {h h':Hq} {v:V} (e:Zo8 args h=some (v,h')):Zb 134 args h v h':=by
 unfold Zo8 at e
 split at e
 ·rename_i c z x
  obtain⟨X,hc,e⟩:=Zk e
  have hc:=Sn hc
  obtain⟨D,hd,e⟩:=Zk e
  obtain⟨hd,n0,n1⟩:=Oo hd
  obtain⟨b,e⟩:=Zv.1 e
  simp only[aQ,decide_eq_true_eq] at b
  obtain⟨z0,z1⟩:=b
  obtain⟨l,hm,e⟩:=Zk e
  have hm:=getM_some hm
  obtain⟨b,e⟩:=Zv.1 e
  simp only[aQ] at b
  obtain⟨⟨b1,xf⟩,fl⟩:=b
  have xl:=bQ b1
  refine Zu.tidy ⟨Tryz.f134,Tryz.func134,kR,by decide⟩ fun tidy=>?_
  have lc:=tidy _ _ hc
  have ld:=tidy _ _ hd
  have lm:=tidy _ _ hm
  cases e
  obtain⟨v,h',c,rfl,hk⟩:∃ v h',Zb 134 [.c (.ptr c 0),.c (.int .i64 z),.g x] h v h'/\v=.w (.c (.int .i64 0))/\∀ m,m<h.next->h'.get m=(h.put X.m (.map (Uq (Dn z (x++[.bool true]) l)))).get m:=by
   refine Yk Hh Tryz.f134 ?_
   have Jf:=J6 @hc @hd @hm @xl
   repeat (first|apply Z6|apply Yt|apply Yc|refine Goes.Zh Jl ?_|refine Zo Hh (EY Za (Xu Hh)) Jl ?_|refine F7 Hh (EY Za (Xu Hh)) Z0x ?_)
   exact⟨_,_,(by have Jf:=Ja @hc @hd @hm; exact Zm),rfl,fun m hm=>by exact Np⟩
  refine c.settle ((Vt.refl tidy).put lm (Na (Bu ?_ fl))) (Zky.flat rfl) hk
  rw[List.all_append,xf]; rfl
 ·cases e
end
open Go.Ev
theorem ty40:K.types.get 40=some ti40:=kR
theorem sz40:ti40.size=1:=by rfl
theorem ag40:ti40.agg=false:=by rfl
theorem de40:ti40.desc=(.int .u32):=by rfl
theorem ty154:K.types.get 154=some ti154:=kR
theorem sz154:ti154.size=1:=by rfl
theorem ag154:ti154.agg=false:=by rfl
theorem de154:ti154.desc=(.pointer 309):=by rfl
theorem ty303:K.types.get 303=some ti303:=kR
theorem sz303:ti303.size=1:=by rfl
theorem ag303:ti303.agg=false:=by rfl
theorem de303:ti303.desc=(.map 3 87):=by rfl
theorem mp303:El K 303=some (3,87):=kR
theorem ty304:K.types.get 304=some ti304:=kR
theorem sz304:ti304.size=1:=by rfl
theorem ag304:ti304.agg=false:=by rfl
theorem de304:ti304.desc=(.pointer 388):=by rfl
theorem ty306:K.types.get 306=some ti306:=kR
theorem sz306:ti306.size=4:=by rfl
theorem ag306:ti306.agg=true:=by rfl
theorem fo306_0:Zw K 306 0=some (0,ti303):=kR
theorem fo306_1:Zw K 306 1=some (1,ti295):=kR
theorem fo306_2:Zw K 306 2=some (2,ti295):=kR
theorem fo306_3:Zw K 306 3=some (3,ti304):=kR
theorem bu306 (ps:List (Nat × W)):Yq K 306 (some ps)=gW (Yh K 306 ps ti306.zero.cells):=kR
theorem ze306:ti306.zero=(.g ([.mnil,.mnil,.mnil,.pnil])):=by rfl
theorem fo309_0:Zw K 309 0=some (0,ti306):=kR
theorem fo309_1:Zw K 309 1=some (4,ti40):=kR
theorem fo309_2:Zw K 309 2=some (5,ti4):=kR
theorem fo309_3:Zw K 309 3=some (6,ti3):=kR
theorem fo309_4:Zw K 309 4=some (7,ti3):=kR
theorem fo309_5:Zw K 309 5=some (8,ti295):=kR
theorem fo309_6:Zw K 309 6=some (9,ti306):=kR
theorem bu309 (ps:List (Nat × W)):Yq K 309 (some ps)=gW (Yh K 309 ps ti309.zero.cells):=kR
theorem ze309:ti309.zero=(.g ([.mnil,.mnil,.mnil,.pnil,.int .u32 0,.bool false,.int .i64 0,.int .i64 0,.mnil,.mnil,.mnil,.mnil,.pnil])):=by rfl
theorem ty386:K.types.get 386=some ti386:=kR
theorem sz386:ti386.size=1:=by rfl
theorem ag386:ti386.agg=false:=by rfl
theorem de386:ti386.desc=(.map 390 324):=by rfl
theorem mp386:El K 386=some (390,324):=kR
theorem fo388_0:Zw K 388 0=some (0,ti386):=kR
theorem bu388 (ps:List (Nat × W)):Yq K 388 (some ps)=gW (Yh K 388 ps ti388.zero.cells):=kR
theorem ze388:ti388.zero=(.g ([.mnil])):=by rfl
theorem fo390_0:Zw K 390 0=some (0,ti3):=kR
theorem fo390_1:Zw K 390 1=some (1,ti40):=kR
theorem bu390 (ps:List (Nat × W)):Yq K 390 (some ps)=gW (Yh K 390 ps ti390.zero.cells):=kR
theorem ze390:ti390.zero=(.g ([.int .i64 0,.int .u32 0])):=by rfl
attribute [go_sem] ty3 sz3 ag3 de3 ze3 ke3 ty4 sz4 ag4 ze4 ty5 sz5 ag5 de5 ze5 by5 ty31 sz31 ag31 ze31 ty40 sz40 ag40 de40 ty87 sz87 ag87 de87 ze87 by87 ty154 sz154 ag154 de154 ty295 sz295 ag295 mp295 ty303 sz303 ag303 de303 mp303 ty304 sz304 ag304 de304 ty306 sz306 ag306 fo306_0 fo306_1 fo306_2 fo306_3 bu306 ze306 fo309_0 fo309_1 fo309_2 fo309_3 fo309_4 fo309_5 fo309_6 bu309 ze309 ty324 sz324 bu324 ze324 ty386 sz386 ag386 de386 mp386 fo388_0 bu388 ze388 fo390_0 fo390_1 bu390 ze390
theorem rs292:Tryz.f292.results.toList=[.tmp 2]:=rfl
theorem rs274:Tryz.f274.results.toList=[.tmp 4]:=rfl
theorem rs226:Tryz.f226.results.toList=[.tmp 6]:=rfl
theorem rs190:Tryz.f190.results.toList=[.tmp 2]:=rfl
theorem rs199:Tryz.f199.results.toList=[.tmp 2]:=rfl
theorem rs208:Tryz.f208.results.toList=[.tmp 4]:=rfl
theorem rs120:Tryz.f120.results.toList=[.tmp 2]:=rfl
theorem rs121:Tryz.f121.results.toList=[.tmp 2]:=rfl
theorem rs159:Tryz.f159.results.toList=[.cell 4 87,.tmp 5]:=rfl
theorem rs154:Tryz.f154.results.toList=[.tmp 6]:=rfl
theorem rs135:Tryz.f135.results.toList=[.tmp 4]:=rfl
theorem rs200:Tryz.f200.results.toList=[]:=rfl
theorem rs136:Tryz.f136.results.toList=[.tmp 2]:=rfl
attribute [go_sem] rs292 rs274 rs226 rs190 rs199 rs208 rs120 rs121 rs159 rs154 rs135 rs200 rs136
structure Tx where
 ch:Nat
 od:Nat
 fr:Nat
 rv:Nat
 sq:Int
 op:Bool
 cr:Int
 rk:Int
 to:C
 b1:C
 b2:C
 b3:C
 b4:C
def txL (X:Tx):List C:=[.map X.ch,.map X.od,.map X.fr,.ptr X.rv 0,.int .u32 X.sq,.bool X.op,.int .i64 X.cr,.int .i64 X.rk,X.to,X.b1,X.b2,X.b3,X.b4]
attribute [go_sem] txL
def Oe (h:Hq) (t:Nat):Option Tx:=match h.get t with
 | some (.row sz [[.map ch,.map od,.map fr,.ptr rv o,.int .u32 sq,.bool op,.int .i64 cr,.int .i64 rk,to,b1,b2,b3,b4]] ro)=>Y5 (Nat.beq sz 13&&Nat.beq o 0&&!ro) (some ⟨ch,od,fr,rv,sq,op,cr,rk,to,b1,b2,b3,b4⟩)
 | _=>none
theorem Yr {h:Hq} {t:Nat} {X:Tx} (e:Oe h t=some X):h.get t=some (.row 13 [txL X] false):=by
 unfold Oe at e
 split at e
 ·rename_i heq
  obtain⟨b,e⟩:=Zv.1 e
  cases e
  simp only[aQ,Bool.not_eq_true'] at b
  obtain⟨⟨b1,b2⟩,rfl⟩:=b
  obtain rfl:=bQ b1
  obtain rfl:=bQ b2
  exact heq
 ·cases e
def Sq (h:Hq) (r:Nat):Option Nat:=match h.get r with
 | some (.row sz [[.map m]] ro)=>Y5 (Nat.beq sz 1&&!ro) (some m)
 | _=>none
theorem Ga {h:Hq} {r m:Nat} (e:Sq h r=some m):h.get r=some (.row 1 [[.map m]] false):=by
 unfold Sq at e
 split at e
 ·rename_i heq
  obtain⟨b,e⟩:=Zv.1 e
  cases e
  simp only[aQ,Bool.not_eq_true'] at b
  obtain⟨b1,rfl⟩:=b
  obtain rfl:=bQ b1
  exact heq
 ·cases e
def Gg (h:Hq) (m:Nat):Bool:=match h.get m with
 | some (.map [])=>true
 | _=>false
theorem Jg {h:Hq} {m:Nat} (e:Gg h m=true):h.get m=some (.map []):=by
 unfold Gg at e
 split at e
 ·assumption
 ·cases e
def toN:C->Option Nat
 | .map m=>some m
 | _=>none
theorem Zr9 {c:C} {m:Nat} (e:toN c=some m):c=.map m:=by
 cases c<;>first|(cases e; rfl)|cases e
theorem Z8s (m:Nat):toN (.map m)=some m:=rfl
theorem Yal (kt:TypeId) (k:W):Zqp K kt k []=some []:=rfl
def Zvi:Kn1:=fun args h=>match args with
 | [.c (.ptr r 0)]=>(Sq h r).bind fun _=>some (.w (.c (.bool true)),h)
 | _=>none
def Z4v:Kn1:=fun args h=>match args with
 | [.c (.ptr r 0),.c (.int .i64 z)]=>(Sq h r).bind fun _=>Y5 (decide (0<=z)) (some (.w (.c (.int .i64 0)),h))
 | _=>none
def Zkq:Kn1:=fun args h=>match args with
 | [.c (.ptr r 0),.c (.int .i64 z),.c (.int .u32 _)]=>(Sq h r).bind fun m=>Y5 (decide (0<=z)&&Gg h m) (some (.w (.c (.int .i64 0)),h))
 | _=>none
def Zvv:Kn1:=fun args h=>match args with
 | [.c (.ptr t 0)]=>(Oe h t).bind fun _=>some (.w (.c (.bool true)),h)
 | _=>none
def Zvu:Kn1:=fun args h=>match args with
 | [.c (.ptr t 0)]=>(Oe h t).bind fun X=>Y5 X.op (some (.w (.c (.int .i64 0)),h))
 | _=>none
def Z5d:Kn1:=fun args h=>match args with
 | [.c (.ptr t 0),.c (.int .i64 z)]=>(Oe h t).bind fun X=>Y5 (X.op&&decide (0<=z)) (some (.w (.c (.int .i64 0)),h))
 | _=>none
def Z5h:Kn1:=fun args h=>match args with
 | [.c (.ptr t 0)]=>(Oe h t).bind fun X=>some (.w (.c (.int .u32 X.sq)),h)
 | _=>none
def Zvw:Kn1:=fun args h=>match args with
 | [.c (.ptr t 0)]=>(Oe h t).bind fun X=>some (.w (.c (.bool X.op)),h)
 | _=>none
def Z5f:Kn1:=fun args h=>match args with
 | [.c (.ptr t 0),.c (.int .i64 z)]=>(Oe h t).bind fun X=>(getM h X.ch).bind fun l=>match Je z l with
  | some y=>Y5 (Nat.beq y.length 256&&y.all C.flat) (some (.tup [.g y,.c (.bool true)],h))
  | none=>some (.tup [.g (List.replicate 256 (.int .u8 0)),.c (.bool false)],h)
 | _=>none
def Zku:Kn1:=fun args h=>match args with
 | [.c (.ptr t 0),.c (.int .i64 z),.g x]=>(Oe h t).bind fun X=>(toN X.to).bind fun to=>(getM h to).bind fun lt=>(getM h X.ch).bind fun lc=>(getM h X.fr).bind fun lf=>(Sq h X.rv).bind fun m =>
  Y5 (X.op&&decide (0<=z)&&Gg h m&&(match Je z lt with|none=>decide ((lt.length:Int)<X.cr)|some []=>true|some (_ :: _)=>false)&&Nat.beq x.length 256&&x.all C.flat&&Bg lt&&Bg lc&&Bg lf&&!(Nat.beq to X.ch)&&!(Nat.beq to X.fr)&&!(Nat.beq X.ch X.fr)&&!(Nat.beq to m)&&!(Nat.beq X.ch m)&&!(Nat.beq X.fr m)&&!(Nat.beq to t)&&!(Nat.beq X.ch t)&&!(Nat.beq X.fr t)&&!(Nat.beq to X.rv)&&!(Nat.beq X.ch X.rv)&&!(Nat.beq X.fr X.rv))
   (some (.w (.c (.int .i64 0)),((h.put to (.map (Uq (Dn z [] lt)))).put X.ch (.map (Uq (Dn z x lc)))).put X.fr (.map (Uq (Zic z lf)))))
 | _=>none
def Zpo:Kn1:=fun args h=>match args with
 | [.c (.ptr t 0),.c (.int .i64 z)]=>(Oe h t).bind fun X=>(getM h X.od).bind fun l=>Y5 (X.op&&decide (0<=z)) (some (.w (.c (.int .i64 0)),h.put X.od (.map (Uq (Dn z [] l)))))
 | _=>none
def Z36 (X:Tx):Tx:={ X with op:=false,cr:=0,rk:=0,to:=.mnil,b1:=.mnil,b2:=.mnil,b3:=.mnil,b4:=.pnil }
def Zqr (h:Hq) (t:Nat) (X:Tx):Hq:=((((h.put t (.row 13 [txL { X with op:=false }] false)).put t (.row 13 [txL { X with op:=false,cr:=0 }] false)).put t (.row 13 [txL { X with op:=false,cr:=0,rk:=0 }] false)).put t (.row 13 [txL { X with op:=false,cr:=0,rk:=0,to:=.mnil }] false)).put t (.row 13 [txL (Z36 X)] false)
theorem Zae (h:Hq) (t:Nat) (X:Tx) (m:Nat):(Zqr h t X).get m=if m=t then some (.row 13 [txL (Z36 X)] false) else h.get m:=by
 unfold Zqr
 simp only[H.get_put]
 split<;>rfl
def Zpm:Kn1:=fun args h=>match args with
 | [.c (.ptr t 0)]=>(Oe h t).bind fun X=>some (.tup [],Zqr h t X)
 | _=>none
def Z5e:Kn1:=fun args h=>match args with
 | [.c (.ptr t 0)]=>(Oe h t).bind fun X=>Y5 X.op (some (.w (.c (.int .i64 0)),Zqr h t X))
 | _=>none
attribute [go_sem] Oe Sq Gg Z8s Yal Zvi Z4v Zkq Zvv Zvu Z5d Z5h Zvw Z5f Zku Zpo Zpm Z5e
theorem Ydp (a s:Int):Vo K 20 390 (.g [.int .i64 a,.int .u32 s])=true:=kR
attribute [go_sem] Ydp
section
variable (Hh:Hearts K Tryz.prog)
include Hh
theorem Zm5 {args:List W} {h h':Hq} {v:V} (e:Zvi args h=some (v,h')):Zb 292 args h v h':=by
 unfold Zvi at e
 split at e
 ·rename_i r
  obtain⟨m,hr,e⟩:=Zk e
  have hr:=Ga hr
  cases e
  refine fnG Hh Tryz.f292 ?_
  have Jf:=@hr
  repeat (first|apply Z6|apply Yc|refine Zo Hh Za Ye ?_)
  exact Zf
 ·cases e
theorem Z4w {args:List W} {h h':Hq} {v:V} (e:Z4v args h=some (v,h')):Zb 274 args h v h':=by
 unfold Z4v at e
 split at e
 ·rename_i r z
  obtain⟨m,hr,e⟩:=Zk e
  have hr:=Ga hr
  obtain⟨b,e⟩:=Zv.1 e
  have z0:=of_decide_eq_true b
  cases e
  refine fnG Hh Tryz.f274 ?_
  have Jf:=@hr
  repeat (first|apply Z6|apply Og|apply Yt|apply Yc|refine Goes.Zh Ye ?_|refine Zo Hh (EY Za (Zm5 Hh)) Ye ?_)
  exact Zf
 ·cases e
theorem Vi {args:List W} {h h':Hq} {v:V} (e:Zkq args h=some (v,h')):Zb 226 args h v h':=by
 unfold Zkq at e
 split at e
 ·rename_i r z s
  obtain⟨m,hr,e⟩:=Zk e
  have hr:=Ga hr
  obtain⟨b,e⟩:=Zv.1 e
  simp only[aQ,decide_eq_true_eq] at b
  obtain⟨z0,b⟩:=b
  have hm:=Jg b
  cases e
  obtain⟨v,h',c,rfl,hk⟩:∃ v h',Zb 226 [.c (.ptr r 0),.c (.int .i64 z),.c (.int .u32 s)] h v h'/\v=.w (.c (.int .i64 0))/\∀ j,j<h.next->h'.get j=h.get j:=by
   refine Yk Hh Tryz.f226 ?_
   repeat (first|apply Z6|apply Yt|apply Yc|((first|apply Goes.Zh|apply Goes.ops2 fits Hh (EY Za (Z4w Hh))); · simp (maxSteps:=9^6) +decide (disch:=first|exact dZ|fail) only [go_sem,Zn,Zi,simprocAttr,hr,hm,read1,Zt,Zaq,Zfo]<;>rfl))
   exact⟨_,_,(by have Jf:=Yy @hr @hm; exact Zm),rfl,fun j _=>by rw[H.get_put]; split<;>first|(rename_i ej; rw[ej,hm])|rfl⟩
  exact c.quiet rfl hk
 ·cases e
theorem Be {args:List W} {h h':Hq} {v:V} (e:Zvv args h=some (v,h')):Zb 190 args h v h':=by
 unfold Zvv at e
 split at e
 ·rename_i t
  obtain⟨X,ht,e⟩:=Zk e
  have ht:=Yr ht
  cases e
  refine fnG Hh Tryz.f190 ?_
  have Jf:=@ht
  repeat (first|apply Z6|apply Yc|refine Zo Hh Za Ye ?_)
  exact Zf
 ·cases e
theorem Zm8 {args:List W} {h h':Hq} {v:V} (e:Zvu args h=some (v,h')):Zb 199 args h v h':=by
 unfold Zvu at e
 split at e
 ·rename_i t
  obtain⟨X,ht,e⟩:=Zk e
  have ht:=Yr ht
  obtain⟨bo,e⟩:=Zv.1 e
  cases e
  refine fnG Hh Tryz.f199 ?_
  have Jf:=Yy @ht @bo
  repeat (first|apply Z6|apply Og|apply Yt|apply Yc|refine Goes.Zh Ye ?_|refine Zo Hh (EY Za (Be Hh)) Ye ?_)
  exact Zf
 ·cases e
theorem Za4 {args:List W} {h h':Hq} {v:V} (e:Z5d args h=some (v,h')):Zb 208 args h v h':=by
 unfold Z5d at e
 split at e
 ·rename_i t z
  obtain⟨X,ht,e⟩:=Zk e
  have ht:=Yr ht
  obtain⟨b,e⟩:=Zv.1 e
  simp only[aQ,decide_eq_true_eq] at b
  obtain⟨bo,z0⟩:=b
  cases e
  refine fnG Hh Tryz.f208 ?_
  have Jf:=Yy @ht @bo
  repeat (first|apply Z6|apply Yt|apply Yc|refine Goes.Zh Ye ?_|refine Zo Hh (EY Za (Zm8 Hh)) Ye ?_)
  exact Zf
 ·cases e
theorem Z5i {args:List W} {h h':Hq} {v:V} (e:Z5h args h=some (v,h')):Zb 120 args h v h':=by
 unfold Z5h at e
 split at e
 ·rename_i t
  obtain⟨X,ht,e⟩:=Zk e
  have ht:=Yr ht
  cases e
  refine fnG Hh Tryz.f120 ?_
  have Jf:=@ht
  repeat (first|apply Z6|apply Yt|apply Yc|refine Goes.Zh Ye ?_|refine Zo Hh (EY Za (Be Hh)) Ye ?_)
  exact Zf
 ·cases e
theorem Zf7 {args:List W} {h h':Hq} {v:V} (e:Zvw args h=some (v,h')):Zb 121 args h v h':=by
 unfold Zvw at e
 split at e
 ·rename_i t
  obtain⟨X,ht,e⟩:=Zk e
  have ht:=Yr ht
  cases e
  refine fnG Hh Tryz.f121 ?_
  have Jf:=@ht
  repeat (first|apply Z6|apply Yc|refine Zo Hh (EY Za (Be Hh)) Ye ?_)
  exact Zf
 ·cases e
theorem Zes {args:List W} {h h':Hq} {v:V} (e:Z5f args h=some (v,h')):Zb 159 args h v h':=by
 unfold Z5f at e
 split at e
 ·rename_i t z
  obtain⟨X,ht,e⟩:=Zk e
  have ht:=Yr ht
  obtain⟨l,hm,e⟩:=Zk e
  have hm:=getM_some hm
  refine Zu.tidy ⟨Tryz.f159,Tryz.func159,kR,by decide⟩ fun tidy=>?_
  have lt:=tidy _ _ ht
  have lm:=tidy _ _ hm
  split at e
  ·rename_i y hl
   obtain⟨b,e⟩:=Zv.1 e
   rw[aQ] at b
   have yl:=bQ b.1
   have yf:=b.2
   cases e
   obtain⟨v,h',c,rfl,hk⟩:∃ v h',Zb 159 [.c (.ptr t 0),.c (.int .i64 z)] h v h'/\v=.tup [.g y,.c (.bool true)]/\∀ m,m<h.next->h'.get m=h.get m:=by
    refine Yk Hh Tryz.f159 ?_
    have Jf:=Ja @ht @hm @hl
    repeat (first|apply Z6|apply Yt|apply Yc|refine Goes.Zh Jh ?_|refine Zo Hh (EY Za (Be Hh)) Jh ?_)
    exact⟨_,_,(by have Jf:=Ja @ht @hm @hl; exact Zr),rfl,fun m hm=>by exact Ym⟩
   refine c.quiet ?_ hk
   show (y.all C.flat&&true)=true
   rw[yf]; rfl
  ·rename_i hl
   cases e
   obtain⟨v,h',c,rfl,hk⟩:∃ v h',Zb 159 [.c (.ptr t 0),.c (.int .i64 z)] h v h'/\v=.tup [.g (List.replicate 256 (.int .u8 0)),.c (.bool false)]/\∀ m,m<h.next->h'.get m=h.get m:=by
    refine Yk Hh Tryz.f159 ?_
    have Jf:=Ja @ht @hm @hl
    repeat (first|apply Z6|apply Yt|apply Yc|refine Goes.Zh Jh ?_|refine Zo Hh (EY Za (Be Hh)) Jh ?_)
    exact⟨_,_,(by have Jf:=Ja @ht @hm @hl; exact Zr),rfl,fun m hm=>by exact Ym⟩
   exact c.quiet kR hk
 ·cases e
end
theorem Un {a b:Nat} (h:Nat.beq a b=false):a≠b:=fun e=>by rw[e,Nat.beq_refl] at h; cases h
theorem Z7c (m:Nat):Y3 K 295 (.c (.map m))=true:=kR
attribute [go_sem] Z7c
section
variable (Hh:Hearts K Tryz.prog)
include Hh
set_option maxHeartbeats 1000000 in
theorem Zet {args:List W} {h h':Hq} {v:V} (e:Zku args h=some (v,h')):Zb 154 args h v h':=by
 unfold Zku at e
 split at e
 ·rename_i t z x
  obtain⟨X,ht,e⟩:=Zk e
  have ht:=Yr ht
  obtain⟨to,hto,e⟩:=Zk e
  have hto:=Zr9 hto
  obtain⟨lt,hlt,e⟩:=Zk e
  have hlt:=getM_some hlt
  obtain⟨lc,hlc,e⟩:=Zk e
  have hlc:=getM_some hlc
  obtain⟨lf,hlf,e⟩:=Zk e
  have hlf:=getM_some hlf
  obtain⟨m,hr,e⟩:=Zk e
  have hrv:=hr
  have hr:=Ga hr
  obtain⟨b,e⟩:=Zv.1 e
  cases e
  refine Zu.tidy ⟨Tryz.f154,Tryz.func154,kR,by decide⟩ fun tidy=>?_
  have l1:=tidy _ _ ht
  have l2:=tidy _ _ hlt
  have l3:=tidy _ _ hlc
  have l4:=tidy _ _ hlf
  have l5:=tidy _ _ hr
  simp only[aQ,decide_eq_true_eq,Bool.not_eq_true'] at b
  obtain⟨⟨⟨⟨⟨⟨⟨⟨⟨⟨⟨⟨⟨⟨⟨⟨⟨⟨⟨⟨bo,z0⟩,bm⟩,bc⟩,bx⟩,xf⟩,f1⟩,f2⟩,f3⟩,c1⟩,c2⟩,c3⟩,c4⟩,c5⟩,c6⟩,c7⟩,c8⟩,c9⟩,c10⟩,c11⟩,c12⟩:=b
  have hm:=Jg bm
  have l6:=tidy _ _ hm
  have xl:=bQ bx
  have n1:=Un c1
  have n2:=Un c2
  have n3:=Un c3
  have n4:=Un c4
  have n5:=Un c5
  have n6:=Un c6
  have n7:=Un c7
  have n8:=Un c8
  have n9:=Un c9
  have n10:=Un c10
  have n11:=Un c11
  have n12:=Un c12
  obtain⟨v,h',c,rfl,hk⟩:∃ v h',Zb 154 [.c (.ptr t 0),.c (.int .i64 z),.g x] h v h'/\v=.w (.c (.int .i64 0))/\∀ j,j<h.next->h'.get j=(((h.put to (.map (Uq (Dn z [] lt)))).put X.ch (.map (Uq (Dn z x lc)))).put X.fr (.map (Uq (Zic z lf)))).get j:=by
   rcases hl:Je z lt with _|y
   ·rw[hl] at bc
    have bc:=of_decide_eq_true bc
    refine Yk Hh Tryz.f154 ?_
    have Jf:=Ja @ht @hto (Yu @hlt @hlc @hlf @hr @hm @bo @hl @xl @Zii)
    repeat (first|apply Z6|apply Yt|apply Yc|refine Goes.Zh Gi ?_|refine Zo Hh (EY (EY Za (Za4 Hh)) (Vi Hh)) Gi ?_|refine F7 Hh (EY (EY Za (Za4 Hh)) (Vi Hh)) Zh1 ?_)
    exact⟨_,_,Zf,rfl,fun j hj=>by exact Np⟩
   ·rw[hl] at bc
    rcases y with _|⟨y0,y⟩
    ·
     refine Yk Hh Tryz.f154 ?_
     have Jf:=Ja @ht @hto (Yu @hlt @hlc @hlf @hr @hm @bo @hl @xl @Zii)
     repeat (first|apply Z6|apply Yt|apply Yc|refine Goes.Zh Gi ?_|refine Zo Hh (EY (EY Za (Za4 Hh)) (Vi Hh)) Gi ?_|refine F7 Hh (EY (EY Za (Za4 Hh)) (Vi Hh)) Zh1 ?_)
     exact⟨_,_,Zf,rfl,fun j hj=>by exact Np⟩
    ·cases bc
  exact c.settle ((((Vt.refl tidy).put l2 (Na (Bu rfl f1))).put l3 (Na (Bu xf f2))).put l4 (Na (Zis f3))) (Zky.flat rfl) hk
 ·cases e
theorem Zkt {args:List W} {h h':Hq} {v:V} (e:Zpo args h=some (v,h')):Zb 135 args h v h':=by
 unfold Zpo at e
 split at e
 ·rename_i t z
  obtain⟨X,ht,e⟩:=Zk e
  have ht:=Yr ht
  obtain⟨l,hl,e⟩:=Zk e
  have hl:=getM_some hl
  obtain⟨b,e⟩:=Zv.1 e
  simp only[aQ,decide_eq_true_eq] at b
  obtain⟨bo,z0⟩:=b
  cases e
  refine fnG Hh Tryz.f135 ?_
  have Jf:=Ja @ht @bo @hl
  repeat (first|apply Z6|apply Yt|apply Yc|refine Goes.Zh Ye ?_|refine Zo Hh (EY Za (Za4 Hh)) Ye ?_)
  exact Zf
 ·cases e
theorem Zvs {args:List W} {h h':Hq} {v:V} (e:Zpm args h=some (v,h')):Zb 200 args h v h':=by
 unfold Zpm at e
 split at e
 ·rename_i t
  obtain⟨X,ht,e⟩:=Zk e
  have ht:=Yr ht
  cases e
  refine fnG Hh Tryz.f200 ?_
  repeat (first|apply Z6|((first|apply Goes.Zh|apply Goes.ops2 fits Hh Za); · simp (maxSteps:=9^6) +decide (disch:=first|exact dZ|fail) only [go_sem,Zn,Zi,simprocAttr,ht,Z36,Zqr,read1,Z0]<;>rfl))
  exact Zf
 ·cases e
theorem Zsp {args:List W} {h h':Hq} {v:V} (e:Z5e args h=some (v,h')):Zb 136 args h v h':=by
 unfold Z5e at e
 split at e
 ·rename_i t
  obtain⟨X,ht,e⟩:=Zk e
  have ht:=Yr ht
  obtain⟨bo,e⟩:=Zv.1 e
  cases e
  refine fnG Hh Tryz.f136 ?_
  have Jf:=Yy @ht @bo
  repeat (first|apply Z6|apply Yt|apply Yc|refine Goes.Zh Ye ?_|refine Zo Hh (EY (EY Za (Zm8 Hh)) (Zvs Hh)) Ye ?_)
  exact Zf
 ·cases e
end
end
end Go.Proofs.YtmanipmhebgdbaaGreatDoor
