/- Transactions: made, handle, askB, Seq, Open, Get, Put, Order, close, End; the revoked blocks, if there are none. -/
import Derived.Test.YteiljiijagmonaaGreatDoorSli
set_option maxRecDepth 100000
set_option linter.unusedSimpArgs false
set_option linter.unusedVariables false
set_option linter.unusedSectionVars false
namespace Go.Proofs.YteiljiijagmonaaGreatDoor
open Go.Ev
noncomputable section
theorem ty4:K.types.get 4=some ti4:=kR
theorem sz4:ti4.size=1:=by rfl
theorem ag4:ti4.agg=false:=by rfl
theorem de4:ti4.desc=.bool:=by rfl
theorem ze4:ti4.zero=(.c (.bool false)):=by rfl
theorem by4:ti4.bytes=1:=by rfl
theorem ty5:K.types.get 5=some ti5:=kR
theorem sz5:ti5.size=1:=by rfl
theorem ag5:ti5.agg=false:=by rfl
theorem de5:ti5.desc=(.int .u8):=by rfl
theorem ze5:ti5.zero=(.c (.int .u8 0)):=by rfl
theorem by5:ti5.bytes=1:=by rfl
theorem ke5 (k:IntKind) (n:Int):Fe K 20 5 (.c (.int k n))=true:=kR
theorem ty31:K.types.get 31=some ti31:=kR
theorem sz31:ti31.size=1:=by rfl
theorem ag31:ti31.agg=false:=by rfl
theorem de31:ti31.desc=(.int .i64):=by rfl
theorem ze31:ti31.zero=(.c (.int .i64 0)):=by rfl
theorem by31:ti31.bytes=8:=by rfl
theorem ke31 (k:IntKind) (n:Int):Fe K 20 31 (.c (.int k n))=true:=kR
theorem ty34:K.types.get 34=some ti34:=kR
theorem sz34:ti34.size=1:=by rfl
theorem ag34:ti34.agg=false:=by rfl
theorem de34:ti34.desc=(.int .u32):=by rfl
theorem ze34:ti34.zero=(.c (.int .u32 0)):=by rfl
theorem by34:ti34.bytes=4:=by rfl
theorem ke34 (k:IntKind) (n:Int):Fe K 20 34 (.c (.int k n))=true:=kR
theorem ty66:K.types.get 66=some ti66:=kR
theorem sz66:ti66.size=256:=by rfl
theorem ag66:ti66.agg=true:=by rfl
theorem de66:ti66.desc=(.array 256 5):=by rfl
theorem ze66:ti66.zero=(.g ((List.replicate 256 (.int .u8 0)))):=by rfl
theorem by66:ti66.bytes=256:=by rfl
theorem eq66 (a b:List C):eqT K 20 66 (.g a) (.g b)=(bif true&&Nat.beq a.length 256&&Nat.beq b.length 256 then Y4 a b else none):=kR
theorem ty73:K.types.get 73=some ti73:=kR
theorem sz73:ti73.size=1:=by rfl
theorem ag73:ti73.agg=false:=by rfl
theorem de73:ti73.desc=(.pointer 148):=by rfl
theorem ze73:ti73.zero=(.c (.pnil)):=by rfl
theorem by73:ti73.bytes=8:=by rfl
theorem ty142:K.types.get 142=some ti142:=kR
theorem sz142:ti142.size=1:=by rfl
theorem ag142:ti142.agg=false:=by rfl
theorem de142:ti142.desc=(.map 3 66):=by rfl
theorem ze142:ti142.zero=(.c (.mnil)):=by rfl
theorem by142:ti142.bytes=8:=by rfl
theorem mp142:Db K 142=some (3,66):=kR
theorem ty143:K.types.get 143=some ti143:=kR
theorem sz143:ti143.size=1:=by rfl
theorem ag143:ti143.agg=false:=by rfl
theorem de143:ti143.desc=(.map 3 166):=by rfl
theorem ze143:ti143.zero=(.c (.mnil)):=by rfl
theorem by143:ti143.bytes=8:=by rfl
theorem mp143:Db K 143=some (3,166):=kR
theorem ty144:K.types.get 144=some ti144:=kR
theorem sz144:ti144.size=1:=by rfl
theorem ag144:ti144.agg=false:=by rfl
theorem de144:ti144.desc=(.pointer 284):=by rfl
theorem ze144:ti144.zero=(.c (.pnil)):=by rfl
theorem by144:ti144.bytes=8:=by rfl
theorem ty146:K.types.get 146=some ti146:=kR
theorem sz146:ti146.size=4:=by rfl
theorem ag146:ti146.agg=true:=by rfl
theorem fo146_0:Zm K 146 0=some (0,ti142):=kR
theorem fo146_1:Zm K 146 1=some (1,ti143):=kR
theorem fo146_2:Zm K 146 2=some (2,ti143):=kR
theorem fo146_3:Zm K 146 3=some (3,ti144):=kR
theorem bu146 (ps:List (Nat × W)):Yg K 146 (some ps)=gW (Z8 K 146 ps ti146.zero.cells):=kR
theorem ze146:ti146.zero=(.g ([.mnil,.mnil,.mnil,.pnil])):=by rfl
theorem by146:ti146.bytes=32:=by rfl
theorem ty148:K.types.get 148=some ti148:=kR
theorem sz148:ti148.size=13:=by rfl
theorem ag148:ti148.agg=true:=by rfl
theorem fo148_0:Zm K 148 0=some (0,ti146):=kR
theorem fo148_1:Zm K 148 1=some (4,ti34):=kR
theorem fo148_2:Zm K 148 2=some (5,ti4):=kR
theorem fo148_3:Zm K 148 3=some (6,ti3):=kR
theorem fo148_4:Zm K 148 4=some (7,ti3):=kR
theorem fo148_5:Zm K 148 5=some (8,ti143):=kR
theorem fo148_6:Zm K 148 6=some (9,ti146):=kR
theorem bu148 (ps:List (Nat × W)):Yg K 148 (some ps)=gW (Z8 K 148 ps ti148.zero.cells):=kR
theorem ze148:ti148.zero=(.g ([.mnil,.mnil,.mnil,.pnil,.int .u32 0,.bool false,.int .i64 0,.int .i64 0,.mnil,.mnil,.mnil,.mnil,.pnil])):=by rfl
theorem by148:ti148.bytes=96:=by rfl
theorem ty166:K.types.get 166=some ti166:=kR
theorem sz166:ti166.size=0:=by rfl
theorem ag166:ti166.agg=true:=by rfl
theorem bu166 (ps:List (Nat × W)):Yg K 166 (some ps)=gW (Z8 K 166 ps ti166.zero.cells):=kR
theorem ze166:ti166.zero=(.g ([])):=by rfl
theorem by166:ti166.bytes=0:=by rfl
theorem ty282:K.types.get 282=some ti282:=kR
theorem sz282:ti282.size=1:=by rfl
theorem ag282:ti282.agg=false:=by rfl
theorem de282:ti282.desc=(.map 286 166):=by rfl
theorem ze282:ti282.zero=(.c (.mnil)):=by rfl
theorem by282:ti282.bytes=8:=by rfl
theorem mp282:Db K 282=some (286,166):=kR
theorem ty284:K.types.get 284=some ti284:=kR
theorem sz284:ti284.size=1:=by rfl
theorem ag284:ti284.agg=true:=by rfl
theorem fo284_0:Zm K 284 0=some (0,ti282):=kR
theorem bu284 (ps:List (Nat × W)):Yg K 284 (some ps)=gW (Z8 K 284 ps ti284.zero.cells):=kR
theorem ze284:ti284.zero=(.g ([.mnil])):=by rfl
theorem by284:ti284.bytes=8:=by rfl
theorem ty286:K.types.get 286=some ti286:=kR
theorem sz286:ti286.size=2:=by rfl
theorem ag286:ti286.agg=true:=by rfl
theorem fo286_0:Zm K 286 0=some (0,ti3):=kR
theorem fo286_1:Zm K 286 1=some (1,ti34):=kR
theorem bu286 (ps:List (Nat × W)):Yg K 286 (some ps)=gW (Z8 K 286 ps ti286.zero.cells):=kR
theorem ze286:ti286.zero=(.g ([.int .i64 0,.int .u32 0])):=by rfl
theorem by286:ti286.bytes=16:=by rfl
attribute [go_sem] ty3 sz3 ag3 de3 ze3 by3 ke3 ty4 sz4 ag4 de4 ze4 by4 ty5 sz5 ag5 de5 ze5 by5 ke5 ty31 sz31 ag31 de31 ze31 by31 ke31 ty34 sz34 ag34 de34 ze34 by34 ke34 ty66 sz66 ag66 de66 ze66 by66 eq66 ty73 sz73 ag73 de73 ze73 by73 ty142 sz142 ag142 de142 ze142 by142 mp142 ty143 sz143 ag143 de143 ze143 by143 mp143 ty144 sz144 ag144 de144 ze144 by144 ty146 sz146 ag146 fo146_0 fo146_1 fo146_2 fo146_3 bu146 ze146 by146 ty148 sz148 ag148 fo148_0 fo148_1 fo148_2 fo148_3 fo148_4 fo148_5 fo148_6 bu148 ze148 by148 ty166 sz166 ag166 bu166 ze166 by166 ty282 sz282 ag282 de282 ze282 by282 mp282 ty284 sz284 ag284 fo284_0 bu284 ze284 by284 ty286 sz286 ag286 fo286_0 fo286_1 bu286 ze286 by286
theorem rs171:Tryz.f171.results.toList=[.tmp 2]:=rfl
theorem rs184:Tryz.f184.results.toList=[.tmp 4]:=rfl
theorem rs186:Tryz.f186.results.toList=[.tmp 6]:=rfl
theorem rs61:Tryz.f61.results.toList=[.tmp 2]:=rfl
theorem rs87:Tryz.f87.results.toList=[.tmp 2]:=rfl
theorem rs86:Tryz.f86.results.toList=[.tmp 4]:=rfl
theorem rs22:Tryz.f22.results.toList=[.tmp 2]:=rfl
theorem rs23:Tryz.f23.results.toList=[.tmp 2]:=rfl
theorem rs119:Tryz.f119.results.toList=[.cell 4 66,.tmp 5]:=rfl
theorem rs136:Tryz.f136.results.toList=[.tmp 6]:=rfl
theorem rs42:Tryz.f42.results.toList=[.tmp 4]:=rfl
theorem rs88:Tryz.f88.results.toList=[]:=rfl
theorem rs43:Tryz.f43.results.toList=[.tmp 2]:=rfl
attribute [go_sem] rs171 rs184 rs186 rs61 rs87 rs86 rs22 rs23 rs119 rs136 rs42 rs88 rs43
structure Tx where
 ch:Nat
 od:Nat
 fr:Nat
 rv:Nat
 sq:Int
 op:Bool
 cr:Int
 rk:Int
 to:C
 b1:C
 b2:C
 b3:C
 b4:C
def txL (X:Tx):List C:=[.map X.ch,.map X.od,.map X.fr,.ptr X.rv 0,.int .u32 X.sq,.bool X.op,.int .i64 X.cr,.int .i64 X.rk,X.to,X.b1,X.b2,X.b3,X.b4]
attribute [go_sem] txL
def Uf (h:Hq) (t:Nat):Option Tx:=match h.get t with
 | some (.row sz [[.map ch,.map od,.map fr,.ptr rv o,.int .u32 sq,.bool op,.int .i64 cr,.int .i64 rk,to,b1,b2,b3,b4]] ro)=>Yt (Nat.beq sz 13&&Nat.beq o 0&&!ro) (some ⟨ch,od,fr,rv,sq,op,cr,rk,to,b1,b2,b3,b4⟩)
 | _=>none
theorem Yk {h:Hq} {t:Nat} {X:Tx} (e:Uf h t=some X):h.get t=some (.row 13 [txL X] false):=by
 unfold Uf at e
 split at e
 ·rename_i heq
  obtain⟨b,e⟩:=Zq.1 e
  cases e
  simp only[aQ,Bool.not_eq_true'] at b
  obtain⟨⟨b1,b2⟩,rfl⟩:=b
  obtain rfl:=bQ b1
  obtain rfl:=bQ b2
  exact heq
 ·cases e
def Ee (h:Hq) (r:Nat):Option Nat:=match h.get r with
 | some (.row sz [[.map m]] ro)=>Yt (Nat.beq sz 1&&!ro) (some m)
 | _=>none
theorem Jk {h:Hq} {r m:Nat} (e:Ee h r=some m):h.get r=some (.row 1 [[.map m]] false):=by
 unfold Ee at e
 split at e
 ·rename_i heq
  obtain⟨b,e⟩:=Zq.1 e
  cases e
  simp only[aQ,Bool.not_eq_true'] at b
  obtain⟨b1,rfl⟩:=b
  obtain rfl:=bQ b1
  exact heq
 ·cases e
def Om (h:Hq) (m:Nat):Bool:=match h.get m with
 | some (.map [])=>true
 | _=>false
theorem Yz {h:Hq} {m:Nat} (e:Om h m=true):h.get m=some (.map []):=by
 unfold Om at e
 split at e
 ·assumption
 ·cases e
def toN:C->Option Nat
 | .map m=>some m
 | _=>none
theorem Zij {c:C} {m:Nat} (e:toN c=some m):c=.map m:=by
 cases c<;>first|(cases e; rfl)|cases e
theorem Z44 (m:Nat):toN (.map m)=some m:=rfl
theorem Z6u (kt:TypeId) (k:W):Zje K kt k []=some []:=rfl
def Zta:Kn1:=fun args h=>match args with
 | [.c (.ptr r 0)]=>(Ee h r).bind fun _=>some (.w (.c (.bool true)),h)
 | _=>none
def Z1p:Kn1:=fun args h=>match args with
 | [.c (.ptr r 0),.c (.int .i64 z)]=>(Ee h r).bind fun _=>Yt (decide (0<=z)) (some (.w (.c (.int .i64 0)),h))
 | _=>none
def Zi1:Kn1:=fun args h=>match args with
 | [.c (.ptr r 0),.c (.int .i64 z),.c (.int .u32 _)]=>(Ee h r).bind fun m=>Yt (decide (0<=z)&&Om h m) (some (.w (.c (.int .i64 0)),h))
 | _=>none
def Zto:Kn1:=fun args h=>match args with
 | [.c (.ptr t 0)]=>(Uf h t).bind fun _=>some (.w (.c (.bool true)),h)
 | _=>none
def Ztn:Kn1:=fun args h=>match args with
 | [.c (.ptr t 0)]=>(Uf h t).bind fun X=>Yt X.op (some (.w (.c (.int .i64 0)),h))
 | _=>none
def Z16:Kn1:=fun args h=>match args with
 | [.c (.ptr t 0),.c (.int .i64 z)]=>(Uf h t).bind fun X=>Yt (X.op&&decide (0<=z)) (some (.w (.c (.int .i64 0)),h))
 | _=>none
def Z2a:Kn1:=fun args h=>match args with
 | [.c (.ptr t 0)]=>(Uf h t).bind fun X=>some (.w (.c (.int .u32 X.sq)),h)
 | _=>none
def Ztp:Kn1:=fun args h=>match args with
 | [.c (.ptr t 0)]=>(Uf h t).bind fun X=>some (.w (.c (.bool X.op)),h)
 | _=>none
def Z18:Kn1:=fun args h=>match args with
 | [.c (.ptr t 0),.c (.int .i64 z)]=>(Uf h t).bind fun X=>(getM h X.ch).bind fun l=>match Ym z l with
  | some y=>Yt (Nat.beq y.length 256&&y.all C.flat) (some (.tup [.g y,.c (.bool true)],h))
  | none=>some (.tup [.g (List.replicate 256 (.int .u8 0)),.c (.bool false)],h)
 | _=>none
def Zi6:Kn1:=fun args h=>match args with
 | [.c (.ptr t 0),.c (.int .i64 z),.g x]=>(Uf h t).bind fun X=>(toN X.to).bind fun to=>(getM h to).bind fun lt=>(getM h X.ch).bind fun lc=>(getM h X.fr).bind fun lf=>(Ee h X.rv).bind fun m =>
  Yt (X.op&&decide (0<=z)&&Om h m&&(match Ym z lt with|none=>decide ((lt.length:Int)<X.cr)|some []=>true|some (_ :: _)=>false)&&Nat.beq x.length 256&&x.all C.flat&&Ou lt&&Ou lc&&Ou lf&&!(Nat.beq to X.ch)&&!(Nat.beq to X.fr)&&!(Nat.beq X.ch X.fr)&&!(Nat.beq to m)&&!(Nat.beq X.ch m)&&!(Nat.beq X.fr m)&&!(Nat.beq to t)&&!(Nat.beq X.ch t)&&!(Nat.beq X.fr t)&&!(Nat.beq to X.rv)&&!(Nat.beq X.ch X.rv)&&!(Nat.beq X.fr X.rv))
   (some (.w (.c (.int .i64 0)),((h.put to (.map (Y5 (Ol z [] lt)))).put X.ch (.map (Y5 (Ol z x lc)))).put X.fr (.map (Y5 (Dw z lf)))))
 | _=>none
def Znv:Kn1:=fun args h=>match args with
 | [.c (.ptr t 0),.c (.int .i64 z)]=>(Uf h t).bind fun X=>(getM h X.od).bind fun l=>Yt (X.op&&decide (0<=z)) (some (.w (.c (.int .i64 0)),h.put X.od (.map (Y5 (Ol z [] l)))))
 | _=>none
def Z01 (X:Tx):Tx:={ X with op:=false,cr:=0,rk:=0,to:=.mnil,b1:=.mnil,b2:=.mnil,b3:=.mnil,b4:=.pnil }
def Zl9 (h:Hq) (t:Nat) (X:Tx):Hq:=((((h.put t (.row 13 [txL { X with op:=false }] false)).put t (.row 13 [txL { X with op:=false,cr:=0 }] false)).put t (.row 13 [txL { X with op:=false,cr:=0,rk:=0 }] false)).put t (.row 13 [txL { X with op:=false,cr:=0,rk:=0,to:=.mnil }] false)).put t (.row 13 [txL (Z01 X)] false)
theorem U5 (h:Hq) (t:Nat) (X:Tx) (m:Nat):(Zl9 h t X).get m=if m=t then some (.row 13 [txL (Z01 X)] false) else h.get m:=by
 unfold Zl9
 simp only[H.get_put]
 split<;>rfl
theorem Zkb (h:Hq) (t:Nat) (X:Tx):(Zl9 h t X).next=h.next:=rfl
def Znt:Kn1:=fun args h=>match args with
 | [.c (.ptr t 0)]=>(Uf h t).bind fun X=>some (.tup [],Zl9 h t X)
 | _=>none
def Z17:Kn1:=fun args h=>match args with
 | [.c (.ptr t 0)]=>(Uf h t).bind fun X=>Yt X.op (some (.w (.c (.int .i64 0)),Zl9 h t X))
 | _=>none
attribute [go_sem] Uf Ee Om Z44 Z6u Zta Z1p Zi1 Zto Ztn Z16 Z2a Ztp Z18 Zi6 Znv Znt Z17
theorem Z9q (a s:Int):Fe K 20 286 (.g [.int .i64 a,.int .u32 s])=true:=kR
attribute [go_sem] Z9q
section
variable (Hh:Hearts K Tryz.prog)
include Hh
theorem Zlh {args:List W} {h h':Hq} {v:V} (e:Zta args h=some (v,h')):Zi 171 args h v h':=by
 unfold Zta at e
 split at e
 ·rename_i r
  obtain⟨m,hr,e⟩:=Zj e
  have hr:=Jk hr
  cases e
  refine fnG Hh Tryz.f171 ?_
  have Jf:=@hr
  repeat (first|apply Zu|apply Yc|refine Zr Hh Za Z6 ?_)
  exact Zf
 ·cases e
theorem Zi0 {args:List W} {h h':Hq} {v:V} (e:Z1p args h=some (v,h')):Zi 184 args h v h':=by
 unfold Z1p at e
 split at e
 ·rename_i r z
  obtain⟨m,hr,e⟩:=Zj e
  have hr:=Jk hr
  obtain⟨b,e⟩:=Zq.1 e
  have z0:=of_decide_eq_true b
  cases e
  refine fnG Hh Tryz.f184 ?_
  have Jf:=@hr
  repeat (first|apply Zu|apply Jc|apply Ye|apply Yc|refine Goes.Zl Z6 ?_|refine Zr Hh (EY Za (Zlh Hh)) Z6 ?_)
  exact Zf
 ·cases e
theorem Sj {args:List W} {h h':Hq} {v:V} (e:Zi1 args h=some (v,h')):Zi 186 args h v h':=by
 unfold Zi1 at e
 split at e
 ·rename_i r z s
  obtain⟨m,hr,e⟩:=Zj e
  have hr:=Jk hr
  obtain⟨b,e⟩:=Zq.1 e
  simp only[aQ,decide_eq_true_eq] at b
  obtain⟨z0,b⟩:=b
  have hm:=Yz b
  cases e
  obtain⟨v,h',c,rfl,hk⟩:∃ v h',Zi 186 [.c (.ptr r 0),.c (.int .i64 z),.c (.int .u32 s)] h v h'/\v=.w (.c (.int .i64 0))/\∀ j,j<h.next->h'.get j=h.get j:=by
   refine Y0 Hh Tryz.f186 ?_
   repeat (first|apply Zu|apply Ye|apply Yc|((first|apply Goes.Zl|apply Goes.ops2 fits Hh (EY Za (Zi0 Hh))); · simp (maxSteps:=9^6) +decide (disch:=first|exact dZ|fail) only [go_sem,Zk,Zh,simprocAttr,hr,hm,read1,Zt,Oy,Eg]<;>rfl))
   exact⟨_,_,(by have Jf:=Jl @hr @hm; exact Zn),rfl,fun j _=>by rw[H.get_put]; split<;>first|(rename_i ej; rw[ej,hm])|rfl⟩
  exact c.quiet rfl hk
 ·cases e
theorem Uj {args:List W} {h h':Hq} {v:V} (e:Zto args h=some (v,h')):Zi 61 args h v h':=by
 unfold Zto at e
 split at e
 ·rename_i t
  obtain⟨X,ht,e⟩:=Zj e
  have ht:=Yk ht
  cases e
  refine fnG Hh Tryz.f61 ?_
  have Jf:=@ht
  repeat (first|apply Zu|apply Yc|refine Zr Hh Za Z6 ?_)
  exact Zf
 ·cases e
theorem Zlm {args:List W} {h h':Hq} {v:V} (e:Ztn args h=some (v,h')):Zi 87 args h v h':=by
 unfold Ztn at e
 split at e
 ·rename_i t
  obtain⟨X,ht,e⟩:=Zj e
  have ht:=Yk ht
  obtain⟨bo,e⟩:=Zq.1 e
  cases e
  refine fnG Hh Tryz.f87 ?_
  have Jf:=Jl @ht @bo
  repeat (first|apply Zu|apply Jc|apply Ye|apply Yc|refine Goes.Zl Z6 ?_|refine Zr Hh (EY Za (Uj Hh)) Z6 ?_)
  exact Zf
 ·cases e
theorem G8 {args:List W} {h h':Hq} {v:V} (e:Z16 args h=some (v,h')):Zi 86 args h v h':=by
 unfold Z16 at e
 split at e
 ·rename_i t z
  obtain⟨X,ht,e⟩:=Zj e
  have ht:=Yk ht
  obtain⟨b,e⟩:=Zq.1 e
  simp only[aQ,decide_eq_true_eq] at b
  obtain⟨bo,z0⟩:=b
  cases e
  refine fnG Hh Tryz.f86 ?_
  have Jf:=Jl @ht @bo
  repeat (first|apply Zu|apply Ye|apply Yc|refine Goes.Zl Z6 ?_|refine Zr Hh (EY Za (Zlm Hh)) Z6 ?_)
  exact Zf
 ·cases e
theorem Zqs {args:List W} {h h':Hq} {v:V} (e:Z2a args h=some (v,h')):Zi 22 args h v h':=by
 unfold Z2a at e
 split at e
 ·rename_i t
  obtain⟨X,ht,e⟩:=Zj e
  have ht:=Yk ht
  cases e
  refine fnG Hh Tryz.f22 ?_
  have Jf:=@ht
  repeat (first|apply Zu|apply Ye|apply Yc|refine Goes.Zl Z6 ?_|refine Zr Hh (EY Za (Uj Hh)) Z6 ?_)
  exact Zf
 ·cases e
theorem Za8 {args:List W} {h h':Hq} {v:V} (e:Ztp args h=some (v,h')):Zi 23 args h v h':=by
 unfold Ztp at e
 split at e
 ·rename_i t
  obtain⟨X,ht,e⟩:=Zj e
  have ht:=Yk ht
  cases e
  refine fnG Hh Tryz.f23 ?_
  have Jf:=@ht
  repeat (first|apply Zu|apply Yc|refine Zr Hh (EY Za (Uj Hh)) Z6 ?_)
  exact Zf
 ·cases e
theorem M5 {args:List W} {h h':Hq} {v:V} (e:Z18 args h=some (v,h')):Zi 119 args h v h':=by
 unfold Z18 at e
 split at e
 ·rename_i t z
  obtain⟨X,ht,e⟩:=Zj e
  have ht:=Yk ht
  obtain⟨l,hm,e⟩:=Zj e
  have hm:=getM_some hm
  refine Zy.tidy ⟨Tryz.f119,Tryz.func119,kR,by decide⟩ fun tidy=>?_
  have lt:=tidy _ _ ht
  have lm:=tidy _ _ hm
  split at e
  ·rename_i y hl
   obtain⟨b,e⟩:=Zq.1 e
   rw[aQ] at b
   have yl:=bQ b.1
   have yf:=b.2
   cases e
   obtain⟨v,h',c,rfl,hk⟩:∃ v h',Zi 119 [.c (.ptr t 0),.c (.int .i64 z)] h v h'/\v=.tup [.g y,.c (.bool true)]/\∀ m,m<h.next->h'.get m=h.get m:=by
    refine Y0 Hh Tryz.f119 ?_
    have Jf:=Ju @ht @hm @hl
    repeat (first|apply Zu|apply Ye|apply Yc|refine Goes.Zl O3 ?_|refine Zr Hh (EY Za (Uj Hh)) O3 ?_)
    exact⟨_,_,(by have Jf:=Ju @ht @hm @hl; exact Z0),rfl,fun m hm=>by exact Jg⟩
   refine c.quiet ?_ hk
   show (y.all C.flat&&true)=true
   rw[yf]; rfl
  ·rename_i hl
   cases e
   obtain⟨v,h',c,rfl,hk⟩:∃ v h',Zi 119 [.c (.ptr t 0),.c (.int .i64 z)] h v h'/\v=.tup [.g (List.replicate 256 (.int .u8 0)),.c (.bool false)]/\∀ m,m<h.next->h'.get m=h.get m:=by
    refine Y0 Hh Tryz.f119 ?_
    have Jf:=Ju @ht @hm @hl
    repeat (first|apply Zu|apply Ye|apply Yc|refine Goes.Zl O3 ?_|refine Zr Hh (EY Za (Uj Hh)) O3 ?_)
    exact⟨_,_,(by have Jf:=Ju @ht @hm @hl; exact Z0),rfl,fun m hm=>by exact Jg⟩
   exact c.quiet kR hk
 ·cases e
end
theorem Y3 {a b:Nat} (h:Nat.beq a b=false):a≠b:=fun e=>by rw[e,Nat.beq_refl] at h; cases h
theorem Z36 (m:Nat):Yx K 143 (.c (.map m))=true:=kR
attribute [go_sem] Z36
section
variable (Hh:Hearts K Tryz.prog)
include Hh
set_option maxHeartbeats 1000000 in
theorem Zdw {args:List W} {h h':Hq} {v:V} (e:Zi6 args h=some (v,h')):Zi 136 args h v h':=by
 unfold Zi6 at e
 split at e
 ·rename_i t z x
  obtain⟨X,ht,e⟩:=Zj e
  have ht:=Yk ht
  obtain⟨to,hto,e⟩:=Zj e
  have hto:=Zij hto
  obtain⟨lt,hlt,e⟩:=Zj e
  have hlt:=getM_some hlt
  obtain⟨lc,hlc,e⟩:=Zj e
  have hlc:=getM_some hlc
  obtain⟨lf,hlf,e⟩:=Zj e
  have hlf:=getM_some hlf
  obtain⟨m,hr,e⟩:=Zj e
  have hrv:=hr
  have hr:=Jk hr
  obtain⟨b,e⟩:=Zq.1 e
  cases e
  refine Zy.tidy ⟨Tryz.f136,Tryz.func136,kR,by decide⟩ fun tidy=>?_
  have l1:=tidy _ _ ht
  have l2:=tidy _ _ hlt
  have l3:=tidy _ _ hlc
  have l4:=tidy _ _ hlf
  have l5:=tidy _ _ hr
  simp only[aQ,decide_eq_true_eq,Bool.not_eq_true'] at b
  obtain⟨⟨⟨⟨⟨⟨⟨⟨⟨⟨⟨⟨⟨⟨⟨⟨⟨⟨⟨⟨bo,z0⟩,bm⟩,bc⟩,bx⟩,xf⟩,f1⟩,f2⟩,f3⟩,c1⟩,c2⟩,c3⟩,c4⟩,c5⟩,c6⟩,c7⟩,c8⟩,c9⟩,c10⟩,c11⟩,c12⟩:=b
  have hm:=Yz bm
  have l6:=tidy _ _ hm
  have xl:=bQ bx
  have n1:=Y3 c1
  have n2:=Y3 c2
  have n3:=Y3 c3
  have n4:=Y3 c4
  have n5:=Y3 c5
  have n6:=Y3 c6
  have n7:=Y3 c7
  have n8:=Y3 c8
  have n9:=Y3 c9
  have n10:=Y3 c10
  have n11:=Y3 c11
  have n12:=Y3 c12
  obtain⟨v,h',c,rfl,hk⟩:∃ v h',Zi 136 [.c (.ptr t 0),.c (.int .i64 z),.g x] h v h'/\v=.w (.c (.int .i64 0))/\∀ j,j<h.next->h'.get j=(((h.put to (.map (Y5 (Ol z [] lt)))).put X.ch (.map (Y5 (Ol z x lc)))).put X.fr (.map (Y5 (Dw z lf)))).get j:=by
   rcases hl:Ym z lt with _|y
   ·rw[hl] at bc
    have bc:=of_decide_eq_true bc
    refine Y0 Hh Tryz.f136 ?_
    have Jf:=Ju @ht @hto (Yw @hlt @hlc @hlf @hr @hm @bo @hl @xl @Qf)
    repeat (first|apply Zu|apply Ye|apply Yc|refine Goes.Zl Uq ?_|refine Zr Hh (EY (EY Za (G8 Hh)) (Sj Hh)) Uq ?_|refine G6 Hh (EY (EY Za (G8 Hh)) (Sj Hh)) Wt ?_)
    exact⟨_,_,Zf,rfl,fun j hj=>by exact Le⟩
   ·rw[hl] at bc
    rcases y with _|⟨y0,y⟩
    ·
     refine Y0 Hh Tryz.f136 ?_
     have Jf:=Ju @ht @hto (Yw @hlt @hlc @hlf @hr @hm @bo @hl @xl @Qf)
     repeat (first|apply Zu|apply Ye|apply Yc|refine Goes.Zl Uq ?_|refine Zr Hh (EY (EY Za (G8 Hh)) (Sj Hh)) Uq ?_|refine G6 Hh (EY (EY Za (G8 Hh)) (Sj Hh)) Wt ?_)
     exact⟨_,_,Zf,rfl,fun j hj=>by exact Le⟩
    ·cases bc
  exact c.settle ((((Ru.refl tidy).put l2 (D7 (Og rfl f1))).put l3 (D7 (Og xf f2))).put l4 (D7 (Tj f3))) (Zgd.flat rfl) hk
 ·cases e
theorem Zi5 {args:List W} {h h':Hq} {v:V} (e:Znv args h=some (v,h')):Zi 42 args h v h':=by
 unfold Znv at e
 split at e
 ·rename_i t z
  obtain⟨X,ht,e⟩:=Zj e
  have ht:=Yk ht
  obtain⟨l,hl,e⟩:=Zj e
  have hl:=getM_some hl
  obtain⟨b,e⟩:=Zq.1 e
  simp only[aQ,decide_eq_true_eq] at b
  obtain⟨bo,z0⟩:=b
  cases e
  refine fnG Hh Tryz.f42 ?_
  have Jf:=Ju @ht @bo @hl
  repeat (first|apply Zu|apply Ye|apply Yc|refine Goes.Zl Z6 ?_|refine Zr Hh (EY Za (G8 Hh)) Z6 ?_)
  exact Zf
 ·cases e
theorem Ztl {args:List W} {h h':Hq} {v:V} (e:Znt args h=some (v,h')):Zi 88 args h v h':=by
 unfold Znt at e
 split at e
 ·rename_i t
  obtain⟨X,ht,e⟩:=Zj e
  have ht:=Yk ht
  cases e
  refine fnG Hh Tryz.f88 ?_
  repeat (first|apply Zu|((first|apply Goes.Zl|apply Goes.ops2 fits Hh Za); · simp (maxSteps:=9^6) +decide (disch:=first|exact dZ|fail) only [go_sem,Zk,Zh,simprocAttr,ht,Z01,Zl9,read1,Z5]<;>rfl))
  exact Zf
 ·cases e
theorem Zdv {args:List W} {h h':Hq} {v:V} (e:Z17 args h=some (v,h')):Zi 43 args h v h':=by
 unfold Z17 at e
 split at e
 ·rename_i t
  obtain⟨X,ht,e⟩:=Zj e
  have ht:=Yk ht
  obtain⟨bo,e⟩:=Zq.1 e
  cases e
  refine fnG Hh Tryz.f43 ?_
  have Jf:=Jl @ht @bo
  repeat (first|apply Zu|apply Ye|apply Yc|refine Goes.Zl Z6 ?_|refine Zr Hh (EY (EY Za (Zlm Hh)) (Ztl Hh)) Z6 ?_)
  exact Zf
 ·cases e
end
end
end Go.Proofs.YteiljiijagmonaaGreatDoor
