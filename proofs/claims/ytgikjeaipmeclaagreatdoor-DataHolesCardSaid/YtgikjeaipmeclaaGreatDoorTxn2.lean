/- Transactions: made, handle, askB, Seq, Open, Get, Put, Order, close, End; the revoked blocks, if there are none. -/
import Derived.Test.YtgikjeaipmeclaaGreatDoorSli
import Derived.Test.YtgikjeaipmeclaaGreatDoorEvC
set_option linter.unusedSimpArgs false
set_option linter.unusedVariables false
set_option linter.unusedSectionVars false
set_option maxRecDepth 100000
namespace Go.Proofs.YtgikjeaipmeclaaGreatDoor
open Go.Ev
theorem ty3:K.types.get 3=some ti3:=by kernel_rfl
theorem sz3:ti3.size=1:=by rfl
theorem ag3:ti3.agg=false:=by rfl
theorem de3:ti3.desc=(.int .i64):=by rfl
theorem ze3:ti3.zero=(.c (.int .i64 0)):=by rfl
theorem by3:ti3.bytes=8:=by rfl
theorem ke3 (k:IntKind) (n:Int):Dj K 20 3 (.c (.int k n))=true:=by kernel_rfl
theorem ty4:K.types.get 4=some ti4:=by kernel_rfl
theorem sz4:ti4.size=1:=by rfl
theorem ag4:ti4.agg=false:=by rfl
theorem de4:ti4.desc=.bool:=by rfl
theorem ze4:ti4.zero=(.c (.bool false)):=by rfl
theorem by4:ti4.bytes=1:=by rfl
theorem ty5:K.types.get 5=some ti5:=by kernel_rfl
theorem sz5:ti5.size=1:=by rfl
theorem ag5:ti5.agg=false:=by rfl
theorem de5:ti5.desc=(.int .u8):=by rfl
theorem ze5:ti5.zero=(.c (.int .u8 0)):=by rfl
theorem by5:ti5.bytes=1:=by rfl
theorem ke5 (k:IntKind) (n:Int):Dj K 20 5 (.c (.int k n))=true:=by kernel_rfl
theorem ty34:K.types.get 34=some ti34:=by kernel_rfl
theorem sz34:ti34.size=1:=by rfl
theorem ag34:ti34.agg=false:=by rfl
theorem de34:ti34.desc=(.int .u32):=by rfl
theorem ze34:ti34.zero=(.c (.int .u32 0)):=by rfl
theorem by34:ti34.bytes=4:=by rfl
theorem ke34 (k:IntKind) (n:Int):Dj K 20 34 (.c (.int k n))=true:=by kernel_rfl
theorem ty38:K.types.get 38=some ti38:=by kernel_rfl
theorem sz38:ti38.size=1:=by rfl
theorem ag38:ti38.agg=false:=by rfl
theorem de38:ti38.desc=(.int .i64):=by rfl
theorem ze38:ti38.zero=(.c (.int .i64 0)):=by rfl
theorem by38:ti38.bytes=8:=by rfl
theorem ke38 (k:IntKind) (n:Int):Dj K 20 38 (.c (.int k n))=true:=by kernel_rfl
theorem ty71:K.types.get 71=some ti71:=by kernel_rfl
theorem sz71:ti71.size=256:=by rfl
theorem ag71:ti71.agg=true:=by rfl
theorem de71:ti71.desc=(.array 256 5):=by rfl
theorem ze71:ti71.zero=(.g ((List.replicate 256 (.int .u8 0)))):=by rfl
theorem by71:ti71.bytes=256:=by rfl
theorem eq71 (a b:List C):eqT K 20 71 (.g a) (.g b)=(bif true&&Nat.beq a.length 256&&Nat.beq b.length 256 then Yz a b else none):=by kernel_rfl
theorem ty90:K.types.get 90=some ti90:=by kernel_rfl
theorem sz90:ti90.size=1:=by rfl
theorem ag90:ti90.agg=false:=by rfl
theorem de90:ti90.desc=(.pointer 180):=by rfl
theorem ze90:ti90.zero=(.c (.pnil)):=by rfl
theorem by90:ti90.bytes=8:=by rfl
theorem ty174:K.types.get 174=some ti174:=by kernel_rfl
theorem sz174:ti174.size=1:=by rfl
theorem ag174:ti174.agg=false:=by rfl
theorem de174:ti174.desc=(.map 3 71):=by rfl
theorem ze174:ti174.zero=(.c (.mnil)):=by rfl
theorem by174:ti174.bytes=8:=by rfl
theorem mp174:Gw K 174=some (3,71):=by kernel_rfl
theorem ty175:K.types.get 175=some ti175:=by kernel_rfl
theorem sz175:ti175.size=1:=by rfl
theorem ag175:ti175.agg=false:=by rfl
theorem de175:ti175.desc=(.map 3 230):=by rfl
theorem ze175:ti175.zero=(.c (.mnil)):=by rfl
theorem by175:ti175.bytes=8:=by rfl
theorem mp175:Gw K 175=some (3,230):=by kernel_rfl
theorem ty176:K.types.get 176=some ti176:=by kernel_rfl
theorem sz176:ti176.size=1:=by rfl
theorem ag176:ti176.agg=false:=by rfl
theorem de176:ti176.desc=(.pointer 255):=by rfl
theorem ze176:ti176.zero=(.c (.pnil)):=by rfl
theorem by176:ti176.bytes=8:=by rfl
theorem ty178:K.types.get 178=some ti178:=by kernel_rfl
theorem sz178:ti178.size=4:=by rfl
theorem ag178:ti178.agg=true:=by rfl
theorem fo178_0:Zn K 178 0=some (0,ti174):=by kernel_rfl
theorem fo178_1:Zn K 178 1=some (1,ti175):=by kernel_rfl
theorem fo178_2:Zn K 178 2=some (2,ti175):=by kernel_rfl
theorem fo178_3:Zn K 178 3=some (3,ti176):=by kernel_rfl
theorem bu178 (ps:List (Nat × W)):Yc K 178 (some ps)=gW (Z9 K 178 ps ti178.zero.cells):=by kernel_rfl
theorem ze178:ti178.zero=(.g ([.mnil,.mnil,.mnil,.pnil])):=by rfl
theorem by178:ti178.bytes=32:=by rfl
theorem ty180:K.types.get 180=some ti180:=by kernel_rfl
theorem sz180:ti180.size=13:=by rfl
theorem ag180:ti180.agg=true:=by rfl
theorem fo180_0:Zn K 180 0=some (0,ti178):=by kernel_rfl
theorem fo180_1:Zn K 180 1=some (4,ti34):=by kernel_rfl
theorem fo180_2:Zn K 180 2=some (5,ti4):=by kernel_rfl
theorem fo180_3:Zn K 180 3=some (6,ti3):=by kernel_rfl
theorem fo180_4:Zn K 180 4=some (7,ti3):=by kernel_rfl
theorem fo180_5:Zn K 180 5=some (8,ti175):=by kernel_rfl
theorem fo180_6:Zn K 180 6=some (9,ti178):=by kernel_rfl
theorem bu180 (ps:List (Nat × W)):Yc K 180 (some ps)=gW (Z9 K 180 ps ti180.zero.cells):=by kernel_rfl
theorem ze180:ti180.zero=(.g ([.mnil,.mnil,.mnil,.pnil,.int .u32 0,.bool false,.int .i64 0,.int .i64 0,.mnil,.mnil,.mnil,.mnil,.pnil])):=by rfl
theorem by180:ti180.bytes=96:=by rfl
theorem ty230:K.types.get 230=some ti230:=by kernel_rfl
theorem sz230:ti230.size=0:=by rfl
theorem ag230:ti230.agg=true:=by rfl
theorem bu230 (ps:List (Nat × W)):Yc K 230 (some ps)=gW (Z9 K 230 ps ti230.zero.cells):=by kernel_rfl
theorem ze230:ti230.zero=(.g ([])):=by rfl
theorem by230:ti230.bytes=0:=by rfl
theorem ty253:K.types.get 253=some ti253:=by kernel_rfl
theorem sz253:ti253.size=1:=by rfl
theorem ag253:ti253.agg=false:=by rfl
theorem de253:ti253.desc=(.map 257 230):=by rfl
theorem ze253:ti253.zero=(.c (.mnil)):=by rfl
theorem by253:ti253.bytes=8:=by rfl
theorem mp253:Gw K 253=some (257,230):=by kernel_rfl
theorem ty255:K.types.get 255=some ti255:=by kernel_rfl
theorem sz255:ti255.size=1:=by rfl
theorem ag255:ti255.agg=true:=by rfl
theorem fo255_0:Zn K 255 0=some (0,ti253):=by kernel_rfl
theorem bu255 (ps:List (Nat × W)):Yc K 255 (some ps)=gW (Z9 K 255 ps ti255.zero.cells):=by kernel_rfl
theorem ze255:ti255.zero=(.g ([.mnil])):=by rfl
theorem by255:ti255.bytes=8:=by rfl
theorem ty257:K.types.get 257=some ti257:=by kernel_rfl
theorem sz257:ti257.size=2:=by rfl
theorem ag257:ti257.agg=true:=by rfl
theorem fo257_0:Zn K 257 0=some (0,ti3):=by kernel_rfl
theorem fo257_1:Zn K 257 1=some (1,ti34):=by kernel_rfl
theorem bu257 (ps:List (Nat × W)):Yc K 257 (some ps)=gW (Z9 K 257 ps ti257.zero.cells):=by kernel_rfl
theorem ze257:ti257.zero=(.g ([.int .i64 0,.int .u32 0])):=by rfl
theorem by257:ti257.bytes=16:=by rfl
attribute [go_sem] ty3 sz3 ag3 de3 ze3 by3 ke3 ty4 sz4 ag4 de4 ze4 by4 ty5 sz5 ag5 de5 ze5 by5 ke5 ty34 sz34 ag34 de34 ze34 by34 ke34 ty38 sz38 ag38 de38 ze38 by38 ke38 ty71 sz71 ag71 de71 ze71 by71 eq71 ty90 sz90 ag90 de90 ze90 by90 ty174 sz174 ag174 de174 ze174 by174 mp174 ty175 sz175 ag175 de175 ze175 by175 mp175 ty176 sz176 ag176 de176 ze176 by176 ty178 sz178 ag178 fo178_0 fo178_1 fo178_2 fo178_3 bu178 ze178 by178 ty180 sz180 ag180 fo180_0 fo180_1 fo180_2 fo180_3 fo180_4 fo180_5 fo180_6 bu180 ze180 by180 ty230 sz230 ag230 bu230 ze230 by230 ty253 sz253 ag253 de253 ze253 by253 mp253 ty255 sz255 ag255 fo255_0 bu255 ze255 by255 ty257 sz257 ag257 fo257_0 fo257_1 bu257 ze257 by257
theorem rs126:Tryz.f126.results.toList=[.tmp 2]:=rfl
theorem rs142:Tryz.f142.results.toList=[.tmp 4]:=rfl
theorem rs114:Tryz.f114.results.toList=[.tmp 6]:=rfl
theorem rs66:Tryz.f66.results.toList=[.tmp 2]:=rfl
theorem rs154:Tryz.f154.results.toList=[.tmp 2]:=rfl
theorem rs113:Tryz.f113.results.toList=[.tmp 4]:=rfl
theorem rs28:Tryz.f28.results.toList=[.tmp 2]:=rfl
theorem rs29:Tryz.f29.results.toList=[.tmp 2]:=rfl
theorem rs85:Tryz.f85.results.toList=[.cell 4 71,.tmp 5]:=rfl
theorem rs79:Tryz.f79.results.toList=[.tmp 6]:=rfl
attribute [go_sem] rs126 rs142 rs114 rs66 rs154 rs113 rs28 rs29 rs85 rs79
structure Tx where
 ch:Nat
 od:Nat
 fr:Nat
 rv:Nat
 sq:Int
 op:Bool
 cr:Int
 rk:Int
 to:C
 b1:C
 b2:C
 b3:C
 b4:C
def txL (X:Tx):List C:=[.map X.ch,.map X.od,.map X.fr,.ptr X.rv 0,.int .u32 X.sq,.bool X.op,.int .i64 X.cr,.int .i64 X.rk,X.to,X.b1,X.b2,X.b3,X.b4]
attribute [go_sem] txL
noncomputable def Uo (h:Go.Ev.H) (t:Nat):Option Tx:=match h.get t with
 | some (.row sz [[.map ch,.map od,.map fr,.ptr rv o,.int .u32 sq,.bool op,.int .i64 cr,.int .i64 rk,to,b1,b2,b3,b4]] ro)=>Yr (Nat.beq sz 13&&Nat.beq o 0&&!ro) (some ⟨ch,od,fr,rv,sq,op,cr,rk,to,b1,b2,b3,b4⟩)
 | _=>none
theorem Ym {h:Go.Ev.H} {t:Nat} {X:Tx} (e:Uo h t=some X):h.get t=some (.row 13 [txL X] false):=by
 unfold Uo at e
 split at e
 ·rename_i heq
  obtain⟨b,e⟩:=Zq.1 e
  cases e
  simp only[Bool.and_eq_true,Bool.not_eq_true'] at b
  obtain⟨⟨b1,b2⟩,rfl⟩:=b
  obtain rfl:=Nat.eq_of_beq_eq_true b1
  obtain rfl:=Nat.eq_of_beq_eq_true b2
  exact heq
 ·cases e
noncomputable def N8 (h:Go.Ev.H) (r:Nat):Option Nat:=match h.get r with
 | some (.row sz [[.map m]] ro)=>Yr (Nat.beq sz 1&&!ro) (some m)
 | _=>none
theorem Uv {h:Go.Ev.H} {r m:Nat} (e:N8 h r=some m):h.get r=some (.row 1 [[.map m]] false):=by
 unfold N8 at e
 split at e
 ·rename_i heq
  obtain⟨b,e⟩:=Zq.1 e
  cases e
  simp only[Bool.and_eq_true,Bool.not_eq_true'] at b
  obtain⟨b1,rfl⟩:=b
  obtain rfl:=Nat.eq_of_beq_eq_true b1
  exact heq
 ·cases e
noncomputable def Ga (h:Go.Ev.H) (m:Nat):Bool:=match h.get m with
 | some (.map [])=>true
 | _=>false
theorem Yt {h:Go.Ev.H} {m:Nat} (e:Ga h m=true):h.get m=some (.map []):=by
 unfold Ga at e
 split at e
 ·assumption
 ·cases e
def toN:C→Option Nat
 | .map m=>some m
 | _=>none
theorem Zky {c:C} {m:Nat} (e:toN c=some m):c=.map m:=by
 cases c<;>first|(cases e; rfl)|cases e
theorem Zyk (m:Nat):toN (.map m)=some m:=rfl
theorem Z1f (kt:TypeId) (k:W):Zjy K kt k []=some []:=rfl
noncomputable def Zm3:Kn1:=fun args h=>match args with
 | [.c (.ptr r 0)]=>(N8 h r).bind fun _=>some (.w (.c (.bool true)),h)
 | _=>none
noncomputable def Zwk:Kn1:=fun args h=>match args with
 | [.c (.ptr r 0),.c (.int .i64 z)]=>(N8 h r).bind fun _=>Yr (decide (0≤z)) (some (.w (.c (.int .i64 0)),h))
 | _=>none
noncomputable def Ze7:Kn1:=fun args h=>match args with
 | [.c (.ptr r 0),.c (.int .i64 z),.c (.int .u32 _)]=>(N8 h r).bind fun m=>Yr (decide (0≤z)&&Ga h m) (some (.w (.c (.int .i64 0)),h))
 | _=>none
noncomputable def Zno:Kn1:=fun args h=>match args with
 | [.c (.ptr t 0)]=>(Uo h t).bind fun _=>some (.w (.c (.bool true)),h)
 | _=>none
noncomputable def Zm4:Kn1:=fun args h=>match args with
 | [.c (.ptr t 0)]=>(Uo h t).bind fun X=>Yr X.op (some (.w (.c (.int .i64 0)),h))
 | _=>none
noncomputable def Zw4:Kn1:=fun args h=>match args with
 | [.c (.ptr t 0),.c (.int .i64 z)]=>(Uo h t).bind fun X=>Yr (X.op&&decide (0≤z)) (some (.w (.c (.int .i64 0)),h))
 | _=>none
noncomputable def Ztq:Kn1:=fun args h=>match args with
 | [.c (.ptr t 0)]=>(Uo h t).bind fun X=>some (.w (.c (.int .u32 X.sq)),h)
 | _=>none
noncomputable def Zon:Kn1:=fun args h=>match args with
 | [.c (.ptr t 0)]=>(Uo h t).bind fun X=>some (.w (.c (.bool X.op)),h)
 | _=>none
noncomputable def Zuz:Kn1:=fun args h=>match args with
 | [.c (.ptr t 0),.c (.int .i64 z)]=>(Uo h t).bind fun X=>(getM h X.ch).bind fun l=>match Y6 z l with
  | some y=>Yr (Nat.beq y.length 256&&y.all C.flat) (some (.tup [.g y,.c (.bool true)],h))
  | none=>some (.tup [.g (List.replicate 256 (.int .u8 0)),.c (.bool false)],h)
 | _=>none
noncomputable def Zew:Kn1:=fun args h=>match args with
 | [.c (.ptr t 0),.c (.int .i64 z),.g x]=>(Uo h t).bind fun X=>(toN X.to).bind fun to=>(getM h to).bind fun lt=>(getM h X.ch).bind fun lc=>(getM h X.fr).bind fun lf=>(N8 h X.rv).bind fun m =>
  Yr (X.op&&decide (0≤z)&&Ga h m&&(match Y6 z lt with|none=>decide ((lt.length:Int)<X.cr)|some []=>true|some (_ :: _)=>false)&&Nat.beq x.length 256&&x.all C.flat&&O1 lt&&O1 lc&&O1 lf&&!(Nat.beq to X.ch)&&!(Nat.beq to X.fr)&&!(Nat.beq X.ch X.fr)&&!(Nat.beq to m)&&!(Nat.beq X.ch m)&&!(Nat.beq X.fr m)&&!(Nat.beq to t)&&!(Nat.beq X.ch t)&&!(Nat.beq X.fr t)&&!(Nat.beq to X.rv)&&!(Nat.beq X.ch X.rv)&&!(Nat.beq X.fr X.rv))
   (some (.w (.c (.int .i64 0)),((h.put to (.map (Jv (Oc z [] lt)))).put X.ch (.map (Jv (Oc z x lc)))).put X.fr (.map (Jv (Zco z lf)))))
 | _=>none
noncomputable def Zxv:Kn1:=fun args h=>match args with
 | [.c (.ptr t 0),.c (.int .i64 z)]=>(Uo h t).bind fun X=>(getM h X.od).bind fun l=>Yr (X.op&&decide (0≤z)) (some (.w (.c (.int .i64 0)),h.put X.od (.map (Jv (Oc z [] l)))))
 | _=>none
def Z3i (X:Tx):Tx:={ X with op:=false,cr:=0,rk:=0,to:=.mnil,b1:=.mnil,b2:=.mnil,b3:=.mnil,b4:=.pnil }
noncomputable def Z2s (h:Go.Ev.H) (t:Nat) (X:Tx):Go.Ev.H:=((((h.put t (.row 13 [txL { X with op:=false }] false)).put t (.row 13 [txL { X with op:=false,cr:=0 }] false)).put t (.row 13 [txL { X with op:=false,cr:=0,rk:=0 }] false)).put t (.row 13 [txL { X with op:=false,cr:=0,rk:=0,to:=.mnil }] false)).put t (.row 13 [txL (Z3i X)] false)
noncomputable def Zy2:Kn1:=fun args h=>match args with
 | [.c (.ptr t 0)]=>(Uo h t).bind fun X=>some (.tup [],Z2s h t X)
 | _=>none
noncomputable def Z29:Kn1:=fun args h=>match args with
 | [.c (.ptr t 0)]=>(Uo h t).bind fun X=>Yr X.op (some (.w (.c (.int .i64 0)),Z2s h t X))
 | _=>none
attribute [go_sem] Uo N8 Ga Zyk Z1f Zm3 Zwk Ze7 Zno Zm4 Zw4 Ztq Zon Zuz Zew Zxv Zy2 Z29
theorem Z2p (a s:Int):Dj K 20 257 (.g [.int .i64 a,.int .u32 s])=true:=by kernel_rfl
attribute [go_sem] Z2p
section
variable (Hh:Hearts K Tryz.prog)
include Hh
theorem Zgf {args:List W} {h h':Go.Ev.H} {v:V} (e:Zm3 args h=some (v,h')):Ze K Tryz.prog 126 args h v h':=by
 unfold Zm3 at e
 split at e
 ·rename_i r
  obtain⟨m,hr,e⟩:=Zl e
  have hr:=Uv hr
  cases e
  refine Ze.goes fits Hh (by kernel_rfl) (by kernel_rfl) (by kernel_rfl) (show Tryz.f126.body=some _ from rfl) rfl ?_
  repeat (first|apply Goes.seq|apply Goes.block|apply Goes.loop|apply Goes.skip|apply Goes.exit|apply Goes.ret|((first|apply Goes.Zm|apply Goes.ops2 fits Hh Zc); · simp (maxSteps:=9^6) +decide (disch:=first|omega|(simp only[lens]<;>omega)|decide) only [go_sem,Zb,Za,simprocAttr,hr,read1]<;>rfl))
  simp (maxSteps:=9^6) +decide (disch:=first|omega|(simp only[lens]<;>omega)|decide) only [go_sem,Zb,Za,simprocAttr]<;>rfl
 ·cases e
theorem Zv6 {args:List W} {h h':Go.Ev.H} {v:V} (e:Zwk args h=some (v,h')):Ze K Tryz.prog 142 args h v h':=by
 unfold Zwk at e
 split at e
 ·rename_i r z
  obtain⟨m,hr,e⟩:=Zl e
  have hr:=Uv hr
  obtain⟨b,e⟩:=Zq.1 e
  have z0:=of_decide_eq_true b
  cases e
  refine Ze.goes fits Hh (by kernel_rfl) (by kernel_rfl) (by kernel_rfl) (show Tryz.f142.body=some _ from rfl) rfl ?_
  repeat (first|apply Goes.seq|apply Goes.block|apply Goes.loop|apply Goes.skip|apply Goes.exit|apply Goes.ret|((first|apply Goes.Zm|apply Goes.ops2 fits Hh (Zf Zc (fun _ _ _ _=>Zgf Hh))); · simp (maxSteps:=9^6) +decide (disch:=first|omega|(simp only[lens]<;>omega)|decide) only [go_sem,Zb,Za,simprocAttr,hr,read1]<;>rfl))
  simp (maxSteps:=9^6) +decide (disch:=first|omega|(simp only[lens]<;>omega)|decide) only [go_sem,Zb,Za,simprocAttr]<;>rfl
 ·cases e
theorem Me {args:List W} {h h':Go.Ev.H} {v:V} (e:Ze7 args h=some (v,h')):Ze K Tryz.prog 114 args h v h':=by
 unfold Ze7 at e
 split at e
 ·rename_i r z s
  obtain⟨m,hr,e⟩:=Zl e
  have hr:=Uv hr
  obtain⟨b,e⟩:=Zq.1 e
  simp only[Bool.and_eq_true,decide_eq_true_eq] at b
  obtain⟨z0,b⟩:=b
  have hm:=Yt b
  cases e
  obtain⟨v,h',c,rfl,hk⟩:∃ v h',Ze K Tryz.prog 114 [.c (.ptr r 0),.c (.int .i64 z),.c (.int .u32 s)] h v h'∧v=.w (.c (.int .i64 0))∧∀ j,j<h.next→h'.get j=h.get j:=by
   refine Ze.Yi fits Hh (by kernel_rfl) (by kernel_rfl) (by kernel_rfl) (show Tryz.f114.body=some _ from rfl) rfl ?_
   repeat (first|apply Goes.seq|apply Goes.block|apply Goes.loop|apply Goes.skip|apply Goes.exit|apply Goes.ret|((first|apply Goes.Zm|apply Goes.ops2 fits Hh (Zf Zc (fun _ _ _ _=>Zv6 Hh))); · simp (maxSteps:=9^6) +decide (disch:=first|omega|(simp only[lens]<;>omega)|decide) only [go_sem,Zb,Za,simprocAttr,hr,hm,read1,Zh,Vg,Za1]<;>rfl))
   exact⟨_,_,(by simp (maxSteps:=9^6) +decide (disch:=first|omega|(simp only[lens]<;>omega)|decide) only [go_sem,Zb,Za,simprocAttr,hr,hm]<;>rfl),rfl,fun j _=>by rw[H.get_put]; split<;>first|(rename_i ej; rw[ej,hm])|rfl⟩
  exact c.quiet rfl hk
 ·cases e
theorem O0 {args:List W} {h h':Go.Ev.H} {v:V} (e:Zno args h=some (v,h')):Ze K Tryz.prog 66 args h v h':=by
 unfold Zno at e
 split at e
 ·rename_i t
  obtain⟨X,ht,e⟩:=Zl e
  have ht:=Ym ht
  cases e
  refine Ze.goes fits Hh (by kernel_rfl) (by kernel_rfl) (by kernel_rfl) (show Tryz.f66.body=some _ from rfl) rfl ?_
  repeat (first|apply Goes.seq|apply Goes.block|apply Goes.loop|apply Goes.skip|apply Goes.exit|apply Goes.ret|((first|apply Goes.Zm|apply Goes.ops2 fits Hh Zc); · simp (maxSteps:=9^6) +decide (disch:=first|omega|(simp only[lens]<;>omega)|decide) only [go_sem,Zb,Za,simprocAttr,ht,read1]<;>rfl))
  simp (maxSteps:=9^6) +decide (disch:=first|omega|(simp only[lens]<;>omega)|decide) only [go_sem,Zb,Za,simprocAttr]<;>rfl
 ·cases e
theorem Zsp {args:List W} {h h':Go.Ev.H} {v:V} (e:Zm4 args h=some (v,h')):Ze K Tryz.prog 154 args h v h':=by
 unfold Zm4 at e
 split at e
 ·rename_i t
  obtain⟨X,ht,e⟩:=Zl e
  have ht:=Ym ht
  obtain⟨bo,e⟩:=Zq.1 e
  cases e
  refine Ze.goes fits Hh (by kernel_rfl) (by kernel_rfl) (by kernel_rfl) (show Tryz.f154.body=some _ from rfl) rfl ?_
  repeat (first|apply Goes.seq|apply Goes.block|apply Goes.loop|apply Goes.skip|apply Goes.exit|apply Goes.ret|((first|apply Goes.Zm|apply Goes.ops2 fits Hh (Zf Zc (fun _ _ _ _=>O0 Hh))); · simp (maxSteps:=9^6) +decide (disch:=first|omega|(simp only[lens]<;>omega)|decide) only [go_sem,Zb,Za,simprocAttr,ht,bo,read1]<;>rfl))
  simp (maxSteps:=9^6) +decide (disch:=first|omega|(simp only[lens]<;>omega)|decide) only [go_sem,Zb,Za,simprocAttr]<;>rfl
 ·cases e
theorem Qy {args:List W} {h h':Go.Ev.H} {v:V} (e:Zw4 args h=some (v,h')):Ze K Tryz.prog 113 args h v h':=by
 unfold Zw4 at e
 split at e
 ·rename_i t z
  obtain⟨X,ht,e⟩:=Zl e
  have ht:=Ym ht
  obtain⟨b,e⟩:=Zq.1 e
  simp only[Bool.and_eq_true,decide_eq_true_eq] at b
  obtain⟨bo,z0⟩:=b
  cases e
  refine Ze.goes fits Hh (by kernel_rfl) (by kernel_rfl) (by kernel_rfl) (show Tryz.f113.body=some _ from rfl) rfl ?_
  repeat (first|apply Goes.seq|apply Goes.block|apply Goes.loop|apply Goes.skip|apply Goes.exit|apply Goes.ret|((first|apply Goes.Zm|apply Goes.ops2 fits Hh (Zf Zc (fun _ _ _ _=>Zsp Hh))); · simp (maxSteps:=9^6) +decide (disch:=first|omega|(simp only[lens]<;>omega)|decide) only [go_sem,Zb,Za,simprocAttr,ht,bo,read1]<;>rfl))
  simp (maxSteps:=9^6) +decide (disch:=first|omega|(simp only[lens]<;>omega)|decide) only [go_sem,Zb,Za,simprocAttr]<;>rfl
 ·cases e
theorem Ztj {args:List W} {h h':Go.Ev.H} {v:V} (e:Ztq args h=some (v,h')):Ze K Tryz.prog 28 args h v h':=by
 unfold Ztq at e
 split at e
 ·rename_i t
  obtain⟨X,ht,e⟩:=Zl e
  have ht:=Ym ht
  cases e
  refine Ze.goes fits Hh (by kernel_rfl) (by kernel_rfl) (by kernel_rfl) (show Tryz.f28.body=some _ from rfl) rfl ?_
  repeat (first|apply Goes.seq|apply Goes.block|apply Goes.loop|apply Goes.skip|apply Goes.exit|apply Goes.ret|((first|apply Goes.Zm|apply Goes.ops2 fits Hh (Zf Zc (fun _ _ _ _=>O0 Hh))); · simp (maxSteps:=9^6) +decide (disch:=first|omega|(simp only[lens]<;>omega)|decide) only [go_sem,Zb,Za,simprocAttr,ht,read1]<;>rfl))
  simp (maxSteps:=9^6) +decide (disch:=first|omega|(simp only[lens]<;>omega)|decide) only [go_sem,Zb,Za,simprocAttr]<;>rfl
 ·cases e
theorem Zbs {args:List W} {h h':Go.Ev.H} {v:V} (e:Zon args h=some (v,h')):Ze K Tryz.prog 29 args h v h':=by
 unfold Zon at e
 split at e
 ·rename_i t
  obtain⟨X,ht,e⟩:=Zl e
  have ht:=Ym ht
  cases e
  refine Ze.goes fits Hh (by kernel_rfl) (by kernel_rfl) (by kernel_rfl) (show Tryz.f29.body=some _ from rfl) rfl ?_
  repeat (first|apply Goes.seq|apply Goes.block|apply Goes.loop|apply Goes.skip|apply Goes.exit|apply Goes.ret|((first|apply Goes.Zm|apply Goes.ops2 fits Hh (Zf Zc (fun _ _ _ _=>O0 Hh))); · simp (maxSteps:=9^6) +decide (disch:=first|omega|(simp only[lens]<;>omega)|decide) only [go_sem,Zb,Za,simprocAttr,ht,read1]<;>rfl))
  simp (maxSteps:=9^6) +decide (disch:=first|omega|(simp only[lens]<;>omega)|decide) only [go_sem,Zb,Za,simprocAttr]<;>rfl
 ·cases e
theorem Ww {args:List W} {h h':Go.Ev.H} {v:V} (e:Zuz args h=some (v,h')):Ze K Tryz.prog 85 args h v h':=by
 unfold Zuz at e
 split at e
 ·rename_i t z
  obtain⟨X,ht,e⟩:=Zl e
  have ht:=Ym ht
  obtain⟨l,hm,e⟩:=Zl e
  have hm:=getM_some hm
  refine Ze.tidy ⟨Tryz.f85,Tryz.func85,by kernel_rfl,by decide⟩ fun tidy=>?_
  have lt:=tidy _ _ ht
  have lm:=tidy _ _ hm
  split at e
  ·rename_i y hl
   obtain⟨b,e⟩:=Zq.1 e
   rw[Bool.and_eq_true] at b
   have yl:=Nat.eq_of_beq_eq_true b.1
   have yf:=b.2
   cases e
   obtain⟨v,h',c,rfl,hk⟩:∃ v h',Ze K Tryz.prog 85 [.c (.ptr t 0),.c (.int .i64 z)] h v h'∧v=.tup [.g y,.c (.bool true)]∧∀ m,m<h.next→h'.get m=h.get m:=by
    refine Ze.Yi fits Hh (by kernel_rfl) (by kernel_rfl) (by kernel_rfl) (show Tryz.f85.body=some _ from rfl) rfl ?_
    repeat (first|apply Goes.seq|apply Goes.block|apply Goes.loop|apply Goes.skip|apply Goes.exit|apply Goes.ret|((first|apply Goes.Zm|apply Goes.ops2 fits Hh (Zf Zc (fun _ _ _ _=>O0 Hh))); · simp (maxSteps:=9^6) +decide (disch:=first|omega|(simp only[lens]<;>omega)|decide) only [go_sem,Za,simprocAttr,ht,hm,hl,read1]<;>rfl))
    exact⟨_,_,(by simp (maxSteps:=9^6) +decide (disch:=first|omega|(simp only[lens]<;>omega)|decide) only [go_sem,Za,simprocAttr,ht,hm,hl]<;>rfl),rfl,fun m hm=>by simp (disch:=first|omega|(simp only[lens]<;>omega)) only [go_sem]⟩
   refine c.quiet ?_ hk
   show (y.all C.flat&&true)=true
   rw[yf]; rfl
  ·rename_i hl
   cases e
   obtain⟨v,h',c,rfl,hk⟩:∃ v h',Ze K Tryz.prog 85 [.c (.ptr t 0),.c (.int .i64 z)] h v h'∧v=.tup [.g (List.replicate 256 (.int .u8 0)),.c (.bool false)]∧∀ m,m<h.next→h'.get m=h.get m:=by
    refine Ze.Yi fits Hh (by kernel_rfl) (by kernel_rfl) (by kernel_rfl) (show Tryz.f85.body=some _ from rfl) rfl ?_
    repeat (first|apply Goes.seq|apply Goes.block|apply Goes.loop|apply Goes.skip|apply Goes.exit|apply Goes.ret|((first|apply Goes.Zm|apply Goes.ops2 fits Hh (Zf Zc (fun _ _ _ _=>O0 Hh))); · simp (maxSteps:=9^6) +decide (disch:=first|omega|(simp only[lens]<;>omega)|decide) only [go_sem,Za,simprocAttr,ht,hm,hl,read1]<;>rfl))
    exact⟨_,_,(by simp (maxSteps:=9^6) +decide (disch:=first|omega|(simp only[lens]<;>omega)|decide) only [go_sem,Za,simprocAttr,ht,hm,hl]<;>rfl),rfl,fun m hm=>by simp (disch:=first|omega|(simp only[lens]<;>omega)) only [go_sem]⟩
   exact c.quiet (by kernel_rfl) hk
 ·cases e
end
theorem Yw {a b:Nat} (h:Nat.beq a b=false):a≠b:=fun e=>by rw[e,Nat.beq_refl] at h; cases h
theorem Zzp (m:Nat):Yu K 175 (.c (.map m))=true:=by kernel_rfl
attribute [go_sem] Zzp
section
variable (Hh:Hearts K Tryz.prog)
include Hh
set_option maxHeartbeats 1000000 in
theorem Bt {args:List W} {h h':Go.Ev.H} {v:V} (e:Zew args h=some (v,h')):Ze K Tryz.prog 79 args h v h':=by
 unfold Zew at e
 split at e
 ·rename_i t z x
  obtain⟨X,ht,e⟩:=Zl e
  have ht:=Ym ht
  obtain⟨to,hto,e⟩:=Zl e
  have hto:=Zky hto
  obtain⟨lt,hlt,e⟩:=Zl e
  have hlt:=getM_some hlt
  obtain⟨lc,hlc,e⟩:=Zl e
  have hlc:=getM_some hlc
  obtain⟨lf,hlf,e⟩:=Zl e
  have hlf:=getM_some hlf
  obtain⟨m,hr,e⟩:=Zl e
  have hrv:=hr
  have hr:=Uv hr
  obtain⟨b,e⟩:=Zq.1 e
  cases e
  refine Ze.tidy ⟨Tryz.f79,Tryz.func79,by kernel_rfl,by decide⟩ fun tidy=>?_
  have l1:=tidy _ _ ht
  have l2:=tidy _ _ hlt
  have l3:=tidy _ _ hlc
  have l4:=tidy _ _ hlf
  have l5:=tidy _ _ hr
  simp only[Bool.and_eq_true,decide_eq_true_eq,Bool.not_eq_true'] at b
  obtain⟨⟨⟨⟨⟨⟨⟨⟨⟨⟨⟨⟨⟨⟨⟨⟨⟨⟨⟨⟨bo,z0⟩,bm⟩,bc⟩,bx⟩,xf⟩,f1⟩,f2⟩,f3⟩,c1⟩,c2⟩,c3⟩,c4⟩,c5⟩,c6⟩,c7⟩,c8⟩,c9⟩,c10⟩,c11⟩,c12⟩:=b
  have hm:=Yt bm
  have l6:=tidy _ _ hm
  have xl:=Nat.eq_of_beq_eq_true bx
  have n1:=Yw c1
  have n2:=Yw c2
  have n3:=Yw c3
  have n4:=Yw c4
  have n5:=Yw c5
  have n6:=Yw c6
  have n7:=Yw c7
  have n8:=Yw c8
  have n9:=Yw c9
  have n10:=Yw c10
  have n11:=Yw c11
  have n12:=Yw c12
  obtain⟨v,h',c,rfl,hk⟩:∃ v h',Ze K Tryz.prog 79 [.c (.ptr t 0),.c (.int .i64 z),.g x] h v h'∧v=.w (.c (.int .i64 0))∧∀ j,j<h.next→h'.get j=(((h.put to (.map (Jv (Oc z [] lt)))).put X.ch (.map (Jv (Oc z x lc)))).put X.fr (.map (Jv (Zco z lf)))).get j:=by
   rcases hl:Y6 z lt with _|y
   ·rw[hl] at bc
    have bc:=of_decide_eq_true bc
    refine Ze.Yi fits Hh (by kernel_rfl) (by kernel_rfl) (by kernel_rfl) (show Tryz.f79.body=some _ from rfl) rfl ?_
    repeat (first|apply Goes.seq|apply Goes.block|apply Goes.loop|apply Goes.skip|apply Goes.exit|apply Goes.ret|((first|apply Goes.Zm|apply Goes.ops2 fits Hh (Zf (Zf Zc (fun _ _ _ _=>Qy Hh)) (fun _ _ _ _=>Me Hh))); · simp (maxSteps:=9^6) +decide (disch:=first|omega|(simp only[lens]<;>omega)|decide) only [go_sem,Za,simprocAttr,ht,hto,hlt,hlc,hlf,hr,hm,bo,hl,xl,Vd,read1,Zh,Ye]<;>rfl)|(apply Goes.drawn2 fits Hh (Zf (Zf Zc (fun _ _ _ _=>Qy Hh)) (fun _ _ _ _=>Me Hh)) (by kernel_rfl); · simp (maxSteps:=9^6) +decide (disch:=first|omega|(simp only[lens]<;>omega)|decide) only [go_sem,Za,simprocAttr,drG,ht,hto,hlt,hlc,hlf,hr,hm,bo,hl,xl,Vd,read1,Zh,Ye]<;>rfl))
    exact⟨_,_,(by simp (maxSteps:=9^6) +decide (disch:=first|omega|(simp only[lens]<;>omega)|decide) only [go_sem,Zb,Za,simprocAttr]<;>rfl),rfl,fun j hj=>by (first|(simp (discharger:=omega) only [H.get_put,H.Zi,H.Yd,H.Zg,H.Zj,H.Zr,if_neg]; done)|(simp only[H.get_put,H.Zi,H.Yd,H.Zg,H.Zj,H.Zr]; (repeat' split)<;>first|rfl|(exfalso; omega)|omega))⟩
   ·rw[hl] at bc
    rcases y with _|⟨y0,y⟩
    ·
     refine Ze.Yi fits Hh (by kernel_rfl) (by kernel_rfl) (by kernel_rfl) (show Tryz.f79.body=some _ from rfl) rfl ?_
     repeat (first|apply Goes.seq|apply Goes.block|apply Goes.loop|apply Goes.skip|apply Goes.exit|apply Goes.ret|((first|apply Goes.Zm|apply Goes.ops2 fits Hh (Zf (Zf Zc (fun _ _ _ _=>Qy Hh)) (fun _ _ _ _=>Me Hh))); · simp (maxSteps:=9^6) +decide (disch:=first|omega|(simp only[lens]<;>omega)|decide) only [go_sem,Za,simprocAttr,ht,hto,hlt,hlc,hlf,hr,hm,bo,hl,xl,Vd,read1,Zh,Ye]<;>rfl)|(apply Goes.drawn2 fits Hh (Zf (Zf Zc (fun _ _ _ _=>Qy Hh)) (fun _ _ _ _=>Me Hh)) (by kernel_rfl); · simp (maxSteps:=9^6) +decide (disch:=first|omega|(simp only[lens]<;>omega)|decide) only [go_sem,Za,simprocAttr,drG,ht,hto,hlt,hlc,hlf,hr,hm,bo,hl,xl,Vd,read1,Zh,Ye]<;>rfl))
     exact⟨_,_,(by simp (maxSteps:=9^6) +decide (disch:=first|omega|(simp only[lens]<;>omega)|decide) only [go_sem,Zb,Za,simprocAttr]<;>rfl),rfl,fun j hj=>by (first|(simp (discharger:=omega) only [H.get_put,H.Zi,H.Yd,H.Zg,H.Zj,H.Zr,if_neg]; done)|(simp only[H.get_put,H.Zi,H.Yd,H.Zg,H.Zj,H.Zr]; (repeat' split)<;>first|rfl|(exfalso; omega)|omega))⟩
    ·cases bc
  exact c.settle ((((Mv.refl tidy).put l2 (Bj (Ux rfl f1))).put l3 (Bj (Ux xf f2))).put l4 (Bj (Qi f3))) (Zd2.flat rfl) hk
 ·cases e
end
end Go.Proofs.YtgikjeaipmeclaaGreatDoor
