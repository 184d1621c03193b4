/- Transactions: made, handle, askB, Seq, Open, Get, Put, Order, close, End; the revoked blocks, if there are none. -/
import Derived.Test.YtlbbmhgdcdcdnaaGreatDoorFine
import Derived.Test.YtlbbmhgdcdcdnaaGreatDoorEvC
set_option linter.unusedSimpArgs false
set_option linter.unusedVariables false
set_option linter.unusedSectionVars false
set_option maxRecDepth 100000
namespace Go.Proofs.YtlbbmhgdcdcdnaaGreatDoor
open Go.Ev
theorem ty3:K.types.get 3=some ti3:=by kernel_rfl
theorem sz3:ti3.size=1:=by rfl
theorem ag3:ti3.agg=false:=by rfl
theorem de3:ti3.desc=(.int .i64):=by rfl
theorem ze3:ti3.zero=(.c (.int .i64 0)):=by rfl
theorem by3:ti3.bytes=8:=by rfl
theorem ke3 (k:IntKind) (n:Int):keyT K 20 3 (.c (.int k n))=true:=by kernel_rfl
theorem ty4:K.types.get 4=some ti4:=by kernel_rfl
theorem sz4:ti4.size=1:=by rfl
theorem ag4:ti4.agg=false:=by rfl
theorem de4:ti4.desc=.bool:=by rfl
theorem ze4:ti4.zero=(.c (.bool false)):=by rfl
theorem by4:ti4.bytes=1:=by rfl
theorem ty5:K.types.get 5=some ti5:=by kernel_rfl
theorem sz5:ti5.size=1:=by rfl
theorem ag5:ti5.agg=false:=by rfl
theorem de5:ti5.desc=(.int .u8):=by rfl
theorem ze5:ti5.zero=(.c (.int .u8 0)):=by rfl
theorem by5:ti5.bytes=1:=by rfl
theorem ke5 (k:IntKind) (n:Int):keyT K 20 5 (.c (.int k n))=true:=by kernel_rfl
theorem ty32:K.types.get 32=some ti32:=by kernel_rfl
theorem sz32:ti32.size=1:=by rfl
theorem ag32:ti32.agg=false:=by rfl
theorem de32:ti32.desc=(.int .i64):=by rfl
theorem ze32:ti32.zero=(.c (.int .i64 0)):=by rfl
theorem by32:ti32.bytes=8:=by rfl
theorem ke32 (k:IntKind) (n:Int):keyT K 20 32 (.c (.int k n))=true:=by kernel_rfl
theorem ty40:K.types.get 40=some ti40:=by kernel_rfl
theorem sz40:ti40.size=1:=by rfl
theorem ag40:ti40.agg=false:=by rfl
theorem de40:ti40.desc=(.int .u32):=by rfl
theorem ze40:ti40.zero=(.c (.int .u32 0)):=by rfl
theorem by40:ti40.bytes=4:=by rfl
theorem ke40 (k:IntKind) (n:Int):keyT K 20 40 (.c (.int k n))=true:=by kernel_rfl
theorem ty59:K.types.get 59=some ti59:=by kernel_rfl
theorem sz59:ti59.size=1:=by rfl
theorem ag59:ti59.agg=false:=by rfl
theorem de59:ti59.desc=(.pointer 133):=by rfl
theorem ze59:ti59.zero=(.c (.pnil)):=by rfl
theorem by59:ti59.bytes=8:=by rfl
theorem ty85:K.types.get 85=some ti85:=by kernel_rfl
theorem sz85:ti85.size=256:=by rfl
theorem ag85:ti85.agg=true:=by rfl
theorem de85:ti85.desc=(.array 256 5):=by rfl
theorem ze85:ti85.zero=(.g ((List.replicate 256 (.int .u8 0)))):=by rfl
theorem by85:ti85.bytes=256:=by rfl
theorem eq85 (a b:List C):eqT K 20 85 (.g a) (.g b)=(bif true&&Nat.beq a.length 256&&Nat.beq b.length 256 then eqInts a b else none):=by kernel_rfl
theorem ty127:K.types.get 127=some ti127:=by kernel_rfl
theorem sz127:ti127.size=1:=by rfl
theorem ag127:ti127.agg=false:=by rfl
theorem de127:ti127.desc=(.map 3 85):=by rfl
theorem ze127:ti127.zero=(.c (.mnil)):=by rfl
theorem by127:ti127.bytes=8:=by rfl
theorem mp127:mapTI K 127=some (3,85):=by kernel_rfl
theorem ty128:K.types.get 128=some ti128:=by kernel_rfl
theorem sz128:ti128.size=1:=by rfl
theorem ag128:ti128.agg=false:=by rfl
theorem de128:ti128.desc=(.map 3 180):=by rfl
theorem ze128:ti128.zero=(.c (.mnil)):=by rfl
theorem by128:ti128.bytes=8:=by rfl
theorem mp128:mapTI K 128=some (3,180):=by kernel_rfl
theorem ty129:K.types.get 129=some ti129:=by kernel_rfl
theorem sz129:ti129.size=1:=by rfl
theorem ag129:ti129.agg=false:=by rfl
theorem de129:ti129.desc=(.pointer 203):=by rfl
theorem ze129:ti129.zero=(.c (.pnil)):=by rfl
theorem by129:ti129.bytes=8:=by rfl
theorem ty131:K.types.get 131=some ti131:=by kernel_rfl
theorem sz131:ti131.size=4:=by rfl
theorem ag131:ti131.agg=true:=by rfl
theorem fo131_0:fieldOf K 131 0=some (0,ti127):=by kernel_rfl
theorem fo131_1:fieldOf K 131 1=some (1,ti128):=by kernel_rfl
theorem fo131_2:fieldOf K 131 2=some (2,ti128):=by kernel_rfl
theorem fo131_3:fieldOf K 131 3=some (3,ti129):=by kernel_rfl
theorem bu131 (ps:List (Nat × W)):opBuild K 131 (some ps)=gW (fillStruct K 131 ps ti131.zero.cells):=by kernel_rfl
theorem ze131:ti131.zero=(.g ([.mnil,.mnil,.mnil,.pnil])):=by rfl
theorem by131:ti131.bytes=32:=by rfl
theorem ty133:K.types.get 133=some ti133:=by kernel_rfl
theorem sz133:ti133.size=13:=by rfl
theorem ag133:ti133.agg=true:=by rfl
theorem fo133_0:fieldOf K 133 0=some (0,ti131):=by kernel_rfl
theorem fo133_1:fieldOf K 133 1=some (4,ti40):=by kernel_rfl
theorem fo133_2:fieldOf K 133 2=some (5,ti4):=by kernel_rfl
theorem fo133_3:fieldOf K 133 3=some (6,ti3):=by kernel_rfl
theorem fo133_4:fieldOf K 133 4=some (7,ti3):=by kernel_rfl
theorem fo133_5:fieldOf K 133 5=some (8,ti128):=by kernel_rfl
theorem fo133_6:fieldOf K 133 6=some (9,ti131):=by kernel_rfl
theorem bu133 (ps:List (Nat × W)):opBuild K 133 (some ps)=gW (fillStruct K 133 ps ti133.zero.cells):=by kernel_rfl
theorem ze133:ti133.zero=(.g ([.mnil,.mnil,.mnil,.pnil,.int .u32 0,.bool false,.int .i64 0,.int .i64 0,.mnil,.mnil,.mnil,.mnil,.pnil])):=by rfl
theorem by133:ti133.bytes=96:=by rfl
theorem ty180:K.types.get 180=some ti180:=by kernel_rfl
theorem sz180:ti180.size=0:=by rfl
theorem ag180:ti180.agg=true:=by rfl
theorem bu180 (ps:List (Nat × W)):opBuild K 180 (some ps)=gW (fillStruct K 180 ps ti180.zero.cells):=by kernel_rfl
theorem ze180:ti180.zero=(.g ([])):=by rfl
theorem by180:ti180.bytes=0:=by rfl
theorem ty201:K.types.get 201=some ti201:=by kernel_rfl
theorem sz201:ti201.size=1:=by rfl
theorem ag201:ti201.agg=false:=by rfl
theorem de201:ti201.desc=(.map 205 180):=by rfl
theorem ze201:ti201.zero=(.c (.mnil)):=by rfl
theorem by201:ti201.bytes=8:=by rfl
theorem mp201:mapTI K 201=some (205,180):=by kernel_rfl
theorem ty203:K.types.get 203=some ti203:=by kernel_rfl
theorem sz203:ti203.size=1:=by rfl
theorem ag203:ti203.agg=true:=by rfl
theorem fo203_0:fieldOf K 203 0=some (0,ti201):=by kernel_rfl
theorem bu203 (ps:List (Nat × W)):opBuild K 203 (some ps)=gW (fillStruct K 203 ps ti203.zero.cells):=by kernel_rfl
theorem ze203:ti203.zero=(.g ([.mnil])):=by rfl
theorem by203:ti203.bytes=8:=by rfl
theorem ty205:K.types.get 205=some ti205:=by kernel_rfl
theorem sz205:ti205.size=2:=by rfl
theorem ag205:ti205.agg=true:=by rfl
theorem fo205_0:fieldOf K 205 0=some (0,ti3):=by kernel_rfl
theorem fo205_1:fieldOf K 205 1=some (1,ti40):=by kernel_rfl
theorem bu205 (ps:List (Nat × W)):opBuild K 205 (some ps)=gW (fillStruct K 205 ps ti205.zero.cells):=by kernel_rfl
theorem ze205:ti205.zero=(.g ([.int .i64 0,.int .u32 0])):=by rfl
theorem by205:ti205.bytes=16:=by rfl
attribute [go_sem] ty3 sz3 ag3 de3 ze3 by3 ke3 ty4 sz4 ag4 de4 ze4 by4 ty5 sz5 ag5 de5 ze5 by5 ke5 ty32 sz32 ag32 de32 ze32 by32 ke32 ty40 sz40 ag40 de40 ze40 by40 ke40 ty59 sz59 ag59 de59 ze59 by59 ty85 sz85 ag85 de85 ze85 by85 eq85 ty127 sz127 ag127 de127 ze127 by127 mp127 ty128 sz128 ag128 de128 ze128 by128 mp128 ty129 sz129 ag129 de129 ze129 by129 ty131 sz131 ag131 fo131_0 fo131_1 fo131_2 fo131_3 bu131 ze131 by131 ty133 sz133 ag133 fo133_0 fo133_1 fo133_2 fo133_3 fo133_4 fo133_5 fo133_6 bu133 ze133 by133 ty180 sz180 ag180 bu180 ze180 by180 ty201 sz201 ag201 de201 ze201 by201 mp201 ty203 sz203 ag203 fo203_0 bu203 ze203 by203 ty205 sz205 ag205 fo205_0 fo205_1 bu205 ze205 by205
theorem rs128:Tryz.f128.results.toList=[.tmp 2]:=rfl
theorem rs144:Tryz.f144.results.toList=[.tmp 4]:=rfl
theorem rs155:Tryz.f155.results.toList=[.tmp 6]:=rfl
theorem rs63:Tryz.f63.results.toList=[.tmp 2]:=rfl
theorem rs182:Tryz.f182.results.toList=[.tmp 2]:=rfl
theorem rs154:Tryz.f154.results.toList=[.tmp 4]:=rfl
theorem rs20:Tryz.f20.results.toList=[.tmp 2]:=rfl
theorem rs21:Tryz.f21.results.toList=[.tmp 2]:=rfl
theorem rs115:Tryz.f115.results.toList=[.cell 4 85,.tmp 5]:=rfl
theorem rs120:Tryz.f120.results.toList=[.tmp 6]:=rfl
attribute [go_sem] rs128 rs144 rs155 rs63 rs182 rs154 rs20 rs21 rs115 rs120
structure Tx where
 ch:Nat
 od:Nat
 fr:Nat
 rv:Nat
 sq:Int
 op:Bool
 cr:Int
 rk:Int
 to:C
 b1:C
 b2:C
 b3:C
 b4:C
def txL (X:Tx):List C:=[.map X.ch,.map X.od,.map X.fr,.ptr X.rv 0,.int .u32 X.sq,.bool X.op,.int .i64 X.cr,.int .i64 X.rk,X.to,X.b1,X.b2,X.b3,X.b4]
attribute [go_sem] txL
noncomputable def getTx (h:Go.Ev.H) (t:Nat):Option Tx:=match h.get t with
 | some (.row sz [[.map ch,.map od,.map fr,.ptr rv o,.int .u32 sq,.bool op,.int .i64 cr,.int .i64 rk,to,b1,b2,b3,b4]] ro)=>askB (Nat.beq sz 13&&Nat.beq o 0&&!ro) (some ⟨ch,od,fr,rv,sq,op,cr,rk,to,b1,b2,b3,b4⟩)
 | _=>none
theorem getTx_some {h:Go.Ev.H} {t:Nat} {X:Tx} (e:getTx h t=some X):h.get t=some (.row 13 [txL X] false):=by
 unfold getTx at e
 split at e
 ·rename_i heq
  obtain⟨b,e⟩:=askB_some.1 e
  cases e
  simp only[Bool.and_eq_true,Bool.not_eq_true'] at b
  obtain⟨⟨b1,b2⟩,rfl⟩:=b
  obtain rfl:=Nat.eq_of_beq_eq_true b1
  obtain rfl:=Nat.eq_of_beq_eq_true b2
  exact heq
 ·cases e
noncomputable def getRv (h:Go.Ev.H) (r:Nat):Option Nat:=match h.get r with
 | some (.row sz [[.map m]] ro)=>askB (Nat.beq sz 1&&!ro) (some m)
 | _=>none
theorem getRv_some {h:Go.Ev.H} {r m:Nat} (e:getRv h r=some m):h.get r=some (.row 1 [[.map m]] false):=by
 unfold getRv at e
 split at e
 ·rename_i heq
  obtain⟨b,e⟩:=askB_some.1 e
  cases e
  simp only[Bool.and_eq_true,Bool.not_eq_true'] at b
  obtain⟨b1,rfl⟩:=b
  obtain rfl:=Nat.eq_of_beq_eq_true b1
  exact heq
 ·cases e
noncomputable def voidM (h:Go.Ev.H) (m:Nat):Bool:=match h.get m with
 | some (.map [])=>true
 | _=>false
theorem voidM_true {h:Go.Ev.H} {m:Nat} (e:voidM h m=true):h.get m=some (.map []):=by
 unfold voidM at e
 split at e
 ·assumption
 ·cases e
def toN:C→Option Nat
 | .map m=>some m
 | _=>none
theorem toN_some {c:C} {m:Nat} (e:toN c=some m):c=.map m:=by
 cases c<;>first|(cases e; rfl)|cases e
theorem toN_map (m:Nat):toN (.map m)=some m:=rfl
theorem delNil (kt:TypeId) (k:W):delK K kt k []=some []:=rfl
noncomputable def xRMade:Kn1:=fun args h=>match args with
 | [.c (.ptr r 0)]=>(getRv h r).bind fun _=>some (.w (.c (.bool true)),h)
 | _=>none
noncomputable def xRAsk:Kn1:=fun args h=>match args with
 | [.c (.ptr r 0),.c (.int .i64 z)]=>(getRv h r).bind fun _=>askB (decide (0≤z)) (some (.w (.c (.int .i64 0)),h))
 | _=>none
noncomputable def xRCancel:Kn1:=fun args h=>match args with
 | [.c (.ptr r 0),.c (.int .i64 z),.c (.int .u32 _)]=>(getRv h r).bind fun m=>askB (decide (0≤z)&&voidM h m) (some (.w (.c (.int .i64 0)),h))
 | _=>none
noncomputable def xTMade:Kn1:=fun args h=>match args with
 | [.c (.ptr t 0)]=>(getTx h t).bind fun _=>some (.w (.c (.bool true)),h)
 | _=>none
noncomputable def xTHand:Kn1:=fun args h=>match args with
 | [.c (.ptr t 0)]=>(getTx h t).bind fun X=>askB X.op (some (.w (.c (.int .i64 0)),h))
 | _=>none
noncomputable def xTAsk:Kn1:=fun args h=>match args with
 | [.c (.ptr t 0),.c (.int .i64 z)]=>(getTx h t).bind fun X=>askB (X.op&&decide (0≤z)) (some (.w (.c (.int .i64 0)),h))
 | _=>none
noncomputable def xTSeq:Kn1:=fun args h=>match args with
 | [.c (.ptr t 0)]=>(getTx h t).bind fun X=>some (.w (.c (.int .u32 X.sq)),h)
 | _=>none
noncomputable def xTOpen:Kn1:=fun args h=>match args with
 | [.c (.ptr t 0)]=>(getTx h t).bind fun X=>some (.w (.c (.bool X.op)),h)
 | _=>none
noncomputable def xTGet:Kn1:=fun args h=>match args with
 | [.c (.ptr t 0),.c (.int .i64 z)]=>(getTx h t).bind fun X=>(getM h X.ch).bind fun l=>match lookE z l with
  | some y=>askB (Nat.beq y.length 256&&y.all C.flat) (some (.tup [.g y,.c (.bool true)],h))
  | none=>some (.tup [.g (List.replicate 256 (.int .u8 0)),.c (.bool false)],h)
 | _=>none
noncomputable def xTPut:Kn1:=fun args h=>match args with
 | [.c (.ptr t 0),.c (.int .i64 z),.g x]=>(getTx h t).bind fun X=>(toN X.to).bind fun to=>(getM h to).bind fun lt=>(getM h X.ch).bind fun lc=>(getM h X.fr).bind fun lf=>(getRv h X.rv).bind fun m =>
  askB (X.op&&decide (0≤z)&&voidM h m&&(match lookE z lt with|none=>decide ((lt.length:Int)<X.cr)|some []=>true|some (_ :: _)=>false)&&Nat.beq x.length 256&&x.all C.flat&&flatE lt&&flatE lc&&flatE lf&&!(Nat.beq to X.ch)&&!(Nat.beq to X.fr)&&!(Nat.beq X.ch X.fr)&&!(Nat.beq to m)&&!(Nat.beq X.ch m)&&!(Nat.beq X.fr m)&&!(Nat.beq to t)&&!(Nat.beq X.ch t)&&!(Nat.beq X.fr t)&&!(Nat.beq to X.rv)&&!(Nat.beq X.ch X.rv)&&!(Nat.beq X.fr X.rv))
   (some (.w (.c (.int .i64 0)),((h.put to (.map (ents (updE z [] lt)))).put X.ch (.map (ents (updE z x lc)))).put X.fr (.map (ents (delE z lf)))))
 | _=>none
noncomputable def xTOrder:Kn1:=fun args h=>match args with
 | [.c (.ptr t 0),.c (.int .i64 z)]=>(getTx h t).bind fun X=>(getM h X.od).bind fun l=>askB (X.op&&decide (0≤z)) (some (.w (.c (.int .i64 0)),h.put X.od (.map (ents (updE z [] l)))))
 | _=>none
def txEnd (X:Tx):Tx:={ X with op:=false,cr:=0,rk:=0,to:=.mnil,b1:=.mnil,b2:=.mnil,b3:=.mnil,b4:=.pnil }
noncomputable def endM (h:Go.Ev.H) (t:Nat) (X:Tx):Go.Ev.H:=((((h.put t (.row 13 [txL { X with op:=false }] false)).put t (.row 13 [txL { X with op:=false,cr:=0 }] false)).put t (.row 13 [txL { X with op:=false,cr:=0,rk:=0 }] false)).put t (.row 13 [txL { X with op:=false,cr:=0,rk:=0,to:=.mnil }] false)).put t (.row 13 [txL (txEnd X)] false)
noncomputable def xTClose:Kn1:=fun args h=>match args with
 | [.c (.ptr t 0)]=>(getTx h t).bind fun X=>some (.tup [],endM h t X)
 | _=>none
noncomputable def xTEnd:Kn1:=fun args h=>match args with
 | [.c (.ptr t 0)]=>(getTx h t).bind fun X=>askB X.op (some (.w (.c (.int .i64 0)),endM h t X))
 | _=>none
attribute [go_sem] getTx getRv voidM toN_map delNil xRMade xRAsk xRCancel xTMade xTHand xTAsk xTSeq xTOpen xTGet xTPut xTOrder xTClose xTEnd
theorem keRec (a s:Int):keyT K 20 205 (.g [.int .i64 a,.int .u32 s])=true:=by kernel_rfl
attribute [go_sem] keRec
section
variable (Hh:Hearts K Tryz.prog)
include Hh
theorem xRMade_ok {args:List W} {h h':Go.Ev.H} {v:V} (e:xRMade args h=some (v,h')):CallOk K Tryz.prog 128 args h v h':=by
 unfold xRMade at e
 split at e
 ·rename_i r
  obtain⟨m,hr,e⟩:=bind_of e
  have hr:=getRv_some hr
  cases e
  refine CallOk.goes fits Hh (by kernel_rfl) (by kernel_rfl) (by kernel_rfl) (show Tryz.f128.body=some _ from rfl) rfl ?_
  repeat (first
   | refine Goes.seq ?_
   | refine Goes.block ?_
   | refine Goes.loop ?_
   | refine Goes.skip ?_
   | refine Goes.exit ?_
   | refine Goes.ret ?_
   | refine Goes.condV (by simp (maxSteps:=9^6) +decide (disch:=first|omega|(simp only[lens]<;>omega)|decide) only [go_sem,readRow,loadIn,simprocAttr,hr,read1]<;>rfl) ?_
   | refine Goes.ops2 fits Hh E0_sound (by simp (maxSteps:=9^6) +decide (disch:=first|omega|(simp only[lens]<;>omega)|decide) only [go_sem,readRow,loadIn,simprocAttr,hr,read1]; rfl) ?_)
  simp (maxSteps:=9^6) +decide (disch:=first|omega|(simp only[lens]<;>omega)|decide) only [go_sem,readRow,loadIn,simprocAttr]<;>rfl
 ·cases e
theorem xRAsk_ok {args:List W} {h h':Go.Ev.H} {v:V} (e:xRAsk args h=some (v,h')):CallOk K Tryz.prog 144 args h v h':=by
 unfold xRAsk at e
 split at e
 ·rename_i r z
  obtain⟨m,hr,e⟩:=bind_of e
  have hr:=getRv_some hr
  obtain⟨b,e⟩:=askB_some.1 e
  have z0:=of_decide_eq_true b
  cases e
  refine CallOk.goes fits Hh (by kernel_rfl) (by kernel_rfl) (by kernel_rfl) (show Tryz.f144.body=some _ from rfl) rfl ?_
  repeat (first
   | refine Goes.seq ?_
   | refine Goes.block ?_
   | refine Goes.loop ?_
   | refine Goes.skip ?_
   | refine Goes.exit ?_
   | refine Goes.ret ?_
   | refine Goes.condV (by simp (maxSteps:=9^6) +decide (disch:=first|omega|(simp only[lens]<;>omega)|decide) only [go_sem,readRow,loadIn,simprocAttr,hr,read1]<;>rfl) ?_
   | refine Goes.ops2 fits Hh (EX_sound E0_sound (fun _ _ _ _=>xRMade_ok Hh)) (by simp (maxSteps:=9^6) +decide (disch:=first|omega|(simp only[lens]<;>omega)|decide) only [go_sem,readRow,loadIn,simprocAttr,hr,read1]; rfl) ?_)
  simp (maxSteps:=9^6) +decide (disch:=first|omega|(simp only[lens]<;>omega)|decide) only [go_sem,readRow,loadIn,simprocAttr]<;>rfl
 ·cases e
theorem xRCancel_ok {args:List W} {h h':Go.Ev.H} {v:V} (e:xRCancel args h=some (v,h')):CallOk K Tryz.prog 155 args h v h':=by
 unfold xRCancel at e
 split at e
 ·rename_i r z s
  obtain⟨m,hr,e⟩:=bind_of e
  have hr:=getRv_some hr
  obtain⟨b,e⟩:=askB_some.1 e
  simp only[Bool.and_eq_true,decide_eq_true_eq] at b
  obtain⟨z0,b⟩:=b
  have hm:=voidM_true b
  cases e
  obtain⟨v,h',c,rfl,hk⟩:∃ v h',CallOk K Tryz.prog 155 [.c (.ptr r 0),.c (.int .i64 z),.c (.int .u32 s)] h v h'∧v=.w (.c (.int .i64 0))∧∀ j,j<h.next→h'.get j=h.get j:=by
   refine CallOk.goesE fits Hh (by kernel_rfl) (by kernel_rfl) (by kernel_rfl) (show Tryz.f155.body=some _ from rfl) rfl ?_
   repeat (first
    | refine Goes.seq ?_
    | refine Goes.block ?_
    | refine Goes.loop ?_
    | refine Goes.skip ?_
    | refine Goes.exit ?_
    | refine Goes.ret ?_
    | refine Goes.condV (by simp (maxSteps:=9^6) +decide (disch:=first|omega|(simp only[lens]<;>omega)|decide) only [go_sem,readRow,loadIn,simprocAttr,hr,hm,read1,opBuiltin,opDelete,putMap]<;>rfl) ?_
    | refine Goes.ops2 fits Hh (EX_sound E0_sound (fun _ _ _ _=>xRAsk_ok Hh)) (by simp (maxSteps:=9^6) +decide (disch:=first|omega|(simp only[lens]<;>omega)|decide) only [go_sem,readRow,loadIn,simprocAttr,hr,hm,read1,opBuiltin,opDelete,putMap]; rfl) ?_)
   exact⟨_,_,(by simp (maxSteps:=9^6) +decide (disch:=first|omega|(simp only[lens]<;>omega)|decide) only [go_sem,readRow,loadIn,simprocAttr,hr,hm]<;>rfl),rfl,fun j _=>by rw[H.get_put]; split<;>first|(rename_i ej; rw[ej,hm])|rfl⟩
  exact c.quiet rfl hk
 ·cases e
theorem xTMade_ok {args:List W} {h h':Go.Ev.H} {v:V} (e:xTMade args h=some (v,h')):CallOk K Tryz.prog 63 args h v h':=by
 unfold xTMade at e
 split at e
 ·rename_i t
  obtain⟨X,ht,e⟩:=bind_of e
  have ht:=getTx_some ht
  cases e
  refine CallOk.goes fits Hh (by kernel_rfl) (by kernel_rfl) (by kernel_rfl) (show Tryz.f63.body=some _ from rfl) rfl ?_
  repeat (first
   | refine Goes.seq ?_
   | refine Goes.block ?_
   | refine Goes.loop ?_
   | refine Goes.skip ?_
   | refine Goes.exit ?_
   | refine Goes.ret ?_
   | refine Goes.condV (by simp (maxSteps:=9^6) +decide (disch:=first|omega|(simp only[lens]<;>omega)|decide) only [go_sem,readRow,loadIn,simprocAttr,ht,read1]<;>rfl) ?_
   | refine Goes.ops2 fits Hh E0_sound (by simp (maxSteps:=9^6) +decide (disch:=first|omega|(simp only[lens]<;>omega)|decide) only [go_sem,readRow,loadIn,simprocAttr,ht,read1]; rfl) ?_)
  simp (maxSteps:=9^6) +decide (disch:=first|omega|(simp only[lens]<;>omega)|decide) only [go_sem,readRow,loadIn,simprocAttr]<;>rfl
 ·cases e
theorem xTHand_ok {args:List W} {h h':Go.Ev.H} {v:V} (e:xTHand args h=some (v,h')):CallOk K Tryz.prog 182 args h v h':=by
 unfold xTHand at e
 split at e
 ·rename_i t
  obtain⟨X,ht,e⟩:=bind_of e
  have ht:=getTx_some ht
  obtain⟨bo,e⟩:=askB_some.1 e
  cases e
  refine CallOk.goes fits Hh (by kernel_rfl) (by kernel_rfl) (by kernel_rfl) (show Tryz.f182.body=some _ from rfl) rfl ?_
  repeat (first
   | refine Goes.seq ?_
   | refine Goes.block ?_
   | refine Goes.loop ?_
   | refine Goes.skip ?_
   | refine Goes.exit ?_
   | refine Goes.ret ?_
   | refine Goes.condV (by simp (maxSteps:=9^6) +decide (disch:=first|omega|(simp only[lens]<;>omega)|decide) only [go_sem,readRow,loadIn,simprocAttr,ht,bo,read1]<;>rfl) ?_
   | refine Goes.ops2 fits Hh (EX_sound E0_sound (fun _ _ _ _=>xTMade_ok Hh)) (by simp (maxSteps:=9^6) +decide (disch:=first|omega|(simp only[lens]<;>omega)|decide) only [go_sem,readRow,loadIn,simprocAttr,ht,bo,read1]; rfl) ?_)
  simp (maxSteps:=9^6) +decide (disch:=first|omega|(simp only[lens]<;>omega)|decide) only [go_sem,readRow,loadIn,simprocAttr]<;>rfl
 ·cases e
theorem xTAsk_ok {args:List W} {h h':Go.Ev.H} {v:V} (e:xTAsk args h=some (v,h')):CallOk K Tryz.prog 154 args h v h':=by
 unfold xTAsk at e
 split at e
 ·rename_i t z
  obtain⟨X,ht,e⟩:=bind_of e
  have ht:=getTx_some ht
  obtain⟨b,e⟩:=askB_some.1 e
  simp only[Bool.and_eq_true,decide_eq_true_eq] at b
  obtain⟨bo,z0⟩:=b
  cases e
  refine CallOk.goes fits Hh (by kernel_rfl) (by kernel_rfl) (by kernel_rfl) (show Tryz.f154.body=some _ from rfl) rfl ?_
  repeat (first
   | refine Goes.seq ?_
   | refine Goes.block ?_
   | refine Goes.loop ?_
   | refine Goes.skip ?_
   | refine Goes.exit ?_
   | refine Goes.ret ?_
   | refine Goes.condV (by simp (maxSteps:=9^6) +decide (disch:=first|omega|(simp only[lens]<;>omega)|decide) only [go_sem,readRow,loadIn,simprocAttr,ht,bo,read1]<;>rfl) ?_
   | refine Goes.ops2 fits Hh (EX_sound E0_sound (fun _ _ _ _=>xTHand_ok Hh)) (by simp (maxSteps:=9^6) +decide (disch:=first|omega|(simp only[lens]<;>omega)|decide) only [go_sem,readRow,loadIn,simprocAttr,ht,bo,read1]; rfl) ?_)
  simp (maxSteps:=9^6) +decide (disch:=first|omega|(simp only[lens]<;>omega)|decide) only [go_sem,readRow,loadIn,simprocAttr]<;>rfl
 ·cases e
theorem xTSeq_ok {args:List W} {h h':Go.Ev.H} {v:V} (e:xTSeq args h=some (v,h')):CallOk K Tryz.prog 20 args h v h':=by
 unfold xTSeq at e
 split at e
 ·rename_i t
  obtain⟨X,ht,e⟩:=bind_of e
  have ht:=getTx_some ht
  cases e
  refine CallOk.goes fits Hh (by kernel_rfl) (by kernel_rfl) (by kernel_rfl) (show Tryz.f20.body=some _ from rfl) rfl ?_
  repeat (first
   | refine Goes.seq ?_
   | refine Goes.block ?_
   | refine Goes.loop ?_
   | refine Goes.skip ?_
   | refine Goes.exit ?_
   | refine Goes.ret ?_
   | refine Goes.condV (by simp (maxSteps:=9^6) +decide (disch:=first|omega|(simp only[lens]<;>omega)|decide) only [go_sem,readRow,loadIn,simprocAttr,ht,read1]<;>rfl) ?_
   | refine Goes.ops2 fits Hh (EX_sound E0_sound (fun _ _ _ _=>xTMade_ok Hh)) (by simp (maxSteps:=9^6) +decide (disch:=first|omega|(simp only[lens]<;>omega)|decide) only [go_sem,readRow,loadIn,simprocAttr,ht,read1]; rfl) ?_)
  simp (maxSteps:=9^6) +decide (disch:=first|omega|(simp only[lens]<;>omega)|decide) only [go_sem,readRow,loadIn,simprocAttr]<;>rfl
 ·cases e
theorem xTOpen_ok {args:List W} {h h':Go.Ev.H} {v:V} (e:xTOpen args h=some (v,h')):CallOk K Tryz.prog 21 args h v h':=by
 unfold xTOpen at e
 split at e
 ·rename_i t
  obtain⟨X,ht,e⟩:=bind_of e
  have ht:=getTx_some ht
  cases e
  refine CallOk.goes fits Hh (by kernel_rfl) (by kernel_rfl) (by kernel_rfl) (show Tryz.f21.body=some _ from rfl) rfl ?_
  repeat (first
   | refine Goes.seq ?_
   | refine Goes.block ?_
   | refine Goes.loop ?_
   | refine Goes.skip ?_
   | refine Goes.exit ?_
   | refine Goes.ret ?_
   | refine Goes.condV (by simp (maxSteps:=9^6) +decide (disch:=first|omega|(simp only[lens]<;>omega)|decide) only [go_sem,readRow,loadIn,simprocAttr,ht,read1]<;>rfl) ?_
   | refine Goes.ops2 fits Hh (EX_sound E0_sound (fun _ _ _ _=>xTMade_ok Hh)) (by simp (maxSteps:=9^6) +decide (disch:=first|omega|(simp only[lens]<;>omega)|decide) only [go_sem,readRow,loadIn,simprocAttr,ht,read1]; rfl) ?_)
  simp (maxSteps:=9^6) +decide (disch:=first|omega|(simp only[lens]<;>omega)|decide) only [go_sem,readRow,loadIn,simprocAttr]<;>rfl
 ·cases e
theorem xTGet_ok {args:List W} {h h':Go.Ev.H} {v:V} (e:xTGet args h=some (v,h')):CallOk K Tryz.prog 115 args h v h':=by
 unfold xTGet at e
 split at e
 ·rename_i t z
  obtain⟨X,ht,e⟩:=bind_of e
  have ht:=getTx_some ht
  obtain⟨l,hm,e⟩:=bind_of e
  have hm:=getM_some hm
  refine CallOk.tidy ⟨Tryz.f115,Tryz.func115,by kernel_rfl,by decide⟩ fun tidy=>?_
  have lt:=tidy _ _ ht
  have lm:=tidy _ _ hm
  split at e
  ·rename_i y hl
   obtain⟨b,e⟩:=askB_some.1 e
   rw[Bool.and_eq_true] at b
   have yl:=Nat.eq_of_beq_eq_true b.1
   have yf:=b.2
   cases e
   obtain⟨v,h',c,rfl,hk⟩:∃ v h',CallOk K Tryz.prog 115 [.c (.ptr t 0),.c (.int .i64 z)] h v h'∧v=.tup [.g y,.c (.bool true)]∧∀ m,m<h.next→h'.get m=h.get m:=by
    refine CallOk.goesE fits Hh (by kernel_rfl) (by kernel_rfl) (by kernel_rfl) (show Tryz.f115.body=some _ from rfl) rfl ?_
    repeat (first
     | refine Goes.seq ?_
     | refine Goes.block ?_
     | refine Goes.loop ?_
     | refine Goes.skip ?_
     | refine Goes.exit ?_
     | refine Goes.ret ?_
     | refine Goes.condV (by simp (maxSteps:=9^6) +decide (disch:=first|omega|(simp only[lens]<;>omega)|decide) only [go_sem,loadIn,simprocAttr,ht,hm,hl,read1]<;>rfl) ?_
     | refine Goes.ops2 fits Hh (EX_sound E0_sound (fun _ _ _ _=>xTMade_ok Hh)) (by simp (maxSteps:=9^6) +decide (disch:=first|omega|(simp only[lens]<;>omega)|decide) only [go_sem,loadIn,simprocAttr,ht,hm,hl,read1]; rfl) ?_)
    exact⟨_,_,(by simp (maxSteps:=9^6) +decide (disch:=first|omega|(simp only[lens]<;>omega)|decide) only [go_sem,loadIn,simprocAttr,ht,hm,hl]<;>rfl),rfl,fun m hm=>by (first|(simp (discharger:=omega) only [H.get_put,H.get_new,H.get_del,H.next_new,H.next_put,H.next_del,if_neg]; done)|(simp only[H.get_put,H.get_new,H.get_del,H.next_new,H.next_put,H.next_del]; (repeat' split)<;>first|rfl|(exfalso; omega)|omega))⟩
   refine c.quiet ?_ hk
   show (y.all C.flat&&true)=true
   rw[yf]; rfl
  ·rename_i hl
   cases e
   obtain⟨v,h',c,rfl,hk⟩:∃ v h',CallOk K Tryz.prog 115 [.c (.ptr t 0),.c (.int .i64 z)] h v h'∧v=.tup [.g (List.replicate 256 (.int .u8 0)),.c (.bool false)]∧∀ m,m<h.next→h'.get m=h.get m:=by
    refine CallOk.goesE fits Hh (by kernel_rfl) (by kernel_rfl) (by kernel_rfl) (show Tryz.f115.body=some _ from rfl) rfl ?_
    repeat (first
     | refine Goes.seq ?_
     | refine Goes.block ?_
     | refine Goes.loop ?_
     | refine Goes.skip ?_
     | refine Goes.exit ?_
     | refine Goes.ret ?_
     | refine Goes.condV (by simp (maxSteps:=9^6) +decide (disch:=first|omega|(simp only[lens]<;>omega)|decide) only [go_sem,loadIn,simprocAttr,ht,hm,hl,read1]<;>rfl) ?_
     | refine Goes.ops2 fits Hh (EX_sound E0_sound (fun _ _ _ _=>xTMade_ok Hh)) (by simp (maxSteps:=9^6) +decide (disch:=first|omega|(simp only[lens]<;>omega)|decide) only [go_sem,loadIn,simprocAttr,ht,hm,hl,read1]; rfl) ?_)
    exact⟨_,_,(by simp (maxSteps:=9^6) +decide (disch:=first|omega|(simp only[lens]<;>omega)|decide) only [go_sem,loadIn,simprocAttr,ht,hm,hl]<;>rfl),rfl,fun m hm=>by (first|(simp (discharger:=omega) only [H.get_put,H.get_new,H.get_del,H.next_new,H.next_put,H.next_del,if_neg]; done)|(simp only[H.get_put,H.get_new,H.get_del,H.next_new,H.next_put,H.next_del]; (repeat' split)<;>first|rfl|(exfalso; omega)|omega))⟩
   exact c.quiet (by kernel_rfl) hk
 ·cases e
end
end Go.Proofs.YtlbbmhgdcdcdnaaGreatDoor
set_option maxRecDepth 100000
namespace Go.Proofs.YtlbbmhgdcdcdnaaGreatDoor
open Go.Ev
theorem nbeq_ne {a b:Nat} (h:Nat.beq a b=false):a≠b:=fun e=>by rw[e,Nat.beq_refl] at h; cases h
theorem lfVoids (m:Nat):lenFits K 128 (.c (.map m))=true:=by kernel_rfl
attribute [go_sem] lfVoids
section
variable (Hh:Hearts K Tryz.prog)
include Hh
set_option maxHeartbeats 1000000 in
theorem xTPut_ok {args:List W} {h h':Go.Ev.H} {v:V} (e:xTPut args h=some (v,h')):CallOk K Tryz.prog 120 args h v h':=by
 unfold xTPut at e
 split at e
 ·rename_i t z x
  obtain⟨X,ht,e⟩:=bind_of e
  have ht:=getTx_some ht
  obtain⟨to,hto,e⟩:=bind_of e
  have hto:=toN_some hto
  obtain⟨lt,hlt,e⟩:=bind_of e
  have hlt:=getM_some hlt
  obtain⟨lc,hlc,e⟩:=bind_of e
  have hlc:=getM_some hlc
  obtain⟨lf,hlf,e⟩:=bind_of e
  have hlf:=getM_some hlf
  obtain⟨m,hr,e⟩:=bind_of e
  have hrv:=hr
  have hr:=getRv_some hr
  obtain⟨b,e⟩:=askB_some.1 e
  cases e
  refine CallOk.tidy ⟨Tryz.f120,Tryz.func120,by kernel_rfl,by decide⟩ fun tidy=>?_
  have l1:=tidy _ _ ht
  have l2:=tidy _ _ hlt
  have l3:=tidy _ _ hlc
  have l4:=tidy _ _ hlf
  have l5:=tidy _ _ hr
  simp only[Bool.and_eq_true,decide_eq_true_eq,Bool.not_eq_true'] at b
  obtain⟨⟨⟨⟨⟨⟨⟨⟨⟨⟨⟨⟨⟨⟨⟨⟨⟨⟨⟨⟨bo,z0⟩,bm⟩,bc⟩,bx⟩,xf⟩,f1⟩,f2⟩,f3⟩,c1⟩,c2⟩,c3⟩,c4⟩,c5⟩,c6⟩,c7⟩,c8⟩,c9⟩,c10⟩,c11⟩,c12⟩:=b
  have hm:=voidM_true bm
  have l6:=tidy _ _ hm
  have xl:=Nat.eq_of_beq_eq_true bx
  have n1:=nbeq_ne c1
  have n2:=nbeq_ne c2
  have n3:=nbeq_ne c3
  have n4:=nbeq_ne c4
  have n5:=nbeq_ne c5
  have n6:=nbeq_ne c6
  have n7:=nbeq_ne c7
  have n8:=nbeq_ne c8
  have n9:=nbeq_ne c9
  have n10:=nbeq_ne c10
  have n11:=nbeq_ne c11
  have n12:=nbeq_ne c12
  obtain⟨v,h',c,rfl,hk⟩:∃ v h',CallOk K Tryz.prog 120 [.c (.ptr t 0),.c (.int .i64 z),.g x] h v h'∧v=.w (.c (.int .i64 0))∧∀ j,j<h.next→h'.get j=(((h.put to (.map (ents (updE z [] lt)))).put X.ch (.map (ents (updE z x lc)))).put X.fr (.map (ents (delE z lf)))).get j:=by
   rcases hl:lookE z lt with _|y
   ·rw[hl] at bc
    have bc:=of_decide_eq_true bc
    refine CallOk.goesE fits Hh (by kernel_rfl) (by kernel_rfl) (by kernel_rfl) (show Tryz.f120.body=some _ from rfl) rfl ?_
    repeat (first
     | refine Goes.seq ?_
     | refine Goes.block ?_
     | refine Goes.loop ?_
     | refine Goes.skip ?_
     | refine Goes.exit ?_
     | refine Goes.ret ?_
     | refine Goes.condV (by simp (maxSteps:=9^6) +decide (disch:=first|omega|(simp only[lens]<;>omega)|decide) only [go_sem,loadIn,simprocAttr,ht,hto,hlt,hlc,hlf,hr,hm,bo,hl,xl,ents_len,read1,opBuiltin,opLen]<;>rfl) ?_
     | refine Goes.ops2 fits Hh (EX_sound (EX_sound E0_sound (fun _ _ _ _=>xTAsk_ok Hh)) (fun _ _ _ _=>xRCancel_ok Hh)) (by simp (maxSteps:=9^6) +decide (disch:=first|omega|(simp only[lens]<;>omega)|decide) only [go_sem,loadIn,simprocAttr,ht,hto,hlt,hlc,hlf,hr,hm,bo,hl,xl,ents_len,read1,opBuiltin,opLen]; rfl) ?_
     | refine Goes.drawn2 fits Hh (EX_sound (EX_sound E0_sound (fun _ _ _ _=>xTAsk_ok Hh)) (fun _ _ _ _=>xRCancel_ok Hh)) (by kernel_rfl) (by simp (maxSteps:=9^6) +decide (disch:=first|omega|(simp only[lens]<;>omega)|decide) only [go_sem,loadIn,simprocAttr,op_move,op_assign,op_binOp,op_unOp,op_convert,op_load,op_store,op_indexAddr,op_alloc,op_pick,op_box,op_build,op_buildSlice,op_nilCheck,op_makeSlice,op_fieldAddr,op_field,op_extract,op_lookup,op_mapUpdate,op_builtin,op_index,drEnd,drAll,drOne,drTs,drKd,drPure,drRead,drAlloc,drEff,drSkip,drPut,putT_ok,putT_none,cutT,looks,tmpOf,Op.operands,Call.operands,kd,kdCall,List.filterMap_cons,List.filterMap_nil,List.append_nil,List.nil_append,List.cons_append,stables,stable,reachAt,reachP,waitsAt,waits,gives_self,List.all_cons,List.all_nil,List.any_cons,List.any_nil,Region.binds,Bool.or_true,Bool.true_or,Bool.and_true,Bool.true_and,Bool.or_false,Bool.false_or,Bool.and_self,Bool.or_self,ble_true,Nat.le_refl,Nat.le_add_right,List.map_cons,Array.toList_append,ht,hto,hlt,hlc,hlf,hr,hm,bo,hl,xl,ents_len,read1,opBuiltin,opLen]; rfl) ?_)
    exact⟨_,_,(by simp (maxSteps:=9^6) +decide (disch:=first|omega|(simp only[lens]<;>omega)|decide) only [go_sem,readRow,loadIn,simprocAttr]<;>rfl),rfl,fun j hj=>by (first|(simp (discharger:=omega) only [H.get_put,H.get_new,H.get_del,H.next_new,H.next_put,H.next_del,if_neg]; done)|(simp only[H.get_put,H.get_new,H.get_del,H.next_new,H.next_put,H.next_del]; (repeat' split)<;>first|rfl|(exfalso; omega)|omega))⟩
   ·rw[hl] at bc
    rcases y with _|⟨y0,y⟩
    ·
     refine CallOk.goesE fits Hh (by kernel_rfl) (by kernel_rfl) (by kernel_rfl) (show Tryz.f120.body=some _ from rfl) rfl ?_
     repeat (first
      | refine Goes.seq ?_
      | refine Goes.block ?_
      | refine Goes.loop ?_
      | refine Goes.skip ?_
      | refine Goes.exit ?_
      | refine Goes.ret ?_
      | refine Goes.condV (by simp (maxSteps:=9^6) +decide (disch:=first|omega|(simp only[lens]<;>omega)|decide) only [go_sem,loadIn,simprocAttr,ht,hto,hlt,hlc,hlf,hr,hm,bo,hl,xl,ents_len,read1,opBuiltin,opLen]<;>rfl) ?_
      | refine Goes.ops2 fits Hh (EX_sound (EX_sound E0_sound (fun _ _ _ _=>xTAsk_ok Hh)) (fun _ _ _ _=>xRCancel_ok Hh)) (by simp (maxSteps:=9^6) +decide (disch:=first|omega|(simp only[lens]<;>omega)|decide) only [go_sem,loadIn,simprocAttr,ht,hto,hlt,hlc,hlf,hr,hm,bo,hl,xl,ents_len,read1,opBuiltin,opLen]; rfl) ?_
      | refine Goes.drawn2 fits Hh (EX_sound (EX_sound E0_sound (fun _ _ _ _=>xTAsk_ok Hh)) (fun _ _ _ _=>xRCancel_ok Hh)) (by kernel_rfl) (by simp (maxSteps:=9^6) +decide (disch:=first|omega|(simp only[lens]<;>omega)|decide) only [go_sem,loadIn,simprocAttr,op_move,op_assign,op_binOp,op_unOp,op_convert,op_load,op_store,op_indexAddr,op_alloc,op_pick,op_box,op_build,op_buildSlice,op_nilCheck,op_makeSlice,op_fieldAddr,op_field,op_extract,op_lookup,op_mapUpdate,op_builtin,op_index,drEnd,drAll,drOne,drTs,drKd,drPure,drRead,drAlloc,drEff,drSkip,drPut,putT_ok,putT_none,cutT,looks,tmpOf,Op.operands,Call.operands,kd,kdCall,List.filterMap_cons,List.filterMap_nil,List.append_nil,List.nil_append,List.cons_append,stables,stable,reachAt,reachP,waitsAt,waits,gives_self,List.all_cons,List.all_nil,List.any_cons,List.any_nil,Region.binds,Bool.or_true,Bool.true_or,Bool.and_true,Bool.true_and,Bool.or_false,Bool.false_or,Bool.and_self,Bool.or_self,ble_true,Nat.le_refl,Nat.le_add_right,List.map_cons,Array.toList_append,ht,hto,hlt,hlc,hlf,hr,hm,bo,hl,xl,ents_len,read1,opBuiltin,opLen]; rfl) ?_)
     exact⟨_,_,(by simp (maxSteps:=9^6) +decide (disch:=first|omega|(simp only[lens]<;>omega)|decide) only [go_sem,readRow,loadIn,simprocAttr]<;>rfl),rfl,fun j hj=>by (first|(simp (discharger:=omega) only [H.get_put,H.get_new,H.get_del,H.next_new,H.next_put,H.next_del,if_neg]; done)|(simp only[H.get_put,H.get_new,H.get_del,H.next_new,H.next_put,H.next_del]; (repeat' split)<;>first|rfl|(exfalso; omega)|omega))⟩
    ·cases bc
  exact c.settle ((((NearH.refl tidy).put l2 (low_map (flat_upd rfl f1))).put l3 (low_map (flat_upd xf f2))).put l4 (low_map (flat_del f3))) (LowV.flat rfl) hk
 ·cases e
end
end Go.Proofs.YtlbbmhgdcdcdnaaGreatDoor
