/- Transactions: made, handle, askB, Seq, Open, Get, Put, Order, close, End; the revoked blocks, if there are none. -/
import Derived.Test.YtngejdlimkgjfaaGreatDoorCch
import Derived.Test.YtngejdlimkgjfaaGreatDoorEvC
set_option linter.unusedSimpArgs false
set_option linter.unusedVariables false
set_option linter.unusedSectionVars false
set_option maxRecDepth 100000
namespace Go.Proofs.YtngejdlimkgjfaaGreatDoor
open Go.Ev
theorem ty27:K.types.get 27=some ti27:=by kernel_rfl
theorem sz27:ti27.size=1:=by rfl
theorem ag27:ti27.agg=false:=by rfl
theorem de27:ti27.desc=(.int .u32):=by rfl
theorem ze27:ti27.zero=(.c (.int .u32 0)):=by rfl
theorem by27:ti27.bytes=4:=by rfl
theorem ke27 (k:IntKind) (n:Int):Es K 20 27 (.c (.int k n))=true:=by kernel_rfl
theorem ty60:K.types.get 60=some ti60:=by kernel_rfl
theorem sz60:ti60.size=1:=by rfl
theorem ag60:ti60.agg=false:=by rfl
theorem de60:ti60.desc=(.pointer 141):=by rfl
theorem ze60:ti60.zero=(.c (.pnil)):=by rfl
theorem by60:ti60.bytes=8:=by rfl
theorem ty135:K.types.get 135=some ti135:=by kernel_rfl
theorem sz135:ti135.size=1:=by rfl
theorem ag135:ti135.agg=false:=by rfl
theorem de135:ti135.desc=(.map 3 47):=by rfl
theorem ze135:ti135.zero=(.c (.mnil)):=by rfl
theorem by135:ti135.bytes=8:=by rfl
theorem mp135:Df K 135=some (3,47):=by kernel_rfl
theorem ty137:K.types.get 137=some ti137:=by kernel_rfl
theorem sz137:ti137.size=1:=by rfl
theorem ag137:ti137.agg=false:=by rfl
theorem de137:ti137.desc=(.pointer 226):=by rfl
theorem ze137:ti137.zero=(.c (.pnil)):=by rfl
theorem by137:ti137.bytes=8:=by rfl
theorem ty139:K.types.get 139=some ti139:=by kernel_rfl
theorem sz139:ti139.size=4:=by rfl
theorem ag139:ti139.agg=true:=by rfl
theorem fo139_0:Zu K 139 0=some (0,ti135):=by kernel_rfl
theorem fo139_1:Zu K 139 1=some (1,ti136):=by kernel_rfl
theorem fo139_2:Zu K 139 2=some (2,ti136):=by kernel_rfl
theorem fo139_3:Zu K 139 3=some (3,ti137):=by kernel_rfl
theorem bu139 (ps:List (Nat × W)):Yq K 139 (some ps)=gW (Yb K 139 ps ti139.zero.cells):=by kernel_rfl
theorem ze139:ti139.zero=(.g ([.mnil,.mnil,.mnil,.pnil])):=by rfl
theorem by139:ti139.bytes=32:=by rfl
theorem ty141:K.types.get 141=some ti141:=by kernel_rfl
theorem sz141:ti141.size=13:=by rfl
theorem ag141:ti141.agg=true:=by rfl
theorem fo141_0:Zu K 141 0=some (0,ti139):=by kernel_rfl
theorem fo141_1:Zu K 141 1=some (4,ti27):=by kernel_rfl
theorem fo141_2:Zu K 141 2=some (5,ti4):=by kernel_rfl
theorem fo141_3:Zu K 141 3=some (6,ti3):=by kernel_rfl
theorem fo141_4:Zu K 141 4=some (7,ti3):=by kernel_rfl
theorem fo141_5:Zu K 141 5=some (8,ti136):=by kernel_rfl
theorem fo141_6:Zu K 141 6=some (9,ti139):=by kernel_rfl
theorem bu141 (ps:List (Nat × W)):Yq K 141 (some ps)=gW (Yb K 141 ps ti141.zero.cells):=by kernel_rfl
theorem ze141:ti141.zero=(.g ([.mnil,.mnil,.mnil,.pnil,.int .u32 0,.bool false,.int .i64 0,.int .i64 0,.mnil,.mnil,.mnil,.mnil,.pnil])):=by rfl
theorem by141:ti141.bytes=96:=by rfl
theorem ty224:K.types.get 224=some ti224:=by kernel_rfl
theorem sz224:ti224.size=1:=by rfl
theorem ag224:ti224.agg=false:=by rfl
theorem de224:ti224.desc=(.map 228 207):=by rfl
theorem ze224:ti224.zero=(.c (.mnil)):=by rfl
theorem by224:ti224.bytes=8:=by rfl
theorem mp224:Df K 224=some (228,207):=by kernel_rfl
theorem ty226:K.types.get 226=some ti226:=by kernel_rfl
theorem sz226:ti226.size=1:=by rfl
theorem ag226:ti226.agg=true:=by rfl
theorem fo226_0:Zu K 226 0=some (0,ti224):=by kernel_rfl
theorem bu226 (ps:List (Nat × W)):Yq K 226 (some ps)=gW (Yb K 226 ps ti226.zero.cells):=by kernel_rfl
theorem ze226:ti226.zero=(.g ([.mnil])):=by rfl
theorem by226:ti226.bytes=8:=by rfl
theorem ty228:K.types.get 228=some ti228:=by kernel_rfl
theorem sz228:ti228.size=2:=by rfl
theorem ag228:ti228.agg=true:=by rfl
theorem fo228_0:Zu K 228 0=some (0,ti3):=by kernel_rfl
theorem fo228_1:Zu K 228 1=some (1,ti27):=by kernel_rfl
theorem bu228 (ps:List (Nat × W)):Yq K 228 (some ps)=gW (Yb K 228 ps ti228.zero.cells):=by kernel_rfl
theorem ze228:ti228.zero=(.g ([.int .i64 0,.int .u32 0])):=by rfl
theorem by228:ti228.bytes=16:=by rfl
attribute [go_sem] ty3 sz3 ag3 de3 ze3 by3 ke3 ty4 sz4 ag4 de4 ze4 by4 ty5 sz5 ag5 de5 ze5 by5 ke5 ty27 sz27 ag27 de27 ze27 by27 ke27 ty37 sz37 ag37 de37 ze37 by37 ke37 ty47 sz47 ag47 de47 ze47 by47 eq47 ty60 sz60 ag60 de60 ze60 by60 ty135 sz135 ag135 de135 ze135 by135 mp135 ty136 sz136 ag136 de136 ze136 by136 mp136 ty137 sz137 ag137 de137 ze137 by137 ty139 sz139 ag139 fo139_0 fo139_1 fo139_2 fo139_3 bu139 ze139 by139 ty141 sz141 ag141 fo141_0 fo141_1 fo141_2 fo141_3 fo141_4 fo141_5 fo141_6 bu141 ze141 by141 ty207 sz207 ag207 bu207 ze207 by207 ty224 sz224 ag224 de224 ze224 by224 mp224 ty226 sz226 ag226 fo226_0 bu226 ze226 by226 ty228 sz228 ag228 fo228_0 fo228_1 bu228 ze228 by228
theorem rs143:Tryz.f143.results.toList=[.tmp 2]:=rfl
theorem rs159:Tryz.f159.results.toList=[.tmp 4]:=rfl
theorem rs163:Tryz.f163.results.toList=[.tmp 6]:=rfl
theorem rs73:Tryz.f73.results.toList=[.tmp 2]:=rfl
theorem rs90:Tryz.f90.results.toList=[.tmp 2]:=rfl
theorem rs162:Tryz.f162.results.toList=[.tmp 4]:=rfl
theorem rs23:Tryz.f23.results.toList=[.tmp 2]:=rfl
theorem rs24:Tryz.f24.results.toList=[.tmp 2]:=rfl
theorem rs69:Tryz.f69.results.toList=[.cell 4 47,.tmp 5]:=rfl
theorem rs132:Tryz.f132.results.toList=[.tmp 6]:=rfl
theorem rs91:Tryz.f91.results.toList=[]:=rfl
attribute [go_sem] rs143 rs159 rs163 rs73 rs90 rs162 rs23 rs24 rs69 rs132 rs91
structure Tx where
 ch:Nat
 od:Nat
 fr:Nat
 rv:Nat
 sq:Int
 op:Bool
 cr:Int
 rk:Int
 to:C
 b1:C
 b2:C
 b3:C
 b4:C
def txL (X:Tx):List C:=[.map X.ch,.map X.od,.map X.fr,.ptr X.rv 0,.int .u32 X.sq,.bool X.op,.int .i64 X.cr,.int .i64 X.rk,X.to,X.b1,X.b2,X.b3,X.b4]
attribute [go_sem] txL
noncomputable def Bi (h:Go.Ev.H) (t:Nat):Option Tx:=match h.get t with
 | some (.row sz [[.map ch,.map od,.map fr,.ptr rv o,.int .u32 sq,.bool op,.int .i64 cr,.int .i64 rk,to,b1,b2,b3,b4]] ro)=>Y9 (Nat.beq sz 13&&Nat.beq o 0&&!ro) (some ⟨ch,od,fr,rv,sq,op,cr,rk,to,b1,b2,b3,b4⟩)
 | _=>none
theorem Jj {h:Go.Ev.H} {t:Nat} {X:Tx} (e:Bi h t=some X):h.get t=some (.row 13 [txL X] false):=by
 unfold Bi at e
 split at e
 ·rename_i heq
  obtain⟨b,e⟩:=Zv.1 e
  cases e
  simp only[Bool.and_eq_true,Bool.not_eq_true'] at b
  obtain⟨⟨b1,b2⟩,rfl⟩:=b
  obtain rfl:=Nat.eq_of_beq_eq_true b1
  obtain rfl:=Nat.eq_of_beq_eq_true b2
  exact heq
 ·cases e
noncomputable def Tn (h:Go.Ev.H) (r:Nat):Option Nat:=match h.get r with
 | some (.row sz [[.map m]] ro)=>Y9 (Nat.beq sz 1&&!ro) (some m)
 | _=>none
theorem O7 {h:Go.Ev.H} {r m:Nat} (e:Tn h r=some m):h.get r=some (.row 1 [[.map m]] false):=by
 unfold Tn at e
 split at e
 ·rename_i heq
  obtain⟨b,e⟩:=Zv.1 e
  cases e
  simp only[Bool.and_eq_true,Bool.not_eq_true'] at b
  obtain⟨b1,rfl⟩:=b
  obtain rfl:=Nat.eq_of_beq_eq_true b1
  exact heq
 ·cases e
noncomputable def Dt (h:Go.Ev.H) (m:Nat):Bool:=match h.get m with
 | some (.map [])=>true
 | _=>false
theorem Jk {h:Go.Ev.H} {m:Nat} (e:Dt h m=true):h.get m=some (.map []):=by
 unfold Dt at e
 split at e
 ·assumption
 ·cases e
def toN:C→Option Nat
 | .map m=>some m
 | _=>none
theorem Wt {c:C} {m:Nat} (e:toN c=some m):c=.map m:=by
 cases c<;>first|(cases e; rfl)|cases e
theorem Zfz (m:Nat):toN (.map m)=some m:=rfl
theorem Z3d (kt:TypeId) (k:W):Znz K kt k []=some []:=rfl
noncomputable def Zqt:Kn1:=fun args h=>match args with
 | [.c (.ptr r 0)]=>(Tn h r).bind fun _=>some (.w (.c (.bool true)),h)
 | _=>none
noncomputable def Zzp:Kn1:=fun args h=>match args with
 | [.c (.ptr r 0),.c (.int .i64 z)]=>(Tn h r).bind fun _=>Y9 (decide (0≤z)) (some (.w (.c (.int .i64 0)),h))
 | _=>none
noncomputable def Zhm:Kn1:=fun args h=>match args with
 | [.c (.ptr r 0),.c (.int .i64 z),.c (.int .u32 _)]=>(Tn h r).bind fun m=>Y9 (decide (0≤z)&&Dt h m) (some (.w (.c (.int .i64 0)),h))
 | _=>none
noncomputable def Zr6:Kn1:=fun args h=>match args with
 | [.c (.ptr t 0)]=>(Bi h t).bind fun _=>some (.w (.c (.bool true)),h)
 | _=>none
noncomputable def Zpt:Kn1:=fun args h=>match args with
 | [.c (.ptr t 0)]=>(Bi h t).bind fun X=>Y9 X.op (some (.w (.c (.int .i64 0)),h))
 | _=>none
noncomputable def Zw1:Kn1:=fun args h=>match args with
 | [.c (.ptr t 0),.c (.int .i64 z)]=>(Bi h t).bind fun X=>Y9 (X.op&&decide (0≤z)) (some (.w (.c (.int .i64 0)),h))
 | _=>none
noncomputable def Zxz:Kn1:=fun args h=>match args with
 | [.c (.ptr t 0)]=>(Bi h t).bind fun X=>some (.w (.c (.int .u32 X.sq)),h)
 | _=>none
noncomputable def Zpq:Kn1:=fun args h=>match args with
 | [.c (.ptr t 0)]=>(Bi h t).bind fun X=>some (.w (.c (.bool X.op)),h)
 | _=>none
noncomputable def Zxe:Kn1:=fun args h=>match args with
 | [.c (.ptr t 0),.c (.int .i64 z)]=>(Bi h t).bind fun X=>(getM h X.ch).bind fun l=>match Oi z l with
  | some y=>Y9 (Nat.beq y.length 256&&y.all C.flat) (some (.tup [.g y,.c (.bool true)],h))
  | none=>some (.tup [.g (List.replicate 256 (.int .u8 0)),.c (.bool false)],h)
 | _=>none
noncomputable def Zgc:Kn1:=fun args h=>match args with
 | [.c (.ptr t 0),.c (.int .i64 z),.g x]=>(Bi h t).bind fun X=>(toN X.to).bind fun to=>(getM h to).bind fun lt=>(getM h X.ch).bind fun lc=>(getM h X.fr).bind fun lf=>(Tn h X.rv).bind fun m =>
  Y9 (X.op&&decide (0≤z)&&Dt h m&&(match Oi z lt with|none=>decide ((lt.length:Int)<X.cr)|some []=>true|some (_ :: _)=>false)&&Nat.beq x.length 256&&x.all C.flat&&Gc lt&&Gc lc&&Gc lf&&!(Nat.beq to X.ch)&&!(Nat.beq to X.fr)&&!(Nat.beq X.ch X.fr)&&!(Nat.beq to m)&&!(Nat.beq X.ch m)&&!(Nat.beq X.fr m)&&!(Nat.beq to t)&&!(Nat.beq X.ch t)&&!(Nat.beq X.fr t)&&!(Nat.beq to X.rv)&&!(Nat.beq X.ch X.rv)&&!(Nat.beq X.fr X.rv))
   (some (.w (.c (.int .i64 0)),((h.put to (.map (J5 (J2 z [] lt)))).put X.ch (.map (J5 (J2 z x lc)))).put X.fr (.map (J5 (Zh0 z lf)))))
 | _=>none
noncomputable def Z1u:Kn1:=fun args h=>match args with
 | [.c (.ptr t 0),.c (.int .i64 z)]=>(Bi h t).bind fun X=>(getM h X.od).bind fun l=>Y9 (X.op&&decide (0≤z)) (some (.w (.c (.int .i64 0)),h.put X.od (.map (J5 (J2 z [] l)))))
 | _=>none
def Zwm (X:Tx):Tx:={ X with op:=false,cr:=0,rk:=0,to:=.mnil,b1:=.mnil,b2:=.mnil,b3:=.mnil,b4:=.pnil }
noncomputable def Zbg (h:Go.Ev.H) (t:Nat) (X:Tx):Go.Ev.H:=((((h.put t (.row 13 [txL { X with op:=false }] false)).put t (.row 13 [txL { X with op:=false,cr:=0 }] false)).put t (.row 13 [txL { X with op:=false,cr:=0,rk:=0 }] false)).put t (.row 13 [txL { X with op:=false,cr:=0,rk:=0,to:=.mnil }] false)).put t (.row 13 [txL (Zwm X)] false)
noncomputable def Zlk:Kn1:=fun args h=>match args with
 | [.c (.ptr t 0)]=>(Bi h t).bind fun X=>some (.tup [],Zbg h t X)
 | _=>none
noncomputable def Z48:Kn1:=fun args h=>match args with
 | [.c (.ptr t 0)]=>(Bi h t).bind fun X=>Y9 X.op (some (.w (.c (.int .i64 0)),Zbg h t X))
 | _=>none
attribute [go_sem] Bi Tn Dt Zfz Z3d Zqt Zzp Zhm Zr6 Zpt Zw1 Zxz Zpq Zxe Zgc Z1u Zlk Z48
theorem Z47 (a s:Int):Es K 20 228 (.g [.int .i64 a,.int .u32 s])=true:=by kernel_rfl
attribute [go_sem] Z47
section
variable (Hh:Hearts K Tryz.prog)
include Hh
theorem Zjs {args:List W} {h h':Go.Ev.H} {v:V} (e:Zqt args h=some (v,h')):Ze K Tryz.prog 143 args h v h':=by
 unfold Zqt at e
 split at e
 ·rename_i r
  obtain⟨m,hr,e⟩:=Zo e
  have hr:=O7 hr
  cases e
  refine Ze.goes fits Hh (by kernel_rfl) (by kernel_rfl) (by kernel_rfl) (show Tryz.f143.body=some _ from rfl) rfl ?_
  repeat (first|apply Goes.seq|apply Goes.block|apply Goes.loop|apply Goes.skip|apply Goes.exit|apply Goes.ret|((first|apply Goes.Zr|apply Goes.ops2 fits Hh Zc); · simp (maxSteps:=9^6) +decide (disch:=first|omega|(simp only[lens]<;>omega)|decide) only [go_sem,Zf,Za,simprocAttr,hr,read1]<;>rfl))
  simp (maxSteps:=9^6) +decide (disch:=first|omega|(simp only[lens]<;>omega)|decide) only [go_sem,Zf,Za,simprocAttr]<;>rfl
 ·cases e
theorem Zxm {args:List W} {h h':Go.Ev.H} {v:V} (e:Zzp args h=some (v,h')):Ze K Tryz.prog 159 args h v h':=by
 unfold Zzp at e
 split at e
 ·rename_i r z
  obtain⟨m,hr,e⟩:=Zo e
  have hr:=O7 hr
  obtain⟨b,e⟩:=Zv.1 e
  have z0:=of_decide_eq_true b
  cases e
  refine Ze.goes fits Hh (by kernel_rfl) (by kernel_rfl) (by kernel_rfl) (show Tryz.f159.body=some _ from rfl) rfl ?_
  repeat (first|apply Goes.seq|apply Goes.block|apply Goes.loop|apply Goes.skip|apply Goes.exit|apply Goes.ret|((first|apply Goes.Zr|apply Goes.ops2 fits Hh (Zh Zc (fun _ _ _ _=>Zjs Hh))); · simp (maxSteps:=9^6) +decide (disch:=first|omega|(simp only[lens]<;>omega)|decide) only [go_sem,Zf,Za,simprocAttr,hr,read1]<;>rfl))
  simp (maxSteps:=9^6) +decide (disch:=first|omega|(simp only[lens]<;>omega)|decide) only [go_sem,Zf,Za,simprocAttr]<;>rfl
 ·cases e
theorem Rk {args:List W} {h h':Go.Ev.H} {v:V} (e:Zhm args h=some (v,h')):Ze K Tryz.prog 163 args h v h':=by
 unfold Zhm at e
 split at e
 ·rename_i r z s
  obtain⟨m,hr,e⟩:=Zo e
  have hr:=O7 hr
  obtain⟨b,e⟩:=Zv.1 e
  simp only[Bool.and_eq_true,decide_eq_true_eq] at b
  obtain⟨z0,b⟩:=b
  have hm:=Jk b
  cases e
  obtain⟨v,h',c,rfl,hk⟩:∃ v h',Ze K Tryz.prog 163 [.c (.ptr r 0),.c (.int .i64 z),.c (.int .u32 s)] h v h'∧v=.w (.c (.int .i64 0))∧∀ j,j<h.next→h'.get j=h.get j:=by
   refine Ze.Z8 fits Hh (by kernel_rfl) (by kernel_rfl) (by kernel_rfl) (show Tryz.f163.body=some _ from rfl) rfl ?_
   repeat (first|apply Goes.seq|apply Goes.block|apply Goes.loop|apply Goes.skip|apply Goes.exit|apply Goes.ret|((first|apply Goes.Zr|apply Goes.ops2 fits Hh (Zh Zc (fun _ _ _ _=>Zxm Hh))); · simp (maxSteps:=9^6) +decide (disch:=first|omega|(simp only[lens]<;>omega)|decide) only [go_sem,Zf,Za,simprocAttr,hr,hm,read1,Zt,Wy,Zdn]<;>rfl))
   exact⟨_,_,(by simp (maxSteps:=9^6) +decide (disch:=first|omega|(simp only[lens]<;>omega)|decide) only [go_sem,Zf,Za,simprocAttr,hr,hm]<;>rfl),rfl,fun j _=>by rw[H.get_put]; split<;>first|(rename_i ej; rw[ej,hm])|rfl⟩
  exact c.quiet rfl hk
 ·cases e
theorem Da {args:List W} {h h':Go.Ev.H} {v:V} (e:Zr6 args h=some (v,h')):Ze K Tryz.prog 73 args h v h':=by
 unfold Zr6 at e
 split at e
 ·rename_i t
  obtain⟨X,ht,e⟩:=Zo e
  have ht:=Jj ht
  cases e
  refine Ze.goes fits Hh (by kernel_rfl) (by kernel_rfl) (by kernel_rfl) (show Tryz.f73.body=some _ from rfl) rfl ?_
  repeat (first|apply Goes.seq|apply Goes.block|apply Goes.loop|apply Goes.skip|apply Goes.exit|apply Goes.ret|((first|apply Goes.Zr|apply Goes.ops2 fits Hh Zc); · simp (maxSteps:=9^6) +decide (disch:=first|omega|(simp only[lens]<;>omega)|decide) only [go_sem,Zf,Za,simprocAttr,ht,read1]<;>rfl))
  simp (maxSteps:=9^6) +decide (disch:=first|omega|(simp only[lens]<;>omega)|decide) only [go_sem,Zf,Za,simprocAttr]<;>rfl
 ·cases e
theorem Zjz {args:List W} {h h':Go.Ev.H} {v:V} (e:Zpt args h=some (v,h')):Ze K Tryz.prog 90 args h v h':=by
 unfold Zpt at e
 split at e
 ·rename_i t
  obtain⟨X,ht,e⟩:=Zo e
  have ht:=Jj ht
  obtain⟨bo,e⟩:=Zv.1 e
  cases e
  refine Ze.goes fits Hh (by kernel_rfl) (by kernel_rfl) (by kernel_rfl) (show Tryz.f90.body=some _ from rfl) rfl ?_
  repeat (first|apply Goes.seq|apply Goes.block|apply Goes.loop|apply Goes.skip|apply Goes.exit|apply Goes.ret|((first|apply Goes.Zr|apply Goes.ops2 fits Hh (Zh Zc (fun _ _ _ _=>Da Hh))); · simp (maxSteps:=9^6) +decide (disch:=first|omega|(simp only[lens]<;>omega)|decide) only [go_sem,Zf,Za,simprocAttr,ht,bo,read1]<;>rfl))
  simp (maxSteps:=9^6) +decide (disch:=first|omega|(simp only[lens]<;>omega)|decide) only [go_sem,Zf,Za,simprocAttr]<;>rfl
 ·cases e
theorem Zc4 {args:List W} {h h':Go.Ev.H} {v:V} (e:Zw1 args h=some (v,h')):Ze K Tryz.prog 162 args h v h':=by
 unfold Zw1 at e
 split at e
 ·rename_i t z
  obtain⟨X,ht,e⟩:=Zo e
  have ht:=Jj ht
  obtain⟨b,e⟩:=Zv.1 e
  simp only[Bool.and_eq_true,decide_eq_true_eq] at b
  obtain⟨bo,z0⟩:=b
  cases e
  refine Ze.goes fits Hh (by kernel_rfl) (by kernel_rfl) (by kernel_rfl) (show Tryz.f162.body=some _ from rfl) rfl ?_
  repeat (first|apply Goes.seq|apply Goes.block|apply Goes.loop|apply Goes.skip|apply Goes.exit|apply Goes.ret|((first|apply Goes.Zr|apply Goes.ops2 fits Hh (Zh Zc (fun _ _ _ _=>Zjz Hh))); · simp (maxSteps:=9^6) +decide (disch:=first|omega|(simp only[lens]<;>omega)|decide) only [go_sem,Zf,Za,simprocAttr,ht,bo,read1]<;>rfl))
  simp (maxSteps:=9^6) +decide (disch:=first|omega|(simp only[lens]<;>omega)|decide) only [go_sem,Zf,Za,simprocAttr]<;>rfl
 ·cases e
theorem Zzc {args:List W} {h h':Go.Ev.H} {v:V} (e:Zxz args h=some (v,h')):Ze K Tryz.prog 23 args h v h':=by
 unfold Zxz at e
 split at e
 ·rename_i t
  obtain⟨X,ht,e⟩:=Zo e
  have ht:=Jj ht
  cases e
  refine Ze.goes fits Hh (by kernel_rfl) (by kernel_rfl) (by kernel_rfl) (show Tryz.f23.body=some _ from rfl) rfl ?_
  repeat (first|apply Goes.seq|apply Goes.block|apply Goes.loop|apply Goes.skip|apply Goes.exit|apply Goes.ret|((first|apply Goes.Zr|apply Goes.ops2 fits Hh (Zh Zc (fun _ _ _ _=>Da Hh))); · simp (maxSteps:=9^6) +decide (disch:=first|omega|(simp only[lens]<;>omega)|decide) only [go_sem,Zf,Za,simprocAttr,ht,read1]<;>rfl))
  simp (maxSteps:=9^6) +decide (disch:=first|omega|(simp only[lens]<;>omega)|decide) only [go_sem,Zf,Za,simprocAttr]<;>rfl
 ·cases e
theorem Zdb {args:List W} {h h':Go.Ev.H} {v:V} (e:Zpq args h=some (v,h')):Ze K Tryz.prog 24 args h v h':=by
 unfold Zpq at e
 split at e
 ·rename_i t
  obtain⟨X,ht,e⟩:=Zo e
  have ht:=Jj ht
  cases e
  refine Ze.goes fits Hh (by kernel_rfl) (by kernel_rfl) (by kernel_rfl) (show Tryz.f24.body=some _ from rfl) rfl ?_
  repeat (first|apply Goes.seq|apply Goes.block|apply Goes.loop|apply Goes.skip|apply Goes.exit|apply Goes.ret|((first|apply Goes.Zr|apply Goes.ops2 fits Hh (Zh Zc (fun _ _ _ _=>Da Hh))); · simp (maxSteps:=9^6) +decide (disch:=first|omega|(simp only[lens]<;>omega)|decide) only [go_sem,Zf,Za,simprocAttr,ht,read1]<;>rfl))
  simp (maxSteps:=9^6) +decide (disch:=first|omega|(simp only[lens]<;>omega)|decide) only [go_sem,Zf,Za,simprocAttr]<;>rfl
 ·cases e
theorem Zbp {args:List W} {h h':Go.Ev.H} {v:V} (e:Zxe args h=some (v,h')):Ze K Tryz.prog 69 args h v h':=by
 unfold Zxe at e
 split at e
 ·rename_i t z
  obtain⟨X,ht,e⟩:=Zo e
  have ht:=Jj ht
  obtain⟨l,hm,e⟩:=Zo e
  have hm:=getM_some hm
  refine Ze.tidy ⟨Tryz.f69,Tryz.func69,by kernel_rfl,by decide⟩ fun tidy=>?_
  have lt:=tidy _ _ ht
  have lm:=tidy _ _ hm
  split at e
  ·rename_i y hl
   obtain⟨b,e⟩:=Zv.1 e
   rw[Bool.and_eq_true] at b
   have yl:=Nat.eq_of_beq_eq_true b.1
   have yf:=b.2
   cases e
   obtain⟨v,h',c,rfl,hk⟩:∃ v h',Ze K Tryz.prog 69 [.c (.ptr t 0),.c (.int .i64 z)] h v h'∧v=.tup [.g y,.c (.bool true)]∧∀ m,m<h.next→h'.get m=h.get m:=by
    refine Ze.Z8 fits Hh (by kernel_rfl) (by kernel_rfl) (by kernel_rfl) (show Tryz.f69.body=some _ from rfl) rfl ?_
    repeat (first|apply Goes.seq|apply Goes.block|apply Goes.loop|apply Goes.skip|apply Goes.exit|apply Goes.ret|((first|apply Goes.Zr|apply Goes.ops2 fits Hh (Zh Zc (fun _ _ _ _=>Da Hh))); · simp (maxSteps:=9^6) +decide (disch:=first|omega|(simp only[lens]<;>omega)|decide) only [go_sem,Za,simprocAttr,ht,hm,hl,read1]<;>rfl))
    exact⟨_,_,(by simp (maxSteps:=9^6) +decide (disch:=first|omega|(simp only[lens]<;>omega)|decide) only [go_sem,Za,simprocAttr,ht,hm,hl]<;>rfl),rfl,fun m hm=>by (first|(simp (discharger:=omega) only [H.get_put,H.Zi,H.Zm,H.Zd,H.Zg,H.Zj,if_neg]; done)|(simp only[H.get_put,H.Zi,H.Zm,H.Zd,H.Zg,H.Zj]; (repeat' split)<;>first|rfl|(exfalso; omega)|omega))⟩
   refine c.quiet ?_ hk
   show (y.all C.flat&&true)=true
   rw[yf]; rfl
  ·rename_i hl
   cases e
   obtain⟨v,h',c,rfl,hk⟩:∃ v h',Ze K Tryz.prog 69 [.c (.ptr t 0),.c (.int .i64 z)] h v h'∧v=.tup [.g (List.replicate 256 (.int .u8 0)),.c (.bool false)]∧∀ m,m<h.next→h'.get m=h.get m:=by
    refine Ze.Z8 fits Hh (by kernel_rfl) (by kernel_rfl) (by kernel_rfl) (show Tryz.f69.body=some _ from rfl) rfl ?_
    repeat (first|apply Goes.seq|apply Goes.block|apply Goes.loop|apply Goes.skip|apply Goes.exit|apply Goes.ret|((first|apply Goes.Zr|apply Goes.ops2 fits Hh (Zh Zc (fun _ _ _ _=>Da Hh))); · simp (maxSteps:=9^6) +decide (disch:=first|omega|(simp only[lens]<;>omega)|decide) only [go_sem,Za,simprocAttr,ht,hm,hl,read1]<;>rfl))
    exact⟨_,_,(by simp (maxSteps:=9^6) +decide (disch:=first|omega|(simp only[lens]<;>omega)|decide) only [go_sem,Za,simprocAttr,ht,hm,hl]<;>rfl),rfl,fun m hm=>by (first|(simp (discharger:=omega) only [H.get_put,H.Zi,H.Zm,H.Zd,H.Zg,H.Zj,if_neg]; done)|(simp only[H.get_put,H.Zi,H.Zm,H.Zd,H.Zg,H.Zj]; (repeat' split)<;>first|rfl|(exfalso; omega)|omega))⟩
   exact c.quiet (by kernel_rfl) hk
 ·cases e
end
end Go.Proofs.YtngejdlimkgjfaaGreatDoor
set_option maxRecDepth 100000
namespace Go.Proofs.YtngejdlimkgjfaaGreatDoor
open Go.Ev
theorem Uw {a b:Nat} (h:Nat.beq a b=false):a≠b:=fun e=>by rw[e,Nat.beq_refl] at h; cases h
theorem Z04 (m:Nat):Un K 136 (.c (.map m))=true:=by kernel_rfl
attribute [go_sem] Z04
section
variable (Hh:Hearts K Tryz.prog)
include Hh
set_option maxHeartbeats 1000000 in
theorem Zcy {args:List W} {h h':Go.Ev.H} {v:V} (e:Zgc args h=some (v,h')):Ze K Tryz.prog 132 args h v h':=by
 unfold Zgc at e
 split at e
 ·rename_i t z x
  obtain⟨X,ht,e⟩:=Zo e
  have ht:=Jj ht
  obtain⟨to,hto,e⟩:=Zo e
  have hto:=Wt hto
  obtain⟨lt,hlt,e⟩:=Zo e
  have hlt:=getM_some hlt
  obtain⟨lc,hlc,e⟩:=Zo e
  have hlc:=getM_some hlc
  obtain⟨lf,hlf,e⟩:=Zo e
  have hlf:=getM_some hlf
  obtain⟨m,hr,e⟩:=Zo e
  have hrv:=hr
  have hr:=O7 hr
  obtain⟨b,e⟩:=Zv.1 e
  cases e
  refine Ze.tidy ⟨Tryz.f132,Tryz.func132,by kernel_rfl,by decide⟩ fun tidy=>?_
  have l1:=tidy _ _ ht
  have l2:=tidy _ _ hlt
  have l3:=tidy _ _ hlc
  have l4:=tidy _ _ hlf
  have l5:=tidy _ _ hr
  simp only[Bool.and_eq_true,decide_eq_true_eq,Bool.not_eq_true'] at b
  obtain⟨⟨⟨⟨⟨⟨⟨⟨⟨⟨⟨⟨⟨⟨⟨⟨⟨⟨⟨⟨bo,z0⟩,bm⟩,bc⟩,bx⟩,xf⟩,f1⟩,f2⟩,f3⟩,c1⟩,c2⟩,c3⟩,c4⟩,c5⟩,c6⟩,c7⟩,c8⟩,c9⟩,c10⟩,c11⟩,c12⟩:=b
  have hm:=Jk bm
  have l6:=tidy _ _ hm
  have xl:=Nat.eq_of_beq_eq_true bx
  have n1:=Uw c1
  have n2:=Uw c2
  have n3:=Uw c3
  have n4:=Uw c4
  have n5:=Uw c5
  have n6:=Uw c6
  have n7:=Uw c7
  have n8:=Uw c8
  have n9:=Uw c9
  have n10:=Uw c10
  have n11:=Uw c11
  have n12:=Uw c12
  obtain⟨v,h',c,rfl,hk⟩:∃ v h',Ze K Tryz.prog 132 [.c (.ptr t 0),.c (.int .i64 z),.g x] h v h'∧v=.w (.c (.int .i64 0))∧∀ j,j<h.next→h'.get j=(((h.put to (.map (J5 (J2 z [] lt)))).put X.ch (.map (J5 (J2 z x lc)))).put X.fr (.map (J5 (Zh0 z lf)))).get j:=by
   rcases hl:Oi z lt with _|y
   ·rw[hl] at bc
    have bc:=of_decide_eq_true bc
    refine Ze.Z8 fits Hh (by kernel_rfl) (by kernel_rfl) (by kernel_rfl) (show Tryz.f132.body=some _ from rfl) rfl ?_
    repeat (first|apply Goes.seq|apply Goes.block|apply Goes.loop|apply Goes.skip|apply Goes.exit|apply Goes.ret|((first|apply Goes.Zr|apply Goes.ops2 fits Hh (Zh (Zh Zc (fun _ _ _ _=>Zc4 Hh)) (fun _ _ _ _=>Rk Hh))); · simp (maxSteps:=9^6) +decide (disch:=first|omega|(simp only[lens]<;>omega)|decide) only [go_sem,Za,simprocAttr,ht,hto,hlt,hlc,hlf,hr,hm,bo,hl,xl,Qc,read1,Zt,Y8]<;>rfl)|(apply Goes.drawn2 fits Hh (Zh (Zh Zc (fun _ _ _ _=>Zc4 Hh)) (fun _ _ _ _=>Rk Hh)) (by kernel_rfl); · simp (maxSteps:=9^6) +decide (disch:=first|omega|(simp only[lens]<;>omega)|decide) only [go_sem,Za,simprocAttr,Js,Y2,Jd,Jo,Yv,Jp,Jf,Ye,Ja,Jr,Ux,Jg,Ya,Ym,Yh,Yg,Je,Yt,Y0,Yd,Yu,Jb,Oy,U8,Oj,Ee,Ep,Ue,Ug,Jn,Om,Uj,Ur,Jq,Y1,Uo,looks,O5,Op.operands,Call.operands,kd,Ud,List.filterMap_cons,List.filterMap_nil,List.append_nil,List.nil_append,List.cons_append,Ji,stable,Jl,J4,Jt,waits,Yr,List.all_cons,List.all_nil,List.any_cons,List.any_nil,Region.binds,Bool.or_true,Bool.true_or,Bool.and_true,Bool.true_and,Bool.or_false,Bool.false_or,Bool.and_self,Bool.or_self,Jc,Nat.le_refl,Nat.le_add_right,List.map_cons,Array.toList_append,ht,hto,hlt,hlc,hlf,hr,hm,bo,hl,xl,Qc,read1,Zt,Y8]<;>rfl))
    exact⟨_,_,(by simp (maxSteps:=9^6) +decide (disch:=first|omega|(simp only[lens]<;>omega)|decide) only [go_sem,Zf,Za,simprocAttr]<;>rfl),rfl,fun j hj=>by (first|(simp (discharger:=omega) only [H.get_put,H.Zi,H.Zm,H.Zd,H.Zg,H.Zj,if_neg]; done)|(simp only[H.get_put,H.Zi,H.Zm,H.Zd,H.Zg,H.Zj]; (repeat' split)<;>first|rfl|(exfalso; omega)|omega))⟩
   ·rw[hl] at bc
    rcases y with _|⟨y0,y⟩
    ·
     refine Ze.Z8 fits Hh (by kernel_rfl) (by kernel_rfl) (by kernel_rfl) (show Tryz.f132.body=some _ from rfl) rfl ?_
     repeat (first|apply Goes.seq|apply Goes.block|apply Goes.loop|apply Goes.skip|apply Goes.exit|apply Goes.ret|((first|apply Goes.Zr|apply Goes.ops2 fits Hh (Zh (Zh Zc (fun _ _ _ _=>Zc4 Hh)) (fun _ _ _ _=>Rk Hh))); · simp (maxSteps:=9^6) +decide (disch:=first|omega|(simp only[lens]<;>omega)|decide) only [go_sem,Za,simprocAttr,ht,hto,hlt,hlc,hlf,hr,hm,bo,hl,xl,Qc,read1,Zt,Y8]<;>rfl)|(apply Goes.drawn2 fits Hh (Zh (Zh Zc (fun _ _ _ _=>Zc4 Hh)) (fun _ _ _ _=>Rk Hh)) (by kernel_rfl); · simp (maxSteps:=9^6) +decide (disch:=first|omega|(simp only[lens]<;>omega)|decide) only [go_sem,Za,simprocAttr,Js,Y2,Jd,Jo,Yv,Jp,Jf,Ye,Ja,Jr,Ux,Jg,Ya,Ym,Yh,Yg,Je,Yt,Y0,Yd,Yu,Jb,Oy,U8,Oj,Ee,Ep,Ue,Ug,Jn,Om,Uj,Ur,Jq,Y1,Uo,looks,O5,Op.operands,Call.operands,kd,Ud,List.filterMap_cons,List.filterMap_nil,List.append_nil,List.nil_append,List.cons_append,Ji,stable,Jl,J4,Jt,waits,Yr,List.all_cons,List.all_nil,List.any_cons,List.any_nil,Region.binds,Bool.or_true,Bool.true_or,Bool.and_true,Bool.true_and,Bool.or_false,Bool.false_or,Bool.and_self,Bool.or_self,Jc,Nat.le_refl,Nat.le_add_right,List.map_cons,Array.toList_append,ht,hto,hlt,hlc,hlf,hr,hm,bo,hl,xl,Qc,read1,Zt,Y8]<;>rfl))
     exact⟨_,_,(by simp (maxSteps:=9^6) +decide (disch:=first|omega|(simp only[lens]<;>omega)|decide) only [go_sem,Zf,Za,simprocAttr]<;>rfl),rfl,fun j hj=>by (first|(simp (discharger:=omega) only [H.get_put,H.Zi,H.Zm,H.Zd,H.Zg,H.Zj,if_neg]; done)|(simp only[H.get_put,H.Zi,H.Zm,H.Zd,H.Zg,H.Zj]; (repeat' split)<;>first|rfl|(exfalso; omega)|omega))⟩
    ·cases bc
  exact c.settle ((((Np.refl tidy).put l2 (M7 (Bv rfl f1))).put l3 (M7 (Bv xf f2))).put l4 (M7 (Zhr f3))) (Ze9.flat rfl) hk
 ·cases e
theorem Zqf {args:List W} {h h':Go.Ev.H} {v:V} (e:Zlk args h=some (v,h')):Ze K Tryz.prog 91 args h v h':=by
 unfold Zlk at e
 split at e
 ·rename_i t
  obtain⟨X,ht,e⟩:=Zo e
  have ht:=Jj ht
  cases e
  refine Ze.goes fits Hh (by kernel_rfl) (by kernel_rfl) (by kernel_rfl) (show Tryz.f91.body=some _ from rfl) rfl ?_
  repeat (first|apply Goes.seq|apply Goes.block|apply Goes.loop|apply Goes.skip|apply Goes.exit|apply Goes.ret|((first|apply Goes.Zr|apply Goes.ops2 fits Hh Zc); · simp (maxSteps:=9^6) +decide (disch:=first|omega|(simp only[lens]<;>omega)|decide) only [go_sem,Zf,Za,simprocAttr,ht,Zwm,Zbg,read1,Z5]<;>rfl))
  simp (maxSteps:=9^6) +decide (disch:=first|omega|(simp only[lens]<;>omega)|decide) only [go_sem,Zf,Za,simprocAttr]<;>rfl
 ·cases e
end
end Go.Proofs.YtngejdlimkgjfaaGreatDoor
