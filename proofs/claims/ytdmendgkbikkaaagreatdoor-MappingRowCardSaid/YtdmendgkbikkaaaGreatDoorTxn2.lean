/- Transactions: made, handle, askB, Seq, Open, Get, Put, Order, close, End; the revoked blocks, if there are none. -/
import Derived.Test.YtdmendgkbikkaaaGreatDoorSli
import Derived.Test.YtdmendgkbikkaaaGreatDoorEvC
set_option linter.unusedSimpArgs false
set_option linter.unusedVariables false
set_option linter.unusedSectionVars false
set_option maxRecDepth 100000
namespace Go.Proofs.YtdmendgkbikkaaaGreatDoor
open Go.Ev
theorem ty4:K.types.get 4=some ti4:=by kernel_rfl
theorem sz4:ti4.size=1:=by rfl
theorem ag4:ti4.agg=false:=by rfl
theorem de4:ti4.desc=.bool:=by rfl
theorem ze4:ti4.zero=(.c (.bool false)):=by rfl
theorem by4:ti4.bytes=1:=by rfl
theorem ty5:K.types.get 5=some ti5:=by kernel_rfl
theorem sz5:ti5.size=1:=by rfl
theorem ag5:ti5.agg=false:=by rfl
theorem de5:ti5.desc=(.int .u8):=by rfl
theorem ze5:ti5.zero=(.c (.int .u8 0)):=by rfl
theorem by5:ti5.bytes=1:=by rfl
theorem ke5 (k:IntKind) (n:Int):Di K 20 5 (.c (.int k n))=true:=by kernel_rfl
theorem ty31:K.types.get 31=some ti31:=by kernel_rfl
theorem sz31:ti31.size=1:=by rfl
theorem ag31:ti31.agg=false:=by rfl
theorem de31:ti31.desc=(.int .i64):=by rfl
theorem ze31:ti31.zero=(.c (.int .i64 0)):=by rfl
theorem by31:ti31.bytes=8:=by rfl
theorem ke31 (k:IntKind) (n:Int):Di K 20 31 (.c (.int k n))=true:=by kernel_rfl
theorem ty34:K.types.get 34=some ti34:=by kernel_rfl
theorem sz34:ti34.size=1:=by rfl
theorem ag34:ti34.agg=false:=by rfl
theorem de34:ti34.desc=(.int .u32):=by rfl
theorem ze34:ti34.zero=(.c (.int .u32 0)):=by rfl
theorem by34:ti34.bytes=4:=by rfl
theorem ke34 (k:IntKind) (n:Int):Di K 20 34 (.c (.int k n))=true:=by kernel_rfl
theorem ty73:K.types.get 73=some ti73:=by kernel_rfl
theorem sz73:ti73.size=256:=by rfl
theorem ag73:ti73.agg=true:=by rfl
theorem de73:ti73.desc=(.array 256 5):=by rfl
theorem ze73:ti73.zero=(.g ((List.replicate 256 (.int .u8 0)))):=by rfl
theorem by73:ti73.bytes=256:=by rfl
theorem eq73 (a b:List C):eqT K 20 73 (.g a) (.g b)=(bif true&&Nat.beq a.length 256&&Nat.beq b.length 256 then Yy a b else none):=by kernel_rfl
theorem ty80:K.types.get 80=some ti80:=by kernel_rfl
theorem sz80:ti80.size=1:=by rfl
theorem ag80:ti80.agg=false:=by rfl
theorem de80:ti80.desc=(.pointer 152):=by rfl
theorem ze80:ti80.zero=(.c (.pnil)):=by rfl
theorem by80:ti80.bytes=8:=by rfl
theorem ty146:K.types.get 146=some ti146:=by kernel_rfl
theorem sz146:ti146.size=1:=by rfl
theorem ag146:ti146.agg=false:=by rfl
theorem de146:ti146.desc=(.map 3 73):=by rfl
theorem ze146:ti146.zero=(.c (.mnil)):=by rfl
theorem by146:ti146.bytes=8:=by rfl
theorem mp146:Bc K 146=some (3,73):=by kernel_rfl
theorem ty147:K.types.get 147=some ti147:=by kernel_rfl
theorem sz147:ti147.size=1:=by rfl
theorem ag147:ti147.agg=false:=by rfl
theorem de147:ti147.desc=(.map 3 170):=by rfl
theorem ze147:ti147.zero=(.c (.mnil)):=by rfl
theorem by147:ti147.bytes=8:=by rfl
theorem mp147:Bc K 147=some (3,170):=by kernel_rfl
theorem ty148:K.types.get 148=some ti148:=by kernel_rfl
theorem sz148:ti148.size=1:=by rfl
theorem ag148:ti148.agg=false:=by rfl
theorem de148:ti148.desc=(.pointer 286):=by rfl
theorem ze148:ti148.zero=(.c (.pnil)):=by rfl
theorem by148:ti148.bytes=8:=by rfl
theorem ty150:K.types.get 150=some ti150:=by kernel_rfl
theorem sz150:ti150.size=4:=by rfl
theorem ag150:ti150.agg=true:=by rfl
theorem fo150_0:Zk K 150 0=some (0,ti146):=by kernel_rfl
theorem fo150_1:Zk K 150 1=some (1,ti147):=by kernel_rfl
theorem fo150_2:Zk K 150 2=some (2,ti147):=by kernel_rfl
theorem fo150_3:Zk K 150 3=some (3,ti148):=by kernel_rfl
theorem bu150 (ps:List (Nat × W)):Yd K 150 (some ps)=gW (Z4 K 150 ps ti150.zero.cells):=by kernel_rfl
theorem ze150:ti150.zero=(.g ([.mnil,.mnil,.mnil,.pnil])):=by rfl
theorem by150:ti150.bytes=32:=by rfl
theorem ty152:K.types.get 152=some ti152:=by kernel_rfl
theorem sz152:ti152.size=13:=by rfl
theorem ag152:ti152.agg=true:=by rfl
theorem fo152_0:Zk K 152 0=some (0,ti150):=by kernel_rfl
theorem fo152_1:Zk K 152 1=some (4,ti34):=by kernel_rfl
theorem fo152_2:Zk K 152 2=some (5,ti4):=by kernel_rfl
theorem fo152_3:Zk K 152 3=some (6,ti3):=by kernel_rfl
theorem fo152_4:Zk K 152 4=some (7,ti3):=by kernel_rfl
theorem fo152_5:Zk K 152 5=some (8,ti147):=by kernel_rfl
theorem fo152_6:Zk K 152 6=some (9,ti150):=by kernel_rfl
theorem bu152 (ps:List (Nat × W)):Yd K 152 (some ps)=gW (Z4 K 152 ps ti152.zero.cells):=by kernel_rfl
theorem ze152:ti152.zero=(.g ([.mnil,.mnil,.mnil,.pnil,.int .u32 0,.bool false,.int .i64 0,.int .i64 0,.mnil,.mnil,.mnil,.mnil,.pnil])):=by rfl
theorem by152:ti152.bytes=96:=by rfl
theorem ty170:K.types.get 170=some ti170:=by kernel_rfl
theorem sz170:ti170.size=0:=by rfl
theorem ag170:ti170.agg=true:=by rfl
theorem bu170 (ps:List (Nat × W)):Yd K 170 (some ps)=gW (Z4 K 170 ps ti170.zero.cells):=by kernel_rfl
theorem ze170:ti170.zero=(.g ([])):=by rfl
theorem by170:ti170.bytes=0:=by rfl
theorem ty284:K.types.get 284=some ti284:=by kernel_rfl
theorem sz284:ti284.size=1:=by rfl
theorem ag284:ti284.agg=false:=by rfl
theorem de284:ti284.desc=(.map 288 170):=by rfl
theorem ze284:ti284.zero=(.c (.mnil)):=by rfl
theorem by284:ti284.bytes=8:=by rfl
theorem mp284:Bc K 284=some (288,170):=by kernel_rfl
theorem ty286:K.types.get 286=some ti286:=by kernel_rfl
theorem sz286:ti286.size=1:=by rfl
theorem ag286:ti286.agg=true:=by rfl
theorem fo286_0:Zk K 286 0=some (0,ti284):=by kernel_rfl
theorem bu286 (ps:List (Nat × W)):Yd K 286 (some ps)=gW (Z4 K 286 ps ti286.zero.cells):=by kernel_rfl
theorem ze286:ti286.zero=(.g ([.mnil])):=by rfl
theorem by286:ti286.bytes=8:=by rfl
theorem ty288:K.types.get 288=some ti288:=by kernel_rfl
theorem sz288:ti288.size=2:=by rfl
theorem ag288:ti288.agg=true:=by rfl
theorem fo288_0:Zk K 288 0=some (0,ti3):=by kernel_rfl
theorem fo288_1:Zk K 288 1=some (1,ti34):=by kernel_rfl
theorem bu288 (ps:List (Nat × W)):Yd K 288 (some ps)=gW (Z4 K 288 ps ti288.zero.cells):=by kernel_rfl
theorem ze288:ti288.zero=(.g ([.int .i64 0,.int .u32 0])):=by rfl
theorem by288:ti288.bytes=16:=by rfl
attribute [go_sem] ty3 sz3 ag3 de3 ze3 by3 ke3 ty4 sz4 ag4 de4 ze4 by4 ty5 sz5 ag5 de5 ze5 by5 ke5 ty31 sz31 ag31 de31 ze31 by31 ke31 ty34 sz34 ag34 de34 ze34 by34 ke34 ty73 sz73 ag73 de73 ze73 by73 eq73 ty80 sz80 ag80 de80 ze80 by80 ty146 sz146 ag146 de146 ze146 by146 mp146 ty147 sz147 ag147 de147 ze147 by147 mp147 ty148 sz148 ag148 de148 ze148 by148 ty150 sz150 ag150 fo150_0 fo150_1 fo150_2 fo150_3 bu150 ze150 by150 ty152 sz152 ag152 fo152_0 fo152_1 fo152_2 fo152_3 fo152_4 fo152_5 fo152_6 bu152 ze152 by152 ty170 sz170 ag170 bu170 ze170 by170 ty284 sz284 ag284 de284 ze284 by284 mp284 ty286 sz286 ag286 fo286_0 bu286 ze286 by286 ty288 sz288 ag288 fo288_0 fo288_1 bu288 ze288 by288
theorem rs173:Tryz.f173.results.toList=[.tmp 2]:=rfl
theorem rs186:Tryz.f186.results.toList=[.tmp 4]:=rfl
theorem rs188:Tryz.f188.results.toList=[.tmp 6]:=rfl
theorem rs65:Tryz.f65.results.toList=[.tmp 2]:=rfl
theorem rs91:Tryz.f91.results.toList=[.tmp 2]:=rfl
theorem rs90:Tryz.f90.results.toList=[.tmp 4]:=rfl
theorem rs26:Tryz.f26.results.toList=[.tmp 2]:=rfl
theorem rs27:Tryz.f27.results.toList=[.tmp 2]:=rfl
theorem rs121:Tryz.f121.results.toList=[.cell 4 73,.tmp 5]:=rfl
theorem rs138:Tryz.f138.results.toList=[.tmp 6]:=rfl
theorem rs46:Tryz.f46.results.toList=[.tmp 4]:=rfl
theorem rs92:Tryz.f92.results.toList=[]:=rfl
theorem rs47:Tryz.f47.results.toList=[.tmp 2]:=rfl
attribute [go_sem] rs173 rs186 rs188 rs65 rs91 rs90 rs26 rs27 rs121 rs138 rs46 rs92 rs47
structure Tx where
 ch:Nat
 od:Nat
 fr:Nat
 rv:Nat
 sq:Int
 op:Bool
 cr:Int
 rk:Int
 to:C
 b1:C
 b2:C
 b3:C
 b4:C
def txL (X:Tx):List C:=[.map X.ch,.map X.od,.map X.fr,.ptr X.rv 0,.int .u32 X.sq,.bool X.op,.int .i64 X.cr,.int .i64 X.rk,X.to,X.b1,X.b2,X.b3,X.b4]
attribute [go_sem] txL
noncomputable def Uh (h:Go.Ev.H) (t:Nat):Option Tx:=match h.get t with
 | some (.row sz [[.map ch,.map od,.map fr,.ptr rv o,.int .u32 sq,.bool op,.int .i64 cr,.int .i64 rk,to,b1,b2,b3,b4]] ro)=>Yp (Nat.beq sz 13&&Nat.beq o 0&&!ro) (some ⟨ch,od,fr,rv,sq,op,cr,rk,to,b1,b2,b3,b4⟩)
 | _=>none
theorem Ym {h:Go.Ev.H} {t:Nat} {X:Tx} (e:Uh h t=some X):h.get t=some (.row 13 [txL X] false):=by
 unfold Uh at e
 split at e
 ·rename_i heq
  obtain⟨b,e⟩:=Zr.1 e
  cases e
  simp only[Bool.and_eq_true,Bool.not_eq_true'] at b
  obtain⟨⟨b1,b2⟩,rfl⟩:=b
  obtain rfl:=Nat.eq_of_beq_eq_true b1
  obtain rfl:=Nat.eq_of_beq_eq_true b2
  exact heq
 ·cases e
noncomputable def Eo (h:Go.Ev.H) (r:Nat):Option Nat:=match h.get r with
 | some (.row sz [[.map m]] ro)=>Yp (Nat.beq sz 1&&!ro) (some m)
 | _=>none
theorem U8 {h:Go.Ev.H} {r m:Nat} (e:Eo h r=some m):h.get r=some (.row 1 [[.map m]] false):=by
 unfold Eo at e
 split at e
 ·rename_i heq
  obtain⟨b,e⟩:=Zr.1 e
  cases e
  simp only[Bool.and_eq_true,Bool.not_eq_true'] at b
  obtain⟨b1,rfl⟩:=b
  obtain rfl:=Nat.eq_of_beq_eq_true b1
  exact heq
 ·cases e
noncomputable def Jw (h:Go.Ev.H) (m:Nat):Bool:=match h.get m with
 | some (.map [])=>true
 | _=>false
theorem Yz {h:Go.Ev.H} {m:Nat} (e:Jw h m=true):h.get m=some (.map []):=by
 unfold Jw at e
 split at e
 ·assumption
 ·cases e
def toN:C→Option Nat
 | .map m=>some m
 | _=>none
theorem Zm0 {c:C} {m:Nat} (e:toN c=some m):c=.map m:=by
 cases c<;>first|(cases e; rfl)|cases e
theorem Z1d (m:Nat):toN (.map m)=some m:=rfl
theorem Z2u (kt:TypeId) (k:W):Zll K kt k []=some []:=rfl
noncomputable def Zpy:Kn1:=fun args h=>match args with
 | [.c (.ptr r 0)]=>(Eo h r).bind fun _=>some (.w (.c (.bool true)),h)
 | _=>none
noncomputable def Zyd:Kn1:=fun args h=>match args with
 | [.c (.ptr r 0),.c (.int .i64 z)]=>(Eo h r).bind fun _=>Yp (decide (0≤z)) (some (.w (.c (.int .i64 0)),h))
 | _=>none
noncomputable def Zgh:Kn1:=fun args h=>match args with
 | [.c (.ptr r 0),.c (.int .i64 z),.c (.int .u32 _)]=>(Eo h r).bind fun m=>Yp (decide (0≤z)&&Jw h m) (some (.w (.c (.int .i64 0)),h))
 | _=>none
noncomputable def Zqb:Kn1:=fun args h=>match args with
 | [.c (.ptr t 0)]=>(Uh h t).bind fun _=>some (.w (.c (.bool true)),h)
 | _=>none
noncomputable def Zqa:Kn1:=fun args h=>match args with
 | [.c (.ptr t 0)]=>(Uh h t).bind fun X=>Yp X.op (some (.w (.c (.int .i64 0)),h))
 | _=>none
noncomputable def Zyv:Kn1:=fun args h=>match args with
 | [.c (.ptr t 0),.c (.int .i64 z)]=>(Uh h t).bind fun X=>Yp (X.op&&decide (0≤z)) (some (.w (.c (.int .i64 0)),h))
 | _=>none
noncomputable def Zyz:Kn1:=fun args h=>match args with
 | [.c (.ptr t 0)]=>(Uh h t).bind fun X=>some (.w (.c (.int .u32 X.sq)),h)
 | _=>none
noncomputable def Zqc:Kn1:=fun args h=>match args with
 | [.c (.ptr t 0)]=>(Uh h t).bind fun X=>some (.w (.c (.bool X.op)),h)
 | _=>none
noncomputable def Zyx:Kn1:=fun args h=>match args with
 | [.c (.ptr t 0),.c (.int .i64 z)]=>(Uh h t).bind fun X=>(getM h X.ch).bind fun l=>match Yx z l with
  | some y=>Yp (Nat.beq y.length 256&&y.all C.flat) (some (.tup [.g y,.c (.bool true)],h))
  | none=>some (.tup [.g (List.replicate 256 (.int .u8 0)),.c (.bool false)],h)
 | _=>none
noncomputable def Zgl:Kn1:=fun args h=>match args with
 | [.c (.ptr t 0),.c (.int .i64 z),.g x]=>(Uh h t).bind fun X=>(toN X.to).bind fun to=>(getM h to).bind fun lt=>(getM h X.ch).bind fun lc=>(getM h X.fr).bind fun lf=>(Eo h X.rv).bind fun m =>
  Yp (X.op&&decide (0≤z)&&Jw h m&&(match Yx z lt with|none=>decide ((lt.length:Int)<X.cr)|some []=>true|some (_ :: _)=>false)&&Nat.beq x.length 256&&x.all C.flat&&Gg lt&&Gg lc&&Gg lf&&!(Nat.beq to X.ch)&&!(Nat.beq to X.fr)&&!(Nat.beq X.ch X.fr)&&!(Nat.beq to m)&&!(Nat.beq X.ch m)&&!(Nat.beq X.fr m)&&!(Nat.beq to t)&&!(Nat.beq X.ch t)&&!(Nat.beq X.fr t)&&!(Nat.beq to X.rv)&&!(Nat.beq X.ch X.rv)&&!(Nat.beq X.fr X.rv))
   (some (.w (.c (.int .i64 0)),((h.put to (.map (J5 (Gy z [] lt)))).put X.ch (.map (J5 (Gy z x lc)))).put X.fr (.map (J5 (Zec z lf)))))
 | _=>none
noncomputable def Zks:Kn1:=fun args h=>match args with
 | [.c (.ptr t 0),.c (.int .i64 z)]=>(Uh h t).bind fun X=>(getM h X.od).bind fun l=>Yp (X.op&&decide (0≤z)) (some (.w (.c (.int .i64 0)),h.put X.od (.map (J5 (Gy z [] l)))))
 | _=>none
def Zxm (X:Tx):Tx:={ X with op:=false,cr:=0,rk:=0,to:=.mnil,b1:=.mnil,b2:=.mnil,b3:=.mnil,b4:=.pnil }
noncomputable def Zlo (h:Go.Ev.H) (t:Nat) (X:Tx):Go.Ev.H:=((((h.put t (.row 13 [txL { X with op:=false }] false)).put t (.row 13 [txL { X with op:=false,cr:=0 }] false)).put t (.row 13 [txL { X with op:=false,cr:=0,rk:=0 }] false)).put t (.row 13 [txL { X with op:=false,cr:=0,rk:=0,to:=.mnil }] false)).put t (.row 13 [txL (Zxm X)] false)
theorem Vj (h:Go.Ev.H) (t:Nat) (X:Tx) (m:Nat):(Zlo h t X).get m=if m=t then some (.row 13 [txL (Zxm X)] false) else h.get m:=by
 unfold Zlo
 simp only[H.get_put]
 split<;>rfl
noncomputable def Zkq:Kn1:=fun args h=>match args with
 | [.c (.ptr t 0)]=>(Uh h t).bind fun X=>some (.tup [],Zlo h t X)
 | _=>none
noncomputable def Zyw:Kn1:=fun args h=>match args with
 | [.c (.ptr t 0)]=>(Uh h t).bind fun X=>Yp X.op (some (.w (.c (.int .i64 0)),Zlo h t X))
 | _=>none
attribute [go_sem] Uh Eo Jw Z1d Z2u Zpy Zyd Zgh Zqb Zqa Zyv Zyz Zqc Zyx Zgl Zks Zkq Zyw
theorem Z5h (a s:Int):Di K 20 288 (.g [.int .i64 a,.int .u32 s])=true:=by kernel_rfl
attribute [go_sem] Z5h
section
variable (Hh:Hearts K Tryz.prog)
include Hh
theorem Zim {args:List W} {h h':Go.Ev.H} {v:V} (e:Zpy args h=some (v,h')):Zg 173 args h v h':=by
 unfold Zpy at e
 split at e
 ·rename_i r
  obtain⟨m,hr,e⟩:=Zh e
  have hr:=U8 hr
  cases e
  refine fnG Hh Tryz.f173 ?_
  have Jf:=@hr
  repeat (first|apply Zp|apply Yb|refine Zy Hh Za Yi ?_)
  exact Zj
 ·cases e
theorem Zye {args:List W} {h h':Go.Ev.H} {v:V} (e:Zyd args h=some (v,h')):Zg 186 args h v h':=by
 unfold Zyd at e
 split at e
 ·rename_i r z
  obtain⟨m,hr,e⟩:=Zh e
  have hr:=U8 hr
  obtain⟨b,e⟩:=Zr.1 e
  have z0:=of_decide_eq_true b
  cases e
  refine fnG Hh Tryz.f186 ?_
  have Jf:=@hr
  repeat (first|apply Zp|apply Yk|apply Z6|apply Yb|refine Goes.Zn Yi ?_|refine Zy Hh (EY Za (Zim Hh)) Yi ?_)
  exact Zj
 ·cases e
theorem Nj {args:List W} {h h':Go.Ev.H} {v:V} (e:Zgh args h=some (v,h')):Zg 188 args h v h':=by
 unfold Zgh at e
 split at e
 ·rename_i r z s
  obtain⟨m,hr,e⟩:=Zh e
  have hr:=U8 hr
  obtain⟨b,e⟩:=Zr.1 e
  simp only[Bool.and_eq_true,decide_eq_true_eq] at b
  obtain⟨z0,b⟩:=b
  have hm:=Yz b
  cases e
  obtain⟨v,h',c,rfl,hk⟩:∃ v h',Zg 188 [.c (.ptr r 0),.c (.int .i64 z),.c (.int .u32 s)] h v h'∧v=.w (.c (.int .i64 0))∧∀ j,j<h.next→h'.get j=h.get j:=by
   refine Jd Hh Tryz.f188 ?_
   repeat (first|apply Zp|apply Z6|apply Yb|((first|apply Goes.Zn|apply Goes.ops2 fits Hh (EY Za (Zye Hh))); · simp (maxSteps:=9^6) +decide (disch:=first|omega|(simp only[lens]<;>omega)|decide) only [go_sem,Zm,Ze,simprocAttr,hr,hm,read1,Zt,Vy,Zb9]<;>rfl))
   exact⟨_,_,(by have Jf:=Uq @hr @hm; exact Zq),rfl,fun j _=>by rw[H.get_put]; split<;>first|(rename_i ej; rw[ej,hm])|rfl⟩
  exact c.quiet rfl hk
 ·cases e
theorem Gb {args:List W} {h h':Go.Ev.H} {v:V} (e:Zqb args h=some (v,h')):Zg 65 args h v h':=by
 unfold Zqb at e
 split at e
 ·rename_i t
  obtain⟨X,ht,e⟩:=Zh e
  have ht:=Ym ht
  cases e
  refine fnG Hh Tryz.f65 ?_
  have Jf:=@ht
  repeat (first|apply Zp|apply Yb|refine Zy Hh Za Yi ?_)
  exact Zj
 ·cases e
theorem Ziq {args:List W} {h h':Go.Ev.H} {v:V} (e:Zqa args h=some (v,h')):Zg 91 args h v h':=by
 unfold Zqa at e
 split at e
 ·rename_i t
  obtain⟨X,ht,e⟩:=Zh e
  have ht:=Ym ht
  obtain⟨bo,e⟩:=Zr.1 e
  cases e
  refine fnG Hh Tryz.f91 ?_
  have Jf:=Uq @ht @bo
  repeat (first|apply Zp|apply Yk|apply Z6|apply Yb|refine Goes.Zn Yi ?_|refine Zy Hh (EY Za (Gb Hh)) Yi ?_)
  exact Zj
 ·cases e
theorem Xe {args:List W} {h h':Go.Ev.H} {v:V} (e:Zyv args h=some (v,h')):Zg 90 args h v h':=by
 unfold Zyv at e
 split at e
 ·rename_i t z
  obtain⟨X,ht,e⟩:=Zh e
  have ht:=Ym ht
  obtain⟨b,e⟩:=Zr.1 e
  simp only[Bool.and_eq_true,decide_eq_true_eq] at b
  obtain⟨bo,z0⟩:=b
  cases e
  refine fnG Hh Tryz.f90 ?_
  have Jf:=Uq @ht @bo
  repeat (first|apply Zp|apply Z6|apply Yb|refine Goes.Zn Yi ?_|refine Zy Hh (EY Za (Ziq Hh)) Yi ?_)
  exact Zj
 ·cases e
theorem Zy0 {args:List W} {h h':Go.Ev.H} {v:V} (e:Zyz args h=some (v,h')):Zg 26 args h v h':=by
 unfold Zyz at e
 split at e
 ·rename_i t
  obtain⟨X,ht,e⟩:=Zh e
  have ht:=Ym ht
  cases e
  refine fnG Hh Tryz.f26 ?_
  have Jf:=@ht
  repeat (first|apply Zp|apply Z6|apply Yb|refine Goes.Zn Yi ?_|refine Zy Hh (EY Za (Gb Hh)) Yi ?_)
  exact Zj
 ·cases e
theorem Zco {args:List W} {h h':Go.Ev.H} {v:V} (e:Zqc args h=some (v,h')):Zg 27 args h v h':=by
 unfold Zqc at e
 split at e
 ·rename_i t
  obtain⟨X,ht,e⟩:=Zh e
  have ht:=Ym ht
  cases e
  refine fnG Hh Tryz.f27 ?_
  have Jf:=@ht
  repeat (first|apply Zp|apply Yb|refine Zy Hh (EY Za (Gb Hh)) Yi ?_)
  exact Zj
 ·cases e
theorem Zbg {args:List W} {h h':Go.Ev.H} {v:V} (e:Zyx args h=some (v,h')):Zg 121 args h v h':=by
 unfold Zyx at e
 split at e
 ·rename_i t z
  obtain⟨X,ht,e⟩:=Zh e
  have ht:=Ym ht
  obtain⟨l,hm,e⟩:=Zh e
  have hm:=getM_some hm
  refine Zv.tidy ⟨Tryz.f121,Tryz.func121,by kernel_rfl,by decide⟩ fun tidy=>?_
  have lt:=tidy _ _ ht
  have lm:=tidy _ _ hm
  split at e
  ·rename_i y hl
   obtain⟨b,e⟩:=Zr.1 e
   rw[Bool.and_eq_true] at b
   have yl:=Nat.eq_of_beq_eq_true b.1
   have yf:=b.2
   cases e
   obtain⟨v,h',c,rfl,hk⟩:∃ v h',Zg 121 [.c (.ptr t 0),.c (.int .i64 z)] h v h'∧v=.tup [.g y,.c (.bool true)]∧∀ m,m<h.next→h'.get m=h.get m:=by
    refine Jd Hh Tryz.f121 ?_
    have Jf:=Uc @ht @hm @hl
    repeat (first|apply Zp|apply Z6|apply Yb|refine Goes.Zn G8 ?_|refine Zy Hh (EY Za (Gb Hh)) G8 ?_)
    exact⟨_,_,(by have Jf:=Uc @ht @hm @hl; exact Z5),rfl,fun m hm=>by exact Jg⟩
   refine c.quiet ?_ hk
   show (y.all C.flat&&true)=true
   rw[yf]; rfl
  ·rename_i hl
   cases e
   obtain⟨v,h',c,rfl,hk⟩:∃ v h',Zg 121 [.c (.ptr t 0),.c (.int .i64 z)] h v h'∧v=.tup [.g (List.replicate 256 (.int .u8 0)),.c (.bool false)]∧∀ m,m<h.next→h'.get m=h.get m:=by
    refine Jd Hh Tryz.f121 ?_
    have Jf:=Uc @ht @hm @hl
    repeat (first|apply Zp|apply Z6|apply Yb|refine Goes.Zn G8 ?_|refine Zy Hh (EY Za (Gb Hh)) G8 ?_)
    exact⟨_,_,(by have Jf:=Uc @ht @hm @hl; exact Z5),rfl,fun m hm=>by exact Jg⟩
   exact c.quiet (by kernel_rfl) hk
 ·cases e
end
theorem J4 {a b:Nat} (h:Nat.beq a b=false):a≠b:=fun e=>by rw[e,Nat.beq_refl] at h; cases h
theorem Z0i (m:Nat):Yv K 147 (.c (.map m))=true:=by kernel_rfl
attribute [go_sem] Z0i
section
variable (Hh:Hearts K Tryz.prog)
include Hh
set_option maxHeartbeats 1000000 in
theorem Zbh {args:List W} {h h':Go.Ev.H} {v:V} (e:Zgl args h=some (v,h')):Zg 138 args h v h':=by
 unfold Zgl at e
 split at e
 ·rename_i t z x
  obtain⟨X,ht,e⟩:=Zh e
  have ht:=Ym ht
  obtain⟨to,hto,e⟩:=Zh e
  have hto:=Zm0 hto
  obtain⟨lt,hlt,e⟩:=Zh e
  have hlt:=getM_some hlt
  obtain⟨lc,hlc,e⟩:=Zh e
  have hlc:=getM_some hlc
  obtain⟨lf,hlf,e⟩:=Zh e
  have hlf:=getM_some hlf
  obtain⟨m,hr,e⟩:=Zh e
  have hrv:=hr
  have hr:=U8 hr
  obtain⟨b,e⟩:=Zr.1 e
  cases e
  refine Zv.tidy ⟨Tryz.f138,Tryz.func138,by kernel_rfl,by decide⟩ fun tidy=>?_
  have l1:=tidy _ _ ht
  have l2:=tidy _ _ hlt
  have l3:=tidy _ _ hlc
  have l4:=tidy _ _ hlf
  have l5:=tidy _ _ hr
  simp only[Bool.and_eq_true,decide_eq_true_eq,Bool.not_eq_true'] at b
  obtain⟨⟨⟨⟨⟨⟨⟨⟨⟨⟨⟨⟨⟨⟨⟨⟨⟨⟨⟨⟨bo,z0⟩,bm⟩,bc⟩,bx⟩,xf⟩,f1⟩,f2⟩,f3⟩,c1⟩,c2⟩,c3⟩,c4⟩,c5⟩,c6⟩,c7⟩,c8⟩,c9⟩,c10⟩,c11⟩,c12⟩:=b
  have hm:=Yz bm
  have l6:=tidy _ _ hm
  have xl:=Nat.eq_of_beq_eq_true bx
  have n1:=J4 c1
  have n2:=J4 c2
  have n3:=J4 c3
  have n4:=J4 c4
  have n5:=J4 c5
  have n6:=J4 c6
  have n7:=J4 c7
  have n8:=J4 c8
  have n9:=J4 c9
  have n10:=J4 c10
  have n11:=J4 c11
  have n12:=J4 c12
  obtain⟨v,h',c,rfl,hk⟩:∃ v h',Zg 138 [.c (.ptr t 0),.c (.int .i64 z),.g x] h v h'∧v=.w (.c (.int .i64 0))∧∀ j,j<h.next→h'.get j=(((h.put to (.map (J5 (Gy z [] lt)))).put X.ch (.map (J5 (Gy z x lc)))).put X.fr (.map (J5 (Zec z lf)))).get j:=by
   rcases hl:Yx z lt with _|y
   ·rw[hl] at bc
    have bc:=of_decide_eq_true bc
    refine Jd Hh Tryz.f138 ?_
    have Jf:=Uc @ht @hto (Ur @hlt @hlc @hlf @hr @hm @bo @hl @xl @Zeh)
    repeat (first|apply Zp|apply Z6|apply Yb|refine Goes.Zn Uf ?_|refine Zy Hh (EY (EY Za (Xe Hh)) (Nj Hh)) Uf ?_|refine Ms Hh (EY (EY Za (Xe Hh)) (Nj Hh)) Zd4 ?_)
    exact⟨_,_,Zj,rfl,fun j hj=>by exact F4⟩
   ·rw[hl] at bc
    rcases y with _|⟨y0,y⟩
    ·
     refine Jd Hh Tryz.f138 ?_
     have Jf:=Uc @ht @hto (Ur @hlt @hlc @hlf @hr @hm @bo @hl @xl @Zeh)
     repeat (first|apply Zp|apply Z6|apply Yb|refine Goes.Zn Uf ?_|refine Zy Hh (EY (EY Za (Xe Hh)) (Nj Hh)) Uf ?_|refine Ms Hh (EY (EY Za (Xe Hh)) (Nj Hh)) Zd4 ?_)
     exact⟨_,_,Zj,rfl,fun j hj=>by exact F4⟩
    ·cases bc
  exact c.settle ((((Nu.refl tidy).put l2 (E5 (Gu rfl f1))).put l3 (E5 (Gu xf f2))).put l4 (E5 (Zes f3))) (Zgp.flat rfl) hk
 ·cases e
theorem Zgk {args:List W} {h h':Go.Ev.H} {v:V} (e:Zks args h=some (v,h')):Zg 46 args h v h':=by
 unfold Zks at e
 split at e
 ·rename_i t z
  obtain⟨X,ht,e⟩:=Zh e
  have ht:=Ym ht
  obtain⟨l,hl,e⟩:=Zh e
  have hl:=getM_some hl
  obtain⟨b,e⟩:=Zr.1 e
  simp only[Bool.and_eq_true,decide_eq_true_eq] at b
  obtain⟨bo,z0⟩:=b
  cases e
  refine fnG Hh Tryz.f46 ?_
  have Jf:=Uc @ht @bo @hl
  repeat (first|apply Zp|apply Z6|apply Yb|refine Goes.Zn Yi ?_|refine Zy Hh (EY Za (Xe Hh)) Yi ?_)
  exact Zj
 ·cases e
theorem Zp8 {args:List W} {h h':Go.Ev.H} {v:V} (e:Zkq args h=some (v,h')):Zg 92 args h v h':=by
 unfold Zkq at e
 split at e
 ·rename_i t
  obtain⟨X,ht,e⟩:=Zh e
  have ht:=Ym ht
  cases e
  refine fnG Hh Tryz.f92 ?_
  repeat (first|apply Zp|((first|apply Goes.Zn|apply Goes.ops2 fits Hh Za); · simp (maxSteps:=9^6) +decide (disch:=first|omega|(simp only[lens]<;>omega)|decide) only [go_sem,Zm,Ze,simprocAttr,ht,Zxm,Zlo,read1,Z9]<;>rfl))
  exact Zj
 ·cases e
theorem Zni {args:List W} {h h':Go.Ev.H} {v:V} (e:Zyw args h=some (v,h')):Zg 47 args h v h':=by
 unfold Zyw at e
 split at e
 ·rename_i t
  obtain⟨X,ht,e⟩:=Zh e
  have ht:=Ym ht
  obtain⟨bo,e⟩:=Zr.1 e
  cases e
  refine fnG Hh Tryz.f47 ?_
  have Jf:=Uq @ht @bo
  repeat (first|apply Zp|apply Z6|apply Yb|refine Goes.Zn Yi ?_|refine Zy Hh (EY (EY Za (Ziq Hh)) (Zp8 Hh)) Yi ?_)
  exact Zj
 ·cases e
end
end Go.Proofs.YtdmendgkbikkaaaGreatDoor
