/- Transactions: made, handle, askB, Seq, Open, Get, Put, Order, close, End; the revoked blocks, if there are none. -/
import Derived.Test.YtdkcjalmhdofcaaGreatDoorTy
import Derived.Test.YtdkcjalmhdofcaaGreatDoorEvC
set_option linter.unusedSimpArgs false
set_option linter.unusedVariables false
set_option linter.unusedSectionVars false
set_option maxRecDepth 100000
namespace Go.Proofs.YtdkcjalmhdofcaaGreatDoor
open Go.Ev
theorem ty3:K.types.get 3=some ti3:=by kernel_rfl
theorem sz3:ti3.size=1:=by rfl
theorem ag3:ti3.agg=false:=by rfl
theorem de3:ti3.desc=(.int .i64):=by rfl
theorem ze3:ti3.zero=(.c (.int .i64 0)):=by rfl
theorem by3:ti3.bytes=8:=by rfl
theorem ke3 (k:IntKind) (n:Int):Bn K 20 3 (.c (.int k n))=true:=by kernel_rfl
theorem ty4:K.types.get 4=some ti4:=by kernel_rfl
theorem sz4:ti4.size=1:=by rfl
theorem ag4:ti4.agg=false:=by rfl
theorem de4:ti4.desc=.bool:=by rfl
theorem ze4:ti4.zero=(.c (.bool false)):=by rfl
theorem by4:ti4.bytes=1:=by rfl
theorem ty5:K.types.get 5=some ti5:=by kernel_rfl
theorem sz5:ti5.size=1:=by rfl
theorem ag5:ti5.agg=false:=by rfl
theorem de5:ti5.desc=(.int .u8):=by rfl
theorem ze5:ti5.zero=(.c (.int .u8 0)):=by rfl
theorem by5:ti5.bytes=1:=by rfl
theorem ke5 (k:IntKind) (n:Int):Bn K 20 5 (.c (.int k n))=true:=by kernel_rfl
theorem ty37:K.types.get 37=some ti37:=by kernel_rfl
theorem sz37:ti37.size=1:=by rfl
theorem ag37:ti37.agg=false:=by rfl
theorem de37:ti37.desc=(.int .i64):=by rfl
theorem ze37:ti37.zero=(.c (.int .i64 0)):=by rfl
theorem by37:ti37.bytes=8:=by rfl
theorem ke37 (k:IntKind) (n:Int):Bn K 20 37 (.c (.int k n))=true:=by kernel_rfl
theorem ty44:K.types.get 44=some ti44:=by kernel_rfl
theorem sz44:ti44.size=1:=by rfl
theorem ag44:ti44.agg=false:=by rfl
theorem de44:ti44.desc=(.int .u32):=by rfl
theorem ze44:ti44.zero=(.c (.int .u32 0)):=by rfl
theorem by44:ti44.bytes=4:=by rfl
theorem ke44 (k:IntKind) (n:Int):Bn K 20 44 (.c (.int k n))=true:=by kernel_rfl
theorem ty60:K.types.get 60=some ti60:=by kernel_rfl
theorem sz60:ti60.size=256:=by rfl
theorem ag60:ti60.agg=true:=by rfl
theorem de60:ti60.desc=(.array 256 5):=by rfl
theorem ze60:ti60.zero=(.g ((List.replicate 256 (.int .u8 0)))):=by rfl
theorem by60:ti60.bytes=256:=by rfl
theorem eq60 (a b:List C):eqT K 20 60 (.g a) (.g b)=(bif true&&Nat.beq a.length 256&&Nat.beq b.length 256 then Yp a b else none):=by kernel_rfl
theorem ty71:K.types.get 71=some ti71:=by kernel_rfl
theorem sz71:ti71.size=1:=by rfl
theorem ag71:ti71.agg=false:=by rfl
theorem de71:ti71.desc=(.pointer 179):=by rfl
theorem ze71:ti71.zero=(.c (.pnil)):=by rfl
theorem by71:ti71.bytes=8:=by rfl
theorem ty173:K.types.get 173=some ti173:=by kernel_rfl
theorem sz173:ti173.size=1:=by rfl
theorem ag173:ti173.agg=false:=by rfl
theorem de173:ti173.desc=(.map 3 60):=by rfl
theorem ze173:ti173.zero=(.c (.mnil)):=by rfl
theorem by173:ti173.bytes=8:=by rfl
theorem mp173:Gj K 173=some (3,60):=by kernel_rfl
theorem ty174:K.types.get 174=some ti174:=by kernel_rfl
theorem sz174:ti174.size=1:=by rfl
theorem ag174:ti174.agg=false:=by rfl
theorem de174:ti174.desc=(.map 3 229):=by rfl
theorem ze174:ti174.zero=(.c (.mnil)):=by rfl
theorem by174:ti174.bytes=8:=by rfl
theorem mp174:Gj K 174=some (3,229):=by kernel_rfl
theorem ty175:K.types.get 175=some ti175:=by kernel_rfl
theorem sz175:ti175.size=1:=by rfl
theorem ag175:ti175.agg=false:=by rfl
theorem de175:ti175.desc=(.pointer 260):=by rfl
theorem ze175:ti175.zero=(.c (.pnil)):=by rfl
theorem by175:ti175.bytes=8:=by rfl
theorem ty177:K.types.get 177=some ti177:=by kernel_rfl
theorem sz177:ti177.size=4:=by rfl
theorem ag177:ti177.agg=true:=by rfl
theorem fo177_0:Zp K 177 0=some (0,ti173):=by kernel_rfl
theorem fo177_1:Zp K 177 1=some (1,ti174):=by kernel_rfl
theorem fo177_2:Zp K 177 2=some (2,ti174):=by kernel_rfl
theorem fo177_3:Zp K 177 3=some (3,ti175):=by kernel_rfl
theorem bu177 (ps:List (Nat × W)):Z9 K 177 (some ps)=gW (Z5 K 177 ps ti177.zero.cells):=by kernel_rfl
theorem ze177:ti177.zero=(.g ([.mnil,.mnil,.mnil,.pnil])):=by rfl
theorem by177:ti177.bytes=32:=by rfl
theorem ty179:K.types.get 179=some ti179:=by kernel_rfl
theorem sz179:ti179.size=13:=by rfl
theorem ag179:ti179.agg=true:=by rfl
theorem fo179_0:Zp K 179 0=some (0,ti177):=by kernel_rfl
theorem fo179_1:Zp K 179 1=some (4,ti44):=by kernel_rfl
theorem fo179_2:Zp K 179 2=some (5,ti4):=by kernel_rfl
theorem fo179_3:Zp K 179 3=some (6,ti3):=by kernel_rfl
theorem fo179_4:Zp K 179 4=some (7,ti3):=by kernel_rfl
theorem fo179_5:Zp K 179 5=some (8,ti174):=by kernel_rfl
theorem fo179_6:Zp K 179 6=some (9,ti177):=by kernel_rfl
theorem bu179 (ps:List (Nat × W)):Z9 K 179 (some ps)=gW (Z5 K 179 ps ti179.zero.cells):=by kernel_rfl
theorem ze179:ti179.zero=(.g ([.mnil,.mnil,.mnil,.pnil,.int .u32 0,.bool false,.int .i64 0,.int .i64 0,.mnil,.mnil,.mnil,.mnil,.pnil])):=by rfl
theorem by179:ti179.bytes=96:=by rfl
theorem ty229:K.types.get 229=some ti229:=by kernel_rfl
theorem sz229:ti229.size=0:=by rfl
theorem ag229:ti229.agg=true:=by rfl
theorem bu229 (ps:List (Nat × W)):Z9 K 229 (some ps)=gW (Z5 K 229 ps ti229.zero.cells):=by kernel_rfl
theorem ze229:ti229.zero=(.g ([])):=by rfl
theorem by229:ti229.bytes=0:=by rfl
theorem ty258:K.types.get 258=some ti258:=by kernel_rfl
theorem sz258:ti258.size=1:=by rfl
theorem ag258:ti258.agg=false:=by rfl
theorem de258:ti258.desc=(.map 262 229):=by rfl
theorem ze258:ti258.zero=(.c (.mnil)):=by rfl
theorem by258:ti258.bytes=8:=by rfl
theorem mp258:Gj K 258=some (262,229):=by kernel_rfl
theorem ty260:K.types.get 260=some ti260:=by kernel_rfl
theorem sz260:ti260.size=1:=by rfl
theorem ag260:ti260.agg=true:=by rfl
theorem fo260_0:Zp K 260 0=some (0,ti258):=by kernel_rfl
theorem bu260 (ps:List (Nat × W)):Z9 K 260 (some ps)=gW (Z5 K 260 ps ti260.zero.cells):=by kernel_rfl
theorem ze260:ti260.zero=(.g ([.mnil])):=by rfl
theorem by260:ti260.bytes=8:=by rfl
theorem ty262:K.types.get 262=some ti262:=by kernel_rfl
theorem sz262:ti262.size=2:=by rfl
theorem ag262:ti262.agg=true:=by rfl
theorem fo262_0:Zp K 262 0=some (0,ti3):=by kernel_rfl
theorem fo262_1:Zp K 262 1=some (1,ti44):=by kernel_rfl
theorem bu262 (ps:List (Nat × W)):Z9 K 262 (some ps)=gW (Z5 K 262 ps ti262.zero.cells):=by kernel_rfl
theorem ze262:ti262.zero=(.g ([.int .i64 0,.int .u32 0])):=by rfl
theorem by262:ti262.bytes=16:=by rfl
attribute [go_sem] ty3 sz3 ag3 de3 ze3 by3 ke3 ty4 sz4 ag4 de4 ze4 by4 ty5 sz5 ag5 de5 ze5 by5 ke5 ty37 sz37 ag37 de37 ze37 by37 ke37 ty44 sz44 ag44 de44 ze44 by44 ke44 ty60 sz60 ag60 de60 ze60 by60 eq60 ty71 sz71 ag71 de71 ze71 by71 ty173 sz173 ag173 de173 ze173 by173 mp173 ty174 sz174 ag174 de174 ze174 by174 mp174 ty175 sz175 ag175 de175 ze175 by175 ty177 sz177 ag177 fo177_0 fo177_1 fo177_2 fo177_3 bu177 ze177 by177 ty179 sz179 ag179 fo179_0 fo179_1 fo179_2 fo179_3 fo179_4 fo179_5 fo179_6 bu179 ze179 by179 ty229 sz229 ag229 bu229 ze229 by229 ty258 sz258 ag258 de258 ze258 by258 mp258 ty260 sz260 ag260 fo260_0 bu260 ze260 by260 ty262 sz262 ag262 fo262_0 fo262_1 bu262 ze262 by262
theorem rs148:Tryz.f148.results.toList=[.tmp 2]:=rfl
theorem rs164:Tryz.f164.results.toList=[.tmp 4]:=rfl
theorem rs176:Tryz.f176.results.toList=[.tmp 6]:=rfl
theorem rs69:Tryz.f69.results.toList=[.tmp 2]:=rfl
theorem rs208:Tryz.f208.results.toList=[.tmp 2]:=rfl
theorem rs175:Tryz.f175.results.toList=[.tmp 4]:=rfl
theorem rs20:Tryz.f20.results.toList=[.tmp 2]:=rfl
theorem rs21:Tryz.f21.results.toList=[.tmp 2]:=rfl
theorem rs126:Tryz.f126.results.toList=[.cell 4 60,.tmp 5]:=rfl
theorem rs131:Tryz.f131.results.toList=[.tmp 6]:=rfl
attribute [go_sem] rs148 rs164 rs176 rs69 rs208 rs175 rs20 rs21 rs126 rs131
structure Tx where
 ch:Nat
 od:Nat
 fr:Nat
 rv:Nat
 sq:Int
 op:Bool
 cr:Int
 rk:Int
 to:C
 b1:C
 b2:C
 b3:C
 b4:C
def txL (X:Tx):List C:=[.map X.ch,.map X.od,.map X.fr,.ptr X.rv 0,.int .u32 X.sq,.bool X.op,.int .i64 X.cr,.int .i64 X.rk,X.to,X.b1,X.b2,X.b3,X.b4]
attribute [go_sem] txL
noncomputable def Ox (h:Go.Ev.H) (t:Nat):Option Tx:=match h.get t with
 | some (.row sz [[.map ch,.map od,.map fr,.ptr rv o,.int .u32 sq,.bool op,.int .i64 cr,.int .i64 rk,to,b1,b2,b3,b4]] ro)=>Yt (Nat.beq sz 13&&Nat.beq o 0&&!ro) (some ⟨ch,od,fr,rv,sq,op,cr,rk,to,b1,b2,b3,b4⟩)
 | _=>none
theorem Yv {h:Go.Ev.H} {t:Nat} {X:Tx} (e:Ox h t=some X):h.get t=some (.row 13 [txL X] false):=by
 unfold Ox at e
 split at e
 ·rename_i heq
  obtain⟨b,e⟩:=Zv.1 e
  cases e
  simp only[Bool.and_eq_true,Bool.not_eq_true'] at b
  obtain⟨⟨b1,b2⟩,rfl⟩:=b
  obtain rfl:=Nat.eq_of_beq_eq_true b1
  obtain rfl:=Nat.eq_of_beq_eq_true b2
  exact heq
 ·cases e
noncomputable def N8 (h:Go.Ev.H) (r:Nat):Option Nat:=match h.get r with
 | some (.row sz [[.map m]] ro)=>Yt (Nat.beq sz 1&&!ro) (some m)
 | _=>none
theorem Uo {h:Go.Ev.H} {r m:Nat} (e:N8 h r=some m):h.get r=some (.row 1 [[.map m]] false):=by
 unfold N8 at e
 split at e
 ·rename_i heq
  obtain⟨b,e⟩:=Zv.1 e
  cases e
  simp only[Bool.and_eq_true,Bool.not_eq_true'] at b
  obtain⟨b1,rfl⟩:=b
  obtain rfl:=Nat.eq_of_beq_eq_true b1
  exact heq
 ·cases e
noncomputable def Bb (h:Go.Ev.H) (m:Nat):Bool:=match h.get m with
 | some (.map [])=>true
 | _=>false
theorem Yw {h:Go.Ev.H} {m:Nat} (e:Bb h m=true):h.get m=some (.map []):=by
 unfold Bb at e
 split at e
 ·assumption
 ·cases e
def toN:C→Option Nat
 | .map m=>some m
 | _=>none
theorem Zmm {c:C} {m:Nat} (e:toN c=some m):c=.map m:=by
 cases c<;>first|(cases e; rfl)|cases e
theorem Zyg (m:Nat):toN (.map m)=some m:=rfl
theorem Z12 (kt:TypeId) (k:W):Zkh K kt k []=some []:=rfl
noncomputable def Zoo:Kn1:=fun args h=>match args with
 | [.c (.ptr r 0)]=>(N8 h r).bind fun _=>some (.w (.c (.bool true)),h)
 | _=>none
noncomputable def Zwj:Kn1:=fun args h=>match args with
 | [.c (.ptr r 0),.c (.int .i64 z)]=>(N8 h r).bind fun _=>Yt (decide (0≤z)) (some (.w (.c (.int .i64 0)),h))
 | _=>none
noncomputable def Zd9:Kn1:=fun args h=>match args with
 | [.c (.ptr r 0),.c (.int .i64 z),.c (.int .u32 _)]=>(N8 h r).bind fun m=>Yt (decide (0≤z)&&Bb h m) (some (.w (.c (.int .i64 0)),h))
 | _=>none
noncomputable def Znf:Kn1:=fun args h=>match args with
 | [.c (.ptr t 0)]=>(Ox h t).bind fun _=>some (.w (.c (.bool true)),h)
 | _=>none
noncomputable def Zo6:Kn1:=fun args h=>match args with
 | [.c (.ptr t 0)]=>(Ox h t).bind fun X=>Yt X.op (some (.w (.c (.int .i64 0)),h))
 | _=>none
noncomputable def Zty:Kn1:=fun args h=>match args with
 | [.c (.ptr t 0),.c (.int .i64 z)]=>(Ox h t).bind fun X=>Yt (X.op&&decide (0≤z)) (some (.w (.c (.int .i64 0)),h))
 | _=>none
noncomputable def Zt9:Kn1:=fun args h=>match args with
 | [.c (.ptr t 0)]=>(Ox h t).bind fun X=>some (.w (.c (.int .u32 X.sq)),h)
 | _=>none
noncomputable def Zou:Kn1:=fun args h=>match args with
 | [.c (.ptr t 0)]=>(Ox h t).bind fun X=>some (.w (.c (.bool X.op)),h)
 | _=>none
noncomputable def Zw8:Kn1:=fun args h=>match args with
 | [.c (.ptr t 0),.c (.int .i64 z)]=>(Ox h t).bind fun X=>(getM h X.ch).bind fun l=>match Y5 z l with
  | some y=>Yt (Nat.beq y.length 256&&y.all C.flat) (some (.tup [.g y,.c (.bool true)],h))
  | none=>some (.tup [.g (List.replicate 256 (.int .u8 0)),.c (.bool false)],h)
 | _=>none
noncomputable def Zfe:Kn1:=fun args h=>match args with
 | [.c (.ptr t 0),.c (.int .i64 z),.g x]=>(Ox h t).bind fun X=>(toN X.to).bind fun to=>(getM h to).bind fun lt=>(getM h X.ch).bind fun lc=>(getM h X.fr).bind fun lf=>(N8 h X.rv).bind fun m =>
  Yt (X.op&&decide (0≤z)&&Bb h m&&(match Y5 z lt with|none=>decide ((lt.length:Int)<X.cr)|some []=>true|some (_ :: _)=>false)&&Nat.beq x.length 256&&x.all C.flat&&Oy lt&&Oy lc&&Oy lf&&!(Nat.beq to X.ch)&&!(Nat.beq to X.fr)&&!(Nat.beq X.ch X.fr)&&!(Nat.beq to m)&&!(Nat.beq X.ch m)&&!(Nat.beq X.fr m)&&!(Nat.beq to t)&&!(Nat.beq X.ch t)&&!(Nat.beq X.fr t)&&!(Nat.beq to X.rv)&&!(Nat.beq X.ch X.rv)&&!(Nat.beq X.fr X.rv))
   (some (.w (.c (.int .i64 0)),((h.put to (.map (J9 (Gh z [] lt)))).put X.ch (.map (J9 (Gh z x lc)))).put X.fr (.map (J9 (Zez z lf)))))
 | _=>none
noncomputable def Zxd:Kn1:=fun args h=>match args with
 | [.c (.ptr t 0),.c (.int .i64 z)]=>(Ox h t).bind fun X=>(getM h X.od).bind fun l=>Yt (X.op&&decide (0≤z)) (some (.w (.c (.int .i64 0)),h.put X.od (.map (J9 (Gh z [] l)))))
 | _=>none
def Z2w (X:Tx):Tx:={ X with op:=false,cr:=0,rk:=0,to:=.mnil,b1:=.mnil,b2:=.mnil,b3:=.mnil,b4:=.pnil }
noncomputable def Z28 (h:Go.Ev.H) (t:Nat) (X:Tx):Go.Ev.H:=((((h.put t (.row 13 [txL { X with op:=false }] false)).put t (.row 13 [txL { X with op:=false,cr:=0 }] false)).put t (.row 13 [txL { X with op:=false,cr:=0,rk:=0 }] false)).put t (.row 13 [txL { X with op:=false,cr:=0,rk:=0,to:=.mnil }] false)).put t (.row 13 [txL (Z2w X)] false)
noncomputable def Zxf:Kn1:=fun args h=>match args with
 | [.c (.ptr t 0)]=>(Ox h t).bind fun X=>some (.tup [],Z28 h t X)
 | _=>none
noncomputable def Z25:Kn1:=fun args h=>match args with
 | [.c (.ptr t 0)]=>(Ox h t).bind fun X=>Yt X.op (some (.w (.c (.int .i64 0)),Z28 h t X))
 | _=>none
attribute [go_sem] Ox N8 Bb Zyg Z12 Zoo Zwj Zd9 Znf Zo6 Zty Zt9 Zou Zw8 Zfe Zxd Zxf Z25
theorem Z3j (a s:Int):Bn K 20 262 (.g [.int .i64 a,.int .u32 s])=true:=by kernel_rfl
attribute [go_sem] Z3j
section
variable (Hh:Hearts K Tryz.prog)
include Hh
theorem Zhu {args:List W} {h h':Go.Ev.H} {v:V} (e:Zoo args h=some (v,h')):Zg K Tryz.prog 148 args h v h':=by
 unfold Zoo at e
 split at e
 ·rename_i r
  obtain⟨m,hr,e⟩:=Zq e
  have hr:=Uo hr
  cases e
  refine Zg.goes fits Hh (by kernel_rfl) (by kernel_rfl) (by kernel_rfl) (show Tryz.f148.body=some _ from rfl) rfl ?_
  repeat (first|apply Goes.seq|apply Goes.block|apply Goes.loop|apply Goes.skip|apply Goes.exit|apply Goes.ret|((first|apply Goes.Zo|apply Goes.ops2 fits Hh Zb); · simp (maxSteps:=9^6) +decide (disch:=first|omega|(simp only[lens]<;>omega)|decide) only [go_sem,Zd,Za,simprocAttr,hr,read1]<;>rfl))
  simp (maxSteps:=9^6) +decide (disch:=first|omega|(simp only[lens]<;>omega)|decide) only [go_sem,Zd,Za,simprocAttr]<;>rfl
 ·cases e
theorem Zv4 {args:List W} {h h':Go.Ev.H} {v:V} (e:Zwj args h=some (v,h')):Zg K Tryz.prog 164 args h v h':=by
 unfold Zwj at e
 split at e
 ·rename_i r z
  obtain⟨m,hr,e⟩:=Zq e
  have hr:=Uo hr
  obtain⟨b,e⟩:=Zv.1 e
  have z0:=of_decide_eq_true b
  cases e
  refine Zg.goes fits Hh (by kernel_rfl) (by kernel_rfl) (by kernel_rfl) (show Tryz.f164.body=some _ from rfl) rfl ?_
  repeat (first|apply Goes.seq|apply Goes.block|apply Goes.loop|apply Goes.skip|apply Goes.exit|apply Goes.ret|((first|apply Goes.Zo|apply Goes.ops2 fits Hh (Zj Zb (fun _ _ _ _=>Zhu Hh))); · simp (maxSteps:=9^6) +decide (disch:=first|omega|(simp only[lens]<;>omega)|decide) only [go_sem,Zd,Za,simprocAttr,hr,read1]<;>rfl))
  simp (maxSteps:=9^6) +decide (disch:=first|omega|(simp only[lens]<;>omega)|decide) only [go_sem,Zd,Za,simprocAttr]<;>rfl
 ·cases e
theorem Mj {args:List W} {h h':Go.Ev.H} {v:V} (e:Zd9 args h=some (v,h')):Zg K Tryz.prog 176 args h v h':=by
 unfold Zd9 at e
 split at e
 ·rename_i r z s
  obtain⟨m,hr,e⟩:=Zq e
  have hr:=Uo hr
  obtain⟨b,e⟩:=Zv.1 e
  simp only[Bool.and_eq_true,decide_eq_true_eq] at b
  obtain⟨z0,b⟩:=b
  have hm:=Yw b
  cases e
  obtain⟨v,h',c,rfl,hk⟩:∃ v h',Zg K Tryz.prog 176 [.c (.ptr r 0),.c (.int .i64 z),.c (.int .u32 s)] h v h'∧v=.w (.c (.int .i64 0))∧∀ j,j<h.next→h'.get j=h.get j:=by
   refine Zg.Yb fits Hh (by kernel_rfl) (by kernel_rfl) (by kernel_rfl) (show Tryz.f176.body=some _ from rfl) rfl ?_
   repeat (first|apply Goes.seq|apply Goes.block|apply Goes.loop|apply Goes.skip|apply Goes.exit|apply Goes.ret|((first|apply Goes.Zo|apply Goes.ops2 fits Hh (Zj Zb (fun _ _ _ _=>Zv4 Hh))); · simp (maxSteps:=9^6) +decide (disch:=first|omega|(simp only[lens]<;>omega)|decide) only [go_sem,Zd,Za,simprocAttr,hr,hm,read1,Zn,Tt,Zba]<;>rfl))
   exact⟨_,_,(by simp (maxSteps:=9^6) +decide (disch:=first|omega|(simp only[lens]<;>omega)|decide) only [go_sem,Zd,Za,simprocAttr,hr,hm]<;>rfl),rfl,fun j _=>by rw[H.get_put]; split<;>first|(rename_i ej; rw[ej,hm])|rfl⟩
  exact c.quiet rfl hk
 ·cases e
theorem Gc {args:List W} {h h':Go.Ev.H} {v:V} (e:Znf args h=some (v,h')):Zg K Tryz.prog 69 args h v h':=by
 unfold Znf at e
 split at e
 ·rename_i t
  obtain⟨X,ht,e⟩:=Zq e
  have ht:=Yv ht
  cases e
  refine Zg.goes fits Hh (by kernel_rfl) (by kernel_rfl) (by kernel_rfl) (show Tryz.f69.body=some _ from rfl) rfl ?_
  repeat (first|apply Goes.seq|apply Goes.block|apply Goes.loop|apply Goes.skip|apply Goes.exit|apply Goes.ret|((first|apply Goes.Zo|apply Goes.ops2 fits Hh Zb); · simp (maxSteps:=9^6) +decide (disch:=first|omega|(simp only[lens]<;>omega)|decide) only [go_sem,Zd,Za,simprocAttr,ht,read1]<;>rfl))
  simp (maxSteps:=9^6) +decide (disch:=first|omega|(simp only[lens]<;>omega)|decide) only [go_sem,Zd,Za,simprocAttr]<;>rfl
 ·cases e
theorem Zqq {args:List W} {h h':Go.Ev.H} {v:V} (e:Zo6 args h=some (v,h')):Zg K Tryz.prog 208 args h v h':=by
 unfold Zo6 at e
 split at e
 ·rename_i t
  obtain⟨X,ht,e⟩:=Zq e
  have ht:=Yv ht
  obtain⟨bo,e⟩:=Zv.1 e
  cases e
  refine Zg.goes fits Hh (by kernel_rfl) (by kernel_rfl) (by kernel_rfl) (show Tryz.f208.body=some _ from rfl) rfl ?_
  repeat (first|apply Goes.seq|apply Goes.block|apply Goes.loop|apply Goes.skip|apply Goes.exit|apply Goes.ret|((first|apply Goes.Zo|apply Goes.ops2 fits Hh (Zj Zb (fun _ _ _ _=>Gc Hh))); · simp (maxSteps:=9^6) +decide (disch:=first|omega|(simp only[lens]<;>omega)|decide) only [go_sem,Zd,Za,simprocAttr,ht,bo,read1]<;>rfl))
  simp (maxSteps:=9^6) +decide (disch:=first|omega|(simp only[lens]<;>omega)|decide) only [go_sem,Zd,Za,simprocAttr]<;>rfl
 ·cases e
theorem Zar {args:List W} {h h':Go.Ev.H} {v:V} (e:Zty args h=some (v,h')):Zg K Tryz.prog 175 args h v h':=by
 unfold Zty at e
 split at e
 ·rename_i t z
  obtain⟨X,ht,e⟩:=Zq e
  have ht:=Yv ht
  obtain⟨b,e⟩:=Zv.1 e
  simp only[Bool.and_eq_true,decide_eq_true_eq] at b
  obtain⟨bo,z0⟩:=b
  cases e
  refine Zg.goes fits Hh (by kernel_rfl) (by kernel_rfl) (by kernel_rfl) (show Tryz.f175.body=some _ from rfl) rfl ?_
  repeat (first|apply Goes.seq|apply Goes.block|apply Goes.loop|apply Goes.skip|apply Goes.exit|apply Goes.ret|((first|apply Goes.Zo|apply Goes.ops2 fits Hh (Zj Zb (fun _ _ _ _=>Zqq Hh))); · simp (maxSteps:=9^6) +decide (disch:=first|omega|(simp only[lens]<;>omega)|decide) only [go_sem,Zd,Za,simprocAttr,ht,bo,read1]<;>rfl))
  simp (maxSteps:=9^6) +decide (disch:=first|omega|(simp only[lens]<;>omega)|decide) only [go_sem,Zd,Za,simprocAttr]<;>rfl
 ·cases e
theorem Zxa {args:List W} {h h':Go.Ev.H} {v:V} (e:Zt9 args h=some (v,h')):Zg K Tryz.prog 20 args h v h':=by
 unfold Zt9 at e
 split at e
 ·rename_i t
  obtain⟨X,ht,e⟩:=Zq e
  have ht:=Yv ht
  cases e
  refine Zg.goes fits Hh (by kernel_rfl) (by kernel_rfl) (by kernel_rfl) (show Tryz.f20.body=some _ from rfl) rfl ?_
  repeat (first|apply Goes.seq|apply Goes.block|apply Goes.loop|apply Goes.skip|apply Goes.exit|apply Goes.ret|((first|apply Goes.Zo|apply Goes.ops2 fits Hh (Zj Zb (fun _ _ _ _=>Gc Hh))); · simp (maxSteps:=9^6) +decide (disch:=first|omega|(simp only[lens]<;>omega)|decide) only [go_sem,Zd,Za,simprocAttr,ht,read1]<;>rfl))
  simp (maxSteps:=9^6) +decide (disch:=first|omega|(simp only[lens]<;>omega)|decide) only [go_sem,Zd,Za,simprocAttr]<;>rfl
 ·cases e
theorem Zbv {args:List W} {h h':Go.Ev.H} {v:V} (e:Zou args h=some (v,h')):Zg K Tryz.prog 21 args h v h':=by
 unfold Zou at e
 split at e
 ·rename_i t
  obtain⟨X,ht,e⟩:=Zq e
  have ht:=Yv ht
  cases e
  refine Zg.goes fits Hh (by kernel_rfl) (by kernel_rfl) (by kernel_rfl) (show Tryz.f21.body=some _ from rfl) rfl ?_
  repeat (first|apply Goes.seq|apply Goes.block|apply Goes.loop|apply Goes.skip|apply Goes.exit|apply Goes.ret|((first|apply Goes.Zo|apply Goes.ops2 fits Hh (Zj Zb (fun _ _ _ _=>Gc Hh))); · simp (maxSteps:=9^6) +decide (disch:=first|omega|(simp only[lens]<;>omega)|decide) only [go_sem,Zd,Za,simprocAttr,ht,read1]<;>rfl))
  simp (maxSteps:=9^6) +decide (disch:=first|omega|(simp only[lens]<;>omega)|decide) only [go_sem,Zd,Za,simprocAttr]<;>rfl
 ·cases e
theorem Qe {args:List W} {h h':Go.Ev.H} {v:V} (e:Zw8 args h=some (v,h')):Zg K Tryz.prog 126 args h v h':=by
 unfold Zw8 at e
 split at e
 ·rename_i t z
  obtain⟨X,ht,e⟩:=Zq e
  have ht:=Yv ht
  obtain⟨l,hm,e⟩:=Zq e
  have hm:=getM_some hm
  refine Zg.tidy ⟨Tryz.f126,Tryz.func126,by kernel_rfl,by decide⟩ fun tidy=>?_
  have lt:=tidy _ _ ht
  have lm:=tidy _ _ hm
  split at e
  ·rename_i y hl
   obtain⟨b,e⟩:=Zv.1 e
   rw[Bool.and_eq_true] at b
   have yl:=Nat.eq_of_beq_eq_true b.1
   have yf:=b.2
   cases e
   obtain⟨v,h',c,rfl,hk⟩:∃ v h',Zg K Tryz.prog 126 [.c (.ptr t 0),.c (.int .i64 z)] h v h'∧v=.tup [.g y,.c (.bool true)]∧∀ m,m<h.next→h'.get m=h.get m:=by
    refine Zg.Yb fits Hh (by kernel_rfl) (by kernel_rfl) (by kernel_rfl) (show Tryz.f126.body=some _ from rfl) rfl ?_
    repeat (first|apply Goes.seq|apply Goes.block|apply Goes.loop|apply Goes.skip|apply Goes.exit|apply Goes.ret|((first|apply Goes.Zo|apply Goes.ops2 fits Hh (Zj Zb (fun _ _ _ _=>Gc Hh))); · simp (maxSteps:=9^6) +decide (disch:=first|omega|(simp only[lens]<;>omega)|decide) only [go_sem,Za,simprocAttr,ht,hm,hl,read1]<;>rfl))
    exact⟨_,_,(by simp (maxSteps:=9^6) +decide (disch:=first|omega|(simp only[lens]<;>omega)|decide) only [go_sem,Za,simprocAttr,ht,hm,hl]<;>rfl),rfl,fun m hm=>by (first|(simp (discharger:=omega) only [H.get_put,H.Zf,H.Zk,H.Zc,H.Zh,H.Zi,if_neg]; done)|(simp only[H.get_put,H.Zf,H.Zk,H.Zc,H.Zh,H.Zi]; (repeat' split)<;>first|rfl|(exfalso; omega)|omega))⟩
   refine c.quiet ?_ hk
   show (y.all C.flat&&true)=true
   rw[yf]; rfl
  ·rename_i hl
   cases e
   obtain⟨v,h',c,rfl,hk⟩:∃ v h',Zg K Tryz.prog 126 [.c (.ptr t 0),.c (.int .i64 z)] h v h'∧v=.tup [.g (List.replicate 256 (.int .u8 0)),.c (.bool false)]∧∀ m,m<h.next→h'.get m=h.get m:=by
    refine Zg.Yb fits Hh (by kernel_rfl) (by kernel_rfl) (by kernel_rfl) (show Tryz.f126.body=some _ from rfl) rfl ?_
    repeat (first|apply Goes.seq|apply Goes.block|apply Goes.loop|apply Goes.skip|apply Goes.exit|apply Goes.ret|((first|apply Goes.Zo|apply Goes.ops2 fits Hh (Zj Zb (fun _ _ _ _=>Gc Hh))); · simp (maxSteps:=9^6) +decide (disch:=first|omega|(simp only[lens]<;>omega)|decide) only [go_sem,Za,simprocAttr,ht,hm,hl,read1]<;>rfl))
    exact⟨_,_,(by simp (maxSteps:=9^6) +decide (disch:=first|omega|(simp only[lens]<;>omega)|decide) only [go_sem,Za,simprocAttr,ht,hm,hl]<;>rfl),rfl,fun m hm=>by (first|(simp (discharger:=omega) only [H.get_put,H.Zf,H.Zk,H.Zc,H.Zh,H.Zi,if_neg]; done)|(simp only[H.get_put,H.Zf,H.Zk,H.Zc,H.Zh,H.Zi]; (repeat' split)<;>first|rfl|(exfalso; omega)|omega))⟩
   exact c.quiet (by kernel_rfl) hk
 ·cases e
end
end Go.Proofs.YtdkcjalmhdofcaaGreatDoor
set_option maxRecDepth 100000
namespace Go.Proofs.YtdkcjalmhdofcaaGreatDoor
open Go.Ev
theorem Jr {a b:Nat} (h:Nat.beq a b=false):a≠b:=fun e=>by rw[e,Nat.beq_refl] at h; cases h
theorem Zyu (m:Nat):Yr K 174 (.c (.map m))=true:=by kernel_rfl
attribute [go_sem] Zyu
section
variable (Hh:Hearts K Tryz.prog)
include Hh
set_option maxHeartbeats 1000000 in
theorem Qc {args:List W} {h h':Go.Ev.H} {v:V} (e:Zfe args h=some (v,h')):Zg K Tryz.prog 131 args h v h':=by
 unfold Zfe at e
 split at e
 ·rename_i t z x
  obtain⟨X,ht,e⟩:=Zq e
  have ht:=Yv ht
  obtain⟨to,hto,e⟩:=Zq e
  have hto:=Zmm hto
  obtain⟨lt,hlt,e⟩:=Zq e
  have hlt:=getM_some hlt
  obtain⟨lc,hlc,e⟩:=Zq e
  have hlc:=getM_some hlc
  obtain⟨lf,hlf,e⟩:=Zq e
  have hlf:=getM_some hlf
  obtain⟨m,hr,e⟩:=Zq e
  have hrv:=hr
  have hr:=Uo hr
  obtain⟨b,e⟩:=Zv.1 e
  cases e
  refine Zg.tidy ⟨Tryz.f131,Tryz.func131,by kernel_rfl,by decide⟩ fun tidy=>?_
  have l1:=tidy _ _ ht
  have l2:=tidy _ _ hlt
  have l3:=tidy _ _ hlc
  have l4:=tidy _ _ hlf
  have l5:=tidy _ _ hr
  simp only[Bool.and_eq_true,decide_eq_true_eq,Bool.not_eq_true'] at b
  obtain⟨⟨⟨⟨⟨⟨⟨⟨⟨⟨⟨⟨⟨⟨⟨⟨⟨⟨⟨⟨bo,z0⟩,bm⟩,bc⟩,bx⟩,xf⟩,f1⟩,f2⟩,f3⟩,c1⟩,c2⟩,c3⟩,c4⟩,c5⟩,c6⟩,c7⟩,c8⟩,c9⟩,c10⟩,c11⟩,c12⟩:=b
  have hm:=Yw bm
  have l6:=tidy _ _ hm
  have xl:=Nat.eq_of_beq_eq_true bx
  have n1:=Jr c1
  have n2:=Jr c2
  have n3:=Jr c3
  have n4:=Jr c4
  have n5:=Jr c5
  have n6:=Jr c6
  have n7:=Jr c7
  have n8:=Jr c8
  have n9:=Jr c9
  have n10:=Jr c10
  have n11:=Jr c11
  have n12:=Jr c12
  obtain⟨v,h',c,rfl,hk⟩:∃ v h',Zg K Tryz.prog 131 [.c (.ptr t 0),.c (.int .i64 z),.g x] h v h'∧v=.w (.c (.int .i64 0))∧∀ j,j<h.next→h'.get j=(((h.put to (.map (J9 (Gh z [] lt)))).put X.ch (.map (J9 (Gh z x lc)))).put X.fr (.map (J9 (Zez z lf)))).get j:=by
   rcases hl:Y5 z lt with _|y
   ·rw[hl] at bc
    have bc:=of_decide_eq_true bc
    refine Zg.Yb fits Hh (by kernel_rfl) (by kernel_rfl) (by kernel_rfl) (show Tryz.f131.body=some _ from rfl) rfl ?_
    repeat (first|apply Goes.seq|apply Goes.block|apply Goes.loop|apply Goes.skip|apply Goes.exit|apply Goes.ret|((first|apply Goes.Zo|apply Goes.ops2 fits Hh (Zj (Zj Zb (fun _ _ _ _=>Zar Hh)) (fun _ _ _ _=>Mj Hh))); · simp (maxSteps:=9^6) +decide (disch:=first|omega|(simp only[lens]<;>omega)|decide) only [go_sem,Za,simprocAttr,ht,hto,hlt,hlc,hlf,hr,hm,bo,hl,xl,Ti,read1,Zn,Yg]<;>rfl)|(apply Goes.drawn2 fits Hh (Zj (Zj Zb (fun _ _ _ _=>Zar Hh)) (fun _ _ _ _=>Mj Hh)) (by kernel_rfl); · simp (maxSteps:=9^6) +decide (disch:=first|omega|(simp only[lens]<;>omega)|decide) only [go_sem,Za,simprocAttr,drG,ht,hto,hlt,hlc,hlf,hr,hm,bo,hl,xl,Ti,read1,Zn,Yg]<;>rfl))
    exact⟨_,_,(by simp (maxSteps:=9^6) +decide (disch:=first|omega|(simp only[lens]<;>omega)|decide) only [go_sem,Zd,Za,simprocAttr]<;>rfl),rfl,fun j hj=>by (first|(simp (discharger:=omega) only [H.get_put,H.Zf,H.Zk,H.Zc,H.Zh,H.Zi,if_neg]; done)|(simp only[H.get_put,H.Zf,H.Zk,H.Zc,H.Zh,H.Zi]; (repeat' split)<;>first|rfl|(exfalso; omega)|omega))⟩
   ·rw[hl] at bc
    rcases y with _|⟨y0,y⟩
    ·
     refine Zg.Yb fits Hh (by kernel_rfl) (by kernel_rfl) (by kernel_rfl) (show Tryz.f131.body=some _ from rfl) rfl ?_
     repeat (first|apply Goes.seq|apply Goes.block|apply Goes.loop|apply Goes.skip|apply Goes.exit|apply Goes.ret|((first|apply Goes.Zo|apply Goes.ops2 fits Hh (Zj (Zj Zb (fun _ _ _ _=>Zar Hh)) (fun _ _ _ _=>Mj Hh))); · simp (maxSteps:=9^6) +decide (disch:=first|omega|(simp only[lens]<;>omega)|decide) only [go_sem,Za,simprocAttr,ht,hto,hlt,hlc,hlf,hr,hm,bo,hl,xl,Ti,read1,Zn,Yg]<;>rfl)|(apply Goes.drawn2 fits Hh (Zj (Zj Zb (fun _ _ _ _=>Zar Hh)) (fun _ _ _ _=>Mj Hh)) (by kernel_rfl); · simp (maxSteps:=9^6) +decide (disch:=first|omega|(simp only[lens]<;>omega)|decide) only [go_sem,Za,simprocAttr,drG,ht,hto,hlt,hlc,hlf,hr,hm,bo,hl,xl,Ti,read1,Zn,Yg]<;>rfl))
     exact⟨_,_,(by simp (maxSteps:=9^6) +decide (disch:=first|omega|(simp only[lens]<;>omega)|decide) only [go_sem,Zd,Za,simprocAttr]<;>rfl),rfl,fun j hj=>by (first|(simp (discharger:=omega) only [H.get_put,H.Zf,H.Zk,H.Zc,H.Zh,H.Zi,if_neg]; done)|(simp only[H.get_put,H.Zf,H.Zk,H.Zc,H.Zh,H.Zi]; (repeat' split)<;>first|rfl|(exfalso; omega)|omega))⟩
    ·cases bc
  exact c.settle ((((Sq.refl tidy).put l2 (Fp (Gx rfl f1))).put l3 (Fp (Gx xf f2))).put l4 (Fp (Zdt f3))) (Zhy.flat rfl) hk
 ·cases e
end
end Go.Proofs.YtdkcjalmhdofcaaGreatDoor
