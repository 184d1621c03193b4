/- Transactions: made, handle, askB, Seq, Open, Get, Put, Order, close, End; the revoked blocks, if there are none. -/
import Derived.Test.YtmdibcklpmeleaaGreatDoorCch
import Derived.Test.YtmdibcklpmeleaaGreatDoorEvC
set_option linter.unusedSimpArgs false
set_option linter.unusedVariables false
set_option linter.unusedSectionVars false
set_option maxRecDepth 100000
namespace Go.Proofs.YtmdibcklpmeleaaGreatDoor
open Go.Ev
theorem ty27:K.types.get 27=some ti27:=by kernel_rfl
theorem sz27:ti27.size=1:=by rfl
theorem ag27:ti27.agg=false:=by rfl
theorem de27:ti27.desc=(.int .u32):=by rfl
theorem ze27:ti27.zero=(.c (.int .u32 0)):=by rfl
theorem by27:ti27.bytes=4:=by rfl
theorem ke27 (k:IntKind) (n:Int):Fg K 20 27 (.c (.int k n))=true:=by kernel_rfl
theorem ty57:K.types.get 57=some ti57:=by kernel_rfl
theorem sz57:ti57.size=1:=by rfl
theorem ag57:ti57.agg=false:=by rfl
theorem de57:ti57.desc=(.pointer 133):=by rfl
theorem ze57:ti57.zero=(.c (.pnil)):=by rfl
theorem by57:ti57.bytes=8:=by rfl
theorem ty127:K.types.get 127=some ti127:=by kernel_rfl
theorem sz127:ti127.size=1:=by rfl
theorem ag127:ti127.agg=false:=by rfl
theorem de127:ti127.desc=(.map 3 78):=by rfl
theorem ze127:ti127.zero=(.c (.mnil)):=by rfl
theorem by127:ti127.bytes=8:=by rfl
theorem mp127:Db K 127=some (3,78):=by kernel_rfl
theorem ty129:K.types.get 129=some ti129:=by kernel_rfl
theorem sz129:ti129.size=1:=by rfl
theorem ag129:ti129.agg=false:=by rfl
theorem de129:ti129.desc=(.pointer 203):=by rfl
theorem ze129:ti129.zero=(.c (.pnil)):=by rfl
theorem by129:ti129.bytes=8:=by rfl
theorem ty131:K.types.get 131=some ti131:=by kernel_rfl
theorem sz131:ti131.size=4:=by rfl
theorem ag131:ti131.agg=true:=by rfl
theorem fo131_0:Zr K 131 0=some (0,ti127):=by kernel_rfl
theorem fo131_1:Zr K 131 1=some (1,ti128):=by kernel_rfl
theorem fo131_2:Zr K 131 2=some (2,ti128):=by kernel_rfl
theorem fo131_3:Zr K 131 3=some (3,ti129):=by kernel_rfl
theorem bu131 (ps:List (Nat × W)):Yi K 131 (some ps)=gW (Z7 K 131 ps ti131.zero.cells):=by kernel_rfl
theorem ze131:ti131.zero=(.g ([.mnil,.mnil,.mnil,.pnil])):=by rfl
theorem by131:ti131.bytes=32:=by rfl
theorem ty133:K.types.get 133=some ti133:=by kernel_rfl
theorem sz133:ti133.size=13:=by rfl
theorem ag133:ti133.agg=true:=by rfl
theorem fo133_0:Zr K 133 0=some (0,ti131):=by kernel_rfl
theorem fo133_1:Zr K 133 1=some (4,ti27):=by kernel_rfl
theorem fo133_2:Zr K 133 2=some (5,ti4):=by kernel_rfl
theorem fo133_3:Zr K 133 3=some (6,ti3):=by kernel_rfl
theorem fo133_4:Zr K 133 4=some (7,ti3):=by kernel_rfl
theorem fo133_5:Zr K 133 5=some (8,ti128):=by kernel_rfl
theorem fo133_6:Zr K 133 6=some (9,ti131):=by kernel_rfl
theorem bu133 (ps:List (Nat × W)):Yi K 133 (some ps)=gW (Z7 K 133 ps ti133.zero.cells):=by kernel_rfl
theorem ze133:ti133.zero=(.g ([.mnil,.mnil,.mnil,.pnil,.int .u32 0,.bool false,.int .i64 0,.int .i64 0,.mnil,.mnil,.mnil,.mnil,.pnil])):=by rfl
theorem by133:ti133.bytes=96:=by rfl
theorem ty201:K.types.get 201=some ti201:=by kernel_rfl
theorem sz201:ti201.size=1:=by rfl
theorem ag201:ti201.agg=false:=by rfl
theorem de201:ti201.desc=(.map 205 180):=by rfl
theorem ze201:ti201.zero=(.c (.mnil)):=by rfl
theorem by201:ti201.bytes=8:=by rfl
theorem mp201:Db K 201=some (205,180):=by kernel_rfl
theorem ty203:K.types.get 203=some ti203:=by kernel_rfl
theorem sz203:ti203.size=1:=by rfl
theorem ag203:ti203.agg=true:=by rfl
theorem fo203_0:Zr K 203 0=some (0,ti201):=by kernel_rfl
theorem bu203 (ps:List (Nat × W)):Yi K 203 (some ps)=gW (Z7 K 203 ps ti203.zero.cells):=by kernel_rfl
theorem ze203:ti203.zero=(.g ([.mnil])):=by rfl
theorem by203:ti203.bytes=8:=by rfl
theorem ty205:K.types.get 205=some ti205:=by kernel_rfl
theorem sz205:ti205.size=2:=by rfl
theorem ag205:ti205.agg=true:=by rfl
theorem fo205_0:Zr K 205 0=some (0,ti3):=by kernel_rfl
theorem fo205_1:Zr K 205 1=some (1,ti27):=by kernel_rfl
theorem bu205 (ps:List (Nat × W)):Yi K 205 (some ps)=gW (Z7 K 205 ps ti205.zero.cells):=by kernel_rfl
theorem ze205:ti205.zero=(.g ([.int .i64 0,.int .u32 0])):=by rfl
theorem by205:ti205.bytes=16:=by rfl
attribute [go_sem] ty3 sz3 ag3 de3 ze3 by3 ke3 ty4 sz4 ag4 de4 ze4 by4 ty5 sz5 ag5 de5 ze5 by5 ke5 ty27 sz27 ag27 de27 ze27 by27 ke27 ty36 sz36 ag36 de36 ze36 by36 ke36 ty57 sz57 ag57 de57 ze57 by57 ty78 sz78 ag78 de78 ze78 by78 eq78 ty127 sz127 ag127 de127 ze127 by127 mp127 ty128 sz128 ag128 de128 ze128 by128 mp128 ty129 sz129 ag129 de129 ze129 by129 ty131 sz131 ag131 fo131_0 fo131_1 fo131_2 fo131_3 bu131 ze131 by131 ty133 sz133 ag133 fo133_0 fo133_1 fo133_2 fo133_3 fo133_4 fo133_5 fo133_6 bu133 ze133 by133 ty180 sz180 ag180 bu180 ze180 by180 ty201 sz201 ag201 de201 ze201 by201 mp201 ty203 sz203 ag203 fo203_0 bu203 ze203 by203 ty205 sz205 ag205 fo205_0 fo205_1 bu205 ze205 by205
theorem rs133:Tryz.f133.results.toList=[.tmp 2]:=rfl
theorem rs149:Tryz.f149.results.toList=[.tmp 4]:=rfl
theorem rs159:Tryz.f159.results.toList=[.tmp 6]:=rfl
theorem rs65:Tryz.f65.results.toList=[.tmp 2]:=rfl
theorem rs84:Tryz.f84.results.toList=[.tmp 2]:=rfl
theorem rs158:Tryz.f158.results.toList=[.tmp 4]:=rfl
theorem rs19:Tryz.f19.results.toList=[.tmp 2]:=rfl
theorem rs20:Tryz.f20.results.toList=[.tmp 2]:=rfl
theorem rs116:Tryz.f116.results.toList=[.cell 4 78,.tmp 5]:=rfl
theorem rs125:Tryz.f125.results.toList=[.tmp 6]:=rfl
theorem rs85:Tryz.f85.results.toList=[]:=rfl
attribute [go_sem] rs133 rs149 rs159 rs65 rs84 rs158 rs19 rs20 rs116 rs125 rs85
structure Tx where
 ch:Nat
 od:Nat
 fr:Nat
 rv:Nat
 sq:Int
 op:Bool
 cr:Int
 rk:Int
 to:C
 b1:C
 b2:C
 b3:C
 b4:C
def txL (X:Tx):List C:=[.map X.ch,.map X.od,.map X.fr,.ptr X.rv 0,.int .u32 X.sq,.bool X.op,.int .i64 X.cr,.int .i64 X.rk,X.to,X.b1,X.b2,X.b3,X.b4]
attribute [go_sem] txL
noncomputable def Gw (h:Go.Ev.H) (t:Nat):Option Tx:=match h.get t with
 | some (.row sz [[.map ch,.map od,.map fr,.ptr rv o,.int .u32 sq,.bool op,.int .i64 cr,.int .i64 rk,to,b1,b2,b3,b4]] ro)=>Y2 (Nat.beq sz 13&&Nat.beq o 0&&!ro) (some ⟨ch,od,fr,rv,sq,op,cr,rk,to,b1,b2,b3,b4⟩)
 | _=>none
theorem Y5 {h:Go.Ev.H} {t:Nat} {X:Tx} (e:Gw h t=some X):h.get t=some (.row 13 [txL X] false):=by
 unfold Gw at e
 split at e
 ·rename_i heq
  obtain⟨b,e⟩:=Zu.1 e
  cases e
  simp only[Bool.and_eq_true,Bool.not_eq_true'] at b
  obtain⟨⟨b1,b2⟩,rfl⟩:=b
  obtain rfl:=Nat.eq_of_beq_eq_true b1
  obtain rfl:=Nat.eq_of_beq_eq_true b2
  exact heq
 ·cases e
noncomputable def Vi (h:Go.Ev.H) (r:Nat):Option Nat:=match h.get r with
 | some (.row sz [[.map m]] ro)=>Y2 (Nat.beq sz 1&&!ro) (some m)
 | _=>none
theorem Oo {h:Go.Ev.H} {r m:Nat} (e:Vi h r=some m):h.get r=some (.row 1 [[.map m]] false):=by
 unfold Vi at e
 split at e
 ·rename_i heq
  obtain⟨b,e⟩:=Zu.1 e
  cases e
  simp only[Bool.and_eq_true,Bool.not_eq_true'] at b
  obtain⟨b1,rfl⟩:=b
  obtain rfl:=Nat.eq_of_beq_eq_true b1
  exact heq
 ·cases e
noncomputable def Eg (h:Go.Ev.H) (m:Nat):Bool:=match h.get m with
 | some (.map [])=>true
 | _=>false
theorem Y7 {h:Go.Ev.H} {m:Nat} (e:Eg h m=true):h.get m=some (.map []):=by
 unfold Eg at e
 split at e
 ·assumption
 ·cases e
def toN:C→Option Nat
 | .map m=>some m
 | _=>none
theorem Zal {c:C} {m:Nat} (e:toN c=some m):c=.map m:=by
 cases c<;>first|(cases e; rfl)|cases e
theorem Zi3 (m:Nat):toN (.map m)=some m:=rfl
theorem Ye0 (kt:TypeId) (k:W):Zso K kt k []=some []:=rfl
noncomputable def Zxr:Kn1:=fun args h=>match args with
 | [.c (.ptr r 0)]=>(Vi h r).bind fun _=>some (.w (.c (.bool true)),h)
 | _=>none
noncomputable def Z64:Kn1:=fun args h=>match args with
 | [.c (.ptr r 0),.c (.int .i64 z)]=>(Vi h r).bind fun _=>Y2 (decide (0≤z)) (some (.w (.c (.int .i64 0)),h))
 | _=>none
noncomputable def Zkg:Kn1:=fun args h=>match args with
 | [.c (.ptr r 0),.c (.int .i64 z),.c (.int .u32 _)]=>(Vi h r).bind fun m=>Y2 (decide (0≤z)&&Eg h m) (some (.w (.c (.int .i64 0)),h))
 | _=>none
noncomputable def Zxi:Kn1:=fun args h=>match args with
 | [.c (.ptr t 0)]=>(Gw h t).bind fun _=>some (.w (.c (.bool true)),h)
 | _=>none
noncomputable def Zwk:Kn1:=fun args h=>match args with
 | [.c (.ptr t 0)]=>(Gw h t).bind fun X=>Y2 X.op (some (.w (.c (.int .i64 0)),h))
 | _=>none
noncomputable def Z7n:Kn1:=fun args h=>match args with
 | [.c (.ptr t 0),.c (.int .i64 z)]=>(Gw h t).bind fun X=>Y2 (X.op&&decide (0≤z)) (some (.w (.c (.int .i64 0)),h))
 | _=>none
noncomputable def Z59:Kn1:=fun args h=>match args with
 | [.c (.ptr t 0)]=>(Gw h t).bind fun X=>some (.w (.c (.int .u32 X.sq)),h)
 | _=>none
noncomputable def Zwy:Kn1:=fun args h=>match args with
 | [.c (.ptr t 0)]=>(Gw h t).bind fun X=>some (.w (.c (.bool X.op)),h)
 | _=>none
noncomputable def Z7v:Kn1:=fun args h=>match args with
 | [.c (.ptr t 0),.c (.int .i64 z)]=>(Gw h t).bind fun X=>(getM h X.ch).bind fun l=>match Oy z l with
  | some y=>Y2 (Nat.beq y.length 256&&y.all C.flat) (some (.tup [.g y,.c (.bool true)],h))
  | none=>some (.tup [.g (List.replicate 256 (.int .u8 0)),.c (.bool false)],h)
 | _=>none
noncomputable def Zkr:Kn1:=fun args h=>match args with
 | [.c (.ptr t 0),.c (.int .i64 z),.g x]=>(Gw h t).bind fun X=>(toN X.to).bind fun to=>(getM h to).bind fun lt=>(getM h X.ch).bind fun lc=>(getM h X.fr).bind fun lf=>(Vi h X.rv).bind fun m =>
  Y2 (X.op&&decide (0≤z)&&Eg h m&&(match Oy z lt with|none=>decide ((lt.length:Int)<X.cr)|some []=>true|some (_ :: _)=>false)&&Nat.beq x.length 256&&x.all C.flat&&Gi lt&&Gi lc&&Gi lf&&!(Nat.beq to X.ch)&&!(Nat.beq to X.fr)&&!(Nat.beq X.ch X.fr)&&!(Nat.beq to m)&&!(Nat.beq X.ch m)&&!(Nat.beq X.fr m)&&!(Nat.beq to t)&&!(Nat.beq X.ch t)&&!(Nat.beq X.fr t)&&!(Nat.beq to X.rv)&&!(Nat.beq X.ch X.rv)&&!(Nat.beq X.fr X.rv))
   (some (.w (.c (.int .i64 0)),((h.put to (.map (Uf (Lu z [] lt)))).put X.ch (.map (Uf (Lu z x lc)))).put X.fr (.map (Uf (Zky z lf)))))
 | _=>none
noncomputable def Ybw:Kn1:=fun args h=>match args with
 | [.c (.ptr t 0),.c (.int .i64 z)]=>(Gw h t).bind fun X=>(getM h X.od).bind fun l=>Y2 (X.op&&decide (0≤z)) (some (.w (.c (.int .i64 0)),h.put X.od (.map (Uf (Lu z [] l)))))
 | _=>none
def Z0f (X:Tx):Tx:={ X with op:=false,cr:=0,rk:=0,to:=.mnil,b1:=.mnil,b2:=.mnil,b3:=.mnil,b4:=.pnil }
noncomputable def Zbe (h:Go.Ev.H) (t:Nat) (X:Tx):Go.Ev.H:=((((h.put t (.row 13 [txL { X with op:=false }] false)).put t (.row 13 [txL { X with op:=false,cr:=0 }] false)).put t (.row 13 [txL { X with op:=false,cr:=0,rk:=0 }] false)).put t (.row 13 [txL { X with op:=false,cr:=0,rk:=0,to:=.mnil }] false)).put t (.row 13 [txL (Z0f X)] false)
noncomputable def Zrt:Kn1:=fun args h=>match args with
 | [.c (.ptr t 0)]=>(Gw h t).bind fun X=>some (.tup [],Zbe h t X)
 | _=>none
noncomputable def Yhv:Kn1:=fun args h=>match args with
 | [.c (.ptr t 0)]=>(Gw h t).bind fun X=>Y2 X.op (some (.w (.c (.int .i64 0)),Zbe h t X))
 | _=>none
attribute [go_sem] Gw Vi Eg Zi3 Ye0 Zxr Z64 Zkg Zxi Zwk Z7n Z59 Zwy Z7v Zkr Ybw Zrt Yhv
theorem Yf5 (a s:Int):Fg K 20 205 (.g [.int .i64 a,.int .u32 s])=true:=by kernel_rfl
attribute [go_sem] Yf5
section
variable (Hh:Hearts K Tryz.prog)
include Hh
theorem Zos {args:List W} {h h':Go.Ev.H} {v:V} (e:Zxr args h=some (v,h')):Zd K Tryz.prog 133 args h v h':=by
 unfold Zxr at e
 split at e
 ·rename_i r
  obtain⟨m,hr,e⟩:=Zo e
  have hr:=Oo hr
  cases e
  refine Zd.goes fits Hh (by kernel_rfl) (by kernel_rfl) (by kernel_rfl) (show Tryz.f133.body=some _ from rfl) rfl ?_
  repeat (first
   | refine Goes.seq ?_
   | refine Goes.block ?_
   | refine Goes.loop ?_
   | refine Goes.skip ?_
   | refine Goes.exit ?_
   | refine Goes.ret ?_
   | refine Goes.Z4 (by simp (maxSteps:=9^6) +decide (disch:=first|omega|(simp only[lens]<;>omega)|decide) only [go_sem,Zc,Za,simprocAttr,hr,read1]<;>rfl) ?_
   | refine Goes.ops2 fits Hh Zb (by simp (maxSteps:=9^6) +decide (disch:=first|omega|(simp only[lens]<;>omega)|decide) only [go_sem,Zc,Za,simprocAttr,hr,read1]; rfl) ?_)
  simp (maxSteps:=9^6) +decide (disch:=first|omega|(simp only[lens]<;>omega)|decide) only [go_sem,Zc,Za,simprocAttr]<;>rfl
 ·cases e
theorem Z62 {args:List W} {h h':Go.Ev.H} {v:V} (e:Z64 args h=some (v,h')):Zd K Tryz.prog 149 args h v h':=by
 unfold Z64 at e
 split at e
 ·rename_i r z
  obtain⟨m,hr,e⟩:=Zo e
  have hr:=Oo hr
  obtain⟨b,e⟩:=Zu.1 e
  have z0:=of_decide_eq_true b
  cases e
  refine Zd.goes fits Hh (by kernel_rfl) (by kernel_rfl) (by kernel_rfl) (show Tryz.f149.body=some _ from rfl) rfl ?_
  repeat (first
   | refine Goes.seq ?_
   | refine Goes.block ?_
   | refine Goes.loop ?_
   | refine Goes.skip ?_
   | refine Goes.exit ?_
   | refine Goes.ret ?_
   | refine Goes.Z4 (by simp (maxSteps:=9^6) +decide (disch:=first|omega|(simp only[lens]<;>omega)|decide) only [go_sem,Zc,Za,simprocAttr,hr,read1]<;>rfl) ?_
   | refine Goes.ops2 fits Hh (Zf Zb (fun _ _ _ _=>Zos Hh)) (by simp (maxSteps:=9^6) +decide (disch:=first|omega|(simp only[lens]<;>omega)|decide) only [go_sem,Zc,Za,simprocAttr,hr,read1]; rfl) ?_)
  simp (maxSteps:=9^6) +decide (disch:=first|omega|(simp only[lens]<;>omega)|decide) only [go_sem,Zc,Za,simprocAttr]<;>rfl
 ·cases e
theorem Sc {args:List W} {h h':Go.Ev.H} {v:V} (e:Zkg args h=some (v,h')):Zd K Tryz.prog 159 args h v h':=by
 unfold Zkg at e
 split at e
 ·rename_i r z s
  obtain⟨m,hr,e⟩:=Zo e
  have hr:=Oo hr
  obtain⟨b,e⟩:=Zu.1 e
  simp only[Bool.and_eq_true,decide_eq_true_eq] at b
  obtain⟨z0,b⟩:=b
  have hm:=Y7 b
  cases e
  obtain⟨v,h',c,rfl,hk⟩:∃ v h',Zd K Tryz.prog 159 [.c (.ptr r 0),.c (.int .i64 z),.c (.int .u32 s)] h v h'∧v=.w (.c (.int .i64 0))∧∀ j,j<h.next→h'.get j=h.get j:=by
   refine Zd.Ya fits Hh (by kernel_rfl) (by kernel_rfl) (by kernel_rfl) (show Tryz.f159.body=some _ from rfl) rfl ?_
   repeat (first
    | refine Goes.seq ?_
    | refine Goes.block ?_
    | refine Goes.loop ?_
    | refine Goes.skip ?_
    | refine Goes.exit ?_
    | refine Goes.ret ?_
    | refine Goes.Z4 (by simp (maxSteps:=9^6) +decide (disch:=first|omega|(simp only[lens]<;>omega)|decide) only [go_sem,Zc,Za,simprocAttr,hr,hm,read1,Zm,V3,Zco]<;>rfl) ?_
    | refine Goes.ops2 fits Hh (Zf Zb (fun _ _ _ _=>Z62 Hh)) (by simp (maxSteps:=9^6) +decide (disch:=first|omega|(simp only[lens]<;>omega)|decide) only [go_sem,Zc,Za,simprocAttr,hr,hm,read1,Zm,V3,Zco]; rfl) ?_)
   exact⟨_,_,(by simp (maxSteps:=9^6) +decide (disch:=first|omega|(simp only[lens]<;>omega)|decide) only [go_sem,Zc,Za,simprocAttr,hr,hm]<;>rfl),rfl,fun j _=>by rw[H.get_put]; split<;>first|(rename_i ej; rw[ej,hm])|rfl⟩
  exact c.quiet rfl hk
 ·cases e
theorem Bt {args:List W} {h h':Go.Ev.H} {v:V} (e:Zxi args h=some (v,h')):Zd K Tryz.prog 65 args h v h':=by
 unfold Zxi at e
 split at e
 ·rename_i t
  obtain⟨X,ht,e⟩:=Zo e
  have ht:=Y5 ht
  cases e
  refine Zd.goes fits Hh (by kernel_rfl) (by kernel_rfl) (by kernel_rfl) (show Tryz.f65.body=some _ from rfl) rfl ?_
  repeat (first
   | refine Goes.seq ?_
   | refine Goes.block ?_
   | refine Goes.loop ?_
   | refine Goes.skip ?_
   | refine Goes.exit ?_
   | refine Goes.ret ?_
   | refine Goes.Z4 (by simp (maxSteps:=9^6) +decide (disch:=first|omega|(simp only[lens]<;>omega)|decide) only [go_sem,Zc,Za,simprocAttr,ht,read1]<;>rfl) ?_
   | refine Goes.ops2 fits Hh Zb (by simp (maxSteps:=9^6) +decide (disch:=first|omega|(simp only[lens]<;>omega)|decide) only [go_sem,Zc,Za,simprocAttr,ht,read1]; rfl) ?_)
  simp (maxSteps:=9^6) +decide (disch:=first|omega|(simp only[lens]<;>omega)|decide) only [go_sem,Zc,Za,simprocAttr]<;>rfl
 ·cases e
theorem Znr {args:List W} {h h':Go.Ev.H} {v:V} (e:Zwk args h=some (v,h')):Zd K Tryz.prog 84 args h v h':=by
 unfold Zwk at e
 split at e
 ·rename_i t
  obtain⟨X,ht,e⟩:=Zo e
  have ht:=Y5 ht
  obtain⟨bo,e⟩:=Zu.1 e
  cases e
  refine Zd.goes fits Hh (by kernel_rfl) (by kernel_rfl) (by kernel_rfl) (show Tryz.f84.body=some _ from rfl) rfl ?_
  repeat (first
   | refine Goes.seq ?_
   | refine Goes.block ?_
   | refine Goes.loop ?_
   | refine Goes.skip ?_
   | refine Goes.exit ?_
   | refine Goes.ret ?_
   | refine Goes.Z4 (by simp (maxSteps:=9^6) +decide (disch:=first|omega|(simp only[lens]<;>omega)|decide) only [go_sem,Zc,Za,simprocAttr,ht,bo,read1]<;>rfl) ?_
   | refine Goes.ops2 fits Hh (Zf Zb (fun _ _ _ _=>Bt Hh)) (by simp (maxSteps:=9^6) +decide (disch:=first|omega|(simp only[lens]<;>omega)|decide) only [go_sem,Zc,Za,simprocAttr,ht,bo,read1]; rfl) ?_)
  simp (maxSteps:=9^6) +decide (disch:=first|omega|(simp only[lens]<;>omega)|decide) only [go_sem,Zc,Za,simprocAttr]<;>rfl
 ·cases e
theorem Zdr {args:List W} {h h':Go.Ev.H} {v:V} (e:Z7n args h=some (v,h')):Zd K Tryz.prog 158 args h v h':=by
 unfold Z7n at e
 split at e
 ·rename_i t z
  obtain⟨X,ht,e⟩:=Zo e
  have ht:=Y5 ht
  obtain⟨b,e⟩:=Zu.1 e
  simp only[Bool.and_eq_true,decide_eq_true_eq] at b
  obtain⟨bo,z0⟩:=b
  cases e
  refine Zd.goes fits Hh (by kernel_rfl) (by kernel_rfl) (by kernel_rfl) (show Tryz.f158.body=some _ from rfl) rfl ?_
  repeat (first
   | refine Goes.seq ?_
   | refine Goes.block ?_
   | refine Goes.loop ?_
   | refine Goes.skip ?_
   | refine Goes.exit ?_
   | refine Goes.ret ?_
   | refine Goes.Z4 (by simp (maxSteps:=9^6) +decide (disch:=first|omega|(simp only[lens]<;>omega)|decide) only [go_sem,Zc,Za,simprocAttr,ht,bo,read1]<;>rfl) ?_
   | refine Goes.ops2 fits Hh (Zf Zb (fun _ _ _ _=>Znr Hh)) (by simp (maxSteps:=9^6) +decide (disch:=first|omega|(simp only[lens]<;>omega)|decide) only [go_sem,Zc,Za,simprocAttr,ht,bo,read1]; rfl) ?_)
  simp (maxSteps:=9^6) +decide (disch:=first|omega|(simp only[lens]<;>omega)|decide) only [go_sem,Zc,Za,simprocAttr]<;>rfl
 ·cases e
theorem Z5d {args:List W} {h h':Go.Ev.H} {v:V} (e:Z59 args h=some (v,h')):Zd K Tryz.prog 19 args h v h':=by
 unfold Z59 at e
 split at e
 ·rename_i t
  obtain⟨X,ht,e⟩:=Zo e
  have ht:=Y5 ht
  cases e
  refine Zd.goes fits Hh (by kernel_rfl) (by kernel_rfl) (by kernel_rfl) (show Tryz.f19.body=some _ from rfl) rfl ?_
  repeat (first
   | refine Goes.seq ?_
   | refine Goes.block ?_
   | refine Goes.loop ?_
   | refine Goes.skip ?_
   | refine Goes.exit ?_
   | refine Goes.ret ?_
   | refine Goes.Z4 (by simp (maxSteps:=9^6) +decide (disch:=first|omega|(simp only[lens]<;>omega)|decide) only [go_sem,Zc,Za,simprocAttr,ht,read1]<;>rfl) ?_
   | refine Goes.ops2 fits Hh (Zf Zb (fun _ _ _ _=>Bt Hh)) (by simp (maxSteps:=9^6) +decide (disch:=first|omega|(simp only[lens]<;>omega)|decide) only [go_sem,Zc,Za,simprocAttr,ht,read1]; rfl) ?_)
  simp (maxSteps:=9^6) +decide (disch:=first|omega|(simp only[lens]<;>omega)|decide) only [go_sem,Zc,Za,simprocAttr]<;>rfl
 ·cases e
theorem Zgr {args:List W} {h h':Go.Ev.H} {v:V} (e:Zwy args h=some (v,h')):Zd K Tryz.prog 20 args h v h':=by
 unfold Zwy at e
 split at e
 ·rename_i t
  obtain⟨X,ht,e⟩:=Zo e
  have ht:=Y5 ht
  cases e
  refine Zd.goes fits Hh (by kernel_rfl) (by kernel_rfl) (by kernel_rfl) (show Tryz.f20.body=some _ from rfl) rfl ?_
  repeat (first
   | refine Goes.seq ?_
   | refine Goes.block ?_
   | refine Goes.loop ?_
   | refine Goes.skip ?_
   | refine Goes.exit ?_
   | refine Goes.ret ?_
   | refine Goes.Z4 (by simp (maxSteps:=9^6) +decide (disch:=first|omega|(simp only[lens]<;>omega)|decide) only [go_sem,Zc,Za,simprocAttr,ht,read1]<;>rfl) ?_
   | refine Goes.ops2 fits Hh (Zf Zb (fun _ _ _ _=>Bt Hh)) (by simp (maxSteps:=9^6) +decide (disch:=first|omega|(simp only[lens]<;>omega)|decide) only [go_sem,Zc,Za,simprocAttr,ht,read1]; rfl) ?_)
  simp (maxSteps:=9^6) +decide (disch:=first|omega|(simp only[lens]<;>omega)|decide) only [go_sem,Zc,Za,simprocAttr]<;>rfl
 ·cases e
theorem Zej {args:List W} {h h':Go.Ev.H} {v:V} (e:Z7v args h=some (v,h')):Zd K Tryz.prog 116 args h v h':=by
 unfold Z7v at e
 split at e
 ·rename_i t z
  obtain⟨X,ht,e⟩:=Zo e
  have ht:=Y5 ht
  obtain⟨l,hm,e⟩:=Zo e
  have hm:=getM_some hm
  refine Zd.tidy ⟨Tryz.f116,Tryz.func116,by kernel_rfl,by decide⟩ fun tidy=>?_
  have lt:=tidy _ _ ht
  have lm:=tidy _ _ hm
  split at e
  ·rename_i y hl
   obtain⟨b,e⟩:=Zu.1 e
   rw[Bool.and_eq_true] at b
   have yl:=Nat.eq_of_beq_eq_true b.1
   have yf:=b.2
   cases e
   obtain⟨v,h',c,rfl,hk⟩:∃ v h',Zd K Tryz.prog 116 [.c (.ptr t 0),.c (.int .i64 z)] h v h'∧v=.tup [.g y,.c (.bool true)]∧∀ m,m<h.next→h'.get m=h.get m:=by
    refine Zd.Ya fits Hh (by kernel_rfl) (by kernel_rfl) (by kernel_rfl) (show Tryz.f116.body=some _ from rfl) rfl ?_
    repeat (first
     | refine Goes.seq ?_
     | refine Goes.block ?_
     | refine Goes.loop ?_
     | refine Goes.skip ?_
     | refine Goes.exit ?_
     | refine Goes.ret ?_
     | refine Goes.Z4 (by simp (maxSteps:=9^6) +decide (disch:=first|omega|(simp only[lens]<;>omega)|decide) only [go_sem,Za,simprocAttr,ht,hm,hl,read1]<;>rfl) ?_
     | refine Goes.ops2 fits Hh (Zf Zb (fun _ _ _ _=>Bt Hh)) (by simp (maxSteps:=9^6) +decide (disch:=first|omega|(simp only[lens]<;>omega)|decide) only [go_sem,Za,simprocAttr,ht,hm,hl,read1]; rfl) ?_)
    exact⟨_,_,(by simp (maxSteps:=9^6) +decide (disch:=first|omega|(simp only[lens]<;>omega)|decide) only [go_sem,Za,simprocAttr,ht,hm,hl]<;>rfl),rfl,fun m hm=>by (first|(simp (discharger:=omega) only [H.get_put,H.Zh,H.Zk,H.Ze,H.Zg,H.Zj,if_neg]; done)|(simp only[H.get_put,H.Zh,H.Zk,H.Ze,H.Zg,H.Zj]; (repeat' split)<;>first|rfl|(exfalso; omega)|omega))⟩
   refine c.quiet ?_ hk
   show (y.all C.flat&&true)=true
   rw[yf]; rfl
  ·rename_i hl
   cases e
   obtain⟨v,h',c,rfl,hk⟩:∃ v h',Zd K Tryz.prog 116 [.c (.ptr t 0),.c (.int .i64 z)] h v h'∧v=.tup [.g (List.replicate 256 (.int .u8 0)),.c (.bool false)]∧∀ m,m<h.next→h'.get m=h.get m:=by
    refine Zd.Ya fits Hh (by kernel_rfl) (by kernel_rfl) (by kernel_rfl) (show Tryz.f116.body=some _ from rfl) rfl ?_
    repeat (first
     | refine Goes.seq ?_
     | refine Goes.block ?_
     | refine Goes.loop ?_
     | refine Goes.skip ?_
     | refine Goes.exit ?_
     | refine Goes.ret ?_
     | refine Goes.Z4 (by simp (maxSteps:=9^6) +decide (disch:=first|omega|(simp only[lens]<;>omega)|decide) only [go_sem,Za,simprocAttr,ht,hm,hl,read1]<;>rfl) ?_
     | refine Goes.ops2 fits Hh (Zf Zb (fun _ _ _ _=>Bt Hh)) (by simp (maxSteps:=9^6) +decide (disch:=first|omega|(simp only[lens]<;>omega)|decide) only [go_sem,Za,simprocAttr,ht,hm,hl,read1]; rfl) ?_)
    exact⟨_,_,(by simp (maxSteps:=9^6) +decide (disch:=first|omega|(simp only[lens]<;>omega)|decide) only [go_sem,Za,simprocAttr,ht,hm,hl]<;>rfl),rfl,fun m hm=>by (first|(simp (discharger:=omega) only [H.get_put,H.Zh,H.Zk,H.Ze,H.Zg,H.Zj,if_neg]; done)|(simp only[H.get_put,H.Zh,H.Zk,H.Ze,H.Zg,H.Zj]; (repeat' split)<;>first|rfl|(exfalso; omega)|omega))⟩
   exact c.quiet (by kernel_rfl) hk
 ·cases e
end
end Go.Proofs.YtmdibcklpmeleaaGreatDoor
set_option maxRecDepth 100000
namespace Go.Proofs.YtmdibcklpmeleaaGreatDoor
open Go.Ev
theorem Uc {a b:Nat} (h:Nat.beq a b=false):a≠b:=fun e=>by rw[e,Nat.beq_refl] at h; cases h
theorem Yao (m:Nat):Ud K 128 (.c (.map m))=true:=by kernel_rfl
attribute [go_sem] Yao
section
variable (Hh:Hearts K Tryz.prog)
include Hh
set_option maxHeartbeats 1000000 in
theorem Zea {args:List W} {h h':Go.Ev.H} {v:V} (e:Zkr args h=some (v,h')):Zd K Tryz.prog 125 args h v h':=by
 unfold Zkr at e
 split at e
 ·rename_i t z x
  obtain⟨X,ht,e⟩:=Zo e
  have ht:=Y5 ht
  obtain⟨to,hto,e⟩:=Zo e
  have hto:=Zal hto
  obtain⟨lt,hlt,e⟩:=Zo e
  have hlt:=getM_some hlt
  obtain⟨lc,hlc,e⟩:=Zo e
  have hlc:=getM_some hlc
  obtain⟨lf,hlf,e⟩:=Zo e
  have hlf:=getM_some hlf
  obtain⟨m,hr,e⟩:=Zo e
  have hrv:=hr
  have hr:=Oo hr
  obtain⟨b,e⟩:=Zu.1 e
  cases e
  refine Zd.tidy ⟨Tryz.f125,Tryz.func125,by kernel_rfl,by decide⟩ fun tidy=>?_
  have l1:=tidy _ _ ht
  have l2:=tidy _ _ hlt
  have l3:=tidy _ _ hlc
  have l4:=tidy _ _ hlf
  have l5:=tidy _ _ hr
  simp only[Bool.and_eq_true,decide_eq_true_eq,Bool.not_eq_true'] at b
  obtain⟨⟨⟨⟨⟨⟨⟨⟨⟨⟨⟨⟨⟨⟨⟨⟨⟨⟨⟨⟨bo,z0⟩,bm⟩,bc⟩,bx⟩,xf⟩,f1⟩,f2⟩,f3⟩,c1⟩,c2⟩,c3⟩,c4⟩,c5⟩,c6⟩,c7⟩,c8⟩,c9⟩,c10⟩,c11⟩,c12⟩:=b
  have hm:=Y7 bm
  have l6:=tidy _ _ hm
  have xl:=Nat.eq_of_beq_eq_true bx
  have n1:=Uc c1
  have n2:=Uc c2
  have n3:=Uc c3
  have n4:=Uc c4
  have n5:=Uc c5
  have n6:=Uc c6
  have n7:=Uc c7
  have n8:=Uc c8
  have n9:=Uc c9
  have n10:=Uc c10
  have n11:=Uc c11
  have n12:=Uc c12
  obtain⟨v,h',c,rfl,hk⟩:∃ v h',Zd K Tryz.prog 125 [.c (.ptr t 0),.c (.int .i64 z),.g x] h v h'∧v=.w (.c (.int .i64 0))∧∀ j,j<h.next→h'.get j=(((h.put to (.map (Uf (Lu z [] lt)))).put X.ch (.map (Uf (Lu z x lc)))).put X.fr (.map (Uf (Zky z lf)))).get j:=by
   rcases hl:Oy z lt with _|y
   ·rw[hl] at bc
    have bc:=of_decide_eq_true bc
    refine Zd.Ya fits Hh (by kernel_rfl) (by kernel_rfl) (by kernel_rfl) (show Tryz.f125.body=some _ from rfl) rfl ?_
    repeat (first
     | refine Goes.seq ?_
     | refine Goes.block ?_
     | refine Goes.loop ?_
     | refine Goes.skip ?_
     | refine Goes.exit ?_
     | refine Goes.ret ?_
     | refine Goes.Z4 (by simp (maxSteps:=9^6) +decide (disch:=first|omega|(simp only[lens]<;>omega)|decide) only [go_sem,Za,simprocAttr,ht,hto,hlt,hlc,hlf,hr,hm,bo,hl,xl,Rv,read1,Zm,Yz]<;>rfl) ?_
     | refine Goes.ops2 fits Hh (Zf (Zf Zb (fun _ _ _ _=>Zdr Hh)) (fun _ _ _ _=>Sc Hh)) (by simp (maxSteps:=9^6) +decide (disch:=first|omega|(simp only[lens]<;>omega)|decide) only [go_sem,Za,simprocAttr,ht,hto,hlt,hlc,hlf,hr,hm,bo,hl,xl,Rv,read1,Zm,Yz]; rfl) ?_
     | refine Goes.drawn2 fits Hh (Zf (Zf Zb (fun _ _ _ _=>Zdr Hh)) (fun _ _ _ _=>Sc Hh)) (by kernel_rfl) (by simp (maxSteps:=9^6) +decide (disch:=first|omega|(simp only[lens]<;>omega)|decide) only [go_sem,Za,simprocAttr,U2,Je,Ju,Ux,Y9,Uv,Jp,Yw,Jt,Uy,Gg,Jy,Yq,Y1,Yu,Yv,J2,Jb,Jf,Yx,Y8,Jz,Bh,O8,Gu,Rl,R8,Ot,Oj,Uh,G7,Oq,Oc,Uw,Jd,Uo,looks,En,Op.operands,Call.operands,kd,Ox,List.filterMap_cons,List.filterMap_nil,List.append_nil,List.nil_append,List.cons_append,Jk,stable,J5,Oa,Uu,waits,Ja,List.all_cons,List.all_nil,List.any_cons,List.any_nil,Region.binds,Bool.or_true,Bool.true_or,Bool.and_true,Bool.true_and,Bool.or_false,Bool.false_or,Bool.and_self,Bool.or_self,Jq,Nat.le_refl,Nat.le_add_right,List.map_cons,Array.toList_append,ht,hto,hlt,hlc,hlf,hr,hm,bo,hl,xl,Rv,read1,Zm,Yz]; rfl) ?_)
    exact⟨_,_,(by simp (maxSteps:=9^6) +decide (disch:=first|omega|(simp only[lens]<;>omega)|decide) only [go_sem,Zc,Za,simprocAttr]<;>rfl),rfl,fun j hj=>by (first|(simp (discharger:=omega) only [H.get_put,H.Zh,H.Zk,H.Ze,H.Zg,H.Zj,if_neg]; done)|(simp only[H.get_put,H.Zh,H.Zk,H.Ze,H.Zg,H.Zj]; (repeat' split)<;>first|rfl|(exfalso; omega)|omega))⟩
   ·rw[hl] at bc
    rcases y with _|⟨y0,y⟩
    ·
     refine Zd.Ya fits Hh (by kernel_rfl) (by kernel_rfl) (by kernel_rfl) (show Tryz.f125.body=some _ from rfl) rfl ?_
     repeat (first
      | refine Goes.seq ?_
      | refine Goes.block ?_
      | refine Goes.loop ?_
      | refine Goes.skip ?_
      | refine Goes.exit ?_
      | refine Goes.ret ?_
      | refine Goes.Z4 (by simp (maxSteps:=9^6) +decide (disch:=first|omega|(simp only[lens]<;>omega)|decide) only [go_sem,Za,simprocAttr,ht,hto,hlt,hlc,hlf,hr,hm,bo,hl,xl,Rv,read1,Zm,Yz]<;>rfl) ?_
      | refine Goes.ops2 fits Hh (Zf (Zf Zb (fun _ _ _ _=>Zdr Hh)) (fun _ _ _ _=>Sc Hh)) (by simp (maxSteps:=9^6) +decide (disch:=first|omega|(simp only[lens]<;>omega)|decide) only [go_sem,Za,simprocAttr,ht,hto,hlt,hlc,hlf,hr,hm,bo,hl,xl,Rv,read1,Zm,Yz]; rfl) ?_
      | refine Goes.drawn2 fits Hh (Zf (Zf Zb (fun _ _ _ _=>Zdr Hh)) (fun _ _ _ _=>Sc Hh)) (by kernel_rfl) (by simp (maxSteps:=9^6) +decide (disch:=first|omega|(simp only[lens]<;>omega)|decide) only [go_sem,Za,simprocAttr,U2,Je,Ju,Ux,Y9,Uv,Jp,Yw,Jt,Uy,Gg,Jy,Yq,Y1,Yu,Yv,J2,Jb,Jf,Yx,Y8,Jz,Bh,O8,Gu,Rl,R8,Ot,Oj,Uh,G7,Oq,Oc,Uw,Jd,Uo,looks,En,Op.operands,Call.operands,kd,Ox,List.filterMap_cons,List.filterMap_nil,List.append_nil,List.nil_append,List.cons_append,Jk,stable,J5,Oa,Uu,waits,Ja,List.all_cons,List.all_nil,List.any_cons,List.any_nil,Region.binds,Bool.or_true,Bool.true_or,Bool.and_true,Bool.true_and,Bool.or_false,Bool.false_or,Bool.and_self,Bool.or_self,Jq,Nat.le_refl,Nat.le_add_right,List.map_cons,Array.toList_append,ht,hto,hlt,hlc,hlf,hr,hm,bo,hl,xl,Rv,read1,Zm,Yz]; rfl) ?_)
     exact⟨_,_,(by simp (maxSteps:=9^6) +decide (disch:=first|omega|(simp only[lens]<;>omega)|decide) only [go_sem,Zc,Za,simprocAttr]<;>rfl),rfl,fun j hj=>by (first|(simp (discharger:=omega) only [H.get_put,H.Zh,H.Zk,H.Ze,H.Zg,H.Zj,if_neg]; done)|(simp only[H.get_put,H.Zh,H.Zk,H.Ze,H.Zg,H.Zj]; (repeat' split)<;>first|rfl|(exfalso; omega)|omega))⟩
    ·cases bc
  exact c.settle ((((Ri.refl tidy).put l2 (Nv (Ld rfl f1))).put l3 (Nv (Ld xf f2))).put l4 (Nv (Zma f3))) (Zhv.flat rfl) hk
 ·cases e
theorem Zvk {args:List W} {h h':Go.Ev.H} {v:V} (e:Zrt args h=some (v,h')):Zd K Tryz.prog 85 args h v h':=by
 unfold Zrt at e
 split at e
 ·rename_i t
  obtain⟨X,ht,e⟩:=Zo e
  have ht:=Y5 ht
  cases e
  refine Zd.goes fits Hh (by kernel_rfl) (by kernel_rfl) (by kernel_rfl) (show Tryz.f85.body=some _ from rfl) rfl ?_
  repeat (first
   | refine Goes.seq ?_
   | refine Goes.block ?_
   | refine Goes.loop ?_
   | refine Goes.skip ?_
   | refine Goes.exit ?_
   | refine Goes.ret ?_
   | refine Goes.Z4 (by simp (maxSteps:=9^6) +decide (disch:=first|omega|(simp only[lens]<;>omega)|decide) only [go_sem,Zc,Za,simprocAttr,ht,Z0f,Zbe,read1,Zx]<;>rfl) ?_
   | refine Goes.ops2 fits Hh Zb (by simp (maxSteps:=9^6) +decide (disch:=first|omega|(simp only[lens]<;>omega)|decide) only [go_sem,Zc,Za,simprocAttr,ht,Z0f,Zbe,read1,Zx]; rfl) ?_)
  simp (maxSteps:=9^6) +decide (disch:=first|omega|(simp only[lens]<;>omega)|decide) only [go_sem,Zc,Za,simprocAttr]<;>rfl
 ·cases e
end
end Go.Proofs.YtmdibcklpmeleaaGreatDoor
set_option maxRecDepth 100000
namespace Go.Proofs.YtmdibcklpmeleaaGreatDoor
open Go.Ev
structure Fine (gr sz ino jr:Nat):Prop where
 gr1:1≤gr
 gr4:gr≤4
 sz1:16≤sz
 sz2:sz≤512
 ino1:4≤ino
 ino2:ino≤64
 ino4:ino % 4=0
 jr1:40≤jr
 jr2:jr≤256
 fit:3+ino / 4≤sz
 all:2+jr+gr * sz≤2048
def Yf (gr sz ino jr:Nat):List C:=[.int .i64 gr,.int .i64 sz,.int .i64 ino,.int .i64 jr]
end Go.Proofs.YtmdibcklpmeleaaGreatDoor
set_option maxRecDepth 100000
namespace Go.Proofs.YtmdibcklpmeleaaGreatDoor
open Go.Ev
theorem ty23:K.types.get 23=some ti23:=by kernel_rfl
theorem sz23:ti23.size=4:=by rfl
theorem ag23:ti23.agg=true:=by rfl
theorem fo23_0:Zr K 23 0=some (0,ti3):=by kernel_rfl
theorem fo23_1:Zr K 23 1=some (1,ti3):=by kernel_rfl
theorem fo23_2:Zr K 23 2=some (2,ti3):=by kernel_rfl
theorem fo23_3:Zr K 23 3=some (3,ti3):=by kernel_rfl
theorem bu23 (ps:List (Nat × W)):Yi K 23 (some ps)=gW (Z7 K 23 ps ti23.zero.cells):=by kernel_rfl
theorem ze23:ti23.zero=(.g ([.int .i64 0,.int .i64 0,.int .i64 0,.int .i64 0])):=by rfl
theorem by23:ti23.bytes=32:=by rfl
attribute [go_sem] ty3 sz3 ag3 de3 ze3 by3 ke3 ty4 sz4 ag4 de4 ze4 by4 ty23 sz23 ag23 fo23_0 fo23_1 fo23_2 fo23_3 bu23 ze23 by23
noncomputable def q49 (p:List Nat):Code:=piece p (Z5 Tryz.f49)
theorem Yh5:q49 []=.seq (q49 [0]) (q49 [1]):=by kernel_rfl
theorem q49_0:q49 [0]=.region 0 (Zt (q49 [0])) false:=by kernel_rfl
theorem q49_1:q49 [1]=.seq (q49 [1,0]) (q49 [1,1]):=by kernel_rfl
theorem Yet:q49 [1,0]=.seq (q49 [1,0,0]) (q49 [1,0,1]):=by kernel_rfl
theorem Ya7:q49 [1,0,0]=.region 1 (Zt (q49 [1,0,0])) false:=by kernel_rfl
theorem Yan:q49 [1,0,1]=.cond (.tmp 5) (q49 [1,0,1,3]) (q49 [1,0,1,4]):=by kernel_rfl
theorem Z6h:q49 [1,0,1,4]=.skip:=by kernel_rfl
theorem Ydk:q49 [1,1]=.seq (q49 [1,1,0]) (q49 [1,1,1]):=by kernel_rfl
theorem Z9v:q49 [1,1,0]=.region 3 (Zt (q49 [1,1,0])) false:=by kernel_rfl
theorem Yab:q49 [1,1,1]=.ret:=by kernel_rfl
theorem rs48:Tryz.f48.results.toList=[.tmp 2]:=rfl
theorem rs49:Tryz.f49.results.toList=[.tmp 2]:=rfl
attribute [go_sem] rs48 rs49
section
variable (Hh:Hearts K Tryz.prog)
include Hh
theorem Zqw {gr sz ino jr:Nat} (F:Fine gr sz ino jr) (h:Go.Ev.H):Zd K Tryz.prog 48 [.g (Yf gr sz ino jr)] h (.w (.c (.bool true))) h:=by
 obtain⟨g1,g2,g3,g4,g5,g6,g7,g8,g9,g10,g11⟩:=F
 have gm:(gr:Int) * (sz:Int)=((gr * sz:Nat):Int):=rfl
 obtain⟨v,h',c,rfl,hk⟩:∃ v h',Zd K Tryz.prog 48 [.g (Yf gr sz ino jr)] h v h'∧v=.w (.c (.bool true))∧∀ m,m<h.next→h'.get m=h.get m:=by
  refine Zd.Ya fits Hh (by kernel_rfl) (by kernel_rfl) (by kernel_rfl) (show Tryz.f48.body=some _ from rfl) rfl ?_
  repeat (first
   | refine Goes.seq ?_
   | refine Goes.block ?_
   | refine Goes.loop ?_
   | refine Goes.skip ?_
   | refine Goes.exit ?_
   | refine Goes.ret ?_
   | refine Goes.Z4 (by simp (maxSteps:=9^6) +decide (disch:=first|omega|(simp only[lens]<;>omega)|decide) only [go_sem,Zc,Za,simprocAttr,Yf,gm,read1]<;>rfl) ?_
   | refine Goes.ops2 fits Hh Zb (by simp (maxSteps:=9^6) +decide (disch:=first|omega|(simp only[lens]<;>omega)|decide) only [go_sem,Zc,Za,simprocAttr,Yf,gm,read1]; rfl) ?_)
  refine⟨_,_,(by simp (maxSteps:=9^6) +decide (disch:=first|omega|(simp only[lens]<;>omega)|decide) only [go_sem,Zc,Za,simprocAttr]<;>rfl),rfl,fun m hm=>?_⟩
  simp (maxSteps:=9^6) +decide (disch:=first|omega|(simp only[lens]<;>omega)|decide) only [go_sem,Zc,Za,simprocAttr]
 exact Zd.quiet c rfl hk
theorem Z17 {gr sz ino jr:Nat} (F:Fine gr sz ino jr) (h:Go.Ev.H):Zd K Tryz.prog 49 [.g (Yf gr sz ino jr)] h (.w (.c (.int .i64 ((2+jr+gr * sz:Nat):Int)))) h:=by
 have F':=F
 obtain⟨g1,g2,g3,g4,g5,g6,g7,g8,g9,g10,g11⟩:=F'
 have gm:(gr:Int) * (sz:Int)=((gr * sz:Nat):Int):=rfl
 have c1:=Zqw Hh F (h.new (.row 4 [Yf gr sz ino jr] false))
 obtain⟨v,h',c,rfl,hk⟩:∃ v h',Zd K Tryz.prog 49 [.g (Yf gr sz ino jr)] h v h'∧v=.w (.c (.int .i64 ((2+jr+gr * sz:Nat):Int)))∧∀ m,m<h.next→h'.get m=h.get m:=by
  refine Zd.Ya fits Hh (by kernel_rfl) (by kernel_rfl) (by kernel_rfl) (show Tryz.f49.body=some (q49 []) by kernel_rfl) rfl ?_
  show Goes K Tryz.prog 15 none _ _ _ _ _
  refine Goes.Zq Yh5 ?_
  refine Goes.Zw q49_0 fits Hh Zb (by
   simp (maxSteps:=9^6) +decide (disch:=first|omega|(simp only[lens]<;>omega)|decide) only [go_sem,q49,Tryz.f49,Zc,Za,simprocAttr,Yf,gm,read1]
   rfl) ?_
  refine Goes.Zq q49_1 ?_
  refine Goes.Zq Yet ?_
  refine Goes.Zw Ya7 fits Hh (Z8 Zb c1) (by
   simp (maxSteps:=9^6) +decide (disch:=first|omega|(simp only[lens]<;>omega)|decide) only [go_sem,q49,Tryz.f49,Zc,Za,simprocAttr,Yo,Yf,gm,read1]
   rfl) ?_
  refine Goes.Yy Yan (by simp (maxSteps:=9^6) +decide (disch:=first|omega|(simp only[lens]<;>omega)|decide) only [go_sem,Zc,Za,simprocAttr,Yf,gm,read1]<;>rfl) (by first|rfl|assumption|exact decide_eq_false (by omega)|(simp; omega)) ?_
  refine Goes.Jc Z6h ?_
  refine Goes.Zq Ydk ?_
  refine Goes.Zw Z9v fits Hh Zb (by
   simp (maxSteps:=9^6) +decide (disch:=first|omega|(simp only[lens]<;>omega)|decide) only [go_sem,q49,Tryz.f49,Zc,Za,simprocAttr,Yf,gm,read1]
   rfl) ?_
  refine Goes.Gl Yab ?_
  refine⟨_,_,(by simp (maxSteps:=9^6) +decide (disch:=first|omega|(simp only[lens]<;>omega)|decide) only [go_sem,Zc,Za,simprocAttr]<;>rfl),rfl,fun m hm=>?_⟩
  simp (maxSteps:=9^6) +decide (disch:=first|omega|(simp only[lens]<;>omega)|decide) only [go_sem,Zc,Za,simprocAttr]
 exact Zd.quiet c rfl hk
end
end Go.Proofs.YtmdibcklpmeleaaGreatDoor
