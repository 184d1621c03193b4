/- Pages of super: numbers put and got, the sum, noughts. -/
import Derived.Test.YtgikjeaipmeclaaGreatDoorPag
import Derived.Test.YtgikjeaipmeclaaGreatDoorHba
set_option linter.unusedSimpArgs false
set_option linter.unusedVariables false
set_option linter.unusedSectionVars false
set_option maxRecDepth 100000
set_option maxHeartbeats 4000000
namespace Go.Proofs.YtgikjeaipmeclaaGreatDoor
open Go.Ev
theorem ty344:K.types.get 344=some ti344:=by kernel_rfl
theorem sz344:ti344.size=256:=by rfl
theorem ag344:ti344.agg=true:=by rfl
theorem fo344_0:Zn K 344 0=some (0,ti71):=by kernel_rfl
theorem bu344 (ps:List (Nat × W)):Yc K 344 (some ps)=gW (Z9 K 344 ps ti344.zero.cells):=by kernel_rfl
theorem ze344:ti344.zero=(.g ((List.replicate 256 (.int .u8 0)))):=by rfl
theorem by344:ti344.bytes=256:=by rfl
theorem ty366:K.types.get 366=some ti366:=by kernel_rfl
theorem sz366:ti366.size=1:=by rfl
theorem ag366:ti366.agg=false:=by rfl
theorem de366:ti366.desc=(.slice 32):=by rfl
theorem ze366:ti366.zero=(.c (.snil)):=by rfl
theorem by366:ti366.bytes=24:=by rfl
theorem el366:Y3 K 366=some ti32:=by kernel_rfl
attribute [go_sem] ty344 sz344 ag344 fo344_0 bu344 ze344 by344 ty366 sz366 ag366 de366 ze366 by366 el366
theorem rs231:Tryz.f231.results.toList=[]:=rfl
theorem rs227:Tryz.f227.results.toList=[.tmp 4]:=rfl
theorem rs256:Tryz.f256.results.toList=[]:=rfl
theorem rs249:Tryz.f249.results.toList=[.tmp 4]:=rfl
theorem rs250:Tryz.f250.results.toList=[.tmp 2]:=rfl
theorem rs232:Tryz.f232.results.toList=[]:=rfl
theorem rs224:Tryz.f224.results.toList=[.tmp 2]:=rfl
theorem rs225:Tryz.f225.results.toList=[.tmp 6]:=rfl
attribute [go_sem] rs231 rs227 rs256 rs249 rs250 rs232 rs224 rs225
noncomputable def Zwd:Kn1:=fun args h=>match args with
 | [.c (.ptr p 0),.c (.int .i64 a),.c (.int .i64 v)]=>(J3 a).bind fun a=>(J3 v).bind fun v=>(De h p).bind fun x=>Yr (decide (a+2≤256)&&decide (v<65536)) (some (.tup [],h.put p (.row 256 [pgL (Bd (unN x) a v)] false)))
 | _=>none
noncomputable def Zmb:Kn1:=fun args h=>match args with
 | [.c (.ptr p 0),.c (.int .i64 a),.c (.int .u32 v)]=>(J3 a).bind fun a=>(J3 v).bind fun v=>(De h p).bind fun x=>Yr (decide (a+4≤256)&&decide (v<4294967296)) (some (.tup [],h.put p (.row 256 [pgL (Ub (unN x) a v)] false)))
 | _=>none
noncomputable def Zun:Kn1:=fun args h=>match args with
 | [.c (.ptr p 0),.c (.int .i64 a)]=>(J3 a).bind fun a=>(De h p).bind fun x=>Yr (decide (a+2≤256)) (some (.w (.c (.int .i64 ((Gj (unN x) a:Nat):Int))),h))
 | _=>none
noncomputable def Zow:Kn1:=fun args h=>match args with
 | [.c (.ptr p 0),.c (.int .i64 a)]=>(J3 a).bind fun a=>(De h p).bind fun x=>Yr (decide (a+4≤256)) (some (.w (.c (.int .u32 ((Uh (unN x) a:Nat):Int))),h))
 | _=>none
noncomputable def Zju:Kn1:=fun args h=>match args with
 | [.c (.ptr p 0)]=>(De h p).bind fun x=>Yr (D9 (h.get 0)) (some (.w (.c (.int .u32 ((Ty (unN x):Nat):Int))),h))
 | _=>none
noncomputable def Zm5:Kn1:=fun args h=>match args with
 | [.c (.ptr p 0)]=>(De h p).bind fun x=>Yr (D9 (h.get 0)) (some (.tup [],h.put p (.row 256 [pgL (Ub (unN x) 252 (Ty (unN x)))] false)))
 | _=>none
noncomputable def Ze8:Kn1:=fun args h=>match args with
 | [.c (.ptr p 0)]=>(De h p).bind fun x=>Yr (D9 (h.get 0)) (some (.w (.c (.bool (((Uh (unN x) 252:Nat):Int) == ((Ty (unN x):Nat):Int)))),h))
 | _=>none
noncomputable def Zaz:Kn1:=fun args h=>match args with
 | [.c (.ptr p 0),.c (.int .i64 a),.c (.int .i64 b)]=>(J3 a).bind fun a=>(J3 b).bind fun b=>(De h p).bind fun x=>Yr (decide (a≤b)&&decide (b≤256)) (some (.w (.c (.bool (Lm (unN x) a (b - a)))),h))
 | _=>none
attribute [go_sem] Zwd Zmb Zun Zow Zju Zm5 Ze8 Zaz
theorem Z3b {ns:List Nat} {ro:Bool} (h:256≤ns.length∧ns.length≤256):reaches 0 256 (some (.row 256 [pgL ns] ro))=true:=by
 unfold reaches
 show (match read1 256 [pgL ns] 255 with
  | some _=>Nat.ble 1 256
  | none=>false)=true
 rw[Zhz (by omega)]
 rfl
attribute [go_sem] Z3b
section
variable (Hh:Hearts K Tryz.prog)
include Hh
theorem Zs5 {args:List W} {h h':Go.Ev.H} {v:V} (e:Zwd args h=some (v,h')):Ze K Tryz.prog 231 args h v h':=by
 unfold Zwd at e
 split at e
 ·obtain⟨a,ha,e⟩:=Zl e
  obtain⟨v,hv,e⟩:=Zl e
  obtain⟨x,hx,e⟩:=Zl e
  obtain⟨ns,rfl,hl,hp⟩:=Jh hx
  obtain⟨b,e⟩:=Zq.1 e
  simp only[Bool.and_eq_true,decide_eq_true_eq] at b
  obtain⟨b1,b2⟩:=b
  cases e
  rw[Yb ha,Yb hv,Oz,Zds]
  refine Ze.goes fits Hh (by kernel_rfl) (by kernel_rfl) (by kernel_rfl) (show Tryz.f231.body=some _ from rfl) rfl ?_
  repeat (first|apply Goes.seq|apply Goes.block|apply Goes.loop|apply Goes.skip|apply Goes.exit|apply Goes.ret|((first|apply Goes.Zm|apply Goes.ops2 fits Hh (Zf Zc (fun _ _ _ _=>Zsu Hh))); · simp (maxSteps:=9^6) +decide (disch:=first|omega|(simp only[lens]<;>omega)|decide) only [go_sem,Zb,Za,simprocAttr,hp,hl,Y0,Uc,bound,Ui,Nat.add_zero]<;>rfl))
  simp (maxSteps:=9^6) +decide (disch:=first|omega|(simp only[lens]<;>omega)|decide) only [go_sem,Zb,Za,simprocAttr]<;>rfl
 ·cases e
theorem Zr9 {args:List W} {h h':Go.Ev.H} {v:V} (e:Zmb args h=some (v,h')):Ze K Tryz.prog 256 args h v h':=by
 unfold Zmb at e
 split at e
 ·obtain⟨a,ha,e⟩:=Zl e
  obtain⟨v,hv,e⟩:=Zl e
  obtain⟨x,hx,e⟩:=Zl e
  obtain⟨ns,rfl,hl,hp⟩:=Jh hx
  obtain⟨b,e⟩:=Zq.1 e
  simp only[Bool.and_eq_true,decide_eq_true_eq] at b
  obtain⟨b1,b2⟩:=b
  cases e
  rw[Yb ha,Yb hv,Oz,Tu]
  refine Ze.goes fits Hh (by kernel_rfl) (by kernel_rfl) (by kernel_rfl) (show Tryz.f256.body=some _ from rfl) rfl ?_
  repeat (first|apply Goes.seq|apply Goes.block|apply Goes.loop|apply Goes.skip|apply Goes.exit|apply Goes.ret|((first|apply Goes.Zm|apply Goes.ops2 fits Hh (Zf Zc (fun _ _ _ _=>Zhd Hh))); · simp (maxSteps:=9^6) +decide (disch:=first|omega|(simp only[lens]<;>omega)|decide) only [go_sem,Zb,Za,simprocAttr,hp,hl,Y0,Uc,bound,Ui,Nat.add_zero]<;>rfl))
  simp (maxSteps:=9^6) +decide (disch:=first|omega|(simp only[lens]<;>omega)|decide) only [go_sem,Zb,Za,simprocAttr]<;>rfl
 ·cases e
theorem Zu2 {args:List W} {h h':Go.Ev.H} {v:V} (e:Zun args h=some (v,h')):Ze K Tryz.prog 227 args h v h':=by
 unfold Zun at e
 split at e
 ·obtain⟨a,ha,e⟩:=Zl e
  obtain⟨x,hx,e⟩:=Zl e
  obtain⟨ns,rfl,hl,hp⟩:=Jh hx
  obtain⟨b,e⟩:=Zq.1 e
  simp only[decide_eq_true_eq] at b
  cases e
  have g2:=Zpl ns a
  have g3:Gj ns (0+a)=Gj ns a:=by rw[Nat.zero_add]
  rw[Yb ha,Oz,Tn]
  obtain⟨g,hg⟩:∃ g,Gj ns a=g:=⟨_,rfl⟩
  rw[hg] at g2 ⊢
  refine Ze.goes fits Hh (by kernel_rfl) (by kernel_rfl) (by kernel_rfl) (show Tryz.f227.body=some _ from rfl) rfl ?_
  repeat (first|apply Goes.seq|apply Goes.block|apply Goes.loop|apply Goes.skip|apply Goes.exit|apply Goes.ret|((first|apply Goes.Zm|apply Goes.ops2 fits Hh (Zf Zc (fun _ _ _ _=>Zsl Hh))); · simp (maxSteps:=9^6) +decide (disch:=first|omega|(simp only[lens]<;>omega)|decide) only [go_sem,Zb,Za,simprocAttr,hp,hl,hg,Y0,Uc,bound,Ui,Nat.add_zero,Nat.zero_add]<;>rfl))
  simp (maxSteps:=9^6) +decide (disch:=first|omega|(simp only[lens]<;>omega)|decide) only [go_sem,Zb,Za,simprocAttr]<;>rfl
 ·cases e
theorem Zss {args:List W} {h h':Go.Ev.H} {v:V} (e:Zow args h=some (v,h')):Ze K Tryz.prog 249 args h v h':=by
 unfold Zow at e
 split at e
 ·obtain⟨a,ha,e⟩:=Zl e
  obtain⟨x,hx,e⟩:=Zl e
  obtain⟨ns,rfl,hl,hp⟩:=Jh hx
  obtain⟨b,e⟩:=Zq.1 e
  simp only[decide_eq_true_eq] at b
  cases e
  rw[Yb ha,Oz,N7]
  refine Ze.goes fits Hh (by kernel_rfl) (by kernel_rfl) (by kernel_rfl) (show Tryz.f249.body=some _ from rfl) rfl ?_
  repeat (first|apply Goes.seq|apply Goes.block|apply Goes.loop|apply Goes.skip|apply Goes.exit|apply Goes.ret|((first|apply Goes.Zm|apply Goes.ops2 fits Hh (Zf Zc (fun _ _ _ _=>Zgl Hh))); · simp (maxSteps:=9^6) +decide (disch:=first|omega|(simp only[lens]<;>omega)|decide) only [go_sem,Zb,Za,simprocAttr,hp,hl,Y0,Uc,bound,Ui,Nat.add_zero,Nat.zero_add]<;>rfl))
  simp (maxSteps:=9^6) +decide (disch:=first|omega|(simp only[lens]<;>omega)|decide) only [go_sem,Zb,Za,simprocAttr]<;>rfl
 ·cases e
theorem Ze0 {args:List W} {h h':Go.Ev.H} {v:V} (e:Zju args h=some (v,h')):Ze K Tryz.prog 250 args h v h':=by
 unfold Zju at e
 split at e
 ·rename_i p
  obtain⟨x,hx,e⟩:=Zl e
  obtain⟨ns,rfl,hl,hp⟩:=Jh hx
  obtain⟨b,e⟩:=Zq.1 e
  cases e
  rw[Oz,Vw]
  refine Ze.tidy ⟨Tryz.f250,Tryz.func250,by kernel_rfl,by decide⟩ fun tidy=>?_
  have hst:=Ej b
  have l0:=tidy _ _ hst
  have l1:=tidy _ _ hp
  obtain⟨v,h',c,rfl,hk⟩:∃ v h',Ze K Tryz.prog 250 [.c (.ptr p 0)] h v h'∧v=.w (.c (.int .u32 ((Ty ns:Nat):Int)))∧∀ m,m<h.next→h'.get m=h.get m:=by
   refine Ze.Yi fits Hh (by kernel_rfl) (by kernel_rfl) (by kernel_rfl) (show Tryz.f250.body=some _ from rfl) rfl ?_
   repeat (first|apply Goes.seq|apply Goes.block|apply Goes.loop|apply Goes.skip|apply Goes.exit|apply Goes.ret|((first|apply Goes.Zm|apply Goes.ops2 fits Hh (Zf Zc (fun _ _ _ _=>Zur Hh))); · simp (maxSteps:=9^6) +decide (disch:=first|omega|(simp only[lens]<;>omega)|decide) only [go_sem,Zb,Za,simprocAttr,hp,hl,hst,Y0,Uc,bound,Ui,Nat.add_zero,read1,Y2,Md,Jt,List.replicate_succ,List.replicate_zero]<;>rfl))
   exact⟨_,_,(by simp (maxSteps:=9^6) +decide (disch:=first|omega|(simp only[lens]<;>omega)|decide) only [go_sem,Zb,Za,simprocAttr]<;>rfl),rfl,fun m hm=>by simp (disch:=first|omega|(simp only[lens]<;>omega)) only [go_sem]⟩
  exact c.quiet rfl hk
 ·cases e
theorem Zrh {args:List W} {h h':Go.Ev.H} {v:V} (e:Zm5 args h=some (v,h')):Ze K Tryz.prog 232 args h v h':=by
 unfold Zm5 at e
 split at e
 ·rename_i p
  obtain⟨x,hx,e⟩:=Zl e
  obtain⟨ns,rfl,hl,hp⟩:=Jh hx
  obtain⟨b,e⟩:=Zq.1 e
  cases e
  have hst:=Ej b
  have cl:=Zus ns
  rw[Oz,Tu,Vw]
  obtain⟨g,hg⟩:∃ g,Ty ns=g:=⟨_,rfl⟩
  rw[hg] at cl ⊢
  refine Ze.goes fits Hh (by kernel_rfl) (by kernel_rfl) (by kernel_rfl) (show Tryz.f232.body=some _ from rfl) rfl ?_
  repeat (first|apply Goes.seq|apply Goes.block|apply Goes.loop|apply Goes.skip|apply Goes.exit|apply Goes.ret|((first|apply Goes.Zm|apply Goes.ops2 fits Hh (Zf (Zf Zc (fun _ _ _ _=>Ze0 Hh)) (fun _ _ _ _=>Zr9 Hh))); · simp (maxSteps:=9^6) +decide (disch:=first|omega|(simp only[lens]<;>omega)|decide) only [go_sem,Zb,Za,simprocAttr,hp,hl,hst,hg]<;>rfl))
  simp (maxSteps:=9^6) +decide (disch:=first|omega|(simp only[lens]<;>omega)|decide) only [go_sem,Zb,Za,simprocAttr]<;>rfl
 ·cases e
theorem Zkj {args:List W} {h h':Go.Ev.H} {v:V} (e:Ze8 args h=some (v,h')):Ze K Tryz.prog 224 args h v h':=by
 unfold Ze8 at e
 split at e
 ·rename_i p
  obtain⟨x,hx,e⟩:=Zl e
  obtain⟨ns,rfl,hl,hp⟩:=Jh hx
  obtain⟨b,e⟩:=Zq.1 e
  cases e
  have hst:=Ej b
  rw[Oz,Vw,N7]
  refine Ze.goes fits Hh (by kernel_rfl) (by kernel_rfl) (by kernel_rfl) (show Tryz.f224.body=some _ from rfl) rfl ?_
  repeat (first|apply Goes.seq|apply Goes.block|apply Goes.loop|apply Goes.skip|apply Goes.exit|apply Goes.ret|((first|apply Goes.Zm|apply Goes.ops2 fits Hh (Zf (Zf Zc (fun _ _ _ _=>Zss Hh)) (fun _ _ _ _=>Ze0 Hh))); · simp (maxSteps:=9^6) +decide (disch:=first|omega|(simp only[lens]<;>omega)|decide) only [go_sem,Zb,Za,simprocAttr,hp,hl,hst]<;>rfl))
  simp (maxSteps:=9^6) +decide (disch:=first|omega|(simp only[lens]<;>omega)|decide) only [go_sem,Zb,Za,simprocAttr]<;>rfl
 ·cases e
theorem Zi4 {args:List W} {h h':Go.Ev.H} {v:V} (e:Zaz args h=some (v,h')):Ze K Tryz.prog 225 args h v h':=by
 unfold Zaz at e
 split at e
 ·obtain⟨a,ha,e⟩:=Zl e
  obtain⟨b,hb,e⟩:=Zl e
  obtain⟨x,hx,e⟩:=Zl e
  obtain⟨ns,rfl,hl,hp⟩:=Jh hx
  obtain⟨bb,e⟩:=Zq.1 e
  simp only[Bool.and_eq_true,decide_eq_true_eq] at bb
  obtain⟨b1,b2⟩:=bb
  cases e
  rw[Yb ha,Yb hb,Oz,Qw]
  refine Ze.goes fits Hh (by kernel_rfl) (by kernel_rfl) (by kernel_rfl) (show Tryz.f225.body=some _ from rfl) rfl ?_
  repeat (first|apply Goes.seq|apply Goes.block|apply Goes.loop|apply Goes.skip|apply Goes.exit|apply Goes.ret|((first|apply Goes.Zm|apply Goes.ops2 fits Hh (Zf Zc (fun _ _ _ _=>Zyj Hh))); · simp (maxSteps:=9^6) +decide (disch:=first|omega|(simp only[lens]<;>omega)|decide) only [go_sem,Zb,Za,simprocAttr,hp,hl,Y0,Uc,bound,Ui,Nat.add_zero,Nat.zero_add,Nat.mul_one]<;>rfl))
  rfl
 ·cases e
end
theorem ty119:K.types.get 119=some ti119:=by kernel_rfl
theorem sz119:ti119.size=1:=by rfl
theorem ag119:ti119.agg=false:=by rfl
theorem de119:ti119.desc=(.slice 122):=by rfl
theorem ze119:ti119.zero=(.c (.snil)):=by rfl
theorem by119:ti119.bytes=24:=by rfl
theorem el119:Y3 K 119=some ti122:=by kernel_rfl
theorem ty122:K.types.get 122=some ti122:=by kernel_rfl
theorem sz122:ti122.size=3:=by rfl
theorem ag122:ti122.agg=true:=by rfl
theorem fo122_0:Zn K 122 0=some (0,ti3):=by kernel_rfl
theorem fo122_1:Zn K 122 1=some (1,ti3):=by kernel_rfl
theorem fo122_2:Zn K 122 2=some (2,ti3):=by kernel_rfl
theorem bu122 (ps:List (Nat × W)):Yc K 122 (some ps)=gW (Z9 K 122 ps ti122.zero.cells):=by kernel_rfl
theorem ze122:ti122.zero=(.g ([.int .i64 0,.int .i64 0,.int .i64 0])):=by rfl
theorem by122:ti122.bytes=24:=by rfl
attribute [go_sem] ty119 sz119 ag119 de119 ze119 by119 el119 ty122 sz122 ag122 fo122_0 fo122_1 fo122_2 bu122 ze122 by122
theorem rs230:Tryz.f230.results.toList=[]:=rfl
theorem rs226:Tryz.f226.results.toList=[.cell 4 122]:=rfl
theorem rs228:Tryz.f228.results.toList=[.tmp 4]:=rfl
attribute [go_sem] rs230 rs226 rs228
def Zlx (ns:List Nat) (a b c d:Nat):List Nat:=Bd (Bd (Bd (Bd ns 8 a) 10 b) 12 c) 14 d
def Zht (ns:List Nat) (i a b c:Nat):List Nat:=Bd (Bd (Bd ns i a) (i+2) b) (i+4) c
theorem Zpm (ns:List Nat) (i v:Nat):pgL (Bd ns i v)=((pgL ns).set i (.int .u8 ((v % 256:Nat):Int))).set (i+1) (.int .u8 ((v / 256 % 256:Nat):Int)):=by rw[Ei,Ei]; rfl
theorem Zyw (ns:List Nat) (a b c d:Nat):pgL (Zlx (ns.map (· % 256)) a b c d)=pgL (Zlx ns a b c d):=by simp only[Zlx,Zpm,Zjj]
theorem Zp6 (ns:List Nat) (i a b c:Nat):pgL (Zht (ns.map (· % 256)) i a b c)=pgL (Zht ns i a b c):=by simp only[Zht,Zpm,Zjj]
theorem Zpk (ns:List Nat) (a b c d:Nat):(Zlx ns a b c d).length=ns.length:=by simp only[Zlx,Qq]
theorem Zie (ns:List Nat) (i a b c:Nat):(Zht ns i a b c).length=ns.length:=by simp only[Zht,Qq]
noncomputable def Zw8:Kn1:=fun args h=>match args with
 | [.g [.int .i64 a,.int .i64 b,.int .i64 c,.int .i64 d],.c (.fn f [some (p,0)] [])]=>X5 a b c d fun a b c d=>(De h p).bind fun x=>Yr (Nat.beq f 231) (some (.tup [],h.put p (.row 256 [pgL (Zlx (unN x) a b c d)] false)))
 | _=>none
noncomputable def Zdp:Kn1:=fun args h=>match args with
 | [.c (.int .i64 i),.g [.int .i64 a,.int .i64 b,.int .i64 c],.c (.fn f [some (p,0)] [])]=>(J3 i).bind fun i=>(J3 a).bind fun a=>(J3 b).bind fun b=>(J3 c).bind fun c=>(De h p).bind fun x=>Yr (Nat.beq f 231&&decide (i+6≤256)&&decide (a<65536)&&decide (b<65536)&&decide (c<65536)) (some (.tup [],h.put p (.row 256 [pgL (Zht (unN x) i a b c)] false)))
 | _=>none
noncomputable def Zed:Kn1:=fun args h=>match args with
 | [.c (.int .i64 i),.c (.fn f [some (p,0)] [])]=>(J3 i).bind fun i=>(De h p).bind fun x=>Yr (Nat.beq f 227&&decide (i+6≤256)) (some (.w (.g [.int .i64 ((Gj (unN x) i:Nat):Int),.int .i64 ((Gj (unN x) (i+2):Nat):Int),.int .i64 ((Gj (unN x) (i+4):Nat):Int)]),h))
 | _=>none
noncomputable def Zqs:Kn1:=fun args h=>match args with
 | [.g [.int .i64 a,.int .i64 b,.int .i64 c,.int .i64 d,.int .u32 z]]=>X5 a b c d fun _ _ _ _=>Yr (decide (z=0)) (some (.w (.c (.bool true)),h))
 | _=>none
def Zx9 (dt ino:Nat):List C→Bool
 | [.int .i64 x,.int .i64 y,.int .i64 z]=>decide (0≤x)&&decide (x≤(dt:Int))&&decide (0≤y)&&decide (y≤(ino:Int))&&decide (0≤z)&&decide (z≤(ino:Int) - y)
 | _=>false
theorem Xg {dt ino:Nat} {l:List C} (e:Zx9 dt ino l=true):∃ x y z:Int,l=[.int .i64 x,.int .i64 y,.int .i64 z]∧0≤x∧x≤(dt:Int)∧0≤y∧y≤(ino:Int)∧0≤z∧z≤(ino:Int) - y:=by
 unfold Zx9 at e
 split at e
 ·simp only[Bool.and_eq_true,decide_eq_true_eq] at e
  obtain⟨⟨⟨⟨⟨e1,e2⟩,e3⟩,e4⟩,e5⟩,e6⟩:=e
  exact⟨_,_,_,rfl,e1,e2,e3,e4,e5,e6⟩
 ·cases e
noncomputable def Zmh:Kn1:=fun args h=>match args with
 | [.g [.int .i64 a,.int .i64 b,.int .i64 c,.int .i64 d],.c (.slice n 0 len 3)]=>X5 a b c d fun a b c _=>match h.get n with
  | some (.row s L _)=>Yr (Nat.beq s 3&&Nat.beq len a&&Nat.beq L.length a&&L.all (Zx9 (b - 2 - c / 4) c)) (some (.w (.c (.bool true)),h))
  | _=>none
 | _=>none
attribute [go_sem] Zw8 Zdp Zed Zqs Zmh Zyw Zp6 Zpk Zie Zx9
theorem Zze (p o l:Nat):Yu K 119 (.c (.slice p o l 3))=true:=by kernel_rfl
attribute [go_sem] Zze
theorem Z1s {b:Nat} (ns:List Nat):Zrj b (.row 256 [pgL ns] false):=Zp2 fun τ _=>by
 show [(pgL ns).map (C.ren τ)]=_
 rw[Uk (fun a ha=>C.Jg ha _) (Vs ns)]
section
variable (Hh:Hearts K Tryz.prog)
include Hh
theorem Zli {args:List W} {h h':Go.Ev.H} {v:V} (e:Zdp args h=some (v,h')):Ze K Tryz.prog 230 args h v h':=by
 unfold Zdp at e
 split at e
 ·rename_i p
  obtain⟨i,hi,e⟩:=Zl e
  obtain⟨a,ha,e⟩:=Zl e
  obtain⟨b,hb,e⟩:=Zl e
  obtain⟨c,hc,e⟩:=Zl e
  obtain⟨x,hx,e⟩:=Zl e
  obtain⟨ns,rfl,hl,hp⟩:=Jh hx
  obtain⟨q,e⟩:=Zq.1 e
  simp only[Bool.and_eq_true,decide_eq_true_eq] at q
  obtain⟨⟨⟨⟨q1,q2⟩,q3⟩,q4⟩,q5⟩:=q
  cases e
  obtain rfl:=Nat.eq_of_beq_eq_true q1
  rw[Yb hi,Yb ha,Yb hb,Yb hc,Oz,Zp6]
  have e2:(i:Int)+2=((i+2:Nat):Int):=rfl
  have e4:(i:Int)+4=((i+4:Nat):Int):=rfl
  unfold Zht
  refine Ze.tidy ⟨Tryz.f230,Tryz.func230,by kernel_rfl,by decide⟩ fun tidy=>?_
  have lp:=tidy _ _ hp
  have pp:=@H.Zcz
  obtain⟨v,h',cc,rfl,hk⟩:∃ v h',Ze K Tryz.prog 230 [.c (.int .i64 (i:Int)),.g [.int .i64 (a:Int),.int .i64 (b:Int),.int .i64 (c:Int)],.c (.fn 231 [some (p,0)] [])] h v h'∧v=.tup []∧∀ m,m<h.next→h'.get m=(h.put p (.row 256 [pgL (Bd (Bd (Bd ns i a) (i+2) b) (i+4) c)] false)).get m:=by
   refine Ze.Yi fits Hh (by kernel_rfl) (by kernel_rfl) (by kernel_rfl) (show Tryz.f230.body=some _ from rfl) rfl ?_
   repeat (first|apply Goes.seq|apply Goes.block|apply Goes.loop|apply Goes.skip|apply Goes.exit|apply Goes.ret|((first|apply Goes.Zm|apply Goes.ops2 fits Hh (Zf Zc (fun _ _ _ _=>Zs5 Hh))); · simp (maxSteps:=9^6) +decide (disch:=first|omega|(simp only[lens]<;>omega)|decide) only [go_sem,Zb,Za,simprocAttr,hp,hl,e2,e4,pp,read1,List.map_cons,Fw,List.cons_append]<;>rfl))
   exact⟨_,_,(by simp (maxSteps:=9^6) +decide (disch:=first|omega|(simp only[lens]<;>omega)|decide) only [go_sem,Zb,Za,simprocAttr]<;>rfl),rfl,fun m hm=>by (first|(simp (discharger:=omega) only [H.get_put,H.Zi,H.Yd,H.Zg,H.Zj,H.Zr,if_neg]; done)|(simp only[H.get_put,H.Zi,H.Yd,H.Zg,H.Zj,H.Zr]; (repeat' split)<;>first|rfl|(exfalso; omega)|omega))⟩
  exact cc.settle ((Mv.refl tidy).put lp (Z1s _)) (Zd2.flat rfl) hk
 ·cases e
theorem Zlj {args:List W} {h h':Go.Ev.H} {v:V} (e:Zed args h=some (v,h')):Ze K Tryz.prog 226 args h v h':=by
 unfold Zed at e
 split at e
 ·rename_i p
  obtain⟨i,hi,e⟩:=Zl e
  obtain⟨x,hx,e⟩:=Zl e
  obtain⟨ns,rfl,hl,hp⟩:=Jh hx
  obtain⟨q,e⟩:=Zq.1 e
  simp only[Bool.and_eq_true,decide_eq_true_eq] at q
  obtain⟨q1,q2⟩:=q
  cases e
  obtain rfl:=Nat.eq_of_beq_eq_true q1
  rw[Yb hi]
  simp only[Oz,Tn]
  have e2:(i:Int)+2=((i+2:Nat):Int):=rfl
  have e4:(i:Int)+4=((i+4:Nat):Int):=rfl
  refine Ze.tidy ⟨Tryz.f226,Tryz.func226,by kernel_rfl,by decide⟩ fun tidy=>?_
  have lp:=tidy _ _ hp
  obtain⟨v,h',cc,rfl,hk⟩:∃ v h',Ze K Tryz.prog 226 [.c (.int .i64 (i:Int)),.c (.fn 227 [some (p,0)] [])] h v h'∧v=.w (.g [.int .i64 ((Gj ns i:Nat):Int),.int .i64 ((Gj ns (i+2):Nat):Int),.int .i64 ((Gj ns (i+4):Nat):Int)])∧∀ m,m<h.next→h'.get m=h.get m:=by
   refine Ze.Yi fits Hh (by kernel_rfl) (by kernel_rfl) (by kernel_rfl) (show Tryz.f226.body=some _ from rfl) rfl ?_
   repeat (first|apply Goes.seq|apply Goes.block|apply Goes.loop|apply Goes.skip|apply Goes.exit|apply Goes.ret|((first|apply Goes.Zm|apply Goes.ops2 fits Hh (Zf Zc (fun _ _ _ _=>Zu2 Hh))); · simp (maxSteps:=9^6) +decide (disch:=first|omega|(simp only[lens]<;>omega)|decide) only [go_sem,Zb,Za,simprocAttr,hp,hl,e2,e4,read1,Z4,List.map_cons,Fw,List.cons_append]<;>rfl))
   exact⟨_,_,(by simp (maxSteps:=9^6) +decide (disch:=first|omega|(simp only[lens]<;>omega)|decide) only [go_sem,Zb,Za,simprocAttr]<;>rfl),rfl,fun m hm=>by (first|(simp (discharger:=omega) only [H.get_put,H.Zi,H.Yd,H.Zg,H.Zj,H.Zr,if_neg]; done)|(simp only[H.get_put,H.Zi,H.Yd,H.Zg,H.Zj,H.Zr]; (repeat' split)<;>first|rfl|(exfalso; omega)|omega))⟩
  exact cc.quiet rfl hk
 ·cases e
theorem Zhm {args:List W} {h h':Go.Ev.H} {v:V} (e:Zmh args h=some (v,h')):Ze K Tryz.prog 228 args h v h':=by
 unfold Zmh at e
 split at e
 ·rename_i n len
  obtain⟨a,b,c,d,rfl,rfl,rfl,rfl,f,e⟩:=Na e
  split at e
  ·rename_i s L ro heq
   obtain⟨q,e⟩:=Zq.1 e
   cases e
   simp only[Bool.and_eq_true] at q
   obtain⟨⟨⟨q1,q2⟩,q3⟩,q4⟩:=q
   obtain rfl:=Nat.eq_of_beq_eq_true q1
   obtain rfl:=Nat.eq_of_beq_eq_true q2
   have q3:=Nat.eq_of_beq_eq_true q3
   have q4:=List.all_eq_true.1 q4
   have F:=Yk f
   obtain⟨g1,g2,g3,g4,g5,g6,g7,g8,g9,g10,g11⟩:=F
   refine Ze.tidy ⟨Tryz.f228,Tryz.func228,by kernel_rfl,by decide⟩ fun tidy=>?_
   have l1:=tidy _ _ heq
   obtain⟨v,h',cc,rfl,hk⟩:∃ v h',Ze K Tryz.prog 228 [.g [.int .i64 (len:Int),.int .i64 (b:Int),.int .i64 (c:Int),.int .i64 (d:Int)],.c (.slice n 0 len 3)] h v h'∧v=.w (.c (.bool true))∧∀ m,m<h.next→h'.get m=h.get m:=by
    rcases L with _|⟨r0,_|⟨r1,_|⟨r2,_|⟨r3,_|⟨r4,L⟩⟩⟩⟩⟩
    ·simp only[List.length_nil] at q3; omega
    rotate_right
    ·simp only[List.length_cons] at q3; omega
    all_goals
     simp only[List.length_cons,List.length_nil] at q3
     subst q3
     obtain⟨x0,y0,z0,rfl,a1,a2,a3,a4,a5,a6⟩:=Xg (q4 r0 (by simp))
     try obtain⟨x1,y1,z1,rfl,b1,b2,b3,b4,b5,b6⟩:=Xg (q4 r1 (by simp))
     try obtain⟨x2,y2,z2,rfl,c1,c2,c3,c4,c5,c6⟩:=Xg (q4 r2 (by simp))
     try obtain⟨x3,y3,z3,rfl,d1,d2,d3,d4,d5,d6⟩:=Xg (q4 r3 (by simp))
     refine Ze.Yi fits Hh (by kernel_rfl) (by kernel_rfl) (by kernel_rfl) (show Tryz.f228.body=some _ from rfl) rfl ?_
     repeat (first|apply Goes.seq|apply Goes.block|apply Goes.loop|apply Goes.skip|apply Goes.exit|apply Goes.ret|((first|apply Goes.Zm|apply Goes.ops2 fits Hh (Zf Zc (fun _ _ _ _=>Zqk Hh))); · simp (maxSteps:=9^6) +decide (disch:=first|omega|(simp only[lens]<;>omega)|decide) only [go_sem,Zb,Za,simprocAttr,f,heq,read1,Zx,Zh,Ye]<;>rfl))
     exact⟨_,_,(by simp (maxSteps:=9^6) +decide (disch:=first|omega|(simp only[lens]<;>omega)|decide) only [go_sem,Zb,Za,simprocAttr]<;>rfl),rfl,fun m hm=>by (first|(simp (discharger:=omega) only [H.get_put,H.Zi,H.Yd,H.Zg,H.Zj,H.Zr,if_neg]; done)|(simp only[H.get_put,H.Zi,H.Yd,H.Zg,H.Zj,H.Zr]; (repeat' split)<;>first|rfl|(exfalso; omega)|omega))⟩
   exact cc.quiet rfl hk
  ·cases e
 ·cases e
end
def Gf:List Nat:=List.replicate 256 0
def Bl (ns:List Nat):List Nat:=Ub ns 252 (Ty ns)
abbrev O3:=Nat × Nat × Nat
def Bq (d:O3):List C:=[.int .i64 (d.1:Int),.int .i64 (d.2.1:Int),.int .i64 (d.2.2:Int)]
def Ep:List O3→Nat→List Nat→List Nat
 | [],_,x=>x
 | d :: D,i,x=>Ep D (i+8) (Zht x i d.1 d.2.1 d.2.2)
def getD (ns:List Nat) (i:Nat):O3:=(Gj ns i,Gj ns (i+2),Gj ns (i+4))
def Gv (ns:List Nat):Nat→Nat→List O3
 | 0,_=>[]
 | k+1,i=>getD ns i :: Gv ns k (i+8)
theorem zPg:List.replicate 256 (C.int .u8 0)=pgL Gf:=by kernel_rfl
theorem Zia:Gf.length=256:=by kernel_rfl
theorem Zg0:∀ D:List O3,(D.map Bq).all (fun l=>l.all C.flat)=true
 | []=>rfl
 | _ :: D=>Zg0 D
theorem Zpp:(∀ ns:List Nat,(pgL ns).length=ns.length)∧(∀ (ns:List Nat) (i v:Nat),(Bd ns i v).length=ns.length)∧(∀ (ns:List Nat) (i v:Nat),(Ub ns i v).length=ns.length)∧(∀ (ns:List Nat) (a b c d:Nat),(Zlx ns a b c d).length=ns.length)∧(∀ (ns:List Nat) (i a b c:Nat),(Zht ns i a b c).length=ns.length):=⟨Ug,Qq,Q9,Zpk,Zie⟩
theorem Zxj {ns:List Nat} (h:ns.length≤256∧256≤ns.length):Zb 256 [pgL ns] 0 256=some (pgL ns):=Zac (by rw[Ug]; omega)
theorem Z2c {ns:List Nat} {x:List C} (h:(ns.length≤256∧256≤ns.length)∧x.length≤256∧256≤x.length):Z4 256 [x] 0 (pgL ns)=some [pgL ns]:=Tf (by rw[Ug]; omega)
theorem rd4 (a b c d:C):Zb 4 [[a,b,c,d]] 0 4=some [a,b,c,d]:=rfl
theorem rd30 (x y z:C) (L:List (List C)):Zb 3 ([x,y,z] :: L) 0 3=some [x,y,z]:=rfl
theorem rd31 (r0:List C) (x y z:C) (L:List (List C)):Zb 3 (r0 :: [x,y,z] :: L) 3 3=some [x,y,z]:=rfl
theorem rd32 (r0 r1:List C) (x y z:C) (L:List (List C)):Zb 3 (r0 :: r1 :: [x,y,z] :: L) 6 3=some [x,y,z]:=rfl
theorem rd33 (r0 r1 r2:List C) (x y z:C) (L:List (List C)):Zb 3 (r0 :: r1 :: r2 :: [x,y,z] :: L) 9 3=some [x,y,z]:=rfl
theorem wr30 (x y z a b c:C) (L:List (List C)):Z4 3 ([x,y,z] :: L) 0 [a,b,c]=some ([a,b,c] :: L):=rfl
theorem wr31 (r0:List C) (x y z a b c:C) (L:List (List C)):Z4 3 (r0 :: [x,y,z] :: L) 3 [a,b,c]=some (r0 :: [a,b,c] :: L):=rfl
theorem wr32 (r0 r1:List C) (x y z a b c:C) (L:List (List C)):Z4 3 (r0 :: r1 :: [x,y,z] :: L) 6 [a,b,c]=some (r0 :: r1 :: [a,b,c] :: L):=rfl
theorem wr33 (r0 r1 r2:List C) (x y z a b c:C) (L:List (List C)):Z4 3 (r0 :: r1 :: r2 :: [x,y,z] :: L) 9 [a,b,c]=some (r0 :: r1 :: r2 :: [a,b,c] :: L):=rfl
def Z4b (a b c d:Nat):List Nat:=Bl (Ub (Zlx (Bd (Bd (Ub Gf 0 827216465) 4 1) 6 256) a b c d) 16 0)
noncomputable def Z4d:Kn1:=fun args h=>match args with
 | [.g [.int .i64 a,.int .i64 b,.int .i64 c,.int .i64 d,.int .u32 z]]=>X5 a b c d fun a b c d=>Yr (decide (z=0)&&D9 (h.get 0)) (some (.tup [.g (pgL (Z4b a b c d)),.c (.int .i64 0)],h))
 | _=>none
attribute [go_sem] Z4d
section
variable (Hh:Hearts K Tryz.prog)
include Hh
end
end Go.Proofs.YtgikjeaipmeclaaGreatDoor
