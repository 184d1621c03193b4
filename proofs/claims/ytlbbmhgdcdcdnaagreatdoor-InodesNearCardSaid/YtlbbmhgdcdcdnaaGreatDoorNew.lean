/- What New makes: disks, caches, rings, lists, transactions, stores. -/
import Derived.Test.YtlbbmhgdcdcdnaaGreatDoorSto
import Derived.Test.YtlbbmhgdcdcdnaaGreatDoorGeo0
set_option linter.unusedSimpArgs false
set_option linter.unusedVariables false
set_option linter.unusedSectionVars false
set_option maxRecDepth 100000
set_option maxHeartbeats 4000000
namespace Go.Proofs.YtlbbmhgdcdcdnaaGreatDoor
open Go.Ev
theorem ty167:K.types.get 167=some ti167:=by kernel_rfl
theorem sz167:ti167.size=3:=by rfl
theorem ag167:ti167.agg=true:=by rfl
theorem fo167_0:fieldOf K 167 0=some (0,ti3):=by kernel_rfl
theorem fo167_1:fieldOf K 167 1=some (1,ti3):=by kernel_rfl
theorem fo167_2:fieldOf K 167 2=some (2,ti3):=by kernel_rfl
theorem bu167 (ps:List (Nat × W)):opBuild K 167 (some ps)=gW (fillStruct K 167 ps ti167.zero.cells):=by kernel_rfl
theorem ze167:ti167.zero=(.g ([.int .i64 0,.int .i64 0,.int .i64 0])):=by rfl
theorem by167:ti167.bytes=24:=by rfl
attribute [go_sem] ty167 sz167 ag167 fo167_0 fo167_1 fo167_2 bu167 ze167 by167
theorem rs56:Tryz.f56.results.toList=[.tmp 2]:=rfl
theorem rs59:Tryz.f59.results.toList=[.tmp 2,.tmp 3]:=rfl
theorem rs60:Tryz.f60.results.toList=[.tmp 2,.tmp 3]:=rfl
theorem rs61:Tryz.f61.results.toList=[.tmp 2,.tmp 3]:=rfl
theorem rs106:Tryz.f106.results.toList=[.tmp 0]:=rfl
theorem rs100:Tryz.f100.results.toList=[.cell 0 131]:=rfl
theorem rs62:Tryz.f62.results.toList=[.tmp 2]:=rfl
theorem rs25:Tryz.f25.results.toList=[]:=rfl
theorem rs18:Tryz.f18.results.toList=[.tmp 8,.tmp 9]:=rfl
attribute [go_sem] rs56 rs59 rs60 rs61 rs106 rs100 rs62 rs25 rs18
noncomputable def xgMay:Kn1:=fun args h=>match args with
 | [.g [.int .i64 a,.int .i64 b,.int .i64 c,.int .i64 d]]=>(natI a).bind fun a=>(natI b).bind fun b=>(natI c).bind fun c=>(natI d).bind fun d=>askB (fineB a b c d) (some (.w (.c (.bool true)),h))
 | _=>none
noncomputable def xgBlocks:Kn1:=fun args h=>match args with
 | [.g [.int .i64 a,.int .i64 b,.int .i64 c,.int .i64 d]]=>(natI a).bind fun a=>(natI b).bind fun b=>(natI c).bind fun c=>(natI d).bind fun d=>askB (fineB a b c d) (some (.w (.c (.int .i64 ((2+d+a * b:Nat):Int))),h))
 | _=>none
noncomputable def xDMay:Kn1:=fun args h=>match args with
 | [.c (.int .i64 z)]=>askB (decide (1≤z)&&decide (z≤2048)) (some (.w (.c (.bool true)),h))
 | _=>none
noncomputable def xDNew:Kn1:=fun args h=>match args with
 | [.c (.int .i64 z)]=>(natI z).bind fun n=>askB (Nat.ble 1 n&&Nat.ble n 2048) (some (.tup [.c (.ptr (h.next+1+1) 0),.c (.int .i64 0)],((h.new (.row 256 (List.replicate n zB) false)).new (.row 256 (List.replicate n zB) false)).new (.row 6 [dkL ⟨h.next,h.next+1,n,.snil,0,0⟩] false)))
 | _=>none
noncomputable def xCNew:Kn1:=fun args h=>match args with
 | [.c (.ptr d 0)]=>(getDk h d).bind fun _=>some (.tup [.c (.ptr (h.next+1+1) 0),.c (.int .i64 0)],((h.new (.map [])).new (.map [])).new (.row 3 [[.ptr d 0,.map h.next,.map (h.next+1)]] false))
 | _=>none
noncomputable def xRNew:Kn1:=fun args h=>match args with
 | [.c (.int .i64 z)]=>askB (decide (40≤z)&&decide (z≤256)) (some (.tup [.c (.ptr h.next 0),.c (.int .i64 0)],h.new (.row 3 [[.int .i64 (z - 1),.int .i64 1,.int .i64 0]] false)))
 | _=>none
noncomputable def xLNew:Kn1:=fun args h=>match args with
 | [.g [.int .i64 a,.int .i64 b,.int .i64 c,.int .i64 d]]=>(natI a).bind fun a'=>(natI b).bind fun b'=>(natI c).bind fun c'=>(natI d).bind fun d'=>askB (fineB a' b' c' d') (some (.tup [.c (.ptr (h.next+1) 0),.c (.int .i64 0)],(h.new (.row 4 [[.int .i64 a,.int .i64 b,.int .i64 c,.int .i64 d]] false)).new (.row 8 [[.bool true,.int .i64 a,.int .i64 b,.int .i64 c,.int .i64 d,.bool false,.int .u32 0,.snil]] false)))
 | _=>none
noncomputable def xRvNew:Kn1:=fun args h=>match args with
 | []=>some (.w (.c (.ptr (h.next+1) 0)),(h.new (.map [])).new (.row 1 [[.map h.next]] false))
 | _=>none
noncomputable def xTVoid:Kn1:=fun args h=>match args with
 | []=>some (.w (.g [.map (h.next+1),.map (h.next+1+1),.map (h.next+1+1+1),.ptr (h.next+1+1+1+1+1) 0]),((((((h.new (.row 4 [[.mnil,.mnil,.mnil,.pnil]] false)).new (.map [])).new (.map [])).new (.map [])).new (.map [])).new (.row 1 [[.map (h.next+1+1+1+1)]] false)).put h.next (.row 4 [[.map (h.next+1),.map (h.next+1+1),.map (h.next+1+1+1),.ptr (h.next+1+1+1+1+1) 0]] false))
 | _=>none
noncomputable def xTNew:Kn1:=fun args h=>match args with
 | [.c (.int .u32 q)]=>some (.w (.c (.ptr (h.next+1+1+1+1+1+1) 0)),(((((((h.new (.row 4 [[.mnil,.mnil,.mnil,.pnil]] false)).new (.map [])).new (.map [])).new (.map [])).new (.map [])).new (.row 1 [[.map (h.next+1+1+1+1)]] false)).put h.next (.row 4 [[.map (h.next+1),.map (h.next+1+1),.map (h.next+1+1+1),.ptr (h.next+1+1+1+1+1) 0]] false)).new (.row 13 [txL ⟨h.next+1,h.next+1+1,h.next+1+1+1,h.next+1+1+1+1+1,q,false,0,0,.mnil,.mnil,.mnil,.mnil,.pnil⟩] false))
 | _=>none
noncomputable def xSClean:Kn1:=fun args h=>match args with
 | [.c (.ptr s 0)]=>match h.get s with
  | some (.row sz [[gd,tx,nw,dt,gv,bs,kn,dd]] ro)=>askB (Nat.beq sz 8&&!ro) (some (.tup [],((((h.new (.map [])).put s (.row 8 [[gd,tx,nw,.map h.next,gv,bs,kn,dd]] false)).new (.map [])).put s (.row 8 [[gd,tx,nw,.map h.next,.map (h.next+1),bs,kn,dd]] false)).put s (.row 8 [[gd,tx,nw,.map h.next,.map (h.next+1),bs,.bool false,dd]] false)))
  | _=>none
 | _=>none
noncomputable def newSt (h:Go.Ev.H) (d:Nat) (a b c e:Nat) (md q:Int):Go.Ev.H :=
 let h1:=h.new (.row 4 [geoL a b c e] false)
 let h2:=((h1.new (.map [])).new (.map [])).new (.row 3 [[.ptr d 0,.map h1.next,.map (h1.next+1)]] false)
 let h3:=h2.new (.row 3 [[.int .i64 ((e:Int) - 1),.int .i64 1,.int .i64 0]] false)
 let h4:=(h3.new (.row 4 [geoL a b c e] false)).new (.row 8 [[.bool true,.int .i64 (a:Int),.int .i64 (b:Int),.int .i64 (c:Int),.int .i64 (e:Int),.bool false,.int .u32 0,.snil]] false)
 let h5:=h4.new (.row 9 [gdL ⟨a,b,c,e,md,d,h1.next+1+1,h2.next,h3.next+1⟩] false)
 let h6:=h5.new (.row 8 [[.ptr h4.next 0,.pnil,.pnil,.mnil,.mnil,.snil,.bool false,.bool false]] false)
 let h7:=((((((((h6.new (.row 4 [[.mnil,.mnil,.mnil,.pnil]] false)).new (.map [])).new (.map [])).new (.map [])).new (.map [])).new (.row 1 [[.map (h6.next+1+1+1+1)]] false)).put h6.next (.row 4 [[.map (h6.next+1),.map (h6.next+1+1),.map (h6.next+1+1+1),.ptr (h6.next+1+1+1+1+1) 0]] false)).new (.row 13 [txL ⟨h6.next+1,h6.next+1+1,h6.next+1+1+1,h6.next+1+1+1+1+1,q,false,0,0,.mnil,.mnil,.mnil,.mnil,.pnil⟩] false)).put h5.next (.row 8 [[.ptr h4.next 0,.ptr (h6.next+1+1+1+1+1+1) 0,.pnil,.mnil,.mnil,.snil,.bool false,.bool false]] false)
 ((((h7.new (.map [])).put h5.next (.row 8 [[.ptr h4.next 0,.ptr (h6.next+1+1+1+1+1+1) 0,.pnil,.map h7.next,.mnil,.snil,.bool false,.bool false]] false)).new (.map [])).put h5.next (.row 8 [[.ptr h4.next 0,.ptr (h6.next+1+1+1+1+1+1) 0,.pnil,.map h7.next,.map (h7.next+1),.snil,.bool false,.bool false]] false)).put h5.next (.row 8 [[.ptr h4.next 0,.ptr (h6.next+1+1+1+1+1+1) 0,.pnil,.map h7.next,.map (h7.next+1),.snil,.bool false,.bool false]] false)
noncomputable def xSNew:Kn1:=fun args h=>match args with
 | [.c (.ptr d 0),.g [.int .i64 a,.int .i64 b,.int .i64 c,.int .i64 e],.c (.int .u8 md),.c (.int .u32 q)]=>(natI a).bind fun a=>(natI b).bind fun b=>(natI c).bind fun c=>(natI e).bind fun e=>(getDk h d).bind fun D=>askB (fineB a b c e&&Nat.ble (2+e+a * b) D.n&&decide (1≤md)&&decide (md≤3)&&decide (1≤q)&&decide (q≤2147483648)) (some (.tup [.c (.ptr (h.next+8) 0),.c (.int .i64 0)],newSt h d a b c e md q))
 | _=>none
attribute [go_sem] xgMay xgBlocks xDMay xDNew xCNew xRNew xLNew xRvNew xTVoid xTNew xSClean
section
variable (Hh:Hearts K Tryz.prog)
include Hh
theorem xgMay_ok {args:List W} {h h':Go.Ev.H} {v:V} (e:xgMay args h=some (v,h')):CallOk K Tryz.prog 28 args h v h':=by
 unfold xgMay at e
 split at e
 ·obtain⟨a,ha,e⟩:=bind_of e
  obtain⟨b,hb,e⟩:=bind_of e
  obtain⟨c,hc,e⟩:=bind_of e
  obtain⟨d,hd,e⟩:=bind_of e
  obtain⟨f,e⟩:=askB_some.1 e
  cases e
  rw[natI_some ha,natI_some hb,natI_some hc,natI_some hd]
  exact gMayOk Hh (fineB_fine f) h
 ·cases e
theorem xgBlocks_ok {args:List W} {h h':Go.Ev.H} {v:V} (e:xgBlocks args h=some (v,h')):CallOk K Tryz.prog 47 args h v h':=by
 unfold xgBlocks at e
 split at e
 ·obtain⟨a,ha,e⟩:=bind_of e
  obtain⟨b,hb,e⟩:=bind_of e
  obtain⟨c,hc,e⟩:=bind_of e
  obtain⟨d,hd,e⟩:=bind_of e
  obtain⟨f,e⟩:=askB_some.1 e
  cases e
  rw[natI_some ha,natI_some hb,natI_some hc,natI_some hd]
  exact gBlocksOk Hh (fineB_fine f) h
 ·cases e
theorem xDMay_ok {args:List W} {h h':Go.Ev.H} {v:V} (e:xDMay args h=some (v,h')):CallOk K Tryz.prog 56 args h v h':=by
 unfold xDMay at e
 split at e
 ·rename_i z
  obtain⟨b,e⟩:=askB_some.1 e
  simp only[Bool.and_eq_true,decide_eq_true_eq] at b
  obtain⟨z0,z1⟩:=b
  cases e
  refine CallOk.goes fits Hh (by kernel_rfl) (by kernel_rfl) (by kernel_rfl) (show Tryz.f56.body=some _ from rfl) rfl ?_
  repeat (first
   | refine Goes.seq ?_
   | refine Goes.block ?_
   | refine Goes.loop ?_
   | refine Goes.skip ?_
   | refine Goes.exit ?_
   | refine Goes.ret ?_
   | refine Goes.condV (by simp (maxSteps:=9^6) +decide (disch:=first|omega|(simp only[lens]<;>omega)|decide) only [go_sem,readRow,loadIn,simprocAttr]<;>rfl) ?_
   | refine Goes.ops2 fits Hh E0_sound (by simp (maxSteps:=9^6) +decide (disch:=first|omega|(simp only[lens]<;>omega)|decide) only [go_sem,readRow,loadIn,simprocAttr]; rfl) ?_)
  simp (maxSteps:=9^6) +decide (disch:=first|omega|(simp only[lens]<;>omega)|decide) only [go_sem,readRow,loadIn,simprocAttr]<;>rfl
 ·cases e
theorem xCNew_ok {args:List W} {h h':Go.Ev.H} {v:V} (e:xCNew args h=some (v,h')):CallOk K Tryz.prog 59 args h v h':=by
 unfold xCNew at e
 split at e
 ·rename_i d
  obtain⟨D,hd,e⟩:=bind_of e
  obtain⟨hd,n0,n1⟩:=getDk_some hd
  cases e
  refine CallOk.goes fits Hh (by kernel_rfl) (by kernel_rfl) (by kernel_rfl) (show Tryz.f59.body=some _ from rfl) rfl ?_
  repeat (first
   | refine Goes.seq ?_
   | refine Goes.block ?_
   | refine Goes.loop ?_
   | refine Goes.skip ?_
   | refine Goes.exit ?_
   | refine Goes.ret ?_
   | refine Goes.condV (by simp (maxSteps:=9^6) +decide (disch:=first|omega|(simp only[lens]<;>omega)|decide) only [go_sem,readRow,loadIn,simprocAttr,hd,opBox]<;>rfl) ?_
   | refine Goes.ops2 fits Hh (EX_sound E0_sound (fun _ _ _ _=>xDBlocks_ok Hh)) (by simp (maxSteps:=9^6) +decide (disch:=first|omega|(simp only[lens]<;>omega)|decide) only [go_sem,readRow,loadIn,simprocAttr,hd,opBox]; rfl) ?_)
  simp (maxSteps:=9^6) +decide (disch:=first|omega|(simp only[lens]<;>omega)|decide) only [go_sem,readRow,loadIn,simprocAttr]<;>rfl
 ·cases e
theorem xRNew_ok {args:List W} {h h':Go.Ev.H} {v:V} (e:xRNew args h=some (v,h')):CallOk K Tryz.prog 60 args h v h':=by
 unfold xRNew at e
 split at e
 ·rename_i z
  obtain⟨b,e⟩:=askB_some.1 e
  simp only[Bool.and_eq_true,decide_eq_true_eq] at b
  obtain⟨z0,z1⟩:=b
  cases e
  refine CallOk.goes fits Hh (by kernel_rfl) (by kernel_rfl) (by kernel_rfl) (show Tryz.f60.body=some _ from rfl) rfl ?_
  repeat (first
   | refine Goes.seq ?_
   | refine Goes.block ?_
   | refine Goes.loop ?_
   | refine Goes.skip ?_
   | refine Goes.exit ?_
   | refine Goes.ret ?_
   | refine Goes.condV (by simp (maxSteps:=9^6) +decide (disch:=first|omega|(simp only[lens]<;>omega)|decide) only [go_sem,readRow,loadIn,simprocAttr,opBox]<;>rfl) ?_
   | refine Goes.ops2 fits Hh E0_sound (by simp (maxSteps:=9^6) +decide (disch:=first|omega|(simp only[lens]<;>omega)|decide) only [go_sem,readRow,loadIn,simprocAttr,opBox]; rfl) ?_)
  simp (maxSteps:=9^6) +decide (disch:=first|omega|(simp only[lens]<;>omega)|decide) only [go_sem,readRow,loadIn,simprocAttr]<;>rfl
 ·cases e
theorem xLNew_ok {args:List W} {h h':Go.Ev.H} {v:V} (e:xLNew args h=some (v,h')):CallOk K Tryz.prog 61 args h v h':=by
 unfold xLNew at e
 split at e
 ·obtain⟨a,ha,e⟩:=bind_of e
  obtain⟨b,hb,e⟩:=bind_of e
  obtain⟨c,hc,e⟩:=bind_of e
  obtain⟨d,hd,e⟩:=bind_of e
  obtain⟨f,e⟩:=askB_some.1 e
  cases e
  rw[natI_some ha,natI_some hb,natI_some hc,natI_some hd]
  refine CallOk.goes fits Hh (by kernel_rfl) (by kernel_rfl) (by kernel_rfl) (show Tryz.f61.body=some _ from rfl) rfl ?_
  repeat (first
   | refine Goes.seq ?_
   | refine Goes.block ?_
   | refine Goes.loop ?_
   | refine Goes.skip ?_
   | refine Goes.exit ?_
   | refine Goes.ret ?_
   | refine Goes.condV (by simp (maxSteps:=9^6) +decide (disch:=first|omega|(simp only[lens]<;>omega)|decide) only [go_sem,readRow,loadIn,simprocAttr,f,opBox,read1]<;>rfl) ?_
   | refine Goes.ops2 fits Hh (EX_sound E0_sound (fun _ _ _ _=>xgMay_ok Hh)) (by simp (maxSteps:=9^6) +decide (disch:=first|omega|(simp only[lens]<;>omega)|decide) only [go_sem,readRow,loadIn,simprocAttr,f,opBox,read1]; rfl) ?_)
  simp (maxSteps:=9^6) +decide (disch:=first|omega|(simp only[lens]<;>omega)|decide) only [go_sem,readRow,loadIn,simprocAttr]<;>rfl
 ·cases e
theorem xRvNew_ok {args:List W} {h h':Go.Ev.H} {v:V} (e:xRvNew args h=some (v,h')):CallOk K Tryz.prog 106 args h v h':=by
 unfold xRvNew at e
 split at e
 ·cases e
  refine CallOk.goes fits Hh (by kernel_rfl) (by kernel_rfl) (by kernel_rfl) (show Tryz.f106.body=some _ from rfl) rfl ?_
  repeat (first
   | refine Goes.seq ?_
   | refine Goes.block ?_
   | refine Goes.loop ?_
   | refine Goes.skip ?_
   | refine Goes.exit ?_
   | refine Goes.ret ?_
   | refine Goes.condV (by simp (maxSteps:=9^6) +decide (disch:=first|omega|(simp only[lens]<;>omega)|decide) only [go_sem,readRow,loadIn,simprocAttr,opBox]<;>rfl) ?_
   | refine Goes.ops2 fits Hh E0_sound (by simp (maxSteps:=9^6) +decide (disch:=first|omega|(simp only[lens]<;>omega)|decide) only [go_sem,readRow,loadIn,simprocAttr,opBox]; rfl) ?_)
  simp (maxSteps:=9^6) +decide (disch:=first|omega|(simp only[lens]<;>omega)|decide) only [go_sem,readRow,loadIn,simprocAttr]<;>rfl
 ·cases e
theorem xTVoid_ok {args:List W} {h h':Go.Ev.H} {v:V} (e:xTVoid args h=some (v,h')):CallOk K Tryz.prog 100 args h v h':=by
 unfold xTVoid at e
 split at e
 ·cases e
  refine CallOk.goes fits Hh (by kernel_rfl) (by kernel_rfl) (by kernel_rfl) (show Tryz.f100.body=some _ from rfl) rfl ?_
  repeat (first
   | refine Goes.seq ?_
   | refine Goes.block ?_
   | refine Goes.loop ?_
   | refine Goes.skip ?_
   | refine Goes.exit ?_
   | refine Goes.ret ?_
   | refine Goes.condV (by simp (maxSteps:=9^6) +decide (disch:=first|omega|(simp only[lens]<;>omega)|decide) only [go_sem,readRow,loadIn,simprocAttr,opBox,writeRow,read1]<;>rfl) ?_
   | refine Goes.ops2 fits Hh (EX_sound E0_sound (fun _ _ _ _=>xRvNew_ok Hh)) (by simp (maxSteps:=9^6) +decide (disch:=first|omega|(simp only[lens]<;>omega)|decide) only [go_sem,readRow,loadIn,simprocAttr,opBox,writeRow,read1]; rfl) ?_)
  simp (maxSteps:=9^6) +decide (disch:=first|omega|(simp only[lens]<;>omega)|decide) only [go_sem,readRow,loadIn,simprocAttr]<;>rfl
 ·cases e
theorem xTNew_ok {args:List W} {h h':Go.Ev.H} {v:V} (e:xTNew args h=some (v,h')):CallOk K Tryz.prog 62 args h v h':=by
 unfold xTNew at e
 split at e
 ·rename_i q
  cases e
  refine CallOk.goes fits Hh (by kernel_rfl) (by kernel_rfl) (by kernel_rfl) (show Tryz.f62.body=some _ from rfl) rfl ?_
  repeat (first
   | refine Goes.seq ?_
   | refine Goes.block ?_
   | refine Goes.loop ?_
   | refine Goes.skip ?_
   | refine Goes.exit ?_
   | refine Goes.ret ?_
   | refine Goes.condV (by simp (maxSteps:=9^6) +decide (disch:=first|omega|(simp only[lens]<;>omega)|decide) only [go_sem,readRow,loadIn,simprocAttr,opBox]<;>rfl) ?_
   | refine Goes.ops2 fits Hh (EX_sound E0_sound (fun _ _ _ _=>xTVoid_ok Hh)) (by simp (maxSteps:=9^6) +decide (disch:=first|omega|(simp only[lens]<;>omega)|decide) only [go_sem,readRow,loadIn,simprocAttr,opBox]; rfl) ?_)
  simp (maxSteps:=9^6) +decide (disch:=first|omega|(simp only[lens]<;>omega)|decide) only [go_sem,readRow,loadIn,simprocAttr]<;>rfl
 ·cases e
theorem xSClean_ok {args:List W} {h h':Go.Ev.H} {v:V} (e:xSClean args h=some (v,h')):CallOk K Tryz.prog 25 args h v h':=by
 unfold xSClean at e
 split at e
 ·rename_i s
  split at e
  ·rename_i heq
   obtain⟨b,e⟩:=askB_some.1 e
   simp only[Bool.and_eq_true,Bool.not_eq_true'] at b
   obtain⟨b1,rfl⟩:=b
   obtain rfl:=Nat.eq_of_beq_eq_true b1
   cases e
   refine CallOk.tidy ⟨Tryz.f25,Tryz.func25,by kernel_rfl,by decide⟩ fun tidy=>?_
   have l1:=tidy _ _ heq
   refine CallOk.goes fits Hh (by kernel_rfl) (by kernel_rfl) (by kernel_rfl) (show Tryz.f25.body=some _ from rfl) rfl ?_
   repeat (first
    | refine Goes.seq ?_
    | refine Goes.block ?_
    | refine Goes.loop ?_
    | refine Goes.skip ?_
    | refine Goes.exit ?_
    | refine Goes.ret ?_
    | refine Goes.condV (by simp (maxSteps:=9^6) +decide (disch:=first|omega|(simp only[lens]<;>omega)|decide) only [go_sem,readRow,loadIn,simprocAttr,heq,read1,writeRow]<;>rfl) ?_
    | refine Goes.ops2 fits Hh E0_sound (by simp (maxSteps:=9^6) +decide (disch:=first|omega|(simp only[lens]<;>omega)|decide) only [go_sem,readRow,loadIn,simprocAttr,heq,read1,writeRow]; rfl) ?_)
   simp (maxSteps:=9^6) +decide (disch:=first|omega|(simp only[lens]<;>omega)|decide) only [go_sem,readRow,loadIn,simprocAttr]<;>rfl
  ·cases e
 ·cases e
end
end Go.Proofs.YtlbbmhgdcdcdnaaGreatDoor
