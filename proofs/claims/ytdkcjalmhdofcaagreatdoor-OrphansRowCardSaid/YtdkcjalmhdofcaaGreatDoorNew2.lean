/- What New makes: disks, caches, rings, lists, transactions, stores. -/
import Derived.Test.YtdkcjalmhdofcaaGreatDoorSto
import Derived.Test.YtdkcjalmhdofcaaGreatDoorWhat3
set_option linter.unusedSimpArgs false
set_option linter.unusedVariables false
set_option linter.unusedSectionVars false
set_option maxRecDepth 100000
set_option maxHeartbeats 4000000
namespace Go.Proofs.YtdkcjalmhdofcaaGreatDoor
open Go.Ev
theorem ty211:K.types.get 211=some ti211:=by kernel_rfl
theorem sz211:ti211.size=3:=by rfl
theorem ag211:ti211.agg=true:=by rfl
theorem fo211_0:Zp K 211 0=some (0,ti3):=by kernel_rfl
theorem fo211_1:Zp K 211 1=some (1,ti3):=by kernel_rfl
theorem fo211_2:Zp K 211 2=some (2,ti3):=by kernel_rfl
theorem bu211 (ps:List (Nat × W)):Z9 K 211 (some ps)=gW (Z5 K 211 ps ti211.zero.cells):=by kernel_rfl
theorem ze211:ti211.zero=(.g ([.int .i64 0,.int .i64 0,.int .i64 0])):=by rfl
theorem by211:ti211.bytes=24:=by rfl
attribute [go_sem] ty211 sz211 ag211 fo211_0 fo211_1 fo211_2 bu211 ze211 by211
theorem rs57:Tryz.f57.results.toList=[.tmp 2]:=rfl
theorem rs62:Tryz.f62.results.toList=[.tmp 2,.tmp 3]:=rfl
theorem rs63:Tryz.f63.results.toList=[.tmp 2,.tmp 3]:=rfl
theorem rs64:Tryz.f64.results.toList=[.tmp 2,.tmp 3]:=rfl
theorem rs115:Tryz.f115.results.toList=[.tmp 0]:=rfl
theorem rs109:Tryz.f109.results.toList=[.cell 0 177]:=rfl
theorem rs65:Tryz.f65.results.toList=[.tmp 2]:=rfl
theorem rs25:Tryz.f25.results.toList=[]:=rfl
theorem rs17:Tryz.f17.results.toList=[.tmp 8,.tmp 9]:=rfl
attribute [go_sem] rs57 rs62 rs63 rs64 rs115 rs109 rs65 rs25 rs17
noncomputable def Zt6:Kn1:=fun args h=>match args with
 | [.g [.int .i64 a,.int .i64 b,.int .i64 c,.int .i64 d]]=>(Jy a).bind fun a=>(Jy b).bind fun b=>(Jy c).bind fun c=>(Jy d).bind fun d=>Yt (U4 a b c d) (some (.w (.c (.bool true)),h))
 | _=>none
noncomputable def Zfh:Kn1:=fun args h=>match args with
 | [.g [.int .i64 a,.int .i64 b,.int .i64 c,.int .i64 d]]=>(Jy a).bind fun a=>(Jy b).bind fun b=>(Jy c).bind fun c=>(Jy d).bind fun d=>Yt (U4 a b c d) (some (.w (.c (.int .i64 ((2+d+a * b:Nat):Int))),h))
 | _=>none
noncomputable def Zwh:Kn1:=fun args h=>match args with
 | [.c (.int .i64 z)]=>Yt (decide (1≤z)&&decide (z≤2048)) (some (.w (.c (.bool true)),h))
 | _=>none
noncomputable def Z3m:Kn1:=fun args h=>match args with
 | [.c (.int .i64 z)]=>(Jy z).bind fun n=>Yt (Nat.ble 1 n&&Nat.ble n 2048) (some (.tup [.c (.ptr (h.next+1+1) 0),.c (.int .i64 0)],((h.new (.row 256 (List.replicate n zB) false)).new (.row 256 (List.replicate n zB) false)).new (.row 6 [dkL ⟨h.next,h.next+1,n,.snil,0,0⟩] false)))
 | _=>none
noncomputable def Zuk:Kn1:=fun args h=>match args with
 | [.c (.ptr d 0)]=>(L8 h d).bind fun _=>some (.tup [.c (.ptr (h.next+1+1) 0),.c (.int .i64 0)],((h.new (.map [])).new (.map [])).new (.row 3 [[.ptr d 0,.map h.next,.map (h.next+1)]] false))
 | _=>none
noncomputable def Zuw:Kn1:=fun args h=>match args with
 | [.c (.int .i64 z)]=>Yt (decide (40≤z)&&decide (z≤256)) (some (.tup [.c (.ptr h.next 0),.c (.int .i64 0)],h.new (.row 3 [[.int .i64 (z - 1),.int .i64 1,.int .i64 0]] false)))
 | _=>none
noncomputable def Zvm:Kn1:=fun args h=>match args with
 | [.g [.int .i64 a,.int .i64 b,.int .i64 c,.int .i64 d]]=>(Jy a).bind fun a'=>(Jy b).bind fun b'=>(Jy c).bind fun c'=>(Jy d).bind fun d'=>Yt (U4 a' b' c' d') (some (.tup [.c (.ptr (h.next+1) 0),.c (.int .i64 0)],(h.new (.row 4 [[.int .i64 a,.int .i64 b,.int .i64 c,.int .i64 d]] false)).new (.row 8 [[.bool true,.int .i64 a,.int .i64 b,.int .i64 c,.int .i64 d,.bool false,.int .u32 0,.snil]] false)))
 | _=>none
noncomputable def Zns:Kn1:=fun args h=>match args with
 | []=>some (.w (.c (.ptr (h.next+1) 0)),(h.new (.map [])).new (.row 1 [[.map h.next]] false))
 | _=>none
noncomputable def Zmt:Kn1:=fun args h=>match args with
 | []=>some (.w (.g [.map (h.next+1),.map (h.next+1+1),.map (h.next+1+1+1),.ptr (h.next+1+1+1+1+1) 0]),((((((h.new (.row 4 [[.mnil,.mnil,.mnil,.pnil]] false)).new (.map [])).new (.map [])).new (.map [])).new (.map [])).new (.row 1 [[.map (h.next+1+1+1+1)]] false)).put h.next (.row 4 [[.map (h.next+1),.map (h.next+1+1),.map (h.next+1+1+1),.ptr (h.next+1+1+1+1+1) 0]] false))
 | _=>none
noncomputable def Zwt:Kn1:=fun args h=>match args with
 | [.c (.int .u32 q)]=>some (.w (.c (.ptr (h.next+1+1+1+1+1+1) 0)),(((((((h.new (.row 4 [[.mnil,.mnil,.mnil,.pnil]] false)).new (.map [])).new (.map [])).new (.map [])).new (.map [])).new (.row 1 [[.map (h.next+1+1+1+1)]] false)).put h.next (.row 4 [[.map (h.next+1),.map (h.next+1+1),.map (h.next+1+1+1),.ptr (h.next+1+1+1+1+1) 0]] false)).new (.row 13 [txL ⟨h.next+1,h.next+1+1,h.next+1+1+1,h.next+1+1+1+1+1,q,false,0,0,.mnil,.mnil,.mnil,.mnil,.pnil⟩] false))
 | _=>none
noncomputable def Zjb:Kn1:=fun args h=>match args with
 | [.c (.ptr s 0)]=>match h.get s with
  | some (.row sz [[gd,tx,nw,dt,gv,bs,kn,dd]] ro)=>Yt (Nat.beq sz 8&&!ro) (some (.tup [],((((h.new (.map [])).put s (.row 8 [[gd,tx,nw,.map h.next,gv,bs,kn,dd]] false)).new (.map [])).put s (.row 8 [[gd,tx,nw,.map h.next,.map (h.next+1),bs,kn,dd]] false)).put s (.row 8 [[gd,tx,nw,.map h.next,.map (h.next+1),bs,.bool false,dd]] false)))
  | _=>none
 | _=>none
noncomputable def Sk (h:Go.Ev.H) (d:Nat) (a b c e:Nat) (md q:Int):Go.Ev.H :=
 let h1:=h.new (.row 4 [Yo a b c e] false)
 let h2:=((h1.new (.map [])).new (.map [])).new (.row 3 [[.ptr d 0,.map h1.next,.map (h1.next+1)]] false)
 let h3:=h2.new (.row 3 [[.int .i64 ((e:Int) - 1),.int .i64 1,.int .i64 0]] false)
 let h4:=(h3.new (.row 4 [Yo a b c e] false)).new (.row 8 [[.bool true,.int .i64 (a:Int),.int .i64 (b:Int),.int .i64 (c:Int),.int .i64 (e:Int),.bool false,.int .u32 0,.snil]] false)
 let h5:=h4.new (.row 9 [gdL ⟨a,b,c,e,md,d,h1.next+1+1,h2.next,h3.next+1⟩] false)
 let h6:=h5.new (.row 8 [[.ptr h4.next 0,.pnil,.pnil,.mnil,.mnil,.snil,.bool false,.bool false]] false)
 let h7:=((((((((h6.new (.row 4 [[.mnil,.mnil,.mnil,.pnil]] false)).new (.map [])).new (.map [])).new (.map [])).new (.map [])).new (.row 1 [[.map (h6.next+1+1+1+1)]] false)).put h6.next (.row 4 [[.map (h6.next+1),.map (h6.next+1+1),.map (h6.next+1+1+1),.ptr (h6.next+1+1+1+1+1) 0]] false)).new (.row 13 [txL ⟨h6.next+1,h6.next+1+1,h6.next+1+1+1,h6.next+1+1+1+1+1,q,false,0,0,.mnil,.mnil,.mnil,.mnil,.pnil⟩] false)).put h5.next (.row 8 [[.ptr h4.next 0,.ptr (h6.next+1+1+1+1+1+1) 0,.pnil,.mnil,.mnil,.snil,.bool false,.bool false]] false)
 ((((h7.new (.map [])).put h5.next (.row 8 [[.ptr h4.next 0,.ptr (h6.next+1+1+1+1+1+1) 0,.pnil,.map h7.next,.mnil,.snil,.bool false,.bool false]] false)).new (.map [])).put h5.next (.row 8 [[.ptr h4.next 0,.ptr (h6.next+1+1+1+1+1+1) 0,.pnil,.map h7.next,.map (h7.next+1),.snil,.bool false,.bool false]] false)).put h5.next (.row 8 [[.ptr h4.next 0,.ptr (h6.next+1+1+1+1+1+1) 0,.pnil,.map h7.next,.map (h7.next+1),.snil,.bool false,.bool false]] false)
noncomputable def Zve:Kn1:=fun args h=>match args with
 | [.c (.ptr d 0),.g [.int .i64 a,.int .i64 b,.int .i64 c,.int .i64 e],.c (.int .u8 md),.c (.int .u32 q)]=>(Jy a).bind fun a=>(Jy b).bind fun b=>(Jy c).bind fun c=>(Jy e).bind fun e=>(L8 h d).bind fun D=>Yt (U4 a b c e&&Nat.ble (2+e+a * b) D.n&&decide (1≤md)&&decide (md≤3)&&decide (1≤q)&&decide (q≤2147483648)) (some (.tup [.c (.ptr (h.next+8) 0),.c (.int .i64 0)],Sk h d a b c e md q))
 | _=>none
attribute [go_sem] Zt6 Zfh Zwh Z3m Zuk Zuw Zvm Zns Zmt Zwt Zjb
section
variable (Hh:Hearts K Tryz.prog)
include Hh
theorem U7 {args:List W} {h h':Go.Ev.H} {v:V} (e:Zt6 args h=some (v,h')):Zg K Tryz.prog 60 args h v h':=by
 unfold Zt6 at e
 split at e
 ·obtain⟨a,ha,e⟩:=Zq e
  obtain⟨b,hb,e⟩:=Zq e
  obtain⟨c,hc,e⟩:=Zq e
  obtain⟨d,hd,e⟩:=Zq e
  obtain⟨f,e⟩:=Zv.1 e
  cases e
  rw[Z8 ha,Z8 hb,Z8 hc,Z8 hd]
  exact Zis Hh (Yc f) h
 ·cases e
theorem Bw {args:List W} {h h':Go.Ev.H} {v:V} (e:Zfh args h=some (v,h')):Zg K Tryz.prog 61 args h v h':=by
 unfold Zfh at e
 split at e
 ·obtain⟨a,ha,e⟩:=Zq e
  obtain⟨b,hb,e⟩:=Zq e
  obtain⟨c,hc,e⟩:=Zq e
  obtain⟨d,hd,e⟩:=Zq e
  obtain⟨f,e⟩:=Zv.1 e
  cases e
  rw[Z8 ha,Z8 hb,Z8 hc,Z8 hd]
  exact Zq0 Hh (Yc f) h
 ·cases e
theorem Zwg {args:List W} {h h':Go.Ev.H} {v:V} (e:Zwh args h=some (v,h')):Zg K Tryz.prog 57 args h v h':=by
 unfold Zwh at e
 split at e
 ·rename_i z
  obtain⟨b,e⟩:=Zv.1 e
  simp only[Bool.and_eq_true,decide_eq_true_eq] at b
  obtain⟨z0,z1⟩:=b
  cases e
  refine Zg.goes fits Hh (by kernel_rfl) (by kernel_rfl) (by kernel_rfl) (show Tryz.f57.body=some _ from rfl) rfl ?_
  repeat (first|apply Goes.seq|apply Goes.block|apply Goes.loop|apply Goes.skip|apply Goes.exit|apply Goes.ret|((first|apply Goes.Zo|apply Goes.ops2 fits Hh Zb); · simp (maxSteps:=9^6) +decide (disch:=first|omega|(simp only[lens]<;>omega)|decide) only [go_sem,Zd,Za,simprocAttr]<;>rfl))
  simp (maxSteps:=9^6) +decide (disch:=first|omega|(simp only[lens]<;>omega)|decide) only [go_sem,Zd,Za,simprocAttr]<;>rfl
 ·cases e
theorem Nv {args:List W} {h h':Go.Ev.H} {v:V} (e:Zuk args h=some (v,h')):Zg K Tryz.prog 62 args h v h':=by
 unfold Zuk at e
 split at e
 ·rename_i d
  obtain⟨D,hd,e⟩:=Zq e
  obtain⟨hd,n0,n1⟩:=Ur hd
  cases e
  refine Zg.goes fits Hh (by kernel_rfl) (by kernel_rfl) (by kernel_rfl) (show Tryz.f62.body=some _ from rfl) rfl ?_
  repeat (first|apply Goes.seq|apply Goes.block|apply Goes.loop|apply Goes.skip|apply Goes.exit|apply Goes.ret|((first|apply Goes.Zo|apply Goes.ops2 fits Hh (Zj Zb (fun _ _ _ _=>Oz Hh))); · simp (maxSteps:=9^6) +decide (disch:=first|omega|(simp only[lens]<;>omega)|decide) only [go_sem,Zd,Za,simprocAttr,hd,Z6]<;>rfl))
  simp (maxSteps:=9^6) +decide (disch:=first|omega|(simp only[lens]<;>omega)|decide) only [go_sem,Zd,Za,simprocAttr]<;>rfl
 ·cases e
theorem Na {args:List W} {h h':Go.Ev.H} {v:V} (e:Zuw args h=some (v,h')):Zg K Tryz.prog 63 args h v h':=by
 unfold Zuw at e
 split at e
 ·rename_i z
  obtain⟨b,e⟩:=Zv.1 e
  simp only[Bool.and_eq_true,decide_eq_true_eq] at b
  obtain⟨z0,z1⟩:=b
  cases e
  refine Zg.goes fits Hh (by kernel_rfl) (by kernel_rfl) (by kernel_rfl) (show Tryz.f63.body=some _ from rfl) rfl ?_
  repeat (first|apply Goes.seq|apply Goes.block|apply Goes.loop|apply Goes.skip|apply Goes.exit|apply Goes.ret|((first|apply Goes.Zo|apply Goes.ops2 fits Hh Zb); · simp (maxSteps:=9^6) +decide (disch:=first|omega|(simp only[lens]<;>omega)|decide) only [go_sem,Zd,Za,simprocAttr,Z6]<;>rfl))
  simp (maxSteps:=9^6) +decide (disch:=first|omega|(simp only[lens]<;>omega)|decide) only [go_sem,Zd,Za,simprocAttr]<;>rfl
 ·cases e
theorem Nz {args:List W} {h h':Go.Ev.H} {v:V} (e:Zvm args h=some (v,h')):Zg K Tryz.prog 64 args h v h':=by
 unfold Zvm at e
 split at e
 ·obtain⟨a,ha,e⟩:=Zq e
  obtain⟨b,hb,e⟩:=Zq e
  obtain⟨c,hc,e⟩:=Zq e
  obtain⟨d,hd,e⟩:=Zq e
  obtain⟨f,e⟩:=Zv.1 e
  cases e
  rw[Z8 ha,Z8 hb,Z8 hc,Z8 hd]
  refine Zg.goes fits Hh (by kernel_rfl) (by kernel_rfl) (by kernel_rfl) (show Tryz.f64.body=some _ from rfl) rfl ?_
  repeat (first|apply Goes.seq|apply Goes.block|apply Goes.loop|apply Goes.skip|apply Goes.exit|apply Goes.ret|((first|apply Goes.Zo|apply Goes.ops2 fits Hh (Zj Zb (fun _ _ _ _=>U7 Hh))); · simp (maxSteps:=9^6) +decide (disch:=first|omega|(simp only[lens]<;>omega)|decide) only [go_sem,Zd,Za,simprocAttr,f,Z6,read1]<;>rfl))
  simp (maxSteps:=9^6) +decide (disch:=first|omega|(simp only[lens]<;>omega)|decide) only [go_sem,Zd,Za,simprocAttr]<;>rfl
 ·cases e
theorem Zbl {args:List W} {h h':Go.Ev.H} {v:V} (e:Zns args h=some (v,h')):Zg K Tryz.prog 115 args h v h':=by
 unfold Zns at e
 split at e
 ·cases e
  refine Zg.goes fits Hh (by kernel_rfl) (by kernel_rfl) (by kernel_rfl) (show Tryz.f115.body=some _ from rfl) rfl ?_
  repeat (first|apply Goes.seq|apply Goes.block|apply Goes.loop|apply Goes.skip|apply Goes.exit|apply Goes.ret|((first|apply Goes.Zo|apply Goes.ops2 fits Hh Zb); · simp (maxSteps:=9^6) +decide (disch:=first|omega|(simp only[lens]<;>omega)|decide) only [go_sem,Zd,Za,simprocAttr,Z6]<;>rfl))
  simp (maxSteps:=9^6) +decide (disch:=first|omega|(simp only[lens]<;>omega)|decide) only [go_sem,Zd,Za,simprocAttr]<;>rfl
 ·cases e
theorem Zrw {args:List W} {h h':Go.Ev.H} {v:V} (e:Zmt args h=some (v,h')):Zg K Tryz.prog 109 args h v h':=by
 unfold Zmt at e
 split at e
 ·cases e
  refine Zg.goes fits Hh (by kernel_rfl) (by kernel_rfl) (by kernel_rfl) (show Tryz.f109.body=some _ from rfl) rfl ?_
  repeat (first|apply Goes.seq|apply Goes.block|apply Goes.loop|apply Goes.skip|apply Goes.exit|apply Goes.ret|((first|apply Goes.Zo|apply Goes.ops2 fits Hh (Zj Zb (fun _ _ _ _=>Zbl Hh))); · simp (maxSteps:=9^6) +decide (disch:=first|omega|(simp only[lens]<;>omega)|decide) only [go_sem,Zd,Za,simprocAttr,Z6,Z4,read1]<;>rfl))
  simp (maxSteps:=9^6) +decide (disch:=first|omega|(simp only[lens]<;>omega)|decide) only [go_sem,Zd,Za,simprocAttr]<;>rfl
 ·cases e
theorem Nk {args:List W} {h h':Go.Ev.H} {v:V} (e:Zwt args h=some (v,h')):Zg K Tryz.prog 65 args h v h':=by
 unfold Zwt at e
 split at e
 ·rename_i q
  cases e
  refine Zg.goes fits Hh (by kernel_rfl) (by kernel_rfl) (by kernel_rfl) (show Tryz.f65.body=some _ from rfl) rfl ?_
  repeat (first|apply Goes.seq|apply Goes.block|apply Goes.loop|apply Goes.skip|apply Goes.exit|apply Goes.ret|((first|apply Goes.Zo|apply Goes.ops2 fits Hh (Zj Zb (fun _ _ _ _=>Zrw Hh))); · simp (maxSteps:=9^6) +decide (disch:=first|omega|(simp only[lens]<;>omega)|decide) only [go_sem,Zd,Za,simprocAttr,Z6]<;>rfl))
  simp (maxSteps:=9^6) +decide (disch:=first|omega|(simp only[lens]<;>omega)|decide) only [go_sem,Zd,Za,simprocAttr]<;>rfl
 ·cases e
theorem Bo {args:List W} {h h':Go.Ev.H} {v:V} (e:Zjb args h=some (v,h')):Zg K Tryz.prog 25 args h v h':=by
 unfold Zjb at e
 split at e
 ·rename_i s
  split at e
  ·rename_i heq
   obtain⟨b,e⟩:=Zv.1 e
   simp only[Bool.and_eq_true,Bool.not_eq_true'] at b
   obtain⟨b1,rfl⟩:=b
   obtain rfl:=Nat.eq_of_beq_eq_true b1
   cases e
   refine Zg.tidy ⟨Tryz.f25,Tryz.func25,by kernel_rfl,by decide⟩ fun tidy=>?_
   have l1:=tidy _ _ heq
   refine Zg.goes fits Hh (by kernel_rfl) (by kernel_rfl) (by kernel_rfl) (show Tryz.f25.body=some _ from rfl) rfl ?_
   repeat (first|apply Goes.seq|apply Goes.block|apply Goes.loop|apply Goes.skip|apply Goes.exit|apply Goes.ret|((first|apply Goes.Zo|apply Goes.ops2 fits Hh Zb); · simp (maxSteps:=9^6) +decide (disch:=first|omega|(simp only[lens]<;>omega)|decide) only [go_sem,Zd,Za,simprocAttr,heq,read1,Z4]<;>rfl))
   simp (maxSteps:=9^6) +decide (disch:=first|omega|(simp only[lens]<;>omega)|decide) only [go_sem,Zd,Za,simprocAttr]<;>rfl
  ·cases e
 ·cases e
end
end Go.Proofs.YtdkcjalmhdofcaaGreatDoor
set_option maxRecDepth 100000
set_option maxHeartbeats 4000000
namespace Go.Proofs.YtdkcjalmhdofcaaGreatDoor
open Go.Ev
theorem rs58:Tryz.f58.results.toList=[.tmp 2]:=rfl
theorem rs15:Tryz.f15.results.toList=[.tmp 2,.tmp 3]:=rfl
attribute [go_sem] rs58 rs15
def imB (L:List (List C)):Bool:=L.all fun x=>Nat.beq x.length 256&&x.all C.flat
theorem Zyq {L:List (List C)} (h:imB L=true) {x:List C} (hx:x∈L):x.length=256∧x.all C.flat=true:=by
 have:=List.all_eq_true.1 h x hx
 rw[Bool.and_eq_true] at this
 exact⟨Nat.eq_of_beq_eq_true this.1,this.2⟩
theorem Zwk {L:List (List C)} (h:imB L=true):L.all (fun l=>l.all C.flat)=true:=List.all_eq_true.2 fun x hx=>(Zyq h hx).2
noncomputable def Zec:Kn1:=fun args h=>match args with
 | [.c (.slice n 0 len z)]=>match h.get n with
  | some (.row s L _)=>Yt (Nat.beq s 256&&Nat.beq z 256&&Nat.beq L.length len&&Nat.ble 1 len&&Nat.ble len 2048&&imB L) (some (.w (.c (.slice h.next 0 len 256)),h.new (.row 256 L false)))
  | _=>none
 | _=>none
noncomputable def Zoj:Kn1:=fun args h=>match args with
 | [.c (.slice n 0 len z)]=>match h.get n with
  | some (.row s L _)=>Yt (Nat.beq s 256&&Nat.beq z 256&&Nat.beq L.length len&&Nat.ble 1 len&&Nat.ble len 2048&&imB L) (some (.tup [.c (.ptr (h.next+1+1) 0),.c (.int .i64 0)],((h.new (.row 256 L false)).new (.row 256 L false)).new (.row 6 [dkL ⟨h.next,h.next+1,len,.snil,0,0⟩] false)))
  | _=>none
 | _=>none
attribute [go_sem] Zec Zoj
section
variable (Hh:Hearts K Tryz.prog)
include Hh
theorem Zky {args:List W} {h h':Go.Ev.H} {v:V} (e:Zec args h=some (v,h')):Zg K Tryz.prog 58 args h v h':=by
 unfold Zec at e
 split at e
 ·rename_i n len z
  split at e
  ·rename_i s L ro heq
   obtain⟨q,e⟩:=Zv.1 e
   cases e
   simp only[Bool.and_eq_true] at q
   obtain⟨⟨⟨⟨⟨q1,q2⟩,q3⟩,q4⟩,q5⟩,q6⟩:=q
   obtain rfl:=Nat.eq_of_beq_eq_true q1
   obtain rfl:=Nat.eq_of_beq_eq_true q2
   have q3:=Nat.eq_of_beq_eq_true q3
   have q4:=Nat.le_of_ble_eq_true q4
   have q5:=Nat.le_of_ble_eq_true q5
   have rm:Df 256 L 0 256 len=some L:=by rw[←q3]; exact Rk 256 L
   refine Zg.tidy ⟨Tryz.f58,Tryz.func58,by kernel_rfl,by decide⟩ fun tidy=>?_
   have l1:=tidy _ _ heq
   obtain⟨v,h',cc,n',rfl,n1,n2,n3,hk⟩:∃ v h',Zg K Tryz.prog 58 [.c (.slice n 0 len 256)] h v h'∧∃ n',v=.w (.c (.slice n' 0 len 256))∧h.next≤n'∧n'<h'.next∧h'.get n'=some (.row 256 L false)∧∀ m,m<h.next→h'.get m=h.get m:=by
    rcases L with _|⟨x0,L⟩
    ·simp only[List.length_nil] at q3; omega
    ·
     refine Zg.Yb fits Hh (by kernel_rfl) (by kernel_rfl) (by kernel_rfl) (show Tryz.f58.body=some _ from rfl) rfl ?_
     repeat (first|apply Goes.seq|apply Goes.block|apply Goes.loop|apply Goes.skip|apply Goes.exit|apply Goes.ret|((first|apply Goes.Zo|apply Goes.ops2 fits Hh Zb); · simp (maxSteps:=9^6) +decide (disch:=first|omega|(simp only[lens]<;>omega)|decide) only [go_sem,Zd,Za,simprocAttr,heq,rm,q3,List.length_append,Nat.zero_add,Zn,Jj,Y2,Ud,Te,Le,Tn,Xr,Yy,Fg,Jp,List.replicate_succ,List.replicate_zero,Nat.zero_mul]<;>rfl))
     exact⟨_,_,(by simp (maxSteps:=9^6) +decide (disch:=first|omega|(simp only[lens]<;>omega)|decide) only [go_sem,Zd,Za,simprocAttr]<;>rfl),_,rfl,(by first|omega|(simp only[H.Zc,H.Zi]<;>omega)),(by first|omega|(simp only[H.Zc,H.Zi]<;>omega)),(by rw[Ju (by rw[H.Zi,H.Zc]; omega)]),fun m hm=>by (first|(simp (discharger:=omega) only [H.get_put,H.Zf,H.Zk,H.Zc,H.Zh,H.Zi,if_neg]; done)|(simp only[H.get_put,H.Zf,H.Zk,H.Zc,H.Zh,H.Zi]; (repeat' split)<;>first|rfl|(exfalso; omega)|omega))⟩
   exact Zg.row1 cc n1 n3 (Zwk q6) n2 hk
  ·cases e
 ·cases e
theorem Zrd {args:List W} {h h':Go.Ev.H} {v:V} (e:Zoj args h=some (v,h')):Zg K Tryz.prog 15 args h v h':=by
 unfold Zoj at e
 split at e
 ·rename_i n len z
  split at e
  ·rename_i s L ro heq
   obtain⟨q,e⟩:=Zv.1 e
   cases e
   simp only[Bool.and_eq_true] at q
   obtain⟨⟨⟨⟨⟨q1,q2⟩,q3⟩,q4⟩,q5⟩,q6⟩:=q
   obtain rfl:=Nat.eq_of_beq_eq_true q1
   obtain rfl:=Nat.eq_of_beq_eq_true q2
   have q3:=Nat.eq_of_beq_eq_true q3
   have q4:=Nat.le_of_ble_eq_true q4
   have q5:=Nat.le_of_ble_eq_true q5
   refine Zg.tidy ⟨Tryz.f15,Tryz.func15,by kernel_rfl,by decide⟩ fun tidy=>?_
   have l1:=tidy _ _ heq
   refine Zg.goes fits Hh (by kernel_rfl) (by kernel_rfl) (by kernel_rfl) (show Tryz.f15.body=some _ from rfl) rfl ?_
   repeat (first|apply Goes.seq|apply Goes.block|apply Goes.loop|apply Goes.skip|apply Goes.exit|apply Goes.ret|((first|apply Goes.Zo|apply Goes.ops2 fits Hh (Zj (Zj Zb (fun _ _ _ _=>Zwg Hh)) (fun _ _ _ _=>Zky Hh))); · simp (maxSteps:=9^6) +decide (disch:=first|omega|(simp only[lens]<;>omega)|decide) only [go_sem,Zd,Za,simprocAttr,heq,q3,q6,Zn,Yg,Z6]<;>rfl))
   simp (maxSteps:=9^6) +decide (disch:=first|omega|(simp only[lens]<;>omega)|decide) only [go_sem,Zd,Za,simprocAttr]<;>rfl
  ·cases e
 ·cases e
end
end Go.Proofs.YtdkcjalmhdofcaaGreatDoor
set_option maxRecDepth 100000
set_option maxHeartbeats 4000000
namespace Go.Proofs.YtdkcjalmhdofcaaGreatDoor
open Go.Ev
section
variable (Hh:Hearts K Tryz.prog)
include Hh
set_option maxHeartbeats 4000000 in
theorem Zu7 {args:List W} {h h':Go.Ev.H} {v:V} (e:Zve args h=some (v,h')):Zg K Tryz.prog 17 args h v h':=by
 unfold Zve at e
 split at e
 ·rename_i d a0 b0 c0 e0 md q
  obtain⟨a,ha,e⟩:=Zq e
  obtain⟨b,hb,e⟩:=Zq e
  obtain⟨c,hc,e⟩:=Zq e
  obtain⟨j,hj,e⟩:=Zq e
  obtain⟨D,hd,e⟩:=Zq e
  obtain⟨hd,n0,n1⟩:=Ur hd
  obtain⟨f,e⟩:=Zv.1 e
  simp only[Bool.and_eq_true,decide_eq_true_eq] at f
  obtain⟨⟨⟨⟨⟨fb,nn⟩,m1⟩,m3⟩,q1⟩,q2⟩:=f
  have nn:=Nat.le_of_ble_eq_true nn
  have F:=Yc fb
  obtain⟨g1,g2,g3,g4,g5,g6,g7,g8,g9,g10,g11⟩:=F
  cases e
  rw[Z8 ha,Z8 hb,Z8 hc,Z8 hj]
  refine Zg.tidy ⟨Tryz.f17,Tryz.func17,by kernel_rfl,by decide⟩ fun tidy=>?_
  have l1:=tidy _ _ hd
  have h3:md=1∨md=2∨md=3:=by omega
  rcases h3 with rfl|rfl|rfl
  ·
   refine Zg.goes fits Hh (by kernel_rfl) (by kernel_rfl) (by kernel_rfl) (show Tryz.f17.body=some _ from rfl) rfl ?_
   repeat (first|apply Goes.seq|apply Goes.block|apply Goes.loop|apply Goes.skip|apply Goes.exit|apply Goes.ret|((first|apply Goes.Zo|apply Goes.ops2 fits Hh (Zj (Zj (Zj (Zj (Zj (Zj (Zj (Zj Zb (fun _ _ _ _=>Oz Hh)) (fun _ _ _ _=>U7 Hh)) (fun _ _ _ _=>Bw Hh)) (fun _ _ _ _=>Nv Hh)) (fun _ _ _ _=>Na Hh)) (fun _ _ _ _=>Nz Hh)) (fun _ _ _ _=>Nk Hh)) (fun _ _ _ _=>Bo Hh))); · simp (maxSteps:=9^6) +decide (disch:=first|omega|(simp only[lens]<;>omega)|decide) only [go_sem,Zd,Za,simprocAttr,hd,fb,Z6,read1,Z4]<;>rfl)|(apply Goes.drawn2 fits Hh (Zj (Zj (Zj (Zj (Zj (Zj (Zj (Zj Zb (fun _ _ _ _=>Oz Hh)) (fun _ _ _ _=>U7 Hh)) (fun _ _ _ _=>Bw Hh)) (fun _ _ _ _=>Nv Hh)) (fun _ _ _ _=>Na Hh)) (fun _ _ _ _=>Nz Hh)) (fun _ _ _ _=>Nk Hh)) (fun _ _ _ _=>Bo Hh)) (by kernel_rfl); · simp (maxSteps:=9^6) +decide (disch:=first|omega|(simp only[lens]<;>omega)|decide) only [go_sem,Zd,Za,simprocAttr,drG,hd,fb,Z6,read1,Z4]<;>rfl))
   simp (maxSteps:=9^6) +decide (disch:=first|omega|(simp only[lens]<;>omega)|decide) only [go_sem,Zd,Za,simprocAttr,Sk,Yo,gdL]<;>rfl
  ·
   refine Zg.goes fits Hh (by kernel_rfl) (by kernel_rfl) (by kernel_rfl) (show Tryz.f17.body=some _ from rfl) rfl ?_
   repeat (first|apply Goes.seq|apply Goes.block|apply Goes.loop|apply Goes.skip|apply Goes.exit|apply Goes.ret|((first|apply Goes.Zo|apply Goes.ops2 fits Hh (Zj (Zj (Zj (Zj (Zj (Zj (Zj (Zj Zb (fun _ _ _ _=>Oz Hh)) (fun _ _ _ _=>U7 Hh)) (fun _ _ _ _=>Bw Hh)) (fun _ _ _ _=>Nv Hh)) (fun _ _ _ _=>Na Hh)) (fun _ _ _ _=>Nz Hh)) (fun _ _ _ _=>Nk Hh)) (fun _ _ _ _=>Bo Hh))); · simp (maxSteps:=9^6) +decide (disch:=first|omega|(simp only[lens]<;>omega)|decide) only [go_sem,Zd,Za,simprocAttr,hd,fb,Z6,read1,Z4]<;>rfl)|(apply Goes.drawn2 fits Hh (Zj (Zj (Zj (Zj (Zj (Zj (Zj (Zj Zb (fun _ _ _ _=>Oz Hh)) (fun _ _ _ _=>U7 Hh)) (fun _ _ _ _=>Bw Hh)) (fun _ _ _ _=>Nv Hh)) (fun _ _ _ _=>Na Hh)) (fun _ _ _ _=>Nz Hh)) (fun _ _ _ _=>Nk Hh)) (fun _ _ _ _=>Bo Hh)) (by kernel_rfl); · simp (maxSteps:=9^6) +decide (disch:=first|omega|(simp only[lens]<;>omega)|decide) only [go_sem,Zd,Za,simprocAttr,drG,hd,fb,Z6,read1,Z4]<;>rfl))
   simp (maxSteps:=9^6) +decide (disch:=first|omega|(simp only[lens]<;>omega)|decide) only [go_sem,Zd,Za,simprocAttr,Sk,Yo,gdL]<;>rfl
  ·
   refine Zg.goes fits Hh (by kernel_rfl) (by kernel_rfl) (by kernel_rfl) (show Tryz.f17.body=some _ from rfl) rfl ?_
   repeat (first|apply Goes.seq|apply Goes.block|apply Goes.loop|apply Goes.skip|apply Goes.exit|apply Goes.ret|((first|apply Goes.Zo|apply Goes.ops2 fits Hh (Zj (Zj (Zj (Zj (Zj (Zj (Zj (Zj Zb (fun _ _ _ _=>Oz Hh)) (fun _ _ _ _=>U7 Hh)) (fun _ _ _ _=>Bw Hh)) (fun _ _ _ _=>Nv Hh)) (fun _ _ _ _=>Na Hh)) (fun _ _ _ _=>Nz Hh)) (fun _ _ _ _=>Nk Hh)) (fun _ _ _ _=>Bo Hh))); · simp (maxSteps:=9^6) +decide (disch:=first|omega|(simp only[lens]<;>omega)|decide) only [go_sem,Zd,Za,simprocAttr,hd,fb,Z6,read1,Z4]<;>rfl)|(apply Goes.drawn2 fits Hh (Zj (Zj (Zj (Zj (Zj (Zj (Zj (Zj Zb (fun _ _ _ _=>Oz Hh)) (fun _ _ _ _=>U7 Hh)) (fun _ _ _ _=>Bw Hh)) (fun _ _ _ _=>Nv Hh)) (fun _ _ _ _=>Na Hh)) (fun _ _ _ _=>Nz Hh)) (fun _ _ _ _=>Nk Hh)) (fun _ _ _ _=>Bo Hh)) (by kernel_rfl); · simp (maxSteps:=9^6) +decide (disch:=first|omega|(simp only[lens]<;>omega)|decide) only [go_sem,Zd,Za,simprocAttr,drG,hd,fb,Z6,read1,Z4]<;>rfl))
   simp (maxSteps:=9^6) +decide (disch:=first|omega|(simp only[lens]<;>omega)|decide) only [go_sem,Zd,Za,simprocAttr,Sk,Yo,gdL]<;>rfl
 ·cases e
end
attribute [go_sem] Zve
end Go.Proofs.YtdkcjalmhdofcaaGreatDoor
