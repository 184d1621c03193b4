/- quernlaw23.NewWorld of the small file system, at any mode. -/
import Derived.Test.YtdkcjalmhdofcaaGreatDoorSpecX
import Derived.Test.YtdkcjalmhdofcaaGreatDoorNew2
import Derived.Test.YtdkcjalmhdofcaaGreatDoorHba
import Derived.Test.YtdkcjalmhdofcaaGreatDoorEvC
set_option linter.unusedSimpArgs false
set_option linter.unusedVariables false
set_option linter.unusedSectionVars false
set_option maxRecDepth 100000
set_option maxHeartbeats 4000000
namespace Go.Proofs.YtdkcjalmhdofcaaGreatDoor
open Go.Ev
theorem ty25:K.types.get 25=some ti25:=by kernel_rfl
theorem sz25:ti25.size=1:=by rfl
theorem ag25:ti25.agg=false:=by rfl
theorem de25:ti25.desc=(.slice 58):=by rfl
theorem ze25:ti25.zero=(.c (.snil)):=by rfl
theorem by25:ti25.bytes=24:=by rfl
theorem el25:Yz K 25=some ti58:=by kernel_rfl
theorem ty27:K.types.get 27=some ti27:=by kernel_rfl
theorem sz27:ti27.size=6:=by rfl
theorem ag27:ti27.agg=true:=by rfl
theorem fo27_0:Zp K 27 0=some (0,ti24):=by kernel_rfl
theorem fo27_1:Zp K 27 1=some (4,ti5):=by kernel_rfl
theorem fo27_2:Zp K 27 2=some (5,ti25):=by kernel_rfl
theorem bu27 (ps:List (Nat × W)):Z9 K 27 (some ps)=gW (Z5 K 27 ps ti27.zero.cells):=by kernel_rfl
theorem ze27:ti27.zero=(.g ([.int .i64 0,.int .i64 0,.int .i64 0,.int .i64 0,.int .u8 0,.snil])):=by rfl
theorem by27:ti27.bytes=64:=by rfl
theorem ty30:K.types.get 30=some ti30:=by kernel_rfl
theorem sz30:ti30.size=1:=by rfl
theorem ag30:ti30.agg=false:=by rfl
theorem de30:ti30.desc=(.pointer 172):=by rfl
theorem ze30:ti30.zero=(.c (.pnil)):=by rfl
theorem by30:ti30.bytes=8:=by rfl
theorem ty32:K.types.get 32=some ti32:=by kernel_rfl
theorem sz32:ti32.size=1:=by rfl
theorem ag32:ti32.agg=false:=by rfl
theorem de32:ti32.desc=(.pointer 141):=by rfl
theorem ze32:ti32.zero=(.c (.pnil)):=by rfl
theorem by32:ti32.bytes=8:=by rfl
theorem ty34:K.types.get 34=some ti34:=by kernel_rfl
theorem sz34:ti34.size=4:=by rfl
theorem ag34:ti34.agg=true:=by rfl
theorem fo34_0:Zp K 34 0=some (0,ti29):=by kernel_rfl
theorem fo34_1:Zp K 34 1=some (1,ti30):=by kernel_rfl
theorem fo34_2:Zp K 34 2=some (2,ti31):=by kernel_rfl
theorem fo34_3:Zp K 34 3=some (3,ti32):=by kernel_rfl
theorem bu34 (ps:List (Nat × W)):Z9 K 34 (some ps)=gW (Z5 K 34 ps ti34.zero.cells):=by kernel_rfl
theorem ze34:ti34.zero=(.g ([.pnil,.pnil,.pnil,.pnil])):=by rfl
theorem by34:ti34.bytes=32:=by rfl
theorem ty39:K.types.get 39=some ti39:=by kernel_rfl
theorem sz39:ti39.size=1:=by rfl
theorem ag39:ti39.agg=false:=by rfl
theorem de39:ti39.desc=(.int .u64):=by rfl
theorem ze39:ti39.zero=(.c (.int .u64 0)):=by rfl
theorem by39:ti39.bytes=8:=by rfl
theorem ke39 (k:IntKind) (n:Int):Bn K 20 39 (.c (.int k n))=true:=by kernel_rfl
theorem ty58:K.types.get 58=some ti58:=by kernel_rfl
theorem sz58:ti58.size=3:=by rfl
theorem ag58:ti58.agg=true:=by rfl
theorem fo58_0:Zp K 58 0=some (0,ti3):=by kernel_rfl
theorem fo58_1:Zp K 58 1=some (1,ti3):=by kernel_rfl
theorem fo58_2:Zp K 58 2=some (2,ti5):=by kernel_rfl
theorem bu58 (ps:List (Nat × W)):Z9 K 58 (some ps)=gW (Z5 K 58 ps ti58.zero.cells):=by kernel_rfl
theorem ze58:ti58.zero=(.g ([.int .i64 0,.int .i64 0,.int .u8 0])):=by rfl
theorem by58:ti58.bytes=24:=by rfl
theorem ty139:K.types.get 139=some ti139:=by kernel_rfl
theorem sz139:ti139.size=1:=by rfl
theorem ag139:ti139.agg=false:=by rfl
theorem de139:ti139.desc=(.slice 394):=by rfl
theorem ze139:ti139.zero=(.c (.snil)):=by rfl
theorem by139:ti139.bytes=24:=by rfl
theorem el139:Yz K 139=some ti394:=by kernel_rfl
theorem ty141:K.types.get 141=some ti141:=by kernel_rfl
theorem sz141:ti141.size=4:=by rfl
theorem ag141:ti141.agg=true:=by rfl
theorem fo141_0:Zp K 141 0=some (0,ti54):=by kernel_rfl
theorem fo141_1:Zp K 141 1=some (1,ti139):=by kernel_rfl
theorem fo141_2:Zp K 141 2=some (2,ti3):=by kernel_rfl
theorem fo141_3:Zp K 141 3=some (3,ti3):=by kernel_rfl
theorem bu141 (ps:List (Nat × W)):Z9 K 141 (some ps)=gW (Z5 K 141 ps ti141.zero.cells):=by kernel_rfl
theorem ze141:ti141.zero=(.g ([.snil,.snil,.int .i64 0,.int .i64 0])):=by rfl
theorem by141:ti141.bytes=64:=by rfl
theorem ty150:K.types.get 150=some ti150:=by kernel_rfl
theorem sz150:ti150.size=1:=by rfl
theorem ag150:ti150.agg=false:=by rfl
theorem de150:ti150.desc=(.pointer 217):=by rfl
theorem ze150:ti150.zero=(.c (.pnil)):=by rfl
theorem by150:ti150.bytes=8:=by rfl
theorem ty153:K.types.get 153=some ti153:=by kernel_rfl
theorem sz153:ti153.size=1:=by rfl
theorem ag153:ti153.agg=false:=by rfl
theorem de153:ti153.desc=(.pointer 220):=by rfl
theorem ze153:ti153.zero=(.c (.pnil)):=by rfl
theorem by153:ti153.bytes=8:=by rfl
theorem ty156:K.types.get 156=some ti156:=by kernel_rfl
theorem sz156:ti156.size=1:=by rfl
theorem ag156:ti156.agg=false:=by rfl
theorem de156:ti156.desc=(.pointer 159):=by rfl
theorem ze156:ti156.zero=(.c (.pnil)):=by rfl
theorem by156:ti156.bytes=8:=by rfl
theorem ty157:K.types.get 157=some ti157:=by kernel_rfl
theorem sz157:ti157.size=1:=by rfl
theorem ag157:ti157.agg=false:=by rfl
theorem de157:ti157.desc=(.slice 396):=by rfl
theorem ze157:ti157.zero=(.c (.snil)):=by rfl
theorem by157:ti157.bytes=24:=by rfl
theorem el157:Yz K 157=some ti396:=by kernel_rfl
theorem ty159:K.types.get 159=some ti159:=by kernel_rfl
theorem sz159:ti159.size=3:=by rfl
theorem ag159:ti159.agg=true:=by rfl
theorem fo159_0:Zp K 159 0=some (0,ti32):=by kernel_rfl
theorem fo159_1:Zp K 159 1=some (1,ti157):=by kernel_rfl
theorem fo159_2:Zp K 159 2=some (2,ti22):=by kernel_rfl
theorem bu159 (ps:List (Nat × W)):Z9 K 159 (some ps)=gW (Z5 K 159 ps ti159.zero.cells):=by kernel_rfl
theorem ze159:ti159.zero=(.g ([.pnil,.snil,.snil])):=by rfl
theorem by159:ti159.bytes=56:=by rfl
theorem ty160:K.types.get 160=some ti160:=by kernel_rfl
theorem sz160:ti160.size=1:=by rfl
theorem ag160:ti160.agg=false:=by rfl
theorem de160:ti160.desc=(.pointer 165):=by rfl
theorem ze160:ti160.zero=(.c (.pnil)):=by rfl
theorem by160:ti160.bytes=8:=by rfl
theorem ty163:K.types.get 163=some ti163:=by kernel_rfl
theorem sz163:ti163.size=4:=by rfl
theorem ag163:ti163.agg=true:=by rfl
theorem fo163_0:Zp K 163 0=some (0,ti161):=by kernel_rfl
theorem fo163_1:Zp K 163 1=some (1,ti22):=by kernel_rfl
theorem fo163_2:Zp K 163 2=some (2,ti22):=by kernel_rfl
theorem fo163_3:Zp K 163 3=some (3,ti22):=by kernel_rfl
theorem bu163 (ps:List (Nat × W)):Z9 K 163 (some ps)=gW (Z5 K 163 ps ti163.zero.cells):=by kernel_rfl
theorem ze163:ti163.zero=(.g ([.snil,.snil,.snil,.snil])):=by rfl
theorem by163:ti163.bytes=96:=by rfl
theorem ty165:K.types.get 165=some ti165:=by kernel_rfl
theorem sz165:ti165.size=13:=by rfl
theorem ag165:ti165.agg=true:=by rfl
theorem fo165_0:Zp K 165 0=some (0,ti44):=by kernel_rfl
theorem fo165_1:Zp K 165 1=some (1,ti163):=by kernel_rfl
theorem fo165_2:Zp K 165 2=some (5,ti163):=by kernel_rfl
theorem fo165_3:Zp K 165 3=some (9,ti4):=by kernel_rfl
theorem fo165_4:Zp K 165 4=some (10,ti3):=by kernel_rfl
theorem fo165_5:Zp K 165 5=some (11,ti3):=by kernel_rfl
theorem fo165_6:Zp K 165 6=some (12,ti22):=by kernel_rfl
theorem bu165 (ps:List (Nat × W)):Z9 K 165 (some ps)=gW (Z5 K 165 ps ti165.zero.cells):=by kernel_rfl
theorem ze165:ti165.zero=(.g ([.int .u32 0,.snil,.snil,.snil,.snil,.snil,.snil,.snil,.snil,.bool false,.int .i64 0,.int .i64 0,.snil])):=by rfl
theorem by165:ti165.bytes=248:=by rfl
theorem ty168:K.types.get 168=some ti168:=by kernel_rfl
theorem sz168:ti168.size=1:=by rfl
theorem ag168:ti168.agg=false:=by rfl
theorem de168:ti168.desc=(.slice 397):=by rfl
theorem ze168:ti168.zero=(.c (.snil)):=by rfl
theorem by168:ti168.bytes=24:=by rfl
theorem el168:Yz K 168=some ti397:=by kernel_rfl
theorem ty170:K.types.get 170=some ti170:=by kernel_rfl
theorem sz170:ti170.size=8:=by rfl
theorem ag170:ti170.agg=true:=by rfl
theorem fo170_0:Zp K 170 0=some (0,ti4):=by kernel_rfl
theorem fo170_1:Zp K 170 1=some (1,ti167):=by kernel_rfl
theorem fo170_2:Zp K 170 2=some (4,ti22):=by kernel_rfl
theorem fo170_3:Zp K 170 3=some (5,ti22):=by kernel_rfl
theorem fo170_4:Zp K 170 4=some (6,ti22):=by kernel_rfl
theorem fo170_5:Zp K 170 5=some (7,ti168):=by kernel_rfl
theorem bu170 (ps:List (Nat × W)):Z9 K 170 (some ps)=gW (Z5 K 170 ps ti170.zero.cells):=by kernel_rfl
theorem ze170:ti170.zero=(.g ([.bool false,.int .u32 0,.snil,.snil,.snil,.snil,.snil,.snil])):=by rfl
theorem by170:ti170.bytes=160:=by rfl
theorem ty172:K.types.get 172=some ti172:=by kernel_rfl
theorem sz172:ti172.size=20:=by rfl
theorem ag172:ti172.agg=true:=by rfl
theorem fo172_0:Zp K 172 0=some (0,ti24):=by kernel_rfl
theorem fo172_1:Zp K 172 1=some (4,ti5):=by kernel_rfl
theorem fo172_2:Zp K 172 2=some (5,ti156):=by kernel_rfl
theorem fo172_3:Zp K 172 3=some (6,ti150):=by kernel_rfl
theorem fo172_4:Zp K 172 4=some (7,ti153):=by kernel_rfl
theorem fo172_5:Zp K 172 5=some (8,ti160):=by kernel_rfl
theorem fo172_6:Zp K 172 6=some (9,ti170):=by kernel_rfl
theorem fo172_7:Zp K 172 7=some (17,ti4):=by kernel_rfl
theorem fo172_8:Zp K 172 8=some (18,ti161):=by kernel_rfl
theorem fo172_9:Zp K 172 9=some (19,ti22):=by kernel_rfl
theorem bu172 (ps:List (Nat × W)):Z9 K 172 (some ps)=gW (Z5 K 172 ps ti172.zero.cells):=by kernel_rfl
theorem ze172:ti172.zero=(.g ([.int .i64 0,.int .i64 0,.int .i64 0,.int .i64 0,.int .u8 0,.pnil,.pnil,.pnil,.pnil,.bool false,.int .u32 0,.snil,.snil,.snil,.snil,.snil,.snil,.bool false,.snil,.snil])):=by rfl
theorem by172:ti172.bytes=288:=by rfl
theorem ty217:K.types.get 217=some ti217:=by kernel_rfl
theorem sz217:ti217.size=3:=by rfl
theorem ag217:ti217.agg=true:=by rfl
theorem fo217_0:Zp K 217 0=some (0,ti3):=by kernel_rfl
theorem fo217_1:Zp K 217 1=some (1,ti22):=by kernel_rfl
theorem fo217_2:Zp K 217 2=some (2,ti3):=by kernel_rfl
theorem bu217 (ps:List (Nat × W)):Z9 K 217 (some ps)=gW (Z5 K 217 ps ti217.zero.cells):=by kernel_rfl
theorem ze217:ti217.zero=(.g ([.int .i64 0,.snil,.int .i64 0])):=by rfl
theorem by217:ti217.bytes=40:=by rfl
theorem ty218:K.types.get 218=some ti218:=by kernel_rfl
theorem sz218:ti218.size=1:=by rfl
theorem ag218:ti218.agg=false:=by rfl
theorem de218:ti218.desc=(.slice 400):=by rfl
theorem ze218:ti218.zero=(.c (.snil)):=by rfl
theorem by218:ti218.bytes=24:=by rfl
theorem el218:Yz K 218=some ti400:=by kernel_rfl
theorem ty220:K.types.get 220=some ti220:=by kernel_rfl
theorem sz220:ti220.size=7:=by rfl
theorem ag220:ti220.agg=true:=by rfl
theorem fo220_0:Zp K 220 0=some (0,ti24):=by kernel_rfl
theorem fo220_1:Zp K 220 1=some (4,ti218):=by kernel_rfl
theorem fo220_2:Zp K 220 2=some (5,ti44):=by kernel_rfl
theorem fo220_3:Zp K 220 3=some (6,ti4):=by kernel_rfl
theorem bu220 (ps:List (Nat × W)):Z9 K 220 (some ps)=gW (Z5 K 220 ps ti220.zero.cells):=by kernel_rfl
theorem ze220:ti220.zero=(.g ([.int .i64 0,.int .i64 0,.int .i64 0,.int .i64 0,.snil,.int .u32 0,.bool false])):=by rfl
theorem by220:ti220.bytes=64:=by rfl
theorem ty394:K.types.get 394=some ti394:=by kernel_rfl
theorem sz394:ti394.size=257:=by rfl
theorem ag394:ti394.agg=true:=by rfl
theorem fo394_0:Zp K 394 0=some (0,ti3):=by kernel_rfl
theorem fo394_1:Zp K 394 1=some (1,ti60):=by kernel_rfl
theorem bu394 (ps:List (Nat × W)):Z9 K 394 (some ps)=gW (Z5 K 394 ps ti394.zero.cells):=by kernel_rfl
theorem ze394:ti394.zero=(.g (List.replicate 1 (.int .i64 0)++List.replicate 256 (.int .u8 0))):=by rfl
theorem by394:ti394.bytes=264:=by rfl
theorem ty396:K.types.get 396=some ti396:=by kernel_rfl
theorem sz396:ti396.size=258:=by rfl
theorem ag396:ti396.agg=true:=by rfl
theorem fo396_0:Zp K 396 0=some (0,ti3):=by kernel_rfl
theorem fo396_1:Zp K 396 1=some (1,ti60):=by kernel_rfl
theorem fo396_2:Zp K 396 2=some (257,ti4):=by kernel_rfl
theorem bu396 (ps:List (Nat × W)):Z9 K 396 (some ps)=gW (Z5 K 396 ps ti396.zero.cells):=by kernel_rfl
theorem ze396:ti396.zero=(.g (List.replicate 1 (.int .i64 0)++List.replicate 256 (.int .u8 0)++List.replicate 1 (.bool false))):=by rfl
theorem by396:ti396.bytes=272:=by rfl
theorem ty397:K.types.get 397=some ti397:=by kernel_rfl
theorem sz397:ti397.size=258:=by rfl
theorem ag397:ti397.agg=true:=by rfl
theorem fo397_0:Zp K 397 0=some (0,ti5):=by kernel_rfl
theorem fo397_1:Zp K 397 1=some (1,ti3):=by kernel_rfl
theorem fo397_2:Zp K 397 2=some (2,ti60):=by kernel_rfl
theorem bu397 (ps:List (Nat × W)):Z9 K 397 (some ps)=gW (Z5 K 397 ps ti397.zero.cells):=by kernel_rfl
theorem ze397:ti397.zero=(.g (List.replicate 1 (.int .u8 0)++List.replicate 1 (.int .i64 0)++List.replicate 256 (.int .u8 0))):=by rfl
theorem by397:ti397.bytes=272:=by rfl
theorem ty400:K.types.get 400=some ti400:=by kernel_rfl
theorem sz400:ti400.size=6:=by rfl
theorem ag400:ti400.agg=true:=by rfl
theorem fo400_0:Zp K 400 0=some (0,ti167):=by kernel_rfl
theorem fo400_1:Zp K 400 1=some (3,ti3):=by kernel_rfl
theorem fo400_2:Zp K 400 2=some (4,ti3):=by kernel_rfl
theorem fo400_3:Zp K 400 3=some (5,ti161):=by kernel_rfl
theorem bu400 (ps:List (Nat × W)):Z9 K 400 (some ps)=gW (Z5 K 400 ps ti400.zero.cells):=by kernel_rfl
theorem ze400:ti400.zero=(.g ([.int .u32 0,.snil,.snil,.int .i64 0,.int .i64 0,.snil])):=by rfl
theorem by400:ti400.bytes=96:=by rfl
attribute [go_sem] ty25 sz25 ag25 de25 ze25 by25 el25 ty27 sz27 ag27 fo27_0 fo27_1 fo27_2 bu27 ze27 by27 ty30 sz30 ag30 de30 ze30 by30 ty32 sz32 ag32 de32 ze32 by32 ty34 sz34 ag34 fo34_0 fo34_1 fo34_2 fo34_3 bu34 ze34 by34 ty39 sz39 ag39 de39 ze39 by39 ke39 ty58 sz58 ag58 fo58_0 fo58_1 fo58_2 bu58 ze58 by58 ty139 sz139 ag139 de139 ze139 by139 el139 ty141 sz141 ag141 fo141_0 fo141_1 fo141_2 fo141_3 bu141 ze141 by141 ty150 sz150 ag150 de150 ze150 by150 ty153 sz153 ag153 de153 ze153 by153 ty156 sz156 ag156 de156 ze156 by156 ty157 sz157 ag157 de157 ze157 by157 el157 ty159 sz159 ag159 fo159_0 fo159_1 fo159_2 bu159 ze159 by159 ty160 sz160 ag160 de160 ze160 by160 ty163 sz163 ag163 fo163_0 fo163_1 fo163_2 fo163_3 bu163 ze163 by163 ty165 sz165 ag165 fo165_0 fo165_1 fo165_2 fo165_3 fo165_4 fo165_5 fo165_6 bu165 ze165 by165 ty168 sz168 ag168 de168 ze168 by168 el168 ty170 sz170 ag170 fo170_0 fo170_1 fo170_2 fo170_3 fo170_4 fo170_5 bu170 ze170 by170 ty172 sz172 ag172 fo172_0 fo172_1 fo172_2 fo172_3 fo172_4 fo172_5 fo172_6 fo172_7 fo172_8 fo172_9 bu172 ze172 by172 ty217 sz217 ag217 fo217_0 fo217_1 fo217_2 bu217 ze217 by217 ty218 sz218 ag218 de218 ze218 by218 el218 ty220 sz220 ag220 fo220_0 fo220_1 fo220_2 fo220_3 bu220 ze220 by220 ty394 sz394 ag394 fo394_0 fo394_1 bu394 ze394 by394 ty396 sz396 ag396 fo396_0 fo396_1 fo396_2 bu396 ze396 by396 ty397 sz397 ag397 fo397_0 fo397_1 fo397_2 bu397 ze397 by397 ty400 sz400 ag400 fo400_0 fo400_1 fo400_2 fo400_3 bu400 ze400 by400
noncomputable def q5 (p:List Nat):Code:=piece p (Jz Tryz.f5)
theorem rs5:Tryz.f5.results.toList=[.cell 2 34,.tmp 3]:=rfl
theorem rs16:Tryz.f16.results.toList=[.tmp 2,.tmp 3]:=rfl
theorem rs18:Tryz.f18.results.toList=[.tmp 8,.tmp 9]:=rfl
theorem rs67:Tryz.f67.results.toList=[.tmp 2,.tmp 3]:=rfl
theorem rs68:Tryz.f68.results.toList=[.tmp 2,.tmp 3]:=rfl
attribute [go_sem] rs5 rs16 rs18 rs67 rs68
section
variable (Hh:Hearts K Tryz.prog)
include Hh
theorem Z0f (h:Go.Ev.H):Zg K Tryz.prog 49 [.g [.int .i64 2,.int .i64 24,.int .i64 8,.int .i64 40]] h (.w (.c (.bool true))) h:=Zg.closed fits Hh Zh1 gl (n:=20000) (by kernel_rfl) rfl rfl h
theorem Zvd (h:Go.Ev.H):Zg K Tryz.prog 66 [.g [.int .i64 2,.int .i64 24,.int .i64 8,.int .i64 40]] h (.w (.c (.int .i64 90))) h:=Zg.closed fits Hh Zh1 gl (n:=20000) (by kernel_rfl) rfl rfl h
theorem Z2q {h:Go.Ev.H} {n:Nat} {L:List (List C)} (hn:h.get n=some (.row 256 L false)) (nl:n<h.next) (Ll:L.length=90) (lf:Yr K 54 (.c (.slice n 0 90 256))=true) :
  ∃ h' q m sz x,Zg K Tryz.prog 16 [.c (.slice n 0 90 256)] h (.tup [.c (.ptr q 0),.c (.int .i64 0)]) h'∧h.next≤q∧q<h'.next∧h'.get q=some (.row sz [x] false)∧read1 sz [x] 0=some (.slice m 0 90 256)∧∀ m,m<h.next→h'.get m=h.get m:=by
 have rm:Df 256 L 0 256 90=some L:=by rw[←Ll]; exact Rk 256 L
 obtain⟨v,h',cc,q,m,sz,x,rfl,q1,q2,q3,q4,hk⟩:∃ v h',Zg K Tryz.prog 16 [.c (.slice n 0 90 256)] h v h'∧∃ q m sz x,v=.tup [.c (.ptr q 0),.c (.int .i64 0)]∧h.next≤q∧q<h'.next∧h'.get q=some (.row sz [x] false)∧read1 sz [x] 0=some (.slice m 0 90 256)∧∀ m,m<h.next→h'.get m=h.get m:=by
  rcases L with _|⟨x0,L⟩
  ·simp at Ll
  ·
   refine Zg.Yb fits Hh (by kernel_rfl) (by kernel_rfl) (by kernel_rfl) (show Tryz.f16.body=some _ from rfl) rfl ?_
   iterate 10 (first|apply Goes.seq|apply Goes.skip|apply Goes.ret|((first|apply Goes.Zo|apply Goes.ops2 fits Hh Zb); · simp (maxSteps:=9^6) +decide (disch:=first|omega|(simp only[lens]<;>omega)|decide) only [go_sem,Zd,Za,simprocAttr,lf,hn,rm,Ll,List.length_append,Nat.zero_add,Zn,Yg,Z6,Jj,Y2,Ud,Te,Le,Tn,Xr,Yy,Fg,Jp,List.replicate_succ,List.replicate_zero,Nat.zero_mul]<;>rfl))
   refine⟨_,_,(by simp (maxSteps:=9^6) +decide (disch:=first|omega|(simp only[lens]<;>omega)|decide) only [go_sem,Zd,Za,simprocAttr]<;>rfl),_,_,_,_,rfl,?_,?_,by first|exact O3 .. | (rw[Ju (by simp only[H.Zc,H.Zi]<;>omega)]),rfl,fun m hm=>by (first|(simp (discharger:=omega) only [H.get_put,H.Zf,H.Zk,H.Zc,H.Zh,H.Zi,if_neg]; done)|(simp only[H.get_put,H.Zf,H.Zk,H.Zc,H.Zh,H.Zi]; (repeat' split)<;>first|rfl|(exfalso; omega)|omega))⟩
   ·first|omega|(simp only[H.Zc,H.Zi]<;>omega)
   ·first|omega|(simp only[H.Zc,H.Zi]<;>omega)
 exact⟨h',q,m,sz,x,cc,q1,q2,q3,q4,hk⟩
theorem Z2l (h:Go.Ev.H):∃ h' r,Zg K Tryz.prog 67 [.c (.int .i64 40)] h (.tup [.c (.ptr r 0),.c (.int .i64 0)]) h'∧h.next≤h'.next∧∀ m,m<h.next→h'.get m=h.get m:=by
 obtain⟨v,h',cc,r,rfl,n1,hk⟩:∃ v h',Zg K Tryz.prog 67 [.c (.int .i64 40)] h v h'∧∃ r,v=.tup [.c (.ptr r 0),.c (.int .i64 0)]∧h.next≤h'.next∧∀ m,m<h.next→h'.get m=h.get m:=by
  refine Zg.Yb fits Hh (by kernel_rfl) (by kernel_rfl) (by kernel_rfl) (show Tryz.f67.body=some _ from rfl) rfl ?_
  iterate 10 (first|apply Goes.seq|apply Goes.skip|apply Goes.ret|((first|apply Goes.Zo|apply Goes.ops2 fits Hh Zb); · simp (maxSteps:=9^6) +decide (disch:=first|omega|(simp only[lens]<;>omega)|decide) only [go_sem,Zd,Za,simprocAttr,Z6]<;>rfl))
  exact⟨_,_,(by simp (maxSteps:=9^6) +decide (disch:=first|omega|(simp only[lens]<;>omega)|decide) only [go_sem,Zd,Za,simprocAttr]<;>rfl),_,rfl,(by first|omega|(simp only[H.Zc,H.Zh]<;>omega)),fun m hm=>by (first|(simp (discharger:=omega) only [H.get_put,H.Zf,H.Zk,H.Zc,H.Zh,H.Zi,if_neg]; done)|(simp only[H.get_put,H.Zf,H.Zk,H.Zc,H.Zh,H.Zi]; (repeat' split)<;>first|rfl|(exfalso; omega)|omega))⟩
 exact⟨h',r,cc,n1,hk⟩
theorem Z26 (h:Go.Ev.H):∃ h' r,Zg K Tryz.prog 68 [.g [.int .i64 2,.int .i64 24,.int .i64 8,.int .i64 40]] h (.tup [.c (.ptr r 0),.c (.int .i64 0)]) h'∧h.next≤h'.next∧∀ m,m<h.next→h'.get m=h.get m:=by
 have cM:=fun h=>Z0f Hh h
 have rd4':Zd 4 [[.int .i64 2,.int .i64 24,.int .i64 8,.int .i64 40]] 0 4=some [.int .i64 2,.int .i64 24,.int .i64 8,.int .i64 40]:=rfl
 obtain⟨v,h',cc,r,rfl,n1,hk⟩:∃ v h',Zg K Tryz.prog 68 [.g [.int .i64 2,.int .i64 24,.int .i64 8,.int .i64 40]] h v h'∧∃ r,v=.tup [.c (.ptr r 0),.c (.int .i64 0)]∧h.next≤h'.next∧∀ m,m<h.next→h'.get m=h.get m:=by
  refine Zg.Yb fits Hh (by kernel_rfl) (by kernel_rfl) (by kernel_rfl) (show Tryz.f68.body=some _ from rfl) rfl ?_
  iterate 4 (first|apply Goes.seq|(apply Goes.ops2 fits Hh Zb; · simp (maxSteps:=9^6) +decide (disch:=first|omega|(simp only[lens]<;>omega)|decide) only [go_sem,Za,simprocAttr,rd4',Z6]<;>rfl))
  iterate 6 (first|apply Goes.seq|apply Goes.skip|apply Goes.ret|((first|apply Goes.Zo|apply Goes.ops2 fits Hh (Ue Zb cM)); · simp (maxSteps:=9^6) +decide (disch:=first|omega|(simp only[lens]<;>omega)|decide) only [go_sem,Za,simprocAttr,rd4',Z6]<;>rfl))
  exact⟨_,_,(by simp (maxSteps:=9^6) +decide (disch:=first|omega|(simp only[lens]<;>omega)|decide) only [go_sem,Za,simprocAttr]<;>rfl),_,rfl,(by first|omega|(simp only[H.Zc,H.Zh]<;>omega)),fun m hm=>by (first|(simp (discharger:=omega) only [H.get_put,H.Zf,H.Zk,H.Zc,H.Zh,H.Zi,if_neg]; done)|(simp only[H.get_put,H.Zf,H.Zk,H.Zc,H.Zh,H.Zi]; (repeat' split)<;>first|rfl|(exfalso; omega)|omega))⟩
 exact⟨h',r,cc,n1,hk⟩
theorem Z37 {h:Go.Ev.H} {q m sz:Nat} {x:List C} (hq:h.get q=some (.row sz [x] false)) (hx:read1 sz [x] 0=some (.slice m 0 90 256)) (ql:q<h.next) {md:Int} (m1:1≤md) (m3:md≤3) (lf:Yr K 54 (.c (.slice m 0 90 256))=true) :
  ∃ h' s,Zg K Tryz.prog 18 [.c (.ptr q 0),.g [.int .i64 2,.int .i64 24,.int .i64 8,.int .i64 40],.c (.int .u8 md),.c (.int .u32 1)] h (.tup [.c (.ptr s 0),.c (.int .i64 0)]) h'∧h.next≤h'.next∧∀ m,m<h.next→h'.get m=h.get m:=by
 have cM:=fun h=>Z0f Hh h
 have cB:=fun h=>Zvd Hh h
 have hx':x[0]? = some (.slice m 0 90 256):=by
  unfold read1 at hx
  rw[Nat.zero_div,Nat.zero_mod,List.getElem?_cons_zero] at hx
  exact hx
 have rd4':Zd 4 [[.int .i64 2,.int .i64 24,.int .i64 8,.int .i64 40]] 0 4=some [.int .i64 2,.int .i64 24,.int .i64 8,.int .i64 40]:=rfl
 obtain⟨v,h',cc,s,rfl,n1,hk⟩:∃ v h',Zg K Tryz.prog 18 [.c (.ptr q 0),.g [.int .i64 2,.int .i64 24,.int .i64 8,.int .i64 40],.c (.int .u8 md),.c (.int .u32 1)] h v h'∧∃ s,v=.tup [.c (.ptr s 0),.c (.int .i64 0)]∧h.next≤h'.next∧∀ m,m<h.next→h'.get m=h.get m:=by
  refine Zg.Yb fits Hh (by kernel_rfl) (by kernel_rfl) (by kernel_rfl) (show Tryz.f18.body=some _ from rfl) rfl ?_
  iterate 4 (first|apply Goes.seq|(apply Goes.ops2 fits Hh Zb; · simp (maxSteps:=9^6) +decide (disch:=first|omega|(simp only[lens]<;>omega)|decide) only [go_sem,Za,simprocAttr,rd4',hq,hx',lf,Nat.zero_div,Nat.zero_mod,Z6,Zn,Yg,read1]<;>rfl))
  iterate 5 (first|apply Goes.seq|apply Goes.skip|((first|apply Goes.Zo|apply Goes.ops2 fits Hh (Ue Zb cM)); · simp (maxSteps:=9^6) +decide (disch:=first|omega|(simp only[lens]<;>omega)|decide) only [go_sem,Za,simprocAttr,rd4',hq,hx',lf,Nat.zero_div,Nat.zero_mod,Z6,Zn,Yg,read1]<;>rfl))
  iterate 4 (first|apply Goes.seq|apply Goes.skip|(apply Goes.Zo; · simp (maxSteps:=9^6) +decide (disch:=first|omega|(simp only[lens]<;>omega)|decide) only [go_sem,Za,simprocAttr,rd4',hq,hx',lf,Nat.zero_div,Nat.zero_mod,Z6,Zn,Yg,read1]<;>rfl)|(apply Goes.drawn2 fits Hh (Ue Zb cB) (by kernel_rfl); · simp (maxSteps:=9^6) +decide (disch:=first|omega|(simp only[lens]<;>omega)|decide) only [go_sem,Za,simprocAttr,drG,rd4',hq,hx',lf,Nat.zero_div,Nat.zero_mod,Z6,Zn,Yg,read1]<;>rfl))
  refine Goes.abs fun hA eA=>?_
  have nA:hA.next=h.next+1:=by rw[eA]; first|rfl|simp only[H.Zh,H.Zc]
  have kA:∀ m,m<h.next→hA.get m=h.get m:=fun m hm=>by rw[eA]; (first|(simp (discharger:=omega) only [H.get_put,H.Zf,H.Zk,H.Zc,H.Zh,H.Zi,if_neg]; done)|(simp only[H.get_put,H.Zf,H.Zk,H.Zc,H.Zh,H.Zi]; (repeat' split)<;>first|rfl|(exfalso; omega)|omega))
  have aA:hA.get h.next=some (.row 4 [[.int .i64 2,.int .i64 24,.int .i64 8,.int .i64 40]] false):=by rw[eA]; simp (maxSteps:=9^6) +decide (disch:=first|omega|(simp only[lens]<;>omega)|decide) only [go_sem,Za,simprocAttr]<;>rfl
  clear eA
  obtain⟨hB,r1,c5,nB,kB⟩:=Z2l Hh hA
  have aB:=(kB h.next (by omega)).trans aA
  obtain⟨hC,r2,c6,nC,kC⟩:=Z26 Hh hB
  have aC:=(kC h.next (by omega)).trans aB
  iterate 2 (first|apply Goes.seq|(apply Goes.ops2 fits Hh (Zt Zb c5); · simp (maxSteps:=9^6) +decide (disch:=first|omega|(simp only[lens]<;>omega)|decide) only [go_sem,Za,simprocAttr,Zw,rd4',hq,hx',lf,Nat.zero_div,Nat.zero_mod,aA,aB,aC,Z6,Zn,Yg,read1]<;>rfl))
  iterate 4 (first|apply Goes.seq|apply Goes.ret|(apply Goes.ops2 fits Hh (Zt Zb c6); · simp (maxSteps:=9^6) +decide (disch:=first|omega|(simp only[lens]<;>omega)|decide) only [go_sem,Za,simprocAttr,Zw,rd4',hq,hx',lf,Nat.zero_div,Nat.zero_mod,aA,aB,aC,Z6,Zn,Yg,read1]<;>rfl))
  exact⟨_,_,(by simp (maxSteps:=9^6) +decide (disch:=first|omega|(simp only[lens]<;>omega)|decide) only [go_sem,Za,simprocAttr]<;>rfl),_,rfl,(by first|omega|(simp only[H.Zc,H.Zh]<;>omega)),fun m hm=>by refine Eq.trans ?_ ((kC m (by omega)).trans ((kB m (by omega)).trans (kA m hm))); (first|(simp (discharger:=omega) only [H.get_put,H.Zf,H.Zk,H.Zc,H.Zh,H.Zi,if_neg]; done)|(simp only[H.get_put,H.Zf,H.Zk,H.Zc,H.Zh,H.Zi]; (repeat' split)<;>first|rfl|(exfalso; omega)|omega))⟩
 exact⟨h',s,cc,n1,hk⟩
end
end Go.Proofs.YtdkcjalmhdofcaaGreatDoor
set_option maxRecDepth 100000
set_option maxHeartbeats 4000000
namespace Go.Proofs.YtdkcjalmhdofcaaGreatDoor
open Go.Ev
def stO (n:Nat):Stt:=⟨n+12,n+20,n+21,n+22,.snil,false⟩
def txO (n:Nat):Tx:=⟨n+15,n+16,n+17,n+19,1,false,0,0,.mnil,.mnil,.mnil,.mnil,.pnil⟩
structure ClD (n d d1 d2 a b c e:Nat) (md:Int) (L:List (List C)) (h:Go.Ev.H):Prop where
 st:h.get 0=some Ul
 n0:0<n
 nx:n+23≤h.next
 l1:d<n+5
 l2:d2<n+5
 ht:h.get (n+20)=some (.row 13 [txL (txO n)] false)
 hg:h.get (n+12)=some (.row 9 [gdL ⟨a,b,c,e,md,d,n+8,n+9,n+11⟩] false)
 hc:h.get (n+8)=some (.row 3 [ckL ⟨d,n+6,n+7⟩] false)
 hd:h.get d=some (.row 6 [dkL ⟨d1,d2,2+e+a * b,.snil,0,0⟩] false)
 hq:h.get d2=some (.row 256 L false)
 hli:h.get (n+11)=some (.row 8 [[.bool true,.int .i64 (a:Int),.int .i64 (b:Int),.int .i64 (c:Int),.int .i64 (e:Int),.bool false,.int .u32 0,.snil]] false)
 hm:h.get (n+6)=some (.map [])
 hfr:h.get (n+17)=some (.map [])
 hod:h.get (n+16)=some (.map [])
 hrv:h.get (n+19)=some (.row 1 [[.map (n+18)]] false)
 hrc:h.get (n+18)=some (.map [])
 hs:h.get (n+13)=some (.row 8 [stL (stO n)] false)
 hdt:h.get (n+21)=some (.map [])
 hgv:h.get (n+22)=some (.map [])
 hch:h.get (n+15)=some (.map [])
theorem ClD.keep {n d d1 d2 a b c e:Nat} {md:Int} {L:List (List C)} {h h2:Go.Ev.H} (M:ClD n d d1 d2 a b c e md L h) (hx:h.next≤h2.next) (k:∀ m,m<n+23→h2.get m=h.get m):ClD n d d1 d2 a b c e md L h2:=by
 obtain⟨f1,f2,f3,l1,l2,f4,f5,f6,f7,f8,f9,f10,f11,f12,f13,f14,f15,f16,f17,f18⟩:=M
 refine⟨?_,f2,by omega,l1,l2,?_,?_,?_,?_,?_,?_,?_,?_,?_,?_,?_,?_,?_,?_,?_⟩
 all_goals (rw[k _ (by omega)]; assumption)
theorem ClD.but {n d d1 d2 a b c e w:Nat} {md:Int} {L:List (List C)} {h h2:Go.Ev.H} (M:ClD n d d1 d2 a b c e md L h) (hx:h.next≤h2.next) (wl:w<n+5∧w≠d∧w≠d2∧0<w) (k:∀ m,m<n+23→m≠w→h2.get m=h.get m):ClD n d d1 d2 a b c e md L h2:=by
 obtain⟨f1,f2,f3,l1,l2,f4,f5,f6,f7,f8,f9,f10,f11,f12,f13,f14,f15,f16,f17,f18⟩:=M
 refine⟨?_,f2,by omega,l1,l2,?_,?_,?_,?_,?_,?_,?_,?_,?_,?_,?_,?_,?_,?_,?_⟩
 all_goals (rw[k _ (by omega) (by omega)]; assumption)
theorem Z39 {h:Go.Ev.H} (l5:6≤h.next) (hst:h.get 0=some Ul) {d d1 d2 a b c e:Nat} {L:List (List C)} (ld:d<h.next) (ld2:d2<h.next) (hd:h.get d=some (.row 6 [dkL ⟨d1,d2,2+e+a * b,.snil,0,0⟩] false)) (hq:h.get d2=some (.row 256 L false)) (md:Int):ClD (h.next - 5) d d1 d2 a b c e md L (Sk h d a b c e md 1)∧h.next≤(Sk h d a b c e md 1).next∧∀ m,m<h.next→(Sk h d a b c e md 1).get m=h.get m:=by
 have kk:∀ m,m<h.next→(Sk h d a b c e md 1).get m=h.get m:=fun m hm=>by
  unfold Sk
  simp (discharger:=omega) only [H.get_put,H.Zf,H.Zc,H.Zh,if_neg]
 obtain⟨n,hn⟩:∃ n,h.next=n+5:=⟨h.next - 5,by omega⟩
 rw[show h.next - 5=n by omega]
 refine⟨⟨(kk 0 (by omega)).trans hst,?_,?_,by omega,by omega,?_,?_,?_,(kk d ld).trans hd,(kk d2 ld2).trans hq,?_,?_,?_,?_,?_,?_,?_,?_,?_,?_⟩,?_,kk⟩
 ·omega
 ·unfold Sk; simp only[H.Zh,H.Zc]; omega
 all_goals (unfold Sk; first|(simp only[H.Zh,H.Zc]; omega)|(simp (discharger:=omega) only [H.get_put,H.Zf,H.Zc,H.Zh,hn,if_neg,if_pos,if_true]; rfl)|(simp (discharger:=omega) only [H.get_put,H.Zf,H.Zc,H.Zh,hn,if_neg,if_pos,if_true]))
section
variable (Hh:Hearts K Tryz.prog)
include Hh
theorem Zzp {md:Int} (m1:1≤md) (m3:md≤3) {h:Go.Ev.H} (hst:h.get 0=some Ul) (l0:0<h.next) (lf:∀ p,Yr K 54 (.c (.slice p 0 90 256))=true) (lt:Yr K 25 (.c .snil)=true) :
  ∃ h' n d d1 d2 r q,Zg K Tryz.prog 5 [.g [.int .i64 2,.int .i64 24,.int .i64 8,.int .i64 40,.int .u8 md,.snil]] h (.tup [.g [.ptr (n+13) 0,.ptr r 0,.ptr d 0,.ptr q 0],.c (.bool true)]) h'∧ClD n d d1 d2 2 24 8 40 md Vo h'∧h.next≤n∧∀ m,m<h.next→h'.get m=h.get m:=by
 have cM:∀ h,Zg K Tryz.prog 14 [.g [.int .i64 2,.int .i64 24,.int .i64 8,.int .i64 40]] h (.tup [.c (.slice h.next 0 90 256),.c (.int .i64 0)]) (h.new (.row 256 Vo false)):=fun h=>Ztc Hh rfl
 have r64:Zd 6 [[.int .i64 2,.int .i64 24,.int .i64 8,.int .i64 40,.int .u8 md,.snil]] 0 4=some [.int .i64 2,.int .i64 24,.int .i64 8,.int .i64 40]:=rfl
 have r44:∀ a b c d:C,Zd 4 [[a,b,c,d]] 0 4=some [a,b,c,d]:=fun _ _ _ _=>rfl
 have il:Vo.length=90:=by kernel_rfl
 have im:imB Vo=true:=by kernel_rfl
 have f4:U4 2 24 8 40=true:=by kernel_rfl
 obtain⟨I,hI⟩:∃ I,Vo=I:=⟨_,rfl⟩
 simp only[hI] at cM il im ⊢
 obtain⟨v,h',cc,n,d,d1,d2,r,q,rfl,M,nn,hk⟩:∃ v h',Zg K Tryz.prog 5 [.g [.int .i64 2,.int .i64 24,.int .i64 8,.int .i64 40,.int .u8 md,.snil]] h v h'∧∃ n d d1 d2 r q,v=.tup [.g [.ptr (n+13) 0,.ptr r 0,.ptr d 0,.ptr q 0],.c (.bool true)]∧ClD n d d1 d2 2 24 8 40 md I h'∧h.next≤n∧∀ m,m<h.next→h'.get m=h.get m:=by
  refine Zg.Yb fits Hh (by kernel_rfl) (by kernel_rfl) (by kernel_rfl) (show Tryz.f5.body=some _ from rfl) rfl ?_
  iterate 3 (first|apply Goes.seq|(apply Goes.ops2 fits Hh Zb; · simp (maxSteps:=9^6) +decide (disch:=first|omega|(simp only[lens]<;>omega)|decide) only [go_sem,Za,simprocAttr,r64,il,im,f4,lf,lt,Z6,Zn,Yg,read1]<;>rfl))
  iterate 17 (first|apply Goes.seq|apply Goes.skip|apply Goes.block|apply Goes.exit|apply Goes.loop|((first|apply Goes.Zo|apply Goes.ops2 fits Hh (Ue Zb cM)); · simp (maxSteps:=9^6) +decide (disch:=first|omega|(simp only[lens]<;>omega)|decide) only [go_sem,Za,simprocAttr,r64,il,im,f4,lf,lt,Z6,Zn,Yg,read1]<;>rfl))
  iterate 2 (first|apply Goes.seq|(apply Goes.ops2 fits Hh (Zj Zb (fun _ _ _ _=>Zrd Hh)); · simp (maxSteps:=9^6) +decide (disch:=first|omega|(simp only[lens]<;>omega)|decide) only [go_sem,Za,simprocAttr,r64,il,im,f4,lf,lt,Z6,Zn,Yg,read1]<;>rfl))
  refine Goes.abs fun hA eA=>?_
  have nA:hA.next=h.next+6:=by rw[eA]; simp only[H.Zh,H.Zc]
  have kA:∀ m,m<h.next→hA.get m=h.get m:=fun m hm=>by rw[eA]; (first|(simp (discharger:=omega) only [H.get_put,H.Zf,H.Zk,H.Zc,H.Zh,H.Zi,if_neg]; done)|(simp only[H.get_put,H.Zf,H.Zk,H.Zc,H.Zh,H.Zi]; (repeat' split)<;>first|rfl|(exfalso; omega)|omega))
  have b0:hA.get h.next=some (.row 6 [[.int .i64 2,.int .i64 24,.int .i64 8,.int .i64 40,.int .u8 md,.snil]] false):=by rw[eA]; simp (maxSteps:=9^6) +decide (disch:=first|omega|(simp only[lens]<;>omega)|decide) only [go_sem,Za,simprocAttr]<;>rfl
  obtain⟨w,wl,b1⟩:∃ w:List C,w.length=4∧hA.get (h.next+1)=some (.row 4 [w] false):=⟨_,rfl,by rw[eA]; simp (maxSteps:=9^6) +decide (disch:=first|omega|(simp only[lens]<;>omega)|decide) only [go_sem,Za,simprocAttr]<;>rfl⟩
  have b2:hA.get (h.next+2)=some (.row 256 I false):=by rw[eA]; simp (maxSteps:=9^6) +decide (disch:=first|omega|(simp only[lens]<;>omega)|decide) only [go_sem,Za,simprocAttr]<;>rfl
  have b4:hA.get (h.next+4)=some (.row 256 I false):=by rw[eA]; simp (maxSteps:=9^6) +decide (disch:=first|omega|(simp only[lens]<;>omega)|decide) only [go_sem,Za,simprocAttr,il,im]<;>rfl
  have b5:hA.get (h.next+5)=some (.row 6 [dkL ⟨h.next+3,h.next+4,90,.snil,0,0⟩] false):=by rw[eA]; simp (maxSteps:=9^6) +decide (disch:=first|omega|(simp only[lens]<;>omega)|decide) only [go_sem,Za,simprocAttr,il,im]<;>rfl
  have sA:=(kA 0 l0).trans hst
  clear eA
  obtain⟨hB,q,m,sz,x,c11,q1,q2,q3,q4,kB⟩:=Z2q Hh b2 (by omega) il (lf _)
  have B0:=(kB h.next (by omega)).trans b0
  have B4:=(kB _ (by omega)).trans b4
  have B5:=(kB _ (by omega)).trans b5
  have sB:=(kB 0 (by omega)).trans sA
  obtain⟨N,hN⟩:∃ N,hB.next=N+5:=⟨hB.next - 5,by omega⟩
  iterate 7 (first|apply Goes.seq|apply Goes.skip|((first|apply Goes.Zo|apply Goes.ops2 fits Hh (Zt Zb c11)); · simp (maxSteps:=9^6) +decide (disch:=first|omega|(simp only[lens]<;>omega)|decide) only [go_sem,Za,simprocAttr,Zw,r64,il,im,f4,lf,lt,b0,B0,B5,Z6,Zn,Yg,read1]<;>rfl))
  iterate 2 (first|apply Goes.seq|(apply Goes.ops2 fits Hh (Zj Zb (fun _ _ _ _=>Zu7 Hh)); · simp (maxSteps:=9^6) +decide (disch:=first|omega|(simp only[lens]<;>omega)|decide) only [go_sem,Za,simprocAttr,r64,il,im,f4,lf,lt,b0,B0,B5,Z6,Zn,Yg,read1]<;>rfl))
  refine Goes.abs fun hC eC=>?_
  have ND:=Z39 (h:=hB) (by omega) sB (d:=h.next+5) (d1:=h.next+3) (d2:=h.next+4) (a:=2) (b:=24) (c:=8) (e:=40) (L:=I) (by omega) (by omega) B5 B4 md
  have eC':hC=Sk hB (h.next+5) 2 24 8 40 md 1:=eC
  rw[←eC',show hB.next - 5=N by omega] at ND
  obtain⟨MC,nC,kC⟩:=ND
  clear eC eC'
  have C0:=(kC h.next (by omega)).trans B0
  have Cq:=(kC q q2).trans q3
  obtain⟨hD,s,c15,nD,kD⟩:=Z37 Hh Cq q4 (by omega) m1 m3 (lf _)
  have D1:=(kD (h.next+1) (by omega)).trans ((kC _ (by omega)).trans ((kB _ (by omega)).trans b1))
  have nB6:h.next+6≤hD.next:=by omega
  iterate 4 (first|apply Goes.seq|apply Goes.ret|(apply Goes.ops2 fits Hh (Zt Zb c15); · simp (maxSteps:=9^6) +decide (disch:=first|omega|(simp only[lens]<;>omega)|decide) only [go_sem,Za,simprocAttr,Zw,r64,il,im,f4,lf,lt,b0,B0,B5,C0,D1,wl,r44,Z6,Zn,Yg,read1]<;>rfl))
  refine⟨_,_,(by simp (maxSteps:=9^6) +decide (disch:=first|omega|(simp only[lens]<;>omega)|decide) only [go_sem,Za,simprocAttr,r44]<;>rfl),N,h.next+5,h.next+3,h.next+4,s,q,?_,(MC.keep nD fun m hm=>kD m (by have:=MC.nx; omega)).but (w:=h.next+1) ?_ ⟨by omega,by omega,by omega,by omega⟩ (fun m hm hne=>?_),by omega,fun m hm=>?_⟩
  ·rw[hN]
  ·first|omega|(simp only[H.Zh,H.Zc]<;>omega)
  ·(first|(simp (discharger:=omega) only [H.get_put,H.Zf,H.Zk,H.Zc,H.Zh,H.Zi,if_neg]; done)|(simp only[H.get_put,H.Zf,H.Zk,H.Zc,H.Zh,H.Zi]; (repeat' split)<;>first|rfl|(exfalso; omega)|omega))
  ·refine Eq.trans ?_ ((kD m (by omega)).trans ((kC m (by omega)).trans ((kB m (by omega)).trans (kA m hm)))); (first|(simp (discharger:=omega) only [H.get_put,H.Zf,H.Zk,H.Zc,H.Zh,H.Zi,if_neg]; done)|(simp only[H.get_put,H.Zf,H.Zk,H.Zc,H.Zh,H.Zi]; (repeat' split)<;>first|rfl|(exfalso; omega)|omega))
 exact⟨h',n,d,d1,d2,r,q,cc,M,nn,hk⟩
end
end Go.Proofs.YtdkcjalmhdofcaaGreatDoor
