/- disk.Load, slices.Clone of blocks. -/
import Derived.Test.YtgikjeaipmeclaaGreatDoorBeg
import Derived.Test.YtgikjeaipmeclaaGreatDoorSpecX
import Derived.Test.YtgikjeaipmeclaaGreatDoorBeg3
import Derived.Test.YtgikjeaipmeclaaGreatDoorHba
import Derived.Test.YtgikjeaipmeclaaGreatDoorEvC
import Derived.Test.YtgikjeaipmeclaaGreatDoorHdd
set_option linter.unusedSimpArgs false
set_option linter.unusedVariables false
set_option linter.unusedSectionVars false
set_option maxRecDepth 100000
set_option maxHeartbeats 4000000
namespace Go.Proofs.YtgikjeaipmeclaaGreatDoor
open Go.Ev
theorem rs55:Tryz.f55.results.toList=[.tmp 2]:=rfl
theorem rs23:Tryz.f23.results.toList=[.tmp 2,.tmp 3]:=rfl
attribute [go_sem] rs55 rs23
def imB (L:List (List C)):Bool:=L.all fun x=>Nat.beq x.length 256&&x.all C.flat
theorem Zyt {L:List (List C)} (h:imB L=true) {x:List C} (hx:x∈L):x.length=256∧x.all C.flat=true:=by
 have:=List.all_eq_true.1 h x hx
 rw[Bool.and_eq_true] at this
 exact⟨Nat.eq_of_beq_eq_true this.1,this.2⟩
theorem Zv7 {L:List (List C)} (h:imB L=true):L.all (fun l=>l.all C.flat)=true:=List.all_eq_true.2 fun x hx=>(Zyt h hx).2
noncomputable def Zdm:Kn1:=fun args h=>match args with
 | [.c (.slice n 0 len z)]=>match h.get n with
  | some (.row s L _)=>Yr (Nat.beq s 256&&Nat.beq z 256&&Nat.beq L.length len&&Nat.ble 1 len&&Nat.ble len 2048&&imB L) (some (.w (.c (.slice h.next 0 len 256)),h.new (.row 256 L false)))
  | _=>none
 | _=>none
noncomputable def Znm:Kn1:=fun args h=>match args with
 | [.c (.slice n 0 len z)]=>match h.get n with
  | some (.row s L _)=>Yr (Nat.beq s 256&&Nat.beq z 256&&Nat.beq L.length len&&Nat.ble 1 len&&Nat.ble len 2048&&imB L) (some (.tup [.c (.ptr (h.next+1+1) 0),.c (.int .i64 0)],((h.new (.row 256 L false)).new (.row 256 L false)).new (.row 6 [dkL ⟨h.next,h.next+1,len,.snil,0,0⟩] false)))
  | _=>none
 | _=>none
attribute [go_sem] Zdm Znm
section
variable (Hh:Hearts K Tryz.prog)
include Hh
theorem Zk9 {args:List W} {h h':Go.Ev.H} {v:V} (e:Zdm args h=some (v,h')):Ze K Tryz.prog 55 args h v h':=by
 unfold Zdm at e
 split at e
 ·rename_i n len z
  split at e
  ·rename_i s L ro heq
   obtain⟨q,e⟩:=Zq.1 e
   cases e
   simp only[Bool.and_eq_true] at q
   obtain⟨⟨⟨⟨⟨q1,q2⟩,q3⟩,q4⟩,q5⟩,q6⟩:=q
   obtain rfl:=Nat.eq_of_beq_eq_true q1
   obtain rfl:=Nat.eq_of_beq_eq_true q2
   have q3:=Nat.eq_of_beq_eq_true q3
   have q4:=Nat.le_of_ble_eq_true q4
   have q5:=Nat.le_of_ble_eq_true q5
   have rm:Bc 256 L 0 256 len=some L:=by rw[←q3]; exact R7 256 L
   refine Ze.tidy ⟨Tryz.f55,Tryz.func55,by kernel_rfl,by decide⟩ fun tidy=>?_
   have l1:=tidy _ _ heq
   obtain⟨v,h',cc,n',rfl,n1,n2,n3,hk⟩:∃ v h',Ze K Tryz.prog 55 [.c (.slice n 0 len 256)] h v h'∧∃ n',v=.w (.c (.slice n' 0 len 256))∧h.next≤n'∧n'<h'.next∧h'.get n'=some (.row 256 L false)∧∀ m,m<h.next→h'.get m=h.get m:=by
    rcases L with _|⟨x0,L⟩
    ·simp only[List.length_nil] at q3; omega
    ·
     refine Ze.Yi fits Hh (by kernel_rfl) (by kernel_rfl) (by kernel_rfl) (show Tryz.f55.body=some _ from rfl) rfl ?_
     repeat (first|apply Goes.seq|apply Goes.block|apply Goes.loop|apply Goes.skip|apply Goes.exit|apply Goes.ret|((first|apply Goes.Zm|apply Goes.ops2 fits Hh Zc); · simp (maxSteps:=9^6) +decide (disch:=first|omega|(simp only[lens]<;>omega)|decide) only [go_sem,Zb,Za,simprocAttr,heq,rm,q3,List.length_append,Nat.zero_add,Zh,Uj,Yy,Jn,Sb,Nw,Wn,Su,Y2,Md,Jt,List.replicate_succ,List.replicate_zero,Nat.zero_mul]<;>rfl))
     exact⟨_,_,(by simp (maxSteps:=9^6) +decide (disch:=first|omega|(simp only[lens]<;>omega)|decide) only [go_sem,Zb,Za,simprocAttr]<;>rfl),_,rfl,(by first|omega|(simp only[H.Zg,H.Zr]<;>omega)),(by first|omega|(simp only[H.Zg,H.Zr]<;>omega)),(by rw[Uw (by rw[H.Zr,H.Zg]; omega)]),fun m hm=>by (first|(simp (discharger:=omega) only [H.get_put,H.Zi,H.Yd,H.Zg,H.Zj,H.Zr,if_neg]; done)|(simp only[H.get_put,H.Zi,H.Yd,H.Zg,H.Zj,H.Zr]; (repeat' split)<;>first|rfl|(exfalso; omega)|omega))⟩
   exact Ze.row1 cc n1 n3 (Zv7 q6) n2 hk
  ·cases e
 ·cases e
theorem Zq8 {args:List W} {h h':Go.Ev.H} {v:V} (e:Znm args h=some (v,h')):Ze K Tryz.prog 23 args h v h':=by
 unfold Znm at e
 split at e
 ·rename_i n len z
  split at e
  ·rename_i s L ro heq
   obtain⟨q,e⟩:=Zq.1 e
   cases e
   simp only[Bool.and_eq_true] at q
   obtain⟨⟨⟨⟨⟨q1,q2⟩,q3⟩,q4⟩,q5⟩,q6⟩:=q
   obtain rfl:=Nat.eq_of_beq_eq_true q1
   obtain rfl:=Nat.eq_of_beq_eq_true q2
   have q3:=Nat.eq_of_beq_eq_true q3
   have q4:=Nat.le_of_ble_eq_true q4
   have q5:=Nat.le_of_ble_eq_true q5
   refine Ze.tidy ⟨Tryz.f23,Tryz.func23,by kernel_rfl,by decide⟩ fun tidy=>?_
   have l1:=tidy _ _ heq
   refine Ze.goes fits Hh (by kernel_rfl) (by kernel_rfl) (by kernel_rfl) (show Tryz.f23.body=some _ from rfl) rfl ?_
   repeat (first|apply Goes.seq|apply Goes.block|apply Goes.loop|apply Goes.skip|apply Goes.exit|apply Goes.ret|((first|apply Goes.Zm|apply Goes.ops2 fits Hh (Zf (Zf Zc (fun _ _ _ _=>Zum Hh)) (fun _ _ _ _=>Zk9 Hh))); · simp (maxSteps:=9^6) +decide (disch:=first|omega|(simp only[lens]<;>omega)|decide) only [go_sem,Zb,Za,simprocAttr,heq,q3,q6,Zh,Ye,Zx]<;>rfl))
   simp (maxSteps:=9^6) +decide (disch:=first|omega|(simp only[lens]<;>omega)|decide) only [go_sem,Zb,Za,simprocAttr]<;>rfl
  ·cases e
 ·cases e
end
theorem ty23:K.types.get 23=some ti23:=by kernel_rfl
theorem sz23:ti23.size=1:=by rfl
theorem ag23:ti23.agg=false:=by rfl
theorem de23:ti23.desc=(.int .u64):=by rfl
theorem ze23:ti23.zero=(.c (.int .u64 0)):=by rfl
theorem by23:ti23.bytes=8:=by rfl
theorem ke23 (k:IntKind) (n:Int):Dj K 20 23 (.c (.int k n))=true:=by kernel_rfl
theorem ty25:K.types.get 25=some ti25:=by kernel_rfl
theorem sz25:ti25.size=1:=by rfl
theorem ag25:ti25.agg=false:=by rfl
theorem de25:ti25.desc=(.pointer 173):=by rfl
theorem ze25:ti25.zero=(.c (.pnil)):=by rfl
theorem by25:ti25.bytes=8:=by rfl
theorem ty27:K.types.get 27=some ti27:=by kernel_rfl
theorem sz27:ti27.size=1:=by rfl
theorem ag27:ti27.agg=false:=by rfl
theorem de27:ti27.desc=(.pointer 142):=by rfl
theorem ze27:ti27.zero=(.c (.pnil)):=by rfl
theorem by27:ti27.bytes=8:=by rfl
theorem ty29:K.types.get 29=some ti29:=by kernel_rfl
theorem sz29:ti29.size=4:=by rfl
theorem ag29:ti29.agg=true:=by rfl
theorem fo29_0:Zn K 29 0=some (0,ti24):=by kernel_rfl
theorem fo29_1:Zn K 29 1=some (1,ti25):=by kernel_rfl
theorem fo29_2:Zn K 29 2=some (2,ti26):=by kernel_rfl
theorem fo29_3:Zn K 29 3=some (3,ti27):=by kernel_rfl
theorem bu29 (ps:List (Nat × W)):Yc K 29 (some ps)=gW (Z9 K 29 ps ti29.zero.cells):=by kernel_rfl
theorem ze29:ti29.zero=(.g ([.pnil,.pnil,.pnil,.pnil])):=by rfl
theorem by29:ti29.bytes=32:=by rfl
theorem ty49:K.types.get 49=some ti49:=by kernel_rfl
theorem sz49:ti49.size=1:=by rfl
theorem ag49:ti49.agg=false:=by rfl
theorem de49:ti49.desc=(.slice 79):=by rfl
theorem ze49:ti49.zero=(.c (.snil)):=by rfl
theorem by49:ti49.bytes=24:=by rfl
theorem el49:Y3 K 49=some ti79:=by kernel_rfl
theorem ty51:K.types.get 51=some ti51:=by kernel_rfl
theorem sz51:ti51.size=6:=by rfl
theorem ag51:ti51.agg=true:=by rfl
theorem fo51_0:Zn K 51 0=some (0,ti48):=by kernel_rfl
theorem fo51_1:Zn K 51 1=some (4,ti5):=by kernel_rfl
theorem fo51_2:Zn K 51 2=some (5,ti49):=by kernel_rfl
theorem bu51 (ps:List (Nat × W)):Yc K 51 (some ps)=gW (Z9 K 51 ps ti51.zero.cells):=by kernel_rfl
theorem ze51:ti51.zero=(.g ([.int .i64 0,.int .i64 0,.int .i64 0,.int .i64 0,.int .u8 0,.snil])):=by rfl
theorem by51:ti51.bytes=64:=by rfl
theorem ty79:K.types.get 79=some ti79:=by kernel_rfl
theorem sz79:ti79.size=3:=by rfl
theorem ag79:ti79.agg=true:=by rfl
theorem fo79_0:Zn K 79 0=some (0,ti3):=by kernel_rfl
theorem fo79_1:Zn K 79 1=some (1,ti3):=by kernel_rfl
theorem fo79_2:Zn K 79 2=some (2,ti5):=by kernel_rfl
theorem bu79 (ps:List (Nat × W)):Yc K 79 (some ps)=gW (Z9 K 79 ps ti79.zero.cells):=by kernel_rfl
theorem ze79:ti79.zero=(.g ([.int .i64 0,.int .i64 0,.int .u8 0])):=by rfl
theorem by79:ti79.bytes=24:=by rfl
theorem ty140:K.types.get 140=some ti140:=by kernel_rfl
theorem sz140:ti140.size=1:=by rfl
theorem ag140:ti140.agg=false:=by rfl
theorem de140:ti140.desc=(.slice 400):=by rfl
theorem ze140:ti140.zero=(.c (.snil)):=by rfl
theorem by140:ti140.bytes=24:=by rfl
theorem el140:Y3 K 140=some ti400:=by kernel_rfl
theorem ty142:K.types.get 142=some ti142:=by kernel_rfl
theorem sz142:ti142.size=4:=by rfl
theorem ag142:ti142.agg=true:=by rfl
theorem fo142_0:Zn K 142 0=some (0,ti75):=by kernel_rfl
theorem fo142_1:Zn K 142 1=some (1,ti140):=by kernel_rfl
theorem fo142_2:Zn K 142 2=some (2,ti3):=by kernel_rfl
theorem fo142_3:Zn K 142 3=some (3,ti3):=by kernel_rfl
theorem bu142 (ps:List (Nat × W)):Yc K 142 (some ps)=gW (Z9 K 142 ps ti142.zero.cells):=by kernel_rfl
theorem ze142:ti142.zero=(.g ([.snil,.snil,.int .i64 0,.int .i64 0])):=by rfl
theorem by142:ti142.bytes=64:=by rfl
theorem ty151:K.types.get 151=some ti151:=by kernel_rfl
theorem sz151:ti151.size=1:=by rfl
theorem ag151:ti151.agg=false:=by rfl
theorem de151:ti151.desc=(.pointer 218):=by rfl
theorem ze151:ti151.zero=(.c (.pnil)):=by rfl
theorem by151:ti151.bytes=8:=by rfl
theorem ty154:K.types.get 154=some ti154:=by kernel_rfl
theorem sz154:ti154.size=1:=by rfl
theorem ag154:ti154.agg=false:=by rfl
theorem de154:ti154.desc=(.pointer 221):=by rfl
theorem ze154:ti154.zero=(.c (.pnil)):=by rfl
theorem by154:ti154.bytes=8:=by rfl
theorem ty157:K.types.get 157=some ti157:=by kernel_rfl
theorem sz157:ti157.size=1:=by rfl
theorem ag157:ti157.agg=false:=by rfl
theorem de157:ti157.desc=(.pointer 160):=by rfl
theorem ze157:ti157.zero=(.c (.pnil)):=by rfl
theorem by157:ti157.bytes=8:=by rfl
theorem ty158:K.types.get 158=some ti158:=by kernel_rfl
theorem sz158:ti158.size=1:=by rfl
theorem ag158:ti158.agg=false:=by rfl
theorem de158:ti158.desc=(.slice 402):=by rfl
theorem ze158:ti158.zero=(.c (.snil)):=by rfl
theorem by158:ti158.bytes=24:=by rfl
theorem el158:Y3 K 158=some ti402:=by kernel_rfl
theorem ty160:K.types.get 160=some ti160:=by kernel_rfl
theorem sz160:ti160.size=3:=by rfl
theorem ag160:ti160.agg=true:=by rfl
theorem fo160_0:Zn K 160 0=some (0,ti27):=by kernel_rfl
theorem fo160_1:Zn K 160 1=some (1,ti158):=by kernel_rfl
theorem fo160_2:Zn K 160 2=some (2,ti22):=by kernel_rfl
theorem bu160 (ps:List (Nat × W)):Yc K 160 (some ps)=gW (Z9 K 160 ps ti160.zero.cells):=by kernel_rfl
theorem ze160:ti160.zero=(.g ([.pnil,.snil,.snil])):=by rfl
theorem by160:ti160.bytes=56:=by rfl
theorem ty161:K.types.get 161=some ti161:=by kernel_rfl
theorem sz161:ti161.size=1:=by rfl
theorem ag161:ti161.agg=false:=by rfl
theorem de161:ti161.desc=(.pointer 166):=by rfl
theorem ze161:ti161.zero=(.c (.pnil)):=by rfl
theorem by161:ti161.bytes=8:=by rfl
theorem ty164:K.types.get 164=some ti164:=by kernel_rfl
theorem sz164:ti164.size=4:=by rfl
theorem ag164:ti164.agg=true:=by rfl
theorem fo164_0:Zn K 164 0=some (0,ti162):=by kernel_rfl
theorem fo164_1:Zn K 164 1=some (1,ti22):=by kernel_rfl
theorem fo164_2:Zn K 164 2=some (2,ti22):=by kernel_rfl
theorem fo164_3:Zn K 164 3=some (3,ti22):=by kernel_rfl
theorem bu164 (ps:List (Nat × W)):Yc K 164 (some ps)=gW (Z9 K 164 ps ti164.zero.cells):=by kernel_rfl
theorem ze164:ti164.zero=(.g ([.snil,.snil,.snil,.snil])):=by rfl
theorem by164:ti164.bytes=96:=by rfl
theorem ty166:K.types.get 166=some ti166:=by kernel_rfl
theorem sz166:ti166.size=13:=by rfl
theorem ag166:ti166.agg=true:=by rfl
theorem fo166_0:Zn K 166 0=some (0,ti34):=by kernel_rfl
theorem fo166_1:Zn K 166 1=some (1,ti164):=by kernel_rfl
theorem fo166_2:Zn K 166 2=some (5,ti164):=by kernel_rfl
theorem fo166_3:Zn K 166 3=some (9,ti4):=by kernel_rfl
theorem fo166_4:Zn K 166 4=some (10,ti3):=by kernel_rfl
theorem fo166_5:Zn K 166 5=some (11,ti3):=by kernel_rfl
theorem fo166_6:Zn K 166 6=some (12,ti22):=by kernel_rfl
theorem bu166 (ps:List (Nat × W)):Yc K 166 (some ps)=gW (Z9 K 166 ps ti166.zero.cells):=by kernel_rfl
theorem ze166:ti166.zero=(.g ([.int .u32 0,.snil,.snil,.snil,.snil,.snil,.snil,.snil,.snil,.bool false,.int .i64 0,.int .i64 0,.snil])):=by rfl
theorem by166:ti166.bytes=248:=by rfl
theorem ty169:K.types.get 169=some ti169:=by kernel_rfl
theorem sz169:ti169.size=1:=by rfl
theorem ag169:ti169.agg=false:=by rfl
theorem de169:ti169.desc=(.slice 403):=by rfl
theorem ze169:ti169.zero=(.c (.snil)):=by rfl
theorem by169:ti169.bytes=24:=by rfl
theorem el169:Y3 K 169=some ti403:=by kernel_rfl
theorem ty171:K.types.get 171=some ti171:=by kernel_rfl
theorem sz171:ti171.size=8:=by rfl
theorem ag171:ti171.agg=true:=by rfl
theorem fo171_0:Zn K 171 0=some (0,ti4):=by kernel_rfl
theorem fo171_1:Zn K 171 1=some (1,ti168):=by kernel_rfl
theorem fo171_2:Zn K 171 2=some (4,ti22):=by kernel_rfl
theorem fo171_3:Zn K 171 3=some (5,ti22):=by kernel_rfl
theorem fo171_4:Zn K 171 4=some (6,ti22):=by kernel_rfl
theorem fo171_5:Zn K 171 5=some (7,ti169):=by kernel_rfl
theorem bu171 (ps:List (Nat × W)):Yc K 171 (some ps)=gW (Z9 K 171 ps ti171.zero.cells):=by kernel_rfl
theorem ze171:ti171.zero=(.g ([.bool false,.int .u32 0,.snil,.snil,.snil,.snil,.snil,.snil])):=by rfl
theorem by171:ti171.bytes=160:=by rfl
theorem ty173:K.types.get 173=some ti173:=by kernel_rfl
theorem sz173:ti173.size=20:=by rfl
theorem ag173:ti173.agg=true:=by rfl
theorem fo173_0:Zn K 173 0=some (0,ti48):=by kernel_rfl
theorem fo173_1:Zn K 173 1=some (4,ti5):=by kernel_rfl
theorem fo173_2:Zn K 173 2=some (5,ti157):=by kernel_rfl
theorem fo173_3:Zn K 173 3=some (6,ti151):=by kernel_rfl
theorem fo173_4:Zn K 173 4=some (7,ti154):=by kernel_rfl
theorem fo173_5:Zn K 173 5=some (8,ti161):=by kernel_rfl
theorem fo173_6:Zn K 173 6=some (9,ti171):=by kernel_rfl
theorem fo173_7:Zn K 173 7=some (17,ti4):=by kernel_rfl
theorem fo173_8:Zn K 173 8=some (18,ti162):=by kernel_rfl
theorem fo173_9:Zn K 173 9=some (19,ti22):=by kernel_rfl
theorem bu173 (ps:List (Nat × W)):Yc K 173 (some ps)=gW (Z9 K 173 ps ti173.zero.cells):=by kernel_rfl
theorem ze173:ti173.zero=(.g ([.int .i64 0,.int .i64 0,.int .i64 0,.int .i64 0,.int .u8 0,.pnil,.pnil,.pnil,.pnil,.bool false,.int .u32 0,.snil,.snil,.snil,.snil,.snil,.snil,.bool false,.snil,.snil])):=by rfl
theorem by173:ti173.bytes=288:=by rfl
theorem ty218:K.types.get 218=some ti218:=by kernel_rfl
theorem sz218:ti218.size=3:=by rfl
theorem ag218:ti218.agg=true:=by rfl
theorem fo218_0:Zn K 218 0=some (0,ti3):=by kernel_rfl
theorem fo218_1:Zn K 218 1=some (1,ti22):=by kernel_rfl
theorem fo218_2:Zn K 218 2=some (2,ti3):=by kernel_rfl
theorem bu218 (ps:List (Nat × W)):Yc K 218 (some ps)=gW (Z9 K 218 ps ti218.zero.cells):=by kernel_rfl
theorem ze218:ti218.zero=(.g ([.int .i64 0,.snil,.int .i64 0])):=by rfl
theorem by218:ti218.bytes=40:=by rfl
theorem ty219:K.types.get 219=some ti219:=by kernel_rfl
theorem sz219:ti219.size=1:=by rfl
theorem ag219:ti219.agg=false:=by rfl
theorem de219:ti219.desc=(.slice 406):=by rfl
theorem ze219:ti219.zero=(.c (.snil)):=by rfl
theorem by219:ti219.bytes=24:=by rfl
theorem el219:Y3 K 219=some ti406:=by kernel_rfl
theorem ty221:K.types.get 221=some ti221:=by kernel_rfl
theorem sz221:ti221.size=7:=by rfl
theorem ag221:ti221.agg=true:=by rfl
theorem fo221_0:Zn K 221 0=some (0,ti48):=by kernel_rfl
theorem fo221_1:Zn K 221 1=some (4,ti219):=by kernel_rfl
theorem fo221_2:Zn K 221 2=some (5,ti34):=by kernel_rfl
theorem fo221_3:Zn K 221 3=some (6,ti4):=by kernel_rfl
theorem bu221 (ps:List (Nat × W)):Yc K 221 (some ps)=gW (Z9 K 221 ps ti221.zero.cells):=by kernel_rfl
theorem ze221:ti221.zero=(.g ([.int .i64 0,.int .i64 0,.int .i64 0,.int .i64 0,.snil,.int .u32 0,.bool false])):=by rfl
theorem by221:ti221.bytes=64:=by rfl
theorem ty400:K.types.get 400=some ti400:=by kernel_rfl
theorem sz400:ti400.size=257:=by rfl
theorem ag400:ti400.agg=true:=by rfl
theorem fo400_0:Zn K 400 0=some (0,ti3):=by kernel_rfl
theorem fo400_1:Zn K 400 1=some (1,ti71):=by kernel_rfl
theorem bu400 (ps:List (Nat × W)):Yc K 400 (some ps)=gW (Z9 K 400 ps ti400.zero.cells):=by kernel_rfl
theorem ze400:ti400.zero=(.g (List.replicate 1 (.int .i64 0)++List.replicate 256 (.int .u8 0))):=by rfl
theorem by400:ti400.bytes=264:=by rfl
theorem ty402:K.types.get 402=some ti402:=by kernel_rfl
theorem sz402:ti402.size=258:=by rfl
theorem ag402:ti402.agg=true:=by rfl
theorem fo402_0:Zn K 402 0=some (0,ti3):=by kernel_rfl
theorem fo402_1:Zn K 402 1=some (1,ti71):=by kernel_rfl
theorem fo402_2:Zn K 402 2=some (257,ti4):=by kernel_rfl
theorem bu402 (ps:List (Nat × W)):Yc K 402 (some ps)=gW (Z9 K 402 ps ti402.zero.cells):=by kernel_rfl
theorem ze402:ti402.zero=(.g (List.replicate 1 (.int .i64 0)++List.replicate 256 (.int .u8 0)++List.replicate 1 (.bool false))):=by rfl
theorem by402:ti402.bytes=272:=by rfl
theorem ty403:K.types.get 403=some ti403:=by kernel_rfl
theorem sz403:ti403.size=258:=by rfl
theorem ag403:ti403.agg=true:=by rfl
theorem fo403_0:Zn K 403 0=some (0,ti5):=by kernel_rfl
theorem fo403_1:Zn K 403 1=some (1,ti3):=by kernel_rfl
theorem fo403_2:Zn K 403 2=some (2,ti71):=by kernel_rfl
theorem bu403 (ps:List (Nat × W)):Yc K 403 (some ps)=gW (Z9 K 403 ps ti403.zero.cells):=by kernel_rfl
theorem ze403:ti403.zero=(.g (List.replicate 1 (.int .u8 0)++List.replicate 1 (.int .i64 0)++List.replicate 256 (.int .u8 0))):=by rfl
theorem by403:ti403.bytes=272:=by rfl
theorem ty406:K.types.get 406=some ti406:=by kernel_rfl
theorem sz406:ti406.size=6:=by rfl
theorem ag406:ti406.agg=true:=by rfl
theorem fo406_0:Zn K 406 0=some (0,ti168):=by kernel_rfl
theorem fo406_1:Zn K 406 1=some (3,ti3):=by kernel_rfl
theorem fo406_2:Zn K 406 2=some (4,ti3):=by kernel_rfl
theorem fo406_3:Zn K 406 3=some (5,ti162):=by kernel_rfl
theorem bu406 (ps:List (Nat × W)):Yc K 406 (some ps)=gW (Z9 K 406 ps ti406.zero.cells):=by kernel_rfl
theorem ze406:ti406.zero=(.g ([.int .u32 0,.snil,.snil,.int .i64 0,.int .i64 0,.snil])):=by rfl
theorem by406:ti406.bytes=96:=by rfl
attribute [go_sem] ty23 sz23 ag23 de23 ze23 by23 ke23 ty25 sz25 ag25 de25 ze25 by25 ty27 sz27 ag27 de27 ze27 by27 ty29 sz29 ag29 fo29_0 fo29_1 fo29_2 fo29_3 bu29 ze29 by29 ty49 sz49 ag49 de49 ze49 by49 el49 ty51 sz51 ag51 fo51_0 fo51_1 fo51_2 bu51 ze51 by51 ty79 sz79 ag79 fo79_0 fo79_1 fo79_2 bu79 ze79 by79 ty140 sz140 ag140 de140 ze140 by140 el140 ty142 sz142 ag142 fo142_0 fo142_1 fo142_2 fo142_3 bu142 ze142 by142 ty151 sz151 ag151 de151 ze151 by151 ty154 sz154 ag154 de154 ze154 by154 ty157 sz157 ag157 de157 ze157 by157 ty158 sz158 ag158 de158 ze158 by158 el158 ty160 sz160 ag160 fo160_0 fo160_1 fo160_2 bu160 ze160 by160 ty161 sz161 ag161 de161 ze161 by161 ty164 sz164 ag164 fo164_0 fo164_1 fo164_2 fo164_3 bu164 ze164 by164 ty166 sz166 ag166 fo166_0 fo166_1 fo166_2 fo166_3 fo166_4 fo166_5 fo166_6 bu166 ze166 by166 ty169 sz169 ag169 de169 ze169 by169 el169 ty171 sz171 ag171 fo171_0 fo171_1 fo171_2 fo171_3 fo171_4 fo171_5 bu171 ze171 by171 ty173 sz173 ag173 fo173_0 fo173_1 fo173_2 fo173_3 fo173_4 fo173_5 fo173_6 fo173_7 fo173_8 fo173_9 bu173 ze173 by173 ty218 sz218 ag218 fo218_0 fo218_1 fo218_2 bu218 ze218 by218 ty219 sz219 ag219 de219 ze219 by219 el219 ty221 sz221 ag221 fo221_0 fo221_1 fo221_2 fo221_3 bu221 ze221 by221 ty400 sz400 ag400 fo400_0 fo400_1 bu400 ze400 by400 ty402 sz402 ag402 fo402_0 fo402_1 fo402_2 bu402 ze402 by402 ty403 sz403 ag403 fo403_0 fo403_1 fo403_2 bu403 ze403 by403 ty406 sz406 ag406 fo406_0 fo406_1 fo406_2 fo406_3 bu406 ze406 by406
theorem rs10:Tryz.f10.results.toList=[.cell 2 29,.tmp 3]:=rfl
theorem rs24:Tryz.f24.results.toList=[.tmp 2,.tmp 3]:=rfl
theorem rs26:Tryz.f26.results.toList=[.tmp 8,.tmp 9]:=rfl
theorem rs64:Tryz.f64.results.toList=[.tmp 2,.tmp 3]:=rfl
theorem rs65:Tryz.f65.results.toList=[.tmp 2,.tmp 3]:=rfl
attribute [go_sem] rs10 rs24 rs26 rs64 rs65
section
variable (Hh:Hearts K Tryz.prog)
include Hh
theorem Zz0 (h:Go.Ev.H):Ze K Tryz.prog 46 [.g [.int .i64 2,.int .i64 60,.int .i64 8,.int .i64 64]] h (.w (.c (.bool true))) h:=Ze.closed fits Hh Zer gl (n:=20000) (by kernel_rfl) rfl rfl h
theorem Zt2 (h:Go.Ev.H):Ze K Tryz.prog 63 [.g [.int .i64 2,.int .i64 60,.int .i64 8,.int .i64 64]] h (.w (.c (.int .i64 186))) h:=Ze.closed fits Hh Zer gl (n:=20000) (by kernel_rfl) rfl rfl h
theorem Z2n {h:Go.Ev.H} {n:Nat} {L:List (List C)} (hn:h.get n=some (.row 256 L false)) (nl:n<h.next) (Ll:L.length=186) (lf:Yu K 75 (.c (.slice n 0 186 256))=true) :
  ∃ h' q m sz x,Ze K Tryz.prog 24 [.c (.slice n 0 186 256)] h (.tup [.c (.ptr q 0),.c (.int .i64 0)]) h'∧h.next≤q∧q<h'.next∧h'.get q=some (.row sz [x] false)∧read1 sz [x] 0=some (.slice m 0 186 256)∧∀ m,m<h.next→h'.get m=h.get m:=by
 have rm:Bc 256 L 0 256 186=some L:=by rw[←Ll]; exact R7 256 L
 obtain⟨v,h',cc,q,m,sz,x,rfl,q1,q2,q3,q4,hk⟩:∃ v h',Ze K Tryz.prog 24 [.c (.slice n 0 186 256)] h v h'∧∃ q m sz x,v=.tup [.c (.ptr q 0),.c (.int .i64 0)]∧h.next≤q∧q<h'.next∧h'.get q=some (.row sz [x] false)∧read1 sz [x] 0=some (.slice m 0 186 256)∧∀ m,m<h.next→h'.get m=h.get m:=by
  rcases L with _|⟨x0,L⟩
  ·simp at Ll
  ·
   refine Ze.Yi fits Hh (by kernel_rfl) (by kernel_rfl) (by kernel_rfl) (show Tryz.f24.body=some _ from rfl) rfl ?_
   iterate 10 (first|apply Goes.seq|apply Goes.skip|apply Goes.ret|((first|apply Goes.Zm|apply Goes.ops2 fits Hh Zc); · simp (maxSteps:=9^6) +decide (disch:=first|omega|(simp only[lens]<;>omega)|decide) only [go_sem,Zb,Za,simprocAttr,lf,hn,rm,Ll,List.length_append,Nat.zero_add,Zh,Ye,Zx,Uj,Yy,Jn,Sb,Nw,Wn,Su,Y2,Md,Jt,List.replicate_succ,List.replicate_zero,Nat.zero_mul]<;>rfl))
   refine⟨_,_,(by simp (maxSteps:=9^6) +decide (disch:=first|omega|(simp only[lens]<;>omega)|decide) only [go_sem,Zb,Za,simprocAttr]<;>rfl),_,_,_,_,rfl,?_,?_,by first|exact Dw .. | (rw[Uw (by simp only[H.Zg,H.Zr]<;>omega)]),rfl,fun m hm=>by (first|(simp (discharger:=omega) only [H.get_put,H.Zi,H.Yd,H.Zg,H.Zj,H.Zr,if_neg]; done)|(simp only[H.get_put,H.Zi,H.Yd,H.Zg,H.Zj,H.Zr]; (repeat' split)<;>first|rfl|(exfalso; omega)|omega))⟩
   ·first|omega|(simp only[H.Zg,H.Zr]<;>omega)
   ·first|omega|(simp only[H.Zg,H.Zr]<;>omega)
 exact⟨h',q,m,sz,x,cc,q1,q2,q3,q4,hk⟩
theorem Z3s (h:Go.Ev.H):∃ h' r,Ze K Tryz.prog 64 [.c (.int .i64 64)] h (.tup [.c (.ptr r 0),.c (.int .i64 0)]) h'∧h.next≤h'.next∧∀ m,m<h.next→h'.get m=h.get m:=by
 obtain⟨v,h',cc,r,rfl,n1,hk⟩:∃ v h',Ze K Tryz.prog 64 [.c (.int .i64 64)] h v h'∧∃ r,v=.tup [.c (.ptr r 0),.c (.int .i64 0)]∧h.next≤h'.next∧∀ m,m<h.next→h'.get m=h.get m:=by
  refine Ze.Yi fits Hh (by kernel_rfl) (by kernel_rfl) (by kernel_rfl) (show Tryz.f64.body=some _ from rfl) rfl ?_
  iterate 10 (first|apply Goes.seq|apply Goes.skip|apply Goes.ret|((first|apply Goes.Zm|apply Goes.ops2 fits Hh Zc); · simp (maxSteps:=9^6) +decide (disch:=first|omega|(simp only[lens]<;>omega)|decide) only [go_sem,Zb,Za,simprocAttr,Zx]<;>rfl))
  exact⟨_,_,(by simp (maxSteps:=9^6) +decide (disch:=first|omega|(simp only[lens]<;>omega)|decide) only [go_sem,Zb,Za,simprocAttr]<;>rfl),_,rfl,(by first|omega|(simp only[H.Zg,H.Zj]<;>omega)),fun m hm=>by (first|(simp (discharger:=omega) only [H.get_put,H.Zi,H.Yd,H.Zg,H.Zj,H.Zr,if_neg]; done)|(simp only[H.get_put,H.Zi,H.Yd,H.Zg,H.Zj,H.Zr]; (repeat' split)<;>first|rfl|(exfalso; omega)|omega))⟩
 exact⟨h',r,cc,n1,hk⟩
theorem Z23 (h:Go.Ev.H):∃ h' r,Ze K Tryz.prog 65 [.g [.int .i64 2,.int .i64 60,.int .i64 8,.int .i64 64]] h (.tup [.c (.ptr r 0),.c (.int .i64 0)]) h'∧h.next≤h'.next∧∀ m,m<h.next→h'.get m=h.get m:=by
 have cM:=fun h=>Zz0 Hh h
 have rd4':Zb 4 [[.int .i64 2,.int .i64 60,.int .i64 8,.int .i64 64]] 0 4=some [.int .i64 2,.int .i64 60,.int .i64 8,.int .i64 64]:=rfl
 obtain⟨v,h',cc,r,rfl,n1,hk⟩:∃ v h',Ze K Tryz.prog 65 [.g [.int .i64 2,.int .i64 60,.int .i64 8,.int .i64 64]] h v h'∧∃ r,v=.tup [.c (.ptr r 0),.c (.int .i64 0)]∧h.next≤h'.next∧∀ m,m<h.next→h'.get m=h.get m:=by
  refine Ze.Yi fits Hh (by kernel_rfl) (by kernel_rfl) (by kernel_rfl) (show Tryz.f65.body=some _ from rfl) rfl ?_
  iterate 4 (first|apply Goes.seq|(apply Goes.ops2 fits Hh Zc; · simp (maxSteps:=9^6) +decide (disch:=first|omega|(simp only[lens]<;>omega)|decide) only [go_sem,Za,simprocAttr,rd4',Zx]<;>rfl))
  iterate 6 (first|apply Goes.seq|apply Goes.skip|apply Goes.ret|((first|apply Goes.Zm|apply Goes.ops2 fits Hh (J6 Zc cM)); · simp (maxSteps:=9^6) +decide (disch:=first|omega|(simp only[lens]<;>omega)|decide) only [go_sem,Za,simprocAttr,rd4',Zx]<;>rfl))
  exact⟨_,_,(by simp (maxSteps:=9^6) +decide (disch:=first|omega|(simp only[lens]<;>omega)|decide) only [go_sem,Za,simprocAttr]<;>rfl),_,rfl,(by first|omega|(simp only[H.Zg,H.Zj]<;>omega)),fun m hm=>by (first|(simp (discharger:=omega) only [H.get_put,H.Zi,H.Yd,H.Zg,H.Zj,H.Zr,if_neg]; done)|(simp only[H.get_put,H.Zi,H.Yd,H.Zg,H.Zj,H.Zr]; (repeat' split)<;>first|rfl|(exfalso; omega)|omega))⟩
 exact⟨h',r,cc,n1,hk⟩
theorem Z30 {h:Go.Ev.H} {q m sz:Nat} {x:List C} (hq:h.get q=some (.row sz [x] false)) (hx:read1 sz [x] 0=some (.slice m 0 186 256)) (ql:q<h.next) {md:Int} (m1:1≤md) (m3:md≤3) (lf:Yu K 75 (.c (.slice m 0 186 256))=true) :
  ∃ h' s,Ze K Tryz.prog 26 [.c (.ptr q 0),.g [.int .i64 2,.int .i64 60,.int .i64 8,.int .i64 64],.c (.int .u8 md),.c (.int .u32 1)] h (.tup [.c (.ptr s 0),.c (.int .i64 0)]) h'∧h.next≤h'.next∧∀ m,m<h.next→h'.get m=h.get m:=by
 have cM:=fun h=>Zz0 Hh h
 have cB:=fun h=>Zt2 Hh h
 have hx':x[0]? = some (.slice m 0 186 256):=by
  unfold read1 at hx
  rw[Nat.zero_div,Nat.zero_mod,List.getElem?_cons_zero] at hx
  exact hx
 have rd4':Zb 4 [[.int .i64 2,.int .i64 60,.int .i64 8,.int .i64 64]] 0 4=some [.int .i64 2,.int .i64 60,.int .i64 8,.int .i64 64]:=rfl
 obtain⟨v,h',cc,s,rfl,n1,hk⟩:∃ v h',Ze K Tryz.prog 26 [.c (.ptr q 0),.g [.int .i64 2,.int .i64 60,.int .i64 8,.int .i64 64],.c (.int .u8 md),.c (.int .u32 1)] h v h'∧∃ s,v=.tup [.c (.ptr s 0),.c (.int .i64 0)]∧h.next≤h'.next∧∀ m,m<h.next→h'.get m=h.get m:=by
  refine Ze.Yi fits Hh (by kernel_rfl) (by kernel_rfl) (by kernel_rfl) (show Tryz.f26.body=some _ from rfl) rfl ?_
  iterate 4 (first|apply Goes.seq|(apply Goes.ops2 fits Hh Zc; · simp (maxSteps:=9^6) +decide (disch:=first|omega|(simp only[lens]<;>omega)|decide) only [go_sem,Za,simprocAttr,rd4',hq,hx',lf,Nat.zero_div,Nat.zero_mod,Zx,Zh,Ye,read1]<;>rfl))
  iterate 5 (first|apply Goes.seq|apply Goes.skip|((first|apply Goes.Zm|apply Goes.ops2 fits Hh (J6 Zc cM)); · simp (maxSteps:=9^6) +decide (disch:=first|omega|(simp only[lens]<;>omega)|decide) only [go_sem,Za,simprocAttr,rd4',hq,hx',lf,Nat.zero_div,Nat.zero_mod,Zx,Zh,Ye,read1]<;>rfl))
  iterate 4 (first|apply Goes.seq|apply Goes.skip|(apply Goes.Zm; · simp (maxSteps:=9^6) +decide (disch:=first|omega|(simp only[lens]<;>omega)|decide) only [go_sem,Za,simprocAttr,rd4',hq,hx',lf,Nat.zero_div,Nat.zero_mod,Zx,Zh,Ye,read1]<;>rfl)|(apply Goes.drawn2 fits Hh (J6 Zc cB) (by kernel_rfl); · simp (maxSteps:=9^6) +decide (disch:=first|omega|(simp only[lens]<;>omega)|decide) only [go_sem,Za,simprocAttr,drG,rd4',hq,hx',lf,Nat.zero_div,Nat.zero_mod,Zx,Zh,Ye,read1]<;>rfl))
  refine Goes.abs fun hA eA=>?_
  have nA:hA.next=h.next+1:=by rw[eA]; first|rfl|simp only[H.Zj,H.Zg]
  have kA:∀ m,m<h.next→hA.get m=h.get m:=fun m hm=>by rw[eA]; (first|(simp (discharger:=omega) only [H.get_put,H.Zi,H.Yd,H.Zg,H.Zj,H.Zr,if_neg]; done)|(simp only[H.get_put,H.Zi,H.Yd,H.Zg,H.Zj,H.Zr]; (repeat' split)<;>first|rfl|(exfalso; omega)|omega))
  have aA:hA.get h.next=some (.row 4 [[.int .i64 2,.int .i64 60,.int .i64 8,.int .i64 64]] false):=by rw[eA]; simp (maxSteps:=9^6) +decide (disch:=first|omega|(simp only[lens]<;>omega)|decide) only [go_sem,Za,simprocAttr]<;>rfl
  clear eA
  obtain⟨hB,r1,c5,nB,kB⟩:=Z3s Hh hA
  have aB:=(kB h.next (by omega)).trans aA
  obtain⟨hC,r2,c6,nC,kC⟩:=Z23 Hh hB
  have aC:=(kC h.next (by omega)).trans aB
  iterate 2 (first|apply Goes.seq|(apply Goes.ops2 fits Hh (Zt Zc c5); · simp (maxSteps:=9^6) +decide (disch:=first|omega|(simp only[lens]<;>omega)|decide) only [go_sem,Za,simprocAttr,Zy,rd4',hq,hx',lf,Nat.zero_div,Nat.zero_mod,aA,aB,aC,Zx,Zh,Ye,read1]<;>rfl))
  iterate 4 (first|apply Goes.seq|apply Goes.ret|(apply Goes.ops2 fits Hh (Zt Zc c6); · simp (maxSteps:=9^6) +decide (disch:=first|omega|(simp only[lens]<;>omega)|decide) only [go_sem,Za,simprocAttr,Zy,rd4',hq,hx',lf,Nat.zero_div,Nat.zero_mod,aA,aB,aC,Zx,Zh,Ye,read1]<;>rfl))
  exact⟨_,_,(by simp (maxSteps:=9^6) +decide (disch:=first|omega|(simp only[lens]<;>omega)|decide) only [go_sem,Za,simprocAttr]<;>rfl),_,rfl,(by first|omega|(simp only[H.Zg,H.Zj]<;>omega)),fun m hm=>by refine Eq.trans ?_ ((kC m (by omega)).trans ((kB m (by omega)).trans (kA m hm))); (first|(simp (discharger:=omega) only [H.get_put,H.Zi,H.Yd,H.Zg,H.Zj,H.Zr,if_neg]; done)|(simp only[H.get_put,H.Zi,H.Yd,H.Zg,H.Zj,H.Zr]; (repeat' split)<;>first|rfl|(exfalso; omega)|omega))⟩
 exact⟨h',s,cc,n1,hk⟩
end
def stO (n:Nat):Stt:=⟨n+12,n+20,n+21,n+22,.snil,false⟩
def txO (n:Nat):Tx:=⟨n+15,n+16,n+17,n+19,1,false,0,0,.mnil,.mnil,.mnil,.mnil,.pnil⟩
structure ClD (n d d1 d2 a b c e:Nat) (md:Int) (L:List (List C)) (h:Go.Ev.H):Prop where
 st:h.get 0=some Oh
 n0:0<n
 nx:n+23≤h.next
 l1:d<n+5
 l2:d2<n+5
 ht:h.get (n+20)=some (.row 13 [txL (txO n)] false)
 hg:h.get (n+12)=some (.row 9 [gdL ⟨a,b,c,e,md,d,n+8,n+9,n+11⟩] false)
 hc:h.get (n+8)=some (.row 3 [ckL ⟨d,n+6,n+7⟩] false)
 hd:h.get d=some (.row 6 [dkL ⟨d1,d2,2+e+a * b,.snil,0,0⟩] false)
 hq:h.get d2=some (.row 256 L false)
 hli:h.get (n+11)=some (.row 8 [[.bool true,.int .i64 (a:Int),.int .i64 (b:Int),.int .i64 (c:Int),.int .i64 (e:Int),.bool false,.int .u32 0,.snil]] false)
 hm:h.get (n+6)=some (.map [])
 hfr:h.get (n+17)=some (.map [])
 hod:h.get (n+16)=some (.map [])
 hrv:h.get (n+19)=some (.row 1 [[.map (n+18)]] false)
 hrc:h.get (n+18)=some (.map [])
 hs:h.get (n+13)=some (.row 8 [stL (stO n)] false)
 hdt:h.get (n+21)=some (.map [])
 hgv:h.get (n+22)=some (.map [])
 hch:h.get (n+15)=some (.map [])
theorem ClD.keep {n d d1 d2 a b c e:Nat} {md:Int} {L:List (List C)} {h h2:Go.Ev.H} (M:ClD n d d1 d2 a b c e md L h) (hx:h.next≤h2.next) (k:∀ m,m<n+23→h2.get m=h.get m):ClD n d d1 d2 a b c e md L h2:=by
 obtain⟨f1,f2,f3,l1,l2,f4,f5,f6,f7,f8,f9,f10,f11,f12,f13,f14,f15,f16,f17,f18⟩:=M
 refine⟨?_,f2,by omega,l1,l2,?_,?_,?_,?_,?_,?_,?_,?_,?_,?_,?_,?_,?_,?_,?_⟩
 all_goals (rw[k _ (by omega)]; assumption)
theorem ClD.but {n d d1 d2 a b c e w:Nat} {md:Int} {L:List (List C)} {h h2:Go.Ev.H} (M:ClD n d d1 d2 a b c e md L h) (hx:h.next≤h2.next) (wl:w<n+5∧w≠d∧w≠d2∧0<w) (k:∀ m,m<n+23→m≠w→h2.get m=h.get m):ClD n d d1 d2 a b c e md L h2:=by
 obtain⟨f1,f2,f3,l1,l2,f4,f5,f6,f7,f8,f9,f10,f11,f12,f13,f14,f15,f16,f17,f18⟩:=M
 refine⟨?_,f2,by omega,l1,l2,?_,?_,?_,?_,?_,?_,?_,?_,?_,?_,?_,?_,?_,?_,?_⟩
 all_goals (rw[k _ (by omega) (by omega)]; assumption)
theorem Z3z {h:Go.Ev.H} (l5:6≤h.next) (hst:h.get 0=some Oh) {d d1 d2 a b c e:Nat} {L:List (List C)} (ld:d<h.next) (ld2:d2<h.next) (hd:h.get d=some (.row 6 [dkL ⟨d1,d2,2+e+a * b,.snil,0,0⟩] false)) (hq:h.get d2=some (.row 256 L false)) (md:Int):ClD (h.next - 5) d d1 d2 a b c e md L (Sm h d a b c e md 1)∧h.next≤(Sm h d a b c e md 1).next∧∀ m,m<h.next→(Sm h d a b c e md 1).get m=h.get m:=by
 have kk:∀ m,m<h.next→(Sm h d a b c e md 1).get m=h.get m:=fun m hm=>by
  unfold Sm
  simp (discharger:=omega) only [H.get_put,H.Zi,H.Zg,H.Zj,if_neg]
 obtain⟨n,hn⟩:∃ n,h.next=n+5:=⟨h.next - 5,by omega⟩
 rw[show h.next - 5=n by omega]
 refine⟨⟨(kk 0 (by omega)).trans hst,?_,?_,by omega,by omega,?_,?_,?_,(kk d ld).trans hd,(kk d2 ld2).trans hq,?_,?_,?_,?_,?_,?_,?_,?_,?_,?_⟩,?_,kk⟩
 ·omega
 ·unfold Sm; simp only[H.Zj,H.Zg]; omega
 all_goals (unfold Sm; first|(simp only[H.Zj,H.Zg]; omega)|(simp (discharger:=omega) only [H.get_put,H.Zi,H.Zg,H.Zj,hn,if_neg,if_pos,if_true]; rfl)|(simp (discharger:=omega) only [H.get_put,H.Zi,H.Zg,H.Zj,hn,if_neg,if_pos,if_true]))
section
variable (Hh:Hearts K Tryz.prog)
include Hh
theorem Zxr {md:Int} (m1:1≤md) (m3:md≤3) {h:Go.Ev.H} (hst:h.get 0=some Oh) (l0:0<h.next) (lf:∀ p,Yu K 75 (.c (.slice p 0 186 256))=true) (lt:Yu K 49 (.c .snil)=true) :
  ∃ h' n d d1 d2 r q,Ze K Tryz.prog 10 [.g [.int .i64 2,.int .i64 60,.int .i64 8,.int .i64 64,.int .u8 md,.snil]] h (.tup [.g [.ptr (n+13) 0,.ptr r 0,.ptr d 0,.ptr q 0],.c (.bool true)]) h'∧ClD n d d1 d2 2 60 8 64 md Vi h'∧h.next≤n∧∀ m,m<h.next→h'.get m=h.get m:=by
 have cM:∀ h,Ze K Tryz.prog 22 [.g [.int .i64 2,.int .i64 60,.int .i64 8,.int .i64 64]] h (.tup [.c (.slice h.next 0 186 256),.c (.int .i64 0)]) (h.new (.row 256 Vi false)):=fun h=>Zvg Hh rfl
 have r64:Zb 6 [[.int .i64 2,.int .i64 60,.int .i64 8,.int .i64 64,.int .u8 md,.snil]] 0 4=some [.int .i64 2,.int .i64 60,.int .i64 8,.int .i64 64]:=rfl
 have r44:∀ a b c d:C,Zb 4 [[a,b,c,d]] 0 4=some [a,b,c,d]:=fun _ _ _ _=>rfl
 have il:Vi.length=186:=by kernel_rfl
 have im:imB Vi=true:=by kernel_rfl
 have f4:Y4 2 60 8 64=true:=by kernel_rfl
 obtain⟨I,hI⟩:∃ I,Vi=I:=⟨_,rfl⟩
 simp only[hI] at cM il im ⊢
 obtain⟨v,h',cc,n,d,d1,d2,r,q,rfl,M,nn,hk⟩:∃ v h',Ze K Tryz.prog 10 [.g [.int .i64 2,.int .i64 60,.int .i64 8,.int .i64 64,.int .u8 md,.snil]] h v h'∧∃ n d d1 d2 r q,v=.tup [.g [.ptr (n+13) 0,.ptr r 0,.ptr d 0,.ptr q 0],.c (.bool true)]∧ClD n d d1 d2 2 60 8 64 md I h'∧h.next≤n∧∀ m,m<h.next→h'.get m=h.get m:=by
  refine Ze.Yi fits Hh (by kernel_rfl) (by kernel_rfl) (by kernel_rfl) (show Tryz.f10.body=some _ from rfl) rfl ?_
  iterate 3 (first|apply Goes.seq|(apply Goes.ops2 fits Hh Zc; · simp (maxSteps:=9^6) +decide (disch:=first|omega|(simp only[lens]<;>omega)|decide) only [go_sem,Za,simprocAttr,r64,il,im,f4,lf,lt,Zx,Zh,Ye,read1]<;>rfl))
  iterate 17 (first|apply Goes.seq|apply Goes.skip|apply Goes.block|apply Goes.exit|apply Goes.loop|((first|apply Goes.Zm|apply Goes.ops2 fits Hh (J6 Zc cM)); · simp (maxSteps:=9^6) +decide (disch:=first|omega|(simp only[lens]<;>omega)|decide) only [go_sem,Za,simprocAttr,r64,il,im,f4,lf,lt,Zx,Zh,Ye,read1]<;>rfl))
  iterate 2 (first|apply Goes.seq|(apply Goes.ops2 fits Hh (Zf Zc (fun _ _ _ _=>Zq8 Hh)); · simp (maxSteps:=9^6) +decide (disch:=first|omega|(simp only[lens]<;>omega)|decide) only [go_sem,Za,simprocAttr,r64,il,im,f4,lf,lt,Zx,Zh,Ye,read1]<;>rfl))
  refine Goes.abs fun hA eA=>?_
  have nA:hA.next=h.next+6:=by rw[eA]; simp only[H.Zj,H.Zg]
  have kA:∀ m,m<h.next→hA.get m=h.get m:=fun m hm=>by rw[eA]; simp (disch:=first|omega|(simp only[lens]<;>omega)) only [go_sem]
  have b0:hA.get h.next=some (.row 6 [[.int .i64 2,.int .i64 60,.int .i64 8,.int .i64 64,.int .u8 md,.snil]] false):=by rw[eA]; simp (maxSteps:=9^6) +decide (disch:=first|omega|(simp only[lens]<;>omega)|decide) only [go_sem,Za,simprocAttr]<;>rfl
  obtain⟨w,wl,b1⟩:∃ w:List C,w.length=4∧hA.get (h.next+1)=some (.row 4 [w] false):=⟨_,rfl,by rw[eA]; simp (maxSteps:=9^6) +decide (disch:=first|omega|(simp only[lens]<;>omega)|decide) only [go_sem,Za,simprocAttr]<;>rfl⟩
  have b2:hA.get (h.next+2)=some (.row 256 I false):=by rw[eA]; simp (maxSteps:=9^6) +decide (disch:=first|omega|(simp only[lens]<;>omega)|decide) only [go_sem,Za,simprocAttr]<;>rfl
  have b4:hA.get (h.next+4)=some (.row 256 I false):=by rw[eA]; simp (maxSteps:=9^6) +decide (disch:=first|omega|(simp only[lens]<;>omega)|decide) only [go_sem,Za,simprocAttr,il,im]<;>rfl
  have b5:hA.get (h.next+5)=some (.row 6 [dkL ⟨h.next+3,h.next+4,186,.snil,0,0⟩] false):=by rw[eA]; simp (maxSteps:=9^6) +decide (disch:=first|omega|(simp only[lens]<;>omega)|decide) only [go_sem,Za,simprocAttr,il,im]<;>rfl
  have sA:=(kA 0 l0).trans hst
  clear eA
  obtain⟨hB,q,m,sz,x,c11,q1,q2,q3,q4,kB⟩:=Z2n Hh b2 (by omega) il (lf _)
  have B0:=(kB h.next (by omega)).trans b0
  have B4:=(kB _ (by omega)).trans b4
  have B5:=(kB _ (by omega)).trans b5
  have sB:=(kB 0 (by omega)).trans sA
  obtain⟨N,hN⟩:∃ N,hB.next=N+5:=⟨hB.next - 5,by omega⟩
  iterate 7 (first|apply Goes.seq|apply Goes.skip|((first|apply Goes.Zm|apply Goes.ops2 fits Hh (Zt Zc c11)); · simp (maxSteps:=9^6) +decide (disch:=first|omega|(simp only[lens]<;>omega)|decide) only [go_sem,Za,simprocAttr,Zy,r64,il,im,f4,lf,lt,b0,B0,B5,Zx,Zh,Ye,read1]<;>rfl))
  iterate 2 (first|apply Goes.seq|(apply Goes.ops2 fits Hh (Zf Zc (fun _ _ _ _=>Zw5 Hh)); · simp (maxSteps:=9^6) +decide (disch:=first|omega|(simp only[lens]<;>omega)|decide) only [go_sem,Za,simprocAttr,r64,il,im,f4,lf,lt,b0,B0,B5,Zx,Zh,Ye,read1]<;>rfl))
  refine Goes.abs fun hC eC=>?_
  have ND:=Z3z (h:=hB) (by omega) sB (d:=h.next+5) (d1:=h.next+3) (d2:=h.next+4) (a:=2) (b:=60) (c:=8) (e:=64) (L:=I) (by omega) (by omega) B5 B4 md
  have eC':hC=Sm hB (h.next+5) 2 60 8 64 md 1:=eC
  rw[←eC',show hB.next - 5=N by omega] at ND
  obtain⟨MC,nC,kC⟩:=ND
  clear eC eC'
  have C0:=(kC h.next (by omega)).trans B0
  have Cq:=(kC q q2).trans q3
  obtain⟨hD,s,c15,nD,kD⟩:=Z30 Hh Cq q4 (by omega) m1 m3 (lf _)
  have D1:=(kD (h.next+1) (by omega)).trans ((kC _ (by omega)).trans ((kB _ (by omega)).trans b1))
  have nB6:h.next+6≤hD.next:=by omega
  iterate 4 (first|apply Goes.seq|apply Goes.ret|(apply Goes.ops2 fits Hh (Zt Zc c15); · simp (maxSteps:=9^6) +decide (disch:=first|omega|(simp only[lens]<;>omega)|decide) only [go_sem,Za,simprocAttr,Zy,r64,il,im,f4,lf,lt,b0,B0,B5,C0,D1,wl,r44,Zx,Zh,Ye,read1]<;>rfl))
  refine⟨_,_,(by simp (maxSteps:=9^6) +decide (disch:=first|omega|(simp only[lens]<;>omega)|decide) only [go_sem,Za,simprocAttr,r44]<;>rfl),N,h.next+5,h.next+3,h.next+4,s,q,?_,(MC.keep nD fun m hm=>kD m (by have:=MC.nx; omega)).but (w:=h.next+1) ?_ ⟨by omega,by omega,by omega,by omega⟩ (fun m hm hne=>?_),by omega,fun m hm=>?_⟩
  ·rw[hN]
  ·first|omega|(simp only[H.Zj,H.Zg]<;>omega)
  ·simp (disch:=first|omega|(simp only[lens]<;>omega)) only [go_sem]
  ·refine Eq.trans ?_ ((kD m (by omega)).trans ((kC m (by omega)).trans ((kB m (by omega)).trans (kA m hm)))); simp (disch:=first|omega|(simp only[lens]<;>omega)) only [go_sem]
 exact⟨h',n,d,d1,d2,r,q,cc,M,nn,hk⟩
end
noncomputable def Zbd (n:Nat) (h:Go.Ev.H) (cr:Cr):Go.Ev.H:=Zcn (Li h (n+13) (stO n)) (n+20) (txO n) cr.c cr.r
theorem Ow {n m:Nat} {h:Go.Ev.H} (nx:n+23≤h.next) (hm:m<h.next) (m1:m≠n+13) (m2:m≠n+20) (cr:Cr):(Zbd n h cr).get m=h.get m:=by
 unfold Zbd Zcn Du Li
 simp (discharger:=omega) only [H.get_put,H.Zi,H.Zg,H.Zj,if_neg]
section
variable {n d d1 d2 a b c e:Nat} {md:Int} {cr:Cr} {L:List (List C)} {h h2:Go.Ev.H}
theorem ClD.beg (M:ClD n d d1 d2 a b c e md L h) (fb:Y4 a b c e=true) {s:Int} (sz:Zgp cr.c cr.r=some s) (sj:s≤(e:Int) - 1):Qu [.c (.ptr (n+13) 0),.c (.int .i64 cr.c),.c (.int .i64 cr.r)] h=some (.w (.c (.int .i64 0)),Zbd n h cr):=by
 obtain⟨f1,f2,f3,l1,l2,f4,f5,f6,f7,f8,f9,f10,f11,f12,f13,f14,f15,f16,f17,f18⟩:=M
 have s9:decide (s≤(e:Int) - 1)=true:=decide_eq_true sj
 unfold Qu Zbd
 simp (maxSteps:=9^6) +decide (disch:=first|omega|(simp only[lens]<;>omega)|decide) only [go_sem,Zb,Za,simprocAttr,f15,stO,f4,txO,f5,gdL,f12,f13,f14,f11,f18,fb,sz,s9]<;>rfl
theorem ClD.begun (M:ClD n d d1 d2 a b c e md L h) {S:List Nat} {V:Nat→List Nat} (Sc:(S.length:Int)≤cr.c) (see:∀ z,z<2+e+a * b→O6 a b c e (z:Int)=true→(V z).length=256∧L[z]? = some (pgL (V z))):HE n h.next a b c e cr md S [] V (Zbd n h cr):=by
 obtain⟨f1,f2,f3,l1,l2,f4,f5,f6,f7,f8,f9,f10,f11,f12,f13,f14,f15,f16,f17,f18⟩:=M
 refine⟨d,d1,d2,false,[],[],[],[],L,rfl,Zv4 L,rfl,rfl,rfl,(fun _ _ e=>by cases e),rfl,(fun _ _ e=>by cases e),Sc,(fun _ _ e=>by cases e),fun z z1 hz=>⟨(see z z1 hz).1,.inr ⟨rfl,.inr ⟨rfl,(see z z1 hz).2⟩⟩⟩,?_,f2,f3,?_,l1,l2,?_,?_,?_,?_,?_,?_,?_,?_,?_,?_,?_,?_,?_,?_,?_,?_,?_⟩
 ·rw[Ow f3 (by omega) (by omega) (by omega)]; exact f1
 ·unfold Zbd Zcn Du Li; simp only[H.Zg,H.Zj]; omega
 ·unfold Zbd Zcn Du Li; simp (discharger:=omega) only [H.get_put,H.Zi,H.Zg,H.Zj,if_neg,if_pos]; rfl
 ·rw[Ow f3 (by omega) (by omega) (by omega)]; exact f5
 ·rw[Ow f3 (by omega) (by omega) (by omega)]; exact f6
 ·rw[Ow f3 (by omega) (by omega) (by omega)]; exact f7
 ·rw[Ow f3 (by omega) (by omega) (by omega)]; exact f8
 ·rw[Ow f3 (by omega) (by omega) (by omega)]; exact f9
 ·unfold Zbd Zcn Du Li; simp (discharger:=omega) only [H.get_put,H.Zi,H.Zg,H.Zj,if_neg,if_pos,if_true]
 ·rw[Ow f3 (by omega) (by omega) (by omega)]; exact f11
 ·rw[Ow f3 (by omega) (by omega) (by omega)]; exact f12
 ·rw[Ow f3 (by omega) (by omega) (by omega)]; exact f13
 ·rw[Ow f3 (by omega) (by omega) (by omega)]; exact f14
 ·unfold Zbd Zcn Du Li; simp (discharger:=omega) only [H.get_put,H.Zi,H.Zg,H.Zj,if_neg,if_pos,if_true]; rfl
 ·unfold Zbd Zcn Du Li; simp (discharger:=omega) only [H.get_put,H.Zi,H.Zg,H.Zj,if_neg,if_pos,if_true]
 ·rw[Ow f3 (by omega) (by omega) (by omega)]; exact f10
 ·unfold Zbd Zcn Du Li; simp (discharger:=omega) only [H.get_put,H.Zi,H.Zg,H.Zj,if_neg,if_pos]; rfl
 ·unfold Zbd Zcn Du Li; simp (discharger:=omega) only [H.get_put,H.Zi,H.Zg,H.Zj,if_neg,if_pos,if_true]; rfl
 ·rw[Ow f3 (by omega) (by omega) (by omega)]; exact f18
end
noncomputable def V4 (z:Nat):List Nat:=unN ((Vi[z]?).getD [])
theorem Z0v:∀ z,z<186→(V4 z).length=256∧Vi[z]? = some (pgL (V4 z)):=by
 have il:Vi.length=186:=by kernel_rfl
 have ib:Vi.all (fun x=>Nat.beq x.length 256&&Zki x)=true:=by kernel_rfl
 intro z hz
 have hx:Vi[z]? = some Vi[z]:=List.getElem?_eq_getElem (by omega)
 have:=List.all_eq_true.1 ib _ (List.getElem_mem (by omega:z<Vi.length))
 rw[Bool.and_eq_true] at this
 obtain⟨ns,e,nl⟩:=Zc8 this.2
 have xl:=Nat.eq_of_beq_eq_true this.1
 have hx':Vi[z]? = some (pgL ns):=hx.trans (congrArg some e)
 have v:V4 z=ns.map (· % 256):=by unfold V4; rw[hx',Option.getD_some,Oz]
 rw[v]
 refine⟨by rw[List.length_map,nl]; exact xl,?_⟩
 rw[hx',Zjj]
end Go.Proofs.YtgikjeaipmeclaaGreatDoor
