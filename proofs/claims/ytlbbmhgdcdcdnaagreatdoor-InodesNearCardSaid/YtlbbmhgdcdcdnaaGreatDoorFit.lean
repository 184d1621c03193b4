/- quernref05.May of a geometry that may not be; Blocks of one that may. -/
import Derived.Test.YtlbbmhgdcdcdnaaGreatDoorRGeoA
import Derived.Test.YtlbbmhgdcdcdnaaGreatDoorSto
set_option linter.unusedSimpArgs false
set_option linter.unusedVariables false
set_option linter.unusedSectionVars false
set_option maxRecDepth 100000
set_option maxHeartbeats 4000000
namespace Go.Proofs.YtlbbmhgdcdcdnaaGreatDoor
open Go.Ev
theorem ty99:K.types.get 99=some ti99:=by kernel_rfl
theorem sz99:ti99.size=1:=by rfl
theorem ag99:ti99.agg=false:=by rfl
theorem de99:ti99.desc=(.slice 149):=by rfl
theorem ze99:ti99.zero=(.c (.snil)):=by rfl
theorem by99:ti99.bytes=24:=by rfl
theorem el99:elemTI K 99=some ti149:=by kernel_rfl
theorem ty149:K.types.get 149=some ti149:=by kernel_rfl
theorem sz149:ti149.size=4:=by rfl
theorem ag149:ti149.agg=true:=by rfl
theorem fo149_0:fieldOf K 149 0=some (0,ti5):=by kernel_rfl
theorem fo149_1:fieldOf K 149 1=some (1,ti3):=by kernel_rfl
theorem fo149_2:fieldOf K 149 2=some (2,ti3):=by kernel_rfl
theorem fo149_3:fieldOf K 149 3=some (3,ti3):=by kernel_rfl
theorem bu149 (ps:List (Nat × W)):opBuild K 149 (some ps)=gW (fillStruct K 149 ps ti149.zero.cells):=by kernel_rfl
theorem ze149:ti149.zero=(.g ([.int .u8 0,.int .i64 0,.int .i64 0,.int .i64 0])):=by rfl
theorem by149:ti149.bytes=32:=by rfl
attribute [go_sem] ty99 sz99 ag99 de99 ze99 by99 el99 ty149 sz149 ag149 fo149_0 fo149_1 fo149_2 fo149_3 bu149 ze149 by149
noncomputable def q15 (p:List Nat):Code:=piece p (bodyOf Tryz.f15)
theorem q15_:q15 []=.seq (q15 [0]) (q15 [1]):=by kernel_rfl
theorem q15_0:q15 [0]=.region 0 (opsA (q15 [0])) false:=by kernel_rfl
theorem q15_1:q15 [1]=.seq (q15 [1,0]) (q15 [1,1]):=by kernel_rfl
theorem q15_10:q15 [1,0]=.region 1 (opsA (q15 [1,0])) false:=by kernel_rfl
theorem q15_11:q15 [1,1]=.ret:=by kernel_rfl
theorem rs15:Tryz.f15.results.toList=[.tmp 2]:=rfl
attribute [go_sem] rs15
def fineI (a b c d:Int):Bool:=decide (0≤a)&&decide (0≤b)&&decide (0≤c)&&decide (0≤d)&&fineB a.toNat b.toNat c.toNat d.toNat
theorem fineI_nat (a b c d:Nat):fineI a b c d=fineB a b c d:=by
 unfold fineI
 rw[decide_eq_true (by omega:(0:Int)≤(a:Int)),decide_eq_true (by omega:(0:Int)≤(b:Int)),decide_eq_true (by omega:(0:Int)≤(c:Int)),decide_eq_true (by omega:(0:Int)≤(d:Int))]
 simp only[Bool.true_and,Int.toNat_natCast]
section
variable (Hh:Hearts K Tryz.prog)
include Hh
set_option maxHeartbeats 4000000 in
theorem mayNot (a b c d:Int) (h:Go.Ev.H) (nf:¬(0≤a∧0≤b∧0≤c∧0≤d∧Fine a.toNat b.toNat c.toNat d.toNat)):CallOk K Tryz.prog 14 [.g [.int .i64 a,.int .i64 b,.int .i64 c,.int .i64 d]] h (.w (.c (.bool false))) h:=by
 obtain⟨v,h',cc,rfl,hk⟩:∃ v h',CallOk K Tryz.prog 14 [.g [.int .i64 a,.int .i64 b,.int .i64 c,.int .i64 d]] h v h'∧v=.w (.c (.bool false))∧∀ m,m<h.next→h'.get m=h.get m:=by
  by_cases c0:a<1
  ·
   refine CallOk.goesE fits Hh (by kernel_rfl) (by kernel_rfl) (by kernel_rfl) (show Tryz.f14.body=some _ from rfl) rfl ?_
   repeat (first
    | refine Goes.seq ?_
    | refine Goes.block ?_
    | refine Goes.loop ?_
    | refine Goes.skip ?_
    | refine Goes.exit ?_
    | refine Goes.ret ?_
    | refine Goes.condV (by simp (maxSteps:=9^6) +decide (disch:=first|omega|(simp only[lens]<;>omega)|decide) only [go_sem,readRow,loadIn,simprocAttr,read1,opBox]<;>rfl) ?_
    | refine Goes.ops2 fits Hh E0_sound (by simp (maxSteps:=9^6) +decide (disch:=first|omega|(simp only[lens]<;>omega)|decide) only [go_sem,readRow,loadIn,simprocAttr,read1,opBox]; rfl) ?_)
   exact⟨_,_,(by simp (maxSteps:=9^6) +decide (disch:=first|omega|(simp only[lens]<;>omega)|decide) only [go_sem,readRow,loadIn,simprocAttr]<;>rfl),rfl,fun m hm=>by (first|(simp (discharger:=omega) only [H.get_put,H.get_new,H.get_del,H.next_new,H.next_put,H.next_del,if_neg]; done)|(simp only[H.get_put,H.get_new,H.get_del,H.next_new,H.next_put,H.next_del]; (repeat' split)<;>first|rfl|(exfalso; omega)|omega))⟩
  by_cases c1:4<a
  ·
   refine CallOk.goesE fits Hh (by kernel_rfl) (by kernel_rfl) (by kernel_rfl) (show Tryz.f14.body=some _ from rfl) rfl ?_
   repeat (first
    | refine Goes.seq ?_
    | refine Goes.block ?_
    | refine Goes.loop ?_
    | refine Goes.skip ?_
    | refine Goes.exit ?_
    | refine Goes.ret ?_
    | refine Goes.condV (by simp (maxSteps:=9^6) +decide (disch:=first|omega|(simp only[lens]<;>omega)|decide) only [go_sem,readRow,loadIn,simprocAttr,read1,opBox]<;>rfl) ?_
    | refine Goes.ops2 fits Hh E0_sound (by simp (maxSteps:=9^6) +decide (disch:=first|omega|(simp only[lens]<;>omega)|decide) only [go_sem,readRow,loadIn,simprocAttr,read1,opBox]; rfl) ?_)
   exact⟨_,_,(by simp (maxSteps:=9^6) +decide (disch:=first|omega|(simp only[lens]<;>omega)|decide) only [go_sem,readRow,loadIn,simprocAttr]<;>rfl),rfl,fun m hm=>by (first|(simp (discharger:=omega) only [H.get_put,H.get_new,H.get_del,H.next_new,H.next_put,H.next_del,if_neg]; done)|(simp only[H.get_put,H.get_new,H.get_del,H.next_new,H.next_put,H.next_del]; (repeat' split)<;>first|rfl|(exfalso; omega)|omega))⟩
  by_cases c2:b<16
  ·
   refine CallOk.goesE fits Hh (by kernel_rfl) (by kernel_rfl) (by kernel_rfl) (show Tryz.f14.body=some _ from rfl) rfl ?_
   repeat (first
    | refine Goes.seq ?_
    | refine Goes.block ?_
    | refine Goes.loop ?_
    | refine Goes.skip ?_
    | refine Goes.exit ?_
    | refine Goes.ret ?_
    | refine Goes.condV (by simp (maxSteps:=9^6) +decide (disch:=first|omega|(simp only[lens]<;>omega)|decide) only [go_sem,readRow,loadIn,simprocAttr,read1,opBox]<;>rfl) ?_
    | refine Goes.ops2 fits Hh E0_sound (by simp (maxSteps:=9^6) +decide (disch:=first|omega|(simp only[lens]<;>omega)|decide) only [go_sem,readRow,loadIn,simprocAttr,read1,opBox]; rfl) ?_)
   exact⟨_,_,(by simp (maxSteps:=9^6) +decide (disch:=first|omega|(simp only[lens]<;>omega)|decide) only [go_sem,readRow,loadIn,simprocAttr]<;>rfl),rfl,fun m hm=>by (first|(simp (discharger:=omega) only [H.get_put,H.get_new,H.get_del,H.next_new,H.next_put,H.next_del,if_neg]; done)|(simp only[H.get_put,H.get_new,H.get_del,H.next_new,H.next_put,H.next_del]; (repeat' split)<;>first|rfl|(exfalso; omega)|omega))⟩
  by_cases c3:512<b
  ·
   refine CallOk.goesE fits Hh (by kernel_rfl) (by kernel_rfl) (by kernel_rfl) (show Tryz.f14.body=some _ from rfl) rfl ?_
   repeat (first
    | refine Goes.seq ?_
    | refine Goes.block ?_
    | refine Goes.loop ?_
    | refine Goes.skip ?_
    | refine Goes.exit ?_
    | refine Goes.ret ?_
    | refine Goes.condV (by simp (maxSteps:=9^6) +decide (disch:=first|omega|(simp only[lens]<;>omega)|decide) only [go_sem,readRow,loadIn,simprocAttr,read1,opBox]<;>rfl) ?_
    | refine Goes.ops2 fits Hh E0_sound (by simp (maxSteps:=9^6) +decide (disch:=first|omega|(simp only[lens]<;>omega)|decide) only [go_sem,readRow,loadIn,simprocAttr,read1,opBox]; rfl) ?_)
   exact⟨_,_,(by simp (maxSteps:=9^6) +decide (disch:=first|omega|(simp only[lens]<;>omega)|decide) only [go_sem,readRow,loadIn,simprocAttr]<;>rfl),rfl,fun m hm=>by (first|(simp (discharger:=omega) only [H.get_put,H.get_new,H.get_del,H.next_new,H.next_put,H.next_del,if_neg]; done)|(simp only[H.get_put,H.get_new,H.get_del,H.next_new,H.next_put,H.next_del]; (repeat' split)<;>first|rfl|(exfalso; omega)|omega))⟩
  by_cases c4:c<4
  ·
   refine CallOk.goesE fits Hh (by kernel_rfl) (by kernel_rfl) (by kernel_rfl) (show Tryz.f14.body=some _ from rfl) rfl ?_
   repeat (first
    | refine Goes.seq ?_
    | refine Goes.block ?_
    | refine Goes.loop ?_
    | refine Goes.skip ?_
    | refine Goes.exit ?_
    | refine Goes.ret ?_
    | refine Goes.condV (by simp (maxSteps:=9^6) +decide (disch:=first|omega|(simp only[lens]<;>omega)|decide) only [go_sem,readRow,loadIn,simprocAttr,read1,opBox]<;>rfl) ?_
    | refine Goes.ops2 fits Hh E0_sound (by simp (maxSteps:=9^6) +decide (disch:=first|omega|(simp only[lens]<;>omega)|decide) only [go_sem,readRow,loadIn,simprocAttr,read1,opBox]; rfl) ?_)
   exact⟨_,_,(by simp (maxSteps:=9^6) +decide (disch:=first|omega|(simp only[lens]<;>omega)|decide) only [go_sem,readRow,loadIn,simprocAttr]<;>rfl),rfl,fun m hm=>by (first|(simp (discharger:=omega) only [H.get_put,H.get_new,H.get_del,H.next_new,H.next_put,H.next_del,if_neg]; done)|(simp only[H.get_put,H.get_new,H.get_del,H.next_new,H.next_put,H.next_del]; (repeat' split)<;>first|rfl|(exfalso; omega)|omega))⟩
  by_cases c5:64<c
  ·
   refine CallOk.goesE fits Hh (by kernel_rfl) (by kernel_rfl) (by kernel_rfl) (show Tryz.f14.body=some _ from rfl) rfl ?_
   repeat (first
    | refine Goes.seq ?_
    | refine Goes.block ?_
    | refine Goes.loop ?_
    | refine Goes.skip ?_
    | refine Goes.exit ?_
    | refine Goes.ret ?_
    | refine Goes.condV (by simp (maxSteps:=9^6) +decide (disch:=first|omega|(simp only[lens]<;>omega)|decide) only [go_sem,readRow,loadIn,simprocAttr,read1,opBox]<;>rfl) ?_
    | refine Goes.ops2 fits Hh E0_sound (by simp (maxSteps:=9^6) +decide (disch:=first|omega|(simp only[lens]<;>omega)|decide) only [go_sem,readRow,loadIn,simprocAttr,read1,opBox]; rfl) ?_)
   exact⟨_,_,(by simp (maxSteps:=9^6) +decide (disch:=first|omega|(simp only[lens]<;>omega)|decide) only [go_sem,readRow,loadIn,simprocAttr]<;>rfl),rfl,fun m hm=>by (first|(simp (discharger:=omega) only [H.get_put,H.get_new,H.get_del,H.next_new,H.next_put,H.next_del,if_neg]; done)|(simp only[H.get_put,H.get_new,H.get_del,H.next_new,H.next_put,H.next_del]; (repeat' split)<;>first|rfl|(exfalso; omega)|omega))⟩
  obtain⟨c,rfl⟩:=Int.eq_ofNat_of_zero_le (show 0≤c by omega)
  by_cases c6:c % 4≠0
  ·
   refine CallOk.goesE fits Hh (by kernel_rfl) (by kernel_rfl) (by kernel_rfl) (show Tryz.f14.body=some _ from rfl) rfl ?_
   repeat (first
    | refine Goes.seq ?_
    | refine Goes.block ?_
    | refine Goes.loop ?_
    | refine Goes.skip ?_
    | refine Goes.exit ?_
    | refine Goes.ret ?_
    | refine Goes.condV (by simp (maxSteps:=9^6) +decide (disch:=first|omega|(simp only[lens]<;>omega)|decide) only [go_sem,readRow,loadIn,simprocAttr,read1,opBox]<;>rfl) ?_
    | refine Goes.ops2 fits Hh E0_sound (by simp (maxSteps:=9^6) +decide (disch:=first|omega|(simp only[lens]<;>omega)|decide) only [go_sem,readRow,loadIn,simprocAttr,read1,opBox]; rfl) ?_)
   exact⟨_,_,(by simp (maxSteps:=9^6) +decide (disch:=first|omega|(simp only[lens]<;>omega)|decide) only [go_sem,readRow,loadIn,simprocAttr]<;>rfl),rfl,fun m hm=>by (first|(simp (discharger:=omega) only [H.get_put,H.get_new,H.get_del,H.next_new,H.next_put,H.next_del,if_neg]; done)|(simp only[H.get_put,H.get_new,H.get_del,H.next_new,H.next_put,H.next_del]; (repeat' split)<;>first|rfl|(exfalso; omega)|omega))⟩
  have c6:c % 4=0:=by omega
  by_cases c7:d<40
  ·
   refine CallOk.goesE fits Hh (by kernel_rfl) (by kernel_rfl) (by kernel_rfl) (show Tryz.f14.body=some _ from rfl) rfl ?_
   repeat (first
    | refine Goes.seq ?_
    | refine Goes.block ?_
    | refine Goes.loop ?_
    | refine Goes.skip ?_
    | refine Goes.exit ?_
    | refine Goes.ret ?_
    | refine Goes.condV (by simp (maxSteps:=9^6) +decide (disch:=first|omega|(simp only[lens]<;>omega)|decide) only [go_sem,readRow,loadIn,simprocAttr,read1,opBox]<;>rfl) ?_
    | refine Goes.ops2 fits Hh E0_sound (by simp (maxSteps:=9^6) +decide (disch:=first|omega|(simp only[lens]<;>omega)|decide) only [go_sem,readRow,loadIn,simprocAttr,read1,opBox]; rfl) ?_)
   exact⟨_,_,(by simp (maxSteps:=9^6) +decide (disch:=first|omega|(simp only[lens]<;>omega)|decide) only [go_sem,readRow,loadIn,simprocAttr]<;>rfl),rfl,fun m hm=>by (first|(simp (discharger:=omega) only [H.get_put,H.get_new,H.get_del,H.next_new,H.next_put,H.next_del,if_neg]; done)|(simp only[H.get_put,H.get_new,H.get_del,H.next_new,H.next_put,H.next_del]; (repeat' split)<;>first|rfl|(exfalso; omega)|omega))⟩
  by_cases c8:256<d
  ·
   refine CallOk.goesE fits Hh (by kernel_rfl) (by kernel_rfl) (by kernel_rfl) (show Tryz.f14.body=some _ from rfl) rfl ?_
   repeat (first
    | refine Goes.seq ?_
    | refine Goes.block ?_
    | refine Goes.loop ?_
    | refine Goes.skip ?_
    | refine Goes.exit ?_
    | refine Goes.ret ?_
    | refine Goes.condV (by simp (maxSteps:=9^6) +decide (disch:=first|omega|(simp only[lens]<;>omega)|decide) only [go_sem,readRow,loadIn,simprocAttr,read1,opBox]<;>rfl) ?_
    | refine Goes.ops2 fits Hh E0_sound (by simp (maxSteps:=9^6) +decide (disch:=first|omega|(simp only[lens]<;>omega)|decide) only [go_sem,readRow,loadIn,simprocAttr,read1,opBox]; rfl) ?_)
   exact⟨_,_,(by simp (maxSteps:=9^6) +decide (disch:=first|omega|(simp only[lens]<;>omega)|decide) only [go_sem,readRow,loadIn,simprocAttr]<;>rfl),rfl,fun m hm=>by (first|(simp (discharger:=omega) only [H.get_put,H.get_new,H.get_del,H.next_new,H.next_put,H.next_del,if_neg]; done)|(simp only[H.get_put,H.get_new,H.get_del,H.next_new,H.next_put,H.next_del]; (repeat' split)<;>first|rfl|(exfalso; omega)|omega))⟩
  obtain⟨a,rfl⟩:=Int.eq_ofNat_of_zero_le (show 0≤a by omega)
  obtain⟨b,rfl⟩:=Int.eq_ofNat_of_zero_le (show 0≤b by omega)
  obtain⟨d,rfl⟩:=Int.eq_ofNat_of_zero_le (show 0≤d by omega)
  have gm:(a:Int) * (b:Int)=((a * b:Nat):Int):=rfl
  have hm:a * b≤4 * 512:=Nat.mul_le_mul (by omega) (by omega)
  by_cases e1:b<3+c / 4
  ·
   refine CallOk.goesE fits Hh (by kernel_rfl) (by kernel_rfl) (by kernel_rfl) (show Tryz.f14.body=some _ from rfl) rfl ?_
   repeat (first
    | refine Goes.seq ?_
    | refine Goes.block ?_
    | refine Goes.loop ?_
    | refine Goes.skip ?_
    | refine Goes.exit ?_
    | refine Goes.ret ?_
    | refine Goes.condV (by simp (maxSteps:=9^6) +decide (disch:=first|omega|(simp only[lens]<;>omega)|decide) only [go_sem,readRow,loadIn,simprocAttr,gm,read1,opBox]<;>rfl) ?_
    | refine Goes.ops2 fits Hh E0_sound (by simp (maxSteps:=9^6) +decide (disch:=first|omega|(simp only[lens]<;>omega)|decide) only [go_sem,readRow,loadIn,simprocAttr,gm,read1,opBox]; rfl) ?_)
   exact⟨_,_,(by simp (maxSteps:=9^6) +decide (disch:=first|omega|(simp only[lens]<;>omega)|decide) only [go_sem,readRow,loadIn,simprocAttr]<;>rfl),rfl,fun m hm=>by (first|(simp (discharger:=omega) only [H.get_put,H.get_new,H.get_del,H.next_new,H.next_put,H.next_del,if_neg]; done)|(simp only[H.get_put,H.get_new,H.get_del,H.next_new,H.next_put,H.next_del]; (repeat' split)<;>first|rfl|(exfalso; omega)|omega))⟩
  by_cases e2:2048<2+d+a * b
  ·
   refine CallOk.goesE fits Hh (by kernel_rfl) (by kernel_rfl) (by kernel_rfl) (show Tryz.f14.body=some _ from rfl) rfl ?_
   repeat (first
    | refine Goes.seq ?_
    | refine Goes.block ?_
    | refine Goes.loop ?_
    | refine Goes.skip ?_
    | refine Goes.exit ?_
    | refine Goes.ret ?_
    | refine Goes.condV (by simp (maxSteps:=9^6) +decide (disch:=first|omega|(simp only[lens]<;>omega)|decide) only [go_sem,readRow,loadIn,simprocAttr,gm,read1,opBox]<;>rfl) ?_
    | refine Goes.ops2 fits Hh E0_sound (by simp (maxSteps:=9^6) +decide (disch:=first|omega|(simp only[lens]<;>omega)|decide) only [go_sem,readRow,loadIn,simprocAttr,gm,read1,opBox]; rfl) ?_)
   exact⟨_,_,(by simp (maxSteps:=9^6) +decide (disch:=first|omega|(simp only[lens]<;>omega)|decide) only [go_sem,readRow,loadIn,simprocAttr]<;>rfl),rfl,fun m hm=>by (first|(simp (discharger:=omega) only [H.get_put,H.get_new,H.get_del,H.next_new,H.next_put,H.next_del,if_neg]; done)|(simp only[H.get_put,H.get_new,H.get_del,H.next_new,H.next_put,H.next_del]; (repeat' split)<;>first|rfl|(exfalso; omega)|omega))⟩
  refine absurd ⟨by omega,by omega,by omega,by omega,?_⟩ nf
  simp only[Int.toNat_natCast]
  exact⟨by omega,by omega,by omega,by omega,by omega,by omega,by omega,by omega,by omega,by omega,by omega⟩
 exact cc.quiet rfl hk
noncomputable def xRMay:Kn1:=fun args h=>match args with
 | [.g [.int .i64 a,.int .i64 b,.int .i64 c,.int .i64 d]]=>some (.w (.c (.bool (fineI a b c d))),h)
 | _=>none
theorem xRMay_ok {args:List W} {h h':Go.Ev.H} {v:V} (e:xRMay args h=some (v,h')):CallOk K Tryz.prog 14 args h v h':=by
 unfold xRMay at e
 split at e
 ·rename_i a b c d
  cases e
  by_cases hp:0≤a∧0≤b∧0≤c∧0≤d
  ·obtain⟨p1,p2,p3,p4⟩:=hp
   obtain⟨a,rfl⟩:=Int.eq_ofNat_of_zero_le p1
   obtain⟨b,rfl⟩:=Int.eq_ofNat_of_zero_le p2
   obtain⟨c,rfl⟩:=Int.eq_ofNat_of_zero_le p3
   obtain⟨d,rfl⟩:=Int.eq_ofNat_of_zero_le p4
   rw[fineI_nat]
   cases hf:fineB a b c d with
   | true=>exact mayOk Hh (fineB_fine hf) h
   | false=>exact mayNot Hh a b c d h (fun q=>by
     have:=fine_fineB q.2.2.2.2
     simp only[Int.toNat_natCast] at this
     rw[this] at hf
     cases hf)
  ·have e0:fineI a b c d=false:=by
    unfold fineI
    by_cases p1:0≤a
    ·by_cases p2:0≤b
     ·by_cases p3:0≤c
      ·by_cases p4:0≤d
       ·exact absurd ⟨p1,p2,p3,p4⟩ hp
       ·rw[decide_eq_false p4]; simp
      ·rw[decide_eq_false p3]; simp
     ·rw[decide_eq_false p2]; simp
    ·rw[decide_eq_false p1]; simp
   rw[e0]
   exact mayNot Hh a b c d h (fun q=>hp ⟨q.1,q.2.1,q.2.2.1,q.2.2.2.1⟩)
 ·cases e
noncomputable def xRBlocks:Kn1:=fun args h=>match args with
 | [.g [.int .i64 a,.int .i64 b,.int .i64 c,.int .i64 d]]=>(natI a).bind fun a=>(natI b).bind fun b=>(natI c).bind fun c=>(natI d).bind fun d=>askB (fineB a b c d) (some (.w (.c (.int .i64 ((2+d+a * b:Nat):Int))),h))
 | _=>none
theorem lfThg (n off len:Nat):lenFits K 99 (.c (.slice n off len 4))=true:=by kernel_rfl
omit Hh in
theorem allL_len {gr sz ino jr:Nat} (F:Fine gr sz ino jr):(allL gr sz ino jr).length=2+jr+gr * sz:=by
 have h1:∀ a,(grL sz ino a).length=sz:=fun a=>by
  have:=F.fit
  simp only[grL,List.length_append,List.length_cons,List.length_nil,inL,daL,List.length_map,List.length_range]
  omega
 have h2:∀ k,(groupsL sz ino k).length=k * sz:=by
  intro k
  induction k with
  | zero=>simp [groupsL]
  | succ k ih =>
   have:groupsL sz ino (k+1)=groupsL sz ino k++grL sz ino k:=by simp [groupsL,List.range_succ]
   rw[this,List.length_append,ih,h1,Nat.succ_mul]
 rw[allL,List.length_append,jrL_len,h2]
theorem xRBlocks_ok {args:List W} {h h':Go.Ev.H} {v:V} (e:xRBlocks args h=some (v,h')):CallOk K Tryz.prog 15 args h v h':=by
 unfold xRBlocks at e
 split at e
 ·obtain⟨a,ha,e⟩:=bind_of e
  obtain⟨b,hb,e⟩:=bind_of e
  obtain⟨c,hc,e⟩:=bind_of e
  obtain⟨d,hd,e⟩:=bind_of e
  obtain⟨f,e⟩:=askB_some.1 e
  cases e
  rw[natI_some ha,natI_some hb,natI_some hc,natI_some hd]
  have F:=fineB_fine f
  have c1:=allOk Hh F (h.new (.row 4 [geoL a b c d] false))
  rw[allL_len F] at c1
  have fl:=lfThg
  obtain⟨v,h',cc,rfl,hk⟩:∃ v h',CallOk K Tryz.prog 15 [.g [.int .i64 (a:Int),.int .i64 (b:Int),.int .i64 (c:Int),.int .i64 (d:Int)]] h v h'∧v=.w (.c (.int .i64 ((2+d+a * b:Nat):Int)))∧∀ m,m<h.next→h'.get m=h.get m:=by
   refine CallOk.goesE fits Hh (by kernel_rfl) (by kernel_rfl) (by kernel_rfl) (show Tryz.f15.body=some (q15 []) by kernel_rfl) rfl ?_
   show Goes K Tryz.prog 6 none _ _ _ _ _
   refine Goes.seqQ q15_ ?_
   refine Goes.opsQ q15_0 fits Hh E0_sound (by
    simp (maxSteps:=9^6) +decide (disch:=first|omega|(simp only[lens]<;>omega)|decide) only [go_sem,q15,Tryz.f15,readRow,loadIn,simprocAttr,geoL,fl,read1,opBox,opBuiltin,opLen]
    rfl) ?_
   refine Goes.seqQ q15_1 ?_
   refine Goes.opsQ q15_10 fits Hh (E1_sound E0_sound c1) (by
    simp (maxSteps:=9^6) +decide (disch:=first|omega|(simp only[lens]<;>omega)|decide) only [go_sem,q15,Tryz.f15,readRow,loadIn,simprocAttr,E1_call,geoL,fl,read1,opBox,opBuiltin,opLen]
    rfl) ?_
   refine Goes.retQ q15_11 ?_
   exact⟨_,_,(by simp (maxSteps:=9^6) +decide (disch:=first|omega|(simp only[lens]<;>omega)|decide) only [go_sem,readRow,loadIn,simprocAttr]<;>rfl),rfl,fun m hm=>by (first|(simp (discharger:=omega) only [H.get_put,H.get_new,H.get_del,H.next_new,H.next_put,H.next_del,if_neg]; done)|(simp only[H.get_put,H.get_new,H.get_del,H.next_new,H.next_put,H.next_del]; (repeat' split)<;>first|rfl|(exfalso; omega)|omega))⟩
  exact cc.quiet rfl hk
 ·cases e
end
attribute [go_sem] xRMay xRBlocks
end Go.Proofs.YtlbbmhgdcdcdnaaGreatDoor
set_option maxRecDepth 100000
set_option maxHeartbeats 4000000
namespace Go.Proofs.YtlbbmhgdcdcdnaaGreatDoor
open Go.Ev
theorem ty24:K.types.get 24=some ti24:=by kernel_rfl
theorem sz24:ti24.size=1:=by rfl
theorem ag24:ti24.agg=false:=by rfl
theorem de24:ti24.desc=(.slice 336):=by rfl
theorem ze24:ti24.zero=(.c (.snil)):=by rfl
theorem by24:ti24.bytes=24:=by rfl
theorem el24:elemTI K 24=some ti336:=by kernel_rfl
theorem ty26:K.types.get 26=some ti26:=by kernel_rfl
theorem sz26:ti26.size=6:=by rfl
theorem ag26:ti26.agg=true:=by rfl
theorem fo26_0:fieldOf K 26 0=some (0,ti23):=by kernel_rfl
theorem fo26_1:fieldOf K 26 1=some (4,ti5):=by kernel_rfl
theorem fo26_2:fieldOf K 26 2=some (5,ti24):=by kernel_rfl
theorem bu26 (ps:List (Nat × W)):opBuild K 26 (some ps)=gW (fillStruct K 26 ps ti26.zero.cells):=by kernel_rfl
theorem ze26:ti26.zero=(.g ([.int .i64 0,.int .i64 0,.int .i64 0,.int .i64 0,.int .u8 0,.snil])):=by rfl
theorem by26:ti26.bytes=64:=by rfl
theorem ty336:K.types.get 336=some ti336:=by kernel_rfl
theorem sz336:ti336.size=3:=by rfl
theorem ag336:ti336.agg=true:=by rfl
theorem fo336_0:fieldOf K 336 0=some (0,ti3):=by kernel_rfl
theorem fo336_1:fieldOf K 336 1=some (1,ti3):=by kernel_rfl
theorem fo336_2:fieldOf K 336 2=some (2,ti5):=by kernel_rfl
theorem bu336 (ps:List (Nat × W)):opBuild K 336 (some ps)=gW (fillStruct K 336 ps ti336.zero.cells):=by kernel_rfl
theorem ze336:ti336.zero=(.g ([.int .i64 0,.int .i64 0,.int .u8 0])):=by rfl
theorem by336:ti336.bytes=24:=by rfl
attribute [go_sem] ty24 sz24 ag24 de24 ze24 by24 el24 ty26 sz26 ag26 fo26_0 fo26_1 fo26_2 bu26 ze26 by26 ty336 sz336 ag336 fo336_0 fo336_1 fo336_2 bu336 ze336 by336
theorem rs5:Tryz.f5.results.toList=[.tmp 2]:=rfl
attribute [go_sem] rs5
def fitB (a b c d md len:Int):Bool:=fineI a b c d&&decide (2+d+a * b≤400)&&decide (1≤md)&&decide (md≤3)&&decide (len≤20)
section
variable (Hh:Hearts K Tryz.prog)
include Hh
theorem fitsOk {S:C} {len:Int} (lf:lenFits K 24 (.c S)=true) (hln:∀ h,opLen K h 24 (.c S)=some (.int .i64 len)) (a b c d md:Int) (h:Go.Ev.H):CallOk K Tryz.prog 5 [.g [.int .i64 a,.int .i64 b,.int .i64 c,.int .i64 d,.int .u8 md,S]] h (.w (.c (.bool (fitB a b c d md len)))) h:=by
 have r6:readRow 6 [[.int .i64 a,.int .i64 b,.int .i64 c,.int .i64 d,.int .u8 md,S]] 0 4=some [.int .i64 a,.int .i64 b,.int .i64 c,.int .i64 d]:=rfl
 obtain⟨v,h',cc,rfl,hk⟩:∃ v h',CallOk K Tryz.prog 5 [.g [.int .i64 a,.int .i64 b,.int .i64 c,.int .i64 d,.int .u8 md,S]] h v h'∧v=.w (.c (.bool (fitB a b c d md len)))∧∀ m,m<h.next→h'.get m=h.get m:=by
  unfold fitB
  rcases hf:fineI a b c d with _|_
  ·
   refine CallOk.goesE fits Hh (by kernel_rfl) (by kernel_rfl) (by kernel_rfl) (show Tryz.f5.body=some _ from rfl) rfl ?_
   repeat (first
    | refine Goes.seq ?_
    | refine Goes.block ?_
    | refine Goes.loop ?_
    | refine Goes.skip ?_
    | refine Goes.exit ?_
    | refine Goes.ret ?_
    | refine Goes.condV (by simp (maxSteps:=9^6) +decide (disch:=first|omega|(simp only[lens]<;>omega)|decide) only [go_sem,loadIn,simprocAttr,hf,r6,lf,hln,read1,opBox,opBuiltin]<;>rfl) ?_
    | refine Goes.ops2 fits Hh (EX_sound (EX_sound E0_sound (fun _ _ _ _=>xRMay_ok Hh)) (fun _ _ _ _=>xRBlocks_ok Hh)) (by simp (maxSteps:=9^6) +decide (disch:=first|omega|(simp only[lens]<;>omega)|decide) only [go_sem,loadIn,simprocAttr,hf,r6,lf,hln,read1,opBox,opBuiltin]; rfl) ?_)
   exact⟨_,_,(by simp (maxSteps:=9^6) +decide (disch:=first|omega|(simp only[lens]<;>omega)|decide) only [go_sem,loadIn,simprocAttr]<;>rfl),rfl,fun m hm=>by (first|(simp (discharger:=omega) only [H.get_put,H.get_new,H.get_del,H.next_new,H.next_put,H.next_del,if_neg]; done)|(simp only[H.get_put,H.get_new,H.get_del,H.next_new,H.next_put,H.next_del]; (repeat' split)<;>first|rfl|(exfalso; omega)|omega))⟩
  ·have hf':=hf
   unfold fineI at hf'
   simp only[Bool.and_eq_true,decide_eq_true_eq] at hf'
   obtain⟨⟨⟨⟨p1,p2⟩,p3⟩,p4⟩,fb⟩:=hf'
   obtain⟨a,rfl⟩:=Int.eq_ofNat_of_zero_le p1
   obtain⟨b,rfl⟩:=Int.eq_ofNat_of_zero_le p2
   obtain⟨c,rfl⟩:=Int.eq_ofNat_of_zero_le p3
   obtain⟨d,rfl⟩:=Int.eq_ofNat_of_zero_le p4
   simp only[Int.toNat_natCast] at fb
   have gm:2+(d:Int)+(a:Int) * (b:Int)=((2+d+a * b:Nat):Int):=rfl
   rw[gm]
   by_cases c1:((2+d+a * b:Nat):Int)≤400
   ·by_cases c2:1≤md
    ·by_cases c3:md≤3
     ·by_cases c4:len≤20
      ·
       refine CallOk.goesE fits Hh (by kernel_rfl) (by kernel_rfl) (by kernel_rfl) (show Tryz.f5.body=some _ from rfl) rfl ?_
       repeat (first
        | refine Goes.seq ?_
        | refine Goes.block ?_
        | refine Goes.loop ?_
        | refine Goes.skip ?_
        | refine Goes.exit ?_
        | refine Goes.ret ?_
        | refine Goes.condV (by simp (maxSteps:=9^6) +decide (disch:=first|omega|(simp only[lens]<;>omega)|decide) only [go_sem,loadIn,simprocAttr,hf,fb,r6,lf,hln,read1,opBox,opBuiltin]<;>rfl) ?_
        | refine Goes.ops2 fits Hh (EX_sound (EX_sound E0_sound (fun _ _ _ _=>xRMay_ok Hh)) (fun _ _ _ _=>xRBlocks_ok Hh)) (by simp (maxSteps:=9^6) +decide (disch:=first|omega|(simp only[lens]<;>omega)|decide) only [go_sem,loadIn,simprocAttr,hf,fb,r6,lf,hln,read1,opBox,opBuiltin]; rfl) ?_)
       exact⟨_,_,(by simp (maxSteps:=9^6) +decide (disch:=first|omega|(simp only[lens]<;>omega)|decide) only [go_sem,loadIn,simprocAttr]<;>rfl),by rw[decide_eq_true c1,decide_eq_true c2,decide_eq_true c3,decide_eq_true c4]<;>rfl,fun m hm=>by (first|(simp (discharger:=omega) only [H.get_put,H.get_new,H.get_del,H.next_new,H.next_put,H.next_del,if_neg]; done)|(simp only[H.get_put,H.get_new,H.get_del,H.next_new,H.next_put,H.next_del]; (repeat' split)<;>first|rfl|(exfalso; omega)|omega))⟩
      ·
       refine CallOk.goesE fits Hh (by kernel_rfl) (by kernel_rfl) (by kernel_rfl) (show Tryz.f5.body=some _ from rfl) rfl ?_
       repeat (first
        | refine Goes.seq ?_
        | refine Goes.block ?_
        | refine Goes.loop ?_
        | refine Goes.skip ?_
        | refine Goes.exit ?_
        | refine Goes.ret ?_
        | refine Goes.condV (by simp (maxSteps:=9^6) +decide (disch:=first|omega|(simp only[lens]<;>omega)|decide) only [go_sem,loadIn,simprocAttr,hf,fb,r6,lf,hln,read1,opBox,opBuiltin]<;>rfl) ?_
        | refine Goes.ops2 fits Hh (EX_sound (EX_sound E0_sound (fun _ _ _ _=>xRMay_ok Hh)) (fun _ _ _ _=>xRBlocks_ok Hh)) (by simp (maxSteps:=9^6) +decide (disch:=first|omega|(simp only[lens]<;>omega)|decide) only [go_sem,loadIn,simprocAttr,hf,fb,r6,lf,hln,read1,opBox,opBuiltin]; rfl) ?_)
       exact⟨_,_,(by simp (maxSteps:=9^6) +decide (disch:=first|omega|(simp only[lens]<;>omega)|decide) only [go_sem,loadIn,simprocAttr]<;>rfl),by rw[decide_eq_true c1,decide_eq_true c2,decide_eq_true c3,decide_eq_false c4]<;>rfl,fun m hm=>by (first|(simp (discharger:=omega) only [H.get_put,H.get_new,H.get_del,H.next_new,H.next_put,H.next_del,if_neg]; done)|(simp only[H.get_put,H.get_new,H.get_del,H.next_new,H.next_put,H.next_del]; (repeat' split)<;>first|rfl|(exfalso; omega)|omega))⟩
     ·
      refine CallOk.goesE fits Hh (by kernel_rfl) (by kernel_rfl) (by kernel_rfl) (show Tryz.f5.body=some _ from rfl) rfl ?_
      repeat (first
       | refine Goes.seq ?_
       | refine Goes.block ?_
       | refine Goes.loop ?_
       | refine Goes.skip ?_
       | refine Goes.exit ?_
       | refine Goes.ret ?_
       | refine Goes.condV (by simp (maxSteps:=9^6) +decide (disch:=first|omega|(simp only[lens]<;>omega)|decide) only [go_sem,loadIn,simprocAttr,hf,fb,r6,lf,hln,read1,opBox,opBuiltin]<;>rfl) ?_
       | refine Goes.ops2 fits Hh (EX_sound (EX_sound E0_sound (fun _ _ _ _=>xRMay_ok Hh)) (fun _ _ _ _=>xRBlocks_ok Hh)) (by simp (maxSteps:=9^6) +decide (disch:=first|omega|(simp only[lens]<;>omega)|decide) only [go_sem,loadIn,simprocAttr,hf,fb,r6,lf,hln,read1,opBox,opBuiltin]; rfl) ?_)
      exact⟨_,_,(by simp (maxSteps:=9^6) +decide (disch:=first|omega|(simp only[lens]<;>omega)|decide) only [go_sem,loadIn,simprocAttr]<;>rfl),by rw[decide_eq_true c1,decide_eq_true c2,decide_eq_false c3]<;>rfl,fun m hm=>by (first|(simp (discharger:=omega) only [H.get_put,H.get_new,H.get_del,H.next_new,H.next_put,H.next_del,if_neg]; done)|(simp only[H.get_put,H.get_new,H.get_del,H.next_new,H.next_put,H.next_del]; (repeat' split)<;>first|rfl|(exfalso; omega)|omega))⟩
    ·
     refine CallOk.goesE fits Hh (by kernel_rfl) (by kernel_rfl) (by kernel_rfl) (show Tryz.f5.body=some _ from rfl) rfl ?_
     repeat (first
      | refine Goes.seq ?_
      | refine Goes.block ?_
      | refine Goes.loop ?_
      | refine Goes.skip ?_
      | refine Goes.exit ?_
      | refine Goes.ret ?_
      | refine Goes.condV (by simp (maxSteps:=9^6) +decide (disch:=first|omega|(simp only[lens]<;>omega)|decide) only [go_sem,loadIn,simprocAttr,hf,fb,r6,lf,hln,read1,opBox,opBuiltin]<;>rfl) ?_
      | refine Goes.ops2 fits Hh (EX_sound (EX_sound E0_sound (fun _ _ _ _=>xRMay_ok Hh)) (fun _ _ _ _=>xRBlocks_ok Hh)) (by simp (maxSteps:=9^6) +decide (disch:=first|omega|(simp only[lens]<;>omega)|decide) only [go_sem,loadIn,simprocAttr,hf,fb,r6,lf,hln,read1,opBox,opBuiltin]; rfl) ?_)
     exact⟨_,_,(by simp (maxSteps:=9^6) +decide (disch:=first|omega|(simp only[lens]<;>omega)|decide) only [go_sem,loadIn,simprocAttr]<;>rfl),by rw[decide_eq_true c1,decide_eq_false c2]<;>rfl,fun m hm=>by (first|(simp (discharger:=omega) only [H.get_put,H.get_new,H.get_del,H.next_new,H.next_put,H.next_del,if_neg]; done)|(simp only[H.get_put,H.get_new,H.get_del,H.next_new,H.next_put,H.next_del]; (repeat' split)<;>first|rfl|(exfalso; omega)|omega))⟩
   ·
    refine CallOk.goesE fits Hh (by kernel_rfl) (by kernel_rfl) (by kernel_rfl) (show Tryz.f5.body=some _ from rfl) rfl ?_
    repeat (first
     | refine Goes.seq ?_
     | refine Goes.block ?_
     | refine Goes.loop ?_
     | refine Goes.skip ?_
     | refine Goes.exit ?_
     | refine Goes.ret ?_
     | refine Goes.condV (by simp (maxSteps:=9^6) +decide (disch:=first|omega|(simp only[lens]<;>omega)|decide) only [go_sem,loadIn,simprocAttr,hf,fb,r6,lf,hln,read1,opBox,opBuiltin]<;>rfl) ?_
     | refine Goes.ops2 fits Hh (EX_sound (EX_sound E0_sound (fun _ _ _ _=>xRMay_ok Hh)) (fun _ _ _ _=>xRBlocks_ok Hh)) (by simp (maxSteps:=9^6) +decide (disch:=first|omega|(simp only[lens]<;>omega)|decide) only [go_sem,loadIn,simprocAttr,hf,fb,r6,lf,hln,read1,opBox,opBuiltin]; rfl) ?_)
    exact⟨_,_,(by simp (maxSteps:=9^6) +decide (disch:=first|omega|(simp only[lens]<;>omega)|decide) only [go_sem,loadIn,simprocAttr]<;>rfl),by rw[decide_eq_false c1]<;>rfl,fun m hm=>by (first|(simp (discharger:=omega) only [H.get_put,H.get_new,H.get_del,H.next_new,H.next_put,H.next_del,if_neg]; done)|(simp only[H.get_put,H.get_new,H.get_del,H.next_new,H.next_put,H.next_del]; (repeat' split)<;>first|rfl|(exfalso; omega)|omega))⟩
 exact cc.quiet rfl hk
end
end Go.Proofs.YtlbbmhgdcdcdnaaGreatDoor
