/- inode.place and inode.May, of any inode. -/
import Derived.Test.YtngejdlimkgjfaaGreatDoorPge
import Derived.Test.YtngejdlimkgjfaaGreatDoorEvC
set_option linter.unusedSimpArgs false
set_option linter.unusedVariables false
set_option linter.unusedSectionVars false
set_option maxRecDepth 100000
set_option maxHeartbeats 4000000
namespace Go.Proofs.YtngejdlimkgjfaaGreatDoor
open Go.Ev
theorem ty28:K.types.get 28=some ti28:=by kernel_rfl
theorem sz28:ti28.size=11:=by rfl
theorem ag28:ti28.agg=true:=by rfl
theorem de28:ti28.desc=(.array 11 27):=by rfl
theorem ze28:ti28.zero=(.g ((List.replicate 11 (.int .u32 0)))):=by rfl
theorem by28:ti28.bytes=44:=by rfl
theorem eq28 (a b:List C):eqT K 20 28 (.g a) (.g b)=(bif true&&Nat.beq a.length 11&&Nat.beq b.length 11 then Yo a b else none):=by kernel_rfl
theorem ty30:K.types.get 30=some ti30:=by kernel_rfl
theorem sz30:ti30.size=16:=by rfl
theorem ag30:ti30.agg=true:=by rfl
theorem fo30_0:Zu K 30 0=some (0,ti5):=by kernel_rfl
theorem fo30_1:Zu K 30 1=some (1,ti3):=by kernel_rfl
theorem fo30_2:Zu K 30 2=some (2,ti27):=by kernel_rfl
theorem fo30_3:Zu K 30 3=some (3,ti3):=by kernel_rfl
theorem fo30_4:Zu K 30 4=some (4,ti28):=by kernel_rfl
theorem fo30_5:Zu K 30 5=some (15,ti27):=by kernel_rfl
theorem bu30 (ps:List (Nat × W)):Yq K 30 (some ps)=gW (Yb K 30 ps ti30.zero.cells):=by kernel_rfl
theorem ze30:ti30.zero=(.g ([.int .u8 0,.int .i64 0,.int .u32 0,.int .i64 0,.int .u32 0,.int .u32 0,.int .u32 0,.int .u32 0,.int .u32 0,.int .u32 0,.int .u32 0,.int .u32 0,.int .u32 0,.int .u32 0,.int .u32 0,.int .u32 0])):=by rfl
theorem by30:ti30.bytes=80:=by rfl
attribute [go_sem] ty28 sz28 ag28 de28 ze28 by28 eq28 ty30 sz30 ag30 fo30_0 fo30_1 fo30_2 fo30_3 fo30_4 fo30_5 bu30 ze30 by30
theorem rs42:Tryz.f42.results.toList=[.tmp 2]:=rfl
theorem rs92:Tryz.f92.results.toList=[.tmp 2]:=rfl
attribute [go_sem] rs42 rs92
def Gw (k l g s p0 p1 p2 p3 p4 p5 p6 p7 p8 p9 p10 nx:Int):List C:=[.int .u8 k,.int .i64 l,.int .u32 g,.int .i64 s,.int .u32 p0,.int .u32 p1,.int .u32 p2,.int .u32 p3,.int .u32 p4,.int .u32 p5,.int .u32 p6,.int .u32 p7,.int .u32 p8,.int .u32 p9,.int .u32 p10,.int .u32 nx]
def Nb (l s:Int):Bool:=decide (0≤l)&&decide (l≤1000)&&decide (0≤s)&&decide (s≤16777216)
def Zys (l s p0 p1 p2 p3 p4 p5 p6 p7 p8 p9 p10 nx:Int):Bool:=l == 0&&(s == 0&&((p0 == 0&&(p1 == 0&&(p2 == 0&&(p3 == 0&&(p4 == 0&&(p5 == 0&&(p6 == 0&&(p7 == 0&&(p8 == 0&&(p9 == 0&&(p10 == 0&&true)))))))))))&&(nx == 0&&true)))
def Qe (k l s p0 p1 p2 p3 p4 p5 p6 p7 p8 p9 p10 nx:Int):Bool :=
 bif decide (k=0) then Zys l s p0 p1 p2 p3 p4 p5 p6 p7 p8 p9 p10 nx
 else bif decide (k=2) then decide (l=1)&&decide (s % 256=0)&&decide (nx=0)&&Nb l s
 else bif decide (k=1) then Nb l s else false
noncomputable def Zh3:Kn1:=fun args h=>match args with
 | [.c (.int .i64 z)]=>some (.w (.c (.bool (decide (z=0∨z=64∨z=128∨z=192)))),h)
 | _=>none
noncomputable def Z3p:Kn1:=fun args h=>match args with
 | [.g [.int .u8 k,.int .i64 l,.int .u32 g,.int .i64 s,.int .u32 p0,.int .u32 p1,.int .u32 p2,.int .u32 p3,.int .u32 p4,.int .u32 p5,.int .u32 p6,.int .u32 p7,.int .u32 p8,.int .u32 p9,.int .u32 p10,.int .u32 nx]]=>some (.w (.c (.bool (Qe k l s p0 p1 p2 p3 p4 p5 p6 p7 p8 p9 p10 nx))),h)
 | _=>none
attribute [go_sem] Zh3 Z3p
def mB (b:Bool) (r:Option Bool):Option Bool:=match some b with
 | some true=>r
 | r'=>r'
def mO (o:Option Bool) (r:Option Bool):Option Bool:=match o with
 | some true=>r
 | r'=>r'
theorem Z0h (b x:Bool):mB b (some x)=some (b&&x):=by cases b<;>rfl
theorem Z1x (b x:Bool):mO (some b) (some x)=some (b&&x):=by cases b<;>rfl
theorem Dv (k:IntKind) (a:Int) (x y:List C) (r:Bool) (h:Yo x y=some r):Yo (.int k a :: x) (.int k 0 :: y)=some (a == 0&&r):=by
 simp only[Yo,if_true,h]
 cases (a == 0)<;>rfl
theorem Z5e (k l g s p0 p1 p2 p3 p4 p5 p6 p7 p8 p9 p10 nx:Int):eqT K 20 30 (.g (Gw k l g s p0 p1 p2 p3 p4 p5 p6 p7 p8 p9 p10 nx)) (.g (Gw 0 0 g 0 0 0 0 0 0 0 0 0 0 0 0 0))=some (k == 0&&(l == 0&&(s == 0&&((p0 == 0&&(p1 == 0&&(p2 == 0&&(p3 == 0&&(p4 == 0&&(p5 == 0&&(p6 == 0&&(p7 == 0&&(p8 == 0&&(p9 == 0&&(p10 == 0&&true)))))))))))&&(nx == 0&&true))))):=by
 have e1:eqT K 20 30 (.g (Gw k l g s p0 p1 p2 p3 p4 p5 p6 p7 p8 p9 p10 nx)) (.g (Gw 0 0 g 0 0 0 0 0 0 0 0 0 0 0 0 0))=mB (k == 0) (mB (l == 0) (mB (g == g) (mB (s == 0) (mO (Yo [.int .u32 p0,.int .u32 p1,.int .u32 p2,.int .u32 p3,.int .u32 p4,.int .u32 p5,.int .u32 p6,.int .u32 p7,.int .u32 p8,.int .u32 p9,.int .u32 p10] [.int .u32 0,.int .u32 0,.int .u32 0,.int .u32 0,.int .u32 0,.int .u32 0,.int .u32 0,.int .u32 0,.int .u32 0,.int .u32 0,.int .u32 0]) (mB (nx == 0) (some true)))))):=by kernel_rfl
 rw[e1]
 have e2:Yo [C.int .u32 p0,C.int .u32 p1,C.int .u32 p2,C.int .u32 p3,C.int .u32 p4,C.int .u32 p5,C.int .u32 p6,C.int .u32 p7,C.int .u32 p8,C.int .u32 p9,C.int .u32 p10] [C.int .u32 0,C.int .u32 0,C.int .u32 0,C.int .u32 0,C.int .u32 0,C.int .u32 0,C.int .u32 0,C.int .u32 0,C.int .u32 0,C.int .u32 0,C.int .u32 0]=some _:=Dv _ _ _ _ _ (Dv _ _ _ _ _ (Dv _ _ _ _ _ (Dv _ _ _ _ _ (Dv _ _ _ _ _ (Dv _ _ _ _ _ (Dv _ _ _ _ _ (Dv _ _ _ _ _ (Dv _ _ _ _ _ (Dv _ _ _ _ _ (Dv _ _ _ _ _ (rfl)))))))))))
 rw[e2]
 simp only[beq_self_eq_true,Z0h,Z1x,Bool.true_and]
section
variable (Hh:Hearts K Tryz.prog)
include Hh
theorem Rj {args:List W} {h h':Go.Ev.H} {v:V} (e:Zh3 args h=some (v,h')):Ze K Tryz.prog 92 args h v h':=by
 unfold Zh3 at e
 split at e
 ·rename_i z
  cases e
  by_cases z0:0≤z
  ·by_cases z1:z<256
   ·obtain⟨n,rfl⟩:=Int.eq_ofNat_of_zero_le z0
    have rm:Xt .i64 (n:Int) 64=some (.int .i64 ((n % 64:Nat):Int)):=Nf (b:=64) (by omega)
    by_cases z2:n % 64=0
    ·rw[decide_eq_true (show (n:Int)=0∨(n:Int)=64∨(n:Int)=128∨(n:Int)=192 by omega)]
     refine Ze.goes fits Hh (by kernel_rfl) (by kernel_rfl) (by kernel_rfl) (show Tryz.f92.body=some _ from rfl) rfl ?_
     repeat (first|apply Goes.seq|apply Goes.block|apply Goes.loop|apply Goes.skip|apply Goes.exit|apply Goes.ret|((first|apply Goes.Zr|apply Goes.ops2 fits Hh Zc); · simp (maxSteps:=9^6) +decide (disch:=first|omega|(simp only[lens]<;>omega)|decide) only [go_sem,Zf,Za,simprocAttr,rm,z2]<;>rfl))
     simp (maxSteps:=9^6) +decide (disch:=first|omega|(simp only[lens]<;>omega)|decide) only [go_sem,Zf,Za,simprocAttr]<;>rfl
    ·rw[decide_eq_false (show ¬((n:Int)=0∨(n:Int)=64∨(n:Int)=128∨(n:Int)=192) by omega)]
     have z3:(((n % 64:Nat):Int) == 0)=false:=beq_eq_false_iff_ne.2 (by omega)
     refine Ze.goes fits Hh (by kernel_rfl) (by kernel_rfl) (by kernel_rfl) (show Tryz.f92.body=some _ from rfl) rfl ?_
     repeat (first|apply Goes.seq|apply Goes.block|apply Goes.loop|apply Goes.skip|apply Goes.exit|apply Goes.ret|((first|apply Goes.Zr|apply Goes.ops2 fits Hh Zc); · simp (maxSteps:=9^6) +decide (disch:=first|omega|(simp only[lens]<;>omega)|decide) only [go_sem,Zf,Za,simprocAttr,rm,z3]<;>rfl))
     simp (maxSteps:=9^6) +decide (disch:=first|omega|(simp only[lens]<;>omega)|decide) only [go_sem,Zf,Za,simprocAttr]<;>rfl
   ·rw[decide_eq_false (show ¬(z=0∨z=64∨z=128∨z=192) by omega)]
    refine Ze.goes fits Hh (by kernel_rfl) (by kernel_rfl) (by kernel_rfl) (show Tryz.f92.body=some _ from rfl) rfl ?_
    repeat (first|apply Goes.seq|apply Goes.block|apply Goes.loop|apply Goes.skip|apply Goes.exit|apply Goes.ret|((first|apply Goes.Zr|apply Goes.ops2 fits Hh Zc); · simp (maxSteps:=9^6) +decide (disch:=first|omega|(simp only[lens]<;>omega)|decide) only [go_sem,Zf,Za,simprocAttr]<;>rfl))
    simp (maxSteps:=9^6) +decide (disch:=first|omega|(simp only[lens]<;>omega)|decide) only [go_sem,Zf,Za,simprocAttr]<;>rfl
  ·rw[decide_eq_false (show ¬(z=0∨z=64∨z=128∨z=192) by omega)]
   refine Ze.goes fits Hh (by kernel_rfl) (by kernel_rfl) (by kernel_rfl) (show Tryz.f92.body=some _ from rfl) rfl ?_
   repeat (first|apply Goes.seq|apply Goes.block|apply Goes.loop|apply Goes.skip|apply Goes.exit|apply Goes.ret|((first|apply Goes.Zr|apply Goes.ops2 fits Hh Zc); · simp (maxSteps:=9^6) +decide (disch:=first|omega|(simp only[lens]<;>omega)|decide) only [go_sem,Zf,Za,simprocAttr]<;>rfl))
   simp (maxSteps:=9^6) +decide (disch:=first|omega|(simp only[lens]<;>omega)|decide) only [go_sem,Zf,Za,simprocAttr]<;>rfl
 ·cases e
theorem Zfo (k l g s p0 p1 p2 p3 p4 p5 p6 p7 p8 p9 p10 nx:Int) (h:Go.Ev.H):Ze K Tryz.prog 42 [.g [.int .u8 k,.int .i64 l,.int .u32 g,.int .i64 s,.int .u32 p0,.int .u32 p1,.int .u32 p2,.int .u32 p3,.int .u32 p4,.int .u32 p5,.int .u32 p6,.int .u32 p7,.int .u32 p8,.int .u32 p9,.int .u32 p10,.int .u32 nx]] h (.w (.c (.bool (Qe k l s p0 p1 p2 p3 p4 p5 p6 p7 p8 p9 p10 nx)))) h:=by
 have r16:∀ k,Zf 16 [[.int .u8 k,.int .i64 l,.int .u32 g,.int .i64 s,.int .u32 p0,.int .u32 p1,.int .u32 p2,.int .u32 p3,.int .u32 p4,.int .u32 p5,.int .u32 p6,.int .u32 p7,.int .u32 p8,.int .u32 p9,.int .u32 p10,.int .u32 nx]] 0 16=some [.int .u8 k,.int .i64 l,.int .u32 g,.int .i64 s,.int .u32 p0,.int .u32 p1,.int .u32 p2,.int .u32 p3,.int .u32 p4,.int .u32 p5,.int .u32 p6,.int .u32 p7,.int .u32 p8,.int .u32 p9,.int .u32 p10,.int .u32 nx]:=fun _=>rfl
 obtain⟨v,h',c,rfl,hk⟩:∃ v h',Ze K Tryz.prog 42 [.g [.int .u8 k,.int .i64 l,.int .u32 g,.int .i64 s,.int .u32 p0,.int .u32 p1,.int .u32 p2,.int .u32 p3,.int .u32 p4,.int .u32 p5,.int .u32 p6,.int .u32 p7,.int .u32 p8,.int .u32 p9,.int .u32 p10,.int .u32 nx]] h v h'∧v=.w (.c (.bool (Qe k l s p0 p1 p2 p3 p4 p5 p6 p7 p8 p9 p10 nx)))∧∀ m,m<h.next→h'.get m=h.get m:=by
  unfold Qe
  by_cases k0:k=0
  ·subst k0
   have q:=Z5e 0 l g s p0 p1 p2 p3 p4 p5 p6 p7 p8 p9 p10 nx
   simp only[Gw] at q
   refine Ze.Z8 fits Hh (by kernel_rfl) (by kernel_rfl) (by kernel_rfl) (show Tryz.f42.body=some _ from rfl) rfl ?_
   repeat (first|apply Goes.seq|apply Goes.block2|apply Goes.loop|apply Goes.skip|apply Goes.exit|apply Goes.ret|((first|apply Goes.Zr|apply Goes.ops2 fits Hh Zc); · simp (maxSteps:=9^6) +decide (disch:=first|omega|(simp only[lens]<;>omega)|decide) only [go_sem,Za,simprocAttr,r16,q,read1,Zw]<;>rfl)|simp +decide only [reduceIte])
   exact⟨_,_,(by simp (maxSteps:=9^6) +decide (disch:=first|omega|(simp only[lens]<;>omega)|decide) only [go_sem,Za,simprocAttr]<;>rfl),by simp [Zys],fun m hm=>by (first|(simp (discharger:=omega) only [H.get_put,H.Zi,H.Zm,H.Zd,H.Zg,H.Zj,if_neg]; done)|(simp only[H.get_put,H.Zi,H.Zm,H.Zd,H.Zg,H.Zj]; (repeat' split)<;>first|rfl|(exfalso; omega)|omega))⟩
  ·by_cases k2:k=2
   ·subst k2
    rw[decide_eq_false (by omega),decide_eq_true rfl,cond_false,cond_true]
    by_cases l1:l=1
    ·subst l1
     by_cases s0:0≤s
     ·obtain⟨z,rfl⟩:=Int.eq_ofNat_of_zero_le s0
      have rm:Xt .i64 (z:Int) 256=some (.int .i64 ((z % 256:Nat):Int)):=Nf (b:=256) (by omega)
      have em:((z:Int) % 256)=((z % 256:Nat):Int):=rfl
      rw[em]
      by_cases z2:z % 256=0
      ·by_cases n0:nx=0
       ·subst n0
        by_cases z3:z≤16777216
        ·
         refine Ze.Z8 fits Hh (by kernel_rfl) (by kernel_rfl) (by kernel_rfl) (show Tryz.f42.body=some _ from rfl) rfl ?_
         repeat (first|apply Goes.seq|apply Goes.block2|apply Goes.loop|apply Goes.skip|apply Goes.exit|apply Goes.ret|((first|apply Goes.Zr|apply Goes.ops2 fits Hh Zc); · simp (maxSteps:=9^6) +decide (disch:=first|omega|(simp only[lens]<;>omega)|decide) only [go_sem,Za,simprocAttr,r16,rm,z2,read1,Zw]<;>rfl)|simp +decide only [reduceIte])
         exact⟨_,_,(by simp (maxSteps:=9^6) +decide (disch:=first|omega|(simp only[lens]<;>omega)|decide) only [go_sem,Za,simprocAttr]<;>rfl),by simp [Nb,z2]; omega,fun m hm=>by (first|(simp (discharger:=omega) only [H.get_put,H.Zi,H.Zm,H.Zd,H.Zg,H.Zj,if_neg]; done)|(simp only[H.get_put,H.Zi,H.Zm,H.Zd,H.Zg,H.Zj]; (repeat' split)<;>first|rfl|(exfalso; omega)|omega))⟩
        ·
         refine Ze.Z8 fits Hh (by kernel_rfl) (by kernel_rfl) (by kernel_rfl) (show Tryz.f42.body=some _ from rfl) rfl ?_
         repeat (first|apply Goes.seq|apply Goes.block2|apply Goes.loop|apply Goes.skip|apply Goes.exit|apply Goes.ret|((first|apply Goes.Zr|apply Goes.ops2 fits Hh Zc); · simp (maxSteps:=9^6) +decide (disch:=first|omega|(simp only[lens]<;>omega)|decide) only [go_sem,Za,simprocAttr,r16,rm,z2,read1,Zw]<;>rfl)|simp +decide only [reduceIte])
         exact⟨_,_,(by simp (maxSteps:=9^6) +decide (disch:=first|omega|(simp only[lens]<;>omega)|decide) only [go_sem,Za,simprocAttr]<;>rfl),by simp [Nb,z2]; omega,fun m hm=>by (first|(simp (discharger:=omega) only [H.get_put,H.Zi,H.Zm,H.Zd,H.Zg,H.Zj,if_neg]; done)|(simp only[H.get_put,H.Zi,H.Zm,H.Zd,H.Zg,H.Zj]; (repeat' split)<;>first|rfl|(exfalso; omega)|omega))⟩
       ·
        refine Ze.Z8 fits Hh (by kernel_rfl) (by kernel_rfl) (by kernel_rfl) (show Tryz.f42.body=some _ from rfl) rfl ?_
        repeat (first|apply Goes.seq|apply Goes.block2|apply Goes.loop|apply Goes.skip|apply Goes.exit|apply Goes.ret|((first|apply Goes.Zr|apply Goes.ops2 fits Hh Zc); · simp (maxSteps:=9^6) +decide (disch:=first|omega|(simp only[lens]<;>omega)|decide) only [go_sem,Za,simprocAttr,r16,rm,z2,n0,read1,Zw]<;>rfl)|simp +decide only [reduceIte])
        exact⟨_,_,(by simp (maxSteps:=9^6) +decide (disch:=first|omega|(simp only[lens]<;>omega)|decide) only [go_sem,Za,simprocAttr]<;>rfl),by simp [n0],fun m hm=>by (first|(simp (discharger:=omega) only [H.get_put,H.Zi,H.Zm,H.Zd,H.Zg,H.Zj,if_neg]; done)|(simp only[H.get_put,H.Zi,H.Zm,H.Zd,H.Zg,H.Zj]; (repeat' split)<;>first|rfl|(exfalso; omega)|omega))⟩
      ·have z3:(((z % 256:Nat):Int) == 0)=false:=beq_eq_false_iff_ne.2 (by omega)
       have z4:(((z % 256:Nat):Int) != 0)=true:=by rw[bne,z3]; rfl
       refine Ze.Z8 fits Hh (by kernel_rfl) (by kernel_rfl) (by kernel_rfl) (show Tryz.f42.body=some _ from rfl) rfl ?_
       repeat (first|apply Goes.seq|apply Goes.block2|apply Goes.loop|apply Goes.skip|apply Goes.exit|apply Goes.ret|((first|apply Goes.Zr|apply Goes.ops2 fits Hh Zc); · simp (maxSteps:=9^6) +decide (disch:=first|omega|(simp only[lens]<;>omega)|decide) only [go_sem,Za,simprocAttr,r16,rm,z4,read1,Zw]<;>rfl)|simp +decide only [reduceIte])
       exact⟨_,_,(by simp (maxSteps:=9^6) +decide (disch:=first|omega|(simp only[lens]<;>omega)|decide) only [go_sem,Za,simprocAttr]<;>rfl),by rw[decide_eq_false (show ¬(((z % 256:Nat):Int)=0) by omega)]; rfl,fun m hm=>by (first|(simp (discharger:=omega) only [H.get_put,H.Zi,H.Zm,H.Zd,H.Zg,H.Zj,if_neg]; done)|(simp only[H.get_put,H.Zi,H.Zm,H.Zd,H.Zg,H.Zj]; (repeat' split)<;>first|rfl|(exfalso; omega)|omega))⟩
     ·have rm:Xt .i64 s 256=some (.int .i64 (s.tmod 256)):=rfl
      have mf:Nb 1 s=false:=by unfold Nb; rw[decide_eq_false s0]; rfl
      rw[mf,Bool.and_false]
      by_cases z2:s.tmod 256=0
      ·by_cases n0:nx=0
       ·subst n0
        refine Ze.Z8 fits Hh (by kernel_rfl) (by kernel_rfl) (by kernel_rfl) (show Tryz.f42.body=some _ from rfl) rfl ?_
        repeat (first|apply Goes.seq|apply Goes.block2|apply Goes.loop|apply Goes.skip|apply Goes.exit|apply Goes.ret|((first|apply Goes.Zr|apply Goes.ops2 fits Hh Zc); · simp (maxSteps:=9^6) +decide (disch:=first|omega|(simp only[lens]<;>omega)|decide) only [go_sem,Za,simprocAttr,r16,rm,z2,read1,Zw]<;>rfl)|simp +decide only [reduceIte])
        exact⟨_,_,(by simp (maxSteps:=9^6) +decide (disch:=first|omega|(simp only[lens]<;>omega)|decide) only [go_sem,Za,simprocAttr]<;>rfl),rfl,fun m hm=>by (first|(simp (discharger:=omega) only [H.get_put,H.Zi,H.Zm,H.Zd,H.Zg,H.Zj,if_neg]; done)|(simp only[H.get_put,H.Zi,H.Zm,H.Zd,H.Zg,H.Zj]; (repeat' split)<;>first|rfl|(exfalso; omega)|omega))⟩
       ·
        refine Ze.Z8 fits Hh (by kernel_rfl) (by kernel_rfl) (by kernel_rfl) (show Tryz.f42.body=some _ from rfl) rfl ?_
        repeat (first|apply Goes.seq|apply Goes.block2|apply Goes.loop|apply Goes.skip|apply Goes.exit|apply Goes.ret|((first|apply Goes.Zr|apply Goes.ops2 fits Hh Zc); · simp (maxSteps:=9^6) +decide (disch:=first|omega|(simp only[lens]<;>omega)|decide) only [go_sem,Za,simprocAttr,r16,rm,z2,n0,read1,Zw]<;>rfl)|simp +decide only [reduceIte])
        exact⟨_,_,(by simp (maxSteps:=9^6) +decide (disch:=first|omega|(simp only[lens]<;>omega)|decide) only [go_sem,Za,simprocAttr]<;>rfl),rfl,fun m hm=>by (first|(simp (discharger:=omega) only [H.get_put,H.Zi,H.Zm,H.Zd,H.Zg,H.Zj,if_neg]; done)|(simp only[H.get_put,H.Zi,H.Zm,H.Zd,H.Zg,H.Zj]; (repeat' split)<;>first|rfl|(exfalso; omega)|omega))⟩
      ·have z4:(s.tmod 256 != 0)=true:=by rw[bne,beq_eq_false_iff_ne.2 z2]; rfl
       refine Ze.Z8 fits Hh (by kernel_rfl) (by kernel_rfl) (by kernel_rfl) (show Tryz.f42.body=some _ from rfl) rfl ?_
       repeat (first|apply Goes.seq|apply Goes.block2|apply Goes.loop|apply Goes.skip|apply Goes.exit|apply Goes.ret|((first|apply Goes.Zr|apply Goes.ops2 fits Hh Zc); · simp (maxSteps:=9^6) +decide (disch:=first|omega|(simp only[lens]<;>omega)|decide) only [go_sem,Za,simprocAttr,r16,rm,z4,read1,Zw]<;>rfl)|simp +decide only [reduceIte])
       exact⟨_,_,(by simp (maxSteps:=9^6) +decide (disch:=first|omega|(simp only[lens]<;>omega)|decide) only [go_sem,Za,simprocAttr]<;>rfl),rfl,fun m hm=>by (first|(simp (discharger:=omega) only [H.get_put,H.Zi,H.Zm,H.Zd,H.Zg,H.Zj,if_neg]; done)|(simp only[H.get_put,H.Zi,H.Zm,H.Zd,H.Zg,H.Zj]; (repeat' split)<;>first|rfl|(exfalso; omega)|omega))⟩
    ·have l2:(l != 1)=true:=by rw[bne,beq_eq_false_iff_ne.2 l1]; rfl
     rw[decide_eq_false l1]
     refine Ze.Z8 fits Hh (by kernel_rfl) (by kernel_rfl) (by kernel_rfl) (show Tryz.f42.body=some _ from rfl) rfl ?_
     repeat (first|apply Goes.seq|apply Goes.block2|apply Goes.loop|apply Goes.skip|apply Goes.exit|apply Goes.ret|((first|apply Goes.Zr|apply Goes.ops2 fits Hh Zc); · simp (maxSteps:=9^6) +decide (disch:=first|omega|(simp only[lens]<;>omega)|decide) only [go_sem,Za,simprocAttr,r16,l2,read1,Zw]<;>rfl)|simp +decide only [reduceIte])
     exact⟨_,_,(by simp (maxSteps:=9^6) +decide (disch:=first|omega|(simp only[lens]<;>omega)|decide) only [go_sem,Za,simprocAttr]<;>rfl),rfl,fun m hm=>by (first|(simp (discharger:=omega) only [H.get_put,H.Zi,H.Zm,H.Zd,H.Zg,H.Zj,if_neg]; done)|(simp only[H.get_put,H.Zi,H.Zm,H.Zd,H.Zg,H.Zj]; (repeat' split)<;>first|rfl|(exfalso; omega)|omega))⟩
   ·by_cases k1:k=1
    ·subst k1
     rw[decide_eq_false (by omega),decide_eq_false (by omega),decide_eq_true rfl,cond_false,cond_false,cond_true]
     unfold Nb
     by_cases a1:0≤l
     ·by_cases a2:l≤1000
      ·by_cases a3:0≤s
       ·by_cases a4:s≤16777216
        all_goals
         refine Ze.Z8 fits Hh (by kernel_rfl) (by kernel_rfl) (by kernel_rfl) (show Tryz.f42.body=some _ from rfl) rfl ?_
         repeat (first|apply Goes.seq|apply Goes.block2|apply Goes.loop|apply Goes.skip|apply Goes.exit|apply Goes.ret|((first|apply Goes.Zr|apply Goes.ops2 fits Hh Zc); · simp (maxSteps:=9^6) +decide (disch:=first|omega|(simp only[lens]<;>omega)|decide) only [go_sem,Za,simprocAttr,r16,read1,Zw]<;>rfl)|simp +decide only [reduceIte])
         exact⟨_,_,(by simp (maxSteps:=9^6) +decide (disch:=first|omega|(simp only[lens]<;>omega)|decide) only [go_sem,Za,simprocAttr]<;>rfl),by simp [a1,a2,a3,a4],fun m hm=>by (first|(simp (discharger:=omega) only [H.get_put,H.Zi,H.Zm,H.Zd,H.Zg,H.Zj,if_neg]; done)|(simp only[H.get_put,H.Zi,H.Zm,H.Zd,H.Zg,H.Zj]; (repeat' split)<;>first|rfl|(exfalso; omega)|omega))⟩
       ·
        refine Ze.Z8 fits Hh (by kernel_rfl) (by kernel_rfl) (by kernel_rfl) (show Tryz.f42.body=some _ from rfl) rfl ?_
        repeat (first|apply Goes.seq|apply Goes.block2|apply Goes.loop|apply Goes.skip|apply Goes.exit|apply Goes.ret|((first|apply Goes.Zr|apply Goes.ops2 fits Hh Zc); · simp (maxSteps:=9^6) +decide (disch:=first|omega|(simp only[lens]<;>omega)|decide) only [go_sem,Za,simprocAttr,r16,read1,Zw]<;>rfl)|simp +decide only [reduceIte])
        exact⟨_,_,(by simp (maxSteps:=9^6) +decide (disch:=first|omega|(simp only[lens]<;>omega)|decide) only [go_sem,Za,simprocAttr]<;>rfl),by simp [a3],fun m hm=>by (first|(simp (discharger:=omega) only [H.get_put,H.Zi,H.Zm,H.Zd,H.Zg,H.Zj,if_neg]; done)|(simp only[H.get_put,H.Zi,H.Zm,H.Zd,H.Zg,H.Zj]; (repeat' split)<;>first|rfl|(exfalso; omega)|omega))⟩
      ·
       refine Ze.Z8 fits Hh (by kernel_rfl) (by kernel_rfl) (by kernel_rfl) (show Tryz.f42.body=some _ from rfl) rfl ?_
       repeat (first|apply Goes.seq|apply Goes.block2|apply Goes.loop|apply Goes.skip|apply Goes.exit|apply Goes.ret|((first|apply Goes.Zr|apply Goes.ops2 fits Hh Zc); · simp (maxSteps:=9^6) +decide (disch:=first|omega|(simp only[lens]<;>omega)|decide) only [go_sem,Za,simprocAttr,r16,read1,Zw]<;>rfl)|simp +decide only [reduceIte])
       exact⟨_,_,(by simp (maxSteps:=9^6) +decide (disch:=first|omega|(simp only[lens]<;>omega)|decide) only [go_sem,Za,simprocAttr]<;>rfl),by simp [a2],fun m hm=>by (first|(simp (discharger:=omega) only [H.get_put,H.Zi,H.Zm,H.Zd,H.Zg,H.Zj,if_neg]; done)|(simp only[H.get_put,H.Zi,H.Zm,H.Zd,H.Zg,H.Zj]; (repeat' split)<;>first|rfl|(exfalso; omega)|omega))⟩
     ·
      refine Ze.Z8 fits Hh (by kernel_rfl) (by kernel_rfl) (by kernel_rfl) (show Tryz.f42.body=some _ from rfl) rfl ?_
      repeat (first|apply Goes.seq|apply Goes.block2|apply Goes.loop|apply Goes.skip|apply Goes.exit|apply Goes.ret|((first|apply Goes.Zr|apply Goes.ops2 fits Hh Zc); · simp (maxSteps:=9^6) +decide (disch:=first|omega|(simp only[lens]<;>omega)|decide) only [go_sem,Za,simprocAttr,r16,read1,Zw]<;>rfl)|simp +decide only [reduceIte])
      exact⟨_,_,(by simp (maxSteps:=9^6) +decide (disch:=first|omega|(simp only[lens]<;>omega)|decide) only [go_sem,Za,simprocAttr]<;>rfl),by simp [a1],fun m hm=>by (first|(simp (discharger:=omega) only [H.get_put,H.Zi,H.Zm,H.Zd,H.Zg,H.Zj,if_neg]; done)|(simp only[H.get_put,H.Zi,H.Zm,H.Zd,H.Zg,H.Zj]; (repeat' split)<;>first|rfl|(exfalso; omega)|omega))⟩
    ·rw[decide_eq_false k0,decide_eq_false k2,decide_eq_false k1,cond_false,cond_false,cond_false]
     have b0:(k == 0)=false:=beq_eq_false_iff_ne.2 k0
     have b1:(k == 1)=false:=beq_eq_false_iff_ne.2 k1
     have b2:(k == 2)=false:=beq_eq_false_iff_ne.2 k2
     refine Ze.Z8 fits Hh (by kernel_rfl) (by kernel_rfl) (by kernel_rfl) (show Tryz.f42.body=some _ from rfl) rfl ?_
     repeat (first|apply Goes.seq|apply Goes.block2|apply Goes.loop|apply Goes.skip|apply Goes.exit|apply Goes.ret|((first|apply Goes.Zr|apply Goes.ops2 fits Hh Zc); · simp (maxSteps:=9^6) +decide (disch:=first|omega|(simp only[lens]<;>omega)|decide) only [go_sem,Za,simprocAttr,r16,b0,b1,b2,read1,Zw]<;>rfl)|simp +decide only [reduceIte])
     exact⟨_,_,(by simp (maxSteps:=9^6) +decide (disch:=first|omega|(simp only[lens]<;>omega)|decide) only [go_sem,Za,simprocAttr]<;>rfl),rfl,fun m hm=>by (first|(simp (discharger:=omega) only [H.get_put,H.Zi,H.Zm,H.Zd,H.Zg,H.Zj,if_neg]; done)|(simp only[H.get_put,H.Zi,H.Zm,H.Zd,H.Zg,H.Zj]; (repeat' split)<;>first|rfl|(exfalso; omega)|omega))⟩
 exact c.quiet rfl hk
end
end Go.Proofs.YtngejdlimkgjfaaGreatDoor
set_option maxRecDepth 100000
set_option maxHeartbeats 4000000
namespace Go.Proofs.YtngejdlimkgjfaaGreatDoor
open Go.Ev
def Zb5 (ns:List Nat) (p:Nat):List Nat:=ns.take p++(List.replicate 64 0++ns.drop (p+64))
def Zfb (ns:List Nat) (a:Nat):List Nat→List Nat
 | []=>ns
 | v :: vs=>Zfb (Uh ns a v) (a+4) vs
def R6 (ns:List Nat) (a:Nat):Nat→List Nat
 | 0=>[]
 | n+1=>Yn ns a :: R6 ns (a+4) n
def Gv (ns:List Nat) (p k l g s:Nat) (ps:List Nat) (nx:Nat):List Nat :=
 Uh (Zfb (Uh (Uh (Oe ((Zb5 ns p).set p k) (p+2) l) (p+4) g) (p+8) s) (p+12) ps) (p+56) nx
theorem Nc (ns:List Nat) (i j v:Nat) (h:i<ns.length):atN (ns.set i v) j=if j=i then v % 256 else atN ns j:=by
 unfold atN
 rw[List.getD_eq_getElem?_getD,List.getD_eq_getElem?_getD,List.getElem?_set]
 by_cases e:i=j
 ·subst e; rw[if_pos rfl,if_pos rfl,if_pos h]; rfl
 ·rw[if_neg e,if_neg (Ne.symm e)]
theorem Zl3 (ns:List Nat) (i j v:Nat) (h:i+2≤ns.length):atN (Oe ns i v) j=if j=i+1 then v / 256 % 256 else if j=i then v % 256 else atN ns j:=by
 unfold Oe
 rw[Nc _ _ _ _ (by rw[List.length_set]; omega),Nc _ _ _ _ (by omega)]
theorem Zc5 (ns:List Nat) (i j v:Nat) (h:i+4≤ns.length):atN (Uh ns i v) j=if j=i+3 then v / 256 / 256 / 256 % 256 else if j=i+2 then v / 256 / 256 % 256 else if j=i+1 then v / 256 % 256 else if j=i then v % 256 else atN ns j:=by
 unfold Uh
 rw[Nc _ _ _ _ (by simp only[List.length_set]; omega),Nc _ _ _ _ (by simp only[List.length_set]; omega),Nc _ _ _ _ (by simp only[List.length_set]; omega),Nc _ _ _ _ (by omega)]
theorem Qj (ns:List Nat) (i v:Nat) (h:i+4≤ns.length) (hv:v<4294967296):Yn (Uh ns i v) i=v:=by
 unfold Yn
 rw[Zc5 _ _ _ _ h,Zc5 _ _ _ _ h,Zc5 _ _ _ _ h,Zc5 _ _ _ _ h]
 simp (discharger:=omega) only [if_neg,if_true]
 omega
theorem Zu8 (ns:List Nat) (i v:Nat) (h:i+2≤ns.length) (hv:v<65536):U7 (Oe ns i v) i=v:=by
 unfold U7
 rw[Zl3 _ _ _ _ h,Zl3 _ _ _ _ h]
 simp (discharger:=omega) only [if_neg,if_true]
 omega
theorem Jz (ns:List Nat) (i j v:Nat) (h:i+4≤ns.length) (d:j<i∨i+4≤j):atN (Uh ns i v) j=atN ns j:=by
 rw[Zc5 _ _ _ _ h,if_neg (by omega),if_neg (by omega),if_neg (by omega),if_neg (by omega)]
theorem Za7 (ns:List Nat) (i j v:Nat) (h:i+2≤ns.length) (d:j<i∨i+2≤j):atN (Oe ns i v) j=atN ns j:=by
 rw[Zl3 _ _ _ _ h,if_neg (by omega),if_neg (by omega)]
theorem D9 {ns ms:List Nat} {i:Nat} (h:∀ j,i≤j→j<i+4→atN ms j=atN ns j):Yn ms i=Yn ns i:=by
 unfold Yn
 rw[h i (by omega) (by omega),h (i+1) (by omega) (by omega),h (i+2) (by omega) (by omega),h (i+3) (by omega) (by omega)]
theorem N8 {ns ms:List Nat} {i:Nat} (h:∀ j,i≤j→j<i+2→atN ms j=atN ns j):U7 ms i=U7 ns i:=by
 unfold U7
 rw[h i (by omega) (by omega),h (i+1) (by omega) (by omega)]
theorem Zh7 {ns ms:List Nat}:∀ {n a:Nat},(∀ j,a≤j→j<a+4 * n→atN ms j=atN ns j)→R6 ms a n=R6 ns a n
 | 0,_,_=>rfl
 | n+1,a,h=>by
  unfold R6
  rw[D9 fun j h1 h2=>h j h1 (by omega),Zh7 fun j h1 h2=>h j (by omega) (by omega)]
theorem Dy:∀ (vs ns:List Nat) (a:Nat),(Zfb ns a vs).length=ns.length
 | [],_,_=>rfl
 | v :: vs,ns,a=>by
  unfold Zfb
  rw[Dy vs,Yj]
theorem Rt:∀ (vs ns:List Nat) (a j:Nat),a+4 * vs.length≤ns.length→j<a∨a+4 * vs.length≤j→atN (Zfb ns a vs) j=atN ns j
 | [],_,_,_,_,_=>rfl
 | v :: vs,ns,a,j,h,d=>by
  unfold Zfb
  rw[List.length_cons] at h d
  rw[Rt vs _ _ _ (by rw[Yj]; omega) (by omega),Jz _ _ _ _ (by omega) (by omega)]
theorem Zjy:∀ (vs ns:List Nat) (a:Nat),a+4 * vs.length≤ns.length→(∀ v∈vs,v<4294967296)→R6 (Zfb ns a vs) a vs.length=vs
 | [],_,_,_,_=>rfl
 | v :: vs,ns,a,h,b=>by
  rw[List.length_cons] at h ⊢
  unfold Zfb R6
  rw[Zjy vs _ _ (by rw[Yj]; omega) fun v hv=>b v (List.mem_cons_of_mem _ hv),D9 (ns:=Uh ns a v) fun j h1 h2=>Rt _ _ _ _ (by rw[Yj]; omega) (by omega),Qj _ _ _ (by omega) (b v (List.mem_cons_self ..))]
theorem Lt {ns:List Nat} {p:Nat} (h:p+64≤ns.length):(Zb5 ns p).length=ns.length:=by
 unfold Zb5
 simp only[List.length_append,List.length_take,List.length_replicate,List.length_drop]
 omega
theorem Zzs {ns:List Nat} {p:Nat} (h:p+64≤ns.length) (j:Nat):atN (Zb5 ns p) j=if p≤j∧j<p+64 then 0 else atN ns j:=by
 unfold atN Zb5
 rw[List.getD_eq_getElem?_getD,List.getD_eq_getElem?_getD,List.getElem?_append,List.length_take,List.getElem?_append,List.length_replicate,Nat.min_eq_left (by omega)]
 by_cases h1:j<p
 ·rw[if_pos h1,if_neg (by omega),List.getElem?_take_of_lt h1]
 ·rw[if_neg h1]
  by_cases h2:j<p+64
  ·rw[if_pos (by omega),if_pos (by omega),List.getElem?_replicate,if_pos (by omega)]; rfl
  ·rw[if_neg (by omega),if_neg (by omega),List.getElem?_drop,show p+64+(j - p - 64)=j by omega]
theorem Zfp:∀ (n:Nat) (ns:List Nat) (a:Nat),a+n≤ns.length→(Dc ns a n=true ↔ ∀ i,i<n→atN ns (a+i)=0)
 | 0,ns,a,_=>by
  unfold Dc
  rw[List.take_zero]
  exact⟨fun _ i hi=>absurd hi (by omega),fun _=>rfl⟩
 | n+1,ns,a,h=>by
  have ih:=Zfp n ns (a+1) (by omega)
  have e:Dc ns a (n+1)=(bif Nat.beq (atN ns a) 0 then Dc ns (a+1) n else false):=by
   unfold Dc
   rw[List.drop_eq_getElem_cons (by omega),List.take_succ_cons,List.map_cons]
   unfold atN
   rw[List.getD_eq_getElem?_getD,List.getElem?_eq_getElem (by omega)]
   rfl
  rw[e]
  cases hb:Nat.beq (atN ns a) 0 with
  | true =>
   have b:=Nat.eq_of_beq_eq_true hb
   rw[cond_true,ih]
   refine⟨fun q i hi=>?_,fun q i hi=>?_⟩
   ·match i with
    | 0=>exact b
    | i+1=>have:=q i (by omega); rwa [show a+1+i=a+(i+1) by omega] at this
   ·have:=q (i+1) (by omega); rwa [show a+(i+1)=a+1+i by omega] at this
  | false =>
   rw[cond_false]
   refine⟨fun q=>by (cases q),fun q=>?_⟩
   have:=q 0 (by omega)
   rw[Nat.add_zero] at this
   rw[this] at hb
   cases hb
theorem Zvi {ns ms:List Nat} {a n:Nat} (l1:a+n≤ns.length) (l2:a+n≤ms.length) (h:∀ j,a≤j→j<a+n→atN ms j=atN ns j):Dc ms a n=Dc ns a n:=by
 rw[Bool.eq_iff_iff,Zfp n ms a l2,Zfp n ns a l1]
 exact⟨fun q i hi=>(h (a+i) (by omega) (by omega)).symm.trans (q i hi),fun q i hi=>(h (a+i) (by omega) (by omega)).trans (q i hi)⟩
theorem Vm {ns:List Nat} {p:Nat} (h:p+64≤ns.length) (k l g s nx:Nat) (ps:List Nat):(Gv ns p k l g s ps nx).length=ns.length:=by
 unfold Gv
 rw[Yj,Dy,Yj,Yj,Yz,List.length_set,Lt h]
section
variable {ns:List Nat} {p k l g s nx:Nat} {ps:List Nat}
theorem Zq3 (h:p+64≤ns.length) (pl:ps.length=11) {j:Nat} (d:j<p∨p+64≤j):atN (Gv ns p k l g s ps nx) j=atN ns j:=by
 have c:=Lt h
 unfold Gv
 rw[Jz _ _ _ _ (by simp only[Dy,Yj,Yz,List.length_set,c]; omega) (by omega),
  Rt _ _ _ _ (by simp only[Yj,Yz,List.length_set,c]; omega) (by omega),
  Jz _ _ _ _ (by simp only[Yj,Yz,List.length_set,c]; omega) (by omega),
  Jz _ _ _ _ (by simp only[Yj,Yz,List.length_set,c]; omega) (by omega),
  Za7 _ _ _ _ (by simp only[Yj,Yz,List.length_set,c]; omega) (by omega),
  Nc _ _ _ _ (by rw[c]; omega),if_neg (by omega),Zzs h,if_neg (by omega)]
theorem Zex (h:p+64≤ns.length) (pl:ps.length=11) {j:Nat} (d:j=p+1∨p+60≤j∧j<p+64):atN (Gv ns p k l g s ps nx) j=0:=by
 have c:=Lt h
 unfold Gv
 rw[Jz _ _ _ _ (by simp only[Dy,Yj,Yz,List.length_set,c]; omega) (by omega),
  Rt _ _ _ _ (by simp only[Yj,Yz,List.length_set,c]; omega) (by omega),
  Jz _ _ _ _ (by simp only[Yj,Yz,List.length_set,c]; omega) (by omega),
  Jz _ _ _ _ (by simp only[Yj,Yz,List.length_set,c]; omega) (by omega),
  Za7 _ _ _ _ (by simp only[Yj,Yz,List.length_set,c]; omega) (by omega),
  Nc _ _ _ _ (by rw[c]; omega),if_neg (by omega),Zzs h,if_pos (by omega)]
theorem Zmx (h:p+64≤ns.length) (pl:ps.length=11) (kl:k<256):atN (Gv ns p k l g s ps nx) p=k:=by
 have c:=Lt h
 unfold Gv
 rw[Jz _ _ _ _ (by simp only[Dy,Yj,Yz,List.length_set,c]; omega) (by omega),
  Rt _ _ _ _ (by simp only[Yj,Yz,List.length_set,c]; omega) (by omega),
  Jz _ _ _ _ (by simp only[Yj,Yz,List.length_set,c]; omega) (by omega),
  Jz _ _ _ _ (by simp only[Yj,Yz,List.length_set,c]; omega) (by omega),
  Za7 _ _ _ _ (by simp only[Yj,Yz,List.length_set,c]; omega) (by omega),
  Nc _ _ _ _ (by rw[c]; omega),if_pos rfl,Nat.mod_eq_of_lt kl]
theorem Zi8 (h:p+64≤ns.length) (pl:ps.length=11) (ll:l<65536):U7 (Gv ns p k l g s ps nx) (p+2)=l:=by
 have c:=Lt h
 unfold Gv
 rw[N8 fun j h1 h2=>Jz _ _ _ _ (by simp only[Dy,Yj,Yz,List.length_set,c]; omega) (by omega),
  N8 fun j h1 h2=>Rt _ _ _ _ (by simp only[Yj,Yz,List.length_set,c]; omega) (by omega),
  N8 fun j h1 h2=>Jz _ _ _ _ (by simp only[Yj,Yz,List.length_set,c]; omega) (by omega),
  N8 fun j h1 h2=>Jz _ _ _ _ (by simp only[Yj,Yz,List.length_set,c]; omega) (by omega),
  Zu8 _ _ _ (by simp only[List.length_set,c]; omega) ll]
theorem Zon (h:p+64≤ns.length) (pl:ps.length=11) (gl:g<4294967296):Yn (Gv ns p k l g s ps nx) (p+4)=g:=by
 have c:=Lt h
 unfold Gv
 rw[D9 fun j h1 h2=>Jz _ _ _ _ (by simp only[Dy,Yj,Yz,List.length_set,c]; omega) (by omega),
  D9 fun j h1 h2=>Rt _ _ _ _ (by simp only[Yj,Yz,List.length_set,c]; omega) (by omega),
  D9 fun j h1 h2=>Jz _ _ _ _ (by simp only[Yj,Yz,List.length_set,c]; omega) (by omega),
  Qj _ _ _ (by simp only[Yz,List.length_set,c]; omega) gl]
theorem Zly (h:p+64≤ns.length) (pl:ps.length=11) (sl:s<4294967296):Yn (Gv ns p k l g s ps nx) (p+8)=s:=by
 have c:=Lt h
 unfold Gv
 rw[D9 fun j h1 h2=>Jz _ _ _ _ (by simp only[Dy,Yj,Yz,List.length_set,c]; omega) (by omega),
  D9 fun j h1 h2=>Rt _ _ _ _ (by simp only[Yj,Yz,List.length_set,c]; omega) (by omega),
  Qj _ _ _ (by simp only[Yj,Yz,List.length_set,c]; omega) sl]
theorem Zl2 (h:p+64≤ns.length) (pl:ps.length=11) (pb:∀ v∈ps,v<4294967296):R6 (Gv ns p k l g s ps nx) (p+12) 11=ps:=by
 have c:=Lt h
 unfold Gv
 rw[Zh7 fun j h1 h2=>Jz _ _ _ _ (by simp only[Dy,Yj,Yz,List.length_set,c]; omega) (by omega),←pl]
 exact Zjy _ _ _ (by simp only[Yj,Yz,List.length_set,c]; omega) pb
theorem Zl5 (h:p+64≤ns.length) (pl:ps.length=11) (nl:nx<4294967296):Yn (Gv ns p k l g s ps nx) (p+56)=nx:=by
 have c:=Lt h
 unfold Gv
 rw[Qj _ _ _ (by simp only[Dy,Yj,Yz,List.length_set,c]; omega) nl]
end
def ino0:List C:=Gw 0 0 0 0 0 0 0 0 0 0 0 0 0 0 0 0
def Zla (ns:List Nat) (p:Nat):List C:=Gw (atN ns p) (U7 ns (p+2)) (Yn ns (p+4)) (Yn ns (p+8)) (Yn ns (p+12)) (Yn ns (p+16)) (Yn ns (p+20)) (Yn ns (p+24)) (Yn ns (p+28)) (Yn ns (p+32)) (Yn ns (p+36)) (Yn ns (p+40)) (Yn ns (p+44)) (Yn ns (p+48)) (Yn ns (p+52)) (Yn ns (p+56))
def Zi1 (ns:List Nat) (p:Nat):Bool:=Qe (atN ns p) (U7 ns (p+2)) (Yn ns (p+8)) (Yn ns (p+12)) (Yn ns (p+16)) (Yn ns (p+20)) (Yn ns (p+24)) (Yn ns (p+28)) (Yn ns (p+32)) (Yn ns (p+36)) (Yn ns (p+40)) (Yn ns (p+44)) (Yn ns (p+48)) (Yn ns (p+52)) (Yn ns (p+56))
def Mv (ns:List Nat) (p:Nat):List C × Int:=bif Nat.beq (atN ns (p+1)) 0&&(Dc ns (p+60) 4&&Zi1 ns p) then (Zla ns p,0) else (ino0,70)
theorem Zf4:ino0.length=16:=rfl
theorem Zyz (ns:List Nat) (p:Nat):(Mv ns p).1.length=16:=by
 unfold Mv
 cases Nat.beq (atN ns (p+1)) 0&&(Dc ns (p+60) 4&&Zi1 ns p)<;>rfl
theorem Zrb {ns ms:List Nat} {p:Nat} (l1:p+64≤ns.length) (l2:p+64≤ms.length) (h:∀ j,p≤j→j<p+64→atN ms j=atN ns j):Mv ms p=Mv ns p:=by
 have w:∀ i,p≤i→i+4≤p+64→Yn ms i=Yn ns i:=fun i h1 h2=>D9 fun j q1 q2=>h j (by omega) (by omega)
 have e0:=h p (by omega) (by omega)
 have e1:=h (p+1) (by omega) (by omega)
 have e2:U7 ms (p+2)=U7 ns (p+2):=N8 fun j q1 q2=>h j (by omega) (by omega)
 have e3:Dc ms (p+60) 4=Dc ns (p+60) 4:=Zvi (by omega) (by omega) fun j q1 q2=>h j (by omega) (by omega)
 unfold Mv Zla Zi1
 simp (discharger:=omega) only [e0,e1,e2,e3,w]
theorem Zne {ns:List Nat} {p k l g s p0 p1 p2 p3 p4 p5 p6 p7 p8 p9 p10 nx:Nat} (h:p+64≤ns.length) (kl:k<256) (ll:l<65536) (gl:g<4294967296) (sl:s<4294967296) (pb:∀ v∈[p0,p1,p2,p3,p4,p5,p6,p7,p8,p9,p10],v<4294967296) (nl:nx<4294967296)
  (m:Qe k l s p0 p1 p2 p3 p4 p5 p6 p7 p8 p9 p10 nx=true):Mv (Gv ns p k l g s [p0,p1,p2,p3,p4,p5,p6,p7,p8,p9,p10] nx) p=(Gw k l g s p0 p1 p2 p3 p4 p5 p6 p7 p8 p9 p10 nx,0):=by
 have pl:[p0,p1,p2,p3,p4,p5,p6,p7,p8,p9,p10].length=11:=rfl
 have e0:=Zmx (l:=l) (g:=g) (s:=s) (nx:=nx) h pl kl
 have e1:=Zex (k:=k) (l:=l) (g:=g) (s:=s) (nx:=nx) h pl (j:=p+1) (.inl rfl)
 have e2:=Zi8 (k:=k) (g:=g) (s:=s) (nx:=nx) h pl ll
 have e3:=Zon (k:=k) (l:=l) (s:=s) (nx:=nx) h pl gl
 have e4:=Zly (k:=k) (l:=l) (g:=g) (nx:=nx) h pl sl
 have e5:=Zl2 (k:=k) (l:=l) (g:=g) (s:=s) (nx:=nx) h pl pb
 have e6:=Zl5 (k:=k) (l:=l) (g:=g) (s:=s) h pl nl
 have e7:Dc (Gv ns p k l g s [p0,p1,p2,p3,p4,p5,p6,p7,p8,p9,p10] nx) (p+60) 4=true:=(Zfp 4 _ _ (by rw[Vm h]; omega)).2 fun i hi=>Zex h pl (.inr ⟨by omega,by omega⟩)
 obtain⟨E,hE⟩:∃ E,Gv ns p k l g s [p0,p1,p2,p3,p4,p5,p6,p7,p8,p9,p10] nx=E:=⟨_,rfl⟩
 rw[hE] at e0 e1 e2 e3 e4 e5 e6 e7 ⊢
 simp only[R6,Nat.add_assoc,Nat.reduceAdd,List.cons.injEq] at e5
 obtain⟨q0,q1,q2,q3,q4,q5,q6,q7,q8,q9,q10,_⟩:=e5
 unfold Mv Zla Zi1
 rw[e0,e1,e2,e3,e4,e6,e7,q0,q1,q2,q3,q4,q5,q6,q7,q8,q9,q10,m]
 rfl
theorem Znu {ns:List Nat} {p q k l g s nx:Nat} {ps:List Nat} (h:p+64≤ns.length) (h2:q+64≤ns.length) (pl:ps.length=11) (d:q+64≤p∨p+64≤q):Mv (Gv ns p k l g s ps nx) q=Mv ns q :=
 Zrb h2 (by rw[Vm h]; exact h2) fun j h1 h2=>Zq3 h pl (by omega)
theorem Zro {k l s p0 p1 p2 p3 p4 p5 p6 p7 p8 p9 p10 nx:Int} (h:Qe k l s p0 p1 p2 p3 p4 p5 p6 p7 p8 p9 p10 nx=true):0≤k∧k<256∧0≤l∧l<65536∧0≤s∧s<4294967296:=by
 unfold Qe at h
 by_cases k0:k=0
 ·rw[decide_eq_true k0,cond_true] at h
  unfold Zys at h
  simp only[Bool.and_eq_true,beq_iff_eq] at h
  obtain⟨h1,h2,_⟩:=h
  omega
 ·rw[decide_eq_false k0,cond_false] at h
  by_cases k2:k=2
  ·rw[decide_eq_true k2,cond_true] at h
   unfold Nb at h
   simp only[Bool.and_eq_true,decide_eq_true_eq] at h
   omega
  ·rw[decide_eq_false k2,cond_false] at h
   by_cases k1:k=1
   ·rw[decide_eq_true k1,cond_true] at h
    unfold Nb at h
    simp only[Bool.and_eq_true,decide_eq_true_eq] at h
    omega
   ·rw[decide_eq_false k1,cond_false] at h
    cases h
end Go.Proofs.YtngejdlimkgjfaaGreatDoor
