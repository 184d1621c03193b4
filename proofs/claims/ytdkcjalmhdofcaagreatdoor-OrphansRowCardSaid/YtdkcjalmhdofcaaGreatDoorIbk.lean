/- inode.place and inode.May, of any inode. -/
import Derived.Test.YtdkcjalmhdofcaaGreatDoorPag
import Derived.Test.YtdkcjalmhdofcaaGreatDoorEvC
set_option linter.unusedSimpArgs false
set_option linter.unusedVariables false
set_option linter.unusedSectionVars false
set_option maxRecDepth 100000
set_option maxHeartbeats 4000000
namespace Go.Proofs.YtdkcjalmhdofcaaGreatDoor
open Go.Ev
theorem ty45:K.types.get 45=some ti45:=by kernel_rfl
theorem sz45:ti45.size=11:=by rfl
theorem ag45:ti45.agg=true:=by rfl
theorem de45:ti45.desc=(.array 11 44):=by rfl
theorem ze45:ti45.zero=(.g ((List.replicate 11 (.int .u32 0)))):=by rfl
theorem by45:ti45.bytes=44:=by rfl
theorem eq45 (a b:List C):eqT K 20 45 (.g a) (.g b)=(bif true&&Nat.beq a.length 11&&Nat.beq b.length 11 then Yp a b else none):=by kernel_rfl
theorem ty47:K.types.get 47=some ti47:=by kernel_rfl
theorem sz47:ti47.size=16:=by rfl
theorem ag47:ti47.agg=true:=by rfl
theorem fo47_0:Zp K 47 0=some (0,ti5):=by kernel_rfl
theorem fo47_1:Zp K 47 1=some (1,ti3):=by kernel_rfl
theorem fo47_2:Zp K 47 2=some (2,ti44):=by kernel_rfl
theorem fo47_3:Zp K 47 3=some (3,ti3):=by kernel_rfl
theorem fo47_4:Zp K 47 4=some (4,ti45):=by kernel_rfl
theorem fo47_5:Zp K 47 5=some (15,ti44):=by kernel_rfl
theorem bu47 (ps:List (Nat × W)):Z9 K 47 (some ps)=gW (Z5 K 47 ps ti47.zero.cells):=by kernel_rfl
theorem ze47:ti47.zero=(.g ([.int .u8 0,.int .i64 0,.int .u32 0,.int .i64 0,.int .u32 0,.int .u32 0,.int .u32 0,.int .u32 0,.int .u32 0,.int .u32 0,.int .u32 0,.int .u32 0,.int .u32 0,.int .u32 0,.int .u32 0,.int .u32 0])):=by rfl
theorem by47:ti47.bytes=80:=by rfl
attribute [go_sem] ty45 sz45 ag45 de45 ze45 by45 eq45 ty47 sz47 ag47 fo47_0 fo47_1 fo47_2 fo47_3 fo47_4 fo47_5 bu47 ze47 by47
theorem rs91:Tryz.f91.results.toList=[.tmp 2]:=rfl
theorem rs93:Tryz.f93.results.toList=[.tmp 2]:=rfl
attribute [go_sem] rs91 rs93
def O9 (k l g s p0 p1 p2 p3 p4 p5 p6 p7 p8 p9 p10 nx:Int):List C:=[.int .u8 k,.int .i64 l,.int .u32 g,.int .i64 s,.int .u32 p0,.int .u32 p1,.int .u32 p2,.int .u32 p3,.int .u32 p4,.int .u32 p5,.int .u32 p6,.int .u32 p7,.int .u32 p8,.int .u32 p9,.int .u32 p10,.int .u32 nx]
def Rc (l s:Int):Bool:=decide (0≤l)&&decide (l≤1000)&&decide (0≤s)&&decide (s≤16777216)
def Zzy (l s p0 p1 p2 p3 p4 p5 p6 p7 p8 p9 p10 nx:Int):Bool:=l == 0&&(s == 0&&((p0 == 0&&(p1 == 0&&(p2 == 0&&(p3 == 0&&(p4 == 0&&(p5 == 0&&(p6 == 0&&(p7 == 0&&(p8 == 0&&(p9 == 0&&(p10 == 0&&true)))))))))))&&(nx == 0&&true)))
def Zet (k l s p0 p1 p2 p3 p4 p5 p6 p7 p8 p9 p10 nx:Int):Bool :=
 bif decide (k=0) then Zzy l s p0 p1 p2 p3 p4 p5 p6 p7 p8 p9 p10 nx
 else bif decide (k=2) then decide (l=1)&&decide (s % 256=0)&&decide (nx=0)&&Rc l s
 else bif decide (k=1) then Rc l s else false
noncomputable def Zfg:Kn1:=fun args h=>match args with
 | [.c (.int .i64 z)]=>some (.w (.c (.bool (decide (z=0∨z=64∨z=128∨z=192)))),h)
 | _=>none
noncomputable def Z1d:Kn1:=fun args h=>match args with
 | [.g [.int .u8 k,.int .i64 l,.int .u32 g,.int .i64 s,.int .u32 p0,.int .u32 p1,.int .u32 p2,.int .u32 p3,.int .u32 p4,.int .u32 p5,.int .u32 p6,.int .u32 p7,.int .u32 p8,.int .u32 p9,.int .u32 p10,.int .u32 nx]]=>some (.w (.c (.bool (Zet k l s p0 p1 p2 p3 p4 p5 p6 p7 p8 p9 p10 nx))),h)
 | _=>none
attribute [go_sem] Zfg Z1d
def mB (b:Bool) (r:Option Bool):Option Bool:=match some b with
 | some true=>r
 | r'=>r'
def mO (o:Option Bool) (r:Option Bool):Option Bool:=match o with
 | some true=>r
 | r'=>r'
theorem Zzb (b x:Bool):mB b (some x)=some (b&&x):=by cases b<;>rfl
theorem Zxc (b x:Bool):mO (some b) (some x)=some (b&&x):=by cases b<;>rfl
theorem G7 (k:IntKind) (a:Int) (x y:List C) (r:Bool) (h:Yp x y=some r):Yp (.int k a :: x) (.int k 0 :: y)=some (a == 0&&r):=by
 simp only[Yp,if_true,h]
 cases (a == 0)<;>rfl
theorem Z3r (k l g s p0 p1 p2 p3 p4 p5 p6 p7 p8 p9 p10 nx:Int):eqT K 20 47 (.g (O9 k l g s p0 p1 p2 p3 p4 p5 p6 p7 p8 p9 p10 nx)) (.g (O9 0 0 g 0 0 0 0 0 0 0 0 0 0 0 0 0))=some (k == 0&&(l == 0&&(s == 0&&((p0 == 0&&(p1 == 0&&(p2 == 0&&(p3 == 0&&(p4 == 0&&(p5 == 0&&(p6 == 0&&(p7 == 0&&(p8 == 0&&(p9 == 0&&(p10 == 0&&true)))))))))))&&(nx == 0&&true))))):=by
 have e1:eqT K 20 47 (.g (O9 k l g s p0 p1 p2 p3 p4 p5 p6 p7 p8 p9 p10 nx)) (.g (O9 0 0 g 0 0 0 0 0 0 0 0 0 0 0 0 0))=mB (k == 0) (mB (l == 0) (mB (g == g) (mB (s == 0) (mO (Yp [.int .u32 p0,.int .u32 p1,.int .u32 p2,.int .u32 p3,.int .u32 p4,.int .u32 p5,.int .u32 p6,.int .u32 p7,.int .u32 p8,.int .u32 p9,.int .u32 p10] [.int .u32 0,.int .u32 0,.int .u32 0,.int .u32 0,.int .u32 0,.int .u32 0,.int .u32 0,.int .u32 0,.int .u32 0,.int .u32 0,.int .u32 0]) (mB (nx == 0) (some true)))))):=by kernel_rfl
 rw[e1]
 have e2:Yp [C.int .u32 p0,C.int .u32 p1,C.int .u32 p2,C.int .u32 p3,C.int .u32 p4,C.int .u32 p5,C.int .u32 p6,C.int .u32 p7,C.int .u32 p8,C.int .u32 p9,C.int .u32 p10] [C.int .u32 0,C.int .u32 0,C.int .u32 0,C.int .u32 0,C.int .u32 0,C.int .u32 0,C.int .u32 0,C.int .u32 0,C.int .u32 0,C.int .u32 0,C.int .u32 0]=some _:=G7 _ _ _ _ _ (G7 _ _ _ _ _ (G7 _ _ _ _ _ (G7 _ _ _ _ _ (G7 _ _ _ _ _ (G7 _ _ _ _ _ (G7 _ _ _ _ _ (G7 _ _ _ _ _ (G7 _ _ _ _ _ (G7 _ _ _ _ _ (G7 _ _ _ _ _ (rfl)))))))))))
 rw[e2]
 simp only[beq_self_eq_true,Zzb,Zxc,Bool.true_and]
section
variable (Hh:Hearts K Tryz.prog)
include Hh
theorem Ma {args:List W} {h h':Go.Ev.H} {v:V} (e:Zfg args h=some (v,h')):Zg K Tryz.prog 93 args h v h':=by
 unfold Zfg at e
 split at e
 ·rename_i z
  cases e
  by_cases z0:0≤z
  ·by_cases z1:z<256
   ·obtain⟨n,rfl⟩:=Int.eq_ofNat_of_zero_le z0
    have rm:F6 .i64 (n:Int) 64=some (.int .i64 ((n % 64:Nat):Int)):=Bd (b:=64) (by omega)
    by_cases z2:n % 64=0
    ·rw[decide_eq_true (show (n:Int)=0∨(n:Int)=64∨(n:Int)=128∨(n:Int)=192 by omega)]
     refine Zg.goes fits Hh (by kernel_rfl) (by kernel_rfl) (by kernel_rfl) (show Tryz.f93.body=some _ from rfl) rfl ?_
     repeat (first|apply Goes.seq|apply Goes.block|apply Goes.loop|apply Goes.skip|apply Goes.exit|apply Goes.ret|((first|apply Goes.Zo|apply Goes.ops2 fits Hh Zb); · simp (maxSteps:=9^6) +decide (disch:=first|omega|(simp only[lens]<;>omega)|decide) only [go_sem,Zd,Za,simprocAttr,rm,z2]<;>rfl))
     simp (maxSteps:=9^6) +decide (disch:=first|omega|(simp only[lens]<;>omega)|decide) only [go_sem,Zd,Za,simprocAttr]<;>rfl
    ·rw[decide_eq_false (show ¬((n:Int)=0∨(n:Int)=64∨(n:Int)=128∨(n:Int)=192) by omega)]
     have z3:(((n % 64:Nat):Int) == 0)=false:=beq_eq_false_iff_ne.2 (by omega)
     refine Zg.goes fits Hh (by kernel_rfl) (by kernel_rfl) (by kernel_rfl) (show Tryz.f93.body=some _ from rfl) rfl ?_
     repeat (first|apply Goes.seq|apply Goes.block|apply Goes.loop|apply Goes.skip|apply Goes.exit|apply Goes.ret|((first|apply Goes.Zo|apply Goes.ops2 fits Hh Zb); · simp (maxSteps:=9^6) +decide (disch:=first|omega|(simp only[lens]<;>omega)|decide) only [go_sem,Zd,Za,simprocAttr,rm,z3]<;>rfl))
     simp (maxSteps:=9^6) +decide (disch:=first|omega|(simp only[lens]<;>omega)|decide) only [go_sem,Zd,Za,simprocAttr]<;>rfl
   ·rw[decide_eq_false (show ¬(z=0∨z=64∨z=128∨z=192) by omega)]
    refine Zg.goes fits Hh (by kernel_rfl) (by kernel_rfl) (by kernel_rfl) (show Tryz.f93.body=some _ from rfl) rfl ?_
    repeat (first|apply Goes.seq|apply Goes.block|apply Goes.loop|apply Goes.skip|apply Goes.exit|apply Goes.ret|((first|apply Goes.Zo|apply Goes.ops2 fits Hh Zb); · simp (maxSteps:=9^6) +decide (disch:=first|omega|(simp only[lens]<;>omega)|decide) only [go_sem,Zd,Za,simprocAttr]<;>rfl))
    simp (maxSteps:=9^6) +decide (disch:=first|omega|(simp only[lens]<;>omega)|decide) only [go_sem,Zd,Za,simprocAttr]<;>rfl
  ·rw[decide_eq_false (show ¬(z=0∨z=64∨z=128∨z=192) by omega)]
   refine Zg.goes fits Hh (by kernel_rfl) (by kernel_rfl) (by kernel_rfl) (show Tryz.f93.body=some _ from rfl) rfl ?_
   repeat (first|apply Goes.seq|apply Goes.block|apply Goes.loop|apply Goes.skip|apply Goes.exit|apply Goes.ret|((first|apply Goes.Zo|apply Goes.ops2 fits Hh Zb); · simp (maxSteps:=9^6) +decide (disch:=first|omega|(simp only[lens]<;>omega)|decide) only [go_sem,Zd,Za,simprocAttr]<;>rfl))
   simp (maxSteps:=9^6) +decide (disch:=first|omega|(simp only[lens]<;>omega)|decide) only [go_sem,Zd,Za,simprocAttr]<;>rfl
 ·cases e
theorem Zjh (k l g s p0 p1 p2 p3 p4 p5 p6 p7 p8 p9 p10 nx:Int) (h:Go.Ev.H):Zg K Tryz.prog 91 [.g [.int .u8 k,.int .i64 l,.int .u32 g,.int .i64 s,.int .u32 p0,.int .u32 p1,.int .u32 p2,.int .u32 p3,.int .u32 p4,.int .u32 p5,.int .u32 p6,.int .u32 p7,.int .u32 p8,.int .u32 p9,.int .u32 p10,.int .u32 nx]] h (.w (.c (.bool (Zet k l s p0 p1 p2 p3 p4 p5 p6 p7 p8 p9 p10 nx)))) h:=by
 have r16:∀ k,Zd 16 [[.int .u8 k,.int .i64 l,.int .u32 g,.int .i64 s,.int .u32 p0,.int .u32 p1,.int .u32 p2,.int .u32 p3,.int .u32 p4,.int .u32 p5,.int .u32 p6,.int .u32 p7,.int .u32 p8,.int .u32 p9,.int .u32 p10,.int .u32 nx]] 0 16=some [.int .u8 k,.int .i64 l,.int .u32 g,.int .i64 s,.int .u32 p0,.int .u32 p1,.int .u32 p2,.int .u32 p3,.int .u32 p4,.int .u32 p5,.int .u32 p6,.int .u32 p7,.int .u32 p8,.int .u32 p9,.int .u32 p10,.int .u32 nx]:=fun _=>rfl
 obtain⟨v,h',c,rfl,hk⟩:∃ v h',Zg K Tryz.prog 91 [.g [.int .u8 k,.int .i64 l,.int .u32 g,.int .i64 s,.int .u32 p0,.int .u32 p1,.int .u32 p2,.int .u32 p3,.int .u32 p4,.int .u32 p5,.int .u32 p6,.int .u32 p7,.int .u32 p8,.int .u32 p9,.int .u32 p10,.int .u32 nx]] h v h'∧v=.w (.c (.bool (Zet k l s p0 p1 p2 p3 p4 p5 p6 p7 p8 p9 p10 nx)))∧∀ m,m<h.next→h'.get m=h.get m:=by
  unfold Zet
  by_cases k0:k=0
  ·subst k0
   have q:=Z3r 0 l g s p0 p1 p2 p3 p4 p5 p6 p7 p8 p9 p10 nx
   simp only[O9] at q
   refine Zg.Yb fits Hh (by kernel_rfl) (by kernel_rfl) (by kernel_rfl) (show Tryz.f91.body=some _ from rfl) rfl ?_
   repeat (first|apply Goes.seq|apply Goes.block2|apply Goes.loop|apply Goes.skip|apply Goes.exit|apply Goes.ret|((first|apply Goes.Zo|apply Goes.ops2 fits Hh Zb); · simp (maxSteps:=9^6) +decide (disch:=first|omega|(simp only[lens]<;>omega)|decide) only [go_sem,Za,simprocAttr,r16,q,read1,Z6]<;>rfl)|simp +decide only [reduceIte])
   exact⟨_,_,(by simp (maxSteps:=9^6) +decide (disch:=first|omega|(simp only[lens]<;>omega)|decide) only [go_sem,Za,simprocAttr]<;>rfl),by simp [Zzy],fun m hm=>by (first|(simp (discharger:=omega) only [H.get_put,H.Zf,H.Zk,H.Zc,H.Zh,H.Zi,if_neg]; done)|(simp only[H.get_put,H.Zf,H.Zk,H.Zc,H.Zh,H.Zi]; (repeat' split)<;>first|rfl|(exfalso; omega)|omega))⟩
  ·by_cases k2:k=2
   ·subst k2
    rw[decide_eq_false (by omega),decide_eq_true rfl,cond_false,cond_true]
    by_cases l1:l=1
    ·subst l1
     by_cases s0:0≤s
     ·obtain⟨z,rfl⟩:=Int.eq_ofNat_of_zero_le s0
      have rm:F6 .i64 (z:Int) 256=some (.int .i64 ((z % 256:Nat):Int)):=Bd (b:=256) (by omega)
      have em:((z:Int) % 256)=((z % 256:Nat):Int):=rfl
      rw[em]
      by_cases z2:z % 256=0
      ·by_cases n0:nx=0
       ·subst n0
        by_cases z3:z≤16777216
        ·
         refine Zg.Yb fits Hh (by kernel_rfl) (by kernel_rfl) (by kernel_rfl) (show Tryz.f91.body=some _ from rfl) rfl ?_
         repeat (first|apply Goes.seq|apply Goes.block2|apply Goes.loop|apply Goes.skip|apply Goes.exit|apply Goes.ret|((first|apply Goes.Zo|apply Goes.ops2 fits Hh Zb); · simp (maxSteps:=9^6) +decide (disch:=first|omega|(simp only[lens]<;>omega)|decide) only [go_sem,Za,simprocAttr,r16,rm,z2,read1,Z6]<;>rfl)|simp +decide only [reduceIte])
         exact⟨_,_,(by simp (maxSteps:=9^6) +decide (disch:=first|omega|(simp only[lens]<;>omega)|decide) only [go_sem,Za,simprocAttr]<;>rfl),by simp [Rc,z2]; omega,fun m hm=>by (first|(simp (discharger:=omega) only [H.get_put,H.Zf,H.Zk,H.Zc,H.Zh,H.Zi,if_neg]; done)|(simp only[H.get_put,H.Zf,H.Zk,H.Zc,H.Zh,H.Zi]; (repeat' split)<;>first|rfl|(exfalso; omega)|omega))⟩
        ·
         refine Zg.Yb fits Hh (by kernel_rfl) (by kernel_rfl) (by kernel_rfl) (show Tryz.f91.body=some _ from rfl) rfl ?_
         repeat (first|apply Goes.seq|apply Goes.block2|apply Goes.loop|apply Goes.skip|apply Goes.exit|apply Goes.ret|((first|apply Goes.Zo|apply Goes.ops2 fits Hh Zb); · simp (maxSteps:=9^6) +decide (disch:=first|omega|(simp only[lens]<;>omega)|decide) only [go_sem,Za,simprocAttr,r16,rm,z2,read1,Z6]<;>rfl)|simp +decide only [reduceIte])
         exact⟨_,_,(by simp (maxSteps:=9^6) +decide (disch:=first|omega|(simp only[lens]<;>omega)|decide) only [go_sem,Za,simprocAttr]<;>rfl),by simp [Rc,z2]; omega,fun m hm=>by (first|(simp (discharger:=omega) only [H.get_put,H.Zf,H.Zk,H.Zc,H.Zh,H.Zi,if_neg]; done)|(simp only[H.get_put,H.Zf,H.Zk,H.Zc,H.Zh,H.Zi]; (repeat' split)<;>first|rfl|(exfalso; omega)|omega))⟩
       ·
        refine Zg.Yb fits Hh (by kernel_rfl) (by kernel_rfl) (by kernel_rfl) (show Tryz.f91.body=some _ from rfl) rfl ?_
        repeat (first|apply Goes.seq|apply Goes.block2|apply Goes.loop|apply Goes.skip|apply Goes.exit|apply Goes.ret|((first|apply Goes.Zo|apply Goes.ops2 fits Hh Zb); · simp (maxSteps:=9^6) +decide (disch:=first|omega|(simp only[lens]<;>omega)|decide) only [go_sem,Za,simprocAttr,r16,rm,z2,n0,read1,Z6]<;>rfl)|simp +decide only [reduceIte])
        exact⟨_,_,(by simp (maxSteps:=9^6) +decide (disch:=first|omega|(simp only[lens]<;>omega)|decide) only [go_sem,Za,simprocAttr]<;>rfl),by simp [n0],fun m hm=>by (first|(simp (discharger:=omega) only [H.get_put,H.Zf,H.Zk,H.Zc,H.Zh,H.Zi,if_neg]; done)|(simp only[H.get_put,H.Zf,H.Zk,H.Zc,H.Zh,H.Zi]; (repeat' split)<;>first|rfl|(exfalso; omega)|omega))⟩
      ·have z3:(((z % 256:Nat):Int) == 0)=false:=beq_eq_false_iff_ne.2 (by omega)
       have z4:(((z % 256:Nat):Int) != 0)=true:=by rw[bne,z3]; rfl
       refine Zg.Yb fits Hh (by kernel_rfl) (by kernel_rfl) (by kernel_rfl) (show Tryz.f91.body=some _ from rfl) rfl ?_
       repeat (first|apply Goes.seq|apply Goes.block2|apply Goes.loop|apply Goes.skip|apply Goes.exit|apply Goes.ret|((first|apply Goes.Zo|apply Goes.ops2 fits Hh Zb); · simp (maxSteps:=9^6) +decide (disch:=first|omega|(simp only[lens]<;>omega)|decide) only [go_sem,Za,simprocAttr,r16,rm,z4,read1,Z6]<;>rfl)|simp +decide only [reduceIte])
       exact⟨_,_,(by simp (maxSteps:=9^6) +decide (disch:=first|omega|(simp only[lens]<;>omega)|decide) only [go_sem,Za,simprocAttr]<;>rfl),by rw[decide_eq_false (show ¬(((z % 256:Nat):Int)=0) by omega)]; rfl,fun m hm=>by (first|(simp (discharger:=omega) only [H.get_put,H.Zf,H.Zk,H.Zc,H.Zh,H.Zi,if_neg]; done)|(simp only[H.get_put,H.Zf,H.Zk,H.Zc,H.Zh,H.Zi]; (repeat' split)<;>first|rfl|(exfalso; omega)|omega))⟩
     ·have rm:F6 .i64 s 256=some (.int .i64 (s.tmod 256)):=rfl
      have mf:Rc 1 s=false:=by unfold Rc; rw[decide_eq_false s0]; rfl
      rw[mf,Bool.and_false]
      by_cases z2:s.tmod 256=0
      ·by_cases n0:nx=0
       ·subst n0
        refine Zg.Yb fits Hh (by kernel_rfl) (by kernel_rfl) (by kernel_rfl) (show Tryz.f91.body=some _ from rfl) rfl ?_
        repeat (first|apply Goes.seq|apply Goes.block2|apply Goes.loop|apply Goes.skip|apply Goes.exit|apply Goes.ret|((first|apply Goes.Zo|apply Goes.ops2 fits Hh Zb); · simp (maxSteps:=9^6) +decide (disch:=first|omega|(simp only[lens]<;>omega)|decide) only [go_sem,Za,simprocAttr,r16,rm,z2,read1,Z6]<;>rfl)|simp +decide only [reduceIte])
        exact⟨_,_,(by simp (maxSteps:=9^6) +decide (disch:=first|omega|(simp only[lens]<;>omega)|decide) only [go_sem,Za,simprocAttr]<;>rfl),rfl,fun m hm=>by (first|(simp (discharger:=omega) only [H.get_put,H.Zf,H.Zk,H.Zc,H.Zh,H.Zi,if_neg]; done)|(simp only[H.get_put,H.Zf,H.Zk,H.Zc,H.Zh,H.Zi]; (repeat' split)<;>first|rfl|(exfalso; omega)|omega))⟩
       ·
        refine Zg.Yb fits Hh (by kernel_rfl) (by kernel_rfl) (by kernel_rfl) (show Tryz.f91.body=some _ from rfl) rfl ?_
        repeat (first|apply Goes.seq|apply Goes.block2|apply Goes.loop|apply Goes.skip|apply Goes.exit|apply Goes.ret|((first|apply Goes.Zo|apply Goes.ops2 fits Hh Zb); · simp (maxSteps:=9^6) +decide (disch:=first|omega|(simp only[lens]<;>omega)|decide) only [go_sem,Za,simprocAttr,r16,rm,z2,n0,read1,Z6]<;>rfl)|simp +decide only [reduceIte])
        exact⟨_,_,(by simp (maxSteps:=9^6) +decide (disch:=first|omega|(simp only[lens]<;>omega)|decide) only [go_sem,Za,simprocAttr]<;>rfl),rfl,fun m hm=>by (first|(simp (discharger:=omega) only [H.get_put,H.Zf,H.Zk,H.Zc,H.Zh,H.Zi,if_neg]; done)|(simp only[H.get_put,H.Zf,H.Zk,H.Zc,H.Zh,H.Zi]; (repeat' split)<;>first|rfl|(exfalso; omega)|omega))⟩
      ·have z4:(s.tmod 256 != 0)=true:=by rw[bne,beq_eq_false_iff_ne.2 z2]; rfl
       refine Zg.Yb fits Hh (by kernel_rfl) (by kernel_rfl) (by kernel_rfl) (show Tryz.f91.body=some _ from rfl) rfl ?_
       repeat (first|apply Goes.seq|apply Goes.block2|apply Goes.loop|apply Goes.skip|apply Goes.exit|apply Goes.ret|((first|apply Goes.Zo|apply Goes.ops2 fits Hh Zb); · simp (maxSteps:=9^6) +decide (disch:=first|omega|(simp only[lens]<;>omega)|decide) only [go_sem,Za,simprocAttr,r16,rm,z4,read1,Z6]<;>rfl)|simp +decide only [reduceIte])
       exact⟨_,_,(by simp (maxSteps:=9^6) +decide (disch:=first|omega|(simp only[lens]<;>omega)|decide) only [go_sem,Za,simprocAttr]<;>rfl),rfl,fun m hm=>by (first|(simp (discharger:=omega) only [H.get_put,H.Zf,H.Zk,H.Zc,H.Zh,H.Zi,if_neg]; done)|(simp only[H.get_put,H.Zf,H.Zk,H.Zc,H.Zh,H.Zi]; (repeat' split)<;>first|rfl|(exfalso; omega)|omega))⟩
    ·have l2:(l != 1)=true:=by rw[bne,beq_eq_false_iff_ne.2 l1]; rfl
     rw[decide_eq_false l1]
     refine Zg.Yb fits Hh (by kernel_rfl) (by kernel_rfl) (by kernel_rfl) (show Tryz.f91.body=some _ from rfl) rfl ?_
     repeat (first|apply Goes.seq|apply Goes.block2|apply Goes.loop|apply Goes.skip|apply Goes.exit|apply Goes.ret|((first|apply Goes.Zo|apply Goes.ops2 fits Hh Zb); · simp (maxSteps:=9^6) +decide (disch:=first|omega|(simp only[lens]<;>omega)|decide) only [go_sem,Za,simprocAttr,r16,l2,read1,Z6]<;>rfl)|simp +decide only [reduceIte])
     exact⟨_,_,(by simp (maxSteps:=9^6) +decide (disch:=first|omega|(simp only[lens]<;>omega)|decide) only [go_sem,Za,simprocAttr]<;>rfl),rfl,fun m hm=>by (first|(simp (discharger:=omega) only [H.get_put,H.Zf,H.Zk,H.Zc,H.Zh,H.Zi,if_neg]; done)|(simp only[H.get_put,H.Zf,H.Zk,H.Zc,H.Zh,H.Zi]; (repeat' split)<;>first|rfl|(exfalso; omega)|omega))⟩
   ·by_cases k1:k=1
    ·subst k1
     rw[decide_eq_false (by omega),decide_eq_false (by omega),decide_eq_true rfl,cond_false,cond_false,cond_true]
     unfold Rc
     by_cases a1:0≤l
     ·by_cases a2:l≤1000
      ·by_cases a3:0≤s
       ·by_cases a4:s≤16777216
        all_goals
         refine Zg.Yb fits Hh (by kernel_rfl) (by kernel_rfl) (by kernel_rfl) (show Tryz.f91.body=some _ from rfl) rfl ?_
         repeat (first|apply Goes.seq|apply Goes.block2|apply Goes.loop|apply Goes.skip|apply Goes.exit|apply Goes.ret|((first|apply Goes.Zo|apply Goes.ops2 fits Hh Zb); · simp (maxSteps:=9^6) +decide (disch:=first|omega|(simp only[lens]<;>omega)|decide) only [go_sem,Za,simprocAttr,r16,read1,Z6]<;>rfl)|simp +decide only [reduceIte])
         exact⟨_,_,(by simp (maxSteps:=9^6) +decide (disch:=first|omega|(simp only[lens]<;>omega)|decide) only [go_sem,Za,simprocAttr]<;>rfl),by simp [a1,a2,a3,a4],fun m hm=>by (first|(simp (discharger:=omega) only [H.get_put,H.Zf,H.Zk,H.Zc,H.Zh,H.Zi,if_neg]; done)|(simp only[H.get_put,H.Zf,H.Zk,H.Zc,H.Zh,H.Zi]; (repeat' split)<;>first|rfl|(exfalso; omega)|omega))⟩
       ·
        refine Zg.Yb fits Hh (by kernel_rfl) (by kernel_rfl) (by kernel_rfl) (show Tryz.f91.body=some _ from rfl) rfl ?_
        repeat (first|apply Goes.seq|apply Goes.block2|apply Goes.loop|apply Goes.skip|apply Goes.exit|apply Goes.ret|((first|apply Goes.Zo|apply Goes.ops2 fits Hh Zb); · simp (maxSteps:=9^6) +decide (disch:=first|omega|(simp only[lens]<;>omega)|decide) only [go_sem,Za,simprocAttr,r16,read1,Z6]<;>rfl)|simp +decide only [reduceIte])
        exact⟨_,_,(by simp (maxSteps:=9^6) +decide (disch:=first|omega|(simp only[lens]<;>omega)|decide) only [go_sem,Za,simprocAttr]<;>rfl),by simp [a3],fun m hm=>by (first|(simp (discharger:=omega) only [H.get_put,H.Zf,H.Zk,H.Zc,H.Zh,H.Zi,if_neg]; done)|(simp only[H.get_put,H.Zf,H.Zk,H.Zc,H.Zh,H.Zi]; (repeat' split)<;>first|rfl|(exfalso; omega)|omega))⟩
      ·
       refine Zg.Yb fits Hh (by kernel_rfl) (by kernel_rfl) (by kernel_rfl) (show Tryz.f91.body=some _ from rfl) rfl ?_
       repeat (first|apply Goes.seq|apply Goes.block2|apply Goes.loop|apply Goes.skip|apply Goes.exit|apply Goes.ret|((first|apply Goes.Zo|apply Goes.ops2 fits Hh Zb); · simp (maxSteps:=9^6) +decide (disch:=first|omega|(simp only[lens]<;>omega)|decide) only [go_sem,Za,simprocAttr,r16,read1,Z6]<;>rfl)|simp +decide only [reduceIte])
       exact⟨_,_,(by simp (maxSteps:=9^6) +decide (disch:=first|omega|(simp only[lens]<;>omega)|decide) only [go_sem,Za,simprocAttr]<;>rfl),by simp [a2],fun m hm=>by (first|(simp (discharger:=omega) only [H.get_put,H.Zf,H.Zk,H.Zc,H.Zh,H.Zi,if_neg]; done)|(simp only[H.get_put,H.Zf,H.Zk,H.Zc,H.Zh,H.Zi]; (repeat' split)<;>first|rfl|(exfalso; omega)|omega))⟩
     ·
      refine Zg.Yb fits Hh (by kernel_rfl) (by kernel_rfl) (by kernel_rfl) (show Tryz.f91.body=some _ from rfl) rfl ?_
      repeat (first|apply Goes.seq|apply Goes.block2|apply Goes.loop|apply Goes.skip|apply Goes.exit|apply Goes.ret|((first|apply Goes.Zo|apply Goes.ops2 fits Hh Zb); · simp (maxSteps:=9^6) +decide (disch:=first|omega|(simp only[lens]<;>omega)|decide) only [go_sem,Za,simprocAttr,r16,read1,Z6]<;>rfl)|simp +decide only [reduceIte])
      exact⟨_,_,(by simp (maxSteps:=9^6) +decide (disch:=first|omega|(simp only[lens]<;>omega)|decide) only [go_sem,Za,simprocAttr]<;>rfl),by simp [a1],fun m hm=>by (first|(simp (discharger:=omega) only [H.get_put,H.Zf,H.Zk,H.Zc,H.Zh,H.Zi,if_neg]; done)|(simp only[H.get_put,H.Zf,H.Zk,H.Zc,H.Zh,H.Zi]; (repeat' split)<;>first|rfl|(exfalso; omega)|omega))⟩
    ·rw[decide_eq_false k0,decide_eq_false k2,decide_eq_false k1,cond_false,cond_false,cond_false]
     have b0:(k == 0)=false:=beq_eq_false_iff_ne.2 k0
     have b1:(k == 1)=false:=beq_eq_false_iff_ne.2 k1
     have b2:(k == 2)=false:=beq_eq_false_iff_ne.2 k2
     refine Zg.Yb fits Hh (by kernel_rfl) (by kernel_rfl) (by kernel_rfl) (show Tryz.f91.body=some _ from rfl) rfl ?_
     repeat (first|apply Goes.seq|apply Goes.block2|apply Goes.loop|apply Goes.skip|apply Goes.exit|apply Goes.ret|((first|apply Goes.Zo|apply Goes.ops2 fits Hh Zb); · simp (maxSteps:=9^6) +decide (disch:=first|omega|(simp only[lens]<;>omega)|decide) only [go_sem,Za,simprocAttr,r16,b0,b1,b2,read1,Z6]<;>rfl)|simp +decide only [reduceIte])
     exact⟨_,_,(by simp (maxSteps:=9^6) +decide (disch:=first|omega|(simp only[lens]<;>omega)|decide) only [go_sem,Za,simprocAttr]<;>rfl),rfl,fun m hm=>by (first|(simp (discharger:=omega) only [H.get_put,H.Zf,H.Zk,H.Zc,H.Zh,H.Zi,if_neg]; done)|(simp only[H.get_put,H.Zf,H.Zk,H.Zc,H.Zh,H.Zi]; (repeat' split)<;>first|rfl|(exfalso; omega)|omega))⟩
 exact c.quiet rfl hk
end
end Go.Proofs.YtdkcjalmhdofcaaGreatDoor
set_option maxRecDepth 100000
set_option maxHeartbeats 4000000
namespace Go.Proofs.YtdkcjalmhdofcaaGreatDoor
open Go.Ev
def Zap (ns:List Nat) (p:Nat):List Nat:=ns.take p++(List.replicate 64 0++ns.drop (p+64))
def Zcp (ns:List Nat) (a:Nat):List Nat→List Nat
 | []=>ns
 | v :: vs=>Zcp (Jg ns a v) (a+4) vs
def Mt (ns:List Nat) (a:Nat):Nat→List Nat
 | 0=>[]
 | n+1=>Yi ns a :: Mt ns (a+4) n
def Bh (ns:List Nat) (p k l g s:Nat) (ps:List Nat) (nx:Nat):List Nat :=
 Jg (Zcp (Jg (Jg (Ua ((Zap ns p).set p k) (p+2) l) (p+4) g) (p+8) s) (p+12) ps) (p+56) nx
theorem Fj (ns:List Nat) (i j v:Nat) (h:i<ns.length):atN (ns.set i v) j=if j=i then v % 256 else atN ns j:=by
 unfold atN
 rw[List.getD_eq_getElem?_getD,List.getD_eq_getElem?_getD,List.getElem?_set]
 by_cases e:i=j
 ·subst e; rw[if_pos rfl,if_pos rfl,if_pos h]; rfl
 ·rw[if_neg e,if_neg (Ne.symm e)]
theorem Zjt (ns:List Nat) (i j v:Nat) (h:i+2≤ns.length):atN (Ua ns i v) j=if j=i+1 then v / 256 % 256 else if j=i then v % 256 else atN ns j:=by
 unfold Ua
 rw[Fj _ _ _ _ (by rw[List.length_set]; omega),Fj _ _ _ _ (by omega)]
theorem Qj (ns:List Nat) (i j v:Nat) (h:i+4≤ns.length):atN (Jg ns i v) j=if j=i+3 then v / 256 / 256 / 256 % 256 else if j=i+2 then v / 256 / 256 % 256 else if j=i+1 then v / 256 % 256 else if j=i then v % 256 else atN ns j:=by
 unfold Jg
 rw[Fj _ _ _ _ (by simp only[List.length_set]; omega),Fj _ _ _ _ (by simp only[List.length_set]; omega),Fj _ _ _ _ (by simp only[List.length_set]; omega),Fj _ _ _ _ (by omega)]
theorem Xc (ns:List Nat) (i v:Nat) (h:i+4≤ns.length) (hv:v<4294967296):Yi (Jg ns i v) i=v:=by
 unfold Yi
 rw[Qj _ _ _ _ h,Qj _ _ _ _ h,Qj _ _ _ _ h,Qj _ _ _ _ h]
 simp (discharger:=omega) only [if_neg,if_true]
 omega
theorem Zrx (ns:List Nat) (i v:Nat) (h:i+2≤ns.length) (hv:v<65536):J4 (Ua ns i v) i=v:=by
 unfold J4
 rw[Zjt _ _ _ _ h,Zjt _ _ _ _ h]
 simp (discharger:=omega) only [if_neg,if_true]
 omega
theorem Y7 (ns:List Nat) (i j v:Nat) (h:i+4≤ns.length) (d:j<i∨i+4≤j):atN (Jg ns i v) j=atN ns j:=by
 rw[Qj _ _ _ _ h,if_neg (by omega),if_neg (by omega),if_neg (by omega),if_neg (by omega)]
theorem Wv (ns:List Nat) (i j v:Nat) (h:i+2≤ns.length) (d:j<i∨i+2≤j):atN (Ua ns i v) j=atN ns j:=by
 rw[Zjt _ _ _ _ h,if_neg (by omega),if_neg (by omega)]
theorem G6 {ns ms:List Nat} {i:Nat} (h:∀ j,i≤j→j<i+4→atN ms j=atN ns j):Yi ms i=Yi ns i:=by
 unfold Yi
 rw[h i (by omega) (by omega),h (i+1) (by omega) (by omega),h (i+2) (by omega) (by omega),h (i+3) (by omega) (by omega)]
theorem Lj {ns ms:List Nat} {i:Nat} (h:∀ j,i≤j→j<i+2→atN ms j=atN ns j):J4 ms i=J4 ns i:=by
 unfold J4
 rw[h i (by omega) (by omega),h (i+1) (by omega) (by omega)]
theorem Zeh {ns ms:List Nat}:∀ {n a:Nat},(∀ j,a≤j→j<a+4 * n→atN ms j=atN ns j)→Mt ms a n=Mt ns a n
 | 0,_,_=>rfl
 | n+1,a,h=>by
  unfold Mt
  rw[G6 fun j h1 h2=>h j h1 (by omega),Zeh fun j h1 h2=>h j (by omega) (by omega)]
theorem G9:∀ (vs ns:List Nat) (a:Nat),(Zcp ns a vs).length=ns.length
 | [],_,_=>rfl
 | v :: vs,ns,a=>by
  unfold Zcp
  rw[G9 vs,Yf]
theorem Mh:∀ (vs ns:List Nat) (a j:Nat),a+4 * vs.length≤ns.length→j<a∨a+4 * vs.length≤j→atN (Zcp ns a vs) j=atN ns j
 | [],_,_,_,_,_=>rfl
 | v :: vs,ns,a,j,h,d=>by
  unfold Zcp
  rw[List.length_cons] at h d
  rw[Mh vs _ _ _ (by rw[Yf]; omega) (by omega),Y7 _ _ _ _ (by omega) (by omega)]
theorem Zhq:∀ (vs ns:List Nat) (a:Nat),a+4 * vs.length≤ns.length→(∀ v∈vs,v<4294967296)→Mt (Zcp ns a vs) a vs.length=vs
 | [],_,_,_,_=>rfl
 | v :: vs,ns,a,h,b=>by
  rw[List.length_cons] at h ⊢
  unfold Zcp Mt
  rw[Zhq vs _ _ (by rw[Yf]; omega) fun v hv=>b v (List.mem_cons_of_mem _ hv),G6 (ns:=Jg ns a v) fun j h1 h2=>Mh _ _ _ _ (by rw[Yf]; omega) (by omega),Xc _ _ _ (by omega) (b v (List.mem_cons_self ..))]
theorem Eh {ns:List Nat} {p:Nat} (h:p+64≤ns.length):(Zap ns p).length=ns.length:=by
 unfold Zap
 simp only[List.length_append,List.length_take,List.length_replicate,List.length_drop]
 omega
theorem Ztx {ns:List Nat} {p:Nat} (h:p+64≤ns.length) (j:Nat):atN (Zap ns p) j=if p≤j∧j<p+64 then 0 else atN ns j:=by
 unfold atN Zap
 rw[List.getD_eq_getElem?_getD,List.getD_eq_getElem?_getD,List.getElem?_append,List.length_take,List.getElem?_append,List.length_replicate,Nat.min_eq_left (by omega)]
 by_cases h1:j<p
 ·rw[if_pos h1,if_neg (by omega),List.getElem?_take_of_lt h1]
 ·rw[if_neg h1]
  by_cases h2:j<p+64
  ·rw[if_pos (by omega),if_pos (by omega),List.getElem?_replicate,if_pos (by omega)]; rfl
  ·rw[if_neg (by omega),if_neg (by omega),List.getElem?_drop,show p+64+(j - p - 64)=j by omega]
theorem Zc9:∀ (n:Nat) (ns:List Nat) (a:Nat),a+n≤ns.length→(Gu ns a n=true ↔ ∀ i,i<n→atN ns (a+i)=0)
 | 0,ns,a,_=>by
  unfold Gu
  rw[List.take_zero]
  exact⟨fun _ i hi=>absurd hi (by omega),fun _=>rfl⟩
 | n+1,ns,a,h=>by
  have ih:=Zc9 n ns (a+1) (by omega)
  have e:Gu ns a (n+1)=(bif Nat.beq (atN ns a) 0 then Gu ns (a+1) n else false):=by
   unfold Gu
   rw[List.drop_eq_getElem_cons (by omega),List.take_succ_cons,List.map_cons]
   unfold atN
   rw[List.getD_eq_getElem?_getD,List.getElem?_eq_getElem (by omega)]
   rfl
  rw[e]
  cases hb:Nat.beq (atN ns a) 0 with
  | true =>
   have b:=Nat.eq_of_beq_eq_true hb
   rw[cond_true,ih]
   refine⟨fun q i hi=>?_,fun q i hi=>?_⟩
   ·match i with
    | 0=>exact b
    | i+1=>have:=q i (by omega); rwa [show a+1+i=a+(i+1) by omega] at this
   ·have:=q (i+1) (by omega); rwa [show a+(i+1)=a+1+i by omega] at this
  | false =>
   rw[cond_false]
   refine⟨fun q=>by (cases q),fun q=>?_⟩
   have:=q 0 (by omega)
   rw[Nat.add_zero] at this
   rw[this] at hb
   cases hb
theorem Zrq {ns ms:List Nat} {a n:Nat} (l1:a+n≤ns.length) (l2:a+n≤ms.length) (h:∀ j,a≤j→j<a+n→atN ms j=atN ns j):Gu ms a n=Gu ns a n:=by
 rw[Bool.eq_iff_iff,Zc9 n ms a l2,Zc9 n ns a l1]
 exact⟨fun q i hi=>(h (a+i) (by omega) (by omega)).symm.trans (q i hi),fun q i hi=>(h (a+i) (by omega) (by omega)).trans (q i hi)⟩
theorem Qs {ns:List Nat} {p:Nat} (h:p+64≤ns.length) (k l g s nx:Nat) (ps:List Nat):(Bh ns p k l g s ps nx).length=ns.length:=by
 unfold Bh
 rw[Yf,G9,Yf,Yf,Ym,List.length_set,Eh h]
section
variable {ns:List Nat} {p k l g s nx:Nat} {ps:List Nat}
theorem Znh (h:p+64≤ns.length) (pl:ps.length=11) {j:Nat} (d:j<p∨p+64≤j):atN (Bh ns p k l g s ps nx) j=atN ns j:=by
 have c:=Eh h
 unfold Bh
 rw[Y7 _ _ _ _ (by simp only[G9,Yf,Ym,List.length_set,c]; omega) (by omega),
  Mh _ _ _ _ (by simp only[Yf,Ym,List.length_set,c]; omega) (by omega),
  Y7 _ _ _ _ (by simp only[Yf,Ym,List.length_set,c]; omega) (by omega),
  Y7 _ _ _ _ (by simp only[Yf,Ym,List.length_set,c]; omega) (by omega),
  Wv _ _ _ _ (by simp only[Yf,Ym,List.length_set,c]; omega) (by omega),
  Fj _ _ _ _ (by rw[c]; omega),if_neg (by omega),Ztx h,if_neg (by omega)]
theorem Zb4 (h:p+64≤ns.length) (pl:ps.length=11) {j:Nat} (d:j=p+1∨p+60≤j∧j<p+64):atN (Bh ns p k l g s ps nx) j=0:=by
 have c:=Eh h
 unfold Bh
 rw[Y7 _ _ _ _ (by simp only[G9,Yf,Ym,List.length_set,c]; omega) (by omega),
  Mh _ _ _ _ (by simp only[Yf,Ym,List.length_set,c]; omega) (by omega),
  Y7 _ _ _ _ (by simp only[Yf,Ym,List.length_set,c]; omega) (by omega),
  Y7 _ _ _ _ (by simp only[Yf,Ym,List.length_set,c]; omega) (by omega),
  Wv _ _ _ _ (by simp only[Yf,Ym,List.length_set,c]; omega) (by omega),
  Fj _ _ _ _ (by rw[c]; omega),if_neg (by omega),Ztx h,if_pos (by omega)]
theorem Zla (h:p+64≤ns.length) (pl:ps.length=11) (kl:k<256):atN (Bh ns p k l g s ps nx) p=k:=by
 have c:=Eh h
 unfold Bh
 rw[Y7 _ _ _ _ (by simp only[G9,Yf,Ym,List.length_set,c]; omega) (by omega),
  Mh _ _ _ _ (by simp only[Yf,Ym,List.length_set,c]; omega) (by omega),
  Y7 _ _ _ _ (by simp only[Yf,Ym,List.length_set,c]; omega) (by omega),
  Y7 _ _ _ _ (by simp only[Yf,Ym,List.length_set,c]; omega) (by omega),
  Wv _ _ _ _ (by simp only[Yf,Ym,List.length_set,c]; omega) (by omega),
  Fj _ _ _ _ (by rw[c]; omega),if_pos rfl,Nat.mod_eq_of_lt kl]
theorem Zf5 (h:p+64≤ns.length) (pl:ps.length=11) (ll:l<65536):J4 (Bh ns p k l g s ps nx) (p+2)=l:=by
 have c:=Eh h
 unfold Bh
 rw[Lj fun j h1 h2=>Y7 _ _ _ _ (by simp only[G9,Yf,Ym,List.length_set,c]; omega) (by omega),
  Lj fun j h1 h2=>Mh _ _ _ _ (by simp only[Yf,Ym,List.length_set,c]; omega) (by omega),
  Lj fun j h1 h2=>Y7 _ _ _ _ (by simp only[Yf,Ym,List.length_set,c]; omega) (by omega),
  Lj fun j h1 h2=>Y7 _ _ _ _ (by simp only[Yf,Ym,List.length_set,c]; omega) (by omega),
  Zrx _ _ _ (by simp only[List.length_set,c]; omega) ll]
theorem Zl3 (h:p+64≤ns.length) (pl:ps.length=11) (gl:g<4294967296):Yi (Bh ns p k l g s ps nx) (p+4)=g:=by
 have c:=Eh h
 unfold Bh
 rw[G6 fun j h1 h2=>Y7 _ _ _ _ (by simp only[G9,Yf,Ym,List.length_set,c]; omega) (by omega),
  G6 fun j h1 h2=>Mh _ _ _ _ (by simp only[Yf,Ym,List.length_set,c]; omega) (by omega),
  G6 fun j h1 h2=>Y7 _ _ _ _ (by simp only[Yf,Ym,List.length_set,c]; omega) (by omega),
  Xc _ _ _ (by simp only[Ym,List.length_set,c]; omega) gl]
theorem Zjv (h:p+64≤ns.length) (pl:ps.length=11) (sl:s<4294967296):Yi (Bh ns p k l g s ps nx) (p+8)=s:=by
 have c:=Eh h
 unfold Bh
 rw[G6 fun j h1 h2=>Y7 _ _ _ _ (by simp only[G9,Yf,Ym,List.length_set,c]; omega) (by omega),
  G6 fun j h1 h2=>Mh _ _ _ _ (by simp only[Yf,Ym,List.length_set,c]; omega) (by omega),
  Xc _ _ _ (by simp only[Yf,Ym,List.length_set,c]; omega) sl]
theorem Zio (h:p+64≤ns.length) (pl:ps.length=11) (pb:∀ v∈ps,v<4294967296):Mt (Bh ns p k l g s ps nx) (p+12) 11=ps:=by
 have c:=Eh h
 unfold Bh
 rw[Zeh fun j h1 h2=>Y7 _ _ _ _ (by simp only[G9,Yf,Ym,List.length_set,c]; omega) (by omega),←pl]
 exact Zhq _ _ _ (by simp only[Yf,Ym,List.length_set,c]; omega) pb
theorem Zig (h:p+64≤ns.length) (pl:ps.length=11) (nl:nx<4294967296):Yi (Bh ns p k l g s ps nx) (p+56)=nx:=by
 have c:=Eh h
 unfold Bh
 rw[Xc _ _ _ (by simp only[G9,Yf,Ym,List.length_set,c]; omega) nl]
end
def ino0:List C:=O9 0 0 0 0 0 0 0 0 0 0 0 0 0 0 0 0
def Ziw (ns:List Nat) (p:Nat):List C:=O9 (atN ns p) (J4 ns (p+2)) (Yi ns (p+4)) (Yi ns (p+8)) (Yi ns (p+12)) (Yi ns (p+16)) (Yi ns (p+20)) (Yi ns (p+24)) (Yi ns (p+28)) (Yi ns (p+32)) (Yi ns (p+36)) (Yi ns (p+40)) (Yi ns (p+44)) (Yi ns (p+48)) (Yi ns (p+52)) (Yi ns (p+56))
def Zf6 (ns:List Nat) (p:Nat):Bool:=Zet (atN ns p) (J4 ns (p+2)) (Yi ns (p+8)) (Yi ns (p+12)) (Yi ns (p+16)) (Yi ns (p+20)) (Yi ns (p+24)) (Yi ns (p+28)) (Yi ns (p+32)) (Yi ns (p+36)) (Yi ns (p+40)) (Yi ns (p+44)) (Yi ns (p+48)) (Yi ns (p+52)) (Yi ns (p+56))
def Mr (ns:List Nat) (p:Nat):List C × Int:=bif Nat.beq (atN ns (p+1)) 0&&(Gu ns (p+60) 4&&Zf6 ns p) then (Ziw ns p,0) else (ino0,70)
theorem Zkz:ino0.length=16:=rfl
theorem Zs8 (ns:List Nat) (p:Nat):(Mr ns p).1.length=16:=by
 unfold Mr
 cases Nat.beq (atN ns (p+1)) 0&&(Gu ns (p+60) 4&&Zf6 ns p)<;>rfl
theorem Znv {ns ms:List Nat} {p:Nat} (l1:p+64≤ns.length) (l2:p+64≤ms.length) (h:∀ j,p≤j→j<p+64→atN ms j=atN ns j):Mr ms p=Mr ns p:=by
 have w:∀ i,p≤i→i+4≤p+64→Yi ms i=Yi ns i:=fun i h1 h2=>G6 fun j q1 q2=>h j (by omega) (by omega)
 have e0:=h p (by omega) (by omega)
 have e1:=h (p+1) (by omega) (by omega)
 have e2:J4 ms (p+2)=J4 ns (p+2):=Lj fun j q1 q2=>h j (by omega) (by omega)
 have e3:Gu ms (p+60) 4=Gu ns (p+60) 4:=Zrq (by omega) (by omega) fun j q1 q2=>h j (by omega) (by omega)
 unfold Mr Ziw Zf6
 simp (discharger:=omega) only [e0,e1,e2,e3,w]
theorem Ztj {ns:List Nat} {p k l g s p0 p1 p2 p3 p4 p5 p6 p7 p8 p9 p10 nx:Nat} (h:p+64≤ns.length) (kl:k<256) (ll:l<65536) (gl:g<4294967296) (sl:s<4294967296) (pb:∀ v∈[p0,p1,p2,p3,p4,p5,p6,p7,p8,p9,p10],v<4294967296) (nl:nx<4294967296)
  (m:Zet k l s p0 p1 p2 p3 p4 p5 p6 p7 p8 p9 p10 nx=true):Mr (Bh ns p k l g s [p0,p1,p2,p3,p4,p5,p6,p7,p8,p9,p10] nx) p=(O9 k l g s p0 p1 p2 p3 p4 p5 p6 p7 p8 p9 p10 nx,0):=by
 have pl:[p0,p1,p2,p3,p4,p5,p6,p7,p8,p9,p10].length=11:=rfl
 have e0:=Zla (l:=l) (g:=g) (s:=s) (nx:=nx) h pl kl
 have e1:=Zb4 (k:=k) (l:=l) (g:=g) (s:=s) (nx:=nx) h pl (j:=p+1) (.inl rfl)
 have e2:=Zf5 (k:=k) (g:=g) (s:=s) (nx:=nx) h pl ll
 have e3:=Zl3 (k:=k) (l:=l) (s:=s) (nx:=nx) h pl gl
 have e4:=Zjv (k:=k) (l:=l) (g:=g) (nx:=nx) h pl sl
 have e5:=Zio (k:=k) (l:=l) (g:=g) (s:=s) (nx:=nx) h pl pb
 have e6:=Zig (k:=k) (l:=l) (g:=g) (s:=s) h pl nl
 have e7:Gu (Bh ns p k l g s [p0,p1,p2,p3,p4,p5,p6,p7,p8,p9,p10] nx) (p+60) 4=true:=(Zc9 4 _ _ (by rw[Qs h]; omega)).2 fun i hi=>Zb4 h pl (.inr ⟨by omega,by omega⟩)
 obtain⟨E,hE⟩:∃ E,Bh ns p k l g s [p0,p1,p2,p3,p4,p5,p6,p7,p8,p9,p10] nx=E:=⟨_,rfl⟩
 rw[hE] at e0 e1 e2 e3 e4 e5 e6 e7 ⊢
 simp only[Mt,Nat.add_assoc,Nat.reduceAdd,List.cons.injEq] at e5
 obtain⟨q0,q1,q2,q3,q4,q5,q6,q7,q8,q9,q10,_⟩:=e5
 unfold Mr Ziw Zf6
 rw[e0,e1,e2,e3,e4,e6,e7,q0,q1,q2,q3,q4,q5,q6,q7,q8,q9,q10,m]
 rfl
theorem Zkk {ns:List Nat} {p q k l g s nx:Nat} {ps:List Nat} (h:p+64≤ns.length) (h2:q+64≤ns.length) (pl:ps.length=11) (d:q+64≤p∨p+64≤q):Mr (Bh ns p k l g s ps nx) q=Mr ns q :=
 Znv h2 (by rw[Qs h]; exact h2) fun j h1 h2=>Znh h pl (by omega)
end Go.Proofs.YtdkcjalmhdofcaaGreatDoor
