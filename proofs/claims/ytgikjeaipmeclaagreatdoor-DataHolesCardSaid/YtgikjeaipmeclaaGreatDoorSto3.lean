/- A store at rest: Get. -/
import Derived.Test.YtgikjeaipmeclaaGreatDoorSto2
set_option linter.unusedSimpArgs false
set_option linter.unusedVariables false
set_option linter.unusedSectionVars false
set_option maxRecDepth 100000
set_option maxHeartbeats 4000000
namespace Go.Proofs.YtgikjeaipmeclaaGreatDoor
open Go.Ev
theorem Zyy:∀ {S S':Stt},stL S=stL S'→S=S'
 | ⟨a,b,c,d,e,f⟩,⟨a',b',c',d',e',f'⟩,h=>by
  have h':[C.ptr a 0,.ptr b 0,.pnil,.map c,.map d,e,.bool f,.bool false]=[C.ptr a' 0,.ptr b' 0,.pnil,.map c',.map d',e',.bool f',.bool false]:=h
  cases h'
  rfl
theorem Zyx:∀ {G G':Gd},gdL G=gdL G'→G=G'
 | ⟨a,b,c,d,e,f,g,i,j⟩,⟨a',b',c',d',e',f',g',i',j'⟩,h=>by
  have h':[C.int .i64 (a:Int),.int .i64 (b:Int),.int .i64 (c:Int),.int .i64 (d:Int),.int .u8 e,.ptr f 0,.ptr g 0,.ptr i 0,.ptr j 0]=[C.int .i64 (a':Int),.int .i64 (b':Int),.int .i64 (c':Int),.int .i64 (d':Int),.int .u8 e',.ptr f' 0,.ptr g' 0,.ptr i' 0,.ptr j' 0]:=h
  simp only[List.cons.injEq,C.int.injEq,C.ptr.injEq,and_true,true_and,Int.ofNat_inj] at h'
  obtain⟨rfl,rfl,rfl,rfl,rfl,rfl,rfl,rfl,rfl⟩:=h'
  rfl
section
variable (Hh:Hearts K Tryz.prog)
include Hh
set_option maxHeartbeats 4000000 in
theorem D7 {args:List W} {h h':Go.Ev.H} {v:V} (e:Zch args h=some (v,h')):Ze K Tryz.prog 20 args h v h':=by
 unfold Zch at e
 split at e
 ·rename_i s z
  obtain⟨S0,hs0,e⟩:=Zl e
  obtain⟨G0,hg0,e⟩:=Zl e
  obtain⟨bz,e⟩:=Zq.1 e
  have z1:=of_decide_eq_true bz
  have hs:=Yx hs0
  obtain⟨hg,fb⟩:=Ja hg0
  refine Ze.tidy ⟨Tryz.f20,Tryz.func20,by kernel_rfl,by decide⟩ fun tidy=>?_
  have l1:=tidy _ _ hs
  have l5:=tidy _ _ hg
  rcases hb:O6 G0.gr G0.sz G0.ino G0.jr z with _|_
  ·rw[hb] at e
   cases e
   obtain⟨v,h2,c,rfl,hk⟩:∃ v h2,Ze K Tryz.prog 20 [.c (.ptr s 0),.c (.int .i64 z)] h v h2∧v=.tup [.g zB,.c (.int .i64 2)]∧∀ m,m<h.next→h2.get m=h.get m:=by
    refine Ze.Yi fits Hh (by kernel_rfl) (by kernel_rfl) (by kernel_rfl) (show Tryz.f20.body=some _ from rfl) rfl ?_
    repeat (first|apply Goes.seq|apply Goes.block|apply Goes.loop|apply Goes.skip|apply Goes.exit|apply Goes.ret|((first|apply Goes.Zm|apply Goes.ops2 fits Hh (Zf (Zf (Zf Zc (fun _ _ _ _=>Ut Hh)) (fun _ _ _ _=>La Hh)) (fun _ _ _ _=>Nh Hh))); · simp (maxSteps:=9^6) +decide (disch:=first|omega|(simp only[lens]<;>omega)|decide) only [go_sem,Za,simprocAttr,hs,hg,gdL,fb,hb,zB,read1]<;>rfl))
    exact⟨_,_,(by simp (maxSteps:=9^6) +decide (disch:=first|omega|(simp only[lens]<;>omega)|decide) only [go_sem,Za,simprocAttr,zB]<;>rfl),rfl,fun m hm=>by (first|(simp (discharger:=omega) only [H.get_put,H.Zi,H.Yd,H.Zg,H.Zj,H.Zr,if_neg]; done)|(simp only[H.get_put,H.Zi,H.Yd,H.Zg,H.Zj,H.Zr]; (repeat' split)<;>first|rfl|(exfalso; omega)|omega))⟩
   exact c.quiet (Ed Zxw) hk
  ·rw[hb] at e
   have e:Lu [.c (.ptr s 0),.c (.int .i64 z)] h=some (v,h'):=e
   obtain⟨S,ld,hs2,hd,q⟩:=Qz e
   have eS:S0=S:=by
    rw[hs] at hs2
    have e1:stL S0=stL S:=by simpa using hs2
    exact Zyy e1
   subst eS
   have l2:=tidy _ _ hd
   obtain⟨y,hl,yl,yf,rfl,rfl⟩|⟨hl,X,lc,ht,hc,⟨y,hl2,yl,yf,rfl,rfl⟩|⟨hl2,G,hg2,fb2,vl,e⟩⟩:=q
   ·have tl:(y.drop 1).length=256:=by rw[List.length_drop]; omega
    obtain⟨v,h2,c,rfl,hk⟩:∃ v h2,Ze K Tryz.prog 20 [.c (.ptr s 0),.c (.int .i64 z)] h' v h2∧v=.tup [.g (y.drop 1),.c (.int .i64 0)]∧∀ m,m<h'.next→h2.get m=h'.get m:=by
     refine Ze.Yi fits Hh (by kernel_rfl) (by kernel_rfl) (by kernel_rfl) (show Tryz.f20.body=some _ from rfl) rfl ?_
     repeat (first|apply Goes.seq|apply Goes.block|apply Goes.loop|apply Goes.skip|apply Goes.exit|apply Goes.ret|((first|apply Goes.Zm|apply Goes.ops2 fits Hh (Zf (Zf (Zf Zc (fun _ _ _ _=>Ut Hh)) (fun _ _ _ _=>La Hh)) (fun _ _ _ _=>Nh Hh))); · simp (maxSteps:=9^6) +decide (disch:=first|omega|(simp only[lens]<;>omega)|decide) only [go_sem,Za,simprocAttr,hs,hg,gdL,fb,hb,hd,hl,yl,yf,read1]<;>rfl))
     exact⟨_,_,(by simp (maxSteps:=9^6) +decide (disch:=first|omega|(simp only[lens]<;>omega)|decide) only [go_sem,Za,simprocAttr]<;>rfl),rfl,fun m hm=>by (first|(simp (discharger:=omega) only [H.get_put,H.Zi,H.Yd,H.Zg,H.Zj,H.Zr,if_neg]; done)|(simp only[H.get_put,H.Zi,H.Yd,H.Zg,H.Zj,H.Zr]; (repeat' split)<;>first|rfl|(exfalso; omega)|omega))⟩
    exact c.quiet (Ed (Zho 1 yf)) hk
   ·have l3:=tidy _ _ ht
    have l4:=tidy _ _ hc
    obtain⟨v,h2,c,rfl,hk⟩:∃ v h2,Ze K Tryz.prog 20 [.c (.ptr s 0),.c (.int .i64 z)] h' v h2∧v=.tup [.g y,.c (.int .i64 0)]∧∀ m,m<h'.next→h2.get m=h'.get m:=by
     refine Ze.Yi fits Hh (by kernel_rfl) (by kernel_rfl) (by kernel_rfl) (show Tryz.f20.body=some _ from rfl) rfl ?_
     repeat (first|apply Goes.seq|apply Goes.block|apply Goes.loop|apply Goes.skip|apply Goes.exit|apply Goes.ret|((first|apply Goes.Zm|apply Goes.ops2 fits Hh (Zf (Zf (Zf Zc (fun _ _ _ _=>Ut Hh)) (fun _ _ _ _=>La Hh)) (fun _ _ _ _=>Nh Hh))); · simp (maxSteps:=9^6) +decide (disch:=first|omega|(simp only[lens]<;>omega)|decide) only [go_sem,Za,simprocAttr,hs,hg,gdL,fb,hb,hd,hl,ht,hc,hl2,yl,yf,read1]<;>rfl))
     exact⟨_,_,(by simp (maxSteps:=9^6) +decide (disch:=first|omega|(simp only[lens]<;>omega)|decide) only [go_sem,Za,simprocAttr]<;>rfl),rfl,fun m hm=>by (first|(simp (discharger:=omega) only [H.get_put,H.Zi,H.Yd,H.Zg,H.Zj,H.Zr,if_neg]; done)|(simp only[H.get_put,H.Zi,H.Yd,H.Zg,H.Zj,H.Zr]; (repeat' split)<;>first|rfl|(exfalso; omega)|omega))⟩
    exact c.quiet (Ed yf) hk
   ·have eG:G0=G:=by
     rw[hg] at hg2
     have e1:gdL G0=gdL G:=by simpa using hg2
     exact Zyx e1
    subst eG
    obtain⟨k1,k2,k3,k4,k5,k6,ro,hli⟩:=Rj vl
    obtain⟨Y,D,l,hck,hdk,n0,n1,z0,z2,hm,⟨y,hl3,yl,yf,rfl,rfl⟩|⟨hl3,fl,x,L,ro,hq,hL,xl,xf,rfl,rfl⟩⟩:=Zav e
    ·have l3:=tidy _ _ ht
     have l4:=tidy _ _ hc
     have l6:=tidy _ _ hck
     have l7:=tidy _ _ hdk
     have l8:=tidy _ _ hm
     have l9:=tidy _ _ hli
     have l10:=tidy _ _ hg2
     have tl:(y.take 256).length=256:=by rw[List.length_take]; omega
     obtain⟨v,h2,c,rfl,hk⟩:∃ v h2,Ze K Tryz.prog 20 [.c (.ptr s 0),.c (.int .i64 z)] h' v h2∧v=.tup [.g (y.take 256),.c (.int .i64 0)]∧∀ m,m<h'.next→h2.get m=h'.get m:=by
      refine Ze.Yi fits Hh (by kernel_rfl) (by kernel_rfl) (by kernel_rfl) (show Tryz.f20.body=some _ from rfl) rfl ?_
      repeat (first|apply Goes.seq|apply Goes.block|apply Goes.loop|apply Goes.skip|apply Goes.exit|apply Goes.ret|((first|apply Goes.Zm|apply Goes.ops2 fits Hh (Zf (Zf (Zf Zc (fun _ _ _ _=>Ut Hh)) (fun _ _ _ _=>La Hh)) (fun _ _ _ _=>Nh Hh))); · simp (maxSteps:=9^6) +decide (disch:=first|omega|(simp only[lens]<;>omega)|decide) only [go_sem,Za,simprocAttr,hs,hg2,gdL,fb,fb2,hb,hd,hl,ht,hc,hl2,hli,hck,hdk,hm,hl3,yl,yf,zB,read1]<;>rfl))
      exact⟨_,_,(by simp (maxSteps:=9^6) +decide (disch:=first|omega|(simp only[lens]<;>omega)|decide) only [go_sem,Za,simprocAttr]<;>rfl),rfl,fun m hm=>by (first|(simp (discharger:=omega) only [H.get_put,H.Zi,H.Yd,H.Zg,H.Zj,H.Zr,if_neg]; done)|(simp only[H.get_put,H.Zi,H.Yd,H.Zg,H.Zj,H.Zr]; (repeat' split)<;>first|rfl|(exfalso; omega)|omega))⟩
     exact c.quiet (Ed (Zgx 256 yf)) hk
    ·have l3:=tidy _ _ ht
     have l4:=tidy _ _ hc
     have l6:=tidy _ _ hck
     have l7:=tidy _ _ hdk
     have l8:=tidy _ _ hm
     have l9:=tidy _ _ hli
     have l10:=tidy _ _ hg2
     have l11:=tidy _ _ hq
     obtain⟨v,h2,c,rfl,hk⟩:∃ v h2,Ze K Tryz.prog 20 [.c (.ptr s 0),.c (.int .i64 z)] h v h2∧v=.tup [.g x,.c (.int .i64 0)]∧∀ m,m<h.next→h2.get m=(h.put Y.m (.map (Jv (Oc z (x++[.bool false]) l)))).get m:=by
      refine Ze.Yi fits Hh (by kernel_rfl) (by kernel_rfl) (by kernel_rfl) (show Tryz.f20.body=some _ from rfl) rfl ?_
      repeat (first|apply Goes.seq|apply Goes.block|apply Goes.loop|apply Goes.skip|apply Goes.exit|apply Goes.ret|((first|apply Goes.Zm|apply Goes.ops2 fits Hh (Zf (Zf (Zf Zc (fun _ _ _ _=>Ut Hh)) (fun _ _ _ _=>La Hh)) (fun _ _ _ _=>Nh Hh))); · simp (maxSteps:=9^6) +decide (disch:=first|omega|(simp only[lens]<;>omega)|decide) only [go_sem,Za,simprocAttr,hs,hg2,gdL,fb,fb2,hb,hd,hl,ht,hc,hl2,hli,hck,hdk,hm,hl3,hq,hL,xl,xf,fl,zB,read1]<;>rfl))
      exact⟨_,_,(by simp (maxSteps:=9^6) +decide (disch:=first|omega|(simp only[lens]<;>omega)|decide) only [go_sem,Za,simprocAttr]<;>rfl),rfl,fun m hm=>by (first|(simp (discharger:=omega) only [H.get_put,H.Zi,H.Yd,H.Zg,H.Zj,H.Zr,if_neg]; done)|(simp only[H.get_put,H.Zi,H.Yd,H.Zg,H.Zj,H.Zr]; (repeat' split)<;>first|rfl|(exfalso; omega)|omega))⟩
     refine c.settle ((Mv.refl tidy).put l8 (Bj (Ux ?_ fl))) (Zd2.flat (Ed xf)) hk
     rw[List.all_append,xf]; rfl
 ·cases e
end
end Go.Proofs.YtgikjeaipmeclaaGreatDoor
