/- A store at rest: Get. -/
import Derived.Test.YtlbbmhgdcdcdnaaGreatDoorSto2
set_option linter.unusedSimpArgs false
set_option linter.unusedVariables false
set_option linter.unusedSectionVars false
set_option maxRecDepth 100000
set_option maxHeartbeats 4000000
namespace Go.Proofs.YtlbbmhgdcdcdnaaGreatDoor
open Go.Ev
theorem stL_inj:∀ {S S':Stt},stL S=stL S'→S=S'
 | ⟨a,b,c,d,e,f⟩,⟨a',b',c',d',e',f'⟩,h=>by
  have h':[C.ptr a 0,.ptr b 0,.pnil,.map c,.map d,e,.bool f,.bool false]=[C.ptr a' 0,.ptr b' 0,.pnil,.map c',.map d',e',.bool f',.bool false]:=h
  cases h'
  rfl
theorem gdL_inj:∀ {G G':Gd},gdL G=gdL G'→G=G'
 | ⟨a,b,c,d,e,f,g,i,j⟩,⟨a',b',c',d',e',f',g',i',j'⟩,h=>by
  have h':[C.int .i64 (a:Int),.int .i64 (b:Int),.int .i64 (c:Int),.int .i64 (d:Int),.int .u8 e,.ptr f 0,.ptr g 0,.ptr i 0,.ptr j 0]=[C.int .i64 (a':Int),.int .i64 (b':Int),.int .i64 (c':Int),.int .i64 (d':Int),.int .u8 e',.ptr f' 0,.ptr g' 0,.ptr i' 0,.ptr j' 0]:=h
  simp only[List.cons.injEq,C.int.injEq,C.ptr.injEq,and_true,true_and,Int.ofNat_inj] at h'
  obtain⟨rfl,rfl,rfl,rfl,rfl,rfl,rfl,rfl,rfl⟩:=h'
  rfl
section
variable (Hh:Hearts K Tryz.prog)
include Hh
set_option maxHeartbeats 4000000 in
theorem xSGet_ok {args:List W} {h h':Go.Ev.H} {v:V} (e:xSGet args h=some (v,h')):CallOk K Tryz.prog 33 args h v h':=by
 unfold xSGet at e
 split at e
 ·rename_i s z
  obtain⟨S0,hs0,e⟩:=bind_of e
  obtain⟨G0,hg0,e⟩:=bind_of e
  obtain⟨bz,e⟩:=askB_some.1 e
  have z1:=of_decide_eq_true bz
  have hs:=getSt_some hs0
  obtain⟨hg,fb⟩:=getGd_some hg0
  refine CallOk.tidy ⟨Tryz.f33,Tryz.func33,by kernel_rfl,by decide⟩ fun tidy=>?_
  have l1:=tidy _ _ hs
  have l5:=tidy _ _ hg
  rcases hb:oursB G0.gr G0.sz G0.ino G0.jr z with _|_
  ·rw[hb] at e
   cases e
   obtain⟨v,h2,c,rfl,hk⟩:∃ v h2,CallOk K Tryz.prog 33 [.c (.ptr s 0),.c (.int .i64 z)] h v h2∧v=.tup [.g zB,.c (.int .i64 2)]∧∀ m,m<h.next→h2.get m=h.get m:=by
    refine CallOk.goesE fits Hh (by kernel_rfl) (by kernel_rfl) (by kernel_rfl) (show Tryz.f33.body=some _ from rfl) rfl ?_
    repeat (first
     | refine Goes.seq ?_
     | refine Goes.block ?_
     | refine Goes.loop ?_
     | refine Goes.skip ?_
     | refine Goes.exit ?_
     | refine Goes.ret ?_
     | refine Goes.condV (by simp (maxSteps:=9^6) +decide (disch:=first|omega|(simp only[lens]<;>omega)|decide) only [go_sem,loadIn,simprocAttr,hs,hg,gdL,fb,hb,zB,read1]<;>rfl) ?_
     | refine Goes.ops2 fits Hh (EX_sound (EX_sound (EX_sound E0_sound (fun _ _ _ _=>xSMade_ok Hh)) (fun _ _ _ _=>xSOurs_ok Hh)) (fun _ _ _ _=>xSSeen_ok Hh)) (by simp (maxSteps:=9^6) +decide (disch:=first|omega|(simp only[lens]<;>omega)|decide) only [go_sem,loadIn,simprocAttr,hs,hg,gdL,fb,hb,zB,read1]; rfl) ?_)
    exact⟨_,_,(by simp (maxSteps:=9^6) +decide (disch:=first|omega|(simp only[lens]<;>omega)|decide) only [go_sem,loadIn,simprocAttr,zB]<;>rfl),rfl,fun m hm=>by (first|(simp (discharger:=omega) only [H.get_put,H.get_new,H.get_del,H.next_new,H.next_put,H.next_del,if_neg]; done)|(simp only[H.get_put,H.get_new,H.get_del,H.next_new,H.next_put,H.next_del]; (repeat' split)<;>first|rfl|(exfalso; omega)|omega))⟩
   exact c.quiet (flat_tup zB_flat) hk
  ·rw[hb] at e
   have e:xSSeen [.c (.ptr s 0),.c (.int .i64 z)] h=some (v,h'):=e
   obtain⟨S,ld,hs2,hd,q⟩:=xSSeen_cases e
   have eS:S0=S:=by
    rw[hs] at hs2
    have e1:stL S0=stL S:=by simpa using hs2
    exact stL_inj e1
   subst eS
   have l2:=tidy _ _ hd
   obtain⟨y,hl,yl,yf,rfl,rfl⟩|⟨hl,X,lc,ht,hc,⟨y,hl2,yl,yf,rfl,rfl⟩|⟨hl2,G,hg2,fb2,vl,e⟩⟩:=q
   ·have tl:(y.drop 1).length=256:=by rw[List.length_drop]; omega
    obtain⟨v,h2,c,rfl,hk⟩:∃ v h2,CallOk K Tryz.prog 33 [.c (.ptr s 0),.c (.int .i64 z)] h' v h2∧v=.tup [.g (y.drop 1),.c (.int .i64 0)]∧∀ m,m<h'.next→h2.get m=h'.get m:=by
     refine CallOk.goesE fits Hh (by kernel_rfl) (by kernel_rfl) (by kernel_rfl) (show Tryz.f33.body=some _ from rfl) rfl ?_
     repeat (first
      | refine Goes.seq ?_
      | refine Goes.block ?_
      | refine Goes.loop ?_
      | refine Goes.skip ?_
      | refine Goes.exit ?_
      | refine Goes.ret ?_
      | refine Goes.condV (by simp (maxSteps:=9^6) +decide (disch:=first|omega|(simp only[lens]<;>omega)|decide) only [go_sem,loadIn,simprocAttr,hs,hg,gdL,fb,hb,hd,hl,yl,yf,read1]<;>rfl) ?_
      | refine Goes.ops2 fits Hh (EX_sound (EX_sound (EX_sound E0_sound (fun _ _ _ _=>xSMade_ok Hh)) (fun _ _ _ _=>xSOurs_ok Hh)) (fun _ _ _ _=>xSSeen_ok Hh)) (by simp (maxSteps:=9^6) +decide (disch:=first|omega|(simp only[lens]<;>omega)|decide) only [go_sem,loadIn,simprocAttr,hs,hg,gdL,fb,hb,hd,hl,yl,yf,read1]; rfl) ?_)
     exact⟨_,_,(by simp (maxSteps:=9^6) +decide (disch:=first|omega|(simp only[lens]<;>omega)|decide) only [go_sem,loadIn,simprocAttr]<;>rfl),rfl,fun m hm=>by (first|(simp (discharger:=omega) only [H.get_put,H.get_new,H.get_del,H.next_new,H.next_put,H.next_del,if_neg]; done)|(simp only[H.get_put,H.get_new,H.get_del,H.next_new,H.next_put,H.next_del]; (repeat' split)<;>first|rfl|(exfalso; omega)|omega))⟩
    exact c.quiet (flat_tup (flat_drop 1 yf)) hk
   ·have l3:=tidy _ _ ht
    have l4:=tidy _ _ hc
    obtain⟨v,h2,c,rfl,hk⟩:∃ v h2,CallOk K Tryz.prog 33 [.c (.ptr s 0),.c (.int .i64 z)] h' v h2∧v=.tup [.g y,.c (.int .i64 0)]∧∀ m,m<h'.next→h2.get m=h'.get m:=by
     refine CallOk.goesE fits Hh (by kernel_rfl) (by kernel_rfl) (by kernel_rfl) (show Tryz.f33.body=some _ from rfl) rfl ?_
     repeat (first
      | refine Goes.seq ?_
      | refine Goes.block ?_
      | refine Goes.loop ?_
      | refine Goes.skip ?_
      | refine Goes.exit ?_
      | refine Goes.ret ?_
      | refine Goes.condV (by simp (maxSteps:=9^6) +decide (disch:=first|omega|(simp only[lens]<;>omega)|decide) only [go_sem,loadIn,simprocAttr,hs,hg,gdL,fb,hb,hd,hl,ht,hc,hl2,yl,yf,read1]<;>rfl) ?_
      | refine Goes.ops2 fits Hh (EX_sound (EX_sound (EX_sound E0_sound (fun _ _ _ _=>xSMade_ok Hh)) (fun _ _ _ _=>xSOurs_ok Hh)) (fun _ _ _ _=>xSSeen_ok Hh)) (by simp (maxSteps:=9^6) +decide (disch:=first|omega|(simp only[lens]<;>omega)|decide) only [go_sem,loadIn,simprocAttr,hs,hg,gdL,fb,hb,hd,hl,ht,hc,hl2,yl,yf,read1]; rfl) ?_)
     exact⟨_,_,(by simp (maxSteps:=9^6) +decide (disch:=first|omega|(simp only[lens]<;>omega)|decide) only [go_sem,loadIn,simprocAttr]<;>rfl),rfl,fun m hm=>by (first|(simp (discharger:=omega) only [H.get_put,H.get_new,H.get_del,H.next_new,H.next_put,H.next_del,if_neg]; done)|(simp only[H.get_put,H.get_new,H.get_del,H.next_new,H.next_put,H.next_del]; (repeat' split)<;>first|rfl|(exfalso; omega)|omega))⟩
    exact c.quiet (flat_tup yf) hk
   ·have eG:G0=G:=by
     rw[hg] at hg2
     have e1:gdL G0=gdL G:=by simpa using hg2
     exact gdL_inj e1
    subst eG
    obtain⟨k1,k2,k3,k4,k5,k6,ro,hli⟩:=voidL_true vl
    obtain⟨Y,D,l,hck,hdk,n0,n1,z0,z2,hm,⟨y,hl3,yl,yf,rfl,rfl⟩|⟨hl3,fl,x,L,ro,hq,hL,xl,xf,rfl,rfl⟩⟩:=xCRead_cases e
    ·have l3:=tidy _ _ ht
     have l4:=tidy _ _ hc
     have l6:=tidy _ _ hck
     have l7:=tidy _ _ hdk
     have l8:=tidy _ _ hm
     have l9:=tidy _ _ hli
     have l10:=tidy _ _ hg2
     have tl:(y.take 256).length=256:=by rw[List.length_take]; omega
     obtain⟨v,h2,c,rfl,hk⟩:∃ v h2,CallOk K Tryz.prog 33 [.c (.ptr s 0),.c (.int .i64 z)] h' v h2∧v=.tup [.g (y.take 256),.c (.int .i64 0)]∧∀ m,m<h'.next→h2.get m=h'.get m:=by
      refine CallOk.goesE fits Hh (by kernel_rfl) (by kernel_rfl) (by kernel_rfl) (show Tryz.f33.body=some _ from rfl) rfl ?_
      repeat (first
       | refine Goes.seq ?_
       | refine Goes.block ?_
       | refine Goes.loop ?_
       | refine Goes.skip ?_
       | refine Goes.exit ?_
       | refine Goes.ret ?_
       | refine Goes.condV (by simp (maxSteps:=9^6) +decide (disch:=first|omega|(simp only[lens]<;>omega)|decide) only [go_sem,loadIn,simprocAttr,hs,hg2,gdL,fb,fb2,hb,hd,hl,ht,hc,hl2,hli,hck,hdk,hm,hl3,yl,yf,zB,read1]<;>rfl) ?_
       | refine Goes.ops2 fits Hh (EX_sound (EX_sound (EX_sound E0_sound (fun _ _ _ _=>xSMade_ok Hh)) (fun _ _ _ _=>xSOurs_ok Hh)) (fun _ _ _ _=>xSSeen_ok Hh)) (by simp (maxSteps:=9^6) +decide (disch:=first|omega|(simp only[lens]<;>omega)|decide) only [go_sem,loadIn,simprocAttr,hs,hg2,gdL,fb,fb2,hb,hd,hl,ht,hc,hl2,hli,hck,hdk,hm,hl3,yl,yf,zB,read1]; rfl) ?_)
      exact⟨_,_,(by simp (maxSteps:=9^6) +decide (disch:=first|omega|(simp only[lens]<;>omega)|decide) only [go_sem,loadIn,simprocAttr]<;>rfl),rfl,fun m hm=>by (first|(simp (discharger:=omega) only [H.get_put,H.get_new,H.get_del,H.next_new,H.next_put,H.next_del,if_neg]; done)|(simp only[H.get_put,H.get_new,H.get_del,H.next_new,H.next_put,H.next_del]; (repeat' split)<;>first|rfl|(exfalso; omega)|omega))⟩
     exact c.quiet (flat_tup (flat_take 256 yf)) hk
    ·have l3:=tidy _ _ ht
     have l4:=tidy _ _ hc
     have l6:=tidy _ _ hck
     have l7:=tidy _ _ hdk
     have l8:=tidy _ _ hm
     have l9:=tidy _ _ hli
     have l10:=tidy _ _ hg2
     have l11:=tidy _ _ hq
     obtain⟨v,h2,c,rfl,hk⟩:∃ v h2,CallOk K Tryz.prog 33 [.c (.ptr s 0),.c (.int .i64 z)] h v h2∧v=.tup [.g x,.c (.int .i64 0)]∧∀ m,m<h.next→h2.get m=(h.put Y.m (.map (ents (updE z (x++[.bool false]) l)))).get m:=by
      refine CallOk.goesE fits Hh (by kernel_rfl) (by kernel_rfl) (by kernel_rfl) (show Tryz.f33.body=some _ from rfl) rfl ?_
      repeat (first
       | refine Goes.seq ?_
       | refine Goes.block ?_
       | refine Goes.loop ?_
       | refine Goes.skip ?_
       | refine Goes.exit ?_
       | refine Goes.ret ?_
       | refine Goes.condV (by simp (maxSteps:=9^6) +decide (disch:=first|omega|(simp only[lens]<;>omega)|decide) only [go_sem,loadIn,simprocAttr,hs,hg2,gdL,fb,fb2,hb,hd,hl,ht,hc,hl2,hli,hck,hdk,hm,hl3,hq,hL,xl,xf,fl,zB,read1]<;>rfl) ?_
       | refine Goes.ops2 fits Hh (EX_sound (EX_sound (EX_sound E0_sound (fun _ _ _ _=>xSMade_ok Hh)) (fun _ _ _ _=>xSOurs_ok Hh)) (fun _ _ _ _=>xSSeen_ok Hh)) (by simp (maxSteps:=9^6) +decide (disch:=first|omega|(simp only[lens]<;>omega)|decide) only [go_sem,loadIn,simprocAttr,hs,hg2,gdL,fb,fb2,hb,hd,hl,ht,hc,hl2,hli,hck,hdk,hm,hl3,hq,hL,xl,xf,fl,zB,read1]; rfl) ?_)
      exact⟨_,_,(by simp (maxSteps:=9^6) +decide (disch:=first|omega|(simp only[lens]<;>omega)|decide) only [go_sem,loadIn,simprocAttr]<;>rfl),rfl,fun m hm=>by (first|(simp (discharger:=omega) only [H.get_put,H.get_new,H.get_del,H.next_new,H.next_put,H.next_del,if_neg]; done)|(simp only[H.get_put,H.get_new,H.get_del,H.next_new,H.next_put,H.next_del]; (repeat' split)<;>first|rfl|(exfalso; omega)|omega))⟩
     refine c.settle ((NearH.refl tidy).put l8 (low_map (flat_upd ?_ fl))) (LowV.flat (flat_tup xf)) hk
     rw[List.all_append,xf]; rfl
 ·cases e
end
end Go.Proofs.YtlbbmhgdcdcdnaaGreatDoor
