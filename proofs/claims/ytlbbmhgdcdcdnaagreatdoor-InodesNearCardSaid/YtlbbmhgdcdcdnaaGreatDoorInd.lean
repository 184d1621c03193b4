/- What inodes asks of a store: its geometry, whether it is open; a group's bitmap; the groups' order. -/
import Derived.Test.YtlbbmhgdcdcdnaaGreatDoorSto
import Derived.Test.YtlbbmhgdcdcdnaaGreatDoorGeo3
set_option linter.unusedSimpArgs false
set_option linter.unusedVariables false
set_option linter.unusedSectionVars false
set_option maxRecDepth 100000
set_option maxHeartbeats 4000000
namespace Go.Proofs.YtlbbmhgdcdcdnaaGreatDoor
open Go.Ev
theorem rs31:Tryz.f31.results.toList=[.cell 2 23]:=rfl
theorem rs72:Tryz.f72.results.toList=[.tmp 2]:=rfl
theorem rs73:Tryz.f73.results.toList=[.tmp 2]:=rfl
theorem rs39:Tryz.f39.results.toList=[.tmp 2]:=rfl
theorem rs29:Tryz.f29.results.toList=[.tmp 2]:=rfl
theorem rs34:Tryz.f34.results.toList=[.tmp 4]:=rfl
theorem rs32:Tryz.f32.results.toList=[.tmp 4]:=rfl
attribute [go_sem] rs31 rs72 rs73 rs39 rs29 rs34 rs32
noncomputable def xSGeo:Kn1:=fun args h=>match args with
 | [.c (.ptr s 0)]=>(getSt h s).bind fun S=>(getGd h S.gd).bind fun G=>some (.w (.g (geoL G.gr G.sz G.ino G.jr)),h)
 | _=>none
noncomputable def xSDead:Kn1:=fun args h=>match args with
 | [.c (.ptr s 0)]=>(getSt h s).bind fun _=>some (.w (.c (.bool false)),h)
 | _=>none
noncomputable def xSOpn:Kn1:=fun args h=>match args with
 | [.c (.ptr s 0)]=>(getSt h s).bind fun S=>(getTx h S.tx).bind fun X=>some (.w (.c (.bool X.op)),h)
 | _=>none
noncomputable def xIMade:Kn1:=fun args h=>match args with
 | [.c (.ptr s 0)]=>(getSt h s).bind fun S=>(getGd h S.gd).bind fun _=>some (.w (.c (.int .i64 0)),h)
 | _=>none
noncomputable def xIOpen:Kn1:=fun args h=>match args with
 | [.c (.ptr s 0)]=>(getSt h s).bind fun S=>(getGd h S.gd).bind fun _=>(getTx h S.tx).bind fun X=>askB X.op (some (.w (.c (.int .i64 0)),h))
 | _=>none
noncomputable def xIBitmap:Kn1:=fun args h=>match args with
 | [.g [.int .i64 a,.int .i64 b,.int .i64 c,.int .i64 d],.c (.int .i64 k)]=>geoK a b c d fun a b _ d=>(natI k).bind fun k=>askB (decide (k<a)) (some (.w (.c (.int .i64 ((2+d+k * b+1:Nat):Int))),h))
 | _=>none
noncomputable def xGroups:Kn1:=fun args h=>match args with
 | [.g [a,b,c,d],.c z]=>some (.w (.c (.fn 75 [] [some (h.next,0),some (h.next+1,0)])),(h.new (.row 4 [[a,b,c,d]] false)).new (.row 1 [[z]] false))
 | _=>none
attribute [go_sem] xSGeo xSDead xSOpn xIMade xIOpen xIBitmap xGroups
section
variable (Hh:Hearts K Tryz.prog)
include Hh
theorem xSGeo_ok {args:List W} {h h':Go.Ev.H} {v:V} (e:xSGeo args h=some (v,h')):CallOk K Tryz.prog 31 args h v h':=by
 unfold xSGeo at e
 split at e
 ·rename_i s
  obtain⟨S,hs,e⟩:=bind_of e
  have hs:=getSt_some hs
  obtain⟨G,hg,e⟩:=bind_of e
  obtain⟨hg,fb⟩:=getGd_some hg
  cases e
  refine CallOk.tidy ⟨Tryz.f31,Tryz.func31,by kernel_rfl,by decide⟩ fun tidy=>?_
  have l1:=tidy _ _ hs
  have l2:=tidy _ _ hg
  have gl4:readRow 9 [gdL G] 0 4=some (geoL G.gr G.sz G.ino G.jr):=rfl
  have gl5:∀ x:List C,x.length≤4∧4≤x.length→writeRow 4 [x] 0 (geoL G.gr G.sz G.ino G.jr)=some [geoL G.gr G.sz G.ino G.jr]:=fun x hx=>writeRow_sz ⟨Nat.le_refl 4,Nat.le_refl 4,hx.1,hx.2,by omega⟩
  have gl6:readRow 4 [geoL G.gr G.sz G.ino G.jr] 0 4=some (geoL G.gr G.sz G.ino G.jr):=rfl
  obtain⟨v,h',c,rfl,hk⟩:∃ v h',CallOk K Tryz.prog 31 [.c (.ptr s 0)] h v h'∧v=.w (.g (geoL G.gr G.sz G.ino G.jr))∧∀ m,m<h.next→h'.get m=h.get m:=by
   refine CallOk.goesE fits Hh (by kernel_rfl) (by kernel_rfl) (by kernel_rfl) (show Tryz.f31.body=some _ from rfl) rfl ?_
   repeat (first
    | refine Goes.seq ?_
    | refine Goes.block ?_
    | refine Goes.loop ?_
    | refine Goes.skip ?_
    | refine Goes.exit ?_
    | refine Goes.ret ?_
    | refine Goes.condV (by simp (maxSteps:=9^6) +decide (disch:=first|omega|(simp only[lens]<;>omega)|decide) only [go_sem,loadIn,simprocAttr,hs,hg,gl4,gl5,gl6,read1]<;>rfl) ?_
    | refine Goes.ops2 fits Hh (EX_sound E0_sound (fun _ _ _ _=>xSMade_ok Hh)) (by simp (maxSteps:=9^6) +decide (disch:=first|omega|(simp only[lens]<;>omega)|decide) only [go_sem,loadIn,simprocAttr,hs,hg,gl4,gl5,gl6,read1]; rfl) ?_)
   exact⟨_,_,(by simp (maxSteps:=9^6) +decide (disch:=first|omega|(simp only[lens]<;>omega)|decide) only [go_sem,loadIn,simprocAttr,gl6]<;>rfl),rfl,fun m hm=>by (first|(simp (discharger:=omega) only [H.get_put,H.get_new,H.get_del,H.next_new,H.next_put,H.next_del,if_neg]; done)|(simp only[H.get_put,H.get_new,H.get_del,H.next_new,H.next_put,H.next_del]; (repeat' split)<;>first|rfl|(exfalso; omega)|omega))⟩
  exact c.quiet rfl hk
 ·cases e
theorem xSDead_ok {args:List W} {h h':Go.Ev.H} {v:V} (e:xSDead args h=some (v,h')):CallOk K Tryz.prog 72 args h v h':=by
 unfold xSDead at e
 split at e
 ·rename_i s
  obtain⟨S,hs,e⟩:=bind_of e
  have hs:=getSt_some hs
  cases e
  refine CallOk.goes fits Hh (by kernel_rfl) (by kernel_rfl) (by kernel_rfl) (show Tryz.f72.body=some _ from rfl) rfl ?_
  repeat (first
   | refine Goes.seq ?_
   | refine Goes.block ?_
   | refine Goes.loop ?_
   | refine Goes.skip ?_
   | refine Goes.exit ?_
   | refine Goes.ret ?_
   | refine Goes.condV (by simp (maxSteps:=9^6) +decide (disch:=first|omega|(simp only[lens]<;>omega)|decide) only [go_sem,readRow,loadIn,simprocAttr,hs,read1]<;>rfl) ?_
   | refine Goes.ops2 fits Hh (EX_sound E0_sound (fun _ _ _ _=>xSMade_ok Hh)) (by simp (maxSteps:=9^6) +decide (disch:=first|omega|(simp only[lens]<;>omega)|decide) only [go_sem,readRow,loadIn,simprocAttr,hs,read1]; rfl) ?_)
  simp (maxSteps:=9^6) +decide (disch:=first|omega|(simp only[lens]<;>omega)|decide) only [go_sem,readRow,loadIn,simprocAttr]<;>rfl
 ·cases e
theorem xSOpn_ok {args:List W} {h h':Go.Ev.H} {v:V} (e:xSOpn args h=some (v,h')):CallOk K Tryz.prog 73 args h v h':=by
 unfold xSOpn at e
 split at e
 ·rename_i s
  obtain⟨S,hs,e⟩:=bind_of e
  have hs:=getSt_some hs
  obtain⟨X,ht,e⟩:=bind_of e
  have ht:=getTx_some ht
  cases e
  refine CallOk.goes fits Hh (by kernel_rfl) (by kernel_rfl) (by kernel_rfl) (show Tryz.f73.body=some _ from rfl) rfl ?_
  repeat (first
   | refine Goes.seq ?_
   | refine Goes.block ?_
   | refine Goes.loop ?_
   | refine Goes.skip ?_
   | refine Goes.exit ?_
   | refine Goes.ret ?_
   | refine Goes.condV (by simp (maxSteps:=9^6) +decide (disch:=first|omega|(simp only[lens]<;>omega)|decide) only [go_sem,readRow,loadIn,simprocAttr,hs,ht,read1]<;>rfl) ?_
   | refine Goes.ops2 fits Hh (EX_sound (EX_sound E0_sound (fun _ _ _ _=>xSMade_ok Hh)) (fun _ _ _ _=>xTOpen_ok Hh)) (by simp (maxSteps:=9^6) +decide (disch:=first|omega|(simp only[lens]<;>omega)|decide) only [go_sem,readRow,loadIn,simprocAttr,hs,ht,read1]; rfl) ?_)
  simp (maxSteps:=9^6) +decide (disch:=first|omega|(simp only[lens]<;>omega)|decide) only [go_sem,readRow,loadIn,simprocAttr]<;>rfl
 ·cases e
theorem xIMade_ok {args:List W} {h h':Go.Ev.H} {v:V} (e:xIMade args h=some (v,h')):CallOk K Tryz.prog 39 args h v h':=by
 unfold xIMade at e
 split at e
 ·rename_i s
  obtain⟨S,hs,e⟩:=bind_of e
  have hs:=getSt_some hs
  obtain⟨G,hg,e⟩:=bind_of e
  obtain⟨hg,fb⟩:=getGd_some hg
  cases e
  refine CallOk.goes fits Hh (by kernel_rfl) (by kernel_rfl) (by kernel_rfl) (show Tryz.f39.body=some _ from rfl) rfl ?_
  repeat (first
   | refine Goes.seq ?_
   | refine Goes.block ?_
   | refine Goes.loop ?_
   | refine Goes.skip ?_
   | refine Goes.exit ?_
   | refine Goes.ret ?_
   | refine Goes.condV (by simp (maxSteps:=9^6) +decide (disch:=first|omega|(simp only[lens]<;>omega)|decide) only [go_sem,readRow,loadIn,simprocAttr,hs,hg,gdL,fb,geoL]<;>rfl) ?_
   | refine Goes.ops2 fits Hh (EX_sound (EX_sound E0_sound (fun _ _ _ _=>xSGeo_ok Hh)) (fun _ _ _ _=>xgMay_ok Hh)) (by simp (maxSteps:=9^6) +decide (disch:=first|omega|(simp only[lens]<;>omega)|decide) only [go_sem,readRow,loadIn,simprocAttr,hs,hg,gdL,fb,geoL]; rfl) ?_)
  simp (maxSteps:=9^6) +decide (disch:=first|omega|(simp only[lens]<;>omega)|decide) only [go_sem,readRow,loadIn,simprocAttr]<;>rfl
 ·cases e
theorem xIOpen_ok {args:List W} {h h':Go.Ev.H} {v:V} (e:xIOpen args h=some (v,h')):CallOk K Tryz.prog 29 args h v h':=by
 unfold xIOpen at e
 split at e
 ·rename_i s
  obtain⟨S,hs,e⟩:=bind_of e
  have hs:=getSt_some hs
  obtain⟨G,hg,e⟩:=bind_of e
  obtain⟨hg,fb⟩:=getGd_some hg
  obtain⟨X,ht,e⟩:=bind_of e
  have ht:=getTx_some ht
  obtain⟨bo,e⟩:=askB_some.1 e
  cases e
  refine CallOk.goes fits Hh (by kernel_rfl) (by kernel_rfl) (by kernel_rfl) (show Tryz.f29.body=some _ from rfl) rfl ?_
  repeat (first
   | refine Goes.seq ?_
   | refine Goes.block ?_
   | refine Goes.loop ?_
   | refine Goes.skip ?_
   | refine Goes.exit ?_
   | refine Goes.ret ?_
   | refine Goes.condV (by simp (maxSteps:=9^6) +decide (disch:=first|omega|(simp only[lens]<;>omega)|decide) only [go_sem,readRow,loadIn,simprocAttr,hs,ht,hg,gdL,fb,bo]<;>rfl) ?_
   | refine Goes.ops2 fits Hh (EX_sound (EX_sound (EX_sound E0_sound (fun _ _ _ _=>xIMade_ok Hh)) (fun _ _ _ _=>xSDead_ok Hh)) (fun _ _ _ _=>xSOpn_ok Hh)) (by simp (maxSteps:=9^6) +decide (disch:=first|omega|(simp only[lens]<;>omega)|decide) only [go_sem,readRow,loadIn,simprocAttr,hs,ht,hg,gdL,fb,bo]; rfl) ?_)
  simp (maxSteps:=9^6) +decide (disch:=first|omega|(simp only[lens]<;>omega)|decide) only [go_sem,readRow,loadIn,simprocAttr]<;>rfl
 ·cases e
theorem xIBitmap_ok {args:List W} {h h':Go.Ev.H} {v:V} (e:xIBitmap args h=some (v,h')):CallOk K Tryz.prog 34 args h v h':=by
 unfold xIBitmap at e
 split at e
 ·obtain⟨a,b,c,d,rfl,rfl,rfl,rfl,f,e⟩:=geoK_some e
  obtain⟨g1,g2,g3,g4,g5,g6,g7,g8,g9,g10,g11⟩:=fineB_fine f
  obtain⟨k,hk,e⟩:=bind_of e
  obtain⟨bk,e⟩:=askB_some.1 e
  have kl:=of_decide_eq_true bk
  cases e
  rw[natI_some hk]
  have b1:k * b≤a * b:=Nat.mul_le_mul (by omega) (by omega)
  obtain⟨q,hq⟩:∃ q,k * b=q:=⟨_,rfl⟩
  have e1:((2+d+q:Nat):Int)+1=((2+d+q+1:Nat):Int):=rfl
  rw[hq] at b1 ⊢
  obtain⟨v,h',cc,rfl,hk⟩:∃ v h',CallOk K Tryz.prog 34 [.g [.int .i64 (a:Int),.int .i64 (b:Int),.int .i64 (c:Int),.int .i64 (d:Int)],.c (.int .i64 (k:Int))] h v h'∧v=.w (.c (.int .i64 ((2+d+q+1:Nat):Int)))∧∀ m,m<h.next→h'.get m=h.get m:=by
   refine CallOk.goesE fits Hh (by kernel_rfl) (by kernel_rfl) (by kernel_rfl) (show Tryz.f34.body=some _ from rfl) rfl ?_
   repeat (first
    | refine Goes.seq ?_
    | refine Goes.block ?_
    | refine Goes.loop ?_
    | refine Goes.skip ?_
    | refine Goes.exit ?_
    | refine Goes.ret ?_
    | refine Goes.condV (by simp (maxSteps:=9^6) +decide (disch:=first|omega|(simp only[lens]<;>omega)|decide) only [go_sem,readRow,loadIn,simprocAttr,f,hq,e1,read1,opBox]<;>rfl) ?_
    | refine Goes.ops2 fits Hh (EX_sound E0_sound (fun _ _ _ _=>xgStart_ok Hh)) (by simp (maxSteps:=9^6) +decide (disch:=first|omega|(simp only[lens]<;>omega)|decide) only [go_sem,readRow,loadIn,simprocAttr,f,hq,e1,read1,opBox]; rfl) ?_)
   exact⟨_,_,(by simp (maxSteps:=9^6) +decide (disch:=first|omega|(simp only[lens]<;>omega)|decide) only [go_sem,readRow,loadIn,simprocAttr]<;>rfl),rfl,fun m hm=>by (first|(simp (discharger:=omega) only [H.get_put,H.get_new,H.get_del,H.next_new,H.next_put,H.next_del,if_neg]; done)|(simp only[H.get_put,H.get_new,H.get_del,H.next_new,H.next_put,H.next_del]; (repeat' split)<;>first|rfl|(exfalso; omega)|omega))⟩
  exact cc.quiet rfl hk
 ·cases e
theorem xGroups_ok {args:List W} {h h':Go.Ev.H} {v:V} (e:xGroups args h=some (v,h')):CallOk K Tryz.prog 32 args h v h':=by
 unfold xGroups at e
 split at e
 ·cases e
  refine CallOk.goes fits Hh (by kernel_rfl) (by kernel_rfl) (by kernel_rfl) (show Tryz.f32.body=some _ from rfl) rfl ?_
  repeat (first
   | refine Goes.seq ?_
   | refine Goes.block ?_
   | refine Goes.loop ?_
   | refine Goes.skip ?_
   | refine Goes.exit ?_
   | refine Goes.ret ?_
   | refine Goes.condV (by simp (maxSteps:=9^6) +decide (disch:=first|omega|(simp only[lens]<;>omega)|decide) only [go_sem,readRow,loadIn,simprocAttr,opBox]<;>rfl) ?_
   | refine Goes.ops2 fits Hh E0_sound (by simp (maxSteps:=9^6) +decide (disch:=first|omega|(simp only[lens]<;>omega)|decide) only [go_sem,readRow,loadIn,simprocAttr,opBox]; rfl) ?_)
  simp (maxSteps:=9^6) +decide (disch:=first|omega|(simp only[lens]<;>omega)|decide) only [go_sem,readRow,loadIn,simprocAttr]<;>rfl
 ·cases e
end
end Go.Proofs.YtlbbmhgdcdcdnaaGreatDoor
