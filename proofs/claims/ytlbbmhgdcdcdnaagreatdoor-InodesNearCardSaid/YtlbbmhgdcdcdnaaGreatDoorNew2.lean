/- store.New. -/
import Derived.Test.YtlbbmhgdcdcdnaaGreatDoorNew
set_option linter.unusedSimpArgs false
set_option linter.unusedVariables false
set_option linter.unusedSectionVars false
set_option maxRecDepth 100000
set_option maxHeartbeats 4000000
namespace Go.Proofs.YtlbbmhgdcdcdnaaGreatDoor
open Go.Ev
section
variable (Hh:Hearts K Tryz.prog)
include Hh
set_option maxHeartbeats 4000000 in
theorem xSNew_ok {args:List W} {h h':Go.Ev.H} {v:V} (e:xSNew args h=some (v,h')):CallOk K Tryz.prog 18 args h v h':=by
 unfold xSNew at e
 split at e
 ·rename_i d a0 b0 c0 e0 md q
  obtain⟨a,ha,e⟩:=bind_of e
  obtain⟨b,hb,e⟩:=bind_of e
  obtain⟨c,hc,e⟩:=bind_of e
  obtain⟨j,hj,e⟩:=bind_of e
  obtain⟨D,hd,e⟩:=bind_of e
  obtain⟨hd,n0,n1⟩:=getDk_some hd
  obtain⟨f,e⟩:=askB_some.1 e
  simp only[Bool.and_eq_true,decide_eq_true_eq] at f
  obtain⟨⟨⟨⟨⟨fb,nn⟩,m1⟩,m3⟩,q1⟩,q2⟩:=f
  have nn:=Nat.le_of_ble_eq_true nn
  have F:=fineB_fine fb
  obtain⟨g1,g2,g3,g4,g5,g6,g7,g8,g9,g10,g11⟩:=F
  cases e
  rw[natI_some ha,natI_some hb,natI_some hc,natI_some hj]
  refine CallOk.tidy ⟨Tryz.f18,Tryz.func18,by kernel_rfl,by decide⟩ fun tidy=>?_
  have l1:=tidy _ _ hd
  have h3:md=1∨md=2∨md=3:=by omega
  rcases h3 with rfl|rfl|rfl
  ·
   refine CallOk.goes fits Hh (by kernel_rfl) (by kernel_rfl) (by kernel_rfl) (show Tryz.f18.body=some _ from rfl) rfl ?_
   repeat (first
    | refine Goes.seq ?_
    | refine Goes.block ?_
    | refine Goes.loop ?_
    | refine Goes.skip ?_
    | refine Goes.exit ?_
    | refine Goes.ret ?_
    | refine Goes.condV (by simp (maxSteps:=9^6) +decide (disch:=first|omega|(simp only[lens]<;>omega)|decide) only [go_sem,readRow,loadIn,simprocAttr,hd,fb,opBox,read1,writeRow]<;>rfl) ?_
    | refine Goes.ops2 fits Hh (EX_sound (EX_sound (EX_sound (EX_sound (EX_sound (EX_sound (EX_sound (EX_sound E0_sound (fun _ _ _ _=>xDBlocks_ok Hh)) (fun _ _ _ _=>xgMay_ok Hh)) (fun _ _ _ _=>xgBlocks_ok Hh)) (fun _ _ _ _=>xCNew_ok Hh)) (fun _ _ _ _=>xRNew_ok Hh)) (fun _ _ _ _=>xLNew_ok Hh)) (fun _ _ _ _=>xTNew_ok Hh)) (fun _ _ _ _=>xSClean_ok Hh)) (by simp (maxSteps:=9^6) +decide (disch:=first|omega|(simp only[lens]<;>omega)|decide) only [go_sem,readRow,loadIn,simprocAttr,hd,fb,opBox,read1,writeRow]; rfl) ?_
    | refine Goes.drawn2 fits Hh (EX_sound (EX_sound (EX_sound (EX_sound (EX_sound (EX_sound (EX_sound (EX_sound E0_sound (fun _ _ _ _=>xDBlocks_ok Hh)) (fun _ _ _ _=>xgMay_ok Hh)) (fun _ _ _ _=>xgBlocks_ok Hh)) (fun _ _ _ _=>xCNew_ok Hh)) (fun _ _ _ _=>xRNew_ok Hh)) (fun _ _ _ _=>xLNew_ok Hh)) (fun _ _ _ _=>xTNew_ok Hh)) (fun _ _ _ _=>xSClean_ok Hh)) (by kernel_rfl) (by simp (maxSteps:=9^6) +decide (disch:=first|omega|(simp only[lens]<;>omega)|decide) only [go_sem,readRow,loadIn,simprocAttr,op_move,op_assign,op_binOp,op_unOp,op_convert,op_load,op_store,op_indexAddr,op_alloc,op_pick,op_box,op_build,op_buildSlice,op_nilCheck,op_makeSlice,op_fieldAddr,op_field,op_extract,op_lookup,op_mapUpdate,op_builtin,op_index,drEnd,drAll,drOne,drTs,drKd,drPure,drRead,drAlloc,drEff,drSkip,drPut,putT_ok,putT_none,cutT,looks,tmpOf,Op.operands,Call.operands,kd,kdCall,List.filterMap_cons,List.filterMap_nil,List.append_nil,List.nil_append,List.cons_append,stables,stable,reachAt,reachP,waitsAt,waits,gives_self,List.all_cons,List.all_nil,List.any_cons,List.any_nil,Region.binds,Bool.or_true,Bool.true_or,Bool.and_true,Bool.true_and,Bool.or_false,Bool.false_or,Bool.and_self,Bool.or_self,ble_true,Nat.le_refl,Nat.le_add_right,List.map_cons,Array.toList_append,hd,fb,opBox,read1,writeRow]; rfl) ?_)
   simp (maxSteps:=9^6) +decide (disch:=first|omega|(simp only[lens]<;>omega)|decide) only [go_sem,readRow,loadIn,simprocAttr,newSt,geoL,gdL]<;>rfl
  ·
   refine CallOk.goes fits Hh (by kernel_rfl) (by kernel_rfl) (by kernel_rfl) (show Tryz.f18.body=some _ from rfl) rfl ?_
   repeat (first
    | refine Goes.seq ?_
    | refine Goes.block ?_
    | refine Goes.loop ?_
    | refine Goes.skip ?_
    | refine Goes.exit ?_
    | refine Goes.ret ?_
    | refine Goes.condV (by simp (maxSteps:=9^6) +decide (disch:=first|omega|(simp only[lens]<;>omega)|decide) only [go_sem,readRow,loadIn,simprocAttr,hd,fb,opBox,read1,writeRow]<;>rfl) ?_
    | refine Goes.ops2 fits Hh (EX_sound (EX_sound (EX_sound (EX_sound (EX_sound (EX_sound (EX_sound (EX_sound E0_sound (fun _ _ _ _=>xDBlocks_ok Hh)) (fun _ _ _ _=>xgMay_ok Hh)) (fun _ _ _ _=>xgBlocks_ok Hh)) (fun _ _ _ _=>xCNew_ok Hh)) (fun _ _ _ _=>xRNew_ok Hh)) (fun _ _ _ _=>xLNew_ok Hh)) (fun _ _ _ _=>xTNew_ok Hh)) (fun _ _ _ _=>xSClean_ok Hh)) (by simp (maxSteps:=9^6) +decide (disch:=first|omega|(simp only[lens]<;>omega)|decide) only [go_sem,readRow,loadIn,simprocAttr,hd,fb,opBox,read1,writeRow]; rfl) ?_
    | refine Goes.drawn2 fits Hh (EX_sound (EX_sound (EX_sound (EX_sound (EX_sound (EX_sound (EX_sound (EX_sound E0_sound (fun _ _ _ _=>xDBlocks_ok Hh)) (fun _ _ _ _=>xgMay_ok Hh)) (fun _ _ _ _=>xgBlocks_ok Hh)) (fun _ _ _ _=>xCNew_ok Hh)) (fun _ _ _ _=>xRNew_ok Hh)) (fun _ _ _ _=>xLNew_ok Hh)) (fun _ _ _ _=>xTNew_ok Hh)) (fun _ _ _ _=>xSClean_ok Hh)) (by kernel_rfl) (by simp (maxSteps:=9^6) +decide (disch:=first|omega|(simp only[lens]<;>omega)|decide) only [go_sem,readRow,loadIn,simprocAttr,op_move,op_assign,op_binOp,op_unOp,op_convert,op_load,op_store,op_indexAddr,op_alloc,op_pick,op_box,op_build,op_buildSlice,op_nilCheck,op_makeSlice,op_fieldAddr,op_field,op_extract,op_lookup,op_mapUpdate,op_builtin,op_index,drEnd,drAll,drOne,drTs,drKd,drPure,drRead,drAlloc,drEff,drSkip,drPut,putT_ok,putT_none,cutT,looks,tmpOf,Op.operands,Call.operands,kd,kdCall,List.filterMap_cons,List.filterMap_nil,List.append_nil,List.nil_append,List.cons_append,stables,stable,reachAt,reachP,waitsAt,waits,gives_self,List.all_cons,List.all_nil,List.any_cons,List.any_nil,Region.binds,Bool.or_true,Bool.true_or,Bool.and_true,Bool.true_and,Bool.or_false,Bool.false_or,Bool.and_self,Bool.or_self,ble_true,Nat.le_refl,Nat.le_add_right,List.map_cons,Array.toList_append,hd,fb,opBox,read1,writeRow]; rfl) ?_)
   simp (maxSteps:=9^6) +decide (disch:=first|omega|(simp only[lens]<;>omega)|decide) only [go_sem,readRow,loadIn,simprocAttr,newSt,geoL,gdL]<;>rfl
  ·
   refine CallOk.goes fits Hh (by kernel_rfl) (by kernel_rfl) (by kernel_rfl) (show Tryz.f18.body=some _ from rfl) rfl ?_
   repeat (first
    | refine Goes.seq ?_
    | refine Goes.block ?_
    | refine Goes.loop ?_
    | refine Goes.skip ?_
    | refine Goes.exit ?_
    | refine Goes.ret ?_
    | refine Goes.condV (by simp (maxSteps:=9^6) +decide (disch:=first|omega|(simp only[lens]<;>omega)|decide) only [go_sem,readRow,loadIn,simprocAttr,hd,fb,opBox,read1,writeRow]<;>rfl) ?_
    | refine Goes.ops2 fits Hh (EX_sound (EX_sound (EX_sound (EX_sound (EX_sound (EX_sound (EX_sound (EX_sound E0_sound (fun _ _ _ _=>xDBlocks_ok Hh)) (fun _ _ _ _=>xgMay_ok Hh)) (fun _ _ _ _=>xgBlocks_ok Hh)) (fun _ _ _ _=>xCNew_ok Hh)) (fun _ _ _ _=>xRNew_ok Hh)) (fun _ _ _ _=>xLNew_ok Hh)) (fun _ _ _ _=>xTNew_ok Hh)) (fun _ _ _ _=>xSClean_ok Hh)) (by simp (maxSteps:=9^6) +decide (disch:=first|omega|(simp only[lens]<;>omega)|decide) only [go_sem,readRow,loadIn,simprocAttr,hd,fb,opBox,read1,writeRow]; rfl) ?_
    | refine Goes.drawn2 fits Hh (EX_sound (EX_sound (EX_sound (EX_sound (EX_sound (EX_sound (EX_sound (EX_sound E0_sound (fun _ _ _ _=>xDBlocks_ok Hh)) (fun _ _ _ _=>xgMay_ok Hh)) (fun _ _ _ _=>xgBlocks_ok Hh)) (fun _ _ _ _=>xCNew_ok Hh)) (fun _ _ _ _=>xRNew_ok Hh)) (fun _ _ _ _=>xLNew_ok Hh)) (fun _ _ _ _=>xTNew_ok Hh)) (fun _ _ _ _=>xSClean_ok Hh)) (by kernel_rfl) (by simp (maxSteps:=9^6) +decide (disch:=first|omega|(simp only[lens]<;>omega)|decide) only [go_sem,readRow,loadIn,simprocAttr,op_move,op_assign,op_binOp,op_unOp,op_convert,op_load,op_store,op_indexAddr,op_alloc,op_pick,op_box,op_build,op_buildSlice,op_nilCheck,op_makeSlice,op_fieldAddr,op_field,op_extract,op_lookup,op_mapUpdate,op_builtin,op_index,drEnd,drAll,drOne,drTs,drKd,drPure,drRead,drAlloc,drEff,drSkip,drPut,putT_ok,putT_none,cutT,looks,tmpOf,Op.operands,Call.operands,kd,kdCall,List.filterMap_cons,List.filterMap_nil,List.append_nil,List.nil_append,List.cons_append,stables,stable,reachAt,reachP,waitsAt,waits,gives_self,List.all_cons,List.all_nil,List.any_cons,List.any_nil,Region.binds,Bool.or_true,Bool.true_or,Bool.and_true,Bool.true_and,Bool.or_false,Bool.false_or,Bool.and_self,Bool.or_self,ble_true,Nat.le_refl,Nat.le_add_right,List.map_cons,Array.toList_append,hd,fb,opBox,read1,writeRow]; rfl) ?_)
   simp (maxSteps:=9^6) +decide (disch:=first|omega|(simp only[lens]<;>omega)|decide) only [go_sem,readRow,loadIn,simprocAttr,newSt,geoL,gdL]<;>rfl
 ·cases e
end
attribute [go_sem] xSNew
end Go.Proofs.YtlbbmhgdcdcdnaaGreatDoor
