/- bits.First, of a block whose first clear bit is 0 or 1. -/
import Derived.Test.YtlbbmhgdcdcdnaaGreatDoorX24
import Derived.Test.YtlbbmhgdcdcdnaaGreatDoorEvC
set_option linter.unusedSimpArgs false
set_option linter.unusedVariables false
set_option linter.unusedSectionVars false
set_option maxRecDepth 100000
set_option maxHeartbeats 4000000
namespace Go.Proofs.YtlbbmhgdcdcdnaaGreatDoor
open Go.Ev
theorem rs35:Tryz.f35.results.toList=[.tmp 6]:=rfl
attribute [go_sem] rs35
noncomputable def xMask:Kn1:=fun args h=>match args with
 | [.c (.int .i64 z)]=>bif decide (z=0) then some (.w (.c (.int .u8 1)),h) else bif decide (z=1) then some (.w (.c (.int .u8 2)),h) else none
 | _=>none
attribute [go_sem] xMask
section
variable (Hh:Hearts K Tryz.prog)
include Hh
theorem xMask_ok {args:List W} {h h':Go.Ev.H} {v:V} (e:xMask args h=some (v,h')):CallOk K Tryz.prog 78 args h v h':=by
 unfold xMask at e
 split at e
 ·rename_i z
  by_cases z0:z=0
  ·subst z0; cases e; exact maskOk Hh h 0
  ·by_cases z1:z=1
   ·subst z1; cases e; exact maskOk Hh h 1
   ·rw[decide_eq_false z0,decide_eq_false z1] at e; cases e
 ·cases e
theorem firstOk (g:Nat→Bool) (j t:Nat) (hj:(j=0∧g 0=false)∨(j=1∧g 0=true∧g 1=false)) (ht:j<t) (h2:t≤2048) (h:Go.Ev.H):CallOk K Tryz.prog 35 [.g (packB g),.c (.int .i64 0),.c (.int .i64 (t:Int))] h (.w (.c (.int .i64 (j:Int)))) h:=by
 have rd:read1 256 [packB g] 0=some (.int .u8 ((byB g 0:Nat):Int)):=packB_get g 0 (by omega)
 have l1:opBit .u8 Nat.land ((byB g 0:Nat):Int) 1=.int .u8 ((if g 0=true then 1 else 0:Nat):Int):=by
  have:=bitU8 (f:=Nat.land) (a:=byB g 0) (b:=1) (byB_lt _ _) (by omega) (land256 (byB_lt _ _))
  refine this.trans ?_
  rw[show Nat.land (byB g 0) 1=_ from byB_test g 0]
 have l2:opBit .u8 Nat.land ((byB g 0:Nat):Int) 2=.int .u8 ((if g 1=true then 2 else 0:Nat):Int):=by
  have:=bitU8 (f:=Nat.land) (a:=byB g 0) (b:=2) (byB_lt _ _) (by omega) (land256 (byB_lt _ _))
  refine this.trans ?_
  rw[show Nat.land (byB g 0) 2=_ from byB_test g 1]
 have mx:max (0:Int) 0=0:=rfl
 have mn:min (t:Int) 2048=(t:Int):=by omega
 have q0:opQuo .i64 0 8=some (.int .i64 0):=rfl
 have q1:opQuo .i64 1 8=some (.int .i64 0):=rfl
 have pl:=packB_len g
 obtain⟨v,h',cc,rfl,hk⟩:∃ v h',CallOk K Tryz.prog 35 [.g (packB g),.c (.int .i64 0),.c (.int .i64 (t:Int))] h v h'∧v=.w (.c (.int .i64 (j:Int)))∧∀ m,m<h.next→h'.get m=h.get m:=by
  rcases hj with ⟨rfl,g0⟩|⟨rfl,g0,g1⟩
  ·
   refine CallOk.goesE fits Hh (by kernel_rfl) (by kernel_rfl) (by kernel_rfl) (show Tryz.f35.body=some _ from rfl) rfl ?_
   repeat (first
    | refine Goes.seq ?_
    | refine Goes.block ?_
    | refine Goes.loop ?_
    | refine Goes.skip ?_
    | refine Goes.exit ?_
    | refine Goes.ret ?_
    | refine Goes.condV (by simp (maxSteps:=9^6) +decide (disch:=first|omega|(simp only[lens]<;>omega)|decide) only [go_sem,readRow,loadIn,simprocAttr,rd,l1,g0,mx,mn,q0,pl,opBuiltin,opBox]<;>rfl) ?_
    | refine Goes.ops2 fits Hh (EX_sound E0_sound (fun _ _ _ _=>xMask_ok Hh)) (by simp (maxSteps:=9^6) +decide (disch:=first|omega|(simp only[lens]<;>omega)|decide) only [go_sem,readRow,loadIn,simprocAttr,rd,l1,g0,mx,mn,q0,pl,opBuiltin,opBox]; rfl) ?_
    | refine Goes.drawn2 fits Hh (EX_sound E0_sound (fun _ _ _ _=>xMask_ok Hh)) (by kernel_rfl) (by simp (maxSteps:=9^6) +decide (disch:=first|omega|(simp only[lens]<;>omega)|decide) only [go_sem,readRow,loadIn,simprocAttr,op_move,op_assign,op_binOp,op_unOp,op_convert,op_load,op_store,op_indexAddr,op_alloc,op_pick,op_box,op_build,op_buildSlice,op_nilCheck,op_makeSlice,op_fieldAddr,op_field,op_extract,op_lookup,op_mapUpdate,op_builtin,op_index,drEnd,drAll,drOne,drTs,drKd,drPure,drRead,drAlloc,drEff,drSkip,drPut,putT_ok,putT_none,cutT,looks,tmpOf,Op.operands,Call.operands,kd,kdCall,List.filterMap_cons,List.filterMap_nil,List.append_nil,List.nil_append,List.cons_append,stables,stable,reachAt,reachP,waitsAt,waits,gives_self,List.all_cons,List.all_nil,List.any_cons,List.any_nil,Region.binds,Bool.or_true,Bool.true_or,Bool.and_true,Bool.true_and,Bool.or_false,Bool.false_or,Bool.and_self,Bool.or_self,ble_true,Nat.le_refl,Nat.le_add_right,List.map_cons,Array.toList_append,rd,l1,g0,mx,mn,q0,pl,opBuiltin,opBox]; rfl) ?_)
   exact⟨_,_,(by simp (maxSteps:=9^6) +decide (disch:=first|omega|(simp only[lens]<;>omega)|decide) only [go_sem,readRow,loadIn,simprocAttr]<;>rfl),rfl,fun m hm=>by (first|(simp (discharger:=omega) only [H.get_put,H.get_new,H.get_del,H.next_new,H.next_put,H.next_del,if_neg]; done)|(simp only[H.get_put,H.get_new,H.get_del,H.next_new,H.next_put,H.next_del]; (repeat' split)<;>first|rfl|(exfalso; omega)|omega))⟩
  ·
   refine CallOk.goesE fits Hh (by kernel_rfl) (by kernel_rfl) (by kernel_rfl) (show Tryz.f35.body=some _ from rfl) rfl ?_
   repeat (first
    | refine Goes.seq ?_
    | refine Goes.block ?_
    | refine Goes.loop ?_
    | refine Goes.skip ?_
    | refine Goes.exit ?_
    | refine Goes.ret ?_
    | refine Goes.condV (by simp (maxSteps:=9^6) +decide (disch:=first|omega|(simp only[lens]<;>omega)|decide) only [go_sem,readRow,loadIn,simprocAttr,rd,l1,l2,g0,g1,mx,mn,q0,q1,pl,opBuiltin,opBox]<;>rfl) ?_
    | refine Goes.ops2 fits Hh (EX_sound E0_sound (fun _ _ _ _=>xMask_ok Hh)) (by simp (maxSteps:=9^6) +decide (disch:=first|omega|(simp only[lens]<;>omega)|decide) only [go_sem,readRow,loadIn,simprocAttr,rd,l1,l2,g0,g1,mx,mn,q0,q1,pl,opBuiltin,opBox]; rfl) ?_
    | refine Goes.drawn2 fits Hh (EX_sound E0_sound (fun _ _ _ _=>xMask_ok Hh)) (by kernel_rfl) (by simp (maxSteps:=9^6) +decide (disch:=first|omega|(simp only[lens]<;>omega)|decide) only [go_sem,readRow,loadIn,simprocAttr,op_move,op_assign,op_binOp,op_unOp,op_convert,op_load,op_store,op_indexAddr,op_alloc,op_pick,op_box,op_build,op_buildSlice,op_nilCheck,op_makeSlice,op_fieldAddr,op_field,op_extract,op_lookup,op_mapUpdate,op_builtin,op_index,drEnd,drAll,drOne,drTs,drKd,drPure,drRead,drAlloc,drEff,drSkip,drPut,putT_ok,putT_none,cutT,looks,tmpOf,Op.operands,Call.operands,kd,kdCall,List.filterMap_cons,List.filterMap_nil,List.append_nil,List.nil_append,List.cons_append,stables,stable,reachAt,reachP,waitsAt,waits,gives_self,List.all_cons,List.all_nil,List.any_cons,List.any_nil,Region.binds,Bool.or_true,Bool.true_or,Bool.and_true,Bool.true_and,Bool.or_false,Bool.false_or,Bool.and_self,Bool.or_self,ble_true,Nat.le_refl,Nat.le_add_right,List.map_cons,Array.toList_append,rd,l1,l2,g0,g1,mx,mn,q0,q1,pl,opBuiltin,opBox]; rfl) ?_)
   exact⟨_,_,(by simp (maxSteps:=9^6) +decide (disch:=first|omega|(simp only[lens]<;>omega)|decide) only [go_sem,readRow,loadIn,simprocAttr]<;>rfl),rfl,fun m hm=>by (first|(simp (discharger:=omega) only [H.get_put,H.get_new,H.get_del,H.next_new,H.next_put,H.next_del,if_neg]; done)|(simp only[H.get_put,H.get_new,H.get_del,H.next_new,H.next_put,H.next_del]; (repeat' split)<;>first|rfl|(exfalso; omega)|omega))⟩
 exact cc.quiet rfl hk
end
end Go.Proofs.YtlbbmhgdcdcdnaaGreatDoor
