/- mkfs.descs. -/
import Derived.Test.YtlbbmhgdcdcdnaaGreatDoorSup2
set_option linter.unusedSimpArgs false
set_option linter.unusedVariables false
set_option linter.unusedSectionVars false
set_option maxRecDepth 100000
set_option maxHeartbeats 10000000
namespace Go.Proofs.YtlbbmhgdcdcdnaaGreatDoor
open Go.Ev
theorem rs51:Tryz.f51.results.toList=[.tmp 2]:=rfl
attribute [go_sem] rs51
def firstD (a b c:Nat):List Desc:=(b - 2 - c / 4,c - 1,1) :: List.replicate (a - 1) (b - 2 - c / 4,c,0)
noncomputable def xDescs:Kn1:=fun args h=>match args with
 | [.g [.int .i64 a,.int .i64 b,.int .i64 c,.int .i64 d]]=>geoK a b c d fun a b c _=>some (.w (.c (.slice h.next 0 a 3)),h.new (.row 3 ((firstD a b c).map rowD) false))
 | _=>none
attribute [go_sem] xDescs
theorem wc31 (x y z c:C) (L:List (List C)):writeRow 3 ([x,y,z] :: L) 1 [c]=some ([x,c,z] :: L):=rfl
theorem wc32 (x y z c:C) (L:List (List C)):writeRow 3 ([x,y,z] :: L) 2 [c]=some ([x,y,c] :: L):=rfl
section
variable (Hh:Hearts K Tryz.prog)
include Hh
theorem xDescs_ok {args:List W} {h h':Go.Ev.H} {v:V} (e:xDescs args h=some (v,h')):CallOk K Tryz.prog 51 args h v h':=by
 unfold xDescs at e
 split at e
 ·obtain⟨a,b,c,d,rfl,rfl,rfl,rfl,f,e⟩:=geoK_some e
  cases e
  obtain⟨g1,g2,g3,g4,g5,g6,g7,g8,g9,g10,g11⟩:=fineB_fine f
  obtain⟨q,hq⟩:∃ q,b - 2 - c / 4=q:=⟨_,rfl⟩
  have ec:(c:Int) - 1=((c - 1:Nat):Int):=by omega
  obtain⟨v,h',cc,n,rfl,n1,n2,n3,hk⟩:∃ v h',CallOk K Tryz.prog 51 [.g [.int .i64 (a:Int),.int .i64 (b:Int),.int .i64 (c:Int),.int .i64 (d:Int)]] h v h'∧∃ n,v=.w (.c (.slice n 0 a 3))∧h.next≤n∧n<h'.next∧h'.get n=some (.row 3 ((firstD a b c).map rowD) false)∧∀ m,m<h.next→h'.get m=h.get m:=by
   unfold firstD
   rw[hq]
   obtain rfl|rfl|rfl|rfl:a=1∨a=2∨a=3∨a=4:=by omega
   all_goals
    refine CallOk.goesE fits Hh (by kernel_rfl) (by kernel_rfl) (by kernel_rfl) (show Tryz.f51.body=some _ from rfl) rfl ?_
    repeat (first
     | refine Goes.seq ?_
     | refine Goes.block ?_
     | refine Goes.loop ?_
     | refine Goes.skip ?_
     | refine Goes.exit ?_
     | refine Goes.ret ?_
     | refine Goes.condV (by simp (maxSteps:=9^6) +decide (disch:=first|omega|(simp only[lens]<;>omega)|decide) only [go_sem,loadIn,simprocAttr,f,hq,ec,rd4,rd30,rd31,rd32,rd33,wr30,wr31,wr32,wr33,wc31,wc32,List.replicate_succ,List.replicate_zero,opBox,opBuiltin,opLen,opMakeSlice,newSlice,read1]<;>rfl) ?_
     | refine Goes.ops2 fits Hh (EX_sound E0_sound (fun _ _ _ _=>xgData_ok Hh)) (by simp (maxSteps:=9^6) +decide (disch:=first|omega|(simp only[lens]<;>omega)|decide) only [go_sem,loadIn,simprocAttr,f,hq,ec,rd4,rd30,rd31,rd32,rd33,wr30,wr31,wr32,wr33,wc31,wc32,List.replicate_succ,List.replicate_zero,opBox,opBuiltin,opLen,opMakeSlice,newSlice,read1]; rfl) ?_
     | refine Goes.drawn2 fits Hh (EX_sound E0_sound (fun _ _ _ _=>xgData_ok Hh)) (by kernel_rfl) (by simp (maxSteps:=9^6) +decide (disch:=first|omega|(simp only[lens]<;>omega)|decide) only [go_sem,loadIn,simprocAttr,op_move,op_assign,op_binOp,op_unOp,op_convert,op_load,op_store,op_indexAddr,op_alloc,op_pick,op_box,op_build,op_buildSlice,op_nilCheck,op_makeSlice,op_fieldAddr,op_field,op_extract,op_lookup,op_mapUpdate,op_builtin,op_index,drEnd,drAll,drOne,drTs,drKd,drPure,drRead,drAlloc,drEff,drSkip,drPut,putT_ok,putT_none,cutT,looks,tmpOf,Op.operands,Call.operands,kd,kdCall,List.filterMap_cons,List.filterMap_nil,List.append_nil,List.nil_append,List.cons_append,stables,stable,reachAt,reachP,waitsAt,waits,gives_self,List.all_cons,List.all_nil,List.any_cons,List.any_nil,Region.binds,Bool.or_true,Bool.true_or,Bool.and_true,Bool.true_and,Bool.or_false,Bool.false_or,Bool.and_self,Bool.or_self,ble_true,Nat.le_refl,Nat.le_add_right,List.map_cons,Array.toList_append,f,hq,ec,rd4,rd30,rd31,rd32,rd33,wr30,wr31,wr32,wr33,wc31,wc32,List.replicate_succ,List.replicate_zero,opBox,opBuiltin,opLen,opMakeSlice,newSlice,read1]; rfl) ?_)
    exact⟨_,_,(by simp (maxSteps:=9^6) +decide (disch:=first|omega|(simp only[lens]<;>omega)|decide) only [go_sem,loadIn,simprocAttr]<;>rfl),_,rfl,(by first|omega|(simp only[H.next_new,H.next_put]<;>omega)),(by first|omega|(simp only[H.next_new,H.next_put]<;>omega)),by simp (maxSteps:=9^6) +decide (disch:=first|omega|(simp only[lens]<;>omega)|decide) only [go_sem,loadIn,simprocAttr,rowD,List.map_cons,List.map_nil,List.replicate_succ,List.replicate_zero]<;>rfl,fun m hm=>by (first|(simp (discharger:=omega) only [H.get_put,H.get_new,H.get_del,H.next_new,H.next_put,H.next_del,if_neg]; done)|(simp only[H.get_put,H.get_new,H.get_del,H.next_new,H.next_put,H.next_del]; (repeat' split)<;>first|rfl|(exfalso; omega)|omega))⟩
  exact CallOk.row1 cc n1 n3 (rows_flat _) n2 hk
 ·cases e
end
end Go.Proofs.YtlbbmhgdcdcdnaaGreatDoor
