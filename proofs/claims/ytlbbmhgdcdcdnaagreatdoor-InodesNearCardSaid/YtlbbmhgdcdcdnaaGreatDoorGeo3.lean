/- geo of a geometry that may be, as the walks ask it: data, groups' starts, inodes. -/
import Derived.Test.YtlbbmhgdcdcdnaaGreatDoorNew
set_option linter.unusedSimpArgs false
set_option linter.unusedVariables false
set_option linter.unusedSectionVars false
set_option maxRecDepth 100000
set_option maxHeartbeats 4000000
namespace Go.Proofs.YtlbbmhgdcdcdnaaGreatDoor
open Go.Ev
noncomputable def geoK (a b c d:Int) (k:Nat→Nat→Nat→Nat→Option (V × Go.Ev.H)):Option (V × Go.Ev.H):=(natI a).bind fun a=>(natI b).bind fun b=>(natI c).bind fun c=>(natI d).bind fun d=>askB (fineB a b c d) (k a b c d)
theorem geoK_some {a b c d:Int} {k:Nat→Nat→Nat→Nat→Option (V × Go.Ev.H)} {r:V × Go.Ev.H} (e:geoK a b c d k=some r):∃ a' b' c' d':Nat,a=a'∧b=b'∧c=c'∧d=d'∧fineB a' b' c' d'=true∧k a' b' c' d'=some r:=by
 obtain⟨a',ha,e⟩:=bind_of e
 obtain⟨b',hb,e⟩:=bind_of e
 obtain⟨c',hc,e⟩:=bind_of e
 obtain⟨d',hd,e⟩:=bind_of e
 obtain⟨f,e⟩:=askB_some.1 e
 exact⟨a',b',c',d',natI_some ha,natI_some hb,natI_some hc,natI_some hd,f,e⟩
noncomputable def xgData:Kn1:=fun args h=>match args with
 | [.g [.int .i64 a,.int .i64 b,.int .i64 c,.int .i64 d]]=>geoK a b c d fun _ b c _=>some (.w (.c (.int .i64 ((b - 2 - c / 4:Nat):Int))),h)
 | _=>none
noncomputable def xgStart:Kn1:=fun args h=>match args with
 | [.g [.int .i64 a,.int .i64 b,.int .i64 c,.int .i64 d],.c (.int .i64 k)]=>geoK a b c d fun a b _ d=>(natI k).bind fun k=>askB (decide (k<a)) (some (.tup [.c (.int .i64 ((2+d+k * b:Nat):Int)),.c (.bool true)],h))
 | _=>none
noncomputable def xgInodes:Kn1:=fun args h=>match args with
 | [.g [.int .i64 a,.int .i64 b,.int .i64 c,.int .i64 d]]=>geoK a b c d fun a _ c _=>some (.w (.c (.int .i64 ((a * c:Nat):Int))),h)
 | _=>none
noncomputable def xgNumber:Kn1:=fun args h=>match args with
 | [.g [.int .i64 a,.int .i64 b,.int .i64 c,.int .i64 d],.c (.int .i64 k),.c (.int .i64 i)]=>geoK a b c d fun a _ c _=>(natI k).bind fun k=>(natI i).bind fun i=>askB (decide (k<a)&&decide (i<c)) (some (.w (.c (.int .i64 ((k * c+i+1:Nat):Int))),h))
 | _=>none
noncomputable def xgHome:Kn1:=fun args h=>match args with
 | [.g [.int .i64 a,.int .i64 b,.int .i64 c,.int .i64 d],.c (.int .i64 z)]=>geoK a b c d fun a _ c _=>bif decide (1≤z)&&decide (z≤((a * c:Nat):Int)) then some (.tup [.c (.int .i64 (((z.toNat - 1) / c:Nat):Int)),.c (.int .i64 (((z.toNat - 1) % c:Nat):Int)),.c (.bool true)],h) else some (.tup [.c (.int .i64 0),.c (.int .i64 0),.c (.bool false)],h)
 | _=>none
noncomputable def xgInode:Kn1:=fun args h=>match args with
 | [.g [.int .i64 a,.int .i64 b,.int .i64 c,.int .i64 d],.c (.int .i64 z)]=>geoK a b c d fun a b c d=>askB (decide (1≤z)&&decide (z≤((a * c:Nat):Int))) (some (.tup [.c (.int .i64 ((2+d+(z.toNat - 1) / c * b+2+(z.toNat - 1) % c / 4:Nat):Int)),.c (.int .i64 (((z.toNat - 1) % c % 4 * 64:Nat):Int)),.c (.bool true)],h))
 | _=>none
attribute [go_sem] geoK xgData xgStart xgInodes xgNumber xgHome xgInode
section
variable (Hh:Hearts K Tryz.prog)
include Hh
theorem xgData_ok {args:List W} {h h':Go.Ev.H} {v:V} (e:xgData args h=some (v,h')):CallOk K Tryz.prog 93 args h v h':=by
 unfold xgData at e
 split at e
 ·obtain⟨a,b,c,d,rfl,rfl,rfl,rfl,f,e⟩:=geoK_some e
  obtain⟨g1,g2,g3,g4,g5,g6,g7,g8,g9,g10,g11⟩:=fineB_fine f
  cases e
  have q1:opQuo .i64 (c:Int) 4=some (.int .i64 ((c / 4:Nat):Int)):=quo_nat (b:=4) (by omega) (by omega)
  have e2:(b:Int) - 2=((b - 2:Nat):Int):=by omega
  have e3:((b - 2:Nat):Int) - ((c / 4:Nat):Int)=((b - 2 - c / 4:Nat):Int):=by omega
  obtain⟨v,h',cc,rfl,hk⟩:∃ v h',CallOk K Tryz.prog 93 [.g [.int .i64 (a:Int),.int .i64 (b:Int),.int .i64 (c:Int),.int .i64 (d:Int)]] h v h'∧v=.w (.c (.int .i64 ((b - 2 - c / 4:Nat):Int)))∧∀ m,m<h.next→h'.get m=h.get m:=by
   refine CallOk.goesE fits Hh (by kernel_rfl) (by kernel_rfl) (by kernel_rfl) (show Tryz.f93.body=some _ from rfl) rfl ?_
   repeat (first
    | refine Goes.seq ?_
    | refine Goes.block ?_
    | refine Goes.loop ?_
    | refine Goes.skip ?_
    | refine Goes.exit ?_
    | refine Goes.ret ?_
    | refine Goes.condV (by simp (maxSteps:=9^6) +decide (disch:=first|omega|(simp only[lens]<;>omega)|decide) only [go_sem,readRow,loadIn,simprocAttr,f,q1,e2,e3,read1,opBox]<;>rfl) ?_
    | refine Goes.ops2 fits Hh (EX_sound E0_sound (fun _ _ _ _=>xgMay_ok Hh)) (by simp (maxSteps:=9^6) +decide (disch:=first|omega|(simp only[lens]<;>omega)|decide) only [go_sem,readRow,loadIn,simprocAttr,f,q1,e2,e3,read1,opBox]; rfl) ?_)
   exact⟨_,_,(by simp (maxSteps:=9^6) +decide (disch:=first|omega|(simp only[lens]<;>omega)|decide) only [go_sem,readRow,loadIn,simprocAttr]<;>rfl),rfl,fun m hm=>by (first|(simp (discharger:=omega) only [H.get_put,H.get_new,H.get_del,H.next_new,H.next_put,H.next_del,if_neg]; done)|(simp only[H.get_put,H.get_new,H.get_del,H.next_new,H.next_put,H.next_del]; (repeat' split)<;>first|rfl|(exfalso; omega)|omega))⟩
  exact cc.quiet rfl hk
 ·cases e
theorem xgStart_ok {args:List W} {h h':Go.Ev.H} {v:V} (e:xgStart args h=some (v,h')):CallOk K Tryz.prog 53 args h v h':=by
 unfold xgStart at e
 split at e
 ·obtain⟨a,b,c,d,rfl,rfl,rfl,rfl,f,e⟩:=geoK_some e
  obtain⟨g1,g2,g3,g4,g5,g6,g7,g8,g9,g10,g11⟩:=fineB_fine f
  obtain⟨k,hk,e⟩:=bind_of e
  obtain⟨bk,e⟩:=askB_some.1 e
  have kl:=of_decide_eq_true bk
  cases e
  rw[natI_some hk]
  have b1:k * b≤a * b:=Nat.mul_le_mul (by omega) (by omega)
  have gi:(k:Int) * (b:Int)=((k * b:Nat):Int):=rfl
  obtain⟨v,h',cc,rfl,hk⟩:∃ v h',CallOk K Tryz.prog 53 [.g [.int .i64 (a:Int),.int .i64 (b:Int),.int .i64 (c:Int),.int .i64 (d:Int)],.c (.int .i64 (k:Int))] h v h'∧v=.tup [.c (.int .i64 ((2+d+k * b:Nat):Int)),.c (.bool true)]∧∀ m,m<h.next→h'.get m=h.get m:=by
   refine CallOk.goesE fits Hh (by kernel_rfl) (by kernel_rfl) (by kernel_rfl) (show Tryz.f53.body=some _ from rfl) rfl ?_
   repeat (first
    | refine Goes.seq ?_
    | refine Goes.block ?_
    | refine Goes.loop ?_
    | refine Goes.skip ?_
    | refine Goes.exit ?_
    | refine Goes.ret ?_
    | refine Goes.condV (by simp (maxSteps:=9^6) +decide (disch:=first|omega|(simp only[lens]<;>omega)|decide) only [go_sem,readRow,loadIn,simprocAttr,f,gi,read1,opBox]<;>rfl) ?_
    | refine Goes.ops2 fits Hh (EX_sound E0_sound (fun _ _ _ _=>xgMay_ok Hh)) (by simp (maxSteps:=9^6) +decide (disch:=first|omega|(simp only[lens]<;>omega)|decide) only [go_sem,readRow,loadIn,simprocAttr,f,gi,read1,opBox]; rfl) ?_)
   exact⟨_,_,(by simp (maxSteps:=9^6) +decide (disch:=first|omega|(simp only[lens]<;>omega)|decide) only [go_sem,readRow,loadIn,simprocAttr]<;>rfl),rfl,fun m hm=>by (first|(simp (discharger:=omega) only [H.get_put,H.get_new,H.get_del,H.next_new,H.next_put,H.next_del,if_neg]; done)|(simp only[H.get_put,H.get_new,H.get_del,H.next_new,H.next_put,H.next_del]; (repeat' split)<;>first|rfl|(exfalso; omega)|omega))⟩
  exact cc.quiet rfl hk
 ·cases e
theorem xgInodes_ok {args:List W} {h h':Go.Ev.H} {v:V} (e:xgInodes args h=some (v,h')):CallOk K Tryz.prog 27 args h v h':=by
 unfold xgInodes at e
 split at e
 ·obtain⟨a,b,c,d,rfl,rfl,rfl,rfl,f,e⟩:=geoK_some e
  obtain⟨g1,g2,g3,g4,g5,g6,g7,g8,g9,g10,g11⟩:=fineB_fine f
  cases e
  have b1:a * c≤4 * 64:=Nat.mul_le_mul (by omega) (by omega)
  have gi:(a:Int) * (c:Int)=((a * c:Nat):Int):=rfl
  obtain⟨v,h',cc,rfl,hk⟩:∃ v h',CallOk K Tryz.prog 27 [.g [.int .i64 (a:Int),.int .i64 (b:Int),.int .i64 (c:Int),.int .i64 (d:Int)]] h v h'∧v=.w (.c (.int .i64 ((a * c:Nat):Int)))∧∀ m,m<h.next→h'.get m=h.get m:=by
   refine CallOk.goesE fits Hh (by kernel_rfl) (by kernel_rfl) (by kernel_rfl) (show Tryz.f27.body=some _ from rfl) rfl ?_
   repeat (first
    | refine Goes.seq ?_
    | refine Goes.block ?_
    | refine Goes.loop ?_
    | refine Goes.skip ?_
    | refine Goes.exit ?_
    | refine Goes.ret ?_
    | refine Goes.condV (by simp (maxSteps:=9^6) +decide (disch:=first|omega|(simp only[lens]<;>omega)|decide) only [go_sem,readRow,loadIn,simprocAttr,f,gi,read1,opBox]<;>rfl) ?_
    | refine Goes.ops2 fits Hh (EX_sound E0_sound (fun _ _ _ _=>xgMay_ok Hh)) (by simp (maxSteps:=9^6) +decide (disch:=first|omega|(simp only[lens]<;>omega)|decide) only [go_sem,readRow,loadIn,simprocAttr,f,gi,read1,opBox]; rfl) ?_)
   exact⟨_,_,(by simp (maxSteps:=9^6) +decide (disch:=first|omega|(simp only[lens]<;>omega)|decide) only [go_sem,readRow,loadIn,simprocAttr]<;>rfl),rfl,fun m hm=>by (first|(simp (discharger:=omega) only [H.get_put,H.get_new,H.get_del,H.next_new,H.next_put,H.next_del,if_neg]; done)|(simp only[H.get_put,H.get_new,H.get_del,H.next_new,H.next_put,H.next_del]; (repeat' split)<;>first|rfl|(exfalso; omega)|omega))⟩
  exact cc.quiet rfl hk
 ·cases e
theorem xgNumber_ok {args:List W} {h h':Go.Ev.H} {v:V} (e:xgNumber args h=some (v,h')):CallOk K Tryz.prog 9 args h v h':=by
 unfold xgNumber at e
 split at e
 ·obtain⟨a,b,c,d,rfl,rfl,rfl,rfl,f,e⟩:=geoK_some e
  obtain⟨g1,g2,g3,g4,g5,g6,g7,g8,g9,g10,g11⟩:=fineB_fine f
  obtain⟨k,hk,e⟩:=bind_of e
  obtain⟨i,hi,e⟩:=bind_of e
  obtain⟨bk,e⟩:=askB_some.1 e
  simp only[Bool.and_eq_true,decide_eq_true_eq] at bk
  obtain⟨kl,il⟩:=bk
  cases e
  rw[natI_some hk,natI_some hi]
  have b1:k * c≤4 * 64:=Nat.mul_le_mul (by omega) (by omega)
  have gi:(k:Int) * (c:Int)=((k * c:Nat):Int):=rfl
  obtain⟨v,h',cc,rfl,hk⟩:∃ v h',CallOk K Tryz.prog 9 [.g [.int .i64 (a:Int),.int .i64 (b:Int),.int .i64 (c:Int),.int .i64 (d:Int)],.c (.int .i64 (k:Int)),.c (.int .i64 (i:Int))] h v h'∧v=.w (.c (.int .i64 ((k * c+i+1:Nat):Int)))∧∀ m,m<h.next→h'.get m=h.get m:=by
   refine CallOk.goesE fits Hh (by kernel_rfl) (by kernel_rfl) (by kernel_rfl) (show Tryz.f9.body=some _ from rfl) rfl ?_
   repeat (first
    | refine Goes.seq ?_
    | refine Goes.block ?_
    | refine Goes.loop ?_
    | refine Goes.skip ?_
    | refine Goes.exit ?_
    | refine Goes.ret ?_
    | refine Goes.condV (by simp (maxSteps:=9^6) +decide (disch:=first|omega|(simp only[lens]<;>omega)|decide) only [go_sem,readRow,loadIn,simprocAttr,f,gi,read1,opBox]<;>rfl) ?_
    | refine Goes.ops2 fits Hh (EX_sound E0_sound (fun _ _ _ _=>xgMay_ok Hh)) (by simp (maxSteps:=9^6) +decide (disch:=first|omega|(simp only[lens]<;>omega)|decide) only [go_sem,readRow,loadIn,simprocAttr,f,gi,read1,opBox]; rfl) ?_)
   exact⟨_,_,(by simp (maxSteps:=9^6) +decide (disch:=first|omega|(simp only[lens]<;>omega)|decide) only [go_sem,readRow,loadIn,simprocAttr]<;>rfl),rfl,fun m hm=>by (first|(simp (discharger:=omega) only [H.get_put,H.get_new,H.get_del,H.next_new,H.next_put,H.next_del,if_neg]; done)|(simp only[H.get_put,H.get_new,H.get_del,H.next_new,H.next_put,H.next_del]; (repeat' split)<;>first|rfl|(exfalso; omega)|omega))⟩
  exact cc.quiet rfl hk
 ·cases e
theorem xgHome_ok {args:List W} {h h':Go.Ev.H} {v:V} (e:xgHome args h=some (v,h')):CallOk K Tryz.prog 8 args h v h':=by
 unfold xgHome at e
 split at e
 ·rename_i z
  obtain⟨a,b,c,d,rfl,rfl,rfl,rfl,f,e⟩:=geoK_some e
  obtain⟨g1,g2,g3,g4,g5,g6,g7,g8,g9,g10,g11⟩:=fineB_fine f
  have b1:a * c≤4 * 64:=Nat.mul_le_mul (by omega) (by omega)
  by_cases z1:1≤z
  ·by_cases z2:z≤((a * c:Nat):Int)
   ·rw[decide_eq_true z1,decide_eq_true z2] at e
    cases e
    obtain⟨j,hj⟩:∃ j,z.toNat - 1=j:=⟨_,rfl⟩
    obtain rfl:z=((j+1:Nat):Int):=by omega
    rw[hj]
    have e1:((j+1:Nat):Int) - 1=(j:Int):=by omega
    obtain⟨v,h',cc,rfl,hk⟩:∃ v h',CallOk K Tryz.prog 8 [.g [.int .i64 (a:Int),.int .i64 (b:Int),.int .i64 (c:Int),.int .i64 (d:Int)],.c (.int .i64 ((j+1:Nat):Int))] h v h'∧v=.tup [.c (.int .i64 ((j / c:Nat):Int)),.c (.int .i64 ((j % c:Nat):Int)),.c (.bool true)]∧∀ m,m<h.next→h'.get m=h.get m:=by
     refine CallOk.goesE fits Hh (by kernel_rfl) (by kernel_rfl) (by kernel_rfl) (show Tryz.f8.body=some _ from rfl) rfl ?_
     repeat (first
      | refine Goes.seq ?_
      | refine Goes.block ?_
      | refine Goes.loop ?_
      | refine Goes.skip ?_
      | refine Goes.exit ?_
      | refine Goes.ret ?_
      | refine Goes.condV (by simp (maxSteps:=9^6) +decide (disch:=first|omega|(simp only[lens]<;>omega)|decide) only [go_sem,readRow,loadIn,simprocAttr,f,e1,quo_nat,rem_nat,read1,opBox]<;>rfl) ?_
      | refine Goes.ops2 fits Hh (EX_sound E0_sound (fun _ _ _ _=>xgInodes_ok Hh)) (by simp (maxSteps:=9^6) +decide (disch:=first|omega|(simp only[lens]<;>omega)|decide) only [go_sem,readRow,loadIn,simprocAttr,f,e1,quo_nat,rem_nat,read1,opBox]; rfl) ?_
      | refine Goes.drawn2 fits Hh (EX_sound E0_sound (fun _ _ _ _=>xgInodes_ok Hh)) (by kernel_rfl) (by simp (maxSteps:=9^6) +decide (disch:=first|omega|(simp only[lens]<;>omega)|decide) only [go_sem,readRow,loadIn,simprocAttr,op_move,op_assign,op_binOp,op_unOp,op_convert,op_load,op_store,op_indexAddr,op_alloc,op_pick,op_box,op_build,op_buildSlice,op_nilCheck,op_makeSlice,op_fieldAddr,op_field,op_extract,op_lookup,op_mapUpdate,op_builtin,op_index,drEnd,drAll,drOne,drTs,drKd,drPure,drRead,drAlloc,drEff,drSkip,drPut,putT_ok,putT_none,cutT,looks,tmpOf,Op.operands,Call.operands,kd,kdCall,List.filterMap_cons,List.filterMap_nil,List.append_nil,List.nil_append,List.cons_append,stables,stable,reachAt,reachP,waitsAt,waits,gives_self,List.all_cons,List.all_nil,List.any_cons,List.any_nil,Region.binds,Bool.or_true,Bool.true_or,Bool.and_true,Bool.true_and,Bool.or_false,Bool.false_or,Bool.and_self,Bool.or_self,ble_true,Nat.le_refl,Nat.le_add_right,List.map_cons,Array.toList_append,f,e1,quo_nat,rem_nat,read1,opBox]; rfl) ?_)
     exact⟨_,_,(by simp (maxSteps:=9^6) +decide (disch:=first|omega|(simp only[lens]<;>omega)|decide) only [go_sem,readRow,loadIn,simprocAttr]<;>rfl),rfl,fun m hm=>by (first|(simp (discharger:=omega) only [H.get_put,H.get_new,H.get_del,H.next_new,H.next_put,H.next_del,if_neg]; done)|(simp only[H.get_put,H.get_new,H.get_del,H.next_new,H.next_put,H.next_del]; (repeat' split)<;>first|rfl|(exfalso; omega)|omega))⟩
    exact cc.quiet rfl hk
   ·rw[decide_eq_true z1,decide_eq_false z2] at e
    cases e
    obtain⟨v,h',cc,rfl,hk⟩:∃ v h',CallOk K Tryz.prog 8 [.g [.int .i64 (a:Int),.int .i64 (b:Int),.int .i64 (c:Int),.int .i64 (d:Int)],.c (.int .i64 z)] h v h'∧v=.tup [.c (.int .i64 0),.c (.int .i64 0),.c (.bool false)]∧∀ m,m<h.next→h'.get m=h.get m:=by
     refine CallOk.goesE fits Hh (by kernel_rfl) (by kernel_rfl) (by kernel_rfl) (show Tryz.f8.body=some _ from rfl) rfl ?_
     repeat (first
      | refine Goes.seq ?_
      | refine Goes.block ?_
      | refine Goes.loop ?_
      | refine Goes.skip ?_
      | refine Goes.exit ?_
      | refine Goes.ret ?_
      | refine Goes.condV (by simp (maxSteps:=9^6) +decide (disch:=first|omega|(simp only[lens]<;>omega)|decide) only [go_sem,readRow,loadIn,simprocAttr,f,read1,opBox]<;>rfl) ?_
      | refine Goes.ops2 fits Hh (EX_sound E0_sound (fun _ _ _ _=>xgInodes_ok Hh)) (by simp (maxSteps:=9^6) +decide (disch:=first|omega|(simp only[lens]<;>omega)|decide) only [go_sem,readRow,loadIn,simprocAttr,f,read1,opBox]; rfl) ?_
      | refine Goes.drawn2 fits Hh (EX_sound E0_sound (fun _ _ _ _=>xgInodes_ok Hh)) (by kernel_rfl) (by simp (maxSteps:=9^6) +decide (disch:=first|omega|(simp only[lens]<;>omega)|decide) only [go_sem,readRow,loadIn,simprocAttr,op_move,op_assign,op_binOp,op_unOp,op_convert,op_load,op_store,op_indexAddr,op_alloc,op_pick,op_box,op_build,op_buildSlice,op_nilCheck,op_makeSlice,op_fieldAddr,op_field,op_extract,op_lookup,op_mapUpdate,op_builtin,op_index,drEnd,drAll,drOne,drTs,drKd,drPure,drRead,drAlloc,drEff,drSkip,drPut,putT_ok,putT_none,cutT,looks,tmpOf,Op.operands,Call.operands,kd,kdCall,List.filterMap_cons,List.filterMap_nil,List.append_nil,List.nil_append,List.cons_append,stables,stable,reachAt,reachP,waitsAt,waits,gives_self,List.all_cons,List.all_nil,List.any_cons,List.any_nil,Region.binds,Bool.or_true,Bool.true_or,Bool.and_true,Bool.true_and,Bool.or_false,Bool.false_or,Bool.and_self,Bool.or_self,ble_true,Nat.le_refl,Nat.le_add_right,List.map_cons,Array.toList_append,f,read1,opBox]; rfl) ?_)
     exact⟨_,_,(by simp (maxSteps:=9^6) +decide (disch:=first|omega|(simp only[lens]<;>omega)|decide) only [go_sem,readRow,loadIn,simprocAttr]<;>rfl),rfl,fun m hm=>by (first|(simp (discharger:=omega) only [H.get_put,H.get_new,H.get_del,H.next_new,H.next_put,H.next_del,if_neg]; done)|(simp only[H.get_put,H.get_new,H.get_del,H.next_new,H.next_put,H.next_del]; (repeat' split)<;>first|rfl|(exfalso; omega)|omega))⟩
    exact cc.quiet rfl hk
  ·rw[decide_eq_false z1] at e
   cases e
   obtain⟨v,h',cc,rfl,hk⟩:∃ v h',CallOk K Tryz.prog 8 [.g [.int .i64 (a:Int),.int .i64 (b:Int),.int .i64 (c:Int),.int .i64 (d:Int)],.c (.int .i64 z)] h v h'∧v=.tup [.c (.int .i64 0),.c (.int .i64 0),.c (.bool false)]∧∀ m,m<h.next→h'.get m=h.get m:=by
    refine CallOk.goesE fits Hh (by kernel_rfl) (by kernel_rfl) (by kernel_rfl) (show Tryz.f8.body=some _ from rfl) rfl ?_
    repeat (first
     | refine Goes.seq ?_
     | refine Goes.block ?_
     | refine Goes.loop ?_
     | refine Goes.skip ?_
     | refine Goes.exit ?_
     | refine Goes.ret ?_
     | refine Goes.condV (by simp (maxSteps:=9^6) +decide (disch:=first|omega|(simp only[lens]<;>omega)|decide) only [go_sem,readRow,loadIn,simprocAttr,f,read1,opBox]<;>rfl) ?_
     | refine Goes.ops2 fits Hh (EX_sound E0_sound (fun _ _ _ _=>xgInodes_ok Hh)) (by simp (maxSteps:=9^6) +decide (disch:=first|omega|(simp only[lens]<;>omega)|decide) only [go_sem,readRow,loadIn,simprocAttr,f,read1,opBox]; rfl) ?_
     | refine Goes.drawn2 fits Hh (EX_sound E0_sound (fun _ _ _ _=>xgInodes_ok Hh)) (by kernel_rfl) (by simp (maxSteps:=9^6) +decide (disch:=first|omega|(simp only[lens]<;>omega)|decide) only [go_sem,readRow,loadIn,simprocAttr,op_move,op_assign,op_binOp,op_unOp,op_convert,op_load,op_store,op_indexAddr,op_alloc,op_pick,op_box,op_build,op_buildSlice,op_nilCheck,op_makeSlice,op_fieldAddr,op_field,op_extract,op_lookup,op_mapUpdate,op_builtin,op_index,drEnd,drAll,drOne,drTs,drKd,drPure,drRead,drAlloc,drEff,drSkip,drPut,putT_ok,putT_none,cutT,looks,tmpOf,Op.operands,Call.operands,kd,kdCall,List.filterMap_cons,List.filterMap_nil,List.append_nil,List.nil_append,List.cons_append,stables,stable,reachAt,reachP,waitsAt,waits,gives_self,List.all_cons,List.all_nil,List.any_cons,List.any_nil,Region.binds,Bool.or_true,Bool.true_or,Bool.and_true,Bool.true_and,Bool.or_false,Bool.false_or,Bool.and_self,Bool.or_self,ble_true,Nat.le_refl,Nat.le_add_right,List.map_cons,Array.toList_append,f,read1,opBox]; rfl) ?_)
    exact⟨_,_,(by simp (maxSteps:=9^6) +decide (disch:=first|omega|(simp only[lens]<;>omega)|decide) only [go_sem,readRow,loadIn,simprocAttr]<;>rfl),rfl,fun m hm=>by (first|(simp (discharger:=omega) only [H.get_put,H.get_new,H.get_del,H.next_new,H.next_put,H.next_del,if_neg]; done)|(simp only[H.get_put,H.get_new,H.get_del,H.next_new,H.next_put,H.next_del]; (repeat' split)<;>first|rfl|(exfalso; omega)|omega))⟩
   exact cc.quiet rfl hk
 ·cases e
theorem xgInode_ok {args:List W} {h h':Go.Ev.H} {v:V} (e:xgInode args h=some (v,h')):CallOk K Tryz.prog 40 args h v h':=by
 unfold xgInode at e
 split at e
 ·rename_i z
  obtain⟨a,b,c,d,rfl,rfl,rfl,rfl,f,e⟩:=geoK_some e
  obtain⟨g1,g2,g3,g4,g5,g6,g7,g8,g9,g10,g11⟩:=fineB_fine f
  have b0:a * c≤4 * 64:=Nat.mul_le_mul (by omega) (by omega)
  obtain⟨bz,e⟩:=askB_some.1 e
  simp only[Bool.and_eq_true,decide_eq_true_eq] at bz
  obtain⟨z1,z2⟩:=bz
  cases e
  obtain⟨j,hj⟩:∃ j,z.toNat - 1=j:=⟨_,rfl⟩
  obtain rfl:z=((j+1:Nat):Int):=by omega
  rw[hj]
  have hk0:j / c<a:=Nat.div_lt_of_lt_mul (by rw[Nat.mul_comm]; omega)
  have hm:j % c<c:=Nat.mod_lt _ (by omega)
  have b1:j / c * b≤a * b:=Nat.mul_le_mul (by omega) (by omega)
  have hz:(((j+1:Nat):Int).toNat - 1)=j:=hj
  obtain⟨k,hk⟩:∃ k,j / c=k:=⟨_,rfl⟩
  obtain⟨r,hr⟩:∃ r,j % c=r:=⟨_,rfl⟩
  rw[hk] at hk0 b1
  rw[hr] at hm
  rw[hk,hr]
  have d1:decide (1≤((j+1:Nat):Int))=true:=decide_eq_true z1
  have d2:decide (((j+1:Nat):Int)≤((a * c:Nat):Int))=true:=decide_eq_true z2
  obtain⟨q,hq⟩:∃ q,k * b=q:=⟨_,rfl⟩
  rw[hq] at b1 ⊢
  obtain⟨v,h',cc,rfl,hk⟩:∃ v h',CallOk K Tryz.prog 40 [.g [.int .i64 (a:Int),.int .i64 (b:Int),.int .i64 (c:Int),.int .i64 (d:Int)],.c (.int .i64 ((j+1:Nat):Int))] h v h'∧v=.tup [.c (.int .i64 ((2+d+q+2+r / 4:Nat):Int)),.c (.int .i64 ((r % 4 * 64:Nat):Int)),.c (.bool true)]∧∀ m,m<h.next→h'.get m=h.get m:=by
   refine CallOk.goesE fits Hh (by kernel_rfl) (by kernel_rfl) (by kernel_rfl) (show Tryz.f40.body=some _ from rfl) rfl ?_
   repeat (first
    | refine Goes.seq ?_
    | refine Goes.block ?_
    | refine Goes.loop ?_
    | refine Goes.skip ?_
    | refine Goes.exit ?_
    | refine Goes.ret ?_
    | refine Goes.condV (by simp (maxSteps:=9^6) +decide (disch:=first|omega|(simp only[lens]<;>omega)|decide) only [go_sem,readRow,loadIn,simprocAttr,f,d1,d2,hz,hk,hr,hq,quo_nat,rem_nat,read1,opBox]<;>rfl) ?_
    | refine Goes.ops2 fits Hh (EX_sound (EX_sound E0_sound (fun _ _ _ _=>xgHome_ok Hh)) (fun _ _ _ _=>xgStart_ok Hh)) (by simp (maxSteps:=9^6) +decide (disch:=first|omega|(simp only[lens]<;>omega)|decide) only [go_sem,readRow,loadIn,simprocAttr,f,d1,d2,hz,hk,hr,hq,quo_nat,rem_nat,read1,opBox]; rfl) ?_)
   exact⟨_,_,(by simp (maxSteps:=9^6) +decide (disch:=first|omega|(simp only[lens]<;>omega)|decide) only [go_sem,readRow,loadIn,simprocAttr]<;>rfl),rfl,fun m hm=>by (first|(simp (discharger:=omega) only [H.get_put,H.get_new,H.get_del,H.next_new,H.next_put,H.next_del,if_neg]; done)|(simp only[H.get_put,H.get_new,H.get_del,H.next_new,H.next_put,H.next_del]; (repeat' split)<;>first|rfl|(exfalso; omega)|omega))⟩
  exact cc.quiet rfl hk
 ·cases e
end
end Go.Proofs.YtlbbmhgdcdcdnaaGreatDoor
