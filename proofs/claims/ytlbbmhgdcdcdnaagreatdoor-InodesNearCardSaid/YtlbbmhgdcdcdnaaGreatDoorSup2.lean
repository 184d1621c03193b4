/- super: geometries and descriptors handed on. -/
import Derived.Test.YtlbbmhgdcdcdnaaGreatDoorPge
import Derived.Test.YtlbbmhgdcdcdnaaGreatDoorGeo3
set_option linter.unusedSimpArgs false
set_option linter.unusedVariables false
set_option linter.unusedSectionVars false
set_option maxRecDepth 100000
set_option maxHeartbeats 4000000
namespace Go.Proofs.YtlbbmhgdcdcdnaaGreatDoor
open Go.Ev
theorem ty77:K.types.get 77=some ti77:=by kernel_rfl
theorem sz77:ti77.size=1:=by rfl
theorem ag77:ti77.agg=false:=by rfl
theorem de77:ti77.desc=(.slice 91):=by rfl
theorem ze77:ti77.zero=(.c (.snil)):=by rfl
theorem by77:ti77.bytes=24:=by rfl
theorem el77:elemTI K 77=some ti91:=by kernel_rfl
theorem ty91:K.types.get 91=some ti91:=by kernel_rfl
theorem sz91:ti91.size=3:=by rfl
theorem ag91:ti91.agg=true:=by rfl
theorem fo91_0:fieldOf K 91 0=some (0,ti3):=by kernel_rfl
theorem fo91_1:fieldOf K 91 1=some (1,ti3):=by kernel_rfl
theorem fo91_2:fieldOf K 91 2=some (2,ti3):=by kernel_rfl
theorem bu91 (ps:List (Nat × W)):opBuild K 91 (some ps)=gW (fillStruct K 91 ps ti91.zero.cells):=by kernel_rfl
theorem ze91:ti91.zero=(.g ([.int .i64 0,.int .i64 0,.int .i64 0])):=by rfl
theorem by91:ti91.bytes=24:=by rfl
theorem ty104:K.types.get 104=some ti104:=by kernel_rfl
theorem sz104:ti104.size=5:=by rfl
theorem ag104:ti104.agg=true:=by rfl
theorem fo104_0:fieldOf K 104 0=some (0,ti23):=by kernel_rfl
theorem fo104_1:fieldOf K 104 1=some (4,ti40):=by kernel_rfl
theorem bu104 (ps:List (Nat × W)):opBuild K 104 (some ps)=gW (fillStruct K 104 ps ti104.zero.cells):=by kernel_rfl
theorem ze104:ti104.zero=(.g ([.int .i64 0,.int .i64 0,.int .i64 0,.int .i64 0,.int .u32 0])):=by rfl
theorem by104:ti104.bytes=40:=by rfl
theorem ty198:K.types.get 198=some ti198:=by kernel_rfl
theorem sz198:ti198.size=1:=by rfl
theorem ag198:ti198.agg=false:=by rfl
theorem de198:ti198.desc=(.int .u64):=by rfl
theorem ze198:ti198.zero=(.c (.int .u64 0)):=by rfl
theorem by198:ti198.bytes=8:=by rfl
theorem ke198 (k:IntKind) (n:Int):keyT K 20 198 (.c (.int k n))=true:=by kernel_rfl
attribute [go_sem] ty77 sz77 ag77 de77 ze77 by77 el77 ty91 sz91 ag91 fo91_0 fo91_1 fo91_2 bu91 ze91 by91 ty104 sz104 ag104 fo104_0 fo104_1 bu104 ze104 by104 ty198 sz198 ag198 de198 ze198 by198 ke198
theorem rs89:Tryz.f89.results.toList=[]:=rfl
theorem rs92:Tryz.f92.results.toList=[]:=rfl
theorem rs112:Tryz.f112.results.toList=[.cell 4 91]:=rfl
theorem rs86:Tryz.f86.results.toList=[.tmp 2]:=rfl
theorem rs49:Tryz.f49.results.toList=[.cell 2 85,.tmp 3]:=rfl
theorem rs91:Tryz.f91.results.toList=[.tmp 4]:=rfl
attribute [go_sem] rs89 rs92 rs112 rs86 rs49 rs91
def geoN (ns:List Nat) (a b c d:Nat):List Nat:=put2N (put2N (put2N (put2N ns 8 a) 10 b) 12 c) 14 d
def desP (ns:List Nat) (i a b c:Nat):List Nat:=put2N (put2N (put2N ns i a) (i+2) b) (i+4) c
theorem put2_pg (ns:List Nat) (i v:Nat):pgL (put2N ns i v)=((pgL ns).set i (.int .u8 ((v % 256:Nat):Int))).set (i+1) (.int .u8 ((v / 256 % 256:Nat):Int)):=by rw[pg_set,pg_set]; rfl
theorem geo_mod (ns:List Nat) (a b c d:Nat):pgL (geoN (ns.map (· % 256)) a b c d)=pgL (geoN ns a b c d):=by simp only[geoN,put2_pg,pg_mod]
theorem des_mod (ns:List Nat) (i a b c:Nat):pgL (desP (ns.map (· % 256)) i a b c)=pgL (desP ns i a b c):=by simp only[desP,put2_pg,pg_mod]
theorem geo_len (ns:List Nat) (a b c d:Nat):(geoN ns a b c d).length=ns.length:=by simp only[geoN,put2_len]
theorem des_len (ns:List Nat) (i a b c:Nat):(desP ns i a b c).length=ns.length:=by simp only[desP,put2_len]
noncomputable def xPutGeo:Kn1:=fun args h=>match args with
 | [.g [.int .i64 a,.int .i64 b,.int .i64 c,.int .i64 d],.c (.fn f [some (p,0)] [])]=>geoK a b c d fun a b c d=>(getPg h p).bind fun x=>askB (Nat.beq f 88) (some (.tup [],h.put p (.row 256 [pgL (geoN (unN x) a b c d)] false)))
 | _=>none
noncomputable def xPutDesc:Kn1:=fun args h=>match args with
 | [.c (.int .i64 i),.g [.int .i64 a,.int .i64 b,.int .i64 c],.c (.fn f [some (p,0)] [])]=>(natI i).bind fun i=>(natI a).bind fun a=>(natI b).bind fun b=>(natI c).bind fun c=>(getPg h p).bind fun x=>askB (Nat.beq f 88&&decide (i+6≤256)&&decide (a<65536)&&decide (b<65536)&&decide (c<65536)) (some (.tup [],h.put p (.row 256 [pgL (desP (unN x) i a b c)] false)))
 | _=>none
noncomputable def xGetDesc:Kn1:=fun args h=>match args with
 | [.c (.int .i64 i),.c (.fn f [some (p,0)] [])]=>(natI i).bind fun i=>(getPg h p).bind fun x=>askB (Nat.beq f 113&&decide (i+6≤256)) (some (.w (.g [.int .i64 ((get2N (unN x) i:Nat):Int),.int .i64 ((get2N (unN x) (i+2):Nat):Int),.int .i64 ((get2N (unN x) (i+4):Nat):Int)]),h))
 | _=>none
noncomputable def xOrphaned:Kn1:=fun args h=>match args with
 | [.g [.int .i64 a,.int .i64 b,.int .i64 c,.int .i64 d,.int .u32 z]]=>geoK a b c d fun _ _ _ _=>askB (decide (z=0)) (some (.w (.c (.bool true)),h))
 | _=>none
def mayR (dt ino:Nat):List C→Bool
 | [.int .i64 x,.int .i64 y,.int .i64 z]=>decide (0≤x)&&decide (x≤(dt:Int))&&decide (0≤y)&&decide (y≤(ino:Int))&&decide (0≤z)&&decide (z≤(ino:Int) - y)
 | _=>false
theorem mayR_some {dt ino:Nat} {l:List C} (e:mayR dt ino l=true):∃ x y z:Int,l=[.int .i64 x,.int .i64 y,.int .i64 z]∧0≤x∧x≤(dt:Int)∧0≤y∧y≤(ino:Int)∧0≤z∧z≤(ino:Int) - y:=by
 unfold mayR at e
 split at e
 ·simp only[Bool.and_eq_true,decide_eq_true_eq] at e
  obtain⟨⟨⟨⟨⟨e1,e2⟩,e3⟩,e4⟩,e5⟩,e6⟩:=e
  exact⟨_,_,_,rfl,e1,e2,e3,e4,e5,e6⟩
 ·cases e
noncomputable def xSuMay:Kn1:=fun args h=>match args with
 | [.g [.int .i64 a,.int .i64 b,.int .i64 c,.int .i64 d],.c (.slice n 0 len 3)]=>geoK a b c d fun a b c _=>match h.get n with
  | some (.row s L _)=>askB (Nat.beq s 3&&Nat.beq len a&&Nat.beq L.length a&&L.all (mayR (b - 2 - c / 4) c)) (some (.w (.c (.bool true)),h))
  | _=>none
 | _=>none
attribute [go_sem] xPutGeo xPutDesc xGetDesc xOrphaned xSuMay geo_mod des_mod geo_len des_len mayR
theorem lfDescs (p o l:Nat):lenFits K 77 (.c (.slice p o l 3))=true:=by kernel_rfl
attribute [go_sem] lfDescs
theorem low_pg {b:Nat} (ns:List Nat):LowO b (.row 256 [pgL ns] false):=low_row fun τ _=>by
 show [(pgL ns).map (C.ren τ)]=_
 rw[map_flat (fun a ha=>C.ren_flat ha _) (flat_pg ns)]
section
variable (Hh:Hearts K Tryz.prog)
include Hh
theorem xPutGeo_ok {args:List W} {h h':Go.Ev.H} {v:V} (e:xPutGeo args h=some (v,h')):CallOk K Tryz.prog 89 args h v h':=by
 unfold xPutGeo at e
 split at e
 ·rename_i p
  obtain⟨a,b,c,d,rfl,rfl,rfl,rfl,f,e⟩:=geoK_some e
  obtain⟨g1,g2,g3,g4,g5,g6,g7,g8,g9,g10,g11⟩:=fineB_fine f
  obtain⟨x,hx,e⟩:=bind_of e
  obtain⟨ns,rfl,hl,hp⟩:=getPg_some hx
  obtain⟨b1,e⟩:=askB_some.1 e
  cases e
  obtain rfl:=Nat.eq_of_beq_eq_true b1
  rw[un_pg,geo_mod]
  unfold geoN
  refine CallOk.tidy ⟨Tryz.f89,Tryz.func89,by kernel_rfl,by decide⟩ fun tidy=>?_
  have lp:=tidy _ _ hp
  have pp:=@H.put_put
  obtain⟨v,h',cc,rfl,hk⟩:∃ v h',CallOk K Tryz.prog 89 [.g [.int .i64 (a:Int),.int .i64 (b:Int),.int .i64 (c:Int),.int .i64 (d:Int)],.c (.fn 88 [some (p,0)] [])] h v h'∧v=.tup []∧∀ m,m<h.next→h'.get m=(h.put p (.row 256 [pgL (put2N (put2N (put2N (put2N ns 8 a) 10 b) 12 c) 14 d)] false)).get m:=by
   refine CallOk.goesE fits Hh (by kernel_rfl) (by kernel_rfl) (by kernel_rfl) (show Tryz.f89.body=some _ from rfl) rfl ?_
   repeat (first
    | refine Goes.seq ?_
    | refine Goes.block ?_
    | refine Goes.loop ?_
    | refine Goes.skip ?_
    | refine Goes.exit ?_
    | refine Goes.ret ?_
    | refine Goes.condV (by simp (maxSteps:=9^6) +decide (disch:=first|omega|(simp only[lens]<;>omega)|decide) only [go_sem,readRow,loadIn,simprocAttr,hp,hl,pp,read1,List.map_cons,ptrW,List.cons_append]<;>rfl) ?_
    | refine Goes.ops2 fits Hh (EX_sound E0_sound (fun _ _ _ _=>xPPut_ok Hh)) (by simp (maxSteps:=9^6) +decide (disch:=first|omega|(simp only[lens]<;>omega)|decide) only [go_sem,readRow,loadIn,simprocAttr,hp,hl,pp,read1,List.map_cons,ptrW,List.cons_append]; rfl) ?_)
   exact⟨_,_,(by simp (maxSteps:=9^6) +decide (disch:=first|omega|(simp only[lens]<;>omega)|decide) only [go_sem,readRow,loadIn,simprocAttr]<;>rfl),rfl,fun m hm=>by (first|(simp (discharger:=omega) only [H.get_put,H.get_new,H.get_del,H.next_new,H.next_put,H.next_del,if_neg]; done)|(simp only[H.get_put,H.get_new,H.get_del,H.next_new,H.next_put,H.next_del]; (repeat' split)<;>first|rfl|(exfalso; omega)|omega))⟩
  exact cc.settle ((NearH.refl tidy).put lp (low_pg _)) (LowV.flat rfl) hk
 ·cases e
theorem xPutDesc_ok {args:List W} {h h':Go.Ev.H} {v:V} (e:xPutDesc args h=some (v,h')):CallOk K Tryz.prog 92 args h v h':=by
 unfold xPutDesc at e
 split at e
 ·rename_i p
  obtain⟨i,hi,e⟩:=bind_of e
  obtain⟨a,ha,e⟩:=bind_of e
  obtain⟨b,hb,e⟩:=bind_of e
  obtain⟨c,hc,e⟩:=bind_of e
  obtain⟨x,hx,e⟩:=bind_of e
  obtain⟨ns,rfl,hl,hp⟩:=getPg_some hx
  obtain⟨q,e⟩:=askB_some.1 e
  simp only[Bool.and_eq_true,decide_eq_true_eq] at q
  obtain⟨⟨⟨⟨q1,q2⟩,q3⟩,q4⟩,q5⟩:=q
  cases e
  obtain rfl:=Nat.eq_of_beq_eq_true q1
  rw[natI_some hi,natI_some ha,natI_some hb,natI_some hc,un_pg,des_mod]
  have e2:(i:Int)+2=((i+2:Nat):Int):=rfl
  have e4:(i:Int)+4=((i+4:Nat):Int):=rfl
  unfold desP
  refine CallOk.tidy ⟨Tryz.f92,Tryz.func92,by kernel_rfl,by decide⟩ fun tidy=>?_
  have lp:=tidy _ _ hp
  have pp:=@H.put_put
  obtain⟨v,h',cc,rfl,hk⟩:∃ v h',CallOk K Tryz.prog 92 [.c (.int .i64 (i:Int)),.g [.int .i64 (a:Int),.int .i64 (b:Int),.int .i64 (c:Int)],.c (.fn 88 [some (p,0)] [])] h v h'∧v=.tup []∧∀ m,m<h.next→h'.get m=(h.put p (.row 256 [pgL (put2N (put2N (put2N ns i a) (i+2) b) (i+4) c)] false)).get m:=by
   refine CallOk.goesE fits Hh (by kernel_rfl) (by kernel_rfl) (by kernel_rfl) (show Tryz.f92.body=some _ from rfl) rfl ?_
   repeat (first
    | refine Goes.seq ?_
    | refine Goes.block ?_
    | refine Goes.loop ?_
    | refine Goes.skip ?_
    | refine Goes.exit ?_
    | refine Goes.ret ?_
    | refine Goes.condV (by simp (maxSteps:=9^6) +decide (disch:=first|omega|(simp only[lens]<;>omega)|decide) only [go_sem,readRow,loadIn,simprocAttr,hp,hl,e2,e4,pp,read1,List.map_cons,ptrW,List.cons_append]<;>rfl) ?_
    | refine Goes.ops2 fits Hh (EX_sound E0_sound (fun _ _ _ _=>xPPut_ok Hh)) (by simp (maxSteps:=9^6) +decide (disch:=first|omega|(simp only[lens]<;>omega)|decide) only [go_sem,readRow,loadIn,simprocAttr,hp,hl,e2,e4,pp,read1,List.map_cons,ptrW,List.cons_append]; rfl) ?_)
   exact⟨_,_,(by simp (maxSteps:=9^6) +decide (disch:=first|omega|(simp only[lens]<;>omega)|decide) only [go_sem,readRow,loadIn,simprocAttr]<;>rfl),rfl,fun m hm=>by (first|(simp (discharger:=omega) only [H.get_put,H.get_new,H.get_del,H.next_new,H.next_put,H.next_del,if_neg]; done)|(simp only[H.get_put,H.get_new,H.get_del,H.next_new,H.next_put,H.next_del]; (repeat' split)<;>first|rfl|(exfalso; omega)|omega))⟩
  exact cc.settle ((NearH.refl tidy).put lp (low_pg _)) (LowV.flat rfl) hk
 ·cases e
theorem xGetDesc_ok {args:List W} {h h':Go.Ev.H} {v:V} (e:xGetDesc args h=some (v,h')):CallOk K Tryz.prog 112 args h v h':=by
 unfold xGetDesc at e
 split at e
 ·rename_i p
  obtain⟨i,hi,e⟩:=bind_of e
  obtain⟨x,hx,e⟩:=bind_of e
  obtain⟨ns,rfl,hl,hp⟩:=getPg_some hx
  obtain⟨q,e⟩:=askB_some.1 e
  simp only[Bool.and_eq_true,decide_eq_true_eq] at q
  obtain⟨q1,q2⟩:=q
  cases e
  obtain rfl:=Nat.eq_of_beq_eq_true q1
  rw[natI_some hi]
  simp only[un_pg,get2_mod]
  have e2:(i:Int)+2=((i+2:Nat):Int):=rfl
  have e4:(i:Int)+4=((i+4:Nat):Int):=rfl
  refine CallOk.tidy ⟨Tryz.f112,Tryz.func112,by kernel_rfl,by decide⟩ fun tidy=>?_
  have lp:=tidy _ _ hp
  obtain⟨v,h',cc,rfl,hk⟩:∃ v h',CallOk K Tryz.prog 112 [.c (.int .i64 (i:Int)),.c (.fn 113 [some (p,0)] [])] h v h'∧v=.w (.g [.int .i64 ((get2N ns i:Nat):Int),.int .i64 ((get2N ns (i+2):Nat):Int),.int .i64 ((get2N ns (i+4):Nat):Int)])∧∀ m,m<h.next→h'.get m=h.get m:=by
   refine CallOk.goesE fits Hh (by kernel_rfl) (by kernel_rfl) (by kernel_rfl) (show Tryz.f112.body=some _ from rfl) rfl ?_
   repeat (first
    | refine Goes.seq ?_
    | refine Goes.block ?_
    | refine Goes.loop ?_
    | refine Goes.skip ?_
    | refine Goes.exit ?_
    | refine Goes.ret ?_
    | refine Goes.condV (by simp (maxSteps:=9^6) +decide (disch:=first|omega|(simp only[lens]<;>omega)|decide) only [go_sem,readRow,loadIn,simprocAttr,hp,hl,e2,e4,read1,writeRow,List.map_cons,ptrW,List.cons_append]<;>rfl) ?_
    | refine Goes.ops2 fits Hh (EX_sound E0_sound (fun _ _ _ _=>xPGet_ok Hh)) (by simp (maxSteps:=9^6) +decide (disch:=first|omega|(simp only[lens]<;>omega)|decide) only [go_sem,readRow,loadIn,simprocAttr,hp,hl,e2,e4,read1,writeRow,List.map_cons,ptrW,List.cons_append]; rfl) ?_)
   exact⟨_,_,(by simp (maxSteps:=9^6) +decide (disch:=first|omega|(simp only[lens]<;>omega)|decide) only [go_sem,readRow,loadIn,simprocAttr]<;>rfl),rfl,fun m hm=>by (first|(simp (discharger:=omega) only [H.get_put,H.get_new,H.get_del,H.next_new,H.next_put,H.next_del,if_neg]; done)|(simp only[H.get_put,H.get_new,H.get_del,H.next_new,H.next_put,H.next_del]; (repeat' split)<;>first|rfl|(exfalso; omega)|omega))⟩
  exact cc.quiet rfl hk
 ·cases e
theorem xOrphaned_ok {args:List W} {h h':Go.Ev.H} {v:V} (e:xOrphaned args h=some (v,h')):CallOk K Tryz.prog 86 args h v h':=by
 unfold xOrphaned at e
 split at e
 ·obtain⟨a,b,c,d,rfl,rfl,rfl,rfl,f,e⟩:=geoK_some e
  obtain⟨g1,g2,g3,g4,g5,g6,g7,g8,g9,g10,g11⟩:=fineB_fine f
  obtain⟨q,e⟩:=askB_some.1 e
  cases e
  obtain rfl:=of_decide_eq_true q
  have b1:a * c≤4 * 64:=Nat.mul_le_mul (by omega) (by omega)
  obtain⟨v,h',cc,rfl,hk⟩:∃ v h',CallOk K Tryz.prog 86 [.g [.int .i64 (a:Int),.int .i64 (b:Int),.int .i64 (c:Int),.int .i64 (d:Int),.int .u32 0]] h v h'∧v=.w (.c (.bool true))∧∀ m,m<h.next→h'.get m=h.get m:=by
   refine CallOk.goesE fits Hh (by kernel_rfl) (by kernel_rfl) (by kernel_rfl) (show Tryz.f86.body=some _ from rfl) rfl ?_
   repeat (first
    | refine Goes.seq ?_
    | refine Goes.block ?_
    | refine Goes.loop ?_
    | refine Goes.skip ?_
    | refine Goes.exit ?_
    | refine Goes.ret ?_
    | refine Goes.condV (by simp (maxSteps:=9^6) +decide (disch:=first|omega|(simp only[lens]<;>omega)|decide) only [go_sem,readRow,loadIn,simprocAttr,f,read1,opBox]<;>rfl) ?_
    | refine Goes.ops2 fits Hh (EX_sound E0_sound (fun _ _ _ _=>xgInodes_ok Hh)) (by simp (maxSteps:=9^6) +decide (disch:=first|omega|(simp only[lens]<;>omega)|decide) only [go_sem,readRow,loadIn,simprocAttr,f,read1,opBox]; rfl) ?_
    | refine Goes.drawn2 fits Hh (EX_sound E0_sound (fun _ _ _ _=>xgInodes_ok Hh)) (by kernel_rfl) (by simp (maxSteps:=9^6) +decide (disch:=first|omega|(simp only[lens]<;>omega)|decide) only [go_sem,readRow,loadIn,simprocAttr,op_move,op_assign,op_binOp,op_unOp,op_convert,op_load,op_store,op_indexAddr,op_alloc,op_pick,op_box,op_build,op_buildSlice,op_nilCheck,op_makeSlice,op_fieldAddr,op_field,op_extract,op_lookup,op_mapUpdate,op_builtin,op_index,drEnd,drAll,drOne,drTs,drKd,drPure,drRead,drAlloc,drEff,drSkip,drPut,putT_ok,putT_none,cutT,looks,tmpOf,Op.operands,Call.operands,kd,kdCall,List.filterMap_cons,List.filterMap_nil,List.append_nil,List.nil_append,List.cons_append,stables,stable,reachAt,reachP,waitsAt,waits,gives_self,List.all_cons,List.all_nil,List.any_cons,List.any_nil,Region.binds,Bool.or_true,Bool.true_or,Bool.and_true,Bool.true_and,Bool.or_false,Bool.false_or,Bool.and_self,Bool.or_self,ble_true,Nat.le_refl,Nat.le_add_right,List.map_cons,Array.toList_append,f,read1,opBox]; rfl) ?_)
   exact⟨_,_,(by simp (maxSteps:=9^6) +decide (disch:=first|omega|(simp only[lens]<;>omega)|decide) only [go_sem,readRow,loadIn,simprocAttr]<;>rfl),rfl,fun m hm=>by (first|(simp (discharger:=omega) only [H.get_put,H.get_new,H.get_del,H.next_new,H.next_put,H.next_del,if_neg]; done)|(simp only[H.get_put,H.get_new,H.get_del,H.next_new,H.next_put,H.next_del]; (repeat' split)<;>first|rfl|(exfalso; omega)|omega))⟩
  exact cc.quiet rfl hk
 ·cases e
theorem xSuMay_ok {args:List W} {h h':Go.Ev.H} {v:V} (e:xSuMay args h=some (v,h')):CallOk K Tryz.prog 91 args h v h':=by
 unfold xSuMay at e
 split at e
 ·rename_i n len
  obtain⟨a,b,c,d,rfl,rfl,rfl,rfl,f,e⟩:=geoK_some e
  split at e
  ·rename_i s L ro heq
   obtain⟨q,e⟩:=askB_some.1 e
   cases e
   simp only[Bool.and_eq_true] at q
   obtain⟨⟨⟨q1,q2⟩,q3⟩,q4⟩:=q
   obtain rfl:=Nat.eq_of_beq_eq_true q1
   obtain rfl:=Nat.eq_of_beq_eq_true q2
   have q3:=Nat.eq_of_beq_eq_true q3
   have q4:=List.all_eq_true.1 q4
   have F:=fineB_fine f
   obtain⟨g1,g2,g3,g4,g5,g6,g7,g8,g9,g10,g11⟩:=F
   refine CallOk.tidy ⟨Tryz.f91,Tryz.func91,by kernel_rfl,by decide⟩ fun tidy=>?_
   have l1:=tidy _ _ heq
   obtain⟨v,h',cc,rfl,hk⟩:∃ v h',CallOk K Tryz.prog 91 [.g [.int .i64 (len:Int),.int .i64 (b:Int),.int .i64 (c:Int),.int .i64 (d:Int)],.c (.slice n 0 len 3)] h v h'∧v=.w (.c (.bool true))∧∀ m,m<h.next→h'.get m=h.get m:=by
    rcases L with _|⟨r0,_|⟨r1,_|⟨r2,_|⟨r3,_|⟨r4,L⟩⟩⟩⟩⟩
    ·simp only[List.length_nil] at q3; omega
    rotate_right
    ·simp only[List.length_cons] at q3; omega
    all_goals
     simp only[List.length_cons,List.length_nil] at q3
     subst q3
     obtain⟨x0,y0,z0,rfl,a1,a2,a3,a4,a5,a6⟩:=mayR_some (q4 r0 (by simp))
     try obtain⟨x1,y1,z1,rfl,b1,b2,b3,b4,b5,b6⟩:=mayR_some (q4 r1 (by simp))
     try obtain⟨x2,y2,z2,rfl,c1,c2,c3,c4,c5,c6⟩:=mayR_some (q4 r2 (by simp))
     try obtain⟨x3,y3,z3,rfl,d1,d2,d3,d4,d5,d6⟩:=mayR_some (q4 r3 (by simp))
     refine CallOk.goesE fits Hh (by kernel_rfl) (by kernel_rfl) (by kernel_rfl) (show Tryz.f91.body=some _ from rfl) rfl ?_
     repeat (first
      | refine Goes.seq ?_
      | refine Goes.block ?_
      | refine Goes.loop ?_
      | refine Goes.skip ?_
      | refine Goes.exit ?_
      | refine Goes.ret ?_
      | refine Goes.condV (by simp (maxSteps:=9^6) +decide (disch:=first|omega|(simp only[lens]<;>omega)|decide) only [go_sem,readRow,loadIn,simprocAttr,f,heq,read1,opBox,opBuiltin,opLen]<;>rfl) ?_
      | refine Goes.ops2 fits Hh (EX_sound E0_sound (fun _ _ _ _=>xgData_ok Hh)) (by simp (maxSteps:=9^6) +decide (disch:=first|omega|(simp only[lens]<;>omega)|decide) only [go_sem,readRow,loadIn,simprocAttr,f,heq,read1,opBox,opBuiltin,opLen]; rfl) ?_)
     exact⟨_,_,(by simp (maxSteps:=9^6) +decide (disch:=first|omega|(simp only[lens]<;>omega)|decide) only [go_sem,readRow,loadIn,simprocAttr]<;>rfl),rfl,fun m hm=>by (first|(simp (discharger:=omega) only [H.get_put,H.get_new,H.get_del,H.next_new,H.next_put,H.next_del,if_neg]; done)|(simp only[H.get_put,H.get_new,H.get_del,H.next_new,H.next_put,H.next_del]; (repeat' split)<;>first|rfl|(exfalso; omega)|omega))⟩
   exact cc.quiet rfl hk
  ·cases e
 ·cases e
end
end Go.Proofs.YtlbbmhgdcdcdnaaGreatDoor
set_option maxRecDepth 100000
set_option maxHeartbeats 4000000
namespace Go.Proofs.YtlbbmhgdcdcdnaaGreatDoor
open Go.Ev
def zerN0:List Nat:=List.replicate 256 0
def sealN (ns:List Nat):List Nat:=put4N ns 252 (crcN ns)
abbrev Desc:=Nat × Nat × Nat
def rowD (d:Desc):List C:=[.int .i64 (d.1:Int),.int .i64 (d.2.1:Int),.int .i64 (d.2.2:Int)]
def desN:List Desc→Nat→List Nat→List Nat
 | [],_,x=>x
 | d :: D,i,x=>desN D (i+8) (desP x i d.1 d.2.1 d.2.2)
def getD (ns:List Nat) (i:Nat):Desc:=(get2N ns i,get2N ns (i+2),get2N ns (i+4))
def tellD (ns:List Nat):Nat→Nat→List Desc
 | 0,_=>[]
 | k+1,i=>getD ns i :: tellD ns k (i+8)
theorem zPg:List.replicate 256 (C.int .u8 0)=pgL zerN0:=by kernel_rfl
theorem zer_len:zerN0.length=256:=by kernel_rfl
theorem rows_flat:∀ D:List Desc,(D.map rowD).all (fun l=>l.all C.flat)=true
 | []=>rfl
 | _ :: D=>rows_flat D
theorem plens:(∀ ns:List Nat,(pgL ns).length=ns.length)∧(∀ (ns:List Nat) (i v:Nat),(put2N ns i v).length=ns.length)∧(∀ (ns:List Nat) (i v:Nat),(put4N ns i v).length=ns.length)∧(∀ (ns:List Nat) (a b c d:Nat),(geoN ns a b c d).length=ns.length)∧(∀ (ns:List Nat) (i a b c:Nat),(desP ns i a b c).length=ns.length):=⟨pg_len,put2_len,put4_len,geo_len,des_len⟩
theorem rdPP {ns:List Nat} (h:ns.length≤256∧256≤ns.length):readRow 256 [pgL ns] 0 256=some (pgL ns):=readRow_full (by rw[pg_len]; omega)
theorem wrP0 {ns:List Nat} {x:List C} (h:(ns.length≤256∧256≤ns.length)∧x.length≤256∧256≤x.length):writeRow 256 [x] 0 (pgL ns)=some [pgL ns]:=writeRow_sz (by rw[pg_len]; omega)
theorem rd4 (a b c d:C):readRow 4 [[a,b,c,d]] 0 4=some [a,b,c,d]:=rfl
theorem rd30 (x y z:C) (L:List (List C)):readRow 3 ([x,y,z] :: L) 0 3=some [x,y,z]:=rfl
theorem rd31 (r0:List C) (x y z:C) (L:List (List C)):readRow 3 (r0 :: [x,y,z] :: L) 3 3=some [x,y,z]:=rfl
theorem rd32 (r0 r1:List C) (x y z:C) (L:List (List C)):readRow 3 (r0 :: r1 :: [x,y,z] :: L) 6 3=some [x,y,z]:=rfl
theorem rd33 (r0 r1 r2:List C) (x y z:C) (L:List (List C)):readRow 3 (r0 :: r1 :: r2 :: [x,y,z] :: L) 9 3=some [x,y,z]:=rfl
theorem wr30 (x y z a b c:C) (L:List (List C)):writeRow 3 ([x,y,z] :: L) 0 [a,b,c]=some ([a,b,c] :: L):=rfl
theorem wr31 (r0:List C) (x y z a b c:C) (L:List (List C)):writeRow 3 (r0 :: [x,y,z] :: L) 3 [a,b,c]=some (r0 :: [a,b,c] :: L):=rfl
theorem wr32 (r0 r1:List C) (x y z a b c:C) (L:List (List C)):writeRow 3 (r0 :: r1 :: [x,y,z] :: L) 6 [a,b,c]=some (r0 :: r1 :: [a,b,c] :: L):=rfl
theorem wr33 (r0 r1 r2:List C) (x y z a b c:C) (L:List (List C)):writeRow 3 (r0 :: r1 :: r2 :: [x,y,z] :: L) 9 [a,b,c]=some (r0 :: r1 :: r2 :: [a,b,c] :: L):=rfl
def supN (a b c d:Nat):List Nat:=sealN (put4N (geoN (put2N (put2N (put4N zerN0 0 827216465) 4 1) 6 256) a b c d) 16 0)
noncomputable def xSuW:Kn1:=fun args h=>match args with
 | [.g [.int .i64 a,.int .i64 b,.int .i64 c,.int .i64 d,.int .u32 z]]=>geoK a b c d fun a b c d=>askB (decide (z=0)&&isSteps (h.get 0)) (some (.tup [.g (pgL (supN a b c d)),.c (.int .i64 0)],h))
 | _=>none
attribute [go_sem] xSuW
theorem supN_len (a b c d:Nat):(supN a b c d).length=256:=by
 have zl:=zer_len
 simp only[supN,sealN,put4_len,geo_len,put2_len,zl]
section
variable (Hh:Hearts K Tryz.prog)
include Hh
theorem xSuW_ok {args:List W} {h h':Go.Ev.H} {v:V} (e:xSuW args h=some (v,h')):CallOk K Tryz.prog 49 args h v h':=by
 unfold xSuW at e
 split at e
 ·rename_i z
  obtain⟨a,b,c,d,rfl,rfl,rfl,rfl,f,e⟩:=geoK_some e
  obtain⟨q,e⟩:=askB_some.1 e
  cases e
  rw[Bool.and_eq_true] at q
  obtain rfl:=of_decide_eq_true q.1
  have hst:=isSteps_eq q.2
  unfold supN
  obtain⟨g1,g2,g3,g4,g5,g6,g7,g8,g9,g10,g11⟩:=fineB_fine f
  obtain⟨Z,hZ⟩:∃ Z,zerN0=Z:=⟨_,rfl⟩
  have z0:=zPg
  have zl:=zer_len
  rw[hZ] at z0 zl ⊢
  have r5:readRow 5 [[.int .i64 (a:Int),.int .i64 (b:Int),.int .i64 (c:Int),.int .i64 (d:Int),.int .u32 0]] 0 4=some [.int .i64 (a:Int),.int .i64 (b:Int),.int .i64 (c:Int),.int .i64 (d:Int)]:=rfl
  refine CallOk.tidy ⟨Tryz.f49,Tryz.func49,by kernel_rfl,by decide⟩ fun tidy=>?_
  have l0:=tidy _ _ hst
  obtain⟨v,h',cc,ns,rfl,hl,hk⟩:∃ v h',CallOk K Tryz.prog 49 [.g [.int .i64 (a:Int),.int .i64 (b:Int),.int .i64 (c:Int),.int .i64 (d:Int),.int .u32 0]] h v h'∧∃ ns,v=.tup [.g (pgL ns),.c (.int .i64 0)]∧ns=sealN (put4N (geoN (put2N (put2N (put4N Z 0 827216465) 4 1) 6 256) a b c d) 16 0)∧∀ m,m<h.next→h'.get m=h.get m:=by
   refine CallOk.goesE fits Hh (by kernel_rfl) (by kernel_rfl) (by kernel_rfl) (show Tryz.f49.body=some _ from rfl) rfl ?_
   repeat (first
    | refine Goes.seq ?_
    | refine Goes.block ?_
    | refine Goes.loop ?_
    | refine Goes.skip ?_
    | refine Goes.exit ?_
    | refine Goes.ret ?_
    | refine Goes.condV (by simp (maxSteps:=9^6) +decide (disch:=first|omega|(simp only[lens,plens]<;>omega)|decide) only [go_sem,loadIn,simprocAttr,f,hst,z0,zl,r5,rdPP,wrP0,read1,opBox]<;>rfl) ?_
    | refine Goes.ops2 fits Hh (EX_sound (EX_sound (EX_sound (EX_sound (EX_sound (EX_sound E0_sound (fun _ _ _ _=>xgMay_ok Hh)) (fun _ _ _ _=>xOrphaned_ok Hh)) (fun _ _ _ _=>xPPut4_ok Hh)) (fun _ _ _ _=>xPPut_ok Hh)) (fun _ _ _ _=>xPutGeo_ok Hh)) (fun _ _ _ _=>xPSeal_ok Hh)) (by simp (maxSteps:=9^6) +decide (disch:=first|omega|(simp only[lens,plens]<;>omega)|decide) only [go_sem,loadIn,simprocAttr,f,hst,z0,zl,r5,rdPP,wrP0,read1,opBox]; rfl) ?_)
   exact⟨_,_,(by simp (maxSteps:=9^6) +decide (disch:=first|omega|(simp only[lens,plens]<;>omega)|decide) only [go_sem,loadIn,simprocAttr,zl,rdPP]<;>rfl),_,rfl,(by simp only[sealN]),fun m hm=>by (first|(simp (discharger:=omega) only [H.get_put,H.get_new,H.get_del,H.next_new,H.next_put,H.next_del,if_neg]; done)|(simp only[H.get_put,H.get_new,H.get_del,H.next_new,H.next_put,H.next_del]; (repeat' split)<;>first|rfl|(exfalso; omega)|omega))⟩
  rw[←hl]
  exact cc.quiet (by simp only[V.flat,W.flat,List.all_cons,flat_pg]; rfl) hk
 ·cases e
end
end Go.Proofs.YtlbbmhgdcdcdnaaGreatDoor
