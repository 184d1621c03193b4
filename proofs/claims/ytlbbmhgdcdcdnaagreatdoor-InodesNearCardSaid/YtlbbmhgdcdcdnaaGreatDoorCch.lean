/- The cache's functions: New, made, askB, Read, Write. -/
import Derived.Test.YtlbbmhgdcdcdnaaGreatDoorDsk
set_option linter.unusedSimpArgs false
set_option linter.unusedVariables false
set_option linter.unusedSectionVars false
set_option maxRecDepth 100000
set_option maxHeartbeats 4000000
namespace Go.Proofs.YtlbbmhgdcdcdnaaGreatDoor
open Go.Ev
theorem ty67:K.types.get 67=some ti67:=by kernel_rfl
theorem sz67:ti67.size=1:=by rfl
theorem ag67:ti67.agg=false:=by rfl
theorem de67:ti67.desc=(.pointer 165):=by rfl
theorem ze67:ti67.zero=(.c (.pnil)):=by rfl
theorem by67:ti67.bytes=8:=by rfl
theorem ty128:K.types.get 128=some ti128:=by kernel_rfl
theorem sz128:ti128.size=1:=by rfl
theorem ag128:ti128.agg=false:=by rfl
theorem de128:ti128.desc=(.map 3 180):=by rfl
theorem ze128:ti128.zero=(.c (.mnil)):=by rfl
theorem by128:ti128.bytes=8:=by rfl
theorem mp128:mapTI K 128=some (3,180):=by kernel_rfl
theorem ty163:K.types.get 163=some ti163:=by kernel_rfl
theorem sz163:ti163.size=1:=by rfl
theorem ag163:ti163.agg=false:=by rfl
theorem de163:ti163.desc=(.map 3 237):=by rfl
theorem ze163:ti163.zero=(.c (.mnil)):=by rfl
theorem by163:ti163.bytes=8:=by rfl
theorem mp163:mapTI K 163=some (3,237):=by kernel_rfl
theorem ty165:K.types.get 165=some ti165:=by kernel_rfl
theorem sz165:ti165.size=3:=by rfl
theorem ag165:ti165.agg=true:=by rfl
theorem fo165_0:fieldOf K 165 0=some (0,ti53):=by kernel_rfl
theorem fo165_1:fieldOf K 165 1=some (1,ti163):=by kernel_rfl
theorem fo165_2:fieldOf K 165 2=some (2,ti128):=by kernel_rfl
theorem bu165 (ps:List (Nat × W)):opBuild K 165 (some ps)=gW (fillStruct K 165 ps ti165.zero.cells):=by kernel_rfl
theorem ze165:ti165.zero=(.g ([.pnil,.mnil,.mnil])):=by rfl
theorem by165:ti165.bytes=24:=by rfl
theorem ty180:K.types.get 180=some ti180:=by kernel_rfl
theorem sz180:ti180.size=0:=by rfl
theorem ag180:ti180.agg=true:=by rfl
theorem bu180 (ps:List (Nat × W)):opBuild K 180 (some ps)=gW (fillStruct K 180 ps ti180.zero.cells):=by kernel_rfl
theorem ze180:ti180.zero=(.g ([])):=by rfl
theorem by180:ti180.bytes=0:=by rfl
theorem ty237:K.types.get 237=some ti237:=by kernel_rfl
theorem sz237:ti237.size=257:=by rfl
theorem ag237:ti237.agg=true:=by rfl
theorem fo237_0:fieldOf K 237 0=some (0,ti85):=by kernel_rfl
theorem fo237_1:fieldOf K 237 1=some (256,ti4):=by kernel_rfl
theorem ze237:ti237.zero=(.g (List.replicate 256 (.int .u8 0)++List.replicate 1 (.bool false))):=by rfl
theorem by237:ti237.bytes=257:=by rfl
attribute [go_sem] ty67 sz67 ag67 de67 ze67 by67 ty128 sz128 ag128 de128 ze128 by128 mp128 ty163 sz163 ag163 de163 ze163 by163 mp163 ty165 sz165 ag165 fo165_0 fo165_1 fo165_2 bu165 ze165 by165 ty180 sz180 ag180 bu180 ze180 by180 ty237 sz237 ag237 fo237_0 fo237_1 ze237 by237
theorem rs180:Tryz.f180.results.toList=[.tmp 2]:=rfl
theorem rs151:Tryz.f151.results.toList=[.tmp 4]:=rfl
theorem rs118:Tryz.f118.results.toList=[.cell 4 85,.tmp 5]:=rfl
theorem rs203:Tryz.f203.results.toList=[.tmp 6]:=rfl
attribute [go_sem] rs180 rs151 rs118 rs203
structure Ck where
 d:Nat
 m:Nat
 pn:Nat
def ckL (X:Ck):List C:=[.ptr X.d 0,.map X.m,.map X.pn]
attribute [go_sem] ckL
noncomputable def getCk (h:Go.Ev.H) (c:Nat):Option Ck:=match h.get c with
 | some (.row sz [[.ptr d o,.map m,.map pn]] ro)=>askB (Nat.beq sz 3&&Nat.beq o 0&&!ro) (some ⟨d,m,pn⟩)
 | _=>none
theorem getCk_some {h:Go.Ev.H} {c:Nat} {X:Ck} (e:getCk h c=some X):h.get c=some (.row 3 [ckL X] false):=by
 unfold getCk at e
 split at e
 ·rename_i heq
  obtain⟨b,e⟩:=askB_some.1 e
  cases e
  simp only[Bool.and_eq_true,Bool.not_eq_true'] at b
  obtain⟨⟨b1,b2⟩,rfl⟩:=b
  obtain rfl:=Nat.eq_of_beq_eq_true b1
  obtain rfl:=Nat.eq_of_beq_eq_true b2
  exact heq
 ·cases e
noncomputable def xCMade:Kn1:=fun args h=>match args with
 | [.c (.ptr c 0)]=>(getCk h c).bind fun _=>some (.w (.c (.bool true)),h)
 | _=>none
noncomputable def xCAsk:Kn1:=fun args h=>match args with
 | [.c (.ptr c 0),.c (.int .i64 z)]=>(getCk h c).bind fun X=>(getDk h X.d).bind fun D=>askB (decide (0≤z)&&decide (z<(D.n:Int))) (some (.w (.c (.int .i64 0)),h))
 | _=>none
noncomputable def xCRead:Kn1:=fun args h=>match args with
 | [.c (.ptr c 0),.c (.int .i64 z)]=>(getCk h c).bind fun X=>(getDk h X.d).bind fun D=>askB (decide (0≤z)&&decide (z<(D.n:Int))) ((getM h X.m).bind fun l=>match lookE z l with
  | some y=>askB (Nat.beq y.length 257&&y.all C.flat) (some (.tup [.g (y.take 256),.c (.int .i64 0)],h))
  | none=>askB (flatE l) ((getB h D.q z.toNat).bind fun x=>some (.tup [.g x,.c (.int .i64 0)],h.put X.m (.map (ents (updE z (x++[.bool false]) l))))))
 | _=>none
noncomputable def xCWrite:Kn1:=fun args h=>match args with
 | [.c (.ptr c 0),.c (.int .i64 z),.g x]=>(getCk h c).bind fun X=>(getDk h X.d).bind fun D=>askB (decide (0≤z)&&decide (z<(D.n:Int))) ((getM h X.m).bind fun l=>askB (Nat.beq x.length 256&&x.all C.flat&&flatE l) (some (.w (.c (.int .i64 0)),h.put X.m (.map (ents (updE z (x++[.bool true]) l))))))
 | _=>none
attribute [go_sem] getCk xCMade xCAsk xCRead xCWrite
theorem bHeld {x:List C} {b:Bool} (h:x.length≤256∧256≤x.length):opBuild K 237 (some [(0,.g x),(1,.c (.bool b))])=some (.g (x++[.bool b])):=by
 have z:(ti237.zero).cells.drop 256=[.bool false]:=by kernel_rfl
 have zl:(ti237.zero).cells.length=257:=by kernel_rfl
 have bu:∀ ps,opBuild K 237 (some ps)=gW (fillStruct K 237 ps (ti237.zero).cells):=fun ps=>by kernel_rfl
 rw[bu]
 simp only[fillStruct,fo237_0,fo237_1]
 rw[show ti85.size=256 from rfl,fill_pre ⟨h.1,h.2,by omega⟩,z]
 simp only
 rw[show ti4.size=1 from rfl,fill_last ⟨h.1,h.2,by simp,by simp⟩]
 rfl
theorem bHeld0 {x:List C} (h:x.length≤256∧256≤x.length):opBuild K 237 (some [(0,.g x)])=some (.g (x++[.bool false])):=by
 have z:(ti237.zero).cells.drop 256=[.bool false]:=by kernel_rfl
 have zl:(ti237.zero).cells.length=257:=by kernel_rfl
 have bu:∀ ps,opBuild K 237 (some ps)=gW (fillStruct K 237 ps (ti237.zero).cells):=fun ps=>by kernel_rfl
 rw[bu]
 simp only[fillStruct,fo237_0]
 rw[show ti85.size=256 from rfl,fill_pre ⟨h.1,h.2,by omega⟩,z]
 rfl
attribute [go_sem] bHeld bHeld0
section
variable (Hh:Hearts K Tryz.prog)
include Hh
theorem xCMade_ok {args:List W} {h h':Go.Ev.H} {v:V} (e:xCMade args h=some (v,h')):CallOk K Tryz.prog 180 args h v h':=by
 unfold xCMade at e
 split at e
 ·rename_i c
  obtain⟨X,hc,e⟩:=bind_of e
  have hc:=getCk_some hc
  cases e
  refine CallOk.goes fits Hh (by kernel_rfl) (by kernel_rfl) (by kernel_rfl) (show Tryz.f180.body=some _ from rfl) rfl ?_
  repeat (first
   | refine Goes.seq ?_
   | refine Goes.block ?_
   | refine Goes.loop ?_
   | refine Goes.skip ?_
   | refine Goes.exit ?_
   | refine Goes.ret ?_
   | refine Goes.condV (by simp (maxSteps:=9^6) +decide (disch:=first|omega|(simp only[lens]<;>omega)|decide) only [go_sem,readRow,loadIn,simprocAttr,hc,read1]<;>rfl) ?_
   | refine Goes.ops2 fits Hh E0_sound (by simp (maxSteps:=9^6) +decide (disch:=first|omega|(simp only[lens]<;>omega)|decide) only [go_sem,readRow,loadIn,simprocAttr,hc,read1]; rfl) ?_)
  simp (maxSteps:=9^6) +decide (disch:=first|omega|(simp only[lens]<;>omega)|decide) only [go_sem,readRow,loadIn,simprocAttr]<;>rfl
 ·cases e
theorem xCAsk_ok {args:List W} {h h':Go.Ev.H} {v:V} (e:xCAsk args h=some (v,h')):CallOk K Tryz.prog 151 args h v h':=by
 unfold xCAsk at e
 split at e
 ·rename_i c z
  obtain⟨X,hc,e⟩:=bind_of e
  have hc:=getCk_some hc
  obtain⟨D,hd,e⟩:=bind_of e
  obtain⟨hd,n0,n1⟩:=getDk_some hd
  obtain⟨b,e⟩:=askB_some.1 e
  simp only[Bool.and_eq_true,decide_eq_true_eq] at b
  obtain⟨z0,z1⟩:=b
  cases e
  refine CallOk.goes fits Hh (by kernel_rfl) (by kernel_rfl) (by kernel_rfl) (show Tryz.f151.body=some _ from rfl) rfl ?_
  repeat (first
   | refine Goes.seq ?_
   | refine Goes.block ?_
   | refine Goes.loop ?_
   | refine Goes.skip ?_
   | refine Goes.exit ?_
   | refine Goes.ret ?_
   | refine Goes.condV (by simp (maxSteps:=9^6) +decide (disch:=first|omega|(simp only[lens]<;>omega)|decide) only [go_sem,readRow,loadIn,simprocAttr,hc,hd,read1]<;>rfl) ?_
   | refine Goes.ops2 fits Hh (EX_sound (EX_sound E0_sound (fun _ _ _ _=>xCMade_ok Hh)) (fun _ _ _ _=>xDBlocks_ok Hh)) (by simp (maxSteps:=9^6) +decide (disch:=first|omega|(simp only[lens]<;>omega)|decide) only [go_sem,readRow,loadIn,simprocAttr,hc,hd,read1]; rfl) ?_)
  simp (maxSteps:=9^6) +decide (disch:=first|omega|(simp only[lens]<;>omega)|decide) only [go_sem,readRow,loadIn,simprocAttr]<;>rfl
 ·cases e
theorem xCRead_ok {args:List W} {h h':Go.Ev.H} {v:V} (e:xCRead args h=some (v,h')):CallOk K Tryz.prog 118 args h v h':=by
 unfold xCRead at e
 split at e
 ·rename_i c z
  obtain⟨X,hc,e⟩:=bind_of e
  have hc:=getCk_some hc
  obtain⟨D,hd,e⟩:=bind_of e
  obtain⟨hd,n0,n1⟩:=getDk_some hd
  obtain⟨b,e⟩:=askB_some.1 e
  simp only[Bool.and_eq_true,decide_eq_true_eq] at b
  obtain⟨z0,z1⟩:=b
  obtain⟨l,hm,e⟩:=bind_of e
  have hm:=getM_some hm
  refine CallOk.tidy ⟨Tryz.f118,Tryz.func118,by kernel_rfl,by decide⟩ fun tidy=>?_
  have lc:=tidy _ _ hc
  have ld:=tidy _ _ hd
  have lm:=tidy _ _ hm
  split at e
  ·rename_i y hl
   obtain⟨b,e⟩:=askB_some.1 e
   rw[Bool.and_eq_true] at b
   have yl:=Nat.eq_of_beq_eq_true b.1
   have yf:=b.2
   cases e
   have rr:readRow 257 [y] 0 256=some (y.take 256):=readRow_pre (by omega)
   have tl:(y.take 256).length=256:=by rw[List.length_take]; omega
   obtain⟨v,h',c,rfl,hk⟩:∃ v h',CallOk K Tryz.prog 118 [.c (.ptr c 0),.c (.int .i64 z)] h v h'∧v=.tup [.g (y.take 256),.c (.int .i64 0)]∧∀ m,m<h.next→h'.get m=h.get m:=by
    refine CallOk.goesE fits Hh (by kernel_rfl) (by kernel_rfl) (by kernel_rfl) (show Tryz.f118.body=some _ from rfl) rfl ?_
    repeat (first
     | refine Goes.seq ?_
     | refine Goes.block ?_
     | refine Goes.loop ?_
     | refine Goes.skip ?_
     | refine Goes.exit ?_
     | refine Goes.ret ?_
     | refine Goes.condV (by simp (maxSteps:=9^6) +decide (disch:=first|omega|(simp only[lens]<;>omega)|decide) only [go_sem,loadIn,simprocAttr,hc,hd,hm,hl,rr,read1]<;>rfl) ?_
     | refine Goes.ops2 fits Hh (EX_sound (EX_sound E0_sound (fun _ _ _ _=>xCAsk_ok Hh)) (fun _ _ _ _=>xDRead_ok Hh)) (by simp (maxSteps:=9^6) +decide (disch:=first|omega|(simp only[lens]<;>omega)|decide) only [go_sem,loadIn,simprocAttr,hc,hd,hm,hl,rr,read1]; rfl) ?_
     | refine Goes.drawn2 fits Hh (EX_sound (EX_sound E0_sound (fun _ _ _ _=>xCAsk_ok Hh)) (fun _ _ _ _=>xDRead_ok Hh)) (by kernel_rfl) (by simp (maxSteps:=9^6) +decide (disch:=first|omega|(simp only[lens]<;>omega)|decide) only [go_sem,loadIn,simprocAttr,op_move,op_assign,op_binOp,op_unOp,op_convert,op_load,op_store,op_indexAddr,op_alloc,op_pick,op_box,op_build,op_buildSlice,op_nilCheck,op_makeSlice,op_fieldAddr,op_field,op_extract,op_lookup,op_mapUpdate,op_builtin,op_index,drEnd,drAll,drOne,drTs,drKd,drPure,drRead,drAlloc,drEff,drSkip,drPut,putT_ok,putT_none,cutT,looks,tmpOf,Op.operands,Call.operands,kd,kdCall,List.filterMap_cons,List.filterMap_nil,List.append_nil,List.nil_append,List.cons_append,stables,stable,reachAt,reachP,waitsAt,waits,gives_self,List.all_cons,List.all_nil,List.any_cons,List.any_nil,Region.binds,Bool.or_true,Bool.true_or,Bool.and_true,Bool.true_and,Bool.or_false,Bool.false_or,Bool.and_self,Bool.or_self,ble_true,Nat.le_refl,Nat.le_add_right,List.map_cons,Array.toList_append,hc,hd,hm,hl,rr,read1]; rfl) ?_)
    exact⟨_,_,(by simp (maxSteps:=9^6) +decide (disch:=first|omega|(simp only[lens]<;>omega)|decide) only [go_sem,loadIn,simprocAttr,hc,hd,hm,hl,rr]<;>rfl),rfl,fun m hm=>by (first|(simp (discharger:=omega) only [H.get_put,H.get_new,H.get_del,H.next_new,H.next_put,H.next_del,if_neg]; done)|(simp only[H.get_put,H.get_new,H.get_del,H.next_new,H.next_put,H.next_del]; (repeat' split)<;>first|rfl|(exfalso; omega)|omega))⟩
   refine c.quiet ?_ hk
   show ((y.take 256).all C.flat&&true)=true
   rw[Bool.and_true,List.all_eq_true]
   exact fun x hx=>List.all_eq_true.1 yf x (List.mem_of_mem_take hx)
  ·rename_i hl
   obtain⟨fl,e⟩:=askB_some.1 e
   obtain⟨x,hx,e⟩:=bind_of e
   obtain⟨b,rfl⟩:=Int.eq_ofNat_of_zero_le z0
   rw[Int.toNat_natCast] at hx
   obtain⟨L,ro,hq,hL,xl,xf⟩:=getB_some hx
   have lq:=tidy _ _ hq
   cases e
   obtain⟨v,h',c,rfl,hk⟩:∃ v h',CallOk K Tryz.prog 118 [.c (.ptr c 0),.c (.int .i64 (b:Int))] h v h'∧v=.tup [.g x,.c (.int .i64 0)]∧∀ m,m<h.next→h'.get m=(h.put X.m (.map (ents (updE (b:Int) (x++[.bool false]) l)))).get m:=by
    refine CallOk.goesE fits Hh (by kernel_rfl) (by kernel_rfl) (by kernel_rfl) (show Tryz.f118.body=some _ from rfl) rfl ?_
    repeat (first
     | refine Goes.seq ?_
     | refine Goes.block ?_
     | refine Goes.loop ?_
     | refine Goes.skip ?_
     | refine Goes.exit ?_
     | refine Goes.ret ?_
     | refine Goes.condV (by simp (maxSteps:=9^6) +decide (disch:=first|omega|(simp only[lens]<;>omega)|decide) only [go_sem,loadIn,simprocAttr,hc,hd,hm,hl,hq,hL,xl,xf,read1]<;>rfl) ?_
     | refine Goes.ops2 fits Hh (EX_sound (EX_sound E0_sound (fun _ _ _ _=>xCAsk_ok Hh)) (fun _ _ _ _=>xDRead_ok Hh)) (by simp (maxSteps:=9^6) +decide (disch:=first|omega|(simp only[lens]<;>omega)|decide) only [go_sem,loadIn,simprocAttr,hc,hd,hm,hl,hq,hL,xl,xf,read1]; rfl) ?_
     | refine Goes.drawn2 fits Hh (EX_sound (EX_sound E0_sound (fun _ _ _ _=>xCAsk_ok Hh)) (fun _ _ _ _=>xDRead_ok Hh)) (by kernel_rfl) (by simp (maxSteps:=9^6) +decide (disch:=first|omega|(simp only[lens]<;>omega)|decide) only [go_sem,loadIn,simprocAttr,op_move,op_assign,op_binOp,op_unOp,op_convert,op_load,op_store,op_indexAddr,op_alloc,op_pick,op_box,op_build,op_buildSlice,op_nilCheck,op_makeSlice,op_fieldAddr,op_field,op_extract,op_lookup,op_mapUpdate,op_builtin,op_index,drEnd,drAll,drOne,drTs,drKd,drPure,drRead,drAlloc,drEff,drSkip,drPut,putT_ok,putT_none,cutT,looks,tmpOf,Op.operands,Call.operands,kd,kdCall,List.filterMap_cons,List.filterMap_nil,List.append_nil,List.nil_append,List.cons_append,stables,stable,reachAt,reachP,waitsAt,waits,gives_self,List.all_cons,List.all_nil,List.any_cons,List.any_nil,Region.binds,Bool.or_true,Bool.true_or,Bool.and_true,Bool.true_and,Bool.or_false,Bool.false_or,Bool.and_self,Bool.or_self,ble_true,Nat.le_refl,Nat.le_add_right,List.map_cons,Array.toList_append,hc,hd,hm,hl,hq,hL,xl,xf,read1]; rfl) ?_)
    exact⟨_,_,(by simp (maxSteps:=9^6) +decide (disch:=first|omega|(simp only[lens]<;>omega)|decide) only [go_sem,loadIn,simprocAttr,hc,hd,hm,hl,hq,hL,xl]<;>rfl),rfl,fun m hm=>by (first|(simp (discharger:=omega) only [H.get_put,H.get_new,H.get_del,H.next_new,H.next_put,H.next_del,if_neg]; done)|(simp only[H.get_put,H.get_new,H.get_del,H.next_new,H.next_put,H.next_del]; (repeat' split)<;>first|rfl|(exfalso; omega)|omega))⟩
   refine c.settle ((NearH.refl tidy).put lm (low_map (flat_upd ?_ fl))) (LowV.flat ?_) hk
   ·rw[List.all_append,xf]; rfl
   ·show (x.all C.flat&&true)=true; rw[xf]; rfl
 ·cases e
end
end Go.Proofs.YtlbbmhgdcdcdnaaGreatDoor
