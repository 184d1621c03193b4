/- What Begin asks: revoked and changed blocks, if there are none; need. -/
import Derived.Test.YtlbbmhgdcdcdnaaGreatDoorSto
import Derived.Test.YtlbbmhgdcdcdnaaGreatDoorNew
set_option linter.unusedSimpArgs false
set_option linter.unusedVariables false
set_option linter.unusedSectionVars false
set_option maxRecDepth 100000
set_option maxHeartbeats 4000000
namespace Go.Proofs.YtlbbmhgdcdcdnaaGreatDoor
open Go.Ev
theorem rs101:Tryz.f101.results.toList=[.tmp 4]:=rfl
theorem rs65:Tryz.f65.results.toList=[.tmp 2]:=rfl
theorem rs66:Tryz.f66.results.toList=[.tmp 2]:=rfl
theorem rs131:Tryz.f131.results.toList=[.tmp 2]:=rfl
theorem rs102:Tryz.f102.results.toList=[.tmp 2]:=rfl
theorem rs23:Tryz.f23.results.toList=[.tmp 6,.tmp 7]:=rfl
attribute [go_sem] rs101 rs65 rs66 rs131 rs102 rs23
noncomputable def xSort0:Kn1:=fun args h=>match args with
 | [.c .snil]=>some (.tup [],h)
 | _=>none
noncomputable def xROf:Kn1:=fun args h=>match args with
 | [.c (.ptr r 0),.c (.int .u32 _)]=>(getRv h r).bind fun m=>askB (voidM h m) (some (.w (.c .snil),h))
 | _=>none
noncomputable def xTRevoked:Kn1:=fun args h=>match args with
 | [.c (.ptr t 0)]=>(getTx h t).bind fun X=>(getRv h X.rv).bind fun m=>askB (voidM h m) (some (.w (.c .snil),h))
 | _=>none
noncomputable def xTChanged:Kn1:=fun args h=>match args with
 | [.c (.ptr t 0)]=>(getTx h t).bind fun X=>askB (voidM h X.ch) (some (.w (.c .snil),h))
 | _=>none
noncomputable def xKeysB:Kn1:=fun args h=>match args with
 | [.c (.map m)]=>some (.w (.c (.fn 161 [] [some (h.next,0)])),h.new (.row 1 [[.map m]] false))
 | _=>none
noncomputable def xSorted:Kn1:=fun args h=>match args with
 | [.c (.fn g [] [some (a,0)])]=>askB (K.keys.contains g) (match h.get a with
  | some (.row sz [[.map n]] _)=>askB (Nat.beq sz 1) ((getM h n).bind fun l=>match sortedKeys (ents l) with
   | some []=>some (.w (.c .snil),h)
   | some (k :: ks)=>askB (Nat.ble (k :: ks).length 1000000) (some (.w (.c (.slice h.next 0 (k :: ks).length 1)),h.new (.row 1 ((k :: ks).map fun i=>[.int .i64 i]) false)))
   | none=>none)
  | _=>none)
 | _=>none
noncomputable def xRisB:Kn1:=fun args h=>match args with
 | [.c (.map m)]=>askB (voidM h m) (some (.w (.c .snil),h))
 | _=>none
def sizeI (a:Int):Option Int:=bif decide (a=33) then some 36 else bif decide (a=3) then some 5 else bif decide (a=9) then some 11 else none
theorem sizeI_some {a n:Int} (e:sizeI a=some n):(a=33∧n=36)∨(a=3∧n=5)∨(a=9∧n=11):=by
 unfold sizeI at e
 by_cases h1:a=33
 ·subst h1; cases e; exact .inl ⟨rfl,rfl⟩
 ·by_cases h2:a=3
  ·subst h2; cases e; exact .inr (.inl ⟨rfl,rfl⟩)
  ·by_cases h3:a=9
   ·subst h3; cases e; exact .inr (.inr ⟨rfl,rfl⟩)
   ·rw[decide_eq_false h1,decide_eq_false h2,decide_eq_false h3] at e; cases e
noncomputable def xSize:Kn1:=fun args h=>match args with
 | [.c (.int .i64 a),.c (.int .i64 b)]=>(sizeI a).bind fun n=>askB (decide (b=0)) (some (.w (.c (.int .i64 n)),h))
 | _=>none
noncomputable def xNeed:Kn1:=fun args h=>match args with
 | [.c (.ptr s 0),.c (.int .i64 a),.c (.int .i64 b)]=>(getSt h s).bind fun S=>(getTx h S.tx).bind fun X=>(getRv h X.rv).bind fun m=>(sizeI a).bind fun n=>askB (voidM h m&&voidM h X.ch&&decide (b=0)) (some (.tup [.c (.int .i64 n),.c (.int .i64 0)],h))
 | _=>none
noncomputable def xCloneB:Kn1:=fun args h=>match args with
 | [.c (.map m)]=>match h.get m with
  | some (.map es)=>some (.w (.c (.map h.next)),h.new (.map es))
  | _=>none
 | _=>none
noncomputable def xCloneV:Kn1:=fun args h=>match args with
 | [.c (.map m)]=>match h.get m with
  | some (.map es)=>some (.w (.c (.map h.next)),h.new (.map es))
  | _=>none
 | _=>none
attribute [go_sem] xSort0 xROf xTRevoked xTChanged xKeysB xSorted xRisB xSize xNeed xCloneB xCloneV
theorem keysB1:K.keys.contains 161=true:=by kernel_rfl
theorem lfIntsN:lenFits K 63 (.c .snil)=true:=by kernel_rfl
theorem sortK0:sortedKeys (ents [])=some []:=rfl
theorem entsOf0:entsOf []=some []:=rfl
attribute [go_sem] keysB1 lfIntsN sortK0 entsOf0
theorem any_rangeM (E:Task→Option Out) (ts:Tmps) (h:Go.Ev.H) (t:TypeId) (x:Operand):evAny K E ts h (.range t x)=(match mapTI K t with|some _=>opRange h (evalC K ts x)|none=>none):=rfl
theorem any_nextM (E:Task→Option Out) (ts:Tmps) (h:Go.Ev.H) (x:Operand):evAny K E ts h (.next x false)=opNext h (iterOf h (evalC K ts x)):=rfl
attribute [go_sem] any_rangeM any_nextM opRange opNext iterOf
noncomputable def x00:Kn:=fun _ _ _=>none
theorem x00_ok:KnOk K Tryz.prog x00:=fun _ _ _ _ _ e=>by cases e
section
variable (Hh:Hearts K Tryz.prog)
include Hh
theorem xSort0_ok {args:List W} {h h':Go.Ev.H} {v:V} (e:xSort0 args h=some (v,h')):CallOk K Tryz.prog 129 args h v h':=by
 unfold xSort0 at e
 split at e
 ·cases e
  exact CallOk.closed fits Hh x00_ok gl (n:=1000) (by kernel_rfl) rfl rfl h
 ·cases e
theorem xSize_ok {args:List W} {h h':Go.Ev.H} {v:V} (e:xSize args h=some (v,h')):CallOk K Tryz.prog 22 args h v h':=by
 unfold xSize at e
 split at e
 ·obtain⟨n,hn,e⟩:=bind_of e
  obtain⟨b,e⟩:=askB_some.1 e
  obtain rfl:=of_decide_eq_true b
  cases e
  rcases sizeI_some hn with ⟨rfl,rfl⟩|⟨rfl,rfl⟩|⟨rfl,rfl⟩
  all_goals exact CallOk.closed fits Hh x00_ok gl (n:=1000) (by kernel_rfl) rfl rfl h
 ·cases e
theorem stepCall {f:FuncId} {args:List W} {h h':Go.Ev.H} {v:V} (e:evCall K E0 f args h=some (.val v h')):CallOk K Tryz.prog f args h v h':=by
 have T:=step_sound (P:=Tryz.prog) fits Hh E0_sound (draw_ok fits E0_sound)
 exact T.call f args h v h' e
theorem xSorted_ok {args:List W} {h h':Go.Ev.H} {v:V} (e:xSorted args h=some (v,h')):CallOk K Tryz.prog 130 args h v h':=by
 refine stepCall Hh ?_
 have e1:evCall K E0 130 args h=opSorted K h args:=by kernel_rfl
 rw[e1]
 unfold xSorted at e
 split at e
 ·rename_i g a
  obtain⟨b,e⟩:=askB_some.1 e
  split at e
  ·rename_i n ro hg
   obtain⟨b1,e⟩:=askB_some.1 e
   obtain rfl:=Nat.eq_of_beq_eq_true b1
   obtain⟨l,hl,e⟩:=bind_of e
   have hl:=getM_some hl
   have r1:read1 1 [[C.map n]] 0=some (.map n):=rfl
   simp only[opSorted,b,cond_true,hg,r1,sortedOf,hl]
   split at e
   ·rename_i hk
    cases e
    rw[hk]
    rfl
   ·rename_i k ks hk
    obtain⟨b2,e⟩:=askB_some.1 e
    cases e
    rw[hk]
    show (bif Nat.ble (k :: ks).length 1000000 then _ else none)=_
    rw[b2]
    rfl
   ·cases e
  ·cases e
 ·cases e
theorem xCloneB_ok {args:List W} {h h':Go.Ev.H} {v:V} (e:xCloneB args h=some (v,h')):CallOk K Tryz.prog 108 args h v h':=by
 unfold xCloneB at e
 split at e
 ·split at e
  ·rename_i es he
   cases e
   refine stepCall Hh ?_
   have e1:∀ args,evCall K E0 108 args h=opClone h args:=fun args=>by kernel_rfl
   rw[e1]
   simp only[opClone,he]
  ·cases e
 ·cases e
theorem xCloneV_ok {args:List W} {h h':Go.Ev.H} {v:V} (e:xCloneV args h=some (v,h')):CallOk K Tryz.prog 109 args h v h':=by
 unfold xCloneV at e
 split at e
 ·split at e
  ·rename_i es he
   cases e
   refine stepCall Hh ?_
   have e1:∀ args,evCall K E0 109 args h=opClone h args:=fun args=>by kernel_rfl
   rw[e1]
   simp only[opClone,he]
  ·cases e
 ·cases e
theorem xKeysB_ok {args:List W} {h h':Go.Ev.H} {v:V} (e:xKeysB args h=some (v,h')):CallOk K Tryz.prog 131 args h v h':=by
 unfold xKeysB at e
 split at e
 ·cases e
  refine CallOk.goes fits Hh (by kernel_rfl) (by kernel_rfl) (by kernel_rfl) (show Tryz.f131.body=some _ from rfl) rfl ?_
  repeat (first
   | refine Goes.seq ?_
   | refine Goes.block ?_
   | refine Goes.loop ?_
   | refine Goes.skip ?_
   | refine Goes.exit ?_
   | refine Goes.ret ?_
   | refine Goes.condV (by simp (maxSteps:=9^6) +decide (disch:=first|omega|(simp only[lens]<;>omega)|decide) only [go_sem,readRow,loadIn,simprocAttr,opBox]<;>rfl) ?_
   | refine Goes.ops2 fits Hh E0_sound (by simp (maxSteps:=9^6) +decide (disch:=first|omega|(simp only[lens]<;>omega)|decide) only [go_sem,readRow,loadIn,simprocAttr,opBox]; rfl) ?_)
  simp (maxSteps:=9^6) +decide (disch:=first|omega|(simp only[lens]<;>omega)|decide) only [go_sem,readRow,loadIn,simprocAttr]<;>rfl
 ·cases e
theorem xROf_ok {args:List W} {h h':Go.Ev.H} {v:V} (e:xROf args h=some (v,h')):CallOk K Tryz.prog 101 args h v h':=by
 unfold xROf at e
 split at e
 ·rename_i r q
  obtain⟨m,hr,e⟩:=bind_of e
  have hr:=getRv_some hr
  obtain⟨b,e⟩:=askB_some.1 e
  have hm:=voidM_true b
  cases e
  refine CallOk.tidy ⟨Tryz.f101,Tryz.func101,by kernel_rfl,by decide⟩ fun tidy=>?_
  have l1:=tidy _ _ hr
  have l2:=tidy _ _ hm
  obtain⟨v,h',cc,rfl,hk⟩:∃ v h',CallOk K Tryz.prog 101 [.c (.ptr r 0),.c (.int .u32 q)] h v h'∧v=.w (.c .snil)∧∀ j,j<h.next→h'.get j=h.get j:=by
   refine CallOk.goesE fits Hh (by kernel_rfl) (by kernel_rfl) (by kernel_rfl) (show Tryz.f101.body=some _ from rfl) rfl ?_
   repeat (first
    | refine Goes.seq ?_
    | refine Goes.block ?_
    | refine Goes.loop ?_
    | refine Goes.skip ?_
    | refine Goes.exit ?_
    | refine Goes.ret ?_
    | refine Goes.condV (by simp (maxSteps:=9^6) +decide (disch:=first|omega|(simp only[lens]<;>omega)|decide) only [go_sem,readRow,loadIn,simprocAttr,hr,hm,read1,opRange,opNext,iterOf]<;>rfl) ?_
    | refine Goes.ops2 fits Hh (EX_sound (EX_sound E0_sound (fun _ _ _ _=>xRMade_ok Hh)) (fun _ _ _ _=>xSort0_ok Hh)) (by simp (maxSteps:=9^6) +decide (disch:=first|omega|(simp only[lens]<;>omega)|decide) only [go_sem,readRow,loadIn,simprocAttr,hr,hm,read1,opRange,opNext,iterOf]; rfl) ?_)
   exact⟨_,_,(by simp (maxSteps:=9^6) +decide (disch:=first|omega|(simp only[lens]<;>omega)|decide) only [go_sem,readRow,loadIn,simprocAttr]<;>rfl),rfl,fun j hj=>by (first|(simp (discharger:=omega) only [H.get_put,H.get_new,H.get_del,H.next_new,H.next_put,H.next_del,if_neg]; done)|(simp only[H.get_put,H.get_new,H.get_del,H.next_new,H.next_put,H.next_del]; (repeat' split)<;>first|rfl|(exfalso; omega)|omega))⟩
  exact cc.quiet rfl hk
 ·cases e
theorem xTRevoked_ok {args:List W} {h h':Go.Ev.H} {v:V} (e:xTRevoked args h=some (v,h')):CallOk K Tryz.prog 65 args h v h':=by
 unfold xTRevoked at e
 split at e
 ·rename_i t
  obtain⟨X,ht,e⟩:=bind_of e
  have ht:=getTx_some ht
  obtain⟨m,hr,e⟩:=bind_of e
  have hr:=getRv_some hr
  obtain⟨b,e⟩:=askB_some.1 e
  have hm:=voidM_true b
  cases e
  refine CallOk.goes fits Hh (by kernel_rfl) (by kernel_rfl) (by kernel_rfl) (show Tryz.f65.body=some _ from rfl) rfl ?_
  repeat (first
   | refine Goes.seq ?_
   | refine Goes.block ?_
   | refine Goes.loop ?_
   | refine Goes.skip ?_
   | refine Goes.exit ?_
   | refine Goes.ret ?_
   | refine Goes.condV (by simp (maxSteps:=9^6) +decide (disch:=first|omega|(simp only[lens]<;>omega)|decide) only [go_sem,readRow,loadIn,simprocAttr,ht,hr,hm,read1]<;>rfl) ?_
   | refine Goes.ops2 fits Hh (EX_sound (EX_sound E0_sound (fun _ _ _ _=>xTMade_ok Hh)) (fun _ _ _ _=>xROf_ok Hh)) (by simp (maxSteps:=9^6) +decide (disch:=first|omega|(simp only[lens]<;>omega)|decide) only [go_sem,readRow,loadIn,simprocAttr,ht,hr,hm,read1]; rfl) ?_
   | refine Goes.drawn2 fits Hh (EX_sound (EX_sound E0_sound (fun _ _ _ _=>xTMade_ok Hh)) (fun _ _ _ _=>xROf_ok Hh)) (by kernel_rfl) (by simp (maxSteps:=9^6) +decide (disch:=first|omega|(simp only[lens]<;>omega)|decide) only [go_sem,readRow,loadIn,simprocAttr,op_move,op_assign,op_binOp,op_unOp,op_convert,op_load,op_store,op_indexAddr,op_alloc,op_pick,op_box,op_build,op_buildSlice,op_nilCheck,op_makeSlice,op_fieldAddr,op_field,op_extract,op_lookup,op_mapUpdate,op_builtin,op_index,drEnd,drAll,drOne,drTs,drKd,drPure,drRead,drAlloc,drEff,drSkip,drPut,putT_ok,putT_none,cutT,looks,tmpOf,Op.operands,Call.operands,kd,kdCall,List.filterMap_cons,List.filterMap_nil,List.append_nil,List.nil_append,List.cons_append,stables,stable,reachAt,reachP,waitsAt,waits,gives_self,List.all_cons,List.all_nil,List.any_cons,List.any_nil,Region.binds,Bool.or_true,Bool.true_or,Bool.and_true,Bool.true_and,Bool.or_false,Bool.false_or,Bool.and_self,Bool.or_self,ble_true,Nat.le_refl,Nat.le_add_right,List.map_cons,Array.toList_append,ht,hr,hm,read1]; rfl) ?_)
  simp (maxSteps:=9^6) +decide (disch:=first|omega|(simp only[lens]<;>omega)|decide) only [go_sem,readRow,loadIn,simprocAttr]<;>rfl
 ·cases e
theorem xRisB_ok {args:List W} {h h':Go.Ev.H} {v:V} (e:xRisB args h=some (v,h')):CallOk K Tryz.prog 102 args h v h':=by
 unfold xRisB at e
 split at e
 ·rename_i m
  obtain⟨b,e⟩:=askB_some.1 e
  have hm:=voidM_true b
  cases e
  refine CallOk.tidy ⟨Tryz.f102,Tryz.func102,by kernel_rfl,by decide⟩ fun tidy=>?_
  have l2:=tidy _ _ hm
  obtain⟨v,h',cc,rfl,hk⟩:∃ v h',CallOk K Tryz.prog 102 [.c (.map m)] h v h'∧v=.w (.c .snil)∧∀ j,j<h.next→h'.get j=h.get j:=by
   refine CallOk.goesE fits Hh (by kernel_rfl) (by kernel_rfl) (by kernel_rfl) (show Tryz.f102.body=some _ from rfl) rfl ?_
   repeat (first
    | refine Goes.seq ?_
    | refine Goes.block ?_
    | refine Goes.loop ?_
    | refine Goes.skip ?_
    | refine Goes.exit ?_
    | refine Goes.ret ?_
    | refine Goes.condV (by simp (maxSteps:=9^6) +decide (disch:=first|omega|(simp only[lens]<;>omega)|decide) only [go_sem,readRow,loadIn,simprocAttr,hm,read1]<;>rfl) ?_
    | refine Goes.ops2 fits Hh (EX_sound (EX_sound E0_sound (fun _ _ _ _=>xKeysB_ok Hh)) (fun _ _ _ _=>xSorted_ok Hh)) (by simp (maxSteps:=9^6) +decide (disch:=first|omega|(simp only[lens]<;>omega)|decide) only [go_sem,readRow,loadIn,simprocAttr,hm,read1]; rfl) ?_)
   exact⟨_,_,(by simp (maxSteps:=9^6) +decide (disch:=first|omega|(simp only[lens]<;>omega)|decide) only [go_sem,readRow,loadIn,simprocAttr]<;>rfl),rfl,fun j hj=>by (first|(simp (discharger:=omega) only [H.get_put,H.get_new,H.get_del,H.next_new,H.next_put,H.next_del,if_neg]; done)|(simp only[H.get_put,H.get_new,H.get_del,H.next_new,H.next_put,H.next_del]; (repeat' split)<;>first|rfl|(exfalso; omega)|omega))⟩
  exact cc.quiet rfl hk
 ·cases e
theorem xTChanged_ok {args:List W} {h h':Go.Ev.H} {v:V} (e:xTChanged args h=some (v,h')):CallOk K Tryz.prog 66 args h v h':=by
 unfold xTChanged at e
 split at e
 ·rename_i t
  obtain⟨X,ht,e⟩:=bind_of e
  have ht:=getTx_some ht
  obtain⟨b,e⟩:=askB_some.1 e
  have hm:=voidM_true b
  cases e
  refine CallOk.goes fits Hh (by kernel_rfl) (by kernel_rfl) (by kernel_rfl) (show Tryz.f66.body=some _ from rfl) rfl ?_
  repeat (first
   | refine Goes.seq ?_
   | refine Goes.block ?_
   | refine Goes.loop ?_
   | refine Goes.skip ?_
   | refine Goes.exit ?_
   | refine Goes.ret ?_
   | refine Goes.condV (by simp (maxSteps:=9^6) +decide (disch:=first|omega|(simp only[lens]<;>omega)|decide) only [go_sem,readRow,loadIn,simprocAttr,ht,hm,read1]<;>rfl) ?_
   | refine Goes.ops2 fits Hh (EX_sound (EX_sound E0_sound (fun _ _ _ _=>xTMade_ok Hh)) (fun _ _ _ _=>xRisB_ok Hh)) (by simp (maxSteps:=9^6) +decide (disch:=first|omega|(simp only[lens]<;>omega)|decide) only [go_sem,readRow,loadIn,simprocAttr,ht,hm,read1]; rfl) ?_)
  simp (maxSteps:=9^6) +decide (disch:=first|omega|(simp only[lens]<;>omega)|decide) only [go_sem,readRow,loadIn,simprocAttr]<;>rfl
 ·cases e
theorem xNeed_ok {args:List W} {h h':Go.Ev.H} {v:V} (e:xNeed args h=some (v,h')):CallOk K Tryz.prog 23 args h v h':=by
 unfold xNeed at e
 split at e
 ·rename_i s a b
  obtain⟨S,hs,e⟩:=bind_of e
  have hs:=getSt_some hs
  obtain⟨X,ht,e⟩:=bind_of e
  have ht:=getTx_some ht
  obtain⟨m,hr,e⟩:=bind_of e
  have hr:=getRv_some hr
  obtain⟨n,hn,e⟩:=bind_of e
  obtain⟨b,e⟩:=askB_some.1 e
  cases e
  simp only[Bool.and_eq_true,decide_eq_true_eq] at b
  obtain⟨⟨b1,b2⟩,rfl⟩:=b
  have hm:=voidM_true b1
  have hc:=voidM_true b2
  have a0:0≤a∧a≤33:=by rcases sizeI_some hn with ⟨rfl,_⟩|⟨rfl,_⟩|⟨rfl,_⟩<;>omega
  refine CallOk.goes fits Hh (by kernel_rfl) (by kernel_rfl) (by kernel_rfl) (show Tryz.f23.body=some _ from rfl) rfl ?_
  repeat (first
   | refine Goes.seq ?_
   | refine Goes.block ?_
   | refine Goes.loop ?_
   | refine Goes.skip ?_
   | refine Goes.exit ?_
   | refine Goes.ret ?_
   | refine Goes.condV (by simp (maxSteps:=9^6) +decide (disch:=first|omega|(simp only[lens]<;>omega)|decide) only [go_sem,readRow,loadIn,simprocAttr,hs,ht,hr,hm,hc,hn,Int.zero_add,read1,opBuiltin,opLen]<;>rfl) ?_
   | refine Goes.ops2 fits Hh (EX_sound (EX_sound (EX_sound E0_sound (fun _ _ _ _=>xTRevoked_ok Hh)) (fun _ _ _ _=>xTChanged_ok Hh)) (fun _ _ _ _=>xSize_ok Hh)) (by simp (maxSteps:=9^6) +decide (disch:=first|omega|(simp only[lens]<;>omega)|decide) only [go_sem,readRow,loadIn,simprocAttr,hs,ht,hr,hm,hc,hn,Int.zero_add,read1,opBuiltin,opLen]; rfl) ?_)
  simp (maxSteps:=9^6) +decide (disch:=first|omega|(simp only[lens]<;>omega)|decide) only [go_sem,readRow,loadIn,simprocAttr]<;>rfl
 ·cases e
end
end Go.Proofs.YtlbbmhgdcdcdnaaGreatDoor
set_option maxRecDepth 100000
set_option maxHeartbeats 4000000
namespace Go.Proofs.YtlbbmhgdcdcdnaaGreatDoor
open Go.Ev
noncomputable def q7 (p:List Nat):Code:=piece p (bodyOf Tryz.f7)
theorem rs71:Tryz.f71.results.toList=[.cell 4 131]:=rfl
theorem rs26:Tryz.f26.results.toList=[.tmp 6]:=rfl
theorem rs7:Tryz.f7.results.toList=[.tmp 6]:=rfl
attribute [go_sem] rs71 rs26 rs7
noncomputable def cloneM (h:Go.Ev.H):Go.Ev.H:=((((((h.new (.row 4 [[.mnil,.mnil,.mnil,.pnil]] false)).new (.map [])).new (.row 1 [[.map (h.next+1)]] false)).new (.map [])).new (.map [])).new (.map [])).put h.next (.row 4 [[.map (h.next+1+1+1),.map (h.next+1+1+1+1),.map (h.next+1+1+1+1+1),.ptr (h.next+1+1) 0]] false)
noncomputable def xClone:Kn1:=fun args h=>match args with
 | [.c (.ptr t 0),.c (.int .u32 _)]=>(getTx h t).bind fun X=>(getRv h X.rv).bind fun m=>askB (voidM h m&&voidM h X.ch&&voidM h X.od&&voidM h X.fr) (some (.w (.g [.map (h.next+1+1+1),.map (h.next+1+1+1+1),.map (h.next+1+1+1+1+1),.ptr (h.next+1+1) 0]),cloneM h))
 | _=>none
noncomputable def begM (h:Go.Ev.H) (t:Nat) (X:Tx) (c r:Int):Go.Ev.H :=
 (cloneM ((((((h.put t (.row 13 [txL { X with op:=true }] false)).put t (.row 13 [txL { X with op:=true,cr:=c }] false)).put t (.row 13 [txL { X with op:=true,cr:=c,rk:=r }] false)).new (.map [])).put t (.row 13 [txL { X with op:=true,cr:=c,rk:=r,to:=.map h.next }] false)))).put t (.row 13 [txL { X with op:=true,cr:=c,rk:=r,to:=.map h.next,b1:=.map (h.next+1+1+1+1),b2:=.map (h.next+1+1+1+1+1),b3:=.map (h.next+1+1+1+1+1+1),b4:=.ptr (h.next+1+1+1) 0 }] false)
noncomputable def xTBegin:Kn1:=fun args h=>match args with
 | [.c (.ptr t 0),.c (.int .i64 c),.c (.int .i64 r)]=>(getTx h t).bind fun X=>(getRv h X.rv).bind fun m=>askB (!X.op&&decide (0≤c)&&decide (0≤r)&&voidM h m&&voidM h X.ch&&voidM h X.od&&voidM h X.fr) (some (.w (.c (.int .i64 0)),begM h t X c r))
 | _=>none
noncomputable def cleanM (h:Go.Ev.H) (s:Nat) (S:Stt):Go.Ev.H:=((((h.new (.map [])).put s (.row 8 [stL { S with dt:=h.next }] false)).new (.map [])).put s (.row 8 [stL { S with dt:=h.next,gv:=h.next+1 }] false)).put s (.row 8 [stL { S with dt:=h.next,gv:=h.next+1,kn:=false }] false)
noncomputable def xSBegin:Kn1:=fun args h=>match args with
 | [.c (.ptr s 0),.c (.int .i64 c),.c (.int .i64 r)]=>(getSt h s).bind fun S=>(getTx h S.tx).bind fun X=>(getGd h S.gd).bind fun _=>(getRv h X.rv).bind fun m=>(sizeI c).bind fun _=>askB (decide (r=0)&&!X.op&&decide (X.sq≤2147483648)&&voidM h m&&voidM h X.ch&&voidM h X.od&&voidM h X.fr) (some (.w (.c (.int .i64 0)),begM (cleanM h s S) S.tx X c 0))
 | _=>none
attribute [go_sem] xClone xTBegin xSBegin
theorem lfIntsN':lenFits K 63 (.c .snil)=true:=by kernel_rfl
attribute [go_sem] lfIntsN'
section
variable (Hh:Hearts K Tryz.prog)
include Hh
theorem xClone_ok {args:List W} {h h':Go.Ev.H} {v:V} (e:xClone args h=some (v,h')):CallOk K Tryz.prog 71 args h v h':=by
 unfold xClone at e
 split at e
 ·rename_i t q
  obtain⟨X,ht,e⟩:=bind_of e
  have ht:=getTx_some ht
  obtain⟨m,hr,e⟩:=bind_of e
  have hr:=getRv_some hr
  obtain⟨b,e⟩:=askB_some.1 e
  cases e
  simp only[Bool.and_eq_true] at b
  obtain⟨⟨⟨b1,b2⟩,b3⟩,b4⟩:=b
  have hm:=voidM_true b1
  have hc:=voidM_true b2
  have ho:=voidM_true b3
  have hf:=voidM_true b4
  refine CallOk.tidy ⟨Tryz.f71,Tryz.func71,by kernel_rfl,by decide⟩ fun tidy=>?_
  have l1:=tidy _ _ ht
  have l2:=tidy _ _ hr
  have l3:=tidy _ _ hm
  have l4:=tidy _ _ hc
  have l5:=tidy _ _ ho
  have l6:=tidy _ _ hf
  refine CallOk.goes fits Hh (by kernel_rfl) (by kernel_rfl) (by kernel_rfl) (show Tryz.f71.body=some _ from rfl) rfl ?_
  repeat (first
   | refine Goes.seq ?_
   | refine Goes.block ?_
   | refine Goes.loop ?_
   | refine Goes.skip ?_
   | refine Goes.exit ?_
   | refine Goes.ret ?_
   | refine Goes.condV (by simp (maxSteps:=9^6) +decide (disch:=first|omega|(simp only[lens]<;>omega)|decide) only [go_sem,readRow,loadIn,simprocAttr,ht,hr,hm,hc,ho,hf,read1,opBuiltin,opLen,writeRow]<;>rfl) ?_
   | refine Goes.ops2 fits Hh (EX_sound (EX_sound (EX_sound (EX_sound E0_sound (fun _ _ _ _=>xRvNew_ok Hh)) (fun _ _ _ _=>xROf_ok Hh)) (fun _ _ _ _=>xCloneB_ok Hh)) (fun _ _ _ _=>xCloneV_ok Hh)) (by simp (maxSteps:=9^6) +decide (disch:=first|omega|(simp only[lens]<;>omega)|decide) only [go_sem,readRow,loadIn,simprocAttr,ht,hr,hm,hc,ho,hf,read1,opBuiltin,opLen,writeRow]; rfl) ?_
   | refine Goes.drawn2 fits Hh (EX_sound (EX_sound (EX_sound (EX_sound E0_sound (fun _ _ _ _=>xRvNew_ok Hh)) (fun _ _ _ _=>xROf_ok Hh)) (fun _ _ _ _=>xCloneB_ok Hh)) (fun _ _ _ _=>xCloneV_ok Hh)) (by kernel_rfl) (by simp (maxSteps:=9^6) +decide (disch:=first|omega|(simp only[lens]<;>omega)|decide) only [go_sem,readRow,loadIn,simprocAttr,op_move,op_assign,op_binOp,op_unOp,op_convert,op_load,op_store,op_indexAddr,op_alloc,op_pick,op_box,op_build,op_buildSlice,op_nilCheck,op_makeSlice,op_fieldAddr,op_field,op_extract,op_lookup,op_mapUpdate,op_builtin,op_index,drEnd,drAll,drOne,drTs,drKd,drPure,drRead,drAlloc,drEff,drSkip,drPut,putT_ok,putT_none,cutT,looks,tmpOf,Op.operands,Call.operands,kd,kdCall,List.filterMap_cons,List.filterMap_nil,List.append_nil,List.nil_append,List.cons_append,stables,stable,reachAt,reachP,waitsAt,waits,gives_self,List.all_cons,List.all_nil,List.any_cons,List.any_nil,Region.binds,Bool.or_true,Bool.true_or,Bool.and_true,Bool.true_and,Bool.or_false,Bool.false_or,Bool.and_self,Bool.or_self,ble_true,Nat.le_refl,Nat.le_add_right,List.map_cons,Array.toList_append,ht,hr,hm,hc,ho,hf,read1,opBuiltin,opLen,writeRow]; rfl) ?_)
  simp (maxSteps:=9^6) +decide (disch:=first|omega|(simp only[lens]<;>omega)|decide) only [go_sem,readRow,loadIn,simprocAttr,cloneM]<;>rfl
 ·cases e
set_option maxHeartbeats 1000000 in
theorem xTBegin_ok {args:List W} {h h':Go.Ev.H} {v:V} (e:xTBegin args h=some (v,h')):CallOk K Tryz.prog 26 args h v h':=by
 unfold xTBegin at e
 split at e
 ·rename_i t c r
  obtain⟨X,ht,e⟩:=bind_of e
  have ht:=getTx_some ht
  obtain⟨m,hr,e⟩:=bind_of e
  have hr:=getRv_some hr
  obtain⟨b,e⟩:=askB_some.1 e
  cases e
  simp only[Bool.and_eq_true,decide_eq_true_eq,Bool.not_eq_true'] at b
  obtain⟨⟨⟨⟨⟨⟨bo,c0⟩,r0⟩,b1⟩,b2⟩,b3⟩,b4⟩:=b
  have hm:=voidM_true b1
  have hc:=voidM_true b2
  have ho:=voidM_true b3
  have hf:=voidM_true b4
  refine CallOk.tidy ⟨Tryz.f26,Tryz.func26,by kernel_rfl,by decide⟩ fun tidy=>?_
  have l1:=tidy _ _ ht
  have l2:=tidy _ _ hr
  have l3:=tidy _ _ hm
  have l4:=tidy _ _ hc
  have l5:=tidy _ _ ho
  have l6:=tidy _ _ hf
  have n2:X.rv≠t:=fun e1=>by rw[e1,ht] at hr; cases hr
  have n3:m≠t:=fun e1=>by rw[e1,ht] at hm; cases hm
  have n4:X.ch≠t:=fun e1=>by rw[e1,ht] at hc; cases hc
  have n5:X.od≠t:=fun e1=>by rw[e1,ht] at ho; cases ho
  have n6:X.fr≠t:=fun e1=>by rw[e1,ht] at hf; cases hf
  refine CallOk.goes fits Hh (by kernel_rfl) (by kernel_rfl) (by kernel_rfl) (show Tryz.f26.body=some _ from rfl) rfl ?_
  repeat (first
   | refine Goes.seq ?_
   | refine Goes.block ?_
   | refine Goes.loop ?_
   | refine Goes.skip ?_
   | refine Goes.exit ?_
   | refine Goes.ret ?_
   | refine Goes.condV (by simp (maxSteps:=9^6) +decide (disch:=first|omega|(simp only[lens]<;>omega)|decide) only [go_sem,readRow,loadIn,simprocAttr,ht,bo,hr,hm,hc,ho,hf,read1,writeRow,cloneM]<;>rfl) ?_
   | refine Goes.ops2 fits Hh (EX_sound (EX_sound E0_sound (fun _ _ _ _=>xTMade_ok Hh)) (fun _ _ _ _=>xClone_ok Hh)) (by simp (maxSteps:=9^6) +decide (disch:=first|omega|(simp only[lens]<;>omega)|decide) only [go_sem,readRow,loadIn,simprocAttr,ht,bo,hr,hm,hc,ho,hf,read1,writeRow,cloneM]; rfl) ?_
   | refine Goes.drawn2 fits Hh (EX_sound (EX_sound E0_sound (fun _ _ _ _=>xTMade_ok Hh)) (fun _ _ _ _=>xClone_ok Hh)) (by kernel_rfl) (by simp (maxSteps:=9^6) +decide (disch:=first|omega|(simp only[lens]<;>omega)|decide) only [go_sem,readRow,loadIn,simprocAttr,op_move,op_assign,op_binOp,op_unOp,op_convert,op_load,op_store,op_indexAddr,op_alloc,op_pick,op_box,op_build,op_buildSlice,op_nilCheck,op_makeSlice,op_fieldAddr,op_field,op_extract,op_lookup,op_mapUpdate,op_builtin,op_index,drEnd,drAll,drOne,drTs,drKd,drPure,drRead,drAlloc,drEff,drSkip,drPut,putT_ok,putT_none,cutT,looks,tmpOf,Op.operands,Call.operands,kd,kdCall,List.filterMap_cons,List.filterMap_nil,List.append_nil,List.nil_append,List.cons_append,stables,stable,reachAt,reachP,waitsAt,waits,gives_self,List.all_cons,List.all_nil,List.any_cons,List.any_nil,Region.binds,Bool.or_true,Bool.true_or,Bool.and_true,Bool.true_and,Bool.or_false,Bool.false_or,Bool.and_self,Bool.or_self,ble_true,Nat.le_refl,Nat.le_add_right,List.map_cons,Array.toList_append,ht,bo,hr,hm,hc,ho,hf,read1,writeRow,cloneM]; rfl) ?_)
  simp (maxSteps:=9^6) +decide (disch:=first|omega|(simp only[lens]<;>omega)|decide) only [go_sem,readRow,loadIn,simprocAttr,begM,cloneM]<;>rfl
 ·cases e
end
end Go.Proofs.YtlbbmhgdcdcdnaaGreatDoor
set_option maxRecDepth 100000
set_option maxHeartbeats 4000000
namespace Go.Proofs.YtlbbmhgdcdcdnaaGreatDoor
open Go.Ev
section
variable (Hh:Hearts K Tryz.prog)
include Hh
set_option maxHeartbeats 4000000 in
theorem xSBegin_ok {args:List W} {h h':Go.Ev.H} {v:V} (e:xSBegin args h=some (v,h')):CallOk K Tryz.prog 7 args h v h':=by
 unfold xSBegin at e
 split at e
 ·rename_i s c r
  obtain⟨S,hs,e⟩:=bind_of e
  have hs:=getSt_some hs
  obtain⟨X,ht,e⟩:=bind_of e
  have ht:=getTx_some ht
  obtain⟨G,hg,e⟩:=bind_of e
  obtain⟨hg,fb⟩:=getGd_some hg
  obtain⟨m,hr,e⟩:=bind_of e
  have hr:=getRv_some hr
  obtain⟨n,hn,e⟩:=bind_of e
  obtain⟨b,e⟩:=askB_some.1 e
  cases e
  simp only[Bool.and_eq_true,decide_eq_true_eq,Bool.not_eq_true'] at b
  obtain⟨⟨⟨⟨⟨⟨rfl,bo⟩,sq⟩,b1⟩,b2⟩,b3⟩,b4⟩:=b
  have hm:=voidM_true b1
  have hc:=voidM_true b2
  have ho:=voidM_true b3
  have hf:=voidM_true b4
  have F:=fineB_fine fb
  obtain⟨g1,g2,g3,g4,g5,g6,g7,g8,g9,g10,g11⟩:=F
  refine CallOk.tidy ⟨Tryz.f7,Tryz.func7,by kernel_rfl,by decide⟩ fun tidy=>?_
  have l1:=tidy _ _ ht
  have l2:=tidy _ _ hr
  have l3:=tidy _ _ hm
  have l4:=tidy _ _ hc
  have l5:=tidy _ _ ho
  have l6:=tidy _ _ hf
  have l7:=tidy _ _ hs
  have l8:=tidy _ _ hg
  have n1:S.tx≠s:=fun e1=>by rw[e1,hs] at ht; cases ht
  have n2:X.rv≠s:=fun e1=>by rw[e1,hs] at hr; cases hr
  have n3:m≠s:=fun e1=>by rw[e1,hs] at hm; cases hm
  have n4:X.ch≠s:=fun e1=>by rw[e1,hs] at hc; cases hc
  have n5:X.od≠s:=fun e1=>by rw[e1,hs] at ho; cases ho
  have n6:X.fr≠s:=fun e1=>by rw[e1,hs] at hf; cases hf
  have a0:0≤c∧c≤33∧5≤n∧n≤36:=by rcases sizeI_some hn with ⟨rfl,rfl⟩|⟨rfl,rfl⟩|⟨rfl,rfl⟩<;>omega
  refine CallOk.goes fits Hh (by kernel_rfl) (by kernel_rfl) (by kernel_rfl) (show Tryz.f7.body=some _ from rfl) rfl ?_
  repeat (first
   | refine Goes.seq ?_
   | refine Goes.block ?_
   | refine Goes.loop ?_
   | refine Goes.skip ?_
   | refine Goes.exit ?_
   | refine Goes.ret ?_
   | refine Goes.condV (by simp (maxSteps:=9^6) +decide (disch:=first|omega|(simp only[lens]<;>omega)|decide) only [go_sem,readRow,loadIn,simprocAttr,hn,hs,ht,bo,hg,gdL,fb,hr,hm,hc,ho,hf,read1]<;>rfl) ?_
   | refine Goes.ops2 fits Hh (EX_sound (EX_sound (EX_sound (EX_sound (EX_sound (EX_sound (EX_sound E0_sound (fun _ _ _ _=>xSMade_ok Hh)) (fun _ _ _ _=>xTSeq_ok Hh)) (fun _ _ _ _=>xTOpen_ok Hh)) (fun _ _ _ _=>xSize_ok Hh)) (fun _ _ _ _=>xNeed_ok Hh)) (fun _ _ _ _=>xSClean_ok Hh)) (fun _ _ _ _=>xTBegin_ok Hh)) (by simp (maxSteps:=9^6) +decide (disch:=first|omega|(simp only[lens]<;>omega)|decide) only [go_sem,readRow,loadIn,simprocAttr,hn,hs,ht,bo,hg,gdL,fb,hr,hm,hc,ho,hf,read1]; rfl) ?_)
  simp (maxSteps:=9^6) +decide (disch:=first|omega|(simp only[lens]<;>omega)|decide) only [go_sem,readRow,loadIn,simprocAttr,cleanM]<;>rfl
 ·cases e
end
end Go.Proofs.YtlbbmhgdcdcdnaaGreatDoor
