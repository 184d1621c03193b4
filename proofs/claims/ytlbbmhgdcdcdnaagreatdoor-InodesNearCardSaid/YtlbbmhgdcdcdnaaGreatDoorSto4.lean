/- A store at rest: Put, PutData. -/
import Derived.Test.YtlbbmhgdcdcdnaaGreatDoorSto2
set_option linter.unusedSimpArgs false
set_option linter.unusedVariables false
set_option linter.unusedSectionVars false
set_option maxRecDepth 100000
set_option maxHeartbeats 4000000
namespace Go.Proofs.YtlbbmhgdcdcdnaaGreatDoor
open Go.Ev
theorem rs80:Tryz.f80.results.toList=[.tmp 6]:=rfl
attribute [go_sem] rs80
theorem xTPut_cases {t:Nat} {z:Int} {x:List C} {h h':Go.Ev.H} {v:V} (e:xTPut [.c (.ptr t 0),.c (.int .i64 z),.g x] h=some (v,h')):∃ X to lt lc lf m,h.get t=some (.row 13 [txL X] false)∧X.to=.map to∧h.get to=some (.map (ents lt))∧h.get X.ch=some (.map (ents lc))∧h.get X.fr=some (.map (ents lf))∧h.get X.rv=some (.row 1 [[.map m]] false)∧h.get m=some (.map []) ∧
  X.op=true∧0≤z∧(match lookE z lt with|none=>decide ((lt.length:Int)<X.cr)|some []=>true|some (_ :: _)=>false)=true∧x.length=256∧x.all C.flat=true∧flatE lt=true∧flatE lc=true∧flatE lf=true ∧
  Nat.beq to X.ch=false∧Nat.beq to X.fr=false∧Nat.beq X.ch X.fr=false∧Nat.beq to m=false∧Nat.beq X.ch m=false∧Nat.beq X.fr m=false∧Nat.beq to t=false∧Nat.beq X.ch t=false∧Nat.beq X.fr t=false∧Nat.beq to X.rv=false∧Nat.beq X.ch X.rv=false∧Nat.beq X.fr X.rv=false ∧
  v=.w (.c (.int .i64 0))∧h'=((h.put to (.map (ents (updE z [] lt)))).put X.ch (.map (ents (updE z x lc)))).put X.fr (.map (ents (delE z lf))):=by
 unfold xTPut at e
 obtain⟨X,ht,e⟩:=bind_of e
 have ht:=getTx_some ht
 obtain⟨to,hto,e⟩:=bind_of e
 have hto:=toN_some hto
 obtain⟨lt,hlt,e⟩:=bind_of e
 have hlt:=getM_some hlt
 obtain⟨lc,hlc,e⟩:=bind_of e
 have hlc:=getM_some hlc
 obtain⟨lf,hlf,e⟩:=bind_of e
 have hlf:=getM_some hlf
 obtain⟨m,hr,e⟩:=bind_of e
 have hr:=getRv_some hr
 obtain⟨b,e⟩:=askB_some.1 e
 cases e
 simp only[Bool.and_eq_true,Bool.not_eq_true'] at b
 obtain⟨⟨⟨⟨⟨⟨⟨⟨⟨⟨⟨⟨⟨⟨⟨⟨⟨⟨⟨⟨bo,z0⟩,bm⟩,bc⟩,bx⟩,xf⟩,f1⟩,f2⟩,f3⟩,c1⟩,c2⟩,c3⟩,c4⟩,c5⟩,c6⟩,c7⟩,c8⟩,c9⟩,c10⟩,c11⟩,c12⟩:=b
 exact⟨X,to,lt,lc,lf,m,ht,hto,hlt,hlc,hlf,hr,voidM_true bm,bo,of_decide_eq_true z0,bc,Nat.eq_of_beq_eq_true bx,xf,f1,f2,f3,c1,c2,c3,c4,c5,c6,c7,c8,c9,c10,c11,c12,rfl,rfl⟩
noncomputable def xPutIn (s:Nat) (S:Stt) (z:Int) (x:List C) (h:Go.Ev.H):Option (V × Go.Ev.H):=(getM h S.dt).bind fun _=>(getM h S.gv).bind fun _=>askB (C.flat S.bs) (xTPut [.c (.ptr S.tx 0),.c (.int .i64 z),.g x] (h.put s (.row 8 [stL { S with kn:=false }] false)))
noncomputable def xSPut:Kn1:=fun args h=>match args with
 | [.c (.ptr s 0),.c (.int .i64 z),.g x]=>(getSt h s).bind fun S=>(getTx h S.tx).bind fun X=>(getGd h S.gd).bind fun G=>askB (X.op&&decide (z<9223372036854775808)&&oursB G.gr G.sz G.ino G.jr z) (xPutIn s S z x h)
 | _=>none
theorem bCopy {x:List C} {z:Int} (h:x.length≤256∧256≤x.length):opBuild K 187 (some [(0,.c (.int .i64 z)),(1,.g x)])=some (.g (.int .i64 z :: x)):=by
 have zz:(ti187.zero).cells=.int .i64 0 :: List.replicate 256 (.int .u8 0):=by kernel_rfl
 have bu:∀ ps,opBuild K 187 (some ps)=gW (fillStruct K 187 ps (ti187.zero).cells):=fun ps=>by kernel_rfl
 rw[bu,zz]
 simp only[fillStruct,fo187_0,fo187_1]
 rw[show ti3.size=1 from rfl,fill_first]
 simp only
 rw[show ti85.size=256 from rfl,fill_rest ⟨h.1,h.2,by rw[List.length_replicate]; omega,by rw[List.length_replicate]; omega⟩]
 rfl
attribute [go_sem] bCopy
theorem low_st {b:Nat} {S:Stt} (l2:S.gd<b) (l3:S.tx<b) (l4:S.dt<b) (l5:S.gv<b) (fb:C.flat S.bs=true) (k:Bool):LowO b (.row 8 [stL { S with kn:=k }] false):=by
 refine low_row fun τ hτ=>?_
 show [[C.ptr (τ S.gd) 0,.ptr (τ S.tx) 0,.pnil,.map (τ S.dt),.map (τ S.gv),S.bs.ren τ,.bool k,.bool false]]=_
 rw[hτ _ l2,hτ _ l3,hτ _ l4,hτ _ l5,C.ren_flat fb]
 rfl
section
variable (Hh:Hearts K Tryz.prog)
include Hh
set_option maxHeartbeats 4000000 in
theorem xSPut_ok {args:List W} {h h':Go.Ev.H} {v:V} (e:xSPut args h=some (v,h')):CallOk K Tryz.prog 80 args h v h':=by
 unfold xSPut at e
 split at e
 ·rename_i s z x
  obtain⟨S,hs,e⟩:=bind_of e
  have hs:=getSt_some hs
  obtain⟨X,ht,e⟩:=bind_of e
  have ht:=getTx_some ht
  obtain⟨G,hg,e⟩:=bind_of e
  obtain⟨hg,fb⟩:=getGd_some hg
  obtain⟨b,e⟩:=askB_some.1 e
  simp only[Bool.and_eq_true,decide_eq_true_eq] at b
  obtain⟨⟨bo,z1⟩,bou⟩:=b
  refine CallOk.tidy ⟨Tryz.f80,Tryz.func80,by kernel_rfl,by decide⟩ fun tidy=>?_
  unfold xPutIn at e
  obtain⟨ldt,hdt,e⟩:=bind_of e
  have hdt:=getM_some hdt
  obtain⟨lgv,hgv,e⟩:=bind_of e
  have hgv:=getM_some hgv
  obtain⟨fbs,e⟩:=askB_some.1 e
  have l1:=tidy _ _ hs
  have k2:=tidy _ _ hg
  have k3:=tidy _ _ ht
  have k4:=tidy _ _ hdt
  have k5:=tidy _ _ hgv
  have hput:∀ m,m≠s→(h.put s (.row 8 [stL { S with kn:=false }] false)).get m=h.get m:=fun m hm=>get_put_ne hm
  have nt:S.tx≠s:=fun e1=>by rw[e1,hs] at ht; cases ht
  obtain⟨X',to,lt,lc,lf,m,ht',hto,hlt,hlc,hlf,hr,hm,bo',z0,bc,xl,xf,f1,f2,f3,c1,c2,c3,c4,c5,c6,c7,c8,c9,c10,c11,c12,rfl,rfl⟩:=xTPut_cases e
  rw[hput _ nt] at ht'
  have n0:to≠s:=fun e1=>by rw[e1,get_put_self] at hlt; cases hlt
  have nc:X'.ch≠s:=fun e1=>by rw[e1,get_put_self] at hlc; cases hlc
  have nf:X'.fr≠s:=fun e1=>by rw[e1,get_put_self] at hlf; cases hlf
  have nr:X'.rv≠s:=fun e1=>by rw[e1,get_put_self] at hr; cases hr
  have nm:m≠s:=fun e1=>by rw[e1,get_put_self] at hm; cases hm
  rw[hput _ n0] at hlt
  rw[hput _ nc] at hlc
  rw[hput _ nf] at hlf
  rw[hput _ nr] at hr
  rw[hput _ nm] at hm
  have k6:=tidy _ _ hlt
  have k7:=tidy _ _ hlc
  have k8:=tidy _ _ hlf
  have k9:=tidy _ _ hr
  have k10:=tidy _ _ hm
  have n1:=nbeq_ne c1
  have n2:=nbeq_ne c2
  have n3:=nbeq_ne c3
  have n4:=nbeq_ne c4
  have n5:=nbeq_ne c5
  have n6:=nbeq_ne c6
  have n7:=nbeq_ne c7
  have n8:=nbeq_ne c8
  have n9:=nbeq_ne c9
  have n10:=nbeq_ne c10
  have n11:=nbeq_ne c11
  have n12:=nbeq_ne c12
  have md3:True:=trivial
  have z0d:decide (0≤z)=true:=decide_eq_true z0
  obtain⟨v,h',c,rfl,hk⟩:∃ v h',CallOk K Tryz.prog 80 [.c (.ptr s 0),.c (.int .i64 z),.g x] h v h'∧v=.w (.c (.int .i64 0))∧∀ j,j<h.next→h'.get j=((((h.put s (.row 8 [stL { S with kn:=false }] false)).put to (.map (ents (updE z [] lt)))).put X'.ch (.map (ents (updE z x lc)))).put X'.fr (.map (ents (delE z lf)))).get j:=by
   rcases hl:lookE z lt with _|y
   ·
    rw[hl] at bc
    have bc:decide ((lt.length:Int)<X'.cr)=true:=bc
    refine CallOk.goesE fits Hh (by kernel_rfl) (by kernel_rfl) (by kernel_rfl) (show Tryz.f80.body=some _ from rfl) rfl ?_
    repeat (first
     | refine Goes.seq ?_
     | refine Goes.block ?_
     | refine Goes.loop ?_
     | refine Goes.skip ?_
     | refine Goes.exit ?_
     | refine Goes.ret ?_
     | refine Goes.condV (by simp (maxSteps:=9^6) +decide (disch:=first|omega|(simp only[lens]<;>omega)|decide) only [go_sem,loadIn,simprocAttr,hs,ht',hg,gdL,fb,bou,bo',md3,z0d,hto,hlt,hlc,hlf,hr,hm,hl,bc,xl,xf,f1,f2,f3,c1,c2,c3,c4,c5,c6,c7,c8,c9,c10,c11,c12,read1]<;>rfl) ?_
     | refine Goes.ops2 fits Hh (EX_sound (EX_sound E0_sound (fun _ _ _ _=>xSChange_ok Hh)) (fun _ _ _ _=>xTPut_ok Hh)) (by simp (maxSteps:=9^6) +decide (disch:=first|omega|(simp only[lens]<;>omega)|decide) only [go_sem,loadIn,simprocAttr,hs,ht',hg,gdL,fb,bou,bo',md3,z0d,hto,hlt,hlc,hlf,hr,hm,hl,bc,xl,xf,f1,f2,f3,c1,c2,c3,c4,c5,c6,c7,c8,c9,c10,c11,c12,read1]; rfl) ?_
     | refine Goes.drawn2 fits Hh (EX_sound (EX_sound E0_sound (fun _ _ _ _=>xSChange_ok Hh)) (fun _ _ _ _=>xTPut_ok Hh)) (by kernel_rfl) (by simp (maxSteps:=9^6) +decide (disch:=first|omega|(simp only[lens]<;>omega)|decide) only [go_sem,loadIn,simprocAttr,op_move,op_assign,op_binOp,op_unOp,op_convert,op_load,op_store,op_indexAddr,op_alloc,op_pick,op_box,op_build,op_buildSlice,op_nilCheck,op_makeSlice,op_fieldAddr,op_field,op_extract,op_lookup,op_mapUpdate,op_builtin,op_index,drEnd,drAll,drOne,drTs,drKd,drPure,drRead,drAlloc,drEff,drSkip,drPut,putT_ok,putT_none,cutT,looks,tmpOf,Op.operands,Call.operands,kd,kdCall,List.filterMap_cons,List.filterMap_nil,List.append_nil,List.nil_append,List.cons_append,stables,stable,reachAt,reachP,waitsAt,waits,gives_self,List.all_cons,List.all_nil,List.any_cons,List.any_nil,Region.binds,Bool.or_true,Bool.true_or,Bool.and_true,Bool.true_and,Bool.or_false,Bool.false_or,Bool.and_self,Bool.or_self,ble_true,Nat.le_refl,Nat.le_add_right,List.map_cons,Array.toList_append,hs,ht',hg,gdL,fb,bou,bo',md3,z0d,hto,hlt,hlc,hlf,hr,hm,hl,bc,xl,xf,f1,f2,f3,c1,c2,c3,c4,c5,c6,c7,c8,c9,c10,c11,c12,read1]; rfl) ?_)
    exact⟨_,_,(by simp (maxSteps:=9^6) +decide (disch:=first|omega|(simp only[lens]<;>omega)|decide) only [go_sem,loadIn,simprocAttr]<;>rfl),rfl,fun j hj=>by (first|(simp (discharger:=omega) only [H.get_put,H.get_new,H.get_del,H.next_new,H.next_put,H.next_del,if_neg]; done)|(simp only[H.get_put,H.get_new,H.get_del,H.next_new,H.next_put,H.next_del]; (repeat' split)<;>first|rfl|(exfalso; omega)|omega))⟩
   ·
    rw[hl] at bc
    rcases y with _|⟨y0,y⟩
    ·
     refine CallOk.goesE fits Hh (by kernel_rfl) (by kernel_rfl) (by kernel_rfl) (show Tryz.f80.body=some _ from rfl) rfl ?_
     repeat (first
      | refine Goes.seq ?_
      | refine Goes.block ?_
      | refine Goes.loop ?_
      | refine Goes.skip ?_
      | refine Goes.exit ?_
      | refine Goes.ret ?_
      | refine Goes.condV (by simp (maxSteps:=9^6) +decide (disch:=first|omega|(simp only[lens]<;>omega)|decide) only [go_sem,loadIn,simprocAttr,hs,ht',hg,gdL,fb,bou,bo',md3,z0d,hto,hlt,hlc,hlf,hr,hm,hl,bc,xl,xf,f1,f2,f3,c1,c2,c3,c4,c5,c6,c7,c8,c9,c10,c11,c12,read1]<;>rfl) ?_
      | refine Goes.ops2 fits Hh (EX_sound (EX_sound E0_sound (fun _ _ _ _=>xSChange_ok Hh)) (fun _ _ _ _=>xTPut_ok Hh)) (by simp (maxSteps:=9^6) +decide (disch:=first|omega|(simp only[lens]<;>omega)|decide) only [go_sem,loadIn,simprocAttr,hs,ht',hg,gdL,fb,bou,bo',md3,z0d,hto,hlt,hlc,hlf,hr,hm,hl,bc,xl,xf,f1,f2,f3,c1,c2,c3,c4,c5,c6,c7,c8,c9,c10,c11,c12,read1]; rfl) ?_
      | refine Goes.drawn2 fits Hh (EX_sound (EX_sound E0_sound (fun _ _ _ _=>xSChange_ok Hh)) (fun _ _ _ _=>xTPut_ok Hh)) (by kernel_rfl) (by simp (maxSteps:=9^6) +decide (disch:=first|omega|(simp only[lens]<;>omega)|decide) only [go_sem,loadIn,simprocAttr,op_move,op_assign,op_binOp,op_unOp,op_convert,op_load,op_store,op_indexAddr,op_alloc,op_pick,op_box,op_build,op_buildSlice,op_nilCheck,op_makeSlice,op_fieldAddr,op_field,op_extract,op_lookup,op_mapUpdate,op_builtin,op_index,drEnd,drAll,drOne,drTs,drKd,drPure,drRead,drAlloc,drEff,drSkip,drPut,putT_ok,putT_none,cutT,looks,tmpOf,Op.operands,Call.operands,kd,kdCall,List.filterMap_cons,List.filterMap_nil,List.append_nil,List.nil_append,List.cons_append,stables,stable,reachAt,reachP,waitsAt,waits,gives_self,List.all_cons,List.all_nil,List.any_cons,List.any_nil,Region.binds,Bool.or_true,Bool.true_or,Bool.and_true,Bool.true_and,Bool.or_false,Bool.false_or,Bool.and_self,Bool.or_self,ble_true,Nat.le_refl,Nat.le_add_right,List.map_cons,Array.toList_append,hs,ht',hg,gdL,fb,bou,bo',md3,z0d,hto,hlt,hlc,hlf,hr,hm,hl,bc,xl,xf,f1,f2,f3,c1,c2,c3,c4,c5,c6,c7,c8,c9,c10,c11,c12,read1]; rfl) ?_)
     exact⟨_,_,(by simp (maxSteps:=9^6) +decide (disch:=first|omega|(simp only[lens]<;>omega)|decide) only [go_sem,loadIn,simprocAttr]<;>rfl),rfl,fun j hj=>by (first|(simp (discharger:=omega) only [H.get_put,H.get_new,H.get_del,H.next_new,H.next_put,H.next_del,if_neg]; done)|(simp only[H.get_put,H.get_new,H.get_del,H.next_new,H.next_put,H.next_del]; (repeat' split)<;>first|rfl|(exfalso; omega)|omega))⟩
    ·cases bc
  exact c.settle (((((NearH.refl tidy).put l1 (low_st k2 k3 k4 k5 fbs false)).put k6 (low_map (flat_upd rfl f1))).put k7 (low_map (flat_upd xf f2))).put k8 (low_map (flat_del f3))) (LowV.flat rfl) hk
 ·cases e
end
end Go.Proofs.YtlbbmhgdcdcdnaaGreatDoor
