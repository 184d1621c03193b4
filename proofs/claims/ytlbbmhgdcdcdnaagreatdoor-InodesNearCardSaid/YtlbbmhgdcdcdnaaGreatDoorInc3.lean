/- inodes' calls over a store whose handle is open. -/
import Derived.Test.YtlbbmhgdcdcdnaaGreatDoorMd
import Derived.Test.YtlbbmhgdcdcdnaaGreatDoorDsc
set_option linter.unusedSimpArgs false
set_option linter.unusedVariables false
set_option linter.unusedSectionVars false
set_option maxRecDepth 100000
set_option maxHeartbeats 4000000
namespace Go.Proofs.YtlbbmhgdcdcdnaaGreatDoor
open Go.Ev
noncomputable def q11 (p:List Nat):Code:=piece p (bodyOf Tryz.f11)
theorem q11_:q11 []=.seq (q11 [0]) (q11 [1]):=by kernel_rfl
theorem q11_0:q11 [0]=.region 0 (opsA (q11 [0])) false:=by kernel_rfl
theorem q11_1:q11 [1]=.seq (q11 [1,0]) (q11 [1,1]):=by kernel_rfl
theorem q11_10:q11 [1,0]=.seq (q11 [1,0,0]) (q11 [1,0,1]):=by kernel_rfl
theorem q11_100:q11 [1,0,0]=.region 1 (opsA (q11 [1,0,0])) false:=by kernel_rfl
theorem q11_101:q11 [1,0,1]=.seq (q11 [1,0,1,0]) (q11 [1,0,1,1]):=by kernel_rfl
theorem q11_1010:q11 [1,0,1,0]=.region 2 (opsA (q11 [1,0,1,0])) false:=by kernel_rfl
theorem q11_1011:q11 [1,0,1,1]=.cond (.tmp 15) (q11 [1,0,1,1,3]) (q11 [1,0,1,1,4]):=by kernel_rfl
theorem q11_10114:q11 [1,0,1,1,4]=.skip:=by kernel_rfl
theorem q11_11:q11 [1,1]=.seq (q11 [1,1,0]) (q11 [1,1,1]):=by kernel_rfl
theorem q11_110:q11 [1,1,0]=.region 4 (opsA (q11 [1,1,0])) false:=by kernel_rfl
theorem q11_111:q11 [1,1,1]=.seq (q11 [1,1,1,0]) (q11 [1,1,1,1]):=by kernel_rfl
theorem q11_1110:q11 [1,1,1,0]=.seq (q11 [1,1,1,0,0]) (q11 [1,1,1,0,1]):=by kernel_rfl
theorem q11_11100:q11 [1,1,1,0,0]=.region 5 (opsA (q11 [1,1,1,0,0])) false:=by kernel_rfl
theorem q11_11101:q11 [1,1,1,0,1]=.cond (.tmp 27) (q11 [1,1,1,0,1,3]) (q11 [1,1,1,0,1,4]):=by kernel_rfl
theorem q11_111014:q11 [1,1,1,0,1,4]=.skip:=by kernel_rfl
theorem q11_1111:q11 [1,1,1,1]=.seq (q11 [1,1,1,1,0]) (q11 [1,1,1,1,1]):=by kernel_rfl
theorem q11_11110:q11 [1,1,1,1,0]=.region 7 (opsA (q11 [1,1,1,1,0])) false:=by kernel_rfl
theorem q11_11111:q11 [1,1,1,1,1]=.seq (q11 [1,1,1,1,1,0]) (q11 [1,1,1,1,1,1]):=by kernel_rfl
theorem q11_111110:q11 [1,1,1,1,1,0]=.seq (q11 [1,1,1,1,1,0,0]) (q11 [1,1,1,1,1,0,1]):=by kernel_rfl
theorem q11_1111100:q11 [1,1,1,1,1,0,0]=.region 8 (opsA (q11 [1,1,1,1,1,0,0])) false:=by kernel_rfl
theorem q11_1111101:q11 [1,1,1,1,1,0,1]=.cond (.tmp 36) (q11 [1,1,1,1,1,0,1,3]) (q11 [1,1,1,1,1,0,1,4]):=by kernel_rfl
theorem q11_11111014:q11 [1,1,1,1,1,0,1,4]=.skip:=by kernel_rfl
theorem q11_111111:q11 [1,1,1,1,1,1]=.seq (q11 [1,1,1,1,1,1,0]) (q11 [1,1,1,1,1,1,1]):=by kernel_rfl
theorem q11_1111110:q11 [1,1,1,1,1,1,0]=.region 10 (opsA (q11 [1,1,1,1,1,1,0])) false:=by kernel_rfl
theorem q11_1111111:q11 [1,1,1,1,1,1,1]=.ret:=by kernel_rfl
noncomputable def q30 (p:List Nat):Code:=piece p (bodyOf Tryz.f30)
theorem q30_:q30 []=.seq (q30 [0]) (q30 [1]):=by kernel_rfl
theorem q30_0:q30 [0]=.region 0 (opsA (q30 [0])) false:=by kernel_rfl
theorem q30_1:q30 [1]=.seq (q30 [1,0]) (q30 [1,1]):=by kernel_rfl
theorem q30_10:q30 [1,0]=.region 1 (opsA (q30 [1,0])) false:=by kernel_rfl
theorem q30_11:q30 [1,1]=.seq (q30 [1,1,0]) (q30 [1,1,1]):=by kernel_rfl
theorem q30_110:q30 [1,1,0]=.seq (q30 [1,1,0,0]) (q30 [1,1,0,1]):=by kernel_rfl
theorem q30_1100:q30 [1,1,0,0]=.region 2 (opsA (q30 [1,1,0,0])) false:=by kernel_rfl
theorem q30_1101:q30 [1,1,0,1]=.cond (.tmp 12) (q30 [1,1,0,1,3]) (q30 [1,1,0,1,4]):=by kernel_rfl
theorem q30_11014:q30 [1,1,0,1,4]=.skip:=by kernel_rfl
theorem q30_111:q30 [1,1,1]=.seq (q30 [1,1,1,0]) (q30 [1,1,1,1]):=by kernel_rfl
theorem q30_1110:q30 [1,1,1,0]=.region 4 (opsA (q30 [1,1,1,0])) true:=by kernel_rfl
theorem q30_1111:q30 [1,1,1,1]=.ret:=by kernel_rfl
noncomputable def q45 (p:List Nat):Code:=piece p (bodyOf Tryz.f45)
theorem q45_:q45 []=.seq (q45 [0]) (q45 [1]):=by kernel_rfl
theorem q45_0:q45 [0]=.region 0 (opsA (q45 [0])) false:=by kernel_rfl
theorem q45_1:q45 [1]=.seq (q45 [1,0]) (q45 [1,1]):=by kernel_rfl
theorem q45_10:q45 [1,0]=.region 1 (opsA (q45 [1,0])) false:=by kernel_rfl
theorem q45_11:q45 [1,1]=.seq (q45 [1,1,0]) (q45 [1,1,1]):=by kernel_rfl
theorem q45_110:q45 [1,1,0]=.seq (q45 [1,1,0,0]) (q45 [1,1,0,1]):=by kernel_rfl
theorem q45_1100:q45 [1,1,0,0]=.region 2 (opsA (q45 [1,1,0,0])) false:=by kernel_rfl
theorem q45_1101:q45 [1,1,0,1]=.cond (.tmp 22) (q45 [1,1,0,1,3]) (q45 [1,1,0,1,4]):=by kernel_rfl
theorem q45_11014:q45 [1,1,0,1,4]=.skip:=by kernel_rfl
theorem q45_111:q45 [1,1,1]=.seq (q45 [1,1,1,0]) (q45 [1,1,1,1]):=by kernel_rfl
theorem q45_1110:q45 [1,1,1,0]=.region 4 (opsA (q45 [1,1,1,0])) false:=by kernel_rfl
theorem q45_1111:q45 [1,1,1,1]=.seq (q45 [1,1,1,1,0]) (q45 [1,1,1,1,1]):=by kernel_rfl
theorem q45_11110:q45 [1,1,1,1,0]=.seq (q45 [1,1,1,1,0,0]) (q45 [1,1,1,1,0,1]):=by kernel_rfl
theorem q45_111100:q45 [1,1,1,1,0,0]=.region 5 (opsA (q45 [1,1,1,1,0,0])) false:=by kernel_rfl
theorem q45_111101:q45 [1,1,1,1,0,1]=.cond (.tmp 30) (q45 [1,1,1,1,0,1,3]) (q45 [1,1,1,1,0,1,4]):=by kernel_rfl
theorem q45_1111014:q45 [1,1,1,1,0,1,4]=.skip:=by kernel_rfl
theorem q45_11111:q45 [1,1,1,1,1]=.seq (q45 [1,1,1,1,1,0]) (q45 [1,1,1,1,1,1]):=by kernel_rfl
theorem q45_111110:q45 [1,1,1,1,1,0]=.seq (q45 [1,1,1,1,1,0,0]) (q45 [1,1,1,1,1,0,1]):=by kernel_rfl
theorem q45_1111100:q45 [1,1,1,1,1,0,0]=.region 7 (opsA (q45 [1,1,1,1,1,0,0])) false:=by kernel_rfl
theorem q45_1111101:q45 [1,1,1,1,1,0,1]=.seq (q45 [1,1,1,1,1,0,1,0]) (q45 [1,1,1,1,1,0,1,1]):=by kernel_rfl
theorem q45_11111010:q45 [1,1,1,1,1,0,1,0]=.region 8 (opsA (q45 [1,1,1,1,1,0,1,0])) false:=by kernel_rfl
theorem q45_11111011:q45 [1,1,1,1,1,0,1,1]=.cond (.tmp 36) (q45 [1,1,1,1,1,0,1,1,3]) (q45 [1,1,1,1,1,0,1,1,4]):=by kernel_rfl
theorem q45_111110114:q45 [1,1,1,1,1,0,1,1,4]=.skip:=by kernel_rfl
theorem q45_111111:q45 [1,1,1,1,1,1]=.seq (q45 [1,1,1,1,1,1,0]) (q45 [1,1,1,1,1,1,1]):=by kernel_rfl
theorem q45_1111110:q45 [1,1,1,1,1,1,0]=.region 10 (opsA (q45 [1,1,1,1,1,1,0])) false:=by kernel_rfl
theorem q45_1111111:q45 [1,1,1,1,1,1,1]=.ret:=by kernel_rfl
theorem rs30:Tryz.f30.results.toList=[.tmp 2,.tmp 3]:=rfl
theorem rs11:Tryz.f11.results.toList=[.cell 4 43,.tmp 5]:=rfl
theorem rs45:Tryz.f45.results.toList=[.tmp 6]:=rfl
theorem rs38:Tryz.f38.results.toList=[]:=rfl
attribute [go_sem] rs30 rs11 rs45 rs38
def inoZ:List C:=inoL 0 0 0 0 0 0 0 0 0 0 0 0 0 0 0 0
def inoN:List C:=inoL 2 1 1 0 0 0 0 0 0 0 0 0 0 0 0 0
theorem inoZ_len:inoZ.length=16:=rfl
theorem inoN_len:inoN.length=16:=rfl
section
variable {K:Cfg} {P:Program} {n:Nat} {rd:Option Nat} {c:Code} {ds:List Nat} {ts:Tmps} {h:Go.Ev.H} {Q:X→List Nat→Tmps→Go.Ev.H→Prop}
theorem Goes.abs (g:∀ h',h'=h→Goes K P n rd c ds ts h' Q):Goes K P n rd c ds ts h Q:=g h rfl
end
section
variable (Hh:Hearts K Tryz.prog)
include Hh
variable {n a b c e:Nat} {md:Int} {kn:Bool} {lt lc lm:Ents} {L:List (List C)} {h:Go.Ev.H}
theorem iDescs (f:fineB a b c e=true) (M:Md n a b c e md kn lt lc lm L h) (hl:lookE 1 lc=none) (hl2:lookE 1 lm=none) (fl:flatE lm=true) (hx:L[1]? = some (descB a b c)) :
  ∃ h' p,CallOk K Tryz.prog 30 [.c (.ptr (n+13) 0)] h (.tup [.c (.slice p 0 a 3),.c (.int .i64 0)]) h'∧Md n a b c e md kn lt lc (updE 1 (descB a b c++[.bool false]) lm) L h'∧h.next≤p∧p<h'.next∧h'.get p=some (.row 3 ((firstD a b c).map rowD) false)∧∀ m,m<h.next→m≠n+6→h'.get m=h.get m:=by
 obtain⟨g1,g2,g3,g4,g5,g6,g7,g8,g9,g10,g11⟩:=fineB_fine f
 have xl:=descB_len a b c
 have xf:=descB_flat a b c
 have c1:CallOk K Tryz.prog 33 [.c (.ptr (n+13) 0),.c (.int .i64 1)] h (.tup [.g (descB a b c),.c (.int .i64 0)]) (h.put (n+6) (.map (ents (updE 1 (descB a b c++[.bool false]) lm)))):=xSGet_ok Hh (M.xDisk f (z:=1) (ours_one a b c e) (by omega) hl hl2 fl hx xl xf)
 have MA:=M.seen (updE 1 (descB a b c++[.bool false]) lm)
 have bd:=descB_bys a b c
 have gd:=descB_good f
 have td:=descB_tell f
 have hst:=M.st
 have n0:=M.n0
 have nx:=M.nx
 have hs:=M.hs
 have hg:=M.hg
 have gl:=M.hg
 unfold gdL gdN at gl
 obtain⟨v,h',cc,p,rfl,M',p1,p2,p3,hk⟩:∃ v h',CallOk K Tryz.prog 30 [.c (.ptr (n+13) 0)] h v h'∧∃ p,v=.tup [.c (.slice p 0 a 3),.c (.int .i64 0)]∧Md n a b c e md kn lt lc (updE 1 (descB a b c++[.bool false]) lm) L h'∧h.next≤p∧p<h'.next∧h'.get p=some (.row 3 ((firstD a b c).map rowD) false)∧∀ m,m<h.next→m≠n+6→h'.get m=h.get m:=by
  refine CallOk.goesE fits Hh (by kernel_rfl) (by kernel_rfl) (by kernel_rfl) (show Tryz.f30.body=some (q30 []) by kernel_rfl) rfl ?_
  show Goes K Tryz.prog 20 none _ _ _ _ _
  refine Goes.seqQ q30_ ?_
  refine Goes.opsQ q30_0 fits Hh E0_sound (by
   simp (maxSteps:=9^6) +decide (disch:=first|omega|(simp only[lens]<;>omega)|decide) only [go_sem,q30,Tryz.f30,loadIn,simprocAttr,f,hst,hs,stN,gl,geoL,xl,bd,gd,td,read1]
   rfl) ?_
  refine Goes.seqQ q30_1 ?_
  refine Goes.opsQ q30_10 fits Hh (E1_sound E0_sound c1) (by
   simp (maxSteps:=9^6) +decide (disch:=first|omega|(simp only[lens]<;>omega)|decide) only [go_sem,q30,Tryz.f30,loadIn,simprocAttr,E1_call,f,hst,hs,stN,gl,geoL,xl,bd,gd,td,read1]
   rfl) ?_
  refine Goes.seqQ q30_11 ?_
  refine Goes.seqQ q30_110 ?_
  refine Goes.opsQ q30_1100 fits Hh E0_sound (by
   simp (maxSteps:=9^6) +decide (disch:=first|omega|(simp only[lens]<;>omega)|decide) only [go_sem,q30,Tryz.f30,loadIn,simprocAttr,f,hst,hs,stN,gl,geoL,xl,bd,gd,td,read1]
   rfl) ?_
  refine Goes.condFQ q30_1101 (by simp (maxSteps:=9^6) +decide (disch:=first|omega|(simp only[lens]<;>omega)|decide) only [go_sem,loadIn,simprocAttr,f,hst,hs,stN,gl,geoL,xl,bd,gd,td,read1]<;>rfl) (by first|rfl|assumption|exact decide_eq_false (by omega)|(simp; omega)) ?_
  refine Goes.skipQ q30_11014 ?_
  refine Goes.seqQ q30_111 ?_
  refine Goes.drawnQ q30_1110 fits Hh (EX_sound (EX_sound E0_sound (fun _ _ _ _=>xSGeo_ok Hh)) (fun _ _ _ _=>xRdD_ok Hh)) (by kernel_rfl) (by
   simp (maxSteps:=9^6) +decide (disch:=first|omega|(simp only[lens]<;>omega)|decide) only [go_sem,q30,Tryz.f30,loadIn,simprocAttr,op_move,op_assign,op_binOp,op_unOp,op_convert,op_load,op_store,op_indexAddr,op_alloc,op_pick,op_box,op_build,op_buildSlice,op_nilCheck,op_makeSlice,op_fieldAddr,op_field,op_extract,op_lookup,op_mapUpdate,op_builtin,op_index,drEnd,drAll,drOne,drTs,drKd,drPure,drRead,drAlloc,drEff,drSkip,drPut,putT_ok,putT_none,cutT,looks,tmpOf,Op.operands,Call.operands,kd,kdCall,List.filterMap_cons,List.filterMap_nil,List.append_nil,List.nil_append,List.cons_append,stables,stable,reachAt,reachP,waitsAt,waits,gives_self,List.all_cons,List.all_nil,List.any_cons,List.any_nil,Region.binds,Bool.or_true,Bool.true_or,Bool.and_true,Bool.true_and,Bool.or_false,Bool.false_or,Bool.and_self,Bool.or_self,ble_true,Nat.le_refl,Nat.le_add_right,List.map_cons,Array.toList_append,f,hst,hs,stN,gl,geoL,xl,bd,gd,td,read1]
   rfl) ?_
  refine Goes.retQ q30_1111 ?_
  refine⟨_,_,(by simp (maxSteps:=9^6) +decide (disch:=first|omega|(simp only[lens]<;>omega)|decide) only [go_sem,loadIn,simprocAttr]<;>rfl),_,rfl,MA.keep ?_ (fun m hm=>?_),?_,?_,?_,fun m hm hne=>?_⟩
  ·first|omega|(simp only[H.next_put,H.next_new]<;>omega)
  ·(first|(simp (discharger:=omega) only [H.get_put,H.get_new,H.get_del,H.next_new,H.next_put,H.next_del,if_neg]; done)|(simp only[H.get_put,H.get_new,H.get_del,H.next_new,H.next_put,H.next_del]; (repeat' split)<;>first|rfl|(exfalso; omega)|omega))
  ·first|omega|(simp only[H.next_put,H.next_new]<;>omega)
  ·first|omega|(simp only[H.next_put,H.next_new]<;>omega)
  ·simp (maxSteps:=9^6) +decide (disch:=first|omega|(simp only[lens]<;>omega)|decide) only [go_sem,loadIn,simprocAttr]<;>rfl
  ·(first|(simp (discharger:=omega) only [H.get_put,H.get_new,H.get_del,H.next_new,H.next_put,H.next_del,if_neg]; done)|(simp only[H.get_put,H.get_new,H.get_del,H.next_new,H.next_put,H.next_del]; (repeat' split)<;>first|rfl|(exfalso; omega)|omega))
 exact⟨h',p,cc,M',p1,p2,p3,hk⟩
theorem iGet (f:fineB a b c e=true) (M:Md n a b c e md kn lt lc lm L h) {j k t p z:Nat} {x:List C} (kj:j / c=k) (tj:j % c=t) (t4:t / 4=0) (tp:t % 4 * 64=p) (jl:j<a * c) (hz:2+e+k * b+2=z) (zl:z<2+e+a * b) (hl:lookE (z:Int) lc=none) (hl2:lookE (z:Int) lm=none) (fl:flatE lm=true) (hx:L[z]? = some x) (xl:x.length=256) (xf:x.all C.flat=true) (hi:∀ h,CallOk K Tryz.prog 41 [.g x,.c (.int .i64 (p:Int))] h (.tup [.g inoZ,.c (.int .i64 0)]) h) :
  ∃ h',CallOk K Tryz.prog 11 [.c (.ptr (n+13) 0),.c (.int .i64 ((j+1:Nat):Int))] h (.tup [.g inoZ,.c (.int .i64 0)]) h'∧Md n a b c e md kn lt lc (updE (z:Int) (x++[.bool false]) lm) L h'∧h.next≤h'.next∧∀ m,m<h.next→m≠n+6→h'.get m=h.get m:=by
 obtain⟨g1,g2,g3,g4,g5,g6,g7,g8,g9,g10,g11⟩:=fineB_fine f
 have oz:=ours_grp (z:=z) (fineB_fine f) (by omega) zl
 have t1:((j+1:Nat):Int).toNat - 1=j:=by omega
 have d1:decide (1≤((j+1:Nat):Int))=true:=decide_eq_true (by omega)
 have d2:decide (((j+1:Nat):Int)≤((a * c:Nat):Int))=true:=decide_eq_true (by omega)
 have nx:=M.nx
 have zi:∀ m,m=h.next→m≠n+6:=fun m hm=>by omega
 have hs:=M.hs
 have gl:=M.hg
 have il:=inoZ_len
 have z16:inoL 0 0 0 0 0 0 0 0 0 0 0 0 0 0 0 0=inoZ:=rfl
 unfold gdL gdN at gl
 obtain⟨v,h',cc,rfl,M',nn,hk⟩:∃ v h',CallOk K Tryz.prog 11 [.c (.ptr (n+13) 0),.c (.int .i64 ((j+1:Nat):Int))] h v h'∧v=.tup [.g inoZ,.c (.int .i64 0)]∧Md n a b c e md kn lt lc (updE (z:Int) (x++[.bool false]) lm) L h'∧h.next≤h'.next∧∀ m,m<h.next→m≠n+6→h'.get m=h.get m:=by
  refine CallOk.goesE fits Hh (by kernel_rfl) (by kernel_rfl) (by kernel_rfl) (show Tryz.f11.body=some (q11 []) by kernel_rfl) rfl ?_
  show Goes K Tryz.prog 44 none _ _ _ _ _
  refine Goes.seqQ q11_ ?_
  refine Goes.opsQ q11_0 fits Hh E0_sound (by
   simp (maxSteps:=9^6) +decide (disch:=first|omega|(simp only[lens]<;>omega)|decide) only [go_sem,q11,Tryz.f11,loadIn,simprocAttr,f,hs,stN,gl,geoL,t1,d1,d2,kj,tj,t4,tp,Nat.add_zero,hz,xl,il,read1]
   rfl) ?_
  refine Goes.seqQ q11_1 ?_
  refine Goes.seqQ q11_10 ?_
  refine Goes.opsQ q11_100 fits Hh (EX_sound E0_sound (fun _ _ _ _=>xIMade_ok Hh)) (by
   simp (maxSteps:=9^6) +decide (disch:=first|omega|(simp only[lens]<;>omega)|decide) only [go_sem,q11,Tryz.f11,loadIn,simprocAttr,f,hs,stN,gl,geoL,t1,d1,d2,kj,tj,t4,tp,Nat.add_zero,hz,xl,il,read1]
   rfl) ?_
  refine Goes.seqQ q11_101 ?_
  refine Goes.opsQ q11_1010 fits Hh E0_sound (by
   simp (maxSteps:=9^6) +decide (disch:=first|omega|(simp only[lens]<;>omega)|decide) only [go_sem,q11,Tryz.f11,loadIn,simprocAttr,f,hs,stN,gl,geoL,t1,d1,d2,kj,tj,t4,tp,Nat.add_zero,hz,xl,il,read1]
   rfl) ?_
  refine Goes.condFQ q11_1011 (by simp (maxSteps:=9^6) +decide (disch:=first|omega|(simp only[lens]<;>omega)|decide) only [go_sem,loadIn,simprocAttr,f,hs,stN,gl,geoL,t1,d1,d2,kj,tj,t4,tp,Nat.add_zero,hz,xl,il,read1]<;>rfl) (by first|rfl|assumption|exact decide_eq_false (by omega)|(simp; omega)) ?_
  refine Goes.skipQ q11_10114 ?_
  refine Goes.seqQ q11_11 ?_
  refine Goes.opsQ q11_110 fits Hh (EX_sound (EX_sound E0_sound (fun _ _ _ _=>xSGeo_ok Hh)) (fun _ _ _ _=>xgInode_ok Hh)) (by
   simp (maxSteps:=9^6) +decide (disch:=first|omega|(simp only[lens]<;>omega)|decide) only [go_sem,q11,Tryz.f11,loadIn,simprocAttr,f,hs,stN,gl,geoL,t1,d1,d2,kj,tj,t4,tp,Nat.add_zero,hz,xl,il,read1]
   rfl) ?_
  refine Goes.seqQ q11_111 ?_
  refine Goes.seqQ q11_1110 ?_
  refine Goes.opsQ q11_11100 fits Hh E0_sound (by
   simp (maxSteps:=9^6) +decide (disch:=first|omega|(simp only[lens]<;>omega)|decide) only [go_sem,q11,Tryz.f11,loadIn,simprocAttr,f,hs,stN,gl,geoL,t1,d1,d2,kj,tj,t4,tp,Nat.add_zero,hz,xl,il,read1]
   rfl) ?_
  refine Goes.condFQ q11_11101 (by simp (maxSteps:=9^6) +decide (disch:=first|omega|(simp only[lens]<;>omega)|decide) only [go_sem,loadIn,simprocAttr,f,hs,stN,gl,geoL,t1,d1,d2,kj,tj,t4,tp,Nat.add_zero,hz,xl,il,read1]<;>rfl) (by first|rfl|assumption|exact decide_eq_false (by omega)|(simp; omega)) ?_
  refine Goes.skipQ q11_111014 ?_
  refine Goes.seqQ q11_1111 ?_
  refine Goes.abs fun hA eA=>?_
  have nA:hA.next=h.next+1:=by rw[eA]; first|rfl|simp only[H.next_put,H.next_new]
  have kA:∀ m,m<h.next→hA.get m=h.get m:=fun m hm=>by rw[eA]; (first|(simp (discharger:=omega) only [H.get_put,H.get_new,H.get_del,H.next_new,H.next_put,H.next_del,if_neg]; done)|(simp only[H.get_put,H.get_new,H.get_del,H.next_new,H.next_put,H.next_del]; (repeat' split)<;>first|rfl|(exfalso; omega)|omega))
  obtain⟨y,yl,cA⟩:∃ y:List C,y.length=16∧hA.get h.next=some (.row 16 [y] false):=⟨_,inoZ_len,by rw[eA]; simp (maxSteps:=9^6) +decide (disch:=first|omega|(simp only[lens]<;>omega)|decide) only [go_sem,loadIn,simprocAttr]<;>rfl⟩
  clear eA
  have MA:=M.keep (h2:=hA) (by omega) (fun m hm=>kA m (by omega))
  have c1:=xSGet_ok Hh (MA.xDisk f oz zl hl hl2 fl hx xl xf)
  have MB:=MA.seen (updE (z:Int) (x++[.bool false]) lm)
  refine Goes.opsQ q11_11110 fits Hh (E1_sound E0_sound c1) (by
   simp (maxSteps:=9^6) +decide (disch:=first|omega|(simp only[lens]<;>omega)|decide) only [go_sem,q11,Tryz.f11,loadIn,simprocAttr,E1_call,f,hs,stN,gl,geoL,t1,d1,d2,kj,tj,t4,tp,Nat.add_zero,hz,xl,il,read1]
   rfl) ?_
  refine Goes.seqQ q11_11111 ?_
  refine Goes.seqQ q11_111110 ?_
  refine Goes.opsQ q11_1111100 fits Hh E0_sound (by
   simp (maxSteps:=9^6) +decide (disch:=first|omega|(simp only[lens]<;>omega)|decide) only [go_sem,q11,Tryz.f11,loadIn,simprocAttr,f,hs,stN,gl,geoL,t1,d1,d2,kj,tj,t4,tp,Nat.add_zero,hz,xl,il,nA,cA,read1]
   rfl) ?_
  refine Goes.condFQ q11_1111101 (by simp (maxSteps:=9^6) +decide (disch:=first|omega|(simp only[lens]<;>omega)|decide) only [go_sem,loadIn,simprocAttr,f,hs,stN,gl,geoL,t1,d1,d2,kj,tj,t4,tp,Nat.add_zero,hz,xl,il,nA,cA,read1]<;>rfl) (by first|rfl|assumption|exact decide_eq_false (by omega)|(simp; omega)) ?_
  refine Goes.skipQ q11_11111014 ?_
  refine Goes.seqQ q11_111111 ?_
  refine Goes.abs fun hB eB=>?_
  have nB:hB.next=h.next+1+1:=by rw[eB]; simp only[H.next_put,H.next_new,nA]
  have kB:∀ m,m<h.next→m≠n+6→hB.get m=h.get m:=fun m hm hne=>by rw[eB]; refine Eq.trans ?_ (kA m hm); (first|(simp (discharger:=omega) only [H.get_put,H.get_new,H.get_del,H.next_new,H.next_put,H.next_del,if_neg]; done)|(simp only[H.get_put,H.get_new,H.get_del,H.next_new,H.next_put,H.next_del]; (repeat' split)<;>first|rfl|(exfalso; omega)|omega))
  have cB:hB.get h.next=some (.row 16 [y] false):=by rw[eB]; refine Eq.trans ?_ cA; (first|(simp (discharger:=omega) only [H.get_put,H.get_new,H.get_del,H.next_new,H.next_put,H.next_del,if_neg]; done)|(simp only[H.get_put,H.get_new,H.get_del,H.next_new,H.next_put,H.next_del]; (repeat' split)<;>first|rfl|(exfalso; omega)|omega))
  have bB:hB.get (h.next+1)=some (.row 256 [x] false):=by rw[eB]; simp (maxSteps:=9^6) +decide (disch:=first|omega|(simp only[lens]<;>omega)|decide) only [go_sem,loadIn,simprocAttr,nA,xl]<;>rfl
  have MC:Md n a b c e md kn lt lc (updE (z:Int) (x++[.bool false]) lm) L hB:=MB.keep (by rw[eB]; simp only[H.next_put,H.next_new]<;>omega) (fun m hm=>by rw[eB]; (first|(simp (discharger:=omega) only [H.get_put,H.get_new,H.get_del,H.next_new,H.next_put,H.next_del,if_neg]; done)|(simp only[H.get_put,H.get_new,H.get_del,H.next_new,H.next_put,H.next_del]; (repeat' split)<;>first|rfl|(exfalso; omega)|omega)))
  clear eB
  have c2:=hi hB
  refine Goes.opsQ q11_1111110 fits Hh (E1_sound E0_sound c2) (by
   simp (maxSteps:=9^6) +decide (disch:=first|omega|(simp only[lens]<;>omega)|decide) only [go_sem,q11,Tryz.f11,loadIn,simprocAttr,E1_call,f,hs,stN,gl,geoL,t1,d1,d2,kj,tj,t4,tp,Nat.add_zero,hz,xl,il,nA,cA,nB,cB,bB,yl,nA,read1]
   rfl) ?_
  refine Goes.retQ q11_1111111 ?_
  refine⟨_,_,(by simp (maxSteps:=9^6) +decide (disch:=first|omega|(simp only[lens]<;>omega)|decide) only [go_sem,loadIn,simprocAttr,cB,il]<;>rfl),rfl,MC.keep ?_ (fun m hm=>?_),?_,fun m hm hne=>?_⟩
  ·first|omega|(simp only[H.next_put,H.next_new]<;>omega)
  ·(first|(simp (discharger:=omega) only [H.get_put,H.get_new,H.get_del,H.next_new,H.next_put,H.next_del,if_neg]; done)|(simp only[H.get_put,H.get_new,H.get_del,H.next_new,H.next_put,H.next_del]; (repeat' split)<;>first|rfl|(exfalso; omega)|omega))
  ·first|omega|(simp only[H.next_put,H.next_new]<;>omega)
  ·refine Eq.trans ?_ (kB m hm hne); (first|(simp (discharger:=omega) only [H.get_put,H.get_new,H.get_del,H.next_new,H.next_put,H.next_del,if_neg]; done)|(simp only[H.get_put,H.get_new,H.get_del,H.next_new,H.next_put,H.next_del]; (repeat' split)<;>first|rfl|(exfalso; omega)|omega))
 exact⟨h',cc,M',nn,hk⟩
end
end Go.Proofs.YtlbbmhgdcdcdnaaGreatDoor
set_option maxRecDepth 100000
set_option maxHeartbeats 4000000
namespace Go.Proofs.YtlbbmhgdcdcdnaaGreatDoor
open Go.Ev
noncomputable def q37 (p:List Nat):Code:=piece p (bodyOf Tryz.f37)
theorem q37_:q37 []=.seq (q37 [0]) (q37 [1]):=by kernel_rfl
theorem q37_0:q37 [0]=.region 0 (opsA (q37 [0])) false:=by kernel_rfl
theorem q37_1:q37 [1]=.seq (q37 [1,0]) (q37 [1,1]):=by kernel_rfl
theorem q37_10:q37 [1,0]=.region 1 (opsA (q37 [1,0])) false:=by kernel_rfl
theorem q37_11:q37 [1,1]=.seq (q37 [1,1,0]) (q37 [1,1,1]):=by kernel_rfl
theorem q37_110:q37 [1,1,0]=.seq (q37 [1,1,0,0]) (q37 [1,1,0,1]):=by kernel_rfl
theorem q37_1100:q37 [1,1,0,0]=.region 2 (opsA (q37 [1,1,0,0])) true:=by kernel_rfl
theorem q37_1101:q37 [1,1,0,1]=.seq (q37 [1,1,0,1,0]) (q37 [1,1,0,1,1]):=by kernel_rfl
theorem q37_11010:q37 [1,1,0,1,0]=.region 3 (opsA (q37 [1,1,0,1,0])) false:=by kernel_rfl
theorem q37_11011:q37 [1,1,0,1,1]=.cond (.tmp 36) (q37 [1,1,0,1,1,3]) (q37 [1,1,0,1,1,4]):=by kernel_rfl
theorem q37_110114:q37 [1,1,0,1,1,4]=.skip:=by kernel_rfl
theorem q37_111:q37 [1,1,1]=.seq (q37 [1,1,1,0]) (q37 [1,1,1,1]):=by kernel_rfl
theorem q37_1110:q37 [1,1,1,0]=.region 5 (opsA (q37 [1,1,1,0])) false:=by kernel_rfl
theorem q37_1111:q37 [1,1,1,1]=.seq (q37 [1,1,1,1,0]) (q37 [1,1,1,1,1]):=by kernel_rfl
theorem q37_11110:q37 [1,1,1,1,0]=.region 6 (opsA (q37 [1,1,1,1,0])) false:=by kernel_rfl
theorem q37_11111:q37 [1,1,1,1,1]=.seq (q37 [1,1,1,1,1,0]) (q37 [1,1,1,1,1,1]):=by kernel_rfl
theorem q37_111110:q37 [1,1,1,1,1,0]=.seq (q37 [1,1,1,1,1,0,0]) (q37 [1,1,1,1,1,0,1]):=by kernel_rfl
theorem q37_1111100:q37 [1,1,1,1,1,0,0]=.region 7 (opsA (q37 [1,1,1,1,1,0,0])) false:=by kernel_rfl
theorem q37_1111101:q37 [1,1,1,1,1,0,1]=.cond (.tmp 51) (q37 [1,1,1,1,1,0,1,3]) (q37 [1,1,1,1,1,0,1,4]):=by kernel_rfl
theorem q37_11111014:q37 [1,1,1,1,1,0,1,4]=.skip:=by kernel_rfl
theorem q37_111111:q37 [1,1,1,1,1,1]=.seq (q37 [1,1,1,1,1,1,0]) (q37 [1,1,1,1,1,1,1]):=by kernel_rfl
theorem q37_1111110:q37 [1,1,1,1,1,1,0]=.seq (q37 [1,1,1,1,1,1,0,0]) (q37 [1,1,1,1,1,1,0,1]):=by kernel_rfl
theorem q37_11111100:q37 [1,1,1,1,1,1,0,0]=.region 9 (opsA (q37 [1,1,1,1,1,1,0,0])) false:=by kernel_rfl
theorem q37_11111101:q37 [1,1,1,1,1,1,0,1]=.seq (q37 [1,1,1,1,1,1,0,1,0]) (q37 [1,1,1,1,1,1,0,1,1]):=by kernel_rfl
theorem q37_111111010:q37 [1,1,1,1,1,1,0,1,0]=.region 10 (opsA (q37 [1,1,1,1,1,1,0,1,0])) false:=by kernel_rfl
theorem q37_111111011:q37 [1,1,1,1,1,1,0,1,1]=.cond (.tmp 57) (q37 [1,1,1,1,1,1,0,1,1,3]) (q37 [1,1,1,1,1,1,0,1,1,4]):=by kernel_rfl
theorem q37_1111110114:q37 [1,1,1,1,1,1,0,1,1,4]=.skip:=by kernel_rfl
theorem q37_1111111:q37 [1,1,1,1,1,1,1]=.seq (q37 [1,1,1,1,1,1,1,0]) (q37 [1,1,1,1,1,1,1,1]):=by kernel_rfl
theorem q37_11111110:q37 [1,1,1,1,1,1,1,0]=.region 12 (opsA (q37 [1,1,1,1,1,1,1,0])) false:=by kernel_rfl
theorem q37_11111111:q37 [1,1,1,1,1,1,1,1]=.ret:=by kernel_rfl
theorem rs37:Tryz.f37.results.toList=[.tmp 12]:=rfl
attribute [go_sem] rs37
theorem writeRow_cell {sz k j:Nat} {L:List (List C)} {x:List C} {c:C} (hx:L[k]? = some x) (xl:x.length=sz) (hj:j<sz):writeRow sz L (k * sz+j) [c]=some (L.set k (x.set j c)):=by
 have e1:(k * sz+j) / sz=k:=by rw[Nat.mul_comm,Nat.mul_add_div (by omega),Nat.div_eq_of_lt hj,Nat.add_zero]
 have e2:(k * sz+j) % sz=j:=by rw[Nat.mul_comm,Nat.mul_add_mod,Nat.mod_eq_of_lt hj]
 simp only[writeRow,e1,e2,hx]
 rw[blt_t (by omega),cond_true]
section
variable (Hh:Hearts K Tryz.prog)
include Hh
variable {n a b c e:Nat} {md:Int} {kn:Bool} {lt lc lm:Ents} {L:List (List C)} {h:Go.Ev.H}
theorem iWrite (f:fineB a b c e=true) (M:Md n a b c e md kn lt lc lm L h) {j k t p z:Nat} {x y:List C} (kj:j / c=k) (tj:j % c=t) (t4:t / 4=0) (tp:t % 4 * 64=p) (jl:j<a * c) (hz:2+e+k * b+2=z) (zl:z<2+e+a * b) (hl:lookE (z:Int) lc=none) (hl2:lookE (z:Int) lm=some (x++[.bool false])) (xl:x.length=256) (xf:x.all C.flat=true) (yl:y.length=256) (yf:y.all C.flat=true) (ft:flatE lt=true) (fc:flatE lc=true) (tk:lookE (z:Int) lt=none) (tl:lt.length<3)
  (hi:∀ h m,h.get m=some (.row 256 [x] false)→CallOk K Tryz.prog 55 [.c (.ptr m 0),.c (.int .i64 (p:Int)),.g inoN] h (.w (.c (.int .i64 0))) (h.put m (.row 256 [y] false))) :
  ∃ h',CallOk K Tryz.prog 45 [.c (.ptr (n+13) 0),.c (.int .i64 ((j+1:Nat):Int)),.g inoN] h (.w (.c (.int .i64 0))) h'∧h.next≤h'.next∧∀ m,m<h.next→m<n∨n+32≤m→h'.get m=h.get m:=by
 obtain⟨g1,g2,g3,g4,g5,g6,g7,g8,g9,g10,g11⟩:=fineB_fine f
 have oz:=ours_grp (z:=z) (fineB_fine f) (by omega) zl
 have t1:((j+1:Nat):Int).toNat - 1=j:=by omega
 have d1:decide (1≤((j+1:Nat):Int))=true:=decide_eq_true (by omega)
 have d2:decide (((j+1:Nat):Int)≤((a * c:Nat):Int))=true:=decide_eq_true (by omega)
 have nx:=M.nx
 have hs:=M.hs
 have gl:=M.hg
 have il:=inoN_len
 unfold gdL gdN at gl
 obtain⟨v,h',cc,rfl,nn,hk⟩:∃ v h',CallOk K Tryz.prog 45 [.c (.ptr (n+13) 0),.c (.int .i64 ((j+1:Nat):Int)),.g inoN] h v h'∧v=.w (.c (.int .i64 0))∧h.next≤h'.next∧∀ m,m<h.next→m<n∨n+32≤m→h'.get m=h.get m:=by
  refine CallOk.goesE fits Hh (by kernel_rfl) (by kernel_rfl) (by kernel_rfl) (show Tryz.f45.body=some (q45 []) by kernel_rfl) rfl ?_
  show Goes K Tryz.prog 42 none _ _ _ _ _
  refine Goes.seqQ q45_ ?_
  refine Goes.opsQ q45_0 fits Hh E0_sound (by
   simp (maxSteps:=9^6) +decide (disch:=first|omega|(simp only[lens]<;>omega)|decide) only [go_sem,q45,Tryz.f45,loadIn,simprocAttr,f,hs,stN,gl,geoL,t1,d1,d2,kj,tj,t4,tp,Nat.add_zero,hz,xl,yl,il,read1,opBox]
   rfl) ?_
  refine Goes.seqQ q45_1 ?_
  refine Goes.opsQ q45_10 fits Hh (EX_sound (EX_sound E0_sound (fun _ _ _ _=>xSGeo_ok Hh)) (fun _ _ _ _=>xgInode_ok Hh)) (by
   simp (maxSteps:=9^6) +decide (disch:=first|omega|(simp only[lens]<;>omega)|decide) only [go_sem,q45,Tryz.f45,loadIn,simprocAttr,f,hs,stN,gl,geoL,t1,d1,d2,kj,tj,t4,tp,Nat.add_zero,hz,xl,yl,il,read1,opBox]
   rfl) ?_
  refine Goes.seqQ q45_11 ?_
  refine Goes.seqQ q45_110 ?_
  refine Goes.opsQ q45_1100 fits Hh E0_sound (by
   simp (maxSteps:=9^6) +decide (disch:=first|omega|(simp only[lens]<;>omega)|decide) only [go_sem,q45,Tryz.f45,loadIn,simprocAttr,f,hs,stN,gl,geoL,t1,d1,d2,kj,tj,t4,tp,Nat.add_zero,hz,xl,yl,il,read1,opBox]
   rfl) ?_
  refine Goes.condFQ q45_1101 (by simp (maxSteps:=9^6) +decide (disch:=first|omega|(simp only[lens]<;>omega)|decide) only [go_sem,loadIn,simprocAttr,f,hs,stN,gl,geoL,t1,d1,d2,kj,tj,t4,tp,Nat.add_zero,hz,xl,yl,il,read1,opBox]<;>rfl) (by first|rfl|assumption|exact decide_eq_false (by omega)|(simp; omega)) ?_
  refine Goes.skipQ q45_11014 ?_
  refine Goes.seqQ q45_111 ?_
  refine Goes.abs fun hA eA=>?_
  have nA:hA.next=h.next+1:=by rw[eA]; first|rfl|simp only[H.next_put,H.next_new]
  have kA:∀ m,m<h.next→hA.get m=h.get m:=fun m hm=>by rw[eA]; (first|(simp (discharger:=omega) only [H.get_put,H.get_new,H.get_del,H.next_new,H.next_put,H.next_del,if_neg]; done)|(simp only[H.get_put,H.get_new,H.get_del,H.next_new,H.next_put,H.next_del]; (repeat' split)<;>first|rfl|(exfalso; omega)|omega))
  have cA:hA.get h.next=some (.row 16 [inoN] false):=by rw[eA]; simp (maxSteps:=9^6) +decide (disch:=first|omega|(simp only[lens]<;>omega)|decide) only [go_sem,loadIn,simprocAttr]<;>rfl
  clear eA
  have MA:=M.keep (h2:=hA) (by omega) (fun m hm=>kA m (by omega))
  have c1:=xSGet_ok Hh (MA.xSeen f oz zl hl hl2 xl xf)
  refine Goes.opsQ q45_1110 fits Hh (E1_sound E0_sound c1) (by
   simp (maxSteps:=9^6) +decide (disch:=first|omega|(simp only[lens]<;>omega)|decide) only [go_sem,q45,Tryz.f45,loadIn,simprocAttr,E1_call,f,hs,stN,gl,geoL,t1,d1,d2,kj,tj,t4,tp,Nat.add_zero,hz,xl,yl,il,read1,opBox]
   rfl) ?_
  refine Goes.seqQ q45_1111 ?_
  refine Goes.seqQ q45_11110 ?_
  refine Goes.opsQ q45_111100 fits Hh E0_sound (by
   simp (maxSteps:=9^6) +decide (disch:=first|omega|(simp only[lens]<;>omega)|decide) only [go_sem,q45,Tryz.f45,loadIn,simprocAttr,f,hs,stN,gl,geoL,t1,d1,d2,kj,tj,t4,tp,Nat.add_zero,hz,xl,yl,il,nA,cA,read1,opBox]
   rfl) ?_
  refine Goes.condFQ q45_111101 (by simp (maxSteps:=9^6) +decide (disch:=first|omega|(simp only[lens]<;>omega)|decide) only [go_sem,loadIn,simprocAttr,f,hs,stN,gl,geoL,t1,d1,d2,kj,tj,t4,tp,Nat.add_zero,hz,xl,yl,il,nA,cA,read1,opBox]<;>rfl) (by first|rfl|assumption|exact decide_eq_false (by omega)|(simp; omega)) ?_
  refine Goes.skipQ q45_1111014 ?_
  refine Goes.seqQ q45_11111 ?_
  refine Goes.seqQ q45_111110 ?_
  refine Goes.abs fun hB eB=>?_
  have nB:hB.next=h.next+1+1:=by rw[eB]; simp only[H.next_put,H.next_new,nA]
  have cB:hB.get h.next=some (.row 16 [inoN] false):=by rw[eB]; refine Eq.trans ?_ cA; (first|(simp (discharger:=omega) only [H.get_put,H.get_new,H.get_del,H.next_new,H.next_put,H.next_del,if_neg]; done)|(simp only[H.get_put,H.get_new,H.get_del,H.next_new,H.next_put,H.next_del]; (repeat' split)<;>first|rfl|(exfalso; omega)|omega))
  have kB:∀ m,m<h.next→hB.get m=h.get m:=fun m hm=>by rw[eB]; refine Eq.trans ?_ (kA m hm); (first|(simp (discharger:=omega) only [H.get_put,H.get_new,H.get_del,H.next_new,H.next_put,H.next_del,if_neg]; done)|(simp only[H.get_put,H.get_new,H.get_del,H.next_new,H.next_put,H.next_del]; (repeat' split)<;>first|rfl|(exfalso; omega)|omega))
  have bB:hB.get (h.next+1)=some (.row 256 [x] false):=by rw[eB]; simp (maxSteps:=9^6) +decide (disch:=first|omega|(simp only[lens]<;>omega)|decide) only [go_sem,loadIn,simprocAttr,nA,xl]<;>rfl
  have MB:Md n a b c e md kn lt lc lm L hB:=MA.keep (by rw[eB]; simp only[H.next_put,H.next_new]<;>omega) (fun m hm=>by rw[eB]; (first|(simp (discharger:=omega) only [H.get_put,H.get_new,H.get_del,H.next_new,H.next_put,H.next_del,if_neg]; done)|(simp only[H.get_put,H.get_new,H.get_del,H.next_new,H.next_put,H.next_del]; (repeat' split)<;>first|rfl|(exfalso; omega)|omega)))
  clear eB
  have c2:=hi hB _ bB
  have r16:readRow 16 [inoN] 0 16=some inoN:=rfl
  refine Goes.opsQ q45_1111100 fits Hh (E1_sound E0_sound c2) (by
   simp (maxSteps:=9^6) +decide (disch:=first|omega|(simp only[lens]<;>omega)|decide) only [go_sem,q45,Tryz.f45,loadIn,simprocAttr,E1_call,f,hs,stN,gl,geoL,t1,d1,d2,kj,tj,t4,tp,Nat.add_zero,hz,xl,yl,il,nA,cA,nB,cB,bB,r16,nA,read1,opBox]
   rfl) ?_
  refine Goes.seqQ q45_1111101 ?_
  refine Goes.opsQ q45_11111010 fits Hh E0_sound (by
   simp (maxSteps:=9^6) +decide (disch:=first|omega|(simp only[lens]<;>omega)|decide) only [go_sem,q45,Tryz.f45,loadIn,simprocAttr,f,hs,stN,gl,geoL,t1,d1,d2,kj,tj,t4,tp,Nat.add_zero,hz,xl,yl,il,nA,cA,nB,cB,bB,r16,nA,read1,opBox]
   rfl) ?_
  refine Goes.condFQ q45_11111011 (by simp (maxSteps:=9^6) +decide (disch:=first|omega|(simp only[lens]<;>omega)|decide) only [go_sem,loadIn,simprocAttr,f,hs,stN,gl,geoL,t1,d1,d2,kj,tj,t4,tp,Nat.add_zero,hz,xl,yl,il,nA,cA,nB,cB,bB,r16,nA,read1,opBox]<;>rfl) (by first|rfl|assumption|exact decide_eq_false (by omega)|(simp; omega)) ?_
  refine Goes.skipQ q45_111110114 ?_
  refine Goes.seqQ q45_111111 ?_
  refine Goes.abs fun hC eC=>?_
  have bC:hC.get (h.next+1)=some (.row 256 [y] false):=by rw[eC,get_put_self]
  have kC:∀ m,m<h.next→hC.get m=h.get m:=fun m hm=>by rw[eC,get_put_ne (by omega)]; exact kB m hm
  have nC:hC.next=h.next+1+1:=by rw[eC,H.next_put,nB]
  have MC:Md n a b c e md kn lt lc lm L hC:=MB.keep (by rw[eC,H.next_put]; omega) (fun m hm=>by rw[eC,get_put_ne (by omega)])
  clear eC
  have c3:=xSPut_ok Hh (MC.xPut f oz zl yl yf ft fc tk tl)
  refine Goes.opsQ q45_1111110 fits Hh (E1_sound E0_sound c3) (by
   simp (maxSteps:=9^6) +decide (disch:=first|omega|(simp only[lens]<;>omega)|decide) only [go_sem,q45,Tryz.f45,loadIn,simprocAttr,E1_call,f,hs,stN,gl,geoL,t1,d1,d2,kj,tj,t4,tp,Nat.add_zero,hz,xl,yl,il,nA,cA,nB,cB,bB,r16,nA,bC,read1,opBox]
   rfl) ?_
  refine Goes.retQ q45_1111111 ?_
  exact⟨_,_,(by simp (maxSteps:=9^6) +decide (disch:=first|omega|(simp only[lens]<;>omega)|decide) only [go_sem,loadIn,simprocAttr]<;>rfl),rfl,(by rw[putM_next]; omega),fun m hm ho=>(putM_get _ _ (by omega) (by omega) (by omega) (by omega)).trans (kC m hm)⟩
 exact⟨h',cc,nn,hk⟩
theorem take1Ok {p q k:Nat} {D:List Desc} {ro:Bool} {x y w:Nat} (hq:h.get q=some (.row 1 [[.int .u8 2]] ro)) (hp:h.get p=some (.row 3 (D.map rowD) false)) (hk:D[k]? = some (x,y,w)) (y1:1≤y) (y2:y<4096) (w2:w<4096) (pq:p≠q):CallOk K Tryz.prog 38 [.c (.ptr p (k * 3)),.c (.ptr q 0)] h (.tup []) (h.put p (.row 3 ((D.set k (x,y - 1,w+1)).map rowD) false)):=by
 have hr:(D.map rowD)[k]? = some [.int .i64 (x:Int),.int .i64 (y:Int),.int .i64 (w:Int)]:=by rw[List.getElem?_map,hk]; rfl
 have kl:k<(D.map rowD).length:=by
  rcases Nat.lt_or_ge k (D.map rowD).length with h1|h1
  ·exact h1
  ·rw[List.getElem?_eq_none h1] at hr; cases hr
 have r1:read1 3 (D.map rowD) (k * 3+1)=some (.int .i64 (y:Int)):=read1_el (sz:=3) (j:=1) (by omega) hr
 have w1:writeRow 3 (D.map rowD) (k * 3+1) [.int .i64 ((y:Int) - 1)]=some ((D.map rowD).set k [.int .i64 (x:Int),.int .i64 ((y:Int) - 1),.int .i64 (w:Int)]):=writeRow_cell hr rfl (by omega)
 have hr2:((D.map rowD).set k [.int .i64 (x:Int),.int .i64 ((y:Int) - 1),.int .i64 (w:Int)])[k]? = some [.int .i64 (x:Int),.int .i64 ((y:Int) - 1),.int .i64 (w:Int)]:=List.getElem?_set_self kl
 have r2:read1 3 ((D.map rowD).set k [.int .i64 (x:Int),.int .i64 ((y:Int) - 1),.int .i64 (w:Int)]) (k * 3+2)=some (.int .i64 (w:Int)):=read1_el (sz:=3) (j:=2) (by omega) hr2
 have w2':writeRow 3 ((D.map rowD).set k [.int .i64 (x:Int),.int .i64 ((y:Int) - 1),.int .i64 (w:Int)]) (k * 3+2) [.int .i64 ((w:Int)+1)]=some (((D.map rowD).set k [.int .i64 (x:Int),.int .i64 ((y:Int) - 1),.int .i64 (w:Int)]).set k [.int .i64 (x:Int),.int .i64 ((y:Int) - 1),.int .i64 ((w:Int)+1)]):=writeRow_cell hr2 rfl (by omega)
 have rq:read1 1 [[C.int .u8 2]] 0=some (.int .u8 2):=rfl
 have fin:((D.map rowD).set k [.int .i64 (x:Int),.int .i64 ((y:Int) - 1),.int .i64 (w:Int)]).set k [.int .i64 (x:Int),.int .i64 ((y:Int) - 1),.int .i64 ((w:Int)+1)]=(D.set k (x,y - 1,w+1)).map rowD:=by
  rw[List.set_set,List.map_set]
  congr 1
  show _=[C.int .i64 (x:Int),.int .i64 ((y - 1:Nat):Int),.int .i64 ((w+1:Nat):Int)]
  rw[show ((y - 1:Nat):Int)=(y:Int) - 1 by omega]
  rfl
 obtain⟨Z,hZ⟩:∃ Z,D.map rowD=Z:=⟨_,rfl⟩
 have fg:=fin
 rw[hZ] at hp r1 w1 r2 w2' fg
 have pp:=@H.put_put
 obtain⟨v,h',cc,rfl,rfl⟩:∃ v h',CallOk K Tryz.prog 38 [.c (.ptr p (k * 3)),.c (.ptr q 0)] h v h'∧v=.tup []∧h'=h.put p (.row 3 ((D.set k (x,y - 1,w+1)).map rowD) false):=by
  refine CallOk.goesE fits Hh (by kernel_rfl) (by kernel_rfl) (by kernel_rfl) (show Tryz.f38.body=some _ from rfl) rfl ?_
  repeat (first
   | refine Goes.seq ?_
   | refine Goes.block ?_
   | refine Goes.loop ?_
   | refine Goes.skip ?_
   | refine Goes.exit ?_
   | refine Goes.ret ?_
   | refine Goes.condV (by simp (maxSteps:=9^6) +decide (disch:=first|omega|(simp only[lens]<;>omega)|decide) only [go_sem,readRow,loadIn,simprocAttr,hq,hp,r1,w1,r2,w2',rq,pp,fg]<;>rfl) ?_
   | refine Goes.ops2 fits Hh E0_sound (by simp (maxSteps:=9^6) +decide (disch:=first|omega|(simp only[lens]<;>omega)|decide) only [go_sem,readRow,loadIn,simprocAttr,hq,hp,r1,w1,r2,w2',rq,pp,fg]; rfl) ?_)
  exact⟨_,_,(by simp (maxSteps:=9^6) +decide (disch:=first|omega|(simp only[lens]<;>omega)|decide) only [go_sem,readRow,loadIn,simprocAttr,fg,pp]<;>rfl),rfl,rfl⟩
 exact cc
end
end Go.Proofs.YtlbbmhgdcdcdnaaGreatDoor
set_option maxRecDepth 100000
set_option maxHeartbeats 4000000
namespace Go.Proofs.YtlbbmhgdcdcdnaaGreatDoor
open Go.Ev
theorem upd_le (k:Int) (x:List C) (l:Ents):(updE k x l).length≤l.length+1:=by
 rw[upd_len]
 split<;>omega
section
variable (Hh:Hearts K Tryz.prog)
include Hh
variable {n a b c e:Nat} {md:Int} {kn:Bool} {lm:Ents} {L:List (List C)} {h:Go.Ev.H}
theorem iChange (f:fineB a b c e=true) (M:Md n a b c e md kn [] [] lm L h) {j k t p z zb:Nat} {x y mB:List C} (kj:j / c=k) (tj:j % c=t) (t4:t / 4=0) (tp:t % 4 * 64=p) (jl:j<a * c) (ka:k<a) (hz:2+e+k * b+2=z) (hb:2+e+k * b+1=zb) (hl2:lookE (z:Int) lm=some (x++[.bool false])) (xl:x.length=256) (xf:x.all C.flat=true) (yl:y.length=256) (yf:y.all C.flat=true) (ml:mB.length=256) (mf:mB.all C.flat=true)
  {pD q:Nat} {D:List Desc} {ro:Bool} {x0 i0 w0:Nat} (hq:h.get q=some (.row 1 [[.int .u8 2]] ro)) (hp:h.get pD=some (.row 3 (D.map rowD) false)) (hk:D[k]? = some (x0,i0,w0)) (y1:1≤i0) (y2:i0<4096) (y3:w0<4096) (pq:pD≠q) (p32:n+32≤pD) (q32:n+32≤q) (pl:pD<h.next) (ql:q<h.next) (Dl:D.length=a) (Dm:(D.set k (x0,i0 - 1,w0+1)).all (mayD (b - 2 - c / 4) c)=true)
  (hi:∀ h m,h.get m=some (.row 256 [x] false)→CallOk K Tryz.prog 55 [.c (.ptr m 0),.c (.int .i64 (p:Int)),.g inoN] h (.w (.c (.int .i64 0))) (h.put m (.row 256 [y] false))) :
  ∃ h',CallOk K Tryz.prog 37 [.c (.ptr (n+13) 0),.c (.int .i64 ((j+1:Nat):Int)),.g mB,.c (.slice pD 0 a 3),.g inoN,.c (.fn 38 [] [some (q,0)])] h (.w (.c (.int .i64 0))) h'∧h.next≤h'.next∧∀ m,m<h.next→n+32≤m→m≠pD→h'.get m=h.get m:=by
 obtain⟨g1,g2,g3,g4,g5,g6,g7,g8,g9,g10,g11⟩:=fineB_fine f
 have st:=mul_step (b:=b) ka
 have zl:z<2+e+a * b:=by omega
 have zbl:zb<2+e+a * b:=by omega
 have ob:=ours_grp (z:=zb) (fineB_fine f) (by omega) zbl
 have t1:((j+1:Nat):Int).toNat - 1=j:=by omega
 have d1:decide (1≤((j+1:Nat):Int))=true:=decide_eq_true (by omega)
 have d2:decide (((j+1:Nat):Int)≤((a * c:Nat):Int))=true:=decide_eq_true (by omega)
 have nx:=M.nx
 have hs:=M.hs
 have gl:=M.hg
 have gl0:=M.hg
 unfold gdL gdN at gl
 have il:=inoN_len
 obtain⟨D',hD'⟩:∃ D',D.set k (x0,i0 - 1,w0+1)=D':=⟨_,rfl⟩
 have Dl':D'.length=a:=by rw[←hD',List.length_set,Dl]
 rw[hD'] at Dm
 obtain⟨Y,hY⟩:∃ Y,pgL (sealN (desN D' 0 zerN0))=Y:=⟨_,rfl⟩
 have Yl:Y.length=256:=by rw[←hY,pg_len,sealN,put4_len,desN_len]; exact zer_len
 have Yf:Y.all C.flat=true:=by rw[←hY]; exact flat_pg _
 have f0:flatE []=true:=rfl
 have ft1:flatE (updE (zb:Int) [] [])=true:=flat_upd rfl f0
 have fc1:flatE (updE (zb:Int) mB [])=true:=flat_upd mf f0
 have ft2:flatE (updE 1 [] (updE (zb:Int) [] []))=true:=flat_upd rfl ft1
 have fc2:flatE (updE 1 Y (updE (zb:Int) mB []))=true:=flat_upd Yf fc1
 have k1:lookE 1 (updE (zb:Int) [] [])=none:=by rw[look_upd,if_neg (by omega)]; rfl
 have kz:lookE (z:Int) (updE 1 [] (updE (zb:Int) [] []))=none:=by rw[look_upd,if_neg (by omega),look_upd,if_neg (by omega)]; rfl
 have kc:lookE (z:Int) (updE 1 Y (updE (zb:Int) mB []))=none:=by rw[look_upd,if_neg (by omega),look_upd,if_neg (by omega)]; rfl
 have u1:=upd_le (zb:Int) [] []
 have u2:=upd_le 1 [] (updE (zb:Int) [] [])
 have u0:([]:Ents).length=0:=rfl
 obtain⟨v,h',cc,rfl,nn,hkk⟩:∃ v h',CallOk K Tryz.prog 37 [.c (.ptr (n+13) 0),.c (.int .i64 ((j+1:Nat):Int)),.g mB,.c (.slice pD 0 a 3),.g inoN,.c (.fn 38 [] [some (q,0)])] h v h'∧v=.w (.c (.int .i64 0))∧h.next≤h'.next∧∀ m,m<h.next→n+32≤m→m≠pD→h'.get m=h.get m:=by
  refine CallOk.goesE fits Hh (by kernel_rfl) (by kernel_rfl) (by kernel_rfl) (show Tryz.f37.body=some (q37 []) by kernel_rfl) rfl ?_
  show Goes K Tryz.prog 63 none _ _ _ _ _
  refine Goes.seqQ q37_ ?_
  refine Goes.opsQ q37_0 fits Hh E0_sound (by
   simp (maxSteps:=9^6) +decide (disch:=first|omega|(simp only[lens]<;>omega)|decide) only [go_sem,q37,Tryz.f37,loadIn,simprocAttr,putM_next,f,hs,stN,gl,geoL,t1,d1,d2,kj,tj,hb,ml,il,List.map_cons,ptrW,List.cons_append,Nat.zero_add,read1,opBox]
   rfl) ?_
  refine Goes.seqQ q37_1 ?_
  refine Goes.opsQ q37_10 fits Hh (EX_sound (EX_sound E0_sound (fun _ _ _ _=>xSGeo_ok Hh)) (fun _ _ _ _=>xgHome_ok Hh)) (by
   simp (maxSteps:=9^6) +decide (disch:=first|omega|(simp only[lens]<;>omega)|decide) only [go_sem,q37,Tryz.f37,loadIn,simprocAttr,putM_next,f,hs,stN,gl,geoL,t1,d1,d2,kj,tj,hb,ml,il,List.map_cons,ptrW,List.cons_append,Nat.zero_add,read1,opBox]
   rfl) ?_
  refine Goes.seqQ q37_11 ?_
  refine Goes.seqQ q37_110 ?_
  refine Goes.abs fun hA eA=>?_
  have nA:hA.next=h.next+1+1:=by rw[eA]; first|rfl|simp only[H.next_put,H.next_new]
  have kA:∀ m,m<h.next→hA.get m=h.get m:=fun m hm=>by rw[eA]; (first|(simp (discharger:=omega) only [H.get_put,H.get_new,H.get_del,H.next_new,H.next_put,H.next_del,if_neg]; done)|(simp only[H.get_put,H.get_new,H.get_del,H.next_new,H.next_put,H.next_del]; (repeat' split)<;>first|rfl|(exfalso; omega)|omega))
  have bA:hA.get h.next=some (.row 256 [mB] false):=by rw[eA]; simp (maxSteps:=9^6) +decide (disch:=first|omega|(simp only[lens]<;>omega)|decide) only [go_sem,loadIn,simprocAttr]<;>rfl
  have cA:hA.get (h.next+1)=some (.row 16 [inoN] false):=by rw[eA]; simp (maxSteps:=9^6) +decide (disch:=first|omega|(simp only[lens]<;>omega)|decide) only [go_sem,loadIn,simprocAttr]<;>rfl
  clear eA
  have MA:=M.keep (h2:=hA) (by omega) (fun m hm=>kA m (by omega))
  have hsA:=MA.hs
  have glA:=MA.hg
  unfold gdL gdN at glA
  have c1:=xSPut_ok Hh (MA.xPut f ob zbl ml mf f0 f0 rfl (by omega))
  refine Goes.drawnQ q37_1100 fits Hh (EX_sound (EX_sound (E1_sound E0_sound c1) (fun _ _ _ _=>xSGeo_ok Hh)) (fun _ _ _ _=>xIBitmap_ok Hh)) (by kernel_rfl) (by
   simp (maxSteps:=9^6) +decide (disch:=first|omega|(simp only[lens]<;>omega)|decide) only [go_sem,q37,Tryz.f37,loadIn,simprocAttr,op_move,op_assign,op_binOp,op_unOp,op_convert,op_load,op_store,op_indexAddr,op_alloc,op_pick,op_box,op_build,op_buildSlice,op_nilCheck,op_makeSlice,op_fieldAddr,op_field,op_extract,op_lookup,op_mapUpdate,op_builtin,op_index,drEnd,drAll,drOne,drTs,drKd,drPure,drRead,drAlloc,drEff,drSkip,drPut,putT_ok,putT_none,cutT,looks,tmpOf,Op.operands,Call.operands,kd,kdCall,List.filterMap_cons,List.filterMap_nil,List.append_nil,List.nil_append,List.cons_append,stables,stable,reachAt,reachP,waitsAt,waits,gives_self,List.all_cons,List.all_nil,List.any_cons,List.any_nil,Region.binds,Bool.or_true,Bool.true_or,Bool.and_true,Bool.true_and,Bool.or_false,Bool.false_or,Bool.and_self,Bool.or_self,ble_true,Nat.le_refl,Nat.le_add_right,List.map_cons,Array.toList_append,E1_call,putM_next,f,hs,stN,gl,geoL,t1,d1,d2,kj,tj,hb,ml,il,List.map_cons,ptrW,List.cons_append,Nat.zero_add,nA,bA,hsA,glA,read1,opBox]
   rfl) ?_
  refine Goes.seqQ q37_1101 ?_
  refine Goes.opsQ q37_11010 fits Hh E0_sound (by
   simp (maxSteps:=9^6) +decide (disch:=first|omega|(simp only[lens]<;>omega)|decide) only [go_sem,q37,Tryz.f37,loadIn,simprocAttr,putM_next,f,hs,stN,gl,geoL,t1,d1,d2,kj,tj,hb,ml,il,List.map_cons,ptrW,List.cons_append,Nat.zero_add,nA,bA,hsA,glA,read1,opBox]
   rfl) ?_
  refine Goes.condFQ q37_11011 (by simp (maxSteps:=9^6) +decide (disch:=first|omega|(simp only[lens]<;>omega)|decide) only [go_sem,loadIn,simprocAttr,putM_next,f,hs,stN,gl,geoL,t1,d1,d2,kj,tj,hb,ml,il,List.map_cons,ptrW,List.cons_append,Nat.zero_add,nA,bA,hsA,glA,read1,opBox]<;>rfl) (by first|rfl|assumption|exact decide_eq_false (by omega)|(simp; omega)) ?_
  refine Goes.skipQ q37_110114 ?_
  refine Goes.seqQ q37_111 ?_
  refine Goes.abs fun hB eB=>?_
  have nB:hB.next=h.next+1+1:=by rw[eB,putM_next,nA]
  have kB:∀ m,m<h.next+2→n+32≤m→hB.get m=hA.get m:=fun m hm ho=>by rw[eB]; exact putM_get _ _ (by omega) (by omega) (by omega) (by omega)
  have MB:Md n a b c e md false (updE (zb:Int) [] []) (updE (zb:Int) mB []) lm L hB:=by rw[eB]; exact MA.txn _ _
  clear eB
  have pB:=(kB pD (by omega) p32).trans ((kA _ pl).trans hp)
  have qB:=(kB q (by omega) q32).trans ((kA _ ql).trans hq)
  have c2:=take1Ok Hh qB pB hk y1 y2 y3 pq
  rw[hD'] at c2
  refine Goes.opsQ q37_1110 fits Hh (E1_sound E0_sound c2) (by
   simp (maxSteps:=9^6) +decide (disch:=first|omega|(simp only[lens]<;>omega)|decide) only [go_sem,q37,Tryz.f37,loadIn,simprocAttr,E1_call,putM_next,f,hs,stN,gl,geoL,t1,d1,d2,kj,tj,hb,ml,il,List.map_cons,ptrW,List.cons_append,Nat.zero_add,nA,bA,hsA,glA,read1,opBox]
   rfl) ?_
  refine Goes.seqQ q37_1111 ?_
  refine Goes.abs fun hC eC=>?_
  have nC:hC.next=h.next+1+1:=by rw[eC,H.next_put,nB]
  have kC:∀ m,m<h.next+2→n+32≤m→m≠pD→hC.get m=hA.get m:=fun m hm ho hne=>by rw[eC,get_put_ne hne]; exact kB m hm ho
  have pC:hC.get pD=some (.row 3 (D'.map rowD) false):=by rw[eC,get_put_self]
  have MC:Md n a b c e md false (updE (zb:Int) [] []) (updE (zb:Int) mB []) lm L hC:=MB.keep (by rw[eC,H.next_put]; omega) (fun m hm=>by rw[eC,get_put_ne (by omega)])
  clear eC
  have hsC:=MC.hs
  have glC:=MC.hg
  have stC:=MC.st
  unfold gdL gdN at glC
  refine Goes.opsQ q37_11110 fits Hh (EX_sound (EX_sound E0_sound (fun _ _ _ _=>xSGeo_ok Hh)) (fun _ _ _ _=>xWrD_ok Hh)) (by
   simp (maxSteps:=9^6) +decide (disch:=first|omega|(simp only[lens]<;>omega)|decide) only [go_sem,q37,Tryz.f37,loadIn,simprocAttr,putM_next,f,hs,stN,gl,geoL,t1,d1,d2,kj,tj,hb,ml,il,List.map_cons,ptrW,List.cons_append,Nat.zero_add,nA,bA,hsA,glA,nC,pC,hsC,glC,stC,Dl',Dm,hY,Yl,read1,opBox]
   rfl) ?_
  refine Goes.seqQ q37_11111 ?_
  refine Goes.seqQ q37_111110 ?_
  refine Goes.opsQ q37_1111100 fits Hh E0_sound (by
   simp (maxSteps:=9^6) +decide (disch:=first|omega|(simp only[lens]<;>omega)|decide) only [go_sem,q37,Tryz.f37,loadIn,simprocAttr,putM_next,f,hs,stN,gl,geoL,t1,d1,d2,kj,tj,hb,ml,il,List.map_cons,ptrW,List.cons_append,Nat.zero_add,nA,bA,hsA,glA,nC,pC,hsC,glC,stC,Dl',Dm,hY,Yl,read1,opBox]
   rfl) ?_
  refine Goes.condFQ q37_1111101 (by simp (maxSteps:=9^6) +decide (disch:=first|omega|(simp only[lens]<;>omega)|decide) only [go_sem,loadIn,simprocAttr,putM_next,f,hs,stN,gl,geoL,t1,d1,d2,kj,tj,hb,ml,il,List.map_cons,ptrW,List.cons_append,Nat.zero_add,nA,bA,hsA,glA,nC,pC,hsC,glC,stC,Dl',Dm,hY,Yl,read1,opBox]<;>rfl) (by first|rfl|assumption|exact decide_eq_false (by omega)|(simp; omega)) ?_
  refine Goes.skipQ q37_11111014 ?_
  refine Goes.seqQ q37_111111 ?_
  refine Goes.seqQ q37_1111110 ?_
  refine Goes.abs fun hD eD=>?_
  have nD:hD.next=h.next+1+1+1:=by rw[eD]; simp only[H.next_put,H.next_new,nC]
  have kD:∀ m,m<h.next+2→n+32≤m→m≠pD→hD.get m=hA.get m:=fun m hm ho hne=>by rw[eD]; refine Eq.trans ?_ (kC m hm ho hne); (first|(simp (discharger:=omega) only [H.get_put,H.get_new,H.get_del,H.next_new,H.next_put,H.next_del,if_neg]; done)|(simp only[H.get_put,H.get_new,H.get_del,H.next_new,H.next_put,H.next_del]; (repeat' split)<;>first|rfl|(exfalso; omega)|omega))
  have bD:hD.get (h.next+1+1)=some (.row 256 [Y] false):=by rw[eD]; simp (maxSteps:=9^6) +decide (disch:=first|omega|(simp only[lens]<;>omega)|decide) only [go_sem,loadIn,simprocAttr,nC,Yl]<;>rfl
  have MD:Md n a b c e md false (updE (zb:Int) [] []) (updE (zb:Int) mB []) lm L hD:=MC.keep (by rw[eD]; simp only[H.next_put,H.next_new]<;>omega) (fun m hm=>by rw[eD]; (first|(simp (discharger:=omega) only [H.get_put,H.get_new,H.get_del,H.next_new,H.next_put,H.next_del,if_neg]; done)|(simp only[H.get_put,H.get_new,H.get_del,H.next_new,H.next_put,H.next_del]; (repeat' split)<;>first|rfl|(exfalso; omega)|omega)))
  clear eD
  have c3:CallOk K Tryz.prog 80 [.c (.ptr (n+13) 0),.c (.int .i64 1),.g Y] hD (.w (.c (.int .i64 0))) (putM n (updE 1 [] (updE (zb:Int) [] [])) (updE 1 Y (updE (zb:Int) mB [])) hD):=xSPut_ok Hh (MD.xPut f (z:=1) (ours_one a b c e) (by omega) Yl Yf ft1 fc1 k1 (by omega))
  refine Goes.opsQ q37_11111100 fits Hh (E1_sound E0_sound c3) (by
   simp (maxSteps:=9^6) +decide (disch:=first|omega|(simp only[lens]<;>omega)|decide) only [go_sem,q37,Tryz.f37,loadIn,simprocAttr,E1_call,putM_next,f,hs,stN,gl,geoL,t1,d1,d2,kj,tj,hb,ml,il,List.map_cons,ptrW,List.cons_append,Nat.zero_add,nA,bA,hsA,glA,nC,pC,hsC,glC,stC,Dl',Dm,hY,Yl,bD,read1,opBox]
   rfl) ?_
  refine Goes.seqQ q37_11111101 ?_
  refine Goes.opsQ q37_111111010 fits Hh E0_sound (by
   simp (maxSteps:=9^6) +decide (disch:=first|omega|(simp only[lens]<;>omega)|decide) only [go_sem,q37,Tryz.f37,loadIn,simprocAttr,putM_next,f,hs,stN,gl,geoL,t1,d1,d2,kj,tj,hb,ml,il,List.map_cons,ptrW,List.cons_append,Nat.zero_add,nA,bA,hsA,glA,nC,pC,hsC,glC,stC,Dl',Dm,hY,Yl,bD,read1,opBox]
   rfl) ?_
  refine Goes.condFQ q37_111111011 (by simp (maxSteps:=9^6) +decide (disch:=first|omega|(simp only[lens]<;>omega)|decide) only [go_sem,loadIn,simprocAttr,putM_next,f,hs,stN,gl,geoL,t1,d1,d2,kj,tj,hb,ml,il,List.map_cons,ptrW,List.cons_append,Nat.zero_add,nA,bA,hsA,glA,nC,pC,hsC,glC,stC,Dl',Dm,hY,Yl,bD,read1,opBox]<;>rfl) (by first|rfl|assumption|exact decide_eq_false (by omega)|(simp; omega)) ?_
  refine Goes.skipQ q37_1111110114 ?_
  refine Goes.seqQ q37_1111111 ?_
  refine Goes.abs fun hE eE=>?_
  have nE:hE.next=h.next+1+1+1:=by rw[eE,putM_next,nD]
  have kE:∀ m,m<h.next+2→n+32≤m→m≠pD→hE.get m=hA.get m:=fun m hm ho hne=>by rw[eE,putM_get _ _ (by omega) (by omega) (by omega) (by omega)]; exact kD m hm ho hne
  have ME:Md n a b c e md false (updE 1 [] (updE (zb:Int) [] [])) (updE 1 Y (updE (zb:Int) mB [])) lm L hE:=by rw[eE]; exact MD.txn _ _
  clear eE
  have cE:=(kE (h.next+1) (by omega) (by omega) (by omega)).trans cA
  have r16:readRow 16 [inoN] 0 16=some inoN:=rfl
  obtain⟨hF,c4,nF,kF⟩:=iWrite Hh f ME kj tj t4 tp jl hz zl kc hl2 xl xf yl yf ft2 fc2 kz (by omega) hi
  refine Goes.opsQ q37_11111110 fits Hh (E1_sound E0_sound c4) (by
   simp (maxSteps:=9^6) +decide (disch:=first|omega|(simp only[lens]<;>omega)|decide) only [go_sem,q37,Tryz.f37,loadIn,simprocAttr,E1_call,putM_next,f,hs,stN,gl,geoL,t1,d1,d2,kj,tj,hb,ml,il,List.map_cons,ptrW,List.cons_append,Nat.zero_add,nA,bA,hsA,glA,nC,pC,hsC,glC,stC,Dl',Dm,hY,Yl,bD,cE,r16,read1,opBox]
   rfl) ?_
  refine Goes.retQ q37_11111111 ?_
  exact⟨_,_,(by simp (maxSteps:=9^6) +decide (disch:=first|omega|(simp only[lens]<;>omega)|decide) only [go_sem,loadIn,simprocAttr]<;>rfl),rfl,(by omega),fun m hm ho hne=>(kF m (by omega) (.inr ho)).trans ((kE m (by omega) ho hne).trans (kA m hm))⟩
 exact⟨h',cc,nn,hkk⟩
end
end Go.Proofs.YtlbbmhgdcdcdnaaGreatDoor
