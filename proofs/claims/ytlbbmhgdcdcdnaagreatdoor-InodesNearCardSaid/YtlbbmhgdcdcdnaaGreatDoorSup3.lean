/- super: descriptors as a block. -/
import Derived.Test.YtlbbmhgdcdcdnaaGreatDoorSup2
set_option linter.unusedSimpArgs false
set_option linter.unusedVariables false
set_option linter.unusedSectionVars false
set_option maxRecDepth 100000
set_option maxHeartbeats 10000000
namespace Go.Proofs.YtlbbmhgdcdcdnaaGreatDoor
open Go.Ev
theorem rs50:Tryz.f50.results.toList=[.cell 4 85,.tmp 5]:=rfl
attribute [go_sem] rs50
section
variable (Hh:Hearts K Tryz.prog)
include Hh
theorem wrDescsOk {a b c d n:Nat} {D:List Desc} {ro:Bool} (f:fineB a b c d=true) {h:Go.Ev.H} (hst:h.get 0=some stepsO) (hn:h.get n=some (.row 3 (D.map rowD) ro)) (hD:D.length=a) (ok:∀ d∈D,d.1≤b - 2 - c / 4∧d.2.1≤c∧d.2.2+d.2.1≤c) :
  CallOk K Tryz.prog 50 [.g [.int .i64 (a:Int),.int .i64 (b:Int),.int .i64 (c:Int),.int .i64 (d:Int)],.c (.slice n 0 a 3)] h (.tup [.g (pgL (sealN (desN D 0 zerN0))),.c (.int .i64 0)]) h:=by
 obtain⟨g1,g2,g3,g4,g5,g6,g7,g8,g9,g10,g11⟩:=fineB_fine f
 obtain⟨Z,hZ⟩:∃ Z,zerN0=Z:=⟨_,rfl⟩
 have z0:=zPg
 have zl:=zer_len
 rw[hZ] at z0 zl ⊢
 refine CallOk.tidy ⟨Tryz.f50,Tryz.func50,by kernel_rfl,by decide⟩ fun tidy=>?_
 have l0:=tidy _ _ hst
 have l1:=tidy _ _ hn
 obtain⟨v,h',cc,rfl,hk⟩:∃ v h',CallOk K Tryz.prog 50 [.g [.int .i64 (a:Int),.int .i64 (b:Int),.int .i64 (c:Int),.int .i64 (d:Int)],.c (.slice n 0 a 3)] h v h'∧v=.tup [.g (pgL (sealN (desN D 0 Z))),.c (.int .i64 0)]∧∀ m,m<h.next→h'.get m=h.get m:=by
  rcases D with _|⟨⟨x0,y0,w0⟩,_|⟨⟨x1,y1,w1⟩,_|⟨⟨x2,y2,w2⟩,_|⟨⟨x3,y3,w3⟩,_|⟨r4,D⟩⟩⟩⟩⟩
  ·simp only[List.length_nil] at hD; omega
  rotate_right
  ·simp only[List.length_cons] at hD; omega
  all_goals
   simp only[List.length_cons,List.length_nil,Nat.reduceAdd] at hD
   subst hD
   simp only[List.map_cons,List.map_nil,rowD] at hn
   have o0:=ok (x0,y0,w0) (by simp)
   try have o1:=ok (x1,y1,w1) (by simp)
   try have o2:=ok (x2,y2,w2) (by simp)
   try have o3:=ok (x3,y3,w3) (by simp)
   simp only at o0
   try simp only at o1
   try simp only at o2
   try simp only at o3
   refine CallOk.goesE fits Hh (by kernel_rfl) (by kernel_rfl) (by kernel_rfl) (show Tryz.f50.body=some _ from rfl) rfl ?_
   repeat (first
    | refine Goes.seq ?_
    | refine Goes.block ?_
    | refine Goes.loop ?_
    | refine Goes.skip ?_
    | refine Goes.exit ?_
    | refine Goes.ret ?_
    | refine Goes.condV (by simp (maxSteps:=9^6) +decide (disch:=first|omega|(simp only[lens,plens]<;>omega)|decide) only [go_sem,loadIn,simprocAttr,f,hst,hn,List.all_cons,List.all_nil,Bool.and_true,Bool.true_and,z0,zl,rdPP,wrP0,rd4,rd30,rd31,rd32,rd33,opBox,opBuiltin,opLen,read1]<;>rfl) ?_
    | refine Goes.ops2 fits Hh (EX_sound (EX_sound (EX_sound (EX_sound E0_sound (fun _ _ _ _=>xgMay_ok Hh)) (fun _ _ _ _=>xSuMay_ok Hh)) (fun _ _ _ _=>xPutDesc_ok Hh)) (fun _ _ _ _=>xPSeal_ok Hh)) (by simp (maxSteps:=9^6) +decide (disch:=first|omega|(simp only[lens,plens]<;>omega)|decide) only [go_sem,loadIn,simprocAttr,f,hst,hn,List.all_cons,List.all_nil,Bool.and_true,Bool.true_and,z0,zl,rdPP,wrP0,rd4,rd30,rd31,rd32,rd33,opBox,opBuiltin,opLen,read1]; rfl) ?_)
   exact⟨_,_,(by simp (maxSteps:=9^6) +decide (disch:=first|omega|(simp only[lens,plens]<;>omega)|decide) only [go_sem,loadIn,simprocAttr,zl,rdPP]<;>rfl),(by simp only[sealN,desN,Nat.reduceAdd]),fun m hm=>by (first|(simp (discharger:=omega) only [H.get_put,H.get_new,H.get_del,H.next_new,H.next_put,H.next_del,if_neg]; done)|(simp only[H.get_put,H.get_new,H.get_del,H.next_new,H.next_put,H.next_del]; (repeat' split)<;>first|rfl|(exfalso; omega)|omega))⟩
 exact cc.quiet (by simp only[V.flat,W.flat,List.all_cons,flat_pg]; rfl) hk
end
end Go.Proofs.YtlbbmhgdcdcdnaaGreatDoor
