/- super: descriptors from a block. -/
import Derived.Test.YtlbbmhgdcdcdnaaGreatDoorSup2
set_option linter.unusedSimpArgs false
set_option linter.unusedVariables false
set_option linter.unusedSectionVars false
set_option maxRecDepth 100000
set_option maxHeartbeats 10000000
namespace Go.Proofs.YtlbbmhgdcdcdnaaGreatDoor
open Go.Ev
theorem rs74:Tryz.f74.results.toList=[.tmp 4,.tmp 5]:=rfl
attribute [go_sem] rs74
section
variable (Hh:Hearts K Tryz.prog)
include Hh
theorem rdDescsOk {a b c d:Nat} {ns:List Nat} (f:fineB a b c d=true) {h:Go.Ev.H} (hst:h.get 0=some stepsO) (hl:ns.length=256) (s1:get4N ns 252=crcN ns) (s2:zerN ns (8 * a) (252 - 8 * a)=true) (s3:∀ k,k<a→zerN ns (8 * k+6) 2=true) (ok:∀ d∈tellD ns a 0,d.1≤b - 2 - c / 4∧d.2.1≤c∧d.2.2+d.2.1≤c) :
  CallOk K Tryz.prog 74 [.g [.int .i64 (a:Int),.int .i64 (b:Int),.int .i64 (c:Int),.int .i64 (d:Int)],.g (pgL ns)] h (.tup [.c (.slice h.next 0 a 3),.c (.int .i64 0)]) (h.new (.row 3 ((tellD ns a 0).map rowD) false)):=by
 obtain⟨g1,g2,g3,g4,g5,g6,g7,g8,g9,g10,g11⟩:=fineB_fine f
 refine CallOk.tidy ⟨Tryz.f74,Tryz.func74,by kernel_rfl,by decide⟩ fun tidy=>?_
 have l0:=tidy _ _ hst
 have t0:zerN ns 6 2=true:=s3 0 (by omega)
 have t1:1<a→zerN ns 14 2=true:=s3 1
 have t2:2<a→zerN ns 22 2=true:=s3 2
 have t3:3<a→zerN ns 30 2=true:=s3 3
 obtain⟨v,h',cc,n,rfl,n1,n2,n3,hk⟩:∃ v h',CallOk K Tryz.prog 74 [.g [.int .i64 (a:Int),.int .i64 (b:Int),.int .i64 (c:Int),.int .i64 (d:Int)],.g (pgL ns)] h v h'∧∃ n,v=.tup [.c (.slice n 0 a 3),.c (.int .i64 0)]∧h.next≤n∧n<h'.next∧h'.get n=some (.row 3 ((tellD ns a 0).map rowD) false)∧∀ m,m<h.next→h'.get m=h.get m:=by
  obtain rfl|rfl|rfl|rfl:a=1∨a=2∨a=3∨a=4:=by omega
  all_goals
   simp only[tellD,getD,List.forall_mem_cons,Nat.reduceAdd,Nat.reduceMul,Nat.reduceSub] at ok s2
   obtain⟨o0,ok⟩:=ok
   try obtain⟨o1,ok⟩:=ok
   try obtain⟨o2,ok⟩:=ok
   try obtain⟨o3,ok⟩:=ok
   refine CallOk.goesE fits Hh (by kernel_rfl) (by kernel_rfl) (by kernel_rfl) (show Tryz.f74.body=some _ from rfl) rfl ?_
   repeat (first
    | refine Goes.seq ?_
    | refine Goes.block ?_
    | refine Goes.loop ?_
    | refine Goes.skip ?_
    | refine Goes.exit ?_
    | refine Goes.ret ?_
    | refine Goes.condV (by simp (maxSteps:=9^6) +decide (disch:=first|omega|(simp only[lens,plens]<;>omega)|decide) only [go_sem,loadIn,simprocAttr,f,hst,hl,List.all_cons,List.all_nil,Bool.and_true,Bool.true_and,s1,s2,t0,t1,t2,t3,rdPP,wrP0,rd4,rd30,rd31,rd32,rd33,wr30,wr31,wr32,wr33,List.replicate_succ,List.replicate_zero,opBox,opBuiltin,opLen,opMakeSlice,newSlice,read1]<;>rfl) ?_
    | refine Goes.ops2 fits Hh (EX_sound (EX_sound (EX_sound (EX_sound (EX_sound E0_sound (fun _ _ _ _=>xgMay_ok Hh)) (fun _ _ _ _=>xPSealed_ok Hh)) (fun _ _ _ _=>xPNoughts_ok Hh)) (fun _ _ _ _=>xGetDesc_ok Hh)) (fun _ _ _ _=>xSuMay_ok Hh)) (by simp (maxSteps:=9^6) +decide (disch:=first|omega|(simp only[lens,plens]<;>omega)|decide) only [go_sem,loadIn,simprocAttr,f,hst,hl,List.all_cons,List.all_nil,Bool.and_true,Bool.true_and,s1,s2,t0,t1,t2,t3,rdPP,wrP0,rd4,rd30,rd31,rd32,rd33,wr30,wr31,wr32,wr33,List.replicate_succ,List.replicate_zero,opBox,opBuiltin,opLen,opMakeSlice,newSlice,read1]; rfl) ?_)
   exact⟨_,_,(by simp (maxSteps:=9^6) +decide (disch:=first|omega|(simp only[lens,plens]<;>omega)|decide) only [go_sem,loadIn,simprocAttr,hl,rdPP]<;>rfl),_,rfl,(by first|omega|(simp only[H.next_new,H.next_put]<;>omega)),(by first|omega|(simp only[H.next_new,H.next_put]<;>omega)),by simp (maxSteps:=9^6) +decide (disch:=first|omega|(simp only[lens]<;>omega)|decide) only [go_sem,loadIn,simprocAttr,tellD,getD,rowD,List.map_cons,List.map_nil]<;>rfl,fun m hm=>by (first|(simp (discharger:=omega) only [H.get_put,H.get_new,H.get_del,H.next_new,H.next_put,H.next_del,if_neg]; done)|(simp only[H.get_put,H.get_new,H.get_del,H.next_new,H.next_put,H.next_del]; (repeat' split)<;>first|rfl|(exfalso; omega)|omega))⟩
 exact CallOk.row cc n1 n3 rfl (rows_flat _) n2 hk
end
end Go.Proofs.YtlbbmhgdcdcdnaaGreatDoor
