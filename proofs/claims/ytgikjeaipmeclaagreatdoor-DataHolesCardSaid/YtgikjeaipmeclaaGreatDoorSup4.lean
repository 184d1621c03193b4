/- super: descriptors from a block. -/
import Derived.Test.YtgikjeaipmeclaaGreatDoorSup2
set_option linter.unusedSimpArgs false
set_option linter.unusedVariables false
set_option linter.unusedSectionVars false
set_option maxRecDepth 100000
set_option maxHeartbeats 10000000
namespace Go.Proofs.YtgikjeaipmeclaaGreatDoor
open Go.Ev
theorem rs183:Tryz.f183.results.toList=[.tmp 4,.tmp 5]:=rfl
attribute [go_sem] rs183
section
variable (Hh:Hearts K Tryz.prog)
include Hh
theorem Zrn {a b c d:Nat} {ns:List Nat} (f:Y4 a b c d=true) {h:Go.Ev.H} (hst:h.get 0=some Oh) (hl:ns.length=256) (s1:Uh ns 252=Ty ns) (s2:Lm ns (8 * a) (252 - 8 * a)=true) (s3:∀ k,k<a→Lm ns (8 * k+6) 2=true) (ok:∀ d∈Gv ns a 0,d.1≤b - 2 - c / 4∧d.2.1≤c∧d.2.2+d.2.1≤c) :
  Ze K Tryz.prog 183 [.g [.int .i64 (a:Int),.int .i64 (b:Int),.int .i64 (c:Int),.int .i64 (d:Int)],.g (pgL ns)] h (.tup [.c (.slice h.next 0 a 3),.c (.int .i64 0)]) (h.new (.row 3 ((Gv ns a 0).map Bq) false)):=by
 obtain⟨g1,g2,g3,g4,g5,g6,g7,g8,g9,g10,g11⟩:=Yk f
 refine Ze.tidy ⟨Tryz.f183,Tryz.func183,by kernel_rfl,by decide⟩ fun tidy=>?_
 have l0:=tidy _ _ hst
 have t0:Lm ns 6 2=true:=s3 0 (by omega)
 have t1:1<a→Lm ns 14 2=true:=s3 1
 have t2:2<a→Lm ns 22 2=true:=s3 2
 have t3:3<a→Lm ns 30 2=true:=s3 3
 obtain⟨v,h',cc,n,rfl,n1,n2,n3,hk⟩:∃ v h',Ze K Tryz.prog 183 [.g [.int .i64 (a:Int),.int .i64 (b:Int),.int .i64 (c:Int),.int .i64 (d:Int)],.g (pgL ns)] h v h'∧∃ n,v=.tup [.c (.slice n 0 a 3),.c (.int .i64 0)]∧h.next≤n∧n<h'.next∧h'.get n=some (.row 3 ((Gv ns a 0).map Bq) false)∧∀ m,m<h.next→h'.get m=h.get m:=by
  obtain rfl|rfl|rfl|rfl:a=1∨a=2∨a=3∨a=4:=by omega
  all_goals
   simp only[Gv,getD,List.forall_mem_cons,Nat.reduceAdd,Nat.reduceMul,Nat.reduceSub] at ok s2
   obtain⟨o0,ok⟩:=ok
   try obtain⟨o1,ok⟩:=ok
   try obtain⟨o2,ok⟩:=ok
   try obtain⟨o3,ok⟩:=ok
   refine Ze.Yi fits Hh (by kernel_rfl) (by kernel_rfl) (by kernel_rfl) (show Tryz.f183.body=some _ from rfl) rfl ?_
   repeat (first|apply Goes.seq|apply Goes.block|apply Goes.loop|apply Goes.skip|apply Goes.exit|apply Goes.ret|((first|apply Goes.Zm|apply Goes.ops2 fits Hh (Zf (Zf (Zf (Zf (Zf Zc (fun _ _ _ _=>Gm Hh)) (fun _ _ _ _=>Zkj Hh)) (fun _ _ _ _=>Zi4 Hh)) (fun _ _ _ _=>Zlj Hh)) (fun _ _ _ _=>Zhm Hh))); · simp (maxSteps:=9^6) +decide (disch:=first|omega|(simp only[lens,Zpp]<;>omega)|decide) only [go_sem,Za,simprocAttr,f,hst,hl,List.all_cons,List.all_nil,Bool.and_true,Bool.true_and,s1,s2,t0,t1,t2,t3,Zxj,Z2c,rd4,rd30,rd31,rd32,rd33,wr30,wr31,wr32,wr33,List.replicate_succ,List.replicate_zero,Zx,Zh,Ye,Ji,Jt,read1]<;>rfl))
   exact⟨_,_,(by simp (maxSteps:=9^6) +decide (disch:=first|omega|(simp only[lens,Zpp]<;>omega)|decide) only [go_sem,Za,simprocAttr,hl,Zxj]<;>rfl),_,rfl,(by first|omega|(simp only[H.Zg,H.Zj]<;>omega)),(by first|omega|(simp only[H.Zg,H.Zj]<;>omega)),by simp (maxSteps:=9^6) +decide (disch:=first|omega|(simp only[lens]<;>omega)|decide) only [go_sem,Za,simprocAttr,Gv,getD,Bq,List.map_cons,List.map_nil]<;>rfl,fun m hm=>by simp (disch:=first|omega|(simp only[lens]<;>omega)) only [go_sem]⟩
 exact Ze.row cc n1 n3 rfl (Zg0 _) n2 hk
end
end Go.Proofs.YtgikjeaipmeclaaGreatDoor
