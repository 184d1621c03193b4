/- super: descriptors from a block. -/
import Derived.Test.YtdmendgkbikkaaaGreatDoorSup2
set_option linter.unusedSimpArgs false
set_option linter.unusedVariables false
set_option linter.unusedSectionVars false
set_option maxRecDepth 100000
set_option maxHeartbeats 10000000
namespace Go.Proofs.YtdmendgkbikkaaaGreatDoor
open Go.Ev
theorem rs55:Tryz.f55.results.toList=[.tmp 4,.tmp 5]:=rfl
attribute [go_sem] rs55
section
variable (Hh:Hearts K Tryz.prog)
include Hh
theorem Zth {a b c d:Nat} {ns:List Nat} (f:Y2 a b c d=true) {h:Go.Ev.H} (hst:h.get 0=some Gr) (hl:ns.length=256) (s1:Y5 ns 252=Vg ns) (s2:Mk ns (8 * a) (252 - 8 * a)=true) (s3:∀ k,k<a→Mk ns (8 * k+6) 2=true) (ok:∀ d∈Be ns a 0,d.1≤b - 2 - c / 4∧d.2.1≤c∧d.2.2+d.2.1≤c) :
  Zg 55 [.g [.int .i64 (a:Int),.int .i64 (b:Int),.int .i64 (c:Int),.int .i64 (d:Int)],.g (pgL ns)] h (.tup [.c (.slice h.next 0 a 3),.c (.int .i64 0)]) (h.new (.row 3 ((Be ns a 0).map O9) false)):=by
 obtain⟨g1,g2,g3,g4,g5,g6,g7,g8,g9,g10,g11⟩:=Yh f
 refine Zv.tidy ⟨Tryz.f55,Tryz.func55,by kernel_rfl,by decide⟩ fun tidy=>?_
 have l0:=tidy _ _ hst
 have t0:Mk ns 6 2=true:=s3 0 (by omega)
 have t1:1<a→Mk ns 14 2=true:=s3 1
 have t2:2<a→Mk ns 22 2=true:=s3 2
 have t3:3<a→Mk ns 30 2=true:=s3 3
 obtain⟨v,h',cc,n,rfl,n1,n2,n3,hk⟩:∃ v h',Zg 55 [.g [.int .i64 (a:Int),.int .i64 (b:Int),.int .i64 (c:Int),.int .i64 (d:Int)],.g (pgL ns)] h v h'∧∃ n,v=.tup [.c (.slice n 0 a 3),.c (.int .i64 0)]∧h.next≤n∧n<h'.next∧h'.get n=some (.row 3 ((Be ns a 0).map O9) false)∧∀ m,m<h.next→h'.get m=h.get m:=by
  obtain rfl|rfl|rfl|rfl:a=1∨a=2∨a=3∨a=4:=by omega
  all_goals
   simp only[Be,getD,List.forall_mem_cons,Nat.reduceAdd,Nat.reduceMul,Nat.reduceSub] at ok s2
   obtain⟨o0,ok⟩:=ok
   try obtain⟨o1,ok⟩:=ok
   try obtain⟨o2,ok⟩:=ok
   try obtain⟨o3,ok⟩:=ok
   refine Jd Hh Tryz.f55 ?_
   repeat (first|apply Zp|apply Yk|apply Yt|apply Z6|apply Oe|apply Yb|((first|apply Goes.Zn|apply Goes.ops2 fits Hh (EY (EY (EY (EY (EY Za (Gz Hh)) (Znb Hh)) (Zkj Hh)) (Zna Hh)) (Zip Hh))); · simp (maxSteps:=9^6) +decide (disch:=first|omega|(simp only[lens,Zrh]<;>omega)|decide) only [go_sem,Ze,simprocAttr,f,hst,hl,List.all_cons,List.all_nil,Bool.and_true,Bool.true_and,s1,s2,t0,t1,t2,t3,Z00,Z55,rd4,rd30,rd31,rd32,rd33,wr30,wr31,wr32,wr33,List.replicate_succ,List.replicate_zero,Yr,Zt,J6,Ud,J8,read1]<;>rfl))
   exact⟨_,_,(by simp (maxSteps:=9^6) +decide (disch:=first|omega|(simp only[lens,Zrh]<;>omega)|decide) only [go_sem,Ze,simprocAttr,hl,Z00]<;>rfl),_,rfl,(by first|omega|(simp only[H.Zc,H.Zf]<;>omega)),(by first|omega|(simp only[H.Zc,H.Zf]<;>omega)),by simp (maxSteps:=9^6) +decide (disch:=first|omega|(simp only[lens]<;>omega)|decide) only [go_sem,Ze,simprocAttr,Be,getD,O9,List.map_cons,List.map_nil]<;>rfl,fun m hm=>by exact Jg⟩
 exact Zv.row cc n1 n3 rfl (Zh6 _) n2 hk
end
end Go.Proofs.YtdmendgkbikkaaaGreatDoor
