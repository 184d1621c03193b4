/- super: descriptors as a block. -/
import Derived.Test.YtgikjeaipmeclaaGreatDoorSup2
set_option linter.unusedSimpArgs false
set_option linter.unusedVariables false
set_option linter.unusedSectionVars false
set_option maxRecDepth 100000
set_option maxHeartbeats 10000000
namespace Go.Proofs.YtgikjeaipmeclaaGreatDoor
open Go.Ev
theorem rs189:Tryz.f189.results.toList=[.cell 4 71,.tmp 5]:=rfl
attribute [go_sem] rs189
section
variable (Hh:Hearts K Tryz.prog)
include Hh
theorem Zr5 {a b c d n:Nat} {D:List O3} {ro:Bool} (f:Y4 a b c d=true) {h:Go.Ev.H} (hst:h.get 0=some Oh) (hn:h.get n=some (.row 3 (D.map Bq) ro)) (hD:D.length=a) (ok:∀ d∈D,d.1≤b - 2 - c / 4∧d.2.1≤c∧d.2.2+d.2.1≤c) :
  Ze K Tryz.prog 189 [.g [.int .i64 (a:Int),.int .i64 (b:Int),.int .i64 (c:Int),.int .i64 (d:Int)],.c (.slice n 0 a 3)] h (.tup [.g (pgL (Bl (Ep D 0 Gf))),.c (.int .i64 0)]) h:=by
 obtain⟨g1,g2,g3,g4,g5,g6,g7,g8,g9,g10,g11⟩:=Yk f
 obtain⟨Z,hZ⟩:∃ Z,Gf=Z:=⟨_,rfl⟩
 have z0:=zPg
 have zl:=Zia
 rw[hZ] at z0 zl ⊢
 refine Ze.tidy ⟨Tryz.f189,Tryz.func189,by kernel_rfl,by decide⟩ fun tidy=>?_
 have l0:=tidy _ _ hst
 have l1:=tidy _ _ hn
 obtain⟨v,h',cc,rfl,hk⟩:∃ v h',Ze K Tryz.prog 189 [.g [.int .i64 (a:Int),.int .i64 (b:Int),.int .i64 (c:Int),.int .i64 (d:Int)],.c (.slice n 0 a 3)] h v h'∧v=.tup [.g (pgL (Bl (Ep D 0 Z))),.c (.int .i64 0)]∧∀ m,m<h.next→h'.get m=h.get m:=by
  rcases D with _|⟨⟨x0,y0,w0⟩,_|⟨⟨x1,y1,w1⟩,_|⟨⟨x2,y2,w2⟩,_|⟨⟨x3,y3,w3⟩,_|⟨r4,D⟩⟩⟩⟩⟩
  ·simp only[List.length_nil] at hD; omega
  rotate_right
  ·simp only[List.length_cons] at hD; omega
  all_goals
   simp only[List.length_cons,List.length_nil,Nat.reduceAdd] at hD
   subst hD
   simp only[List.map_cons,List.map_nil,Bq] at hn
   have o0:=ok (x0,y0,w0) (by simp)
   try have o1:=ok (x1,y1,w1) (by simp)
   try have o2:=ok (x2,y2,w2) (by simp)
   try have o3:=ok (x3,y3,w3) (by simp)
   simp only at o0
   try simp only at o1
   try simp only at o2
   try simp only at o3
   refine Ze.Yi fits Hh (by kernel_rfl) (by kernel_rfl) (by kernel_rfl) (show Tryz.f189.body=some _ from rfl) rfl ?_
   repeat (first|apply Goes.seq|apply Goes.block|apply Goes.loop|apply Goes.skip|apply Goes.exit|apply Goes.ret|((first|apply Goes.Zm|apply Goes.ops2 fits Hh (Zf (Zf (Zf (Zf Zc (fun _ _ _ _=>Gm Hh)) (fun _ _ _ _=>Zhm Hh)) (fun _ _ _ _=>Zli Hh)) (fun _ _ _ _=>Zrh Hh))); · simp (maxSteps:=9^6) +decide (disch:=first|omega|(simp only[lens,Zpp]<;>omega)|decide) only [go_sem,Za,simprocAttr,f,hst,hn,List.all_cons,List.all_nil,Bool.and_true,Bool.true_and,z0,zl,Zxj,Z2c,rd4,rd30,rd31,rd32,rd33,Zx,Zh,Ye,read1]<;>rfl))
   exact⟨_,_,(by simp (maxSteps:=9^6) +decide (disch:=first|omega|(simp only[lens,Zpp]<;>omega)|decide) only [go_sem,Za,simprocAttr,zl,Zxj]<;>rfl),(by simp only[Bl,Ep,Nat.reduceAdd]),fun m hm=>by simp (disch:=first|omega|(simp only[lens]<;>omega)) only [go_sem]⟩
 exact cc.quiet (by simp only[V.flat,W.flat,List.all_cons,Vs]; rfl) hk
end
end Go.Proofs.YtgikjeaipmeclaaGreatDoor
