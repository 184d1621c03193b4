/- super: descriptors as a block. -/
import Derived.Test.YtdmendgkbikkaaaGreatDoorSup2
set_option linter.unusedSimpArgs false
set_option linter.unusedVariables false
set_option linter.unusedSectionVars false
set_option maxRecDepth 100000
set_option maxHeartbeats 10000000
namespace Go.Proofs.YtdmendgkbikkaaaGreatDoor
open Go.Ev
theorem rs191:Tryz.f191.results.toList=[.cell 4 73,.tmp 5]:=rfl
attribute [go_sem] rs191
section
variable (Hh:Hearts K Tryz.prog)
include Hh
theorem Ztr {a b c d n:Nat} {D:List Oi} {ro:Bool} (f:Y2 a b c d=true) {h:Go.Ev.H} (hst:h.get 0=some Gr) (hn:h.get n=some (.row 3 (D.map O9) ro)) (hD:D.length=a) (ok:∀ d∈D,d.1≤b - 2 - c / 4∧d.2.1≤c∧d.2.2+d.2.1≤c) :
  Zg 191 [.g [.int .i64 (a:Int),.int .i64 (b:Int),.int .i64 (c:Int),.int .i64 (d:Int)],.c (.slice n 0 a 3)] h (.tup [.g (pgL (De (Fh D 0 Gn))),.c (.int .i64 0)]) h:=by
 obtain⟨g1,g2,g3,g4,g5,g6,g7,g8,g9,g10,g11⟩:=Yh f
 obtain⟨Z,hZ⟩:∃ Z,Gn=Z:=⟨_,rfl⟩
 have z0:=zPg
 have zl:=Zkw
 rw[hZ] at z0 zl ⊢
 refine Zv.tidy ⟨Tryz.f191,Tryz.func191,by kernel_rfl,by decide⟩ fun tidy=>?_
 have l0:=tidy _ _ hst
 have l1:=tidy _ _ hn
 refine Wo (by simp only[V.flat,W.flat,List.all_cons,Zad]; rfl) ?_
 rcases D with _|⟨⟨x0,y0,w0⟩,_|⟨⟨x1,y1,w1⟩,_|⟨⟨x2,y2,w2⟩,_|⟨⟨x3,y3,w3⟩,_|⟨r4,D⟩⟩⟩⟩⟩
 ·simp only[List.length_nil] at hD; omega
 rotate_right
 ·simp only[List.length_cons] at hD; omega
 all_goals
  simp only[List.length_cons,List.length_nil,Nat.reduceAdd] at hD
  subst hD
  simp only[List.map_cons,List.map_nil,O9] at hn
  have o0:=ok (x0,y0,w0) (by simp)
  try have o1:=ok (x1,y1,w1) (by simp)
  try have o2:=ok (x2,y2,w2) (by simp)
  try have o3:=ok (x3,y3,w3) (by simp)
  simp only at o0
  try simp only at o1
  try simp only at o2
  try simp only at o3
  refine Jd Hh Tryz.f191 ?_
  repeat (first|apply Zp|apply Yk|apply Yt|apply Z6|apply Oe|apply Yb|((first|apply Goes.Zn|apply Goes.ops2 fits Hh (EY (EY (EY (EY Za (Gz Hh)) (Zip Hh)) (Znc Hh)) (Zt3 Hh))); · simp (maxSteps:=9^6) +decide (disch:=first|omega|(simp only[lens,Zrh]<;>omega)|decide) only [go_sem,Ze,simprocAttr,f,hst,hn,List.all_cons,List.all_nil,Bool.and_true,Bool.true_and,z0,zl,Z00,Z55,rd4,rd30,rd31,rd32,rd33,Yr,Zt,J6,read1]<;>rfl))
  exact⟨_,_,(by simp (maxSteps:=9^6) +decide (disch:=first|omega|(simp only[lens,Zrh]<;>omega)|decide) only [go_sem,Ze,simprocAttr,zl,Z00]<;>rfl),(by simp only[De,Fh,Nat.reduceAdd]),fun m hm=>by exact Jg⟩
end
end Go.Proofs.YtdmendgkbikkaaaGreatDoor
