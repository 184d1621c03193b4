/- geo.May and geo.Blocks, of a geometry that may be. -/
import Derived.Test.YtlbbmhgdcdcdnaaGreatDoorFine
set_option linter.unusedSimpArgs false
set_option linter.unusedVariables false
set_option linter.unusedSectionVars false
set_option maxRecDepth 100000
namespace Go.Proofs.YtlbbmhgdcdcdnaaGreatDoor
open Go.Ev
theorem ty3:K.types.get 3=some ti3:=by kernel_rfl
theorem sz3:ti3.size=1:=by rfl
theorem ag3:ti3.agg=false:=by rfl
theorem de3:ti3.desc=(.int .i64):=by rfl
theorem ze3:ti3.zero=(.c (.int .i64 0)):=by rfl
theorem by3:ti3.bytes=8:=by rfl
theorem ke3 (k:IntKind) (n:Int):keyT K 20 3 (.c (.int k n))=true:=by kernel_rfl
theorem ty4:K.types.get 4=some ti4:=by kernel_rfl
theorem sz4:ti4.size=1:=by rfl
theorem ag4:ti4.agg=false:=by rfl
theorem de4:ti4.desc=.bool:=by rfl
theorem ze4:ti4.zero=(.c (.bool false)):=by rfl
theorem by4:ti4.bytes=1:=by rfl
theorem ty23:K.types.get 23=some ti23:=by kernel_rfl
theorem sz23:ti23.size=4:=by rfl
theorem ag23:ti23.agg=true:=by rfl
theorem fo23_0:fieldOf K 23 0=some (0,ti3):=by kernel_rfl
theorem fo23_1:fieldOf K 23 1=some (1,ti3):=by kernel_rfl
theorem fo23_2:fieldOf K 23 2=some (2,ti3):=by kernel_rfl
theorem fo23_3:fieldOf K 23 3=some (3,ti3):=by kernel_rfl
theorem bu23 (ps:List (Nat × W)):opBuild K 23 (some ps)=gW (fillStruct K 23 ps ti23.zero.cells):=by kernel_rfl
theorem ze23:ti23.zero=(.g ([.int .i64 0,.int .i64 0,.int .i64 0,.int .i64 0])):=by rfl
theorem by23:ti23.bytes=32:=by rfl
attribute [go_sem] ty3 sz3 ag3 de3 ze3 by3 ke3 ty4 sz4 ag4 de4 ze4 by4 ty23 sz23 ag23 fo23_0 fo23_1 fo23_2 fo23_3 bu23 ze23 by23
noncomputable def q47 (p:List Nat):Code:=piece p (bodyOf Tryz.f47)
theorem q47_:q47 []=.seq (q47 [0]) (q47 [1]):=by kernel_rfl
theorem q47_0:q47 [0]=.region 0 (opsA (q47 [0])) false:=by kernel_rfl
theorem q47_1:q47 [1]=.seq (q47 [1,0]) (q47 [1,1]):=by kernel_rfl
theorem q47_10:q47 [1,0]=.seq (q47 [1,0,0]) (q47 [1,0,1]):=by kernel_rfl
theorem q47_100:q47 [1,0,0]=.region 1 (opsA (q47 [1,0,0])) false:=by kernel_rfl
theorem q47_101:q47 [1,0,1]=.cond (.tmp 5) (q47 [1,0,1,3]) (q47 [1,0,1,4]):=by kernel_rfl
theorem q47_1014:q47 [1,0,1,4]=.skip:=by kernel_rfl
theorem q47_11:q47 [1,1]=.seq (q47 [1,1,0]) (q47 [1,1,1]):=by kernel_rfl
theorem q47_110:q47 [1,1,0]=.region 3 (opsA (q47 [1,1,0])) false:=by kernel_rfl
theorem q47_111:q47 [1,1,1]=.ret:=by kernel_rfl
theorem rs28:Tryz.f28.results.toList=[.tmp 2]:=rfl
theorem rs47:Tryz.f47.results.toList=[.tmp 2]:=rfl
attribute [go_sem] rs28 rs47
section
variable (Hh:Hearts K Tryz.prog)
include Hh
theorem gMayOk {gr sz ino jr:Nat} (F:Fine gr sz ino jr) (h:Go.Ev.H):CallOk K Tryz.prog 28 [.g (geoL gr sz ino jr)] h (.w (.c (.bool true))) h:=by
 obtain⟨g1,g2,g3,g4,g5,g6,g7,g8,g9,g10,g11⟩:=F
 have gm:(gr:Int) * (sz:Int)=((gr * sz:Nat):Int):=rfl
 obtain⟨v,h',c,rfl,hk⟩:∃ v h',CallOk K Tryz.prog 28 [.g (geoL gr sz ino jr)] h v h'∧v=.w (.c (.bool true))∧∀ m,m<h.next→h'.get m=h.get m:=by
  refine CallOk.goesE fits Hh (by kernel_rfl) (by kernel_rfl) (by kernel_rfl) (show Tryz.f28.body=some _ from rfl) rfl ?_
  repeat (first
   | refine Goes.seq ?_
   | refine Goes.block ?_
   | refine Goes.loop ?_
   | refine Goes.skip ?_
   | refine Goes.exit ?_
   | refine Goes.ret ?_
   | refine Goes.condV (by simp (maxSteps:=9^6) +decide (disch:=first|omega|(simp only[lens]<;>omega)|decide) only [go_sem,readRow,loadIn,simprocAttr,geoL,gm,read1]<;>rfl) ?_
   | refine Goes.ops2 fits Hh E0_sound (by simp (maxSteps:=9^6) +decide (disch:=first|omega|(simp only[lens]<;>omega)|decide) only [go_sem,readRow,loadIn,simprocAttr,geoL,gm,read1]; rfl) ?_)
  refine⟨_,_,(by simp (maxSteps:=9^6) +decide (disch:=first|omega|(simp only[lens]<;>omega)|decide) only [go_sem,readRow,loadIn,simprocAttr]<;>rfl),rfl,fun m hm=>?_⟩
  simp (maxSteps:=9^6) +decide (disch:=first|omega|(simp only[lens]<;>omega)|decide) only [go_sem,readRow,loadIn,simprocAttr]
 exact CallOk.quiet c rfl hk
theorem gBlocksOk {gr sz ino jr:Nat} (F:Fine gr sz ino jr) (h:Go.Ev.H):CallOk K Tryz.prog 47 [.g (geoL gr sz ino jr)] h (.w (.c (.int .i64 ((2+jr+gr * sz:Nat):Int)))) h:=by
 have F':=F
 obtain⟨g1,g2,g3,g4,g5,g6,g7,g8,g9,g10,g11⟩:=F'
 have gm:(gr:Int) * (sz:Int)=((gr * sz:Nat):Int):=rfl
 have c1:=gMayOk Hh F (h.new (.row 4 [geoL gr sz ino jr] false))
 obtain⟨v,h',c,rfl,hk⟩:∃ v h',CallOk K Tryz.prog 47 [.g (geoL gr sz ino jr)] h v h'∧v=.w (.c (.int .i64 ((2+jr+gr * sz:Nat):Int)))∧∀ m,m<h.next→h'.get m=h.get m:=by
  refine CallOk.goesE fits Hh (by kernel_rfl) (by kernel_rfl) (by kernel_rfl) (show Tryz.f47.body=some (q47 []) by kernel_rfl) rfl ?_
  show Goes K Tryz.prog 15 none _ _ _ _ _
  refine Goes.seqQ q47_ ?_
  refine Goes.opsQ q47_0 fits Hh E0_sound (by
   simp (maxSteps:=9^6) +decide (disch:=first|omega|(simp only[lens]<;>omega)|decide) only [go_sem,q47,Tryz.f47,readRow,loadIn,simprocAttr,geoL,gm,read1]
   rfl) ?_
  refine Goes.seqQ q47_1 ?_
  refine Goes.seqQ q47_10 ?_
  refine Goes.opsQ q47_100 fits Hh (E1_sound E0_sound c1) (by
   simp (maxSteps:=9^6) +decide (disch:=first|omega|(simp only[lens]<;>omega)|decide) only [go_sem,q47,Tryz.f47,readRow,loadIn,simprocAttr,E1_call,geoL,gm,read1]
   rfl) ?_
  refine Goes.condFQ q47_101 (by simp (maxSteps:=9^6) +decide (disch:=first|omega|(simp only[lens]<;>omega)|decide) only [go_sem,readRow,loadIn,simprocAttr,geoL,gm,read1]<;>rfl) (by first|rfl|assumption|exact decide_eq_false (by omega)|(simp; omega)) ?_
  refine Goes.skipQ q47_1014 ?_
  refine Goes.seqQ q47_11 ?_
  refine Goes.opsQ q47_110 fits Hh E0_sound (by
   simp (maxSteps:=9^6) +decide (disch:=first|omega|(simp only[lens]<;>omega)|decide) only [go_sem,q47,Tryz.f47,readRow,loadIn,simprocAttr,geoL,gm,read1]
   rfl) ?_
  refine Goes.retQ q47_111 ?_
  refine⟨_,_,(by simp (maxSteps:=9^6) +decide (disch:=first|omega|(simp only[lens]<;>omega)|decide) only [go_sem,readRow,loadIn,simprocAttr]<;>rfl),rfl,fun m hm=>?_⟩
  simp (maxSteps:=9^6) +decide (disch:=first|omega|(simp only[lens]<;>omega)|decide) only [go_sem,readRow,loadIn,simprocAttr]
 exact CallOk.quiet c rfl hk
end
end Go.Proofs.YtlbbmhgdcdcdnaaGreatDoor
