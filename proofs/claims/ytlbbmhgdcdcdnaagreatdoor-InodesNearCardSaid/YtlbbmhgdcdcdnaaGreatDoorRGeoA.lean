/- quernref05: May, All of a geometry that may be, on the evaluator's level. -/
import Derived.Test.YtlbbmhgdcdcdnaaGreatDoorFine
import Derived.Test.YtlbbmhgdcdcdnaaGreatDoorEvC
set_option linter.unusedSimpArgs false
set_option linter.unusedVariables false
set_option linter.unusedSectionVars false
set_option maxRecDepth 100000
namespace Go.Proofs.YtlbbmhgdcdcdnaaGreatDoor
open Go.Ev
theorem tyGeo:K.types.get 23=some ti23:=by kernel_rfl
theorem sGeo:ti23.size=4:=rfl
theorem aGeo:ti23.agg=true:=rfl
theorem fGeo0:fieldOf K 23 0=some (0,ti3):=by kernel_rfl
theorem fGeo1:fieldOf K 23 1=some (1,ti3):=by kernel_rfl
theorem fGeo2:fieldOf K 23 2=some (2,ti3):=by kernel_rfl
theorem fGeo3:fieldOf K 23 3=some (3,ti3):=by kernel_rfl
theorem geo0 (a b c d:C):read1 4 [[a,b,c,d]] 0=some a:=rfl
theorem geo1 (a b c d:C):read1 4 [[a,b,c,d]] 1=some b:=rfl
theorem geo2 (a b c d:C):read1 4 [[a,b,c,d]] 2=some c:=rfl
theorem geo3 (a b c d:C):read1 4 [[a,b,c,d]] 3=some d:=rfl
noncomputable def q14 (p:List Nat):Code:=piece p (bodyOf Tryz.f14)
theorem q14_:q14 []=.seq (q14 [0]) (q14 [1]):=by kernel_rfl
theorem q14_0:q14 [0]=.region 0 (opsA (q14 [0])) false:=by kernel_rfl
theorem q14_1:q14 [1]=.seq (q14 [1,0]) (q14 [1,1]):=by kernel_rfl
theorem q14_10:q14 [1,0]=.seq (q14 [1,0,0]) (q14 [1,0,1]):=by kernel_rfl
theorem q14_100:q14 [1,0,0]=.region 1 (opsA (q14 [1,0,0])) false:=by kernel_rfl
theorem q14_101:q14 [1,0,1]=.cond (.tmp 46) (q14 [1,0,1,3]) (q14 [1,0,1,4]):=by kernel_rfl
theorem q14_1014:q14 [1,0,1,4]=.skip:=by kernel_rfl
theorem q14_11:q14 [1,1]=.seq (q14 [1,1,0]) (q14 [1,1,1]):=by kernel_rfl
theorem q14_110:q14 [1,1,0]=.region 3 (opsA (q14 [1,1,0])) false:=by kernel_rfl
theorem q14_111:q14 [1,1,1]=.ret:=by kernel_rfl
noncomputable def q46 (p:List Nat):Code:=piece p (bodyOf Tryz.f46)
theorem q46_:q46 []=.seq (q46 [0]) (q46 [1]):=by kernel_rfl
theorem q46_0:q46 [0]=.region 0 (opsA (q46 [0])) false:=by kernel_rfl
theorem q46_1:q46 [1]=.seq (q46 [1,0]) (q46 [1,1]):=by kernel_rfl
theorem q46_10:q46 [1,0]=.seq (q46 [1,0,0]) (q46 [1,0,1]):=by kernel_rfl
theorem q46_100:q46 [1,0,0]=.region 1 (opsA (q46 [1,0,0])) false:=by kernel_rfl
theorem q46_101:q46 [1,0,1]=.cond (.tmp 11) (q46 [1,0,1,3]) (q46 [1,0,1,4]):=by kernel_rfl
theorem q46_1014:q46 [1,0,1,4]=.skip:=by kernel_rfl
theorem q46_11:q46 [1,1]=.seq (q46 [1,1,0]) (q46 [1,1,1]):=by kernel_rfl
theorem q46_110:q46 [1,1,0]=.region 3 (opsA (q46 [1,1,0])) false:=by kernel_rfl
theorem q46_111:q46 [1,1,1]=.seq (q46 [1,1,1,0]) (q46 [1,1,1,1]):=by kernel_rfl
theorem q46_1110:q46 [1,1,1,0]=.seq (q46 [1,1,1,0,0]) (q46 [1,1,1,0,1]):=by kernel_rfl
theorem q46_11100:q46 [1,1,1,0,0]=.region 4 (opsA (q46 [1,1,1,0,0])) false:=by kernel_rfl
theorem q46_11101:q46 [1,1,1,0,1]=.block 0 (q46 [1,1,1,0,1,2]):=by kernel_rfl
theorem q46_111012:q46 [1,1,1,0,1,2]=.loop (q46 [1,1,1,0,1,2,2]):=by kernel_rfl
theorem q46_1110122:q46 [1,1,1,0,1,2,2]=.seq (q46 [1,1,1,0,1,2,2,0]) (q46 [1,1,1,0,1,2,2,1]):=by kernel_rfl
theorem q46_11101220:q46 [1,1,1,0,1,2,2,0]=.seq (q46 [1,1,1,0,1,2,2,0,0]) (q46 [1,1,1,0,1,2,2,0,1]):=by kernel_rfl
theorem q46_111012200:q46 [1,1,1,0,1,2,2,0,0]=.region 5 (opsA (q46 [1,1,1,0,1,2,2,0,0])) false:=by kernel_rfl
theorem q46_111012201:q46 [1,1,1,0,1,2,2,0,1]=.cond (.tmp 18) (q46 [1,1,1,0,1,2,2,0,1,3]) (q46 [1,1,1,0,1,2,2,0,1,4]):=by kernel_rfl
theorem q46_1110122013:q46 [1,1,1,0,1,2,2,0,1,3]=.skip:=by kernel_rfl
theorem q46_1110122014:q46 [1,1,1,0,1,2,2,0,1,4]=.exit 0:=by kernel_rfl
theorem q46_11101221:q46 [1,1,1,0,1,2,2,1]=.seq (q46 [1,1,1,0,1,2,2,1,0]) (q46 [1,1,1,0,1,2,2,1,1]):=by kernel_rfl
theorem q46_111012210:q46 [1,1,1,0,1,2,2,1,0]=.block 1 (q46 [1,1,1,0,1,2,2,1,0,2]):=by kernel_rfl
theorem q46_1110122102:q46 [1,1,1,0,1,2,2,1,0,2]=.region 7 (opsA (q46 [1,1,1,0,1,2,2,1,0,2])) false:=by kernel_rfl
theorem q46_111012211:q46 [1,1,1,0,1,2,2,1,1]=.region 6 (opsA (q46 [1,1,1,0,1,2,2,1,1])) false:=by kernel_rfl
theorem q46_1111:q46 [1,1,1,1]=.seq (q46 [1,1,1,1,0]) (q46 [1,1,1,1,1]):=by kernel_rfl
theorem q46_11110:q46 [1,1,1,1,0]=.region 8 (opsA (q46 [1,1,1,1,0])) false:=by kernel_rfl
theorem q46_11111:q46 [1,1,1,1,1]=.seq (q46 [1,1,1,1,1,0]) (q46 [1,1,1,1,1,1]):=by kernel_rfl
theorem q46_111110:q46 [1,1,1,1,1,0]=.seq (q46 [1,1,1,1,1,0,0]) (q46 [1,1,1,1,1,0,1]):=by kernel_rfl
theorem q46_1111100:q46 [1,1,1,1,1,0,0]=.region 9 (opsA (q46 [1,1,1,1,1,0,0])) false:=by kernel_rfl
theorem q46_1111101:q46 [1,1,1,1,1,0,1]=.block 2 (q46 [1,1,1,1,1,0,1,2]):=by kernel_rfl
theorem q46_11111012:q46 [1,1,1,1,1,0,1,2]=.loop (q46 [1,1,1,1,1,0,1,2,2]):=by kernel_rfl
theorem q46_111110122:q46 [1,1,1,1,1,0,1,2,2]=.seq (q46 [1,1,1,1,1,0,1,2,2,0]) (q46 [1,1,1,1,1,0,1,2,2,1]):=by kernel_rfl
theorem q46_1111101220:q46 [1,1,1,1,1,0,1,2,2,0]=.seq (q46 [1,1,1,1,1,0,1,2,2,0,0]) (q46 [1,1,1,1,1,0,1,2,2,0,1]):=by kernel_rfl
theorem q46_11111012200:q46 [1,1,1,1,1,0,1,2,2,0,0]=.region 10 (opsA (q46 [1,1,1,1,1,0,1,2,2,0,0])) false:=by kernel_rfl
theorem q46_11111012201:q46 [1,1,1,1,1,0,1,2,2,0,1]=.cond (.tmp 29) (q46 [1,1,1,1,1,0,1,2,2,0,1,3]) (q46 [1,1,1,1,1,0,1,2,2,0,1,4]):=by kernel_rfl
theorem q46_111110122013:q46 [1,1,1,1,1,0,1,2,2,0,1,3]=.skip:=by kernel_rfl
theorem q46_111110122014:q46 [1,1,1,1,1,0,1,2,2,0,1,4]=.exit 2:=by kernel_rfl
theorem q46_1111101221:q46 [1,1,1,1,1,0,1,2,2,1]=.seq (q46 [1,1,1,1,1,0,1,2,2,1,0]) (q46 [1,1,1,1,1,0,1,2,2,1,1]):=by kernel_rfl
theorem q46_11111012210:q46 [1,1,1,1,1,0,1,2,2,1,0]=.block 3 (q46 [1,1,1,1,1,0,1,2,2,1,0,2]):=by kernel_rfl
theorem q46_111110122102:q46 [1,1,1,1,1,0,1,2,2,1,0,2]=.seq (q46 [1,1,1,1,1,0,1,2,2,1,0,2,0]) (q46 [1,1,1,1,1,0,1,2,2,1,0,2,1]):=by kernel_rfl
theorem q46_1111101221020:q46 [1,1,1,1,1,0,1,2,2,1,0,2,0]=.region 12 (opsA (q46 [1,1,1,1,1,0,1,2,2,1,0,2,0])) false:=by kernel_rfl
theorem q46_1111101221021:q46 [1,1,1,1,1,0,1,2,2,1,0,2,1]=.seq (q46 [1,1,1,1,1,0,1,2,2,1,0,2,1,0]) (q46 [1,1,1,1,1,0,1,2,2,1,0,2,1,1]):=by kernel_rfl
theorem q46_11111012210210:q46 [1,1,1,1,1,0,1,2,2,1,0,2,1,0]=.seq (q46 [1,1,1,1,1,0,1,2,2,1,0,2,1,0,0]) (q46 [1,1,1,1,1,0,1,2,2,1,0,2,1,0,1]):=by kernel_rfl
theorem q46_111110122102100:q46 [1,1,1,1,1,0,1,2,2,1,0,2,1,0,0]=.region 13 (opsA (q46 [1,1,1,1,1,0,1,2,2,1,0,2,1,0,0])) false:=by kernel_rfl
theorem q46_111110122102101:q46 [1,1,1,1,1,0,1,2,2,1,0,2,1,0,1]=.block 4 (q46 [1,1,1,1,1,0,1,2,2,1,0,2,1,0,1,2]):=by kernel_rfl
theorem q46_1111101221021012:q46 [1,1,1,1,1,0,1,2,2,1,0,2,1,0,1,2]=.loop (q46 [1,1,1,1,1,0,1,2,2,1,0,2,1,0,1,2,2]):=by kernel_rfl
theorem q46_11111012210210122:q46 [1,1,1,1,1,0,1,2,2,1,0,2,1,0,1,2,2]=.seq (q46 [1,1,1,1,1,0,1,2,2,1,0,2,1,0,1,2,2,0]) (q46 [1,1,1,1,1,0,1,2,2,1,0,2,1,0,1,2,2,1]):=by kernel_rfl
theorem q46_111110122102101220:q46 [1,1,1,1,1,0,1,2,2,1,0,2,1,0,1,2,2,0]=.seq (q46 [1,1,1,1,1,0,1,2,2,1,0,2,1,0,1,2,2,0,0]) (q46 [1,1,1,1,1,0,1,2,2,1,0,2,1,0,1,2,2,0,1]):=by kernel_rfl
theorem q46_1111101221021012200:q46 [1,1,1,1,1,0,1,2,2,1,0,2,1,0,1,2,2,0,0]=.region 14 (opsA (q46 [1,1,1,1,1,0,1,2,2,1,0,2,1,0,1,2,2,0,0])) false:=by kernel_rfl
theorem q46_1111101221021012201:q46 [1,1,1,1,1,0,1,2,2,1,0,2,1,0,1,2,2,0,1]=.cond (.tmp 42) (q46 [1,1,1,1,1,0,1,2,2,1,0,2,1,0,1,2,2,0,1,3]) (q46 [1,1,1,1,1,0,1,2,2,1,0,2,1,0,1,2,2,0,1,4]):=by kernel_rfl
theorem q46_11111012210210122013:q46 [1,1,1,1,1,0,1,2,2,1,0,2,1,0,1,2,2,0,1,3]=.skip:=by kernel_rfl
theorem q46_11111012210210122014:q46 [1,1,1,1,1,0,1,2,2,1,0,2,1,0,1,2,2,0,1,4]=.exit 4:=by kernel_rfl
theorem q46_111110122102101221:q46 [1,1,1,1,1,0,1,2,2,1,0,2,1,0,1,2,2,1]=.seq (q46 [1,1,1,1,1,0,1,2,2,1,0,2,1,0,1,2,2,1,0]) (q46 [1,1,1,1,1,0,1,2,2,1,0,2,1,0,1,2,2,1,1]):=by kernel_rfl
theorem q46_1111101221021012210:q46 [1,1,1,1,1,0,1,2,2,1,0,2,1,0,1,2,2,1,0]=.block 5 (q46 [1,1,1,1,1,0,1,2,2,1,0,2,1,0,1,2,2,1,0,2]):=by kernel_rfl
theorem q46_11111012210210122102:q46 [1,1,1,1,1,0,1,2,2,1,0,2,1,0,1,2,2,1,0,2]=.seq (q46 [1,1,1,1,1,0,1,2,2,1,0,2,1,0,1,2,2,1,0,2,0]) (q46 [1,1,1,1,1,0,1,2,2,1,0,2,1,0,1,2,2,1,0,2,1]):=by kernel_rfl
theorem q46_111110122102101221020:q46 [1,1,1,1,1,0,1,2,2,1,0,2,1,0,1,2,2,1,0,2,0]=.region 16 (opsA (q46 [1,1,1,1,1,0,1,2,2,1,0,2,1,0,1,2,2,1,0,2,0])) false:=by kernel_rfl
theorem q46_111110122102101221021:q46 [1,1,1,1,1,0,1,2,2,1,0,2,1,0,1,2,2,1,0,2,1]=.region 17 (opsA (q46 [1,1,1,1,1,0,1,2,2,1,0,2,1,0,1,2,2,1,0,2,1])) false:=by kernel_rfl
theorem q46_1111101221021012211:q46 [1,1,1,1,1,0,1,2,2,1,0,2,1,0,1,2,2,1,1]=.region 15 (opsA (q46 [1,1,1,1,1,0,1,2,2,1,0,2,1,0,1,2,2,1,1])) false:=by kernel_rfl
theorem q46_11111012210211:q46 [1,1,1,1,1,0,1,2,2,1,0,2,1,1]=.seq (q46 [1,1,1,1,1,0,1,2,2,1,0,2,1,1,0]) (q46 [1,1,1,1,1,0,1,2,2,1,0,2,1,1,1]):=by kernel_rfl
theorem q46_111110122102110:q46 [1,1,1,1,1,0,1,2,2,1,0,2,1,1,0]=.region 18 (opsA (q46 [1,1,1,1,1,0,1,2,2,1,0,2,1,1,0])) false:=by kernel_rfl
theorem q46_111110122102111:q46 [1,1,1,1,1,0,1,2,2,1,0,2,1,1,1]=.block 6 (q46 [1,1,1,1,1,0,1,2,2,1,0,2,1,1,1,2]):=by kernel_rfl
theorem q46_1111101221021112:q46 [1,1,1,1,1,0,1,2,2,1,0,2,1,1,1,2]=.loop (q46 [1,1,1,1,1,0,1,2,2,1,0,2,1,1,1,2,2]):=by kernel_rfl
theorem q46_11111012210211122:q46 [1,1,1,1,1,0,1,2,2,1,0,2,1,1,1,2,2]=.seq (q46 [1,1,1,1,1,0,1,2,2,1,0,2,1,1,1,2,2,0]) (q46 [1,1,1,1,1,0,1,2,2,1,0,2,1,1,1,2,2,1]):=by kernel_rfl
theorem q46_111110122102111220:q46 [1,1,1,1,1,0,1,2,2,1,0,2,1,1,1,2,2,0]=.seq (q46 [1,1,1,1,1,0,1,2,2,1,0,2,1,1,1,2,2,0,0]) (q46 [1,1,1,1,1,0,1,2,2,1,0,2,1,1,1,2,2,0,1]):=by kernel_rfl
theorem q46_1111101221021112200:q46 [1,1,1,1,1,0,1,2,2,1,0,2,1,1,1,2,2,0,0]=.region 19 (opsA (q46 [1,1,1,1,1,0,1,2,2,1,0,2,1,1,1,2,2,0,0])) false:=by kernel_rfl
theorem q46_1111101221021112201:q46 [1,1,1,1,1,0,1,2,2,1,0,2,1,1,1,2,2,0,1]=.cond (.tmp 63) (q46 [1,1,1,1,1,0,1,2,2,1,0,2,1,1,1,2,2,0,1,3]) (q46 [1,1,1,1,1,0,1,2,2,1,0,2,1,1,1,2,2,0,1,4]):=by kernel_rfl
theorem q46_11111012210211122013:q46 [1,1,1,1,1,0,1,2,2,1,0,2,1,1,1,2,2,0,1,3]=.skip:=by kernel_rfl
theorem q46_11111012210211122014:q46 [1,1,1,1,1,0,1,2,2,1,0,2,1,1,1,2,2,0,1,4]=.exit 6:=by kernel_rfl
theorem q46_111110122102111221:q46 [1,1,1,1,1,0,1,2,2,1,0,2,1,1,1,2,2,1]=.seq (q46 [1,1,1,1,1,0,1,2,2,1,0,2,1,1,1,2,2,1,0]) (q46 [1,1,1,1,1,0,1,2,2,1,0,2,1,1,1,2,2,1,1]):=by kernel_rfl
theorem q46_1111101221021112210:q46 [1,1,1,1,1,0,1,2,2,1,0,2,1,1,1,2,2,1,0]=.block 7 (q46 [1,1,1,1,1,0,1,2,2,1,0,2,1,1,1,2,2,1,0,2]):=by kernel_rfl
theorem q46_11111012210211122102:q46 [1,1,1,1,1,0,1,2,2,1,0,2,1,1,1,2,2,1,0,2]=.region 21 (opsA (q46 [1,1,1,1,1,0,1,2,2,1,0,2,1,1,1,2,2,1,0,2])) false:=by kernel_rfl
theorem q46_1111101221021112211:q46 [1,1,1,1,1,0,1,2,2,1,0,2,1,1,1,2,2,1,1]=.region 20 (opsA (q46 [1,1,1,1,1,0,1,2,2,1,0,2,1,1,1,2,2,1,1])) false:=by kernel_rfl
theorem q46_11111012211:q46 [1,1,1,1,1,0,1,2,2,1,1]=.region 11 (opsA (q46 [1,1,1,1,1,0,1,2,2,1,1])) false:=by kernel_rfl
theorem q46_111111:q46 [1,1,1,1,1,1]=.seq (q46 [1,1,1,1,1,1,0]) (q46 [1,1,1,1,1,1,1]):=by kernel_rfl
theorem q46_1111110:q46 [1,1,1,1,1,1,0]=.region 22 (opsA (q46 [1,1,1,1,1,1,0])) false:=by kernel_rfl
theorem q46_1111111:q46 [1,1,1,1,1,1,1]=.ret:=by kernel_rfl
section
variable (Hh:Hearts K Tryz.prog)
include Hh
theorem mayOk {gr sz ino jr:Nat} (F:Fine gr sz ino jr) (h:Go.Ev.H):CallOk K Tryz.prog 14 [.g (geoL gr sz ino jr)] h (.w (.c (.bool true))) h:=by
 refine CallOk.tidy ⟨_,Tryz.func14,by kernel_rfl,of_decide_eq_true (by kernel_rfl)⟩ fun tidy=>?_
 suffices hs:Goes K Tryz.prog 66 none (q14 []) [] (argTmps 0 [.g (geoL gr sz ino jr)] .nil) h fun x ds ts h1=>(∀ n,n<h.next→h1.get n=h.get n)∧leave K Tryz.f14 (some (.at x ds ts h1))=some (.val (.w (.c (.bool true))) h1) by
  obtain⟨x,ds,ts,h1,g,e2,e3⟩:=hs
  exact (CallOk.body fits Hh (by kernel_rfl) (by kernel_rfl) (by kernel_rfl) (by kernel_rfl) rfl g e3).quiet rfl e2
 obtain⟨g1,g2,g3,g4,g5,g6,g7,g8,g9,g10,g11⟩:=F
 have e0:evalT (argTmps 0 [.g (geoL gr sz ino jr)] .nil) 0=.w (.g [.int .i64 gr,.int .i64 sz,.int .i64 ino,.int .i64 jr]):=by rw[evalT_args]; rfl
 have c1:decide ((gr:Int)<1)=false:=decide_eq_false (by omega)
 have c2:decide ((gr:Int) > 4)=false:=decide_eq_false (by omega)
 have c3:decide ((sz:Int)<16)=false:=decide_eq_false (by omega)
 have c4:decide ((sz:Int) > 512)=false:=decide_eq_false (by omega)
 have c5:decide ((ino:Int)<4)=false:=decide_eq_false (by omega)
 have c6:decide ((ino:Int) > 64)=false:=decide_eq_false (by omega)
 have c7:opRem .i64 (ino:Int) 4=some (.int .i64 0):=by
  show some (C.int .i64 ((ino:Int).tmod 4))=_
  rw[show (ino:Int).tmod 4=((ino % 4:Nat):Int) from rfl,g7]
  rfl
 have c8:decide ((jr:Int)<40)=false:=decide_eq_false (by omega)
 have c9:decide ((jr:Int) > 256)=false:=decide_eq_false (by omega)
 have q1:opQuo .i64 (ino:Int) 4=some (.int .i64 ((ino / 4:Nat):Int)):=by
  show some (wrapC .i64 ((ino:Int).tdiv 4))=_
  rw[show (ino:Int).tdiv 4=((ino / 4:Nat):Int) from rfl,wrap64 (by omega) (by omega)]
 have w1:wrapC .i64 (3+((ino / 4:Nat):Int))=.int .i64 ((3+ino / 4:Nat):Int):=by rw[wrap64 (by omega) (by omega)]; congr 1
 have c10:decide ((sz:Int) ≥ ((3+ino / 4:Nat):Int))=true:=decide_eq_true (by omega)
 have w2:wrapC .i64 (2+(jr:Int))=.int .i64 ((2+jr:Nat):Int):=by rw[wrap64 (by omega) (by omega)]; congr 1
 have hm:gr * sz≤2048:=by omega
 have w3:wrapC .i64 ((gr:Int) * (sz:Int))=.int .i64 ((gr * sz:Nat):Int):=by
  have e:(gr:Int) * (sz:Int)=((gr * sz:Nat):Int):=by simp
  rw[e,wrap64 (by omega) (by omega)]
 have w4:wrapC .i64 (((2+jr:Nat):Int)+((gr * sz:Nat):Int))=.int .i64 ((2+jr+gr * sz:Nat):Int):=by rw[wrap64 (by omega) (by omega)]; congr 1
 have c11:decide (((2+jr+gr * sz:Nat):Int)≤2048)=true:=decide_eq_true (by omega)
 have e1:Tryz.f14.results.toList=[.tmp 2]:=rfl
 have z0:((0:Int) != 0)=false:=rfl
 show Goes K Tryz.prog 66 none (q14 []) _ _ _ _
 rw[q14_]
 refine Goes.seq ?_
 show Goes K Tryz.prog 66 none (q14 [0]) _ _ _ _
 rw[q14_0]
 refine Goes.ops2 fits Hh E0_sound (by
  simp only[q14,piece,part0,part1,part2,part2l,part3,part4,bodyOf,Tryz.f14,opsA]
  simp (decide:=true) only [go_sem,putTH_some,H.get_put,H.get_new,loadIn,storeIn,reduceIte,Nat.reduceAdd,Nat.reduceMul,e0,c1,c2,c3,c4,c5,c6,c7,c8,c9,q1,w1,c10,w2,w3,w4,c11,z0,opBox,fGeo0,fGeo1,fGeo2,fGeo3,geo0,geo1,geo2,geo3,tyInt,sInt,aInt,cW,Nat.zero_add]
  rfl) ?_
 show Goes K Tryz.prog 66 none (q14 [1]) _ _ _ _
 rw[q14_1]
 refine Goes.seq ?_
 show Goes K Tryz.prog 66 none (q14 [1,0]) _ _ _ _
 rw[q14_10]
 refine Goes.seq ?_
 show Goes K Tryz.prog 66 none (q14 [1,0,0]) _ _ _ _
 rw[q14_100]
 refine Goes.ops2 fits Hh E0_sound (by
  simp only[q14,piece,part0,part1,part2,part2l,part3,part4,bodyOf,Tryz.f14,opsA]
  simp (decide:=true) only [go_sem,putTH_some,H.get_put,H.get_new,loadIn,storeIn,reduceIte,Nat.reduceAdd,Nat.reduceMul,e0,c1,c2,c3,c4,c5,c6,c7,c8,c9,q1,w1,c10,w2,w3,w4,c11,z0,opBox,fGeo0,fGeo1,fGeo2,fGeo3,geo0,geo1,geo2,geo3,tyInt,sInt,aInt,cW,Nat.zero_add]
  rfl) ?_
 show Goes K Tryz.prog 66 none (q14 [1,0,1]) _ _ _ _
 rw[q14_101]
 refine Goes.condF (by simp (decide:=true) only [evalC,evalO_tmp,asC,evalT_set,reduceIte,dec_true,dec_false,e0,c1,c2,c3,c4,c5,c6,c7,c8,c9,q1,w1,c10,w2,w3,w4,c11,z0,opBox,fGeo0,fGeo1,fGeo2,fGeo3,geo0,geo1,geo2,geo3,tyInt,sInt,aInt,cW,Nat.zero_add]) ?_
 show Goes K Tryz.prog 66 none (q14 [1,0,1,4]) _ _ _ _
 rw[q14_1014]
 refine Goes.skip ?_
 show Goes K Tryz.prog 66 none (q14 [1,1]) _ _ _ _
 rw[q14_11]
 refine Goes.seq ?_
 show Goes K Tryz.prog 66 none (q14 [1,1,0]) _ _ _ _
 rw[q14_110]
 refine Goes.ops2 fits Hh E0_sound (by
  simp only[q14,piece,part0,part1,part2,part2l,part3,part4,bodyOf,Tryz.f14,opsA]
  simp (decide:=true) only [go_sem,putTH_some,H.get_put,H.get_new,loadIn,storeIn,reduceIte,Nat.reduceAdd,Nat.reduceMul,e0,c1,c2,c3,c4,c5,c6,c7,c8,c9,q1,w1,c10,w2,w3,w4,c11,z0,opBox,fGeo0,fGeo1,fGeo2,fGeo3,geo0,geo1,geo2,geo3,tyInt,sInt,aInt,cW,Nat.zero_add]
  rfl) ?_
 show Goes K Tryz.prog 66 none (q14 [1,1,1]) _ _ _ _
 rw[q14_111]
 refine Goes.ret ?_
 refine⟨fun n hn=>?_,?_⟩
 ·rw[H.get_new,if_neg (by omega)]
 ·simp (decide:=true) only [leave_ret,takeMarks,finish,e1,resultsOf,evalW,evalO_tmp,asW,evalT_set,reduceIte,resultOf]
end
def thing (k gr at' ino:Int):List C:=[.int .u8 k,.int .i64 gr,.int .i64 at',.int .i64 ino]
theorem elThings:elemTI K 99=some ti149:=by kernel_rfl
theorem sThing:ti149.size=4:=rfl
theorem bThing:ti149.bytes=32:=rfl
theorem bld1 (k:Int):opBuild K 149 (some [(0,.c (.int .u8 k))])=some (.g [.int .u8 k,.int .i64 0,.int .i64 0,.int .i64 0]):=by kernel_rfl
theorem bld3 (k a:Int):opBuild K 149 (some [(0,.c (.int .u8 k)),(2,.c (.int .i64 a))])=some (.g [.int .u8 k,.int .i64 0,.int .i64 a,.int .i64 0]):=by kernel_rfl
theorem bld4 (k a:Int):opBuild K 149 (some [(0,.c (.int .u8 k)),(1,.c (.int .i64 a))])=some (.g [.int .u8 k,.int .i64 a,.int .i64 0,.int .i64 0]):=by kernel_rfl
theorem bld5 (k a b:Int):opBuild K 149 (some [(0,.c (.int .u8 k)),(1,.c (.int .i64 a)),(2,.c (.int .i64 b))])=some (.g [.int .u8 k,.int .i64 a,.int .i64 b,.int .i64 0]):=by kernel_rfl
theorem bld6 (k a b c:Int):opBuild K 149 (some [(0,.c (.int .u8 k)),(1,.c (.int .i64 a)),(2,.c (.int .i64 b)),(3,.c (.int .i64 c))])=some (.g [.int .u8 k,.int .i64 a,.int .i64 b,.int .i64 c]):=by kernel_rfl
theorem bs1 (h:Go.Ev.H) (a b c d:C):opBuildSlice h 1 (some ti149) (some [(0,.g [a,b,c,d])])=some (.w (.c (.slice h.next 0 1 4)),h.new (.row 4 [[a,b,c,d]] false)):=rfl
theorem bs2 (h:Go.Ev.H) (a b c d a' b' c' d':C):opBuildSlice h 2 (some ti149) (some [(0,.g [a,b,c,d]),(1,.g [a',b',c',d'])])=some (.w (.c (.slice h.next 0 2 4)),h.new (.row 4 [[a,b,c,d],[a',b',c',d']] false)):=rfl
theorem sfThings (n off len sz:Nat):srcFits K 99 (.slice n off len sz)=true:=by unfold srcFits; rw[show K.types.get 99=some ti99 by kernel_rfl]; rfl
structure AllSt (p:Nat) (h0:Go.Ev.H) (L:List (List C)) (ts:Tmps) (h:Go.Ev.H):Prop where
 p1:evalT ts 1=.w (.c (.ptr p 0))
 sl:∃ n,evalT ts 3=.w (.c (.slice n 0 L.length 4))∧h.get n=some (.row 4 L false)∧p<n∧n<h.next
 up:h0.next≤h.next
 keep:∀ m,m≤p→h.get m=h0.get m
theorem AllSt.grow {p n:Nat} {h0 h:Go.Ev.H} {L M:List (List C)} {ts ts':Tmps} (s:AllSt p h0 L ts h) (hn:p<n) (hlt:n<h.next) (e1:evalT ts' 1=.w (.c (.ptr p 0))) (e3:evalT ts' 3=.w (.c (.slice (h.next+1) 0 (L.length+M.length) 4))):AllSt p h0 (L++M) ts' (((h.new (.row 4 M false)).del n).new (.row 4 (L++M) false)):=by
 refine⟨e1,⟨h.next+1,by rw[e3,List.length_append],?_,by omega,?_⟩,?_,fun m hm=>?_⟩
 ·rw[H.get_new,H.next_del,H.next_new,if_pos rfl]
 ·rw[H.next_new,H.next_del,H.next_new]; omega
 ·rw[H.next_new,H.next_del,H.next_new]; have:=s.up; omega
 ·rw[H.get_new,H.next_del,H.next_new,if_neg (by omega),H.get_del,if_neg (by omega),H.get_new,if_neg (by omega)]
  exact s.keep m hm
theorem AllSt.same {p:Nat} {h0 h:Go.Ev.H} {L:List (List C)} {ts ts':Tmps} (s:AllSt p h0 L ts h) (e1:evalT ts' 1=evalT ts 1) (e3:evalT ts' 3=evalT ts 3):AllSt p h0 L ts' h :=
 ⟨by rw[e1]; exact s.p1,by rw[e3]; exact s.sl,s.up,s.keep⟩
theorem grow1 {h:Go.Ev.H} {n:Nat} {L:List (List C)} (x:List C) (ho:h.get n=some (.row 4 L false)) (hn:n<h.next) (hl:L.length≤4000) :
  opAppend (h.new (.row 4 [x] false)) (some ti149) (.slice n 0 L.length 4) (.slice h.next 0 1 4)=some (.w (.c (.slice (h.next+1) 0 (L.length+1) 4)),((h.new (.row 4 [x] false)).del n).new (.row 4 (L++[x]) false)) :=
 append_ok (M:=[x]) sThing (by rw[H.get_new,if_neg (by omega)]; exact ho) (by rw[H.get_new,if_pos rfl]) (by simp) (by rw[bThing]; show (L.length+1) * 32≤_; omega) (by show L.length+1≤_; omega)
theorem grow2 {h:Go.Ev.H} {n:Nat} {L:List (List C)} (x y:List C) (ho:h.get n=some (.row 4 L false)) (hn:n<h.next) (hl:L.length≤4000) :
  opAppend (h.new (.row 4 [x,y] false)) (some ti149) (.slice n 0 L.length 4) (.slice h.next 0 2 4)=some (.w (.c (.slice (h.next+1) 0 (L.length+2) 4)),((h.new (.row 4 [x,y] false)).del n).new (.row 4 (L++[x,y]) false)) :=
 append_ok (M:=[x,y]) sThing (by rw[H.get_new,if_neg (by omega)]; exact ho) (by rw[H.get_new,if_pos rfl]) (by simp) (by rw[bThing]; show (L.length+2) * 32≤_; omega) (by show L.length+2≤_; omega)
def jrL (i:Nat):List (List C):=[thing 1 0 0 0,thing 2 0 0 0]++(List.range i).map fun (j:Nat)=>thing 3 0 j 0
def inL (a ino c:Nat):List (List C):=(List.range c).map fun (k:Nat)=>thing 6 a ((2+k:Nat):Int) ((1+a * ino+4 * k:Nat):Int)
def daL (a ino d:Nat):List (List C):=(List.range d).map fun (k:Nat)=>thing 7 a ((2+ino / 4+k:Nat):Int) 0
def grL (sz ino a:Nat):List (List C):=[thing 4 a 0 0,thing 5 a 1 0]++inL a ino (ino / 4)++daL a ino (sz - (2+ino / 4))
def groupsL (sz ino a:Nat):List (List C):=(List.range a).flatMap (grL sz ino)
def allL (gr sz ino jr:Nat):List (List C):=jrL jr++groupsL sz ino gr
theorem jrL_len (i:Nat):(jrL i).length=2+i:=by simp [jrL]; omega
theorem jrL_succ (i:Nat):jrL (i+1)=jrL i++[thing 3 0 i 0]:=by simp [jrL,List.range_succ]
theorem inL_len (a ino c:Nat):(inL a ino c).length=c:=by simp [inL]
theorem inL_succ (a ino c:Nat):inL a ino (c+1)=inL a ino c++[thing 6 a ((2+c:Nat):Int) ((1+a * ino+4 * c:Nat):Int)]:=by simp [inL,List.range_succ]
theorem daL_len (a ino d:Nat):(daL a ino d).length=d:=by simp [daL]
theorem daL_succ (a ino d:Nat):daL a ino (d+1)=daL a ino d++[thing 7 a ((2+ino / 4+d:Nat):Int) 0]:=by simp [daL,List.range_succ]
theorem grL_len {sz ino:Nat} (h:3+ino / 4≤sz) (a:Nat):(grL sz ino a).length=sz:=by simp [grL,inL_len,daL_len]; omega
theorem groupsL_succ (sz ino a:Nat):groupsL sz ino (a+1)=groupsL sz ino a++grL sz ino a:=by simp [groupsL,List.range_succ]
theorem groupsL_len {sz ino:Nat} (h:3+ino / 4≤sz) (a:Nat):(groupsL sz ino a).length=a * sz:=by
 induction a with
 | zero=>simp [groupsL]
 | succ a ih=>rw[groupsL_succ,List.length_append,ih,grL_len h,Nat.succ_mul]
section
variable (Hh:Hearts K Tryz.prog)
include Hh
theorem all1 {gr sz ino jr:Nat} (F:Fine gr sz ino jr) (p:Nat) (h0:Go.Ev.H) (hp:h0.get p=some (.row 4 [geoL gr sz ino jr] false)):∀ (k i:Nat) (ts:Tmps) (h:Go.Ev.H),i+k=jr→AllSt p h0 (jrL i) ts h→evalT ts 4=.w (.c (.int .i64 i)) →
  Goes K Tryz.prog 73 none (q46 [1,1,1,0,1,2]) [] ts h fun x ds' ts' h'=>x=.exit 0∧ds'=[]∧AllSt p h0 (jrL jr) ts' h':=by
 obtain⟨g1,g2,g3,g4,g5,g6,g7,g8,g9,g10,g11⟩:=F
 intro k
 induction k with
 | zero =>
  intro i ts h hi st h4
  have ei:i=jr:=by omega
  subst ei
  have hg:h.get p=some (.row 4 [[.int .i64 gr,.int .i64 sz,.int .i64 ino,.int .i64 i]] false):=(st.keep p (Nat.le_refl _)).trans hp
  have h1:=st.p1
  have c1:decide ((i:Int)<(i:Int))=false:=decide_eq_false (by omega)
  show Goes K Tryz.prog 73 none (q46 [1,1,1,0,1,2]) _ _ _ _
  rw[q46_111012]
  refine Goes.loop ?_
  show Goes K Tryz.prog 73 none (q46 [1,1,1,0,1,2,2]) _ _ _ _
  rw[q46_1110122]
  refine Goes.seq ?_
  show Goes K Tryz.prog 73 none (q46 [1,1,1,0,1,2,2,0]) _ _ _ _
  rw[q46_11101220]
  refine Goes.seq ?_
  show Goes K Tryz.prog 73 none (q46 [1,1,1,0,1,2,2,0,0]) _ _ _ _
  rw[q46_111012200]
  refine Goes.ops2 fits Hh E0_sound (by
   simp only[q46,piece,part0,part1,part2,part2l,part3,part4,bodyOf,Tryz.f46,opsA]
   simp (decide:=true) only [go_sem,putTH_some,H.get_put,H.get_new,loadIn,storeIn,reduceIte,Nat.reduceAdd,Nat.reduceMul,h4,h1,hg,c1,fGeo3,geo3,tyInt,sInt,aInt,cW,Nat.zero_add]
   rfl) ?_
  show Goes K Tryz.prog 73 none (q46 [1,1,1,0,1,2,2,0,1]) _ _ _ _
  rw[q46_111012201]
  refine Goes.condF (by simp (decide:=true) only [evalC,evalO_tmp,asC,evalT_set,reduceIte,dec_true,dec_false,h4,h1,hg,c1,fGeo3,geo3,tyInt,sInt,aInt,cW,Nat.zero_add]) ?_
  show Goes K Tryz.prog 73 none (q46 [1,1,1,0,1,2,2,0,1,4]) _ _ _ _
  rw[q46_1110122014]
  refine Goes.exit ?_
  refine⟨rfl,rfl,st.same ?_ ?_⟩
  ·simp (decide:=true) only [evalT_set,reduceIte]
  ·simp (decide:=true) only [evalT_set,reduceIte]
 | succ k ih =>
  intro i ts h hi st h4
  have hg:h.get p=some (.row 4 [[.int .i64 gr,.int .i64 sz,.int .i64 ino,.int .i64 jr]] false):=(st.keep p (Nat.le_refl _)).trans hp
  have h1:=st.p1
  obtain⟨n,h3,hn,hpn,hlt⟩:=st.sl
  have c1:decide ((i:Int)<(jr:Int))=true:=decide_eq_true (by omega)
  have w1:wrapC .i64 ((i:Int)+1)=.int .i64 ((i+1:Nat):Int):=by rw[wrap64 (by omega) (by omega)]; congr 1
  have ap:=grow1 (thing 3 0 i 0) hn hlt (by rw[jrL_len]; omega)
  simp only[thing] at ap
  show Goes K Tryz.prog 73 none (q46 [1,1,1,0,1,2]) _ _ _ _
  rw[q46_111012]
  refine Goes.loop ?_
  show Goes K Tryz.prog 73 none (q46 [1,1,1,0,1,2,2]) _ _ _ _
  rw[q46_1110122]
  refine Goes.seq ?_
  show Goes K Tryz.prog 73 none (q46 [1,1,1,0,1,2,2,0]) _ _ _ _
  rw[q46_11101220]
  refine Goes.seq ?_
  show Goes K Tryz.prog 73 none (q46 [1,1,1,0,1,2,2,0,0]) _ _ _ _
  rw[q46_111012200]
  refine Goes.ops2 fits Hh E0_sound (by
   simp only[q46,piece,part0,part1,part2,part2l,part3,part4,bodyOf,Tryz.f46,opsA]
   simp (decide:=true) only [go_sem,putTH_some,H.get_put,H.get_new,loadIn,storeIn,reduceIte,Nat.reduceAdd,Nat.reduceMul,h4,h1,h3,hg,c1,w1,ap,fGeo3,geo3,tyInt,sInt,aInt,cW,Nat.zero_add,bld3,bs1,elThings,sfThings,opBuiltin]
   rfl) ?_
  show Goes K Tryz.prog 73 none (q46 [1,1,1,0,1,2,2,0,1]) _ _ _ _
  rw[q46_111012201]
  refine Goes.condT (by simp (decide:=true) only [evalC,evalO_tmp,asC,evalT_set,reduceIte,dec_true,dec_false,h4,h1,h3,hg,c1,w1,ap,fGeo3,geo3,tyInt,sInt,aInt,cW,Nat.zero_add,bld3,bs1,elThings,sfThings,opBuiltin]) ?_
  show Goes K Tryz.prog 73 none (q46 [1,1,1,0,1,2,2,0,1,3]) _ _ _ _
  rw[q46_1110122013]
  refine Goes.skip ?_
  show Goes K Tryz.prog 73 none (q46 [1,1,1,0,1,2,2,1]) _ _ _ _
  rw[q46_11101221]
  refine Goes.seq ?_
  show Goes K Tryz.prog 73 none (q46 [1,1,1,0,1,2,2,1,0]) _ _ _ _
  rw[q46_111012210]
  refine Goes.block ?_
  show Goes K Tryz.prog 73 none (q46 [1,1,1,0,1,2,2,1,0,2]) _ _ _ _
  rw[q46_1110122102]
  refine Goes.ops2 fits Hh E0_sound (by
   simp only[q46,piece,part0,part1,part2,part2l,part3,part4,bodyOf,Tryz.f46,opsA]
   simp (decide:=true) only [go_sem,putTH_some,H.get_put,H.get_new,loadIn,storeIn,reduceIte,Nat.reduceAdd,Nat.reduceMul,h4,h1,h3,hg,c1,w1,ap,fGeo3,geo3,tyInt,sInt,aInt,cW,Nat.zero_add,bld3,bs1,elThings,sfThings,opBuiltin]
   rfl) ?_
  show Goes K Tryz.prog 73 none (q46 [1,1,1,0,1,2,2,1,1]) _ _ _ _
  rw[q46_111012211]
  refine Goes.ops2 fits Hh E0_sound (by
   simp only[q46,piece,part0,part1,part2,part2l,part3,part4,bodyOf,Tryz.f46,opsA]
   simp (decide:=true) only [go_sem,putTH_some,H.get_put,H.get_new,loadIn,storeIn,reduceIte,Nat.reduceAdd,Nat.reduceMul,h4,h1,h3,hg,c1,w1,ap,fGeo3,geo3,tyInt,sInt,aInt,cW,Nat.zero_add,bld3,bs1,elThings,sfThings,opBuiltin]
   rfl) ?_
  show Goes K Tryz.prog 73 none (.loop (q46 [1,1,1,0,1,2,2])) _ _ _ _
  rw[←q46_111012]
  refine ih (i+1) _ _ (by omega) ?_ ?_
  ·rw[jrL_succ]
   refine st.grow hpn hlt ?_ ?_
   ·simp (decide:=true) only [evalT_set,reduceIte,h1]
   ·simp (decide:=true) only [evalT_set,reduceIte]
    rfl
  ·simp (decide:=true) only [evalT_set,reduceIte]
theorem all4 {gr sz ino jr:Nat} (F:Fine gr sz ino jr) (a:Nat) (ha:a<gr) (p:Nat) (h0:Go.Ev.H) (hp:h0.get p=some (.row 4 [geoL gr sz ino jr] false)) (B:List (List C)) (hB:B.length≤2060):∀ (k c:Nat) (ts:Tmps) (h:Go.Ev.H),c+k=ino / 4→AllSt p h0 (B++inL a ino c) ts h→evalT ts 6=.w (.c (.int .i64 a))→evalT ts 7=.w (.c (.int .i64 ((4 * c:Nat):Int)))→evalT ts 5=.w (.c (.int .i64 ((1+a * ino+4 * c:Nat):Int))) →
  Goes K Tryz.prog 73 none (q46 [1,1,1,1,1,0,1,2,2,1,0,2,1,0,1,2]) [] ts h fun x ds' ts' h'=>x=.exit 4∧ds'=[]∧AllSt p h0 (B++inL a ino (ino / 4)) ts' h'∧evalT ts' 6=.w (.c (.int .i64 a))∧evalT ts' 5=.w (.c (.int .i64 ((1+(a+1) * ino:Nat):Int))):=by
 obtain⟨g1,g2,g3,g4,g5,g6,g7,g8,g9,g10,g11⟩:=F
 have ham:a * ino≤4 * 64:=Nat.mul_le_mul (by omega) (by omega)
 intro k
 induction k with
 | zero =>
  intro c ts h hc st h6 h7 h5
  have ec:c=ino / 4:=by omega
  subst ec
  have hg:h.get p=some (.row 4 [[.int .i64 gr,.int .i64 sz,.int .i64 ino,.int .i64 jr]] false):=(st.keep p (Nat.le_refl _)).trans hp
  have h1:=st.p1
  have c1:decide (((4 * (ino / 4):Nat):Int)<(ino:Int))=false:=decide_eq_false (by omega)
  show Goes K Tryz.prog 73 none (q46 [1,1,1,1,1,0,1,2,2,1,0,2,1,0,1,2]) _ _ _ _
  rw[q46_1111101221021012]
  refine Goes.loop ?_
  show Goes K Tryz.prog 73 none (q46 [1,1,1,1,1,0,1,2,2,1,0,2,1,0,1,2,2]) _ _ _ _
  rw[q46_11111012210210122]
  refine Goes.seq ?_
  show Goes K Tryz.prog 73 none (q46 [1,1,1,1,1,0,1,2,2,1,0,2,1,0,1,2,2,0]) _ _ _ _
  rw[q46_111110122102101220]
  refine Goes.seq ?_
  show Goes K Tryz.prog 73 none (q46 [1,1,1,1,1,0,1,2,2,1,0,2,1,0,1,2,2,0,0]) _ _ _ _
  rw[q46_1111101221021012200]
  refine Goes.ops2 fits Hh E0_sound (by
   simp only[q46,piece,part0,part1,part2,part2l,part3,part4,bodyOf,Tryz.f46,opsA]
   simp (decide:=true) only [go_sem,putTH_some,H.get_put,H.get_new,loadIn,storeIn,reduceIte,Nat.reduceAdd,Nat.reduceMul,h7,h1,hg,c1,fGeo2,geo2,tyInt,sInt,aInt,cW,Nat.zero_add]
   rfl) ?_
  show Goes K Tryz.prog 73 none (q46 [1,1,1,1,1,0,1,2,2,1,0,2,1,0,1,2,2,0,1]) _ _ _ _
  rw[q46_1111101221021012201]
  refine Goes.condF (by simp (decide:=true) only [evalC,evalO_tmp,asC,evalT_set,reduceIte,dec_true,dec_false,h7,h1,hg,c1,fGeo2,geo2,tyInt,sInt,aInt,cW,Nat.zero_add]) ?_
  show Goes K Tryz.prog 73 none (q46 [1,1,1,1,1,0,1,2,2,1,0,2,1,0,1,2,2,0,1,4]) _ _ _ _
  rw[q46_11111012210210122014]
  refine Goes.exit ?_
  refine⟨rfl,rfl,st.same ?_ ?_,?_,?_⟩
  ·simp (decide:=true) only [evalT_set,reduceIte]
  ·simp (decide:=true) only [evalT_set,reduceIte]
  ·simp (decide:=true) only [evalT_set,reduceIte,h6]
  ·simp (decide:=true) only [evalT_set,reduceIte,h5]
   have:1+a * ino+4 * (ino / 4)=1+(a+1) * ino:=by rw[Nat.add_mul,Nat.one_mul]; omega
   rw[this]
 | succ k ih =>
  intro c ts h hc st h6 h7 h5
  have hg:h.get p=some (.row 4 [[.int .i64 gr,.int .i64 sz,.int .i64 ino,.int .i64 jr]] false):=(st.keep p (Nat.le_refl _)).trans hp
  have h1:=st.p1
  obtain⟨n,h3,hn,hpn,hlt⟩:=st.sl
  have c1:decide (((4 * c:Nat):Int)<(ino:Int))=true:=decide_eq_true (by omega)
  have q1:opQuo .i64 ((4 * c:Nat):Int) 4=some (.int .i64 (c:Int)):=by
   show some (wrapC .i64 (((4 * c:Nat):Int).tdiv 4))=_
   rw[show ((4 * c:Nat):Int).tdiv 4=((4 * c / 4:Nat):Int) from rfl,show 4 * c / 4=c by omega,wrap64 (by omega) (by omega)]
  have w1:wrapC .i64 (2+(c:Int))=.int .i64 ((2+c:Nat):Int):=by rw[wrap64 (by omega) (by omega)]; congr 1
  have w2:wrapC .i64 (((1+a * ino+4 * c:Nat):Int)+4)=.int .i64 ((1+a * ino+4 * (c+1):Nat):Int):=by rw[wrap64 (by omega) (by omega)]; congr 1
  have w3:wrapC .i64 (((4 * c:Nat):Int)+4)=.int .i64 ((4 * (c+1):Nat):Int):=by rw[wrap64 (by omega) (by omega)]; congr 1
  have ap:=grow1 (thing 6 a ((2+c:Nat):Int) ((1+a * ino+4 * c:Nat):Int)) hn hlt (by rw[List.length_append,inL_len]; omega)
  simp only[thing] at ap
  show Goes K Tryz.prog 73 none (q46 [1,1,1,1,1,0,1,2,2,1,0,2,1,0,1,2]) _ _ _ _
  rw[q46_1111101221021012]
  refine Goes.loop ?_
  show Goes K Tryz.prog 73 none (q46 [1,1,1,1,1,0,1,2,2,1,0,2,1,0,1,2,2]) _ _ _ _
  rw[q46_11111012210210122]
  refine Goes.seq ?_
  show Goes K Tryz.prog 73 none (q46 [1,1,1,1,1,0,1,2,2,1,0,2,1,0,1,2,2,0]) _ _ _ _
  rw[q46_111110122102101220]
  refine Goes.seq ?_
  show Goes K Tryz.prog 73 none (q46 [1,1,1,1,1,0,1,2,2,1,0,2,1,0,1,2,2,0,0]) _ _ _ _
  rw[q46_1111101221021012200]
  refine Goes.ops2 fits Hh E0_sound (by
   simp only[q46,piece,part0,part1,part2,part2l,part3,part4,bodyOf,Tryz.f46,opsA]
   simp (decide:=true) only [go_sem,putTH_some,H.get_put,H.get_new,loadIn,storeIn,reduceIte,Nat.reduceAdd,Nat.reduceMul,h7,h6,h5,h1,h3,hg,c1,q1,w1,w2,w3,ap,fGeo2,geo2,tyInt,sInt,aInt,cW,Nat.zero_add,bld6,bs1,elThings,sfThings,opBuiltin]
   rfl) ?_
  show Goes K Tryz.prog 73 none (q46 [1,1,1,1,1,0,1,2,2,1,0,2,1,0,1,2,2,0,1]) _ _ _ _
  rw[q46_1111101221021012201]
  refine Goes.condT (by simp (decide:=true) only [evalC,evalO_tmp,asC,evalT_set,reduceIte,dec_true,dec_false,h7,h6,h5,h1,h3,hg,c1,q1,w1,w2,w3,ap,fGeo2,geo2,tyInt,sInt,aInt,cW,Nat.zero_add,bld6,bs1,elThings,sfThings,opBuiltin]) ?_
  show Goes K Tryz.prog 73 none (q46 [1,1,1,1,1,0,1,2,2,1,0,2,1,0,1,2,2,0,1,3]) _ _ _ _
  rw[q46_11111012210210122013]
  refine Goes.skip ?_
  show Goes K Tryz.prog 73 none (q46 [1,1,1,1,1,0,1,2,2,1,0,2,1,0,1,2,2,1]) _ _ _ _
  rw[q46_111110122102101221]
  refine Goes.seq ?_
  show Goes K Tryz.prog 73 none (q46 [1,1,1,1,1,0,1,2,2,1,0,2,1,0,1,2,2,1,0]) _ _ _ _
  rw[q46_1111101221021012210]
  refine Goes.block ?_
  show Goes K Tryz.prog 73 none (q46 [1,1,1,1,1,0,1,2,2,1,0,2,1,0,1,2,2,1,0,2]) _ _ _ _
  rw[q46_11111012210210122102]
  refine Goes.seq ?_
  show Goes K Tryz.prog 73 none (q46 [1,1,1,1,1,0,1,2,2,1,0,2,1,0,1,2,2,1,0,2,0]) _ _ _ _
  rw[q46_111110122102101221020]
  refine Goes.ops2 fits Hh E0_sound (by
   simp only[q46,piece,part0,part1,part2,part2l,part3,part4,bodyOf,Tryz.f46,opsA]
   simp (decide:=true) only [go_sem,putTH_some,H.get_put,H.get_new,loadIn,storeIn,reduceIte,Nat.reduceAdd,Nat.reduceMul,h7,h6,h5,h1,h3,hg,c1,q1,w1,w2,w3,ap,fGeo2,geo2,tyInt,sInt,aInt,cW,Nat.zero_add,bld6,bs1,elThings,sfThings,opBuiltin]
   rfl) ?_
  show Goes K Tryz.prog 73 none (q46 [1,1,1,1,1,0,1,2,2,1,0,2,1,0,1,2,2,1,0,2,1]) _ _ _ _
  rw[q46_111110122102101221021]
  refine Goes.ops2 fits Hh E0_sound (by
   simp only[q46,piece,part0,part1,part2,part2l,part3,part4,bodyOf,Tryz.f46,opsA]
   simp (decide:=true) only [go_sem,putTH_some,H.get_put,H.get_new,loadIn,storeIn,reduceIte,Nat.reduceAdd,Nat.reduceMul,h7,h6,h5,h1,h3,hg,c1,q1,w1,w2,w3,ap,fGeo2,geo2,tyInt,sInt,aInt,cW,Nat.zero_add,bld6,bs1,elThings,sfThings,opBuiltin]
   rfl) ?_
  show Goes K Tryz.prog 73 none (q46 [1,1,1,1,1,0,1,2,2,1,0,2,1,0,1,2,2,1,1]) _ _ _ _
  rw[q46_1111101221021012211]
  refine Goes.ops2 fits Hh E0_sound (by
   simp only[q46,piece,part0,part1,part2,part2l,part3,part4,bodyOf,Tryz.f46,opsA]
   simp (decide:=true) only [go_sem,putTH_some,H.get_put,H.get_new,loadIn,storeIn,reduceIte,Nat.reduceAdd,Nat.reduceMul,h7,h6,h5,h1,h3,hg,c1,q1,w1,w2,w3,ap,fGeo2,geo2,tyInt,sInt,aInt,cW,Nat.zero_add,bld6,bs1,elThings,sfThings,opBuiltin]
   rfl) ?_
  show Goes K Tryz.prog 73 none (.loop (q46 [1,1,1,1,1,0,1,2,2,1,0,2,1,0,1,2,2])) _ _ _ _
  rw[←q46_1111101221021012]
  refine ih (c+1) _ _ (by omega) ?_ ?_ ?_ ?_
  ·rw[inL_succ,←List.append_assoc]
   refine st.grow hpn hlt ?_ ?_
   ·simp (decide:=true) only [evalT_set,reduceIte,h1]
   ·simp (decide:=true) only [evalT_set,reduceIte]
    rfl
  ·simp (decide:=true) only [evalT_set,reduceIte,h6]
  ·simp (decide:=true) only [evalT_set,reduceIte]
  ·simp (decide:=true) only [evalT_set,reduceIte]
theorem all6 {gr sz ino jr:Nat} (F:Fine gr sz ino jr) (a:Nat) (ha:a<gr) (p:Nat) (h0:Go.Ev.H) (hp:h0.get p=some (.row 4 [geoL gr sz ino jr] false)) (B:List (List C)) (hB:B.length≤2100):∀ (k d:Nat) (ts:Tmps) (h:Go.Ev.H),2+ino / 4+d+k=sz→AllSt p h0 (B++daL a ino d) ts h→evalT ts 6=.w (.c (.int .i64 a))→evalT ts 8=.w (.c (.int .i64 ((2+ino / 4+d:Nat):Int))) →
  Goes K Tryz.prog 73 none (q46 [1,1,1,1,1,0,1,2,2,1,0,2,1,1,1,2]) [] ts h fun x ds' ts' h'=>x=.exit 6∧ds'=[]∧AllSt p h0 (B++daL a ino (sz - (2+ino / 4))) ts' h'∧evalT ts' 6=.w (.c (.int .i64 a))∧evalT ts' 5=evalT ts 5:=by
 obtain⟨g1,g2,g3,g4,g5,g6,g7,g8,g9,g10,g11⟩:=F
 intro k
 induction k with
 | zero =>
  intro d ts h hd st h6 h8
  have ed:d=sz - (2+ino / 4):=by omega
  subst ed
  have hg:h.get p=some (.row 4 [[.int .i64 gr,.int .i64 sz,.int .i64 ino,.int .i64 jr]] false):=(st.keep p (Nat.le_refl _)).trans hp
  have h1:=st.p1
  have c1:decide (((2+ino / 4+(sz - (2+ino / 4)):Nat):Int)<(sz:Int))=false:=decide_eq_false (by omega)
  show Goes K Tryz.prog 73 none (q46 [1,1,1,1,1,0,1,2,2,1,0,2,1,1,1,2]) _ _ _ _
  rw[q46_1111101221021112]
  refine Goes.loop ?_
  show Goes K Tryz.prog 73 none (q46 [1,1,1,1,1,0,1,2,2,1,0,2,1,1,1,2,2]) _ _ _ _
  rw[q46_11111012210211122]
  refine Goes.seq ?_
  show Goes K Tryz.prog 73 none (q46 [1,1,1,1,1,0,1,2,2,1,0,2,1,1,1,2,2,0]) _ _ _ _
  rw[q46_111110122102111220]
  refine Goes.seq ?_
  show Goes K Tryz.prog 73 none (q46 [1,1,1,1,1,0,1,2,2,1,0,2,1,1,1,2,2,0,0]) _ _ _ _
  rw[q46_1111101221021112200]
  refine Goes.ops2 fits Hh E0_sound (by
   simp only[q46,piece,part0,part1,part2,part2l,part3,part4,bodyOf,Tryz.f46,opsA]
   simp (decide:=true) only [go_sem,putTH_some,H.get_put,H.get_new,loadIn,storeIn,reduceIte,Nat.reduceAdd,Nat.reduceMul,h8,h1,hg,c1,fGeo1,geo1,tyInt,sInt,aInt,cW,Nat.zero_add]
   rfl) ?_
  show Goes K Tryz.prog 73 none (q46 [1,1,1,1,1,0,1,2,2,1,0,2,1,1,1,2,2,0,1]) _ _ _ _
  rw[q46_1111101221021112201]
  refine Goes.condF (by simp (decide:=true) only [evalC,evalO_tmp,asC,evalT_set,reduceIte,dec_true,dec_false,h8,h1,hg,c1,fGeo1,geo1,tyInt,sInt,aInt,cW,Nat.zero_add]) ?_
  show Goes K Tryz.prog 73 none (q46 [1,1,1,1,1,0,1,2,2,1,0,2,1,1,1,2,2,0,1,4]) _ _ _ _
  rw[q46_11111012210211122014]
  refine Goes.exit ?_
  refine⟨rfl,rfl,st.same ?_ ?_,?_,?_⟩
  ·simp (decide:=true) only [evalT_set,reduceIte]
  ·simp (decide:=true) only [evalT_set,reduceIte]
  ·simp (decide:=true) only [evalT_set,reduceIte,h6]
  ·simp (decide:=true) only [evalT_set,reduceIte]
 | succ k ih =>
  intro d ts h hd st h6 h8
  have hg:h.get p=some (.row 4 [[.int .i64 gr,.int .i64 sz,.int .i64 ino,.int .i64 jr]] false):=(st.keep p (Nat.le_refl _)).trans hp
  have h1:=st.p1
  obtain⟨n,h3,hn,hpn,hlt⟩:=st.sl
  have c1:decide (((2+ino / 4+d:Nat):Int)<(sz:Int))=true:=decide_eq_true (by omega)
  have w1:wrapC .i64 (((2+ino / 4+d:Nat):Int)+1)=.int .i64 ((2+ino / 4+(d+1):Nat):Int):=by rw[wrap64 (by omega) (by omega)]; congr 1
  have ap:=grow1 (thing 7 a ((2+ino / 4+d:Nat):Int) 0) hn hlt (by rw[List.length_append,daL_len]; omega)
  simp only[thing] at ap
  show Goes K Tryz.prog 73 none (q46 [1,1,1,1,1,0,1,2,2,1,0,2,1,1,1,2]) _ _ _ _
  rw[q46_1111101221021112]
  refine Goes.loop ?_
  show Goes K Tryz.prog 73 none (q46 [1,1,1,1,1,0,1,2,2,1,0,2,1,1,1,2,2]) _ _ _ _
  rw[q46_11111012210211122]
  refine Goes.seq ?_
  show Goes K Tryz.prog 73 none (q46 [1,1,1,1,1,0,1,2,2,1,0,2,1,1,1,2,2,0]) _ _ _ _
  rw[q46_111110122102111220]
  refine Goes.seq ?_
  show Goes K Tryz.prog 73 none (q46 [1,1,1,1,1,0,1,2,2,1,0,2,1,1,1,2,2,0,0]) _ _ _ _
  rw[q46_1111101221021112200]
  refine Goes.ops2 fits Hh E0_sound (by
   simp only[q46,piece,part0,part1,part2,part2l,part3,part4,bodyOf,Tryz.f46,opsA]
   simp (decide:=true) only [go_sem,putTH_some,H.get_put,H.get_new,loadIn,storeIn,reduceIte,Nat.reduceAdd,Nat.reduceMul,h8,h6,h1,h3,hg,c1,w1,ap,fGeo1,geo1,tyInt,sInt,aInt,cW,Nat.zero_add,bld5,bs1,elThings,sfThings,opBuiltin]
   rfl) ?_
  show Goes K Tryz.prog 73 none (q46 [1,1,1,1,1,0,1,2,2,1,0,2,1,1,1,2,2,0,1]) _ _ _ _
  rw[q46_1111101221021112201]
  refine Goes.condT (by simp (decide:=true) only [evalC,evalO_tmp,asC,evalT_set,reduceIte,dec_true,dec_false,h8,h6,h1,h3,hg,c1,w1,ap,fGeo1,geo1,tyInt,sInt,aInt,cW,Nat.zero_add,bld5,bs1,elThings,sfThings,opBuiltin]) ?_
  show Goes K Tryz.prog 73 none (q46 [1,1,1,1,1,0,1,2,2,1,0,2,1,1,1,2,2,0,1,3]) _ _ _ _
  rw[q46_11111012210211122013]
  refine Goes.skip ?_
  show Goes K Tryz.prog 73 none (q46 [1,1,1,1,1,0,1,2,2,1,0,2,1,1,1,2,2,1]) _ _ _ _
  rw[q46_111110122102111221]
  refine Goes.seq ?_
  show Goes K Tryz.prog 73 none (q46 [1,1,1,1,1,0,1,2,2,1,0,2,1,1,1,2,2,1,0]) _ _ _ _
  rw[q46_1111101221021112210]
  refine Goes.block ?_
  show Goes K Tryz.prog 73 none (q46 [1,1,1,1,1,0,1,2,2,1,0,2,1,1,1,2,2,1,0,2]) _ _ _ _
  rw[q46_11111012210211122102]
  refine Goes.ops2 fits Hh E0_sound (by
   simp only[q46,piece,part0,part1,part2,part2l,part3,part4,bodyOf,Tryz.f46,opsA]
   simp (decide:=true) only [go_sem,putTH_some,H.get_put,H.get_new,loadIn,storeIn,reduceIte,Nat.reduceAdd,Nat.reduceMul,h8,h6,h1,h3,hg,c1,w1,ap,fGeo1,geo1,tyInt,sInt,aInt,cW,Nat.zero_add,bld5,bs1,elThings,sfThings,opBuiltin]
   rfl) ?_
  show Goes K Tryz.prog 73 none (q46 [1,1,1,1,1,0,1,2,2,1,0,2,1,1,1,2,2,1,1]) _ _ _ _
  rw[q46_1111101221021112211]
  refine Goes.ops2 fits Hh E0_sound (by
   simp only[q46,piece,part0,part1,part2,part2l,part3,part4,bodyOf,Tryz.f46,opsA]
   simp (decide:=true) only [go_sem,putTH_some,H.get_put,H.get_new,loadIn,storeIn,reduceIte,Nat.reduceAdd,Nat.reduceMul,h8,h6,h1,h3,hg,c1,w1,ap,fGeo1,geo1,tyInt,sInt,aInt,cW,Nat.zero_add,bld5,bs1,elThings,sfThings,opBuiltin]
   rfl) ?_
  show Goes K Tryz.prog 73 none (.loop (q46 [1,1,1,1,1,0,1,2,2,1,0,2,1,1,1,2,2])) _ _ _ _
  rw[←q46_1111101221021112]
  refine (ih (d+1) _ _ (by omega) ?_ ?_ ?_).mono ?_
  ·rw[daL_succ,←List.append_assoc]
   refine st.grow hpn hlt ?_ ?_
   ·simp (decide:=true) only [evalT_set,reduceIte,h1]
   ·simp (decide:=true) only [evalT_set,reduceIte]
    rfl
  ·simp (decide:=true) only [evalT_set,reduceIte,h6]
  ·simp (decide:=true) only [evalT_set,reduceIte]
  ·rintro x ds' ts' h' ⟨e1,e2,e3,e4,e5⟩
   refine⟨e1,e2,e3,e4,?_⟩
   rw[e5]
   simp (decide:=true) only [evalT_set,reduceIte]
theorem all2 {gr sz ino jr:Nat} (F:Fine gr sz ino jr) (p:Nat) (h0:Go.Ev.H) (hp:h0.get p=some (.row 4 [geoL gr sz ino jr] false)):∀ (k a:Nat) (ts:Tmps) (h:Go.Ev.H),a+k=gr→AllSt p h0 (jrL jr++groupsL sz ino a) ts h→evalT ts 6=.w (.c (.int .i64 a))→evalT ts 5=.w (.c (.int .i64 ((1+a * ino:Nat):Int))) →
  Goes K Tryz.prog 73 none (q46 [1,1,1,1,1,0,1,2]) [] ts h fun x ds' ts' h'=>x=.exit 2∧ds'=[]∧AllSt p h0 (allL gr sz ino jr) ts' h':=by
 have F':=F
 obtain⟨g1,g2,g3,g4,g5,g6,g7,g8,g9,g10,g11⟩:=F
 intro k
 induction k with
 | zero =>
  intro a ts h ha st h6 h5
  have ea:a=gr:=by omega
  subst ea
  have hg:h.get p=some (.row 4 [[.int .i64 a,.int .i64 sz,.int .i64 ino,.int .i64 jr]] false):=(st.keep p (Nat.le_refl _)).trans hp
  have h1:=st.p1
  have c1:decide ((a:Int)<(a:Int))=false:=decide_eq_false (by omega)
  show Goes K Tryz.prog 73 none (q46 [1,1,1,1,1,0,1,2]) _ _ _ _
  rw[q46_11111012]
  refine Goes.loop ?_
  show Goes K Tryz.prog 73 none (q46 [1,1,1,1,1,0,1,2,2]) _ _ _ _
  rw[q46_111110122]
  refine Goes.seq ?_
  show Goes K Tryz.prog 73 none (q46 [1,1,1,1,1,0,1,2,2,0]) _ _ _ _
  rw[q46_1111101220]
  refine Goes.seq ?_
  show Goes K Tryz.prog 73 none (q46 [1,1,1,1,1,0,1,2,2,0,0]) _ _ _ _
  rw[q46_11111012200]
  refine Goes.ops2 fits Hh E0_sound (by
   simp only[q46,piece,part0,part1,part2,part2l,part3,part4,bodyOf,Tryz.f46,opsA]
   simp (decide:=true) only [go_sem,putTH_some,H.get_put,H.get_new,loadIn,storeIn,reduceIte,Nat.reduceAdd,Nat.reduceMul,h6,h1,hg,c1,fGeo0,geo0,tyInt,sInt,aInt,cW,Nat.zero_add]
   rfl) ?_
  show Goes K Tryz.prog 73 none (q46 [1,1,1,1,1,0,1,2,2,0,1]) _ _ _ _
  rw[q46_11111012201]
  refine Goes.condF (by simp (decide:=true) only [evalC,evalO_tmp,asC,evalT_set,reduceIte,dec_true,dec_false,h6,h1,hg,c1,fGeo0,geo0,tyInt,sInt,aInt,cW,Nat.zero_add]) ?_
  show Goes K Tryz.prog 73 none (q46 [1,1,1,1,1,0,1,2,2,0,1,4]) _ _ _ _
  rw[q46_111110122014]
  refine Goes.exit ?_
  refine⟨rfl,rfl,st.same ?_ ?_⟩
  ·simp (decide:=true) only [evalT_set,reduceIte]
  ·simp (decide:=true) only [evalT_set,reduceIte]
 | succ k ih =>
  intro a ts h ha st h6 h5
  have hm:a * sz≤gr * sz:=Nat.mul_le_mul (by omega) (Nat.le_refl _)
  have hm2:(a+1) * sz≤gr * sz:=Nat.mul_le_mul (by omega) (Nat.le_refl _)
  rw[Nat.succ_mul] at hm2
  have hlen:(jrL jr++groupsL sz ino a).length=2+jr+a * sz:=by rw[List.length_append,jrL_len,groupsL_len g10]
  have hg:h.get p=some (.row 4 [[.int .i64 gr,.int .i64 sz,.int .i64 ino,.int .i64 jr]] false):=(st.keep p (Nat.le_refl _)).trans hp
  have h1:=st.p1
  obtain⟨n,h3,hn,hpn,hlt⟩:=st.sl
  have c1:decide ((a:Int)<(gr:Int))=true:=decide_eq_true (by omega)
  have ap:=grow2 (thing 4 a 0 0) (thing 5 a 1 0) hn hlt (by rw[hlen]; omega)
  simp only[thing] at ap
  show Goes K Tryz.prog 73 none (q46 [1,1,1,1,1,0,1,2]) _ _ _ _
  rw[q46_11111012]
  refine Goes.loop ?_
  show Goes K Tryz.prog 73 none (q46 [1,1,1,1,1,0,1,2,2]) _ _ _ _
  rw[q46_111110122]
  refine Goes.seq ?_
  show Goes K Tryz.prog 73 none (q46 [1,1,1,1,1,0,1,2,2,0]) _ _ _ _
  rw[q46_1111101220]
  refine Goes.seq ?_
  show Goes K Tryz.prog 73 none (q46 [1,1,1,1,1,0,1,2,2,0,0]) _ _ _ _
  rw[q46_11111012200]
  refine Goes.ops2 fits Hh E0_sound (by
   simp only[q46,piece,part0,part1,part2,part2l,part3,part4,bodyOf,Tryz.f46,opsA]
   simp (decide:=true) only [go_sem,putTH_some,H.get_put,H.get_new,loadIn,storeIn,reduceIte,Nat.reduceAdd,Nat.reduceMul,h6,h1,h3,hg,c1,ap,fGeo0,geo0,tyInt,sInt,aInt,cW,Nat.zero_add,bld4,bld5,bs2,elThings,sfThings,opBuiltin]
   rfl) ?_
  show Goes K Tryz.prog 73 none (q46 [1,1,1,1,1,0,1,2,2,0,1]) _ _ _ _
  rw[q46_11111012201]
  refine Goes.condT (by simp (decide:=true) only [evalC,evalO_tmp,asC,evalT_set,reduceIte,dec_true,dec_false,h6,h1,h3,hg,c1,ap,fGeo0,geo0,tyInt,sInt,aInt,cW,Nat.zero_add,bld4,bld5,bs2,elThings,sfThings,opBuiltin]) ?_
  show Goes K Tryz.prog 73 none (q46 [1,1,1,1,1,0,1,2,2,0,1,3]) _ _ _ _
  rw[q46_111110122013]
  refine Goes.skip ?_
  show Goes K Tryz.prog 73 none (q46 [1,1,1,1,1,0,1,2,2,1]) _ _ _ _
  rw[q46_1111101221]
  refine Goes.seq ?_
  show Goes K Tryz.prog 73 none (q46 [1,1,1,1,1,0,1,2,2,1,0]) _ _ _ _
  rw[q46_11111012210]
  refine Goes.block ?_
  show Goes K Tryz.prog 73 none (q46 [1,1,1,1,1,0,1,2,2,1,0,2]) _ _ _ _
  rw[q46_111110122102]
  refine Goes.seq ?_
  show Goes K Tryz.prog 73 none (q46 [1,1,1,1,1,0,1,2,2,1,0,2,0]) _ _ _ _
  rw[q46_1111101221020]
  refine Goes.ops2 fits Hh E0_sound (by
   simp only[q46,piece,part0,part1,part2,part2l,part3,part4,bodyOf,Tryz.f46,opsA]
   simp (decide:=true) only [go_sem,putTH_some,H.get_put,H.get_new,loadIn,storeIn,reduceIte,Nat.reduceAdd,Nat.reduceMul,h6,h1,h3,hg,c1,ap,fGeo0,geo0,tyInt,sInt,aInt,cW,Nat.zero_add,bld4,bld5,bs2,elThings,sfThings,opBuiltin]
   rfl) ?_
  show Goes K Tryz.prog 73 none (q46 [1,1,1,1,1,0,1,2,2,1,0,2,1]) _ _ _ _
  rw[q46_1111101221021]
  refine Goes.seq ?_
  show Goes K Tryz.prog 73 none (q46 [1,1,1,1,1,0,1,2,2,1,0,2,1,0]) _ _ _ _
  rw[q46_11111012210210]
  refine Goes.seq ?_
  show Goes K Tryz.prog 73 none (q46 [1,1,1,1,1,0,1,2,2,1,0,2,1,0,0]) _ _ _ _
  rw[q46_111110122102100]
  refine Goes.ops2 fits Hh E0_sound (by
   simp only[q46,piece,part0,part1,part2,part2l,part3,part4,bodyOf,Tryz.f46,opsA]
   simp (decide:=true) only [go_sem,putTH_some,H.get_put,H.get_new,loadIn,storeIn,reduceIte,Nat.reduceAdd,Nat.reduceMul,h6,h1,h3,hg,c1,ap,fGeo0,geo0,tyInt,sInt,aInt,cW,Nat.zero_add,bld4,bld5,bs2,elThings,sfThings,opBuiltin]
   rfl) ?_
  show Goes K Tryz.prog 73 none (q46 [1,1,1,1,1,0,1,2,2,1,0,2,1,0,1]) _ _ _ _
  rw[q46_111110122102101]
  refine Goes.block ((all4 Hh F' a (by omega) p h0 hp ((jrL jr++groupsL sz ino a)++[thing 4 a 0 0,thing 5 a 1 0]) (by rw[List.length_append,hlen]; show _+2≤_; omega) (ino / 4) 0 _ _ (by omega) ?_ ?_ ?_ ?_).mono ?_)
  ·rw[show inL a ino 0=[] from rfl,List.append_nil]
   refine st.grow hpn hlt ?_ ?_
   ·simp (decide:=true) only [evalT_set,reduceIte,h1]
   ·simp (decide:=true) only [evalT_set,reduceIte]
    rfl
  ·simp (decide:=true) only [evalT_set,reduceIte,h6]
  ·simp (decide:=true) only [evalT_set,reduceIte]
   rfl
  ·simp (decide:=true) only [evalT_set,reduceIte,h5]
   rfl
  rintro x ds' ts1 h2 ⟨rfl,rfl,st1,f6,f5⟩
  have hg1:h2.get p=some (.row 4 [[.int .i64 gr,.int .i64 sz,.int .i64 ino,.int .i64 jr]] false):=(st1.keep p (Nat.le_refl _)).trans hp
  have f1:=st1.p1
  have q1:opQuo .i64 (ino:Int) 4=some (.int .i64 ((ino / 4:Nat):Int)):=by
   show some (wrapC .i64 ((ino:Int).tdiv 4))=_
   rw[show (ino:Int).tdiv 4=((ino / 4:Nat):Int) from rfl,wrap64 (by omega) (by omega)]
  have w1:wrapC .i64 (2+((ino / 4:Nat):Int))=.int .i64 ((2+ino / 4:Nat):Int):=by rw[wrap64 (by omega) (by omega)]; congr 1
  show Goes K Tryz.prog 73 none (q46 [1,1,1,1,1,0,1,2,2,1,0,2,1,1]) _ _ _ _
  rw[q46_11111012210211]
  refine Goes.seq ?_
  show Goes K Tryz.prog 73 none (q46 [1,1,1,1,1,0,1,2,2,1,0,2,1,1,0]) _ _ _ _
  rw[q46_111110122102110]
  refine Goes.ops2 fits Hh E0_sound (by
   simp only[q46,piece,part0,part1,part2,part2l,part3,part4,bodyOf,Tryz.f46,opsA]
   simp (decide:=true) only [go_sem,putTH_some,H.get_put,H.get_new,loadIn,storeIn,reduceIte,Nat.reduceAdd,Nat.reduceMul,f1,hg1,q1,w1,fGeo2,geo2,tyInt,sInt,aInt,cW,Nat.zero_add]
   rfl) ?_
  show Goes K Tryz.prog 73 none (q46 [1,1,1,1,1,0,1,2,2,1,0,2,1,1,1]) _ _ _ _
  rw[q46_111110122102111]
  refine Goes.block ((all6 Hh F' a (by omega) p h0 hp (((jrL jr++groupsL sz ino a)++[thing 4 a 0 0,thing 5 a 1 0])++inL a ino (ino / 4)) (by rw[List.length_append,List.length_append,hlen,inL_len]; show _+2+_≤_; omega) (sz - (2+ino / 4)) 0 _ _ (by omega) ?_ ?_ ?_).mono ?_)
  ·rw[show daL a ino 0=[] from rfl,List.append_nil]
   refine st1.same ?_ ?_
   ·simp (decide:=true) only [evalT_set,reduceIte]
   ·simp (decide:=true) only [evalT_set,reduceIte]
  ·simp (decide:=true) only [evalT_set,reduceIte,f6]
  ·simp (decide:=true) only [evalT_set,reduceIte]
   rfl
  rintro x ds' ts2 h3' ⟨rfl,rfl,st2,k6,k5⟩
  have k5':evalT ts2 5=.w (.c (.int .i64 ((1+(a+1) * ino:Nat):Int))):=by
   rw[k5]
   simp (decide:=true) only [evalT_set,reduceIte,f5]
  have w2:wrapC .i64 ((a:Int)+1)=.int .i64 ((a+1:Nat):Int):=by rw[wrap64 (by omega) (by omega)]; congr 1
  show Goes K Tryz.prog 73 none (q46 [1,1,1,1,1,0,1,2,2,1,1]) _ _ _ _
  rw[q46_11111012211]
  refine Goes.ops2 fits Hh E0_sound (by
   simp only[q46,piece,part0,part1,part2,part2l,part3,part4,bodyOf,Tryz.f46,opsA]
   simp (decide:=true) only [go_sem,putTH_some,H.get_put,H.get_new,loadIn,storeIn,reduceIte,Nat.reduceAdd,Nat.reduceMul,k6,w2]
   rfl) ?_
  show Goes K Tryz.prog 73 none (.loop (q46 [1,1,1,1,1,0,1,2,2])) _ _ _ _
  rw[←q46_11111012]
  refine ih (a+1) _ _ (by omega) ?_ ?_ ?_
  ·have e:jrL jr++groupsL sz ino (a+1)=(jrL jr++groupsL sz ino a)++[thing 4 a 0 0,thing 5 a 1 0]++inL a ino (ino / 4)++daL a ino (sz - (2+ino / 4)):=by
    rw[groupsL_succ,grL]
    simp only[List.append_assoc]
   rw[e]
   refine st2.same ?_ ?_
   ·simp (decide:=true) only [evalT_set,reduceIte]
   ·simp (decide:=true) only [evalT_set,reduceIte]
  ·simp (decide:=true) only [evalT_set,reduceIte]
  ·simp (decide:=true) only [evalT_set,reduceIte,k5']
omit Hh in
theorem allL_flat (gr sz ino jr:Nat):(allL gr sz ino jr).all (fun l=>l.all C.flat)=true:=by
 rw[List.all_eq_true]
 intro l hl
 simp only[allL,jrL,groupsL,grL,inL,daL,List.mem_append,List.mem_flatMap,List.mem_map,List.mem_cons,List.not_mem_nil,or_false] at hl
 rcases hl with ((h|h)|⟨_,_,h⟩)|⟨_,_,((h|h)|⟨_,_,h⟩)|⟨_,_,h⟩⟩<;>subst h<;>rfl
theorem allOk {gr sz ino jr:Nat} (F:Fine gr sz ino jr) (h:Go.Ev.H):CallOk K Tryz.prog 46 [.g (geoL gr sz ino jr)] h (.w (.c (.slice h.next 0 (allL gr sz ino jr).length 4))) (h.new (.row 4 (allL gr sz ino jr) false)):=by
 refine CallOk.tidy ⟨_,Tryz.func46,by kernel_rfl,of_decide_eq_true (by kernel_rfl)⟩ fun tidy=>?_
 suffices hs:Goes K Tryz.prog 73 none (q46 []) [] (argTmps 0 [.g (geoL gr sz ino jr)] .nil) h fun x ds ts h1=>∃ n,h.next≤n∧n<h1.next∧h1.get n=some (.row 4 (allL gr sz ino jr) false)∧(∀ n,n<h.next→h1.get n=h.get n)∧leave K Tryz.f46 (some (.at x ds ts h1))=some (.val (.w (.c (.slice n 0 (allL gr sz ino jr).length 4))) h1) by
  obtain⟨x,ds,ts,h1,g,n,e1,e2,e3,e4,e5⟩:=hs
  exact (CallOk.body fits Hh (by kernel_rfl) (by kernel_rfl) (by kernel_rfl) (by kernel_rfl) rfl g e5).row1 e1 e3 (allL_flat _ _ _ _) e2 e4
 have e0:evalT (argTmps 0 [.g (geoL gr sz ino jr)] .nil) 0=.w (.g (geoL gr sz ino jr)):=by rw[evalT_args]; rfl
 have lg:(geoL gr sz ino jr).length=4:=rfl
 have rg:readRow 4 [geoL gr sz ino jr] 0 4=some (geoL gr sz ino jr):=rfl
 have nslice:absV (.slice none 0 0)=some (.w (.c .snil)):=rfl
 have e1:Tryz.f46.results.toList=[.tmp 2]:=rfl
 have mk:=mayOk Hh F (h.new (.row 4 [geoL gr sz ino jr] false))
 show Goes K Tryz.prog 73 none (q46 []) _ _ _ _
 rw[q46_]
 refine Goes.seq ?_
 show Goes K Tryz.prog 73 none (q46 [0]) _ _ _ _
 rw[q46_0]
 refine Goes.ops2 fits Hh E0_sound (by
  simp only[q46,piece,part0,part1,part2,part2l,part3,part4,bodyOf,Tryz.f46,opsA]
  simp (decide:=true) only [go_sem,putTH_some,H.get_put,H.get_new,loadIn,storeIn,reduceIte,Nat.reduceAdd,Nat.reduceMul,e0,lg,rg,nslice,opBox,tyGeo,sGeo,aGeo,gW,bld1,bs2,elThings]
  rfl) ?_
 show Goes K Tryz.prog 73 none (q46 [1]) _ _ _ _
 rw[q46_1]
 refine Goes.seq ?_
 show Goes K Tryz.prog 73 none (q46 [1,0]) _ _ _ _
 rw[q46_10]
 refine Goes.seq ?_
 show Goes K Tryz.prog 73 none (q46 [1,0,0]) _ _ _ _
 rw[q46_100]
 refine Goes.ops2 fits Hh (E1_sound E0_sound mk) (by
  simp only[q46,piece,part0,part1,part2,part2l,part3,part4,bodyOf,Tryz.f46,opsA]
  simp (decide:=true) only [go_sem,putTH_some,H.get_put,H.get_new,loadIn,storeIn,reduceIte,Nat.reduceAdd,Nat.reduceMul,E1_call,e0,lg,rg,nslice,opBox,tyGeo,sGeo,aGeo,gW,bld1,bs2,elThings]
  rfl) ?_
 show Goes K Tryz.prog 73 none (q46 [1,0,1]) _ _ _ _
 rw[q46_101]
 refine Goes.condF (by simp (decide:=true) only [evalC,evalO_tmp,asC,evalT_set,reduceIte,dec_true,dec_false,e0,lg,rg,nslice,opBox,tyGeo,sGeo,aGeo,gW,bld1,bs2,elThings]) ?_
 show Goes K Tryz.prog 73 none (q46 [1,0,1,4]) _ _ _ _
 rw[q46_1014]
 refine Goes.skip ?_
 show Goes K Tryz.prog 73 none (q46 [1,1]) _ _ _ _
 rw[q46_11]
 refine Goes.seq ?_
 show Goes K Tryz.prog 73 none (q46 [1,1,0]) _ _ _ _
 rw[q46_110]
 refine Goes.ops2 fits Hh E0_sound (by
  simp only[q46,piece,part0,part1,part2,part2l,part3,part4,bodyOf,Tryz.f46,opsA]
  simp (decide:=true) only [go_sem,putTH_some,H.get_put,H.get_new,loadIn,storeIn,reduceIte,Nat.reduceAdd,Nat.reduceMul,e0,lg,rg,nslice,opBox,tyGeo,sGeo,aGeo,gW,bld1,bs2,elThings]
  rfl) ?_
 show Goes K Tryz.prog 73 none (q46 [1,1,1]) _ _ _ _
 rw[q46_111]
 refine Goes.seq ?_
 show Goes K Tryz.prog 73 none (q46 [1,1,1,0]) _ _ _ _
 rw[q46_1110]
 refine Goes.seq ?_
 show Goes K Tryz.prog 73 none (q46 [1,1,1,0,0]) _ _ _ _
 rw[q46_11100]
 refine Goes.ops2 fits Hh E0_sound (by
  simp only[q46,piece,part0,part1,part2,part2l,part3,part4,bodyOf,Tryz.f46,opsA]
  simp (decide:=true) only [go_sem,putTH_some,H.get_put,H.get_new,loadIn,storeIn,reduceIte,Nat.reduceAdd,Nat.reduceMul,e0,lg,rg,nslice,opBox,tyGeo,sGeo,aGeo,gW,bld1,bs2,elThings]
  rfl) ?_
 show Goes K Tryz.prog 73 none (q46 [1,1,1,0,1]) _ _ _ _
 rw[q46_11101]
 refine Goes.block ?_
 show Goes K Tryz.prog 73 none (q46 [1,1,1,0,1,2]) _ _ _ _
 have hp:(h.new (.row 4 [geoL gr sz ino jr] false)).get h.next=some (.row 4 [geoL gr sz ino jr] false):=by rw[H.get_new,if_pos rfl]
 refine (all1 Hh F h.next (h.new (.row 4 [geoL gr sz ino jr] false)) hp jr 0 _ _ (by omega) ⟨?_,⟨h.next+1,?_,?_,?_,?_⟩,?_,?_⟩ ?_).mono ?_
 ·simp (decide:=true) only [evalT_set,reduceIte]
 ·simp (decide:=true) only [evalT_set,reduceIte,H.next_new]
  rfl
 ·rw[H.get_new,H.next_new,if_pos rfl]
  rfl
 ·omega
 ·rw[H.next_new,H.next_new]; omega
 ·simp only[H.next_new]; omega
 ·intro m hm
  rw[H.get_new,H.next_new,if_neg (by omega)]
 ·simp (decide:=true) only [evalT_set,reduceIte]
  rfl
 rintro x ds' ts1 h1 ⟨rfl,rfl,st1⟩
 show Goes K Tryz.prog 73 none (q46 [1,1,1,1]) _ _ _ _
 rw[q46_1111]
 refine Goes.seq ?_
 show Goes K Tryz.prog 73 none (q46 [1,1,1,1,0]) _ _ _ _
 rw[q46_11110]
 refine Goes.ops2 fits Hh E0_sound (by
  simp only[q46,piece,part0,part1,part2,part2l,part3,part4,bodyOf,Tryz.f46,opsA]
  simp (decide:=true) only [go_sem,putTH_some,H.get_put,H.get_new,loadIn,storeIn,reduceIte,Nat.reduceAdd,Nat.reduceMul]
  rfl) ?_
 show Goes K Tryz.prog 73 none (q46 [1,1,1,1,1]) _ _ _ _
 rw[q46_11111]
 refine Goes.seq ?_
 show Goes K Tryz.prog 73 none (q46 [1,1,1,1,1,0]) _ _ _ _
 rw[q46_111110]
 refine Goes.seq ?_
 show Goes K Tryz.prog 73 none (q46 [1,1,1,1,1,0,0]) _ _ _ _
 rw[q46_1111100]
 refine Goes.ops2 fits Hh E0_sound (by
  simp only[q46,piece,part0,part1,part2,part2l,part3,part4,bodyOf,Tryz.f46,opsA]
  simp (decide:=true) only [go_sem,putTH_some,H.get_put,H.get_new,loadIn,storeIn,reduceIte,Nat.reduceAdd,Nat.reduceMul]
  rfl) ?_
 show Goes K Tryz.prog 73 none (q46 [1,1,1,1,1,0,1]) _ _ _ _
 rw[q46_1111101]
 refine Goes.block ?_
 show Goes K Tryz.prog 73 none (q46 [1,1,1,1,1,0,1,2]) _ _ _ _
 refine (all2 Hh F h.next (h.new (.row 4 [geoL gr sz ino jr] false)) hp gr 0 _ _ (by omega) ?_ ?_ ?_).mono ?_
 ·rw[show groupsL sz ino 0=[] from rfl,List.append_nil]
  refine st1.same ?_ ?_
  ·simp (decide:=true) only [evalT_set,reduceIte]
  ·simp (decide:=true) only [evalT_set,reduceIte]
 ·simp (decide:=true) only [evalT_set,reduceIte]
  rfl
 ·simp (decide:=true) only [evalT_set,reduceIte]
  rw[Nat.zero_mul]
  rfl
 rintro x ds' ts2 h2 ⟨rfl,rfl,st2⟩
 obtain⟨n,f3,hn,hpn,hlt⟩:=st2.sl
 show Goes K Tryz.prog 73 none (q46 [1,1,1,1,1,1]) _ _ _ _
 rw[q46_111111]
 refine Goes.seq ?_
 show Goes K Tryz.prog 73 none (q46 [1,1,1,1,1,1,0]) _ _ _ _
 rw[q46_1111110]
 refine Goes.ops2 fits Hh E0_sound (by
  simp only[q46,piece,part0,part1,part2,part2l,part3,part4,bodyOf,Tryz.f46,opsA]
  simp (decide:=true) only [go_sem,putTH_some,H.get_put,H.get_new,loadIn,storeIn,reduceIte,Nat.reduceAdd,Nat.reduceMul,f3]
  rfl) ?_
 show Goes K Tryz.prog 73 none (q46 [1,1,1,1,1,1,1]) _ _ _ _
 rw[q46_1111111]
 refine Goes.ret ?_
 refine⟨n,by omega,hlt,hn,fun m hm=>?_,?_⟩
 ·rw[st2.keep m (by omega),H.get_new,if_neg (by omega)]
 ·simp (decide:=true) only [leave_ret,takeMarks,finish,e1,resultsOf,evalW,evalO_tmp,asW,evalT_set,reduceIte,resultOf]
end
end Go.Proofs.YtlbbmhgdcdcdnaaGreatDoor
