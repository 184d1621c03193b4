/- quernref05: May, All of a geometry that may be, on the evaluator's level. -/
import Derived.Test.YtngejdlimkgjfaaGreatDoorWhat3
import Derived.Test.YtngejdlimkgjfaaGreatDoorEvC
import Derived.Test.YtngejdlimkgjfaaGreatDoorNew2
set_option linter.unusedSimpArgs false
set_option linter.unusedVariables false
set_option linter.unusedSectionVars false
set_option maxRecDepth 100000
namespace Go.Proofs.YtngejdlimkgjfaaGreatDoor
open Go.Ev
theorem Zm5:K.types.get 23=some ti23:=by kernel_rfl
theorem Zwx:ti23.size=4:=rfl
theorem Zww:ti23.agg=true:=rfl
theorem Zap:Zu K 23 0=some (0,ti3):=by kernel_rfl
theorem Zad:Zu K 23 1=some (1,ti3):=by kernel_rfl
theorem Xi:Zu K 23 2=some (2,ti3):=by kernel_rfl
theorem Zae:Zu K 23 3=some (3,ti3):=by kernel_rfl
theorem geo0 (a b c d:C):read1 4 [[a,b,c,d]] 0=some a:=rfl
theorem geo1 (a b c d:C):read1 4 [[a,b,c,d]] 1=some b:=rfl
theorem geo2 (a b c d:C):read1 4 [[a,b,c,d]] 2=some c:=rfl
theorem geo3 (a b c d:C):read1 4 [[a,b,c,d]] 3=some d:=rfl
noncomputable def q14 (p:List Nat):Code:=piece p (Yc Tryz.f14)
theorem Z54:q14 []=.seq (q14 [0]) (q14 [1]):=by kernel_rfl
theorem q14_0:q14 [0]=.region 0 (Y3 (q14 [0])) false:=by kernel_rfl
theorem q14_1:q14 [1]=.seq (q14 [1,0]) (q14 [1,1]):=by kernel_rfl
theorem Z38:q14 [1,0]=.seq (q14 [1,0,0]) (q14 [1,0,1]):=by kernel_rfl
theorem Z0a:q14 [1,0,0]=.region 1 (Y3 (q14 [1,0,0])) false:=by kernel_rfl
theorem Z1p:q14 [1,0,1]=.cond (.tmp 46) (q14 [1,0,1,3]) (q14 [1,0,1,4]):=by kernel_rfl
theorem Zw8:q14 [1,0,1,4]=.skip:=by kernel_rfl
theorem Z37:q14 [1,1]=.seq (q14 [1,1,0]) (q14 [1,1,1]):=by kernel_rfl
theorem Z0b:q14 [1,1,0]=.region 3 (Y3 (q14 [1,1,0])) false:=by kernel_rfl
theorem Z05:q14 [1,1,1]=.ret:=by kernel_rfl
noncomputable def q51 (p:List Nat):Code:=piece p (Yc Tryz.f51)
theorem Z6a:q51 []=.seq (q51 [0]) (q51 [1]):=by kernel_rfl
theorem q51_0:q51 [0]=.region 0 (Y3 (q51 [0])) false:=by kernel_rfl
theorem q51_1:q51 [1]=.seq (q51 [1,0]) (q51 [1,1]):=by kernel_rfl
theorem Z23:q51 [1,0]=.seq (q51 [1,0,0]) (q51 [1,0,1]):=by kernel_rfl
theorem Z0w:q51 [1,0,0]=.region 1 (Y3 (q51 [1,0,0])) false:=by kernel_rfl
theorem Z07:q51 [1,0,1]=.cond (.tmp 11) (q51 [1,0,1,3]) (q51 [1,0,1,4]):=by kernel_rfl
theorem Zxu:q51 [1,0,1,4]=.skip:=by kernel_rfl
theorem Z3n:q51 [1,1]=.seq (q51 [1,1,0]) (q51 [1,1,1]):=by kernel_rfl
theorem Z1l:q51 [1,1,0]=.region 3 (Y3 (q51 [1,1,0])) false:=by kernel_rfl
theorem Z1m:q51 [1,1,1]=.seq (q51 [1,1,1,0]) (q51 [1,1,1,1]):=by kernel_rfl
theorem Zxx:q51 [1,1,1,0]=.seq (q51 [1,1,1,0,0]) (q51 [1,1,1,0,1]):=by kernel_rfl
theorem Zux:q51 [1,1,1,0,0]=.region 4 (Y3 (q51 [1,1,1,0,0])) false:=by kernel_rfl
theorem Zvz:q51 [1,1,1,0,1]=.block 0 (q51 [1,1,1,0,1,2]):=by kernel_rfl
theorem Za2:q51 [1,1,1,0,1,2]=.loop (q51 [1,1,1,0,1,2,2]):=by kernel_rfl
theorem Ze4:q51 [1,1,1,0,1,2,2]=.seq (q51 [1,1,1,0,1,2,2,0]) (q51 [1,1,1,0,1,2,2,1]):=by kernel_rfl
theorem Zbs:q51 [1,1,1,0,1,2,2,0]=.seq (q51 [1,1,1,0,1,2,2,0,0]) (q51 [1,1,1,0,1,2,2,0,1]):=by kernel_rfl
theorem Zaf:q51 [1,1,1,0,1,2,2,0,0]=.region 5 (Y3 (q51 [1,1,1,0,1,2,2,0,0])) false:=by kernel_rfl
theorem Zab:q51 [1,1,1,0,1,2,2,0,1]=.cond (.tmp 18) (q51 [1,1,1,0,1,2,2,0,1,3]) (q51 [1,1,1,0,1,2,2,0,1,4]):=by kernel_rfl
theorem Zhe:q51 [1,1,1,0,1,2,2,0,1,3]=.skip:=by kernel_rfl
theorem Zgy:q51 [1,1,1,0,1,2,2,0,1,4]=.exit 0:=by kernel_rfl
theorem Zlb:q51 [1,1,1,0,1,2,2,1]=.seq (q51 [1,1,1,0,1,2,2,1,0]) (q51 [1,1,1,0,1,2,2,1,1]):=by kernel_rfl
theorem Zi5:q51 [1,1,1,0,1,2,2,1,0]=.block 1 (q51 [1,1,1,0,1,2,2,1,0,2]):=by kernel_rfl
theorem Zf5:q51 [1,1,1,0,1,2,2,1,0,2]=.region 7 (Y3 (q51 [1,1,1,0,1,2,2,1,0,2])) false:=by kernel_rfl
theorem Zit:q51 [1,1,1,0,1,2,2,1,1]=.region 6 (Y3 (q51 [1,1,1,0,1,2,2,1,1])) false:=by kernel_rfl
theorem Zx3:q51 [1,1,1,1]=.seq (q51 [1,1,1,1,0]) (q51 [1,1,1,1,1]):=by kernel_rfl
theorem Zu2:q51 [1,1,1,1,0]=.region 8 (Y3 (q51 [1,1,1,1,0])) false:=by kernel_rfl
theorem Zvc:q51 [1,1,1,1,1]=.seq (q51 [1,1,1,1,1,0]) (q51 [1,1,1,1,1,1]):=by kernel_rfl
theorem Zq6:q51 [1,1,1,1,1,0]=.seq (q51 [1,1,1,1,1,0,0]) (q51 [1,1,1,1,1,0,1]):=by kernel_rfl
theorem Zom:q51 [1,1,1,1,1,0,0]=.region 9 (Y3 (q51 [1,1,1,1,1,0,0])) false:=by kernel_rfl
theorem Zot:q51 [1,1,1,1,1,0,1]=.block 2 (q51 [1,1,1,1,1,0,1,2]):=by kernel_rfl
theorem Xa:q51 [1,1,1,1,1,0,1,2]=.loop (q51 [1,1,1,1,1,0,1,2,2]):=by kernel_rfl
theorem Zal:q51 [1,1,1,1,1,0,1,2,2]=.seq (q51 [1,1,1,1,1,0,1,2,2,0]) (q51 [1,1,1,1,1,0,1,2,2,1]):=by kernel_rfl
theorem X8:q51 [1,1,1,1,1,0,1,2,2,0]=.seq (q51 [1,1,1,1,1,0,1,2,2,0,0]) (q51 [1,1,1,1,1,0,1,2,2,0,1]):=by kernel_rfl
theorem Xm:q51 [1,1,1,1,1,0,1,2,2,0,0]=.region 10 (Y3 (q51 [1,1,1,1,1,0,1,2,2,0,0])) false:=by kernel_rfl
theorem Xk:q51 [1,1,1,1,1,0,1,2,2,0,1]=.cond (.tmp 29) (q51 [1,1,1,1,1,0,1,2,2,0,1,3]) (q51 [1,1,1,1,1,0,1,2,2,0,1,4]):=by kernel_rfl
theorem Zd6:q51 [1,1,1,1,1,0,1,2,2,0,1,3]=.skip:=by kernel_rfl
theorem Zd9:q51 [1,1,1,1,1,0,1,2,2,0,1,4]=.exit 2:=by kernel_rfl
theorem Zh1:q51 [1,1,1,1,1,0,1,2,2,1]=.seq (q51 [1,1,1,1,1,0,1,2,2,1,0]) (q51 [1,1,1,1,1,0,1,2,2,1,1]):=by kernel_rfl
theorem Zff:q51 [1,1,1,1,1,0,1,2,2,1,0]=.block 3 (q51 [1,1,1,1,1,0,1,2,2,1,0,2]):=by kernel_rfl
theorem Zd3:q51 [1,1,1,1,1,0,1,2,2,1,0,2]=.seq (q51 [1,1,1,1,1,0,1,2,2,1,0,2,0]) (q51 [1,1,1,1,1,0,1,2,2,1,0,2,1]):=by kernel_rfl
theorem Zcw:q51 [1,1,1,1,1,0,1,2,2,1,0,2,0]=.region 12 (Y3 (q51 [1,1,1,1,1,0,1,2,2,1,0,2,0])) false:=by kernel_rfl
theorem Zb9:q51 [1,1,1,1,1,0,1,2,2,1,0,2,1]=.seq (q51 [1,1,1,1,1,0,1,2,2,1,0,2,1,0]) (q51 [1,1,1,1,1,0,1,2,2,1,0,2,1,1]):=by kernel_rfl
theorem Zay:q51 [1,1,1,1,1,0,1,2,2,1,0,2,1,0]=.seq (q51 [1,1,1,1,1,0,1,2,2,1,0,2,1,0,0]) (q51 [1,1,1,1,1,0,1,2,2,1,0,2,1,0,1]):=by kernel_rfl
theorem Q8:q51 [1,1,1,1,1,0,1,2,2,1,0,2,1,0,0]=.region 13 (Y3 (q51 [1,1,1,1,1,0,1,2,2,1,0,2,1,0,0])) false:=by kernel_rfl
theorem Q4:q51 [1,1,1,1,1,0,1,2,2,1,0,2,1,0,1]=.block 4 (q51 [1,1,1,1,1,0,1,2,2,1,0,2,1,0,1,2]):=by kernel_rfl
theorem D8:q51 [1,1,1,1,1,0,1,2,2,1,0,2,1,0,1,2]=.loop (q51 [1,1,1,1,1,0,1,2,2,1,0,2,1,0,1,2,2]):=by kernel_rfl
theorem F9:q51 [1,1,1,1,1,0,1,2,2,1,0,2,1,0,1,2,2]=.seq (q51 [1,1,1,1,1,0,1,2,2,1,0,2,1,0,1,2,2,0]) (q51 [1,1,1,1,1,0,1,2,2,1,0,2,1,0,1,2,2,1]):=by kernel_rfl
theorem F3:q51 [1,1,1,1,1,0,1,2,2,1,0,2,1,0,1,2,2,0]=.seq (q51 [1,1,1,1,1,0,1,2,2,1,0,2,1,0,1,2,2,0,0]) (q51 [1,1,1,1,1,0,1,2,2,1,0,2,1,0,1,2,2,0,1]):=by kernel_rfl
theorem Ex:q51 [1,1,1,1,1,0,1,2,2,1,0,2,1,0,1,2,2,0,0]=.region 14 (Y3 (q51 [1,1,1,1,1,0,1,2,2,1,0,2,1,0,1,2,2,0,0])) false:=by kernel_rfl
theorem Ez:q51 [1,1,1,1,1,0,1,2,2,1,0,2,1,0,1,2,2,0,1]=.cond (.tmp 42) (q51 [1,1,1,1,1,0,1,2,2,1,0,2,1,0,1,2,2,0,1,3]) (q51 [1,1,1,1,1,0,1,2,2,1,0,2,1,0,1,2,2,0,1,4]):=by kernel_rfl
theorem Rx:q51 [1,1,1,1,1,0,1,2,2,1,0,2,1,0,1,2,2,0,1,3]=.skip:=by kernel_rfl
theorem Sa:q51 [1,1,1,1,1,0,1,2,2,1,0,2,1,0,1,2,2,0,1,4]=.exit 4:=by kernel_rfl
theorem Xb:q51 [1,1,1,1,1,0,1,2,2,1,0,2,1,0,1,2,2,1]=.seq (q51 [1,1,1,1,1,0,1,2,2,1,0,2,1,0,1,2,2,1,0]) (q51 [1,1,1,1,1,0,1,2,2,1,0,2,1,0,1,2,2,1,1]):=by kernel_rfl
theorem Ti:q51 [1,1,1,1,1,0,1,2,2,1,0,2,1,0,1,2,2,1,0]=.block 5 (q51 [1,1,1,1,1,0,1,2,2,1,0,2,1,0,1,2,2,1,0,2]):=by kernel_rfl
theorem R9:q51 [1,1,1,1,1,0,1,2,2,1,0,2,1,0,1,2,2,1,0,2]=.seq (q51 [1,1,1,1,1,0,1,2,2,1,0,2,1,0,1,2,2,1,0,2,0]) (q51 [1,1,1,1,1,0,1,2,2,1,0,2,1,0,1,2,2,1,0,2,1]):=by kernel_rfl
theorem Ra:q51 [1,1,1,1,1,0,1,2,2,1,0,2,1,0,1,2,2,1,0,2,0]=.region 16 (Y3 (q51 [1,1,1,1,1,0,1,2,2,1,0,2,1,0,1,2,2,1,0,2,0])) false:=by kernel_rfl
theorem Re:q51 [1,1,1,1,1,0,1,2,2,1,0,2,1,0,1,2,2,1,0,2,1]=.region 17 (Y3 (q51 [1,1,1,1,1,0,1,2,2,1,0,2,1,0,1,2,2,1,0,2,1])) false:=by kernel_rfl
theorem Td:q51 [1,1,1,1,1,0,1,2,2,1,0,2,1,0,1,2,2,1,1]=.region 15 (Y3 (q51 [1,1,1,1,1,0,1,2,2,1,0,2,1,0,1,2,2,1,1])) false:=by kernel_rfl
theorem Za1:q51 [1,1,1,1,1,0,1,2,2,1,0,2,1,1]=.seq (q51 [1,1,1,1,1,0,1,2,2,1,0,2,1,1,0]) (q51 [1,1,1,1,1,0,1,2,2,1,0,2,1,1,1]):=by kernel_rfl
theorem Q6:q51 [1,1,1,1,1,0,1,2,2,1,0,2,1,1,0]=.region 18 (Y3 (q51 [1,1,1,1,1,0,1,2,2,1,0,2,1,1,0])) false:=by kernel_rfl
theorem Q3:q51 [1,1,1,1,1,0,1,2,2,1,0,2,1,1,1]=.block 6 (q51 [1,1,1,1,1,0,1,2,2,1,0,2,1,1,1,2]):=by kernel_rfl
theorem D7:q51 [1,1,1,1,1,0,1,2,2,1,0,2,1,1,1,2]=.loop (q51 [1,1,1,1,1,0,1,2,2,1,0,2,1,1,1,2,2]):=by kernel_rfl
theorem F6:q51 [1,1,1,1,1,0,1,2,2,1,0,2,1,1,1,2,2]=.seq (q51 [1,1,1,1,1,0,1,2,2,1,0,2,1,1,1,2,2,0]) (q51 [1,1,1,1,1,0,1,2,2,1,0,2,1,1,1,2,2,1]):=by kernel_rfl
theorem Fw:q51 [1,1,1,1,1,0,1,2,2,1,0,2,1,1,1,2,2,0]=.seq (q51 [1,1,1,1,1,0,1,2,2,1,0,2,1,1,1,2,2,0,0]) (q51 [1,1,1,1,1,0,1,2,2,1,0,2,1,1,1,2,2,0,1]):=by kernel_rfl
theorem Fa:q51 [1,1,1,1,1,0,1,2,2,1,0,2,1,1,1,2,2,0,0]=.region 19 (Y3 (q51 [1,1,1,1,1,0,1,2,2,1,0,2,1,1,1,2,2,0,0])) false:=by kernel_rfl
theorem Ey:q51 [1,1,1,1,1,0,1,2,2,1,0,2,1,1,1,2,2,0,1]=.cond (.tmp 63) (q51 [1,1,1,1,1,0,1,2,2,1,0,2,1,1,1,2,2,0,1,3]) (q51 [1,1,1,1,1,0,1,2,2,1,0,2,1,1,1,2,2,0,1,4]):=by kernel_rfl
theorem Sb:q51 [1,1,1,1,1,0,1,2,2,1,0,2,1,1,1,2,2,0,1,3]=.skip:=by kernel_rfl
theorem Sc:q51 [1,1,1,1,1,0,1,2,2,1,0,2,1,1,1,2,2,0,1,4]=.exit 6:=by kernel_rfl
theorem Vi:q51 [1,1,1,1,1,0,1,2,2,1,0,2,1,1,1,2,2,1]=.seq (q51 [1,1,1,1,1,0,1,2,2,1,0,2,1,1,1,2,2,1,0]) (q51 [1,1,1,1,1,0,1,2,2,1,0,2,1,1,1,2,2,1,1]):=by kernel_rfl
theorem S9:q51 [1,1,1,1,1,0,1,2,2,1,0,2,1,1,1,2,2,1,0]=.block 7 (q51 [1,1,1,1,1,0,1,2,2,1,0,2,1,1,1,2,2,1,0,2]):=by kernel_rfl
theorem Ry:q51 [1,1,1,1,1,0,1,2,2,1,0,2,1,1,1,2,2,1,0,2]=.region 21 (Y3 (q51 [1,1,1,1,1,0,1,2,2,1,0,2,1,1,1,2,2,1,0,2])) false:=by kernel_rfl
theorem Sw:q51 [1,1,1,1,1,0,1,2,2,1,0,2,1,1,1,2,2,1,1]=.region 20 (Y3 (q51 [1,1,1,1,1,0,1,2,2,1,0,2,1,1,1,2,2,1,1])) false:=by kernel_rfl
theorem Zfd:q51 [1,1,1,1,1,0,1,2,2,1,1]=.region 11 (Y3 (q51 [1,1,1,1,1,0,1,2,2,1,1])) false:=by kernel_rfl
theorem Zrt:q51 [1,1,1,1,1,1]=.seq (q51 [1,1,1,1,1,1,0]) (q51 [1,1,1,1,1,1,1]):=by kernel_rfl
theorem Zm2:q51 [1,1,1,1,1,1,0]=.region 22 (Y3 (q51 [1,1,1,1,1,1,0])) false:=by kernel_rfl
theorem Zoa:q51 [1,1,1,1,1,1,1]=.ret:=by kernel_rfl
section
variable (Hh:Hearts K Tryz.prog)
include Hh
theorem Z2e {gr sz ino jr:Nat} (F:Fine gr sz ino jr) (h:Go.Ev.H):Ze K Tryz.prog 14 [.g (Y6 gr sz ino jr)] h (.w (.c (.bool true))) h:=by
 refine Ze.tidy ⟨_,Tryz.func14,by kernel_rfl,of_decide_eq_true (by kernel_rfl)⟩ fun tidy=>?_
 suffices hs:Goes K Tryz.prog 66 none (q14 []) [] (Gp 0 [.g (Y6 gr sz ino jr)] .nil) h fun x ds ts h1=>(∀ n,n<h.next→h1.get n=h.get n)∧leave K Tryz.f14 (some (.at x ds ts h1))=some (.val (.w (.c (.bool true))) h1) by
  obtain⟨x,ds,ts,h1,g,e2,e3⟩:=hs
  exact (Ze.body fits Hh (by kernel_rfl) (by kernel_rfl) (by kernel_rfl) (by kernel_rfl) rfl g e3).quiet rfl e2
 obtain⟨g1,g2,g3,g4,g5,g6,g7,g8,g9,g10,g11⟩:=F
 have e0:Zq (Gp 0 [.g (Y6 gr sz ino jr)] .nil) 0=.w (.g [.int .i64 gr,.int .i64 sz,.int .i64 ino,.int .i64 jr]):=by rw[Ow]; rfl
 have c1:decide ((gr:Int)<1)=false:=decide_eq_false (by omega)
 have c2:decide ((gr:Int) > 4)=false:=decide_eq_false (by omega)
 have c3:decide ((sz:Int)<16)=false:=decide_eq_false (by omega)
 have c4:decide ((sz:Int) > 512)=false:=decide_eq_false (by omega)
 have c5:decide ((ino:Int)<4)=false:=decide_eq_false (by omega)
 have c6:decide ((ino:Int) > 64)=false:=decide_eq_false (by omega)
 have c7:Xt .i64 (ino:Int) 4=some (.int .i64 0):=by
  show some (C.int .i64 ((ino:Int).tmod 4))=_
  rw[show (ino:Int).tmod 4=((ino % 4:Nat):Int) from rfl,g7]
  rfl
 have c8:decide ((jr:Int)<40)=false:=decide_eq_false (by omega)
 have c9:decide ((jr:Int) > 256)=false:=decide_eq_false (by omega)
 have q1:M0 .i64 (ino:Int) 4=some (.int .i64 ((ino / 4:Nat):Int)):=by
  show some (J8 .i64 ((ino:Int).tdiv 4))=_
  rw[show (ino:Int).tdiv 4=((ino / 4:Nat):Int) from rfl,wrap64 (by omega) (by omega)]
 have w1:J8 .i64 (3+((ino / 4:Nat):Int))=.int .i64 ((3+ino / 4:Nat):Int):=by rw[wrap64 (by omega) (by omega)]; congr 1
 have c10:decide ((sz:Int) ≥ ((3+ino / 4:Nat):Int))=true:=decide_eq_true (by omega)
 have w2:J8 .i64 (2+(jr:Int))=.int .i64 ((2+jr:Nat):Int):=by rw[wrap64 (by omega) (by omega)]; congr 1
 have hm:gr * sz≤2048:=by omega
 have w3:J8 .i64 ((gr:Int) * (sz:Int))=.int .i64 ((gr * sz:Nat):Int):=by
  have e:(gr:Int) * (sz:Int)=((gr * sz:Nat):Int):=by simp
  rw[e,wrap64 (by omega) (by omega)]
 have w4:J8 .i64 (((2+jr:Nat):Int)+((gr * sz:Nat):Int))=.int .i64 ((2+jr+gr * sz:Nat):Int):=by rw[wrap64 (by omega) (by omega)]; congr 1
 have c11:decide (((2+jr+gr * sz:Nat):Int)≤2048)=true:=decide_eq_true (by omega)
 have e1:Tryz.f14.results.toList=[.tmp 2]:=rfl
 have z0:((0:Int) != 0)=false:=rfl
 show Goes K Tryz.prog 66 none (q14 []) _ _ _ _
 rw[Z54]
 refine Goes.seq ?_
 show Goes K Tryz.prog 66 none (q14 [0]) _ _ _ _
 rw[q14_0]
 refine Goes.ops2 fits Hh Zc (by
  simp only[q14,piece,part0,part1,part2,Yx,part3,part4,Yc,Tryz.f14,Y3]
  simp (decide:=true) only [go_sem,Zz,H.get_put,H.Zi,Za,Yi,reduceIte,Nat.reduceAdd,Nat.reduceMul,e0,c1,c2,c3,c4,c5,c6,c7,c8,c9,q1,w1,c10,w2,w3,w4,c11,z0,Zw,Zap,Zad,Xi,Zae,geo0,geo1,geo2,geo3,Gb,Ff,Fe,cW,Nat.zero_add]
  rfl) ?_
 show Goes K Tryz.prog 66 none (q14 [1]) _ _ _ _
 rw[q14_1]
 refine Goes.seq ?_
 show Goes K Tryz.prog 66 none (q14 [1,0]) _ _ _ _
 rw[Z38]
 refine Goes.seq ?_
 show Goes K Tryz.prog 66 none (q14 [1,0,0]) _ _ _ _
 rw[Z0a]
 refine Goes.ops2 fits Hh Zc (by
  simp only[q14,piece,part0,part1,part2,Yx,part3,part4,Yc,Tryz.f14,Y3]
  simp (decide:=true) only [go_sem,Zz,H.get_put,H.Zi,Za,Yi,reduceIte,Nat.reduceAdd,Nat.reduceMul,e0,c1,c2,c3,c4,c5,c6,c7,c8,c9,q1,w1,c10,w2,w3,w4,c11,z0,Zw,Zap,Zad,Xi,Zae,geo0,geo1,geo2,geo3,Gb,Ff,Fe,cW,Nat.zero_add]
  rfl) ?_
 show Goes K Tryz.prog 66 none (q14 [1,0,1]) _ _ _ _
 rw[Z1p]
 refine Goes.Wx (by simp (decide:=true) only [Z4,Y5,asC,Zn,reduceIte,Uu,Ju,e0,c1,c2,c3,c4,c5,c6,c7,c8,c9,q1,w1,c10,w2,w3,w4,c11,z0,Zw,Zap,Zad,Xi,Zae,geo0,geo1,geo2,geo3,Gb,Ff,Fe,cW,Nat.zero_add]) ?_
 show Goes K Tryz.prog 66 none (q14 [1,0,1,4]) _ _ _ _
 rw[Zw8]
 refine Goes.skip ?_
 show Goes K Tryz.prog 66 none (q14 [1,1]) _ _ _ _
 rw[Z37]
 refine Goes.seq ?_
 show Goes K Tryz.prog 66 none (q14 [1,1,0]) _ _ _ _
 rw[Z0b]
 refine Goes.ops2 fits Hh Zc (by
  simp only[q14,piece,part0,part1,part2,Yx,part3,part4,Yc,Tryz.f14,Y3]
  simp (decide:=true) only [go_sem,Zz,H.get_put,H.Zi,Za,Yi,reduceIte,Nat.reduceAdd,Nat.reduceMul,e0,c1,c2,c3,c4,c5,c6,c7,c8,c9,q1,w1,c10,w2,w3,w4,c11,z0,Zw,Zap,Zad,Xi,Zae,geo0,geo1,geo2,geo3,Gb,Ff,Fe,cW,Nat.zero_add]
  rfl) ?_
 show Goes K Tryz.prog 66 none (q14 [1,1,1]) _ _ _ _
 rw[Z05]
 refine Goes.ret ?_
 refine⟨fun n hn=>?_,?_⟩
 ·rw[H.Zi,if_neg (by omega)]
 ·simp (decide:=true) only [Ng,Oa,finish,e1,U4,evalW,Y5,asW,Zn,reduceIte,Bu]
end
def thing (k gr at' ino:Int):List C:=[.int .u8 k,.int .i64 gr,.int .i64 at',.int .i64 ino]
theorem J6:J3 K 101=some ti157:=by kernel_rfl
theorem Zxc:ti157.size=4:=rfl
theorem Zwe:ti157.bytes=32:=rfl
theorem bld1 (k:Int):Yq K 157 (some [(0,.c (.int .u8 k))])=some (.g [.int .u8 k,.int .i64 0,.int .i64 0,.int .i64 0]):=by kernel_rfl
theorem bld3 (k a:Int):Yq K 157 (some [(0,.c (.int .u8 k)),(2,.c (.int .i64 a))])=some (.g [.int .u8 k,.int .i64 0,.int .i64 a,.int .i64 0]):=by kernel_rfl
theorem bld4 (k a:Int):Yq K 157 (some [(0,.c (.int .u8 k)),(1,.c (.int .i64 a))])=some (.g [.int .u8 k,.int .i64 a,.int .i64 0,.int .i64 0]):=by kernel_rfl
theorem bld5 (k a b:Int):Yq K 157 (some [(0,.c (.int .u8 k)),(1,.c (.int .i64 a)),(2,.c (.int .i64 b))])=some (.g [.int .u8 k,.int .i64 a,.int .i64 b,.int .i64 0]):=by kernel_rfl
theorem bld6 (k a b c:Int):Yq K 157 (some [(0,.c (.int .u8 k)),(1,.c (.int .i64 a)),(2,.c (.int .i64 b)),(3,.c (.int .i64 c))])=some (.g [.int .u8 k,.int .i64 a,.int .i64 b,.int .i64 c]):=by kernel_rfl
theorem bs1 (h:Go.Ev.H) (a b c d:C):Yw h 1 (some ti157) (some [(0,.g [a,b,c,d])])=some (.w (.c (.slice h.next 0 1 4)),h.new (.row 4 [[a,b,c,d]] false)):=rfl
theorem bs2 (h:Go.Ev.H) (a b c d a' b' c' d':C):Yw h 2 (some ti157) (some [(0,.g [a,b,c,d]),(1,.g [a',b',c',d'])])=some (.w (.c (.slice h.next 0 2 4)),h.new (.row 4 [[a,b,c,d],[a',b',c',d']] false)):=rfl
theorem Ot (n off len sz:Nat):U5 K 101 (.slice n off len sz)=true:=by unfold U5; rw[show K.types.get 101=some ti101 by kernel_rfl]; rfl
structure AllSt (p:Nat) (h0:Go.Ev.H) (L:List (List C)) (ts:Zx) (h:Go.Ev.H):Prop where
 p1:Zq ts 1=.w (.c (.ptr p 0))
 sl:∃ n,Zq ts 3=.w (.c (.slice n 0 L.length 4))∧h.get n=some (.row 4 L false)∧p<n∧n<h.next
 up:h0.next≤h.next
 keep:∀ m,m≤p→h.get m=h0.get m
theorem AllSt.grow {p n:Nat} {h0 h:Go.Ev.H} {L M:List (List C)} {ts ts':Zx} (s:AllSt p h0 L ts h) (hn:p<n) (hlt:n<h.next) (e1:Zq ts' 1=.w (.c (.ptr p 0))) (e3:Zq ts' 3=.w (.c (.slice (h.next+1) 0 (L.length+M.length) 4))):AllSt p h0 (L++M) ts' (((h.new (.row 4 M false)).del n).new (.row 4 (L++M) false)):=by
 refine⟨e1,⟨h.next+1,by rw[e3,List.length_append],?_,by omega,?_⟩,?_,fun m hm=>?_⟩
 ·rw[H.Zi,H.Zj,H.Zd,if_pos rfl]
 ·rw[H.Zd,H.Zj,H.Zd]; omega
 ·rw[H.Zd,H.Zj,H.Zd]; have:=s.up; omega
 ·rw[H.Zi,H.Zj,H.Zd,if_neg (by omega),H.Zm,if_neg (by omega),H.Zi,if_neg (by omega)]
  exact s.keep m hm
theorem AllSt.same {p:Nat} {h0 h:Go.Ev.H} {L:List (List C)} {ts ts':Zx} (s:AllSt p h0 L ts h) (e1:Zq ts' 1=Zq ts 1) (e3:Zq ts' 3=Zq ts 3):AllSt p h0 L ts' h :=
 ⟨by rw[e1]; exact s.p1,by rw[e3]; exact s.sl,s.up,s.keep⟩
theorem grow1 {h:Go.Ev.H} {n:Nat} {L:List (List C)} (x:List C) (ho:h.get n=some (.row 4 L false)) (hn:n<h.next) (hl:L.length≤4000) :
  Bz (h.new (.row 4 [x] false)) (some ti157) (.slice n 0 L.length 4) (.slice h.next 0 1 4)=some (.w (.c (.slice (h.next+1) 0 (L.length+1) 4)),((h.new (.row 4 [x] false)).del n).new (.row 4 (L++[x]) false)) :=
 Zjg (M:=[x]) Zxc (by rw[H.Zi,if_neg (by omega)]; exact ho) (by rw[H.Zi,if_pos rfl]) (by simp) (by rw[Zwe]; show (L.length+1) * 32≤_; omega) (by show L.length+1≤_; omega)
theorem grow2 {h:Go.Ev.H} {n:Nat} {L:List (List C)} (x y:List C) (ho:h.get n=some (.row 4 L false)) (hn:n<h.next) (hl:L.length≤4000) :
  Bz (h.new (.row 4 [x,y] false)) (some ti157) (.slice n 0 L.length 4) (.slice h.next 0 2 4)=some (.w (.c (.slice (h.next+1) 0 (L.length+2) 4)),((h.new (.row 4 [x,y] false)).del n).new (.row 4 (L++[x,y]) false)) :=
 Zjg (M:=[x,y]) Zxc (by rw[H.Zi,if_neg (by omega)]; exact ho) (by rw[H.Zi,if_pos rfl]) (by simp) (by rw[Zwe]; show (L.length+2) * 32≤_; omega) (by show L.length+2≤_; omega)
def jrL (i:Nat):List (List C):=[thing 1 0 0 0,thing 2 0 0 0]++(List.range i).map fun (j:Nat)=>thing 3 0 j 0
def inL (a ino c:Nat):List (List C):=(List.range c).map fun (k:Nat)=>thing 6 a ((2+k:Nat):Int) ((1+a * ino+4 * k:Nat):Int)
def daL (a ino d:Nat):List (List C):=(List.range d).map fun (k:Nat)=>thing 7 a ((2+ino / 4+k:Nat):Int) 0
def grL (sz ino a:Nat):List (List C):=[thing 4 a 0 0,thing 5 a 1 0]++inL a ino (ino / 4)++daL a ino (sz - (2+ino / 4))
def O0 (sz ino a:Nat):List (List C):=(List.range a).flatMap (grL sz ino)
def Zmh (gr sz ino jr:Nat):List (List C):=jrL jr++O0 sz ino gr
theorem Zk2 (i:Nat):(jrL i).length=2+i:=by simp [jrL]; omega
theorem Zy7 (i:Nat):jrL (i+1)=jrL i++[thing 3 0 i 0]:=by simp [jrL,List.range_succ]
theorem Zkz (a ino c:Nat):(inL a ino c).length=c:=by simp [inL]
theorem Zxi (a ino c:Nat):inL a ino (c+1)=inL a ino c++[thing 6 a ((2+c:Nat):Int) ((1+a * ino+4 * c:Nat):Int)]:=by simp [inL,List.range_succ]
theorem Zsf (a ino d:Nat):(daL a ino d).length=d:=by simp [daL]
theorem Zwp (a ino d:Nat):daL a ino (d+1)=daL a ino d++[thing 7 a ((2+ino / 4+d:Nat):Int) 0]:=by simp [daL,List.range_succ]
theorem Z1c {sz ino:Nat} (h:3+ino / 4≤sz) (a:Nat):(grL sz ino a).length=sz:=by simp [grL,Zkz,Zsf]; omega
theorem Zb3 (sz ino a:Nat):O0 sz ino (a+1)=O0 sz ino a++grL sz ino a:=by simp [O0,List.range_succ]
theorem Zng {sz ino:Nat} (h:3+ino / 4≤sz) (a:Nat):(O0 sz ino a).length=a * sz:=by
 induction a with
 | zero=>simp [O0]
 | succ a ih=>rw[Zb3,List.length_append,ih,Z1c h,Nat.succ_mul]
section
variable (Hh:Hearts K Tryz.prog)
include Hh
theorem all1 {gr sz ino jr:Nat} (F:Fine gr sz ino jr) (p:Nat) (h0:Go.Ev.H) (hp:h0.get p=some (.row 4 [Y6 gr sz ino jr] false)):∀ (k i:Nat) (ts:Zx) (h:Go.Ev.H),i+k=jr→AllSt p h0 (jrL i) ts h→Zq ts 4=.w (.c (.int .i64 i)) →
  Goes K Tryz.prog 73 none (q51 [1,1,1,0,1,2]) [] ts h fun x ds' ts' h'=>x=.exit 0∧ds'=[]∧AllSt p h0 (jrL jr) ts' h':=by
 obtain⟨g1,g2,g3,g4,g5,g6,g7,g8,g9,g10,g11⟩:=F
 intro k
 induction k with
 | zero =>
  intro i ts h hi st h4
  have ei:i=jr:=by omega
  subst ei
  have hg:h.get p=some (.row 4 [[.int .i64 gr,.int .i64 sz,.int .i64 ino,.int .i64 i]] false):=(st.keep p (Nat.le_refl _)).trans hp
  have h1:=st.p1
  have c1:decide ((i:Int)<(i:Int))=false:=decide_eq_false (by omega)
  show Goes K Tryz.prog 73 none (q51 [1,1,1,0,1,2]) _ _ _ _
  rw[Za2]
  refine Goes.loop ?_
  show Goes K Tryz.prog 73 none (q51 [1,1,1,0,1,2,2]) _ _ _ _
  rw[Ze4]
  refine Goes.seq ?_
  show Goes K Tryz.prog 73 none (q51 [1,1,1,0,1,2,2,0]) _ _ _ _
  rw[Zbs]
  refine Goes.seq ?_
  show Goes K Tryz.prog 73 none (q51 [1,1,1,0,1,2,2,0,0]) _ _ _ _
  rw[Zaf]
  refine Goes.ops2 fits Hh Zc (by
   simp only[q51,piece,part0,part1,part2,Yx,part3,part4,Yc,Tryz.f51,Y3]
   simp (decide:=true) only [go_sem,Zz,H.get_put,H.Zi,Za,Yi,reduceIte,Nat.reduceAdd,Nat.reduceMul,h4,h1,hg,c1,Zae,geo3,Gb,Ff,Fe,cW,Nat.zero_add]
   rfl) ?_
  show Goes K Tryz.prog 73 none (q51 [1,1,1,0,1,2,2,0,1]) _ _ _ _
  rw[Zab]
  refine Goes.Wx (by simp (decide:=true) only [Z4,Y5,asC,Zn,reduceIte,Uu,Ju,h4,h1,hg,c1,Zae,geo3,Gb,Ff,Fe,cW,Nat.zero_add]) ?_
  show Goes K Tryz.prog 73 none (q51 [1,1,1,0,1,2,2,0,1,4]) _ _ _ _
  rw[Zgy]
  refine Goes.exit ?_
  refine⟨rfl,rfl,st.same ?_ ?_⟩
  ·simp (decide:=true) only [Zn,reduceIte]
  ·simp (decide:=true) only [Zn,reduceIte]
 | succ k ih =>
  intro i ts h hi st h4
  have hg:h.get p=some (.row 4 [[.int .i64 gr,.int .i64 sz,.int .i64 ino,.int .i64 jr]] false):=(st.keep p (Nat.le_refl _)).trans hp
  have h1:=st.p1
  obtain⟨n,h3,hn,hpn,hlt⟩:=st.sl
  have c1:decide ((i:Int)<(jr:Int))=true:=decide_eq_true (by omega)
  have w1:J8 .i64 ((i:Int)+1)=.int .i64 ((i+1:Nat):Int):=by rw[wrap64 (by omega) (by omega)]; congr 1
  have ap:=grow1 (thing 3 0 i 0) hn hlt (by rw[Zk2]; omega)
  simp only[thing] at ap
  show Goes K Tryz.prog 73 none (q51 [1,1,1,0,1,2]) _ _ _ _
  rw[Za2]
  refine Goes.loop ?_
  show Goes K Tryz.prog 73 none (q51 [1,1,1,0,1,2,2]) _ _ _ _
  rw[Ze4]
  refine Goes.seq ?_
  show Goes K Tryz.prog 73 none (q51 [1,1,1,0,1,2,2,0]) _ _ _ _
  rw[Zbs]
  refine Goes.seq ?_
  show Goes K Tryz.prog 73 none (q51 [1,1,1,0,1,2,2,0,0]) _ _ _ _
  rw[Zaf]
  refine Goes.ops2 fits Hh Zc (by
   simp only[q51,piece,part0,part1,part2,Yx,part3,part4,Yc,Tryz.f51,Y3]
   simp (decide:=true) only [go_sem,Zz,H.get_put,H.Zi,Za,Yi,reduceIte,Nat.reduceAdd,Nat.reduceMul,h4,h1,h3,hg,c1,w1,ap,Zae,geo3,Gb,Ff,Fe,cW,Nat.zero_add,bld3,bs1,J6,Ot,Zt]
   rfl) ?_
  show Goes K Tryz.prog 73 none (q51 [1,1,1,0,1,2,2,0,1]) _ _ _ _
  rw[Zab]
  refine Goes.Zau (by simp (decide:=true) only [Z4,Y5,asC,Zn,reduceIte,Uu,Ju,h4,h1,h3,hg,c1,w1,ap,Zae,geo3,Gb,Ff,Fe,cW,Nat.zero_add,bld3,bs1,J6,Ot,Zt]) ?_
  show Goes K Tryz.prog 73 none (q51 [1,1,1,0,1,2,2,0,1,3]) _ _ _ _
  rw[Zhe]
  refine Goes.skip ?_
  show Goes K Tryz.prog 73 none (q51 [1,1,1,0,1,2,2,1]) _ _ _ _
  rw[Zlb]
  refine Goes.seq ?_
  show Goes K Tryz.prog 73 none (q51 [1,1,1,0,1,2,2,1,0]) _ _ _ _
  rw[Zi5]
  refine Goes.block ?_
  show Goes K Tryz.prog 73 none (q51 [1,1,1,0,1,2,2,1,0,2]) _ _ _ _
  rw[Zf5]
  refine Goes.ops2 fits Hh Zc (by
   simp only[q51,piece,part0,part1,part2,Yx,part3,part4,Yc,Tryz.f51,Y3]
   simp (decide:=true) only [go_sem,Zz,H.get_put,H.Zi,Za,Yi,reduceIte,Nat.reduceAdd,Nat.reduceMul,h4,h1,h3,hg,c1,w1,ap,Zae,geo3,Gb,Ff,Fe,cW,Nat.zero_add,bld3,bs1,J6,Ot,Zt]
   rfl) ?_
  show Goes K Tryz.prog 73 none (q51 [1,1,1,0,1,2,2,1,1]) _ _ _ _
  rw[Zit]
  refine Goes.ops2 fits Hh Zc (by
   simp only[q51,piece,part0,part1,part2,Yx,part3,part4,Yc,Tryz.f51,Y3]
   simp (decide:=true) only [go_sem,Zz,H.get_put,H.Zi,Za,Yi,reduceIte,Nat.reduceAdd,Nat.reduceMul,h4,h1,h3,hg,c1,w1,ap,Zae,geo3,Gb,Ff,Fe,cW,Nat.zero_add,bld3,bs1,J6,Ot,Zt]
   rfl) ?_
  show Goes K Tryz.prog 73 none (.loop (q51 [1,1,1,0,1,2,2])) _ _ _ _
  rw[←Za2]
  refine ih (i+1) _ _ (by omega) ?_ ?_
  ·rw[Zy7]
   refine st.grow hpn hlt ?_ ?_
   ·simp (decide:=true) only [Zn,reduceIte,h1]
   ·simp (decide:=true) only [Zn,reduceIte]
    rfl
  ·simp (decide:=true) only [Zn,reduceIte]
theorem all4 {gr sz ino jr:Nat} (F:Fine gr sz ino jr) (a:Nat) (ha:a<gr) (p:Nat) (h0:Go.Ev.H) (hp:h0.get p=some (.row 4 [Y6 gr sz ino jr] false)) (B:List (List C)) (hB:B.length≤2060):∀ (k c:Nat) (ts:Zx) (h:Go.Ev.H),c+k=ino / 4→AllSt p h0 (B++inL a ino c) ts h→Zq ts 6=.w (.c (.int .i64 a))→Zq ts 7=.w (.c (.int .i64 ((4 * c:Nat):Int)))→Zq ts 5=.w (.c (.int .i64 ((1+a * ino+4 * c:Nat):Int))) →
  Goes K Tryz.prog 73 none (q51 [1,1,1,1,1,0,1,2,2,1,0,2,1,0,1,2]) [] ts h fun x ds' ts' h'=>x=.exit 4∧ds'=[]∧AllSt p h0 (B++inL a ino (ino / 4)) ts' h'∧Zq ts' 6=.w (.c (.int .i64 a))∧Zq ts' 5=.w (.c (.int .i64 ((1+(a+1) * ino:Nat):Int))):=by
 obtain⟨g1,g2,g3,g4,g5,g6,g7,g8,g9,g10,g11⟩:=F
 have ham:a * ino≤4 * 64:=Nat.mul_le_mul (by omega) (by omega)
 intro k
 induction k with
 | zero =>
  intro c ts h hc st h6 h7 h5
  have ec:c=ino / 4:=by omega
  subst ec
  have hg:h.get p=some (.row 4 [[.int .i64 gr,.int .i64 sz,.int .i64 ino,.int .i64 jr]] false):=(st.keep p (Nat.le_refl _)).trans hp
  have h1:=st.p1
  have c1:decide (((4 * (ino / 4):Nat):Int)<(ino:Int))=false:=decide_eq_false (by omega)
  show Goes K Tryz.prog 73 none (q51 [1,1,1,1,1,0,1,2,2,1,0,2,1,0,1,2]) _ _ _ _
  rw[D8]
  refine Goes.loop ?_
  show Goes K Tryz.prog 73 none (q51 [1,1,1,1,1,0,1,2,2,1,0,2,1,0,1,2,2]) _ _ _ _
  rw[F9]
  refine Goes.seq ?_
  show Goes K Tryz.prog 73 none (q51 [1,1,1,1,1,0,1,2,2,1,0,2,1,0,1,2,2,0]) _ _ _ _
  rw[F3]
  refine Goes.seq ?_
  show Goes K Tryz.prog 73 none (q51 [1,1,1,1,1,0,1,2,2,1,0,2,1,0,1,2,2,0,0]) _ _ _ _
  rw[Ex]
  refine Goes.ops2 fits Hh Zc (by
   simp only[q51,piece,part0,part1,part2,Yx,part3,part4,Yc,Tryz.f51,Y3]
   simp (decide:=true) only [go_sem,Zz,H.get_put,H.Zi,Za,Yi,reduceIte,Nat.reduceAdd,Nat.reduceMul,h7,h1,hg,c1,Xi,geo2,Gb,Ff,Fe,cW,Nat.zero_add]
   rfl) ?_
  show Goes K Tryz.prog 73 none (q51 [1,1,1,1,1,0,1,2,2,1,0,2,1,0,1,2,2,0,1]) _ _ _ _
  rw[Ez]
  refine Goes.Wx (by simp (decide:=true) only [Z4,Y5,asC,Zn,reduceIte,Uu,Ju,h7,h1,hg,c1,Xi,geo2,Gb,Ff,Fe,cW,Nat.zero_add]) ?_
  show Goes K Tryz.prog 73 none (q51 [1,1,1,1,1,0,1,2,2,1,0,2,1,0,1,2,2,0,1,4]) _ _ _ _
  rw[Sa]
  refine Goes.exit ?_
  refine⟨rfl,rfl,st.same ?_ ?_,?_,?_⟩
  ·simp (decide:=true) only [Zn,reduceIte]
  ·simp (decide:=true) only [Zn,reduceIte]
  ·simp (decide:=true) only [Zn,reduceIte,h6]
  ·simp (decide:=true) only [Zn,reduceIte,h5]
   have:1+a * ino+4 * (ino / 4)=1+(a+1) * ino:=by rw[Nat.add_mul,Nat.one_mul]; omega
   rw[this]
 | succ k ih =>
  intro c ts h hc st h6 h7 h5
  have hg:h.get p=some (.row 4 [[.int .i64 gr,.int .i64 sz,.int .i64 ino,.int .i64 jr]] false):=(st.keep p (Nat.le_refl _)).trans hp
  have h1:=st.p1
  obtain⟨n,h3,hn,hpn,hlt⟩:=st.sl
  have c1:decide (((4 * c:Nat):Int)<(ino:Int))=true:=decide_eq_true (by omega)
  have q1:M0 .i64 ((4 * c:Nat):Int) 4=some (.int .i64 (c:Int)):=by
   show some (J8 .i64 (((4 * c:Nat):Int).tdiv 4))=_
   rw[show ((4 * c:Nat):Int).tdiv 4=((4 * c / 4:Nat):Int) from rfl,show 4 * c / 4=c by omega,wrap64 (by omega) (by omega)]
  have w1:J8 .i64 (2+(c:Int))=.int .i64 ((2+c:Nat):Int):=by rw[wrap64 (by omega) (by omega)]; congr 1
  have w2:J8 .i64 (((1+a * ino+4 * c:Nat):Int)+4)=.int .i64 ((1+a * ino+4 * (c+1):Nat):Int):=by rw[wrap64 (by omega) (by omega)]; congr 1
  have w3:J8 .i64 (((4 * c:Nat):Int)+4)=.int .i64 ((4 * (c+1):Nat):Int):=by rw[wrap64 (by omega) (by omega)]; congr 1
  have ap:=grow1 (thing 6 a ((2+c:Nat):Int) ((1+a * ino+4 * c:Nat):Int)) hn hlt (by rw[List.length_append,Zkz]; omega)
  simp only[thing] at ap
  show Goes K Tryz.prog 73 none (q51 [1,1,1,1,1,0,1,2,2,1,0,2,1,0,1,2]) _ _ _ _
  rw[D8]
  refine Goes.loop ?_
  show Goes K Tryz.prog 73 none (q51 [1,1,1,1,1,0,1,2,2,1,0,2,1,0,1,2,2]) _ _ _ _
  rw[F9]
  refine Goes.seq ?_
  show Goes K Tryz.prog 73 none (q51 [1,1,1,1,1,0,1,2,2,1,0,2,1,0,1,2,2,0]) _ _ _ _
  rw[F3]
  refine Goes.seq ?_
  show Goes K Tryz.prog 73 none (q51 [1,1,1,1,1,0,1,2,2,1,0,2,1,0,1,2,2,0,0]) _ _ _ _
  rw[Ex]
  refine Goes.ops2 fits Hh Zc (by
   simp only[q51,piece,part0,part1,part2,Yx,part3,part4,Yc,Tryz.f51,Y3]
   simp (decide:=true) only [go_sem,Zz,H.get_put,H.Zi,Za,Yi,reduceIte,Nat.reduceAdd,Nat.reduceMul,h7,h6,h5,h1,h3,hg,c1,q1,w1,w2,w3,ap,Xi,geo2,Gb,Ff,Fe,cW,Nat.zero_add,bld6,bs1,J6,Ot,Zt]
   rfl) ?_
  show Goes K Tryz.prog 73 none (q51 [1,1,1,1,1,0,1,2,2,1,0,2,1,0,1,2,2,0,1]) _ _ _ _
  rw[Ez]
  refine Goes.Zau (by simp (decide:=true) only [Z4,Y5,asC,Zn,reduceIte,Uu,Ju,h7,h6,h5,h1,h3,hg,c1,q1,w1,w2,w3,ap,Xi,geo2,Gb,Ff,Fe,cW,Nat.zero_add,bld6,bs1,J6,Ot,Zt]) ?_
  show Goes K Tryz.prog 73 none (q51 [1,1,1,1,1,0,1,2,2,1,0,2,1,0,1,2,2,0,1,3]) _ _ _ _
  rw[Rx]
  refine Goes.skip ?_
  show Goes K Tryz.prog 73 none (q51 [1,1,1,1,1,0,1,2,2,1,0,2,1,0,1,2,2,1]) _ _ _ _
  rw[Xb]
  refine Goes.seq ?_
  show Goes K Tryz.prog 73 none (q51 [1,1,1,1,1,0,1,2,2,1,0,2,1,0,1,2,2,1,0]) _ _ _ _
  rw[Ti]
  refine Goes.block ?_
  show Goes K Tryz.prog 73 none (q51 [1,1,1,1,1,0,1,2,2,1,0,2,1,0,1,2,2,1,0,2]) _ _ _ _
  rw[R9]
  refine Goes.seq ?_
  show Goes K Tryz.prog 73 none (q51 [1,1,1,1,1,0,1,2,2,1,0,2,1,0,1,2,2,1,0,2,0]) _ _ _ _
  rw[Ra]
  refine Goes.ops2 fits Hh Zc (by
   simp only[q51,piece,part0,part1,part2,Yx,part3,part4,Yc,Tryz.f51,Y3]
   simp (decide:=true) only [go_sem,Zz,H.get_put,H.Zi,Za,Yi,reduceIte,Nat.reduceAdd,Nat.reduceMul,h7,h6,h5,h1,h3,hg,c1,q1,w1,w2,w3,ap,Xi,geo2,Gb,Ff,Fe,cW,Nat.zero_add,bld6,bs1,J6,Ot,Zt]
   rfl) ?_
  show Goes K Tryz.prog 73 none (q51 [1,1,1,1,1,0,1,2,2,1,0,2,1,0,1,2,2,1,0,2,1]) _ _ _ _
  rw[Re]
  refine Goes.ops2 fits Hh Zc (by
   simp only[q51,piece,part0,part1,part2,Yx,part3,part4,Yc,Tryz.f51,Y3]
   simp (decide:=true) only [go_sem,Zz,H.get_put,H.Zi,Za,Yi,reduceIte,Nat.reduceAdd,Nat.reduceMul,h7,h6,h5,h1,h3,hg,c1,q1,w1,w2,w3,ap,Xi,geo2,Gb,Ff,Fe,cW,Nat.zero_add,bld6,bs1,J6,Ot,Zt]
   rfl) ?_
  show Goes K Tryz.prog 73 none (q51 [1,1,1,1,1,0,1,2,2,1,0,2,1,0,1,2,2,1,1]) _ _ _ _
  rw[Td]
  refine Goes.ops2 fits Hh Zc (by
   simp only[q51,piece,part0,part1,part2,Yx,part3,part4,Yc,Tryz.f51,Y3]
   simp (decide:=true) only [go_sem,Zz,H.get_put,H.Zi,Za,Yi,reduceIte,Nat.reduceAdd,Nat.reduceMul,h7,h6,h5,h1,h3,hg,c1,q1,w1,w2,w3,ap,Xi,geo2,Gb,Ff,Fe,cW,Nat.zero_add,bld6,bs1,J6,Ot,Zt]
   rfl) ?_
  show Goes K Tryz.prog 73 none (.loop (q51 [1,1,1,1,1,0,1,2,2,1,0,2,1,0,1,2,2])) _ _ _ _
  rw[←D8]
  refine ih (c+1) _ _ (by omega) ?_ ?_ ?_ ?_
  ·rw[Zxi,←List.append_assoc]
   refine st.grow hpn hlt ?_ ?_
   ·simp (decide:=true) only [Zn,reduceIte,h1]
   ·simp (decide:=true) only [Zn,reduceIte]
    rfl
  ·simp (decide:=true) only [Zn,reduceIte,h6]
  ·simp (decide:=true) only [Zn,reduceIte]
  ·simp (decide:=true) only [Zn,reduceIte]
theorem all6 {gr sz ino jr:Nat} (F:Fine gr sz ino jr) (a:Nat) (ha:a<gr) (p:Nat) (h0:Go.Ev.H) (hp:h0.get p=some (.row 4 [Y6 gr sz ino jr] false)) (B:List (List C)) (hB:B.length≤2100):∀ (k d:Nat) (ts:Zx) (h:Go.Ev.H),2+ino / 4+d+k=sz→AllSt p h0 (B++daL a ino d) ts h→Zq ts 6=.w (.c (.int .i64 a))→Zq ts 8=.w (.c (.int .i64 ((2+ino / 4+d:Nat):Int))) →
  Goes K Tryz.prog 73 none (q51 [1,1,1,1,1,0,1,2,2,1,0,2,1,1,1,2]) [] ts h fun x ds' ts' h'=>x=.exit 6∧ds'=[]∧AllSt p h0 (B++daL a ino (sz - (2+ino / 4))) ts' h'∧Zq ts' 6=.w (.c (.int .i64 a))∧Zq ts' 5=Zq ts 5:=by
 obtain⟨g1,g2,g3,g4,g5,g6,g7,g8,g9,g10,g11⟩:=F
 intro k
 induction k with
 | zero =>
  intro d ts h hd st h6 h8
  have ed:d=sz - (2+ino / 4):=by omega
  subst ed
  have hg:h.get p=some (.row 4 [[.int .i64 gr,.int .i64 sz,.int .i64 ino,.int .i64 jr]] false):=(st.keep p (Nat.le_refl _)).trans hp
  have h1:=st.p1
  have c1:decide (((2+ino / 4+(sz - (2+ino / 4)):Nat):Int)<(sz:Int))=false:=decide_eq_false (by omega)
  show Goes K Tryz.prog 73 none (q51 [1,1,1,1,1,0,1,2,2,1,0,2,1,1,1,2]) _ _ _ _
  rw[D7]
  refine Goes.loop ?_
  show Goes K Tryz.prog 73 none (q51 [1,1,1,1,1,0,1,2,2,1,0,2,1,1,1,2,2]) _ _ _ _
  rw[F6]
  refine Goes.seq ?_
  show Goes K Tryz.prog 73 none (q51 [1,1,1,1,1,0,1,2,2,1,0,2,1,1,1,2,2,0]) _ _ _ _
  rw[Fw]
  refine Goes.seq ?_
  show Goes K Tryz.prog 73 none (q51 [1,1,1,1,1,0,1,2,2,1,0,2,1,1,1,2,2,0,0]) _ _ _ _
  rw[Fa]
  refine Goes.ops2 fits Hh Zc (by
   simp only[q51,piece,part0,part1,part2,Yx,part3,part4,Yc,Tryz.f51,Y3]
   simp (decide:=true) only [go_sem,Zz,H.get_put,H.Zi,Za,Yi,reduceIte,Nat.reduceAdd,Nat.reduceMul,h8,h1,hg,c1,Zad,geo1,Gb,Ff,Fe,cW,Nat.zero_add]
   rfl) ?_
  show Goes K Tryz.prog 73 none (q51 [1,1,1,1,1,0,1,2,2,1,0,2,1,1,1,2,2,0,1]) _ _ _ _
  rw[Ey]
  refine Goes.Wx (by simp (decide:=true) only [Z4,Y5,asC,Zn,reduceIte,Uu,Ju,h8,h1,hg,c1,Zad,geo1,Gb,Ff,Fe,cW,Nat.zero_add]) ?_
  show Goes K Tryz.prog 73 none (q51 [1,1,1,1,1,0,1,2,2,1,0,2,1,1,1,2,2,0,1,4]) _ _ _ _
  rw[Sc]
  refine Goes.exit ?_
  refine⟨rfl,rfl,st.same ?_ ?_,?_,?_⟩
  ·simp (decide:=true) only [Zn,reduceIte]
  ·simp (decide:=true) only [Zn,reduceIte]
  ·simp (decide:=true) only [Zn,reduceIte,h6]
  ·simp (decide:=true) only [Zn,reduceIte]
 | succ k ih =>
  intro d ts h hd st h6 h8
  have hg:h.get p=some (.row 4 [[.int .i64 gr,.int .i64 sz,.int .i64 ino,.int .i64 jr]] false):=(st.keep p (Nat.le_refl _)).trans hp
  have h1:=st.p1
  obtain⟨n,h3,hn,hpn,hlt⟩:=st.sl
  have c1:decide (((2+ino / 4+d:Nat):Int)<(sz:Int))=true:=decide_eq_true (by omega)
  have w1:J8 .i64 (((2+ino / 4+d:Nat):Int)+1)=.int .i64 ((2+ino / 4+(d+1):Nat):Int):=by rw[wrap64 (by omega) (by omega)]; congr 1
  have ap:=grow1 (thing 7 a ((2+ino / 4+d:Nat):Int) 0) hn hlt (by rw[List.length_append,Zsf]; omega)
  simp only[thing] at ap
  show Goes K Tryz.prog 73 none (q51 [1,1,1,1,1,0,1,2,2,1,0,2,1,1,1,2]) _ _ _ _
  rw[D7]
  refine Goes.loop ?_
  show Goes K Tryz.prog 73 none (q51 [1,1,1,1,1,0,1,2,2,1,0,2,1,1,1,2,2]) _ _ _ _
  rw[F6]
  refine Goes.seq ?_
  show Goes K Tryz.prog 73 none (q51 [1,1,1,1,1,0,1,2,2,1,0,2,1,1,1,2,2,0]) _ _ _ _
  rw[Fw]
  refine Goes.seq ?_
  show Goes K Tryz.prog 73 none (q51 [1,1,1,1,1,0,1,2,2,1,0,2,1,1,1,2,2,0,0]) _ _ _ _
  rw[Fa]
  refine Goes.ops2 fits Hh Zc (by
   simp only[q51,piece,part0,part1,part2,Yx,part3,part4,Yc,Tryz.f51,Y3]
   simp (decide:=true) only [go_sem,Zz,H.get_put,H.Zi,Za,Yi,reduceIte,Nat.reduceAdd,Nat.reduceMul,h8,h6,h1,h3,hg,c1,w1,ap,Zad,geo1,Gb,Ff,Fe,cW,Nat.zero_add,bld5,bs1,J6,Ot,Zt]
   rfl) ?_
  show Goes K Tryz.prog 73 none (q51 [1,1,1,1,1,0,1,2,2,1,0,2,1,1,1,2,2,0,1]) _ _ _ _
  rw[Ey]
  refine Goes.Zau (by simp (decide:=true) only [Z4,Y5,asC,Zn,reduceIte,Uu,Ju,h8,h6,h1,h3,hg,c1,w1,ap,Zad,geo1,Gb,Ff,Fe,cW,Nat.zero_add,bld5,bs1,J6,Ot,Zt]) ?_
  show Goes K Tryz.prog 73 none (q51 [1,1,1,1,1,0,1,2,2,1,0,2,1,1,1,2,2,0,1,3]) _ _ _ _
  rw[Sb]
  refine Goes.skip ?_
  show Goes K Tryz.prog 73 none (q51 [1,1,1,1,1,0,1,2,2,1,0,2,1,1,1,2,2,1]) _ _ _ _
  rw[Vi]
  refine Goes.seq ?_
  show Goes K Tryz.prog 73 none (q51 [1,1,1,1,1,0,1,2,2,1,0,2,1,1,1,2,2,1,0]) _ _ _ _
  rw[S9]
  refine Goes.block ?_
  show Goes K Tryz.prog 73 none (q51 [1,1,1,1,1,0,1,2,2,1,0,2,1,1,1,2,2,1,0,2]) _ _ _ _
  rw[Ry]
  refine Goes.ops2 fits Hh Zc (by
   simp only[q51,piece,part0,part1,part2,Yx,part3,part4,Yc,Tryz.f51,Y3]
   simp (decide:=true) only [go_sem,Zz,H.get_put,H.Zi,Za,Yi,reduceIte,Nat.reduceAdd,Nat.reduceMul,h8,h6,h1,h3,hg,c1,w1,ap,Zad,geo1,Gb,Ff,Fe,cW,Nat.zero_add,bld5,bs1,J6,Ot,Zt]
   rfl) ?_
  show Goes K Tryz.prog 73 none (q51 [1,1,1,1,1,0,1,2,2,1,0,2,1,1,1,2,2,1,1]) _ _ _ _
  rw[Sw]
  refine Goes.ops2 fits Hh Zc (by
   simp only[q51,piece,part0,part1,part2,Yx,part3,part4,Yc,Tryz.f51,Y3]
   simp (decide:=true) only [go_sem,Zz,H.get_put,H.Zi,Za,Yi,reduceIte,Nat.reduceAdd,Nat.reduceMul,h8,h6,h1,h3,hg,c1,w1,ap,Zad,geo1,Gb,Ff,Fe,cW,Nat.zero_add,bld5,bs1,J6,Ot,Zt]
   rfl) ?_
  show Goes K Tryz.prog 73 none (.loop (q51 [1,1,1,1,1,0,1,2,2,1,0,2,1,1,1,2,2])) _ _ _ _
  rw[←D7]
  refine (ih (d+1) _ _ (by omega) ?_ ?_ ?_).mono ?_
  ·rw[Zwp,←List.append_assoc]
   refine st.grow hpn hlt ?_ ?_
   ·simp (decide:=true) only [Zn,reduceIte,h1]
   ·simp (decide:=true) only [Zn,reduceIte]
    rfl
  ·simp (decide:=true) only [Zn,reduceIte,h6]
  ·simp (decide:=true) only [Zn,reduceIte]
  ·rintro x ds' ts' h' ⟨e1,e2,e3,e4,e5⟩
   refine⟨e1,e2,e3,e4,?_⟩
   rw[e5]
   simp (decide:=true) only [Zn,reduceIte]
theorem all2 {gr sz ino jr:Nat} (F:Fine gr sz ino jr) (p:Nat) (h0:Go.Ev.H) (hp:h0.get p=some (.row 4 [Y6 gr sz ino jr] false)):∀ (k a:Nat) (ts:Zx) (h:Go.Ev.H),a+k=gr→AllSt p h0 (jrL jr++O0 sz ino a) ts h→Zq ts 6=.w (.c (.int .i64 a))→Zq ts 5=.w (.c (.int .i64 ((1+a * ino:Nat):Int))) →
  Goes K Tryz.prog 73 none (q51 [1,1,1,1,1,0,1,2]) [] ts h fun x ds' ts' h'=>x=.exit 2∧ds'=[]∧AllSt p h0 (Zmh gr sz ino jr) ts' h':=by
 have F':=F
 obtain⟨g1,g2,g3,g4,g5,g6,g7,g8,g9,g10,g11⟩:=F
 intro k
 induction k with
 | zero =>
  intro a ts h ha st h6 h5
  have ea:a=gr:=by omega
  subst ea
  have hg:h.get p=some (.row 4 [[.int .i64 a,.int .i64 sz,.int .i64 ino,.int .i64 jr]] false):=(st.keep p (Nat.le_refl _)).trans hp
  have h1:=st.p1
  have c1:decide ((a:Int)<(a:Int))=false:=decide_eq_false (by omega)
  show Goes K Tryz.prog 73 none (q51 [1,1,1,1,1,0,1,2]) _ _ _ _
  rw[Xa]
  refine Goes.loop ?_
  show Goes K Tryz.prog 73 none (q51 [1,1,1,1,1,0,1,2,2]) _ _ _ _
  rw[Zal]
  refine Goes.seq ?_
  show Goes K Tryz.prog 73 none (q51 [1,1,1,1,1,0,1,2,2,0]) _ _ _ _
  rw[X8]
  refine Goes.seq ?_
  show Goes K Tryz.prog 73 none (q51 [1,1,1,1,1,0,1,2,2,0,0]) _ _ _ _
  rw[Xm]
  refine Goes.ops2 fits Hh Zc (by
   simp only[q51,piece,part0,part1,part2,Yx,part3,part4,Yc,Tryz.f51,Y3]
   simp (decide:=true) only [go_sem,Zz,H.get_put,H.Zi,Za,Yi,reduceIte,Nat.reduceAdd,Nat.reduceMul,h6,h1,hg,c1,Zap,geo0,Gb,Ff,Fe,cW,Nat.zero_add]
   rfl) ?_
  show Goes K Tryz.prog 73 none (q51 [1,1,1,1,1,0,1,2,2,0,1]) _ _ _ _
  rw[Xk]
  refine Goes.Wx (by simp (decide:=true) only [Z4,Y5,asC,Zn,reduceIte,Uu,Ju,h6,h1,hg,c1,Zap,geo0,Gb,Ff,Fe,cW,Nat.zero_add]) ?_
  show Goes K Tryz.prog 73 none (q51 [1,1,1,1,1,0,1,2,2,0,1,4]) _ _ _ _
  rw[Zd9]
  refine Goes.exit ?_
  refine⟨rfl,rfl,st.same ?_ ?_⟩
  ·simp (decide:=true) only [Zn,reduceIte]
  ·simp (decide:=true) only [Zn,reduceIte]
 | succ k ih =>
  intro a ts h ha st h6 h5
  have hm:a * sz≤gr * sz:=Nat.mul_le_mul (by omega) (Nat.le_refl _)
  have hm2:(a+1) * sz≤gr * sz:=Nat.mul_le_mul (by omega) (Nat.le_refl _)
  rw[Nat.succ_mul] at hm2
  have hlen:(jrL jr++O0 sz ino a).length=2+jr+a * sz:=by rw[List.length_append,Zk2,Zng g10]
  have hg:h.get p=some (.row 4 [[.int .i64 gr,.int .i64 sz,.int .i64 ino,.int .i64 jr]] false):=(st.keep p (Nat.le_refl _)).trans hp
  have h1:=st.p1
  obtain⟨n,h3,hn,hpn,hlt⟩:=st.sl
  have c1:decide ((a:Int)<(gr:Int))=true:=decide_eq_true (by omega)
  have ap:=grow2 (thing 4 a 0 0) (thing 5 a 1 0) hn hlt (by rw[hlen]; omega)
  simp only[thing] at ap
  show Goes K Tryz.prog 73 none (q51 [1,1,1,1,1,0,1,2]) _ _ _ _
  rw[Xa]
  refine Goes.loop ?_
  show Goes K Tryz.prog 73 none (q51 [1,1,1,1,1,0,1,2,2]) _ _ _ _
  rw[Zal]
  refine Goes.seq ?_
  show Goes K Tryz.prog 73 none (q51 [1,1,1,1,1,0,1,2,2,0]) _ _ _ _
  rw[X8]
  refine Goes.seq ?_
  show Goes K Tryz.prog 73 none (q51 [1,1,1,1,1,0,1,2,2,0,0]) _ _ _ _
  rw[Xm]
  refine Goes.ops2 fits Hh Zc (by
   simp only[q51,piece,part0,part1,part2,Yx,part3,part4,Yc,Tryz.f51,Y3]
   simp (decide:=true) only [go_sem,Zz,H.get_put,H.Zi,Za,Yi,reduceIte,Nat.reduceAdd,Nat.reduceMul,h6,h1,h3,hg,c1,ap,Zap,geo0,Gb,Ff,Fe,cW,Nat.zero_add,bld4,bld5,bs2,J6,Ot,Zt]
   rfl) ?_
  show Goes K Tryz.prog 73 none (q51 [1,1,1,1,1,0,1,2,2,0,1]) _ _ _ _
  rw[Xk]
  refine Goes.Zau (by simp (decide:=true) only [Z4,Y5,asC,Zn,reduceIte,Uu,Ju,h6,h1,h3,hg,c1,ap,Zap,geo0,Gb,Ff,Fe,cW,Nat.zero_add,bld4,bld5,bs2,J6,Ot,Zt]) ?_
  show Goes K Tryz.prog 73 none (q51 [1,1,1,1,1,0,1,2,2,0,1,3]) _ _ _ _
  rw[Zd6]
  refine Goes.skip ?_
  show Goes K Tryz.prog 73 none (q51 [1,1,1,1,1,0,1,2,2,1]) _ _ _ _
  rw[Zh1]
  refine Goes.seq ?_
  show Goes K Tryz.prog 73 none (q51 [1,1,1,1,1,0,1,2,2,1,0]) _ _ _ _
  rw[Zff]
  refine Goes.block ?_
  show Goes K Tryz.prog 73 none (q51 [1,1,1,1,1,0,1,2,2,1,0,2]) _ _ _ _
  rw[Zd3]
  refine Goes.seq ?_
  show Goes K Tryz.prog 73 none (q51 [1,1,1,1,1,0,1,2,2,1,0,2,0]) _ _ _ _
  rw[Zcw]
  refine Goes.ops2 fits Hh Zc (by
   simp only[q51,piece,part0,part1,part2,Yx,part3,part4,Yc,Tryz.f51,Y3]
   simp (decide:=true) only [go_sem,Zz,H.get_put,H.Zi,Za,Yi,reduceIte,Nat.reduceAdd,Nat.reduceMul,h6,h1,h3,hg,c1,ap,Zap,geo0,Gb,Ff,Fe,cW,Nat.zero_add,bld4,bld5,bs2,J6,Ot,Zt]
   rfl) ?_
  show Goes K Tryz.prog 73 none (q51 [1,1,1,1,1,0,1,2,2,1,0,2,1]) _ _ _ _
  rw[Zb9]
  refine Goes.seq ?_
  show Goes K Tryz.prog 73 none (q51 [1,1,1,1,1,0,1,2,2,1,0,2,1,0]) _ _ _ _
  rw[Zay]
  refine Goes.seq ?_
  show Goes K Tryz.prog 73 none (q51 [1,1,1,1,1,0,1,2,2,1,0,2,1,0,0]) _ _ _ _
  rw[Q8]
  refine Goes.ops2 fits Hh Zc (by
   simp only[q51,piece,part0,part1,part2,Yx,part3,part4,Yc,Tryz.f51,Y3]
   simp (decide:=true) only [go_sem,Zz,H.get_put,H.Zi,Za,Yi,reduceIte,Nat.reduceAdd,Nat.reduceMul,h6,h1,h3,hg,c1,ap,Zap,geo0,Gb,Ff,Fe,cW,Nat.zero_add,bld4,bld5,bs2,J6,Ot,Zt]
   rfl) ?_
  show Goes K Tryz.prog 73 none (q51 [1,1,1,1,1,0,1,2,2,1,0,2,1,0,1]) _ _ _ _
  rw[Q4]
  refine Goes.block ((all4 Hh F' a (by omega) p h0 hp ((jrL jr++O0 sz ino a)++[thing 4 a 0 0,thing 5 a 1 0]) (by rw[List.length_append,hlen]; show _+2≤_; omega) (ino / 4) 0 _ _ (by omega) ?_ ?_ ?_ ?_).mono ?_)
  ·rw[show inL a ino 0=[] from rfl,List.append_nil]
   refine st.grow hpn hlt ?_ ?_
   ·simp (decide:=true) only [Zn,reduceIte,h1]
   ·simp (decide:=true) only [Zn,reduceIte]
    rfl
  ·simp (decide:=true) only [Zn,reduceIte,h6]
  ·simp (decide:=true) only [Zn,reduceIte]
   rfl
  ·simp (decide:=true) only [Zn,reduceIte,h5]
   rfl
  rintro x ds' ts1 h2 ⟨rfl,rfl,st1,f6,f5⟩
  have hg1:h2.get p=some (.row 4 [[.int .i64 gr,.int .i64 sz,.int .i64 ino,.int .i64 jr]] false):=(st1.keep p (Nat.le_refl _)).trans hp
  have f1:=st1.p1
  have q1:M0 .i64 (ino:Int) 4=some (.int .i64 ((ino / 4:Nat):Int)):=by
   show some (J8 .i64 ((ino:Int).tdiv 4))=_
   rw[show (ino:Int).tdiv 4=((ino / 4:Nat):Int) from rfl,wrap64 (by omega) (by omega)]
  have w1:J8 .i64 (2+((ino / 4:Nat):Int))=.int .i64 ((2+ino / 4:Nat):Int):=by rw[wrap64 (by omega) (by omega)]; congr 1
  show Goes K Tryz.prog 73 none (q51 [1,1,1,1,1,0,1,2,2,1,0,2,1,1]) _ _ _ _
  rw[Za1]
  refine Goes.seq ?_
  show Goes K Tryz.prog 73 none (q51 [1,1,1,1,1,0,1,2,2,1,0,2,1,1,0]) _ _ _ _
  rw[Q6]
  refine Goes.ops2 fits Hh Zc (by
   simp only[q51,piece,part0,part1,part2,Yx,part3,part4,Yc,Tryz.f51,Y3]
   simp (decide:=true) only [go_sem,Zz,H.get_put,H.Zi,Za,Yi,reduceIte,Nat.reduceAdd,Nat.reduceMul,f1,hg1,q1,w1,Xi,geo2,Gb,Ff,Fe,cW,Nat.zero_add]
   rfl) ?_
  show Goes K Tryz.prog 73 none (q51 [1,1,1,1,1,0,1,2,2,1,0,2,1,1,1]) _ _ _ _
  rw[Q3]
  refine Goes.block ((all6 Hh F' a (by omega) p h0 hp (((jrL jr++O0 sz ino a)++[thing 4 a 0 0,thing 5 a 1 0])++inL a ino (ino / 4)) (by rw[List.length_append,List.length_append,hlen,Zkz]; show _+2+_≤_; omega) (sz - (2+ino / 4)) 0 _ _ (by omega) ?_ ?_ ?_).mono ?_)
  ·rw[show daL a ino 0=[] from rfl,List.append_nil]
   refine st1.same ?_ ?_
   ·simp (decide:=true) only [Zn,reduceIte]
   ·simp (decide:=true) only [Zn,reduceIte]
  ·simp (decide:=true) only [Zn,reduceIte,f6]
  ·simp (decide:=true) only [Zn,reduceIte]
   rfl
  rintro x ds' ts2 h3' ⟨rfl,rfl,st2,k6,k5⟩
  have k5':Zq ts2 5=.w (.c (.int .i64 ((1+(a+1) * ino:Nat):Int))):=by
   rw[k5]
   simp (decide:=true) only [Zn,reduceIte,f5]
  have w2:J8 .i64 ((a:Int)+1)=.int .i64 ((a+1:Nat):Int):=by rw[wrap64 (by omega) (by omega)]; congr 1
  show Goes K Tryz.prog 73 none (q51 [1,1,1,1,1,0,1,2,2,1,1]) _ _ _ _
  rw[Zfd]
  refine Goes.ops2 fits Hh Zc (by
   simp only[q51,piece,part0,part1,part2,Yx,part3,part4,Yc,Tryz.f51,Y3]
   simp (decide:=true) only [go_sem,Zz,H.get_put,H.Zi,Za,Yi,reduceIte,Nat.reduceAdd,Nat.reduceMul,k6,w2]
   rfl) ?_
  show Goes K Tryz.prog 73 none (.loop (q51 [1,1,1,1,1,0,1,2,2])) _ _ _ _
  rw[←Xa]
  refine ih (a+1) _ _ (by omega) ?_ ?_ ?_
  ·have e:jrL jr++O0 sz ino (a+1)=(jrL jr++O0 sz ino a)++[thing 4 a 0 0,thing 5 a 1 0]++inL a ino (ino / 4)++daL a ino (sz - (2+ino / 4)):=by
    rw[Zb3,grL]
    simp only[List.append_assoc]
   rw[e]
   refine st2.same ?_ ?_
   ·simp (decide:=true) only [Zn,reduceIte]
   ·simp (decide:=true) only [Zn,reduceIte]
  ·simp (decide:=true) only [Zn,reduceIte]
  ·simp (decide:=true) only [Zn,reduceIte,k5']
omit Hh in
theorem Ztt (gr sz ino jr:Nat):(Zmh gr sz ino jr).all (fun l=>l.all C.flat)=true:=by
 rw[List.all_eq_true]
 intro l hl
 simp only[Zmh,jrL,O0,grL,inL,daL,List.mem_append,List.mem_flatMap,List.mem_map,List.mem_cons,List.not_mem_nil,or_false] at hl
 rcases hl with ((h|h)|⟨_,_,h⟩)|⟨_,_,((h|h)|⟨_,_,h⟩)|⟨_,_,h⟩⟩<;>subst h<;>rfl
theorem Z50 {gr sz ino jr:Nat} (F:Fine gr sz ino jr) (h:Go.Ev.H):Ze K Tryz.prog 51 [.g (Y6 gr sz ino jr)] h (.w (.c (.slice h.next 0 (Zmh gr sz ino jr).length 4))) (h.new (.row 4 (Zmh gr sz ino jr) false)):=by
 refine Ze.tidy ⟨_,Tryz.func51,by kernel_rfl,of_decide_eq_true (by kernel_rfl)⟩ fun tidy=>?_
 suffices hs:Goes K Tryz.prog 73 none (q51 []) [] (Gp 0 [.g (Y6 gr sz ino jr)] .nil) h fun x ds ts h1=>∃ n,h.next≤n∧n<h1.next∧h1.get n=some (.row 4 (Zmh gr sz ino jr) false)∧(∀ n,n<h.next→h1.get n=h.get n)∧leave K Tryz.f51 (some (.at x ds ts h1))=some (.val (.w (.c (.slice n 0 (Zmh gr sz ino jr).length 4))) h1) by
  obtain⟨x,ds,ts,h1,g,n,e1,e2,e3,e4,e5⟩:=hs
  exact (Ze.body fits Hh (by kernel_rfl) (by kernel_rfl) (by kernel_rfl) (by kernel_rfl) rfl g e5).row1 e1 e3 (Ztt _ _ _ _) e2 e4
 have e0:Zq (Gp 0 [.g (Y6 gr sz ino jr)] .nil) 0=.w (.g (Y6 gr sz ino jr)):=by rw[Ow]; rfl
 have lg:(Y6 gr sz ino jr).length=4:=rfl
 have rg:Zf 4 [Y6 gr sz ino jr] 0 4=some (Y6 gr sz ino jr):=rfl
 have nslice:Zdm (.slice none 0 0)=some (.w (.c .snil)):=rfl
 have e1:Tryz.f51.results.toList=[.tmp 2]:=rfl
 have mk:=Z2e Hh F (h.new (.row 4 [Y6 gr sz ino jr] false))
 show Goes K Tryz.prog 73 none (q51 []) _ _ _ _
 rw[Z6a]
 refine Goes.seq ?_
 show Goes K Tryz.prog 73 none (q51 [0]) _ _ _ _
 rw[q51_0]
 refine Goes.ops2 fits Hh Zc (by
  simp only[q51,piece,part0,part1,part2,Yx,part3,part4,Yc,Tryz.f51,Y3]
  simp (decide:=true) only [go_sem,Zz,H.get_put,H.Zi,Za,Yi,reduceIte,Nat.reduceAdd,Nat.reduceMul,e0,lg,rg,nslice,Zw,Zm5,Zwx,Zww,gW,bld1,bs2,J6]
  rfl) ?_
 show Goes K Tryz.prog 73 none (q51 [1]) _ _ _ _
 rw[q51_1]
 refine Goes.seq ?_
 show Goes K Tryz.prog 73 none (q51 [1,0]) _ _ _ _
 rw[Z23]
 refine Goes.seq ?_
 show Goes K Tryz.prog 73 none (q51 [1,0,0]) _ _ _ _
 rw[Z0w]
 refine Goes.ops2 fits Hh (Zy Zc mk) (by
  simp only[q51,piece,part0,part1,part2,Yx,part3,part4,Yc,Tryz.f51,Y3]
  simp (decide:=true) only [go_sem,Zz,H.get_put,H.Zi,Za,Yi,reduceIte,Nat.reduceAdd,Nat.reduceMul,Z7,e0,lg,rg,nslice,Zw,Zm5,Zwx,Zww,gW,bld1,bs2,J6]
  rfl) ?_
 show Goes K Tryz.prog 73 none (q51 [1,0,1]) _ _ _ _
 rw[Z07]
 refine Goes.Wx (by simp (decide:=true) only [Z4,Y5,asC,Zn,reduceIte,Uu,Ju,e0,lg,rg,nslice,Zw,Zm5,Zwx,Zww,gW,bld1,bs2,J6]) ?_
 show Goes K Tryz.prog 73 none (q51 [1,0,1,4]) _ _ _ _
 rw[Zxu]
 refine Goes.skip ?_
 show Goes K Tryz.prog 73 none (q51 [1,1]) _ _ _ _
 rw[Z3n]
 refine Goes.seq ?_
 show Goes K Tryz.prog 73 none (q51 [1,1,0]) _ _ _ _
 rw[Z1l]
 refine Goes.ops2 fits Hh Zc (by
  simp only[q51,piece,part0,part1,part2,Yx,part3,part4,Yc,Tryz.f51,Y3]
  simp (decide:=true) only [go_sem,Zz,H.get_put,H.Zi,Za,Yi,reduceIte,Nat.reduceAdd,Nat.reduceMul,e0,lg,rg,nslice,Zw,Zm5,Zwx,Zww,gW,bld1,bs2,J6]
  rfl) ?_
 show Goes K Tryz.prog 73 none (q51 [1,1,1]) _ _ _ _
 rw[Z1m]
 refine Goes.seq ?_
 show Goes K Tryz.prog 73 none (q51 [1,1,1,0]) _ _ _ _
 rw[Zxx]
 refine Goes.seq ?_
 show Goes K Tryz.prog 73 none (q51 [1,1,1,0,0]) _ _ _ _
 rw[Zux]
 refine Goes.ops2 fits Hh Zc (by
  simp only[q51,piece,part0,part1,part2,Yx,part3,part4,Yc,Tryz.f51,Y3]
  simp (decide:=true) only [go_sem,Zz,H.get_put,H.Zi,Za,Yi,reduceIte,Nat.reduceAdd,Nat.reduceMul,e0,lg,rg,nslice,Zw,Zm5,Zwx,Zww,gW,bld1,bs2,J6]
  rfl) ?_
 show Goes K Tryz.prog 73 none (q51 [1,1,1,0,1]) _ _ _ _
 rw[Zvz]
 refine Goes.block ?_
 show Goes K Tryz.prog 73 none (q51 [1,1,1,0,1,2]) _ _ _ _
 have hp:(h.new (.row 4 [Y6 gr sz ino jr] false)).get h.next=some (.row 4 [Y6 gr sz ino jr] false):=by rw[H.Zi,if_pos rfl]
 refine (all1 Hh F h.next (h.new (.row 4 [Y6 gr sz ino jr] false)) hp jr 0 _ _ (by omega) ⟨?_,⟨h.next+1,?_,?_,?_,?_⟩,?_,?_⟩ ?_).mono ?_
 ·simp (decide:=true) only [Zn,reduceIte]
 ·simp (decide:=true) only [Zn,reduceIte,H.Zd]
  rfl
 ·rw[H.Zi,H.Zd,if_pos rfl]
  rfl
 ·omega
 ·rw[H.Zd,H.Zd]; omega
 ·simp only[H.Zd]; omega
 ·intro m hm
  rw[H.Zi,H.Zd,if_neg (by omega)]
 ·simp (decide:=true) only [Zn,reduceIte]
  rfl
 rintro x ds' ts1 h1 ⟨rfl,rfl,st1⟩
 show Goes K Tryz.prog 73 none (q51 [1,1,1,1]) _ _ _ _
 rw[Zx3]
 refine Goes.seq ?_
 show Goes K Tryz.prog 73 none (q51 [1,1,1,1,0]) _ _ _ _
 rw[Zu2]
 refine Goes.ops2 fits Hh Zc (by
  simp only[q51,piece,part0,part1,part2,Yx,part3,part4,Yc,Tryz.f51,Y3]
  simp (decide:=true) only [go_sem,Zz,H.get_put,H.Zi,Za,Yi,reduceIte,Nat.reduceAdd,Nat.reduceMul]
  rfl) ?_
 show Goes K Tryz.prog 73 none (q51 [1,1,1,1,1]) _ _ _ _
 rw[Zvc]
 refine Goes.seq ?_
 show Goes K Tryz.prog 73 none (q51 [1,1,1,1,1,0]) _ _ _ _
 rw[Zq6]
 refine Goes.seq ?_
 show Goes K Tryz.prog 73 none (q51 [1,1,1,1,1,0,0]) _ _ _ _
 rw[Zom]
 refine Goes.ops2 fits Hh Zc (by
  simp only[q51,piece,part0,part1,part2,Yx,part3,part4,Yc,Tryz.f51,Y3]
  simp (decide:=true) only [go_sem,Zz,H.get_put,H.Zi,Za,Yi,reduceIte,Nat.reduceAdd,Nat.reduceMul]
  rfl) ?_
 show Goes K Tryz.prog 73 none (q51 [1,1,1,1,1,0,1]) _ _ _ _
 rw[Zot]
 refine Goes.block ?_
 show Goes K Tryz.prog 73 none (q51 [1,1,1,1,1,0,1,2]) _ _ _ _
 refine (all2 Hh F h.next (h.new (.row 4 [Y6 gr sz ino jr] false)) hp gr 0 _ _ (by omega) ?_ ?_ ?_).mono ?_
 ·rw[show O0 sz ino 0=[] from rfl,List.append_nil]
  refine st1.same ?_ ?_
  ·simp (decide:=true) only [Zn,reduceIte]
  ·simp (decide:=true) only [Zn,reduceIte]
 ·simp (decide:=true) only [Zn,reduceIte]
  rfl
 ·simp (decide:=true) only [Zn,reduceIte]
  rw[Nat.zero_mul]
  rfl
 rintro x ds' ts2 h2 ⟨rfl,rfl,st2⟩
 obtain⟨n,f3,hn,hpn,hlt⟩:=st2.sl
 show Goes K Tryz.prog 73 none (q51 [1,1,1,1,1,1]) _ _ _ _
 rw[Zrt]
 refine Goes.seq ?_
 show Goes K Tryz.prog 73 none (q51 [1,1,1,1,1,1,0]) _ _ _ _
 rw[Zm2]
 refine Goes.ops2 fits Hh Zc (by
  simp only[q51,piece,part0,part1,part2,Yx,part3,part4,Yc,Tryz.f51,Y3]
  simp (decide:=true) only [go_sem,Zz,H.get_put,H.Zi,Za,Yi,reduceIte,Nat.reduceAdd,Nat.reduceMul,f3]
  rfl) ?_
 show Goes K Tryz.prog 73 none (q51 [1,1,1,1,1,1,1]) _ _ _ _
 rw[Zoa]
 refine Goes.ret ?_
 refine⟨n,by omega,hlt,hn,fun m hm=>?_,?_⟩
 ·rw[st2.keep m (by omega),H.Zi,if_neg (by omega)]
 ·simp (decide:=true) only [Ng,Oa,finish,e1,U4,evalW,Y5,asW,Zn,reduceIte,Bu]
end
end Go.Proofs.YtngejdlimkgjfaaGreatDoor
set_option maxRecDepth 100000
set_option maxHeartbeats 4000000
namespace Go.Proofs.YtngejdlimkgjfaaGreatDoor
open Go.Ev
theorem ty101:K.types.get 101=some ti101:=by kernel_rfl
theorem sz101:ti101.size=1:=by rfl
theorem ag101:ti101.agg=false:=by rfl
theorem de101:ti101.desc=(.slice 157):=by rfl
theorem ze101:ti101.zero=(.c (.snil)):=by rfl
theorem by101:ti101.bytes=24:=by rfl
theorem el101:J3 K 101=some ti157:=by kernel_rfl
theorem ty157:K.types.get 157=some ti157:=by kernel_rfl
theorem sz157:ti157.size=4:=by rfl
theorem ag157:ti157.agg=true:=by rfl
theorem fo157_0:Zu K 157 0=some (0,ti5):=by kernel_rfl
theorem fo157_1:Zu K 157 1=some (1,ti3):=by kernel_rfl
theorem fo157_2:Zu K 157 2=some (2,ti3):=by kernel_rfl
theorem fo157_3:Zu K 157 3=some (3,ti3):=by kernel_rfl
theorem bu157 (ps:List (Nat × W)):Yq K 157 (some ps)=gW (Yb K 157 ps ti157.zero.cells):=by kernel_rfl
theorem ze157:ti157.zero=(.g ([.int .u8 0,.int .i64 0,.int .i64 0,.int .i64 0])):=by rfl
theorem by157:ti157.bytes=32:=by rfl
attribute [go_sem] ty101 sz101 ag101 de101 ze101 by101 el101 ty157 sz157 ag157 fo157_0 fo157_1 fo157_2 fo157_3 bu157 ze157 by157
theorem rs15:Tryz.f15.results.toList=[.tmp 2]:=rfl
attribute [go_sem] rs15
def Zcc (a b c d:Int):Bool:=decide (0≤a)&&decide (0≤b)&&decide (0≤c)&&decide (0≤d)&&Jm a.toNat b.toNat c.toNat d.toNat
theorem Zv0 (a b c d:Nat):Zcc a b c d=Jm a b c d:=by
 unfold Zcc
 rw[decide_eq_true (by omega:(0:Int)≤(a:Int)),decide_eq_true (by omega:(0:Int)≤(b:Int)),decide_eq_true (by omega:(0:Int)≤(c:Int)),decide_eq_true (by omega:(0:Int)≤(d:Int))]
 simp only[Bool.true_and,Int.toNat_natCast]
section
variable (Hh:Hearts K Tryz.prog)
include Hh
set_option maxHeartbeats 4000000 in
theorem Zyx (a b c d:Int) (h:Go.Ev.H) (nf:¬(0≤a∧0≤b∧0≤c∧0≤d∧Fine a.toNat b.toNat c.toNat d.toNat)):Ze K Tryz.prog 14 [.g [.int .i64 a,.int .i64 b,.int .i64 c,.int .i64 d]] h (.w (.c (.bool false))) h:=by
 obtain⟨v,h',cc,rfl,hk⟩:∃ v h',Ze K Tryz.prog 14 [.g [.int .i64 a,.int .i64 b,.int .i64 c,.int .i64 d]] h v h'∧v=.w (.c (.bool false))∧∀ m,m<h.next→h'.get m=h.get m:=by
  by_cases c0:a<1
  ·
   refine Ze.Z8 fits Hh (by kernel_rfl) (by kernel_rfl) (by kernel_rfl) (show Tryz.f14.body=some _ from rfl) rfl ?_
   repeat (first|apply Goes.seq|apply Goes.block|apply Goes.loop|apply Goes.skip|apply Goes.exit|apply Goes.ret|((first|apply Goes.Zr|apply Goes.ops2 fits Hh Zc); · simp (maxSteps:=9^6) +decide (disch:=first|omega|(simp only[lens]<;>omega)|decide) only [go_sem,Zf,Za,simprocAttr,read1,Zw]<;>rfl))
   exact⟨_,_,(by simp (maxSteps:=9^6) +decide (disch:=first|omega|(simp only[lens]<;>omega)|decide) only [go_sem,Zf,Za,simprocAttr]<;>rfl),rfl,fun m hm=>by (first|(simp (discharger:=omega) only [H.get_put,H.Zi,H.Zm,H.Zd,H.Zg,H.Zj,if_neg]; done)|(simp only[H.get_put,H.Zi,H.Zm,H.Zd,H.Zg,H.Zj]; (repeat' split)<;>first|rfl|(exfalso; omega)|omega))⟩
  by_cases c1:4<a
  ·
   refine Ze.Z8 fits Hh (by kernel_rfl) (by kernel_rfl) (by kernel_rfl) (show Tryz.f14.body=some _ from rfl) rfl ?_
   repeat (first|apply Goes.seq|apply Goes.block|apply Goes.loop|apply Goes.skip|apply Goes.exit|apply Goes.ret|((first|apply Goes.Zr|apply Goes.ops2 fits Hh Zc); · simp (maxSteps:=9^6) +decide (disch:=first|omega|(simp only[lens]<;>omega)|decide) only [go_sem,Zf,Za,simprocAttr,read1,Zw]<;>rfl))
   exact⟨_,_,(by simp (maxSteps:=9^6) +decide (disch:=first|omega|(simp only[lens]<;>omega)|decide) only [go_sem,Zf,Za,simprocAttr]<;>rfl),rfl,fun m hm=>by (first|(simp (discharger:=omega) only [H.get_put,H.Zi,H.Zm,H.Zd,H.Zg,H.Zj,if_neg]; done)|(simp only[H.get_put,H.Zi,H.Zm,H.Zd,H.Zg,H.Zj]; (repeat' split)<;>first|rfl|(exfalso; omega)|omega))⟩
  by_cases c2:b<16
  ·
   refine Ze.Z8 fits Hh (by kernel_rfl) (by kernel_rfl) (by kernel_rfl) (show Tryz.f14.body=some _ from rfl) rfl ?_
   repeat (first|apply Goes.seq|apply Goes.block|apply Goes.loop|apply Goes.skip|apply Goes.exit|apply Goes.ret|((first|apply Goes.Zr|apply Goes.ops2 fits Hh Zc); · simp (maxSteps:=9^6) +decide (disch:=first|omega|(simp only[lens]<;>omega)|decide) only [go_sem,Zf,Za,simprocAttr,read1,Zw]<;>rfl))
   exact⟨_,_,(by simp (maxSteps:=9^6) +decide (disch:=first|omega|(simp only[lens]<;>omega)|decide) only [go_sem,Zf,Za,simprocAttr]<;>rfl),rfl,fun m hm=>by (first|(simp (discharger:=omega) only [H.get_put,H.Zi,H.Zm,H.Zd,H.Zg,H.Zj,if_neg]; done)|(simp only[H.get_put,H.Zi,H.Zm,H.Zd,H.Zg,H.Zj]; (repeat' split)<;>first|rfl|(exfalso; omega)|omega))⟩
  by_cases c3:512<b
  ·
   refine Ze.Z8 fits Hh (by kernel_rfl) (by kernel_rfl) (by kernel_rfl) (show Tryz.f14.body=some _ from rfl) rfl ?_
   repeat (first|apply Goes.seq|apply Goes.block|apply Goes.loop|apply Goes.skip|apply Goes.exit|apply Goes.ret|((first|apply Goes.Zr|apply Goes.ops2 fits Hh Zc); · simp (maxSteps:=9^6) +decide (disch:=first|omega|(simp only[lens]<;>omega)|decide) only [go_sem,Zf,Za,simprocAttr,read1,Zw]<;>rfl))
   exact⟨_,_,(by simp (maxSteps:=9^6) +decide (disch:=first|omega|(simp only[lens]<;>omega)|decide) only [go_sem,Zf,Za,simprocAttr]<;>rfl),rfl,fun m hm=>by (first|(simp (discharger:=omega) only [H.get_put,H.Zi,H.Zm,H.Zd,H.Zg,H.Zj,if_neg]; done)|(simp only[H.get_put,H.Zi,H.Zm,H.Zd,H.Zg,H.Zj]; (repeat' split)<;>first|rfl|(exfalso; omega)|omega))⟩
  by_cases c4:c<4
  ·
   refine Ze.Z8 fits Hh (by kernel_rfl) (by kernel_rfl) (by kernel_rfl) (show Tryz.f14.body=some _ from rfl) rfl ?_
   repeat (first|apply Goes.seq|apply Goes.block|apply Goes.loop|apply Goes.skip|apply Goes.exit|apply Goes.ret|((first|apply Goes.Zr|apply Goes.ops2 fits Hh Zc); · simp (maxSteps:=9^6) +decide (disch:=first|omega|(simp only[lens]<;>omega)|decide) only [go_sem,Zf,Za,simprocAttr,read1,Zw]<;>rfl))
   exact⟨_,_,(by simp (maxSteps:=9^6) +decide (disch:=first|omega|(simp only[lens]<;>omega)|decide) only [go_sem,Zf,Za,simprocAttr]<;>rfl),rfl,fun m hm=>by (first|(simp (discharger:=omega) only [H.get_put,H.Zi,H.Zm,H.Zd,H.Zg,H.Zj,if_neg]; done)|(simp only[H.get_put,H.Zi,H.Zm,H.Zd,H.Zg,H.Zj]; (repeat' split)<;>first|rfl|(exfalso; omega)|omega))⟩
  by_cases c5:64<c
  ·
   refine Ze.Z8 fits Hh (by kernel_rfl) (by kernel_rfl) (by kernel_rfl) (show Tryz.f14.body=some _ from rfl) rfl ?_
   repeat (first|apply Goes.seq|apply Goes.block|apply Goes.loop|apply Goes.skip|apply Goes.exit|apply Goes.ret|((first|apply Goes.Zr|apply Goes.ops2 fits Hh Zc); · simp (maxSteps:=9^6) +decide (disch:=first|omega|(simp only[lens]<;>omega)|decide) only [go_sem,Zf,Za,simprocAttr,read1,Zw]<;>rfl))
   exact⟨_,_,(by simp (maxSteps:=9^6) +decide (disch:=first|omega|(simp only[lens]<;>omega)|decide) only [go_sem,Zf,Za,simprocAttr]<;>rfl),rfl,fun m hm=>by (first|(simp (discharger:=omega) only [H.get_put,H.Zi,H.Zm,H.Zd,H.Zg,H.Zj,if_neg]; done)|(simp only[H.get_put,H.Zi,H.Zm,H.Zd,H.Zg,H.Zj]; (repeat' split)<;>first|rfl|(exfalso; omega)|omega))⟩
  obtain⟨c,rfl⟩:=Int.eq_ofNat_of_zero_le (show 0≤c by omega)
  by_cases c6:c % 4≠0
  ·
   refine Ze.Z8 fits Hh (by kernel_rfl) (by kernel_rfl) (by kernel_rfl) (show Tryz.f14.body=some _ from rfl) rfl ?_
   repeat (first|apply Goes.seq|apply Goes.block|apply Goes.loop|apply Goes.skip|apply Goes.exit|apply Goes.ret|((first|apply Goes.Zr|apply Goes.ops2 fits Hh Zc); · simp (maxSteps:=9^6) +decide (disch:=first|omega|(simp only[lens]<;>omega)|decide) only [go_sem,Zf,Za,simprocAttr,read1,Zw]<;>rfl))
   exact⟨_,_,(by simp (maxSteps:=9^6) +decide (disch:=first|omega|(simp only[lens]<;>omega)|decide) only [go_sem,Zf,Za,simprocAttr]<;>rfl),rfl,fun m hm=>by (first|(simp (discharger:=omega) only [H.get_put,H.Zi,H.Zm,H.Zd,H.Zg,H.Zj,if_neg]; done)|(simp only[H.get_put,H.Zi,H.Zm,H.Zd,H.Zg,H.Zj]; (repeat' split)<;>first|rfl|(exfalso; omega)|omega))⟩
  have c6:c % 4=0:=by omega
  by_cases c7:d<40
  ·
   refine Ze.Z8 fits Hh (by kernel_rfl) (by kernel_rfl) (by kernel_rfl) (show Tryz.f14.body=some _ from rfl) rfl ?_
   repeat (first|apply Goes.seq|apply Goes.block|apply Goes.loop|apply Goes.skip|apply Goes.exit|apply Goes.ret|((first|apply Goes.Zr|apply Goes.ops2 fits Hh Zc); · simp (maxSteps:=9^6) +decide (disch:=first|omega|(simp only[lens]<;>omega)|decide) only [go_sem,Zf,Za,simprocAttr,read1,Zw]<;>rfl))
   exact⟨_,_,(by simp (maxSteps:=9^6) +decide (disch:=first|omega|(simp only[lens]<;>omega)|decide) only [go_sem,Zf,Za,simprocAttr]<;>rfl),rfl,fun m hm=>by (first|(simp (discharger:=omega) only [H.get_put,H.Zi,H.Zm,H.Zd,H.Zg,H.Zj,if_neg]; done)|(simp only[H.get_put,H.Zi,H.Zm,H.Zd,H.Zg,H.Zj]; (repeat' split)<;>first|rfl|(exfalso; omega)|omega))⟩
  by_cases c8:256<d
  ·
   refine Ze.Z8 fits Hh (by kernel_rfl) (by kernel_rfl) (by kernel_rfl) (show Tryz.f14.body=some _ from rfl) rfl ?_
   repeat (first|apply Goes.seq|apply Goes.block|apply Goes.loop|apply Goes.skip|apply Goes.exit|apply Goes.ret|((first|apply Goes.Zr|apply Goes.ops2 fits Hh Zc); · simp (maxSteps:=9^6) +decide (disch:=first|omega|(simp only[lens]<;>omega)|decide) only [go_sem,Zf,Za,simprocAttr,read1,Zw]<;>rfl))
   exact⟨_,_,(by simp (maxSteps:=9^6) +decide (disch:=first|omega|(simp only[lens]<;>omega)|decide) only [go_sem,Zf,Za,simprocAttr]<;>rfl),rfl,fun m hm=>by (first|(simp (discharger:=omega) only [H.get_put,H.Zi,H.Zm,H.Zd,H.Zg,H.Zj,if_neg]; done)|(simp only[H.get_put,H.Zi,H.Zm,H.Zd,H.Zg,H.Zj]; (repeat' split)<;>first|rfl|(exfalso; omega)|omega))⟩
  obtain⟨a,rfl⟩:=Int.eq_ofNat_of_zero_le (show 0≤a by omega)
  obtain⟨b,rfl⟩:=Int.eq_ofNat_of_zero_le (show 0≤b by omega)
  obtain⟨d,rfl⟩:=Int.eq_ofNat_of_zero_le (show 0≤d by omega)
  have gm:(a:Int) * (b:Int)=((a * b:Nat):Int):=rfl
  have hm:a * b≤4 * 512:=Nat.mul_le_mul (by omega) (by omega)
  by_cases e1:b<3+c / 4
  ·
   refine Ze.Z8 fits Hh (by kernel_rfl) (by kernel_rfl) (by kernel_rfl) (show Tryz.f14.body=some _ from rfl) rfl ?_
   repeat (first|apply Goes.seq|apply Goes.block|apply Goes.loop|apply Goes.skip|apply Goes.exit|apply Goes.ret|((first|apply Goes.Zr|apply Goes.ops2 fits Hh Zc); · simp (maxSteps:=9^6) +decide (disch:=first|omega|(simp only[lens]<;>omega)|decide) only [go_sem,Zf,Za,simprocAttr,gm,read1,Zw]<;>rfl))
   exact⟨_,_,(by simp (maxSteps:=9^6) +decide (disch:=first|omega|(simp only[lens]<;>omega)|decide) only [go_sem,Zf,Za,simprocAttr]<;>rfl),rfl,fun m hm=>by (first|(simp (discharger:=omega) only [H.get_put,H.Zi,H.Zm,H.Zd,H.Zg,H.Zj,if_neg]; done)|(simp only[H.get_put,H.Zi,H.Zm,H.Zd,H.Zg,H.Zj]; (repeat' split)<;>first|rfl|(exfalso; omega)|omega))⟩
  by_cases e2:2048<2+d+a * b
  ·
   refine Ze.Z8 fits Hh (by kernel_rfl) (by kernel_rfl) (by kernel_rfl) (show Tryz.f14.body=some _ from rfl) rfl ?_
   repeat (first|apply Goes.seq|apply Goes.block|apply Goes.loop|apply Goes.skip|apply Goes.exit|apply Goes.ret|((first|apply Goes.Zr|apply Goes.ops2 fits Hh Zc); · simp (maxSteps:=9^6) +decide (disch:=first|omega|(simp only[lens]<;>omega)|decide) only [go_sem,Zf,Za,simprocAttr,gm,read1,Zw]<;>rfl))
   exact⟨_,_,(by simp (maxSteps:=9^6) +decide (disch:=first|omega|(simp only[lens]<;>omega)|decide) only [go_sem,Zf,Za,simprocAttr]<;>rfl),rfl,fun m hm=>by (first|(simp (discharger:=omega) only [H.get_put,H.Zi,H.Zm,H.Zd,H.Zg,H.Zj,if_neg]; done)|(simp only[H.get_put,H.Zi,H.Zm,H.Zd,H.Zg,H.Zj]; (repeat' split)<;>first|rfl|(exfalso; omega)|omega))⟩
  refine absurd ⟨by omega,by omega,by omega,by omega,?_⟩ nf
  simp only[Int.toNat_natCast]
  exact⟨by omega,by omega,by omega,by omega,by omega,by omega,by omega,by omega,by omega,by omega,by omega⟩
 exact cc.quiet rfl hk
noncomputable def Zyy:Kn1:=fun args h=>match args with
 | [.g [.int .i64 a,.int .i64 b,.int .i64 c,.int .i64 d]]=>some (.w (.c (.bool (Zcc a b c d))),h)
 | _=>none
theorem Sq {args:List W} {h h':Go.Ev.H} {v:V} (e:Zyy args h=some (v,h')):Ze K Tryz.prog 14 args h v h':=by
 unfold Zyy at e
 split at e
 ·rename_i a b c d
  cases e
  by_cases hp:0≤a∧0≤b∧0≤c∧0≤d
  ·obtain⟨p1,p2,p3,p4⟩:=hp
   obtain⟨a,rfl⟩:=Int.eq_ofNat_of_zero_le p1
   obtain⟨b,rfl⟩:=Int.eq_ofNat_of_zero_le p2
   obtain⟨c,rfl⟩:=Int.eq_ofNat_of_zero_le p3
   obtain⟨d,rfl⟩:=Int.eq_ofNat_of_zero_le p4
   rw[Zv0]
   cases hf:Jm a b c d with
   | true=>exact Z2e Hh (Z0 hf) h
   | false=>exact Zyx Hh a b c d h (fun q=>by
     have:=Zrd q.2.2.2.2
     simp only[Int.toNat_natCast] at this
     rw[this] at hf
     cases hf)
  ·have e0:Zcc a b c d=false:=by
    unfold Zcc
    by_cases p1:0≤a
    ·by_cases p2:0≤b
     ·by_cases p3:0≤c
      ·by_cases p4:0≤d
       ·exact absurd ⟨p1,p2,p3,p4⟩ hp
       ·rw[decide_eq_false p4]; simp
      ·rw[decide_eq_false p3]; simp
     ·rw[decide_eq_false p2]; simp
    ·rw[decide_eq_false p1]; simp
   rw[e0]
   exact Zyx Hh a b c d h (fun q=>hp ⟨q.1,q.2.1,q.2.2.1,q.2.2.2.1⟩)
 ·cases e
noncomputable def Zf0:Kn1:=fun args h=>match args with
 | [.g [.int .i64 a,.int .i64 b,.int .i64 c,.int .i64 d]]=>(Ul a).bind fun a=>(Ul b).bind fun b=>(Ul c).bind fun c=>(Ul d).bind fun d=>Y9 (Jm a b c d) (some (.w (.c (.int .i64 ((2+d+a * b:Nat):Int))),h))
 | _=>none
theorem Z5f (n off len:Nat):Un K 101 (.c (.slice n off len 4))=true:=by kernel_rfl
omit Hh in
theorem Zw7 {gr sz ino jr:Nat} (F:Fine gr sz ino jr):(Zmh gr sz ino jr).length=2+jr+gr * sz:=by
 have h1:∀ a,(grL sz ino a).length=sz:=fun a=>by
  have:=F.fit
  simp only[grL,List.length_append,List.length_cons,List.length_nil,inL,daL,List.length_map,List.length_range]
  omega
 have h2:∀ k,(O0 sz ino k).length=k * sz:=by
  intro k
  induction k with
  | zero=>simp [O0]
  | succ k ih =>
   have:O0 sz ino (k+1)=O0 sz ino k++grL sz ino k:=by simp [O0,List.range_succ]
   rw[this,List.length_append,ih,h1,Nat.succ_mul]
 rw[Zmh,List.length_append,Zk2,h2]
theorem Et {args:List W} {h h':Go.Ev.H} {v:V} (e:Zf0 args h=some (v,h')):Ze K Tryz.prog 15 args h v h':=by
 unfold Zf0 at e
 split at e
 ·obtain⟨a,ha,e⟩:=Zo e
  obtain⟨b,hb,e⟩:=Zo e
  obtain⟨c,hc,e⟩:=Zo e
  obtain⟨d,hd,e⟩:=Zo e
  obtain⟨f,e⟩:=Zv.1 e
  cases e
  rw[Z6 ha,Z6 hb,Z6 hc,Z6 hd]
  have F:=Z0 f
  have c1:=Z50 Hh F (h.new (.row 4 [Y6 a b c d] false))
  rw[Zw7 F] at c1
  have fl:=Z5f
  obtain⟨v,h',cc,rfl,hk⟩:∃ v h',Ze K Tryz.prog 15 [.g [.int .i64 (a:Int),.int .i64 (b:Int),.int .i64 (c:Int),.int .i64 (d:Int)]] h v h'∧v=.w (.c (.int .i64 ((2+d+a * b:Nat):Int)))∧∀ m,m<h.next→h'.get m=h.get m:=by
   refine Ze.Z8 fits Hh (by kernel_rfl) (by kernel_rfl) (by kernel_rfl) (show Tryz.f15.body=some _ from rfl) rfl ?_
   iterate 3 (first|apply Goes.seq|(apply Goes.ops2 fits Hh Zc; · simp (maxSteps:=9^6) +decide (disch:=first|omega|(simp only[lens]<;>omega)|decide) only [go_sem,Zf,Za,simprocAttr,Y6,fl,read1,Zw,Zt,Y8]<;>rfl))
   iterate 2 (first|apply Goes.ret|(apply Goes.ops2 fits Hh (Zy Zc c1); · simp (maxSteps:=9^6) +decide (disch:=first|omega|(simp only[lens]<;>omega)|decide) only [go_sem,Zf,Za,simprocAttr,Z7,Y6,fl,read1,Zw,Zt,Y8]<;>rfl))
   exact⟨_,_,(by simp (maxSteps:=9^6) +decide (disch:=first|omega|(simp only[lens]<;>omega)|decide) only [go_sem,Zf,Za,simprocAttr]<;>rfl),rfl,fun m hm=>by (first|(simp (discharger:=omega) only [H.get_put,H.Zi,H.Zm,H.Zd,H.Zg,H.Zj,if_neg]; done)|(simp only[H.get_put,H.Zi,H.Zm,H.Zd,H.Zg,H.Zj]; (repeat' split)<;>first|rfl|(exfalso; omega)|omega))⟩
  exact cc.quiet rfl hk
 ·cases e
end
attribute [go_sem] Zyy Zf0
end Go.Proofs.YtngejdlimkgjfaaGreatDoor
set_option maxRecDepth 100000
set_option maxHeartbeats 4000000
namespace Go.Proofs.YtngejdlimkgjfaaGreatDoor
open Go.Ev
theorem ty24:K.types.get 24=some ti24:=by kernel_rfl
theorem sz24:ti24.size=1:=by rfl
theorem ag24:ti24.agg=false:=by rfl
theorem de24:ti24.desc=(.slice 337):=by rfl
theorem ze24:ti24.zero=(.c (.snil)):=by rfl
theorem by24:ti24.bytes=24:=by rfl
theorem el24:J3 K 24=some ti337:=by kernel_rfl
theorem ty26:K.types.get 26=some ti26:=by kernel_rfl
theorem sz26:ti26.size=6:=by rfl
theorem ag26:ti26.agg=true:=by rfl
theorem fo26_0:Zu K 26 0=some (0,ti23):=by kernel_rfl
theorem fo26_1:Zu K 26 1=some (4,ti5):=by kernel_rfl
theorem fo26_2:Zu K 26 2=some (5,ti24):=by kernel_rfl
theorem bu26 (ps:List (Nat × W)):Yq K 26 (some ps)=gW (Yb K 26 ps ti26.zero.cells):=by kernel_rfl
theorem ze26:ti26.zero=(.g ([.int .i64 0,.int .i64 0,.int .i64 0,.int .i64 0,.int .u8 0,.snil])):=by rfl
theorem by26:ti26.bytes=64:=by rfl
theorem ty337:K.types.get 337=some ti337:=by kernel_rfl
theorem sz337:ti337.size=3:=by rfl
theorem ag337:ti337.agg=true:=by rfl
theorem fo337_0:Zu K 337 0=some (0,ti3):=by kernel_rfl
theorem fo337_1:Zu K 337 1=some (1,ti3):=by kernel_rfl
theorem fo337_2:Zu K 337 2=some (2,ti5):=by kernel_rfl
theorem bu337 (ps:List (Nat × W)):Yq K 337 (some ps)=gW (Yb K 337 ps ti337.zero.cells):=by kernel_rfl
theorem ze337:ti337.zero=(.g ([.int .i64 0,.int .i64 0,.int .u8 0])):=by rfl
theorem by337:ti337.bytes=24:=by rfl
attribute [go_sem] ty24 sz24 ag24 de24 ze24 by24 el24 ty26 sz26 ag26 fo26_0 fo26_1 fo26_2 bu26 ze26 by26 ty337 sz337 ag337 fo337_0 fo337_1 fo337_2 bu337 ze337 by337
theorem rs5:Tryz.f5.results.toList=[.tmp 2]:=rfl
attribute [go_sem] rs5
def Zy6 (a b c d md len:Int):Bool:=Zcc a b c d&&decide (2+d+a * b≤400)&&decide (1≤md)&&decide (md≤3)&&decide (len≤20)
section
variable (Hh:Hearts K Tryz.prog)
include Hh
theorem Z3u {S:C} {len:Int} (lf:Un K 24 (.c S)=true) (hln:∀ h,Y8 K h 24 (.c S)=some (.int .i64 len)) (a b c d md:Int) (h:Go.Ev.H):Ze K Tryz.prog 5 [.g [.int .i64 a,.int .i64 b,.int .i64 c,.int .i64 d,.int .u8 md,S]] h (.w (.c (.bool (Zy6 a b c d md len)))) h:=by
 have r6:Zf 6 [[.int .i64 a,.int .i64 b,.int .i64 c,.int .i64 d,.int .u8 md,S]] 0 4=some [.int .i64 a,.int .i64 b,.int .i64 c,.int .i64 d]:=rfl
 obtain⟨v,h',cc,rfl,hk⟩:∃ v h',Ze K Tryz.prog 5 [.g [.int .i64 a,.int .i64 b,.int .i64 c,.int .i64 d,.int .u8 md,S]] h v h'∧v=.w (.c (.bool (Zy6 a b c d md len)))∧∀ m,m<h.next→h'.get m=h.get m:=by
  unfold Zy6
  rcases hf:Zcc a b c d with _|_
  ·
   refine Ze.Z8 fits Hh (by kernel_rfl) (by kernel_rfl) (by kernel_rfl) (show Tryz.f5.body=some _ from rfl) rfl ?_
   repeat (first|apply Goes.seq|apply Goes.block|apply Goes.loop|apply Goes.skip|apply Goes.exit|apply Goes.ret|((first|apply Goes.Zr|apply Goes.ops2 fits Hh (Zh (Zh Zc (fun _ _ _ _=>Sq Hh)) (fun _ _ _ _=>Et Hh))); · simp (maxSteps:=9^6) +decide (disch:=first|omega|(simp only[lens]<;>omega)|decide) only [go_sem,Za,simprocAttr,hf,r6,lf,hln,read1,Zw,Zt]<;>rfl))
   exact⟨_,_,(by simp (maxSteps:=9^6) +decide (disch:=first|omega|(simp only[lens]<;>omega)|decide) only [go_sem,Za,simprocAttr]<;>rfl),rfl,fun m hm=>by (first|(simp (discharger:=omega) only [H.get_put,H.Zi,H.Zm,H.Zd,H.Zg,H.Zj,if_neg]; done)|(simp only[H.get_put,H.Zi,H.Zm,H.Zd,H.Zg,H.Zj]; (repeat' split)<;>first|rfl|(exfalso; omega)|omega))⟩
  ·have hf':=hf
   unfold Zcc at hf'
   simp only[Bool.and_eq_true,decide_eq_true_eq] at hf'
   obtain⟨⟨⟨⟨p1,p2⟩,p3⟩,p4⟩,fb⟩:=hf'
   obtain⟨a,rfl⟩:=Int.eq_ofNat_of_zero_le p1
   obtain⟨b,rfl⟩:=Int.eq_ofNat_of_zero_le p2
   obtain⟨c,rfl⟩:=Int.eq_ofNat_of_zero_le p3
   obtain⟨d,rfl⟩:=Int.eq_ofNat_of_zero_le p4
   simp only[Int.toNat_natCast] at fb
   have gm:2+(d:Int)+(a:Int) * (b:Int)=((2+d+a * b:Nat):Int):=rfl
   rw[gm]
   by_cases c1:((2+d+a * b:Nat):Int)≤400
   ·by_cases c2:1≤md
    ·by_cases c3:md≤3
     ·by_cases c4:len≤20
      ·
       refine Ze.Z8 fits Hh (by kernel_rfl) (by kernel_rfl) (by kernel_rfl) (show Tryz.f5.body=some _ from rfl) rfl ?_
       repeat (first|apply Goes.seq|apply Goes.block|apply Goes.loop|apply Goes.skip|apply Goes.exit|apply Goes.ret|((first|apply Goes.Zr|apply Goes.ops2 fits Hh (Zh (Zh Zc (fun _ _ _ _=>Sq Hh)) (fun _ _ _ _=>Et Hh))); · simp (maxSteps:=9^6) +decide (disch:=first|omega|(simp only[lens]<;>omega)|decide) only [go_sem,Za,simprocAttr,hf,fb,r6,lf,hln,read1,Zw,Zt]<;>rfl))
       exact⟨_,_,(by simp (maxSteps:=9^6) +decide (disch:=first|omega|(simp only[lens]<;>omega)|decide) only [go_sem,Za,simprocAttr]<;>rfl),by rw[decide_eq_true c1,decide_eq_true c2,decide_eq_true c3,decide_eq_true c4]<;>rfl,fun m hm=>by (first|(simp (discharger:=omega) only [H.get_put,H.Zi,H.Zm,H.Zd,H.Zg,H.Zj,if_neg]; done)|(simp only[H.get_put,H.Zi,H.Zm,H.Zd,H.Zg,H.Zj]; (repeat' split)<;>first|rfl|(exfalso; omega)|omega))⟩
      ·
       refine Ze.Z8 fits Hh (by kernel_rfl) (by kernel_rfl) (by kernel_rfl) (show Tryz.f5.body=some _ from rfl) rfl ?_
       repeat (first|apply Goes.seq|apply Goes.block|apply Goes.loop|apply Goes.skip|apply Goes.exit|apply Goes.ret|((first|apply Goes.Zr|apply Goes.ops2 fits Hh (Zh (Zh Zc (fun _ _ _ _=>Sq Hh)) (fun _ _ _ _=>Et Hh))); · simp (maxSteps:=9^6) +decide (disch:=first|omega|(simp only[lens]<;>omega)|decide) only [go_sem,Za,simprocAttr,hf,fb,r6,lf,hln,read1,Zw,Zt]<;>rfl))
       exact⟨_,_,(by simp (maxSteps:=9^6) +decide (disch:=first|omega|(simp only[lens]<;>omega)|decide) only [go_sem,Za,simprocAttr]<;>rfl),by rw[decide_eq_true c1,decide_eq_true c2,decide_eq_true c3,decide_eq_false c4]<;>rfl,fun m hm=>by (first|(simp (discharger:=omega) only [H.get_put,H.Zi,H.Zm,H.Zd,H.Zg,H.Zj,if_neg]; done)|(simp only[H.get_put,H.Zi,H.Zm,H.Zd,H.Zg,H.Zj]; (repeat' split)<;>first|rfl|(exfalso; omega)|omega))⟩
     ·
      refine Ze.Z8 fits Hh (by kernel_rfl) (by kernel_rfl) (by kernel_rfl) (show Tryz.f5.body=some _ from rfl) rfl ?_
      repeat (first|apply Goes.seq|apply Goes.block|apply Goes.loop|apply Goes.skip|apply Goes.exit|apply Goes.ret|((first|apply Goes.Zr|apply Goes.ops2 fits Hh (Zh (Zh Zc (fun _ _ _ _=>Sq Hh)) (fun _ _ _ _=>Et Hh))); · simp (maxSteps:=9^6) +decide (disch:=first|omega|(simp only[lens]<;>omega)|decide) only [go_sem,Za,simprocAttr,hf,fb,r6,lf,hln,read1,Zw,Zt]<;>rfl))
      exact⟨_,_,(by simp (maxSteps:=9^6) +decide (disch:=first|omega|(simp only[lens]<;>omega)|decide) only [go_sem,Za,simprocAttr]<;>rfl),by rw[decide_eq_true c1,decide_eq_true c2,decide_eq_false c3]<;>rfl,fun m hm=>by (first|(simp (discharger:=omega) only [H.get_put,H.Zi,H.Zm,H.Zd,H.Zg,H.Zj,if_neg]; done)|(simp only[H.get_put,H.Zi,H.Zm,H.Zd,H.Zg,H.Zj]; (repeat' split)<;>first|rfl|(exfalso; omega)|omega))⟩
    ·
     refine Ze.Z8 fits Hh (by kernel_rfl) (by kernel_rfl) (by kernel_rfl) (show Tryz.f5.body=some _ from rfl) rfl ?_
     repeat (first|apply Goes.seq|apply Goes.block|apply Goes.loop|apply Goes.skip|apply Goes.exit|apply Goes.ret|((first|apply Goes.Zr|apply Goes.ops2 fits Hh (Zh (Zh Zc (fun _ _ _ _=>Sq Hh)) (fun _ _ _ _=>Et Hh))); · simp (maxSteps:=9^6) +decide (disch:=first|omega|(simp only[lens]<;>omega)|decide) only [go_sem,Za,simprocAttr,hf,fb,r6,lf,hln,read1,Zw,Zt]<;>rfl))
     exact⟨_,_,(by simp (maxSteps:=9^6) +decide (disch:=first|omega|(simp only[lens]<;>omega)|decide) only [go_sem,Za,simprocAttr]<;>rfl),by rw[decide_eq_true c1,decide_eq_false c2]<;>rfl,fun m hm=>by (first|(simp (discharger:=omega) only [H.get_put,H.Zi,H.Zm,H.Zd,H.Zg,H.Zj,if_neg]; done)|(simp only[H.get_put,H.Zi,H.Zm,H.Zd,H.Zg,H.Zj]; (repeat' split)<;>first|rfl|(exfalso; omega)|omega))⟩
   ·
    refine Ze.Z8 fits Hh (by kernel_rfl) (by kernel_rfl) (by kernel_rfl) (show Tryz.f5.body=some _ from rfl) rfl ?_
    repeat (first|apply Goes.seq|apply Goes.block|apply Goes.loop|apply Goes.skip|apply Goes.exit|apply Goes.ret|((first|apply Goes.Zr|apply Goes.ops2 fits Hh (Zh (Zh Zc (fun _ _ _ _=>Sq Hh)) (fun _ _ _ _=>Et Hh))); · simp (maxSteps:=9^6) +decide (disch:=first|omega|(simp only[lens]<;>omega)|decide) only [go_sem,Za,simprocAttr,hf,fb,r6,lf,hln,read1,Zw,Zt]<;>rfl))
    exact⟨_,_,(by simp (maxSteps:=9^6) +decide (disch:=first|omega|(simp only[lens]<;>omega)|decide) only [go_sem,Za,simprocAttr]<;>rfl),by rw[decide_eq_false c1]<;>rfl,fun m hm=>by (first|(simp (discharger:=omega) only [H.get_put,H.Zi,H.Zm,H.Zd,H.Zg,H.Zj,if_neg]; done)|(simp only[H.get_put,H.Zi,H.Zm,H.Zd,H.Zg,H.Zj]; (repeat' split)<;>first|rfl|(exfalso; omega)|omega))⟩
 exact cc.quiet rfl hk
end
end Go.Proofs.YtngejdlimkgjfaaGreatDoor
