/- quernref05: May, All of a geometry that may be, on the evaluator's level. -/
import Derived.Test.YtmdibcklpmeleaaGreatDoorGeo0
import Derived.Test.YtmdibcklpmeleaaGreatDoorEvC
import Derived.Test.YtmdibcklpmeleaaGreatDoorNew2
set_option linter.unusedSimpArgs false
set_option linter.unusedVariables false
set_option linter.unusedSectionVars false
set_option maxRecDepth 100000
namespace Go.Proofs.YtmdibcklpmeleaaGreatDoor
open Go.Ev
theorem Zuh:K.types.get 23=some ti23:=by kernel_rfl
theorem Z6l:ti23.size=4:=rfl
theorem Z4x:ti23.agg=true:=rfl
theorem Zb3:Zr K 23 0=some (0,ti3):=by kernel_rfl
theorem Zb1:Zr K 23 1=some (1,ti3):=by kernel_rfl
theorem Ww:Zr K 23 2=some (2,ti3):=by kernel_rfl
theorem Zbr:Zr K 23 3=some (3,ti3):=by kernel_rfl
theorem geo0 (a b c d:C):read1 4 [[a,b,c,d]] 0=some a:=rfl
theorem geo1 (a b c d:C):read1 4 [[a,b,c,d]] 1=some b:=rfl
theorem geo2 (a b c d:C):read1 4 [[a,b,c,d]] 2=some c:=rfl
theorem geo3 (a b c d:C):read1 4 [[a,b,c,d]] 3=some d:=rfl
noncomputable def q13 (p:List Nat):Code:=piece p (Z5 Tryz.f13)
theorem Yim:q13 []=.seq (q13 [0]) (q13 [1]):=by kernel_rfl
theorem q13_0:q13 [0]=.region 0 (Zt (q13 [0])) false:=by kernel_rfl
theorem q13_1:q13 [1]=.seq (q13 [1,0]) (q13 [1,1]):=by kernel_rfl
theorem Ye4:q13 [1,0]=.seq (q13 [1,0,0]) (q13 [1,0,1]):=by kernel_rfl
theorem Yar:q13 [1,0,0]=.region 1 (Zt (q13 [1,0,0])) false:=by kernel_rfl
theorem Ybe:q13 [1,0,1]=.cond (.tmp 46) (q13 [1,0,1,3]) (q13 [1,0,1,4]):=by kernel_rfl
theorem Z7l:q13 [1,0,1,4]=.skip:=by kernel_rfl
theorem Yfr:q13 [1,1]=.seq (q13 [1,1,0]) (q13 [1,1,1]):=by kernel_rfl
theorem Ya3:q13 [1,1,0]=.region 3 (Zt (q13 [1,1,0])) false:=by kernel_rfl
theorem Z9g:q13 [1,1,1]=.ret:=by kernel_rfl
noncomputable def q47 (p:List Nat):Code:=piece p (Z5 Tryz.f47)
theorem Yig:q47 []=.seq (q47 [0]) (q47 [1]):=by kernel_rfl
theorem q47_0:q47 [0]=.region 0 (Zt (q47 [0])) false:=by kernel_rfl
theorem q47_1:q47 [1]=.seq (q47 [1,0]) (q47 [1,1]):=by kernel_rfl
theorem Ydp:q47 [1,0]=.seq (q47 [1,0,0]) (q47 [1,0,1]):=by kernel_rfl
theorem Yb3:q47 [1,0,0]=.region 1 (Zt (q47 [1,0,0])) false:=by kernel_rfl
theorem Yb2:q47 [1,0,1]=.cond (.tmp 11) (q47 [1,0,1,3]) (q47 [1,0,1,4]):=by kernel_rfl
theorem Z7d:q47 [1,0,1,4]=.skip:=by kernel_rfl
theorem Yez:q47 [1,1]=.seq (q47 [1,1,0]) (q47 [1,1,1]):=by kernel_rfl
theorem Yb9:q47 [1,1,0]=.region 3 (Zt (q47 [1,1,0])) false:=by kernel_rfl
theorem Z95:q47 [1,1,1]=.seq (q47 [1,1,1,0]) (q47 [1,1,1,1]):=by kernel_rfl
theorem Z8t:q47 [1,1,1,0]=.seq (q47 [1,1,1,0,0]) (q47 [1,1,1,0,1]):=by kernel_rfl
theorem Z3w:q47 [1,1,1,0,0]=.region 4 (Zt (q47 [1,1,1,0,0])) false:=by kernel_rfl
theorem Z3o:q47 [1,1,1,0,1]=.block 0 (q47 [1,1,1,0,1,2]):=by kernel_rfl
theorem Zcm:q47 [1,1,1,0,1,2]=.loop (q47 [1,1,1,0,1,2,2]):=by kernel_rfl
theorem Zhd:q47 [1,1,1,0,1,2,2]=.seq (q47 [1,1,1,0,1,2,2,0]) (q47 [1,1,1,0,1,2,2,1]):=by kernel_rfl
theorem Zdn:q47 [1,1,1,0,1,2,2,0]=.seq (q47 [1,1,1,0,1,2,2,0,0]) (q47 [1,1,1,0,1,2,2,0,1]):=by kernel_rfl
theorem Zb2:q47 [1,1,1,0,1,2,2,0,0]=.region 5 (Zt (q47 [1,1,1,0,1,2,2,0,0])) false:=by kernel_rfl
theorem Zb7:q47 [1,1,1,0,1,2,2,0,1]=.cond (.tmp 18) (q47 [1,1,1,0,1,2,2,0,1,3]) (q47 [1,1,1,0,1,2,2,0,1,4]):=by kernel_rfl
theorem Zmc:q47 [1,1,1,0,1,2,2,0,1,3]=.skip:=by kernel_rfl
theorem Zlf:q47 [1,1,1,0,1,2,2,0,1,4]=.exit 0:=by kernel_rfl
theorem Zrx:q47 [1,1,1,0,1,2,2,1]=.seq (q47 [1,1,1,0,1,2,2,1,0]) (q47 [1,1,1,0,1,2,2,1,1]):=by kernel_rfl
theorem Zm2:q47 [1,1,1,0,1,2,2,1,0]=.block 1 (q47 [1,1,1,0,1,2,2,1,0,2]):=by kernel_rfl
theorem Zlk:q47 [1,1,1,0,1,2,2,1,0,2]=.region 7 (Zt (q47 [1,1,1,0,1,2,2,1,0,2])) false:=by kernel_rfl
theorem Znk:q47 [1,1,1,0,1,2,2,1,1]=.region 6 (Zt (q47 [1,1,1,0,1,2,2,1,1])) false:=by kernel_rfl
theorem Z5y:q47 [1,1,1,1]=.seq (q47 [1,1,1,1,0]) (q47 [1,1,1,1,1]):=by kernel_rfl
theorem Z2g:q47 [1,1,1,1,0]=.region 8 (Zt (q47 [1,1,1,1,0])) false:=by kernel_rfl
theorem Z08:q47 [1,1,1,1,1]=.seq (q47 [1,1,1,1,1,0]) (q47 [1,1,1,1,1,1]):=by kernel_rfl
theorem Zwb:q47 [1,1,1,1,1,0]=.seq (q47 [1,1,1,1,1,0,0]) (q47 [1,1,1,1,1,0,1]):=by kernel_rfl
theorem Zua:q47 [1,1,1,1,1,0,0]=.region 9 (Zt (q47 [1,1,1,1,1,0,0])) false:=by kernel_rfl
theorem Zu6:q47 [1,1,1,1,1,0,1]=.block 2 (q47 [1,1,1,1,1,0,1,2]):=by kernel_rfl
theorem X4:q47 [1,1,1,1,1,0,1,2]=.loop (q47 [1,1,1,1,1,0,1,2,2]):=by kernel_rfl
theorem Zbx:q47 [1,1,1,1,1,0,1,2,2]=.seq (q47 [1,1,1,1,1,0,1,2,2,0]) (q47 [1,1,1,1,1,0,1,2,2,1]):=by kernel_rfl
theorem Qq:q47 [1,1,1,1,1,0,1,2,2,0]=.seq (q47 [1,1,1,1,1,0,1,2,2,0,0]) (q47 [1,1,1,1,1,0,1,2,2,0,1]):=by kernel_rfl
theorem W9:q47 [1,1,1,1,1,0,1,2,2,0,0]=.region 10 (Zt (q47 [1,1,1,1,1,0,1,2,2,0,0])) false:=by kernel_rfl
theorem Qa:q47 [1,1,1,1,1,0,1,2,2,0,1]=.cond (.tmp 29) (q47 [1,1,1,1,1,0,1,2,2,0,1,3]) (q47 [1,1,1,1,1,0,1,2,2,0,1,4]):=by kernel_rfl
theorem Zf6:q47 [1,1,1,1,1,0,1,2,2,0,1,3]=.skip:=by kernel_rfl
theorem Zgp:q47 [1,1,1,1,1,0,1,2,2,0,1,4]=.exit 2:=by kernel_rfl
theorem Zjf:q47 [1,1,1,1,1,0,1,2,2,1]=.seq (q47 [1,1,1,1,1,0,1,2,2,1,0]) (q47 [1,1,1,1,1,0,1,2,2,1,1]):=by kernel_rfl
theorem Zhx:q47 [1,1,1,1,1,0,1,2,2,1,0]=.block 3 (q47 [1,1,1,1,1,0,1,2,2,1,0,2]):=by kernel_rfl
theorem Zfr:q47 [1,1,1,1,1,0,1,2,2,1,0,2]=.seq (q47 [1,1,1,1,1,0,1,2,2,1,0,2,0]) (q47 [1,1,1,1,1,0,1,2,2,1,0,2,1]):=by kernel_rfl
theorem Zd0:q47 [1,1,1,1,1,0,1,2,2,1,0,2,0]=.region 12 (Zt (q47 [1,1,1,1,1,0,1,2,2,1,0,2,0])) false:=by kernel_rfl
theorem Zfj:q47 [1,1,1,1,1,0,1,2,2,1,0,2,1]=.seq (q47 [1,1,1,1,1,0,1,2,2,1,0,2,1,0]) (q47 [1,1,1,1,1,0,1,2,2,1,0,2,1,1]):=by kernel_rfl
theorem Zcy:q47 [1,1,1,1,1,0,1,2,2,1,0,2,1,0]=.seq (q47 [1,1,1,1,1,0,1,2,2,1,0,2,1,0,0]) (q47 [1,1,1,1,1,0,1,2,2,1,0,2,1,0,1]):=by kernel_rfl
theorem Zbm:q47 [1,1,1,1,1,0,1,2,2,1,0,2,1,0,0]=.region 13 (Zt (q47 [1,1,1,1,1,0,1,2,2,1,0,2,1,0,0])) false:=by kernel_rfl
theorem Zbk:q47 [1,1,1,1,1,0,1,2,2,1,0,2,1,0,1]=.block 4 (q47 [1,1,1,1,1,0,1,2,2,1,0,2,1,0,1,2]):=by kernel_rfl
theorem Ed:q47 [1,1,1,1,1,0,1,2,2,1,0,2,1,0,1,2]=.loop (q47 [1,1,1,1,1,0,1,2,2,1,0,2,1,0,1,2,2]):=by kernel_rfl
theorem L8:q47 [1,1,1,1,1,0,1,2,2,1,0,2,1,0,1,2,2]=.seq (q47 [1,1,1,1,1,0,1,2,2,1,0,2,1,0,1,2,2,0]) (q47 [1,1,1,1,1,0,1,2,2,1,0,2,1,0,1,2,2,1]):=by kernel_rfl
theorem Lr:q47 [1,1,1,1,1,0,1,2,2,1,0,2,1,0,1,2,2,0]=.seq (q47 [1,1,1,1,1,0,1,2,2,1,0,2,1,0,1,2,2,0,0]) (q47 [1,1,1,1,1,0,1,2,2,1,0,2,1,0,1,2,2,0,1]):=by kernel_rfl
theorem Fu:q47 [1,1,1,1,1,0,1,2,2,1,0,2,1,0,1,2,2,0,0]=.region 14 (Zt (q47 [1,1,1,1,1,0,1,2,2,1,0,2,1,0,1,2,2,0,0])) false:=by kernel_rfl
theorem Fz:q47 [1,1,1,1,1,0,1,2,2,1,0,2,1,0,1,2,2,0,1]=.cond (.tmp 42) (q47 [1,1,1,1,1,0,1,2,2,1,0,2,1,0,1,2,2,0,1,3]) (q47 [1,1,1,1,1,0,1,2,2,1,0,2,1,0,1,2,2,0,1,4]):=by kernel_rfl
theorem Tg:q47 [1,1,1,1,1,0,1,2,2,1,0,2,1,0,1,2,2,0,1,3]=.skip:=by kernel_rfl
theorem Tk:q47 [1,1,1,1,1,0,1,2,2,1,0,2,1,0,1,2,2,0,1,4]=.exit 4:=by kernel_rfl
theorem Wm:q47 [1,1,1,1,1,0,1,2,2,1,0,2,1,0,1,2,2,1]=.seq (q47 [1,1,1,1,1,0,1,2,2,1,0,2,1,0,1,2,2,1,0]) (q47 [1,1,1,1,1,0,1,2,2,1,0,2,1,0,1,2,2,1,1]):=by kernel_rfl
theorem Tz:q47 [1,1,1,1,1,0,1,2,2,1,0,2,1,0,1,2,2,1,0]=.block 5 (q47 [1,1,1,1,1,0,1,2,2,1,0,2,1,0,1,2,2,1,0,2]):=by kernel_rfl
theorem S9:q47 [1,1,1,1,1,0,1,2,2,1,0,2,1,0,1,2,2,1,0,2]=.seq (q47 [1,1,1,1,1,0,1,2,2,1,0,2,1,0,1,2,2,1,0,2,0]) (q47 [1,1,1,1,1,0,1,2,2,1,0,2,1,0,1,2,2,1,0,2,1]):=by kernel_rfl
theorem R7:q47 [1,1,1,1,1,0,1,2,2,1,0,2,1,0,1,2,2,1,0,2,0]=.region 16 (Zt (q47 [1,1,1,1,1,0,1,2,2,1,0,2,1,0,1,2,2,1,0,2,0])) false:=by kernel_rfl
theorem R3:q47 [1,1,1,1,1,0,1,2,2,1,0,2,1,0,1,2,2,1,0,2,1]=.region 17 (Zt (q47 [1,1,1,1,1,0,1,2,2,1,0,2,1,0,1,2,2,1,0,2,1])) false:=by kernel_rfl
theorem V4:q47 [1,1,1,1,1,0,1,2,2,1,0,2,1,0,1,2,2,1,1]=.region 15 (Zt (q47 [1,1,1,1,1,0,1,2,2,1,0,2,1,0,1,2,2,1,1])) false:=by kernel_rfl
theorem Zc6:q47 [1,1,1,1,1,0,1,2,2,1,0,2,1,1]=.seq (q47 [1,1,1,1,1,0,1,2,2,1,0,2,1,1,0]) (q47 [1,1,1,1,1,0,1,2,2,1,0,2,1,1,1]):=by kernel_rfl
theorem Zbd:q47 [1,1,1,1,1,0,1,2,2,1,0,2,1,1,0]=.region 18 (Zt (q47 [1,1,1,1,1,0,1,2,2,1,0,2,1,1,0])) false:=by kernel_rfl
theorem Zbi:q47 [1,1,1,1,1,0,1,2,2,1,0,2,1,1,1]=.block 6 (q47 [1,1,1,1,1,0,1,2,2,1,0,2,1,1,1,2]):=by kernel_rfl
theorem Ea:q47 [1,1,1,1,1,0,1,2,2,1,0,2,1,1,1,2]=.loop (q47 [1,1,1,1,1,0,1,2,2,1,0,2,1,1,1,2,2]):=by kernel_rfl
theorem Lx:q47 [1,1,1,1,1,0,1,2,2,1,0,2,1,1,1,2,2]=.seq (q47 [1,1,1,1,1,0,1,2,2,1,0,2,1,1,1,2,2,0]) (q47 [1,1,1,1,1,0,1,2,2,1,0,2,1,1,1,2,2,1]):=by kernel_rfl
theorem Lb:q47 [1,1,1,1,1,0,1,2,2,1,0,2,1,1,1,2,2,0]=.seq (q47 [1,1,1,1,1,0,1,2,2,1,0,2,1,1,1,2,2,0,0]) (q47 [1,1,1,1,1,0,1,2,2,1,0,2,1,1,1,2,2,0,1]):=by kernel_rfl
theorem Fp:q47 [1,1,1,1,1,0,1,2,2,1,0,2,1,1,1,2,2,0,0]=.region 19 (Zt (q47 [1,1,1,1,1,0,1,2,2,1,0,2,1,1,1,2,2,0,0])) false:=by kernel_rfl
theorem Fw:q47 [1,1,1,1,1,0,1,2,2,1,0,2,1,1,1,2,2,0,1]=.cond (.tmp 63) (q47 [1,1,1,1,1,0,1,2,2,1,0,2,1,1,1,2,2,0,1,3]) (q47 [1,1,1,1,1,0,1,2,2,1,0,2,1,1,1,2,2,0,1,4]):=by kernel_rfl
theorem Td:q47 [1,1,1,1,1,0,1,2,2,1,0,2,1,1,1,2,2,0,1,3]=.skip:=by kernel_rfl
theorem Tj:q47 [1,1,1,1,1,0,1,2,2,1,0,2,1,1,1,2,2,0,1,4]=.exit 6:=by kernel_rfl
theorem X7:q47 [1,1,1,1,1,0,1,2,2,1,0,2,1,1,1,2,2,1]=.seq (q47 [1,1,1,1,1,0,1,2,2,1,0,2,1,1,1,2,2,1,0]) (q47 [1,1,1,1,1,0,1,2,2,1,0,2,1,1,1,2,2,1,1]):=by kernel_rfl
theorem Vu:q47 [1,1,1,1,1,0,1,2,2,1,0,2,1,1,1,2,2,1,0]=.block 7 (q47 [1,1,1,1,1,0,1,2,2,1,0,2,1,1,1,2,2,1,0,2]):=by kernel_rfl
theorem Tq:q47 [1,1,1,1,1,0,1,2,2,1,0,2,1,1,1,2,2,1,0,2]=.region 21 (Zt (q47 [1,1,1,1,1,0,1,2,2,1,0,2,1,1,1,2,2,1,0,2])) false:=by kernel_rfl
theorem V8:q47 [1,1,1,1,1,0,1,2,2,1,0,2,1,1,1,2,2,1,1]=.region 20 (Zt (q47 [1,1,1,1,1,0,1,2,2,1,0,2,1,1,1,2,2,1,1])) false:=by kernel_rfl
theorem Zif:q47 [1,1,1,1,1,0,1,2,2,1,1]=.region 11 (Zt (q47 [1,1,1,1,1,0,1,2,2,1,1])) false:=by kernel_rfl
theorem Zvp:q47 [1,1,1,1,1,1]=.seq (q47 [1,1,1,1,1,1,0]) (q47 [1,1,1,1,1,1,1]):=by kernel_rfl
theorem Zsd:q47 [1,1,1,1,1,1,0]=.region 22 (Zt (q47 [1,1,1,1,1,1,0])) false:=by kernel_rfl
theorem Zsm:q47 [1,1,1,1,1,1,1]=.ret:=by kernel_rfl
section
variable (Hh:Hearts K Tryz.prog)
include Hh
theorem Yde {gr sz ino jr:Nat} (F:Fine gr sz ino jr) (h:Go.Ev.H):Zd K Tryz.prog 13 [.g (Yf gr sz ino jr)] h (.w (.c (.bool true))) h:=by
 refine Zd.tidy ⟨_,Tryz.func13,by kernel_rfl,of_decide_eq_true (by kernel_rfl)⟩ fun tidy=>?_
 suffices hs:Goes K Tryz.prog 66 none (q13 []) [] (O7 0 [.g (Yf gr sz ino jr)] .nil) h fun x ds ts h1=>(∀ n,n<h.next→h1.get n=h.get n)∧leave K Tryz.f13 (some (.at x ds ts h1))=some (.val (.w (.c (.bool true))) h1) by
  obtain⟨x,ds,ts,h1,g,e2,e3⟩:=hs
  exact (Zd.body fits Hh (by kernel_rfl) (by kernel_rfl) (by kernel_rfl) (by kernel_rfl) rfl g e3).quiet rfl e2
 obtain⟨g1,g2,g3,g4,g5,g6,g7,g8,g9,g10,g11⟩:=F
 have e0:Zp (O7 0 [.g (Yf gr sz ino jr)] .nil) 0=.w (.g [.int .i64 gr,.int .i64 sz,.int .i64 ino,.int .i64 jr]):=by rw[U9]; rfl
 have c1:decide ((gr:Int)<1)=false:=decide_eq_false (by omega)
 have c2:decide ((gr:Int) > 4)=false:=decide_eq_false (by omega)
 have c3:decide ((sz:Int)<16)=false:=decide_eq_false (by omega)
 have c4:decide ((sz:Int) > 512)=false:=decide_eq_false (by omega)
 have c5:decide ((ino:Int)<4)=false:=decide_eq_false (by omega)
 have c6:decide ((ino:Int) > 64)=false:=decide_eq_false (by omega)
 have c7:Zb8 .i64 (ino:Int) 4=some (.int .i64 0):=by
  show some (C.int .i64 ((ino:Int).tmod 4))=_
  rw[show (ino:Int).tmod 4=((ino % 4:Nat):Int) from rfl,g7]
  rfl
 have c8:decide ((jr:Int)<40)=false:=decide_eq_false (by omega)
 have c9:decide ((jr:Int) > 256)=false:=decide_eq_false (by omega)
 have q1:V5 .i64 (ino:Int) 4=some (.int .i64 ((ino / 4:Nat):Int)):=by
  show some (Jm .i64 ((ino:Int).tdiv 4))=_
  rw[show (ino:Int).tdiv 4=((ino / 4:Nat):Int) from rfl,wrap64 (by omega) (by omega)]
 have w1:Jm .i64 (3+((ino / 4:Nat):Int))=.int .i64 ((3+ino / 4:Nat):Int):=by rw[wrap64 (by omega) (by omega)]; congr 1
 have c10:decide ((sz:Int) ≥ ((3+ino / 4:Nat):Int))=true:=decide_eq_true (by omega)
 have w2:Jm .i64 (2+(jr:Int))=.int .i64 ((2+jr:Nat):Int):=by rw[wrap64 (by omega) (by omega)]; congr 1
 have hm:gr * sz≤2048:=by omega
 have w3:Jm .i64 ((gr:Int) * (sz:Int))=.int .i64 ((gr * sz:Nat):Int):=by
  have e:(gr:Int) * (sz:Int)=((gr * sz:Nat):Int):=by simp
  rw[e,wrap64 (by omega) (by omega)]
 have w4:Jm .i64 (((2+jr:Nat):Int)+((gr * sz:Nat):Int))=.int .i64 ((2+jr+gr * sz:Nat):Int):=by rw[wrap64 (by omega) (by omega)]; congr 1
 have c11:decide (((2+jr+gr * sz:Nat):Int)≤2048)=true:=decide_eq_true (by omega)
 have e1:Tryz.f13.results.toList=[.tmp 2]:=rfl
 have z0:((0:Int) != 0)=false:=rfl
 show Goes K Tryz.prog 66 none (q13 []) _ _ _ _
 rw[Yim]
 refine Goes.seq ?_
 show Goes K Tryz.prog 66 none (q13 [0]) _ _ _ _
 rw[q13_0]
 refine Goes.ops2 fits Hh Zb (by
  simp only[q13,piece,part0,part1,part2,Yh,part3,part4,Z5,Tryz.f13,Zt]
  simp (decide:=true) only [go_sem,Zz,H.get_put,H.Zh,Za,Z9,reduceIte,Nat.reduceAdd,Nat.reduceMul,e0,c1,c2,c3,c4,c5,c6,c7,c8,c9,q1,w1,c10,w2,w3,w4,c11,z0,Zn,Zb3,Zb1,Ww,Zbr,geo0,geo1,geo2,geo3,Oz,F4,F6,cW,Nat.zero_add]
  rfl) ?_
 show Goes K Tryz.prog 66 none (q13 [1]) _ _ _ _
 rw[q13_1]
 refine Goes.seq ?_
 show Goes K Tryz.prog 66 none (q13 [1,0]) _ _ _ _
 rw[Ye4]
 refine Goes.seq ?_
 show Goes K Tryz.prog 66 none (q13 [1,0,0]) _ _ _ _
 rw[Yar]
 refine Goes.ops2 fits Hh Zb (by
  simp only[q13,piece,part0,part1,part2,Yh,part3,part4,Z5,Tryz.f13,Zt]
  simp (decide:=true) only [go_sem,Zz,H.get_put,H.Zh,Za,Z9,reduceIte,Nat.reduceAdd,Nat.reduceMul,e0,c1,c2,c3,c4,c5,c6,c7,c8,c9,q1,w1,c10,w2,w3,w4,c11,z0,Zn,Zb3,Zb1,Ww,Zbr,geo0,geo1,geo2,geo3,Oz,F4,F6,cW,Nat.zero_add]
  rfl) ?_
 show Goes K Tryz.prog 66 none (q13 [1,0,1]) _ _ _ _
 rw[Ybe]
 refine Goes.Qb (by simp (decide:=true) only [Z0,Y0,asC,Zi,reduceIte,J9,Jh,e0,c1,c2,c3,c4,c5,c6,c7,c8,c9,q1,w1,c10,w2,w3,w4,c11,z0,Zn,Zb3,Zb1,Ww,Zbr,geo0,geo1,geo2,geo3,Oz,F4,F6,cW,Nat.zero_add]) ?_
 show Goes K Tryz.prog 66 none (q13 [1,0,1,4]) _ _ _ _
 rw[Z7l]
 refine Goes.skip ?_
 show Goes K Tryz.prog 66 none (q13 [1,1]) _ _ _ _
 rw[Yfr]
 refine Goes.seq ?_
 show Goes K Tryz.prog 66 none (q13 [1,1,0]) _ _ _ _
 rw[Ya3]
 refine Goes.ops2 fits Hh Zb (by
  simp only[q13,piece,part0,part1,part2,Yh,part3,part4,Z5,Tryz.f13,Zt]
  simp (decide:=true) only [go_sem,Zz,H.get_put,H.Zh,Za,Z9,reduceIte,Nat.reduceAdd,Nat.reduceMul,e0,c1,c2,c3,c4,c5,c6,c7,c8,c9,q1,w1,c10,w2,w3,w4,c11,z0,Zn,Zb3,Zb1,Ww,Zbr,geo0,geo1,geo2,geo3,Oz,F4,F6,cW,Nat.zero_add]
  rfl) ?_
 show Goes K Tryz.prog 66 none (q13 [1,1,1]) _ _ _ _
 rw[Z9g]
 refine Goes.ret ?_
 refine⟨fun n hn=>?_,?_⟩
 ·rw[H.Zh,if_neg (by omega)]
 ·simp (decide:=true) only [N7,Ur,finish,e1,Ui,evalW,Y0,asW,Zi,reduceIte,Bj]
end
def thing (k gr at' ino:Int):List C:=[.int .u8 k,.int .i64 gr,.int .i64 at',.int .i64 ino]
theorem Jo:Jl K 99=some ti149:=by kernel_rfl
theorem Z5k:ti149.size=4:=rfl
theorem Z6r:ti149.bytes=32:=rfl
theorem bld1 (k:Int):Yi K 149 (some [(0,.c (.int .u8 k))])=some (.g [.int .u8 k,.int .i64 0,.int .i64 0,.int .i64 0]):=by kernel_rfl
theorem bld3 (k a:Int):Yi K 149 (some [(0,.c (.int .u8 k)),(2,.c (.int .i64 a))])=some (.g [.int .u8 k,.int .i64 0,.int .i64 a,.int .i64 0]):=by kernel_rfl
theorem bld4 (k a:Int):Yi K 149 (some [(0,.c (.int .u8 k)),(1,.c (.int .i64 a))])=some (.g [.int .u8 k,.int .i64 a,.int .i64 0,.int .i64 0]):=by kernel_rfl
theorem bld5 (k a b:Int):Yi K 149 (some [(0,.c (.int .u8 k)),(1,.c (.int .i64 a)),(2,.c (.int .i64 b))])=some (.g [.int .u8 k,.int .i64 a,.int .i64 b,.int .i64 0]):=by kernel_rfl
theorem bld6 (k a b c:Int):Yi K 149 (some [(0,.c (.int .u8 k)),(1,.c (.int .i64 a)),(2,.c (.int .i64 b)),(3,.c (.int .i64 c))])=some (.g [.int .u8 k,.int .i64 a,.int .i64 b,.int .i64 c]):=by kernel_rfl
theorem bs1 (h:Go.Ev.H) (a b c d:C):Yd h 1 (some ti149) (some [(0,.g [a,b,c,d])])=some (.w (.c (.slice h.next 0 1 4)),h.new (.row 4 [[a,b,c,d]] false)):=rfl
theorem bs2 (h:Go.Ev.H) (a b c d a' b' c' d':C):Yd h 2 (some ti149) (some [(0,.g [a,b,c,d]),(1,.g [a',b',c',d'])])=some (.w (.c (.slice h.next 0 2 4)),h.new (.row 4 [[a,b,c,d],[a',b',c',d']] false)):=rfl
theorem U3 (n off len sz:Nat):Ub K 99 (.slice n off len sz)=true:=by unfold Ub; rw[show K.types.get 99=some ti99 by kernel_rfl]; rfl
structure AllSt (p:Nat) (h0:Go.Ev.H) (L:List (List C)) (ts:Zy) (h:Go.Ev.H):Prop where
 p1:Zp ts 1=.w (.c (.ptr p 0))
 sl:∃ n,Zp ts 3=.w (.c (.slice n 0 L.length 4))∧h.get n=some (.row 4 L false)∧p<n∧n<h.next
 up:h0.next≤h.next
 keep:∀ m,m≤p→h.get m=h0.get m
theorem AllSt.grow {p n:Nat} {h0 h:Go.Ev.H} {L M:List (List C)} {ts ts':Zy} (s:AllSt p h0 L ts h) (hn:p<n) (hlt:n<h.next) (e1:Zp ts' 1=.w (.c (.ptr p 0))) (e3:Zp ts' 3=.w (.c (.slice (h.next+1) 0 (L.length+M.length) 4))):AllSt p h0 (L++M) ts' (((h.new (.row 4 M false)).del n).new (.row 4 (L++M) false)):=by
 refine⟨e1,⟨h.next+1,by rw[e3,List.length_append],?_,by omega,?_⟩,?_,fun m hm=>?_⟩
 ·rw[H.Zh,H.Zj,H.Ze,if_pos rfl]
 ·rw[H.Ze,H.Zj,H.Ze]; omega
 ·rw[H.Ze,H.Zj,H.Ze]; have:=s.up; omega
 ·rw[H.Zh,H.Zj,H.Ze,if_neg (by omega),H.Zk,if_neg (by omega),H.Zh,if_neg (by omega)]
  exact s.keep m hm
theorem AllSt.same {p:Nat} {h0 h:Go.Ev.H} {L:List (List C)} {ts ts':Zy} (s:AllSt p h0 L ts h) (e1:Zp ts' 1=Zp ts 1) (e3:Zp ts' 3=Zp ts 3):AllSt p h0 L ts' h :=
 ⟨by rw[e1]; exact s.p1,by rw[e3]; exact s.sl,s.up,s.keep⟩
theorem grow1 {h:Go.Ev.H} {n:Nat} {L:List (List C)} (x:List C) (ho:h.get n=some (.row 4 L false)) (hn:n<h.next) (hl:L.length≤4000) :
  O6 (h.new (.row 4 [x] false)) (some ti149) (.slice n 0 L.length 4) (.slice h.next 0 1 4)=some (.w (.c (.slice (h.next+1) 0 (L.length+1) 4)),((h.new (.row 4 [x] false)).del n).new (.row 4 (L++[x]) false)) :=
 Zn9 (M:=[x]) Z5k (by rw[H.Zh,if_neg (by omega)]; exact ho) (by rw[H.Zh,if_pos rfl]) (by simp) (by rw[Z6r]; show (L.length+1) * 32≤_; omega) (by show L.length+1≤_; omega)
theorem grow2 {h:Go.Ev.H} {n:Nat} {L:List (List C)} (x y:List C) (ho:h.get n=some (.row 4 L false)) (hn:n<h.next) (hl:L.length≤4000) :
  O6 (h.new (.row 4 [x,y] false)) (some ti149) (.slice n 0 L.length 4) (.slice h.next 0 2 4)=some (.w (.c (.slice (h.next+1) 0 (L.length+2) 4)),((h.new (.row 4 [x,y] false)).del n).new (.row 4 (L++[x,y]) false)) :=
 Zn9 (M:=[x,y]) Z5k (by rw[H.Zh,if_neg (by omega)]; exact ho) (by rw[H.Zh,if_pos rfl]) (by simp) (by rw[Z6r]; show (L.length+2) * 32≤_; omega) (by show L.length+2≤_; omega)
def jrL (i:Nat):List (List C):=[thing 1 0 0 0,thing 2 0 0 0]++(List.range i).map fun (j:Nat)=>thing 3 0 j 0
def inL (a ino c:Nat):List (List C):=(List.range c).map fun (k:Nat)=>thing 6 a ((2+k:Nat):Int) ((1+a * ino+4 * k:Nat):Int)
def daL (a ino d:Nat):List (List C):=(List.range d).map fun (k:Nat)=>thing 7 a ((2+ino / 4+k:Nat):Int) 0
def grL (sz ino a:Nat):List (List C):=[thing 4 a 0 0,thing 5 a 1 0]++inL a ino (ino / 4)++daL a ino (sz - (2+ino / 4))
def Od (sz ino a:Nat):List (List C):=(List.range a).flatMap (grL sz ino)
def Zr0 (gr sz ino jr:Nat):List (List C):=jrL jr++Od sz ino gr
theorem Zqa (i:Nat):(jrL i).length=2+i:=by simp [jrL]; omega
theorem Z8f (i:Nat):jrL (i+1)=jrL i++[thing 3 0 i 0]:=by simp [jrL,List.range_succ]
theorem Zps (a ino c:Nat):(inL a ino c).length=c:=by simp [inL]
theorem Z6i (a ino c:Nat):inL a ino (c+1)=inL a ino c++[thing 6 a ((2+c:Nat):Int) ((1+a * ino+4 * c:Nat):Int)]:=by simp [inL,List.range_succ]
theorem Zz8 (a ino d:Nat):(daL a ino d).length=d:=by simp [daL]
theorem Z9e (a ino d:Nat):daL a ino (d+1)=daL a ino d++[thing 7 a ((2+ino / 4+d:Nat):Int) 0]:=by simp [daL,List.range_succ]
theorem Yb5 {sz ino:Nat} (h:3+ino / 4≤sz) (a:Nat):(grL sz ino a).length=sz:=by simp [grL,Zps,Zz8]; omega
theorem Ze1 (sz ino a:Nat):Od sz ino (a+1)=Od sz ino a++grL sz ino a:=by simp [Od,List.range_succ]
theorem Zuv {sz ino:Nat} (h:3+ino / 4≤sz) (a:Nat):(Od sz ino a).length=a * sz:=by
 induction a with
 | zero=>simp [Od]
 | succ a ih=>rw[Ze1,List.length_append,ih,Yb5 h,Nat.succ_mul]
section
variable (Hh:Hearts K Tryz.prog)
include Hh
theorem all1 {gr sz ino jr:Nat} (F:Fine gr sz ino jr) (p:Nat) (h0:Go.Ev.H) (hp:h0.get p=some (.row 4 [Yf gr sz ino jr] false)):∀ (k i:Nat) (ts:Zy) (h:Go.Ev.H),i+k=jr→AllSt p h0 (jrL i) ts h→Zp ts 4=.w (.c (.int .i64 i)) →
  Goes K Tryz.prog 73 none (q47 [1,1,1,0,1,2]) [] ts h fun x ds' ts' h'=>x=.exit 0∧ds'=[]∧AllSt p h0 (jrL jr) ts' h':=by
 obtain⟨g1,g2,g3,g4,g5,g6,g7,g8,g9,g10,g11⟩:=F
 intro k
 induction k with
 | zero =>
  intro i ts h hi st h4
  have ei:i=jr:=by omega
  subst ei
  have hg:h.get p=some (.row 4 [[.int .i64 gr,.int .i64 sz,.int .i64 ino,.int .i64 i]] false):=(st.keep p (Nat.le_refl _)).trans hp
  have h1:=st.p1
  have c1:decide ((i:Int)<(i:Int))=false:=decide_eq_false (by omega)
  show Goes K Tryz.prog 73 none (q47 [1,1,1,0,1,2]) _ _ _ _
  rw[Zcm]
  refine Goes.loop ?_
  show Goes K Tryz.prog 73 none (q47 [1,1,1,0,1,2,2]) _ _ _ _
  rw[Zhd]
  refine Goes.seq ?_
  show Goes K Tryz.prog 73 none (q47 [1,1,1,0,1,2,2,0]) _ _ _ _
  rw[Zdn]
  refine Goes.seq ?_
  show Goes K Tryz.prog 73 none (q47 [1,1,1,0,1,2,2,0,0]) _ _ _ _
  rw[Zb2]
  refine Goes.ops2 fits Hh Zb (by
   simp only[q47,piece,part0,part1,part2,Yh,part3,part4,Z5,Tryz.f47,Zt]
   simp (decide:=true) only [go_sem,Zz,H.get_put,H.Zh,Za,Z9,reduceIte,Nat.reduceAdd,Nat.reduceMul,h4,h1,hg,c1,Zbr,geo3,Oz,F4,F6,cW,Nat.zero_add]
   rfl) ?_
  show Goes K Tryz.prog 73 none (q47 [1,1,1,0,1,2,2,0,1]) _ _ _ _
  rw[Zb7]
  refine Goes.Qb (by simp (decide:=true) only [Z0,Y0,asC,Zi,reduceIte,J9,Jh,h4,h1,hg,c1,Zbr,geo3,Oz,F4,F6,cW,Nat.zero_add]) ?_
  show Goes K Tryz.prog 73 none (q47 [1,1,1,0,1,2,2,0,1,4]) _ _ _ _
  rw[Zlf]
  refine Goes.exit ?_
  refine⟨rfl,rfl,st.same ?_ ?_⟩
  ·simp (decide:=true) only [Zi,reduceIte]
  ·simp (decide:=true) only [Zi,reduceIte]
 | succ k ih =>
  intro i ts h hi st h4
  have hg:h.get p=some (.row 4 [[.int .i64 gr,.int .i64 sz,.int .i64 ino,.int .i64 jr]] false):=(st.keep p (Nat.le_refl _)).trans hp
  have h1:=st.p1
  obtain⟨n,h3,hn,hpn,hlt⟩:=st.sl
  have c1:decide ((i:Int)<(jr:Int))=true:=decide_eq_true (by omega)
  have w1:Jm .i64 ((i:Int)+1)=.int .i64 ((i+1:Nat):Int):=by rw[wrap64 (by omega) (by omega)]; congr 1
  have ap:=grow1 (thing 3 0 i 0) hn hlt (by rw[Zqa]; omega)
  simp only[thing] at ap
  show Goes K Tryz.prog 73 none (q47 [1,1,1,0,1,2]) _ _ _ _
  rw[Zcm]
  refine Goes.loop ?_
  show Goes K Tryz.prog 73 none (q47 [1,1,1,0,1,2,2]) _ _ _ _
  rw[Zhd]
  refine Goes.seq ?_
  show Goes K Tryz.prog 73 none (q47 [1,1,1,0,1,2,2,0]) _ _ _ _
  rw[Zdn]
  refine Goes.seq ?_
  show Goes K Tryz.prog 73 none (q47 [1,1,1,0,1,2,2,0,0]) _ _ _ _
  rw[Zb2]
  refine Goes.ops2 fits Hh Zb (by
   simp only[q47,piece,part0,part1,part2,Yh,part3,part4,Z5,Tryz.f47,Zt]
   simp (decide:=true) only [go_sem,Zz,H.get_put,H.Zh,Za,Z9,reduceIte,Nat.reduceAdd,Nat.reduceMul,h4,h1,h3,hg,c1,w1,ap,Zbr,geo3,Oz,F4,F6,cW,Nat.zero_add,bld3,bs1,Jo,U3,Zm]
   rfl) ?_
  show Goes K Tryz.prog 73 none (q47 [1,1,1,0,1,2,2,0,1]) _ _ _ _
  rw[Zb7]
  refine Goes.Q3 (by simp (decide:=true) only [Z0,Y0,asC,Zi,reduceIte,J9,Jh,h4,h1,h3,hg,c1,w1,ap,Zbr,geo3,Oz,F4,F6,cW,Nat.zero_add,bld3,bs1,Jo,U3,Zm]) ?_
  show Goes K Tryz.prog 73 none (q47 [1,1,1,0,1,2,2,0,1,3]) _ _ _ _
  rw[Zmc]
  refine Goes.skip ?_
  show Goes K Tryz.prog 73 none (q47 [1,1,1,0,1,2,2,1]) _ _ _ _
  rw[Zrx]
  refine Goes.seq ?_
  show Goes K Tryz.prog 73 none (q47 [1,1,1,0,1,2,2,1,0]) _ _ _ _
  rw[Zm2]
  refine Goes.block ?_
  show Goes K Tryz.prog 73 none (q47 [1,1,1,0,1,2,2,1,0,2]) _ _ _ _
  rw[Zlk]
  refine Goes.ops2 fits Hh Zb (by
   simp only[q47,piece,part0,part1,part2,Yh,part3,part4,Z5,Tryz.f47,Zt]
   simp (decide:=true) only [go_sem,Zz,H.get_put,H.Zh,Za,Z9,reduceIte,Nat.reduceAdd,Nat.reduceMul,h4,h1,h3,hg,c1,w1,ap,Zbr,geo3,Oz,F4,F6,cW,Nat.zero_add,bld3,bs1,Jo,U3,Zm]
   rfl) ?_
  show Goes K Tryz.prog 73 none (q47 [1,1,1,0,1,2,2,1,1]) _ _ _ _
  rw[Znk]
  refine Goes.ops2 fits Hh Zb (by
   simp only[q47,piece,part0,part1,part2,Yh,part3,part4,Z5,Tryz.f47,Zt]
   simp (decide:=true) only [go_sem,Zz,H.get_put,H.Zh,Za,Z9,reduceIte,Nat.reduceAdd,Nat.reduceMul,h4,h1,h3,hg,c1,w1,ap,Zbr,geo3,Oz,F4,F6,cW,Nat.zero_add,bld3,bs1,Jo,U3,Zm]
   rfl) ?_
  show Goes K Tryz.prog 73 none (.loop (q47 [1,1,1,0,1,2,2])) _ _ _ _
  rw[←Zcm]
  refine ih (i+1) _ _ (by omega) ?_ ?_
  ·rw[Z8f]
   refine st.grow hpn hlt ?_ ?_
   ·simp (decide:=true) only [Zi,reduceIte,h1]
   ·simp (decide:=true) only [Zi,reduceIte]
    rfl
  ·simp (decide:=true) only [Zi,reduceIte]
theorem all4 {gr sz ino jr:Nat} (F:Fine gr sz ino jr) (a:Nat) (ha:a<gr) (p:Nat) (h0:Go.Ev.H) (hp:h0.get p=some (.row 4 [Yf gr sz ino jr] false)) (B:List (List C)) (hB:B.length≤2060):∀ (k c:Nat) (ts:Zy) (h:Go.Ev.H),c+k=ino / 4→AllSt p h0 (B++inL a ino c) ts h→Zp ts 6=.w (.c (.int .i64 a))→Zp ts 7=.w (.c (.int .i64 ((4 * c:Nat):Int)))→Zp ts 5=.w (.c (.int .i64 ((1+a * ino+4 * c:Nat):Int))) →
  Goes K Tryz.prog 73 none (q47 [1,1,1,1,1,0,1,2,2,1,0,2,1,0,1,2]) [] ts h fun x ds' ts' h'=>x=.exit 4∧ds'=[]∧AllSt p h0 (B++inL a ino (ino / 4)) ts' h'∧Zp ts' 6=.w (.c (.int .i64 a))∧Zp ts' 5=.w (.c (.int .i64 ((1+(a+1) * ino:Nat):Int))):=by
 obtain⟨g1,g2,g3,g4,g5,g6,g7,g8,g9,g10,g11⟩:=F
 have ham:a * ino≤4 * 64:=Nat.mul_le_mul (by omega) (by omega)
 intro k
 induction k with
 | zero =>
  intro c ts h hc st h6 h7 h5
  have ec:c=ino / 4:=by omega
  subst ec
  have hg:h.get p=some (.row 4 [[.int .i64 gr,.int .i64 sz,.int .i64 ino,.int .i64 jr]] false):=(st.keep p (Nat.le_refl _)).trans hp
  have h1:=st.p1
  have c1:decide (((4 * (ino / 4):Nat):Int)<(ino:Int))=false:=decide_eq_false (by omega)
  show Goes K Tryz.prog 73 none (q47 [1,1,1,1,1,0,1,2,2,1,0,2,1,0,1,2]) _ _ _ _
  rw[Ed]
  refine Goes.loop ?_
  show Goes K Tryz.prog 73 none (q47 [1,1,1,1,1,0,1,2,2,1,0,2,1,0,1,2,2]) _ _ _ _
  rw[L8]
  refine Goes.seq ?_
  show Goes K Tryz.prog 73 none (q47 [1,1,1,1,1,0,1,2,2,1,0,2,1,0,1,2,2,0]) _ _ _ _
  rw[Lr]
  refine Goes.seq ?_
  show Goes K Tryz.prog 73 none (q47 [1,1,1,1,1,0,1,2,2,1,0,2,1,0,1,2,2,0,0]) _ _ _ _
  rw[Fu]
  refine Goes.ops2 fits Hh Zb (by
   simp only[q47,piece,part0,part1,part2,Yh,part3,part4,Z5,Tryz.f47,Zt]
   simp (decide:=true) only [go_sem,Zz,H.get_put,H.Zh,Za,Z9,reduceIte,Nat.reduceAdd,Nat.reduceMul,h7,h1,hg,c1,Ww,geo2,Oz,F4,F6,cW,Nat.zero_add]
   rfl) ?_
  show Goes K Tryz.prog 73 none (q47 [1,1,1,1,1,0,1,2,2,1,0,2,1,0,1,2,2,0,1]) _ _ _ _
  rw[Fz]
  refine Goes.Qb (by simp (decide:=true) only [Z0,Y0,asC,Zi,reduceIte,J9,Jh,h7,h1,hg,c1,Ww,geo2,Oz,F4,F6,cW,Nat.zero_add]) ?_
  show Goes K Tryz.prog 73 none (q47 [1,1,1,1,1,0,1,2,2,1,0,2,1,0,1,2,2,0,1,4]) _ _ _ _
  rw[Tk]
  refine Goes.exit ?_
  refine⟨rfl,rfl,st.same ?_ ?_,?_,?_⟩
  ·simp (decide:=true) only [Zi,reduceIte]
  ·simp (decide:=true) only [Zi,reduceIte]
  ·simp (decide:=true) only [Zi,reduceIte,h6]
  ·simp (decide:=true) only [Zi,reduceIte,h5]
   have:1+a * ino+4 * (ino / 4)=1+(a+1) * ino:=by rw[Nat.add_mul,Nat.one_mul]; omega
   rw[this]
 | succ k ih =>
  intro c ts h hc st h6 h7 h5
  have hg:h.get p=some (.row 4 [[.int .i64 gr,.int .i64 sz,.int .i64 ino,.int .i64 jr]] false):=(st.keep p (Nat.le_refl _)).trans hp
  have h1:=st.p1
  obtain⟨n,h3,hn,hpn,hlt⟩:=st.sl
  have c1:decide (((4 * c:Nat):Int)<(ino:Int))=true:=decide_eq_true (by omega)
  have q1:V5 .i64 ((4 * c:Nat):Int) 4=some (.int .i64 (c:Int)):=by
   show some (Jm .i64 (((4 * c:Nat):Int).tdiv 4))=_
   rw[show ((4 * c:Nat):Int).tdiv 4=((4 * c / 4:Nat):Int) from rfl,show 4 * c / 4=c by omega,wrap64 (by omega) (by omega)]
  have w1:Jm .i64 (2+(c:Int))=.int .i64 ((2+c:Nat):Int):=by rw[wrap64 (by omega) (by omega)]; congr 1
  have w2:Jm .i64 (((1+a * ino+4 * c:Nat):Int)+4)=.int .i64 ((1+a * ino+4 * (c+1):Nat):Int):=by rw[wrap64 (by omega) (by omega)]; congr 1
  have w3:Jm .i64 (((4 * c:Nat):Int)+4)=.int .i64 ((4 * (c+1):Nat):Int):=by rw[wrap64 (by omega) (by omega)]; congr 1
  have ap:=grow1 (thing 6 a ((2+c:Nat):Int) ((1+a * ino+4 * c:Nat):Int)) hn hlt (by rw[List.length_append,Zps]; omega)
  simp only[thing] at ap
  show Goes K Tryz.prog 73 none (q47 [1,1,1,1,1,0,1,2,2,1,0,2,1,0,1,2]) _ _ _ _
  rw[Ed]
  refine Goes.loop ?_
  show Goes K Tryz.prog 73 none (q47 [1,1,1,1,1,0,1,2,2,1,0,2,1,0,1,2,2]) _ _ _ _
  rw[L8]
  refine Goes.seq ?_
  show Goes K Tryz.prog 73 none (q47 [1,1,1,1,1,0,1,2,2,1,0,2,1,0,1,2,2,0]) _ _ _ _
  rw[Lr]
  refine Goes.seq ?_
  show Goes K Tryz.prog 73 none (q47 [1,1,1,1,1,0,1,2,2,1,0,2,1,0,1,2,2,0,0]) _ _ _ _
  rw[Fu]
  refine Goes.ops2 fits Hh Zb (by
   simp only[q47,piece,part0,part1,part2,Yh,part3,part4,Z5,Tryz.f47,Zt]
   simp (decide:=true) only [go_sem,Zz,H.get_put,H.Zh,Za,Z9,reduceIte,Nat.reduceAdd,Nat.reduceMul,h7,h6,h5,h1,h3,hg,c1,q1,w1,w2,w3,ap,Ww,geo2,Oz,F4,F6,cW,Nat.zero_add,bld6,bs1,Jo,U3,Zm]
   rfl) ?_
  show Goes K Tryz.prog 73 none (q47 [1,1,1,1,1,0,1,2,2,1,0,2,1,0,1,2,2,0,1]) _ _ _ _
  rw[Fz]
  refine Goes.Q3 (by simp (decide:=true) only [Z0,Y0,asC,Zi,reduceIte,J9,Jh,h7,h6,h5,h1,h3,hg,c1,q1,w1,w2,w3,ap,Ww,geo2,Oz,F4,F6,cW,Nat.zero_add,bld6,bs1,Jo,U3,Zm]) ?_
  show Goes K Tryz.prog 73 none (q47 [1,1,1,1,1,0,1,2,2,1,0,2,1,0,1,2,2,0,1,3]) _ _ _ _
  rw[Tg]
  refine Goes.skip ?_
  show Goes K Tryz.prog 73 none (q47 [1,1,1,1,1,0,1,2,2,1,0,2,1,0,1,2,2,1]) _ _ _ _
  rw[Wm]
  refine Goes.seq ?_
  show Goes K Tryz.prog 73 none (q47 [1,1,1,1,1,0,1,2,2,1,0,2,1,0,1,2,2,1,0]) _ _ _ _
  rw[Tz]
  refine Goes.block ?_
  show Goes K Tryz.prog 73 none (q47 [1,1,1,1,1,0,1,2,2,1,0,2,1,0,1,2,2,1,0,2]) _ _ _ _
  rw[S9]
  refine Goes.seq ?_
  show Goes K Tryz.prog 73 none (q47 [1,1,1,1,1,0,1,2,2,1,0,2,1,0,1,2,2,1,0,2,0]) _ _ _ _
  rw[R7]
  refine Goes.ops2 fits Hh Zb (by
   simp only[q47,piece,part0,part1,part2,Yh,part3,part4,Z5,Tryz.f47,Zt]
   simp (decide:=true) only [go_sem,Zz,H.get_put,H.Zh,Za,Z9,reduceIte,Nat.reduceAdd,Nat.reduceMul,h7,h6,h5,h1,h3,hg,c1,q1,w1,w2,w3,ap,Ww,geo2,Oz,F4,F6,cW,Nat.zero_add,bld6,bs1,Jo,U3,Zm]
   rfl) ?_
  show Goes K Tryz.prog 73 none (q47 [1,1,1,1,1,0,1,2,2,1,0,2,1,0,1,2,2,1,0,2,1]) _ _ _ _
  rw[R3]
  refine Goes.ops2 fits Hh Zb (by
   simp only[q47,piece,part0,part1,part2,Yh,part3,part4,Z5,Tryz.f47,Zt]
   simp (decide:=true) only [go_sem,Zz,H.get_put,H.Zh,Za,Z9,reduceIte,Nat.reduceAdd,Nat.reduceMul,h7,h6,h5,h1,h3,hg,c1,q1,w1,w2,w3,ap,Ww,geo2,Oz,F4,F6,cW,Nat.zero_add,bld6,bs1,Jo,U3,Zm]
   rfl) ?_
  show Goes K Tryz.prog 73 none (q47 [1,1,1,1,1,0,1,2,2,1,0,2,1,0,1,2,2,1,1]) _ _ _ _
  rw[V4]
  refine Goes.ops2 fits Hh Zb (by
   simp only[q47,piece,part0,part1,part2,Yh,part3,part4,Z5,Tryz.f47,Zt]
   simp (decide:=true) only [go_sem,Zz,H.get_put,H.Zh,Za,Z9,reduceIte,Nat.reduceAdd,Nat.reduceMul,h7,h6,h5,h1,h3,hg,c1,q1,w1,w2,w3,ap,Ww,geo2,Oz,F4,F6,cW,Nat.zero_add,bld6,bs1,Jo,U3,Zm]
   rfl) ?_
  show Goes K Tryz.prog 73 none (.loop (q47 [1,1,1,1,1,0,1,2,2,1,0,2,1,0,1,2,2])) _ _ _ _
  rw[←Ed]
  refine ih (c+1) _ _ (by omega) ?_ ?_ ?_ ?_
  ·rw[Z6i,←List.append_assoc]
   refine st.grow hpn hlt ?_ ?_
   ·simp (decide:=true) only [Zi,reduceIte,h1]
   ·simp (decide:=true) only [Zi,reduceIte]
    rfl
  ·simp (decide:=true) only [Zi,reduceIte,h6]
  ·simp (decide:=true) only [Zi,reduceIte]
  ·simp (decide:=true) only [Zi,reduceIte]
theorem all6 {gr sz ino jr:Nat} (F:Fine gr sz ino jr) (a:Nat) (ha:a<gr) (p:Nat) (h0:Go.Ev.H) (hp:h0.get p=some (.row 4 [Yf gr sz ino jr] false)) (B:List (List C)) (hB:B.length≤2100):∀ (k d:Nat) (ts:Zy) (h:Go.Ev.H),2+ino / 4+d+k=sz→AllSt p h0 (B++daL a ino d) ts h→Zp ts 6=.w (.c (.int .i64 a))→Zp ts 8=.w (.c (.int .i64 ((2+ino / 4+d:Nat):Int))) →
  Goes K Tryz.prog 73 none (q47 [1,1,1,1,1,0,1,2,2,1,0,2,1,1,1,2]) [] ts h fun x ds' ts' h'=>x=.exit 6∧ds'=[]∧AllSt p h0 (B++daL a ino (sz - (2+ino / 4))) ts' h'∧Zp ts' 6=.w (.c (.int .i64 a))∧Zp ts' 5=Zp ts 5:=by
 obtain⟨g1,g2,g3,g4,g5,g6,g7,g8,g9,g10,g11⟩:=F
 intro k
 induction k with
 | zero =>
  intro d ts h hd st h6 h8
  have ed:d=sz - (2+ino / 4):=by omega
  subst ed
  have hg:h.get p=some (.row 4 [[.int .i64 gr,.int .i64 sz,.int .i64 ino,.int .i64 jr]] false):=(st.keep p (Nat.le_refl _)).trans hp
  have h1:=st.p1
  have c1:decide (((2+ino / 4+(sz - (2+ino / 4)):Nat):Int)<(sz:Int))=false:=decide_eq_false (by omega)
  show Goes K Tryz.prog 73 none (q47 [1,1,1,1,1,0,1,2,2,1,0,2,1,1,1,2]) _ _ _ _
  rw[Ea]
  refine Goes.loop ?_
  show Goes K Tryz.prog 73 none (q47 [1,1,1,1,1,0,1,2,2,1,0,2,1,1,1,2,2]) _ _ _ _
  rw[Lx]
  refine Goes.seq ?_
  show Goes K Tryz.prog 73 none (q47 [1,1,1,1,1,0,1,2,2,1,0,2,1,1,1,2,2,0]) _ _ _ _
  rw[Lb]
  refine Goes.seq ?_
  show Goes K Tryz.prog 73 none (q47 [1,1,1,1,1,0,1,2,2,1,0,2,1,1,1,2,2,0,0]) _ _ _ _
  rw[Fp]
  refine Goes.ops2 fits Hh Zb (by
   simp only[q47,piece,part0,part1,part2,Yh,part3,part4,Z5,Tryz.f47,Zt]
   simp (decide:=true) only [go_sem,Zz,H.get_put,H.Zh,Za,Z9,reduceIte,Nat.reduceAdd,Nat.reduceMul,h8,h1,hg,c1,Zb1,geo1,Oz,F4,F6,cW,Nat.zero_add]
   rfl) ?_
  show Goes K Tryz.prog 73 none (q47 [1,1,1,1,1,0,1,2,2,1,0,2,1,1,1,2,2,0,1]) _ _ _ _
  rw[Fw]
  refine Goes.Qb (by simp (decide:=true) only [Z0,Y0,asC,Zi,reduceIte,J9,Jh,h8,h1,hg,c1,Zb1,geo1,Oz,F4,F6,cW,Nat.zero_add]) ?_
  show Goes K Tryz.prog 73 none (q47 [1,1,1,1,1,0,1,2,2,1,0,2,1,1,1,2,2,0,1,4]) _ _ _ _
  rw[Tj]
  refine Goes.exit ?_
  refine⟨rfl,rfl,st.same ?_ ?_,?_,?_⟩
  ·simp (decide:=true) only [Zi,reduceIte]
  ·simp (decide:=true) only [Zi,reduceIte]
  ·simp (decide:=true) only [Zi,reduceIte,h6]
  ·simp (decide:=true) only [Zi,reduceIte]
 | succ k ih =>
  intro d ts h hd st h6 h8
  have hg:h.get p=some (.row 4 [[.int .i64 gr,.int .i64 sz,.int .i64 ino,.int .i64 jr]] false):=(st.keep p (Nat.le_refl _)).trans hp
  have h1:=st.p1
  obtain⟨n,h3,hn,hpn,hlt⟩:=st.sl
  have c1:decide (((2+ino / 4+d:Nat):Int)<(sz:Int))=true:=decide_eq_true (by omega)
  have w1:Jm .i64 (((2+ino / 4+d:Nat):Int)+1)=.int .i64 ((2+ino / 4+(d+1):Nat):Int):=by rw[wrap64 (by omega) (by omega)]; congr 1
  have ap:=grow1 (thing 7 a ((2+ino / 4+d:Nat):Int) 0) hn hlt (by rw[List.length_append,Zz8]; omega)
  simp only[thing] at ap
  show Goes K Tryz.prog 73 none (q47 [1,1,1,1,1,0,1,2,2,1,0,2,1,1,1,2]) _ _ _ _
  rw[Ea]
  refine Goes.loop ?_
  show Goes K Tryz.prog 73 none (q47 [1,1,1,1,1,0,1,2,2,1,0,2,1,1,1,2,2]) _ _ _ _
  rw[Lx]
  refine Goes.seq ?_
  show Goes K Tryz.prog 73 none (q47 [1,1,1,1,1,0,1,2,2,1,0,2,1,1,1,2,2,0]) _ _ _ _
  rw[Lb]
  refine Goes.seq ?_
  show Goes K Tryz.prog 73 none (q47 [1,1,1,1,1,0,1,2,2,1,0,2,1,1,1,2,2,0,0]) _ _ _ _
  rw[Fp]
  refine Goes.ops2 fits Hh Zb (by
   simp only[q47,piece,part0,part1,part2,Yh,part3,part4,Z5,Tryz.f47,Zt]
   simp (decide:=true) only [go_sem,Zz,H.get_put,H.Zh,Za,Z9,reduceIte,Nat.reduceAdd,Nat.reduceMul,h8,h6,h1,h3,hg,c1,w1,ap,Zb1,geo1,Oz,F4,F6,cW,Nat.zero_add,bld5,bs1,Jo,U3,Zm]
   rfl) ?_
  show Goes K Tryz.prog 73 none (q47 [1,1,1,1,1,0,1,2,2,1,0,2,1,1,1,2,2,0,1]) _ _ _ _
  rw[Fw]
  refine Goes.Q3 (by simp (decide:=true) only [Z0,Y0,asC,Zi,reduceIte,J9,Jh,h8,h6,h1,h3,hg,c1,w1,ap,Zb1,geo1,Oz,F4,F6,cW,Nat.zero_add,bld5,bs1,Jo,U3,Zm]) ?_
  show Goes K Tryz.prog 73 none (q47 [1,1,1,1,1,0,1,2,2,1,0,2,1,1,1,2,2,0,1,3]) _ _ _ _
  rw[Td]
  refine Goes.skip ?_
  show Goes K Tryz.prog 73 none (q47 [1,1,1,1,1,0,1,2,2,1,0,2,1,1,1,2,2,1]) _ _ _ _
  rw[X7]
  refine Goes.seq ?_
  show Goes K Tryz.prog 73 none (q47 [1,1,1,1,1,0,1,2,2,1,0,2,1,1,1,2,2,1,0]) _ _ _ _
  rw[Vu]
  refine Goes.block ?_
  show Goes K Tryz.prog 73 none (q47 [1,1,1,1,1,0,1,2,2,1,0,2,1,1,1,2,2,1,0,2]) _ _ _ _
  rw[Tq]
  refine Goes.ops2 fits Hh Zb (by
   simp only[q47,piece,part0,part1,part2,Yh,part3,part4,Z5,Tryz.f47,Zt]
   simp (decide:=true) only [go_sem,Zz,H.get_put,H.Zh,Za,Z9,reduceIte,Nat.reduceAdd,Nat.reduceMul,h8,h6,h1,h3,hg,c1,w1,ap,Zb1,geo1,Oz,F4,F6,cW,Nat.zero_add,bld5,bs1,Jo,U3,Zm]
   rfl) ?_
  show Goes K Tryz.prog 73 none (q47 [1,1,1,1,1,0,1,2,2,1,0,2,1,1,1,2,2,1,1]) _ _ _ _
  rw[V8]
  refine Goes.ops2 fits Hh Zb (by
   simp only[q47,piece,part0,part1,part2,Yh,part3,part4,Z5,Tryz.f47,Zt]
   simp (decide:=true) only [go_sem,Zz,H.get_put,H.Zh,Za,Z9,reduceIte,Nat.reduceAdd,Nat.reduceMul,h8,h6,h1,h3,hg,c1,w1,ap,Zb1,geo1,Oz,F4,F6,cW,Nat.zero_add,bld5,bs1,Jo,U3,Zm]
   rfl) ?_
  show Goes K Tryz.prog 73 none (.loop (q47 [1,1,1,1,1,0,1,2,2,1,0,2,1,1,1,2,2])) _ _ _ _
  rw[←Ea]
  refine (ih (d+1) _ _ (by omega) ?_ ?_ ?_).mono ?_
  ·rw[Z9e,←List.append_assoc]
   refine st.grow hpn hlt ?_ ?_
   ·simp (decide:=true) only [Zi,reduceIte,h1]
   ·simp (decide:=true) only [Zi,reduceIte]
    rfl
  ·simp (decide:=true) only [Zi,reduceIte,h6]
  ·simp (decide:=true) only [Zi,reduceIte]
  ·rintro x ds' ts' h' ⟨e1,e2,e3,e4,e5⟩
   refine⟨e1,e2,e3,e4,?_⟩
   rw[e5]
   simp (decide:=true) only [Zi,reduceIte]
theorem all2 {gr sz ino jr:Nat} (F:Fine gr sz ino jr) (p:Nat) (h0:Go.Ev.H) (hp:h0.get p=some (.row 4 [Yf gr sz ino jr] false)):∀ (k a:Nat) (ts:Zy) (h:Go.Ev.H),a+k=gr→AllSt p h0 (jrL jr++Od sz ino a) ts h→Zp ts 6=.w (.c (.int .i64 a))→Zp ts 5=.w (.c (.int .i64 ((1+a * ino:Nat):Int))) →
  Goes K Tryz.prog 73 none (q47 [1,1,1,1,1,0,1,2]) [] ts h fun x ds' ts' h'=>x=.exit 2∧ds'=[]∧AllSt p h0 (Zr0 gr sz ino jr) ts' h':=by
 have F':=F
 obtain⟨g1,g2,g3,g4,g5,g6,g7,g8,g9,g10,g11⟩:=F
 intro k
 induction k with
 | zero =>
  intro a ts h ha st h6 h5
  have ea:a=gr:=by omega
  subst ea
  have hg:h.get p=some (.row 4 [[.int .i64 a,.int .i64 sz,.int .i64 ino,.int .i64 jr]] false):=(st.keep p (Nat.le_refl _)).trans hp
  have h1:=st.p1
  have c1:decide ((a:Int)<(a:Int))=false:=decide_eq_false (by omega)
  show Goes K Tryz.prog 73 none (q47 [1,1,1,1,1,0,1,2]) _ _ _ _
  rw[X4]
  refine Goes.loop ?_
  show Goes K Tryz.prog 73 none (q47 [1,1,1,1,1,0,1,2,2]) _ _ _ _
  rw[Zbx]
  refine Goes.seq ?_
  show Goes K Tryz.prog 73 none (q47 [1,1,1,1,1,0,1,2,2,0]) _ _ _ _
  rw[Qq]
  refine Goes.seq ?_
  show Goes K Tryz.prog 73 none (q47 [1,1,1,1,1,0,1,2,2,0,0]) _ _ _ _
  rw[W9]
  refine Goes.ops2 fits Hh Zb (by
   simp only[q47,piece,part0,part1,part2,Yh,part3,part4,Z5,Tryz.f47,Zt]
   simp (decide:=true) only [go_sem,Zz,H.get_put,H.Zh,Za,Z9,reduceIte,Nat.reduceAdd,Nat.reduceMul,h6,h1,hg,c1,Zb3,geo0,Oz,F4,F6,cW,Nat.zero_add]
   rfl) ?_
  show Goes K Tryz.prog 73 none (q47 [1,1,1,1,1,0,1,2,2,0,1]) _ _ _ _
  rw[Qa]
  refine Goes.Qb (by simp (decide:=true) only [Z0,Y0,asC,Zi,reduceIte,J9,Jh,h6,h1,hg,c1,Zb3,geo0,Oz,F4,F6,cW,Nat.zero_add]) ?_
  show Goes K Tryz.prog 73 none (q47 [1,1,1,1,1,0,1,2,2,0,1,4]) _ _ _ _
  rw[Zgp]
  refine Goes.exit ?_
  refine⟨rfl,rfl,st.same ?_ ?_⟩
  ·simp (decide:=true) only [Zi,reduceIte]
  ·simp (decide:=true) only [Zi,reduceIte]
 | succ k ih =>
  intro a ts h ha st h6 h5
  have hm:a * sz≤gr * sz:=Nat.mul_le_mul (by omega) (Nat.le_refl _)
  have hm2:(a+1) * sz≤gr * sz:=Nat.mul_le_mul (by omega) (Nat.le_refl _)
  rw[Nat.succ_mul] at hm2
  have hlen:(jrL jr++Od sz ino a).length=2+jr+a * sz:=by rw[List.length_append,Zqa,Zuv g10]
  have hg:h.get p=some (.row 4 [[.int .i64 gr,.int .i64 sz,.int .i64 ino,.int .i64 jr]] false):=(st.keep p (Nat.le_refl _)).trans hp
  have h1:=st.p1
  obtain⟨n,h3,hn,hpn,hlt⟩:=st.sl
  have c1:decide ((a:Int)<(gr:Int))=true:=decide_eq_true (by omega)
  have ap:=grow2 (thing 4 a 0 0) (thing 5 a 1 0) hn hlt (by rw[hlen]; omega)
  simp only[thing] at ap
  show Goes K Tryz.prog 73 none (q47 [1,1,1,1,1,0,1,2]) _ _ _ _
  rw[X4]
  refine Goes.loop ?_
  show Goes K Tryz.prog 73 none (q47 [1,1,1,1,1,0,1,2,2]) _ _ _ _
  rw[Zbx]
  refine Goes.seq ?_
  show Goes K Tryz.prog 73 none (q47 [1,1,1,1,1,0,1,2,2,0]) _ _ _ _
  rw[Qq]
  refine Goes.seq ?_
  show Goes K Tryz.prog 73 none (q47 [1,1,1,1,1,0,1,2,2,0,0]) _ _ _ _
  rw[W9]
  refine Goes.ops2 fits Hh Zb (by
   simp only[q47,piece,part0,part1,part2,Yh,part3,part4,Z5,Tryz.f47,Zt]
   simp (decide:=true) only [go_sem,Zz,H.get_put,H.Zh,Za,Z9,reduceIte,Nat.reduceAdd,Nat.reduceMul,h6,h1,h3,hg,c1,ap,Zb3,geo0,Oz,F4,F6,cW,Nat.zero_add,bld4,bld5,bs2,Jo,U3,Zm]
   rfl) ?_
  show Goes K Tryz.prog 73 none (q47 [1,1,1,1,1,0,1,2,2,0,1]) _ _ _ _
  rw[Qa]
  refine Goes.Q3 (by simp (decide:=true) only [Z0,Y0,asC,Zi,reduceIte,J9,Jh,h6,h1,h3,hg,c1,ap,Zb3,geo0,Oz,F4,F6,cW,Nat.zero_add,bld4,bld5,bs2,Jo,U3,Zm]) ?_
  show Goes K Tryz.prog 73 none (q47 [1,1,1,1,1,0,1,2,2,0,1,3]) _ _ _ _
  rw[Zf6]
  refine Goes.skip ?_
  show Goes K Tryz.prog 73 none (q47 [1,1,1,1,1,0,1,2,2,1]) _ _ _ _
  rw[Zjf]
  refine Goes.seq ?_
  show Goes K Tryz.prog 73 none (q47 [1,1,1,1,1,0,1,2,2,1,0]) _ _ _ _
  rw[Zhx]
  refine Goes.block ?_
  show Goes K Tryz.prog 73 none (q47 [1,1,1,1,1,0,1,2,2,1,0,2]) _ _ _ _
  rw[Zfr]
  refine Goes.seq ?_
  show Goes K Tryz.prog 73 none (q47 [1,1,1,1,1,0,1,2,2,1,0,2,0]) _ _ _ _
  rw[Zd0]
  refine Goes.ops2 fits Hh Zb (by
   simp only[q47,piece,part0,part1,part2,Yh,part3,part4,Z5,Tryz.f47,Zt]
   simp (decide:=true) only [go_sem,Zz,H.get_put,H.Zh,Za,Z9,reduceIte,Nat.reduceAdd,Nat.reduceMul,h6,h1,h3,hg,c1,ap,Zb3,geo0,Oz,F4,F6,cW,Nat.zero_add,bld4,bld5,bs2,Jo,U3,Zm]
   rfl) ?_
  show Goes K Tryz.prog 73 none (q47 [1,1,1,1,1,0,1,2,2,1,0,2,1]) _ _ _ _
  rw[Zfj]
  refine Goes.seq ?_
  show Goes K Tryz.prog 73 none (q47 [1,1,1,1,1,0,1,2,2,1,0,2,1,0]) _ _ _ _
  rw[Zcy]
  refine Goes.seq ?_
  show Goes K Tryz.prog 73 none (q47 [1,1,1,1,1,0,1,2,2,1,0,2,1,0,0]) _ _ _ _
  rw[Zbm]
  refine Goes.ops2 fits Hh Zb (by
   simp only[q47,piece,part0,part1,part2,Yh,part3,part4,Z5,Tryz.f47,Zt]
   simp (decide:=true) only [go_sem,Zz,H.get_put,H.Zh,Za,Z9,reduceIte,Nat.reduceAdd,Nat.reduceMul,h6,h1,h3,hg,c1,ap,Zb3,geo0,Oz,F4,F6,cW,Nat.zero_add,bld4,bld5,bs2,Jo,U3,Zm]
   rfl) ?_
  show Goes K Tryz.prog 73 none (q47 [1,1,1,1,1,0,1,2,2,1,0,2,1,0,1]) _ _ _ _
  rw[Zbk]
  refine Goes.block ((all4 Hh F' a (by omega) p h0 hp ((jrL jr++Od sz ino a)++[thing 4 a 0 0,thing 5 a 1 0]) (by rw[List.length_append,hlen]; show _+2≤_; omega) (ino / 4) 0 _ _ (by omega) ?_ ?_ ?_ ?_).mono ?_)
  ·rw[show inL a ino 0=[] from rfl,List.append_nil]
   refine st.grow hpn hlt ?_ ?_
   ·simp (decide:=true) only [Zi,reduceIte,h1]
   ·simp (decide:=true) only [Zi,reduceIte]
    rfl
  ·simp (decide:=true) only [Zi,reduceIte,h6]
  ·simp (decide:=true) only [Zi,reduceIte]
   rfl
  ·simp (decide:=true) only [Zi,reduceIte,h5]
   rfl
  rintro x ds' ts1 h2 ⟨rfl,rfl,st1,f6,f5⟩
  have hg1:h2.get p=some (.row 4 [[.int .i64 gr,.int .i64 sz,.int .i64 ino,.int .i64 jr]] false):=(st1.keep p (Nat.le_refl _)).trans hp
  have f1:=st1.p1
  have q1:V5 .i64 (ino:Int) 4=some (.int .i64 ((ino / 4:Nat):Int)):=by
   show some (Jm .i64 ((ino:Int).tdiv 4))=_
   rw[show (ino:Int).tdiv 4=((ino / 4:Nat):Int) from rfl,wrap64 (by omega) (by omega)]
  have w1:Jm .i64 (2+((ino / 4:Nat):Int))=.int .i64 ((2+ino / 4:Nat):Int):=by rw[wrap64 (by omega) (by omega)]; congr 1
  show Goes K Tryz.prog 73 none (q47 [1,1,1,1,1,0,1,2,2,1,0,2,1,1]) _ _ _ _
  rw[Zc6]
  refine Goes.seq ?_
  show Goes K Tryz.prog 73 none (q47 [1,1,1,1,1,0,1,2,2,1,0,2,1,1,0]) _ _ _ _
  rw[Zbd]
  refine Goes.ops2 fits Hh Zb (by
   simp only[q47,piece,part0,part1,part2,Yh,part3,part4,Z5,Tryz.f47,Zt]
   simp (decide:=true) only [go_sem,Zz,H.get_put,H.Zh,Za,Z9,reduceIte,Nat.reduceAdd,Nat.reduceMul,f1,hg1,q1,w1,Ww,geo2,Oz,F4,F6,cW,Nat.zero_add]
   rfl) ?_
  show Goes K Tryz.prog 73 none (q47 [1,1,1,1,1,0,1,2,2,1,0,2,1,1,1]) _ _ _ _
  rw[Zbi]
  refine Goes.block ((all6 Hh F' a (by omega) p h0 hp (((jrL jr++Od sz ino a)++[thing 4 a 0 0,thing 5 a 1 0])++inL a ino (ino / 4)) (by rw[List.length_append,List.length_append,hlen,Zps]; show _+2+_≤_; omega) (sz - (2+ino / 4)) 0 _ _ (by omega) ?_ ?_ ?_).mono ?_)
  ·rw[show daL a ino 0=[] from rfl,List.append_nil]
   refine st1.same ?_ ?_
   ·simp (decide:=true) only [Zi,reduceIte]
   ·simp (decide:=true) only [Zi,reduceIte]
  ·simp (decide:=true) only [Zi,reduceIte,f6]
  ·simp (decide:=true) only [Zi,reduceIte]
   rfl
  rintro x ds' ts2 h3' ⟨rfl,rfl,st2,k6,k5⟩
  have k5':Zp ts2 5=.w (.c (.int .i64 ((1+(a+1) * ino:Nat):Int))):=by
   rw[k5]
   simp (decide:=true) only [Zi,reduceIte,f5]
  have w2:Jm .i64 ((a:Int)+1)=.int .i64 ((a+1:Nat):Int):=by rw[wrap64 (by omega) (by omega)]; congr 1
  show Goes K Tryz.prog 73 none (q47 [1,1,1,1,1,0,1,2,2,1,1]) _ _ _ _
  rw[Zif]
  refine Goes.ops2 fits Hh Zb (by
   simp only[q47,piece,part0,part1,part2,Yh,part3,part4,Z5,Tryz.f47,Zt]
   simp (decide:=true) only [go_sem,Zz,H.get_put,H.Zh,Za,Z9,reduceIte,Nat.reduceAdd,Nat.reduceMul,k6,w2]
   rfl) ?_
  show Goes K Tryz.prog 73 none (.loop (q47 [1,1,1,1,1,0,1,2,2])) _ _ _ _
  rw[←X4]
  refine ih (a+1) _ _ (by omega) ?_ ?_ ?_
  ·have e:jrL jr++Od sz ino (a+1)=(jrL jr++Od sz ino a)++[thing 4 a 0 0,thing 5 a 1 0]++inL a ino (ino / 4)++daL a ino (sz - (2+ino / 4)):=by
    rw[Ze1,grL]
    simp only[List.append_assoc]
   rw[e]
   refine st2.same ?_ ?_
   ·simp (decide:=true) only [Zi,reduceIte]
   ·simp (decide:=true) only [Zi,reduceIte]
  ·simp (decide:=true) only [Zi,reduceIte]
  ·simp (decide:=true) only [Zi,reduceIte,k5']
omit Hh in
theorem Z1k (gr sz ino jr:Nat):(Zr0 gr sz ino jr).all (fun l=>l.all C.flat)=true:=by
 rw[List.all_eq_true]
 intro l hl
 simp only[Zr0,jrL,Od,grL,inL,daL,List.mem_append,List.mem_flatMap,List.mem_map,List.mem_cons,List.not_mem_nil,or_false] at hl
 rcases hl with ((h|h)|⟨_,_,h⟩)|⟨_,_,((h|h)|⟨_,_,h⟩)|⟨_,_,h⟩⟩<;>subst h<;>rfl
theorem Yhk {gr sz ino jr:Nat} (F:Fine gr sz ino jr) (h:Go.Ev.H):Zd K Tryz.prog 47 [.g (Yf gr sz ino jr)] h (.w (.c (.slice h.next 0 (Zr0 gr sz ino jr).length 4))) (h.new (.row 4 (Zr0 gr sz ino jr) false)):=by
 refine Zd.tidy ⟨_,Tryz.func47,by kernel_rfl,of_decide_eq_true (by kernel_rfl)⟩ fun tidy=>?_
 suffices hs:Goes K Tryz.prog 73 none (q47 []) [] (O7 0 [.g (Yf gr sz ino jr)] .nil) h fun x ds ts h1=>∃ n,h.next≤n∧n<h1.next∧h1.get n=some (.row 4 (Zr0 gr sz ino jr) false)∧(∀ n,n<h.next→h1.get n=h.get n)∧leave K Tryz.f47 (some (.at x ds ts h1))=some (.val (.w (.c (.slice n 0 (Zr0 gr sz ino jr).length 4))) h1) by
  obtain⟨x,ds,ts,h1,g,n,e1,e2,e3,e4,e5⟩:=hs
  exact (Zd.body fits Hh (by kernel_rfl) (by kernel_rfl) (by kernel_rfl) (by kernel_rfl) rfl g e5).row1 e1 e3 (Z1k _ _ _ _) e2 e4
 have e0:Zp (O7 0 [.g (Yf gr sz ino jr)] .nil) 0=.w (.g (Yf gr sz ino jr)):=by rw[U9]; rfl
 have lg:(Yf gr sz ino jr).length=4:=rfl
 have rg:Zc 4 [Yf gr sz ino jr] 0 4=some (Yf gr sz ino jr):=rfl
 have nslice:Zgb (.slice none 0 0)=some (.w (.c .snil)):=rfl
 have e1:Tryz.f47.results.toList=[.tmp 2]:=rfl
 have mk:=Yde Hh F (h.new (.row 4 [Yf gr sz ino jr] false))
 show Goes K Tryz.prog 73 none (q47 []) _ _ _ _
 rw[Yig]
 refine Goes.seq ?_
 show Goes K Tryz.prog 73 none (q47 [0]) _ _ _ _
 rw[q47_0]
 refine Goes.ops2 fits Hh Zb (by
  simp only[q47,piece,part0,part1,part2,Yh,part3,part4,Z5,Tryz.f47,Zt]
  simp (decide:=true) only [go_sem,Zz,H.get_put,H.Zh,Za,Z9,reduceIte,Nat.reduceAdd,Nat.reduceMul,e0,lg,rg,nslice,Zn,Zuh,Z6l,Z4x,gW,bld1,bs2,Jo]
  rfl) ?_
 show Goes K Tryz.prog 73 none (q47 [1]) _ _ _ _
 rw[q47_1]
 refine Goes.seq ?_
 show Goes K Tryz.prog 73 none (q47 [1,0]) _ _ _ _
 rw[Ydp]
 refine Goes.seq ?_
 show Goes K Tryz.prog 73 none (q47 [1,0,0]) _ _ _ _
 rw[Yb3]
 refine Goes.ops2 fits Hh (Z8 Zb mk) (by
  simp only[q47,piece,part0,part1,part2,Yh,part3,part4,Z5,Tryz.f47,Zt]
  simp (decide:=true) only [go_sem,Zz,H.get_put,H.Zh,Za,Z9,reduceIte,Nat.reduceAdd,Nat.reduceMul,Yo,e0,lg,rg,nslice,Zn,Zuh,Z6l,Z4x,gW,bld1,bs2,Jo]
  rfl) ?_
 show Goes K Tryz.prog 73 none (q47 [1,0,1]) _ _ _ _
 rw[Yb2]
 refine Goes.Qb (by simp (decide:=true) only [Z0,Y0,asC,Zi,reduceIte,J9,Jh,e0,lg,rg,nslice,Zn,Zuh,Z6l,Z4x,gW,bld1,bs2,Jo]) ?_
 show Goes K Tryz.prog 73 none (q47 [1,0,1,4]) _ _ _ _
 rw[Z7d]
 refine Goes.skip ?_
 show Goes K Tryz.prog 73 none (q47 [1,1]) _ _ _ _
 rw[Yez]
 refine Goes.seq ?_
 show Goes K Tryz.prog 73 none (q47 [1,1,0]) _ _ _ _
 rw[Yb9]
 refine Goes.ops2 fits Hh Zb (by
  simp only[q47,piece,part0,part1,part2,Yh,part3,part4,Z5,Tryz.f47,Zt]
  simp (decide:=true) only [go_sem,Zz,H.get_put,H.Zh,Za,Z9,reduceIte,Nat.reduceAdd,Nat.reduceMul,e0,lg,rg,nslice,Zn,Zuh,Z6l,Z4x,gW,bld1,bs2,Jo]
  rfl) ?_
 show Goes K Tryz.prog 73 none (q47 [1,1,1]) _ _ _ _
 rw[Z95]
 refine Goes.seq ?_
 show Goes K Tryz.prog 73 none (q47 [1,1,1,0]) _ _ _ _
 rw[Z8t]
 refine Goes.seq ?_
 show Goes K Tryz.prog 73 none (q47 [1,1,1,0,0]) _ _ _ _
 rw[Z3w]
 refine Goes.ops2 fits Hh Zb (by
  simp only[q47,piece,part0,part1,part2,Yh,part3,part4,Z5,Tryz.f47,Zt]
  simp (decide:=true) only [go_sem,Zz,H.get_put,H.Zh,Za,Z9,reduceIte,Nat.reduceAdd,Nat.reduceMul,e0,lg,rg,nslice,Zn,Zuh,Z6l,Z4x,gW,bld1,bs2,Jo]
  rfl) ?_
 show Goes K Tryz.prog 73 none (q47 [1,1,1,0,1]) _ _ _ _
 rw[Z3o]
 refine Goes.block ?_
 show Goes K Tryz.prog 73 none (q47 [1,1,1,0,1,2]) _ _ _ _
 have hp:(h.new (.row 4 [Yf gr sz ino jr] false)).get h.next=some (.row 4 [Yf gr sz ino jr] false):=by rw[H.Zh,if_pos rfl]
 refine (all1 Hh F h.next (h.new (.row 4 [Yf gr sz ino jr] false)) hp jr 0 _ _ (by omega) ⟨?_,⟨h.next+1,?_,?_,?_,?_⟩,?_,?_⟩ ?_).mono ?_
 ·simp (decide:=true) only [Zi,reduceIte]
 ·simp (decide:=true) only [Zi,reduceIte,H.Ze]
  rfl
 ·rw[H.Zh,H.Ze,if_pos rfl]
  rfl
 ·omega
 ·rw[H.Ze,H.Ze]; omega
 ·simp only[H.Ze]; omega
 ·intro m hm
  rw[H.Zh,H.Ze,if_neg (by omega)]
 ·simp (decide:=true) only [Zi,reduceIte]
  rfl
 rintro x ds' ts1 h1 ⟨rfl,rfl,st1⟩
 show Goes K Tryz.prog 73 none (q47 [1,1,1,1]) _ _ _ _
 rw[Z5y]
 refine Goes.seq ?_
 show Goes K Tryz.prog 73 none (q47 [1,1,1,1,0]) _ _ _ _
 rw[Z2g]
 refine Goes.ops2 fits Hh Zb (by
  simp only[q47,piece,part0,part1,part2,Yh,part3,part4,Z5,Tryz.f47,Zt]
  simp (decide:=true) only [go_sem,Zz,H.get_put,H.Zh,Za,Z9,reduceIte,Nat.reduceAdd,Nat.reduceMul]
  rfl) ?_
 show Goes K Tryz.prog 73 none (q47 [1,1,1,1,1]) _ _ _ _
 rw[Z08]
 refine Goes.seq ?_
 show Goes K Tryz.prog 73 none (q47 [1,1,1,1,1,0]) _ _ _ _
 rw[Zwb]
 refine Goes.seq ?_
 show Goes K Tryz.prog 73 none (q47 [1,1,1,1,1,0,0]) _ _ _ _
 rw[Zua]
 refine Goes.ops2 fits Hh Zb (by
  simp only[q47,piece,part0,part1,part2,Yh,part3,part4,Z5,Tryz.f47,Zt]
  simp (decide:=true) only [go_sem,Zz,H.get_put,H.Zh,Za,Z9,reduceIte,Nat.reduceAdd,Nat.reduceMul]
  rfl) ?_
 show Goes K Tryz.prog 73 none (q47 [1,1,1,1,1,0,1]) _ _ _ _
 rw[Zu6]
 refine Goes.block ?_
 show Goes K Tryz.prog 73 none (q47 [1,1,1,1,1,0,1,2]) _ _ _ _
 refine (all2 Hh F h.next (h.new (.row 4 [Yf gr sz ino jr] false)) hp gr 0 _ _ (by omega) ?_ ?_ ?_).mono ?_
 ·rw[show Od sz ino 0=[] from rfl,List.append_nil]
  refine st1.same ?_ ?_
  ·simp (decide:=true) only [Zi,reduceIte]
  ·simp (decide:=true) only [Zi,reduceIte]
 ·simp (decide:=true) only [Zi,reduceIte]
  rfl
 ·simp (decide:=true) only [Zi,reduceIte]
  rw[Nat.zero_mul]
  rfl
 rintro x ds' ts2 h2 ⟨rfl,rfl,st2⟩
 obtain⟨n,f3,hn,hpn,hlt⟩:=st2.sl
 show Goes K Tryz.prog 73 none (q47 [1,1,1,1,1,1]) _ _ _ _
 rw[Zvp]
 refine Goes.seq ?_
 show Goes K Tryz.prog 73 none (q47 [1,1,1,1,1,1,0]) _ _ _ _
 rw[Zsd]
 refine Goes.ops2 fits Hh Zb (by
  simp only[q47,piece,part0,part1,part2,Yh,part3,part4,Z5,Tryz.f47,Zt]
  simp (decide:=true) only [go_sem,Zz,H.get_put,H.Zh,Za,Z9,reduceIte,Nat.reduceAdd,Nat.reduceMul,f3]
  rfl) ?_
 show Goes K Tryz.prog 73 none (q47 [1,1,1,1,1,1,1]) _ _ _ _
 rw[Zsm]
 refine Goes.ret ?_
 refine⟨n,by omega,hlt,hn,fun m hm=>?_,?_⟩
 ·rw[st2.keep m (by omega),H.Zh,if_neg (by omega)]
 ·simp (decide:=true) only [N7,Ur,finish,e1,Ui,evalW,Y0,asW,Zi,reduceIte,Bj]
end
end Go.Proofs.YtmdibcklpmeleaaGreatDoor
set_option maxRecDepth 100000
set_option maxHeartbeats 4000000
namespace Go.Proofs.YtmdibcklpmeleaaGreatDoor
open Go.Ev
theorem ty99:K.types.get 99=some ti99:=by kernel_rfl
theorem sz99:ti99.size=1:=by rfl
theorem ag99:ti99.agg=false:=by rfl
theorem de99:ti99.desc=(.slice 149):=by rfl
theorem ze99:ti99.zero=(.c (.snil)):=by rfl
theorem by99:ti99.bytes=24:=by rfl
theorem el99:Jl K 99=some ti149:=by kernel_rfl
theorem ty149:K.types.get 149=some ti149:=by kernel_rfl
theorem sz149:ti149.size=4:=by rfl
theorem ag149:ti149.agg=true:=by rfl
theorem fo149_0:Zr K 149 0=some (0,ti5):=by kernel_rfl
theorem fo149_1:Zr K 149 1=some (1,ti3):=by kernel_rfl
theorem fo149_2:Zr K 149 2=some (2,ti3):=by kernel_rfl
theorem fo149_3:Zr K 149 3=some (3,ti3):=by kernel_rfl
theorem bu149 (ps:List (Nat × W)):Yi K 149 (some ps)=gW (Z7 K 149 ps ti149.zero.cells):=by kernel_rfl
theorem ze149:ti149.zero=(.g ([.int .u8 0,.int .i64 0,.int .i64 0,.int .i64 0])):=by rfl
theorem by149:ti149.bytes=32:=by rfl
attribute [go_sem] ty99 sz99 ag99 de99 ze99 by99 el99 ty149 sz149 ag149 fo149_0 fo149_1 fo149_2 fo149_3 bu149 ze149 by149
noncomputable def q14 (p:List Nat):Code:=piece p (Z5 Tryz.f14)
theorem Yid:q14 []=.seq (q14 [0]) (q14 [1]):=by kernel_rfl
theorem q14_0:q14 [0]=.region 0 (Zt (q14 [0])) false:=by kernel_rfl
theorem q14_1:q14 [1]=.seq (q14 [1,0]) (q14 [1,1]):=by kernel_rfl
theorem Ye1:q14 [1,0]=.region 1 (Zt (q14 [1,0])) false:=by kernel_rfl
theorem Ye2:q14 [1,1]=.ret:=by kernel_rfl
theorem rs14:Tryz.f14.results.toList=[.tmp 2]:=rfl
attribute [go_sem] rs14
def Zex (a b c d:Int):Bool:=decide (0≤a)&&decide (0≤b)&&decide (0≤c)&&decide (0≤d)&&U7 a.toNat b.toNat c.toNat d.toNat
theorem Z16 (a b c d:Nat):Zex a b c d=U7 a b c d:=by
 unfold Zex
 rw[decide_eq_true (by omega:(0:Int)≤(a:Int)),decide_eq_true (by omega:(0:Int)≤(b:Int)),decide_eq_true (by omega:(0:Int)≤(c:Int)),decide_eq_true (by omega:(0:Int)≤(d:Int))]
 simp only[Bool.true_and,Int.toNat_natCast]
section
variable (Hh:Hearts K Tryz.prog)
include Hh
set_option maxHeartbeats 4000000 in
theorem Z6o (a b c d:Int) (h:Go.Ev.H) (nf:¬(0≤a∧0≤b∧0≤c∧0≤d∧Fine a.toNat b.toNat c.toNat d.toNat)):Zd K Tryz.prog 13 [.g [.int .i64 a,.int .i64 b,.int .i64 c,.int .i64 d]] h (.w (.c (.bool false))) h:=by
 obtain⟨v,h',cc,rfl,hk⟩:∃ v h',Zd K Tryz.prog 13 [.g [.int .i64 a,.int .i64 b,.int .i64 c,.int .i64 d]] h v h'∧v=.w (.c (.bool false))∧∀ m,m<h.next→h'.get m=h.get m:=by
  by_cases c0:a<1
  ·
   refine Zd.Ya fits Hh (by kernel_rfl) (by kernel_rfl) (by kernel_rfl) (show Tryz.f13.body=some _ from rfl) rfl ?_
   repeat (first
    | refine Goes.seq ?_
    | refine Goes.block ?_
    | refine Goes.loop ?_
    | refine Goes.skip ?_
    | refine Goes.exit ?_
    | refine Goes.ret ?_
    | refine Goes.Z4 (by simp (maxSteps:=9^6) +decide (disch:=first|omega|(simp only[lens]<;>omega)|decide) only [go_sem,Zc,Za,simprocAttr,read1,Zn]<;>rfl) ?_
    | refine Goes.ops2 fits Hh Zb (by simp (maxSteps:=9^6) +decide (disch:=first|omega|(simp only[lens]<;>omega)|decide) only [go_sem,Zc,Za,simprocAttr,read1,Zn]; rfl) ?_)
   exact⟨_,_,(by simp (maxSteps:=9^6) +decide (disch:=first|omega|(simp only[lens]<;>omega)|decide) only [go_sem,Zc,Za,simprocAttr]<;>rfl),rfl,fun m hm=>by (first|(simp (discharger:=omega) only [H.get_put,H.Zh,H.Zk,H.Ze,H.Zg,H.Zj,if_neg]; done)|(simp only[H.get_put,H.Zh,H.Zk,H.Ze,H.Zg,H.Zj]; (repeat' split)<;>first|rfl|(exfalso; omega)|omega))⟩
  by_cases c1:4<a
  ·
   refine Zd.Ya fits Hh (by kernel_rfl) (by kernel_rfl) (by kernel_rfl) (show Tryz.f13.body=some _ from rfl) rfl ?_
   repeat (first
    | refine Goes.seq ?_
    | refine Goes.block ?_
    | refine Goes.loop ?_
    | refine Goes.skip ?_
    | refine Goes.exit ?_
    | refine Goes.ret ?_
    | refine Goes.Z4 (by simp (maxSteps:=9^6) +decide (disch:=first|omega|(simp only[lens]<;>omega)|decide) only [go_sem,Zc,Za,simprocAttr,read1,Zn]<;>rfl) ?_
    | refine Goes.ops2 fits Hh Zb (by simp (maxSteps:=9^6) +decide (disch:=first|omega|(simp only[lens]<;>omega)|decide) only [go_sem,Zc,Za,simprocAttr,read1,Zn]; rfl) ?_)
   exact⟨_,_,(by simp (maxSteps:=9^6) +decide (disch:=first|omega|(simp only[lens]<;>omega)|decide) only [go_sem,Zc,Za,simprocAttr]<;>rfl),rfl,fun m hm=>by (first|(simp (discharger:=omega) only [H.get_put,H.Zh,H.Zk,H.Ze,H.Zg,H.Zj,if_neg]; done)|(simp only[H.get_put,H.Zh,H.Zk,H.Ze,H.Zg,H.Zj]; (repeat' split)<;>first|rfl|(exfalso; omega)|omega))⟩
  by_cases c2:b<16
  ·
   refine Zd.Ya fits Hh (by kernel_rfl) (by kernel_rfl) (by kernel_rfl) (show Tryz.f13.body=some _ from rfl) rfl ?_
   repeat (first
    | refine Goes.seq ?_
    | refine Goes.block ?_
    | refine Goes.loop ?_
    | refine Goes.skip ?_
    | refine Goes.exit ?_
    | refine Goes.ret ?_
    | refine Goes.Z4 (by simp (maxSteps:=9^6) +decide (disch:=first|omega|(simp only[lens]<;>omega)|decide) only [go_sem,Zc,Za,simprocAttr,read1,Zn]<;>rfl) ?_
    | refine Goes.ops2 fits Hh Zb (by simp (maxSteps:=9^6) +decide (disch:=first|omega|(simp only[lens]<;>omega)|decide) only [go_sem,Zc,Za,simprocAttr,read1,Zn]; rfl) ?_)
   exact⟨_,_,(by simp (maxSteps:=9^6) +decide (disch:=first|omega|(simp only[lens]<;>omega)|decide) only [go_sem,Zc,Za,simprocAttr]<;>rfl),rfl,fun m hm=>by (first|(simp (discharger:=omega) only [H.get_put,H.Zh,H.Zk,H.Ze,H.Zg,H.Zj,if_neg]; done)|(simp only[H.get_put,H.Zh,H.Zk,H.Ze,H.Zg,H.Zj]; (repeat' split)<;>first|rfl|(exfalso; omega)|omega))⟩
  by_cases c3:512<b
  ·
   refine Zd.Ya fits Hh (by kernel_rfl) (by kernel_rfl) (by kernel_rfl) (show Tryz.f13.body=some _ from rfl) rfl ?_
   repeat (first
    | refine Goes.seq ?_
    | refine Goes.block ?_
    | refine Goes.loop ?_
    | refine Goes.skip ?_
    | refine Goes.exit ?_
    | refine Goes.ret ?_
    | refine Goes.Z4 (by simp (maxSteps:=9^6) +decide (disch:=first|omega|(simp only[lens]<;>omega)|decide) only [go_sem,Zc,Za,simprocAttr,read1,Zn]<;>rfl) ?_
    | refine Goes.ops2 fits Hh Zb (by simp (maxSteps:=9^6) +decide (disch:=first|omega|(simp only[lens]<;>omega)|decide) only [go_sem,Zc,Za,simprocAttr,read1,Zn]; rfl) ?_)
   exact⟨_,_,(by simp (maxSteps:=9^6) +decide (disch:=first|omega|(simp only[lens]<;>omega)|decide) only [go_sem,Zc,Za,simprocAttr]<;>rfl),rfl,fun m hm=>by (first|(simp (discharger:=omega) only [H.get_put,H.Zh,H.Zk,H.Ze,H.Zg,H.Zj,if_neg]; done)|(simp only[H.get_put,H.Zh,H.Zk,H.Ze,H.Zg,H.Zj]; (repeat' split)<;>first|rfl|(exfalso; omega)|omega))⟩
  by_cases c4:c<4
  ·
   refine Zd.Ya fits Hh (by kernel_rfl) (by kernel_rfl) (by kernel_rfl) (show Tryz.f13.body=some _ from rfl) rfl ?_
   repeat (first
    | refine Goes.seq ?_
    | refine Goes.block ?_
    | refine Goes.loop ?_
    | refine Goes.skip ?_
    | refine Goes.exit ?_
    | refine Goes.ret ?_
    | refine Goes.Z4 (by simp (maxSteps:=9^6) +decide (disch:=first|omega|(simp only[lens]<;>omega)|decide) only [go_sem,Zc,Za,simprocAttr,read1,Zn]<;>rfl) ?_
    | refine Goes.ops2 fits Hh Zb (by simp (maxSteps:=9^6) +decide (disch:=first|omega|(simp only[lens]<;>omega)|decide) only [go_sem,Zc,Za,simprocAttr,read1,Zn]; rfl) ?_)
   exact⟨_,_,(by simp (maxSteps:=9^6) +decide (disch:=first|omega|(simp only[lens]<;>omega)|decide) only [go_sem,Zc,Za,simprocAttr]<;>rfl),rfl,fun m hm=>by (first|(simp (discharger:=omega) only [H.get_put,H.Zh,H.Zk,H.Ze,H.Zg,H.Zj,if_neg]; done)|(simp only[H.get_put,H.Zh,H.Zk,H.Ze,H.Zg,H.Zj]; (repeat' split)<;>first|rfl|(exfalso; omega)|omega))⟩
  by_cases c5:64<c
  ·
   refine Zd.Ya fits Hh (by kernel_rfl) (by kernel_rfl) (by kernel_rfl) (show Tryz.f13.body=some _ from rfl) rfl ?_
   repeat (first
    | refine Goes.seq ?_
    | refine Goes.block ?_
    | refine Goes.loop ?_
    | refine Goes.skip ?_
    | refine Goes.exit ?_
    | refine Goes.ret ?_
    | refine Goes.Z4 (by simp (maxSteps:=9^6) +decide (disch:=first|omega|(simp only[lens]<;>omega)|decide) only [go_sem,Zc,Za,simprocAttr,read1,Zn]<;>rfl) ?_
    | refine Goes.ops2 fits Hh Zb (by simp (maxSteps:=9^6) +decide (disch:=first|omega|(simp only[lens]<;>omega)|decide) only [go_sem,Zc,Za,simprocAttr,read1,Zn]; rfl) ?_)
   exact⟨_,_,(by simp (maxSteps:=9^6) +decide (disch:=first|omega|(simp only[lens]<;>omega)|decide) only [go_sem,Zc,Za,simprocAttr]<;>rfl),rfl,fun m hm=>by (first|(simp (discharger:=omega) only [H.get_put,H.Zh,H.Zk,H.Ze,H.Zg,H.Zj,if_neg]; done)|(simp only[H.get_put,H.Zh,H.Zk,H.Ze,H.Zg,H.Zj]; (repeat' split)<;>first|rfl|(exfalso; omega)|omega))⟩
  obtain⟨c,rfl⟩:=Int.eq_ofNat_of_zero_le (show 0≤c by omega)
  by_cases c6:c % 4≠0
  ·
   refine Zd.Ya fits Hh (by kernel_rfl) (by kernel_rfl) (by kernel_rfl) (show Tryz.f13.body=some _ from rfl) rfl ?_
   repeat (first
    | refine Goes.seq ?_
    | refine Goes.block ?_
    | refine Goes.loop ?_
    | refine Goes.skip ?_
    | refine Goes.exit ?_
    | refine Goes.ret ?_
    | refine Goes.Z4 (by simp (maxSteps:=9^6) +decide (disch:=first|omega|(simp only[lens]<;>omega)|decide) only [go_sem,Zc,Za,simprocAttr,read1,Zn]<;>rfl) ?_
    | refine Goes.ops2 fits Hh Zb (by simp (maxSteps:=9^6) +decide (disch:=first|omega|(simp only[lens]<;>omega)|decide) only [go_sem,Zc,Za,simprocAttr,read1,Zn]; rfl) ?_)
   exact⟨_,_,(by simp (maxSteps:=9^6) +decide (disch:=first|omega|(simp only[lens]<;>omega)|decide) only [go_sem,Zc,Za,simprocAttr]<;>rfl),rfl,fun m hm=>by (first|(simp (discharger:=omega) only [H.get_put,H.Zh,H.Zk,H.Ze,H.Zg,H.Zj,if_neg]; done)|(simp only[H.get_put,H.Zh,H.Zk,H.Ze,H.Zg,H.Zj]; (repeat' split)<;>first|rfl|(exfalso; omega)|omega))⟩
  have c6:c % 4=0:=by omega
  by_cases c7:d<40
  ·
   refine Zd.Ya fits Hh (by kernel_rfl) (by kernel_rfl) (by kernel_rfl) (show Tryz.f13.body=some _ from rfl) rfl ?_
   repeat (first
    | refine Goes.seq ?_
    | refine Goes.block ?_
    | refine Goes.loop ?_
    | refine Goes.skip ?_
    | refine Goes.exit ?_
    | refine Goes.ret ?_
    | refine Goes.Z4 (by simp (maxSteps:=9^6) +decide (disch:=first|omega|(simp only[lens]<;>omega)|decide) only [go_sem,Zc,Za,simprocAttr,read1,Zn]<;>rfl) ?_
    | refine Goes.ops2 fits Hh Zb (by simp (maxSteps:=9^6) +decide (disch:=first|omega|(simp only[lens]<;>omega)|decide) only [go_sem,Zc,Za,simprocAttr,read1,Zn]; rfl) ?_)
   exact⟨_,_,(by simp (maxSteps:=9^6) +decide (disch:=first|omega|(simp only[lens]<;>omega)|decide) only [go_sem,Zc,Za,simprocAttr]<;>rfl),rfl,fun m hm=>by (first|(simp (discharger:=omega) only [H.get_put,H.Zh,H.Zk,H.Ze,H.Zg,H.Zj,if_neg]; done)|(simp only[H.get_put,H.Zh,H.Zk,H.Ze,H.Zg,H.Zj]; (repeat' split)<;>first|rfl|(exfalso; omega)|omega))⟩
  by_cases c8:256<d
  ·
   refine Zd.Ya fits Hh (by kernel_rfl) (by kernel_rfl) (by kernel_rfl) (show Tryz.f13.body=some _ from rfl) rfl ?_
   repeat (first
    | refine Goes.seq ?_
    | refine Goes.block ?_
    | refine Goes.loop ?_
    | refine Goes.skip ?_
    | refine Goes.exit ?_
    | refine Goes.ret ?_
    | refine Goes.Z4 (by simp (maxSteps:=9^6) +decide (disch:=first|omega|(simp only[lens]<;>omega)|decide) only [go_sem,Zc,Za,simprocAttr,read1,Zn]<;>rfl) ?_
    | refine Goes.ops2 fits Hh Zb (by simp (maxSteps:=9^6) +decide (disch:=first|omega|(simp only[lens]<;>omega)|decide) only [go_sem,Zc,Za,simprocAttr,read1,Zn]; rfl) ?_)
   exact⟨_,_,(by simp (maxSteps:=9^6) +decide (disch:=first|omega|(simp only[lens]<;>omega)|decide) only [go_sem,Zc,Za,simprocAttr]<;>rfl),rfl,fun m hm=>by (first|(simp (discharger:=omega) only [H.get_put,H.Zh,H.Zk,H.Ze,H.Zg,H.Zj,if_neg]; done)|(simp only[H.get_put,H.Zh,H.Zk,H.Ze,H.Zg,H.Zj]; (repeat' split)<;>first|rfl|(exfalso; omega)|omega))⟩
  obtain⟨a,rfl⟩:=Int.eq_ofNat_of_zero_le (show 0≤a by omega)
  obtain⟨b,rfl⟩:=Int.eq_ofNat_of_zero_le (show 0≤b by omega)
  obtain⟨d,rfl⟩:=Int.eq_ofNat_of_zero_le (show 0≤d by omega)
  have gm:(a:Int) * (b:Int)=((a * b:Nat):Int):=rfl
  have hm:a * b≤4 * 512:=Nat.mul_le_mul (by omega) (by omega)
  by_cases e1:b<3+c / 4
  ·
   refine Zd.Ya fits Hh (by kernel_rfl) (by kernel_rfl) (by kernel_rfl) (show Tryz.f13.body=some _ from rfl) rfl ?_
   repeat (first
    | refine Goes.seq ?_
    | refine Goes.block ?_
    | refine Goes.loop ?_
    | refine Goes.skip ?_
    | refine Goes.exit ?_
    | refine Goes.ret ?_
    | refine Goes.Z4 (by simp (maxSteps:=9^6) +decide (disch:=first|omega|(simp only[lens]<;>omega)|decide) only [go_sem,Zc,Za,simprocAttr,gm,read1,Zn]<;>rfl) ?_
    | refine Goes.ops2 fits Hh Zb (by simp (maxSteps:=9^6) +decide (disch:=first|omega|(simp only[lens]<;>omega)|decide) only [go_sem,Zc,Za,simprocAttr,gm,read1,Zn]; rfl) ?_)
   exact⟨_,_,(by simp (maxSteps:=9^6) +decide (disch:=first|omega|(simp only[lens]<;>omega)|decide) only [go_sem,Zc,Za,simprocAttr]<;>rfl),rfl,fun m hm=>by (first|(simp (discharger:=omega) only [H.get_put,H.Zh,H.Zk,H.Ze,H.Zg,H.Zj,if_neg]; done)|(simp only[H.get_put,H.Zh,H.Zk,H.Ze,H.Zg,H.Zj]; (repeat' split)<;>first|rfl|(exfalso; omega)|omega))⟩
  by_cases e2:2048<2+d+a * b
  ·
   refine Zd.Ya fits Hh (by kernel_rfl) (by kernel_rfl) (by kernel_rfl) (show Tryz.f13.body=some _ from rfl) rfl ?_
   repeat (first
    | refine Goes.seq ?_
    | refine Goes.block ?_
    | refine Goes.loop ?_
    | refine Goes.skip ?_
    | refine Goes.exit ?_
    | refine Goes.ret ?_
    | refine Goes.Z4 (by simp (maxSteps:=9^6) +decide (disch:=first|omega|(simp only[lens]<;>omega)|decide) only [go_sem,Zc,Za,simprocAttr,gm,read1,Zn]<;>rfl) ?_
    | refine Goes.ops2 fits Hh Zb (by simp (maxSteps:=9^6) +decide (disch:=first|omega|(simp only[lens]<;>omega)|decide) only [go_sem,Zc,Za,simprocAttr,gm,read1,Zn]; rfl) ?_)
   exact⟨_,_,(by simp (maxSteps:=9^6) +decide (disch:=first|omega|(simp only[lens]<;>omega)|decide) only [go_sem,Zc,Za,simprocAttr]<;>rfl),rfl,fun m hm=>by (first|(simp (discharger:=omega) only [H.get_put,H.Zh,H.Zk,H.Ze,H.Zg,H.Zj,if_neg]; done)|(simp only[H.get_put,H.Zh,H.Zk,H.Ze,H.Zg,H.Zj]; (repeat' split)<;>first|rfl|(exfalso; omega)|omega))⟩
  refine absurd ⟨by omega,by omega,by omega,by omega,?_⟩ nf
  simp only[Int.toNat_natCast]
  exact⟨by omega,by omega,by omega,by omega,by omega,by omega,by omega,by omega,by omega,by omega,by omega⟩
 exact cc.quiet rfl hk
noncomputable def Z4j:Kn1:=fun args h=>match args with
 | [.g [.int .i64 a,.int .i64 b,.int .i64 c,.int .i64 d]]=>some (.w (.c (.bool (Zex a b c d))),h)
 | _=>none
theorem Vz {args:List W} {h h':Go.Ev.H} {v:V} (e:Z4j args h=some (v,h')):Zd K Tryz.prog 13 args h v h':=by
 unfold Z4j at e
 split at e
 ·rename_i a b c d
  cases e
  by_cases hp:0≤a∧0≤b∧0≤c∧0≤d
  ·obtain⟨p1,p2,p3,p4⟩:=hp
   obtain⟨a,rfl⟩:=Int.eq_ofNat_of_zero_le p1
   obtain⟨b,rfl⟩:=Int.eq_ofNat_of_zero_le p2
   obtain⟨c,rfl⟩:=Int.eq_ofNat_of_zero_le p3
   obtain⟨d,rfl⟩:=Int.eq_ofNat_of_zero_le p4
   rw[Z16]
   cases hf:U7 a b c d with
   | true=>exact Yde Hh (Yn hf) h
   | false=>exact Z6o Hh a b c d h (fun q=>by
     have:=Zva q.2.2.2.2
     simp only[Int.toNat_natCast] at this
     rw[this] at hf
     cases hf)
  ·have e0:Zex a b c d=false:=by
    unfold Zex
    by_cases p1:0≤a
    ·by_cases p2:0≤b
     ·by_cases p3:0≤c
      ·by_cases p4:0≤d
       ·exact absurd ⟨p1,p2,p3,p4⟩ hp
       ·rw[decide_eq_false p4]; simp
      ·rw[decide_eq_false p3]; simp
     ·rw[decide_eq_false p2]; simp
    ·rw[decide_eq_false p1]; simp
   rw[e0]
   exact Z6o Hh a b c d h (fun q=>hp ⟨q.1,q.2.1,q.2.2.1,q.2.2.2.1⟩)
 ·cases e
noncomputable def Zlj:Kn1:=fun args h=>match args with
 | [.g [.int .i64 a,.int .i64 b,.int .i64 c,.int .i64 d]]=>(J4 a).bind fun a=>(J4 b).bind fun b=>(J4 c).bind fun c=>(J4 d).bind fun d=>Y2 (U7 a b c d) (some (.w (.c (.int .i64 ((2+d+a * b:Nat):Int))),h))
 | _=>none
theorem Yg5 (n off len:Nat):Ud K 99 (.c (.slice n off len 4))=true:=by kernel_rfl
omit Hh in
theorem Z6w {gr sz ino jr:Nat} (F:Fine gr sz ino jr):(Zr0 gr sz ino jr).length=2+jr+gr * sz:=by
 have h1:∀ a,(grL sz ino a).length=sz:=fun a=>by
  have:=F.fit
  simp only[grL,List.length_append,List.length_cons,List.length_nil,inL,daL,List.length_map,List.length_range]
  omega
 have h2:∀ k,(Od sz ino k).length=k * sz:=by
  intro k
  induction k with
  | zero=>simp [Od]
  | succ k ih =>
   have:Od sz ino (k+1)=Od sz ino k++grL sz ino k:=by simp [Od,List.range_succ]
   rw[this,List.length_append,ih,h1,Nat.succ_mul]
 rw[Zr0,List.length_append,Zqa,h2]
theorem Fs {args:List W} {h h':Go.Ev.H} {v:V} (e:Zlj args h=some (v,h')):Zd K Tryz.prog 14 args h v h':=by
 unfold Zlj at e
 split at e
 ·obtain⟨a,ha,e⟩:=Zo e
  obtain⟨b,hb,e⟩:=Zo e
  obtain⟨c,hc,e⟩:=Zo e
  obtain⟨d,hd,e⟩:=Zo e
  obtain⟨f,e⟩:=Zu.1 e
  cases e
  rw[Z6 ha,Z6 hb,Z6 hc,Z6 hd]
  have F:=Yn f
  have c1:=Yhk Hh F (h.new (.row 4 [Yf a b c d] false))
  rw[Z6w F] at c1
  have fl:=Yg5
  obtain⟨v,h',cc,rfl,hk⟩:∃ v h',Zd K Tryz.prog 14 [.g [.int .i64 (a:Int),.int .i64 (b:Int),.int .i64 (c:Int),.int .i64 (d:Int)]] h v h'∧v=.w (.c (.int .i64 ((2+d+a * b:Nat):Int)))∧∀ m,m<h.next→h'.get m=h.get m:=by
   refine Zd.Ya fits Hh (by kernel_rfl) (by kernel_rfl) (by kernel_rfl) (show Tryz.f14.body=some (q14 []) by kernel_rfl) rfl ?_
   show Goes K Tryz.prog 6 none _ _ _ _ _
   refine Goes.Zq Yid ?_
   refine Goes.Zw q14_0 fits Hh Zb (by
    simp (maxSteps:=9^6) +decide (disch:=first|omega|(simp only[lens]<;>omega)|decide) only [go_sem,q14,Tryz.f14,Zc,Za,simprocAttr,Yf,fl,read1,Zn,Zm,Yz]
    rfl) ?_
   refine Goes.Zq q14_1 ?_
   refine Goes.Zw Ye1 fits Hh (Z8 Zb c1) (by
    simp (maxSteps:=9^6) +decide (disch:=first|omega|(simp only[lens]<;>omega)|decide) only [go_sem,q14,Tryz.f14,Zc,Za,simprocAttr,Yo,Yf,fl,read1,Zn,Zm,Yz]
    rfl) ?_
   refine Goes.Gl Ye2 ?_
   exact⟨_,_,(by simp (maxSteps:=9^6) +decide (disch:=first|omega|(simp only[lens]<;>omega)|decide) only [go_sem,Zc,Za,simprocAttr]<;>rfl),rfl,fun m hm=>by (first|(simp (discharger:=omega) only [H.get_put,H.Zh,H.Zk,H.Ze,H.Zg,H.Zj,if_neg]; done)|(simp only[H.get_put,H.Zh,H.Zk,H.Ze,H.Zg,H.Zj]; (repeat' split)<;>first|rfl|(exfalso; omega)|omega))⟩
  exact cc.quiet rfl hk
 ·cases e
end
attribute [go_sem] Z4j Zlj
end Go.Proofs.YtmdibcklpmeleaaGreatDoor
set_option maxRecDepth 100000
set_option maxHeartbeats 4000000
namespace Go.Proofs.YtmdibcklpmeleaaGreatDoor
open Go.Ev
theorem ty24:K.types.get 24=some ti24:=by kernel_rfl
theorem sz24:ti24.size=1:=by rfl
theorem ag24:ti24.agg=false:=by rfl
theorem de24:ti24.desc=(.slice 336):=by rfl
theorem ze24:ti24.zero=(.c (.snil)):=by rfl
theorem by24:ti24.bytes=24:=by rfl
theorem el24:Jl K 24=some ti336:=by kernel_rfl
theorem ty26:K.types.get 26=some ti26:=by kernel_rfl
theorem sz26:ti26.size=6:=by rfl
theorem ag26:ti26.agg=true:=by rfl
theorem fo26_0:Zr K 26 0=some (0,ti23):=by kernel_rfl
theorem fo26_1:Zr K 26 1=some (4,ti5):=by kernel_rfl
theorem fo26_2:Zr K 26 2=some (5,ti24):=by kernel_rfl
theorem bu26 (ps:List (Nat × W)):Yi K 26 (some ps)=gW (Z7 K 26 ps ti26.zero.cells):=by kernel_rfl
theorem ze26:ti26.zero=(.g ([.int .i64 0,.int .i64 0,.int .i64 0,.int .i64 0,.int .u8 0,.snil])):=by rfl
theorem by26:ti26.bytes=64:=by rfl
theorem ty336:K.types.get 336=some ti336:=by kernel_rfl
theorem sz336:ti336.size=3:=by rfl
theorem ag336:ti336.agg=true:=by rfl
theorem fo336_0:Zr K 336 0=some (0,ti3):=by kernel_rfl
theorem fo336_1:Zr K 336 1=some (1,ti3):=by kernel_rfl
theorem fo336_2:Zr K 336 2=some (2,ti5):=by kernel_rfl
theorem bu336 (ps:List (Nat × W)):Yi K 336 (some ps)=gW (Z7 K 336 ps ti336.zero.cells):=by kernel_rfl
theorem ze336:ti336.zero=(.g ([.int .i64 0,.int .i64 0,.int .u8 0])):=by rfl
theorem by336:ti336.bytes=24:=by rfl
attribute [go_sem] ty24 sz24 ag24 de24 ze24 by24 el24 ty26 sz26 ag26 fo26_0 fo26_1 fo26_2 bu26 ze26 by26 ty336 sz336 ag336 fo336_0 fo336_1 fo336_2 bu336 ze336 by336
theorem rs5:Tryz.f5.results.toList=[.tmp 2]:=rfl
attribute [go_sem] rs5
def Z5j (a b c d md len:Int):Bool:=Zex a b c d&&decide (2+d+a * b≤400)&&decide (1≤md)&&decide (md≤3)&&decide (len≤20)
section
variable (Hh:Hearts K Tryz.prog)
include Hh
theorem Yeq {S:C} {len:Int} (lf:Ud K 24 (.c S)=true) (hln:∀ h,Yz K h 24 (.c S)=some (.int .i64 len)) (a b c d md:Int) (h:Go.Ev.H):Zd K Tryz.prog 5 [.g [.int .i64 a,.int .i64 b,.int .i64 c,.int .i64 d,.int .u8 md,S]] h (.w (.c (.bool (Z5j a b c d md len)))) h:=by
 have r6:Zc 6 [[.int .i64 a,.int .i64 b,.int .i64 c,.int .i64 d,.int .u8 md,S]] 0 4=some [.int .i64 a,.int .i64 b,.int .i64 c,.int .i64 d]:=rfl
 obtain⟨v,h',cc,rfl,hk⟩:∃ v h',Zd K Tryz.prog 5 [.g [.int .i64 a,.int .i64 b,.int .i64 c,.int .i64 d,.int .u8 md,S]] h v h'∧v=.w (.c (.bool (Z5j a b c d md len)))∧∀ m,m<h.next→h'.get m=h.get m:=by
  unfold Z5j
  rcases hf:Zex a b c d with _|_
  ·
   refine Zd.Ya fits Hh (by kernel_rfl) (by kernel_rfl) (by kernel_rfl) (show Tryz.f5.body=some _ from rfl) rfl ?_
   repeat (first
    | refine Goes.seq ?_
    | refine Goes.block ?_
    | refine Goes.loop ?_
    | refine Goes.skip ?_
    | refine Goes.exit ?_
    | refine Goes.ret ?_
    | refine Goes.Z4 (by simp (maxSteps:=9^6) +decide (disch:=first|omega|(simp only[lens]<;>omega)|decide) only [go_sem,Za,simprocAttr,hf,r6,lf,hln,read1,Zn,Zm]<;>rfl) ?_
    | refine Goes.ops2 fits Hh (Zf (Zf Zb (fun _ _ _ _=>Vz Hh)) (fun _ _ _ _=>Fs Hh)) (by simp (maxSteps:=9^6) +decide (disch:=first|omega|(simp only[lens]<;>omega)|decide) only [go_sem,Za,simprocAttr,hf,r6,lf,hln,read1,Zn,Zm]; rfl) ?_)
   exact⟨_,_,(by simp (maxSteps:=9^6) +decide (disch:=first|omega|(simp only[lens]<;>omega)|decide) only [go_sem,Za,simprocAttr]<;>rfl),rfl,fun m hm=>by (first|(simp (discharger:=omega) only [H.get_put,H.Zh,H.Zk,H.Ze,H.Zg,H.Zj,if_neg]; done)|(simp only[H.get_put,H.Zh,H.Zk,H.Ze,H.Zg,H.Zj]; (repeat' split)<;>first|rfl|(exfalso; omega)|omega))⟩
  ·have hf':=hf
   unfold Zex at hf'
   simp only[Bool.and_eq_true,decide_eq_true_eq] at hf'
   obtain⟨⟨⟨⟨p1,p2⟩,p3⟩,p4⟩,fb⟩:=hf'
   obtain⟨a,rfl⟩:=Int.eq_ofNat_of_zero_le p1
   obtain⟨b,rfl⟩:=Int.eq_ofNat_of_zero_le p2
   obtain⟨c,rfl⟩:=Int.eq_ofNat_of_zero_le p3
   obtain⟨d,rfl⟩:=Int.eq_ofNat_of_zero_le p4
   simp only[Int.toNat_natCast] at fb
   have gm:2+(d:Int)+(a:Int) * (b:Int)=((2+d+a * b:Nat):Int):=rfl
   rw[gm]
   by_cases c1:((2+d+a * b:Nat):Int)≤400
   ·by_cases c2:1≤md
    ·by_cases c3:md≤3
     ·by_cases c4:len≤20
      ·
       refine Zd.Ya fits Hh (by kernel_rfl) (by kernel_rfl) (by kernel_rfl) (show Tryz.f5.body=some _ from rfl) rfl ?_
       repeat (first
        | refine Goes.seq ?_
        | refine Goes.block ?_
        | refine Goes.loop ?_
        | refine Goes.skip ?_
        | refine Goes.exit ?_
        | refine Goes.ret ?_
        | refine Goes.Z4 (by simp (maxSteps:=9^6) +decide (disch:=first|omega|(simp only[lens]<;>omega)|decide) only [go_sem,Za,simprocAttr,hf,fb,r6,lf,hln,read1,Zn,Zm]<;>rfl) ?_
        | refine Goes.ops2 fits Hh (Zf (Zf Zb (fun _ _ _ _=>Vz Hh)) (fun _ _ _ _=>Fs Hh)) (by simp (maxSteps:=9^6) +decide (disch:=first|omega|(simp only[lens]<;>omega)|decide) only [go_sem,Za,simprocAttr,hf,fb,r6,lf,hln,read1,Zn,Zm]; rfl) ?_)
       exact⟨_,_,(by simp (maxSteps:=9^6) +decide (disch:=first|omega|(simp only[lens]<;>omega)|decide) only [go_sem,Za,simprocAttr]<;>rfl),by rw[decide_eq_true c1,decide_eq_true c2,decide_eq_true c3,decide_eq_true c4]<;>rfl,fun m hm=>by (first|(simp (discharger:=omega) only [H.get_put,H.Zh,H.Zk,H.Ze,H.Zg,H.Zj,if_neg]; done)|(simp only[H.get_put,H.Zh,H.Zk,H.Ze,H.Zg,H.Zj]; (repeat' split)<;>first|rfl|(exfalso; omega)|omega))⟩
      ·
       refine Zd.Ya fits Hh (by kernel_rfl) (by kernel_rfl) (by kernel_rfl) (show Tryz.f5.body=some _ from rfl) rfl ?_
       repeat (first
        | refine Goes.seq ?_
        | refine Goes.block ?_
        | refine Goes.loop ?_
        | refine Goes.skip ?_
        | refine Goes.exit ?_
        | refine Goes.ret ?_
        | refine Goes.Z4 (by simp (maxSteps:=9^6) +decide (disch:=first|omega|(simp only[lens]<;>omega)|decide) only [go_sem,Za,simprocAttr,hf,fb,r6,lf,hln,read1,Zn,Zm]<;>rfl) ?_
        | refine Goes.ops2 fits Hh (Zf (Zf Zb (fun _ _ _ _=>Vz Hh)) (fun _ _ _ _=>Fs Hh)) (by simp (maxSteps:=9^6) +decide (disch:=first|omega|(simp only[lens]<;>omega)|decide) only [go_sem,Za,simprocAttr,hf,fb,r6,lf,hln,read1,Zn,Zm]; rfl) ?_)
       exact⟨_,_,(by simp (maxSteps:=9^6) +decide (disch:=first|omega|(simp only[lens]<;>omega)|decide) only [go_sem,Za,simprocAttr]<;>rfl),by rw[decide_eq_true c1,decide_eq_true c2,decide_eq_true c3,decide_eq_false c4]<;>rfl,fun m hm=>by (first|(simp (discharger:=omega) only [H.get_put,H.Zh,H.Zk,H.Ze,H.Zg,H.Zj,if_neg]; done)|(simp only[H.get_put,H.Zh,H.Zk,H.Ze,H.Zg,H.Zj]; (repeat' split)<;>first|rfl|(exfalso; omega)|omega))⟩
     ·
      refine Zd.Ya fits Hh (by kernel_rfl) (by kernel_rfl) (by kernel_rfl) (show Tryz.f5.body=some _ from rfl) rfl ?_
      repeat (first
       | refine Goes.seq ?_
       | refine Goes.block ?_
       | refine Goes.loop ?_
       | refine Goes.skip ?_
       | refine Goes.exit ?_
       | refine Goes.ret ?_
       | refine Goes.Z4 (by simp (maxSteps:=9^6) +decide (disch:=first|omega|(simp only[lens]<;>omega)|decide) only [go_sem,Za,simprocAttr,hf,fb,r6,lf,hln,read1,Zn,Zm]<;>rfl) ?_
       | refine Goes.ops2 fits Hh (Zf (Zf Zb (fun _ _ _ _=>Vz Hh)) (fun _ _ _ _=>Fs Hh)) (by simp (maxSteps:=9^6) +decide (disch:=first|omega|(simp only[lens]<;>omega)|decide) only [go_sem,Za,simprocAttr,hf,fb,r6,lf,hln,read1,Zn,Zm]; rfl) ?_)
      exact⟨_,_,(by simp (maxSteps:=9^6) +decide (disch:=first|omega|(simp only[lens]<;>omega)|decide) only [go_sem,Za,simprocAttr]<;>rfl),by rw[decide_eq_true c1,decide_eq_true c2,decide_eq_false c3]<;>rfl,fun m hm=>by (first|(simp (discharger:=omega) only [H.get_put,H.Zh,H.Zk,H.Ze,H.Zg,H.Zj,if_neg]; done)|(simp only[H.get_put,H.Zh,H.Zk,H.Ze,H.Zg,H.Zj]; (repeat' split)<;>first|rfl|(exfalso; omega)|omega))⟩
    ·
     refine Zd.Ya fits Hh (by kernel_rfl) (by kernel_rfl) (by kernel_rfl) (show Tryz.f5.body=some _ from rfl) rfl ?_
     repeat (first
      | refine Goes.seq ?_
      | refine Goes.block ?_
      | refine Goes.loop ?_
      | refine Goes.skip ?_
      | refine Goes.exit ?_
      | refine Goes.ret ?_
      | refine Goes.Z4 (by simp (maxSteps:=9^6) +decide (disch:=first|omega|(simp only[lens]<;>omega)|decide) only [go_sem,Za,simprocAttr,hf,fb,r6,lf,hln,read1,Zn,Zm]<;>rfl) ?_
      | refine Goes.ops2 fits Hh (Zf (Zf Zb (fun _ _ _ _=>Vz Hh)) (fun _ _ _ _=>Fs Hh)) (by simp (maxSteps:=9^6) +decide (disch:=first|omega|(simp only[lens]<;>omega)|decide) only [go_sem,Za,simprocAttr,hf,fb,r6,lf,hln,read1,Zn,Zm]; rfl) ?_)
     exact⟨_,_,(by simp (maxSteps:=9^6) +decide (disch:=first|omega|(simp only[lens]<;>omega)|decide) only [go_sem,Za,simprocAttr]<;>rfl),by rw[decide_eq_true c1,decide_eq_false c2]<;>rfl,fun m hm=>by (first|(simp (discharger:=omega) only [H.get_put,H.Zh,H.Zk,H.Ze,H.Zg,H.Zj,if_neg]; done)|(simp only[H.get_put,H.Zh,H.Zk,H.Ze,H.Zg,H.Zj]; (repeat' split)<;>first|rfl|(exfalso; omega)|omega))⟩
   ·
    refine Zd.Ya fits Hh (by kernel_rfl) (by kernel_rfl) (by kernel_rfl) (show Tryz.f5.body=some _ from rfl) rfl ?_
    repeat (first
     | refine Goes.seq ?_
     | refine Goes.block ?_
     | refine Goes.loop ?_
     | refine Goes.skip ?_
     | refine Goes.exit ?_
     | refine Goes.ret ?_
     | refine Goes.Z4 (by simp (maxSteps:=9^6) +decide (disch:=first|omega|(simp only[lens]<;>omega)|decide) only [go_sem,Za,simprocAttr,hf,fb,r6,lf,hln,read1,Zn,Zm]<;>rfl) ?_
     | refine Goes.ops2 fits Hh (Zf (Zf Zb (fun _ _ _ _=>Vz Hh)) (fun _ _ _ _=>Fs Hh)) (by simp (maxSteps:=9^6) +decide (disch:=first|omega|(simp only[lens]<;>omega)|decide) only [go_sem,Za,simprocAttr,hf,fb,r6,lf,hln,read1,Zn,Zm]; rfl) ?_)
    exact⟨_,_,(by simp (maxSteps:=9^6) +decide (disch:=first|omega|(simp only[lens]<;>omega)|decide) only [go_sem,Za,simprocAttr]<;>rfl),by rw[decide_eq_false c1]<;>rfl,fun m hm=>by (first|(simp (discharger:=omega) only [H.get_put,H.Zh,H.Zk,H.Ze,H.Zg,H.Zj,if_neg]; done)|(simp only[H.get_put,H.Zh,H.Zk,H.Ze,H.Zg,H.Zj]; (repeat' split)<;>first|rfl|(exfalso; omega)|omega))⟩
 exact cc.quiet rfl hk
end
end Go.Proofs.YtmdibcklpmeleaaGreatDoor
