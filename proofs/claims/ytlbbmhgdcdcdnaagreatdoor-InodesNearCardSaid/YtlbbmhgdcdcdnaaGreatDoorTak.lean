/- inodes.Take: what it does in the first group that it looks at. -/
import Derived.Test.YtlbbmhgdcdcdnaaGreatDoorInc3
import Derived.Test.YtlbbmhgdcdcdnaaGreatDoorBif
set_option linter.unusedSimpArgs false
set_option linter.unusedVariables false
set_option linter.unusedSectionVars false
set_option maxRecDepth 100000
set_option maxHeartbeats 4000000
namespace Go.Proofs.YtlbbmhgdcdcdnaaGreatDoor
open Go.Ev
noncomputable def q10 (p:List Nat):Code:=piece p (bodyOf Tryz.f10)
theorem q10_:q10 []=.seq (q10 [0]) (q10 [1]):=by kernel_rfl
theorem q10_0:q10 [0]=.region 0 (opsA (q10 [0])) false:=by kernel_rfl
theorem q10_1:q10 [1]=.seq (q10 [1,0]) (q10 [1,1]):=by kernel_rfl
theorem q10_10:q10 [1,0]=.seq (q10 [1,0,0]) (q10 [1,0,1]):=by kernel_rfl
theorem q10_100:q10 [1,0,0]=.region 1 (opsA (q10 [1,0,0])) false:=by kernel_rfl
theorem q10_101:q10 [1,0,1]=.seq (q10 [1,0,1,0]) (q10 [1,0,1,1]):=by kernel_rfl
theorem q10_1010:q10 [1,0,1,0]=.region 2 (opsA (q10 [1,0,1,0])) false:=by kernel_rfl
theorem q10_1011:q10 [1,0,1,1]=.cond (.tmp 21) (q10 [1,0,1,1,3]) (q10 [1,0,1,1,4]):=by kernel_rfl
theorem q10_10114:q10 [1,0,1,1,4]=.skip:=by kernel_rfl
theorem q10_11:q10 [1,1]=.seq (q10 [1,1,0]) (q10 [1,1,1]):=by kernel_rfl
theorem q10_110:q10 [1,1,0]=.seq (q10 [1,1,0,0]) (q10 [1,1,0,1]):=by kernel_rfl
theorem q10_1100:q10 [1,1,0,0]=.region 4 (opsA (q10 [1,1,0,0])) false:=by kernel_rfl
theorem q10_1101:q10 [1,1,0,1]=.cond (.tmp 28) (q10 [1,1,0,1,3]) (q10 [1,1,0,1,4]):=by kernel_rfl
theorem q10_11014:q10 [1,1,0,1,4]=.skip:=by kernel_rfl
theorem q10_111:q10 [1,1,1]=.seq (q10 [1,1,1,0]) (q10 [1,1,1,1]):=by kernel_rfl
theorem q10_1110:q10 [1,1,1,0]=.region 6 (opsA (q10 [1,1,1,0])) false:=by kernel_rfl
theorem q10_1111:q10 [1,1,1,1]=.seq (q10 [1,1,1,1,0]) (q10 [1,1,1,1,1]):=by kernel_rfl
theorem q10_11110:q10 [1,1,1,1,0]=.seq (q10 [1,1,1,1,0,0]) (q10 [1,1,1,1,0,1]):=by kernel_rfl
theorem q10_111100:q10 [1,1,1,1,0,0]=.region 7 (opsA (q10 [1,1,1,1,0,0])) false:=by kernel_rfl
theorem q10_111101:q10 [1,1,1,1,0,1]=.cond (.tmp 35) (q10 [1,1,1,1,0,1,3]) (q10 [1,1,1,1,0,1,4]):=by kernel_rfl
theorem q10_1111014:q10 [1,1,1,1,0,1,4]=.skip:=by kernel_rfl
theorem q10_11111:q10 [1,1,1,1,1]=.seq (q10 [1,1,1,1,1,0]) (q10 [1,1,1,1,1,1]):=by kernel_rfl
theorem q10_111110:q10 [1,1,1,1,1,0]=.region 9 (opsA (q10 [1,1,1,1,1,0])) false:=by kernel_rfl
theorem q10_111111:q10 [1,1,1,1,1,1]=.seq (q10 [1,1,1,1,1,1,0]) (q10 [1,1,1,1,1,1,1]):=by kernel_rfl
theorem q10_1111110:q10 [1,1,1,1,1,1,0]=.seq (q10 [1,1,1,1,1,1,0,0]) (q10 [1,1,1,1,1,1,0,1]):=by kernel_rfl
theorem q10_11111100:q10 [1,1,1,1,1,1,0,0]=.region 10 (opsA (q10 [1,1,1,1,1,1,0,0])) false:=by kernel_rfl
theorem q10_11111101:q10 [1,1,1,1,1,1,0,1]=.block 0 (q10 [1,1,1,1,1,1,0,1,2]):=by kernel_rfl
theorem q10_111111012:q10 [1,1,1,1,1,1,0,1,2]=.rangeFunc (.tmp 41) #[42] (q10 [1,1,1,1,1,1,0,1,2,5]) (q10 [1,1,1,1,1,1,0,1,2,6]):=by kernel_rfl
theorem q10_1111110125:q10 [1,1,1,1,1,1,0,1,2,5]=.region 11 (opsA (q10 [1,1,1,1,1,1,0,1,2,5])) false:=by kernel_rfl
theorem q10_1111110126:q10 [1,1,1,1,1,1,0,1,2,6]=.block 1 (q10 [1,1,1,1,1,1,0,1,2,6,2]):=by kernel_rfl
theorem q10_11111101262:q10 [1,1,1,1,1,1,0,1,2,6,2]=.seq (q10 [1,1,1,1,1,1,0,1,2,6,2,0]) (q10 [1,1,1,1,1,1,0,1,2,6,2,1]):=by kernel_rfl
theorem q10_111111012620:q10 [1,1,1,1,1,1,0,1,2,6,2,0]=.region 12 (opsA (q10 [1,1,1,1,1,1,0,1,2,6,2,0])) true:=by kernel_rfl
theorem q10_111111012621:q10 [1,1,1,1,1,1,0,1,2,6,2,1]=.seq (q10 [1,1,1,1,1,1,0,1,2,6,2,1,0]) (q10 [1,1,1,1,1,1,0,1,2,6,2,1,1]):=by kernel_rfl
theorem q10_1111110126210:q10 [1,1,1,1,1,1,0,1,2,6,2,1,0]=.seq (q10 [1,1,1,1,1,1,0,1,2,6,2,1,0,0]) (q10 [1,1,1,1,1,1,0,1,2,6,2,1,0,1]):=by kernel_rfl
theorem q10_11111101262100:q10 [1,1,1,1,1,1,0,1,2,6,2,1,0,0]=.region 13 (opsA (q10 [1,1,1,1,1,1,0,1,2,6,2,1,0,0])) false:=by kernel_rfl
theorem q10_11111101262101:q10 [1,1,1,1,1,1,0,1,2,6,2,1,0,1]=.cond (.tmp 52) (q10 [1,1,1,1,1,1,0,1,2,6,2,1,0,1,3]) (q10 [1,1,1,1,1,1,0,1,2,6,2,1,0,1,4]):=by kernel_rfl
theorem q10_111111012621014:q10 [1,1,1,1,1,1,0,1,2,6,2,1,0,1,4]=.skip:=by kernel_rfl
theorem q10_1111110126211:q10 [1,1,1,1,1,1,0,1,2,6,2,1,1]=.seq (q10 [1,1,1,1,1,1,0,1,2,6,2,1,1,0]) (q10 [1,1,1,1,1,1,0,1,2,6,2,1,1,1]):=by kernel_rfl
theorem q10_11111101262110:q10 [1,1,1,1,1,1,0,1,2,6,2,1,1,0]=.region 15 (opsA (q10 [1,1,1,1,1,1,0,1,2,6,2,1,1,0])) false:=by kernel_rfl
theorem q10_11111101262111:q10 [1,1,1,1,1,1,0,1,2,6,2,1,1,1]=.seq (q10 [1,1,1,1,1,1,0,1,2,6,2,1,1,1,0]) (q10 [1,1,1,1,1,1,0,1,2,6,2,1,1,1,1]):=by kernel_rfl
theorem q10_111111012621110:q10 [1,1,1,1,1,1,0,1,2,6,2,1,1,1,0]=.seq (q10 [1,1,1,1,1,1,0,1,2,6,2,1,1,1,0,0]) (q10 [1,1,1,1,1,1,0,1,2,6,2,1,1,1,0,1]):=by kernel_rfl
theorem q10_1111110126211100:q10 [1,1,1,1,1,1,0,1,2,6,2,1,1,1,0,0]=.region 16 (opsA (q10 [1,1,1,1,1,1,0,1,2,6,2,1,1,1,0,0])) false:=by kernel_rfl
theorem q10_1111110126211101:q10 [1,1,1,1,1,1,0,1,2,6,2,1,1,1,0,1]=.cond (.tmp 59) (q10 [1,1,1,1,1,1,0,1,2,6,2,1,1,1,0,1,3]) (q10 [1,1,1,1,1,1,0,1,2,6,2,1,1,1,0,1,4]):=by kernel_rfl
theorem q10_11111101262111014:q10 [1,1,1,1,1,1,0,1,2,6,2,1,1,1,0,1,4]=.skip:=by kernel_rfl
theorem q10_111111012621111:q10 [1,1,1,1,1,1,0,1,2,6,2,1,1,1,1]=.seq (q10 [1,1,1,1,1,1,0,1,2,6,2,1,1,1,1,0]) (q10 [1,1,1,1,1,1,0,1,2,6,2,1,1,1,1,1]):=by kernel_rfl
theorem q10_1111110126211110:q10 [1,1,1,1,1,1,0,1,2,6,2,1,1,1,1,0]=.seq (q10 [1,1,1,1,1,1,0,1,2,6,2,1,1,1,1,0,0]) (q10 [1,1,1,1,1,1,0,1,2,6,2,1,1,1,1,0,1]):=by kernel_rfl
theorem q10_11111101262111100:q10 [1,1,1,1,1,1,0,1,2,6,2,1,1,1,1,0,0]=.region 17 (opsA (q10 [1,1,1,1,1,1,0,1,2,6,2,1,1,1,1,0,0])) false:=by kernel_rfl
theorem q10_11111101262111101:q10 [1,1,1,1,1,1,0,1,2,6,2,1,1,1,1,0,1]=.cond (.tmp 65) (q10 [1,1,1,1,1,1,0,1,2,6,2,1,1,1,1,0,1,3]) (q10 [1,1,1,1,1,1,0,1,2,6,2,1,1,1,1,0,1,4]):=by kernel_rfl
theorem q10_111111012621111014:q10 [1,1,1,1,1,1,0,1,2,6,2,1,1,1,1,0,1,4]=.skip:=by kernel_rfl
theorem q10_1111110126211111:q10 [1,1,1,1,1,1,0,1,2,6,2,1,1,1,1,1]=.seq (q10 [1,1,1,1,1,1,0,1,2,6,2,1,1,1,1,1,0]) (q10 [1,1,1,1,1,1,0,1,2,6,2,1,1,1,1,1,1]):=by kernel_rfl
theorem q10_11111101262111110:q10 [1,1,1,1,1,1,0,1,2,6,2,1,1,1,1,1,0]=.region 19 (opsA (q10 [1,1,1,1,1,1,0,1,2,6,2,1,1,1,1,1,0])) false:=by kernel_rfl
theorem q10_11111101262111111:q10 [1,1,1,1,1,1,0,1,2,6,2,1,1,1,1,1,1]=.seq (q10 [1,1,1,1,1,1,0,1,2,6,2,1,1,1,1,1,1,0]) (q10 [1,1,1,1,1,1,0,1,2,6,2,1,1,1,1,1,1,1]):=by kernel_rfl
theorem q10_111111012621111110:q10 [1,1,1,1,1,1,0,1,2,6,2,1,1,1,1,1,1,0]=.region 20 (opsA (q10 [1,1,1,1,1,1,0,1,2,6,2,1,1,1,1,1,1,0])) false:=by kernel_rfl
theorem q10_111111012621111111:q10 [1,1,1,1,1,1,0,1,2,6,2,1,1,1,1,1,1,1]=.seq (q10 [1,1,1,1,1,1,0,1,2,6,2,1,1,1,1,1,1,1,0]) (q10 [1,1,1,1,1,1,0,1,2,6,2,1,1,1,1,1,1,1,1]):=by kernel_rfl
theorem q10_1111110126211111110:q10 [1,1,1,1,1,1,0,1,2,6,2,1,1,1,1,1,1,1,0]=.seq (q10 [1,1,1,1,1,1,0,1,2,6,2,1,1,1,1,1,1,1,0,0]) (q10 [1,1,1,1,1,1,0,1,2,6,2,1,1,1,1,1,1,1,0,1]):=by kernel_rfl
theorem q10_11111101262111111100:q10 [1,1,1,1,1,1,0,1,2,6,2,1,1,1,1,1,1,1,0,0]=.region 21 (opsA (q10 [1,1,1,1,1,1,0,1,2,6,2,1,1,1,1,1,1,1,0,0])) false:=by kernel_rfl
theorem q10_11111101262111111101:q10 [1,1,1,1,1,1,0,1,2,6,2,1,1,1,1,1,1,1,0,1]=.cond (.tmp 77) (q10 [1,1,1,1,1,1,0,1,2,6,2,1,1,1,1,1,1,1,0,1,3]) (q10 [1,1,1,1,1,1,0,1,2,6,2,1,1,1,1,1,1,1,0,1,4]):=by kernel_rfl
theorem q10_111111012621111111014:q10 [1,1,1,1,1,1,0,1,2,6,2,1,1,1,1,1,1,1,0,1,4]=.skip:=by kernel_rfl
theorem q10_1111110126211111111:q10 [1,1,1,1,1,1,0,1,2,6,2,1,1,1,1,1,1,1,1]=.seq (q10 [1,1,1,1,1,1,0,1,2,6,2,1,1,1,1,1,1,1,1,0]) (q10 [1,1,1,1,1,1,0,1,2,6,2,1,1,1,1,1,1,1,1,1]):=by kernel_rfl
theorem q10_11111101262111111110:q10 [1,1,1,1,1,1,0,1,2,6,2,1,1,1,1,1,1,1,1,0]=.region 23 (opsA (q10 [1,1,1,1,1,1,0,1,2,6,2,1,1,1,1,1,1,1,1,0])) false:=by kernel_rfl
theorem q10_11111101262111111111:q10 [1,1,1,1,1,1,0,1,2,6,2,1,1,1,1,1,1,1,1,1]=.seq (q10 [1,1,1,1,1,1,0,1,2,6,2,1,1,1,1,1,1,1,1,1,0]) (q10 [1,1,1,1,1,1,0,1,2,6,2,1,1,1,1,1,1,1,1,1,1]):=by kernel_rfl
theorem q10_111111012621111111110:q10 [1,1,1,1,1,1,0,1,2,6,2,1,1,1,1,1,1,1,1,1,0]=.region 24 (opsA (q10 [1,1,1,1,1,1,0,1,2,6,2,1,1,1,1,1,1,1,1,1,0])) false:=by kernel_rfl
theorem q10_111111012621111111111:q10 [1,1,1,1,1,1,0,1,2,6,2,1,1,1,1,1,1,1,1,1,1]=.seq (q10 [1,1,1,1,1,1,0,1,2,6,2,1,1,1,1,1,1,1,1,1,1,0]) (q10 [1,1,1,1,1,1,0,1,2,6,2,1,1,1,1,1,1,1,1,1,1,1]):=by kernel_rfl
theorem q10_1111110126211111111110:q10 [1,1,1,1,1,1,0,1,2,6,2,1,1,1,1,1,1,1,1,1,1,0]=.seq (q10 [1,1,1,1,1,1,0,1,2,6,2,1,1,1,1,1,1,1,1,1,1,0,0]) (q10 [1,1,1,1,1,1,0,1,2,6,2,1,1,1,1,1,1,1,1,1,1,0,1]):=by kernel_rfl
theorem q10_11111101262111111111100:q10 [1,1,1,1,1,1,0,1,2,6,2,1,1,1,1,1,1,1,1,1,1,0,0]=.region 25 (opsA (q10 [1,1,1,1,1,1,0,1,2,6,2,1,1,1,1,1,1,1,1,1,1,0,0])) false:=by kernel_rfl
theorem q10_11111101262111111111101:q10 [1,1,1,1,1,1,0,1,2,6,2,1,1,1,1,1,1,1,1,1,1,0,1]=.cond (.tmp 93) (q10 [1,1,1,1,1,1,0,1,2,6,2,1,1,1,1,1,1,1,1,1,1,0,1,3]) (q10 [1,1,1,1,1,1,0,1,2,6,2,1,1,1,1,1,1,1,1,1,1,0,1,4]):=by kernel_rfl
theorem q10_111111012621111111111014:q10 [1,1,1,1,1,1,0,1,2,6,2,1,1,1,1,1,1,1,1,1,1,0,1,4]=.skip:=by kernel_rfl
theorem q10_1111110126211111111111:q10 [1,1,1,1,1,1,0,1,2,6,2,1,1,1,1,1,1,1,1,1,1,1]=.seq (q10 [1,1,1,1,1,1,0,1,2,6,2,1,1,1,1,1,1,1,1,1,1,1,0]) (q10 [1,1,1,1,1,1,0,1,2,6,2,1,1,1,1,1,1,1,1,1,1,1,1]):=by kernel_rfl
theorem q10_11111101262111111111110:q10 [1,1,1,1,1,1,0,1,2,6,2,1,1,1,1,1,1,1,1,1,1,1,0]=.region 27 (opsA (q10 [1,1,1,1,1,1,0,1,2,6,2,1,1,1,1,1,1,1,1,1,1,1,0])) false:=by kernel_rfl
theorem q10_11111101262111111111111:q10 [1,1,1,1,1,1,0,1,2,6,2,1,1,1,1,1,1,1,1,1,1,1,1]=.ret:=by kernel_rfl
theorem rs10:Tryz.f10.results.toList=[.cell 6 3,.cell 7 32]:=rfl
attribute [go_sem] rs10
section
variable (Hh:Hearts K Tryz.prog)
include Hh
variable {n a b c e:Nat} {md:Int} {kn:Bool} {L:List (List C)} {h:Go.Ev.H}
theorem takeB (f:fineB a b c e=true) {lm:Ents} (M:Md n a b c e md kn [] [] lm L h) {k t z zb:Nat} {x y:List C} (ka:k<a) (t1:t=0∨t=1) (hz:2+e+k * b+2=z) (hb:2+e+k * b+1=zb) (fl:flatE lm=true) (lz:lookE (z:Int) lm=none) (lb:lookE (zb:Int) lm=none)
  (hx:L[z]? = some x) (hbx:L[zb]? = some (bmB t c)) (xl:x.length=256) (xf:x.all C.flat=true) (yl:y.length=256) (yf:y.all C.flat=true) {D:List Desc} {x0 i0 w0:Nat} (hk:D[k]? = some (x0,i0,w0)) (y1:1≤i0) (y2:i0<4096) (y3:w0<4096) (Dl:D.length=a) (Dm:(D.set k (x0,i0 - 1,w0+1)).all (mayD (b - 2 - c / 4) c)=true)
  (ig:∀ h,CallOk K Tryz.prog 41 [.g x,.c (.int .i64 ((t * 64:Nat):Int))] h (.tup [.g inoZ,.c (.int .i64 0)]) h)
  (hi:∀ h m,h.get m=some (.row 256 [x] false)→CallOk K Tryz.prog 55 [.c (.ptr m 0),.c (.int .i64 ((t * 64:Nat):Int)),.g inoN] h (.w (.c (.int .i64 0))) (h.put m (.row 256 [y] false)))
  {l p3 p4 p6 p7 p9 p11 pD:Nat} {o6 o7:C} {ts:Tmps} (e3:evalT ts 3=.w (.c (.ptr p3 0))) (e4:evalT ts 4=.w (.c (.ptr p4 0))) (e6:evalT ts 6=.w (.c (.ptr p6 0))) (e7:evalT ts 7=.w (.c (.ptr p7 0))) (e9:evalT ts 9=.w (.c (.ptr p9 0))) (e11:evalT ts 11=.w (.c (.ptr p11 0))) (e12:evalT ts 12=.w (.c (.int .i64 (k:Int))))
  (c3:h.get p3=some (.row 1 [[.ptr (n+13) 0]] false)) (c4:h.get p4=some (.row 1 [[.int .u8 2]] false)) (c6:h.get p6=some (.row 1 [[o6]] false)) (c7:h.get p7=some (.row 1 [[o7]] false)) (c9:h.get p9=some (.row 1 [[.slice pD 0 a 3]] false)) (c11:h.get p11=some (.row 4 [[.int .i64 (a:Int),.int .i64 (b:Int),.int .i64 (c:Int),.int .i64 (e:Int)]] false)) (cD:h.get pD=some (.row 3 (D.map rowD) false))
  (b3:n+32≤p3∧p3<h.next) (b4:n+32≤p4∧p4<h.next) (b6:n+32≤p6∧p6<h.next) (b7:n+32≤p7∧p7<h.next) (b9:n+32≤p9∧p9<h.next) (b11:n+32≤p11∧p11<h.next) (bD:n+32≤pD∧pD<h.next) (bl:n+32≤l∧l<h.next)
  (n1:p3≠pD) (n2:p4≠pD) (n3:p6≠pD) (n4:p7≠pD) (n5:p6≠p7) (n6:l≠pD) (n7:l≠p6) (n8:l≠p7) :
  Goes K Tryz.prog 96 (some l) (q10 [1,1,1,1,1,1,0,1,2,6]) [] ts h fun x _ _ h'=>x=.ret∧h.next≤h'.next∧(∀ m,m<h.next→n+32≤m→m≠pD→m≠p6→m≠p7→h'.get m=h.get m)∧h'.get p6=some (.row 1 [[.int .i64 ((k * c+t+1:Nat):Int)]] false)∧h'.get p7=some (.row 1 [[.int .i64 0]] false):=by
 obtain⟨g1,g2,g3,g4,g5,g6,g7,g8,g9,g10,g11⟩:=fineB_fine f
 have st:=mul_step (b:=b) ka
 have sc:=mul_step (b:=c) ka
 have zl:z<2+e+a * b:=by omega
 have zbl:zb<2+e+a * b:=by omega
 have ob:=ours_grp (z:=zb) (fineB_fine f) (by omega) zbl
 have nx:=M.nx
 have bl1:=bmB_len t c
 have bf1:=bmB_flat t c
 have k1:=xSGet_ok Hh (M.xDisk f ob zbl rfl lb fl hbx bl1 bf1)
 have tc:t<c:=by omega
 have cF:∀ h,CallOk K Tryz.prog 35 [.g (bmB t c),.c (.int .i64 0),.c (.int .i64 (c:Int))] h (.w (.c (.int .i64 (t:Int)))) h:=fun h=>firstOk Hh (midB t c 2048) t c (by rcases t1 with rfl|rfl<;>simp [midB]<;>omega) tc (by omega) h
 have ra:(k * 3+1) / 3=k:=by omega
 have rb:(k * 3+1) % 3=1:=by omega
 have rc:(D.map rowD)[k]? = some [.int .i64 (x0:Int),.int .i64 (i0:Int),.int .i64 (w0:Int)]:=by rw[List.getElem?_map,hk]; rfl
 have z16:inoL 0 0 0 0 0 0 0 0 0 0 0 0 0 0 0 0=inoZ:=rfl
 have gm:midB t c 2048 t=false:=by rcases t1 with rfl|rfl<;>simp [midB]<;>omega
 have ml:(packB (updB (midB t c 2048) t)).length=256:=packB_len _
 have mf:(packB (updB (midB t c 2048) t)).all C.flat=true:=by simp [packB,C.flat]
 have fl2:flatE (updE (zb:Int) (bmB t c++[.bool false]) lm)=true:=flat_upd (by rw[List.all_append,bf1]; rfl) fl
 have lz2:lookE (z:Int) (updE (zb:Int) (bmB t c++[.bool false]) lm)=none:=by rw[look_upd,if_neg (by omega)]; exact lz
 obtain⟨j,hj⟩:∃ j,k * c+t=j:=⟨_,rfl⟩
 have kj:j / c=k:=by rw[←hj,Nat.mul_comm,Nat.mul_add_div (by omega),Nat.div_eq_of_lt tc,Nat.add_zero]
 have tj:j % c=t:=by rw[←hj,Nat.mul_comm,Nat.mul_add_mod,Nat.mod_eq_of_lt tc]
 have t4:t / 4=0:=by omega
 have tp:t % 4 * 64=t * 64:=by omega
 have jl:j<a * c:=by omega
 have lz3:lookE (z:Int) (updE (z:Int) (x++[.bool false]) (updE (zb:Int) (bmB t c++[.bool false]) lm))=some (x++[.bool false]):=by rw[look_upd,if_pos rfl]
 have hbm:bmB t c=packB (midB t c 2048):=rfl
 obtain⟨B,hB⟩:∃ B,bmB t c=B:=⟨_,rfl⟩
 rw[hB] at bl1 bf1 k1 cF fl2 lz2 lz3 hbm
 have zi:=inoZ_len
 have rz:inoZ[2]? = some (.int .u32 0):=rfl
 refine Goes.blockQ q10_1111110126 (Goes.block ?_)
 refine Goes.seqQ q10_11111101262 ?_
 refine Goes.drawnQ q10_111111012620 fits Hh (EX_sound (E1_sound E0_sound k1) (fun _ _ _ _=>xIBitmap_ok Hh)) (by kernel_rfl) (by
  simp (maxSteps:=9^6) +decide (disch:=first|omega|(simp only[lens]<;>omega)|decide) only [go_sem,q10,Tryz.f10,loadIn,simprocAttr,op_move,op_assign,op_binOp,op_unOp,op_convert,op_load,op_store,op_indexAddr,op_alloc,op_pick,op_box,op_build,op_buildSlice,op_nilCheck,op_makeSlice,op_fieldAddr,op_field,op_extract,op_lookup,op_mapUpdate,op_builtin,op_index,drEnd,drAll,drOne,drTs,drKd,drPure,drRead,drAlloc,drEff,drSkip,drPut,putT_ok,putT_none,cutT,looks,tmpOf,Op.operands,Call.operands,kd,kdCall,List.filterMap_cons,List.filterMap_nil,List.append_nil,List.nil_append,List.cons_append,stables,stable,reachAt,reachP,waitsAt,waits,gives_self,List.all_cons,List.all_nil,List.any_cons,List.any_nil,Region.binds,Bool.or_true,Bool.true_or,Bool.and_true,Bool.true_and,Bool.or_false,Bool.false_or,Bool.and_self,Bool.or_self,ble_true,Nat.le_refl,Nat.le_add_right,List.map_cons,Array.toList_append,E1_call,f,e3,e4,e6,e7,e9,e11,e12,c3,c4,c6,c7,c9,c11,cD,rd4,hb,bl1,ra,rb,rc,hj,zi,Nat.zero_add,List.map_cons,ptrW,List.cons_append,List.map_nil,read1]
  rfl) ?_
 refine Goes.seqQ q10_111111012621 ?_
 refine Goes.seqQ q10_1111110126210 ?_
 refine Goes.opsQ q10_11111101262100 fits Hh E0_sound (by
  simp (maxSteps:=9^6) +decide (disch:=first|omega|(simp only[lens]<;>omega)|decide) only [go_sem,q10,Tryz.f10,loadIn,simprocAttr,f,e3,e4,e6,e7,e9,e11,e12,c3,c4,c6,c7,c9,c11,cD,rd4,hb,bl1,ra,rb,rc,hj,zi,Nat.zero_add,List.map_cons,ptrW,List.cons_append,List.map_nil,read1]
  rfl) ?_
 refine Goes.condFQ q10_11111101262101 (by simp (maxSteps:=9^6) +decide (disch:=first|omega|(simp only[lens]<;>omega)|decide) only [go_sem,loadIn,simprocAttr,f,e3,e4,e6,e7,e9,e11,e12,c3,c4,c6,c7,c9,c11,cD,rd4,hb,bl1,ra,rb,rc,hj,zi,Nat.zero_add,List.map_cons,ptrW,List.cons_append,List.map_nil,read1]<;>rfl) (by first|rfl|assumption|exact decide_eq_false (by omega)|(simp; omega)) ?_
 refine Goes.skipQ q10_111111012621014 ?_
 refine Goes.seqQ q10_1111110126211 ?_
 refine Goes.opsQ q10_11111101262110 fits Hh (EA_sound E0_sound cF) (by
  simp (maxSteps:=9^6) +decide (disch:=first|omega|(simp only[lens]<;>omega)|decide) only [go_sem,q10,Tryz.f10,loadIn,simprocAttr,f,e3,e4,e6,e7,e9,e11,e12,c3,c4,c6,c7,c9,c11,cD,rd4,hb,bl1,ra,rb,rc,hj,zi,Nat.zero_add,List.map_cons,ptrW,List.cons_append,List.map_nil,read1]
  rfl) ?_
 refine Goes.seqQ q10_11111101262111 ?_
 refine Goes.seqQ q10_111111012621110 ?_
 refine Goes.opsQ q10_1111110126211100 fits Hh E0_sound (by
  simp (maxSteps:=9^6) +decide (disch:=first|omega|(simp only[lens]<;>omega)|decide) only [go_sem,q10,Tryz.f10,loadIn,simprocAttr,f,e3,e4,e6,e7,e9,e11,e12,c3,c4,c6,c7,c9,c11,cD,rd4,hb,bl1,ra,rb,rc,hj,zi,Nat.zero_add,List.map_cons,ptrW,List.cons_append,List.map_nil,read1]
  rfl) ?_
 refine Goes.condFQ q10_1111110126211101 (by simp (maxSteps:=9^6) +decide (disch:=first|omega|(simp only[lens]<;>omega)|decide) only [go_sem,loadIn,simprocAttr,f,e3,e4,e6,e7,e9,e11,e12,c3,c4,c6,c7,c9,c11,cD,rd4,hb,bl1,ra,rb,rc,hj,zi,Nat.zero_add,List.map_cons,ptrW,List.cons_append,List.map_nil,read1]<;>rfl) (by first|rfl|assumption|exact decide_eq_false (by omega)|(simp; omega)) ?_
 refine Goes.skipQ q10_11111101262111014 ?_
 refine Goes.seqQ q10_111111012621111 ?_
 refine Goes.seqQ q10_1111110126211110 ?_
 refine Goes.opsQ q10_11111101262111100 fits Hh E0_sound (by
  simp (maxSteps:=9^6) +decide (disch:=first|omega|(simp only[lens]<;>omega)|decide) only [go_sem,q10,Tryz.f10,loadIn,simprocAttr,f,e3,e4,e6,e7,e9,e11,e12,c3,c4,c6,c7,c9,c11,cD,rd4,hb,bl1,ra,rb,rc,hj,zi,Nat.zero_add,List.map_cons,ptrW,List.cons_append,List.map_nil,read1]
  rfl) ?_
 refine Goes.condFQ q10_11111101262111101 (by simp (maxSteps:=9^6) +decide (disch:=first|omega|(simp only[lens]<;>omega)|decide) only [go_sem,loadIn,simprocAttr,f,e3,e4,e6,e7,e9,e11,e12,c3,c4,c6,c7,c9,c11,cD,rd4,hb,bl1,ra,rb,rc,hj,zi,Nat.zero_add,List.map_cons,ptrW,List.cons_append,List.map_nil,read1]<;>rfl) (by first|rfl|assumption|exact decide_eq_false (by omega)|(simp; omega)) ?_
 refine Goes.skipQ q10_111111012621111014 ?_
 refine Goes.seqQ q10_1111110126211111 ?_
 refine Goes.opsQ q10_11111101262111110 fits Hh (EX_sound E0_sound (fun _ _ _ _=>xgNumber_ok Hh)) (by
  simp (maxSteps:=9^6) +decide (disch:=first|omega|(simp only[lens]<;>omega)|decide) only [go_sem,q10,Tryz.f10,loadIn,simprocAttr,f,e3,e4,e6,e7,e9,e11,e12,c3,c4,c6,c7,c9,c11,cD,rd4,hb,bl1,ra,rb,rc,hj,zi,Nat.zero_add,List.map_cons,ptrW,List.cons_append,List.map_nil,read1]
  rfl) ?_
 refine Goes.seqQ q10_11111101262111111 ?_
 refine Goes.abs fun hA eA=>?_
 have nA:hA.next=h.next+1:=by rw[eA]; simp only[H.next_put,H.next_new]
 have kA:∀ m,m<h.next→m≠n+6→hA.get m=h.get m:=fun m hm hne=>by rw[eA]; (first|(simp (discharger:=omega) only [H.get_put,H.get_new,H.get_del,H.next_new,H.next_put,H.next_del,if_neg]; done)|(simp only[H.get_put,H.get_new,H.get_del,H.next_new,H.next_put,H.next_del]; (repeat' split)<;>first|rfl|(exfalso; omega)|omega))
 have bA:hA.get h.next=some (.row 256 [B] false):=by rw[eA]; simp (maxSteps:=9^6) +decide (disch:=first|omega|(simp only[lens]<;>omega)|decide) only [go_sem,loadIn,simprocAttr,bl1]<;>rfl
 have MA:Md n a b c e md kn [] [] (updE (zb:Int) (B++[.bool false]) lm) L hA:=(M.seen _).keep (by rw[eA]; simp only[H.next_put,H.next_new]<;>omega) (fun m hm=>by rw[eA]; (first|(simp (discharger:=omega) only [H.get_put,H.get_new,H.get_del,H.next_new,H.next_put,H.next_del,if_neg]; done)|(simp only[H.get_put,H.get_new,H.get_del,H.next_new,H.next_put,H.next_del]; (repeat' split)<;>first|rfl|(exfalso; omega)|omega)))
 clear eA
 obtain⟨hG,k3,MG,nG,kG⟩:=iGet Hh f MA kj tj t4 tp jl hz zl rfl lz2 fl2 hx xl xf ig
 have cA3:=(kA p3 (by omega) (by omega)).trans c3
 refine Goes.opsQ q10_111111012621111110 fits Hh (E1_sound E0_sound k3) (by
  simp (maxSteps:=9^6) +decide (disch:=first|omega|(simp only[lens]<;>omega)|decide) only [go_sem,q10,Tryz.f10,loadIn,simprocAttr,E1_call,f,e3,e4,e6,e7,e9,e11,e12,c3,c4,c6,c7,c9,c11,cD,rd4,hb,bl1,ra,rb,rc,hj,zi,Nat.zero_add,List.map_cons,ptrW,List.cons_append,List.map_nil,cA3,nA,read1]
  rfl) ?_
 refine Goes.seqQ q10_111111012621111111 ?_
 refine Goes.seqQ q10_1111110126211111110 ?_
 refine Goes.opsQ q10_11111101262111111100 fits Hh E0_sound (by
  simp (maxSteps:=9^6) +decide (disch:=first|omega|(simp only[lens]<;>omega)|decide) only [go_sem,q10,Tryz.f10,loadIn,simprocAttr,f,e3,e4,e6,e7,e9,e11,e12,c3,c4,c6,c7,c9,c11,cD,rd4,hb,bl1,ra,rb,rc,hj,zi,Nat.zero_add,List.map_cons,ptrW,List.cons_append,List.map_nil,cA3,nA,read1]
  rfl) ?_
 refine Goes.condFQ q10_11111101262111111101 (by simp (maxSteps:=9^6) +decide (disch:=first|omega|(simp only[lens]<;>omega)|decide) only [go_sem,loadIn,simprocAttr,f,e3,e4,e6,e7,e9,e11,e12,c3,c4,c6,c7,c9,c11,cD,rd4,hb,bl1,ra,rb,rc,hj,zi,Nat.zero_add,List.map_cons,ptrW,List.cons_append,List.map_nil,cA3,nA,read1]<;>rfl) (by first|rfl|assumption|exact decide_eq_false (by omega)|(simp; omega)) ?_
 refine Goes.skipQ q10_111111012621111111014 ?_
 refine Goes.seqQ q10_1111110126211111111 ?_
 refine Goes.abs fun hC eC=>?_
 have nC:hC.next=hG.next+1:=by rw[eC]; simp only[H.next_put,H.next_new]
 have kC:∀ m,m<h.next+1→m≠n+6→hC.get m=hA.get m:=fun m hm hne=>by rw[eC]; refine Eq.trans ?_ (kG m (by omega) hne); (first|(simp (discharger:=omega) only [H.get_put,H.get_new,H.get_del,H.next_new,H.next_put,H.next_del,if_neg]; done)|(simp only[H.get_put,H.get_new,H.get_del,H.next_new,H.next_put,H.next_del]; (repeat' split)<;>first|rfl|(exfalso; omega)|omega))
 have iC:hC.get hG.next=some (.row 16 [inoZ] false):=by rw[eC]; simp (maxSteps:=9^6) +decide (disch:=first|omega|(simp only[lens]<;>omega)|decide) only [go_sem,loadIn,simprocAttr]<;>rfl
 have MC:Md n a b c e md kn [] [] (updE (z:Int) (x++[.bool false]) (updE (zb:Int) (B++[.bool false]) lm)) L hC:=MG.keep (by rw[eC]; simp only[H.next_put,H.next_new]<;>omega) (fun m hm=>by have:=MG.nx; rw[eC]; (first|(simp (discharger:=omega) only [H.get_put,H.get_new,H.get_del,H.next_new,H.next_put,H.next_del,if_neg]; done)|(simp only[H.get_put,H.get_new,H.get_del,H.next_new,H.next_put,H.next_del]; (repeat' split)<;>first|rfl|(exfalso; omega)|omega)))
 clear eC
 have bC:=(kC h.next (by omega) (by omega)).trans bA
 rw[hbm] at bC
 have k4:=setOk Hh hC h.next t (midB t c 2048) (by omega) gm bC
 refine Goes.opsQ q10_11111101262111111110 fits Hh (E1_sound E0_sound k4) (by
  simp (maxSteps:=9^6) +decide (disch:=first|omega|(simp only[lens]<;>omega)|decide) only [go_sem,q10,Tryz.f10,loadIn,simprocAttr,E1_call,f,e3,e4,e6,e7,e9,e11,e12,c3,c4,c6,c7,c9,c11,cD,rd4,hb,bl1,ra,rb,rc,hj,zi,Nat.zero_add,List.map_cons,ptrW,List.cons_append,List.map_nil,cA3,nA,read1]
  rfl) ?_
 refine Goes.seqQ q10_11111101262111111111 ?_
 refine Goes.abs fun hD eD=>?_
 have nD:hD.next=hG.next+1:=by rw[eD,H.next_put,nC]
 have kD:∀ m,m<h.next→m≠n+6→hD.get m=h.get m:=fun m hm hne=>by rw[eD,get_put_ne (by omega),kC m (by omega) hne]; exact kA m hm hne
 have bD':hD.get h.next=some (.row 256 [packB (updB (midB t c 2048) t)] false):=by rw[eD,get_put_self]
 have iD:hD.get hG.next=some (.row 16 [inoZ] false):=by rw[eD,get_put_ne (by omega)]; exact iC
 have MD:Md n a b c e md kn [] [] (updE (z:Int) (x++[.bool false]) (updE (zb:Int) (B++[.bool false]) lm)) L hD:=MC.keep (by rw[eD,H.next_put]; omega) (fun m hm=>by rw[eD,get_put_ne (by omega)])
 clear eD
 have d3:=(kD p3 (by omega) (by omega)).trans c3
 have d4:=(kD p4 (by omega) (by omega)).trans c4
 have d9:=(kD p9 (by omega) (by omega)).trans c9
 obtain⟨hE,k5,nE,kE⟩:=iChange Hh f MD kj tj t4 tp jl ka hz hb lz3 xl xf yl yf ml mf d4 ((kD pD (by omega) (by omega)).trans cD) hk y1 y2 y3 (by omega) (by omega) (by omega) (by omega) (by omega) Dl Dm hi
 simp only[inoN,inoL] at k5
 have rm:readRow 256 [packB (updB (midB t c 2048) t)] 0 256=some (packB (updB (midB t c 2048) t)):=readRow_full (by omega)
 have q6:=(kE p6 (by omega) (by omega) (by omega)).trans ((kD p6 (by omega) (by omega)).trans c6)
 have q7:=(kE p7 (by omega) (by omega) (by omega)).trans ((kD p7 (by omega) (by omega)).trans c7)
 refine Goes.opsQ q10_111111012621111111110 fits Hh (E1_sound E0_sound k5) (by
  simp (maxSteps:=9^6) +decide (disch:=first|omega|(simp only[lens]<;>omega)|decide) only [go_sem,q10,Tryz.f10,loadIn,simprocAttr,E1_call,f,e3,e4,e6,e7,e9,e11,e12,c3,c4,c6,c7,c9,c11,cD,rd4,hb,bl1,ra,rb,rc,hj,zi,Nat.zero_add,List.map_cons,ptrW,List.cons_append,List.map_nil,cA3,nA,d3,d4,d9,bD',iD,rz,rm,q6,q7,read1]
  rfl) ?_
 refine Goes.seqQ q10_111111012621111111111 ?_
 refine Goes.seqQ q10_1111110126211111111110 ?_
 refine Goes.opsQ q10_11111101262111111111100 fits Hh E0_sound (by
  simp (maxSteps:=9^6) +decide (disch:=first|omega|(simp only[lens]<;>omega)|decide) only [go_sem,q10,Tryz.f10,loadIn,simprocAttr,f,e3,e4,e6,e7,e9,e11,e12,c3,c4,c6,c7,c9,c11,cD,rd4,hb,bl1,ra,rb,rc,hj,zi,Nat.zero_add,List.map_cons,ptrW,List.cons_append,List.map_nil,cA3,nA,d3,d4,d9,bD',iD,rz,rm,q6,q7,read1]
  rfl) ?_
 refine Goes.condFQ q10_11111101262111111111101 (by simp (maxSteps:=9^6) +decide (disch:=first|omega|(simp only[lens]<;>omega)|decide) only [go_sem,loadIn,simprocAttr,f,e3,e4,e6,e7,e9,e11,e12,c3,c4,c6,c7,c9,c11,cD,rd4,hb,bl1,ra,rb,rc,hj,zi,Nat.zero_add,List.map_cons,ptrW,List.cons_append,List.map_nil,cA3,nA,d3,d4,d9,bD',iD,rz,rm,q6,q7,read1]<;>rfl) (by first|rfl|assumption|exact decide_eq_false (by omega)|(simp; omega)) ?_
 refine Goes.skipQ q10_111111012621111111111014 ?_
 refine Goes.seqQ q10_1111110126211111111111 ?_
 refine Goes.opsQ q10_11111101262111111111110 fits Hh E0_sound (by
  simp (maxSteps:=9^6) +decide (disch:=first|omega|(simp only[lens]<;>omega)|decide) only [go_sem,q10,Tryz.f10,loadIn,simprocAttr,f,e3,e4,e6,e7,e9,e11,e12,c3,c4,c6,c7,c9,c11,cD,rd4,hb,bl1,ra,rb,rc,hj,zi,Nat.zero_add,List.map_cons,ptrW,List.cons_append,List.map_nil,cA3,nA,d3,d4,d9,bD',iD,rz,rm,q6,q7,read1]
  rfl) ?_
 refine Goes.retQ q10_11111101262111111111111 ?_
 refine⟨rfl,?_,?_,?_,?_⟩
 ·simp only[H.next_put]; omega
 ·intro m m1 m2 m3 m4 m5; rw[get_put_ne m5,get_put_ne m4]; exact (kE m (by omega) m2 m3).trans (kD m m1 (by omega))
 ·rw[get_put_ne (by omega),get_put_self,←hj]
 ·rw[get_put_self]
end
end Go.Proofs.YtlbbmhgdcdcdnaaGreatDoor
