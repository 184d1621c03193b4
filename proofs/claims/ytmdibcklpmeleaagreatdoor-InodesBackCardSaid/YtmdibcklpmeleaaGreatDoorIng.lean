/- inode.Get, of any page at any place. -/
import Derived.Test.YtmdibcklpmeleaaGreatDoorIbk
import Derived.Test.YtmdibcklpmeleaaGreatDoorMak3
import Derived.Test.YtmdibcklpmeleaaGreatDoorEvC
set_option linter.unusedSimpArgs false
set_option linter.unusedVariables false
set_option linter.unusedSectionVars false
set_option maxRecDepth 100000
set_option maxHeartbeats 4000000
namespace Go.Proofs.YtmdibcklpmeleaaGreatDoor
open Go.Ev
noncomputable def q30 (p:List Nat):Code:=piece p (Z5 Tryz.f30)
theorem Yeu:q30 []=.seq (q30 [0]) (q30 [1]):=by kernel_rfl
theorem q30_0:q30 [0]=.region 0 (Zt (q30 [0])) false:=by kernel_rfl
theorem q30_1:q30 [1]=.seq (q30 [1,0]) (q30 [1,1]):=by kernel_rfl
theorem Zwz:q30 [1,0]=.seq (q30 [1,0,0]) (q30 [1,0,1]):=by kernel_rfl
theorem Zqk:q30 [1,0,0]=.region 1 (Zt (q30 [1,0,0])) false:=by kernel_rfl
theorem Zpt:q30 [1,0,1]=.cond (.tmp 16) (q30 [1,0,1,3]) (q30 [1,0,1,4]):=by kernel_rfl
theorem Zj5:q30 [1,0,1,4]=.skip:=by kernel_rfl
theorem Zy6:q30 [1,1]=.seq (q30 [1,1,0]) (q30 [1,1,1]):=by kernel_rfl
theorem Zq6:q30 [1,1,0]=.region 3 (Zt (q30 [1,1,0])) false:=by kernel_rfl
theorem Zrh:q30 [1,1,1]=.seq (q30 [1,1,1,0]) (q30 [1,1,1,1]):=by kernel_rfl
theorem Zkc:q30 [1,1,1,0]=.seq (q30 [1,1,1,0,0]) (q30 [1,1,1,0,1]):=by kernel_rfl
theorem Zgv:q30 [1,1,1,0,0]=.region 4 (Zt (q30 [1,1,1,0,0])) false:=by kernel_rfl
theorem Zfy:q30 [1,1,1,0,1]=.cond (.tmp 31) (q30 [1,1,1,0,1,3]) (q30 [1,1,1,0,1,4]):=by kernel_rfl
theorem Zjb:q30 [1,1,1,0,1,3]=.seq (q30 [1,1,1,0,1,3,0]) (q30 [1,1,1,0,1,3,1]):=by kernel_rfl
theorem Zg3:q30 [1,1,1,0,1,3,0]=.region 5 (Zt (q30 [1,1,1,0,1,3,0])) false:=by kernel_rfl
theorem Zho:q30 [1,1,1,0,1,3,1]=.ret:=by kernel_rfl
theorem Zyc:q30 [1,1,1,0,1,4]=.skip:=by kernel_rfl
theorem Z9a:q30 [1,1,1,1]=.seq (q30 [1,1,1,1,0]) (q30 [1,1,1,1,1]):=by kernel_rfl
theorem Z0q:q30 [1,1,1,1,0]=.region 6 (Zt (q30 [1,1,1,1,0])) false:=by kernel_rfl
theorem Z3u:q30 [1,1,1,1,1]=.seq (q30 [1,1,1,1,1,0]) (q30 [1,1,1,1,1,1]):=by kernel_rfl
theorem Zv5:q30 [1,1,1,1,1,0]=.region 7 (Zt (q30 [1,1,1,1,1,0])) false:=by kernel_rfl
theorem Zvd:q30 [1,1,1,1,1,1]=.seq (q30 [1,1,1,1,1,1,0]) (q30 [1,1,1,1,1,1,1]):=by kernel_rfl
theorem Zuj:q30 [1,1,1,1,1,1,0]=.region 8 (Zt (q30 [1,1,1,1,1,1,0])) false:=by kernel_rfl
theorem Zs8:q30 [1,1,1,1,1,1,1]=.seq (q30 [1,1,1,1,1,1,1,0]) (q30 [1,1,1,1,1,1,1,1]):=by kernel_rfl
theorem Zqo:q30 [1,1,1,1,1,1,1,0]=.region 9 (Zt (q30 [1,1,1,1,1,1,1,0])) false:=by kernel_rfl
theorem Zp0:q30 [1,1,1,1,1,1,1,1]=.seq (q30 [1,1,1,1,1,1,1,1,0]) (q30 [1,1,1,1,1,1,1,1,1]):=by kernel_rfl
theorem Zm9:q30 [1,1,1,1,1,1,1,1,0]=.region 10 (Zt (q30 [1,1,1,1,1,1,1,1,0])) false:=by kernel_rfl
theorem Zmp:q30 [1,1,1,1,1,1,1,1,1]=.seq (q30 [1,1,1,1,1,1,1,1,1,0]) (q30 [1,1,1,1,1,1,1,1,1,1]):=by kernel_rfl
theorem Zke:q30 [1,1,1,1,1,1,1,1,1,0]=.region 11 (Zt (q30 [1,1,1,1,1,1,1,1,1,0])) false:=by kernel_rfl
theorem Zkb:q30 [1,1,1,1,1,1,1,1,1,1]=.seq (q30 [1,1,1,1,1,1,1,1,1,1,0]) (q30 [1,1,1,1,1,1,1,1,1,1,1]):=by kernel_rfl
theorem Zh6:q30 [1,1,1,1,1,1,1,1,1,1,0]=.seq (q30 [1,1,1,1,1,1,1,1,1,1,0,0]) (q30 [1,1,1,1,1,1,1,1,1,1,0,1]):=by kernel_rfl
theorem Zgd:q30 [1,1,1,1,1,1,1,1,1,1,0,0]=.region 12 (Zt (q30 [1,1,1,1,1,1,1,1,1,1,0,0])) false:=by kernel_rfl
theorem Zf2:q30 [1,1,1,1,1,1,1,1,1,1,0,1]=.block 0 (q30 [1,1,1,1,1,1,1,1,1,1,0,1,2]):=by kernel_rfl
theorem Zdt:q30 [1,1,1,1,1,1,1,1,1,1,0,1,2]=.rangeFunc (.tmp 61) #[62,63] (q30 [1,1,1,1,1,1,1,1,1,1,0,1,2,5]) (q30 [1,1,1,1,1,1,1,1,1,1,0,1,2,6]):=by kernel_rfl
theorem Rp:q30 [1,1,1,1,1,1,1,1,1,1,0,1,2,5]=.seq (q30 [1,1,1,1,1,1,1,1,1,1,0,1,2,5,0]) (q30 [1,1,1,1,1,1,1,1,1,1,0,1,2,5,1]):=by kernel_rfl
theorem Zbf:q30 [1,1,1,1,1,1,1,1,1,1,0,1,2,5,0]=.region 13 (Zt (q30 [1,1,1,1,1,1,1,1,1,1,0,1,2,5,0])) false:=by kernel_rfl
theorem Zbn:q30 [1,1,1,1,1,1,1,1,1,1,0,1,2,5,1]=.region 14 (Zt (q30 [1,1,1,1,1,1,1,1,1,1,0,1,2,5,1])) false:=by kernel_rfl
theorem Re:q30 [1,1,1,1,1,1,1,1,1,1,0,1,2,6]=.block 1 (q30 [1,1,1,1,1,1,1,1,1,1,0,1,2,6,2]):=by kernel_rfl
theorem Zbb:q30 [1,1,1,1,1,1,1,1,1,1,0,1,2,6,2]=.region 15 (Zt (q30 [1,1,1,1,1,1,1,1,1,1,0,1,2,6,2])) false:=by kernel_rfl
theorem Wz:q30 [1,1,1,1,1,1,1,1,1,1,1]=.seq (q30 [1,1,1,1,1,1,1,1,1,1,1,0]) (q30 [1,1,1,1,1,1,1,1,1,1,1,1]):=by kernel_rfl
theorem Vw:q30 [1,1,1,1,1,1,1,1,1,1,1,0]=.region 16 (Zt (q30 [1,1,1,1,1,1,1,1,1,1,1,0])) false:=by kernel_rfl
theorem Ty:q30 [1,1,1,1,1,1,1,1,1,1,1,1]=.seq (q30 [1,1,1,1,1,1,1,1,1,1,1,1,0]) (q30 [1,1,1,1,1,1,1,1,1,1,1,1,1]):=by kernel_rfl
theorem Sg:q30 [1,1,1,1,1,1,1,1,1,1,1,1,0]=.seq (q30 [1,1,1,1,1,1,1,1,1,1,1,1,0,0]) (q30 [1,1,1,1,1,1,1,1,1,1,1,1,0,1]):=by kernel_rfl
theorem Rb:q30 [1,1,1,1,1,1,1,1,1,1,1,1,0,0]=.region 17 (Zt (q30 [1,1,1,1,1,1,1,1,1,1,1,1,0,0])) false:=by kernel_rfl
theorem Ro:q30 [1,1,1,1,1,1,1,1,1,1,1,1,0,1]=.cond (.tmp 77) (q30 [1,1,1,1,1,1,1,1,1,1,1,1,0,1,3]) (q30 [1,1,1,1,1,1,1,1,1,1,1,1,0,1,4]):=by kernel_rfl
theorem Zbq:q30 [1,1,1,1,1,1,1,1,1,1,1,1,0,1,3]=.seq (q30 [1,1,1,1,1,1,1,1,1,1,1,1,0,1,3,0]) (q30 [1,1,1,1,1,1,1,1,1,1,1,1,0,1,3,1]):=by kernel_rfl
theorem Zah:q30 [1,1,1,1,1,1,1,1,1,1,1,1,0,1,3,0]=.region 18 (Zt (q30 [1,1,1,1,1,1,1,1,1,1,1,1,0,1,3,0])) false:=by kernel_rfl
theorem Zad:q30 [1,1,1,1,1,1,1,1,1,1,1,1,0,1,3,1]=.ret:=by kernel_rfl
theorem Zbg:q30 [1,1,1,1,1,1,1,1,1,1,1,1,0,1,4]=.skip:=by kernel_rfl
theorem Zdf:q30 [1,1,1,1,1,1,1,1,1,1,1,1,1]=.seq (q30 [1,1,1,1,1,1,1,1,1,1,1,1,1,0]) (q30 [1,1,1,1,1,1,1,1,1,1,1,1,1,1]):=by kernel_rfl
theorem Zc0:q30 [1,1,1,1,1,1,1,1,1,1,1,1,1,0]=.region 19 (Zt (q30 [1,1,1,1,1,1,1,1,1,1,1,1,1,0])) false:=by kernel_rfl
theorem Zcs:q30 [1,1,1,1,1,1,1,1,1,1,1,1,1,1]=.ret:=by kernel_rfl
noncomputable def q80 (p:List Nat):Code:=piece p (Z5 Tryz.f80)
theorem Yil:q80 []=.seq (q80 [0]) (q80 [1]):=by kernel_rfl
theorem q80_0:q80 [0]=.region 0 (Zt (q80 [0])) false:=by kernel_rfl
theorem q80_1:q80 [1]=.seq (q80 [1,0]) (q80 [1,1]):=by kernel_rfl
theorem Yfv:q80 [1,0]=.region 1 (Zt (q80 [1,0])) false:=by kernel_rfl
theorem Yd9:q80 [1,1]=.seq (q80 [1,1,0]) (q80 [1,1,1]):=by kernel_rfl
theorem Yc3:q80 [1,1,0]=.region 2 (Zt (q80 [1,1,0])) false:=by kernel_rfl
theorem Yb0:q80 [1,1,1]=.ret:=by kernel_rfl
noncomputable def q123 (p:List Nat):Code:=piece p (Z5 Tryz.f123)
theorem Ygv:q123 []=.seq (q123 [0]) (q123 [1]):=by kernel_rfl
theorem q123_0:q123 [0]=.seq (q123 [0,0]) (q123 [0,1]):=by kernel_rfl
theorem Yal:q123 [0,0]=.region 0 (Zt (q123 [0,0])) false:=by kernel_rfl
theorem Yaf:q123 [0,1]=.cond (.tmp 7) (q123 [0,1,3]) (q123 [0,1,4]):=by kernel_rfl
theorem Z4l:q123 [0,1,4]=.skip:=by kernel_rfl
theorem q123_1:q123 [1]=.seq (q123 [1,0]) (q123 [1,1]):=by kernel_rfl
theorem Yac:q123 [1,0]=.region 1 (Zt (q123 [1,0])) false:=by kernel_rfl
theorem Ycq:q123 [1,1]=.block 0 (q123 [1,1,2]):=by kernel_rfl
theorem Zlw:q123 [1,1,2]=.loop (q123 [1,1,2,2]):=by kernel_rfl
theorem Zn5:q123 [1,1,2,2]=.seq (q123 [1,1,2,2,0]) (q123 [1,1,2,2,1]):=by kernel_rfl
theorem Zlc:q123 [1,1,2,2,0]=.block 1 (q123 [1,1,2,2,0,2]):=by kernel_rfl
theorem Zg2:q123 [1,1,2,2,0,2]=.seq (q123 [1,1,2,2,0,2,0]) (q123 [1,1,2,2,0,2,1]):=by kernel_rfl
theorem Zep:q123 [1,1,2,2,0,2,0]=.region 3 (Zt (q123 [1,1,2,2,0,2,0])) false:=by kernel_rfl
theorem Zev:q123 [1,1,2,2,0,2,1]=.seq (q123 [1,1,2,2,0,2,1,0]) (q123 [1,1,2,2,0,2,1,1]):=by kernel_rfl
theorem Zcb:q123 [1,1,2,2,0,2,1,0]=.region 4 (Zt (q123 [1,1,2,2,0,2,1,0])) false:=by kernel_rfl
theorem Zb6:q123 [1,1,2,2,0,2,1,1]=.cond (.tmp 24) (q123 [1,1,2,2,0,2,1,1,3]) (q123 [1,1,2,2,0,2,1,1,4]):=by kernel_rfl
theorem Zkw:q123 [1,1,2,2,0,2,1,1,3]=.ret:=by kernel_rfl
theorem Zmf:q123 [1,1,2,2,0,2,1,1,4]=.skip:=by kernel_rfl
theorem Zw3:q123 [1,1,2,2,1]=.region 2 (Zt (q123 [1,1,2,2,1])) false:=by kernel_rfl
theorem rs30:Tryz.f30.results.toList=[.cell 4 30,.tmp 5]:=rfl
theorem rs80:Tryz.f80.results.toList=[.tmp 2]:=rfl
theorem rs123:Tryz.f123.results.toList=[]:=rfl
attribute [go_sem] rs30 rs80 rs123
theorem rs122:Tryz.f122.results.toList=[.tmp 2]:=rfl
attribute [go_sem] rs122
def tlL (ms:List Nat):List (List C):=ms.map fun n=>[.int .u8 ((n % 256:Nat):Int)]
theorem Z8o (ms:List Nat):(tlL ms).length=ms.length:=by simp [tlL]
theorem rdT {ms:List Nat} {i:Nat} (h:i<ms.length):read1 1 (tlL ms) i=some (.int .u8 ((atN ms i:Nat):Int)):=by
 unfold read1 tlL atN
 rw[Nat.div_one,Nat.mod_one,List.getElem?_map,List.getElem?_eq_getElem h,List.getD_eq_getElem?_getD,List.getElem?_eq_getElem h]
 rfl
theorem Zom:∀ ms:List Nat,chunks 1 ms.length (pgL ms)=tlL ms
 | []=>rfl
 | n :: ms=>by
  show _ :: chunks 1 ms.length (pgL ms)=_
  rw[Zom ms]
  rfl
theorem Ya5 {ns:List Nat} {p k:Nat} (hl:ns.length=256) (h:p+k≤256) (k0:0<k):Zc 256 [pgL ns] p k=some (pgL ((ns.drop p).take k)):=by
 unfold Zc
 rw[Nat.div_eq_of_lt (by omega),Nat.mod_eq_of_lt (by omega),List.getElem?_cons_zero]
 cases hk:Nat.beq k 0 with
 | true=>have:=Nat.eq_of_beq_eq_true hk; omega
 | false =>
  simp only[cond_false,Et,hl,Nat.ble_eq_true_of_le h,cond_true]
  unfold pgL
  rw[List.map_take,List.map_drop]
theorem Yaj {ns:List Nat} {p k:Nat} (hl:ns.length=256) (h:p+k≤256) (k0:0<k):M6 256 [pgL ns] p 1 k=some (tlL ((ns.drop p).take k)):=by
 have e:((ns.drop p).take k).length=k:=by rw[List.length_take,List.length_drop]; omega
 unfold M6
 cases hk:Nat.beq k 0 with
 | true=>have:=Nat.eq_of_beq_eq_true hk; omega
 | false =>
  rw[Nat.mul_one,Ya5 hl h k0]
  show some (chunks 1 k _)=_
  rw[←Zom,e]
theorem Zq3 {ns:List Nat} {p k i:Nat} (h:i<k):atN ((ns.drop p).take k) i=atN ns (p+i):=by
 unfold atN
 rw[List.getD_eq_getElem?_getD,List.getD_eq_getElem?_getD,List.getElem?_take_of_lt h,List.getElem?_drop]
theorem Z48 {ns:List Nat} {p k i:Nat} (h:i+4≤k):Yj ((ns.drop p).take k) i=Yj ns (p+i):=by
 unfold Yj
 rw[Zq3 (by omega),Zq3 (by omega),Zq3 (by omega),Zq3 (by omega)]
 rfl
theorem Zsb {ns:List Nat} {p k:Nat}:∀ {n i:Nat},i+4 * n≤k→Tn ((ns.drop p).take k) i n=Tn ns (p+i) n
 | 0,_,_=>rfl
 | n+1,i,h=>by
  unfold Tn
  rw[Z48 (by omega),Zsb (by omega)]
  rfl
def Zto (X:List C) (i:Nat):List Nat→List C
 | []=>X
 | v :: vs=>Zto (X.set i (.int .u32 v)) (i+1) vs
theorem Zsg:∀ (vs:List Nat) (X:List C) (i:Nat),(Zto X i vs).length=X.length
 | [],_,_=>rfl
 | v :: vs,X,i=>by
  unfold Zto
  rw[Zsg vs,List.length_set]
theorem Zz1:∀ ms:List Nat,(tlL ms).all (fun l=>l.all C.flat)=true
 | []=>rfl
 | n :: ms=>Zz1 ms
theorem wrC {X:List C} (xl:X.length=16) {j:Nat} (hj:j<16) (c:C):Zx 16 [X] j [c]=some [X.set j c]:=by
 simp only[Zx]
 rw[Nat.div_eq_of_lt hj,Nat.mod_eq_of_lt hj,List.getElem?_cons_zero]
 simp only[]
 rw[Zn0 (by omega),cond_true]
 rfl
section
variable (Hh:Hearts K Tryz.prog)
include Hh
theorem Yf6 {h:Go.Ev.H} {q a:Nat} {ms:List Nat} (hl:ms.length=44) (hp:h.get q=some (.row 1 (tlL ms) false)) (h2:a+4≤44):Zd K Tryz.prog 121 [.c (.slice q 0 44 1),.c (.int .i64 a),.c (.int .i64 4)] h (.tup [.c (.int .u32 ((Yj ms a:Nat):Int)),.c (.bool true)]) h:=by
 have e0:(a:Int)+0=(a:Int):=Int.add_zero _
 have e1:(a:Int)+1=((a+1:Nat):Int):=rfl
 have e2:(a:Int)+2=((a+2:Nat):Int):=rfl
 have e3:(a:Int)+3=((a+3:Nat):Int):=rfl
 have g:Yj ms a=atN ms a+256 * (atN ms (a+1)+256 * (atN ms (a+2)+256 * atN ms (a+3))):=rfl
 have r0:=rdT (ms:=ms) (i:=a) (by omega)
 have r1:=rdT (ms:=ms) (i:=a+1) (by omega)
 have r2:=rdT (ms:=ms) (i:=a+2) (by omega)
 have r3:=rdT (ms:=ms) (i:=a+3) (by omega)
 obtain⟨b0,k0⟩:∃ b,atN ms a=b:=⟨_,rfl⟩
 obtain⟨b1,k1⟩:∃ b,atN ms (a+1)=b:=⟨_,rfl⟩
 obtain⟨b2,k2⟩:∃ b,atN ms (a+2)=b:=⟨_,rfl⟩
 obtain⟨b3,k3⟩:∃ b,atN ms (a+3)=b:=⟨_,rfl⟩
 have l0:=Ni ms a
 have l1:=Ni ms (a+1)
 have l2:=Ni ms (a+2)
 have l3:=Ni ms (a+3)
 rw[g,k0,k1,k2,k3]
 rw[k0] at l0 r0
 rw[k1] at l1 r1
 rw[k2] at l2 r2
 rw[k3] at l3 r3
 have s0:Zap .u32 0 8=some (.int .u32 0):=rfl
 have o0:Ep .u32 Nat.lor 0 (b3:Int)=.int .u32 (b3:Int):=by
  have:=or8 (v:=0) (by omega) l3
  rwa [Nat.mul_zero,Nat.add_zero] at this
 have s1:=shl8 (v:=b3) (by omega)
 have o1:=or8 (v:=b3) (by omega) l2
 have s2:=shl8 (v:=b2+256 * b3) (by omega)
 have o2:=or8 (v:=b2+256 * b3) (by omega) l1
 have s3:=shl8 (v:=b1+256 * (b2+256 * b3)) (by omega)
 have o3:=or8 (v:=b1+256 * (b2+256 * b3)) (by omega) l0
 have tl:(tlL ms).length=44:=by rw[Z8o,hl]
 obtain⟨T,hT⟩:∃ T,tlL ms=T:=⟨_,rfl⟩
 rw[hT] at hp r0 r1 r2 r3 tl
 refine Zd.goes fits Hh (by kernel_rfl) (by kernel_rfl) (by kernel_rfl) (show Tryz.f121.body=some _ from rfl) rfl ?_
 repeat (first
  | refine Goes.seq ?_
  | refine Goes.block ?_
  | refine Goes.loop ?_
  | refine Goes.skip ?_
  | refine Goes.exit ?_
  | refine Goes.ret ?_
  | refine Goes.Z4 (by simp (maxSteps:=9^6) +decide (disch:=first|omega|(simp only[lens]<;>omega)|decide) only [go_sem,Zc,Za,simprocAttr,hp,e0,e1,e2,e3,s0,o0,s1,o1,s2,o2,s3,o3,r0,r1,r2,r3,Nat.zero_add,Zm,Yz]<;>rfl) ?_
  | refine Goes.ops2 fits Hh (Zf Zb (fun _ _ _ _=>Rq Hh)) (by simp (maxSteps:=9^6) +decide (disch:=first|omega|(simp only[lens]<;>omega)|decide) only [go_sem,Zc,Za,simprocAttr,hp,e0,e1,e2,e3,s0,o0,s1,o1,s2,o2,s3,o3,r0,r1,r2,r3,Nat.zero_add,Zm,Yz]; rfl) ?_)
 simp (maxSteps:=9^6) +decide (disch:=first|omega|(simp only[lens]<;>omega)|decide) only [go_sem,Zc,Za,simprocAttr]<;>rfl
theorem Yek {h:Go.Ev.H} {q a:Nat} {ms:List Nat} (hl:ms.length=44) (hp:h.get q=some (.row 1 (tlL ms) false)) (h2:a+4≤44):Zd K Tryz.prog 79 [.c (.slice q 0 44 1),.c (.int .i64 a)] h (.tup [.c (.int .u32 ((Yj ms a:Nat):Int)),.c (.bool true)]) h:=by
 have c1:=Yf6 Hh hl hp h2
 refine Zd.goes fits Hh (by kernel_rfl) (by kernel_rfl) (by kernel_rfl) (show Tryz.f79.body=some (q79 []) by kernel_rfl) rfl ?_
 show Goes K Tryz.prog 11 none _ _ _ _ _
 refine Goes.Zq Ye9 ?_
 refine Goes.Zw q79_0 fits Hh Zb (by
  simp (maxSteps:=9^6) +decide (disch:=first|omega|(simp only[lens]<;>omega)|decide) only [go_sem,q79,Tryz.f79,Zc,Za,simprocAttr]
  rfl) ?_
 refine Goes.Zq q79_1 ?_
 refine Goes.Zw Zxl fits Hh (Z8 Zb c1) (by
  simp (maxSteps:=9^6) +decide (disch:=first|omega|(simp only[lens]<;>omega)|decide) only [go_sem,q79,Tryz.f79,Zc,Za,simprocAttr,Yo]
  rfl) ?_
 refine Goes.Gl Zxs ?_
 simp (maxSteps:=9^6) +decide (disch:=first|omega|(simp only[lens]<;>omega)|decide) only [go_sem,Zc,Za,simprocAttr]<;>rfl
theorem Yfh (h:Go.Ev.H) (q:Nat):Zd K Tryz.prog 79 [.c (.slice q 0 44 1),.c (.int .i64 44)] h (.tup [.c (.int .u32 0),.c (.bool false)]) h:=by
 have cw:Zd K Tryz.prog 157 [.c (.int .i64 44),.c (.int .i64 44),.c (.int .i64 4)] h (.w (.c (.bool false))) h:=by
  refine Zd.goes fits Hh (by kernel_rfl) (by kernel_rfl) (by kernel_rfl) (show Tryz.f157.body=some _ from rfl) rfl ?_
  repeat (first
   | refine Goes.seq ?_
   | refine Goes.block ?_
   | refine Goes.loop ?_
   | refine Goes.skip ?_
   | refine Goes.exit ?_
   | refine Goes.ret ?_
   | refine Goes.Z4 (by simp (maxSteps:=9^6) +decide (disch:=first|omega|(simp only[lens]<;>omega)|decide) only [go_sem,Zc,Za,simprocAttr]<;>rfl) ?_
   | refine Goes.ops2 fits Hh Zb (by simp (maxSteps:=9^6) +decide (disch:=first|omega|(simp only[lens]<;>omega)|decide) only [go_sem,Zc,Za,simprocAttr]; rfl) ?_)
  simp (maxSteps:=9^6) +decide (disch:=first|omega|(simp only[lens]<;>omega)|decide) only [go_sem,Zc,Za,simprocAttr]<;>rfl
 have c1:Zd K Tryz.prog 121 [.c (.slice q 0 44 1),.c (.int .i64 44),.c (.int .i64 4)] h (.tup [.c (.int .u32 0),.c (.bool false)]) h:=by
  refine Zd.goes fits Hh (by kernel_rfl) (by kernel_rfl) (by kernel_rfl) (show Tryz.f121.body=some (q121 []) by kernel_rfl) rfl ?_
  show Goes K Tryz.prog 33 none _ _ _ _ _
  refine Goes.Zq Yha ?_
  refine Goes.Zw q121_0 fits Hh Zb (by
   simp (maxSteps:=9^6) +decide (disch:=first|omega|(simp only[lens]<;>omega)|decide) only [go_sem,q121,Tryz.f121,Zc,Za,simprocAttr,Zm,Yz]
   rfl) ?_
  refine Goes.Zq q121_1 ?_
  refine Goes.Zq Ycf ?_
  refine Goes.Zw Z7a fits Hh (Z8 Zb cw) (by
   simp (maxSteps:=9^6) +decide (disch:=first|omega|(simp only[lens]<;>omega)|decide) only [go_sem,q121,Tryz.f121,Zc,Za,simprocAttr,Yo,Zm,Yz]
   rfl) ?_
  refine Goes.Ob Z4e (by simp (maxSteps:=9^6) +decide (disch:=first|omega|(simp only[lens]<;>omega)|decide) only [go_sem,Zc,Za,simprocAttr,Zm,Yz]<;>rfl) (by first|rfl|assumption|exact decide_eq_true (by omega)|(simp; omega)) ?_
  refine Goes.Zq Z24 ?_
  refine Goes.Zw Zvj fits Hh Zb (by
   simp (maxSteps:=9^6) +decide (disch:=first|omega|(simp only[lens]<;>omega)|decide) only [go_sem,q121,Tryz.f121,Zc,Za,simprocAttr,Zm,Yz]
   rfl) ?_
  refine Goes.Gl Zyf ?_
  simp (maxSteps:=9^6) +decide (disch:=first|omega|(simp only[lens]<;>omega)|decide) only [go_sem,Zc,Za,simprocAttr,Zm,Yz]<;>rfl
 refine Zd.goes fits Hh (by kernel_rfl) (by kernel_rfl) (by kernel_rfl) (show Tryz.f79.body=some (q79 []) by kernel_rfl) rfl ?_
 show Goes K Tryz.prog 11 none _ _ _ _ _
 refine Goes.Zq Ye9 ?_
 refine Goes.Zw q79_0 fits Hh Zb (by
  simp (maxSteps:=9^6) +decide (disch:=first|omega|(simp only[lens]<;>omega)|decide) only [go_sem,q79,Tryz.f79,Zc,Za,simprocAttr]
  rfl) ?_
 refine Goes.Zq q79_1 ?_
 refine Goes.Zw Zxl fits Hh (Z8 Zb c1) (by
  simp (maxSteps:=9^6) +decide (disch:=first|omega|(simp only[lens]<;>omega)|decide) only [go_sem,q79,Tryz.f79,Zc,Za,simprocAttr,Yo]
  rfl) ?_
 refine Goes.Gl Zxs ?_
 simp (maxSteps:=9^6) +decide (disch:=first|omega|(simp only[lens]<;>omega)|decide) only [go_sem,Zc,Za,simprocAttr]<;>rfl
theorem Z88 {h:Go.Ev.H} {p off:Nat} {ns:List Nat} (hl:ns.length=256) (hp:h.get p=some (.row 256 [pgL ns] false)) (h1:off+44≤256):Zd K Tryz.prog 122 [.c (.slice p off 44 1)] h (.w (.c (.slice h.next 0 44 1))) (h.new (.row 1 (tlL ((ns.drop off).take 44)) false)):=by
 have rm:=Yaj hl h1 (by omega)
 have tl:(tlL ((ns.drop off).take 44)).length=44:=by rw[Z8o,List.length_take,List.length_drop]; omega
 have tf:=Zz1 ((ns.drop off).take 44)
 obtain⟨T,hT⟩:∃ T,tlL ((ns.drop off).take 44)=T:=⟨_,rfl⟩
 rw[hT] at rm tl tf ⊢
 refine Zd.tidy ⟨Tryz.f122,Tryz.func122,by kernel_rfl,by decide⟩ fun tidy=>?_
 have l1:=tidy _ _ hp
 obtain⟨v,h',cc,n',rfl,n1,n2,n3,hk⟩:∃ v h',Zd K Tryz.prog 122 [.c (.slice p off 44 1)] h v h'∧∃ n',v=.w (.c (.slice n' 0 44 1))∧h.next≤n'∧n'<h'.next∧h'.get n'=some (.row 1 T false)∧∀ m,m<h.next→h'.get m=h.get m:=by
  rcases T with _|⟨x0,T⟩
  ·simp only[List.length_nil] at tl; omega
  ·
   refine Zd.Ya fits Hh (by kernel_rfl) (by kernel_rfl) (by kernel_rfl) (show Tryz.f122.body=some _ from rfl) rfl ?_
   repeat (first
    | refine Goes.seq ?_
    | refine Goes.block ?_
    | refine Goes.loop ?_
    | refine Goes.skip ?_
    | refine Goes.exit ?_
    | refine Goes.ret ?_
    | refine Goes.Z4 (by simp (maxSteps:=9^6) +decide (disch:=first|omega|(simp only[lens]<;>omega)|decide) only [go_sem,Zc,Za,simprocAttr,hp,rm,tl,List.length_append,Nat.zero_add,Zm,O6,Ub,Un,X5,Nj,Xt,Qo,Yd,Um,Yb,List.replicate_succ,List.replicate_zero,Nat.zero_mul]<;>rfl) ?_
    | refine Goes.ops2 fits Hh Zb (by simp (maxSteps:=9^6) +decide (disch:=first|omega|(simp only[lens]<;>omega)|decide) only [go_sem,Zc,Za,simprocAttr,hp,rm,tl,List.length_append,Nat.zero_add,Zm,O6,Ub,Un,X5,Nj,Xt,Qo,Yd,Um,Yb,List.replicate_succ,List.replicate_zero,Nat.zero_mul]; rfl) ?_)
   exact⟨_,_,(by simp (maxSteps:=9^6) +decide (disch:=first|omega|(simp only[lens]<;>omega)|decide) only [go_sem,Zc,Za,simprocAttr]<;>rfl),_,rfl,(by first|omega|(simp only[H.Ze,H.Zj]<;>omega)),(by first|omega|(simp only[H.Ze,H.Zj]<;>omega)),(by rw[Mk (by rw[H.Zj,H.Ze]; omega)]),fun m hm=>by (first|(simp (discharger:=omega) only [H.get_put,H.Zh,H.Zk,H.Ze,H.Zg,H.Zj,if_neg]; done)|(simp only[H.get_put,H.Zh,H.Zk,H.Ze,H.Zg,H.Zj]; (repeat' split)<;>first|rfl|(exfalso; omega)|omega))⟩
 exact Zd.row1 cc n1 n3 tf n2 hk
theorem Yen {h:Go.Ev.H} {p off:Nat} {ns:List Nat} (hl:ns.length=256) (hp:h.get p=some (.row 256 [pgL ns] false)) (h1:off+44≤256):Zd K Tryz.prog 80 [.c (.slice p off 44 1)] h (.w (.c (.fn 123 [] [some (h.next+1,0)]))) (((h.new (.row 1 (tlL ((ns.drop off).take 44)) false)).new (.row 1 [[.snil]] false)).put (h.next+1) (.row 1 [[.slice h.next 0 44 1]] false)):=by
 have c1:=Z88 Hh hl hp h1
 obtain⟨T,hT⟩:∃ T,tlL ((ns.drop off).take 44)=T:=⟨_,rfl⟩
 rw[hT] at c1 ⊢
 refine Zd.goes fits Hh (by kernel_rfl) (by kernel_rfl) (by kernel_rfl) (show Tryz.f80.body=some (q80 []) by kernel_rfl) rfl ?_
 show Goes K Tryz.prog 7 none _ _ _ _ _
 refine Goes.Zq Yil ?_
 refine Goes.Zw q80_0 fits Hh Zb (by
  simp (maxSteps:=9^6) +decide (disch:=first|omega|(simp only[lens]<;>omega)|decide) only [go_sem,q80,Tryz.f80,Zc,Za,simprocAttr,Zn,Zx]
  rfl) ?_
 refine Goes.Zq q80_1 ?_
 refine Goes.Zw Yfv fits Hh (Z8 Zb c1) (by
  simp (maxSteps:=9^6) +decide (disch:=first|omega|(simp only[lens]<;>omega)|decide) only [go_sem,q80,Tryz.f80,Zc,Za,simprocAttr,Yo,Zn,Zx]
  rfl) ?_
 refine Goes.Zq Yd9 ?_
 refine Goes.Zw Yc3 fits Hh Zb (by
  simp (maxSteps:=9^6) +decide (disch:=first|omega|(simp only[lens]<;>omega)|decide) only [go_sem,q80,Tryz.f80,Zc,Za,simprocAttr,Zn,Zx]
  rfl) ?_
 refine Goes.Gl Yb0 ?_
 simp (maxSteps:=9^6) +decide (disch:=first|omega|(simp only[lens]<;>omega)|decide) only [go_sem,Zc,Za,simprocAttr,Zn,Zx]<;>rfl
section
variable {l px pb q d:Nat} {lts:Zy} {ms:List Nat}
noncomputable def Ns (lts:Zy) (st:LoopState) (d:Nat):O:=.loop lts 80 [62,63] (q30 [1,1,1,1,1,1,1,1,1,1,0,1,2,5]) (q30 [1,1,1,1,1,1,1,1,1,1,0,1,2,6]) st none d
theorem gtA (l:Nat) (ts:Zy) (h:Go.Ev.H) {t w:C} (e1:Zp ts 62=.w (.c t)) (e2:Zp ts 63=.w (.c w)):Goes K Tryz.prog 80 (some l) (q30 [1,1,1,1,1,1,1,1,1,1,0,1,2,5]) [] ts h fun x ds' ts' h'=>x=.normal∧ds'=[]∧h'=h∧(∀ s,s≤11→Zp ts' s=Zp ts s)∧Zp ts' 12=Zp ts 62∧Zp ts' 13=Zp ts 63:=by
 refine Goes.Zq Rp ?_
 refine Goes.Zw Zbf fits Hh Zb (by
  simp (maxSteps:=9^6) +decide (disch:=first|omega|(simp only[lens]<;>omega)|decide) only [go_sem,q30,Tryz.f30,Zc,Za,simprocAttr,e1,e2]
  rfl) ?_
 refine Goes.Zw Zbn fits Hh Zb (by
  simp (maxSteps:=9^6) +decide (disch:=first|omega|(simp only[lens]<;>omega)|decide) only [go_sem,q30,Tryz.f30,Zc,Za,simprocAttr,e1,e2]
  rfl) ?_
 refine⟨rfl,rfl,rfl,fun s hs=>?_,?_,?_⟩
 ·simp (decide:=true) only [Uj hs]
 ·rw[e1]; simp (maxSteps:=9^6) +decide (disch:=first|omega|(simp only[lens]<;>omega)|decide) only [go_sem,Zc,Za,simprocAttr]
 ·rw[e2]; simp (maxSteps:=9^6) +decide (disch:=first|omega|(simp only[lens]<;>omega)|decide) only [go_sem,Zc,Za,simprocAttr]
theorem gtB (l:Nat) {ts:Zy} {h:Go.Ev.H} {i v:Nat} {X:List C} (ii:i<11) (e7:Zp ts 7=.w (.c (.ptr px 0))) (e12:Zp ts 12=.w (.c (.int .i64 ((4 * i:Nat):Int)))) (e13:Zp ts 13=.w (.c (.int .u32 (v:Int)))) (hx:h.get px=some (.row 16 [X] false)) (xl:X.length=16) :
  Goes K Tryz.prog 80 (some l) (q30 [1,1,1,1,1,1,1,1,1,1,0,1,2,6]) [] ts h fun x _ _ h'=>x=.normal∧h'=h.put px (.row 16 [X.set (4+i) (.int .u32 (v:Int))] false):=by
 have q4:V5 .i64 ((4 * i:Nat):Int) 4=some (.int .i64 (i:Int)):=by
  rw[show (4:Int)=((4:Nat):Int) from rfl,Lt (by omega) (by omega),Nat.mul_div_cancel_left _ (by omega)]
 have wc:=wrC xl (j:=4+i) (by omega) (.int .u32 (v:Int))
 refine Goes.Ul Re (Goes.block ?_)
 refine Goes.Zw Zbb fits Hh Zb (by
  simp (maxSteps:=9^6) +decide (disch:=first|omega|(simp only[lens]<;>omega)|decide) only [go_sem,q30,Tryz.f30,Zc,Za,simprocAttr,e7,e12,e13,hx,q4,wc]
  rfl) ?_
 exact⟨rfl,rfl⟩
theorem Z1d (l px:Nat):∃ E,Sound K Tryz.prog E∧∀ (lts:Zy) (d i v:Nat) (X:List C) (h:Go.Ev.H),l≠px→Zp lts 7=.w (.c (.ptr px 0))→i<11→h.get l=some (Ns lts .ready d)→h.get px=some (.row 16 [X] false)→X.length=16 →
  Df E l (some [.c (.int .i64 ((4 * i:Nat):Int)),.c (.int .u32 (v:Int))]) h (some (Ns lts .ready d))=some (.val (.w (.c (.bool true))) (((h.put l (Ns lts .busy d)).put px (.row 16 [X.set (4+i) (.int .u32 (v:Int))] false)).put l (Ns lts .ready d))):=by
 have ne:(q30 [1,1,1,1,1,1,1,1,1,1,0,1,2,5])≠(q30 [1,1,1,1,1,1,1,1,1,1,0,1,2,6]):=fun e=>by
  rw[Re,Rp] at e
  cases e
 obtain⟨E,S,g⟩:=rounds (K:=K) (P:=Tryz.prog) (n:=80) (l:=l) ne
  (PA:=fun ts _=>∃ t w,Zp ts 62=.w (.c t)∧Zp ts 63=.w (.c w))
  (QA:=fun ts ts'=>(∀ s,s≤11→Zp ts' s=Zp ts s)∧Zp ts' 12=Zp ts 62∧Zp ts' 13=Zp ts 63)
  (PB:=fun ts h=>∃ (i v:Nat) (X:List C),i<11∧Zp ts 7=.w (.c (.ptr px 0))∧Zp ts 12=.w (.c (.int .i64 ((4 * i:Nat):Int)))∧Zp ts 13=.w (.c (.int .u32 (v:Int)))∧h.get px=some (.row 16 [X] false)∧X.length=16)
  (QB:=fun ts h h'=>∀ (i v:Nat) (X:List C),Zp ts 12=.w (.c (.int .i64 ((4 * i:Nat):Int)))→Zp ts 13=.w (.c (.int .u32 (v:Int)))→h.get px=some (.row 16 [X] false)→h'=h.put px (.row 16 [X.set (4+i) (.int .u32 (v:Int))] false))
  (fun ts h ⟨t,w,e1,e2⟩=>gtA Hh l ts h e1 e2)
  (fun ts h ⟨i,v,X,ii,e7,e12,e13,hx,xl⟩=>(gtB Hh l ii e7 e12 e13 hx xl).mono fun x _ _ h' ⟨x1,x2⟩=>⟨x1,fun i' v' X' f1 f2 f3=>by
   rw[e12] at f1
   rw[e13] at f2
   rw[hx] at f3
   cases f3
   have a1:((4 * i:Nat):Int)=((4 * i':Nat):Int):=by injection f1 with f1; injection f1 with f1; injection f1
   have a2:(v:Int)=(v':Int):=by injection f2 with f2; injection f2 with f2; injection f2
   obtain rfl:i=i':=by omega
   obtain rfl:v=v':=by omega
   exact x2⟩)
 refine⟨E,S,fun lts d i v X h nl e7 ii hl hx xl=>?_⟩
 have z1:Zp ((lts.set 62 (.w (.c (.int .i64 ((4 * i:Nat):Int))))).set 63 (.w (.c (.int .u32 (v:Int))))) 62=.w (.c (.int .i64 ((4 * i:Nat):Int))):=by simp (decide:=true) only [Zi,reduceIte]
 have z2:Zp ((lts.set 62 (.w (.c (.int .i64 ((4 * i:Nat):Int))))).set 63 (.w (.c (.int .u32 (v:Int))))) 63=.w (.c (.int .u32 (v:Int))):=by simp (decide:=true) only [Zi,reduceIte]
 have z7:Zp ((lts.set 62 (.w (.c (.int .i64 ((4 * i:Nat):Int))))).set 63 (.w (.c (.int .u32 (v:Int))))) 7=.w (.c (.ptr px 0)):=by simp (decide:=true) only [Zi,reduceIte,e7]
 have hx':(h.put l (Ns lts .busy d)).get px=some (.row 16 [X] false):=by rw[Zv (Ne.symm nl)]; exact hx
 obtain⟨ts',h',⟨a1,a2,a3⟩,b,r⟩:=g [.c (.int .i64 ((4 * i:Nat):Int)),.c (.int .u32 (v:Int))] h lts _ [62,63] d hl rfl ⟨_,_,z1,z2⟩ fun ts' ⟨a1,a2,a3⟩=>⟨i,v,X,ii,(a1 7 (by decide)).trans z7,a2.trans z1,a3.trans z2,hx',xl⟩
 have b:=b i v X (a2.trans z1) (a3.trans z2) hx'
 subst b
 exact r (by rw[Zv nl]; exact Yk ..)
theorem Z1t {E:Task→Option Out} (S:Sound K Tryz.prog E) (e7:Zp lts 7=.w (.c (.ptr px 0))) (nl:l≠px)
  (rnd:∀ (i v:Nat) (X:List C) (h:Go.Ev.H),i<11→h.get l=some (Ns lts .ready d)→h.get px=some (.row 16 [X] false)→X.length=16→Df E l (some [.c (.int .i64 ((4 * i:Nat):Int)),.c (.int .u32 (v:Int))]) h (some (Ns lts .ready d))=some (.val (.w (.c (.bool true))) (((h.put l (Ns lts .busy d)).put px (.row 16 [X.set (4+i) (.int .u32 (v:Int))] false)).put l (Ns lts .ready d))))
  (ml:ms.length=44) (nb:pb≠l∧pb≠px) (nq:q≠l∧q≠px):∀ (m i:Nat) (X:List C) (ts:Zy) (h:Go.Ev.H),i+m=11→h.get l=some (Ns lts .ready d)→h.get px=some (.row 16 [X] false)→X.length=16→h.get pb=some (.row 1 [[.slice q 0 44 1]] false)→h.get q=some (.row 1 (tlL ms) false) →
  Zp ts 0=.w (.c (.yield l))→Zp ts 1=.w (.c (.ptr pb 0))→Zp ts 3=.w (.c (.int .i64 ((4 * i:Nat):Int))) →
  Goes K Tryz.prog 25 none (q123 [1,1,2]) [] ts h fun x ds' _ h'=>x=.ret∧ds'=[]∧h'.next=h.next∧h'.get l=some (Ns lts .ready d)∧h'.get px=some (.row 16 [Zto X (4+i) (Tn ms (4 * i) m)] false)∧∀ k,k≠l→k≠px→h'.get k=h.get k:=by
 intro m
 induction m with
 | zero =>
  intro i X ts h hi hl hx xl hb hq e0 e1 e3
  obtain rfl:i=11:=by omega
  have c1:=Yfh Hh h q
  refine Goes.Lm Zlw (Goes.loop ?_)
  refine Goes.Zq Zn5 ?_
  refine Goes.Ul Zlc (Goes.block ?_)
  refine Goes.Zq Zg2 ?_
  refine Goes.Zw Zep fits Hh (Z8 Zb c1) (by
   simp (maxSteps:=9^6) +decide (disch:=first|omega|(simp only[lens]<;>omega)|decide) only [go_sem,q123,Tryz.f123,Zc,Za,simprocAttr,Yo,e0,e1,e3,hb,read1]
   rfl) ?_
  refine Goes.Zq Zev ?_
  refine Goes.Zw Zcb fits Hh Zb (by
   simp (maxSteps:=9^6) +decide (disch:=first|omega|(simp only[lens]<;>omega)|decide) only [go_sem,q123,Tryz.f123,Zc,Za,simprocAttr,e0,e1,e3,hb,read1]
   rfl) ?_
  refine Goes.Ob Zb6 (by simp (maxSteps:=9^6) +decide (disch:=first|omega|(simp only[lens]<;>omega)|decide) only [go_sem,Zc,Za,simprocAttr,e0,e1,e3,hb,read1]<;>rfl) (by first|rfl|assumption|exact decide_eq_true (by omega)|(simp; omega)) ?_
  refine Goes.Gl Zkw ?_
  exact⟨rfl,rfl,rfl,hl,hx,fun _ _ _=>rfl⟩
 | succ m ih =>
  intro i X ts h hi hl hx xl hb hq e0 e1 e3
  have c1:=Yek Hh ml hq (a:=4 * i) (by omega)
  have gW:Tn ms (4 * i) (m+1)=Yj ms (4 * i) :: Tn ms (4 * (i+1)) m:=rfl
  rw[gW]
  obtain⟨v,hv⟩:∃ v,Yj ms (4 * i)=v:=⟨_,rfl⟩
  rw[hv] at c1 ⊢
  have r:=rnd i v X h (by omega) hl hx xl
  obtain⟨h2,eh⟩:∃ h2,((h.put l (Ns lts .busy d)).put px (.row 16 [X.set (4+i) (.int .u32 (v:Int))] false)).put l (Ns lts .ready d)=h2:=⟨_,rfl⟩
  rw[eh] at r
  have n2:h2.next=h.next:=by rw[←eh]; rfl
  have l2:h2.get l=some (Ns lts .ready d):=by rw[←eh,Yk]
  have x2:h2.get px=some (.row 16 [X.set (4+i) (.int .u32 (v:Int))] false):=by rw[←eh,Zv (Ne.symm nl),Yk]
  have k2:∀ k,k≠l→k≠px→h2.get k=h.get k:=fun k k1 k2=>by rw[←eh,Zv k1,Zv k2,Zv k1]
  clear eh
  have n4:((4 * i:Nat):Int)+4=((4 * (i+1):Nat):Int):=by omega
  refine Goes.Lm Zlw (Goes.loop ?_)
  refine Goes.Zq Zn5 ?_
  refine Goes.Ul Zlc (Goes.block ?_)
  refine Goes.Zq Zg2 ?_
  refine Goes.Zw Zep fits Hh (Z8 Zb c1) (by
   simp (maxSteps:=9^6) +decide (disch:=first|omega|(simp only[lens]<;>omega)|decide) only [go_sem,q123,Tryz.f123,Zc,Za,simprocAttr,Yo,e0,e1,e3,hb,hl,r,n4,read1]
   rfl) ?_
  refine Goes.Zq Zev ?_
  refine Goes.Zw Zcb fits Hh S (by
   simp (maxSteps:=9^6) +decide (disch:=first|omega|(simp only[lens]<;>omega)|decide) only [go_sem,q123,Tryz.f123,Zc,Za,simprocAttr,e0,e1,e3,hb,hl,r,n4,read1]
   rfl) ?_
  refine Goes.Yy Zb6 (by simp (maxSteps:=9^6) +decide (disch:=first|omega|(simp only[lens]<;>omega)|decide) only [go_sem,Zc,Za,simprocAttr,e0,e1,e3,hb,hl,r,n4,read1]<;>rfl) (by first|rfl|assumption|exact decide_eq_false (by omega)|(simp; omega)) ?_
  refine Goes.Jc Zmf ?_
  refine Goes.Zw Zw3 fits Hh Zb (by
   simp (maxSteps:=9^6) +decide (disch:=first|omega|(simp only[lens]<;>omega)|decide) only [go_sem,q123,Tryz.f123,Zc,Za,simprocAttr,e0,e1,e3,hb,hl,r,n4,read1]
   rfl) ?_
  show Goes K Tryz.prog 25 none (.loop (q123 [1,1,2,2])) _ _ _ _
  rw[←Zlw]
  refine (ih (i+1) _ _ h2 (by omega) l2 x2 (by rw[List.length_set]; exact xl) ((k2 _ nb.1 nb.2).trans hb) ((k2 _ nq.1 nq.2).trans hq) ?_ ?_ ?_).mono ?_
  ·simp (decide:=true) only [Zi,reduceIte,e0]
  ·simp (decide:=true) only [Zi,reduceIte,e1]
  ·simp (decide:=true) only [Zi,reduceIte]<;>rfl
  rintro x ds' ts2 h3 ⟨rfl,rfl,z1,z2,z3,z4⟩
  exact⟨rfl,rfl,z1.trans n2,z2,z3,fun k k1 k3=>(z4 k k1 k3).trans (k2 k k1 k3)⟩
theorem Ybp {h:Go.Ev.H} {X:List C} (e7:Zp lts 7=.w (.c (.ptr px 0))) (nl:l≠px) (ml:ms.length=44) (nb:pb≠l∧pb≠px) (nq:q≠l∧q≠px) (hl:h.get l=some (Ns lts .ready d)) (hx:h.get px=some (.row 16 [X] false)) (xl:X.length=16) (hb:h.get pb=some (.row 1 [[.slice q 0 44 1]] false)) (hq:h.get q=some (.row 1 (tlL ms) false)) :
  ∃ v h',Zd K Tryz.prog 123 [.c (.yield l),.c (.ptr pb 0)] h v h'∧h'.next=h.next∧h'.get l=some (Ns lts .ready d)∧h'.get px=some (.row 16 [Zto X 4 (Tn ms 0 11)] false)∧∀ k,k≠l→k≠px→h'.get k=h.get k:=by
 obtain⟨E,S,g⟩:=Z1d Hh l px
 have rnd:=fun i v X h ii hl hx xl=>g lts d i v X h nl e7 ii hl hx xl
 refine Zd.Ya fits Hh (by kernel_rfl) (by kernel_rfl) (by kernel_rfl) (show Tryz.f123.body=some (q123 []) by kernel_rfl) rfl ?_
 show Goes K Tryz.prog 25 none _ _ _ _ _
 refine Goes.Zq Ygv ?_
 refine Goes.Zq q123_0 ?_
 refine Goes.Zw Yal fits Hh Zb (by
  simp (maxSteps:=9^6) +decide (disch:=first|omega|(simp only[lens]<;>omega)|decide) only [go_sem,q123,Tryz.f123,Zc,Za,simprocAttr]
  rfl) ?_
 refine Goes.Yy Yaf (by simp (maxSteps:=9^6) +decide (disch:=first|omega|(simp only[lens]<;>omega)|decide) only [go_sem,Zc,Za,simprocAttr]<;>rfl) (by first|rfl|assumption|exact decide_eq_false (by omega)|(simp; omega)) ?_
 refine Goes.Jc Z4l ?_
 refine Goes.Zq q123_1 ?_
 refine Goes.Zw Yac fits Hh Zb (by
  simp (maxSteps:=9^6) +decide (disch:=first|omega|(simp only[lens]<;>omega)|decide) only [go_sem,q123,Tryz.f123,Zc,Za,simprocAttr]
  rfl) ?_
 refine Goes.Ul Ycq (Goes.block ?_)
 refine (Z1t Hh S e7 nl rnd ml nb nq 11 0 X _ h (by omega) hl hx xl hb hq ?_ ?_ ?_).mono ?_
 ·simp (decide:=true) only [Zi,reduceIte,U9,List.getElem?_cons_zero]
 ·simp (decide:=true) only [Zi,reduceIte,U9,List.getElem?_cons_succ,List.getElem?_cons_zero]
 ·simp (decide:=true) only [Zi,reduceIte]<;>rfl
 rintro x ds' ts2 h3 ⟨rfl,rfl,z1,z2,z3,z4⟩
 exact⟨_,_,(by simp (maxSteps:=9^6) +decide (disch:=first|omega|(simp only[lens]<;>omega)|decide) only [go_sem,Zc,Za,simprocAttr]<;>rfl),z1,z2,z3,z4⟩
theorem getLoop {ts:Zy} {h:Go.Ev.H} {X:List C} (e7:Zp ts 7=.w (.c (.ptr px 0))) (e61:Zp ts 61=.w (.c (.fn 123 [] [some (pb,0)]))) (ml:ms.length=44) (hx:h.get px=some (.row 16 [X] false)) (xl:X.length=16) (hb:h.get pb=some (.row 1 [[.slice q 0 44 1]] false)) (hq:h.get q=some (.row 1 (tlL ms) false)) (lx:px<h.next) (lb:pb<h.next) (lq:q<h.next) (nb:pb≠px) (nq:q≠px) :
  Goes K Tryz.prog 80 none (q30 [1,1,1,1,1,1,1,1,1,1,0,1,2]) [] ts h fun x ds' ts' h'=>x=.normal∧ts'=ts∧ds'=[h.next]∧h'.next=h.next+1+1∧h'.get h.next=some .defers∧h'.get px=some (.row 16 [Zto X 4 (Tn ms 0 11)] false)∧∀ m,m<h.next→m≠px→h'.get m=h.get m:=by
 have g0:∀ (o:O) m,m<h.next→((h.new .defers).new o).get m=h.get m:=fun o m hm=>by rw[Y3 (by rw[H.Ze]; omega),Y3 (by omega)]
 have gd:∀ o:O,((h.new .defers).new o).get h.next=some .defers:=fun o=>by rw[Y3 (by rw[H.Ze]; omega),El]
 rw[Zdt]
 refine Goes.Zws fits Hh (f:=123) (first:=[]) (caps:=[some (pb,0)]) (by simp only[Z0,Y0,e61,asC]) (exE (Ybp Hh (l:=h.next+1) (px:=px) (pb:=pb) (q:=q) (d:=h.next) (lts:=ts) (ms:=ms) (X:=X) e7 (by omega) ml ⟨by omega,nb⟩ ⟨by omega,nq⟩ (by rw[Mk (by simp only[H.Ze]<;>omega)]; rfl) (by rw[g0 _ _ lx]; exact hx) xl (by rw[g0 _ _ lb]; exact hb) (by rw[g0 _ _ lq]; exact hq)) ?_)
 rintro v h3 ⟨w0,w1,w2,w3⟩
 refine⟨_,_,_,_,_,_,_,_,w1,by simp,?_⟩
 show _∧_∧_
 refine⟨rfl,rfl,rfl,?_,?_,?_,fun m hm hne=>?_⟩
 ·rw[H.Zg,w0]; rfl
 ·rw[Zv (by omega),w3 _ (by omega) (by omega),gd]
 ·rw[Zv (by omega),w2]
 ·rw[Zv (by omega),w3 _ (by omega) hne,g0 _ _ hm]
end
end
end Go.Proofs.YtmdibcklpmeleaaGreatDoor
set_option maxRecDepth 100000
set_option maxHeartbeats 4000000
namespace Go.Proofs.YtmdibcklpmeleaaGreatDoor
open Go.Ev
section
variable (Hh:Hearts K Tryz.prog)
include Hh
theorem Ybi {ns:List Nat} {p:Nat} (nl:ns.length=256) (pc:p=0∨p=64∨p=128∨p=192) (h:Go.Ev.H):Zd K Tryz.prog 30 [.g (pgL ns),.c (.int .i64 (p:Int))] h (.tup [.g (Mf ns p).1,.c (.int .i64 (Mf ns p).2)]) h:=by
 have pl:p+64≤256:=by omega
 have pd:decide ((p:Int)=0∨(p:Int)=64∨(p:Int)=128∨(p:Int)=192)=true:=decide_eq_true (by omega)
 have p1:(p:Int)+64=((p+64:Nat):Int):=rfl
 have xl:(pgL ns).length=256:=by rw[Et,nl]
 have r1:read1 256 [pgL ns] (p+1)=some (.int .u8 ((atN ns (p+1):Nat):Int)):=Z3v ⟨by omega,by omega⟩
 have r0:read1 256 [pgL ns] p=some (.int .u8 ((atN ns p:Nat):Int)):=Z3v ⟨by omega,by omega⟩
 by_cases b0:atN ns (p+1)=0
 ·rw[b0] at r1
  cases zz:Sw ns (p+60) 4 with
  | false =>
   have dd:Mf ns p=(ino0,70):=by unfold Mf; rw[b0,zz]; rfl
   rw[dd]
   obtain⟨v,h',cc,rfl,hk⟩:∃ v h',Zd K Tryz.prog 30 [.g (pgL ns),.c (.int .i64 (p:Int))] h v h'∧v=.tup [.g ino0,.c (.int .i64 70)]∧∀ m,m<h.next→h'.get m=h.get m:=by
    refine Zd.Ya fits Hh (by kernel_rfl) (by kernel_rfl) (by kernel_rfl) (show Tryz.f30.body=some (q30 []) by kernel_rfl) rfl ?_
    show Goes K Tryz.prog 80 none _ _ _ _ _
    refine Goes.Zq Yeu ?_
    refine Goes.Zw q30_0 fits Hh Zb (by
     simp (maxSteps:=9^6) +decide (disch:=first|omega|(simp only[lens]<;>omega)|decide) only [go_sem,q30,Tryz.f30,Zc,Za,simprocAttr,pd,p1,xl,r1,zz,Zn,Yp,Ue,bound,Jg,reaches,Nat.add_zero,Nat.zero_add,Nat.mul_one,Nat.add_sub_cancel_left]
     rfl) ?_
    refine Goes.Zq q30_1 ?_
    refine Goes.Zq Zwz ?_
    refine Goes.Zw Zqk fits Hh (Zf Zb (fun _ _ _ _=>Sq Hh)) (by
     simp (maxSteps:=9^6) +decide (disch:=first|omega|(simp only[lens]<;>omega)|decide) only [go_sem,q30,Tryz.f30,Zc,Za,simprocAttr,pd,p1,xl,r1,zz,Zn,Yp,Ue,bound,Jg,reaches,Nat.add_zero,Nat.zero_add,Nat.mul_one,Nat.add_sub_cancel_left]
     rfl) ?_
    refine Goes.Yy Zpt (by simp (maxSteps:=9^6) +decide (disch:=first|omega|(simp only[lens]<;>omega)|decide) only [go_sem,Zc,Za,simprocAttr,pd,p1,xl,r1,zz,Zn,Yp,Ue,bound,Jg,reaches,Nat.add_zero,Nat.zero_add,Nat.mul_one,Nat.add_sub_cancel_left]<;>rfl) (by first|rfl|assumption|exact decide_eq_false (by omega)|(simp; omega)) ?_
    refine Goes.Jc Zj5 ?_
    refine Goes.Zq Zy6 ?_
    refine Goes.Zw Zq6 fits Hh Zb (by
     simp (maxSteps:=9^6) +decide (disch:=first|omega|(simp only[lens]<;>omega)|decide) only [go_sem,q30,Tryz.f30,Zc,Za,simprocAttr,pd,p1,xl,r1,zz,Zn,Yp,Ue,bound,Jg,reaches,Nat.add_zero,Nat.zero_add,Nat.mul_one,Nat.add_sub_cancel_left]
     rfl) ?_
    refine Goes.Zq Zrh ?_
    refine Goes.Zq Zkc ?_
    refine Goes.Zw Zgv fits Hh (Zf Zb (fun _ _ _ _=>Zpd Hh)) (by
     simp (maxSteps:=9^6) +decide (disch:=first|omega|(simp only[lens]<;>omega)|decide) only [go_sem,q30,Tryz.f30,Zc,Za,simprocAttr,pd,p1,xl,r1,zz,Zn,Yp,Ue,bound,Jg,reaches,Nat.add_zero,Nat.zero_add,Nat.mul_one,Nat.add_sub_cancel_left]
     rfl) ?_
    refine Goes.Ob Zfy (by simp (maxSteps:=9^6) +decide (disch:=first|omega|(simp only[lens]<;>omega)|decide) only [go_sem,Zc,Za,simprocAttr,pd,p1,xl,r1,zz,Zn,Yp,Ue,bound,Jg,reaches,Nat.add_zero,Nat.zero_add,Nat.mul_one,Nat.add_sub_cancel_left]<;>rfl) (by first|rfl|assumption|exact decide_eq_true (by omega)|(simp; omega)) ?_
    refine Goes.Zq Zjb ?_
    refine Goes.Zw Zg3 fits Hh Zb (by
     simp (maxSteps:=9^6) +decide (disch:=first|omega|(simp only[lens]<;>omega)|decide) only [go_sem,q30,Tryz.f30,Zc,Za,simprocAttr,pd,p1,xl,r1,zz,Zn,Yp,Ue,bound,Jg,reaches,Nat.add_zero,Nat.zero_add,Nat.mul_one,Nat.add_sub_cancel_left]
     rfl) ?_
    refine Goes.Gl Zho ?_
    refine⟨_,_,(by simp (maxSteps:=9^6) +decide (disch:=first|omega|(simp only[lens]<;>omega)|decide) only [go_sem,Zc,Za,simprocAttr,read1]<;>rfl),rfl,fun m hm=>by (first|(simp (discharger:=omega) only [H.get_put,H.Zh,H.Zk,H.Ze,H.Zg,H.Zj,if_neg]; done)|(simp only[H.get_put,H.Zh,H.Zk,H.Ze,H.Zg,H.Zj]; (repeat' split)<;>first|rfl|(exfalso; omega)|omega))⟩
   exact cc.quiet rfl hk
  | true =>
   have dd:Mf ns p=bif Zk4 ns p then (Zq2 ns p,0) else (ino0,70):=by
    unfold Mf
    rw[b0,zz]
    rfl
   rw[dd]
   have hi:=fun h=>Zi6 Hh (atN ns p:Int) (Gj ns (p+2):Int) (Yj ns (p+4):Int) (Yj ns (p+8):Int) (Yj ns (p+12):Int) (Yj ns (p+16):Int) (Yj ns (p+20):Int) (Yj ns (p+24):Int) (Yj ns (p+28):Int) (Yj ns (p+32):Int) (Yj ns (p+36):Int) (Yj ns (p+40):Int) (Yj ns (p+44):Int) (Yj ns (p+48):Int) (Yj ns (p+52):Int) (Yj ns (p+56):Int) h
   change ∀ h,Zd K Tryz.prog 32 [.g (Zq2 ns p)] h (.w (.c (.bool (Zk4 ns p)))) h at hi
   have gw:Tn ((ns.drop (p+12)).take 44) 0 11=[Yj ns (p+12),Yj ns (p+16),Yj ns (p+20),Yj ns (p+24),Yj ns (p+28),Yj ns (p+32),Yj ns (p+36),Yj ns (p+40),Yj ns (p+44),Yj ns (p+48),Yj ns (p+52)]:=by
    rw[Zsb (by omega)]
    simp only[Tn,Nat.add_assoc,Nat.reduceAdd,Nat.add_zero]
   have g2:=Z0a ns (p+2)
   have g4:=Zy9 ns (p+4)
   have g8:=Zy9 ns (p+8)
   have ml:((ns.drop (p+12)).take 44).length=44:=by rw[List.length_take,List.length_drop]; omega
   obtain⟨l2,e2⟩:∃ x,Gj ns (p+2)=x:=⟨_,rfl⟩
   obtain⟨l4,e4⟩:∃ x,Yj ns (p+4)=x:=⟨_,rfl⟩
   obtain⟨l8,e8⟩:∃ x,Yj ns (p+8)=x:=⟨_,rfl⟩
   obtain⟨kk,ek⟩:∃ x,atN ns p=x:=⟨_,rfl⟩
   obtain⟨nx,en⟩:∃ x,Yj ns (p+56)=x:=⟨_,rfl⟩
   have hC:((Zto [.int .u8 kk,.int .i64 l2,.int .u32 l4,.int .i64 l8,.int .u32 0,.int .u32 0,.int .u32 0,.int .u32 0,.int .u32 0,.int .u32 0,.int .u32 0,.int .u32 0,.int .u32 0,.int .u32 0,.int .u32 0,.int .u32 0] 4 (Tn ((ns.drop (p+12)).take 44) 0 11)).set 15 (.int .u32 nx))=Zq2 ns p:=by
    rw[gw]
    unfold Zq2
    rw[e2,e4,e8,ek,en]
    rfl
   have Yl:=Zsg (Tn ((ns.drop (p+12)).take 44) 0 11) [.int .u8 kk,.int .i64 l2,.int .u32 l4,.int .i64 l8,.int .u32 0,.int .u32 0,.int .u32 0,.int .u32 0,.int .u32 0,.int .u32 0,.int .u32 0,.int .u32 0,.int .u32 0,.int .u32 0,.int .u32 0,.int .u32 0] 4
   have dl:(Zq2 ns p).length=16:=rfl
   rw[e2] at g2
   rw[e4] at g4
   rw[e8] at g8
   rw[ek] at r0
   obtain⟨D,eD⟩:∃ D,Zq2 ns p=D:=⟨_,rfl⟩
   have df:D.all C.flat=true:=by rw[←eD]; rfl
   obtain⟨v,h',cc,ev,hk⟩:∃ v h',Zd K Tryz.prog 30 [.g (pgL ns),.c (.int .i64 (p:Int))] h v h'∧v=.tup [.g (bif Zk4 ns p then (D,(0:Int)) else (ino0,70)).1,.c (.int .i64 (bif Zk4 ns p then (D,(0:Int)) else (ino0,70)).2)]∧∀ m,m<h.next→h'.get m=h.get m:=by
    rw[eD] at hi hC dl
    refine Zd.Ya fits Hh (by kernel_rfl) (by kernel_rfl) (by kernel_rfl) (show Tryz.f30.body=some (q30 []) by kernel_rfl) rfl ?_
    show Goes K Tryz.prog 80 none _ _ _ _ _
    refine Goes.Zq Yeu ?_
    refine Goes.Zw q30_0 fits Hh Zb (by
     simp (maxSteps:=9^6) +decide (disch:=first|omega|(simp only[lens]<;>omega)|decide) only [go_sem,q30,Tryz.f30,Zc,Za,simprocAttr,pd,p1,xl,r1,r0,zz,e2,e4,e8,Zn,Zx,Yp,Ue,bound,Jg,reaches,Nat.add_zero,Nat.zero_add,Nat.mul_one,Nat.add_sub_cancel_left]
     rfl) ?_
    refine Goes.Zq q30_1 ?_
    refine Goes.Zq Zwz ?_
    refine Goes.Zw Zqk fits Hh (Zf Zb (fun _ _ _ _=>Sq Hh)) (by
     simp (maxSteps:=9^6) +decide (disch:=first|omega|(simp only[lens]<;>omega)|decide) only [go_sem,q30,Tryz.f30,Zc,Za,simprocAttr,pd,p1,xl,r1,r0,zz,e2,e4,e8,Zn,Zx,Yp,Ue,bound,Jg,reaches,Nat.add_zero,Nat.zero_add,Nat.mul_one,Nat.add_sub_cancel_left]
     rfl) ?_
    refine Goes.Yy Zpt (by simp (maxSteps:=9^6) +decide (disch:=first|omega|(simp only[lens]<;>omega)|decide) only [go_sem,Zc,Za,simprocAttr,pd,p1,xl,r1,r0,zz,e2,e4,e8,Zn,Zx,Yp,Ue,bound,Jg,reaches,Nat.add_zero,Nat.zero_add,Nat.mul_one,Nat.add_sub_cancel_left]<;>rfl) (by first|rfl|assumption|exact decide_eq_false (by omega)|(simp; omega)) ?_
    refine Goes.Jc Zj5 ?_
    refine Goes.Zq Zy6 ?_
    refine Goes.Zw Zq6 fits Hh Zb (by
     simp (maxSteps:=9^6) +decide (disch:=first|omega|(simp only[lens]<;>omega)|decide) only [go_sem,q30,Tryz.f30,Zc,Za,simprocAttr,pd,p1,xl,r1,r0,zz,e2,e4,e8,Zn,Zx,Yp,Ue,bound,Jg,reaches,Nat.add_zero,Nat.zero_add,Nat.mul_one,Nat.add_sub_cancel_left]
     rfl) ?_
    refine Goes.Zq Zrh ?_
    refine Goes.Zq Zkc ?_
    refine Goes.Zw Zgv fits Hh (Zf Zb (fun _ _ _ _=>Zpd Hh)) (by
     simp (maxSteps:=9^6) +decide (disch:=first|omega|(simp only[lens]<;>omega)|decide) only [go_sem,q30,Tryz.f30,Zc,Za,simprocAttr,pd,p1,xl,r1,r0,zz,e2,e4,e8,Zn,Zx,Yp,Ue,bound,Jg,reaches,Nat.add_zero,Nat.zero_add,Nat.mul_one,Nat.add_sub_cancel_left]
     rfl) ?_
    refine Goes.Yy Zfy (by simp (maxSteps:=9^6) +decide (disch:=first|omega|(simp only[lens]<;>omega)|decide) only [go_sem,Zc,Za,simprocAttr,pd,p1,xl,r1,r0,zz,e2,e4,e8,Zn,Zx,Yp,Ue,bound,Jg,reaches,Nat.add_zero,Nat.zero_add,Nat.mul_one,Nat.add_sub_cancel_left]<;>rfl) (by first|rfl|assumption|exact decide_eq_false (by omega)|(simp; omega)) ?_
    refine Goes.Jc Zyc ?_
    refine Goes.Zq Z9a ?_
    refine Goes.Zw Z0q fits Hh Zb (by
     simp (maxSteps:=9^6) +decide (disch:=first|omega|(simp only[lens]<;>omega)|decide) only [go_sem,q30,Tryz.f30,Zc,Za,simprocAttr,pd,p1,xl,r1,r0,zz,e2,e4,e8,Zn,Zx,Yp,Ue,bound,Jg,reaches,Nat.add_zero,Nat.zero_add,Nat.mul_one,Nat.add_sub_cancel_left]
     rfl) ?_
    refine Goes.Zq Z3u ?_
    refine Goes.Zw Zv5 fits Hh (Zf Zb (fun _ _ _ _=>Z11 Hh)) (by
     simp (maxSteps:=9^6) +decide (disch:=first|omega|(simp only[lens]<;>omega)|decide) only [go_sem,q30,Tryz.f30,Zc,Za,simprocAttr,pd,p1,xl,r1,r0,zz,e2,e4,e8,Zn,Zx,Yp,Ue,bound,Jg,reaches,Nat.add_zero,Nat.zero_add,Nat.mul_one,Nat.add_sub_cancel_left]
     rfl) ?_
    refine Goes.Zq Zvd ?_
    refine Goes.Zw Zuj fits Hh Zb (by
     simp (maxSteps:=9^6) +decide (disch:=first|omega|(simp only[lens]<;>omega)|decide) only [go_sem,q30,Tryz.f30,Zc,Za,simprocAttr,pd,p1,xl,r1,r0,zz,e2,e4,e8,Zn,Zx,Yp,Ue,bound,Jg,reaches,Nat.add_zero,Nat.zero_add,Nat.mul_one,Nat.add_sub_cancel_left]
     rfl) ?_
    refine Goes.Zq Zs8 ?_
    refine Goes.Zw Zqo fits Hh (Zf Zb (fun _ _ _ _=>Za1 Hh)) (by
     simp (maxSteps:=9^6) +decide (disch:=first|omega|(simp only[lens]<;>omega)|decide) only [go_sem,q30,Tryz.f30,Zc,Za,simprocAttr,pd,p1,xl,r1,r0,zz,e2,e4,e8,Zn,Zx,Yp,Ue,bound,Jg,reaches,Nat.add_zero,Nat.zero_add,Nat.mul_one,Nat.add_sub_cancel_left]
     rfl) ?_
    refine Goes.Zq Zp0 ?_
    refine Goes.Zw Zm9 fits Hh (Zf Zb (fun _ _ _ _=>Za1 Hh)) (by
     simp (maxSteps:=9^6) +decide (disch:=first|omega|(simp only[lens]<;>omega)|decide) only [go_sem,q30,Tryz.f30,Zc,Za,simprocAttr,pd,p1,xl,r1,r0,zz,e2,e4,e8,Zn,Zx,Yp,Ue,bound,Jg,reaches,Nat.add_zero,Nat.zero_add,Nat.mul_one,Nat.add_sub_cancel_left]
     rfl) ?_
    refine Goes.Zq Zmp ?_
    refine Goes.Zw Zke fits Hh Zb (by
     simp (maxSteps:=9^6) +decide (disch:=first|omega|(simp only[lens]<;>omega)|decide) only [go_sem,q30,Tryz.f30,Zc,Za,simprocAttr,pd,p1,xl,r1,r0,zz,e2,e4,e8,Zn,Zx,Yp,Ue,bound,Jg,reaches,Nat.add_zero,Nat.zero_add,Nat.mul_one,Nat.add_sub_cancel_left]
     rfl) ?_
    refine Goes.Zq Zkb ?_
    refine Goes.Zq Zh6 ?_
    refine Goes.abs fun hA eA=>?_
    have nA:hA.next=h.next+1+1+1:=by rw[eA]; simp only[H.Zg,H.Ze]
    have kA:∀ m,m<h.next→hA.get m=h.get m:=fun m hm=>by rw[eA]; (first|(simp (discharger:=omega) only [H.get_put,H.Zh,H.Zk,H.Ze,H.Zg,H.Zj,if_neg]; done)|(simp only[H.get_put,H.Zh,H.Zk,H.Ze,H.Zg,H.Zj]; (repeat' split)<;>first|rfl|(exfalso; omega)|omega))
    have bA:hA.get h.next=some (.row 256 [pgL ns] false):=by rw[eA]; simp (maxSteps:=9^6) +decide (disch:=first|omega|(simp only[lens]<;>omega)|decide) only [go_sem,Zc,Za,simprocAttr,xl]<;>rfl
    have cA:hA.get (h.next+1)=some (.row 16 [ino0] false):=by rw[eA]; simp (maxSteps:=9^6) +decide (disch:=first|omega|(simp only[lens]<;>omega)|decide) only [go_sem,Zc,Za,simprocAttr]<;>rfl
    have xA:hA.get (h.next+1+1)=some (.row 16 [[.int .u8 kk,.int .i64 l2,.int .u32 l4,.int .i64 l8,.int .u32 0,.int .u32 0,.int .u32 0,.int .u32 0,.int .u32 0,.int .u32 0,.int .u32 0,.int .u32 0,.int .u32 0,.int .u32 0,.int .u32 0,.int .u32 0]] false):=by rw[eA]; simp (maxSteps:=9^6) +decide (disch:=first|omega|(simp only[lens]<;>omega)|decide) only [go_sem,Zc,Za,simprocAttr,Zx]<;>rfl
    clear eA
    have c12:=Yen Hh nl bA (off:=p+12) (by omega)
    refine Goes.Zw Zgd fits Hh (Z8 Zb c12) (by
     simp (maxSteps:=9^6) +decide (disch:=first|omega|(simp only[lens]<;>omega)|decide) only [go_sem,q30,Tryz.f30,Zc,Za,simprocAttr,Yo,pd,p1,xl,r1,r0,zz,e2,e4,e8,nA,bA,Zn,Zx,Yp,Ue,bound,Jg,reaches,Nat.add_zero,Nat.zero_add,Nat.mul_one,Nat.add_sub_cancel_left]
     rfl) ?_
    refine Goes.Ul Zf2 (Goes.block ?_)
    refine Goes.abs fun hB eB=>?_
    have nB:hB.next=h.next+1+1+1+1+1:=by rw[eB]; simp only[H.Zg,H.Ze,nA]
    have kB:∀ m,m<hA.next→hB.get m=hA.get m:=fun m hm=>by rw[eB]; (first|(simp (discharger:=omega) only [H.get_put,H.Zh,H.Zk,H.Ze,H.Zg,H.Zj,if_neg]; done)|(simp only[H.get_put,H.Zh,H.Zk,H.Ze,H.Zg,H.Zj]; (repeat' split)<;>first|rfl|(exfalso; omega)|omega))
    have qB:hB.get (h.next+1+1+1)=some (.row 1 (tlL ((ns.drop (p+12)).take 44)) false):=by rw[eB]; simp (maxSteps:=9^6) +decide (disch:=first|omega|(simp only[lens]<;>omega)|decide) only [go_sem,Zc,Za,simprocAttr,nA]<;>rfl
    have pB:hB.get (h.next+1+1+1+1)=some (.row 1 [[.slice (h.next+1+1+1) 0 44 1]] false):=by rw[eB]; simp (maxSteps:=9^6) +decide (disch:=first|omega|(simp only[lens]<;>omega)|decide) only [go_sem,Zc,Za,simprocAttr,nA]<;>rfl
    clear eB
    refine (getLoop Hh (h:=hB) (px:=h.next+1+1) (pb:=h.next+1+1+1+1) (q:=h.next+1+1+1) ?_ ?_ ml ((kB _ (by omega)).trans xA) rfl pB qB (by omega) (by omega) (by omega) (by omega) (by omega)).mono ?_
    ·simp (decide:=true) only [Zi,reduceIte,nA]
    ·simp (decide:=true) only [Zi,reduceIte,nA]
    rintro x ds' ts' hD ⟨rfl,rfl,rfl,nD,gd,xD,kD⟩
    rw[nB] at gd nD
    have bD:hD.get h.next=some (.row 256 [pgL ns] false):=(kD _ (by omega) (by omega)).trans ((kB _ (by omega)).trans bA)
    have cD:hD.get (h.next+1)=some (.row 16 [ino0] false):=(kD _ (by omega) (by omega)).trans ((kB _ (by omega)).trans cA)
    have kE:∀ m,m<h.next→hD.get m=h.get m:=fun m hm=>(kD _ (by omega) (by omega)).trans ((kB _ (by omega)).trans (kA m hm))
    obtain⟨Y,eY⟩:∃ Y,Zto [.int .u8 kk,.int .i64 l2,.int .u32 l4,.int .i64 l8,.int .u32 0,.int .u32 0,.int .u32 0,.int .u32 0,.int .u32 0,.int .u32 0,.int .u32 0,.int .u32 0,.int .u32 0,.int .u32 0,.int .u32 0,.int .u32 0] 4 (Tn ((ns.drop (p+12)).take 44) 0 11)=Y:=⟨_,rfl⟩
    rw[eY] at xD hC Yl
    have w15:=wrC Yl (j:=15) (by omega) (.int .u32 nx)
    rw[hC] at w15
    cases mM:Zk4 ns p with
    | false =>
     rw[mM] at hi
     refine Goes.Zq Wz ?_
     refine Goes.Zw Vw fits Hh (Zf Zb (fun _ _ _ _=>Za1 Hh)) (by
      simp (maxSteps:=9^6) +decide (disch:=first|omega|(simp only[lens]<;>omega)|decide) only [go_sem,q30,Tryz.f30,Za,simprocAttr,nB,nD,gd,xD,bD,cD,en,w15,dl]
      rfl) ?_
     refine Goes.Zq Ty ?_
     refine Goes.Zq Sg ?_
     refine Goes.Zw Rb fits Hh (Bo Zb hi) (by
      simp (maxSteps:=9^6) +decide (disch:=first|omega|(simp only[lens]<;>omega)|decide) only [go_sem,q30,Tryz.f30,Za,simprocAttr,nB,nD,gd,xD,bD,cD,en,w15,dl]
      rfl) ?_
     refine Goes.Ob Ro (by simp (maxSteps:=9^6) +decide (disch:=first|omega|(simp only[lens]<;>omega)|decide) only [go_sem,Za,simprocAttr,nB,nD,gd,xD,bD,cD,en,w15,dl]<;>rfl) (by first|rfl|assumption|exact decide_eq_true (by omega)|(simp; omega)) ?_
     refine Goes.Zq Zbq ?_
     refine Goes.Zw Zah fits Hh Zb (by
      simp (maxSteps:=9^6) +decide (disch:=first|omega|(simp only[lens]<;>omega)|decide) only [go_sem,q30,Tryz.f30,Za,simprocAttr,nB,nD,gd,xD,bD,cD,en,w15,dl]
      rfl) ?_
     refine Goes.Gl Zad ?_
     refine⟨_,_,(by simp (maxSteps:=9^6) +decide (disch:=first|omega|(simp only[lens]<;>omega)|decide) only [go_sem,Za,simprocAttr,gd,nB,nD]<;>rfl),rfl,fun m hm=>?_⟩
     refine Eq.trans ?_ (kE m hm); (first|(simp (discharger:=omega) only [H.get_put,H.Zh,H.Zk,H.Ze,H.Zg,H.Zj,if_neg]; done)|(simp only[H.get_put,H.Zh,H.Zk,H.Ze,H.Zg,H.Zj]; (repeat' split)<;>first|rfl|(exfalso; omega)|omega))
    | true =>
     rw[mM] at hi
     have wI:Zx 16 [ino0] 0 D=some [D]:=Su (by have:=Zuw; omega)
     refine Goes.Zq Wz ?_
     refine Goes.Zw Vw fits Hh (Zf Zb (fun _ _ _ _=>Za1 Hh)) (by
      simp (maxSteps:=9^6) +decide (disch:=first|omega|(simp only[lens]<;>omega)|decide) only [go_sem,q30,Tryz.f30,Za,simprocAttr,wI,nB,nD,gd,xD,bD,cD,en,w15,dl]
      rfl) ?_
     refine Goes.Zq Ty ?_
     refine Goes.Zq Sg ?_
     refine Goes.Zw Rb fits Hh (Bo Zb hi) (by
      simp (maxSteps:=9^6) +decide (disch:=first|omega|(simp only[lens]<;>omega)|decide) only [go_sem,q30,Tryz.f30,Za,simprocAttr,wI,nB,nD,gd,xD,bD,cD,en,w15,dl]
      rfl) ?_
     refine Goes.Yy Ro (by simp (maxSteps:=9^6) +decide (disch:=first|omega|(simp only[lens]<;>omega)|decide) only [go_sem,Za,simprocAttr,wI,nB,nD,gd,xD,bD,cD,en,w15,dl]<;>rfl) (by first|rfl|assumption|exact decide_eq_false (by omega)|(simp; omega)) ?_
     refine Goes.Jc Zbg ?_
     refine Goes.Zq Zdf ?_
     refine Goes.Zw Zc0 fits Hh Zb (by
      simp (maxSteps:=9^6) +decide (disch:=first|omega|(simp only[lens]<;>omega)|decide) only [go_sem,q30,Tryz.f30,Za,simprocAttr,wI,nB,nD,gd,xD,bD,cD,en,w15,dl]
      rfl) ?_
     refine Goes.Gl Zcs ?_
     refine⟨_,_,(by simp (maxSteps:=9^6) +decide (disch:=first|omega|(simp only[lens]<;>omega)|decide) only [go_sem,Za,simprocAttr,gd,nB,nD,dl]<;>rfl),rfl,fun m hm=>?_⟩
     refine Eq.trans ?_ (kE m hm); (first|(simp (discharger:=omega) only [H.get_put,H.Zh,H.Zk,H.Ze,H.Zg,H.Zj,if_neg]; done)|(simp only[H.get_put,H.Zh,H.Zk,H.Ze,H.Zg,H.Zj]; (repeat' split)<;>first|rfl|(exfalso; omega)|omega))
   rw[eD,←ev]
   refine cc.quiet ?_ hk
   rw[ev]
   cases Zk4 ns p with
   | false=>rfl
   | true=>exact show (D.all C.flat&&(true&&true))=true by rw[df]; rfl
 ·have bn:(((atN ns (p+1):Nat):Int) != 0)=true:=by rw[bne,beq_eq_false_iff_ne.2 (by omega)]; rfl
  have bb:Nat.beq (atN ns (p+1)) 0=false:=by
   cases q:Nat.beq (atN ns (p+1)) 0 with
   | false=>rfl
   | true=>exact absurd (Nat.eq_of_beq_eq_true q) b0
  have dd:Mf ns p=(ino0,70):=by unfold Mf; rw[bb]; rfl
  rw[dd]
  obtain⟨v,h',cc,rfl,hk⟩:∃ v h',Zd K Tryz.prog 30 [.g (pgL ns),.c (.int .i64 (p:Int))] h v h'∧v=.tup [.g ino0,.c (.int .i64 70)]∧∀ m,m<h.next→h'.get m=h.get m:=by
   refine Zd.Ya fits Hh (by kernel_rfl) (by kernel_rfl) (by kernel_rfl) (show Tryz.f30.body=some (q30 []) by kernel_rfl) rfl ?_
   show Goes K Tryz.prog 80 none _ _ _ _ _
   refine Goes.Zq Yeu ?_
   refine Goes.Zw q30_0 fits Hh Zb (by
    simp (maxSteps:=9^6) +decide (disch:=first|omega|(simp only[lens]<;>omega)|decide) only [go_sem,q30,Tryz.f30,Zc,Za,simprocAttr,pd,p1,xl,r1,bn,Zn,Yp,Ue,bound,Jg,reaches,Nat.add_zero,Nat.zero_add,Nat.mul_one,Nat.add_sub_cancel_left]
    rfl) ?_
   refine Goes.Zq q30_1 ?_
   refine Goes.Zq Zwz ?_
   refine Goes.Zw Zqk fits Hh (Zf Zb (fun _ _ _ _=>Sq Hh)) (by
    simp (maxSteps:=9^6) +decide (disch:=first|omega|(simp only[lens]<;>omega)|decide) only [go_sem,q30,Tryz.f30,Zc,Za,simprocAttr,pd,p1,xl,r1,bn,Zn,Yp,Ue,bound,Jg,reaches,Nat.add_zero,Nat.zero_add,Nat.mul_one,Nat.add_sub_cancel_left]
    rfl) ?_
   refine Goes.Yy Zpt (by simp (maxSteps:=9^6) +decide (disch:=first|omega|(simp only[lens]<;>omega)|decide) only [go_sem,Zc,Za,simprocAttr,pd,p1,xl,r1,bn,Zn,Yp,Ue,bound,Jg,reaches,Nat.add_zero,Nat.zero_add,Nat.mul_one,Nat.add_sub_cancel_left]<;>rfl) (by first|rfl|assumption|exact decide_eq_false (by omega)|(simp; omega)) ?_
   refine Goes.Jc Zj5 ?_
   refine Goes.Zq Zy6 ?_
   refine Goes.Zw Zq6 fits Hh Zb (by
    simp (maxSteps:=9^6) +decide (disch:=first|omega|(simp only[lens]<;>omega)|decide) only [go_sem,q30,Tryz.f30,Zc,Za,simprocAttr,pd,p1,xl,r1,bn,Zn,Yp,Ue,bound,Jg,reaches,Nat.add_zero,Nat.zero_add,Nat.mul_one,Nat.add_sub_cancel_left]
    rfl) ?_
   refine Goes.Zq Zrh ?_
   refine Goes.Zq Zkc ?_
   refine Goes.Zw Zgv fits Hh (Zf Zb (fun _ _ _ _=>Zpd Hh)) (by
    simp (maxSteps:=9^6) +decide (disch:=first|omega|(simp only[lens]<;>omega)|decide) only [go_sem,q30,Tryz.f30,Zc,Za,simprocAttr,pd,p1,xl,r1,bn,Zn,Yp,Ue,bound,Jg,reaches,Nat.add_zero,Nat.zero_add,Nat.mul_one,Nat.add_sub_cancel_left]
    rfl) ?_
   refine Goes.Ob Zfy (by simp (maxSteps:=9^6) +decide (disch:=first|omega|(simp only[lens]<;>omega)|decide) only [go_sem,Zc,Za,simprocAttr,pd,p1,xl,r1,bn,Zn,Yp,Ue,bound,Jg,reaches,Nat.add_zero,Nat.zero_add,Nat.mul_one,Nat.add_sub_cancel_left]<;>rfl) (by first|rfl|assumption|exact decide_eq_true (by omega)|(simp; omega)) ?_
   refine Goes.Zq Zjb ?_
   refine Goes.Zw Zg3 fits Hh Zb (by
    simp (maxSteps:=9^6) +decide (disch:=first|omega|(simp only[lens]<;>omega)|decide) only [go_sem,q30,Tryz.f30,Zc,Za,simprocAttr,pd,p1,xl,r1,bn,Zn,Yp,Ue,bound,Jg,reaches,Nat.add_zero,Nat.zero_add,Nat.mul_one,Nat.add_sub_cancel_left]
    rfl) ?_
   refine Goes.Gl Zho ?_
   refine⟨_,_,(by simp (maxSteps:=9^6) +decide (disch:=first|omega|(simp only[lens]<;>omega)|decide) only [go_sem,Zc,Za,simprocAttr,read1]<;>rfl),rfl,fun m hm=>by (first|(simp (discharger:=omega) only [H.get_put,H.Zh,H.Zk,H.Ze,H.Zg,H.Zj,if_neg]; done)|(simp only[H.get_put,H.Zh,H.Zk,H.Ze,H.Zg,H.Zj]; (repeat' split)<;>first|rfl|(exfalso; omega)|omega))⟩
  exact cc.quiet rfl hk
end
end Go.Proofs.YtmdibcklpmeleaaGreatDoor
set_option maxRecDepth 100000
set_option maxHeartbeats 4000000
namespace Go.Proofs.YtmdibcklpmeleaaGreatDoor
open Go.Ev
def Dp (b c e j:Nat):Nat:=2+e+j / c * b+2+j % c / 4
def Nh (c j:Nat):Nat:=j % c % 4 * 64
def gI (a b c e:Nat) (U:Nat→List Nat) (z:Int):List C × Int:=if 1≤z∧z≤((a * c:Nat):Int) then Mf (U (Dp b c e (z.toNat - 1))) (Nh c (z.toNat - 1)) else (ino0,2)
def Yc8:List Nat:=[2,0,1,0,1,0,0,0]++List.replicate 248 0
def zN:List Nat:=List.replicate 256 0
theorem Ycj:Vy=pgL Yc8:=by kernel_rfl
theorem Ygm:zB=pgL zN:=by kernel_rfl
def U0 (e z:Nat):List Nat:=if z=2+e+2 then Yc8 else zN
def U1 (U:Nat→List Nat) (z1:Nat) (x:List Nat) (z:Nat):List Nat:=if z=z1 then x else U z
theorem Qx (e z:Nat):(U0 e z).length=256:=by unfold U0; split<;>rfl
theorem Image.at {a b c d:Nat} {L:List (List C)} (I:Image a b c d L) (F:Fine a b c d) {j:Nat} (hj:j<a * c):L[Dp b c d j]? = some (pgL (U0 d (Dp b c d j))):=by
 obtain⟨g1,g2,g3,g4,g5,g6,g7,g8,g9,g10,g11⟩:=F
 have ka:j / c<a:=Nat.div_lt_of_lt_mul (by rw[Nat.mul_comm]; omega)
 have tc:j % c<c:=Nat.mod_lt _ (by omega)
 have q:=I.ti (j / c) (j % c / 4) ka (by omega)
 show L[2+d+j / c * b+2+j % c / 4]? = _
 rw[q]
 unfold U0 Dp
 by_cases h:j / c=0∧j % c / 4=0
 ·rw[if_pos h,if_pos (by rw[h.1,h.2]; omega),Ycj]
 ·have:2+d+j / c * b+2+j % c / 4≠2+d+2:=fun q=>h (by
   rcases Nat.eq_zero_or_pos (j / c) with h1|h1
   ·rw[h1] at q; exact⟨h1,by omega⟩
   ·have:=Nat.mul_le_mul_right b h1; omega)
  rw[if_neg h,if_neg this,Ygm]
theorem N9 (c j:Nat):Nh c j=0∨Nh c j=64∨Nh c j=128∨Nh c j=192:=by unfold Nh; omega
theorem dec0 (e z c j:Nat):(Mf (U0 e z) (Nh c j)).2=0:=by
 unfold U0
 rcases N9 c j with h|h|h|h<;>rw[h]<;>split<;>kernel_rfl
theorem Z4o {a b c e i j:Nat} (F:Fine a b c e) (ne:i≠j) (h:Dp b c e i=Dp b c e j):Nh c i+64≤Nh c j∨Nh c j+64≤Nh c i:=by
 obtain⟨g1,g2,g3,g4,g5,g6,g7,g8,g9,g10,g11⟩:=F
 have t1:i % c<c:=Nat.mod_lt _ (by omega)
 have t2:j % c<c:=Nat.mod_lt _ (by omega)
 have d1:=Nat.div_add_mod i c
 have d2:=Nat.div_add_mod j c
 unfold Dp at h
 unfold Nh
 have k:i / c=j / c:=by
  rcases Nat.lt_trichotomy (i / c) (j / c) with q|q|q
  ·have:=Nat.mul_le_mul_right b (Nat.succ_le_of_lt q)
   rw[Nat.succ_mul] at this
   omega
  ·exact q
  ·have:=Nat.mul_le_mul_right b (Nat.succ_le_of_lt q)
   rw[Nat.succ_mul] at this
   omega
 rw[k] at h d1
 have:i % c≠j % c:=fun q=>ne (d1.symm.trans (by rw[q]; exact d2))
 omega
theorem Yhx (a b c e:Nat) (z:Int) (h:1≤z∧z≤((a * c:Nat):Int)):(gI a b c e (U0 e) z).2=0:=by
 unfold gI
 rw[if_pos h]
 exact dec0 _ _ _ _
theorem Z5e {a b c e k l g s nx:Nat} {ps:List Nat} (F:Fine a b c e) {z z2:Int} (h:1≤z∧z≤((a * c:Nat):Int)) (ne:z≠z2) (pl:ps.length=11):gI a b c e (U1 (U0 e) (Dp b c e (z.toNat - 1)) (F5 (U0 e (Dp b c e (z.toNat - 1))) (Nh c (z.toNat - 1)) k l g s ps nx)) z2=gI a b c e (U0 e) z2:=by
 unfold gI
 by_cases h2:1≤z2∧z2≤((a * c:Nat):Int)
 ·rw[if_pos h2,if_pos h2]
  unfold U1
  by_cases q:Dp b c e (z2.toNat - 1)=Dp b c e (z.toNat - 1)
  ·have p:=Z4o F (show z2.toNat - 1≠z.toNat - 1 by omega) q
   have c1:=N9 c (z.toNat - 1)
   have c2:=N9 c (z2.toNat - 1)
   rw[if_pos q,q,Zs6 (by rw[Qx]; omega) (by rw[Qx]; omega) pl p]
  ·rw[if_neg q]
 ·rw[if_neg h2,if_neg h2]
end Go.Proofs.YtmdibcklpmeleaaGreatDoor
set_option maxRecDepth 100000
set_option maxHeartbeats 4000000
namespace Go.Proofs.YtmdibcklpmeleaaGreatDoor
open Go.Ev
noncomputable def q8 (p:List Nat):Code:=piece p (Z5 Tryz.f8)
theorem q8_:q8 []=.seq (q8 [0]) (q8 [1]):=by kernel_rfl
theorem q8_0:q8 [0]=.region 0 (Zt (q8 [0])) false:=by kernel_rfl
theorem q8_1:q8 [1]=.seq (q8 [1,0]) (q8 [1,1]):=by kernel_rfl
theorem Ydi:q8 [1,0]=.seq (q8 [1,0,0]) (q8 [1,0,1]):=by kernel_rfl
theorem Z4f:q8 [1,0,0]=.region 1 (Zt (q8 [1,0,0])) false:=by kernel_rfl
theorem Z7r:q8 [1,0,1]=.seq (q8 [1,0,1,0]) (q8 [1,0,1,1]):=by kernel_rfl
theorem Zz5:q8 [1,0,1,0]=.region 2 (Zt (q8 [1,0,1,0])) false:=by kernel_rfl
theorem Zz7:q8 [1,0,1,1]=.cond (.tmp 15) (q8 [1,0,1,1,3]) (q8 [1,0,1,1,4]):=by kernel_rfl
theorem Zs0:q8 [1,0,1,1,4]=.skip:=by kernel_rfl
theorem Ydc:q8 [1,1]=.seq (q8 [1,1,0]) (q8 [1,1,1]):=by kernel_rfl
theorem Z4d:q8 [1,1,0]=.region 4 (Zt (q8 [1,1,0])) false:=by kernel_rfl
theorem Z43:q8 [1,1,1]=.seq (q8 [1,1,1,0]) (q8 [1,1,1,1]):=by kernel_rfl
theorem Z0b:q8 [1,1,1,0]=.seq (q8 [1,1,1,0,0]) (q8 [1,1,1,0,1]):=by kernel_rfl
theorem Zr7:q8 [1,1,1,0,0]=.region 5 (Zt (q8 [1,1,1,0,0])) false:=by kernel_rfl
theorem Zsl:q8 [1,1,1,0,1]=.cond (.tmp 27) (q8 [1,1,1,0,1,3]) (q8 [1,1,1,0,1,4]):=by kernel_rfl
theorem Z1s:q8 [1,1,1,0,1,3]=.seq (q8 [1,1,1,0,1,3,0]) (q8 [1,1,1,0,1,3,1]):=by kernel_rfl
theorem Zwx:q8 [1,1,1,0,1,3,0]=.region 6 (Zt (q8 [1,1,1,0,1,3,0])) false:=by kernel_rfl
theorem Zw5:q8 [1,1,1,0,1,3,1]=.ret:=by kernel_rfl
theorem Z2z:q8 [1,1,1,0,1,4]=.skip:=by kernel_rfl
theorem Ycx:q8 [1,1,1,1]=.seq (q8 [1,1,1,1,0]) (q8 [1,1,1,1,1]):=by kernel_rfl
theorem Z6z:q8 [1,1,1,1,0]=.region 7 (Zt (q8 [1,1,1,1,0])) false:=by kernel_rfl
theorem Z49:q8 [1,1,1,1,1]=.seq (q8 [1,1,1,1,1,0]) (q8 [1,1,1,1,1,1]):=by kernel_rfl
theorem Z0v:q8 [1,1,1,1,1,0]=.seq (q8 [1,1,1,1,1,0,0]) (q8 [1,1,1,1,1,0,1]):=by kernel_rfl
theorem Zvx:q8 [1,1,1,1,1,0,0]=.region 8 (Zt (q8 [1,1,1,1,1,0,0])) false:=by kernel_rfl
theorem Zvg:q8 [1,1,1,1,1,0,1]=.cond (.tmp 36) (q8 [1,1,1,1,1,0,1,3]) (q8 [1,1,1,1,1,0,1,4]):=by kernel_rfl
theorem Zt7:q8 [1,1,1,1,1,0,1,4]=.skip:=by kernel_rfl
theorem Z1b:q8 [1,1,1,1,1,1]=.seq (q8 [1,1,1,1,1,1,0]) (q8 [1,1,1,1,1,1,1]):=by kernel_rfl
theorem Zx1:q8 [1,1,1,1,1,1,0]=.region 10 (Zt (q8 [1,1,1,1,1,1,0])) false:=by kernel_rfl
theorem Zxc:q8 [1,1,1,1,1,1,1]=.ret:=by kernel_rfl
theorem rs8:Tryz.f8.results.toList=[.cell 4 30,.tmp 5]:=rfl
attribute [go_sem] rs8
section
variable (Hh:Hearts K Tryz.prog)
include Hh
variable {n a b c e:Nat} {md:Int} {S:Stt} {X:Tx} {lc:Gt} {L:List (List C)} {h:Go.Ev.H}
theorem Yg2 (f:U7 a b c e=true) (R:RsE n a b c e md S X lc L h) {j:Nat} (jl:j<a * c) {ns:List Nat} (hx:At lc L (Dp b c e j) (pgL ns)) (nl:ns.length=256) :
  ∃ h',Zd K Tryz.prog 8 [.c (.ptr (n+13) 0),.c (.int .i64 ((j+1:Nat):Int))] h (.tup [.g (Mf ns (Nh c j)).1,.c (.int .i64 (Mf ns (Nh c j)).2)]) h'∧Rd n L h h':=by
 obtain⟨g1,g2,g3,g4,g5,g6,g7,g8,g9,g10,g11⟩:=Yn f
 have ka:j / c<a:=Nat.div_lt_of_lt_mul (by rw[Nat.mul_comm]; omega)
 have tc:j % c<c:=Nat.mod_lt _ (by omega)
 have st:=Bl (b:=b) ka
 have pc:=N9 c j
 obtain⟨z,hz⟩:∃ z,Dp b c e j=z:=⟨_,rfl⟩
 obtain⟨p,hp⟩:∃ p,Nh c j=p:=⟨_,rfl⟩
 rw[hz] at hx
 rw[hp] at pc ⊢
 unfold Dp at hz
 unfold Nh at hp
 have zl:z<2+e+a * b:=by omega
 have oz:=Ztp (z:=z) (Yn f) (by omega) zl
 have t1:((j+1:Nat):Int).toNat - 1=j:=by omega
 have d1:decide (1≤((j+1:Nat):Int))=true:=decide_eq_true (by omega)
 have d2:decide (((j+1:Nat):Int)≤((a * c:Nat):Int))=true:=decide_eq_true (by omega)
 have c2:=Ybi Hh nl pc
 have il:=Zud ns p
 obtain⟨y,hy⟩:∃ y,(Mf ns p).1=y:=⟨_,rfl⟩
 obtain⟨er,her⟩:∃ y,(Mf ns p).2=y:=⟨_,rfl⟩
 rw[hy] at il
 rw[hy,her] at c2 ⊢
 have xl:(pgL ns).length=256:=by rw[Et,nl]
 have xf:=Nz ns
 obtain⟨x,hxx⟩:∃ x,pgL ns=x:=⟨_,rfl⟩
 rw[hxx] at hx c2 xl xf
 obtain⟨nx,hs,gl,lg⟩:n+32≤h.next∧h.get (n+13)=some (.row 8 [stL S] false)∧h.get S.gd=some (.row 9 [gdL (gdN n a b c e md)] false)∧S.gd<h.next:=by
  obtain⟨lm,_,_,R⟩:=R
  exact⟨R.nx,R.hs,R.hg,R.l2⟩
 unfold gdL gdN at gl
 obtain⟨v,h',cc,rfl,rd⟩:∃ v h',Zd K Tryz.prog 8 [.c (.ptr (n+13) 0),.c (.int .i64 ((j+1:Nat):Int))] h v h'∧v=.tup [.g y,.c (.int .i64 er)]∧Rd n L h h':=by
  refine Zd.Ya fits Hh (by kernel_rfl) (by kernel_rfl) (by kernel_rfl) (show Tryz.f8.body=some (q8 []) by kernel_rfl) rfl ?_
  show Goes K Tryz.prog 44 none _ _ _ _ _
  refine Goes.Zq q8_ ?_
  refine Goes.Zw q8_0 fits Hh Zb (by
   simp (maxSteps:=9^6) +decide (disch:=first|omega|(simp only[lens]<;>omega)|decide) only [go_sem,q8,Tryz.f8,Za,simprocAttr,f,hs,gl,Yf,t1,d1,d2,hz,hp,xl,il,read1]
   rfl) ?_
  refine Goes.Zq q8_1 ?_
  refine Goes.Zq Ydi ?_
  refine Goes.Zw Z4f fits Hh (Zf Zb (fun _ _ _ _=>Zgn Hh)) (by
   simp (maxSteps:=9^6) +decide (disch:=first|omega|(simp only[lens]<;>omega)|decide) only [go_sem,q8,Tryz.f8,Za,simprocAttr,f,hs,gl,Yf,t1,d1,d2,hz,hp,xl,il,read1]
   rfl) ?_
  refine Goes.Zq Z7r ?_
  refine Goes.Zw Zz5 fits Hh Zb (by
   simp (maxSteps:=9^6) +decide (disch:=first|omega|(simp only[lens]<;>omega)|decide) only [go_sem,q8,Tryz.f8,Za,simprocAttr,f,hs,gl,Yf,t1,d1,d2,hz,hp,xl,il,read1]
   rfl) ?_
  refine Goes.Yy Zz7 (by simp (maxSteps:=9^6) +decide (disch:=first|omega|(simp only[lens]<;>omega)|decide) only [go_sem,Za,simprocAttr,f,hs,gl,Yf,t1,d1,d2,hz,hp,xl,il,read1]<;>rfl) (by first|rfl|assumption|exact decide_eq_false (by omega)|(simp; omega)) ?_
  refine Goes.Jc Zs0 ?_
  refine Goes.Zq Ydc ?_
  refine Goes.Zw Z4d fits Hh (Zf (Zf Zb (fun _ _ _ _=>Rz Hh)) (fun _ _ _ _=>Ff Hh)) (by
   simp (maxSteps:=9^6) +decide (disch:=first|omega|(simp only[lens]<;>omega)|decide) only [go_sem,q8,Tryz.f8,Za,simprocAttr,f,hs,gl,Yf,t1,d1,d2,hz,hp,xl,il,read1]
   rfl) ?_
  refine Goes.Zq Z43 ?_
  refine Goes.Zq Z0b ?_
  refine Goes.Zw Zr7 fits Hh Zb (by
   simp (maxSteps:=9^6) +decide (disch:=first|omega|(simp only[lens]<;>omega)|decide) only [go_sem,q8,Tryz.f8,Za,simprocAttr,f,hs,gl,Yf,t1,d1,d2,hz,hp,xl,il,read1]
   rfl) ?_
  refine Goes.Yy Zsl (by simp (maxSteps:=9^6) +decide (disch:=first|omega|(simp only[lens]<;>omega)|decide) only [go_sem,Za,simprocAttr,f,hs,gl,Yf,t1,d1,d2,hz,hp,xl,il,read1]<;>rfl) (by first|rfl|assumption|exact decide_eq_false (by omega)|(simp; omega)) ?_
  refine Goes.Jc Z2z ?_
  refine Goes.Zq Ycx ?_
  refine Goes.abs fun hA eA=>?_
  have nA:hA.next=h.next+1:=by rw[eA]; first|rfl|simp only[H.Zg,H.Ze]
  have kA:∀ m,m<h.next→hA.get m=h.get m:=fun m hm=>by rw[eA]; (first|(simp (discharger:=omega) only [H.get_put,H.Zh,H.Zk,H.Ze,H.Zg,H.Zj,if_neg]; done)|(simp only[H.get_put,H.Zh,H.Zk,H.Ze,H.Zg,H.Zj]; (repeat' split)<;>first|rfl|(exfalso; omega)|omega))
  obtain⟨w,wl,cA⟩:∃ w:List C,w.length=16∧hA.get h.next=some (.row 16 [w] false):=⟨_,Zuw,by rw[eA]; simp (maxSteps:=9^6) +decide (disch:=first|omega|(simp only[lens]<;>omega)|decide) only [go_sem,Za,simprocAttr]<;>rfl⟩
  clear eA
  have RA:=R.keep (h2:=hA) (by omega) kA
  obtain⟨hA1,e1,rA,nA1⟩:=RA.get f oz zl hx xl xf
  have c1:=Zr9 Hh e1
  have cA1:=(rA.2.1 h.next (by omega) (by omega)).trans cA
  refine Goes.Zw Z6z fits Hh (Z8 Zb c1) (by
   simp (maxSteps:=9^6) +decide (disch:=first|omega|(simp only[lens]<;>omega)|decide) only [go_sem,q8,Tryz.f8,Za,simprocAttr,Yo,f,hs,gl,Yf,t1,d1,d2,hz,hp,xl,il,read1]
   rfl) ?_
  refine Goes.Zq Z49 ?_
  refine Goes.Zq Z0v ?_
  refine Goes.Zw Zvx fits Hh Zb (by
   simp (maxSteps:=9^6) +decide (disch:=first|omega|(simp only[lens]<;>omega)|decide) only [go_sem,q8,Tryz.f8,Za,simprocAttr,f,hs,gl,Yf,t1,d1,d2,hz,hp,xl,il,nA,nA1,cA1,read1]
   rfl) ?_
  refine Goes.Yy Zvg (by simp (maxSteps:=9^6) +decide (disch:=first|omega|(simp only[lens]<;>omega)|decide) only [go_sem,Za,simprocAttr,f,hs,gl,Yf,t1,d1,d2,hz,hp,xl,il,nA,nA1,cA1,read1]<;>rfl) (by first|rfl|assumption|exact decide_eq_false (by omega)|(simp; omega)) ?_
  refine Goes.Jc Zt7 ?_
  refine Goes.Zq Z1b ?_
  refine Goes.abs fun hB eB=>?_
  have nB:hB.next=h.next+1+1:=by rw[eB]; simp only[H.Zg,H.Ze,nA1,nA]
  have rB:Rd n L hA hB:=rA.then (by omega) (fun m hm=>by rw[eB]; (first|(simp (discharger:=omega) only [H.get_put,H.Zh,H.Zk,H.Ze,H.Zg,H.Zj,if_neg]; done)|(simp only[H.get_put,H.Zh,H.Zk,H.Ze,H.Zg,H.Zj]; (repeat' split)<;>first|rfl|(exfalso; omega)|omega))) (by omega)
  have cB:hB.get h.next=some (.row 16 [w] false):=by rw[eB]; refine Eq.trans ?_ cA1; (first|(simp (discharger:=omega) only [H.get_put,H.Zh,H.Zk,H.Ze,H.Zg,H.Zj,if_neg]; done)|(simp only[H.get_put,H.Zh,H.Zk,H.Ze,H.Zg,H.Zj]; (repeat' split)<;>first|rfl|(exfalso; omega)|omega))
  have bB:hB.get (h.next+1)=some (.row 256 [x] false):=by rw[eB]; simp (maxSteps:=9^6) +decide (disch:=first|omega|(simp only[lens]<;>omega)|decide) only [go_sem,Za,simprocAttr,nA1,nA,xl]<;>rfl
  clear eB
  have c3:=c2 hB
  refine Goes.Zw Zx1 fits Hh (Z8 Zb c3) (by
   simp (maxSteps:=9^6) +decide (disch:=first|omega|(simp only[lens]<;>omega)|decide) only [go_sem,q8,Tryz.f8,Za,simprocAttr,Yo,f,hs,gl,Yf,t1,d1,d2,hz,hp,xl,il,nA,nA1,cA1,nB,cB,bB,wl,nA,read1]
   rfl) ?_
  refine Goes.Gl Zxc ?_
  refine⟨_,_,(by simp (maxSteps:=9^6) +decide (disch:=first|omega|(simp only[lens]<;>omega)|decide) only [go_sem,Za,simprocAttr,cB,il]<;>rfl),rfl,?_⟩
  obtain⟨lm,q3,q4,q5⟩:=rB.2.2
  refine⟨?_,fun m hm hne=>?_,lm,q3,q4,?_⟩
  ·first|omega|(simp only[H.Zg,H.Ze]<;>omega)
  ·refine Eq.trans ?_ ((rB.2.1 m (by omega) hne).trans (kA m hm)); (first|(simp (discharger:=omega) only [H.get_put,H.Zh,H.Zk,H.Ze,H.Zg,H.Zj,if_neg]; done)|(simp only[H.get_put,H.Zh,H.Zk,H.Ze,H.Zg,H.Zj]; (repeat' split)<;>first|rfl|(exfalso; omega)|omega))
  ·refine Eq.trans ?_ q5; (first|(simp (discharger:=omega) only [H.get_put,H.Zh,H.Zk,H.Ze,H.Zg,H.Zj,if_neg]; done)|(simp only[H.get_put,H.Zh,H.Zk,H.Ze,H.Zg,H.Zj]; (repeat' split)<;>first|rfl|(exfalso; omega)|omega))
 exact⟨h',cc,rd⟩
theorem Yf9 (f:U7 a b c e=true) (R:RsE n a b c e md S X lc L h) {z:Int} (hz:¬(1≤z∧z≤((a * c:Nat):Int))) :
  ∃ h',Zd K Tryz.prog 8 [.c (.ptr (n+13) 0),.c (.int .i64 z)] h (.tup [.g ino0,.c (.int .i64 2)]) h'∧Rd n L h h':=by
 have dd:(decide (1≤z)&&decide (z≤((a * c:Nat):Int)))=false:=by
  rw[←Bool.decide_and]
  exact decide_eq_false hz
 have RR:=R
 obtain⟨lm,fl,sn,R⟩:=R
 have nx:=R.nx
 have hs:=R.hs
 have gl:=R.hg
 have lg:=R.l2
 have hm:=R.hm
 unfold gdL gdN at gl
 obtain⟨v,h',cc,rfl,rd⟩:∃ v h',Zd K Tryz.prog 8 [.c (.ptr (n+13) 0),.c (.int .i64 z)] h v h'∧v=.tup [.g ino0,.c (.int .i64 2)]∧Rd n L h h':=by
  refine Zd.Ya fits Hh (by kernel_rfl) (by kernel_rfl) (by kernel_rfl) (show Tryz.f8.body=some (q8 []) by kernel_rfl) rfl ?_
  show Goes K Tryz.prog 44 none _ _ _ _ _
  refine Goes.Zq q8_ ?_
  refine Goes.Zw q8_0 fits Hh Zb (by
   simp (maxSteps:=9^6) +decide (disch:=first|omega|(simp only[lens]<;>omega)|decide) only [go_sem,q8,Tryz.f8,Za,simprocAttr,f,hs,gl,Yf,dd,read1]
   rfl) ?_
  refine Goes.Zq q8_1 ?_
  refine Goes.Zq Ydi ?_
  refine Goes.Zw Z4f fits Hh (Zf Zb (fun _ _ _ _=>Zgn Hh)) (by
   simp (maxSteps:=9^6) +decide (disch:=first|omega|(simp only[lens]<;>omega)|decide) only [go_sem,q8,Tryz.f8,Za,simprocAttr,f,hs,gl,Yf,dd,read1]
   rfl) ?_
  refine Goes.Zq Z7r ?_
  refine Goes.Zw Zz5 fits Hh Zb (by
   simp (maxSteps:=9^6) +decide (disch:=first|omega|(simp only[lens]<;>omega)|decide) only [go_sem,q8,Tryz.f8,Za,simprocAttr,f,hs,gl,Yf,dd,read1]
   rfl) ?_
  refine Goes.Yy Zz7 (by simp (maxSteps:=9^6) +decide (disch:=first|omega|(simp only[lens]<;>omega)|decide) only [go_sem,Za,simprocAttr,f,hs,gl,Yf,dd,read1]<;>rfl) (by first|rfl|assumption|exact decide_eq_false (by omega)|(simp; omega)) ?_
  refine Goes.Jc Zs0 ?_
  refine Goes.Zq Ydc ?_
  refine Goes.Zw Z4d fits Hh (Zf (Zf Zb (fun _ _ _ _=>Rz Hh)) (fun _ _ _ _=>Ff Hh)) (by
   simp (maxSteps:=9^6) +decide (disch:=first|omega|(simp only[lens]<;>omega)|decide) only [go_sem,q8,Tryz.f8,Za,simprocAttr,f,hs,gl,Yf,dd,read1]
   rfl) ?_
  refine Goes.Zq Z43 ?_
  refine Goes.Zq Z0b ?_
  refine Goes.Zw Zr7 fits Hh Zb (by
   simp (maxSteps:=9^6) +decide (disch:=first|omega|(simp only[lens]<;>omega)|decide) only [go_sem,q8,Tryz.f8,Za,simprocAttr,f,hs,gl,Yf,dd,read1]
   rfl) ?_
  refine Goes.Ob Zsl (by simp (maxSteps:=9^6) +decide (disch:=first|omega|(simp only[lens]<;>omega)|decide) only [go_sem,Za,simprocAttr,f,hs,gl,Yf,dd,read1]<;>rfl) (by first|rfl|assumption|exact decide_eq_true (by omega)|(simp; omega)) ?_
  refine Goes.Zq Z1s ?_
  refine Goes.Zw Zwx fits Hh Zb (by
   simp (maxSteps:=9^6) +decide (disch:=first|omega|(simp only[lens]<;>omega)|decide) only [go_sem,q8,Tryz.f8,Za,simprocAttr,f,hs,gl,Yf,dd,read1]
   rfl) ?_
  refine Goes.Gl Zw5 ?_
  refine⟨_,_,(by simp (maxSteps:=9^6) +decide (disch:=first|omega|(simp only[lens]<;>omega)|decide) only [go_sem,Za,simprocAttr]<;>rfl),rfl,(Rd.refl fl sn hm).then ?_ (fun m hm=>?_) (by omega)⟩
  ·first|omega|(simp only[H.Zg,H.Ze]<;>omega)
  ·(first|(simp (discharger:=omega) only [H.get_put,H.Zh,H.Zk,H.Ze,H.Zg,H.Zj,if_neg]; done)|(simp only[H.get_put,H.Zh,H.Zk,H.Ze,H.Zg,H.Zj]; (repeat' split)<;>first|rfl|(exfalso; omega)|omega))
 exact⟨h',cc,rd⟩
theorem Zzd (f:U7 a b c e=true) (R:RsE n a b c e md S X lc L h) {U:Nat→List Nat} (hU:∀ j,j<a * c→At lc L (Dp b c e j) (pgL (U (Dp b c e j)))∧(U (Dp b c e j)).length=256) (z:Int) :
  ∃ h',Zd K Tryz.prog 8 [.c (.ptr (n+13) 0),.c (.int .i64 z)] h (.tup [.g (gI a b c e U z).1,.c (.int .i64 (gI a b c e U z).2)]) h'∧Rd n L h h':=by
 by_cases hz:1≤z∧z≤((a * c:Nat):Int)
 ·obtain⟨j,hj⟩:∃ j,z.toNat - 1=j:=⟨_,rfl⟩
  obtain⟨z1,z2⟩:=hz
  obtain rfl:z=((j+1:Nat):Int):=by omega
  have jl:j<a * c:=by omega
  have q:gI a b c e U ((j+1:Nat):Int)=Mf (U (Dp b c e j)) (Nh c j):=by
   unfold gI
   rw[if_pos ⟨z1,z2⟩,hj]
  rw[q]
  exact Yg2 Hh f R jl (hU j jl).1 (hU j jl).2
 ·have q:gI a b c e U z=(ino0,2):=by unfold gI; rw[if_neg hz]
  rw[q]
  exact Yf9 Hh f R hz
end
end Go.Proofs.YtmdibcklpmeleaaGreatDoor
