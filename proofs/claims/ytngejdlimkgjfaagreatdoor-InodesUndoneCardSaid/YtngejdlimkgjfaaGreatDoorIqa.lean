/- InodesUndone: what a new image says of its groups; descriptors that were changed tell themselves. -/
import Derived.Test.YtngejdlimkgjfaaGreatDoorTkl
import Derived.Test.YtngejdlimkgjfaaGreatDoorInr
set_option linter.unusedSimpArgs false
set_option linter.unusedVariables false
set_option linter.unusedSectionVars false
set_option maxRecDepth 100000
set_option maxHeartbeats 4000000
namespace Go.Proofs.YtngejdlimkgjfaaGreatDoor
open Go.Ev
def Zcv (D:List Dq):List C:=pgL (O3 (Ea D 0 Ou))
theorem Zw3 (D:List Dq):(Zcv D).length=256:=by unfold Zcv; rw[De,O3,Yj,Sv]; exact Rn
theorem Zy4 {a m x:Nat} {D:List Dq} (a1:1≤a) (a4:a≤4) (Dl:D.length=a) (Dm:D.all (Tv m x)=true) (mm:m<65536) (xx:x<65536):Bg (Ea D 0 Ou) a 0=D∧Ml (Ea D 0 Ou) a 0=true∧Dc (Ea D 0 Ou) (8 * a) (252 - 8 * a)=true:=by
 have b:∀ d∈D,wD d=d:=fun d hd=>by
  obtain⟨h1,h2,h3⟩:=Ni (List.all_eq_true.1 Dm d hd)
  exact Zyh ⟨by omega,by omega,by omega⟩
 match D,Dl with
 | [],Dl=>simp at Dl; omega
 | [(q,u,v)],Dl =>
  obtain rfl:a=1:=by simpa using Dl.symm
  have:=tell1 q u v
  rw[b _ (by simp)] at this
  exact this
 | [(q,u,v),(q1,u1,v1)],Dl =>
  obtain rfl:a=2:=by simpa using Dl.symm
  have:=tell2 q u v q1 u1 v1
  rw[b _ (by simp),b (q1,u1,v1) (by simp)] at this
  exact this
 | [(q,u,v),(q1,u1,v1),(q2,u2,v2)],Dl =>
  obtain rfl:a=3:=by simpa using Dl.symm
  have:=tell3 q u v q1 u1 v1 q2 u2 v2
  rw[b _ (by simp),b (q1,u1,v1) (by simp),b (q2,u2,v2) (by simp)] at this
  exact this
 | [(q,u,v),(q1,u1,v1),(q2,u2,v2),(q3,u3,v3)],Dl =>
  obtain rfl:a=4:=by simpa using Dl.symm
  have:=tell4 q u v q1 u1 v1 q2 u2 v2 q3 u3 v3
  rw[b _ (by simp),b (q1,u1,v1) (by simp),b (q2,u2,v2) (by simp),b (q3,u3,v3) (by simp)] at this
  exact this
 | _ :: _ :: _ :: _ :: _ :: _,Dl=>simp only[List.length_cons] at Dl; omega
theorem Zuv {a b c d:Nat} (f:Jm a b c d=true) {D:List Dq} (Dl:D.length=a) (Dm:D.all (Tv (b - 2 - c / 4) c)=true):Zij (Zcv D)=true∧goodD (unN (Zcv D)) a b c=true∧Bg (unN (Zcv D)) a 0=D:=by
 obtain⟨g1,g2,g3,g4,g5,g6,g7,g8,g9,g10,g11⟩:=Z0 f
 obtain⟨t1,t2,t3⟩:=Zy4 g1 g2 Dl Dm (by omega) (by omega)
 refine⟨Zml _,?_,?_⟩
 ·unfold Zcv
  rw[Bf,Qr]
  have q1:Yn (O3 (Ea D 0 Ou)) 252=Xw (O3 (Ea D 0 Ou)):=by
   rw[Zm8]
   exact Zn1 (by rw[Sv,Rn]; omega) (Zqv _)
  unfold goodD
  rw[q1,Nat.beq_refl,Zhn _ (by omega),t3,Zdv _ _ _ (by omega),t2,Te _ _ _ (by omega),t1,Dm]
  rfl
 ·unfold Zcv
  rw[Bf,Ty,Te _ _ _ (by omega)]
  exact t1
def bit0 (k:Nat):Nat:=if k=0 then 1 else 0
def x0D (b c:Nat):Nat:=b - 2 - c / 4
def i0D (c k:Nat):Nat:=if k=0 then c - 1 else c
theorem Zwa {a b c k:Nat} (ka:k<a):(G5 a b c)[k]? = some (x0D b c,i0D c k,bit0 k):=by
 cases k with
 | zero=>rfl
 | succ k =>
  rw[G5,List.getElem?_cons_succ,List.getElem?_replicate,if_pos (by omega)]
  unfold i0D bit0
  rw[if_neg (by omega),if_neg (by omega)]
  rfl
theorem Zs5 {D:List Dq} {g:Dq→Bool} (h:D.all g=true) {d:Dq} (hd:g d=true) (k:Nat):(D.set k d).all g=true:=List.all_eq_true.2 fun y hy=>by
 rcases List.mem_or_eq_of_mem_set hy with h1|rfl
 ·exact List.all_eq_true.1 h y h1
 ·exact hd
theorem Zse:Mv Zye 64=(ino0,0)∧Mv zN 0=(ino0,0):=⟨by kernel_rfl,by kernel_rfl⟩
theorem Z0z {a b c e:Nat} {L:List (List C)} (f:Jm a b c e=true) (I:Image a b c e L) {k:Nat} (ka:k<a):Grp a b c e [] L (U0 e) (G5 a b c) 1 (F5 (bit0 k) c 2048) k (bit0 k) (x0D b c) (i0D c k) (bit0 k):=by
 have F:=Z0 f
 obtain⟨g1,g2,g3,g4,g5,g6,g7,g8,g9,g10,g11⟩:=F
 have bm:=I.bm k ka
 have b01:bit0 k=0∨bit0 k=1:=by unfold bit0; split<;>simp
 have tc:bit0 k<c:=by omega
 have sc:=Uf (b:=c) ka
 refine⟨ka,?_,tc,.inl rfl,.inr ⟨rfl,bm⟩,sees0 (Z0 f) I,?_,Zwa ka,?_,?_,by omega,Vs g1,?_⟩
 ·rcases b01 with h|h<;>rw[h]<;>simp [F5]<;>omega
 ·have jc:(k * c+bit0 k) / c=k:=by rw[Nat.mul_comm,Nat.mul_add_div (by omega),Nat.div_eq_of_lt tc,Nat.add_zero]
  have jm:(k * c+bit0 k) % c=bit0 k:=by rw[Nat.mul_comm,Nat.mul_add_mod,Nat.mod_eq_of_lt tc]
  have tn:((k * c+bit0 k+1:Nat):Int).toNat - 1=k * c+bit0 k:=by omega
  unfold gI
  rw[if_pos ⟨by omega,by omega⟩,tn]
  unfold Jv Gy U0
  rw[jc,jm]
  by_cases k0:k=0
  ·subst k0
   rw[if_pos (by simp [bit0])]
   exact Zse.1
  ·have q:bit0 k=0:=by unfold bit0; rw[if_neg k0]
   have:1≤k:=by omega
   have:=Nat.mul_le_mul_right b this
   rw[q,if_neg (by omega)]
   exact Zse.2
 ·unfold i0D; split<;>omega
 ·unfold i0D; split<;>omega
 ·refine Zs5 (Zbd (by omega)) ?_ k
  simp only[Tv,Zoe]
  unfold x0D i0D bit0
  rw[D5 (Nat.le_refl _)]
  by_cases k0:k=0
  ·rw[if_pos k0,if_pos k0,D5 (by omega),if_neg (by omega),D5 (by omega)]; rfl
  ·rw[if_neg k0,if_neg k0,D5 (by omega),if_neg (by omega),D5 (by omega)]; rfl
end Go.Proofs.YtngejdlimkgjfaaGreatDoor
set_option maxRecDepth 100000
set_option maxHeartbeats 4000000
namespace Go.Proofs.YtngejdlimkgjfaaGreatDoor
open Go.Ev
def Zvk (dt ino:Nat):List C→Bool
 | [.int .i64 x,.int .i64 y,.int .i64 z]=>decide (0≤x)&&decide (x≤(dt:Int))&&decide (0≤y)&&decide (y≤(ino:Int))&&decide (z<0)
 | _=>false
theorem Q0 {dt ino:Nat} {l:List C} (e:Zvk dt ino l=true):∃ x y z:Int,l=[.int .i64 x,.int .i64 y,.int .i64 z]∧0≤x∧x≤(dt:Int)∧0≤y∧y≤(ino:Int)∧z<0:=by
 unfold Zvk at e
 split at e
 ·simp only[Bool.and_eq_true,decide_eq_true_eq] at e
  obtain⟨⟨⟨⟨e1,e2⟩,e3⟩,e4⟩,e5⟩:=e
  exact⟨_,_,_,rfl,e1,e2,e3,e4,e5⟩
 ·cases e
def Ze8 (dt ino:Nat):List (List C)→Bool
 | []=>false
 | r :: L=>Zvk dt ino r || Zrs dt ino r&&Ze8 dt ino L
theorem Zwc {dt ino:Nat} {L:List (List C)} (e:Ze8 dt ino L=true):1≤L.length:=by
 cases L with
 | nil=>cases e
 | cons r L=>simp
section
variable (Hh:Hearts K Tryz.prog)
include Hh
theorem Zzy {a b c d n:Nat} {L:List (List C)} {ro:Bool} (f:Jm a b c d=true) {h:Go.Ev.H} (hp:h.get n=some (.row 3 L ro)) (Ll:L.length=a) (bd:Ze8 (b - 2 - c / 4) c L=true) :
  Ze K Tryz.prog 102 [.g [.int .i64 (a:Int),.int .i64 (b:Int),.int .i64 (c:Int),.int .i64 (d:Int)],.c (.slice n 0 a 3)] h (.w (.c (.bool false))) h:=by
 have F:=Z0 f
 obtain⟨g1,g2,g3,g4,g5,g6,g7,g8,g9,g10,g11⟩:=F
 refine Ze.tidy ⟨Tryz.f102,Tryz.func102,by kernel_rfl,by decide⟩ fun tidy=>?_
 have l1:=tidy _ _ hp
 obtain⟨v,h',cc,rfl,hk⟩:∃ v h',Ze K Tryz.prog 102 [.g [.int .i64 (a:Int),.int .i64 (b:Int),.int .i64 (c:Int),.int .i64 (d:Int)],.c (.slice n 0 a 3)] h v h'∧v=.w (.c (.bool false))∧∀ m,m<h.next→h'.get m=h.get m:=by
  rcases L with _|⟨r0,L⟩
  ·cases bd
  simp only[Ze8,Bool.or_eq_true,Bool.and_eq_true] at bd
  rcases bd with q0|⟨q0,bd⟩
  ·obtain⟨x0,y0,z0,rfl,a1,a2,a3,a4,a5⟩:=Q0 q0
   simp only[List.length_cons] at Ll
   refine Ze.Z8 fits Hh (by kernel_rfl) (by kernel_rfl) (by kernel_rfl) (show Tryz.f102.body=some _ from rfl) rfl ?_
   repeat (first|apply Goes.seq|apply Goes.block|apply Goes.loop|apply Goes.skip|apply Goes.exit|apply Goes.ret|((first|apply Goes.Zr|apply Goes.ops2 fits Hh (Zh Zc (fun _ _ _ _=>Ld Hh))); · simp (maxSteps:=9^6) +decide (disch:=first|omega|(simp only[lens]<;>omega)|decide) only [go_sem,Zf,Za,simprocAttr,f,hp,read1,Zw,Zt,Y8]<;>rfl))
   exact⟨_,_,(by simp (maxSteps:=9^6) +decide (disch:=first|omega|(simp only[lens]<;>omega)|decide) only [go_sem,Zf,Za,simprocAttr]<;>rfl),rfl,fun m hm=>by (first|(simp (discharger:=omega) only [H.get_put,H.Zi,H.Zm,H.Zd,H.Zg,H.Zj,if_neg]; done)|(simp only[H.get_put,H.Zi,H.Zm,H.Zd,H.Zg,H.Zj]; (repeat' split)<;>first|rfl|(exfalso; omega)|omega))⟩
  obtain⟨x0,y0,z0,rfl,a1,a2,a3,a4,a5,a6⟩:=Lb q0
  rcases L with _|⟨r1,L⟩
  ·cases bd
  simp only[Ze8,Bool.or_eq_true,Bool.and_eq_true] at bd
  rcases bd with q1|⟨q1,bd⟩
  ·obtain⟨x1,y1,z1,rfl,b1,b2,b3,b4,b5⟩:=Q0 q1
   simp only[List.length_cons] at Ll
   refine Ze.Z8 fits Hh (by kernel_rfl) (by kernel_rfl) (by kernel_rfl) (show Tryz.f102.body=some _ from rfl) rfl ?_
   repeat (first|apply Goes.seq|apply Goes.block|apply Goes.loop|apply Goes.skip|apply Goes.exit|apply Goes.ret|((first|apply Goes.Zr|apply Goes.ops2 fits Hh (Zh Zc (fun _ _ _ _=>Ld Hh))); · simp (maxSteps:=9^6) +decide (disch:=first|omega|(simp only[lens]<;>omega)|decide) only [go_sem,Zf,Za,simprocAttr,f,hp,read1,Zw,Zt,Y8]<;>rfl))
   exact⟨_,_,(by simp (maxSteps:=9^6) +decide (disch:=first|omega|(simp only[lens]<;>omega)|decide) only [go_sem,Zf,Za,simprocAttr]<;>rfl),rfl,fun m hm=>by (first|(simp (discharger:=omega) only [H.get_put,H.Zi,H.Zm,H.Zd,H.Zg,H.Zj,if_neg]; done)|(simp only[H.get_put,H.Zi,H.Zm,H.Zd,H.Zg,H.Zj]; (repeat' split)<;>first|rfl|(exfalso; omega)|omega))⟩
  obtain⟨x1,y1,z1,rfl,b1,b2,b3,b4,b5,b6⟩:=Lb q1
  rcases L with _|⟨r2,L⟩
  ·cases bd
  simp only[Ze8,Bool.or_eq_true,Bool.and_eq_true] at bd
  rcases bd with q2|⟨q2,bd⟩
  ·obtain⟨x2,y2,z2,rfl,c1,c2,c3,c4,c5⟩:=Q0 q2
   simp only[List.length_cons] at Ll
   refine Ze.Z8 fits Hh (by kernel_rfl) (by kernel_rfl) (by kernel_rfl) (show Tryz.f102.body=some _ from rfl) rfl ?_
   repeat (first|apply Goes.seq|apply Goes.block|apply Goes.loop|apply Goes.skip|apply Goes.exit|apply Goes.ret|((first|apply Goes.Zr|apply Goes.ops2 fits Hh (Zh Zc (fun _ _ _ _=>Ld Hh))); · simp (maxSteps:=9^6) +decide (disch:=first|omega|(simp only[lens]<;>omega)|decide) only [go_sem,Zf,Za,simprocAttr,f,hp,read1,Zw,Zt,Y8]<;>rfl))
   exact⟨_,_,(by simp (maxSteps:=9^6) +decide (disch:=first|omega|(simp only[lens]<;>omega)|decide) only [go_sem,Zf,Za,simprocAttr]<;>rfl),rfl,fun m hm=>by (first|(simp (discharger:=omega) only [H.get_put,H.Zi,H.Zm,H.Zd,H.Zg,H.Zj,if_neg]; done)|(simp only[H.get_put,H.Zi,H.Zm,H.Zd,H.Zg,H.Zj]; (repeat' split)<;>first|rfl|(exfalso; omega)|omega))⟩
  obtain⟨x2,y2,z2,rfl,c1,c2,c3,c4,c5,c6⟩:=Lb q2
  rcases L with _|⟨r3,L⟩
  ·cases bd
  simp only[Ze8,Bool.or_eq_true,Bool.and_eq_true] at bd
  rcases bd with q3|⟨q3,bd⟩
  ·obtain⟨x3,y3,z3,rfl,d1,d2,d3,d4,d5⟩:=Q0 q3
   simp only[List.length_cons] at Ll
   refine Ze.Z8 fits Hh (by kernel_rfl) (by kernel_rfl) (by kernel_rfl) (show Tryz.f102.body=some _ from rfl) rfl ?_
   repeat (first|apply Goes.seq|apply Goes.block|apply Goes.loop|apply Goes.skip|apply Goes.exit|apply Goes.ret|((first|apply Goes.Zr|apply Goes.ops2 fits Hh (Zh Zc (fun _ _ _ _=>Ld Hh))); · simp (maxSteps:=9^6) +decide (disch:=first|omega|(simp only[lens]<;>omega)|decide) only [go_sem,Zf,Za,simprocAttr,f,hp,read1,Zw,Zt,Y8]<;>rfl))
   exact⟨_,_,(by simp (maxSteps:=9^6) +decide (disch:=first|omega|(simp only[lens]<;>omega)|decide) only [go_sem,Zf,Za,simprocAttr]<;>rfl),rfl,fun m hm=>by (first|(simp (discharger:=omega) only [H.get_put,H.Zi,H.Zm,H.Zd,H.Zg,H.Zj,if_neg]; done)|(simp only[H.get_put,H.Zi,H.Zm,H.Zd,H.Zg,H.Zj]; (repeat' split)<;>first|rfl|(exfalso; omega)|omega))⟩
  have:=Zwc bd
  simp only[List.length_cons] at Ll
  omega
 exact cc.quiet rfl hk
theorem Zqo {a b c d n:Nat} {L:List (List C)} {ro:Bool} (f:Jm a b c d=true) {h:Go.Ev.H} (hp:h.get n=some (.row 3 L ro)) (Ll:L.length=a) (bd:Ze8 (b - 2 - c / 4) c L=true) :
  Ze K Tryz.prog 55 [.g [.int .i64 (a:Int),.int .i64 (b:Int),.int .i64 (c:Int),.int .i64 (d:Int)],.c (.slice n 0 a 3)] h (.tup [.g (List.replicate 256 (.int .u8 0)),.c (.int .i64 2)]) h:=by
 have F:=Z0 f
 obtain⟨g1,g2,g3,g4,g5,g6,g7,g8,g9,g10,g11⟩:=F
 refine Ze.tidy ⟨Tryz.f55,Tryz.func55,by kernel_rfl,by decide⟩ fun tidy=>?_
 have l1:=tidy _ _ hp
 have hM:=fun {h2:Go.Ev.H} (hq:h2.get n=some (.row 3 L ro))=>Zzy Hh f hq Ll bd
 obtain⟨z,hz⟩:∃ z,List.replicate 256 (C.int .u8 0)=z:=⟨_,rfl⟩
 have zl:z.length=256:=by rw[←hz,List.length_replicate]
 have zf:z.all C.flat=true:=by rw[←hz]; kernel_rfl
 obtain⟨v,h',cc,rfl,hk⟩:∃ v h',Ze K Tryz.prog 55 [.g [.int .i64 (a:Int),.int .i64 (b:Int),.int .i64 (c:Int),.int .i64 (d:Int)],.c (.slice n 0 a 3)] h v h'∧v=.tup [.g z,.c (.int .i64 2)]∧∀ m,m<h.next→h'.get m=h.get m:=by
  refine Ze.Z8 fits Hh (by kernel_rfl) (by kernel_rfl) (by kernel_rfl) (show Tryz.f55.body=some _ from rfl) rfl ?_
  iterate 9 (first|apply Goes.seq|apply Goes.skip|((first|apply Goes.Zr|apply Goes.ops2 fits Hh (Zh Zc (fun _ _ _ _=>U9 Hh))); · simp (maxSteps:=9^6) +decide (disch:=first|omega|(simp only[lens]<;>omega)|decide) only [go_sem,Za,simprocAttr,f,hz,zl,rd4,read1,Zw]<;>rfl))
  refine Goes.abs fun hA eA=>?_
  have nA:hA.next=h.next+1+1:=by rw[eA]; simp only[H.Zg,H.Zd]
  have kA:∀ m,m<h.next→hA.get m=h.get m:=fun m hm=>by rw[eA]; (first|(simp (discharger:=omega) only [H.get_put,H.Zi,H.Zm,H.Zd,H.Zg,H.Zj,if_neg]; done)|(simp only[H.get_put,H.Zi,H.Zm,H.Zd,H.Zg,H.Zj]; (repeat' split)<;>first|rfl|(exfalso; omega)|omega))
  have a0:hA.get h.next=some (.row 4 [[.int .i64 (a:Int),.int .i64 (b:Int),.int .i64 (c:Int),.int .i64 (d:Int)]] false):=by rw[eA]; simp (maxSteps:=9^6) +decide (disch:=first|omega|(simp only[lens]<;>omega)|decide) only [go_sem,Za,simprocAttr]<;>rfl
  have a1:hA.get (h.next+1)=some (.row 256 [z] false):=by rw[eA]; simp (maxSteps:=9^6) +decide (disch:=first|omega|(simp only[lens]<;>omega)|decide) only [go_sem,Za,simprocAttr,hz]<;>rfl
  clear eA
  have c3:=hM ((kA _ l1).trans hp)
  iterate 5 (first|apply Goes.seq|apply Goes.ret|((first|apply Goes.Zr|apply Goes.ops2 fits Hh (Zy Zc c3)); · simp (maxSteps:=9^6) +decide (disch:=first|omega|(simp only[lens]<;>omega)|decide) only [go_sem,Za,simprocAttr,Z7,f,hz,zl,rd4,a0,a1,nA,read1,Zw]<;>rfl))
  exact⟨_,_,(by simp (maxSteps:=9^6) +decide (disch:=first|omega|(simp only[lens]<;>omega)|decide) only [go_sem,Za,simprocAttr,zl]<;>rfl),rfl,fun m hm=>by refine Eq.trans ?_ (kA m hm); (first|(simp (discharger:=omega) only [H.get_put,H.Zi,H.Zm,H.Zd,H.Zg,H.Zj,if_neg]; done)|(simp only[H.get_put,H.Zi,H.Zm,H.Zd,H.Zg,H.Zj]; (repeat' split)<;>first|rfl|(exfalso; omega)|omega))⟩
 rw[←hz] at cc
 exact cc.quiet (by rw[hz]; simp only[V.flat,W.flat,List.all_cons,zf]; rfl) hk
variable {n q a b c e w:Nat} {cr md:Int} {kn:Bool} {lc:J9} {L:List (List C)} {h:Go.Ev.H}
theorem Zxh (f:Jm a b c e=true) (M:MhE n q a b c e cr md w kn lc L h) (wc:(w:Int)<cr) {j:Nat} (jl:j<a * c) {y mB:List C} (yl:y.length=16) (bl:mB.length=256) (bf:mB.all C.flat=true)
  {F pD pq:Nat} {Z Z':List (List C)} (hp:h.get pD=some (.row 3 Z false)) (Zl:Z'.length=a) (Zb:Ze8 (b - 2 - c / 4) c Z'=true) (pl:pD<h.next) (p32:q+9≤pD)
  (hF:∀ h2,(∀ m,m<h.next→Off n q m→h2.get m=h.get m)→Ze K Tryz.prog F [.c (.ptr pD (j / c * 3)),.c (.ptr pq 0)] h2 (.tup []) (h2.put pD (.row 3 Z' false))) :
  ∃ h',Ze K Tryz.prog 39 [.c (.ptr (n+13) 0),.c (.int .i64 ((j+1:Nat):Int)),.g mB,.c (.slice pD 0 a 3),.g y,.c (.fn F [] [some (pq,0)])] h (.w (.c (.int .i64 2))) h'∧MhE n q a b c e cr md (w+1) false (J2 ((2+e+j / c * b+1:Nat):Int) mB lc) L h'∧h.next≤h'.next∧∀ m,m<h.next→Off n q m→m≠pD→h'.get m=h.get m:=by
 obtain⟨g1,g2,g3,g4,g5,g6,g7,g8,g9,g10,g11⟩:=Z0 f
 have ka:j / c<a:=Nat.div_lt_of_lt_mul (by rw[Nat.mul_comm]; omega)
 have st:=Uf (b:=b) ka
 obtain⟨k,kj⟩:∃ k,j / c=k:=⟨_,rfl⟩
 rw[kj] at ka st hF ⊢
 obtain⟨zb,hb⟩:∃ z,2+e+k * b+1=z:=⟨_,rfl⟩
 rw[hb]
 have zbl:zb<2+e+a * b:=by omega
 have ob:=T9 (z:=zb) (Z0 f) (by omega) zbl
 have t1:((j+1:Nat):Int).toNat - 1=j:=by omega
 have d1:decide (1≤((j+1:Nat):Int))=true:=decide_eq_true (by omega)
 have d2:decide (((j+1:Nat):Int)≤((a * c:Nat):Int))=true:=decide_eq_true (by omega)
 obtain⟨nq,nx⟩:=M.nx
 have n0:0<n:=by
  obtain⟨lt,lm,_,_,_,_,_,_,M⟩:=M
  exact M.n0
 have hsg:∀ {kn:Bool} {w:Nat} {lc:J9} {h:Go.Ev.H},MhE n q a b c e cr md w kn lc L h→h.get 0=some O1∧h.get (n+13)=some (.row 8 [stL (stG n q kn)] false)∧h.get (n+12)=some (.row 9 [gdL (gdN n a b c e md)] false):=fun M=>by
  obtain⟨lt,lm,_,_,_,_,_,_,M⟩:=M
  exact⟨M.st,M.hs,M.hg⟩
 have hWD:=fun {h2:Go.Ev.H} (hq:h2.get pD=some (.row 3 Z' false))=>Zqo Hh f hq Zl Zb
 obtain⟨zz,hzz⟩:∃ z,List.replicate 256 (C.int .u8 0)=z:=⟨_,rfl⟩
 have zl:zz.length=256:=by rw[←hzz,List.length_replicate]
 simp only[hzz] at hWD
 obtain⟨v,h',cc,rfl,M',nn,hkk⟩:∃ v h',Ze K Tryz.prog 39 [.c (.ptr (n+13) 0),.c (.int .i64 ((j+1:Nat):Int)),.g mB,.c (.slice pD 0 a 3),.g y,.c (.fn F [] [some (pq,0)])] h v h'∧v=.w (.c (.int .i64 2))∧MhE n q a b c e cr md (w+1) false (J2 (zb:Int) mB lc) L h'∧h.next≤h'.next∧∀ m,m<h.next→Off n q m→m≠pD→h'.get m=h.get m:=by
  refine Ze.Z8 fits Hh (by kernel_rfl) (by kernel_rfl) (by kernel_rfl) (show Tryz.f39.body=some _ from rfl) rfl ?_
  iterate 3 (first|apply Goes.seq|(apply Goes.ops2 fits Hh Zc; · simp (maxSteps:=9^6) +decide (disch:=first|omega|(simp only[lens]<;>omega)|decide) only [go_sem,Za,simprocAttr,f,stG,Y6,t1,d1,d2,kj,hb,bl,yl,Nat.zero_add,Ed,List.map_cons,List.map_nil,List.cons_append,List.nil_append,hzz,zl,read1,Zw]<;>rfl))
  have X0:=hsg M
  obtain⟨_,hs0,gl0⟩:=X0
  unfold gdL gdN at gl0
  iterate 3 (first|apply Goes.seq|(apply Goes.ops2 fits Hh (Zh (Zh Zc (fun _ _ _ _=>U6 Hh)) (fun _ _ _ _=>Li Hh)); · simp (maxSteps:=9^6) +decide (disch:=first|omega|(simp only[lens]<;>omega)|decide) only [go_sem,Za,simprocAttr,f,stG,Y6,t1,d1,d2,kj,hb,bl,yl,Nat.zero_add,Ed,List.map_cons,List.map_nil,List.cons_append,List.nil_append,hzz,zl,hs0,gl0,read1,Zw]<;>rfl))
  refine Goes.abs fun hA eA=>?_
  have nA:hA.next=h.next+1+1:=by rw[eA]; first|rfl|simp only[H.Zg,H.Zd]
  have kA:∀ m,m<h.next→hA.get m=h.get m:=fun m hm=>by rw[eA]; (first|(simp (discharger:=omega) only [H.get_put,H.Zi,H.Zm,H.Zd,H.Zg,H.Zj,if_neg]; done)|(simp only[H.get_put,H.Zi,H.Zm,H.Zd,H.Zg,H.Zj]; (repeat' split)<;>first|rfl|(exfalso; omega)|omega))
  have bA:hA.get h.next=some (.row 256 [mB] false):=by rw[eA]; simp (maxSteps:=9^6) +decide (disch:=first|omega|(simp only[lens]<;>omega)|decide) only [go_sem,Za,simprocAttr,bl]<;>rfl
  clear eA
  have MA:=M.keep (h2:=hA) (by omega) (fun m hm=>kA m (by omega))
  obtain⟨_,hsA,glA⟩:=hsg MA
  unfold gdL gdN at glA
  obtain⟨hB,e1,MB,nB,kB⟩:=MA.put f ob zbl bl bf wc
  have c1:=Zbz Hh e1
  iterate 6 (first|apply Goes.seq|apply Goes.skip|((first|apply Goes.Zr|apply Goes.ops2 fits Hh (Zy (Zh (Zh Zc (fun _ _ _ _=>U6 Hh)) (fun _ _ _ _=>Dx Hh)) c1)); · simp (maxSteps:=9^6) +decide (disch:=first|omega|(simp only[lens]<;>omega)|decide) only [go_sem,Za,simprocAttr,Z7,f,stG,Y6,t1,d1,d2,kj,hb,bl,yl,Nat.zero_add,Ed,List.map_cons,List.map_nil,List.cons_append,List.nil_append,hzz,zl,hs0,gl0,nA,bA,hsA,glA,read1,Zw]<;>rfl)|(apply Goes.drawn2 fits Hh (Zy (Zh (Zh Zc (fun _ _ _ _=>U6 Hh)) (fun _ _ _ _=>Dx Hh)) c1) (by kernel_rfl); · simp (maxSteps:=9^6) +decide (disch:=first|omega|(simp only[lens]<;>omega)|decide) only [go_sem,Za,simprocAttr,Js,Y2,Jd,Jo,Yv,Jp,Jf,Ye,Ja,Jr,Ux,Jg,Ya,Ym,Yh,Yg,Je,Yt,Y0,Yd,Yu,Jb,Oy,U8,Oj,Ee,Ep,Ue,Ug,Jn,Om,Uj,Ur,Jq,Y1,Uo,looks,O5,Op.operands,Call.operands,kd,Ud,List.filterMap_cons,List.filterMap_nil,List.append_nil,List.nil_append,List.cons_append,Ji,stable,Jl,J4,Jt,waits,Yr,List.all_cons,List.all_nil,List.any_cons,List.any_nil,Region.binds,Bool.or_true,Bool.true_or,Bool.and_true,Bool.true_and,Bool.or_false,Bool.false_or,Bool.and_self,Bool.or_self,Jc,Nat.le_refl,Nat.le_add_right,List.map_cons,Array.toList_append,Z7,f,stG,Y6,t1,d1,d2,kj,hb,bl,yl,Nat.zero_add,Ed,List.map_cons,List.map_nil,List.cons_append,List.nil_append,hzz,zl,hs0,gl0,nA,bA,hsA,glA,read1,Zw]<;>rfl))
  have c2:=hF hB (fun m hm ho=>(kB m ho).trans (kA m hm))
  have pB:=(kB pD ⟨by omega,by omega,by omega,by omega,by omega⟩).trans ((kA _ pl).trans hp)
  iterate 2 (first|apply Goes.seq|(apply Goes.ops2 fits Hh (Zy Zc c2); · simp (maxSteps:=9^6) +decide (disch:=first|omega|(simp only[lens]<;>omega)|decide) only [go_sem,Za,simprocAttr,Z7,f,stG,Y6,t1,d1,d2,kj,hb,bl,yl,Nat.zero_add,Ed,List.map_cons,List.map_nil,List.cons_append,List.nil_append,hzz,zl,hs0,gl0,nA,bA,hsA,glA,read1,Zw]<;>rfl))
  refine Goes.abs fun hC eC=>?_
  have nC:hC.next=h.next+1+1:=by rw[eC,H.Zg,nB,nA]
  have kC:∀ m,m<h.next→Off n q m→m≠pD→hC.get m=h.get m:=fun m hm ho hne=>by rw[eC,Zp hne]; exact (kB m ho).trans (kA m hm)
  have pC:hC.get pD=some (.row 3 Z' false):=by rw[eC,Z9]
  have MC:=MB.keep (h2:=hC) (by rw[eC,H.Zg]; omega) (fun m hm=>by rw[eC,Zp (by omega)])
  clear eC
  obtain⟨stC,hsC,glC⟩:=hsg MC
  unfold gdL gdN at glC
  have c3:=hWD pC
  iterate 8 (first|apply Goes.seq|apply Goes.ret|((first|apply Goes.Zr|apply Goes.ops2 fits Hh (Zy (Zh Zc (fun _ _ _ _=>U6 Hh)) c3)); · simp (maxSteps:=9^6) +decide (disch:=first|omega|(simp only[lens]<;>omega)|decide) only [go_sem,Za,simprocAttr,Z7,f,stG,Y6,t1,d1,d2,kj,hb,bl,yl,Nat.zero_add,Ed,List.map_cons,List.map_nil,List.cons_append,List.nil_append,hzz,zl,hs0,gl0,nA,bA,hsA,glA,nC,pC,hsC,glC,stC,read1,Zw]<;>rfl))
  refine⟨_,_,(by simp (maxSteps:=9^6) +decide (disch:=first|omega|(simp only[lens]<;>omega)|decide) only [go_sem,Za,simprocAttr]<;>rfl),rfl,MC.keep ?_ (fun m hm=>?_),?_,fun m hm ho hne=>?_⟩
  ·first|omega|(simp only[H.Zg,H.Zd]<;>omega)
  ·(first|(simp (discharger:=omega) only [H.get_put,H.Zi,H.Zm,H.Zd,H.Zg,H.Zj,if_neg]; done)|(simp only[H.get_put,H.Zi,H.Zm,H.Zd,H.Zg,H.Zj]; (repeat' split)<;>first|rfl|(exfalso; omega)|omega))
  ·first|omega|(simp only[H.Zg,H.Zd]<;>omega)
  ·refine Eq.trans ?_ (kC m hm ho hne); (first|(simp (discharger:=omega) only [H.get_put,H.Zi,H.Zm,H.Zd,H.Zg,H.Zj,if_neg]; done)|(simp only[H.get_put,H.Zi,H.Zm,H.Zd,H.Zg,H.Zj]; (repeat' split)<;>first|rfl|(exfalso; omega)|omega))
 exact⟨h',cc,M',nn,hkk⟩
end
end Go.Proofs.YtngejdlimkgjfaaGreatDoor
set_option maxRecDepth 100000
set_option maxHeartbeats 4000000
namespace Go.Proofs.YtngejdlimkgjfaaGreatDoor
open Go.Ev
theorem Ztz {a b c e k l g s nx:Nat} {ps:List Nat} {lc:J9} {L:List (List C)} {U:Nat→List Nat} (F:Fine a b c e) (see:Zdc a b c e lc L U) {z z2:Int} (h:1≤z∧z≤((a * c:Nat):Int)) (ne:z≠z2) (pl:ps.length=11):gI a b c e (U1 U (Jv b c e (z.toNat - 1)) (Gv (U (Jv b c e (z.toNat - 1))) (Gy c (z.toNat - 1)) k l g s ps nx)) z2=gI a b c e U z2:=by
 have sl:=(see (z.toNat - 1) (by omega)).2
 unfold gI
 by_cases h2:1≤z2∧z2≤((a * c:Nat):Int)
 ·rw[if_pos h2,if_pos h2]
  unfold U1
  by_cases q:Jv b c e (z2.toNat - 1)=Jv b c e (z.toNat - 1)
  ·have p:=Zxa F (show z2.toNat - 1≠z.toNat - 1 by omega) q
   have c1:=E8 c (z.toNat - 1)
   have c2:=E8 c (z2.toNat - 1)
   rw[if_pos q,q,Znu (by rw[sl]; omega) (by rw[sl]; omega) pl p]
  ·rw[if_neg q]
 ·rw[if_neg h2,if_neg h2]
section
variable (Hh:Hearts K Tryz.prog)
include Hh
variable {n q a b c e w:Nat} {cr md:Int} {kn:Bool} {lc:J9} {L:List (List C)} {h:Go.Ev.H}
theorem Zx0 (f:Jm a b c e=true) (M:MhE n q a b c e cr md w kn lc L h) (wc:(w:Int)<cr) {U:Nat→List Nat} (see:Zdc a b c e lc L U) (z:Int) {k l g s p0 p1 p2 p3 p4 p5 p6 p7 p8 p9 p10 nx:Int} (gb:0≤g∧g<4294967296) (pb:∀ v∈[p0,p1,p2,p3,p4,p5,p6,p7,p8,p9,p10],0≤v∧v<4294967296) (nb:0≤nx∧nx<4294967296) :
  ∃ h' r kn' w' lc' U',Ze K Tryz.prog 10 [.c (.ptr (n+13) 0),.c (.int .i64 z),.g (Gw k l g s p0 p1 p2 p3 p4 p5 p6 p7 p8 p9 p10 nx)] h (.w (.c (.int .i64 r))) h'∧MhE n q a b c e cr md w' kn' lc' L h'∧w'≤w+1∧Zdc a b c e lc' L U'∧h.next≤h'.next∧(∀ m,m<h.next→Off n q m→h'.get m=h.get m) ∧
   (∀ (z:Nat) (x:List C),(∀ j,j<a * c→Jv b c e j≠z)→At lc L z x→At lc' L z x) ∧
   (r=0∧Qe k l s p0 p1 p2 p3 p4 p5 p6 p7 p8 p9 p10 nx=true∧gI a b c e U' z=(Gw k l g s p0 p1 p2 p3 p4 p5 p6 p7 p8 p9 p10 nx,0)∨(r=2∨r=70)∧gI a b c e U' z=gI a b c e U z)∧∀ z2,z≠z2→gI a b c e U' z2=gI a b c e U z2:=by
 have F:=Z0 f
 by_cases hz:1≤z∧z≤((a * c:Nat):Int)
 ·cases hm:Qe k l s p0 p1 p2 p3 p4 p5 p6 p7 p8 p9 p10 nx with
  | false =>
   obtain⟨h',cc,rd⟩:=Z26 Hh f M hz (g:=g) hm
   exact⟨h',70,kn,w,lc,U,cc,M.rd rd,by omega,see,rd.1,fun m hm ho=>rd.2.1 m hm ho.1,fun _ _ _ h=>h,.inr ⟨.inr rfl,rfl⟩,fun _ _=>rfl⟩
  | true =>
   obtain⟨k1,k2,l1,l2,s1,s2⟩:=Zro hm
   obtain⟨j,hj⟩:∃ j,z.toNat - 1=j:=⟨_,rfl⟩
   have hz':=hz
   obtain⟨z1,z2⟩:=hz
   obtain rfl:z=((j+1:Nat):Int):=by omega
   have jl:j<a * c:=by omega
   obtain⟨k,rfl⟩:=Int.eq_ofNat_of_zero_le k1
   obtain⟨l,rfl⟩:=Int.eq_ofNat_of_zero_le l1
   obtain⟨s,rfl⟩:=Int.eq_ofNat_of_zero_le s1
   obtain⟨g,rfl⟩:=Int.eq_ofNat_of_zero_le gb.1
   obtain⟨nx,rfl⟩:=Int.eq_ofNat_of_zero_le nb.1
   have bb:∀ v,v∈[p0,p1,p2,p3,p4,p5,p6,p7,p8,p9,p10]→∃ w:Nat,v=(w:Int)∧w<4294967296:=fun v hv=>by
    obtain⟨v1,v2⟩:=pb v hv
    exact⟨v.toNat,by omega,by omega⟩
   obtain⟨p0,rfl,b0⟩:=bb p0 (by simp)
   obtain⟨p1,rfl,b1⟩:=bb p1 (by simp)
   obtain⟨p2,rfl,b2⟩:=bb p2 (by simp)
   obtain⟨p3,rfl,b3⟩:=bb p3 (by simp)
   obtain⟨p4,rfl,b4⟩:=bb p4 (by simp)
   obtain⟨p5,rfl,b5⟩:=bb p5 (by simp)
   obtain⟨p6,rfl,b6⟩:=bb p6 (by simp)
   obtain⟨p7,rfl,b7⟩:=bb p7 (by simp)
   obtain⟨p8,rfl,b8⟩:=bb p8 (by simp)
   obtain⟨p9,rfl,b9⟩:=bb p9 (by simp)
   obtain⟨p10,rfl,b10⟩:=bb p10 (by simp)
   have pb':∀ v∈[p0,p1,p2,p3,p4,p5,p6,p7,p8,p9,p10],v<4294967296:=fun v hv=>by
    simp only[List.mem_cons,List.not_mem_nil,or_false] at hv
    rcases hv with rfl|rfl|rfl|rfl|rfl|rfl|rfl|rfl|rfl|rfl|rfl<;>assumption
   have kb:k<256:=by omega
   have lb:l<65536:=by omega
   have sb:s<4294967296:=by omega
   have gb':g<4294967296:=by omega
   have nb':nx<4294967296:=by omega
   obtain⟨sj,sl⟩:=see j jl
   obtain⟨h',cc,M',hn,hk⟩:=Z4f Hh f M wc jl sj sl kb lb gb' sb pb' nb' hm
   have pc:=E8 c j
   have e1:gI a b c e (U1 U (Jv b c e j) (Gv (U (Jv b c e j)) (Gy c j) k l g s [p0,p1,p2,p3,p4,p5,p6,p7,p8,p9,p10] nx)) ((j+1:Nat):Int)=(Gw k l g s p0 p1 p2 p3 p4 p5 p6 p7 p8 p9 p10 nx,0):=by
    unfold gI
    rw[if_pos hz',hj]
    unfold U1
    rw[if_pos rfl,Zne (by rw[sl]; omega) kb lb gb' sb pb' nb' hm]
   refine⟨h',0,false,w+1,_,U1 U (Jv b c e j) (Gv (U (Jv b c e j)) (Gy c j) k l g s [p0,p1,p2,p3,p4,p5,p6,p7,p8,p9,p10] nx),cc,M',Nat.le_refl _,see.upd _ (by rw[Vm (by rw[sl]; omega),sl]),hn,hk,fun z x ne h=>h.upd (Ne.symm (ne j jl)),.inl ⟨rfl,rfl,e1⟩,fun z2 ne=>?_⟩
   have:=Ztz (k:=k) (l:=l) (g:=g) (s:=s) (nx:=nx) (ps:=[p0,p1,p2,p3,p4,p5,p6,p7,p8,p9,p10]) F see hz' ne rfl
   rw[hj] at this
   exact this
 ·obtain⟨h',cc,rd⟩:=Z3v Hh f M hz (y:=Gw k l g s p0 p1 p2 p3 p4 p5 p6 p7 p8 p9 p10 nx) rfl
  exact⟨h',2,kn,w,lc,U,cc,M.rd rd,by omega,see,rd.1,fun m hm ho=>rd.2.1 m hm ho.1,fun _ _ _ h=>h,.inr ⟨.inl rfl,rfl⟩,fun _ _=>rfl⟩
end
end Go.Proofs.YtngejdlimkgjfaaGreatDoor
