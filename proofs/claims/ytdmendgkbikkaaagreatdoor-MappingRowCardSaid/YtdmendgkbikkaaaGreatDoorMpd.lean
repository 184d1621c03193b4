/- mapping.take, and the steps of mapping.down, over any store whose handle is open. -/
import Derived.Test.YtdmendgkbikkaaaGreatDoorMpg
set_option linter.unusedSimpArgs false
set_option linter.unusedVariables false
set_option linter.unusedSectionVars false
set_option maxRecDepth 100000
set_option maxHeartbeats 4000000
namespace Go.Proofs.YtdmendgkbikkaaaGreatDoor
open Go.Ev
theorem ty227:K.types.get 227=some ti227:=by kernel_rfl
theorem sz227:ti227.size=1:=by rfl
theorem ag227:ti227.agg=false:=by rfl
attribute [go_sem] ty227 sz227 ag227
theorem rs56:Tryz.f56.results.toList=[.tmp 6,.tmp 7]:=rfl
theorem rs118:Tryz.f118.results.toList=[.tmp 8,.tmp 9,.tmp 10]:=rfl
attribute [go_sem] rs56 rs118
theorem Zws {ts:Zw} {h:Go.Ev.H} (t:Go.TypeId) (x:Go.Operand) (lo hi:Option Go.Operand):Ul K ts h (.slice t x lo hi none)=Ou h (Na K h (K.types.get t) (Zx K ts x) (Mo K ts lo) (Mo K ts hi)):=rfl
attribute [go_sem] Zws
theorem Z3o (c:C):read1 1 [[c]] 0=some c:=rfl
def zer0:List Nat:=List.replicate 256 0
theorem Zbk:zer0.length=256:=rfl
theorem Z1v:pgL zer0=List.replicate 256 (.int .u8 0):=by kernel_rfl
structure AlcV (n q a b c e:Nat) (cr:Cr) (md:Int) (S:List Nat) (Al:(Nat→List Nat)→Nat→Prop) (blk:Nat→Nat) (cap:Nat) (mt nk:Nat→Prop):Prop where
 take:∀ {V:Nat→List Nat} {h:Go.Ev.H} {T:List Nat} {m near:Nat},HE n q a b c e cr md S T V h→Al V m→m<cap→nk near→(∀ z,mt z→z ∉ T)→∃ h' V',Zg 117 [.c (.ptr (n+13) 0),.c (.int .i64 (near:Int))] h (.tup [.c (.int .i64 (blk m:Nat)),.c (.int .i64 0)]) h'∧HE n q a b c e cr md S T V' h'∧Kp n q h h'∧Al V' (m+1)∧∀ z,¬ mt z→V' z=V z
 upd:∀ {V:Nat→List Nat} {m z:Nat} {x:List Nat},Al V m→¬ mt z→Al (Zci V z x) m
 our4:∀ m,m<cap→Og a b c e (blk m:Nat)=true∧blk m<2+e+a * b∧0<blk m∧¬ mt (blk m)
 inj:∀ m m',m<cap→m'<cap→blk m=blk m'→m=m'
structure AlcW (n q a b c e:Nat) (cr:Cr) (md:Int) (S:List Nat) (Al:(Nat→List Nat)→Nat→Prop) (blk:Nat→Nat) (cap:Nat) (mt nk:Nat→Prop):Prop extends AlcV n q a b c e cr md S Al blk cap mt nk where
 sS:∀ m,m<cap→blk m∈S
theorem AlcW.ours {n q a b c e:Nat} {cr:Cr} {md:Int} {S:List Nat} {Al:(Nat→List Nat)→Nat→Prop} {blk:Nat→Nat} {cap:Nat} {mt nk:Nat→Prop} (A:AlcW n q a b c e cr md S Al blk cap mt nk) (m:Nat) (h:m<cap):Og a b c e (blk m:Nat)=true∧blk m<2+e+a * b∧0<blk m∧¬ mt (blk m)∧blk m∈S:=by
 obtain⟨o1,o2,o3,o4⟩:=A.our4 m h
 exact⟨o1,o2,o3,o4,A.sS m h⟩
structure Alc (n q a b c e:Nat) (cr:Cr) (md:Int) (S:List Nat) (Al:(Nat→List Nat)→Nat→Prop) (blk:Nat→Nat) (cap:Nat) (mt nk:Nat→Prop):Prop extends AlcW n q a b c e cr md S Al blk cap mt nk where
 near:nk 0∧∀ m,m<cap→nk (blk m)
section
variable (Hh:Hearts K Tryz.prog)
include Hh
variable {n q a b c e:Nat} {cr:Cr} [Opn cr] {md:Int} {S T:List Nat} {V:Nat→List Nat} {h:Go.Ev.H} {Al:(Nat→List Nat)→Nat→Prop} {blk:Nat→Nat} {cap:Nat} {mt nk:Nat→Prop} {m:Nat}
theorem Zwg (f:Y2 a b c e=true) (A:AlcV n q a b c e cr md S Al blk cap mt nk) {lv:Nat} (lS:0<lv→blk m∈S) (M:HE n q a b c e cr md S T V h) (al:Al V m) (mc:m<cap) {near:Nat} (nr:nk near) (hT:∀ z,mt z→z ∉ T) (bT:blk m ∉ T) (lv8:lv≤8) :
  ∃ h' V',Zg 56 [.c (.ptr (n+13) 0),.c (.int .i64 (lv:Int)),.c (.int .i64 (near:Int))] h (.tup [.c (.int .i64 (blk m:Nat)),.c (.int .i64 0)]) h'∧HE n q a b c e cr md S T V' h'∧Kp n q h h'∧Al V' (m+1)∧(∀ z,¬ mt z→z≠blk m→V' z=V z)∧(0<lv→V' (blk m)=zer0):=by
 obtain⟨o1,o2,o3,o4⟩:=A.our4 m mc
 obtain⟨hA,V1,c1,MA,kA,alA,vA⟩:=A.take M al mc nr hT
 by_cases l0:lv=0
 ·subst l0
  have d0:decide ((((0:Nat):Int)) > 0)=false:=rfl
  obtain⟨v,h',cc,rfl,rfl⟩:∃ v h',Zg 56 [.c (.ptr (n+13) 0),.c (.int .i64 ((0:Nat):Int)),.c (.int .i64 (near:Int))] h v h'∧v=.tup [.c (.int .i64 (blk m:Nat)),.c (.int .i64 0)]∧h'=hA:=by
   refine Jd Hh Tryz.f56 ?_
   have Jf:=@d0
   iterate 3 (first|apply Zp|refine Zy Hh Za Zq ?_)
   iterate 14 (first|apply Zp|apply Z6|apply Yb|refine Goes.Zn Zq ?_|refine Zy Hh (Zu Za c1) Zq ?_)
   exact⟨_,_,Zj,rfl,rfl⟩
  exact⟨_,V1,cc,MA,kA,alA,fun z hz _=>vA z hz,fun w=>absurd w (by omega)⟩
 ·have d0:decide ((lv:Int) > 0)=true:=decide_eq_true (by omega)
  obtain⟨hB,e5,MB,nB,kB⟩:=MA.put f o1 o2 Zbk (lS (by omega)) bT
  have c5:=Zbe Hh e5
  rw[Z1v] at c5
  obtain⟨v,h',cc,rfl,rfl⟩:∃ v h',Zg 56 [.c (.ptr (n+13) 0),.c (.int .i64 (lv:Int)),.c (.int .i64 (near:Int))] h v h'∧v=.tup [.c (.int .i64 (blk m:Nat)),.c (.int .i64 0)]∧h'=hB:=by
   refine Jd Hh Tryz.f56 ?_
   have Jf:=@d0
   iterate 3 (first|apply Zp|refine Zy Hh Za Zq ?_)
   iterate 11 (first|apply Zp|apply Z6|refine Goes.Zn Zq ?_|refine Zy Hh (Zu Za c1) Zq ?_)
   iterate 8 (first|apply Zp|apply Z6|apply Yb|refine Goes.Zn Zq ?_|refine Zy Hh (Zu Za c5) Zq ?_)
   exact⟨_,_,Zj,rfl,rfl⟩
  refine⟨_,Zci V1 (blk m) zer0,cc,MB,⟨by have:=kA.1; omega,fun p hp ho=>(kB p ho.1).trans (kA.2 p hp ho)⟩,A.upd alA o4,fun z hz hne=>by rw[Bf hne]; exact vA z hz,fun _=>Bv ..⟩
variable {p4 p11 p o k:Nat} {L:List Nat}
theorem Zdw (b0:Nat) (fr:Bool) (p o:Nat):Zg 118 [.c (.int .i64 (b0:Int)),.c (.slice p o 0 1),.c (.bool fr),.c (.ptr p4 0),.c (.ptr p11 0)] h (.tup [.c (.int .i64 (b0:Int)),.c (.bool fr),.c (.int .i64 0)]) h:=by
 have lf:=Vv p o 0
 refine fnG Hh Tryz.f118 ?_
 have Jf:=@lf
 iterate 9 (first|apply Zp|apply Yb|refine Goes.Zn Je ?_|refine Zy Hh Za Je ?_)
 exact Zj
theorem Zxf (b0:Nat) (fr:Bool):Zg 118 [.c (.int .i64 (b0:Int)),.c .snil,.c (.bool fr),.c (.ptr p4 0),.c (.ptr p11 0)] h (.tup [.c (.int .i64 (b0:Int)),.c (.bool fr),.c (.int .i64 0)]) h:=by
 have lf:=Zjp
 refine fnG Hh Tryz.f118 ?_
 have Jf:=@lf
 iterate 9 (first|apply Zp|apply Yb|refine Goes.Zn Je ?_|refine Zy Hh Za Je ?_)
 exact Zj
theorem Z1b (f:Y2 a b c e=true) (M:HE n q a b c e cr md S T V h) {b0 w:Nat} (ob:Og a b c e (b0:Nat)=true) (bl:b0<2+e+a * b) (w6:w<64) (nz:Y5 (V b0) (4 * w)≠0) (fr:Bool)
  (h4:h.get p4=some (.row 1 [[.ptr (n+13) 0]] false)) (h11:h.get p11=some (.row 1 [[.fn 118 [] [some (p4,0),some (p11,0)]]] false)) (hp:h.get p=some (.row 1 (rwI L) false)) (hw:L[o]? = some w) (b4:q+9≤p4∧p4<h.next) (b11:q+9≤p11∧p11<h.next) (bp:q+9≤p∧p<h.next) (k8:k≤8) {Q:Go.Ev.H→Prop} {r1:Nat} {r2:Bool}
  (rec:∀ h1,HE n q a b c e cr md S T V h1→Kr n q h h1→∃ h2,Zg 118 [.c (.int .i64 (Y5 (V b0) (4 * w):Nat)),.c (.slice p (o+1) k 1),.c (.bool false),.c (.ptr p4 0),.c (.ptr p11 0)] h1 (.tup [.c (.int .i64 (r1:Int)),.c (.bool r2),.c (.int .i64 0)]) h2∧h1.next≤h2.next∧Q h2) :
  ∃ h',Zg 118 [.c (.int .i64 (b0:Int)),.c (.slice p o (k+1) 1),.c (.bool fr),.c (.ptr p4 0),.c (.ptr p11 0)] h (.tup [.c (.int .i64 (r1:Int)),.c (.bool r2),.c (.int .i64 0)]) h'∧Q h':=by
 obtain⟨nq,nx,n0⟩:=M.nx
 obtain⟨hG,eG,MG,nG,rG⟩:=M.get f ob bl
 have c3:=F3 Hh eG
 have vl:=M.len ob bl
 have Yl:(pgL (V b0)).length=256:=by rw[Da,vl]
 have cP:=fun {h:Go.Ev.H} {p:Nat} (hp:h.get p=some (.row 256 [pgL (V b0)] false))=>Z0k Hh vl hp w6
 have rd:=rdI hw
 have lf:=Vv p o (k+1)
 have sf:=Zj6 p o (k+1) 1
 obtain⟨z,hz⟩:∃ z,Y5 (V b0) (4 * w)=z:=⟨_,rfl⟩
 obtain⟨Y,hY⟩:∃ Y,pgL (V b0)=Y:=⟨_,rfl⟩
 rw[hY] at c3 Yl
 simp only[hz,hY] at cP rec
 rw[hz] at nz
 have ez:((z:Int) == 0)=false:=Bl (by omega)
 have kz:(((k+1:Nat):Int) == 0)=false:=Bl (by omega)
 obtain⟨R,hR⟩:∃ R,rwI L=R:=⟨_,rfl⟩
 rw[hR] at hp rd
 refine F5 ?_
 refine Jd Hh Tryz.f118 ?_
 have Jf:=Uc @lf @sf (Ur @kz @h4 @Z3o @rd @Yl @ez @Nat.add_zero @Nat.mul_one @Nat.add_sub_cancel)
 iterate 8 (first|apply Zp|apply Z6|refine Goes.Zn Ob ?_|refine Zy Hh Za Ob ?_)
 iterate 7 (first|apply Zp|apply Z6|refine Goes.Zn Ob ?_|refine Zy Hh (Zu Za c3) Ob ?_)
 refine Dc fun hA eA=>?_
 have nA:hA.next=h.next+1:=by rw[eA]; simp only[H.Zf,H.Zc,nG]
 have kA:∀ m,m<h.next→m≠n+6→hA.get m=h.get m:=fun m hm hne=>by rw[eA]; refine Eq.trans ?_ (rG m hm hne); exact Jg
 have bA:hA.get h.next=some (.row 256 [Y] false):=by rw[eA,←nG]; exact Z5
 have MA:=MG.keep (h2:=hA) (by omega) (fun m hm=>by rw[eA]; exact Jg)
 clear eA
 have a4:=(kA p4 (by omega) (by omega)).trans h4
 have a11:=(kA p11 (by omega) (by omega)).trans h11
 have ap:=(kA p (by omega) (by omega)).trans hp
 have c6:=cP bA
 rw[←nG] at c6
 obtain⟨hB,c19,nB,hQ⟩:=rec hA MA ⟨by omega,kA⟩
 have Jf:=Uc Jf @a11 @ap
 iterate 9 (first|apply Zp|apply Z6|refine Goes.Zn Ob ?_|refine Zy Hh (Zu Za c6) Ob ?_)
 iterate 2 (first|apply Yb|refine Ms Hh (Zu Za c19) Zd3 ?_)
 exact⟨_,_,Zj,rfl,hQ⟩
theorem Xb (f:Y2 a b c e=true) (A:AlcV n q a b c e cr md S Al blk cap mt nk) (kS:0<k→blk m∈S) (M:HE n q a b c e cr md S T V h) (al:Al V m) (mc:m<cap) (hT:∀ z,mt z→z ∉ T) (bT:blk m ∉ T) {b0 w:Nat} (ob:Og a b c e (b0:Nat)=true) (bl:b0<2+e+a * b) (bk:nk b0) (bm:¬ mt b0) (bS:b0∈S∧b0 ∉ T) (bn:b0≠blk m) (w6:w<64) (nz:Y5 (V b0) (4 * w)=0) (fr:Bool)
  (h4:h.get p4=some (.row 1 [[.ptr (n+13) 0]] false)) (h11:h.get p11=some (.row 1 [[.fn 118 [] [some (p4,0),some (p11,0)]]] false)) (hp:h.get p=some (.row 1 (rwI L) false)) (hw:L[o]? = some w) (b4:q+9≤p4∧p4<h.next) (b11:q+9≤p11∧p11<h.next) (bp:q+9≤p∧p<h.next) (k8:k≤8) (b32:blk m<4096) {Q:Go.Ev.H→Prop} {r1:Nat} {r2:Bool}
  (rec:∀ h1 V',HE n q a b c e cr md S T (Zci V' b0 (Jh (V b0) (4 * w) (blk m))) h1→Al (Zci V' b0 (Jh (V b0) (4 * w) (blk m))) (m+1)→(∀ z,¬ mt z→z≠blk m→V' z=V z)→(0<k→V' (blk m)=zer0)→Kp n q h h1→∃ h2,Zg 118 [.c (.int .i64 (blk m:Nat)),.c (.slice p (o+1) k 1),.c (.bool true),.c (.ptr p4 0),.c (.ptr p11 0)] h1 (.tup [.c (.int .i64 (r1:Int)),.c (.bool r2),.c (.int .i64 0)]) h2∧h1.next≤h2.next∧Q h2) :
  ∃ h',Zg 118 [.c (.int .i64 (b0:Int)),.c (.slice p o (k+1) 1),.c (.bool fr),.c (.ptr p4 0),.c (.ptr p11 0)] h (.tup [.c (.int .i64 (r1:Int)),.c (.bool r2),.c (.int .i64 0)]) h'∧Q h':=by
 obtain⟨nq,nx,n0⟩:=M.nx
 obtain⟨hG,eG,MG,nG,rG⟩:=M.get f ob bl
 have c3:=F3 Hh eG
 have vl:=M.len ob bl
 have Yl:(pgL (V b0)).length=256:=by rw[Da,vl]
 have cP:=fun {h:Go.Ev.H} {p:Nat} (hp:h.get p=some (.row 256 [pgL (V b0)] false))=>Z0k Hh vl hp w6
 have hTk:=fun {h:Go.Ev.H} (M:HE n q a b c e cr md S T V h)=>Zwg Hh f A kS M al mc bk hT bT k8
 have pl:(Jh (V b0) (4 * w) (blk m)).length=256:=by rw[Zav]; exact vl
 have xb:=Zbq (V b0)
 have u4:pgL (Jh (unN (pgL (V b0))) (4 * w) (blk m))=pgL (Jh (V b0) (4 * w) (blk m)):=by rw[Ga,V7]
 have rl:(pgL (Jh (V b0) (4 * w) (blk m))).length=256:=by rw[Da,pl]
 have r5:read1 256 [pgL (V b0)] 255=some (.int .u8 ((atN (V b0) 255:Nat):Int)):=Zw4 ⟨by omega,by omega⟩
 have rc:reaches 0 256 (some (.row 256 [pgL (V b0)] false))=true:=by
  show (match read1 256 [pgL (V b0)] 255 with|some _=>Nat.ble 1 256|none=>false)=true
  rw[r5]
  rfl
 have rd:=rdI hw
 have lf:=Vv p o (k+1)
 have sf:=Zj6 p o (k+1) 1
 have e1:(4:Int) * (w:Int)=((4 * w:Nat):Int):=rfl
 have kz:(((k+1:Nat):Int) == 0)=false:=Bl (by omega)
 have k1:((k+1:Nat):Int) - 1=(k:Int):=by omega
 have ez:(((0:Nat):Int) == 0)=true:=rfl
 obtain⟨X,hX⟩:∃ X,Jh (V b0) (4 * w) (blk m)=X:=⟨_,rfl⟩
 obtain⟨u,hu⟩:∃ u,4 * w=u:=⟨_,rfl⟩
 have ul:u+4≤256:=by omega
 obtain⟨Y,hY⟩:∃ Y,pgL (V b0)=Y:=⟨_,rfl⟩
 obtain⟨G,hG'⟩:∃ G,blk m=G:=⟨_,rfl⟩
 rw[hX] at pl u4 rl
 rw[hu] at u4 e1
 rw[hY] at c3 Yl xb u4 rc
 simp only[nz,hY] at cP
 simp only[hX] at rec
 rw[hG'] at u4 b32 bn
 simp only[hG'] at rec hTk
 obtain⟨Z,hZ⟩:∃ Z,pgL X=Z:=⟨_,rfl⟩
 rw[hZ] at u4 rl
 obtain⟨R,hR⟩:∃ R,rwI L=R:=⟨_,rfl⟩
 rw[hR] at hp rd
 refine F5 ?_
 refine Jd Hh Tryz.f118 ?_
 have Jf:=Qu @lf @sf @kz @k1 @h4 (Ur @Z3o @rd @Yl @ez @e1 @Nat.zero_add @Nat.add_zero @Nat.mul_one @Nat.add_sub_cancel)
 iterate 8 (first|apply Zp|apply Z6|refine Goes.Zn Ob ?_|refine Zy Hh Za Ob ?_)
 iterate 7 (first|apply Zp|apply Z6|refine Goes.Zn Ob ?_|refine Zy Hh (Zu Za c3) Ob ?_)
 refine Dc fun hA eA=>?_
 have nA:hA.next=h.next+1:=by rw[eA]; simp only[H.Zf,H.Zc,nG]
 have kA:∀ m,m<h.next→m≠n+6→hA.get m=h.get m:=fun m hm hne=>by rw[eA]; refine Eq.trans ?_ (rG m hm hne); exact Jg
 have bA:hA.get h.next=some (.row 256 [Y] false):=by rw[eA,←nG]; exact Z5
 have MA:=MG.keep (h2:=hA) (by omega) (fun m hm=>by rw[eA]; exact Jg)
 clear eA
 have a4:=(kA p4 (by omega) (by omega)).trans h4
 have a11:=(kA p11 (by omega) (by omega)).trans h11
 have ap:=(kA p (by omega) (by omega)).trans hp
 have c6:=cP bA
 rw[←nG] at c6
 obtain⟨hB,V',c9,MB,kB,alB,vB,zB⟩:=hTk MA
 have nB:=kB.1
 have bb4:=(kB.2 p4 (by omega) ⟨⟨by omega,by omega,by omega,by omega,by omega⟩,by omega⟩).trans a4
 have bb11:=(kB.2 p11 (by omega) ⟨⟨by omega,by omega,by omega,by omega,by omega⟩,by omega⟩).trans a11
 have bbp:=(kB.2 p (by omega) ⟨⟨by omega,by omega,by omega,by omega,by omega⟩,by omega⟩).trans ap
 have bbA:=(kB.2 h.next (by omega) ⟨⟨by omega,by omega,by omega,by omega,by omega⟩,by omega⟩).trans bA
 obtain⟨hC,eC,MC,nC,rC⟩:=MB.get f ob bl
 rw[vB b0 bm bn,hY] at eC
 have c12:=F3 Hh eC
 have cc4:=(rC p4 (by omega) (by omega)).trans bb4
 have cc11:=(rC p11 (by omega) (by omega)).trans bb11
 have ccp:=(rC p (by omega) (by omega)).trans bbp
 have ccA:=(rC h.next (by omega) (by omega)).trans bbA
 have Jf:=Uq Jf (Ur @a4 @a11 @ap @bb4 @cc4 @cc11 @ccp @ccA @nG)
 iterate 9 (first|apply Zp|refine Goes.Zn Ob ?_|refine Zy Hh (Zu Za c6) Ob ?_)
 iterate 7 (first|apply Zp|apply Z6|refine Goes.Zn Ob ?_|refine Zy Hh (Zu Za c9) Ob ?_)
 iterate 6 (first|apply Zp|apply Z6|refine Goes.Zn Ob ?_|refine Zy Hh (Zu Za c12) Ob ?_)
 refine Dc fun hD eD=>?_
 have nD:hD.next=hC.next:=by rw[eD,H.Zf]
 have kD:∀ m,m≠h.next→hD.get m=hC.get m:=fun m hm=>by rw[eD,Zo (by omega)]
 have dA:hD.get h.next=some (.row 256 [Y] false):=by rw[eD]; exact Z5
 clear eD
 have d4:=(kD p4 (by omega)).trans cc4
 have d11:=(kD p11 (by omega)).trans cc11
 have dp:=(kD p (by omega)).trans ccp
 have Jf:=Zd0 Jf @dA @d4 @d11 @dp @xb @u4 @rc
 iterate 2 (first|apply Zp|refine Ms Hh (EY Za (Zil Hh)) Zd3 ?_)
 refine Dc fun hE eE=>?_
 have nE:hE.next=hC.next:=by rw[eE,H.Zf,nD]
 have kE:∀ m,m≠h.next→hE.get m=hC.get m:=fun m hm=>by rw[eE,Zo (by omega)]; exact kD m hm
 have xA:hE.get h.next=some (.row 256 [Z] false):=by rw[eE]; exact Z5
 clear eE
 have x4:=(kE p4 (by omega)).trans cc4
 have x11:=(kE p11 (by omega)).trans cc11
 have xp:=(kE p (by omega)).trans ccp
 have ME:=MC.keep (h2:=hE) (by omega) (fun m hm=>kE m (by omega))
 obtain⟨hF,eF,MF,nF,kF⟩:=ME.put f ob bl pl bS.1 bS.2
 rw[hZ] at eF
 have c16:=Zbe Hh eF
 have y4:=(kF p4 ⟨by omega,by omega,by omega,by omega,by omega⟩).trans x4
 have y11:=(kF p11 ⟨by omega,by omega,by omega,by omega,by omega⟩).trans x11
 have yp:=(kF p ⟨by omega,by omega,by omega,by omega,by omega⟩).trans xp
 obtain⟨hH,c19,nH,hQ⟩:=rec hF V' MF (A.upd alB bm) vB zB ⟨by omega,fun m hm ho=>(kF m ho.1).trans ((kE m (by omega)).trans ((rC m (by omega) ho.1.1).trans ((kB.2 m (by omega) ho).trans (kA m hm ho.1.1))))⟩
 have Jf:=Qu Jf @xA @x4 @y11 @yp @rl
 iterate 6 (first|apply Zp|apply Z6|refine Goes.Zn Ob ?_|refine Zy Hh (Zu Za c16) Ob ?_)
 iterate 2 (first|apply Yb|refine Ms Hh (Zu Za c19) Zd3 ?_)
 exact⟨_,_,Zj,rfl,hQ⟩
end
theorem rs57:Tryz.f57.results.toList=[.tmp 8,.tmp 9,.tmp 10]:=rfl
theorem rs18:Tryz.f18.results.toList=[.cell 8 37,.tmp 9,.tmp 10,.tmp 11]:=rfl
attribute [go_sem] rs57 rs18
section
variable (Hh:Hearts K Tryz.prog)
include Hh
variable {n q a b c e:Nat} {cr:Cr} [Opn cr] {md:Int} {S T:List Nat} {V:Nat→List Nat} {h:Go.Ev.H} {Al:(Nat→List Nat)→Nat→Prop} {blk:Nat→Nat} {cap:Nat} {mt nk:Nat→Prop} {m:Nat}
theorem Zam (M:HE n q a b c e cr md S T V h) {b0:Nat} {s:C} {fr:Bool} {r1:Nat} {r2:Bool} {R:(Nat→List Nat)→Prop}
  (rec:∀ h1 p4 p11,HE n q a b c e cr md S T V h1→h.next≤h1.next→(∀ m,m<h.next→h1.get m=h.get m)→h1.get p4=some (.row 1 [[.ptr (n+13) 0]] false)→h1.get p11=some (.row 1 [[.fn 118 [] [some (p4,0),some (p11,0)]]] false)→q+9≤p4∧p4<h1.next→q+9≤p11∧p11<h1.next→∃ h2,Zg 118 [.c (.int .i64 (b0:Int)),.c s,.c (.bool fr),.c (.ptr p4 0),.c (.ptr p11 0)] h1 (.tup [.c (.int .i64 (r1:Int)),.c (.bool r2),.c (.int .i64 0)]) h2∧Kp n q h1 h2∧∃ V',HE n q a b c e cr md S T V' h2∧R V') :
  ∃ h',Zg 57 [.c (.ptr (n+13) 0),.c (.int .i64 (b0:Int)),.c s,.c (.bool fr)] h (.tup [.c (.int .i64 (r1:Int)),.c (.bool r2),.c (.int .i64 0)]) h'∧Kp n q h h'∧∃ V',HE n q a b c e cr md S T V' h'∧R V':=by
 obtain⟨nq,nx,n0⟩:=M.nx
 refine F5 ?_
 refine Jd Hh Tryz.f57 ?_
 have Jf:=@Z3o
 iterate 7 (first|apply Zp|refine Zy Hh Za Zql ?_)
 refine Dc fun hA eA=>?_
 have nA:hA.next=h.next+1+1:=by rw[eA]; simp only[H.Zf,H.Zc]
 have kA:∀ m,m<h.next→hA.get m=h.get m:=fun m hm=>by rw[eA]; exact Jg
 have a4:hA.get h.next=some (.row 1 [[.ptr (n+13) 0]] false):=by rw[eA]; exact Zj
 have a11:hA.get (h.next+1)=some (.row 1 [[.fn 118 [] [some (h.next,0),some (h.next+1,0)]]] false):=by rw[eA]; exact Zj
 clear eA
 have MA:=M.keep (h2:=hA) (by omega) (fun m hm=>kA m (by omega))
 obtain⟨hB,c3,kB,hR⟩:=rec hA h.next (h.next+1) MA (by omega) kA a4 a11 ⟨by omega,by omega⟩ ⟨by omega,by omega⟩
 have Jf:=Uq Jf @a11
 iterate 2 (first|apply Yb|refine Zy Hh (Zu Za c3) Zql ?_)
 exact⟨_,_,Zj,rfl,⟨by have:=kB.1; omega,fun m hm ho=>(kB.2 m (by omega) ho).trans (kA m hm)⟩,hR⟩
theorem Z12 (f:Y2 a b c e=true) (m0:md≠0) (M:HE n q a b c e cr md S T V h) {x:List C} {P:Nat→Nat} (X:InoP x P) {i:Nat} (hi:i<110) (near:Int) (nz:P (Uk i).1≠0) {r1:Nat} {r2:Bool} {R:(Nat→List Nat)→Prop}
  (dn:∀ h1 s,HE n q a b c e cr md S T V h1→SlI h1 s (Uk i).2→(∀ p o n z,s=.slice p o n z→q+9≤p∧p<h1.next)→∃ h2,Zg 57 [.c (.ptr (n+13) 0),.c (.int .i64 (P (Uk i).1:Nat)),.c s,.c (.bool false)] h1 (.tup [.c (.int .i64 (r1:Int)),.c (.bool r2),.c (.int .i64 0)]) h2∧Kp n q h1 h2∧∃ V',HE n q a b c e cr md S T V' h2∧R V') :
  ∃ h',Zg 18 [.c (.ptr (n+13) 0),.g x,.c (.int .i64 (i:Int)),.c (.int .i64 near)] h (.tup [.g x,.c (.int .i64 (r1:Int)),.c (.bool r2),.c (.int .i64 0)]) h'∧Kp n q h h'∧∃ V',HE n q a b c e cr md S T V' h'∧R V':=by
 obtain⟨nq,nx,n0⟩:=M.nx
 obtain⟨st,⟨kn,hs⟩,⟨dk,gl⟩,ht⟩:=M.cells
 unfold gdL gdD at gl
 have dm:(md != 0)=true:=Zl2 m0
 obtain⟨p11,w6⟩:=Zo9 hi
 have xl:=X.xl
 have rx:=X.rd p11
 have pb:=X.pb _ p11
 have hO:=fun {h:Go.Ev.H} (h0:0<h.next)=>Z3h Hh hi (h:=h) h0
 obtain⟨ws,hws⟩:∃ ws,(Uk i).2=ws:=⟨_,rfl⟩
 obtain⟨pk,hpk⟩:∃ pk,(Uk i).1=pk:=⟨_,rfl⟩
 simp only[hws,hpk] at hO dn p11 rx pb nz
 obtain⟨b0,hb0⟩:∃ b0,P pk=b0:=⟨_,rfl⟩
 simp only[hb0] at rx pb nz dn
 have ez:((b0:Int) == 0)=false:=Bl (by omega)
 refine F5 ?_
 refine Jd Hh Tryz.f18 ?_
 have Jf:=Uq @f (Ur @hs @gl @ht @dm @xl @rx @pb @p11 @ez)
 iterate 8 (first|apply Zp|apply Z6|refine Goes.Zn Ju ?_|refine Zy Hh (EY Za (X8 Hh)) Ju ?_)
 refine Dc fun hA eA=>?_
 have nA:hA.next=h.next+2:=by rw[eA]; simp only[H.Zf,H.Zc]
 have kA:∀ m,m<h.next→hA.get m=h.get m:=fun m hm=>by rw[eA]; exact Jg
 have b5:hA.get h.next=some (.row 16 [x] false):=by rw[eA]; exact Z5
 obtain⟨y,yl,b8⟩:∃ y:List C,y.length=16∧hA.get (h.next+1)=some (.row 16 [y] false):=⟨_,rfl,by rw[eA]; exact Jk⟩
 clear eA
 obtain⟨hB,s,c3,nB,kB,sB,lB⟩:=hO (h:=hA) (by omega)
 have B5:=(kB h.next (by omega)).trans b5
 have B8:=(kB (h.next+1) (by omega)).trans b8
 have MB:=M.keep (h2:=hB) (by omega) (fun m hm=>(kB m (by omega)).trans (kA m (by omega)))
 obtain⟨_,⟨knB,hsB⟩,⟨dkB,glB⟩,htB⟩:=MB.cells
 unfold gdL gdD at glB
 have Jf:=Qv Jf @B5 @B8 @yl @hsB @glB @htB
 iterate 8 (first|apply Zp|apply Z6|refine Goes.Zn Ju ?_|refine Zy Hh (Zu Za c3) Ju ?_)
 iterate 16 (first|apply Zp|apply Z6|refine Goes.Zn Ju ?_|refine Zy Hh (EY Za (Zik Hh)) Ju ?_)
 refine Dc fun hC eC=>?_
 have nC:hC.next=hB.next:=by rw[eC]; simp only[H.Zf]
 have kC:∀ m,m<hB.next→m≠h.next+1→hC.get m=hB.get m:=fun m hm hne=>by rw[eC]; exact Jg
 have C8:hC.get (h.next+1)=some (.row 16 [x] false):=by rw[eC]; exact Z5
 clear eC
 have MC:=MB.keep (h2:=hC) (by omega) (fun m hm=>kC m (by omega) (by omega))
 obtain⟨hD,c17,kD,V',MD,rv⟩:=dn hC s MC (sB.keep fun p o n z e=>kC p (lB p o n z e).2 (by have:=(lB p o n z e).1; omega)) (fun p o n z e=>⟨by have:=(lB p o n z e).1; omega,by have:=(lB p o n z e).2; omega⟩)
 have nD:=kD.1
 have D8:=(kD.2 (h.next+1) (by omega) ⟨⟨by omega,by omega,by omega,by omega,by omega⟩,by omega⟩).trans C8
 have Jf:=Uq Jf @D8
 iterate 8 (first|apply Zp|apply Z6|apply Yb|refine Goes.Zn Ju ?_|refine Zy Hh (Zu Za c17) Ju ?_)
 refine⟨_,_,Z5,rfl,⟨?_,fun m hm ho=>?_⟩,V',MD.keep ?_ (fun m hm=>?_),rv⟩
 ·first|omega|(simp only[H.Zf,H.Zc]<;>omega)
 ·refine Eq.trans ?_ ((kD.2 m (by omega) ho).trans ((kC m (by omega) (by omega)).trans ((kB m (by omega)).trans (kA m hm)))); exact Jg
 ·first|omega|(simp only[H.Zf,H.Zc]<;>omega)
 ·exact Jg
theorem Zwf (f:Y2 a b c e=true) (m0:md≠0) (A:AlcV n q a b c e cr md S Al blk cap mt nk) {i:Nat} (wS:0<(Uk i).2.length→blk m∈S) (M:HE n q a b c e cr md S T V h) (al:Al V m) (mc:m<cap) (hT:∀ z,mt z→z ∉ T) (bT:blk m ∉ T) (b32:blk m<4096) {x:List C} {P:Nat→Nat} (X:InoP x P) (hi:i<110) {near:Nat} (nr:nk near) (nz:P (Uk i).1=0) {r1:Nat} {r2:Bool} {R:(Nat→List Nat)→Prop}
  (dn:∀ h1 s V1,HE n q a b c e cr md S T V1 h1→Al V1 (m+1)→(∀ z,¬ mt z→z≠blk m→V1 z=V z)→(0<(Uk i).2.length→V1 (blk m)=zer0)→SlI h1 s (Uk i).2→(∀ p o n z,s=.slice p o n z→q+9≤p∧p<h1.next)→∃ h2,Zg 57 [.c (.ptr (n+13) 0),.c (.int .i64 (blk m:Nat)),.c s,.c (.bool true)] h1 (.tup [.c (.int .i64 (r1:Int)),.c (.bool r2),.c (.int .i64 0)]) h2∧Kp n q h1 h2∧∃ V',HE n q a b c e cr md S T V' h2∧R V') :
  ∃ h',Zg 18 [.c (.ptr (n+13) 0),.g x,.c (.int .i64 (i:Int)),.c (.int .i64 (near:Int))] h (.tup [.g (x.set (4+(Uk i).1) (.int .u32 (blk m:Nat))),.c (.int .i64 (r1:Int)),.c (.bool r2),.c (.int .i64 0)]) h'∧Kp n q h h'∧∃ V',HE n q a b c e cr md S T V' h'∧R V':=by
 obtain⟨nq,nx,n0⟩:=M.nx
 obtain⟨st,⟨kn,hs⟩,⟨dk,gl⟩,ht⟩:=M.cells
 unfold gdL gdD at gl
 have dm:(md != 0)=true:=Zl2 m0
 obtain⟨p11,w6⟩:=Zo9 hi
 have xl:=X.xl
 have rx:=X.rd p11
 have wl:=Zkd i
 have hO:=fun {h:Go.Ev.H} (h0:0<h.next)=>Z3h Hh hi (h:=h) h0
 obtain⟨ws,hws⟩:∃ ws,(Uk i).2=ws:=⟨_,rfl⟩
 obtain⟨pk,hpk⟩:∃ pk,(Uk i).1=pk:=⟨_,rfl⟩
 simp only[hws,hpk] at hO dn p11 rx nz wl wS ⊢
 rw[nz] at rx
 have hTk:=fun {h:Go.Ev.H} (M:HE n q a b c e cr md S T V h)=>Zwg Hh f A wS M al mc nr hT bT wl
 obtain⟨G,hG'⟩:∃ G,blk m=G:=⟨_,rfl⟩
 simp only[hG'] at dn hTk ⊢
 rw[hG'] at b32
 have w8:Z9 16 [x] (4+pk) [.int .u32 (G:Int)]=some [x.set (4+pk) (.int .u32 (G:Int))]:=by
  have h1:(4+pk) / 16=0:=by omega
  have h2:(4+pk) % 16=4+pk:=by omega
  simp only[Z9,h1,h2,List.getElem?_cons_zero]
  rw[Zd8 (by omega),cond_true]
  rfl
 have wU:Yq .u32 (G:Int)=.int .u32 (G:Int):=Zf2 (by omega)
 have x1l:(x.set (4+pk) (.int .u32 (G:Int))).length=16:=by rw[List.length_set]; exact xl
 obtain⟨x1,hx1⟩:∃ x1,x.set (4+pk) (.int .u32 (G:Int))=x1:=⟨_,rfl⟩
 rw[hx1] at w8 x1l ⊢
 have ez:(((0:Nat):Int) == 0)=true:=rfl
 refine F5 ?_
 refine Jd Hh Tryz.f18 ?_
 have Jf:=Ur @f @hs @gl @ht @dm @xl @rx @p11 @ez
 iterate 8 (first|apply Zp|apply Z6|refine Goes.Zn Ju ?_|refine Zy Hh (EY Za (X8 Hh)) Ju ?_)
 refine Dc fun hA eA=>?_
 have nA:hA.next=h.next+2:=by rw[eA]; simp only[H.Zf,H.Zc]
 have kA:∀ m,m<h.next→hA.get m=h.get m:=fun m hm=>by rw[eA]; exact Jg
 have b5:hA.get h.next=some (.row 16 [x] false):=by rw[eA]; exact Z5
 obtain⟨y,yl,b8⟩:∃ y:List C,y.length=16∧hA.get (h.next+1)=some (.row 16 [y] false):=⟨_,rfl,by rw[eA]; exact Jk⟩
 clear eA
 obtain⟨hB,s,c3,nB,kB,sB,lB⟩:=hO (h:=hA) (by omega)
 have B5:=(kB h.next (by omega)).trans b5
 have B8:=(kB (h.next+1) (by omega)).trans b8
 have MB:=M.keep (h2:=hB) (by omega) (fun m hm=>(kB m (by omega)).trans (kA m (by omega)))
 obtain⟨_,⟨knB,hsB⟩,⟨dkB,glB⟩,htB⟩:=MB.cells
 unfold gdL gdD at glB
 obtain⟨lf,ln⟩:=Zwc sB
 have Jf:=Ur Jf @B5 @B8 @yl @hsB @glB @htB @lf @ln
 iterate 8 (first|apply Zp|apply Z6|refine Goes.Zn Ju ?_|refine Zy Hh (Zu Za c3) Ju ?_)
 iterate 15 (first|apply Zp|apply Z6|refine Goes.Zn Ju ?_|refine Zy Hh (EY Za (Zik Hh)) Ju ?_)
 refine Dc fun hC eC=>?_
 have nC:hC.next=hB.next:=by rw[eC]; simp only[H.Zf]
 have kC:∀ m,m<hB.next→m≠h.next+1→hC.get m=hB.get m:=fun m hm hne=>by rw[eC]; exact Jg
 have C8:hC.get (h.next+1)=some (.row 16 [x] false):=by rw[eC]; exact Z5
 clear eC
 have MC:=MB.keep (h2:=hC) (by omega) (fun m hm=>kC m (by omega) (by omega))
 obtain⟨hE,V1,c12,ME,kE,alE,vE,zE⟩:=hTk MC
 have nE:=kE.1
 have E8:=(kE.2 (h.next+1) (by omega) ⟨⟨by omega,by omega,by omega,by omega,by omega⟩,by omega⟩).trans C8
 have Jf:=Oz Jf @E8 @w8 @wU
 iterate 10 (first|apply Zp|apply Z6|refine Goes.Zn Ju ?_|refine Zy Hh (Zu Za c12) Ju ?_)
 refine Dc fun hF eF=>?_
 have nF:hF.next=hE.next:=by rw[eF]; simp only[H.Zf]
 have kF:∀ m,m≠h.next+1→hF.get m=hE.get m:=fun m hne=>by rw[eF,Zo hne]
 have F8:hF.get (h.next+1)=some (.row 16 [x1] false):=by rw[eF,Yg]
 clear eF
 have MF:=ME.keep (h2:=hF) (by omega) (fun m hm=>kF m (by omega))
 obtain⟨hD,c17,kD,V',MD,rv⟩:=dn hF s V1 MF alE vE zE (sB.keep fun p o n' z e=>by
  have l1:=lB p o n' z e
  refine (kF p (by omega)).trans ((kE.2 p (by omega) ⟨⟨by omega,by omega,by omega,by omega,by omega⟩,by omega⟩).trans (kC p l1.2 (by omega)))) (fun p o n z e=>⟨by have:=(lB p o n z e).1; omega,by have:=(lB p o n z e).2; omega⟩)
 have nD:=kD.1
 have D8:=(kD.2 (h.next+1) (by omega) ⟨⟨by omega,by omega,by omega,by omega,by omega⟩,by omega⟩).trans F8
 have Jf:=Uq Jf @D8
 iterate 8 (first|apply Zp|apply Z6|apply Yb|refine Goes.Zn Ju ?_|refine Zy Hh (Zu Za c17) Ju ?_)
 refine⟨_,_,(by have Jf:=Uq @D8 @x1l; exact Z5),rfl,⟨?_,fun m hm ho=>?_⟩,V',MD.keep ?_ (fun m hm=>?_),rv⟩
 ·first|omega|(simp only[H.Zf,H.Zc]<;>omega)
 ·refine Eq.trans ?_ ((kD.2 m (by omega) ho).trans ((kF m (by omega)).trans ((kE.2 m (by omega) ho).trans ((kC m (by omega) (by omega)).trans ((kB m (by omega)).trans (kA m hm)))))); exact Jg
 ·first|omega|(simp only[H.Zf,H.Zc]<;>omega)
 ·exact Jg
end
end Go.Proofs.YtdmendgkbikkaaaGreatDoor
