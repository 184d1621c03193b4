/- Inodes' blocks, as a new image has them. -/
import Derived.Test.YtngejdlimkgjfaaGreatDoorIbk
import Derived.Test.YtngejdlimkgjfaaGreatDoorMak3
import Derived.Test.YtngejdlimkgjfaaGreatDoorMdg
import Derived.Test.YtngejdlimkgjfaaGreatDoorIgu
set_option linter.unusedSimpArgs false
set_option linter.unusedVariables false
set_option linter.unusedSectionVars false
set_option maxRecDepth 100000
set_option maxHeartbeats 4000000
namespace Go.Proofs.YtngejdlimkgjfaaGreatDoor
open Go.Ev
def Jv (b c e j:Nat):Nat:=2+e+j / c * b+2+j % c / 4
def Gy (c j:Nat):Nat:=j % c % 4 * 64
def gI (a b c e:Nat) (U:Nat→List Nat) (z:Int):List C × Int:=if 1≤z∧z≤((a * c:Nat):Int) then Mv (U (Jv b c e (z.toNat - 1))) (Gy c (z.toNat - 1)) else (ino0,2)
def Zye:List Nat:=[2,0,1,0,1,0,0,0]++List.replicate 248 0
def zN:List Nat:=List.replicate 256 0
theorem Z0d:Rv=pgL Zye:=by kernel_rfl
theorem Z4i:zB=pgL zN:=by kernel_rfl
def U0 (e z:Nat):List Nat:=if z=2+e+2 then Zye else zN
def U1 (U:Nat→List Nat) (z1:Nat) (x:List Nat) (z:Nat):List Nat:=if z=z1 then x else U z
theorem Z2m (e z:Nat):(U0 e z).length=256:=by unfold U0; split<;>rfl
theorem Image.at {a b c d:Nat} {L:List (List C)} (I:Image a b c d L) (F:Fine a b c d) {j:Nat} (hj:j<a * c):L[Jv b c d j]? = some (pgL (U0 d (Jv b c d j))):=by
 obtain⟨g1,g2,g3,g4,g5,g6,g7,g8,g9,g10,g11⟩:=F
 have ka:j / c<a:=Nat.div_lt_of_lt_mul (by rw[Nat.mul_comm]; omega)
 have tc:j % c<c:=Nat.mod_lt _ (by omega)
 have q:=I.ti (j / c) (j % c / 4) ka (by omega)
 show L[2+d+j / c * b+2+j % c / 4]? = _
 rw[q]
 unfold U0 Jv
 by_cases h:j / c=0∧j % c / 4=0
 ·rw[if_pos h,if_pos (by rw[h.1,h.2]; omega),Z0d]
 ·have:2+d+j / c * b+2+j % c / 4≠2+d+2:=fun q=>h (by
   rcases Nat.eq_zero_or_pos (j / c) with h1|h1
   ·rw[h1] at q; exact⟨h1,by omega⟩
   ·have:=Nat.mul_le_mul_right b h1; omega)
  rw[if_neg h,if_neg this,Z4i]
theorem E8 (c j:Nat):Gy c j=0∨Gy c j=64∨Gy c j=128∨Gy c j=192:=by unfold Gy; omega
theorem Zxa {a b c e i j:Nat} (F:Fine a b c e) (ne:i≠j) (h:Jv b c e i=Jv b c e j):Gy c i+64≤Gy c j∨Gy c j+64≤Gy c i:=by
 obtain⟨g1,g2,g3,g4,g5,g6,g7,g8,g9,g10,g11⟩:=F
 have t1:i % c<c:=Nat.mod_lt _ (by omega)
 have t2:j % c<c:=Nat.mod_lt _ (by omega)
 have d1:=Nat.div_add_mod i c
 have d2:=Nat.div_add_mod j c
 unfold Jv at h
 unfold Gy
 have k:i / c=j / c:=by
  rcases Nat.lt_trichotomy (i / c) (j / c) with q|q|q
  ·have:=Nat.mul_le_mul_right b (Nat.succ_le_of_lt q)
   rw[Nat.succ_mul] at this
   omega
  ·exact q
  ·have:=Nat.mul_le_mul_right b (Nat.succ_le_of_lt q)
   rw[Nat.succ_mul] at this
   omega
 rw[k] at h d1
 have:i % c≠j % c:=fun q=>ne (d1.symm.trans (by rw[q]; exact d2))
 omega
end Go.Proofs.YtngejdlimkgjfaaGreatDoor
set_option maxRecDepth 100000
set_option maxHeartbeats 4000000
namespace Go.Proofs.YtngejdlimkgjfaaGreatDoor
open Go.Ev
theorem rs13:Tryz.f13.results.toList=[.cell 4 30,.tmp 5]:=rfl
attribute [go_sem] rs13
section
variable (Hh:Hearts K Tryz.prog)
include Hh
variable {n a b c e:Nat} {md:Int} {S:Stt} {X:Tx} {lc:J9} {L:List (List C)} {h:Go.Ev.H}
theorem Z4n (f:Jm a b c e=true) (R:RsE n a b c e md S X lc L h) {j:Nat} (jl:j<a * c) {ns:List Nat} (hx:At lc L (Jv b c e j) (pgL ns)) (nl:ns.length=256) :
  ∃ h',Ze K Tryz.prog 13 [.c (.ptr (n+13) 0),.c (.int .i64 ((j+1:Nat):Int))] h (.tup [.g (Mv ns (Gy c j)).1,.c (.int .i64 (Mv ns (Gy c j)).2)]) h'∧Rd n L h h':=by
 obtain⟨g1,g2,g3,g4,g5,g6,g7,g8,g9,g10,g11⟩:=Z0 f
 have ka:j / c<a:=Nat.div_lt_of_lt_mul (by rw[Nat.mul_comm]; omega)
 have tc:j % c<c:=Nat.mod_lt _ (by omega)
 have st:=Uf (b:=b) ka
 have pc:=E8 c j
 obtain⟨z,hz⟩:∃ z,Jv b c e j=z:=⟨_,rfl⟩
 obtain⟨p,hp⟩:∃ p,Gy c j=p:=⟨_,rfl⟩
 rw[hz] at hx
 rw[hp] at pc ⊢
 unfold Jv at hz
 unfold Gy at hp
 have zl:z<2+e+a * b:=by omega
 have oz:=T9 (z:=z) (Z0 f) (by omega) zl
 have t1:((j+1:Nat):Int).toNat - 1=j:=by omega
 have d1:decide (1≤((j+1:Nat):Int))=true:=decide_eq_true (by omega)
 have d2:decide (((j+1:Nat):Int)≤((a * c:Nat):Int))=true:=decide_eq_true (by omega)
 have c2:=Z17 Hh nl pc
 have il:=Zyz ns p
 obtain⟨y,hy⟩:∃ y,(Mv ns p).1=y:=⟨_,rfl⟩
 obtain⟨er,her⟩:∃ y,(Mv ns p).2=y:=⟨_,rfl⟩
 rw[hy] at il
 rw[hy,her] at c2 ⊢
 have xl:(pgL ns).length=256:=by rw[De,nl]
 have xf:=Fs ns
 obtain⟨x,hxx⟩:∃ x,pgL ns=x:=⟨_,rfl⟩
 rw[hxx] at hx c2 xl xf
 obtain⟨nx,hs,gl,lg⟩:n+23≤h.next∧h.get (n+13)=some (.row 8 [stL S] false)∧h.get S.gd=some (.row 9 [gdL (gdN n a b c e md)] false)∧S.gd<h.next:=by
  obtain⟨lm,_,_,R⟩:=R
  exact⟨R.nx,R.hs,R.hg,R.l2⟩
 unfold gdL gdN at gl
 obtain⟨v,h',cc,rfl,rd⟩:∃ v h',Ze K Tryz.prog 13 [.c (.ptr (n+13) 0),.c (.int .i64 ((j+1:Nat):Int))] h v h'∧v=.tup [.g y,.c (.int .i64 er)]∧Rd n L h h':=by
  refine Ze.Z8 fits Hh (by kernel_rfl) (by kernel_rfl) (by kernel_rfl) (show Tryz.f13.body=some _ from rfl) rfl ?_
  iterate 17 (first|apply Goes.seq|apply Goes.skip|((first|apply Goes.Zr|apply Goes.ops2 fits Hh (Zh (Zh (Zh Zc (fun _ _ _ _=>Zeh Hh)) (fun _ _ _ _=>U6 Hh)) (fun _ _ _ _=>En Hh))); · simp (maxSteps:=9^6) +decide (disch:=first|omega|(simp only[lens]<;>omega)|decide) only [go_sem,Za,simprocAttr,f,hs,gl,Y6,t1,d1,d2,hz,hp,xl,il,read1]<;>rfl))
  refine Goes.abs fun hA eA=>?_
  have nA:hA.next=h.next+1:=by rw[eA]; first|rfl|simp only[H.Zg,H.Zd]
  have kA:∀ m,m<h.next→hA.get m=h.get m:=fun m hm=>by rw[eA]; (first|(simp (discharger:=omega) only [H.get_put,H.Zi,H.Zm,H.Zd,H.Zg,H.Zj,if_neg]; done)|(simp only[H.get_put,H.Zi,H.Zm,H.Zd,H.Zg,H.Zj]; (repeat' split)<;>first|rfl|(exfalso; omega)|omega))
  obtain⟨w,wl,cA⟩:∃ w:List C,w.length=16∧hA.get h.next=some (.row 16 [w] false):=⟨_,Zf4,by rw[eA]; simp (maxSteps:=9^6) +decide (disch:=first|omega|(simp only[lens]<;>omega)|decide) only [go_sem,Za,simprocAttr]<;>rfl⟩
  clear eA
  have RA:=R.keep (h2:=hA) (by omega) kA
  obtain⟨hA1,e1,rA,nA1⟩:=RA.get f oz zl hx xl xf
  have c1:=Wl Hh e1
  have cA1:=(rA.2.1 h.next (by omega) (by omega)).trans cA
  iterate 3 (first|apply Goes.seq|(apply Goes.ops2 fits Hh (Zy Zc c1); · simp (maxSteps:=9^6) +decide (disch:=first|omega|(simp only[lens]<;>omega)|decide) only [go_sem,Za,simprocAttr,Z7,f,hs,gl,Y6,t1,d1,d2,hz,hp,xl,il,read1]<;>rfl))
  iterate 4 (first|apply Goes.seq|apply Goes.skip|((first|apply Goes.Zr|apply Goes.ops2 fits Hh Zc); · simp (maxSteps:=9^6) +decide (disch:=first|omega|(simp only[lens]<;>omega)|decide) only [go_sem,Za,simprocAttr,f,hs,gl,Y6,t1,d1,d2,hz,hp,xl,il,nA,nA1,cA1,read1]<;>rfl))
  refine Goes.abs fun hB eB=>?_
  have nB:hB.next=h.next+1+1:=by rw[eB]; simp only[H.Zg,H.Zd,nA1,nA]
  have rB:Rd n L hA hB:=rA.then (by omega) (fun m hm=>by rw[eB]; (first|(simp (discharger:=omega) only [H.get_put,H.Zi,H.Zm,H.Zd,H.Zg,H.Zj,if_neg]; done)|(simp only[H.get_put,H.Zi,H.Zm,H.Zd,H.Zg,H.Zj]; (repeat' split)<;>first|rfl|(exfalso; omega)|omega))) (by omega)
  have cB:hB.get h.next=some (.row 16 [w] false):=by rw[eB]; refine Eq.trans ?_ cA1; (first|(simp (discharger:=omega) only [H.get_put,H.Zi,H.Zm,H.Zd,H.Zg,H.Zj,if_neg]; done)|(simp only[H.get_put,H.Zi,H.Zm,H.Zd,H.Zg,H.Zj]; (repeat' split)<;>first|rfl|(exfalso; omega)|omega))
  have bB:hB.get (h.next+1)=some (.row 256 [x] false):=by rw[eB]; simp (maxSteps:=9^6) +decide (disch:=first|omega|(simp only[lens]<;>omega)|decide) only [go_sem,Za,simprocAttr,nA1,nA,xl]<;>rfl
  clear eB
  have c3:=c2 hB
  iterate 2 (first|apply Goes.ret|(apply Goes.ops2 fits Hh (Zy Zc c3); · simp (maxSteps:=9^6) +decide (disch:=first|omega|(simp only[lens]<;>omega)|decide) only [go_sem,Za,simprocAttr,Z7,f,hs,gl,Y6,t1,d1,d2,hz,hp,xl,il,nA,nA1,cA1,nB,cB,bB,wl,nA,read1]<;>rfl))
  refine⟨_,_,(by simp (maxSteps:=9^6) +decide (disch:=first|omega|(simp only[lens]<;>omega)|decide) only [go_sem,Za,simprocAttr,cB,il]<;>rfl),rfl,?_⟩
  obtain⟨lm,q3,q4,q5⟩:=rB.2.2
  refine⟨?_,fun m hm hne=>?_,lm,q3,q4,?_⟩
  ·first|omega|(simp only[H.Zg,H.Zd]<;>omega)
  ·refine Eq.trans ?_ ((rB.2.1 m (by omega) hne).trans (kA m hm)); (first|(simp (discharger:=omega) only [H.get_put,H.Zi,H.Zm,H.Zd,H.Zg,H.Zj,if_neg]; done)|(simp only[H.get_put,H.Zi,H.Zm,H.Zd,H.Zg,H.Zj]; (repeat' split)<;>first|rfl|(exfalso; omega)|omega))
  ·refine Eq.trans ?_ q5; (first|(simp (discharger:=omega) only [H.get_put,H.Zi,H.Zm,H.Zd,H.Zg,H.Zj,if_neg]; done)|(simp only[H.get_put,H.Zi,H.Zm,H.Zd,H.Zg,H.Zj]; (repeat' split)<;>first|rfl|(exfalso; omega)|omega))
 exact⟨h',cc,rd⟩
theorem Z43 (f:Jm a b c e=true) (R:RsE n a b c e md S X lc L h) {z:Int} (hz:¬(1≤z∧z≤((a * c:Nat):Int))) :
  ∃ h',Ze K Tryz.prog 13 [.c (.ptr (n+13) 0),.c (.int .i64 z)] h (.tup [.g ino0,.c (.int .i64 2)]) h'∧Rd n L h h':=by
 have dd:(decide (1≤z)&&decide (z≤((a * c:Nat):Int)))=false:=by
  rw[←Bool.decide_and]
  exact decide_eq_false hz
 have RR:=R
 obtain⟨lm,fl,sn,R⟩:=R
 have nx:=R.nx
 have hs:=R.hs
 have gl:=R.hg
 have lg:=R.l2
 have hm:=R.hm
 unfold gdL gdN at gl
 obtain⟨v,h',cc,rfl,rd⟩:∃ v h',Ze K Tryz.prog 13 [.c (.ptr (n+13) 0),.c (.int .i64 z)] h v h'∧v=.tup [.g ino0,.c (.int .i64 2)]∧Rd n L h h':=by
  refine Ze.Z8 fits Hh (by kernel_rfl) (by kernel_rfl) (by kernel_rfl) (show Tryz.f13.body=some _ from rfl) rfl ?_
  iterate 18 (first|apply Goes.seq|apply Goes.skip|apply Goes.ret|((first|apply Goes.Zr|apply Goes.ops2 fits Hh (Zh (Zh (Zh Zc (fun _ _ _ _=>Zeh Hh)) (fun _ _ _ _=>U6 Hh)) (fun _ _ _ _=>En Hh))); · simp (maxSteps:=9^6) +decide (disch:=first|omega|(simp only[lens]<;>omega)|decide) only [go_sem,Za,simprocAttr,f,hs,gl,Y6,dd,read1]<;>rfl))
  refine⟨_,_,(by simp (maxSteps:=9^6) +decide (disch:=first|omega|(simp only[lens]<;>omega)|decide) only [go_sem,Za,simprocAttr]<;>rfl),rfl,(Rd.refl fl sn hm).then ?_ (fun m hm=>?_) (by omega)⟩
  ·first|omega|(simp only[H.Zg,H.Zd]<;>omega)
  ·(first|(simp (discharger:=omega) only [H.get_put,H.Zi,H.Zm,H.Zd,H.Zg,H.Zj,if_neg]; done)|(simp only[H.get_put,H.Zi,H.Zm,H.Zd,H.Zg,H.Zj]; (repeat' split)<;>first|rfl|(exfalso; omega)|omega))
 exact⟨h',cc,rd⟩
theorem Z2c (f:Jm a b c e=true) (R:RsE n a b c e md S X lc L h) {U:Nat→List Nat} (hU:∀ j,j<a * c→At lc L (Jv b c e j) (pgL (U (Jv b c e j)))∧(U (Jv b c e j)).length=256) (z:Int) :
  ∃ h',Ze K Tryz.prog 13 [.c (.ptr (n+13) 0),.c (.int .i64 z)] h (.tup [.g (gI a b c e U z).1,.c (.int .i64 (gI a b c e U z).2)]) h'∧Rd n L h h':=by
 by_cases hz:1≤z∧z≤((a * c:Nat):Int)
 ·obtain⟨j,hj⟩:∃ j,z.toNat - 1=j:=⟨_,rfl⟩
  obtain⟨z1,z2⟩:=hz
  obtain rfl:z=((j+1:Nat):Int):=by omega
  have jl:j<a * c:=by omega
  have q:gI a b c e U ((j+1:Nat):Int)=Mv (U (Jv b c e j)) (Gy c j):=by
   unfold gI
   rw[if_pos ⟨z1,z2⟩,hj]
  rw[q]
  exact Z4n Hh f R jl (hU j jl).1 (hU j jl).2
 ·have q:gI a b c e U z=(ino0,2):=by unfold gI; rw[if_neg hz]
  rw[q]
  exact Z43 Hh f R hz
end
end Go.Proofs.YtngejdlimkgjfaaGreatDoor
