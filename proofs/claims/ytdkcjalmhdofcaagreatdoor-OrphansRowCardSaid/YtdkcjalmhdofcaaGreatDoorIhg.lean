/- inodes.Get, inodes.write, inodes.Put, over any store whose handle is open. -/
import Derived.Test.YtdkcjalmhdofcaaGreatDoorObg
import Derived.Test.YtdkcjalmhdofcaaGreatDoorIgu
import Derived.Test.YtdkcjalmhdofcaaGreatDoorIpu
set_option linter.unusedSimpArgs false
set_option linter.unusedVariables false
set_option linter.unusedSectionVars false
set_option maxRecDepth 100000
set_option maxHeartbeats 4000000
namespace Go.Proofs.YtdkcjalmhdofcaaGreatDoor
open Go.Ev
theorem rs11:Tryz.f11.results.toList=[.cell 4 47,.tmp 5]:=rfl
theorem rs90:Tryz.f90.results.toList=[.tmp 6]:=rfl
theorem rs40:Tryz.f40.results.toList=[.tmp 6]:=rfl
attribute [go_sem] rs11 rs90 rs40
section
variable (Hh:Hearts K Tryz.prog)
include Hh
variable {n q a b c e:Nat} {cr md:Int} {S T:List Nat} {V:Nat→List Nat} {h:Go.Ev.H}
theorem Zgj (f:U4 a b c e=true) (M:HE n q a b c e cr md S T V h) (z:Int) :
  ∃ h',Zg K Tryz.prog 11 [.c (.ptr (n+13) 0),.c (.int .i64 z)] h (.tup [.g (gI a b c e V z).1,.c (.int .i64 (gI a b c e V z).2)]) h'∧HE n q a b c e cr md S T V h'∧Kr n q h h':=by
 obtain⟨nq,nx,n0⟩:=M.nx
 obtain⟨st,⟨kn,hs⟩,⟨dd0,gl⟩,ht⟩:=M.cells
 unfold gdL gdD at gl
 obtain⟨g1,g2,g3,g4,g5,g6,g7,g8,g9,g10,g11⟩:=Yc f
 by_cases hz:1≤z∧z≤((a * c:Nat):Int)
 ·obtain⟨j,hj⟩:∃ j,z.toNat - 1=j:=⟨_,rfl⟩
  obtain⟨z1,z2⟩:=hz
  obtain rfl:z=((j+1:Nat):Int):=by omega
  have jl:j<a * c:=by omega
  have qg:gI a b c e V ((j+1:Nat):Int)=Mr (V (Y6 b c e j)) (Dx c j):=by
   unfold gI
   rw[if_pos ⟨z1,z2⟩,hj]
  rw[qg]
  have pc:=D7 c j
  have ka:j / c<a:=Nat.div_lt_of_lt_mul (by rw[Nat.mul_comm]; omega)
  have tc:j % c<c:=Nat.mod_lt _ (by omega)
  have st:=Mx (b:=b) ka
  obtain⟨z,hz⟩:∃ z,Y6 b c e j=z:=⟨_,rfl⟩
  obtain⟨p,hp⟩:∃ p,Dx c j=p:=⟨_,rfl⟩
  rw[hz]
  rw[hp] at pc ⊢
  unfold Y6 at hz
  unfold Dx at hp
  have zl:z<2+e+a * b:=by omega
  have oz:=Mw (z:=z) (Yc f) (by omega) zl
  have t1:((j+1:Nat):Int).toNat - 1=j:=by omega
  have d1:decide (1≤((j+1:Nat):Int))=true:=decide_eq_true (by omega)
  have d2:decide (((j+1:Nat):Int)≤((a * c:Nat):Int))=true:=decide_eq_true (by omega)
  have nl:=M.len oz zl
  have c2:=Zy0 Hh nl pc
  have il:=Zs8 (V z) p
  obtain⟨y,hy⟩:∃ y,(Mr (V z) p).1=y:=⟨_,rfl⟩
  obtain⟨er,her⟩:∃ y,(Mr (V z) p).2=y:=⟨_,rfl⟩
  rw[hy] at il
  rw[hy,her] at c2 ⊢
  have xl:(pgL (V z)).length=256:=by rw[Ob,nl]
  have hG:=fun {h:Go.Ev.H} (M:HE n q a b c e cr md S T V h)=>M.get f oz zl
  obtain⟨x,hxx⟩:∃ x,pgL (V z)=x:=⟨_,rfl⟩
  rw[hxx] at c2 xl
  simp only[hxx] at hG
  obtain⟨v,h',cc,rfl,rd⟩:∃ v h',Zg K Tryz.prog 11 [.c (.ptr (n+13) 0),.c (.int .i64 ((j+1:Nat):Int))] h v h'∧v=.tup [.g y,.c (.int .i64 er)]∧HE n q a b c e cr md S T V h'∧Kr n q h h':=by
   refine Zg.Yb fits Hh (by kernel_rfl) (by kernel_rfl) (by kernel_rfl) (show Tryz.f11.body=some _ from rfl) rfl ?_
   iterate 17 (first|apply Goes.seq|apply Goes.skip|((first|apply Goes.Zo|apply Goes.ops2 fits Hh (Zj (Zj (Zj Zb (fun _ _ _ _=>Zbh Hh)) (fun _ _ _ _=>Gy Hh)) (fun _ _ _ _=>Rw Hh))); · simp (maxSteps:=9^6) +decide (disch:=first|omega|(simp only[lens]<;>omega)|decide) only [go_sem,Za,simprocAttr,f,hs,stG,gl,Yo,t1,d1,d2,hz,hp,xl,il,read1]<;>rfl))
   refine Goes.abs fun hA eA=>?_
   have nA:hA.next=h.next+1:=by rw[eA]; first|rfl|simp only[H.Zh,H.Zc]
   have kA:∀ m,m<h.next→hA.get m=h.get m:=fun m hm=>by rw[eA]; (first|(simp (discharger:=omega) only [H.get_put,H.Zf,H.Zk,H.Zc,H.Zh,H.Zi,if_neg]; done)|(simp only[H.get_put,H.Zf,H.Zk,H.Zc,H.Zh,H.Zi]; (repeat' split)<;>first|rfl|(exfalso; omega)|omega))
   obtain⟨w,wl,cA⟩:∃ w:List C,w.length=16∧hA.get h.next=some (.row 16 [w] false):=⟨_,Zkz,by rw[eA]; simp (maxSteps:=9^6) +decide (disch:=first|omega|(simp only[lens]<;>omega)|decide) only [go_sem,Za,simprocAttr]<;>rfl⟩
   clear eA
   obtain⟨hA1,e1,MA1,nA1,rA⟩:=hG (M.keep (h2:=hA) (by omega) (fun m hm=>kA m (by omega)))
   have c1:=Tg Hh e1
   have cA1:=(rA h.next (by omega) (by omega)).trans cA
   iterate 3 (first|apply Goes.seq|(apply Goes.ops2 fits Hh (Zt Zb c1); · simp (maxSteps:=9^6) +decide (disch:=first|omega|(simp only[lens]<;>omega)|decide) only [go_sem,Za,simprocAttr,Zw,f,hs,stG,gl,Yo,t1,d1,d2,hz,hp,xl,il,read1]<;>rfl))
   iterate 4 (first|apply Goes.seq|apply Goes.skip|((first|apply Goes.Zo|apply Goes.ops2 fits Hh Zb); · simp (maxSteps:=9^6) +decide (disch:=first|omega|(simp only[lens]<;>omega)|decide) only [go_sem,Za,simprocAttr,f,hs,stG,gl,Yo,t1,d1,d2,hz,hp,xl,il,nA,nA1,cA1,read1]<;>rfl))
   refine Goes.abs fun hB eB=>?_
   have nB:hB.next=h.next+1+1:=by rw[eB]; simp only[H.Zh,H.Zc,nA1,nA]
   have kB:∀ m,m<hA1.next→hB.get m=hA1.get m:=fun m hm=>by rw[eB]; (first|(simp (discharger:=omega) only [H.get_put,H.Zf,H.Zk,H.Zc,H.Zh,H.Zi,if_neg]; done)|(simp only[H.get_put,H.Zf,H.Zk,H.Zc,H.Zh,H.Zi]; (repeat' split)<;>first|rfl|(exfalso; omega)|omega))
   have cB:hB.get h.next=some (.row 16 [w] false):=(kB _ (by omega)).trans cA1
   have bB:hB.get (h.next+1)=some (.row 256 [x] false):=by rw[eB]; simp (maxSteps:=9^6) +decide (disch:=first|omega|(simp only[lens]<;>omega)|decide) only [go_sem,Za,simprocAttr,nA1,nA,xl]<;>rfl
   clear eB
   have MB:=MA1.keep (h2:=hB) (by omega) (fun m hm=>kB m (by omega))
   have c3:=c2 hB
   iterate 2 (first|apply Goes.ret|(apply Goes.ops2 fits Hh (Zt Zb c3); · simp (maxSteps:=9^6) +decide (disch:=first|omega|(simp only[lens]<;>omega)|decide) only [go_sem,Za,simprocAttr,Zw,f,hs,stG,gl,Yo,t1,d1,d2,hz,hp,xl,il,nA,nA1,cA1,nB,cB,bB,wl,nA,read1]<;>rfl))
   refine⟨_,_,(by simp (maxSteps:=9^6) +decide (disch:=first|omega|(simp only[lens]<;>omega)|decide) only [go_sem,Za,simprocAttr,cB,il]<;>rfl),rfl,MB.keep ?_ (fun m hm=>?_),?_,fun m hm hne=>?_⟩
   ·first|omega|(simp only[H.Zh,H.Zc]<;>omega)
   ·(first|(simp (discharger:=omega) only [H.get_put,H.Zf,H.Zk,H.Zc,H.Zh,H.Zi,if_neg]; done)|(simp only[H.get_put,H.Zf,H.Zk,H.Zc,H.Zh,H.Zi]; (repeat' split)<;>first|rfl|(exfalso; omega)|omega))
   ·first|omega|(simp only[H.Zh,H.Zc]<;>omega)
   ·refine Eq.trans ?_ ((kB m (by omega)).trans ((rA m (by omega) hne).trans (kA m hm))); (first|(simp (discharger:=omega) only [H.get_put,H.Zf,H.Zk,H.Zc,H.Zh,H.Zi,if_neg]; done)|(simp only[H.get_put,H.Zf,H.Zk,H.Zc,H.Zh,H.Zi]; (repeat' split)<;>first|rfl|(exfalso; omega)|omega))
  exact⟨h',cc,rd⟩
 ·have qg:gI a b c e V z=(ino0,2):=by unfold gI; rw[if_neg hz]
  rw[qg]
  have dd:(decide (1≤z)&&decide (z≤((a * c:Nat):Int)))=false:=by
   rw[←Bool.decide_and]
   exact decide_eq_false hz
  obtain⟨v,h',cc,rfl,rd⟩:∃ v h',Zg K Tryz.prog 11 [.c (.ptr (n+13) 0),.c (.int .i64 z)] h v h'∧v=.tup [.g ino0,.c (.int .i64 2)]∧HE n q a b c e cr md S T V h'∧Kr n q h h':=by
   refine Zg.Yb fits Hh (by kernel_rfl) (by kernel_rfl) (by kernel_rfl) (show Tryz.f11.body=some _ from rfl) rfl ?_
   iterate 18 (first|apply Goes.seq|apply Goes.skip|apply Goes.ret|((first|apply Goes.Zo|apply Goes.ops2 fits Hh (Zj (Zj (Zj Zb (fun _ _ _ _=>Zbh Hh)) (fun _ _ _ _=>Gy Hh)) (fun _ _ _ _=>Rw Hh))); · simp (maxSteps:=9^6) +decide (disch:=first|omega|(simp only[lens]<;>omega)|decide) only [go_sem,Za,simprocAttr,f,hs,stG,gl,Yo,dd,read1]<;>rfl))
   refine⟨_,_,(by simp (maxSteps:=9^6) +decide (disch:=first|omega|(simp only[lens]<;>omega)|decide) only [go_sem,Za,simprocAttr]<;>rfl),rfl,M.keep ?_ (fun m hm=>?_),?_,fun m hm hne=>?_⟩
   ·first|omega|(simp only[H.Zh,H.Zc]<;>omega)
   ·(first|(simp (discharger:=omega) only [H.get_put,H.Zf,H.Zk,H.Zc,H.Zh,H.Zi,if_neg]; done)|(simp only[H.get_put,H.Zf,H.Zk,H.Zc,H.Zh,H.Zi]; (repeat' split)<;>first|rfl|(exfalso; omega)|omega))
   ·first|omega|(simp only[H.Zh,H.Zc]<;>omega)
   ·(first|(simp (discharger:=omega) only [H.get_put,H.Zf,H.Zk,H.Zc,H.Zh,H.Zi,if_neg]; done)|(simp only[H.get_put,H.Zf,H.Zk,H.Zc,H.Zh,H.Zi]; (repeat' split)<;>first|rfl|(exfalso; omega)|omega))
  exact⟨h',cc,rd⟩
theorem Zqk (f:U4 a b c e=true) (M:HE n q a b c e cr md S T V h) {j:Nat} (jl:j<a * c) (js:Y6 b c e j∈S) (jt:Y6 b c e j ∉ T) {ms:List Nat} (ml:ms.length=256) {y:List C} (yl:y.length=16)
  (hi:∀ h m,h.get m=some (.row 256 [pgL (V (Y6 b c e j))] false)→m<h.next→∃ h',Zg K Tryz.prog 135 [.c (.ptr m 0),.c (.int .i64 (Dx c j:Nat)),.g y] h (.w (.c (.int .i64 0))) h'∧h.next≤h'.next∧h'.get m=some (.row 256 [pgL ms] false)∧∀ k,k<h.next→k≠m→h'.get k=h.get k) :
  ∃ h',Zg K Tryz.prog 90 [.c (.ptr (n+13) 0),.c (.int .i64 ((j+1:Nat):Int)),.g y] h (.w (.c (.int .i64 0))) h'∧HE n q a b c e cr md S T (Gi V (Y6 b c e j) ms) h'∧Kp n q h h':=by
 obtain⟨g1,g2,g3,g4,g5,g6,g7,g8,g9,g10,g11⟩:=Yc f
 have ka:j / c<a:=Nat.div_lt_of_lt_mul (by rw[Nat.mul_comm]; omega)
 have tc:j % c<c:=Nat.mod_lt _ (by omega)
 have st:=Mx (b:=b) ka
 obtain⟨z,hz⟩:∃ z,Y6 b c e j=z:=⟨_,rfl⟩
 obtain⟨p,hp⟩:∃ p,Dx c j=p:=⟨_,rfl⟩
 rw[hz] at js jt ⊢
 rw[hp,hz] at hi
 unfold Y6 at hz
 unfold Dx at hp
 have zl:z<2+e+a * b:=by omega
 have oz:=Mw (z:=z) (Yc f) (by omega) zl
 have t1:((j+1:Nat):Int).toNat - 1=j:=by omega
 have d1:decide (1≤((j+1:Nat):Int))=true:=decide_eq_true (by omega)
 have d2:decide (((j+1:Nat):Int)≤((a * c:Nat):Int))=true:=decide_eq_true (by omega)
 have xl:(pgL (V z)).length=256:=by rw[Ob,M.len oz zl]
 have wl:(pgL ms).length=256:=by rw[Ob,ml]
 have hG:=fun {h:Go.Ev.H} (M:HE n q a b c e cr md S T V h)=>M.get f oz zl
 have hP:=fun {h:Go.Ev.H} (M:HE n q a b c e cr md S T V h)=>M.put f oz zl ml js jt
 obtain⟨x,hxx⟩:∃ x,pgL (V z)=x:=⟨_,rfl⟩
 obtain⟨v,hww⟩:∃ v,pgL ms=v:=⟨_,rfl⟩
 rw[hxx] at xl
 rw[hww] at wl
 simp only[hxx,hww] at hi hG hP
 obtain⟨nq,nx,n0⟩:=M.nx
 obtain⟨st,⟨kn,hs⟩,⟨dd0,gl⟩,ht⟩:=M.cells
 unfold gdL gdD at gl
 obtain⟨v',h',cc,rfl,M',kk⟩:∃ v' h',Zg K Tryz.prog 90 [.c (.ptr (n+13) 0),.c (.int .i64 ((j+1:Nat):Int)),.g y] h v' h'∧v'=.w (.c (.int .i64 0))∧HE n q a b c e cr md S T (Gi V z ms) h'∧Kp n q h h':=by
  refine Zg.Yb fits Hh (by kernel_rfl) (by kernel_rfl) (by kernel_rfl) (show Tryz.f90.body=some _ from rfl) rfl ?_
  iterate 10 (first|apply Goes.seq|apply Goes.skip|((first|apply Goes.Zo|apply Goes.ops2 fits Hh (Zj (Zj Zb (fun _ _ _ _=>Gy Hh)) (fun _ _ _ _=>Rw Hh))); · simp (maxSteps:=9^6) +decide (disch:=first|omega|(simp only[lens]<;>omega)|decide) only [go_sem,Za,simprocAttr,f,hs,stG,gl,Yo,t1,d1,d2,hz,hp,xl,wl,yl,read1,Z6]<;>rfl))
  refine Goes.abs fun hA eA=>?_
  have nA:hA.next=h.next+1:=by rw[eA]; first|rfl|simp only[H.Zh,H.Zc]
  have kA:∀ m,m<h.next→hA.get m=h.get m:=fun m hm=>by rw[eA]; (first|(simp (discharger:=omega) only [H.get_put,H.Zf,H.Zk,H.Zc,H.Zh,H.Zi,if_neg]; done)|(simp only[H.get_put,H.Zf,H.Zk,H.Zc,H.Zh,H.Zi]; (repeat' split)<;>first|rfl|(exfalso; omega)|omega))
  have cA:hA.get h.next=some (.row 16 [y] false):=by rw[eA]; simp (maxSteps:=9^6) +decide (disch:=first|omega|(simp only[lens]<;>omega)|decide) only [go_sem,Za,simprocAttr]<;>rfl
  clear eA
  obtain⟨hA1,e1,MA1,nA1,rA⟩:=hG (M.keep (h2:=hA) (by omega) (fun m hm=>kA m (by omega)))
  have c1:=Tg Hh e1
  have cA1:=(rA h.next (by omega) (by omega)).trans cA
  have kA1:∀ m,m<h.next→m≠n+6→hA1.get m=h.get m:=fun m hm hne=>(rA m (by omega) hne).trans (kA m hm)
  iterate 3 (first|apply Goes.seq|(apply Goes.ops2 fits Hh (Zt Zb c1); · simp (maxSteps:=9^6) +decide (disch:=first|omega|(simp only[lens]<;>omega)|decide) only [go_sem,Za,simprocAttr,Zw,f,hs,stG,gl,Yo,t1,d1,d2,hz,hp,xl,wl,yl,read1,Z6]<;>rfl))
  iterate 5 (first|apply Goes.seq|apply Goes.skip|((first|apply Goes.Zo|apply Goes.ops2 fits Hh Zb); · simp (maxSteps:=9^6) +decide (disch:=first|omega|(simp only[lens]<;>omega)|decide) only [go_sem,Za,simprocAttr,f,hs,stG,gl,Yo,t1,d1,d2,hz,hp,xl,wl,yl,nA,nA1,cA1,read1,Z6]<;>rfl))
  refine Goes.abs fun hB eB=>?_
  have nB:hB.next=h.next+1+1:=by rw[eB]; simp only[H.Zh,H.Zc,nA1,nA]
  have cB:hB.get h.next=some (.row 16 [y] false):=by rw[eB]; refine Eq.trans ?_ cA1; (first|(simp (discharger:=omega) only [H.get_put,H.Zf,H.Zk,H.Zc,H.Zh,H.Zi,if_neg]; done)|(simp only[H.get_put,H.Zf,H.Zk,H.Zc,H.Zh,H.Zi]; (repeat' split)<;>first|rfl|(exfalso; omega)|omega))
  have kB:∀ m,m<h.next→m≠n+6→hB.get m=h.get m:=fun m hm hne=>by rw[eB]; refine Eq.trans ?_ (kA1 m hm hne); (first|(simp (discharger:=omega) only [H.get_put,H.Zf,H.Zk,H.Zc,H.Zh,H.Zi,if_neg]; done)|(simp only[H.get_put,H.Zf,H.Zk,H.Zc,H.Zh,H.Zi]; (repeat' split)<;>first|rfl|(exfalso; omega)|omega))
  have bB:hB.get (h.next+1)=some (.row 256 [x] false):=by rw[eB]; simp (maxSteps:=9^6) +decide (disch:=first|omega|(simp only[lens]<;>omega)|decide) only [go_sem,Za,simprocAttr,nA1,nA,xl]<;>rfl
  have MB:=MA1.keep (h2:=hB) (by omega) (fun m hm=>by rw[eB]; (first|(simp (discharger:=omega) only [H.get_put,H.Zf,H.Zk,H.Zc,H.Zh,H.Zi,if_neg]; done)|(simp only[H.get_put,H.Zf,H.Zk,H.Zc,H.Zh,H.Zi]; (repeat' split)<;>first|rfl|(exfalso; omega)|omega)))
  clear eB
  obtain⟨hC,c2,nC,bC,kC⟩:=hi hB _ bB (by omega)
  have MC:=MB.keep nC (fun m hm=>kC m (by omega) (by omega))
  have r16:Zd 16 [y] 0 16=some y:=Dt (by omega)
  iterate 6 (first|apply Goes.seq|apply Goes.skip|((first|apply Goes.Zo|apply Goes.ops2 fits Hh (Zt Zb c2)); · simp (maxSteps:=9^6) +decide (disch:=first|omega|(simp only[lens]<;>omega)|decide) only [go_sem,Za,simprocAttr,Zw,f,hs,stG,gl,Yo,t1,d1,d2,hz,hp,xl,wl,yl,nA,nA1,cA1,nB,cB,bB,r16,nA,read1,Z6]<;>rfl))
  obtain⟨hP',e3,MP,nP,kP⟩:=hP MC
  have c3:=Q5 Hh e3
  iterate 2 (first|apply Goes.ret|(apply Goes.ops2 fits Hh (Zt Zb c3); · simp (maxSteps:=9^6) +decide (disch:=first|omega|(simp only[lens]<;>omega)|decide) only [go_sem,Za,simprocAttr,Zw,f,hs,stG,gl,Yo,t1,d1,d2,hz,hp,xl,wl,yl,nA,nA1,cA1,nB,cB,bB,r16,nA,bC,read1,Z6]<;>rfl))
  exact⟨_,_,(by simp (maxSteps:=9^6) +decide (disch:=first|omega|(simp only[lens]<;>omega)|decide) only [go_sem,Za,simprocAttr]<;>rfl),rfl,MP,(by omega),fun m hm ho=>(kP m ho.1).trans ((kC m (by omega) (by omega)).trans (kB m hm ho.1.1))⟩
 exact⟨h',cc,M',kk⟩
theorem Z2g (f:U4 a b c e=true) (M:HE n q a b c e cr md S T V h) {j:Nat} (jl:j<a * c) (js:Y6 b c e j∈S) (jt:Y6 b c e j ∉ T) {k l g s p0 p1 p2 p3 p4 p5 p6 p7 p8 p9 p10 nx:Nat} (kb:k<256) (lb:l<65536) (gb:g<4294967296) (sb:s<4294967296) (pb:∀ v∈[p0,p1,p2,p3,p4,p5,p6,p7,p8,p9,p10],v<4294967296) (nb:nx<4294967296) (hm:Zet k l s p0 p1 p2 p3 p4 p5 p6 p7 p8 p9 p10 nx=true) :
  ∃ h',Zg K Tryz.prog 40 [.c (.ptr (n+13) 0),.c (.int .i64 ((j+1:Nat):Int)),.g (O9 k l g s p0 p1 p2 p3 p4 p5 p6 p7 p8 p9 p10 nx)] h (.w (.c (.int .i64 0))) h'∧HE n q a b c e cr md S T (Gi V (Y6 b c e j) (Bh (V (Y6 b c e j)) (Dx c j) k l g s [p0,p1,p2,p3,p4,p5,p6,p7,p8,p9,p10] nx)) h'∧Kp n q h h':=by
 have d1:decide (1≤((j+1:Nat):Int))=true:=decide_eq_true (by omega)
 have d2:decide (((j+1:Nat):Int)≤((a * c:Nat):Int))=true:=decide_eq_true (by omega)
 have pc:=D7 c j
 obtain⟨g1,g2,g3,g4,g5,g6,g7,g8,g9,g10,g11⟩:=Yc f
 have nl:(V (Y6 b c e j)).length=256:=by
  have ka:j / c<a:=Nat.div_lt_of_lt_mul (by rw[Nat.mul_comm]; omega)
  have tc:j % c<c:=Nat.mod_lt _ (by omega)
  have st:=Mx (b:=b) ka
  exact M.len (Mw (Yc f) (by unfold Y6; omega) (by unfold Y6; omega)) (by unfold Y6; omega)
 have ml:(Bh (V (Y6 b c e j)) (Dx c j) k l g s [p0,p1,p2,p3,p4,p5,p6,p7,p8,p9,p10] nx).length=256:=by rw[Qs (by omega),nl]
 have cI:=fun h=>Zjh Hh k l g s p0 p1 p2 p3 p4 p5 p6 p7 p8 p9 p10 nx h
 rw[hm] at cI
 have yl:(O9 k l g s p0 p1 p2 p3 p4 p5 p6 p7 p8 p9 p10 nx).length=16:=rfl
 change ∀ h,Zg K Tryz.prog 91 [.g (O9 k l g s p0 p1 p2 p3 p4 p5 p6 p7 p8 p9 p10 nx)] h (.w (.c (.bool true))) h at cI
 have hW:=fun (h:Go.Ev.H) (M:HE n q a b c e cr md S T V h)=>Zqk Hh f M jl js jt ml yl fun h m q1 q2=>Zp9 Hh nl pc kb lb gb sb pb nb hm q1 q2
 obtain⟨y,hy⟩:∃ y,O9 k l g s p0 p1 p2 p3 p4 p5 p6 p7 p8 p9 p10 nx=y:=⟨_,rfl⟩
 rw[hy] at yl cI ⊢
 simp only[hy] at hW
 obtain⟨V',hV⟩:∃ V',Gi V (Y6 b c e j) (Bh (V (Y6 b c e j)) (Dx c j) k l g s [p0,p1,p2,p3,p4,p5,p6,p7,p8,p9,p10] nx)=V':=⟨_,rfl⟩
 rw[hV]
 simp only[hV] at hW
 obtain⟨nq,nx',n0⟩:=M.nx
 obtain⟨st,⟨kn,hs⟩,⟨dd0,gl⟩,ht⟩:=M.cells
 unfold gdL gdD at gl
 obtain⟨v,h',cc,rfl,M',kk⟩:∃ v h',Zg K Tryz.prog 40 [.c (.ptr (n+13) 0),.c (.int .i64 ((j+1:Nat):Int)),.g y] h v h'∧v=.w (.c (.int .i64 0))∧HE n q a b c e cr md S T V' h'∧Kp n q h h':=by
  refine Zg.Yb fits Hh (by kernel_rfl) (by kernel_rfl) (by kernel_rfl) (show Tryz.f40.body=some _ from rfl) rfl ?_
  iterate 18 (first|apply Goes.seq|apply Goes.skip|((first|apply Goes.Zo|apply Goes.ops2 fits Hh (Zj (Zj (Zj Zb (fun _ _ _ _=>Zgt Hh)) (fun _ _ _ _=>Gy Hh)) (fun _ _ _ _=>Rw Hh))); · simp (maxSteps:=9^6) +decide (disch:=first|omega|(simp only[lens]<;>omega)|decide) only [go_sem,Za,simprocAttr,f,hs,stG,gl,ht,txG,Yo,d1,d2,yl,read1,Z6]<;>rfl))
  iterate 4 (first|apply Goes.seq|apply Goes.skip|((first|apply Goes.Zo|apply Goes.ops2 fits Hh (Ue Zb cI)); · simp (maxSteps:=9^6) +decide (disch:=first|omega|(simp only[lens]<;>omega)|decide) only [go_sem,Za,simprocAttr,f,hs,stG,gl,ht,txG,Yo,d1,d2,yl,read1,Z6]<;>rfl))
  refine Goes.abs fun hA eA=>?_
  have nA:hA.next=h.next+1:=by rw[eA]; first|rfl|simp only[H.Zh,H.Zc]
  have kA:∀ m,m<h.next→hA.get m=h.get m:=fun m hm=>by rw[eA]; (first|(simp (discharger:=omega) only [H.get_put,H.Zf,H.Zk,H.Zc,H.Zh,H.Zi,if_neg]; done)|(simp only[H.get_put,H.Zf,H.Zk,H.Zc,H.Zh,H.Zi]; (repeat' split)<;>first|rfl|(exfalso; omega)|omega))
  have cA:hA.get h.next=some (.row 16 [y] false):=by rw[eA]; simp (maxSteps:=9^6) +decide (disch:=first|omega|(simp only[lens]<;>omega)|decide) only [go_sem,Za,simprocAttr]<;>rfl
  clear eA
  obtain⟨hC,c9,MC,kC⟩:=hW hA (M.keep (by omega) (fun m hm=>kA m (by omega)))
  have nC:=kC.1
  iterate 2 (first|apply Goes.ret|(apply Goes.ops2 fits Hh (Zt Zb c9); · simp (maxSteps:=9^6) +decide (disch:=first|omega|(simp only[lens]<;>omega)|decide) only [go_sem,Za,simprocAttr,Zw,f,hs,stG,gl,ht,txG,Yo,d1,d2,yl,nA,cA,read1,Z6]<;>rfl))
  exact⟨_,_,(by simp (maxSteps:=9^6) +decide (disch:=first|omega|(simp only[lens]<;>omega)|decide) only [go_sem,Za,simprocAttr]<;>rfl),rfl,MC,by omega,fun m hm ho=>(kC.2 m (by omega) ho).trans (kA m hm)⟩
 exact⟨h',cc,M',kk⟩
end
end Go.Proofs.YtdkcjalmhdofcaaGreatDoor
