/- inodes.write, inodes.Put, over any store whose handle is open. -/
import Derived.Test.YtngejdlimkgjfaaGreatDoorMdg
import Derived.Test.YtngejdlimkgjfaaGreatDoorIng
import Derived.Test.YtngejdlimkgjfaaGreatDoorIpu
import Derived.Test.YtngejdlimkgjfaaGreatDoorMak3
import Derived.KernelRfl
set_option linter.unusedSimpArgs false
set_option linter.unusedVariables false
set_option linter.unusedSectionVars false
set_option maxRecDepth 100000
set_option maxHeartbeats 4000000
namespace Go.Proofs.YtngejdlimkgjfaaGreatDoor
open Go.Ev
noncomputable def q10 (p:List Nat):Code:=piece p (Yc Tryz.f10)
theorem rs43:Tryz.f43.results.toList=[.tmp 6]:=rfl
theorem rs10:Tryz.f10.results.toList=[.tmp 6]:=rfl
attribute [go_sem] rs43 rs10
def Zdc (a b c e:Nat) (lc:J9) (L:List (List C)) (U:Nat→List Nat):Prop:=∀ j,j<a * c→At lc L (Jv b c e j) (pgL (U (Jv b c e j)))∧(U (Jv b c e j)).length=256
section
variable {n a b c e:Nat} {L:List (List C)} {h h' h2:Go.Ev.H}
theorem sees0 (F:Fine a b c e) (I:Image a b c e L):Zdc a b c e [] L (U0 e):=fun j hj=>⟨.inr ⟨rfl,I.at F hj⟩,Z2m ..⟩
theorem Zdc.upd {lc:J9} {U:Nat→List Nat} (s:Zdc a b c e lc L U) (z:Nat) {x:List Nat} (xl:x.length=256):Zdc a b c e (J2 (z:Int) (pgL x) lc) L (U1 U z x):=fun j hj=>by
 obtain⟨w,hw⟩:∃ w,Jv b c e j=w:=⟨_,rfl⟩
 obtain⟨s1,s2⟩:=s j hj
 rw[hw] at s1 s2 ⊢
 unfold U1
 by_cases q:w=z
 ·subst q
  rw[if_pos rfl]
  exact⟨At.put ..,xl⟩
 ·rw[if_neg q]
  exact⟨s1.upd q,s2⟩
theorem Zdc.other {lc:J9} {U:Nat→List Nat} (s:Zdc a b c e lc L U) {z:Nat} {x:List C} (ne:∀ j,j<a * c→Jv b c e j≠z):Zdc a b c e (J2 (z:Int) x lc) L U:=fun j hj=>⟨(s j hj).1.upd (ne j hj),(s j hj).2⟩
end
section
variable (Hh:Hearts K Tryz.prog)
include Hh
variable {n q a b c e w:Nat} {cr md:Int} {kn:Bool} {lc:J9} {L:List (List C)} {h:Go.Ev.H}
theorem Zsd (f:Jm a b c e=true) (M:MhE n q a b c e cr md w kn lc L h) (wc:(w:Int)<cr) {j:Nat} (jl:j<a * c) {ns ms:List Nat} (at0:At lc L (Jv b c e j) (pgL ns)) (nl:ns.length=256) (ml:ms.length=256) {y:List C} (yl:y.length=16)
  (hi:∀ h m,h.get m=some (.row 256 [pgL ns] false)→m<h.next→∃ h',Ze K Tryz.prog 60 [.c (.ptr m 0),.c (.int .i64 (Gy c j:Nat)),.g y] h (.w (.c (.int .i64 0))) h'∧h.next≤h'.next∧h'.get m=some (.row 256 [pgL ms] false)∧∀ k,k<h.next→k≠m→h'.get k=h.get k) :
  ∃ h',Ze K Tryz.prog 43 [.c (.ptr (n+13) 0),.c (.int .i64 ((j+1:Nat):Int)),.g y] h (.w (.c (.int .i64 0))) h'∧MhE n q a b c e cr md (w+1) false (J2 ((Jv b c e j:Nat):Int) (pgL ms) lc) L h'∧h.next≤h'.next∧∀ m,m<h.next→Off n q m→h'.get m=h.get m:=by
 obtain⟨g1,g2,g3,g4,g5,g6,g7,g8,g9,g10,g11⟩:=Z0 f
 have ka:j / c<a:=Nat.div_lt_of_lt_mul (by rw[Nat.mul_comm]; omega)
 have tc:j % c<c:=Nat.mod_lt _ (by omega)
 have st:=Uf (b:=b) ka
 obtain⟨z,hz⟩:∃ z,Jv b c e j=z:=⟨_,rfl⟩
 obtain⟨p,hp⟩:∃ p,Gy c j=p:=⟨_,rfl⟩
 rw[hz] at at0 ⊢
 rw[hp] at hi
 unfold Jv at hz
 unfold Gy at hp
 have zl:z<2+e+a * b:=by omega
 have oz:=T9 (z:=z) (Z0 f) (by omega) zl
 have t1:((j+1:Nat):Int).toNat - 1=j:=by omega
 have d1:decide (1≤((j+1:Nat):Int))=true:=decide_eq_true (by omega)
 have d2:decide (((j+1:Nat):Int)≤((a * c:Nat):Int))=true:=decide_eq_true (by omega)
 have xl:(pgL ns).length=256:=by rw[De,nl]
 have xf:=Fs ns
 have wl:(pgL ms).length=256:=by rw[De,ml]
 have wf:=Fs ms
 obtain⟨x,hxx⟩:∃ x,pgL ns=x:=⟨_,rfl⟩
 obtain⟨v,hww⟩:∃ v,pgL ms=v:=⟨_,rfl⟩
 rw[hxx] at at0 xl xf
 rw[hww] at wl wf ⊢
 simp only[hxx,hww] at hi
 obtain⟨nq,nx⟩:=M.nx
 obtain⟨hs,gl⟩:h.get (n+13)=some (.row 8 [stL (stG n q kn)] false)∧h.get (n+12)=some (.row 9 [gdL (gdN n a b c e md)] false):=by
  obtain⟨lt,lm,_,_,_,_,_,_,M⟩:=M
  exact⟨M.hs,M.hg⟩
 unfold gdL gdN at gl
 obtain⟨v',h',cc,rfl,M',nn,hk⟩:∃ v' h',Ze K Tryz.prog 43 [.c (.ptr (n+13) 0),.c (.int .i64 ((j+1:Nat):Int)),.g y] h v' h'∧v'=.w (.c (.int .i64 0))∧MhE n q a b c e cr md (w+1) false (J2 (z:Int) v lc) L h'∧h.next≤h'.next∧∀ m,m<h.next→Off n q m→h'.get m=h.get m:=by
  refine Ze.Z8 fits Hh (by kernel_rfl) (by kernel_rfl) (by kernel_rfl) (show Tryz.f43.body=some _ from rfl) rfl ?_
  iterate 10 (first|apply Goes.seq|apply Goes.skip|((first|apply Goes.Zr|apply Goes.ops2 fits Hh (Zh (Zh Zc (fun _ _ _ _=>U6 Hh)) (fun _ _ _ _=>En Hh))); · simp (maxSteps:=9^6) +decide (disch:=first|omega|(simp only[lens]<;>omega)|decide) only [go_sem,Za,simprocAttr,f,hs,stG,gl,Y6,t1,d1,d2,hz,hp,xl,wl,yl,read1,Zw]<;>rfl))
  refine Goes.abs fun hA eA=>?_
  have nA:hA.next=h.next+1:=by rw[eA]; first|rfl|simp only[H.Zg,H.Zd]
  have kA:∀ m,m<h.next→hA.get m=h.get m:=fun m hm=>by rw[eA]; (first|(simp (discharger:=omega) only [H.get_put,H.Zi,H.Zm,H.Zd,H.Zg,H.Zj,if_neg]; done)|(simp only[H.get_put,H.Zi,H.Zm,H.Zd,H.Zg,H.Zj]; (repeat' split)<;>first|rfl|(exfalso; omega)|omega))
  have cA:hA.get h.next=some (.row 16 [y] false):=by rw[eA]; simp (maxSteps:=9^6) +decide (disch:=first|omega|(simp only[lens]<;>omega)|decide) only [go_sem,Za,simprocAttr]<;>rfl
  clear eA
  have MA:=M.keep (h2:=hA) (by omega) (fun m hm=>kA m (by omega))
  obtain⟨hA1,e1,rA,nA1,MA1⟩:=MA.get f oz zl at0 xl xf
  have c1:=Wl Hh e1
  have cA1:=(rA.2.1 h.next (by omega) (by omega)).trans cA
  have kA1:∀ m,m<h.next→m≠n+6→hA1.get m=h.get m:=fun m hm hne=>(rA.2.1 m (by omega) hne).trans (kA m hm)
  iterate 3 (first|apply Goes.seq|(apply Goes.ops2 fits Hh (Zy Zc c1); · simp (maxSteps:=9^6) +decide (disch:=first|omega|(simp only[lens]<;>omega)|decide) only [go_sem,Za,simprocAttr,Z7,f,hs,stG,gl,Y6,t1,d1,d2,hz,hp,xl,wl,yl,read1,Zw]<;>rfl))
  iterate 5 (first|apply Goes.seq|apply Goes.skip|((first|apply Goes.Zr|apply Goes.ops2 fits Hh Zc); · simp (maxSteps:=9^6) +decide (disch:=first|omega|(simp only[lens]<;>omega)|decide) only [go_sem,Za,simprocAttr,f,hs,stG,gl,Y6,t1,d1,d2,hz,hp,xl,wl,yl,nA,nA1,cA1,read1,Zw]<;>rfl))
  refine Goes.abs fun hB eB=>?_
  have nB:hB.next=h.next+1+1:=by rw[eB]; simp only[H.Zg,H.Zd,nA1,nA]
  have cB:hB.get h.next=some (.row 16 [y] false):=by rw[eB]; refine Eq.trans ?_ cA1; (first|(simp (discharger:=omega) only [H.get_put,H.Zi,H.Zm,H.Zd,H.Zg,H.Zj,if_neg]; done)|(simp only[H.get_put,H.Zi,H.Zm,H.Zd,H.Zg,H.Zj]; (repeat' split)<;>first|rfl|(exfalso; omega)|omega))
  have kB:∀ m,m<h.next→m≠n+6→hB.get m=h.get m:=fun m hm hne=>by rw[eB]; refine Eq.trans ?_ (kA1 m hm hne); (first|(simp (discharger:=omega) only [H.get_put,H.Zi,H.Zm,H.Zd,H.Zg,H.Zj,if_neg]; done)|(simp only[H.get_put,H.Zi,H.Zm,H.Zd,H.Zg,H.Zj]; (repeat' split)<;>first|rfl|(exfalso; omega)|omega))
  have bB:hB.get (h.next+1)=some (.row 256 [x] false):=by rw[eB]; simp (maxSteps:=9^6) +decide (disch:=first|omega|(simp only[lens]<;>omega)|decide) only [go_sem,Za,simprocAttr,nA1,nA,xl]<;>rfl
  have MB:=MA1.keep (h2:=hB) (by omega) (fun m hm=>by rw[eB]; (first|(simp (discharger:=omega) only [H.get_put,H.Zi,H.Zm,H.Zd,H.Zg,H.Zj,if_neg]; done)|(simp only[H.get_put,H.Zi,H.Zm,H.Zd,H.Zg,H.Zj]; (repeat' split)<;>first|rfl|(exfalso; omega)|omega)))
  clear eB
  obtain⟨hC,c2,nC,bC,kC⟩:=hi hB _ bB (by omega)
  have MC:=MB.keep nC (fun m hm=>kC m (by omega) (by omega))
  have r16:Zf 16 [y] 0 16=some y:=Fp (by omega)
  iterate 6 (first|apply Goes.seq|apply Goes.skip|((first|apply Goes.Zr|apply Goes.ops2 fits Hh (Zy Zc c2)); · simp (maxSteps:=9^6) +decide (disch:=first|omega|(simp only[lens]<;>omega)|decide) only [go_sem,Za,simprocAttr,Z7,f,hs,stG,gl,Y6,t1,d1,d2,hz,hp,xl,wl,yl,nA,nA1,cA1,nB,cB,bB,r16,nA,read1,Zw]<;>rfl))
  obtain⟨hP,e3,MP,nP,kP⟩:=MC.put f oz zl wl wf wc
  have c3:=Zbz Hh e3
  iterate 2 (first|apply Goes.ret|(apply Goes.ops2 fits Hh (Zy Zc c3); · simp (maxSteps:=9^6) +decide (disch:=first|omega|(simp only[lens]<;>omega)|decide) only [go_sem,Za,simprocAttr,Z7,f,hs,stG,gl,Y6,t1,d1,d2,hz,hp,xl,wl,yl,nA,nA1,cA1,nB,cB,bB,r16,nA,bC,read1,Zw]<;>rfl))
  exact⟨_,_,(by simp (maxSteps:=9^6) +decide (disch:=first|omega|(simp only[lens]<;>omega)|decide) only [go_sem,Za,simprocAttr]<;>rfl),rfl,MP,(by omega),fun m hm ho=>(kP m ho).trans ((kC m (by omega) (by omega)).trans (kB m hm ho.1))⟩
 exact⟨h',cc,M',nn,hk⟩
theorem Z3v (f:Jm a b c e=true) (M:MhE n q a b c e cr md w kn lc L h) {z:Int} (hz:¬(1≤z∧z≤((a * c:Nat):Int))) {y:List C} (yl:y.length=16) :
  ∃ h',Ze K Tryz.prog 10 [.c (.ptr (n+13) 0),.c (.int .i64 z),.g y] h (.w (.c (.int .i64 2))) h'∧Rd n L h h':=by
 have dd:(decide (1≤z)&&decide (z≤((a * c:Nat):Int)))=false:=by
  rw[←Bool.decide_and]
  exact decide_eq_false hz
 obtain⟨lt,lm,fl,sn,_,_,_,_,M⟩:=M
 have nx:=M.nx
 have nq:=M.nq
 have hs:=M.hs
 have ht:=M.ht
 have gl:=M.hg
 have hm:=M.hm
 unfold gdL gdN at gl
 obtain⟨v,h',cc,rfl,rd⟩:∃ v h',Ze K Tryz.prog 10 [.c (.ptr (n+13) 0),.c (.int .i64 z),.g y] h v h'∧v=.w (.c (.int .i64 2))∧Rd n L h h':=by
  refine Ze.Z8 fits Hh (by kernel_rfl) (by kernel_rfl) (by kernel_rfl) (show Tryz.f10.body=some _ from rfl) rfl ?_
  iterate 18 (first|apply Goes.seq|apply Goes.skip|apply Goes.ret|((first|apply Goes.Zr|apply Goes.ops2 fits Hh (Zh (Zh (Zh Zc (fun _ _ _ _=>Tf Hh)) (fun _ _ _ _=>U6 Hh)) (fun _ _ _ _=>En Hh))); · simp (maxSteps:=9^6) +decide (disch:=first|omega|(simp only[lens]<;>omega)|decide) only [go_sem,Za,simprocAttr,f,hs,stG,ht,txG,gl,Y6,dd,yl,read1,Zw]<;>rfl))
  refine⟨_,_,(by simp (maxSteps:=9^6) +decide (disch:=first|omega|(simp only[lens]<;>omega)|decide) only [go_sem,Za,simprocAttr]<;>rfl),rfl,(Rd.refl fl sn hm).then ?_ (fun m hm=>?_) (by omega)⟩
  ·first|omega|(simp only[H.Zg,H.Zd]<;>omega)
  ·(first|(simp (discharger:=omega) only [H.get_put,H.Zi,H.Zm,H.Zd,H.Zg,H.Zj,if_neg]; done)|(simp only[H.get_put,H.Zi,H.Zm,H.Zd,H.Zg,H.Zj]; (repeat' split)<;>first|rfl|(exfalso; omega)|omega))
 exact⟨h',cc,rd⟩
theorem Z26 (f:Jm a b c e=true) (M:MhE n q a b c e cr md w kn lc L h) {z:Int} (hz:1≤z∧z≤((a * c:Nat):Int)) {k l g s p0 p1 p2 p3 p4 p5 p6 p7 p8 p9 p10 nx:Int} (hm:Qe k l s p0 p1 p2 p3 p4 p5 p6 p7 p8 p9 p10 nx=false) :
  ∃ h',Ze K Tryz.prog 10 [.c (.ptr (n+13) 0),.c (.int .i64 z),.g (Gw k l g s p0 p1 p2 p3 p4 p5 p6 p7 p8 p9 p10 nx)] h (.w (.c (.int .i64 70))) h'∧Rd n L h h':=by
 have d1:=decide_eq_true hz.1
 have d2:=decide_eq_true hz.2
 obtain⟨lt,lm,fl,sn,_,_,_,_,M⟩:=M
 have nn0:=M.nx
 have nq:=M.nq
 have hs:=M.hs
 have ht:=M.ht
 have gl:=M.hg
 have hm6:=M.hm
 unfold gdL gdN at gl
 have c5:=fun h=>Zfo Hh k l g s p0 p1 p2 p3 p4 p5 p6 p7 p8 p9 p10 nx h
 rw[hm] at c5
 have yl:(Gw k l g s p0 p1 p2 p3 p4 p5 p6 p7 p8 p9 p10 nx).length=16:=rfl
 have cI:∀ h,Ze K Tryz.prog 42 [.g (Gw k l g s p0 p1 p2 p3 p4 p5 p6 p7 p8 p9 p10 nx)] h (.w (.c (.bool false))) h:=c5
 obtain⟨y,hy⟩:∃ y,Gw k l g s p0 p1 p2 p3 p4 p5 p6 p7 p8 p9 p10 nx=y:=⟨_,rfl⟩
 rw[hy] at yl cI ⊢
 obtain⟨v,h',cc,rfl,rd⟩:∃ v h',Ze K Tryz.prog 10 [.c (.ptr (n+13) 0),.c (.int .i64 z),.g y] h v h'∧v=.w (.c (.int .i64 70))∧Rd n L h h':=by
  refine Ze.Z8 fits Hh (by kernel_rfl) (by kernel_rfl) (by kernel_rfl) (show Tryz.f10.body=some _ from rfl) rfl ?_
  iterate 18 (first|apply Goes.seq|apply Goes.skip|((first|apply Goes.Zr|apply Goes.ops2 fits Hh (Zh (Zh (Zh Zc (fun _ _ _ _=>Tf Hh)) (fun _ _ _ _=>U6 Hh)) (fun _ _ _ _=>En Hh))); · simp (maxSteps:=9^6) +decide (disch:=first|omega|(simp only[lens]<;>omega)|decide) only [go_sem,Za,simprocAttr,f,hs,stG,ht,txG,gl,Y6,d1,d2,yl,read1,Zw]<;>rfl))
  iterate 5 (first|apply Goes.seq|apply Goes.ret|((first|apply Goes.Zr|apply Goes.ops2 fits Hh (G6 Zc cI)); · simp (maxSteps:=9^6) +decide (disch:=first|omega|(simp only[lens]<;>omega)|decide) only [go_sem,Za,simprocAttr,f,hs,stG,ht,txG,gl,Y6,d1,d2,yl,read1,Zw]<;>rfl))
  refine⟨_,_,(by simp (maxSteps:=9^6) +decide (disch:=first|omega|(simp only[lens]<;>omega)|decide) only [go_sem,Za,simprocAttr]<;>rfl),rfl,(Rd.refl fl sn hm6).then ?_ (fun m hm=>?_) (by omega)⟩
  ·first|omega|(simp only[H.Zg,H.Zd]<;>omega)
  ·(first|(simp (discharger:=omega) only [H.get_put,H.Zi,H.Zm,H.Zd,H.Zg,H.Zj,if_neg]; done)|(simp only[H.get_put,H.Zi,H.Zm,H.Zd,H.Zg,H.Zj]; (repeat' split)<;>first|rfl|(exfalso; omega)|omega))
 exact⟨h',cc,rd⟩
theorem Z4f (f:Jm a b c e=true) (M:MhE n q a b c e cr md w kn lc L h) (wc:(w:Int)<cr) {j:Nat} (jl:j<a * c) {ns:List Nat} (hx:At lc L (Jv b c e j) (pgL ns)) (nl:ns.length=256) {k l g s p0 p1 p2 p3 p4 p5 p6 p7 p8 p9 p10 nx:Nat} (kb:k<256) (lb:l<65536) (gb:g<4294967296) (sb:s<4294967296) (pb:∀ v∈[p0,p1,p2,p3,p4,p5,p6,p7,p8,p9,p10],v<4294967296) (nb:nx<4294967296) (hm:Qe k l s p0 p1 p2 p3 p4 p5 p6 p7 p8 p9 p10 nx=true) :
  ∃ h',Ze K Tryz.prog 10 [.c (.ptr (n+13) 0),.c (.int .i64 ((j+1:Nat):Int)),.g (Gw k l g s p0 p1 p2 p3 p4 p5 p6 p7 p8 p9 p10 nx)] h (.w (.c (.int .i64 0))) h'∧MhE n q a b c e cr md (w+1) false (J2 ((Jv b c e j:Nat):Int) (pgL (Gv ns (Gy c j) k l g s [p0,p1,p2,p3,p4,p5,p6,p7,p8,p9,p10] nx)) lc) L h'∧h.next≤h'.next∧∀ m,m<h.next→Off n q m→h'.get m=h.get m:=by
 have d1:decide (1≤((j+1:Nat):Int))=true:=decide_eq_true (by omega)
 have d2:decide (((j+1:Nat):Int)≤((a * c:Nat):Int))=true:=decide_eq_true (by omega)
 have pc:=E8 c j
 have ml:(Gv ns (Gy c j) k l g s [p0,p1,p2,p3,p4,p5,p6,p7,p8,p9,p10] nx).length=256:=by rw[Vm (by omega),nl]
 have cI:=fun h=>Zfo Hh k l g s p0 p1 p2 p3 p4 p5 p6 p7 p8 p9 p10 nx h
 rw[hm] at cI
 have yl:(Gw k l g s p0 p1 p2 p3 p4 p5 p6 p7 p8 p9 p10 nx).length=16:=rfl
 change ∀ h,Ze K Tryz.prog 42 [.g (Gw k l g s p0 p1 p2 p3 p4 p5 p6 p7 p8 p9 p10 nx)] h (.w (.c (.bool true))) h at cI
 have hW:=fun (h:Go.Ev.H) (M:MhE n q a b c e cr md w kn lc L h)=>Zsd Hh f M wc jl hx nl ml yl fun h m q1 q2=>Zmb Hh nl pc kb lb gb sb pb nb hm q1 q2
 obtain⟨y,hy⟩:∃ y,Gw k l g s p0 p1 p2 p3 p4 p5 p6 p7 p8 p9 p10 nx=y:=⟨_,rfl⟩
 rw[hy] at yl cI ⊢
 simp only[hy] at hW
 obtain⟨lc',hlc⟩:∃ lc':J9,J2 ((Jv b c e j:Nat):Int) (pgL (Gv ns (Gy c j) k l g s [p0,p1,p2,p3,p4,p5,p6,p7,p8,p9,p10] nx)) lc=lc':=⟨_,rfl⟩
 rw[hlc]
 simp only[hlc] at hW
 obtain⟨nq,nx'⟩:=M.nx
 obtain⟨hs,gl,ht⟩:h.get (n+13)=some (.row 8 [stL (stG n q kn)] false)∧h.get (n+12)=some (.row 9 [gdL (gdN n a b c e md)] false)∧h.get (n+20)=some (.row 13 [txL (txG n q cr)] false):=by
  obtain⟨lt,lm,_,_,_,_,_,_,M⟩:=M
  exact⟨M.hs,M.hg,M.ht⟩
 unfold gdL gdN at gl
 obtain⟨v,h',cc,rfl,M',nn,hk⟩:∃ v h',Ze K Tryz.prog 10 [.c (.ptr (n+13) 0),.c (.int .i64 ((j+1:Nat):Int)),.g y] h v h'∧v=.w (.c (.int .i64 0))∧MhE n q a b c e cr md (w+1) false lc' L h'∧h.next≤h'.next∧∀ m,m<h.next→Off n q m→h'.get m=h.get m:=by
  refine Ze.Z8 fits Hh (by kernel_rfl) (by kernel_rfl) (by kernel_rfl) (show Tryz.f10.body=some _ from rfl) rfl ?_
  iterate 18 (first|apply Goes.seq|apply Goes.skip|((first|apply Goes.Zr|apply Goes.ops2 fits Hh (Zh (Zh (Zh Zc (fun _ _ _ _=>Tf Hh)) (fun _ _ _ _=>U6 Hh)) (fun _ _ _ _=>En Hh))); · simp (maxSteps:=9^6) +decide (disch:=first|omega|(simp only[lens]<;>omega)|decide) only [go_sem,Za,simprocAttr,f,hs,stG,ht,txG,gl,Y6,d1,d2,yl,read1,Zw]<;>rfl))
  iterate 4 (first|apply Goes.seq|apply Goes.skip|((first|apply Goes.Zr|apply Goes.ops2 fits Hh (G6 Zc cI)); · simp (maxSteps:=9^6) +decide (disch:=first|omega|(simp only[lens]<;>omega)|decide) only [go_sem,Za,simprocAttr,f,hs,stG,ht,txG,gl,Y6,d1,d2,yl,read1,Zw]<;>rfl))
  refine Goes.abs fun hA eA=>?_
  have nA:hA.next=h.next+1:=by rw[eA]; first|rfl|simp only[H.Zg,H.Zd]
  have kA:∀ m,m<h.next→hA.get m=h.get m:=fun m hm=>by rw[eA]; (first|(simp (discharger:=omega) only [H.get_put,H.Zi,H.Zm,H.Zd,H.Zg,H.Zj,if_neg]; done)|(simp only[H.get_put,H.Zi,H.Zm,H.Zd,H.Zg,H.Zj]; (repeat' split)<;>first|rfl|(exfalso; omega)|omega))
  have cA:hA.get h.next=some (.row 16 [y] false):=by rw[eA]; simp (maxSteps:=9^6) +decide (disch:=first|omega|(simp only[lens]<;>omega)|decide) only [go_sem,Za,simprocAttr]<;>rfl
  clear eA
  obtain⟨hC,c9,MC,nC,kC⟩:=hW hA (M.keep (by omega) (fun m hm=>kA m (by omega)))
  iterate 2 (first|apply Goes.ret|(apply Goes.ops2 fits Hh (Zy Zc c9); · simp (maxSteps:=9^6) +decide (disch:=first|omega|(simp only[lens]<;>omega)|decide) only [go_sem,Za,simprocAttr,Z7,f,hs,stG,ht,txG,gl,Y6,d1,d2,yl,nA,cA,read1,Zw]<;>rfl))
  exact⟨_,_,(by simp (maxSteps:=9^6) +decide (disch:=first|omega|(simp only[lens]<;>omega)|decide) only [go_sem,Za,simprocAttr]<;>rfl),rfl,MC,by omega,fun m hm ho=>(kC m (by omega) ho).trans (kA m hm)⟩
 exact⟨h',cc,M',nn,hk⟩
end
end Go.Proofs.YtngejdlimkgjfaaGreatDoor
set_option maxRecDepth 100000
namespace Go.Proofs.YtngejdlimkgjfaaGreatDoor
open Go.Ev
def w2 (v:Nat):Nat:=v % 256+256 * (v / 256 % 256)
theorem Zwo {v:Nat} (h:v<65536):w2 v=v:=by unfold w2; omega
theorem at_set {ns:List Nat} {i v:Nat} (h:i<ns.length):atN (ns.set i v) i=v % 256:=by
 unfold atN
 rw[List.getD_eq_getElem?_getD,List.getElem?_set_self h]
 rfl
theorem Q9 {ns:List Nat} {i j v:Nat} (h:i≠j):atN (ns.set i v) j=atN ns j:=by
 unfold atN
 rw[List.getD_eq_getElem?_getD,List.getD_eq_getElem?_getD,List.getElem?_set_ne h]
theorem Zn1 {ns:List Nat} {i v:Nat} (h:i+4≤ns.length) (hv:v<4294967296):Yn (Uh ns i v) i=v:=by
 unfold Yn Uh
 have h0:atN ((((ns.set i v).set (i+1) (v / 256)).set (i+2) (v / 256 / 256)).set (i+3) (v / 256 / 256 / 256)) i=v % 256:=by
  rw[Q9 (by omega),Q9 (by omega),Q9 (by omega),at_set (by omega)]
 have h1:atN ((((ns.set i v).set (i+1) (v / 256)).set (i+2) (v / 256 / 256)).set (i+3) (v / 256 / 256 / 256)) (i+1)=v / 256 % 256:=by
  rw[Q9 (by omega),Q9 (by omega),at_set (by rw[List.length_set]; omega)]
 have h2:atN ((((ns.set i v).set (i+1) (v / 256)).set (i+2) (v / 256 / 256)).set (i+3) (v / 256 / 256 / 256)) (i+2)=v / 256 / 256 % 256:=by
  rw[Q9 (by omega),at_set (by rw[List.length_set,List.length_set]; omega)]
 have h3:atN ((((ns.set i v).set (i+1) (v / 256)).set (i+2) (v / 256 / 256)).set (i+3) (v / 256 / 256 / 256)) (i+3)=v / 256 / 256 / 256 % 256:=by
  rw[at_set (by rw[List.length_set,List.length_set,List.length_set]; omega)]
 rw[h0,h1,h2,h3]
 omega
theorem take_set {ns:List Nat} {i v k:Nat} (h:k≤i):(ns.set i v).take k=ns.take k:=by
 refine List.ext_getElem? fun j=>?_
 rw[List.getElem?_take,List.getElem?_take]
 split
 ·rw[List.getElem?_set_ne (by omega)]
 ·rfl
theorem Zm8 (ns:List Nat):Xw (O3 ns)=Xw ns:=by
 have:(O3 ns).take 252=ns.take 252:=by
  unfold O3 Uh
  rw[take_set (by omega),take_set (by omega),take_set (by omega),take_set (by omega)]
 unfold Xw
 rw[this]
theorem Zhn (ns:List Nat) {i n:Nat} (h:i+n≤252):Dc (O3 ns) i n=Dc ns i n:=by
 have:((O3 ns).drop i).take n=(ns.drop i).take n:=by
  rw[List.take_drop,List.take_drop]
  congr 1
  unfold O3 Uh
  rw[take_set (by omega),take_set (by omega),take_set (by omega),take_set (by omega)]
 unfold Dc
 rw[this]
theorem Zsn (ns:List Nat) {i:Nat} (h:i<252):atN (O3 ns) i=atN ns i:=by
 unfold O3 Uh
 rw[Q9 (by omega),Q9 (by omega),Q9 (by omega),Q9 (by omega)]
theorem Zef (ns:List Nat) {i:Nat} (h:i<250):U7 (O3 ns) i=U7 ns i:=by
 unfold U7
 rw[Zsn _ (by omega),Zsn _ (by omega)]
theorem Te (ns:List Nat):∀ (a i:Nat),i+8 * a≤240→Bg (O3 ns) a i=Bg ns a i
 | 0,_,_=>rfl
 | a+1,i,h=>by
  rw[Bg,Bg,Te ns a (i+8) (by omega)]
  unfold getD
  rw[Zef _ (by omega),Zef _ (by omega),Zef _ (by omega)]
theorem Zdv (ns:List Nat):∀ (a i:Nat),i+8 * a≤240→Ml (O3 ns) a i=Ml ns a i
 | 0,_,_=>rfl
 | a+1,i,h=>by rw[Ml,Ml,Zdv ns a (i+8) (by omega),Zhn _ (by omega)]
def wD (d:Dq):Dq:=(w2 d.1,w2 d.2.1,w2 d.2.2)
theorem Zyh {d:Dq} (h:d.1<65536∧d.2.1<65536∧d.2.2<65536):wD d=d:=by
 unfold wD
 rw[Zwo h.1,Zwo h.2.1,Zwo h.2.2]
theorem tell1 (q x y:Nat):Bg (Ea [(q,x,y)] 0 Ou) 1 0=[wD (q,x,y)]∧Ml (Ea [(q,x,y)] 0 Ou) 1 0=true∧Dc (Ea [(q,x,y)] 0 Ou) 8 244=true:=⟨by kernel_rfl,by kernel_rfl,by kernel_rfl⟩
theorem tell2 (q x y q1 x1 y1:Nat):Bg (Ea [(q,x,y),(q1,x1,y1)] 0 Ou) 2 0=[wD (q,x,y),wD (q1,x1,y1)]∧Ml (Ea [(q,x,y),(q1,x1,y1)] 0 Ou) 2 0=true∧Dc (Ea [(q,x,y),(q1,x1,y1)] 0 Ou) 16 236=true:=⟨by kernel_rfl,by kernel_rfl,by kernel_rfl⟩
theorem tell3 (q x y q1 x1 y1 q2 x2 y2:Nat):Bg (Ea [(q,x,y),(q1,x1,y1),(q2,x2,y2)] 0 Ou) 3 0=[wD (q,x,y),wD (q1,x1,y1),wD (q2,x2,y2)]∧Ml (Ea [(q,x,y),(q1,x1,y1),(q2,x2,y2)] 0 Ou) 3 0=true∧Dc (Ea [(q,x,y),(q1,x1,y1),(q2,x2,y2)] 0 Ou) 24 228=true:=⟨by kernel_rfl,by kernel_rfl,by kernel_rfl⟩
theorem tell4 (q x y q1 x1 y1 q2 x2 y2 q3 x3 y3:Nat):Bg (Ea [(q,x,y),(q1,x1,y1),(q2,x2,y2),(q3,x3,y3)] 0 Ou) 4 0=[wD (q,x,y),wD (q1,x1,y1),wD (q2,x2,y2),wD (q3,x3,y3)]∧Ml (Ea [(q,x,y),(q1,x1,y1),(q2,x2,y2),(q3,x3,y3)] 0 Ou) 4 0=true∧Dc (Ea [(q,x,y),(q1,x1,y1),(q2,x2,y2),(q3,x3,y3)] 0 Ou) 32 220=true:=⟨by kernel_rfl,by kernel_rfl,by kernel_rfl⟩
theorem Zhp {a b c d:Nat} (f:Jm a b c d=true):Bg (Ea (G5 a b c) 0 Ou) a 0=G5 a b c∧Ml (Ea (G5 a b c) 0 Ou) a 0=true∧Dc (Ea (G5 a b c) 0 Ou) (8 * a) (252 - 8 * a)=true:=by
 obtain⟨g1,g2,g3,g4,g5,g6,g7,g8,g9,g10,g11⟩:=Z0 f
 have e0:wD (b - 2 - c / 4,c - 1,1)=(b - 2 - c / 4,c - 1,1):=Zyh ⟨by simp only; omega,by simp only; omega,by simp only; omega⟩
 have e1:wD (b - 2 - c / 4,c,0)=(b - 2 - c / 4,c,0):=Zyh ⟨by simp only; omega,by simp only; omega,by simp only; omega⟩
 obtain rfl|rfl|rfl|rfl:a=1∨a=2∨a=3∨a=4:=by omega
 ·have:=tell1 (b - 2 - c / 4) (c - 1) 1
  rw[e0] at this
  exact this
 ·have:=tell2 (b - 2 - c / 4) (c - 1) 1 (b - 2 - c / 4) c 0
  rw[e0,e1] at this
  exact this
 ·have:=tell3 (b - 2 - c / 4) (c - 1) 1 (b - 2 - c / 4) c 0 (b - 2 - c / 4) c 0
  rw[e0,e1] at this
  exact this
 ·have:=tell4 (b - 2 - c / 4) (c - 1) 1 (b - 2 - c / 4) c 0 (b - 2 - c / 4) c 0 (b - 2 - c / 4) c 0
  rw[e0,e1] at this
  exact this
theorem Zqe {a b c d:Nat} (f:Jm a b c d=true):Bg (unN (Rl a b c)) a 0=G5 a b c:=by
 obtain⟨g1,g2,g3,g4,g5,g6,g7,g8,g9,g10,g11⟩:=Z0 f
 unfold Rl
 rw[Bf,Ty,Te _ _ _ (by omega)]
 exact (Zhp f).1
theorem Zpp {a b c d:Nat} (f:Jm a b c d=true):goodD (unN (Rl a b c)) a b c=true:=by
 obtain⟨g1,g2,g3,g4,g5,g6,g7,g8,g9,g10,g11⟩:=Z0 f
 obtain⟨t1,t2,t3⟩:=Zhp f
 unfold Rl
 rw[Bf,Qr]
 have q1:Yn (O3 (Ea (G5 a b c) 0 Ou)) 252=Xw (O3 (Ea (G5 a b c) 0 Ou)):=by
  rw[Zm8]
  exact Zn1 (by rw[Sv,Rn]; omega) (Zqv _)
 unfold goodD
 rw[q1,Nat.beq_refl,Zhn _ (by omega),t3,Zdv _ _ _ (by omega),t2,Te _ _ _ (by omega),t1,Zbd (by omega)]
 rfl
theorem Zts (a b c:Nat):Zij (Rl a b c)=true:=Zml _
end Go.Proofs.YtngejdlimkgjfaaGreatDoor
set_option maxRecDepth 100000
set_option maxHeartbeats 4000000
namespace Go.Proofs.YtngejdlimkgjfaaGreatDoor
open Go.Ev
theorem rs31:Tryz.f31.results.toList=[.tmp 2,.tmp 3]:=rfl
theorem rs39:Tryz.f39.results.toList=[.tmp 12]:=rfl
attribute [go_sem] rs31 rs39
theorem Lp {sz k j:Nat} {L:List (List C)} {x:List C} {c:C} (hx:L[k]? = some x) (xl:x.length=sz) (hj:j<sz):Z5 sz L (k * sz+j) [c]=some (L.set k (x.set j c)):=by
 have e1:(k * sz+j) / sz=k:=by rw[Nat.mul_comm,Nat.mul_add_div (by omega),Nat.div_eq_of_lt hj,Nat.add_zero]
 have e2:(k * sz+j) % sz=j:=by rw[Nat.mul_comm,Nat.mul_add_mod,Nat.mod_eq_of_lt hj]
 simp only[Z5,e1,e2,hx]
 rw[Zez (by omega),cond_true]
section
variable (Hh:Hearts K Tryz.prog)
include Hh
variable {n q a b c e w:Nat} {cr md:Int} {kn:Bool} {lc:J9} {L:List (List C)} {h:Go.Ev.H}
theorem Zst (f:Jm a b c e=true) (M:MhE n q a b c e cr md w kn lc L h) {Y:List C} (hY:At lc L 1 Y) (Yl:Y.length=256) (bd:Zij Y=true) (gd:goodD (unN Y) a b c=true) {D:List Dq} (td:Bg (unN Y) a 0=D) (Dl:D.length=a) :
  ∃ h' p,Ze K Tryz.prog 31 [.c (.ptr (n+13) 0)] h (.tup [.c (.slice p 0 a 3),.c (.int .i64 0)]) h'∧MhE n q a b c e cr md w kn lc L h'∧h.next≤p∧p<h'.next∧h'.get p=some (.row 3 (D.map Oh) false)∧∀ m,m<h.next→m≠n+6→h'.get m=h.get m:=by
 obtain⟨g1,g2,g3,g4,g5,g6,g7,g8,g9,g10,g11⟩:=Z0 f
 have Yf:Y.all C.flat=true:=by
  obtain⟨ns,rfl,_⟩:=Zfy bd
  exact Fs ns
 obtain⟨hG,e1,rG,nG,MG⟩:=M.get f (z:=1) (Znk a b c e) (by omega) hY Yl Yf
 have c1:Ze K Tryz.prog 34 [.c (.ptr (n+13) 0),.c (.int .i64 1)] h (.tup [.g Y,.c (.int .i64 0)]) hG:=Wl Hh e1
 obtain⟨nq,nx⟩:=M.nx
 obtain⟨st,hs,gl⟩:hG.get 0=some O1∧hG.get (n+13)=some (.row 8 [stL (stG n q kn)] false)∧hG.get (n+12)=some (.row 9 [gdL (gdN n a b c e md)] false):=by
  obtain⟨lt,lm,_,_,_,_,_,_,M⟩:=MG
  exact⟨M.st,M.hs,M.hg⟩
 obtain⟨hs0,gl0⟩:h.get (n+13)=some (.row 8 [stL (stG n q kn)] false)∧h.get (n+12)=some (.row 9 [gdL (gdN n a b c e md)] false):=by
  obtain⟨lt,lm,_,_,_,_,_,_,M⟩:=M
  exact⟨M.hs,M.hg⟩
 unfold gdL gdN at gl gl0
 have n0:0<n:=by
  obtain⟨lt,lm,_,_,_,_,_,_,M⟩:=M
  exact M.n0
 obtain⟨v,h',cc,p,rfl,M',p1,p2,p3,hk⟩:∃ v h',Ze K Tryz.prog 31 [.c (.ptr (n+13) 0)] h v h'∧∃ p,v=.tup [.c (.slice p 0 a 3),.c (.int .i64 0)]∧MhE n q a b c e cr md w kn lc L h'∧h.next≤p∧p<h'.next∧h'.get p=some (.row 3 (D.map Oh) false)∧∀ m,m<h.next→m≠n+6→h'.get m=h.get m:=by
  refine Ze.Z8 fits Hh (by kernel_rfl) (by kernel_rfl) (by kernel_rfl) (show Tryz.f31.body=some _ from rfl) rfl ?_
  iterate 3 (first|apply Goes.seq|(apply Goes.ops2 fits Hh Zc; · simp (maxSteps:=9^6) +decide (disch:=first|omega|(simp only[lens]<;>omega)|decide) only [go_sem,Za,simprocAttr,f,st,hs,gl,hs0,gl0,stG,Y6,Yl,bd,gd,td,Dl,read1]<;>rfl))
  iterate 7 (first|apply Goes.seq|apply Goes.skip|((first|apply Goes.Zr|apply Goes.ops2 fits Hh (Zy Zc c1)); · simp (maxSteps:=9^6) +decide (disch:=first|omega|(simp only[lens]<;>omega)|decide) only [go_sem,Za,simprocAttr,Z7,f,st,hs,gl,hs0,gl0,stG,Y6,Yl,bd,gd,td,Dl,read1]<;>rfl))
  iterate 2 (first|apply Goes.ret|(apply Goes.drawn2 fits Hh (Zh (Zh Zc (fun _ _ _ _=>U6 Hh)) (fun _ _ _ _=>Z1e Hh)) (by kernel_rfl); · simp (maxSteps:=9^6) +decide (disch:=first|omega|(simp only[lens]<;>omega)|decide) only [go_sem,Za,simprocAttr,Js,Y2,Jd,Jo,Yv,Jp,Jf,Ye,Ja,Jr,Ux,Jg,Ya,Ym,Yh,Yg,Je,Yt,Y0,Yd,Yu,Jb,Oy,U8,Oj,Ee,Ep,Ue,Ug,Jn,Om,Uj,Ur,Jq,Y1,Uo,looks,O5,Op.operands,Call.operands,kd,Ud,List.filterMap_cons,List.filterMap_nil,List.append_nil,List.nil_append,List.cons_append,Ji,stable,Jl,J4,Jt,waits,Yr,List.all_cons,List.all_nil,List.any_cons,List.any_nil,Region.binds,Bool.or_true,Bool.true_or,Bool.and_true,Bool.true_and,Bool.or_false,Bool.false_or,Bool.and_self,Bool.or_self,Jc,Nat.le_refl,Nat.le_add_right,List.map_cons,Array.toList_append,f,st,hs,gl,hs0,gl0,stG,Y6,Yl,bd,gd,td,Dl,read1]<;>rfl))
  refine⟨_,_,(by simp (maxSteps:=9^6) +decide (disch:=first|omega|(simp only[lens]<;>omega)|decide) only [go_sem,Za,simprocAttr]<;>rfl),_,rfl,MG.keep ?_ (fun m hm=>?_),?_,?_,?_,fun m hm hne=>?_⟩
  ·first|omega|(simp only[H.Zg,H.Zd]<;>omega)
  ·(first|(simp (discharger:=omega) only [H.get_put,H.Zi,H.Zm,H.Zd,H.Zg,H.Zj,if_neg]; done)|(simp only[H.get_put,H.Zi,H.Zm,H.Zd,H.Zg,H.Zj]; (repeat' split)<;>first|rfl|(exfalso; omega)|omega))
  ·first|omega|(simp only[H.Zg,H.Zd]<;>omega)
  ·first|omega|(simp only[H.Zg,H.Zd]<;>omega)
  ·simp (maxSteps:=9^6) +decide (disch:=first|omega|(simp only[lens]<;>omega)|decide) only [go_sem,Za,simprocAttr]<;>rfl
  ·refine Eq.trans ?_ (rG.2.1 m hm hne); (first|(simp (discharger:=omega) only [H.get_put,H.Zi,H.Zm,H.Zd,H.Zg,H.Zj,if_neg]; done)|(simp only[H.get_put,H.Zi,H.Zm,H.Zd,H.Zg,H.Zj]; (repeat' split)<;>first|rfl|(exfalso; omega)|omega))
 exact⟨h',p,cc,M',p1,p2,p3,hk⟩
theorem Zn8 (f:Jm a b c e=true) (M:MhE n q a b c e cr md w kn lc L h) (wc:(w:Int)+3≤cr) {j:Nat} (jl:j<a * c) {ns ms:List Nat} (hx:At lc L (Jv b c e j) (pgL ns)) (nl:ns.length=256) (ml:ms.length=256) {y mB:List C} (yl:y.length=16) (bl:mB.length=256) (bf:mB.all C.flat=true)
  {F pD pq:Nat} {D D':List Dq} (hp:h.get pD=some (.row 3 (D.map Oh) false)) (Dl:D.length=a) (Dl':D'.length=a) (Dm:D'.all (Tv (b - 2 - c / 4) c)=true) (pl:pD<h.next) (p32:q+9≤pD)
  (hF:∀ h2,(∀ m,m<h.next→Off n q m→h2.get m=h.get m)→Ze K Tryz.prog F [.c (.ptr pD (j / c * 3)),.c (.ptr pq 0)] h2 (.tup []) (h2.put pD (.row 3 (D'.map Oh) false)))
  (hi:∀ h m,h.get m=some (.row 256 [pgL ns] false)→m<h.next→∃ h',Ze K Tryz.prog 60 [.c (.ptr m 0),.c (.int .i64 (Gy c j:Nat)),.g y] h (.w (.c (.int .i64 0))) h'∧h.next≤h'.next∧h'.get m=some (.row 256 [pgL ms] false)∧∀ k,k<h.next→k≠m→h'.get k=h.get k) :
  ∃ h',Ze K Tryz.prog 39 [.c (.ptr (n+13) 0),.c (.int .i64 ((j+1:Nat):Int)),.g mB,.c (.slice pD 0 a 3),.g y,.c (.fn F [] [some (pq,0)])] h (.w (.c (.int .i64 0))) h'∧MhE n q a b c e cr md (w+3) false (J2 ((Jv b c e j:Nat):Int) (pgL ms) (J2 1 (pgL (O3 (Ea D' 0 Ou))) (J2 ((2+e+j / c * b+1:Nat):Int) mB lc))) L h'∧h.next≤h'.next∧∀ m,m<h.next→Off n q m→m≠pD→h'.get m=h.get m:=by
 obtain⟨g1,g2,g3,g4,g5,g6,g7,g8,g9,g10,g11⟩:=Z0 f
 have ka:j / c<a:=Nat.div_lt_of_lt_mul (by rw[Nat.mul_comm]; omega)
 have st:=Uf (b:=b) ka
 obtain⟨k,kj⟩:∃ k,j / c=k:=⟨_,rfl⟩
 rw[kj] at ka st hF ⊢
 obtain⟨zb,hb⟩:∃ z,2+e+k * b+1=z:=⟨_,rfl⟩
 rw[hb]
 have zbl:zb<2+e+a * b:=by omega
 have ob:=T9 (z:=zb) (Z0 f) (by omega) zbl
 have t1:((j+1:Nat):Int).toNat - 1=j:=by omega
 have d1:decide (1≤((j+1:Nat):Int))=true:=decide_eq_true (by omega)
 have d2:decide (((j+1:Nat):Int)≤((a * c:Nat):Int))=true:=decide_eq_true (by omega)
 obtain⟨nq,nx⟩:=M.nx
 have n0:0<n:=by
  obtain⟨lt,lm,_,_,_,_,_,_,M⟩:=M
  exact M.n0
 have hsg:∀ {kn:Bool} {w:Nat} {lc:J9} {h:Go.Ev.H},MhE n q a b c e cr md w kn lc L h→h.get 0=some O1∧h.get (n+13)=some (.row 8 [stL (stG n q kn)] false)∧h.get (n+12)=some (.row 9 [gdL (gdN n a b c e md)] false):=fun M=>by
  obtain⟨lt,lm,_,_,_,_,_,_,M⟩:=M
  exact⟨M.st,M.hs,M.hg⟩
 obtain⟨Y,hY⟩:∃ Y,pgL (O3 (Ea D' 0 Ou))=Y:=⟨_,rfl⟩
 have Yl:Y.length=256:=by rw[←hY,De,O3,Yj,Sv]; exact Rn
 have Yf:Y.all C.flat=true:=by rw[←hY]; exact Fs _
 have ne1:∀ j,j<a * c→Jv b c e j≠1:=fun j _=>by unfold Jv; omega
 have nb:Jv b c e j≠zb:=by
  unfold Jv
  rw[kj,←hb]
  omega
 have hW:=fun {w:Nat} {kn:Bool} {lc:J9} {h:Go.Ev.H} (M:MhE n q a b c e cr md w kn lc L h) (wc:(w:Int)<cr) (hx:At lc L (Jv b c e j) (pgL ns))=>Zsd Hh f M wc jl hx nl ml yl hi
 have at3:At (J2 1 Y (J2 (zb:Int) mB lc)) L (Jv b c e j) (pgL ns):=(hx.upd nb).upd (z:=1) (ne1 j jl)
 rw[hY]
 clear hi
 obtain⟨v,h',cc,rfl,M',nn,hkk⟩:∃ v h',Ze K Tryz.prog 39 [.c (.ptr (n+13) 0),.c (.int .i64 ((j+1:Nat):Int)),.g mB,.c (.slice pD 0 a 3),.g y,.c (.fn F [] [some (pq,0)])] h v h'∧v=.w (.c (.int .i64 0))∧MhE n q a b c e cr md (w+3) false (J2 ((Jv b c e j:Nat):Int) (pgL ms) (J2 1 Y (J2 (zb:Int) mB lc))) L h'∧h.next≤h'.next∧∀ m,m<h.next→Off n q m→m≠pD→h'.get m=h.get m:=by
  refine Ze.Z8 fits Hh (by kernel_rfl) (by kernel_rfl) (by kernel_rfl) (show Tryz.f39.body=some _ from rfl) rfl ?_
  iterate 3 (first|apply Goes.seq|(apply Goes.ops2 fits Hh Zc; · simp (maxSteps:=9^6) +decide (disch:=first|omega|(simp only[lens]<;>omega)|decide) only [go_sem,Za,simprocAttr,f,stG,Y6,t1,d1,d2,kj,hb,bl,yl,Nat.zero_add,Ed,List.map_cons,List.map_nil,List.cons_append,List.nil_append,read1,Zw]<;>rfl))
  have X0:=hsg M
  obtain⟨_,hs0,gl0⟩:=X0
  unfold gdL gdN at gl0
  iterate 3 (first|apply Goes.seq|(apply Goes.ops2 fits Hh (Zh (Zh Zc (fun _ _ _ _=>U6 Hh)) (fun _ _ _ _=>Li Hh)); · simp (maxSteps:=9^6) +decide (disch:=first|omega|(simp only[lens]<;>omega)|decide) only [go_sem,Za,simprocAttr,f,stG,Y6,t1,d1,d2,kj,hb,bl,yl,Nat.zero_add,Ed,List.map_cons,List.map_nil,List.cons_append,List.nil_append,hs0,gl0,read1,Zw]<;>rfl))
  refine Goes.abs fun hA eA=>?_
  have nA:hA.next=h.next+1+1:=by rw[eA]; first|rfl|simp only[H.Zg,H.Zd]
  have kA:∀ m,m<h.next→hA.get m=h.get m:=fun m hm=>by rw[eA]; (first|(simp (discharger:=omega) only [H.get_put,H.Zi,H.Zm,H.Zd,H.Zg,H.Zj,if_neg]; done)|(simp only[H.get_put,H.Zi,H.Zm,H.Zd,H.Zg,H.Zj]; (repeat' split)<;>first|rfl|(exfalso; omega)|omega))
  have bA:hA.get h.next=some (.row 256 [mB] false):=by rw[eA]; simp (maxSteps:=9^6) +decide (disch:=first|omega|(simp only[lens]<;>omega)|decide) only [go_sem,Za,simprocAttr,bl]<;>rfl
  have cA:hA.get (h.next+1)=some (.row 16 [y] false):=by rw[eA]; simp (maxSteps:=9^6) +decide (disch:=first|omega|(simp only[lens]<;>omega)|decide) only [go_sem,Za,simprocAttr,yl]<;>rfl
  clear eA
  have MA:=M.keep (h2:=hA) (by omega) (fun m hm=>kA m (by omega))
  obtain⟨_,hsA,glA⟩:=hsg MA
  unfold gdL gdN at glA
  obtain⟨hB,e1,MB,nB,kB⟩:=MA.put f ob zbl bl bf (by omega)
  have c1:=Zbz Hh e1
  iterate 6 (first|apply Goes.seq|apply Goes.skip|((first|apply Goes.Zr|apply Goes.ops2 fits Hh (Zy (Zh (Zh Zc (fun _ _ _ _=>U6 Hh)) (fun _ _ _ _=>Dx Hh)) c1)); · simp (maxSteps:=9^6) +decide (disch:=first|omega|(simp only[lens]<;>omega)|decide) only [go_sem,Za,simprocAttr,Z7,f,stG,Y6,t1,d1,d2,kj,hb,bl,yl,Nat.zero_add,Ed,List.map_cons,List.map_nil,List.cons_append,List.nil_append,hs0,gl0,nA,bA,hsA,glA,read1,Zw]<;>rfl)|(apply Goes.drawn2 fits Hh (Zy (Zh (Zh Zc (fun _ _ _ _=>U6 Hh)) (fun _ _ _ _=>Dx Hh)) c1) (by kernel_rfl); · simp (maxSteps:=9^6) +decide (disch:=first|omega|(simp only[lens]<;>omega)|decide) only [go_sem,Za,simprocAttr,Js,Y2,Jd,Jo,Yv,Jp,Jf,Ye,Ja,Jr,Ux,Jg,Ya,Ym,Yh,Yg,Je,Yt,Y0,Yd,Yu,Jb,Oy,U8,Oj,Ee,Ep,Ue,Ug,Jn,Om,Uj,Ur,Jq,Y1,Uo,looks,O5,Op.operands,Call.operands,kd,Ud,List.filterMap_cons,List.filterMap_nil,List.append_nil,List.nil_append,List.cons_append,Ji,stable,Jl,J4,Jt,waits,Yr,List.all_cons,List.all_nil,List.any_cons,List.any_nil,Region.binds,Bool.or_true,Bool.true_or,Bool.and_true,Bool.true_and,Bool.or_false,Bool.false_or,Bool.and_self,Bool.or_self,Jc,Nat.le_refl,Nat.le_add_right,List.map_cons,Array.toList_append,Z7,f,stG,Y6,t1,d1,d2,kj,hb,bl,yl,Nat.zero_add,Ed,List.map_cons,List.map_nil,List.cons_append,List.nil_append,hs0,gl0,nA,bA,hsA,glA,read1,Zw]<;>rfl))
  have c2:=hF hB (fun m hm ho=>(kB m ho).trans (kA m hm))
  have pB:=(kB pD ⟨by omega,by omega,by omega,by omega,by omega⟩).trans ((kA _ pl).trans hp)
  iterate 2 (first|apply Goes.seq|(apply Goes.ops2 fits Hh (Zy Zc c2); · simp (maxSteps:=9^6) +decide (disch:=first|omega|(simp only[lens]<;>omega)|decide) only [go_sem,Za,simprocAttr,Z7,f,stG,Y6,t1,d1,d2,kj,hb,bl,yl,Nat.zero_add,Ed,List.map_cons,List.map_nil,List.cons_append,List.nil_append,hs0,gl0,nA,bA,hsA,glA,read1,Zw]<;>rfl))
  refine Goes.abs fun hC eC=>?_
  have nC:hC.next=h.next+1+1:=by rw[eC,H.Zg,nB,nA]
  have kC:∀ m,m<h.next+2→Off n q m→m≠pD→hC.get m=hA.get m:=fun m hm ho hne=>by rw[eC,Zp hne]; exact kB m ho
  have pC:hC.get pD=some (.row 3 (D'.map Oh) false):=by rw[eC,Z9]
  have MC:=MB.keep (h2:=hC) (by rw[eC,H.Zg]; omega) (fun m hm=>by rw[eC,Zp (by omega)])
  clear eC
  obtain⟨stC,hsC,glC⟩:=hsg MC
  unfold gdL gdN at glC
  iterate 8 (first|apply Goes.seq|apply Goes.skip|((first|apply Goes.Zr|apply Goes.ops2 fits Hh (Zh (Zh Zc (fun _ _ _ _=>U6 Hh)) (fun _ _ _ _=>Zky Hh))); · simp (maxSteps:=9^6) +decide (disch:=first|omega|(simp only[lens]<;>omega)|decide) only [go_sem,Za,simprocAttr,f,stG,Y6,t1,d1,d2,kj,hb,bl,yl,Nat.zero_add,Ed,List.map_cons,List.map_nil,List.cons_append,List.nil_append,hs0,gl0,nA,bA,hsA,glA,nC,pC,hsC,glC,stC,Dl',Dm,hY,Yl,read1,Zw]<;>rfl))
  refine Goes.abs fun hD eD=>?_
  have nD:hD.next=h.next+1+1+1:=by rw[eD]; simp only[H.Zg,H.Zd,nC]
  have kD:∀ m,m<h.next+2→Off n q m→m≠pD→hD.get m=hA.get m:=fun m hm ho hne=>by rw[eD]; refine Eq.trans ?_ (kC m hm ho hne); (first|(simp (discharger:=omega) only [H.get_put,H.Zi,H.Zm,H.Zd,H.Zg,H.Zj,if_neg]; done)|(simp only[H.get_put,H.Zi,H.Zm,H.Zd,H.Zg,H.Zj]; (repeat' split)<;>first|rfl|(exfalso; omega)|omega))
  have bD:hD.get (h.next+1+1)=some (.row 256 [Y] false):=by rw[eD]; simp (maxSteps:=9^6) +decide (disch:=first|omega|(simp only[lens]<;>omega)|decide) only [go_sem,Za,simprocAttr,nC,Yl]<;>rfl
  have MD:=MC.keep (h2:=hD) (by omega) (fun m hm=>by rw[eD]; (first|(simp (discharger:=omega) only [H.get_put,H.Zi,H.Zm,H.Zd,H.Zg,H.Zj,if_neg]; done)|(simp only[H.get_put,H.Zi,H.Zm,H.Zd,H.Zg,H.Zj]; (repeat' split)<;>first|rfl|(exfalso; omega)|omega)))
  clear eD
  obtain⟨hE,e3,ME,nE,kE⟩:=MD.put f (z:=1) (Znk a b c e) (by omega) Yl Yf (by omega)
  have c3:Ze K Tryz.prog 88 [.c (.ptr (n+13) 0),.c (.int .i64 1),.g Y] hD (.w (.c (.int .i64 0))) hE:=Zbz Hh e3
  iterate 6 (first|apply Goes.seq|apply Goes.skip|((first|apply Goes.Zr|apply Goes.ops2 fits Hh (Zy Zc c3)); · simp (maxSteps:=9^6) +decide (disch:=first|omega|(simp only[lens]<;>omega)|decide) only [go_sem,Za,simprocAttr,Z7,f,stG,Y6,t1,d1,d2,kj,hb,bl,yl,Nat.zero_add,Ed,List.map_cons,List.map_nil,List.cons_append,List.nil_append,hs0,gl0,nA,bA,hsA,glA,nC,pC,hsC,glC,stC,Dl',Dm,hY,Yl,bD,read1,Zw]<;>rfl))
  have cE:=(kE (h.next+1) ⟨by omega,by omega,by omega,by omega,by omega⟩).trans ((kD (h.next+1) (by omega) ⟨by omega,by omega,by omega,by omega,by omega⟩ (by omega)).trans cA)
  have r16:Zf 16 [y] 0 16=some y:=Fp (by omega)
  obtain⟨hF,c4,MF,nF,kF⟩:=hW ME (by omega) at3
  iterate 2 (first|apply Goes.ret|(apply Goes.ops2 fits Hh (Zy Zc c4); · simp (maxSteps:=9^6) +decide (disch:=first|omega|(simp only[lens]<;>omega)|decide) only [go_sem,Za,simprocAttr,Z7,f,stG,Y6,t1,d1,d2,kj,hb,bl,yl,Nat.zero_add,Ed,List.map_cons,List.map_nil,List.cons_append,List.nil_append,hs0,gl0,nA,bA,hsA,glA,nC,pC,hsC,glC,stC,Dl',Dm,hY,Yl,bD,cE,r16,read1,Zw]<;>rfl))
  exact⟨_,_,(by simp (maxSteps:=9^6) +decide (disch:=first|omega|(simp only[lens]<;>omega)|decide) only [go_sem,Za,simprocAttr]<;>rfl),rfl,MF,(by omega),fun m hm ho hne=>(kF m (by omega) ho).trans ((kE m ho).trans ((kD m (by omega) ho hne).trans (kA m hm)))⟩
 exact⟨h',cc,M',nn,hkk⟩
end
end Go.Proofs.YtngejdlimkgjfaaGreatDoor
