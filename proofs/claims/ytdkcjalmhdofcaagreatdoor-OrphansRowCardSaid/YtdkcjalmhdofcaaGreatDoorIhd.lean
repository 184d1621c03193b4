/- inodes.descs, inodes.change, over any store whose handle is open. -/
import Derived.Test.YtdkcjalmhdofcaaGreatDoorIhg
import Derived.Test.YtdkcjalmhdofcaaGreatDoorDsg
import Derived.Test.YtdkcjalmhdofcaaGreatDoorHba
import Derived.Test.YtdkcjalmhdofcaaGreatDoorBits
set_option linter.unusedSimpArgs false
set_option linter.unusedVariables false
set_option linter.unusedSectionVars false
set_option maxRecDepth 100000
set_option maxHeartbeats 4000000
namespace Go.Proofs.YtdkcjalmhdofcaaGreatDoor
open Go.Ev
theorem rs28:Tryz.f28.results.toList=[.tmp 2,.tmp 3]:=rfl
theorem rs36:Tryz.f36.results.toList=[.tmp 12]:=rfl
attribute [go_sem] rs28 rs36
theorem Xy {sz k j:Nat} {L:List (List C)} {x:List C} {c:C} (hx:L[k]? = some x) (xl:x.length=sz) (hj:j<sz):Z4 sz L (k * sz+j) [c]=some (L.set k (x.set j c)):=by
 have e1:(k * sz+j) / sz=k:=by rw[Nat.mul_comm,Nat.mul_add_div (by omega),Nat.div_eq_of_lt hj,Nat.add_zero]
 have e2:(k * sz+j) % sz=j:=by rw[Nat.mul_comm,Nat.mul_add_mod,Nat.mod_eq_of_lt hj]
 simp only[Z4,e1,e2,hx]
 rw[Zei (by omega),cond_true]
def Zgb (g:Nat→Bool):List Nat:=(List.range 256).map (byB g)
theorem Zt7 (g:Nat→Bool):(Zgb g).length=256:=by simp [Zgb]
theorem Zs7 (g:Nat→Bool):Oo g=pgL (Zgb g):=by
 unfold Oo pgL Zgb
 rw[List.map_map]
 refine List.map_congr_left fun t _=>?_
 show C.int .u8 ((byB g t:Nat):Int)=.int .u8 ((byB g t % 256:Nat):Int)
 rw[Nat.mod_eq_of_lt (R4 g t)]
def Zco (D:List Bc):List Nat:=Bf (D9 D 0 Ow)
theorem Zlc (D:List Bc):(Zco D).length=256:=by unfold Zco; rw[Bf,Yf,Zfs]; exact Zif
def Des (V:Nat→List Nat) (a b c:Nat) (D:List Bc):Prop:=goodD (V 1) a b c=true∧Gp (V 1) a 0=D∧D.length=a
section
variable (Hh:Hearts K Tryz.prog)
include Hh
variable {n q a b c e:Nat} {cr md:Int} {S T:List Nat} {V:Nat→List Nat} {h:Go.Ev.H}
theorem Zys (f:U4 a b c e=true) (M:HE n q a b c e cr md S T V h) {D:List Bc} (dd:Des V a b c D) :
  ∃ h' p,Zg K Tryz.prog 28 [.c (.ptr (n+13) 0)] h (.tup [.c (.slice p 0 a 3),.c (.int .i64 0)]) h'∧HE n q a b c e cr md S T V h'∧Kr n q h h'∧h.next≤p∧p<h'.next∧h'.get p=some (.row 3 (D.map O4) false):=by
 obtain⟨g1,g2,g3,g4,g5,g6,g7,g8,g9,g10,g11⟩:=Yc f
 obtain⟨gd,td,Dl⟩:=dd
 obtain⟨hG,e1,MG,nG,rG⟩:=M.get f (z:=1) (Zfl a b c e) (by omega)
 have c1:Zg K Tryz.prog 31 [.c (.ptr (n+13) 0),.c (.int .i64 1)] h (.tup [.g (pgL (V 1)),.c (.int .i64 0)]) hG:=Tg Hh e1
 have Yl:(pgL (V 1)).length=256:=by rw[Ob]; exact M.len (z:=1) (Zfl a b c e) (by omega)
 have bd:=Zik (V 1)
 have gd':goodD (unN (pgL (V 1))) a b c=true:=by rw[Om,Np]; exact gd
 have td':Gp (unN (pgL (V 1))) a 0=D:=by rw[Om,La]; exact td
 obtain⟨Y,hY⟩:∃ Y,pgL (V 1)=Y:=⟨_,rfl⟩
 rw[hY] at c1 Yl bd gd' td'
 obtain⟨nq,nx,n0⟩:=M.nx
 obtain⟨st,⟨kn,hs⟩,⟨dk,gl⟩,ht⟩:=MG.cells
 obtain⟨st0,⟨kn0,hs0⟩,⟨dk0,gl0⟩,ht0⟩:=M.cells
 unfold gdL gdD at gl gl0
 obtain⟨v,h',cc,p,rfl,M',hk,p1,p2,p3⟩:∃ v h',Zg K Tryz.prog 28 [.c (.ptr (n+13) 0)] h v h'∧∃ p,v=.tup [.c (.slice p 0 a 3),.c (.int .i64 0)]∧HE n q a b c e cr md S T V h'∧Kr n q h h'∧h.next≤p∧p<h'.next∧h'.get p=some (.row 3 (D.map O4) false):=by
  refine Zg.Yb fits Hh (by kernel_rfl) (by kernel_rfl) (by kernel_rfl) (show Tryz.f28.body=some _ from rfl) rfl ?_
  iterate 3 (first|apply Goes.seq|(apply Goes.ops2 fits Hh Zb; · simp (maxSteps:=9^6) +decide (disch:=first|omega|(simp only[lens]<;>omega)|decide) only [go_sem,Za,simprocAttr,f,st,hs,gl,hs0,gl0,stG,Yo,Yl,bd,gd',td',Dl,read1]<;>rfl))
  iterate 7 (first|apply Goes.seq|apply Goes.skip|((first|apply Goes.Zo|apply Goes.ops2 fits Hh (Zt Zb c1)); · simp (maxSteps:=9^6) +decide (disch:=first|omega|(simp only[lens]<;>omega)|decide) only [go_sem,Za,simprocAttr,Zw,f,st,hs,gl,hs0,gl0,stG,Yo,Yl,bd,gd',td',Dl,read1]<;>rfl))
  iterate 2 (first|apply Goes.ret|(apply Goes.drawn2 fits Hh (Zj (Zj Zb (fun _ _ _ _=>Gy Hh)) (fun _ _ _ _=>Zx1 Hh)) (by kernel_rfl); · simp (maxSteps:=9^6) +decide (disch:=first|omega|(simp only[lens]<;>omega)|decide) only [go_sem,Za,simprocAttr,drG,f,st,hs,gl,hs0,gl0,stG,Yo,Yl,bd,gd',td',Dl,read1]<;>rfl))
  refine⟨_,_,(by simp (maxSteps:=9^6) +decide (disch:=first|omega|(simp only[lens]<;>omega)|decide) only [go_sem,Za,simprocAttr]<;>rfl),_,rfl,MG.keep ?_ (fun m hm=>?_),⟨?_,fun m hm hne=>?_⟩,?_,?_,?_⟩
  ·first|omega|(simp only[H.Zh,H.Zc]<;>omega)
  ·(first|(simp (discharger:=omega) only [H.get_put,H.Zf,H.Zk,H.Zc,H.Zh,H.Zi,if_neg]; done)|(simp only[H.get_put,H.Zf,H.Zk,H.Zc,H.Zh,H.Zi]; (repeat' split)<;>first|rfl|(exfalso; omega)|omega))
  ·first|omega|(simp only[H.Zh,H.Zc]<;>omega)
  ·refine Eq.trans ?_ (rG m hm hne); (first|(simp (discharger:=omega) only [H.get_put,H.Zf,H.Zk,H.Zc,H.Zh,H.Zi,if_neg]; done)|(simp only[H.get_put,H.Zf,H.Zk,H.Zc,H.Zh,H.Zi]; (repeat' split)<;>first|rfl|(exfalso; omega)|omega))
  ·first|omega|(simp only[H.Zh,H.Zc]<;>omega)
  ·first|omega|(simp only[H.Zh,H.Zc]<;>omega)
  ·simp (maxSteps:=9^6) +decide (disch:=first|omega|(simp only[lens]<;>omega)|decide) only [go_sem,Za,simprocAttr]<;>rfl
 exact⟨h',p,cc,M',hk,p1,p2,p3⟩
theorem Zul (f:U4 a b c e=true) (M:HE n q a b c e cr md S T V h) {j:Nat} (jl:j<a * c) (s1:Y6 b c e j∈S∧Y6 b c e j ∉ T) (s2:1∈S∧1 ∉ T) (s3:2+e+j / c * b+1∈S∧2+e+j / c * b+1 ∉ T) {ms nb:List Nat} (ml:ms.length=256) (nbl:nb.length=256) {y:List C} (yl:y.length=16)
  {F pD pq:Nat} {D D':List Bc} (hp:h.get pD=some (.row 3 (D.map O4) false)) (Dl:D.length=a) (Dl':D'.length=a) (Dm:D'.all (Zf3 (b - 2 - c / 4) c)=true) (pl:pD<h.next) (p32:q+9≤pD)
  (hF:∀ h2,(∀ m,m<h.next→Out n q m→h2.get m=h.get m)→Zg K Tryz.prog F [.c (.ptr pD (j / c * 3)),.c (.ptr pq 0)] h2 (.tup []) (h2.put pD (.row 3 (D'.map O4) false)))
  (hi:∀ h m,h.get m=some (.row 256 [pgL (V (Y6 b c e j))] false)→m<h.next→∃ h',Zg K Tryz.prog 135 [.c (.ptr m 0),.c (.int .i64 (Dx c j:Nat)),.g y] h (.w (.c (.int .i64 0))) h'∧h.next≤h'.next∧h'.get m=some (.row 256 [pgL ms] false)∧∀ k,k<h.next→k≠m→h'.get k=h.get k) :
  ∃ h',Zg K Tryz.prog 36 [.c (.ptr (n+13) 0),.c (.int .i64 ((j+1:Nat):Int)),.g (pgL nb),.c (.slice pD 0 a 3),.g y,.c (.fn F [] [some (pq,0)])] h (.w (.c (.int .i64 0))) h'∧HE n q a b c e cr md S T (Gi (Gi (Gi V (2+e+j / c * b+1) nb) 1 (Zco D')) (Y6 b c e j) ms) h'∧h.next≤h'.next∧∀ m,m<h.next→Out n q m→m≠pD→h'.get m=h.get m:=by
 obtain⟨g1,g2,g3,g4,g5,g6,g7,g8,g9,g10,g11⟩:=Yc f
 have ka:j / c<a:=Nat.div_lt_of_lt_mul (by rw[Nat.mul_comm]; omega)
 have st:=Mx (b:=b) ka
 obtain⟨k,kj⟩:∃ k,j / c=k:=⟨_,rfl⟩
 rw[kj] at ka st hF s3 ⊢
 obtain⟨zb,hb⟩:∃ z,2+e+k * b+1=z:=⟨_,rfl⟩
 rw[hb] at s3 ⊢
 have zbl:zb<2+e+a * b:=by omega
 have ob:=Mw (z:=zb) (Yc f) (by omega) zbl
 have t1:((j+1:Nat):Int).toNat - 1=j:=by omega
 have d1:decide (1≤((j+1:Nat):Int))=true:=decide_eq_true (by omega)
 have d2:decide (((j+1:Nat):Int)≤((a * c:Nat):Int))=true:=decide_eq_true (by omega)
 obtain⟨nq,nx,n0⟩:=M.nx
 have bl:(pgL nb).length=256:=by rw[Ob,nbl]
 have ne1:Y6 b c e j≠1:=by unfold Y6; omega
 have nez:Y6 b c e j≠zb:=by
  unfold Y6
  rw[kj,←hb]
  omega
 have hB1:=fun {h:Go.Ev.H} (M:HE n q a b c e cr md S T V h)=>M.put f ob zbl nbl s3.1 s3.2
 have hB2:=fun {V:Nat→List Nat} {h:Go.Ev.H} (M:HE n q a b c e cr md S T V h)=>M.put f (z:=1) (Zfl a b c e) (by omega) (Zlc D') s2.1 s2.2
 have hW:=fun {h:Go.Ev.H} (M:HE n q a b c e cr md S T (Gi (Gi V zb nb) 1 (Zco D')) h)=>Zqk Hh f M jl s1.1 s1.2 ml yl (by
  rw[Gq ne1,Gq nez]
  exact hi)
 obtain⟨mB,hmB⟩:∃ x,pgL nb=x:=⟨_,rfl⟩
 obtain⟨Y,hY⟩:∃ Y,pgL (Zco D')=Y:=⟨_,rfl⟩
 have Yl:Y.length=256:=by rw[←hY,Ob,Zlc]
 have hY':pgL (Bf (D9 D' 0 Ow))=Y:=hY
 rw[hmB] at bl ⊢
 simp only[hmB] at hB1
 simp only[hY] at hB2
 clear hi
 obtain⟨v,h',cc,rfl,M',nn,hkk⟩:∃ v h',Zg K Tryz.prog 36 [.c (.ptr (n+13) 0),.c (.int .i64 ((j+1:Nat):Int)),.g mB,.c (.slice pD 0 a 3),.g y,.c (.fn F [] [some (pq,0)])] h v h'∧v=.w (.c (.int .i64 0))∧HE n q a b c e cr md S T (Gi (Gi (Gi V zb nb) 1 (Zco D')) (Y6 b c e j) ms) h'∧h.next≤h'.next∧∀ m,m<h.next→Out n q m→m≠pD→h'.get m=h.get m:=by
  refine Zg.Yb fits Hh (by kernel_rfl) (by kernel_rfl) (by kernel_rfl) (show Tryz.f36.body=some _ from rfl) rfl ?_
  iterate 3 (first|apply Goes.seq|(apply Goes.ops2 fits Hh Zb; · simp (maxSteps:=9^6) +decide (disch:=first|omega|(simp only[lens]<;>omega)|decide) only [go_sem,Za,simprocAttr,f,stG,Yo,t1,d1,d2,kj,hb,bl,yl,Nat.zero_add,Nw,List.map_cons,List.map_nil,List.cons_append,List.nil_append,read1,Z6]<;>rfl))
  obtain⟨_,⟨kn0,hs0⟩,⟨dk0,gl0⟩,_⟩:=M.cells
  unfold gdL gdD at gl0
  iterate 3 (first|apply Goes.seq|(apply Goes.ops2 fits Hh (Zj (Zj Zb (fun _ _ _ _=>Gy Hh)) (fun _ _ _ _=>M9 Hh)); · simp (maxSteps:=9^6) +decide (disch:=first|omega|(simp only[lens]<;>omega)|decide) only [go_sem,Za,simprocAttr,f,stG,Yo,t1,d1,d2,kj,hb,bl,yl,Nat.zero_add,Nw,List.map_cons,List.map_nil,List.cons_append,List.nil_append,hs0,gl0,read1,Z6]<;>rfl))
  refine Goes.abs fun hA eA=>?_
  have nA:hA.next=h.next+1+1:=by rw[eA]; first|rfl|simp only[H.Zh,H.Zc]
  have kA:∀ m,m<h.next→hA.get m=h.get m:=fun m hm=>by rw[eA]; (first|(simp (discharger:=omega) only [H.get_put,H.Zf,H.Zk,H.Zc,H.Zh,H.Zi,if_neg]; done)|(simp only[H.get_put,H.Zf,H.Zk,H.Zc,H.Zh,H.Zi]; (repeat' split)<;>first|rfl|(exfalso; omega)|omega))
  have bA:hA.get h.next=some (.row 256 [mB] false):=by rw[eA]; simp (maxSteps:=9^6) +decide (disch:=first|omega|(simp only[lens]<;>omega)|decide) only [go_sem,Za,simprocAttr,bl]<;>rfl
  have cA:hA.get (h.next+1)=some (.row 16 [y] false):=by rw[eA]; simp (maxSteps:=9^6) +decide (disch:=first|omega|(simp only[lens]<;>omega)|decide) only [go_sem,Za,simprocAttr,yl]<;>rfl
  clear eA
  have MA:=M.keep (h2:=hA) (by omega) (fun m hm=>kA m (by omega))
  obtain⟨_,⟨knA,hsA⟩,⟨dkA,glA⟩,_⟩:=MA.cells
  unfold gdL gdD at glA
  obtain⟨hB,e1,MB,nB,kB⟩:=hB1 MA
  have c1:=Q5 Hh e1
  iterate 6 (first|apply Goes.seq|apply Goes.skip|((first|apply Goes.Zo|apply Goes.ops2 fits Hh (Zt (Zj (Zj Zb (fun _ _ _ _=>Gy Hh)) (fun _ _ _ _=>Mc Hh)) c1)); · simp (maxSteps:=9^6) +decide (disch:=first|omega|(simp only[lens]<;>omega)|decide) only [go_sem,Za,simprocAttr,Zw,f,stG,Yo,t1,d1,d2,kj,hb,bl,yl,Nat.zero_add,Nw,List.map_cons,List.map_nil,List.cons_append,List.nil_append,hs0,gl0,nA,bA,hsA,glA,read1,Z6]<;>rfl)|(apply Goes.drawn2 fits Hh (Zt (Zj (Zj Zb (fun _ _ _ _=>Gy Hh)) (fun _ _ _ _=>Mc Hh)) c1) (by kernel_rfl); · simp (maxSteps:=9^6) +decide (disch:=first|omega|(simp only[lens]<;>omega)|decide) only [go_sem,Za,simprocAttr,drG,Zw,f,stG,Yo,t1,d1,d2,kj,hb,bl,yl,Nat.zero_add,Nw,List.map_cons,List.map_nil,List.cons_append,List.nil_append,hs0,gl0,nA,bA,hsA,glA,read1,Z6]<;>rfl))
  have c2:=hF hB (fun m hm ho=>(kB m ho.1).trans (kA m hm))
  have pB:=(kB pD ⟨by omega,by omega,by omega,by omega,by omega⟩).trans ((kA _ pl).trans hp)
  iterate 2 (first|apply Goes.seq|(apply Goes.ops2 fits Hh (Zt Zb c2); · simp (maxSteps:=9^6) +decide (disch:=first|omega|(simp only[lens]<;>omega)|decide) only [go_sem,Za,simprocAttr,Zw,f,stG,Yo,t1,d1,d2,kj,hb,bl,yl,Nat.zero_add,Nw,List.map_cons,List.map_nil,List.cons_append,List.nil_append,hs0,gl0,nA,bA,hsA,glA,read1,Z6]<;>rfl))
  refine Goes.abs fun hC eC=>?_
  have nC:hC.next=h.next+1+1:=by rw[eC,H.Zh,nB,nA]
  have kC:∀ m,m<h.next+2→Out n q m→m≠pD→hC.get m=hA.get m:=fun m hm ho hne=>by rw[eC,Zu hne]; exact kB m ho.1
  have pC:hC.get pD=some (.row 3 (D'.map O4) false):=by rw[eC,Yh]
  have MC:=MB.keep (h2:=hC) (by rw[eC,H.Zh]; omega) (fun m hm=>by rw[eC,Zu (by omega)])
  clear eC
  obtain⟨stC,⟨knC,hsC⟩,⟨dkC,glC⟩,_⟩:=MC.cells
  unfold gdL gdD at glC
  iterate 8 (first|apply Goes.seq|apply Goes.skip|((first|apply Goes.Zo|apply Goes.ops2 fits Hh (Zj (Zj Zb (fun _ _ _ _=>Gy Hh)) (fun _ _ _ _=>Zy7 Hh))); · simp (maxSteps:=9^6) +decide (disch:=first|omega|(simp only[lens]<;>omega)|decide) only [go_sem,Za,simprocAttr,f,stG,Yo,t1,d1,d2,kj,hb,bl,yl,Nat.zero_add,Nw,List.map_cons,List.map_nil,List.cons_append,List.nil_append,hs0,gl0,nA,bA,hsA,glA,nC,pC,hsC,glC,stC,Dl',Dm,hY',Yl,read1,Z6]<;>rfl))
  refine Goes.abs fun hD eD=>?_
  have nD:hD.next=h.next+1+1+1:=by rw[eD]; simp only[H.Zh,H.Zc,nC]
  have kD:∀ m,m<h.next+2→Out n q m→m≠pD→hD.get m=hA.get m:=fun m hm ho hne=>by rw[eD]; refine Eq.trans ?_ (kC m hm ho hne); (first|(simp (discharger:=omega) only [H.get_put,H.Zf,H.Zk,H.Zc,H.Zh,H.Zi,if_neg]; done)|(simp only[H.get_put,H.Zf,H.Zk,H.Zc,H.Zh,H.Zi]; (repeat' split)<;>first|rfl|(exfalso; omega)|omega))
  have bD:hD.get (h.next+1+1)=some (.row 256 [Y] false):=by rw[eD]; simp (maxSteps:=9^6) +decide (disch:=first|omega|(simp only[lens]<;>omega)|decide) only [go_sem,Za,simprocAttr,nC,Yl]<;>rfl
  have MD:=MC.keep (h2:=hD) (by omega) (fun m hm=>by rw[eD]; (first|(simp (discharger:=omega) only [H.get_put,H.Zf,H.Zk,H.Zc,H.Zh,H.Zi,if_neg]; done)|(simp only[H.get_put,H.Zf,H.Zk,H.Zc,H.Zh,H.Zi]; (repeat' split)<;>first|rfl|(exfalso; omega)|omega)))
  clear eD
  obtain⟨hE,e3,ME,nE,kE⟩:=hB2 MD
  have c3:Zg K Tryz.prog 88 [.c (.ptr (n+13) 0),.c (.int .i64 1),.g Y] hD (.w (.c (.int .i64 0))) hE:=Q5 Hh e3
  iterate 6 (first|apply Goes.seq|apply Goes.skip|((first|apply Goes.Zo|apply Goes.ops2 fits Hh (Zt Zb c3)); · simp (maxSteps:=9^6) +decide (disch:=first|omega|(simp only[lens]<;>omega)|decide) only [go_sem,Za,simprocAttr,Zw,f,stG,Yo,t1,d1,d2,kj,hb,bl,yl,Nat.zero_add,Nw,List.map_cons,List.map_nil,List.cons_append,List.nil_append,hs0,gl0,nA,bA,hsA,glA,nC,pC,hsC,glC,stC,Dl',Dm,hY',Yl,bD,read1,Z6]<;>rfl))
  have o1:Out n q (h.next+1):=⟨⟨by omega,by omega,by omega,by omega,by omega⟩,by omega⟩
  have cE:=(kE (h.next+1) o1.1).trans ((kD (h.next+1) (by omega) o1 (by omega)).trans cA)
  have r16:Zd 16 [y] 0 16=some y:=Dt (by omega)
  obtain⟨hF,c4,MF,kF⟩:=hW ME
  have nF:=kF.1
  iterate 2 (first|apply Goes.ret|(apply Goes.ops2 fits Hh (Zt Zb c4); · simp (maxSteps:=9^6) +decide (disch:=first|omega|(simp only[lens]<;>omega)|decide) only [go_sem,Za,simprocAttr,Zw,f,stG,Yo,t1,d1,d2,kj,hb,bl,yl,Nat.zero_add,Nw,List.map_cons,List.map_nil,List.cons_append,List.nil_append,hs0,gl0,nA,bA,hsA,glA,nC,pC,hsC,glC,stC,Dl',Dm,hY',Yl,bD,cE,r16,read1,Z6]<;>rfl))
  exact⟨_,_,(by simp (maxSteps:=9^6) +decide (disch:=first|omega|(simp only[lens]<;>omega)|decide) only [go_sem,Za,simprocAttr]<;>rfl),rfl,MF,(by omega),fun m hm ho hne=>(kF.2 m (by omega) ho).trans ((kE m ho.1).trans ((kD m (by omega) ho hne).trans (kA m hm)))⟩
 exact⟨h',cc,M',nn,hkk⟩
end
end Go.Proofs.YtdkcjalmhdofcaaGreatDoor
