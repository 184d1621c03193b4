/- inodes.Take, over any store whose handle is open, where the first group that it looks at has a free inode. -/
import Derived.Test.YtdkcjalmhdofcaaGreatDoorIhd
import Derived.Test.YtdkcjalmhdofcaaGreatDoorBfg
set_option linter.unusedSimpArgs false
set_option linter.unusedVariables false
set_option linter.unusedSectionVars false
set_option maxRecDepth 100000
set_option maxHeartbeats 4000000
namespace Go.Proofs.YtdkcjalmhdofcaaGreatDoor
open Go.Ev
noncomputable def q7 (p:List Nat):Code:=piece p (Jz Tryz.f7)
theorem Zix:q7 [1,1,1,1,1,1,0,1,2]=.rangeFunc (.tmp 41) #[42] (q7 [1,1,1,1,1,1,0,1,2,5]) (q7 [1,1,1,1,1,1,0,1,2,6]):=by kernel_rfl
theorem Zf9:q7 [1,1,1,1,1,1,0,1,2,5]=.region 11 (Z11 (q7 [1,1,1,1,1,1,0,1,2,5])) false:=by kernel_rfl
theorem Zfv:q7 [1,1,1,1,1,1,0,1,2,6]=.block 1 (q7 [1,1,1,1,1,1,0,1,2,6,2]):=by kernel_rfl
theorem rs7:Tryz.f7.results.toList=[.cell 6 3,.cell 7 37]:=rfl
theorem rs81:Tryz.f81.results.toList=[]:=rfl
attribute [go_sem] rs7 rs81
theorem rs37:Tryz.f37.results.toList=[]:=rfl
attribute [go_sem] rs37
def Zd2 (a c:Nat) (near:Int):Nat:=if 1≤near∧near≤((a * c:Nat):Int) then (near.toNat - 1) / c else 0
def Zn7 (kq:Int) (w:Nat):Nat:=if kq=2 then w+1 else w
def Mine (S T:List Nat) (z:Nat):Prop:=z∈S∧z ∉ T
structure GrpH (a b c e:Nat) (S T:List Nat) (V:Nat→List Nat) (D:List Bc) (kq:Int) (g:Nat→Bool) (k t x0 i0 w0 gn:Nat) (o:List C):Prop where
 ka:k<a
 low:∀ i,i<t→g i=true
 gm:g t=false
 tc:t<c
 kk:kq=1∨kq=2
 bm:V (2+e+k * b+1)=Zgb g
 des:Des V a b c D
 old:gI a b c e V ((k * c+t+1:Nat):Int)=(o,0)
 ol:o.length=16
 o2:o[2]? = some (.int .u32 (gn:Int))
 gb:gn+1<4294967296
 hk:D[k]? = some (x0,i0,w0)
 y1:1≤i0
 y2:i0<4096
 y3:w0<4096
 Dm:(D.set k (x0,i0 - 1,Zn7 kq w0)).all (Zf3 (b - 2 - c / 4) c)=true
 s1:Mine S T (Y6 b c e (k * c+t))
 s2:Mine S T 1
 s3:Mine S T (2+e+k * b+1)
def Zh0 (b c e:Nat) (V:Nat→List Nat) (D:List Bc) (kq:Int) (g:Nat→Bool) (k t x0 i0 w0 gn:Nat):Nat→List Nat :=
 Gi (Gi (Gi V (2+e+k * b+1) (Zgb (Xn g t))) 1 (Zco (D.set k (x0,i0 - 1,Zn7 kq w0)))) (Y6 b c e (k * c+t)) (Bh (V (Y6 b c e (k * c+t))) (Dx c (k * c+t)) kq.toNat 1 (gn+1) 0 [0,0,0,0,0,0,0,0,0,0,0] 0)
section
variable (Hh:Hearts K Tryz.prog)
include Hh
theorem Z0u {h:Go.Ev.H} {p q k:Nat} {D:List Bc} {ro:Bool} {x y w:Nat} {kq:Int} (kk:kq=1∨kq=2) (hq:h.get q=some (.row 1 [[.int .u8 kq]] ro)) (hp:h.get p=some (.row 3 (D.map O4) false)) (hk:D[k]? = some (x,y,w)) (y1:1≤y) (y2:y<4096) (w2:w<4096) (pq:p≠q):Zg K Tryz.prog 37 [.c (.ptr p (k * 3)),.c (.ptr q 0)] h (.tup []) (h.put p (.row 3 ((D.set k (x,y - 1,Zn7 kq w)).map O4) false)):=by
 have hr:(D.map O4)[k]? = some [.int .i64 (x:Int),.int .i64 (y:Int),.int .i64 (w:Int)]:=by rw[List.getElem?_map,hk]; rfl
 have kl:k<(D.map O4).length:=by
  rcases Nat.lt_or_ge k (D.map O4).length with h1|h1
  ·exact h1
  ·rw[List.getElem?_eq_none h1] at hr; cases hr
 have r1:read1 3 (D.map O4) (k * 3+1)=some (.int .i64 (y:Int)):=Dn (sz:=3) (j:=1) (by omega) hr
 have w1:Z4 3 (D.map O4) (k * 3+1) [.int .i64 ((y:Int) - 1)]=some ((D.map O4).set k [.int .i64 (x:Int),.int .i64 ((y:Int) - 1),.int .i64 (w:Int)]):=Xy hr rfl (by omega)
 have hr2:((D.map O4).set k [.int .i64 (x:Int),.int .i64 ((y:Int) - 1),.int .i64 (w:Int)])[k]? = some [.int .i64 (x:Int),.int .i64 ((y:Int) - 1),.int .i64 (w:Int)]:=List.getElem?_set_self kl
 have r2:read1 3 ((D.map O4).set k [.int .i64 (x:Int),.int .i64 ((y:Int) - 1),.int .i64 (w:Int)]) (k * 3+2)=some (.int .i64 (w:Int)):=Dn (sz:=3) (j:=2) (by omega) hr2
 have w2':Z4 3 ((D.map O4).set k [.int .i64 (x:Int),.int .i64 ((y:Int) - 1),.int .i64 (w:Int)]) (k * 3+2) [.int .i64 ((w:Int)+1)]=some (((D.map O4).set k [.int .i64 (x:Int),.int .i64 ((y:Int) - 1),.int .i64 (w:Int)]).set k [.int .i64 (x:Int),.int .i64 ((y:Int) - 1),.int .i64 ((w:Int)+1)]):=Xy hr2 rfl (by omega)
 have rq:read1 1 [[C.int .u8 kq]] 0=some (.int .u8 kq):=rfl
 have fin:((D.map O4).set k [.int .i64 (x:Int),.int .i64 ((y:Int) - 1),.int .i64 (w:Int)]).set k [.int .i64 (x:Int),.int .i64 ((y:Int) - 1),.int .i64 ((w:Int)+1)]=(D.set k (x,y - 1,w+1)).map O4:=by
  rw[List.set_set,List.map_set]
  congr 1
  show _=[C.int .i64 (x:Int),.int .i64 ((y - 1:Nat):Int),.int .i64 ((w+1:Nat):Int)]
  rw[show ((y - 1:Nat):Int)=(y:Int) - 1 by omega]
  rfl
 have fin1:(D.map O4).set k [.int .i64 (x:Int),.int .i64 ((y:Int) - 1),.int .i64 (w:Int)]=(D.set k (x,y - 1,w)).map O4:=by
  rw[List.map_set]
  congr 1
  show _=[C.int .i64 (x:Int),.int .i64 ((y - 1:Nat):Int),.int .i64 (w:Int)]
  rw[show ((y - 1:Nat):Int)=(y:Int) - 1 by omega]
 obtain⟨Z,hZ⟩:∃ Z,D.map O4=Z:=⟨_,rfl⟩
 have fg:=fin
 have fg1:=fin1
 rw[hZ] at hp r1 w1 r2 w2' fg fg1
 have pp:=@H.Zcy
 obtain⟨v,h',cc,rfl,rfl⟩:∃ v h',Zg K Tryz.prog 37 [.c (.ptr p (k * 3)),.c (.ptr q 0)] h v h'∧v=.tup []∧h'=h.put p (.row 3 ((D.set k (x,y - 1,Zn7 kq w)).map O4) false):=by
  rcases kk with rfl|rfl
  ·have dn:Zn7 1 w=w:=rfl
   rw[dn]
   refine Zg.Yb fits Hh (by kernel_rfl) (by kernel_rfl) (by kernel_rfl) (show Tryz.f37.body=some _ from rfl) rfl ?_
   repeat (first|apply Goes.seq|apply Goes.block|apply Goes.loop|apply Goes.skip|apply Goes.exit|apply Goes.ret|((first|apply Goes.Zo|apply Goes.ops2 fits Hh Zb); · simp (maxSteps:=9^6) +decide (disch:=first|omega|(simp only[lens]<;>omega)|decide) only [go_sem,Zd,Za,simprocAttr,hq,hp,r1,w1,rq,pp]<;>rfl))
   exact⟨_,_,(by simp (maxSteps:=9^6) +decide (disch:=first|omega|(simp only[lens]<;>omega)|decide) only [go_sem,Zd,Za,simprocAttr,pp]<;>rfl),rfl,by rw[fg1]⟩
  ·have dn:Zn7 2 w=w+1:=rfl
   rw[dn]
   refine Zg.Yb fits Hh (by kernel_rfl) (by kernel_rfl) (by kernel_rfl) (show Tryz.f37.body=some _ from rfl) rfl ?_
   repeat (first|apply Goes.seq|apply Goes.block|apply Goes.loop|apply Goes.skip|apply Goes.exit|apply Goes.ret|((first|apply Goes.Zo|apply Goes.ops2 fits Hh Zb); · simp (maxSteps:=9^6) +decide (disch:=first|omega|(simp only[lens]<;>omega)|decide) only [go_sem,Zd,Za,simprocAttr,hq,hp,r1,w1,r2,w2',rq,pp,fg]<;>rfl))
   exact⟨_,_,(by simp (maxSteps:=9^6) +decide (disch:=first|omega|(simp only[lens]<;>omega)|decide) only [go_sem,Zd,Za,simprocAttr,fg,pp]<;>rfl),rfl,rfl⟩
 exact cc
variable {n q a b c e:Nat} {cr md:Int} {S T:List Nat} {V:Nat→List Nat} {h:Go.Ev.H}
theorem Z0s (f:U4 a b c e=true) (M:HE n q a b c e cr md S T V h) {D:List Bc} {kq:Int} {g:Nat→Bool} {k t x0 i0 w0 gn:Nat} {o:List C} (G:GrpH a b c e S T V D kq g k t x0 i0 w0 gn o)
  {l p3 p4 p6 p7 p9 p11 pD:Nat} {o6 o7:C} {ts:Zy} (e3:Zm ts 3=.w (.c (.ptr p3 0))) (e4:Zm ts 4=.w (.c (.ptr p4 0))) (e6:Zm ts 6=.w (.c (.ptr p6 0))) (e7:Zm ts 7=.w (.c (.ptr p7 0))) (e9:Zm ts 9=.w (.c (.ptr p9 0))) (e11:Zm ts 11=.w (.c (.ptr p11 0))) (e12:Zm ts 12=.w (.c (.int .i64 (k:Int))))
  (c3:h.get p3=some (.row 1 [[.ptr (n+13) 0]] false)) (c4:h.get p4=some (.row 1 [[.int .u8 kq]] false)) (c6:h.get p6=some (.row 1 [[o6]] false)) (c7:h.get p7=some (.row 1 [[o7]] false)) (c9:h.get p9=some (.row 1 [[.slice pD 0 a 3]] false)) (c11:h.get p11=some (.row 4 [[.int .i64 (a:Int),.int .i64 (b:Int),.int .i64 (c:Int),.int .i64 (e:Int)]] false)) (cD:h.get pD=some (.row 3 (D.map O4) false))
  (b3:q+9≤p3∧p3<h.next) (b4:q+9≤p4∧p4<h.next) (b6:q+9≤p6∧p6<h.next) (b7:q+9≤p7∧p7<h.next) (b9:q+9≤p9∧p9<h.next) (b11:q+9≤p11∧p11<h.next) (bD:q+9≤pD∧pD<h.next) (bl:q+9≤l∧l<h.next)
  (n1:p3≠pD) (n2:p4≠pD) (n3:p6≠pD) (n4:p7≠pD) (n5:p6≠p7) :
  Goes K Tryz.prog 96 (some l) (q7 [1,1,1,1,1,1,0,1,2,6]) [] ts h fun x _ _ h'=>x=.ret∧h.next≤h'.next∧HE n q a b c e cr md S T (Zh0 b c e V D kq g k t x0 i0 w0 gn) h'∧(∀ m,m<h.next→Out n q m→m≠pD→m≠p6→m≠p7→h'.get m=h.get m)∧h'.get p6=some (.row 1 [[.int .i64 ((k * c+t+1:Nat):Int)]] false)∧h'.get p7=some (.row 1 [[.int .i64 0]] false):=by
 obtain⟨ka,low,gm,tc,kk,bm,des,old,ol,o2,gb,hk,y1,y2,y3,Dm,s1,s2,s3⟩:=G
 have Dl:=des.2.2
 obtain⟨g1,g2,g3,g4,g5,g6,g7,g8,g9,g10,g11⟩:=Yc f
 have st:=Mx (b:=b) ka
 have sc:=Mx (b:=c) ka
 obtain⟨zb,hb⟩:∃ z,2+e+k * b+1=z:=⟨_,rfl⟩
 rw[hb] at bm s3
 have zbl:zb<2+e+a * b:=by omega
 have ob:=Mw (z:=zb) (Yc f) (by omega) zbl
 obtain⟨nq,nx,_⟩:=M.nx
 have bl1:(Oo g).length=256:=Vr _
 have cF:∀ h,Zg K Tryz.prog 33 [.g (Oo g),.c (.int .i64 0),.c (.int .i64 (c:Int))] h (.w (.c (.int .i64 (t:Int)))) h:=fun h=>by
  have:=Z0p Hh g (s:=0) (t:=t) (u:=c) (by omega) (by omega) (by omega) (fun j _ h=>low j h) (fun _=>gm) h
  rwa [if_pos tc] at this
 have ra:(k * 3+1) / 3=k:=by omega
 have rb:(k * 3+1) % 3=1:=by omega
 have rc:(D.map O4)[k]? = some [.int .i64 (x0:Int),.int .i64 (i0:Int),.int .i64 (w0:Int)]:=by rw[List.getElem?_map,hk]; rfl
 have ml:(Oo (Xn g t)).length=256:=Vr _
 unfold Zh0
 rw[hb]
 obtain⟨j,hj⟩:∃ j,k * c+t=j:=⟨_,rfl⟩
 rw[hj] at old s1 ⊢
 have kj:j / c=k:=by rw[←hj,Nat.mul_comm,Nat.mul_add_div (by omega),Nat.div_eq_of_lt tc,Nat.add_zero]
 have jl:j<a * c:=by omega
 obtain⟨D',hD'⟩:∃ D',D.set k (x0,i0 - 1,Zn7 kq w0)=D':=⟨_,rfl⟩
 have Dl':D'.length=a:=by rw[←hD',List.length_set,Dl]
 rw[hD'] at Dm ⊢
 have pc:=D7 c j
 have mI:Zet (kq.toNat:Nat) (1:Nat) (0:Nat) (0:Nat) (0:Nat) (0:Nat) (0:Nat) (0:Nat) (0:Nat) (0:Nat) (0:Nat) (0:Nat) (0:Nat) (0:Nat) (0:Nat)=true:=by rcases kk with rfl|rfl<;>rfl
 have kb:kq.toNat<256:=by rcases kk with rfl|rfl<;>decide
 have ke:((kq.toNat:Nat):Int)=kq:=by rcases kk with rfl|rfl<;>rfl
 have sl:(V (Y6 b c e j)).length=256:=by
  have tj:j % c<c:=Nat.mod_lt _ (by omega)
  exact M.len (Mw (Yc f) (by unfold Y6; rw[kj]; omega) (by unfold Y6; rw[kj]; omega)) (by unfold Y6; rw[kj]; omega)
 have hi:=fun (h:Go.Ev.H) (m:Nat) (hp:h.get m=some (.row 256 [pgL (V (Y6 b c e j))] false)) (lm:m<h.next)=>Zp9 Hh sl pc kb (l:=1) (g:=gn+1) (s:=0) (p0:=0) (p1:=0) (p2:=0) (p3:=0) (p4:=0) (p5:=0) (p6:=0) (p7:=0) (p8:=0) (p9:=0) (p10:=0) (nx:=0) (by omega) (by omega) (by omega) (fun v hv=>by simp only[List.mem_cons,List.not_mem_nil,or_false,or_self] at hv; omega) (by omega) mI hp lm
 obtain⟨ms,hms⟩:∃ ms,Bh (V (Y6 b c e j)) (Dx c j) kq.toNat 1 (gn+1) 0 [0,0,0,0,0,0,0,0,0,0,0] 0=ms:=⟨_,rfl⟩
 have msl:ms.length=256:=by rw[←hms,Qs (by omega),sl]
 rw[hms] at hi ⊢
 have hi':∀ h m,h.get m=some (.row 256 [pgL (V (Y6 b c e j))] false)→m<h.next→∃ h',Zg K Tryz.prog 135 [.c (.ptr m 0),.c (.int .i64 (Dx c j:Nat)),.g (O9 kq 1 ((gn:Int)+1) 0 0 0 0 0 0 0 0 0 0 0 0 0)] h (.w (.c (.int .i64 0))) h'∧h.next≤h'.next∧h'.get m=some (.row 256 [pgL ms] false)∧∀ k,k<h.next→k≠m→h'.get k=h.get k:=fun h m hp lm=>by
  have:=hi h m hp lm
  rw[ke] at this
  exact this
 clear hi
 have gi:(gn:Int)+1<4294967296:=by omega
 obtain⟨B,hB⟩:∃ B,Oo g=B:=⟨_,rfl⟩
 have hG:=fun {h:Go.Ev.H} (M:HE n q a b c e cr md S T V h)=>Zgj Hh f M ((j+1:Nat):Int)
 simp only[old] at hG
 have hGE:=fun {h:Go.Ev.H} (M:HE n q a b c e cr md S T V h)=>M.get f ob zbl
 simp only[bm,←Zs7] at hGE
 have hC:=fun {h:Go.Ev.H} (M:HE n q a b c e cr md S T V h) {pq:Nat} (hp:h.get pD=some (.row 3 (D.map O4) false)) (pl:pD<h.next)=>Zul Hh f M jl s1 s2 (by rw[kj,hb]; exact s3) msl (Zt7 (Xn g t)) (y:=O9 kq 1 ((gn:Int)+1) 0 0 0 0 0 0 0 0 0 0 0 0 0) rfl (F:=37) (pq:=pq) hp Dl Dl' Dm pl bD.1
 rw[kj,hb] at hC
 simp only[←Zs7] at hC
 rw[hB] at bl1 cF
 simp only[hB] at hGE
 iterate 2 (first|apply Goes.seq|apply Goes.block)
 obtain⟨hZ,e1,MZ,nZ,rZ⟩:=hGE M
 have k1:=Tg Hh e1
 iterate 7 (first|apply Goes.seq|apply Goes.skip|((first|apply Goes.Zo|apply Goes.ops2 fits Hh (Zt (Zj Zb (fun _ _ _ _=>Mc Hh)) k1)); · simp (maxSteps:=9^6) +decide (disch:=first|omega|(simp only[lens]<;>omega)|decide) only [go_sem,Za,simprocAttr,Zw,f,e3,e4,e6,e7,e9,e11,e12,c3,c4,c6,c7,c9,c11,cD,rd4,hb,bl1,ra,rb,rc,hj,ol,gi,Nat.zero_add,List.map_cons,Nw,List.cons_append,List.map_nil,read1]<;>rfl)|(apply Goes.drawn2 fits Hh (Zt (Zj Zb (fun _ _ _ _=>Mc Hh)) k1) (by kernel_rfl); · simp (maxSteps:=9^6) +decide (disch:=first|omega|(simp only[lens]<;>omega)|decide) only [go_sem,Za,simprocAttr,drG,Zw,f,e3,e4,e6,e7,e9,e11,e12,c3,c4,c6,c7,c9,c11,cD,rd4,hb,bl1,ra,rb,rc,hj,ol,gi,Nat.zero_add,List.map_cons,Nw,List.cons_append,List.map_nil,read1]<;>rfl))
 have z3:=(rZ p3 (by omega) (by omega)).trans c3
 have z9:=(rZ p9 (by omega) (by omega)).trans c9
 have z11:=(rZ p11 (by omega) (by omega)).trans c11
 have zD:=(rZ pD (by omega) (by omega)).trans cD
 iterate 12 (first|apply Goes.seq|apply Goes.skip|((first|apply Goes.Zo|apply Goes.ops2 fits Hh (Ue Zb cF)); · simp (maxSteps:=9^6) +decide (disch:=first|omega|(simp only[lens]<;>omega)|decide) only [go_sem,Za,simprocAttr,f,e3,e4,e6,e7,e9,e11,e12,c3,c4,c6,c7,c9,c11,cD,rd4,hb,bl1,ra,rb,rc,hj,ol,gi,Nat.zero_add,List.map_cons,Nw,List.cons_append,List.map_nil,z3,z9,z11,zD,nZ,read1]<;>rfl))
 iterate 2 (first|apply Goes.seq|(apply Goes.ops2 fits Hh (Zj Zb (fun _ _ _ _=>Zli Hh)); · simp (maxSteps:=9^6) +decide (disch:=first|omega|(simp only[lens]<;>omega)|decide) only [go_sem,Za,simprocAttr,f,e3,e4,e6,e7,e9,e11,e12,c3,c4,c6,c7,c9,c11,cD,rd4,hb,bl1,ra,rb,rc,hj,ol,gi,Nat.zero_add,List.map_cons,Nw,List.cons_append,List.map_nil,z3,z9,z11,zD,nZ,read1]<;>rfl))
 refine Goes.abs fun hA eA=>?_
 have nA:hA.next=h.next+1:=by rw[eA]; simp only[H.Zh,H.Zc,nZ]
 have kA:∀ m,m<h.next→m≠n+6→hA.get m=h.get m:=fun m hm hne=>by rw[eA]; refine Eq.trans ?_ (rZ m hm hne); (first|(simp (discharger:=omega) only [H.get_put,H.Zf,H.Zk,H.Zc,H.Zh,H.Zi,if_neg]; done)|(simp only[H.get_put,H.Zf,H.Zk,H.Zc,H.Zh,H.Zi]; (repeat' split)<;>first|rfl|(exfalso; omega)|omega))
 have bA:hA.get h.next=some (.row 256 [B] false):=by rw[eA]; simp (maxSteps:=9^6) +decide (disch:=first|omega|(simp only[lens]<;>omega)|decide) only [go_sem,Za,simprocAttr,bl1,nZ]<;>rfl
 have MA:=MZ.keep (h2:=hA) (by rw[eA]; simp only[H.Zh,H.Zc]<;>omega) (fun m hm=>by rw[eA]; (first|(simp (discharger:=omega) only [H.get_put,H.Zf,H.Zk,H.Zc,H.Zh,H.Zi,if_neg]; done)|(simp only[H.get_put,H.Zf,H.Zk,H.Zc,H.Zh,H.Zi]; (repeat' split)<;>first|rfl|(exfalso; omega)|omega)))
 clear eA
 obtain⟨hG',k3,MG,rG⟩:=hG MA
 have nG:=rG.1
 have cA3:=(kA p3 (by omega) (by omega)).trans c3
 iterate 7 (first|apply Goes.seq|apply Goes.skip|((first|apply Goes.Zo|apply Goes.ops2 fits Hh (Zt Zb k3)); · simp (maxSteps:=9^6) +decide (disch:=first|omega|(simp only[lens]<;>omega)|decide) only [go_sem,Za,simprocAttr,Zw,f,e3,e4,e6,e7,e9,e11,e12,c3,c4,c6,c7,c9,c11,cD,rd4,hb,bl1,ra,rb,rc,hj,ol,gi,Nat.zero_add,List.map_cons,Nw,List.cons_append,List.map_nil,z3,z9,z11,zD,nZ,cA3,nA,read1]<;>rfl))
 refine Goes.abs fun hC' eC=>?_
 have nC:hC'.next=hG'.next+1:=by rw[eC]; simp only[H.Zh,H.Zc]
 have kC:∀ m,m<h.next+1→m≠n+6→hC'.get m=hA.get m:=fun m hm hne=>by rw[eC]; refine Eq.trans ?_ (rG.2 m (by omega) hne); (first|(simp (discharger:=omega) only [H.get_put,H.Zf,H.Zk,H.Zc,H.Zh,H.Zi,if_neg]; done)|(simp only[H.get_put,H.Zf,H.Zk,H.Zc,H.Zh,H.Zi]; (repeat' split)<;>first|rfl|(exfalso; omega)|omega))
 have iC:hC'.get hG'.next=some (.row 16 [o] false):=by rw[eC]; simp (maxSteps:=9^6) +decide (disch:=first|omega|(simp only[lens]<;>omega)|decide) only [go_sem,Za,simprocAttr,ol]<;>rfl
 have MC:=MG.keep (h2:=hC') (by rw[eC]; simp only[H.Zh,H.Zc]<;>omega) (fun m hm=>by rw[eC]; (first|(simp (discharger:=omega) only [H.get_put,H.Zf,H.Zk,H.Zc,H.Zh,H.Zi,if_neg]; done)|(simp only[H.get_put,H.Zf,H.Zk,H.Zc,H.Zh,H.Zi]; (repeat' split)<;>first|rfl|(exfalso; omega)|omega)))
 clear eC
 have bC:=(kC h.next (by omega) (by omega)).trans bA
 rw[←hB] at bC
 have k4:=Z21 Hh hC' h.next t g (by omega) gm bC
 iterate 2 (first|apply Goes.seq|(apply Goes.ops2 fits Hh (Zt Zb k4); · simp (maxSteps:=9^6) +decide (disch:=first|omega|(simp only[lens]<;>omega)|decide) only [go_sem,Za,simprocAttr,Zw,f,e3,e4,e6,e7,e9,e11,e12,c3,c4,c6,c7,c9,c11,cD,rd4,hb,bl1,ra,rb,rc,hj,ol,gi,Nat.zero_add,List.map_cons,Nw,List.cons_append,List.map_nil,z3,z9,z11,zD,nZ,cA3,nA,read1]<;>rfl))
 refine Goes.abs fun hD eD=>?_
 have nD:hD.next=hG'.next+1:=by rw[eD,H.Zh,nC]
 have kD:∀ m,m<h.next→m≠n+6→hD.get m=h.get m:=fun m hm hne=>by rw[eD,Zu (by omega),kC m (by omega) hne]; exact kA m hm hne
 have bD':hD.get h.next=some (.row 256 [Oo (Xn g t)] false):=by rw[eD,Yh]
 have iD:hD.get hG'.next=some (.row 16 [o] false):=by rw[eD,Zu (by omega)]; exact iC
 have MD:=MC.keep (h2:=hD) (by rw[eD,H.Zh]; omega) (fun m hm=>by rw[eD,Zu (by omega)])
 clear eD
 have d3:=(kD p3 (by omega) (by omega)).trans c3
 have d4:=(kD p4 (by omega) (by omega)).trans c4
 have d9:=(kD p9 (by omega) (by omega)).trans c9
 have dD:=(kD pD (by omega) (by omega)).trans cD
 obtain⟨hE,k5,ME,nE,kE⟩:=hC MD (pq:=p4) dD (by omega) (fun h2 k2=>by
  have:=Z0u Hh (h:=h2) kk ((k2 p4 (by omega) ⟨⟨by omega,by omega,by omega,by omega,by omega⟩,by omega⟩).trans d4) ((k2 pD (by omega) ⟨⟨by omega,by omega,by omega,by omega,by omega⟩,by omega⟩).trans dD) hk y1 y2 y3 (Ne.symm n2)
  rw[hD'] at this
  exact this) hi'
 simp only[O9] at k5
 have rm:Zd 256 [Oo (Xn g t)] 0 256=some (Oo (Xn g t)):=Dt (by omega)
 have q6:=(kE p6 (by omega) ⟨⟨by omega,by omega,by omega,by omega,by omega⟩,by omega⟩ (by omega)).trans ((kD p6 (by omega) (by omega)).trans c6)
 have q7:=(kE p7 (by omega) ⟨⟨by omega,by omega,by omega,by omega,by omega⟩,by omega⟩ (by omega)).trans ((kD p7 (by omega) (by omega)).trans c7)
 iterate 9 (first|apply Goes.seq|apply Goes.skip|apply Goes.ret|((first|apply Goes.Zo|apply Goes.ops2 fits Hh (Zt Zb k5)); · simp (maxSteps:=9^6) +decide (disch:=first|omega|(simp only[lens]<;>omega)|decide) only [go_sem,Za,simprocAttr,Zw,f,e3,e4,e6,e7,e9,e11,e12,c3,c4,c6,c7,c9,c11,cD,rd4,hb,bl1,ra,rb,rc,hj,ol,gi,Nat.zero_add,List.map_cons,Nw,List.cons_append,List.map_nil,z3,z9,z11,zD,nZ,cA3,nA,d3,d4,d9,bD',iD,o2,rm,q6,q7,read1]<;>rfl))
 refine⟨rfl,?_,ME.keep ?_ (fun m hm=>?_),?_,?_,?_⟩
 ·simp only[H.Zh]; omega
 ·simp only[H.Zh]; omega
 ·rw[Zu (by omega),Zu (by omega)]
 ·intro m m1 m2 m3 m4 m5; rw[Zu m5,Zu m4]; exact (kE m (by omega) m2 m3).trans (kD m m1 m2.1.1)
 ·rw[Zu (by omega),Yh]
 ·rw[Yh]
end
structure TCg (n q a b c e:Nat) (cr md:Int) (S T:List Nat) (V:Nat→List Nat) (D:List Bc) (kq:Int) (l p3 p4 p6 p7 p9 p11 pD:Nat) (ts:Zy) (h:Go.Ev.H):Prop where
 M:HE n q a b c e cr md S T V h
 e3:Zm ts 3=.w (.c (.ptr p3 0))
 e4:Zm ts 4=.w (.c (.ptr p4 0))
 e6:Zm ts 6=.w (.c (.ptr p6 0))
 e7:Zm ts 7=.w (.c (.ptr p7 0))
 e9:Zm ts 9=.w (.c (.ptr p9 0))
 e11:Zm ts 11=.w (.c (.ptr p11 0))
 c3:h.get p3=some (.row 1 [[.ptr (n+13) 0]] false)
 c4:h.get p4=some (.row 1 [[.int .u8 kq]] false)
 c6:h.get p6=some (.row 1 [[.int .i64 0]] false)
 c7:h.get p7=some (.row 1 [[.int .i64 0]] false)
 c9:h.get p9=some (.row 1 [[.slice pD 0 a 3]] false)
 c11:h.get p11=some (.row 4 [[.int .i64 (a:Int),.int .i64 (b:Int),.int .i64 (c:Int),.int .i64 (e:Int)]] false)
 cD:h.get pD=some (.row 3 (D.map O4) false)
 b3:q+9≤p3∧p3<h.next
 b4:q+9≤p4∧p4<h.next
 b6:q+9≤p6∧p6<h.next
 b7:q+9≤p7∧p7<h.next
 b9:q+9≤p9∧p9<h.next
 b11:q+9≤p11∧p11<h.next
 bD:q+9≤pD∧pD<h.next
 bl:q+9≤l∧l<h.next
 n1:p3≠pD
 n2:p4≠pD
 n3:p6≠pD
 n4:p7≠pD
 n5:p6≠p7
 n6:l≠pD
 n7:l≠p6
 n8:l≠p7
 n9:l≠p3∧l≠p4∧l≠p9∧l≠p11
structure TAg (n q a b c e:Nat) (cr md:Int) (S T:List Nat) (V:Nat→List Nat) (pD l p6 p7 d v:Nat) (ts:Zy) (h0 h:Go.Ev.H):Prop where
 M:HE n q a b c e cr md S T V h
 next:h0.next≤h.next
 hl:h.get l=some (.loop ts 96 [42] (q7 [1,1,1,1,1,1,0,1,2,5]) (q7 [1,1,1,1,1,1,0,1,2,6]) .done (some .ret) d)
 r6:h.get p6=some (.row 1 [[.int .i64 (v:Int)]] false)
 r7:h.get p7=some (.row 1 [[.int .i64 0]] false)
 keep:∀ m,m<h0.next→Out n q m→m≠l→m≠pD→m≠p6→m≠p7→h.get m=h0.get m
section
variable (Hh:Hearts K Tryz.prog)
include Hh
variable {n q a b c e:Nat} {cr md:Int} {S T:List Nat} {V:Nat→List Nat} {D:List Bc} {kq:Int} {g:Nat→Bool} {k t x0 i0 w0 gn:Nat} {o:List C} {l p3 p4 p6 p7 p9 p11 pD d:Nat} {ts:Zy} {h:Go.Ev.H}
theorem Z2a (l:Nat) (ts:Zy) (k:Nat) (h:Go.Ev.H):Goes K Tryz.prog 96 (some l) (q7 [1,1,1,1,1,1,0,1,2,5]) [] (ts.set 42 (.w (.c (.int .i64 (k:Int))))) h fun x ds' ts' h'=>x=.normal∧ds'=[]∧(∀ s,s≤11→Zm ts' s=Zm ts s)∧Zm ts' 12=.w (.c (.int .i64 (k:Int)))∧h'=h:=by
 (apply Goes.ops2 fits Hh Zb; · simp (maxSteps:=9^6) +decide (disch:=first|omega|(simp only[lens]<;>omega)|decide) only [go_sem,Zd,Za,simprocAttr]<;>rfl)
 refine⟨rfl,rfl,fun s hs=>?_,?_,rfl⟩
 ·simp (decide:=true) only [Yk hs]
 ·simp (maxSteps:=9^6) +decide (disch:=first|omega|(simp only[lens]<;>omega)|decide) only [go_sem,Zd,Za,simprocAttr]
theorem Zo7 (f:U4 a b c e=true) (G:GrpH a b c e S T V D kq g k t x0 i0 w0 gn o) (TC:TCg n q a b c e cr md S T V D kq l p3 p4 p6 p7 p9 p11 pD ts h) (hl:h.get l=some (.loop ts 96 [42] (q7 [1,1,1,1,1,1,0,1,2,5]) (q7 [1,1,1,1,1,1,0,1,2,6]) .ready none d)) :
  ∃ E h',Sound K Tryz.prog E∧U3 E l (some [.c (.int .i64 (k:Int))]) h (some (.loop ts 96 [42] (q7 [1,1,1,1,1,1,0,1,2,5]) (q7 [1,1,1,1,1,1,0,1,2,6]) .ready none d))=some (.val (.w (.c (.bool false))) h')∧TAg n q a b c e cr md S T (Zh0 b c e V D kq g k t x0 i0 w0 gn) pD l p6 p7 d (k * c+t+1) ts h h':=by
 obtain⟨xa,ds1,ts1,h1,kA,rfl,rfl,t1,t12,rfl⟩:=Z2a Hh l ts k h
 obtain⟨M,e3,e4,e6,e7,e9,e11,c3,c4,c6,c7,c9,c11,cD,b3,b4,b6,b7,b9,b11,bD,bl,n1,n2,n3,n4,n5,n6,n7,n8,n9⟩:=TC
 obtain⟨nq,nx,_⟩:=M.nx
 have M':=M.keep (h2:=h1.put l (.loop ts 96 [42] (q7 [1,1,1,1,1,1,0,1,2,5]) (q7 [1,1,1,1,1,1,0,1,2,6]) .busy none d)) (by rw[H.Zh]; omega) (fun m hm=>by rw[Zu (by omega)])
 obtain⟨xb,ds2,ts2,h2,kB,rfl,nn,MB,kk,r6,r7⟩:=Z0s Hh f M' G (l:=l) (ts:=ts1) ((t1 3 (by decide)).trans e3) ((t1 4 (by decide)).trans e4) ((t1 6 (by decide)).trans e6) ((t1 7 (by decide)).trans e7) ((t1 9 (by decide)).trans e9) ((t1 11 (by decide)).trans e11) t12
  (by rw[Zu (Ne.symm n9.1)]; exact c3) (by rw[Zu (Ne.symm n9.2.1)]; exact c4) (by rw[Zu (Ne.symm n7)]; exact c6) (by rw[Zu (Ne.symm n8)]; exact c7) (by rw[Zu (Ne.symm n9.2.2.1)]; exact c9) (by rw[Zu (Ne.symm n9.2.2.2)]; exact c11) (by rw[Zu (Ne.symm n6)]; exact cD) b3 b4 b6 b7 b9 b11 bD bl n1 n2 n3 n4 n5
 have gl:=(kk l (by rw[H.Zh]; omega) ⟨⟨by omega,by omega,by omega,by omega,by omega⟩,by omega⟩ n6 n7 n8).trans (Yh ..)
 have Sd:=Vw (Vw Zb kB) kA
 obtain⟨E,h3,Sd2,rnd,rfl⟩:∃ E h3,Sound K Tryz.prog E∧U3 E l (some [.c (.int .i64 (k:Int))]) h1 (h1.get l)=some (.val (.w (.c (.bool false))) h3)∧h3=h2.put l (.loop ts 96 [42] (q7 [1,1,1,1,1,1,0,1,2,5]) (q7 [1,1,1,1,1,1,0,1,2,6]) .done (some .ret) d):=by
  refine⟨_,_,Sd,Wx hl (by simp only[Oh]; rfl) (Qk ..) hl (Zlh (fun e=>?_) |>.trans (Qk ..)) gl,rfl⟩
  have e1:=(Task.code.inj e).1
  rw[Zfv,Zf9] at e1
  cases e1
 rw[hl] at rnd
 refine⟨_,_,Sd2,rnd,MB.keep (by rw[H.Zh]; omega) (fun m hm=>by rw[Zu (by omega)]),?_,Yh ..,?_,?_,fun m m1 m2 m3 m4 m5 m6=>?_⟩
 ·rw[H.Zh] at nn ⊢
  exact nn
 ·rw[Zu (Ne.symm n7)]; exact r6
 ·rw[Zu (Ne.symm n8)]; exact r7
 ·rw[Zu m3,kk m (by rw[H.Zh]; exact m1) m2 m4 m5 m6,Zu m3]
theorem Zs9 (f:U4 a b c e=true) {near:Int} (hk:Zd2 a c near=k) (G:GrpH a b c e S T V D kq g k t x0 i0 w0 gn o) (TC:TCg n q a b c e cr md S T V D kq l p3 p4 p6 p7 p9 p11 pD ts h) (hl:h.get l=some (.loop ts 96 [42] (q7 [1,1,1,1,1,1,0,1,2,5]) (q7 [1,1,1,1,1,1,0,1,2,6]) .ready none d)) {pg pn:Nat} (hg:h.get pg=some (.row 4 [[.int .i64 (a:Int),.int .i64 (b:Int),.int .i64 (c:Int),.int .i64 (e:Int)]] false)) (hn:h.get pn=some (.row 1 [[.int .i64 near]] false)) :
  ∃ v h',Zg K Tryz.prog 81 [.c (.yield l),.c (.ptr pg 0),.c (.ptr pn 0)] h v h'∧TAg n q a b c e cr md S T (Zh0 b c e V D kq g k t x0 i0 w0 gn) pD l p6 p7 d (k * c+t+1) ts h h':=by
 obtain⟨g1,g2,g3,g4,g5,g6,g7,g8,g9,g10,g11⟩:=Yc f
 obtain⟨E,h2,Sd,rnd,A⟩:=Zo7 Hh f G TC hl
 have ka:=G.ka
 by_cases hv:1≤near∧near≤((a * c:Nat):Int)
 ·obtain⟨v1,v2⟩:=hv
  obtain⟨j,hj⟩:∃ j,near.toNat - 1=j:=⟨_,rfl⟩
  obtain rfl:near=((j+1:Nat):Int):=by omega
  have d1:=decide_eq_true v1
  have d2:=decide_eq_true v2
  have gk:Zd2 a c ((j+1:Nat):Int)=j / c:=by unfold Zd2; rw[if_pos ⟨v1,v2⟩,hj]
  rw[gk] at hk
  have km:k % a=k:=Nat.mod_eq_of_lt ka
  have rm:F6 .i64 (k:Int) (a:Int)=some (.int .i64 (k:Int)):=by rw[Bd (by omega),km]
  have e0:(k:Int)+0=(k:Int):=Int.add_zero _
  refine Zg.Yb fits Hh (by kernel_rfl) (by kernel_rfl) (by kernel_rfl) (show Tryz.f81.body=some _ from rfl) rfl ?_
  iterate 21 (first|apply Goes.seq|apply Goes.skip|apply Goes.block|apply Goes.loop|((first|apply Goes.Zo|apply Goes.ops2 fits Hh (Zj Zb (fun _ _ _ _=>M9 Hh))); · simp (maxSteps:=9^6) +decide (disch:=first|omega|(simp only[lens]<;>omega)|decide) only [go_sem,Za,simprocAttr,f,hg,hn,hl,rd4,d1,d2,hj,hk,rm,e0,rnd,read1]<;>rfl))
  iterate 3 (first|apply Goes.ret|((first|apply Goes.Zo|apply Goes.ops2 fits Hh Sd); · simp (maxSteps:=9^6) +decide (disch:=first|omega|(simp only[lens]<;>omega)|decide) only [go_sem,Za,simprocAttr,f,hg,hn,hl,rd4,d1,d2,hj,hk,rm,e0,rnd,read1]<;>rfl))
  exact⟨_,_,(by simp (maxSteps:=9^6) +decide (disch:=first|omega|(simp only[lens]<;>omega)|decide) only [go_sem,Zd,Za,simprocAttr]<;>rfl),A⟩
 ·have gk:Zd2 a c near=0:=by unfold Zd2; rw[if_neg hv]
  obtain rfl:k=0:=hk.symm.trans gk
  have rnd0:U3 E l (some [.c (.int .i64 0)]) h (some (.loop ts 96 [42] (q7 [1,1,1,1,1,1,0,1,2,5]) (q7 [1,1,1,1,1,1,0,1,2,6]) .ready none d))=some (.val (.w (.c (.bool false))) h2):=rnd
  have dd:(decide (1≤near)&&decide (near≤((a * c:Nat):Int)))=false:=by
   rw[←Bool.decide_and]
   exact decide_eq_false hv
  have rm:F6 .i64 0 (a:Int)=some (.int .i64 0):=by
   have:=Bd (k:=.i64) (a:=0) (b:=a) (by omega)
   rwa [Nat.zero_mod] at this
  refine Zg.Yb fits Hh (by kernel_rfl) (by kernel_rfl) (by kernel_rfl) (show Tryz.f81.body=some _ from rfl) rfl ?_
  iterate 21 (first|apply Goes.seq|apply Goes.skip|apply Goes.block|apply Goes.loop|((first|apply Goes.Zo|apply Goes.ops2 fits Hh (Zj Zb (fun _ _ _ _=>M9 Hh))); · simp (maxSteps:=9^6) +decide (disch:=first|omega|(simp only[lens]<;>omega)|decide) only [go_sem,Za,simprocAttr,f,hg,hn,hl,rd4,dd,rm,rnd0,read1]<;>rfl))
  iterate 3 (first|apply Goes.ret|((first|apply Goes.Zo|apply Goes.ops2 fits Hh Sd); · simp (maxSteps:=9^6) +decide (disch:=first|omega|(simp only[lens]<;>omega)|decide) only [go_sem,Za,simprocAttr,f,hg,hn,hl,rd4,dd,rm,rnd0,read1]<;>rfl))
  exact⟨_,_,(by simp (maxSteps:=9^6) +decide (disch:=first|omega|(simp only[lens]<;>omega)|decide) only [go_sem,Zd,Za,simprocAttr]<;>rfl),A⟩
theorem Zrb (f:U4 a b c e=true) {near:Int} (hk:Zd2 a c near=k) (G:GrpH a b c e S T V D kq g k t x0 i0 w0 gn o) {pg pn:Nat} (TC:∀ h2 l,h.next<l→l<h2.next→(∀ m,m<h.next→h2.get m=h.get m)→TCg n q a b c e cr md S T V D kq l p3 p4 p6 p7 p9 p11 pD ts h2) (nh:q+9≤h.next) (nq:n+23≤q) (p6h:p6<h.next) (p7h:p7<h.next) (pDh:pD<h.next)
  (hg:h.get pg=some (.row 4 [[.int .i64 (a:Int),.int .i64 (b:Int),.int .i64 (c:Int),.int .i64 (e:Int)]] false)) (hn:h.get pn=some (.row 1 [[.int .i64 near]] false)) (lg:pg<h.next) (ln:pn<h.next) (e41:Zm ts 41=.w (.c (.fn 81 [] [some (pg,0),some (pn,0)]))) :
  Goes K Tryz.prog 96 none (q7 [1,1,1,1,1,1,0,1,2]) [] ts h fun x ds' ts' h'=>x=.ret∧ts'=ts∧ds'=[h.next]∧h'.get h.next=some .defers∧h'.get p6=some (.row 1 [[.int .i64 ((k * c+t+1:Nat):Int)]] false)∧h'.get p7=some (.row 1 [[.int .i64 0]] false)∧HE n q a b c e cr md S T (Zh0 b c e V D kq g k t x0 i0 w0 gn) h'∧h.next≤h'.next∧∀ m,m<h.next→Out n q m→m≠pD→m≠p6→m≠p7→h'.get m=h.get m:=by
 have g0:∀ (o:O) m,m<h.next→((h.new .defers).new o).get m=h.get m:=fun o m hm=>by rw[Ye (by rw[H.Zc]; omega),Ye (by omega)]
 have gd:∀ o:O,((h.new .defers).new o).get h.next=some .defers:=fun o=>by rw[Ye (by rw[H.Zc]; omega),O3]
 have T1:=TC ((h.new .defers).new (.loop ts 96 [42] (q7 [1,1,1,1,1,1,0,1,2,5]) (q7 [1,1,1,1,1,1,0,1,2,6]) .ready none h.next)) (h.next+1) (by omega) (by simp only[H.Zc]; omega) (fun m hm=>g0 _ m hm)
 rw[Zix]
 refine Goes.Zjd fits Hh (f:=81) (first:=[]) (caps:=[some (pg,0),some (pn,0)]) (by simp only[Zx,Z0,e41,asC]) (exE (Zs9 Hh f hk G T1 (by rw[Ju (by simp only[H.Zc]; omega)]) ((g0 _ _ lg).trans hg) ((g0 _ _ ln).trans hn)) ?_)
 rintro v h3 A
 have an:=A.next
 simp only[H.Zc] at an
 refine⟨_,_,_,_,_,_,_,_,A.hl,by simp,?_⟩
 show _∧_∧_
 refine⟨rfl,rfl,rfl,?_,?_,?_,A.M.keep (by rw[H.Zh]; omega) (fun m hm=>by rw[Zu (by omega)]),by rw[H.Zh]; omega,fun m hm ho m1 m2 m3=>?_⟩
 ·rw[Zu (by omega),A.keep _ (by simp only[H.Zc]; omega) ⟨⟨by omega,by omega,by omega,by omega,by omega⟩,by omega⟩ (by omega) (by omega) (by omega) (by omega),gd]
 ·rw[Zu (by omega),A.r6]
 ·rw[Zu (by omega),A.r7]
 ·rw[Zu (by omega),A.keep m (by simp only[H.Zc]; omega) ho (by omega) m1 m2 m3,g0 _ _ hm]
theorem Zyv (f:U4 a b c e=true) (M:HE n q a b c e cr md S T V h) {near:Int} (hk:Zd2 a c near=k) (G:GrpH a b c e S T V D kq g k t x0 i0 w0 gn o) :
  ∃ h',Zg K Tryz.prog 7 [.c (.ptr (n+13) 0),.c (.int .u8 kq),.c (.int .i64 near)] h (.tup [.c (.int .i64 ((k * c+t+1:Nat):Int)),.c (.int .i64 0)]) h'∧HE n q a b c e cr md S T (Zh0 b c e V D kq g k t x0 i0 w0 gn) h'∧h.next≤h'.next∧∀ m,m<h.next→Out n q m→h'.get m=h.get m:=by
 obtain⟨g1,g2,g3,g4,g5,g6,g7,g8,g9,g10,g11⟩:=Yc f
 have kk:=G.kk
 have ek:(kq != 1&&kq != 2)=false:=by rcases kk with rfl|rfl<;>rfl
 obtain⟨nq,nx,_⟩:=M.nx
 obtain⟨_,⟨kn0,hs⟩,⟨dk0,gl⟩,ht⟩:=M.cells
 unfold gdL gdD at gl
 obtain⟨v,h',cc,rfl,M',nn,kx⟩:∃ v h',Zg K Tryz.prog 7 [.c (.ptr (n+13) 0),.c (.int .u8 kq),.c (.int .i64 near)] h v h'∧v=.tup [.c (.int .i64 ((k * c+t+1:Nat):Int)),.c (.int .i64 0)]∧HE n q a b c e cr md S T (Zh0 b c e V D kq g k t x0 i0 w0 gn) h'∧h.next≤h'.next∧∀ m,m<h.next→Out n q m→h'.get m=h.get m:=by
  obtain⟨kv,hkv⟩:∃ kv,kv=kq:=⟨_,rfl⟩
  rcases kk with rfl|rfl
  all_goals
   refine Zg.Yb fits Hh (by kernel_rfl) (by kernel_rfl) (by kernel_rfl) (show Tryz.f7.body=some _ from rfl) rfl ?_
   iterate 15 (first|apply Goes.seq|apply Goes.skip|((first|apply Goes.Zo|apply Goes.ops2 fits Hh (Zj Zb (fun _ _ _ _=>Zgt Hh))); · simp (maxSteps:=9^6) +decide (disch:=first|omega|(simp only[lens]<;>omega)|decide) only [go_sem,Zd,Za,simprocAttr,f,hs,stG,gl,ht,txG,read1,Z6]<;>rfl))
   refine Goes.abs fun hA eA=>?_
   have nA:hA.next=h.next+1+1+1+1:=by rw[eA]; simp only[H.Zh,H.Zc]
   have kA:∀ m,m<h.next→hA.get m=h.get m:=fun m hm=>by rw[eA]; (first|(simp (discharger:=omega) only [H.get_put,H.Zf,H.Zk,H.Zc,H.Zh,H.Zi,if_neg]; done)|(simp only[H.get_put,H.Zf,H.Zk,H.Zc,H.Zh,H.Zi]; (repeat' split)<;>first|rfl|(exfalso; omega)|omega))
   have a3:hA.get h.next=some (.row 1 [[.ptr (n+13) 0]] false):=by rw[eA]; simp (maxSteps:=9^6) +decide (disch:=first|omega|(simp only[lens]<;>omega)|decide) only [go_sem,Zd,Za,simprocAttr]<;>rfl
   have a4:hA.get (h.next+1)=some (.row 1 [[.int .u8 kv]] false):=by rw[eA,hkv]; simp (maxSteps:=9^6) +decide (disch:=first|omega|(simp only[lens]<;>omega)|decide) only [go_sem,Zd,Za,simprocAttr]<;>rfl
   have a6:hA.get (h.next+1+1)=some (.row 1 [[.int .i64 0]] false):=by rw[eA]; simp (maxSteps:=9^6) +decide (disch:=first|omega|(simp only[lens]<;>omega)|decide) only [go_sem,Zd,Za,simprocAttr]<;>rfl
   have a7:hA.get (h.next+1+1+1)=some (.row 1 [[.int .i64 0]] false):=by rw[eA]; simp (maxSteps:=9^6) +decide (disch:=first|omega|(simp only[lens]<;>omega)|decide) only [go_sem,Zd,Za,simprocAttr]<;>rfl
   clear eA
   subst hkv
   have MA:=M.keep (h2:=hA) (by omega) (fun m hm=>kA m (by omega))
   obtain⟨hB,pD,k6,MB,kB',pD1,pD2,cD⟩:=Zys Hh f MA G.des
   have kB:=kB'.2
   obtain⟨_,⟨knB,hsB⟩,⟨dkB,glB⟩,_⟩:=MB.cells
   unfold gdL gdD at glB
   have b3:=(kB h.next (by omega) (by omega)).trans a3
   have b4:=(kB (h.next+1) (by omega) (by omega)).trans a4
   have b6:=(kB (h.next+1+1) (by omega) (by omega)).trans a6
   have b7:=(kB (h.next+1+1+1) (by omega) (by omega)).trans a7
   iterate 7 (first|apply Goes.seq|apply Goes.skip|((first|apply Goes.Zo|apply Goes.ops2 fits Hh (Zt Zb k6)); · simp (maxSteps:=9^6) +decide (disch:=first|omega|(simp only[lens]<;>omega)|decide) only [go_sem,Zd,Za,simprocAttr,Zw,f,hs,stG,gl,ht,txG,a3,hsB,glB,b3,b4,read1,Z6]<;>rfl))
   iterate 5 (first|apply Goes.seq|apply Goes.block|(apply Goes.ops2 fits Hh (Zj (Zj Zb (fun _ _ _ _=>Gy Hh)) (fun _ _ _ _=>Zms Hh)); · simp (maxSteps:=9^6) +decide (disch:=first|omega|(simp only[lens]<;>omega)|decide) only [go_sem,Zd,Za,simprocAttr,f,hs,stG,gl,ht,txG,a3,hsB,glB,b3,b4,read1,Z6]<;>rfl))
   refine Goes.abs fun hC eC=>?_
   have nC:hC.next=hB.next+1+1+1+1:=by rw[eC]; simp only[H.Zh,H.Zc]
   have kC:∀ m,m<hB.next→hC.get m=hB.get m:=fun m hm=>by rw[eC]; (first|(simp (discharger:=omega) only [H.get_put,H.Zf,H.Zk,H.Zc,H.Zh,H.Zi,if_neg]; done)|(simp only[H.get_put,H.Zf,H.Zk,H.Zc,H.Zh,H.Zi]; (repeat' split)<;>first|rfl|(exfalso; omega)|omega))
   have c9:hC.get hB.next=some (.row 1 [[.slice pD 0 a 3]] false):=by rw[eC]; simp (maxSteps:=9^6) +decide (disch:=first|omega|(simp only[lens]<;>omega)|decide) only [go_sem,Zd,Za,simprocAttr]<;>rfl
   have c11:hC.get (hB.next+1)=some (.row 4 [[.int .i64 (a:Int),.int .i64 (b:Int),.int .i64 (c:Int),.int .i64 (e:Int)]] false):=by rw[eC]; simp (maxSteps:=9^6) +decide (disch:=first|omega|(simp only[lens]<;>omega)|decide) only [go_sem,Zd,Za,simprocAttr]<;>rfl
   have cg:hC.get (hB.next+1+1)=some (.row 4 [[.int .i64 (a:Int),.int .i64 (b:Int),.int .i64 (c:Int),.int .i64 (e:Int)]] false):=by rw[eC]; simp (maxSteps:=9^6) +decide (disch:=first|omega|(simp only[lens]<;>omega)|decide) only [go_sem,Zd,Za,simprocAttr]<;>rfl
   have cn:hC.get (hB.next+1+1+1)=some (.row 1 [[.int .i64 near]] false):=by rw[eC]; simp (maxSteps:=9^6) +decide (disch:=first|omega|(simp only[lens]<;>omega)|decide) only [go_sem,Zd,Za,simprocAttr]<;>rfl
   clear eC
   have nB:=MB.nx.2.1
   have MC:=MB.keep (h2:=hC) (by omega) (fun m hm=>kC m (by omega))
   refine (Zrb Hh (h:=hC) (n:=n) (cr:=cr) (md:=md) (S:=S) (T:=T) f hk G (p3:=h.next) (p4:=h.next+1) (p6:=h.next+1+1) (p7:=h.next+1+1+1) (p9:=hB.next) (p11:=hB.next+1) (pD:=pD) (pg:=hB.next+1+1) (pn:=hB.next+1+1+1) ?_ (by omega) nq (by omega) (by omega) (by omega) cg cn (by omega) (by omega) ?_).mono ?_
   ·intro h2 l l1 l2 k2
    refine⟨MC.keep (by omega) (fun m hm=>k2 m (by omega)),?_,?_,?_,?_,?_,?_,(k2 _ (by omega)).trans ((kC _ (by omega)).trans b3),(k2 _ (by omega)).trans ((kC _ (by omega)).trans b4),(k2 _ (by omega)).trans ((kC _ (by omega)).trans b6),(k2 _ (by omega)).trans ((kC _ (by omega)).trans b7),(k2 _ (by omega)).trans c9,(k2 _ (by omega)).trans c11,(k2 _ (by omega)).trans ((kC _ (by omega)).trans cD),?_,?_,?_,?_,?_,?_,?_,?_,?_,?_,?_,?_,?_,?_,?_,?_,?_⟩
    all_goals (first|omega|(simp (decide:=true) only [Ze,reduceIte]))
   ·simp (decide:=true) only [Ze,reduceIte]
   rintro x ds' ts' h' ⟨rfl,rfl,rfl,gd',r6,r7,MM,nn,kk⟩
   refine⟨_,_,(by simp (maxSteps:=9^6) +decide (disch:=first|omega|(simp only[lens]<;>omega)|decide) only [go_sem,Zd,Za,simprocAttr,gd',r6,r7,read1]<;>rfl),rfl,MM.keep ?_ (fun m hm=>?_),?_,fun m hm ho=>?_⟩
   ·simp only[H.Zh,H.Zc,H.Zi]<;>omega
   ·(first|(simp (discharger:=omega) only [H.get_put,H.Zf,H.Zk,H.Zc,H.Zh,H.Zi,if_neg]; done)|(simp only[H.get_put,H.Zf,H.Zk,H.Zc,H.Zh,H.Zi]; (repeat' split)<;>first|rfl|(exfalso; omega)|omega))
   ·simp only[H.Zh,H.Zc,H.Zi]<;>omega
   ·refine Eq.trans ?_ ((kk m (by omega) ho (by omega) (by omega) (by omega)).trans ((kC m (by omega)).trans ((kB m (by omega) ho.1.1).trans (kA m hm)))); (first|(simp (discharger:=omega) only [H.get_put,H.Zf,H.Zk,H.Zc,H.Zh,H.Zi,if_neg]; done)|(simp only[H.get_put,H.Zf,H.Zk,H.Zc,H.Zh,H.Zi]; (repeat' split)<;>first|rfl|(exfalso; omega)|omega))
 exact⟨h',cc,M',nn,kx⟩
end
end Go.Proofs.YtdkcjalmhdofcaaGreatDoor
