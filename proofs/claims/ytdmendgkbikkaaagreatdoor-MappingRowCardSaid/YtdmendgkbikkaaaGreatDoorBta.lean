/- blocks: open, descs, free, change; over any store whose handle is open. -/
import Derived.Test.YtdmendgkbikkaaaGreatDoorBfg
import Derived.Test.YtdmendgkbikkaaaGreatDoorHba
import Derived.Test.YtdmendgkbikkaaaGreatDoorEvC
set_option linter.unusedSimpArgs false
set_option linter.unusedVariables false
set_option linter.unusedSectionVars false
set_option maxRecDepth 100000
set_option maxHeartbeats 4000000
namespace Go.Proofs.YtdmendgkbikkaaaGreatDoor
open Go.Ev
theorem rs16:Tryz.f16.results.toList=[.tmp 2]:=rfl
theorem rs139:Tryz.f139.results.toList=[.tmp 2]:=rfl
theorem rs17:Tryz.f17.results.toList=[.tmp 2,.tmp 3]:=rfl
theorem rs163:Tryz.f163.results.toList=[.tmp 4]:=rfl
theorem rs164:Tryz.f164.results.toList=[.tmp 6]:=rfl
theorem rs142:Tryz.f142.results.toList=[.tmp 10]:=rfl
theorem rs166:Tryz.f166.results.toList=[]:=rfl
attribute [go_sem] rs16 rs139 rs17 rs163 rs164 rs142 rs166
noncomputable def Zpb:Kn1:=fun args h=>match args with
 | [.c (.ptr s 0)]=>(Gi h s).bind fun S=>(Ea h S.gd).bind fun _=>some (.w (.c (.int .i64 0)),h)
 | _=>none
noncomputable def Zpc:Kn1:=fun args h=>match args with
 | [.c (.ptr s 0)]=>(Gi h s).bind fun S=>(Ea h S.gd).bind fun _=>(Uh h S.tx).bind fun X=>Yp X.op (some (.w (.c (.int .i64 0)),h))
 | _=>none
noncomputable def Zf5:Kn1:=fun args h=>match args with
 | [.g [a,b,c,d],.c z]=>some (.w (.c (.fn 210 [] [some (h.next,0),some (h.next+1,0)])),(h.new (.row 4 [[a,b,c,d]] false)).new (.row 1 [[z]] false))
 | _=>none
attribute [go_sem] Zpb Zpc Zf5
section
variable (Hh:Hearts K Tryz.prog)
include Hh
theorem Zif {args:List W} {h h':Go.Ev.H} {v:V} (e:Zpb args h=some (v,h')):Zg 16 args h v h':=by
 unfold Zpb at e
 split at e
 ·rename_i s
  obtain⟨S,hs,e⟩:=Zh e
  have hs:=Ja hs
  obtain⟨G,hg,e⟩:=Zh e
  obtain⟨hg,fb⟩:=Un hg
  cases e
  refine fnG Hh Tryz.f16 ?_
  repeat (first|apply Zp|apply Z6|apply Yb|((first|apply Goes.Zn|apply Goes.ops2 fits Hh (EY (EY Za (El Hh)) (Gz Hh))); · simp (maxSteps:=9^6) +decide (disch:=first|omega|(simp only[lens]<;>omega)|decide) only [go_sem,Zm,Ze,simprocAttr,hs,hg,gdL,fb,Yw]<;>rfl))
  exact Zj
 ·cases e
theorem Zts {args:List W} {h h':Go.Ev.H} {v:V} (e:Zpc args h=some (v,h')):Zg 139 args h v h':=by
 unfold Zpc at e
 split at e
 ·rename_i s
  obtain⟨S,hs,e⟩:=Zh e
  have hs:=Ja hs
  obtain⟨G,hg,e⟩:=Zh e
  obtain⟨hg,fb⟩:=Un hg
  obtain⟨X,ht,e⟩:=Zh e
  have ht:=Ym ht
  obtain⟨bo,e⟩:=Zr.1 e
  cases e
  refine fnG Hh Tryz.f139 ?_
  repeat (first|apply Zp|apply Z48|apply Z6|apply Yb|((first|apply Goes.Zn|apply Goes.ops2 fits Hh (EY (EY (EY Za (Zif Hh)) (Zin Hh)) (Zne Hh))); · simp (maxSteps:=9^6) +decide (disch:=first|omega|(simp only[lens]<;>omega)|decide) only [go_sem,Zm,Ze,simprocAttr,hs,ht,hg,gdL,fb,bo]<;>rfl)|simp +decide only [reduceIte])
  exact Zj
 ·cases e
theorem Zm6 {args:List W} {h h':Go.Ev.H} {v:V} (e:Zf5 args h=some (v,h')):Zg 163 args h v h':=by
 unfold Zf5 at e
 split at e
 ·cases e
  refine fnG Hh Tryz.f163 ?_
  repeat (first|apply Zp|apply Yb|((first|apply Goes.Zn|apply Goes.ops2 fits Hh Za); · simp (maxSteps:=9^6) +decide (disch:=first|omega|(simp only[lens]<;>omega)|decide) only [go_sem,Zm,Ze,simprocAttr,Yr,Lc,Dj,ptrs]<;>rfl))
  exact Zj
 ·cases e
variable {n q a b c e:Nat} {cr:Cr} {md:Int} {S T:List Nat} {V:Nat→List Nat} {h:Go.Ev.H}
theorem Zqn (f:Y2 a b c e=true) (M:HE n q a b c e cr md S T V h) {D:List Oi} (dd:Des V a b c D) :
  ∃ h' p,Zg 17 [.c (.ptr (n+13) 0)] h (.tup [.c (.slice p 0 a 3),.c (.int .i64 0)]) h'∧HE n q a b c e cr md S T V h'∧Kr n q h h'∧h.next≤p∧p<h'.next∧h'.get p=some (.row 3 (D.map O9) false):=by
 obtain⟨g1,g2,g3,g4,g5,g6,g7,g8,g9,g10,g11⟩:=Yh f
 obtain⟨gd,td,Dl⟩:=dd
 obtain⟨hG,e1,MG,nG,rG⟩:=M.get f (z:=1) (Zfm a b c e) (by omega)
 have c1:Zg 23 [.c (.ptr (n+13) 0),.c (.int .i64 1)] h (.tup [.g (pgL (V 1)),.c (.int .i64 0)]) hG:=F3 Hh e1
 have Yl:(pgL (V 1)).length=256:=by rw[Da]; exact M.len (z:=1) (Zfm a b c e) (by omega)
 have bd:=Zbq (V 1)
 have gd':goodD (unN (pgL (V 1))) a b c=true:=by rw[Ga,Rh]; exact gd
 have td':Be (unN (pgL (V 1))) a 0=D:=by rw[Ga,Mg]; exact td
 obtain⟨Y,hY⟩:∃ Y,pgL (V 1)=Y:=⟨_,rfl⟩
 rw[hY] at c1 Yl bd gd' td'
 obtain⟨nq,nx,n0⟩:=M.nx
 obtain⟨st,⟨kn,hs⟩,⟨dk,gl⟩,ht⟩:=MG.cells
 obtain⟨st0,⟨kn0,hs0⟩,⟨dk0,gl0⟩,ht0⟩:=M.cells
 unfold gdL gdD at gl gl0
 obtain⟨v,h',cc,p,rfl,M',hk,p1,p2,p3⟩:∃ v h',Zg 17 [.c (.ptr (n+13) 0)] h v h'∧∃ p,v=.tup [.c (.slice p 0 a 3),.c (.int .i64 0)]∧HE n q a b c e cr md S T V h'∧Kr n q h h'∧h.next≤p∧p<h'.next∧h'.get p=some (.row 3 (D.map O9) false):=by
  refine Jd Hh Tryz.f17 ?_
  have Jf:=Uc @f @st (Ur @hs @gl @hs0 @gl0 @Yl @bd @gd' @td' @Dl)
  iterate 3 (first|apply Zp|refine Zy Hh Za Mv ?_)
  iterate 7 (first|apply Zp|apply Z6|refine Goes.Zn Mv ?_|refine Zy Hh (Zu Za c1) Mv ?_)
  iterate 2 (first|apply Yb|refine Ms Hh (EY (EY Za (El Hh)) (Z1n Hh)) Zut ?_)
  refine⟨_,_,Jk,_,rfl,MG.keep ?_ (fun m hm=>?_),⟨?_,fun m hm hne=>?_⟩,?_,?_,?_⟩
  ·first|omega|(simp only[H.Zf,H.Zc]<;>omega)
  ·exact Jg
  ·first|omega|(simp only[H.Zf,H.Zc]<;>omega)
  ·refine Eq.trans ?_ (rG m hm hne); exact Jg
  ·first|omega|(simp only[H.Zf,H.Zc]<;>omega)
  ·first|omega|(simp only[H.Zf,H.Zc]<;>omega)
  ·exact Jk
 exact⟨h',p,cc,M',hk,p1,p2,p3⟩
theorem Zuz (f:Y2 a b c e=true) (M:HE n q a b c e cr md S T V h) {g:Nat→Bool} {t:Nat} (low:∀ j,2+c / 4≤j→j<t→g j=true) (t0:2+c / 4≤t) (tb:t≤b) (gt:t<b→g t=false) {s:Nat} (sl:s≤4096) :
  ∃ h',Zg 164 [.c (.ptr (n+13) 0),.c (.int .i64 (s:Int)),.g (Ov g)] h (.w (.c (.int .i64 (if t<b then (t:Int) else -1)))) h'∧HE n q a b c e cr md S T V h'∧h.next≤h'.next∧∀ m,m<h.next→m≠n+13→h'.get m=h.get m:=by
 obtain⟨g1,g2,g3,g4,g5,g6,g7,g8,g9,g10,g11⟩:=Yh f
 obtain⟨nq,nx,n0⟩:=M.nx
 obtain⟨st,⟨kn,hs⟩,⟨dk,gl⟩,ht⟩:=M.cells
 unfold gdL gdD at gl
 have pl:(Ov g).length=256:=Lp _
 have cF:=Z2z Hh g (s:=2+c / 4) (t:=t) (u:=b) t0 tb (by omega) low gt
 have q4:F9 .i64 (c:Int) 4=some (.int .i64 ((c / 4:Nat):Int)):=Nc (b:=4) (by omega) (by omega)
 have e2:(2:Int)+((c / 4:Nat):Int)=((2+c / 4:Nat):Int):=rfl
 have d0:decide (((2+c / 4:Nat):Int)<(b:Int))=true:=decide_eq_true (by omega)
 obtain⟨y,hy⟩:∃ y,2+c / 4=y:=⟨_,rfl⟩
 rw[hy] at cF e2 d0 t0
 obtain⟨B,hB⟩:∃ B,Ov g=B:=⟨_,rfl⟩
 rw[hB] at pl cF ⊢
 obtain⟨z,hz⟩:∃ z,(if t<b then (t:Int) else -1)=z:=⟨_,rfl⟩
 rw[hz] at cF ⊢
 refine F5 ?_
 by_cases tl:t<b
 ·obtain rfl:z=(t:Int):=by rw[←hz,if_pos tl]
  have es:(s:Int)+(t:Int)=((s+t:Nat):Int):=rfl
  refine Jd Hh Tryz.f164 ?_
  have Jf:=Zd0 @f @hs @gl @pl @q4 @e2 @d0 @es
  iterate 17 (first|apply Zp|apply Z6|apply Yk|apply Yt|refine Goes.Zn Ey ?_|refine Zy Hh (EY Za (El Hh)) Ey ?_)
  iterate 7 (first|apply Zp|apply Z6|refine Goes.Zn Ey ?_|refine Zy Hh (U5 Za cF) Ey ?_)
  refine Dc fun hA eA=>?_
  have nA:hA.next=h.next+2:=by rw[eA]; simp only[H.Zf,H.Zc]
  have kA:∀ m,m<h.next→hA.get m=h.get m:=fun m hm=>by rw[eA]; exact Jg
  clear eA
  have MA:=M.keep (h2:=hA) (by omega) (fun m hm=>kA m (by omega))
  obtain⟨hC,e8,MC,nC,rC⟩:=MA.busy ((s+t:Nat):Int)
  have c8:=Zt6 Hh e8
  iterate 5 (first|apply Zp|apply Yb|refine Goes.Zn Ey ?_|refine Zy Hh (Zu Za c8) Ey ?_)
  exact⟨_,_,Zj,rfl,MC,by omega,fun m hm hne=>(rC m hne).trans (kA m hm)⟩
 ·obtain rfl:z = -1:=by rw[←hz,if_neg tl]
  refine Jd Hh Tryz.f164 ?_
  have Jf:=Qv @f @hs @gl @pl @q4 @e2 @d0
  iterate 17 (first|apply Zp|apply Z6|apply Yk|apply Yt|refine Goes.Zn Ey ?_|refine Zy Hh (EY Za (El Hh)) Ey ?_)
  iterate 8 (first|apply Zp|apply Yb|refine Goes.Zn Ey ?_|refine Zy Hh (U5 Za cF) Ey ?_)
  refine⟨_,_,Zj,rfl,M.keep ?_ (fun m hm=>?_),?_,fun m hm hne=>?_⟩
  ·first|omega|(simp only[H.Zf,H.Zc]<;>omega)
  ·exact Jg
  ·first|omega|(simp only[H.Zf,H.Zc]<;>omega)
  ·exact Jg
theorem Zzi {p k:Nat} {D:List Oi} {x y w:Nat} {h:Go.Ev.H} (hp:h.get p=some (.row 3 (D.map O9) false)) (hk:D[k]? = some (x,y,w)) (x1:1≤x) (x2:x<4096):Zg 166 [.c (.ptr p (k * 3))] h (.tup []) (h.put p (.row 3 ((D.set k (x - 1,y,w)).map O9) false)):=by
 have hr:(D.map O9)[k]? = some [.int .i64 (x:Int),.int .i64 (y:Int),.int .i64 (w:Int)]:=by rw[List.getElem?_map,hk]; rfl
 have r1:read1 3 (D.map O9) (k * 3)=some (.int .i64 (x:Int)):=Ee (sz:=3) (j:=0) (by omega) hr
 have w1:Z9 3 (D.map O9) (k * 3) [.int .i64 ((x:Int) - 1)]=some ((D.map O9).set k [.int .i64 ((x:Int) - 1),.int .i64 (y:Int),.int .i64 (w:Int)]):=Zg5 (j:=0) hr rfl (by omega)
 have fin:(D.map O9).set k [.int .i64 ((x:Int) - 1),.int .i64 (y:Int),.int .i64 (w:Int)]=(D.set k (x - 1,y,w)).map O9:=by
  rw[List.map_set]
  congr 1
  show _=[C.int .i64 ((x - 1:Nat):Int),.int .i64 (y:Int),.int .i64 (w:Int)]
  rw[show ((x - 1:Nat):Int)=(x:Int) - 1 by omega]
 obtain⟨Z,hZ⟩:∃ Z,D.map O9=Z:=⟨_,rfl⟩
 rw[hZ] at hp r1 w1 fin
 refine fnG Hh Tryz.f166 ?_
 have Jf:=Oz @hp @r1 @w1 @Nat.add_zero
 repeat (first|refine Zy Hh Za Zq ?_)
 have Jf:=@fin; exact Zq
variable [Opn cr]
theorem Zuy (f:Y2 a b c e=true) (M:HE n q a b c e cr md S T V h) {k:Nat} (ka:k<a) (s2:1∈S∧1 ∉ T) (s3:2+e+k * b∈S∧2+e+k * b ∉ T) {nb:List Nat} (nbl:nb.length=256)
  {F pD:Nat} {D D':List Oi} (hp:h.get pD=some (.row 3 (D.map O9) false)) (Dl:D.length=a) (Dl':D'.length=a) (Dm:D'.all (Zan (b - 2 - c / 4) c)=true) (pl:pD<h.next) (p32:q+9≤pD)
  (hF:∀ h2,h2.get pD=some (.row 3 (D.map O9) false)→Zg F [.c (.ptr pD (k * 3))] h2 (.tup []) (h2.put pD (.row 3 (D'.map O9) false))) :
  ∃ h',Zg 142 [.c (.ptr (n+13) 0),.c (.int .i64 (k:Int)),.g (pgL nb),.c (.slice pD 0 a 3),.c (.fn F [] [])] h (.w (.c (.int .i64 0))) h'∧HE n q a b c e cr md S T (Zci (Zci V (2+e+k * b) nb) 1 (Zny D')) h'∧h.next≤h'.next∧∀ m,m<h.next→Out n q m→m≠pD→h'.get m=h.get m:=by
 obtain⟨g1,g2,g3,g4,g5,g6,g7,g8,g9,g10,g11⟩:=Yh f
 have st:=Zao (b:=b) ka
 obtain⟨zb,hb⟩:∃ z,2+e+k * b=z:=⟨_,rfl⟩
 rw[hb] at s3 ⊢
 have zbl:zb<2+e+a * b:=by omega
 have ob:=V3 (z:=zb) (Yh f) (by omega) zbl
 obtain⟨nq,nx,n0⟩:=M.nx
 have bl:(pgL nb).length=256:=by rw[Da,nbl]
 have hB1:=fun {h:Go.Ev.H} (M:HE n q a b c e cr md S T V h)=>M.put f ob zbl nbl s3.1 s3.2
 have hB2:=fun {V:Nat→List Nat} {h:Go.Ev.H} (M:HE n q a b c e cr md S T V h)=>M.put f (z:=1) (Zfm a b c e) (by omega) (Zlm D') s2.1 s2.2
 obtain⟨mB,hmB⟩:∃ x,pgL nb=x:=⟨_,rfl⟩
 obtain⟨Y,hY⟩:∃ Y,pgL (Zny D')=Y:=⟨_,rfl⟩
 have Yl:Y.length=256:=by rw[←hY,Da,Zlm]
 have hY':pgL (De (Fh D' 0 Gn))=Y:=hY
 rw[hmB] at bl ⊢
 simp only[hmB] at hB1
 simp only[hY] at hB2
 refine F5 ?_
 refine Jd Hh Tryz.f142 ?_
 have Jf:=Oz @f @hb @bl @Nat.zero_add
 iterate 3 (first|apply Zp|refine Zy Hh Za Mw ?_)
 refine Dc fun hA eA=>?_
 have nA:hA.next=h.next+1:=by rw[eA]; first|rfl|simp only[H.Zf,H.Zc]
 have kA:∀ m,m<h.next→hA.get m=h.get m:=fun m hm=>by rw[eA]; exact Jg
 have bA:hA.get h.next=some (.row 256 [mB] false):=by rw[eA]; exact Z5
 clear eA
 have MA:=M.keep (h2:=hA) (by omega) (fun m hm=>kA m (by omega))
 obtain⟨_,⟨knA,hsA⟩,⟨dkA,glA⟩,_⟩:=MA.cells
 unfold gdL gdD at glA
 obtain⟨hB,e1,MB,nB,kB⟩:=hB1 MA
 have c1:=Zbe Hh e1
 have Jf:=Mt Jf @nA @bA @hsA @glA
 iterate 3 (first|apply Zp|refine Zy Hh (EY (EY Za (El Hh)) (Qq Hh)) Mw ?_)
 iterate 6 (first|apply Zp|apply Z6|refine Goes.Zn Mw ?_|refine Zy Hh (Zu Za c1) Mw ?_)
 have pB:=(kB pD ⟨by omega,by omega,by omega,by omega,by omega⟩).trans ((kA _ pl).trans hp)
 have c2:=hF hB pB
 iterate 2 (first|apply Zp|refine Zy Hh (Zu Za c2) Mw ?_)
 refine Dc fun hC eC=>?_
 have nC:hC.next=h.next+1:=by rw[eC,H.Zf,nB,nA]
 have kC:∀ m,m<h.next+1→Out n q m→m≠pD→hC.get m=hA.get m:=fun m hm ho hne=>by rw[eC,Zo hne]; exact kB m ho.1
 have pC:hC.get pD=some (.row 3 (D'.map O9) false):=by rw[eC,Yg]
 have MC:=MB.keep (h2:=hC) (by rw[eC,H.Zf]; omega) (fun m hm=>by rw[eC,Zo (by omega)])
 clear eC
 obtain⟨stC,⟨knC,hsC⟩,⟨dkC,glC⟩,_⟩:=MC.cells
 unfold gdL gdD at glC
 have Jf:=Uq Jf (Ur @nC @pC @hsC @glC @stC @Dl' @Dm @hY' @Yl)
 iterate 7 (first|apply Zp|apply Z6|refine Goes.Zn Mw ?_|refine Zy Hh (EY (EY Za (El Hh)) (Z1q Hh)) Mw ?_)
 refine Dc fun hD eD=>?_
 have nD:hD.next=h.next+2:=by rw[eD]; simp only[H.Zf,H.Zc,nC]
 have kD:∀ m,m<h.next+1→Out n q m→m≠pD→hD.get m=hA.get m:=fun m hm ho hne=>by rw[eD]; refine Eq.trans ?_ (kC m hm ho hne); exact Jg
 have bD:hD.get (h.next+1)=some (.row 256 [Y] false):=by rw[eD,←nC]; exact Z5
 have MD:=MC.keep (h2:=hD) (by omega) (fun m hm=>by rw[eD]; have:=MC.nx; exact Jg)
 clear eD
 obtain⟨hE,e3,ME,nE,kE⟩:=hB2 MD
 have c3:=Zbe Hh e3
 have Jf:=Uq Jf @bD
 iterate 2 (first|apply Yb|refine Zy Hh (Zu Za c3) Mw ?_)
 exact⟨_,_,Jk,rfl,ME,by omega,fun m hm ho hne=>(kE m ho.1).trans ((kD m (by omega) ho hne).trans (kA m hm))⟩
end
noncomputable def q117 (p:List Nat):Code:=piece p (Ut Tryz.f117)
theorem Zj1:q117 [1,1,1,1,0,1,2]=.rangeFunc (.tmp 32) #[33] (q117 [1,1,1,1,0,1,2,5]) (q117 [1,1,1,1,0,1,2,6]):=by kernel_rfl
theorem Ww:q117 [1,1,1,1,0,1,2,5]=.region 8 (Z3j (q117 [1,1,1,1,0,1,2,5])) false:=by kernel_rfl
theorem Wx:q117 [1,1,1,1,0,1,2,6]=.block 1 (q117 [1,1,1,1,0,1,2,6,2]):=by kernel_rfl
noncomputable def q210 (p:List Nat):Code:=piece p (Ut Tryz.f210)
theorem rs117:Tryz.f117.results.toList=[.cell 4 3,.cell 5 31]:=rfl
theorem rs210:Tryz.f210.results.toList=[]:=rfl
attribute [go_sem] rs117 rs210
theorem rd1 (c:C):read1 1 [[c]] 0=some c:=rfl
structure Bmp (a b c e:Nat) (V:Nat→List Nat) (D:List Oi) (g:Nat→Nat→Bool):Prop where
 bm:∀ k,k<a→V (2+e+k * b)=Zgv (g k)
 des:Des V a b c D
 may:D.all (Zan (b - 2 - c / 4) c)=true
def Zg7 (b c:Nat) (g:Nat→Bool):Prop:=∀ j,2+c / 4≤j→j<b→g j=true
structure FreeG (b c:Nat) (D:List Oi) (g:Nat→Nat→Bool) (k t x y w:Nat):Prop where
 t0:2+c / 4≤t
 tb:t<b
 low:∀ j,2+c / 4≤j→j<t→g k j=true
 gt:g k t=false
 hk:D[k]? = some (x,y,w)
 x1:1≤x
def Zg4 (b e:Nat) (V:Nat→List Nat) (D:List Oi) (g:Nat→Nat→Bool) (k t x y w:Nat):Nat→List Nat:=Zci (Zci V (2+e+k * b) (Zgv (Zch (g k) t))) 1 (Zny (D.set k (x - 1,y,w)))
structure TCb (n q a b c e:Nat) (cr:Cr) (md:Int) (S T:List Nat) (V:Nat→List Nat) (D:List Oi) (l p2 p4 p5 p7 pD:Nat) (ts:Zw) (h:Go.Ev.H):Prop where
 M:HE n q a b c e cr md S T V h
 e2:Zi ts 2=.w (.c (.ptr p2 0))
 e4:Zi ts 4=.w (.c (.ptr p4 0))
 e5:Zi ts 5=.w (.c (.ptr p5 0))
 e7:Zi ts 7=.w (.c (.ptr p7 0))
 c2:h.get p2=some (.row 1 [[.ptr (n+13) 0]] false)
 c4:h.get p4=some (.row 1 [[.int .i64 0]] false)
 c5:h.get p5=some (.row 1 [[.int .i64 0]] false)
 c7:h.get p7=some (.row 1 [[.slice pD 0 a 3]] false)
 cD:h.get pD=some (.row 3 (D.map O9) false)
 b2:q+9≤p2∧p2<h.next
 b4:q+9≤p4∧p4<h.next
 b5:q+9≤p5∧p5<h.next
 b7:q+9≤p7∧p7<h.next
 bD:q+9≤pD∧pD<h.next
 bl:q+9≤l∧l<h.next
 n1:p2≠pD∧p4≠pD∧p5≠pD∧p7≠pD∧l≠pD
 n2:p4≠p5∧p2≠p4∧p2≠p5∧p7≠p4∧p7≠p5
 n3:l≠p2∧l≠p4∧l≠p5∧l≠p7
theorem TCb.keep {n q a b c e:Nat} {cr:Cr} {md:Int} {S T:List Nat} {V:Nat→List Nat} {D:List Oi} {l p2 p4 p5 p7 pD:Nat} {ts:Zw} {h h2:Go.Ev.H} (C:TCb n q a b c e cr md S T V D l p2 p4 p5 p7 pD ts h) (M2:HE n q a b c e cr md S T V h2) (nx:h.next≤h2.next) (k:∀ m,m<h.next→q+9≤m→m≠l→h2.get m=h.get m):TCb n q a b c e cr md S T V D l p2 p4 p5 p7 pD ts h2:=by
 obtain⟨M,e2,e4,e5,e7,c2,c4,c5,c7,cD,b2,b4,b5,b7,bD,bl,n1,n2,n3⟩:=C
 exact⟨M2,e2,e4,e5,e7,(k _ b2.2 b2.1 (Ne.symm n3.1)).trans c2,(k _ b4.2 b4.1 (Ne.symm n3.2.1)).trans c4,(k _ b5.2 b5.1 (Ne.symm n3.2.2.1)).trans c5,(k _ b7.2 b7.1 (Ne.symm n3.2.2.2)).trans c7,(k _ bD.2 bD.1 (Ne.symm n1.2.2.2.2)).trans cD,⟨b2.1,by omega⟩,⟨b4.1,by omega⟩,⟨b5.1,by omega⟩,⟨b7.1,by omega⟩,⟨bD.1,by omega⟩,⟨bl.1,by omega⟩,n1,n2,n3⟩
section
variable (Hh:Hearts K Tryz.prog)
include Hh
variable {n q a b c e:Nat} {cr:Cr} [Opn cr] {md:Int} {S T:List Nat} {V:Nat→List Nat} {D:List Oi} {g:Nat→Nat→Bool} {l p2 p4 p5 p7 pD d:Nat} {ts:Zw} {h:Go.Ev.H}
theorem btA (l:Nat) (ts:Zw) (k:Nat) (h:Go.Ev.H):Ya 75 (some l) (q117 [1,1,1,1,0,1,2,5]) [] (ts.set 33 (.w (.c (.int .i64 (k:Int))))) h fun x ds' ts' h'=>x=.normal∧ds'=[]∧(∀ s,s≤8→Zi ts' s=Zi ts s)∧Zi ts' 9=.w (.c (.int .i64 (k:Int)))∧h'=h:=by
 refine Zy Hh Za Zj ?_
 refine⟨rfl,rfl,fun s hs=>?_,?_,rfl⟩
 ·simp (decide:=true) only [Y6 hs]
 ·exact Zj
theorem Z2p (f:Y2 a b c e=true) (B:Bmp a b c e V D g) {k:Nat} (ka:k<a) (fu:Zg7 b c (g k)) (C:TCb n q a b c e cr md S T V D l p2 p4 p5 p7 pD ts h) (e9:Zi ts 9=.w (.c (.int .i64 (k:Int)))) :
  Ya 75 (some l) (q117 [1,1,1,1,0,1,2,6]) [] ts h fun x _ _ h'=>x=.normal∧h.next≤h'.next∧HE n q a b c e cr md S T V h'∧∀ m,m<h.next→m≠n+6→m≠n+13→h'.get m=h.get m:=by
 obtain⟨M,e2,e4,e5,e7,c2,c4,c5,c7,cD,b2,b4,b5,b7,bD,bl,n1,n2,n3⟩:=C
 obtain⟨g1,g2,g3,g4,g5,g6,g7,g8,g9,g10,g11⟩:=Yh f
 have st:=Zao (b:=b) ka
 have bm:=B.bm k ka
 obtain⟨nq,nx,n0⟩:=M.nx
 obtain⟨zb,hb⟩:∃ z,2+e+k * b=z:=⟨_,rfl⟩
 rw[hb] at bm
 have zbl:zb<2+e+a * b:=by omega
 have ob:=V3 (z:=zb) (Yh f) (by omega) zbl
 have bl1:(Ov (g k)).length=256:=Lp _
 have hGE:=fun {h:Go.Ev.H} (M:HE n q a b c e cr md S T V h)=>M.get f ob zbl
 simp only[bm,←Znw] at hGE
 have hFr:=fun {h:Go.Ev.H} (M:HE n q a b c e cr md S T V h)=>Zuz Hh f M (g:=g k) (t:=b) fu (by omega) (Nat.le_refl _) (fun w=>absurd w (by omega)) (s:=zb) (by omega)
 simp only[if_neg (Nat.lt_irrefl b)] at hFr
 obtain⟨B',hB⟩:∃ B',Ov (g k)=B':=⟨_,rfl⟩
 rw[hB] at bl1
 simp only[hB] at hGE hFr
 obtain⟨_,⟨kn0,hs0⟩,⟨dk0,gl0⟩,_⟩:=M.cells
 unfold gdL gdD at gl0
 have Jf:=Uc @f @hs0 (Ur @gl0 @e2 @e4 @e5 @e7 @e9 @c2 @hb @bl1)
 iterate 4 (first|apply Zp|apply Yk|refine Zy Hh (EY (EY Za (El Hh)) (Qq Hh)) Mv ?_)
 obtain⟨hZ,e1,MZ,nZ,rZ⟩:=hGE M
 have k1:=F3 Hh e1
 iterate 7 (first|apply Zp|apply Z6|refine Goes.Zn Mv ?_|refine Zy Hh (Zu Za k1) Mv ?_)
 refine Dc fun hA eA=>?_
 have nA:hA.next=h.next+1:=by rw[eA]; simp only[H.Zf,H.Zc,nZ]
 have kA:∀ m,m<h.next→m≠n+6→hA.get m=h.get m:=fun m hm hne=>by rw[eA]; refine Eq.trans ?_ (rZ m hm hne); exact Jg
 have bA:hA.get h.next=some (.row 256 [B'] false):=by rw[eA,←nZ]; exact Z5
 have MA:=MZ.keep (h2:=hA) (by omega) (fun m hm=>by rw[eA]; exact Jg)
 clear eA
 have cA2:=(kA p2 (by omega) (by omega)).trans c2
 obtain⟨hC,k3,MC,nC,rC⟩:=hFr MA
 have Jf:=Oz Jf @cA2 @bA @nZ
 iterate 6 (first|apply Zp|apply Oe|refine Goes.Zn Mv ?_|refine Zy Hh (Zu Za k3) Mv ?_)
 exact⟨rfl,by omega,MC,fun m hm h6 h13=>(rC m (by omega) h13).trans (kA m hm h6)⟩
theorem Z4v (f:Y2 a b c e=true) (B:Bmp a b c e V D g) {k t x y w:Nat} (ka:k<a) (F:FreeG b c D g k t x y w) (s2:1∈S∧1 ∉ T) (s3:2+e+k * b∈S∧2+e+k * b ∉ T) (C:TCb n q a b c e cr md S T V D l p2 p4 p5 p7 pD ts h) (e9:Zi ts 9=.w (.c (.int .i64 (k:Int)))) :
  Ya 75 (some l) (q117 [1,1,1,1,0,1,2,6]) [] ts h fun x' _ _ h'=>x'=.ret∧h.next≤h'.next∧HE n q a b c e cr md S T (Zg4 b e V D g k t x y w) h'∧(∀ m,m<h.next→Out n q m→m≠pD→m≠p4→m≠p5→h'.get m=h.get m)∧h'.get p4=some (.row 1 [[.int .i64 ((2+e+k * b+t:Nat):Int)]] false)∧h'.get p5=some (.row 1 [[.int .i64 0]] false):=by
 obtain⟨M,e2,e4,e5,e7,c2,c4,c5,c7,cD,b2,b4,b5,b7,bD,bl,n1,n2,n3⟩:=C
 obtain⟨t0,tb,low,gt,hk,x1⟩:=F
 obtain⟨g1,g2,g3,g4,g5,g6,g7,g8,g9,g10,g11⟩:=Yh f
 have st:=Zao (b:=b) ka
 have bm:=B.bm k ka
 have Dl:=B.des.2.2
 obtain⟨nq,nx,n0⟩:=M.nx
 have mx:=Xq (List.all_eq_true.1 B.may _ (List.mem_of_getElem? hk))
 simp only at mx
 have Dm:(D.set k (x - 1,y,w)).all (Zan (b - 2 - c / 4) c)=true:=by
  rw[List.all_eq_true]
  intro z hz
  rcases List.mem_or_eq_of_mem_set hz with h1|h1
  ·exact List.all_eq_true.1 B.may z h1
  ·rw[h1]
   unfold Zan
   rw[Lv (by show x - 1≤_; omega),Lv (by show y≤_; omega),Lv (by show w+y≤_; omega)]
   rfl
 unfold Zg4
 obtain⟨D',hD'⟩:∃ D',D.set k (x - 1,y,w)=D':=⟨_,rfl⟩
 have Dl':D'.length=a:=by rw[←hD',List.length_set,Dl]
 rw[hD'] at Dm ⊢
 obtain⟨zb,hb⟩:∃ z,2+e+k * b=z:=⟨_,rfl⟩
 rw[hb] at bm s3 ⊢
 have zbl:zb<2+e+a * b:=by omega
 have ob:=V3 (z:=zb) (Yh f) (by omega) zbl
 have bl1:(Ov (g k)).length=256:=Lp _
 have ml:(Ov (Zch (g k) t)).length=256:=Lp _
 have hGE:=fun {h:Go.Ev.H} (M:HE n q a b c e cr md S T V h)=>M.get f ob zbl
 simp only[bm,←Znw] at hGE
 have hFr:=fun {h:Go.Ev.H} (M:HE n q a b c e cr md S T V h)=>Zuz Hh f M (g:=g k) (t:=t) low t0 (by omega) (fun _=>gt) (s:=zb) (by omega)
 simp only[if_pos tb] at hFr
 have hC:=fun {h:Go.Ev.H} (M:HE n q a b c e cr md S T V h) (hp:h.get pD=some (.row 3 (D.map O9) false)) (pl:pD<h.next)=>Zuy Hh f M ka s2 (by rw[hb]; exact s3) (Zu5 (Zch (g k) t)) (F:=166) hp Dl Dl' Dm pl bD.1 (fun h2 hp2=>by
  have:=Zzi Hh hp2 hk x1 (by omega)
  rw[hD'] at this
  exact this)
 rw[hb] at hC
 simp only[←Znw] at hC
 have hr:(D.map O9)[k]? = some [.int .i64 (x:Int),.int .i64 (y:Int),.int .i64 (w:Int)]:=by rw[List.getElem?_map,hk]; rfl
 have r0:read1 3 (D.map O9) (k * 3)=some (.int .i64 (x:Int)):=Ee (sz:=3) (j:=0) (by omega) hr
 have dx:decide ((x:Int)≤0)=false:=decide_eq_false (by omega)
 have es:(zb:Int)+(t:Int)=((zb+t:Nat):Int):=rfl
 obtain⟨B',hB⟩:∃ B',Ov (g k)=B':=⟨_,rfl⟩
 obtain⟨N',hN⟩:∃ N',Ov (Zch (g k) t)=N':=⟨_,rfl⟩
 rw[hB] at bl1
 rw[hN] at ml
 simp only[hB] at hGE hFr
 simp only[hN] at hC
 obtain⟨_,⟨kn0,hs0⟩,⟨dk0,gl0⟩,_⟩:=M.cells
 unfold gdL gdD at gl0
 obtain⟨R,hR⟩:∃ R,D.map O9=R:=⟨_,rfl⟩
 have cD':=cD
 rw[hR] at r0 cD'
 have Jf:=Uq @f (Ur @hs0 @gl0 @e2 @e4 @e5 @e7 @e9 @c2 (Ur @hb @bl1 @ml @rd1 @r0 @dx @es @Nat.zero_add @Nat.add_zero))
 iterate 4 (first|apply Zp|apply Yk|refine Zy Hh (EY (EY Za (El Hh)) (Qq Hh)) Dz ?_)
 obtain⟨hZ,e1,MZ,nZ,rZ⟩:=hGE M
 have k1:=F3 Hh e1
 iterate 7 (first|apply Zp|apply Z6|refine Goes.Zn Dz ?_|refine Zy Hh (Zu Za k1) Dz ?_)
 refine Dc fun hA eA=>?_
 have nA:hA.next=h.next+1:=by rw[eA]; simp only[H.Zf,H.Zc,nZ]
 have kA:∀ m,m<h.next→m≠n+6→hA.get m=h.get m:=fun m hm hne=>by rw[eA]; refine Eq.trans ?_ (rZ m hm hne); exact Jg
 have bA:hA.get h.next=some (.row 256 [B'] false):=by rw[eA,←nZ]; exact Z5
 have MA:=MZ.keep (h2:=hA) (by omega) (fun m hm=>by rw[eA]; exact Jg)
 clear eA
 have cA2:=(kA p2 (by omega) (by omega)).trans c2
 obtain⟨hC',k3,MC,nC,rC⟩:=hFr MA
 have kC:∀ m,m<h.next→m≠n+6→m≠n+13→hC'.get m=h.get m:=fun m hm h6 h13=>(rC m (by omega) h13).trans (kA m hm h6)
 have cC2:=(kC p2 (by omega) (by omega) (by omega)).trans c2
 have cC7:=(kC p7 (by omega) (by omega) (by omega)).trans c7
 have cCD:=(kC pD (by omega) (by omega) (by omega)).trans cD'
 have bC:=(rC h.next (by omega) (by omega)).trans bA
 have Jf:=Oz Jf @cA2 @bA @nZ
 iterate 8 (first|apply Zp|apply Z6|refine Goes.Zn Dz ?_|refine Zy Hh (Zu Za k3) Dz ?_)
 have Jf:=Uc Jf @cC7 @cCD
 iterate 4 (first|apply Zp|apply Z6|refine Goes.Zn Dz ?_|refine Zy Hh Za Dz ?_)
 have bC':=bC
 rw[←hB] at bC'
 have k4:=Z5u Hh hC' h.next t (g k) (by omega) gt bC'
 rw[hN] at k4
 iterate 3 (first|apply Zp|refine Zy Hh (Zu Za k4) Dz ?_)
 refine Dc fun hD eD=>?_
 have nD:hD.next=hC'.next:=by rw[eD,H.Zf]
 have kD:∀ m,m<h.next→hD.get m=hC'.get m:=fun m hm=>by rw[eD,Zo (by omega)]
 have bD':hD.get h.next=some (.row 256 [N'] false):=by rw[eD,Yg]
 have MD:=MC.keep (h2:=hD) (by omega) (fun m hm=>kD m (by omega))
 clear eD
 have d2:=(kD p2 (by omega)).trans cC2
 have d7:=(kD p7 (by omega)).trans cC7
 have dD:=((kD pD (by omega)).trans (kC pD (by omega) (by omega) (by omega))).trans cD
 obtain⟨hE,k5,ME,nE,kE⟩:=hC MD dD (by omega)
 have q4:=(kE p4 (by omega) ⟨⟨by omega,by omega,by omega,by omega,by omega⟩,by omega⟩ (by omega)).trans ((kD p4 (by omega)).trans ((kC p4 (by omega) (by omega) (by omega)).trans c4))
 have q5:=(kE p5 (by omega) ⟨⟨by omega,by omega,by omega,by omega,by omega⟩,by omega⟩ (by omega)).trans ((kD p5 (by omega)).trans ((kC p5 (by omega) (by omega) (by omega)).trans c5))
 have Jf:=Oz Jf @d2 @d7 @bD'
 iterate 6 (first|apply Zp|apply Z6|refine Goes.Zn Dz ?_|refine Zy Hh (Zu Za k5) Dz ?_)
 have Jf:=Uc Jf @q4 @q5
 iterate 2 (first|apply Yb|refine Zy Hh Za Dz ?_)
 refine⟨rfl,?_,ME.keep ?_ (fun m hm=>?_),fun m hm ho h1 h2 h3=>?_,?_,?_⟩
 ·simp only[H.Zf]; omega
 ·simp only[H.Zf]; omega
 ·exact Jg
 ·refine Eq.trans ?_ ((kE m (by omega) ho h1).trans ((kD m hm).trans (kC m hm ho.1.1 ho.1.2.1))); exact Jg
 ·exact Zqk
 ·exact Zqk
end
end Go.Proofs.YtdmendgkbikkaaaGreatDoor
