/- blocks: open, descs, free, change; over any store whose handle is open. -/
import Derived.Test.YtgikjeaipmeclaaGreatDoorBfg
import Derived.Test.YtgikjeaipmeclaaGreatDoorHba
import Derived.Test.YtgikjeaipmeclaaGreatDoorEvC
set_option linter.unusedSimpArgs false
set_option linter.unusedVariables false
set_option linter.unusedSectionVars false
set_option maxRecDepth 100000
set_option maxHeartbeats 4000000
namespace Go.Proofs.YtgikjeaipmeclaaGreatDoor
open Go.Ev
theorem rs182:Tryz.f182.results.toList=[.tmp 2]:=rfl
theorem rs144:Tryz.f144.results.toList=[.tmp 2]:=rfl
theorem rs145:Tryz.f145.results.toList=[.tmp 2,.tmp 3]:=rfl
theorem rs146:Tryz.f146.results.toList=[.tmp 4]:=rfl
theorem rs149:Tryz.f149.results.toList=[.tmp 6]:=rfl
theorem rs151:Tryz.f151.results.toList=[.tmp 10]:=rfl
theorem rs152:Tryz.f152.results.toList=[]:=rfl
attribute [go_sem] rs182 rs144 rs145 rs146 rs149 rs151 rs152
noncomputable def Zn9:Kn1:=fun args h=>match args with
 | [.c (.ptr s 0)]=>(Ot h s).bind fun S=>(Bn h S.gd).bind fun _=>some (.w (.c (.int .i64 0)),h)
 | _=>none
noncomputable def Zmg:Kn1:=fun args h=>match args with
 | [.c (.ptr s 0)]=>(Ot h s).bind fun S=>(Bn h S.gd).bind fun _=>(Uo h S.tx).bind fun X=>Yr X.op (some (.w (.c (.int .i64 0)),h))
 | _=>none
noncomputable def Zes:Kn1:=fun args h=>match args with
 | [.g [a,b,c,d],.c z]=>some (.w (.c (.fn 184 [] [some (h.next,0),some (h.next+1,0)])),(h.new (.row 4 [[a,b,c,d]] false)).new (.row 1 [[z]] false))
 | _=>none
attribute [go_sem] Zn9 Zmg Zes
section
variable (Hh:Hearts K Tryz.prog)
include Hh
theorem Zsx {args:List W} {h h':Go.Ev.H} {v:V} (e:Zn9 args h=some (v,h')):Ze K Tryz.prog 182 args h v h':=by
 unfold Zn9 at e
 split at e
 ·rename_i s
  obtain⟨S,hs,e⟩:=Zl e
  have hs:=Yx hs
  obtain⟨G,hg,e⟩:=Zl e
  obtain⟨hg,fb⟩:=Ja hg
  cases e
  refine Ze.goes fits Hh (by kernel_rfl) (by kernel_rfl) (by kernel_rfl) (show Tryz.f182.body=some _ from rfl) rfl ?_
  repeat (first|apply Goes.seq|apply Goes.block|apply Goes.loop|apply Goes.skip|apply Goes.exit|apply Goes.ret|((first|apply Goes.Zm|apply Goes.ops2 fits Hh (Zf (Zf Zc (fun _ _ _ _=>Dq Hh)) (fun _ _ _ _=>Gm Hh))); · simp (maxSteps:=9^6) +decide (disch:=first|omega|(simp only[lens]<;>omega)|decide) only [go_sem,Zb,Za,simprocAttr,hs,hg,gdL,fb,Yn]<;>rfl))
  simp (maxSteps:=9^6) +decide (disch:=first|omega|(simp only[lens]<;>omega)|decide) only [go_sem,Zb,Za,simprocAttr]<;>rfl
 ·cases e
theorem Zrv {args:List W} {h h':Go.Ev.H} {v:V} (e:Zmg args h=some (v,h')):Ze K Tryz.prog 144 args h v h':=by
 unfold Zmg at e
 split at e
 ·rename_i s
  obtain⟨S,hs,e⟩:=Zl e
  have hs:=Yx hs
  obtain⟨G,hg,e⟩:=Zl e
  obtain⟨hg,fb⟩:=Ja hg
  obtain⟨X,ht,e⟩:=Zl e
  have ht:=Ym ht
  obtain⟨bo,e⟩:=Zq.1 e
  cases e
  refine Ze.goes fits Hh (by kernel_rfl) (by kernel_rfl) (by kernel_rfl) (show Tryz.f144.body=some _ from rfl) rfl ?_
  repeat (first|apply Goes.seq|apply Goes.block2|apply Goes.loop|apply Goes.skip|apply Goes.exit|apply Goes.ret|((first|apply Goes.Zm|apply Goes.ops2 fits Hh (Zf (Zf (Zf Zc (fun _ _ _ _=>Zsx Hh)) (fun _ _ _ _=>Zbo Hh)) (fun _ _ _ _=>Zdv Hh))); · simp (maxSteps:=9^6) +decide (disch:=first|omega|(simp only[lens]<;>omega)|decide) only [go_sem,Zb,Za,simprocAttr,hs,ht,hg,gdL,fb,bo]<;>rfl)|simp +decide only [reduceIte])
  simp (maxSteps:=9^6) +decide (disch:=first|omega|(simp only[lens]<;>omega)|decide) only [go_sem,Zb,Za,simprocAttr]<;>rfl
 ·cases e
theorem Zln {args:List W} {h h':Go.Ev.H} {v:V} (e:Zes args h=some (v,h')):Ze K Tryz.prog 146 args h v h':=by
 unfold Zes at e
 split at e
 ·cases e
  refine Ze.goes fits Hh (by kernel_rfl) (by kernel_rfl) (by kernel_rfl) (show Tryz.f146.body=some _ from rfl) rfl ?_
  repeat (first|apply Goes.seq|apply Goes.block|apply Goes.loop|apply Goes.skip|apply Goes.exit|apply Goes.ret|((first|apply Goes.Zm|apply Goes.ops2 fits Hh Zc); · simp (maxSteps:=9^6) +decide (disch:=first|omega|(simp only[lens]<;>omega)|decide) only [go_sem,Zb,Za,simprocAttr,Zx,Qd,Ld,ptrs]<;>rfl))
  simp (maxSteps:=9^6) +decide (disch:=first|omega|(simp only[lens]<;>omega)|decide) only [go_sem,Zb,Za,simprocAttr]<;>rfl
 ·cases e
variable {n q a b c e:Nat} {cr:Cr} {md:Int} {S T:List Nat} {V:Nat→List Nat} {h:Go.Ev.H}
theorem Zzo (f:Y4 a b c e=true) (M:HE n q a b c e cr md S T V h) {D:List O3} (dd:Des V a b c D) :
  ∃ h' p,Ze K Tryz.prog 145 [.c (.ptr (n+13) 0)] h (.tup [.c (.slice p 0 a 3),.c (.int .i64 0)]) h'∧HE n q a b c e cr md S T V h'∧Kr n q h h'∧h.next≤p∧p<h'.next∧h'.get p=some (.row 3 (D.map Bq) false):=by
 obtain⟨g1,g2,g3,g4,g5,g6,g7,g8,g9,g10,g11⟩:=Yk f
 obtain⟨gd,td,Dl⟩:=dd
 obtain⟨hG,e1,MG,nG,rG⟩:=M.get f (z:=1) (Zeu a b c e) (by omega)
 have c1:Ze K Tryz.prog 20 [.c (.ptr (n+13) 0),.c (.int .i64 1)] h (.tup [.g (pgL (V 1)),.c (.int .i64 0)]) hG:=D7 Hh e1
 have Yl:(pgL (V 1)).length=256:=by rw[Ug]; exact M.len (z:=1) (Zeu a b c e) (by omega)
 have bd:=Za5 (V 1)
 have gd':goodD (unN (pgL (V 1))) a b c=true:=by rw[Oz,Nq]; exact gd
 have td':Gv (unN (pgL (V 1))) a 0=D:=by rw[Oz,Lc]; exact td
 obtain⟨Y,hY⟩:∃ Y,pgL (V 1)=Y:=⟨_,rfl⟩
 rw[hY] at c1 Yl bd gd' td'
 obtain⟨nq,nx,n0⟩:=M.nx
 obtain⟨st,⟨kn,hs⟩,⟨dk,gl⟩,ht⟩:=MG.cells
 obtain⟨st0,⟨kn0,hs0⟩,⟨dk0,gl0⟩,ht0⟩:=M.cells
 unfold gdL gdD at gl gl0
 obtain⟨v,h',cc,p,rfl,M',hk,p1,p2,p3⟩:∃ v h',Ze K Tryz.prog 145 [.c (.ptr (n+13) 0)] h v h'∧∃ p,v=.tup [.c (.slice p 0 a 3),.c (.int .i64 0)]∧HE n q a b c e cr md S T V h'∧Kr n q h h'∧h.next≤p∧p<h'.next∧h'.get p=some (.row 3 (D.map Bq) false):=by
  refine Ze.Yi fits Hh (by kernel_rfl) (by kernel_rfl) (by kernel_rfl) (show Tryz.f145.body=some _ from rfl) rfl ?_
  iterate 3 (first|apply Goes.seq|(apply Goes.ops2 fits Hh Zc; · simp (maxSteps:=9^6) +decide (disch:=first|omega|(simp only[lens]<;>omega)|decide) only [go_sem,Za,simprocAttr,f,st,hs,gl,hs0,gl0,stG,Yn,Yl,bd,gd',td',Dl,read1]<;>rfl))
  iterate 7 (first|apply Goes.seq|apply Goes.skip|((first|apply Goes.Zm|apply Goes.ops2 fits Hh (Zt Zc c1)); · simp (maxSteps:=9^6) +decide (disch:=first|omega|(simp only[lens]<;>omega)|decide) only [go_sem,Za,simprocAttr,Zy,f,st,hs,gl,hs0,gl0,stG,Yn,Yl,bd,gd',td',Dl,read1]<;>rfl))
  iterate 2 (first|apply Goes.ret|(apply Goes.drawn2 fits Hh (Zf (Zf Zc (fun _ _ _ _=>Dq Hh)) (fun _ _ _ _=>Zxd Hh)) (by kernel_rfl); · simp (maxSteps:=9^6) +decide (disch:=first|omega|(simp only[lens]<;>omega)|decide) only [go_sem,Za,simprocAttr,drG,f,st,hs,gl,hs0,gl0,stG,Yn,Yl,bd,gd',td',Dl,read1]<;>rfl))
  refine⟨_,_,(by simp (maxSteps:=9^6) +decide (disch:=first|omega|(simp only[lens]<;>omega)|decide) only [go_sem,Za,simprocAttr]<;>rfl),_,rfl,MG.keep ?_ (fun m hm=>?_),⟨?_,fun m hm hne=>?_⟩,?_,?_,?_⟩
  ·first|omega|(simp only[H.Zj,H.Zg]<;>omega)
  ·simp (disch:=first|omega|(simp only[lens]<;>omega)) only [go_sem]
  ·first|omega|(simp only[H.Zj,H.Zg]<;>omega)
  ·refine Eq.trans ?_ (rG m hm hne); simp (disch:=first|omega|(simp only[lens]<;>omega)) only [go_sem]
  ·first|omega|(simp only[H.Zj,H.Zg]<;>omega)
  ·first|omega|(simp only[H.Zj,H.Zg]<;>omega)
  ·simp (maxSteps:=9^6) +decide (disch:=first|omega|(simp only[lens]<;>omega)|decide) only [go_sem,Za,simprocAttr]<;>rfl
 exact⟨h',p,cc,M',hk,p1,p2,p3⟩
theorem Zvt (f:Y4 a b c e=true) (M:HE n q a b c e cr md S T V h) {g:Nat→Bool} {t:Nat} (low:∀ j,2+c / 4≤j→j<t→g j=true) (t0:2+c / 4≤t) (tb:t≤b) (gt:t<b→g t=false) {s:Nat} (sl:s≤4096) :
  ∃ h',Ze K Tryz.prog 149 [.c (.ptr (n+13) 0),.c (.int .i64 (s:Int)),.g (Oe g)] h (.w (.c (.int .i64 (if t<b then (t:Int) else -1)))) h'∧HE n q a b c e cr md S T V h'∧h.next≤h'.next∧∀ m,m<h.next→m≠n+13→h'.get m=h.get m:=by
 obtain⟨g1,g2,g3,g4,g5,g6,g7,g8,g9,g10,g11⟩:=Yk f
 obtain⟨nq,nx,n0⟩:=M.nx
 obtain⟨st,⟨kn,hs⟩,⟨dk,gl⟩,ht⟩:=M.cells
 unfold gdL gdD at gl
 have pl:(Oe g).length=256:=Lb _
 have cF:=Z0c Hh g (s:=2+c / 4) (t:=t) (u:=b) t0 tb (by omega) low gt
 have q4:Dz .i64 (c:Int) 4=some (.int .i64 ((c / 4:Nat):Int)):=Dn (b:=4) (by omega) (by omega)
 have e2:(2:Int)+((c / 4:Nat):Int)=((2+c / 4:Nat):Int):=rfl
 have d0:decide (((2+c / 4:Nat):Int)<(b:Int))=true:=decide_eq_true (by omega)
 obtain⟨y,hy⟩:∃ y,2+c / 4=y:=⟨_,rfl⟩
 rw[hy] at cF e2 d0 t0
 obtain⟨B,hB⟩:∃ B,Oe g=B:=⟨_,rfl⟩
 rw[hB] at pl cF ⊢
 obtain⟨z,hz⟩:∃ z,(if t<b then (t:Int) else -1)=z:=⟨_,rfl⟩
 rw[hz] at cF ⊢
 obtain⟨v,h',cc,rfl,M',nn,kk⟩:∃ v h',Ze K Tryz.prog 149 [.c (.ptr (n+13) 0),.c (.int .i64 (s:Int)),.g B] h v h'∧v=.w (.c (.int .i64 z))∧HE n q a b c e cr md S T V h'∧h.next≤h'.next∧∀ m,m<h.next→m≠n+13→h'.get m=h.get m:=by
  by_cases tl:t<b
  ·obtain rfl:z=(t:Int):=by rw[←hz,if_pos tl]
   have es:(s:Int)+(t:Int)=((s+t:Nat):Int):=rfl
   refine Ze.Yi fits Hh (by kernel_rfl) (by kernel_rfl) (by kernel_rfl) (show Tryz.f149.body=some _ from rfl) rfl ?_
   iterate 17 (first|apply Goes.seq|apply Goes.skip|apply Goes.block|apply Goes.loop|((first|apply Goes.Zm|apply Goes.ops2 fits Hh (Zf Zc (fun _ _ _ _=>Dq Hh))); · simp (maxSteps:=9^6) +decide (disch:=first|omega|(simp only[lens]<;>omega)|decide) only [go_sem,Za,simprocAttr,f,hs,stG,gl,Yn,pl,q4,e2,d0,es,read1,Zx]<;>rfl))
   iterate 7 (first|apply Goes.seq|apply Goes.skip|((first|apply Goes.Zm|apply Goes.ops2 fits Hh (J6 Zc cF)); · simp (maxSteps:=9^6) +decide (disch:=first|omega|(simp only[lens]<;>omega)|decide) only [go_sem,Za,simprocAttr,f,hs,stG,gl,Yn,pl,q4,e2,d0,es,read1,Zx]<;>rfl))
   refine Goes.abs fun hA eA=>?_
   have nA:hA.next=h.next+2:=by rw[eA]; simp only[H.Zj,H.Zg]
   have kA:∀ m,m<h.next→hA.get m=h.get m:=fun m hm=>by rw[eA]; simp (disch:=first|omega|(simp only[lens]<;>omega)) only [go_sem]
   clear eA
   have MA:=M.keep (h2:=hA) (by omega) (fun m hm=>kA m (by omega))
   obtain⟨hC,e8,MC,nC,rC⟩:=MA.busy ((s+t:Nat):Int)
   have c8:=Zrs Hh e8
   iterate 5 (first|apply Goes.seq|apply Goes.ret|((first|apply Goes.Zm|apply Goes.ops2 fits Hh (Zt Zc c8)); · simp (maxSteps:=9^6) +decide (disch:=first|omega|(simp only[lens]<;>omega)|decide) only [go_sem,Za,simprocAttr,Zy,f,hs,stG,gl,Yn,pl,q4,e2,d0,es,read1,Zx]<;>rfl))
   exact⟨_,_,(by simp (maxSteps:=9^6) +decide (disch:=first|omega|(simp only[lens]<;>omega)|decide) only [go_sem,Zb,Za,simprocAttr]<;>rfl),rfl,MC,by omega,fun m hm hne=>(rC m hne).trans (kA m hm)⟩
  ·obtain rfl:z = -1:=by rw[←hz,if_neg tl]
   refine Ze.Yi fits Hh (by kernel_rfl) (by kernel_rfl) (by kernel_rfl) (show Tryz.f149.body=some _ from rfl) rfl ?_
   iterate 17 (first|apply Goes.seq|apply Goes.skip|apply Goes.block|apply Goes.loop|((first|apply Goes.Zm|apply Goes.ops2 fits Hh (Zf Zc (fun _ _ _ _=>Dq Hh))); · simp (maxSteps:=9^6) +decide (disch:=first|omega|(simp only[lens]<;>omega)|decide) only [go_sem,Za,simprocAttr,f,hs,stG,gl,Yn,pl,q4,e2,d0,read1,Zx]<;>rfl))
   iterate 8 (first|apply Goes.seq|apply Goes.ret|((first|apply Goes.Zm|apply Goes.ops2 fits Hh (J6 Zc cF)); · simp (maxSteps:=9^6) +decide (disch:=first|omega|(simp only[lens]<;>omega)|decide) only [go_sem,Za,simprocAttr,f,hs,stG,gl,Yn,pl,q4,e2,d0,read1,Zx]<;>rfl))
   refine⟨_,_,(by simp (maxSteps:=9^6) +decide (disch:=first|omega|(simp only[lens]<;>omega)|decide) only [go_sem,Zb,Za,simprocAttr]<;>rfl),rfl,M.keep ?_ (fun m hm=>?_),?_,fun m hm hne=>?_⟩
   ·first|omega|(simp only[H.Zj,H.Zg]<;>omega)
   ·simp (disch:=first|omega|(simp only[lens]<;>omega)) only [go_sem]
   ·first|omega|(simp only[H.Zj,H.Zg]<;>omega)
   ·simp (disch:=first|omega|(simp only[lens]<;>omega)) only [go_sem]
 exact⟨h',cc,M',nn,kk⟩
theorem Zx3 {p k:Nat} {D:List O3} {x y w:Nat} {h:Go.Ev.H} (hp:h.get p=some (.row 3 (D.map Bq) false)) (hk:D[k]? = some (x,y,w)) (x1:1≤x) (x2:x<4096):Ze K Tryz.prog 152 [.c (.ptr p (k * 3))] h (.tup []) (h.put p (.row 3 ((D.set k (x - 1,y,w)).map Bq) false)):=by
 have hr:(D.map Bq)[k]? = some [.int .i64 (x:Int),.int .i64 (y:Int),.int .i64 (w:Int)]:=by rw[List.getElem?_map,hk]; rfl
 have r1:read1 3 (D.map Bq) (k * 3)=some (.int .i64 (x:Int)):=Bv (sz:=3) (j:=0) (by omega) hr
 have w1:Z4 3 (D.map Bq) (k * 3) [.int .i64 ((x:Int) - 1)]=some ((D.map Bq).set k [.int .i64 ((x:Int) - 1),.int .i64 (y:Int),.int .i64 (w:Int)]):=Zf7 (j:=0) hr rfl (by omega)
 have fin:(D.map Bq).set k [.int .i64 ((x:Int) - 1),.int .i64 (y:Int),.int .i64 (w:Int)]=(D.set k (x - 1,y,w)).map Bq:=by
  rw[List.map_set]
  congr 1
  show _=[C.int .i64 ((x - 1:Nat):Int),.int .i64 (y:Int),.int .i64 (w:Int)]
  rw[show ((x - 1:Nat):Int)=(x:Int) - 1 by omega]
 obtain⟨Z,hZ⟩:∃ Z,D.map Bq=Z:=⟨_,rfl⟩
 rw[hZ] at hp r1 w1 fin
 refine Ze.goes fits Hh (by kernel_rfl) (by kernel_rfl) (by kernel_rfl) (show Tryz.f152.body=some _ from rfl) rfl ?_
 repeat (first|apply Goes.seq|apply Goes.block|apply Goes.loop|apply Goes.skip|apply Goes.exit|apply Goes.ret|((first|apply Goes.Zm|apply Goes.ops2 fits Hh Zc); · simp (maxSteps:=9^6) +decide (disch:=first|omega|(simp only[lens]<;>omega)|decide) only [go_sem,Zb,Za,simprocAttr,hp,r1,w1,Nat.add_zero]<;>rfl))
 simp (maxSteps:=9^6) +decide (disch:=first|omega|(simp only[lens]<;>omega)|decide) only [go_sem,Zb,Za,simprocAttr,fin]<;>rfl
theorem Zuh (f:Y4 a b c e=true) (M:HE n q a b c e cr md S T V h) {k:Nat} (ka:k<a) (s2:1∈S∧1 ∉ T) (s3:2+e+k * b∈S∧2+e+k * b ∉ T) {nb:List Nat} (nbl:nb.length=256)
  {F pD:Nat} {D D':List O3} (hp:h.get pD=some (.row 3 (D.map Bq) false)) (Dl:D.length=a) (Dl':D'.length=a) (Dm:D'.all (Za2 (b - 2 - c / 4) c)=true) (pl:pD<h.next) (p32:q+9≤pD)
  (hF:∀ h2,h2.get pD=some (.row 3 (D.map Bq) false)→Ze K Tryz.prog F [.c (.ptr pD (k * 3))] h2 (.tup []) (h2.put pD (.row 3 (D'.map Bq) false))) :
  ∃ h',Ze K Tryz.prog 151 [.c (.ptr (n+13) 0),.c (.int .i64 (k:Int)),.g (pgL nb),.c (.slice pD 0 a 3),.c (.fn F [] [])] h (.w (.c (.int .i64 0))) h'∧HE n q a b c e cr md S T (Gn (Gn V (2+e+k * b) nb) 1 (Zej D')) h'∧h.next≤h'.next∧∀ m,m<h.next→Out n q m→m≠pD→h'.get m=h.get m:=by
 obtain⟨g1,g2,g3,g4,g5,g6,g7,g8,g9,g10,g11⟩:=Yk f
 have st:=Ze1 (b:=b) ka
 obtain⟨zb,hb⟩:∃ z,2+e+k * b=z:=⟨_,rfl⟩
 rw[hb] at s3 ⊢
 have zbl:zb<2+e+a * b:=by omega
 have ob:=Zan (z:=zb) (Yk f) (by omega) zbl
 obtain⟨nq,nx,n0⟩:=M.nx
 have bl:(pgL nb).length=256:=by rw[Ug,nbl]
 have hB1:=fun {h:Go.Ev.H} (M:HE n q a b c e cr md S T V h)=>M.put f ob zbl nbl s3.1 s3.2
 have hB2:=fun {V:Nat→List Nat} {h:Go.Ev.H} (M:HE n q a b c e cr md S T V h)=>M.put f (z:=1) (Zeu a b c e) (by omega) (Zlb D') s2.1 s2.2
 obtain⟨mB,hmB⟩:∃ x,pgL nb=x:=⟨_,rfl⟩
 obtain⟨Y,hY⟩:∃ Y,pgL (Zej D')=Y:=⟨_,rfl⟩
 have Yl:Y.length=256:=by rw[←hY,Ug,Zlb]
 have hY':pgL (Bl (Ep D' 0 Gf))=Y:=hY
 rw[hmB] at bl ⊢
 simp only[hmB] at hB1
 simp only[hY] at hB2
 obtain⟨v,h',cc,rfl,M',nn,hkk⟩:∃ v h',Ze K Tryz.prog 151 [.c (.ptr (n+13) 0),.c (.int .i64 (k:Int)),.g mB,.c (.slice pD 0 a 3),.c (.fn F [] [])] h v h'∧v=.w (.c (.int .i64 0))∧HE n q a b c e cr md S T (Gn (Gn V zb nb) 1 (Zej D')) h'∧h.next≤h'.next∧∀ m,m<h.next→Out n q m→m≠pD→h'.get m=h.get m:=by
  refine Ze.Yi fits Hh (by kernel_rfl) (by kernel_rfl) (by kernel_rfl) (show Tryz.f151.body=some _ from rfl) rfl ?_
  iterate 3 (first|apply Goes.seq|(apply Goes.ops2 fits Hh Zc; · simp (maxSteps:=9^6) +decide (disch:=first|omega|(simp only[lens]<;>omega)|decide) only [go_sem,Za,simprocAttr,f,stG,Yn,hb,bl,Nat.zero_add,Fw,List.map_cons,List.map_nil,List.cons_append,List.nil_append,read1,Zx]<;>rfl))
  refine Goes.abs fun hA eA=>?_
  have nA:hA.next=h.next+1:=by rw[eA]; first|rfl|simp only[H.Zj,H.Zg]
  have kA:∀ m,m<h.next→hA.get m=h.get m:=fun m hm=>by rw[eA]; simp (disch:=first|omega|(simp only[lens]<;>omega)) only [go_sem]
  have bA:hA.get h.next=some (.row 256 [mB] false):=by rw[eA]; simp (maxSteps:=9^6) +decide (disch:=first|omega|(simp only[lens]<;>omega)|decide) only [go_sem,Za,simprocAttr,bl]<;>rfl
  clear eA
  have MA:=M.keep (h2:=hA) (by omega) (fun m hm=>kA m (by omega))
  obtain⟨_,⟨knA,hsA⟩,⟨dkA,glA⟩,_⟩:=MA.cells
  unfold gdL gdD at glA
  obtain⟨hB,e1,MB,nB,kB⟩:=hB1 MA
  have c1:=Zaw Hh e1
  iterate 3 (first|apply Goes.seq|(apply Goes.ops2 fits Hh (Zf (Zf Zc (fun _ _ _ _=>Dq Hh)) (fun _ _ _ _=>Wi Hh)); · simp (maxSteps:=9^6) +decide (disch:=first|omega|(simp only[lens]<;>omega)|decide) only [go_sem,Za,simprocAttr,f,stG,Yn,hb,bl,Nat.zero_add,Fw,List.map_cons,List.map_nil,List.cons_append,List.nil_append,nA,bA,hsA,glA,read1,Zx]<;>rfl))
  iterate 6 (first|apply Goes.seq|apply Goes.skip|((first|apply Goes.Zm|apply Goes.ops2 fits Hh (Zt Zc c1)); · simp (maxSteps:=9^6) +decide (disch:=first|omega|(simp only[lens]<;>omega)|decide) only [go_sem,Za,simprocAttr,Zy,f,stG,Yn,hb,bl,Nat.zero_add,Fw,List.map_cons,List.map_nil,List.cons_append,List.nil_append,nA,bA,hsA,glA,read1,Zx]<;>rfl))
  have pB:=(kB pD ⟨by omega,by omega,by omega,by omega,by omega⟩).trans ((kA _ pl).trans hp)
  have c2:=hF hB pB
  iterate 2 (first|apply Goes.seq|(apply Goes.ops2 fits Hh (Zt Zc c2); · simp (maxSteps:=9^6) +decide (disch:=first|omega|(simp only[lens]<;>omega)|decide) only [go_sem,Za,simprocAttr,Zy,f,stG,Yn,hb,bl,Nat.zero_add,Fw,List.map_cons,List.map_nil,List.cons_append,List.nil_append,nA,bA,hsA,glA,read1,Zx]<;>rfl))
  refine Goes.abs fun hC eC=>?_
  have nC:hC.next=h.next+1:=by rw[eC,H.Zj,nB,nA]
  have kC:∀ m,m<h.next+1→Out n q m→m≠pD→hC.get m=hA.get m:=fun m hm ho hne=>by rw[eC,Zp hne]; exact kB m ho.1
  have pC:hC.get pD=some (.row 3 (D'.map Bq) false):=by rw[eC,Z8]
  have MC:=MB.keep (h2:=hC) (by rw[eC,H.Zj]; omega) (fun m hm=>by rw[eC,Zp (by omega)])
  clear eC
  obtain⟨stC,⟨knC,hsC⟩,⟨dkC,glC⟩,_⟩:=MC.cells
  unfold gdL gdD at glC
  iterate 7 (first|apply Goes.seq|apply Goes.skip|((first|apply Goes.Zm|apply Goes.ops2 fits Hh (Zf (Zf Zc (fun _ _ _ _=>Dq Hh)) (fun _ _ _ _=>Zyd Hh))); · simp (maxSteps:=9^6) +decide (disch:=first|omega|(simp only[lens]<;>omega)|decide) only [go_sem,Za,simprocAttr,f,stG,Yn,hb,bl,Nat.zero_add,Fw,List.map_cons,List.map_nil,List.cons_append,List.nil_append,nA,bA,hsA,glA,nC,pC,hsC,glC,stC,Dl',Dm,hY',Yl,read1,Zx]<;>rfl))
  refine Goes.abs fun hD eD=>?_
  have nD:hD.next=h.next+2:=by rw[eD]; simp only[H.Zj,H.Zg,nC]
  have kD:∀ m,m<h.next+1→Out n q m→m≠pD→hD.get m=hA.get m:=fun m hm ho hne=>by rw[eD]; refine Eq.trans ?_ (kC m hm ho hne); simp (disch:=first|omega|(simp only[lens]<;>omega)) only [go_sem]
  have bD:hD.get (h.next+1)=some (.row 256 [Y] false):=by rw[eD,←nC]; simp (maxSteps:=9^6) +decide (disch:=first|omega|(simp only[lens]<;>omega)|decide) only [go_sem,Za,simprocAttr,Yl]<;>rfl
  have MD:=MC.keep (h2:=hD) (by omega) (fun m hm=>by rw[eD]; have:=MC.nx; simp (disch:=first|omega|(simp only[lens]<;>omega)) only [go_sem])
  clear eD
  obtain⟨hE,e3,ME,nE,kE⟩:=hB2 MD
  have c3:=Zaw Hh e3
  iterate 2 (first|apply Goes.ret|(apply Goes.ops2 fits Hh (Zt Zc c3); · simp (maxSteps:=9^6) +decide (disch:=first|omega|(simp only[lens]<;>omega)|decide) only [go_sem,Za,simprocAttr,Zy,f,stG,Yn,hb,bl,Nat.zero_add,Fw,List.map_cons,List.map_nil,List.cons_append,List.nil_append,nA,bA,hsA,glA,nC,pC,hsC,glC,stC,Dl',Dm,hY',Yl,bD,read1,Zx]<;>rfl))
  exact⟨_,_,(by simp (maxSteps:=9^6) +decide (disch:=first|omega|(simp only[lens]<;>omega)|decide) only [go_sem,Za,simprocAttr]<;>rfl),rfl,ME,by omega,fun m hm ho hne=>(kE m ho.1).trans ((kD m (by omega) ho hne).trans (kA m hm))⟩
 exact⟨h',cc,M',nn,hkk⟩
end
noncomputable def q108 (p:List Nat):Code:=piece p (Uq Tryz.f108)
theorem Zje:q108 [1,1,1,1,0,1,2]=.rangeFunc (.tmp 32) #[33] (q108 [1,1,1,1,0,1,2,5]) (q108 [1,1,1,1,0,1,2,6]):=by kernel_rfl
theorem Xz:q108 [1,1,1,1,0,1,2,5]=.region 8 (Zru (q108 [1,1,1,1,0,1,2,5])) false:=by kernel_rfl
theorem Xw:q108 [1,1,1,1,0,1,2,6]=.block 1 (q108 [1,1,1,1,0,1,2,6,2]):=by kernel_rfl
noncomputable def q184 (p:List Nat):Code:=piece p (Uq Tryz.f184)
theorem rs108:Tryz.f108.results.toList=[.cell 4 3,.cell 5 38]:=rfl
theorem rs184:Tryz.f184.results.toList=[]:=rfl
attribute [go_sem] rs108 rs184
theorem rd1 (c:C):read1 1 [[c]] 0=some c:=rfl
structure Bmp (a b c e:Nat) (V:Nat→List Nat) (D:List O3) (g:Nat→Nat→Bool):Prop where
 bm:∀ k,k<a→V (2+e+k * b)=Zea (g k)
 des:Des V a b c D
 may:D.all (Za2 (b - 2 - c / 4) c)=true
def Zhi (b c:Nat) (g:Nat→Bool):Prop:=∀ j,2+c / 4≤j→j<b→g j=true
structure FreeG (b c:Nat) (D:List O3) (g:Nat→Nat→Bool) (k t x y w:Nat):Prop where
 t0:2+c / 4≤t
 tb:t<b
 low:∀ j,2+c / 4≤j→j<t→g k j=true
 gt:g k t=false
 hk:D[k]? = some (x,y,w)
 x1:1≤x
def Zdq (b e:Nat) (V:Nat→List Nat) (D:List O3) (g:Nat→Nat→Bool) (k t x y w:Nat):Nat→List Nat:=Gn (Gn V (2+e+k * b) (Zea (Wz (g k) t))) 1 (Zej (D.set k (x - 1,y,w)))
structure TCb (n q a b c e:Nat) (cr:Cr) (md:Int) (S T:List Nat) (V:Nat→List Nat) (D:List O3) (l p2 p4 p5 p7 pD:Nat) (ts:Zu) (h:Go.Ev.H):Prop where
 M:HE n q a b c e cr md S T V h
 e2:Zk ts 2=.w (.c (.ptr p2 0))
 e4:Zk ts 4=.w (.c (.ptr p4 0))
 e5:Zk ts 5=.w (.c (.ptr p5 0))
 e7:Zk ts 7=.w (.c (.ptr p7 0))
 c2:h.get p2=some (.row 1 [[.ptr (n+13) 0]] false)
 c4:h.get p4=some (.row 1 [[.int .i64 0]] false)
 c5:h.get p5=some (.row 1 [[.int .i64 0]] false)
 c7:h.get p7=some (.row 1 [[.slice pD 0 a 3]] false)
 cD:h.get pD=some (.row 3 (D.map Bq) false)
 b2:q+9≤p2∧p2<h.next
 b4:q+9≤p4∧p4<h.next
 b5:q+9≤p5∧p5<h.next
 b7:q+9≤p7∧p7<h.next
 bD:q+9≤pD∧pD<h.next
 bl:q+9≤l∧l<h.next
 n1:p2≠pD∧p4≠pD∧p5≠pD∧p7≠pD∧l≠pD
 n2:p4≠p5∧p2≠p4∧p2≠p5∧p7≠p4∧p7≠p5
 n3:l≠p2∧l≠p4∧l≠p5∧l≠p7
theorem TCb.keep {n q a b c e:Nat} {cr:Cr} {md:Int} {S T:List Nat} {V:Nat→List Nat} {D:List O3} {l p2 p4 p5 p7 pD:Nat} {ts:Zu} {h h2:Go.Ev.H} (C:TCb n q a b c e cr md S T V D l p2 p4 p5 p7 pD ts h) (M2:HE n q a b c e cr md S T V h2) (nx:h.next≤h2.next) (k:∀ m,m<h.next→q+9≤m→m≠l→h2.get m=h.get m):TCb n q a b c e cr md S T V D l p2 p4 p5 p7 pD ts h2:=by
 obtain⟨M,e2,e4,e5,e7,c2,c4,c5,c7,cD,b2,b4,b5,b7,bD,bl,n1,n2,n3⟩:=C
 exact⟨M2,e2,e4,e5,e7,(k _ b2.2 b2.1 (Ne.symm n3.1)).trans c2,(k _ b4.2 b4.1 (Ne.symm n3.2.1)).trans c4,(k _ b5.2 b5.1 (Ne.symm n3.2.2.1)).trans c5,(k _ b7.2 b7.1 (Ne.symm n3.2.2.2)).trans c7,(k _ bD.2 bD.1 (Ne.symm n1.2.2.2.2)).trans cD,⟨b2.1,by omega⟩,⟨b4.1,by omega⟩,⟨b5.1,by omega⟩,⟨b7.1,by omega⟩,⟨bD.1,by omega⟩,⟨bl.1,by omega⟩,n1,n2,n3⟩
section
variable (Hh:Hearts K Tryz.prog)
include Hh
variable {n q a b c e:Nat} {cr:Cr} {md:Int} {S T:List Nat} {V:Nat→List Nat} {D:List O3} {g:Nat→Nat→Bool} {l p2 p4 p5 p7 pD d:Nat} {ts:Zu} {h:Go.Ev.H}
theorem btA (l:Nat) (ts:Zu) (k:Nat) (h:Go.Ev.H):Goes K Tryz.prog 75 (some l) (q108 [1,1,1,1,0,1,2,5]) [] (ts.set 33 (.w (.c (.int .i64 (k:Int))))) h fun x ds' ts' h'=>x=.normal∧ds'=[]∧(∀ s,s≤8→Zk ts' s=Zk ts s)∧Zk ts' 9=.w (.c (.int .i64 (k:Int)))∧h'=h:=by
 (apply Goes.ops2 fits Hh Zc; · simp (maxSteps:=9^6) +decide (disch:=first|omega|(simp only[lens]<;>omega)|decide) only [go_sem,Zb,Za,simprocAttr]<;>rfl)
 refine⟨rfl,rfl,fun s hs=>?_,?_,rfl⟩
 ·simp (decide:=true) only [Yo hs]
 ·simp (maxSteps:=9^6) +decide (disch:=first|omega|(simp only[lens]<;>omega)|decide) only [go_sem,Zb,Za,simprocAttr]
theorem Z08 (f:Y4 a b c e=true) (B:Bmp a b c e V D g) {k:Nat} (ka:k<a) (fu:Zhi b c (g k)) (C:TCb n q a b c e cr md S T V D l p2 p4 p5 p7 pD ts h) (e9:Zk ts 9=.w (.c (.int .i64 (k:Int)))) :
  Goes K Tryz.prog 75 (some l) (q108 [1,1,1,1,0,1,2,6]) [] ts h fun x _ _ h'=>x=.normal∧h.next≤h'.next∧HE n q a b c e cr md S T V h'∧∀ m,m<h.next→m≠n+6→m≠n+13→h'.get m=h.get m:=by
 obtain⟨M,e2,e4,e5,e7,c2,c4,c5,c7,cD,b2,b4,b5,b7,bD,bl,n1,n2,n3⟩:=C
 obtain⟨g1,g2,g3,g4,g5,g6,g7,g8,g9,g10,g11⟩:=Yk f
 have st:=Ze1 (b:=b) ka
 have bm:=B.bm k ka
 obtain⟨nq,nx,n0⟩:=M.nx
 obtain⟨zb,hb⟩:∃ z,2+e+k * b=z:=⟨_,rfl⟩
 rw[hb] at bm
 have zbl:zb<2+e+a * b:=by omega
 have ob:=Zan (z:=zb) (Yk f) (by omega) zbl
 have bl1:(Oe (g k)).length=256:=Lb _
 have hGE:=fun {h:Go.Ev.H} (M:HE n q a b c e cr md S T V h)=>M.get f ob zbl
 simp only[bm,←Zme] at hGE
 have hFr:=fun {h:Go.Ev.H} (M:HE n q a b c e cr md S T V h)=>Zvt Hh f M (g:=g k) (t:=b) fu (by omega) (Nat.le_refl _) (fun w=>absurd w (by omega)) (s:=zb) (by omega)
 simp only[if_neg (Nat.lt_irrefl b)] at hFr
 obtain⟨B',hB⟩:∃ B',Oe (g k)=B':=⟨_,rfl⟩
 rw[hB] at bl1
 simp only[hB] at hGE hFr
 obtain⟨_,⟨kn0,hs0⟩,⟨dk0,gl0⟩,_⟩:=M.cells
 unfold gdL gdD at gl0
 iterate 4 (first|apply Goes.seq|apply Goes.block|(apply Goes.ops2 fits Hh (Zf (Zf Zc (fun _ _ _ _=>Dq Hh)) (fun _ _ _ _=>Wi Hh)); · simp (maxSteps:=9^6) +decide (disch:=first|omega|(simp only[lens]<;>omega)|decide) only [go_sem,Za,simprocAttr,f,hs0,stG,gl0,Yn,e2,e4,e5,e7,e9,c2,hb,bl1,read1]<;>rfl))
 obtain⟨hZ,e1,MZ,nZ,rZ⟩:=hGE M
 have k1:=D7 Hh e1
 iterate 7 (first|apply Goes.seq|apply Goes.skip|((first|apply Goes.Zm|apply Goes.ops2 fits Hh (Zt Zc k1)); · simp (maxSteps:=9^6) +decide (disch:=first|omega|(simp only[lens]<;>omega)|decide) only [go_sem,Za,simprocAttr,Zy,f,hs0,stG,gl0,Yn,e2,e4,e5,e7,e9,c2,hb,bl1,read1]<;>rfl))
 refine Goes.abs fun hA eA=>?_
 have nA:hA.next=h.next+1:=by rw[eA]; simp only[H.Zj,H.Zg,nZ]
 have kA:∀ m,m<h.next→m≠n+6→hA.get m=h.get m:=fun m hm hne=>by rw[eA]; refine Eq.trans ?_ (rZ m hm hne); simp (disch:=first|omega|(simp only[lens]<;>omega)) only [go_sem]
 have bA:hA.get h.next=some (.row 256 [B'] false):=by rw[eA,←nZ]; simp (maxSteps:=9^6) +decide (disch:=first|omega|(simp only[lens]<;>omega)|decide) only [go_sem,Za,simprocAttr,bl1]<;>rfl
 have MA:=MZ.keep (h2:=hA) (by omega) (fun m hm=>by rw[eA]; simp (disch:=first|omega|(simp only[lens]<;>omega)) only [go_sem])
 clear eA
 have cA2:=(kA p2 (by omega) (by omega)).trans c2
 obtain⟨hC,k3,MC,nC,rC⟩:=hFr MA
 iterate 6 (first|apply Goes.seq|apply Goes.exit|((first|apply Goes.Zm|apply Goes.ops2 fits Hh (Zt Zc k3)); · simp (maxSteps:=9^6) +decide (disch:=first|omega|(simp only[lens]<;>omega)|decide) only [go_sem,Za,simprocAttr,Zy,f,hs0,stG,gl0,Yn,e2,e4,e5,e7,e9,c2,hb,bl1,cA2,bA,nZ,read1]<;>rfl))
 exact⟨rfl,by omega,MC,fun m hm h6 h13=>(rC m (by omega) h13).trans (kA m hm h6)⟩
theorem Z28 (f:Y4 a b c e=true) (B:Bmp a b c e V D g) {k t x y w:Nat} (ka:k<a) (F:FreeG b c D g k t x y w) (s2:1∈S∧1 ∉ T) (s3:2+e+k * b∈S∧2+e+k * b ∉ T) (C:TCb n q a b c e cr md S T V D l p2 p4 p5 p7 pD ts h) (e9:Zk ts 9=.w (.c (.int .i64 (k:Int)))) :
  Goes K Tryz.prog 75 (some l) (q108 [1,1,1,1,0,1,2,6]) [] ts h fun x' _ _ h'=>x'=.ret∧h.next≤h'.next∧HE n q a b c e cr md S T (Zdq b e V D g k t x y w) h'∧(∀ m,m<h.next→Out n q m→m≠pD→m≠p4→m≠p5→h'.get m=h.get m)∧h'.get p4=some (.row 1 [[.int .i64 ((2+e+k * b+t:Nat):Int)]] false)∧h'.get p5=some (.row 1 [[.int .i64 0]] false):=by
 obtain⟨M,e2,e4,e5,e7,c2,c4,c5,c7,cD,b2,b4,b5,b7,bD,bl,n1,n2,n3⟩:=C
 obtain⟨t0,tb,low,gt,hk,x1⟩:=F
 obtain⟨g1,g2,g3,g4,g5,g6,g7,g8,g9,g10,g11⟩:=Yk f
 have st:=Ze1 (b:=b) ka
 have bm:=B.bm k ka
 have Dl:=B.des.2.2
 obtain⟨nq,nx,n0⟩:=M.nx
 have mx:=Xe (List.all_eq_true.1 B.may _ (List.mem_of_getElem? hk))
 simp only at mx
 have Dm:(D.set k (x - 1,y,w)).all (Za2 (b - 2 - c / 4) c)=true:=by
  rw[List.all_eq_true]
  intro z hz
  rcases List.mem_or_eq_of_mem_set hz with h1|h1
  ·exact List.all_eq_true.1 B.may z h1
  ·rw[h1]
   unfold Za2
   rw[Fa (by show x - 1≤_; omega),Fa (by show y≤_; omega),Fa (by show w+y≤_; omega)]
   rfl
 unfold Zdq
 obtain⟨D',hD'⟩:∃ D',D.set k (x - 1,y,w)=D':=⟨_,rfl⟩
 have Dl':D'.length=a:=by rw[←hD',List.length_set,Dl]
 rw[hD'] at Dm ⊢
 obtain⟨zb,hb⟩:∃ z,2+e+k * b=z:=⟨_,rfl⟩
 rw[hb] at bm s3 ⊢
 have zbl:zb<2+e+a * b:=by omega
 have ob:=Zan (z:=zb) (Yk f) (by omega) zbl
 have bl1:(Oe (g k)).length=256:=Lb _
 have ml:(Oe (Wz (g k) t)).length=256:=Lb _
 have hGE:=fun {h:Go.Ev.H} (M:HE n q a b c e cr md S T V h)=>M.get f ob zbl
 simp only[bm,←Zme] at hGE
 have hFr:=fun {h:Go.Ev.H} (M:HE n q a b c e cr md S T V h)=>Zvt Hh f M (g:=g k) (t:=t) low t0 (by omega) (fun _=>gt) (s:=zb) (by omega)
 simp only[if_pos tb] at hFr
 have hC:=fun {h:Go.Ev.H} (M:HE n q a b c e cr md S T V h) (hp:h.get pD=some (.row 3 (D.map Bq) false)) (pl:pD<h.next)=>Zuh Hh f M ka s2 (by rw[hb]; exact s3) (Zwg (Wz (g k) t)) (F:=152) hp Dl Dl' Dm pl bD.1 (fun h2 hp2=>by
  have:=Zx3 Hh hp2 hk x1 (by omega)
  rw[hD'] at this
  exact this)
 rw[hb] at hC
 simp only[←Zme] at hC
 have hr:(D.map Bq)[k]? = some [.int .i64 (x:Int),.int .i64 (y:Int),.int .i64 (w:Int)]:=by rw[List.getElem?_map,hk]; rfl
 have r0:read1 3 (D.map Bq) (k * 3)=some (.int .i64 (x:Int)):=Bv (sz:=3) (j:=0) (by omega) hr
 have dx:decide ((x:Int)≤0)=false:=decide_eq_false (by omega)
 have es:(zb:Int)+(t:Int)=((zb+t:Nat):Int):=rfl
 obtain⟨B',hB⟩:∃ B',Oe (g k)=B':=⟨_,rfl⟩
 obtain⟨N',hN⟩:∃ N',Oe (Wz (g k) t)=N':=⟨_,rfl⟩
 rw[hB] at bl1
 rw[hN] at ml
 simp only[hB] at hGE hFr
 simp only[hN] at hC
 obtain⟨_,⟨kn0,hs0⟩,⟨dk0,gl0⟩,_⟩:=M.cells
 unfold gdL gdD at gl0
 obtain⟨R,hR⟩:∃ R,D.map Bq=R:=⟨_,rfl⟩
 have cD':=cD
 rw[hR] at r0 cD'
 iterate 4 (first|apply Goes.seq|apply Goes.block|(apply Goes.ops2 fits Hh (Zf (Zf Zc (fun _ _ _ _=>Dq Hh)) (fun _ _ _ _=>Wi Hh)); · simp (maxSteps:=9^6) +decide (disch:=first|omega|(simp only[lens]<;>omega)|decide) only [go_sem,Za,simprocAttr,f,hs0,stG,gl0,Yn,e2,e4,e5,e7,e9,c2,hb,bl1,ml,rd1,r0,dx,es,Nat.zero_add,Nat.add_zero]<;>rfl))
 obtain⟨hZ,e1,MZ,nZ,rZ⟩:=hGE M
 have k1:=D7 Hh e1
 iterate 7 (first|apply Goes.seq|apply Goes.skip|((first|apply Goes.Zm|apply Goes.ops2 fits Hh (Zt Zc k1)); · simp (maxSteps:=9^6) +decide (disch:=first|omega|(simp only[lens]<;>omega)|decide) only [go_sem,Za,simprocAttr,Zy,f,hs0,stG,gl0,Yn,e2,e4,e5,e7,e9,c2,hb,bl1,ml,rd1,r0,dx,es,Nat.zero_add,Nat.add_zero]<;>rfl))
 refine Goes.abs fun hA eA=>?_
 have nA:hA.next=h.next+1:=by rw[eA]; simp only[H.Zj,H.Zg,nZ]
 have kA:∀ m,m<h.next→m≠n+6→hA.get m=h.get m:=fun m hm hne=>by rw[eA]; refine Eq.trans ?_ (rZ m hm hne); simp (disch:=first|omega|(simp only[lens]<;>omega)) only [go_sem]
 have bA:hA.get h.next=some (.row 256 [B'] false):=by rw[eA,←nZ]; simp (maxSteps:=9^6) +decide (disch:=first|omega|(simp only[lens]<;>omega)|decide) only [go_sem,Za,simprocAttr,bl1]<;>rfl
 have MA:=MZ.keep (h2:=hA) (by omega) (fun m hm=>by rw[eA]; simp (disch:=first|omega|(simp only[lens]<;>omega)) only [go_sem])
 clear eA
 have cA2:=(kA p2 (by omega) (by omega)).trans c2
 obtain⟨hC',k3,MC,nC,rC⟩:=hFr MA
 have kC:∀ m,m<h.next→m≠n+6→m≠n+13→hC'.get m=h.get m:=fun m hm h6 h13=>(rC m (by omega) h13).trans (kA m hm h6)
 have cC2:=(kC p2 (by omega) (by omega) (by omega)).trans c2
 have cC7:=(kC p7 (by omega) (by omega) (by omega)).trans c7
 have cCD:=(kC pD (by omega) (by omega) (by omega)).trans cD'
 have bC:=(rC h.next (by omega) (by omega)).trans bA
 iterate 8 (first|apply Goes.seq|apply Goes.skip|((first|apply Goes.Zm|apply Goes.ops2 fits Hh (Zt Zc k3)); · simp (maxSteps:=9^6) +decide (disch:=first|omega|(simp only[lens]<;>omega)|decide) only [go_sem,Za,simprocAttr,Zy,f,hs0,stG,gl0,Yn,e2,e4,e5,e7,e9,c2,hb,bl1,ml,rd1,r0,dx,es,Nat.zero_add,Nat.add_zero,cA2,bA,nZ]<;>rfl))
 iterate 4 (first|apply Goes.seq|apply Goes.skip|((first|apply Goes.Zm|apply Goes.ops2 fits Hh Zc); · simp (maxSteps:=9^6) +decide (disch:=first|omega|(simp only[lens]<;>omega)|decide) only [go_sem,Za,simprocAttr,f,hs0,stG,gl0,Yn,e2,e4,e5,e7,e9,c2,hb,bl1,ml,rd1,r0,dx,es,Nat.zero_add,Nat.add_zero,cA2,bA,nZ,cC7,cCD]<;>rfl))
 have bC':=bC
 rw[←hB] at bC'
 have k4:=Z27 Hh hC' h.next t (g k) (by omega) gt bC'
 rw[hN] at k4
 iterate 3 (first|apply Goes.seq|(apply Goes.ops2 fits Hh (Zt Zc k4); · simp (maxSteps:=9^6) +decide (disch:=first|omega|(simp only[lens]<;>omega)|decide) only [go_sem,Za,simprocAttr,Zy,f,hs0,stG,gl0,Yn,e2,e4,e5,e7,e9,c2,hb,bl1,ml,rd1,r0,dx,es,Nat.zero_add,Nat.add_zero,cA2,bA,nZ,cC7,cCD]<;>rfl))
 refine Goes.abs fun hD eD=>?_
 have nD:hD.next=hC'.next:=by rw[eD,H.Zj]
 have kD:∀ m,m<h.next→hD.get m=hC'.get m:=fun m hm=>by rw[eD,Zp (by omega)]
 have bD':hD.get h.next=some (.row 256 [N'] false):=by rw[eD,Z8]
 have MD:=MC.keep (h2:=hD) (by omega) (fun m hm=>kD m (by omega))
 clear eD
 have d2:=(kD p2 (by omega)).trans cC2
 have d7:=(kD p7 (by omega)).trans cC7
 have dD:=((kD pD (by omega)).trans (kC pD (by omega) (by omega) (by omega))).trans cD
 obtain⟨hE,k5,ME,nE,kE⟩:=hC MD dD (by omega)
 have q4:=(kE p4 (by omega) ⟨⟨by omega,by omega,by omega,by omega,by omega⟩,by omega⟩ (by omega)).trans ((kD p4 (by omega)).trans ((kC p4 (by omega) (by omega) (by omega)).trans c4))
 have q5:=(kE p5 (by omega) ⟨⟨by omega,by omega,by omega,by omega,by omega⟩,by omega⟩ (by omega)).trans ((kD p5 (by omega)).trans ((kC p5 (by omega) (by omega) (by omega)).trans c5))
 iterate 6 (first|apply Goes.seq|apply Goes.skip|((first|apply Goes.Zm|apply Goes.ops2 fits Hh (Zt Zc k5)); · simp (maxSteps:=9^6) +decide (disch:=first|omega|(simp only[lens]<;>omega)|decide) only [go_sem,Za,simprocAttr,Zy,f,hs0,stG,gl0,Yn,e2,e4,e5,e7,e9,c2,hb,bl1,ml,rd1,r0,dx,es,Nat.zero_add,Nat.add_zero,cA2,bA,nZ,cC7,cCD,d2,d7,bD']<;>rfl))
 iterate 2 (first|apply Goes.ret|(apply Goes.ops2 fits Hh Zc; · simp (maxSteps:=9^6) +decide (disch:=first|omega|(simp only[lens]<;>omega)|decide) only [go_sem,Za,simprocAttr,f,hs0,stG,gl0,Yn,e2,e4,e5,e7,e9,c2,hb,bl1,ml,rd1,r0,dx,es,Nat.zero_add,Nat.add_zero,cA2,bA,nZ,cC7,cCD,d2,d7,bD',q4,q5]<;>rfl))
 refine⟨rfl,?_,ME.keep ?_ (fun m hm=>?_),fun m hm ho h1 h2 h3=>?_,?_,?_⟩
 ·simp only[H.Zj]; omega
 ·simp only[H.Zj]; omega
 ·simp (disch:=first|omega|(simp only[lens]<;>omega)) only [go_sem]
 ·refine Eq.trans ?_ ((kE m (by omega) ho h1).trans ((kD m hm).trans (kC m hm ho.1.1 ho.1.2.1))); simp (disch:=first|omega|(simp only[lens]<;>omega)) only [go_sem]
 ·simp (maxSteps:=9^6) +decide (disch:=first|omega|(simp only[lens]<;>omega)|decide) only [go_sem,Zb,Za,simprocAttr,q4,Z4]<;>rfl
 ·simp (maxSteps:=9^6) +decide (disch:=first|omega|(simp only[lens]<;>omega)|decide) only [go_sem,Zb,Za,simprocAttr,q5,Z4]<;>rfl
end
end Go.Proofs.YtgikjeaipmeclaaGreatDoor
