/- orphans: the superblock's first orphan, the row of orphans; over a store of the small file system whose handle is open. -/
import Derived.Test.YtdkcjalmhdofcaaGreatDoorIhg
import Derived.Test.YtdkcjalmhdofcaaGreatDoorSli
import Derived.Test.YtdkcjalmhdofcaaGreatDoorOsu
import Derived.Test.YtdkcjalmhdofcaaGreatDoorOin
set_option linter.unusedSimpArgs false
set_option linter.unusedVariables false
set_option linter.unusedSectionVars false
set_option maxRecDepth 100000
set_option maxHeartbeats 4000000
namespace Go.Proofs.YtdkcjalmhdofcaaGreatDoor
open Go.Ev
theorem ty116:K.types.get 116=some ti116:=by kernel_rfl
theorem sz116:ti116.size=5:=by rfl
theorem ag116:ti116.agg=true:=by rfl
theorem fo116_0:Zp K 116 0=some (0,ti24):=by kernel_rfl
theorem fo116_1:Zp K 116 1=some (4,ti44):=by kernel_rfl
theorem bu116 (ps:List (Nat × W)):Z9 K 116 (some ps)=gW (Z5 K 116 ps ti116.zero.cells):=by kernel_rfl
theorem ze116:ti116.zero=(.g ([.int .i64 0,.int .i64 0,.int .i64 0,.int .i64 0,.int .u32 0])):=by rfl
theorem by116:ti116.bytes=40:=by rfl
attribute [go_sem] ty116 sz116 ag116 fo116_0 fo116_1 bu116 ze116 by116
noncomputable def q12 (p:List Nat):Code:=piece p (Jz Tryz.f12)
theorem rs48:Tryz.f48.results.toList=[.cell 2 116,.tmp 3]:=rfl
theorem rs41:Tryz.f41.results.toList=[.tmp 4]:=rfl
theorem rs12:Tryz.f12.results.toList=[.tmp 2,.tmp 3]:=rfl
attribute [go_sem] rs48 rs41 rs12
theorem rs98:Tryz.f98.results.toList=[.tmp 2]:=rfl
theorem rs47:Tryz.f47.results.toList=[.tmp 2]:=rfl
theorem rs38:Tryz.f38.results.toList=[.tmp 2]:=rfl
attribute [go_sem] rs98 rs47 rs38
noncomputable def Zn2:Kn1:=fun args h=>match args with
 | [.c (.ptr s 0)]=>(Dq h s).bind fun S=>(F8 h S.gd).bind fun G=>some (.w (.c (.int .u8 G.md)),h)
 | _=>none
noncomputable def Zo3:Kn1:=fun args h=>match args with
 | [.c (.ptr s 0)]=>(Dq h s).bind fun S=>(F8 h S.gd).bind fun G=>some (.w (.c (.bool (G.md != 0))),h)
 | _=>none
noncomputable def Znt:Kn1:=fun args h=>match args with
 | [.c (.ptr s 0)]=>(Dq h s).bind fun S=>(F8 h S.gd).bind fun G=>(Ox h S.tx).bind fun X=>Yt (X.op&&(G.md != 0)) (some (.w (.c (.int .i64 0)),h))
 | _=>none
attribute [go_sem] Zn2 Zo3 Znt
theorem ours0:Dj 2 24 8 40 ((0:Nat):Int)=true:=by kernel_rfl
theorem fine4:U4 2 24 8 40=true:=by kernel_rfl
section
variable (Hh:Hearts K Tryz.prog)
include Hh
theorem Zrh {args:List W} {h h':Go.Ev.H} {v:V} (e:Zn2 args h=some (v,h')):Zg K Tryz.prog 98 args h v h':=by
 unfold Zn2 at e
 split at e
 ·rename_i s
  obtain⟨S,hs,e⟩:=Zq e
  have hs:=Je hs
  obtain⟨G,hg,e⟩:=Zq e
  obtain⟨hg,fb⟩:=Uj hg
  cases e
  refine Zg.goes fits Hh (by kernel_rfl) (by kernel_rfl) (by kernel_rfl) (show Tryz.f98.body=some _ from rfl) rfl ?_
  repeat (first|apply Goes.seq|apply Goes.block|apply Goes.loop|apply Goes.skip|apply Goes.exit|apply Goes.ret|((first|apply Goes.Zo|apply Goes.ops2 fits Hh (Zj Zb (fun _ _ _ _=>Ol Hh))); · simp (maxSteps:=9^6) +decide (disch:=first|omega|(simp only[lens]<;>omega)|decide) only [go_sem,Zd,Za,simprocAttr,hs,hg,gdL,read1]<;>rfl))
  simp (maxSteps:=9^6) +decide (disch:=first|omega|(simp only[lens]<;>omega)|decide) only [go_sem,Zd,Za,simprocAttr]<;>rfl
 ·cases e
theorem Zgm {args:List W} {h h':Go.Ev.H} {v:V} (e:Zo3 args h=some (v,h')):Zg K Tryz.prog 47 args h v h':=by
 unfold Zo3 at e
 split at e
 ·rename_i s
  obtain⟨S,hs,e⟩:=Zq e
  have hs:=Je hs
  obtain⟨G,hg,e⟩:=Zq e
  obtain⟨hg,fb⟩:=Uj hg
  cases e
  refine Zg.goes fits Hh (by kernel_rfl) (by kernel_rfl) (by kernel_rfl) (show Tryz.f47.body=some _ from rfl) rfl ?_
  repeat (first|apply Goes.seq|apply Goes.block|apply Goes.loop|apply Goes.skip|apply Goes.exit|apply Goes.ret|((first|apply Goes.Zo|apply Goes.ops2 fits Hh (Zj Zb (fun _ _ _ _=>Zrh Hh))); · simp (maxSteps:=9^6) +decide (disch:=first|omega|(simp only[lens]<;>omega)|decide) only [go_sem,Zd,Za,simprocAttr,hs,hg,gdL,fb]<;>rfl))
  simp (maxSteps:=9^6) +decide (disch:=first|omega|(simp only[lens]<;>omega)|decide) only [go_sem,Zd,Za,simprocAttr]<;>rfl
 ·cases e
theorem Fx {args:List W} {h h':Go.Ev.H} {v:V} (e:Znt args h=some (v,h')):Zg K Tryz.prog 38 args h v h':=by
 unfold Znt at e
 split at e
 ·rename_i s
  obtain⟨S,hs,e⟩:=Zq e
  have hs:=Je hs
  obtain⟨G,hg,e⟩:=Zq e
  obtain⟨hg,fb⟩:=Uj hg
  obtain⟨X,ht,e⟩:=Zq e
  have ht:=Yv ht
  obtain⟨b,e⟩:=Zv.1 e
  rw[Bool.and_eq_true] at b
  obtain⟨bo,bm⟩:=b
  cases e
  refine Zg.goes fits Hh (by kernel_rfl) (by kernel_rfl) (by kernel_rfl) (show Tryz.f38.body=some _ from rfl) rfl ?_
  repeat (first|apply Goes.seq|apply Goes.block|apply Goes.loop|apply Goes.skip|apply Goes.exit|apply Goes.ret|((first|apply Goes.Zo|apply Goes.ops2 fits Hh (Zj (Zj (Zj Zb (fun _ _ _ _=>Zgm Hh)) (fun _ _ _ _=>Zgx Hh)) (fun _ _ _ _=>Zma Hh))); · simp (maxSteps:=9^6) +decide (disch:=first|omega|(simp only[lens]<;>omega)|decide) only [go_sem,Zd,Za,simprocAttr,hs,ht,hg,gdL,fb,bo,bm]<;>rfl))
  simp (maxSteps:=9^6) +decide (disch:=first|omega|(simp only[lens]<;>omega)|decide) only [go_sem,Zd,Za,simprocAttr]<;>rfl
 ·cases e
variable {n q:Nat} {cr md:Int} {S T:List Nat} {V:Nat→List Nat} {h:Go.Ev.H}
theorem Z0g (M:HE n q 2 24 8 40 cr md S T V h) {z:Nat} (hz:z<9) (e0:V 0=Eo z) :
  ∃ h',Zg K Tryz.prog 48 [.c (.ptr (n+13) 0)] h (.tup [.g (Sv z),.c (.int .i64 0)]) h'∧HE n q 2 24 8 40 cr md S T V h'∧Kr n q h h':=by
 obtain⟨nq,nx,n0⟩:=M.nx
 have hG:=fun {h:Go.Ev.H} (M:HE n q 2 24 8 40 cr md S T V h)=>M.get fine4 (z:=0) ours0 (by omega)
 simp only[e0] at hG
 have xl:(pgL (Eo z)).length=256:=by rw[Ob,Zdc]
 have hR:=fun {h:Go.Ev.H} (hst:h.get 0=some Ul)=>Ztw Hh hz hst
 have sl:(Sv z).length=5:=rfl
 obtain⟨x,hx⟩:∃ x,pgL (Eo z)=x:=⟨_,rfl⟩
 obtain⟨y,hy⟩:∃ y,Sv z=y:=⟨_,rfl⟩
 simp only[hx,hy] at hG hR ⊢
 rw[hx] at xl
 rw[hy] at sl
 obtain⟨v,h',cc,rfl,M',kk⟩:∃ v h',Zg K Tryz.prog 48 [.c (.ptr (n+13) 0)] h v h'∧v=.tup [.g y,.c (.int .i64 0)]∧HE n q 2 24 8 40 cr md S T V h'∧Kr n q h h':=by
  refine Zg.Yb fits Hh (by kernel_rfl) (by kernel_rfl) (by kernel_rfl) (show Tryz.f48.body=some _ from rfl) rfl ?_
  iterate 3 (first|apply Goes.seq|(apply Goes.ops2 fits Hh Zb; · simp (maxSteps:=9^6) +decide (disch:=first|omega|(simp only[lens]<;>omega)|decide) only [go_sem,Za,simprocAttr,xl,sl,read1]<;>rfl))
  refine Goes.abs fun hA eA=>?_
  have nA:hA.next=h.next+1:=by rw[eA]; first|rfl|simp only[H.Zh,H.Zc]
  have kA:∀ m,m<h.next→hA.get m=h.get m:=fun m hm=>by rw[eA]; (first|(simp (discharger:=omega) only [H.get_put,H.Zf,H.Zk,H.Zc,H.Zh,H.Zi,if_neg]; done)|(simp only[H.get_put,H.Zf,H.Zk,H.Zc,H.Zh,H.Zi]; (repeat' split)<;>first|rfl|(exfalso; omega)|omega))
  obtain⟨w,wl,aA⟩:∃ w:List C,w.length=5∧hA.get h.next=some (.row 5 [w] false):=⟨_,rfl,by rw[eA]; simp (maxSteps:=9^6) +decide (disch:=first|omega|(simp only[lens]<;>omega)|decide) only [go_sem,Za,simprocAttr]<;>rfl⟩
  clear eA
  obtain⟨hB,e1,MB,nB,rB⟩:=hG (M.keep (h2:=hA) (by omega) (fun m hm=>kA m (by omega)))
  have c1:Zg K Tryz.prog 31 [.c (.ptr (n+13) 0),.c (.int .i64 0)] hA (.tup [.g x,.c (.int .i64 0)]) hB:=Tg Hh e1
  have aB:=(rB h.next (by omega) (by omega)).trans aA
  iterate 7 (first|apply Goes.seq|apply Goes.skip|((first|apply Goes.Zo|apply Goes.ops2 fits Hh (Zt Zb c1)); · simp (maxSteps:=9^6) +decide (disch:=first|omega|(simp only[lens]<;>omega)|decide) only [go_sem,Za,simprocAttr,Zw,xl,sl,read1]<;>rfl))
  refine Goes.abs fun hC eC=>?_
  have nC:hC.next=h.next+2:=by rw[eC]; simp only[H.Zh,H.Zc]; omega
  have kC:∀ m,m<hB.next→hC.get m=hB.get m:=fun m hm=>by rw[eC]; (first|(simp (discharger:=omega) only [H.get_put,H.Zf,H.Zk,H.Zc,H.Zh,H.Zi,if_neg]; done)|(simp only[H.get_put,H.Zf,H.Zk,H.Zc,H.Zh,H.Zi]; (repeat' split)<;>first|rfl|(exfalso; omega)|omega))
  have bC:hC.get (h.next+1)=some (.row 256 [x] false):=by rw[eC,show h.next+1=hB.next by omega]; simp (maxSteps:=9^6) +decide (disch:=first|omega|(simp only[lens]<;>omega)|decide) only [go_sem,Za,simprocAttr,xl]<;>rfl
  have aC:=(kC h.next (by omega)).trans aB
  clear eC
  have MC:=MB.keep (h2:=hC) (by omega) (fun m hm=>kC m (by omega))
  have c4:=hR (h:=hC) MC.cells.1
  have nB':hB.next=h.next+1:=by omega
  iterate 2 (first|apply Goes.ret|(apply Goes.ops2 fits Hh (Zt Zb c4); · simp (maxSteps:=9^6) +decide (disch:=first|omega|(simp only[lens]<;>omega)|decide) only [go_sem,Za,simprocAttr,Zw,xl,sl,bC,aC,wl,nB',read1]<;>rfl))
  refine⟨_,_,(by simp (maxSteps:=9^6) +decide (disch:=first|omega|(simp only[lens]<;>omega)|decide) only [go_sem,Za,simprocAttr,sl]<;>rfl),rfl,MC.keep ?_ (fun m hm=>?_),?_,fun m hm hne=>?_⟩
  ·first|omega|(simp only[H.Zh,H.Zc]<;>omega)
  ·(first|(simp (discharger:=omega) only [H.get_put,H.Zf,H.Zk,H.Zc,H.Zh,H.Zi,if_neg]; done)|(simp only[H.get_put,H.Zf,H.Zk,H.Zc,H.Zh,H.Zi]; (repeat' split)<;>first|rfl|(exfalso; omega)|omega))
  ·first|omega|(simp only[H.Zh,H.Zc]<;>omega)
  ·refine Eq.trans ?_ ((kC m (by omega)).trans ((rB m (by omega) hne).trans (kA m hm))); (first|(simp (discharger:=omega) only [H.get_put,H.Zf,H.Zk,H.Zc,H.Zh,H.Zi,if_neg]; done)|(simp only[H.get_put,H.Zf,H.Zk,H.Zc,H.Zh,H.Zi]; (repeat' split)<;>first|rfl|(exfalso; omega)|omega))
 exact⟨h',cc,M',kk⟩
theorem Zz1 (M:HE n q 2 24 8 40 cr md S T V h) {z u:Nat} (hz:z<9) (hu:u<9) (e0:V 0=Eo z) (s0:0∈S) (t0:0 ∉ T) :
  ∃ h',Zg K Tryz.prog 41 [.c (.ptr (n+13) 0),.c (.int .u32 (u:Int))] h (.w (.c (.int .i64 0))) h'∧HE n q 2 24 8 40 cr md S T (Gi V 0 (Eo u)) h'∧Kp n q h h':=by
 obtain⟨nq,nx,n0⟩:=M.nx
 obtain⟨hB,c1,MB,rB⟩:=Z0g Hh M hz e0
 have nB:=rB.1
 have sl:(Sv z).length=5:=rfl
 have sl2:(Sv u).length=5:=rfl
 have ws:Z4 5 [Sv z] 4 [.int .u32 (u:Int)]=some [Sv u]:=rfl
 have hW:=fun {h:Go.Ev.H} (hst:h.get 0=some Ul)=>Zqw Hh hu hst
 have hP:=fun {h:Go.Ev.H} (M:HE n q 2 24 8 40 cr md S T V h)=>M.put fine4 (z:=0) ours0 (by omega) (Zdc u) s0 t0
 have xl:(pgL (Eo u)).length=256:=by rw[Ob,Zdc]
 obtain⟨x,hx⟩:∃ x,pgL (Eo u)=x:=⟨_,rfl⟩
 obtain⟨y,hy⟩:∃ y,Sv z=y:=⟨_,rfl⟩
 obtain⟨y2,hy2⟩:∃ y,Sv u=y:=⟨_,rfl⟩
 simp only[hx,hy2] at hW hP
 rw[hx] at xl
 rw[hy] at c1 sl ws
 rw[hy2] at sl2 ws
 obtain⟨v,h',cc,rfl,M',kk⟩:∃ v h',Zg K Tryz.prog 41 [.c (.ptr (n+13) 0),.c (.int .u32 (u:Int))] h v h'∧v=.w (.c (.int .i64 0))∧HE n q 2 24 8 40 cr md S T (Gi V 0 (Eo u)) h'∧Kp n q h h':=by
  refine Zg.Yb fits Hh (by kernel_rfl) (by kernel_rfl) (by kernel_rfl) (show Tryz.f41.body=some _ from rfl) rfl ?_
  iterate 3 (first|apply Goes.seq|(apply Goes.ops2 fits Hh Zb; · simp (maxSteps:=9^6) +decide (disch:=first|omega|(simp only[lens]<;>omega)|decide) only [go_sem,Za,simprocAttr,xl,sl,sl2,ws,read1]<;>rfl))
  iterate 9 (first|apply Goes.seq|apply Goes.skip|((first|apply Goes.Zo|apply Goes.ops2 fits Hh (Zt Zb c1)); · simp (maxSteps:=9^6) +decide (disch:=first|omega|(simp only[lens]<;>omega)|decide) only [go_sem,Za,simprocAttr,Zw,xl,sl,sl2,ws,read1]<;>rfl))
  refine Goes.abs fun hC eC=>?_
  have nC:hC.next=hB.next+1:=by rw[eC]; simp only[H.Zh,H.Zc]
  have kC:∀ m,m<hB.next→hC.get m=hB.get m:=fun m hm=>by rw[eC]; (first|(simp (discharger:=omega) only [H.get_put,H.Zf,H.Zk,H.Zc,H.Zh,H.Zi,if_neg]; done)|(simp only[H.get_put,H.Zf,H.Zk,H.Zc,H.Zh,H.Zi]; (repeat' split)<;>first|rfl|(exfalso; omega)|omega))
  have bC:hC.get hB.next=some (.row 5 [y2] false):=by rw[eC]; simp (maxSteps:=9^6) +decide (disch:=first|omega|(simp only[lens]<;>omega)|decide) only [go_sem,Za,simprocAttr,sl,sl2,ws]<;>rfl
  clear eC
  have MC:=MB.keep (h2:=hC) (by omega) (fun m hm=>kC m (by omega))
  have c5:=hW (h:=hC) MC.cells.1
  iterate 7 (first|apply Goes.seq|apply Goes.skip|((first|apply Goes.Zo|apply Goes.ops2 fits Hh (Zt Zb c5)); · simp (maxSteps:=9^6) +decide (disch:=first|omega|(simp only[lens]<;>omega)|decide) only [go_sem,Za,simprocAttr,Zw,xl,sl,sl2,ws,bC,nC,read1]<;>rfl))
  refine Goes.abs fun hD eD=>?_
  have nD:hD.next=hB.next+2:=by rw[eD]; simp only[H.Zh,H.Zc]; omega
  have kD:∀ m,m<hC.next→hD.get m=hC.get m:=fun m hm=>by rw[eD]; (first|(simp (discharger:=omega) only [H.get_put,H.Zf,H.Zk,H.Zc,H.Zh,H.Zi,if_neg]; done)|(simp only[H.get_put,H.Zf,H.Zk,H.Zc,H.Zh,H.Zi]; (repeat' split)<;>first|rfl|(exfalso; omega)|omega))
  have bD:hD.get (hB.next+1)=some (.row 256 [x] false):=by rw[eD,←nC]; simp (maxSteps:=9^6) +decide (disch:=first|omega|(simp only[lens]<;>omega)|decide) only [go_sem,Za,simprocAttr,xl]<;>rfl
  clear eD
  have MD:=MC.keep (h2:=hD) (by omega) (fun m hm=>kD m (by omega))
  obtain⟨hE,e8,ME,nE,kE⟩:=hP MD
  have c8:Zg K Tryz.prog 88 [.c (.ptr (n+13) 0),.c (.int .i64 0),.g x] hD (.w (.c (.int .i64 0))) hE:=Q5 Hh e8
  iterate 2 (first|apply Goes.ret|(apply Goes.ops2 fits Hh (Zt Zb c8); · simp (maxSteps:=9^6) +decide (disch:=first|omega|(simp only[lens]<;>omega)|decide) only [go_sem,Za,simprocAttr,Zw,xl,sl,sl2,ws,bC,nC,bD,read1]<;>rfl))
  exact⟨_,_,(by simp (maxSteps:=9^6) +decide (disch:=first|omega|(simp only[lens]<;>omega)|decide) only [go_sem,Za,simprocAttr]<;>rfl),rfl,ME,(by omega),fun m hm ho=>(kE m ho.1).trans ((kD m (by omega)).trans ((kC m (by omega)).trans (rB.2 m hm ho.1.1)))⟩
 exact⟨h',cc,M',kk⟩
end
end Go.Proofs.YtdkcjalmhdofcaaGreatDoor
