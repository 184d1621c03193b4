/- mapping.Find, over any store whose handle is open: what it answers. -/
import Derived.Test.YtgikjeaipmeclaaGreatDoorDbl
set_option linter.unusedSimpArgs false
set_option linter.unusedVariables false
set_option linter.unusedSectionVars false
set_option maxRecDepth 100000
set_option maxHeartbeats 4000000
namespace Go.Proofs.YtgikjeaipmeclaaGreatDoor
open Go.Ev
structure InoP (x:List C) (P:Nat→Nat):Prop where
 xl:x.length=16
 pt:∀ i,i<11→x[4+i]? = some (.int .u32 (P i:Nat))
 pb:∀ i,i<11→P i<4294967296
theorem InoP.rd {x:List C} {P:Nat→Nat} (X:InoP x P) {i:Nat} (hi:i<11):read1 16 [x] (4+i)=some (.int .u32 (P i:Nat)):=by
 have:=Bv (L:=[x]) (sz:=16) (i:=0) (j:=4+i) (by omega) rfl
 rw[Nat.zero_mul,Nat.zero_add] at this
 rw[this]
 exact X.pt i hi
def Je (V:Nat→List Nat) (P:Nat→Nat) (i:Nat):Nat:=Nk V (P (Yq i).1) (Yq i).2
theorem Zpg (i:Nat):(Yq i).2.length≤8:=by
 unfold Yq
 split
 ·exact (by omega:0≤8)
 ·split
  ·exact (by omega:1≤8)
  ·exact (by omega:2≤8)
section
variable (Hh:Hearts K Tryz.prog)
include Hh
variable {n q a b c e:Nat} {cr:Cr} {md:Int} {S T:List Nat} {V:Nat→List Nat} {h:Go.Ev.H}
theorem Zpw (f:Y4 a b c e=true) (m0:md≠0) (M:HE n q a b c e cr md S T V h) {x:List C} {P:Nat→Nat} (X:InoP x P) {i:Nat} (hi:i<36) (w0:Zpy a b c e V (P (Yq i).1) (Yq i).2) :
  ∃ h',Ze K Tryz.prog 19 [.c (.ptr (n+13) 0),.g x,.c (.int .i64 (i:Int))] h (.tup [.c (.int .i64 (Je V P i:Nat)),.c (.int .i64 0)]) h'∧HE n q a b c e cr md S T V h'∧Kr n q h h':=by
 obtain⟨nq,nx,n0⟩:=M.nx
 obtain⟨st,⟨kn,hs⟩,⟨dk,gl⟩,ht⟩:=M.cells
 unfold gdL gdD at gl
 have dm:(md != 0)=true:=Xx m0
 obtain⟨p11,w6⟩:=Zng hi
 have xl:=X.xl
 have rx:=X.rd p11
 have pb:=X.pb _ p11
 have wl:=Zpg i
 unfold Je
 obtain⟨ws,hws⟩:∃ ws,(Yq i).2=ws:=⟨_,rfl⟩
 have hO:=fun {h:Go.Ev.H} (h0:0<h.next)=>Z0h Hh hi (h:=h) h0
 obtain⟨pk,hpk⟩:∃ pk,(Yq i).1=pk:=⟨_,rfl⟩
 simp only[hws,hpk] at hO w0 w6 p11 rx pb wl ⊢
 obtain⟨b0,hb0⟩:∃ b0,P pk=b0:=⟨_,rfl⟩
 rw[hb0] at rx pb w0 ⊢
 have lp:=fun s=>Zvo Hh (n:=n) (q:=q) (cr:=cr) (md:=md) (S:=S) (T:=T) (s:=s) f w0 w6 wl ws.length 0
 obtain⟨v,h',cc,rfl,M',kk⟩:∃ v h',Ze K Tryz.prog 19 [.c (.ptr (n+13) 0),.g x,.c (.int .i64 (i:Int))] h v h'∧v=.tup [.c (.int .i64 (Nk V b0 ws:Nat)),.c (.int .i64 0)]∧HE n q a b c e cr md S T V h'∧Kr n q h h':=by
  refine Ze.Yi fits Hh (by kernel_rfl) (by kernel_rfl) (by kernel_rfl) (show Tryz.f19.body=some _ from rfl) rfl ?_
  iterate 8 (first|apply Goes.seq|apply Goes.skip|((first|apply Goes.Zm|apply Goes.ops2 fits Hh (Zf Zc (fun _ _ _ _=>Xc Hh))); · simp (maxSteps:=9^6) +decide (disch:=first|omega|(simp only[lens]<;>omega)|decide) only [go_sem,Za,simprocAttr,f,hs,stG,gl,dm,xl,Zx,Zh]<;>rfl))
  refine Goes.abs fun hA eA=>?_
  have nA:hA.next=h.next+1:=by rw[eA]; simp only[H.Zj,H.Zg]
  have kA:∀ m,m<h.next→hA.get m=h.get m:=fun m hm=>by rw[eA]; simp (disch:=first|omega|(simp only[lens]<;>omega)) only [go_sem]
  have bA:hA.get h.next=some (.row 16 [x] false):=by rw[eA]; simp (maxSteps:=9^6) +decide (disch:=first|omega|(simp only[lens]<;>omega)|decide) only [go_sem,Za,simprocAttr,xl]<;>rfl
  clear eA
  obtain⟨hB,s,c3,nB,kB,sB,lB⟩:=hO (h:=hA) (by omega)
  have bB:=(kB h.next (by omega)).trans bA
  have MB:=M.keep (h2:=hB) (by omega) (fun m hm=>(kB m (by omega)).trans (kA m (by omega)))
  obtain⟨lf,ln⟩:=Z3o sB
  iterate 12 (first|apply Goes.seq|apply Goes.skip|apply Goes.block|((first|apply Goes.Zm|apply Goes.ops2 fits Hh (Zt Zc c3)); · simp (maxSteps:=9^6) +decide (disch:=first|omega|(simp only[lens]<;>omega)|decide) only [go_sem,Za,simprocAttr,Zy,f,hs,stG,gl,dm,xl,bB,rx,pb,p11,lf,ln,Zx,Zh]<;>rfl))
  refine (lp s _ hB (by omega) MB sB (fun p o n z e=>⟨by have:=(lB p o n z e).1; omega,(lB p o n z e).2⟩) ?_ ?_ ?_ ?_ ?_).mono ?_
  ·simp (maxSteps:=9^6) +decide (disch:=first|omega|(simp only[lens]<;>omega)|decide) only [go_sem,Zb,Za,simprocAttr]
  ·simp (maxSteps:=9^6) +decide (disch:=first|omega|(simp only[lens]<;>omega)|decide) only [go_sem,Zb,Za,simprocAttr]
  ·simp (maxSteps:=9^6) +decide (disch:=first|omega|(simp only[lens]<;>omega)|decide) only [go_sem,Zb,Za,simprocAttr]
  ·simp (maxSteps:=9^6) +decide (disch:=first|omega|(simp only[lens]<;>omega)|decide) only [go_sem,Zb,Za,simprocAttr]<;>rfl
  ·simp (maxSteps:=9^6) +decide (disch:=first|omega|(simp only[lens]<;>omega)|decide) only [go_sem,Zb,Za,simprocAttr]<;>rfl
  rintro x1 ds1 ts1 h1 ⟨rfl,rfl,M1,k1,t11⟩
  iterate 3 (first|apply Goes.seq|apply Goes.ret|(apply Goes.ops2 fits Hh Zc; · simp (maxSteps:=9^6) +decide (disch:=first|omega|(simp only[lens]<;>omega)|decide) only [go_sem,Zb,Za,simprocAttr,t11]<;>rfl))
  exact⟨_,_,(by simp (maxSteps:=9^6) +decide (disch:=first|omega|(simp only[lens]<;>omega)|decide) only [go_sem,Zb,Za,simprocAttr,t11]<;>rfl),rfl,M1,⟨by have:=k1.1; omega,fun m hm hne=>(k1.2 m (by omega) hne).trans ((kB m (by omega)).trans (kA m hm))⟩⟩
 exact⟨h',cc,M',kk⟩
theorem Zxx (f:Y4 a b c e=true) (m0:md≠0) (M:HE n q a b c e cr md S T V h) {x:List C} {P:Nat→Nat} (X:InoP x P) :
  ∃ h',Ze K Tryz.prog 19 [.c (.ptr (n+13) 0),.g x,.c (.int .i64 (-1))] h (.tup [.c (.int .i64 0),.c (.int .i64 100)]) h'∧HE n q a b c e cr md S T V h'∧Kr n q h h':=by
 obtain⟨nq,nx,n0⟩:=M.nx
 obtain⟨st,⟨kn,hs⟩,⟨dk,gl⟩,ht⟩:=M.cells
 unfold gdL gdD at gl
 have dm:(md != 0)=true:=Xx m0
 have xl:=X.xl
 obtain⟨v,h',cc,rfl,M',kk⟩:∃ v h',Ze K Tryz.prog 19 [.c (.ptr (n+13) 0),.g x,.c (.int .i64 (-1))] h v h'∧v=.tup [.c (.int .i64 0),.c (.int .i64 100)]∧HE n q a b c e cr md S T V h'∧Kr n q h h':=by
  refine Ze.Yi fits Hh (by kernel_rfl) (by kernel_rfl) (by kernel_rfl) (show Tryz.f19.body=some _ from rfl) rfl ?_
  iterate 8 (first|apply Goes.seq|apply Goes.skip|((first|apply Goes.Zm|apply Goes.ops2 fits Hh (Zf Zc (fun _ _ _ _=>Xc Hh))); · simp (maxSteps:=9^6) +decide (disch:=first|omega|(simp only[lens]<;>omega)|decide) only [go_sem,Za,simprocAttr,f,hs,stG,gl,dm,xl,Zx,Zh]<;>rfl))
  refine Goes.abs fun hA eA=>?_
  have nA:hA.next=h.next+1:=by rw[eA]; simp only[H.Zj,H.Zg]
  have kA:∀ m,m<h.next→hA.get m=h.get m:=fun m hm=>by rw[eA]; simp (disch:=first|omega|(simp only[lens]<;>omega)) only [go_sem]
  clear eA
  obtain⟨hB,c3,nB,kB⟩:=Z3y Hh (h:=hA) (by omega)
  have MB:=M.keep (h2:=hB) (by omega) (fun m hm=>(kB m (by omega)).trans (kA m (by omega)))
  iterate 8 (first|apply Goes.seq|apply Goes.ret|((first|apply Goes.Zm|apply Goes.ops2 fits Hh (Zt Zc c3)); · simp (maxSteps:=9^6) +decide (disch:=first|omega|(simp only[lens]<;>omega)|decide) only [go_sem,Za,simprocAttr,Zy,f,hs,stG,gl,dm,xl,Zx,Zh]<;>rfl))
  exact⟨_,_,(by simp (maxSteps:=9^6) +decide (disch:=first|omega|(simp only[lens]<;>omega)|decide) only [go_sem,Zb,Za,simprocAttr]<;>rfl),rfl,MB,⟨by omega,fun m hm hne=>(kB m (by omega)).trans (kA m hm)⟩⟩
 exact⟨h',cc,M',kk⟩
end
theorem ty232:K.types.get 232=some ti232:=by kernel_rfl
theorem sz232:ti232.size=1:=by rfl
theorem ag232:ti232.agg=false:=by rfl
attribute [go_sem] ty232 sz232 ag232
theorem rs76:Tryz.f76.results.toList=[.tmp 6,.tmp 7]:=rfl
theorem rs110:Tryz.f110.results.toList=[.tmp 8,.tmp 9,.tmp 10]:=rfl
attribute [go_sem] rs76 rs110
theorem Zwo {ts:Zu} {h:Go.Ev.H} (t:Go.TypeId) (x:Go.Operand) (lo hi:Option Go.Operand):Ua K ts h (.slice t x lo hi none)=Ob h (Y0 K h (K.types.get t) (Zv K ts x) (Uc K ts lo) (Uc K ts hi)):=rfl
attribute [go_sem] Zwo
theorem Y7 (c:C):read1 1 [[c]] 0=some c:=rfl
def zer0:List Nat:=List.replicate 256 0
theorem Ea:zer0.length=256:=rfl
theorem Zhs:pgL zer0=List.replicate 256 (.int .u8 0):=by kernel_rfl
structure Alc (n q a b c e:Nat) (cr:Cr) (md:Int) (S:List Nat) (Al:(Nat→List Nat)→Nat→Prop) (blk:Nat→Nat) (cap:Nat) (mt nk:Nat→Prop):Prop where
 take:∀ {V:Nat→List Nat} {h:Go.Ev.H} {T:List Nat} {m near:Nat},HE n q a b c e cr md S T V h→Al V m→m<cap→nk near→(∀ z,mt z→z ∉ T)→∃ h' V',Ze K Tryz.prog 108 [.c (.ptr (n+13) 0),.c (.int .i64 (near:Int))] h (.tup [.c (.int .i64 (blk m:Nat)),.c (.int .i64 0)]) h'∧HE n q a b c e cr md S T V' h'∧Kp n q h h'∧Al V' (m+1)∧∀ z,¬ mt z→V' z=V z
 upd:∀ {V:Nat→List Nat} {m z:Nat} {x:List Nat},Al V m→¬ mt z→Al (Gn V z x) m
 ours:∀ m,m<cap→O6 a b c e (blk m:Nat)=true∧blk m<2+e+a * b∧0<blk m∧¬ mt (blk m)∧blk m∈S
 inj:∀ m m',m<cap→m'<cap→blk m=blk m'→m=m'
 near:nk 0∧∀ m,m<cap→nk (blk m)
section
variable (Hh:Hearts K Tryz.prog)
include Hh
variable {n q a b c e:Nat} {cr:Cr} {md:Int} {S T:List Nat} {V:Nat→List Nat} {h:Go.Ev.H} {Al:(Nat→List Nat)→Nat→Prop} {blk:Nat→Nat} {cap:Nat} {mt nk:Nat→Prop} {m:Nat}
theorem Zpu (f:Y4 a b c e=true) (A:Alc n q a b c e cr md S Al blk cap mt nk) (M:HE n q a b c e cr md S T V h) (al:Al V m) (mc:m<cap) {near:Nat} (nr:nk near) (hT:∀ z,mt z→z ∉ T) (bT:blk m ∉ T) {lv:Nat} (lv8:lv≤8) :
  ∃ h' V',Ze K Tryz.prog 76 [.c (.ptr (n+13) 0),.c (.int .i64 (lv:Int)),.c (.int .i64 (near:Int))] h (.tup [.c (.int .i64 (blk m:Nat)),.c (.int .i64 0)]) h'∧HE n q a b c e cr md S T V' h'∧Kp n q h h'∧Al V' (m+1)∧(∀ z,¬ mt z→z≠blk m→V' z=V z)∧(0<lv→V' (blk m)=zer0):=by
 obtain⟨o1,o2,o3,o4,o5⟩:=A.ours m mc
 obtain⟨hA,V1,c1,MA,kA,alA,vA⟩:=A.take M al mc nr hT
 by_cases l0:lv=0
 ·subst l0
  have d0:decide ((((0:Nat):Int)) > 0)=false:=rfl
  obtain⟨v,h',cc,rfl,rfl⟩:∃ v h',Ze K Tryz.prog 76 [.c (.ptr (n+13) 0),.c (.int .i64 ((0:Nat):Int)),.c (.int .i64 (near:Int))] h v h'∧v=.tup [.c (.int .i64 (blk m:Nat)),.c (.int .i64 0)]∧h'=hA:=by
   refine Ze.Yi fits Hh (by kernel_rfl) (by kernel_rfl) (by kernel_rfl) (show Tryz.f76.body=some _ from rfl) rfl ?_
   iterate 3 (first|apply Goes.seq|(apply Goes.ops2 fits Hh Zc; · simp (maxSteps:=9^6) +decide (disch:=first|omega|(simp only[lens]<;>omega)|decide) only [go_sem,Zb,Za,simprocAttr,d0]<;>rfl))
   iterate 14 (first|apply Goes.seq|apply Goes.skip|apply Goes.ret|((first|apply Goes.Zm|apply Goes.ops2 fits Hh (Zt Zc c1)); · simp (maxSteps:=9^6) +decide (disch:=first|omega|(simp only[lens]<;>omega)|decide) only [go_sem,Zb,Za,simprocAttr,Zy,d0]<;>rfl))
   exact⟨_,_,(by simp (maxSteps:=9^6) +decide (disch:=first|omega|(simp only[lens]<;>omega)|decide) only [go_sem,Zb,Za,simprocAttr]<;>rfl),rfl,rfl⟩
  exact⟨_,V1,cc,MA,kA,alA,fun z hz _=>vA z hz,fun w=>absurd w (by omega)⟩
 ·have d0:decide ((lv:Int) > 0)=true:=decide_eq_true (by omega)
  obtain⟨hB,e5,MB,nB,kB⟩:=MA.put f o1 o2 Ea o5 bT
  have c5:=Zaw Hh e5
  rw[Zhs] at c5
  obtain⟨v,h',cc,rfl,rfl⟩:∃ v h',Ze K Tryz.prog 76 [.c (.ptr (n+13) 0),.c (.int .i64 (lv:Int)),.c (.int .i64 (near:Int))] h v h'∧v=.tup [.c (.int .i64 (blk m:Nat)),.c (.int .i64 0)]∧h'=hB:=by
   refine Ze.Yi fits Hh (by kernel_rfl) (by kernel_rfl) (by kernel_rfl) (show Tryz.f76.body=some _ from rfl) rfl ?_
   iterate 3 (first|apply Goes.seq|(apply Goes.ops2 fits Hh Zc; · simp (maxSteps:=9^6) +decide (disch:=first|omega|(simp only[lens]<;>omega)|decide) only [go_sem,Zb,Za,simprocAttr,d0]<;>rfl))
   iterate 11 (first|apply Goes.seq|apply Goes.skip|((first|apply Goes.Zm|apply Goes.ops2 fits Hh (Zt Zc c1)); · simp (maxSteps:=9^6) +decide (disch:=first|omega|(simp only[lens]<;>omega)|decide) only [go_sem,Zb,Za,simprocAttr,Zy,d0]<;>rfl))
   iterate 8 (first|apply Goes.seq|apply Goes.skip|apply Goes.ret|((first|apply Goes.Zm|apply Goes.ops2 fits Hh (Zt Zc c5)); · simp (maxSteps:=9^6) +decide (disch:=first|omega|(simp only[lens]<;>omega)|decide) only [go_sem,Zb,Za,simprocAttr,Zy,d0]<;>rfl))
   exact⟨_,_,(by simp (maxSteps:=9^6) +decide (disch:=first|omega|(simp only[lens]<;>omega)|decide) only [go_sem,Zb,Za,simprocAttr]<;>rfl),rfl,rfl⟩
  refine⟨_,Gn V1 (blk m) zer0,cc,MB,⟨by have:=kA.1; omega,fun p hp ho=>(kB p ho.1).trans (kA.2 p hp ho)⟩,A.upd alA o4,fun z hz hne=>by rw[Oo hne]; exact vA z hz,fun _=>Em ..⟩
variable {p4 p11 p o k:Nat} {L:List Nat}
theorem Zjt (b0:Nat) (fr:Bool) (p o:Nat):Ze K Tryz.prog 110 [.c (.int .i64 (b0:Int)),.c (.slice p o 0 1),.c (.bool fr),.c (.ptr p4 0),.c (.ptr p11 0)] h (.tup [.c (.int .i64 (b0:Int)),.c (.bool fr),.c (.int .i64 0)]) h:=by
 have lf:=Wj p o 0
 refine Ze.goes fits Hh (by kernel_rfl) (by kernel_rfl) (by kernel_rfl) (show Tryz.f110.body=some _ from rfl) rfl ?_
 iterate 9 (first|apply Goes.seq|apply Goes.ret|((first|apply Goes.Zm|apply Goes.ops2 fits Hh Zc); · simp (maxSteps:=9^6) +decide (disch:=first|omega|(simp only[lens]<;>omega)|decide) only [go_sem,Zb,Za,simprocAttr,lf,Zh,Ye]<;>rfl))
 simp (maxSteps:=9^6) +decide (disch:=first|omega|(simp only[lens]<;>omega)|decide) only [go_sem,Zb,Za,simprocAttr]<;>rfl
theorem Zk2 (b0:Nat) (fr:Bool):Ze K Tryz.prog 110 [.c (.int .i64 (b0:Int)),.c .snil,.c (.bool fr),.c (.ptr p4 0),.c (.ptr p11 0)] h (.tup [.c (.int .i64 (b0:Int)),.c (.bool fr),.c (.int .i64 0)]) h:=by
 have lf:=Zh7
 refine Ze.goes fits Hh (by kernel_rfl) (by kernel_rfl) (by kernel_rfl) (show Tryz.f110.body=some _ from rfl) rfl ?_
 iterate 9 (first|apply Goes.seq|apply Goes.ret|((first|apply Goes.Zm|apply Goes.ops2 fits Hh Zc); · simp (maxSteps:=9^6) +decide (disch:=first|omega|(simp only[lens]<;>omega)|decide) only [go_sem,Zb,Za,simprocAttr,lf,Zh,Ye]<;>rfl))
 simp (maxSteps:=9^6) +decide (disch:=first|omega|(simp only[lens]<;>omega)|decide) only [go_sem,Zb,Za,simprocAttr]<;>rfl
theorem Zzq (f:Y4 a b c e=true) (M:HE n q a b c e cr md S T V h) {b0 w:Nat} (ob:O6 a b c e (b0:Nat)=true) (bl:b0<2+e+a * b) (w6:w<64) (nz:Uh (V b0) (4 * w)≠0) (fr:Bool)
  (h4:h.get p4=some (.row 1 [[.ptr (n+13) 0]] false)) (h11:h.get p11=some (.row 1 [[.fn 110 [] [some (p4,0),some (p11,0)]]] false)) (hp:h.get p=some (.row 1 (rwI L) false)) (hw:L[o]? = some w) (b4:q+9≤p4∧p4<h.next) (b11:q+9≤p11∧p11<h.next) (bp:q+9≤p∧p<h.next) (k8:k≤8) {Q:Go.Ev.H→Prop} {r1:Nat} {r2:Bool}
  (rec:∀ h1,HE n q a b c e cr md S T V h1→Kr n q h h1→∃ h2,Ze K Tryz.prog 110 [.c (.int .i64 (Uh (V b0) (4 * w):Nat)),.c (.slice p (o+1) k 1),.c (.bool false),.c (.ptr p4 0),.c (.ptr p11 0)] h1 (.tup [.c (.int .i64 (r1:Int)),.c (.bool r2),.c (.int .i64 0)]) h2∧h1.next≤h2.next∧Q h2) :
  ∃ h',Ze K Tryz.prog 110 [.c (.int .i64 (b0:Int)),.c (.slice p o (k+1) 1),.c (.bool fr),.c (.ptr p4 0),.c (.ptr p11 0)] h (.tup [.c (.int .i64 (r1:Int)),.c (.bool r2),.c (.int .i64 0)]) h'∧Q h':=by
 obtain⟨nq,nx,n0⟩:=M.nx
 obtain⟨hG,eG,MG,nG,rG⟩:=M.get f ob bl
 have c3:=D7 Hh eG
 have vl:=M.len ob bl
 have Yl:(pgL (V b0)).length=256:=by rw[Ug,vl]
 have cP:=fun {h:Go.Ev.H} {p:Nat} (hp:h.get p=some (.row 256 [pgL (V b0)] false))=>Z0m Hh vl hp w6
 have rd:=rdI hw
 have lf:=Wj p o (k+1)
 have sf:=Zux p o (k+1) 1
 obtain⟨z,hz⟩:∃ z,Uh (V b0) (4 * w)=z:=⟨_,rfl⟩
 obtain⟨Y,hY⟩:∃ Y,pgL (V b0)=Y:=⟨_,rfl⟩
 rw[hY] at c3 Yl
 simp only[hz,hY] at cP rec
 rw[hz] at nz
 have ez:((z:Int) == 0)=false:=Dx (by omega)
 have kz:(((k+1:Nat):Int) == 0)=false:=Dx (by omega)
 obtain⟨R,hR⟩:∃ R,rwI L=R:=⟨_,rfl⟩
 rw[hR] at hp rd
 obtain⟨v,h',cc,rfl,hQ⟩:∃ v h',Ze K Tryz.prog 110 [.c (.int .i64 (b0:Int)),.c (.slice p o (k+1) 1),.c (.bool fr),.c (.ptr p4 0),.c (.ptr p11 0)] h v h'∧v=.tup [.c (.int .i64 (r1:Int)),.c (.bool r2),.c (.int .i64 0)]∧Q h':=by
  refine Ze.Yi fits Hh (by kernel_rfl) (by kernel_rfl) (by kernel_rfl) (show Tryz.f110.body=some _ from rfl) rfl ?_
  iterate 8 (first|apply Goes.seq|apply Goes.skip|((first|apply Goes.Zm|apply Goes.ops2 fits Hh Zc); · simp (maxSteps:=9^6) +decide (disch:=first|omega|(simp only[lens]<;>omega)|decide) only [go_sem,Za,simprocAttr,lf,sf,kz,h4,Y7,rd,Yl,ez,Nat.add_zero,Nat.mul_one,Fw,List.map_cons,List.map_nil,List.cons_append,List.nil_append,Nat.add_sub_cancel,Zh,Ye,Y0,Uc,bound,Ui]<;>rfl))
  iterate 7 (first|apply Goes.seq|apply Goes.skip|((first|apply Goes.Zm|apply Goes.ops2 fits Hh (Zt Zc c3)); · simp (maxSteps:=9^6) +decide (disch:=first|omega|(simp only[lens]<;>omega)|decide) only [go_sem,Za,simprocAttr,Zy,lf,sf,kz,h4,Y7,rd,Yl,ez,Nat.add_zero,Nat.mul_one,Fw,List.map_cons,List.map_nil,List.cons_append,List.nil_append,Nat.add_sub_cancel,Zh,Ye,Y0,Uc,bound,Ui]<;>rfl))
  refine Goes.abs fun hA eA=>?_
  have nA:hA.next=h.next+1:=by rw[eA]; simp only[H.Zj,H.Zg,nG]
  have kA:∀ m,m<h.next→m≠n+6→hA.get m=h.get m:=fun m hm hne=>by rw[eA]; refine Eq.trans ?_ (rG m hm hne); simp (disch:=first|omega|(simp only[lens]<;>omega)) only [go_sem]
  have bA:hA.get h.next=some (.row 256 [Y] false):=by rw[eA,←nG]; simp (maxSteps:=9^6) +decide (disch:=first|omega|(simp only[lens]<;>omega)|decide) only [go_sem,Za,simprocAttr,Yl]<;>rfl
  have MA:=MG.keep (h2:=hA) (by omega) (fun m hm=>by rw[eA]; simp (disch:=first|omega|(simp only[lens]<;>omega)) only [go_sem])
  clear eA
  have a4:=(kA p4 (by omega) (by omega)).trans h4
  have a11:=(kA p11 (by omega) (by omega)).trans h11
  have ap:=(kA p (by omega) (by omega)).trans hp
  have c6:=cP bA
  rw[←nG] at c6
  obtain⟨hB,c19,nB,hQ⟩:=rec hA MA ⟨by omega,kA⟩
  iterate 9 (first|apply Goes.seq|apply Goes.skip|((first|apply Goes.Zm|apply Goes.ops2 fits Hh (Zt Zc c6)); · simp (maxSteps:=9^6) +decide (disch:=first|omega|(simp only[lens]<;>omega)|decide) only [go_sem,Za,simprocAttr,Zy,lf,sf,kz,h4,Y7,rd,Yl,ez,Nat.add_zero,Nat.mul_one,Fw,List.map_cons,List.map_nil,List.cons_append,List.nil_append,Nat.add_sub_cancel,a11,ap,Zh,Ye,Y0,Uc,bound,Ui]<;>rfl))
  iterate 2 (first|apply Goes.ret|(apply Goes.drawn2 fits Hh (Zt Zc c19) (by kernel_rfl); · simp (maxSteps:=9^6) +decide (disch:=first|omega|(simp only[lens]<;>omega)|decide) only [go_sem,Za,simprocAttr,drG,Zy,lf,sf,kz,h4,Y7,rd,Yl,ez,Nat.add_zero,Nat.mul_one,Fw,List.map_cons,List.map_nil,List.cons_append,List.nil_append,Nat.add_sub_cancel,a11,ap,Zh,Ye,Y0,Uc,bound,Ui]<;>rfl))
  exact⟨_,_,(by simp (maxSteps:=9^6) +decide (disch:=first|omega|(simp only[lens]<;>omega)|decide) only [go_sem,Zb,Za,simprocAttr]<;>rfl),rfl,hQ⟩
 exact⟨h',cc,hQ⟩
theorem Zo6 (f:Y4 a b c e=true) (A:Alc n q a b c e cr md S Al blk cap mt nk) (M:HE n q a b c e cr md S T V h) (al:Al V m) (mc:m<cap) (hT:∀ z,mt z→z ∉ T) (bT:blk m ∉ T) {b0 w:Nat} (ob:O6 a b c e (b0:Nat)=true) (bl:b0<2+e+a * b) (bk:nk b0) (bm:¬ mt b0) (bS:b0∈S∧b0 ∉ T) (bn:b0≠blk m) (w6:w<64) (nz:Uh (V b0) (4 * w)=0) (fr:Bool)
  (h4:h.get p4=some (.row 1 [[.ptr (n+13) 0]] false)) (h11:h.get p11=some (.row 1 [[.fn 110 [] [some (p4,0),some (p11,0)]]] false)) (hp:h.get p=some (.row 1 (rwI L) false)) (hw:L[o]? = some w) (b4:q+9≤p4∧p4<h.next) (b11:q+9≤p11∧p11<h.next) (bp:q+9≤p∧p<h.next) (k8:k≤8) (b32:blk m<4096) {Q:Go.Ev.H→Prop} {r1:Nat} {r2:Bool}
  (rec:∀ h1 V',HE n q a b c e cr md S T (Gn V' b0 (Ub (V b0) (4 * w) (blk m))) h1→Al (Gn V' b0 (Ub (V b0) (4 * w) (blk m))) (m+1)→(∀ z,¬ mt z→z≠blk m→V' z=V z)→(0<k→V' (blk m)=zer0)→Kp n q h h1→∃ h2,Ze K Tryz.prog 110 [.c (.int .i64 (blk m:Nat)),.c (.slice p (o+1) k 1),.c (.bool true),.c (.ptr p4 0),.c (.ptr p11 0)] h1 (.tup [.c (.int .i64 (r1:Int)),.c (.bool r2),.c (.int .i64 0)]) h2∧h1.next≤h2.next∧Q h2) :
  ∃ h',Ze K Tryz.prog 110 [.c (.int .i64 (b0:Int)),.c (.slice p o (k+1) 1),.c (.bool fr),.c (.ptr p4 0),.c (.ptr p11 0)] h (.tup [.c (.int .i64 (r1:Int)),.c (.bool r2),.c (.int .i64 0)]) h'∧Q h':=by
 obtain⟨nq,nx,n0⟩:=M.nx
 obtain⟨hG,eG,MG,nG,rG⟩:=M.get f ob bl
 have c3:=D7 Hh eG
 have vl:=M.len ob bl
 have Yl:(pgL (V b0)).length=256:=by rw[Ug,vl]
 have cP:=fun {h:Go.Ev.H} {p:Nat} (hp:h.get p=some (.row 256 [pgL (V b0)] false))=>Z0m Hh vl hp w6
 have hTk:=fun {h:Go.Ev.H} (M:HE n q a b c e cr md S T V h)=>Zpu Hh f A M al mc bk hT bT (lv:=k) k8
 have pl:(Ub (V b0) (4 * w) (blk m)).length=256:=by rw[Q9]; exact vl
 have xb:=Za5 (V b0)
 have u4:pgL (Ub (unN (pgL (V b0))) (4 * w) (blk m))=pgL (Ub (V b0) (4 * w) (blk m)):=by rw[Oz,Tu]
 have rl:(pgL (Ub (V b0) (4 * w) (blk m))).length=256:=by rw[Ug,pl]
 have r5:read1 256 [pgL (V b0)] 255=some (.int .u8 ((atN (V b0) 255:Nat):Int)):=Zhz ⟨by omega,by omega⟩
 have rc:reaches 0 256 (some (.row 256 [pgL (V b0)] false))=true:=by
  show (match read1 256 [pgL (V b0)] 255 with|some _=>Nat.ble 1 256|none=>false)=true
  rw[r5]
  rfl
 have rd:=rdI hw
 have lf:=Wj p o (k+1)
 have sf:=Zux p o (k+1) 1
 have e1:(4:Int) * (w:Int)=((4 * w:Nat):Int):=rfl
 have kz:(((k+1:Nat):Int) == 0)=false:=Dx (by omega)
 have k1:((k+1:Nat):Int) - 1=(k:Int):=by omega
 have ez:(((0:Nat):Int) == 0)=true:=rfl
 obtain⟨X,hX⟩:∃ X,Ub (V b0) (4 * w) (blk m)=X:=⟨_,rfl⟩
 obtain⟨u,hu⟩:∃ u,4 * w=u:=⟨_,rfl⟩
 have ul:u+4≤256:=by omega
 obtain⟨Y,hY⟩:∃ Y,pgL (V b0)=Y:=⟨_,rfl⟩
 obtain⟨G,hG'⟩:∃ G,blk m=G:=⟨_,rfl⟩
 rw[hX] at pl u4 rl
 rw[hu] at u4 e1
 rw[hY] at c3 Yl xb u4 rc
 simp only[nz,hY] at cP
 simp only[hX] at rec
 rw[hG'] at u4 b32 bn
 simp only[hG'] at rec hTk
 obtain⟨Z,hZ⟩:∃ Z,pgL X=Z:=⟨_,rfl⟩
 rw[hZ] at u4 rl
 obtain⟨R,hR⟩:∃ R,rwI L=R:=⟨_,rfl⟩
 rw[hR] at hp rd
 obtain⟨v,h',cc,rfl,hQ⟩:∃ v h',Ze K Tryz.prog 110 [.c (.int .i64 (b0:Int)),.c (.slice p o (k+1) 1),.c (.bool fr),.c (.ptr p4 0),.c (.ptr p11 0)] h v h'∧v=.tup [.c (.int .i64 (r1:Int)),.c (.bool r2),.c (.int .i64 0)]∧Q h':=by
  refine Ze.Yi fits Hh (by kernel_rfl) (by kernel_rfl) (by kernel_rfl) (show Tryz.f110.body=some _ from rfl) rfl ?_
  iterate 8 (first|apply Goes.seq|apply Goes.skip|((first|apply Goes.Zm|apply Goes.ops2 fits Hh Zc); · simp (maxSteps:=9^6) +decide (disch:=first|omega|(simp only[lens]<;>omega)|decide) only [go_sem,Za,simprocAttr,lf,sf,kz,k1,h4,Y7,rd,Yl,ez,e1,Nat.zero_add,Nat.add_zero,Nat.mul_one,Fw,List.map_cons,List.map_nil,List.cons_append,List.nil_append,Nat.add_sub_cancel,Zh,Ye,Y0,Uc,bound,Ui]<;>rfl))
  iterate 7 (first|apply Goes.seq|apply Goes.skip|((first|apply Goes.Zm|apply Goes.ops2 fits Hh (Zt Zc c3)); · simp (maxSteps:=9^6) +decide (disch:=first|omega|(simp only[lens]<;>omega)|decide) only [go_sem,Za,simprocAttr,Zy,lf,sf,kz,k1,h4,Y7,rd,Yl,ez,e1,Nat.zero_add,Nat.add_zero,Nat.mul_one,Fw,List.map_cons,List.map_nil,List.cons_append,List.nil_append,Nat.add_sub_cancel,Zh,Ye,Y0,Uc,bound,Ui]<;>rfl))
  refine Goes.abs fun hA eA=>?_
  have nA:hA.next=h.next+1:=by rw[eA]; simp only[H.Zj,H.Zg,nG]
  have kA:∀ m,m<h.next→m≠n+6→hA.get m=h.get m:=fun m hm hne=>by rw[eA]; refine Eq.trans ?_ (rG m hm hne); simp (disch:=first|omega|(simp only[lens]<;>omega)) only [go_sem]
  have bA:hA.get h.next=some (.row 256 [Y] false):=by rw[eA,←nG]; simp (maxSteps:=9^6) +decide (disch:=first|omega|(simp only[lens]<;>omega)|decide) only [go_sem,Za,simprocAttr,Yl]<;>rfl
  have MA:=MG.keep (h2:=hA) (by omega) (fun m hm=>by rw[eA]; simp (disch:=first|omega|(simp only[lens]<;>omega)) only [go_sem])
  clear eA
  have a4:=(kA p4 (by omega) (by omega)).trans h4
  have a11:=(kA p11 (by omega) (by omega)).trans h11
  have ap:=(kA p (by omega) (by omega)).trans hp
  have c6:=cP bA
  rw[←nG] at c6
  obtain⟨hB,V',c9,MB,kB,alB,vB,zB⟩:=hTk MA
  have nB:=kB.1
  have bb4:=(kB.2 p4 (by omega) ⟨⟨by omega,by omega,by omega,by omega,by omega⟩,by omega⟩).trans a4
  have bb11:=(kB.2 p11 (by omega) ⟨⟨by omega,by omega,by omega,by omega,by omega⟩,by omega⟩).trans a11
  have bbp:=(kB.2 p (by omega) ⟨⟨by omega,by omega,by omega,by omega,by omega⟩,by omega⟩).trans ap
  have bbA:=(kB.2 h.next (by omega) ⟨⟨by omega,by omega,by omega,by omega,by omega⟩,by omega⟩).trans bA
  obtain⟨hC,eC,MC,nC,rC⟩:=MB.get f ob bl
  rw[vB b0 bm bn,hY] at eC
  have c12:=D7 Hh eC
  have cc4:=(rC p4 (by omega) (by omega)).trans bb4
  have cc11:=(rC p11 (by omega) (by omega)).trans bb11
  have ccp:=(rC p (by omega) (by omega)).trans bbp
  have ccA:=(rC h.next (by omega) (by omega)).trans bbA
  iterate 9 (first|apply Goes.seq|((first|apply Goes.Zm|apply Goes.ops2 fits Hh (Zt Zc c6)); · simp (maxSteps:=9^6) +decide (disch:=first|omega|(simp only[lens]<;>omega)|decide) only [go_sem,Za,simprocAttr,Zy,lf,sf,kz,k1,h4,Y7,rd,Yl,ez,e1,Nat.zero_add,Nat.add_zero,Nat.mul_one,Fw,List.map_cons,List.map_nil,List.cons_append,List.nil_append,Nat.add_sub_cancel,a4,a11,ap,bb4,cc4,cc11,ccp,ccA,nG,Zh,Ye,Y0,Uc,bound,Ui]<;>rfl))
  iterate 7 (first|apply Goes.seq|apply Goes.skip|((first|apply Goes.Zm|apply Goes.ops2 fits Hh (Zt Zc c9)); · simp (maxSteps:=9^6) +decide (disch:=first|omega|(simp only[lens]<;>omega)|decide) only [go_sem,Za,simprocAttr,Zy,lf,sf,kz,k1,h4,Y7,rd,Yl,ez,e1,Nat.zero_add,Nat.add_zero,Nat.mul_one,Fw,List.map_cons,List.map_nil,List.cons_append,List.nil_append,Nat.add_sub_cancel,a4,a11,ap,bb4,cc4,cc11,ccp,ccA,nG,Zh,Ye,Y0,Uc,bound,Ui]<;>rfl))
  iterate 6 (first|apply Goes.seq|apply Goes.skip|((first|apply Goes.Zm|apply Goes.ops2 fits Hh (Zt Zc c12)); · simp (maxSteps:=9^6) +decide (disch:=first|omega|(simp only[lens]<;>omega)|decide) only [go_sem,Za,simprocAttr,Zy,lf,sf,kz,k1,h4,Y7,rd,Yl,ez,e1,Nat.zero_add,Nat.add_zero,Nat.mul_one,Fw,List.map_cons,List.map_nil,List.cons_append,List.nil_append,Nat.add_sub_cancel,a4,a11,ap,bb4,cc4,cc11,ccp,ccA,nG,Zh,Ye,Y0,Uc,bound,Ui]<;>rfl))
  refine Goes.abs fun hD eD=>?_
  have nD:hD.next=hC.next:=by rw[eD,H.Zj]
  have kD:∀ m,m≠h.next→hD.get m=hC.get m:=fun m hm=>by rw[eD,Zp (by omega)]
  have dA:hD.get h.next=some (.row 256 [Y] false):=by rw[eD]; simp (maxSteps:=9^6) +decide (disch:=first|omega|(simp only[lens]<;>omega)|decide) only [go_sem,Za,simprocAttr,ccA,Yl,nG]<;>rfl
  clear eD
  have d4:=(kD p4 (by omega)).trans cc4
  have d11:=(kD p11 (by omega)).trans cc11
  have dp:=(kD p (by omega)).trans ccp
  iterate 2 (first|apply Goes.seq|(apply Goes.drawn2 fits Hh (Zf Zc (fun _ _ _ _=>Zhd Hh)) (by kernel_rfl); · simp (maxSteps:=9^6) +decide (disch:=first|omega|(simp only[lens]<;>omega)|decide) only [go_sem,Za,simprocAttr,drG,lf,sf,kz,k1,h4,Y7,rd,Yl,ez,e1,Nat.zero_add,Nat.add_zero,Nat.mul_one,Fw,List.map_cons,List.map_nil,List.cons_append,List.nil_append,Nat.add_sub_cancel,a4,a11,ap,bb4,cc4,cc11,ccp,ccA,nG,dA,d4,d11,dp,xb,u4,rc,Zh,Ye,Y0,Uc,bound,Ui]<;>rfl))
  refine Goes.abs fun hE eE=>?_
  have nE:hE.next=hC.next:=by rw[eE,H.Zj,nD]
  have kE:∀ m,m≠h.next→hE.get m=hC.get m:=fun m hm=>by rw[eE,Zp (by omega)]; exact kD m hm
  have xA:hE.get h.next=some (.row 256 [Z] false):=by rw[eE]; simp (maxSteps:=9^6) +decide (disch:=first|omega|(simp only[lens]<;>omega)|decide) only [go_sem,Za,simprocAttr,nG]<;>rfl
  clear eE
  have x4:=(kE p4 (by omega)).trans cc4
  have x11:=(kE p11 (by omega)).trans cc11
  have xp:=(kE p (by omega)).trans ccp
  have ME:=MC.keep (h2:=hE) (by omega) (fun m hm=>kE m (by omega))
  obtain⟨hF,eF,MF,nF,kF⟩:=ME.put f ob bl pl bS.1 bS.2
  rw[hZ] at eF
  have c16:=Zaw Hh eF
  have y4:=(kF p4 ⟨by omega,by omega,by omega,by omega,by omega⟩).trans x4
  have y11:=(kF p11 ⟨by omega,by omega,by omega,by omega,by omega⟩).trans x11
  have yp:=(kF p ⟨by omega,by omega,by omega,by omega,by omega⟩).trans xp
  obtain⟨hH,c19,nH,hQ⟩:=rec hF V' MF (A.upd alB bm) vB zB ⟨by omega,fun m hm ho=>(kF m ho.1).trans ((kE m (by omega)).trans ((rC m (by omega) ho.1.1).trans ((kB.2 m (by omega) ho).trans (kA m hm ho.1.1))))⟩
  iterate 6 (first|apply Goes.seq|apply Goes.skip|((first|apply Goes.Zm|apply Goes.ops2 fits Hh (Zt Zc c16)); · simp (maxSteps:=9^6) +decide (disch:=first|omega|(simp only[lens]<;>omega)|decide) only [go_sem,Za,simprocAttr,Zy,lf,sf,kz,k1,h4,Y7,rd,Yl,ez,e1,Nat.zero_add,Nat.add_zero,Nat.mul_one,Fw,List.map_cons,List.map_nil,List.cons_append,List.nil_append,Nat.add_sub_cancel,a4,a11,ap,bb4,cc4,cc11,ccp,ccA,nG,dA,d4,d11,dp,xb,u4,rc,xA,x4,y11,yp,rl,Zh,Ye,Y0,Uc,bound,Ui]<;>rfl))
  iterate 2 (first|apply Goes.ret|(apply Goes.drawn2 fits Hh (Zt Zc c19) (by kernel_rfl); · simp (maxSteps:=9^6) +decide (disch:=first|omega|(simp only[lens]<;>omega)|decide) only [go_sem,Za,simprocAttr,drG,Zy,lf,sf,kz,k1,h4,Y7,rd,Yl,ez,e1,Nat.zero_add,Nat.add_zero,Nat.mul_one,Fw,List.map_cons,List.map_nil,List.cons_append,List.nil_append,Nat.add_sub_cancel,a4,a11,ap,bb4,cc4,cc11,ccp,ccA,nG,dA,d4,d11,dp,xb,u4,rc,xA,x4,y11,yp,rl,Zh,Ye,Y0,Uc,bound,Ui]<;>rfl))
  exact⟨_,_,(by simp (maxSteps:=9^6) +decide (disch:=first|omega|(simp only[lens]<;>omega)|decide) only [go_sem,Zb,Za,simprocAttr]<;>rfl),rfl,hQ⟩
 exact⟨h',cc,hQ⟩
end
theorem rs77:Tryz.f77.results.toList=[.tmp 8,.tmp 9,.tmp 10]:=rfl
theorem rs35:Tryz.f35.results.toList=[.cell 8 37,.tmp 9,.tmp 10,.tmp 11]:=rfl
attribute [go_sem] rs77 rs35
section
variable (Hh:Hearts K Tryz.prog)
include Hh
variable {n q a b c e:Nat} {cr:Cr} {md:Int} {S T:List Nat} {V:Nat→List Nat} {h:Go.Ev.H} {Al:(Nat→List Nat)→Nat→Prop} {blk:Nat→Nat} {cap:Nat} {mt nk:Nat→Prop} {m:Nat}
theorem Zak (M:HE n q a b c e cr md S T V h) {b0:Nat} {s:C} {fr:Bool} {r1:Nat} {r2:Bool} {R:(Nat→List Nat)→Prop}
  (rec:∀ h1 p4 p11,HE n q a b c e cr md S T V h1→h.next≤h1.next→(∀ m,m<h.next→h1.get m=h.get m)→h1.get p4=some (.row 1 [[.ptr (n+13) 0]] false)→h1.get p11=some (.row 1 [[.fn 110 [] [some (p4,0),some (p11,0)]]] false)→q+9≤p4∧p4<h1.next→q+9≤p11∧p11<h1.next→∃ h2,Ze K Tryz.prog 110 [.c (.int .i64 (b0:Int)),.c s,.c (.bool fr),.c (.ptr p4 0),.c (.ptr p11 0)] h1 (.tup [.c (.int .i64 (r1:Int)),.c (.bool r2),.c (.int .i64 0)]) h2∧Kp n q h1 h2∧∃ V',HE n q a b c e cr md S T V' h2∧R V') :
  ∃ h',Ze K Tryz.prog 77 [.c (.ptr (n+13) 0),.c (.int .i64 (b0:Int)),.c s,.c (.bool fr)] h (.tup [.c (.int .i64 (r1:Int)),.c (.bool r2),.c (.int .i64 0)]) h'∧Kp n q h h'∧∃ V',HE n q a b c e cr md S T V' h'∧R V':=by
 obtain⟨nq,nx,n0⟩:=M.nx
 obtain⟨v,h',cc,rfl,hk,hR⟩:∃ v h',Ze K Tryz.prog 77 [.c (.ptr (n+13) 0),.c (.int .i64 (b0:Int)),.c s,.c (.bool fr)] h v h'∧v=.tup [.c (.int .i64 (r1:Int)),.c (.bool r2),.c (.int .i64 0)]∧Kp n q h h'∧∃ V',HE n q a b c e cr md S T V' h'∧R V':=by
  refine Ze.Yi fits Hh (by kernel_rfl) (by kernel_rfl) (by kernel_rfl) (show Tryz.f77.body=some _ from rfl) rfl ?_
  iterate 7 (first|apply Goes.seq|(apply Goes.ops2 fits Hh Zc; · simp (maxSteps:=9^6) +decide (disch:=first|omega|(simp only[lens]<;>omega)|decide) only [go_sem,Zb,Za,simprocAttr,Y7,Fw,List.map_cons,List.map_nil,List.cons_append,List.nil_append,Zx,Z4]<;>rfl))
  refine Goes.abs fun hA eA=>?_
  have nA:hA.next=h.next+1+1:=by rw[eA]; simp only[H.Zj,H.Zg]
  have kA:∀ m,m<h.next→hA.get m=h.get m:=fun m hm=>by rw[eA]; simp (disch:=first|omega|(simp only[lens]<;>omega)) only [go_sem]
  have a4:hA.get h.next=some (.row 1 [[.ptr (n+13) 0]] false):=by rw[eA]; simp (maxSteps:=9^6) +decide (disch:=first|omega|(simp only[lens]<;>omega)|decide) only [go_sem,Zb,Za,simprocAttr]<;>rfl
  have a11:hA.get (h.next+1)=some (.row 1 [[.fn 110 [] [some (h.next,0),some (h.next+1,0)]]] false):=by rw[eA]; simp (maxSteps:=9^6) +decide (disch:=first|omega|(simp only[lens]<;>omega)|decide) only [go_sem,Zb,Za,simprocAttr]<;>rfl
  clear eA
  have MA:=M.keep (h2:=hA) (by omega) (fun m hm=>kA m (by omega))
  obtain⟨hB,c3,kB,hR⟩:=rec hA h.next (h.next+1) MA (by omega) kA a4 a11 ⟨by omega,by omega⟩ ⟨by omega,by omega⟩
  iterate 2 (first|apply Goes.ret|(apply Goes.ops2 fits Hh (Zt Zc c3); · simp (maxSteps:=9^6) +decide (disch:=first|omega|(simp only[lens]<;>omega)|decide) only [go_sem,Zb,Za,simprocAttr,Zy,Y7,Fw,List.map_cons,List.map_nil,List.cons_append,List.nil_append,a11,Zx,Z4]<;>rfl))
  exact⟨_,_,(by simp (maxSteps:=9^6) +decide (disch:=first|omega|(simp only[lens]<;>omega)|decide) only [go_sem,Zb,Za,simprocAttr]<;>rfl),rfl,⟨by have:=kB.1; omega,fun m hm ho=>(kB.2 m (by omega) ho).trans (kA m hm)⟩,hR⟩
 exact⟨h',cc,hk,hR⟩
theorem Zvb (f:Y4 a b c e=true) (m0:md≠0) (M:HE n q a b c e cr md S T V h) {x:List C} {P:Nat→Nat} (X:InoP x P) {i:Nat} (hi:i<36) (near:Int) (nz:P (Yq i).1≠0) {r1:Nat} {r2:Bool} {R:(Nat→List Nat)→Prop}
  (dn:∀ h1 s,HE n q a b c e cr md S T V h1→SlI h1 s (Yq i).2→(∀ p o n z,s=.slice p o n z→q+9≤p∧p<h1.next)→∃ h2,Ze K Tryz.prog 77 [.c (.ptr (n+13) 0),.c (.int .i64 (P (Yq i).1:Nat)),.c s,.c (.bool false)] h1 (.tup [.c (.int .i64 (r1:Int)),.c (.bool r2),.c (.int .i64 0)]) h2∧Kp n q h1 h2∧∃ V',HE n q a b c e cr md S T V' h2∧R V') :
  ∃ h',Ze K Tryz.prog 35 [.c (.ptr (n+13) 0),.g x,.c (.int .i64 (i:Int)),.c (.int .i64 near)] h (.tup [.g x,.c (.int .i64 (r1:Int)),.c (.bool r2),.c (.int .i64 0)]) h'∧Kp n q h h'∧∃ V',HE n q a b c e cr md S T V' h'∧R V':=by
 obtain⟨nq,nx,n0⟩:=M.nx
 obtain⟨st,⟨kn,hs⟩,⟨dk,gl⟩,ht⟩:=M.cells
 unfold gdL gdD at gl
 have dm:(md != 0)=true:=Xx m0
 obtain⟨p11,w6⟩:=Zng hi
 have xl:=X.xl
 have rx:=X.rd p11
 have pb:=X.pb _ p11
 have hO:=fun {h:Go.Ev.H} (h0:0<h.next)=>Z0h Hh hi (h:=h) h0
 obtain⟨ws,hws⟩:∃ ws,(Yq i).2=ws:=⟨_,rfl⟩
 obtain⟨pk,hpk⟩:∃ pk,(Yq i).1=pk:=⟨_,rfl⟩
 simp only[hws,hpk] at hO dn p11 rx pb nz
 obtain⟨b0,hb0⟩:∃ b0,P pk=b0:=⟨_,rfl⟩
 simp only[hb0] at rx pb nz dn
 have ez:((b0:Int) == 0)=false:=Dx (by omega)
 obtain⟨v,h',cc,rfl,hk,hR⟩:∃ v h',Ze K Tryz.prog 35 [.c (.ptr (n+13) 0),.g x,.c (.int .i64 (i:Int)),.c (.int .i64 near)] h v h'∧v=.tup [.g x,.c (.int .i64 (r1:Int)),.c (.bool r2),.c (.int .i64 0)]∧Kp n q h h'∧∃ V',HE n q a b c e cr md S T V' h'∧R V':=by
  refine Ze.Yi fits Hh (by kernel_rfl) (by kernel_rfl) (by kernel_rfl) (show Tryz.f35.body=some _ from rfl) rfl ?_
  iterate 8 (first|apply Goes.seq|apply Goes.skip|((first|apply Goes.Zm|apply Goes.ops2 fits Hh (Zf Zc (fun _ _ _ _=>Xc Hh))); · simp (maxSteps:=9^6) +decide (disch:=first|omega|(simp only[lens]<;>omega)|decide) only [go_sem,Za,simprocAttr,f,hs,stG,gl,ht,txC,dm,xl,rx,pb,p11,ez,Zx]<;>rfl))
  refine Goes.abs fun hA eA=>?_
  have nA:hA.next=h.next+2:=by rw[eA]; simp only[H.Zj,H.Zg]
  have kA:∀ m,m<h.next→hA.get m=h.get m:=fun m hm=>by rw[eA]; simp (disch:=first|omega|(simp only[lens]<;>omega)) only [go_sem]
  have b5:hA.get h.next=some (.row 16 [x] false):=by rw[eA]; simp (maxSteps:=9^6) +decide (disch:=first|omega|(simp only[lens]<;>omega)|decide) only [go_sem,Za,simprocAttr,xl]<;>rfl
  obtain⟨y,yl,b8⟩:∃ y:List C,y.length=16∧hA.get (h.next+1)=some (.row 16 [y] false):=⟨_,rfl,by rw[eA]; simp (maxSteps:=9^6) +decide (disch:=first|omega|(simp only[lens]<;>omega)|decide) only [go_sem,Za,simprocAttr]<;>rfl⟩
  clear eA
  obtain⟨hB,s,c3,nB,kB,sB,lB⟩:=hO (h:=hA) (by omega)
  have B5:=(kB h.next (by omega)).trans b5
  have B8:=(kB (h.next+1) (by omega)).trans b8
  have MB:=M.keep (h2:=hB) (by omega) (fun m hm=>(kB m (by omega)).trans (kA m (by omega)))
  obtain⟨_,⟨knB,hsB⟩,⟨dkB,glB⟩,htB⟩:=MB.cells
  unfold gdL gdD at glB
  iterate 8 (first|apply Goes.seq|apply Goes.skip|((first|apply Goes.Zm|apply Goes.ops2 fits Hh (Zt Zc c3)); · simp (maxSteps:=9^6) +decide (disch:=first|omega|(simp only[lens]<;>omega)|decide) only [go_sem,Za,simprocAttr,Zy,f,hs,stG,gl,ht,txC,dm,xl,rx,pb,p11,ez,B5,B8,yl,hsB,glB,htB,Zx]<;>rfl))
  iterate 16 (first|apply Goes.seq|apply Goes.skip|((first|apply Goes.Zm|apply Goes.ops2 fits Hh (Zf Zc (fun _ _ _ _=>Zgs Hh))); · simp (maxSteps:=9^6) +decide (disch:=first|omega|(simp only[lens]<;>omega)|decide) only [go_sem,Za,simprocAttr,f,hs,stG,gl,ht,txC,dm,xl,rx,pb,p11,ez,B5,B8,yl,hsB,glB,htB,Zx]<;>rfl))
  refine Goes.abs fun hC eC=>?_
  have nC:hC.next=hB.next:=by rw[eC]; simp only[H.Zj]
  have kC:∀ m,m<hB.next→m≠h.next+1→hC.get m=hB.get m:=fun m hm hne=>by rw[eC]; simp (disch:=first|omega|(simp only[lens]<;>omega)) only [go_sem]
  have C8:hC.get (h.next+1)=some (.row 16 [x] false):=by rw[eC]; simp (maxSteps:=9^6) +decide (disch:=first|omega|(simp only[lens]<;>omega)|decide) only [go_sem,Za,simprocAttr,B8,yl,xl]<;>rfl
  clear eC
  have MC:=MB.keep (h2:=hC) (by omega) (fun m hm=>kC m (by omega) (by omega))
  obtain⟨hD,c17,kD,V',MD,rv⟩:=dn hC s MC (sB.keep fun p o n z e=>kC p (lB p o n z e).2 (by have:=(lB p o n z e).1; omega)) (fun p o n z e=>⟨by have:=(lB p o n z e).1; omega,by have:=(lB p o n z e).2; omega⟩)
  have nD:=kD.1
  have D8:=(kD.2 (h.next+1) (by omega) ⟨⟨by omega,by omega,by omega,by omega,by omega⟩,by omega⟩).trans C8
  iterate 8 (first|apply Goes.seq|apply Goes.skip|apply Goes.ret|((first|apply Goes.Zm|apply Goes.ops2 fits Hh (Zt Zc c17)); · simp (maxSteps:=9^6) +decide (disch:=first|omega|(simp only[lens]<;>omega)|decide) only [go_sem,Za,simprocAttr,Zy,f,hs,stG,gl,ht,txC,dm,xl,rx,pb,p11,ez,B5,B8,yl,hsB,glB,htB,D8,Zx]<;>rfl))
  refine⟨_,_,(by simp (maxSteps:=9^6) +decide (disch:=first|omega|(simp only[lens]<;>omega)|decide) only [go_sem,Za,simprocAttr,D8,xl]<;>rfl),rfl,⟨?_,fun m hm ho=>?_⟩,V',MD.keep ?_ (fun m hm=>?_),rv⟩
  ·first|omega|(simp only[H.Zj,H.Zg]<;>omega)
  ·refine Eq.trans ?_ ((kD.2 m (by omega) ho).trans ((kC m (by omega) (by omega)).trans ((kB m (by omega)).trans (kA m hm)))); simp (disch:=first|omega|(simp only[lens]<;>omega)) only [go_sem]
  ·first|omega|(simp only[H.Zj,H.Zg]<;>omega)
  ·simp (disch:=first|omega|(simp only[lens]<;>omega)) only [go_sem]
 exact⟨h',cc,hk,hR⟩
theorem Zz2 (f:Y4 a b c e=true) (m0:md≠0) (A:Alc n q a b c e cr md S Al blk cap mt nk) (M:HE n q a b c e cr md S T V h) (al:Al V m) (mc:m<cap) (hT:∀ z,mt z→z ∉ T) (bT:blk m ∉ T) (b32:blk m<4096) {x:List C} {P:Nat→Nat} (X:InoP x P) {i:Nat} (hi:i<36) {near:Nat} (nr:nk near) (nz:P (Yq i).1=0) {r1:Nat} {r2:Bool} {R:(Nat→List Nat)→Prop}
  (dn:∀ h1 s V1,HE n q a b c e cr md S T V1 h1→Al V1 (m+1)→(∀ z,¬ mt z→z≠blk m→V1 z=V z)→(0<(Yq i).2.length→V1 (blk m)=zer0)→SlI h1 s (Yq i).2→(∀ p o n z,s=.slice p o n z→q+9≤p∧p<h1.next)→∃ h2,Ze K Tryz.prog 77 [.c (.ptr (n+13) 0),.c (.int .i64 (blk m:Nat)),.c s,.c (.bool true)] h1 (.tup [.c (.int .i64 (r1:Int)),.c (.bool r2),.c (.int .i64 0)]) h2∧Kp n q h1 h2∧∃ V',HE n q a b c e cr md S T V' h2∧R V') :
  ∃ h',Ze K Tryz.prog 35 [.c (.ptr (n+13) 0),.g x,.c (.int .i64 (i:Int)),.c (.int .i64 (near:Int))] h (.tup [.g (x.set (4+(Yq i).1) (.int .u32 (blk m:Nat))),.c (.int .i64 (r1:Int)),.c (.bool r2),.c (.int .i64 0)]) h'∧Kp n q h h'∧∃ V',HE n q a b c e cr md S T V' h'∧R V':=by
 obtain⟨nq,nx,n0⟩:=M.nx
 obtain⟨st,⟨kn,hs⟩,⟨dk,gl⟩,ht⟩:=M.cells
 unfold gdL gdD at gl
 have dm:(md != 0)=true:=Xx m0
 obtain⟨p11,w6⟩:=Zng hi
 have xl:=X.xl
 have rx:=X.rd p11
 have wl:=Zpg i
 have hO:=fun {h:Go.Ev.H} (h0:0<h.next)=>Z0h Hh hi (h:=h) h0
 obtain⟨ws,hws⟩:∃ ws,(Yq i).2=ws:=⟨_,rfl⟩
 obtain⟨pk,hpk⟩:∃ pk,(Yq i).1=pk:=⟨_,rfl⟩
 simp only[hws,hpk] at hO dn p11 rx nz wl ⊢
 rw[nz] at rx
 have hTk:=fun {h:Go.Ev.H} (M:HE n q a b c e cr md S T V h)=>Zpu Hh f A M al mc nr hT bT (lv:=ws.length) wl
 obtain⟨G,hG'⟩:∃ G,blk m=G:=⟨_,rfl⟩
 simp only[hG'] at dn hTk ⊢
 rw[hG'] at b32
 have w8:Z4 16 [x] (4+pk) [.int .u32 (G:Int)]=some [x.set (4+pk) (.int .u32 (G:Int))]:=by
  have h1:(4+pk) / 16=0:=by omega
  have h2:(4+pk) % 16=4+pk:=by omega
  simp only[Z4,h1,h2,List.getElem?_cons_zero]
  rw[Ze5 (by omega),cond_true]
  rfl
 have wU:Yp .u32 (G:Int)=.int .u32 (G:Int):=Zfk (by omega)
 have x1l:(x.set (4+pk) (.int .u32 (G:Int))).length=16:=by rw[List.length_set]; exact xl
 obtain⟨x1,hx1⟩:∃ x1,x.set (4+pk) (.int .u32 (G:Int))=x1:=⟨_,rfl⟩
 rw[hx1] at w8 x1l ⊢
 have ez:(((0:Nat):Int) == 0)=true:=rfl
 obtain⟨v,h',cc,rfl,hk,hR⟩:∃ v h',Ze K Tryz.prog 35 [.c (.ptr (n+13) 0),.g x,.c (.int .i64 (i:Int)),.c (.int .i64 (near:Int))] h v h'∧v=.tup [.g x1,.c (.int .i64 (r1:Int)),.c (.bool r2),.c (.int .i64 0)]∧Kp n q h h'∧∃ V',HE n q a b c e cr md S T V' h'∧R V':=by
  refine Ze.Yi fits Hh (by kernel_rfl) (by kernel_rfl) (by kernel_rfl) (show Tryz.f35.body=some _ from rfl) rfl ?_
  iterate 8 (first|apply Goes.seq|apply Goes.skip|((first|apply Goes.Zm|apply Goes.ops2 fits Hh (Zf Zc (fun _ _ _ _=>Xc Hh))); · simp (maxSteps:=9^6) +decide (disch:=first|omega|(simp only[lens]<;>omega)|decide) only [go_sem,Za,simprocAttr,f,hs,stG,gl,ht,txC,dm,xl,rx,p11,ez,Zx,Zh]<;>rfl))
  refine Goes.abs fun hA eA=>?_
  have nA:hA.next=h.next+2:=by rw[eA]; simp only[H.Zj,H.Zg]
  have kA:∀ m,m<h.next→hA.get m=h.get m:=fun m hm=>by rw[eA]; simp (disch:=first|omega|(simp only[lens]<;>omega)) only [go_sem]
  have b5:hA.get h.next=some (.row 16 [x] false):=by rw[eA]; simp (maxSteps:=9^6) +decide (disch:=first|omega|(simp only[lens]<;>omega)|decide) only [go_sem,Za,simprocAttr,xl]<;>rfl
  obtain⟨y,yl,b8⟩:∃ y:List C,y.length=16∧hA.get (h.next+1)=some (.row 16 [y] false):=⟨_,rfl,by rw[eA]; simp (maxSteps:=9^6) +decide (disch:=first|omega|(simp only[lens]<;>omega)|decide) only [go_sem,Za,simprocAttr]<;>rfl⟩
  clear eA
  obtain⟨hB,s,c3,nB,kB,sB,lB⟩:=hO (h:=hA) (by omega)
  have B5:=(kB h.next (by omega)).trans b5
  have B8:=(kB (h.next+1) (by omega)).trans b8
  have MB:=M.keep (h2:=hB) (by omega) (fun m hm=>(kB m (by omega)).trans (kA m (by omega)))
  obtain⟨_,⟨knB,hsB⟩,⟨dkB,glB⟩,htB⟩:=MB.cells
  unfold gdL gdD at glB
  obtain⟨lf,ln⟩:=Z3o sB
  iterate 8 (first|apply Goes.seq|apply Goes.skip|((first|apply Goes.Zm|apply Goes.ops2 fits Hh (Zt Zc c3)); · simp (maxSteps:=9^6) +decide (disch:=first|omega|(simp only[lens]<;>omega)|decide) only [go_sem,Za,simprocAttr,Zy,f,hs,stG,gl,ht,txC,dm,xl,rx,p11,ez,B5,B8,yl,hsB,glB,htB,lf,ln,Zx,Zh]<;>rfl))
  iterate 15 (first|apply Goes.seq|apply Goes.skip|((first|apply Goes.Zm|apply Goes.ops2 fits Hh (Zf Zc (fun _ _ _ _=>Zgs Hh))); · simp (maxSteps:=9^6) +decide (disch:=first|omega|(simp only[lens]<;>omega)|decide) only [go_sem,Za,simprocAttr,f,hs,stG,gl,ht,txC,dm,xl,rx,p11,ez,B5,B8,yl,hsB,glB,htB,lf,ln,Zx,Zh]<;>rfl))
  refine Goes.abs fun hC eC=>?_
  have nC:hC.next=hB.next:=by rw[eC]; simp only[H.Zj]
  have kC:∀ m,m<hB.next→m≠h.next+1→hC.get m=hB.get m:=fun m hm hne=>by rw[eC]; simp (disch:=first|omega|(simp only[lens]<;>omega)) only [go_sem]
  have C8:hC.get (h.next+1)=some (.row 16 [x] false):=by rw[eC]; simp (maxSteps:=9^6) +decide (disch:=first|omega|(simp only[lens]<;>omega)|decide) only [go_sem,Za,simprocAttr,B8,yl,xl]<;>rfl
  clear eC
  have MC:=MB.keep (h2:=hC) (by omega) (fun m hm=>kC m (by omega) (by omega))
  obtain⟨hE,V1,c12,ME,kE,alE,vE,zE⟩:=hTk MC
  have nE:=kE.1
  have E8:=(kE.2 (h.next+1) (by omega) ⟨⟨by omega,by omega,by omega,by omega,by omega⟩,by omega⟩).trans C8
  iterate 10 (first|apply Goes.seq|apply Goes.skip|((first|apply Goes.Zm|apply Goes.ops2 fits Hh (Zt Zc c12)); · simp (maxSteps:=9^6) +decide (disch:=first|omega|(simp only[lens]<;>omega)|decide) only [go_sem,Za,simprocAttr,Zy,f,hs,stG,gl,ht,txC,dm,xl,rx,p11,ez,B5,B8,yl,hsB,glB,htB,lf,ln,E8,w8,wU,Zx,Zh]<;>rfl))
  refine Goes.abs fun hF eF=>?_
  have nF:hF.next=hE.next:=by rw[eF]; simp only[H.Zj]
  have kF:∀ m,m≠h.next+1→hF.get m=hE.get m:=fun m hne=>by rw[eF,Zp hne]
  have F8:hF.get (h.next+1)=some (.row 16 [x1] false):=by rw[eF,Z8]
  clear eF
  have MF:=ME.keep (h2:=hF) (by omega) (fun m hm=>kF m (by omega))
  obtain⟨hD,c17,kD,V',MD,rv⟩:=dn hF s V1 MF alE vE zE (sB.keep fun p o n' z e=>by
   have l1:=lB p o n' z e
   refine (kF p (by omega)).trans ((kE.2 p (by omega) ⟨⟨by omega,by omega,by omega,by omega,by omega⟩,by omega⟩).trans (kC p l1.2 (by omega)))) (fun p o n z e=>⟨by have:=(lB p o n z e).1; omega,by have:=(lB p o n z e).2; omega⟩)
  have nD:=kD.1
  have D8:=(kD.2 (h.next+1) (by omega) ⟨⟨by omega,by omega,by omega,by omega,by omega⟩,by omega⟩).trans F8
  iterate 8 (first|apply Goes.seq|apply Goes.skip|apply Goes.ret|((first|apply Goes.Zm|apply Goes.ops2 fits Hh (Zt Zc c17)); · simp (maxSteps:=9^6) +decide (disch:=first|omega|(simp only[lens]<;>omega)|decide) only [go_sem,Za,simprocAttr,Zy,f,hs,stG,gl,ht,txC,dm,xl,rx,p11,ez,B5,B8,yl,hsB,glB,htB,lf,ln,E8,w8,wU,D8,Zx,Zh]<;>rfl))
  refine⟨_,_,(by simp (maxSteps:=9^6) +decide (disch:=first|omega|(simp only[lens]<;>omega)|decide) only [go_sem,Za,simprocAttr,D8,x1l]<;>rfl),rfl,⟨?_,fun m hm ho=>?_⟩,V',MD.keep ?_ (fun m hm=>?_),rv⟩
  ·first|omega|(simp only[H.Zj,H.Zg]<;>omega)
  ·refine Eq.trans ?_ ((kD.2 m (by omega) ho).trans ((kF m (by omega)).trans ((kE.2 m (by omega) ho).trans ((kC m (by omega) (by omega)).trans ((kB m (by omega)).trans (kA m hm)))))); simp (disch:=first|omega|(simp only[lens]<;>omega)) only [go_sem]
  ·first|omega|(simp only[H.Zj,H.Zg]<;>omega)
  ·simp (disch:=first|omega|(simp only[lens]<;>omega)) only [go_sem]
 exact⟨h',cc,hk,hR⟩
end
end Go.Proofs.YtgikjeaipmeclaaGreatDoor
