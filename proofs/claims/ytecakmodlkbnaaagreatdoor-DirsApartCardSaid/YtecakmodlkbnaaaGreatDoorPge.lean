/- mapping.take, and the steps of mapping.down, over any store whose handle is open. -/
import Derived.Test.YtecakmodlkbnaaaGreatDoorMpg
import Derived.Test.YtecakmodlkbnaaaGreatDoorIbk
set_option linter.unusedSimpArgs false
set_option linter.unusedVariables false
set_option linter.unusedSectionVars false
set_option maxRecDepth 100000
set_option maxHeartbeats 4000000
namespace Go.Proofs.YtecakmodlkbnaaaGreatDoor
open Go.Ev
theorem ty282:K.types.get 282=some ti282:=by kernel_rfl
theorem sz282:ti282.size=1:=by rfl
theorem ag282:ti282.agg=false:=by rfl
attribute [go_sem] ty282 sz282 ag282
theorem rs140:Tryz.f140.results.toList=[.tmp 6,.tmp 7]:=rfl
theorem rs187:Tryz.f187.results.toList=[.tmp 8,.tmp 9,.tmp 10]:=rfl
attribute [go_sem] rs140 rs187
theorem Z1u {ts:Zx} {h:Go.Ev.H} (t:Go.TypeId) (x:Go.Operand) (lo hi:Option Go.Operand):U0 K ts h (.slice t x lo hi none)=O7 h (Oq K h (K.types.get t) (Z6 K ts x) (Du K ts lo) (Du K ts hi)):=rfl
attribute [go_sem] Z1u
theorem Ycp (c:C):read1 1 [[c]] 0=some c:=rfl
def zer0:List Nat:=List.replicate 256 0
theorem Z23:zer0.length=256:=rfl
theorem Zv0:pgL zer0=List.replicate 256 (.int .u8 0):=by kernel_rfl
structure AlcW (n q a b c e:Nat) (cr:Cr) (md:Int) (S:List Nat) (Al:(Nat→List Nat)→Nat→Prop) (blk:Nat→Nat) (cap:Nat) (mt nk:Nat→Prop):Prop where
 take:∀ {V:Nat→List Nat} {h:Go.Ev.H} {T:List Nat} {m near:Nat},HE n q a b c e cr md S T V h→Al V m→m<cap→nk near→(∀ z,mt z→z ∉ T)→∃ h' V',Zg 186 [.c (.ptr (n+13) 0),.c (.int .i64 (near:Int))] h (.tup [.c (.int .i64 (blk m:Nat)),.c (.int .i64 0)]) h'∧HE n q a b c e cr md S T V' h'∧Kp n q h h'∧Al V' (m+1)∧∀ z,¬ mt z→V' z=V z
 upd:∀ {V:Nat→List Nat} {m z:Nat} {x:List Nat},Al V m→¬ mt z→Al (O9 V z x) m
 ours:∀ m,m<cap→Bp a b c e (blk m:Nat)=true∧blk m<2+e+a * b∧0<blk m∧¬ mt (blk m)∧blk m∈S
 inj:∀ m m',m<cap→m'<cap→blk m=blk m'→m=m'
structure Alc (n q a b c e:Nat) (cr:Cr) (md:Int) (S:List Nat) (Al:(Nat→List Nat)→Nat→Prop) (blk:Nat→Nat) (cap:Nat) (mt nk:Nat→Prop):Prop extends AlcW n q a b c e cr md S Al blk cap mt nk where
 near:nk 0∧∀ m,m<cap→nk (blk m)
section
variable (Hh:Hearts K Tryz.prog)
include Hh
variable {n q a b c e:Nat} {cr:Cr} {md:Int} {S T:List Nat} {V:Nat→List Nat} {h:Go.Ev.H} {Al:(Nat→List Nat)→Nat→Prop} {blk:Nat→Nat} {cap:Nat} {mt nk:Nat→Prop} {m:Nat}
theorem Z4m (f:Ym a b c e=true) (A:AlcW n q a b c e cr md S Al blk cap mt nk) (M:HE n q a b c e cr md S T V h) (al:Al V m) (mc:m<cap) {near:Nat} (nr:nk near) (hT:∀ z,mt z→z ∉ T) (bT:blk m ∉ T) {lv:Nat} (lv8:lv≤8) :
  ∃ h' V',Zg 140 [.c (.ptr (n+13) 0),.c (.int .i64 (lv:Int)),.c (.int .i64 (near:Int))] h (.tup [.c (.int .i64 (blk m:Nat)),.c (.int .i64 0)]) h'∧HE n q a b c e cr md S T V' h'∧Kp n q h h'∧Al V' (m+1)∧(∀ z,¬ mt z→z≠blk m→V' z=V z)∧(0<lv→V' (blk m)=zer0):=by
 obtain⟨o1,o2,o3,o4,o5⟩:=A.ours m mc
 obtain⟨hA,V1,c1,MA,kA,alA,vA⟩:=A.take M al mc nr hT
 by_cases l0:lv=0
 ·subst l0
  have d0:decide ((((0:Nat):Int)) > 0)=false:=rfl
  obtain⟨v,h',cc,rfl,rfl⟩:∃ v h',Zg 140 [.c (.ptr (n+13) 0),.c (.int .i64 ((0:Nat):Int)),.c (.int .i64 (near:Int))] h v h'∧v=.tup [.c (.int .i64 (blk m:Nat)),.c (.int .i64 0)]∧h'=hA:=by
   refine Yg Hh Tryz.f140 ?_
   have Jf:=@d0
   iterate 3 (first|apply Zk|refine Zq Hh Za Zj ?_)
   iterate 14 (first|apply Zk|apply Zw|apply Z0|refine Goes.Zi Zj ?_|refine Zq Hh (Zp Za c1) Zj ?_)
   exact⟨_,_,Zc,rfl,rfl⟩
  exact⟨_,V1,cc,MA,kA,alA,fun z hz _=>vA z hz,fun w=>absurd w (by omega)⟩
 ·have d0:decide ((lv:Int) > 0)=true:=decide_eq_true (by omega)
  obtain⟨hB,e5,MB,nB,kB⟩:=MA.put f o1 o2 Z23 o5 bT
  have c5:=Mo Hh e5
  rw[Zv0] at c5
  obtain⟨v,h',cc,rfl,rfl⟩:∃ v h',Zg 140 [.c (.ptr (n+13) 0),.c (.int .i64 (lv:Int)),.c (.int .i64 (near:Int))] h v h'∧v=.tup [.c (.int .i64 (blk m:Nat)),.c (.int .i64 0)]∧h'=hB:=by
   refine Yg Hh Tryz.f140 ?_
   have Jf:=@d0
   iterate 3 (first|apply Zk|refine Zq Hh Za Zj ?_)
   iterate 11 (first|apply Zk|apply Zw|refine Goes.Zi Zj ?_|refine Zq Hh (Zp Za c1) Zj ?_)
   iterate 8 (first|apply Zk|apply Zw|apply Z0|refine Goes.Zi Zj ?_|refine Zq Hh (Zp Za c5) Zj ?_)
   exact⟨_,_,Zc,rfl,rfl⟩
  refine⟨_,O9 V1 (blk m) zer0,cc,MB,⟨by have:=kA.1; omega,fun p hp ho=>(kB p ho.1).trans (kA.2 p hp ho)⟩,A.upd alA o4,fun z hz hne=>by rw[J6 hne]; exact vA z hz,fun _=>Bl ..⟩
variable {p4 p11 p o k:Nat} {L:List Nat}
theorem Z0l (b0:Nat) (fr:Bool):Zg 187 [.c (.int .i64 (b0:Int)),.c .snil,.c (.bool fr),.c (.ptr p4 0),.c (.ptr p11 0)] h (.tup [.c (.int .i64 (b0:Int)),.c (.bool fr),.c (.int .i64 0)]) h:=by
 have lf:=Zu4
 refine fnG Hh Tryz.f187 ?_
 have Jf:=@lf
 iterate 9 (first|apply Zk|apply Z0|refine Goes.Zi Ur ?_|refine Zq Hh Za Ur ?_)
 exact Zc
end
theorem rs141:Tryz.f141.results.toList=[.tmp 8,.tmp 9,.tmp 10]:=rfl
theorem rs87:Tryz.f87.results.toList=[.cell 8 39,.tmp 9,.tmp 10,.tmp 11]:=rfl
attribute [go_sem] rs141 rs87
section
variable (Hh:Hearts K Tryz.prog)
include Hh
variable {n q a b c e:Nat} {cr:Cr} {md:Int} {S T:List Nat} {V:Nat→List Nat} {h:Go.Ev.H} {Al:(Nat→List Nat)→Nat→Prop} {blk:Nat→Nat} {cap:Nat} {mt nk:Nat→Prop} {m:Nat}
theorem Z45 (M:HE n q a b c e cr md S T V h) {b0:Nat} {s:C} {fr:Bool} {r1:Nat} {r2:Bool} {R:(Nat→List Nat)→Prop}
  (rec:∀ h1 p4 p11,HE n q a b c e cr md S T V h1→h.next≤h1.next→(∀ m,m<h.next→h1.get m=h.get m)→h1.get p4=some (.row 1 [[.ptr (n+13) 0]] false)→h1.get p11=some (.row 1 [[.fn 187 [] [some (p4,0),some (p11,0)]]] false)→q+9≤p4∧p4<h1.next→q+9≤p11∧p11<h1.next→∃ h2,Zg 187 [.c (.int .i64 (b0:Int)),.c s,.c (.bool fr),.c (.ptr p4 0),.c (.ptr p11 0)] h1 (.tup [.c (.int .i64 (r1:Int)),.c (.bool r2),.c (.int .i64 0)]) h2∧Kp n q h1 h2∧∃ V',HE n q a b c e cr md S T V' h2∧R V') :
  ∃ h',Zg 141 [.c (.ptr (n+13) 0),.c (.int .i64 (b0:Int)),.c s,.c (.bool fr)] h (.tup [.c (.int .i64 (r1:Int)),.c (.bool r2),.c (.int .i64 0)]) h'∧Kp n q h h'∧∃ V',HE n q a b c e cr md S T V' h'∧R V':=by
 obtain⟨nq,nx,n0⟩:=M.nx
 refine Ou ?_
 refine Yg Hh Tryz.f141 ?_
 have Jf:=@Ycp
 iterate 7 (first|apply Zk|refine Zq Hh Za Zfw ?_)
 refine Uc fun hA eA=>?_
 have nA:hA.next=h.next+1+1:=by rw[eA]; simp only[H.Zd,H.Zb]
 have kA:∀ m,m<h.next→hA.get m=h.get m:=fun m hm=>by rw[eA]; exact Yc
 have a4:hA.get h.next=some (.row 1 [[.ptr (n+13) 0]] false):=by rw[eA]; exact Zc
 have a11:hA.get (h.next+1)=some (.row 1 [[.fn 187 [] [some (h.next,0),some (h.next+1,0)]]] false):=by rw[eA]; exact Zc
 clear eA
 have MA:=M.keep (h2:=hA) (by omega) (fun m hm=>kA m (by omega))
 obtain⟨hB,c3,kB,hR⟩:=rec hA h.next (h.next+1) MA (by omega) kA a4 a11 ⟨by omega,by omega⟩ ⟨by omega,by omega⟩
 have Jf:=Yy Jf @a11
 iterate 2 (first|apply Z0|refine Zq Hh (Zp Za c3) Zfw ?_)
 exact⟨_,_,Zc,rfl,⟨by have:=kB.1; omega,fun m hm ho=>(kB.2 m (by omega) ho).trans (kA m hm)⟩,hR⟩
theorem Ybc (f:Ym a b c e=true) (m0:md≠0) (A:AlcW n q a b c e cr md S Al blk cap mt nk) (M:HE n q a b c e cr md S T V h) (al:Al V m) (mc:m<cap) (hT:∀ z,mt z→z ∉ T) (bT:blk m ∉ T) (b32:blk m<4096) {x:List C} {P:Nat→Nat} (X:InoP x P) {i:Nat} (hi:i<36) {near:Nat} (nr:nk near) (nz:P (Y9 i).1=0) {r1:Nat} {r2:Bool} {R:(Nat→List Nat)→Prop}
  (dn:∀ h1 s V1,HE n q a b c e cr md S T V1 h1→Al V1 (m+1)→(∀ z,¬ mt z→z≠blk m→V1 z=V z)→(0<(Y9 i).2.length→V1 (blk m)=zer0)→SlI h1 s (Y9 i).2→(∀ p o n z,s=.slice p o n z→q+9≤p∧p<h1.next)→∃ h2,Zg 141 [.c (.ptr (n+13) 0),.c (.int .i64 (blk m:Nat)),.c s,.c (.bool true)] h1 (.tup [.c (.int .i64 (r1:Int)),.c (.bool r2),.c (.int .i64 0)]) h2∧Kp n q h1 h2∧∃ V',HE n q a b c e cr md S T V' h2∧R V') :
  ∃ h',Zg 87 [.c (.ptr (n+13) 0),.g x,.c (.int .i64 (i:Int)),.c (.int .i64 (near:Int))] h (.tup [.g (x.set (4+(Y9 i).1) (.int .u32 (blk m:Nat))),.c (.int .i64 (r1:Int)),.c (.bool r2),.c (.int .i64 0)]) h'∧Kp n q h h'∧∃ V',HE n q a b c e cr md S T V' h'∧R V':=by
 obtain⟨nq,nx,n0⟩:=M.nx
 obtain⟨st,⟨kn,hs⟩,⟨dk,gl⟩,ht⟩:=M.cells
 unfold gdL gdD at gl
 have dm:(md != 0)=true:=Mr m0
 obtain⟨p11,w6⟩:=Zz8 hi
 have xl:=X.xl
 have rx:=X.rd p11
 have wl:=Zun i
 have hO:=fun {h:Go.Ev.H} (h0:0<h.next)=>Z9t Hh hi (h:=h) h0
 obtain⟨ws,hws⟩:∃ ws,(Y9 i).2=ws:=⟨_,rfl⟩
 obtain⟨pk,hpk⟩:∃ pk,(Y9 i).1=pk:=⟨_,rfl⟩
 simp only[hws,hpk] at hO dn p11 rx nz wl ⊢
 rw[nz] at rx
 have hTk:=fun {h:Go.Ev.H} (M:HE n q a b c e cr md S T V h)=>Z4m Hh f A M al mc nr hT bT (lv:=ws.length) wl
 obtain⟨G,hG'⟩:∃ G,blk m=G:=⟨_,rfl⟩
 simp only[hG'] at dn hTk ⊢
 rw[hG'] at b32
 have w8:Z4 16 [x] (4+pk) [.int .u32 (G:Int)]=some [x.set (4+pk) (.int .u32 (G:Int))]:=by
  have h1:(4+pk) / 16=0:=by omega
  have h2:(4+pk) % 16=4+pk:=by omega
  simp only[Z4,h1,h2,List.getElem?_cons_zero]
  rw[Qm (by omega),cond_true]
  rfl
 have wU:Jr .u32 (G:Int)=.int .u32 (G:Int):=Tv (by omega)
 have x1l:(x.set (4+pk) (.int .u32 (G:Int))).length=16:=by rw[List.length_set]; exact xl
 obtain⟨x1,hx1⟩:∃ x1,x.set (4+pk) (.int .u32 (G:Int))=x1:=⟨_,rfl⟩
 rw[hx1] at w8 x1l ⊢
 have ez:(((0:Nat):Int) == 0)=true:=rfl
 refine Ou ?_
 refine Yg Hh Tryz.f87 ?_
 have Jf:=Yu @f @hs @gl @ht @dm @xl @rx @p11 @ez
 iterate 8 (first|apply Zk|apply Zw|refine Goes.Zi Yb ?_|refine Zq Hh (EY Za (Zed Hh)) Yb ?_)
 refine Uc fun hA eA=>?_
 have nA:hA.next=h.next+2:=by rw[eA]; simp only[H.Zd,H.Zb]
 have kA:∀ m,m<h.next→hA.get m=h.get m:=fun m hm=>by rw[eA]; exact Yc
 have b5:hA.get h.next=some (.row 16 [x] false):=by rw[eA]; exact Z5
 obtain⟨y,yl,b8⟩:∃ y:List C,y.length=16∧hA.get (h.next+1)=some (.row 16 [y] false):=⟨_,rfl,by rw[eA]; exact Yn⟩
 clear eA
 obtain⟨hB,s,c3,nB,kB,sB,lB⟩:=hO (h:=hA) (by omega)
 have B5:=(kB h.next (by omega)).trans b5
 have B8:=(kB (h.next+1) (by omega)).trans b8
 have MB:=M.keep (h2:=hB) (by omega) (fun m hm=>(kB m (by omega)).trans (kA m (by omega)))
 obtain⟨_,⟨knB,hsB⟩,⟨dkB,glB⟩,htB⟩:=MB.cells
 unfold gdL gdD at glB
 obtain⟨lf,ln⟩:=Z84 sB
 have Jf:=Yu Jf @B5 @B8 @yl @hsB @glB @htB @lf @ln
 iterate 8 (first|apply Zk|apply Zw|refine Goes.Zi Yb ?_|refine Zq Hh (Zp Za c3) Yb ?_)
 iterate 15 (first|apply Zk|apply Zw|refine Goes.Zi Yb ?_|refine Zq Hh (EY Za (Zln Hh)) Yb ?_)
 refine Uc fun hC eC=>?_
 have nC:hC.next=hB.next:=by rw[eC]; simp only[H.Zd]
 have kC:∀ m,m<hB.next→m≠h.next+1→hC.get m=hB.get m:=fun m hm hne=>by rw[eC]; exact Yc
 have C8:hC.get (h.next+1)=some (.row 16 [x] false):=by rw[eC]; exact Z5
 clear eC
 have MC:=MB.keep (h2:=hC) (by omega) (fun m hm=>kC m (by omega) (by omega))
 obtain⟨hE,V1,c12,ME,kE,alE,vE,zE⟩:=hTk MC
 have nE:=kE.1
 have E8:=(kE.2 (h.next+1) (by omega) ⟨⟨by omega,by omega,by omega,by omega,by omega⟩,by omega⟩).trans C8
 have Jf:=Uq Jf @E8 @w8 @wU
 iterate 10 (first|apply Zk|apply Zw|refine Goes.Zi Yb ?_|refine Zq Hh (Zp Za c12) Yb ?_)
 refine Uc fun hF eF=>?_
 have nF:hF.next=hE.next:=by rw[eF]; simp only[H.Zd]
 have kF:∀ m,m≠h.next+1→hF.get m=hE.get m:=fun m hne=>by rw[eF,Ze hne]
 have F8:hF.get (h.next+1)=some (.row 16 [x1] false):=by rw[eF,Zz]
 clear eF
 have MF:=ME.keep (h2:=hF) (by omega) (fun m hm=>kF m (by omega))
 obtain⟨hD,c17,kD,V',MD,rv⟩:=dn hF s V1 MF alE vE zE (sB.keep fun p o n' z e=>by
  have l1:=lB p o n' z e
  refine (kF p (by omega)).trans ((kE.2 p (by omega) ⟨⟨by omega,by omega,by omega,by omega,by omega⟩,by omega⟩).trans (kC p l1.2 (by omega)))) (fun p o n z e=>⟨by have:=(lB p o n z e).1; omega,by have:=(lB p o n z e).2; omega⟩)
 have nD:=kD.1
 have D8:=(kD.2 (h.next+1) (by omega) ⟨⟨by omega,by omega,by omega,by omega,by omega⟩,by omega⟩).trans F8
 have Jf:=Yy Jf @D8
 iterate 8 (first|apply Zk|apply Zw|apply Z0|refine Goes.Zi Yb ?_|refine Zq Hh (Zp Za c17) Yb ?_)
 refine⟨_,_,(by have Jf:=Yy @D8 @x1l; exact Z5),rfl,⟨?_,fun m hm ho=>?_⟩,V',MD.keep ?_ (fun m hm=>?_),rv⟩
 ·first|omega|(simp only[H.Zd,H.Zb]<;>omega)
 ·refine Eq.trans ?_ ((kD.2 m (by omega) ho).trans ((kF m (by omega)).trans ((kE.2 m (by omega) ho).trans ((kC m (by omega) (by omega)).trans ((kB m (by omega)).trans (kA m hm)))))); exact Yc
 ·first|omega|(simp only[H.Zd,H.Zb]<;>omega)
 ·exact Yc
end
theorem ty194:K.types.get 194=some ti194:=by kernel_rfl
theorem sz194:ti194.size=256:=by rfl
theorem ag194:ti194.agg=true:=by rfl
theorem fo194_0:Zt K 194 0=some (0,ti99):=by kernel_rfl
theorem bu194 (ps:List (Nat × W)):Yo K 194 (some ps)=gW (Yd K 194 ps ti194.zero.cells):=by kernel_rfl
theorem ze194:ti194.zero=(.g ((List.replicate 256 (.int .u8 0)))):=by rfl
theorem by194:ti194.bytes=256:=by rfl
theorem ty326:K.types.get 326=some ti326:=by kernel_rfl
theorem sz326:ti326.size=1:=by rfl
theorem ag326:ti326.agg=false:=by rfl
theorem de326:ti326.desc=(.slice 172):=by rfl
theorem ze326:ti326.zero=(.c (.snil)):=by rfl
theorem by326:ti326.bytes=24:=by rfl
theorem el326:Jj K 326=some ti172:=by kernel_rfl
attribute [go_sem] ty194 sz194 ag194 fo194_0 bu194 ze194 by194 ty326 sz326 ag326 de326 ze326 by326 el326
theorem rs112:Tryz.f112.results.toList=[]:=rfl
theorem rs159:Tryz.f159.results.toList=[.tmp 4]:=rfl
theorem rs111:Tryz.f111.results.toList=[]:=rfl
theorem rs196:Tryz.f196.results.toList=[.tmp 4]:=rfl
theorem rs160:Tryz.f160.results.toList=[.tmp 2]:=rfl
theorem rs114:Tryz.f114.results.toList=[]:=rfl
theorem rs156:Tryz.f156.results.toList=[.tmp 2]:=rfl
theorem rs157:Tryz.f157.results.toList=[.tmp 6]:=rfl
attribute [go_sem] rs112 rs159 rs111 rs196 rs160 rs114 rs156 rs157
noncomputable def Zyv:Kn1:=fun args h=>match args with
 | [.c (.ptr p 0),.c (.int .i64 a),.c (.int .i64 v)]=>(Uf a).bind fun a=>(Uf v).bind fun v=>(Ei h p).bind fun x=>Y8 (decide (a+2≤256)&&decide (v<65536)) (some (.tup [],h.put p (.row 256 [pgL (U6 (unN x) a v)] false)))
 | _=>none
noncomputable def Zr8:Kn1:=fun args h=>match args with
 | [.c (.ptr p 0),.c (.int .i64 a),.c (.int .u32 v)]=>(Uf a).bind fun a=>(Uf v).bind fun v=>(Ei h p).bind fun x=>Y8 (decide (a+4≤256)&&decide (v<4294967296)) (some (.tup [],h.put p (.row 256 [pgL (Jq (unN x) a v)] false)))
 | _=>none
noncomputable def Z1k:Kn1:=fun args h=>match args with
 | [.c (.ptr p 0),.c (.int .i64 a)]=>(Uf a).bind fun a=>(Ei h p).bind fun x=>Y8 (decide (a+2≤256)) (some (.w (.c (.int .i64 ((Oi (unN x) a:Nat):Int))),h))
 | _=>none
noncomputable def Ztb:Kn1:=fun args h=>match args with
 | [.c (.ptr p 0),.c (.int .i64 a)]=>(Uf a).bind fun a=>(Ei h p).bind fun x=>Y8 (decide (a+4≤256)) (some (.w (.c (.int .u32 ((Yk (unN x) a:Nat):Int))),h))
 | _=>none
noncomputable def Znj:Kn1:=fun args h=>match args with
 | [.c (.ptr p 0)]=>(Ei h p).bind fun x=>Y8 (Bq (h.get 0)) (some (.w (.c (.int .u32 ((Wy (unN x):Nat):Int))),h))
 | _=>none
noncomputable def Zt7:Kn1:=fun args h=>match args with
 | [.c (.ptr p 0)]=>(Ei h p).bind fun x=>Y8 (Bq (h.get 0)) (some (.tup [],h.put p (.row 256 [pgL (Jq (unN x) 252 (Wy (unN x)))] false)))
 | _=>none
noncomputable def Zg0:Kn1:=fun args h=>match args with
 | [.c (.ptr p 0)]=>(Ei h p).bind fun x=>Y8 (Bq (h.get 0)) (some (.w (.c (.bool (((Yk (unN x) 252:Nat):Int) == ((Wy (unN x):Nat):Int)))),h))
 | _=>none
noncomputable def Zdx:Kn1:=fun args h=>match args with
 | [.c (.ptr p 0),.c (.int .i64 a),.c (.int .i64 b)]=>(Uf a).bind fun a=>(Uf b).bind fun b=>(Ei h p).bind fun x=>Y8 (decide (a≤b)&&decide (b≤256)) (some (.w (.c (.bool (Bb (unN x) a (b - a)))),h))
 | _=>none
attribute [go_sem] Zyv Zr8 Z1k Ztb Znj Zt7 Zg0 Zdx
theorem Ya6 {ns:List Nat} {ro:Bool} (h:256≤ns.length∧ns.length≤256):reaches 0 256 (some (.row 256 [pgL ns] ro))=true:=by
 unfold reaches
 show (match read1 256 [pgL ns] 255 with
  | some _=>Nat.ble 1 256
  | none=>false)=true
 rw[Zpm (by omega)]
 rfl
attribute [go_sem] Ya6
section
variable (Hh:Hearts K Tryz.prog)
include Hh
theorem Zgx {args:List W} {h h':Go.Ev.H} {v:V} (e:Zyv args h=some (v,h')):Zg 112 args h v h':=by
 unfold Zyv at e
 split at e
 ·obtain⟨a,ha,e⟩:=Zo e
  obtain⟨v,hv,e⟩:=Zo e
  obtain⟨x,hx,e⟩:=Zo e
  obtain⟨ns,rfl,hl,hp⟩:=Js hx
  obtain⟨b,e⟩:=Zu.1 e
  simp only[Bool.and_eq_true,decide_eq_true_eq] at b
  obtain⟨b1,b2⟩:=b
  cases e
  rw[Z9 ha,Z9 hv,Od,Zgs]
  refine fnG Hh Tryz.f112 ?_
  have Jf:=Jb @hp @hl @Nat.add_zero
  repeat (first|refine Zq Hh (EY Za (Zk8 Hh)) Zap ?_)
  exact Zc
 ·cases e
theorem Zkr {args:List W} {h h':Go.Ev.H} {v:V} (e:Zr8 args h=some (v,h')):Zg 111 args h v h':=by
 unfold Zr8 at e
 split at e
 ·obtain⟨a,ha,e⟩:=Zo e
  obtain⟨v,hv,e⟩:=Zo e
  obtain⟨x,hx,e⟩:=Zo e
  obtain⟨ns,rfl,hl,hp⟩:=Js hx
  obtain⟨b,e⟩:=Zu.1 e
  simp only[Bool.and_eq_true,decide_eq_true_eq] at b
  obtain⟨b1,b2⟩:=b
  cases e
  rw[Z9 ha,Z9 hv,Od,Vx]
  refine fnG Hh Tryz.f111 ?_
  have Jf:=Jb @hp @hl @Nat.add_zero
  repeat (first|refine Zq Hh (EY Za (Zdz Hh)) Zap ?_)
  exact Zc
 ·cases e
theorem Z1t {args:List W} {h h':Go.Ev.H} {v:V} (e:Z1k args h=some (v,h')):Zg 159 args h v h':=by
 unfold Z1k at e
 split at e
 ·obtain⟨a,ha,e⟩:=Zo e
  obtain⟨x,hx,e⟩:=Zo e
  obtain⟨ns,rfl,hl,hp⟩:=Js hx
  obtain⟨b,e⟩:=Zu.1 e
  simp only[decide_eq_true_eq] at b
  cases e
  have g2:=Znn ns a
  have g3:Oi ns (0+a)=Oi ns a:=by rw[Nat.zero_add]
  rw[Z9 ha,Od,Qn]
  obtain⟨g,hg⟩:∃ g,Oi ns a=g:=⟨_,rfl⟩
  rw[hg] at g2 ⊢
  refine fnG Hh Tryz.f159 ?_
  have Jf:=U1 @hp @hl @hg @Nat.add_zero @Nat.zero_add
  repeat (first|apply Zk|apply Z0|refine Zq Hh (EY Za (Zks Hh)) Zap ?_)
  exact Zc
 ·cases e
theorem Zyn {args:List W} {h h':Go.Ev.H} {v:V} (e:Ztb args h=some (v,h')):Zg 196 args h v h':=by
 unfold Ztb at e
 split at e
 ·obtain⟨a,ha,e⟩:=Zo e
  obtain⟨x,hx,e⟩:=Zo e
  obtain⟨ns,rfl,hl,hp⟩:=Js hx
  obtain⟨b,e⟩:=Zu.1 e
  simp only[decide_eq_true_eq] at b
  cases e
  rw[Z9 ha,Od,R6]
  refine fnG Hh Tryz.f196 ?_
  have Jf:=Uq @hp @hl @Nat.add_zero @Nat.zero_add
  repeat (first|apply Zk|apply Z0|refine Zq Hh (EY Za (Lh Hh)) Zap ?_)
  exact Zc
 ·cases e
theorem Zi6 {args:List W} {h h':Go.Ev.H} {v:V} (e:Znj args h=some (v,h')):Zg 160 args h v h':=by
 unfold Znj at e
 split at e
 ·rename_i p
  obtain⟨x,hx,e⟩:=Zo e
  obtain⟨ns,rfl,hl,hp⟩:=Js hx
  obtain⟨b,e⟩:=Zu.1 e
  cases e
  rw[Od,Zae]
  refine Zy.tidy ⟨Tryz.f160,Tryz.func160,by kernel_rfl,by decide⟩ fun tidy=>?_
  have hst:=G9 b
  have l0:=tidy _ _ hst
  have l1:=tidy _ _ hp
  obtain⟨v,h',c,rfl,hk⟩:∃ v h',Zg 160 [.c (.ptr p 0)] h v h'∧v=.w (.c (.int .u32 ((Wy ns:Nat):Int)))∧∀ m,m<h.next→h'.get m=h.get m:=by
   refine Yg Hh Tryz.f160 ?_
   repeat (first|apply Zk|apply Z0|((first|apply Goes.Zi|apply Goes.ops2 fits Hh (EY Za (Zzw Hh))); · simp (maxSteps:=9^6) +decide (disch:=first|omega|(simp only[lens]<;>omega)|decide) only [go_sem,Zn,Zm,simprocAttr,hp,hl,hst,Oq,Du,bound,La,Nat.add_zero,read1,Yj,U9,Y3,List.replicate_succ,List.replicate_zero]<;>rfl))
   exact⟨_,_,Zc,rfl,fun m hm=>by exact Yc⟩
  exact c.quiet rfl hk
 ·cases e
theorem Zku {args:List W} {h h':Go.Ev.H} {v:V} (e:Zt7 args h=some (v,h')):Zg 114 args h v h':=by
 unfold Zt7 at e
 split at e
 ·rename_i p
  obtain⟨x,hx,e⟩:=Zo e
  obtain⟨ns,rfl,hl,hp⟩:=Js hx
  obtain⟨b,e⟩:=Zu.1 e
  cases e
  have hst:=G9 b
  have cl:=Z2r ns
  rw[Od,Vx,Zae]
  obtain⟨g,hg⟩:∃ g,Wy ns=g:=⟨_,rfl⟩
  rw[hg] at cl ⊢
  refine fnG Hh Tryz.f114 ?_
  have Jf:=Uq @hp @hl @hst @hg
  repeat (first|refine Zq Hh (EY (EY Za (Zi6 Hh)) (Zkr Hh)) Zj ?_)
  exact Zc
 ·cases e
theorem Zp0 {args:List W} {h h':Go.Ev.H} {v:V} (e:Zg0 args h=some (v,h')):Zg 156 args h v h':=by
 unfold Zg0 at e
 split at e
 ·rename_i p
  obtain⟨x,hx,e⟩:=Zo e
  obtain⟨ns,rfl,hl,hp⟩:=Js hx
  obtain⟨b,e⟩:=Zu.1 e
  cases e
  have hst:=G9 b
  rw[Od,Zae,R6]
  refine fnG Hh Tryz.f156 ?_
  have Jf:=Jb @hp @hl @hst
  repeat (first|apply Zk|apply Z0|refine Zq Hh (EY (EY Za (Zyn Hh)) (Zi6 Hh)) Zj ?_)
  exact Zc
 ·cases e
theorem Zl9 {args:List W} {h h':Go.Ev.H} {v:V} (e:Zdx args h=some (v,h')):Zg 157 args h v h':=by
 unfold Zdx at e
 split at e
 ·obtain⟨a,ha,e⟩:=Zo e
  obtain⟨b,hb,e⟩:=Zo e
  obtain⟨x,hx,e⟩:=Zo e
  obtain⟨ns,rfl,hl,hp⟩:=Js hx
  obtain⟨bb,e⟩:=Zu.1 e
  simp only[Bool.and_eq_true,decide_eq_true_eq] at bb
  obtain⟨b1,b2⟩:=bb
  cases e
  rw[Z9 ha,Z9 hb,Od,Zc7]
  refine fnG Hh Tryz.f157 ?_
  have Jf:=U1 @hp @hl @Nat.add_zero @Nat.zero_add @Nat.mul_one
  repeat (first|apply Zk|apply Z0|refine Zq Hh (EY Za (Q9 Hh)) Zap ?_)
  rfl
 ·cases e
end
end Go.Proofs.YtecakmodlkbnaaaGreatDoor
