/- Inodes' places in their blocks; what Get answers. -/
import Derived.Test.YtdkcjalmhdofcaaGreatDoorIbk
import Derived.Test.YtdkcjalmhdofcaaGreatDoorRGeo
import Derived.Test.YtdkcjalmhdofcaaGreatDoorEvC
set_option linter.unusedSimpArgs false
set_option linter.unusedVariables false
set_option linter.unusedSectionVars false
set_option maxRecDepth 100000
set_option maxHeartbeats 4000000
namespace Go.Proofs.YtdkcjalmhdofcaaGreatDoor
open Go.Ev
def Y6 (b c e j:Nat):Nat:=2+e+j / c * b+2+j % c / 4
def Dx (c j:Nat):Nat:=j % c % 4 * 64
def gI (a b c e:Nat) (U:Nat→List Nat) (z:Int):List C × Int:=if 1≤z∧z≤((a * c:Nat):Int) then Mr (U (Y6 b c e (z.toNat - 1))) (Dx c (z.toNat - 1)) else (ino0,2)
theorem D7 (c j:Nat):Dx c j=0∨Dx c j=64∨Dx c j=128∨Dx c j=192:=by unfold Dx; omega
theorem Zvz {a b c e i j:Nat} (F:Fine a b c e) (ne:i≠j) (h:Y6 b c e i=Y6 b c e j):Dx c i+64≤Dx c j∨Dx c j+64≤Dx c i:=by
 obtain⟨g1,g2,g3,g4,g5,g6,g7,g8,g9,g10,g11⟩:=F
 have t1:i % c<c:=Nat.mod_lt _ (by omega)
 have t2:j % c<c:=Nat.mod_lt _ (by omega)
 have d1:=Nat.div_add_mod i c
 have d2:=Nat.div_add_mod j c
 unfold Y6 at h
 unfold Dx
 have k:i / c=j / c:=by
  rcases Nat.lt_trichotomy (i / c) (j / c) with q|q|q
  ·have:=Nat.mul_le_mul_right b (Nat.succ_le_of_lt q)
   rw[Nat.succ_mul] at this
   omega
  ·exact q
  ·have:=Nat.mul_le_mul_right b (Nat.succ_le_of_lt q)
   rw[Nat.succ_mul] at this
   omega
 rw[k] at h d1
 have:i % c≠j % c:=fun q=>ne (d1.symm.trans (by rw[q]; exact d2))
 omega
end Go.Proofs.YtdkcjalmhdofcaaGreatDoor
set_option maxRecDepth 100000
set_option maxHeartbeats 4000000
namespace Go.Proofs.YtdkcjalmhdofcaaGreatDoor
open Go.Ev
theorem ty103:K.types.get 103=some ti103:=by kernel_rfl
theorem sz103:ti103.size=1:=by rfl
theorem ag103:ti103.agg=false:=by rfl
theorem de103:ti103.desc=(.pointer 60):=by rfl
theorem ze103:ti103.zero=(.c (.pnil)):=by rfl
theorem by103:ti103.bytes=8:=by rfl
theorem ty294:K.types.get 294=some ti294:=by kernel_rfl
theorem sz294:ti294.size=1:=by rfl
theorem ag294:ti294.agg=false:=by rfl
theorem de294:ti294.desc=(.pointer 47):=by rfl
theorem ze294:ti294.zero=(.c (.pnil)):=by rfl
theorem by294:ti294.bytes=8:=by rfl
attribute [go_sem] ty103 sz103 ag103 de103 ze103 by103 ty294 sz294 ag294 de294 ze294 by294
noncomputable def q135 (p:List Nat):Code:=piece p (Jz Tryz.f135)
theorem Zfn:q135 [1,1,1,1,1,1,0,1,2]=.rangeFunc (.tmp 37) #[38,39] (q135 [1,1,1,1,1,1,0,1,2,5]) (q135 [1,1,1,1,1,1,0,1,2,6]):=by kernel_rfl
theorem Zcl:q135 [1,1,1,1,1,1,0,1,2,5]=.seq (q135 [1,1,1,1,1,1,0,1,2,5,0]) (q135 [1,1,1,1,1,1,0,1,2,5,1]):=by kernel_rfl
theorem Zcn:q135 [1,1,1,1,1,1,0,1,2,6]=.block 2 (q135 [1,1,1,1,1,1,0,1,2,6,2]):=by kernel_rfl
noncomputable def q210 (p:List Nat):Code:=piece p (Jz Tryz.f210)
theorem rs135:Tryz.f135.results.toList=[.tmp 6]:=rfl
theorem rs178:Tryz.f178.results.toList=[.tmp 2]:=rfl
theorem rs210:Tryz.f210.results.toList=[]:=rfl
attribute [go_sem] rs135 rs178 rs210
section
variable (Hh:Hearts K Tryz.prog)
include Hh
section
variable {l p p7 pm px pw d:Nat} {lts:Zy}
noncomputable def Fb (lts:Zy) (st:LoopState) (d:Nat):O:=.loop lts 44 [38,39] (q135 [1,1,1,1,1,1,0,1,2,5]) (q135 [1,1,1,1,1,1,0,1,2,6]) st none d
theorem ptA (l:Nat) (ts:Zy) (h:Go.Ev.H) {t w:C} (e1:Zm ts 38=.w (.c t)) (e2:Zm ts 39=.w (.c w)):Goes K Tryz.prog 44 (some l) (q135 [1,1,1,1,1,1,0,1,2,5]) [] ts h fun x ds' ts' h'=>x=.normal∧ds'=[]∧h'=h∧(∀ s,s≤7→Zm ts' s=Zm ts s)∧Zm ts' 8=Zm ts 38∧Zm ts' 9=Zm ts 39:=by
 iterate 3 (first|apply Goes.seq|(apply Goes.ops2 fits Hh Zb; · simp (maxSteps:=9^6) +decide (disch:=first|omega|(simp only[lens]<;>omega)|decide) only [go_sem,Zd,Za,simprocAttr,e1,e2]<;>rfl))
 refine⟨rfl,rfl,rfl,fun s hs=>?_,?_,?_⟩
 ·simp (decide:=true) only [Yk hs]
 ·rw[e1]; simp (maxSteps:=9^6) +decide (disch:=first|omega|(simp only[lens]<;>omega)|decide) only [go_sem,Zd,Za,simprocAttr]
 ·rw[e2]; simp (maxSteps:=9^6) +decide (disch:=first|omega|(simp only[lens]<;>omega)|decide) only [go_sem,Zd,Za,simprocAttr]
theorem ptB (l:Nat) {ts:Zy} {h:Go.Ev.H} {a v:Nat} {ns:List Nat} (aa:a+4≤64) (vv:v<4294967296) (pl:p+64≤256) (e7:Zm ts 7=.w (.c (.ptr p7 0))) (e8:Zm ts 8=.w (.c (.int .i64 (a:Int)))) (e9:Zm ts 9=.w (.c (.int .u32 (v:Int)))) (h7:h.get p7=some (.row 1 [[.slice pm p 64 1]] false)) (hx:h.get pm=some (.row 256 [pgL ns] false)) (nl:ns.length=256) :
  Goes K Tryz.prog 44 (some l) (q135 [1,1,1,1,1,1,0,1,2,6]) [] ts h fun x _ _ h'=>x=.normal∧h'=h.put pm (.row 256 [pgL (Jg ns (p+a) v)] false):=by
 have xl:(pgL ns).length=256:=by rw[Ob,nl]
 iterate 2 (first|apply Goes.block|(apply Goes.ops2 fits Hh (Zj Zb (fun _ _ _ _=>Zg1 Hh)); · simp (maxSteps:=9^6) +decide (disch:=first|omega|(simp only[lens]<;>omega)|decide) only [go_sem,Zd,Za,simprocAttr,e7,e8,e9,h7,hx,xl,read1]<;>rfl))
 exact⟨rfl,rfl⟩
theorem Zst (l p7 pm:Nat) (pl:p+64≤256):∃ E,Sound K Tryz.prog E∧∀ (lts:Zy) (d a v:Nat) (ns:List Nat) (h:Go.Ev.H),l≠pm→l≠p7→Zm lts 7=.w (.c (.ptr p7 0))→a+4≤64→v<4294967296→h.get l=some (Fb lts .ready d)→h.get p7=some (.row 1 [[.slice pm p 64 1]] false)→h.get pm=some (.row 256 [pgL ns] false)→ns.length=256 →
  U3 E l (some [.c (.int .i64 (a:Int)),.c (.int .u32 (v:Int))]) h (some (Fb lts .ready d))=some (.val (.w (.c (.bool true))) (((h.put l (Fb lts .busy d)).put pm (.row 256 [pgL (Jg ns (p+a) v)] false)).put l (Fb lts .ready d))):=by
 have ne:(q135 [1,1,1,1,1,1,0,1,2,5])≠(q135 [1,1,1,1,1,1,0,1,2,6]):=fun e=>by
  rw[Zcn,Zcl] at e
  cases e
 obtain⟨E,S,g⟩:=rounds (K:=K) (P:=Tryz.prog) (n:=44) (l:=l) ne
  (PA:=fun ts _=>∃ t w,Zm ts 38=.w (.c t)∧Zm ts 39=.w (.c w))
  (QA:=fun ts ts'=>(∀ s,s≤7→Zm ts' s=Zm ts s)∧Zm ts' 8=Zm ts 38∧Zm ts' 9=Zm ts 39)
  (PB:=fun ts h=>∃ (a v:Nat) (ns:List Nat),a+4≤64∧v<4294967296∧Zm ts 7=.w (.c (.ptr p7 0))∧Zm ts 8=.w (.c (.int .i64 (a:Int)))∧Zm ts 9=.w (.c (.int .u32 (v:Int)))∧h.get p7=some (.row 1 [[.slice pm p 64 1]] false)∧h.get pm=some (.row 256 [pgL ns] false)∧ns.length=256)
  (QB:=fun ts h h'=>∀ (a v:Nat) (ns:List Nat),Zm ts 8=.w (.c (.int .i64 (a:Int)))→Zm ts 9=.w (.c (.int .u32 (v:Int)))→h.get pm=some (.row 256 [pgL ns] false)→h'=h.put pm (.row 256 [pgL (Jg ns (p+a) v)] false))
  (fun ts h ⟨t,w,e1,e2⟩=>ptA Hh l ts h e1 e2)
  (fun ts h ⟨a,v,ns,aa,vv,e7,e8,e9,h7,hx,nl⟩=>(ptB Hh l aa vv pl e7 e8 e9 h7 hx nl).mono fun x _ _ h' ⟨x1,x2⟩=>⟨x1,fun a' v' ns' f1 f2 f3=>by
   rw[e8] at f1
   rw[e9] at f2
   rw[hx] at f3
   have a1:(a:Int)=(a':Int):=by injection f1 with f1; injection f1 with f1; injection f1
   have a2:(v:Int)=(v':Int):=by injection f2 with f2; injection f2 with f2; injection f2
   obtain rfl:a=a':=by omega
   obtain rfl:v=v':=by omega
   have a3:pgL ns=pgL ns':=by injection f3 with f3; injection f3 with _ f3; injection f3
   rw[x2,←Nh ns,←Nh ns',←Om,←Om,a3]⟩)
 refine⟨E,S,fun lts d a v ns h nl np e7 aa vv hl h7 hx xl=>?_⟩
 have z1:Zm ((lts.set 38 (.w (.c (.int .i64 (a:Int))))).set 39 (.w (.c (.int .u32 (v:Int))))) 38=.w (.c (.int .i64 (a:Int))):=by simp (decide:=true) only [Ze,reduceIte]
 have z2:Zm ((lts.set 38 (.w (.c (.int .i64 (a:Int))))).set 39 (.w (.c (.int .u32 (v:Int))))) 39=.w (.c (.int .u32 (v:Int))):=by simp (decide:=true) only [Ze,reduceIte]
 have z7:Zm ((lts.set 38 (.w (.c (.int .i64 (a:Int))))).set 39 (.w (.c (.int .u32 (v:Int))))) 7=.w (.c (.ptr p7 0)):=by simp (decide:=true) only [Ze,reduceIte,e7]
 have hx':(h.put l (Fb lts .busy d)).get pm=some (.row 256 [pgL ns] false):=by rw[Zu (Ne.symm nl)]; exact hx
 have h7':(h.put l (Fb lts .busy d)).get p7=some (.row 1 [[.slice pm p 64 1]] false):=by rw[Zu (Ne.symm np)]; exact h7
 obtain⟨ts',h',⟨a1,a2,a3⟩,b,r⟩:=g [.c (.int .i64 (a:Int)),.c (.int .u32 (v:Int))] h lts _ [38,39] d hl rfl ⟨_,_,z1,z2⟩ fun ts' ⟨a1,a2,a3⟩=>⟨a,v,ns,aa,vv,(a1 7 (by decide)).trans z7,a2.trans z1,a3.trans z2,h7',hx',xl⟩
 have b:=b a v ns (a2.trans z1) (a3.trans z2) hx'
 subst b
 exact r (by rw[Zu nl]; exact Yh ..)
def Rnd (E:Task→Option Out) (l p7 pm p d:Nat) (lts:Zy):Prop:=∀ (a v:Nat) (ns:List Nat) (h:Go.Ev.H),a+4≤64→v<4294967296→h.get l=some (Fb lts .ready d)→h.get p7=some (.row 1 [[.slice pm p 64 1]] false)→h.get pm=some (.row 256 [pgL ns] false)→ns.length=256 →
  ∃ h',U3 E l (some [.c (.int .i64 (a:Int)),.c (.int .u32 (v:Int))]) h (some (Fb lts .ready d))=some (.val (.w (.c (.bool true))) h')∧h'.next=h.next∧h'.get l=some (Fb lts .ready d)∧h'.get pm=some (.row 256 [pgL (Jg ns (p+a) v)] false)∧∀ k,k≠l→k≠pm→h'.get k=h.get k
theorem Z1c (l p7 pm:Nat) (pl:p+64≤256) (nl:l≠pm) (np:l≠p7) (e7:Zm lts 7=.w (.c (.ptr p7 0))) (d:Nat):∃ E,Sound K Tryz.prog E∧Rnd E l p7 pm p d lts:=by
 obtain⟨E,S,g⟩:=Zst Hh l p7 pm pl
 refine⟨E,S,fun a v ns h aa vv hl h7 hx xl=>⟨_,g lts d a v ns h nl np e7 aa vv hl h7 hx xl,rfl,Yh ..,?_,fun k k1 k2=>?_⟩⟩
 ·rw[Zu (Ne.symm nl),Yh]
 ·rw[Zu k1,Zu k2,Zu k1]
theorem Zmn {E:Task→Option Out} (S:Sound K Tryz.prog E) (R:Rnd E l p7 pm p d lts) (n7:p7≠l∧p7≠pm) {ps:List Nat} (pl:ps.length=11) (pb:∀ v∈ps,v<4294967296):∀ (vs:List Nat) (i:Nat) (ns:List Nat) (ts:Zy) (h:Go.Ev.H),i+vs.length=11→ps.drop i=vs→h.get l=some (Fb lts .ready d)→h.get p7=some (.row 1 [[.slice pm p 64 1]] false)→h.get pm=some (.row 256 [pgL ns] false)→ns.length=256 →
  Zm ts 0=.w (.c (.yield l))→Zm ts 1=.w (.c (.ptr pw 0))→Zm ts 25=.w (.g (ps.map fun v:Nat=>C.int .u32 (v:Int)))→Zm ts 26=.w (.c (.int .i64 (i:Int))) →
  Goes K Tryz.prog 44 none (q210 [1,0,1,2]) [] ts h fun x ds' ts' h'=>x=.exit 0∧ds'=[]∧Zm ts' 0=.w (.c (.yield l))∧Zm ts' 1=.w (.c (.ptr pw 0))∧h'.next=h.next∧h'.get l=some (Fb lts .ready d)∧h'.get pm=some (.row 256 [pgL (Zcp ns (p+(12+4 * i)) vs)] false)∧∀ k,k≠l→k≠pm→h'.get k=h.get k:=by
 intro vs
 induction vs with
 | nil =>
  intro i ns ts h hi hv hl h7 hx xl e0 e1 e25 e26
  obtain rfl:i=11:=by simpa using hi
  iterate 6 (first|apply Goes.seq|apply Goes.exit|apply Goes.loop|((first|apply Goes.Zo|apply Goes.ops2 fits Hh Zb); · simp (maxSteps:=9^6) +decide (disch:=first|omega|(simp only[lens]<;>omega)|decide) only [go_sem,Zd,Za,simprocAttr,e0,e1,e25,e26]<;>rfl))
  exact⟨rfl,rfl,by simp (decide:=true) only [Ze,reduceIte,e0],by simp (decide:=true) only [Ze,reduceIte,e1],rfl,hl,hx,fun _ _ _=>rfl⟩
 | cons v vs ih =>
  intro i ns ts h hi hv hl h7 hx xl e0 e1 e25 e26
  have hi':i<11:=by rw[List.length_cons] at hi; omega
  have iv:ps[i]? = some v:=by
   have:=congrArg (fun l=>l[0]?) hv
   simpa using this
  have vb:v<4294967296:=pb v (List.mem_of_getElem? iv)
  have hv':ps.drop (i+1)=vs:=by rw[←List.drop_drop,hv]; rfl
  have ix:(ps.map fun v:Nat=>C.int .u32 (v:Int))[i]? = some (.int .u32 (v:Int)):=by rw[List.getElem?_map,iv]; rfl
  have Ll:(ps.map fun v:Nat=>C.int .u32 (v:Int)).length=11:=by rw[List.length_map,pl]
  obtain⟨L,hL⟩:∃ L,(ps.map fun v:Nat=>C.int .u32 (v:Int))=L:=⟨_,rfl⟩
  simp only[hL] at ih
  rw[hL] at ix Ll e25
  obtain⟨h2,r,n2,l2,x2,k2⟩:=R (12+4 * i) v ns h (by omega) vb hl h7 hx xl
  have n32:(4:Int) * (i:Int)=((4 * i:Nat):Int):=rfl
  have n33:(12:Int)+((4 * i:Nat):Int)=((12+4 * i:Nat):Int):=rfl
  have n4:(i:Int)+1=((i+1:Nat):Int):=rfl
  iterate 11 (first|apply Goes.seq|apply Goes.skip|apply Goes.block|apply Goes.loop|((first|apply Goes.Zo|apply Goes.ops2 fits Hh Zb); · simp (maxSteps:=9^6) +decide (disch:=first|omega|(simp only[lens]<;>omega)|decide) only [go_sem,Zd,Za,simprocAttr,e0,e1,e25,e26,hl,r,n32,n33,n4,ix,Ll,U6,Zgv]<;>rfl))
  iterate 4 (first|apply Goes.skip|((first|apply Goes.Zo|apply Goes.ops2 fits Hh S); · simp (maxSteps:=9^6) +decide (disch:=first|omega|(simp only[lens]<;>omega)|decide) only [go_sem,Zd,Za,simprocAttr,e0,e1,e25,e26,hl,r,n32,n33,n4,ix,Ll,U6,Zgv]<;>rfl))
  show Goes K Tryz.prog 44 none (q210 [1,0,1,2]) _ _ _ _
  refine (ih (i+1) _ _ h2 (by rw[List.length_cons] at hi; omega) hv' l2 ((k2 _ n7.1 n7.2).trans h7) x2 (by rw[Yf]; exact xl) ?_ ?_ ?_ ?_).mono ?_
  ·simp (decide:=true) only [Ze,reduceIte,e0]
  ·simp (decide:=true) only [Ze,reduceIte,e1]
  ·simp (decide:=true) only [Ze,reduceIte,e25]
  ·simp (decide:=true) only [Ze,reduceIte]<;>rfl
  rintro x ds' ts2 h3 ⟨rfl,rfl,z0,z1,z2,z3,z4,z5⟩
  exact⟨rfl,rfl,z0,z1,z2.trans n2,z3,z4,fun k k1 k3=>(z5 k k1 k3).trans (k2 k k1 k3)⟩
theorem Zwn {E:Task→Option Out} (S:Sound K Tryz.prog E) (R:Rnd E l p7 pm p d lts) (n7:p7≠l∧p7≠pm) (nw:pw≠l∧pw≠pm) (nx':px≠l∧px≠pm) {k li g s p0 p1 p2 p3 p4 p5 p6 p7' p8 p9 p10 nx:Nat} (gb:g<4294967296) (sb:s<4294967296) (pb:∀ v∈[p0,p1,p2,p3,p4,p5,p6,p7',p8,p9,p10],v<4294967296) (nb:nx<4294967296) {ns:List Nat} {h:Go.Ev.H} (hl:h.get l=some (Fb lts .ready d)) (h7:h.get p7=some (.row 1 [[.slice pm p 64 1]] false)) (hx:h.get pm=some (.row 256 [pgL ns] false)) (xl:ns.length=256) (hw:h.get pw=some (.row 1 [[.ptr px 0]] false)) (hi:h.get px=some (.row 16 [O9 k li g s p0 p1 p2 p3 p4 p5 p6 p7' p8 p9 p10 nx] false)) :
  ∃ v h',Zg K Tryz.prog 210 [.c (.yield l),.c (.ptr pw 0)] h v h'∧h'.next=h.next∧h'.get l=some (Fb lts .ready d)∧h'.get pm=some (.row 256 [pgL (Jg (Zcp (Jg (Jg ns (p+4) g) (p+8) s) (p+12) [p0,p1,p2,p3,p4,p5,p6,p7',p8,p9,p10]) (p+56) nx)] false)∧∀ m,m≠l→m≠pm→h'.get m=h.get m:=by
 obtain⟨h1,r1,n1,l1,x1,k1⟩:=R 4 g ns h (by omega) gb hl h7 hx xl
 obtain⟨h2,r2,n2,l2,x2,k2⟩:=R 8 s _ h1 (by omega) sb l1 ((k1 _ n7.1 n7.2).trans h7) x1 (by rw[Yf]; exact xl)
 have w1:=(k1 _ nw.1 nw.2).trans hw
 have i1:=(k1 _ nx'.1 nx'.2).trans hi
 have w2:=(k2 _ nw.1 nw.2).trans w1
 have i2:=(k2 _ nx'.1 nx'.2).trans i1
 have h72:=(k2 _ n7.1 n7.2).trans ((k1 _ n7.1 n7.2).trans h7)
 have r1':U3 E l (some [.c (.int .i64 4),.c (.int .u32 (g:Int))]) h (some (Fb lts .ready d))=some (.val (.w (.c (.bool true))) h1):=r1
 have r2':U3 E l (some [.c (.int .i64 8),.c (.int .u32 (s:Int))]) h1 (some (Fb lts .ready d))=some (.val (.w (.c (.bool true))) h2):=r2
 refine Zg.Yb fits Hh (by kernel_rfl) (by kernel_rfl) (by kernel_rfl) (show Tryz.f210.body=some _ from rfl) rfl ?_
 iterate 2 (apply Goes.seq)
 iterate 7 (first|apply Goes.seq|apply Goes.skip|apply Goes.block|((first|apply Goes.Zo|apply Goes.ops2 fits Hh S); · simp (maxSteps:=9^6) +decide (disch:=first|omega|(simp only[lens]<;>omega)|decide) only [go_sem,Zd,Za,simprocAttr,hl,hw,hi,O9,r1',l1,w1,i1,r2',w2,i2,read1]<;>rfl))
 refine (Zmn Hh (pw:=pw) S R n7 rfl pb _ 0 _ _ h2 rfl rfl l2 h72 x2 (by rw[Yf,Yf]; exact xl) ?_ ?_ ?_ ?_).mono ?_
 ·simp (decide:=true) only [Ze,reduceIte,Y8,List.getElem?_cons_zero]
 ·simp (decide:=true) only [Ze,reduceIte,Y8,List.getElem?_cons_succ,List.getElem?_cons_zero]
 ·simp (decide:=true) only [Ze,reduceIte]<;>rfl
 ·simp (decide:=true) only [Ze,reduceIte]<;>rfl
 rintro x ds' ts' h3 ⟨rfl,rfl,f0,f1,n3,l3,x3,k3⟩
 obtain⟨h4,r4,n4,l4,x4,k4⟩:=R 56 nx _ h3 (by omega) nb l3 ((k3 _ n7.1 n7.2).trans h72) x3 (by rw[G9,Yf,Yf]; exact xl)
 have w3:=(k3 _ nw.1 nw.2).trans w2
 have i3:=(k3 _ nx'.1 nx'.2).trans i2
 have r4':U3 E l (some [.c (.int .i64 56),.c (.int .u32 (nx:Int))]) h3 (some (Fb lts .ready d))=some (.val (.w (.c (.bool true))) h4):=r4
 (apply Goes.ops2 fits Hh S; · simp (maxSteps:=9^6) +decide (disch:=first|omega|(simp only[lens]<;>omega)|decide) only [go_sem,Zd,Za,simprocAttr,f0,f1,l3,w3,i3,O9,r4',read1]<;>rfl)
 exact⟨_,_,(by simp (maxSteps:=9^6) +decide (disch:=first|omega|(simp only[lens]<;>omega)|decide) only [go_sem,Zd,Za,simprocAttr]<;>rfl),by rw[n4,n3,n2,n1],l4,x4,fun m m1 m2=>(k4 m m1 m2).trans ((k3 m m1 m2).trans ((k2 m m1 m2).trans (k1 m m1 m2)))⟩
theorem Zyw {ts:Zy} {h:Go.Ev.H} (pl:p+64≤256) {k li g s p0 p1 p2 p3 p4 p5 p6 p7' p8 p9 p10 nx:Nat} (gb:g<4294967296) (sb:s<4294967296) (pb:∀ v∈[p0,p1,p2,p3,p4,p5,p6,p7',p8,p9,p10],v<4294967296) (nb:nx<4294967296) {ns:List Nat} (h7:h.get p7=some (.row 1 [[.slice pm p 64 1]] false)) (hx:h.get pm=some (.row 256 [pgL ns] false)) (xl:ns.length=256) (hw:h.get pw=some (.row 1 [[.ptr px 0]] false)) (hi:h.get px=some (.row 16 [O9 k li g s p0 p1 p2 p3 p4 p5 p6 p7' p8 p9 p10 nx] false))
  (e7:Zm ts 7=.w (.c (.ptr p7 0))) (e37:Zm ts 37=.w (.c (.fn 210 [] [some (pw,0)]))) (l7:p7<h.next) (lm:pm<h.next) (lw:pw<h.next) (lx:px<h.next) (n7:p7≠pm) (nw:pw≠pm) (nxm:px≠pm) :
  Goes K Tryz.prog 44 none (q135 [1,1,1,1,1,1,0,1,2]) [] ts h fun x ds' ts' h'=>x=.normal∧ts'=ts∧ds'=[h.next]∧h'.next=h.next+1+1∧h'.get h.next=some .defers∧h'.get pm=some (.row 256 [pgL (Jg (Zcp (Jg (Jg ns (p+4) g) (p+8) s) (p+12) [p0,p1,p2,p3,p4,p5,p6,p7',p8,p9,p10]) (p+56) nx)] false)∧∀ m,m<h.next→m≠pm→h'.get m=h.get m:=by
 have g0:∀ (o:O) m,m<h.next→((h.new .defers).new o).get m=h.get m:=fun o m hm=>by rw[Ye (by rw[H.Zc]; omega),Ye (by omega)]
 have gd:∀ o:O,((h.new .defers).new o).get h.next=some .defers:=fun o=>by rw[Ye (by rw[H.Zc]; omega),O3]
 obtain⟨E,S,R⟩:=Z1c Hh (lts:=ts) (h.next+1) p7 pm pl (by omega) (by omega) e7 h.next
 rw[Zfn]
 refine Goes.Zjd fits Hh (f:=210) (first:=[]) (caps:=[some (pw,0)]) (by simp only[Zx,Z0,e37,asC]) (exE (Zwn Hh (px:=px) (pw:=pw) S R ⟨by omega,n7⟩ ⟨by omega,nw⟩ ⟨by omega,nxm⟩ gb sb pb nb (by rw[Ju (by simp only[H.Zc]<;>omega)]; rfl) (by rw[g0 _ _ l7]; exact h7) (by rw[g0 _ _ lm]; exact hx) xl (by rw[g0 _ _ lw]; exact hw) (by rw[g0 _ _ lx]; exact hi)) ?_)
 rintro v h3 ⟨w0,w1,w2,w3⟩
 refine⟨_,_,_,_,_,_,_,_,w1,by simp,?_⟩
 show _∧_∧_
 refine⟨rfl,rfl,rfl,?_,?_,?_,fun m hm hne=>?_⟩
 ·rw[H.Zh,w0]; rfl
 ·rw[Zu (by omega),w3 _ (by omega) (by omega),gd]
 ·rw[Zu (by omega),w2]
 ·rw[Zu (by omega),w3 _ (by omega) hne,g0 _ _ hm]
end
end
end Go.Proofs.YtdkcjalmhdofcaaGreatDoor
set_option maxRecDepth 100000
set_option maxHeartbeats 4000000
namespace Go.Proofs.YtdkcjalmhdofcaaGreatDoor
open Go.Ev
theorem Z4a {ns:List Nat} {p:Nat} (nl:ns.length=256) (pl:p+64≤256):Z4 256 [pgL ns] p (List.replicate 64 (.int .u8 0))=some [pgL (Zap ns p)]:=by
 have e:List.replicate 64 (C.int .u8 0)=.int .u8 0 :: .int .u8 0 :: List.replicate 62 (.int .u8 0):=rfl
 have z:pgL (List.replicate 64 0)=List.replicate 64 (.int .u8 0):=rfl
 unfold Zap
 rw[show pgL (ns.take p++(List.replicate 64 0++ns.drop (p+64)))=(pgL ns).take p++List.replicate 64 (.int .u8 0)++(pgL ns).drop (p+64) by rw[←z]; simp only[pgL,List.map_append,List.map_take,List.map_drop,List.append_assoc]]
 rw[e]
 simp only[Z4]
 rw[Nat.div_eq_of_lt (by omega),Nat.mod_eq_of_lt (by omega),List.getElem?_cons_zero]
 simp only[Ob,nl,List.length_cons,List.length_replicate]
 rw[Zho (by omega),cond_true]
 rfl
section
variable (Hh:Hearts K Tryz.prog)
include Hh
theorem Zx6 (x:Nat) (h:Go.Ev.H):Zg K Tryz.prog 178 [.c (.ptr x 0)] h (.w (.c (.fn 210 [] [some (h.next,0)]))) (h.new (.row 1 [[.ptr x 0]] false)):=by
 refine Zg.goes fits Hh (by kernel_rfl) (by kernel_rfl) (by kernel_rfl) (show Tryz.f178.body=some _ from rfl) rfl ?_
 iterate 5 (first|apply Goes.seq|apply Goes.ret|(apply Goes.ops2 fits Hh Zb; · simp (maxSteps:=9^6) +decide (disch:=first|omega|(simp only[lens]<;>omega)|decide) only [go_sem,Zd,Za,simprocAttr,Z6]<;>rfl))
 simp (maxSteps:=9^6) +decide (disch:=first|omega|(simp only[lens]<;>omega)|decide) only [go_sem,Zd,Za,simprocAttr,Z6]<;>rfl
theorem Zp9 {ns:List Nat} {p:Nat} (nl:ns.length=256) (pc:p=0∨p=64∨p=128∨p=192) {k l g s p0 p1 p2 p3 p4 p5 p6 p7 p8 p9 p10 nx:Nat} (kb:k<256) (lb:l<65536) (gb:g<4294967296) (sb:s<4294967296) (pb:∀ v∈[p0,p1,p2,p3,p4,p5,p6,p7,p8,p9,p10],v<4294967296) (nb:nx<4294967296) (hm:Zet k l s p0 p1 p2 p3 p4 p5 p6 p7 p8 p9 p10 nx=true) {h:Go.Ev.H} {m:Nat} (hp:h.get m=some (.row 256 [pgL ns] false)) (lm:m<h.next) :
  ∃ h',Zg K Tryz.prog 135 [.c (.ptr m 0),.c (.int .i64 (p:Int)),.g (O9 k l g s p0 p1 p2 p3 p4 p5 p6 p7 p8 p9 p10 nx)] h (.w (.c (.int .i64 0))) h'∧h.next≤h'.next∧h'.get m=some (.row 256 [pgL (Bh ns p k l g s [p0,p1,p2,p3,p4,p5,p6,p7,p8,p9,p10] nx)] false)∧∀ j,j<h.next→j≠m→h'.get j=h.get j:=by
 have pl:p+64≤256:=by omega
 have pd:decide ((p:Int)=0∨(p:Int)=64∨(p:Int)=128∨(p:Int)=192)=true:=decide_eq_true (by omega)
 have p1':(p:Int)+64=((p+64:Nat):Int):=rfl
 have xl:(pgL ns).length=256:=by rw[Ob,nl]
 have rc:read1 256 [pgL ns] 255=some (.int .u8 ((atN ns 255:Nat):Int)):=Zr8 ⟨by omega,by omega⟩
 have hi:=fun h=>Zjh Hh k l g s p0 p1 p2 p3 p4 p5 p6 p7 p8 p9 p10 nx h
 rw[hm] at hi
 change ∀ h,Zg K Tryz.prog 91 [.g (O9 k l g s p0 p1 p2 p3 p4 p5 p6 p7 p8 p9 p10 nx)] h (.w (.c (.bool true))) h at hi
 have cl:(Zap ns p).length=256:=by rw[Eh (by omega),nl]
 have cw:=Z4a nl pl
 simp only[List.reduceReplicate] at cw
 have q7:∀ x:C,read1 1 [[x]] 0=some x:=fun _=>rfl
 obtain⟨w,hw⟩:∃ w,O9 k l g s p0 p1 p2 p3 p4 p5 p6 p7 p8 p9 p10 nx=w:=⟨_,rfl⟩
 have wl:w.length=16:=by rw[←hw]; rfl
 have rk:read1 16 [w] 0=some (.int .u8 (k:Int)):=by rw[←hw]; rfl
 have rl:read1 16 [w] 1=some (.int .i64 (l:Int)):=by rw[←hw]; rfl
 have wk:Yn .u8 (k:Int)=.int .u8 ((k % 256:Nat):Int):=wr8
 have ek:(C.int .u8 (k:Int))=.int .u8 ((k % 256:Nat):Int):=by rw[Nat.mod_eq_of_lt kb]
 have sk:Z4 256 [pgL (Zap ns p)] p [.int .u8 (k:Int)]=some [pgL ((Zap ns p).set p k)]:=by rw[ek]; exact Z04 ⟨by omega,by omega⟩
 have sl:((Zap ns p).set p k).length=256:=by rw[List.length_set,cl]
 have p2l:(Ua ((Zap ns p).set p k) (p+2) l).length=256:=by rw[Ym,sl]
 obtain⟨N,hN⟩:∃ N,(Zap ns p).set p k=N:=⟨_,rfl⟩
 obtain⟨M,hM⟩:∃ M,Ua N (p+2) l=M:=⟨_,rfl⟩
 unfold Bh
 rw[hN] at sk sl p2l ⊢
 rw[hM] at p2l ⊢
 obtain⟨Z,hZ⟩:∃ Z,Zap ns p=Z:=⟨_,rfl⟩
 rw[hZ] at sk cw cl
 have Zl:(pgL Z).length=256:=by rw[Ob,cl]
 rw[hw] at hi ⊢
 obtain⟨v,h',cc,rfl,r1,r2,r3⟩:∃ v h',Zg K Tryz.prog 135 [.c (.ptr m 0),.c (.int .i64 (p:Int)),.g w] h v h'∧v=.w (.c (.int .i64 0))∧h.next≤h'.next∧h'.get m=some (.row 256 [pgL (Jg (Zcp (Jg (Jg M (p+4) g) (p+8) s) (p+12) [p0,p1,p2,p3,p4,p5,p6,p7,p8,p9,p10]) (p+56) nx)] false)∧∀ j,j<h.next→j≠m→h'.get j=h.get j:=by
  refine Zg.Yb fits Hh (by kernel_rfl) (by kernel_rfl) (by kernel_rfl) (show Tryz.f135.body=some _ from rfl) rfl ?_
  iterate 11 (first|apply Goes.seq|apply Goes.block|((first|apply Goes.Zo|apply Goes.ops2 fits Hh (Zj Zb (fun _ _ _ _=>Ma Hh))); · simp (maxSteps:=9^6) +decide (disch:=first|omega|(simp only[lens]<;>omega)|decide) only [go_sem,Za,simprocAttr,pd,p1',hp,xl,rc,wl,q7,cw,rk,rl,sk,sl,cl,Zl,hM,Z6,U5,Da,bound,Dy,reaches,Zn,Ri,Zbu,Xf,Nat.add_zero,Nat.zero_add,Nat.mul_one,Nat.add_sub_cancel_left]<;>rfl))
  iterate 10 (first|apply Goes.seq|apply Goes.skip|((first|apply Goes.Zo|apply Goes.ops2 fits Hh (Ue Zb hi)); · simp (maxSteps:=9^6) +decide (disch:=first|omega|(simp only[lens]<;>omega)|decide) only [go_sem,Za,simprocAttr,pd,p1',hp,xl,rc,wl,q7,cw,rk,rl,sk,sl,cl,Zl,hM,Z6,U5,Da,bound,Dy,reaches,Zn,Ri,Zbu,Xf,Nat.add_zero,Nat.zero_add,Nat.mul_one,Nat.add_sub_cancel_left]<;>rfl))
  iterate 3 (first|apply Goes.seq|(apply Goes.ops2 fits Hh (Zj Zb (fun _ _ _ _=>Zg7 Hh)); · simp (maxSteps:=9^6) +decide (disch:=first|omega|(simp only[lens]<;>omega)|decide) only [go_sem,Za,simprocAttr,pd,p1',hp,xl,rc,wl,q7,cw,rk,rl,sk,sl,cl,Zl,hM,Z6,U5,Da,bound,Dy,reaches,Zn,Ri,Zbu,Xf,Nat.add_zero,Nat.zero_add,Nat.mul_one,Nat.add_sub_cancel_left]<;>rfl))
  iterate 2 (first|apply Goes.block|(apply Goes.ops2 fits Hh (Ue Zb (Zx6 Hh h.next)); · simp (maxSteps:=9^6) +decide (disch:=first|omega|(simp only[lens]<;>omega)|decide) only [go_sem,Za,simprocAttr,pd,p1',hp,xl,rc,wl,q7,cw,rk,rl,sk,sl,cl,Zl,hM,Z6,U5,Da,bound,Dy,reaches,Zn,Ri,Zbu,Xf,Nat.add_zero,Nat.zero_add,Nat.mul_one,Nat.add_sub_cancel_left]<;>rfl))
  refine Goes.abs fun hB eB=>?_
  have nB:hB.next=h.next+1+1+1:=by rw[eB]; simp only[H.Zh,H.Zc]
  have kB:∀ j,j<h.next→j≠m→hB.get j=h.get j:=fun j hj hne=>by rw[eB]; (first|(simp (discharger:=omega) only [H.get_put,H.Zf,H.Zk,H.Zc,H.Zh,H.Zi,if_neg]; done)|(simp only[H.get_put,H.Zf,H.Zk,H.Zc,H.Zh,H.Zi]; (repeat' split)<;>first|rfl|(exfalso; omega)|omega))
  have b7:hB.get (h.next+1)=some (.row 1 [[.slice m p 64 1]] false):=by rw[eB]; simp (maxSteps:=9^6) +decide (disch:=first|omega|(simp only[lens]<;>omega)|decide) only [go_sem,Zd,Za,simprocAttr]<;>rfl
  have bm:hB.get m=some (.row 256 [pgL M] false):=by rw[eB]; simp (maxSteps:=9^6) +decide (disch:=first|omega|(simp only[lens]<;>omega)|decide) only [go_sem,Zd,Za,simprocAttr]<;>rfl
  have bw:hB.get (h.next+1+1)=some (.row 1 [[.ptr h.next 0]] false):=by rw[eB]; simp (maxSteps:=9^6) +decide (disch:=first|omega|(simp only[lens]<;>omega)|decide) only [go_sem,Zd,Za,simprocAttr]<;>rfl
  have bx:hB.get h.next=some (.row 16 [w] false):=by rw[eB]; simp (maxSteps:=9^6) +decide (disch:=first|omega|(simp only[lens]<;>omega)|decide) only [go_sem,Zd,Za,simprocAttr]<;>rfl
  clear eB
  rw[←hw] at bx
  refine (Zyw Hh (h:=hB) (p7:=h.next+1) (pm:=m) (px:=h.next) (pw:=h.next+1+1) pl gb sb pb nb b7 bm p2l bw bx ?_ ?_ (by omega) (by omega) (by omega) (by omega) (by omega) (by omega) (by omega)).mono ?_
  ·simp (decide:=true) only [Ze,reduceIte]
  ·simp (decide:=true) only [Ze,reduceIte]<;>rfl
  rintro x ds' ts' hD ⟨rfl,rfl,rfl,nD,gd,mD,kD⟩
  rw[nB] at gd nD
  iterate 3 (first|apply Goes.seq|apply Goes.ret|(apply Goes.ops2 fits Hh Zb; · simp (maxSteps:=9^6) +decide (disch:=first|omega|(simp only[lens]<;>omega)|decide) only [go_sem,Zd,Za,simprocAttr,nB,gd]<;>rfl))
  refine⟨_,_,(by simp (maxSteps:=9^6) +decide (disch:=first|omega|(simp only[lens]<;>omega)|decide) only [go_sem,Zd,Za,simprocAttr,gd,nB]<;>rfl),rfl,?_,?_,fun j hj hne=>?_⟩
  ·simp only[H.Zh,H.Zc,H.Zi,nD]<;>omega
  ·refine Eq.trans ?_ mD; (first|(simp (discharger:=omega) only [H.get_put,H.Zf,H.Zk,H.Zc,H.Zh,H.Zi,if_neg]; done)|(simp only[H.get_put,H.Zf,H.Zk,H.Zc,H.Zh,H.Zi]; (repeat' split)<;>first|rfl|(exfalso; omega)|omega))
  ·refine Eq.trans ?_ ((kD j (by omega) hne).trans (kB j hj hne)); (first|(simp (discharger:=omega) only [H.get_put,H.Zf,H.Zk,H.Zc,H.Zh,H.Zi,if_neg]; done)|(simp only[H.get_put,H.Zf,H.Zk,H.Zc,H.Zh,H.Zi]; (repeat' split)<;>first|rfl|(exfalso; omega)|omega))
 exact⟨h',cc,r1,r2,r3⟩
end
end Go.Proofs.YtdkcjalmhdofcaaGreatDoor
