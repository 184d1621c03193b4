/- OrphansRow: its loops. -/
import Derived.Test.YtdkcjalmhdofcaaGreatDoorOtk
import Derived.Test.YtdkcjalmhdofcaaGreatDoorEvC
set_option linter.unusedSimpArgs false
set_option linter.unusedVariables false
set_option linter.unusedSectionVars false
set_option maxRecDepth 100000
set_option maxHeartbeats 4000000
namespace Go.Proofs.YtdkcjalmhdofcaaGreatDoor
open Go.Ev
noncomputable def q3 (p:List Nat):Code:=piece p (Jz Tryz.f3)
theorem rs3:Tryz.f3.results.toList=[.tmp 8]:=rfl
attribute [go_sem] rs3
theorem Z1u {h:Go.Ev.H} {c:C} {l:List Nat} (s:SlI h c l):Y2 K 22 c=true:=by
 rcases s with ⟨_,rfl⟩|⟨p,_,rfl,_⟩
 ·exact Zzl
 ·exact Rm ..
theorem Z33 {h:Go.Ev.H} {c:C} {l:List Nat} (s:SlI h c l):Yr K 22 (.c c)=true∧∀ h,Yg K h 22 (.c c)=some (.int .i64 (l.length:Nat)):=by
 rcases s with ⟨rfl,rfl⟩|⟨p,_,rfl,_⟩
 ·exact⟨Xl,fun _=>rfl⟩
 ·exact⟨Mq ..,fun _=>rfl⟩
theorem Zqe {b:Nat} {h:Go.Ev.H} {c:C} {l:List Nat} (s:SlB b h c l) (bh:b≤h.next) (hl:l.length≤4000) (x:Nat):∃ c' h',Jj (h.new (.row 1 [[.int .i64 (x:Int)]] false)) (some ti3) c (.slice h.next 0 1 1)=some (.w (.c c'),h')∧SlB b h' c' (l++[x])∧h.next≤h'.next∧∀ p,p<b→h'.get p=h.get p:=by
 obtain⟨s,sb⟩:=s
 rcases s with ⟨rfl,rfl⟩|⟨p,p1,rfl,pp⟩
 ·refine⟨_,_,Zs5 _,⟨.inr ⟨h.next+1,by simp,rfl,?_⟩,fun p o n z e=>?_⟩,?_,fun p hp=>?_⟩
  ·rw[Ju (by simp only[H.Zc]<;>omega)]; rfl
  ·cases e; simp only[H.Zc]; omega
  ·simp only[H.Zc]; omega
  ·rw[Ye (by simp only[H.Zc]; omega),Ye (by omega)]
 ·have sb':=sb p 0 _ _ rfl
  have ap:=Zz6 (h:=h) (L:=rwI l) [.int .i64 (x:Int)] pp sb'.2 (by rw[Sg]; exact hl)
  rw[Sg] at ap
  refine⟨_,_,ap,⟨.inr ⟨h.next+1,by simp,by rw[List.length_append]; rfl,?_⟩,fun p o n z e=>?_⟩,?_,fun p hp=>?_⟩
  ·rw[←Zkn,Ju (by simp only[H.Zc,H.Zi]<;>omega)]
  ·cases e; simp only[H.Zc,H.Zi]; omega
  ·simp only[H.Zc,H.Zi]; omega
  ·rw[Ye (by simp only[H.Zc,H.Zi]; omega),Rn (by omega),Ye (by omega)]
theorem Zza {b:Nat} {h:Go.Ev.H} {c:C} {l:List Nat} (s:SlB b h c l) (bh:b≤h.next) (hl:l.length≤4000) (x:Nat):∃ c' h',Jj (h.new (.row 1 [[.int .i64 (x:Int)]] false)) (some ti3) (.slice h.next 0 1 1) c=some (.w (.c c'),h')∧SlB b h' c' (x :: l)∧h.next≤h'.next∧∀ p,p<h.next→h'.get p=h.get p:=by
 obtain⟨s,sb⟩:=s
 rcases s with ⟨rfl,rfl⟩|⟨p,p1,rfl,pp⟩
 ·refine⟨_,_,Z0x _,⟨.inr ⟨h.next,by simp,rfl,?_⟩,fun p o n z e=>?_⟩,?_,fun p hp=>?_⟩
  ·rw[Ju (by omega)]; rfl
  ·cases e; simp only[H.Zc]; omega
  ·simp only[H.Zc]; omega
  ·rw[Ye (by omega)]
 ·have sb':=sb p 0 _ _ rfl
  have ap:=Z3s (h:=h) (L:=rwI l) [.int .i64 (x:Int)] pp sb'.2 (by rw[Sg]; exact p1) (by rw[Sg]; exact hl)
  rw[Sg] at ap
  refine⟨_,_,ap,⟨.inr ⟨h.next+1,by simp,by rw[List.length_cons,Nat.add_comm 1],?_⟩,fun p o n z e=>?_⟩,?_,fun p hp=>?_⟩
  ·rw[←Zw4,Ju (by simp only[H.Zc,H.Zi]<;>omega)]
  ·cases e; simp only[H.Zc,H.Zi]; omega
  ·simp only[H.Zc,H.Zi]; omega
  ·rw[Ye (by simp only[H.Zc,H.Zi]; omega),Rn (by omega),Ye (by omega)]
theorem SlB.mono {b b':Nat} {h:Go.Ev.H} {c:C} {l:List Nat} (s:SlB b h c l) (le:b'≤b):SlB b' h c l:=⟨s.1,fun p o n z e=>⟨Nat.le_trans le (s.2 p o n z e).1,(s.2 p o n z e).2⟩⟩
theorem Zpc {l:List Nat} {x i:Nat}:wo (l++[x]) i=if x=i then wo l i else wo l i++[x]:=by
 unfold wo
 rw[List.filter_append]
 by_cases e:x=i
 ·rw[if_pos e,List.filter_cons,if_neg (by simp [e])]; simp
 ·rw[if_neg e,List.filter_cons,if_pos (by simpa using e)]; rfl
def Kb (n q:Nat) (h h':Go.Ev.H):Prop:=h.next≤h'.next∧∀ p,p<q+9→Out n q p→h'.get p=h.get p
def fls (m:Nat):List Nat:=(List.range m).map (· + 2)
theorem Xb (m:Nat):(fls m).length=m:=by simp [fls]
theorem Zus {m k:Nat} (h:k<m):(fls m)[k]? = some (k+2):=by simp [fls,h]
theorem Ztv (m:Nat):fls (m+1)=fls m++[m+2]:=by simp [fls,List.range_succ]
theorem Kp.slb {n q b:Nat} {h h':Go.Ev.H} {c:C} {l:List Nat} (k:Kp n q h h') (bq:q+9≤b) (nq:n+23≤q) (s:SlB b h c l):SlB b h' c l :=
 ⟨s.1.keep fun p o n z e=>by
  have:=s.2 p o n z e
  exact k.2 p (by omega) ⟨⟨by omega,by omega,by omega,by omega,by omega⟩,by omega⟩,fun p o n z e=>by
  have:=s.2 p o n z e
  have:=k.1
  omega⟩
theorem SlB.keep {b:Nat} {h h':Go.Ev.H} {c:C} {l:List Nat} (s:SlB b h c l) (nx:h.next≤h'.next) (k:∀ p,b≤p→p<h.next→h'.get p=h.get p):SlB b h' c l :=
 ⟨s.1.keep fun p o n z e=>k p (s.2 p o n z e).1 (s.2 p o n z e).2,fun p o n z e=>by
  have:=s.2 p o n z e
  omega⟩
theorem Zd4 (z:Int):Yn .u64 z=.int .u64 ((z % 18446744073709551616).toNat:Int):=by
 unfold Yn IntKind.wrap
 congr 1
 show (z % 18446744073709551616)=_
 have:=Int.emod_nonneg z (show (18446744073709551616:Int)≠0 by decide)
 omega
def Wy (A:List Int):List (List C):=A.map fun z=>[.int .i64 z]
theorem rdZ {A:List Int} {k:Nat} {z:Int} (h:A[k]? = some z):read1 1 (Wy A) k=some (.int .i64 z):=by
 have e:(Wy A)[k]? = some [.int .i64 z]:=by simp [Wy,h]
 have:=Dn (sz:=1) (i:=k) (j:=0) (by omega) e
 rw[Nat.mul_one,Nat.add_zero] at this
 exact this
def ArI (n:Nat) (h:Go.Ev.H) (c:C) (A:List Int):Prop:=(Yr K 22 (.c c)=true∧∀ h,Yg K h 22 (.c c)=some (.int .i64 (A.length:Nat)))∧(A=[]∨∃ p ro,p<n∧c=.slice p 0 A.length 1∧h.get p=some (.row 1 (Wy A) ro))
theorem ArI.keep {n:Nat} {h h':Go.Ev.H} {c:C} {A:List Int} (a:ArI n h c A) (k:∀ p,p<n→h'.get p=h.get p):ArI n h' c A :=
 ⟨a.1,a.2.imp id fun ⟨p,ro,h1,h2,h3⟩=>⟨p,ro,h1,h2,(k p h1).trans h3⟩⟩
theorem Kb.low {n q p:Nat} {h h':Go.Ev.H} (k:Kb n q h h') (nq:n+23≤q) (hp:p<n):h'.get p=h.get p:=k.2 p (by omega) ⟨⟨by omega,by omega,by omega,by omega,by omega⟩,by omega⟩
theorem rw4 (a b c d:C):read1 4 [[a,b,c,d]] 0=some a:=rfl
section
variable (Hh:Hearts K Tryz.prog)
include Hh
theorem Zsz {n q p r d y N:Nat} {md:Int} (N7:N≤7) (pq:n+23≤p∧p<q):∀ (k m:Nat) (V:Nat→List Nat) (ts:Zy) (h:Go.Ev.H),m+k=N→HE n q 2 24 8 40 30 md S0 [] V h→TS V m→h.get p=some (.row 4 [[.ptr (n+13) 0,.ptr r 0,.ptr d 0,.ptr y 0]] false)→(∃ c,Zm ts 12=.w (.c c)∧SlB (q+9) h c (fls m))→Zm ts 1=.w (.c (.int .i64 (N:Nat)))→Zm ts 10=.w (.c (.ptr p 0))→Zm ts 13=.w (.c (.int .i64 (m:Nat))) →
  Goes K Tryz.prog 206 none (q3 [1,1,1,1,1,1,1,1,0,1,2]) [] ts h fun x ds' ts' h'=>x=.exit 0∧ds'=[]∧Kb n q h h'∧(∀ s,s≤11→Zm ts' s=Zm ts s)∧(∃ V',HE n q 2 24 8 40 30 md S0 [] V' h'∧TS V' N)∧∃ c,Zm ts' 12=.w (.c c)∧SlB (q+9) h' c (fls N):=by
 intro k
 induction k with
 | zero =>
  intro m V ts h hm M o w st t1 t10 t13
  obtain rfl:m=N:=by omega
  obtain⟨c,t12,s⟩:=st
  iterate 6 (first|apply Goes.seq|apply Goes.exit|apply Goes.loop|((first|apply Goes.Zo|apply Goes.ops2 fits Hh Zb); · simp (maxSteps:=9^6) +decide (disch:=first|omega|(simp only[lens]<;>omega)|decide) only [go_sem,Zd,Za,simprocAttr,t1,t13]<;>rfl))
  refine⟨rfl,rfl,⟨Nat.le_refl _,fun _ _ _=>rfl⟩,fun s hs=>?_,⟨V,M,o⟩,c,?_,s⟩
  ·simp (decide:=true) only [Yk hs]
  ·simp (maxSteps:=9^6) +decide (disch:=first|omega|(simp only[lens]<;>omega)|decide) only [go_sem,Zd,Za,simprocAttr,t12]
 | succ k ih =>
  intro m V ts h hm M o w st t1 t10 t13
  have mN:m<N:=by omega
  obtain⟨c,t12,s⟩:=st
  obtain⟨nq,nx,n0⟩:=M.nx
  obtain⟨hA,V',c13,MA,oA,kA⟩:=takeN Hh M o (by omega)
  have sA:=kA.slb (Nat.le_refl _) nq s
  have nA:=MA.nx.2.1
  have wA:=(kA.2 p (by omega) ⟨⟨by omega,by omega,by omega,by omega,by omega⟩,by omega⟩).trans w
  obtain⟨X,hX⟩:∃ X,m+2=X:=⟨_,rfl⟩
  rw[hX] at c13
  obtain⟨c',hB,ap,sB,nB,kB⟩:=Zqe sA nA (by rw[Xb]; omega) X
  have sf:=Z1u sA.1
  have fs:=Ztv m
  rw[hX] at fs
  iterate 9 (first|apply Goes.seq|apply Goes.skip|apply Goes.block|apply Goes.loop|((first|apply Goes.Zo|apply Goes.ops2 fits Hh Zb); · simp (maxSteps:=9^6) +decide (disch:=first|omega|(simp only[lens]<;>omega)|decide) only [go_sem,Za,simprocAttr,t1,t10,t12,t13,w,rw4,E8,sf,ap,Zn]<;>rfl))
  iterate 8 (first|apply Goes.seq|apply Goes.skip|((first|apply Goes.Zo|apply Goes.ops2 fits Hh (Zt Zb c13)); · simp (maxSteps:=9^6) +decide (disch:=first|omega|(simp only[lens]<;>omega)|decide) only [go_sem,Za,simprocAttr,Zw,t1,t10,t12,t13,w,rw4,E8,sf,ap,Zn]<;>rfl))
  show Goes K Tryz.prog 206 none (q3 [1,1,1,1,1,1,1,1,0,1,2]) _ _ _ _
  refine (ih (m+1) V' _ hB (by omega) (MA.keep (by omega) (fun p hp=>kB p hp)) oA ((kB p (by omega)).trans wA) ⟨c',?_,by rw[fs]; exact sB⟩ ?_ ?_ ?_).mono ?_
  ·simp (maxSteps:=9^6) +decide (disch:=first|omega|(simp only[lens]<;>omega)|decide) only [go_sem,Zd,Za,simprocAttr,t12]
  ·simp (maxSteps:=9^6) +decide (disch:=first|omega|(simp only[lens]<;>omega)|decide) only [go_sem,Zd,Za,simprocAttr,t1]
  ·simp (maxSteps:=9^6) +decide (disch:=first|omega|(simp only[lens]<;>omega)|decide) only [go_sem,Zd,Za,simprocAttr,t10]
  ·simp (maxSteps:=9^6) +decide (disch:=first|omega|(simp only[lens]<;>omega)|decide) only [go_sem,Zd,Za,simprocAttr]<;>rfl
  rintro x' ds' ts' h' ⟨w1,w2,w3,w4,w5,w6⟩
  have nn:=kA.1
  have nn':=w3.1
  refine⟨w1,w2,⟨by omega,fun p hp ho=>(w3.2 p hp ho).trans ((kB p hp).trans (kA.2 p (by omega) ho))⟩,fun s hs=>(w4 s hs).trans ?_,w5,w6⟩
  ·simp (decide:=true) only [Yk hs]
theorem Zyc {n q p r d y N:Nat} {md:Int} {A:List Int} {cf ca:C} (N0:0<N) (N7:N≤7) (A3:A.length≤4000) (m1:1≤md∧md≤3) (pq:n+23≤p∧p<q):∀ (k i:Nat) (V:Nat→List Nat) (l:List Nat) (ts:Zy) (h:Go.Ev.H),i+k=A.length→HE n q 2 24 8 40 30 md S0 [] V h→OS V l N→h.get p=some (.row 4 [[.ptr (n+13) 0,.ptr r 0,.ptr d 0,.ptr y 0]] false)→SlB (q+9) h cf (fls N)→ArI n h ca A→(∃ c,Zm ts 16=.w (.c c)∧SlB (q+9) h c l)→Zm ts 1=.w (.c (.int .i64 (N:Nat)))→Zm ts 2=.w (.c ca)→Zm ts 10=.w (.c (.ptr p 0))→Zm ts 12=.w (.c cf)→Zm ts 17=.w (.c (.int .i64 (i:Nat))) →
  Goes K Tryz.prog 206 none (q3 [1,1,1,1,1,1,1,1,1,1,0,1,2]) [] ts h fun x ds' ts' h'=>x=.exit 2∧ds'=[]∧Kb n q h h'∧SlB (q+9) h' cf (fls N)∧(∀ s,s≤15→Zm ts' s=Zm ts s)∧∃ V' l',HE n q 2 24 8 40 30 md S0 [] V' h'∧OS V' l' N∧∃ c,Zm ts' 16=.w (.c c)∧SlB (q+9) h' c l':=by
 intro k
 induction k with
 | zero =>
  intro i V l ts h hi M o w sf ar st t1 t2 t10 t12 t17
  obtain rfl:i=A.length:=by omega
  obtain⟨c,t16,s⟩:=st
  obtain⟨⟨lf,ln⟩,_⟩:=ar
  iterate 6 (first|apply Goes.seq|apply Goes.exit|apply Goes.loop|((first|apply Goes.Zo|apply Goes.ops2 fits Hh Zb); · simp (maxSteps:=9^6) +decide (disch:=first|omega|(simp only[lens]<;>omega)|decide) only [go_sem,Zd,Za,simprocAttr,t2,t17,lf,ln,Zn]<;>rfl))
  refine⟨rfl,rfl,⟨Nat.le_refl _,fun _ _ _=>rfl⟩,sf,fun s hs=>?_,V,l,M,o,c,?_,s⟩
  ·simp (decide:=true) only [Yk hs]
  ·simp (maxSteps:=9^6) +decide (disch:=first|omega|(simp only[lens]<;>omega)|decide) only [go_sem,Zd,Za,simprocAttr,t16]
 | succ k ih =>
  intro i V l ts h hi M o w sf ar st t1 t2 t10 t12 t17
  obtain⟨c,t16,s⟩:=st
  have ar':=ar
  obtain⟨⟨lf,ln⟩,rfl|⟨pa,ro,pn,rfl,ha⟩⟩:=ar
  ·simp at hi
  have iA:i<A.length:=by omega
  obtain⟨nq,nx,n0⟩:=M.nx
  obtain⟨z,hz⟩:∃ z,A[i]? = some z:=⟨_,List.getElem?_eq_getElem iA⟩
  have rz:=rdZ hz
  have wz:=Zd4 z
  obtain⟨Z,hZ⟩:∃ Z,(z % 18446744073709551616).toNat=Z:=⟨_,rfl⟩
  rw[hZ] at wz
  have rm:=Bd (k:=.u64) (a:=Z) (b:=N) N0
  have kN:=Nat.mod_lt Z N0
  obtain⟨j,hj⟩:∃ j,Z % N=j:=⟨_,rfl⟩
  rw[hj] at rm kN
  have rj:=rdI (Zus kN)
  have sf':=sf
  obtain⟨⟨e0,_⟩|⟨pf,_,rfl,hf⟩,sb⟩:=sf'
  ·have:=Xb N; rw[e0] at this; simp at this; omega
  have t12':=t12
  rw[Xb] at t12
  have sfn:SlB (q+9) h (.slice pf 0 N 1) (fls N):=by have:=sf; rwa [Xb] at this
  have ol:=o.len
  obtain⟨hB,V',c22,MB,kB,oB⟩:=Z32 Hh o m1 M (i:=j+2) (by omega) (by omega) ⟨by decide,by simp⟩ ⟨by decide,by simp⟩ ⟨by decide,by simp⟩
  have s16:=kB.slb (Nat.le_refl _) nq s
  have c23:=Zz5 Hh (h:=hB) (l:=l) (by omega) s16.1 (j+2)
  have nB:=kB.1
  have nB9:=MB.nx.2.1
  have kb:Kb n q h hB:=⟨nB,fun p hp ho=>kB.2 p (by omega) ho⟩
  have wB:=(kb.2 p (by omega) ⟨⟨by omega,by omega,by omega,by omega,by omega⟩,by omega⟩).trans w
  obtain⟨X,hX⟩:∃ X,j+2=X:=⟨_,rfl⟩
  obtain⟨R,hR⟩:∃ R,rwI (fls N)=R:=⟨_,rfl⟩
  obtain⟨Q,hQ⟩:∃ Q,Wy A=Q:=⟨_,rfl⟩
  obtain⟨G,hG⟩:∃ G,A.length=G:=⟨_,rfl⟩
  rw[hX] at c22 c23 rj oB
  rw[hR] at hf rj
  rw[hQ] at ha rz
  have t2':=t2
  rw[hG] at iA t2 lf ln
  by_cases mem:X∈l
  ·rw[if_pos mem] at c22 oB
   rw[decide_eq_true mem] at c23
   iterate 9 (first|apply Goes.seq|apply Goes.skip|apply Goes.block|apply Goes.loop|((first|apply Goes.Zo|apply Goes.ops2 fits Hh Zb); · simp (maxSteps:=9^6) +decide (disch:=first|omega|(simp only[lens]<;>omega)|decide) only [go_sem,Za,simprocAttr,t1,t2,t10,t12,t16,t17,w,rw4,lf,ln,ha,rz,wz,rm,hf,rj,Zn]<;>rfl))
   refine Goes.ops2 fits Hh Zb (by
    iterate 13 (refine J7 (by simp (maxSteps:=9^6) +decide (disch:=first|omega|(simp only[lens]<;>omega)|decide) only [go_sem,Za,simprocAttr,t1,t2,t10,t12,t16,t17,w,rw4,lf,ln,ha,rz,wz,rm,hf,rj,Zn]<;>rfl) ?_)
    exact J8) ?_
   apply Goes.seq
   iterate 3 (first|apply Goes.seq|(apply Goes.ops2 fits Hh (Zt Zb c22); · simp (maxSteps:=9^6) +decide (disch:=first|omega|(simp only[lens]<;>omega)|decide) only [go_sem,Za,simprocAttr,Zw,t1,t2,t10,t12,t16,t17,w,rw4,lf,ln,ha,rz,wz,rm,hf,rj,Zn]<;>rfl))
   refine Goes.ops2 fits Hh (Zt Zb c23) (by
    iterate 16 (refine J7 (by simp (maxSteps:=9^6) +decide (disch:=first|omega|(simp only[lens]<;>omega)|decide) only [go_sem,Za,simprocAttr,Zw,t1,t2,t10,t12,t16,t17,w,rw4,lf,ln,ha,rz,wz,rm,hf,rj,Zn]<;>rfl) ?_)
    exact J8) ?_
   iterate 7 (first|apply Goes.seq|apply Goes.skip|((first|apply Goes.Zo|apply Goes.ops2 fits Hh Zb); · simp (maxSteps:=9^6) +decide (disch:=first|omega|(simp only[lens]<;>omega)|decide) only [go_sem,Za,simprocAttr,t1,t2,t10,t12,t16,t17,w,rw4,lf,ln,ha,rz,wz,rm,hf,rj,Zn]<;>rfl))
   show Goes K Tryz.prog 206 none (q3 [1,1,1,1,1,1,1,1,1,1,0,1,2]) _ _ _ _
   refine (ih (i+1) V' l _ hB (by omega) MB oB wB (kB.slb (Nat.le_refl _) nq sf) (ar'.keep fun p hp=>kb.low nq hp) ⟨c,?_,s16⟩ ?_ ?_ ?_ ?_ ?_).mono ?_
   ·simp (maxSteps:=9^6) +decide (disch:=first|omega|(simp only[lens]<;>omega)|decide) only [go_sem,Zd,Za,simprocAttr,t16]
   ·simp (maxSteps:=9^6) +decide (disch:=first|omega|(simp only[lens]<;>omega)|decide) only [go_sem,Zd,Za,simprocAttr,t1]
   ·simp (maxSteps:=9^6) +decide (disch:=first|omega|(simp only[lens]<;>omega)|decide) only [go_sem,Zd,Za,simprocAttr,t2']
   ·simp (maxSteps:=9^6) +decide (disch:=first|omega|(simp only[lens]<;>omega)|decide) only [go_sem,Zd,Za,simprocAttr,t10]
   ·simp (maxSteps:=9^6) +decide (disch:=first|omega|(simp only[lens]<;>omega)|decide) only [go_sem,Zd,Za,simprocAttr,t12']
   ·simp (maxSteps:=9^6) +decide (disch:=first|omega|(simp only[lens]<;>omega)|decide) only [go_sem,Zd,Za,simprocAttr]<;>rfl
   rintro x' ds' ts' h' ⟨w1,w2,w3,w4,w5,w6⟩
   refine⟨w1,w2,⟨Nat.le_trans nB w3.1,fun p hp ho=>(w3.2 p hp ho).trans (kb.2 p hp ho)⟩,w4,fun s hs=>(w5 s hs).trans ?_,w6⟩
   simp (decide:=true) only [Yk hs]
  ·rw[if_neg mem] at c22 oB
   rw[decide_eq_false mem] at c23
   obtain⟨c',hC,ap,sC,nC,kC⟩:=Zza s16 nB9 (by omega) X
   have sc:=Z1u s16.1
   iterate 9 (first|apply Goes.seq|apply Goes.skip|apply Goes.block|apply Goes.loop|((first|apply Goes.Zo|apply Goes.ops2 fits Hh Zb); · simp (maxSteps:=9^6) +decide (disch:=first|omega|(simp only[lens]<;>omega)|decide) only [go_sem,Za,simprocAttr,t1,t2,t10,t12,t16,t17,w,rw4,lf,ln,ha,rz,wz,rm,hf,rj,E8,sc,ap,Zn]<;>rfl))
   refine Goes.ops2 fits Hh Zb (by
    iterate 13 (refine J7 (by simp (maxSteps:=9^6) +decide (disch:=first|omega|(simp only[lens]<;>omega)|decide) only [go_sem,Za,simprocAttr,t1,t2,t10,t12,t16,t17,w,rw4,lf,ln,ha,rz,wz,rm,hf,rj,E8,sc,ap,Zn]<;>rfl) ?_)
    exact J8) ?_
   apply Goes.seq
   iterate 3 (first|apply Goes.seq|(apply Goes.ops2 fits Hh (Zt Zb c22); · simp (maxSteps:=9^6) +decide (disch:=first|omega|(simp only[lens]<;>omega)|decide) only [go_sem,Za,simprocAttr,Zw,t1,t2,t10,t12,t16,t17,w,rw4,lf,ln,ha,rz,wz,rm,hf,rj,E8,sc,ap,Zn]<;>rfl))
   refine Goes.ops2 fits Hh (Zt Zb c23) (by
    iterate 16 (refine J7 (by simp (maxSteps:=9^6) +decide (disch:=first|omega|(simp only[lens]<;>omega)|decide) only [go_sem,Za,simprocAttr,Zw,t1,t2,t10,t12,t16,t17,w,rw4,lf,ln,ha,rz,wz,rm,hf,rj,E8,sc,ap,Zn]<;>rfl) ?_)
    exact J8) ?_
   iterate 7 (first|apply Goes.seq|apply Goes.skip|((first|apply Goes.Zo|apply Goes.ops2 fits Hh Zb); · simp (maxSteps:=9^6) +decide (disch:=first|omega|(simp only[lens]<;>omega)|decide) only [go_sem,Za,simprocAttr,t1,t2,t10,t12,t16,t17,w,rw4,lf,ln,ha,rz,wz,rm,hf,rj,E8,sc,ap,Zn]<;>rfl))
   show Goes K Tryz.prog 206 none (q3 [1,1,1,1,1,1,1,1,1,1,0,1,2]) _ _ _ _
   refine (ih (i+1) V' (X :: l) _ hC (by omega) (MB.keep nC (fun p hp=>kC p (by omega))) oB ((kC p (by omega)).trans wB) ((kB.slb (Nat.le_refl _) nq sf).keep nC fun p _ hp=>kC p hp) (ar'.keep fun p hp=>(kC p (by omega)).trans (kb.low nq hp)) ⟨c',?_,sC⟩ ?_ ?_ ?_ ?_ ?_).mono ?_
   ·simp (maxSteps:=9^6) +decide (disch:=first|omega|(simp only[lens]<;>omega)|decide) only [go_sem,Zd,Za,simprocAttr]
   ·simp (maxSteps:=9^6) +decide (disch:=first|omega|(simp only[lens]<;>omega)|decide) only [go_sem,Zd,Za,simprocAttr,t1]
   ·simp (maxSteps:=9^6) +decide (disch:=first|omega|(simp only[lens]<;>omega)|decide) only [go_sem,Zd,Za,simprocAttr,t2']
   ·simp (maxSteps:=9^6) +decide (disch:=first|omega|(simp only[lens]<;>omega)|decide) only [go_sem,Zd,Za,simprocAttr,t10]
   ·simp (maxSteps:=9^6) +decide (disch:=first|omega|(simp only[lens]<;>omega)|decide) only [go_sem,Zd,Za,simprocAttr,t12']
   ·simp (maxSteps:=9^6) +decide (disch:=first|omega|(simp only[lens]<;>omega)|decide) only [go_sem,Zd,Za,simprocAttr]<;>rfl
   rintro x' ds' ts' h' ⟨w1,w2,w3,w4,w5,w6⟩
   refine⟨w1,w2,⟨by have:=w3.1; omega,fun p hp ho=>(w3.2 p hp ho).trans ((kC p (by omega)).trans (kb.2 p hp ho))⟩,w4,fun s hs=>(w5 s hs).trans ?_,w6⟩
   simp (decide:=true) only [Yk hs]
theorem Zw5 {b X:Nat} {cl:C} {l:List Nat} (ll:l.length≤100):∀ (k j:Nat) (ts:Zy) (h:Go.Ev.H),j+k=l.length→b≤h.next→SlI h cl l→(∀ p o n z,cl=.slice p o n z→p<b)→(∃ c,Zm ts 23=.w (.c c)∧SlB b h c (wo (l.take j) X))→Zm ts 16=.w (.c cl)→Zm ts 21=.w (.c (.int .i64 (X:Nat)))→Zm ts 24=.w (.c (.int .i64 (j:Nat))) →
  Goes K Tryz.prog 206 none (q3 [1,1,1,1,1,1,1,1,1,1,1,0,1,2,2,1,0,2,1,1,1,1,0,1,2]) [] ts h fun x ds' ts' h'=>x=.exit 6∧ds'=[]∧h.next≤h'.next∧(∀ p,p<b→h'.get p=h.get p)∧(∀ s,s≤22→Zm ts' s=Zm ts s)∧∃ c,Zm ts' 23=.w (.c c)∧SlB b h' c (wo l X):=by
 intro k
 induction k with
 | zero =>
  intro j ts h hj bh sl lb st t16 t21 t24
  obtain rfl:j=l.length:=by omega
  obtain⟨c,t23,s⟩:=st
  rw[List.take_length] at s
  obtain⟨lf,ln⟩:=Z33 sl
  iterate 6 (first|apply Goes.seq|apply Goes.exit|apply Goes.loop|((first|apply Goes.Zo|apply Goes.ops2 fits Hh Zb); · simp (maxSteps:=9^6) +decide (disch:=first|omega|(simp only[lens]<;>omega)|decide) only [go_sem,Zd,Za,simprocAttr,t16,t24,lf,ln,Zn]<;>rfl))
  refine⟨rfl,rfl,Nat.le_refl _,fun _ _=>rfl,fun s hs=>?_,c,?_,s⟩
  ·simp (decide:=true) only [Yk hs]
  ·simp (maxSteps:=9^6) +decide (disch:=first|omega|(simp only[lens]<;>omega)|decide) only [go_sem,Zd,Za,simprocAttr,t23]
 | succ k ih =>
  intro j ts h hj bh sl lb st t16 t21 t24
  have jl:j<l.length:=by omega
  obtain⟨x,hx⟩:∃ x,l[j]? = some x:=⟨_,List.getElem?_eq_getElem jl⟩
  have tk:l.take (j+1)=l.take j++[x]:=by rw[List.take_add_one,hx]; rfl
  obtain⟨c,t23,s⟩:=st
  have sl':=sl
  obtain⟨e0,_⟩|⟨p,_,rfl,hp⟩:=sl
  ·rw[e0] at jl; simp at jl
  have pb:=lb _ _ _ _ rfl
  have rd:=rdI hx
  have t16':=t16
  obtain⟨N,hN⟩:∃ N,l.length=N:=⟨_,rfl⟩
  obtain⟨R,hR⟩:∃ R,rwI l=R:=⟨_,rfl⟩
  rw[hR] at hp rd
  rw[hN] at t16' jl
  have lf:=Mq
  by_cases e:x=X
  ·subst e
   have ei:((x:Int) != (x:Int))=false:=Zpt rfl
   iterate 13 (first|apply Goes.seq|apply Goes.skip|apply Goes.block|apply Goes.loop|((first|apply Goes.Zo|apply Goes.ops2 fits Hh Zb); · simp (maxSteps:=9^6) +decide (disch:=first|omega|(simp only[lens]<;>omega)|decide) only [go_sem,Zd,Za,simprocAttr,t16',t21,t24,lf,hp,rd,ei,Zn,Yg]<;>rfl))
   show Goes K Tryz.prog 206 none (q3 [1,1,1,1,1,1,1,1,1,1,1,0,1,2,2,1,0,2,1,1,1,1,0,1,2]) _ _ _ _
   refine (ih (j+1) _ h (by omega) bh sl' lb ⟨c,?_,by rw[tk,Zpc,if_pos rfl]; exact s⟩ ?_ ?_ ?_).mono ?_
   ·simp (maxSteps:=9^6) +decide (disch:=first|omega|(simp only[lens]<;>omega)|decide) only [go_sem,Zd,Za,simprocAttr,t23]
   ·simp (maxSteps:=9^6) +decide (disch:=first|omega|(simp only[lens]<;>omega)|decide) only [go_sem,Zd,Za,simprocAttr,t16]
   ·simp (maxSteps:=9^6) +decide (disch:=first|omega|(simp only[lens]<;>omega)|decide) only [go_sem,Zd,Za,simprocAttr,t21]
   ·simp (maxSteps:=9^6) +decide (disch:=first|omega|(simp only[lens]<;>omega)|decide) only [go_sem,Zd,Za,simprocAttr]<;>rfl
   rintro x' ds' ts' h' ⟨w1,w2,w3,w4,w5,w6⟩
   refine⟨w1,w2,w3,w4,fun s hs=>(w5 s hs).trans ?_,w6⟩
   simp (decide:=true) only [Yk hs]
  ·have ei:((x:Int) != (X:Int))=true:=Zj8 (by omega)
   obtain⟨c',hC,ap,sC,nC,kC⟩:=Zqe s bh (by have:=List.length_filter_le (fun x=>decide (x≠X)) (l.take j); rw[List.length_take] at this; unfold wo; omega) x
   have sc:=Z1u s.1
   iterate 13 (first|apply Goes.seq|apply Goes.skip|apply Goes.block|apply Goes.loop|((first|apply Goes.Zo|apply Goes.ops2 fits Hh Zb); · simp (maxSteps:=9^6) +decide (disch:=first|omega|(simp only[lens]<;>omega)|decide) only [go_sem,Zd,Za,simprocAttr,t16',t21,t23,t24,lf,hp,rd,ei,E8,sc,ap,Zn,Yg]<;>rfl))
   show Goes K Tryz.prog 206 none (q3 [1,1,1,1,1,1,1,1,1,1,1,0,1,2,2,1,0,2,1,1,1,1,0,1,2]) _ _ _ _
   refine (ih (j+1) _ hC (by omega) (by omega) (sl'.keep fun p' o n z e=>kC p' (lb _ _ _ _ e)) lb ⟨c',?_,by rw[tk,Zpc,if_neg e]; exact sC⟩ ?_ ?_ ?_).mono ?_
   ·simp (maxSteps:=9^6) +decide (disch:=first|omega|(simp only[lens]<;>omega)|decide) only [go_sem,Zd,Za,simprocAttr]
   ·simp (maxSteps:=9^6) +decide (disch:=first|omega|(simp only[lens]<;>omega)|decide) only [go_sem,Zd,Za,simprocAttr,t16]
   ·simp (maxSteps:=9^6) +decide (disch:=first|omega|(simp only[lens]<;>omega)|decide) only [go_sem,Zd,Za,simprocAttr,t21]
   ·simp (maxSteps:=9^6) +decide (disch:=first|omega|(simp only[lens]<;>omega)|decide) only [go_sem,Zd,Za,simprocAttr]<;>rfl
   rintro x' ds' ts' h' ⟨w1,w2,w3,w4,w5,w6⟩
   refine⟨w1,w2,by omega,fun p' hp'=>(w4 p' hp').trans (kC p' hp'),fun s hs=>(w5 s hs).trans ?_,w6⟩
   simp (decide:=true) only [Yk hs]
theorem Zyp {n q p r d y N:Nat} {md:Int} {A:List Int} {cf ca:C} (N0:0<N) (N7:N≤7) (A3:A.length≤4000) (m1:1≤md∧md≤3) (pq:n+23≤p∧p<q):∀ (k i:Nat) (V:Nat→List Nat) (l:List Nat) (ts:Zy) (h:Go.Ev.H),i+k=A.length→HE n q 2 24 8 40 30 md S0 [] V h→OS V l N→h.get p=some (.row 4 [[.ptr (n+13) 0,.ptr r 0,.ptr d 0,.ptr y 0]] false)→SlB (q+9) h cf (fls N)→ArI n h ca A→(∃ c,Zm ts 16=.w (.c c)∧SlB (q+9) h c l)→Zm ts 1=.w (.c (.int .i64 (N:Nat)))→Zm ts 3=.w (.c ca)→Zm ts 10=.w (.c (.ptr p 0))→Zm ts 12=.w (.c cf)→Zm ts 20=.w (.c (.int .i64 (i:Nat))) →
  Goes K Tryz.prog 206 none (q3 [1,1,1,1,1,1,1,1,1,1,1,0,1,2]) [] ts h fun x ds' ts' h'=>x=.exit 4∧ds'=[]∧Kb n q h h'∧(∀ s,s≤15→Zm ts' s=Zm ts s)∧∃ V' l',HE n q 2 24 8 40 30 md S0 [] V' h'∧OS V' l' N∧∃ c,Zm ts' 16=.w (.c c)∧SlB (q+9) h' c l':=by
 intro k
 induction k with
 | zero =>
  intro i V l ts h hi M o w sf ar st t1 t3 t10 t12 t20
  obtain rfl:i=A.length:=by omega
  obtain⟨c,t16,s⟩:=st
  obtain⟨⟨lf,ln⟩,_⟩:=ar
  iterate 6 (first|apply Goes.seq|apply Goes.exit|apply Goes.loop|((first|apply Goes.Zo|apply Goes.ops2 fits Hh Zb); · simp (maxSteps:=9^6) +decide (disch:=first|omega|(simp only[lens]<;>omega)|decide) only [go_sem,Zd,Za,simprocAttr,t3,t20,lf,ln,Zn]<;>rfl))
  refine⟨rfl,rfl,⟨Nat.le_refl _,fun _ _ _=>rfl⟩,fun s hs=>?_,V,l,M,o,c,?_,s⟩
  ·simp (decide:=true) only [Yk hs]
  ·simp (maxSteps:=9^6) +decide (disch:=first|omega|(simp only[lens]<;>omega)|decide) only [go_sem,Zd,Za,simprocAttr,t16]
 | succ k ih =>
  intro i V l ts h hi M o w sf ar st t1 t3 t10 t12 t20
  obtain⟨c,t16,s⟩:=st
  have ar':=ar
  obtain⟨⟨lf,ln⟩,rfl|⟨pa,ro,pn,rfl,ha⟩⟩:=ar
  ·simp at hi
  have iA:i<A.length:=by omega
  obtain⟨nq,nx,n0⟩:=M.nx
  obtain⟨z,hz⟩:∃ z,A[i]? = some z:=⟨_,List.getElem?_eq_getElem iA⟩
  have rz:=rdZ hz
  have wz:=Zd4 z
  obtain⟨Z,hZ⟩:∃ Z,(z % 18446744073709551616).toNat=Z:=⟨_,rfl⟩
  rw[hZ] at wz
  have rm:=Bd (k:=.u64) (a:=Z) (b:=N) N0
  have kN:=Nat.mod_lt Z N0
  obtain⟨j,hj⟩:∃ j,Z % N=j:=⟨_,rfl⟩
  rw[hj] at rm kN
  have rj:=rdI (Zus kN)
  have sf':=sf
  obtain⟨⟨e0,_⟩|⟨pf,_,rfl,hf⟩,sb⟩:=sf'
  ·have:=Xb N; rw[e0] at this; simp at this; omega
  have t12':=t12
  rw[Xb] at t12
  have ol:=o.len
  obtain⟨hB,V',c31,MB,kB,oB⟩:=Z3y Hh o m1 M (i:=j+2) (by omega) (by omega) ⟨by decide,by simp⟩ ⟨by decide,by simp⟩ ⟨by decide,by simp⟩
  have s16:=kB.slb (Nat.le_refl _) nq s
  have c32:=Zz5 Hh (h:=hB) (l:=l) (by omega) s16.1 (j+2)
  have nB:=kB.1
  have nB9:=MB.nx.2.1
  have kb:Kb n q h hB:=⟨nB,fun p hp ho=>kB.2 p (by omega) ho⟩
  have wB:=(kb.2 p (by omega) ⟨⟨by omega,by omega,by omega,by omega,by omega⟩,by omega⟩).trans w
  have X2:2≤j+2∧j+2≤N+1:=by omega
  obtain⟨X,hX⟩:∃ X,j+2=X:=⟨_,rfl⟩
  obtain⟨R,hR⟩:∃ R,rwI (fls N)=R:=⟨_,rfl⟩
  obtain⟨Q,hQ⟩:∃ Q,Wy A=Q:=⟨_,rfl⟩
  obtain⟨G,hG⟩:∃ G,A.length=G:=⟨_,rfl⟩
  rw[hX] at c31 c32 rj oB X2
  rw[hR] at hf rj
  rw[hQ] at ha rz
  have t3':=t3
  rw[hG] at iA t3 lf ln
  obtain⟨e,bb,c31,c32,hcs⟩:∃ (e:Int) (bb:Bool),Zg K Tryz.prog 10 [.c (.ptr (n+13) 0),.c (.int .i64 (X:Int))] h (.w (.c (.int .i64 e))) hB∧Zg K Tryz.prog 9 [.c c,.c (.int .i64 (X:Int))] hB (.w (.c (.bool bb))) hB∧((e=0∧bb=true)∨(e=301∧bb=false)):=by
   refine⟨_,_,c31,c32,?_⟩
   by_cases mem:X∈l
   ·exact .inl ⟨if_pos mem,decide_eq_true mem⟩
   ·exact .inr ⟨if_neg mem,decide_eq_false mem⟩
  have i0:=oB.ino X X2.1 X2.2
  rw[Nc (fun h=>(Zin.1 h).2 rfl)] at i0
  have hGet:=fun {h:Go.Ev.H} (M:HE n q 2 24 8 40 30 md S0 [] V' h)=>Zgj Hh fine4 M (X:Int)
  simp only[i0] at hGet
  have il:(O9 1 1 1 0 0 0 0 0 0 0 0 0 0 0 0 ((0:Nat):Int)).length=16:=rfl
  have i15:read1 16 [O9 1 1 1 0 0 0 0 0 0 0 0 0 0 0 0 ((0:Nat):Int)] 15=some (.int .u32 0):=rfl
  obtain⟨Y,hY⟩:∃ Y,O9 1 1 1 0 0 0 0 0 0 0 0 0 0 0 0 ((0:Nat):Int)=Y:=⟨_,rfl⟩
  simp only[hY] at hGet il i15
  rcases hcs with ⟨rfl,rfl⟩|⟨rfl,rfl⟩
  all_goals
   iterate 9 (first|apply Goes.seq|apply Goes.skip|apply Goes.block|apply Goes.loop|((first|apply Goes.Zo|apply Goes.ops2 fits Hh Zb); · simp (maxSteps:=9^6) +decide (disch:=first|omega|(simp only[lens]<;>omega)|decide) only [go_sem,Za,simprocAttr,t1,t3,t10,t12,t16,t20,w,rw4,lf,ln,ha,rz,wz,rm,hf,rj,Zn]<;>rfl))
   refine Goes.ops2 fits Hh Zb (by
    iterate 13 (refine J7 (by simp (maxSteps:=9^6) +decide (disch:=first|omega|(simp only[lens]<;>omega)|decide) only [go_sem,Za,simprocAttr,t1,t3,t10,t12,t16,t20,w,rw4,lf,ln,ha,rz,wz,rm,hf,rj,Zn]<;>rfl) ?_)
    exact J8) ?_
   apply Goes.seq
   iterate 3 (first|apply Goes.seq|(apply Goes.ops2 fits Hh (Zt Zb c31); · simp (maxSteps:=9^6) +decide (disch:=first|omega|(simp only[lens]<;>omega)|decide) only [go_sem,Za,simprocAttr,Zw,t1,t3,t10,t12,t16,t20,w,rw4,lf,ln,ha,rz,wz,rm,hf,rj,Zn]<;>rfl))
   refine Goes.ops2 fits Hh (Zt Zb c32) (by
    iterate 16 (refine J7 (by simp (maxSteps:=9^6) +decide (disch:=first|omega|(simp only[lens]<;>omega)|decide) only [go_sem,Za,simprocAttr,Zw,t1,t3,t10,t12,t16,t20,w,rw4,lf,ln,ha,rz,wz,rm,hf,rj,Zn]<;>rfl) ?_)
    exact J8) ?_
   iterate 8 (first|apply Goes.seq|apply Goes.skip|apply Goes.block|((first|apply Goes.Zo|apply Goes.ops2 fits Hh Zb); · simp (maxSteps:=9^6) +decide (disch:=first|omega|(simp only[lens]<;>omega)|decide) only [go_sem,Za,simprocAttr,t1,t3,t10,t12,t16,t20,w,rw4,lf,ln,ha,rz,wz,rm,hf,rj,Zn]<;>rfl))
   refine (Zw5 Hh (b:=hB.next) (X:=X) (cl:=c) (l:=l) (by omega) l.length 0 _ hB (by omega) (Nat.le_refl _) s16.1 (fun p o n z e=>(s16.2 p o n z e).2) ⟨.snil,?_,.inl ⟨rfl,rfl⟩,fun p o n z e=>by cases e⟩ ?_ ?_ ?_).mono ?_
   ·simp (maxSteps:=9^6) +decide (disch:=first|omega|(simp only[lens]<;>omega)|decide) only [go_sem,Zd,Za,simprocAttr]<;>rfl
   ·simp (maxSteps:=9^6) +decide (disch:=first|omega|(simp only[lens]<;>omega)|decide) only [go_sem,Zd,Za,simprocAttr,t16]
   ·simp (maxSteps:=9^6) +decide (disch:=first|omega|(simp only[lens]<;>omega)|decide) only [go_sem,Zd,Za,simprocAttr]
   ·simp (maxSteps:=9^6) +decide (disch:=first|omega|(simp only[lens]<;>omega)|decide) only [go_sem,Zd,Za,simprocAttr]<;>rfl
   rintro x1 ds1 ts1 h6 ⟨rfl,rfl,n6,k6,q6,c6,u23,s6⟩
   have u10:Zm ts1 10=.w (.c (.ptr p 0)):=(q6 10 (by decide)).trans (by simp (maxSteps:=9^6) +decide (disch:=first|omega|(simp only[lens]<;>omega)|decide) only [go_sem,Zd,Za,simprocAttr,t10])
   have u20:Zm ts1 20=.w (.c (.int .i64 (i:Nat))):=(q6 20 (by decide)).trans (by simp (maxSteps:=9^6) +decide (disch:=first|omega|(simp only[lens]<;>omega)|decide) only [go_sem,Zd,Za,simprocAttr,t20])
   have u21:Zm ts1 21=.w (.c (.int .i64 (X:Nat))):=(q6 21 (by decide)).trans (by simp (maxSteps:=9^6) +decide (disch:=first|omega|(simp only[lens]<;>omega)|decide) only [go_sem,Zd,Za,simprocAttr])
   have qq:∀ s,s≤15→Zm ts1 s=Zm ts s:=fun s hs=>(q6 s (Nat.le_trans hs (by decide))).trans (by simp (decide:=true) only [Yk hs])
   have M6:=MB.keep n6 (fun p hp=>k6 p (by omega))
   obtain⟨hG',c41,MG,kG⟩:=hGet M6
   have w6:=(k6 p (by omega)).trans wB
   have nG:=kG.1
   clear q6
   iterate 3 (first|apply Goes.seq|(apply Goes.ops2 fits Hh Zb; · simp (maxSteps:=9^6) +decide (disch:=first|omega|(simp only[lens]<;>omega)|decide) only [go_sem,Za,simprocAttr,t1,t3,t10,t12,t16,t20,w,rw4,lf,ln,ha,rz,wz,rm,hf,rj,u10,u20,u21,u23,w6,il,i15,Zn]<;>rfl))
   iterate 6 (first|apply Goes.seq|apply Goes.skip|((first|apply Goes.Zo|apply Goes.ops2 fits Hh (Zt Zb c41)); · simp (maxSteps:=9^6) +decide (disch:=first|omega|(simp only[lens]<;>omega)|decide) only [go_sem,Za,simprocAttr,Zw,t1,t3,t10,t12,t16,t20,w,rw4,lf,ln,ha,rz,wz,rm,hf,rj,u10,u20,u21,u23,w6,il,i15,Zn]<;>rfl))
   show Goes K Tryz.prog 206 none (q3 [1,1,1,1,1,1,1,1,1,1,1,0,1,2]) _ _ _ _
   refine Goes.abs fun hD eD=>?_
   have nD:hD.next=hG'.next+1:=by rw[eD]; simp only[H.Zh,H.Zc]
   have kD:∀ p,p<hG'.next→hD.get p=hG'.get p:=fun p hp=>by rw[eD]; (first|(simp (discharger:=omega) only [H.get_put,H.Zf,H.Zk,H.Zc,H.Zh,H.Zi,if_neg]; done)|(simp only[H.get_put,H.Zf,H.Zk,H.Zc,H.Zh,H.Zi]; (repeat' split)<;>first|rfl|(exfalso; omega)|omega))
   clear eD
   have kk:∀ p,p<hB.next→p≠n+6→hD.get p=hB.get p:=fun p hp hne=>(kD p (by omega)).trans ((kG.2 p (by omega) hne).trans (k6 p hp))
   have s6':=(s6.mono (by omega:q+9≤hB.next)).keep (h':=hD) (by omega) (fun p h1 h2=>(kD p (by omega)).trans (kG.2 p (by omega) (by omega)))
   refine (ih (i+1) V' (wo l X) _ hD (by omega) (MG.keep (by omega) (fun p hp=>kD p (by have:=MG.nx.2.1; omega))) oB ((kk p (by omega) (by omega)).trans wB) ((kB.slb (Nat.le_refl _) nq sf).keep (by omega) fun p h1 h2=>kk p h2 (by omega)) (ar'.keep fun p hp=>(kk p (by omega) (by omega)).trans (kb.low nq hp)) ⟨c6,?_,s6'⟩ ?_ ?_ ?_ ?_ ?_).mono ?_
   ·simp (maxSteps:=9^6) +decide (disch:=first|omega|(simp only[lens]<;>omega)|decide) only [go_sem,Zd,Za,simprocAttr,u23]
   ·simp (maxSteps:=9^6) +decide (disch:=first|omega|(simp only[lens]<;>omega)|decide) only [go_sem,Zd,Za,simprocAttr,qq,t1]
   ·simp (maxSteps:=9^6) +decide (disch:=first|omega|(simp only[lens]<;>omega)|decide) only [go_sem,Zd,Za,simprocAttr,qq,t3']
   ·simp (maxSteps:=9^6) +decide (disch:=first|omega|(simp only[lens]<;>omega)|decide) only [go_sem,Zd,Za,simprocAttr,qq,t10]
   ·simp (maxSteps:=9^6) +decide (disch:=first|omega|(simp only[lens]<;>omega)|decide) only [go_sem,Zd,Za,simprocAttr,qq,t12']
   ·simp (maxSteps:=9^6) +decide (disch:=first|omega|(simp only[lens]<;>omega)|decide) only [go_sem,Zd,Za,simprocAttr]<;>rfl
   rintro x' ds' ts' h' ⟨w1,w2,w3,w4,w5⟩
   refine⟨w1,w2,⟨by have:=w3.1; omega,fun p hp ho=>(w3.2 p hp ho).trans ((kk p (by omega) ho.1.1).trans (kb.2 p hp ho))⟩,fun s hs=>(w4 s hs).trans ?_,w5⟩
   refine Eq.trans ?_ (qq s hs)
   simp (decide:=true) only [Yk hs]
end
end Go.Proofs.YtdkcjalmhdofcaaGreatDoor
set_option maxRecDepth 100000
set_option maxHeartbeats 4000000
namespace Go.Proofs.YtdkcjalmhdofcaaGreatDoor
open Go.Ev
noncomputable def q4 (p:List Nat):Code:=piece p (Jz Tryz.f4)
theorem rs4:Tryz.f4.results.toList=[.cell 0 27]:=rfl
attribute [go_sem] rs4
theorem lfB (p:Nat):Yr K 54 (.c (.slice p 0 90 256))=true:=by kernel_rfl
theorem lfT:Yr K 25 (.c .snil)=true:=by kernel_rfl
theorem ArI.mono {n n':Nat} {h:Go.Ev.H} {c:C} {A:List Int} (a:ArI n h c A) (le:n≤n'):ArI n' h c A :=
 ⟨a.1,a.2.imp id fun ⟨p,ro,h1,h2,h3⟩=>⟨p,ro,by omega,h2,h3⟩⟩
section
variable (Hh:Hearts K Tryz.prog)
include Hh
theorem Zyd (h:Go.Ev.H):∃ h',Zg K Tryz.prog 4 [] h (.w (.g [.int .i64 2,.int .i64 24,.int .i64 8,.int .i64 40,.int .u8 2,.snil])) h'∧h.next≤h'.next∧∀ m,m<h.next→h'.get m=h.get m:=by
 obtain⟨v,h',cc,rfl,nn,kk⟩:∃ v h',Zg K Tryz.prog 4 [] h v h'∧v=.w (.g [.int .i64 2,.int .i64 24,.int .i64 8,.int .i64 40,.int .u8 2,.snil])∧h.next≤h'.next∧∀ m,m<h.next→h'.get m=h.get m:=by
  refine Zg.Yb fits Hh (by kernel_rfl) (by kernel_rfl) (by kernel_rfl) (show Tryz.f4.body=some _ from rfl) rfl ?_
  iterate 5 (first|apply Goes.seq|apply Goes.ret|(apply Goes.ops2 fits Hh Zb; · simp (maxSteps:=9^6) +decide (disch:=first|omega|(simp only[lens]<;>omega)|decide) only [go_sem,Zd,Za,simprocAttr,read1]<;>rfl))
  refine⟨_,_,(by simp (maxSteps:=9^6) +decide (disch:=first|omega|(simp only[lens]<;>omega)|decide) only [go_sem,Zd,Za,simprocAttr]<;>rfl),rfl,?_,fun m hm=>?_⟩
  ·first|omega|(simp only[H.Zh,H.Zc]<;>omega)
  ·(first|(simp (discharger:=omega) only [H.get_put,H.Zf,H.Zk,H.Zc,H.Zh,H.Zi,if_neg]; done)|(simp only[H.get_put,H.Zf,H.Zk,H.Zc,H.Zh,H.Zi]; (repeat' split)<;>first|rfl|(exfalso; omega)|omega))
 exact⟨h',cc,nn,kk⟩
theorem Znu {c2 c3:C} {A R:List Int} {h:Go.Ev.H} (hst:h.get 0=some Ul) (l0:0<h.next) (a2:ArI h.next h c2 A) (a3:ArI h.next h c3 R) {mo:Nat} (mo1:mo<256) (nn:Int) :
  ∃ h',Zg K Tryz.prog 3 [.c (.int .u8 (mo:Int)),.c (.int .i64 nn),.c c2,.c c3] h (.w (.c (.bool true))) h':=by
 obtain⟨v,h',cc,rfl⟩:∃ v h',Zg K Tryz.prog 3 [.c (.int .u8 (mo:Int)),.c (.int .i64 nn),.c c2,.c c3] h v h'∧v=.w (.c (.bool true)):=by
  have lf2:=a2.1.1
  have ln2:=a2.1.2
  have lf3:=a3.1.1
  have ln3:=a3.1.2
  obtain⟨la,hla⟩:∃ n,A.length=n:=⟨_,rfl⟩
  obtain⟨lr,hlr⟩:∃ n,R.length=n:=⟨_,rfl⟩
  rw[hla] at ln2
  rw[hlr] at ln3
  by_cases g2:30<la
  ·have d2:decide ((30:Int)<(la:Int))=true:=decide_eq_true (by omega)
   refine Zg.Yb fits Hh (by kernel_rfl) (by kernel_rfl) (by kernel_rfl) (show Tryz.f3.body=some _ from rfl) rfl ?_
   iterate 4 (first|apply Goes.seq|(apply Goes.ops2 fits Hh Zb; · simp (maxSteps:=9^6) +decide (disch:=first|omega|(simp only[lens]<;>omega)|decide) only [go_sem,Zd,Za,simprocAttr,lf2,ln2,d2,Zn]<;>rfl))
   refine Goes.ops2 fits Hh Zb (by
    iterate 8 (refine J7 (by simp (maxSteps:=9^6) +decide (disch:=first|omega|(simp only[lens]<;>omega)|decide) only [go_sem,Zd,Za,simprocAttr,lf2,ln2,d2,Zn]<;>rfl) ?_)
    exact J8) ?_
   iterate 4 (first|apply Goes.seq|apply Goes.ret|((first|apply Goes.Zo|apply Goes.ops2 fits Hh Zb); · simp (maxSteps:=9^6) +decide (disch:=first|omega|(simp only[lens]<;>omega)|decide) only [go_sem,Zd,Za,simprocAttr,lf2,ln2,d2,Zn]<;>rfl))
   exact⟨_,_,(by simp (maxSteps:=9^6) +decide (disch:=first|omega|(simp only[lens]<;>omega)|decide) only [go_sem,Zd,Za,simprocAttr]<;>rfl),rfl⟩
  have d2:decide ((30:Int)<(la:Int))=false:=decide_eq_false (by omega)
  by_cases g3:30<lr
  ·have d3:decide ((30:Int)<(lr:Int))=true:=decide_eq_true (by omega)
   refine Zg.Yb fits Hh (by kernel_rfl) (by kernel_rfl) (by kernel_rfl) (show Tryz.f3.body=some _ from rfl) rfl ?_
   iterate 4 (first|apply Goes.seq|(apply Goes.ops2 fits Hh Zb; · simp (maxSteps:=9^6) +decide (disch:=first|omega|(simp only[lens]<;>omega)|decide) only [go_sem,Zd,Za,simprocAttr,lf2,ln2,d2,lf3,ln3,d3,Zn]<;>rfl))
   refine Goes.ops2 fits Hh Zb (by
    iterate 8 (refine J7 (by simp (maxSteps:=9^6) +decide (disch:=first|omega|(simp only[lens]<;>omega)|decide) only [go_sem,Zd,Za,simprocAttr,lf2,ln2,d2,lf3,ln3,d3,Zn]<;>rfl) ?_)
    exact J8) ?_
   iterate 4 (first|apply Goes.seq|apply Goes.ret|((first|apply Goes.Zo|apply Goes.ops2 fits Hh Zb); · simp (maxSteps:=9^6) +decide (disch:=first|omega|(simp only[lens]<;>omega)|decide) only [go_sem,Zd,Za,simprocAttr,lf2,ln2,d2,lf3,ln3,d3,Zn]<;>rfl))
   exact⟨_,_,(by simp (maxSteps:=9^6) +decide (disch:=first|omega|(simp only[lens]<;>omega)|decide) only [go_sem,Zd,Za,simprocAttr]<;>rfl),rfl⟩
  have d3:decide ((30:Int)<(lr:Int))=false:=decide_eq_false (by omega)
  have rm3:F6 .u8 (mo:Int) 3=some (.int .u8 ((mo % 3:Nat):Int)):=Bd (b:=3) (by omega)
  have k3:=Nat.mod_lt mo (show 0<3 by omega)
  obtain⟨k,hk⟩:∃ k,mo % 3=k:=⟨_,rfl⟩
  rw[hk] at rm3 k3
  have wz:=Zd4 nn
  obtain⟨Z,hZ⟩:∃ Z,(nn % 18446744073709551616).toNat=Z:=⟨_,rfl⟩
  rw[hZ] at wz
  have rm7:F6 .u64 (Z:Int) 7=some (.int .u64 ((Z % 7:Nat):Int)):=Bd (b:=7) (by omega)
  have j7:=Nat.mod_lt Z (show 0<7 by omega)
  obtain⟨j,hj⟩:∃ j,Z % 7=j:=⟨_,rfl⟩
  rw[hj] at rm7 j7
  have e1:(1:Int)+(j:Int)=((j+1:Nat):Int):=by omega
  obtain⟨N,hN⟩:∃ N,j+1=N:=⟨_,rfl⟩
  rw[hN] at e1
  have N0:0<N:=by omega
  have N7:N≤7:=by omega
  obtain⟨md,hmd⟩:∃ md:Int,1+(k:Int)=md:=⟨_,rfl⟩
  have m1:1≤md∧md≤3:=by omega
  have wmd:Yn .u8 (1+(k:Int))=.int .u8 md:=by rw[Zcr (by omega),hmd]
  obtain⟨hS,c3',nS,kS⟩:=Zyd Hh h
  refine Zg.Yb fits Hh (by kernel_rfl) (by kernel_rfl) (by kernel_rfl) (show Tryz.f3.body=some _ from rfl) rfl ?_
  iterate 4 (first|apply Goes.seq|(apply Goes.ops2 fits Hh Zb; · simp (maxSteps:=9^6) +decide (disch:=first|omega|(simp only[lens]<;>omega)|decide) only [go_sem,Za,simprocAttr,lf2,ln2,d2,lf3,ln3,d3,rm3,wmd,wz,rm7,e1,Zn,Z6,read1]<;>rfl))
  refine Goes.ops2 fits Hh Zb (by
   iterate 8 (refine J7 (by simp (maxSteps:=9^6) +decide (disch:=first|omega|(simp only[lens]<;>omega)|decide) only [go_sem,Za,simprocAttr,lf2,ln2,d2,lf3,ln3,d3,rm3,wmd,wz,rm7,e1,Zn,Z6,read1]<;>rfl) ?_)
   exact J8) ?_
  iterate 3 (first|apply Goes.seq|apply Goes.skip|(apply Goes.Zo; · simp (maxSteps:=9^6) +decide (disch:=first|omega|(simp only[lens]<;>omega)|decide) only [go_sem,Za,simprocAttr,lf2,ln2,d2,lf3,ln3,d3,rm3,wmd,wz,rm7,e1,Zn,Z6,read1]<;>rfl))
  iterate 4 (first|apply Goes.seq|(apply Goes.ops2 fits Hh (Zt Zb c3'); · simp (maxSteps:=9^6) +decide (disch:=first|omega|(simp only[lens]<;>omega)|decide) only [go_sem,Za,simprocAttr,Zw,lf2,ln2,d2,lf3,ln3,d3,rm3,wmd,wz,rm7,e1,Zn,Z6,read1]<;>rfl))
  refine Goes.abs fun hA eA=>?_
  have nA:hA.next=hS.next+1:=by rw[eA]; simp only[H.Zh,H.Zc]
  have kA:∀ m,m<h.next→hA.get m=h.get m:=fun m hm=>by rw[eA]; refine Eq.trans ?_ (kS m hm); (first|(simp (discharger:=omega) only [H.get_put,H.Zf,H.Zk,H.Zc,H.Zh,H.Zi,if_neg]; done)|(simp only[H.get_put,H.Zf,H.Zk,H.Zc,H.Zh,H.Zi]; (repeat' split)<;>first|rfl|(exfalso; omega)|omega))
  have sA:hA.get hS.next=some (.row 6 [[.int .i64 2,.int .i64 24,.int .i64 8,.int .i64 40,.int .u8 md,.snil]] false):=by rw[eA]; simp (maxSteps:=9^6) +decide (disch:=first|omega|(simp only[lens]<;>omega)|decide) only [go_sem,Za,simprocAttr]<;>rfl
  clear eA
  obtain⟨hW,n,d,d1,d2',r,y,c5,MW,nW,kW⟩:=Zzp Hh m1.1 m1.2 (h:=hA) ((kA 0 l0).trans hst) (by omega) lfB lfT
  refine Goes.ops2 fits Hh (Zt Zb c5) (by
   iterate 8 (refine J7 (by simp (maxSteps:=9^6) +decide (disch:=first|omega|(simp only[lens]<;>omega)|decide) only [go_sem,Za,simprocAttr,Zw,lf2,ln2,d2,lf3,ln3,d3,rm3,wmd,wz,rm7,e1,sA,Zn,Z6,read1]<;>rfl) ?_)
   exact J8) ?_
  iterate 2 (apply Goes.seq)
  refine Goes.abs fun hC eC=>?_
  have nC:hC.next=hW.next+1:=by rw[eC]; simp only[H.Zh,H.Zc]
  have kC:∀ m,m<hW.next→hC.get m=hW.get m:=fun m hm=>by rw[eC]; (first|(simp (discharger:=omega) only [H.get_put,H.Zf,H.Zk,H.Zc,H.Zh,H.Zi,if_neg]; done)|(simp only[H.get_put,H.Zf,H.Zk,H.Zc,H.Zh,H.Zi]; (repeat' split)<;>first|rfl|(exfalso; omega)|omega))
  have pC:hC.get hW.next=some (.row 4 [[.ptr (n+13) 0,.ptr r 0,.ptr d 0,.ptr y 0]] false):=by rw[eC]; simp (maxSteps:=9^6) +decide (disch:=first|omega|(simp only[lens]<;>omega)|decide) only [go_sem,Za,simprocAttr]<;>rfl
  clear eC
  have wx:=MW.nx
  have MC:=MW.keep (h2:=hC) (by omega) (fun m hm=>kC m (by omega))
  have c6:=Zoi Hh (MC.beg fine4 (cr:=30) rfl)
  have HB:=MC.begun (S:=S0) (V:=V4) (cr:=30) (by decide) (fun z z1 _=>Z1m z z1)
  have kD:=fun m hm m1 m2=>Og (h:=hC) (m:=m) MC.nx hm m1 m2 30
  obtain⟨hD,eD⟩:∃ x,Zbi n hC 30=x:=⟨_,rfl⟩
  rw[eD] at c6 HB
  simp only[eD] at kD
  obtain⟨q,hq⟩:∃ q,hC.next=q:=⟨_,rfl⟩
  rw[hq] at HB
  have nD:=HB.nx
  have pD:=(kD hW.next (by omega) (by omega) (by omega)).trans pC
  have kk:∀ m,m<h.next→hD.get m=h.get m:=fun m hm=>(kD m (by omega) (by omega) (by omega)).trans ((kC m (by omega)).trans ((kW m (by omega)).trans (kA m hm)))
  have b2:=(a2.keep (h':=hD) kk).mono (by omega:h.next≤n)
  have b3:=(a3.keep (h':=hD) kk).mono (by omega:h.next≤n)
  obtain⟨p,hp⟩:∃ p,hW.next=p:=⟨_,rfl⟩
  have pq:n+23≤p∧p<q:=by omega
  refine Goes.ops2 fits Hh (Zt Zb c6) (by
   iterate 8 (refine J7 (by simp (maxSteps:=9^6) +decide (disch:=first|omega|(simp only[lens]<;>omega)|decide) only [go_sem,Za,simprocAttr,Zw,lf2,ln2,d2,lf3,ln3,d3,rm3,wmd,wz,rm7,e1,sA,pC,Zn,Z6,read1]<;>rfl) ?_)
   exact J8) ?_
  iterate 10 (first|apply Goes.seq|apply Goes.skip|apply Goes.block|((first|apply Goes.Zo|apply Goes.ops2 fits Hh Zb); · simp (maxSteps:=9^6) +decide (disch:=first|omega|(simp only[lens]<;>omega)|decide) only [go_sem,Za,simprocAttr,lf2,ln2,d2,lf3,ln3,d3,rm3,wmd,wz,rm7,e1,sA,pC,Zn,Z6,read1]<;>rfl))
  rw[hp] at pD
  refine (Zsz Hh (n:=n) (q:=q) (p:=p) (r:=r) (d:=d) (y:=y) (md:=md) N7 pq N 0 V4 _ hD (by omega) HB TS.init pD ⟨.snil,?_,.inl ⟨rfl,rfl⟩,fun p o n z e=>by cases e⟩ ?_ ?_ ?_).mono ?_
  ·simp (maxSteps:=9^6) +decide (disch:=first|omega|(simp only[lens]<;>omega)|decide) only [go_sem,Zd,Za,simprocAttr]<;>rfl
  ·simp (maxSteps:=9^6) +decide (disch:=first|omega|(simp only[lens]<;>omega)|decide) only [go_sem,Zd,Za,simprocAttr]<;>rfl
  ·simp (maxSteps:=9^6) +decide (disch:=first|omega|(simp only[lens]<;>omega)|decide) only [go_sem,Zd,Za,simprocAttr,hp]<;>rfl
  ·simp (maxSteps:=9^6) +decide (disch:=first|omega|(simp only[lens]<;>omega)|decide) only [go_sem,Zd,Za,simprocAttr]<;>rfl
  rintro x1 ds1 ts1 h1 ⟨rfl,rfl,k1,q1,⟨V1,M1,o1⟩,cf,u12,s1⟩
  have u1:Zm ts1 1=.w (.c (.int .i64 (N:Nat))):=(q1 1 (by decide)).trans (by simp (maxSteps:=9^6) +decide (disch:=first|omega|(simp only[lens]<;>omega)|decide) only [go_sem,Zd,Za,simprocAttr])
  have u2:Zm ts1 2=.w (.c c2):=(q1 2 (by decide)).trans (by simp (maxSteps:=9^6) +decide (disch:=first|omega|(simp only[lens]<;>omega)|decide) only [go_sem,Zd,Za,simprocAttr]<;>rfl)
  have u3:Zm ts1 3=.w (.c c3):=(q1 3 (by decide)).trans (by simp (maxSteps:=9^6) +decide (disch:=first|omega|(simp only[lens]<;>omega)|decide) only [go_sem,Zd,Za,simprocAttr]<;>rfl)
  have u10:Zm ts1 10=.w (.c (.ptr p 0)):=(q1 10 (by decide)).trans (by simp (maxSteps:=9^6) +decide (disch:=first|omega|(simp only[lens]<;>omega)|decide) only [go_sem,Zd,Za,simprocAttr,hp])
  have p1:=(k1.2 p (by omega) ⟨⟨by omega,by omega,by omega,by omega,by omega⟩,by omega⟩).trans pD
  have b2:=b2.keep (fun p hp=>k1.low nD.1 hp)
  have b3:=b3.keep (fun p hp=>k1.low nD.1 hp)
  clear q1
  iterate 6 (first|apply Goes.seq|apply Goes.block|(apply Goes.ops2 fits Hh Zb; · simp (maxSteps:=9^6) +decide (disch:=first|omega|(simp only[lens]<;>omega)|decide) only [go_sem,Za,simprocAttr,lf2,ln2,d2,lf3,ln3,d3,rm3,wmd,wz,rm7,e1,sA,pC,u1,u2,u3,u10,u12,Zn,Z6,read1]<;>rfl))
  refine (Zyc Hh (n:=n) (q:=q) (p:=p) (r:=r) (d:=d) (y:=y) (md:=md) N0 N7 (by omega) m1 pq A.length 0 V1 [] _ h1 (by omega) M1 (o1.os N7) p1 s1 b2 ⟨.snil,?_,.inl ⟨rfl,rfl⟩,fun p o n z e=>by cases e⟩ ?_ ?_ ?_ ?_ ?_).mono ?_
  ·simp (maxSteps:=9^6) +decide (disch:=first|omega|(simp only[lens]<;>omega)|decide) only [go_sem,Zd,Za,simprocAttr]<;>rfl
  ·simp (maxSteps:=9^6) +decide (disch:=first|omega|(simp only[lens]<;>omega)|decide) only [go_sem,Zd,Za,simprocAttr,u1]
  ·simp (maxSteps:=9^6) +decide (disch:=first|omega|(simp only[lens]<;>omega)|decide) only [go_sem,Zd,Za,simprocAttr,u2]
  ·simp (maxSteps:=9^6) +decide (disch:=first|omega|(simp only[lens]<;>omega)|decide) only [go_sem,Zd,Za,simprocAttr,u10]
  ·simp (maxSteps:=9^6) +decide (disch:=first|omega|(simp only[lens]<;>omega)|decide) only [go_sem,Zd,Za,simprocAttr,u12]
  ·simp (maxSteps:=9^6) +decide (disch:=first|omega|(simp only[lens]<;>omega)|decide) only [go_sem,Zd,Za,simprocAttr]<;>rfl
  rintro x2 ds2 ts2 h2 ⟨rfl,rfl,k2,s2,q2,V2,l,M2,o2,cl,v16,sl⟩
  have v1:Zm ts2 1=.w (.c (.int .i64 (N:Nat))):=(q2 1 (by decide)).trans (by simp (maxSteps:=9^6) +decide (disch:=first|omega|(simp only[lens]<;>omega)|decide) only [go_sem,Zd,Za,simprocAttr,u1])
  have v3:Zm ts2 3=.w (.c c3):=(q2 3 (by decide)).trans (by simp (maxSteps:=9^6) +decide (disch:=first|omega|(simp only[lens]<;>omega)|decide) only [go_sem,Zd,Za,simprocAttr,u3])
  have v10:Zm ts2 10=.w (.c (.ptr p 0)):=(q2 10 (by decide)).trans (by simp (maxSteps:=9^6) +decide (disch:=first|omega|(simp only[lens]<;>omega)|decide) only [go_sem,Zd,Za,simprocAttr,u10])
  have v12:Zm ts2 12=.w (.c cf):=(q2 12 (by decide)).trans (by simp (maxSteps:=9^6) +decide (disch:=first|omega|(simp only[lens]<;>omega)|decide) only [go_sem,Zd,Za,simprocAttr,u12])
  have p2:=(k2.2 p (by omega) ⟨⟨by omega,by omega,by omega,by omega,by omega⟩,by omega⟩).trans p1
  have b3:=b3.keep (fun p hp=>k2.low nD.1 hp)
  clear q2
  iterate 4 (first|apply Goes.seq|apply Goes.block|(apply Goes.ops2 fits Hh Zb; · simp (maxSteps:=9^6) +decide (disch:=first|omega|(simp only[lens]<;>omega)|decide) only [go_sem,Za,simprocAttr,lf2,ln2,d2,lf3,ln3,d3,rm3,wmd,wz,rm7,e1,sA,pC,u1,u2,u3,u10,u12,v1,v3,v10,v12,v16,Zn,Z6,read1]<;>rfl))
  refine (Zyp Hh (n:=n) (q:=q) (p:=p) (r:=r) (d:=d) (y:=y) (md:=md) N0 N7 (by omega) m1 pq R.length 0 V2 l _ h2 (by omega) M2 o2 p2 s2 b3 ⟨cl,?_,sl⟩ ?_ ?_ ?_ ?_ ?_).mono ?_
  ·simp (maxSteps:=9^6) +decide (disch:=first|omega|(simp only[lens]<;>omega)|decide) only [go_sem,Zd,Za,simprocAttr,v16]
  ·simp (maxSteps:=9^6) +decide (disch:=first|omega|(simp only[lens]<;>omega)|decide) only [go_sem,Zd,Za,simprocAttr,v1]
  ·simp (maxSteps:=9^6) +decide (disch:=first|omega|(simp only[lens]<;>omega)|decide) only [go_sem,Zd,Za,simprocAttr,v3]
  ·simp (maxSteps:=9^6) +decide (disch:=first|omega|(simp only[lens]<;>omega)|decide) only [go_sem,Zd,Za,simprocAttr,v10]
  ·simp (maxSteps:=9^6) +decide (disch:=first|omega|(simp only[lens]<;>omega)|decide) only [go_sem,Zd,Za,simprocAttr,v12]
  ·simp (maxSteps:=9^6) +decide (disch:=first|omega|(simp only[lens]<;>omega)|decide) only [go_sem,Zd,Za,simprocAttr]<;>rfl
  rintro x3 ds3 ts3 h3 ⟨rfl,rfl,k3',q3',V3,l3,M3,o3,c16,w16,s3⟩
  have w10:Zm ts3 10=.w (.c (.ptr p 0)):=(q3' 10 (by decide)).trans (by simp (maxSteps:=9^6) +decide (disch:=first|omega|(simp only[lens]<;>omega)|decide) only [go_sem,Zd,Za,simprocAttr,v10])
  have p3:=(k3'.2 p (by omega) ⟨⟨by omega,by omega,by omega,by omega,by omega⟩,by omega⟩).trans p2
  obtain⟨h4,cg,c44,M4,k4,s4⟩:=Zvx Hh o3 m1 M3
  have s3':=s3.keep k4.1 (fun p h1 h2=>k4.2 p h2 (by omega))
  have ol:=o3.len
  have c45:=Z0n Hh (h:=h4) (l:=l3) (by omega) s4.1 s3'.1
  clear q3'
  apply Goes.seq
  refine Goes.ops2 fits Hh (Zt Zb c44) (by
   iterate 8 (refine J7 (by simp (maxSteps:=9^6) +decide (disch:=first|omega|(simp only[lens]<;>omega)|decide) only [go_sem,Za,simprocAttr,Zw,lf2,ln2,d2,lf3,ln3,d3,rm3,wmd,wz,rm7,e1,sA,pC,u1,u2,u3,u10,u12,v1,v3,v10,v12,v16,w10,w16,p3,Zn,Z6,read1]<;>rfl) ?_)
   exact J8) ?_
  apply Goes.seq
  refine Goes.ops2 fits Hh (Zt Zb c45) (by
   iterate 8 (refine J7 (by simp (maxSteps:=9^6) +decide (disch:=first|omega|(simp only[lens]<;>omega)|decide) only [go_sem,Za,simprocAttr,Zw,lf2,ln2,d2,lf3,ln3,d3,rm3,wmd,wz,rm7,e1,sA,pC,u1,u2,u3,u10,u12,v1,v3,v10,v12,v16,w10,w16,p3,Zn,Z6,read1]<;>rfl) ?_)
   exact J8) ?_
  apply Goes.ret
  exact⟨_,_,(by simp (maxSteps:=9^6) +decide (disch:=first|omega|(simp only[lens]<;>omega)|decide) only [go_sem,Zd,Za,simprocAttr]<;>rfl),rfl⟩
 exact⟨h',cc⟩
end
end Go.Proofs.YtdkcjalmhdofcaaGreatDoor
set_option maxRecDepth 100000
namespace Go.Proofs.YtdkcjalmhdofcaaGreatDoor
open Go.Ev Go.ChangeShapes Go.WideShapes
def Zdx (W:World) (v:Value):Prop:=v=.slice none 0 0∨∃ b o sp len cap,v=.slice (some ⟨b,o,sp⟩) len cap∧len≤cap∧(cap=0∨sp=none∧∃ cl t fr,W.heap[b]? = some (.cells cl t fr)∧o+cap≤cl.size∧∀ i,i<cap→∃ B:Int,cl[o+i]? = some (.int .i64 B))
theorem open_ints {H:Type} {enc:TypeId × Value→H} {W:World} {base b0:Nat} {r:Reach} {v:Value} {d:DataW H} {p:List MemPlace} (hv:Value.okWide Tryz.prog W r b0 22 v) (h:DataW.Trod enc Tryz.prog W base (fun _=>true) true 22 v d p) (hb:base=0):∃ w:Value,v=w∧Zdx W w:=by
 subst hb
 refine⟨v,rfl,?_⟩
 obtain⟨sa,sl,sc,rfl⟩:=okWide_slice Tryz.underlying22 hv
 obtain⟨fuel,hf0⟩:=h
 have hf:DataW.trod enc Tryz.prog W 0 (fun _=>true) true fuel 22 [.slice sa sl sc]=_:=hf0
 rcases DataW.trod_slice Tryz.underlying22 hf with ⟨h0,_⟩|⟨⟨b,o,sp⟩,len,cap,elems,rest,n,rfl,h0,_,_,hl,_,hlen,hel,hsp,_⟩
 ·exact .inl (List.cons.inj h0).1
 have h1:=(List.cons.inj h0).1
 refine .inr ⟨b,o,sp,len,cap,h1,hl,?_⟩
 rcases Nat.eq_zero_or_pos cap with c0|c0
 ·exact .inl c0
 right
 have c2:Tryz.prog.cellsOf 3=1:=by kernel_rfl
 obtain⟨hrl,hr⟩:=hsp rfl
 rw[c2] at hel hr
 have each:∀ i,i<cap→∃ B:Int,W.cell? ((⟨b,o,sp⟩:Addr).add (i * 1))=some (.int .i64 B):=by
  intro i hi
  have key:∃ y,(W.cells? 0 ((⟨b,o,sp⟩:Addr).add (i * 1)) 1).bind (DataW.trod enc Tryz.prog W 0 (fun _=>true) true n 3)=some y:=by
   by_cases h1:i<len
   ·exact⟨_,(hel i h1).trans (List.getElem?_eq_getElem (by omega))⟩
   ·have:=hr (i - len) (by omega)
    rw[show len+(i - len)=i by omega] at this
    exact⟨_,this.trans (List.getElem?_eq_getElem (by omega))⟩
  obtain⟨y,hy⟩:=key
  obtain⟨cs',h1,h2⟩:=Option.bind_eq_some_iff.1 hy
  obtain⟨hl2,hc⟩:=Zsl h1
  match cs',hl2 with
  | [v0],_ =>
   obtain⟨B,e1,_,_⟩:=DataW.trod_int Tryz.underlying3 h2
   cases e1
   refine⟨B,?_⟩
   have:=hc 0 (by omega)
   rw[show ((⟨b,o,sp⟩:Addr).add (i * 1)).add 0=(⟨b,o,sp⟩:Addr).add (i * 1) by unfold Addr.add; split<;>simp_all] at this
   exact this
 obtain⟨B0,q0⟩:=each 0 c0
 have hspot:sp=none:=by simpa [Addr.add] using World.cell?_spot q0
 subst hspot
 refine⟨rfl,?_⟩
 have at':∀ i,(⟨b,o,none⟩:Addr).add (i * 1)=⟨b,o+i * 1,none⟩:=fun i=>Go.WideShapes.add_plain b o (i * 1)
 rw[at' 0] at q0
 unfold World.cell? at q0
 split at q0
 ·rename_i cl t fr hb
  have hb':W.heap[b]? = some (.cells cl t fr):=hb
  have cell:∀ k,W.cell? ⟨b,k,none⟩=cl[k]?:=fun k=>by
   unfold World.cell?
   rw[show W.heap[(⟨b,k,none⟩:Addr).block]? = some (.cells cl t fr) from hb']
   rfl
  have each':∀ i,i<cap→∃ B:Int,cl[o+i]? = some (.int .i64 B):=fun i hi=>by
   obtain⟨B,e1⟩:=each i hi
   rw[at',cell,Nat.mul_one] at e1
   exact⟨B,e1⟩
  refine⟨cl,t,fr,hb',?_,each'⟩
  obtain⟨B,e2⟩:=each' (cap - 1) (by omega)
  have:=(Array.getElem?_eq_some_iff.1 e2).1
  omega
 ·cases q0
def intOf (cl:Array Value) (o i:Nat):Int:=match cl[o+i]? with
 | some (.int .i64 B)=>B
 | _=>0
theorem Zdx.ari {W:World} {v:Value} (k:Nat) (ok:Zdx W v):∃ (c:C) (A:List Int) (a:Option (List Int)) (l:Go.Ev.Loc),(∀ ρ:Ren,ρ k=some l→Jc ρ (.c c) v)∧(∀ (ρ:Ren) A',a=some A'→O6 ρ W (.row 1 (Wy A') true) l)∧(Yr K 22 (.c c)=true∧∀ h,Yg K h 22 (.c c)=some (.int .i64 (A.length:Nat)))∧(A=[]∨c=.slice k 0 A.length 1∧a=some A):=by
 rcases ok with rfl|⟨bk,o,sp,len,cap,rfl,hlc,hc⟩
 ·exact⟨.snil,[],none,⟨0,0,0⟩,fun ρ _=>rfl,fun _ _ e=>(by cases e),⟨Xl,fun _=>rfl⟩,.inl rfl⟩
 ·rcases hc with c0|⟨rfl,cl,t,fr,hb,hsz,each⟩
  ·subst c0
   obtain rfl:len=0:=by omega
   exact⟨.slice k 0 0 1,[],none,⟨0,0,0⟩,fun ρ e=>⟨⟨0,0,0⟩,_,_,e,rfl,.inl ⟨rfl,rfl⟩⟩,fun _ _ e=>(by cases e),⟨Mq ..,fun _=>rfl⟩,.inl rfl⟩
  ·have pl:((List.range len).map (intOf cl o)).length=len:=by rw[List.length_map,List.length_range]
   refine⟨.slice k 0 len 1,(List.range len).map (intOf cl o),some ((List.range len).map (intOf cl o)),⟨bk,o,cl.size⟩,fun ρ e=>⟨⟨bk,o,cl.size⟩,_,_,e,rfl,.inr ⟨rfl,hlc,by show o+0+cap * 1≤cl.size; omega⟩⟩,fun ρ A' e=>?_,⟨Mq ..,fun _=>by rw[pl]; rfl⟩,.inr ⟨by rw[pl],rfl⟩⟩
   cases e
   refine⟨cl,t,fr,hb,rfl,fun h=>(by cases h),fun p hp=>?_,fun i c hi=>?_⟩
   ·obtain⟨z,_,rfl⟩:=List.mem_map.1 hp
    rfl
   ·unfold read1 Wy at hi
    rw[Nat.div_one,Nat.mod_one,List.map_map,List.getElem?_map] at hi
    by_cases h1:i<len
    ·rw[List.getElem?_range h1] at hi
     obtain⟨B,e⟩:=each i (by omega)
     have ei:intOf cl o i=B:=by unfold intOf; rw[e]
     simp only[Option.map_some,Function.comp_apply,ei] at hi
     cases hi
     exact⟨_,e,rfl⟩
    ·rw[List.getElem?_eq_none (by rw[List.length_range]; omega)] at hi
     cases hi
noncomputable def Zvh (n:Nat) (a:Option (List Int)) (h:Go.Ev.H):Go.Ev.H:=match a with
 | none=>h
 | some A=>h.put n (.row 1 (Wy A) true)
theorem Zkc {n m:Nat} {a:Option (List Int)} {h:Go.Ev.H} {o:O} (e:(Zvh n a h).get m=some o):(m=n∧∃ A,a=some A∧o=.row 1 (Wy A) true)∨h.get m=some o:=by
 cases a with
 | none=>exact .inr e
 | some A =>
  have e':(h.put n (.row 1 (Wy A) true)).get m=some o:=e
  rw[H.get_put] at e'
  split at e'
  ·rename_i q; cases e'; exact .inl ⟨q,A,rfl,rfl⟩
  ·exact .inr e'
theorem Zih {n m:Nat} (a:Option (List Int)) (h:Go.Ev.H) (ne:m≠n):(Zvh n a h).get m=h.get m:=by
 cases a with
 | none=>rfl
 | some A=>exact Zu ne
theorem Fy (n:Nat) (a:Option (List Int)) (h:Go.Ev.H):(Zvh n a h).next=h.next:=by
 cases a with
 | none=>rfl
 | some A=>exact H.Zh ..
noncomputable def Lv (a b:Option (List Int)):Go.Ev.H:=Zvh 2 b (Zvh 1 a ⟨F3.m,3⟩)
def Zku (la lb:Go.Ev.Loc):Go.Ev.Ren:=fun n=>if n=2 then some lb else if n=1 then some la else if n=0 then some ⟨0,0,16⟩ else none
theorem Zrt (la lb:Go.Ev.Loc):Dom (Zku la lb) 3:=fun n hn=>by
 unfold Zku
 rw[if_neg (by omega),if_neg (by omega),if_neg (by omega)]
theorem Zhf {a b:Option (List Int)} {n:Nat} {o:O} (e:(Lv a b).get n=some o):(n=2∧∃ A,b=some A∧o=.row 1 (Wy A) true)∨(n=1∧∃ A,a=some A∧o=.row 1 (Wy A) true)∨F3.get n=some o:=by
 rcases Zkc e with q|q
 ·exact .inl q
 ·rcases Zkc q with q|q
  ·exact .inr (.inl q)
  ·exact .inr (.inr q)
theorem Zdk {a b:Option (List Int)} {n:Nat} {o:O} (e:(Lv a b).get n=some o):o.ro=true:=by
 rcases Zhf e with ⟨_,A,_,rfl⟩|⟨_,A,_,rfl⟩|q
 ·rfl
 ·rfl
 ·rw[(Bq q).2]; rfl
theorem Zt8 {W:World} {cs:Array Value} {t:TypeId} {fr:Nat × Nat} (hb:W.heap[0]? = some (.cells cs t fr)) (hcs:cs.toList=steps16.map (Value.int .u32)) {a b:Option (List Int)} {la lb:Go.Ev.Loc} (ha:∀ (ρ:Ren) A,a=some A→O6 ρ W (.row 1 (Wy A) true) la) (hb2:∀ (ρ:Ren) A,b=some A→O6 ρ W (.row 1 (Wy A) true) lb):Rep K (Zku la lb) (Lv a b) W:=by
 have R:=Zay gl hb hcs
 refine⟨fun g n h=>?_,fun n o h=>?_,fun n n' o o' l l' hne h h' _ _ hq=>?_⟩
 ·obtain⟨rfl,rfl⟩:=Tf gl h
  exact⟨16,rfl⟩
 ·rcases Zhf h with ⟨rfl,A,e,rfl⟩|⟨rfl,A,e,rfl⟩|q
  ·exact⟨lb,rfl,hb2 _ A e⟩
  ·exact⟨la,rfl,ha _ A e⟩
  ·obtain⟨l0,hl0,hor⟩:=R.obj n o q
   obtain⟨rfl,rfl⟩:=Bq q
   refine⟨l0,hl0,?_⟩
   have hs:(O.row 16 [steps16.map (C.int .u32)] true).simple=true:=rfl
   exact (Vm (σ:=fun _=>0) (ρ:=Zku la lb) (w:=W) hs l0).2 ((Vm (σ:=fun _=>0) (ρ:=Mk 0) (w:=W) hs l0).1 hor)
 ·rw[Zdk h,Zdk h'] at hq
  rcases hq with q|q<;>cases q
theorem wf_u8 {n:Int} (h:(Lit.int .u8 n).wf=true):0≤n∧n<256:=by
 simp [Lit.wf,IntKind.min,IntKind.max,IntKind.signed,IntKind.bits] at h
 omega
section
variable (Hh:Hearts K Tryz.prog)
include Hh
theorem Zs0 {W:World} {cs:Array Value} {t:TypeId} {fr:Nat × Nat} (hb:W.heap[0]? = some (.cells cs t fr)) (hcs:cs.toList=steps16.map (Value.int .u32)) (md nn:Int) (wf:(Lit.int .u8 md).wf=true) {v2 v3:Value} (ok2:Zdx W v2) (ok3:Zdx W v3) :
  Calls Tryz.prog 3 #[.int .u8 md,.int .i64 nn,v2,v3] W fun e W'=>e=.returned (.bool true)∧Go.RowKit.Below W.heap.size W W':=by
 obtain⟨m0,m1⟩:=wf_u8 wf
 obtain⟨mo,rfl⟩:=Int.eq_ofNat_of_zero_le m0
 obtain⟨c2,A,a,la,k2,o2,l2,s2⟩:=ok2.ari 1
 obtain⟨c3,B,b,lb,k3,o3,l3,s3⟩:=ok3.ari 2
 have a2:ArI (Lv a b).next (Lv a b) c2 A:=by
  refine⟨l2,s2.imp id fun ⟨e,e2⟩=>⟨1,true,?_,e,?_⟩⟩
  ·unfold Lv; rw[Fy,Fy]; exact (by omega:1<3)
  ·subst e2
   unfold Lv
   rw[Zih _ _ (by omega)]
   exact Yh ..
 have a3:ArI (Lv a b).next (Lv a b) c3 B:=by
  refine⟨l3,s3.imp id fun ⟨e,e2⟩=>⟨2,true,?_,e,?_⟩⟩
  ·unfold Lv; rw[Fy,Fy]; exact (by omega:2<3)
  ·subst e2
   exact Yh ..
 have h0:(Lv a b).get 0=some Ul:=by
  unfold Lv
  rw[Zih _ _ (by omega),Zih _ _ (by omega)]
  rfl
 have nx:(Lv a b).next=3:=by unfold Lv; rw[Fy,Fy]
 obtain⟨h',cc⟩:=Znu Hh h0 (by omega) a2 a3 (mo:=mo) (by omega) nn
 exact Zh8 (ρ:=Zku la lb) (vals:=[.int .u8 (mo:Int),.int .i64 nn,v2,v3]) (Zt8 hb hcs o2 o3) (by rw[nx]; exact Zrt la lb) (fun n o e=>Zdk e) cc ⟨rfl,rfl,k2 _ rfl,k3 _ rfl,trivial⟩
end
end Go.Proofs.YtdkcjalmhdofcaaGreatDoor
