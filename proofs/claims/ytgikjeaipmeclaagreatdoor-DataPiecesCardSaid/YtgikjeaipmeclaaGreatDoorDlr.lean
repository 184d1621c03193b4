/- DataPieces, from its parts. -/
import Derived.Test.YtgikjeaipmeclaaGreatDoorIin
import Derived.Test.YtgikjeaipmeclaaGreatDoorEvC
set_option linter.unusedSimpArgs false
set_option linter.unusedVariables false
set_option linter.unusedSectionVars false
set_option maxRecDepth 100000
set_option maxHeartbeats 4000000
namespace Go.Proofs.YtgikjeaipmeclaaGreatDoor
open Go.Ev
theorem ty9:K.types.get 9=some ti9:=by kernel_rfl
theorem sz9:ti9.size=1:=by rfl
theorem ag9:ti9.agg=false:=by rfl
theorem de9:ti9.desc=.string:=by rfl
theorem ze9:ti9.zero=(.c (.str [])):=by rfl
theorem by9:ti9.bytes=16:=by rfl
attribute [go_sem] ty9 sz9 ag9 de9 ze9 by9
noncomputable def q3 (p:List Nat):Code:=piece p (Uq Tryz.f3)
theorem rs3:Tryz.f3.results.toList=[.tmp 14]:=rfl
attribute [go_sem] rs3
def Zkt (c:C) (a b:Nat):C:=match c with
 | .slice p _ _ _=>.slice p a (b - a) 1
 | c=>c
theorem Zs3 {h0 h:Go.Ev.H} {c:C} {w:List Nat} {b lo hi:Nat} (r:Row1 b h0 c w) (h1:lo≤hi) (h2:hi≤w.length):Y0 K h (some ti32) (some c) (some (some (.int .i64 (lo:Int)))) (some (some (.int .i64 (hi:Int))))=some (Zkt c lo hi):=by
 rcases r with ⟨rfl,rfl⟩|⟨p,l,rfl,_,_⟩
 ·obtain rfl:hi=0:=by simpa using h2
  obtain rfl:lo=0:=by omega
  rfl
 ·have ty:K.types.get 5=some ti5:=by kernel_rfl
  show (match ti32.desc with|.slice e=>(match K.types.get e with|some te=>bif Nat.beq te.size 1 then Ui p 0 w.length 1 (some lo) (some hi) else none|none=>none)|_=>none)=_
  show (match K.types.get 5 with|some te=>bif Nat.beq te.size 1 then Ui p 0 w.length 1 (some lo) (some hi) else none|none=>none)=_
  rw[ty]
  show (bif Nat.ble lo hi&&Nat.ble hi w.length then some (C.slice p (0+lo * 1) (hi - lo) 1) else none)=_
  rw[Mf h1,Mf h2]
  simp [Zkt]
structure PcJ (n q:Nat) (md:Int) (off:Nat) (w:List Nat) (V1:Nat→List Nat) (m1 b0 p20:Nat) (h0:Go.Ev.H) (fr:Nat) (h:Go.Ev.H) (V:Nat→List Nat) (P:Nat→Nat) (x:List C) (m:Nat) (T:List Nat):Prop where
 M:HE n q 2 60 8 64 ⟨50,50⟩ md S6 T V h
 al:Al6 V m
 lm:m1≤m
 mb:m≤m1+2 * (xnD off fr - off / 256)
 X:InoP x P
 sz:O8 x=some (((if fr=0 then 0 else off+fr:Nat)):Int)
 fs:FilS blk6 V P (wrF (fun _=>0) off w 0 fr) m1 m (off / 256) (xnD off fr)
 hI:P 8≠0→P 8 ∉ T
 tT:∀ z∈T,∃ k,k<m∧z=blk6 k
 t3:md=3→T=[]
 fr1:∀ k,k<m1→V (blk6 k)=V1 (blk6 k)
 nx:b0≤h.next
 kp:∀ p,p<b0→p≠p20→Out n q p→h.get p=h0.get p
section
variable (Hh:Hearts K Tryz.prog)
include Hh
variable {n q off N m1 b0 p20 fr to m:Nat} {md:Int} {w:List Nat} {V V1:Nat→List Nat} {P:Nat→Nat} {x:List C} {T:List Nat} {h0 h:Go.Ev.H} {c:C}
theorem Zs0 (hw:w.length=N) (N1:N≤1000) (o3:off≤3000) (m10:m1≤10) (md1:1≤md∧md≤3) (J:PcJ n q md off w V1 m1 b0 p20 h0 fr h V P x m T) (r:Row1 b0 h0 c w) (rb:∀ p o l z,c=.slice p o l z→q+9≤p∧p≠p20) (pb:q+9≤p20∧p20<b0) (nq:n+23≤q) (ft:fr≤to) (tn:to≤N) :
  ∃ h' x',Ze K Tryz.prog 7 [.c (.ptr (n+13) 0),.g x,.c (.int .i64 ((off+fr:Nat):Int)),.c (Zkt c fr to)] h (.tup [.g x',.c (.int .i64 0)]) h'∧x'.length=16∧h.next≤h'.next∧(∀ p,p<h.next→q+9≤p→h'.get p=h.get p)∧∀ h2:Go.Ev.H,h'.next≤h2.next→(∀ p,p<h'.next→p≠p20→h2.get p=h'.get p)→∃ V P m T,PcJ n q md off w V1 m1 b0 p20 h0 to h2 V P x' m T:=by
 obtain⟨M,al,lm,mb,X,sz,fs,hI,tT,t3,fr1,nx,kp⟩:=J
 have m0:md≠0:=by omega
 have xe:∀ d,0<d→xnD off d=(off+d+255) / 256:=fun d hd=>if_neg (by omega)
 have x0:xnD off 0=off / 256:=if_pos rfl
 have mb20:m≤20:=by
  by_cases z:fr=0
  ·subst z; rw[x0] at mb; omega
  ·rw[xe fr (by omega)] at mb; omega
 by_cases e:to=fr
 ·subst e
  obtain⟨h',cc,M',nn,kk⟩:=Zlq Hh fine6 m0 M (x0:=x) (size:=if to=0 then 0 else off+to) (off:=off+to) sz (by split<;>omega) (by omega) (pc:=Zkt c to to) (by
   rcases r with ⟨_,rfl⟩|⟨p,_,rfl,_,_⟩
   ·exact .inl rfl
   ·exact .inr ⟨p,to,by unfold Zkt; rw[Nat.sub_self]⟩)
  refine⟨h',x,cc,X.xl,nn,fun p hp _=>kk p hp,fun h2 n2 k2=>⟨V,P,m,T,M'.keep n2 fun p hp=>k2 p (by have:=M'.nx; omega) (by omega),al,lm,mb,X,sz,fs,hI,tT,t3,fr1,by omega,fun p hp hne ho=>(k2 p (by omega) hne).trans ((kk p (by omega)).trans (kp p hp hne ho))⟩⟩
 ·have wn:w≠[]:=fun e=>by rw[e] at hw; simp at hw; omega
  obtain⟨p,w0,rfl,hp,pb'⟩:=r.resolve_left fun q=>wn q.1
  obtain⟨p9,pn⟩:=rb _ _ _ _ rfl
  have hm:=(kp p pb' pn ⟨⟨by omega,by omega,by omega,by omega,by omega⟩,by omega⟩).trans hp
  have cy:Zkt (.slice p 0 w.length 1) fr to=.slice p fr (to - fr) 1:=rfl
  rw[cy]
  have e1:off+fr+(to - fr)=off+to:=by omega
  have xt:=xe to (by omega)
  have hx:off / 256≤(off+fr) / 256∧((off+fr) / 256=xnD off fr∨(off+fr) / 256+1=xnD off fr):=by
   by_cases z:fr=0
   ·subst z; rw[x0]; omega
   ·rw[xe fr (by omega)]; omega
  have ho:(off+fr) / 256+1=xnD off fr→(if fr=0 then 0 else off+fr)=off+fr∧0<(off+fr) % 256∧∀ p,off+fr≤p→wrF (fun _=>0) off w 0 fr p=0:=fun w1=>by
   by_cases z:fr=0
   ·subst z; rw[x0] at w1; omega
   ·rw[xe fr (by omega)] at w1
    refine⟨if_neg z,by omega,fun p hp=>?_⟩
    unfold wrF
    rw[if_neg (by omega)]
  have mc:m+2 * ((off+fr+(to - fr)+255) / 256 - xnD off fr)+2≤48:=by
   rw[e1]
   by_cases z:fr=0
   ·subst z; rw[x0] at mb ⊢; omega
   ·rw[xe fr (by omega)] at mb ⊢; omega
  obtain⟨h',V',P',x',m',T',cc,R⟩:=Zj1 Hh (off:=off+fr) (len:=to - fr) (ba:=fr) (mm:=p) (w:=w) (size:=if fr=0 then 0 else off+fr) (F:=wrF (fun _=>0) off w 0 fr) fine6 m0 (alc6 Hh) M al lm
   (fun k k1 k2 w1=>by
    obtain⟨k',k3,k4⟩:=tT _ w1
    have e1:blk6 k=70+k:=rfl
    have e2:blk6 k'=70+k':=rfl
    omega)
   (fun z hz w1=>by
    obtain⟨k',k3,k4⟩:=tT _ w1
    have e2:blk6 k'=70+k':=rfl
    unfold mt6 at hz
    omega)
   (fun k hk=>by show 70+k<4096; omega) mc hx ho t3 X fs hI sz (by split<;>omega) (by omega) (by omega) (by omega) (by split<;>omega) hm ⟨p9,by omega⟩ (by omega)
  have k9:=R.kp.1
  have keep:∀ p,p<h.next→q+9≤p→h'.get p=h.get p:=fun p hp hq=>R.kp.2 p hp ⟨⟨by omega,by omega,by omega,by omega,by omega⟩,by omega⟩
  refine⟨h',x',cc,R.X.xl,k9,keep,fun h2 n2 k2=>⟨V',P',m',T',R.M.keep n2 fun p hp=>k2 p (by have:=R.M.nx; omega) (by omega),R.al,R.lm.1,?_,R.X,?_,?_,R.hI,?_,fun w1=>(R.t3 w1).trans (t3 w1),fun k hk=>(R.fr k hk).trans (fr1 k hk),by omega,fun p hp hne ho=>(k2 p (by omega) hne).trans ((R.kp.2 p (by omega) ho).trans (kp p hp hne ho))⟩⟩
  ·have:=R.mb
   rw[e1] at this
   rw[xt]
   by_cases z:fr=0
   ·subst z; rw[x0] at mb this; omega
   ·rw[xe fr (by omega)] at mb this; omega
  ·have:=R.sz
   rw[this]
   congr 2
   rw[if_neg (show to≠0 by omega)]
   split<;>omega
  ·have:=R.fs
   rw[e1,←xt] at this
   have j:=Zww (fun _=>0) off w 0 fr (to - fr)
   rw[Nat.zero_add,show fr+(to - fr)=to by omega] at j
   rw[j] at this
   exact this
  ·intro z hz
   rcases R.tT z hz with w1|⟨k,_,k1,k2⟩
   ·obtain⟨k,k1,k2⟩:=tT z w1
    exact⟨k,by have:=R.lm.2; omega,k2⟩
   ·exact⟨k,k1,k2⟩
theorem Z1r {A:List Int} {c4:C} {pw:Nat} {s1 s2 s3:C} (hw:w.length=N) (N1:N≤1000) (o3:off≤3000) (A20:A.length≤20) (m10:m1≤10) (md1:1≤md∧md≤3) (r:Row1 b0 h0 c w) (rb:∀ p o l z,c=.slice p o l z→q+9≤p∧p≠p20) (pb:q+9≤p20∧p20<b0) (nq:n+23≤q) (a4:ArI n h0 c4 A) (cw:h0.get pw=some (.row 4 [[.ptr (n+13) 0,s1,s2,s3]] false)) (wb:q+9≤pw∧pw<b0∧pw≠p20):∀ (k i fr:Nat) (V:Nat→List Nat) (P:Nat→Nat) (x:List C) (m:Nat) (T:List Nat) (ts:Zu) (h:Go.Ev.H),i+k=A.length+1→fr≤N→(i=A.length+1→fr=N)→PcJ n q md off w V1 m1 b0 p20 h0 fr h V P x m T→h.get p20=some (.row 16 [x] false)→Zk ts 1=.w (.c (.int .i64 (off:Int)))→Zk ts 2=.w (.c (.int .i64 (N:Int)))→Zk ts 4=.w (.c c4)→Zk ts 15=.w (.c (.ptr pw 0))→Zk ts 17=.w (.c c)→Zk ts 20=.w (.c (.ptr p20 0))→Zk ts 21=.w (.c (.int .i64 (fr:Int)))→Zk ts 22=.w (.c (.int .i64 (i:Int))) →
  Goes K Tryz.prog 152 none (q3 [1,1,1,1,1,1,1,1,1,1,1,0,1,2]) [] ts h fun x' ds' ts' h'=>x'=.exit 0∧ds'=[]∧(∀ s,s≤20→Zk ts' s=Zk ts s)∧∃ V P x m T,PcJ n q md off w V1 m1 b0 p20 h0 N h' V P x m T∧h'.get p20=some (.row 16 [x] false):=by
 intro k
 induction k with
 | zero =>
  intro i fr V P x m T ts h hi fn ie J c20 t1 t2 t4 t15 t17 t20 t21 t22
  obtain rfl:fr=N:=ie (by omega)
  obtain⟨⟨lf,ln⟩,_⟩:=a4
  have dl:decide ((i:Int)≤(A.length:Int))=false:=decide_eq_false (by omega)
  iterate 6 (first|apply Goes.seq|apply Goes.exit|apply Goes.loop|((first|apply Goes.Zm|apply Goes.ops2 fits Hh Zc); · simp (maxSteps:=9^6) +decide (disch:=first|omega|(simp only[lens]<;>omega)|decide) only [go_sem,Zb,Za,simprocAttr,t4,t22,lf,ln,dl,Zh]<;>rfl))
  refine⟨rfl,rfl,fun s hs=>?_,V,P,x,m,T,J,c20⟩
  simp (decide:=true) only [Yo hs]
 | succ k ih =>
  intro i fr V P x m T ts h hi fn ie J c20 t1 t2 t4 t15 t17 t20 t21 t22
  have step:=fun to ft tn=>Zs0 Hh hw N1 o3 m10 md1 J r rb pb nq (to:=to) ft tn
  obtain⟨M,al,lm,mb,X,sz,fs,hI,tT,t3,fr1,nx,kp⟩:=J
  have xl:=X.xl
  have out:∀ p,p<n→Out n q p:=fun p hp=>⟨⟨by omega,by omega,by omega,by omega,by omega⟩,by omega⟩
  have cw':=(kp pw wb.2.1 wb.2.2 ⟨⟨by omega,by omega,by omega,by omega,by omega⟩,by omega⟩).trans cw
  obtain⟨⟨lf,ln⟩,ha⟩:=a4
  have dl:decide ((i:Int)≤(A.length:Int))=true:=decide_eq_true (by omega)
  have e5:(off:Int)+(fr:Int)=((off+fr:Nat):Int):=rfl
  by_cases iA:i<A.length
  ·have dl2:decide ((i:Int)<(A.length:Int))=true:=decide_eq_true (by omega)
   obtain⟨pa,ro,pn,rfl,ga⟩:=ha.resolve_left fun w=>by rw[w] at iA; simp at iA
   have ha':=(kp pa (by omega) (by omega) (out pa pn)).trans ga
   obtain⟨z,hz⟩:∃ z,A[i]? = some z:=⟨_,List.getElem?_eq_getElem iA⟩
   have rz:=rdZ hz
   have wz:=Bw z
   obtain⟨Z,hZ⟩:∃ Z,(z % 18446744073709551616).toNat=Z:=⟨_,rfl⟩
   rw[hZ] at wz
   obtain⟨D,hD⟩:∃ D,N - fr+1=D:=⟨_,rfl⟩
   have e3:(N:Int) - (fr:Int)+1=(D:Int):=by omega
   have D0:0<D:=by omega
   have D1:D≤1001:=by omega
   have rm:=U3 (k:=.u64) (a:=Z) (b:=D) D0
   have jD:=Nat.mod_lt Z D0
   obtain⟨j,hj⟩:∃ j,Z % D=j:=⟨_,rfl⟩
   rw[hj] at rm jD
   have e4:(fr:Int)+(j:Int)=((fr+j:Nat):Int):=rfl
   obtain⟨h',x',c20',xl',nn,keep,st⟩:=step (fr+j) (by omega) (by omega)
   have cs:=fun h=>Zs3 (h:=h) r (show fr≤fr+j by omega) (by omega)
   have b20:=(keep p20 (by omega) (by omega)).trans c20
   obtain⟨G,hG⟩:∃ G,A.length=G:=⟨_,rfl⟩
   obtain⟨Q,hQ⟩:∃ Q,Qn A=Q:=⟨_,rfl⟩
   rw[hQ] at ha' rz
   rw[hG] at iA lf ln t4 dl dl2
   iterate 14 (first|apply Goes.seq|apply Goes.skip|apply Goes.block|apply Goes.loop|((first|apply Goes.Zm|apply Goes.ops2 fits Hh Zc); · simp (maxSteps:=9^6) +decide (disch:=first|omega|(simp only[lens]<;>omega)|decide) only [go_sem,Za,simprocAttr,tA1,tA0,List.append_assoc,List.cons_append,t1,t2,t4,t15,t17,t20,t21,t22,lf,ln,dl,dl2,ha',rz,wz,e3,rm,e4,e5,cs,cw',p40,c20,b20,xl,xl',Zh,Uc]<;>rfl))
   refine Goes.ops2 fits Hh Zc (by
    iterate 15 (refine Zz (by simp (maxSteps:=9^6) +decide (disch:=first|omega|(simp only[lens]<;>omega)|decide) only [go_sem,Za,simprocAttr,tA1,tA0,List.append_assoc,List.cons_append,t1,t2,t4,t15,t17,t20,t21,t22,lf,ln,dl,dl2,ha',rz,wz,e3,rm,e4,e5,cs,cw',p40,c20,b20,xl,xl',Zh,Uc]<;>rfl) ?_)
    exact Z0) ?_
   apply Goes.seq
   iterate 10 (first|apply Goes.seq|apply Goes.skip|((first|apply Goes.Zm|apply Goes.ops2 fits Hh (Zt Zc c20')); · simp (maxSteps:=9^6) +decide (disch:=first|omega|(simp only[lens]<;>omega)|decide) only [go_sem,Za,simprocAttr,Zy,tA1,tA0,List.append_assoc,List.cons_append,t1,t2,t4,t15,t17,t20,t21,t22,lf,ln,dl,dl2,ha',rz,wz,e3,rm,e4,e5,cs,cw',p40,c20,b20,xl,xl',Zh,Uc]<;>rfl)|(apply Goes.drawn2 fits Hh (Zt Zc c20') (by kernel_rfl); · simp (maxSteps:=9^6) +decide (disch:=first|omega|(simp only[lens]<;>omega)|decide) only [go_sem,Za,simprocAttr,drG,Zy,tA1,tA0,List.append_assoc,List.cons_append,t1,t2,t4,t15,t17,t20,t21,t22,lf,ln,dl,dl2,ha',rz,wz,e3,rm,e4,e5,cs,cw',p40,c20,b20,xl,xl',Zh,Uc]<;>rfl))
   show Goes K Tryz.prog 152 none (q3 [1,1,1,1,1,1,1,1,1,1,1,0,1,2]) _ _ _ _
   refine Goes.abs fun h2 e2=>?_
   have n2:h'.next≤h2.next:=by rw[e2]; simp only[H.Zj,H.Zg]<;>omega
   have k2:∀ p,p<h'.next→p≠p20→h2.get p=h'.get p:=fun p hp hne=>by rw[e2]; simp (disch:=first|omega|(simp only[lens]<;>omega)) only [go_sem]
   have c2:h2.get p20=some (.row 16 [x'] false):=by rw[e2]; first|exact Z8 .. | (simp (maxSteps:=9^6) +decide (disch:=first|omega|(simp only[lens]<;>omega)|decide) only [go_sem,Zb,Za,simprocAttr]; done)|(simp (maxSteps:=9^6) +decide (disch:=first|omega|(simp only[lens]<;>omega)|decide) only [go_sem,Zb,Za,simprocAttr]<;>rfl)
   clear e2
   obtain⟨V2,P2,m2,T2,J2⟩:=st h2 n2 k2
   refine (ih (i+1) (fr+j) V2 P2 x' m2 T2 _ h2 (by omega) (by omega) (by omega) J2 c2 ?_ ?_ ?_ ?_ ?_ ?_ ?_ ?_).mono ?_
   ·simp (maxSteps:=9^6) +decide (disch:=first|omega|(simp only[lens]<;>omega)|decide) only [go_sem,Zb,Za,simprocAttr,t1]
   ·simp (maxSteps:=9^6) +decide (disch:=first|omega|(simp only[lens]<;>omega)|decide) only [go_sem,Zb,Za,simprocAttr,t2]
   ·rw[hG]; simp (maxSteps:=9^6) +decide (disch:=first|omega|(simp only[lens]<;>omega)|decide) only [go_sem,Zb,Za,simprocAttr,t4]
   ·simp (maxSteps:=9^6) +decide (disch:=first|omega|(simp only[lens]<;>omega)|decide) only [go_sem,Zb,Za,simprocAttr,t15]
   ·simp (maxSteps:=9^6) +decide (disch:=first|omega|(simp only[lens]<;>omega)|decide) only [go_sem,Zb,Za,simprocAttr,t17]
   ·simp (maxSteps:=9^6) +decide (disch:=first|omega|(simp only[lens]<;>omega)|decide) only [go_sem,Zb,Za,simprocAttr,t20]
   ·simp (maxSteps:=9^6) +decide (disch:=first|omega|(simp only[lens]<;>omega)|decide) only [go_sem,Zb,Za,simprocAttr]<;>rfl
   ·simp (maxSteps:=9^6) +decide (disch:=first|omega|(simp only[lens]<;>omega)|decide) only [go_sem,Zb,Za,simprocAttr]<;>rfl
   rintro x1 ds1 ts1 h1 ⟨w1,w2,w3,w4⟩
   refine⟨w1,w2,fun s hs=>(w3 s hs).trans ?_,w4⟩
   simp (decide:=true) only [Yo hs]
  ·have dl2:decide ((i:Int)<(A.length:Int))=false:=decide_eq_false (by omega)
   obtain⟨h',x',c20',xl',nn,keep,st⟩:=step N fn (Nat.le_refl _)
   have cs:=fun h=>Zs3 (h:=h) r fn (Nat.le_of_eq hw.symm)
   have b20:=(keep p20 (by omega) (by omega)).trans c20
   iterate 16 (first|apply Goes.seq|apply Goes.skip|apply Goes.block|apply Goes.loop|((first|apply Goes.Zm|apply Goes.ops2 fits Hh Zc); · simp (maxSteps:=9^6) +decide (disch:=first|omega|(simp only[lens]<;>omega)|decide) only [go_sem,Za,simprocAttr,tA1,tA0,List.append_assoc,List.cons_append,t1,t2,t4,t15,t17,t20,t21,t22,lf,ln,dl,dl2,e5,cs,cw',p40,c20,b20,xl,xl',Zh,Uc]<;>rfl))
   iterate 10 (first|apply Goes.seq|apply Goes.skip|((first|apply Goes.Zm|apply Goes.ops2 fits Hh (Zt Zc c20')); · simp (maxSteps:=9^6) +decide (disch:=first|omega|(simp only[lens]<;>omega)|decide) only [go_sem,Za,simprocAttr,Zy,tA1,tA0,List.append_assoc,List.cons_append,t1,t2,t4,t15,t17,t20,t21,t22,lf,ln,dl,dl2,e5,cs,cw',p40,c20,b20,xl,xl',Zh,Uc]<;>rfl)|(apply Goes.drawn2 fits Hh (Zt Zc c20') (by kernel_rfl); · simp (maxSteps:=9^6) +decide (disch:=first|omega|(simp only[lens]<;>omega)|decide) only [go_sem,Za,simprocAttr,drG,Zy,tA1,tA0,List.append_assoc,List.cons_append,t1,t2,t4,t15,t17,t20,t21,t22,lf,ln,dl,dl2,e5,cs,cw',p40,c20,b20,xl,xl',Zh,Uc]<;>rfl))
   show Goes K Tryz.prog 152 none (q3 [1,1,1,1,1,1,1,1,1,1,1,0,1,2]) _ _ _ _
   refine Goes.abs fun h2 e2=>?_
   have n2:h'.next≤h2.next:=by rw[e2]; simp only[H.Zj,H.Zg]<;>omega
   have k2:∀ p,p<h'.next→p≠p20→h2.get p=h'.get p:=fun p hp hne=>by rw[e2]; simp (disch:=first|omega|(simp only[lens]<;>omega)) only [go_sem]
   have c2:h2.get p20=some (.row 16 [x'] false):=by rw[e2]; first|exact Z8 .. | (simp (maxSteps:=9^6) +decide (disch:=first|omega|(simp only[lens]<;>omega)|decide) only [go_sem,Zb,Za,simprocAttr]; done)|(simp (maxSteps:=9^6) +decide (disch:=first|omega|(simp only[lens]<;>omega)|decide) only [go_sem,Zb,Za,simprocAttr]<;>rfl)
   clear e2
   obtain⟨V2,P2,m2,T2,J2⟩:=st h2 n2 k2
   refine (ih (i+1) N V2 P2 x' m2 T2 _ h2 (by omega) (by omega) (by omega) J2 c2 ?_ ?_ ?_ ?_ ?_ ?_ ?_ ?_).mono ?_
   ·simp (maxSteps:=9^6) +decide (disch:=first|omega|(simp only[lens]<;>omega)|decide) only [go_sem,Zb,Za,simprocAttr,t1]
   ·simp (maxSteps:=9^6) +decide (disch:=first|omega|(simp only[lens]<;>omega)|decide) only [go_sem,Zb,Za,simprocAttr,t2]
   ·simp (maxSteps:=9^6) +decide (disch:=first|omega|(simp only[lens]<;>omega)|decide) only [go_sem,Zb,Za,simprocAttr,t4]
   ·simp (maxSteps:=9^6) +decide (disch:=first|omega|(simp only[lens]<;>omega)|decide) only [go_sem,Zb,Za,simprocAttr,t15]
   ·simp (maxSteps:=9^6) +decide (disch:=first|omega|(simp only[lens]<;>omega)|decide) only [go_sem,Zb,Za,simprocAttr,t17]
   ·simp (maxSteps:=9^6) +decide (disch:=first|omega|(simp only[lens]<;>omega)|decide) only [go_sem,Zb,Za,simprocAttr,t20]
   ·simp (maxSteps:=9^6) +decide (disch:=first|omega|(simp only[lens]<;>omega)|decide) only [go_sem,Zb,Za,simprocAttr]<;>rfl
   ·simp (maxSteps:=9^6) +decide (disch:=first|omega|(simp only[lens]<;>omega)|decide) only [go_sem,Zb,Za,simprocAttr]<;>rfl
   rintro x1 ds1 ts1 h1 ⟨w1,w2,w3,w4⟩
   refine⟨w1,w2,fun s hs=>(w3 s hs).trans ?_,w4⟩
   simp (decide:=true) only [Yo hs]
end
theorem Zc9:∀ Z:List UInt8,Lh Z Z=true
 | []=>rfl
 | c :: Z=>by
  show (_&&Lh Z Z)=true
  rw[Zc9 Z,Bool.and_true]
  simp
theorem cvY {b:Nat} {h0 h:Go.Ev.H} {c:C} {R:List Nat} (s:SlY b h0 c R) (k:∀ p o l z,c=.slice p o l z→h.get p=h0.get p):L8 K h (some ti32) (some ti9) (some c)=some (.w (.c (.str (Zrq R))),h):=by
 have ty:K.types.get 5=some ti5:=by kernel_rfl
 have cb:∀ c:C,Su c=true→F9 K h c 5=Qb h (Jn h 1 c):=fun c hc=>by
  unfold F9
  rw[ty]
  show (bif Su c then Qb h (Jn h 1 c) else none)=_
  rw[hc,cond_true]
 rcases s with ⟨rfl,rfl⟩|⟨p,r0,rfl,hp,_⟩
 ·show F9 K h .snil 5=_
  rw[cb _ rfl]
  rfl
 ·show F9 K h (.slice p 0 R.length 1) 5=_
  rw[cb _ rfl]
  have hp':=(k _ _ _ _ rfl).trans hp
  have el:Jn h 1 (.slice p 0 R.length 1)=some (bsE R):=by
   have:=F4 hp'
   rw[V7] at this
   exact this
  rw[el]
  show Go.Ev.strOf h (bytesOf (bsE R))=_
  rw[Zk7]
  rfl
section
variable (Hh:Hearts K Tryz.prog)
include Hh
theorem Z1d {b:Nat} {h:Go.Ev.H} {ts:Zu} {ca cb:C} {R1 R2:List Nat} (s1:SlY b h ca R1) (s2:SlY b h cb R2) (e:R1.length=R2.length) (eq:∀ j,j<R1.length→atN R1 j=atN R2 j) {p18 p20:Nat} {x1 x2:List C} {z:Int} (g18:h.get p18=some (.row 16 [x1] false)) (g20:h.get p20=some (.row 16 [x2] false)) (z1:O8 x1=some z) (z2:O8 x2=some z)
  (t18:Zk ts 18=.w (.c (.ptr p18 0))) (t20:Zk ts 20=.w (.c (.ptr p20 0))) (t26:Zk ts 26=.w (.c ca)) (t27:Zk ts 27=.w (.c (.int .i64 0))) (t28:Zk ts 28=.w (.c cb)) (t29:Zk ts 29=.w (.c (.int .i64 0))) :
  Goes K Tryz.prog 152 none (q3 [1,1,1,1,1,1,1,1,1,1,1,1,1,1,1,1]) [] ts h fun x ds ts h2=>∃ v h',leave K Tryz.f3 (some (Out.at x ds ts h2))=some (Out.val v h')∧v=.w (.c (.bool true)):=by
 have S:Zrq R1=Zrq R2:=by
  have:=Z1x e eq
  apply List.ext_getElem?
  intro j
  have q:=congrArg (fun l=>l[j]?) this
  simp only[pgL,List.getElem?_map] at q
  unfold Zrq
  rw[List.getElem?_map,List.getElem?_map]
  rcases h1:R1[j]? with _|u<;>rcases h2:R2[j]? with _|v<;>rw[h1,h2] at q
  ·cases q
  ·cases q
  ·have q1:=(C.int.inj (Option.some.inj q)).2
   have q2:u % 256=v % 256:=by omega
   simp only[Option.map_some,q2]
 have v1:=cvY s1 (h:=h) fun _ _ _ _ _=>rfl
 have v2:=cvY s2 (h:=h) fun _ _ _ _ _=>rfl
 rw[S] at v1
 obtain⟨Z,hZ⟩:∃ Z,Zrq R2=Z:=⟨_,rfl⟩
 rw[hZ] at v1 v2
 obtain⟨xl1,r1⟩:=Jq z1
 obtain⟨xl2,r2⟩:=Jq z2
 have zz:(z == z)=true:=Nn rfl
 have ZZ:=Zc9 Z
 rcases s1 with ⟨rfl,rfl⟩|⟨p,p0,rfl,_⟩
 ·obtain⟨_,rfl⟩|⟨p',p0',_,_⟩:=s2
  ·
   apply Goes.seq
   refine Goes.ops2 fits Hh Zc (by
    iterate 21 (refine Zz (by simp (maxSteps:=9^6) +decide (disch:=first|omega|(simp only[lens]<;>omega)|decide) only [go_sem,Za,simprocAttr,t18,t20,t26,t27,t28,t29,g18,g20,r1,r2,v1,v2,zz,ZZ,eqC]<;>rfl) ?_)
    exact Z0) ?_
   apply Goes.ret
   exact⟨_,_,(by simp (maxSteps:=9^6) +decide (disch:=first|omega|(simp only[lens]<;>omega)|decide) only [go_sem,Zb,Za,simprocAttr]<;>rfl),rfl⟩
  ·rw[←e] at p0'; simp at p0'
 ·obtain⟨rfl,_⟩|⟨p',p0',rfl,_⟩:=s2
  ·rw[e] at p0; simp at p0
  ·
   apply Goes.seq
   refine Goes.ops2 fits Hh Zc (by
    iterate 21 (refine Zz (by simp (maxSteps:=9^6) +decide (disch:=first|omega|(simp only[lens]<;>omega)|decide) only [go_sem,Za,simprocAttr,t18,t20,t26,t27,t28,t29,g18,g20,r1,r2,v1,v2,zz,ZZ,eqC]<;>rfl) ?_)
    exact Z0) ?_
   apply Goes.ret
   exact⟨_,_,(by simp (maxSteps:=9^6) +decide (disch:=first|omega|(simp only[lens]<;>omega)|decide) only [go_sem,Zb,Za,simprocAttr]<;>rfl),rfl⟩
theorem Zsi {c4:C} {A:List Int} {h:Go.Ev.H} (hst:h.get 0=some Oh) (l0:0<h.next) (a4:ArI h.next h c4 A) {mo by_:Nat} (mo1:mo<256) (by1:by_<256) (z1 z2 z5 z6:Int) :
  ∃ h',Ze K Tryz.prog 3 [.c (.int .u8 (mo:Int)),.c (.int .i64 z1),.c (.int .i64 z2),.c (.int .u8 (by_:Int)),.c c4,.c (.int .i64 z5),.c (.int .i64 z6)] h (.w (.c (.bool true))) h':=by
 obtain⟨v,h',cc,rfl⟩:∃ v h',Ze K Tryz.prog 3 [.c (.int .u8 (mo:Int)),.c (.int .i64 z1),.c (.int .i64 z2),.c (.int .u8 (by_:Int)),.c c4,.c (.int .i64 z5),.c (.int .i64 z6)] h v h'∧v=.w (.c (.bool true)):=by
  have lf:=a4.1.1
  have ln:=a4.1.2
  by_cases g:20<A.length
  ·have d1:decide ((A.length:Int) > 20)=true:=decide_eq_true (by omega)
   refine Ze.Yi fits Hh (by kernel_rfl) (by kernel_rfl) (by kernel_rfl) (show Tryz.f3.body=some _ from rfl) rfl ?_
   iterate 9 (first|apply Goes.seq|apply Goes.ret|((first|apply Goes.Zm|apply Goes.ops2 fits Hh Zc); · simp (maxSteps:=9^6) +decide (disch:=first|omega|(simp only[lens]<;>omega)|decide) only [go_sem,Zb,Za,simprocAttr,lf,ln,d1,Zh]<;>rfl))
   exact⟨_,_,(by simp (maxSteps:=9^6) +decide (disch:=first|omega|(simp only[lens]<;>omega)|decide) only [go_sem,Zb,Za,simprocAttr]<;>rfl),rfl⟩
  have d1:decide ((A.length:Int) > 20)=false:=decide_eq_false (by omega)
  have w1:=Bw z1
  have w2:=Bw z2
  have w5:=Bw z5
  have w6:=Bw z6
  obtain⟨Z1,h1⟩:∃ Z,(z1 % 18446744073709551616).toNat=Z:=⟨_,rfl⟩
  obtain⟨Z2,h2⟩:∃ Z,(z2 % 18446744073709551616).toNat=Z:=⟨_,rfl⟩
  obtain⟨Z5,h5⟩:∃ Z,(z5 % 18446744073709551616).toNat=Z:=⟨_,rfl⟩
  obtain⟨Z6,h6⟩:∃ Z,(z6 % 18446744073709551616).toNat=Z:=⟨_,rfl⟩
  rw[h1] at w1
  rw[h2] at w2
  rw[h5] at w5
  rw[h6] at w6
  have r1:Bo .u64 (Z1:Int) 3001=some (.int .u64 ((Z1 % 3001:Nat):Int)):=U3 (b:=3001) (by omega)
  have r2:Bo .u64 (Z2:Int) 1001=some (.int .u64 ((Z2 % 1001:Nat):Int)):=U3 (b:=1001) (by omega)
  have r5:Bo .u64 (Z5:Int) 4200=some (.int .u64 ((Z5 % 4200:Nat):Int)):=U3 (b:=4200) (by omega)
  have r6:Bo .u64 (Z6:Int) 4097=some (.int .u64 ((Z6 % 4097:Nat):Int)):=U3 (b:=4097) (by omega)
  have o3:=Nat.mod_lt Z1 (show 0<3001 by decide)
  have N1:=Nat.mod_lt Z2 (show 0<1001 by decide)
  have a5:=Nat.mod_lt Z5 (show 0<4200 by decide)
  have l6:=Nat.mod_lt Z6 (show 0<4097 by decide)
  obtain⟨off,ho⟩:∃ k,Z1 % 3001=k:=⟨_,rfl⟩
  obtain⟨N,hN⟩:∃ k,Z2 % 1001=k:=⟨_,rfl⟩
  obtain⟨at_,hat⟩:∃ k,Z5 % 4200=k:=⟨_,rfl⟩
  obtain⟨len,hlen⟩:∃ k,Z6 % 4097=k:=⟨_,rfl⟩
  rw[ho] at r1 o3
  rw[hN] at r2 N1
  rw[hat] at r5 a5
  rw[hlen] at r6 l6
  obtain⟨hH,n,q,r,d,y,c5,MH,nH,kH⟩:=Zlt Hh mo1 hst l0
  have k3:=Nat.mod_lt mo (show 0<3 by decide)
  obtain⟨md,hmd⟩:∃ md:Int,1+((mo % 3:Nat):Int)=md:=⟨_,rfl⟩
  rw[hmd] at MH
  have md1:1≤md∧md≤3:=by omega
  have m0:md≠0:=by omega
  obtain⟨nq,nx,n0⟩:=MH.nx
  have xe:∀ d,0<d→xnD off d=(off+d+255) / 256:=fun d hd=>if_neg (by omega)
  have x0:xnD off 0=off / 256:=if_pos rfl
  have il:ino0.length=16:=rfl
  refine Ze.Yi fits Hh (by kernel_rfl) (by kernel_rfl) (by kernel_rfl) (show Tryz.f3.body=some _ from rfl) rfl ?_
  iterate 12 (first|apply Goes.seq|apply Goes.skip|((first|apply Goes.Zm|apply Goes.ops2 fits Hh Zc); · simp (maxSteps:=9^6) +decide (disch:=first|omega|(simp only[lens]<;>omega)|decide) only [go_sem,Za,simprocAttr,tA1,tA0,p40,lf,ln,d1,w1,w2,w5,w6,r1,r2,r5,r6,il,Zh]<;>rfl))
  refine Goes.ops2 fits Hh (Zt Zc c5) (by
   iterate 8 (refine Zz (by simp (maxSteps:=9^6) +decide (disch:=first|omega|(simp only[lens]<;>omega)|decide) only [go_sem,Za,simprocAttr,Zy,tA1,tA0,p40,lf,ln,d1,w1,w2,w5,w6,r1,r2,r5,r6,il,Zh]<;>rfl) ?_)
   exact Z0) ?_
  iterate 6 (first|apply Goes.seq|apply Goes.skip|((first|apply Goes.Zm|apply Goes.ops2 fits Hh Zc); · simp (maxSteps:=9^6) +decide (disch:=first|omega|(simp only[lens]<;>omega)|decide) only [go_sem,Za,simprocAttr,tA1,tA0,p40,lf,ln,d1,w1,w2,w5,w6,r1,r2,r5,r6,il,Zh]<;>rfl))
  refine Goes.abs fun hA eA=>?_
  have nA:hA.next=hH.next+1:=by rw[eA]; simp only[H.Zj,H.Zg]
  have kA:∀ m,m<hH.next→hA.get m=hH.get m:=fun m hm=>by rw[eA]; simp (disch:=first|omega|(simp only[lens]<;>omega)) only [go_sem]
  have pA:hA.get hH.next=some (.row 4 [[.ptr (n+13) 0,.ptr r 0,.ptr d 0,.ptr y 0]] false):=by rw[eA]; simp (maxSteps:=9^6) +decide (disch:=first|omega|(simp only[lens]<;>omega)|decide) only [go_sem,Za,simprocAttr]<;>rfl
  clear eA
  obtain⟨c,hB,c8,rB,nB,kB,cB⟩:=Zt1 Hh hA by1 (N:=N) (by omega)
  have pB:=(kB hH.next (by omega)).trans pA
  have MB:=MH.keep (h2:=hB) (by omega) fun m hm=>(kB m (by omega)).trans (kA m (by omega))
  have hw:=Zc6 by_ N
  obtain⟨w,hwe⟩:∃ w,byN by_ N=w:=⟨_,rfl⟩
  rw[hwe] at rB hw
  have J0:PcJ n q md off w V4 0 hB.next hH.next hB 0 hB V4 (fun _=>0) ino0 0 []:=⟨MB,Zkw,Nat.le_refl _,by omega,Zmj,rfl,by rw[Tg,x0]; exact FilS.new (fun _ _=>rfl) (by omega),fun w=>absurd rfl w,fun z hz=>by simp at hz,fun _=>rfl,fun _ _=>rfl,Nat.le_refl _,fun _ _ _ _=>rfl⟩
  obtain⟨hC,xo,c9,xol,nC,kC,stC⟩:=Zs0 Hh hw (by omega) (by omega) (by omega) md1 J0 rB (fun p o l z e=>by have:=cB p o l z e; omega) ⟨by omega,by omega⟩ nq (Nat.zero_le N) (Nat.le_refl N)
  have cyc:Zkt c 0 N=c:=by
   rcases rB with ⟨_,rfl⟩|⟨p,_,rfl,_,_⟩
   ·rfl
   ·unfold Zkt; rw[hw,Nat.sub_zero]
  rw[cyc] at c9
  simp only[Nat.add_zero,ino0] at c9
  obtain⟨V1,P1,m1,T1,J1⟩:=stC hC (Nat.le_refl _) (fun _ _ _=>rfl)
  obtain⟨M1,al1,lm1,mb1,X1,sz1,fs1,hI1,tT1,t31,fr1,nx1,kp1⟩:=J1
  have m10:m1≤10:=by
   by_cases z:N=0
   ·subst z; rw[x0] at mb1; omega
   ·rw[xe N (by omega)] at mb1; omega
  have pC:=(kC hH.next (by omega) (by omega)).trans pB
  iterate 2 (first|apply Goes.seq|(apply Goes.ops2 fits Hh (Zt Zc c8); · simp (maxSteps:=9^6) +decide (disch:=first|omega|(simp only[lens]<;>omega)|decide) only [go_sem,Za,simprocAttr,Zy,tA1,tA0,p40,lf,ln,d1,w1,w2,w5,w6,r1,r2,r5,r6,il,pA,pB,pC,xol,Zh]<;>rfl))
  refine Goes.ops2 fits Hh (Zt Zc c9) (by
   iterate 12 (refine Zz (by simp (maxSteps:=9^6) +decide (disch:=first|omega|(simp only[lens]<;>omega)|decide) only [go_sem,Za,simprocAttr,Zy,tA1,tA0,p40,lf,ln,d1,w1,w2,w5,w6,r1,r2,r5,r6,il,pA,pB,pC,xol,Zh]<;>rfl) ?_)
   exact Z0) ?_
  iterate 13 (first|apply Goes.seq|apply Goes.skip|apply Goes.block|((first|apply Goes.Zm|apply Goes.ops2 fits Hh Zc); · simp (maxSteps:=9^6) +decide (disch:=first|omega|(simp only[lens]<;>omega)|decide) only [go_sem,Za,simprocAttr,tA1,tA0,p40,lf,ln,d1,w1,w2,w5,w6,r1,r2,r5,r6,il,pA,pB,pC,xol,Zh]<;>rfl))
  refine Goes.abs fun hS eS=>?_
  have nS:hS.next=hC.next+2:=by rw[eS]; simp only[H.Zj,H.Zg]
  have kS:∀ m,m<hC.next→hS.get m=hC.get m:=fun m hm=>by rw[eS]; simp (disch:=first|omega|(simp only[lens]<;>omega)) only [go_sem]
  have S18:hS.get hC.next=some (.row 16 [xo] false):=by rw[eS]; first|(simp (maxSteps:=9^6) +decide (disch:=first|omega|(simp only[lens]<;>omega)|decide) only [go_sem,Za,simprocAttr,xol]; done)|(simp (maxSteps:=9^6) +decide (disch:=first|omega|(simp only[lens]<;>omega)|decide) only [go_sem,Za,simprocAttr,xol]<;>rfl)
  have S20:hS.get (hC.next+1)=some (.row 16 [ino0] false):=by rw[eS]; first|(simp (maxSteps:=9^6) +decide (disch:=first|omega|(simp only[lens]<;>omega)|decide) only [go_sem,Za,simprocAttr]; done)|(simp (maxSteps:=9^6) +decide (disch:=first|omega|(simp only[lens]<;>omega)|decide) only [go_sem,Za,simprocAttr]<;>rfl)
  clear eS
  have MS:=M1.keep (h2:=hS) (by omega) fun m hm=>kS m (by have:=M1.nx; omega)
  have rS:Row1 hS.next hS c w:=by
   rcases rB with q1|⟨p,a1,a2,a3,a4⟩
   ·exact .inl q1
   ·have:=cB _ _ _ _ a2
    exact .inr ⟨p,a1,a2,(kS p (by omega)).trans ((kC p (by omega) (by omega)).trans a3),by omega⟩
  have kh:∀ m,m<h.next→hS.get m=h.get m:=fun m hm=>(kS m (by omega)).trans ((kp1 m (by omega) (by omega) ⟨⟨by omega,by omega,by omega,by omega,by omega⟩,by omega⟩).trans ((kB m (by omega)).trans ((kA m (by omega)).trans (kH m hm))))
  have aS:ArI n hS c4 A:=⟨a4.1,a4.2.imp id fun ⟨p,ro,e1,e2,e3⟩=>⟨p,ro,by omega,e2,(kh p e1).trans e3⟩⟩
  have pS:=(kS hH.next (by omega)).trans pC
  have JS:PcJ n q md off w V1 m1 hS.next (hC.next+1) hS 0 hS V1 (fun _=>0) ino0 m1 T1:=⟨MS,al1,Nat.le_refl _,by omega,Zmj,rfl,by rw[Tg,x0]; exact FilS.new (fun _ _=>rfl) (by omega),fun w=>absurd rfl w,tT1,t31,fun _ _=>rfl,Nat.le_refl _,fun _ _ _ _=>rfl⟩
  refine (Z1r Hh hw (by omega) (by omega) (by omega) m10 md1 rS (fun p o l z e=>by have:=cB p o l z e; rcases rB with ⟨_,w2⟩|⟨p2,_,w2,_,w3⟩<;>(rw[w2] at e; cases e); omega) ⟨by omega,by omega⟩ nq aS pS ⟨by omega,by omega,by omega⟩ (A.length+1) 0 0 V1 (fun _=>0) ino0 m1 T1 _ hS (by omega) (Nat.zero_le _) (fun w=>by omega) JS S20 ?_ ?_ ?_ ?_ ?_ ?_ ?_ ?_).mono ?_
  ·simp (maxSteps:=9^6) +decide (disch:=first|omega|(simp only[lens]<;>omega)|decide) only [go_sem,Zb,Za,simprocAttr]<;>rfl
  ·simp (maxSteps:=9^6) +decide (disch:=first|omega|(simp only[lens]<;>omega)|decide) only [go_sem,Zb,Za,simprocAttr]<;>rfl
  ·simp (maxSteps:=9^6) +decide (disch:=first|omega|(simp only[lens]<;>omega)|decide) only [go_sem,Zb,Za,simprocAttr]<;>rfl
  ·simp (maxSteps:=9^6) +decide (disch:=first|omega|(simp only[lens]<;>omega)|decide) only [go_sem,Zb,Za,simprocAttr]<;>rfl
  ·simp (maxSteps:=9^6) +decide (disch:=first|omega|(simp only[lens]<;>omega)|decide) only [go_sem,Zb,Za,simprocAttr]<;>rfl
  ·simp (maxSteps:=9^6) +decide (disch:=first|omega|(simp only[lens]<;>omega)|decide) only [go_sem,Zb,Za,simprocAttr]<;>rfl
  ·simp (maxSteps:=9^6) +decide (disch:=first|omega|(simp only[lens]<;>omega)|decide) only [go_sem,Zb,Za,simprocAttr]<;>rfl
  ·simp (maxSteps:=9^6) +decide (disch:=first|omega|(simp only[lens]<;>omega)|decide) only [go_sem,Zb,Za,simprocAttr]<;>rfl
  rintro x ds2 ts2 hL ⟨rfl,rfl,q2,V2,P2,xt,m2,T2,JL,L20⟩
  obtain⟨M2,al2,lm2,mb2,X2,sz2,fs2,hI2,tT2,t32,fr2,nx2,kp2⟩:=JL
  have u5:Zk ts2 5=.w (.c (.int .i64 z5)):=(q2 5 (by decide)).trans (by simp (maxSteps:=9^6) +decide (disch:=first|omega|(simp only[lens]<;>omega)|decide) only [go_sem,Zb,Za,simprocAttr]<;>rfl)
  have u6:Zk ts2 6=.w (.c (.int .i64 z6)):=(q2 6 (by decide)).trans (by simp (maxSteps:=9^6) +decide (disch:=first|omega|(simp only[lens]<;>omega)|decide) only [go_sem,Zb,Za,simprocAttr]<;>rfl)
  have u15:Zk ts2 15=.w (.c (.ptr hH.next 0)):=(q2 15 (by decide)).trans (by simp (maxSteps:=9^6) +decide (disch:=first|omega|(simp only[lens]<;>omega)|decide) only [go_sem,Zb,Za,simprocAttr]<;>rfl)
  have u18:Zk ts2 18=.w (.c (.ptr hC.next 0)):=(q2 18 (by decide)).trans (by simp (maxSteps:=9^6) +decide (disch:=first|omega|(simp only[lens]<;>omega)|decide) only [go_sem,Zb,Za,simprocAttr]<;>rfl)
  have u20:Zk ts2 20=.w (.c (.ptr (hC.next+1) 0)):=(q2 20 (by decide)).trans (by simp (maxSteps:=9^6) +decide (disch:=first|omega|(simp only[lens]<;>omega)|decide) only [go_sem,Zb,Za,simprocAttr]<;>rfl)
  have kL:∀ p,p<hC.next+1→q+9≤p→hL.get p=hS.get p:=fun p h1 h2=>kp2 p (by omega) (by omega) ⟨⟨by omega,by omega,by omega,by omega,by omega⟩,by omega⟩
  have L18:=(kL hC.next (by omega) (by omega)).trans S18
  have Lp:=(kL hH.next (by omega) (by omega)).trans pS
  have m2b:m2≤20:=by
   by_cases z:N=0
   ·subst z; rw[x0] at mb2; omega
   ·rw[xe N (by omega)] at mb2; omega
  have fo:=(fs1.keep (V':=V2) fun i _ hi=>fr2 i hi).grow lm2
  have szb:(if N=0 then 0 else off+N)≤36 * 256:=by split<;>omega
  obtain⟨hR,sa,Ra,c27,MR,kR,sR,lR,eR⟩:=Zio Hh fine6 m0 (alc6 Hh) M2 fo (by omega) X1 sz1 szb (num:=len) (off:=at_) (by omega) (by omega)
  obtain⟨hT,sb,Rb,c28,MT,kT,sT,lT,eT⟩:=Zio Hh fine6 m0 (alc6 Hh) MR fs2 (by omega) X2 sz2 szb (num:=len) (off:=at_) (by omega) (by omega)
  have R18:=(kR.2 hC.next (by have:=M2.nx; omega) (by omega)).trans L18
  have R20:=(kR.2 (hC.next+1) (by have:=M2.nx; omega) (by omega)).trans L20
  have Rp:=(kR.2 hH.next (by have:=M2.nx; omega) (by omega)).trans Lp
  have xtl:=X2.xl
  clear q2
  iterate 5 (first|apply Goes.seq|(apply Goes.ops2 fits Hh Zc; · simp (maxSteps:=9^6) +decide (disch:=first|omega|(simp only[lens]<;>omega)|decide) only [go_sem,Za,simprocAttr,tA1,tA0,p40,lf,ln,d1,w1,w2,w5,w6,r1,r2,r5,r6,il,pA,pB,pC,xol,xtl,u5,u6,u15,u18,u20,L18,L20,Lp,R18,R20,Rp,Zh]<;>rfl))
  refine Goes.ops2 fits Hh (Zt Zc c27) (by
   iterate 11 (refine Zz (by simp (maxSteps:=9^6) +decide (disch:=first|omega|(simp only[lens]<;>omega)|decide) only [go_sem,Za,simprocAttr,Zy,tA1,tA0,p40,lf,ln,d1,w1,w2,w5,w6,r1,r2,r5,r6,il,pA,pB,pC,xol,xtl,u5,u6,u15,u18,u20,L18,L20,Lp,R18,R20,Rp,Zh]<;>rfl) ?_)
   exact Z0) ?_
  apply Goes.seq
  refine Goes.ops2 fits Hh (Zt Zc c28) (by
   iterate 11 (refine Zz (by simp (maxSteps:=9^6) +decide (disch:=first|omega|(simp only[lens]<;>omega)|decide) only [go_sem,Za,simprocAttr,Zy,tA1,tA0,p40,lf,ln,d1,w1,w2,w5,w6,r1,r2,r5,r6,il,pA,pB,pC,xol,xtl,u5,u6,u15,u18,u20,L18,L20,Lp,R18,R20,Rp,Zh]<;>rfl) ?_)
   exact Z0) ?_
  refine Z1d Hh (b:=0) (ca:=sa) (cb:=sb) (R1:=Ra) (R2:=Rb) (p18:=hC.next) (p20:=hC.next+1) ?_ ?_ (lR.trans lT.symm) (fun j hj=>(eR j hj).trans (eT j (by omega)).symm) ((kT.2 _ (by have:=kR.1; omega) (by omega)).trans R18) ((kT.2 _ (by have:=kR.1; omega) (by omega)).trans R20) sz1 sz2 ?_ ?_ ?_ ?_ ?_ ?_
  ·rcases sR with w2|⟨p,a1,a2,a3,a4,a5⟩
   ·exact .inl w2
   ·exact .inr ⟨p,a1,a2,(kT.2 p a5 (by omega)).trans a3,by omega,by have:=kT.1; omega⟩
  ·rcases sT with w2|⟨p,a1,a2,a3,a4,a5⟩
   ·exact .inl w2
   ·exact .inr ⟨p,a1,a2,a3,by omega,a5⟩
  all_goals (simp (maxSteps:=9^6) +decide (disch:=first|omega|(simp only[lens]<;>omega)|decide) only [go_sem,Zb,Za,simprocAttr,u18,u20]<;>rfl)
 exact⟨h',cc⟩
end
end Go.Proofs.YtgikjeaipmeclaaGreatDoor
set_option maxRecDepth 100000
namespace Go.Proofs.YtgikjeaipmeclaaGreatDoor
open Go.Ev Go.ChangeShapes Go.WideShapes
section
variable (Hh:Hearts K Tryz.prog)
include Hh
theorem Zjn {W:World} {cs:Array Value} {t:TypeId} {fr:Nat × Nat} (hb:W.heap[0]? = some (.cells cs t fr)) (hcs:cs.toList=steps16.map (Value.int .u32)) (z0 z1 z2 z3 z5 z6:Int) (wf0:(Lit.int .u8 z0).wf=true) (wf3:(Lit.int .u8 z3).wf=true) {v4:Value} (ok4:Zjb W v4) :
  Calls Tryz.prog 3 #[.int .u8 z0,.int .i64 z1,.int .i64 z2,.int .u8 z3,v4,.int .i64 z5,.int .i64 z6] W fun e W'=>e=.returned (.bool true)∧Go.RowKit.Below W.heap.size W W':=by
 obtain⟨m0,m1⟩:=wf_u8 wf0
 obtain⟨b0,b1⟩:=wf_u8 wf3
 obtain⟨mo,rfl⟩:=Int.eq_ofNat_of_zero_le m0
 obtain⟨by_,rfl⟩:=Int.eq_ofNat_of_zero_le b0
 obtain⟨c4,A,a,la,k4,o4,l4,s4⟩:=ok4.ari 1
 have a4:ArI (Sg a none).next (Sg a none) c4 A:=by
  refine⟨l4,s4.imp id fun ⟨e,e2⟩=>⟨1,true,?_,e,?_⟩⟩
  ·unfold Sg; rw[Vr,Vr]; exact (by omega:1<3)
  ·subst e2
   unfold Sg
   rw[Zja _ _ (by omega)]
   exact Z8 ..
 have h0:(Sg a none).get 0=some Oh:=by
  unfold Sg
  rw[Zja _ _ (by omega),Zja _ _ (by omega)]
  rfl
 have nx:(Sg a none).next=3:=by unfold Sg; rw[Vr,Vr]
 obtain⟨h',cc⟩:=Zsi Hh h0 (by omega) a4 (mo:=mo) (by_:=by_) (by omega) (by omega) z1 z2 z5 z6
 exact Q7 (ρ:=Zg9 la ⟨0,0,0⟩) (vals:=[.int .u8 (mo:Int),.int .i64 z1,.int .i64 z2,.int .u8 (by_:Int),v4,.int .i64 z5,.int .i64 z6]) (Zj6 hb hcs o4 (fun _ _ e=>by cases e)) (by rw[nx]; exact Zg3 la ⟨0,0,0⟩) (fun n o e=>Qs e) cc ⟨rfl,rfl,rfl,rfl,k4 _ rfl,rfl,rfl,trivial⟩
end
end Go.Proofs.YtgikjeaipmeclaaGreatDoor
