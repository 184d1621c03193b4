/- Image of a store: its blocks, as the disk has them, whatever was read. -/
import Derived.Test.YtngejdlimkgjfaaGreatDoorClo
import Derived.Test.YtngejdlimkgjfaaGreatDoorMdg
import Derived.Test.YtngejdlimkgjfaaGreatDoorIqa
import Derived.Test.YtngejdlimkgjfaaGreatDoorGiv
set_option linter.unusedSimpArgs false
set_option linter.unusedVariables false
set_option linter.unusedSectionVars false
set_option maxRecDepth 100000
set_option maxHeartbeats 4000000
namespace Go.Proofs.YtngejdlimkgjfaaGreatDoor
open Go.Ev
noncomputable def q7 (p:List Nat):Code:=piece p (Yc Tryz.f7)
theorem rs7:Tryz.f7.results.toList=[.tmp 2,.tmp 3]:=rfl
attribute [go_sem] rs7
def Zeb (a b c e:Nat) (L:List (List C)) (z:Nat):List C:=if La a b c e (z:Int)=true then (L[z]?).getD zB else zB
def Na (a b c e:Nat) (L:List (List C)) (N i:Nat):List (List C):=(List.range i).map (Zeb a b c e L)++List.replicate (N - i) zB
theorem Zxb {a b c e:Nat} {L:List (List C)} {N i:Nat} (h:i≤N):(Na a b c e L N i).length=N:=by
 unfold Na
 rw[List.length_append,List.length_map,List.length_range,List.length_replicate]; omega
theorem Zsp {a b c e:Nat} {L:List (List C)} {N i:Nat} (h:i<N):(Na a b c e L N i)[i]? = some zB:=by
 unfold Na
 rw[List.getElem?_append_right (by simp),List.length_map,List.length_range,Nat.sub_self,List.getElem?_replicate,if_pos (by omega)]
theorem Zo5 {a b c e:Nat} {L:List (List C)} {N i:Nat} (h:i<N):(Na a b c e L N i).set i (Zeb a b c e L i)=Na a b c e L N (i+1):=by
 unfold Na
 obtain⟨m,hm⟩:∃ m,N - i=m+1:=⟨N - i - 1,by omega⟩
 rw[hm,show N - (i+1)=m by omega,List.set_append_right _ _ (by simp),List.length_map,List.length_range,Nat.sub_self,List.replicate_succ,List.set_cons_zero,List.range_succ,List.map_append,List.append_assoc]
 rfl
theorem Zur {a b c e:Nat} {L:List (List C)} {N:Nat}:Na a b c e L N 0=List.replicate N zB:=rfl
theorem Zs6 {a b c e:Nat} {L:List (List C)} (im:imB L=true) (z:Nat):(Zeb a b c e L z).length=256:=by
 unfold Zeb
 split
 ·cases hx:L[z]? with
  | none=>kernel_rfl
  | some x=>exact (Zfj im (List.mem_of_getElem? hx)).1
 ·kernel_rfl
section
variable (Hh:Hearts K Tryz.prog)
include Hh
variable {n a b c e:Nat} {md:Int} {S:Stt} {X:Tx} {L:List (List C)} {h0:Go.Ev.H}
theorem Z1r (f:Jm a b c e=true) (R0:RsE n a b c e md S X [] L h0) (im:imB L=true) {N p:Nat} (hN:2+e+a * b=N) (LN:L.length=N) (p0:h0.next≤p):∀ (k i:Nat) (ts:Zx) (h:Go.Ev.H),i+k=N→Rd n L h0 h→p<h.next→h.get p=some (.row 256 (Na a b c e L N i) false)→Zq ts 0=.w (.c (.ptr (n+13) 0))→Zq ts 4=.w (.c (.slice p 0 N 256))→Zq ts 21=.w (.c (.int .i64 (N:Int)))→Zq ts 22=.w (.c (.int .i64 (i:Int))) →
  Goes K Tryz.prog 47 none (q7 [1,1,1,0,1,2]) [] ts h fun x ds' ts' h'=>x=.exit 0∧ds'=[]∧Rd n L h0 h'∧p<h'.next∧h'.get p=some (.row 256 (Na a b c e L N N) false)∧Zq ts' 4=.w (.c (.slice p 0 N 256)):=by
 obtain⟨g1,g2,g3,g4,g5,g6,g7,g8,g9,g10,g11⟩:=Z0 f
 have N1:N<4096:=by omega
 have nx0:n+23≤h0.next:=by
  obtain⟨lm,_,_,Q⟩:=R0
  exact Q.nx
 intro k
 induction k with
 | zero =>
  intro i ts h hi R hp hx t0 t4 t21 t22
  obtain rfl:i=N:=by omega
  iterate 6 (first|apply Goes.seq|apply Goes.exit|apply Goes.loop|((first|apply Goes.Zr|apply Goes.ops2 fits Hh Zc); · simp (maxSteps:=9^6) +decide (disch:=first|omega|(simp only[lens]<;>omega)|decide) only [go_sem,Zf,Za,simprocAttr,t21,t22]<;>rfl))
  refine⟨rfl,rfl,R,hp,hx,?_⟩
  simp (maxSteps:=9^6) +decide (disch:=first|omega|(simp only[lens]<;>omega)|decide) only [go_sem,Zf,Za,simprocAttr,t4]
 | succ k ih =>
  intro i ts h hi R hp hx t0 t4 t21 t22
  have iN:i<N:=by omega
  have R1:=R0.rd R
  obtain⟨hs,gl,lg⟩:h.get (n+13)=some (.row 8 [stL S] false)∧h.get S.gd=some (.row 9 [gdL (gdN n a b c e md)] false)∧n+13<h.next:=by
   obtain⟨lm,_,_,R1⟩:=R1
   have:=R1.nx
   exact⟨R1.hs,R1.hg,by omega⟩
  unfold gdL gdN at gl
  cases ou:La a b c e (i:Int) with
  | false =>
   have ea:Zeb a b c e L i=zB:=by unfold Zeb; rw[if_neg (by rw[ou]; simp)]
   have es:Na a b c e L N (i+1)=Na a b c e L N i:=by
    rw[←Zo5 iN,ea]
    refine List.ext_getElem? fun j=>?_
    by_cases q:i=j
    ·subst q; rw[List.getElem?_set_self (by rw[Zxb (by omega)]; exact iN),Zsp iN]
    ·rw[List.getElem?_set_ne q]
   iterate 16 (first|apply Goes.seq|apply Goes.skip|apply Goes.block|apply Goes.exit|apply Goes.loop|((first|apply Goes.Zr|apply Goes.ops2 fits Hh (Zh Zc (fun _ _ _ _=>Fb Hh))); · simp (maxSteps:=9^6) +decide (disch:=first|omega|(simp only[lens]<;>omega)|decide) only [go_sem,Zf,Za,simprocAttr,t0,t4,t21,t22,hs,gl,f,ou,read1]<;>rfl))
   show Goes K Tryz.prog 47 none (q7 [1,1,1,0,1,2]) _ _ _ _
   refine ih (i+1) _ _ (by omega) R hp (by rw[es]; exact hx) ?_ ?_ ?_ ?_
   ·simp (maxSteps:=9^6) +decide (disch:=first|omega|(simp only[lens]<;>omega)|decide) only [go_sem,Zf,Za,simprocAttr,t0]
   ·simp (maxSteps:=9^6) +decide (disch:=first|omega|(simp only[lens]<;>omega)|decide) only [go_sem,Zf,Za,simprocAttr,t4]
   ·simp (maxSteps:=9^6) +decide (disch:=first|omega|(simp only[lens]<;>omega)|decide) only [go_sem,Zf,Za,simprocAttr,t21]
   ·simp (maxSteps:=9^6) +decide (disch:=first|omega|(simp only[lens]<;>omega)|decide) only [go_sem,Zf,Za,simprocAttr]<;>rfl
  | true =>
   obtain⟨x,hxi⟩:∃ x,L[i]? = some x:=⟨_,List.getElem?_eq_getElem (by omega)⟩
   obtain⟨xl,xf⟩:=Zfj im (List.mem_of_getElem? hxi)
   have ea:Zeb a b c e L i=x:=by unfold Zeb; rw[if_pos ou,hxi]; rfl
   have wr:Z5 256 (Na a b c e L N i) (i * 256) x=some (Na a b c e L N (i+1)):=by
    rw[←Zo5 iN,ea]
    exact Ze2 (by exact xl) (by omega) (Zsp iN) (by kernel_rfl)
   obtain⟨h',e1,rd,nx⟩:=R1.seen f (z:=i) (by omega) (.inr ⟨rfl,hxi⟩) xl xf
   have c1:=Nh Hh e1
   have hp':=(rd.2.1 p hp (by have:=R0.rd R; obtain⟨lm,_,_,Q⟩:=R0; have:=Q.nx; omega)).trans hx
   obtain⟨A,hA⟩:∃ A,Na a b c e L N i=A:=⟨_,rfl⟩
   obtain⟨B,hB⟩:∃ B,Na a b c e L N (i+1)=B:=⟨_,rfl⟩
   rw[hA] at hp' wr
   rw[hB] at wr
   have R2:Rd n L h0 h':=⟨by have:=R.1; omega,fun m hm hne=>(rd.2.1 m (by have:=R.1; omega) hne).trans (R.2.1 m hm hne),rd.2.2⟩
   iterate 16 (first|apply Goes.seq|apply Goes.skip|apply Goes.block|apply Goes.loop|((first|apply Goes.Zr|apply Goes.ops2 fits Hh (Zh Zc (fun _ _ _ _=>Fb Hh))); · simp (maxSteps:=9^6) +decide (disch:=first|omega|(simp only[lens]<;>omega)|decide) only [go_sem,Za,simprocAttr,t0,t4,t21,t22,hs,gl,f,ou,hp',wr,xl,nx,read1]<;>rfl))
   iterate 8 (first|apply Goes.seq|apply Goes.skip|((first|apply Goes.Zr|apply Goes.ops2 fits Hh (Zy Zc c1)); · simp (maxSteps:=9^6) +decide (disch:=first|omega|(simp only[lens]<;>omega)|decide) only [go_sem,Za,simprocAttr,Z7,t0,t4,t21,t22,hs,gl,f,ou,hp',wr,xl,nx,read1]<;>rfl))
   show Goes K Tryz.prog 47 none (q7 [1,1,1,0,1,2]) _ _ _ _
   refine ih (i+1) _ _ (by omega) ⟨?_,fun m hm hne=>?_,?_⟩ ?_ ?_ ?_ ?_ ?_ ?_
   ·have:=R2.1; simp only[H.Zg,H.Zd]; omega
   ·have:=R2.1; refine Eq.trans ?_ (R2.2.1 m hm hne); (first|(simp (discharger:=omega) only [H.get_put,H.Zi,H.Zm,H.Zd,H.Zg,H.Zj,if_neg]; done)|(simp only[H.get_put,H.Zi,H.Zm,H.Zd,H.Zg,H.Zj]; (repeat' split)<;>first|rfl|(exfalso; omega)|omega))
   ·obtain⟨lm,q1,q2,q3⟩:=R2.2.2; have:=R2.1; refine⟨lm,q1,q2,Eq.trans ?_ q3⟩; (first|(simp (discharger:=omega) only [H.get_put,H.Zi,H.Zm,H.Zd,H.Zg,H.Zj,if_neg]; done)|(simp only[H.get_put,H.Zi,H.Zm,H.Zd,H.Zg,H.Zj]; (repeat' split)<;>first|rfl|(exfalso; omega)|omega))
   ·simp only[H.Zg,H.Zd]<;>omega
   ·rw[Z9,hB]
   ·simp (maxSteps:=9^6) +decide (disch:=first|omega|(simp only[lens]<;>omega)|decide) only [go_sem,Zf,Za,simprocAttr,t0]
   ·simp (maxSteps:=9^6) +decide (disch:=first|omega|(simp only[lens]<;>omega)|decide) only [go_sem,Zf,Za,simprocAttr,t4]
   ·simp (maxSteps:=9^6) +decide (disch:=first|omega|(simp only[lens]<;>omega)|decide) only [go_sem,Zf,Za,simprocAttr,t21]
   ·simp (maxSteps:=9^6) +decide (disch:=first|omega|(simp only[lens]<;>omega)|decide) only [go_sem,Zf,Za,simprocAttr]<;>rfl
theorem Zss (f:Jm a b c e=true) (R0:RsE n a b c e md S X [] L h0) (im:imB L=true) {N:Nat} (hN:2+e+a * b=N) (LN:L.length=N) :
  ∃ h' p,Ze K Tryz.prog 7 [.c (.ptr (n+13) 0)] h0 (.tup [.c (.slice p 0 N 256),.c (.int .i64 0)]) h'∧Rd n L h0 h'∧h0.next≤p∧p<h'.next∧h'.get p=some (.row 256 (Na a b c e L N N) false):=by
 obtain⟨g1,g2,g3,g4,g5,g6,g7,g8,g9,g10,g11⟩:=Z0 f
 have N1:N<4096:=by omega
 obtain⟨hs,gl,lg⟩:h0.get (n+13)=some (.row 8 [stL S] false)∧h0.get S.gd=some (.row 9 [gdL (gdN n a b c e md)] false)∧n+13<h0.next:=by
  obtain⟨lm,_,_,R1⟩:=R0
  have:=R1.nx
  exact⟨R1.hs,R1.hg,by omega⟩
 unfold gdL gdN at gl
 have fz:List.replicate 256 (C.int .u8 0)=zB:=rfl
 obtain⟨v,h',cc,p,rfl,hr⟩:∃ v h',Ze K Tryz.prog 7 [.c (.ptr (n+13) 0)] h0 v h'∧∃ p,v=.tup [.c (.slice p 0 N 256),.c (.int .i64 0)]∧Rd n L h0 h'∧h0.next≤p∧p<h'.next∧h'.get p=some (.row 256 (Na a b c e L N N) false):=by
  refine Ze.Z8 fits Hh (by kernel_rfl) (by kernel_rfl) (by kernel_rfl) (show Tryz.f7.body=some _ from rfl) rfl ?_
  iterate 13 (first|apply Goes.seq|apply Goes.skip|apply Goes.block|((first|apply Goes.Zr|apply Goes.ops2 fits Hh (Zh (Zh Zc (fun _ _ _ _=>Gz Hh)) (fun _ _ _ _=>Gl Hh))); · simp (maxSteps:=9^6) +decide (disch:=first|omega|(simp only[lens]<;>omega)|decide) only [go_sem,Zf,Za,simprocAttr,hs,gl,f,hN,fz,read1,Zw,Ua,Y7]<;>rfl))
  refine (Z1r Hh f R0 im hN LN (p:=h0.next) (Nat.le_refl _) N 0 _ _ (by omega) ?_ ?_ ?_ ?_ ?_ ?_ ?_).mono ?_
  ·obtain⟨lm,fl,sn,Q⟩:=R0; have:=Q.nx; exact (Rd.refl fl sn Q.hm).then (by simp only[H.Zg,H.Zd]; omega) (fun m hm=>by (first|(simp (discharger:=omega) only [H.get_put,H.Zi,H.Zm,H.Zd,H.Zg,H.Zj,if_neg]; done)|(simp only[H.get_put,H.Zi,H.Zm,H.Zd,H.Zg,H.Zj]; (repeat' split)<;>first|rfl|(exfalso; omega)|omega))) (by omega)
  ·simp only[H.Zg,H.Zd]<;>omega
  ·rw[Zur]; simp (maxSteps:=9^6) +decide (disch:=first|omega|(simp only[lens]<;>omega)|decide) only [go_sem,Za,simprocAttr]<;>rfl
  ·simp (decide:=true) only [Zn,reduceIte]<;>rfl
  ·simp (decide:=true) only [Zn,reduceIte]
  ·simp (maxSteps:=9^6) +decide (disch:=first|omega|(simp only[lens]<;>omega)|decide) only [go_sem,Zf,Za,simprocAttr]<;>rfl
  ·simp (decide:=true) only [Zn,reduceIte]<;>rfl
  rintro x ds' ts' h' ⟨rfl,rfl,R,hp,hx,t4⟩
  iterate 3 (first|apply Goes.seq|apply Goes.ret|(apply Goes.ops2 fits Hh Zc; · simp (maxSteps:=9^6) +decide (disch:=first|omega|(simp only[lens]<;>omega)|decide) only [go_sem,Zf,Za,simprocAttr,t4]<;>rfl))
  exact⟨_,_,(by simp (maxSteps:=9^6) +decide (disch:=first|omega|(simp only[lens]<;>omega)|decide) only [go_sem,Zf,Za,simprocAttr]<;>rfl),_,rfl,R,Nat.le_refl _,hp,hx⟩
 exact⟨h',p,cc,hr⟩
end
end Go.Proofs.YtngejdlimkgjfaaGreatDoor
set_option maxRecDepth 100000
set_option maxHeartbeats 4000000
namespace Go.Proofs.YtngejdlimkgjfaaGreatDoor
open Go.Ev
theorem rs48:Tryz.f48.results.toList=[.tmp 2]:=rfl
theorem rs12:Tryz.f12.results.toList=[.tmp 2]:=rfl
attribute [go_sem] rs48 rs12
def Zrm (X:Tx) (c1 c2 c3 r:Nat):Tx:={ X with ch:=c1,od:=c2,fr:=c3,rv:=r }
noncomputable def Q7 (h:Go.Ev.H) (t:Nat) (X:Tx):Go.Ev.H:=Zbg (h.put t (.row 13 [txL X] false)) t X
noncomputable def toP:C→Option Nat
 | .ptr r o=>Y9 (Nat.beq o 0) (some r)
 | _=>none
theorem Zxv {c:C} {m:Nat} (e:toP c=some m):c=.ptr m 0:=by
 cases c<;>first|(cases e; done)|skip
 obtain⟨b,e⟩:=Zv.1 e
 cases e
 obtain rfl:=Nat.eq_of_beq_eq_true b
 rfl
theorem Z0k (r:Nat):toP (.ptr r 0)=some r:=rfl
noncomputable def Zq2:Kn1:=fun args h=>match args with
 | [.c (.ptr t 0)]=>(Bi h t).bind fun X=>(toN X.b1).bind fun c1=>(toN X.b2).bind fun c2=>(toN X.b3).bind fun c3=>(toP X.b4).bind fun r=>Y9 X.op (some (.w (.c (.int .i64 0)),Q7 h t (Zrm X c1 c2 c3 r)))
 | _=>none
attribute [go_sem] Zq2 Z0k
section
variable (Hh:Hearts K Tryz.prog)
include Hh
theorem Zt6 {args:List W} {h h':Go.Ev.H} {v:V} (e:Zq2 args h=some (v,h')):Ze K Tryz.prog 48 args h v h':=by
 unfold Zq2 at e
 split at e
 ·rename_i t
  obtain⟨X,ht,e⟩:=Zo e
  have ht:=Jj ht
  obtain⟨c1,h1,e⟩:=Zo e
  have h1:=Wt h1
  obtain⟨c2,h2,e⟩:=Zo e
  have h2:=Wt h2
  obtain⟨c3,h3,e⟩:=Zo e
  have h3:=Wt h3
  obtain⟨r,h4,e⟩:=Zo e
  have h4:=Zxv h4
  obtain⟨bo,e⟩:=Zv.1 e
  cases e
  obtain⟨ch,od,fr,rv,sq,op,cr,rk,to,b1,b2,b3,b4⟩:=X
  obtain rfl:b1=_:=h1
  obtain rfl:b2=_:=h2
  obtain rfl:b3=_:=h3
  obtain rfl:b4=_:=h4
  obtain rfl:op=true:=bo
  have pp:=@H.Vt
  refine Ze.goes fits Hh (by kernel_rfl) (by kernel_rfl) (by kernel_rfl) (show Tryz.f48.body=some _ from rfl) rfl ?_
  repeat (first|apply Goes.seq|apply Goes.block|apply Goes.loop|apply Goes.skip|apply Goes.exit|apply Goes.ret|((first|apply Goes.Zr|apply Goes.ops2 fits Hh (Zh (Zh Zc (fun _ _ _ _=>Zjz Hh)) (fun _ _ _ _=>Zqf Hh))); · simp (maxSteps:=9^6) +decide (disch:=first|omega|(simp only[lens]<;>omega)|decide) only [go_sem,Zf,Za,simprocAttr,ht,read1,Z5]<;>rfl))
  simp (maxSteps:=9^6) +decide (disch:=first|omega|(simp only[lens]<;>omega)|decide) only [go_sem,Zf,Za,simprocAttr,Q7,Zrm,Zbg]<;>rfl
 ·cases e
theorem Zz5 {n a b c e:Nat} {md:Int} {S:Stt} {X:Tx} {lc:J9} {L:List (List C)} {h:Go.Ev.H} (f:Jm a b c e=true) (R:RsE n a b c e md S X lc L h) (bo:X.op=true) {c1 c2 c3 r:Nat} (b1:X.b1=.map c1) (b2:X.b2=.map c2) (b3:X.b3=.map c3) (b4:X.b4=.ptr r 0) (hv:h.get c1=some (.map [])) (cl:c1<h.next) (c6:c1≠n+6) (t13:S.tx≠n+13) :
  ∃ h' S' X',Ze K Tryz.prog 12 [.c (.ptr (n+13) 0)] h (.w (.c (.int .i64 0))) h'∧RsE n a b c e md S' X' [] L h'∧h.next≤h'.next∧∀ m,m<h.next→m≠n+13→m≠S.tx→h'.get m=h.get m:=by
 obtain⟨lm,fl,sn,R⟩:=R
 obtain⟨nx,f1,f2,f3,f4,f5,f6,f7,f8,f9,f10,l1,l2,l3,l4,e1,e2,e3,e4⟩:=R
 have cs:c1≠n+13:=fun q=>by rw[q,f1] at hv; cases hv
 have ct:c1≠S.tx:=fun q=>by rw[q,f2] at hv; cases hv
 have d6:S.tx≠n+13:=t13
 have q1:=Zfz c1
 have q2:=Zfz c2
 have q3:=Zfz c3
 have c0:Ze K Tryz.prog 12 [.c (.ptr (n+13) 0)] h (.w (.c (.int .i64 0))) (Q7 (Oc h (n+13) S) S.tx (Zrm X c1 c2 c3 r)):=by
  obtain⟨ch,od,fr,rv,sq,op,cr,rk,to,x1,x2,x3,x4⟩:=X
  obtain rfl:x1=_:=b1
  obtain rfl:x2=_:=b2
  obtain rfl:x3=_:=b3
  obtain rfl:x4=_:=b4
  obtain rfl:op=true:=bo
  refine Ze.goes fits Hh (by kernel_rfl) (by kernel_rfl) (by kernel_rfl) (show Tryz.f12.body=some _ from rfl) rfl ?_
  repeat (first|apply Goes.seq|apply Goes.block|apply Goes.loop|apply Goes.skip|apply Goes.exit|apply Goes.ret|((first|apply Goes.Zr|apply Goes.ops2 fits Hh (Zh (Zh (Zh Zc (fun _ _ _ _=>Zjm Hh)) (fun _ _ _ _=>Du Hh)) (fun _ _ _ _=>Zt6 Hh))); · simp (maxSteps:=9^6) +decide (disch:=first|omega|(simp only[lens]<;>omega)|decide) only [go_sem,Zf,Za,simprocAttr,f1,f2,f3,gdL,gdN,f,q1,q2,q3,read1]<;>rfl))
  simp (maxSteps:=9^6) +decide (disch:=first|omega|(simp only[lens]<;>omega)|decide) only [go_sem,Zf,Za,simprocAttr,Oc]<;>rfl
 have gs:∀ m,m<h.next→m≠n+13→m≠S.tx→(Q7 (Oc h (n+13) S) S.tx (Zrm X c1 c2 c3 r)).get m=h.get m:=fun m hm h1 h2=>by
  unfold Q7 Zbg Oc
  simp (discharger:=omega) only [H.get_put,H.Zi,H.Zd,H.Zg,if_neg]
 have ng:∀ {m:Nat} {o:O} {es:List (W × W)},h.get m=some o→(∀ q,o≠.row 8 [stL q] false)→m≠n+13:=fun hm ho q=>by
  rw[q,f1] at hm
  cases hm
  exact ho _ rfl
 have nt:∀ {m:Nat} {o:O},h.get m=some o→(∀ q,o≠.row 13 [txL q] false)→m≠S.tx:=fun hm ho q=>by
  rw[q,f2] at hm
  cases hm
  exact ho _ rfl
 refine⟨_,{ S with dt:=h.next,gv:=h.next+1,kn:=false },Zwm (Zrm X c1 c2 c3 r),c0,⟨lm,fl,sn,?_⟩,?_,gs⟩
 ·refine⟨?_,?_,?_,?_,?_,?_,?_,?_,?_,?_,?_,?_,?_,?_,?_,e1,e2,?_,c6⟩
  ·unfold Q7 Zbg Oc; simp only[H.Zd,H.Zg]; omega
  ·unfold Q7 Zbg Oc; simp (discharger:=omega) only [H.get_put,H.Zi,H.Zd,H.Zg,if_neg,if_true]
  ·show (Q7 (Oc h (n+13) S) S.tx (Zrm X c1 c2 c3 r)).get S.tx=_
   unfold Q7 Zbg; exact Z9 _ _ _
  ·exact (gs _ l2 (ng (es:=[]) f3 fun q h=>by cases h) (nt f3 fun q h=>by cases h)).trans f3
  ·exact (gs _ (by omega) (by omega) (nt f4 fun q h=>by cases h)).trans f4
  ·exact (gs _ (by omega) (by omega) (nt f5 fun q h=>by cases h)).trans f5
  ·exact (gs _ (by omega) (by omega) (nt f6 fun q h=>by cases h)).trans f6
  ·exact (gs _ (by omega) (by omega) (nt f7 fun q h=>by cases h)).trans f7
  ·show (Q7 (Oc h (n+13) S) S.tx (Zrm X c1 c2 c3 r)).get h.next=_
   unfold Q7 Zbg Oc; simp (discharger:=omega) only [H.get_put,H.Zi,H.Zd,H.Zg,if_neg,if_true]
  ·exact (gs c1 cl cs ct).trans hv
  ·exact (gs _ (by omega) (by omega) (nt f10 fun q h=>by cases h)).trans f10
  ·show S.tx<_
   unfold Q7 Zbg Oc; simp only[H.Zd,H.Zg]; omega
  ·show S.gd<_
   unfold Q7 Zbg Oc; simp only[H.Zd,H.Zg]; omega
  ·show h.next<_
   unfold Q7 Zbg Oc; simp only[H.Zd,H.Zg]; omega
  ·show c1<_
   unfold Q7 Zbg Oc; simp only[H.Zd,H.Zg]; omega
  ·show h.next≠n+6
   omega
 ·unfold Q7 Zbg Oc; simp only[H.Zd,H.Zg]; omega
end
end Go.Proofs.YtngejdlimkgjfaaGreatDoor
set_option maxRecDepth 100000
set_option maxHeartbeats 4000000
namespace Go.Proofs.YtngejdlimkgjfaaGreatDoor
open Go.Ev
def Kq (n q:Nat) (h h':Go.Ev.H):Prop:=h.next≤h'.next∧∀ m,m<h.next→Off n q m→m≠n+20→h'.get m=h.get m
theorem Kq.then {n q:Nat} {h h' h2:Go.Ev.H} (r:Kq n q h h') (r2:Kq n q h' h2):Kq n q h h2:=⟨Nat.le_trans r.1 r2.1,fun m hm o o2=>(r2.2 m (Nat.lt_of_lt_of_le hm r.1) o o2).trans (r.2 m hm o o2)⟩
theorem Zes:∀ {x:List C},x.all Zc1=true→Yo x x=some true
 | [],_=>rfl
 | c :: x,h=>by
  rw[List.all_cons,Bool.and_eq_true] at h
  cases c<;>first|(cases h.1; done)|skip
  simp only[Yo,if_true,beq_self_eq_true,cond_true]
  exact Zes h.2
theorem Zzo {a b c e:Nat} {L:List (List C)} (bi:Zqm L=true) (z:Nat):(Zeb a b c e L z).all Zc1=true:=by
 unfold Zeb
 split
 ·cases hx:L[z]? with
  | none=>kernel_rfl
  | some x=>exact List.all_eq_true.1 bi x (List.mem_of_getElem? hx)
 ·kernel_rfl
theorem Zvp {a b c e:Nat} {L:List (List C)} {N i:Nat} (h:i<N):(Na a b c e L N N)[i]? = some (Zeb a b c e L i):=by
 unfold Na
 rw[List.getElem?_append_left (by simpa using h),List.getElem?_map,List.getElem?_range h]
 rfl
theorem Z5p (p0 p1 p2 p3 p4 p5 p6 p7 p8 p9 p10:Int):∃ z,Yo [.int .u32 p0,.int .u32 p1,.int .u32 p2,.int .u32 p3,.int .u32 p4,.int .u32 p5,.int .u32 p6,.int .u32 p7,.int .u32 p8,.int .u32 p9,.int .u32 p10] [.int .u32 0,.int .u32 0,.int .u32 0,.int .u32 0,.int .u32 0,.int .u32 0,.int .u32 0,.int .u32 0,.int .u32 0,.int .u32 0,.int .u32 0]=some z:=by
 have s:∀ (p:Int) (x y:List C),(∃ z,Yo x y=some z)→∃ z,Yo (.int .u32 p :: x) (.int .u32 0 :: y)=some z:=fun p x y ⟨z,h⟩=>by
  show ∃ z,(bif p == 0 then Yo x y else some false)=some z
  cases p == 0 with
  | true=>exact⟨z,h⟩
  | false=>exact⟨false,rfl⟩
 exact s _ _ _ (s _ _ _ (s _ _ _ (s _ _ _ (s _ _ _ (s _ _ _ (s _ _ _ (s _ _ _ (s _ _ _ (s _ _ _ (s _ _ _ ⟨true,rfl⟩))))))))))
theorem Zxn {k l s p0 p1 p2 p3 p4 p5 p6 p7 p8 p9 p10 nx:Int} (h:Qe k l s p0 p1 p2 p3 p4 p5 p6 p7 p8 p9 p10 nx=true):k=0∨k=1∨k=2:=by
 unfold Qe at h
 by_cases k0:k=0
 ·exact .inl k0
 ·rw[decide_eq_false k0,cond_false] at h
  by_cases k2:k=2
  ·exact .inr (.inr k2)
  ·rw[decide_eq_false k2,cond_false] at h
   by_cases k1:k=1
   ·exact .inr (.inl k1)
   ·rw[decide_eq_false k1,cond_false] at h; cases h
section
variable (Hh:Hearts K Tryz.prog)
include Hh
theorem Zrx {n a b c e:Nat} {md:Int} {L:List (List C)} {h:Go.Ev.H} (f:Jm a b c e=true) (I:Image a b c e L) (M:ClE n a b c e md L h) (ino:Int) {k l g s p0 p1 p2 p3 p4 p5 p6 p7 p8 p9 p10 nx:Int} (gb:0≤g∧g<4294967296) (pb:∀ v∈[p0,p1,p2,p3,p4,p5,p6,p7,p8,p9,p10],0≤v∧v<4294967296) (nb:0≤nx∧nx<4294967296) :
  ∃ h9 h11 h12 h13 h14 A r r2 S X,
   Qz [.c (.ptr (n+13) 0),.c (.int .i64 9),.c (.int .i64 0)] h=some (.w (.c (.int .i64 0)),h9) ∧
   Ze K Tryz.prog 9 [.c (.ptr (n+13) 0),.c (.int .u8 1),.c (.int .i64 ino)] h9 (.tup [.c (.int .i64 A),.c (.int .i64 0)]) h11 ∧
   Ze K Tryz.prog 10 [.c (.ptr (n+13) 0),.c (.int .i64 ino),.g (Gw k l g s p0 p1 p2 p3 p4 p5 p6 p7 p8 p9 p10 nx)] h11 (.w (.c (.int .i64 r))) h12 ∧
   Ze K Tryz.prog 11 [.c (.ptr (n+13) 0),.c (.int .i64 A)] h12 (.w (.c (.int .i64 r2))) h13 ∧
   Ze K Tryz.prog 12 [.c (.ptr (n+13) 0)] h13 (.w (.c (.int .i64 0))) h14∧RsE n a b c e md S X [] L h14∧(r2=0∨A=ino) ∧
   Kq n h.next h h9∧Kq n h.next h9 h11∧Kq n h.next h11 h12∧Kq n h.next h12 h13∧Kq n h.next h13 h14:=by
 have F:=Z0 f
 obtain⟨g1,g2,g3,g4,g5,g6,g7,g8,g9,g10,g11⟩:=F
 have nx0:n+23≤h.next:=M.1.nx
 have e9:=M.1.beg f
 have M9:=M.begun
 have ka:Zaj a c ino<a:=by
  unfold Zaj
  split
  ·rename_i q
   exact Nat.div_lt_of_lt_mul (by rw[Nat.mul_comm]; omega)
  ·omega
 obtain⟨kg,hkg⟩:∃ kg,Zaj a c ino=kg:=⟨_,rfl⟩
 rw[hkg] at ka
 have G:=Z0z f I ka
 have tc:=G.tc
 have sc:=Uf (b:=c) ka
 have sb:=Uf (b:=b) ka
 have b01:bit0 kg=0∨bit0 kg=1:=by unfold bit0; split<;>simp
 have hY:At [] L 1 (Rl a b c):=.inr ⟨rfl,I.de⟩
 obtain⟨h11,c11,M11,n11,k11⟩:=Zz9 Hh f M9 (by omega) hkg G hY (Zd4 a b c) (Zts a b c) (Zpp f) (Zqe f)
 obtain⟨j,hj⟩:∃ j,kg * c+bit0 kg=j:=⟨_,rfl⟩
 have jl:j<a * c:=by omega
 have see0:=sees0 (Z0 f) I
 have ne1:∀ z:Nat,z=1∨z=2+e+kg * b+1→∀ i,i<a * c→Jv b c e i≠z:=fun z hz i hi q=>by
  have ki:i / c<a:=Nat.div_lt_of_lt_mul (by rw[Nat.mul_comm]; omega)
  unfold Jv at q
  rcases hz with rfl|rfl
  ·omega
  ·have:i / c=kg∨i / c<kg∨kg<i / c:=by omega
   have ti:i % c<c:=Nat.mod_lt _ (by omega)
   rcases this with h1|h1|h1
   ·rw[h1] at q; omega
   ·have:=Nat.mul_le_mul_right b (Nat.succ_le_of_lt h1)
    rw[Nat.succ_mul] at this
    omega
   ·have:=Nat.mul_le_mul_right b (Nat.succ_le_of_lt h1)
    rw[Nat.succ_mul] at this
    omega
 obtain⟨D',hD'⟩:∃ D',(G5 a b c).set kg (x0D b c,i0D c kg - 1,bit0 kg)=D':=⟨_,rfl⟩
 have Dl':D'.length=a:=by rw[←hD',List.length_set,Vs g1]
 have Dm':D'.all (Tv (b - 2 - c / 4) c)=true:=by rw[←hD']; exact G.Dm
 have dk':D'[kg]? = some (x0D b c,i0D c kg - 1,bit0 kg):=by rw[←hD']; exact List.getElem?_set_self (by rw[Vs g1]; exact ka)
 obtain⟨bd',gd',td'⟩:=Zuv f Dl' Dm'
 have i0b:1≤i0D c kg:=G.y1
 have i0c:i0D c kg≤c:=by unfold i0D; split<;>omega
 have Dm1:(D'.set kg (x0D b c,i0D c kg - 1+1,bit0 kg)).all (Tv (b - 2 - c / 4) c)=true:=Zs5 Dm' (by
  have x:x0D b c=b - 2 - c / 4:=rfl
  have i:i0D c kg+bit0 kg≤c:=by unfold i0D bit0; split<;>omega
  unfold Tv
  rw[D5 (by simp only; omega),D5 (by simp only; omega),D5 (by simp only; omega)]
  rfl) kg
 have lT:lcT b c e [] (U0 e) (G5 a b c) 1 (F5 (bit0 kg) c 2048) kg (bit0 kg) (x0D b c) (i0D c kg) (bit0 kg)=J2 ((Jv b c e j:Nat):Int) (pgL (Gv (U0 e (Jv b c e j)) (Gy c j) 1 1 1 0 [0,0,0,0,0,0,0,0,0,0,0] 0)) (J2 1 (Zcv D') (J2 ((2+e+kg * b+1:Nat):Int) (Yy (Mw (F5 (bit0 kg) c 2048) (bit0 kg))) [])):=by
  unfold lcT Zcv
  rw[hj,←hD']
  rfl
 rw[lT] at M11
 rw[hj] at c11
 have U0l:=(see0 j jl).2
 have pc:=E8 c j
 have el:=Vm (k:=1) (l:=1) (g:=1) (s:=0) (ps:=[0,0,0,0,0,0,0,0,0,0,0]) (nx:=0) (show Gy c j+64≤(U0 e (Jv b c e j)).length by rw[U0l]; omega)
 rw[U0l] at el
 have see11:Zdc a b c e (J2 ((Jv b c e j:Nat):Int) (pgL (Gv (U0 e (Jv b c e j)) (Gy c j) 1 1 1 0 [0,0,0,0,0,0,0,0,0,0,0] 0)) (J2 1 (Zcv D') (J2 ((2+e+kg * b+1:Nat):Int) (Yy (Mw (F5 (bit0 kg) c 2048) (bit0 kg))) []))) L (U1 (U0 e) (Jv b c e j) (Gv (U0 e (Jv b c e j)) (Gy c j) 1 1 1 0 [0,0,0,0,0,0,0,0,0,0,0] 0)) :=
  ((see0.other (ne1 _ (.inr rfl))).other (z:=1) (ne1 _ (.inl rfl))).upd _ el
 have at1:At (J2 ((Jv b c e j:Nat):Int) (pgL (Gv (U0 e (Jv b c e j)) (Gy c j) 1 1 1 0 [0,0,0,0,0,0,0,0,0,0,0] 0)) (J2 1 (Zcv D') (J2 ((2+e+kg * b+1:Nat):Int) (Yy (Mw (F5 (bit0 kg) c 2048) (bit0 kg))) []))) L 1 (Zcv D'):=(At.put _ L 1 _).upd (Ne.symm (ne1 _ (.inl rfl) j jl))
 have atb:At (J2 ((Jv b c e j:Nat):Int) (pgL (Gv (U0 e (Jv b c e j)) (Gy c j) 1 1 1 0 [0,0,0,0,0,0,0,0,0,0,0] 0)) (J2 1 (Zcv D') (J2 ((2+e+kg * b+1:Nat):Int) (Yy (Mw (F5 (bit0 kg) c 2048) (bit0 kg))) []))) L (2+e+kg * b+1) (Yy (Mw (F5 (bit0 kg) c 2048) (bit0 kg))):=((At.put _ L _ _).upd (z:=1) (by omega)).upd (Ne.symm (ne1 _ (.inr rfl) j jl))
 have old1:gI a b c e (U1 (U0 e) (Jv b c e j) (Gv (U0 e (Jv b c e j)) (Gy c j) 1 1 1 0 [0,0,0,0,0,0,0,0,0,0,0] 0)) ((j+1:Nat):Int)=(Gw 1 1 1 0 0 0 0 0 0 0 0 0 0 0 0 0,0):=by
  unfold gI
  rw[if_pos ⟨by omega,by omega⟩,show ((j+1:Nat):Int).toNat - 1=j by omega]
  unfold U1
  rw[if_pos rfl,Zne (by rw[U0l]; omega) (by omega) (by omega) (by omega) (by omega) (fun v hv=>by simp only[List.mem_cons,List.not_mem_nil,or_false,or_self] at hv; omega) (by omega) rfl]
  rfl
 obtain⟨lc1,hlc1⟩:∃ l,J2 ((Jv b c e j:Nat):Int) (pgL (Gv (U0 e (Jv b c e j)) (Gy c j) 1 1 1 0 [0,0,0,0,0,0,0,0,0,0,0] 0)) (J2 1 (Zcv D') (J2 ((2+e+kg * b+1:Nat):Int) (Yy (Mw (F5 (bit0 kg) c 2048) (bit0 kg))) []))=l:=⟨_,rfl⟩
 obtain⟨U2,hU2⟩:∃ l,U1 (U0 e) (Jv b c e j) (Gv (U0 e (Jv b c e j)) (Gy c j) 1 1 1 0 [0,0,0,0,0,0,0,0,0,0,0] 0)=l:=⟨_,rfl⟩
 rw[hlc1] at M11 see11 at1 atb
 rw[hU2] at see11 old1
 obtain⟨h12,r,kn',w',lc',U',c12,M12,wl,see12,n12,k12,ka12,hr,ho⟩:=Zx0 Hh f M11 (by omega) see11 ino (k:=k) (l:=l) (s:=s) gb pb nb
 obtain⟨o,ps,kq,gn,z,ol,o0,o2,gnb,kk,r11,pl,hz,old,sure⟩:∃ o ps kq gn z,o.length=16∧o[0]? = some (C.int .u8 kq)∧o[2]? = some (C.int .u32 gn)∧(0≤gn∧gn<4294967296)∧(kq=0∨kq=1∨kq=2)∧Zf 16 [o] 4 11=some ps∧ps.length=11∧Yo ps [.int .u32 0,.int .u32 0,.int .u32 0,.int .u32 0,.int .u32 0,.int .u32 0,.int .u32 0,.int .u32 0,.int .u32 0,.int .u32 0,.int .u32 0]=some z∧gI a b c e U' ((j+1:Nat):Int)=(o,0)∧(kq=1∧z=true∨((j+1:Nat):Int)=ino):=by
  have hc:gI a b c e U' ((j+1:Nat):Int)=gI a b c e U2 ((j+1:Nat):Int)∨((j+1:Nat):Int)=ino∧Qe k l s p0 p1 p2 p3 p4 p5 p6 p7 p8 p9 p10 nx=true∧gI a b c e U' ((j+1:Nat):Int)=(Gw k l g s p0 p1 p2 p3 p4 p5 p6 p7 p8 p9 p10 nx,0):=by
   by_cases q:ino=((j+1:Nat):Int)
   ·rw[q] at hr
    rcases hr with ⟨_,hm,hg⟩|⟨_,hg⟩
    ·exact .inr ⟨q.symm,hm,hg⟩
    ·exact .inl hg
   ·exact .inl (ho _ q)
  rcases hc with q|⟨q,hm,hg⟩
  ·exact⟨Gw 1 1 1 0 0 0 0 0 0 0 0 0 0 0 0 0,_,1,1,true,rfl,rfl,rfl,⟨by omega,by omega⟩,.inr (.inl rfl),rfl,rfl,rfl,q.trans old1,.inl ⟨rfl,rfl⟩⟩
  ·obtain⟨z,hz⟩:=Z5p p0 p1 p2 p3 p4 p5 p6 p7 p8 p9 p10
   exact⟨Gw k l g s p0 p1 p2 p3 p4 p5 p6 p7 p8 p9 p10 nx,_,k,g,z,rfl,rfl,rfl,gb,Zxn hm,rfl,rfl,hz,hg,.inr q⟩
 obtain⟨h13,r2,kn2,w2,lc2,c13,M13,wl2,n13,k13,sure2⟩:=Z45 Hh f M12 (by omega) hj ka tc (g:=Mw (F5 (bit0 kg) c 2048) (bit0 kg)) (by simp [Mw]) (ka12 _ _ (ne1 _ (.inr rfl)) atb) (ka12 _ _ (ne1 _ (.inl rfl)) at1) (Zw3 D') bd' gd' td' Dl' dk' Dm' Dm1 (by omega) see12 ol o0 o2 gnb kk r11 pl hz old
 obtain⟨lt,lm,fm,sn,ft,fc,vt,lw,Q⟩:=M13
 have QQ:=Q
 have R13:RsE n a b c e md (stG n h.next kn2) (txG n h.next 9) lc2 L h13:=⟨lm,fm,sn,Q.rs⟩
 have nn:=Q.nx
 obtain⟨h14,S,X,c14,R14,n14,k14⟩:=Zz5 Hh f R13 rfl rfl rfl rfl rfl Q.hv6 (by omega) (by omega) (show n+20≠n+13 by omega)
 refine⟨_,h11,h12,h13,h14,((j+1:Nat):Int),r,r2,S,X,e9,c11,c12,c13,c14,R14,?_,⟨?_,fun m hm o o2=>G7 nx0 hm o.2.1 o2 9⟩,⟨n11,fun m hm o _=>k11 m hm o⟩,⟨n12,fun m hm o _=>k12 m hm o⟩,⟨n13,fun m hm o _=>k13 m hm o⟩,⟨n14,fun m hm o o2=>k14 m hm o.2.1 o2⟩⟩
 ·rcases sure with ⟨q1,q2⟩|q
  ·exact .inl (sure2 q1 q2)
  ·exact .inr q
 ·unfold Zdl Zbw Em Oc; simp only[H.Zd,H.Zg]; omega
end
end Go.Proofs.YtngejdlimkgjfaaGreatDoor
