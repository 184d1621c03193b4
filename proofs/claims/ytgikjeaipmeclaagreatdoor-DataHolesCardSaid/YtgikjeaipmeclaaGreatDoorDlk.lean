/- DataHoles, whatever it is given: true. -/
import Derived.Test.YtgikjeaipmeclaaGreatDoorIin
set_option linter.unusedSimpArgs false
set_option linter.unusedVariables false
set_option linter.unusedSectionVars false
set_option maxRecDepth 100000
set_option maxHeartbeats 4000000
namespace Go.Proofs.YtgikjeaipmeclaaGreatDoor
open Go.Ev
noncomputable def q4 (p:List Nat):Code:=piece p (Uq Tryz.f4)
theorem rs4:Tryz.f4.results.toList=[.tmp 14]:=rfl
attribute [go_sem] rs4
theorem rdY {R:List Nat} {j:Nat} (h:j<R.length):read1 1 (bsE R) j=some (.int .u8 ((atN R j:Nat):Int)):=by
 unfold read1 bsE
 rw[Nat.div_one,Nat.mod_one,List.getElem?_map,List.getElem?_eq_getElem h]
 show some (C.int .u8 ((R[j] % 256:Nat):Int))=_
 unfold atN
 rw[List.getD_eq_getElem?_getD,List.getElem?_eq_getElem h]
 rfl
theorem Zxf {b:Nat} {h0:Go.Ev.H} {c:C} {R:List Nat} (s:SlY b h0 c R):Yu K 32 (.c c)=true∧∀ h,Ye K h 32 (.c c)=some (.int .i64 (R.length:Nat)):=by
 rcases s with ⟨rfl,rfl⟩|⟨p,_,rfl,_⟩
 ·exact⟨by kernel_rfl,fun _=>rfl⟩
 ·exact⟨Vu ..,fun _=>rfl⟩
def Zj9 (off N:Nat) (w:List Nat) (at_ i:Nat):Nat:=if off≤at_+i∧at_+i<off+N then atN w (at_+i - off) else 0
section
variable (Hh:Hearts K Tryz.prog)
include Hh
variable {b off N at_ len size:Nat} {w R:List Nat} {h:Go.Ev.H} {ca cb:C}
theorem Z1u (sa:SlY b h ca R) (sb:SlY b h cb w) (wl:w.length=N) (Rl:R.length=min len (size - at_)) (eq:∀ j,j<R.length→atN R j=Zj9 off N w at_ j) (o9:off≤9216) (N1:N≤1001) (a9:at_≤9216) (l4:len≤4096) (s9:size≤9216):∀ (k i:Nat) (ts:Zu),i+k=len→at_+i≤size∨i=0→Zk ts 1=.w (.c (.int .i64 (size:Int)))→Zk ts 2=.w (.c (.int .i64 (off:Int)))→Zk ts 3=.w (.c (.int .i64 (N:Int)))→Zk ts 5=.w (.c (.int .i64 (at_:Int)))→Zk ts 6=.w (.c (.int .i64 (len:Int)))→Zk ts 21=.w (.c ca)→Zk ts 23=.w (.c cb)→Zk ts 24=.w (.c (.int .i64 (i:Int))) →
  Goes K Tryz.prog 171 none (q4 [1,1,1,1,1,1,1,1,1,1,1,1,1,1,1,0,1,2]) [] ts h fun x ds' ts' h'=>ds'=[]∧h'=h∧((x=.ret∧Zk ts' 14=.w (.c (.bool true)))∨(x=.exit 0∧R.length=len∧Zk ts' 6=.w (.c (.int .i64 (len:Int)))∧Zk ts' 21=.w (.c ca))):=by
 have lfa:=(Zxf sa).1
 have lna:=(Zxf sa).2
 intro k
 induction k with
 | zero =>
  intro i ts hi ai t1 t2 t3 t5 t6 t21 t23 t24
  have dl:decide ((i:Int)<(len:Int))=false:=decide_eq_false (by omega)
  iterate 6 (first|apply Goes.seq|apply Goes.exit|apply Goes.loop|((first|apply Goes.Zm|apply Goes.ops2 fits Hh Zc); · simp (maxSteps:=9^6) +decide (disch:=first|omega|(simp only[lens]<;>omega)|decide) only [go_sem,Zb,Za,simprocAttr,t6,t24,dl]<;>rfl))
  refine⟨rfl,rfl,.inr ⟨rfl,by omega,?_,?_⟩⟩
  ·simp (maxSteps:=9^6) +decide (disch:=first|omega|(simp only[lens]<;>omega)|decide) only [go_sem,Zb,Za,simprocAttr,t6]
  ·simp (maxSteps:=9^6) +decide (disch:=first|omega|(simp only[lens]<;>omega)|decide) only [go_sem,Zb,Za,simprocAttr,t21]
 | succ k ih =>
  intro i ts hi ai t1 t2 t3 t5 t6 t21 t23 t24
  have dl:decide ((i:Int)<(len:Int))=true:=decide_eq_true (by omega)
  have e1:(at_:Int)+(i:Int)=((at_+i:Nat):Int):=rfl
  by_cases g:size≤at_+i
  ·have d2:decide (((at_+i:Nat):Int) ≥ (size:Int))=true:=decide_eq_true (by omega)
   have e2:(((R.length:Nat):Int) == (i:Int))=true:=Nn (by omega)
   iterate 15 (first|apply Goes.seq|apply Goes.skip|apply Goes.block|apply Goes.ret|apply Goes.loop|((first|apply Goes.Zm|apply Goes.ops2 fits Hh Zc); · simp (maxSteps:=9^6) +decide (disch:=first|omega|(simp only[lens]<;>omega)|decide) only [go_sem,Zb,Za,simprocAttr,t1,t5,t6,t21,t24,dl,e1,d2,lfa,lna,e2,Zh]<;>rfl))
   refine⟨rfl,rfl,.inl ⟨rfl,?_⟩⟩
   simp (maxSteps:=9^6) +decide (disch:=first|omega|(simp only[lens]<;>omega)|decide) only [go_sem,Zb,Za,simprocAttr]
  ·have d2:decide (((at_+i:Nat):Int) ≥ (size:Int))=false:=decide_eq_false (by omega)
   have iR:i<R.length:=by omega
   have eqi:=eq i iR
   have rY:=rdY iR
   obtain⟨pa,_,rfl,ha,_⟩:=sa.resolve_left fun q=>by rw[q.1] at iR; simp at iR
   have d6:decide ((i:Int) ≥ ((R.length:Nat):Int))=false:=decide_eq_false (by omega)
   by_cases a1:off≤at_+i
   ·have d3:decide (((at_+i:Nat):Int) ≥ (off:Int))=true:=decide_eq_true (by omega)
    have e4:(off:Int)+(N:Int)=((off+N:Nat):Int):=rfl
    by_cases a2:at_+i<off+N
    ·have d4:decide (((at_+i:Nat):Int)<((off+N:Nat):Int))=true:=decide_eq_true (by omega)
     obtain⟨j,hj⟩:∃ j,at_+i - off=j:=⟨_,rfl⟩
     have e5:((at_+i:Nat):Int) - (off:Int)=(j:Int):=by omega
     have jw:j<w.length:=by omega
     have rW:=rdY jw
     obtain⟨pb,_,rfl,hb,_⟩:=sb.resolve_left fun q=>by rw[q.1] at jw; simp at jw
     unfold Zj9 at eqi
     rw[if_pos ⟨a1,a2⟩,hj] at eqi
     rw[eqi] at rY
     have e6:(((atN w j:Nat):Int) != ((atN w j:Nat):Int))=false:=Zpz rfl
     obtain⟨B,hB⟩:∃ B,atN w j=B:=⟨_,rfl⟩
     rw[hB] at rY rW e6
     obtain⟨QA,hQA⟩:∃ Q,bsE R=Q:=⟨_,rfl⟩
     obtain⟨QB,hQB⟩:∃ Q,bsE w=Q:=⟨_,rfl⟩
     rw[hQA] at ha rY
     rw[hQB] at hb rW
     obtain⟨G,hG⟩:∃ G,R.length=G:=⟨_,rfl⟩
     obtain⟨GW,hGW⟩:∃ G,w.length=G:=⟨_,rfl⟩
     have t21':=t21
     have t23':=t23
     rw[hG] at iR d6 t21' lfa lna
     rw[hGW] at jw t23'
     iterate 10 (first|apply Goes.seq|apply Goes.skip|apply Goes.block|apply Goes.loop|((first|apply Goes.Zm|apply Goes.ops2 fits Hh Zc); · simp (maxSteps:=9^6) +decide (disch:=first|omega|(simp only[lens]<;>omega)|decide) only [go_sem,Za,simprocAttr,t1,t2,t3,t5,t6,t21',t23',t24,dl,e1,d2,d3,d4,e4,e5,d6,e6,lfa,lna,ha,hb,rY,rW,Zh]<;>rfl))
     refine Goes.ops2 fits Hh Zc (by
      iterate 5 (refine Zz (by simp (maxSteps:=9^6) +decide (disch:=first|omega|(simp only[lens]<;>omega)|decide) only [go_sem,Za,simprocAttr,t1,t2,t3,t5,t6,t21',t23',t24,dl,e1,d2,d3,d4,e4,e5,d6,e6,lfa,lna,ha,hb,rY,rW,Zh]<;>rfl) ?_)
      exact Z0) ?_
     iterate 6 (first|apply Goes.seq|apply Goes.skip|((first|apply Goes.Zm|apply Goes.ops2 fits Hh Zc); · simp (maxSteps:=9^6) +decide (disch:=first|omega|(simp only[lens]<;>omega)|decide) only [go_sem,Za,simprocAttr,t1,t2,t3,t5,t6,t21',t23',t24,dl,e1,d2,d3,d4,e4,e5,d6,e6,lfa,lna,ha,hb,rY,rW,Zh]<;>rfl))
     refine Goes.ops2 fits Hh Zc (by
      iterate 14 (refine Zz (by simp (maxSteps:=9^6) +decide (disch:=first|omega|(simp only[lens]<;>omega)|decide) only [go_sem,Za,simprocAttr,t1,t2,t3,t5,t6,t21',t23',t24,dl,e1,d2,d3,d4,e4,e5,d6,e6,lfa,lna,ha,hb,rY,rW,Zh]<;>rfl) ?_)
      exact Z0) ?_
     (apply Goes.Zm; · simp (maxSteps:=9^6) +decide (disch:=first|omega|(simp only[lens]<;>omega)|decide) only [go_sem,Za,simprocAttr,t1,t2,t3,t5,t6,t21',t23',t24,dl,e1,d2,d3,d4,e4,e5,d6,e6,lfa,lna,ha,hb,rY,rW,Zh]<;>rfl)
     refine Goes.ops2 fits Hh Zc (by
      iterate 9 (refine Zz (by simp (maxSteps:=9^6) +decide (disch:=first|omega|(simp only[lens]<;>omega)|decide) only [go_sem,Za,simprocAttr,t1,t2,t3,t5,t6,t21',t23',t24,dl,e1,d2,d3,d4,e4,e5,d6,e6,lfa,lna,ha,hb,rY,rW,Zh]<;>rfl) ?_)
      exact Z0) ?_
     apply Goes.seq
     refine Goes.ops2 fits Hh Zc (by
      iterate 12 (refine Zz (by simp (maxSteps:=9^6) +decide (disch:=first|omega|(simp only[lens]<;>omega)|decide) only [go_sem,Za,simprocAttr,t1,t2,t3,t5,t6,t21',t23',t24,dl,e1,d2,d3,d4,e4,e5,d6,e6,lfa,lna,ha,hb,rY,rW,Zh]<;>rfl) ?_)
      exact Z0) ?_
     iterate 3 (first|apply Goes.skip|((first|apply Goes.Zm|apply Goes.ops2 fits Hh Zc); · simp (maxSteps:=9^6) +decide (disch:=first|omega|(simp only[lens]<;>omega)|decide) only [go_sem,Za,simprocAttr,t1,t2,t3,t5,t6,t21',t23',t24,dl,e1,d2,d3,d4,e4,e5,d6,e6,lfa,lna,ha,hb,rY,rW,Zh]<;>rfl))
     show Goes K Tryz.prog 171 none (q4 [1,1,1,1,1,1,1,1,1,1,1,1,1,1,1,0,1,2]) _ _ _ _
     refine ih (i+1) _ (by omega) (.inl (by omega)) ?_ ?_ ?_ ?_ ?_ ?_ ?_ ?_
     ·simp (maxSteps:=9^6) +decide (disch:=first|omega|(simp only[lens]<;>omega)|decide) only [go_sem,Zb,Za,simprocAttr,t1]
     ·simp (maxSteps:=9^6) +decide (disch:=first|omega|(simp only[lens]<;>omega)|decide) only [go_sem,Zb,Za,simprocAttr,t2]
     ·simp (maxSteps:=9^6) +decide (disch:=first|omega|(simp only[lens]<;>omega)|decide) only [go_sem,Zb,Za,simprocAttr,t3]
     ·simp (maxSteps:=9^6) +decide (disch:=first|omega|(simp only[lens]<;>omega)|decide) only [go_sem,Zb,Za,simprocAttr,t5]
     ·simp (maxSteps:=9^6) +decide (disch:=first|omega|(simp only[lens]<;>omega)|decide) only [go_sem,Zb,Za,simprocAttr,t6]
     ·simp (maxSteps:=9^6) +decide (disch:=first|omega|(simp only[lens]<;>omega)|decide) only [go_sem,Zb,Za,simprocAttr,t21]
     ·simp (maxSteps:=9^6) +decide (disch:=first|omega|(simp only[lens]<;>omega)|decide) only [go_sem,Zb,Za,simprocAttr,t23]
     ·simp (maxSteps:=9^6) +decide (disch:=first|omega|(simp only[lens]<;>omega)|decide) only [go_sem,Zb,Za,simprocAttr]<;>rfl
    ·have d4:decide (((at_+i:Nat):Int)<((off+N:Nat):Int))=false:=decide_eq_false (by omega)
     unfold Zj9 at eqi
     rw[if_neg (by omega)] at eqi
     rw[eqi] at rY
     have e6:(((0:Nat):Int) != 0)=false:=rfl
     obtain⟨QA,hQA⟩:∃ Q,bsE R=Q:=⟨_,rfl⟩
     rw[hQA] at ha rY
     obtain⟨G,hG⟩:∃ G,R.length=G:=⟨_,rfl⟩
     have t21':=t21
     rw[hG] at iR d6 t21' lfa lna
     iterate 10 (first|apply Goes.seq|apply Goes.skip|apply Goes.block|apply Goes.loop|((first|apply Goes.Zm|apply Goes.ops2 fits Hh Zc); · simp (maxSteps:=9^6) +decide (disch:=first|omega|(simp only[lens]<;>omega)|decide) only [go_sem,Za,simprocAttr,t1,t2,t3,t5,t6,t21',t23,t24,dl,e1,d2,d3,d4,e4,d6,e6,lfa,lna,ha,rY,Zh]<;>rfl))
     refine Goes.ops2 fits Hh Zc (by
      iterate 5 (refine Zz (by simp (maxSteps:=9^6) +decide (disch:=first|omega|(simp only[lens]<;>omega)|decide) only [go_sem,Za,simprocAttr,t1,t2,t3,t5,t6,t21',t23,t24,dl,e1,d2,d3,d4,e4,d6,e6,lfa,lna,ha,rY,Zh]<;>rfl) ?_)
      exact Z0) ?_
     iterate 6 (first|apply Goes.seq|apply Goes.skip|((first|apply Goes.Zm|apply Goes.ops2 fits Hh Zc); · simp (maxSteps:=9^6) +decide (disch:=first|omega|(simp only[lens]<;>omega)|decide) only [go_sem,Za,simprocAttr,t1,t2,t3,t5,t6,t21',t23,t24,dl,e1,d2,d3,d4,e4,d6,e6,lfa,lna,ha,rY,Zh]<;>rfl))
     refine Goes.ops2 fits Hh Zc (by
      iterate 14 (refine Zz (by simp (maxSteps:=9^6) +decide (disch:=first|omega|(simp only[lens]<;>omega)|decide) only [go_sem,Za,simprocAttr,t1,t2,t3,t5,t6,t21',t23,t24,dl,e1,d2,d3,d4,e4,d6,e6,lfa,lna,ha,rY,Zh]<;>rfl) ?_)
      exact Z0) ?_
     iterate 3 (first|apply Goes.seq|apply Goes.skip|(apply Goes.Zm; · simp (maxSteps:=9^6) +decide (disch:=first|omega|(simp only[lens]<;>omega)|decide) only [go_sem,Za,simprocAttr,t1,t2,t3,t5,t6,t21',t23,t24,dl,e1,d2,d3,d4,e4,d6,e6,lfa,lna,ha,rY,Zh]<;>rfl))
     refine Goes.ops2 fits Hh Zc (by
      iterate 12 (refine Zz (by simp (maxSteps:=9^6) +decide (disch:=first|omega|(simp only[lens]<;>omega)|decide) only [go_sem,Za,simprocAttr,t1,t2,t3,t5,t6,t21',t23,t24,dl,e1,d2,d3,d4,e4,d6,e6,lfa,lna,ha,rY,Zh]<;>rfl) ?_)
      exact Z0) ?_
     iterate 3 (first|apply Goes.skip|((first|apply Goes.Zm|apply Goes.ops2 fits Hh Zc); · simp (maxSteps:=9^6) +decide (disch:=first|omega|(simp only[lens]<;>omega)|decide) only [go_sem,Za,simprocAttr,t1,t2,t3,t5,t6,t21',t23,t24,dl,e1,d2,d3,d4,e4,d6,e6,lfa,lna,ha,rY,Zh]<;>rfl))
     show Goes K Tryz.prog 171 none (q4 [1,1,1,1,1,1,1,1,1,1,1,1,1,1,1,0,1,2]) _ _ _ _
     refine ih (i+1) _ (by omega) (.inl (by omega)) ?_ ?_ ?_ ?_ ?_ ?_ ?_ ?_
     ·simp (maxSteps:=9^6) +decide (disch:=first|omega|(simp only[lens]<;>omega)|decide) only [go_sem,Zb,Za,simprocAttr,t1]
     ·simp (maxSteps:=9^6) +decide (disch:=first|omega|(simp only[lens]<;>omega)|decide) only [go_sem,Zb,Za,simprocAttr,t2]
     ·simp (maxSteps:=9^6) +decide (disch:=first|omega|(simp only[lens]<;>omega)|decide) only [go_sem,Zb,Za,simprocAttr,t3]
     ·simp (maxSteps:=9^6) +decide (disch:=first|omega|(simp only[lens]<;>omega)|decide) only [go_sem,Zb,Za,simprocAttr,t5]
     ·simp (maxSteps:=9^6) +decide (disch:=first|omega|(simp only[lens]<;>omega)|decide) only [go_sem,Zb,Za,simprocAttr,t6]
     ·simp (maxSteps:=9^6) +decide (disch:=first|omega|(simp only[lens]<;>omega)|decide) only [go_sem,Zb,Za,simprocAttr,t21]
     ·simp (maxSteps:=9^6) +decide (disch:=first|omega|(simp only[lens]<;>omega)|decide) only [go_sem,Zb,Za,simprocAttr,t23]
     ·simp (maxSteps:=9^6) +decide (disch:=first|omega|(simp only[lens]<;>omega)|decide) only [go_sem,Zb,Za,simprocAttr]<;>rfl
   ·have d3:decide (((at_+i:Nat):Int) ≥ (off:Int))=false:=decide_eq_false (by omega)
    unfold Zj9 at eqi
    rw[if_neg (by omega)] at eqi
    rw[eqi] at rY
    have e6:(((0:Nat):Int) != 0)=false:=rfl
    obtain⟨QA,hQA⟩:∃ Q,bsE R=Q:=⟨_,rfl⟩
    rw[hQA] at ha rY
    obtain⟨G,hG⟩:∃ G,R.length=G:=⟨_,rfl⟩
    have t21':=t21
    rw[hG] at iR d6 t21' lfa lna
    iterate 10 (first|apply Goes.seq|apply Goes.skip|apply Goes.block|apply Goes.loop|((first|apply Goes.Zm|apply Goes.ops2 fits Hh Zc); · simp (maxSteps:=9^6) +decide (disch:=first|omega|(simp only[lens]<;>omega)|decide) only [go_sem,Za,simprocAttr,t1,t2,t3,t5,t6,t21',t23,t24,dl,e1,d2,d3,d6,e6,lfa,lna,ha,rY,Zh]<;>rfl))
    refine Goes.ops2 fits Hh Zc (by
     iterate 5 (refine Zz (by simp (maxSteps:=9^6) +decide (disch:=first|omega|(simp only[lens]<;>omega)|decide) only [go_sem,Za,simprocAttr,t1,t2,t3,t5,t6,t21',t23,t24,dl,e1,d2,d3,d6,e6,lfa,lna,ha,rY,Zh]<;>rfl) ?_)
     exact Z0) ?_
    iterate 6 (first|apply Goes.seq|apply Goes.skip|((first|apply Goes.Zm|apply Goes.ops2 fits Hh Zc); · simp (maxSteps:=9^6) +decide (disch:=first|omega|(simp only[lens]<;>omega)|decide) only [go_sem,Za,simprocAttr,t1,t2,t3,t5,t6,t21',t23,t24,dl,e1,d2,d3,d6,e6,lfa,lna,ha,rY,Zh]<;>rfl))
    refine Goes.ops2 fits Hh Zc (by
     iterate 14 (refine Zz (by simp (maxSteps:=9^6) +decide (disch:=first|omega|(simp only[lens]<;>omega)|decide) only [go_sem,Za,simprocAttr,t1,t2,t3,t5,t6,t21',t23,t24,dl,e1,d2,d3,d6,e6,lfa,lna,ha,rY,Zh]<;>rfl) ?_)
     exact Z0) ?_
    iterate 3 (first|apply Goes.seq|apply Goes.skip|(apply Goes.Zm; · simp (maxSteps:=9^6) +decide (disch:=first|omega|(simp only[lens]<;>omega)|decide) only [go_sem,Za,simprocAttr,t1,t2,t3,t5,t6,t21',t23,t24,dl,e1,d2,d3,d6,e6,lfa,lna,ha,rY,Zh]<;>rfl))
    refine Goes.ops2 fits Hh Zc (by
     iterate 12 (refine Zz (by simp (maxSteps:=9^6) +decide (disch:=first|omega|(simp only[lens]<;>omega)|decide) only [go_sem,Za,simprocAttr,t1,t2,t3,t5,t6,t21',t23,t24,dl,e1,d2,d3,d6,e6,lfa,lna,ha,rY,Zh]<;>rfl) ?_)
     exact Z0) ?_
    iterate 3 (first|apply Goes.skip|((first|apply Goes.Zm|apply Goes.ops2 fits Hh Zc); · simp (maxSteps:=9^6) +decide (disch:=first|omega|(simp only[lens]<;>omega)|decide) only [go_sem,Za,simprocAttr,t1,t2,t3,t5,t6,t21',t23,t24,dl,e1,d2,d3,d6,e6,lfa,lna,ha,rY,Zh]<;>rfl))
    show Goes K Tryz.prog 171 none (q4 [1,1,1,1,1,1,1,1,1,1,1,1,1,1,1,0,1,2]) _ _ _ _
    refine ih (i+1) _ (by omega) (.inl (by omega)) ?_ ?_ ?_ ?_ ?_ ?_ ?_ ?_
    ·simp (maxSteps:=9^6) +decide (disch:=first|omega|(simp only[lens]<;>omega)|decide) only [go_sem,Zb,Za,simprocAttr,t1]
    ·simp (maxSteps:=9^6) +decide (disch:=first|omega|(simp only[lens]<;>omega)|decide) only [go_sem,Zb,Za,simprocAttr,t2]
    ·simp (maxSteps:=9^6) +decide (disch:=first|omega|(simp only[lens]<;>omega)|decide) only [go_sem,Zb,Za,simprocAttr,t3]
    ·simp (maxSteps:=9^6) +decide (disch:=first|omega|(simp only[lens]<;>omega)|decide) only [go_sem,Zb,Za,simprocAttr,t5]
    ·simp (maxSteps:=9^6) +decide (disch:=first|omega|(simp only[lens]<;>omega)|decide) only [go_sem,Zb,Za,simprocAttr,t6]
    ·simp (maxSteps:=9^6) +decide (disch:=first|omega|(simp only[lens]<;>omega)|decide) only [go_sem,Zb,Za,simprocAttr,t21]
    ·simp (maxSteps:=9^6) +decide (disch:=first|omega|(simp only[lens]<;>omega)|decide) only [go_sem,Zb,Za,simprocAttr,t23]
    ·simp (maxSteps:=9^6) +decide (disch:=first|omega|(simp only[lens]<;>omega)|decide) only [go_sem,Zb,Za,simprocAttr]<;>rfl
def Zfq (z:Nat):List C:=[.int .u8 0,.int .i64 0,.int .u32 0,.int .i64 (z:Int),.int .u32 0,.int .u32 0,.int .u32 0,.int .u32 0,.int .u32 0,.int .u32 0,.int .u32 0,.int .u32 0,.int .u32 0,.int .u32 0,.int .u32 0,.int .u32 0]
omit Hh in
theorem Zvq (z:Nat):InoP (Zfq z) (fun _=>0):=Zmj.size (.int .i64 (z:Int))
theorem Zvu {n q a b c e:Nat} {cr:Cr} {md:Int} {S T:List Nat} {V:Nat→List Nat} {h:Go.Ev.H} (f:Y4 a b c e=true) (m1:md≠0) (M:HE n q a b c e cr md S T V h) {sz:Nat} (s9:sz≤9216):Ze K Tryz.prog 9 [.c (.ptr (n+13) 0),.g [.int .u8 0,.int .i64 0,.int .u32 0,.int .i64 0,.int .u32 0,.int .u32 0,.int .u32 0,.int .u32 0,.int .u32 0,.int .u32 0,.int .u32 0,.int .u32 0,.int .u32 0,.int .u32 0,.int .u32 0,.int .u32 0],.c (.int .i64 (sz:Int))] h (.tup [.g (Zfq sz),.c (.int .i64 0)]) h:=by
 obtain⟨st,⟨kn,hst⟩,⟨dk,gl⟩,ht⟩:=M.cells
 unfold gdL gdD at gl
 have dm:(md != 0)=true:=Xx m1
 have d1:decide ((0:Int)≤(sz:Int))=true:=decide_eq_true (by omega)
 have d2:decide ((sz:Int)≤16777216)=true:=decide_eq_true (by omega)
 have s0:O8 ino0=some 0:=rfl
 have f0:ino0.all C.flat=true:=rfl
 have e0:ino0.set 3 (.int .i64 (sz:Int))=Zfq sz:=rfl
 refine Zkn Hh ?_
 show Tv [.c (.ptr (n+13) 0),.g ino0,.c (.int .i64 (sz:Int))] h=_
 rw[←e0]
 obtain⟨I,hI⟩:∃ I,ino0=I:=⟨_,rfl⟩
 rw[hI] at s0 f0 ⊢
 unfold Tv
 simp (maxSteps:=9^6) +decide (disch:=first|omega|(simp only[lens]<;>omega)|decide) only [go_sem,Zb,Za,simprocAttr,f,hst,stG,gl,ht,txC,dm,d1,d2,s0,f0]<;>rfl
theorem Zye {n q:Nat} {md:Int} {sz:Nat} {c:C} {h:Go.Ev.H} (md1:1≤md∧md≤3) (M:HE n q 2 60 8 64 ⟨50,50⟩ md S6 [] V4 h) (hw:w.length=N) (N1:N≤1000) (s8:sz≤8000) (os:off≤sz) (r:Row1 h.next h c w) (rb:∀ p o l z,c=.slice p o l z→q+9≤p) :
  ∃ h' V P x m T i0 i1,Ze K Tryz.prog 7 [.c (.ptr (n+13) 0),.g (Zfq sz),.c (.int .i64 (off:Int)),.c c] h (.tup [.g x,.c (.int .i64 0)]) h'∧HE n q 2 60 8 64 ⟨50,50⟩ md S6 T V h'∧FilS blk6 V P (wrF (fun _=>0) off w 0 N) 0 m i0 i1∧m≤48∧InoP x P∧O8 x=some (((if N=0 then sz else max sz (off+N):Nat)):Int)∧h.next≤h'.next∧∀ p,p<h.next→q+9≤p→h'.get p=h.get p:=by
 have m0:md≠0:=by omega
 obtain⟨nq,nx,n0⟩:=M.nx
 have sx:O8 (Zfq sz)=some (sz:Int):=rfl
 by_cases z:N=0
 ·subst z
  have we:w=[]:=List.length_eq_zero_iff.1 hw
  obtain⟨_,rfl⟩:=r.resolve_right fun ⟨p,w0,_⟩=>by rw[we] at w0; simp at w0
  obtain⟨h',cc,M',nn,kk⟩:=Zlq Hh fine6 m0 M (x0:=Zfq sz) (size:=sz) (off:=off) sx (by omega) (by omega) (pc:=.snil) (.inl rfl)
  exact⟨h',V4,fun _=>0,Zfq sz,0,[],0,0,cc,M',by rw[Tg]; exact FilS.new (fun _ _=>rfl) (by omega),by omega,Zvq sz,sx,nn,fun p hp _=>kk p hp⟩
 ·obtain⟨p,w0,rfl,hp,pb'⟩:=r.resolve_left fun q=>by rw[q.1] at hw; simp at hw; omega
  have p9:=rb _ _ _ _ rfl
  rw[hw]
  obtain⟨h',V',P',x',m',T',cc,R⟩:=Zj1 Hh (off:=off) (len:=N) (ba:=0) (mm:=p) (w:=w) (size:=sz) (F:=fun _=>0) (i0:=off / 256) (i1:=off / 256) (lo:=0) (m0:=0) fine6 m0 (alc6 Hh) M Zkw (Nat.le_refl _)
   (fun k _ _ w1=>by simp at w1) (fun z _ w1=>by simp at w1) (fun k hk=>by show 70+k<4096; omega) (by omega) ⟨Nat.le_refl _,.inl rfl⟩ (fun w1=>by omega) (fun _=>rfl) (Zvq sz) (FilS.new (fun _ _=>rfl) (by omega)) (fun w1=>absurd rfl w1) sx (by omega) (by omega) (by omega) (by omega) (fun w1=>by omega) hp ⟨p9,by omega⟩ (by omega)
  refine⟨h',V',P',x',m',T',_,_,cc,R.M,R.fs,by have:=R.mb; omega,R.X,?_,R.kp.1,fun p hp hq=>R.kp.2 p hp ⟨⟨by omega,by omega,by omega,by omega,by omega⟩,by omega⟩⟩
  rw[if_neg z]
  exact R.sz
theorem Z00 {n q m i0 i1 by_ pw p19:Nat} {md:Int} {T:List Nat} {V:Nat→List Nat} {P:Nat→Nat} {x:List C} {s1 s2 s3:C} {z5 z6:Int} {ts:Zu} (md1:1≤md∧md≤3) (M:HE n q 2 60 8 64 ⟨50,50⟩ md S6 T V h) (fs:FilS blk6 V P (wrF (fun _=>0) off (byN by_ N) 0 N) 0 m i0 i1) (m48:m≤48) (X:InoP x P) (sx:O8 x=some (size:Int)) (s9:size≤9000) (o8:off≤8000) (N1:N≤1000) (by1:by_<256) (gw:h.get pw=some (.row 4 [[.ptr (n+13) 0,s1,s2,s3]] false)) (g19:h.get p19=some (.row 16 [x] false)) (bw:q+9≤pw∧pw<h.next) (b19:q+9≤p19∧p19<h.next)
  (t1:Zk ts 1=.w (.c (.int .i64 (size:Int)))) (t2:Zk ts 2=.w (.c (.int .i64 (off:Int)))) (t3:Zk ts 3=.w (.c (.int .i64 (N:Int)))) (t4:Zk ts 4=.w (.c (.int .u8 (by_:Int)))) (t5:Zk ts 5=.w (.c (.int .i64 z5))) (t6:Zk ts 6=.w (.c (.int .i64 z6))) (t15:Zk ts 15=.w (.c (.ptr pw 0))) (t19:Zk ts 19=.w (.c (.ptr p19 0))) :
  Goes K Tryz.prog 171 none (q4 [1,1,1,1,1,1,1,1,1,1]) [] ts h fun x ds ts h2=>∃ v h',leave K Tryz.f4 (some (Out.at x ds ts h2))=some (Out.val v h')∧v=.w (.c (.bool true)):=by
 have w5:=Bw z5
 have w6:=Bw z6
 obtain⟨Z5,h5⟩:∃ Z,(z5 % 18446744073709551616).toNat=Z:=⟨_,rfl⟩
 obtain⟨Z6,h6⟩:∃ Z,(z6 % 18446744073709551616).toNat=Z:=⟨_,rfl⟩
 rw[h5] at w5
 rw[h6] at w6
 have r5:Bo .u64 (Z5:Int) 9100=some (.int .u64 ((Z5 % 9100:Nat):Int)):=U3 (b:=9100) (by omega)
 have r6:Bo .u64 (Z6:Int) 4097=some (.int .u64 ((Z6 % 4097:Nat):Int)):=U3 (b:=4097) (by omega)
 have a5:=Nat.mod_lt Z5 (show 0<9100 by decide)
 have l6:=Nat.mod_lt Z6 (show 0<4097 by decide)
 obtain⟨at_,hat⟩:∃ k,Z5 % 9100=k:=⟨_,rfl⟩
 obtain⟨len,hlen⟩:∃ k,Z6 % 4097=k:=⟨_,rfl⟩
 rw[hat] at r5 a5
 rw[hlen] at r6 l6
 obtain⟨xl,rx⟩:=Jq sx
 have zz:((size:Int) != (size:Int))=false:=Zpz rfl
 obtain⟨hR,ca,R,c15,MR,kR,sR,lR,eR⟩:=Zio Hh fine6 (by omega) (alc6 Hh) M fs m48 X sx (by omega) (num:=len) (off:=at_) (by omega) (by omega)
 obtain⟨cb,hB,c18,rB,nB,kB,cB⟩:=Zt1 Hh hR by1 (N:=N) N1
 have gw':=(kR.2 pw bw.2 (by have:=M.nx; omega)).trans gw
 have g19':=(kR.2 p19 b19.2 (by have:=M.nx; omega)).trans g19
 have nR:=kR.1
 have sa:SlY 0 hB ca R:=by
  rcases sR with w2|⟨p,a1,a2,a3,a4,a5⟩
  ·exact .inl w2
  ·exact .inr ⟨p,a1,a2,(kB p a5).trans a3,by omega,by omega⟩
 have sb:SlY 0 hB cb (byN by_ N):=by
  rcases rB with w2|⟨p,a1,a2,a3,a4⟩
  ·exact .inl w2
  ·exact .inr ⟨p,a1,a2,a3,by omega,a4⟩
 have lp:=Z1u Hh (h:=hB) (size:=size) (off:=off) (at_:=at_) (len:=len) sa sb (Zc6 by_ N) lR (fun j hj=>by
  rw[eR j hj]
  unfold wrF Zj9
  split
  ·rw[Nat.zero_add]
  ·rfl) (by omega) (by omega) (by omega) (by omega) (by omega) len 0
 have lfa:=(Zxf sa).1
 have lna:=(Zxf sa).2
 apply Goes.seq
 refine Goes.ops2 fits Hh Zc (by
  iterate 5 (refine Zz (by simp (maxSteps:=9^6) +decide (disch:=first|omega|(simp only[lens]<;>omega)|decide) only [go_sem,Za,simprocAttr,p40,w5,w6,r5,r6,xl,rx,zz,gw,gw',g19,g19',t1,t2,t3,t4,t5,t6,t15,t19,Zh]<;>rfl) ?_)
  exact Z0) ?_
 apply Goes.seq
 refine Goes.ops2 fits Hh Zc (by
  iterate 5 (refine Zz (by simp (maxSteps:=9^6) +decide (disch:=first|omega|(simp only[lens]<;>omega)|decide) only [go_sem,Za,simprocAttr,p40,w5,w6,r5,r6,xl,rx,zz,gw,gw',g19,g19',t1,t2,t3,t4,t5,t6,t15,t19,Zh]<;>rfl) ?_)
  exact Z0) ?_
 apply Goes.seq
 refine Goes.ops2 fits Hh (Zt Zc c15) (by
  iterate 11 (refine Zz (by simp (maxSteps:=9^6) +decide (disch:=first|omega|(simp only[lens]<;>omega)|decide) only [go_sem,Za,simprocAttr,Zy,p40,w5,w6,r5,r6,xl,rx,zz,gw,gw',g19,g19',t1,t2,t3,t4,t5,t6,t15,t19,Zh]<;>rfl) ?_)
  exact Z0) ?_
 iterate 2 (apply Goes.seq)
 refine Goes.ops2 fits Hh Zc (by
  iterate 8 (refine Zz (by simp (maxSteps:=9^6) +decide (disch:=first|omega|(simp only[lens]<;>omega)|decide) only [go_sem,Za,simprocAttr,p40,w5,w6,r5,r6,xl,rx,zz,gw,gw',g19,g19',t1,t2,t3,t4,t5,t6,t15,t19,Zh]<;>rfl) ?_)
  exact Z0) ?_
 iterate 3 (first|apply Goes.seq|apply Goes.skip|(apply Goes.Zm; · simp (maxSteps:=9^6) +decide (disch:=first|omega|(simp only[lens]<;>omega)|decide) only [go_sem,Za,simprocAttr,p40,w5,w6,r5,r6,xl,rx,zz,gw,gw',g19,g19',t1,t2,t3,t4,t5,t6,t15,t19,Zh]<;>rfl))
 iterate 5 (first|apply Goes.seq|apply Goes.block|(apply Goes.ops2 fits Hh (Zt Zc c18); · simp (maxSteps:=9^6) +decide (disch:=first|omega|(simp only[lens]<;>omega)|decide) only [go_sem,Za,simprocAttr,Zy,p40,w5,w6,r5,r6,xl,rx,zz,gw,gw',g19,g19',t1,t2,t3,t4,t5,t6,t15,t19,Zh]<;>rfl))
 refine (lp _ (by omega) (.inr rfl) ?_ ?_ ?_ ?_ ?_ ?_ ?_ ?_).mono ?_
 ·simp (maxSteps:=9^6) +decide (disch:=first|omega|(simp only[lens]<;>omega)|decide) only [go_sem,Zb,Za,simprocAttr,t1]<;>rfl
 ·simp (maxSteps:=9^6) +decide (disch:=first|omega|(simp only[lens]<;>omega)|decide) only [go_sem,Zb,Za,simprocAttr,t2]<;>rfl
 ·simp (maxSteps:=9^6) +decide (disch:=first|omega|(simp only[lens]<;>omega)|decide) only [go_sem,Zb,Za,simprocAttr,t3]<;>rfl
 ·simp (maxSteps:=9^6) +decide (disch:=first|omega|(simp only[lens]<;>omega)|decide) only [go_sem,Zb,Za,simprocAttr]<;>rfl
 ·simp (maxSteps:=9^6) +decide (disch:=first|omega|(simp only[lens]<;>omega)|decide) only [go_sem,Zb,Za,simprocAttr]<;>rfl
 ·simp (maxSteps:=9^6) +decide (disch:=first|omega|(simp only[lens]<;>omega)|decide) only [go_sem,Zb,Za,simprocAttr]<;>rfl
 ·simp (maxSteps:=9^6) +decide (disch:=first|omega|(simp only[lens]<;>omega)|decide) only [go_sem,Zb,Za,simprocAttr]<;>rfl
 ·simp (maxSteps:=9^6) +decide (disch:=first|omega|(simp only[lens]<;>omega)|decide) only [go_sem,Zb,Za,simprocAttr]<;>rfl
 rintro x1 ds1 ts1 h1 ⟨rfl,rfl,hx⟩
 rcases hx with ⟨rfl,t14⟩|⟨rfl,e6,u6,u21⟩
 ·exact⟨_,_,(by simp (maxSteps:=9^6) +decide (disch:=first|omega|(simp only[lens]<;>omega)|decide) only [go_sem,Zb,Za,simprocAttr,t14]<;>rfl),rfl⟩
 ·have ee:(((R.length:Nat):Int) == (len:Int))=true:=Nn (by omega)
  iterate 3 (first|apply Goes.seq|apply Goes.ret|(apply Goes.ops2 fits Hh Zc; · simp (maxSteps:=9^6) +decide (disch:=first|omega|(simp only[lens]<;>omega)|decide) only [go_sem,Zb,Za,simprocAttr,u6,u21,lfa,lna,ee,Zh]<;>rfl))
  exact⟨_,_,(by simp (maxSteps:=9^6) +decide (disch:=first|omega|(simp only[lens]<;>omega)|decide) only [go_sem,Zb,Za,simprocAttr]<;>rfl),rfl⟩
theorem Ztz {h:Go.Ev.H} (hst:h.get 0=some Oh) (l0:0<h.next) {mo by_:Nat} (mo1:mo<256) (by1:by_<256) (z1 z2 z3 z5 z6:Int) :
  ∃ h',Ze K Tryz.prog 4 [.c (.int .u8 (mo:Int)),.c (.int .i64 z1),.c (.int .i64 z2),.c (.int .i64 z3),.c (.int .u8 (by_:Int)),.c (.int .i64 z5),.c (.int .i64 z6)] h (.w (.c (.bool true))) h':=by
 obtain⟨v,h',cc,rfl⟩:∃ v h',Ze K Tryz.prog 4 [.c (.int .u8 (mo:Int)),.c (.int .i64 z1),.c (.int .i64 z2),.c (.int .i64 z3),.c (.int .u8 (by_:Int)),.c (.int .i64 z5),.c (.int .i64 z6)] h v h'∧v=.w (.c (.bool true)):=by
  have w1:=Bw z1
  have w2:=Bw z2
  have w3:=Bw z3
  obtain⟨Z1,h1⟩:∃ Z,(z1 % 18446744073709551616).toNat=Z:=⟨_,rfl⟩
  obtain⟨Z2,h2⟩:∃ Z,(z2 % 18446744073709551616).toNat=Z:=⟨_,rfl⟩
  obtain⟨Z3,h3⟩:∃ Z,(z3 % 18446744073709551616).toNat=Z:=⟨_,rfl⟩
  rw[h1] at w1
  rw[h2] at w2
  rw[h3] at w3
  have r1:Bo .u64 (Z1:Int) 8001=some (.int .u64 ((Z1 % 8001:Nat):Int)):=U3 (b:=8001) (by omega)
  have r3:Bo .u64 (Z3:Int) 1001=some (.int .u64 ((Z3 % 1001:Nat):Int)):=U3 (b:=1001) (by omega)
  have s8:=Nat.mod_lt Z1 (show 0<8001 by decide)
  have N1:=Nat.mod_lt Z3 (show 0<1001 by decide)
  obtain⟨sz,hsz⟩:∃ k,Z1 % 8001=k:=⟨_,rfl⟩
  obtain⟨N,hN⟩:∃ k,Z3 % 1001=k:=⟨_,rfl⟩
  rw[hsz] at r1 s8
  rw[hN] at r3 N1
  obtain⟨D,hD⟩:∃ D,sz+1=D:=⟨_,rfl⟩
  have D0:0<D:=by omega
  have D8:D≤8001:=by omega
  have eD:(sz:Int)+1=(D:Int):=by omega
  have r2:=U3 (k:=.u64) (a:=Z2) (b:=D) D0
  have o8:=Nat.mod_lt Z2 D0
  obtain⟨off,ho⟩:∃ k,Z2 % D=k:=⟨_,rfl⟩
  rw[ho] at r2 o8
  obtain⟨hH,n,q,r,d,y,c4,MH,nH,kH⟩:=Zlt Hh mo1 hst l0
  have k3:=Nat.mod_lt mo (show 0<3 by decide)
  obtain⟨md,hmd⟩:∃ md:Int,1+((mo % 3:Nat):Int)=md:=⟨_,rfl⟩
  rw[hmd] at MH
  have md1:1≤md∧md≤3:=by omega
  have m0:md≠0:=by omega
  obtain⟨nq,nx,n0⟩:=MH.nx
  have il:(Zfq sz).length=16:=rfl
  have ir:read1 16 [Zfq sz] 3=some (.int .i64 (sz:Int)):=rfl
  have zz:((sz:Int) != (sz:Int))=false:=Zpz rfl
  have e1:(off:Int)+(N:Int)=((off+N:Nat):Int):=rfl
  have hR:=fun {h:Go.Ev.H} (M:HE n q 2 60 8 64 ⟨50,50⟩ md S6 [] V4 h)=>Zvu Hh fine6 m0 M (sz:=sz) (by omega)
  obtain⟨IS,hIS⟩:∃ IS,Zfq sz=IS:=⟨_,rfl⟩
  have hW:=fun {h:Go.Ev.H} {c:C} (M:HE n q 2 60 8 64 ⟨50,50⟩ md S6 [] V4 h)=>Zye Hh (c:=c) (sz:=sz) (off:=off) md1 M (Zc6 by_ N) (by omega) (by omega) (by omega)
  rw[hIS] at il ir
  simp only[hIS] at hR hW
  obtain⟨SZ,hSZ⟩:∃ SZ,(if N=0 then sz else max sz (off+N))=SZ:=⟨_,rfl⟩
  simp only[hSZ] at hW
  have S9:SZ≤9000:=by rw[←hSZ]; split<;>omega
  refine Ze.Yi fits Hh (by kernel_rfl) (by kernel_rfl) (by kernel_rfl) (show Tryz.f4.body=some _ from rfl) rfl ?_
  iterate 5 (first|apply Goes.seq|(apply Goes.ops2 fits Hh Zc; · simp (maxSteps:=9^6) +decide (disch:=first|omega|(simp only[lens]<;>omega)|decide) only [go_sem,Za,simprocAttr,p40,w1,w2,w3,r1,r2,r3,eD,il,ir,zz,e1,Zh]<;>rfl))
  refine Goes.ops2 fits Hh Zc (by
   iterate 8 (refine Zz (by simp (maxSteps:=9^6) +decide (disch:=first|omega|(simp only[lens]<;>omega)|decide) only [go_sem,Za,simprocAttr,p40,w1,w2,w3,r1,r2,r3,eD,il,ir,zz,e1,Zh]<;>rfl) ?_)
   exact Z0) ?_
  iterate 3 (first|apply Goes.seq|(apply Goes.ops2 fits Hh Zc; · simp (maxSteps:=9^6) +decide (disch:=first|omega|(simp only[lens]<;>omega)|decide) only [go_sem,Za,simprocAttr,p40,w1,w2,w3,r1,r2,r3,eD,il,ir,zz,e1,Zh]<;>rfl))
  refine Goes.ops2 fits Hh (Zt Zc c4) (by
   iterate 8 (refine Zz (by simp (maxSteps:=9^6) +decide (disch:=first|omega|(simp only[lens]<;>omega)|decide) only [go_sem,Za,simprocAttr,Zy,p40,w1,w2,w3,r1,r2,r3,eD,il,ir,zz,e1,Zh]<;>rfl) ?_)
   exact Z0) ?_
  iterate 6 (first|apply Goes.seq|apply Goes.skip|((first|apply Goes.Zm|apply Goes.ops2 fits Hh Zc); · simp (maxSteps:=9^6) +decide (disch:=first|omega|(simp only[lens]<;>omega)|decide) only [go_sem,Za,simprocAttr,p40,w1,w2,w3,r1,r2,r3,eD,il,ir,zz,e1,Zh]<;>rfl))
  refine Goes.abs fun hA eA=>?_
  have nA:hA.next=hH.next+1:=by rw[eA]; simp only[H.Zj,H.Zg]
  have kA:∀ m,m<hH.next→hA.get m=hH.get m:=fun m hm=>by rw[eA]; simp (disch:=first|omega|(simp only[lens]<;>omega)) only [go_sem]
  have pA:hA.get hH.next=some (.row 4 [[.ptr (n+13) 0,.ptr r 0,.ptr d 0,.ptr y 0]] false):=by rw[eA]; simp (maxSteps:=9^6) +decide (disch:=first|omega|(simp only[lens]<;>omega)|decide) only [go_sem,Za,simprocAttr]<;>rfl
  clear eA
  have MA:=MH.keep (h2:=hA) (by omega) fun m hm=>kA m (by omega)
  have c7:=hR MA
  refine Goes.ops2 fits Hh (Zt Zc c7) (by
   iterate 11 (refine Zz (by simp (maxSteps:=9^6) +decide (disch:=first|omega|(simp only[lens]<;>omega)|decide) only [go_sem,Za,simprocAttr,Zy,p40,w1,w2,w3,r1,r2,r3,eD,il,ir,zz,e1,pA,Zh]<;>rfl) ?_)
   exact Z0) ?_
  apply Goes.seq
  refine Goes.abs fun hB eB=>?_
  have nB:hB.next=hA.next+1:=by rw[eB]; simp only[H.Zj,H.Zg]
  have kB:∀ m,m<hA.next→hB.get m=hA.get m:=fun m hm=>by rw[eB]; simp (disch:=first|omega|(simp only[lens]<;>omega)) only [go_sem]
  have pB:=(kB hH.next (by omega)).trans pA
  have iB:hB.get hA.next=some (.row 16 [IS] false):=by rw[eB]; first|exact Z8 .. | (simp (maxSteps:=9^6) +decide (disch:=first|omega|(simp only[lens]<;>omega)|decide) only [go_sem,Za,simprocAttr,il]; done)|(simp (maxSteps:=9^6) +decide (disch:=first|omega|(simp only[lens]<;>omega)|decide) only [go_sem,Za,simprocAttr,il]<;>rfl)
  clear eB
  obtain⟨c,hC,c8,rC,nC,kC,cC⟩:=Zt1 Hh hB by1 (N:=N) (by omega)
  have MC:=MA.keep (h2:=hC) (by omega) fun m hm=>(kC m (by omega)).trans (kB m (by omega))
  obtain⟨hD',V,P,x,m,T,i0,i1,c8w,MD,fs,m48,X,sx,nD,kD⟩:=hW MC rC (fun p o l z e=>by have:=cC p o l z e; omega)
  have xl:=X.xl
  have pC:=(kC hH.next (by omega)).trans pB
  have iC:=(kC hA.next (by omega)).trans iB
  have pD:=(kD hH.next (by omega) (by omega)).trans pC
  have iD:=(kD hA.next (by omega) (by omega)).trans iC
  iterate 3 (first|apply Goes.seq|(apply Goes.drawn2 fits Hh (Zt (Zt Zc c8) c8w) (by kernel_rfl); · simp (maxSteps:=9^6) +decide (disch:=first|omega|(simp only[lens]<;>omega)|decide) only [go_sem,Za,simprocAttr,drG,Zy,p40,w1,w2,w3,r1,r2,r3,eD,il,ir,zz,e1,pA,pB,iB,pC,iC,pD,iD,xl,Zh]<;>rfl))
  refine Goes.ops2 fits Hh Zc (by
   iterate 12 (refine Zz (by simp (maxSteps:=9^6) +decide (disch:=first|omega|(simp only[lens]<;>omega)|decide) only [go_sem,Za,simprocAttr,p40,w1,w2,w3,r1,r2,r3,eD,il,ir,zz,e1,pA,pB,iB,pC,iC,pD,iD,xl,Zh]<;>rfl) ?_)
   exact Z0) ?_
  iterate 3 (first|apply Goes.seq|apply Goes.skip|(apply Goes.Zm; · simp (maxSteps:=9^6) +decide (disch:=first|omega|(simp only[lens]<;>omega)|decide) only [go_sem,Za,simprocAttr,p40,w1,w2,w3,r1,r2,r3,eD,il,ir,zz,e1,pA,pB,iB,pC,iC,pD,iD,xl,Zh]<;>rfl))
  refine Goes.abs fun hE eE=>?_
  have nE:hE.next=hD'.next+1:=by rw[eE]; simp only[H.Zj,H.Zg]
  have kE:∀ m,m<hD'.next→hE.get m=hD'.get m:=fun m hm=>by rw[eE]; simp (disch:=first|omega|(simp only[lens]<;>omega)) only [go_sem]
  have pE:=(kE hH.next (by omega)).trans pD
  have iE:hE.get hD'.next=some (.row 16 [x] false):=by rw[eE]; first|exact Z8 .. | (simp (maxSteps:=9^6) +decide (disch:=first|omega|(simp only[lens]<;>omega)|decide) only [go_sem,Za,simprocAttr,xl]; done)|(simp (maxSteps:=9^6) +decide (disch:=first|omega|(simp only[lens]<;>omega)|decide) only [go_sem,Za,simprocAttr,xl]<;>rfl)
  clear eE
  have ME:=MD.keep (h2:=hE) (by omega) fun m hm=>kE m (by have:=MD.nx; omega)
  refine Zwi fun ts hts=>?_
  have tl:=fun ts' t1 t2 t3 t4 t5 t6 t15 t19=>Z00 Hh (h:=hE) (size:=SZ) (off:=off) (N:=N) (ts:=ts') (z5:=z5) (z6:=z6) md1 ME fs m48 X sx S9 (by omega) (by omega) by1 pE iE ⟨by omega,by omega⟩ ⟨by have:=MD.nx; omega,by omega⟩ t1 t2 t3 t4 t5 t6 t15 t19
  have u1:Zk ts 1=.w (.c (.int .i64 (sz:Int))):=by rw[hts]; simp (maxSteps:=9^6) +decide (disch:=first|omega|(simp only[lens]<;>omega)|decide) only [go_sem,Zb,Za,simprocAttr]<;>rfl
  have u2:Zk ts 2=.w (.c (.int .i64 (off:Int))):=by rw[hts]; simp (maxSteps:=9^6) +decide (disch:=first|omega|(simp only[lens]<;>omega)|decide) only [go_sem,Zb,Za,simprocAttr]<;>rfl
  have u3:Zk ts 3=.w (.c (.int .i64 (N:Int))):=by rw[hts]; simp (maxSteps:=9^6) +decide (disch:=first|omega|(simp only[lens]<;>omega)|decide) only [go_sem,Zb,Za,simprocAttr]<;>rfl
  have u4:Zk ts 4=.w (.c (.int .u8 (by_:Int))):=by rw[hts]; simp (maxSteps:=9^6) +decide (disch:=first|omega|(simp only[lens]<;>omega)|decide) only [go_sem,Zb,Za,simprocAttr]<;>rfl
  have u5:Zk ts 5=.w (.c (.int .i64 z5)):=by rw[hts]; simp (maxSteps:=9^6) +decide (disch:=first|omega|(simp only[lens]<;>omega)|decide) only [go_sem,Zb,Za,simprocAttr]<;>rfl
  have u6:Zk ts 6=.w (.c (.int .i64 z6)):=by rw[hts]; simp (maxSteps:=9^6) +decide (disch:=first|omega|(simp only[lens]<;>omega)|decide) only [go_sem,Zb,Za,simprocAttr]<;>rfl
  have u15:Zk ts 15=.w (.c (.ptr hH.next 0)):=by rw[hts]; simp (maxSteps:=9^6) +decide (disch:=first|omega|(simp only[lens]<;>omega)|decide) only [go_sem,Zb,Za,simprocAttr]<;>rfl
  have u19:Zk ts 19=.w (.c (.ptr hD'.next 0)):=by rw[hts]; simp (maxSteps:=9^6) +decide (disch:=first|omega|(simp only[lens]<;>omega)|decide) only [go_sem,Zb,Za,simprocAttr]<;>rfl
  clear hts
  by_cases g:sz<off+N∧0<N
  ·have d1:decide (((off+N:Nat):Int) > (sz:Int))=true:=decide_eq_true (by omega)
   have d2:decide ((N:Int) > 0)=true:=decide_eq_true (by omega)
   apply Goes.seq
   refine Goes.ops2 fits Hh Zc (by
    iterate 9 (refine Zz (by simp (maxSteps:=9^6) +decide (disch:=first|omega|(simp only[lens]<;>omega)|decide) only [go_sem,Zb,Za,simprocAttr,u1,u2,u3,e1,d1,d2]<;>rfl) ?_)
    exact Z0) ?_
   iterate 2 (((first|apply Goes.Zm|apply Goes.ops2 fits Hh Zc); · simp (maxSteps:=9^6) +decide (disch:=first|omega|(simp only[lens]<;>omega)|decide) only [go_sem,Zb,Za,simprocAttr,u1,u2,u3,e1,d1,d2]<;>rfl))
   refine tl _ ?_ ?_ ?_ ?_ ?_ ?_ ?_ ?_
   ·rw[show ((SZ:Nat):Int)=((off+N:Nat):Int) by rw[←hSZ,if_neg (by omega)]; omega]
    simp (maxSteps:=9^6) +decide (disch:=first|omega|(simp only[lens]<;>omega)|decide) only [go_sem,Zb,Za,simprocAttr]
   ·simp (maxSteps:=9^6) +decide (disch:=first|omega|(simp only[lens]<;>omega)|decide) only [go_sem,Zb,Za,simprocAttr,u2]
   ·simp (maxSteps:=9^6) +decide (disch:=first|omega|(simp only[lens]<;>omega)|decide) only [go_sem,Zb,Za,simprocAttr,u3]
   ·simp (maxSteps:=9^6) +decide (disch:=first|omega|(simp only[lens]<;>omega)|decide) only [go_sem,Zb,Za,simprocAttr,u4]
   ·simp (maxSteps:=9^6) +decide (disch:=first|omega|(simp only[lens]<;>omega)|decide) only [go_sem,Zb,Za,simprocAttr,u5]
   ·simp (maxSteps:=9^6) +decide (disch:=first|omega|(simp only[lens]<;>omega)|decide) only [go_sem,Zb,Za,simprocAttr,u6]
   ·simp (maxSteps:=9^6) +decide (disch:=first|omega|(simp only[lens]<;>omega)|decide) only [go_sem,Zb,Za,simprocAttr,u15]
   ·simp (maxSteps:=9^6) +decide (disch:=first|omega|(simp only[lens]<;>omega)|decide) only [go_sem,Zb,Za,simprocAttr,u19]
  ·have eS:SZ=sz:=by rw[←hSZ]; split<;>omega
   by_cases g1:sz<off+N
   ·have d1:decide (((off+N:Nat):Int) > (sz:Int))=true:=decide_eq_true (by omega)
    have d2:decide ((N:Int) > 0)=false:=decide_eq_false (by omega)
    apply Goes.seq
    refine Goes.ops2 fits Hh Zc (by
     iterate 9 (refine Zz (by simp (maxSteps:=9^6) +decide (disch:=first|omega|(simp only[lens]<;>omega)|decide) only [go_sem,Zb,Za,simprocAttr,u1,u2,u3,e1,d1,d2]<;>rfl) ?_)
     exact Z0) ?_
    iterate 2 (first|apply Goes.skip|(apply Goes.Zm; · simp (maxSteps:=9^6) +decide (disch:=first|omega|(simp only[lens]<;>omega)|decide) only [go_sem,Zb,Za,simprocAttr,u1,u2,u3,e1,d1,d2]<;>rfl))
    refine tl _ ?_ ?_ ?_ ?_ ?_ ?_ ?_ ?_
    ·rw[eS]; simp (maxSteps:=9^6) +decide (disch:=first|omega|(simp only[lens]<;>omega)|decide) only [go_sem,Zb,Za,simprocAttr,u1]
    ·simp (maxSteps:=9^6) +decide (disch:=first|omega|(simp only[lens]<;>omega)|decide) only [go_sem,Zb,Za,simprocAttr,u2]
    ·simp (maxSteps:=9^6) +decide (disch:=first|omega|(simp only[lens]<;>omega)|decide) only [go_sem,Zb,Za,simprocAttr,u3]
    ·simp (maxSteps:=9^6) +decide (disch:=first|omega|(simp only[lens]<;>omega)|decide) only [go_sem,Zb,Za,simprocAttr,u4]
    ·simp (maxSteps:=9^6) +decide (disch:=first|omega|(simp only[lens]<;>omega)|decide) only [go_sem,Zb,Za,simprocAttr,u5]
    ·simp (maxSteps:=9^6) +decide (disch:=first|omega|(simp only[lens]<;>omega)|decide) only [go_sem,Zb,Za,simprocAttr,u6]
    ·simp (maxSteps:=9^6) +decide (disch:=first|omega|(simp only[lens]<;>omega)|decide) only [go_sem,Zb,Za,simprocAttr,u15]
    ·simp (maxSteps:=9^6) +decide (disch:=first|omega|(simp only[lens]<;>omega)|decide) only [go_sem,Zb,Za,simprocAttr,u19]
   ·have d1:decide (((off+N:Nat):Int) > (sz:Int))=false:=decide_eq_false (by omega)
    apply Goes.seq
    refine Goes.ops2 fits Hh Zc (by
     iterate 9 (refine Zz (by simp (maxSteps:=9^6) +decide (disch:=first|omega|(simp only[lens]<;>omega)|decide) only [go_sem,Zb,Za,simprocAttr,u1,u2,u3,e1,d1]<;>rfl) ?_)
     exact Z0) ?_
    iterate 2 (first|apply Goes.skip|(apply Goes.Zm; · simp (maxSteps:=9^6) +decide (disch:=first|omega|(simp only[lens]<;>omega)|decide) only [go_sem,Zb,Za,simprocAttr,u1,u2,u3,e1,d1]<;>rfl))
    refine tl _ ?_ ?_ ?_ ?_ ?_ ?_ ?_ ?_
    ·rw[eS]; simp (maxSteps:=9^6) +decide (disch:=first|omega|(simp only[lens]<;>omega)|decide) only [go_sem,Zb,Za,simprocAttr,u1]
    ·simp (maxSteps:=9^6) +decide (disch:=first|omega|(simp only[lens]<;>omega)|decide) only [go_sem,Zb,Za,simprocAttr,u2]
    ·simp (maxSteps:=9^6) +decide (disch:=first|omega|(simp only[lens]<;>omega)|decide) only [go_sem,Zb,Za,simprocAttr,u3]
    ·simp (maxSteps:=9^6) +decide (disch:=first|omega|(simp only[lens]<;>omega)|decide) only [go_sem,Zb,Za,simprocAttr,u4]
    ·simp (maxSteps:=9^6) +decide (disch:=first|omega|(simp only[lens]<;>omega)|decide) only [go_sem,Zb,Za,simprocAttr,u5]
    ·simp (maxSteps:=9^6) +decide (disch:=first|omega|(simp only[lens]<;>omega)|decide) only [go_sem,Zb,Za,simprocAttr,u6]
    ·simp (maxSteps:=9^6) +decide (disch:=first|omega|(simp only[lens]<;>omega)|decide) only [go_sem,Zb,Za,simprocAttr,u15]
    ·simp (maxSteps:=9^6) +decide (disch:=first|omega|(simp only[lens]<;>omega)|decide) only [go_sem,Zb,Za,simprocAttr,u19]
 exact⟨h',cc⟩
end
end Go.Proofs.YtgikjeaipmeclaaGreatDoor
set_option maxRecDepth 100000
namespace Go.Proofs.YtgikjeaipmeclaaGreatDoor
open Go.Ev Go.ChangeShapes Go.WideShapes
section
variable (Hh:Hearts K Tryz.prog)
include Hh
theorem Zkh {W:World} {cs:Array Value} {t:TypeId} {fr:Nat × Nat} (hb:W.heap[0]? = some (.cells cs t fr)) (hcs:cs.toList=steps16.map (Value.int .u32)) (z0 z1 z2 z3 z4 z5 z6:Int) (wf0:(Lit.int .u8 z0).wf=true) (wf4:(Lit.int .u8 z4).wf=true) :
  Calls Tryz.prog 4 #[.int .u8 z0,.int .i64 z1,.int .i64 z2,.int .i64 z3,.int .u8 z4,.int .i64 z5,.int .i64 z6] W fun e W'=>e=.returned (.bool true)∧Go.RowKit.Below W.heap.size W W':=by
 obtain⟨m0,m1⟩:=wf_u8 wf0
 obtain⟨b0,b1⟩:=wf_u8 wf4
 obtain⟨mo,rfl⟩:=Int.eq_ofNat_of_zero_le m0
 obtain⟨by_,rfl⟩:=Int.eq_ofNat_of_zero_le b0
 have h0:(Sg none none).get 0=some Oh:=rfl
 obtain⟨h',cc⟩:=Ztz Hh h0 (by show 0<3; omega) (mo:=mo) (by_:=by_) (by omega) (by omega) z1 z2 z3 z5 z6
 exact Q7 (ρ:=Zg9 ⟨0,0,0⟩ ⟨0,0,0⟩) (vals:=[.int .u8 (mo:Int),.int .i64 z1,.int .i64 z2,.int .i64 z3,.int .u8 (by_:Int),.int .i64 z5,.int .i64 z6]) (Zj6 hb hcs (a:=none) (b:=none) (fun _ _ e=>by cases e) (fun _ _ e=>by cases e)) (Zg3 ⟨0,0,0⟩ ⟨0,0,0⟩) (fun n o e=>Qs e) cc ⟨rfl,rfl,rfl,rfl,rfl,rfl,rfl,trivial⟩
end
end Go.Proofs.YtgikjeaipmeclaaGreatDoor
