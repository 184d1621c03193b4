/- mkfs.bitmap, on the evaluator's level. -/
import Derived.Test.YtlbbmhgdcdcdnaaGreatDoorBits
import Derived.Test.YtlbbmhgdcdcdnaaGreatDoorEvC
import Derived.Test.YtlbbmhgdcdcdnaaGreatDoorCrcX
set_option linter.unusedSimpArgs false
set_option linter.unusedVariables false
set_option linter.unusedSectionVars false
set_option maxRecDepth 100000
namespace Go.Proofs.YtlbbmhgdcdcdnaaGreatDoor
open Go.Ev
noncomputable def q54 (p:List Nat):Code:=piece p (bodyOf Tryz.f54)
theorem q54_:q54 []=.seq (q54 [0]) (q54 [1]):=by kernel_rfl
theorem q54_0:q54 [0]=.region 0 (opsA (q54 [0])) false:=by kernel_rfl
theorem q54_1:q54 [1]=.seq (q54 [1,0]) (q54 [1,1]):=by kernel_rfl
theorem q54_10:q54 [1,0]=.region 1 (opsA (q54 [1,0])) false:=by kernel_rfl
theorem q54_11:q54 [1,1]=.seq (q54 [1,1,0]) (q54 [1,1,1]):=by kernel_rfl
theorem q54_110:q54 [1,1,0]=.seq (q54 [1,1,0,0]) (q54 [1,1,0,1]):=by kernel_rfl
theorem q54_1100:q54 [1,1,0,0]=.region 2 (opsA (q54 [1,1,0,0])) false:=by kernel_rfl
theorem q54_1101:q54 [1,1,0,1]=.block 0 (q54 [1,1,0,1,2]):=by kernel_rfl
theorem q54_11012:q54 [1,1,0,1,2]=.loop (q54 [1,1,0,1,2,2]):=by kernel_rfl
theorem q54_110122:q54 [1,1,0,1,2,2]=.seq (q54 [1,1,0,1,2,2,0]) (q54 [1,1,0,1,2,2,1]):=by kernel_rfl
theorem q54_1101220:q54 [1,1,0,1,2,2,0]=.region 3 (opsA (q54 [1,1,0,1,2,2,0])) false:=by kernel_rfl
theorem q54_1101221:q54 [1,1,0,1,2,2,1]=.seq (q54 [1,1,0,1,2,2,1,0]) (q54 [1,1,0,1,2,2,1,1]):=by kernel_rfl
theorem q54_11012210:q54 [1,1,0,1,2,2,1,0]=.cond (.tmp 10) (q54 [1,1,0,1,2,2,1,0,3]) (q54 [1,1,0,1,2,2,1,0,4]):=by kernel_rfl
theorem q54_110122103:q54 [1,1,0,1,2,2,1,0,3]=.skip:=by kernel_rfl
theorem q54_110122104:q54 [1,1,0,1,2,2,1,0,4]=.exit 0:=by kernel_rfl
theorem q54_11012211:q54 [1,1,0,1,2,2,1,1]=.seq (q54 [1,1,0,1,2,2,1,1,0]) (q54 [1,1,0,1,2,2,1,1,1]):=by kernel_rfl
theorem q54_110122110:q54 [1,1,0,1,2,2,1,1,0]=.block 1 (q54 [1,1,0,1,2,2,1,1,0,2]):=by kernel_rfl
theorem q54_1101221102:q54 [1,1,0,1,2,2,1,1,0,2]=.seq (q54 [1,1,0,1,2,2,1,1,0,2,0]) (q54 [1,1,0,1,2,2,1,1,0,2,1]):=by kernel_rfl
theorem q54_11012211020:q54 [1,1,0,1,2,2,1,1,0,2,0]=.region 4 (opsA (q54 [1,1,0,1,2,2,1,1,0,2,0])) false:=by kernel_rfl
theorem q54_11012211021:q54 [1,1,0,1,2,2,1,1,0,2,1]=.region 5 (opsA (q54 [1,1,0,1,2,2,1,1,0,2,1])) false:=by kernel_rfl
theorem q54_110122111:q54 [1,1,0,1,2,2,1,1,1]=.region 6 (opsA (q54 [1,1,0,1,2,2,1,1,1])) false:=by kernel_rfl
theorem q54_111:q54 [1,1,1]=.seq (q54 [1,1,1,0]) (q54 [1,1,1,1]):=by kernel_rfl
theorem q54_1110:q54 [1,1,1,0]=.seq (q54 [1,1,1,0,0]) (q54 [1,1,1,0,1]):=by kernel_rfl
theorem q54_11100:q54 [1,1,1,0,0]=.region 7 (opsA (q54 [1,1,1,0,0])) false:=by kernel_rfl
theorem q54_11101:q54 [1,1,1,0,1]=.block 2 (q54 [1,1,1,0,1,2]):=by kernel_rfl
theorem q54_111012:q54 [1,1,1,0,1,2]=.loop (q54 [1,1,1,0,1,2,2]):=by kernel_rfl
theorem q54_1110122:q54 [1,1,1,0,1,2,2]=.seq (q54 [1,1,1,0,1,2,2,0]) (q54 [1,1,1,0,1,2,2,1]):=by kernel_rfl
theorem q54_11101220:q54 [1,1,1,0,1,2,2,0]=.seq (q54 [1,1,1,0,1,2,2,0,0]) (q54 [1,1,1,0,1,2,2,0,1]):=by kernel_rfl
theorem q54_111012200:q54 [1,1,1,0,1,2,2,0,0]=.region 8 (opsA (q54 [1,1,1,0,1,2,2,0,0])) false:=by kernel_rfl
theorem q54_111012201:q54 [1,1,1,0,1,2,2,0,1]=.cond (.tmp 17) (q54 [1,1,1,0,1,2,2,0,1,3]) (q54 [1,1,1,0,1,2,2,0,1,4]):=by kernel_rfl
theorem q54_1110122013:q54 [1,1,1,0,1,2,2,0,1,3]=.skip:=by kernel_rfl
theorem q54_1110122014:q54 [1,1,1,0,1,2,2,0,1,4]=.exit 2:=by kernel_rfl
theorem q54_11101221:q54 [1,1,1,0,1,2,2,1]=.seq (q54 [1,1,1,0,1,2,2,1,0]) (q54 [1,1,1,0,1,2,2,1,1]):=by kernel_rfl
theorem q54_111012210:q54 [1,1,1,0,1,2,2,1,0]=.block 3 (q54 [1,1,1,0,1,2,2,1,0,2]):=by kernel_rfl
theorem q54_1110122102:q54 [1,1,1,0,1,2,2,1,0,2]=.region 10 (opsA (q54 [1,1,1,0,1,2,2,1,0,2])) false:=by kernel_rfl
theorem q54_111012211:q54 [1,1,1,0,1,2,2,1,1]=.region 9 (opsA (q54 [1,1,1,0,1,2,2,1,1])) false:=by kernel_rfl
theorem q54_1111:q54 [1,1,1,1]=.seq (q54 [1,1,1,1,0]) (q54 [1,1,1,1,1]):=by kernel_rfl
theorem q54_11110:q54 [1,1,1,1,0]=.region 11 (opsA (q54 [1,1,1,1,0])) false:=by kernel_rfl
theorem q54_11111:q54 [1,1,1,1,1]=.ret:=by kernel_rfl
theorem rs54:Tryz.f54.results.toList=[.cell 4 85]:=rfl
attribute [go_sem] rs54
def lowB (i:Nat):Nat→Bool:=fun j=>decide (j<i)
def midB (u s i:Nat):Nat→Bool:=fun j=>decide (j<u) || (decide (s≤j)&&decide (j<i))
theorem lowB_upd (i:Nat):updB (lowB i) i=lowB (i+1):=by
 funext j
 unfold updB lowB
 rw[←Bool.decide_or,decide_eq_decide]
 omega
theorem midB_upd (u s i:Nat) (h:s≤i):updB (midB u s i) i=midB u s (i+1):=by
 funext j
 unfold updB midB
 rw[←Bool.decide_and,←Bool.decide_and,←Bool.decide_or,←Bool.decide_or,←Bool.decide_or,decide_eq_decide]
 omega
theorem midB_start (u s:Nat):midB u s s=lowB u:=by
 funext j
 unfold midB lowB
 rw[←Bool.decide_and,←Bool.decide_or,decide_eq_decide]
 omega
theorem lowB_zero:List.replicate 256 (C.int .u8 0)=packB (lowB 0):=by kernel_rfl
def bmB (u s:Nat):List C:=packB (midB u s 2048)
section
variable (Hh:Hearts K Tryz.prog)
include Hh
theorem bm1 (p u:Nat) (hu:u≤2048):∀ (k i:Nat) (ts:Tmps) (h:Go.Ev.H),i+k=u→h.get p=some (.row 256 [packB (lowB i)] false)→evalT ts 5=.w (.c (.ptr p 0))→evalT ts 8=.w (.c (.int .i64 u))→evalT ts 9=.w (.c (.int .i64 i)) →
  Goes K Tryz.prog 23 none (q54 [1,1,0,1,2]) [] ts h fun x ds' ts' h'=>x=.exit 0∧ds'=[]∧h'.next=h.next∧h'.get p=some (.row 256 [packB (lowB u)] false)∧(∀ m,m≠p→h'.get m=h.get m)∧∀ s,s≤5→evalT ts' s=evalT ts s:=by
 intro k
 induction k with
 | zero =>
  intro i ts h hi hp h5 h8 h9
  obtain rfl:i=u:=by omega
  refine Goes.loopQ q54_11012 (Goes.loop ?_)
  refine Goes.seqQ q54_110122 ?_
  refine Goes.opsQ q54_1101220 fits Hh E0_sound (by
   simp (maxSteps:=9^6) +decide (disch:=first|omega|(simp only[lens]<;>omega)|decide) only [go_sem,q54,Tryz.f54,readRow,loadIn,simprocAttr,h8,h9]
   rfl) ?_
  refine Goes.seqQ q54_1101221 ?_
  refine Goes.condFQ q54_11012210 (by simp (maxSteps:=9^6) +decide (disch:=first|omega|(simp only[lens]<;>omega)|decide) only [go_sem,readRow,loadIn,simprocAttr,h8,h9]<;>rfl) (by first|rfl|assumption|exact decide_eq_false (by omega)|(simp; omega)) ?_
  refine Goes.exitQ q54_110122104 ?_
  refine⟨rfl,rfl,rfl,hp,fun _ _=>rfl,fun s hs=>?_⟩
  simp (decide:=true) only [evalT_low hs]
 | succ k ih =>
  intro i ts h hi hp h5 h8 h9
  have c1:=setOk Hh h p i (lowB i) (by omega) (by simp [lowB]) hp
  rw[lowB_upd] at c1
  refine Goes.loopQ q54_11012 (Goes.loop ?_)
  refine Goes.seqQ q54_110122 ?_
  refine Goes.opsQ q54_1101220 fits Hh E0_sound (by
   simp (maxSteps:=9^6) +decide (disch:=first|omega|(simp only[lens]<;>omega)|decide) only [go_sem,q54,Tryz.f54,readRow,loadIn,simprocAttr,h5,h8,h9]
   rfl) ?_
  refine Goes.seqQ q54_1101221 ?_
  refine Goes.condTQ q54_11012210 (by simp (maxSteps:=9^6) +decide (disch:=first|omega|(simp only[lens]<;>omega)|decide) only [go_sem,readRow,loadIn,simprocAttr,h5,h8,h9]<;>rfl) (by first|rfl|assumption|exact decide_eq_true (by omega)|(simp; omega)) ?_
  refine Goes.skipQ q54_110122103 ?_
  refine Goes.seqQ q54_11012211 ?_
  refine Goes.blockQ q54_110122110 (Goes.block ?_)
  refine Goes.seqQ q54_1101221102 ?_
  refine Goes.opsQ q54_11012211020 fits Hh E0_sound (by
   simp (maxSteps:=9^6) +decide (disch:=first|omega|(simp only[lens]<;>omega)|decide) only [go_sem,q54,Tryz.f54,readRow,loadIn,simprocAttr,h5,h8,h9]
   rfl) ?_
  refine Goes.opsQ q54_11012211021 fits Hh (E1_sound E0_sound c1) (by
   simp (maxSteps:=9^6) +decide (disch:=first|omega|(simp only[lens]<;>omega)|decide) only [go_sem,q54,Tryz.f54,readRow,loadIn,simprocAttr,E1_call,h5,h8,h9]
   rfl) ?_
  refine Goes.opsQ q54_110122111 fits Hh E0_sound (by
   simp (maxSteps:=9^6) +decide (disch:=first|omega|(simp only[lens]<;>omega)|decide) only [go_sem,q54,Tryz.f54,readRow,loadIn,simprocAttr,h5,h8,h9]
   rfl) ?_
  show Goes K Tryz.prog 23 none (.loop (q54 [1,1,0,1,2,2])) _ _ _ _
  rw[←q54_11012]
  refine (ih (i+1) _ _ (by omega) (get_put_self ..) ?_ ?_ ?_).mono ?_
  ·simp (decide:=true) only [evalT_set,reduceIte,h5]
  ·simp (decide:=true) only [evalT_set,reduceIte,h8]
  ·simp (decide:=true) only [evalT_set,reduceIte]<;>rfl
  ·rintro x ds' ts' h' ⟨e1,e2,e3,e4,e5,e6⟩
   refine⟨e1,e2,e3,e4,fun m hm=>(e5 m hm).trans (get_put_ne hm),fun s hs=>(e6 s hs).trans ?_⟩
   simp (decide:=true) only [evalT_low hs]
theorem bm2 (p u z:Nat) (hz:z≤2048) (huz:u≤z):∀ (k i:Nat) (ts:Tmps) (h:Go.Ev.H),i+k=2048→z≤i→h.get p=some (.row 256 [packB (midB u z i)] false)→evalT ts 5=.w (.c (.ptr p 0))→evalT ts 7=.w (.c (.int .i64 i)) →
  Goes K Tryz.prog 23 none (q54 [1,1,1,0,1,2]) [] ts h fun x ds' ts' h'=>x=.exit 2∧ds'=[]∧h'.next=h.next∧h'.get p=some (.row 256 [packB (midB u z 2048)] false)∧(∀ m,m≠p→h'.get m=h.get m)∧∀ s,s≤5→evalT ts' s=evalT ts s:=by
 intro k
 induction k with
 | zero =>
  intro i ts h hi hzi hp h5 h7
  obtain rfl:i=2048:=by omega
  refine Goes.loopQ q54_111012 (Goes.loop ?_)
  refine Goes.seqQ q54_1110122 ?_
  refine Goes.seqQ q54_11101220 ?_
  refine Goes.opsQ q54_111012200 fits Hh E0_sound (by
   simp (maxSteps:=9^6) +decide (disch:=first|omega|(simp only[lens]<;>omega)|decide) only [go_sem,q54,Tryz.f54,readRow,loadIn,simprocAttr,h7]
   rfl) ?_
  refine Goes.condFQ q54_111012201 (by simp (maxSteps:=9^6) +decide (disch:=first|omega|(simp only[lens]<;>omega)|decide) only [go_sem,readRow,loadIn,simprocAttr,h7]<;>rfl) (by first|rfl|assumption|exact decide_eq_false (by omega)|(simp; omega)) ?_
  refine Goes.exitQ q54_1110122014 ?_
  refine⟨rfl,rfl,rfl,hp,fun _ _=>rfl,fun s hs=>?_⟩
  simp (decide:=true) only [evalT_low hs]
 | succ k ih =>
  intro i ts h hi hzi hp h5 h7
  have c1:=setOk Hh h p i (midB u z i) (by omega) (by simp [midB]; omega) hp
  rw[midB_upd _ _ _ hzi] at c1
  refine Goes.loopQ q54_111012 (Goes.loop ?_)
  refine Goes.seqQ q54_1110122 ?_
  refine Goes.seqQ q54_11101220 ?_
  refine Goes.opsQ q54_111012200 fits Hh E0_sound (by
   simp (maxSteps:=9^6) +decide (disch:=first|omega|(simp only[lens]<;>omega)|decide) only [go_sem,q54,Tryz.f54,readRow,loadIn,simprocAttr,h5,h7]
   rfl) ?_
  refine Goes.condTQ q54_111012201 (by simp (maxSteps:=9^6) +decide (disch:=first|omega|(simp only[lens]<;>omega)|decide) only [go_sem,readRow,loadIn,simprocAttr,h5,h7]<;>rfl) (by first|rfl|assumption|exact decide_eq_true (by omega)|(simp; omega)) ?_
  refine Goes.skipQ q54_1110122013 ?_
  refine Goes.seqQ q54_11101221 ?_
  refine Goes.blockQ q54_111012210 (Goes.block ?_)
  refine Goes.opsQ q54_1110122102 fits Hh (E1_sound E0_sound c1) (by
   simp (maxSteps:=9^6) +decide (disch:=first|omega|(simp only[lens]<;>omega)|decide) only [go_sem,q54,Tryz.f54,readRow,loadIn,simprocAttr,E1_call,h5,h7]
   rfl) ?_
  refine Goes.opsQ q54_111012211 fits Hh E0_sound (by
   simp (maxSteps:=9^6) +decide (disch:=first|omega|(simp only[lens]<;>omega)|decide) only [go_sem,q54,Tryz.f54,readRow,loadIn,simprocAttr,h5,h7]
   rfl) ?_
  show Goes K Tryz.prog 23 none (.loop (q54 [1,1,1,0,1,2,2])) _ _ _ _
  rw[←q54_111012]
  refine (ih (i+1) _ _ (by omega) (by omega) (get_put_self ..) ?_ ?_).mono ?_
  ·simp (decide:=true) only [evalT_set,reduceIte,h5]
  ·simp (decide:=true) only [evalT_set,reduceIte]<;>rfl
  ·rintro x ds' ts' h' ⟨e1,e2,e3,e4,e5,e6⟩
   refine⟨e1,e2,e3,e4,fun m hm=>(e5 m hm).trans (get_put_ne hm),fun s hs=>(e6 s hs).trans ?_⟩
   simp (decide:=true) only [evalT_low hs]
theorem bitmapOk (h:Go.Ev.H) (u z:Nat) (huz:u≤z) (hz:z≤2048):CallOk K Tryz.prog 54 [.c (.int .i64 u),.c (.int .i64 z)] h (.w (.g (bmB u z))) h:=by
 obtain⟨v,h',c,rfl,hk⟩:∃ v h',CallOk K Tryz.prog 54 [.c (.int .i64 u),.c (.int .i64 z)] h v h'∧v=(.w (.g (bmB u z)))∧∀ m,m<h.next→h'.get m=h.get m:=by
  have z0:=lowB_zero
  refine CallOk.goesE fits Hh (by kernel_rfl) (by kernel_rfl) (by kernel_rfl) (show Tryz.f54.body=some (q54 []) by kernel_rfl) rfl ?_
  show Goes K Tryz.prog 23 none _ _ _ _ _
  refine Goes.seqQ q54_ ?_
  refine Goes.opsQ q54_0 fits Hh E0_sound (by
   simp (maxSteps:=9^6) +decide (disch:=first|omega|(simp only[lens]<;>omega)|decide) only [go_sem,q54,Tryz.f54,readRow,loadIn,simprocAttr,z0]
   rfl) ?_
  refine Goes.seqQ q54_1 ?_
  refine Goes.opsQ q54_10 fits Hh E0_sound (by
   simp (maxSteps:=9^6) +decide (disch:=first|omega|(simp only[lens]<;>omega)|decide) only [go_sem,q54,Tryz.f54,readRow,loadIn,simprocAttr,z0]
   rfl) ?_
  refine Goes.seqQ q54_11 ?_
  refine Goes.seqQ q54_110 ?_
  refine Goes.opsQ q54_1100 fits Hh E0_sound (by
   simp (maxSteps:=9^6) +decide (disch:=first|omega|(simp only[lens]<;>omega)|decide) only [go_sem,q54,Tryz.f54,readRow,loadIn,simprocAttr,z0]
   rfl) ?_
  refine Goes.blockQ q54_1101 (Goes.block ?_)
  refine (bm1 Hh (h.next+1) u (by omega) u 0 _ _ (by omega) ?_ ?_ ?_ ?_).mono ?_
  ·exact get_new_self _ _
  ·simp (decide:=true) only [evalT_set,reduceIte]
  ·simp (decide:=true) only [evalT_set,reduceIte]<;>rfl
  ·simp (decide:=true) only [evalT_set,reduceIte]<;>rfl
  rintro x ds' ts' h' ⟨rfl,rfl,n1,g1,k1,t1⟩
  have f1:=t1 1 (by decide)
  have f4:=t1 4 (by decide)
  have f5:=t1 5 (by decide)
  simp (maxSteps:=9^6) +decide (disch:=first|omega|(simp only[lens]<;>omega)|decide) only [go_sem,readRow,loadIn,simprocAttr] at f1 f4 f5
  refine Goes.seqQ q54_111 ?_
  refine Goes.seqQ q54_1110 ?_
  skip
  refine Goes.opsQ q54_11100 fits Hh E0_sound (by
   simp (maxSteps:=9^6) +decide (disch:=first|omega|(simp only[lens]<;>omega)|decide) only [go_sem,q54,Tryz.f54,readRow,loadIn,simprocAttr,z0]
   rfl) ?_
  refine Goes.blockQ q54_11101 (Goes.block ?_)
  refine (bm2 Hh (h.next+1) u z hz huz (2048 - z) z _ _ (by omega) (by omega) ?_ ?_ ?_).mono ?_
  ·rw[midB_start]; exact g1
  ·simp (decide:=true) only [evalT_set,reduceIte,f5]
  ·simp (decide:=true) only [evalT_set,reduceIte,f1]
  rintro x ds' ts2 h2 ⟨rfl,rfl,n2,g2,k2,t2⟩
  have y4:=t2 4 (by decide)
  have y5:=t2 5 (by decide)
  simp (maxSteps:=9^6) +decide (disch:=first|omega|(simp only[lens]<;>omega)|decide) only [go_sem,readRow,loadIn,simprocAttr,f4,f5] at y4 y5
  have a2:h2.get h.next=some (.row 256 [packB (lowB 0)] false):=by rw[k2 _ (by omega),k1 _ (by omega)]; simp (maxSteps:=9^6) +decide (disch:=first|omega|(simp only[lens]<;>omega)|decide) only [go_sem,readRow,loadIn,simprocAttr]
  have r2:readRow 256 [packB (midB u z 2048)] 0 256=some (packB (midB u z 2048)):=by
   have:=readRow_all (l:=packB (midB u z 2048)) (by rw[packB_len]; omega)
   rwa [packB_len] at this
  have r3:readRow 256 [packB (midB u z 2048)] 0 256=some (packB (midB u z 2048)):=r2
  have w2:writeRow 256 [packB (lowB 0)] 0 (packB (midB u z 2048))=some [packB (midB u z 2048)]:=by
   have:=writeRow_all (l:=packB (lowB 0)) (l':=packB (midB u z 2048)) (by rw[packB_len]; omega) (by rw[packB_len,packB_len])
   rwa [packB_len] at this
  refine Goes.seqQ q54_1111 ?_
  refine Goes.opsQ q54_11110 fits Hh E0_sound (by
   simp (maxSteps:=9^6) +decide (disch:=first|omega|(simp only[lens]<;>omega)|decide) only [go_sem,q54,Tryz.f54,readRow,loadIn,simprocAttr,y4,y5,g2,a2,r2,w2,packB_len,z0]
   rfl) ?_
  refine Goes.retQ q54_11111 ?_
  refine⟨_,_,(by simp (maxSteps:=9^6) +decide (disch:=first|omega|(simp only[lens]<;>omega)|decide) only [go_sem,readRow,loadIn,simprocAttr,y4,y5,g2,r2,packB_len]<;>rfl),rfl,fun m hm=>?_⟩
  simp (maxSteps:=9^6) +decide (disch:=first|omega|(simp only[lens]<;>omega)|decide) only [go_sem,readRow,loadIn,simprocAttr,k2,k1]
 exact CallOk.quiet c (by simp [V.flat,W.flat,bmB,packB,C.flat]) hk
end
end Go.Proofs.YtlbbmhgdcdcdnaaGreatDoor
set_option maxRecDepth 100000
namespace Go.Proofs.YtlbbmhgdcdcdnaaGreatDoor
open Go.Ev
def xBm (args:List W) (h:Go.Ev.H):Option (V × Go.Ev.H):=match args with
 | [.c (.int .i64 (.ofNat u)),.c (.int .i64 (.ofNat z))]=>bif Nat.ble u z&&Nat.ble z 2048 then some (.w (.g (bmB u z)),h) else none
 | _=>none
noncomputable def x3:Kn:=fun f args h=>bif Nat.beq f 54 then xBm args h else bif Nat.beq f 157 then xCrc args h else bif Nat.beq f 82 then xZero args h else none
section
variable (Hh:Hearts K Tryz.prog)
include Hh
theorem xBm_ok {args:List W} {h h':Go.Ev.H} {v:V} (e:xBm args h=some (v,h')):CallOk K Tryz.prog 54 args h v h':=by
 unfold xBm at e
 split at e
 ·rename_i u z
  cases hb:(Nat.ble u z&&Nat.ble z 2048) with
  | false=>rw[hb] at e; cases e
  | true =>
   rw[hb] at e
   cases e
   simp only[Bool.and_eq_true] at hb
   exact bitmapOk Hh h u z (Nat.le_of_ble_eq_true hb.1) (Nat.le_of_ble_eq_true hb.2)
 ·cases e
theorem x3_ok:KnOk K Tryz.prog x3:=by
 intro f args h v h' e
 unfold x3 at e
 cases h1:Nat.beq f 54 with
 | true =>
  rw[h1] at e
  obtain rfl:=Nat.eq_of_beq_eq_true h1
  exact xBm_ok Hh e
 | false =>
  rw[h1] at e
  cases h2:Nat.beq f 157 with
  | true =>
   rw[h2] at e
   obtain rfl:=Nat.eq_of_beq_eq_true h2
   exact xCrc_ok Hh e
  | false =>
   rw[h2] at e
   cases h3:Nat.beq f 82 with
   | true =>
    rw[h3] at e
    obtain rfl:=Nat.eq_of_beq_eq_true h3
    exact xZero_ok Hh e
   | false=>rw[h3] at e; cases e
end
end Go.Proofs.YtlbbmhgdcdcdnaaGreatDoor
