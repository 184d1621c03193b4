/- geo.What, of a geometry that may be: the groups, the whole. -/
import Derived.Test.YtlbbmhgdcdcdnaaGreatDoorWhat
set_option linter.unusedSimpArgs false
set_option linter.unusedVariables false
set_option linter.unusedSectionVars false
set_option maxRecDepth 100000
namespace Go.Proofs.YtlbbmhgdcdcdnaaGreatDoor
open Go.Ev
theorem buP3 (a1 a2 a3 a4 a5 b1 b2 b3 b4 b5 c1 c2 c3 c4 c5:C):opBuild K 266 (some [(0,.g [a1,a2,a3,a4,a5]),(1,.g [b1,b2,b3,b4,b5]),(2,.g [c1,c2,c3,c4,c5])])=some (.g [a1,a2,a3,a4,a5,b1,b2,b3,b4,b5,c1,c2,c3,c4,c5]):=by kernel_rfl
theorem buP4 (a1 a2 a3 a4 a5 b1 b2 b3 b4 b5 c1 c2 c3 c4 c5 d1 d2 d3 d4 d5:C):opBuild K 267 (some [(0,.g [a1,a2,a3,a4,a5]),(1,.g [b1,b2,b3,b4,b5]),(2,.g [c1,c2,c3,c4,c5]),(3,.g [d1,d2,d3,d4,d5])])=some (.g [a1,a2,a3,a4,a5,b1,b2,b3,b4,b5,c1,c2,c3,c4,c5,d1,d2,d3,d4,d5]):=by kernel_rfl
theorem wrP {x y:List C} {n:Nat} (hx:x.length=n) (hy:y.length=n) (h:0<n):writeRow n [x] 0 y=some [y]:=by
 subst hy
 exact writeRow_all h hx
theorem rdP {x:List C} {n:Nat} (hx:x.length=n) (h:0<n):readRow n [x] 0 n=some x:=by
 subst hx
 exact readRow_all h
section
variable (Hh:Hearts K Tryz.prog)
include Hh
set_option maxHeartbeats 4000000 in
theorem partsAll {l pb p4 p5 p6 pg gr sz ino jr b d:Nat} {tl:Tmps} (F:Fine gr sz ino jr) (s6:b<9223372036854775808):∀ (m k:Nat) (ts:Tmps) (h:Go.Ev.H),k+m=gr→2+jr+k * sz≤b→WCtx l pb p4 p5 p6 pg gr sz ino jr b d tl h→evalT ts 0=.w (.c (.yield l))→evalT ts 1=.w (.c (.ptr pg 0))→evalT ts 3=.w (.c (.int .i64 ((ino / 4:Nat):Int)))→evalT ts 31=.w (.c (.int .i64 gr))→evalT ts 32=.w (.c (.int .i64 k)) →
  Goes K Tryz.prog 79 none (q179 [1,1,1,1,2]) [] ts h fun x ds' ts' h'=>ds'=[]∧((x=.exit 2∧2+jr+gr * sz≤b∧h.next≤h'.next∧∀ m,m<h.next→h'.get m=h.get m) ∨
   (x=.ret∧∃ k0 q,k0<gr∧q<4∧grpE sz ino jr k0 q≤b∧b<grpE sz ino jr k0 (q+1)∧WAns l p4 p5 p6 d tl (grpP sz ino jr k0 q).1 k0 (b - grpE sz ino jr k0 0) h h')):=by
 have F':=F
 obtain⟨g1,g2,g3,g4,g5,g6,g7,g8,g9,g10,g11⟩:=F'
 intro m
 induction m with
 | zero =>
  intro k ts h hk hb W e0 e1 e3 e31 e32
  obtain rfl:k=gr:=by omega
  refine Goes.loopQ q179_11112 (Goes.loop ?_)
  refine Goes.seqQ q179_111122 ?_
  refine Goes.opsQ q179_1111220 fits Hh E0_sound (by
   simp (maxSteps:=9^6) +decide (disch:=first|omega|(simp only[lens]<;>omega)|decide) only [go_sem,q179,Tryz.f179,readRow,loadIn,simprocAttr,e31,e32]
   rfl) ?_
  refine Goes.seqQ q179_1111221 ?_
  refine Goes.condFQ q179_11112210 (by simp (maxSteps:=9^6) +decide (disch:=first|omega|(simp only[lens]<;>omega)|decide) only [go_sem,readRow,loadIn,simprocAttr,e31,e32]<;>rfl) (by first|rfl|assumption|exact decide_eq_false (by omega)|(simp; omega)) ?_
  refine Goes.exitQ q179_111122104 ?_
  exact⟨rfl,.inl ⟨rfl,hb,Nat.le_refl _,fun _ _=>rfl⟩⟩
 | succ m ih =>
  intro k ts h hk hb W e0 e1 e3 e31 e32
  have hk0:k<gr:=by omega
  have gm:(k:Int) * (sz:Int)=((k * sz:Nat):Int):=rfl
  have b1:k * sz≤gr * sz:=Nat.mul_le_mul (by omega) (by omega)
  have n1:(2:Int)+(jr:Int)=((2+jr:Nat):Int):=rfl
  have n2:((2+jr:Nat):Int)+((k * sz:Nat):Int)=((2+jr+k * sz:Nat):Int):=rfl
  have n3:((2+jr+k * sz:Nat):Int)+1=((2+jr+k * sz+1:Nat):Int):=rfl
  have n4:((2+jr+k * sz:Nat):Int)+2=((2+jr+k * sz+2:Nat):Int):=rfl
  have n5:((2+jr+k * sz+2:Nat):Int)+((ino / 4:Nat):Int)=((2+jr+k * sz+2+ino / 4:Nat):Int):=rfl
  have n6:(sz:Int) - 2=((sz - 2:Nat):Int):=by omega
  have n7:((sz - 2:Nat):Int) - ((ino / 4:Nat):Int)=((sz - 2 - ino / 4:Nat):Int):=by omega
  have n8:(2:Int)+((ino / 4:Nat):Int)=((2+ino / 4:Nat):Int):=rfl
  have hg:=W.hg
  have bg:=W.bg
  have bl:=W.bl
  refine Goes.loopQ q179_11112 (Goes.loop ?_)
  refine Goes.seqQ q179_111122 ?_
  refine Goes.opsQ q179_1111220 fits Hh E0_sound (by
   simp (maxSteps:=9^6) +decide (disch:=first|omega|(simp only[lens]<;>omega)|decide) only [go_sem,q179,Tryz.f179,loadIn,simprocAttr,e0,e1,e3,e31,e32,hg,geoL,gm,n1,n2,n3,n4,n5,n6,n7,n8,buP4,wrP,rdP,read1]
   rfl) ?_
  refine Goes.seqQ q179_1111221 ?_
  refine Goes.condTQ q179_11112210 (by simp (maxSteps:=9^6) +decide (disch:=first|omega|(simp only[lens]<;>omega)|decide) only [go_sem,loadIn,simprocAttr,e0,e1,e3,e31,e32,hg,geoL,gm,n1,n2,n3,n4,n5,n6,n7,n8,buP4,wrP,rdP,read1]<;>rfl) (by first|rfl|assumption|exact decide_eq_true (by omega)|(simp; omega)) ?_
  refine Goes.skipQ q179_111122103 ?_
  refine Goes.seqQ q179_11112211 ?_
  refine Goes.blockQ q179_111122110 (Goes.block ?_)
  refine Goes.seqQ q179_1111221102 ?_
  refine Goes.opsQ q179_11112211020 fits Hh E0_sound (by
   simp (maxSteps:=9^6) +decide (disch:=first|omega|(simp only[lens]<;>omega)|decide) only [go_sem,q179,Tryz.f179,loadIn,simprocAttr,e0,e1,e3,e31,e32,hg,geoL,gm,n1,n2,n3,n4,n5,n6,n7,n8,buP4,wrP,rdP,read1]
   rfl) ?_
  refine Goes.seqQ q179_11112211021 ?_
  refine Goes.opsQ q179_111122110210 fits Hh E0_sound (by
   simp (maxSteps:=9^6) +decide (disch:=first|omega|(simp only[lens]<;>omega)|decide) only [go_sem,q179,Tryz.f179,loadIn,simprocAttr,e0,e1,e3,e31,e32,hg,geoL,gm,n1,n2,n3,n4,n5,n6,n7,n8,buP4,wrP,rdP,read1]
   rfl) ?_
  refine Goes.seqQ q179_111122110211 ?_
  refine Goes.opsQ q179_1111221102110 fits Hh E0_sound (by
   simp only[q179,Tryz.f179,piece,part0,part1,part2,part2l,part3,part4,part5,part6,bodyOf,opsA]
   iterate 28 (refine evOps_step (by simp (maxSteps:=9^6) +decide (disch:=first|omega|(simp only[lens]<;>omega)|decide) only [go_sem,loadIn,simprocAttr,e0,e1,e3,e31,e32,hg,geoL,gm,n1,n2,n3,n4,n5,n6,n7,n8,buP4,wrP,rdP,read1]<;>rfl) ?_)
   exact evOps_done) ?_
  refine Goes.seqQ q179_1111221102111 ?_
  refine Goes.opsQ q179_11112211021110 fits Hh E0_sound (by
   simp (maxSteps:=9^6) +decide (disch:=first|omega|(simp only[lens]<;>omega)|decide) only [go_sem,q179,Tryz.f179,loadIn,simprocAttr,e0,e1,e3,e31,e32,hg,geoL,gm,n1,n2,n3,n4,n5,n6,n7,n8,buP4,wrP,rdP,read1]
   rfl) ?_
  refine Goes.blockQ q179_11112211021111 (Goes.block ?_)
  refine (partsIn Hh F s6 hk0 4 0 _ _ (by omega) (by show 2+jr+k * sz≤b; omega) (W.move ?_ ?_) ?_ ?_ ?_).mono ?_
  ·simp only[H.next_put,H.next_new]<;>omega
  ·intro m' hm
   rw[get_put_ne (by omega),get_new_ne (by omega)]
  ·simp (decide:=true) only [evalT_set,reduceIte,e0]
  ·simp (decide:=true) only [evalT_set,reduceIte]<;>rfl
  ·simp (decide:=true) only [evalT_set,reduceIte]<;>rfl
  rintro x ds' ts' h' ⟨rfl,tsk,⟨rfl,y1,y2,y3⟩|⟨rfl,q,y1,y2,y3,y4⟩⟩
  ·have f0:evalT ts' 0=.w (.c (.yield l)):=(tsk 0 (.inl (by decide))).trans (by simp (decide:=true) only [evalT_set,reduceIte,e0])
   have f1:evalT ts' 1=.w (.c (.ptr pg 0)):=(tsk 1 (.inl (by decide))).trans (by simp (decide:=true) only [evalT_set,reduceIte,e1])
   have f3:evalT ts' 3=.w (.c (.int .i64 ((ino / 4:Nat):Int))):=(tsk 3 (.inl (by decide))).trans (by simp (decide:=true) only [evalT_set,reduceIte,e3])
   have f31:evalT ts' 31=.w (.c (.int .i64 gr)):=(tsk 31 (.inr (.inl rfl))).trans (by simp (decide:=true) only [evalT_set,reduceIte,e31])
   have f32:evalT ts' 32=.w (.c (.int .i64 k)):=(tsk 32 (.inr (.inr rfl))).trans (by simp (decide:=true) only [evalT_set,reduceIte,e32])
   simp only[H.next_put,H.next_new] at y2 y3
   have y4:∀ m,m<h.next→h'.get m=h.get m:=fun m' hm=>by
    rw[y3 m' (by omega),get_put_ne (by omega),get_new_ne (by omega)]
   have mu:(k+1) * sz=k * sz+sz:=by rw[Nat.add_mul,Nat.one_mul]
   refine Goes.opsQ q179_111122111 fits Hh E0_sound (by
    simp (maxSteps:=9^6) +decide (disch:=first|omega|(simp only[lens]<;>omega)|decide) only [go_sem,q179,Tryz.f179,readRow,loadIn,simprocAttr,f0,f1,f3,f31,f32]
    rfl) ?_
   show Goes K Tryz.prog 79 none (.loop (q179 [1,1,1,1,2,2])) _ _ _ _
   rw[←q179_11112]
   refine (ih (k+1) _ h' (by omega) (by omega) (W.move (by omega) y4) ?_ ?_ ?_ ?_ ?_).mono ?_
   ·simp (decide:=true) only [evalT_set,reduceIte,f0]
   ·simp (decide:=true) only [evalT_set,reduceIte,f1]
   ·simp (decide:=true) only [evalT_set,reduceIte,f3]
   ·simp (decide:=true) only [evalT_set,reduceIte,f31]
   ·simp (decide:=true) only [evalT_set,reduceIte]<;>rfl
   rintro x ds' ts2 h2 ⟨z1,z3⟩
   refine⟨z1,?_⟩
   rcases z3 with ⟨rfl,z4,z5,z6⟩|⟨rfl,k0,q,z4,z5,z6,z7,z8⟩
   ·exact .inl ⟨rfl,z4,by omega,fun m' hm=>(z6 m' (by omega)).trans (y4 m' hm)⟩
   ·exact .inr ⟨rfl,k0,q,z4,z5,z6,z7,z8.back (by omega) y4⟩
  ·exact⟨rfl,.inr ⟨rfl,k,q,hk0,y1,y2,y3,y4.back (by simp only[H.next_put,H.next_new]<;>omega) (fun m' hm=>by rw[get_put_ne (by omega),get_new_ne (by omega)])⟩⟩
def whatN (gr sz ino jr b:Nat):Nat × Nat × Nat :=
 if b=0 then (1,0,0) else if b=1 then (2,0,0) else if b<2+jr then (3,0,b - 2) else if 2+jr+gr * sz≤b then (0,0,0)
 else ((if (b - 2 - jr) % sz=0 then 4 else if (b - 2 - jr) % sz=1 then 5 else if (b - 2 - jr) % sz<2+ino / 4 then 6 else 7),(b - 2 - jr) / sz,(b - 2 - jr) % sz)
omit Hh in
theorem whatN_head {gr sz ino jr b q:Nat} (F:Fine gr sz ino jr) (hq:q<3) (h1:headE jr q≤b) (h2:b<headE jr (q+1)):whatN gr sz ino jr b=((headP jr q).1,0,b - headE jr q):=by
 obtain⟨g1,g2,g3,g4,g5,g6,g7,g8,g9,g10,g11⟩:=F
 have:q=0∨q=1∨q=2:=by omega
 unfold whatN
 rcases this with rfl|rfl|rfl<;>simp only[headE,headP,Nat.reduceAdd] at h1 h2 ⊢
 ·obtain rfl:b=0:=by omega
  rfl
 ·obtain rfl:b=1:=by omega
  rfl
 ·rw[if_neg (by omega),if_neg (by omega),if_pos (by omega)]
omit Hh in
theorem whatN_group {gr sz ino jr b k q:Nat} (F:Fine gr sz ino jr) (hk:k<gr) (hq:q<4) (h1:grpE sz ino jr k q≤b) (h2:b<grpE sz ino jr k (q+1)):whatN gr sz ino jr b=((grpP sz ino jr k q).1,k,b - grpE sz ino jr k 0):=by
 obtain⟨g1,g2,g3,g4,g5,g6,g7,g8,g9,g10,g11⟩:=F
 have m1:k * sz+sz≤gr * sz:=by
  have:=Nat.mul_le_mul_right sz (show k+1≤gr by omega)
  rw[Nat.add_mul] at this
  omega
 have e0:grpE sz ino jr k 0=2+jr+k * sz:=rfl
 have r1:2+jr+k * sz≤b∧b<2+jr+k * sz+sz:=by
  have:q=0∨q=1∨q=2∨q=3:=by omega
  rcases this with rfl|rfl|rfl|rfl<;>simp only[grpE,Nat.reduceAdd] at h1 h2<;>omega
 obtain⟨p,hp⟩:∃ p,b=2+jr+k * sz+p:=⟨b - (2+jr+k * sz),by omega⟩
 have hps:p<sz:=by omega
 have d1:b - 2 - jr=p+k * sz:=by omega
 have d2:(b - 2 - jr) / sz=k:=by rw[d1,Nat.add_mul_div_right _ _ (by omega),Nat.div_eq_of_lt hps,Nat.zero_add]
 have d3:(b - 2 - jr) % sz=p:=by rw[d1,Nat.add_mul_mod_self_right,Nat.mod_eq_of_lt hps]
 unfold whatN
 rw[if_neg (by omega),if_neg (by omega),if_neg (by omega),if_neg (by omega),d2,d3,e0]
 have:q=0∨q=1∨q=2∨q=3:=by omega
 rcases this with rfl|rfl|rfl|rfl<;>simp only[grpE,grpP,Nat.reduceAdd] at h1 h2 ⊢
 ·rw[if_pos (by omega)]; congr 2; omega
 ·rw[if_neg (by omega),if_pos (by omega)]; congr 2; omega
 ·rw[if_neg (by omega),if_neg (by omega),if_pos (by omega)]; congr 2; omega
 ·rw[if_neg (by omega),if_neg (by omega),if_neg (by omega)]; congr 2; omega
end
end Go.Proofs.YtlbbmhgdcdcdnaaGreatDoor
set_option maxRecDepth 100000
namespace Go.Proofs.YtlbbmhgdcdcdnaaGreatDoor
open Go.Ev
section
variable (Hh:Hearts K Tryz.prog)
include Hh
theorem gPartsOk (gr sz ino jr:Nat) (h:Go.Ev.H):CallOk K Tryz.prog 147 [.g (geoL gr sz ino jr)] h (.w (.c (.fn 179 [] [some (h.next,0)]))) (h.new (.row 4 [geoL gr sz ino jr] false)):=by
 refine CallOk.goes fits Hh (by kernel_rfl) (by kernel_rfl) (by kernel_rfl) (show Tryz.f147.body=some (q147 []) by kernel_rfl) rfl ?_
 show Goes K Tryz.prog 4 none _ _ _ _ _
 refine Goes.seqQ q147_ ?_
 refine Goes.opsQ q147_0 fits Hh E0_sound (by
  simp (maxSteps:=9^6) +decide (disch:=first|omega|(simp only[lens]<;>omega)|decide) only [go_sem,q147,Tryz.f147,readRow,loadIn,simprocAttr,opBox,geoL]
  rfl) ?_
 refine Goes.seqQ q147_1 ?_
 refine Goes.opsQ q147_10 fits Hh E0_sound (by
  simp (maxSteps:=9^6) +decide (disch:=first|omega|(simp only[lens]<;>omega)|decide) only [go_sem,q147,Tryz.f147,readRow,loadIn,simprocAttr,opBox,geoL]
  rfl) ?_
 refine Goes.retQ q147_11 ?_
 simp (maxSteps:=9^6) +decide (disch:=first|omega|(simp only[lens]<;>omega)|decide) only [go_sem,readRow,loadIn,simprocAttr,opBox,geoL]<;>rfl
set_option maxHeartbeats 4000000 in
theorem partsOk {l pb p4 p5 p6 pg gr sz ino jr b d:Nat} {tl:Tmps} (F:Fine gr sz ino jr) (s6:b<9223372036854775808) {h:Go.Ev.H} (W:WCtx l pb p4 p5 p6 pg gr sz ino jr b d tl h) :
  ∃ v h',CallOk K Tryz.prog 179 [.c (.yield l),.c (.ptr pg 0)] h v h'∧((2+jr+gr * sz≤b∧h.next≤h'.next∧∀ m,m<h.next→h'.get m=h.get m)∨WAns l p4 p5 p6 d tl (whatN gr sz ino jr b).1 (whatN gr sz ino jr b).2.1 (whatN gr sz ino jr b).2.2 h h'):=by
 have F':=F
 obtain⟨g1,g2,g3,g4,g5,g6,g7,g8,g9,g10,g11⟩:=F'
 have hg:=W.hg
 have bg:=W.bg
 have bl:=W.bl
 have q1:opQuo .i64 (ino:Int) 4=some (.int .i64 ((ino / 4:Nat):Int)):=quo_nat (b:=4) (by omega) (by omega)
 refine CallOk.goesE fits Hh (by kernel_rfl) (by kernel_rfl) (by kernel_rfl) (show Tryz.f179.body=some (q179 []) by kernel_rfl) rfl ?_
 show Goes K Tryz.prog 79 none _ _ _ _ _
 refine Goes.seqQ q179_ ?_
 refine Goes.opsQ q179_0 fits Hh E0_sound (by
  simp (maxSteps:=9^6) +decide (disch:=first|omega|(simp only[lens]<;>omega)|decide) only [go_sem,q179,Tryz.f179,loadIn,simprocAttr,hg,geoL,q1,buP3,wrP,rdP,read1]
  rfl) ?_
 refine Goes.seqQ q179_1 ?_
 refine Goes.opsQ q179_10 fits Hh E0_sound (by
  simp (maxSteps:=9^6) +decide (disch:=first|omega|(simp only[lens]<;>omega)|decide) only [go_sem,q179,Tryz.f179,loadIn,simprocAttr,hg,geoL,q1,buP3,wrP,rdP,read1]
  rfl) ?_
 refine Goes.seqQ q179_11 ?_
 refine Goes.seqQ q179_110 ?_
 refine Goes.opsQ q179_1100 fits Hh E0_sound (by
  simp (maxSteps:=9^6) +decide (disch:=first|omega|(simp only[lens]<;>omega)|decide) only [go_sem,q179,Tryz.f179,loadIn,simprocAttr,hg,geoL,q1,buP3,wrP,rdP,read1]
  rfl) ?_
 refine Goes.blockQ q179_1101 (Goes.block ?_)
 refine (partsHead Hh F s6 3 0 _ _ (by omega) (Nat.zero_le _) (W.move ?_ ?_) ?_ ?_ ?_).mono ?_
 ·simp only[H.next_put,H.next_new]<;>omega
 ·intro m' hm
  rw[get_put_ne (by omega),get_new_ne (by omega)]
 ·simp (decide:=true) only [evalT_set,reduceIte,evalT_args,List.getElem?_cons_zero]
 ·simp (decide:=true) only [evalT_set,reduceIte]<;>rfl
 ·simp (decide:=true) only [evalT_set,reduceIte]<;>rfl
 rintro x ds' ts' h' ⟨rfl,tsk,⟨rfl,y1,y2,y3⟩|⟨rfl,q,y1,y2,y3,y4⟩⟩
 ·have f0:evalT ts' 0=.w (.c (.yield l)):=(tsk 0 (by decide)).trans (by simp (decide:=true) only [evalT_set,reduceIte,evalT_args,List.getElem?_cons_zero])
  have f1:evalT ts' 1=.w (.c (.ptr pg 0)):=(tsk 1 (by decide)).trans (by simp (decide:=true) only [evalT_set,reduceIte,evalT_args,List.getElem?_cons_succ,List.getElem?_cons_zero])
  have f3:evalT ts' 3=.w (.c (.int .i64 ((ino / 4:Nat):Int))):=(tsk 3 (by decide)).trans (by simp (decide:=true) only [evalT_set,reduceIte])
  simp only[H.next_put,H.next_new] at y2 y3
  have y4:∀ m,m<h.next→h'.get m=h.get m:=fun m' hm=>by
   rw[y3 m' (by omega),get_put_ne (by omega),get_new_ne (by omega)]
  have W2:=W.move (by omega) y4
  have hg2:=W2.hg
  refine Goes.seqQ q179_111 ?_
  refine Goes.opsQ q179_1110 fits Hh E0_sound (by
   simp (maxSteps:=9^6) +decide (disch:=first|omega|(simp only[lens]<;>omega)|decide) only [go_sem,q179,Tryz.f179,readRow,loadIn,simprocAttr,f0,f1,f3,hg2,geoL,read1]
   rfl) ?_
  refine Goes.blockQ q179_1111 (Goes.block ?_)
  refine (partsAll Hh F s6 gr 0 _ _ (by omega) (by omega) W2 ?_ ?_ ?_ ?_ ?_).mono ?_
  ·simp (decide:=true) only [evalT_set,reduceIte,f0]
  ·simp (decide:=true) only [evalT_set,reduceIte,f1]
  ·simp (decide:=true) only [evalT_set,reduceIte,f3]
  ·simp (decide:=true) only [evalT_set,reduceIte]
  ·simp (decide:=true) only [evalT_set,reduceIte]<;>rfl
  rintro x ds' ts2 h2 ⟨rfl,⟨rfl,z4,z5,z6⟩|⟨rfl,k0,q,z4,z5,z6,z7,z8⟩⟩
  ·
   exact⟨_,_,(by simp (maxSteps:=9^6) +decide (disch:=first|omega|(simp only[lens]<;>omega)|decide) only [go_sem,readRow,loadIn,simprocAttr]<;>rfl),.inl ⟨z4,by omega,fun m hm=>(z6 m (by omega)).trans (y4 m hm)⟩⟩
  ·refine⟨_,_,(by simp (maxSteps:=9^6) +decide (disch:=first|omega|(simp only[lens]<;>omega)|decide) only [go_sem,readRow,loadIn,simprocAttr]<;>rfl),.inr ?_⟩
   rw[whatN_group F z4 z5 z6 z7]
   exact z8.back (by omega) y4
 ·refine⟨_,_,(by simp (maxSteps:=9^6) +decide (disch:=first|omega|(simp only[lens]<;>omega)|decide) only [go_sem,readRow,loadIn,simprocAttr]<;>rfl),.inr ?_⟩
  rw[whatN_head F y1 y2 y3]
  exact y4.back (by simp only[H.next_put,H.next_new]<;>omega) (fun m hm=>by rw[get_put_ne (by omega),get_new_ne (by omega)])
theorem whatLoop {gr sz ino jr b pb p4 p5 p6 pg:Nat} (F:Fine gr sz ino jr) (s6:b<9223372036854775808) (ts:Tmps) (h:Go.Ev.H) (d1:p4≠p5) (d2:p4≠p6) (d3:p5≠p6) (d4:pb≠p4) (d5:pb≠p5) (d6:pb≠p6) (b4:p4<h.next) (b5:p5<h.next) (b6:p6<h.next) (bb:pb<h.next) (bg:pg<h.next)
  (e3:evalT ts 3=.w (.c (.ptr pb 0))) (e4:evalT ts 4=.w (.c (.ptr p4 0))) (e5:evalT ts 5=.w (.c (.ptr p5 0))) (e6:evalT ts 6=.w (.c (.ptr p6 0))) (e16:evalT ts 16=.w (.c (.fn 179 [] [some (pg,0)])))
  (hb:h.get pb=some (.row 1 [[.int .i64 b]] false)) (r4:∃ x,h.get p4=some (.row 1 [[x]] false)) (r5:∃ x,h.get p5=some (.row 1 [[x]] false)) (r6:∃ x,h.get p6=some (.row 1 [[x]] false)) (hg:h.get pg=some (.row 4 [geoL gr sz ino jr] false)) :
  Goes K Tryz.prog 36 none (q114 [1,1,0,1,2]) [] ts h fun x ds' ts' h'=>ts'=ts∧ds'=[h.next]∧h'.get h.next=some .defers∧((x=.normal∧whatN gr sz ino jr b=(0,0,0)∧∀ m,m<h.next→h'.get m=h.get m) ∨
   (x=.ret∧h'.get p4=some (.row 1 [[.int .u8 (whatN gr sz ino jr b).1]] false)∧h'.get p5=some (.row 1 [[.int .i64 (whatN gr sz ino jr b).2.1]] false)∧h'.get p6=some (.row 1 [[.int .i64 (whatN gr sz ino jr b).2.2]] false)∧∀ m,m<h.next→m≠p4→m≠p5→m≠p6→h'.get m=h.get m)):=by
 have g0:∀ (o:O) m,m<h.next→((h.new .defers).new o).get m=h.get m:=fun o m hm=>by rw[get_new_ne (by rw[H.next_new]; omega),get_new_ne (by omega)]
 have W:WCtx (h.next+1) pb p4 p5 p6 pg gr sz ino jr b h.next ts ((h.new .defers).new (.loop ts 36 [17] (q114 [1,1,0,1,2,5]) (q114 [1,1,0,1,2,6]) .ready none h.next)) :=
  ⟨d1,d2,d3,d4,d5,d6,by omega,by omega,by omega,by omega,by simp only[H.next_new]; omega,by simp only[H.next_new]; omega,by simp only[H.next_new]; omega,by simp only[H.next_new]; omega,by simp only[H.next_new]; omega,by simp only[H.next_new]; omega,e3,e4,e5,e6,
   by rw[get_new_eq (by simp only[H.next_new]<;>omega)],by rw[g0 _ _ bb]; exact hb,by rw[g0 _ _ b4]; exact r4,by rw[g0 _ _ b5]; exact r5,by rw[g0 _ _ b6]; exact r6,by rw[g0 _ _ bg]; exact hg⟩
 have gd:∀ o:O,((h.new .defers).new o).get h.next=some .defers:=fun o=>by rw[get_new_ne (by rw[H.next_new]; omega),get_new_self]
 rw[q114_11012]
 refine Goes.rangeE fits Hh (f:=179) (first:=[]) (caps:=[some (pg,0)]) (by simp only[evalC,evalO_tmp,e16,asC]) (exE (partsOk Hh F s6 W) ?_)
 rintro v h3 (⟨w1,w2,w3⟩|A)
 ·simp only[H.next_new] at w2 w3
  have hN:whatN gr sz ino jr b=(0,0,0):=by
   obtain⟨g1,g2,g3,g4,g5,g6,g7,g8,g9,g10,g11⟩:=F
   unfold whatN
   rw[if_neg (by omega),if_neg (by omega),if_neg (by omega),if_pos w1]
  refine⟨_,_,_,_,_,_,_,_,(w3 _ (by omega)).trans W.hl,by simp,?_⟩
  show _∧_∧_
  refine⟨rfl,rfl,?_,.inl ⟨rfl,hN,fun m hm=>?_⟩⟩
  ·rw[get_put_ne (by omega),w3 _ (by omega),gd]
  ·rw[get_put_ne (by omega),w3 _ (by omega),g0 _ _ hm]
 ·have kp:=A.keep
  simp only[H.next_new] at kp
  refine⟨_,_,_,_,_,_,_,_,A.hl,by simp,?_⟩
  show _∧_∧_
  refine⟨rfl,rfl,?_,.inr ⟨rfl,?_,?_,?_,fun m hm n4 n5 n6=>?_⟩⟩
  ·rw[get_put_ne (by omega),kp _ (by omega) (by omega) (by omega) (by omega) (by omega),gd]
  ·rw[get_put_ne (by omega),A.r4]
  ·rw[get_put_ne (by omega),A.r5]
  ·rw[get_put_ne (by omega),A.r6]
  ·rw[get_put_ne (by omega),kp _ (by omega) (by omega) n4 n5 n6,g0 _ _ hm]
set_option maxHeartbeats 4000000 in
theorem whatOk {gr sz ino jr:Nat} (F:Fine gr sz ino jr) (h:Go.Ev.H) (b:Nat) (s6:b<9223372036854775808):CallOk K Tryz.prog 114 [.g (geoL gr sz ino jr),.c (.int .i64 b)] h (.tup [.c (.int .u8 ((whatN gr sz ino jr b).1:Nat)),.c (.int .i64 ((whatN gr sz ino jr b).2.1:Nat)),.c (.int .i64 ((whatN gr sz ino jr b).2.2:Nat))]) h:=by
 obtain⟨v,h',c,rfl,hk⟩:∃ v h',CallOk K Tryz.prog 114 [.g (geoL gr sz ino jr),.c (.int .i64 b)] h v h'∧v=.tup [.c (.int .u8 ((whatN gr sz ino jr b).1:Nat)),.c (.int .i64 ((whatN gr sz ino jr b).2.1:Nat)),.c (.int .i64 ((whatN gr sz ino jr b).2.2:Nat))]∧∀ m,m<h.next→h'.get m=h.get m:=by
  refine CallOk.goesE fits Hh (by kernel_rfl) (by kernel_rfl) (by kernel_rfl) (show Tryz.f114.body=some (q114 []) by kernel_rfl) rfl ?_
  show Goes K Tryz.prog 36 none _ _ _ _ _
  refine Goes.seqQ q114_ ?_
  refine Goes.opsQ q114_0 fits Hh E0_sound (by
   simp (maxSteps:=9^6) +decide (disch:=first|omega|(simp only[lens]<;>omega)|decide) only [go_sem,q114,Tryz.f114,readRow,loadIn,simprocAttr,geoL,read1,opBox]
   rfl) ?_
  refine Goes.seqQ q114_1 ?_
  refine Goes.seqQ q114_10 ?_
  refine Goes.opsQ q114_100 fits Hh (EA_sound E0_sound (gMayOk Hh F)) (by
   simp (maxSteps:=9^6) +decide (disch:=first|omega|(simp only[lens]<;>omega)|decide) only [go_sem,q114,Tryz.f114,readRow,loadIn,simprocAttr,geoL,read1,opBox]
   rfl) ?_
  refine Goes.condFQ q114_101 (by simp (maxSteps:=9^6) +decide (disch:=first|omega|(simp only[lens]<;>omega)|decide) only [go_sem,readRow,loadIn,simprocAttr,geoL,read1,opBox]<;>rfl) (by first|rfl|assumption|exact decide_eq_false (by omega)|(simp; omega)) ?_
  refine Goes.skipQ q114_1014 ?_
  refine Goes.seqQ q114_11 ?_
  refine Goes.seqQ q114_110 ?_
  refine Goes.opsQ q114_1100 fits Hh (EA_sound E0_sound (gPartsOk Hh gr sz ino jr)) (by
   simp (maxSteps:=9^6) +decide (disch:=first|omega|(simp only[lens]<;>omega)|decide) only [go_sem,q114,Tryz.f114,readRow,loadIn,simprocAttr,geoL,read1,opBox]
   rfl) ?_
  refine Goes.blockQ q114_1101 (Goes.block ?_)
  refine (whatLoop Hh F s6 _ _ (pb:=h.next+1) (p4:=h.next+1+1) (p5:=h.next+1+1+1) (p6:=h.next+1+1+1+1) (pg:=h.next+1+1+1+1+1) (by omega) (by omega) (by omega) (by omega) (by omega) (by omega) (by simp only[H.next_new]<;>omega) (by simp only[H.next_new]<;>omega) (by simp only[H.next_new]<;>omega) (by simp only[H.next_new]<;>omega) (by simp only[H.next_new]<;>omega) (by simp (maxSteps:=9^6) +decide (disch:=first|omega|(simp only[lens]<;>omega)|decide) only [go_sem,readRow,loadIn,simprocAttr]) (by simp (maxSteps:=9^6) +decide (disch:=first|omega|(simp only[lens]<;>omega)|decide) only [go_sem,readRow,loadIn,simprocAttr]) (by simp (maxSteps:=9^6) +decide (disch:=first|omega|(simp only[lens]<;>omega)|decide) only [go_sem,readRow,loadIn,simprocAttr]) (by simp (maxSteps:=9^6) +decide (disch:=first|omega|(simp only[lens]<;>omega)|decide) only [go_sem,readRow,loadIn,simprocAttr]) (by simp (maxSteps:=9^6) +decide (disch:=first|omega|(simp only[lens]<;>omega)|decide) only [go_sem,readRow,loadIn,simprocAttr]) (by simp (maxSteps:=9^6) +decide (disch:=first|omega|(simp only[lens]<;>omega)|decide) only [go_sem,readRow,loadIn,simprocAttr]) ⟨_,by simp (maxSteps:=9^6) +decide (disch:=first|omega|(simp only[lens]<;>omega)|decide) only [go_sem,readRow,loadIn,simprocAttr]<;>rfl⟩ ⟨_,by simp (maxSteps:=9^6) +decide (disch:=first|omega|(simp only[lens]<;>omega)|decide) only [go_sem,readRow,loadIn,simprocAttr]<;>rfl⟩ ⟨_,by simp (maxSteps:=9^6) +decide (disch:=first|omega|(simp only[lens]<;>omega)|decide) only [go_sem,readRow,loadIn,simprocAttr]<;>rfl⟩ (by simp (maxSteps:=9^6) +decide (disch:=first|omega|(simp only[lens]<;>omega)|decide) only [go_sem,readRow,loadIn,simprocAttr]<;>rfl)).mono ?_
  rintro x ds' ts' h' ⟨rfl,rfl,gd,⟨rfl,hN,kp⟩|⟨rfl,r4,r5,r6,kp⟩⟩
  ·simp only[H.next_new] at gd kp
   have k4:=(kp (h.next+1+1) (by omega)).trans (show _=some (.row 1 [[.int .u8 0]] false) by simp (maxSteps:=9^6) +decide (disch:=first|omega|(simp only[lens]<;>omega)|decide) only [go_sem,readRow,loadIn,simprocAttr])
   have k5:=(kp (h.next+1+1+1) (by omega)).trans (show _=some (.row 1 [[.int .i64 0]] false) by simp (maxSteps:=9^6) +decide (disch:=first|omega|(simp only[lens]<;>omega)|decide) only [go_sem,readRow,loadIn,simprocAttr])
   have k6:=(kp (h.next+1+1+1+1) (by omega)).trans (show _=some (.row 1 [[.int .i64 0]] false) by simp (maxSteps:=9^6) +decide (disch:=first|omega|(simp only[lens]<;>omega)|decide) only [go_sem,readRow,loadIn,simprocAttr])
   refine Goes.seqQ q114_111 ?_
   refine Goes.opsQ q114_1110 fits Hh E0_sound (by
    simp (maxSteps:=9^6) +decide (disch:=first|omega|(simp only[lens]<;>omega)|decide) only [go_sem,q114,Tryz.f114,readRow,loadIn,simprocAttr,k4,k5,k6,gd,read1,writeRow]
    rfl) ?_
   refine Goes.retQ q114_1111 ?_
   refine⟨_,_,(by simp (maxSteps:=9^6) +decide (disch:=first|omega|(simp only[lens]<;>omega)|decide) only [go_sem,readRow,loadIn,simprocAttr,gd,read1]<;>rfl),by rw[hN]<;>rfl,fun m hm=>?_⟩
   simp (maxSteps:=9^6) +decide (disch:=first|omega|(simp only[lens]<;>omega)|decide) only [go_sem,readRow,loadIn,simprocAttr]
   rw[kp m (by omega)]
   simp (maxSteps:=9^6) +decide (disch:=first|omega|(simp only[lens]<;>omega)|decide) only [go_sem,readRow,loadIn,simprocAttr]
  ·simp only[H.next_new] at gd kp
   refine⟨_,_,(by simp (maxSteps:=9^6) +decide (disch:=first|omega|(simp only[lens]<;>omega)|decide) only [go_sem,readRow,loadIn,simprocAttr,gd,r4,r5,r6,read1]<;>rfl),rfl,fun m hm=>?_⟩
   simp (maxSteps:=9^6) +decide (disch:=first|omega|(simp only[lens]<;>omega)|decide) only [go_sem,readRow,loadIn,simprocAttr]
   rw[kp m (by omega) (by omega) (by omega) (by omega)]
   simp (maxSteps:=9^6) +decide (disch:=first|omega|(simp only[lens]<;>omega)|decide) only [go_sem,readRow,loadIn,simprocAttr]
 exact CallOk.quiet c rfl hk
theorem whatNeg {gr sz ino jr:Nat} (F:Fine gr sz ino jr) (h:Go.Ev.H) (z:Int) (hz:z<0):CallOk K Tryz.prog 114 [.g (geoL gr sz ino jr),.c (.int .i64 z)] h (.tup [.c (.int .u8 0),.c (.int .i64 0),.c (.int .i64 0)]) h:=by
 obtain⟨v,h',c,rfl,hk⟩:∃ v h',CallOk K Tryz.prog 114 [.g (geoL gr sz ino jr),.c (.int .i64 z)] h v h'∧v=.tup [.c (.int .u8 0),.c (.int .i64 0),.c (.int .i64 0)]∧∀ m,m<h.next→h'.get m=h.get m:=by
  refine CallOk.goesE fits Hh (by kernel_rfl) (by kernel_rfl) (by kernel_rfl) (show Tryz.f114.body=some (q114 []) by kernel_rfl) rfl ?_
  show Goes K Tryz.prog 36 none _ _ _ _ _
  refine Goes.seqQ q114_ ?_
  refine Goes.opsQ q114_0 fits Hh E0_sound (by
   simp (maxSteps:=9^6) +decide (disch:=first|omega|(simp only[lens]<;>omega)|decide) only [go_sem,q114,Tryz.f114,readRow,loadIn,simprocAttr,geoL,read1,opBox,writeRow]
   rfl) ?_
  refine Goes.seqQ q114_1 ?_
  refine Goes.seqQ q114_10 ?_
  refine Goes.opsQ q114_100 fits Hh (EA_sound E0_sound (gMayOk Hh F)) (by
   simp (maxSteps:=9^6) +decide (disch:=first|omega|(simp only[lens]<;>omega)|decide) only [go_sem,q114,Tryz.f114,readRow,loadIn,simprocAttr,geoL,read1,opBox,writeRow]
   rfl) ?_
  refine Goes.condTQ q114_101 (by simp (maxSteps:=9^6) +decide (disch:=first|omega|(simp only[lens]<;>omega)|decide) only [go_sem,readRow,loadIn,simprocAttr,geoL,read1,opBox,writeRow]<;>rfl) (by first|rfl|assumption|exact decide_eq_true (by omega)|(simp; omega)) ?_
  refine Goes.seqQ q114_1013 ?_
  refine Goes.opsQ q114_10130 fits Hh E0_sound (by
   simp (maxSteps:=9^6) +decide (disch:=first|omega|(simp only[lens]<;>omega)|decide) only [go_sem,q114,Tryz.f114,readRow,loadIn,simprocAttr,geoL,read1,opBox,writeRow]
   rfl) ?_
  refine Goes.retQ q114_10131 ?_
  refine⟨_,_,(by simp (maxSteps:=9^6) +decide (disch:=first|omega|(simp only[lens]<;>omega)|decide) only [go_sem,readRow,loadIn,simprocAttr,read1]<;>rfl),rfl,fun m hm=>by (first|(simp (discharger:=omega) only [H.get_put,H.get_new,H.get_del,H.next_new,H.next_put,H.next_del,if_neg]; done)|(simp only[H.get_put,H.get_new,H.get_del,H.next_new,H.next_put,H.next_del]; (repeat' split)<;>first|rfl|(exfalso; omega)|omega))⟩
 exact CallOk.quiet c rfl hk
end
end Go.Proofs.YtlbbmhgdcdcdnaaGreatDoor
