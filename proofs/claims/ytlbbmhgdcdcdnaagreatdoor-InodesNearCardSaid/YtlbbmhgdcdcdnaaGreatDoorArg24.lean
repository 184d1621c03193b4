/- InodesNear, from its parts. -/
import Derived.Test.YtlbbmhgdcdcdnaaGreatDoorFr24
import Derived.Test.YtlbbmhgdcdcdnaaGreatDoorTak4
import Derived.Test.YtlbbmhgdcdcdnaaGreatDoorFit
import Derived.Test.YtlbbmhgdcdcdnaaGreatDoorAw24
import Derived.Test.YtlbbmhgdcdcdnaaGreatDoorEvC
set_option linter.unusedSimpArgs false
set_option linter.unusedVariables false
set_option linter.unusedSectionVars false
set_option maxRecDepth 100000
set_option maxHeartbeats 4000000
namespace Go.Proofs.YtlbbmhgdcdcdnaaGreatDoor
open Go.Ev
noncomputable def q3 (p:List Nat):Code:=piece p (bodyOf Tryz.f3)
theorem q3_:q3 []=.seq (q3 [0]) (q3 [1]):=by kernel_rfl
theorem q3_0:q3 [0]=.region 0 (opsA (q3 [0])) false:=by kernel_rfl
theorem q3_1:q3 [1]=.seq (q3 [1,0]) (q3 [1,1]):=by kernel_rfl
theorem q3_10:q3 [1,0]=.seq (q3 [1,0,0]) (q3 [1,0,1]):=by kernel_rfl
theorem q3_100:q3 [1,0,0]=.region 1 (opsA (q3 [1,0,0])) false:=by kernel_rfl
theorem q3_101:q3 [1,0,1]=.cond (.tmp 14) (q3 [1,0,1,3]) (q3 [1,0,1,4]):=by kernel_rfl
theorem q3_1014:q3 [1,0,1,4]=.skip:=by kernel_rfl
theorem q3_11:q3 [1,1]=.seq (q3 [1,1,0]) (q3 [1,1,1]):=by kernel_rfl
theorem q3_110:q3 [1,1,0]=.seq (q3 [1,1,0,0]) (q3 [1,1,0,1]):=by kernel_rfl
theorem q3_1100:q3 [1,1,0,0]=.region 3 (opsA (q3 [1,1,0,0])) false:=by kernel_rfl
theorem q3_1101:q3 [1,1,0,1]=.cond (.tmp 23) (q3 [1,1,0,1,3]) (q3 [1,1,0,1,4]):=by kernel_rfl
theorem q3_11013:q3 [1,1,0,1,3]=.seq (q3 [1,1,0,1,3,0]) (q3 [1,1,0,1,3,1]):=by kernel_rfl
theorem q3_110130:q3 [1,1,0,1,3,0]=.region 4 (opsA (q3 [1,1,0,1,3,0])) false:=by kernel_rfl
theorem q3_110131:q3 [1,1,0,1,3,1]=.ret:=by kernel_rfl
theorem q3_11014:q3 [1,1,0,1,4]=.skip:=by kernel_rfl
theorem q3_111:q3 [1,1,1]=.seq (q3 [1,1,1,0]) (q3 [1,1,1,1]):=by kernel_rfl
theorem q3_1110:q3 [1,1,1,0]=.region 5 (opsA (q3 [1,1,1,0])) false:=by kernel_rfl
theorem q3_1111:q3 [1,1,1,1]=.seq (q3 [1,1,1,1,0]) (q3 [1,1,1,1,1]):=by kernel_rfl
theorem q3_11110:q3 [1,1,1,1,0]=.seq (q3 [1,1,1,1,0,0]) (q3 [1,1,1,1,0,1]):=by kernel_rfl
theorem q3_111100:q3 [1,1,1,1,0,0]=.region 6 (opsA (q3 [1,1,1,1,0,0])) false:=by kernel_rfl
theorem q3_111101:q3 [1,1,1,1,0,1]=.cond (.tmp 38) (q3 [1,1,1,1,0,1,3]) (q3 [1,1,1,1,0,1,4]):=by kernel_rfl
theorem q3_1111014:q3 [1,1,1,1,0,1,4]=.skip:=by kernel_rfl
theorem q3_11111:q3 [1,1,1,1,1]=.seq (q3 [1,1,1,1,1,0]) (q3 [1,1,1,1,1,1]):=by kernel_rfl
theorem q3_111110:q3 [1,1,1,1,1,0]=.region 8 (opsA (q3 [1,1,1,1,1,0])) false:=by kernel_rfl
theorem q3_111111:q3 [1,1,1,1,1,1]=.seq (q3 [1,1,1,1,1,1,0]) (q3 [1,1,1,1,1,1,1]):=by kernel_rfl
theorem q3_1111110:q3 [1,1,1,1,1,1,0]=.seq (q3 [1,1,1,1,1,1,0,0]) (q3 [1,1,1,1,1,1,0,1]):=by kernel_rfl
theorem q3_11111100:q3 [1,1,1,1,1,1,0,0]=.region 9 (opsA (q3 [1,1,1,1,1,1,0,0])) false:=by kernel_rfl
theorem q3_11111101:q3 [1,1,1,1,1,1,0,1]=.cond (.tmp 48) (q3 [1,1,1,1,1,1,0,1,3]) (q3 [1,1,1,1,1,1,0,1,4]):=by kernel_rfl
theorem q3_111111013:q3 [1,1,1,1,1,1,0,1,3]=.region 10 (opsA (q3 [1,1,1,1,1,1,0,1,3])) false:=by kernel_rfl
theorem q3_111111014:q3 [1,1,1,1,1,1,0,1,4]=.skip:=by kernel_rfl
theorem q3_1111111:q3 [1,1,1,1,1,1,1]=.seq (q3 [1,1,1,1,1,1,1,0]) (q3 [1,1,1,1,1,1,1,1]):=by kernel_rfl
theorem q3_11111110:q3 [1,1,1,1,1,1,1,0]=.region 11 (opsA (q3 [1,1,1,1,1,1,1,0])) false:=by kernel_rfl
theorem q3_11111111:q3 [1,1,1,1,1,1,1,1]=.seq (q3 [1,1,1,1,1,1,1,1,0]) (q3 [1,1,1,1,1,1,1,1,1]):=by kernel_rfl
theorem q3_111111110:q3 [1,1,1,1,1,1,1,1,0]=.seq (q3 [1,1,1,1,1,1,1,1,0,0]) (q3 [1,1,1,1,1,1,1,1,0,1]):=by kernel_rfl
theorem q3_1111111100:q3 [1,1,1,1,1,1,1,1,0,0]=.region 12 (opsA (q3 [1,1,1,1,1,1,1,1,0,0])) false:=by kernel_rfl
theorem q3_1111111101:q3 [1,1,1,1,1,1,1,1,0,1]=.cond (.tmp 54) (q3 [1,1,1,1,1,1,1,1,0,1,3]) (q3 [1,1,1,1,1,1,1,1,0,1,4]):=by kernel_rfl
theorem q3_11111111013:q3 [1,1,1,1,1,1,1,1,0,1,3]=.region 13 (opsA (q3 [1,1,1,1,1,1,1,1,0,1,3])) false:=by kernel_rfl
theorem q3_11111111014:q3 [1,1,1,1,1,1,1,1,0,1,4]=.skip:=by kernel_rfl
theorem q3_111111111:q3 [1,1,1,1,1,1,1,1,1]=.seq (q3 [1,1,1,1,1,1,1,1,1,0]) (q3 [1,1,1,1,1,1,1,1,1,1]):=by kernel_rfl
theorem q3_1111111110:q3 [1,1,1,1,1,1,1,1,1,0]=.region 14 (opsA (q3 [1,1,1,1,1,1,1,1,1,0])) false:=by kernel_rfl
theorem q3_1111111111:q3 [1,1,1,1,1,1,1,1,1,1]=.seq (q3 [1,1,1,1,1,1,1,1,1,1,0]) (q3 [1,1,1,1,1,1,1,1,1,1,1]):=by kernel_rfl
theorem q3_11111111110:q3 [1,1,1,1,1,1,1,1,1,1,0]=.region 15 (opsA (q3 [1,1,1,1,1,1,1,1,1,1,0])) false:=by kernel_rfl
theorem q3_11111111111:q3 [1,1,1,1,1,1,1,1,1,1,1]=.ret:=by kernel_rfl
theorem rs3:Tryz.f3.results.toList=[.tmp 4]:=rfl
attribute [go_sem] rs3
theorem begun_get {h:Go.Ev.H} {m:Nat} (hm:m<h.next) (a b c e:Nat) (md:Int) (L:List (List C)):(begun h a b c e md L).get m=h.get m:=by
 unfold begun begM cloneM cleanM frM newSt
 simp (discharger:=omega) only [H.get_put,H.get_new,H.next_new,H.next_put,if_neg]
section
variable (Hh:Hearts K Tryz.prog)
include Hh
theorem lawNear {S:C} {len:Int} (lf:lenFits K 24 (.c S)=true) (hln:∀ h,opLen K h 24 (.c S)=some (.int .i64 len)) (l1:0≤len) {h:Go.Ev.H} (hst:h.get 0=some stepsO) (l0:0<h.next) (a b c d md near:Int) :
  ∃ h',CallOk K Tryz.prog 3 [.g [.int .i64 a,.int .i64 b,.int .i64 c,.int .i64 d,.int .u8 md,S],.c (.int .i64 near)] h (.w (.c (.bool true))) h':=by
 have cf:=fun h=>fitsOk Hh lf hln a b c d md h
 have r6:readRow 6 [[.int .i64 a,.int .i64 b,.int .i64 c,.int .i64 d,.int .u8 md,S]] 0 6=some [.int .i64 a,.int .i64 b,.int .i64 c,.int .i64 d,.int .u8 md,S]:=rfl
 have r4:readRow 6 [[.int .i64 a,.int .i64 b,.int .i64 c,.int .i64 d,.int .u8 md,S]] 0 4=some [.int .i64 a,.int .i64 b,.int .i64 c,.int .i64 d]:=rfl
 obtain⟨v,h',cc,rfl⟩:∃ v h',CallOk K Tryz.prog 3 [.g [.int .i64 a,.int .i64 b,.int .i64 c,.int .i64 d,.int .u8 md,S],.c (.int .i64 near)] h v h'∧v=.w (.c (.bool true)):=by
  rcases hf:fitB a b c d md len with _|_
  ·
   rw[hf] at cf
   refine CallOk.goesE fits Hh (by kernel_rfl) (by kernel_rfl) (by kernel_rfl) (show Tryz.f3.body=some (q3 []) by kernel_rfl) rfl ?_
   show Goes K Tryz.prog 68 none _ _ _ _ _
   refine Goes.seqQ q3_ ?_
   refine Goes.opsQ q3_0 fits Hh E0_sound (by
    simp (maxSteps:=9^6) +decide (disch:=first|omega|(simp only[lens]<;>omega)|decide) only [go_sem,q3,Tryz.f3,loadIn,simprocAttr,xaw,hst,r6,lf,hln,read1,opBox,opBuiltin]
    rfl) ?_
   refine Goes.seqQ q3_1 ?_
   refine Goes.seqQ q3_10 ?_
   refine Goes.opsQ q3_100 fits Hh (EX_sound E0_sound (fun _ _ _ _=>xaw_ok Hh)) (by
    simp (maxSteps:=9^6) +decide (disch:=first|omega|(simp only[lens]<;>omega)|decide) only [go_sem,q3,Tryz.f3,loadIn,simprocAttr,xaw,hst,r6,lf,hln,read1,opBox,opBuiltin]
    rfl) ?_
   refine Goes.condFQ q3_101 (by simp (maxSteps:=9^6) +decide (disch:=first|omega|(simp only[lens]<;>omega)|decide) only [go_sem,loadIn,simprocAttr,xaw,hst,r6,lf,hln,read1,opBox,opBuiltin]<;>rfl) (by first|rfl|assumption|exact decide_eq_false (by omega)|(simp; omega)) ?_
   refine Goes.skipQ q3_1014 ?_
   refine Goes.seqQ q3_11 ?_
   refine Goes.seqQ q3_110 ?_
   refine Goes.opsQ q3_1100 fits Hh (EA_sound E0_sound cf) (by
    simp (maxSteps:=9^6) +decide (disch:=first|omega|(simp only[lens]<;>omega)|decide) only [go_sem,q3,Tryz.f3,loadIn,simprocAttr,xaw,hst,r6,lf,hln,read1,opBox,opBuiltin]
    rfl) ?_
   refine Goes.condTQ q3_1101 (by simp (maxSteps:=9^6) +decide (disch:=first|omega|(simp only[lens]<;>omega)|decide) only [go_sem,loadIn,simprocAttr,xaw,hst,r6,lf,hln,read1,opBox,opBuiltin]<;>rfl) (by first|rfl|assumption|exact decide_eq_true (by omega)|(simp; omega)) ?_
   refine Goes.seqQ q3_11013 ?_
   refine Goes.opsQ q3_110130 fits Hh E0_sound (by
    simp (maxSteps:=9^6) +decide (disch:=first|omega|(simp only[lens]<;>omega)|decide) only [go_sem,q3,Tryz.f3,loadIn,simprocAttr,xaw,hst,r6,lf,hln,read1,opBox,opBuiltin]
    rfl) ?_
   refine Goes.retQ q3_110131 ?_
   exact⟨_,_,(by simp (maxSteps:=9^6) +decide (disch:=first|omega|(simp only[lens]<;>omega)|decide) only [go_sem,loadIn,simprocAttr]<;>rfl),rfl⟩
  ·rw[hf] at cf
   by_cases hz:0<len
   ·
    refine CallOk.goesE fits Hh (by kernel_rfl) (by kernel_rfl) (by kernel_rfl) (show Tryz.f3.body=some (q3 []) by kernel_rfl) rfl ?_
    show Goes K Tryz.prog 68 none _ _ _ _ _
    refine Goes.seqQ q3_ ?_
    refine Goes.opsQ q3_0 fits Hh E0_sound (by
     simp (maxSteps:=9^6) +decide (disch:=first|omega|(simp only[lens]<;>omega)|decide) only [go_sem,q3,Tryz.f3,loadIn,simprocAttr,xaw,hst,r6,lf,hln,read1,opBox,opBuiltin]
     rfl) ?_
    refine Goes.seqQ q3_1 ?_
    refine Goes.seqQ q3_10 ?_
    refine Goes.opsQ q3_100 fits Hh (EX_sound E0_sound (fun _ _ _ _=>xaw_ok Hh)) (by
     simp (maxSteps:=9^6) +decide (disch:=first|omega|(simp only[lens]<;>omega)|decide) only [go_sem,q3,Tryz.f3,loadIn,simprocAttr,xaw,hst,r6,lf,hln,read1,opBox,opBuiltin]
     rfl) ?_
    refine Goes.condFQ q3_101 (by simp (maxSteps:=9^6) +decide (disch:=first|omega|(simp only[lens]<;>omega)|decide) only [go_sem,loadIn,simprocAttr,xaw,hst,r6,lf,hln,read1,opBox,opBuiltin]<;>rfl) (by first|rfl|assumption|exact decide_eq_false (by omega)|(simp; omega)) ?_
    refine Goes.skipQ q3_1014 ?_
    refine Goes.seqQ q3_11 ?_
    refine Goes.seqQ q3_110 ?_
    refine Goes.opsQ q3_1100 fits Hh (EA_sound E0_sound cf) (by
     simp (maxSteps:=9^6) +decide (disch:=first|omega|(simp only[lens]<;>omega)|decide) only [go_sem,q3,Tryz.f3,loadIn,simprocAttr,xaw,hst,r6,lf,hln,read1,opBox,opBuiltin]
     rfl) ?_
    refine Goes.condTQ q3_1101 (by simp (maxSteps:=9^6) +decide (disch:=first|omega|(simp only[lens]<;>omega)|decide) only [go_sem,loadIn,simprocAttr,xaw,hst,r6,lf,hln,read1,opBox,opBuiltin]<;>rfl) (by first|rfl|assumption|exact decide_eq_true (by omega)|(simp; omega)) ?_
    refine Goes.seqQ q3_11013 ?_
    refine Goes.opsQ q3_110130 fits Hh E0_sound (by
     simp (maxSteps:=9^6) +decide (disch:=first|omega|(simp only[lens]<;>omega)|decide) only [go_sem,q3,Tryz.f3,loadIn,simprocAttr,xaw,hst,r6,lf,hln,read1,opBox,opBuiltin]
     rfl) ?_
    refine Goes.retQ q3_110131 ?_
    exact⟨_,_,(by simp (maxSteps:=9^6) +decide (disch:=first|omega|(simp only[lens]<;>omega)|decide) only [go_sem,loadIn,simprocAttr]<;>rfl),rfl⟩
   ·unfold fitB at hf
    simp only[Bool.and_eq_true,decide_eq_true_eq] at hf
    obtain⟨⟨⟨⟨hf,f1⟩,m1⟩,m3⟩,f4⟩:=hf
    have hf':=hf
    unfold fineI at hf'
    simp only[Bool.and_eq_true,decide_eq_true_eq] at hf'
    obtain⟨⟨⟨⟨p1,p2⟩,p3⟩,p4⟩,fb⟩:=hf'
    obtain⟨a,rfl⟩:=Int.eq_ofNat_of_zero_le p1
    obtain⟨b,rfl⟩:=Int.eq_ofNat_of_zero_le p2
    obtain⟨c,rfl⟩:=Int.eq_ofNat_of_zero_le p3
    obtain⟨d,rfl⟩:=Int.eq_ofNat_of_zero_le p4
    simp only[Int.toNat_natCast] at fb
    obtain⟨g1,g2,g3,g4,g5,g6,g7,g8,g9,g10,g11⟩:=fineB_fine fb
    refine CallOk.goesE fits Hh (by kernel_rfl) (by kernel_rfl) (by kernel_rfl) (show Tryz.f3.body=some (q3 []) by kernel_rfl) rfl ?_
    show Goes K Tryz.prog 68 none _ _ _ _ _
    refine Goes.seqQ q3_ ?_
    refine Goes.opsQ q3_0 fits Hh E0_sound (by
     simp (maxSteps:=9^6) +decide (disch:=first|omega|(simp only[lens]<;>omega)|decide) only [go_sem,q3,Tryz.f3,loadIn,simprocAttr,xaw,hst,r6,r4,fb,lf,hln,read1,opBox,opBuiltin]
     rfl) ?_
    refine Goes.seqQ q3_1 ?_
    refine Goes.seqQ q3_10 ?_
    refine Goes.opsQ q3_100 fits Hh (EX_sound E0_sound (fun _ _ _ _=>xaw_ok Hh)) (by
     simp (maxSteps:=9^6) +decide (disch:=first|omega|(simp only[lens]<;>omega)|decide) only [go_sem,q3,Tryz.f3,loadIn,simprocAttr,xaw,hst,r6,r4,fb,lf,hln,read1,opBox,opBuiltin]
     rfl) ?_
    refine Goes.condFQ q3_101 (by simp (maxSteps:=9^6) +decide (disch:=first|omega|(simp only[lens]<;>omega)|decide) only [go_sem,loadIn,simprocAttr,xaw,hst,r6,r4,fb,lf,hln,read1,opBox,opBuiltin]<;>rfl) (by first|rfl|assumption|exact decide_eq_false (by omega)|(simp; omega)) ?_
    refine Goes.skipQ q3_1014 ?_
    refine Goes.seqQ q3_11 ?_
    refine Goes.seqQ q3_110 ?_
    refine Goes.opsQ q3_1100 fits Hh (EA_sound E0_sound cf) (by
     simp (maxSteps:=9^6) +decide (disch:=first|omega|(simp only[lens]<;>omega)|decide) only [go_sem,q3,Tryz.f3,loadIn,simprocAttr,xaw,hst,r6,r4,fb,lf,hln,read1,opBox,opBuiltin]
     rfl) ?_
    refine Goes.condFQ q3_1101 (by simp (maxSteps:=9^6) +decide (disch:=first|omega|(simp only[lens]<;>omega)|decide) only [go_sem,loadIn,simprocAttr,xaw,hst,r6,r4,fb,lf,hln,read1,opBox,opBuiltin]<;>rfl) (by first|rfl|assumption|exact decide_eq_false (by omega)|(simp; omega)) ?_
    refine Goes.skipQ q3_11014 ?_
    refine Goes.seqQ q3_111 ?_
    refine Goes.abs fun hA eA=>?_
    have nA:hA.next=h.next+1:=by rw[eA]; first|rfl|simp only[H.next_put,H.next_new]
    have kA:hA.get h.next=some (.row 6 [[.int .i64 (a:Int),.int .i64 (b:Int),.int .i64 (c:Int),.int .i64 (d:Int),.int .u8 md,S]] false):=by rw[eA]; simp (maxSteps:=9^6) +decide (disch:=first|omega|(simp only[lens]<;>omega)|decide) only [go_sem,loadIn,simprocAttr]<;>rfl
    have sA:hA.get 0=some stepsO:=by rw[eA]; refine Eq.trans ?_ hst; (first|(simp (discharger:=omega) only [H.get_put,H.get_new,H.get_del,H.next_new,H.next_put,H.next_del,if_neg]; done)|(simp only[H.get_put,H.get_new,H.get_del,H.next_new,H.next_put,H.next_del]; (repeat' split)<;>first|rfl|(exfalso; omega)|omega))
    clear eA
    obtain⟨L,I,c5⟩:=fresh24Ok Hh fb m1 m3 sA (by omega)
    have c6:=xSBegin_ok Hh (xBeg hA a b c d md L fb)
    refine Goes.opsQ q3_1110 fits Hh (E1_sound E0_sound c5) (by
     simp (maxSteps:=9^6) +decide (disch:=first|omega|(simp only[lens]<;>omega)|decide) only [go_sem,q3,Tryz.f3,loadIn,simprocAttr,E1_call,xaw,hst,r6,r4,fb,lf,hln,kA,read1,opBox,opBuiltin]
     rfl) ?_
    refine Goes.seqQ q3_1111 ?_
    refine Goes.seqQ q3_11110 ?_
    refine Goes.opsQ q3_111100 fits Hh (E1_sound E0_sound c6) (by
     simp (maxSteps:=9^6) +decide (disch:=first|omega|(simp only[lens]<;>omega)|decide) only [go_sem,q3,Tryz.f3,loadIn,simprocAttr,E1_call,xaw,hst,r6,r4,fb,lf,hln,kA,read1,opBox,opBuiltin]
     rfl) ?_
    refine Goes.condFQ q3_111101 (by simp (maxSteps:=9^6) +decide (disch:=first|omega|(simp only[lens]<;>omega)|decide) only [go_sem,loadIn,simprocAttr,xaw,hst,r6,r4,fb,lf,hln,kA,read1,opBox,opBuiltin]<;>rfl) (by first|rfl|assumption|exact decide_eq_false (by omega)|(simp; omega)) ?_
    refine Goes.skipQ q3_1111014 ?_
    refine Goes.abs fun hB eB=>?_
    have MB:Md hA.next a b c d md false [] [] [] L hB:=by rw[eB]; exact begun_md hA (by omega) sA a b c d md L
    have kB:hB.get h.next=some (.row 6 [[.int .i64 (a:Int),.int .i64 (b:Int),.int .i64 (c:Int),.int .i64 (d:Int),.int .u8 md,S]] false):=by rw[eB,begun_get (by omega)]; exact kA
    clear eB
    obtain⟨hE,c14⟩:=takeOk Hh fb I MB near
    by_cases hv:1≤near∧near≤((a * c:Nat):Int)
    ·obtain⟨v1,v2⟩:=hv
     obtain⟨j,hj⟩:∃ j,near.toNat - 1=j:=⟨_,rfl⟩
     obtain rfl:near=((j+1:Nat):Int):=by omega
     have d1:=decide_eq_true v1
     have d2:=decide_eq_true v2
     have ka:j / c<a:=Nat.div_lt_of_lt_mul (by rw[Nat.mul_comm]; omega)
     have gk:grpOf a c ((j+1:Nat):Int)=j / c:=by unfold grpOf; rw[if_pos ⟨v1,v2⟩,hj]
     rw[gk] at c14
     obtain⟨k,hk⟩:∃ k,j / c=k:=⟨_,rfl⟩
     rw[hk] at ka c14
     unfold takeN at c14
     by_cases k0:k=0
     ·rw[if_pos k0] at c14
      refine Goes.seqQ q3_11111 ?_
      refine Goes.opsQ q3_111110 fits Hh (EX_sound E0_sound (fun _ _ _ _=>xgHome_ok Hh)) (by
       simp (maxSteps:=9^6) +decide (disch:=first|omega|(simp only[lens]<;>omega)|decide) only [go_sem,q3,Tryz.f3,loadIn,simprocAttr,kB,r4,fb,d1,d2,hj,hk,beq_self_eq_true,read1]
       rfl) ?_
      refine Goes.seqQ q3_111111 ?_
      refine Goes.seqQ q3_1111110 ?_
      refine Goes.opsQ q3_11111100 fits Hh E0_sound (by
       simp (maxSteps:=9^6) +decide (disch:=first|omega|(simp only[lens]<;>omega)|decide) only [go_sem,q3,Tryz.f3,loadIn,simprocAttr,kB,r4,fb,d1,d2,hj,hk,beq_self_eq_true,read1]
       rfl) ?_
      refine Goes.condFQ q3_11111101 (by simp (maxSteps:=9^6) +decide (disch:=first|omega|(simp only[lens]<;>omega)|decide) only [go_sem,loadIn,simprocAttr,kB,r4,fb,d1,d2,hj,hk,beq_self_eq_true,read1]<;>rfl) (by first|rfl|assumption|exact decide_eq_false (by omega)|(simp; omega)) ?_
      refine Goes.skipQ q3_111111014 ?_
      refine Goes.seqQ q3_1111111 ?_
      refine Goes.opsQ q3_11111110 fits Hh (EX_sound E0_sound (fun _ _ _ _=>xgNumber_ok Hh)) (by
       simp (maxSteps:=9^6) +decide (disch:=first|omega|(simp only[lens]<;>omega)|decide) only [go_sem,q3,Tryz.f3,loadIn,simprocAttr,kB,r4,fb,d1,d2,hj,hk,beq_self_eq_true,read1]
       rfl) ?_
      refine Goes.seqQ q3_11111111 ?_
      refine Goes.seqQ q3_111111110 ?_
      refine Goes.opsQ q3_1111111100 fits Hh E0_sound (by
       simp (maxSteps:=9^6) +decide (disch:=first|omega|(simp only[lens]<;>omega)|decide) only [go_sem,q3,Tryz.f3,loadIn,simprocAttr,kB,r4,fb,d1,d2,hj,hk,beq_self_eq_true,read1]
       rfl) ?_
      refine Goes.condTQ q3_1111111101 (by simp (maxSteps:=9^6) +decide (disch:=first|omega|(simp only[lens]<;>omega)|decide) only [go_sem,loadIn,simprocAttr,kB,r4,fb,d1,d2,hj,hk,beq_self_eq_true,read1]<;>rfl) (by first|rfl|assumption|exact decide_eq_true (by omega)|(simp; omega)) ?_
      refine Goes.opsQ q3_11111111013 fits Hh E0_sound (by
       simp (maxSteps:=9^6) +decide (disch:=first|omega|(simp only[lens]<;>omega)|decide) only [go_sem,q3,Tryz.f3,loadIn,simprocAttr,kB,r4,fb,d1,d2,hj,hk,beq_self_eq_true,read1]
       rfl) ?_
      refine Goes.seqQ q3_111111111 ?_
      refine Goes.opsQ q3_1111111110 fits Hh (E1_sound E0_sound c14) (by
       simp (maxSteps:=9^6) +decide (disch:=first|omega|(simp only[lens]<;>omega)|decide) only [go_sem,q3,Tryz.f3,loadIn,simprocAttr,E1_call,kB,r4,fb,d1,d2,hj,hk,beq_self_eq_true,read1]
       rfl) ?_
      refine Goes.seqQ q3_1111111111 ?_
      refine Goes.opsQ q3_11111111110 fits Hh E0_sound (by
       simp (maxSteps:=9^6) +decide (disch:=first|omega|(simp only[lens]<;>omega)|decide) only [go_sem,q3,Tryz.f3,loadIn,simprocAttr,kB,r4,fb,d1,d2,hj,hk,beq_self_eq_true,read1]
       rfl) ?_
      refine Goes.retQ q3_11111111111 ?_
      exact⟨_,_,(by simp (maxSteps:=9^6) +decide (disch:=first|omega|(simp only[lens]<;>omega)|decide) only [go_sem,loadIn,simprocAttr]<;>rfl),rfl⟩
     ·rw[if_neg k0] at c14
      refine Goes.seqQ q3_11111 ?_
      refine Goes.opsQ q3_111110 fits Hh (EX_sound E0_sound (fun _ _ _ _=>xgHome_ok Hh)) (by
       simp (maxSteps:=9^6) +decide (disch:=first|omega|(simp only[lens]<;>omega)|decide) only [go_sem,q3,Tryz.f3,loadIn,simprocAttr,kB,r4,fb,d1,d2,hj,hk,Nat.add_zero,beq_self_eq_true,read1]
       rfl) ?_
      refine Goes.seqQ q3_111111 ?_
      refine Goes.seqQ q3_1111110 ?_
      refine Goes.opsQ q3_11111100 fits Hh E0_sound (by
       simp (maxSteps:=9^6) +decide (disch:=first|omega|(simp only[lens]<;>omega)|decide) only [go_sem,q3,Tryz.f3,loadIn,simprocAttr,kB,r4,fb,d1,d2,hj,hk,Nat.add_zero,beq_self_eq_true,read1]
       rfl) ?_
      refine Goes.condFQ q3_11111101 (by simp (maxSteps:=9^6) +decide (disch:=first|omega|(simp only[lens]<;>omega)|decide) only [go_sem,loadIn,simprocAttr,kB,r4,fb,d1,d2,hj,hk,Nat.add_zero,beq_self_eq_true,read1]<;>rfl) (by first|rfl|assumption|exact decide_eq_false (by omega)|(simp; omega)) ?_
      refine Goes.skipQ q3_111111014 ?_
      refine Goes.seqQ q3_1111111 ?_
      refine Goes.opsQ q3_11111110 fits Hh (EX_sound E0_sound (fun _ _ _ _=>xgNumber_ok Hh)) (by
       simp (maxSteps:=9^6) +decide (disch:=first|omega|(simp only[lens]<;>omega)|decide) only [go_sem,q3,Tryz.f3,loadIn,simprocAttr,kB,r4,fb,d1,d2,hj,hk,Nat.add_zero,beq_self_eq_true,read1]
       rfl) ?_
      refine Goes.seqQ q3_11111111 ?_
      refine Goes.seqQ q3_111111110 ?_
      refine Goes.opsQ q3_1111111100 fits Hh E0_sound (by
       simp (maxSteps:=9^6) +decide (disch:=first|omega|(simp only[lens]<;>omega)|decide) only [go_sem,q3,Tryz.f3,loadIn,simprocAttr,kB,r4,fb,d1,d2,hj,hk,Nat.add_zero,beq_self_eq_true,read1]
       rfl) ?_
      refine Goes.condFQ q3_1111111101 (by simp (maxSteps:=9^6) +decide (disch:=first|omega|(simp only[lens]<;>omega)|decide) only [go_sem,loadIn,simprocAttr,kB,r4,fb,d1,d2,hj,hk,Nat.add_zero,beq_self_eq_true,read1]<;>rfl) (by first|rfl|assumption|exact decide_eq_false (by omega)|(simp; omega)) ?_
      refine Goes.skipQ q3_11111111014 ?_
      refine Goes.seqQ q3_111111111 ?_
      refine Goes.opsQ q3_1111111110 fits Hh (E1_sound E0_sound c14) (by
       simp (maxSteps:=9^6) +decide (disch:=first|omega|(simp only[lens]<;>omega)|decide) only [go_sem,q3,Tryz.f3,loadIn,simprocAttr,E1_call,kB,r4,fb,d1,d2,hj,hk,Nat.add_zero,beq_self_eq_true,read1]
       rfl) ?_
      refine Goes.seqQ q3_1111111111 ?_
      refine Goes.opsQ q3_11111111110 fits Hh E0_sound (by
       simp (maxSteps:=9^6) +decide (disch:=first|omega|(simp only[lens]<;>omega)|decide) only [go_sem,q3,Tryz.f3,loadIn,simprocAttr,kB,r4,fb,d1,d2,hj,hk,Nat.add_zero,beq_self_eq_true,read1]
       rfl) ?_
      refine Goes.retQ q3_11111111111 ?_
      exact⟨_,_,(by simp (maxSteps:=9^6) +decide (disch:=first|omega|(simp only[lens]<;>omega)|decide) only [go_sem,loadIn,simprocAttr]<;>rfl),rfl⟩
    ·have gk:grpOf a c near=0:=by unfold grpOf; rw[if_neg hv]
     have dd:(decide (1≤near)&&decide (near≤((a * c:Nat):Int)))=false:=by
      rw[←Bool.decide_and]
      exact decide_eq_false hv
     rw[gk] at c14
     unfold takeN at c14
     rw[if_pos rfl] at c14
     refine Goes.seqQ q3_11111 ?_
     refine Goes.opsQ q3_111110 fits Hh (EX_sound E0_sound (fun _ _ _ _=>xgHome_ok Hh)) (by
      simp (maxSteps:=9^6) +decide (disch:=first|omega|(simp only[lens]<;>omega)|decide) only [go_sem,q3,Tryz.f3,loadIn,simprocAttr,kB,r4,fb,dd,beq_self_eq_true,read1]
      rfl) ?_
     refine Goes.seqQ q3_111111 ?_
     refine Goes.seqQ q3_1111110 ?_
     refine Goes.opsQ q3_11111100 fits Hh E0_sound (by
      simp (maxSteps:=9^6) +decide (disch:=first|omega|(simp only[lens]<;>omega)|decide) only [go_sem,q3,Tryz.f3,loadIn,simprocAttr,kB,r4,fb,dd,beq_self_eq_true,read1]
      rfl) ?_
     refine Goes.condTQ q3_11111101 (by simp (maxSteps:=9^6) +decide (disch:=first|omega|(simp only[lens]<;>omega)|decide) only [go_sem,loadIn,simprocAttr,kB,r4,fb,dd,beq_self_eq_true,read1]<;>rfl) (by first|rfl|assumption|exact decide_eq_true (by omega)|(simp; omega)) ?_
     refine Goes.opsQ q3_111111013 fits Hh E0_sound (by
      simp (maxSteps:=9^6) +decide (disch:=first|omega|(simp only[lens]<;>omega)|decide) only [go_sem,q3,Tryz.f3,loadIn,simprocAttr,kB,r4,fb,dd,beq_self_eq_true,read1]
      rfl) ?_
     refine Goes.seqQ q3_1111111 ?_
     refine Goes.opsQ q3_11111110 fits Hh (EX_sound E0_sound (fun _ _ _ _=>xgNumber_ok Hh)) (by
      simp (maxSteps:=9^6) +decide (disch:=first|omega|(simp only[lens]<;>omega)|decide) only [go_sem,q3,Tryz.f3,loadIn,simprocAttr,kB,r4,fb,dd,beq_self_eq_true,read1]
      rfl) ?_
     refine Goes.seqQ q3_11111111 ?_
     refine Goes.seqQ q3_111111110 ?_
     refine Goes.opsQ q3_1111111100 fits Hh E0_sound (by
      simp (maxSteps:=9^6) +decide (disch:=first|omega|(simp only[lens]<;>omega)|decide) only [go_sem,q3,Tryz.f3,loadIn,simprocAttr,kB,r4,fb,dd,beq_self_eq_true,read1]
      rfl) ?_
     refine Goes.condTQ q3_1111111101 (by simp (maxSteps:=9^6) +decide (disch:=first|omega|(simp only[lens]<;>omega)|decide) only [go_sem,loadIn,simprocAttr,kB,r4,fb,dd,beq_self_eq_true,read1]<;>rfl) (by first|rfl|assumption|exact decide_eq_true (by omega)|(simp; omega)) ?_
     refine Goes.opsQ q3_11111111013 fits Hh E0_sound (by
      simp (maxSteps:=9^6) +decide (disch:=first|omega|(simp only[lens]<;>omega)|decide) only [go_sem,q3,Tryz.f3,loadIn,simprocAttr,kB,r4,fb,dd,beq_self_eq_true,read1]
      rfl) ?_
     refine Goes.seqQ q3_111111111 ?_
     refine Goes.opsQ q3_1111111110 fits Hh (E1_sound E0_sound c14) (by
      simp (maxSteps:=9^6) +decide (disch:=first|omega|(simp only[lens]<;>omega)|decide) only [go_sem,q3,Tryz.f3,loadIn,simprocAttr,E1_call,kB,r4,fb,dd,beq_self_eq_true,read1]
      rfl) ?_
     refine Goes.seqQ q3_1111111111 ?_
     refine Goes.opsQ q3_11111111110 fits Hh E0_sound (by
      simp (maxSteps:=9^6) +decide (disch:=first|omega|(simp only[lens]<;>omega)|decide) only [go_sem,q3,Tryz.f3,loadIn,simprocAttr,kB,r4,fb,dd,beq_self_eq_true,read1]
      rfl) ?_
     refine Goes.retQ q3_11111111111 ?_
     exact⟨_,_,(by simp (maxSteps:=9^6) +decide (disch:=first|omega|(simp only[lens]<;>omega)|decide) only [go_sem,loadIn,simprocAttr]<;>rfl),rfl⟩
 exact⟨h',cc⟩
end
end Go.Proofs.YtlbbmhgdcdcdnaaGreatDoor
set_option maxRecDepth 100000
namespace Go.Proofs.YtlbbmhgdcdcdnaaGreatDoor
open Go.Ev Go.ChangeShapes Go.WideShapes
def TurnsOk (v:Value):Prop:=v=.slice none 0 0∨∃ b o sp len cap,v=.slice (some ⟨b,o,sp⟩) len cap∧len≤cap∧(cap=0∨sp=none)
theorem open_turns {H:Type} {enc:TypeId × Value→H} {W:World} {fuel:Nat} {cs:List Value} {x:DataW H × List MemPlace} (h:DataW.trod enc Tryz.prog W 0 (fun _=>true) true fuel 24 cs=some x):∃ v,cs=[v]∧TurnsOk v:=by
 rcases DataW.trod_slice Tryz.underlying24 h with ⟨h0,_⟩|⟨⟨b,o,sp⟩,len,cap,elems,rest,n,rfl,rfl,_,_,hl,_,hlen,hel,hsp,_⟩
 ·exact⟨_,h0,.inl rfl⟩
 refine⟨_,rfl,.inr ⟨b,o,sp,len,cap,rfl,hl,?_⟩⟩
 rcases Nat.eq_zero_or_pos cap with c0|c0
 ·exact .inl c0
 right
 have c2:Tryz.prog.cellsOf 336=3:=by kernel_rfl
 obtain⟨hrl,hr⟩:=hsp rfl
 rw[c2] at hel hr
 have key:∃ y,(W.cells? 0 ((⟨b,o,sp⟩:Addr).add (0 * 3)) 3).bind (DataW.trod enc Tryz.prog W 0 (fun _=>true) true n 336)=some y:=by
  by_cases h1:0<len
  ·exact⟨_,(hel 0 h1).trans (List.getElem?_eq_getElem (by omega))⟩
  ·have:=hr (0 - len) (by omega)
   rw[show len+(0 - len)=0 by omega] at this
   exact⟨_,this.trans (List.getElem?_eq_getElem (by omega))⟩
 obtain⟨y,hy⟩:=key
 obtain⟨cs',h1,h2⟩:=Option.bind_eq_some_iff.1 hy
 obtain⟨hl2,hc⟩:=cells_get h1
 have q0:=hc 0 (by omega)
 rw[List.getElem?_eq_getElem (by omega)] at q0
 have:=World.cell?_spot q0
 simpa [Addr.add] using this
theorem open_setup {H:Type} {enc:TypeId × Value→H} {W:World} {base b0:Nat} {r:Reach} {v:Value} {d:DataW H} {p:List MemPlace} (hv:Value.okWide Tryz.prog W r b0 26 v) (h:DataW.Trod enc Tryz.prog W base (fun _=>true) true 26 v d p) (hb:base=0):∃ (a b c e md:Int) (v5:Value),v=.agg #[.int .i64 a,.int .i64 b,.int .i64 c,.int .i64 e,.int .u8 md,v5]∧TurnsOk v5:=by
 subst hb
 obtain⟨cs,rfl,_⟩:=okWide_struct Tryz.underlying26 hv
 obtain⟨fuel,hf0⟩:=h
 have hf:DataW.trod enc Tryz.prog W 0 (fun _=>true) true fuel 26 cs.toList=_:=hf0
 obtain⟨Lc,hLc⟩:∃ l,cs.toList=l:=⟨_,rfl⟩
 rw[hLc] at hf
 obtain⟨xs,m,_,_,hl,hlen,hfl⟩:=DataW.trod_struct Tryz.underlying26 hf
 have xl:xs.length=3:=hlen
 have c6:Tryz.prog.cellsOf 26=6:=by kernel_rfl
 have cg:Tryz.prog.cellsOf 23=4:=by kernel_rfl
 have cb:Tryz.prog.cellsOf 5=1:=by kernel_rfl
 have ct:Tryz.prog.cellsOf 24=1:=by kernel_rfl
 have k0:=hfl 0 _ rfl
 have k1:=hfl 1 _ rfl
 have k2:=hfl 2 _ rfl
 rw[List.getElem?_eq_getElem (by omega)] at k0 k1 k2
 have l6:Lc.length=6:=hl.trans c6
 match Lc,l6 with
 | [u0,u1,u2,u3,u4,u5],_ =>
  have e0:(([u0,u1,u2,u3,u4,u5]:List Value).drop 0).take (Tryz.prog.cellsOf 23)=[u0,u1,u2,u3]:=by rw[cg]; rfl
  have e1:(([u0,u1,u2,u3,u4,u5]:List Value).drop 4).take (Tryz.prog.cellsOf 5)=[u4]:=by rw[cb]; rfl
  have e2:(([u0,u1,u2,u3,u4,u5]:List Value).drop 5).take (Tryz.prog.cellsOf 24)=[u5]:=by rw[ct]; rfl
  have k0':DataW.trod enc Tryz.prog W 0 (fun _=>true) true m 23 [u0,u1,u2,u3]=_:=e0 ▸ k0
  have k1':DataW.trod enc Tryz.prog W 0 (fun _=>true) true m 5 [u4]=_:=e1 ▸ k1
  have k2':DataW.trod enc Tryz.prog W 0 (fun _=>true) true m 24 [u5]=_:=e2 ▸ k2
  obtain⟨⟨z0,rfl⟩,⟨z1,rfl⟩,⟨z2,rfl⟩,⟨z3,rfl⟩,_⟩:=kinds_of 8 (show kinds Tryz.prog 8 23=some [.int .i64,.int .i64,.int .i64,.int .i64] by kernel_rfl) k0'
  obtain⟨⟨z4,rfl⟩,_⟩:=kinds_of 8 (show kinds Tryz.prog 8 5=some [.int .u8] by kernel_rfl) k1'
  obtain⟨v5,e5,ok⟩:=open_turns k2'
  cases e5
  exact⟨z0,z1,z2,z3,z4,_,by congr 1; rw[←Array.toList_inj,hLc],ok⟩
noncomputable def hArg:Go.Ev.H:=⟨hBegin.m,2⟩
def rArg (l:Go.Ev.Loc):Go.Ev.Ren:=fun n=>if n=1 then some l else if n=0 then some ⟨0,0,16⟩ else none
theorem rArg_dom (l:Go.Ev.Loc):Dom (rArg l) 2:=fun n hn=>by
 unfold rArg
 rw[if_neg (by omega),if_neg (by omega)]
theorem rep_arg {W:World} {cs:Array Value} {t:TypeId} {fr:Nat × Nat} (hb:W.heap[0]? = some (.cells cs t fr)) (hcs:cs.toList=steps16.map (Value.int .u32)) (l:Go.Ev.Loc):Rep K (rArg l) hArg W:=by
 have R:=rep_begin gl hb hcs
 refine⟨fun g n h=>?_,fun n o h=>?_,fun n n' o o' l l' hne h h' _ _=>?_⟩
 ·obtain⟨rfl,rfl⟩:=glob_set gl h
  exact⟨16,rfl⟩
 ·obtain⟨l0,hl0,hor⟩:=R.obj n o h
  obtain⟨rfl,rfl⟩:=hBegin_get h
  refine⟨l0,hl0,?_⟩
  have hs:(O.row 16 [steps16.map (C.int .u32)] true).simple=true:=rfl
  have:=(oRel_ren (σ:=fun n=>n) (ρ:=fun n=>if n=0 then rArg l 0 else none) (w:=W) hs l0)
  exact (oRel_ren (σ:=fun _=>0) (ρ:=rArg l) (w:=W) hs l0).2 ((oRel_ren (σ:=fun _=>0) (ρ:=rBegin 0) (w:=W) hs l0).1 hor)
 ·obtain⟨rfl,_⟩:=hBegin_get h
  obtain⟨rfl,_⟩:=hBegin_get h'
  exact absurd rfl hne
theorem lfT0:lenFits K 24 (.c .snil)=true:=by kernel_rfl
theorem lfTs (p o l:Nat):lenFits K 24 (.c (.slice p o l 3))=true:=by kernel_rfl
theorem lnT0 (h:Go.Ev.H):opLen K h 24 (.c .snil)=some (.int .i64 ((0:Nat):Int)):=rfl
theorem lnTs (p o l:Nat) (h:Go.Ev.H):opLen K h 24 (.c (.slice p o l 3))=some (.int .i64 (l:Int)):=rfl
section
variable (Hh:Hearts K Tryz.prog)
include Hh
theorem calls_law {W:World} {cs:Array Value} {t:TypeId} {fr:Nat × Nat} (hb:W.heap[0]? = some (.cells cs t fr)) (hcs:cs.toList=steps16.map (Value.int .u32)) (a b c d md near:Int) {v5:Value} (ok:TurnsOk v5) :
  Calls Tryz.prog 3 #[.agg #[.int .i64 a,.int .i64 b,.int .i64 c,.int .i64 d,.int .u8 md,v5],.int .i64 near] W fun e W'=>e=.returned (.bool true)∧Go.RowKit.Below W.heap.size W W':=by
 have h0:hArg.get 0=some stepsO:=rfl
 have ro:∀ n o,hArg.get n=some o→o.ro=true:=fun n o e=>by rw[(hBegin_get e).2]; rfl
 rcases ok with rfl|⟨bk,o,sp,len,cap,rfl,hlc,hc⟩
 ·obtain⟨h',cc⟩:=lawNear Hh (S:=.snil) lfT0 lnT0 (by omega) (h:=hArg) h0 (by show 0<2; omega) a b c d md near
  exact callsOk_args (ρ:=rArg ⟨0,0,0⟩) (vals:=[.agg #[.int .i64 a,.int .i64 b,.int .i64 c,.int .i64 d,.int .u8 md,.slice none 0 0],.int .i64 near]) (rep_arg hb hcs _) (rArg_dom _) ro cc
   ⟨⟨_,rfl,rfl,rfl,rfl,rfl,rfl,rfl,trivial⟩,rfl,trivial⟩
 ·rcases hc with c0|rfl
  ·subst c0
   obtain rfl:len=0:=by omega
   obtain⟨h',cc⟩:=lawNear Hh (S:=.slice 1 0 0 3) (lfTs 1 0 0) (lnTs 1 0 0) (by omega) (h:=hArg) h0 (by show 0<2; omega) a b c d md near
   exact callsOk_args (ρ:=rArg ⟨0,0,0⟩) (vals:=[.agg #[.int .i64 a,.int .i64 b,.int .i64 c,.int .i64 d,.int .u8 md,.slice (some ⟨bk,o,sp⟩) 0 0],.int .i64 near]) (rep_arg hb hcs _) (rArg_dom _) ro cc
    ⟨⟨_,rfl,rfl,rfl,rfl,rfl,rfl,⟨⟨0,0,0⟩,_,_,rfl,rfl,.inl ⟨rfl,rfl⟩⟩,trivial⟩,rfl,trivial⟩
  ·obtain⟨h',cc⟩:=lawNear Hh (S:=.slice 1 0 len 3) (lfTs 1 0 len) (lnTs 1 0 len) (by omega) (h:=hArg) h0 (by show 0<2; omega) a b c d md near
   exact callsOk_args (ρ:=rArg ⟨bk,o,o+cap * 3⟩) (vals:=[.agg #[.int .i64 a,.int .i64 b,.int .i64 c,.int .i64 d,.int .u8 md,.slice (some ⟨bk,o,none⟩) len cap],.int .i64 near]) (rep_arg hb hcs _) (rArg_dom _) ro cc
    ⟨⟨_,rfl,rfl,rfl,rfl,rfl,rfl,⟨⟨bk,o,o+cap * 3⟩,_,_,rfl,rfl,.inr ⟨rfl,hlc,by show o+0+cap * 3≤o+cap * 3; omega⟩⟩,trivial⟩,rfl,trivial⟩
end
end Go.Proofs.YtlbbmhgdcdcdnaaGreatDoor
