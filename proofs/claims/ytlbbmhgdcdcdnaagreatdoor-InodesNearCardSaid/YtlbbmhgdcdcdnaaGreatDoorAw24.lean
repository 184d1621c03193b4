/- quern/quernlaw24.awake: the walk. -/
import Derived.Test.YtlbbmhgdcdcdnaaGreatDoorAw24r
set_option linter.unusedSimpArgs false
set_option linter.unusedVariables false
set_option linter.unusedSectionVars false
set_option maxRecDepth 100000
namespace Go.Proofs.YtlbbmhgdcdcdnaaGreatDoor
open Go.Ev
theorem ty23:K.types.get 23=some ti23:=by kernel_rfl
theorem sz23:ti23.size=4:=by rfl
theorem ag23:ti23.agg=true:=by rfl
theorem fo23_0:fieldOf K 23 0=some (0,ti3):=by kernel_rfl
theorem fo23_1:fieldOf K 23 1=some (1,ti3):=by kernel_rfl
theorem fo23_2:fieldOf K 23 2=some (2,ti3):=by kernel_rfl
theorem fo23_3:fieldOf K 23 3=some (3,ti3):=by kernel_rfl
theorem bu23 (ps:List (Nat × W)):opBuild K 23 (some ps)=gW (fillStruct K 23 ps ti23.zero.cells):=by kernel_rfl
theorem ze23:ti23.zero=(.g ([.int .i64 0,.int .i64 0,.int .i64 0,.int .i64 0])):=by rfl
theorem by23:ti23.bytes=32:=by rfl
theorem ty32:K.types.get 32=some ti32:=by kernel_rfl
theorem sz32:ti32.size=1:=by rfl
theorem ag32:ti32.agg=false:=by rfl
theorem de32:ti32.desc=(.int .i64):=by rfl
theorem ze32:ti32.zero=(.c (.int .i64 0)):=by rfl
theorem by32:ti32.bytes=8:=by rfl
theorem ke32 (k:IntKind) (n:Int):keyT K 20 32 (.c (.int k n))=true:=by kernel_rfl
theorem ty40:K.types.get 40=some ti40:=by kernel_rfl
theorem sz40:ti40.size=1:=by rfl
theorem ag40:ti40.agg=false:=by rfl
theorem de40:ti40.desc=(.int .u32):=by rfl
theorem ze40:ti40.zero=(.c (.int .u32 0)):=by rfl
theorem by40:ti40.bytes=4:=by rfl
theorem ke40 (k:IntKind) (n:Int):keyT K 20 40 (.c (.int k n))=true:=by kernel_rfl
theorem ty41:K.types.get 41=some ti41:=by kernel_rfl
theorem sz41:ti41.size=11:=by rfl
theorem ag41:ti41.agg=true:=by rfl
theorem de41:ti41.desc=(.array 11 40):=by rfl
theorem ze41:ti41.zero=(.g ((List.replicate 11 (.int .u32 0)))):=by rfl
theorem by41:ti41.bytes=44:=by rfl
theorem eq41 (a b:List C):eqT K 20 41 (.g a) (.g b)=(bif true&&Nat.beq a.length 11&&Nat.beq b.length 11 then eqInts a b else none):=by kernel_rfl
theorem ty43:K.types.get 43=some ti43:=by kernel_rfl
theorem sz43:ti43.size=16:=by rfl
theorem ag43:ti43.agg=true:=by rfl
theorem fo43_0:fieldOf K 43 0=some (0,ti5):=by kernel_rfl
theorem fo43_1:fieldOf K 43 1=some (1,ti3):=by kernel_rfl
theorem fo43_2:fieldOf K 43 2=some (2,ti40):=by kernel_rfl
theorem fo43_3:fieldOf K 43 3=some (3,ti3):=by kernel_rfl
theorem fo43_4:fieldOf K 43 4=some (4,ti41):=by kernel_rfl
theorem fo43_5:fieldOf K 43 5=some (15,ti40):=by kernel_rfl
theorem bu43 (ps:List (Nat × W)):opBuild K 43 (some ps)=gW (fillStruct K 43 ps ti43.zero.cells):=by kernel_rfl
theorem ze43:ti43.zero=(.g ([.int .u8 0,.int .i64 0,.int .u32 0,.int .i64 0,.int .u32 0,.int .u32 0,.int .u32 0,.int .u32 0,.int .u32 0,.int .u32 0,.int .u32 0,.int .u32 0,.int .u32 0,.int .u32 0,.int .u32 0,.int .u32 0])):=by rfl
theorem by43:ti43.bytes=80:=by rfl
attribute [go_sem] ty23 sz23 ag23 fo23_0 fo23_1 fo23_2 fo23_3 bu23 ze23 by23 ty32 sz32 ag32 de32 ze32 by32 ke32 ty40 sz40 ag40 de40 ze40 by40 ke40 ty41 sz41 ag41 de41 ze41 by41 eq41 ty43 sz43 ag43 fo43_0 fo43_1 fo43_2 fo43_3 fo43_4 fo43_5 bu43 ze43 by43
noncomputable def q4 (p:List Nat):Code:=piece p (bodyOf Tryz.f4)
theorem q4_:q4 []=.seq (q4 [0]) (q4 [1]):=by kernel_rfl
theorem q4_0:q4 [0]=.region 0 (opsA (q4 [0])) false:=by kernel_rfl
theorem q4_1:q4 [1]=.seq (q4 [1,0]) (q4 [1,1]):=by kernel_rfl
theorem q4_10:q4 [1,0]=.region 1 (opsA (q4 [1,0])) false:=by kernel_rfl
theorem q4_11:q4 [1,1]=.seq (q4 [1,1,0]) (q4 [1,1,1]):=by kernel_rfl
theorem q4_110:q4 [1,1,0]=.seq (q4 [1,1,0,0]) (q4 [1,1,0,1]):=by kernel_rfl
theorem q4_1100:q4 [1,1,0,0]=.region 2 (opsA (q4 [1,1,0,0])) false:=by kernel_rfl
theorem q4_1101:q4 [1,1,0,1]=.cond (.tmp 28) (q4 [1,1,0,1,3]) (q4 [1,1,0,1,4]):=by kernel_rfl
theorem q4_11014:q4 [1,1,0,1,4]=.skip:=by kernel_rfl
theorem q4_111:q4 [1,1,1]=.seq (q4 [1,1,1,0]) (q4 [1,1,1,1]):=by kernel_rfl
theorem q4_1110:q4 [1,1,1,0]=.region 4 (opsA (q4 [1,1,1,0])) false:=by kernel_rfl
theorem q4_1111:q4 [1,1,1,1]=.seq (q4 [1,1,1,1,0]) (q4 [1,1,1,1,1]):=by kernel_rfl
theorem q4_11110:q4 [1,1,1,1,0]=.region 5 (opsA (q4 [1,1,1,1,0])) false:=by kernel_rfl
theorem q4_11111:q4 [1,1,1,1,1]=.seq (q4 [1,1,1,1,1,0]) (q4 [1,1,1,1,1,1]):=by kernel_rfl
theorem q4_111110:q4 [1,1,1,1,1,0]=.region 6 (opsA (q4 [1,1,1,1,1,0])) false:=by kernel_rfl
theorem q4_111111:q4 [1,1,1,1,1,1]=.seq (q4 [1,1,1,1,1,1,0]) (q4 [1,1,1,1,1,1,1]):=by kernel_rfl
theorem q4_1111110:q4 [1,1,1,1,1,1,0]=.region 7 (opsA (q4 [1,1,1,1,1,1,0])) false:=by kernel_rfl
theorem q4_1111111:q4 [1,1,1,1,1,1,1]=.seq (q4 [1,1,1,1,1,1,1,0]) (q4 [1,1,1,1,1,1,1,1]):=by kernel_rfl
theorem q4_11111110:q4 [1,1,1,1,1,1,1,0]=.region 8 (opsA (q4 [1,1,1,1,1,1,1,0])) false:=by kernel_rfl
theorem q4_11111111:q4 [1,1,1,1,1,1,1,1]=.seq (q4 [1,1,1,1,1,1,1,1,0]) (q4 [1,1,1,1,1,1,1,1,1]):=by kernel_rfl
theorem q4_111111110:q4 [1,1,1,1,1,1,1,1,0]=.region 9 (opsA (q4 [1,1,1,1,1,1,1,1,0])) false:=by kernel_rfl
theorem q4_111111111:q4 [1,1,1,1,1,1,1,1,1]=.seq (q4 [1,1,1,1,1,1,1,1,1,0]) (q4 [1,1,1,1,1,1,1,1,1,1]):=by kernel_rfl
theorem q4_1111111110:q4 [1,1,1,1,1,1,1,1,1,0]=.region 10 (opsA (q4 [1,1,1,1,1,1,1,1,1,0])) false:=by kernel_rfl
theorem rs4:Tryz.f4.results.toList=[.tmp 0]:=rfl
attribute [go_sem] rs4
section
variable (Hh:Hearts K Tryz.prog)
include Hh
set_option maxHeartbeats 4000000 in
theorem awOk:∃ h',CallOk K Tryz.prog 4 [] awH0 (.w (.c (.bool true))) h':=by
  have hX:=x3_ok Hh
  have c1:CallOk K Tryz.prog _ _ _ _ awH1:=CallOk.took fits Hh hX awrun1
  have c2:CallOk K Tryz.prog _ _ _ _ awH2:=CallOk.took fits Hh hX awrun2
  have c3:CallOk K Tryz.prog _ _ _ _ awH3:=CallOk.took fits Hh hX awrun3
  have c4:CallOk K Tryz.prog _ _ _ _ awH4:=CallOk.took fits Hh hX awrun4
  have c5:CallOk K Tryz.prog _ _ _ _ awH5:=CallOk.took fits Hh hX awrun5
  have c6:CallOk K Tryz.prog _ _ _ _ awH6:=CallOk.took fits Hh hX awrun6
  have c7:CallOk K Tryz.prog _ _ _ _ awH7:=CallOk.took fits Hh hX awrun7
  have c8:CallOk K Tryz.prog _ _ _ _ awH8:=CallOk.took fits Hh hX awrun8
  have c9:CallOk K Tryz.prog _ _ _ _ awH9:=CallOk.took fits Hh hX awrun9
  have c10:CallOk K Tryz.prog _ _ _ _ awH10:=CallOk.took fits Hh hX awrun10
  have c11:CallOk K Tryz.prog _ _ _ _ awH11:=CallOk.took fits Hh hX awrun11
  obtain⟨v,h',c,rfl⟩:∃ v h',CallOk K Tryz.prog 4 [] awH0 v h'∧v=.w (.c (.bool true)):=by
   refine CallOk.goesE fits Hh (by kernel_rfl) (by kernel_rfl) (by kernel_rfl) (show Tryz.f4.body=some (q4 []) by kernel_rfl) rfl ?_
   show Goes K Tryz.prog 117 none _ _ _ _ _
   refine Goes.seqQ q4_ ?_
   refine Goes.opsQ q4_0 fits Hh E0_sound (by
     simp (maxSteps:=9^6) +decide (disch:=first|omega|(simp only[H.next_new,H.next_put,awn1,awn2,awn3,awn4,awn5,awn6,awn7,awn8,awn9,awn10,awn11]<;>omega)|decide) only [go_sem,q4,Tryz.f4,readRow,loadIn,simprocAttr,E1_skipN,awn1,awn2,awn3,awn4,awn5,awn6,awn7,awn8,awn9,awn10,awg10,awe11,awg12,awn11,read1,List.replicate_succ,List.replicate_zero,opBuildSlice,fillEls,newSlice,opBox,opConvMore,convD,convStr,convSame,sameD,sameRow]
     rfl) ?_
   refine Goes.seqQ q4_1 ?_
   refine Goes.opsQ q4_10 fits Hh (E1_sound E0_sound c1) (by
     simp (maxSteps:=9^6) +decide (disch:=first|omega|(simp only[H.next_new,H.next_put,awn1,awn2,awn3,awn4,awn5,awn6,awn7,awn8,awn9,awn10,awn11]<;>omega)|decide) only [go_sem,q4,Tryz.f4,readRow,loadIn,simprocAttr,E1_skipN,E1_call,awn1,awn2,awn3,awn4,awn5,awn6,awn7,awn8,awn9,awn10,awg10,awe11,awg12,awn11,read1,List.replicate_succ,List.replicate_zero,opBuildSlice,fillEls,newSlice,opBox,opConvMore,convD,convStr,convSame,sameD,sameRow]
     rfl) ?_
   refine Goes.seqQ q4_11 ?_
   refine Goes.seqQ q4_110 ?_
   refine Goes.opsQ q4_1100 fits Hh (E1_sound E0_sound c2) (by
     simp (maxSteps:=9^6) +decide (disch:=first|omega|(simp only[H.next_new,H.next_put,awn1,awn2,awn3,awn4,awn5,awn6,awn7,awn8,awn9,awn10,awn11]<;>omega)|decide) only [go_sem,q4,Tryz.f4,readRow,loadIn,simprocAttr,E1_skipN,E1_call,awn1,awn2,awn3,awn4,awn5,awn6,awn7,awn8,awn9,awn10,awg10,awe11,awg12,awn11,read1,List.replicate_succ,List.replicate_zero,opBuildSlice,fillEls,newSlice,opBox,opConvMore,convD,convStr,convSame,sameD,sameRow]
     rfl) ?_
   refine Goes.condFQ q4_1101 (by simp (maxSteps:=9^6) +decide (disch:=first|omega|(simp only[H.next_new,H.next_put,awn1,awn2,awn3,awn4,awn5,awn6,awn7,awn8,awn9,awn10,awn11]<;>omega)|decide) only [go_sem,readRow,loadIn,simprocAttr,E1_skipN,awn1,awn2,awn3,awn4,awn5,awn6,awn7,awn8,awn9,awn10,awg10,awe11,awg12,awn11,read1,List.replicate_succ,List.replicate_zero,opBuildSlice,fillEls,newSlice,opBox,opConvMore,convD,convStr,convSame,sameD,sameRow]<;>rfl) (by first|rfl|assumption|exact decide_eq_false (by omega)|(simp; omega)) ?_
   refine Goes.skipQ q4_11014 ?_
   refine Goes.seqQ q4_111 ?_
   refine Goes.opsQ q4_1110 fits Hh (E1_sound E0_sound c3) (by
     simp (maxSteps:=9^6) +decide (disch:=first|omega|(simp only[H.next_new,H.next_put,awn1,awn2,awn3,awn4,awn5,awn6,awn7,awn8,awn9,awn10,awn11]<;>omega)|decide) only [go_sem,q4,Tryz.f4,readRow,loadIn,simprocAttr,E1_skipN,E1_call,awn1,awn2,awn3,awn4,awn5,awn6,awn7,awn8,awn9,awn10,awg10,awe11,awg12,awn11,read1,List.replicate_succ,List.replicate_zero,opBuildSlice,fillEls,newSlice,opBox,opConvMore,convD,convStr,convSame,sameD,sameRow]
     rfl) ?_
   refine Goes.seqQ q4_1111 ?_
   refine Goes.opsQ q4_11110 fits Hh (E1_sound E0_sound c4) (by
     simp (maxSteps:=9^6) +decide (disch:=first|omega|(simp only[H.next_new,H.next_put,awn1,awn2,awn3,awn4,awn5,awn6,awn7,awn8,awn9,awn10,awn11]<;>omega)|decide) only [go_sem,q4,Tryz.f4,readRow,loadIn,simprocAttr,E1_skipN,E1_call,awn1,awn2,awn3,awn4,awn5,awn6,awn7,awn8,awn9,awn10,awg10,awe11,awg12,awn11,read1,List.replicate_succ,List.replicate_zero,opBuildSlice,fillEls,newSlice,opBox,opConvMore,convD,convStr,convSame,sameD,sameRow]
     rfl) ?_
   refine Goes.seqQ q4_11111 ?_
   refine Goes.opsQ q4_111110 fits Hh (E1_sound E0_sound c5) (by
     simp (maxSteps:=9^6) +decide (disch:=first|omega|(simp only[H.next_new,H.next_put,awn1,awn2,awn3,awn4,awn5,awn6,awn7,awn8,awn9,awn10,awn11]<;>omega)|decide) only [go_sem,q4,Tryz.f4,readRow,loadIn,simprocAttr,E1_skipN,E1_call,awn1,awn2,awn3,awn4,awn5,awn6,awn7,awn8,awn9,awn10,awg10,awe11,awg12,awn11,read1,List.replicate_succ,List.replicate_zero,opBuildSlice,fillEls,newSlice,opBox,opConvMore,convD,convStr,convSame,sameD,sameRow]
     rfl) ?_
   refine Goes.seqQ q4_111111 ?_
   refine Goes.opsQ q4_1111110 fits Hh (E1_sound (E1_sound E0_sound c6) c7) (by
     simp (maxSteps:=9^6) +decide (disch:=first|omega|(simp only[H.next_new,H.next_put,awn1,awn2,awn3,awn4,awn5,awn6,awn7,awn8,awn9,awn10,awn11]<;>omega)|decide) only [go_sem,q4,Tryz.f4,readRow,loadIn,simprocAttr,E1_skipN,E1_call,awn1,awn2,awn3,awn4,awn5,awn6,awn7,awn8,awn9,awn10,awg10,awe11,awg12,awn11,read1,List.replicate_succ,List.replicate_zero,opBuildSlice,fillEls,newSlice,opBox,opConvMore,convD,convStr,convSame,sameD,sameRow]
     rfl) ?_
   refine Goes.seqQ q4_1111111 ?_
   refine Goes.opsQ q4_11111110 fits Hh (E1_sound E0_sound c8) (by
     simp (maxSteps:=9^6) +decide (disch:=first|omega|(simp only[H.next_new,H.next_put,awn1,awn2,awn3,awn4,awn5,awn6,awn7,awn8,awn9,awn10,awn11]<;>omega)|decide) only [go_sem,q4,Tryz.f4,readRow,loadIn,simprocAttr,E1_skipN,E1_call,awn1,awn2,awn3,awn4,awn5,awn6,awn7,awn8,awn9,awn10,awg10,awe11,awg12,awn11,read1,List.replicate_succ,List.replicate_zero,opBuildSlice,fillEls,newSlice,opBox,opConvMore,convD,convStr,convSame,sameD,sameRow]
     rfl) ?_
   refine Goes.seqQ q4_11111111 ?_
   refine Goes.opsQ q4_111111110 fits Hh (E1_sound E0_sound c9) (by
     simp (maxSteps:=9^6) +decide (disch:=first|omega|(simp only[H.next_new,H.next_put,awn1,awn2,awn3,awn4,awn5,awn6,awn7,awn8,awn9,awn10,awn11]<;>omega)|decide) only [go_sem,q4,Tryz.f4,readRow,loadIn,simprocAttr,E1_skipN,E1_call,awn1,awn2,awn3,awn4,awn5,awn6,awn7,awn8,awn9,awn10,awg10,awe11,awg12,awn11,read1,List.replicate_succ,List.replicate_zero,opBuildSlice,fillEls,newSlice,opBox,opConvMore,convD,convStr,convSame,sameD,sameRow]
     rfl) ?_
   refine Goes.seqQ q4_111111111 ?_
   refine Goes.opsQ q4_1111111110 fits Hh (E1_sound E0_sound c10) (by
     simp (maxSteps:=9^6) +decide (disch:=first|omega|(simp only[H.next_new,H.next_put,awn1,awn2,awn3,awn4,awn5,awn6,awn7,awn8,awn9,awn10,awn11]<;>omega)|decide) only [go_sem,q4,Tryz.f4,readRow,loadIn,simprocAttr,E1_skipN,E1_call,awn1,awn2,awn3,awn4,awn5,awn6,awn7,awn8,awn9,awn10,awg10,awe11,awg12,awn11,read1,List.replicate_succ,List.replicate_zero,opBuildSlice,fillEls,newSlice,opBox,opConvMore,convD,convStr,convSame,sameD,sameRow]
     rfl) ?_
   exact Goes.restTrue fits Hh hX (k:=4000) (fn:=Tryz.f4) (by kernel_rfl)
  exact⟨h',c⟩
noncomputable def xaw (args:List W) (h:Go.Ev.H):Option (V × Go.Ev.H):=match args with
  | []=>bif isSteps (h.get 0) then some (.w (.c (.bool true)),h) else none
  | _=>none
theorem xaw_ok {args:List W} {h h':Go.Ev.H} {v:V} (e:xaw args h=some (v,h')):CallOk K Tryz.prog 4 args h v h':=by
  unfold xaw at e
  split at e
  · cases hb:isSteps (h.get 0) with
    | false=>rw[hb] at e; cases e
    | true =>
      rw[hb] at e
      cases e
      obtain⟨h1,c⟩:=awOk Hh
      exact CallOk.closedS gl c (by kernel_rfl) rfl rfl h (isSteps_eq hb)
  · cases e
end
end Go.Proofs.YtlbbmhgdcdcdnaaGreatDoor
