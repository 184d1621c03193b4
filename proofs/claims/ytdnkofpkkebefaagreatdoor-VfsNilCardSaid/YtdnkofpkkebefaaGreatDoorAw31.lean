/- quern/quernlaw31.awake: the walk. -/
import Derived.Test.YtdnkofpkkebefaaGreatDoorAw31r
set_option linter.unusedSimpArgs false
set_option linter.unusedVariables false
set_option linter.unusedSectionVars false
set_option maxRecDepth 100000
namespace Go.Proofs.YtdnkofpkkebefaaGreatDoor
open Go.Ev
theorem ty39 : K.types.get 39 = some ti39 := by kernel_rfl
theorem sz39 : ti39.size = 7 := by rfl
theorem ag39 : ti39.agg = true := by rfl
theorem fo39_0 : fieldOf K 39 0 = some (0, ti5) := by kernel_rfl
theorem fo39_1 : fieldOf K 39 1 = some (1, ti9) := by kernel_rfl
theorem fo39_2 : fieldOf K 39 2 = some (2, ti9) := by kernel_rfl
theorem fo39_3 : fieldOf K 39 3 = some (3, ti3) := by kernel_rfl
theorem fo39_4 : fieldOf K 39 4 = some (4, ti3) := by kernel_rfl
theorem fo39_5 : fieldOf K 39 5 = some (5, ti3) := by kernel_rfl
theorem fo39_6 : fieldOf K 39 6 = some (6, ti31) := by kernel_rfl
theorem bu39 (ps : List (Nat × W)) : opBuild K 39 (some ps) = gW (fillStruct K 39 ps ti39.zero.cells) := by kernel_rfl
theorem ze39 : ti39.zero = (.g ([.int .u8 0, .str [], .str [], .int .i64 0, .int .i64 0, .int .i64 0, .snil])) := by rfl
theorem by39 : ti39.bytes = 88 := by rfl
attribute [go_sem] ty39 sz39 ag39 fo39_0 fo39_1 fo39_2 fo39_3 fo39_4 fo39_5 fo39_6 bu39 ze39 by39
theorem rs15 : Tryz.f15.results.toList = [.tmp 0] := rfl
attribute [go_sem] rs15
section
variable (Hh : Hearts K Tryz.prog)
include Hh
set_option maxHeartbeats 4000000 in
theorem awOk : ∃ h', CallOk K Tryz.prog 15 [] awH0 (.w (.c (.bool true))) h' := by
  have hX := x31_ok Hh
  have c1 : CallOk K Tryz.prog _ _ _ _ awH1 := CallOk.took fits Hh hX awrun1
  have c2 : CallOk K Tryz.prog _ _ _ _ awH2 := CallOk.took fits Hh hX awrun2
  have c3 : CallOk K Tryz.prog _ _ _ _ awH3 := CallOk.took fits Hh hX awrun3
  have c4 : CallOk K Tryz.prog _ _ _ _ awH4 := CallOk.took fits Hh hX awrun4
  have c5 : CallOk K Tryz.prog _ _ _ _ awH5 := CallOk.took fits Hh hX awrun5
  have c6 : CallOk K Tryz.prog _ _ _ _ awH6 := CallOk.took fits Hh hX awrun6
  have c7 : CallOk K Tryz.prog _ _ _ _ awH7 := CallOk.took fits Hh hX awrun7
  have c8 : CallOk K Tryz.prog _ _ _ _ awH8 := CallOk.took fits Hh hX awrun8
  have c9 : CallOk K Tryz.prog _ _ _ _ awH9 := CallOk.took fits Hh hX awrun9
  have c10 : CallOk K Tryz.prog _ _ _ _ awH10 := CallOk.took fits Hh hX awrun10
  have c11 : CallOk K Tryz.prog _ _ _ _ awH11 := CallOk.took fits Hh hX awrun11
  obtain ⟨v, h', c, rfl⟩ : ∃ v h', CallOk K Tryz.prog 15 [] awH0 v h' ∧ v = .w (.c (.bool true)) := by
   refine fnGE Hh Tryz.f15 ?_
   iterate 3 (first | apply Goes.seq | (apply Goes.ops2 fits Hh E0_sound; · simp (maxSteps := 999999) +decide (discharger := first | omega | (simp only [H.next_new, H.next_put, awn1, awn2, awn3, awn4, awn5, awn6, awn7, awn8, awn9, awn10, awn11] <;> omega) | decide) only [go_sem, readRow, loadIn, simprocAttr, E1_skipN, awn1, awn2, awn3, awn4, awn5, awn6, awn7, awn8, awn9, awn10, awn11, awg11, awg12, awg13, awg14, awg15, read1, List.replicate_succ, List.replicate_zero, opBuildSlice, fillEls, newSlice, opBox, opConvMore, convD, convStr, convSame, sameD, sameRow] <;> rfl))
   iterate 7 (first | apply Goes.seq | apply Goes.skip | ((first | apply Goes.condV | apply Goes.ops2 fits Hh (E1_sound (E1_sound E0_sound c1) c2)); · simp (maxSteps := 999999) +decide (discharger := first | omega | (simp only [H.next_new, H.next_put, awn1, awn2, awn3, awn4, awn5, awn6, awn7, awn8, awn9, awn10, awn11] <;> omega) | decide) only [go_sem, readRow, loadIn, simprocAttr, E1_skipN, E1_call, awn1, awn2, awn3, awn4, awn5, awn6, awn7, awn8, awn9, awn10, awn11, awg11, awg12, awg13, awg14, awg15, read1, List.replicate_succ, List.replicate_zero, opBuildSlice, fillEls, newSlice, opBox, opConvMore, convD, convStr, convSame, sameD, sameRow] <;> rfl))
   iterate 2 (first | apply Goes.seq | (apply Goes.ops2 fits Hh (E1_sound E0_sound c3); · simp (maxSteps := 999999) +decide (discharger := first | omega | (simp only [H.next_new, H.next_put, awn1, awn2, awn3, awn4, awn5, awn6, awn7, awn8, awn9, awn10, awn11] <;> omega) | decide) only [go_sem, readRow, loadIn, simprocAttr, E1_skipN, E1_call, awn1, awn2, awn3, awn4, awn5, awn6, awn7, awn8, awn9, awn10, awn11, awg11, awg12, awg13, awg14, awg15, read1, List.replicate_succ, List.replicate_zero, opBuildSlice, fillEls, newSlice, opBox, opConvMore, convD, convStr, convSame, sameD, sameRow] <;> rfl))
   iterate 2 (first | apply Goes.seq | (apply Goes.ops2 fits Hh (E1_sound E0_sound c4); · simp (maxSteps := 999999) +decide (discharger := first | omega | (simp only [H.next_new, H.next_put, awn1, awn2, awn3, awn4, awn5, awn6, awn7, awn8, awn9, awn10, awn11] <;> omega) | decide) only [go_sem, readRow, loadIn, simprocAttr, E1_skipN, E1_call, awn1, awn2, awn3, awn4, awn5, awn6, awn7, awn8, awn9, awn10, awn11, awg11, awg12, awg13, awg14, awg15, read1, List.replicate_succ, List.replicate_zero, opBuildSlice, fillEls, newSlice, opBox, opConvMore, convD, convStr, convSame, sameD, sameRow] <;> rfl))
   iterate 2 (first | apply Goes.seq | (apply Goes.ops2 fits Hh (E1_sound E0_sound c5); · simp (maxSteps := 999999) +decide (discharger := first | omega | (simp only [H.next_new, H.next_put, awn1, awn2, awn3, awn4, awn5, awn6, awn7, awn8, awn9, awn10, awn11] <;> omega) | decide) only [go_sem, readRow, loadIn, simprocAttr, E1_skipN, E1_call, awn1, awn2, awn3, awn4, awn5, awn6, awn7, awn8, awn9, awn10, awn11, awg11, awg12, awg13, awg14, awg15, read1, List.replicate_succ, List.replicate_zero, opBuildSlice, fillEls, newSlice, opBox, opConvMore, convD, convStr, convSame, sameD, sameRow] <;> rfl))
   iterate 2 (first | apply Goes.seq | (apply Goes.ops2 fits Hh (E1_sound E0_sound c6); · simp (maxSteps := 999999) +decide (discharger := first | omega | (simp only [H.next_new, H.next_put, awn1, awn2, awn3, awn4, awn5, awn6, awn7, awn8, awn9, awn10, awn11] <;> omega) | decide) only [go_sem, readRow, loadIn, simprocAttr, E1_skipN, E1_call, awn1, awn2, awn3, awn4, awn5, awn6, awn7, awn8, awn9, awn10, awn11, awg11, awg12, awg13, awg14, awg15, read1, List.replicate_succ, List.replicate_zero, opBuildSlice, fillEls, newSlice, opBox, opConvMore, convD, convStr, convSame, sameD, sameRow] <;> rfl))
   iterate 2 (first | apply Goes.seq | (apply Goes.ops2 fits Hh (E1_sound E0_sound c7); · simp (maxSteps := 999999) +decide (discharger := first | omega | (simp only [H.next_new, H.next_put, awn1, awn2, awn3, awn4, awn5, awn6, awn7, awn8, awn9, awn10, awn11] <;> omega) | decide) only [go_sem, readRow, loadIn, simprocAttr, E1_skipN, E1_call, awn1, awn2, awn3, awn4, awn5, awn6, awn7, awn8, awn9, awn10, awn11, awg11, awg12, awg13, awg14, awg15, read1, List.replicate_succ, List.replicate_zero, opBuildSlice, fillEls, newSlice, opBox, opConvMore, convD, convStr, convSame, sameD, sameRow] <;> rfl))
   iterate 2 (first | apply Goes.seq | (apply Goes.ops2 fits Hh (E1_sound E0_sound c8); · simp (maxSteps := 999999) +decide (discharger := first | omega | (simp only [H.next_new, H.next_put, awn1, awn2, awn3, awn4, awn5, awn6, awn7, awn8, awn9, awn10, awn11] <;> omega) | decide) only [go_sem, readRow, loadIn, simprocAttr, E1_skipN, E1_call, awn1, awn2, awn3, awn4, awn5, awn6, awn7, awn8, awn9, awn10, awn11, awg11, awg12, awg13, awg14, awg15, read1, List.replicate_succ, List.replicate_zero, opBuildSlice, fillEls, newSlice, opBox, opConvMore, convD, convStr, convSame, sameD, sameRow] <;> rfl))
   iterate 2 (first | apply Goes.seq | (apply Goes.ops2 fits Hh (E1_sound E0_sound c9); · simp (maxSteps := 999999) +decide (discharger := first | omega | (simp only [H.next_new, H.next_put, awn1, awn2, awn3, awn4, awn5, awn6, awn7, awn8, awn9, awn10, awn11] <;> omega) | decide) only [go_sem, readRow, loadIn, simprocAttr, E1_skipN, E1_call, awn1, awn2, awn3, awn4, awn5, awn6, awn7, awn8, awn9, awn10, awn11, awg11, awg12, awg13, awg14, awg15, read1, List.replicate_succ, List.replicate_zero, opBuildSlice, fillEls, newSlice, opBox, opConvMore, convD, convStr, convSame, sameD, sameRow] <;> rfl))
   iterate 2 (first | apply Goes.seq | (apply Goes.ops2 fits Hh (E1_sound E0_sound c10); · simp (maxSteps := 999999) +decide (discharger := first | omega | (simp only [H.next_new, H.next_put, awn1, awn2, awn3, awn4, awn5, awn6, awn7, awn8, awn9, awn10, awn11] <;> omega) | decide) only [go_sem, readRow, loadIn, simprocAttr, E1_skipN, E1_call, awn1, awn2, awn3, awn4, awn5, awn6, awn7, awn8, awn9, awn10, awn11, awg11, awg12, awg13, awg14, awg15, read1, List.replicate_succ, List.replicate_zero, opBuildSlice, fillEls, newSlice, opBox, opConvMore, convD, convStr, convSame, sameD, sameRow] <;> rfl))
   (apply Goes.ops2 fits Hh (E1_sound E0_sound c11); · simp (maxSteps := 999999) +decide (discharger := first | omega | (simp only [H.next_new, H.next_put, awn1, awn2, awn3, awn4, awn5, awn6, awn7, awn8, awn9, awn10, awn11] <;> omega) | decide) only [go_sem, readRow, loadIn, simprocAttr, E1_skipN, E1_call, awn1, awn2, awn3, awn4, awn5, awn6, awn7, awn8, awn9, awn10, awn11, awg11, awg12, awg13, awg14, awg15, read1, List.replicate_succ, List.replicate_zero, opBuildSlice, fillEls, newSlice, opBox, opConvMore, convD, convStr, convSame, sameD, sameRow] <;> rfl)
   exact Goes.restTrue fits Hh hX (k := 4000) (fn := Tryz.f15) (by kernel_rfl)
  exact ⟨h', c⟩
noncomputable def xaw (args : List W) (h : Go.Ev.H) : Option (V × Go.Ev.H) := match args with
  | [] => bif isSteps (h.get 0) then some (.w (.c (.bool true)), h) else none
  | _ => none
theorem xaw_ok {args : List W} {h h' : Go.Ev.H} {v : V} (e : xaw args h = some (v, h')) : CallOk K Tryz.prog 15 args h v h' := by
  unfold xaw at e
  split at e
  · cases hb : isSteps (h.get 0) with
    | false => rw [hb] at e; cases e
    | true =>
      rw [hb] at e
      cases e
      obtain ⟨h1, c⟩ := awOk Hh
      exact CallOk.closedS gl c (by kernel_rfl) rfl rfl h (isSteps_eq hb)
  · cases e
noncomputable def xawK : Kn := fun f args h => bif Nat.beq f 15 then xaw args h else none
theorem xawK_ok : KnOk K Tryz.prog xawK := by
  intro f args h v h' e
  unfold xawK at e
  cases h1 : Nat.beq f 15 with
  | true =>
    rw [h1] at e
    obtain rfl := Nat.eq_of_beq_eq_true h1
    exact xaw_ok Hh e
  | false => rw [h1] at e; cases e
end
end Go.Proofs.YtdnkofpkkebefaaGreatDoor
