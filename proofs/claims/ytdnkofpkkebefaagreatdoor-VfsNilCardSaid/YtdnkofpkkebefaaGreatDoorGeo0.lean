/- geo.May and geo.Blocks, of a geometry that may be. -/
import Derived.Test.YtdnkofpkkebefaaGreatDoorFine
set_option linter.unusedSimpArgs false
set_option linter.unusedVariables false
set_option linter.unusedSectionVars false
set_option maxRecDepth 100000
namespace Go.Proofs.YtdnkofpkkebefaaGreatDoor
open Go.Ev
theorem ty3 : K.types.get 3 = some ti3 := by kernel_rfl
theorem sz3 : ti3.size = 1 := by rfl
theorem ag3 : ti3.agg = false := by rfl
theorem de3 : ti3.desc = (.int .i64) := by rfl
theorem ze3 : ti3.zero = (.c (.int .i64 0)) := by rfl
theorem by3 : ti3.bytes = 8 := by rfl
theorem ke3 (k : IntKind) (n : Int) : keyT K 20 3 (.c (.int k n)) = true := by kernel_rfl
theorem ty4 : K.types.get 4 = some ti4 := by kernel_rfl
theorem sz4 : ti4.size = 1 := by rfl
theorem ag4 : ti4.agg = false := by rfl
theorem de4 : ti4.desc = .bool := by rfl
theorem ze4 : ti4.zero = (.c (.bool false)) := by rfl
theorem by4 : ti4.bytes = 1 := by rfl
theorem ty28 : K.types.get 28 = some ti28 := by kernel_rfl
theorem sz28 : ti28.size = 4 := by rfl
theorem ag28 : ti28.agg = true := by rfl
theorem fo28_0 : fieldOf K 28 0 = some (0, ti3) := by kernel_rfl
theorem fo28_1 : fieldOf K 28 1 = some (1, ti3) := by kernel_rfl
theorem fo28_2 : fieldOf K 28 2 = some (2, ti3) := by kernel_rfl
theorem fo28_3 : fieldOf K 28 3 = some (3, ti3) := by kernel_rfl
theorem bu28 (ps : List (Nat × W)) : opBuild K 28 (some ps) = gW (fillStruct K 28 ps ti28.zero.cells) := by kernel_rfl
theorem ze28 : ti28.zero = (.g ([.int .i64 0, .int .i64 0, .int .i64 0, .int .i64 0])) := by rfl
theorem by28 : ti28.bytes = 32 := by rfl
attribute [go_sem] ty3 sz3 ag3 de3 ze3 by3 ke3 ty4 sz4 ag4 de4 ze4 by4 ty28 sz28 ag28 fo28_0 fo28_1 fo28_2 fo28_3 bu28 ze28 by28
theorem rs73 : Tryz.f73.results.toList = [.tmp 2] := rfl
theorem rs25 : Tryz.f25.results.toList = [.tmp 2] := rfl
attribute [go_sem] rs73 rs25
section
variable (Hh : Hearts K Tryz.prog)
include Hh
theorem gMayOk {gr sz ino jr : Nat} (F : Fine gr sz ino jr) (h : Go.Ev.H) : CallOk K Tryz.prog 73 [.g (geoL gr sz ino jr)] h (.w (.c (.bool true))) h := by
 obtain ⟨g1, g2, g3, g4, g5, g6, g7, g8, g9, g10, g11⟩ := F
 have gm : (gr : Int) * (sz : Int) = ((gr * sz : Nat) : Int) := rfl
 obtain ⟨v, h', c, rfl, hk⟩ : ∃ v h', CallOk K Tryz.prog 73 [.g (geoL gr sz ino jr)] h v h' ∧ v = .w (.c (.bool true)) ∧ ∀ m, m < h.next → h'.get m = h.get m := by
  refine fnGE Hh Tryz.f73 ?_
  repeat (first | apply Goes.seq | apply Goes.block | apply Goes.skip | apply Goes.ret | ((first | apply Goes.condV | apply Goes.ops2 fits Hh E0_sound); · simp (maxSteps := 999999) +decide (discharger := first | omega | (simp only [lens] <;> omega) | decide) only [go_sem, readRow, loadIn, simprocAttr, geoL, gm, read1] <;> rfl))
  refine ⟨_, _, autBar, rfl, fun m hm => ?_⟩
  simp (maxSteps := 999999) +decide (discharger := first | omega | (simp only [lens] <;> omega) | decide) only [go_sem, readRow, loadIn, simprocAttr]
 exact CallOk.quiet c rfl hk
end
end Go.Proofs.YtdnkofpkkebefaaGreatDoor
