/- What the evaluator knows by heart stands in the program: maps.Clone, the iterators of maps.Keys, slices.Sorted. -/
import Derived.Test.YtdnkofpkkebefaaGreatDoorLay
import Derived.Test.YtdnkofpkkebefaaGreatDoorCfg
import Derived.Test.YtdnkofpkkebefaaGreatDoorEvC
import Derived.WalkKit
import Derived.Shelf.SlMaps.Clone
import Derived.KernelRfl
set_option linter.unusedSimpArgs false
set_option linter.unusedVariables false
set_option linter.unusedSectionVars false
namespace Go.Proofs.YtdnkofpkkebefaaGreatDoor
open Go.Ev Go.RowKit
set_option maxHeartbeats 2000000 in
set_option maxRecDepth 100000 in
theorem clone458some (w : World) (b : Nat) (es : Array MapEntry) (clock : Nat) (hb : w.heap[b]? = some (.map es clock)) :
  Calls Tryz.prog 458 #[.map (some b)] w fun e w' => e = .returned (.map (some w.heap.size)) ∧ w' = w.alloc (.map es clock) := by
 have hq := fun w => run_eql_map_nil_sl (P := Tryz.prog) w 190 _ _ (some b) Tryz.underlying190
 go_enter Tryz.func458, Tryz.ntmps458
 go_wp2
 rw [run_callFunc_extern Tryz.func493 (by kernel_rfl) (by kernel_rfl) (by kernel_rfl) (e := Extern.MapsClone.clone) (by kernel_rfl), run_maps_clone_sl w 190 hb]
 simp only [Result.andThen]
 rw [Oper.upon_value]
 go_wp2
 rw [run_typeAssert_map_sl _ 190 _ _ _ _ Tryz.underlying190]
 simp only [Result.andThen]
 rw [Oper.upon_value]
 go_wp2
 go_ret
 exact ⟨rfl, rfl⟩
set_option maxHeartbeats 2000000 in
set_option maxRecDepth 100000 in
theorem clone458none (w : World) : Calls Tryz.prog 458 #[.map none] w fun e w' => e = .returned (.map none) ∧ w' = w := by
 have hq := fun w => run_eql_map_nil_sl (P := Tryz.prog) w 190 _ _ none Tryz.underlying190
 go_enter Tryz.func458, Tryz.ntmps458
 go_wp2
 go_ret
 exact ⟨rfl, rfl⟩
theorem clone458 : CloneC Tryz.prog 458 := ⟨⟨Tryz.f458, Tryz.func458, by kernel_rfl, by decide⟩, clone458some, clone458none⟩
set_option maxHeartbeats 2000000 in
set_option maxRecDepth 100000 in
theorem clone459some (w : World) (b : Nat) (es : Array MapEntry) (clock : Nat) (hb : w.heap[b]? = some (.map es clock)) :
  Calls Tryz.prog 459 #[.map (some b)] w fun e w' => e = .returned (.map (some w.heap.size)) ∧ w' = w.alloc (.map es clock) := by
 have hq := fun w => run_eql_map_nil_sl (P := Tryz.prog) w 191 _ _ (some b) Tryz.underlying191
 go_enter Tryz.func459, Tryz.ntmps459
 go_wp2
 rw [run_callFunc_extern Tryz.func493 (by kernel_rfl) (by kernel_rfl) (by kernel_rfl) (e := Extern.MapsClone.clone) (by kernel_rfl), run_maps_clone_sl w 191 hb]
 simp only [Result.andThen]
 rw [Oper.upon_value]
 go_wp2
 rw [run_typeAssert_map_sl _ 191 _ _ _ _ Tryz.underlying191]
 simp only [Result.andThen]
 rw [Oper.upon_value]
 go_wp2
 go_ret
 exact ⟨rfl, rfl⟩
set_option maxHeartbeats 2000000 in
set_option maxRecDepth 100000 in
theorem clone459none (w : World) : Calls Tryz.prog 459 #[.map none] w fun e w' => e = .returned (.map none) ∧ w' = w := by
 have hq := fun w => run_eql_map_nil_sl (P := Tryz.prog) w 191 _ _ none Tryz.underlying191
 go_enter Tryz.func459, Tryz.ntmps459
 go_wp2
 go_ret
 exact ⟨rfl, rfl⟩
theorem clone459 : CloneC Tryz.prog 459 := ⟨⟨Tryz.f459, Tryz.func459, by kernel_rfl, by decide⟩, clone459some, clone459none⟩
theorem keys399 : KeysC Tryz.prog 399 := ⟨Tryz.keys301_ren, { Tryz.keys301 with }, by kernel_rfl, fun args w => callFunc_enter ⟨Tryz.f399, Tryz.func399, by kernel_rfl, by decide⟩ args w⟩
theorem keys401 : KeysC Tryz.prog 401 := ⟨Tryz.keys303_ren, { Tryz.keys303 with }, by kernel_rfl, fun args w => callFunc_enter ⟨Tryz.f401, Tryz.func401, by kernel_rfl, by decide⟩ args w⟩
theorem keys470 : KeysC Tryz.prog 470 := ⟨Tryz.keys422_ren, { Tryz.keys422 with }, by kernel_rfl, fun args w => callFunc_enter ⟨Tryz.f470, Tryz.func470, by kernel_rfl, by decide⟩ args w⟩
theorem keys471 : KeysC Tryz.prog 471 := ⟨Tryz.keys424_ren, { Tryz.keys424 with }, by kernel_rfl, fun args w => callFunc_enter ⟨Tryz.f471, Tryz.func471, by kernel_rfl, by decide⟩ args w⟩
open Go.Sort in
theorem sorts300 : AnyZI.SortsIn Tryz.prog Tryz.sorted300_ren Fence.wide 3 :=
 ⟨fun blk off cap ss W hH hb hs => callsIn_wide.2 (Any.slices_Sort_int Tryz.lays189 blk off cap ss W hH hb hs), fun p cap W => callsIn_wide.2 (Any.slices_Sort_int_none Tryz.lays189 p cap W)⟩
theorem sorted300 : SortC Tryz.prog 300 :=
 ⟨⟨Tryz.f300, Tryz.func300, by kernel_rfl, by decide⟩, Tryz.sorted300_ren, Tryz.sorted300, by kernel_rfl, sorts300, fun args w => callFunc_enter (f := 144) ⟨Tryz.f144, Tryz.func144, by kernel_rfl, by decide⟩ args w⟩
theorem hearts : Hearts K Tryz.prog := by
 refine ⟨fun f hf => ?_, fun f t hf => ?_⟩
 ·have hf' : f ∈ [458, 459] := List.contains_iff_mem.1 hf
  simp only [List.mem_cons, List.not_mem_nil, or_false] at hf'
  rcases hf' with rfl | rfl
  ·exact ⟨clone458.call, fun args h v h' hv ρ w vals r m hr hd ha => clone_ok clone458 hv hr hd ha⟩
  ·exact ⟨clone459.call, fun args h v h' hv ρ w vals r m hr hd ha => clone_ok clone459 hv hr hd ha⟩
 ·have kc : ∀ g, K.keys.contains g = true → KeysC Tryz.prog g := fun g hg => by
   have hg' : g ∈ [399, 401, 470, 471] := List.contains_iff_mem.1 hg
   simp only [List.mem_cons, List.not_mem_nil, or_false] at hg'
   rcases hg' with rfl | rfl | rfl | rfl
   ·exact keys399
   ·exact keys401
   ·exact keys470
   ·exact keys471
  have e : f = 300 := by
   have hf2 : List.lookup f [(300, 3)] = some t := hf
   simp only [List.lookup] at hf2
   split at hf2
   ·rename_i hb
    exact eq_of_beq hb
   ·cases hf2
  subst e
  exact ⟨sorted300.call, fun args h v h' hv ρ w vals r m hr hd ha => sorted_ok sorted300 kc hv hr hd ha⟩
end Go.Proofs.YtdnkofpkkebefaaGreatDoor
