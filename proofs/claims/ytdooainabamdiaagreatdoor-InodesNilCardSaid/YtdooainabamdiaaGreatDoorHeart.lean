/- What the evaluator knows by heart stands in the program: maps.Clone, the iterators of maps.Keys, slices.Sorted. -/
import Derived.Test.YtdooainabamdiaaGreatDoorLay
import Derived.Test.YtdooainabamdiaaGreatDoorCfg
import Derived.Test.YtdooainabamdiaaGreatDoorEvC
import Derived.WalkKit
import Derived.Shelf.SlMaps.Clone
import Derived.KernelRfl
set_option linter.unusedSimpArgs false
set_option linter.unusedVariables false
set_option linter.unusedSectionVars false
namespace Go.Proofs.YtdooainabamdiaaGreatDoor
open Go.Ev Go.RowKit

set_option maxHeartbeats 2000000 in
set_option maxRecDepth 100000 in
theorem clone133some (w : World) (b : Nat) (es : Array MapEntry) (clock : Nat) (hb : w.heap[b]? = some (.map es clock)) :
    Calls Tryz.prog 133 #[.map (some b)] w fun e w' => e = .returned (.map (some w.heap.size)) ∧ w' = w.alloc (.map es clock) := by
  have hq := fun w => run_eql_map_nil_sl (P := Tryz.prog) w 157 _ _ (some b) Tryz.underlying157
  go_enter Tryz.func133, Tryz.ntmps133
  go_wp2
  rw [run_callFunc_extern Tryz.func157 (by kernel_rfl) (by kernel_rfl) (by kernel_rfl) (e := Extern.MapsClone.clone) (by kernel_rfl), run_maps_clone_sl w 157 hb]
  simp only [Result.andThen]
  rw [Oper.upon_value]
  go_wp2
  rw [run_typeAssert_map_sl _ 157 _ _ _ _ Tryz.underlying157]
  simp only [Result.andThen]
  rw [Oper.upon_value]
  go_wp2
  go_ret
  exact ⟨rfl, rfl⟩

set_option maxHeartbeats 2000000 in
set_option maxRecDepth 100000 in
theorem clone133none (w : World) : Calls Tryz.prog 133 #[.map none] w fun e w' => e = .returned (.map none) ∧ w' = w := by
  have hq := fun w => run_eql_map_nil_sl (P := Tryz.prog) w 157 _ _ none Tryz.underlying157
  go_enter Tryz.func133, Tryz.ntmps133
  go_wp2
  go_ret
  exact ⟨rfl, rfl⟩

theorem clone133 : CloneC Tryz.prog 133 := ⟨⟨Tryz.f133, Tryz.func133, by kernel_rfl, by decide⟩, clone133some, clone133none⟩

set_option maxHeartbeats 2000000 in
set_option maxRecDepth 100000 in
theorem clone134some (w : World) (b : Nat) (es : Array MapEntry) (clock : Nat) (hb : w.heap[b]? = some (.map es clock)) :
    Calls Tryz.prog 134 #[.map (some b)] w fun e w' => e = .returned (.map (some w.heap.size)) ∧ w' = w.alloc (.map es clock) := by
  have hq := fun w => run_eql_map_nil_sl (P := Tryz.prog) w 158 _ _ (some b) Tryz.underlying158
  go_enter Tryz.func134, Tryz.ntmps134
  go_wp2
  rw [run_callFunc_extern Tryz.func157 (by kernel_rfl) (by kernel_rfl) (by kernel_rfl) (e := Extern.MapsClone.clone) (by kernel_rfl), run_maps_clone_sl w 158 hb]
  simp only [Result.andThen]
  rw [Oper.upon_value]
  go_wp2
  rw [run_typeAssert_map_sl _ 158 _ _ _ _ Tryz.underlying158]
  simp only [Result.andThen]
  rw [Oper.upon_value]
  go_wp2
  go_ret
  exact ⟨rfl, rfl⟩

set_option maxHeartbeats 2000000 in
set_option maxRecDepth 100000 in
theorem clone134none (w : World) : Calls Tryz.prog 134 #[.map none] w fun e w' => e = .returned (.map none) ∧ w' = w := by
  have hq := fun w => run_eql_map_nil_sl (P := Tryz.prog) w 158 _ _ none Tryz.underlying158
  go_enter Tryz.func134, Tryz.ntmps134
  go_wp2
  go_ret
  exact ⟨rfl, rfl⟩

theorem clone134 : CloneC Tryz.prog 134 := ⟨⟨Tryz.f134, Tryz.func134, by kernel_rfl, by decide⟩, clone134some, clone134none⟩
theorem keys162 : KeysC Tryz.prog 162 := ⟨Tryz.keys144_ren, { Tryz.keys144 with }, by kernel_rfl, fun args w => callFunc_enter ⟨Tryz.f162, Tryz.func162, by kernel_rfl, by decide⟩ args w⟩
theorem keys219 : KeysC Tryz.prog 219 := ⟨Tryz.keys203_ren, { Tryz.keys203 with }, by kernel_rfl, fun args w => callFunc_enter ⟨Tryz.f219, Tryz.func219, by kernel_rfl, by decide⟩ args w⟩
open Go.Sort in
theorem sorts143 : AnyZI.SortsIn Tryz.prog Tryz.sorted143_ren Fence.wide 3 :=
  ⟨fun blk off cap ss W hH hb hs => callsIn_wide.2 (Any.slices_Sort_int Tryz.lays189 blk off cap ss W hH hb hs), fun p cap W => callsIn_wide.2 (Any.slices_Sort_int_none Tryz.lays189 p cap W)⟩
theorem sorted143 : SortC Tryz.prog 143 :=
  ⟨⟨Tryz.f143, Tryz.func143, by kernel_rfl, by decide⟩, Tryz.sorted143_ren, Tryz.sorted143, by kernel_rfl, sorts143, fun args w => callFunc_enter (f := 142) ⟨Tryz.f142, Tryz.func142, by kernel_rfl, by decide⟩ args w⟩

theorem hearts : Hearts K Tryz.prog := by
  refine ⟨fun f hf => ?_, fun f t hf => ?_⟩
  · have hf' : f ∈ [133, 134] := List.contains_iff_mem.1 hf
    simp only [List.mem_cons, List.not_mem_nil, or_false] at hf'
    rcases hf' with rfl | rfl
    · exact ⟨clone133.call, fun args h v h' hv ρ w vals r m hr hd ha => clone_ok clone133 hv hr hd ha⟩
    · exact ⟨clone134.call, fun args h v h' hv ρ w vals r m hr hd ha => clone_ok clone134 hv hr hd ha⟩
  · have kc : ∀ g, K.keys.contains g = true → KeysC Tryz.prog g := fun g hg => by
      have hg' : g ∈ [162, 219] := List.contains_iff_mem.1 hg
      simp only [List.mem_cons, List.not_mem_nil, or_false] at hg'
      rcases hg' with rfl | rfl
      · exact keys162
      · exact keys219
    have e : f = 143 := by
      have hf2 : List.lookup f [(143, 3)] = some t := hf
      simp only [List.lookup] at hf2
      split at hf2
      · rename_i hb
        exact eq_of_beq hb
      · cases hf2
    subst e
    exact ⟨sorted143.call, fun args h v h' hv ρ w vals r m hr hd ha => sorted_ok sorted143 kc hv hr hd ha⟩
end Go.Proofs.YtdooainabamdiaaGreatDoor
