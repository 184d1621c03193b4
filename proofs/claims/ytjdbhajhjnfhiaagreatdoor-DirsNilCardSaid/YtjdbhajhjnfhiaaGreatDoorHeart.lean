/- What the evaluator knows by heart stands in the program: maps.Clone, the iterators of maps.Keys, slices.Sorted. -/
import Derived.Test.YtjdbhajhjnfhiaaGreatDoorLay
import Derived.Test.YtjdbhajhjnfhiaaGreatDoorCfg
import Derived.Test.YtjdbhajhjnfhiaaGreatDoorEvC
import Derived.WalkKit
import Derived.Shelf.SlMaps.Clone
import Derived.KernelRfl
set_option linter.unusedSimpArgs false
set_option linter.unusedVariables false
set_option linter.unusedSectionVars false
namespace Go.Proofs.YtjdbhajhjnfhiaaGreatDoor
open Go.Ev Go.RowKit

set_option maxHeartbeats 2000000 in
set_option maxRecDepth 100000 in
theorem clone150some (w : World) (b : Nat) (es : Array MapEntry) (clock : Nat) (hb : w.heap[b]? = some (.map es clock)) :
    Calls Tryz.prog 150 #[.map (some b)] w fun e w' => e = .returned (.map (some w.heap.size)) ∧ w' = w.alloc (.map es clock) := by
  have hq := fun w => run_eql_map_nil_sl (P := Tryz.prog) w 149 _ _ (some b) Tryz.underlying149
  go_enter Tryz.func150, Tryz.ntmps150
  go_wp2
  rw [run_callFunc_extern Tryz.func187 (by kernel_rfl) (by kernel_rfl) (by kernel_rfl) (e := Extern.MapsClone.clone) (by kernel_rfl), run_maps_clone_sl w 149 hb]
  simp only [Result.andThen]
  rw [Oper.upon_value]
  go_wp2
  rw [run_typeAssert_map_sl _ 149 _ _ _ _ Tryz.underlying149]
  simp only [Result.andThen]
  rw [Oper.upon_value]
  go_wp2
  go_ret
  exact ⟨rfl, rfl⟩

set_option maxHeartbeats 2000000 in
set_option maxRecDepth 100000 in
theorem clone150none (w : World) : Calls Tryz.prog 150 #[.map none] w fun e w' => e = .returned (.map none) ∧ w' = w := by
  have hq := fun w => run_eql_map_nil_sl (P := Tryz.prog) w 149 _ _ none Tryz.underlying149
  go_enter Tryz.func150, Tryz.ntmps150
  go_wp2
  go_ret
  exact ⟨rfl, rfl⟩

theorem clone150 : CloneC Tryz.prog 150 := ⟨⟨Tryz.f150, Tryz.func150, by kernel_rfl, by decide⟩, clone150some, clone150none⟩

set_option maxHeartbeats 2000000 in
set_option maxRecDepth 100000 in
theorem clone151some (w : World) (b : Nat) (es : Array MapEntry) (clock : Nat) (hb : w.heap[b]? = some (.map es clock)) :
    Calls Tryz.prog 151 #[.map (some b)] w fun e w' => e = .returned (.map (some w.heap.size)) ∧ w' = w.alloc (.map es clock) := by
  have hq := fun w => run_eql_map_nil_sl (P := Tryz.prog) w 150 _ _ (some b) Tryz.underlying150
  go_enter Tryz.func151, Tryz.ntmps151
  go_wp2
  rw [run_callFunc_extern Tryz.func187 (by kernel_rfl) (by kernel_rfl) (by kernel_rfl) (e := Extern.MapsClone.clone) (by kernel_rfl), run_maps_clone_sl w 150 hb]
  simp only [Result.andThen]
  rw [Oper.upon_value]
  go_wp2
  rw [run_typeAssert_map_sl _ 150 _ _ _ _ Tryz.underlying150]
  simp only [Result.andThen]
  rw [Oper.upon_value]
  go_wp2
  go_ret
  exact ⟨rfl, rfl⟩

set_option maxHeartbeats 2000000 in
set_option maxRecDepth 100000 in
theorem clone151none (w : World) : Calls Tryz.prog 151 #[.map none] w fun e w' => e = .returned (.map none) ∧ w' = w := by
  have hq := fun w => run_eql_map_nil_sl (P := Tryz.prog) w 150 _ _ none Tryz.underlying150
  go_enter Tryz.func151, Tryz.ntmps151
  go_wp2
  go_ret
  exact ⟨rfl, rfl⟩

theorem clone151 : CloneC Tryz.prog 151 := ⟨⟨Tryz.f151, Tryz.func151, by kernel_rfl, by decide⟩, clone151some, clone151none⟩
theorem keys198 : KeysC Tryz.prog 198 := ⟨Tryz.keys174_ren, { Tryz.keys174 with }, by kernel_rfl, fun args w => callFunc_enter ⟨Tryz.f198, Tryz.func198, by kernel_rfl, by decide⟩ args w⟩
theorem keys262 : KeysC Tryz.prog 262 := ⟨Tryz.keys244_ren, { Tryz.keys244 with }, by kernel_rfl, fun args w => callFunc_enter ⟨Tryz.f262, Tryz.func262, by kernel_rfl, by decide⟩ args w⟩
open Go.Sort in
theorem sorts173 : AnyZI.SortsIn Tryz.prog Tryz.sorted173_ren Fence.wide 3 :=
  ⟨fun blk off cap ss W hH hb hs => callsIn_wide.2 (Any.slices_Sort_int Tryz.lays189 blk off cap ss W hH hb hs), fun p cap W => callsIn_wide.2 (Any.slices_Sort_int_none Tryz.lays189 p cap W)⟩
theorem sorted173 : SortC Tryz.prog 173 :=
  ⟨⟨Tryz.f173, Tryz.func173, by kernel_rfl, by decide⟩, Tryz.sorted173_ren, Tryz.sorted173, by kernel_rfl, sorts173, fun args w => callFunc_enter (f := 172) ⟨Tryz.f172, Tryz.func172, by kernel_rfl, by decide⟩ args w⟩

theorem hearts : Hearts K Tryz.prog := by
  refine ⟨fun f hf => ?_, fun f t hf => ?_⟩
  · have hf' : f ∈ [150, 151] := List.contains_iff_mem.1 hf
    simp only [List.mem_cons, List.not_mem_nil, or_false] at hf'
    rcases hf' with rfl | rfl
    · exact ⟨clone150.call, fun args h v h' hv ρ w vals r m hr hd ha => clone_ok clone150 hv hr hd ha⟩
    · exact ⟨clone151.call, fun args h v h' hv ρ w vals r m hr hd ha => clone_ok clone151 hv hr hd ha⟩
  · have kc : ∀ g, K.keys.contains g = true → KeysC Tryz.prog g := fun g hg => by
      have hg' : g ∈ [198, 262] := List.contains_iff_mem.1 hg
      simp only [List.mem_cons, List.not_mem_nil, or_false] at hg'
      rcases hg' with rfl | rfl
      · exact keys198
      · exact keys262
    have e : f = 173 := by
      have hf2 : List.lookup f [(173, 3)] = some t := hf
      simp only [List.lookup] at hf2
      split at hf2
      · rename_i hb
        exact eq_of_beq hb
      · cases hf2
    subst e
    exact ⟨sorted173.call, fun args h v h' hv ρ w vals r m hr hd ha => sorted_ok sorted173 kc hv hr hd ha⟩
end Go.Proofs.YtjdbhajhjnfhiaaGreatDoor
