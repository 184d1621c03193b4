/- What the evaluator knows by heart stands in the program: maps.Clone, the iterators of maps.Keys, slices.Sorted. -/
import Derived.Test.YtmmomanillbkaaaGreatDoorLay
import Derived.Test.YtmmomanillbkaaaGreatDoorCfg
import Derived.Test.YtmmomanillbkaaaGreatDoorEvC
import Derived.WalkKit
import Derived.Shelf.SlMaps.Clone
import Derived.KernelRfl
set_option linter.unusedSimpArgs false
set_option linter.unusedVariables false
set_option linter.unusedSectionVars false
namespace Go.Proofs.YtmmomanillbkaaaGreatDoor
open Go.Ev Go.RowKit

set_option maxHeartbeats 2000000 in
set_option maxRecDepth 100000 in
theorem clone141some (w : World) (b : Nat) (es : Array MapEntry) (clock : Nat) (hb : w.heap[b]? = some (.map es clock)) :
    Calls Tryz.prog 141 #[.map (some b)] w fun e w' => e = .returned (.map (some w.heap.size)) ∧ w' = w.alloc (.map es clock) := by
  have hq := fun w => run_eql_map_nil_sl (P := Tryz.prog) w 142 _ _ (some b) Tryz.underlying142
  go_enter Tryz.func141, Tryz.ntmps141
  go_wp2
  rw [run_callFunc_extern Tryz.func179 (by kernel_rfl) (by kernel_rfl) (by kernel_rfl) (e := Extern.MapsClone.clone) (by kernel_rfl), run_maps_clone_sl w 142 hb]
  simp only [Result.andThen]
  rw [Oper.upon_value]
  go_wp2
  rw [run_typeAssert_map_sl _ 142 _ _ _ _ Tryz.underlying142]
  simp only [Result.andThen]
  rw [Oper.upon_value]
  go_wp2
  go_ret
  exact ⟨rfl, rfl⟩

set_option maxHeartbeats 2000000 in
set_option maxRecDepth 100000 in
theorem clone141none (w : World) : Calls Tryz.prog 141 #[.map none] w fun e w' => e = .returned (.map none) ∧ w' = w := by
  have hq := fun w => run_eql_map_nil_sl (P := Tryz.prog) w 142 _ _ none Tryz.underlying142
  go_enter Tryz.func141, Tryz.ntmps141
  go_wp2
  go_ret
  exact ⟨rfl, rfl⟩

theorem clone141 : CloneC Tryz.prog 141 := ⟨⟨Tryz.f141, Tryz.func141, by kernel_rfl, by decide⟩, clone141some, clone141none⟩

set_option maxHeartbeats 2000000 in
set_option maxRecDepth 100000 in
theorem clone142some (w : World) (b : Nat) (es : Array MapEntry) (clock : Nat) (hb : w.heap[b]? = some (.map es clock)) :
    Calls Tryz.prog 142 #[.map (some b)] w fun e w' => e = .returned (.map (some w.heap.size)) ∧ w' = w.alloc (.map es clock) := by
  have hq := fun w => run_eql_map_nil_sl (P := Tryz.prog) w 143 _ _ (some b) Tryz.underlying143
  go_enter Tryz.func142, Tryz.ntmps142
  go_wp2
  rw [run_callFunc_extern Tryz.func179 (by kernel_rfl) (by kernel_rfl) (by kernel_rfl) (e := Extern.MapsClone.clone) (by kernel_rfl), run_maps_clone_sl w 143 hb]
  simp only [Result.andThen]
  rw [Oper.upon_value]
  go_wp2
  rw [run_typeAssert_map_sl _ 143 _ _ _ _ Tryz.underlying143]
  simp only [Result.andThen]
  rw [Oper.upon_value]
  go_wp2
  go_ret
  exact ⟨rfl, rfl⟩

set_option maxHeartbeats 2000000 in
set_option maxRecDepth 100000 in
theorem clone142none (w : World) : Calls Tryz.prog 142 #[.map none] w fun e w' => e = .returned (.map none) ∧ w' = w := by
  have hq := fun w => run_eql_map_nil_sl (P := Tryz.prog) w 143 _ _ none Tryz.underlying143
  go_enter Tryz.func142, Tryz.ntmps142
  go_wp2
  go_ret
  exact ⟨rfl, rfl⟩

theorem clone142 : CloneC Tryz.prog 142 := ⟨⟨Tryz.f142, Tryz.func142, by kernel_rfl, by decide⟩, clone142some, clone142none⟩
theorem keys184 : KeysC Tryz.prog 184 := ⟨Tryz.keys149_ren, { Tryz.keys149 with }, by kernel_rfl, fun args w => callFunc_enter ⟨Tryz.f184, Tryz.func184, by kernel_rfl, by decide⟩ args w⟩
theorem keys191 : KeysC Tryz.prog 191 := ⟨Tryz.keys167_ren, { Tryz.keys167 with }, by kernel_rfl, fun args w => callFunc_enter ⟨Tryz.f191, Tryz.func191, by kernel_rfl, by decide⟩ args w⟩
open Go.Sort in
theorem sorts148 : AnyZI.SortsIn Tryz.prog Tryz.sorted148_ren Fence.wide 3 :=
  ⟨fun blk off cap ss W hH hb hs => callsIn_wide.2 (Any.slices_Sort_int Tryz.lays189 blk off cap ss W hH hb hs), fun p cap W => callsIn_wide.2 (Any.slices_Sort_int_none Tryz.lays189 p cap W)⟩
theorem sorted148 : SortC Tryz.prog 148 :=
  ⟨⟨Tryz.f148, Tryz.func148, by kernel_rfl, by decide⟩, Tryz.sorted148_ren, Tryz.sorted148, by kernel_rfl, sorts148, fun args w => callFunc_enter (f := 67) ⟨Tryz.f67, Tryz.func67, by kernel_rfl, by decide⟩ args w⟩

theorem hearts : Hearts K Tryz.prog := by
  refine ⟨fun f hf => ?_, fun f t hf => ?_⟩
  · have hf' : f ∈ [141, 142] := List.contains_iff_mem.1 hf
    simp only [List.mem_cons, List.not_mem_nil, or_false] at hf'
    rcases hf' with rfl | rfl
    · exact ⟨clone141.call, fun args h v h' hv ρ w vals r m hr hd ha => clone_ok clone141 hv hr hd ha⟩
    · exact ⟨clone142.call, fun args h v h' hv ρ w vals r m hr hd ha => clone_ok clone142 hv hr hd ha⟩
  · have kc : ∀ g, K.keys.contains g = true → KeysC Tryz.prog g := fun g hg => by
      have hg' : g ∈ [184, 191] := List.contains_iff_mem.1 hg
      simp only [List.mem_cons, List.not_mem_nil, or_false] at hg'
      rcases hg' with rfl | rfl
      · exact keys184
      · exact keys191
    have e : f = 148 := by
      have hf2 : List.lookup f [(148, 3)] = some t := hf
      simp only [List.lookup] at hf2
      split at hf2
      · rename_i hb
        exact eq_of_beq hb
      · cases hf2
    subst e
    exact ⟨sorted148.call, fun args h v h' hv ρ w vals r m hr hd ha => sorted_ok sorted148 kc hv hr hd ha⟩
end Go.Proofs.YtmmomanillbkaaaGreatDoor
