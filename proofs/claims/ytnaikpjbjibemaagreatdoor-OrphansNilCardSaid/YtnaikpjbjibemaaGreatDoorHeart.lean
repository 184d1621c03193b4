/- What the evaluator knows by heart stands in the program: maps.Clone, the iterators of maps.Keys, slices.Sorted. -/
import Derived.Test.YtnaikpjbjibemaaGreatDoorLay
import Derived.Test.YtnaikpjbjibemaaGreatDoorCfg
import Derived.Test.YtnaikpjbjibemaaGreatDoorEvC
import Derived.WalkKit
import Derived.Shelf.SlMaps.Clone
import Derived.KernelRfl
set_option linter.unusedSimpArgs false
set_option linter.unusedVariables false
set_option linter.unusedSectionVars false
namespace Go.Proofs.YtnaikpjbjibemaaGreatDoor
open Go.Ev Go.RowKit

set_option maxHeartbeats 2000000 in
set_option maxRecDepth 100000 in
theorem clone199some (w : World) (b : Nat) (es : Array MapEntry) (clock : Nat) (hb : w.heap[b]? = some (.map es clock)) :
    Calls Tryz.prog 199 #[.map (some b)] w fun e w' => e = .returned (.map (some w.heap.size)) ∧ w' = w.alloc (.map es clock) := by
  have hq := fun w => run_eql_map_nil_sl (P := Tryz.prog) w 228 _ _ (some b) Tryz.underlying228
  go_enter Tryz.func199, Tryz.ntmps199
  go_wp2
  rw [run_callFunc_extern Tryz.func234 (by kernel_rfl) (by kernel_rfl) (by kernel_rfl) (e := Extern.MapsClone.clone) (by kernel_rfl), run_maps_clone_sl w 228 hb]
  simp only [Result.andThen]
  rw [Oper.upon_value]
  go_wp2
  rw [run_typeAssert_map_sl _ 228 _ _ _ _ Tryz.underlying228]
  simp only [Result.andThen]
  rw [Oper.upon_value]
  go_wp2
  go_ret
  exact ⟨rfl, rfl⟩

set_option maxHeartbeats 2000000 in
set_option maxRecDepth 100000 in
theorem clone199none (w : World) : Calls Tryz.prog 199 #[.map none] w fun e w' => e = .returned (.map none) ∧ w' = w := by
  have hq := fun w => run_eql_map_nil_sl (P := Tryz.prog) w 228 _ _ none Tryz.underlying228
  go_enter Tryz.func199, Tryz.ntmps199
  go_wp2
  go_ret
  exact ⟨rfl, rfl⟩

theorem clone199 : CloneC Tryz.prog 199 := ⟨⟨Tryz.f199, Tryz.func199, by kernel_rfl, by decide⟩, clone199some, clone199none⟩

set_option maxHeartbeats 2000000 in
set_option maxRecDepth 100000 in
theorem clone200some (w : World) (b : Nat) (es : Array MapEntry) (clock : Nat) (hb : w.heap[b]? = some (.map es clock)) :
    Calls Tryz.prog 200 #[.map (some b)] w fun e w' => e = .returned (.map (some w.heap.size)) ∧ w' = w.alloc (.map es clock) := by
  have hq := fun w => run_eql_map_nil_sl (P := Tryz.prog) w 229 _ _ (some b) Tryz.underlying229
  go_enter Tryz.func200, Tryz.ntmps200
  go_wp2
  rw [run_callFunc_extern Tryz.func234 (by kernel_rfl) (by kernel_rfl) (by kernel_rfl) (e := Extern.MapsClone.clone) (by kernel_rfl), run_maps_clone_sl w 229 hb]
  simp only [Result.andThen]
  rw [Oper.upon_value]
  go_wp2
  rw [run_typeAssert_map_sl _ 229 _ _ _ _ Tryz.underlying229]
  simp only [Result.andThen]
  rw [Oper.upon_value]
  go_wp2
  go_ret
  exact ⟨rfl, rfl⟩

set_option maxHeartbeats 2000000 in
set_option maxRecDepth 100000 in
theorem clone200none (w : World) : Calls Tryz.prog 200 #[.map none] w fun e w' => e = .returned (.map none) ∧ w' = w := by
  have hq := fun w => run_eql_map_nil_sl (P := Tryz.prog) w 229 _ _ none Tryz.underlying229
  go_enter Tryz.func200, Tryz.ntmps200
  go_wp2
  go_ret
  exact ⟨rfl, rfl⟩

theorem clone200 : CloneC Tryz.prog 200 := ⟨⟨Tryz.f200, Tryz.func200, by kernel_rfl, by decide⟩, clone200some, clone200none⟩
theorem keys163 : KeysC Tryz.prog 163 := ⟨Tryz.keys94_ren, { Tryz.keys94 with }, by kernel_rfl, fun args w => callFunc_enter ⟨Tryz.f163, Tryz.func163, by kernel_rfl, by decide⟩ args w⟩
theorem keys166 : KeysC Tryz.prog 166 := ⟨Tryz.keys97_ren, { Tryz.keys97 with }, by kernel_rfl, fun args w => callFunc_enter ⟨Tryz.f166, Tryz.func166, by kernel_rfl, by decide⟩ args w⟩
theorem keys250 : KeysC Tryz.prog 250 := ⟨Tryz.keys222_ren, { Tryz.keys222 with }, by kernel_rfl, fun args w => callFunc_enter ⟨Tryz.f250, Tryz.func250, by kernel_rfl, by decide⟩ args w⟩
theorem keys300 : KeysC Tryz.prog 300 := ⟨Tryz.keys286_ren, { Tryz.keys286 with }, by kernel_rfl, fun args w => callFunc_enter ⟨Tryz.f300, Tryz.func300, by kernel_rfl, by decide⟩ args w⟩
open Go.Sort in
theorem sorts93 : AnyZI.SortsIn Tryz.prog Tryz.sorted93_ren Fence.wide 3 :=
  ⟨fun blk off cap ss W hH hb hs => callsIn_wide.2 (Any.slices_Sort_int Tryz.lays189 blk off cap ss W hH hb hs), fun p cap W => callsIn_wide.2 (Any.slices_Sort_int_none Tryz.lays189 p cap W)⟩
theorem sorted93 : SortC Tryz.prog 93 :=
  ⟨⟨Tryz.f93, Tryz.func93, by kernel_rfl, by decide⟩, Tryz.sorted93_ren, Tryz.sorted93, by kernel_rfl, sorts93, fun args w => callFunc_enter (f := 162) ⟨Tryz.f162, Tryz.func162, by kernel_rfl, by decide⟩ args w⟩

theorem hearts : Hearts K Tryz.prog := by
  refine ⟨fun f hf => ?_, fun f t hf => ?_⟩
  · have hf' : f ∈ [199, 200] := List.contains_iff_mem.1 hf
    simp only [List.mem_cons, List.not_mem_nil, or_false] at hf'
    rcases hf' with rfl | rfl
    · exact ⟨clone199.call, fun args h v h' hv ρ w vals r m hr hd ha => clone_ok clone199 hv hr hd ha⟩
    · exact ⟨clone200.call, fun args h v h' hv ρ w vals r m hr hd ha => clone_ok clone200 hv hr hd ha⟩
  · have kc : ∀ g, K.keys.contains g = true → KeysC Tryz.prog g := fun g hg => by
      have hg' : g ∈ [163, 166, 250, 300] := List.contains_iff_mem.1 hg
      simp only [List.mem_cons, List.not_mem_nil, or_false] at hg'
      rcases hg' with rfl | rfl | rfl | rfl
      · exact keys163
      · exact keys166
      · exact keys250
      · exact keys300
    have e : f = 93 := by
      have hf2 : List.lookup f [(93, 3)] = some t := hf
      simp only [List.lookup] at hf2
      split at hf2
      · rename_i hb
        exact eq_of_beq hb
      · cases hf2
    subst e
    exact ⟨sorted93.call, fun args h v h' hv ρ w vals r m hr hd ha => sorted_ok sorted93 kc hv hr hd ha⟩
end Go.Proofs.YtnaikpjbjibemaaGreatDoor
