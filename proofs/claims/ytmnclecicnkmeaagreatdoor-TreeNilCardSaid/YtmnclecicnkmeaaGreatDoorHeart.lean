/- What the evaluator knows by heart stands in the program: maps.Clone, the iterators of maps.Keys, slices.Sorted. -/
import Derived.Test.YtmnclecicnkmeaaGreatDoorLay
import Derived.Test.YtmnclecicnkmeaaGreatDoorCfg
import Derived.Test.YtmnclecicnkmeaaGreatDoorEvC
import Derived.WalkKit
import Derived.Shelf.SlMaps.Clone
import Derived.KernelRfl
set_option linter.unusedSimpArgs false
set_option linter.unusedVariables false
set_option linter.unusedSectionVars false
namespace Go.Proofs.YtmnclecicnkmeaaGreatDoor
open Go.Ev Go.RowKit
set_option maxHeartbeats 2000000 in
set_option maxRecDepth 100000 in
theorem clone243some (w : World) (b : Nat) (es : Array MapEntry) (clock : Nat) (hb : w.heap[b]? = some (.map es clock)) :
    Calls Tryz.prog 243 #[.map (some b)] w fun e w' => e = .returned (.map (some w.heap.size)) ∧ w' = w.alloc (.map es clock) := by
  have hq := fun w => run_eql_map_nil_sl (P := Tryz.prog) w 266 _ _ (some b) Tryz.underlying266
  go_enter Tryz.func243, Tryz.ntmps243
  go_wp2
  rw [run_callFunc_extern Tryz.func298 (by kernel_rfl) (by kernel_rfl) (by kernel_rfl) (e := Extern.MapsClone.clone) (by kernel_rfl), run_maps_clone_sl w 266 hb]
  simp only [Result.andThen]
  rw [Oper.upon_value]
  go_wp2
  rw [run_typeAssert_map_sl _ 266 _ _ _ _ Tryz.underlying266]
  simp only [Result.andThen]
  rw [Oper.upon_value]
  go_wp2
  go_ret
  exact ⟨rfl, rfl⟩
set_option maxHeartbeats 2000000 in
set_option maxRecDepth 100000 in
theorem clone243none (w : World) : Calls Tryz.prog 243 #[.map none] w fun e w' => e = .returned (.map none) ∧ w' = w := by
  have hq := fun w => run_eql_map_nil_sl (P := Tryz.prog) w 266 _ _ none Tryz.underlying266
  go_enter Tryz.func243, Tryz.ntmps243
  go_wp2
  go_ret
  exact ⟨rfl, rfl⟩
theorem clone243 : CloneC Tryz.prog 243 := ⟨⟨Tryz.f243, Tryz.func243, by kernel_rfl, by decide⟩, clone243some, clone243none⟩
set_option maxHeartbeats 2000000 in
set_option maxRecDepth 100000 in
theorem clone244some (w : World) (b : Nat) (es : Array MapEntry) (clock : Nat) (hb : w.heap[b]? = some (.map es clock)) :
    Calls Tryz.prog 244 #[.map (some b)] w fun e w' => e = .returned (.map (some w.heap.size)) ∧ w' = w.alloc (.map es clock) := by
  have hq := fun w => run_eql_map_nil_sl (P := Tryz.prog) w 267 _ _ (some b) Tryz.underlying267
  go_enter Tryz.func244, Tryz.ntmps244
  go_wp2
  rw [run_callFunc_extern Tryz.func298 (by kernel_rfl) (by kernel_rfl) (by kernel_rfl) (e := Extern.MapsClone.clone) (by kernel_rfl), run_maps_clone_sl w 267 hb]
  simp only [Result.andThen]
  rw [Oper.upon_value]
  go_wp2
  rw [run_typeAssert_map_sl _ 267 _ _ _ _ Tryz.underlying267]
  simp only [Result.andThen]
  rw [Oper.upon_value]
  go_wp2
  go_ret
  exact ⟨rfl, rfl⟩
set_option maxHeartbeats 2000000 in
set_option maxRecDepth 100000 in
theorem clone244none (w : World) : Calls Tryz.prog 244 #[.map none] w fun e w' => e = .returned (.map none) ∧ w' = w := by
  have hq := fun w => run_eql_map_nil_sl (P := Tryz.prog) w 267 _ _ none Tryz.underlying267
  go_enter Tryz.func244, Tryz.ntmps244
  go_wp2
  go_ret
  exact ⟨rfl, rfl⟩
theorem clone244 : CloneC Tryz.prog 244 := ⟨⟨Tryz.f244, Tryz.func244, by kernel_rfl, by decide⟩, clone244some, clone244none⟩
theorem keys174 : KeysC Tryz.prog 174 := ⟨Tryz.keys94_ren, { Tryz.keys94 with }, by kernel_rfl, fun args w => callFunc_enter ⟨Tryz.f174, Tryz.func174, by kernel_rfl, by decide⟩ args w⟩
theorem keys178 : KeysC Tryz.prog 178 := ⟨Tryz.keys98_ren, { Tryz.keys98 with }, by kernel_rfl, fun args w => callFunc_enter ⟨Tryz.f178, Tryz.func178, by kernel_rfl, by decide⟩ args w⟩
theorem keys323 : KeysC Tryz.prog 323 := ⟨Tryz.keys286_ren, { Tryz.keys286 with }, by kernel_rfl, fun args w => callFunc_enter ⟨Tryz.f323, Tryz.func323, by kernel_rfl, by decide⟩ args w⟩
theorem keys376 : KeysC Tryz.prog 376 := ⟨Tryz.keys361_ren, { Tryz.keys361 with }, by kernel_rfl, fun args w => callFunc_enter ⟨Tryz.f376, Tryz.func376, by kernel_rfl, by decide⟩ args w⟩
open Go.Sort in
theorem sorts93 : AnyZI.SortsIn Tryz.prog Tryz.sorted93_ren Fence.wide 3 :=
  ⟨fun blk off cap ss W hH hb hs => callsIn_wide.2 (Any.slices_Sort_int Tryz.lays189 blk off cap ss W hH hb hs), fun p cap W => callsIn_wide.2 (Any.slices_Sort_int_none Tryz.lays189 p cap W)⟩
theorem sorted93 : SortC Tryz.prog 93 :=
  ⟨⟨Tryz.f93, Tryz.func93, by kernel_rfl, by decide⟩, Tryz.sorted93_ren, Tryz.sorted93, by kernel_rfl, sorts93, fun args w => callFunc_enter (f := 173) ⟨Tryz.f173, Tryz.func173, by kernel_rfl, by decide⟩ args w⟩
theorem hearts : Hearts K Tryz.prog := by
  refine ⟨fun f hf => ?_, fun f t hf => ?_⟩
  · have hf' : f ∈ [243, 244] := List.contains_iff_mem.1 hf
    simp only [List.mem_cons, List.not_mem_nil, or_false] at hf'
    rcases hf' with rfl | rfl
    · exact ⟨clone243.call, fun args h v h' hv ρ w vals r m hr hd ha => clone_ok clone243 hv hr hd ha⟩
    · exact ⟨clone244.call, fun args h v h' hv ρ w vals r m hr hd ha => clone_ok clone244 hv hr hd ha⟩
  · have kc : ∀ g, K.keys.contains g = true → KeysC Tryz.prog g := fun g hg => by
      have hg' : g ∈ [174, 178, 323, 376] := List.contains_iff_mem.1 hg
      simp only [List.mem_cons, List.not_mem_nil, or_false] at hg'
      rcases hg' with rfl | rfl | rfl | rfl
      · exact keys174
      · exact keys178
      · exact keys323
      · exact keys376
    have e : f = 93 := by
      have hf2 : List.lookup f [(93, 3)] = some t := hf
      simp only [List.lookup] at hf2
      split at hf2
      · rename_i hb
        exact eq_of_beq hb
      · cases hf2
    subst e
    exact ⟨sorted93.call, fun args h v h' hv ρ w vals r m hr hd ha => sorted_ok sorted93 kc hv hr hd ha⟩
end Go.Proofs.YtmnclecicnkmeaaGreatDoor
