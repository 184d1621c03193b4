/- What the evaluator knows by heart stands in the program: maps.Clone, the iterators of maps.Keys, slices.Sorted. -/
import Derived.Test.YtkpiafihfmafkaaGreatDoorLay
import Derived.Test.YtkpiafihfmafkaaGreatDoorCfg
import Derived.Test.YtkpiafihfmafkaaGreatDoorEvFits
import Derived.WalkKit
import Derived.Shelf.SlMaps.Clone
import Derived.KernelRfl
namespace Go.Proofs.YtkpiafihfmafkaaGreatDoor
open Go.Ev Go.RowKit

set_option maxHeartbeats 2000000 in
set_option maxRecDepth 100000 in
theorem clone149some (w : World) (b : Nat) (es : Array MapEntry) (clock : Nat) (hb : w.heap[b]? = some (.map es clock)) :
    Calls Tryz.prog 149 #[.map (some b)] w fun e w' => e = .returned (.map (some w.heap.size)) ∧ w' = w.alloc (.map es clock) := by
  have hq := fun w => run_eql_map_nil_sl (P := Tryz.prog) w 120 _ _ (some b) Tryz.underlying120
  go_enter Tryz.func149, Tryz.ntmps149
  go_wp2
  rw [run_callFunc_extern Tryz.func184 (by kernel_rfl) (by kernel_rfl) (by kernel_rfl) (e := Extern.MapsClone.clone) (by kernel_rfl), run_maps_clone_sl w 120 hb]
  simp only [Result.andThen]
  rw [Oper.upon_value]
  go_wp2
  rw [run_typeAssert_map_sl _ 120 _ _ _ _ Tryz.underlying120]
  simp only [Result.andThen]
  rw [Oper.upon_value]
  go_wp2
  go_ret
  exact ⟨rfl, rfl⟩

set_option maxHeartbeats 2000000 in
set_option maxRecDepth 100000 in
theorem clone149none (w : World) : Calls Tryz.prog 149 #[.map none] w fun e w' => e = .returned (.map none) ∧ w' = w := by
  have hq := fun w => run_eql_map_nil_sl (P := Tryz.prog) w 120 _ _ none Tryz.underlying120
  go_enter Tryz.func149, Tryz.ntmps149
  go_wp2
  go_ret
  exact ⟨rfl, rfl⟩

theorem clone149 : CloneC Tryz.prog 149 := ⟨⟨Tryz.f149, Tryz.func149, by kernel_rfl, by decide⟩, clone149some, clone149none⟩

set_option maxHeartbeats 2000000 in
set_option maxRecDepth 100000 in
theorem clone150some (w : World) (b : Nat) (es : Array MapEntry) (clock : Nat) (hb : w.heap[b]? = some (.map es clock)) :
    Calls Tryz.prog 150 #[.map (some b)] w fun e w' => e = .returned (.map (some w.heap.size)) ∧ w' = w.alloc (.map es clock) := by
  have hq := fun w => run_eql_map_nil_sl (P := Tryz.prog) w 112 _ _ (some b) Tryz.underlying112
  go_enter Tryz.func150, Tryz.ntmps150
  go_wp2
  rw [run_callFunc_extern Tryz.func184 (by kernel_rfl) (by kernel_rfl) (by kernel_rfl) (e := Extern.MapsClone.clone) (by kernel_rfl), run_maps_clone_sl w 112 hb]
  simp only [Result.andThen]
  rw [Oper.upon_value]
  go_wp2
  rw [run_typeAssert_map_sl _ 112 _ _ _ _ Tryz.underlying112]
  simp only [Result.andThen]
  rw [Oper.upon_value]
  go_wp2
  go_ret
  exact ⟨rfl, rfl⟩

set_option maxHeartbeats 2000000 in
set_option maxRecDepth 100000 in
theorem clone150none (w : World) : Calls Tryz.prog 150 #[.map none] w fun e w' => e = .returned (.map none) ∧ w' = w := by
  have hq := fun w => run_eql_map_nil_sl (P := Tryz.prog) w 112 _ _ none Tryz.underlying112
  go_enter Tryz.func150, Tryz.ntmps150
  go_wp2
  go_ret
  exact ⟨rfl, rfl⟩

theorem clone150 : CloneC Tryz.prog 150 := ⟨⟨Tryz.f150, Tryz.func150, by kernel_rfl, by decide⟩, clone150some, clone150none⟩
theorem keys108 : KeysC Tryz.prog 108 := ⟨Tryz.keys54_ren, { Tryz.keys54 with }, by kernel_rfl, fun args w => callFunc_enter ⟨Tryz.f108, Tryz.func108, by kernel_rfl, by decide⟩ args w⟩
theorem keys112 : KeysC Tryz.prog 112 := ⟨Tryz.keys57_ren, { Tryz.keys57 with }, by kernel_rfl, fun args w => callFunc_enter ⟨Tryz.f112, Tryz.func112, by kernel_rfl, by decide⟩ args w⟩
theorem keys186 : KeysC Tryz.prog 186 := ⟨Tryz.keys156_ren, { Tryz.keys156 with }, by kernel_rfl, fun args w => callFunc_enter ⟨Tryz.f186, Tryz.func186, by kernel_rfl, by decide⟩ args w⟩
theorem keys192 : KeysC Tryz.prog 192 := ⟨Tryz.keys173_ren, { Tryz.keys173 with }, by kernel_rfl, fun args w => callFunc_enter ⟨Tryz.f192, Tryz.func192, by kernel_rfl, by decide⟩ args w⟩
open Go.Sort in
theorem sorts53 : AnyZI.SortsIn Tryz.prog Tryz.sorted53_ren Fence.wide 3 :=
  ⟨fun blk off cap ss W hH hb hs => callsIn_wide.2 (Any.slices_Sort_int Tryz.lays189 blk off cap ss W hH hb hs), fun p cap W => callsIn_wide.2 (Any.slices_Sort_int_none Tryz.lays189 p cap W)⟩
theorem sorted53 : SortC Tryz.prog 53 :=
  ⟨⟨Tryz.f53, Tryz.func53, by kernel_rfl, by decide⟩, Tryz.sorted53_ren, Tryz.sorted53, by kernel_rfl, sorts53, fun args w => callFunc_enter (f := 74) ⟨Tryz.f74, Tryz.func74, by kernel_rfl, by decide⟩ args w⟩

theorem hearts : Hearts K Tryz.prog := by
  refine ⟨fun f hf => ?_, fun f t hf => ?_⟩
  · have hf' : f ∈ [149, 150] := List.contains_iff_mem.1 hf
    simp only [List.mem_cons, List.not_mem_nil, or_false] at hf'
    rcases hf' with rfl | rfl
    · exact ⟨clone149.call, fun args h v h' hv ρ w vals r m hr hd ha => clone_ok clone149 hv hr hd ha⟩
    · exact ⟨clone150.call, fun args h v h' hv ρ w vals r m hr hd ha => clone_ok clone150 hv hr hd ha⟩
  · have kc : ∀ g, K.keys.contains g = true → KeysC Tryz.prog g := fun g hg => by
      have hg' : g ∈ [108, 112, 186, 192] := List.contains_iff_mem.1 hg
      simp only [List.mem_cons, List.not_mem_nil, or_false] at hg'
      rcases hg' with rfl | rfl | rfl | rfl
      · exact keys108
      · exact keys112
      · exact keys186
      · exact keys192
    have e : f = 53 := by
      have hf2 : List.lookup f [(53, 3)] = some t := hf
      simp only [List.lookup] at hf2
      split at hf2
      · rename_i hb
        exact eq_of_beq hb
      · cases hf2
    subst e
    exact ⟨sorted53.call, fun args h v h' hv ρ w vals r m hr hd ha => sorted_ok sorted53 kc hv hr hd ha⟩
end Go.Proofs.YtkpiafihfmafkaaGreatDoor
