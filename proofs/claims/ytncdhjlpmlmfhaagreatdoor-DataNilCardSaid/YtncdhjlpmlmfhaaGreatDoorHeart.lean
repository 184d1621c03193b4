/- What the evaluator knows by heart stands in the program: maps.Clone, the iterators of maps.Keys, slices.Sorted. -/
import Derived.Test.YtncdhjlpmlmfhaaGreatDoorLay
import Derived.Test.YtncdhjlpmlmfhaaGreatDoorCfg
import Derived.Test.YtncdhjlpmlmfhaaGreatDoorEvC
import Derived.WalkKit
import Derived.Shelf.SlMaps.Clone
import Derived.KernelRfl
set_option linter.unusedSimpArgs false
set_option linter.unusedVariables false
set_option linter.unusedSectionVars false
namespace Go.Proofs.YtncdhjlpmlmfhaaGreatDoor
open Go.Ev Go.RowKit
set_option maxHeartbeats 2000000 in
set_option maxRecDepth 100000 in
theorem clone120some (w : World) (b : Nat) (es : Array MapEntry) (clock : Nat) (hb : w.heap[b]? = some (.map es clock)) :
    Calls Tryz.prog 120 #[.map (some b)] w fun e w' => e = .returned (.map (some w.heap.size)) ∧ w' = w.alloc (.map es clock) := by
  have hq := fun w => run_eql_map_nil_sl (P := Tryz.prog) w 190 _ _ (some b) Tryz.underlying190
  go_enter Tryz.func120, Tryz.ntmps120
  go_wp2
  rw [run_callFunc_extern Tryz.func157 (by kernel_rfl) (by kernel_rfl) (by kernel_rfl) (e := Extern.MapsClone.clone) (by kernel_rfl), run_maps_clone_sl w 190 hb]
  simp only [Result.andThen]
  rw [Oper.upon_value]
  go_wp2
  rw [run_typeAssert_map_sl _ 190 _ _ _ _ Tryz.underlying190]
  simp only [Result.andThen]
  rw [Oper.upon_value]
  go_wp2
  go_ret
  exact ⟨rfl, rfl⟩
set_option maxHeartbeats 2000000 in
set_option maxRecDepth 100000 in
theorem clone120none (w : World) : Calls Tryz.prog 120 #[.map none] w fun e w' => e = .returned (.map none) ∧ w' = w := by
  have hq := fun w => run_eql_map_nil_sl (P := Tryz.prog) w 190 _ _ none Tryz.underlying190
  go_enter Tryz.func120, Tryz.ntmps120
  go_wp2
  go_ret
  exact ⟨rfl, rfl⟩
theorem clone120 : CloneC Tryz.prog 120 := ⟨⟨Tryz.f120, Tryz.func120, by kernel_rfl, by decide⟩, clone120some, clone120none⟩
set_option maxHeartbeats 2000000 in
set_option maxRecDepth 100000 in
theorem clone121some (w : World) (b : Nat) (es : Array MapEntry) (clock : Nat) (hb : w.heap[b]? = some (.map es clock)) :
    Calls Tryz.prog 121 #[.map (some b)] w fun e w' => e = .returned (.map (some w.heap.size)) ∧ w' = w.alloc (.map es clock) := by
  have hq := fun w => run_eql_map_nil_sl (P := Tryz.prog) w 191 _ _ (some b) Tryz.underlying191
  go_enter Tryz.func121, Tryz.ntmps121
  go_wp2
  rw [run_callFunc_extern Tryz.func157 (by kernel_rfl) (by kernel_rfl) (by kernel_rfl) (e := Extern.MapsClone.clone) (by kernel_rfl), run_maps_clone_sl w 191 hb]
  simp only [Result.andThen]
  rw [Oper.upon_value]
  go_wp2
  rw [run_typeAssert_map_sl _ 191 _ _ _ _ Tryz.underlying191]
  simp only [Result.andThen]
  rw [Oper.upon_value]
  go_wp2
  go_ret
  exact ⟨rfl, rfl⟩
set_option maxHeartbeats 2000000 in
set_option maxRecDepth 100000 in
theorem clone121none (w : World) : Calls Tryz.prog 121 #[.map none] w fun e w' => e = .returned (.map none) ∧ w' = w := by
  have hq := fun w => run_eql_map_nil_sl (P := Tryz.prog) w 191 _ _ none Tryz.underlying191
  go_enter Tryz.func121, Tryz.ntmps121
  go_wp2
  go_ret
  exact ⟨rfl, rfl⟩
theorem clone121 : CloneC Tryz.prog 121 := ⟨⟨Tryz.f121, Tryz.func121, by kernel_rfl, by decide⟩, clone121some, clone121none⟩
theorem keys171 : KeysC Tryz.prog 171 := ⟨Tryz.keys144_ren, { Tryz.keys144 with }, by kernel_rfl, fun args w => callFunc_enter ⟨Tryz.f171, Tryz.func171, by kernel_rfl, by decide⟩ args w⟩
theorem keys248 : KeysC Tryz.prog 248 := ⟨Tryz.keys222_ren, { Tryz.keys222 with }, by kernel_rfl, fun args w => callFunc_enter ⟨Tryz.f248, Tryz.func248, by kernel_rfl, by decide⟩ args w⟩
open Go.Sort in
theorem sorts143 : AnyZI.SortsIn Tryz.prog Tryz.sorted143_ren Fence.wide 3 :=
  ⟨fun blk off cap ss W hH hb hs => callsIn_wide.2 (Any.slices_Sort_int Tryz.lays189 blk off cap ss W hH hb hs), fun p cap W => callsIn_wide.2 (Any.slices_Sort_int_none Tryz.lays189 p cap W)⟩
theorem sorted143 : SortC Tryz.prog 143 :=
  ⟨⟨Tryz.f143, Tryz.func143, by kernel_rfl, by decide⟩, Tryz.sorted143_ren, Tryz.sorted143, by kernel_rfl, sorts143, fun args w => callFunc_enter (f := 142) ⟨Tryz.f142, Tryz.func142, by kernel_rfl, by decide⟩ args w⟩
theorem hearts : Hearts K Tryz.prog := by
  refine ⟨fun f hf => ?_, fun f t hf => ?_⟩
  · have hf' : f ∈ [120, 121] := List.contains_iff_mem.1 hf
    simp only [List.mem_cons, List.not_mem_nil, or_false] at hf'
    rcases hf' with rfl | rfl
    · exact ⟨clone120.call, fun args h v h' hv ρ w vals r m hr hd ha => clone_ok clone120 hv hr hd ha⟩
    · exact ⟨clone121.call, fun args h v h' hv ρ w vals r m hr hd ha => clone_ok clone121 hv hr hd ha⟩
  · have kc : ∀ g, K.keys.contains g = true → KeysC Tryz.prog g := fun g hg => by
      have hg' : g ∈ [171, 248] := List.contains_iff_mem.1 hg
      simp only [List.mem_cons, List.not_mem_nil, or_false] at hg'
      rcases hg' with rfl | rfl
      · exact keys171
      · exact keys248
    have e : f = 143 := by
      have hf2 : List.lookup f [(143, 3)] = some t := hf
      simp only [List.lookup] at hf2
      split at hf2
      · rename_i hb
        exact eq_of_beq hb
      · cases hf2
    subst e
    exact ⟨sorted143.call, fun args h v h' hv ρ w vals r m hr hd ha => sorted_ok sorted143 kc hv hr hd ha⟩
end Go.Proofs.YtncdhjlpmlmfhaaGreatDoor
