/- What the evaluator knows by heart stands in the program: maps.Clone, the iterators of maps.Keys, slices.Sorted. -/
import Derived.Test.YtnnjkhccbigmaaaGreatDoorLay
import Derived.Test.YtnnjkhccbigmaaaGreatDoorCfg
import Derived.Test.YtnnjkhccbigmaaaGreatDoorEvC
import Derived.WalkKit
import Derived.Shelf.SlMaps.Clone
import Derived.KernelRfl
set_option linter.unusedSimpArgs false
set_option linter.unusedVariables false
set_option linter.unusedSectionVars false
namespace Go.Proofs.YtnnjkhccbigmaaaGreatDoor
open Go.Ev Go.RowKit

set_option maxHeartbeats 2000000 in
set_option maxRecDepth 100000 in
theorem clone144some (w : World) (b : Nat) (es : Array MapEntry) (clock : Nat) (hb : w.heap[b]? = some (.map es clock)) :
    Calls Tryz.prog 144 #[.map (some b)] w fun e w' => e = .returned (.map (some w.heap.size)) ∧ w' = w.alloc (.map es clock) := by
  have hq := fun w => run_eql_map_nil_sl (P := Tryz.prog) w 205 _ _ (some b) Tryz.underlying205
  go_enter Tryz.func144, Tryz.ntmps144
  go_wp2
  rw [run_callFunc_extern Tryz.func179 (by kernel_rfl) (by kernel_rfl) (by kernel_rfl) (e := Extern.MapsClone.clone) (by kernel_rfl), run_maps_clone_sl w 205 hb]
  simp only [Result.andThen]
  rw [Oper.upon_value]
  go_wp2
  rw [run_typeAssert_map_sl _ 205 _ _ _ _ Tryz.underlying205]
  simp only [Result.andThen]
  rw [Oper.upon_value]
  go_wp2
  go_ret
  exact ⟨rfl, rfl⟩

set_option maxHeartbeats 2000000 in
set_option maxRecDepth 100000 in
theorem clone144none (w : World) : Calls Tryz.prog 144 #[.map none] w fun e w' => e = .returned (.map none) ∧ w' = w := by
  have hq := fun w => run_eql_map_nil_sl (P := Tryz.prog) w 205 _ _ none Tryz.underlying205
  go_enter Tryz.func144, Tryz.ntmps144
  go_wp2
  go_ret
  exact ⟨rfl, rfl⟩

theorem clone144 : CloneC Tryz.prog 144 := ⟨⟨Tryz.f144, Tryz.func144, by kernel_rfl, by decide⟩, clone144some, clone144none⟩

set_option maxHeartbeats 2000000 in
set_option maxRecDepth 100000 in
theorem clone145some (w : World) (b : Nat) (es : Array MapEntry) (clock : Nat) (hb : w.heap[b]? = some (.map es clock)) :
    Calls Tryz.prog 145 #[.map (some b)] w fun e w' => e = .returned (.map (some w.heap.size)) ∧ w' = w.alloc (.map es clock) := by
  have hq := fun w => run_eql_map_nil_sl (P := Tryz.prog) w 206 _ _ (some b) Tryz.underlying206
  go_enter Tryz.func145, Tryz.ntmps145
  go_wp2
  rw [run_callFunc_extern Tryz.func179 (by kernel_rfl) (by kernel_rfl) (by kernel_rfl) (e := Extern.MapsClone.clone) (by kernel_rfl), run_maps_clone_sl w 206 hb]
  simp only [Result.andThen]
  rw [Oper.upon_value]
  go_wp2
  rw [run_typeAssert_map_sl _ 206 _ _ _ _ Tryz.underlying206]
  simp only [Result.andThen]
  rw [Oper.upon_value]
  go_wp2
  go_ret
  exact ⟨rfl, rfl⟩

set_option maxHeartbeats 2000000 in
set_option maxRecDepth 100000 in
theorem clone145none (w : World) : Calls Tryz.prog 145 #[.map none] w fun e w' => e = .returned (.map none) ∧ w' = w := by
  have hq := fun w => run_eql_map_nil_sl (P := Tryz.prog) w 206 _ _ none Tryz.underlying206
  go_enter Tryz.func145, Tryz.ntmps145
  go_wp2
  go_ret
  exact ⟨rfl, rfl⟩

theorem clone145 : CloneC Tryz.prog 145 := ⟨⟨Tryz.f145, Tryz.func145, by kernel_rfl, by decide⟩, clone145some, clone145none⟩
theorem keys194 : KeysC Tryz.prog 194 := ⟨Tryz.keys167_ren, { Tryz.keys167 with }, by kernel_rfl, fun args w => callFunc_enter ⟨Tryz.f194, Tryz.func194, by kernel_rfl, by decide⟩ args w⟩
theorem keys248 : KeysC Tryz.prog 248 := ⟨Tryz.keys215_ren, { Tryz.keys215 with }, by kernel_rfl, fun args w => callFunc_enter ⟨Tryz.f248, Tryz.func248, by kernel_rfl, by decide⟩ args w⟩
open Go.Sort in
theorem sorts166 : AnyZI.SortsIn Tryz.prog Tryz.sorted166_ren Fence.wide 3 :=
  ⟨fun blk off cap ss W hH hb hs => callsIn_wide.2 (Any.slices_Sort_int Tryz.lays189 blk off cap ss W hH hb hs), fun p cap W => callsIn_wide.2 (Any.slices_Sort_int_none Tryz.lays189 p cap W)⟩
theorem sorted166 : SortC Tryz.prog 166 :=
  ⟨⟨Tryz.f166, Tryz.func166, by kernel_rfl, by decide⟩, Tryz.sorted166_ren, Tryz.sorted166, by kernel_rfl, sorts166, fun args w => callFunc_enter (f := 155) ⟨Tryz.f155, Tryz.func155, by kernel_rfl, by decide⟩ args w⟩

theorem hearts : Hearts K Tryz.prog := by
  refine ⟨fun f hf => ?_, fun f t hf => ?_⟩
  · have hf' : f ∈ [144, 145] := List.contains_iff_mem.1 hf
    simp only [List.mem_cons, List.not_mem_nil, or_false] at hf'
    rcases hf' with rfl | rfl
    · exact ⟨clone144.call, fun args h v h' hv ρ w vals r m hr hd ha => clone_ok clone144 hv hr hd ha⟩
    · exact ⟨clone145.call, fun args h v h' hv ρ w vals r m hr hd ha => clone_ok clone145 hv hr hd ha⟩
  · have kc : ∀ g, K.keys.contains g = true → KeysC Tryz.prog g := fun g hg => by
      have hg' : g ∈ [194, 248] := List.contains_iff_mem.1 hg
      simp only [List.mem_cons, List.not_mem_nil, or_false] at hg'
      rcases hg' with rfl | rfl
      · exact keys194
      · exact keys248
    have e : f = 166 := by
      have hf2 : List.lookup f [(166, 3)] = some t := hf
      simp only [List.lookup] at hf2
      split at hf2
      · rename_i hb
        exact eq_of_beq hb
      · cases hf2
    subst e
    exact ⟨sorted166.call, fun args h v h' hv ρ w vals r m hr hd ha => sorted_ok sorted166 kc hv hr hd ha⟩
end Go.Proofs.YtnnjkhccbigmaaaGreatDoor
