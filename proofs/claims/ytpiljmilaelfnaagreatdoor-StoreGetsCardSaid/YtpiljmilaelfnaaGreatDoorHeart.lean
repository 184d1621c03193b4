/- What the evaluator knows by heart stands in the program: maps.Clone, the iterators of maps.Keys, slices.Sorted. -/
import Derived.Test.YtpiljmilaelfnaaGreatDoorLay
import Derived.Test.YtpiljmilaelfnaaGreatDoorCfg
import Derived.Test.YtpiljmilaelfnaaGreatDoorEvC
import Derived.WalkKit
import Derived.Shelf.SlMaps.Clone
import Derived.KernelRfl
set_option linter.unusedSimpArgs false
set_option linter.unusedVariables false
set_option linter.unusedSectionVars false
namespace Go.Proofs.YtpiljmilaelfnaaGreatDoor
open Go.Ev Go.RowKit
set_option maxHeartbeats 2000000 in
set_option maxRecDepth 100000 in
theorem clone80some (w : World) (b : Nat) (es : Array MapEntry) (clock : Nat) (hb : w.heap[b]? = some (.map es clock)) :
  Calls Tryz.prog 80 #[.map (some b)] w fun e w' => e = .returned (.map (some w.heap.size)) ∧ w' = w.alloc (.map es clock) := by
 have hq := fun w => run_eql_map_nil_sl (P := Tryz.prog) w 88 _ _ (some b) Tryz.underlying88
 go_enter Tryz.func80, Tryz.ntmps80
 go_wp2
 rw [run_callFunc_extern Tryz.func107 (by kernel_rfl) (by kernel_rfl) (by kernel_rfl) (e := Extern.MapsClone.clone) (by kernel_rfl), run_maps_clone_sl w 88 hb]
 simp only [Result.andThen]
 rw [Oper.upon_value]
 go_wp2
 rw [run_typeAssert_map_sl _ 88 _ _ _ _ Tryz.underlying88]
 simp only [Result.andThen]
 rw [Oper.upon_value]
 go_wp2
 go_ret
 exact ⟨rfl, rfl⟩
set_option maxHeartbeats 2000000 in
set_option maxRecDepth 100000 in
theorem clone80none (w : World) : Calls Tryz.prog 80 #[.map none] w fun e w' => e = .returned (.map none) ∧ w' = w := by
 have hq := fun w => run_eql_map_nil_sl (P := Tryz.prog) w 88 _ _ none Tryz.underlying88
 go_enter Tryz.func80, Tryz.ntmps80
 go_wp2
 go_ret
 exact ⟨rfl, rfl⟩
theorem clone80 : CloneC Tryz.prog 80 := ⟨⟨Tryz.f80, Tryz.func80, by kernel_rfl, by decide⟩, clone80some, clone80none⟩
set_option maxHeartbeats 2000000 in
set_option maxRecDepth 100000 in
theorem clone81some (w : World) (b : Nat) (es : Array MapEntry) (clock : Nat) (hb : w.heap[b]? = some (.map es clock)) :
  Calls Tryz.prog 81 #[.map (some b)] w fun e w' => e = .returned (.map (some w.heap.size)) ∧ w' = w.alloc (.map es clock) := by
 have hq := fun w => run_eql_map_nil_sl (P := Tryz.prog) w 89 _ _ (some b) Tryz.underlying89
 go_enter Tryz.func81, Tryz.ntmps81
 go_wp2
 rw [run_callFunc_extern Tryz.func107 (by kernel_rfl) (by kernel_rfl) (by kernel_rfl) (e := Extern.MapsClone.clone) (by kernel_rfl), run_maps_clone_sl w 89 hb]
 simp only [Result.andThen]
 rw [Oper.upon_value]
 go_wp2
 rw [run_typeAssert_map_sl _ 89 _ _ _ _ Tryz.underlying89]
 simp only [Result.andThen]
 rw [Oper.upon_value]
 go_wp2
 go_ret
 exact ⟨rfl, rfl⟩
set_option maxHeartbeats 2000000 in
set_option maxRecDepth 100000 in
theorem clone81none (w : World) : Calls Tryz.prog 81 #[.map none] w fun e w' => e = .returned (.map none) ∧ w' = w := by
 have hq := fun w => run_eql_map_nil_sl (P := Tryz.prog) w 89 _ _ none Tryz.underlying89
 go_enter Tryz.func81, Tryz.ntmps81
 go_wp2
 go_ret
 exact ⟨rfl, rfl⟩
theorem clone81 : CloneC Tryz.prog 81 := ⟨⟨Tryz.f81, Tryz.func81, by kernel_rfl, by decide⟩, clone81some, clone81none⟩
theorem keys57 : KeysC Tryz.prog 57 := ⟨Tryz.keys28_ren, { Tryz.keys28 with }, by kernel_rfl, fun args w => callFunc_enter ⟨Tryz.f57, Tryz.func57, by kernel_rfl, by decide⟩ args w⟩
theorem keys61 : KeysC Tryz.prog 61 := ⟨Tryz.keys32_ren, { Tryz.keys32 with }, by kernel_rfl, fun args w => callFunc_enter ⟨Tryz.f61, Tryz.func61, by kernel_rfl, by decide⟩ args w⟩
theorem keys121 : KeysC Tryz.prog 121 := ⟨Tryz.keys95_ren, { Tryz.keys95 with }, by kernel_rfl, fun args w => callFunc_enter ⟨Tryz.f121, Tryz.func121, by kernel_rfl, by decide⟩ args w⟩
theorem keys170 : KeysC Tryz.prog 170 := ⟨Tryz.keys156_ren, { Tryz.keys156 with }, by kernel_rfl, fun args w => callFunc_enter ⟨Tryz.f170, Tryz.func170, by kernel_rfl, by decide⟩ args w⟩
open Go.Sort in
theorem sorts27 : AnyZI.SortsIn Tryz.prog Tryz.sorted27_ren Fence.wide 3 :=
 ⟨fun blk off cap ss W hH hb hs => callsIn_wide.2 (Any.slices_Sort_int Tryz.lays189 blk off cap ss W hH hb hs), fun p cap W => callsIn_wide.2 (Any.slices_Sort_int_none Tryz.lays189 p cap W)⟩
theorem sorted27 : SortC Tryz.prog 27 :=
 ⟨⟨Tryz.f27, Tryz.func27, by kernel_rfl, by decide⟩, Tryz.sorted27_ren, Tryz.sorted27, by kernel_rfl, sorts27, fun args w => callFunc_enter (f := 56) ⟨Tryz.f56, Tryz.func56, by kernel_rfl, by decide⟩ args w⟩
theorem hearts : Hearts K Tryz.prog := by
 refine ⟨fun f hf => ?_, fun f t hf => ?_⟩
 ·have hf' : f ∈ [80, 81] := List.contains_iff_mem.1 hf
  simp only [List.mem_cons, List.not_mem_nil, or_false] at hf'
  rcases hf' with rfl | rfl
  ·exact ⟨clone80.call, fun args h v h' hv ρ w vals r m hr hd ha => clone_ok clone80 hv hr hd ha⟩
  ·exact ⟨clone81.call, fun args h v h' hv ρ w vals r m hr hd ha => clone_ok clone81 hv hr hd ha⟩
 ·have kc : ∀ g, K.keys.contains g = true → KeysC Tryz.prog g := fun g hg => by
   have hg' : g ∈ [57, 61, 121, 170] := List.contains_iff_mem.1 hg
   simp only [List.mem_cons, List.not_mem_nil, or_false] at hg'
   rcases hg' with rfl | rfl | rfl | rfl
   ·exact keys57
   ·exact keys61
   ·exact keys121
   ·exact keys170
  have e : f = 27 := by
   have hf2 : List.lookup f [(27, 3)] = some t := hf
   simp only [List.lookup] at hf2
   split at hf2
   ·rename_i hb
    exact eq_of_beq hb
   ·cases hf2
  subst e
  exact ⟨sorted27.call, fun args h v h' hv ρ w vals r m hr hd ha => sorted_ok sorted27 kc hv hr hd ha⟩
end Go.Proofs.YtpiljmilaelfnaaGreatDoor
