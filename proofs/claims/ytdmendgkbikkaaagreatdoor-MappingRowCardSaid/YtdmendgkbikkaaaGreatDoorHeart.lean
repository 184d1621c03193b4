/- What the evaluator knows by heart stands in the program: maps.Clone, the iterators of maps.Keys, slices.Sorted. -/
import Derived.Test.YtdmendgkbikkaaaGreatDoorLay
import Derived.Test.YtdmendgkbikkaaaGreatDoorCfg
import Derived.Test.YtdmendgkbikkaaaGreatDoorEvC
import Derived.WalkKit
import Derived.Shelf.SlMaps.Clone
import Derived.KernelRfl
set_option linter.unusedSimpArgs false
set_option linter.unusedVariables false
set_option linter.unusedSectionVars false
namespace Go.Proofs.YtdmendgkbikkaaaGreatDoor
open Go.Ev Go.RowKit
set_option maxHeartbeats 2000000 in
set_option maxRecDepth 100000 in
theorem Zi3 (w:World) (b:Nat) (es:Array MapEntry) (clock:Nat) (hb:w.heap[b]? = some (.map es clock)) :
  Calls Tryz.prog 133 #[.map (some b)] w fun e w'=>e=.returned (.map (some w.heap.size))∧w'=w.alloc (.map es clock):=by
 have hq:=fun w=>run_eql_map_nil_sl (P:=Tryz.prog) w 146 _ _ (some b) Tryz.underlying146
 go_enter Tryz.func133,Tryz.ntmps133
 go_wp2
 rw[run_callFunc_extern Tryz.func187 (by kernel_rfl) (by kernel_rfl) (by kernel_rfl) (e:=Extern.MapsClone.clone) (by kernel_rfl),run_maps_clone_sl w 146 hb]
 simp only[Result.andThen]
 rw[Oper.upon_value]
 go_wp2
 rw[run_typeAssert_map_sl _ 146 _ _ _ _ Tryz.underlying146]
 simp only[Result.andThen]
 rw[Oper.upon_value]
 go_wp2
 go_ret
 exact⟨rfl,rfl⟩
set_option maxHeartbeats 2000000 in
set_option maxRecDepth 100000 in
theorem Zi2 (w:World):Calls Tryz.prog 133 #[.map none] w fun e w'=>e=.returned (.map none)∧w'=w:=by
 have hq:=fun w=>run_eql_map_nil_sl (P:=Tryz.prog) w 146 _ _ none Tryz.underlying146
 go_enter Tryz.func133,Tryz.ntmps133
 go_wp2
 go_ret
 exact⟨rfl,rfl⟩
theorem clone133:CloneC Tryz.prog 133:=⟨⟨Tryz.f133,Tryz.func133,by kernel_rfl,by decide⟩,Zi3,Zi2⟩
set_option maxHeartbeats 2000000 in
set_option maxRecDepth 100000 in
theorem Zi5 (w:World) (b:Nat) (es:Array MapEntry) (clock:Nat) (hb:w.heap[b]? = some (.map es clock)) :
  Calls Tryz.prog 134 #[.map (some b)] w fun e w'=>e=.returned (.map (some w.heap.size))∧w'=w.alloc (.map es clock):=by
 have hq:=fun w=>run_eql_map_nil_sl (P:=Tryz.prog) w 147 _ _ (some b) Tryz.underlying147
 go_enter Tryz.func134,Tryz.ntmps134
 go_wp2
 rw[run_callFunc_extern Tryz.func187 (by kernel_rfl) (by kernel_rfl) (by kernel_rfl) (e:=Extern.MapsClone.clone) (by kernel_rfl),run_maps_clone_sl w 147 hb]
 simp only[Result.andThen]
 rw[Oper.upon_value]
 go_wp2
 rw[run_typeAssert_map_sl _ 147 _ _ _ _ Tryz.underlying147]
 simp only[Result.andThen]
 rw[Oper.upon_value]
 go_wp2
 go_ret
 exact⟨rfl,rfl⟩
set_option maxHeartbeats 2000000 in
set_option maxRecDepth 100000 in
theorem Zi4 (w:World):Calls Tryz.prog 134 #[.map none] w fun e w'=>e=.returned (.map none)∧w'=w:=by
 have hq:=fun w=>run_eql_map_nil_sl (P:=Tryz.prog) w 147 _ _ none Tryz.underlying147
 go_enter Tryz.func134,Tryz.ntmps134
 go_wp2
 go_ret
 exact⟨rfl,rfl⟩
theorem clone134:CloneC Tryz.prog 134:=⟨⟨Tryz.f134,Tryz.func134,by kernel_rfl,by decide⟩,Zi5,Zi4⟩
theorem keys85:KeysC Tryz.prog 85:=⟨Tryz.keys40_ren,{ Tryz.keys40 with },by kernel_rfl,fun args w=>Uu ⟨Tryz.f85,Tryz.func85,by kernel_rfl,by decide⟩ args w⟩
theorem keys89:KeysC Tryz.prog 89:=⟨Tryz.keys44_ren,{ Tryz.keys44 with },by kernel_rfl,fun args w=>Uu ⟨Tryz.f89,Tryz.func89,by kernel_rfl,by decide⟩ args w⟩
theorem keys215:KeysC Tryz.prog 215:=⟨Tryz.keys174_ren,{ Tryz.keys174 with },by kernel_rfl,fun args w=>Uu ⟨Tryz.f215,Tryz.func215,by kernel_rfl,by decide⟩ args w⟩
theorem keys272:KeysC Tryz.prog 272:=⟨Tryz.keys255_ren,{ Tryz.keys255 with },by kernel_rfl,fun args w=>Uu ⟨Tryz.f272,Tryz.func272,by kernel_rfl,by decide⟩ args w⟩
open Go.Sort in
theorem sorts39:AnyZI.SortsIn Tryz.prog Tryz.sorted39_ren Fence.wide 3 :=
 ⟨fun blk off cap ss W hH hb hs=>callsIn_wide.2 (Any.slices_Sort_int Tryz.lays189 blk off cap ss W hH hb hs),fun p cap W=>callsIn_wide.2 (Any.slices_Sort_int_none Tryz.lays189 p cap W)⟩
theorem sorted39:SortC Tryz.prog 39 :=
 ⟨⟨Tryz.f39,Tryz.func39,by kernel_rfl,by decide⟩,Tryz.sorted39_ren,Tryz.sorted39,by kernel_rfl,sorts39,fun args w=>Uu (f:=84) ⟨Tryz.f84,Tryz.func84,by kernel_rfl,by decide⟩ args w⟩
theorem Z24:Hearts K Tryz.prog:=by
 refine⟨fun f hf=>?_,fun f t hf=>?_⟩
 ·have hf':f∈[133,134]:=List.contains_iff_mem.1 hf
  simp only[List.mem_cons,List.not_mem_nil,or_false] at hf'
  rcases hf' with rfl|rfl
  ·exact⟨clone133.call,fun args h v h' hv ρ w vals r m hr hd ha=>Zlg clone133 hv hr hd ha⟩
  ·exact⟨clone134.call,fun args h v h' hv ρ w vals r m hr hd ha=>Zlg clone134 hv hr hd ha⟩
 ·have kc:∀ g,K.keys.contains g=true→KeysC Tryz.prog g:=fun g hg=>by
   have hg':g∈[85,89,215,272]:=List.contains_iff_mem.1 hg
   simp only[List.mem_cons,List.not_mem_nil,or_false] at hg'
   rcases hg' with rfl|rfl|rfl|rfl
   ·exact keys85
   ·exact keys89
   ·exact keys215
   ·exact keys272
  have e:f=39:=by
   have hf2:List.lookup f [(39,3)]=some t:=hf
   simp only[List.lookup] at hf2
   split at hf2
   ·rename_i hb
    exact eq_of_beq hb
   ·cases hf2
  subst e
  exact⟨sorted39.call,fun args h v h' hv ρ w vals r m hr hd ha=>Ztn sorted39 kc hv hr hd ha⟩
end Go.Proofs.YtdmendgkbikkaaaGreatDoor
