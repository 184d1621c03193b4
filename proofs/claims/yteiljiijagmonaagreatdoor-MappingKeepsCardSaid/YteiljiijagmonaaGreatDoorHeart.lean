/- What the evaluator knows by heart stands in the program: maps.Clone, the iterators of maps.Keys, slices.Sorted. -/
import Derived.Test.YteiljiijagmonaaGreatDoorLay
import Derived.Test.YteiljiijagmonaaGreatDoorCfg
import Derived.Test.YteiljiijagmonaaGreatDoorEvC
import Derived.WalkKit
import Derived.Shelf.SlMaps.Clone
set_option linter.unusedSimpArgs false
set_option linter.unusedVariables false
set_option linter.unusedSectionVars false
namespace Go.Proofs.YteiljiijagmonaaGreatDoor
open Go.Ev Go.RowKit
set_option maxHeartbeats 2000000 in
set_option maxRecDepth 100000 in
theorem Zly (w:World) (b:Nat) (es:Array MapEntry) (clock:Nat) (hb:w.heap[b]? = some (.map es clock)) :
  Calls Tryz.prog 131 #[.map (some b)] w fun e w'=>e=.returned (.map (some w.heap.size))/\w'=w.alloc (.map es clock):=by
 have hq:=fun w=>run_eql_map_nil_sl (P:=Tryz.prog) w 142 _ _ (some b) Tryz.underlying142
 go_enter Tryz.func131,Tryz.ntmps131
 go_wp2
 rw[run_callFunc_extern Tryz.func185 kR kR kR (e:=Extern.MapsClone.clone) kR,run_maps_clone_sl w 142 hb]
 simp only[Result.andThen]
 rw[Oper.upon_value]
 go_wp2
 rw[run_typeAssert_map_sl _ 142 _ _ _ _ Tryz.underlying142]
 simp only[Result.andThen]
 rw[Oper.upon_value]
 go_wp2
 go_ret
 exact⟨rfl,rfl⟩
set_option maxHeartbeats 2000000 in
set_option maxRecDepth 100000 in
theorem Zlx (w:World):Calls Tryz.prog 131 #[.map none] w fun e w'=>e=.returned (.map none)/\w'=w:=by
 have hq:=fun w=>run_eql_map_nil_sl (P:=Tryz.prog) w 142 _ _ none Tryz.underlying142
 go_enter Tryz.func131,Tryz.ntmps131
 go_wp2
 go_ret
 exact⟨rfl,rfl⟩
theorem clone131:CloneC Tryz.prog 131:=⟨⟨Tryz.f131,Tryz.func131,kR,by decide⟩,Zly,Zlx⟩
set_option maxHeartbeats 2000000 in
set_option maxRecDepth 100000 in
theorem Zl0 (w:World) (b:Nat) (es:Array MapEntry) (clock:Nat) (hb:w.heap[b]? = some (.map es clock)) :
  Calls Tryz.prog 132 #[.map (some b)] w fun e w'=>e=.returned (.map (some w.heap.size))/\w'=w.alloc (.map es clock):=by
 have hq:=fun w=>run_eql_map_nil_sl (P:=Tryz.prog) w 143 _ _ (some b) Tryz.underlying143
 go_enter Tryz.func132,Tryz.ntmps132
 go_wp2
 rw[run_callFunc_extern Tryz.func185 kR kR kR (e:=Extern.MapsClone.clone) kR,run_maps_clone_sl w 143 hb]
 simp only[Result.andThen]
 rw[Oper.upon_value]
 go_wp2
 rw[run_typeAssert_map_sl _ 143 _ _ _ _ Tryz.underlying143]
 simp only[Result.andThen]
 rw[Oper.upon_value]
 go_wp2
 go_ret
 exact⟨rfl,rfl⟩
set_option maxHeartbeats 2000000 in
set_option maxRecDepth 100000 in
theorem Zlz (w:World):Calls Tryz.prog 132 #[.map none] w fun e w'=>e=.returned (.map none)/\w'=w:=by
 have hq:=fun w=>run_eql_map_nil_sl (P:=Tryz.prog) w 143 _ _ none Tryz.underlying143
 go_enter Tryz.func132,Tryz.ntmps132
 go_wp2
 go_ret
 exact⟨rfl,rfl⟩
theorem clone132:CloneC Tryz.prog 132:=⟨⟨Tryz.f132,Tryz.func132,kR,by decide⟩,Zl0,Zlz⟩
theorem keys81:KeysC Tryz.prog 81:=⟨Tryz.keys36_ren,{ Tryz.keys36 with },kR,fun args w=>U4 ⟨Tryz.f81,Tryz.func81,kR,by decide⟩ args w⟩
theorem keys85:KeysC Tryz.prog 85:=⟨Tryz.keys40_ren,{ Tryz.keys40 with },kR,fun args w=>U4 ⟨Tryz.f85,Tryz.func85,kR,by decide⟩ args w⟩
theorem keys213:KeysC Tryz.prog 213:=⟨Tryz.keys172_ren,{ Tryz.keys172 with },kR,fun args w=>U4 ⟨Tryz.f213,Tryz.func213,kR,by decide⟩ args w⟩
theorem keys270:KeysC Tryz.prog 270:=⟨Tryz.keys253_ren,{ Tryz.keys253 with },kR,fun args w=>U4 ⟨Tryz.f270,Tryz.func270,kR,by decide⟩ args w⟩
open Go.Sort in
theorem sorts35:AnyZI.SortsIn Tryz.prog Tryz.sorted35_ren Fence.wide 3 :=
 ⟨fun blk off cap ss W hH hb hs=>callsIn_wide.2 (Any.slices_Sort_int Tryz.lays189 blk off cap ss W hH hb hs),fun p cap W=>callsIn_wide.2 (Any.slices_Sort_int_none Tryz.lays189 p cap W)⟩
theorem sorted35:SortC Tryz.prog 35 :=
 ⟨⟨Tryz.f35,Tryz.func35,kR,by decide⟩,Tryz.sorted35_ren,Tryz.sorted35,kR,sorts35,fun args w=>U4 (f:=80) ⟨Tryz.f80,Tryz.func80,kR,by decide⟩ args w⟩
theorem Z65:Hearts K Tryz.prog:=by
 refine⟨fun f hf=>?_,fun f t hf=>?_⟩
 ·have hf':f∈[131,132]:=List.contains_iff_mem.1 hf
  simp only[List.mem_cons,List.not_mem_nil,or_false] at hf'
  rcases hf' with rfl|rfl
  ·exact⟨clone131.call,fun args h v h' hv ρ w vals r m hr hd ha=>Zok clone131 hv hr hd ha⟩
  ·exact⟨clone132.call,fun args h v h' hv ρ w vals r m hr hd ha=>Zok clone132 hv hr hd ha⟩
 ·have kc:∀ g,K.keys.contains g=true->KeysC Tryz.prog g:=fun g hg=>by
   have hg':g∈[81,85,213,270]:=List.contains_iff_mem.1 hg
   simp only[List.mem_cons,List.not_mem_nil,or_false] at hg'
   rcases hg' with rfl|rfl|rfl|rfl
   ·exact keys81
   ·exact keys85
   ·exact keys213
   ·exact keys270
  have e:f=35:=by
   have hf2:List.lookup f [(35,3)]=some t:=hf
   simp only[List.lookup] at hf2
   split at hf2
   ·rename_i hb
    exact eq_of_beq hb
   ·cases hf2
  subst e
  exact⟨sorted35.call,fun args h v h' hv ρ w vals r m hr hd ha=>Zw5 sorted35 kc hv hr hd ha⟩
end Go.Proofs.YteiljiijagmonaaGreatDoor
