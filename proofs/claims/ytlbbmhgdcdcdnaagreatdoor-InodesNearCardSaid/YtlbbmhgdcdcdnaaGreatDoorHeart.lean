/- What the evaluator knows by heart stands in the program: maps.Clone, the iterators of maps.Keys, slices.Sorted. -/
import Derived.Test.YtlbbmhgdcdcdnaaGreatDoorLay
import Derived.Test.YtlbbmhgdcdcdnaaGreatDoorCfg
import Derived.Test.YtlbbmhgdcdcdnaaGreatDoorEvC
import Derived.WalkKit
import Derived.Shelf.SlMaps.Clone
import Derived.KernelRfl
set_option linter.unusedSimpArgs false
set_option linter.unusedVariables false
set_option linter.unusedSectionVars false
namespace Go.Proofs.YtlbbmhgdcdcdnaaGreatDoor
open Go.Ev Go.RowKit
set_option maxHeartbeats 2000000 in
set_option maxRecDepth 100000 in
theorem clone108some (w:World) (b:Nat) (es:Array MapEntry) (clock:Nat) (hb:w.heap[b]? = some (.map es clock)) :
  Calls Tryz.prog 108 #[.map (some b)] w fun e w'=>e=.returned (.map (some w.heap.size))∧w'=w.alloc (.map es clock):=by
 have hq:=fun w=>run_eql_map_nil_sl (P:=Tryz.prog) w 127 _ _ (some b) Tryz.underlying127
 go_enter Tryz.func108,Tryz.ntmps108
 go_wp2
 rw[run_callFunc_extern Tryz.func145 (by kernel_rfl) (by kernel_rfl) (by kernel_rfl) (e:=Extern.MapsClone.clone) (by kernel_rfl),run_maps_clone_sl w 127 hb]
 simp only[Result.andThen]
 rw[Oper.upon_value]
 go_wp2
 rw[run_typeAssert_map_sl _ 127 _ _ _ _ Tryz.underlying127]
 simp only[Result.andThen]
 rw[Oper.upon_value]
 go_wp2
 go_ret
 exact⟨rfl,rfl⟩
set_option maxHeartbeats 2000000 in
set_option maxRecDepth 100000 in
theorem clone108none (w:World):Calls Tryz.prog 108 #[.map none] w fun e w'=>e=.returned (.map none)∧w'=w:=by
 have hq:=fun w=>run_eql_map_nil_sl (P:=Tryz.prog) w 127 _ _ none Tryz.underlying127
 go_enter Tryz.func108,Tryz.ntmps108
 go_wp2
 go_ret
 exact⟨rfl,rfl⟩
theorem clone108:CloneC Tryz.prog 108:=⟨⟨Tryz.f108,Tryz.func108,by kernel_rfl,by decide⟩,clone108some,clone108none⟩
set_option maxHeartbeats 2000000 in
set_option maxRecDepth 100000 in
theorem clone109some (w:World) (b:Nat) (es:Array MapEntry) (clock:Nat) (hb:w.heap[b]? = some (.map es clock)) :
  Calls Tryz.prog 109 #[.map (some b)] w fun e w'=>e=.returned (.map (some w.heap.size))∧w'=w.alloc (.map es clock):=by
 have hq:=fun w=>run_eql_map_nil_sl (P:=Tryz.prog) w 128 _ _ (some b) Tryz.underlying128
 go_enter Tryz.func109,Tryz.ntmps109
 go_wp2
 rw[run_callFunc_extern Tryz.func145 (by kernel_rfl) (by kernel_rfl) (by kernel_rfl) (e:=Extern.MapsClone.clone) (by kernel_rfl),run_maps_clone_sl w 128 hb]
 simp only[Result.andThen]
 rw[Oper.upon_value]
 go_wp2
 rw[run_typeAssert_map_sl _ 128 _ _ _ _ Tryz.underlying128]
 simp only[Result.andThen]
 rw[Oper.upon_value]
 go_wp2
 go_ret
 exact⟨rfl,rfl⟩
set_option maxHeartbeats 2000000 in
set_option maxRecDepth 100000 in
theorem clone109none (w:World):Calls Tryz.prog 109 #[.map none] w fun e w'=>e=.returned (.map none)∧w'=w:=by
 have hq:=fun w=>run_eql_map_nil_sl (P:=Tryz.prog) w 128 _ _ none Tryz.underlying128
 go_enter Tryz.func109,Tryz.ntmps109
 go_wp2
 go_ret
 exact⟨rfl,rfl⟩
theorem clone109:CloneC Tryz.prog 109:=⟨⟨Tryz.f109,Tryz.func109,by kernel_rfl,by decide⟩,clone109some,clone109none⟩
theorem keys161:KeysC Tryz.prog 161:=⟨Tryz.keys131_ren,{ Tryz.keys131 with },by kernel_rfl,fun args w=>callFunc_enter ⟨Tryz.f161,Tryz.func161,by kernel_rfl,by decide⟩ args w⟩
theorem keys222:KeysC Tryz.prog 222:=⟨Tryz.keys205_ren,{ Tryz.keys205 with },by kernel_rfl,fun args w=>callFunc_enter ⟨Tryz.f222,Tryz.func222,by kernel_rfl,by decide⟩ args w⟩
open Go.Sort in
theorem sorts130:AnyZI.SortsIn Tryz.prog Tryz.sorted130_ren Fence.wide 3 :=
 ⟨fun blk off cap ss W hH hb hs=>callsIn_wide.2 (Any.slices_Sort_int Tryz.lays189 blk off cap ss W hH hb hs),fun p cap W=>callsIn_wide.2 (Any.slices_Sort_int_none Tryz.lays189 p cap W)⟩
theorem sorted130:SortC Tryz.prog 130 :=
 ⟨⟨Tryz.f130,Tryz.func130,by kernel_rfl,by decide⟩,Tryz.sorted130_ren,Tryz.sorted130,by kernel_rfl,sorts130,fun args w=>callFunc_enter (f:=129) ⟨Tryz.f129,Tryz.func129,by kernel_rfl,by decide⟩ args w⟩
theorem hearts:Hearts K Tryz.prog:=by
 refine⟨fun f hf=>?_,fun f t hf=>?_⟩
 ·have hf':f∈[108,109]:=List.contains_iff_mem.1 hf
  simp only[List.mem_cons,List.not_mem_nil,or_false] at hf'
  rcases hf' with rfl|rfl
  ·exact⟨clone108.call,fun args h v h' hv ρ w vals r m hr hd ha=>clone_ok clone108 hv hr hd ha⟩
  ·exact⟨clone109.call,fun args h v h' hv ρ w vals r m hr hd ha=>clone_ok clone109 hv hr hd ha⟩
 ·have kc:∀ g,K.keys.contains g=true→KeysC Tryz.prog g:=fun g hg=>by
   have hg':g∈[161,222]:=List.contains_iff_mem.1 hg
   simp only[List.mem_cons,List.not_mem_nil,or_false] at hg'
   rcases hg' with rfl|rfl
   ·exact keys161
   ·exact keys222
  have e:f=130:=by
   have hf2:List.lookup f [(130,3)]=some t:=hf
   simp only[List.lookup] at hf2
   split at hf2
   ·rename_i hb
    exact eq_of_beq hb
   ·cases hf2
  subst e
  exact⟨sorted130.call,fun args h v h' hv ρ w vals r m hr hd ha=>sorted_ok sorted130 kc hv hr hd ha⟩
end Go.Proofs.YtlbbmhgdcdcdnaaGreatDoor
