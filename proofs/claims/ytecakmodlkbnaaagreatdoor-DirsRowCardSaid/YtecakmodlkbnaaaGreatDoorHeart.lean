/- What the evaluator knows by heart stands in the program: maps.Clone, the iterators of maps.Keys, slices.Sorted. -/
import Derived.Test.YtecakmodlkbnaaaGreatDoorLay
import Derived.Test.YtecakmodlkbnaaaGreatDoorCfg
import Derived.Test.YtecakmodlkbnaaaGreatDoorEvC
import Derived.WalkKit
import Derived.Shelf.SlMaps.Clone
import Derived.KernelRfl
set_option linter.unusedSimpArgs false
set_option linter.unusedVariables false
set_option linter.unusedSectionVars false
namespace Go.Proofs.YtecakmodlkbnaaaGreatDoor
open Go.Ev Go.RowKit
set_option maxHeartbeats 2000000 in
set_option maxRecDepth 100000 in
theorem Znm (w:World) (b:Nat) (es:Array MapEntry) (clock:Nat) (hb:w.heap[b]? = some (.map es clock)) :
  Calls Tryz.prog 132 #[.map (some b)] w fun e w'=>e=.returned (.map (some w.heap.size))∧w'=w.alloc (.map es clock):=by
 have hq:=fun w=>run_eql_map_nil_sl (P:=Tryz.prog) w 152 _ _ (some b) Tryz.underlying152
 go_enter Tryz.func132,Tryz.ntmps132
 go_wp2
 rw[run_callFunc_extern Tryz.func180 (by kernel_rfl) (by kernel_rfl) (by kernel_rfl) (e:=Extern.MapsClone.clone) (by kernel_rfl),run_maps_clone_sl w 152 hb]
 simp only[Result.andThen]
 rw[Oper.upon_value]
 go_wp2
 rw[run_typeAssert_map_sl _ 152 _ _ _ _ Tryz.underlying152]
 simp only[Result.andThen]
 rw[Oper.upon_value]
 go_wp2
 go_ret
 exact⟨rfl,rfl⟩
set_option maxHeartbeats 2000000 in
set_option maxRecDepth 100000 in
theorem Zl4 (w:World):Calls Tryz.prog 132 #[.map none] w fun e w'=>e=.returned (.map none)∧w'=w:=by
 have hq:=fun w=>run_eql_map_nil_sl (P:=Tryz.prog) w 152 _ _ none Tryz.underlying152
 go_enter Tryz.func132,Tryz.ntmps132
 go_wp2
 go_ret
 exact⟨rfl,rfl⟩
theorem clone132:CloneC Tryz.prog 132:=⟨⟨Tryz.f132,Tryz.func132,by kernel_rfl,by decide⟩,Znm,Zl4⟩
set_option maxHeartbeats 2000000 in
set_option maxRecDepth 100000 in
theorem Zmt (w:World) (b:Nat) (es:Array MapEntry) (clock:Nat) (hb:w.heap[b]? = some (.map es clock)) :
  Calls Tryz.prog 133 #[.map (some b)] w fun e w'=>e=.returned (.map (some w.heap.size))∧w'=w.alloc (.map es clock):=by
 have hq:=fun w=>run_eql_map_nil_sl (P:=Tryz.prog) w 153 _ _ (some b) Tryz.underlying153
 go_enter Tryz.func133,Tryz.ntmps133
 go_wp2
 rw[run_callFunc_extern Tryz.func180 (by kernel_rfl) (by kernel_rfl) (by kernel_rfl) (e:=Extern.MapsClone.clone) (by kernel_rfl),run_maps_clone_sl w 153 hb]
 simp only[Result.andThen]
 rw[Oper.upon_value]
 go_wp2
 rw[run_typeAssert_map_sl _ 153 _ _ _ _ Tryz.underlying153]
 simp only[Result.andThen]
 rw[Oper.upon_value]
 go_wp2
 go_ret
 exact⟨rfl,rfl⟩
set_option maxHeartbeats 2000000 in
set_option maxRecDepth 100000 in
theorem Zlw (w:World):Calls Tryz.prog 133 #[.map none] w fun e w'=>e=.returned (.map none)∧w'=w:=by
 have hq:=fun w=>run_eql_map_nil_sl (P:=Tryz.prog) w 153 _ _ none Tryz.underlying153
 go_enter Tryz.func133,Tryz.ntmps133
 go_wp2
 go_ret
 exact⟨rfl,rfl⟩
theorem clone133:CloneC Tryz.prog 133:=⟨⟨Tryz.f133,Tryz.func133,by kernel_rfl,by decide⟩,Zmt,Zlw⟩
theorem keys201:KeysC Tryz.prog 201:=⟨Tryz.keys166_ren,{ Tryz.keys166 with },by kernel_rfl,fun args w=>Gs ⟨Tryz.f201,Tryz.func201,by kernel_rfl,by decide⟩ args w⟩
theorem keys271:KeysC Tryz.prog 271:=⟨Tryz.keys251_ren,{ Tryz.keys251 with },by kernel_rfl,fun args w=>Gs ⟨Tryz.f271,Tryz.func271,by kernel_rfl,by decide⟩ args w⟩
open Go.Sort in
theorem sorts165:AnyZI.SortsIn Tryz.prog Tryz.sorted165_ren Fence.wide 3 :=
 ⟨fun blk off cap ss W hH hb hs=>callsIn_wide.2 (Any.slices_Sort_int Tryz.lays189 blk off cap ss W hH hb hs),fun p cap W=>callsIn_wide.2 (Any.slices_Sort_int_none Tryz.lays189 p cap W)⟩
theorem sorted165:SortC Tryz.prog 165 :=
 ⟨⟨Tryz.f165,Tryz.func165,by kernel_rfl,by decide⟩,Tryz.sorted165_ren,Tryz.sorted165,by kernel_rfl,sorts165,fun args w=>Gs (f:=164) ⟨Tryz.f164,Tryz.func164,by kernel_rfl,by decide⟩ args w⟩
theorem Zzp:Hearts K Tryz.prog:=by
 refine⟨fun f hf=>?_,fun f t hf=>?_⟩
 ·have hf':f∈[132,133]:=List.contains_iff_mem.1 hf
  simp only[List.mem_cons,List.not_mem_nil,or_false] at hf'
  rcases hf' with rfl|rfl
  ·exact⟨clone132.call,fun args h v h' hv ρ w vals r m hr hd ha=>Zog clone132 hv hr hd ha⟩
  ·exact⟨clone133.call,fun args h v h' hv ρ w vals r m hr hd ha=>Zog clone133 hv hr hd ha⟩
 ·have kc:∀ g,K.keys.contains g=true→KeysC Tryz.prog g:=fun g hg=>by
   have hg':g∈[201,271]:=List.contains_iff_mem.1 hg
   simp only[List.mem_cons,List.not_mem_nil,or_false] at hg'
   rcases hg' with rfl|rfl
   ·exact keys201
   ·exact keys271
  have e:f=165:=by
   have hf2:List.lookup f [(165,3)]=some t:=hf
   simp only[List.lookup] at hf2
   split at hf2
   ·rename_i hb
    exact eq_of_beq hb
   ·cases hf2
  subst e
  exact⟨sorted165.call,fun args h v h' hv ρ w vals r m hr hd ha=>Zyf sorted165 kc hv hr hd ha⟩
end Go.Proofs.YtecakmodlkbnaaaGreatDoor
