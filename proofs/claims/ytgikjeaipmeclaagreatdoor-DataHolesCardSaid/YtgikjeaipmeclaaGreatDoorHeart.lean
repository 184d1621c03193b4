/- What the evaluator knows by heart stands in the program: maps.Clone, the iterators of maps.Keys, slices.Sorted. -/
import Derived.Test.YtgikjeaipmeclaaGreatDoorLay
import Derived.Test.YtgikjeaipmeclaaGreatDoorCfg
import Derived.Test.YtgikjeaipmeclaaGreatDoorEvC
import Derived.WalkKit
import Derived.Shelf.SlMaps.Clone
import Derived.KernelRfl
set_option linter.unusedSimpArgs false
set_option linter.unusedVariables false
set_option linter.unusedSectionVars false
namespace Go.Proofs.YtgikjeaipmeclaaGreatDoor
open Go.Ev Go.RowKit
set_option maxHeartbeats 2000000 in
set_option maxRecDepth 100000 in
theorem Zjg (w:World) (b:Nat) (es:Array MapEntry) (clock:Nat) (hb:w.heap[b]? = some (.map es clock)) :
  Calls Tryz.prog 106 #[.map (some b)] w fun e w'=>e=.returned (.map (some w.heap.size))∧w'=w.alloc (.map es clock):=by
 have hq:=fun w=>run_eql_map_nil_sl (P:=Tryz.prog) w 174 _ _ (some b) Tryz.underlying174
 go_enter Tryz.func106,Tryz.ntmps106
 go_wp2
 rw[run_callFunc_extern Tryz.func143 (by kernel_rfl) (by kernel_rfl) (by kernel_rfl) (e:=Extern.MapsClone.clone) (by kernel_rfl),run_maps_clone_sl w 174 hb]
 simp only[Result.andThen]
 rw[Oper.upon_value]
 go_wp2
 rw[run_typeAssert_map_sl _ 174 _ _ _ _ Tryz.underlying174]
 simp only[Result.andThen]
 rw[Oper.upon_value]
 go_wp2
 go_ret
 exact⟨rfl,rfl⟩
set_option maxHeartbeats 2000000 in
set_option maxRecDepth 100000 in
theorem Ziy (w:World):Calls Tryz.prog 106 #[.map none] w fun e w'=>e=.returned (.map none)∧w'=w:=by
 have hq:=fun w=>run_eql_map_nil_sl (P:=Tryz.prog) w 174 _ _ none Tryz.underlying174
 go_enter Tryz.func106,Tryz.ntmps106
 go_wp2
 go_ret
 exact⟨rfl,rfl⟩
theorem clone106:CloneC Tryz.prog 106:=⟨⟨Tryz.f106,Tryz.func106,by kernel_rfl,by decide⟩,Zjg,Ziy⟩
set_option maxHeartbeats 2000000 in
set_option maxRecDepth 100000 in
theorem Zhx (w:World) (b:Nat) (es:Array MapEntry) (clock:Nat) (hb:w.heap[b]? = some (.map es clock)) :
  Calls Tryz.prog 107 #[.map (some b)] w fun e w'=>e=.returned (.map (some w.heap.size))∧w'=w.alloc (.map es clock):=by
 have hq:=fun w=>run_eql_map_nil_sl (P:=Tryz.prog) w 175 _ _ (some b) Tryz.underlying175
 go_enter Tryz.func107,Tryz.ntmps107
 go_wp2
 rw[run_callFunc_extern Tryz.func143 (by kernel_rfl) (by kernel_rfl) (by kernel_rfl) (e:=Extern.MapsClone.clone) (by kernel_rfl),run_maps_clone_sl w 175 hb]
 simp only[Result.andThen]
 rw[Oper.upon_value]
 go_wp2
 rw[run_typeAssert_map_sl _ 175 _ _ _ _ Tryz.underlying175]
 simp only[Result.andThen]
 rw[Oper.upon_value]
 go_wp2
 go_ret
 exact⟨rfl,rfl⟩
set_option maxHeartbeats 2000000 in
set_option maxRecDepth 100000 in
theorem Zi9 (w:World):Calls Tryz.prog 107 #[.map none] w fun e w'=>e=.returned (.map none)∧w'=w:=by
 have hq:=fun w=>run_eql_map_nil_sl (P:=Tryz.prog) w 175 _ _ none Tryz.underlying175
 go_enter Tryz.func107,Tryz.ntmps107
 go_wp2
 go_ret
 exact⟨rfl,rfl⟩
theorem clone107:CloneC Tryz.prog 107:=⟨⟨Tryz.f107,Tryz.func107,by kernel_rfl,by decide⟩,Zhx,Zi9⟩
theorem keys163:KeysC Tryz.prog 163:=⟨Tryz.keys129_ren,{ Tryz.keys129 with },by kernel_rfl,fun args w=>Ox ⟨Tryz.f163,Tryz.func163,by kernel_rfl,by decide⟩ args w⟩
theorem keys241:KeysC Tryz.prog 241:=⟨Tryz.keys213_ren,{ Tryz.keys213 with },by kernel_rfl,fun args w=>Ox ⟨Tryz.f241,Tryz.func241,by kernel_rfl,by decide⟩ args w⟩
open Go.Sort in
theorem sorts128:AnyZI.SortsIn Tryz.prog Tryz.sorted128_ren Fence.wide 3 :=
 ⟨fun blk off cap ss W hH hb hs=>callsIn_wide.2 (Any.slices_Sort_int Tryz.lays189 blk off cap ss W hH hb hs),fun p cap W=>callsIn_wide.2 (Any.slices_Sort_int_none Tryz.lays189 p cap W)⟩
theorem sorted128:SortC Tryz.prog 128 :=
 ⟨⟨Tryz.f128,Tryz.func128,by kernel_rfl,by decide⟩,Tryz.sorted128_ren,Tryz.sorted128,by kernel_rfl,sorts128,fun args w=>Ox (f:=127) ⟨Tryz.f127,Tryz.func127,by kernel_rfl,by decide⟩ args w⟩
theorem Zw7:Hearts K Tryz.prog:=by
 refine⟨fun f hf=>?_,fun f t hf=>?_⟩
 ·have hf':f∈[106,107]:=List.contains_iff_mem.1 hf
  simp only[List.mem_cons,List.not_mem_nil,or_false] at hf'
  rcases hf' with rfl|rfl
  ·exact⟨clone106.call,fun args h v h' hv ρ w vals r m hr hd ha=>Zl5 clone106 hv hr hd ha⟩
  ·exact⟨clone107.call,fun args h v h' hv ρ w vals r m hr hd ha=>Zl5 clone107 hv hr hd ha⟩
 ·have kc:∀ g,K.keys.contains g=true→KeysC Tryz.prog g:=fun g hg=>by
   have hg':g∈[163,241]:=List.contains_iff_mem.1 hg
   simp only[List.mem_cons,List.not_mem_nil,or_false] at hg'
   rcases hg' with rfl|rfl
   ·exact keys163
   ·exact keys241
  have e:f=128:=by
   have hf2:List.lookup f [(128,3)]=some t:=hf
   simp only[List.lookup] at hf2
   split at hf2
   ·rename_i hb
    exact eq_of_beq hb
   ·cases hf2
  subst e
  exact⟨sorted128.call,fun args h v h' hv ρ w vals r m hr hd ha=>Zrz sorted128 kc hv hr hd ha⟩
end Go.Proofs.YtgikjeaipmeclaaGreatDoor
