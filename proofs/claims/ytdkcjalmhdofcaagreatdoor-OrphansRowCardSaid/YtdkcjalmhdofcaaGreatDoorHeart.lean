/- What the evaluator knows by heart stands in the program: maps.Clone, the iterators of maps.Keys, slices.Sorted. -/
import Derived.Test.YtdkcjalmhdofcaaGreatDoorLay
import Derived.Test.YtdkcjalmhdofcaaGreatDoorCfg
import Derived.Test.YtdkcjalmhdofcaaGreatDoorEvC
import Derived.WalkKit
import Derived.Shelf.SlMaps.Clone
import Derived.KernelRfl
set_option linter.unusedSimpArgs false
set_option linter.unusedVariables false
set_option linter.unusedSectionVars false
namespace Go.Proofs.YtdkcjalmhdofcaaGreatDoor
open Go.Ev Go.RowKit
set_option maxHeartbeats 2000000 in
set_option maxRecDepth 100000 in
theorem Zj4 (w:World) (b:Nat) (es:Array MapEntry) (clock:Nat) (hb:w.heap[b]? = some (.map es clock)) :
  Calls Tryz.prog 117 #[.map (some b)] w fun e w'=>e=.returned (.map (some w.heap.size))∧w'=w.alloc (.map es clock):=by
 have hq:=fun w=>run_eql_map_nil_sl (P:=Tryz.prog) w 173 _ _ (some b) Tryz.underlying173
 go_enter Tryz.func117,Tryz.ntmps117
 go_wp2
 rw[run_callFunc_extern Tryz.func165 (by kernel_rfl) (by kernel_rfl) (by kernel_rfl) (e:=Extern.MapsClone.clone) (by kernel_rfl),run_maps_clone_sl w 173 hb]
 simp only[Result.andThen]
 rw[Oper.upon_value]
 go_wp2
 rw[run_typeAssert_map_sl _ 173 _ _ _ _ Tryz.underlying173]
 simp only[Result.andThen]
 rw[Oper.upon_value]
 go_wp2
 go_ret
 exact⟨rfl,rfl⟩
set_option maxHeartbeats 2000000 in
set_option maxRecDepth 100000 in
theorem Zji (w:World):Calls Tryz.prog 117 #[.map none] w fun e w'=>e=.returned (.map none)∧w'=w:=by
 have hq:=fun w=>run_eql_map_nil_sl (P:=Tryz.prog) w 173 _ _ none Tryz.underlying173
 go_enter Tryz.func117,Tryz.ntmps117
 go_wp2
 go_ret
 exact⟨rfl,rfl⟩
theorem clone117:CloneC Tryz.prog 117:=⟨⟨Tryz.f117,Tryz.func117,by kernel_rfl,by decide⟩,Zj4,Zji⟩
set_option maxHeartbeats 2000000 in
set_option maxRecDepth 100000 in
theorem Zib (w:World) (b:Nat) (es:Array MapEntry) (clock:Nat) (hb:w.heap[b]? = some (.map es clock)) :
  Calls Tryz.prog 118 #[.map (some b)] w fun e w'=>e=.returned (.map (some w.heap.size))∧w'=w.alloc (.map es clock):=by
 have hq:=fun w=>run_eql_map_nil_sl (P:=Tryz.prog) w 174 _ _ (some b) Tryz.underlying174
 go_enter Tryz.func118,Tryz.ntmps118
 go_wp2
 rw[run_callFunc_extern Tryz.func165 (by kernel_rfl) (by kernel_rfl) (by kernel_rfl) (e:=Extern.MapsClone.clone) (by kernel_rfl),run_maps_clone_sl w 174 hb]
 simp only[Result.andThen]
 rw[Oper.upon_value]
 go_wp2
 rw[run_typeAssert_map_sl _ 174 _ _ _ _ Tryz.underlying174]
 simp only[Result.andThen]
 rw[Oper.upon_value]
 go_wp2
 go_ret
 exact⟨rfl,rfl⟩
set_option maxHeartbeats 2000000 in
set_option maxRecDepth 100000 in
theorem Zjf (w:World):Calls Tryz.prog 118 #[.map none] w fun e w'=>e=.returned (.map none)∧w'=w:=by
 have hq:=fun w=>run_eql_map_nil_sl (P:=Tryz.prog) w 174 _ _ none Tryz.underlying174
 go_enter Tryz.func118,Tryz.ntmps118
 go_wp2
 go_ret
 exact⟨rfl,rfl⟩
theorem clone118:CloneC Tryz.prog 118:=⟨⟨Tryz.f118,Tryz.func118,by kernel_rfl,by decide⟩,Zib,Zjf⟩
theorem keys185:KeysC Tryz.prog 185:=⟨Tryz.keys151_ren,{ Tryz.keys151 with },by kernel_rfl,fun args w=>Oq ⟨Tryz.f185,Tryz.func185,by kernel_rfl,by decide⟩ args w⟩
theorem keys252:KeysC Tryz.prog 252:=⟨Tryz.keys233_ren,{ Tryz.keys233 with },by kernel_rfl,fun args w=>Oq ⟨Tryz.f252,Tryz.func252,by kernel_rfl,by decide⟩ args w⟩
open Go.Sort in
theorem sorts150:AnyZI.SortsIn Tryz.prog Tryz.sorted150_ren Fence.wide 3 :=
 ⟨fun blk off cap ss W hH hb hs=>callsIn_wide.2 (Any.slices_Sort_int Tryz.lays189 blk off cap ss W hH hb hs),fun p cap W=>callsIn_wide.2 (Any.slices_Sort_int_none Tryz.lays189 p cap W)⟩
theorem sorted150:SortC Tryz.prog 150 :=
 ⟨⟨Tryz.f150,Tryz.func150,by kernel_rfl,by decide⟩,Tryz.sorted150_ren,Tryz.sorted150,by kernel_rfl,sorts150,fun args w=>Oq (f:=149) ⟨Tryz.f149,Tryz.func149,by kernel_rfl,by decide⟩ args w⟩
theorem Z0l:Hearts K Tryz.prog:=by
 refine⟨fun f hf=>?_,fun f t hf=>?_⟩
 ·have hf':f∈[117,118]:=List.contains_iff_mem.1 hf
  simp only[List.mem_cons,List.not_mem_nil,or_false] at hf'
  rcases hf' with rfl|rfl
  ·exact⟨clone117.call,fun args h v h' hv ρ w vals r m hr hd ha=>Zl1 clone117 hv hr hd ha⟩
  ·exact⟨clone118.call,fun args h v h' hv ρ w vals r m hr hd ha=>Zl1 clone118 hv hr hd ha⟩
 ·have kc:∀ g,K.keys.contains g=true→KeysC Tryz.prog g:=fun g hg=>by
   have hg':g∈[185,252]:=List.contains_iff_mem.1 hg
   simp only[List.mem_cons,List.not_mem_nil,or_false] at hg'
   rcases hg' with rfl|rfl
   ·exact keys185
   ·exact keys252
  have e:f=150:=by
   have hf2:List.lookup f [(150,3)]=some t:=hf
   simp only[List.lookup] at hf2
   split at hf2
   ·rename_i hb
    exact eq_of_beq hb
   ·cases hf2
  subst e
  exact⟨sorted150.call,fun args h v h' hv ρ w vals r m hr hd ha=>Zr3 sorted150 kc hv hr hd ha⟩
end Go.Proofs.YtdkcjalmhdofcaaGreatDoor
