/- What the evaluator knows by heart stands in the program: maps.Clone, the iterators of maps.Keys, slices.Sorted. -/
import Derived.Test.YtngejdlimkgjfaaGreatDoorLay
import Derived.Test.YtngejdlimkgjfaaGreatDoorCfg
import Derived.Test.YtngejdlimkgjfaaGreatDoorEvC
import Derived.WalkKit
import Derived.Shelf.SlMaps.Clone
import Derived.KernelRfl
set_option linter.unusedSimpArgs false
set_option linter.unusedVariables false
set_option linter.unusedSectionVars false
namespace Go.Proofs.YtngejdlimkgjfaaGreatDoor
open Go.Ev Go.RowKit
set_option maxHeartbeats 2000000 in
set_option maxRecDepth 100000 in
theorem Zlx (w:World) (b:Nat) (es:Array MapEntry) (clock:Nat) (hb:w.heap[b]? = some (.map es clock)) :
  Calls Tryz.prog 125 #[.map (some b)] w fun e w'=>e=.returned (.map (some w.heap.size))∧w'=w.alloc (.map es clock):=by
 have hq:=fun w=>run_eql_map_nil_sl (P:=Tryz.prog) w 135 _ _ (some b) Tryz.underlying135
 go_enter Tryz.func125,Tryz.ntmps125
 go_wp2
 rw[run_callFunc_extern Tryz.func160 (by kernel_rfl) (by kernel_rfl) (by kernel_rfl) (e:=Extern.MapsClone.clone) (by kernel_rfl),run_maps_clone_sl w 135 hb]
 simp only[Result.andThen]
 rw[Oper.upon_value]
 go_wp2
 rw[run_typeAssert_map_sl _ 135 _ _ _ _ Tryz.underlying135]
 simp only[Result.andThen]
 rw[Oper.upon_value]
 go_wp2
 go_ret
 exact⟨rfl,rfl⟩
set_option maxHeartbeats 2000000 in
set_option maxRecDepth 100000 in
theorem Zlz (w:World):Calls Tryz.prog 125 #[.map none] w fun e w'=>e=.returned (.map none)∧w'=w:=by
 have hq:=fun w=>run_eql_map_nil_sl (P:=Tryz.prog) w 135 _ _ none Tryz.underlying135
 go_enter Tryz.func125,Tryz.ntmps125
 go_wp2
 go_ret
 exact⟨rfl,rfl⟩
theorem clone125:CloneC Tryz.prog 125:=⟨⟨Tryz.f125,Tryz.func125,by kernel_rfl,by decide⟩,Zlx,Zlz⟩
set_option maxHeartbeats 2000000 in
set_option maxRecDepth 100000 in
theorem Zkm (w:World) (b:Nat) (es:Array MapEntry) (clock:Nat) (hb:w.heap[b]? = some (.map es clock)) :
  Calls Tryz.prog 126 #[.map (some b)] w fun e w'=>e=.returned (.map (some w.heap.size))∧w'=w.alloc (.map es clock):=by
 have hq:=fun w=>run_eql_map_nil_sl (P:=Tryz.prog) w 136 _ _ (some b) Tryz.underlying136
 go_enter Tryz.func126,Tryz.ntmps126
 go_wp2
 rw[run_callFunc_extern Tryz.func160 (by kernel_rfl) (by kernel_rfl) (by kernel_rfl) (e:=Extern.MapsClone.clone) (by kernel_rfl),run_maps_clone_sl w 136 hb]
 simp only[Result.andThen]
 rw[Oper.upon_value]
 go_wp2
 rw[run_typeAssert_map_sl _ 136 _ _ _ _ Tryz.underlying136]
 simp only[Result.andThen]
 rw[Oper.upon_value]
 go_wp2
 go_ret
 exact⟨rfl,rfl⟩
set_option maxHeartbeats 2000000 in
set_option maxRecDepth 100000 in
theorem Zkq (w:World):Calls Tryz.prog 126 #[.map none] w fun e w'=>e=.returned (.map none)∧w'=w:=by
 have hq:=fun w=>run_eql_map_nil_sl (P:=Tryz.prog) w 136 _ _ none Tryz.underlying136
 go_enter Tryz.func126,Tryz.ntmps126
 go_wp2
 go_ret
 exact⟨rfl,rfl⟩
theorem clone126:CloneC Tryz.prog 126:=⟨⟨Tryz.f126,Tryz.func126,by kernel_rfl,by decide⟩,Zkm,Zkq⟩
theorem keys170:KeysC Tryz.prog 170:=⟨Tryz.keys146_ren,{ Tryz.keys146 with },by kernel_rfl,fun args w=>G9 ⟨Tryz.f170,Tryz.func170,by kernel_rfl,by decide⟩ args w⟩
theorem keys227:KeysC Tryz.prog 227:=⟨Tryz.keys211_ren,{ Tryz.keys211 with },by kernel_rfl,fun args w=>G9 ⟨Tryz.f227,Tryz.func227,by kernel_rfl,by decide⟩ args w⟩
open Go.Sort in
theorem sorts145:AnyZI.SortsIn Tryz.prog Tryz.sorted145_ren Fence.wide 3 :=
 ⟨fun blk off cap ss W hH hb hs=>callsIn_wide.2 (Any.slices_Sort_int Tryz.lays189 blk off cap ss W hH hb hs),fun p cap W=>callsIn_wide.2 (Any.slices_Sort_int_none Tryz.lays189 p cap W)⟩
theorem sorted145:SortC Tryz.prog 145 :=
 ⟨⟨Tryz.f145,Tryz.func145,by kernel_rfl,by decide⟩,Tryz.sorted145_ren,Tryz.sorted145,by kernel_rfl,sorts145,fun args w=>G9 (f:=144) ⟨Tryz.f144,Tryz.func144,by kernel_rfl,by decide⟩ args w⟩
theorem Z2q:Hearts K Tryz.prog:=by
 refine⟨fun f hf=>?_,fun f t hf=>?_⟩
 ·have hf':f∈[125,126]:=List.contains_iff_mem.1 hf
  simp only[List.mem_cons,List.not_mem_nil,or_false] at hf'
  rcases hf' with rfl|rfl
  ·exact⟨clone125.call,fun args h v h' hv ρ w vals r m hr hd ha=>Zou clone125 hv hr hd ha⟩
  ·exact⟨clone126.call,fun args h v h' hv ρ w vals r m hr hd ha=>Zou clone126 hv hr hd ha⟩
 ·have kc:∀ g,K.keys.contains g=true→KeysC Tryz.prog g:=fun g hg=>by
   have hg':g∈[170,227]:=List.contains_iff_mem.1 hg
   simp only[List.mem_cons,List.not_mem_nil,or_false] at hg'
   rcases hg' with rfl|rfl
   ·exact keys170
   ·exact keys227
  have e:f=145:=by
   have hf2:List.lookup f [(145,3)]=some t:=hf
   simp only[List.lookup] at hf2
   split at hf2
   ·rename_i hb
    exact eq_of_beq hb
   ·cases hf2
  subst e
  exact⟨sorted145.call,fun args h v h' hv ρ w vals r m hr hd ha=>Zua sorted145 kc hv hr hd ha⟩
end Go.Proofs.YtngejdlimkgjfaaGreatDoor
