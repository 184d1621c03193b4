/- What the evaluator knows by heart stands in the program: maps.Clone, the iterators of maps.Keys, slices.Sorted. -/
import Derived.Test.YtmanipmhebgdbaaGreatDoorLay
import Derived.Test.YtmanipmhebgdbaaGreatDoorCfg
import Derived.Test.YtmanipmhebgdbaaGreatDoorEvC
import Derived.WalkKit
import Derived.Shelf.SlMaps.Clone
set_option linter.unusedSimpArgs false
set_option linter.unusedVariables false
set_option linter.unusedSectionVars false
namespace Go.Proofs.YtmanipmhebgdbaaGreatDoor
open Go.Ev Go.RowKit
set_option maxHeartbeats 2000000 in
set_option maxRecDepth 100000 in
theorem Zm3 (w:World) (b:Nat) (es:Array MapEntry) (clock:Nat) (hb:w.heap[b]? = some (.map es clock)) :
  Calls Tryz.prog 259 #[.map (some b)] w fun e w'=>e=.returned (.map (some w.heap.size))/\w'=w.alloc (.map es clock):=by
 have hq:=fun w=>run_eql_map_nil_sl (P:=Tryz.prog) w 303 _ _ (some b) Tryz.underlying303
 go_enter Tryz.func259,Tryz.ntmps259
 go_wp2
 rw[run_callFunc_extern Tryz.func305 kR kR kR (e:=Extern.MapsClone.clone) kR,run_maps_clone_sl w 303 hb]
 simp only[Result.andThen]
 rw[Oper.upon_value]
 go_wp2
 rw[run_typeAssert_map_sl _ 303 _ _ _ _ Tryz.underlying303]
 simp only[Result.andThen]
 rw[Oper.upon_value]
 go_wp2
 go_ret
 exact⟨rfl,rfl⟩
set_option maxHeartbeats 2000000 in
set_option maxRecDepth 100000 in
theorem Zm2 (w:World):Calls Tryz.prog 259 #[.map none] w fun e w'=>e=.returned (.map none)/\w'=w:=by
 have hq:=fun w=>run_eql_map_nil_sl (P:=Tryz.prog) w 303 _ _ none Tryz.underlying303
 go_enter Tryz.func259,Tryz.ntmps259
 go_wp2
 go_ret
 exact⟨rfl,rfl⟩
theorem clone259:CloneC Tryz.prog 259:=⟨⟨Tryz.f259,Tryz.func259,kR,by decide⟩,Zm3,Zm2⟩
set_option maxHeartbeats 2000000 in
set_option maxRecDepth 100000 in
theorem Zm5 (w:World) (b:Nat) (es:Array MapEntry) (clock:Nat) (hb:w.heap[b]? = some (.map es clock)) :
  Calls Tryz.prog 260 #[.map (some b)] w fun e w'=>e=.returned (.map (some w.heap.size))/\w'=w.alloc (.map es clock):=by
 have hq:=fun w=>run_eql_map_nil_sl (P:=Tryz.prog) w 295 _ _ (some b) Tryz.underlying295
 go_enter Tryz.func260,Tryz.ntmps260
 go_wp2
 rw[run_callFunc_extern Tryz.func305 kR kR kR (e:=Extern.MapsClone.clone) kR,run_maps_clone_sl w 295 hb]
 simp only[Result.andThen]
 rw[Oper.upon_value]
 go_wp2
 rw[run_typeAssert_map_sl _ 295 _ _ _ _ Tryz.underlying295]
 simp only[Result.andThen]
 rw[Oper.upon_value]
 go_wp2
 go_ret
 exact⟨rfl,rfl⟩
set_option maxHeartbeats 2000000 in
set_option maxRecDepth 100000 in
theorem Zm4 (w:World):Calls Tryz.prog 260 #[.map none] w fun e w'=>e=.returned (.map none)/\w'=w:=by
 have hq:=fun w=>run_eql_map_nil_sl (P:=Tryz.prog) w 295 _ _ none Tryz.underlying295
 go_enter Tryz.func260,Tryz.ntmps260
 go_wp2
 go_ret
 exact⟨rfl,rfl⟩
theorem clone260:CloneC Tryz.prog 260:=⟨⟨Tryz.f260,Tryz.func260,kR,by decide⟩,Zm5,Zm4⟩
theorem keys203:KeysC Tryz.prog 203:=⟨Tryz.keys129_ren,{ Tryz.keys129 with },kR,fun args w=>Uy ⟨Tryz.f203,Tryz.func203,kR,by decide⟩ args w⟩
theorem keys207:KeysC Tryz.prog 207:=⟨Tryz.keys133_ren,{ Tryz.keys133 with },kR,fun args w=>Uy ⟨Tryz.f207,Tryz.func207,kR,by decide⟩ args w⟩
theorem keys327:KeysC Tryz.prog 327:=⟨Tryz.keys293_ren,{ Tryz.keys293 with },kR,fun args w=>Uy ⟨Tryz.f327,Tryz.func327,kR,by decide⟩ args w⟩
theorem keys379:KeysC Tryz.prog 379:=⟨Tryz.keys365_ren,{ Tryz.keys365 with },kR,fun args w=>Uy ⟨Tryz.f379,Tryz.func379,kR,by decide⟩ args w⟩
open Go.Sort in
theorem sorts128:AnyZI.SortsIn Tryz.prog Tryz.sorted128_ren Fence.wide 3 :=
 ⟨fun blk off cap ss W hH hb hs=>callsIn_wide.2 (Any.slices_Sort_int Tryz.lays189 blk off cap ss W hH hb hs),fun p cap W=>callsIn_wide.2 (Any.slices_Sort_int_none Tryz.lays189 p cap W)⟩
theorem sorted128:SortC Tryz.prog 128 :=
 ⟨⟨Tryz.f128,Tryz.func128,kR,by decide⟩,Tryz.sorted128_ren,Tryz.sorted128,kR,sorts128,fun args w=>Uy (f:=202) ⟨Tryz.f202,Tryz.func202,kR,by decide⟩ args w⟩
theorem Z9v:Hearts K Tryz.prog:=by
 refine⟨fun f hf=>?_,fun f t hf=>?_⟩
 ·have hf':f∈[259,260]:=List.contains_iff_mem.1 hf
  simp only[List.mem_cons,List.not_mem_nil,or_false] at hf'
  rcases hf' with rfl|rfl
  ·exact⟨clone259.call,fun args h v h' hv ρ w vals r m hr hd ha=>Zpu clone259 hv hr hd ha⟩
  ·exact⟨clone260.call,fun args h v h' hv ρ w vals r m hr hd ha=>Zpu clone260 hv hr hd ha⟩
 ·have kc:∀ g,K.keys.contains g=true->KeysC Tryz.prog g:=fun g hg=>by
   have hg':g∈[203,207,327,379]:=List.contains_iff_mem.1 hg
   simp only[List.mem_cons,List.not_mem_nil,or_false] at hg'
   rcases hg' with rfl|rfl|rfl|rfl
   ·exact keys203
   ·exact keys207
   ·exact keys327
   ·exact keys379
  have e:f=128:=by
   have hf2:List.lookup f [(128,3)]=some t:=hf
   simp only[List.lookup] at hf2
   split at hf2
   ·rename_i hb
    exact eq_of_beq hb
   ·cases hf2
  subst e
  exact⟨sorted128.call,fun args h v h' hv ρ w vals r m hr hd ha=>Zyu sorted128 kc hv hr hd ha⟩
end Go.Proofs.YtmanipmhebgdbaaGreatDoor
