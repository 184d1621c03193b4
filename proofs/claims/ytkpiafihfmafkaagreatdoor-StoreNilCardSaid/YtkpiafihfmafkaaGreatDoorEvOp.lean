/- An operation goes as the evaluator says. -/
import Derived.Test.YtkpiafihfmafkaaGreatDoorEvConv
namespace Go.Ev
open Go.RowKit

section
variable {K : Cfg} {P : Program} {ρ : Ren} {h : H} {w : World} {ts : Tmps} {e : Operand → Value} {o : Oper} {v : V} {h' : H}

theorem evOp_sound (F : Fits K P) (hr : Rep K ρ h w) (hn : ρ h.next = none) (he : EvR K ρ ts e) (hv : evOp K ts h o.op = some (v, h')) : Good K ρ h w v h' ((execOp e o).run P w) := by
  cases hop : o.op <;> rw [hop] at hv
  case move x => exact (good_move hr he (.inl hop) hv).good hr
  case assign x => exact (good_move hr he (.inr hop) hv).good hr
  case pick c a b => exact (good_pick hr he hop hv).good hr
  case alloc t => exact good_alloc F hr hn hop hv
  case box t x => exact good_box hr hn he hop hv
  case build t ps => exact (good_build F hr he hop hv).good hr
  case buildSlice t n ps => exact good_buildSlice F hr hn he hop hv
  case load t x => exact (good_load F hr he hop hv).good hr
  case store t x y => exact good_store F hr he hop hv
  case nilCheck x => exact (good_nilCheck hr he hop hv).good hr
  case binOp op t x y u => exact (good_binOp F hr he hop hv).good hr
  case unOp op t x => exact (good_unOp hr he hop hv).good hr
  case convert t u x => exact (good_convert F hr he hop hv).good hr
  case makeFunc f a b => exact (good_makeFunc hr he hop hv).good hr
  case makeMap t r => exact good_makeMap F hr hn he hop hv
  case makeSlice t x y => exact good_makeSlice F hr hn he hop hv
  case slice t x lo hi m => exact (good_slice F hr he hop hv).good hr
  case fieldAddr t x f => exact (good_fieldAddr F hr he hop hv).good hr
  case field t x f => exact (good_field F hr he hop hv).good hr
  case indexAddr t x y => exact (good_indexAddr F hr he hop hv).good hr
  case index t x y => exact (good_index F hr he hop hv).good hr
  case lookup t x y ok => exact (good_lookup F hr he hop hv).good hr
  case mapUpdate t x y z => exact good_mapUpdate F hr he hop hv
  case range t x => exact good_range F hr hn he hop hv
  case next x b => exact good_next hr he hop hv
  case extract x i => exact (good_extract hr he hop hv).good hr
  case call c =>
    obtain ⟨callee, args, tys⟩ := c
    cases callee with
    | builtin b => exact good_builtin F hr hn he hop hv
    | value f => cases hv
    | invoke r m => cases hv
  all_goals cases hv

/-- Operations that change nothing. -/
theorem evOp_same (F : Fits K P) (hr : Rep K ρ h w) (he : EvR K ρ ts e) (hk : kd o.op = .pure ∨ kd o.op = .read) (hv : evOp K ts h o.op = some (v, h')) : Same ρ h w v h' ((execOp e o).run P w) := by
  cases hop : o.op <;> rw [hop] at hv hk
  case move x => exact good_move hr he (.inl hop) hv
  case assign x => exact good_move hr he (.inr hop) hv
  case pick c a b => exact good_pick hr he hop hv
  case build t ps => exact good_build F hr he hop hv
  case load t x => exact good_load F hr he hop hv
  case nilCheck x => exact good_nilCheck hr he hop hv
  case binOp op t x y u => exact good_binOp F hr he hop hv
  case unOp op t x => exact good_unOp hr he hop hv
  case convert t u x => exact good_convert F hr he hop hv
  case makeFunc f a b => exact good_makeFunc hr he hop hv
  case slice t x lo hi m => exact good_slice F hr he hop hv
  case fieldAddr t x f => exact good_fieldAddr F hr he hop hv
  case field t x f => exact good_field F hr he hop hv
  case indexAddr t x y => exact good_indexAddr F hr he hop hv
  case index t x y => exact good_index F hr he hop hv
  case lookup t x y ok => exact good_lookup F hr he hop hv
  case extract x i => exact good_extract hr he hop hv
  case call c =>
    obtain ⟨callee, args, tys⟩ := c
    cases callee with
    | builtin b =>
      refine same_builtin F hr he hop ?_ hv
      rcases hk with hk | hk
      · cases b <;> cases hk
      · exact hk
    | value f => cases hv
    | invoke r m => cases hv
  all_goals (rcases hk with hk | hk <;> cases hk)

end
end Go.Ev
