/- Frames: slots, arguments, results. -/
import Derived.Test.YtkpiafihfmafkaaGreatDoorEvOp
import Derived.RangeFuncIn
import Derived.RangeFuncLeaves
import Derived.TacticsIn
namespace Go.Ev
open Go.RowKit

/-- The fence that lets all in; the round that is run. -/
def Wd (r : Option Nat) : Fence := { Fence.wide with round := r }

section
variable {K : Cfg} {P : Program} {ρ ρ' : Ren} {h h' : H} {w w' : World} {ts ts' : Tmps} {n : Nat}

/-- What holds behind. -/
structure Aft (K : Cfg) (ρ : Ren) (h : H) (w : World) (ρ' : Ren) (h' : H) (w' : World) : Prop where
  le : Ren.le ρ ρ'
  new : New ρ ρ' h.next h'.next
  rep : Rep K ρ' h' w'
  fr : Fr ρ h w ρ' h' w'
  up : h.next ≤ h'.next
theorem Aft.refl (hr : Rep K ρ h w) : Aft K ρ h w ρ h w := ⟨Ren.le.refl _, New.refl _ _ _, hr, Fr.refl _ _ _, Nat.le_refl _⟩
theorem Aft.trans {ρ'' : Ren} {h'' : H} {w'' : World} (a : Aft K ρ h w ρ' h' w') (b : Aft K ρ' h' w' ρ'' h'' w'') : Aft K ρ h w ρ'' h'' w'' :=
  ⟨a.le.trans b.le, a.new.trans b.new a.up b.up, b.rep, a.fr.trans b.fr, Nat.le_trans a.up b.up⟩
theorem Aft.dom (a : Aft K ρ h w ρ' h' w') (d : Dom ρ h.next) : Dom ρ' h'.next := d.new a.new a.up

theorem evalT_set (ts : Tmps) (d : Nat) (v : V) (i : Nat) : evalT (ts.set d v) i = if i = d then v else evalT ts i := by
  unfold evalT
  rw [Tree.get_set]
  by_cases e : i = d <;> simp [e]

theorem TRel.set {tmps : Array Value} (ht : TRel ρ n ts tmps) {d : Nat} (hd : d < n) {v : V} {val : Value} (hv : ConV ρ v val) : TRel ρ n (ts.set d v) (tmps.setIfInBounds d val) := by
  refine ⟨by simp [ht.1], fun i => ?_⟩
  rw [evalT_set]
  by_cases e : i = d
  · subst e
    rw [if_pos rfl]
    have : (tmps.setIfInBounds i val).getD i Go.undef = val := by
      rw [Array.getD_eq_getD_getElem?, Array.getElem?_setIfInBounds_self_of_lt (by rw [ht.1]; exact hd)]
      rfl
    rw [this]
    exact hv
  · rw [if_neg e]
    have : (tmps.setIfInBounds d val).getD i Go.undef = tmps.getD i Go.undef := by
      rw [Array.getD_eq_getD_getElem?, Array.getD_eq_getD_getElem?, Array.getElem?_setIfInBounds_ne (Ne.symm e)]
    rw [this]
    exact ht.2 i

theorem TRel.put {a : Act} (ht : TRel ρ n ts a.tmps) {d : Option Tmp} {v : V} {val : Value} (hv : ConV ρ v val) (hp : putT n ts d v = some ts') : TRel ρ n ts' (a.put d val).tmps := by
  unfold putT at hp
  split at hp
  · cases hp; exact ht
  · rename_i d
    cases hb : Nat.blt d n with
    | false => rw [hb] at hp; cases hp
    | true =>
      rw [hb] at hp
      cases hp
      exact ht.set (blt_lt hb) hv

theorem put_defers (a : Act) (d : Option Tmp) (v : Value) : (a.put d v).defers = a.defers := by cases d <;> rfl

theorem conV_bool {v : V} {b : Bool} (h : ConV ρ v (.bool b)) : v = .w (.c (.bool b)) := by
  cases v with
  | tup l => obtain ⟨vs, e, _⟩ := h; cases e
  | w x =>
    cases x with
    | g l => obtain ⟨cs, e, _⟩ := h; cases e
    | c c =>
      cases c <;> simp only [ConV, ConW, Con, ConP] at h
      case bool b' => cases h; rfl
      case ptr => obtain ⟨_, _, e⟩ := h; cases e
      case slice => obtain ⟨_, _, _, _, e, _⟩ := h; cases e
      case map => obtain ⟨_, _, e⟩ := h; cases e
      case fn => obtain ⟨_, _, e, _⟩ := h; cases e
      case yield => obtain ⟨_, _, e⟩ := h; cases e
      all_goals cases h

theorem yielded_eq {tmps : Array Value} (ht : TRel ρ n ts tmps) (ops : Array Oper) (j : Nat) : yieldedB ts ops.toList[j]? = yielded ops tmps j := by
  unfold yielded yieldedB
  rw [Array.getElem?_toList]
  cases ops[j]? with
  | none => rfl
  | some oj =>
    simp only [Option.bind_some]
    cases hd : oj.dst with
    | none => rfl
    | some d =>
      simp only [Option.bind_some]
      have hr := ht.2 d
      have hg : tmps.getD d Go.undef = (tmps[d]?).getD Go.undef := Array.getD_eq_getD_getElem?
      rw [hg] at hr
      cases hv : tmps[d]? with
      | none =>
        rw [hv] at hr
        simp only [Option.getD_none] at hr
        -- no bool there
        cases ht2 : ts.get d with
        | none => rfl
        | some v =>
          have he : evalT ts d = v := by simp [evalT, ht2]
          rw [he] at hr
          cases v with
          | tup l => rfl
          | w x =>
            cases x with
            | g l => rfl
            | c c =>
              cases c <;> first | rfl | skip
              exact absurd hr (by simp only [ConV, ConW, Con]; intro e; cases e)
      | some u =>
        rw [hv] at hr
        simp only [Option.getD_some] at hr
        cases u
        case bool b =>
          have := conV_bool hr
          unfold evalT at this
          split at this
          · cases this
          · rename_i v hv'
            subst this
            rw [hv']
        all_goals
          cases ht2 : ts.get d with
          | none => rfl
          | some v =>
            have he : evalT ts d = v := by simp [evalT, ht2]
            rw [he] at hr
            cases v with
            | tup l => rfl
            | w x =>
              cases x with
              | g l => rfl
              | c c =>
                cases c <;> first | rfl | skip
                exact absurd hr (by simp only [ConV, ConW, Con]; intro e; cases e)

theorem wanted_eq {tmps : Array Value} (ht : TRel ρ n ts tmps) (ops : Array Oper) (o : Oper) : wantedB ops.toList ts o.guard = Region.wanted o (yielded ops tmps) := by
  unfold wantedB Region.wanted
  cases o.guard with
  | none => rfl
  | some p =>
    obtain ⟨j, want⟩ := p
    simp only
    rw [yielded_eq ht ops j]
    cases yielded ops tmps j with
    | none => rfl
    | some b => cases b <;> cases want <;> rfl

/-! ### Arguments and results -/
theorem argTmps_get : ∀ (l : List W) (i : Nat) (t : Tmps) (j : Nat), evalT (argTmps i l t) j = if i ≤ j ∧ j < i + l.length then (match l[j - i]? with | some v => .w v | none => undef) else evalT t j
  | [], i, t, j => by
    rw [if_neg (by simp)]
    rfl
  | v :: l, i, t, j => by
    rw [argTmps, argTmps_get l (i + 1)]
    by_cases h1 : i + 1 ≤ j ∧ j < i + 1 + l.length
    · rw [if_pos h1, if_pos (by simp; omega)]
      rw [show j - i = (j - (i + 1)) + 1 by omega]
      simp
    · rw [if_neg h1, evalT_set]
      by_cases h2 : j = i
      · subst h2
        rw [if_pos rfl, if_pos (by simp)]
        simp
      · rw [if_neg h2, if_neg (by simp; omega)]

theorem args_rel {args : List W} {vals : List Value} (ha : All2 (ConW ρ) args vals) {n : Nat} (hn : args.length ≤ n) : TRel ρ n (argTmps 0 args .nil) (vals.toArray ++ Array.replicate (n - vals.toArray.size) Go.undef) := by
  have hl := ha.length
  refine ⟨by rw [Array.size_append, Array.size_replicate, List.size_toArray]; omega, fun (i : Nat) => ?_⟩
  rw [argTmps_get]
  rw [Array.getD_eq_getD_getElem?]
  by_cases hi : 0 ≤ i ∧ i < 0 + args.length
  · rw [if_pos hi]
    have hi' : i < args.length := by omega
    obtain ⟨b, hb, hc⟩ := ha.get i _ (List.getElem?_eq_getElem hi')
    rw [Array.getElem?_append_left (by rw [List.size_toArray]; omega)]
    simp only [Nat.sub_zero, List.getElem?_eq_getElem hi', List.getElem?_toArray, hb, Option.getD_some]
    exact hc
  · rw [if_neg hi, Array.getElem?_append_right (by rw [List.size_toArray]; omega)]
    have : (Array.replicate (n - vals.toArray.size) Go.undef)[i - vals.toArray.size]?.getD Go.undef = Go.undef := by
      rw [Array.getElem?_replicate]
      split <;> rfl
    rw [this]
    exact conV_undef ρ

theorem evR_of (hr : Rep K ρ h w) {a : Act} (ht : TRel ρ n ts a.tmps) : EvR K ρ ts a.eval := evalO_con hr ht

end
end Go.Ev
