/- A program's tables, checked. -/
import Derived.Test.YtkpiafihfmafkaaGreatDoorEvSort2
namespace Go.Ev
open Go.RowKit

/-! ### All that a tree holds -/
def atO {α : Type} (p : Nat → α → Prop) (o : Nat) : Option α → Prop
  | some x => p o x
  | none => True
/-- a tree whose number k stands for o + m * k -/
def Tree.AllT {α : Type} (p : Nat → α → Prop) : Tree α → Nat → Nat → Prop
  | .nil, _, _ => True
  | .node v l r, m, o => atO p o v ∧ l.AllT p (2 * m) (o + m) ∧ r.AllT p (2 * m) (o + 2 * m)
theorem Tree.AllT.get {α : Type} {p : Nat → α → Prop} : ∀ {t : Tree α} {m o : Nat}, t.AllT p m o → ∀ k x, t.get k = some x → p (o + m * k) x
  | .nil, _, _, _, k, x, h => by rw [Tree.get_nil] at h; cases h
  | .node v l r, m, o, ⟨h1, h2, h3⟩, k, x, h => by
    rw [Tree.get_node] at h
    split at h
    · rename_i e
      subst e
      rw [h] at h1
      have h2 : p o x := h1
      simpa using h2
    · rename_i e
      split at h
      · rename_i e2
        have := h2.get _ _ h
        have e3 : o + m + 2 * m * (k / 2) = o + m * k := by
          have : k = 2 * (k / 2) + 1 := by omega
          conv => rhs; rw [this]
          rw [Nat.mul_add, ← Nat.mul_assoc, Nat.mul_comm m 2]
          omega
        rwa [e3] at this
      · rename_i e2
        have := h3.get _ _ h
        have e3 : o + 2 * m + 2 * m * (k / 2 - 1) = o + m * k := by
          obtain ⟨q, hq⟩ : ∃ q, k = 2 * q + 2 := ⟨k / 2 - 1, by omega⟩
          have hq2 : k / 2 - 1 = q := by omega
          rw [hq2, hq, Nat.mul_add, ← Nat.mul_assoc, Nat.mul_comm m 2]
          omega
        rwa [e3] at this
def Tree.allB {α : Type} (p : Nat → α → Bool) (t : Tree α) : Nat → Nat → Bool := match t with
  | .nil => fun _ _ => true
  | .node v l r => fun m o => (match v with | some x => p o x | none => true) && l.allB p (2 * m) (o + m) && r.allB p (2 * m) (o + 2 * m)
theorem Tree.allB_all {α : Type} {p : Nat → α → Bool} : ∀ {t : Tree α} {m o : Nat}, t.allB p m o = true → t.AllT (fun i x => p i x = true) m o
  | .nil, _, _, _ => trivial
  | .node v l r, m, o, h => by
    unfold Tree.allB at h
    rw [Bool.and_eq_true, Bool.and_eq_true] at h
    refine ⟨?_, Tree.allB_all h.1.2, Tree.allB_all h.2⟩
    cases v with
    | none => trivial
    | some x => exact h.1.1

/-! ### Types -/
def infoOk (ti : TI) : Option TypeInfo → Bool
  | some i => Nat.beq i.size ti.size && Nat.beq i.bytes ti.bytes && (match i.zero with
    | some z => (match absV z with
      | some u => eqV u (.w ti.zero)
      | none => false)
    | none => false)
  | none => false
def fieldsOk (P : Program) : List Field → Bool
  | [] => true
  | f :: l => (P.info? f.type).isSome && fieldsOk P l
def partsOk (P : Program) : TypeDesc → Bool
  | .slice e => (P.info? e).isSome
  | .struct fs => fieldsOk P fs.toList
  | _ => true
def tiOk (P : Program) (t : Nat) (ti : TI) : Bool :=
  infoOk ti (P.info? t) && (ti.agg == ti.desc.isRow) && Nat.beq ti.zero.cells.length ti.size && partsOk P ti.desc && (!ti.plain || (!P.stoodInHeld t && !P.eqGuardType P.depth t))
def nameOk (_ : Nat) (fn : Func) : Bool := !(fn.name == "runtime.NumGoroutine")

theorem fieldsOk_all {P : Program} : ∀ {l : List Field}, fieldsOk P l = true → ∀ f ∈ l, ∃ i, P.info? f.type = some i
  | [], _, f, hf => by cases hf
  | g :: l, h, f, hf => by
    unfold fieldsOk at h
    rw [Bool.and_eq_true] at h
    rcases List.mem_cons.1 hf with rfl | hf
    · exact Option.isSome_iff_exists.1 h.1
    · exact fieldsOk_all h.2 f hf

theorem fits_of {K : Cfg} {P : Program} (hm : P.follows .mixedOrders = true) (hf : K.funcs.AllT (fun i fn => P.funcs[i]? = some fn) 1 0) (hn : K.funcs.allB nameOk 1 0 = true)
    (hu : K.types.AllT (fun i ti => P.underlying i = some ti.desc) 1 0) (ht : K.types.allB (tiOk P) 1 0 = true) : Fits K P := by
  have ht' : ∀ t ti, K.types.get t = some ti → tiOk P t ti = true := fun t ti h => by
    have := (Tree.allB_all ht).get t ti h
    simpa using this
  have ht2 : ∀ t ti, K.types.get t = some ti → infoOk ti (P.info? t) = true ∧ ti.agg = ti.desc.isRow ∧ ti.zero.cells.length = ti.size ∧ partsOk P ti.desc = true ∧ (ti.plain = true → P.stoodInHeld t = false ∧ P.eqGuardType P.depth t = false) := fun t ti h => by
    have := ht' t ti h
    unfold tiOk at this
    simp only [Bool.and_eq_true, Bool.or_eq_true, beq_iff_eq, Bool.not_eq_true'] at this
    obtain ⟨⟨⟨⟨h1, h2⟩, h3⟩, h4⟩, h5⟩ := this
    refine ⟨h1, h2, Nat.eq_of_beq_eq_true h3, h4, fun hp => ?_⟩
    rcases h5 with h5 | h5
    · rw [hp] at h5; cases h5
    · exact h5
  refine ⟨fun f fn h => ?_, fun f fn h e => ?_, hm, fun t ti h => ?_, fun t ti h => ?_, fun t ti h => (ht2 t ti h).2.1, fun t ti h => (ht2 t ti h).2.2.1, fun t ti el h e => ?_, fun t ti fs h e => ?_, fun t ti h => (ht2 t ti h).2.2.2.2⟩
  · have := hf.get f fn h
    simpa using this
  · have := (Tree.allB_all hn).get f fn h
    unfold nameOk at this
    rw [e] at this
    simp at this
  · have := hu.get t ti h
    simpa using this
  · have h1 := (ht2 t ti h).1
    unfold infoOk at h1
    split at h1
    · rename_i i hi
      simp only [Bool.and_eq_true] at h1
      obtain ⟨⟨a, b⟩, c⟩ := h1
      split at c
      · rename_i z hz
        split at c
        · rename_i u hu
          have e := eqV_eq c
          subst e
          exact ⟨i, hi, Nat.eq_of_beq_eq_true a, Nat.eq_of_beq_eq_true b, z, hz, fun ρ => absV_con ρ hu⟩
        · cases c
      · cases c
    · cases h1
  · have h4 := (ht2 t ti h).2.2.2.1
    rw [e] at h4
    exact Option.isSome_iff_exists.1 h4
  · have h4 := (ht2 t ti h).2.2.2.1
    rw [e] at h4
    exact fieldsOk_all h4

end Go.Ev
