/- A loop, one round unrolled. -/
import Derived.TacticsIn
namespace Go.Ev

theorem exitTo_length {id : Nat} : ∀ {k k' : List Item}, exitTo id k = some k' → k'.length < k.length
  | [], _, h => by simp [exitTo] at h
  | x :: k, k', h => by
    cases x <;> simp only [exitTo] at h
    case inBlock i =>
      split at h
      · cases h; simp
      · have := exitTo_length h; simp; omega
    all_goals (have := exitTo_length h; simp; omega)

theorem lone_todo {fr fr' : Frame} {cs cs' : List Frame} {w w' : World} (h : lone fr cs w = lone fr' cs' w') : fr = fr' := by
  simp only [lone, Machine.mk.injEq] at h
  have := h.2.1
  simp at this
  exact this.1

section
variable {F : Fence} {n : Nat} {P : Program} {Q : Exit → Act → World → Prop} {a : Act} {w : World}

theorem wpIn_unroll {c : Code} (hQ : ∀ e a w, Q e a w → e = .normal ∨ (∃ id, e = .exit id) ∨ e = .ret) (h : c.wpIn F n P (Exit.then ((Code.loop c).wpIn F n P Q) Q) a w) : (Code.loop c).wpIn F n P Q a w := by
  intro b k cs hro hb hr
  obtain ⟨e, a₁, w₁, hq, harr⟩ := h b (.inLoop c :: k) cs hro hb hr
  have pre : StepsIn (Machine.fenced P F) P (lone (b.atR a (.code (.loop c) :: k)) cs w) (lone (b.atR a (.code c :: .inLoop c :: k)) cs w) := .one (fenced_calm hb hr rfl) stepR_loop
  cases e with
  | normal =>
    have hq' : (Code.loop c).wpIn F n P Q a₁ w₁ := hq
    obtain ⟨e₂, a₂, w₂, hq₂, harr₂⟩ := hq' b k cs hro hb hr
    have strip : ∀ T, T ≠ lone (b.atR a₁ (.code (.loop c) :: k)) cs w₁ → StepsIn (Machine.fenced P F) P (lone (b.atR a₁ (.code (.loop c) :: k)) cs w₁) T → StepsIn (Machine.fenced P F) P (lone (b.atR a (.code (.loop c) :: k)) cs w) T := by
      intro T hne hs
      cases hs with
      | refl => exact absurd rfl hne
      | head hI hs' h' =>
        rw [stepR_loop] at hs'
        cases hs'
        exact (pre.trans harr).trans (.head (fenced_calm hb hr rfl) stepR_inLoop h')
    refine ⟨e₂, a₂, w₂, hq₂, ?_⟩
    rcases hQ _ _ _ hq₂ with rfl | ⟨id, rfl⟩ | rfl
    · refine strip _ (fun heq => ?_) harr₂
      have := congrArg (fun fr => fr.todo.length) (lone_todo heq)
      simp [Frame.atR] at this
    · refine ⟨fun k' hk => strip _ (fun heq => ?_) (harr₂.1 k' hk), fun h1 h2 => ?_⟩
      · have := congrArg (fun fr => fr.todo.length) (lone_todo heq)
        have hl := exitTo_length hk
        simp [Frame.atR] at this
        omega
      · obtain ⟨k₁, hk₁, hs⟩ := harr₂.2 h1 h2
        refine ⟨k₁, hk₁, strip _ (fun heq => ?_) hs⟩
        have := congrArg (fun fr => fr.todo) (lone_todo heq)
        simp [Frame.atR] at this
    · refine ⟨fun h1 => ?_, fun h1 => ?_⟩
      · obtain ⟨todo, hs⟩ := harr₂.1 h1
        refine ⟨todo, strip _ (fun heq => ?_) hs⟩
        have := congrArg (fun fr => fr.mode) (lone_todo heq)
        simp [Frame.atR] at this
      · obtain ⟨k₁, hs⟩ := harr₂.2 h1
        refine ⟨k₁, strip _ (fun heq => ?_) hs⟩
        have := congrArg (fun fr => fr.todo) (lone_todo heq)
        simp [Frame.atR] at this
  | exit id => exact ⟨_, a₁, w₁, hq, .of_steps pre (.pass (x := .inLoop c) rfl (fun _ _ => .inl (by simp)) harr)⟩
  | goto l => exact ⟨_, a₁, w₁, hq, .of_steps pre (.pass (x := .inLoop c) rfl (fun _ _ => .inl (by simp)) harr)⟩
  | ret => exact ⟨_, a₁, w₁, hq, .of_steps pre (.pass (x := .inLoop c) rfl (fun _ _ => .inl (by simp)) harr)⟩
  | panic ch => exact ⟨_, a₁, w₁, hq, .of_steps pre (.pass (x := .inLoop c) rfl (fun _ _ => .inl (by simp)) harr)⟩
  | outgrown => exact ⟨_, a₁, w₁, hq, .of_steps pre (.pass (x := .inLoop c) rfl (fun _ _ => .inl (by simp)) harr)⟩
end
end Go.Ev
