/- Maps. -/
import Derived.Test.YtkpiafihfmafkaaGreatDoorEvAppend
namespace Go.Ev
open Go.RowKit

section
variable {K : Cfg} {P : Program} {ρ : Ren} {h : H} {w : World} {ts : Tmps} {e : Operand → Value} {o : Oper} {v : V} {h' : H}

/-- A key is fit to be one. -/
theorem keyT_run (F : Fits K P) (em : Bool) : ∀ (d : Nat) (t : TypeId) (x : W), keyT K d t x = true → ∀ u, ConW ρ x u → ∀ D, d < D → (Instr.checkKey em D t u).run P w = .ok () w
  | 0, _, _, h, _, _, _, _ => by simp [keyT] at h
  | d + 1, t, x, h, u, hu, D, hD => by
    obtain ⟨D', rfl⟩ : ∃ D', D = D' + 1 := ⟨D - 1, by omega⟩
    rw [keyT] at h
    split at h
    · cases h
    · rename_i ti hti
      have hun := F.und t ti hti
      split at h
      · rename_i q k n hd
        rw [hd] at hun
        have : u = .int k n := hu
        subst this
        rw [Instr.checkKey]; simp [run_underlying hun w]
      · rename_i s hd
        rw [hd] at hun
        have : u = .string ⟨⟨s⟩⟩ := hu
        subst this
        rw [Instr.checkKey]; simp [run_underlying hun w]
      · rename_i fs l hd
        rw [hd] at hun
        obtain ⟨cs, rfl, hcs⟩ := hu
        rw [Instr.checkKey]
        simp only [Sem.run_bind, run_underlying hun w, Result.andThen_ok]
        rw [← Array.forIn_toList]
        generalize fs.toList = l' at h
        clear hun hd
        suffices hs : (forIn l' PUnit.unit fun f r => do
            if f.name ≠ "_" then do
              let p ← part f.type cs f.offset
              Instr.checkKey em D' f.type p
              pure (ForInStep.yield PUnit.unit)
            else pure (ForInStep.yield PUnit.unit) : Sem PUnit).run P w = .ok PUnit.unit w by
          first
            | (rw [hs]; done)
            | (simp only [hs, Result.andThen_ok, Sem.run_pure])
            | exact hs
        induction l' with
        | nil => simp
        | cons f l' ih =>
          simp only [keyT.keyFields] at h
          rw [List.forIn_cons]
          cases hn : f.name == "_" with
          | true =>
            rw [hn] at h
            simp only [cond_true] at h
            have hn' : f.name = "_" := by simpa using hn
            simp only [hn', ne_eq, not_true_eq_false, if_false, Sem.run_bind, Sem.run_pure, Result.andThen_ok]
            exact ih h
          | false =>
            rw [hn] at h
            simp only [cond_false] at h
            have hn' : ¬ f.name = "_" := by simpa using hn
            split at h
            · cases h
            · rename_i tf htf
              split at h
              · rename_i y hy
                simp only [Bool.and_eq_true] at h
                obtain ⟨p, hp, hpc⟩ := part_run F htf hcs hy w
                have hck := keyT_run F em d f.type y h.1 p hpc D' (by omega)
                simp only [ne_eq, hn', not_false_eq_true, if_true, Sem.run_bind, hp, hck, Sem.run_pure, Result.andThen_ok]
                exact ih h.2
              · cases h
      · cases h

/-- What a key's comparison tells. -/
theorem keyT_cases {kt : TypeId} {k : W} (F : Fits K P) (h : keyT K 20 kt k = true) : (∃ q q' n, P.underlying kt = some (.int q) ∧ k = .c (.int q' n)) ∨ (∃ s, P.underlying kt = some .string ∧ k = .c (.str s)) ∨ ∃ fs l, P.underlying kt = some (.struct fs) ∧ k = .g l := by
  rw [show (20 : Nat) = 19 + 1 from rfl, keyT] at h
  split at h
  · cases h
  · rename_i ti hti
    have hun := F.und kt ti hti
    split at h
    · rename_i q k n hd; rw [hd] at hun; exact .inl ⟨q, k, n, hun, rfl⟩
    · rename_i s hd; rw [hd] at hun; exact .inr (.inl ⟨s, hun, rfl⟩)
    · rename_i fs l hd; rw [hd] at hun; exact .inr (.inr ⟨fs, l, hun, rfl⟩)
    · cases h

theorem bytes_beq (a b : List UInt8) : ((⟨⟨a⟩⟩ : ByteArray) == ⟨⟨b⟩⟩) = eqStr a b := by
  rw [beq_toListBytes, ByteArray.toList_eq, ByteArray.toList_eq, eqStr_eq]

/-- The place of a key: found there and not before; or nowhere. -/
inductive Placed (K : Cfg) (kt : TypeId) (k : W) : List (W × W) → Option (Nat × W) → Prop
  | nil : Placed K kt k [] none
  | here {k' v l} (h : keyEq K kt k k' = some true) : Placed K kt k ((k', v) :: l) (some (0, v))
  | none {k' v l} (h : keyEq K kt k k' = some false) (r : Placed K kt k l none) : Placed K kt k ((k', v) :: l) none
  | some {k' v l i u} (h : keyEq K kt k k' = some false) (r : Placed K kt k l (some (i, u))) : Placed K kt k ((k', v) :: l) (some (i + 1, u))

theorem findK_placed {kt : TypeId} {k : W} : ∀ {es : List (W × W)} {r : Option W}, findK K kt k es = some r → ∃ p, Placed K kt k es p ∧ r = p.map (·.2)
  | [], r, h => by simp [findK] at h; subst h; exact ⟨_, .nil, rfl⟩
  | (k', v) :: es, r, h => by
    simp only [findK] at h
    split at h
    · cases h
    · rename_i hk; cases h; exact ⟨_, .here hk, rfl⟩
    · rename_i hk
      obtain ⟨p, hp, hr⟩ := findK_placed h
      cases p with
      | none => exact ⟨_, .none hk hp, hr⟩
      | some p => obtain ⟨i, u⟩ := p; exact ⟨_, .some hk hp, hr⟩

theorem findKey_run (F : Fits K P) {kt : TypeId} {k : W} {u : Value} (hk : keyT K 20 kt k = true) (hu : ConW ρ k u) {es : List (W × W)} {p : Option (Nat × W)} (hp : Placed K kt k es p) {xs : List MapEntry} (hx : All2 (ConE ρ) es xs) :
    ∃ q, (Instr.findKey kt u xs).run P w = .ok q w ∧ ((p = none ∧ q = none) ∨ ∃ i v y, p = some (i, v) ∧ q = some (i, y) ∧ ConW ρ v y) := by
  have now : ∀ d, (∀ k' e, keyEq K kt k k' = some true → ConW ρ k' e → Instr.sameNow d u e = some true) → (∀ k' e, keyEq K kt k k' = some false → ConW ρ k' e → Instr.sameNow d u e = some false) →
      ∀ {es : List (W × W)} {p : Option (Nat × W)}, Placed K kt k es p → ∀ {xs : List MapEntry}, All2 (ConE ρ) es xs → ∀ j, ∃ q, Instr.findNow d u xs j = some q ∧ ((p = none ∧ q = none) ∨ ∃ i v y, p = some (i, v) ∧ q = some (j + i, y) ∧ ConW ρ v y) := by
    intro d ht hf es p hp
    induction hp with
    | nil =>
      intro xs hx j
      cases xs with
      | nil => exact ⟨none, rfl, .inl ⟨rfl, rfl⟩⟩
      | cons _ _ => exact hx.elim
    | here hh =>
      intro xs hx j
      cases xs with
      | nil => exact hx.elim
      | cons x xs =>
        have := ht _ _ hh hx.1.1
        exact ⟨some (j, x.val), by simp [Instr.findNow, this], .inr ⟨0, _, x.val, rfl, rfl, hx.1.2⟩⟩
    | none hh r ih =>
      intro xs hx j
      cases xs with
      | nil => exact hx.elim
      | cons x xs =>
        have := hf _ _ hh hx.1.1
        obtain ⟨q, hq, hc⟩ := ih hx.2 (j + 1)
        refine ⟨q, by simp [Instr.findNow, this, hq], ?_⟩
        rcases hc with ⟨_, rfl⟩ | ⟨i, v, y, hi, _⟩
        · exact .inl ⟨rfl, rfl⟩
        · cases hi
    | some hh r ih =>
      intro xs hx j
      cases xs with
      | nil => exact hx.elim
      | cons x xs =>
        have := hf _ _ hh hx.1.1
        obtain ⟨q, hq, hc⟩ := ih hx.2 (j + 1)
        refine ⟨q, by simp [Instr.findNow, this, hq], ?_⟩
        rcases hc with ⟨h0, _⟩ | ⟨i, v, y, hi, rfl, hcon⟩
        · cases h0
        · cases hi
          exact .inr ⟨_, _, y, rfl, by congr 2; omega, hcon⟩
  rcases keyT_cases F hk with ⟨q, q', n, hun, rfl⟩ | ⟨s, hun, rfl⟩ | ⟨fs, l, hun, rfl⟩
  · have hu' : u = .int q' n := hu
    subst hu'
    obtain ⟨r, hr, hc⟩ := now (.int q) (fun k' e hh he => by
      cases k' with
      | g _ => simp [keyEq] at hh
      | c c =>
        cases c <;> simp only [keyEq, reduceCtorEq] at hh
        rename_i q2 n2
        split at hh
        · rename_i hq; subst hq
          have : e = .int q' n2 := he
          subst this
          simp only [Option.some.injEq] at hh
          simp [Instr.sameNow, hh]
        · cases hh) (fun k' e hh he => by
      cases k' with
      | g _ => simp [keyEq] at hh
      | c c =>
        cases c <;> simp only [keyEq, reduceCtorEq] at hh
        rename_i q2 n2
        split at hh
        · rename_i hq; subst hq
          have : e = .int q' n2 := he
          subst this
          simp only [Option.some.injEq] at hh
          simp [Instr.sameNow, hh]
        · cases hh) hp hx 0
    refine ⟨r, by simp [Instr.findKey, run_underlying hun w, hr], ?_⟩
    rcases hc with h0 | ⟨i, v, y, a, b, c⟩
    · exact .inl h0
    · exact .inr ⟨i, v, y, a, by rw [b]; simp, c⟩
  · have hu' : u = .string ⟨⟨s⟩⟩ := hu
    subst hu'
    obtain ⟨r, hr, hc⟩ := now .string (fun k' e hh he => by
      cases k' with
      | g _ => simp [keyEq] at hh
      | c c =>
        cases c <;> simp only [keyEq, reduceCtorEq] at hh
        rename_i s2
        have : e = .string ⟨⟨s2⟩⟩ := he
        subst this
        simp only [Option.some.injEq] at hh
        simp only [Instr.sameNow, bytes_beq, hh]) (fun k' e hh he => by
      cases k' with
      | g _ => simp [keyEq] at hh
      | c c =>
        cases c <;> simp only [keyEq, reduceCtorEq] at hh
        rename_i s2
        have : e = .string ⟨⟨s2⟩⟩ := he
        subst this
        simp only [Option.some.injEq] at hh
        simp only [Instr.sameNow, bytes_beq, hh]) hp hx 0
    refine ⟨r, by simp [Instr.findKey, run_underlying hun w, hr], ?_⟩
    rcases hc with h0 | ⟨i, v, y, a, b, c⟩
    · exact .inl h0
    · exact .inr ⟨i, v, y, a, by rw [b]; simp, c⟩
  · -- by '=='
    obtain ⟨cs, hcs, _⟩ := id hu
    have ask : ∀ {es : List (W × W)} {p : Option (Nat × W)}, Placed K kt (.g l) es p → ∀ {xs : List MapEntry}, All2 (ConE ρ) es xs → ∀ j, ∃ q, (Instr.findAsking kt u xs j).run P w = .ok q w ∧ ((p = none ∧ q = none) ∨ ∃ i v y, p = some (i, v) ∧ q = some (j + i, y) ∧ ConW ρ v y) := by
      have heq : ∀ k' e r, keyEq K kt (.g l) k' = some r → ConW ρ k' e → (Op.equal kt u e).run P w = .ok r w := fun k' e r hh he => by
        cases k' with
        | c c => simp [keyEq] at hh
        | g l' => exact eqT_run F 20 kt _ _ r hh _ _ hu he 10000 (by decide)
      intro es p hp
      induction hp with
      | nil =>
        intro xs hx j
        cases xs with
        | nil => exact ⟨none, rfl, .inl ⟨rfl, rfl⟩⟩
        | cons _ _ => exact hx.elim
      | here hh =>
        intro xs hx j
        cases xs with
        | nil => exact hx.elim
        | cons x xs =>
          have := heq _ _ _ hh hx.1.1
          exact ⟨some (j, x.val), by simp [Instr.findAsking, this], .inr ⟨0, _, x.val, rfl, rfl, hx.1.2⟩⟩
      | none hh r ih =>
        intro xs hx j
        cases xs with
        | nil => exact hx.elim
        | cons x xs =>
          have := heq _ _ _ hh hx.1.1
          obtain ⟨q, hq, hc⟩ := ih hx.2 (j + 1)
          refine ⟨q, by simp [Instr.findAsking, this, hq], ?_⟩
          rcases hc with ⟨_, rfl⟩ | ⟨i, v, y, hi, _⟩
          · exact .inl ⟨rfl, rfl⟩
          · cases hi
      | some hh r ih =>
        intro xs hx j
        cases xs with
        | nil => exact hx.elim
        | cons x xs =>
          have := heq _ _ _ hh hx.1.1
          obtain ⟨q, hq, hc⟩ := ih hx.2 (j + 1)
          refine ⟨q, by simp [Instr.findAsking, this, hq], ?_⟩
          rcases hc with ⟨h0, _⟩ | ⟨i, v, y, hi, rfl, hcon⟩
          · cases h0
          · cases hi
            exact .inr ⟨_, _, y, rfl, by congr 2; omega, hcon⟩
    obtain ⟨q, hq, hc⟩ := ask hp hx 0
    have hc' : (p = none ∧ q = none) ∨ ∃ i v y, p = some (i, v) ∧ q = some (i, y) ∧ ConW ρ v y := by
      rcases hc with h0 | ⟨i, v, y, a, b, c⟩
      · exact .inl h0
      · exact .inr ⟨i, v, y, a, by rw [b]; simp, c⟩
    refine ⟨q, ?_, hc'⟩
    cases xs with
    | nil =>
      have : q = none := by
        have h1 : (Instr.findAsking kt u [] 0).run P w = .ok none w := rfl
        rw [h1] at hq
        cases hq
        rfl
      subst this
      simp [Instr.findKey, run_underlying hun w, Instr.findNow]
    | cons x xs =>
      have hn : Instr.findNow (.struct fs) u (x :: xs) 0 = none := by
        simp [Instr.findNow, Instr.sameNow]
      simp only [Instr.findKey, Sem.run_bind, run_underlying hun w, Result.andThen_ok, hn]
      exact hq

end
end Go.Ev
