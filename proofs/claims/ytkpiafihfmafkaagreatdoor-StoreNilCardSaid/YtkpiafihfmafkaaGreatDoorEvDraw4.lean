/- Drawn regions: which operations were done, and how far memory is. -/
import Derived.Test.YtkpiafihfmafkaaGreatDoorEvDraw3
namespace Go.Ev
open Go.RowKit

section
variable {K : Cfg} {E : Task → Option Out} {L : List Oper} {n : Nat} {ts : Tmps} {h : H} {s : Nat → Dr} {Ls : Nat → Prop} {p : Nat} {rds : List Rd} {efs : List Ef}

/-- What was done; memory is behind the last effect that was done. -/
structure Front (L : List Oper) (Ls : Nat → Prop) (p : Nat) : Prop where
  lt : ∀ i, Ls i → i < L.length
  closed : ∀ i o, Ls i → L[i]? = some o → ∀ j, waits o j = true → Ls j
  at' : p = 0 ∨ ∃ e, p = e + 1 ∧ EffAt L e ∧ Ls e
  behind : ∀ e, p ≤ e → EffAt L e → ¬ Ls e

/-- An operation that may be done. -/
structure Rdy (L : List Oper) (Ls : Nat → Prop) (i : Nat) (o : Oper) : Prop where
  is : L[i]? = some o
  not : ¬ Ls i
  all : ∀ j, waits o j = true → Ls j

theorem Front.le (F : Front L Ls p) : p ≤ L.length := by
  rcases F.at' with rfl | ⟨e, rfl, _, he⟩
  · exact Nat.zero_le _
  · exact F.lt e he

theorem Front.ahead (F : Front L Ls p) (X : Checks K L rds efs) : ∀ (m e : Nat), e ≤ m → EffAt L e → Ls e → ∀ j, j < e → EffAt L j ∨ AllocAt L j → Ls j := by
  intro m
  induction m with
  | zero => intro e he _ _ j hj; omega
  | succ m ih =>
    intro e he hee hle j hj hea
    obtain ⟨o, ho, hk⟩ := hee
    rcases X.chain e o ho hk j hj hea with hw | ⟨k, h1, h2, h3, h4⟩
    · exact F.closed e o hle ho j hw
    · exact ih k (by omega) h3 (F.closed e o hle ho k h4) j h1 hea

theorem Front.done (F : Front L Ls p) (X : Checks K L rds efs) {j : Nat} (hj : j < p) (hea : EffAt L j ∨ AllocAt L j) : Ls j := by
  rcases F.at' with rfl | ⟨e, rfl, hee, hle⟩
  · omega
  · by_cases ej : j = e
    · subst ej; exact hle
    · exact F.ahead X e e (Nat.le_refl _) hee hle j (by omega) hea

section
variable {i : Nat} {o : Oper} (F : Front L Ls p) (X : Checks K L rds efs) (R : Rdy L Ls i o)
include F X R

theorem Rdy.alloc_le (hk : kd o.op = .alloc) : p ≤ i := by
  by_cases hh : p ≤ i
  · exact hh
  · exact absurd (F.done X (by omega) (.inr ⟨o, R.is, hk⟩)) R.not
theorem Rdy.eff_le (hk : kd o.op = .eff) : p ≤ i := by
  by_cases hh : p ≤ i
  · exact hh
  · exact absurd (F.done X (by omega) (.inl ⟨o, R.is, hk⟩)) R.not
theorem Rdy.eff_all (hk : kd o.op = .eff) {j : Nat} (hj : j < i) (hea : EffAt L j ∨ AllocAt L j) : Ls j := by
  rcases X.chain i o R.is hk j hj hea with hw | ⟨k, h1, h2, h3, h4⟩
  · exact R.all j hw
  · exact F.ahead X k k (Nat.le_refl _) h3 (R.all k h4) j h1 hea
theorem Rdy.eff_first (hk : kd o.op = .eff) : ∀ j, p ≤ j → j < i → ¬ EffAt L j := fun j hpj hji he => F.behind j hpj he (R.eff_all F X hk hji (.inl he))

/-- What it looks at is as the canonical run has it. -/
theorem Rdy.slot (C : Canon K E L n ts h s) {t : Tmp} (ht : t ∈ looks L o) :
    (∃ j oj, Ls j ∧ j < i ∧ L[j]? = some oj ∧ oj.dst = some t ∧ evalT (s i).ts t = evalT (s (j + 1)).ts t) ∨ ((∀ j oj, Ls j → L[j]? = some oj → oj.dst ≠ some t) ∧ evalT (s i).ts t = evalT ts t) := by
  have hlt := lt_of_getElem? R.is
  rcases C.slot (i := i) (Nat.le_of_lt hlt) t with ⟨j, oj, hj, hoj, hd, he⟩ | ⟨hno, he⟩
  · have hw := (slots2 (X.slots j i oj o hj hoj R.is) (t := t)).1 hd ht
    exact .inl ⟨j, oj, R.all j hw, hj, hoj, hd, he⟩
  · refine .inr ⟨fun j oj hl hoj hd => ?_, he⟩
    by_cases hji : j < i
    · exact hno j oj hji hoj hd
    · by_cases eji : j = i
      · subst eji; exact R.not hl
      · have hw := (slots2 (X.slots i j o oj (by omega) R.is hoj) (t := t)).2 hd ht
        exact R.not (F.closed j oj hl hoj i hw)

end

theorem least {Q : Nat → Prop} (a : Nat) : ∀ (m e : Nat), e ≤ m → a ≤ e → Q e → ∃ k, a ≤ k ∧ k ≤ e ∧ Q k ∧ ∀ j, a ≤ j → j < k → ¬ Q j := by
  intro m
  induction m with
  | zero =>
    intro e he ha hq
    exact ⟨e, ha, Nat.le_refl _, hq, fun j _ hj => by omega⟩
  | succ m ih =>
    intro e he ha hq
    by_cases hx : ∃ j, a ≤ j ∧ j < e ∧ Q j
    · obtain ⟨j, h1, h2, h3⟩ := hx
      obtain ⟨k, k1, k2, k3, k4⟩ := ih j (by omega) h1 h3
      exact ⟨k, k1, by omega, k3, k4⟩
    · exact ⟨e, ha, Nat.le_refl _, hq, fun j h1 h2 h3 => hx ⟨j, h1, h2, h3⟩⟩

theorem gives_some {v : V} {r : Option (V × H)} (e : gives v r = true) : ∃ g, r = some (v, g) := by
  cases r with
  | none => cases e
  | some q =>
    obtain ⟨u, g⟩ := q
    have : u = v := eqV_eq (show eqV u v = true from e)
    subst this
    exact ⟨g, rfl⟩

/-- A read gives what the canonical run has. -/
theorem Rdy.read {i : Nat} {o : Oper} (F : Front L Ls p) (C : Canon K E L n ts h s) (X : Checks K L (s L.length).rds (s L.length).efs) (R : Rdy L Ls i o) {v : V} {g : H} (hv : evOp K (cutT (s i).ts (looks L o)) (s i).hb o.op = some (v, g))
    (hr : (⟨i, cutT (s i).ts (looks L o), o.op, v⟩ : Rd) ∈ (s L.length).rds) : ∃ g, evOp K (cutT (s i).ts (looks L o)) (s p).hb o.op = some (v, g) := by
  have hlt := lt_of_getElem? R.is
  have hat : ∀ (a b : Nat) (oa : Oper), L[a]? = some oa → waitsAt L a b = waits oa b := fun a b oa ha => by unfold waitsAt; rw [ha]
  by_cases hpi : p ≤ i
  · by_cases hx : ∃ e, p ≤ e ∧ e < i ∧ EffAt L e
    · -- an effect ahead of it is not done
      obtain ⟨e, h1, h2, h3⟩ := hx
      obtain ⟨k, k1, k2, k3, k4⟩ := least p e e (Nat.le_refl _) h1 h3
      have hs := X.stable _ (C.ef_mem k3) _ hr
      unfold stable at hs
      obtain ⟨ok, hok, _⟩ := k3
      rw [hat i k o R.is, hat k i ok hok, Bool.or_eq_true, Bool.or_eq_true, Bool.and_eq_true] at hs
      rcases hs with (hw | hw) | ⟨ha, _⟩
      · exact absurd (R.all k hw) (F.behind k k1 ⟨ok, hok, by assumption⟩)
      · have := X.back k ok hok i hw; omega
      · have heq : (s k).hb = (s p).hb := C.hb_same k1 (by omega) (fun j a b => k4 j a b)
        rw [← heq]
        exact gives_some ha
    · have heq : (s i).hb = (s p).hb := C.hb_same hpi (by omega) (fun j a b c => hx ⟨j, a, b, c⟩)
      rw [← heq]
      exact ⟨g, hv⟩
  · -- an effect behind it is done
    rcases F.at' with rfl | ⟨e, rfl, hee, hle⟩
    · omega
    · have hs := X.stable _ (C.ef_mem hee) _ hr
      unfold stable at hs
      obtain ⟨oe, hoe, hke⟩ := hee
      rw [hat i e o R.is, hat e i oe hoe, Bool.or_eq_true, Bool.or_eq_true, Bool.and_eq_true] at hs
      rcases hs with (hw | hw) | ⟨_, hb⟩
      · have := X.back i o R.is e hw; omega
      · exact absurd (F.closed e oe hle hoe i hw) R.not
      · exact gives_some hb

/-! ### A frame that shows only some slots -/
def Act.only (a : Act) (l : List Tmp) : Act := { a with tmps := Array.ofFn (n := a.tmps.size) fun t => if (t : Nat) ∈ l then a.tmps.getD t Go.undef else Go.undef }
theorem only_size (a : Act) (l : List Tmp) : (Act.only a l).tmps.size = a.tmps.size := by simp [Act.only]
theorem only_get (a : Act) (l : List Tmp) (t : Nat) : (Act.only a l).tmps.getD t Go.undef = if t ∈ l then a.tmps.getD t Go.undef else Go.undef := by
  rw [Array.getD_eq_getD_getElem?]
  by_cases hlt : t < a.tmps.size
  · simp [Act.only, hlt]
  · have h1 : (Act.only a l).tmps[t]? = none := by
      rw [Array.getElem?_eq_none]; rw [only_size]; omega
    have h2 : a.tmps.getD t Go.undef = Go.undef := by
      rw [Array.getD_eq_getD_getElem?, Array.getElem?_eq_none (by omega)]
      rfl
    rw [h1, h2]
    simp
theorem only_get? (a : Act) (l : List Tmp) {t : Nat} (ht : t ∈ l) : (Act.only a l).tmps[t]? = a.tmps[t]? := by
  by_cases hlt : t < a.tmps.size
  · simp [Act.only, hlt, ht]
  · rw [Array.getElem?_eq_none (by rw [only_size]; omega), Array.getElem?_eq_none (by omega)]

theorem only_eval {ops : Array Oper} (a : Act) (o : Oper) (hs : ∀ cs b, o.op ≠ .select cs b) : execOp a.eval o = execOp (Act.only a (looks ops.toList o)).eval o := by
  refine execOp_congr o hs (fun x hx => ?_)
  cases x with
  | tmp t =>
    have ht : t ∈ looks ops.toList o := List.mem_append_left _ (List.mem_filterMap.2 ⟨.tmp t, by simpa using hx, rfl⟩)
    show a.tmps.getD t Go.undef = (Act.only a _).tmps.getD t Go.undef
    rw [only_get, if_pos ht]
  | const v => rfl
  | global g => rfl
  | func f => rfl
theorem only_wanted {ops : Array Oper} (a : Act) (o : Oper) : Region.wanted o (yielded ops a.tmps) = Region.wanted o (yielded ops (Act.only a (looks ops.toList o)).tmps) := by
  unfold Region.wanted
  cases hg : o.guard with
  | none => rfl
  | some gw =>
    obtain ⟨g, want⟩ := gw
    have hy : yielded ops a.tmps g = yielded ops (Act.only a (looks ops.toList o)).tmps g := by
      unfold yielded
      cases hog : ops[g]? with
      | none => rfl
      | some og =>
        cases hd : og.dst with
        | none => simp [hd]
        | some t =>
          have ht : t ∈ looks ops.toList o := by
            unfold looks
            rw [hg]
            refine List.mem_append_right _ ?_
            simp [Array.getElem?_toList, hog, hd]
          simp only [Option.bind_some, hd]
          rw [only_get? a _ ht]
    simp only [hy]

/-- The slots that are looked at are enough. -/
theorem only_rel {ρ : Ren} {a : Act} {cts : Tmps} {l : List Tmp} (hn : a.tmps.size = n) (ht : ∀ t ∈ l, ConV ρ (evalT cts t) (a.tmps.getD t Go.undef)) : TRel ρ n (cutT cts l) (Act.only a l).tmps := by
  refine ⟨by rw [only_size, hn], fun t => ?_⟩
  rw [evalT_cutT, only_get]
  by_cases hl : t ∈ l
  · rw [if_pos hl, if_pos hl]; exact ht t hl
  · rw [if_neg hl, if_neg hl]; exact conV_undef ρ

end
end Go.Ev
