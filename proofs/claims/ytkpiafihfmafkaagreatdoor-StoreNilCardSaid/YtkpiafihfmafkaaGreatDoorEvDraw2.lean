/- Drawn regions: the canonical run, and what the checks say. -/
import Derived.Test.YtkpiafihfmafkaaGreatDoorEvDraw1
namespace Go.Ev
open Go.RowKit

section
variable {K : Cfg} {E : Task → Option Out} {L : List Oper} {n : Nat} {ts : Tmps} {h : H} {s : Nat → Dr}

/-- What one step of the canonical run did. -/
inductive Did (K : Cfg) (E : Task → Option Out) (L : List Oper) (i : Nat) (o : Oper) (s s' : Dr) (v : V) : Prop where
  | skip (hw : wantedB L (cutT s.ts (looks L o)) o.guard = false) (hk : kd o.op ≠ .eff) (hv : v = undef) (hb : s'.hb = s.hb) (hc : s'.hc = s.hc) (hr : s'.rds = s.rds) (he : s'.efs = s.efs)
  | skipEff (hw : wantedB L (cutT s.ts (looks L o)) o.guard = false) (hk : kd o.op = .eff) (hv : v = undef) (hb : s'.hb = s.hc) (hc : s'.hc = s.hc) (hr : s'.rds = s.rds) (he : s'.efs = ⟨i, s.hb, s'.hb⟩ :: s.efs)
  | pure (hw : wantedB L (cutT s.ts (looks L o)) o.guard = true) (hk : kd o.op = .pure) (g : H) (hv : evOp K (cutT s.ts (looks L o)) s.hb o.op = some (v, g)) (hb : s'.hb = s.hb) (hc : s'.hc = s.hc) (hr : s'.rds = s.rds) (he : s'.efs = s.efs)
  | read (hw : wantedB L (cutT s.ts (looks L o)) o.guard = true) (hk : kd o.op = .read) (g : H) (hv : evOp K (cutT s.ts (looks L o)) s.hb o.op = some (v, g)) (hb : s'.hb = s.hb) (hc : s'.hc = s.hc) (hr : s'.rds = ⟨i, cutT s.ts (looks L o), o.op, v⟩ :: s.rds) (he : s'.efs = s.efs)
  | alloc (hw : wantedB L (cutT s.ts (looks L o)) o.guard = true) (hk : kd o.op = .alloc) (hv : evOp K (cutT s.ts (looks L o)) s.hc o.op = some (v, s'.hc)) (hb : s'.hb = s.hb) (hr : s'.rds = s.rds) (he : s'.efs = s.efs)
  | eff (hw : wantedB L (cutT s.ts (looks L o)) o.guard = true) (hk : kd o.op = .eff) (hv : evAny K E (cutT s.ts (looks L o)) s.hc o.op = some (v, s'.hc)) (hb : s'.hb = s'.hc) (up : s.hc.next ≤ s'.hc.next) (hr : s'.rds = s.rds) (he : s'.efs = ⟨i, s.hb, s'.hb⟩ :: s.efs)

theorem drPut_some {ts : Tmps} {d : Option Tmp} {v : V} {hb hc : H} {rds : List Rd} {efs : List Ef} {s' : Dr} (e : drPut n ts d v hb hc rds efs = some s') : putT n ts d v = some s'.ts ∧ s'.hb = hb ∧ s'.hc = hc ∧ s'.rds = rds ∧ s'.efs = efs := by
  unfold drPut at e
  split at e
  · rename_i ts' hp
    cases e
    exact ⟨hp, rfl, rfl, rfl, rfl⟩
  · cases e
theorem drEff_some {i : Nat} {o : Oper} {s s' : Dr} {r : Option (V × H)} (e : drEff n i o s r = some s') : ∃ v g, r = some (v, g) ∧ s.hc.next ≤ g.next ∧ putT n s.ts o.dst v = some s'.ts ∧ s'.hb = g ∧ s'.hc = g ∧ s'.rds = s.rds ∧ s'.efs = ⟨i, s.hb, g⟩ :: s.efs := by
  cases r with
  | none => cases e
  | some p =>
    obtain ⟨v, g⟩ := p
    have e' : (bif Nat.ble s.hc.next g.next then drPut n s.ts o.dst v g g s.rds (⟨i, s.hb, g⟩ :: s.efs) else none) = some s' := e
    cases hb : Nat.ble s.hc.next g.next with
    | false => rw [hb] at e'; cases e'
    | true =>
      rw [hb, cond_true] at e'
      obtain ⟨a, b, c, d, f⟩ := drPut_some e'
      exact ⟨v, g, rfl, Nat.le_of_ble_eq_true hb, a, b, c, d, f⟩

theorem drOne_did {i : Nat} {o : Oper} {s s' : Dr} (e : drOne K E L n i o s = some s') : ∃ v, putT n s.ts o.dst v = some s'.ts ∧ Did K E L i o s s' v := by
  unfold drOne drTs at e
  cases hw : wantedB L (cutT s.ts (looks L o)) o.guard with
  | false =>
    rw [hw, cond_false] at e
    by_cases hk : kd o.op = .eff
    · rw [hk] at e
      obtain ⟨v, g, h1, _, h2, h3, h4, h5, h6⟩ := drEff_some (show drEff n i o s (some (undef, s.hc)) = _ from e)
      cases h1
      exact ⟨undef, h2, .skipEff hw hk rfl h3 h4 h5 (by rw [h6, h3])⟩
    · have e' : drPut n s.ts o.dst undef s.hb s.hc s.rds s.efs = some s' := by
        unfold drSkip at e
        split at e
        · rename_i hh; exact absurd hh hk
        · exact e
      obtain ⟨a, b, c, d, f⟩ := drPut_some e'
      exact ⟨undef, a, .skip hw hk rfl b c d f⟩
  | true =>
    rw [hw, cond_true] at e
    cases hk : kd o.op with
    | pure =>
      rw [hk] at e
      have e' : drPure n o s (evOp K (cutT s.ts (looks L o)) s.hb o.op) = some s' := e
      cases hv : evOp K (cutT s.ts (looks L o)) s.hb o.op with
      | none => rw [hv] at e'; cases e'
      | some p =>
        rw [hv] at e'
        obtain ⟨a, b, c, d, f⟩ := drPut_some (show drPut n s.ts o.dst p.1 s.hb s.hc s.rds s.efs = some s' from e')
        exact ⟨p.1, a, .pure hw hk p.2 hv b c d f⟩
    | read =>
      rw [hk] at e
      have e' : drRead n i o (cutT s.ts (looks L o)) s (evOp K (cutT s.ts (looks L o)) s.hb o.op) = some s' := e
      cases hv : evOp K (cutT s.ts (looks L o)) s.hb o.op with
      | none => rw [hv] at e'; cases e'
      | some p =>
        rw [hv] at e'
        obtain ⟨a, b, c, d, f⟩ := drPut_some (show drPut n s.ts o.dst p.1 s.hb s.hc (⟨i, cutT s.ts (looks L o), o.op, p.1⟩ :: s.rds) s.efs = some s' from e')
        exact ⟨p.1, a, .read hw hk p.2 hv b c d f⟩
    | alloc =>
      rw [hk] at e
      have e' : drAlloc n o s (evOp K (cutT s.ts (looks L o)) s.hc o.op) = some s' := e
      cases hv : evOp K (cutT s.ts (looks L o)) s.hc o.op with
      | none => rw [hv] at e'; cases e'
      | some p =>
        rw [hv] at e'
        obtain ⟨a, b, c, d, f⟩ := drPut_some (show drPut n s.ts o.dst p.1 s.hb p.2 s.rds s.efs = some s' from e')
        exact ⟨p.1, a, .alloc hw hk (by rw [c]; exact hv) b d f⟩
    | eff =>
      rw [hk] at e
      obtain ⟨v, g, h1, h0, h2, h3, h4, h5, h6⟩ := drEff_some (show drEff n i o s (evAny K E (cutT s.ts (looks L o)) s.hc o.op) = _ from e)
      exact ⟨v, h2, .eff hw hk (by rw [h4]; exact h1) (by rw [h3, h4]) (by rw [h4]; exact h0) h5 (by rw [h6, h3])⟩

/-- The canonical run. -/
structure Canon (K : Cfg) (E : Task → Option Out) (L : List Oper) (n : Nat) (ts : Tmps) (h : H) (s : Nat → Dr) : Prop where
  start : s 0 = ⟨ts, h, h, [], []⟩
  one : ∀ i o, L[i]? = some o → ∃ v, putT n (s i).ts o.dst v = some (s (i + 1)).ts ∧ Did K E L i o (s i) (s (i + 1)) v

theorem drAll_chain : ∀ (l : List Oper) (i : Nat) (s0 sN : Dr), drAll K E L n i l s0 = some sN → ∃ s : Nat → Dr, s i = s0 ∧ s (i + l.length) = sN ∧ ∀ j o, l[j]? = some o → drOne K E L n (i + j) o (s (i + j)) = some (s (i + j + 1))
  | [], i, s0, sN, e => by
    have e' : some s0 = some sN := e
    cases e'
    exact ⟨fun _ => s0, rfl, rfl, fun j o hj => by simp at hj⟩
  | o :: l, i, s0, sN, e => by
    have e' : (match drOne K E L n i o s0 with
      | some s' => drAll K E L n (i + 1) l s'
      | none => none) = some sN := e
    split at e'
    · rename_i s1 h1
      obtain ⟨s, a, b, c⟩ := drAll_chain l (i + 1) s1 sN e'
      refine ⟨fun k => if k = i then s0 else s k, by simp, ?_, fun j o' hj => ?_⟩
      · have hne : i + (o :: l).length ≠ i := by simp
        simp only [hne, if_false]
        rw [← b]
        congr 1
        simp
        omega
      · cases j with
        | zero =>
          simp at hj
          subst hj
          simp only [Nat.add_zero, if_true]
          have hne : i + 1 ≠ i := by omega
          simp only [hne, if_false, a]
          exact h1
        | succ j =>
          have hj' : l[j]? = some o' := by simpa using hj
          have := c j o' hj'
          have h1' : i + (j + 1) ≠ i := by omega
          have h2' : i + (j + 1) + 1 ≠ i := by omega
          simp only [h1', h2', if_false]
          have e1 : i + (j + 1) = i + 1 + j := by omega
          rw [e1]
          exact this
    · cases e'

theorem canon_of {sN : Dr} (e : drAll K E L n 0 L ⟨ts, h, h, [], []⟩ = some sN) : ∃ s, Canon K E L n ts h s ∧ s L.length = sN := by
  obtain ⟨s, a, b, c⟩ := drAll_chain L 0 _ _ e
  refine ⟨s, ⟨a, fun i o hi => ?_⟩, by simpa using b⟩
  have := c i o hi
  simp only [Nat.zero_add] at this
  exact drOne_did this

/-! ### The canonical run's memory -/
def EffAt (L : List Oper) (i : Nat) : Prop := ∃ o, L[i]? = some o ∧ kd o.op = .eff
def AllocAt (L : List Oper) (i : Nat) : Prop := ∃ o, L[i]? = some o ∧ kd o.op = .alloc

theorem getElem?_lt {i : Nat} (h : i < L.length) : ∃ o, L[i]? = some o := ⟨L[i], by simp [h]⟩
theorem lt_of_getElem? {i : Nat} {o : Oper} (h : L[i]? = some o) : i < L.length := by
  by_cases hh : i < L.length
  · exact hh
  · simp [List.getElem?_eq_none (Nat.le_of_not_lt hh)] at h

section
variable (C : Canon K E L n ts h s)
include C

theorem Canon.up {i : Nat} (hi : i < L.length) : (s i).hc.next ≤ (s (i + 1)).hc.next := by
  obtain ⟨o, ho⟩ := getElem?_lt hi
  obtain ⟨v, _, d⟩ := C.one i o ho
  cases d with
  | skip _ _ _ _ hc => rw [hc]; exact Nat.le_refl _
  | skipEff _ _ _ _ hc => rw [hc]; exact Nat.le_refl _
  | pure _ _ _ _ _ hc => rw [hc]; exact Nat.le_refl _
  | read _ _ _ _ _ hc => rw [hc]; exact Nat.le_refl _
  | alloc _ hk hv =>
    obtain ⟨ob, _, e, _⟩ := alloc_free hk hv
    rw [e]
    exact Nat.le_succ _
  | eff _ _ _ _ up => exact up
theorem Canon.ups {i j : Nat} (hij : i ≤ j) (hj : j ≤ L.length) : (s i).hc.next ≤ (s j).hc.next := by
  induction j with
  | zero => have : i = 0 := by omega
            subst this; exact Nat.le_refl _
  | succ j ih =>
    by_cases e : i = j + 1
    · subst e; exact Nat.le_refl _
    · exact Nat.le_trans (ih (by omega) (by omega)) (C.up (by omega))
theorem Canon.hb_le {i : Nat} (hi : i ≤ L.length) : (s i).hb.next ≤ (s i).hc.next := by
  induction i with
  | zero => rw [C.start]; exact Nat.le_refl _
  | succ i ih =>
    have h0 := ih (by omega)
    obtain ⟨o, ho⟩ := getElem?_lt (L := L) (i := i) (by omega)
    have hup := C.up (i := i) (by omega)
    obtain ⟨v, _, d⟩ := C.one i o ho
    cases d with
    | skip _ _ _ hb => rw [hb]; omega
    | skipEff _ _ _ hb hc => rw [hb, hc]; exact Nat.le_refl _
    | pure _ _ _ _ hb => rw [hb]; omega
    | read _ _ _ _ hb => rw [hb]; omega
    | alloc _ _ _ hb => rw [hb]; omega
    | eff _ _ _ hb => rw [hb]; exact Nat.le_refl _
/-- No effect between: memory behind the last effect is the same. -/
theorem Canon.hb_same {p i : Nat} (hpi : p ≤ i) (hi : i ≤ L.length) (hn : ∀ j, p ≤ j → j < i → ¬ EffAt L j) : (s i).hb = (s p).hb := by
  induction i with
  | zero => have : p = 0 := by omega
            subst this; rfl
  | succ i ih =>
    by_cases e : p = i + 1
    · subst e; rfl
    · have h0 := ih (by omega) (by omega) (fun j a b => hn j a (by omega))
      obtain ⟨o, ho⟩ := getElem?_lt (L := L) (i := i) (by omega)
      have hne : kd o.op ≠ .eff := fun hh => hn i (by omega) (by omega) ⟨o, ho, hh⟩
      obtain ⟨v, _, d⟩ := C.one i o ho
      cases d with
      | skip _ _ _ hb => rw [hb]; exact h0
      | skipEff _ hk => exact absurd hk hne
      | pure _ _ _ _ hb => rw [hb]; exact h0
      | read _ _ _ _ hb => rw [hb]; exact h0
      | alloc _ _ _ hb => rw [hb]; exact h0
      | eff _ hk => exact absurd hk hne
theorem Canon.hb_eff {e : Nat} (he : EffAt L e) : (s (e + 1)).hb = (s (e + 1)).hc := by
  obtain ⟨o, ho, hk⟩ := he
  obtain ⟨v, _, d⟩ := C.one e o ho
  cases d with
  | skip _ hk' => exact absurd hk hk'
  | skipEff _ _ _ hb hc => rw [hb, hc]
  | pure _ hk' => rw [hk] at hk'; cases hk'
  | read _ hk' => rw [hk] at hk'; cases hk'
  | alloc _ hk' => rw [hk] at hk'; cases hk'
  | eff _ _ _ hb => exact hb
/-- What lies in the memory of a segment. -/
theorem Canon.hc_in {p i : Nat} (hp : (s p).hb = (s p).hc) (hpi : p ≤ i) (hi : i ≤ L.length) (hn : ∀ j, p ≤ j → j < i → ¬ EffAt L j) {x : Nat} {o : O} (hx : (s i).hc.get x = some o) :
    (s p).hb.get x = some o ∨ ∃ j, p ≤ j ∧ j < i ∧ AllocAt L j ∧ (s (j + 1)).hc = (s j).hc.new o ∧ x = (s j).hc.next := by
  induction i with
  | zero => have : p = 0 := by omega
            subst this; rw [← hp] at hx; exact .inl hx
  | succ i ih =>
    by_cases e : p = i + 1
    · subst e; rw [← hp] at hx; exact .inl hx
    · have h0 := ih (by omega) (by omega) (fun j a b => hn j a (by omega))
      have next : (s i).hc.get x = some o → (s p).hb.get x = some o ∨ ∃ j, p ≤ j ∧ j < i + 1 ∧ AllocAt L j ∧ (s (j + 1)).hc = (s j).hc.new o ∧ x = (s j).hc.next := fun hx => by
        rcases h0 hx with a | ⟨j, a, b, c⟩
        · exact .inl a
        · exact .inr ⟨j, a, by omega, c⟩
      obtain ⟨oi, ho⟩ := getElem?_lt (L := L) (i := i) (by omega)
      have hne : kd oi.op ≠ .eff := fun hh => hn i (by omega) (by omega) ⟨oi, ho, hh⟩
      obtain ⟨v, _, d⟩ := C.one i oi ho
      cases d with
      | skip _ _ _ _ hc => rw [hc] at hx; exact next hx
      | skipEff _ hk => exact absurd hk hne
      | pure _ _ _ _ _ hc => rw [hc] at hx; exact next hx
      | read _ _ _ _ _ hc => rw [hc] at hx; exact next hx
      | alloc _ hk hv =>
        obtain ⟨ob, _, e', _⟩ := alloc_free hk hv
        rw [e', H.get_new] at hx
        split at hx
        · rename_i ex
          cases hx
          exact .inr ⟨i, by omega, by omega, ⟨oi, ho, hk⟩, e', ex⟩
        · exact next hx
      | eff _ hk => exact absurd hk hne
/-- What lay there still has its name. -/
theorem Canon.hc_keep {p i : Nat} (hpi : p ≤ i) (hi : i ≤ L.length) (hn : ∀ j, p ≤ j → j < i → ¬ EffAt L j) {x : Nat} (hx : (s p).hc.get x ≠ none) : (s i).hc.get x ≠ none := by
  induction i with
  | zero => have : p = 0 := by omega
            subst this; exact hx
  | succ i ih =>
    by_cases e : p = i + 1
    · subst e; exact hx
    · have h0 := ih (by omega) (by omega) (fun j a b => hn j a (by omega))
      obtain ⟨oi, ho⟩ := getElem?_lt (L := L) (i := i) (by omega)
      have hne : kd oi.op ≠ .eff := fun hh => hn i (by omega) (by omega) ⟨oi, ho, hh⟩
      obtain ⟨v, _, d⟩ := C.one i oi ho
      cases d with
      | skip _ _ _ _ hc => rw [hc]; exact h0
      | skipEff _ hk => exact absurd hk hne
      | pure _ _ _ _ _ hc => rw [hc]; exact h0
      | read _ _ _ _ _ hc => rw [hc]; exact h0
      | alloc _ hk hv =>
        obtain ⟨ob, _, e', _⟩ := alloc_free hk hv
        rw [e', H.get_new]
        split
        · simp
        · exact h0
      | eff _ hk => exact absurd hk hne

end
end
end Go.Ev
