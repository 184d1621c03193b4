/- Plain: a name alone. -/
import Derived.Test.YtjpmekapkjkkbaaPlainEnd
namespace Go.Proofs.Ytjpmekapkjkkbaa

def goodB (b : UInt8) : Bool := b != 47 && b != 0
theorem mayB_eq (s : List UInt8) : mayB s = (decide (1 ≤ s.length) && (decide (s.length ≤ 27) && (!(s == [46]) && (!(s == [46, 46]) && s.all goodB)))) := rfl

theorem pieces_none : ∀ l : List UInt8, l.all goodB = true → pieces l = [l]
  | [], _ => rfl
  | b :: l, h => by
    simp only [List.all_cons, Bool.and_eq_true] at h
    have hb : b ≠ 47 := by
      have := h.1
      unfold goodB at this
      simp at this
      exact this.1
    rw [pieces, if_neg hb, pieces_none l h.2]

theorem mayB_parts {s : List UInt8} (h : mayB s = true) : 1 ≤ s.length ∧ s.length ≤ 27 ∧ s.all goodB = true := by
  rw [mayB_eq] at h
  simp only [Bool.and_eq_true, decide_eq_true_eq] at h
  exact ⟨h.1, h.2.1, h.2.2.2.2⟩

theorem splitR_one {s : List UInt8} (h : mayB s = true) : splitR (47 :: s) = ([s], 0) := by
  obtain ⟨h1, h2, h3⟩ := mayB_parts h
  have ht : tellL (47 :: s) = [s] := by
    unfold tellL
    rw [List.drop_succ_cons, List.drop_zero, if_neg (by rintro rfl; simp at h1), pieces_none s h3]
  unfold splitR
  rw [ht]
  simp [h]
  omega

theorem joinR_one_good {s : List UInt8} (h : mayB s = true) : joinR [s] = (47 :: s, 0) := by
  obtain ⟨h1, h2, h3⟩ := mayB_parts h
  unfold joinR
  simp [joinN, strokes, h]
  omega

theorem joinR_one_bad {s : List UInt8} (h : mayB s = false) : (joinR [s]) = ([], 3) ∧ 512 ≤ s.length ∨ (joinR [s]) = ([], 290) := by
  unfold joinR
  by_cases hl : 512 < joinN [s]
  · rw [if_pos hl]
    simp [joinN] at hl
    exact .inl ⟨rfl, by omega⟩
  · rw [if_neg hl]
    simp [h]

end Go.Proofs.Ytjpmekapkjkkbaa
