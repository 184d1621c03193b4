/- Plain: a path with a stroke too many is refused. -/
import Derived.Test.YtjpmekapkjkkbaaPlain
namespace Go.Proofs.Ytjpmekapkjkkbaa

theorem pieces_ne (s : List UInt8) : pieces s ≠ [] := by rw [pieces_step]; simp

theorem pieces_stroke : ∀ l : List UInt8, pieces (l ++ [47]) = pieces l ++ [[]]
  | [] => by simp [pieces]
  | b :: l => by
    have ih := pieces_stroke l
    by_cases h : b = 47
    · simp [pieces, h, ih]
    · have hne := pieces_ne l
      simp only [List.cons_append, pieces, if_neg h, ih]
      cases hp : pieces l with
      | nil => exact absurd hp hne
      | cons p ps => simp

theorem mayB_nil : mayB [] = false := by decide

theorem splitR_bad {p : List UInt8} (h : (tellL p).all mayB = false) : (splitR p).1 = [] ∧ (splitR p).2 ≠ 0 := by
  unfold splitR
  rw [if_pos h]
  split
  · simp
  · split <;> simp

/-- With a stroke behind it. -/
theorem splitR_behind {p : List UInt8} (h : p ≠ []) : (splitR (p ++ [47])).1 = [] ∧ (splitR (p ++ [47])).2 ≠ 0 := by
  refine splitR_bad ?_
  cases p with
  | nil => exact absurd rfl h
  | cons b l =>
    unfold tellL
    simp only [List.cons_append, List.drop_succ_cons, List.drop_zero]
    rw [if_neg (by simp), pieces_stroke, List.all_append]
    simp [mayB_nil]

/-- With a stroke ahead. -/
theorem splitR_ahead {l : List UInt8} : (splitR (47 :: 47 :: l)).1 = [] ∧ (splitR (47 :: 47 :: l)).2 ≠ 0 := by
  refine splitR_bad ?_
  unfold tellL
  simp [pieces, mayB_nil]

end Go.Proofs.Ytjpmekapkjkkbaa
