/- Plain: names and paths lead to one another. -/
import Derived.Test.YtjpmekapkjkkbaaPlainOne
namespace Go.Proofs.Ytjpmekapkjkkbaa

theorem strokes_cons (x : List UInt8) {l : List (List UInt8)} (h : l ≠ []) : strokes (x :: l) = x ++ 47 :: strokes l := by
  cases l with
  | nil => exact absurd rfl h
  | cons y l => rfl

theorem strokes_pieces : ∀ s, strokes (pieces s) = s
  | [] => rfl
  | b :: l => by
    have ih := strokes_pieces l
    have hne := pieces_ne l
    by_cases h : b = 47
    · rw [pieces, if_pos h, strokes_cons [] hne, ih, h]; rfl
    · rw [pieces, if_neg h]
      cases hp : pieces l with
      | nil => exact absurd hp hne
      | cons p ps =>
        rw [hp] at ih
        cases ps with
        | nil => simpa [strokes] using ih
        | cons q ps => simpa [strokes] using ih

theorem pieces_join : ∀ (x l : List UInt8), x.all goodB = true → pieces (x ++ 47 :: l) = x :: pieces l
  | [], l, _ => by simp [pieces]
  | b :: x, l, h => by
    simp only [List.all_cons, Bool.and_eq_true] at h
    have hb : b ≠ 47 := by
      have := h.1
      unfold goodB at this
      simp at this
      exact this.1
    rw [List.cons_append, pieces, if_neg hb, pieces_join x l h.2]

theorem pieces_strokes : ∀ l : List (List UInt8), l ≠ [] → l.all mayB = true → pieces (strokes l) = l
  | [], h, _ => absurd rfl h
  | [x], _, ha => by
    simp only [List.all_cons, Bool.and_eq_true] at ha
    exact pieces_none x (mayB_parts ha.1).2.2
  | x :: y :: l, _, ha => by
    rw [List.all_cons, Bool.and_eq_true] at ha
    rw [strokes, pieces_join x _ (mayB_parts ha.1).2.2, pieces_strokes (y :: l) (by simp) ha.2]

theorem strokes_len : ∀ l : List (List UInt8), l ≠ [] → (strokes l).length + 1 = joinN l
  | [], h => absurd rfl h
  | [x], _ => by simp [strokes, joinN]; omega
  | x :: y :: l, _ => by
    have := strokes_len (y :: l) (by simp)
    simp [strokes, joinN] at this ⊢
    omega

theorem strokes_ne {l : List (List UInt8)} (h : l ≠ []) (ha : l.all mayB = true) : strokes l ≠ [] := by
  intro e
  have := pieces_strokes l h ha
  rw [e] at this
  rw [← this] at ha
  exact absurd ha (by decide)

theorem tellL_path {l : List (List UInt8)} (ha : l.all mayB = true) : tellL (47 :: strokes l) = l := by
  unfold tellL
  rw [List.drop_succ_cons, List.drop_zero]
  by_cases h : l = []
  · subst h; rfl
  · rw [if_neg (strokes_ne h ha), pieces_strokes l h ha]

/-- A path of names that may be. -/
theorem splitR_path {l : List (List UInt8)} (ha : l.all mayB = true) :
    splitR (47 :: strokes l) = if 512 < (strokes l).length + 1 then ([], 3) else if 16 < l.length then ([], 4) else (l, 0) := by
  unfold splitR
  rw [tellL_path ha]
  simp [ha]

theorem splitR_ok {p : List UInt8} (h : (splitR p).2 = 0) : (splitR p).1 = tellL p ∧ p = 47 :: strokes (tellL p) ∧ (tellL p).all mayB = true ∧ (tellL p).length ≤ 16 ∧ p.length ≤ 512 := by
  unfold splitR at h ⊢
  by_cases h1 : 512 < p.length
  · rw [if_pos h1] at h; simp at h
  rw [if_neg h1] at h ⊢
  by_cases h2 : p.head? ≠ some 47
  · rw [if_pos h2] at h; simp at h
  rw [if_neg h2] at h ⊢
  by_cases h3 : (tellL p).all mayB = false
  · rw [if_pos h3] at h; simp at h
  rw [if_neg h3] at h ⊢
  by_cases h4 : 16 < (tellL p).length
  · rw [if_pos h4] at h; simp at h
  rw [if_neg h4]
  refine ⟨rfl, ?_, by simpa using h3, by omega, by omega⟩
  have h2' : p.head? = some 47 := by simpa using h2
  cases p with
  | nil => simp at h2'
  | cons b q =>
    simp at h2'
    subst h2'
    unfold tellL
    rw [List.drop_succ_cons, List.drop_zero]
    by_cases hq : q = []
    · rw [if_pos hq, hq]; rfl
    · rw [if_neg hq, strokes_pieces]

theorem joinN_le {l : List (List UInt8)} {p : List UInt8} (hp : p = 47 :: strokes l) (hl : p.length ≤ 512) : joinN l ≤ 512 := by
  by_cases h : l = []
  · subst h; simp [joinN]
  · have := strokes_len l h
    rw [hp] at hl
    simp at hl
    omega

theorem joinR_ok {l : List (List UInt8)} (ha : l.all mayB = true) (hl : l.length ≤ 16) (hn : joinN l ≤ 512) : joinR l = (47 :: strokes l, 0) := by
  unfold joinR
  rw [if_neg (by omega), if_neg (by rw [ha]; simp), if_neg (by omega)]

/-- What 'Split' tells, 'Join' leads back. -/
theorem back_join {p : List UInt8} (h : (splitR p).2 = 0) : joinR (splitR p).1 = (p, 0) := by
  obtain ⟨h1, h2, h3, h4, h5⟩ := splitR_ok h
  rw [h1, joinR_ok h3 h4 (joinN_le h2 h5), ← h2]

theorem joinR_inv {l : List (List UInt8)} (h : (joinR l).2 = 0) : l.all mayB = true ∧ l.length ≤ 16 ∧ joinN l ≤ 512 ∧ joinR l = (47 :: strokes l, 0) := by
  unfold joinR at h
  by_cases h1 : 512 < joinN l
  · rw [if_pos h1] at h; simp at h
  rw [if_neg h1] at h
  by_cases h2 : l.all mayB = false
  · rw [if_pos h2] at h; simp at h
  rw [if_neg h2] at h
  by_cases h3 : 16 < l.length
  · rw [if_pos h3] at h; simp at h
  have ha : l.all mayB = true := by simpa using h2
  exact ⟨ha, by omega, by omega, joinR_ok ha (by omega) (by omega)⟩

theorem joinR_err {l : List (List UInt8)} (h : (joinR l).2 ≠ 0) : (joinR l).1 = [] := by
  unfold joinR at h ⊢
  by_cases h1 : 512 < joinN l
  · rw [if_pos h1]
  rw [if_neg h1] at h ⊢
  by_cases h2 : l.all mayB = false
  · rw [if_pos h2]
  rw [if_neg h2] at h ⊢
  by_cases h3 : 16 < l.length
  · rw [if_pos h3]
  · rw [if_neg h3] at h; simp at h

theorem splitR_err {p : List UInt8} (h : (splitR p).2 ≠ 0) : (splitR p).1 = [] := by
  unfold splitR at h ⊢
  by_cases h1 : 512 < p.length
  · rw [if_pos h1]
  rw [if_neg h1] at h ⊢
  by_cases h2 : p.head? ≠ some 47
  · rw [if_pos h2]
  rw [if_neg h2] at h ⊢
  by_cases h3 : (tellL p).all mayB = false
  · rw [if_pos h3]
  rw [if_neg h3] at h ⊢
  by_cases h4 : 16 < (tellL p).length
  · rw [if_pos h4]
  · rw [if_neg h4] at h; simp at h

/-- What 'Join' tells, 'Split' leads back. -/
theorem back_split {l : List (List UInt8)} (h : (joinR l).2 = 0) : splitR (joinR l).1 = (l, 0) := by
  obtain ⟨h1, h2, h3, h4⟩ := joinR_inv h
  rw [h4, splitR_path h1]
  have : ¬ 512 < (strokes l).length + 1 := by
    by_cases hn : l = []
    · subst hn; decide
    · have := strokes_len l hn; omega
  rw [if_neg this, if_neg (by omega)]

theorem strokes_snoc : ∀ (l : List (List UInt8)) (x : List UInt8), l ≠ [] → strokes (l ++ [x]) = strokes l ++ 47 :: x
  | [], _, h => absurd rfl h
  | [y], x, _ => rfl
  | y :: z :: l, x, _ => by
    have ih := strokes_snoc (z :: l) x (by simp)
    show y ++ 47 :: strokes (z :: l ++ [x]) = _
    rw [ih]
    simp [strokes]

/-- The parent of a path that has names. -/
theorem parentR_ok {p : List UInt8} {ys : List (List UInt8)} {x : List UInt8} (h : splitR p = (ys ++ [x], 0)) :
    parentR p = (47 :: strokes ys, x, 0) ∧ splitR (47 :: strokes ys) = (ys, 0) ∧ joinR (ys ++ [x]) = (p, 0) := by
  have h0 : (splitR p).2 = 0 := by rw [h]
  obtain ⟨h1, h2, h3, h4, h5⟩ := splitR_ok h0
  have hl : tellL p = ys ++ [x] := by rw [← h1, h]
  rw [hl] at h2 h3 h4
  have hj := joinN_le h2 h5
  rw [joinN_append] at hj
  have ha : ys.all mayB = true := by
    rw [List.all_append, Bool.and_eq_true] at h3
    exact h3.1
  have hlen : ys.length ≤ 16 := by simp at h4; omega
  have hjy := joinR_ok ha hlen (by omega)
  have hb := back_join h0
  rw [h] at hb
  have hs := back_split (l := ys) (by rw [hjy])
  rw [hjy] at hs
  refine ⟨?_, hs, hb⟩
  unfold parentR
  rw [h]
  simp [hjy]

theorem parentR_bad {p : List UInt8} (h : (splitR p).2 ≠ 0) : parentR p = ([], [], (splitR p).2) := by
  unfold parentR
  rw [if_pos h]
theorem parentR_root {p : List UInt8} (h : splitR p = ([], 0)) : parentR p = ([], [], 290) := by
  unfold parentR
  rw [h]
  rfl

end Go.Proofs.Ytjpmekapkjkkbaa
