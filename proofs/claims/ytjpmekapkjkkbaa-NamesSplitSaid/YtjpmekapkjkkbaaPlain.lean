/- Plain functions on lists of bytes: which names may be, how a path is split, names joined, a parent told. No program in sight. -/
import Derived.Lib.IndexAny
namespace Go.Proofs.Ytjpmekapkjkkbaa

/-- May it be a name? -/
def mayB (s : List UInt8) : Bool := decide (1 ≤ s.length) && (decide (s.length ≤ 27) && (!(s == [46]) && (!(s == [46, 46]) && s.all (fun b => b != 47 && b != 0))))

theorem indexAny_lt (chars : List UInt8) : ∀ s : List UInt8, decide (0 ≤ Lib.indexAny s chars) = s.any (fun b => chars.contains b)
  | [] => rfl
  | b :: l => by
    have ih := indexAny_lt chars l
    have hg := Lib.indexAny_ge chars l
    rw [Lib.indexAny, List.any_cons]
    by_cases h : chars.contains b = true
    · rw [if_pos h, h]; rfl
    · rw [if_neg h, eq_false_of_ne_true h, Bool.false_or, ← ih]
      by_cases h2 : (Lib.indexAny l chars == -1) = true
      · rw [if_pos h2, eq_of_beq h2]
      · rw [if_neg h2]
        have : Lib.indexAny l chars ≠ -1 := fun e => h2 (beq_iff_eq.2 e)
        rw [decide_eq_true (by omega), decide_eq_true (by omega)]

theorem not_containsAny (s : List UInt8) : (!Lib.containsAny s [47, 0]) = s.all (fun b => b != 47 && b != 0) := by
  unfold Lib.containsAny
  rw [indexAny_lt, List.not_any_eq_all_not]
  congr 1
  funext b
  rw [Bool.eq_iff_iff]
  simp

/-- What is ahead of the first stroke; what is behind it; is there one? -/
def headP : List UInt8 → List UInt8
  | [] => []
  | b :: l => if b = 47 then [] else b :: headP l
def restP : List UInt8 → List UInt8
  | [] => []
  | b :: l => if b = 47 then l else restP l
def moreP : List UInt8 → Bool
  | [] => false
  | b :: l => if b = 47 then true else moreP l

theorem cut_miss : ∀ {l : List UInt8}, Lib.indexByte l 47 = -1 → headP l = l ∧ restP l = [] ∧ moreP l = false
  | [], _ => ⟨rfl, rfl, rfl⟩
  | b :: l, h => by
    by_cases hb : b = 47
    · subst hb; simp [Lib.indexByte] at h
    · have hg := Lib.indexByte_ge l 47
      have h1 : Lib.indexByte l 47 = -1 := by
        simp [Lib.indexByte, hb] at h
        by_cases e : Lib.indexByte l 47 = -1
        · exact e
        · simp [e] at h; omega
      obtain ⟨a, b', c⟩ := cut_miss h1
      simp [headP, restP, moreP, hb, a, b', c]

theorem cut_hit : ∀ {l : List UInt8} {i : Nat}, Lib.indexByte l 47 = i → headP l = l.take i ∧ restP l = l.drop (i + 1) ∧ moreP l = true ∧ i < l.length
  | [], i, h => by simp [Lib.indexByte] at h
  | b :: l, i, h => by
    by_cases hb : b = 47
    · subst hb
      simp [Lib.indexByte] at h
      obtain rfl : i = 0 := by omega
      simp [headP, restP, moreP]
    · have hg := Lib.indexByte_ge l 47
      have h1 : ∃ k : Nat, i = k + 1 ∧ Lib.indexByte l 47 = k := by
        simp [Lib.indexByte, hb] at h
        by_cases e : Lib.indexByte l 47 = -1
        · simp [e] at h
        · simp [e] at h; exact ⟨i - 1, by omega, by omega⟩
      obtain ⟨k, rfl, hk⟩ := h1
      obtain ⟨a, b', c, d⟩ := cut_hit hk
      simp [headP, restP, moreP, hb, a, b', c]
      omega

/-- What stands between the strokes. -/
def pieces : List UInt8 → List (List UInt8)
  | [] => [[]]
  | b :: l => if b = 47 then [] :: pieces l else match pieces l with | [] => [[b]] | p :: ps => (b :: p) :: ps

theorem pieces_step : ∀ s, pieces s = headP s :: if moreP s then pieces (restP s) else []
  | [] => by simp [pieces, headP, moreP]
  | b :: l => by
    by_cases h : b = 47
    · subst h
      simp [pieces, headP, moreP, restP]
    · have ih := pieces_step l
      rw [pieces, if_neg h, ih]
      simp [headP, moreP, restP, h]

theorem restP_lt : ∀ {s : List UInt8}, moreP s = true → (restP s).length < s.length
  | [], h => by simp [moreP] at h
  | b :: l, h => by
    by_cases hb : b = 47
    · simp [restP, hb]
    · have : moreP l = true := by simpa [moreP, hb] using h
      have := restP_lt this
      simp [restP, hb]
      omega

theorem restP_le : ∀ (s : List UInt8), (restP s).length ≤ s.length
  | [] => by simp [restP]
  | b :: l => by
    have := restP_le l
    by_cases hb : b = 47
    · simp [restP, hb]
    · simp [restP, hb]
      omega

theorem pieces_length : ∀ s, (pieces s).length ≤ s.length + 1
  | [] => by simp [pieces]
  | b :: l => by
    have ih := pieces_length l
    rw [pieces]
    split
    · simp; omega
    · split
      · simp
      · rename_i h; rw [h] at ih; simp at ih ⊢; omega

/-- What 'tell' tells of a path that begins with a stroke. -/
def tellL (path : List UInt8) : List (List UInt8) := if path.drop 1 = [] then [] else pieces (path.drop 1)

/-- What 'Split' tells: the names, and the error's number (0: none). -/
def splitR (p : List UInt8) : List (List UInt8) × Int :=
  if 512 < p.length then ([], 3)
  else if p.head? ≠ some 47 then ([], 290)
  else if (tellL p).all mayB = false then ([], 290)
  else if 16 < (tellL p).length then ([], 4)
  else (tellL p, 0)

/-- How long a path of these names is. -/
def joinN : List (List UInt8) → Nat
  | [] => 0
  | x :: l => 1 + x.length + joinN l

theorem joinN_append : ∀ a b, joinN (a ++ b) = joinN a + joinN b
  | [], b => by simp [joinN]
  | x :: a, b => by simp [joinN, joinN_append a b]; omega

theorem joinN_take {l : List (List UInt8)} {k : Nat} {x : List UInt8} (h : l[k]? = some x) : joinN (l.take (k + 1)) = joinN (l.take k) + (1 + x.length) := by
  rw [List.take_add_one, h, joinN_append]
  simp [joinN]

theorem joinN_take_le (l : List (List UInt8)) (k : Nat) : joinN (l.take k) ≤ joinN l := by
  have := joinN_append (l.take k) (l.drop k)
  rw [List.take_append_drop] at this
  omega

theorem all_take {l : List (List UInt8)} {k : Nat} {x : List UInt8} (h : l[k]? = some x) : (l.take (k + 1)).all mayB = ((l.take k).all mayB && mayB x) := by
  rw [List.take_add_one, h, List.all_append]
  simp

theorem all_of_bad {l : List (List UInt8)} {k : Nat} {x : List UInt8} (h : l[k]? = some x) (hx : mayB x = false) : l.all mayB = false := by
  rw [Bool.eq_false_iff]
  intro ha
  rw [List.all_eq_true] at ha
  have := ha x (List.mem_of_getElem? h)
  rw [hx] at this
  cases this

/-- The names, a stroke between each two. -/
def strokes : List (List UInt8) → List UInt8
  | [] => []
  | [x] => x
  | x :: y :: l => x ++ 47 :: strokes (y :: l)

/-- What 'Join' tells: the path, and the error's number (0: none). -/
def joinR (l : List (List UInt8)) : List UInt8 × Int :=
  if 512 < joinN l then ([], 3)
  else if l.all mayB = false then ([], 290)
  else if 16 < l.length then ([], 4)
  else (47 :: strokes l, 0)

theorem strokes_length : ∀ l, (strokes l).length ≤ joinN l
  | [] => by simp [strokes]
  | [x] => by simp [strokes, joinN]
  | x :: y :: l => by
    have := strokes_length (y :: l)
    simp [strokes, joinN] at this ⊢
    omega

/-- What 'Parent' tells: the parent's path, the last name, the error's number (0: none). -/
def parentR (p : List UInt8) : List UInt8 × List UInt8 × Int :=
  if (splitR p).2 ≠ 0 then ([], [], (splitR p).2)
  else match (splitR p).1.getLast? with
    | none => ([], [], 290)
    | some x => if (joinR (splitR p).1.dropLast).2 ≠ 0 then ([], [], (joinR (splitR p).1.dropLast).2) else ((joinR (splitR p).1.dropLast).1, x, 0)

theorem all_short {l : List (List UInt8)} (h : l.all mayB = true) : ∀ x ∈ l, x.length ≤ 27 := by
  intro x hx
  have := List.all_eq_true.1 h x hx
  unfold mayB at this
  simp at this
  omega

theorem splitR_good (p : List UInt8) : (splitR p).1.all mayB = true ∧ (splitR p).1.length ≤ 16 := by
  unfold splitR
  split
  · simp
  · split
    · simp
    · split
      · simp
      · split
        · simp
        · rename_i h1 h2
          exact ⟨by simpa using h1, by simpa using h2⟩

end Go.Proofs.Ytjpmekapkjkkbaa
