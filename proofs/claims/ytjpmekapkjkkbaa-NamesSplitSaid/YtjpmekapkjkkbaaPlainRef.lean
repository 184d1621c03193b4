/- Plain: a path split byte by byte. -/
import Derived.Test.YtjpmekapkjkkbaaPlainBack
namespace Go.Proofs.Ytjpmekapkjkkbaa

theorem pieces_app : ∀ (a b : List UInt8), pieces (a ++ 47 :: b) = pieces a ++ pieces b
  | [], b => by simp [pieces]
  | c :: a, b => by
    have ih := pieces_app a b
    by_cases h : c = 47
    · simp [pieces, h, ih]
    · have hne := pieces_ne a
      simp only [List.cons_append, pieces, if_neg h, ih]
      cases hp : pieces a with
      | nil => exact absurd hp hne
      | cons p ps => simp

theorem pieces_byte : ∀ (c : List UInt8) (b : UInt8) (l : List (List UInt8)) (n : List UInt8), b ≠ 47 → pieces c = l ++ [n] → pieces (c ++ [b]) = l ++ [n ++ [b]]
  | [], b, l, n, hb, h => by
    cases l with
    | nil =>
      simp [pieces] at h
      subst h
      simp [pieces, hb]
    | cons x l => simp [pieces] at h
  | x :: c, b, l, n, hb, h => by
    by_cases hx : x = 47
    · rw [pieces, if_pos hx] at h
      rw [List.cons_append, pieces, if_pos hx]
      cases l with
      | nil =>
        simp at h
        exact absurd h.2 (pieces_ne c)
      | cons y l =>
        simp at h
        obtain ⟨rfl, h⟩ := h
        rw [pieces_byte c b l n hb h]
        rfl
    · rw [pieces, if_neg hx] at h
      rw [List.cons_append, pieces, if_neg hx]
      cases hp : pieces c with
      | nil => exact absurd hp (pieces_ne c)
      | cons p ps =>
        rw [hp] at h
        simp only at h
        cases l with
        | nil =>
          simp at h
          obtain ⟨rfl, rfl⟩ := h
          have := pieces_byte c b [] p hb hp
          rw [this]
          rfl
        | cons y l =>
          simp at h
          obtain ⟨rfl, rfl⟩ := h
          have := pieces_byte c b (p :: l) n hb (by rw [hp]; rfl)
          rw [this]
          rfl

/-- How far the reference has come: k bytes behind the first stroke are read. -/
def Come (body : List UInt8) (k : Nat) (l : List (List UInt8)) (nm : List UInt8) : Prop :=
  (k ≤ body.length ∧ pieces (body.take k) = l ++ [nm]) ∨ (k = body.length + 1 ∧ l = pieces body)

theorem come_start (body : List UInt8) : Come body 0 [] [] := .inl ⟨Nat.zero_le _, by simp [pieces]⟩

theorem take_split {body : List UInt8} {k : Nat} {b : UInt8} (h : body[k]? = some b) : body = body.take k ++ b :: body.drop (k + 1) := by
  obtain ⟨hk, rfl⟩ := List.getElem?_eq_some_iff.1 h
  simp

theorem come_byte {body : List UInt8} {k : Nat} {l : List (List UInt8)} {nm : List UInt8} {b : UInt8} (hc : Come body k l nm) (hb : body[k]? = some b) (h47 : b ≠ 47) : Come body (k + 1) l (nm ++ [b]) := by
  have hk : k < body.length := (List.getElem?_eq_some_iff.1 hb).1
  rcases hc with ⟨_, hp⟩ | ⟨e, _⟩
  · refine .inl ⟨by omega, ?_⟩
    rw [List.take_add_one, hb]
    exact pieces_byte _ _ _ _ h47 hp
  · omega

theorem come_stroke {body : List UInt8} {k : Nat} {l : List (List UInt8)} {nm : List UInt8} (hc : Come body k l nm) (hb : body[k]? = some 47) : Come body (k + 1) (l ++ [nm]) [] ∧ nm ∈ pieces body := by
  have hk : k < body.length := (List.getElem?_eq_some_iff.1 hb).1
  rcases hc with ⟨_, hp⟩ | ⟨e, _⟩
  · refine ⟨.inl ⟨by omega, ?_⟩, ?_⟩
    · rw [List.take_add_one, hb]
      show pieces (body.take k ++ [47]) = _
      rw [pieces_stroke, hp]
    · rw [take_split hb, pieces_app, hp]
      simp
  · omega

theorem come_end {body : List UInt8} {l : List (List UInt8)} {nm : List UInt8} (hc : Come body body.length l nm) : Come body (body.length + 1) (l ++ [nm]) [] ∧ nm ∈ pieces body := by
  rcases hc with ⟨_, hp⟩ | ⟨e, _⟩
  · rw [List.take_length] at hp
    exact ⟨.inr ⟨rfl, hp.symm⟩, by rw [hp]; simp⟩
  · omega

theorem come_done {body : List UInt8} {k : Nat} {l : List (List UInt8)} {nm : List UInt8} (hc : Come body k l nm) (hk : body.length < k) : l = pieces body := by
  rcases hc with ⟨h, _⟩ | ⟨_, h⟩
  · omega
  · exact h

end Go.Proofs.Ytjpmekapkjkkbaa
