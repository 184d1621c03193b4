/- names.may answers as the plain 'mayB'. -/
import Derived.Test.YtjpmekapkjkkbaaAny
import Derived.Test.YtjpmekapkjkkbaaPlain
namespace Go.Proofs.Ytjpmekapkjkkbaa
open Go.RowKit Go.Lib

theorem data_eq {s t : ByteArray} : s = t ↔ s.data.toList = t.data.toList := by
  constructor
  · intro h; rw [h]
  · intro h
    cases s; cases t
    simp at h
    rw [h]

set_option maxHeartbeats 1000000 in
theorem may_any (s : ByteArray) (w : World) :
    Calls Try.prog 18 #[.string s] w fun e w' => e = .returned (.bool (mayB s.data.toList)) ∧ Below w.heap.size w w' := by
  have hl := Lib.size_eq s
  by_cases h1 : s.size < 1
  · have hm : mayB s.data.toList = false := by unfold mayB; rw [decide_eq_false (by omega)]; rfl
    rw [hm]
    have d1 : decide ((s.size : Int) < 1) = true := decide_eq_true (by omega)
    clear hl hm
    go_enter Try.func18, Try.ntmps18
    go_wp2_with fail
    go_ret
    exact ⟨rfl, Below.refl _ _⟩
  have d1 : decide ((s.size : Int) < 1) = false := decide_eq_false (by omega)
  by_cases h2 : 27 < s.size
  · have hm : mayB s.data.toList = false := by unfold mayB; rw [decide_eq_false (p := _ ≤ 27) (by omega)]; simp
    rw [hm]
    have d2 : decide ((27 : Int) < (s.size : Int)) = true := decide_eq_true (by omega)
    clear hl hm
    go_enter Try.func18, Try.ntmps18
    go_wp2_with fail
    go_ret
    exact ⟨rfl, Below.refl _ _⟩
  have d2 : decide ((27 : Int) < (s.size : Int)) = false := decide_eq_false (by omega)
  by_cases h3 : s = ⟨#[46]⟩
  · subst h3
    go_enter Try.func18, Try.ntmps18
    go_wp2_with fail
    go_ret
    exact ⟨rfl, Below.refl _ _⟩
  have d3 : (s.toList == [46]) = false := by rw [Lib.toList_data, beq_eq_false_iff_ne]; intro e; exact h3 (data_eq.2 e)
  by_cases h4 : s = ⟨#[46, 46]⟩
  · subst h4
    go_enter Try.func18, Try.ntmps18
    go_wp2_with fail
    go_ret
    exact ⟨rfl, Below.refl _ _⟩
  have d4 : (s.toList == [46, 46]) = false := by rw [Lib.toList_data, beq_eq_false_iff_ne]; intro e; exact h4 (data_eq.2 e)
  have hm : mayB s.data.toList = !Lib.containsAny s.data.toList [47, 0] := by
    rw [not_containsAny]
    unfold mayB
    have e3 : (s.data.toList == [46]) = false := by
      rw [beq_eq_false_iff_ne]; intro e; exact h3 (data_eq.2 e)
    have e4 : (s.data.toList == [46, 46]) = false := by
      rw [beq_eq_false_iff_ne]; intro e; exact h4 (data_eq.2 e)
    rw [decide_eq_true (p := 1 ≤ _) (by omega), decide_eq_true (p := _ ≤ 27) (by omega), e3, e4]
    rfl
  rw [hm]
  have hs2 : s.size < 4294967281 := by omega
  clear hl hm h3 h4
  go_enter Try.func18, Try.ntmps18
  go_wp2_with (go_at_call 22; refine (containsAny_any _ _ hs2).mono ?_; rintro e w' ⟨rfl, hw⟩)
  go_ret
  exact ⟨rfl, hw⟩

end Go.Proofs.Ytjpmekapkjkkbaa
