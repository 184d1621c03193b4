/- quernlaw29.NamesBelow returns true for every path and every name: the way on which all is well, and all ways together. -/
import Derived.Test.YtjpmekapkjkkbaaBel
namespace Go.Proofs.Ytjpmekapkjkkbaa
open Go.RowKit Go.Shelf

set_option maxHeartbeats 4000000 in
set_option maxRecDepth 100000 in
theorem bel_good (s t : ByteArray) (w : World) (h1 : ¬ 5000 < s.size) (h2 : t.size ≤ 27) (l : List (List UInt8)) (hl : l ≠ []) (hl16 : l.length < 16) (p : List UInt8) (hs : BelSplit s l 0) (hj : BelJoin t p 0)
    (hs2 : BelSplit (s ++ ⟨#[47]⟩ ++ t) (l ++ [t.data.toList]) 0) (h : ¬ 512 < s.size + 1 + t.size) :
    Calls Try.prog 8 #[.string s, .string t] w fun e w' => e = .returned (.bool true) ∧ Below w.heap.size w w' := by
  have d1 : decide ((5000 : Int) < (s.size : Int)) = false := decide_eq_false (by omega)
  have d2 : decide ((5000 : Int) < (t.size : Int)) = false := decide_eq_false (by omega)
  have hl0 : 0 < l.length := List.length_pos_iff.2 hl
  have d3 : ((l.length : Int) == 0) = false := beq_eq_false_iff_ne.2 (by omega)
  have d4 : decide ((512 : Int) < (s.size : Int) + 1 + (t.size : Int)) = false := decide_eq_false (by omega)
  have d5 : ((l.length : Int) == 16) = false := beq_eq_false_iff_ne.2 (by omega)
  obtain ⟨k, hk⟩ : ∃ k, l.length = k + 1 := ⟨l.length - 1, by omega⟩
  have HK := Lib.hid hk
  clear hl hk
  go_enter Try.func8, Try.ntmps8
  go_wp2_with (go_at_call 17; refine (awake_any _).mono ?_; rintro e w' ⟨rfl, hb⟩; have HA := Lib.hid hb; clear hb)
  refine (hs _).mono ?_
  rintro e w2 ⟨v, rfl, hrow, hv, hb2⟩
  obtain ⟨g', cap', rfl⟩ : ∃ g cap, v = .slice (some ⟨g, 0, none⟩) l.length cap := by rw [HK.out] at hrow ⊢; exact ownsRow_succ hrow
  obtain ⟨_, hgl, hgc, hcl⟩ := row_names hrow
  have HB2 := Lib.hid hb2
  have HCL := Lib.hid hcl
  clear hb2 hv hrow hcl
  go_wp2_with (go_at_call 10; refine (hj _).mono ?_; rintro e w3 ⟨rfl, hb3⟩; have HB3 := Lib.hid hb3; clear hb3)
  refine (hs2 _).mono ?_
  rintro e w4 ⟨v, rfl, hrow, hv, hb4⟩
  rw [List.length_append, List.length_singleton] at hrow
  obtain ⟨g2, cap2, rfl⟩ := ownsRow_succ hrow
  obtain ⟨_, hg2, hg2c, hc2⟩ := row_names (xs := l ++ [t.data.toList]) (by rw [List.length_append, List.length_singleton]; exact hrow)
  have hlast : w4.cell? ⟨g2, l.length, none⟩ = some (.string t) := by
    have := hc2 l.length t.data.toList (by simp)
    rw [S, str_eta] at this
    exact this
  have hcl4 : ∀ i x, l[i]? = some x → w4.cell? ⟨g', i, none⟩ = some (S x) ∧ w4.cell? ⟨g2, i, none⟩ = some (S x) := by
    intro i x hx
    have hb : Below w2.heap.size w2 w4 := below_chain (below_chain ((Below.refl _ _).alloc (Nat.le_refl _) _) HB3.out) hb4
    refine ⟨(hb.cell (p := ⟨g', i, none⟩) hgl).trans (HCL.out i x hx), hc2 i x ?_⟩
    rw [List.getElem?_append_left (List.getElem?_eq_some_iff.1 hx).1, hx]
  rw [List.length_append, List.length_singleton] at hg2c
  have HB4 := Lib.hid hb4
  have HC := Lib.hid hcl4
  clear hb4 hv hrow hc2 hcl4
  have d6 : ((l.length : Int) + 1 != (l.length : Int) + 1) = false := by simp
  go_wp2_with fail
  go_loopw [12] (fun i wr => ∃ k nd : Nat, k ≤ l.length ∧ i = .int .i64 k ∧ wr = w4.drewN nd) (fun i _ => l.length - (intOf i).toNat)
  case atStart => exact ⟨0, 0, Nat.zero_le _, rfl, rfl⟩
  case round =>
    obtain ⟨k, nd, hk, rfl, rfl⟩ := hrel
    by_cases hlt : k < l.length
    · obtain ⟨x, hxk⟩ : ∃ x, l[k]? = some x := ⟨_, List.getElem?_eq_getElem hlt⟩
      obtain ⟨c1, c2⟩ := HC.out k x hxk
      have HX := Lib.hid hxk
      clear hxk
      go_wp2_with fail
      go_quiet (fail)
      go_wp2_with fail
      go_roundw
      case rel => exact ⟨k + 1, _, by omega, by go_num, rfl⟩
      case measure => simp [intOf]; omega
    · go_wp2_with fail
      go_ret
      exact ⟨rfl, below_drewN (below_chain (below_chain (below_chain HA.out HB2.out) (below_chain ((Below.refl _ _).alloc (Nat.le_refl _) _) HB3.out)) HB4.out) _⟩

theorem str_below (s t : ByteArray) : (s ++ ⟨#[47]⟩ ++ t : ByteArray).data.toList = s.data.toList ++ 47 :: t.data.toList := by simp

theorem bel_walk (s t : ByteArray) (w : World) : Calls Try.prog 8 #[.string s, .string t] w fun e w' => e = .returned (.bool true) ∧ Below w.heap.size w w' := by
  by_cases h1 : 5000 < s.size
  · exact bel_long s t w (.inl h1)
  by_cases h2 : 5000 < t.size
  · exact bel_long s t w (.inr ⟨h1, h2⟩)
  have hzs := Lib.size_eq s
  have hzt := Lib.size_eq t
  have hs : BelSplit s (splitR s.data.toList).1 (splitR s.data.toList).2 := fun W => split_any s W
  have hj : BelJoin t (joinR [t.data.toList]).1 (joinR [t.data.toList]).2 := fun W => join_any _ _ _ (names_lit1' W t) (Nat.le_of_ble_eq_true rfl) (by simp; omega)
  by_cases e1 : (splitR s.data.toList).2 = 0
  · by_cases e2 : (joinR [t.data.toList]).2 = 0
    · obtain ⟨a1, a2, a3, a4, a5⟩ := splitR_ok e1
      have hm : mayB t.data.toList = true := by
        have := (joinR_inv e2).1
        simpa using this
      obtain ⟨m1, m2, m3⟩ := mayB_parts hm
      rw [e1, a1] at hs
      rw [e2] at hj
      by_cases hl : tellL s.data.toList = []
      · rw [hl] at hs
        refine bel_root s t w h1 (by omega) _ hs hj (fun W => ?_)
        have := split_any (⟨#[47]⟩ ++ t) W
        rw [str_ahead, splitR_one hm] at this
        exact this
      · have hall : (tellL s.data.toList ++ [t.data.toList]).all mayB = true := by rw [List.all_append, a3]; simpa using hm
        have hst : (s ++ ⟨#[47]⟩ ++ t : ByteArray).data.toList = 47 :: strokes (tellL s.data.toList ++ [t.data.toList]) := by
          rw [str_below, strokes_snoc _ _ hl, ← List.cons_append, ← a2]
        have hs2 : BelSplit (s ++ ⟨#[47]⟩ ++ t) (splitR (s ++ ⟨#[47]⟩ ++ t : ByteArray).data.toList).1 (splitR (s ++ ⟨#[47]⟩ ++ t : ByteArray).data.toList).2 := fun W => split_any _ W
        have hlen : (strokes (tellL s.data.toList ++ [t.data.toList])).length + 1 = s.size + 1 + t.size := by
          have := congrArg List.length hst
          rw [str_below] at this
          simp at this
          simp at hzs hzt
          omega
        rw [hst, splitR_path hall, hlen] at hs2
        by_cases h3 : 512 < s.size + 1 + t.size
        · rw [if_pos h3] at hs2
          exact bel_err s t w h1 (by omega) _ hl a4 _ hs hj _ hs2 (.inl ⟨h3, rfl⟩)
        · rw [if_neg h3] at hs2
          by_cases h4 : (tellL s.data.toList).length = 16
          · rw [if_pos (by simp; omega)] at hs2
            exact bel_err s t w h1 (by omega) _ hl a4 _ hs hj _ hs2 (.inr ⟨h3, h4, rfl⟩)
          · rw [if_neg (by simp; omega)] at hs2
            exact bel_good s t w h1 (by omega) _ hl (by omega) _ hs hj hs2 h3
    · exact bel_refused s t w h1 h2 _ _ _ _ hs hj (.inr ⟨e1, e2⟩)
  · exact bel_refused s t w h1 h2 _ _ _ _ hs hj (.inl e1)

end Go.Proofs.Ytjpmekapkjkkbaa
