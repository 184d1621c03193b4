/- quernlaw29.NamesParent returns true for every path. -/
import Derived.Test.YtjpmekapkjkkbaaOne
import Derived.Test.YtjpmekapkjkkbaaPlainBack
namespace Go.Proofs.Ytjpmekapkjkkbaa
open Go.RowKit Go.Shelf

set_option maxHeartbeats 4000000 in
set_option maxRecDepth 100000 in
theorem par_walk (s : ByteArray) (w : World) : Calls Try.prog 6 #[.string s] w fun e w' => e = .returned (.bool true) ∧ Below w.heap.size w w' := by
  by_cases h1 : 20000 < s.size
  · have d1 : decide ((20000 : Int) < (s.size : Int)) = true := decide_eq_true (by omega)
    go_enter Try.func6, Try.ntmps6
    go_wp2_with (go_at_call 17; refine (awake_any _).mono ?_; rintro e w' ⟨rfl, hb⟩)
    go_ret
    exact ⟨rfl, hb⟩
  have d1 : decide ((20000 : Int) < (s.size : Int)) = false := decide_eq_false (by omega)
  have hs := split_any s
  have hp := parent_any s
  by_cases hn : (splitR s.data.toList).2 = 0
  · cases hl : (splitR s.data.toList).1.getLast? with
    | none =>
      have e0 : splitR s.data.toList = ([], 0) := Prod.ext (List.getLast?_eq_none_iff.1 hl) hn
      have e1 := parentR_root e0
      rw [e1] at hp
      rw [e0] at hs
      have HS := Lib.hid hs
      have HP := Lib.hid hp
      clear hs hp e0 e1 hn hl
      go_enter Try.func6, Try.ntmps6
      go_wp2_with (first
        | (go_at_call 17; refine (awake_any _).mono ?_; rintro e w' ⟨rfl, hb⟩; have HA := Lib.hid hb; clear hb)
        | (go_at_call 14; refine (HS.out _).mono ?_; rintro e w2 ⟨v, rfl, _, hv, hb2⟩; obtain rfl := hv.2 rfl; have HB2 := Lib.hid hb2; clear hb2 hv)
        | (go_at_call 15; refine (HP.out _).mono ?_; rintro e w3 ⟨rfl, hb3⟩))
      go_ret
      exact ⟨rfl, below_chain (below_chain HA.out HB2.out) hb3⟩
    | some x =>
      obtain ⟨ys, hys⟩ := List.getLast?_eq_some_iff.1 hl
      have e0 : splitR s.data.toList = (ys ++ [x], 0) := Prod.ext hys hn
      obtain ⟨e1, e2, e3⟩ := parentR_ok e0
      have hg := splitR_good s.data.toList
      rw [e0] at hs hg
      rw [e1] at hp
      have hs2 : ∀ W, Calls Try.prog 14 #[.string ⟨(47 :: strokes ys).toArray⟩] W (TellsNames W ys 0) := fun W => by
        have := split_any ⟨(47 :: strokes ys).toArray⟩ W
        rw [show (⟨(47 :: strokes ys).toArray⟩ : ByteArray).data.toList = 47 :: strokes ys from rfl, e2] at this
        exact this
      have hj : ∀ W v, Names W v (ys ++ [x]) → Calls Try.prog 10 #[v] W (fun e w' => e = .returned (.tuple #[.string s, .int .i64 0]) ∧ Below W.heap.size W w') := fun W v hv => by
        have := join_any W v _ hv (by have h16 : (ys ++ [x]).length ≤ 16 := hg.2; omega) (fun y hy => by have := all_short hg.1 y hy; omega)
        rw [e3] at this
        refine this.mono ?_
        rintro e w' ⟨rfl, hb⟩
        exact ⟨by rw [S, str_eta], hb⟩
      have HS := Lib.hid hs
      have HP := Lib.hid hp
      have HS2 := Lib.hid hs2
      have HJ := Lib.hid hj
      have hlen : ys.length + 1 ≤ 16 := by have := hg.2; simp at this; omega
      have d3 : ((ys.length : Int) + 1 == 0) = false := beq_eq_false_iff_ne.2 (by omega)
      clear hs hp e0 e1 e2 e3 hn hl hys hs2 hj hg
      go_enter Try.func6, Try.ntmps6
      go_wp2_with (go_at_call 17; refine (awake_any _).mono ?_; rintro e w' ⟨rfl, hb⟩; have HA := Lib.hid hb; clear hb)
      refine (HS.out _).mono ?_
      rintro e w2 ⟨v, rfl, hrow, _, hb2⟩
      rw [List.length_append, List.length_singleton] at hrow
      obtain ⟨g', cap', rfl⟩ := ownsRow_succ hrow
      have HB2 := Lib.hid hb2
      clear hb2 hrow
      go_wp2_with (go_at_call 15; refine (HP.out _).mono ?_; rintro e w3 ⟨rfl, hb3⟩; have HB3 := Lib.hid hb3; clear hb3)
      refine (HS2.out _).mono ?_
      rintro e w4 ⟨v, rfl, hrow, _, hb4⟩
      obtain ⟨i0, hi, hz0, hz1, hz2⟩ := info_parts info9
      have hv : (v = .slice none 0 0 ∧ ys.length = 0) ∨ ∃ g cap, v = .slice (some ⟨g, 0, none⟩) ys.length cap := by
        rcases hrow.2 with hn | ⟨g, cap, cur, rfl, _⟩
        · exact .inl hn
        · exact .inr ⟨g, cap, rfl⟩
      have HR := Lib.hid hrow
      have HB4 := Lib.hid hb4
      clear hrow hb4
      rcases hv with ⟨rfl, h0⟩ | ⟨g2, cap2, rfl⟩
      · obtain rfl : ys = [] := List.length_eq_zero_iff.1 h0
        clear h0
        go_wp2_with (first
          | (at_builtin; refine wpList_append_own _ rfl _ _ 22 rfl w3.heap.size 9 i0 (.string ⟨#[]⟩) 1 16 Try.underlying22 hi hz0 hz1 hz2 rfl (by decide) _ _ _ rfl (HR.out.alloc _) ⟨w4.heap.size, 0, none⟩ 1 1 [S x] rfl rfl (cell_one_new _ _ _) (by simp [Value.oneCell']) (by simp [maxLen]) (by simp) (by have := HB4.out.size; simp; omega) ?_; intro v' w5 hown' hgrow _; have HO := Lib.hid hown'; have HGr := Lib.hid hgrow; clear hown' hgrow)
          | (go_at_call 10; refine (HJ.out _ _ (names_of_row (xs := [x]) HO.out)).mono ?_; rintro e w6 ⟨rfl, hb6⟩; have HB6 := Lib.hid hb6; clear hb6))
        go_ret
        exact ⟨rfl, below_chain (below_chain (below_chain (below_chain HA.out HB2.out) HB3.out) (((HB4.out.alloc HB4.out.size _).grown HGr.out (by have := HB4.out.size; simp; omega) (fun k e => by cases e)))) HB6.out⟩
      · have hown : w3.heap.size ≤ g2 := by
          rcases HR.out.2 with ⟨h', _⟩ | ⟨g, cap, cur, h', hg, _⟩
          · cases h'
          · cases h'
            exact hg
        have hcap2 := row_cap HR.out
        have d5 : ((ys.length : Int) == (ys.length : Int)) = true := beq_iff_eq.2 rfl
        go_wp2_with (first
          | (at_builtin; refine wpList_append_own _ rfl _ _ 22 rfl w3.heap.size 9 i0 (.string ⟨#[]⟩) 1 16 Try.underlying22 hi hz0 hz1 hz2 rfl (by decide) _ _ _ rfl (HR.out.alloc _) ⟨w4.heap.size, 0, none⟩ 1 1 [S x] rfl rfl (cell_one_new _ _ _) (by simp [Value.oneCell']) (by unfold maxLen; omega) (by omega) (by have := HB4.out.size; simp; omega) ?_; intro v' w5 hown' hgrow _; have HO := Lib.hid hown'; have HGr := Lib.hid hgrow; clear hown' hgrow)
          | (go_at_call 10; refine (HJ.out _ _ (names_of_row (xs := ys ++ [x]) (by have := HO.out; simpa using this))).mono ?_; rintro e w6 ⟨rfl, hb6⟩; have HB6 := Lib.hid hb6; clear hb6))
        go_ret
        exact ⟨rfl, below_chain (below_chain (below_chain (below_chain HA.out HB2.out) HB3.out) (((HB4.out.alloc HB4.out.size _).grown HGr.out (by have := HB4.out.size; simp; omega) (fun k e => by cases e; exact hown)))) HB6.out⟩
  · have e1 := parentR_bad hn
    have e2 := splitR_err hn
    rw [e1] at hp
    rw [e2] at hs
    generalize (splitR s.data.toList).2 = n at *
    have d2 : (n != 0) = true := by rw [bne_iff_ne]; exact hn
    have d3 : (n == 0) = false := beq_eq_false_iff_ne.2 hn
    have HS := Lib.hid hs
    have HP := Lib.hid hp
    clear hs hp e1 e2 hn
    go_enter Try.func6, Try.ntmps6
    go_wp2_with (first
      | (go_at_call 17; refine (awake_any _).mono ?_; rintro e w' ⟨rfl, hb⟩; have HA := Lib.hid hb; clear hb)
      | (go_at_call 14; refine (HS.out _).mono ?_; rintro e w2 ⟨v, rfl, _, hv, hb2⟩; obtain rfl := hv.2 rfl; have HB2 := Lib.hid hb2; clear hb2 hv)
      | (go_at_call 15; refine (HP.out _).mono ?_; rintro e w3 ⟨rfl, hb3⟩))
    go_ret
    exact ⟨rfl, below_chain (below_chain HA.out HB2.out) hb3⟩

end Go.Proofs.Ytjpmekapkjkkbaa
