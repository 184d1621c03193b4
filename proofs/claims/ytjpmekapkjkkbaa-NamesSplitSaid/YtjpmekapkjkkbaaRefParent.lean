/- quernref29.Parent answers as the plain 'parentR'. -/
import Derived.Test.YtjpmekapkjkkbaaRefSplit
import Derived.Test.YtjpmekapkjkkbaaRefJoin
namespace Go.Proofs.Ytjpmekapkjkkbaa
open Go.RowKit Go.Shelf

set_option maxHeartbeats 4000000 in
set_option maxRecDepth 100000 in
theorem refParent_any (path : ByteArray) (w : World) : Calls Try.prog 16 #[.string path] w (TellsTwo w (parentR path.data.toList).1 (parentR path.data.toList).2.1 (parentR path.data.toList).2.2) := by
  have hs := refSplit_any path w
  by_cases hn : (splitR path.data.toList).2 = 0
  · cases hl : (splitR path.data.toList).1.getLast? with
    | none =>
      have e0 : splitR path.data.toList = ([], 0) := Prod.ext (List.getLast?_eq_none_iff.1 hl) hn
      rw [parentR_root e0]
      rw [e0] at hs
      have HS := Lib.hid hs
      clear hs e0 hn hl
      go_enter Try.func16, Try.ntmps16
      go_wp2_with (go_at_call 13; refine HS.out.mono ?_; rintro e w2 ⟨v, rfl, _, hv, hb2⟩; obtain rfl := hv.2 rfl)
      go_ret3
      exact ⟨rfl, hb2⟩
    | some x =>
      obtain ⟨ys, hys⟩ := List.getLast?_eq_some_iff.1 hl
      have e0 : splitR path.data.toList = (ys ++ [x], 0) := Prod.ext hys hn
      obtain ⟨e1, e2, e3⟩ := parentR_ok e0
      have hg := splitR_ok hn
      rw [e1]
      rw [e0] at hs
      have hjn : joinN ys ≤ 512 := by
        have h := (joinR_inv (l := ys ++ [x]) (by rw [e3])).2.2.1
        rw [joinN_append] at h
        omega
      have hj : ∀ W v, Names W v ys → Calls Try.prog 11 #[v] W fun e w' => e = .returned (.tuple #[S (47 :: strokes ys), .int .i64 0]) ∧ W = w' := fun W v hv => by
        have := refJoin_any W v ys hv (by omega)
        have h16 : (ys ++ [x]).length ≤ 16 ∧ (ys ++ [x]).all mayB = true := by
          have h := joinR_inv (l := ys ++ [x]) (by rw [e3])
          exact ⟨h.2.1, h.1⟩
        have ha : ys.all mayB = true := by
          have := h16.2
          rw [List.all_append, Bool.and_eq_true] at this
          exact this.1
        rw [joinR_ok ha (by have := h16.1; simp at this; omega) hjn] at this
        exact this
      have hlen : ys.length ≤ 512 := by have := joinN_len ys; omega
      have HS := Lib.hid hs
      have HJ := Lib.hid hj
      have d3 : ((ys.length : Int) + 1 == 0) = false := beq_eq_false_iff_ne.2 (by omega)
      clear hs e0 e1 e2 e3 hn hl hys hj hg hjn
      go_enter Try.func16, Try.ntmps16
      go_wp2_with (first
        | (go_at_call 13; refine HS.out.mono ?_; rintro e w' ⟨v, rfl, hrow, hnil, hb⟩; rw [List.length_append, List.length_singleton] at hrow; obtain ⟨g', cap', rfl⟩ := ownsRow_succ hrow; have hcap := row_cap hrow; have hcell := (names_first hrow).2; have HR := Lib.hid (names_first hrow); have HN := Lib.hid hb; clear hrow hnil hb)
        | (go_at_call 11; refine (HJ.out _ _ HR.out.1).mono ?_; rintro e w2 ⟨rfl, rfl⟩))
      have k1 : IntKind.i64.wrap ((ys.length : Int) + 1 - 1) = (ys.length : Int) := by rw [show (ys.length : Int) + 1 - 1 = ys.length by omega]; exact IntWalk.i64_in _ (by omega)
      go_quiet (fail)
      go_wp2_with fail
      go_ret3
      exact ⟨rfl, below_drewN HN.out _⟩
  · rw [parentR_bad hn]
    have e2 := splitR_err hn
    rw [e2] at hs
    generalize (splitR path.data.toList).2 = n at *
    have d2 : (n != 0) = true := bne_iff_ne.2 hn
    have HS := Lib.hid hs
    clear hs e2 hn
    go_enter Try.func16, Try.ntmps16
    go_wp2_with (go_at_call 13; refine HS.out.mono ?_; rintro e w2 ⟨v, rfl, _, hv, hb2⟩; obtain rfl := hv.2 rfl)
    go_ret3
    exact ⟨rfl, hb2⟩

end Go.Proofs.Ytjpmekapkjkkbaa
