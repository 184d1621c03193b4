/- quernlaw29.NamesBack returns true for every path and every slice of strings that is not empty; and all together. -/
import Derived.Test.YtjpmekapkjkkbaaBack
namespace Go.Proofs.Ytjpmekapkjkkbaa
open Go.RowKit Go.Shelf

set_option maxHeartbeats 8000000 in
set_option maxRecDepth 100000 in
theorem back_some (s : ByteArray) (b o cap : Nat) (xs : List (List UInt8)) (w : World) (hl : 0 < xs.length) (hm : xs.length ≤ 9223372036854775807) (hbk : b < w.heap.size) (hc : ∀ i x, xs[i]? = some x → w.cell? ⟨b, o + i, none⟩ = some (S x))
    (l : List (List UInt8)) (n : Int) (hp : BackPath s l n) (p : List UInt8) (m : Int) (hq : joinN xs ≤ 1000000 → BackNames w (.slice (some ⟨b, o, none⟩) xs.length cap) xs p m) :
    Calls Try.prog 5 #[.string s, .slice (some ⟨b, o, none⟩) xs.length cap] w fun e w' => e = .returned (.bool true) ∧ Below w.heap.size w w' := by
  obtain ⟨P1, P2, P3⟩ := hp
  have hp1 := Lib.hid P1; have hp2 := Lib.hid P2; have hp3 := Lib.hid P3; have HQ := Lib.hid hq
  have HC := Lib.hid hc
  clear P1 P2 P3 hq hc
  obtain ⟨n0, hn0⟩ : ∃ n0 : Nat, min (s.size : Int) 20001 = n0 := ⟨min s.size 20001, by omega⟩
  have hn0' : n0 ≤ 20001 := by omega
  go_enter Try.func5, Try.ntmps5
  go_wp2_with (go_at_call 17; refine (awake_any _).mono ?_; rintro e w' ⟨rfl, hb⟩; have HA := Lib.hid hb; clear hb)
  clear hn0
  go_loop [5, 6] (fun t i => ∃ k : Nat, k ≤ xs.length ∧ k ≤ 1001 ∧ i = .int .i64 k ∧ t = .int .i64 (n0 + minN (xs.take k) : Nat)) (fun _ i => 1001 - (intOf i).toNat)
  case atStart => exact ⟨0, Nat.zero_le _, Nat.zero_le _, rfl, rfl⟩
  case round =>
    obtain ⟨k, hk, hk1, rfl, rfl⟩ := hrel
    have hmin : minN (xs.take k) ≤ 30000000 := by
      have := minN_le (xs.take k)
      rw [List.length_take] at this
      omega
    by_cases hlt : k < xs.length
    · by_cases hle : k ≤ 1000
      · obtain ⟨x, hxk⟩ : ∃ x, xs[k]? = some x := ⟨_, List.getElem?_eq_getElem hlt⟩
        have hcell : w'.cell? ⟨b, o + k, none⟩ = some (S x) := (HA.out.cell (p := ⟨b, o + k, none⟩) hbk).trans (HC.out k x hxk)
        have hsum := minN_take hxk
        have hsz := S_size x
        have HS := Lib.hid hsum
        clear hsum hxk
        generalize minN (xs.take k) = t at *
        go_wp2_with fail
        go_round
        case rel => exact ⟨k + 1, by omega, by omega, by go_num, by rw [HS.out]; exact congrArg (Value.int .i64) (by omega)⟩
        case measure => simp [intOf]; omega
      · generalize minN (xs.take k) = t at *
        have hbig : 1000 < xs.length := by omega
        go_wp2_with fail
        go_ret
        exact ⟨rfl, HA.out⟩
    · obtain rfl : k = xs.length := by omega
      have e1 : xs.take xs.length = xs := List.take_length
      rw [e1] at hmin ⊢
      by_cases hbig : 1000 < xs.length
      · generalize minN xs = t at *
        go_wp2_with fail
        go_ret
        exact ⟨rfl, HA.out⟩
      by_cases hsum : 20000 < n0 + minN xs
      · generalize minN xs = t at *
        go_wp2_with fail
        go_ret
        exact ⟨rfl, HA.out⟩
      have hj := minN_small xs (by omega)
      obtain ⟨Q1, Q2, Q3, Q4⟩ := HQ.out (by omega)
      have hq1 := Lib.hid Q1; have hq2 := Lib.hid Q2; have hq3 := Lib.hid Q3; have hq4 := Lib.hid Q4
      clear hj e1 Q1 Q2 Q3 Q4 HQ
      obtain ⟨t, ht⟩ : ∃ t, n0 + minN xs = t := ⟨_, rfl⟩
      rw [ht] at hsum ⊢
      clear ht hmin
      by_cases hm0 : m = 0
      · subst hm0
        have kq3 := Lib.hid (hq3.out rfl)
        clear hq3
        by_cases hn : n = 0
        · subst hn
          have kp3 := Lib.hid (hp3.out rfl)
          clear hp3
          go_wp2_with fail
          refine (hp1.out _).mono ?_
          rintro e w2 ⟨v, rfl, hrow, _, hb2⟩
          have HN := Lib.hid (names_of_row hrow)
          have HB2 := Lib.hid (below_chain HA.out hb2)
          clear hrow hb2
          go_wp2_with fail
          refine (kp3.out _ _ HN.out).mono ?_
          rintro e w3 ⟨rfl, hb3⟩
          have HB3 := Lib.hid (below_chain HB2.out hb3)
          clear hb3
          go_wp2_with fail
          refine (hq1.out _ HB3.out).mono ?_
          rintro e w4 ⟨rfl, hb4⟩
          have HB4 := Lib.hid (below_chain HB3.out hb4)
          clear hb4
          go_wp2_with fail
          refine (kq3.out _).mono ?_
          rintro e w5 ⟨v5, rfl, hrow, _, hb5⟩
          have HN5 := Lib.hid (names_of_row hrow)
          have HB5 := Lib.hid (below_chain HB4.out hb5)
          clear hb5 hrow
          go_wp2_with (go_at_call 12; refine (hq4.out _ _ HB5.out HN5.out).mono ?_; rintro e w6 ⟨rfl, nd, rfl⟩)
          go_ret
          exact ⟨rfl, below_drewN HB5.out _⟩
        · have d1 : (n == 0) = false := beq_eq_false_iff_ne.2 hn
          obtain rfl := hp2.out hn
          go_wp2_with fail
          refine (hp1.out _).mono ?_
          rintro e w2 ⟨v, rfl, _, hv, hb2⟩
          obtain rfl := hv.2 rfl
          have HB2 := Lib.hid (below_chain HA.out hb2)
          clear hb2 hv
          go_wp2_with fail
          refine (hq1.out _ HB2.out).mono ?_
          rintro e w4 ⟨rfl, hb4⟩
          have HB4 := Lib.hid (below_chain HB2.out hb4)
          clear hb4
          go_wp2_with fail
          refine (kq3.out _).mono ?_
          rintro e w5 ⟨v5, rfl, hrow, _, hb5⟩
          have HN5 := Lib.hid (names_of_row hrow)
          have HB5 := Lib.hid (below_chain HB4.out hb5)
          clear hb5 hrow
          go_wp2_with (go_at_call 12; refine (hq4.out _ _ HB5.out HN5.out).mono ?_; rintro e w6 ⟨rfl, nd, rfl⟩)
          go_ret
          exact ⟨rfl, below_drewN HB5.out _⟩
      · have d2 : (m != 0) = true := bne_iff_ne.2 hm0
        obtain rfl := hq2.out hm0
        by_cases hn : n = 0
        · subst hn
          have kp3 := Lib.hid (hp3.out rfl)
          clear hp3
          go_wp2_with fail
          refine (hp1.out _).mono ?_
          rintro e w2 ⟨v, rfl, hrow, _, hb2⟩
          have HN := Lib.hid (names_of_row hrow)
          have HB2 := Lib.hid (below_chain HA.out hb2)
          clear hrow hb2
          go_wp2_with fail
          refine (kp3.out _ _ HN.out).mono ?_
          rintro e w3 ⟨rfl, hb3⟩
          have HB3 := Lib.hid (below_chain HB2.out hb3)
          clear hb3
          go_wp2_with fail
          refine (hq1.out _ HB3.out).mono ?_
          rintro e w4 ⟨rfl, hb4⟩
          have HB4 := Lib.hid (below_chain HB3.out hb4)
          clear hb4
          go_wp2_with fail
          go_ret
          exact ⟨rfl, HB4.out⟩
        · have d1 : (n == 0) = false := beq_eq_false_iff_ne.2 hn
          obtain rfl := hp2.out hn
          go_wp2_with fail
          refine (hp1.out _).mono ?_
          rintro e w2 ⟨v, rfl, _, hv, hb2⟩
          obtain rfl := hv.2 rfl
          have HB2 := Lib.hid (below_chain HA.out hb2)
          clear hb2 hv
          go_wp2_with fail
          refine (hq1.out _ HB2.out).mono ?_
          rintro e w4 ⟨rfl, hb4⟩
          have HB4 := Lib.hid (below_chain HB2.out hb4)
          clear hb4
          go_wp2_with fail
          go_ret
          exact ⟨rfl, HB4.out⟩

theorem back_walk (s : ByteArray) (a : Option Addr) (len cap : Nat) (zs : List ByteArray) (w : World) (h : IsStrs w a len cap zs) : Calls Try.prog 5 #[.string s, .slice a len cap] w fun e w' => e = .returned (.bool true) ∧ Below w.heap.size w w' := by
  obtain ⟨h1, h2, h3, h4, h5⟩ := isStrs_names h
  by_cases h0 : len = 0
  · subst h0
    have hx : namesOf zs 0 = [] := List.length_eq_zero_iff.1 h1
    rw [hx] at h3
    exact back_void s a cap w _ _ (backPath s) _ (backNames w _ [] h3 (by decide))
  · obtain ⟨b, o, rfl, hb, hc⟩ := h5 h0
    generalize namesOf zs len = xs at *
    subst h1
    unfold maxLen at h2
    exact back_some s b o cap xs w (by omega) h2 hb hc _ _ (backPath s) _ _ (fun hN => backNames w _ xs h3 hN)

end Go.Proofs.Ytjpmekapkjkkbaa
