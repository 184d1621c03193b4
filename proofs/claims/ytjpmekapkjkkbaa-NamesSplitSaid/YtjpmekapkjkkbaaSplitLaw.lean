/- quernlaw29.NamesSplit returns true for every path. -/
import Derived.Test.YtjpmekapkjkkbaaRefParent
namespace Go.Proofs.Ytjpmekapkjkkbaa
open Go.RowKit Go.Shelf

theorem names_below' {w w' : World} {v : Value} {xs : List (List UInt8)} (h : Names w v xs) (hb : Below w.heap.size w w') : Names w' v xs := by
  rcases h with h | ⟨b, o, cap, rfl, h1, h2, h3⟩
  · exact .inl h
  · exact .inr ⟨b, o, cap, rfl, h1, Nat.lt_of_lt_of_le h2 hb.size, fun i x hx => (hb.cell (p := ⟨b, o + i, none⟩) h2).trans (h3 i x hx)⟩

set_option maxHeartbeats 8000000 in
set_option maxRecDepth 100000 in
theorem splitLaw_walk (s : ByteArray) (w : World) : Calls Try.prog 4 #[.string s] w fun e w' => e = .returned (.bool true) ∧ Below w.heap.size w w' := by
  by_cases h1 : 20000 < s.size
  · have d1 : decide ((20000 : Int) < (s.size : Int)) = true := decide_eq_true (by omega)
    go_enter Try.func4, Try.ntmps4
    go_wp2_with fail
    go_ret
    exact ⟨rfl, Below.refl _ _⟩
  have d1 : decide ((20000 : Int) < (s.size : Int)) = false := decide_eq_false (by omega)
  have hs := split_any s
  have hrs := refSplit_any s
  have hp := parent_any s
  have hrp := refParent_any s
  have hg := (splitR_good s.data.toList).2
  generalize (splitR s.data.toList).1 = xs at *
  generalize (splitR s.data.toList).2 = n at *
  generalize parentR s.data.toList = pr at *
  obtain ⟨pa, pb, pn⟩ := pr
  have HS := Lib.hid hs; have HRS := Lib.hid hrs; have HP := Lib.hid hp; have HRP := Lib.hid hrp
  clear hs hrs hp hrp
  have d2 : (n != n) = false := by simp
  go_enter Try.func4, Try.ntmps4
  go_wp2_with (go_at_call 13; refine (HRS.out _).mono ?_; rintro e w1 ⟨v0, rfl, hrow0, hnil0, hb1⟩; have HN0 := Lib.hid (names_of_row hrow0); have HNil0 := Lib.hid hnil0; have HB1 := Lib.hid hb1; clear hrow0 hnil0 hb1)
  go_loopw [5] (fun i wr => ∃ t : Nat, t ≤ 2 ∧ i = .int .i64 t ∧ Below w1.heap.size w1 wr) (fun i _ => 2 - (intOf i).toNat)
  case atStart => exact ⟨0, by omega, rfl, Below.refl _ _⟩
  case round =>
    obtain ⟨t, ht, rfl, hbr⟩ := hrel
    have HBR := Lib.hid hbr
    clear hbr
    by_cases ht2 : t < 2
    · go_wp2_with fail
      refine (HS.out _).mono ?_
      rintro e w2 ⟨v, rfl, hrow, hnil, hb2⟩
      have HN := Lib.hid (names_of_row hrow)
      have HRow := Lib.hid hrow
      have HNil := Lib.hid hnil
      have HB2 := Lib.hid hb2
      clear hrow hnil hb2
      by_cases hx : xs = []
      · subst hx
        obtain rfl := HNil.out.2 rfl
        go_wp2_with (go_at_call 12; refine (same_any _ _ _ _ HN.out (names_below' (names_below' HN0.out HBR.out) HB2.out) (by simp)).mono ?_; rintro e w6 ⟨rfl, nd, rfl⟩)
        refine wp_loop_rounds 1 ?_
        rw [rounds_succ]
        go_wp2_with fail
        go_roundw
        case rel => exact ⟨t + 1, by omega, by go_num, below_drewN (HBR.out.trans (HB2.out.mono HBR.out.size)) _⟩
        case measure => simp [intOf]; omega
      · have hv : ∃ g cap, v = .slice (some ⟨g, 0, none⟩) xs.length cap := by
          rcases HRow.out.2 with ⟨rfl, hn⟩ | ⟨g, cap, cur, rfl, _⟩
          · exact absurd (HNil.out.1 rfl) hx
          · exact ⟨g, cap, rfl⟩
        obtain ⟨g, cap, rfl⟩ := hv
        have hgb := own_base HRow.out (k := g) rfl
        go_wp2_with (go_at_call 12; refine (same_any _ _ _ _ HN.out (names_below' (names_below' HN0.out HBR.out) HB2.out) (by omega)).mono ?_; rintro e w6 ⟨rfl, nd, rfl⟩)
        obtain ⟨wo, hwo⟩ : ∃ wo : World, wo = wr := ⟨_, rfl⟩
        rw [← hwo] at HBR HRow HB2 hgb
        clear hwo
        go_loopw [8] (fun i wq => ∃ (k : Nat) (ys : List Value), k ≤ xs.length ∧ i = .int .i64 k ∧ wq.ownsRow wo.heap.size 9 1 (.slice (some ⟨g, 0, none⟩) xs.length cap) xs.length ys ∧ Below wo.heap.size wo wq) (fun i _ => xs.length - (intOf i).toNat)
        case atStart => exact ⟨0, _, Nat.zero_le _, rfl, HRow.out, below_drewN HB2.out _⟩
        case round =>
          obtain ⟨k, ys, hk, rfl, hrow, hbq⟩ := hrel
          by_cases hlt : k < xs.length
          · have hlen : ys.length = xs.length := by have := hrow.1; omega
            obtain ⟨y, hcell⟩ : ∃ y, wr.cell? ⟨g, k, none⟩ = some y := ⟨ys[k]'(by omega), by
              rw [hrow.cellAt k (by omega), List.getElem?_eq_getElem (by omega)]⟩
            have hfz := hrow.frozenAt k
            have hst := hrow.stored k (.string ⟨#[115, 112, 111, 105, 108, 116]⟩)
            have HST := Lib.hid hst
            have HBQ := Lib.hid hbq
            clear hst hbq hrow hlen
            go_wp2_with fail
            go_roundw
            case rel => exact ⟨k + 1, _, by omega, by go_num, HST.out.1, HBQ.out.setCell (p := ⟨g, k, none⟩) hgb _⟩
            case measure => simp [intOf]; omega
          · have HBQ := Lib.hid hbq
            clear hbq hrow
            go_wp2_with fail
            go_roundw
            case rel => exact ⟨t + 1, by omega, by go_num, HBR.out.trans (HBQ.out.mono HBR.out.size)⟩
            case measure => simp [intOf]; omega
    · go_wp2_with (first
        | (go_at_call 15; refine (HP.out _).mono ?_; rintro e w2 ⟨rfl, hb2⟩; have HB2 := Lib.hid hb2; clear hb2)
        | (go_at_call 16; refine (HRP.out _).mono ?_; rintro e w3 ⟨rfl, hb3⟩; have HB3 := Lib.hid hb3; clear hb3))
      go_ret
      exact ⟨rfl, below_chain (below_chain (below_chain HB1.out HBR.out) HB2.out) HB3.out⟩

end Go.Proofs.Ytjpmekapkjkkbaa
