/- quernlaw29.NamesJoin returns true for every slice of strings. -/
import Derived.Test.YtjpmekapkjkkbaaArgs
import Derived.Laws.AppendOwnNone
namespace Go.Proofs.Ytjpmekapkjkkbaa
open Go.RowKit Go.Shelf

/-- The lengths together, each counted up to 20,001. -/
def minN : List (List UInt8) → Nat
  | [] => 0
  | x :: l => min x.length 20001 + minN l

theorem minN_append : ∀ a b, minN (a ++ b) = minN a + minN b
  | [], b => by simp [minN]
  | x :: a, b => by simp [minN, minN_append a b]; omega

theorem minN_take {l : List (List UInt8)} {k : Nat} {x : List UInt8} (h : l[k]? = some x) : minN (l.take (k + 1)) = minN (l.take k) + min x.length 20001 := by
  rw [List.take_add_one, h, minN_append]
  simp [minN]

theorem minN_le : ∀ l, minN l ≤ l.length * 20001
  | [] => by simp [minN]
  | x :: l => by have := minN_le l; simp [minN]; omega

theorem minN_small : ∀ l, minN l ≤ 20000 → joinN l = minN l + l.length
  | [], _ => rfl
  | x :: l, h => by
    simp [minN] at h
    have := minN_small l (by omega)
    simp [minN, joinN, this]
    omega

theorem names_below {w w' : World} {v : Value} {xs : List (List UInt8)} (h : Names w v xs) (hb : Below w.heap.size w w') : Names w' v xs := by
  rcases h with h | ⟨b, o, cap, rfl, h1, h2, h3⟩
  · exact .inl h
  · exact .inr ⟨b, o, cap, rfl, h1, Nat.lt_of_lt_of_le h2 hb.size, fun i x hx => (hb.cell (p := ⟨b, o + i, none⟩) h2).trans (h3 i x hx)⟩

theorem owns_void (w : World) : (w.alloc (.cells #[] 9)).ownsRow w.heap.size 9 1 (.slice (some ⟨w.heap.size, 0, none⟩) 0 0) 0 [] :=
  ⟨rfl, .inr ⟨w.heap.size, 0, #[], rfl, Nat.le_refl _, World.alloc_heap_new w _, Nat.le_refl _, Nat.zero_le _, rfl, rfl⟩⟩

set_option maxHeartbeats 4000000 in
set_option maxRecDepth 100000 in
theorem joinLaw_nil (w : World) : Calls Try.prog 3 #[.slice none 0 0] w fun e w' => e = .returned (.bool true) ∧ Below w.heap.size w w' := by
  go_enter Try.func3, Try.ntmps3
  go_wp2_with fail
  refine wp_loop_rounds 1 ?_
  rw [rounds_succ]
  go_wp2_with (first
    | (go_at_call 10; refine (join_void _ _ _).mono ?_; rintro e w2 ⟨rfl, hb2⟩; have HB2 := Lib.hid hb2; clear hb2)
    | (go_at_call 11; refine (refJoin_void _ _ _).mono ?_; rintro e w3 ⟨rfl, rfl⟩)
    | (go_at_call 12; refine (same_void _ _ _ _ _).mono ?_; rintro e w4 ⟨rfl, nd, rfl⟩))
  go_ret
  exact ⟨rfl, below_drewN (below_chain ((Below.refl _ _).alloc (Nat.le_refl _) _) HB2.out) _⟩

set_option maxHeartbeats 4000000 in
set_option maxRecDepth 100000 in
theorem joinLaw_empty (ad : Addr) (cap : Nat) (w : World) : Calls Try.prog 3 #[.slice (some ad) 0 cap] w fun e w' => e = .returned (.bool true) ∧ Below w.heap.size w w' := by
  obtain ⟨i0, hi, hz0, hz1, hz2⟩ := info_parts info9
  have HO := Lib.hid (owns_void w)
  go_enter Try.func3, Try.ntmps3
  go_wp2_with fail
  refine wp_loop_rounds 1 ?_
  rw [rounds_succ]
  go_wp2_with (first
    | (at_builtin; refine wpList_append_own _ rfl _ _ 22 rfl w.heap.size 9 i0 (.string ⟨#[]⟩) 1 16 Try.underlying22 hi hz0 hz1 hz2 rfl (by decide) _ _ _ rfl HO.out ad 0 cap [] rfl rfl (by simp) (by simp) (by simp) (by simp) (by simp) ?_; intro v' w1 hown' hgrow _; have HN := Lib.hid (names_of_row (xs := []) hown'); have HGr := Lib.hid hgrow; clear hown' hgrow)
    | (go_at_call 10; refine (join_any _ _ _ HN.out (by simp) (by simp)).mono ?_; rintro e w2 ⟨rfl, hb2⟩; have HB2 := Lib.hid hb2; clear hb2)
    | (go_at_call 11; refine (refJoin_void _ _ _).mono ?_; rintro e w3 ⟨rfl, rfl⟩)
    | (go_at_call 12; refine (same_any _ _ _ [] (names_below HN.out HB2.out) (.inl ⟨_, _, rfl, rfl⟩) (by simp)).mono ?_; rintro e w4 ⟨rfl, nd, rfl⟩))
  go_ret
  exact ⟨rfl, below_drewN (below_chain (((Below.refl _ _).alloc (Nat.le_refl _) _).grown HGr.out (by simp) (fun k e => by cases e; exact Nat.le_refl _)) HB2.out) _⟩

set_option maxHeartbeats 4000000 in
set_option maxRecDepth 100000 in
theorem joinLaw_some (b o cap : Nat) (xs : List (List UInt8)) (w : World) (hl : 0 < xs.length) (hcap : xs.length ≤ cap) (hm : xs.length ≤ 9223372036854775807) (hb : b < w.heap.size) (hc : ∀ i x, xs[i]? = some x → w.cell? ⟨b, o + i, none⟩ = some (S x)) :
    Calls Try.prog 3 #[.slice (some ⟨b, o, none⟩) xs.length cap] w fun e w' => e = .returned (.bool true) ∧ Below w.heap.size w w' := by
  obtain ⟨i0, hi, hz0, hz1, hz2⟩ := info_parts info9
  have HO := Lib.hid (owns_void w)
  have hnm : Names w (.slice (some ⟨b, o, none⟩) xs.length cap) xs := .inr ⟨b, o, cap, rfl, hcap, hb, hc⟩
  have HNM := Lib.hid hnm
  have HC := Lib.hid hc
  clear hc hnm
  go_enter Try.func3, Try.ntmps3
  go_wp2_with fail
  go_loop [3, 4] (fun n i => ∃ k : Nat, k ≤ xs.length ∧ k ≤ 1001 ∧ i = .int .i64 k ∧ n = .int .i64 (minN (xs.take k))) (fun _ i => 1001 - (intOf i).toNat)
  case atStart => exact ⟨0, Nat.zero_le _, Nat.zero_le _, rfl, rfl⟩
  case round =>
    obtain ⟨k, hk, hk1, rfl, rfl⟩ := hrel
    have hmin : minN (xs.take k) ≤ 30000000 := by
      have := minN_le (xs.take k)
      rw [List.length_take] at this
      omega
    by_cases hlt : k < xs.length
    · by_cases hle : k ≤ 1000
      · obtain ⟨x, hxk⟩ : ∃ x, xs[k]? = some x := ⟨_, List.getElem?_eq_getElem hlt⟩
        have hcell := HC.out k x hxk
        have hsum := minN_take hxk
        have hsz := S_size x
        have HS := Lib.hid hsum
        clear hsum hxk
        generalize minN (xs.take k) = n at *
        go_wp2_with fail
        go_round
        case rel => exact ⟨k + 1, by omega, by omega, by go_num, by rw [HS.out]; exact congrArg (Value.int .i64) (by omega)⟩
        case measure => simp [intOf]; omega
      · generalize minN (xs.take k) = n at *
        have hbig : 1000 < xs.length := by omega
        go_wp2_with fail
        go_ret
        exact ⟨rfl, Below.refl _ _⟩
    · obtain rfl : k = xs.length := by omega
      have e1 : xs.take xs.length = xs := List.take_length
      rw [e1] at hmin ⊢
      by_cases hbig : 1000 < xs.length
      · generalize minN xs = n at *
        go_wp2_with fail
        go_ret
        exact ⟨rfl, Below.refl _ _⟩
      by_cases hsum : 20000 < minN xs
      · generalize minN xs = n at *
        go_wp2_with fail
        go_ret
        exact ⟨rfl, Below.refl _ _⟩
      have hj := minN_small xs (by omega)
      have hJN : joinN xs ≤ 1000000 := by omega
      have HJN := Lib.hid hJN
      clear hj hJN e1
      obtain ⟨n, hn⟩ : ∃ n, minN xs = n := ⟨_, rfl⟩
      rw [hn] at hmin hsum ⊢
      clear hn
      have hcells : ∀ j u, (xs.map S)[j]? = some u → (w.alloc (.cells #[] 9)).cell? ((⟨b, o, none⟩ : Addr).add j) = some u := by
        intro j u hu
        rw [List.getElem?_map] at hu
        cases h : xs[j]? with
        | none => rw [h] at hu; cases hu
        | some y =>
          rw [h] at hu
          cases hu
          rw [Go.WideShapes.add_plain]
          exact (((Below.refl w.heap.size w).alloc (Nat.le_refl _) _).cell (p := ⟨b, o + j, none⟩) hb).trans (HC.out j y h)
      have HCE := Lib.hid hcells
      clear hcells
      have hone : ∀ u ∈ xs.map S, u.oneCell' = true := by
        intro u hu
        obtain ⟨x, _, rfl⟩ := List.mem_map.1 hu
        rfl
      have HON := Lib.hid hone
      clear hone
      go_wp2_with (first
        | (at_builtin; refine wpList_append_own _ rfl _ _ 22 rfl w.heap.size 9 i0 (.string ⟨#[]⟩) 1 16 Try.underlying22 hi hz0 hz1 hz2 rfl (by decide) _ _ _ rfl HO.out ⟨b, o, none⟩ xs.length cap (xs.map S) rfl (by simp) HCE.out HON.out (by unfold maxLen; omega) (by omega) (by simp) ?_; intro v' w1 hown' hgrow _; have HN := Lib.hid (names_of_row (xs := xs) (by simpa using hown')); have HGr := Lib.hid (((Below.refl w.heap.size w).alloc (Nat.le_refl _) _).grown hgrow (by simp) (fun k e => by cases e; exact Nat.le_refl _)); clear hown' hgrow)
        | (go_at_call 10; refine (join_any _ _ _ HN.out (by omega) (fun x hx => by have := joinN_mem hx; have := HJN.out; omega)).mono ?_; rintro e w2 ⟨rfl, hb2⟩; have HB2 := Lib.hid hb2; clear hb2)
        | (go_at_call 11; refine (refJoin_any _ _ _ (names_below HNM.out (below_chain HGr.out HB2.out)) HJN.out).mono ?_; rintro e w3 ⟨rfl, rfl⟩)
        | (go_at_call 12; refine (same_any _ _ _ _ (names_below HN.out HB2.out) (names_below HNM.out (below_chain HGr.out HB2.out)) (by omega)).mono ?_; rintro e w4 ⟨rfl, nd, rfl⟩))
      go_ret
      exact ⟨rfl, below_drewN (below_chain HGr.out HB2.out) _⟩

theorem joinLaw_walk (a : Option Addr) (len cap : Nat) (zs : List ByteArray) (w : World) (h : IsStrs w a len cap zs) : Calls Try.prog 3 #[.slice a len cap] w fun e w' => e = .returned (.bool true) ∧ Below w.heap.size w w' := by
  obtain ⟨h1, h2, h3, h4, h5⟩ := isStrs_names h
  by_cases h0 : len = 0
  · subst h0
    cases a with
    | none => obtain ⟨_, rfl⟩ := h4 rfl; exact joinLaw_nil w
    | some ad => exact joinLaw_empty ad cap w
  · obtain ⟨b, o, rfl, hb, hc⟩ := h5 h0
    have hcap : len ≤ cap := by
      rcases h with ⟨h', _⟩ | ⟨_, _, hl, _⟩
      · cases h'
      · exact hl
    generalize namesOf zs len = xs at *
    subst h1
    unfold maxLen at h2
    exact joinLaw_some b o cap xs w (by omega) hcap h2 hb hc

end Go.Proofs.Ytjpmekapkjkkbaa
