/- quernlaw29.NamesBelow returns true for every path and every name. -/
import Derived.Test.YtjpmekapkjkkbaaPar
namespace Go.Proofs.Ytjpmekapkjkkbaa
open Go.RowKit Go.Shelf

theorem names_lit1' (W : World) (s : ByteArray) : Names (W.alloc (.cells #[.string s] 9)) (.slice (some ⟨W.heap.size, 0, none⟩) 1 1) [s.data.toList] := by
  have := names_lit1 W s.data.toList
  rw [S, str_eta] at this
  exact this

/-- What the walk asks of the three calls. -/
def BelSplit (s : ByteArray) (l : List (List UInt8)) (n : Int) : Prop := ∀ W : World, Calls Try.prog 14 #[.string s] W (TellsNames W l n)
def BelJoin (s : ByteArray) (p : List UInt8) (n : Int) : Prop := ∀ W : World, Calls Try.prog 10 #[.slice (some ⟨W.heap.size, 0, none⟩) 1 1] (W.alloc (.cells #[.string s] 9)) (TellsPath (W.alloc (.cells #[.string s] 9)) p n)

set_option maxHeartbeats 4000000 in
set_option maxRecDepth 100000 in
theorem bel_long (s t : ByteArray) (w : World) (h : 5000 < s.size ∨ ¬ 5000 < s.size ∧ 5000 < t.size) : Calls Try.prog 8 #[.string s, .string t] w fun e w' => e = .returned (.bool true) ∧ Below w.heap.size w w' := by
  rcases h with h | ⟨h, h'⟩
  · have d1 : decide ((5000 : Int) < (s.size : Int)) = true := decide_eq_true (by omega)
    go_enter Try.func8, Try.ntmps8
    go_wp2_with (go_at_call 17; refine (awake_any _).mono ?_; rintro e w' ⟨rfl, hb⟩)
    go_ret
    exact ⟨rfl, hb⟩
  · have d1 : decide ((5000 : Int) < (s.size : Int)) = false := decide_eq_false (by omega)
    have d2 : decide ((5000 : Int) < (t.size : Int)) = true := decide_eq_true (by omega)
    go_enter Try.func8, Try.ntmps8
    go_wp2_with (go_at_call 17; refine (awake_any _).mono ?_; rintro e w' ⟨rfl, hb⟩)
    go_ret
    exact ⟨rfl, hb⟩

set_option maxHeartbeats 4000000 in
set_option maxRecDepth 100000 in
theorem bel_refused (s t : ByteArray) (w : World) (h1 : ¬ 5000 < s.size) (h2 : ¬ 5000 < t.size) (l : List (List UInt8)) (n m : Int) (p : List UInt8) (hs : BelSplit s l n) (hj : BelJoin t p m) (h : n ≠ 0 ∨ n = 0 ∧ m ≠ 0) :
    Calls Try.prog 8 #[.string s, .string t] w fun e w' => e = .returned (.bool true) ∧ Below w.heap.size w w' := by
  have d1 : decide ((5000 : Int) < (s.size : Int)) = false := decide_eq_false (by omega)
  have d2 : decide ((5000 : Int) < (t.size : Int)) = false := decide_eq_false (by omega)
  rcases h with h | ⟨rfl, h⟩
  all_goals
    have d3 := bne_iff_ne.2 h
    go_enter Try.func8, Try.ntmps8
    go_wp2_with (first
      | (go_at_call 17; refine (awake_any _).mono ?_; rintro e w' ⟨rfl, hb⟩; have HA := Lib.hid hb; clear hb)
      | (go_at_call 14; refine (hs _).mono ?_; rintro e w2 ⟨v, rfl, _, _, hb2⟩; have HB2 := Lib.hid hb2; clear hb2)
      | (go_at_call 10; refine (hj _).mono ?_; rintro e w3 ⟨rfl, hb3⟩))
    go_ret
    exact ⟨rfl, below_chain (below_chain HA.out HB2.out) (below_chain ((Below.refl _ _).alloc (Nat.le_refl _) _) hb3)⟩

set_option maxHeartbeats 4000000 in
set_option maxRecDepth 100000 in
theorem bel_root (s t : ByteArray) (w : World) (h1 : ¬ 5000 < s.size) (h2 : t.size ≤ 27) (p : List UInt8) (hs : BelSplit s [] 0) (hj : BelJoin t p 0) (hs2 : BelSplit (⟨#[47]⟩ ++ t) [t.data.toList] 0) :
    Calls Try.prog 8 #[.string s, .string t] w fun e w' => e = .returned (.bool true) ∧ Below w.heap.size w w' := by
  have d1 : decide ((5000 : Int) < (s.size : Int)) = false := decide_eq_false (by omega)
  have d2 : decide ((5000 : Int) < (t.size : Int)) = false := decide_eq_false (by omega)
  go_enter Try.func8, Try.ntmps8
  go_wp2_with (go_at_call 17; refine (awake_any _).mono ?_; rintro e w' ⟨rfl, hb⟩; have HA := Lib.hid hb; clear hb)
  refine (hs _).mono ?_
  rintro e w2 ⟨v, rfl, _, hv, hb2⟩
  obtain rfl := hv.2 rfl
  have HB2 := Lib.hid hb2
  clear hb2 hv
  go_wp2_with (go_at_call 10; refine (hj _).mono ?_; rintro e w3 ⟨rfl, hb3⟩; have HB3 := Lib.hid hb3; clear hb3)
  refine (hs2 _).mono ?_
  rintro e w4 ⟨v, rfl, hrow, _, hb4⟩
  obtain ⟨g', cap', rfl⟩ := ownsRow_succ (k := 0) hrow
  have hcap := row_cap hrow
  have hc0 : w4.cell? ⟨g', 0, none⟩ = some (.string t) := (hrow.cellAt 0 (by decide)).trans (by rw [List.map_cons]; exact congrArg (fun x => some (Value.string x)) (str_eta t))
  have HB4 := Lib.hid hb4
  clear hb4 hrow
  go_wp2_with fail
  refine wp_loop_rounds 1 ?_
  rw [rounds_succ]
  go_wp2_with fail
  go_ret
  exact ⟨rfl, below_chain (below_chain (below_chain HA.out HB2.out) (below_chain ((Below.refl _ _).alloc (Nat.le_refl _) _) HB3.out)) HB4.out⟩

theorem row_names {w : World} {base g cap : Nat} {xs : List (List UInt8)} (h : w.ownsRow base 9 1 (.slice (some ⟨g, 0, none⟩) xs.length cap) xs.length (xs.map S)) :
    base ≤ g ∧ g < w.heap.size ∧ xs.length ≤ cap ∧ ∀ i x, xs[i]? = some x → w.cell? ⟨g, i, none⟩ = some (S x) := by
  have hc := row_cap h
  have hg : base ≤ g ∧ g < w.heap.size := by
    rcases h.2 with ⟨h', _⟩ | ⟨g', cap', cur, h', hb, hg, _⟩
    · cases h'
    · cases h'
      exact ⟨hb, (Array.getElem?_eq_some_iff.1 hg).1⟩
  refine ⟨hg.1, hg.2, hc, fun i x hx => ?_⟩
  have hi : i < xs.length := (List.getElem?_eq_some_iff.1 hx).1
  rw [h.cellAt i (by omega), List.getElem?_map, hx]
  rfl

set_option maxHeartbeats 4000000 in
set_option maxRecDepth 100000 in
theorem bel_err (s t : ByteArray) (w : World) (h1 : ¬ 5000 < s.size) (h2 : t.size ≤ 27) (l : List (List UInt8)) (hl : l ≠ []) (hl16 : l.length ≤ 16) (p : List UInt8) (hs : BelSplit s l 0) (hj : BelJoin t p 0) (n : Int) (hs2 : BelSplit (s ++ ⟨#[47]⟩ ++ t) [] n)
    (h : 512 < s.size + 1 + t.size ∧ n = 3 ∨ ¬ 512 < s.size + 1 + t.size ∧ l.length = 16 ∧ n = 4) :
    Calls Try.prog 8 #[.string s, .string t] w fun e w' => e = .returned (.bool true) ∧ Below w.heap.size w w' := by
  have d1 : decide ((5000 : Int) < (s.size : Int)) = false := decide_eq_false (by omega)
  have d2 : decide ((5000 : Int) < (t.size : Int)) = false := decide_eq_false (by omega)
  have hl0 : 0 < l.length := List.length_pos_iff.2 hl
  have d3 : ((l.length : Int) == 0) = false := beq_eq_false_iff_ne.2 (by omega)
  obtain ⟨k, hk⟩ : ∃ k, l.length = k + 1 := ⟨l.length - 1, by omega⟩
  have HK := Lib.hid hk
  clear hl hk
  rcases h with ⟨h3, rfl⟩ | ⟨h3, h4, rfl⟩
  · have d4 : decide ((512 : Int) < (s.size : Int) + 1 + (t.size : Int)) = true := decide_eq_true (by omega)
    go_enter Try.func8, Try.ntmps8
    go_wp2_with (go_at_call 17; refine (awake_any _).mono ?_; rintro e w' ⟨rfl, hb⟩; have HA := Lib.hid hb; clear hb)
    refine (hs _).mono ?_
    rintro e w2 ⟨v, rfl, hrow, hv, hb2⟩
    obtain ⟨g', cap', rfl⟩ : ∃ g cap, v = .slice (some ⟨g, 0, none⟩) l.length cap := by rw [HK.out] at hrow ⊢; exact ownsRow_succ hrow
    have HB2 := Lib.hid hb2
    clear hb2 hv hrow
    go_wp2_with (go_at_call 10; refine (hj _).mono ?_; rintro e w3 ⟨rfl, hb3⟩; have HB3 := Lib.hid hb3; clear hb3)
    refine (hs2 _).mono ?_
    rintro e w4 ⟨v, rfl, hrow, hv, hb4⟩
    obtain rfl := hv.2 rfl
    clear hrow hv
    go_wp2_with fail
    go_ret
    exact ⟨rfl, below_chain (below_chain (below_chain HA.out HB2.out) (below_chain ((Below.refl _ _).alloc (Nat.le_refl _) _) HB3.out)) hb4⟩
  · have d4 : decide ((512 : Int) < (s.size : Int) + 1 + (t.size : Int)) = false := decide_eq_false (by omega)
    have d5 : ((l.length : Int) == 16) = true := beq_iff_eq.2 (by omega)
    have H4 := Lib.hid h4
    clear h4
    go_enter Try.func8, Try.ntmps8
    go_wp2_with (go_at_call 17; refine (awake_any _).mono ?_; rintro e w' ⟨rfl, hb⟩; have HA := Lib.hid hb; clear hb)
    refine (hs _).mono ?_
    rintro e w2 ⟨v, rfl, hrow, hv, hb2⟩
    obtain ⟨g', cap', rfl⟩ : ∃ g cap, v = .slice (some ⟨g, 0, none⟩) l.length cap := by rw [HK.out] at hrow ⊢; exact ownsRow_succ hrow
    have HB2 := Lib.hid hb2
    clear hb2 hv hrow
    go_wp2_with (go_at_call 10; refine (hj _).mono ?_; rintro e w3 ⟨rfl, hb3⟩; have HB3 := Lib.hid hb3; clear hb3)
    refine (hs2 _).mono ?_
    rintro e w4 ⟨v, rfl, hrow, hv, hb4⟩
    obtain rfl := hv.2 rfl
    clear hrow hv
    go_wp2_with fail
    go_ret
    exact ⟨rfl, below_chain (below_chain (below_chain HA.out HB2.out) (below_chain ((Below.refl _ _).alloc (Nat.le_refl _) _) HB3.out)) hb4⟩

end Go.Proofs.Ytjpmekapkjkkbaa
