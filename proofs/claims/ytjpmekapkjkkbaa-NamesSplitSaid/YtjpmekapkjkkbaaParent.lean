/- names.Parent: what it tells of every path. -/
import Derived.Test.YtjpmekapkjkkbaaJoin
namespace Go.Proofs.Ytjpmekapkjkkbaa
open Go.RowKit Go.Shelf

/-- What is handed back: two strings and a number; what lay lies as it lay. -/
def TellsTwo (w : World) (p q : List UInt8) (n : Int) (e : Ending) (w' : World) : Prop :=
  e = .returned (.tuple #[S p, S q, .int .i64 n]) ∧ Below w.heap.size w w'

theorem names_of_row {w : World} {base : Nat} {v : Value} {xs : List (List UInt8)} (h : w.ownsRow base 9 1 v xs.length (xs.map S)) : Names w v xs := by
  rcases h.2 with ⟨rfl, hn⟩ | ⟨g, cap, cur, rfl, _, hg, hc, _, _, _⟩
  · exact .inl ⟨_, _, rfl, List.length_eq_zero_iff.1 hn⟩
  · refine .inr ⟨g, 0, cap, rfl, hc, (Array.getElem?_eq_some_iff.1 hg).1, fun i x hx => ?_⟩
    have hi : i < xs.length := (List.getElem?_eq_some_iff.1 hx).1
    rw [Nat.zero_add, h.cellAt i (by omega), List.getElem?_map, hx]
    rfl

theorem row_cap {w : World} {base g n cap : Nat} {e : TypeId} {xs : List Value} (h : w.ownsRow base e 1 (.slice (some ⟨g, 0, none⟩) n cap) n xs) : n ≤ cap := by
  rcases h.2 with ⟨h', _⟩ | ⟨g', cap', cur, h', _, _, hc, _⟩
  · cases h'
  · cases h'
    exact hc

theorem cell_lt {w : World} {b o : Nat} {v : Value} (h : w.cell? ⟨b, o, none⟩ = some v) : b < w.heap.size := by
  by_cases hb : b < w.heap.size
  · exact hb
  · simp [World.cell?, Array.getElem?_eq_none (by omega : w.heap.size ≤ b)] at h

/-- The first of a row's names. -/
theorem names_first {w : World} {base g cap : Nat} {ys : List (List UInt8)} {x : List UInt8} (h : w.ownsRow base 9 1 (.slice (some ⟨g, 0, none⟩) (ys.length + 1) cap) (ys.length + 1) ((ys ++ [x]).map S)) :
    Names w (.slice (some ⟨g, 0, none⟩) ys.length cap) ys ∧ w.cell? ⟨g, ys.length, none⟩ = some (S x) := by
  have hc := row_cap h
  have hg : g < w.heap.size := by
    rcases h.2 with ⟨h', _⟩ | ⟨g', cap', cur, h', _, hg, _⟩
    · cases h'
    · cases h'
      exact (Array.getElem?_eq_some_iff.1 hg).1
  refine ⟨.inr ⟨g, 0, cap, rfl, by omega, hg, fun i y hy => ?_⟩, ?_⟩
  · have hi : i < ys.length := (List.getElem?_eq_some_iff.1 hy).1
    rw [Nat.zero_add, h.cellAt i (by omega), List.getElem?_map, List.getElem?_append_left hi, hy]
    rfl
  · rw [h.cellAt ys.length (by omega), List.getElem?_map, List.getElem?_append_right (Nat.le_refl _), Nat.sub_self]
    rfl

set_option maxHeartbeats 4000000 in
set_option maxRecDepth 100000 in
theorem parent_any (path : ByteArray) (w : World) : Calls Try.prog 15 #[.string path] w (TellsTwo w (parentR path.data.toList).1 (parentR path.data.toList).2.1 (parentR path.data.toList).2.2) := by
  have hs := split_any path w
  have hg := splitR_good path.data.toList
  have hp : parentR path.data.toList = if (splitR path.data.toList).2 ≠ 0 then ([], [], (splitR path.data.toList).2)
    else match (splitR path.data.toList).1.getLast? with
      | none => ([], [], 290)
      | some x => if (joinR (splitR path.data.toList).1.dropLast).2 ≠ 0 then ([], [], (joinR (splitR path.data.toList).1.dropLast).2) else ((joinR (splitR path.data.toList).1.dropLast).1, x, 0) := rfl
  generalize parentR path.data.toList = r at *
  generalize (splitR path.data.toList).1 = l at *
  generalize (splitR path.data.toList).2 = n at *
  have HS := Lib.hid hs
  have HP := Lib.hid hp
  clear hs hp
  by_cases hn : n = 0
  · subst hn
    cases hl : l.getLast? with
    | none =>
      have hl0 : l = [] := List.getLast?_eq_none_iff.1 hl
      subst hl0
      go_enter Try.func15, Try.ntmps15
      go_wp2_with (go_at_call 14; refine HS.out.mono ?_; rintro e w' ⟨v, rfl, hrow, hnil, hb⟩; obtain rfl := hnil.2 rfl)
      go_ret3
      rw [HP.out]
      exact ⟨rfl, hb⟩
    | some x =>
      have hlx : l = l.dropLast ++ [x] := by
        obtain ⟨ys, rfl⟩ := List.getLast?_eq_some_iff.1 hl
        simp
      have hj : ∀ (w1 : World) (v : Value), Names w1 v l.dropLast → Calls Try.prog 10 #[v] w1 (TellsPath w1 (joinR l.dropLast).1 (joinR l.dropLast).2) := by
        intro w1 v hv
        refine join_any w1 v l.dropLast hv (by simp; omega) (fun y hy => ?_)
        have := all_short hg.1 y (List.dropLast_subset _ hy)
        omega
      have HJ := Lib.hid hj
      clear hj
      generalize l.dropLast = ys at *
      subst hlx
      have hlen : ys.length + 1 ≤ 16 := by have := hg.2; simp at this; omega
      generalize joinR ys = jr at *
      obtain ⟨d, f⟩ := jr
      by_cases hf : f = 0
      · have d2 : (f != 0) = false := by rw [hf]; rfl
        have d3 : ((ys.length : Int) + 1 == 0) = false := beq_eq_false_iff_ne.2 (by omega)
        have HF := Lib.hid hf
        clear hl hg hf
        go_enter Try.func15, Try.ntmps15
        go_wp2_with (first
          | (go_at_call 14; refine HS.out.mono ?_; rintro e w' ⟨v, rfl, hrow, hnil, hb⟩; rw [List.length_append, List.length_singleton] at hrow; obtain ⟨g', cap', rfl⟩ := ownsRow_succ hrow; have hcap := row_cap hrow; have HR := Lib.hid (names_first hrow); have HN := Lib.hid hb; clear hrow hnil hb)
          | (go_at_call 10; refine (HJ.out _ _ HR.out.1).mono ?_; rintro e w2 ⟨rfl, hb2⟩; have hcell := (hb2.cell (p := ⟨g', ys.length, none⟩) (cell_lt HR.out.2)).trans HR.out.2; have HB2 := Lib.hid hb2; clear hb2))
        go_quiet (fail)
        go_wp2_with fail
        go_ret3
        have h0 := HF.out
        subst h0
        rw [HP.out]
        simp only [List.getLast?_append, List.getLast?_singleton]
        exact ⟨rfl, below_drewN (HN.out.trans (HB2.out.mono HN.out.size)) _⟩
      · have d2 : (f != 0) = true := by rw [bne_iff_ne]; exact hf
        have d3 : ((ys.length : Int) + 1 == 0) = false := beq_eq_false_iff_ne.2 (by omega)
        clear hl hg
        go_enter Try.func15, Try.ntmps15
        go_wp2_with (first
          | (go_at_call 14; refine HS.out.mono ?_; rintro e w' ⟨v, rfl, hrow, hnil, hb⟩; rw [List.length_append, List.length_singleton] at hrow; obtain ⟨g', cap', rfl⟩ := ownsRow_succ hrow; have hcap := row_cap hrow; have HR := Lib.hid (names_first hrow); have HN := Lib.hid hb; clear hrow hnil hb)
          | (go_at_call 10; refine (HJ.out _ _ HR.out.1).mono ?_; rintro e w2 ⟨rfl, hb2⟩))
        go_ret3
        rw [HP.out]
        simp [hf]
        exact ⟨rfl, HN.out.trans (hb2.mono HN.out.size)⟩
  · have d1 : (n != 0) = true := by rw [bne_iff_ne]; exact hn
    go_enter Try.func15, Try.ntmps15
    go_wp2_with (go_at_call 14; refine HS.out.mono ?_; rintro e w' ⟨v, rfl, hrow, hnil, hb⟩)
    go_ret3
    rw [HP.out, if_pos hn]
    exact ⟨rfl, hb⟩

end Go.Proofs.Ytjpmekapkjkkbaa
