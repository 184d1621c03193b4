/- quernlaw29.awake, the chapter's examples: it returns true. -/
import Derived.Test.YtjpmekapkjkkbaaParent
namespace Go.Proofs.Ytjpmekapkjkkbaa
open Go.RowKit Go.Shelf

theorem names_lit2 (W : World) (x y : List UInt8) : Names (W.alloc (.cells #[S x, S y] 9)) (.slice (some ⟨W.heap.size, 0, none⟩) 2 2) [x, y] := by
  refine .inr ⟨W.heap.size, 0, 2, rfl, Nat.le_refl _, by simp, fun i z hz => ?_⟩
  match i, hz with
  | 0, hz => cases hz; exact World.cell?_alloc_at _ _ _ 0 (by simp)
  | 1, hz => cases hz; exact World.cell?_alloc_at _ _ _ 1 (by simp)
  | i + 2, hz => simp at hz

theorem below_chain {w a b : World} (h : Below w.heap.size w a) (k : Below a.heap.size a b) : Below w.heap.size w b := h.trans (k.mono h.size)

set_option maxHeartbeats 4000000 in
set_option maxRecDepth 100000 in
theorem awake_any (w : World) : Calls Try.prog 17 #[] w fun e w' => e = .returned (.bool true) ∧ Below w.heap.size w w' := by
  have c1 : ∀ W, Calls Try.prog 14 #[.string ⟨#[47, 97, 47, 98, 46, 99]⟩] W (TellsNames W [[97], [98, 46, 99]] 0) := fun W => split_any ⟨#[47, 97, 47, 98, 46, 99]⟩ W
  have c2 : ∀ W, Calls Try.prog 14 #[.string ⟨#[47]⟩] W (TellsNames W [] 0) := fun W => split_any ⟨#[47]⟩ W
  have c3 : ∀ W, Calls Try.prog 14 #[.string ⟨#[47, 97, 47]⟩] W (TellsNames W [] 290) := fun W => split_any ⟨#[47, 97, 47]⟩ W
  have c4 : ∀ W v, Names W v [[97], [98]] → Calls Try.prog 10 #[v] W (TellsPath W [47, 97, 47, 98] 0) := fun W v h => join_any W v _ h (by decide) (by decide)
  have c5 : ∀ W, Calls Try.prog 15 #[.string ⟨#[47, 97]⟩] W (TellsTwo W [47] [97] 0) := fun W => parent_any ⟨#[47, 97]⟩ W
  have c6 : ∀ W, Calls Try.prog 15 #[.string ⟨#[47]⟩] W (TellsTwo W [] [] 290) := fun W => parent_any ⟨#[47]⟩ W
  have H1 := Lib.hid c1; have H2 := Lib.hid c2; have H3 := Lib.hid c3; have H4 := Lib.hid c4; have H5 := Lib.hid c5; have H6 := Lib.hid c6
  clear c1 c2 c3 c4 c5 c6
  go_enter Try.func17, Try.ntmps17
  go_wp2_with fail
  refine (H1.out _).mono ?_
  rintro e w1 ⟨v, rfl, hrow, _, hb1⟩
  obtain ⟨g', cap', rfl⟩ := ownsRow_succ (k := 1) hrow
  have hcap := row_cap hrow
  have hc1 : w1.cell? ⟨g', 1, none⟩ = some (S [98, 46, 99]) := hrow.cellAt 1 (by decide)
  have HC := Lib.hid hc1
  have HB1 := Lib.hid hb1
  clear hrow hc1 hb1
  go_wp2_with fail
  refine (H2.out _).mono ?_
  rintro e w2 ⟨v, rfl, _, hv, hb2⟩
  obtain rfl := hv.2 rfl
  have HB2 := Lib.hid hb2
  clear hb2 hv
  go_wp2_with fail
  refine (H3.out _).mono ?_
  rintro e w3 ⟨v, rfl, _, hv, hb3⟩
  obtain rfl := hv.2 rfl
  have HB3 := Lib.hid hb3
  clear hb3 hv
  go_wp2_with fail
  refine (H4.out _ _ (names_lit2 _ _ _)).mono ?_
  rintro e w4 ⟨rfl, hb4⟩
  have HB4 := Lib.hid hb4
  clear hb4
  go_wp2_with fail
  refine (H5.out _).mono ?_
  rintro e w5 ⟨rfl, hb5⟩
  have HB5 := Lib.hid hb5
  clear hb5
  go_wp2_with fail
  refine (H6.out _).mono ?_
  rintro e w6 ⟨rfl, hb6⟩
  have hb : Below w1.heap.size w1 w6 := below_chain (below_chain (below_chain (below_chain (below_chain HB2.out HB3.out) ((Below.refl _ _).alloc (Nat.le_refl _) _)) HB4.out) HB5.out) hb6
  have hc6 : w6.cell? ⟨g', 1, none⟩ = some (S [98, 46, 99]) := (hb.cell (p := ⟨g', 1, none⟩) (cell_lt HC.out)).trans HC.out
  have HB := Lib.hid hb
  clear hb hb6
  go_wp2_with fail
  go_ret
  exact ⟨rfl, below_chain HB1.out HB.out⟩

end Go.Proofs.Ytjpmekapkjkkbaa
