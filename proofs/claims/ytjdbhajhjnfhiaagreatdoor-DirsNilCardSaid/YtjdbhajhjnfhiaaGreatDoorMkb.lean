/- mkfs.bitmap, on the evaluator's level. -/
import Derived.Test.YtjdbhajhjnfhiaaGreatDoorBits
import Derived.Test.YtjdbhajhjnfhiaaGreatDoorEvC
set_option linter.unusedSimpArgs false
set_option linter.unusedVariables false
set_option linter.unusedSectionVars false
set_option maxRecDepth 100000
namespace Go.Proofs.YtjdbhajhjnfhiaaGreatDoor
open Go.Ev
noncomputable def q89 (p : List Nat) : Code := piece p (bodyOf Tryz.f89)
theorem q89_ : q89 [] = .seq (q89 [0]) (q89 [1]) := by kernel_rfl
theorem q89_0 : q89 [0] = .region 0 (opsA (q89 [0])) false := by kernel_rfl
theorem q89_1 : q89 [1] = .seq (q89 [1, 0]) (q89 [1, 1]) := by kernel_rfl
theorem q89_10 : q89 [1, 0] = .region 1 (opsA (q89 [1, 0])) false := by kernel_rfl
theorem q89_11 : q89 [1, 1] = .seq (q89 [1, 1, 0]) (q89 [1, 1, 1]) := by kernel_rfl
theorem q89_110 : q89 [1, 1, 0] = .seq (q89 [1, 1, 0, 0]) (q89 [1, 1, 0, 1]) := by kernel_rfl
theorem q89_1100 : q89 [1, 1, 0, 0] = .region 2 (opsA (q89 [1, 1, 0, 0])) false := by kernel_rfl
theorem q89_1101 : q89 [1, 1, 0, 1] = .block 0 (q89 [1, 1, 0, 1, 2]) := by kernel_rfl
theorem q89_11012 : q89 [1, 1, 0, 1, 2] = .loop (q89 [1, 1, 0, 1, 2, 2]) := by kernel_rfl
theorem q89_110122 : q89 [1, 1, 0, 1, 2, 2] = .seq (q89 [1, 1, 0, 1, 2, 2, 0]) (q89 [1, 1, 0, 1, 2, 2, 1]) := by kernel_rfl
theorem q89_1101220 : q89 [1, 1, 0, 1, 2, 2, 0] = .region 3 (opsA (q89 [1, 1, 0, 1, 2, 2, 0])) false := by kernel_rfl
theorem q89_1101221 : q89 [1, 1, 0, 1, 2, 2, 1] = .seq (q89 [1, 1, 0, 1, 2, 2, 1, 0]) (q89 [1, 1, 0, 1, 2, 2, 1, 1]) := by kernel_rfl
theorem q89_11012210 : q89 [1, 1, 0, 1, 2, 2, 1, 0] = .cond (.tmp 10) (q89 [1, 1, 0, 1, 2, 2, 1, 0, 3]) (q89 [1, 1, 0, 1, 2, 2, 1, 0, 4]) := by kernel_rfl
theorem q89_110122103 : q89 [1, 1, 0, 1, 2, 2, 1, 0, 3] = .skip := by kernel_rfl
theorem q89_110122104 : q89 [1, 1, 0, 1, 2, 2, 1, 0, 4] = .exit 0 := by kernel_rfl
theorem q89_11012211 : q89 [1, 1, 0, 1, 2, 2, 1, 1] = .seq (q89 [1, 1, 0, 1, 2, 2, 1, 1, 0]) (q89 [1, 1, 0, 1, 2, 2, 1, 1, 1]) := by kernel_rfl
theorem q89_110122110 : q89 [1, 1, 0, 1, 2, 2, 1, 1, 0] = .block 1 (q89 [1, 1, 0, 1, 2, 2, 1, 1, 0, 2]) := by kernel_rfl
theorem q89_1101221102 : q89 [1, 1, 0, 1, 2, 2, 1, 1, 0, 2] = .seq (q89 [1, 1, 0, 1, 2, 2, 1, 1, 0, 2, 0]) (q89 [1, 1, 0, 1, 2, 2, 1, 1, 0, 2, 1]) := by kernel_rfl
theorem q89_11012211020 : q89 [1, 1, 0, 1, 2, 2, 1, 1, 0, 2, 0] = .region 4 (opsA (q89 [1, 1, 0, 1, 2, 2, 1, 1, 0, 2, 0])) false := by kernel_rfl
theorem q89_11012211021 : q89 [1, 1, 0, 1, 2, 2, 1, 1, 0, 2, 1] = .region 5 (opsA (q89 [1, 1, 0, 1, 2, 2, 1, 1, 0, 2, 1])) false := by kernel_rfl
theorem q89_110122111 : q89 [1, 1, 0, 1, 2, 2, 1, 1, 1] = .region 6 (opsA (q89 [1, 1, 0, 1, 2, 2, 1, 1, 1])) false := by kernel_rfl
theorem q89_111 : q89 [1, 1, 1] = .seq (q89 [1, 1, 1, 0]) (q89 [1, 1, 1, 1]) := by kernel_rfl
theorem q89_1110 : q89 [1, 1, 1, 0] = .seq (q89 [1, 1, 1, 0, 0]) (q89 [1, 1, 1, 0, 1]) := by kernel_rfl
theorem q89_11100 : q89 [1, 1, 1, 0, 0] = .region 7 (opsA (q89 [1, 1, 1, 0, 0])) false := by kernel_rfl
theorem q89_11101 : q89 [1, 1, 1, 0, 1] = .block 2 (q89 [1, 1, 1, 0, 1, 2]) := by kernel_rfl
theorem q89_111012 : q89 [1, 1, 1, 0, 1, 2] = .loop (q89 [1, 1, 1, 0, 1, 2, 2]) := by kernel_rfl
theorem q89_1110122 : q89 [1, 1, 1, 0, 1, 2, 2] = .seq (q89 [1, 1, 1, 0, 1, 2, 2, 0]) (q89 [1, 1, 1, 0, 1, 2, 2, 1]) := by kernel_rfl
theorem q89_11101220 : q89 [1, 1, 1, 0, 1, 2, 2, 0] = .seq (q89 [1, 1, 1, 0, 1, 2, 2, 0, 0]) (q89 [1, 1, 1, 0, 1, 2, 2, 0, 1]) := by kernel_rfl
theorem q89_111012200 : q89 [1, 1, 1, 0, 1, 2, 2, 0, 0] = .region 8 (opsA (q89 [1, 1, 1, 0, 1, 2, 2, 0, 0])) false := by kernel_rfl
theorem q89_111012201 : q89 [1, 1, 1, 0, 1, 2, 2, 0, 1] = .cond (.tmp 17) (q89 [1, 1, 1, 0, 1, 2, 2, 0, 1, 3]) (q89 [1, 1, 1, 0, 1, 2, 2, 0, 1, 4]) := by kernel_rfl
theorem q89_1110122013 : q89 [1, 1, 1, 0, 1, 2, 2, 0, 1, 3] = .skip := by kernel_rfl
theorem q89_1110122014 : q89 [1, 1, 1, 0, 1, 2, 2, 0, 1, 4] = .exit 2 := by kernel_rfl
theorem q89_11101221 : q89 [1, 1, 1, 0, 1, 2, 2, 1] = .seq (q89 [1, 1, 1, 0, 1, 2, 2, 1, 0]) (q89 [1, 1, 1, 0, 1, 2, 2, 1, 1]) := by kernel_rfl
theorem q89_111012210 : q89 [1, 1, 1, 0, 1, 2, 2, 1, 0] = .block 3 (q89 [1, 1, 1, 0, 1, 2, 2, 1, 0, 2]) := by kernel_rfl
theorem q89_1110122102 : q89 [1, 1, 1, 0, 1, 2, 2, 1, 0, 2] = .region 10 (opsA (q89 [1, 1, 1, 0, 1, 2, 2, 1, 0, 2])) false := by kernel_rfl
theorem q89_111012211 : q89 [1, 1, 1, 0, 1, 2, 2, 1, 1] = .region 9 (opsA (q89 [1, 1, 1, 0, 1, 2, 2, 1, 1])) false := by kernel_rfl
theorem q89_1111 : q89 [1, 1, 1, 1] = .seq (q89 [1, 1, 1, 1, 0]) (q89 [1, 1, 1, 1, 1]) := by kernel_rfl
theorem q89_11110 : q89 [1, 1, 1, 1, 0] = .region 11 (opsA (q89 [1, 1, 1, 1, 0])) false := by kernel_rfl
theorem q89_11111 : q89 [1, 1, 1, 1, 1] = .ret := by kernel_rfl
theorem rs89 : Tryz.f89.results.toList = [.cell 4 75] := rfl
attribute [go_sem] rs89

def lowB (i : Nat) : Nat → Bool := fun j => decide (j < i)
def midB (u s i : Nat) : Nat → Bool := fun j => decide (j < u) || (decide (s ≤ j) && decide (j < i))
theorem lowB_upd (i : Nat) : updB (lowB i) i = lowB (i + 1) := by
  funext j
  unfold updB lowB
  rw [← Bool.decide_or, decide_eq_decide]
  omega
theorem midB_upd (u s i : Nat) (h : s ≤ i) : updB (midB u s i) i = midB u s (i + 1) := by
  funext j
  unfold updB midB
  rw [← Bool.decide_and, ← Bool.decide_and, ← Bool.decide_or, ← Bool.decide_or, ← Bool.decide_or, decide_eq_decide]
  omega
theorem midB_start (u s : Nat) : midB u s s = lowB u := by
  funext j
  unfold midB lowB
  rw [← Bool.decide_and, ← Bool.decide_or, decide_eq_decide]
  omega
theorem lowB_zero : List.replicate 256 (C.int .u8 0) = packB (lowB 0) := by kernel_rfl
def bmB (u s : Nat) : List C := packB (midB u s 2048)

section
variable (Hh : Hearts K Tryz.prog)
include Hh
theorem bm1 (p u : Nat) (hu : u ≤ 2048) : ∀ (k i : Nat) (ts : Tmps) (h : Go.Ev.H), i + k = u → h.get p = some (.row 256 [packB (lowB i)] false) → evalT ts 5 = .w (.c (.ptr p 0)) → evalT ts 8 = .w (.c (.int .i64 u)) → evalT ts 9 = .w (.c (.int .i64 i)) →
    Goes K Tryz.prog 23 none (q89 [1, 1, 0, 1, 2]) [] ts h fun x ds' ts' h' => x = .exit 0 ∧ ds' = [] ∧ h'.next = h.next ∧ h'.get p = some (.row 256 [packB (lowB u)] false) ∧ (∀ m, m ≠ p → h'.get m = h.get m) ∧ ∀ s, s ≤ 5 → evalT ts' s = evalT ts s := by
  intro k
  induction k with
  | zero =>
    intro i ts h hi hp h5 h8 h9
    obtain rfl : i = u := by omega
    show Goes K Tryz.prog 23 none (q89 [1, 1, 0, 1, 2]) _ _ _ _
    rw [q89_11012]
    refine Goes.loop ?_
    show Goes K Tryz.prog 23 none (q89 [1, 1, 0, 1, 2, 2]) _ _ _ _
    rw [q89_110122]
    refine Goes.seq ?_
    show Goes K Tryz.prog 23 none (q89 [1, 1, 0, 1, 2, 2, 0]) _ _ _ _
    rw [q89_1101220]
    refine Goes.ops2 fits Hh E0_sound (by
      simp (config := { maxSteps := 1000000 }) (decide := true) (discharger := first | omega | (simp only [H.next_new, H.next_put] <;> omega) | decide) only [go_sem, q89, Tryz.f89, readRow, fillStruct, fillPart, partOf, opField, binG, List.set_cons_zero, List.set_cons_succ, List.take_succ_cons, List.drop_succ_cons, List.take_zero, List.drop_zero, List.take_nil, List.drop_nil, List.cons_append, List.singleton_append, loadIn, storeIn, reduceIte, Nat.reduceAdd, Nat.reduceMul, Nat.reduceSub, Nat.reduceDiv, Nat.reduceMod, Nat.reduceLT, Nat.reduceBEq, Int.reduceToNat, h8, h9]
      rfl) ?_
    show Goes K Tryz.prog 23 none (q89 [1, 1, 0, 1, 2, 2, 1]) _ _ _ _
    rw [q89_1101221]
    refine Goes.seq ?_
    show Goes K Tryz.prog 23 none (q89 [1, 1, 0, 1, 2, 2, 1, 0]) _ _ _ _
    rw [q89_11012210]
    refine Goes.condE (by simp (config := { maxSteps := 1000000 }) (decide := true) (discharger := first | omega | (simp only [H.next_new, H.next_put] <;> omega) | decide) only [go_sem, readRow, fillStruct, fillPart, partOf, opField, binG, List.set_cons_zero, List.set_cons_succ, List.take_succ_cons, List.drop_succ_cons, List.take_zero, List.drop_zero, List.take_nil, List.drop_nil, List.cons_append, List.singleton_append, loadIn, storeIn, reduceIte, Nat.reduceAdd, Nat.reduceMul, Nat.reduceSub, Nat.reduceDiv, Nat.reduceMod, Nat.reduceLT, Nat.reduceBEq, Int.reduceToNat, h8, h9] <;> rfl) (by first | rfl | assumption | exact decide_eq_false (by omega) | (simp; omega)) ?_
    show Goes K Tryz.prog 23 none (q89 [1, 1, 0, 1, 2, 2, 1, 0, 4]) _ _ _ _
    rw [q89_110122104]
    refine Goes.exit ?_
    refine ⟨rfl, rfl, rfl, hp, fun _ _ => rfl, fun s hs => ?_⟩
    simp (decide := true) only [evalT_low hs]
  | succ k ih =>
    intro i ts h hi hp h5 h8 h9
    have c1 := setOk Hh h p i (lowB i) (by omega) (by simp [lowB]) hp
    rw [lowB_upd] at c1
    show Goes K Tryz.prog 23 none (q89 [1, 1, 0, 1, 2]) _ _ _ _
    rw [q89_11012]
    refine Goes.loop ?_
    show Goes K Tryz.prog 23 none (q89 [1, 1, 0, 1, 2, 2]) _ _ _ _
    rw [q89_110122]
    refine Goes.seq ?_
    show Goes K Tryz.prog 23 none (q89 [1, 1, 0, 1, 2, 2, 0]) _ _ _ _
    rw [q89_1101220]
    refine Goes.ops2 fits Hh E0_sound (by
      simp (config := { maxSteps := 1000000 }) (decide := true) (discharger := first | omega | (simp only [H.next_new, H.next_put] <;> omega) | decide) only [go_sem, q89, Tryz.f89, readRow, fillStruct, fillPart, partOf, opField, binG, List.set_cons_zero, List.set_cons_succ, List.take_succ_cons, List.drop_succ_cons, List.take_zero, List.drop_zero, List.take_nil, List.drop_nil, List.cons_append, List.singleton_append, loadIn, storeIn, reduceIte, Nat.reduceAdd, Nat.reduceMul, Nat.reduceSub, Nat.reduceDiv, Nat.reduceMod, Nat.reduceLT, Nat.reduceBEq, Int.reduceToNat, h5, h8, h9]
      rfl) ?_
    show Goes K Tryz.prog 23 none (q89 [1, 1, 0, 1, 2, 2, 1]) _ _ _ _
    rw [q89_1101221]
    refine Goes.seq ?_
    show Goes K Tryz.prog 23 none (q89 [1, 1, 0, 1, 2, 2, 1, 0]) _ _ _ _
    rw [q89_11012210]
    refine Goes.condA (by simp (config := { maxSteps := 1000000 }) (decide := true) (discharger := first | omega | (simp only [H.next_new, H.next_put] <;> omega) | decide) only [go_sem, readRow, fillStruct, fillPart, partOf, opField, binG, List.set_cons_zero, List.set_cons_succ, List.take_succ_cons, List.drop_succ_cons, List.take_zero, List.drop_zero, List.take_nil, List.drop_nil, List.cons_append, List.singleton_append, loadIn, storeIn, reduceIte, Nat.reduceAdd, Nat.reduceMul, Nat.reduceSub, Nat.reduceDiv, Nat.reduceMod, Nat.reduceLT, Nat.reduceBEq, Int.reduceToNat, h5, h8, h9] <;> rfl) (by first | rfl | assumption | exact decide_eq_true (by omega) | (simp; omega)) ?_
    show Goes K Tryz.prog 23 none (q89 [1, 1, 0, 1, 2, 2, 1, 0, 3]) _ _ _ _
    rw [q89_110122103]
    refine Goes.skip ?_
    show Goes K Tryz.prog 23 none (q89 [1, 1, 0, 1, 2, 2, 1, 1]) _ _ _ _
    rw [q89_11012211]
    refine Goes.seq ?_
    show Goes K Tryz.prog 23 none (q89 [1, 1, 0, 1, 2, 2, 1, 1, 0]) _ _ _ _
    rw [q89_110122110]
    refine Goes.block ?_
    show Goes K Tryz.prog 23 none (q89 [1, 1, 0, 1, 2, 2, 1, 1, 0, 2]) _ _ _ _
    rw [q89_1101221102]
    refine Goes.seq ?_
    show Goes K Tryz.prog 23 none (q89 [1, 1, 0, 1, 2, 2, 1, 1, 0, 2, 0]) _ _ _ _
    rw [q89_11012211020]
    refine Goes.ops2 fits Hh E0_sound (by
      simp (config := { maxSteps := 1000000 }) (decide := true) (discharger := first | omega | (simp only [H.next_new, H.next_put] <;> omega) | decide) only [go_sem, q89, Tryz.f89, readRow, fillStruct, fillPart, partOf, opField, binG, List.set_cons_zero, List.set_cons_succ, List.take_succ_cons, List.drop_succ_cons, List.take_zero, List.drop_zero, List.take_nil, List.drop_nil, List.cons_append, List.singleton_append, loadIn, storeIn, reduceIte, Nat.reduceAdd, Nat.reduceMul, Nat.reduceSub, Nat.reduceDiv, Nat.reduceMod, Nat.reduceLT, Nat.reduceBEq, Int.reduceToNat, h5, h8, h9]
      rfl) ?_
    show Goes K Tryz.prog 23 none (q89 [1, 1, 0, 1, 2, 2, 1, 1, 0, 2, 1]) _ _ _ _
    rw [q89_11012211021]
    refine Goes.ops2 fits Hh (E1_sound E0_sound c1) (by
      simp (config := { maxSteps := 1000000 }) (decide := true) (discharger := first | omega | (simp only [H.next_new, H.next_put] <;> omega) | decide) only [go_sem, q89, Tryz.f89, readRow, fillStruct, fillPart, partOf, opField, binG, List.set_cons_zero, List.set_cons_succ, List.take_succ_cons, List.drop_succ_cons, List.take_zero, List.drop_zero, List.take_nil, List.drop_nil, List.cons_append, List.singleton_append, loadIn, storeIn, reduceIte, Nat.reduceAdd, Nat.reduceMul, Nat.reduceSub, Nat.reduceDiv, Nat.reduceMod, Nat.reduceLT, Nat.reduceBEq, Int.reduceToNat, E1_call, h5, h8, h9]
      rfl) ?_
    show Goes K Tryz.prog 23 none (q89 [1, 1, 0, 1, 2, 2, 1, 1, 1]) _ _ _ _
    rw [q89_110122111]
    refine Goes.ops2 fits Hh E0_sound (by
      simp (config := { maxSteps := 1000000 }) (decide := true) (discharger := first | omega | (simp only [H.next_new, H.next_put] <;> omega) | decide) only [go_sem, q89, Tryz.f89, readRow, fillStruct, fillPart, partOf, opField, binG, List.set_cons_zero, List.set_cons_succ, List.take_succ_cons, List.drop_succ_cons, List.take_zero, List.drop_zero, List.take_nil, List.drop_nil, List.cons_append, List.singleton_append, loadIn, storeIn, reduceIte, Nat.reduceAdd, Nat.reduceMul, Nat.reduceSub, Nat.reduceDiv, Nat.reduceMod, Nat.reduceLT, Nat.reduceBEq, Int.reduceToNat, h5, h8, h9]
      rfl) ?_
    show Goes K Tryz.prog 23 none (.loop (q89 [1, 1, 0, 1, 2, 2])) _ _ _ _
    rw [← q89_11012]
    refine (ih (i + 1) _ _ (by omega) (get_put_self ..) ?_ ?_ ?_).mono ?_
    · simp (decide := true) only [evalT_set, reduceIte, h5]
    · simp (decide := true) only [evalT_set, reduceIte, h8]
    · simp (decide := true) only [evalT_set, reduceIte] <;> rfl
    · rintro x ds' ts' h' ⟨e1, e2, e3, e4, e5, e6⟩
      refine ⟨e1, e2, e3, e4, fun m hm => (e5 m hm).trans (get_put_ne hm), fun s hs => (e6 s hs).trans ?_⟩
      simp (decide := true) only [evalT_low hs]
theorem bm2 (p u z : Nat) (hz : z ≤ 2048) (huz : u ≤ z) : ∀ (k i : Nat) (ts : Tmps) (h : Go.Ev.H), i + k = 2048 → z ≤ i → h.get p = some (.row 256 [packB (midB u z i)] false) → evalT ts 5 = .w (.c (.ptr p 0)) → evalT ts 7 = .w (.c (.int .i64 i)) →
    Goes K Tryz.prog 23 none (q89 [1, 1, 1, 0, 1, 2]) [] ts h fun x ds' ts' h' => x = .exit 2 ∧ ds' = [] ∧ h'.next = h.next ∧ h'.get p = some (.row 256 [packB (midB u z 2048)] false) ∧ (∀ m, m ≠ p → h'.get m = h.get m) ∧ ∀ s, s ≤ 5 → evalT ts' s = evalT ts s := by
  intro k
  induction k with
  | zero =>
    intro i ts h hi hzi hp h5 h7
    obtain rfl : i = 2048 := by omega
    show Goes K Tryz.prog 23 none (q89 [1, 1, 1, 0, 1, 2]) _ _ _ _
    rw [q89_111012]
    refine Goes.loop ?_
    show Goes K Tryz.prog 23 none (q89 [1, 1, 1, 0, 1, 2, 2]) _ _ _ _
    rw [q89_1110122]
    refine Goes.seq ?_
    show Goes K Tryz.prog 23 none (q89 [1, 1, 1, 0, 1, 2, 2, 0]) _ _ _ _
    rw [q89_11101220]
    refine Goes.seq ?_
    show Goes K Tryz.prog 23 none (q89 [1, 1, 1, 0, 1, 2, 2, 0, 0]) _ _ _ _
    rw [q89_111012200]
    refine Goes.ops2 fits Hh E0_sound (by
      simp (config := { maxSteps := 1000000 }) (decide := true) (discharger := first | omega | (simp only [H.next_new, H.next_put] <;> omega) | decide) only [go_sem, q89, Tryz.f89, readRow, fillStruct, fillPart, partOf, opField, binG, List.set_cons_zero, List.set_cons_succ, List.take_succ_cons, List.drop_succ_cons, List.take_zero, List.drop_zero, List.take_nil, List.drop_nil, List.cons_append, List.singleton_append, loadIn, storeIn, reduceIte, Nat.reduceAdd, Nat.reduceMul, Nat.reduceSub, Nat.reduceDiv, Nat.reduceMod, Nat.reduceLT, Nat.reduceBEq, Int.reduceToNat, h7]
      rfl) ?_
    show Goes K Tryz.prog 23 none (q89 [1, 1, 1, 0, 1, 2, 2, 0, 1]) _ _ _ _
    rw [q89_111012201]
    refine Goes.condE (by simp (config := { maxSteps := 1000000 }) (decide := true) (discharger := first | omega | (simp only [H.next_new, H.next_put] <;> omega) | decide) only [go_sem, readRow, fillStruct, fillPart, partOf, opField, binG, List.set_cons_zero, List.set_cons_succ, List.take_succ_cons, List.drop_succ_cons, List.take_zero, List.drop_zero, List.take_nil, List.drop_nil, List.cons_append, List.singleton_append, loadIn, storeIn, reduceIte, Nat.reduceAdd, Nat.reduceMul, Nat.reduceSub, Nat.reduceDiv, Nat.reduceMod, Nat.reduceLT, Nat.reduceBEq, Int.reduceToNat, h7] <;> rfl) (by first | rfl | assumption | exact decide_eq_false (by omega) | (simp; omega)) ?_
    show Goes K Tryz.prog 23 none (q89 [1, 1, 1, 0, 1, 2, 2, 0, 1, 4]) _ _ _ _
    rw [q89_1110122014]
    refine Goes.exit ?_
    refine ⟨rfl, rfl, rfl, hp, fun _ _ => rfl, fun s hs => ?_⟩
    simp (decide := true) only [evalT_low hs]
  | succ k ih =>
    intro i ts h hi hzi hp h5 h7
    have c1 := setOk Hh h p i (midB u z i) (by omega) (by simp [midB]; omega) hp
    rw [midB_upd _ _ _ hzi] at c1
    show Goes K Tryz.prog 23 none (q89 [1, 1, 1, 0, 1, 2]) _ _ _ _
    rw [q89_111012]
    refine Goes.loop ?_
    show Goes K Tryz.prog 23 none (q89 [1, 1, 1, 0, 1, 2, 2]) _ _ _ _
    rw [q89_1110122]
    refine Goes.seq ?_
    show Goes K Tryz.prog 23 none (q89 [1, 1, 1, 0, 1, 2, 2, 0]) _ _ _ _
    rw [q89_11101220]
    refine Goes.seq ?_
    show Goes K Tryz.prog 23 none (q89 [1, 1, 1, 0, 1, 2, 2, 0, 0]) _ _ _ _
    rw [q89_111012200]
    refine Goes.ops2 fits Hh E0_sound (by
      simp (config := { maxSteps := 1000000 }) (decide := true) (discharger := first | omega | (simp only [H.next_new, H.next_put] <;> omega) | decide) only [go_sem, q89, Tryz.f89, readRow, fillStruct, fillPart, partOf, opField, binG, List.set_cons_zero, List.set_cons_succ, List.take_succ_cons, List.drop_succ_cons, List.take_zero, List.drop_zero, List.take_nil, List.drop_nil, List.cons_append, List.singleton_append, loadIn, storeIn, reduceIte, Nat.reduceAdd, Nat.reduceMul, Nat.reduceSub, Nat.reduceDiv, Nat.reduceMod, Nat.reduceLT, Nat.reduceBEq, Int.reduceToNat, h5, h7]
      rfl) ?_
    show Goes K Tryz.prog 23 none (q89 [1, 1, 1, 0, 1, 2, 2, 0, 1]) _ _ _ _
    rw [q89_111012201]
    refine Goes.condA (by simp (config := { maxSteps := 1000000 }) (decide := true) (discharger := first | omega | (simp only [H.next_new, H.next_put] <;> omega) | decide) only [go_sem, readRow, fillStruct, fillPart, partOf, opField, binG, List.set_cons_zero, List.set_cons_succ, List.take_succ_cons, List.drop_succ_cons, List.take_zero, List.drop_zero, List.take_nil, List.drop_nil, List.cons_append, List.singleton_append, loadIn, storeIn, reduceIte, Nat.reduceAdd, Nat.reduceMul, Nat.reduceSub, Nat.reduceDiv, Nat.reduceMod, Nat.reduceLT, Nat.reduceBEq, Int.reduceToNat, h5, h7] <;> rfl) (by first | rfl | assumption | exact decide_eq_true (by omega) | (simp; omega)) ?_
    show Goes K Tryz.prog 23 none (q89 [1, 1, 1, 0, 1, 2, 2, 0, 1, 3]) _ _ _ _
    rw [q89_1110122013]
    refine Goes.skip ?_
    show Goes K Tryz.prog 23 none (q89 [1, 1, 1, 0, 1, 2, 2, 1]) _ _ _ _
    rw [q89_11101221]
    refine Goes.seq ?_
    show Goes K Tryz.prog 23 none (q89 [1, 1, 1, 0, 1, 2, 2, 1, 0]) _ _ _ _
    rw [q89_111012210]
    refine Goes.block ?_
    show Goes K Tryz.prog 23 none (q89 [1, 1, 1, 0, 1, 2, 2, 1, 0, 2]) _ _ _ _
    rw [q89_1110122102]
    refine Goes.ops2 fits Hh (E1_sound E0_sound c1) (by
      simp (config := { maxSteps := 1000000 }) (decide := true) (discharger := first | omega | (simp only [H.next_new, H.next_put] <;> omega) | decide) only [go_sem, q89, Tryz.f89, readRow, fillStruct, fillPart, partOf, opField, binG, List.set_cons_zero, List.set_cons_succ, List.take_succ_cons, List.drop_succ_cons, List.take_zero, List.drop_zero, List.take_nil, List.drop_nil, List.cons_append, List.singleton_append, loadIn, storeIn, reduceIte, Nat.reduceAdd, Nat.reduceMul, Nat.reduceSub, Nat.reduceDiv, Nat.reduceMod, Nat.reduceLT, Nat.reduceBEq, Int.reduceToNat, E1_call, h5, h7]
      rfl) ?_
    show Goes K Tryz.prog 23 none (q89 [1, 1, 1, 0, 1, 2, 2, 1, 1]) _ _ _ _
    rw [q89_111012211]
    refine Goes.ops2 fits Hh E0_sound (by
      simp (config := { maxSteps := 1000000 }) (decide := true) (discharger := first | omega | (simp only [H.next_new, H.next_put] <;> omega) | decide) only [go_sem, q89, Tryz.f89, readRow, fillStruct, fillPart, partOf, opField, binG, List.set_cons_zero, List.set_cons_succ, List.take_succ_cons, List.drop_succ_cons, List.take_zero, List.drop_zero, List.take_nil, List.drop_nil, List.cons_append, List.singleton_append, loadIn, storeIn, reduceIte, Nat.reduceAdd, Nat.reduceMul, Nat.reduceSub, Nat.reduceDiv, Nat.reduceMod, Nat.reduceLT, Nat.reduceBEq, Int.reduceToNat, h5, h7]
      rfl) ?_
    show Goes K Tryz.prog 23 none (.loop (q89 [1, 1, 1, 0, 1, 2, 2])) _ _ _ _
    rw [← q89_111012]
    refine (ih (i + 1) _ _ (by omega) (by omega) (get_put_self ..) ?_ ?_).mono ?_
    · simp (decide := true) only [evalT_set, reduceIte, h5]
    · simp (decide := true) only [evalT_set, reduceIte] <;> rfl
    · rintro x ds' ts' h' ⟨e1, e2, e3, e4, e5, e6⟩
      refine ⟨e1, e2, e3, e4, fun m hm => (e5 m hm).trans (get_put_ne hm), fun s hs => (e6 s hs).trans ?_⟩
      simp (decide := true) only [evalT_low hs]
theorem bitmapOk (h : Go.Ev.H) (u z : Nat) (huz : u ≤ z) (hz : z ≤ 2048) : CallOk K Tryz.prog 89 [.c (.int .i64 u), .c (.int .i64 z)] h (.w (.g (bmB u z))) h := by
  obtain ⟨v, h', c, rfl, hk⟩ : ∃ v h', CallOk K Tryz.prog 89 [.c (.int .i64 u), .c (.int .i64 z)] h v h' ∧ v = (.w (.g (bmB u z))) ∧ ∀ m, m < h.next → h'.get m = h.get m := by
    have z0 := lowB_zero
    refine CallOk.goesE fits Hh (by kernel_rfl) (by kernel_rfl) (by kernel_rfl) (show Tryz.f89.body = some (q89 []) by kernel_rfl) rfl ?_
    show Goes K Tryz.prog 23 none _ _ _ _ _
    show Goes K Tryz.prog 23 none (q89 []) _ _ _ _
    rw [q89_]
    refine Goes.seq ?_
    show Goes K Tryz.prog 23 none (q89 [0]) _ _ _ _
    rw [q89_0]
    refine Goes.ops2 fits Hh E0_sound (by
      simp (config := { maxSteps := 1000000 }) (decide := true) (discharger := first | omega | (simp only [H.next_new, H.next_put] <;> omega) | decide) only [go_sem, q89, Tryz.f89, readRow, fillStruct, fillPart, partOf, opField, binG, List.set_cons_zero, List.set_cons_succ, List.take_succ_cons, List.drop_succ_cons, List.take_zero, List.drop_zero, List.take_nil, List.drop_nil, List.cons_append, List.singleton_append, loadIn, storeIn, reduceIte, Nat.reduceAdd, Nat.reduceMul, Nat.reduceSub, Nat.reduceDiv, Nat.reduceMod, Nat.reduceLT, Nat.reduceBEq, Int.reduceToNat, z0]
      rfl) ?_
    show Goes K Tryz.prog 23 none (q89 [1]) _ _ _ _
    rw [q89_1]
    refine Goes.seq ?_
    show Goes K Tryz.prog 23 none (q89 [1, 0]) _ _ _ _
    rw [q89_10]
    refine Goes.ops2 fits Hh E0_sound (by
      simp (config := { maxSteps := 1000000 }) (decide := true) (discharger := first | omega | (simp only [H.next_new, H.next_put] <;> omega) | decide) only [go_sem, q89, Tryz.f89, readRow, fillStruct, fillPart, partOf, opField, binG, List.set_cons_zero, List.set_cons_succ, List.take_succ_cons, List.drop_succ_cons, List.take_zero, List.drop_zero, List.take_nil, List.drop_nil, List.cons_append, List.singleton_append, loadIn, storeIn, reduceIte, Nat.reduceAdd, Nat.reduceMul, Nat.reduceSub, Nat.reduceDiv, Nat.reduceMod, Nat.reduceLT, Nat.reduceBEq, Int.reduceToNat, z0]
      rfl) ?_
    show Goes K Tryz.prog 23 none (q89 [1, 1]) _ _ _ _
    rw [q89_11]
    refine Goes.seq ?_
    show Goes K Tryz.prog 23 none (q89 [1, 1, 0]) _ _ _ _
    rw [q89_110]
    refine Goes.seq ?_
    show Goes K Tryz.prog 23 none (q89 [1, 1, 0, 0]) _ _ _ _
    rw [q89_1100]
    refine Goes.ops2 fits Hh E0_sound (by
      simp (config := { maxSteps := 1000000 }) (decide := true) (discharger := first | omega | (simp only [H.next_new, H.next_put] <;> omega) | decide) only [go_sem, q89, Tryz.f89, readRow, fillStruct, fillPart, partOf, opField, binG, List.set_cons_zero, List.set_cons_succ, List.take_succ_cons, List.drop_succ_cons, List.take_zero, List.drop_zero, List.take_nil, List.drop_nil, List.cons_append, List.singleton_append, loadIn, storeIn, reduceIte, Nat.reduceAdd, Nat.reduceMul, Nat.reduceSub, Nat.reduceDiv, Nat.reduceMod, Nat.reduceLT, Nat.reduceBEq, Int.reduceToNat, z0]
      rfl) ?_
    show Goes K Tryz.prog 23 none (q89 [1, 1, 0, 1]) _ _ _ _
    rw [q89_1101]
    refine Goes.block ?_
    refine (bm1 Hh (h.next + 1) u (by omega) u 0 _ _ (by omega) ?_ ?_ ?_ ?_).mono ?_
    · exact get_new_self _ _
    · simp (decide := true) only [evalT_set, reduceIte]
    · simp (decide := true) only [evalT_set, reduceIte] <;> rfl
    · simp (decide := true) only [evalT_set, reduceIte] <;> rfl
    rintro x ds' ts' h' ⟨rfl, rfl, n1, g1, k1, t1⟩
    have f1 := t1 1 (by decide)
    have f4 := t1 4 (by decide)
    have f5 := t1 5 (by decide)
    simp (config := { maxSteps := 1000000 }) (decide := true) (discharger := first | omega | (simp only [H.next_new, H.next_put] <;> omega) | decide) only [go_sem, readRow, fillStruct, fillPart, partOf, opField, binG, List.set_cons_zero, List.set_cons_succ, List.take_succ_cons, List.drop_succ_cons, List.take_zero, List.drop_zero, List.take_nil, List.drop_nil, List.cons_append, List.singleton_append, loadIn, storeIn, reduceIte, Nat.reduceAdd, Nat.reduceMul, Nat.reduceSub, Nat.reduceDiv, Nat.reduceMod, Nat.reduceLT, Nat.reduceBEq, Int.reduceToNat] at f1 f4 f5
    show Goes K Tryz.prog 23 none (q89 [1, 1, 1]) _ _ _ _
    rw [q89_111]
    refine Goes.seq ?_
    show Goes K Tryz.prog 23 none (q89 [1, 1, 1, 0]) _ _ _ _
    rw [q89_1110]
    refine Goes.seq ?_
    show Goes K Tryz.prog 23 none (q89 [1, 1, 1, 0, 0]) _ _ _ _
    rw [q89_11100]
    skip
    refine Goes.ops2 fits Hh E0_sound (by
      simp (config := { maxSteps := 1000000 }) (decide := true) (discharger := first | omega | (simp only [H.next_new, H.next_put] <;> omega) | decide) only [go_sem, q89, Tryz.f89, readRow, fillStruct, fillPart, partOf, opField, binG, List.set_cons_zero, List.set_cons_succ, List.take_succ_cons, List.drop_succ_cons, List.take_zero, List.drop_zero, List.take_nil, List.drop_nil, List.cons_append, List.singleton_append, loadIn, storeIn, reduceIte, Nat.reduceAdd, Nat.reduceMul, Nat.reduceSub, Nat.reduceDiv, Nat.reduceMod, Nat.reduceLT, Nat.reduceBEq, Int.reduceToNat, z0]
      rfl) ?_
    show Goes K Tryz.prog 23 none (q89 [1, 1, 1, 0, 1]) _ _ _ _
    rw [q89_11101]
    refine Goes.block ?_
    refine (bm2 Hh (h.next + 1) u z hz huz (2048 - z) z _ _ (by omega) (by omega) ?_ ?_ ?_).mono ?_
    · rw [midB_start]; exact g1
    · simp (decide := true) only [evalT_set, reduceIte, f5]
    · simp (decide := true) only [evalT_set, reduceIte, f1]
    rintro x ds' ts2 h2 ⟨rfl, rfl, n2, g2, k2, t2⟩
    have y4 := t2 4 (by decide)
    have y5 := t2 5 (by decide)
    simp (config := { maxSteps := 1000000 }) (decide := true) (discharger := first | omega | (simp only [H.next_new, H.next_put] <;> omega) | decide) only [go_sem, readRow, fillStruct, fillPart, partOf, opField, binG, List.set_cons_zero, List.set_cons_succ, List.take_succ_cons, List.drop_succ_cons, List.take_zero, List.drop_zero, List.take_nil, List.drop_nil, List.cons_append, List.singleton_append, loadIn, storeIn, reduceIte, Nat.reduceAdd, Nat.reduceMul, Nat.reduceSub, Nat.reduceDiv, Nat.reduceMod, Nat.reduceLT, Nat.reduceBEq, Int.reduceToNat, f4, f5] at y4 y5
    have a2 : h2.get h.next = some (.row 256 [packB (lowB 0)] false) := by rw [k2 _ (by omega), k1 _ (by omega)]; simp (config := { maxSteps := 1000000 }) (decide := true) (discharger := first | omega | (simp only [H.next_new, H.next_put] <;> omega) | decide) only [go_sem, readRow, fillStruct, fillPart, partOf, opField, binG, List.set_cons_zero, List.set_cons_succ, List.take_succ_cons, List.drop_succ_cons, List.take_zero, List.drop_zero, List.take_nil, List.drop_nil, List.cons_append, List.singleton_append, loadIn, storeIn, reduceIte, Nat.reduceAdd, Nat.reduceMul, Nat.reduceSub, Nat.reduceDiv, Nat.reduceMod, Nat.reduceLT, Nat.reduceBEq, Int.reduceToNat]
    have r2 : readRow 256 [packB (midB u z 2048)] 0 256 = some (packB (midB u z 2048)) := by
      have := readRow_all (l := packB (midB u z 2048)) (by rw [packB_len]; omega)
      rwa [packB_len] at this
    have r3 : readRow 256 [packB (midB u z 2048)] 0 256 = some (packB (midB u z 2048)) := r2
    have w2 : writeRow 256 [packB (lowB 0)] 0 (packB (midB u z 2048)) = some [packB (midB u z 2048)] := by
      have := writeRow_all (l := packB (lowB 0)) (l' := packB (midB u z 2048)) (by rw [packB_len]; omega) (by rw [packB_len, packB_len])
      rwa [packB_len] at this
    show Goes K Tryz.prog 23 none (q89 [1, 1, 1, 1]) _ _ _ _
    rw [q89_1111]
    refine Goes.seq ?_
    show Goes K Tryz.prog 23 none (q89 [1, 1, 1, 1, 0]) _ _ _ _
    rw [q89_11110]
    refine Goes.ops2 fits Hh E0_sound (by
      simp (config := { maxSteps := 1000000 }) (decide := true) (discharger := first | omega | (simp only [H.next_new, H.next_put] <;> omega) | decide) only [go_sem, q89, Tryz.f89, readRow, fillStruct, fillPart, partOf, opField, binG, List.set_cons_zero, List.set_cons_succ, List.take_succ_cons, List.drop_succ_cons, List.take_zero, List.drop_zero, List.take_nil, List.drop_nil, List.cons_append, List.singleton_append, loadIn, storeIn, reduceIte, Nat.reduceAdd, Nat.reduceMul, Nat.reduceSub, Nat.reduceDiv, Nat.reduceMod, Nat.reduceLT, Nat.reduceBEq, Int.reduceToNat, y4, y5, g2, a2, r2, w2, packB_len, z0]
      rfl) ?_
    show Goes K Tryz.prog 23 none (q89 [1, 1, 1, 1, 1]) _ _ _ _
    rw [q89_11111]
    refine Goes.ret ?_
    refine ⟨_, _, (by simp (config := { maxSteps := 1000000 }) (decide := true) (discharger := first | omega | (simp only [H.next_new, H.next_put] <;> omega) | decide) only [go_sem, readRow, fillStruct, fillPart, partOf, opField, binG, List.set_cons_zero, List.set_cons_succ, List.take_succ_cons, List.drop_succ_cons, List.take_zero, List.drop_zero, List.take_nil, List.drop_nil, List.cons_append, List.singleton_append, loadIn, storeIn, reduceIte, Nat.reduceAdd, Nat.reduceMul, Nat.reduceSub, Nat.reduceDiv, Nat.reduceMod, Nat.reduceLT, Nat.reduceBEq, Int.reduceToNat, y4, y5, g2, r2, packB_len] <;> rfl), rfl, fun m hm => ?_⟩
    simp (config := { maxSteps := 1000000 }) (decide := true) (discharger := first | omega | (simp only [H.next_new, H.next_put] <;> omega) | decide) only [go_sem, readRow, fillStruct, fillPart, partOf, opField, binG, List.set_cons_zero, List.set_cons_succ, List.take_succ_cons, List.drop_succ_cons, List.take_zero, List.drop_zero, List.take_nil, List.drop_nil, List.cons_append, List.singleton_append, loadIn, storeIn, reduceIte, Nat.reduceAdd, Nat.reduceMul, Nat.reduceSub, Nat.reduceDiv, Nat.reduceMod, Nat.reduceLT, Nat.reduceBEq, Int.reduceToNat, k2, k1]
  exact CallOk.quiet c (by simp [V.flat, W.flat, bmB, packB, C.flat]) hk
end
end Go.Proofs.YtjdbhajhjnfhiaaGreatDoor

