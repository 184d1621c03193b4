/- quernlaw26.Bytes, of any number. -/
import Derived.Test.YtncdhjlpmlmfhaaGreatDoorFine
import Derived.Test.YtncdhjlpmlmfhaaGreatDoorEvC
set_option linter.unusedSimpArgs false
set_option linter.unusedVariables false
set_option linter.unusedSectionVars false
set_option maxRecDepth 100000
namespace Go.Proofs.YtncdhjlpmlmfhaaGreatDoor
open Go.Ev
theorem ty3 : K.types.get 3 = some ti3 := by kernel_rfl
theorem sz3 : ti3.size = 1 := by rfl
theorem ag3 : ti3.agg = false := by rfl
theorem de3 : ti3.desc = (.int .i64) := by rfl
theorem ze3 : ti3.zero = (.c (.int .i64 0)) := by rfl
theorem by3 : ti3.bytes = 8 := by rfl
theorem ke3 (k : IntKind) (n : Int) : keyT K 20 3 (.c (.int k n)) = true := by kernel_rfl
theorem ty5 : K.types.get 5 = some ti5 := by kernel_rfl
theorem sz5 : ti5.size = 1 := by rfl
theorem ag5 : ti5.agg = false := by rfl
theorem de5 : ti5.desc = (.int .u8) := by rfl
theorem ze5 : ti5.zero = (.c (.int .u8 0)) := by rfl
theorem by5 : ti5.bytes = 1 := by rfl
theorem ke5 (k : IntKind) (n : Int) : keyT K 20 5 (.c (.int k n)) = true := by kernel_rfl
theorem ty36 : K.types.get 36 = some ti36 := by kernel_rfl
theorem sz36 : ti36.size = 1 := by rfl
theorem ag36 : ti36.agg = false := by rfl
theorem de36 : ti36.desc = (.slice 5) := by rfl
theorem ze36 : ti36.zero = (.c (.snil)) := by rfl
theorem by36 : ti36.bytes = 24 := by rfl
theorem el36 : elemTI K 36 = some ti5 := by kernel_rfl
attribute [go_sem] ty3 sz3 ag3 de3 ze3 by3 ke3 ty5 sz5 ag5 de5 ze5 by5 ke5 ty36 sz36 ag36 de36 ze36 by36 el36
noncomputable def q6 (p : List Nat) : Code := piece p (bodyOf Tryz.f6)
theorem q6_ : q6 [] = .seq (q6 [0]) (q6 [1]) := by kernel_rfl
theorem q6_0 : q6 [0] = .region 0 (opsA (q6 [0])) false := by kernel_rfl
theorem q6_1 : q6 [1] = .seq (q6 [1, 0]) (q6 [1, 1]) := by kernel_rfl
theorem q6_10 : q6 [1, 0] = .region 1 (opsA (q6 [1, 0])) false := by kernel_rfl
theorem q6_11 : q6 [1, 1] = .seq (q6 [1, 1, 0]) (q6 [1, 1, 1]) := by kernel_rfl
theorem q6_110 : q6 [1, 1, 0] = .seq (q6 [1, 1, 0, 0]) (q6 [1, 1, 0, 1]) := by kernel_rfl
theorem q6_1100 : q6 [1, 1, 0, 0] = .region 2 (opsA (q6 [1, 1, 0, 0])) false := by kernel_rfl
theorem q6_1101 : q6 [1, 1, 0, 1] = .block 0 (q6 [1, 1, 0, 1, 2]) := by kernel_rfl
theorem q6_11012 : q6 [1, 1, 0, 1, 2] = .loop (q6 [1, 1, 0, 1, 2, 2]) := by kernel_rfl
theorem q6_110122 : q6 [1, 1, 0, 1, 2, 2] = .seq (q6 [1, 1, 0, 1, 2, 2, 0]) (q6 [1, 1, 0, 1, 2, 2, 1]) := by kernel_rfl
theorem q6_1101220 : q6 [1, 1, 0, 1, 2, 2, 0] = .seq (q6 [1, 1, 0, 1, 2, 2, 0, 0]) (q6 [1, 1, 0, 1, 2, 2, 0, 1]) := by kernel_rfl
theorem q6_11012200 : q6 [1, 1, 0, 1, 2, 2, 0, 0] = .region 3 (opsA (q6 [1, 1, 0, 1, 2, 2, 0, 0])) false := by kernel_rfl
theorem q6_11012201 : q6 [1, 1, 0, 1, 2, 2, 0, 1] = .cond (.tmp 13) (q6 [1, 1, 0, 1, 2, 2, 0, 1, 3]) (q6 [1, 1, 0, 1, 2, 2, 0, 1, 4]) := by kernel_rfl
theorem q6_110122013 : q6 [1, 1, 0, 1, 2, 2, 0, 1, 3] = .skip := by kernel_rfl
theorem q6_110122014 : q6 [1, 1, 0, 1, 2, 2, 0, 1, 4] = .exit 0 := by kernel_rfl
theorem q6_1101221 : q6 [1, 1, 0, 1, 2, 2, 1] = .seq (q6 [1, 1, 0, 1, 2, 2, 1, 0]) (q6 [1, 1, 0, 1, 2, 2, 1, 1]) := by kernel_rfl
theorem q6_11012210 : q6 [1, 1, 0, 1, 2, 2, 1, 0] = .block 1 (q6 [1, 1, 0, 1, 2, 2, 1, 0, 2]) := by kernel_rfl
theorem q6_110122102 : q6 [1, 1, 0, 1, 2, 2, 1, 0, 2] = .region 5 (opsA (q6 [1, 1, 0, 1, 2, 2, 1, 0, 2])) false := by kernel_rfl
theorem q6_11012211 : q6 [1, 1, 0, 1, 2, 2, 1, 1] = .region 4 (opsA (q6 [1, 1, 0, 1, 2, 2, 1, 1])) false := by kernel_rfl
theorem q6_111 : q6 [1, 1, 1] = .seq (q6 [1, 1, 1, 0]) (q6 [1, 1, 1, 1]) := by kernel_rfl
theorem q6_1110 : q6 [1, 1, 1, 0] = .region 6 (opsA (q6 [1, 1, 1, 0])) false := by kernel_rfl
theorem q6_1111 : q6 [1, 1, 1, 1] = .ret := by kernel_rfl
theorem rs6 : Tryz.f6.results.toList = [.tmp 4] := rfl
attribute [go_sem] rs6
def bytE (b j : Nat) : List C := [.int .u8 ((1 + (b + j % 256) % 256 % 250 : Nat) : Int)]
def bytL (b k : Nat) : List (List C) := (List.range k).map (bytE b)
theorem bytL_succ (b k : Nat) : bytL b (k + 1) = bytL b k ++ [bytE b k] := by simp [bytL, List.range_succ]
theorem bytL_len (b k : Nat) : (bytL b k).length = k := by simp [bytL]
theorem bytL_flat (b k : Nat) : (bytL b k).all (fun l => l.all C.flat) = true := by
  rw [List.all_eq_true]
  intro l hl
  obtain ⟨j, _, rfl⟩ := List.mem_map.1 hl
  rfl
theorem sfByt (n off len sz : Nat) : srcFits K 36 (.slice n off len sz) = true := by unfold srcFits; rw [tyBytes]; rfl
theorem bBytes : ti5.bytes = 1 := rfl
theorem bsByt (h : Go.Ev.H) (c : C) : opBuildSlice h 1 (some ti5) (some [(0, .c c)]) = some (.w (.c (.slice h.next 0 1 1)), h.new (.row 1 [[c]] false)) := rfl
theorem growB {h : Go.Ev.H} {n : Nat} {L : List (List C)} (x : List C) (ho : h.get n = some (.row 1 L false)) (hn : n < h.next) (hl : L.length ≤ 4000) :
    opAppend (h.new (.row 1 [x] false)) (some ti5) (.slice n 0 L.length 1) (.slice h.next 0 1 1) = some (.w (.c (.slice (h.next + 1) 0 (L.length + 1) 1)), ((h.new (.row 1 [x] false)).del n).new (.row 1 (L ++ [x]) false)) :=
  append_ok (M := [x]) sByte (by rw [H.get_new, if_neg (by omega)]; exact ho) (by rw [H.get_new, if_pos rfl]) (by simp) (by rw [bBytes]; show (L.length + 1) * 1 ≤ _; omega) (by show L.length + 1 ≤ _; omega)
theorem growB0 {h : Go.Ev.H} (x : List C) :
    opAppend (h.new (.row 1 [x] false)) (some ti5) .snil (.slice h.next 0 1 1) = some (.w (.c (.slice (h.next + 1) 0 1 1)), (h.new (.row 1 [x] false)).new (.row 1 [x] false)) :=
  append_nil (M := [x]) sByte (by rw [H.get_new, if_pos rfl]) (by simp) (by rw [bBytes]; show 1 * 1 ≤ _; omega) (by show 1 ≤ _; omega)
def BytSt (b base i : Nat) (ts : Tmps) (h : Go.Ev.H) : Prop := (i = 0 ∧ evalT ts 5 = .w (.c .snil)) ∨ (0 < i ∧ ∃ n, base ≤ n ∧ n < h.next ∧ evalT ts 5 = .w (.c (.slice n 0 i 1)) ∧ h.get n = some (.row 1 (bytL b i) false))
section
variable (Hh : Hearts K Tryz.prog)
include Hh
theorem byt0 (z : Int) (b m base : Nat) (hb : b < 256) (hm : m ≤ 1100) (hz : m = 0 ∨ (m : Int) ≤ z) (hend : m = 1100 ∨ z ≤ (m : Int)) : ∀ (k i : Nat) (ts : Tmps) (h : Go.Ev.H), i + k = m → base ≤ h.next → evalT ts 0 = .w (.c (.int .i64 z)) → evalT ts 1 = .w (.c (.int .u8 b)) → evalT ts 6 = .w (.c (.int .i64 i)) → BytSt b base i ts h →
    Goes K Tryz.prog 26 none (q6 [1, 1, 0, 1, 2]) [] ts h fun x ds' ts' h' => x = .exit 0 ∧ ds' = [] ∧ h.next ≤ h'.next ∧ (∀ j, j < base → h'.get j = h.get j) ∧ BytSt b base m ts' h' := by
  intro k
  induction k with
  | zero =>
    intro i ts h hi hbase h0 h1 h6 st
    obtain rfl : i = m := by omega
    by_cases hlt : (i : Int) < z
    ·
      show Goes K Tryz.prog 26 none (q6 [1, 1, 0, 1, 2]) _ _ _ _
      rw [q6_11012]
      refine Goes.loop ?_
      show Goes K Tryz.prog 26 none (q6 [1, 1, 0, 1, 2, 2]) _ _ _ _
      rw [q6_110122]
      refine Goes.seq ?_
      show Goes K Tryz.prog 26 none (q6 [1, 1, 0, 1, 2, 2, 0]) _ _ _ _
      rw [q6_1101220]
      refine Goes.seq ?_
      show Goes K Tryz.prog 26 none (q6 [1, 1, 0, 1, 2, 2, 0, 0]) _ _ _ _
      rw [q6_11012200]
      refine Goes.ops2 fits Hh E0_sound (by
        simp (config := { maxSteps := 1000000 }) (decide := true) (discharger := first | omega | (simp only [H.next_new, H.next_put] <;> omega) | decide) only [go_sem, q6, Tryz.f6, readRow, loadIn, reduceIte, Nat.reduceAdd, Nat.reduceMul, Nat.reduceSub, Nat.reduceDiv, Nat.reduceMod, Nat.reduceLT, Nat.reduceBEq, Int.reduceToNat, h0, h1, h6]
        rfl) ?_
      show Goes K Tryz.prog 26 none (q6 [1, 1, 0, 1, 2, 2, 0, 1]) _ _ _ _
      rw [q6_11012201]
      refine Goes.condE (by simp (config := { maxSteps := 1000000 }) (decide := true) (discharger := first | omega | (simp only [H.next_new, H.next_put] <;> omega) | decide) only [go_sem, readRow, loadIn, reduceIte, Nat.reduceAdd, Nat.reduceMul, Nat.reduceSub, Nat.reduceDiv, Nat.reduceMod, Nat.reduceLT, Nat.reduceBEq, Int.reduceToNat, h0, h1, h6] <;> rfl) (by first | rfl | assumption | exact decide_eq_false (by omega) | (simp; omega)) ?_
      show Goes K Tryz.prog 26 none (q6 [1, 1, 0, 1, 2, 2, 0, 1, 4]) _ _ _ _
      rw [q6_110122014]
      refine Goes.exit ?_
      refine ⟨rfl, rfl, Nat.le_refl _, fun _ _ => rfl, ?_⟩
      rcases st with ⟨e, h5⟩ | ⟨e, n, n1, n2, n3, n4⟩
      · exact .inl ⟨e, by simp (decide := true) only [evalT_set, reduceIte, h5]⟩
      · exact .inr ⟨e, n, n1, n2, by simp (decide := true) only [evalT_set, reduceIte, n3], n4⟩
    ·
      show Goes K Tryz.prog 26 none (q6 [1, 1, 0, 1, 2]) _ _ _ _
      rw [q6_11012]
      refine Goes.loop ?_
      show Goes K Tryz.prog 26 none (q6 [1, 1, 0, 1, 2, 2]) _ _ _ _
      rw [q6_110122]
      refine Goes.seq ?_
      show Goes K Tryz.prog 26 none (q6 [1, 1, 0, 1, 2, 2, 0]) _ _ _ _
      rw [q6_1101220]
      refine Goes.seq ?_
      show Goes K Tryz.prog 26 none (q6 [1, 1, 0, 1, 2, 2, 0, 0]) _ _ _ _
      rw [q6_11012200]
      refine Goes.ops2 fits Hh E0_sound (by
        simp (config := { maxSteps := 1000000 }) (decide := true) (discharger := first | omega | (simp only [H.next_new, H.next_put] <;> omega) | decide) only [go_sem, q6, Tryz.f6, readRow, loadIn, reduceIte, Nat.reduceAdd, Nat.reduceMul, Nat.reduceSub, Nat.reduceDiv, Nat.reduceMod, Nat.reduceLT, Nat.reduceBEq, Int.reduceToNat, h0, h1, h6]
        rfl) ?_
      show Goes K Tryz.prog 26 none (q6 [1, 1, 0, 1, 2, 2, 0, 1]) _ _ _ _
      rw [q6_11012201]
      refine Goes.condE (by simp (config := { maxSteps := 1000000 }) (decide := true) (discharger := first | omega | (simp only [H.next_new, H.next_put] <;> omega) | decide) only [go_sem, readRow, loadIn, reduceIte, Nat.reduceAdd, Nat.reduceMul, Nat.reduceSub, Nat.reduceDiv, Nat.reduceMod, Nat.reduceLT, Nat.reduceBEq, Int.reduceToNat, h0, h1, h6] <;> rfl) (by first | rfl | assumption | exact decide_eq_false (by omega) | (simp; omega)) ?_
      show Goes K Tryz.prog 26 none (q6 [1, 1, 0, 1, 2, 2, 0, 1, 4]) _ _ _ _
      rw [q6_110122014]
      refine Goes.exit ?_
      refine ⟨rfl, rfl, Nat.le_refl _, fun _ _ => rfl, ?_⟩
      rcases st with ⟨e, h5⟩ | ⟨e, n, n1, n2, n3, n4⟩
      · exact .inl ⟨e, by simp (decide := true) only [evalT_set, reduceIte, h5]⟩
      · exact .inr ⟨e, n, n1, n2, by simp (decide := true) only [evalT_set, reduceIte, n3], n4⟩
  | succ k ih =>
    intro i ts h hi hbase h0 h1 h6 st
    have w1 : wrapC .u8 (i : Int) = .int .u8 ((i % 256 : Nat) : Int) := by rw [wrapU8]; rfl
    have w2 : wrapC .u8 ((b : Int) + ((i % 256 : Nat) : Int)) = .int .u8 (((b + i % 256) % 256 : Nat) : Int) := by rw [wrapU8]; rfl
    have w3 : opRem .u8 (((b + i % 256) % 256 : Nat) : Int) 250 = some (.int .u8 (((b + i % 256) % 256 % 250 : Nat) : Int)) := rem_nat (b := 250) (by omega)
    have w4 : wrapC .u8 (1 + (((b + i % 256) % 256 % 250 : Nat) : Int)) = .int .u8 ((1 + (b + i % 256) % 256 % 250 : Nat) : Int) := by
      have e := Nat.mod_lt ((b + i % 256) % 256) (show 0 < 250 by omega)
      rw [wrapU8I (by omega)]
      rfl
    rcases st with ⟨rfl, h5⟩ | ⟨e, n, n1, n2, n3, n4⟩
    · have ap := growB0 (h := h) (bytE b 0)
      simp only [bytE] at ap
      show Goes K Tryz.prog 26 none (q6 [1, 1, 0, 1, 2]) _ _ _ _
      rw [q6_11012]
      refine Goes.loop ?_
      show Goes K Tryz.prog 26 none (q6 [1, 1, 0, 1, 2, 2]) _ _ _ _
      rw [q6_110122]
      refine Goes.seq ?_
      show Goes K Tryz.prog 26 none (q6 [1, 1, 0, 1, 2, 2, 0]) _ _ _ _
      rw [q6_1101220]
      refine Goes.seq ?_
      show Goes K Tryz.prog 26 none (q6 [1, 1, 0, 1, 2, 2, 0, 0]) _ _ _ _
      rw [q6_11012200]
      refine Goes.ops2 fits Hh E0_sound (by
        simp (config := { maxSteps := 1000000 }) (decide := true) (discharger := first | omega | (simp only [H.next_new, H.next_put] <;> omega) | decide) only [go_sem, q6, Tryz.f6, readRow, loadIn, reduceIte, Nat.reduceAdd, Nat.reduceMul, Nat.reduceSub, Nat.reduceDiv, Nat.reduceLT, Nat.reduceBEq, Int.reduceToNat, h0, h1, h5, h6, w1, w2, w3, w4, bsByt, ap, sfByt, opBuiltin]
        rfl) ?_
      show Goes K Tryz.prog 26 none (q6 [1, 1, 0, 1, 2, 2, 0, 1]) _ _ _ _
      rw [q6_11012201]
      refine Goes.condA (by simp (config := { maxSteps := 1000000 }) (decide := true) (discharger := first | omega | (simp only [H.next_new, H.next_put] <;> omega) | decide) only [go_sem, readRow, loadIn, reduceIte, Nat.reduceAdd, Nat.reduceMul, Nat.reduceSub, Nat.reduceDiv, Nat.reduceLT, Nat.reduceBEq, Int.reduceToNat, h0, h1, h5, h6, w1, w2, w3, w4, bsByt, ap, sfByt, opBuiltin] <;> rfl) (by first | rfl | assumption | exact decide_eq_true (by omega) | (simp; omega)) ?_
      show Goes K Tryz.prog 26 none (q6 [1, 1, 0, 1, 2, 2, 0, 1, 3]) _ _ _ _
      rw [q6_110122013]
      refine Goes.skip ?_
      show Goes K Tryz.prog 26 none (q6 [1, 1, 0, 1, 2, 2, 1]) _ _ _ _
      rw [q6_1101221]
      refine Goes.seq ?_
      show Goes K Tryz.prog 26 none (q6 [1, 1, 0, 1, 2, 2, 1, 0]) _ _ _ _
      rw [q6_11012210]
      refine Goes.block ?_
      show Goes K Tryz.prog 26 none (q6 [1, 1, 0, 1, 2, 2, 1, 0, 2]) _ _ _ _
      rw [q6_110122102]
      refine Goes.ops2 fits Hh E0_sound (by
        simp (config := { maxSteps := 1000000 }) (decide := true) (discharger := first | omega | (simp only [H.next_new, H.next_put] <;> omega) | decide) only [go_sem, q6, Tryz.f6, readRow, loadIn, reduceIte, Nat.reduceAdd, Nat.reduceMul, Nat.reduceSub, Nat.reduceDiv, Nat.reduceLT, Nat.reduceBEq, Int.reduceToNat, h0, h1, h5, h6, w1, w2, w3, w4, bsByt, ap, sfByt, opBuiltin]
        rfl) ?_
      show Goes K Tryz.prog 26 none (q6 [1, 1, 0, 1, 2, 2, 1, 1]) _ _ _ _
      rw [q6_11012211]
      refine Goes.ops2 fits Hh E0_sound (by
        simp (config := { maxSteps := 1000000 }) (decide := true) (discharger := first | omega | (simp only [H.next_new, H.next_put] <;> omega) | decide) only [go_sem, q6, Tryz.f6, readRow, loadIn, reduceIte, Nat.reduceAdd, Nat.reduceMul, Nat.reduceSub, Nat.reduceDiv, Nat.reduceLT, Nat.reduceBEq, Int.reduceToNat, h0, h1, h5, h6, w1, w2, w3, w4, bsByt, ap, sfByt, opBuiltin]
        rfl) ?_
      show Goes K Tryz.prog 26 none (.loop (q6 [1, 1, 0, 1, 2, 2])) _ _ _ _
      rw [← q6_11012]
      refine (ih 1 _ _ (by omega) (by simp only [H.next_new]; omega) ?_ ?_ ?_ (.inr ⟨by omega, h.next + 1, by omega, by simp only [H.next_new]; omega, ?_, ?_⟩)).mono ?_
      · simp (decide := true) only [evalT_set, reduceIte, h0]
      · simp (decide := true) only [evalT_set, reduceIte, h1]
      · simp (decide := true) only [evalT_set, reduceIte] <;> rfl
      · simp (decide := true) only [evalT_set, reduceIte]
      · rw [get_new_eq (by simp only [H.next_new] <;> omega)]; rfl
      · rintro x ds' ts' h' ⟨e1, e2, e3, e4, e5⟩
        simp only [H.next_new] at e3
        refine ⟨e1, e2, by omega, fun j hj => ?_, e5⟩
        rw [e4 j hj, get_new_ne (by rw [H.next_new]; omega), get_new_ne (by omega)]
    · have ap := growB (bytE b i) n4 n2 (by rw [bytL_len]; omega)
      simp only [bytE, bytL_len] at ap
      show Goes K Tryz.prog 26 none (q6 [1, 1, 0, 1, 2]) _ _ _ _
      rw [q6_11012]
      refine Goes.loop ?_
      show Goes K Tryz.prog 26 none (q6 [1, 1, 0, 1, 2, 2]) _ _ _ _
      rw [q6_110122]
      refine Goes.seq ?_
      show Goes K Tryz.prog 26 none (q6 [1, 1, 0, 1, 2, 2, 0]) _ _ _ _
      rw [q6_1101220]
      refine Goes.seq ?_
      show Goes K Tryz.prog 26 none (q6 [1, 1, 0, 1, 2, 2, 0, 0]) _ _ _ _
      rw [q6_11012200]
      refine Goes.ops2 fits Hh E0_sound (by
        simp (config := { maxSteps := 1000000 }) (decide := true) (discharger := first | omega | (simp only [H.next_new, H.next_put] <;> omega) | decide) only [go_sem, q6, Tryz.f6, readRow, loadIn, reduceIte, Nat.reduceAdd, Nat.reduceMul, Nat.reduceSub, Nat.reduceDiv, Nat.reduceLT, Nat.reduceBEq, Int.reduceToNat, h0, h1, n3, h6, w1, w2, w3, w4, bsByt, ap, sfByt, opBuiltin]
        rfl) ?_
      show Goes K Tryz.prog 26 none (q6 [1, 1, 0, 1, 2, 2, 0, 1]) _ _ _ _
      rw [q6_11012201]
      refine Goes.condA (by simp (config := { maxSteps := 1000000 }) (decide := true) (discharger := first | omega | (simp only [H.next_new, H.next_put] <;> omega) | decide) only [go_sem, readRow, loadIn, reduceIte, Nat.reduceAdd, Nat.reduceMul, Nat.reduceSub, Nat.reduceDiv, Nat.reduceLT, Nat.reduceBEq, Int.reduceToNat, h0, h1, n3, h6, w1, w2, w3, w4, bsByt, ap, sfByt, opBuiltin] <;> rfl) (by first | rfl | assumption | exact decide_eq_true (by omega) | (simp; omega)) ?_
      show Goes K Tryz.prog 26 none (q6 [1, 1, 0, 1, 2, 2, 0, 1, 3]) _ _ _ _
      rw [q6_110122013]
      refine Goes.skip ?_
      show Goes K Tryz.prog 26 none (q6 [1, 1, 0, 1, 2, 2, 1]) _ _ _ _
      rw [q6_1101221]
      refine Goes.seq ?_
      show Goes K Tryz.prog 26 none (q6 [1, 1, 0, 1, 2, 2, 1, 0]) _ _ _ _
      rw [q6_11012210]
      refine Goes.block ?_
      show Goes K Tryz.prog 26 none (q6 [1, 1, 0, 1, 2, 2, 1, 0, 2]) _ _ _ _
      rw [q6_110122102]
      refine Goes.ops2 fits Hh E0_sound (by
        simp (config := { maxSteps := 1000000 }) (decide := true) (discharger := first | omega | (simp only [H.next_new, H.next_put] <;> omega) | decide) only [go_sem, q6, Tryz.f6, readRow, loadIn, reduceIte, Nat.reduceAdd, Nat.reduceMul, Nat.reduceSub, Nat.reduceDiv, Nat.reduceLT, Nat.reduceBEq, Int.reduceToNat, h0, h1, n3, h6, w1, w2, w3, w4, bsByt, ap, sfByt, opBuiltin]
        rfl) ?_
      show Goes K Tryz.prog 26 none (q6 [1, 1, 0, 1, 2, 2, 1, 1]) _ _ _ _
      rw [q6_11012211]
      refine Goes.ops2 fits Hh E0_sound (by
        simp (config := { maxSteps := 1000000 }) (decide := true) (discharger := first | omega | (simp only [H.next_new, H.next_put] <;> omega) | decide) only [go_sem, q6, Tryz.f6, readRow, loadIn, reduceIte, Nat.reduceAdd, Nat.reduceMul, Nat.reduceSub, Nat.reduceDiv, Nat.reduceLT, Nat.reduceBEq, Int.reduceToNat, h0, h1, n3, h6, w1, w2, w3, w4, bsByt, ap, sfByt, opBuiltin]
        rfl) ?_
      show Goes K Tryz.prog 26 none (.loop (q6 [1, 1, 0, 1, 2, 2])) _ _ _ _
      rw [← q6_11012]
      refine (ih (i + 1) _ _ (by omega) (by simp only [H.next_new, H.next_del]; omega) ?_ ?_ ?_ (.inr ⟨by omega, h.next + 1, by omega, by simp only [H.next_new, H.next_del]; omega, ?_, ?_⟩)).mono ?_
      · simp (decide := true) only [evalT_set, reduceIte, h0]
      · simp (decide := true) only [evalT_set, reduceIte, h1]
      · simp (decide := true) only [evalT_set, reduceIte] <;> rfl
      · simp (decide := true) only [evalT_set, reduceIte]
      · rw [get_new_eq (by simp only [H.next_new, H.next_del] <;> omega), bytL_succ]; rfl
      · rintro x ds' ts' h' ⟨e1, e2, e3, e4, e5⟩
        simp only [H.next_new, H.next_del] at e3
        refine ⟨e1, e2, by omega, fun j hj => ?_, e5⟩
        rw [e4 j hj, get_new_ne (by rw [H.next_del, H.next_new]; omega), get_del_ne (by omega), get_new_ne (by omega)]
theorem bytN (h : Go.Ev.H) (z : Int) (b : Nat) (hb : b < 256) (hz : z ≤ 0) : CallOk K Tryz.prog 6 [.c (.int .i64 z), .c (.int .u8 b)] h (.w (.c .snil)) h := by
  obtain ⟨v, h', c, rfl, hk⟩ : ∃ v h', CallOk K Tryz.prog 6 [.c (.int .i64 z), .c (.int .u8 b)] h v h' ∧ v = .w (.c .snil) ∧ ∀ j, j < h.next → h'.get j = h.get j := by
    refine CallOk.goesE fits Hh (by kernel_rfl) (by kernel_rfl) (by kernel_rfl) (show Tryz.f6.body = some (q6 []) by kernel_rfl) rfl ?_
    show Goes K Tryz.prog 26 none _ _ _ _ _
    show Goes K Tryz.prog 26 none (q6 []) _ _ _ _
    rw [q6_]
    refine Goes.seq ?_
    show Goes K Tryz.prog 26 none (q6 [0]) _ _ _ _
    rw [q6_0]
    refine Goes.ops2 fits Hh E0_sound (by
      simp (config := { maxSteps := 1000000 }) (decide := true) (discharger := first | omega | (simp only [H.next_new, H.next_put] <;> omega) | decide) only [go_sem, q6, Tryz.f6, readRow, loadIn, reduceIte, Nat.reduceAdd, Nat.reduceMul, Nat.reduceSub, Nat.reduceDiv, Nat.reduceMod, Nat.reduceLT, Nat.reduceBEq, Int.reduceToNat]
      rfl) ?_
    show Goes K Tryz.prog 26 none (q6 [1]) _ _ _ _
    rw [q6_1]
    refine Goes.seq ?_
    show Goes K Tryz.prog 26 none (q6 [1, 0]) _ _ _ _
    rw [q6_10]
    refine Goes.ops2 fits Hh E0_sound (by
      simp (config := { maxSteps := 1000000 }) (decide := true) (discharger := first | omega | (simp only [H.next_new, H.next_put] <;> omega) | decide) only [go_sem, q6, Tryz.f6, readRow, loadIn, reduceIte, Nat.reduceAdd, Nat.reduceMul, Nat.reduceSub, Nat.reduceDiv, Nat.reduceMod, Nat.reduceLT, Nat.reduceBEq, Int.reduceToNat]
      rfl) ?_
    show Goes K Tryz.prog 26 none (q6 [1, 1]) _ _ _ _
    rw [q6_11]
    refine Goes.seq ?_
    show Goes K Tryz.prog 26 none (q6 [1, 1, 0]) _ _ _ _
    rw [q6_110]
    refine Goes.seq ?_
    show Goes K Tryz.prog 26 none (q6 [1, 1, 0, 0]) _ _ _ _
    rw [q6_1100]
    refine Goes.ops2 fits Hh E0_sound (by
      simp (config := { maxSteps := 1000000 }) (decide := true) (discharger := first | omega | (simp only [H.next_new, H.next_put] <;> omega) | decide) only [go_sem, q6, Tryz.f6, readRow, loadIn, reduceIte, Nat.reduceAdd, Nat.reduceMul, Nat.reduceSub, Nat.reduceDiv, Nat.reduceMod, Nat.reduceLT, Nat.reduceBEq, Int.reduceToNat]
      rfl) ?_
    show Goes K Tryz.prog 26 none (q6 [1, 1, 0, 1]) _ _ _ _
    rw [q6_1101]
    refine Goes.block ?_
    refine (byt0 Hh z b 0 h.next hb (by omega) (.inl rfl) (.inr (by omega)) 0 0 _ _ (by omega) (Nat.le_refl _) ?_ ?_ ?_ (.inl ⟨rfl, ?_⟩)).mono ?_
    · simp (decide := true) only [evalT_set, reduceIte, evalT_args, List.getElem?_cons_zero]
    · simp (decide := true) only [evalT_set, reduceIte, evalT_args, List.getElem?_cons_succ, List.getElem?_cons_zero]
    · simp (decide := true) only [evalT_set, reduceIte] <;> rfl
    · simp (decide := true) only [evalT_set, reduceIte]
    rintro x ds' ts' h' ⟨rfl, rfl, n1, k1, ⟨_, h5⟩ | ⟨e, _⟩⟩
    case inr => omega
    show Goes K Tryz.prog 26 none (q6 [1, 1, 1]) _ _ _ _
    rw [q6_111]
    refine Goes.seq ?_
    show Goes K Tryz.prog 26 none (q6 [1, 1, 1, 0]) _ _ _ _
    rw [q6_1110]
    refine Goes.ops2 fits Hh E0_sound (by
      simp (config := { maxSteps := 1000000 }) (decide := true) (discharger := first | omega | (simp only [H.next_new, H.next_put] <;> omega) | decide) only [go_sem, q6, Tryz.f6, readRow, loadIn, reduceIte, Nat.reduceAdd, Nat.reduceMul, Nat.reduceSub, Nat.reduceDiv, Nat.reduceMod, Nat.reduceLT, Nat.reduceBEq, Int.reduceToNat, h5]
      rfl) ?_
    show Goes K Tryz.prog 26 none (q6 [1, 1, 1, 1]) _ _ _ _
    rw [q6_1111]
    refine Goes.ret ?_
    exact ⟨_, _, (by simp (config := { maxSteps := 1000000 }) (decide := true) (discharger := first | omega | (simp only [H.next_new, H.next_put] <;> omega) | decide) only [go_sem, readRow, loadIn, reduceIte, Nat.reduceAdd, Nat.reduceMul, Nat.reduceSub, Nat.reduceDiv, Nat.reduceMod, Nat.reduceLT, Nat.reduceBEq, Int.reduceToNat, h5] <;> rfl), rfl, k1⟩
  exact CallOk.quiet c rfl hk
theorem bytP (h : Go.Ev.H) (m : Nat) (b : Nat) (hb : b < 256) (hm : 0 < m) : CallOk K Tryz.prog 6 [.c (.int .i64 m), .c (.int .u8 b)] h (.w (.c (.slice h.next 0 (min m 1100) 1))) (h.new (.row 1 (bytL b (min m 1100)) false)) := by
  obtain ⟨v, h', c, n, rfl, n1, n2, n4, hk⟩ : ∃ v h', CallOk K Tryz.prog 6 [.c (.int .i64 m), .c (.int .u8 b)] h v h' ∧ ∃ n, v = .w (.c (.slice n 0 (min m 1100) 1)) ∧ h.next ≤ n ∧ n < h'.next ∧ h'.get n = some (.row 1 (bytL b (min m 1100)) false) ∧ ∀ j, j < h.next → h'.get j = h.get j := by
    refine CallOk.goesE fits Hh (by kernel_rfl) (by kernel_rfl) (by kernel_rfl) (show Tryz.f6.body = some (q6 []) by kernel_rfl) rfl ?_
    show Goes K Tryz.prog 26 none _ _ _ _ _
    show Goes K Tryz.prog 26 none (q6 []) _ _ _ _
    rw [q6_]
    refine Goes.seq ?_
    show Goes K Tryz.prog 26 none (q6 [0]) _ _ _ _
    rw [q6_0]
    refine Goes.ops2 fits Hh E0_sound (by
      simp (config := { maxSteps := 1000000 }) (decide := true) (discharger := first | omega | (simp only [H.next_new, H.next_put] <;> omega) | decide) only [go_sem, q6, Tryz.f6, readRow, loadIn, reduceIte, Nat.reduceAdd, Nat.reduceMul, Nat.reduceSub, Nat.reduceDiv, Nat.reduceMod, Nat.reduceLT, Nat.reduceBEq, Int.reduceToNat]
      rfl) ?_
    show Goes K Tryz.prog 26 none (q6 [1]) _ _ _ _
    rw [q6_1]
    refine Goes.seq ?_
    show Goes K Tryz.prog 26 none (q6 [1, 0]) _ _ _ _
    rw [q6_10]
    refine Goes.ops2 fits Hh E0_sound (by
      simp (config := { maxSteps := 1000000 }) (decide := true) (discharger := first | omega | (simp only [H.next_new, H.next_put] <;> omega) | decide) only [go_sem, q6, Tryz.f6, readRow, loadIn, reduceIte, Nat.reduceAdd, Nat.reduceMul, Nat.reduceSub, Nat.reduceDiv, Nat.reduceMod, Nat.reduceLT, Nat.reduceBEq, Int.reduceToNat]
      rfl) ?_
    show Goes K Tryz.prog 26 none (q6 [1, 1]) _ _ _ _
    rw [q6_11]
    refine Goes.seq ?_
    show Goes K Tryz.prog 26 none (q6 [1, 1, 0]) _ _ _ _
    rw [q6_110]
    refine Goes.seq ?_
    show Goes K Tryz.prog 26 none (q6 [1, 1, 0, 0]) _ _ _ _
    rw [q6_1100]
    refine Goes.ops2 fits Hh E0_sound (by
      simp (config := { maxSteps := 1000000 }) (decide := true) (discharger := first | omega | (simp only [H.next_new, H.next_put] <;> omega) | decide) only [go_sem, q6, Tryz.f6, readRow, loadIn, reduceIte, Nat.reduceAdd, Nat.reduceMul, Nat.reduceSub, Nat.reduceDiv, Nat.reduceMod, Nat.reduceLT, Nat.reduceBEq, Int.reduceToNat]
      rfl) ?_
    show Goes K Tryz.prog 26 none (q6 [1, 1, 0, 1]) _ _ _ _
    rw [q6_1101]
    refine Goes.block ?_
    refine (byt0 Hh m b (min m 1100) h.next hb (by omega) (.inr (by omega)) (by omega) (min m 1100) 0 _ _ (by omega) (Nat.le_refl _) ?_ ?_ ?_ (.inl ⟨rfl, ?_⟩)).mono ?_
    · simp (decide := true) only [evalT_set, reduceIte, evalT_args, List.getElem?_cons_zero]
    · simp (decide := true) only [evalT_set, reduceIte, evalT_args, List.getElem?_cons_succ, List.getElem?_cons_zero]
    · simp (decide := true) only [evalT_set, reduceIte] <;> rfl
    · simp (decide := true) only [evalT_set, reduceIte]
    rintro x ds' ts' h' ⟨rfl, rfl, n1, k1, ⟨e, _⟩ | ⟨e, n, m1, m2, h5, m4⟩⟩
    case inl => omega
    show Goes K Tryz.prog 26 none (q6 [1, 1, 1]) _ _ _ _
    rw [q6_111]
    refine Goes.seq ?_
    show Goes K Tryz.prog 26 none (q6 [1, 1, 1, 0]) _ _ _ _
    rw [q6_1110]
    refine Goes.ops2 fits Hh E0_sound (by
      simp (config := { maxSteps := 1000000 }) (decide := true) (discharger := first | omega | (simp only [H.next_new, H.next_put] <;> omega) | decide) only [go_sem, q6, Tryz.f6, readRow, loadIn, reduceIte, Nat.reduceAdd, Nat.reduceMul, Nat.reduceSub, Nat.reduceDiv, Nat.reduceMod, Nat.reduceLT, Nat.reduceBEq, Int.reduceToNat, h5]
      rfl) ?_
    show Goes K Tryz.prog 26 none (q6 [1, 1, 1, 1]) _ _ _ _
    rw [q6_1111]
    refine Goes.ret ?_
    exact ⟨_, _, (by simp (config := { maxSteps := 1000000 }) (decide := true) (discharger := first | omega | (simp only [H.next_new, H.next_put] <;> omega) | decide) only [go_sem, readRow, loadIn, reduceIte, Nat.reduceAdd, Nat.reduceMul, Nat.reduceSub, Nat.reduceDiv, Nat.reduceMod, Nat.reduceLT, Nat.reduceBEq, Int.reduceToNat, h5] <;> rfl), n, rfl, m1, m2, m4, k1⟩
  exact CallOk.row1 c n1 n4 (bytL_flat ..) n2 hk
end
noncomputable def xByt (args : List W) (h : Go.Ev.H) : Option (V × Go.Ev.H) := match args with
  | [.c (.int .i64 (.ofNat (m + 1))), .c (.int .u8 (.ofNat b))] => bif Nat.blt b 256 then some (.w (.c (.slice h.next 0 (min (m + 1) 1100) 1)), h.new (.row 1 (bytL b (min (m + 1) 1100)) false)) else none
  | [.c (.int .i64 (.ofNat 0)), .c (.int .u8 (.ofNat b))] => bif Nat.blt b 256 then some (.w (.c .snil), h) else none
  | [.c (.int .i64 (.negSucc _)), .c (.int .u8 (.ofNat b))] => bif Nat.blt b 256 then some (.w (.c .snil), h) else none
  | _ => none
section
variable (Hh : Hearts K Tryz.prog)
include Hh
theorem xByt_ok {args : List W} {h h' : Go.Ev.H} {v : V} (e : xByt args h = some (v, h')) : CallOk K Tryz.prog 6 args h v h' := by
  unfold xByt at e
  split at e
  · rename_i m b
    cases hb : Nat.blt b 256 with
    | false => rw [hb] at e; cases e
    | true =>
      rw [hb] at e
      cases e
      exact bytP Hh h (m + 1) b (by simpa [Nat.blt_eq] using hb) (by omega)
  · rename_i b
    cases hb : Nat.blt b 256 with
    | false => rw [hb] at e; cases e
    | true =>
      rw [hb] at e
      cases e
      exact bytN Hh h 0 b (by simpa [Nat.blt_eq] using hb) (by omega)
  · rename_i m b
    cases hb : Nat.blt b 256 with
    | false => rw [hb] at e; cases e
    | true =>
      rw [hb] at e
      cases e
      exact bytN Hh h (.negSucc m) b (by simpa [Nat.blt_eq] using hb) (by omega)
  · cases e
end
end Go.Proofs.YtncdhjlpmlmfhaaGreatDoor
