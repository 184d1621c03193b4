/- quernref21.Make of a geometry that may be, on the evaluator's level. -/
import Derived.Test.YtdnkofpkkebefaaGreatDoorBlk
import Derived.Test.YtdnkofpkkebefaaGreatDoorRGd
set_option linter.unusedSimpArgs false
set_option linter.unusedVariables false
set_option linter.unusedSectionVars false
set_option maxRecDepth 100000
namespace Go.Proofs.YtdnkofpkkebefaaGreatDoor
open Go.Ev
noncomputable def q16 (p : List Nat) : Code := piece p (bodyOf Tryz.f16)
theorem q16_11111012 : q16 [1, 1, 1, 1, 1, 0, 1, 2] = .loop (q16 [1, 1, 1, 1, 1, 0, 1, 2, 2]) := by kernel_rfl
theorem q16_11111111012 : q16 [1, 1, 1, 1, 1, 1, 1, 1, 0, 1, 2] = .loop (q16 [1, 1, 1, 1, 1, 1, 1, 1, 0, 1, 2, 2]) := by kernel_rfl
theorem q16_111111110122102101 : q16 [1, 1, 1, 1, 1, 1, 1, 1, 0, 1, 2, 2, 1, 0, 2, 1, 0, 1] = .block 4 (q16 [1, 1, 1, 1, 1, 1, 1, 1, 0, 1, 2, 2, 1, 0, 2, 1, 0, 1, 2]) := by kernel_rfl
theorem q16_1111111101221021012 : q16 [1, 1, 1, 1, 1, 1, 1, 1, 0, 1, 2, 2, 1, 0, 2, 1, 0, 1, 2] = .loop (q16 [1, 1, 1, 1, 1, 1, 1, 1, 0, 1, 2, 2, 1, 0, 2, 1, 0, 1, 2, 2]) := by kernel_rfl
def bitF (sz ino : Nat) (k a : Int) (i : Nat) : Bool := if k = 4 then (decide (i < 2 + ino / 4) || decide (sz ≤ i)) else if k = 5 then (decide (ino ≤ i) || (decide (i = 0) && decide (a = 0))) else false
def upto (f : Nat → Bool) (i : Nat) : Nat → Bool := fun j => decide (j < i) && f j
theorem bits_set (f : Nat → Bool) (i : Nat) (hi : i < 2048) (v : Bool) (hv : v = f i) : writeRow 1 (bitsRow (upto f i)) i [.bool v] = some (bitsRow (upto f (i + 1))) := by
 subst hv
 have hx : (bitsRow (upto f i))[i]? = some [.bool (upto f i i)] := by simp [bitsRow, hi]
 rw [writeRow_one hx]
 congr 1
 refine List.ext_getElem (by simp [bitsRow]) fun t h1 h2 => ?_
 simp only [List.getElem_set]
 simp only [bitsRow, List.getElem_map, List.getElem_range, upto]
 by_cases e : i = t
 ·subst e; simp
 ·rw [if_neg e]
  congr 3
  simp only [decide_eq_decide]
  omega
theorem bits_skip (f : Nat → Bool) (i : Nat) (hv : f i = false) : bitsRow (upto f i) = bitsRow (upto f (i + 1)) := by
 unfold bitsRow
 refine List.map_congr_left fun t _ => ?_
 simp only [upto]
 by_cases e : t = i
 ·subst e; simp [hv]
 ·congr 3
  simp only [decide_eq_decide]
  omega
section
variable (Hh : Hearts K Tryz.prog)
include Hh
theorem mk4 {gr sz ino jr : Nat} (F : Fine gr sz ino jr) (p nA nb b : Nat) (hnp : nb ≠ p) (hnA : nb ≠ nA) (L : List (List C)) (roA : Bool) (kd a c d : Int) (hx' : L[b]? = some (thing kd a c d)) (hlen : L.length ≤ 4000) : ∀ (k i : Nat) (ts : Tmps) (h : Go.Ev.H), i + k = 2048 → h.get p = some (.row 4 [[.int .i64 gr, .int .i64 sz, .int .i64 ino, .int .i64 jr]] false) → h.get nA = some (.row 4 L roA) → h.get nb = some (.row 1 (bitsRow (upto (bitF sz ino kd a) i)) false) →
  evalT ts 1 = .w (.c (.ptr p 0)) → evalT ts 4 = .w (.c (.slice nA 0 L.length 4)) → evalT ts 8 = .w (.c (.int .i64 b)) → evalT ts 9 = .w (.c (.slice nb 0 2048 1)) → evalT ts 10 = .w (.c (.int .i64 i)) → nb < h.next →
  Goes K Tryz.prog 159 none (q16 [1, 1, 1, 1, 1, 1, 1, 1, 0, 1, 2, 2, 1, 0, 2, 1, 0, 1, 2]) [] ts h fun x ds' ts' h' => x = .exit 4 ∧ ds' = [] ∧ h'.next = h.next ∧ h'.get nb = some (.row 1 (bitsRow (bitF sz ino kd a)) false) ∧ (∀ m, m ≠ nb → h'.get m = h.get m) ∧ ∀ s, s ≤ 9 → evalT ts' s = evalT ts s := by
 obtain ⟨g1, g2, g3, g4, g5, g6, g7, g8, g9, g10, g11⟩ := F
 intro k
 induction k with
 | zero =>
  intro i ts h hi hp hA hb h1 h4 h8 h9 h10 hnb'
  have ei : i = 2048 := by omega
  subst ei
  have eb : bitsRow (upto (bitF sz ino kd a) 2048) = bitsRow (bitF sz ino kd a) := by
   unfold bitsRow
   refine List.map_congr_left fun t ht => ?_
   have := List.mem_range.1 ht
   simp [upto, this]
  rw [eb] at hb
  iterate 6 (first | apply Goes.seq | apply Goes.exit | apply Goes.loop | ((first | apply Goes.condV | apply Goes.ops2 fits Hh E0_sound); · simp (decide := true) only [go_sem, putTH_some, H.get_put, H.get_new, loadIn, storeIn, reduceIte, Nat.reduceAdd, Nat.reduceMul, evalC, evalO_tmp, asC, evalT_set, dec_true, dec_false, h10] <;> rfl))
  refine ⟨rfl, rfl, rfl, hb, fun _ _ => rfl, fun s hs => ?_⟩
  simp (decide := true) only [evalT_low hs]
 | succ k ih =>
  intro i ts h hi hp hA hb h1 h4 h8 h9 h10 hnb'
  have hbl : b < L.length := by
   rcases Nat.lt_or_ge b L.length with h2 | h2
   ·exact h2
   ·rw [List.getElem?_eq_none h2] at hx'; cases hx'
  have r0 : read1 4 L (b * 4) = some (.int .u8 kd) := read1_el (sz := 4) (j := 0) (by omega) hx'
  have r1 : read1 4 L (b * 4 + 1) = some (.int .i64 a) := read1_el (sz := 4) (j := 1) (by omega) hx'
  have c1 : decide ((i : Int) < 2048) = true := decide_eq_true (by omega)
  have b1 : Nat.blt b L.length = true := blt_true hbl
  have b2 : Nat.blt i 2048 = true := blt_true (by omega)
  have q1 : opQuo .i64 (ino : Int) 4 = some (.int .i64 ((ino / 4 : Nat) : Int)) := by
   show some (wrapC .i64 ((ino : Int).tdiv 4)) = _
   rw [show (ino : Int).tdiv 4 = ((ino / 4 : Nat) : Int) from rfl, wrap64 (by omega) (by omega)]
  have w0 : wrapC .i64 (2 + ((ino / 4 : Nat) : Int)) = .int .i64 ((2 + ino / 4 : Nat) : Int) := by rw [wrap64 (by omega) (by omega)]; congr 1
  have w1 : wrapC .i64 ((i : Int) + 1) = .int .i64 ((i + 1 : Nat) : Int) := by rw [wrap64 (by omega) (by omega)]; congr 1
  have hn1 : nA ≠ nb := Ne.symm hnA
  by_cases k4 : kd = 4
  ·have e4 : (kd == 4) = true := by rw [k4]; rfl
   have e5 : (kd == 5) = false := by rw [k4]; rfl
   by_cases hi1 : i < 2 + ino / 4
   ·have c2 : decide ((i : Int) < ((2 + ino / 4 : Nat) : Int)) = true := decide_eq_true (by omega)
    have wr := bits_set (bitF sz ino kd a) i (by omega) true (by simp [bitF, k4, hi1])
    iterate 18 (first | apply Goes.seq | apply Goes.skip | apply Goes.block | apply Goes.loop | ((first | apply Goes.condV | apply Goes.ops2 fits Hh E0_sound); · simp (decide := true) only [go_sem, putTH_some, H.get_put, H.get_new, loadIn, storeIn, reduceIte, Nat.reduceAdd, Nat.reduceMul, evalC, evalO_tmp, asC, evalT_set, dec_true, dec_false, h1, h4, h8, h9, h10, hp, hA, hb, hn1, c1, b1, b2, r0, r1, q1, w0, w1, wr, e4, e5, c2, fGeo1, fGeo2, geo1, geo2, fThing0, fThing1, tyThings, dThings, tyThing, sThing, tyBools, dBools, tyBool, sBool, tyInt, sInt, aInt, tyByte, sByte, aByte, cW, Nat.zero_add, Nat.add_zero, Nat.mul_one, Nat.beq_refl] <;> rfl))
    show Goes K Tryz.prog 159 none (.loop (q16 [1, 1, 1, 1, 1, 1, 1, 1, 0, 1, 2, 2, 1, 0, 2, 1, 0, 1, 2, 2])) _ _ _ _
    rw [← q16_1111111101221021012]
    refine (ih (i + 1) _ _ (by omega) ?_ ?_ ?_ ?_ ?_ ?_ ?_ ?_ ?_).mono ?_
    ·rw [H.get_put, if_neg (Ne.symm hnp)]; exact hp
    ·rw [H.get_put, if_neg (Ne.symm hnA)]; exact hA
    ·rw [H.get_put, if_pos rfl]
    ·simp (decide := true) only [evalT_set, reduceIte, h1]
    ·simp (decide := true) only [evalT_set, reduceIte, h4]
    ·simp (decide := true) only [evalT_set, reduceIte, h8]
    ·simp (decide := true) only [evalT_set, reduceIte, h9]
    ·simp (decide := true) only [evalT_set, reduceIte]
    ·exact hnb'
    ·rintro x ds' ts' h' ⟨e1, e2, e3, e4, e5, e6⟩
     refine ⟨e1, e2, e3, e4, fun m hm => ?_, fun s hs => ?_⟩
     ·rw [e5 m hm, H.get_put, if_neg hm]
     ·rw [e6 s hs]
      simp (decide := true) only [evalT_low hs]
   ·have c2 : decide ((i : Int) < ((2 + ino / 4 : Nat) : Int)) = false := decide_eq_false (by omega)
    have wr := bits_set (bitF sz ino kd a) i (by omega) (decide ((i : Int) ≥ (sz : Int))) (by simp [bitF, k4, hi1])
    iterate 18 (first | apply Goes.seq | apply Goes.skip | apply Goes.block | apply Goes.loop | ((first | apply Goes.condV | apply Goes.ops2 fits Hh E0_sound); · simp (decide := true) only [go_sem, putTH_some, H.get_put, H.get_new, loadIn, storeIn, reduceIte, Nat.reduceAdd, Nat.reduceMul, evalC, evalO_tmp, asC, evalT_set, dec_true, dec_false, h1, h4, h8, h9, h10, hp, hA, hb, hn1, c1, b1, b2, r0, r1, q1, w0, w1, wr, e4, e5, c2, fGeo1, fGeo2, geo1, geo2, fThing0, fThing1, tyThings, dThings, tyThing, sThing, tyBools, dBools, tyBool, sBool, tyInt, sInt, aInt, tyByte, sByte, aByte, cW, Nat.zero_add, Nat.add_zero, Nat.mul_one, Nat.beq_refl] <;> rfl))
    show Goes K Tryz.prog 159 none (.loop (q16 [1, 1, 1, 1, 1, 1, 1, 1, 0, 1, 2, 2, 1, 0, 2, 1, 0, 1, 2, 2])) _ _ _ _
    rw [← q16_1111111101221021012]
    refine (ih (i + 1) _ _ (by omega) ?_ ?_ ?_ ?_ ?_ ?_ ?_ ?_ ?_).mono ?_
    ·rw [H.get_put, if_neg (Ne.symm hnp)]; exact hp
    ·rw [H.get_put, if_neg (Ne.symm hnA)]; exact hA
    ·rw [H.get_put, if_pos rfl]
    ·simp (decide := true) only [evalT_set, reduceIte, h1]
    ·simp (decide := true) only [evalT_set, reduceIte, h4]
    ·simp (decide := true) only [evalT_set, reduceIte, h8]
    ·simp (decide := true) only [evalT_set, reduceIte, h9]
    ·simp (decide := true) only [evalT_set, reduceIte]
    ·exact hnb'
    ·rintro x ds' ts' h' ⟨e1, e2, e3, e4, e5, e6⟩
     refine ⟨e1, e2, e3, e4, fun m hm => ?_, fun s hs => ?_⟩
     ·rw [e5 m hm, H.get_put, if_neg hm]
     ·rw [e6 s hs]
      simp (decide := true) only [evalT_low hs]
  ·have e4 : (kd == 4) = false := by simpa using k4
   by_cases k5 : kd = 5
   ·have e5 : (kd == 5) = true := by rw [k5]; rfl
    by_cases hi1 : ino ≤ i
    ·have c2 : decide ((i : Int) ≥ (ino : Int)) = true := decide_eq_true (by omega)
     have wr := bits_set (bitF sz ino kd a) i (by omega) true (by simp [bitF, k5, hi1])
     iterate 18 (first | apply Goes.seq | apply Goes.skip | apply Goes.block | apply Goes.loop | ((first | apply Goes.condV | apply Goes.ops2 fits Hh E0_sound); · simp (decide := true) only [go_sem, putTH_some, H.get_put, H.get_new, loadIn, storeIn, reduceIte, Nat.reduceAdd, Nat.reduceMul, evalC, evalO_tmp, asC, evalT_set, dec_true, dec_false, h1, h4, h8, h9, h10, hp, hA, hb, hn1, c1, b1, b2, r0, r1, q1, w0, w1, wr, e4, e5, c2, fGeo1, fGeo2, geo1, geo2, fThing0, fThing1, tyThings, dThings, tyThing, sThing, tyBools, dBools, tyBool, sBool, tyInt, sInt, aInt, tyByte, sByte, aByte, cW, Nat.zero_add, Nat.add_zero, Nat.mul_one, Nat.beq_refl] <;> rfl))
     show Goes K Tryz.prog 159 none (.loop (q16 [1, 1, 1, 1, 1, 1, 1, 1, 0, 1, 2, 2, 1, 0, 2, 1, 0, 1, 2, 2])) _ _ _ _
     rw [← q16_1111111101221021012]
     refine (ih (i + 1) _ _ (by omega) ?_ ?_ ?_ ?_ ?_ ?_ ?_ ?_ ?_).mono ?_
     ·rw [H.get_put, if_neg (Ne.symm hnp)]; exact hp
     ·rw [H.get_put, if_neg (Ne.symm hnA)]; exact hA
     ·rw [H.get_put, if_pos rfl]
     ·simp (decide := true) only [evalT_set, reduceIte, h1]
     ·simp (decide := true) only [evalT_set, reduceIte, h4]
     ·simp (decide := true) only [evalT_set, reduceIte, h8]
     ·simp (decide := true) only [evalT_set, reduceIte, h9]
     ·simp (decide := true) only [evalT_set, reduceIte]
     ·exact hnb'
     ·rintro x ds' ts' h' ⟨e1, e2, e3, e4, e5, e6⟩
      refine ⟨e1, e2, e3, e4, fun m hm => ?_, fun s hs => ?_⟩
      ·rw [e5 m hm, H.get_put, if_neg hm]
      ·rw [e6 s hs]
       simp (decide := true) only [evalT_low hs]
    ·have c2 : decide ((i : Int) ≥ (ino : Int)) = false := decide_eq_false (by omega)
     by_cases hi0 : i = 0
     ·have c3 : (((i : Nat) : Int) == 0) = true := by rw [hi0]; rfl
      have wr := bits_set (bitF sz ino kd a) i (by omega) (a == 0) (by
       rw [bitF, if_neg k4, if_pos k5, decide_eq_false hi1, decide_eq_true hi0]
       rfl)
      iterate 18 (first | apply Goes.seq | apply Goes.skip | apply Goes.block | apply Goes.loop | ((first | apply Goes.condV | apply Goes.ops2 fits Hh E0_sound); · simp (decide := true) only [go_sem, putTH_some, H.get_put, H.get_new, loadIn, storeIn, reduceIte, Nat.reduceAdd, Nat.reduceMul, evalC, evalO_tmp, asC, evalT_set, dec_true, dec_false, h1, h4, h8, h9, h10, hp, hA, hb, hn1, c1, b1, b2, r0, r1, q1, w0, w1, wr, e4, e5, c2, c3, fGeo1, fGeo2, geo1, geo2, fThing0, fThing1, tyThings, dThings, tyThing, sThing, tyBools, dBools, tyBool, sBool, tyInt, sInt, aInt, tyByte, sByte, aByte, cW, Nat.zero_add, Nat.add_zero, Nat.mul_one, Nat.beq_refl] <;> rfl))
      show Goes K Tryz.prog 159 none (.loop (q16 [1, 1, 1, 1, 1, 1, 1, 1, 0, 1, 2, 2, 1, 0, 2, 1, 0, 1, 2, 2])) _ _ _ _
      rw [← q16_1111111101221021012]
      refine (ih (i + 1) _ _ (by omega) ?_ ?_ ?_ ?_ ?_ ?_ ?_ ?_ ?_).mono ?_
      ·rw [H.get_put, if_neg (Ne.symm hnp)]; exact hp
      ·rw [H.get_put, if_neg (Ne.symm hnA)]; exact hA
      ·rw [H.get_put, if_pos rfl]
      ·simp (decide := true) only [evalT_set, reduceIte, h1]
      ·simp (decide := true) only [evalT_set, reduceIte, h4]
      ·simp (decide := true) only [evalT_set, reduceIte, h8]
      ·simp (decide := true) only [evalT_set, reduceIte, h9]
      ·simp (decide := true) only [evalT_set, reduceIte]
      ·exact hnb'
      ·rintro x ds' ts' h' ⟨e1, e2, e3, e4, e5, e6⟩
       refine ⟨e1, e2, e3, e4, fun m hm => ?_, fun s hs => ?_⟩
       ·rw [e5 m hm, H.get_put, if_neg hm]
       ·rw [e6 s hs]
        simp (decide := true) only [evalT_low hs]
     ·have c3 : (((i : Nat) : Int) == 0) = false := by simpa using hi0
      have wr := bits_set (bitF sz ino kd a) i (by omega) false (by simp [bitF, k5, hi1, hi0])
      iterate 18 (first | apply Goes.seq | apply Goes.skip | apply Goes.block | apply Goes.loop | ((first | apply Goes.condV | apply Goes.ops2 fits Hh E0_sound); · simp (decide := true) only [go_sem, putTH_some, H.get_put, H.get_new, loadIn, storeIn, reduceIte, Nat.reduceAdd, Nat.reduceMul, evalC, evalO_tmp, asC, evalT_set, dec_true, dec_false, h1, h4, h8, h9, h10, hp, hA, hb, hn1, c1, b1, b2, r0, r1, q1, w0, w1, wr, e4, e5, c2, c3, fGeo1, fGeo2, geo1, geo2, fThing0, fThing1, tyThings, dThings, tyThing, sThing, tyBools, dBools, tyBool, sBool, tyInt, sInt, aInt, tyByte, sByte, aByte, cW, Nat.zero_add, Nat.add_zero, Nat.mul_one, Nat.beq_refl] <;> rfl))
      show Goes K Tryz.prog 159 none (.loop (q16 [1, 1, 1, 1, 1, 1, 1, 1, 0, 1, 2, 2, 1, 0, 2, 1, 0, 1, 2, 2])) _ _ _ _
      rw [← q16_1111111101221021012]
      refine (ih (i + 1) _ _ (by omega) ?_ ?_ ?_ ?_ ?_ ?_ ?_ ?_ ?_).mono ?_
      ·rw [H.get_put, if_neg (Ne.symm hnp)]; exact hp
      ·rw [H.get_put, if_neg (Ne.symm hnA)]; exact hA
      ·rw [H.get_put, if_pos rfl]
      ·simp (decide := true) only [evalT_set, reduceIte, h1]
      ·simp (decide := true) only [evalT_set, reduceIte, h4]
      ·simp (decide := true) only [evalT_set, reduceIte, h8]
      ·simp (decide := true) only [evalT_set, reduceIte, h9]
      ·simp (decide := true) only [evalT_set, reduceIte]
      ·exact hnb'
      ·rintro x ds' ts' h' ⟨e1, e2, e3, e4, e5, e6⟩
       refine ⟨e1, e2, e3, e4, fun m hm => ?_, fun s hs => ?_⟩
       ·rw [e5 m hm, H.get_put, if_neg hm]
       ·rw [e6 s hs]
        simp (decide := true) only [evalT_low hs]
   ·have e5 : (kd == 5) = false := by simpa using k5
    have hskip : h.get nb = some (.row 1 (bitsRow (upto (bitF sz ino kd a) (i + 1))) false) := by rw [← bits_skip _ _ (by simp [bitF, k4, k5])]; exact hb
    have wr := hskip
    iterate 18 (first | apply Goes.seq | apply Goes.skip | apply Goes.block | apply Goes.loop | ((first | apply Goes.condV | apply Goes.ops2 fits Hh E0_sound); · simp (decide := true) only [go_sem, putTH_some, H.get_put, H.get_new, loadIn, storeIn, reduceIte, Nat.reduceAdd, Nat.reduceMul, evalC, evalO_tmp, asC, evalT_set, dec_true, dec_false, h1, h4, h8, h9, h10, hp, hA, hb, hn1, c1, b1, b2, r0, r1, q1, w0, w1, wr, e4, e5, fGeo1, fGeo2, geo1, geo2, fThing0, fThing1, tyThings, dThings, tyThing, sThing, tyBools, dBools, tyBool, sBool, tyInt, sInt, aInt, tyByte, sByte, aByte, cW, Nat.zero_add, Nat.add_zero, Nat.mul_one, Nat.beq_refl] <;> rfl))
    show Goes K Tryz.prog 159 none (.loop (q16 [1, 1, 1, 1, 1, 1, 1, 1, 0, 1, 2, 2, 1, 0, 2, 1, 0, 1, 2, 2])) _ _ _ _
    rw [← q16_1111111101221021012]
    refine (ih (i + 1) _ _ (by omega) ?_ ?_ ?_ ?_ ?_ ?_ ?_ ?_ ?_).mono ?_
    ·exact hp
    ·exact hA
    ·exact hskip
    ·simp (decide := true) only [evalT_set, reduceIte, h1]
    ·simp (decide := true) only [evalT_set, reduceIte, h4]
    ·simp (decide := true) only [evalT_set, reduceIte, h8]
    ·simp (decide := true) only [evalT_set, reduceIte, h9]
    ·simp (decide := true) only [evalT_set, reduceIte]
    ·exact hnb'
    ·rintro x ds' ts' h' ⟨e1, e2, e3, e4, e5, e6⟩
     refine ⟨e1, e2, e3, e4, e5, fun s hs => ?_⟩
     rw [e6 s hs]
     simp (decide := true) only [evalT_low hs]
end
end Go.Proofs.YtdnkofpkkebefaaGreatDoor
