/- quernref02.Sum, on the evaluator's level. -/
import Derived.Test.YtdnkofpkkebefaaGreatDoorTy
set_option linter.unusedSimpArgs false
set_option linter.unusedVariables false
set_option linter.unusedSectionVars false
set_option maxRecDepth 100000
namespace Go.Proofs.YtdnkofpkkebefaaGreatDoor
open Go.Ev
def shiftN (v : Nat) : Nat := bif Nat.beq (v % 2) 1 then Nat.xor (v / 2) 3988292384 else v / 2
def shifts : Nat → Nat → Nat
 | 0, v => v
 | k + 1, v => shifts k (shiftN v)
def sumL : List Nat → Nat → Nat
 | [], v => v
 | b :: l, v => sumL l (shifts 8 (Nat.xor v b))
def sumN (l : List Nat) : Nat := 4294967295 - sumL l 4294967295
theorem shiftN_lt {v : Nat} (h : v < 4294967296) : shiftN v < 4294967296 := by
 unfold shiftN
 cases Nat.beq (v % 2) 1 with
 | true => exact Nat.xor_lt_two_pow (n := 32) (by omega) (by omega)
 | false => show v / 2 < _; omega
theorem shifts_lt : ∀ (k : Nat) {v : Nat}, v < 4294967296 → shifts k v < 4294967296
 | 0, _, h => h
 | k + 1, _, h => shifts_lt k (shiftN_lt h)
noncomputable def q162 (p : List Nat) : Code := piece p (bodyOf Tryz.f162)
theorem q162_11012 : q162 [1, 1, 0, 1, 2] = .loop (q162 [1, 1, 0, 1, 2, 2]) := by kernel_rfl
theorem q162_11012210211 : q162 [1, 1, 0, 1, 2, 2, 1, 0, 2, 1, 1] = .block 2 (q162 [1, 1, 0, 1, 2, 2, 1, 0, 2, 1, 1, 2]) := by kernel_rfl
theorem q162_110122102112 : q162 [1, 1, 0, 1, 2, 2, 1, 0, 2, 1, 1, 2] = .loop (q162 [1, 1, 0, 1, 2, 2, 1, 0, 2, 1, 1, 2, 2]) := by kernel_rfl
noncomputable def q270 (p : List Nat) : Code := piece p (bodyOf Tryz.f270)
section
variable (Hh : Hearts K Tryz.prog)
include Hh
theorem shiftOk (v : Nat) (hv : v < 4294967296) (h : Go.Ev.H) : CallOk K Tryz.prog 270 [.c (.int .u32 v)] h (.w (.c (.int .u32 (shiftN v)))) h := by
 have e0 : evalT (argTmps 0 [.c (.int .u32 (v : Int))] .nil) 0 = .w (.c (.int .u32 v)) := by rw [evalT_args]; rfl
 refine CallOk.goes fits Hh (by kernel_rfl) (by kernel_rfl) (by kernel_rfl) (show Tryz.f270.body = some (q270 []) by kernel_rfl) rfl ?_
 have r1 : opRem .u32 (v : Int) 2 = some (.int .u32 ((v % 2 : Nat) : Int)) := by
  show some (C.int .u32 ((v : Int).tmod 2)) = _
  congr 2
 have r2 : opQuo .u32 (v : Int) 2 = some (.int .u32 ((v / 2 : Nat) : Int)) := by
  show some (wrapC .u32 ((v : Int).tdiv 2)) = _
  rw [show (v : Int).tdiv 2 = ((v / 2 : Nat) : Int) from rfl, wrapU32 (by omega)]
 have e1 : Tryz.f270.results.toList = [.tmp 2] := rfl
 by_cases hc : v % 2 = 1
 ·have d1 : (((v % 2 : Nat) : Int) == 1) = true := by rw [hc]; rfl
  have x1 : opBit .u32 Nat.xor ((v / 2 : Nat) : Int) 3988292384 = .int .u32 (Nat.xor (v / 2) 3988292384 : Nat) := xorU32 (b := 3988292384) (by omega) (by omega)
  have e2 : shiftN v = Nat.xor (v / 2) 3988292384 := by unfold shiftN; rw [hc]; rfl
  rw [e2]
  show Goes K Tryz.prog 11 none _ _ _ _ _
  iterate 9 (first | apply Goes.seq | apply Goes.ret | ((first | apply Goes.condV | apply Goes.ops2 fits Hh E0_sound); · simp (decide := true) only [go_sem, putTH_some, H.get_put, H.get_new, loadIn, storeIn, reduceIte, Nat.reduceAdd, Nat.reduceMul, evalC, evalO_tmp, asC, evalT_set, dec_true, dec_false, e0, r1, r2, d1, x1] <;> rfl))
  simp (decide := true) only [leave_ret, takeMarks, finish, e1, resultsOf, evalW, evalO_tmp, asW, evalT_set, reduceIte, resultOf]
 ·have d1 : (((v % 2 : Nat) : Int) == 1) = false := by rw [show v % 2 = 0 by omega]; rfl
  have e2 : shiftN v = v / 2 := by unfold shiftN; rw [show v % 2 = 0 by omega]; rfl
  rw [e2]
  show Goes K Tryz.prog 11 none _ _ _ _ _
  iterate 10 (first | apply Goes.seq | apply Goes.skip | apply Goes.ret | ((first | apply Goes.condV | apply Goes.ops2 fits Hh E0_sound); · simp (decide := true) only [go_sem, putTH_some, H.get_put, H.get_new, loadIn, storeIn, reduceIte, Nat.reduceAdd, Nat.reduceMul, evalC, evalO_tmp, asC, evalT_set, dec_true, dec_false, e0, r1, r2, d1] <;> rfl))
  simp (decide := true) only [leave_ret, takeMarks, finish, e1, resultsOf, evalW, evalO_tmp, asW, evalT_set, reduceIte, resultOf]
theorem sumInner (h : Go.Ev.H) : ∀ (k i v : Nat) (ts : Tmps), i + k = 8 → v < 4294967296 → evalT ts 3 = .w (.c (.int .u32 v)) → evalT ts 5 = .w (.c (.int .i64 i)) →
  Goes K Tryz.prog 27 none (q162 [1, 1, 0, 1, 2, 2, 1, 0, 2, 1, 1, 2]) [] ts h fun x ds' ts' h' => x = .exit 2 ∧ ds' = [] ∧ h' = h ∧ evalT ts' 3 = .w (.c (.int .u32 (shifts k v))) ∧ evalT ts' 0 = evalT ts 0 ∧ evalT ts' 4 = evalT ts 4 := by
 intro k
 induction k with
 | zero =>
  intro i v ts hi hv h3 h5
  have ei : i = 8 := by omega
  subst ei
  iterate 6 (first | apply Goes.seq | apply Goes.exit | apply Goes.loop | ((first | apply Goes.condV | apply Goes.ops2 fits Hh E0_sound); · simp (decide := true) only [go_sem, putTH_some, H.get_put, H.get_new, loadIn, storeIn, reduceIte, Nat.reduceAdd, Nat.reduceMul, evalC, evalO_tmp, asC, evalT_set, dec_true, dec_false, h5] <;> rfl))
  refine ⟨rfl, rfl, rfl, ?_, ?_, ?_⟩
  ·simp (decide := true) only [evalT_set, reduceIte, h3, shifts]
  ·simp (decide := true) only [evalT_set, reduceIte]
  ·simp (decide := true) only [evalT_set, reduceIte]
 | succ k ih =>
  intro i v ts hi hv h3 h5
  have d1 : decide ((i : Int) < 8) = true := decide_eq_true (by omega)
  have w1 : wrapC .i64 ((i : Int) + 1) = .int .i64 ((i + 1 : Nat) : Int) := by rw [wrap64 (by omega) (by omega)]; congr 1
  iterate 8 (first | apply Goes.seq | apply Goes.skip | apply Goes.block | apply Goes.loop | ((first | apply Goes.condV | apply Goes.ops2 fits Hh E0_sound); · simp (decide := true) only [go_sem, putTH_some, H.get_put, H.get_new, loadIn, storeIn, reduceIte, Nat.reduceAdd, Nat.reduceMul, evalC, evalO_tmp, asC, evalT_set, dec_true, dec_false, h3, h5, d1, w1] <;> rfl))
  (apply Goes.ops2 fits Hh (E1_sound E0_sound (shiftOk Hh v hv h)); · simp (decide := true) only [go_sem, putTH_some, H.get_put, H.get_new, loadIn, storeIn, reduceIte, Nat.reduceAdd, Nat.reduceMul, E1_call, h3, h5, d1, w1] <;> rfl)
  (apply Goes.ops2 fits Hh E0_sound; · simp (decide := true) only [go_sem, putTH_some, H.get_put, H.get_new, loadIn, storeIn, reduceIte, Nat.reduceAdd, Nat.reduceMul, h3, h5, d1, w1] <;> rfl)
  show Goes K Tryz.prog 27 none (.loop (q162 [1, 1, 0, 1, 2, 2, 1, 0, 2, 1, 1, 2, 2])) _ _ _ _
  rw [← q162_110122102112]
  refine (ih (i + 1) (shiftN v) _ (by omega) (shiftN_lt hv) ?_ ?_).mono ?_
  ·simp (decide := true) only [evalT_set, reduceIte]
  ·simp (decide := true) only [evalT_set, reduceIte]
  ·rintro x ds' ts' h' ⟨e1, e2, e3, e4, e5, e6⟩
   refine ⟨e1, e2, e3, e4, ?_, ?_⟩
   ·rw [e5]; simp (decide := true) only [evalT_set, reduceIte]
   ·rw [e6]; simp (decide := true) only [evalT_set, reduceIte]
theorem sumOuter (h : Go.Ev.H) (n off len : Nat) (o : O) (ho : h.get n = some o) (hlen : len < 4294967296) : ∀ (l : List Nat) (i v : Nat) (ts : Tmps), i + l.length = len → (∀ j (b : Nat), l[j]? = some b → b < 256 ∧ loadIn ti5 (off + (i + j)) (some o) = some (.c (.int .u8 (b : Int)))) → v < 4294967296 → evalT ts 0 = .w (.c (.slice n off len 1)) → evalT ts 3 = .w (.c (.int .u32 v)) → evalT ts 4 = .w (.c (.int .i64 i)) →
  Goes K Tryz.prog 27 none (q162 [1, 1, 0, 1, 2]) [] ts h fun x ds' ts' h' => x = .exit 0 ∧ ds' = [] ∧ h' = h ∧ evalT ts' 3 = .w (.c (.int .u32 (sumL l v))) ∧ sumL l v < 4294967296 := by
 intro l
 induction l with
 | nil =>
  intro i v ts hi hl hv h0 h3 h4
  have d1 : decide ((i : Int) < (len : Int)) = false := decide_eq_false (by simp at hi; omega)
  have fl : lenFits K 31 (.c (.slice n off len 1)) = true := by unfold lenFits; rw [tyBytes]; rfl
  iterate 6 (first | apply Goes.seq | apply Goes.exit | apply Goes.loop | ((first | apply Goes.condV | apply Goes.ops2 fits Hh E0_sound); · simp (decide := true) only [go_sem, putTH_some, H.get_put, H.get_new, loadIn, storeIn, reduceIte, Nat.reduceAdd, Nat.reduceMul, evalC, evalO_tmp, asC, evalT_set, dec_true, dec_false, h0, h4, d1, fl, opBuiltin, opLen] <;> rfl))
  refine ⟨rfl, rfl, rfl, ?_, hv⟩
  simp (decide := true) only [evalT_set, reduceIte, h3, sumL]
 | cons b l ih =>
  intro i v ts hi hl hv h0 h3 h4
  simp only [List.length_cons] at hi
  have d1 : decide ((i : Int) < (len : Int)) = true := decide_eq_true (by omega)
  have fl : lenFits K 31 (.c (.slice n off len 1)) = true := by unfold lenFits; rw [tyBytes]; rfl
  have w1 : wrapC .i64 ((i : Int) + 1) = .int .i64 ((i + 1 : Nat) : Int) := by rw [wrap64 (by omega) (by omega)]; congr 1
  have b1 : Nat.blt i len = true := blt_true (by omega)
  obtain ⟨hb, ld⟩ := hl 0 b rfl
  rw [Nat.add_zero] at ld
  have w2 : wrapC .u32 (b : Int) = .int .u32 (b : Int) := wrapU32 (by omega)
  have x1 := xorU32 hv (show b < 4294967296 by omega)
  have hx : Nat.xor v b < 4294967296 := Nat.xor_lt_two_pow (n := 32) hv (by omega)
  iterate 12 (first | apply Goes.seq | apply Goes.skip | apply Goes.block | apply Goes.loop | ((first | apply Goes.condV | apply Goes.ops2 fits Hh E0_sound); · simp (decide := true) only [go_sem, putTH_some, H.get_put, H.get_new, storeIn, reduceIte, Nat.reduceAdd, Nat.reduceMul, evalC, evalO_tmp, asC, evalT_set, dec_true, dec_false, h0, h3, h4, d1, fl, w2, b1, ho, ld, x1, opBuiltin, opLen, tyBytes, tyByte, tyU32, dBytes, dU32, sByte, Nat.beq_refl, Nat.mul_one] <;> rfl))
  show Goes K Tryz.prog 27 none (q162 [1, 1, 0, 1, 2, 2, 1, 0, 2, 1, 1]) _ _ _ _
  rw [q162_11012210211]
  refine Goes.block ((sumInner Hh h 8 0 (Nat.xor v b) _ rfl hx ?_ ?_).mono ?_)
  ·simp (decide := true) only [evalT_set, reduceIte]
  ·simp (decide := true) only [evalT_set, reduceIte]
   rfl
  rintro x ds' ts' h' ⟨rfl, rfl, rfl, e3, e0, e4⟩
  have f0 : evalT ts' 0 = .w (.c (.slice n off len 1)) := by rw [e0]; simp (decide := true) only [evalT_set, reduceIte, h0]
  have f4 : evalT ts' 4 = .w (.c (.int .i64 i)) := by rw [e4]; simp (decide := true) only [evalT_set, reduceIte, h4]
  (apply Goes.ops2 fits Hh E0_sound; · simp (decide := true) only [go_sem, putTH_some, H.get_put, H.get_new, loadIn, storeIn, reduceIte, Nat.reduceAdd, Nat.reduceMul, f0, f4, e3, w1] <;> rfl)
  show Goes K Tryz.prog 27 none (.loop (q162 [1, 1, 0, 1, 2, 2])) _ _ _ _
  rw [← q162_11012]
  refine ih (i + 1) _ _ (by omega) (fun j c hc => ?_) (shifts_lt 8 hx) ?_ ?_ ?_
  ·have := hl (j + 1) c (by simpa using hc)
   rwa [show i + (j + 1) = i + 1 + j by omega] at this
  ·simp (decide := true) only [evalT_set, reduceIte, f0]
  ·simp (decide := true) only [evalT_set, reduceIte, e3]
  ·simp (decide := true) only [evalT_set, reduceIte]
theorem sumOk (h : Go.Ev.H) (n off : Nat) (o : O) (l : List Nat) (ho : h.get n = some o) (hlen : l.length < 4294967296) (hl : ∀ j (b : Nat), l[j]? = some b → b < 256 ∧ loadIn ti5 (off + j) (some o) = some (.c (.int .u8 (b : Int)))) :
  CallOk K Tryz.prog 162 [.c (.slice n off l.length 1)] h (.w (.c (.int .u32 (sumN l)))) h := by
 have e0 : evalT (argTmps 0 [.c (.slice n off l.length 1)] .nil) 0 = .w (.c (.slice n off l.length 1)) := by rw [evalT_args]; rfl
 refine CallOk.goes fits Hh (by kernel_rfl) (by kernel_rfl) (by kernel_rfl) (show Tryz.f162.body = some (q162 []) by kernel_rfl) rfl ?_
 have e1 : Tryz.f162.results.toList = [.tmp 2] := rfl
 show Goes K Tryz.prog 27 none _ _ _ _ _
 iterate 8 (first | apply Goes.seq | apply Goes.block | (apply Goes.ops2 fits Hh E0_sound; · simp (decide := true) only [go_sem, putTH_some, H.get_put, H.get_new, loadIn, storeIn, reduceIte, Nat.reduceAdd, Nat.reduceMul, e0] <;> rfl))
 show Goes K Tryz.prog 27 none (q162 [1, 1, 0, 1, 2]) _ _ _ _
 refine (sumOuter Hh h n off l.length o ho hlen l 0 4294967295 _ (by omega) ?_ (by omega) ?_ ?_ ?_).mono ?_
 ·intro j b hb
  rw [Nat.zero_add]
  exact hl j b hb
 ·simp (decide := true) only [evalT_set, reduceIte, e0]
 ·simp (decide := true) only [evalT_set, reduceIte]
  rfl
 ·simp (decide := true) only [evalT_set, reduceIte]
  rfl
 rintro x ds' ts' h' ⟨rfl, rfl, rfl, e3, hlt⟩
 have w1 : wrapC .u32 (4294967295 - (sumL l 4294967295 : Int)) = .int .u32 (sumN l : Int) := by
  have e : 4294967295 - (sumL l 4294967295 : Int) = ((sumN l : Nat) : Int) := by unfold sumN; omega
  rw [e, wrapU32 (by unfold sumN; omega)]
 iterate 3 (first | apply Goes.seq | apply Goes.ret | (apply Goes.ops2 fits Hh E0_sound; · simp (decide := true) only [go_sem, putTH_some, H.get_put, H.get_new, loadIn, storeIn, reduceIte, Nat.reduceAdd, Nat.reduceMul, e3, w1] <;> rfl))
 simp (decide := true) only [leave_ret, takeMarks, finish, e1, resultsOf, evalW, evalO_tmp, asW, evalT_set, reduceIte, resultOf]
end
end Go.Proofs.YtdnkofpkkebefaaGreatDoor
