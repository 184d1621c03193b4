/- crc.Sum and nums.Zero, on the evaluator's level. -/
import Derived.Test.YtdnkofpkkebefaaGreatDoorTy
import Derived.Test.YtdnkofpkkebefaaGreatDoorEvC
set_option linter.unusedSimpArgs false
set_option linter.unusedVariables false
set_option linter.unusedSectionVars false
set_option maxRecDepth 100000
namespace Go.Proofs.YtdnkofpkkebefaaGreatDoor
open Go.Ev
noncomputable def q138 (p : List Nat) : Code := piece p (bodyOf Tryz.f138)
theorem q138_1012 : q138 [1, 0, 1, 2] = .loop (q138 [1, 0, 1, 2, 2]) := by kernel_rfl
noncomputable def q235 (p : List Nat) : Code := piece p (bodyOf Tryz.f235)
theorem q235_11012 : q235 [1, 1, 0, 1, 2] = .loop (q235 [1, 1, 0, 1, 2, 2]) := by kernel_rfl
theorem q235_110122110211 : q235 [1, 1, 0, 1, 2, 2, 1, 1, 0, 2, 1, 1] = .block 2 (q235 [1, 1, 0, 1, 2, 2, 1, 1, 0, 2, 1, 1, 2]) := by kernel_rfl
theorem q235_1101221102112 : q235 [1, 1, 0, 1, 2, 2, 1, 1, 0, 2, 1, 1, 2] = .loop (q235 [1, 1, 0, 1, 2, 2, 1, 1, 0, 2, 1, 1, 2, 2]) := by kernel_rfl
def stepL : List Nat := [0, 498536548, 997073096, 651767980, 1994146192, 1802195444, 1303535960, 1342533948, 3988292384, 4027552580, 3604390888, 3412177804, 2607071920, 2262029012, 2685067896, 3183342108]
def stepN (j : Nat) : Nat := stepL.getD j 0
def stepsO : O := .row 16 [stepL.map fun (n : Nat) => .int .u32 (n : Int)] true
def half (v : Nat) : Nat := Nat.xor (v / 16) (stepN (Nat.land v 15))
def crcB (v b : Nat) : Nat := half (half (Nat.xor v b))
def crcL : List Nat → Nat → Nat
 | [], v => v
 | b :: l, v => crcL l (crcB v b)
def crcP : List (List Nat) → Nat → Nat
 | [], v => v
 | l :: ps, v => crcP ps (crcL l v)
theorem stepN_lt (j : Nat) : stepN j < 4294967296 := by
 unfold stepN stepL
 by_cases h : j < 16
 ·have : ∀ j : Fin 16, ([0, 498536548, 997073096, 651767980, 1994146192, 1802195444, 1303535960, 1342533948, 3988292384, 4027552580, 3604390888, 3412177804, 2607071920, 2262029012, 2685067896, 3183342108] : List Nat).getD j.1 0 < 4294967296 := by decide
  exact this ⟨j, h⟩
 ·rw [List.getD_eq_getElem?_getD, List.getElem?_eq_none (by show 16 ≤ j; omega)]
  decide
theorem step_read (j : Nat) (h : j < 16) : read1 16 [stepL.map fun (n : Nat) => C.int .u32 (n : Int)] j = some (.int .u32 (stepN j : Nat)) := by
 unfold read1
 rw [Nat.div_eq_of_lt h, Nat.mod_eq_of_lt h, List.getElem?_cons_zero]
 show (stepL.map fun (n : Nat) => C.int .u32 (n : Int))[j]? = _
 rw [List.getElem?_map, stepN]
 have : j < stepL.length := h
 rw [List.getD_eq_getElem?_getD, List.getElem?_eq_getElem this]
 rfl
theorem half_lt {v : Nat} (h : v < 4294967296) : half v < 4294967296 := xor_lt (by omega) (stepN_lt _)
theorem crcB_lt {v b : Nat} (h : v < 4294967296) (hb : b < 256) : crcB v b < 4294967296 := half_lt (half_lt (xor_lt h (by omega)))
theorem crcL_lt : ∀ {l : List Nat} {v : Nat}, v < 4294967296 → (∀ b ∈ l, b < 256) → crcL l v < 4294967296
 | [], _, h, _ => h
 | b :: l, v, h, hb => crcL_lt (l := l) (v := crcB v b) (crcB_lt h (hb b (by simp))) fun c hc => hb c (by simp [hc])
theorem glob0 (ts : Tmps) : evalO K ts (.global 0) = some (.w (.c (.ptr 0 0))) := by
 show evalG K 0 = _
 kernel_rfl
theorem shr4 {v : Nat} : opShr .u32 (v : Int) 4 = some (.int .u32 ((v / 16 : Nat) : Int)) := by
 show some (C.int .u32 ((v : Int).fdiv 16)) = _
 rw [show (v : Int).fdiv 16 = ((v / 16 : Nat) : Int) by rw [Int.fdiv_eq_ediv_of_nonneg _ (by omega)]; rfl]
theorem and15 {v : Nat} (hv : v < 4294967296) : opBit .u32 Nat.land (v : Int) 15 = .int .u32 (Nat.land v 15 : Nat) := bitU32 (b := 15) hv (by omega) (Nat.lt_of_le_of_lt (Nat.and_le_right) (by omega))
theorem land15 (v : Nat) : Nat.land v 15 < 16 := Nat.lt_of_le_of_lt (Nat.and_le_right) (by omega)
section
variable (Hh : Hearts K Tryz.prog)
include Hh
theorem crcIn (h : Go.Ev.H) (n off len : Nat) (o : O) (ho : h.get n = some o) (hst : h.get 0 = some stepsO) (hlen : len < 4294967296) : ∀ (l : List Nat) (i v : Nat) (ts : Tmps), i + l.length = len → (∀ j (b : Nat), l[j]? = some b → b < 256 ∧ loadIn ti5 (off + (i + j)) (some o) = some (.c (.int .u8 (b : Int)))) → v < 4294967296 → evalT ts 14 = .w (.c (.slice n off len 1)) → evalT ts 15 = .w (.c (.int .i64 len)) → evalT ts 3 = .w (.c (.int .u32 v)) → evalT ts 16 = .w (.c (.int .i64 i)) →
  Goes K Tryz.prog 42 none (q235 [1, 1, 0, 1, 2, 2, 1, 1, 0, 2, 1, 1, 2]) [] ts h fun x ds' ts' h' => x = .exit 2 ∧ ds' = [] ∧ h' = h ∧ evalT ts' 3 = .w (.c (.int .u32 (crcL l v))) ∧ evalT ts' 8 = evalT ts 8 ∧ evalT ts' 9 = evalT ts 9 ∧ evalT ts' 10 = evalT ts 10 := by
 intro l
 induction l with
 | nil =>
  intro i v ts hi hl hv h14 h15 h3 h16
  have d1 : decide ((i : Int) < (len : Int)) = false := decide_eq_false (by simp at hi; omega)
  iterate 6 (first | apply Goes.seq | apply Goes.exit | apply Goes.loop | ((first | apply Goes.condV | apply Goes.ops2 fits Hh E0_sound); · simp (decide := true) only [go_sem, putTH_some, H.get_put, H.get_new, loadIn, storeIn, reduceIte, Nat.reduceAdd, Nat.reduceMul, evalC, evalO_tmp, asC, evalT_set, dec_true, dec_false, h15, h16, d1] <;> rfl))
  refine ⟨rfl, rfl, rfl, ?_, ?_, ?_, ?_⟩ <;> simp (decide := true) only [evalT_set, reduceIte, h3, crcL]
 | cons b l ih =>
  intro i v ts hi hl hv h14 h15 h3 h16
  simp only [List.length_cons] at hi
  have d1 : decide ((i : Int) < (len : Int)) = true := decide_eq_true (by omega)
  have w1 : wrapC .i64 ((i : Int) + 1) = .int .i64 ((i + 1 : Nat) : Int) := by rw [wrap64 (by omega) (by omega)]; congr 1
  have b1 : Nat.blt i len = true := blt_true (by omega)
  obtain ⟨hb, ld⟩ := hl 0 b rfl
  rw [Nat.add_zero] at ld
  have w2 : wrapC .u32 (b : Int) = .int .u32 (b : Int) := wrapU32 (by omega)
  have x1 := xorU32 hv (show b < 4294967296 by omega)
  obtain ⟨u, hu⟩ : ∃ u, Nat.xor v b = u := ⟨_, rfl⟩
  have hu' : u < 4294967296 := hu ▸ xor_lt hv (by omega)
  rw [hu] at x1
  have s1 := @shr4 u
  have a1 := and15 hu'
  have b2 : Nat.blt (Nat.land u 15) 16 = true := blt_true (land15 u)
  have st1 : loadIn ti75 (Nat.land u 15) (some stepsO) = some (.c (.int .u32 (stepN (Nat.land u 15) : Nat))) := by
   rw [stepsO, loadIn, aU32, cond_false, step_read _ (land15 u)]
   rfl
  have x2 : opBit .u32 Nat.xor ((u / 16 : Nat) : Int) ((stepN (Nat.land u 15) : Nat) : Int) = .int .u32 (half u : Nat) := xorU32 (by omega) (stepN_lt _)
  obtain ⟨t, ht⟩ : ∃ t, half u = t := ⟨_, rfl⟩
  have ht' : t < 4294967296 := ht ▸ half_lt hu'
  rw [ht] at x2
  have s2 := @shr4 t
  have a2 := and15 ht'
  have b3 : Nat.blt (Nat.land t 15) 16 = true := blt_true (land15 t)
  have st2 : loadIn ti75 (Nat.land t 15) (some stepsO) = some (.c (.int .u32 (stepN (Nat.land t 15) : Nat))) := by
   rw [stepsO, loadIn, aU32, cond_false, step_read _ (land15 t)]
   rfl
  have x3 : opBit .u32 Nat.xor ((t / 16 : Nat) : Int) ((stepN (Nat.land t 15) : Nat) : Int) = .int .u32 (crcB v b : Nat) := by
   rw [crcB, hu, ht]
   exact xorU32 (by omega) (stepN_lt _)
  iterate 16 (first | apply Goes.seq | apply Goes.skip | apply Goes.block | apply Goes.loop | ((first | apply Goes.condV | apply Goes.ops2 fits Hh E0_sound); · simp (decide := true) only [go_sem, putTH_some, H.get_put, H.get_new, storeIn, reduceIte, Nat.reduceAdd, Nat.reduceMul, evalC, evalO_tmp, asC, evalT_set, dec_true, dec_false, h14, h15, h3, h16, d1, w1, w2, b1, ho, ld, x1, s1, a1, b2, hst, st1, x2, s2, a2, b3, st2, x3, tyBytes, tyByte, tyU32, dBytes, dU32, sByte, sU32, tySteps, dSteps, glob0, Nat.beq_refl, Nat.mul_one, Nat.zero_add] <;> rfl))
  show Goes K Tryz.prog 42 none (.loop (q235 [1, 1, 0, 1, 2, 2, 1, 1, 0, 2, 1, 1, 2, 2])) _ _ _ _
  rw [← q235_1101221102112]
  refine (ih (i + 1) _ _ (by omega) (fun j c hc => ?_) (crcB_lt hv hb) ?_ ?_ ?_ ?_).mono ?_
  ·have := hl (j + 1) c (by simpa using hc)
   rwa [show i + (j + 1) = i + 1 + j by omega] at this
  ·simp (decide := true) only [evalT_set, reduceIte, h14]
  ·simp (decide := true) only [evalT_set, reduceIte, h15]
  ·simp (decide := true) only [evalT_set, reduceIte]
  ·simp (decide := true) only [evalT_set, reduceIte]
  ·rintro x ds' ts' h' ⟨e1, e2, e3, e4, e5, e6, e7⟩
   refine ⟨e1, e2, e3, e4, ?_, ?_, ?_⟩
   ·rw [e5]; simp (decide := true) only [evalT_set, reduceIte]
   ·rw [e6]; simp (decide := true) only [evalT_set, reduceIte]
   ·rw [e7]; simp (decide := true) only [evalT_set, reduceIte]
def Holds (h : Go.Ev.H) (c : C) (l : List Nat) : Prop := ∃ n off o, c = .slice n off l.length 1 ∧ h.get n = some o ∧ l.length < 4294967296 ∧ ∀ j (b : Nat), l[j]? = some b → b < 256 ∧ loadIn ti5 (off + j) (some o) = some (.c (.int .u8 (b : Int)))
omit Hh in
theorem Holds.lt {h : Go.Ev.H} {c : C} {l : List Nat} (H : Holds h c l) : ∀ b ∈ l, b < 256 := fun b hb => by
 obtain ⟨_, _, _, _, _, _, hl⟩ := H
 obtain ⟨j, hj⟩ := List.getElem?_of_mem hb
 exact (hl j b hj).1
theorem crcOut (h : Go.Ev.H) (n m : Nat) (cs : List C) (ro : Bool) (ho : h.get n = some (.row 1 (cs.map fun c => [c]) ro)) (hst : h.get 0 = some stepsO) (hm : cs.length = m) (hm' : m < 4294967296) : ∀ (ps : List (List Nat)) (i v : Nat) (ts : Tmps), i + ps.length = m → (∀ (j : Nat) (l : List Nat), ps[j]? = some l → ∃ c, cs[i + j]? = some c ∧ Holds h c l) → v < 4294967296 → evalT ts 8 = .w (.c (.slice n 0 m 1)) → evalT ts 9 = .w (.c (.int .i64 m)) → evalT ts 3 = .w (.c (.int .u32 v)) → evalT ts 10 = .w (.c (.int .i64 i)) →
  Goes K Tryz.prog 42 none (q235 [1, 1, 0, 1, 2]) [] ts h fun x ds' ts' h' => x = .exit 0 ∧ ds' = [] ∧ h' = h ∧ evalT ts' 3 = .w (.c (.int .u32 (crcP ps v))) ∧ crcP ps v < 4294967296 := by
 intro ps
 induction ps with
 | nil =>
  intro i v ts hi hl hv h8 h9 h3 h10
  have d1 : decide ((i : Int) < (m : Int)) = false := decide_eq_false (by simp at hi; omega)
  iterate 6 (first | apply Goes.seq | apply Goes.exit | apply Goes.loop | ((first | apply Goes.condV | apply Goes.ops2 fits Hh E0_sound); · simp (decide := true) only [go_sem, putTH_some, H.get_put, H.get_new, loadIn, storeIn, reduceIte, Nat.reduceAdd, Nat.reduceMul, evalC, evalO_tmp, asC, evalT_set, dec_true, dec_false, h9, h10, d1] <;> rfl))
  refine ⟨rfl, rfl, rfl, ?_, hv⟩
  simp (decide := true) only [evalT_set, reduceIte, h3, crcP]
 | cons l ps ih =>
  intro i v ts hi hl hv h8 h9 h3 h10
  simp only [List.length_cons] at hi
  have d1 : decide ((i : Int) < (m : Int)) = true := decide_eq_true (by omega)
  have b1 : Nat.blt i m = true := blt_true (by omega)
  obtain ⟨c, hc, hold⟩ := hl 0 l rfl
  have hlt := hold.lt
  obtain ⟨a, off, o, rfl, hao, hll, hby⟩ := hold
  rw [Nat.add_zero] at hc
  have rd : read1 1 (cs.map fun c => [c]) i = some (.slice a off l.length 1) := by
   unfold read1
   rw [Nat.div_one, Nat.mod_one, List.getElem?_map, hc]
   rfl
  have fl : lenFits K 31 (.c (.slice a off l.length 1)) = true := by unfold lenFits; rw [tyBytes]; rfl
  iterate 12 (first | apply Goes.seq | apply Goes.skip | apply Goes.block | apply Goes.loop | ((first | apply Goes.condV | apply Goes.ops2 fits Hh E0_sound); · simp (decide := true) only [go_sem, putTH_some, H.get_put, H.get_new, loadIn, storeIn, reduceIte, Nat.reduceAdd, Nat.reduceMul, evalC, evalO_tmp, asC, evalT_set, dec_true, dec_false, h8, h9, h3, h10, d1, b1, ho, rd, fl, tyPieces, dPieces, tyBytes, sBytes, aBytes, opBuiltin, opLen, cW, Nat.beq_refl, Nat.mul_one, Nat.zero_add] <;> rfl))
  show Goes K Tryz.prog 42 none (q235 [1, 1, 0, 1, 2, 2, 1, 1, 0, 2, 1, 1]) _ _ _ _
  rw [q235_110122110211]
  refine Goes.block ((crcIn Hh h a off l.length o hao hst hll l 0 v _ (by omega) ?_ hv ?_ ?_ ?_ ?_).mono ?_)
  ·intro j b hb
   rw [Nat.zero_add]
   exact hby j b hb
  ·simp (decide := true) only [evalT_set, reduceIte]
  ·simp (decide := true) only [evalT_set, reduceIte]
  ·simp (decide := true) only [evalT_set, reduceIte, h3]
  ·simp (decide := true) only [evalT_set, reduceIte] <;> rfl
  rintro x ds' ts' h' ⟨rfl, rfl, rfl, e3, e8, e9, e10⟩
  have f8 : evalT ts' 8 = .w (.c (.slice n 0 m 1)) := by rw [e8]; simp (decide := true) only [evalT_set, reduceIte, h8]
  have f9 : evalT ts' 9 = .w (.c (.int .i64 m)) := by rw [e9]; simp (decide := true) only [evalT_set, reduceIte, h9]
  have f10 : evalT ts' 10 = .w (.c (.int .i64 i)) := by rw [e10]; simp (decide := true) only [evalT_set, reduceIte, h10]
  have w1 : wrapC .i64 ((i : Int) + 1) = .int .i64 ((i + 1 : Nat) : Int) := by rw [wrap64 (by omega) (by omega)]; congr 1
  (apply Goes.ops2 fits Hh E0_sound; · simp (decide := true) only [go_sem, putTH_some, H.get_put, H.get_new, loadIn, storeIn, reduceIte, Nat.reduceAdd, Nat.reduceMul, f10, w1] <;> rfl)
  show Goes K Tryz.prog 42 none (.loop (q235 [1, 1, 0, 1, 2, 2])) _ _ _ _
  rw [← q235_11012]
  refine ih (i + 1) _ _ (by omega) (fun j l' hj => ?_) (crcL_lt hv hlt) ?_ ?_ ?_ ?_
  ·have := hl (j + 1) l' (by simpa using hj)
   rwa [show i + (j + 1) = i + 1 + j by omega] at this
  ·simp (decide := true) only [evalT_set, reduceIte, f8]
  ·simp (decide := true) only [evalT_set, reduceIte, f9]
  ·simp (decide := true) only [evalT_set, reduceIte, e3]
  ·simp (decide := true) only [evalT_set, reduceIte]
theorem crcOk (h : Go.Ev.H) (n : Nat) (cs : List C) (ro : Bool) (ps : List (List Nat)) (ho : h.get n = some (.row 1 (cs.map fun c => [c]) ro)) (hst : h.get 0 = some stepsO) (hm : cs.length = ps.length) (hm' : ps.length < 4294967296) (hl : ∀ (j : Nat) (l : List Nat), ps[j]? = some l → ∃ c, cs[j]? = some c ∧ Holds h c l) :
  CallOk K Tryz.prog 235 [.c (.slice n 0 ps.length 1)] h (.w (.c (.int .u32 (Nat.xor 4294967295 (crcP ps 4294967295) : Nat)))) h := by
 have e0 : evalT (argTmps 0 [.c (.slice n 0 ps.length 1)] .nil) 0 = .w (.c (.slice n 0 ps.length 1)) := by rw [evalT_args]; rfl
 refine CallOk.goes fits Hh (by kernel_rfl) (by kernel_rfl) (by kernel_rfl) (show Tryz.f235.body = some (q235 []) by kernel_rfl) rfl ?_
 have e1 : Tryz.f235.results.toList = [.tmp 2] := rfl
 have fl : lenFits K 418 (.c (.slice n 0 ps.length 1)) = true := by unfold lenFits; rw [tyPieces]; rfl
 show Goes K Tryz.prog 42 none _ _ _ _ _
 iterate 8 (first | apply Goes.seq | apply Goes.block | (apply Goes.ops2 fits Hh E0_sound; · simp (decide := true) only [go_sem, putTH_some, H.get_put, H.get_new, loadIn, storeIn, reduceIte, Nat.reduceAdd, Nat.reduceMul, e0, fl, opBuiltin, opLen] <;> rfl))
 show Goes K Tryz.prog 42 none (q235 [1, 1, 0, 1, 2]) _ _ _ _
 refine (crcOut Hh h n ps.length cs ro ho hst hm hm' ps 0 4294967295 _ (by omega) ?_ (by omega) ?_ ?_ ?_ ?_).mono ?_
 ·intro j l hj
  rw [Nat.zero_add]
  exact hl j l hj
 ·simp (decide := true) only [evalT_set, reduceIte]
 ·simp (decide := true) only [evalT_set, reduceIte]
 ·simp (decide := true) only [evalT_set, reduceIte] <;> rfl
 ·simp (decide := true) only [evalT_set, reduceIte] <;> rfl
 rintro x ds' ts' h' ⟨rfl, rfl, rfl, e3, hlt⟩
 have x1 : opBit .u32 Nat.xor IntKind.u32.max (crcP ps 4294967295 : Nat) = .int .u32 (Nat.xor 4294967295 (crcP ps 4294967295) : Nat) := xorU32 (a := 4294967295) (by omega) hlt
 iterate 3 (first | apply Goes.seq | apply Goes.ret | (apply Goes.ops2 fits Hh E0_sound; · simp (decide := true) only [go_sem, putTH_some, H.get_put, H.get_new, loadIn, storeIn, reduceIte, Nat.reduceAdd, Nat.reduceMul, e3, x1] <;> rfl))
 simp (decide := true) only [leave_ret, takeMarks, finish, e1, resultsOf, evalW, evalO_tmp, asW, evalT_set, reduceIte, resultOf]
def zeroN : List Nat → Bool
 | [] => true
 | b :: l => bif Nat.beq b 0 then zeroN l else false
theorem zero0 (h : Go.Ev.H) (n off len : Nat) (o : O) (ho : h.get n = some o) (hlen : len < 4294967296) : ∀ (l : List Nat) (i : Nat) (ts : Tmps), i + l.length = len → (∀ j (b : Nat), l[j]? = some b → b < 256 ∧ loadIn ti5 (off + (i + j)) (some o) = some (.c (.int .u8 (b : Int)))) → evalT ts 5 = .w (.c (.slice n off len 1)) → evalT ts 6 = .w (.c (.int .i64 len)) → evalT ts 7 = .w (.c (.int .i64 i)) →
  Goes K Tryz.prog 14 none (q138 [1, 0, 1, 2]) [] ts h fun x ds' ts' h' => ds' = [] ∧ h' = h ∧ (zeroN l = true ∧ x = .exit 0 ∨ zeroN l = false ∧ x = .ret ∧ evalT ts' 2 = .w (.c (.bool false))) := by
 intro l
 induction l with
 | nil =>
  intro i ts hi hl h5 h6 h7
  have d1 : decide ((i : Int) < (len : Int)) = false := decide_eq_false (by simp at hi; omega)
  iterate 6 (first | apply Goes.seq | apply Goes.exit | apply Goes.loop | ((first | apply Goes.condV | apply Goes.ops2 fits Hh E0_sound); · simp (decide := true) only [go_sem, putTH_some, H.get_put, H.get_new, loadIn, storeIn, reduceIte, Nat.reduceAdd, Nat.reduceMul, evalC, evalO_tmp, asC, evalT_set, dec_true, dec_false, h6, h7, d1] <;> rfl))
  exact ⟨rfl, rfl, .inl ⟨rfl, rfl⟩⟩
 | cons b l ih =>
  intro i ts hi hl h5 h6 h7
  simp only [List.length_cons] at hi
  have d1 : decide ((i : Int) < (len : Int)) = true := decide_eq_true (by omega)
  have w1 : wrapC .i64 ((i : Int) + 1) = .int .i64 ((i + 1 : Nat) : Int) := by rw [wrap64 (by omega) (by omega)]; congr 1
  have b1 : Nat.blt i len = true := blt_true (by omega)
  obtain ⟨hb, ld⟩ := hl 0 b rfl
  rw [Nat.add_zero] at ld
  by_cases b0 : b = 0
  ·subst b0
   have z : (((0 : Nat) : Int) != 0) = false := rfl
   iterate 15 (first | apply Goes.seq | apply Goes.skip | apply Goes.block | apply Goes.loop | ((first | apply Goes.condV | apply Goes.ops2 fits Hh E0_sound); · simp (decide := true) only [go_sem, putTH_some, H.get_put, H.get_new, storeIn, reduceIte, Nat.reduceAdd, Nat.reduceMul, evalC, evalO_tmp, asC, evalT_set, dec_true, dec_false, h5, h6, h7, d1, w1, b1, ho, ld, z, tyBytes, tyByte, dBytes, sByte, Nat.beq_refl, Nat.mul_one] <;> rfl))
   show Goes K Tryz.prog 14 none (.loop (q138 [1, 0, 1, 2, 2])) _ _ _ _
   rw [← q138_1012]
   refine ih (i + 1) _ (by omega) (fun j c hc => ?_) ?_ ?_ ?_
   ·have := hl (j + 1) c (by simpa using hc)
    rwa [show i + (j + 1) = i + 1 + j by omega] at this
   ·simp (decide := true) only [evalT_set, reduceIte, h5]
   ·simp (decide := true) only [evalT_set, reduceIte, h6]
   ·simp (decide := true) only [evalT_set, reduceIte]
  ·have z : ((b : Int) != 0) = true := by simpa using b0
   iterate 16 (first | apply Goes.seq | apply Goes.skip | apply Goes.block | apply Goes.ret | apply Goes.loop | ((first | apply Goes.condV | apply Goes.ops2 fits Hh E0_sound); · simp (decide := true) only [go_sem, putTH_some, H.get_put, H.get_new, storeIn, reduceIte, Nat.reduceAdd, Nat.reduceMul, evalC, evalO_tmp, asC, evalT_set, dec_true, dec_false, h5, h6, h7, d1, w1, b1, ho, ld, z, tyBytes, tyByte, dBytes, sByte, Nat.beq_refl, Nat.mul_one] <;> rfl))
   refine ⟨rfl, rfl, .inr ⟨?_, rfl, ?_⟩⟩
   ·have : Nat.beq b 0 = false := by
     cases e : Nat.beq b 0 with
     | false => rfl
     | true => exact absurd (Nat.eq_of_beq_eq_true e) b0
    simp only [zeroN, this, cond_false]
   ·simp (decide := true) only [evalT_set, reduceIte]
theorem zeroOk (h : Go.Ev.H) (c : C) (l : List Nat) (hold : Holds h c l) : CallOk K Tryz.prog 138 [.c c] h (.w (.c (.bool (zeroN l)))) h := by
 obtain ⟨n, off, o, rfl, ho, hlen, hl⟩ := hold
 have e0 : evalT (argTmps 0 [.c (.slice n off l.length 1)] .nil) 0 = .w (.c (.slice n off l.length 1)) := by rw [evalT_args]; rfl
 refine CallOk.goes fits Hh (by kernel_rfl) (by kernel_rfl) (by kernel_rfl) (show Tryz.f138.body = some (q138 []) by kernel_rfl) rfl ?_
 have e1 : Tryz.f138.results.toList = [.tmp 2] := rfl
 have fl : lenFits K 31 (.c (.slice n off l.length 1)) = true := by unfold lenFits; rw [tyBytes]; rfl
 show Goes K Tryz.prog 14 none _ _ _ _ _
 iterate 6 (first | apply Goes.seq | apply Goes.block | (apply Goes.ops2 fits Hh E0_sound; · simp (decide := true) only [go_sem, putTH_some, H.get_put, H.get_new, loadIn, storeIn, reduceIte, Nat.reduceAdd, Nat.reduceMul, e0, fl, opBuiltin, opLen] <;> rfl))
 show Goes K Tryz.prog 14 none (q138 [1, 0, 1, 2]) _ _ _ _
 refine (zero0 Hh h n off l.length o ho hlen l 0 _ (by omega) ?_ ?_ ?_ ?_).mono ?_
 ·intro j b hb
  rw [Nat.zero_add]
  exact hl j b hb
 ·simp (decide := true) only [evalT_set, reduceIte]
 ·simp (decide := true) only [evalT_set, reduceIte]
 ·simp (decide := true) only [evalT_set, reduceIte] <;> rfl
 rintro x ds' ts' h' ⟨rfl, rfl, ⟨hz, rfl⟩ | ⟨hz, rfl, h2⟩⟩
 ·rw [hz]
  iterate 3 (first | apply Goes.seq | apply Goes.ret | (apply Goes.ops2 fits Hh E0_sound; · simp (decide := true) only [go_sem, putTH_some, H.get_put, H.get_new, loadIn, storeIn, reduceIte, Nat.reduceAdd, Nat.reduceMul] <;> rfl))
  simp (decide := true) only [leave_ret, takeMarks, finish, e1, resultsOf, evalW, evalO_tmp, asW, evalT_set, reduceIte, resultOf]
 ·rw [hz]
  show leave K Tryz.f138 (some (.at .ret [] ts' h')) = _
  simp (decide := true) only [leave_ret, takeMarks, finish, e1, resultsOf, evalW, evalO_tmp, asW, h2, resultOf]
end
end Go.Proofs.YtdnkofpkkebefaaGreatDoor
