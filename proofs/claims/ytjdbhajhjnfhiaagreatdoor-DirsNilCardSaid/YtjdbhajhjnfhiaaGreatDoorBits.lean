/- bits.Set, on the evaluator's level: a block as 2048 bits. -/
import Derived.Test.YtjdbhajhjnfhiaaGreatDoorTy
import Derived.Test.YtjdbhajhjnfhiaaGreatDoorEvC
set_option linter.unusedSimpArgs false
set_option linter.unusedVariables false
set_option linter.unusedSectionVars false
set_option maxRecDepth 100000
namespace Go.Proofs.YtjdbhajhjnfhiaaGreatDoor
open Go.Ev
theorem ty3 : K.types.get 3 = some ti3 := by kernel_rfl
theorem sz3 : ti3.size = 1 := by rfl
theorem ag3 : ti3.agg = false := by rfl
theorem de3 : ti3.desc = (.int .i64) := by rfl
theorem ze3 : ti3.zero = (.c (.int .i64 0)) := by rfl
theorem by3 : ti3.bytes = 8 := by rfl
theorem ke3 (k : IntKind) (n : Int) : keyT K 20 3 (.c (.int k n)) = true := by kernel_rfl
theorem ty4 : K.types.get 4 = some ti4 := by kernel_rfl
theorem sz4 : ti4.size = 1 := by rfl
theorem ag4 : ti4.agg = false := by rfl
theorem de4 : ti4.desc = .bool := by rfl
theorem ze4 : ti4.zero = (.c (.bool false)) := by rfl
theorem by4 : ti4.bytes = 1 := by rfl
theorem ty5 : K.types.get 5 = some ti5 := by kernel_rfl
theorem sz5 : ti5.size = 1 := by rfl
theorem ag5 : ti5.agg = false := by rfl
theorem de5 : ti5.desc = (.int .u8) := by rfl
theorem ze5 : ti5.zero = (.c (.int .u8 0)) := by rfl
theorem by5 : ti5.bytes = 1 := by rfl
theorem ke5 (k : IntKind) (n : Int) : keyT K 20 5 (.c (.int k n)) = true := by kernel_rfl
theorem ty75 : K.types.get 75 = some ti75 := by kernel_rfl
theorem sz75 : ti75.size = 256 := by rfl
theorem ag75 : ti75.agg = true := by rfl
theorem de75 : ti75.desc = (.array 256 5) := by rfl
theorem ze75 : ti75.zero = (.g ((List.replicate 256 (.int .u8 0)))) := by rfl
theorem by75 : ti75.bytes = 256 := by rfl
theorem eq75 (a b : List C) : eqT K 20 75 (.g a) (.g b) = (bif true && Nat.beq a.length 256 && Nat.beq b.length 256 then eqInts a b else none) := by kernel_rfl
theorem ty80 : K.types.get 80 = some ti80 := by kernel_rfl
theorem sz80 : ti80.size = 1 := by rfl
theorem ag80 : ti80.agg = false := by rfl
theorem de80 : ti80.desc = (.pointer 75) := by rfl
theorem ze80 : ti80.zero = (.c (.pnil)) := by rfl
theorem by80 : ti80.bytes = 8 := by rfl
attribute [go_sem] ty3 sz3 ag3 de3 ze3 by3 ke3 ty4 sz4 ag4 de4 ze4 by4 ty5 sz5 ag5 de5 ze5 by5 ke5 ty75 sz75 ag75 de75 ze75 by75 eq75 ty80 sz80 ag80 de80 ze80 by80
noncomputable def q138 (p : List Nat) : Code := piece p (bodyOf Tryz.f138)
theorem q138_ : q138 [] = .seq (q138 [0]) (q138 [1]) := by kernel_rfl
theorem q138_0 : q138 [0] = .region 0 (opsA (q138 [0])) false := by kernel_rfl
theorem q138_1 : q138 [1] = .seq (q138 [1, 0]) (q138 [1, 1]) := by kernel_rfl
theorem q138_10 : q138 [1, 0] = .seq (q138 [1, 0, 0]) (q138 [1, 0, 1]) := by kernel_rfl
theorem q138_100 : q138 [1, 0, 0] = .region 1 (opsA (q138 [1, 0, 0])) true := by kernel_rfl
theorem q138_101 : q138 [1, 0, 1] = .cond (.tmp 23) (q138 [1, 0, 1, 3]) (q138 [1, 0, 1, 4]) := by kernel_rfl
theorem q138_1013 : q138 [1, 0, 1, 3] = .seq (q138 [1, 0, 1, 3, 0]) (q138 [1, 0, 1, 3, 1]) := by kernel_rfl
theorem q138_10130 : q138 [1, 0, 1, 3, 0] = .region 2 (opsA (q138 [1, 0, 1, 3, 0])) false := by kernel_rfl
theorem q138_10131 : q138 [1, 0, 1, 3, 1] = .ret := by kernel_rfl
theorem q138_1014 : q138 [1, 0, 1, 4] = .skip := by kernel_rfl
theorem q138_11 : q138 [1, 1] = .seq (q138 [1, 1, 0]) (q138 [1, 1, 1]) := by kernel_rfl
theorem q138_110 : q138 [1, 1, 0] = .region 3 (opsA (q138 [1, 1, 0])) true := by kernel_rfl
theorem q138_111 : q138 [1, 1, 1] = .seq (q138 [1, 1, 1, 0]) (q138 [1, 1, 1, 1]) := by kernel_rfl
theorem q138_1110 : q138 [1, 1, 1, 0] = .region 4 (opsA (q138 [1, 1, 1, 0])) false := by kernel_rfl
theorem q138_1111 : q138 [1, 1, 1, 1] = .ret := by kernel_rfl
noncomputable def q169 (p : List Nat) : Code := piece p (bodyOf Tryz.f169)
theorem q169_ : q169 [] = .seq (q169 [0]) (q169 [1]) := by kernel_rfl
theorem q169_0 : q169 [0] = .region 0 (opsA (q169 [0])) false := by kernel_rfl
theorem q169_1 : q169 [1] = .seq (q169 [1, 0]) (q169 [1, 1]) := by kernel_rfl
theorem q169_10 : q169 [1, 0] = .region 1 (opsA (q169 [1, 0])) false := by kernel_rfl
theorem q169_11 : q169 [1, 1] = .ret := by kernel_rfl
noncomputable def q170 (p : List Nat) : Code := piece p (bodyOf Tryz.f170)
theorem q170_ : q170 [] = .seq (q170 [0]) (q170 [1]) := by kernel_rfl
theorem q170_0 : q170 [0] = .region 0 (opsA (q170 [0])) false := by kernel_rfl
theorem q170_1 : q170 [1] = .seq (q170 [1, 0]) (q170 [1, 1]) := by kernel_rfl
theorem q170_10 : q170 [1, 0] = .region 1 (opsA (q170 [1, 0])) false := by kernel_rfl
theorem q170_11 : q170 [1, 1] = .ret := by kernel_rfl
theorem rs169 : Tryz.f169.results.toList = [.tmp 2] := rfl
theorem rs170 : Tryz.f170.results.toList = [.tmp 2] := rfl
theorem rs138 : Tryz.f138.results.toList = [.tmp 4] := rfl
attribute [go_sem] rs169 rs170 rs138

def b8 (b0 b1 b2 b3 b4 b5 b6 b7 : Bool) : Nat := b0.toNat + 2 * b1.toNat + 4 * b2.toNat + 8 * b3.toNat + 16 * b4.toNat + 32 * b5.toNat + 64 * b6.toNat + 128 * b7.toNat
theorem b8_lt : ∀ b0 b1 b2 b3 b4 b5 b6 b7 : Bool, b8 b0 b1 b2 b3 b4 b5 b6 b7 < 256 := by decide +kernel
theorem land8 : ∀ b0 b1 b2 b3 b4 b5 b6 b7 : Bool, ∀ j : Fin 8, Nat.land (b8 b0 b1 b2 b3 b4 b5 b6 b7) (2 ^ j.1) = if [b0, b1, b2, b3, b4, b5, b6, b7].getD j.1 false = true then 2 ^ j.1 else 0 := by decide +kernel
theorem lor8 : ∀ b0 b1 b2 b3 b4 b5 b6 b7 : Bool, ∀ j : Fin 8, Nat.lor (b8 b0 b1 b2 b3 b4 b5 b6 b7) (2 ^ j.1) = b8 (b0 || decide (j.1 = 0)) (b1 || decide (j.1 = 1)) (b2 || decide (j.1 = 2)) (b3 || decide (j.1 = 3)) (b4 || decide (j.1 = 4)) (b5 || decide (j.1 = 5)) (b6 || decide (j.1 = 6)) (b7 || decide (j.1 = 7)) := by decide +kernel
def byB (g : Nat → Bool) (t : Nat) : Nat := b8 (g (8 * t)) (g (8 * t + 1)) (g (8 * t + 2)) (g (8 * t + 3)) (g (8 * t + 4)) (g (8 * t + 5)) (g (8 * t + 6)) (g (8 * t + 7))
def packB (g : Nat → Bool) : List C := (List.range 256).map fun t => C.int .u8 ((byB g t : Nat) : Int)
def updB (g : Nat → Bool) (i : Nat) : Nat → Bool := fun j => g j || decide (j = i)
theorem packB_len (g : Nat → Bool) : (packB g).length = 256 := by simp [packB]
theorem packB_get (g : Nat → Bool) (t : Nat) (h : t < 256) : (packB g)[t]? = some (C.int .u8 ((byB g t : Nat) : Int)) := by simp [packB, h]
theorem sel8 (g : Nat → Bool) (i : Nat) : [g (8 * (i / 8)), g (8 * (i / 8) + 1), g (8 * (i / 8) + 2), g (8 * (i / 8) + 3), g (8 * (i / 8) + 4), g (8 * (i / 8) + 5), g (8 * (i / 8) + 6), g (8 * (i / 8) + 7)].getD (i % 8) false = g i := by
  have e := Nat.div_add_mod i 8
  obtain ⟨t, ht⟩ : ∃ t, i / 8 = t := ⟨_, rfl⟩
  rw [ht] at e ⊢
  have hj : i % 8 = 0 ∨ i % 8 = 1 ∨ i % 8 = 2 ∨ i % 8 = 3 ∨ i % 8 = 4 ∨ i % 8 = 5 ∨ i % 8 = 6 ∨ i % 8 = 7 := by omega
  rcases hj with h | h | h | h | h | h | h | h <;> rw [h] at e ⊢ <;> rw [← e] <;> rfl
theorem byB_test (g : Nat → Bool) (i : Nat) : Nat.land (byB g (i / 8)) (2 ^ (i % 8)) = if g i = true then 2 ^ (i % 8) else 0 := by
  have := land8 (g (8 * (i / 8))) (g (8 * (i / 8) + 1)) (g (8 * (i / 8) + 2)) (g (8 * (i / 8) + 3)) (g (8 * (i / 8) + 4)) (g (8 * (i / 8) + 5)) (g (8 * (i / 8) + 6)) (g (8 * (i / 8) + 7)) ⟨i % 8, by omega⟩
  simp only [sel8] at this
  exact this
theorem byB_set (g : Nat → Bool) (i : Nat) : Nat.lor (byB g (i / 8)) (2 ^ (i % 8)) = byB (updB g i) (i / 8) := by
  have := lor8 (g (8 * (i / 8))) (g (8 * (i / 8) + 1)) (g (8 * (i / 8) + 2)) (g (8 * (i / 8) + 3)) (g (8 * (i / 8) + 4)) (g (8 * (i / 8) + 5)) (g (8 * (i / 8) + 6)) (g (8 * (i / 8) + 7)) ⟨i % 8, by omega⟩
  refine this.trans ?_
  have e := Nat.div_add_mod i 8
  unfold byB updB
  have q : ∀ k, k < 8 → decide (i % 8 = k) = decide (8 * (i / 8) + k = i) := fun k hk => by
    rw [decide_eq_decide]
    omega
  have q0 := q 0 (by omega)
  rw [Nat.add_zero] at q0
  simp only [q0, q 1 (by omega), q 2 (by omega), q 3 (by omega), q 4 (by omega), q 5 (by omega), q 6 (by omega), q 7 (by omega)]
theorem byB_other (g : Nat → Bool) (i t : Nat) (h : t ≠ i / 8) : byB (updB g i) t = byB g t := by
  unfold byB updB
  have q : ∀ k, k < 8 → decide (8 * t + k = i) = false := fun k hk => decide_eq_false (by omega)
  have q0 := q 0 (by omega)
  rw [Nat.add_zero] at q0
  simp only [q0, q 1 (by omega), q 2 (by omega), q 3 (by omega), q 4 (by omega), q 5 (by omega), q 6 (by omega), q 7 (by omega), Bool.or_false]
theorem packB_set (g : Nat → Bool) (i : Nat) (hi : i < 2048) : (packB g).set (i / 8) (.int .u8 ((Nat.lor (byB g (i / 8)) (2 ^ (i % 8)) : Nat) : Int)) = packB (updB g i) := by
  refine List.ext_getElem (by simp [packB]) fun t h1 h2 => ?_
  rw [List.getElem_set]
  simp only [packB, List.getElem_map, List.getElem_range]
  by_cases e : i / 8 = t
  · rw [if_pos e, byB_set, e]
  · rw [if_neg e, byB_other _ _ _ (fun x => e x.symm)]
theorem byB_lt (g : Nat → Bool) (t : Nat) : byB g t < 256 := b8_lt ..
theorem pow8_lt (i : Nat) : 2 ^ (i % 8) < 256 := Nat.lt_of_lt_of_le (Nat.pow_lt_pow_right (by omega) (show i % 8 < 8 by omega)) (by decide)
theorem lor256 {a b : Nat} (ha : a < 256) (hb : b < 256) : Nat.lor a b < 256 := Nat.or_lt_two_pow (n := 8) ha hb
theorem land256 {a b : Nat} (ha : a < 256) : Nat.land a b < 256 := Nat.lt_of_le_of_lt Nat.and_le_left ha

section
variable (Hh : Hearts K Tryz.prog)
include Hh
theorem isOk (h : Go.Ev.H) (i : Nat) (hi : i < 2048) : CallOk K Tryz.prog 169 [.c (.int .i64 i)] h (.w (.c (.bool true))) h := by
  refine CallOk.goes fits Hh (by kernel_rfl) (by kernel_rfl) (by kernel_rfl) (show Tryz.f169.body = some (q169 []) by kernel_rfl) rfl ?_
  show Goes K Tryz.prog 9 none _ _ _ _ _
  show Goes K Tryz.prog 9 none (q169 []) _ _ _ _
  rw [q169_]
  refine Goes.seq ?_
  show Goes K Tryz.prog 9 none (q169 [0]) _ _ _ _
  rw [q169_0]
  refine Goes.ops2 fits Hh E0_sound (by
    simp (config := { maxSteps := 1000000 }) (decide := true) (discharger := first | omega | (simp only [H.next_new, H.next_put] <;> omega) | decide) only [go_sem, q169, Tryz.f169, readRow, fillStruct, fillPart, partOf, opField, binG, List.set_cons_zero, List.set_cons_succ, List.take_succ_cons, List.drop_succ_cons, List.take_zero, List.drop_zero, List.take_nil, List.drop_nil, List.cons_append, List.singleton_append, loadIn, storeIn, reduceIte, Nat.reduceAdd, Nat.reduceMul, Nat.reduceSub, Nat.reduceDiv, Nat.reduceMod, Nat.reduceLT, Nat.reduceBEq, Int.reduceToNat]
    rfl) ?_
  show Goes K Tryz.prog 9 none (q169 [1]) _ _ _ _
  rw [q169_1]
  refine Goes.seq ?_
  show Goes K Tryz.prog 9 none (q169 [1, 0]) _ _ _ _
  rw [q169_10]
  refine Goes.ops2 fits Hh E0_sound (by
    simp (config := { maxSteps := 1000000 }) (decide := true) (discharger := first | omega | (simp only [H.next_new, H.next_put] <;> omega) | decide) only [go_sem, q169, Tryz.f169, readRow, fillStruct, fillPart, partOf, opField, binG, List.set_cons_zero, List.set_cons_succ, List.take_succ_cons, List.drop_succ_cons, List.take_zero, List.drop_zero, List.take_nil, List.drop_nil, List.cons_append, List.singleton_append, loadIn, storeIn, reduceIte, Nat.reduceAdd, Nat.reduceMul, Nat.reduceSub, Nat.reduceDiv, Nat.reduceMod, Nat.reduceLT, Nat.reduceBEq, Int.reduceToNat]
    rfl) ?_
  show Goes K Tryz.prog 9 none (q169 [1, 1]) _ _ _ _
  rw [q169_11]
  refine Goes.ret ?_
  simp (config := { maxSteps := 1000000 }) (decide := true) (discharger := first | omega | (simp only [H.next_new, H.next_put] <;> omega) | decide) only [go_sem, readRow, fillStruct, fillPart, partOf, opField, binG, List.set_cons_zero, List.set_cons_succ, List.take_succ_cons, List.drop_succ_cons, List.take_zero, List.drop_zero, List.take_nil, List.drop_nil, List.cons_append, List.singleton_append, loadIn, storeIn, reduceIte, Nat.reduceAdd, Nat.reduceMul, Nat.reduceSub, Nat.reduceDiv, Nat.reduceMod, Nat.reduceLT, Nat.reduceBEq, Int.reduceToNat] <;> rfl
theorem maskOk (h : Go.Ev.H) (i : Nat) : CallOk K Tryz.prog 170 [.c (.int .i64 i)] h (.w (.c (.int .u8 ((2 ^ (i % 8) : Nat) : Int)))) h := by
  have r1 : opRem .i64 (i : Int) 8 = some (.int .i64 ((i % 8 : Nat) : Int)) := rem_nat (b := 8) (by omega)
  have s1 : opShl .u8 1 ((i % 8 : Nat) : Int) = some (.int .u8 ((2 ^ (i % 8) : Nat) : Int)) := by
    have h8 := pow8_lt i
    unfold opShl
    rw [decide_eq_false (by omega), cond_false]
    have e : min ((i % 8 : Nat) : Int).toNat IntKind.u8.bits = i % 8 := by
      show min ((i % 8 : Nat) : Int).toNat 8 = i % 8
      omega
    rw [e, Int.one_mul, wrapU8I ⟨Int.pow_nonneg (by omega), by exact_mod_cast h8⟩]
    congr 2
  refine CallOk.goes fits Hh (by kernel_rfl) (by kernel_rfl) (by kernel_rfl) (show Tryz.f170.body = some (q170 []) by kernel_rfl) rfl ?_
  show Goes K Tryz.prog 6 none _ _ _ _ _
  show Goes K Tryz.prog 6 none (q170 []) _ _ _ _
  rw [q170_]
  refine Goes.seq ?_
  show Goes K Tryz.prog 6 none (q170 [0]) _ _ _ _
  rw [q170_0]
  refine Goes.ops2 fits Hh E0_sound (by
    simp (config := { maxSteps := 1000000 }) (decide := true) (discharger := first | omega | (simp only [H.next_new, H.next_put] <;> omega) | decide) only [go_sem, q170, Tryz.f170, readRow, fillStruct, fillPart, partOf, opField, binG, List.set_cons_zero, List.set_cons_succ, List.take_succ_cons, List.drop_succ_cons, List.take_zero, List.drop_zero, List.take_nil, List.drop_nil, List.cons_append, List.singleton_append, loadIn, storeIn, reduceIte, Nat.reduceAdd, Nat.reduceMul, Nat.reduceSub, Nat.reduceDiv, Nat.reduceMod, Nat.reduceLT, Nat.reduceBEq, Int.reduceToNat, r1, s1]
    rfl) ?_
  show Goes K Tryz.prog 6 none (q170 [1]) _ _ _ _
  rw [q170_1]
  refine Goes.seq ?_
  show Goes K Tryz.prog 6 none (q170 [1, 0]) _ _ _ _
  rw [q170_10]
  refine Goes.ops2 fits Hh E0_sound (by
    simp (config := { maxSteps := 1000000 }) (decide := true) (discharger := first | omega | (simp only [H.next_new, H.next_put] <;> omega) | decide) only [go_sem, q170, Tryz.f170, readRow, fillStruct, fillPart, partOf, opField, binG, List.set_cons_zero, List.set_cons_succ, List.take_succ_cons, List.drop_succ_cons, List.take_zero, List.drop_zero, List.take_nil, List.drop_nil, List.cons_append, List.singleton_append, loadIn, storeIn, reduceIte, Nat.reduceAdd, Nat.reduceMul, Nat.reduceSub, Nat.reduceDiv, Nat.reduceMod, Nat.reduceLT, Nat.reduceBEq, Int.reduceToNat, r1, s1]
    rfl) ?_
  show Goes K Tryz.prog 6 none (q170 [1, 1]) _ _ _ _
  rw [q170_11]
  refine Goes.ret ?_
  simp (config := { maxSteps := 1000000 }) (decide := true) (discharger := first | omega | (simp only [H.next_new, H.next_put] <;> omega) | decide) only [go_sem, readRow, fillStruct, fillPart, partOf, opField, binG, List.set_cons_zero, List.set_cons_succ, List.take_succ_cons, List.drop_succ_cons, List.take_zero, List.drop_zero, List.take_nil, List.drop_nil, List.cons_append, List.singleton_append, loadIn, storeIn, reduceIte, Nat.reduceAdd, Nat.reduceMul, Nat.reduceSub, Nat.reduceDiv, Nat.reduceMod, Nat.reduceLT, Nat.reduceBEq, Int.reduceToNat, r1, s1] <;> rfl
theorem setOk (h : Go.Ev.H) (b i : Nat) (g : Nat → Bool) (hi : i < 2048) (hg : g i = false) (hb : h.get b = some (.row 256 [packB g] false)) : CallOk K Tryz.prog 138 [.c (.ptr b 0), .c (.int .i64 i)] h (.w (.c (.bool true))) (h.put b (.row 256 [packB (updB g i)] false)) := by
  have c1 := isOk Hh h i hi
  have c2 := maskOk Hh h i
  have q1 : opQuo .i64 (i : Int) 8 = some (.int .i64 ((i / 8 : Nat) : Int)) := quo_nat (b := 8) (by omega) (by omega)
  have rd : read1 256 [packB g] (i / 8) = some (.int .u8 ((byB g (i / 8) : Nat) : Int)) := by
    unfold read1
    rw [Nat.div_eq_of_lt (by omega), Nat.mod_eq_of_lt (by omega), List.getElem?_cons_zero]
    exact packB_get g _ (by omega)
  have wr : writeRow 256 [packB g] (i / 8) [.int .u8 ((Nat.lor (byB g (i / 8)) (2 ^ (i % 8)) : Nat) : Int)] = some [packB (updB g i)] := by
    simp only [writeRow]
    rw [Nat.div_eq_of_lt (by omega), Nat.mod_eq_of_lt (by omega), List.getElem?_cons_zero]
    simp only [packB_len]
    rw [blt_t (by omega), cond_true, packB_set g i hi]
    rfl
  have l1 : opBit .u8 Nat.land ((byB g (i / 8) : Nat) : Int) ((2 ^ (i % 8) : Nat) : Int) = .int .u8 ((0 : Nat) : Int) := by
    rw [bitU8 (byB_lt _ _) (pow8_lt _) (land256 (byB_lt _ _)), byB_test, hg]
    rfl
  have l2 : opBit .u8 Nat.lor ((byB g (i / 8) : Nat) : Int) ((2 ^ (i % 8) : Nat) : Int) = .int .u8 ((Nat.lor (byB g (i / 8)) (2 ^ (i % 8)) : Nat) : Int) := bitU8 (byB_lt _ _) (pow8_lt _) (lor256 (byB_lt _ _) (pow8_lt _))
  refine CallOk.goes fits Hh (by kernel_rfl) (by kernel_rfl) (by kernel_rfl) (show Tryz.f138.body = some (q138 []) by kernel_rfl) rfl ?_
  show Goes K Tryz.prog 35 none _ _ _ _ _
  show Goes K Tryz.prog 35 none (q138 []) _ _ _ _
  rw [q138_]
  refine Goes.seq ?_
  show Goes K Tryz.prog 35 none (q138 [0]) _ _ _ _
  rw [q138_0]
  refine Goes.ops2 fits Hh E0_sound (by
    simp (config := { maxSteps := 1000000 }) (decide := true) (discharger := first | omega | (simp only [H.next_new, H.next_put] <;> omega) | decide) only [go_sem, q138, Tryz.f138, readRow, fillStruct, fillPart, partOf, opField, binG, List.set_cons_zero, List.set_cons_succ, List.take_succ_cons, List.drop_succ_cons, List.take_zero, List.drop_zero, List.take_nil, List.drop_nil, List.cons_append, List.singleton_append, loadIn, storeIn, reduceIte, Nat.reduceAdd, Nat.reduceMul, Nat.reduceSub, Nat.reduceDiv, Nat.reduceMod, Nat.reduceLT, Nat.reduceBEq, Int.reduceToNat, q1, rd, wr, l1, l2, hb]
    rfl) ?_
  show Goes K Tryz.prog 35 none (q138 [1]) _ _ _ _
  rw [q138_1]
  refine Goes.seq ?_
  show Goes K Tryz.prog 35 none (q138 [1, 0]) _ _ _ _
  rw [q138_10]
  refine Goes.seq ?_
  show Goes K Tryz.prog 35 none (q138 [1, 0, 0]) _ _ _ _
  rw [q138_100]
  refine Goes.drawn2 fits Hh (E1_sound (E1_sound E0_sound c1) c2) (by kernel_rfl) (by
    simp (config := { maxSteps := 1000000 }) (decide := true) (discharger := first | omega | (simp only [H.next_new, H.next_put] <;> omega) | decide) only [go_sem, q138, Tryz.f138, readRow, fillStruct, fillPart, partOf, opField, binG, List.set_cons_zero, List.set_cons_succ, List.take_succ_cons, List.drop_succ_cons, List.take_zero, List.drop_zero, List.take_nil, List.drop_nil, List.cons_append, List.singleton_append, loadIn, storeIn, reduceIte, Nat.reduceAdd, Nat.reduceMul, Nat.reduceSub, Nat.reduceDiv, Nat.reduceMod, Nat.reduceLT, Nat.reduceBEq, Int.reduceToNat, op_move, op_assign, op_binOp, op_unOp, op_convert, op_load, op_store, op_indexAddr, op_alloc, op_pick, op_box, op_build, op_buildSlice, op_nilCheck, op_makeSlice, op_fieldAddr, op_field, op_extract, op_lookup, op_mapUpdate, op_builtin, op_index, drEnd, drAll, drOne, drTs, drKd, drPure, drRead, drAlloc, drEff, drSkip, drPut, putT_ok, putT_none, cutT, looks, tmpOf, Op.operands, Call.operands, kd, kdCall, List.filterMap_cons, List.filterMap_nil, List.append_nil, List.nil_append, List.cons_append, stables, stable, reachAt, reachP, waitsAt, waits, gives_self, List.all_cons, List.all_nil, List.any_cons, List.any_nil, Region.binds, Bool.or_true, Bool.true_or, Bool.and_true, Bool.true_and, Bool.or_false, Bool.false_or, Bool.and_self, Bool.or_self, ble_true, Nat.le_refl, Nat.le_add_right, List.map_cons, Array.toList_append, E1_call, q1, rd, wr, l1, l2, hb]
    rfl) ?_
  show Goes K Tryz.prog 35 none (q138 [1, 0, 1]) _ _ _ _
  rw [q138_101]
  refine Goes.condE (by simp (config := { maxSteps := 1000000 }) (decide := true) (discharger := first | omega | (simp only [H.next_new, H.next_put] <;> omega) | decide) only [go_sem, readRow, fillStruct, fillPart, partOf, opField, binG, List.set_cons_zero, List.set_cons_succ, List.take_succ_cons, List.drop_succ_cons, List.take_zero, List.drop_zero, List.take_nil, List.drop_nil, List.cons_append, List.singleton_append, loadIn, storeIn, reduceIte, Nat.reduceAdd, Nat.reduceMul, Nat.reduceSub, Nat.reduceDiv, Nat.reduceMod, Nat.reduceLT, Nat.reduceBEq, Int.reduceToNat, q1, rd, wr, l1, l2, hb] <;> rfl) (by first | rfl | assumption | exact decide_eq_false (by omega) | (simp; omega)) ?_
  show Goes K Tryz.prog 35 none (q138 [1, 0, 1, 4]) _ _ _ _
  rw [q138_1014]
  refine Goes.skip ?_
  show Goes K Tryz.prog 35 none (q138 [1, 1]) _ _ _ _
  rw [q138_11]
  refine Goes.seq ?_
  show Goes K Tryz.prog 35 none (q138 [1, 1, 0]) _ _ _ _
  rw [q138_110]
  refine Goes.drawn2 fits Hh (E1_sound E0_sound c2) (by kernel_rfl) (by
    simp (config := { maxSteps := 1000000 }) (decide := true) (discharger := first | omega | (simp only [H.next_new, H.next_put] <;> omega) | decide) only [go_sem, q138, Tryz.f138, readRow, fillStruct, fillPart, partOf, opField, binG, List.set_cons_zero, List.set_cons_succ, List.take_succ_cons, List.drop_succ_cons, List.take_zero, List.drop_zero, List.take_nil, List.drop_nil, List.cons_append, List.singleton_append, loadIn, storeIn, reduceIte, Nat.reduceAdd, Nat.reduceMul, Nat.reduceSub, Nat.reduceDiv, Nat.reduceMod, Nat.reduceLT, Nat.reduceBEq, Int.reduceToNat, op_move, op_assign, op_binOp, op_unOp, op_convert, op_load, op_store, op_indexAddr, op_alloc, op_pick, op_box, op_build, op_buildSlice, op_nilCheck, op_makeSlice, op_fieldAddr, op_field, op_extract, op_lookup, op_mapUpdate, op_builtin, op_index, drEnd, drAll, drOne, drTs, drKd, drPure, drRead, drAlloc, drEff, drSkip, drPut, putT_ok, putT_none, cutT, looks, tmpOf, Op.operands, Call.operands, kd, kdCall, List.filterMap_cons, List.filterMap_nil, List.append_nil, List.nil_append, List.cons_append, stables, stable, reachAt, reachP, waitsAt, waits, gives_self, List.all_cons, List.all_nil, List.any_cons, List.any_nil, Region.binds, Bool.or_true, Bool.true_or, Bool.and_true, Bool.true_and, Bool.or_false, Bool.false_or, Bool.and_self, Bool.or_self, ble_true, Nat.le_refl, Nat.le_add_right, List.map_cons, Array.toList_append, E1_call, q1, rd, wr, l1, l2, hb]
    rfl) ?_
  show Goes K Tryz.prog 35 none (q138 [1, 1, 1]) _ _ _ _
  rw [q138_111]
  refine Goes.seq ?_
  show Goes K Tryz.prog 35 none (q138 [1, 1, 1, 0]) _ _ _ _
  rw [q138_1110]
  refine Goes.ops2 fits Hh E0_sound (by
    simp (config := { maxSteps := 1000000 }) (decide := true) (discharger := first | omega | (simp only [H.next_new, H.next_put] <;> omega) | decide) only [go_sem, q138, Tryz.f138, readRow, fillStruct, fillPart, partOf, opField, binG, List.set_cons_zero, List.set_cons_succ, List.take_succ_cons, List.drop_succ_cons, List.take_zero, List.drop_zero, List.take_nil, List.drop_nil, List.cons_append, List.singleton_append, loadIn, storeIn, reduceIte, Nat.reduceAdd, Nat.reduceMul, Nat.reduceSub, Nat.reduceDiv, Nat.reduceMod, Nat.reduceLT, Nat.reduceBEq, Int.reduceToNat, q1, rd, wr, l1, l2, hb]
    rfl) ?_
  show Goes K Tryz.prog 35 none (q138 [1, 1, 1, 1]) _ _ _ _
  rw [q138_1111]
  refine Goes.ret ?_
  simp (config := { maxSteps := 1000000 }) (decide := true) (discharger := first | omega | (simp only [H.next_new, H.next_put] <;> omega) | decide) only [go_sem, readRow, fillStruct, fillPart, partOf, opField, binG, List.set_cons_zero, List.set_cons_succ, List.take_succ_cons, List.drop_succ_cons, List.take_zero, List.drop_zero, List.take_nil, List.drop_nil, List.cons_append, List.singleton_append, loadIn, storeIn, reduceIte, Nat.reduceAdd, Nat.reduceMul, Nat.reduceSub, Nat.reduceDiv, Nat.reduceMod, Nat.reduceLT, Nat.reduceBEq, Int.reduceToNat, q1, rd, wr, l1, l2, hb] <;> rfl
end
end Go.Proofs.YtjdbhajhjnfhiaaGreatDoor

