/- nums.Get32 and mapping.pointer, on the evaluator's level. -/
import Derived.Test.YtmnclecicnkmeaaGreatDoorFine
set_option linter.unusedSimpArgs false
set_option linter.unusedVariables false
set_option linter.unusedSectionVars false
set_option maxRecDepth 100000
namespace Go.Proofs.YtmnclecicnkmeaaGreatDoor
open Go.Ev
theorem ty3 : K.types.get 3 = some ti3 := by kernel_rfl
theorem sz3 : ti3.size = 1 := by rfl
theorem ag3 : ti3.agg = false := by rfl
theorem de3 : ti3.desc = (.int .i64) := by rfl
theorem ze3 : ti3.zero = (.c (.int .i64 0)) := by rfl
theorem by3 : ti3.bytes = 8 := by rfl
theorem ke3 (k : IntKind) (n : Int) : keyT K 20 3 (.c (.int k n)) = true := by kernel_rfl
theorem ty4 : K.types.get 4 = some ti4 := by kernel_rfl
theorem sz4 : ti4.size = 1 := by rfl
theorem ag4 : ti4.agg = false := by rfl
theorem de4 : ti4.desc = .bool := by rfl
theorem ze4 : ti4.zero = (.c (.bool false)) := by rfl
theorem by4 : ti4.bytes = 1 := by rfl
theorem ty5 : K.types.get 5 = some ti5 := by kernel_rfl
theorem sz5 : ti5.size = 1 := by rfl
theorem ag5 : ti5.agg = false := by rfl
theorem de5 : ti5.desc = (.int .u8) := by rfl
theorem ze5 : ti5.zero = (.c (.int .u8 0)) := by rfl
theorem by5 : ti5.bytes = 1 := by rfl
theorem ke5 (k : IntKind) (n : Int) : keyT K 20 5 (.c (.int k n)) = true := by kernel_rfl
theorem ty61 : K.types.get 61 = some ti61 := by kernel_rfl
theorem sz61 : ti61.size = 1 := by rfl
theorem ag61 : ti61.agg = false := by rfl
theorem de61 : ti61.desc = (.int .u32) := by rfl
theorem ze61 : ti61.zero = (.c (.int .u32 0)) := by rfl
theorem by61 : ti61.bytes = 4 := by rfl
theorem ke61 (k : IntKind) (n : Int) : keyT K 20 61 (.c (.int k n)) = true := by kernel_rfl
theorem ty104 : K.types.get 104 = some ti104 := by kernel_rfl
theorem sz104 : ti104.size = 256 := by rfl
theorem ag104 : ti104.agg = true := by rfl
theorem de104 : ti104.desc = (.array 256 5) := by rfl
theorem ze104 : ti104.zero = (.g ((List.replicate 256 (.int .u8 0)))) := by rfl
theorem by104 : ti104.bytes = 256 := by rfl
theorem eq104 (a b : List C) : eqT K 20 104 (.g a) (.g b) = (bif true && Nat.beq a.length 256 && Nat.beq b.length 256 then eqInts a b else none) := by kernel_rfl
theorem ty202 : K.types.get 202 = some ti202 := by kernel_rfl
theorem sz202 : ti202.size = 1 := by rfl
theorem ag202 : ti202.agg = false := by rfl
theorem de202 : ti202.desc = (.slice 5) := by rfl
theorem ze202 : ti202.zero = (.c (.snil)) := by rfl
theorem by202 : ti202.bytes = 24 := by rfl
theorem el202 : elemTI K 202 = some ti5 := by kernel_rfl
attribute [go_sem] ty3 sz3 ag3 de3 ze3 by3 ke3 ty4 sz4 ag4 de4 ze4 by4 ty5 sz5 ag5 de5 ze5 by5 ke5 ty61 sz61 ag61 de61 ze61 by61 ke61 ty104 sz104 ag104 de104 ze104 by104 eq104 ty202 sz202 ag202 de202 ze202 by202 el202
noncomputable def q193 (p : List Nat) : Code := piece p (bodyOf Tryz.f193)
theorem q193_ : q193 [] = .seq (q193 [0]) (q193 [1]) := by kernel_rfl
theorem q193_0 : q193 [0] = .region 0 (opsA (q193 [0])) false := by kernel_rfl
theorem q193_1 : q193 [1] = .seq (q193 [1, 0]) (q193 [1, 1]) := by kernel_rfl
theorem q193_10 : q193 [1, 0] = .region 1 (opsA (q193 [1, 0])) false := by kernel_rfl
theorem q193_11 : q193 [1, 1] = .ret := by kernel_rfl
noncomputable def q215 (p : List Nat) : Code := piece p (bodyOf Tryz.f215)
theorem q215_ : q215 [] = .seq (q215 [0]) (q215 [1]) := by kernel_rfl
theorem q215_0 : q215 [0] = .region 0 (opsA (q215 [0])) false := by kernel_rfl
theorem q215_1 : q215 [1] = .seq (q215 [1, 0]) (q215 [1, 1]) := by kernel_rfl
theorem q215_10 : q215 [1, 0] = .region 1 (opsA (q215 [1, 0])) false := by kernel_rfl
theorem q215_11 : q215 [1, 1] = .seq (q215 [1, 1, 0]) (q215 [1, 1, 1]) := by kernel_rfl
theorem q215_110 : q215 [1, 1, 0] = .region 2 (opsA (q215 [1, 1, 0])) false := by kernel_rfl
theorem q215_111 : q215 [1, 1, 1] = .ret := by kernel_rfl
noncomputable def q258 (p : List Nat) : Code := piece p (bodyOf Tryz.f258)
theorem q258_ : q258 [] = .seq (q258 [0]) (q258 [1]) := by kernel_rfl
theorem q258_0 : q258 [0] = .region 0 (opsA (q258 [0])) false := by kernel_rfl
theorem q258_1 : q258 [1] = .seq (q258 [1, 0]) (q258 [1, 1]) := by kernel_rfl
theorem q258_10 : q258 [1, 0] = .seq (q258 [1, 0, 0]) (q258 [1, 0, 1]) := by kernel_rfl
theorem q258_100 : q258 [1, 0, 0] = .region 1 (opsA (q258 [1, 0, 0])) false := by kernel_rfl
theorem q258_101 : q258 [1, 0, 1] = .cond (.tmp 15) (q258 [1, 0, 1, 3]) (q258 [1, 0, 1, 4]) := by kernel_rfl
theorem q258_1014 : q258 [1, 0, 1, 4] = .skip := by kernel_rfl
theorem q258_11 : q258 [1, 1] = .seq (q258 [1, 1, 0]) (q258 [1, 1, 1]) := by kernel_rfl
theorem q258_110 : q258 [1, 1, 0] = .region 3 (opsA (q258 [1, 1, 0])) false := by kernel_rfl
theorem q258_111 : q258 [1, 1, 1] = .seq (q258 [1, 1, 1, 0]) (q258 [1, 1, 1, 1]) := by kernel_rfl
theorem q258_1110 : q258 [1, 1, 1, 0] = .seq (q258 [1, 1, 1, 0, 0]) (q258 [1, 1, 1, 0, 1]) := by kernel_rfl
theorem q258_11100 : q258 [1, 1, 1, 0, 0] = .region 4 (opsA (q258 [1, 1, 1, 0, 0])) false := by kernel_rfl
theorem q258_11101 : q258 [1, 1, 1, 0, 1] = .block 0 (q258 [1, 1, 1, 0, 1, 2]) := by kernel_rfl
theorem q258_111012 : q258 [1, 1, 1, 0, 1, 2] = .loop (q258 [1, 1, 1, 0, 1, 2, 2]) := by kernel_rfl
theorem q258_1110122 : q258 [1, 1, 1, 0, 1, 2, 2] = .seq (q258 [1, 1, 1, 0, 1, 2, 2, 0]) (q258 [1, 1, 1, 0, 1, 2, 2, 1]) := by kernel_rfl
theorem q258_11101220 : q258 [1, 1, 1, 0, 1, 2, 2, 0] = .seq (q258 [1, 1, 1, 0, 1, 2, 2, 0, 0]) (q258 [1, 1, 1, 0, 1, 2, 2, 0, 1]) := by kernel_rfl
theorem q258_111012200 : q258 [1, 1, 1, 0, 1, 2, 2, 0, 0] = .region 5 (opsA (q258 [1, 1, 1, 0, 1, 2, 2, 0, 0])) false := by kernel_rfl
theorem q258_111012201 : q258 [1, 1, 1, 0, 1, 2, 2, 0, 1] = .cond (.tmp 19) (q258 [1, 1, 1, 0, 1, 2, 2, 0, 1, 3]) (q258 [1, 1, 1, 0, 1, 2, 2, 0, 1, 4]) := by kernel_rfl
theorem q258_1110122013 : q258 [1, 1, 1, 0, 1, 2, 2, 0, 1, 3] = .skip := by kernel_rfl
theorem q258_1110122014 : q258 [1, 1, 1, 0, 1, 2, 2, 0, 1, 4] = .exit 0 := by kernel_rfl
theorem q258_11101221 : q258 [1, 1, 1, 0, 1, 2, 2, 1] = .seq (q258 [1, 1, 1, 0, 1, 2, 2, 1, 0]) (q258 [1, 1, 1, 0, 1, 2, 2, 1, 1]) := by kernel_rfl
theorem q258_111012210 : q258 [1, 1, 1, 0, 1, 2, 2, 1, 0] = .block 1 (q258 [1, 1, 1, 0, 1, 2, 2, 1, 0, 2]) := by kernel_rfl
theorem q258_1110122102 : q258 [1, 1, 1, 0, 1, 2, 2, 1, 0, 2] = .region 7 (opsA (q258 [1, 1, 1, 0, 1, 2, 2, 1, 0, 2])) false := by kernel_rfl
theorem q258_111012211 : q258 [1, 1, 1, 0, 1, 2, 2, 1, 1] = .region 6 (opsA (q258 [1, 1, 1, 0, 1, 2, 2, 1, 1])) false := by kernel_rfl
theorem q258_1111 : q258 [1, 1, 1, 1] = .seq (q258 [1, 1, 1, 1, 0]) (q258 [1, 1, 1, 1, 1]) := by kernel_rfl
theorem q258_11110 : q258 [1, 1, 1, 1, 0] = .region 8 (opsA (q258 [1, 1, 1, 1, 0])) false := by kernel_rfl
theorem q258_11111 : q258 [1, 1, 1, 1, 1] = .ret := by kernel_rfl
noncomputable def q313 (p : List Nat) : Code := piece p (bodyOf Tryz.f313)
theorem q313_ : q313 [] = .seq (q313 [0]) (q313 [1]) := by kernel_rfl
theorem q313_0 : q313 [0] = .region 0 (opsA (q313 [0])) false := by kernel_rfl
theorem q313_1 : q313 [1] = .seq (q313 [1, 0]) (q313 [1, 1]) := by kernel_rfl
theorem q313_10 : q313 [1, 0] = .region 1 (opsA (q313 [1, 0])) false := by kernel_rfl
theorem q313_11 : q313 [1, 1] = .ret := by kernel_rfl
theorem rs313 : Tryz.f313.results.toList = [.tmp 6] := rfl
theorem rs258 : Tryz.f258.results.toList = [.tmp 6, .tmp 7] := rfl
theorem rs193 : Tryz.f193.results.toList = [.tmp 4, .tmp 5] := rfl
theorem rs215 : Tryz.f215.results.toList = [.tmp 4] := rfl
attribute [go_sem] rs313 rs258 rs193 rs215
def leN : List Nat → Nat
  | [] => 0
  | b :: l => b + 256 * leN l
theorem leN_lt : ∀ {l : List Nat}, (∀ b ∈ l, b < 256) → leN l < 256 ^ l.length
  | [], _ => by simp [leN]
  | b :: l, h => by
    have h1 := h b (by simp)
    have h2 := leN_lt (l := l) (fun x hx => h x (by simp [hx]))
    simp only [leN, List.length_cons, Nat.pow_succ]
    omega
theorem shl8 {v : Nat} (h : v < 16777216) : opShl .u32 (v : Int) 8 = some (.int .u32 ((v * 256 : Nat) : Int)) := by
  unfold opShl
  have e : min (8 : Int).toNat IntKind.u32.bits = 8 := rfl
  rw [e]
  show some (wrapC .u32 ((v : Int) * 256)) = _
  rw [wrapU32I (by omega)]
  rfl
theorem or8 {v b : Nat} (h : v < 16777216) (hb : b < 256) : opBit .u32 Nat.lor ((v * 256 : Nat) : Int) (b : Int) = .int .u32 ((b + 256 * v : Nat) : Int) := by
  have e : Nat.lor (v * 256) b = b + 256 * v := by
    have := Nat.two_pow_add_eq_or_of_lt (i := 8) hb v
    rw [show (2 : Nat) ^ 8 * v = v * 256 by omega] at this
    show v * 256 ||| b = _
    omega
  rw [bitU32 (by omega) (by omega) (by rw [e]; omega), e]
section
variable (Hh : Hearts K Tryz.prog)
include Hh
theorem withinOk (h : Go.Ev.H) (n at' size : Nat) (hn : n < 4294967296) (ha : at' < 4294967296) (hs : size ≤ n) (hf : at' + size ≤ n) : CallOk K Tryz.prog 313 [.c (.int .i64 n), .c (.int .i64 at'), .c (.int .i64 size)] h (.w (.c (.bool true))) h := by
  have e1 : ((n : Int) - (size : Int)) = ((n - size : Nat) : Int) := by omega
  refine CallOk.goes fits Hh (by kernel_rfl) (by kernel_rfl) (by kernel_rfl) (show Tryz.f313.body = some (q313 []) by kernel_rfl) rfl ?_
  show Goes K Tryz.prog 21 none _ _ _ _ _
  show Goes K Tryz.prog 21 none (q313 []) _ _ _ _
  rw [q313_]
  refine Goes.seq ?_
  show Goes K Tryz.prog 21 none (q313 [0]) _ _ _ _
  rw [q313_0]
  refine Goes.ops2 fits Hh E0_sound (by
    simp (config := { maxSteps := 1000000 }) (decide := true) (discharger := first | omega | (simp only [H.next_new, H.next_put] <;> omega) | decide) only [go_sem, q313, Tryz.f313, readRow, loadIn, reduceIte, Nat.reduceAdd, Nat.reduceMul, Nat.reduceSub, Nat.reduceDiv, Nat.reduceMod, Nat.reduceLT, Nat.reduceBEq, Int.reduceToNat, e1]
    rfl) ?_
  show Goes K Tryz.prog 21 none (q313 [1]) _ _ _ _
  rw [q313_1]
  refine Goes.seq ?_
  show Goes K Tryz.prog 21 none (q313 [1, 0]) _ _ _ _
  rw [q313_10]
  refine Goes.ops2 fits Hh E0_sound (by
    simp only [q313, Tryz.f313, piece, part0, part1, part2, part2l, part3, part4, part5, part6, bodyOf, opsA]
    iterate 15 (refine evOps_step (by simp (config := { maxSteps := 1000000 }) (decide := true) (discharger := first | omega | (simp only [H.next_new, H.next_put] <;> omega) | decide) only [go_sem, readRow, loadIn, reduceIte, Nat.reduceAdd, Nat.reduceMul, Nat.reduceSub, Nat.reduceDiv, Nat.reduceMod, Nat.reduceLT, Nat.reduceBEq, Int.reduceToNat, e1] <;> rfl) ?_)
    exact evOps_done) ?_
  show Goes K Tryz.prog 21 none (q313 [1, 1]) _ _ _ _
  rw [q313_11]
  refine Goes.ret ?_
  simp (config := { maxSteps := 1000000 }) (decide := true) (discharger := first | omega | (simp only [H.next_new, H.next_put] <;> omega) | decide) only [go_sem, readRow, loadIn, reduceIte, Nat.reduceAdd, Nat.reduceMul, Nat.reduceSub, Nat.reduceDiv, Nat.reduceMod, Nat.reduceLT, Nat.reduceBEq, Int.reduceToNat, e1] <;> rfl
theorem get0 (h : Go.Ev.H) (n off len at' : Nat) (o : O) (ho : h.get n = some o) (hlen : len < 4294967296) (hat : at' + 4 ≤ len) (bs : List Nat) (h4 : bs.length = 4) (hb : ∀ j (b : Nat), bs[j]? = some b → b < 256 ∧ loadIn ti5 (off + (at' + j)) (some o) = some (.c (.int .u8 (b : Int)))) : ∀ (k : Nat) (ts : Tmps), k ≤ 4 → evalT ts 0 = .w (.c (.slice n off len 1)) → evalT ts 1 = .w (.c (.int .i64 at')) → evalT ts 8 = .w (.c (.int .u32 ((leN (bs.drop k) : Nat) : Int))) → evalT ts 9 = .w (.c (.int .i64 ((k : Int) - 1))) →
    Goes K Tryz.prog 33 none (q258 [1, 1, 1, 0, 1, 2]) [] ts h fun x ds' ts' h' => x = .exit 0 ∧ ds' = [] ∧ h' = h ∧ evalT ts' 8 = .w (.c (.int .u32 ((leN bs : Nat) : Int))) := by
  intro k
  induction k with
  | zero =>
    intro ts hk h0 h1 h8 h9
    show Goes K Tryz.prog 33 none (q258 [1, 1, 1, 0, 1, 2]) _ _ _ _
    rw [q258_111012]
    refine Goes.loop ?_
    show Goes K Tryz.prog 33 none (q258 [1, 1, 1, 0, 1, 2, 2]) _ _ _ _
    rw [q258_1110122]
    refine Goes.seq ?_
    show Goes K Tryz.prog 33 none (q258 [1, 1, 1, 0, 1, 2, 2, 0]) _ _ _ _
    rw [q258_11101220]
    refine Goes.seq ?_
    show Goes K Tryz.prog 33 none (q258 [1, 1, 1, 0, 1, 2, 2, 0, 0]) _ _ _ _
    rw [q258_111012200]
    refine Goes.ops2 fits Hh E0_sound (by
      simp (config := { maxSteps := 1000000 }) (decide := true) (discharger := first | omega | (simp only [H.next_new, H.next_put] <;> omega) | decide) only [go_sem, q258, Tryz.f258, readRow, loadIn, reduceIte, Nat.reduceAdd, Nat.reduceMul, Nat.reduceSub, Nat.reduceDiv, Nat.reduceMod, Nat.reduceLT, Nat.reduceBEq, Int.reduceToNat, h9]
      rfl) ?_
    show Goes K Tryz.prog 33 none (q258 [1, 1, 1, 0, 1, 2, 2, 0, 1]) _ _ _ _
    rw [q258_111012201]
    refine Goes.condE (by simp (config := { maxSteps := 1000000 }) (decide := true) (discharger := first | omega | (simp only [H.next_new, H.next_put] <;> omega) | decide) only [go_sem, readRow, loadIn, reduceIte, Nat.reduceAdd, Nat.reduceMul, Nat.reduceSub, Nat.reduceDiv, Nat.reduceMod, Nat.reduceLT, Nat.reduceBEq, Int.reduceToNat, h9] <;> rfl) (by first | rfl | assumption | exact decide_eq_false (by omega) | (simp; omega)) ?_
    show Goes K Tryz.prog 33 none (q258 [1, 1, 1, 0, 1, 2, 2, 0, 1, 4]) _ _ _ _
    rw [q258_1110122014]
    refine Goes.exit ?_
    refine ⟨rfl, rfl, rfl, ?_⟩
    rw [List.drop_zero] at h8
    simp (decide := true) only [evalT_set, reduceIte, h8]
  | succ k ih =>
    intro ts hk h0 h1 h8 h9
    have e9 : (((k + 1 : Nat) : Int) - 1) = (k : Int) := by omega
    rw [e9] at h9
    have hkl : k < bs.length := by omega
    obtain ⟨b, hbk⟩ : ∃ b, bs[k]? = some b := ⟨_, List.getElem?_eq_getElem hkl⟩
    obtain ⟨b1, ld⟩ := hb k b hbk
    have hd : bs.drop k = b :: bs.drop (k + 1) := by
      rw [List.drop_eq_getElem_cons hkl]
      have := List.getElem?_eq_getElem hkl
      rw [this] at hbk
      cases hbk
      rfl
    have hv : leN (bs.drop (k + 1)) < 16777216 := by
      have h5 := leN_lt (l := bs.drop (k + 1)) (fun x hx => by
        obtain ⟨j, hj⟩ := List.getElem?_of_mem (List.mem_of_mem_drop hx)
        exact (hb j x hj).1)
      have h6 : (bs.drop (k + 1)).length ≤ 3 := by rw [List.length_drop]; omega
      exact Nat.lt_of_lt_of_le h5 (Nat.pow_le_pow_right (by omega) h6)
    obtain ⟨v, hvv⟩ : ∃ v, leN (bs.drop (k + 1)) = v := ⟨_, rfl⟩
    rw [hvv] at h8 hv
    have s1 := shl8 hv
    have o1 := or8 hv b1
    have w1 : (at' : Int) + (k : Int) = ((at' + k : Nat) : Int) := rfl
    show Goes K Tryz.prog 33 none (q258 [1, 1, 1, 0, 1, 2]) _ _ _ _
    rw [q258_111012]
    refine Goes.loop ?_
    show Goes K Tryz.prog 33 none (q258 [1, 1, 1, 0, 1, 2, 2]) _ _ _ _
    rw [q258_1110122]
    refine Goes.seq ?_
    show Goes K Tryz.prog 33 none (q258 [1, 1, 1, 0, 1, 2, 2, 0]) _ _ _ _
    rw [q258_11101220]
    refine Goes.seq ?_
    show Goes K Tryz.prog 33 none (q258 [1, 1, 1, 0, 1, 2, 2, 0, 0]) _ _ _ _
    rw [q258_111012200]
    refine Goes.ops2 fits Hh E0_sound (by
      simp (config := { maxSteps := 1000000 }) (decide := true) (discharger := first | omega | (simp only [H.next_new, H.next_put] <;> omega) | decide) only [go_sem, q258, Tryz.f258, readRow, reduceIte, Nat.reduceAdd, Nat.reduceMul, Nat.reduceSub, Nat.reduceDiv, Nat.reduceMod, Nat.reduceLT, Nat.reduceBEq, Int.reduceToNat, h0, h1, h8, h9, s1, o1, w1, ho, ld, tyBytes, tyByte, dBytes, sByte]
      rfl) ?_
    show Goes K Tryz.prog 33 none (q258 [1, 1, 1, 0, 1, 2, 2, 0, 1]) _ _ _ _
    rw [q258_111012201]
    refine Goes.condA (by simp (config := { maxSteps := 1000000 }) (decide := true) (discharger := first | omega | (simp only [H.next_new, H.next_put] <;> omega) | decide) only [go_sem, readRow, reduceIte, Nat.reduceAdd, Nat.reduceMul, Nat.reduceSub, Nat.reduceDiv, Nat.reduceMod, Nat.reduceLT, Nat.reduceBEq, Int.reduceToNat, h0, h1, h8, h9, s1, o1, w1, ho, ld, tyBytes, tyByte, dBytes, sByte] <;> rfl) (by first | rfl | assumption | exact decide_eq_true (by omega) | (simp; omega)) ?_
    show Goes K Tryz.prog 33 none (q258 [1, 1, 1, 0, 1, 2, 2, 0, 1, 3]) _ _ _ _
    rw [q258_1110122013]
    refine Goes.skip ?_
    show Goes K Tryz.prog 33 none (q258 [1, 1, 1, 0, 1, 2, 2, 1]) _ _ _ _
    rw [q258_11101221]
    refine Goes.seq ?_
    show Goes K Tryz.prog 33 none (q258 [1, 1, 1, 0, 1, 2, 2, 1, 0]) _ _ _ _
    rw [q258_111012210]
    refine Goes.block ?_
    show Goes K Tryz.prog 33 none (q258 [1, 1, 1, 0, 1, 2, 2, 1, 0, 2]) _ _ _ _
    rw [q258_1110122102]
    refine Goes.ops2 fits Hh E0_sound (by
      simp (config := { maxSteps := 1000000 }) (decide := true) (discharger := first | omega | (simp only [H.next_new, H.next_put] <;> omega) | decide) only [go_sem, q258, Tryz.f258, readRow, reduceIte, Nat.reduceAdd, Nat.reduceMul, Nat.reduceSub, Nat.reduceDiv, Nat.reduceMod, Nat.reduceLT, Nat.reduceBEq, Int.reduceToNat, h0, h1, h8, h9, s1, o1, w1, ho, ld, tyBytes, tyByte, dBytes, sByte]
      rfl) ?_
    show Goes K Tryz.prog 33 none (q258 [1, 1, 1, 0, 1, 2, 2, 1, 1]) _ _ _ _
    rw [q258_111012211]
    refine Goes.ops2 fits Hh E0_sound (by
      simp (config := { maxSteps := 1000000 }) (decide := true) (discharger := first | omega | (simp only [H.next_new, H.next_put] <;> omega) | decide) only [go_sem, q258, Tryz.f258, readRow, reduceIte, Nat.reduceAdd, Nat.reduceMul, Nat.reduceSub, Nat.reduceDiv, Nat.reduceMod, Nat.reduceLT, Nat.reduceBEq, Int.reduceToNat, h0, h1, h8, h9, s1, o1, w1, ho, ld, tyBytes, tyByte, dBytes, sByte]
      rfl) ?_
    show Goes K Tryz.prog 33 none (.loop (q258 [1, 1, 1, 0, 1, 2, 2])) _ _ _ _
    rw [← q258_111012]
    refine ih _ (by omega) ?_ ?_ ?_ ?_
    · simp (decide := true) only [evalT_set, reduceIte, h0]
    · simp (decide := true) only [evalT_set, reduceIte, h1]
    · simp (decide := true) only [evalT_set, reduceIte]
      rw [hd, leN, hvv]
    · simp (decide := true) only [evalT_set, reduceIte]
theorem getOk (h : Go.Ev.H) (n off len at' : Nat) (o : O) (ho : h.get n = some o) (hlen : len < 4294967296) (hat : at' + 4 ≤ len) (bs : List Nat) (h4 : bs.length = 4) (hb : ∀ j (b : Nat), bs[j]? = some b → b < 256 ∧ loadIn ti5 (off + (at' + j)) (some o) = some (.c (.int .u8 (b : Int)))) : CallOk K Tryz.prog 258 [.c (.slice n off len 1), .c (.int .i64 at'), .c (.int .i64 4)] h (.tup [.c (.int .u32 ((leN bs : Nat) : Int)), .c (.bool true)]) h := by
  have c1 := withinOk Hh h len at' 4 hlen (by omega) (by omega) hat
  rw [show ((4 : Nat) : Int) = 4 from rfl] at c1
  have fl : lenFits K 202 (.c (.slice n off len 1)) = true := by unfold lenFits; rw [tyBytes]; rfl
  refine CallOk.goes fits Hh (by kernel_rfl) (by kernel_rfl) (by kernel_rfl) (show Tryz.f258.body = some (q258 []) by kernel_rfl) rfl ?_
  show Goes K Tryz.prog 33 none _ _ _ _ _
  show Goes K Tryz.prog 33 none (q258 []) _ _ _ _
  rw [q258_]
  refine Goes.seq ?_
  show Goes K Tryz.prog 33 none (q258 [0]) _ _ _ _
  rw [q258_0]
  refine Goes.ops2 fits Hh E0_sound (by
    simp (config := { maxSteps := 1000000 }) (decide := true) (discharger := first | omega | (simp only [H.next_new, H.next_put] <;> omega) | decide) only [go_sem, q258, Tryz.f258, readRow, loadIn, reduceIte, Nat.reduceAdd, Nat.reduceMul, Nat.reduceSub, Nat.reduceDiv, Nat.reduceMod, Nat.reduceLT, Nat.reduceBEq, Int.reduceToNat, fl, opBuiltin, opLen]
    rfl) ?_
  show Goes K Tryz.prog 33 none (q258 [1]) _ _ _ _
  rw [q258_1]
  refine Goes.seq ?_
  show Goes K Tryz.prog 33 none (q258 [1, 0]) _ _ _ _
  rw [q258_10]
  refine Goes.seq ?_
  show Goes K Tryz.prog 33 none (q258 [1, 0, 0]) _ _ _ _
  rw [q258_100]
  refine Goes.ops2 fits Hh (E1_sound E0_sound c1) (by
    simp (config := { maxSteps := 1000000 }) (decide := true) (discharger := first | omega | (simp only [H.next_new, H.next_put] <;> omega) | decide) only [go_sem, q258, Tryz.f258, readRow, loadIn, reduceIte, Nat.reduceAdd, Nat.reduceMul, Nat.reduceSub, Nat.reduceDiv, Nat.reduceMod, Nat.reduceLT, Nat.reduceBEq, Int.reduceToNat, E1_call, fl, opBuiltin, opLen]
    rfl) ?_
  show Goes K Tryz.prog 33 none (q258 [1, 0, 1]) _ _ _ _
  rw [q258_101]
  refine Goes.condE (by simp (config := { maxSteps := 1000000 }) (decide := true) (discharger := first | omega | (simp only [H.next_new, H.next_put] <;> omega) | decide) only [go_sem, readRow, loadIn, reduceIte, Nat.reduceAdd, Nat.reduceMul, Nat.reduceSub, Nat.reduceDiv, Nat.reduceMod, Nat.reduceLT, Nat.reduceBEq, Int.reduceToNat, fl, opBuiltin, opLen] <;> rfl) (by first | rfl | assumption | exact decide_eq_false (by omega) | (simp; omega)) ?_
  show Goes K Tryz.prog 33 none (q258 [1, 0, 1, 4]) _ _ _ _
  rw [q258_1014]
  refine Goes.skip ?_
  show Goes K Tryz.prog 33 none (q258 [1, 1]) _ _ _ _
  rw [q258_11]
  refine Goes.seq ?_
  show Goes K Tryz.prog 33 none (q258 [1, 1, 0]) _ _ _ _
  rw [q258_110]
  refine Goes.ops2 fits Hh E0_sound (by
    simp (config := { maxSteps := 1000000 }) (decide := true) (discharger := first | omega | (simp only [H.next_new, H.next_put] <;> omega) | decide) only [go_sem, q258, Tryz.f258, readRow, loadIn, reduceIte, Nat.reduceAdd, Nat.reduceMul, Nat.reduceSub, Nat.reduceDiv, Nat.reduceMod, Nat.reduceLT, Nat.reduceBEq, Int.reduceToNat, fl, opBuiltin, opLen]
    rfl) ?_
  show Goes K Tryz.prog 33 none (q258 [1, 1, 1]) _ _ _ _
  rw [q258_111]
  refine Goes.seq ?_
  show Goes K Tryz.prog 33 none (q258 [1, 1, 1, 0]) _ _ _ _
  rw [q258_1110]
  refine Goes.seq ?_
  show Goes K Tryz.prog 33 none (q258 [1, 1, 1, 0, 0]) _ _ _ _
  rw [q258_11100]
  refine Goes.ops2 fits Hh E0_sound (by
    simp (config := { maxSteps := 1000000 }) (decide := true) (discharger := first | omega | (simp only [H.next_new, H.next_put] <;> omega) | decide) only [go_sem, q258, Tryz.f258, readRow, loadIn, reduceIte, Nat.reduceAdd, Nat.reduceMul, Nat.reduceSub, Nat.reduceDiv, Nat.reduceMod, Nat.reduceLT, Nat.reduceBEq, Int.reduceToNat, fl, opBuiltin, opLen]
    rfl) ?_
  show Goes K Tryz.prog 33 none (q258 [1, 1, 1, 0, 1]) _ _ _ _
  rw [q258_11101]
  refine Goes.block ?_
  refine (get0 Hh h n off len at' o ho hlen hat bs h4 hb 4 _ (by omega) ?_ ?_ ?_ ?_).mono ?_
  · simp (decide := true) only [evalT_set, reduceIte, evalT_args, List.getElem?_cons_zero]
  · simp (decide := true) only [evalT_set, reduceIte, evalT_args, List.getElem?_cons_succ, List.getElem?_cons_zero]
  · simp (decide := true) only [evalT_set, reduceIte, List.drop_of_length_le (Nat.le_of_eq h4), leN] <;> rfl
  · simp (decide := true) only [evalT_set, reduceIte] <;> rfl
  rintro x ds' ts' h' ⟨rfl, rfl, rfl, f8⟩
  show Goes K Tryz.prog 33 none (q258 [1, 1, 1, 1]) _ _ _ _
  rw [q258_1111]
  refine Goes.seq ?_
  show Goes K Tryz.prog 33 none (q258 [1, 1, 1, 1, 0]) _ _ _ _
  rw [q258_11110]
  refine Goes.ops2 fits Hh E0_sound (by
    simp (config := { maxSteps := 1000000 }) (decide := true) (discharger := first | omega | (simp only [H.next_new, H.next_put] <;> omega) | decide) only [go_sem, q258, Tryz.f258, readRow, loadIn, reduceIte, Nat.reduceAdd, Nat.reduceMul, Nat.reduceSub, Nat.reduceDiv, Nat.reduceMod, Nat.reduceLT, Nat.reduceBEq, Int.reduceToNat, fl, f8, opBuiltin, opLen]
    rfl) ?_
  show Goes K Tryz.prog 33 none (q258 [1, 1, 1, 1, 1]) _ _ _ _
  rw [q258_11111]
  refine Goes.ret ?_
  simp (config := { maxSteps := 1000000 }) (decide := true) (discharger := first | omega | (simp only [H.next_new, H.next_put] <;> omega) | decide) only [go_sem, readRow, loadIn, reduceIte, Nat.reduceAdd, Nat.reduceMul, Nat.reduceSub, Nat.reduceDiv, Nat.reduceMod, Nat.reduceLT, Nat.reduceBEq, Int.reduceToNat, fl, f8, opBuiltin, opLen] <;> rfl
theorem get32Ok (h : Go.Ev.H) (n off len at' : Nat) (o : O) (ho : h.get n = some o) (hlen : len < 4294967296) (hat : at' + 4 ≤ len) (bs : List Nat) (h4 : bs.length = 4) (hb : ∀ j (b : Nat), bs[j]? = some b → b < 256 ∧ loadIn ti5 (off + (at' + j)) (some o) = some (.c (.int .u8 (b : Int)))) : CallOk K Tryz.prog 193 [.c (.slice n off len 1), .c (.int .i64 at')] h (.tup [.c (.int .u32 ((leN bs : Nat) : Int)), .c (.bool true)]) h := by
  have c1 := getOk Hh h n off len at' o ho hlen hat bs h4 hb
  refine CallOk.goes fits Hh (by kernel_rfl) (by kernel_rfl) (by kernel_rfl) (show Tryz.f193.body = some (q193 []) by kernel_rfl) rfl ?_
  show Goes K Tryz.prog 11 none _ _ _ _ _
  show Goes K Tryz.prog 11 none (q193 []) _ _ _ _
  rw [q193_]
  refine Goes.seq ?_
  show Goes K Tryz.prog 11 none (q193 [0]) _ _ _ _
  rw [q193_0]
  refine Goes.ops2 fits Hh E0_sound (by
    simp (config := { maxSteps := 1000000 }) (decide := true) (discharger := first | omega | (simp only [H.next_new, H.next_put] <;> omega) | decide) only [go_sem, q193, Tryz.f193, readRow, loadIn, reduceIte, Nat.reduceAdd, Nat.reduceMul, Nat.reduceSub, Nat.reduceDiv, Nat.reduceMod, Nat.reduceLT, Nat.reduceBEq, Int.reduceToNat]
    rfl) ?_
  show Goes K Tryz.prog 11 none (q193 [1]) _ _ _ _
  rw [q193_1]
  refine Goes.seq ?_
  show Goes K Tryz.prog 11 none (q193 [1, 0]) _ _ _ _
  rw [q193_10]
  refine Goes.ops2 fits Hh (E1_sound E0_sound c1) (by
    simp (config := { maxSteps := 1000000 }) (decide := true) (discharger := first | omega | (simp only [H.next_new, H.next_put] <;> omega) | decide) only [go_sem, q193, Tryz.f193, readRow, loadIn, reduceIte, Nat.reduceAdd, Nat.reduceMul, Nat.reduceSub, Nat.reduceDiv, Nat.reduceMod, Nat.reduceLT, Nat.reduceBEq, Int.reduceToNat, E1_call]
    rfl) ?_
  show Goes K Tryz.prog 11 none (q193 [1, 1]) _ _ _ _
  rw [q193_11]
  refine Goes.ret ?_
  simp (config := { maxSteps := 1000000 }) (decide := true) (discharger := first | omega | (simp only [H.next_new, H.next_put] <;> omega) | decide) only [go_sem, readRow, loadIn, reduceIte, Nat.reduceAdd, Nat.reduceMul, Nat.reduceSub, Nat.reduceDiv, Nat.reduceMod, Nat.reduceLT, Nat.reduceBEq, Int.reduceToNat] <;> rfl
theorem pointerOk (h : Go.Ev.H) (n off i : Nat) (o : O) (ho : h.get n = some o) (hr : reaches off 256 (some o) = true) (hi : i < 64) (bs : List Nat) (h4 : bs.length = 4) (hb : ∀ j (b : Nat), bs[j]? = some b → b < 256 ∧ loadIn ti5 (off + (4 * i + j)) (some o) = some (.c (.int .u8 (b : Int)))) : CallOk K Tryz.prog 215 [.c (.ptr n off), .c (.int .i64 i)] h (.w (.c (.int .i64 ((leN bs : Nat) : Int)))) h := by
  have c1 := get32Ok Hh h n off 256 (4 * i) o ho (by omega) (by omega) bs h4 hb
  have e1 : (4 : Int) * (i : Int) = ((4 * i : Nat) : Int) := rfl
  have l1 : leN bs < 4294967296 := by
    have := leN_lt (l := bs) (fun x hx => by
      obtain ⟨j, hj⟩ := List.getElem?_of_mem hx
      exact (hb j x hj).1)
    rw [h4] at this
    exact this
  refine CallOk.goes fits Hh (by kernel_rfl) (by kernel_rfl) (by kernel_rfl) (show Tryz.f215.body = some (q215 []) by kernel_rfl) rfl ?_
  show Goes K Tryz.prog 18 none _ _ _ _ _
  show Goes K Tryz.prog 18 none (q215 []) _ _ _ _
  rw [q215_]
  refine Goes.seq ?_
  show Goes K Tryz.prog 18 none (q215 [0]) _ _ _ _
  rw [q215_0]
  refine Goes.ops2 fits Hh E0_sound (by
    simp (config := { maxSteps := 1000000 }) (decide := true) (discharger := first | omega | (simp only [H.next_new, H.next_put] <;> omega) | decide) only [go_sem, q215, Tryz.f215, readRow, loadIn, reduceIte, Nat.reduceAdd, Nat.reduceMul, Nat.reduceSub, Nat.reduceDiv, Nat.reduceMod, Nat.reduceLT, Nat.reduceBEq, Int.reduceToNat, e1, ho, hr, opSlice, optC, bound, cutSl, tyBlock, dBlock, tyByte, sByte, Nat.add_zero]
    rfl) ?_
  show Goes K Tryz.prog 18 none (q215 [1]) _ _ _ _
  rw [q215_1]
  refine Goes.seq ?_
  show Goes K Tryz.prog 18 none (q215 [1, 0]) _ _ _ _
  rw [q215_10]
  refine Goes.ops2 fits Hh (E1_sound E0_sound c1) (by
    simp (config := { maxSteps := 1000000 }) (decide := true) (discharger := first | omega | (simp only [H.next_new, H.next_put] <;> omega) | decide) only [go_sem, q215, Tryz.f215, readRow, loadIn, reduceIte, Nat.reduceAdd, Nat.reduceMul, Nat.reduceSub, Nat.reduceDiv, Nat.reduceMod, Nat.reduceLT, Nat.reduceBEq, Int.reduceToNat, E1_call, e1, ho, hr, opSlice, optC, bound, cutSl, tyBlock, dBlock, tyByte, sByte, Nat.add_zero]
    rfl) ?_
  show Goes K Tryz.prog 18 none (q215 [1, 1]) _ _ _ _
  rw [q215_11]
  refine Goes.seq ?_
  show Goes K Tryz.prog 18 none (q215 [1, 1, 0]) _ _ _ _
  rw [q215_110]
  refine Goes.ops2 fits Hh E0_sound (by
    simp (config := { maxSteps := 1000000 }) (decide := true) (discharger := first | omega | (simp only [H.next_new, H.next_put] <;> omega) | decide) only [go_sem, q215, Tryz.f215, readRow, loadIn, reduceIte, Nat.reduceAdd, Nat.reduceMul, Nat.reduceSub, Nat.reduceDiv, Nat.reduceMod, Nat.reduceLT, Nat.reduceBEq, Int.reduceToNat, e1, ho, hr, opSlice, optC, bound, cutSl, tyBlock, dBlock, tyByte, sByte, Nat.add_zero]
    rfl) ?_
  show Goes K Tryz.prog 18 none (q215 [1, 1, 1]) _ _ _ _
  rw [q215_111]
  refine Goes.ret ?_
  simp (config := { maxSteps := 1000000 }) (decide := true) (discharger := first | omega | (simp only [H.next_new, H.next_put] <;> omega) | decide) only [go_sem, readRow, loadIn, reduceIte, Nat.reduceAdd, Nat.reduceMul, Nat.reduceSub, Nat.reduceDiv, Nat.reduceMod, Nat.reduceLT, Nat.reduceBEq, Int.reduceToNat, e1, ho, hr, opSlice, optC, bound, cutSl, tyBlock, dBlock, tyByte, sByte, Nat.add_zero] <;> rfl
end
noncomputable def byteIn (off : Nat) (o : Option O) : Option Nat := match loadIn ti5 off o with
  | some (.c (.int .u8 (.ofNat b))) => bif Nat.blt b 256 then some b else none
  | _ => none
noncomputable def fourIn (off : Nat) (o : Option O) : Option (List Nat) := match byteIn off o, byteIn (off + 1) o, byteIn (off + 2) o, byteIn (off + 3) o with
  | some a, some b, some c, some d => some [a, b, c, d]
  | _, _, _, _ => none
theorem byteIn_some {off : Nat} {o : Option O} {b : Nat} (e : byteIn off o = some b) : b < 256 ∧ loadIn ti5 off o = some (.c (.int .u8 (b : Int))) := by
  unfold byteIn at e
  split at e
  · rename_i b' hb
    cases hl : Nat.blt b' 256 with
    | false => rw [hl] at e; cases e
    | true =>
      rw [hl] at e
      cases e
      exact ⟨by simpa [Nat.blt_eq] using hl, hb⟩
  · cases e
theorem fourIn_some {off : Nat} {o : Option O} {l : List Nat} (e : fourIn off o = some l) : l.length = 4 ∧ ∀ j (b : Nat), l[j]? = some b → b < 256 ∧ loadIn ti5 (off + j) o = some (.c (.int .u8 (b : Int))) := by
  unfold fourIn at e
  split at e
  · rename_i a b c d ha hb hc hd
    cases e
    refine ⟨rfl, fun j x hx => ?_⟩
    match j with
    | 0 => cases hx; exact byteIn_some ha
    | 1 => cases hx; exact byteIn_some hb
    | 2 => cases hx; exact byteIn_some hc
    | 3 => cases hx; exact byteIn_some hd
    | j + 4 => simp at hx
  · cases e
def ptrOf (h : Go.Ev.H) : Option (List Nat) → Option (V × Go.Ev.H)
  | some l => some (.w (.c (.int .i64 ((leN l : Nat) : Int))), h)
  | none => none
noncomputable def xPtr (args : List W) (h : Go.Ev.H) : Option (V × Go.Ev.H) := match args with
  | [.c (.ptr n off), .c (.int .i64 (.ofNat i))] => bif Nat.blt i 64 && reaches off 256 (h.get n) then ptrOf h (fourIn (off + 4 * i) (h.get n)) else none
  | _ => none
section
variable (Hh : Hearts K Tryz.prog)
include Hh
theorem xPtr_ok {args : List W} {h h' : Go.Ev.H} {v : V} (e : xPtr args h = some (v, h')) : CallOk K Tryz.prog 215 args h v h' := by
  unfold xPtr at e
  split at e
  · rename_i n off i
    cases hb : (Nat.blt i 64 && reaches off 256 (h.get n)) with
    | false => rw [hb] at e; cases e
    | true =>
      rw [hb] at e
      simp only [Bool.and_eq_true] at hb
      simp only [cond_true] at e
      cases ho : h.get n with
      | none => rw [ho] at hb; exact absurd hb.2 (by simp [reaches])
      | some o =>
        rw [ho] at e hb
        unfold ptrOf at e
        split at e
        · rename_i l hl
          cases e
          obtain ⟨h4, hbs⟩ := fourIn_some hl
          exact pointerOk Hh h n off i o ho hb.2 (by simpa [Nat.blt_eq] using hb.1) l h4 (fun j b hj => by rw [← Nat.add_assoc]; exact hbs j b hj)
        · cases e
  · cases e
end
noncomputable def getOf (h : Go.Ev.H) : Option (List Nat) → Option (V × Go.Ev.H)
  | some l => some (.tup [.c (.int .u32 ((leN l : Nat) : Int)), .c (.bool true)], h)
  | none => none
noncomputable def xGet32 (args : List W) (h : Go.Ev.H) : Option (V × Go.Ev.H) := match args with
  | [.c (.slice n off len 1), .c (.int .i64 (.ofNat i))] => bif Nat.ble (i + 4) len && Nat.blt len 4294967296 then getOf h (fourIn (off + i) (h.get n)) else none
  | _ => none
section
variable (Hh : Hearts K Tryz.prog)
include Hh
theorem xGet32_ok {args : List W} {h h' : Go.Ev.H} {v : V} (e : xGet32 args h = some (v, h')) : CallOk K Tryz.prog 193 args h v h' := by
  unfold xGet32 at e
  split at e
  · rename_i n off len i
    cases hb : (Nat.ble (i + 4) len && Nat.blt len 4294967296) with
    | false => rw [hb] at e; cases e
    | true =>
      rw [hb] at e
      simp only [Bool.and_eq_true] at hb
      simp only [cond_true] at e
      unfold getOf at e
      split at e
      · rename_i l hl
        cases e
        obtain ⟨h4, hbs⟩ := fourIn_some hl
        cases ho : h.get n with
        | none =>
          exfalso
          rw [ho] at hl
          simp [fourIn, byteIn, loadIn] at hl
        | some o =>
          rw [ho] at hbs
          exact get32Ok Hh h n off len i o ho (by simpa [Nat.blt_eq] using hb.2) (Nat.le_of_ble_eq_true hb.1) l h4 (fun j b hj => by rw [← Nat.add_assoc]; exact hbs j b hj)
      · cases e
  · cases e
end
end Go.Proofs.YtmnclecicnkmeaaGreatDoor
