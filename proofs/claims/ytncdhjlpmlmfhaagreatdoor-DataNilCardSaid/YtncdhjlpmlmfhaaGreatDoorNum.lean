/- nums.Get32 and mapping.pointer, on the evaluator's level. -/
import Derived.Test.YtncdhjlpmlmfhaaGreatDoorFine
set_option linter.unusedSimpArgs false
set_option linter.unusedVariables false
set_option linter.unusedSectionVars false
set_option maxRecDepth 100000
namespace Go.Proofs.YtncdhjlpmlmfhaaGreatDoor
open Go.Ev
theorem ty3 : K.types.get 3 = some ti3 := by kernel_rfl
theorem sz3 : ti3.size = 1 := by rfl
theorem ag3 : ti3.agg = false := by rfl
theorem de3 : ti3.desc = (.int .i64) := by rfl
theorem ze3 : ti3.zero = (.c (.int .i64 0)) := by rfl
theorem by3 : ti3.bytes = 8 := by rfl
theorem ke3 (k : IntKind) (n : Int) : keyT K 20 3 (.c (.int k n)) = true := by kernel_rfl
theorem ty4 : K.types.get 4 = some ti4 := by kernel_rfl
theorem sz4 : ti4.size = 1 := by rfl
theorem ag4 : ti4.agg = false := by rfl
theorem de4 : ti4.desc = .bool := by rfl
theorem ze4 : ti4.zero = (.c (.bool false)) := by rfl
theorem by4 : ti4.bytes = 1 := by rfl
theorem ty5 : K.types.get 5 = some ti5 := by kernel_rfl
theorem sz5 : ti5.size = 1 := by rfl
theorem ag5 : ti5.agg = false := by rfl
theorem de5 : ti5.desc = (.int .u8) := by rfl
theorem ze5 : ti5.zero = (.c (.int .u8 0)) := by rfl
theorem by5 : ti5.bytes = 1 := by rfl
theorem ke5 (k : IntKind) (n : Int) : keyT K 20 5 (.c (.int k n)) = true := by kernel_rfl
theorem ty22 : K.types.get 22 = some ti22 := by kernel_rfl
theorem sz22 : ti22.size = 1 := by rfl
theorem ag22 : ti22.agg = false := by rfl
theorem de22 : ti22.desc = (.int .u32) := by rfl
theorem ze22 : ti22.zero = (.c (.int .u32 0)) := by rfl
theorem by22 : ti22.bytes = 4 := by rfl
theorem ke22 (k : IntKind) (n : Int) : keyT K 20 22 (.c (.int k n)) = true := by kernel_rfl
theorem ty36 : K.types.get 36 = some ti36 := by kernel_rfl
theorem sz36 : ti36.size = 1 := by rfl
theorem ag36 : ti36.agg = false := by rfl
theorem de36 : ti36.desc = (.slice 5) := by rfl
theorem ze36 : ti36.zero = (.c (.snil)) := by rfl
theorem by36 : ti36.bytes = 24 := by rfl
theorem el36 : elemTI K 36 = some ti5 := by kernel_rfl
theorem ty56 : K.types.get 56 = some ti56 := by kernel_rfl
theorem sz56 : ti56.size = 256 := by rfl
theorem ag56 : ti56.agg = true := by rfl
theorem de56 : ti56.desc = (.array 256 5) := by rfl
theorem ze56 : ti56.zero = (.g ((List.replicate 256 (.int .u8 0)))) := by rfl
theorem by56 : ti56.bytes = 256 := by rfl
theorem eq56 (a b : List C) : eqT K 20 56 (.g a) (.g b) = (bif true && Nat.beq a.length 256 && Nat.beq b.length 256 then eqInts a b else none) := by kernel_rfl
attribute [go_sem] ty3 sz3 ag3 de3 ze3 by3 ke3 ty4 sz4 ag4 de4 ze4 by4 ty5 sz5 ag5 de5 ze5 by5 ke5 ty22 sz22 ag22 de22 ze22 by22 ke22 ty36 sz36 ag36 de36 ze36 by36 el36 ty56 sz56 ag56 de56 ze56 by56 eq56
noncomputable def q25 (p : List Nat) : Code := piece p (bodyOf Tryz.f25)
theorem q25_ : q25 [] = .seq (q25 [0]) (q25 [1]) := by kernel_rfl
theorem q25_0 : q25 [0] = .region 0 (opsA (q25 [0])) false := by kernel_rfl
theorem q25_1 : q25 [1] = .seq (q25 [1, 0]) (q25 [1, 1]) := by kernel_rfl
theorem q25_10 : q25 [1, 0] = .region 1 (opsA (q25 [1, 0])) false := by kernel_rfl
theorem q25_11 : q25 [1, 1] = .seq (q25 [1, 1, 0]) (q25 [1, 1, 1]) := by kernel_rfl
theorem q25_110 : q25 [1, 1, 0] = .region 2 (opsA (q25 [1, 1, 0])) false := by kernel_rfl
theorem q25_111 : q25 [1, 1, 1] = .ret := by kernel_rfl
noncomputable def q48 (p : List Nat) : Code := piece p (bodyOf Tryz.f48)
theorem q48_ : q48 [] = .seq (q48 [0]) (q48 [1]) := by kernel_rfl
theorem q48_0 : q48 [0] = .region 0 (opsA (q48 [0])) false := by kernel_rfl
theorem q48_1 : q48 [1] = .seq (q48 [1, 0]) (q48 [1, 1]) := by kernel_rfl
theorem q48_10 : q48 [1, 0] = .region 1 (opsA (q48 [1, 0])) false := by kernel_rfl
theorem q48_11 : q48 [1, 1] = .ret := by kernel_rfl
noncomputable def q89 (p : List Nat) : Code := piece p (bodyOf Tryz.f89)
theorem q89_ : q89 [] = .seq (q89 [0]) (q89 [1]) := by kernel_rfl
theorem q89_0 : q89 [0] = .region 0 (opsA (q89 [0])) false := by kernel_rfl
theorem q89_1 : q89 [1] = .seq (q89 [1, 0]) (q89 [1, 1]) := by kernel_rfl
theorem q89_10 : q89 [1, 0] = .seq (q89 [1, 0, 0]) (q89 [1, 0, 1]) := by kernel_rfl
theorem q89_100 : q89 [1, 0, 0] = .region 1 (opsA (q89 [1, 0, 0])) false := by kernel_rfl
theorem q89_101 : q89 [1, 0, 1] = .cond (.tmp 15) (q89 [1, 0, 1, 3]) (q89 [1, 0, 1, 4]) := by kernel_rfl
theorem q89_1014 : q89 [1, 0, 1, 4] = .skip := by kernel_rfl
theorem q89_11 : q89 [1, 1] = .seq (q89 [1, 1, 0]) (q89 [1, 1, 1]) := by kernel_rfl
theorem q89_110 : q89 [1, 1, 0] = .region 3 (opsA (q89 [1, 1, 0])) false := by kernel_rfl
theorem q89_111 : q89 [1, 1, 1] = .seq (q89 [1, 1, 1, 0]) (q89 [1, 1, 1, 1]) := by kernel_rfl
theorem q89_1110 : q89 [1, 1, 1, 0] = .seq (q89 [1, 1, 1, 0, 0]) (q89 [1, 1, 1, 0, 1]) := by kernel_rfl
theorem q89_11100 : q89 [1, 1, 1, 0, 0] = .region 4 (opsA (q89 [1, 1, 1, 0, 0])) false := by kernel_rfl
theorem q89_11101 : q89 [1, 1, 1, 0, 1] = .block 0 (q89 [1, 1, 1, 0, 1, 2]) := by kernel_rfl
theorem q89_111012 : q89 [1, 1, 1, 0, 1, 2] = .loop (q89 [1, 1, 1, 0, 1, 2, 2]) := by kernel_rfl
theorem q89_1110122 : q89 [1, 1, 1, 0, 1, 2, 2] = .seq (q89 [1, 1, 1, 0, 1, 2, 2, 0]) (q89 [1, 1, 1, 0, 1, 2, 2, 1]) := by kernel_rfl
theorem q89_11101220 : q89 [1, 1, 1, 0, 1, 2, 2, 0] = .seq (q89 [1, 1, 1, 0, 1, 2, 2, 0, 0]) (q89 [1, 1, 1, 0, 1, 2, 2, 0, 1]) := by kernel_rfl
theorem q89_111012200 : q89 [1, 1, 1, 0, 1, 2, 2, 0, 0] = .region 5 (opsA (q89 [1, 1, 1, 0, 1, 2, 2, 0, 0])) false := by kernel_rfl
theorem q89_111012201 : q89 [1, 1, 1, 0, 1, 2, 2, 0, 1] = .cond (.tmp 19) (q89 [1, 1, 1, 0, 1, 2, 2, 0, 1, 3]) (q89 [1, 1, 1, 0, 1, 2, 2, 0, 1, 4]) := by kernel_rfl
theorem q89_1110122013 : q89 [1, 1, 1, 0, 1, 2, 2, 0, 1, 3] = .skip := by kernel_rfl
theorem q89_1110122014 : q89 [1, 1, 1, 0, 1, 2, 2, 0, 1, 4] = .exit 0 := by kernel_rfl
theorem q89_11101221 : q89 [1, 1, 1, 0, 1, 2, 2, 1] = .seq (q89 [1, 1, 1, 0, 1, 2, 2, 1, 0]) (q89 [1, 1, 1, 0, 1, 2, 2, 1, 1]) := by kernel_rfl
theorem q89_111012210 : q89 [1, 1, 1, 0, 1, 2, 2, 1, 0] = .block 1 (q89 [1, 1, 1, 0, 1, 2, 2, 1, 0, 2]) := by kernel_rfl
theorem q89_1110122102 : q89 [1, 1, 1, 0, 1, 2, 2, 1, 0, 2] = .region 7 (opsA (q89 [1, 1, 1, 0, 1, 2, 2, 1, 0, 2])) false := by kernel_rfl
theorem q89_111012211 : q89 [1, 1, 1, 0, 1, 2, 2, 1, 1] = .region 6 (opsA (q89 [1, 1, 1, 0, 1, 2, 2, 1, 1])) false := by kernel_rfl
theorem q89_1111 : q89 [1, 1, 1, 1] = .seq (q89 [1, 1, 1, 1, 0]) (q89 [1, 1, 1, 1, 1]) := by kernel_rfl
theorem q89_11110 : q89 [1, 1, 1, 1, 0] = .region 8 (opsA (q89 [1, 1, 1, 1, 0])) false := by kernel_rfl
theorem q89_11111 : q89 [1, 1, 1, 1, 1] = .ret := by kernel_rfl
noncomputable def q122 (p : List Nat) : Code := piece p (bodyOf Tryz.f122)
theorem q122_ : q122 [] = .seq (q122 [0]) (q122 [1]) := by kernel_rfl
theorem q122_0 : q122 [0] = .region 0 (opsA (q122 [0])) false := by kernel_rfl
theorem q122_1 : q122 [1] = .seq (q122 [1, 0]) (q122 [1, 1]) := by kernel_rfl
theorem q122_10 : q122 [1, 0] = .region 1 (opsA (q122 [1, 0])) false := by kernel_rfl
theorem q122_11 : q122 [1, 1] = .ret := by kernel_rfl
theorem rs122 : Tryz.f122.results.toList = [.tmp 6] := rfl
theorem rs89 : Tryz.f89.results.toList = [.tmp 6, .tmp 7] := rfl
theorem rs48 : Tryz.f48.results.toList = [.tmp 4, .tmp 5] := rfl
theorem rs25 : Tryz.f25.results.toList = [.tmp 4] := rfl
attribute [go_sem] rs122 rs89 rs48 rs25
def leN : List Nat → Nat
  | [] => 0
  | b :: l => b + 256 * leN l
theorem leN_lt : ∀ {l : List Nat}, (∀ b ∈ l, b < 256) → leN l < 256 ^ l.length
  | [], _ => by simp [leN]
  | b :: l, h => by
    have h1 := h b (by simp)
    have h2 := leN_lt (l := l) (fun x hx => h x (by simp [hx]))
    simp only [leN, List.length_cons, Nat.pow_succ]
    omega
theorem shl8 {v : Nat} (h : v < 16777216) : opShl .u32 (v : Int) 8 = some (.int .u32 ((v * 256 : Nat) : Int)) := by
  unfold opShl
  have e : min (8 : Int).toNat IntKind.u32.bits = 8 := rfl
  rw [e]
  show some (wrapC .u32 ((v : Int) * 256)) = _
  rw [wrapU32I (by omega)]
  rfl
theorem or8 {v b : Nat} (h : v < 16777216) (hb : b < 256) : opBit .u32 Nat.lor ((v * 256 : Nat) : Int) (b : Int) = .int .u32 ((b + 256 * v : Nat) : Int) := by
  have e : Nat.lor (v * 256) b = b + 256 * v := by
    have := Nat.two_pow_add_eq_or_of_lt (i := 8) hb v
    rw [show (2 : Nat) ^ 8 * v = v * 256 by omega] at this
    show v * 256 ||| b = _
    omega
  rw [bitU32 (by omega) (by omega) (by rw [e]; omega), e]
section
variable (Hh : Hearts K Tryz.prog)
include Hh
theorem withinOk (h : Go.Ev.H) (n at' size : Nat) (hn : n < 4294967296) (ha : at' < 4294967296) (hs : size ≤ n) (hf : at' + size ≤ n) : CallOk K Tryz.prog 122 [.c (.int .i64 n), .c (.int .i64 at'), .c (.int .i64 size)] h (.w (.c (.bool true))) h := by
  have e1 : ((n : Int) - (size : Int)) = ((n - size : Nat) : Int) := by omega
  refine CallOk.goes fits Hh (by kernel_rfl) (by kernel_rfl) (by kernel_rfl) (show Tryz.f122.body = some (q122 []) by kernel_rfl) rfl ?_
  show Goes K Tryz.prog 21 none _ _ _ _ _
  show Goes K Tryz.prog 21 none (q122 []) _ _ _ _
  rw [q122_]
  refine Goes.seq ?_
  show Goes K Tryz.prog 21 none (q122 [0]) _ _ _ _
  rw [q122_0]
  refine Goes.ops2 fits Hh E0_sound (by
    simp (config := { maxSteps := 1000000 }) (decide := true) (discharger := first | omega | (simp only [H.next_new, H.next_put] <;> omega) | decide) only [go_sem, q122, Tryz.f122, readRow, loadIn, reduceIte, Nat.reduceAdd, Nat.reduceMul, Nat.reduceSub, Nat.reduceDiv, Nat.reduceMod, Nat.reduceLT, Nat.reduceBEq, Int.reduceToNat, e1]
    rfl) ?_
  show Goes K Tryz.prog 21 none (q122 [1]) _ _ _ _
  rw [q122_1]
  refine Goes.seq ?_
  show Goes K Tryz.prog 21 none (q122 [1, 0]) _ _ _ _
  rw [q122_10]
  refine Goes.ops2 fits Hh E0_sound (by
    simp only [q122, Tryz.f122, piece, part0, part1, part2, part2l, part3, part4, part5, part6, bodyOf, opsA]
    iterate 15 (refine evOps_step (by simp (config := { maxSteps := 1000000 }) (decide := true) (discharger := first | omega | (simp only [H.next_new, H.next_put] <;> omega) | decide) only [go_sem, readRow, loadIn, reduceIte, Nat.reduceAdd, Nat.reduceMul, Nat.reduceSub, Nat.reduceDiv, Nat.reduceMod, Nat.reduceLT, Nat.reduceBEq, Int.reduceToNat, e1] <;> rfl) ?_)
    exact evOps_done) ?_
  show Goes K Tryz.prog 21 none (q122 [1, 1]) _ _ _ _
  rw [q122_11]
  refine Goes.ret ?_
  simp (config := { maxSteps := 1000000 }) (decide := true) (discharger := first | omega | (simp only [H.next_new, H.next_put] <;> omega) | decide) only [go_sem, readRow, loadIn, reduceIte, Nat.reduceAdd, Nat.reduceMul, Nat.reduceSub, Nat.reduceDiv, Nat.reduceMod, Nat.reduceLT, Nat.reduceBEq, Int.reduceToNat, e1] <;> rfl
theorem get0 (h : Go.Ev.H) (n off len at' : Nat) (o : O) (ho : h.get n = some o) (hlen : len < 4294967296) (hat : at' + 4 ≤ len) (bs : List Nat) (h4 : bs.length = 4) (hb : ∀ j (b : Nat), bs[j]? = some b → b < 256 ∧ loadIn ti5 (off + (at' + j)) (some o) = some (.c (.int .u8 (b : Int)))) : ∀ (k : Nat) (ts : Tmps), k ≤ 4 → evalT ts 0 = .w (.c (.slice n off len 1)) → evalT ts 1 = .w (.c (.int .i64 at')) → evalT ts 8 = .w (.c (.int .u32 ((leN (bs.drop k) : Nat) : Int))) → evalT ts 9 = .w (.c (.int .i64 ((k : Int) - 1))) →
    Goes K Tryz.prog 33 none (q89 [1, 1, 1, 0, 1, 2]) [] ts h fun x ds' ts' h' => x = .exit 0 ∧ ds' = [] ∧ h' = h ∧ evalT ts' 8 = .w (.c (.int .u32 ((leN bs : Nat) : Int))) := by
  intro k
  induction k with
  | zero =>
    intro ts hk h0 h1 h8 h9
    show Goes K Tryz.prog 33 none (q89 [1, 1, 1, 0, 1, 2]) _ _ _ _
    rw [q89_111012]
    refine Goes.loop ?_
    show Goes K Tryz.prog 33 none (q89 [1, 1, 1, 0, 1, 2, 2]) _ _ _ _
    rw [q89_1110122]
    refine Goes.seq ?_
    show Goes K Tryz.prog 33 none (q89 [1, 1, 1, 0, 1, 2, 2, 0]) _ _ _ _
    rw [q89_11101220]
    refine Goes.seq ?_
    show Goes K Tryz.prog 33 none (q89 [1, 1, 1, 0, 1, 2, 2, 0, 0]) _ _ _ _
    rw [q89_111012200]
    refine Goes.ops2 fits Hh E0_sound (by
      simp (config := { maxSteps := 1000000 }) (decide := true) (discharger := first | omega | (simp only [H.next_new, H.next_put] <;> omega) | decide) only [go_sem, q89, Tryz.f89, readRow, loadIn, reduceIte, Nat.reduceAdd, Nat.reduceMul, Nat.reduceSub, Nat.reduceDiv, Nat.reduceMod, Nat.reduceLT, Nat.reduceBEq, Int.reduceToNat, h9]
      rfl) ?_
    show Goes K Tryz.prog 33 none (q89 [1, 1, 1, 0, 1, 2, 2, 0, 1]) _ _ _ _
    rw [q89_111012201]
    refine Goes.condE (by simp (config := { maxSteps := 1000000 }) (decide := true) (discharger := first | omega | (simp only [H.next_new, H.next_put] <;> omega) | decide) only [go_sem, readRow, loadIn, reduceIte, Nat.reduceAdd, Nat.reduceMul, Nat.reduceSub, Nat.reduceDiv, Nat.reduceMod, Nat.reduceLT, Nat.reduceBEq, Int.reduceToNat, h9] <;> rfl) (by first | rfl | assumption | exact decide_eq_false (by omega) | (simp; omega)) ?_
    show Goes K Tryz.prog 33 none (q89 [1, 1, 1, 0, 1, 2, 2, 0, 1, 4]) _ _ _ _
    rw [q89_1110122014]
    refine Goes.exit ?_
    refine ⟨rfl, rfl, rfl, ?_⟩
    rw [List.drop_zero] at h8
    simp (decide := true) only [evalT_set, reduceIte, h8]
  | succ k ih =>
    intro ts hk h0 h1 h8 h9
    have e9 : (((k + 1 : Nat) : Int) - 1) = (k : Int) := by omega
    rw [e9] at h9
    have hkl : k < bs.length := by omega
    obtain ⟨b, hbk⟩ : ∃ b, bs[k]? = some b := ⟨_, List.getElem?_eq_getElem hkl⟩
    obtain ⟨b1, ld⟩ := hb k b hbk
    have hd : bs.drop k = b :: bs.drop (k + 1) := by
      rw [List.drop_eq_getElem_cons hkl]
      have := List.getElem?_eq_getElem hkl
      rw [this] at hbk
      cases hbk
      rfl
    have hv : leN (bs.drop (k + 1)) < 16777216 := by
      have h5 := leN_lt (l := bs.drop (k + 1)) (fun x hx => by
        obtain ⟨j, hj⟩ := List.getElem?_of_mem (List.mem_of_mem_drop hx)
        exact (hb j x hj).1)
      have h6 : (bs.drop (k + 1)).length ≤ 3 := by rw [List.length_drop]; omega
      exact Nat.lt_of_lt_of_le h5 (Nat.pow_le_pow_right (by omega) h6)
    obtain ⟨v, hvv⟩ : ∃ v, leN (bs.drop (k + 1)) = v := ⟨_, rfl⟩
    rw [hvv] at h8 hv
    have s1 := shl8 hv
    have o1 := or8 hv b1
    have w1 : (at' : Int) + (k : Int) = ((at' + k : Nat) : Int) := rfl
    show Goes K Tryz.prog 33 none (q89 [1, 1, 1, 0, 1, 2]) _ _ _ _
    rw [q89_111012]
    refine Goes.loop ?_
    show Goes K Tryz.prog 33 none (q89 [1, 1, 1, 0, 1, 2, 2]) _ _ _ _
    rw [q89_1110122]
    refine Goes.seq ?_
    show Goes K Tryz.prog 33 none (q89 [1, 1, 1, 0, 1, 2, 2, 0]) _ _ _ _
    rw [q89_11101220]
    refine Goes.seq ?_
    show Goes K Tryz.prog 33 none (q89 [1, 1, 1, 0, 1, 2, 2, 0, 0]) _ _ _ _
    rw [q89_111012200]
    refine Goes.ops2 fits Hh E0_sound (by
      simp (config := { maxSteps := 1000000 }) (decide := true) (discharger := first | omega | (simp only [H.next_new, H.next_put] <;> omega) | decide) only [go_sem, q89, Tryz.f89, readRow, reduceIte, Nat.reduceAdd, Nat.reduceMul, Nat.reduceSub, Nat.reduceDiv, Nat.reduceMod, Nat.reduceLT, Nat.reduceBEq, Int.reduceToNat, h0, h1, h8, h9, s1, o1, w1, ho, ld, tyBytes, tyByte, dBytes, sByte]
      rfl) ?_
    show Goes K Tryz.prog 33 none (q89 [1, 1, 1, 0, 1, 2, 2, 0, 1]) _ _ _ _
    rw [q89_111012201]
    refine Goes.condA (by simp (config := { maxSteps := 1000000 }) (decide := true) (discharger := first | omega | (simp only [H.next_new, H.next_put] <;> omega) | decide) only [go_sem, readRow, reduceIte, Nat.reduceAdd, Nat.reduceMul, Nat.reduceSub, Nat.reduceDiv, Nat.reduceMod, Nat.reduceLT, Nat.reduceBEq, Int.reduceToNat, h0, h1, h8, h9, s1, o1, w1, ho, ld, tyBytes, tyByte, dBytes, sByte] <;> rfl) (by first | rfl | assumption | exact decide_eq_true (by omega) | (simp; omega)) ?_
    show Goes K Tryz.prog 33 none (q89 [1, 1, 1, 0, 1, 2, 2, 0, 1, 3]) _ _ _ _
    rw [q89_1110122013]
    refine Goes.skip ?_
    show Goes K Tryz.prog 33 none (q89 [1, 1, 1, 0, 1, 2, 2, 1]) _ _ _ _
    rw [q89_11101221]
    refine Goes.seq ?_
    show Goes K Tryz.prog 33 none (q89 [1, 1, 1, 0, 1, 2, 2, 1, 0]) _ _ _ _
    rw [q89_111012210]
    refine Goes.block ?_
    show Goes K Tryz.prog 33 none (q89 [1, 1, 1, 0, 1, 2, 2, 1, 0, 2]) _ _ _ _
    rw [q89_1110122102]
    refine Goes.ops2 fits Hh E0_sound (by
      simp (config := { maxSteps := 1000000 }) (decide := true) (discharger := first | omega | (simp only [H.next_new, H.next_put] <;> omega) | decide) only [go_sem, q89, Tryz.f89, readRow, reduceIte, Nat.reduceAdd, Nat.reduceMul, Nat.reduceSub, Nat.reduceDiv, Nat.reduceMod, Nat.reduceLT, Nat.reduceBEq, Int.reduceToNat, h0, h1, h8, h9, s1, o1, w1, ho, ld, tyBytes, tyByte, dBytes, sByte]
      rfl) ?_
    show Goes K Tryz.prog 33 none (q89 [1, 1, 1, 0, 1, 2, 2, 1, 1]) _ _ _ _
    rw [q89_111012211]
    refine Goes.ops2 fits Hh E0_sound (by
      simp (config := { maxSteps := 1000000 }) (decide := true) (discharger := first | omega | (simp only [H.next_new, H.next_put] <;> omega) | decide) only [go_sem, q89, Tryz.f89, readRow, reduceIte, Nat.reduceAdd, Nat.reduceMul, Nat.reduceSub, Nat.reduceDiv, Nat.reduceMod, Nat.reduceLT, Nat.reduceBEq, Int.reduceToNat, h0, h1, h8, h9, s1, o1, w1, ho, ld, tyBytes, tyByte, dBytes, sByte]
      rfl) ?_
    show Goes K Tryz.prog 33 none (.loop (q89 [1, 1, 1, 0, 1, 2, 2])) _ _ _ _
    rw [← q89_111012]
    refine ih _ (by omega) ?_ ?_ ?_ ?_
    · simp (decide := true) only [evalT_set, reduceIte, h0]
    · simp (decide := true) only [evalT_set, reduceIte, h1]
    · simp (decide := true) only [evalT_set, reduceIte]
      rw [hd, leN, hvv]
    · simp (decide := true) only [evalT_set, reduceIte]
theorem getOk (h : Go.Ev.H) (n off len at' : Nat) (o : O) (ho : h.get n = some o) (hlen : len < 4294967296) (hat : at' + 4 ≤ len) (bs : List Nat) (h4 : bs.length = 4) (hb : ∀ j (b : Nat), bs[j]? = some b → b < 256 ∧ loadIn ti5 (off + (at' + j)) (some o) = some (.c (.int .u8 (b : Int)))) : CallOk K Tryz.prog 89 [.c (.slice n off len 1), .c (.int .i64 at'), .c (.int .i64 4)] h (.tup [.c (.int .u32 ((leN bs : Nat) : Int)), .c (.bool true)]) h := by
  have c1 := withinOk Hh h len at' 4 hlen (by omega) (by omega) hat
  rw [show ((4 : Nat) : Int) = 4 from rfl] at c1
  have fl : lenFits K 36 (.c (.slice n off len 1)) = true := by unfold lenFits; rw [tyBytes]; rfl
  refine CallOk.goes fits Hh (by kernel_rfl) (by kernel_rfl) (by kernel_rfl) (show Tryz.f89.body = some (q89 []) by kernel_rfl) rfl ?_
  show Goes K Tryz.prog 33 none _ _ _ _ _
  show Goes K Tryz.prog 33 none (q89 []) _ _ _ _
  rw [q89_]
  refine Goes.seq ?_
  show Goes K Tryz.prog 33 none (q89 [0]) _ _ _ _
  rw [q89_0]
  refine Goes.ops2 fits Hh E0_sound (by
    simp (config := { maxSteps := 1000000 }) (decide := true) (discharger := first | omega | (simp only [H.next_new, H.next_put] <;> omega) | decide) only [go_sem, q89, Tryz.f89, readRow, loadIn, reduceIte, Nat.reduceAdd, Nat.reduceMul, Nat.reduceSub, Nat.reduceDiv, Nat.reduceMod, Nat.reduceLT, Nat.reduceBEq, Int.reduceToNat, fl, opBuiltin, opLen]
    rfl) ?_
  show Goes K Tryz.prog 33 none (q89 [1]) _ _ _ _
  rw [q89_1]
  refine Goes.seq ?_
  show Goes K Tryz.prog 33 none (q89 [1, 0]) _ _ _ _
  rw [q89_10]
  refine Goes.seq ?_
  show Goes K Tryz.prog 33 none (q89 [1, 0, 0]) _ _ _ _
  rw [q89_100]
  refine Goes.ops2 fits Hh (E1_sound E0_sound c1) (by
    simp (config := { maxSteps := 1000000 }) (decide := true) (discharger := first | omega | (simp only [H.next_new, H.next_put] <;> omega) | decide) only [go_sem, q89, Tryz.f89, readRow, loadIn, reduceIte, Nat.reduceAdd, Nat.reduceMul, Nat.reduceSub, Nat.reduceDiv, Nat.reduceMod, Nat.reduceLT, Nat.reduceBEq, Int.reduceToNat, E1_call, fl, opBuiltin, opLen]
    rfl) ?_
  show Goes K Tryz.prog 33 none (q89 [1, 0, 1]) _ _ _ _
  rw [q89_101]
  refine Goes.condE (by simp (config := { maxSteps := 1000000 }) (decide := true) (discharger := first | omega | (simp only [H.next_new, H.next_put] <;> omega) | decide) only [go_sem, readRow, loadIn, reduceIte, Nat.reduceAdd, Nat.reduceMul, Nat.reduceSub, Nat.reduceDiv, Nat.reduceMod, Nat.reduceLT, Nat.reduceBEq, Int.reduceToNat, fl, opBuiltin, opLen] <;> rfl) (by first | rfl | assumption | exact decide_eq_false (by omega) | (simp; omega)) ?_
  show Goes K Tryz.prog 33 none (q89 [1, 0, 1, 4]) _ _ _ _
  rw [q89_1014]
  refine Goes.skip ?_
  show Goes K Tryz.prog 33 none (q89 [1, 1]) _ _ _ _
  rw [q89_11]
  refine Goes.seq ?_
  show Goes K Tryz.prog 33 none (q89 [1, 1, 0]) _ _ _ _
  rw [q89_110]
  refine Goes.ops2 fits Hh E0_sound (by
    simp (config := { maxSteps := 1000000 }) (decide := true) (discharger := first | omega | (simp only [H.next_new, H.next_put] <;> omega) | decide) only [go_sem, q89, Tryz.f89, readRow, loadIn, reduceIte, Nat.reduceAdd, Nat.reduceMul, Nat.reduceSub, Nat.reduceDiv, Nat.reduceMod, Nat.reduceLT, Nat.reduceBEq, Int.reduceToNat, fl, opBuiltin, opLen]
    rfl) ?_
  show Goes K Tryz.prog 33 none (q89 [1, 1, 1]) _ _ _ _
  rw [q89_111]
  refine Goes.seq ?_
  show Goes K Tryz.prog 33 none (q89 [1, 1, 1, 0]) _ _ _ _
  rw [q89_1110]
  refine Goes.seq ?_
  show Goes K Tryz.prog 33 none (q89 [1, 1, 1, 0, 0]) _ _ _ _
  rw [q89_11100]
  refine Goes.ops2 fits Hh E0_sound (by
    simp (config := { maxSteps := 1000000 }) (decide := true) (discharger := first | omega | (simp only [H.next_new, H.next_put] <;> omega) | decide) only [go_sem, q89, Tryz.f89, readRow, loadIn, reduceIte, Nat.reduceAdd, Nat.reduceMul, Nat.reduceSub, Nat.reduceDiv, Nat.reduceMod, Nat.reduceLT, Nat.reduceBEq, Int.reduceToNat, fl, opBuiltin, opLen]
    rfl) ?_
  show Goes K Tryz.prog 33 none (q89 [1, 1, 1, 0, 1]) _ _ _ _
  rw [q89_11101]
  refine Goes.block ?_
  refine (get0 Hh h n off len at' o ho hlen hat bs h4 hb 4 _ (by omega) ?_ ?_ ?_ ?_).mono ?_
  · simp (decide := true) only [evalT_set, reduceIte, evalT_args, List.getElem?_cons_zero]
  · simp (decide := true) only [evalT_set, reduceIte, evalT_args, List.getElem?_cons_succ, List.getElem?_cons_zero]
  · simp (decide := true) only [evalT_set, reduceIte, List.drop_of_length_le (Nat.le_of_eq h4), leN] <;> rfl
  · simp (decide := true) only [evalT_set, reduceIte] <;> rfl
  rintro x ds' ts' h' ⟨rfl, rfl, rfl, f8⟩
  show Goes K Tryz.prog 33 none (q89 [1, 1, 1, 1]) _ _ _ _
  rw [q89_1111]
  refine Goes.seq ?_
  show Goes K Tryz.prog 33 none (q89 [1, 1, 1, 1, 0]) _ _ _ _
  rw [q89_11110]
  refine Goes.ops2 fits Hh E0_sound (by
    simp (config := { maxSteps := 1000000 }) (decide := true) (discharger := first | omega | (simp only [H.next_new, H.next_put] <;> omega) | decide) only [go_sem, q89, Tryz.f89, readRow, loadIn, reduceIte, Nat.reduceAdd, Nat.reduceMul, Nat.reduceSub, Nat.reduceDiv, Nat.reduceMod, Nat.reduceLT, Nat.reduceBEq, Int.reduceToNat, fl, f8, opBuiltin, opLen]
    rfl) ?_
  show Goes K Tryz.prog 33 none (q89 [1, 1, 1, 1, 1]) _ _ _ _
  rw [q89_11111]
  refine Goes.ret ?_
  simp (config := { maxSteps := 1000000 }) (decide := true) (discharger := first | omega | (simp only [H.next_new, H.next_put] <;> omega) | decide) only [go_sem, readRow, loadIn, reduceIte, Nat.reduceAdd, Nat.reduceMul, Nat.reduceSub, Nat.reduceDiv, Nat.reduceMod, Nat.reduceLT, Nat.reduceBEq, Int.reduceToNat, fl, f8, opBuiltin, opLen] <;> rfl
theorem get32Ok (h : Go.Ev.H) (n off len at' : Nat) (o : O) (ho : h.get n = some o) (hlen : len < 4294967296) (hat : at' + 4 ≤ len) (bs : List Nat) (h4 : bs.length = 4) (hb : ∀ j (b : Nat), bs[j]? = some b → b < 256 ∧ loadIn ti5 (off + (at' + j)) (some o) = some (.c (.int .u8 (b : Int)))) : CallOk K Tryz.prog 48 [.c (.slice n off len 1), .c (.int .i64 at')] h (.tup [.c (.int .u32 ((leN bs : Nat) : Int)), .c (.bool true)]) h := by
  have c1 := getOk Hh h n off len at' o ho hlen hat bs h4 hb
  refine CallOk.goes fits Hh (by kernel_rfl) (by kernel_rfl) (by kernel_rfl) (show Tryz.f48.body = some (q48 []) by kernel_rfl) rfl ?_
  show Goes K Tryz.prog 11 none _ _ _ _ _
  show Goes K Tryz.prog 11 none (q48 []) _ _ _ _
  rw [q48_]
  refine Goes.seq ?_
  show Goes K Tryz.prog 11 none (q48 [0]) _ _ _ _
  rw [q48_0]
  refine Goes.ops2 fits Hh E0_sound (by
    simp (config := { maxSteps := 1000000 }) (decide := true) (discharger := first | omega | (simp only [H.next_new, H.next_put] <;> omega) | decide) only [go_sem, q48, Tryz.f48, readRow, loadIn, reduceIte, Nat.reduceAdd, Nat.reduceMul, Nat.reduceSub, Nat.reduceDiv, Nat.reduceMod, Nat.reduceLT, Nat.reduceBEq, Int.reduceToNat]
    rfl) ?_
  show Goes K Tryz.prog 11 none (q48 [1]) _ _ _ _
  rw [q48_1]
  refine Goes.seq ?_
  show Goes K Tryz.prog 11 none (q48 [1, 0]) _ _ _ _
  rw [q48_10]
  refine Goes.ops2 fits Hh (E1_sound E0_sound c1) (by
    simp (config := { maxSteps := 1000000 }) (decide := true) (discharger := first | omega | (simp only [H.next_new, H.next_put] <;> omega) | decide) only [go_sem, q48, Tryz.f48, readRow, loadIn, reduceIte, Nat.reduceAdd, Nat.reduceMul, Nat.reduceSub, Nat.reduceDiv, Nat.reduceMod, Nat.reduceLT, Nat.reduceBEq, Int.reduceToNat, E1_call]
    rfl) ?_
  show Goes K Tryz.prog 11 none (q48 [1, 1]) _ _ _ _
  rw [q48_11]
  refine Goes.ret ?_
  simp (config := { maxSteps := 1000000 }) (decide := true) (discharger := first | omega | (simp only [H.next_new, H.next_put] <;> omega) | decide) only [go_sem, readRow, loadIn, reduceIte, Nat.reduceAdd, Nat.reduceMul, Nat.reduceSub, Nat.reduceDiv, Nat.reduceMod, Nat.reduceLT, Nat.reduceBEq, Int.reduceToNat] <;> rfl
theorem pointerOk (h : Go.Ev.H) (n off i : Nat) (o : O) (ho : h.get n = some o) (hr : reaches off 256 (some o) = true) (hi : i < 64) (bs : List Nat) (h4 : bs.length = 4) (hb : ∀ j (b : Nat), bs[j]? = some b → b < 256 ∧ loadIn ti5 (off + (4 * i + j)) (some o) = some (.c (.int .u8 (b : Int)))) : CallOk K Tryz.prog 25 [.c (.ptr n off), .c (.int .i64 i)] h (.w (.c (.int .i64 ((leN bs : Nat) : Int)))) h := by
  have c1 := get32Ok Hh h n off 256 (4 * i) o ho (by omega) (by omega) bs h4 hb
  have e1 : (4 : Int) * (i : Int) = ((4 * i : Nat) : Int) := rfl
  have l1 : leN bs < 4294967296 := by
    have := leN_lt (l := bs) (fun x hx => by
      obtain ⟨j, hj⟩ := List.getElem?_of_mem hx
      exact (hb j x hj).1)
    rw [h4] at this
    exact this
  refine CallOk.goes fits Hh (by kernel_rfl) (by kernel_rfl) (by kernel_rfl) (show Tryz.f25.body = some (q25 []) by kernel_rfl) rfl ?_
  show Goes K Tryz.prog 18 none _ _ _ _ _
  show Goes K Tryz.prog 18 none (q25 []) _ _ _ _
  rw [q25_]
  refine Goes.seq ?_
  show Goes K Tryz.prog 18 none (q25 [0]) _ _ _ _
  rw [q25_0]
  refine Goes.ops2 fits Hh E0_sound (by
    simp (config := { maxSteps := 1000000 }) (decide := true) (discharger := first | omega | (simp only [H.next_new, H.next_put] <;> omega) | decide) only [go_sem, q25, Tryz.f25, readRow, loadIn, reduceIte, Nat.reduceAdd, Nat.reduceMul, Nat.reduceSub, Nat.reduceDiv, Nat.reduceMod, Nat.reduceLT, Nat.reduceBEq, Int.reduceToNat, e1, ho, hr, opSlice, optC, bound, cutSl, tyBlock, dBlock, tyByte, sByte, Nat.add_zero]
    rfl) ?_
  show Goes K Tryz.prog 18 none (q25 [1]) _ _ _ _
  rw [q25_1]
  refine Goes.seq ?_
  show Goes K Tryz.prog 18 none (q25 [1, 0]) _ _ _ _
  rw [q25_10]
  refine Goes.ops2 fits Hh (E1_sound E0_sound c1) (by
    simp (config := { maxSteps := 1000000 }) (decide := true) (discharger := first | omega | (simp only [H.next_new, H.next_put] <;> omega) | decide) only [go_sem, q25, Tryz.f25, readRow, loadIn, reduceIte, Nat.reduceAdd, Nat.reduceMul, Nat.reduceSub, Nat.reduceDiv, Nat.reduceMod, Nat.reduceLT, Nat.reduceBEq, Int.reduceToNat, E1_call, e1, ho, hr, opSlice, optC, bound, cutSl, tyBlock, dBlock, tyByte, sByte, Nat.add_zero]
    rfl) ?_
  show Goes K Tryz.prog 18 none (q25 [1, 1]) _ _ _ _
  rw [q25_11]
  refine Goes.seq ?_
  show Goes K Tryz.prog 18 none (q25 [1, 1, 0]) _ _ _ _
  rw [q25_110]
  refine Goes.ops2 fits Hh E0_sound (by
    simp (config := { maxSteps := 1000000 }) (decide := true) (discharger := first | omega | (simp only [H.next_new, H.next_put] <;> omega) | decide) only [go_sem, q25, Tryz.f25, readRow, loadIn, reduceIte, Nat.reduceAdd, Nat.reduceMul, Nat.reduceSub, Nat.reduceDiv, Nat.reduceMod, Nat.reduceLT, Nat.reduceBEq, Int.reduceToNat, e1, ho, hr, opSlice, optC, bound, cutSl, tyBlock, dBlock, tyByte, sByte, Nat.add_zero]
    rfl) ?_
  show Goes K Tryz.prog 18 none (q25 [1, 1, 1]) _ _ _ _
  rw [q25_111]
  refine Goes.ret ?_
  simp (config := { maxSteps := 1000000 }) (decide := true) (discharger := first | omega | (simp only [H.next_new, H.next_put] <;> omega) | decide) only [go_sem, readRow, loadIn, reduceIte, Nat.reduceAdd, Nat.reduceMul, Nat.reduceSub, Nat.reduceDiv, Nat.reduceMod, Nat.reduceLT, Nat.reduceBEq, Int.reduceToNat, e1, ho, hr, opSlice, optC, bound, cutSl, tyBlock, dBlock, tyByte, sByte, Nat.add_zero] <;> rfl
end
noncomputable def byteIn (off : Nat) (o : Option O) : Option Nat := match loadIn ti5 off o with
  | some (.c (.int .u8 (.ofNat b))) => bif Nat.blt b 256 then some b else none
  | _ => none
noncomputable def fourIn (off : Nat) (o : Option O) : Option (List Nat) := match byteIn off o, byteIn (off + 1) o, byteIn (off + 2) o, byteIn (off + 3) o with
  | some a, some b, some c, some d => some [a, b, c, d]
  | _, _, _, _ => none
theorem byteIn_some {off : Nat} {o : Option O} {b : Nat} (e : byteIn off o = some b) : b < 256 ∧ loadIn ti5 off o = some (.c (.int .u8 (b : Int))) := by
  unfold byteIn at e
  split at e
  · rename_i b' hb
    cases hl : Nat.blt b' 256 with
    | false => rw [hl] at e; cases e
    | true =>
      rw [hl] at e
      cases e
      exact ⟨by simpa [Nat.blt_eq] using hl, hb⟩
  · cases e
theorem fourIn_some {off : Nat} {o : Option O} {l : List Nat} (e : fourIn off o = some l) : l.length = 4 ∧ ∀ j (b : Nat), l[j]? = some b → b < 256 ∧ loadIn ti5 (off + j) o = some (.c (.int .u8 (b : Int))) := by
  unfold fourIn at e
  split at e
  · rename_i a b c d ha hb hc hd
    cases e
    refine ⟨rfl, fun j x hx => ?_⟩
    match j with
    | 0 => cases hx; exact byteIn_some ha
    | 1 => cases hx; exact byteIn_some hb
    | 2 => cases hx; exact byteIn_some hc
    | 3 => cases hx; exact byteIn_some hd
    | j + 4 => simp at hx
  · cases e
def ptrOf (h : Go.Ev.H) : Option (List Nat) → Option (V × Go.Ev.H)
  | some l => some (.w (.c (.int .i64 ((leN l : Nat) : Int))), h)
  | none => none
noncomputable def xPtr (args : List W) (h : Go.Ev.H) : Option (V × Go.Ev.H) := match args with
  | [.c (.ptr n off), .c (.int .i64 (.ofNat i))] => bif Nat.blt i 64 && reaches off 256 (h.get n) then ptrOf h (fourIn (off + 4 * i) (h.get n)) else none
  | _ => none
section
variable (Hh : Hearts K Tryz.prog)
include Hh
theorem xPtr_ok {args : List W} {h h' : Go.Ev.H} {v : V} (e : xPtr args h = some (v, h')) : CallOk K Tryz.prog 25 args h v h' := by
  unfold xPtr at e
  split at e
  · rename_i n off i
    cases hb : (Nat.blt i 64 && reaches off 256 (h.get n)) with
    | false => rw [hb] at e; cases e
    | true =>
      rw [hb] at e
      simp only [Bool.and_eq_true] at hb
      simp only [cond_true] at e
      cases ho : h.get n with
      | none => rw [ho] at hb; exact absurd hb.2 (by simp [reaches])
      | some o =>
        rw [ho] at e hb
        unfold ptrOf at e
        split at e
        · rename_i l hl
          cases e
          obtain ⟨h4, hbs⟩ := fourIn_some hl
          exact pointerOk Hh h n off i o ho hb.2 (by simpa [Nat.blt_eq] using hb.1) l h4 (fun j b hj => by rw [← Nat.add_assoc]; exact hbs j b hj)
        · cases e
  · cases e
end
end Go.Proofs.YtncdhjlpmlmfhaaGreatDoor
