/- quernref04.Block, on the evaluator's level: bits as a block. -/
import Derived.Test.YtdnkofpkkebefaaGreatDoorTy
import Derived.Test.YtdnkofpkkebefaaGreatDoorEvC
set_option linter.unusedSimpArgs false
set_option linter.unusedVariables false
set_option linter.unusedSectionVars false
set_option maxRecDepth 100000
namespace Go.Proofs.YtdnkofpkkebefaaGreatDoor
open Go.Ev
def bitsRow (f : Nat → Bool) : List (List C) := (List.range 2048).map fun i => [.bool (f i)]
def byteOf (f : Nat → Bool) (i : Nat) : Nat → Nat
 | 0 => 0
 | k + 1 => 2 * byteOf f i k + (f (8 * i + (7 - k))).toNat
theorem bitsRow_get (f : Nat → Bool) (i : Nat) (h : i < 2048) : read1 1 (bitsRow f) i = some (.bool (f i)) := by
 simp [bitsRow, h, read1, Nat.mod_one]
theorem byteOf_lt (f : Nat → Bool) (i k : Nat) : byteOf f i k < 2 ^ k := by
 induction k with
 | zero => simp [byteOf]
 | succ k ih =>
  have : (f (8 * i + (7 - k))).toNat ≤ 1 := by cases f (8 * i + (7 - k)) <;> simp
  rw [byteOf, Nat.pow_succ]
  omega
noncomputable def q34 (p : List Nat) : Code := piece p (bodyOf Tryz.f34)
theorem q34_11012 : q34 [1, 1, 0, 1, 2] = .loop (q34 [1, 1, 0, 1, 2, 2]) := by kernel_rfl
theorem q34_110122102101 : q34 [1, 1, 0, 1, 2, 2, 1, 0, 2, 1, 0, 1] = .block 2 (q34 [1, 1, 0, 1, 2, 2, 1, 0, 2, 1, 0, 1, 2]) := by kernel_rfl
theorem q34_1101221021012 : q34 [1, 1, 0, 1, 2, 2, 1, 0, 2, 1, 0, 1, 2] = .loop (q34 [1, 1, 0, 1, 2, 2, 1, 0, 2, 1, 0, 1, 2, 2]) := by kernel_rfl
section
variable (Hh : Hearts K Tryz.prog)
include Hh
theorem inner (f : Nat → Bool) (nb i : Nat) (hi : i < 256) (ro : Bool) (h : Go.Ev.H) (hb : h.get nb = some (.row 1 (bitsRow f) ro)) : ∀ (j : Nat) (ts : Tmps), j ≤ 8 → evalT ts 0 = .w (.c (.slice nb 0 2048 1)) → evalT ts 4 = .w (.c (.int .i64 i)) → evalT ts 5 = .w (.c (.int .i64 (byteOf f i (8 - j)))) → evalT ts 6 = .w (.c (.int .i64 ((j : Int) - 1))) →
  Goes K Tryz.prog 31 none (q34 [1,1,0,1,2,2,1,0,2,1,0,1,2]) [] ts h fun x ds' ts' h' => x = .exit 2 ∧ ds' = [] ∧ h' = h ∧ evalT ts' 5 = .w (.c (.int .i64 (byteOf f i 8))) ∧ ∀ s, s ≤ 4 → evalT ts' s = evalT ts s := by
 intro j
 induction j with
 | zero =>
  intro ts _ h0 h4 h5 h6
  iterate 6 (first | apply Goes.seq | apply Goes.exit | apply Goes.loop | ((first | apply Goes.condV | apply Goes.ops2 fits Hh E0_sound); · simp (decide := true) only [go_sem, putTH_some, H.get_put, H.get_new, loadIn, storeIn, reduceIte, Nat.reduceAdd, Nat.reduceMul, evalC, evalO_tmp, asC, evalT_set, dec_true, dec_false, h6] <;> rfl))
  refine ⟨rfl, rfl, rfl, ?_, fun s hs => ?_⟩
  ·simp (decide := true) only [evalT_set, reduceIte, h5]
  ·simp (decide := true) only [evalT_low hs]
 | succ j ih =>
  intro ts hj h0 h4 h5 h6
  have e6 : ((j + 1 : Nat) : Int) - 1 = (j : Int) := by omega
  rw [e6] at h6
  have hlt := byteOf_lt f i (8 - (j + 1))
  have hp : 2 ^ (8 - (j + 1)) ≤ 2 ^ 8 := Nat.pow_le_pow_right (by omega) (by omega)
  have hstep : byteOf f i (8 - j) = 2 * byteOf f i (8 - (j + 1)) + (f (8 * i + j)).toNat := by
   have e : 8 - j = (8 - (j + 1)) + 1 := by omega
   rw [e, byteOf]
   congr 4
   omega
  obtain ⟨x, hx⟩ : ∃ x, byteOf f i (8 - (j + 1)) = x := ⟨_, rfl⟩
  rw [hx] at h5 hlt hstep
  have d1 : decide ((j : Int) ≥ 0) = true := decide_eq_true (by omega)
  have w1 : wrapC .i64 (2 * (x : Int)) = .int .i64 (2 * x) := wrap64 (by omega) (by omega)
  have w2 : wrapC .i64 (8 * (i : Int)) = .int .i64 ((8 * i : Nat) : Int) := by rw [wrap64 (by omega) (by omega)]; congr 1
  have w3 : wrapC .i64 (((8 * i : Nat) : Int) + (j : Int)) = .int .i64 ((8 * i + j : Nat) : Int) := by rw [wrap64 (by omega) (by omega)]; congr 1
  have w4 : wrapC .i64 (2 * (x : Int) + 1) = .int .i64 (2 * x + 1) := wrap64 (by omega) (by omega)
  have w5 : wrapC .i64 ((j : Int) - 1) = .int .i64 ((j : Int) - 1) := wrap64 (by omega) (by omega)
  have b1 : Nat.blt (8 * i + j) 2048 = true := blt_true (by omega)
  have r1 := bitsRow_get f (8 * i + j) (by omega)
  have n1 : natOf (some (.int .i64 ((8 * i + j : Nat) : Int))) = some (8 * i + j) := rfl
  cases hf : f (8 * i + j) with
  | true =>
   rw [hf] at r1 hstep
   iterate 15 (first | apply Goes.seq | apply Goes.skip | apply Goes.block | apply Goes.loop | ((first | apply Goes.condV | apply Goes.ops2 fits Hh E0_sound); · simp (decide := true) only [go_sem, putTH_some, H.get_put, H.get_new, loadIn, storeIn, reduceIte, Nat.reduceAdd, Nat.reduceMul, evalC, evalO_tmp, asC, evalT_set, dec_true, dec_false, h0, h4, h5, h6, d1, w1, w2, w3, w4, w5, b1, r1, n1, hb, tyBools, tyBool, dBools, sBool, aBool, Nat.beq_refl, Nat.zero_add, Nat.mul_one, cW] <;> rfl))
   show Goes K Tryz.prog 31 none (.loop (q34 [1,1,0,1,2,2,1,0,2,1,0,1,2,2])) _ _ _ _
   rw [← q34_1101221021012]
   refine (ih _ (by omega) ?_ ?_ ?_ ?_).mono ?_
   ·simp (decide := true) only [evalT_set, reduceIte, h0]
   ·simp (decide := true) only [evalT_set, reduceIte, h4]
   ·simp (decide := true) only [evalT_set, reduceIte, hstep, Bool.toNat_true]
    rfl
   ·simp (decide := true) only [evalT_set, reduceIte]
   ·rintro y ds' ts' h' ⟨e1, e2, e3, e4, e5⟩
    refine ⟨e1, e2, e3, e4, fun s hs => ?_⟩
    rw [e5 s hs]
    simp (decide := true) only [evalT_low hs]
  | false =>
   rw [hf] at r1 hstep
   iterate 15 (first | apply Goes.seq | apply Goes.skip | apply Goes.block | apply Goes.loop | ((first | apply Goes.condV | apply Goes.ops2 fits Hh E0_sound); · simp (decide := true) only [go_sem, putTH_some, H.get_put, H.get_new, loadIn, storeIn, reduceIte, Nat.reduceAdd, Nat.reduceMul, evalC, evalO_tmp, asC, evalT_set, dec_true, dec_false, h0, h4, h5, h6, d1, w1, w2, w3, w4, w5, b1, r1, n1, hb, tyBools, tyBool, dBools, sBool, aBool, Nat.beq_refl, Nat.zero_add, Nat.mul_one, cW] <;> rfl))
   show Goes K Tryz.prog 31 none (.loop (q34 [1,1,0,1,2,2,1,0,2,1,0,1,2,2])) _ _ _ _
   rw [← q34_1101221021012]
   refine (ih _ (by omega) ?_ ?_ ?_ ?_).mono ?_
   ·simp (decide := true) only [evalT_set, reduceIte, h0]
   ·simp (decide := true) only [evalT_set, reduceIte, h4]
   ·simp (decide := true) only [evalT_set, reduceIte, hstep, Bool.toNat_false]
    rfl
   ·simp (decide := true) only [evalT_set, reduceIte]
   ·rintro y ds' ts' h' ⟨e1, e2, e3, e4, e5⟩
    refine ⟨e1, e2, e3, e4, fun s hs => ?_⟩
    rw [e5 s hs]
    simp (decide := true) only [evalT_low hs]
def rowI (f : Nat → Bool) (i : Nat) : List C := (List.range 256).map fun t => .int .u8 (if t < i then byteOf f t 8 else 0 : Nat)
def pack (f : Nat → Bool) : List C := (List.range 256).map fun t => .int .u8 (byteOf f t 8 : Nat)
omit Hh in
theorem rowI_full (f : Nat → Bool) : rowI f 256 = pack f := by
 unfold rowI pack
 refine List.map_congr_left fun t ht => ?_
 rw [if_pos (List.mem_range.1 ht)]
omit Hh in
theorem rowI_zero (f : Nat → Bool) : rowI f 0 = List.replicate 256 (.int .u8 0) := by
 unfold rowI
 refine List.ext_getElem (by rw [List.length_map, List.length_range, List.length_replicate]) fun t h1 h2 => ?_
 rw [List.getElem_replicate, List.getElem_map, if_neg (by omega)]
 rfl
omit Hh in
theorem rowI_len (f : Nat → Bool) (i : Nat) : (rowI f i).length = 256 := by simp [rowI]
omit Hh in
theorem rowI_write (f : Nat → Bool) (i : Nat) (hi : i < 256) : writeRow 256 [rowI f i] i [.int .u8 (byteOf f i 8 : Nat)] = some [rowI f (i + 1)] := by
 have e1 : i / 256 = 0 := by omega
 have e2 : i % 256 = i := by omega
 have e3 : Nat.blt i (rowI f i).length = true := blt_true (by rw [rowI_len]; exact hi)
 simp only [writeRow, e1, e2, List.getElem?_cons_zero, e3, cond_true, List.set_cons_zero]
 congr 2
 refine List.ext_getElem (by simp [rowI]) fun t h1 h2 => ?_
 simp only [List.getElem_set]
 simp only [rowI, List.getElem_map, List.getElem_range]
 by_cases e : i = t
 ·subst e
  simp
 ·rw [if_neg e]
  congr 2
  by_cases h3 : t < i
  ·rw [if_pos h3, if_pos (by omega)]
  ·rw [if_neg h3, if_neg (by omega)]
omit Hh in
theorem pack_flat (f : Nat → Bool) : (V.w (.g (pack f))).flat = true := by
 simp only [V.flat, W.flat, List.all_eq_true]
 intro x hx
 simp only [pack, List.mem_map] at hx
 obtain ⟨t, _, rfl⟩ := hx
 rfl
theorem outer (f : Nat → Bool) (nb r3 : Nat) (hne : nb ≠ r3) (ro : Bool) : ∀ (k i : Nat) (ts : Tmps) (h : Go.Ev.H), i + k = 256 → h.get nb = some (.row 1 (bitsRow f) ro) → h.get r3 = some (.row 256 [rowI f i] false) → evalT ts 0 = .w (.c (.slice nb 0 2048 1)) → evalT ts 3 = .w (.c (.ptr r3 0)) → evalT ts 4 = .w (.c (.int .i64 i)) →
  Goes K Tryz.prog 31 none (q34 [1,1,0,1,2]) [] ts h fun x ds' ts' h' => x = .exit 0 ∧ ds' = [] ∧ h'.next = h.next ∧ (∀ n, n ≠ r3 → h'.get n = h.get n) ∧ h'.get r3 = some (.row 256 [pack f] false) ∧ ∀ s, s ≤ 3 → evalT ts' s = evalT ts s := by
 intro k
 induction k with
 | zero =>
  intro i ts h hi hb hr h0 h3 h4
  have ei : i = 256 := by omega
  subst ei
  iterate 6 (first | apply Goes.seq | apply Goes.exit | apply Goes.loop | ((first | apply Goes.condV | apply Goes.ops2 fits Hh E0_sound); · simp (decide := true) only [go_sem, putTH_some, H.get_put, H.get_new, loadIn, storeIn, reduceIte, Nat.reduceAdd, Nat.reduceMul, evalC, evalO_tmp, asC, evalT_set, dec_true, dec_false, h4] <;> rfl))
  refine ⟨rfl, rfl, rfl, fun _ _ => rfl, by rw [hr, rowI_full], fun s hs => ?_⟩
  simp (decide := true) only [evalT_low hs]
 | succ k ih =>
  intro i ts h hi hb hr h0 h3 h4
  have d1 : decide ((i : Int) < 256) = true := decide_eq_true (by omega)
  iterate 13 (first | apply Goes.seq | apply Goes.skip | apply Goes.block | apply Goes.loop | ((first | apply Goes.condV | apply Goes.ops2 fits Hh E0_sound); · simp (decide := true) only [go_sem, putTH_some, H.get_put, H.get_new, loadIn, storeIn, reduceIte, Nat.reduceAdd, Nat.reduceMul, evalC, evalO_tmp, asC, evalT_set, dec_true, dec_false, h4, d1] <;> rfl))
  show Goes K Tryz.prog 31 none (q34 [1,1,0,1,2,2,1,0,2,1,0,1]) _ _ _ _
  rw [q34_110122102101]
  refine Goes.block ((inner Hh f nb i (by omega) ro h hb 8 _ (by omega) ?_ ?_ ?_ ?_).mono ?_)
  ·simp (decide := true) only [evalT_set, reduceIte, h0]
  ·simp (decide := true) only [evalT_set, reduceIte, h4]
  ·simp (decide := true) only [evalT_set, reduceIte]
   rfl
  ·simp (decide := true) only [evalT_set, reduceIte]
   rfl
  rintro x ds' ts' h' ⟨rfl, rfl, rfl, e5, elow⟩
  have f0 : evalT ts' 0 = .w (.c (.slice nb 0 2048 1)) := by rw [elow 0 (by decide)]; simp (decide := true) only [evalT_set, reduceIte, h0]
  have f2 : evalT ts' 2 = evalT ts 2 := by rw [elow 2 (by decide)]; simp (decide := true) only [evalT_set, reduceIte]
  have f1 : evalT ts' 1 = evalT ts 1 := by rw [elow 1 (by decide)]; simp (decide := true) only [evalT_set, reduceIte]
  have f3 : evalT ts' 3 = .w (.c (.ptr r3 0)) := by rw [elow 3 (by decide)]; simp (decide := true) only [evalT_set, reduceIte, h3]
  have f4 : evalT ts' 4 = .w (.c (.int .i64 i)) := by rw [elow 4 (by decide)]; simp (decide := true) only [evalT_set, reduceIte, h4]
  have hlt := byteOf_lt f i 8
  have w8 : wrapC .u8 (byteOf f i 8 : Int) = .int .u8 (byteOf f i 8) := by rw [wrapU8]; congr 1; omega
  have w9 : wrapC .i64 ((i : Int) + 1) = .int .i64 ((i + 1 : Nat) : Int) := by rw [wrap64 (by omega) (by omega)]; congr 1
  have b1 : Nat.blt i 256 = true := blt_true (by omega)
  have wr := rowI_write f i (by omega)
  show Goes K Tryz.prog 31 none (q34 [1,1,0,1,2,2,1,0,2,1,1]) _ _ _ _
  iterate 2 ((apply Goes.ops2 fits Hh E0_sound; · simp (decide := true) only [go_sem, putTH_some, H.get_put, H.get_new, loadIn, storeIn, reduceIte, Nat.reduceAdd, Nat.reduceMul, f0, f2, f3, f4, e5, w8, w9, b1, wr, hr, tyBlock, tyByte, tyInt, dBlock, dByte, sByte, Nat.beq_refl, Nat.zero_add, Nat.mul_one] <;> rfl))
  show Goes K Tryz.prog 31 none (.loop (q34 [1,1,0,1,2,2])) _ _ _ _
  rw [← q34_11012]
  refine (ih (i + 1) _ _ (by omega) ?_ ?_ ?_ ?_ ?_).mono ?_
  ·rw [H.get_put, if_neg hne]; exact hb
  ·rw [H.get_put, if_pos rfl]
  ·simp (decide := true) only [evalT_set, reduceIte, f0]
  ·simp (decide := true) only [evalT_set, reduceIte, f3]
  ·simp (decide := true) only [evalT_set, reduceIte]
  ·rintro x ds' ts'' h'' ⟨g1, g2, g3, g4, g5, g6⟩
   refine ⟨g1, g2, g3, fun n hn => ?_, g5, fun s hs => ?_⟩
   ·rw [g4 n hn, H.get_put, if_neg hn]
   ·rw [g6 s hs]
    simp (decide := true) only [evalT_low hs]
    rw [elow s (Nat.le_trans hs (by decide))]
    simp (decide := true) only [evalT_low hs]
theorem blockOk (f : Nat → Bool) (nb : Nat) (ro : Bool) (h : Go.Ev.H) (hb : h.get nb = some (.row 1 (bitsRow f) ro)) : CallOk K Tryz.prog 34 [.c (.slice nb 0 2048 1)] h (.w (.g (pack f))) h := by
 refine CallOk.tidy ⟨_, Tryz.func34, by kernel_rfl, of_decide_eq_true (by kernel_rfl)⟩ fun tidy => ?_
 have hnb := tidy nb _ hb
 have z54 : ti81.zero.cells = rowI f 0 := by rw [rowI_zero]; rfl
 have e0 : evalT (argTmps 0 [.c (.slice nb 0 2048 1)] .nil) 0 = .w (.c (.slice nb 0 2048 1)) := by rw [evalT_args]; rfl
 suffices hs : ∃ h', (∀ n, n < h.next → h'.get n = h.get n) ∧ CallOk K Tryz.prog 34 [.c (.slice nb 0 2048 1)] h (.w (.g (pack f))) h' by
  obtain ⟨h', e2, c⟩ := hs
  exact c.quiet (pack_flat f) e2
 suffices hs : Goes K Tryz.prog 31 none (q34 []) [] (argTmps 0 [.c (.slice nb 0 2048 1)] .nil) h fun x ds ts h1 => (∀ n, n < h.next → h1.get n = h.get n) ∧ leave K Tryz.f34 (some (.at x ds ts h1)) = some (.val (.w (.g (pack f))) h1) by
  obtain ⟨x, ds, ts, h1, g, e2, e3⟩ := hs
  exact ⟨h1, e2, CallOk.body fits Hh (by kernel_rfl) (by kernel_rfl) (by kernel_rfl) (by kernel_rfl) rfl g e3⟩
 iterate 8 (first | apply Goes.seq | apply Goes.block | (apply Goes.ops2 fits Hh E0_sound; · simp (decide := true) only [go_sem, putTH_some, H.get_put, H.get_new, loadIn, storeIn, reduceIte, Nat.reduceAdd, Nat.reduceMul, e0, tyBlock, sBlock, z54] <;> rfl))
 show Goes K Tryz.prog 31 none (q34 [1,1,0,1,2]) _ _ _ _
 refine (outer Hh f nb (h.next + 1) (by omega) ro 256 0 _ _ rfl ?_ ?_ ?_ ?_ ?_).mono ?_
 ·rw [H.get_new, H.next_new, if_neg (by omega), H.get_new, if_neg (by omega)]; exact hb
 ·rw [H.get_new, H.next_new, if_pos rfl]
 ·simp (decide := true) only [evalT_set, reduceIte, e0]
 ·simp (decide := true) only [evalT_set, reduceIte, H.next_new]
 ·simp (decide := true) only [evalT_set, reduceIte]
  rfl
 rintro x ds' ts' h' ⟨rfl, rfl, hn, hk, hr, elow⟩
 have f2 : evalT ts' 2 = .w (.c (.ptr h.next 0)) := by rw [elow 2 (by decide)]; simp (decide := true) only [evalT_set, reduceIte]
 have f3 : evalT ts' 3 = .w (.c (.ptr (h.next + 1) 0)) := by rw [elow 3 (by decide)]; simp (decide := true) only [evalT_set, reduceIte, H.next_new]
 have hr2 : h'.get h.next = some (.row 256 [rowI f 0] false) := by
  rw [hk h.next (by omega), H.get_new, H.next_new, if_neg (by omega), H.get_new, if_pos rfl]
 have rd : readRow 256 [pack f] 0 256 = some (pack f) := by
  have e : (pack f).length = 256 := by simp [pack]
  have := readRow_all (l := pack f) (by omega)
  rwa [e] at this
 have wr : writeRow 256 [rowI f 0] 0 (pack f) = some [pack f] := by
  have e : (pack f).length = 256 := by simp [pack]
  have := writeRow_all (l := rowI f 0) (l' := pack f) (by omega) (by rw [rowI_len, e])
  rwa [e] at this
 have lp : (pack f).length = 256 := by simp [pack]
 show Goes K Tryz.prog 31 none (q34 [1,1,1]) _ _ _ _
 iterate 3 (first | apply Goes.seq | apply Goes.ret | (apply Goes.ops2 fits Hh E0_sound; · simp (decide := true) only [go_sem, putTH_some, H.get_put, H.get_new, loadIn, storeIn, reduceIte, Nat.reduceAdd, Nat.reduceMul, f2, f3, hr, hr2, rd, wr, lp, tyBlock, aBlock, sBlock, gW, Nat.beq_refl] <;> rfl))
 refine ⟨fun n hn' => ?_, ?_⟩
 ·rw [H.get_put, if_neg (by omega), hk n (by omega), H.get_new, H.next_new, if_neg (by omega), H.get_new, if_neg (by omega)]
 ·have e1 : Tryz.f34.results.toList = [.cell 2 81] := rfl
  simp (decide := true) only [leave_ret, takeMarks, finish, e1, resultsOf, evalC, evalO_tmp, asC, evalT_set, reduceIte, f2, Go.Ev.load, tyBlock, loadIn, aBlock, sBlock, H.get_put, cond_true, rd, gW, resultOf]
end
end Go.Proofs.YtdnkofpkkebefaaGreatDoor
