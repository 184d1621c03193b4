/- quernref21.Make of a geometry that may be, on the evaluator's level: its blocks. -/
import Derived.Test.YtdnkofpkkebefaaGreatDoorMake
set_option linter.unusedSimpArgs false
set_option linter.unusedVariables false
set_option linter.unusedSectionVars false
set_option maxRecDepth 100000
namespace Go.Proofs.YtdnkofpkkebefaaGreatDoor
open Go.Ev
def zeroB : List C := List.replicate 256 (.int .u8 0)
def blkOf (S D Hd I : List C) (sz ino b : Nat) (x : List C) : List C := match x with
 | [.int _ k, .int _ a, _, .int _ d] => if b = 0 then S else if b = 1 then D else if b = 2 then Hd else if d = 1 then I else pack (bitF sz ino k a)
 | _ => []
def outL (S D Hd I : List C) (sz ino : Nat) (L : List (List C)) (i : Nat) : List (List C) := (List.range L.length).map fun t => if t < i then blkOf S D Hd I sz ino t (L[t]?.getD []) else zeroB
theorem outL_len (S D Hd I : List C) (sz ino : Nat) (L : List (List C)) (i : Nat) : (outL S D Hd I sz ino L i).length = L.length := by simp [outL]
theorem outL_get (S D Hd I : List C) (sz ino : Nat) (L : List (List C)) (i : Nat) (hi : i < L.length) : (outL S D Hd I sz ino L i)[i]? = some zeroB := by simp [outL, hi]
theorem outL_set (S D Hd I : List C) (sz ino : Nat) (L : List (List C)) (i : Nat) (x y : List C) (hx : L[i]? = some x) (hy : y = blkOf S D Hd I sz ino i x) : (outL S D Hd I sz ino L i).set i y = outL S D Hd I sz ino L (i + 1) := by
 subst hy
 refine List.ext_getElem (by simp [outL]) fun t h1 h2 => ?_
 simp only [List.getElem_set]
 simp only [outL, List.getElem_map, List.getElem_range]
 by_cases e : i = t
 ·subst e
  simp [hx]
 ·rw [if_neg e]
  by_cases h3 : t < i
  ·rw [if_pos h3, if_pos (by omega)]
  ·rw [if_neg h3, if_neg (by omega)]
theorem tyBlocks : K.types.get 48 = some ti48 := by kernel_rfl
theorem dBlocks : ti48.desc = .slice 81 := rfl
theorem elBools : elemTI K 96 = some ti4 := by kernel_rfl
theorem msBools (h : Go.Ev.H) (f : Nat → Bool) : opMakeSlice h (some ti4) (some 2048) (some 2048) = some (.w (.c (.slice h.next 0 2048 1)), h.new (.row 1 (bitsRow (upto f 0)) false)) := by
 have e : List.replicate 2048 ti4.zero.cells = bitsRow (upto f 0) := by
  refine List.ext_getElem (by rw [List.length_replicate]; simp [bitsRow]) fun t h1 h2 => ?_
  rw [List.getElem_replicate]
  simp only [bitsRow, List.getElem_map, upto]
  rfl
 show some (V.w (.c (.slice h.next 0 2048 1)), h.new (.row 1 (List.replicate 2048 ti4.zero.cells) false)) = _
 rw [e]
theorem bldSuper (a b c d : C) : opBuild K 77 (some [(0, .g [a, b, c, d])]) = some (.g [a, b, c, d, .int .u32 0]) := by kernel_rfl
noncomputable def headL : List C := match opBuild K 105 (some [(0, .c (.int .u32 1))]) with
 | some (.g l) => l
 | _ => []
theorem bldHead : opBuild K 105 (some [(0, .c (.int .u32 1))]) = some (.g headL) := by kernel_rfl
noncomputable def inoL : List C := match opBuild K 109 (some [(0, .c (.int .u8 2)), (1, .c (.int .i64 1)), (2, .c (.int .u32 1))]) with
 | some (.g l) => l
 | _ => []
theorem bldIno : opBuild K 109 (some [(0, .c (.int .u8 2)), (1, .c (.int .i64 1)), (2, .c (.int .u32 1))]) = some (.g inoL) := by kernel_rfl
structure Special (P : Program) (gr sz ino jr : Nat) (L DL : List (List C)) (S D Hd I : List C) : Prop where
 s : ∀ h : Go.Ev.H, CallOk K P 35 [.g [.int .i64 gr, .int .i64 sz, .int .i64 ino, .int .i64 jr, .int .u32 0]] h (.tup [.g S, .c (.int .i64 0)]) h
 d : ∀ (h : Go.Ev.H) (n : Nat), h.get n = some (.row 3 DL false) → CallOk K P 36 [.g (geoL gr sz ino jr), .c (.slice n 0 gr 3)] h (.tup [.g D, .c (.int .i64 0)]) h
 hd : ∀ h : Go.Ev.H, CallOk K P 37 [.g headL] h (.tup [.g Hd, .c (.int .i64 0)]) h
 i : ∀ (h : Go.Ev.H) (b : Nat) (kd a c : Int), L[b]? = some (thing kd a c 1) → CallOk K P 38 [.g (pack (bitF sz ino kd a)), .c (.int .i64 0), .g inoL] h (.tup [.g I, .c (.int .i64 0)]) h
 ls : S.length = 256
 ld : D.length = 256
 lh : Hd.length = 256
 li : I.length = 256
section
variable (Hh : Hearts K Tryz.prog)
include Hh
theorem mk2 {gr sz ino jr : Nat} (F : Fine gr sz ino jr) (p nA nO nD : Nat) (h1O : nO ≠ p) (h2O : nO ≠ nA) (h3O : nO ≠ nD) (L DL : List (List C)) (S D Hd I : List C) (Sp : Special Tryz.prog gr sz ino jr L DL S D Hd I) (hT : Things L) (hlen : L.length ≤ 4000) : ∀ (k b : Nat) (ts : Tmps) (h : Go.Ev.H), b + k = L.length → h.get p = some (.row 4 [geoL gr sz ino jr] false) → h.get nA = some (.row 4 L false) → h.get nD = some (.row 3 DL false) → h.get nO = some (.row 256 (outL S D Hd I sz ino L b) false) →
  evalT ts 1 = .w (.c (.ptr p 0)) → evalT ts 4 = .w (.c (.slice nA 0 L.length 4)) → evalT ts 5 = .w (.c (.slice nO 0 L.length 256)) → evalT ts 6 = .w (.c (.slice nD 0 gr 3)) → evalT ts 8 = .w (.c (.int .i64 b)) → (p < h.next ∧ nA < h.next ∧ nO < h.next ∧ nD < h.next) →
  Goes K Tryz.prog 159 none (q16 [1, 1, 1, 1, 1, 1, 1, 1, 0, 1, 2]) [] ts h fun x ds' ts' h' => x = .exit 2 ∧ ds' = [] ∧ h.next ≤ h'.next ∧ h'.get nO = some (.row 256 (outL S D Hd I sz ino L L.length) false) ∧ (∀ m, m ≠ nO → m < h.next → h'.get m = h.get m) ∧ evalT ts' 5 = .w (.c (.slice nO 0 L.length 256)) := by
 intro k
 induction k with
 | zero =>
  intro b ts h hb hp hA hD hO h1 h4 h5 h6 h8 hlt
  have eb : b = L.length := by omega
  subst eb
  have c1 : decide ((L.length : Int) < (L.length : Int)) = false := decide_eq_false (by omega)
  iterate 6 (first | apply Goes.seq | apply Goes.exit | apply Goes.loop | ((first | apply Goes.condV | apply Goes.ops2 fits Hh E0_sound); · simp (decide := true) only [go_sem, putTH_some, H.get_put, H.get_new, loadIn, storeIn, reduceIte, Nat.reduceAdd, Nat.reduceMul, evalC, evalO_tmp, asC, evalT_set, dec_true, dec_false, h4, h8, c1, opBuiltin, opLen, lfThings] <;> rfl))
  refine ⟨rfl, rfl, Nat.le_refl _, hO, fun _ _ _ => rfl, ?_⟩
  simp (decide := true) only [evalT_set, reduceIte, h5]
 | succ k ih =>
  intro b ts h hb hp hA hD hO h1 h4 h5 h6 h8 hlt
  have hbl : b < L.length := by omega
  obtain ⟨kd, a, c, d, hx⟩ := hT L[b] (List.getElem_mem hbl)
  have hx' : L[b]? = some (thing kd a c d) := by rw [List.getElem?_eq_getElem hbl, hx]
  have c1 : decide ((b : Int) < (L.length : Int)) = true := decide_eq_true (by omega)
  have n2048 : natOf (some (.int .i64 2048)) = some 2048 := rfl
  have ms := msBools h (bitF sz ino kd a)
  iterate 13 (first | apply Goes.seq | apply Goes.skip | apply Goes.block | apply Goes.loop | ((first | apply Goes.condV | apply Goes.ops2 fits Hh E0_sound); · simp (decide := true) only [go_sem, putTH_some, H.get_put, H.get_new, loadIn, storeIn, reduceIte, Nat.reduceAdd, Nat.reduceMul, evalC, evalO_tmp, asC, evalT_set, dec_true, dec_false, h4, h8, c1, ms, n2048, opBuiltin, opLen, lfThings, elBools] <;> rfl))
  show Goes K Tryz.prog 159 none (q16 [1, 1, 1, 1, 1, 1, 1, 1, 0, 1, 2, 2, 1, 0, 2, 1, 0, 1]) _ _ _ _
  rw [q16_111111110122102101]
  refine Goes.block ((mk4 Hh F p nA h.next b (by omega) (by omega) L false kd a c d hx' hlen 2048 0 _ _ rfl ?_ ?_ ?_ ?_ ?_ ?_ ?_ ?_ ?_).mono ?_)
  ·rw [H.get_new, if_neg (by omega)]; exact hp
  ·rw [H.get_new, if_neg (by omega)]; exact hA
  ·rw [H.get_new, if_pos rfl]
  ·simp (decide := true) only [evalT_set, reduceIte, h1]
  ·simp (decide := true) only [evalT_set, reduceIte, h4]
  ·simp (decide := true) only [evalT_set, reduceIte, h8]
  ·simp (decide := true) only [evalT_set, reduceIte]
  ·simp (decide := true) only [evalT_set, reduceIte]
   rfl
  ·rw [H.next_new]; omega
  rintro x ds' ts2 h2 ⟨rfl, rfl, hn2, hb2, hk2, low⟩
  rw [H.next_new] at hn2
  have k1 : evalT ts2 1 = .w (.c (.ptr p 0)) := by rw [low 1 (by decide)]; simp (decide := true) only [evalT_set, reduceIte, h1]
  have k4 : evalT ts2 4 = .w (.c (.slice nA 0 L.length 4)) := by rw [low 4 (by decide)]; simp (decide := true) only [evalT_set, reduceIte, h4]
  have k5 : evalT ts2 5 = .w (.c (.slice nO 0 L.length 256)) := by rw [low 5 (by decide)]; simp (decide := true) only [evalT_set, reduceIte, h5]
  have k6 : evalT ts2 6 = .w (.c (.slice nD 0 gr 3)) := by rw [low 6 (by decide)]; simp (decide := true) only [evalT_set, reduceIte, h6]
  have k8 : evalT ts2 8 = .w (.c (.int .i64 b)) := by rw [low 8 (by decide)]; simp (decide := true) only [evalT_set, reduceIte, h8]
  have k9 : evalT ts2 9 = .w (.c (.slice h.next 0 2048 1)) := by rw [low 9 (by decide)]; simp (decide := true) only [evalT_set, reduceIte]
  have hp2 : h2.get p = some (.row 4 [[.int .i64 gr, .int .i64 sz, .int .i64 ino, .int .i64 jr]] false) := by rw [hk2 _ (by omega), H.get_new, if_neg (by omega)]; exact hp
  have hA2 : h2.get nA = some (.row 4 L false) := by rw [hk2 _ (by omega), H.get_new, if_neg (by omega)]; exact hA
  have hD2 : h2.get nD = some (.row 3 DL false) := by rw [hk2 _ (by omega), H.get_new, if_neg (by omega)]; exact hD
  have hO2 : h2.get nO = some (.row 256 (outL S D Hd I sz ino L b) false) := by rw [hk2 _ (by omega), H.get_new, if_neg (by omega)]; exact hO
  have b1 : Nat.blt b L.length = true := blt_true hbl
  have lp : (pack (bitF sz ino kd a)).length = 256 := by simp [pack]
  have wr1 : writeRow 256 (outL S D Hd I sz ino L b) (b * 256) (pack (bitF sz ino kd a)) = some ((outL S D Hd I sz ino L b).set b (pack (bitF sz ino kd a))) := writeRow_el lp (by omega) (outL_get _ _ _ _ _ _ _ _ hbl) (by simp [zeroB])
  have hE : ((outL S D Hd I sz ino L b).set b (pack (bitF sz ino kd a)))[b]? = some (pack (bitF sz ino kd a)) := by
   rw [List.getElem?_set_self (by rw [outL_len]; exact hbl)]
  have w1 : wrapC .i64 ((b : Int) + 1) = .int .i64 ((b + 1 : Nat) : Int) := by rw [wrap64 (by omega) (by omega)]; congr 1
  have hn1 : p ≠ nO := Ne.symm h1O
  have hn2' : nA ≠ nO := Ne.symm h2O
  have hn3 : nD ≠ nO := Ne.symm h3O
  by_cases b0 : b = 0
  ·have z0 : ((b : Int) == 0) = true := by rw [b0]; rfl
   have z1 := z0
   have z2 := z0
   have setb := outL_set S D Hd I sz ino L b _ S hx' (by rw [b0]; rfl)
   have wr2 : writeRow 256 ((outL S D Hd I sz ino L b).set b (pack (bitF sz ino kd a))) (b * 256) S = some (((outL S D Hd I sz ino L b).set b (pack (bitF sz ino kd a))).set b S) := writeRow_el Sp.ls (by omega) hE lp
   have ls := Sp.ls
   have rg : readRow 4 [[C.int .i64 gr, .int .i64 sz, .int .i64 ino, .int .i64 jr]] 0 4 = some [.int .i64 gr, .int .i64 sz, .int .i64 ino, .int .i64 jr] := rfl
   apply Goes.seq
   (apply Goes.ops2 fits Hh (E1_sound E0_sound (blockOk Hh (bitF sz ino kd a) h.next false h2 hb2)); · simp (decide := true) only [go_sem, putTH_some, H.get_put, H.get_new, loadIn, storeIn, reduceIte, Nat.reduceAdd, Nat.reduceMul, E1_call, k1, k4, k5, k6, k8, k9, hp2, hA2, hD2, hO2, b1, wr1, lp, w1, z0, z1, z2, wr2, ls, rg, hn1, hn2', tyThings, dThings, tyThing, sThing, fThing3, tyBlocks, dBlocks, tyBlock, sBlock, aBlock, tyInt, sInt, aInt, tyGeo, sGeo, aGeo, cW, gW, Nat.zero_add, Nat.add_zero, Nat.beq_refl, bldSuper] <;> rfl)
   iterate 4 (first | apply Goes.seq | apply Goes.block | ((first | apply Goes.condV | apply Goes.ops2 fits Hh E0_sound); · simp (decide := true) only [go_sem, putTH_some, H.get_put, H.get_new, loadIn, storeIn, reduceIte, Nat.reduceAdd, Nat.reduceMul, evalC, evalO_tmp, asC, evalT_set, dec_true, dec_false, k1, k4, k5, k6, k8, k9, hp2, hA2, hD2, hO2, b1, wr1, lp, w1, z0, z1, z2, wr2, ls, rg, hn1, hn2', tyThings, dThings, tyThing, sThing, fThing3, tyBlocks, dBlocks, tyBlock, sBlock, aBlock, tyInt, sInt, aInt, tyGeo, sGeo, aGeo, cW, gW, Nat.zero_add, Nat.add_zero, Nat.beq_refl, bldSuper] <;> rfl))
   (apply Goes.ops2 fits Hh (E1_sound E0_sound (Sp.s (h2.put nO (.row 256 ((outL S D Hd I sz ino L b).set b (pack (bitF sz ino kd a))) false)))); · simp (decide := true) only [go_sem, putTH_some, H.get_put, H.get_new, loadIn, storeIn, reduceIte, Nat.reduceAdd, Nat.reduceMul, E1_call, k1, k4, k5, k6, k8, k9, hp2, hA2, hD2, hO2, b1, wr1, lp, w1, z0, z1, z2, wr2, ls, rg, hn1, hn2', tyThings, dThings, tyThing, sThing, fThing3, tyBlocks, dBlocks, tyBlock, sBlock, aBlock, tyInt, sInt, aInt, tyGeo, sGeo, aGeo, cW, gW, Nat.zero_add, Nat.add_zero, Nat.beq_refl, bldSuper] <;> rfl)
   (apply Goes.ops2 fits Hh E0_sound; · simp (decide := true) only [go_sem, putTH_some, H.get_put, H.get_new, loadIn, storeIn, reduceIte, Nat.reduceAdd, Nat.reduceMul, k1, k4, k5, k6, k8, k9, hp2, hA2, hD2, hO2, b1, wr1, lp, w1, z0, z1, z2, wr2, ls, rg, hn1, hn2', tyThings, dThings, tyThing, sThing, fThing3, tyBlocks, dBlocks, tyBlock, sBlock, aBlock, tyInt, sInt, aInt, tyGeo, sGeo, aGeo, cW, gW, Nat.zero_add, Nat.add_zero, Nat.beq_refl, bldSuper] <;> rfl)
   show Goes K Tryz.prog 159 none (.loop (q16 [1, 1, 1, 1, 1, 1, 1, 1, 0, 1, 2, 2])) _ _ _ _
   rw [← q16_11111111012]
   refine (ih (b + 1) _ _ (by omega) ?_ ?_ ?_ ?_ ?_ ?_ ?_ ?_ ?_ ?_).mono ?_
   ·rw [H.get_put, if_neg (by omega), H.get_put, if_neg (by omega), hk2 _ (by omega), H.get_new, if_neg (by omega)]; exact hp
   ·rw [H.get_put, if_neg (by omega), H.get_put, if_neg (by omega), hk2 _ (by omega), H.get_new, if_neg (by omega)]; exact hA
   ·rw [H.get_put, if_neg (by omega), H.get_put, if_neg (by omega), hk2 _ (by omega), H.get_new, if_neg (by omega)]; exact hD
   ·rw [H.get_put, if_pos rfl, List.set_set, setb]
   ·simp (decide := true) only [evalT_set, reduceIte, k1]
   ·simp (decide := true) only [evalT_set, reduceIte, k4]
   ·simp (decide := true) only [evalT_set, reduceIte, k5]
   ·simp (decide := true) only [evalT_set, reduceIte, k6]
   ·simp (decide := true) only [evalT_set, reduceIte]
   ·simp only [H.next_put]; omega
   ·rintro x ds' ts' h' ⟨e1, e2, e3, e4, e5, e6⟩
    simp only [H.next_put] at e3 e5
    refine ⟨e1, e2, by omega, e4, fun m hm hlt => ?_, ?_⟩
    ·rw [e5 m hm (by omega)]
     rw [H.get_put, if_neg (by omega), H.get_put, if_neg (by omega), hk2 _ (by omega), H.get_new, if_neg (by omega)]
    ·exact e6
  by_cases b1' : b = 1
  ·have z0 : ((b : Int) == 0) = false := by rw [b1']; rfl
   have z1 : ((b : Int) == 1) = true := by rw [b1']; rfl
   have z2 := z0
   have setb := outL_set S D Hd I sz ino L b _ D hx' (by rw [b1']; rfl)
   have wr2 : writeRow 256 ((outL S D Hd I sz ino L b).set b (pack (bitF sz ino kd a))) (b * 256) D = some (((outL S D Hd I sz ino L b).set b (pack (bitF sz ino kd a))).set b D) := writeRow_el Sp.ld (by omega) hE lp
   have ls := Sp.ld
   have rg : readRow 4 [[C.int .i64 gr, .int .i64 sz, .int .i64 ino, .int .i64 jr]] 0 4 = some [.int .i64 gr, .int .i64 sz, .int .i64 ino, .int .i64 jr] := rfl
   have dD : CallOk K Tryz.prog 36 [.g [.int .i64 gr, .int .i64 sz, .int .i64 ino, .int .i64 jr], .c (.slice nD 0 gr 3)] (h2.put nO (.row 256 ((outL S D Hd I sz ino L b).set b (pack (bitF sz ino kd a))) false)) (.tup [.g D, .c (.int .i64 0)]) (h2.put nO (.row 256 ((outL S D Hd I sz ino L b).set b (pack (bitF sz ino kd a))) false)) := Sp.d _ nD (by rw [H.get_put, if_neg hn3]; exact hD2)
   apply Goes.seq
   (apply Goes.ops2 fits Hh (E1_sound E0_sound (blockOk Hh (bitF sz ino kd a) h.next false h2 hb2)); · simp (decide := true) only [go_sem, putTH_some, H.get_put, H.get_new, loadIn, storeIn, reduceIte, Nat.reduceAdd, Nat.reduceMul, E1_call, k1, k4, k5, k6, k8, k9, hp2, hA2, hD2, hO2, b1, wr1, lp, w1, z0, z1, z2, wr2, ls, rg, hn1, hn2', tyThings, dThings, tyThing, sThing, fThing3, tyBlocks, dBlocks, tyBlock, sBlock, aBlock, tyInt, sInt, aInt, tyGeo, sGeo, aGeo, cW, gW, Nat.zero_add, Nat.add_zero, Nat.beq_refl] <;> rfl)
   iterate 7 (first | apply Goes.seq | apply Goes.block | ((first | apply Goes.condV | apply Goes.ops2 fits Hh E0_sound); · simp (decide := true) only [go_sem, putTH_some, H.get_put, H.get_new, loadIn, storeIn, reduceIte, Nat.reduceAdd, Nat.reduceMul, evalC, evalO_tmp, asC, evalT_set, dec_true, dec_false, k1, k4, k5, k6, k8, k9, hp2, hA2, hD2, hO2, b1, wr1, lp, w1, z0, z1, z2, wr2, ls, rg, hn1, hn2', tyThings, dThings, tyThing, sThing, fThing3, tyBlocks, dBlocks, tyBlock, sBlock, aBlock, tyInt, sInt, aInt, tyGeo, sGeo, aGeo, cW, gW, Nat.zero_add, Nat.add_zero, Nat.beq_refl] <;> rfl))
   (apply Goes.ops2 fits Hh (E1_sound E0_sound dD); · simp (decide := true) only [go_sem, putTH_some, H.get_put, H.get_new, loadIn, storeIn, reduceIte, Nat.reduceAdd, Nat.reduceMul, E1_call, k1, k4, k5, k6, k8, k9, hp2, hA2, hD2, hO2, b1, wr1, lp, w1, z0, z1, z2, wr2, ls, rg, hn1, hn2', tyThings, dThings, tyThing, sThing, fThing3, tyBlocks, dBlocks, tyBlock, sBlock, aBlock, tyInt, sInt, aInt, tyGeo, sGeo, aGeo, cW, gW, Nat.zero_add, Nat.add_zero, Nat.beq_refl] <;> rfl)
   (apply Goes.ops2 fits Hh E0_sound; · simp (decide := true) only [go_sem, putTH_some, H.get_put, H.get_new, loadIn, storeIn, reduceIte, Nat.reduceAdd, Nat.reduceMul, k1, k4, k5, k6, k8, k9, hp2, hA2, hD2, hO2, b1, wr1, lp, w1, z0, z1, z2, wr2, ls, rg, hn1, hn2', tyThings, dThings, tyThing, sThing, fThing3, tyBlocks, dBlocks, tyBlock, sBlock, aBlock, tyInt, sInt, aInt, tyGeo, sGeo, aGeo, cW, gW, Nat.zero_add, Nat.add_zero, Nat.beq_refl] <;> rfl)
   show Goes K Tryz.prog 159 none (.loop (q16 [1, 1, 1, 1, 1, 1, 1, 1, 0, 1, 2, 2])) _ _ _ _
   rw [← q16_11111111012]
   refine (ih (b + 1) _ _ (by omega) ?_ ?_ ?_ ?_ ?_ ?_ ?_ ?_ ?_ ?_).mono ?_
   ·rw [H.get_put, if_neg (by omega), H.get_put, if_neg (by omega), hk2 _ (by omega), H.get_new, if_neg (by omega)]; exact hp
   ·rw [H.get_put, if_neg (by omega), H.get_put, if_neg (by omega), hk2 _ (by omega), H.get_new, if_neg (by omega)]; exact hA
   ·rw [H.get_put, if_neg (by omega), H.get_put, if_neg (by omega), hk2 _ (by omega), H.get_new, if_neg (by omega)]; exact hD
   ·rw [H.get_put, if_pos rfl, List.set_set, setb]
   ·simp (decide := true) only [evalT_set, reduceIte, k1]
   ·simp (decide := true) only [evalT_set, reduceIte, k4]
   ·simp (decide := true) only [evalT_set, reduceIte, k5]
   ·simp (decide := true) only [evalT_set, reduceIte, k6]
   ·simp (decide := true) only [evalT_set, reduceIte]
   ·simp only [H.next_put]; omega
   ·rintro x ds' ts' h' ⟨e1, e2, e3, e4, e5, e6⟩
    simp only [H.next_put] at e3 e5
    refine ⟨e1, e2, by omega, e4, fun m hm hlt => ?_, ?_⟩
    ·rw [e5 m hm (by omega)]
     rw [H.get_put, if_neg (by omega), H.get_put, if_neg (by omega), hk2 _ (by omega), H.get_new, if_neg (by omega)]
    ·exact e6
  have z0 : ((b : Int) == 0) = false := by simpa using b0
  have z1 : ((b : Int) == 1) = false := by
   have : ¬ (b : Int) = 1 := by omega
   simpa using this
  by_cases b2 : b = 2
  ·have z2 : ((b : Int) == 2) = true := by rw [b2]; rfl
   have setb := outL_set S D Hd I sz ino L b _ Hd hx' (by rw [b2]; rfl)
   have wr2 : writeRow 256 ((outL S D Hd I sz ino L b).set b (pack (bitF sz ino kd a))) (b * 256) Hd = some (((outL S D Hd I sz ino L b).set b (pack (bitF sz ino kd a))).set b Hd) := writeRow_el Sp.lh (by omega) hE lp
   have ls := Sp.lh
   apply Goes.seq
   (apply Goes.ops2 fits Hh (E1_sound E0_sound (blockOk Hh (bitF sz ino kd a) h.next false h2 hb2)); · simp (decide := true) only [go_sem, putTH_some, H.get_put, H.get_new, loadIn, storeIn, reduceIte, Nat.reduceAdd, Nat.reduceMul, E1_call, k1, k4, k5, k6, k8, k9, hp2, hA2, hD2, hO2, b1, wr1, lp, w1, z0, z1, z2, wr2, ls, hn1, hn2', tyThings, dThings, tyThing, sThing, fThing3, tyBlocks, dBlocks, tyBlock, sBlock, aBlock, tyInt, sInt, aInt, tyGeo, sGeo, aGeo, cW, gW, Nat.zero_add, Nat.add_zero, Nat.beq_refl, bldHead] <;> rfl)
   iterate 10 (first | apply Goes.seq | apply Goes.block | ((first | apply Goes.condV | apply Goes.ops2 fits Hh E0_sound); · simp (decide := true) only [go_sem, putTH_some, H.get_put, H.get_new, loadIn, storeIn, reduceIte, Nat.reduceAdd, Nat.reduceMul, evalC, evalO_tmp, asC, evalT_set, dec_true, dec_false, k1, k4, k5, k6, k8, k9, hp2, hA2, hD2, hO2, b1, wr1, lp, w1, z0, z1, z2, wr2, ls, hn1, hn2', tyThings, dThings, tyThing, sThing, fThing3, tyBlocks, dBlocks, tyBlock, sBlock, aBlock, tyInt, sInt, aInt, tyGeo, sGeo, aGeo, cW, gW, Nat.zero_add, Nat.add_zero, Nat.beq_refl, bldHead] <;> rfl))
   (apply Goes.ops2 fits Hh (E1_sound E0_sound (Sp.hd (h2.put nO (.row 256 ((outL S D Hd I sz ino L b).set b (pack (bitF sz ino kd a))) false)))); · simp (decide := true) only [go_sem, putTH_some, H.get_put, H.get_new, loadIn, storeIn, reduceIte, Nat.reduceAdd, Nat.reduceMul, E1_call, k1, k4, k5, k6, k8, k9, hp2, hA2, hD2, hO2, b1, wr1, lp, w1, z0, z1, z2, wr2, ls, hn1, hn2', tyThings, dThings, tyThing, sThing, fThing3, tyBlocks, dBlocks, tyBlock, sBlock, aBlock, tyInt, sInt, aInt, tyGeo, sGeo, aGeo, cW, gW, Nat.zero_add, Nat.add_zero, Nat.beq_refl, bldHead] <;> rfl)
   (apply Goes.ops2 fits Hh E0_sound; · simp (decide := true) only [go_sem, putTH_some, H.get_put, H.get_new, loadIn, storeIn, reduceIte, Nat.reduceAdd, Nat.reduceMul, k1, k4, k5, k6, k8, k9, hp2, hA2, hD2, hO2, b1, wr1, lp, w1, z0, z1, z2, wr2, ls, hn1, hn2', tyThings, dThings, tyThing, sThing, fThing3, tyBlocks, dBlocks, tyBlock, sBlock, aBlock, tyInt, sInt, aInt, tyGeo, sGeo, aGeo, cW, gW, Nat.zero_add, Nat.add_zero, Nat.beq_refl, bldHead] <;> rfl)
   show Goes K Tryz.prog 159 none (.loop (q16 [1, 1, 1, 1, 1, 1, 1, 1, 0, 1, 2, 2])) _ _ _ _
   rw [← q16_11111111012]
   refine (ih (b + 1) _ _ (by omega) ?_ ?_ ?_ ?_ ?_ ?_ ?_ ?_ ?_ ?_).mono ?_
   ·rw [H.get_put, if_neg (by omega), H.get_put, if_neg (by omega), hk2 _ (by omega), H.get_new, if_neg (by omega)]; exact hp
   ·rw [H.get_put, if_neg (by omega), H.get_put, if_neg (by omega), hk2 _ (by omega), H.get_new, if_neg (by omega)]; exact hA
   ·rw [H.get_put, if_neg (by omega), H.get_put, if_neg (by omega), hk2 _ (by omega), H.get_new, if_neg (by omega)]; exact hD
   ·rw [H.get_put, if_pos rfl, List.set_set, setb]
   ·simp (decide := true) only [evalT_set, reduceIte, k1]
   ·simp (decide := true) only [evalT_set, reduceIte, k4]
   ·simp (decide := true) only [evalT_set, reduceIte, k5]
   ·simp (decide := true) only [evalT_set, reduceIte, k6]
   ·simp (decide := true) only [evalT_set, reduceIte]
   ·simp only [H.next_put]; omega
   ·rintro x ds' ts' h' ⟨e1, e2, e3, e4, e5, e6⟩
    simp only [H.next_put] at e3 e5
    refine ⟨e1, e2, by omega, e4, fun m hm hlt => ?_, ?_⟩
    ·rw [e5 m hm (by omega)]
     rw [H.get_put, if_neg (by omega), H.get_put, if_neg (by omega), hk2 _ (by omega), H.get_new, if_neg (by omega)]
    ·exact e6
  have z2 : ((b : Int) == 2) = false := by
   have : ¬ (b : Int) = 2 := by omega
   simpa using this
  have r3 : read1 4 L (b * 4 + 3) = some (.int .i64 d) := read1_el (sz := 4) (j := 3) (by omega) hx'
  by_cases d1 : d = 1
  ·have e1 : (d == 1) = true := by rw [d1]; rfl
   have setb := outL_set S D Hd I sz ino L b _ I hx' (by simp only [thing, blkOf]; rw [if_neg b0, if_neg b1', if_neg b2, if_pos d1])
   have wr2 : writeRow 256 ((outL S D Hd I sz ino L b).set b (pack (bitF sz ino kd a))) (b * 256) I = some (((outL S D Hd I sz ino L b).set b (pack (bitF sz ino kd a))).set b I) := writeRow_el Sp.li (by omega) hE lp
   have ls := Sp.li
   have rb : readRow 256 ((outL S D Hd I sz ino L b).set b (pack (bitF sz ino kd a))) (b * 256) 256 = some (pack (bitF sz ino kd a)) := readRow_el (by omega) hE lp
   apply Goes.seq
   (apply Goes.ops2 fits Hh (E1_sound E0_sound (blockOk Hh (bitF sz ino kd a) h.next false h2 hb2)); · simp (decide := true) only [go_sem, putTH_some, H.get_put, H.get_new, loadIn, storeIn, reduceIte, Nat.reduceAdd, Nat.reduceMul, E1_call, k1, k4, k5, k6, k8, k9, hp2, hA2, hD2, hO2, b1, wr1, lp, w1, z0, z1, z2, wr2, ls, r3, e1, rb, hn1, hn2', tyThings, dThings, tyThing, sThing, fThing3, tyBlocks, dBlocks, tyBlock, sBlock, aBlock, tyInt, sInt, aInt, tyGeo, sGeo, aGeo, cW, gW, Nat.zero_add, Nat.add_zero, Nat.beq_refl, bldIno] <;> rfl)
   iterate 13 (first | apply Goes.seq | apply Goes.block | ((first | apply Goes.condV | apply Goes.ops2 fits Hh E0_sound); · simp (decide := true) only [go_sem, putTH_some, H.get_put, H.get_new, loadIn, storeIn, reduceIte, Nat.reduceAdd, Nat.reduceMul, evalC, evalO_tmp, asC, evalT_set, dec_true, dec_false, k1, k4, k5, k6, k8, k9, hp2, hA2, hD2, hO2, b1, wr1, lp, w1, z0, z1, z2, wr2, ls, r3, e1, rb, hn1, hn2', tyThings, dThings, tyThing, sThing, fThing3, tyBlocks, dBlocks, tyBlock, sBlock, aBlock, tyInt, sInt, aInt, tyGeo, sGeo, aGeo, cW, gW, Nat.zero_add, Nat.add_zero, Nat.beq_refl, bldIno] <;> rfl))
   (apply Goes.ops2 fits Hh (E1_sound E0_sound (Sp.i (h2.put nO (.row 256 ((outL S D Hd I sz ino L b).set b (pack (bitF sz ino kd a))) false)) b kd a c (d1 ▸ hx'))); · simp (decide := true) only [go_sem, putTH_some, H.get_put, H.get_new, loadIn, storeIn, reduceIte, Nat.reduceAdd, Nat.reduceMul, E1_call, k1, k4, k5, k6, k8, k9, hp2, hA2, hD2, hO2, b1, wr1, lp, w1, z0, z1, z2, wr2, ls, r3, e1, rb, hn1, hn2', tyThings, dThings, tyThing, sThing, fThing3, tyBlocks, dBlocks, tyBlock, sBlock, aBlock, tyInt, sInt, aInt, tyGeo, sGeo, aGeo, cW, gW, Nat.zero_add, Nat.add_zero, Nat.beq_refl, bldIno] <;> rfl)
   (apply Goes.ops2 fits Hh E0_sound; · simp (decide := true) only [go_sem, putTH_some, H.get_put, H.get_new, loadIn, storeIn, reduceIte, Nat.reduceAdd, Nat.reduceMul, k1, k4, k5, k6, k8, k9, hp2, hA2, hD2, hO2, b1, wr1, lp, w1, z0, z1, z2, wr2, ls, r3, e1, rb, hn1, hn2', tyThings, dThings, tyThing, sThing, fThing3, tyBlocks, dBlocks, tyBlock, sBlock, aBlock, tyInt, sInt, aInt, tyGeo, sGeo, aGeo, cW, gW, Nat.zero_add, Nat.add_zero, Nat.beq_refl, bldIno] <;> rfl)
   show Goes K Tryz.prog 159 none (.loop (q16 [1, 1, 1, 1, 1, 1, 1, 1, 0, 1, 2, 2])) _ _ _ _
   rw [← q16_11111111012]
   refine (ih (b + 1) _ _ (by omega) ?_ ?_ ?_ ?_ ?_ ?_ ?_ ?_ ?_ ?_).mono ?_
   ·rw [H.get_put, if_neg (by omega), H.get_put, if_neg (by omega), hk2 _ (by omega), H.get_new, if_neg (by omega)]; exact hp
   ·rw [H.get_put, if_neg (by omega), H.get_put, if_neg (by omega), hk2 _ (by omega), H.get_new, if_neg (by omega)]; exact hA
   ·rw [H.get_put, if_neg (by omega), H.get_put, if_neg (by omega), hk2 _ (by omega), H.get_new, if_neg (by omega)]; exact hD
   ·rw [H.get_put, if_pos rfl, List.set_set, setb]
   ·simp (decide := true) only [evalT_set, reduceIte, k1]
   ·simp (decide := true) only [evalT_set, reduceIte, k4]
   ·simp (decide := true) only [evalT_set, reduceIte, k5]
   ·simp (decide := true) only [evalT_set, reduceIte, k6]
   ·simp (decide := true) only [evalT_set, reduceIte]
   ·simp only [H.next_put]; omega
   ·rintro x ds' ts' h' ⟨e1, e2, e3, e4, e5, e6⟩
    simp only [H.next_put] at e3 e5
    refine ⟨e1, e2, by omega, e4, fun m hm hlt => ?_, ?_⟩
    ·rw [e5 m hm (by omega)]
     rw [H.get_put, if_neg (by omega), H.get_put, if_neg (by omega), hk2 _ (by omega), H.get_new, if_neg (by omega)]
    ·exact e6
  ·have e1 : (d == 1) = false := by simpa using d1
   have setb := outL_set S D Hd I sz ino L b _ (pack (bitF sz ino kd a)) hx' (by simp only [thing, blkOf]; rw [if_neg b0, if_neg b1', if_neg b2, if_neg d1])
   apply Goes.seq
   (apply Goes.ops2 fits Hh (E1_sound E0_sound (blockOk Hh (bitF sz ino kd a) h.next false h2 hb2)); · simp (decide := true) only [go_sem, putTH_some, H.get_put, H.get_new, loadIn, storeIn, reduceIte, Nat.reduceAdd, Nat.reduceMul, E1_call, k1, k4, k5, k6, k8, k9, hp2, hA2, hD2, hO2, b1, wr1, lp, w1, z0, z1, z2, r3, e1, hn1, hn2', tyThings, dThings, tyThing, sThing, fThing3, tyBlocks, dBlocks, tyBlock, sBlock, aBlock, tyInt, sInt, aInt, tyGeo, sGeo, aGeo, cW, gW, Nat.zero_add, Nat.add_zero, Nat.beq_refl] <;> rfl)
   iterate 15 (first | apply Goes.seq | apply Goes.skip | apply Goes.block | ((first | apply Goes.condV | apply Goes.ops2 fits Hh E0_sound); · simp (decide := true) only [go_sem, putTH_some, H.get_put, H.get_new, loadIn, storeIn, reduceIte, Nat.reduceAdd, Nat.reduceMul, evalC, evalO_tmp, asC, evalT_set, dec_true, dec_false, k1, k4, k5, k6, k8, k9, hp2, hA2, hD2, hO2, b1, wr1, lp, w1, z0, z1, z2, r3, e1, hn1, hn2', tyThings, dThings, tyThing, sThing, fThing3, tyBlocks, dBlocks, tyBlock, sBlock, aBlock, tyInt, sInt, aInt, tyGeo, sGeo, aGeo, cW, gW, Nat.zero_add, Nat.add_zero, Nat.beq_refl] <;> rfl))
   show Goes K Tryz.prog 159 none (.loop (q16 [1, 1, 1, 1, 1, 1, 1, 1, 0, 1, 2, 2])) _ _ _ _
   rw [← q16_11111111012]
   refine (ih (b + 1) _ _ (by omega) ?_ ?_ ?_ ?_ ?_ ?_ ?_ ?_ ?_ ?_).mono ?_
   ·rw [H.get_put, if_neg (by omega), hk2 _ (by omega), H.get_new, if_neg (by omega)]; exact hp
   ·rw [H.get_put, if_neg (by omega), hk2 _ (by omega), H.get_new, if_neg (by omega)]; exact hA
   ·rw [H.get_put, if_neg (by omega), hk2 _ (by omega), H.get_new, if_neg (by omega)]; exact hD
   ·rw [H.get_put, if_pos rfl, setb]
   ·simp (decide := true) only [evalT_set, reduceIte, k1]
   ·simp (decide := true) only [evalT_set, reduceIte, k4]
   ·simp (decide := true) only [evalT_set, reduceIte, k5]
   ·simp (decide := true) only [evalT_set, reduceIte, k6]
   ·simp (decide := true) only [evalT_set, reduceIte]
   ·simp only [H.next_put]; omega
   ·rintro x ds' ts' h' ⟨e1, e2, e3, e4, e5, e6⟩
    simp only [H.next_put] at e3 e5
    refine ⟨e1, e2, by omega, e4, fun m hm hlt => ?_, ?_⟩
    ·rw [e5 m hm (by omega)]
     rw [H.get_put, if_neg (by omega), hk2 _ (by omega), H.get_new, if_neg (by omega)]
    ·exact e6
end
end Go.Proofs.YtdnkofpkkebefaaGreatDoor
