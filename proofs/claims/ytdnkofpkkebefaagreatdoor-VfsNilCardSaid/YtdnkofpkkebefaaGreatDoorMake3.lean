/- quernref21.Make of a geometry that may be, on the evaluator's level. -/
import Derived.Test.YtdnkofpkkebefaaGreatDoorMake2
import Derived.Test.YtdnkofpkkebefaaGreatDoorEvC
set_option linter.unusedSimpArgs false
set_option linter.unusedVariables false
set_option linter.unusedSectionVars false
set_option maxRecDepth 100000
namespace Go.Proofs.YtdnkofpkkebefaaGreatDoor
open Go.Ev
theorem elDescs : elemTI K 93 = some ti95 := by kernel_rfl
theorem tyDescs : K.types.get 93 = some ti93 := by kernel_rfl
theorem dDescs : ti93.desc = .slice 95 := rfl
theorem tyDesc : K.types.get 95 = some ti95 := by kernel_rfl
theorem sDesc : ti95.size = 3 := rfl
theorem bDesc : ti95.bytes = 24 := rfl
theorem fDesc1 : fieldOf K 95 1 = some (1, ti3) := by kernel_rfl
theorem fDesc2 : fieldOf K 95 2 = some (2, ti3) := by kernel_rfl
theorem sfDescs (n off len sz : Nat) : srcFits K 93 (.slice n off len sz) = true := by unfold srcFits; rw [tyDescs]; rfl
theorem bldDesc (a b : Int) : opBuild K 95 (some [(0, .c (.int .i64 a)), (1, .c (.int .i64 b))]) = some (.g [.int .i64 a, .int .i64 b, .int .i64 0]) := by kernel_rfl
theorem bsDesc (h : Go.Ev.H) (a b c : C) : opBuildSlice h 1 (some ti95) (some [(0, .g [a, b, c])]) = some (.w (.c (.slice h.next 0 1 3)), h.new (.row 3 [[a, b, c]] false)) := rfl
def descE (dn ino : Nat) : List C := [.int .i64 dn, .int .i64 ino, .int .i64 0]
theorem growD {h : Go.Ev.H} {n : Nat} {L : List (List C)} (x : List C) (ho : h.get n = some (.row 3 L false)) (hn : n < h.next) (hl : L.length ≤ 4000) :
  opAppend (h.new (.row 3 [x] false)) (some ti95) (.slice n 0 L.length 3) (.slice h.next 0 1 3) = some (.w (.c (.slice (h.next + 1) 0 (L.length + 1) 3)), ((h.new (.row 3 [x] false)).del n).new (.row 3 (L ++ [x]) false)) :=
 append_ok (M := [x]) sDesc (by rw [H.get_new, if_neg (by omega)]; exact ho) (by rw [H.get_new, if_pos rfl]) (by simp) (by rw [bDesc]; show (L.length + 1) * 24 ≤ _; omega) (by show L.length + 1 ≤ _; omega)
theorem growD0 {h : Go.Ev.H} (x : List C) :
  opAppend (h.new (.row 3 [x] false)) (some ti95) .snil (.slice h.next 0 1 3) = some (.w (.c (.slice (h.next + 1) 0 1 3)), (h.new (.row 3 [x] false)).new (.row 3 [x] false)) :=
 append_nil (M := [x]) sDesc (by rw [H.get_new, if_pos rfl]) (by simp) (by rw [bDesc]; show 1 * 24 ≤ _; omega) (by show 1 ≤ _; omega)
section
variable (Hh : Hearts K Tryz.prog)
include Hh
theorem mk0 {gr sz ino jr : Nat} (F : Fine gr sz ino jr) (G : RG gr sz ino jr) (p base : Nat) (hpb : p < base) : ∀ (k i : Nat) (ts : Tmps) (h : Go.Ev.H), i + k = gr → base ≤ h.next → h.get p = some (.row 4 [geoL gr sz ino jr] false) → evalT ts 1 = .w (.c (.ptr p 0)) → evalT ts 7 = .w (.c (.int .i64 i)) → (i = 0 ∧ evalT ts 6 = .w (.c .snil) ∨ ∃ n, base ≤ n ∧ n < h.next ∧ evalT ts 6 = .w (.c (.slice n 0 i 3)) ∧ h.get n = some (.row 3 (List.replicate i (descE (dataN (allL gr sz ino jr)) ino)) false)) →
  Goes K Tryz.prog 159 none (q16 [1, 1, 1, 1, 1, 0, 1, 2]) [] ts h fun x ds' ts' h' => x = .exit 0 ∧ ds' = [] ∧ h.next ≤ h'.next ∧ (∀ m, m < base → h'.get m = h.get m) ∧ evalT ts' 1 = evalT ts 1 ∧ evalT ts' 4 = evalT ts 4 ∧ evalT ts' 5 = evalT ts 5 ∧ ∃ n, base ≤ n ∧ n < h'.next ∧ evalT ts' 6 = .w (.c (.slice n 0 gr 3)) ∧ h'.get n = some (.row 3 (List.replicate gr (descE (dataN (allL gr sz ino jr)) ino)) false) := by
 have F' := F
 obtain ⟨g1, g2, g3, g4, g5, g6, g7, g8, g9, g10, g11⟩ := F
 intro k
 induction k with
 | zero =>
  intro i ts h hi hb hp h1 h7 st
  have ei : i = gr := by omega
  subst ei
  have hp' : h.get p = some (.row 4 [[.int .i64 i, .int .i64 sz, .int .i64 ino, .int .i64 jr]] false) := hp
  have c1 : decide ((i : Int) < (i : Int)) = false := decide_eq_false (by omega)
  iterate 6 (first | apply Goes.seq | apply Goes.exit | apply Goes.loop | ((first | apply Goes.condV | apply Goes.ops2 fits Hh E0_sound); · simp (decide := true) only [go_sem, putTH_some, H.get_put, H.get_new, loadIn, storeIn, reduceIte, Nat.reduceAdd, Nat.reduceMul, evalC, evalO_tmp, asC, evalT_set, dec_true, dec_false, h1, h7, hp', c1, fGeo0, geo0, tyInt, sInt, aInt, cW, Nat.zero_add] <;> rfl))
  rcases st with ⟨e, _⟩ | ⟨n, n1, n2, n3, n4⟩
  ·omega
  refine ⟨rfl, rfl, Nat.le_refl _, fun _ _ => rfl, ?_, ?_, ?_, n, n1, n2, ?_, n4⟩
  ·simp (decide := true) only [evalT_set, reduceIte]
  ·simp (decide := true) only [evalT_set, reduceIte]
  ·simp (decide := true) only [evalT_set, reduceIte]
  ·simp (decide := true) only [evalT_set, reduceIte, n3]
 | succ k ih =>
  intro i ts h hi hb hp h1 h7 st
  have hp' : h.get p = some (.row 4 [[.int .i64 gr, .int .i64 sz, .int .i64 ino, .int .i64 jr]] false) := hp
  have c1 : decide ((i : Int) < (gr : Int)) = true := decide_eq_true (by omega)
  have w1 : wrapC .i64 ((i : Int) + 1) = .int .i64 ((i + 1 : Nat) : Int) := by rw [wrap64 (by omega) (by omega)]; congr 1
  have rg : readRow 4 [[C.int .i64 gr, .int .i64 sz, .int .i64 ino, .int .i64 jr]] 0 4 = some [.int .i64 gr, .int .i64 sz, .int .i64 ino, .int .i64 jr] := rfl
  have dk : CallOk K Tryz.prog 33 [.g [.int .i64 gr, .int .i64 sz, .int .i64 ino, .int .i64 jr]] h (.w (.c (.int .i64 (dataN (allL gr sz ino jr) : Nat)))) h := G.data h
  rcases st with ⟨e, h6⟩ | ⟨n, n1, n2, n3, n4⟩
  ·subst e
   have ap := growD0 (h := h) (descE (dataN (allL gr sz ino jr)) ino)
   simp only [descE] at ap
   have q1 : p ≠ h.next := by omega
   have q2 : p ≠ h.next + 1 := by omega
   iterate 8 (first | apply Goes.seq | apply Goes.skip | apply Goes.block | apply Goes.loop | ((first | apply Goes.condV | apply Goes.ops2 fits Hh E0_sound); · simp (decide := true) only [go_sem, putTH_some, H.get_put, H.get_new, loadIn, storeIn, reduceIte, Nat.reduceAdd, Nat.reduceMul, evalC, evalO_tmp, asC, evalT_set, dec_true, dec_false, h1, h6, h7, hp', c1, w1, rg, ap, q1, q2, fGeo0, geo0, fGeo2, geo2, tyInt, sInt, aInt, tyGeo, aGeo, sGeo, cW, gW, Nat.zero_add, elDescs, sfDescs, bldDesc, bsDesc, opBuiltin] <;> rfl))
   (apply Goes.drawn2 fits Hh (E1_sound E0_sound dk) (by kernel_rfl); · simp (decide := true) only [go_sem, H.get_put, H.get_new, loadIn, storeIn, reduceIte, Nat.reduceAdd, Nat.reduceMul, drG, E1_call, h1, h6, h7, hp', c1, w1, rg, ap, q1, q2, fGeo0, geo0, fGeo2, geo2, tyInt, sInt, aInt, tyGeo, aGeo, sGeo, cW, gW, Nat.zero_add, elDescs, sfDescs, bldDesc, bsDesc, opBuiltin] <;> rfl)
   (apply Goes.ops2 fits Hh E0_sound; · simp (decide := true) only [go_sem, putTH_some, H.get_put, H.get_new, loadIn, storeIn, reduceIte, Nat.reduceAdd, Nat.reduceMul, h1, h6, h7, hp', c1, w1, rg, ap, q1, q2, fGeo0, geo0, fGeo2, geo2, tyInt, sInt, aInt, tyGeo, aGeo, sGeo, cW, gW, Nat.zero_add, elDescs, sfDescs, bldDesc, bsDesc, opBuiltin] <;> rfl)
   show Goes K Tryz.prog 159 none (.loop (q16 [1, 1, 1, 1, 1, 0, 1, 2, 2])) _ _ _ _
   rw [← q16_11111012]
   refine (ih 1 _ _ (by omega) ?_ ?_ ?_ ?_ (.inr ⟨h.next + 1, by omega, ?_, ?_, ?_⟩)).mono ?_
   ·simp only [H.next_new, H.next_del]; omega
   ·rw [H.get_new, H.next_new, if_neg (by omega), H.get_new, if_neg (by omega)]; exact hp
   ·simp (decide := true) only [evalT_set, reduceIte, h1]
   ·simp (decide := true) only [evalT_set, reduceIte] <;> rfl
   ·simp only [H.next_new, H.next_del]; omega
   ·simp (decide := true) only [evalT_set, reduceIte] <;> rfl
   ·rw [H.get_new, H.next_new, if_pos rfl]; rfl
   ·rintro x ds' ts' h' ⟨e1, e2, e3, e4, e5, e6, e7, e8⟩
    simp only [H.next_new, H.next_del] at e3
    refine ⟨e1, e2, by omega, fun m hm => ?_, ?_, ?_, ?_, e8⟩
    ·rw [e4 m hm]
     rw [H.get_new, H.next_new, if_neg (by omega), H.get_new, if_neg (by omega)]
    ·rw [e5]; simp (decide := true) only [evalT_set, reduceIte]
    ·rw [e6]; simp (decide := true) only [evalT_set, reduceIte]
    ·rw [e7]; simp (decide := true) only [evalT_set, reduceIte]
  ·have ap := growD (descE (dataN (allL gr sz ino jr)) ino) n4 n2 (by rw [List.length_replicate]; omega)
   simp only [descE, List.length_replicate] at ap
   have q1 : p ≠ h.next := by omega
   have q2 : p ≠ h.next + 1 := by omega
   have q3 : p ≠ n := by omega
   iterate 8 (first | apply Goes.seq | apply Goes.skip | apply Goes.block | apply Goes.loop | ((first | apply Goes.condV | apply Goes.ops2 fits Hh E0_sound); · simp (decide := true) only [go_sem, putTH_some, H.get_put, H.get_new, loadIn, storeIn, reduceIte, Nat.reduceAdd, Nat.reduceMul, evalC, evalO_tmp, asC, evalT_set, dec_true, dec_false, h1, n3, h7, hp', c1, w1, rg, ap, q1, q2, q3, fGeo0, geo0, fGeo2, geo2, tyInt, sInt, aInt, tyGeo, aGeo, sGeo, cW, gW, Nat.zero_add, elDescs, sfDescs, bldDesc, bsDesc, opBuiltin, H.get_del, H.next_del] <;> rfl))
   (apply Goes.drawn2 fits Hh (E1_sound E0_sound dk) (by kernel_rfl); · simp (decide := true) only [go_sem, H.get_put, H.get_new, loadIn, storeIn, reduceIte, Nat.reduceAdd, Nat.reduceMul, drG, E1_call, h1, n3, h7, hp', c1, w1, rg, ap, q1, q2, q3, fGeo0, geo0, fGeo2, geo2, tyInt, sInt, aInt, tyGeo, aGeo, sGeo, cW, gW, Nat.zero_add, elDescs, sfDescs, bldDesc, bsDesc, opBuiltin, H.get_del, H.next_del] <;> rfl)
   (apply Goes.ops2 fits Hh E0_sound; · simp (decide := true) only [go_sem, putTH_some, H.get_put, H.get_new, loadIn, storeIn, reduceIte, Nat.reduceAdd, Nat.reduceMul, h1, n3, h7, hp', c1, w1, rg, ap, q1, q2, q3, fGeo0, geo0, fGeo2, geo2, tyInt, sInt, aInt, tyGeo, aGeo, sGeo, cW, gW, Nat.zero_add, elDescs, sfDescs, bldDesc, bsDesc, opBuiltin, H.get_del, H.next_del] <;> rfl)
   show Goes K Tryz.prog 159 none (.loop (q16 [1, 1, 1, 1, 1, 0, 1, 2, 2])) _ _ _ _
   rw [← q16_11111012]
   refine (ih (i + 1) _ _ (by omega) ?_ ?_ ?_ ?_ (.inr ⟨h.next + 1, by omega, ?_, ?_, ?_⟩)).mono ?_
   ·simp only [H.next_new, H.next_del]; omega
   ·rw [H.get_new, H.next_del, H.next_new, if_neg (by omega), H.get_del, if_neg (by omega), H.get_new, if_neg (by omega)]; exact hp
   ·simp (decide := true) only [evalT_set, reduceIte, h1]
   ·simp (decide := true) only [evalT_set, reduceIte] <;> rfl
   ·simp only [H.next_new, H.next_del]; omega
   ·simp (decide := true) only [evalT_set, reduceIte] <;> rfl
   ·rw [H.get_new, H.next_del, H.next_new, if_pos rfl, List.replicate_succ']; rfl
   ·rintro x ds' ts' h' ⟨e1, e2, e3, e4, e5, e6, e7, e8⟩
    simp only [H.next_new, H.next_del] at e3
    refine ⟨e1, e2, by omega, fun m hm => ?_, ?_, ?_, ?_, e8⟩
    ·rw [e4 m hm]
     rw [H.get_new, H.next_del, H.next_new, if_neg (by omega), H.get_del, if_neg (by omega), H.get_new, if_neg (by omega)]
    ·rw [e5]; simp (decide := true) only [evalT_set, reduceIte]
    ·rw [e6]; simp (decide := true) only [evalT_set, reduceIte]
    ·rw [e7]; simp (decide := true) only [evalT_set, reduceIte]
omit Hh in
theorem elBlocks : elemTI K 48 = some ti81 := by kernel_rfl
omit Hh in
theorem bBlock : ti81.bytes = 256 := rfl
omit Hh in
theorem zBlock : ti81.zero.cells = zeroB := rfl
omit Hh in
theorem msBlocks (h : Go.Ev.H) (S D Hd I : List C) (sz ino : Nat) (L : List (List C)) (hL : L.length ≤ 4000) : opMakeSlice h (some ti81) (some L.length) (some L.length) = some (.w (.c (.slice h.next 0 L.length 256)), h.new (.row 256 (outL S D Hd I sz ino L 0) false)) := by
 have e : List.replicate L.length zeroB = outL S D Hd I sz ino L 0 := by
  refine List.ext_getElem (by simp [outL]) fun t h1 h2 => ?_
  simp [outL]
 have b1 : Nat.ble L.length L.length = true := ble_true (Nat.le_refl _)
 have b2 : Nat.ble (L.length * 256) 1099511627776 = true := ble_true (by omega)
 have b3 : Nat.ble L.length 1099511627776 = true := ble_true (by omega)
 simp only [opMakeSlice, bBlock, b1, b2, b3, Bool.and_self, cond_true, newSlice, zBlock, sBlock, e]
def descsL (dn ino gr : Nat) : List (List C) := [.int .i64 dn, .int .i64 ((ino - 1 : Nat) : Int), .int .i64 1] :: List.replicate (gr - 1) (descE dn ino)
theorem makeOk {gr sz ino jr : Nat} (F : Fine gr sz ino jr) (G : RG gr sz ino jr) (S D Hd I : List C) (Sp : Special Tryz.prog gr sz ino jr (allL gr sz ino jr) (descsL (dataN (allL gr sz ino jr)) ino gr) S D Hd I) (hfl : (outL S D Hd I sz ino (allL gr sz ino jr) (allL gr sz ino jr).length).all (fun l => l.all C.flat) = true) (h : Go.Ev.H) :
  CallOk K Tryz.prog 16 [.g (geoL gr sz ino jr)] h (.tup [.c (.slice h.next 0 (allL gr sz ino jr).length 256), .c (.int .i64 0)]) (h.new (.row 256 (outL S D Hd I sz ino (allL gr sz ino jr) (allL gr sz ino jr).length) false)) := by
 refine CallOk.tidy ⟨_, Tryz.func16, by kernel_rfl, of_decide_eq_true (by kernel_rfl)⟩ fun tidy => ?_
 suffices hs : Goes K Tryz.prog 159 none (q16 []) [] (argTmps 0 [.g (geoL gr sz ino jr)] .nil) h fun x ds ts h1 => ∃ n, h.next ≤ n ∧ n < h1.next ∧ h1.get n = some (.row 256 (outL S D Hd I sz ino (allL gr sz ino jr) (allL gr sz ino jr).length) false) ∧ (∀ n, n < h.next → h1.get n = h.get n) ∧ leave K Tryz.f16 (some (.at x ds ts h1)) = some (.val (.tup [.c (.slice n 0 (allL gr sz ino jr).length 256), .c (.int .i64 0)]) h1) by
  obtain ⟨x, ds, ts, h1, g, n, e1, e2, e3, e4, e5⟩ := hs
  exact (CallOk.body fits Hh (by kernel_rfl) (by kernel_rfl) (by kernel_rfl) (by kernel_rfl) rfl g e5).row e1 e3 rfl hfl e2 e4
 have hlen : (allL gr sz ino jr).length ≤ 4000 := by
  rw [allL, List.length_append, jrL_len, groupsL_len F.fit]
  have := F.all
  omega
 obtain ⟨L, hL⟩ : ∃ L, allL gr sz ino jr = L := ⟨_, rfl⟩
 have hT : Things L := hL ▸ allL_things gr sz ino jr
 have e0 : evalT (argTmps 0 [.g (geoL gr sz ino jr)] .nil) 0 = .w (.g (geoL gr sz ino jr)) := by rw [evalT_args]; rfl
 have lg : (geoL gr sz ino jr).length = 4 := rfl
 have rg : readRow 4 [geoL gr sz ino jr] 0 4 = some (geoL gr sz ino jr) := rfl
 have nslice : absV (.slice none 0 0) = some (.w (.c .snil)) := rfl
 have e1 : Tryz.f16.results.toList = [.tmp 2, .tmp 3] := rfl
 have mk := G.may (h.new (.row 4 [geoL gr sz ino jr] false))
 have ak := G.all (h.new (.row 4 [geoL gr sz ino jr] false))
 rw [hL] at ak Sp hlen ⊢
 have ms := msBlocks ((h.new (.row 4 [geoL gr sz ino jr] false)).new (.row 4 L false)) S D Hd I sz ino L hlen
 iterate 4 (first | apply Goes.seq | (apply Goes.ops2 fits Hh E0_sound; · simp (decide := true) only [go_sem, putTH_some, H.get_put, H.get_new, loadIn, storeIn, reduceIte, Nat.reduceAdd, Nat.reduceMul, e0, lg, rg, nslice, ms, opBox, tyGeo, sGeo, aGeo, gW, opBuiltin, opLen, lfThings, elBlocks] <;> rfl))
 (apply Goes.ops2 fits Hh (E1_sound E0_sound mk); · simp (decide := true) only [go_sem, putTH_some, H.get_put, H.get_new, loadIn, storeIn, reduceIte, Nat.reduceAdd, Nat.reduceMul, E1_call, e0, lg, rg, nslice, ms, opBox, tyGeo, sGeo, aGeo, gW, opBuiltin, opLen, lfThings, elBlocks] <;> rfl)
 iterate 3 (first | apply Goes.seq | apply Goes.skip | (apply Goes.condV; · simp (decide := true) only [go_sem, putTH_some, H.get_put, H.get_new, loadIn, storeIn, reduceIte, Nat.reduceAdd, Nat.reduceMul, evalC, evalO_tmp, asC, evalT_set, dec_true, dec_false, e0, lg, rg, nslice, ms, opBox, tyGeo, sGeo, aGeo, gW, opBuiltin, opLen, lfThings, elBlocks] <;> rfl))
 (apply Goes.ops2 fits Hh (E1_sound E0_sound ak); · simp (decide := true) only [go_sem, putTH_some, H.get_put, H.get_new, loadIn, storeIn, reduceIte, Nat.reduceAdd, Nat.reduceMul, E1_call, e0, lg, rg, nslice, ms, opBox, tyGeo, sGeo, aGeo, gW, opBuiltin, opLen, lfThings, elBlocks] <;> rfl)
 iterate 8 (first | apply Goes.seq | apply Goes.block | (apply Goes.ops2 fits Hh E0_sound; · simp (decide := true) only [go_sem, putTH_some, H.get_put, H.get_new, loadIn, storeIn, reduceIte, Nat.reduceAdd, Nat.reduceMul, e0, lg, rg, nslice, ms, opBox, tyGeo, sGeo, aGeo, gW, opBuiltin, opLen, lfThings, elBlocks] <;> rfl))
 show Goes K Tryz.prog 159 none (q16 [1, 1, 1, 1, 1, 0, 1, 2]) _ _ _ _
 refine (mk0 Hh F G h.next (h.next + 3) (by omega) gr 0 _ _ (by omega) ?_ ?_ ?_ ?_ (.inl ⟨rfl, ?_⟩)).mono ?_
 ·simp only [H.next_new]; omega
 ·simp only [H.get_new, H.next_new]
  rw [if_neg (by omega), if_neg (by omega), if_pos trivial]
 ·simp (decide := true) only [evalT_set, reduceIte]
 ·simp (decide := true) only [evalT_set, reduceIte] <;> rfl
 ·simp (decide := true) only [evalT_set, reduceIte]
 rintro x ds' ts1 h1 ⟨rfl, rfl, up1, kp1, a1, a4, a5, nD, d1, d2, d3, d4⟩
 simp only [H.next_new] at up1
 have f1 : evalT ts1 1 = .w (.c (.ptr h.next 0)) := by rw [a1]; simp (decide := true) only [evalT_set, reduceIte]
 have f4 : evalT ts1 4 = .w (.c (.slice (h.next + 1) 0 L.length 4)) := by rw [a4]; simp (decide := true) only [evalT_set, reduceIte, H.next_new]
 have f5 : evalT ts1 5 = .w (.c (.slice (h.next + 2) 0 L.length 256)) := by rw [a5]; simp (decide := true) only [evalT_set, reduceIte, H.next_new]
 have hp1 : h1.get h.next = some (.row 4 [[.int .i64 gr, .int .i64 sz, .int .i64 ino, .int .i64 jr]] false) := by
  rw [kp1 _ (by omega)]
  simp only [H.get_new, H.next_new]
  rw [if_neg (by omega), if_neg (by omega), if_pos trivial]
  rfl
 have hA1 : h1.get (h.next + 1) = some (.row 4 L false) := by
  rw [kp1 _ (by omega)]
  simp only [H.get_new, H.next_new]
  rw [if_neg (by omega), if_pos trivial]
 have hO1 : h1.get (h.next + 2) = some (.row 256 (outL S D Hd I sz ino L 0) false) := by
  rw [kp1 _ (by omega)]
  simp only [H.get_new, H.next_new]
  rw [if_pos trivial]
 obtain ⟨g1, g2, g3, g4, g5, g6, g7, g8, g9, g10, g11⟩ := id F
 rw [hL] at d4
 obtain ⟨gr', hgr⟩ : ∃ gr', gr = gr' + 1 := ⟨gr - 1, by omega⟩
 have w1 : wrapC .i64 ((ino : Int) - 1) = .int .i64 ((ino - 1 : Nat) : Int) := by rw [wrap64 (by omega) (by omega)]; congr 1; omega
 have n0 : natOf (some (.int .i64 0)) = some 0 := rfl
 have b0 : Nat.blt 0 gr = true := blt_true (by omega)
 have wr1 : writeRow 3 (List.replicate gr (descE (dataN L) ino)) 1 [.int .i64 ((ino - 1 : Nat) : Int)] = some ([.int .i64 (dataN L : Nat), .int .i64 ((ino - 1 : Nat) : Int), .int .i64 0] :: List.replicate (gr - 1) (descE (dataN L) ino)) := by
  rw [hgr, List.replicate_succ, Nat.add_sub_cancel]
  rfl
 have wr2 : writeRow 3 ([.int .i64 (dataN L : Nat), .int .i64 ((ino - 1 : Nat) : Int), .int .i64 0] :: List.replicate (gr - 1) (descE (dataN L) ino)) 2 [.int .i64 1] = some (descsL (dataN L) ino gr) := rfl
 iterate 8 (first | apply Goes.seq | apply Goes.block | (apply Goes.ops2 fits Hh E0_sound; · simp (decide := true) only [go_sem, putTH_some, H.get_put, H.get_new, loadIn, storeIn, reduceIte, Nat.reduceAdd, Nat.reduceMul, f1, d3, hp1, d4, w1, n0, b0, wr1, wr2, fGeo2, geo2, tyInt, sInt, aInt, cW, tyDescs, dDescs, tyDesc, sDesc, fDesc1, fDesc2, Nat.zero_add, Nat.zero_mul, Nat.beq_refl] <;> rfl))
 show Goes K Tryz.prog 159 none (q16 [1, 1, 1, 1, 1, 1, 1, 1, 0, 1, 2]) _ _ _ _
 refine (mk2 Hh F h.next (h.next + 1) (h.next + 2) nD (by omega) (by omega) (by omega) L (descsL (dataN L) ino gr) S D Hd I Sp hT hlen L.length 0 _ _ (by omega) ?_ ?_ ?_ ?_ ?_ ?_ ?_ ?_ ?_ ?_).mono ?_
 ·rw [H.get_put, if_neg (by omega), H.get_put, if_neg (by omega)]; exact hp1
 ·rw [H.get_put, if_neg (by omega), H.get_put, if_neg (by omega)]; exact hA1
 ·rw [H.get_put, if_pos rfl]
 ·rw [H.get_put, if_neg (by omega), H.get_put, if_neg (by omega)]; exact hO1
 ·simp (decide := true) only [evalT_set, reduceIte, f1]
 ·simp (decide := true) only [evalT_set, reduceIte, f4]
 ·simp (decide := true) only [evalT_set, reduceIte, f5]
 ·simp (decide := true) only [evalT_set, reduceIte, d3]
 ·simp (decide := true) only [evalT_set, reduceIte] <;> rfl
 ·simp only [H.next_put]; omega
 rintro x ds' ts2 h2 ⟨rfl, rfl, up2, hO2, kp2, k5⟩
 simp only [H.next_put] at up2 kp2
 iterate 3 (first | apply Goes.seq | apply Goes.ret | (apply Goes.ops2 fits Hh E0_sound; · simp (decide := true) only [go_sem, putTH_some, H.get_put, H.get_new, loadIn, storeIn, reduceIte, Nat.reduceAdd, Nat.reduceMul, k5] <;> rfl))
 refine ⟨h.next + 2, by omega, by omega, hO2, fun m hm => ?_, ?_⟩
 ·rw [kp2 m (by omega) (by omega), H.get_put, if_neg (by omega), H.get_put, if_neg (by omega), kp1 m (by omega)]
  simp only [H.get_new, H.next_new]
  rw [if_neg (by omega), if_neg (by omega), if_neg (by omega)]
 ·simp (decide := true) only [leave_ret, takeMarks, finish, e1, resultsOf, evalW, evalO_tmp, asW, evalT_set, reduceIte, resultOf]
end
end Go.Proofs.YtdnkofpkkebefaaGreatDoor
