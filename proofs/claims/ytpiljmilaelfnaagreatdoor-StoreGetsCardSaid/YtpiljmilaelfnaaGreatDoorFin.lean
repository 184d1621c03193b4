/- StoreGets: behind the end. -/
import Derived.Test.YtpiljmilaelfnaaGreatDoorLop
set_option linter.unusedSimpArgs false
set_option linter.unusedVariables false
set_option linter.unusedSectionVars false
set_option maxRecDepth 100000
namespace Go.Proofs.YtpiljmilaelfnaaGreatDoor
open Go.Ev
structure Fin (n n1 n2 a b c e : Nat) (md : Int) (lc lm : Ents) (L : List (List C)) (h : Go.Ev.H) : Prop where
 nx : n + 33 ≤ h.next
 nx1 : n1 < h.next
 n33 : n + 33 ≤ n1
 hs : h.get (n + 13) = some (.row 8 [stL ⟨n + 12, n + 20, n1, n2, .snil, false⟩] false)
 ht : h.get (n + 20) = some (.row 13 [txL (txEnd (txN n))] false)
 hg : h.get (n + 12) = some (.row 9 [gdL (gdN n a b c e md)] false)
 hc : h.get (n + 8) = some (.row 3 [ckL (ckN n)] false)
 hd : h.get (n + 4) = some (.row 6 [dkL (dkN n (2 + e + a * b))] false)
 hq : h.get (n + 3) = some (.row 256 (List.replicate (2 + e + a * b) zB) false)
 hli : h.get (n + 11) = some (.row 8 [[.bool true, .int .i64 (a : Int), .int .i64 (b : Int), .int .i64 (c : Int), .int .i64 (e : Int), .bool false, .int .u32 0, .snil]] false)
 h1 : h.get n1 = some (.map [])
 hch : h.get (n + 15) = some (.map (ents lc))
 hm : h.get (n + 6) = some (.map (ents lm))
 hmr : h.get (n + 32) = some (.row 256 L false)
section
variable {n n1 n2 a b c e : Nat} {md : Int} {lc lm : Ents} {L : List (List C)} {h : Go.Ev.H}
theorem Fin.high (M : Fin n n1 n2 a b c e md lc lm L h) (o o' : O) : Fin n n1 n2 a b c e md lc lm L ((h.new o).put h.next o') := by
 obtain ⟨x1, x2, x3, t2, t3, t4, t5, t6, t7, t8, t9, t10, t11, t12⟩ := M
 have mk : ∀ m x, m < h.next → h.get m = some x → ((h.new o).put h.next o').get m = some x := fun m x hm hx => by
  rw [get_put_ne (by omega), get_new_ne (by omega)]
  exact hx
 exact ⟨by rw [H.next_put, H.next_new]; omega, by rw [H.next_put, H.next_new]; omega, x3, mk _ _ (by omega) t2, mk _ _ (by omega) t3, mk _ _ (by omega) t4, mk _ _ (by omega) t5, mk _ _ (by omega) t6, mk _ _ (by omega) t7, mk _ _ (by omega) t8, mk _ _ (by omega) t9, mk _ _ (by omega) t10, mk _ _ (by omega) t11, mk _ _ (by omega) t12⟩
theorem Fin.cache (M : Fin n n1 n2 a b c e md lc lm L h) (lm' : Ents) : Fin n n1 n2 a b c e md lc lm' L (h.put (n + 6) (.map (ents lm'))) := by
 obtain ⟨x1, x2, x3, t2, t3, t4, t5, t6, t7, t8, t9, t10, t11, t12⟩ := M
 refine ⟨x1, x2, x3, ?_, ?_, ?_, ?_, ?_, ?_, ?_, ?_, ?_, get_put_self _ _ _, ?_⟩
 all_goals (rw [get_put_ne (by omega)]; assumption)
theorem Fin.get1 (M : Fin n n1 n2 a b c e md lc lm L h) (fb : fineB a b c e = true) {z : Int} (hz : oursB a b c e z = true) (z1 : z < 9223372036854775808) {x : List C} (hl : lookE z lc = some x) (xl : x.length = 256) (xf : x.all C.flat = true) : xSGet [.c (.ptr (n + 13) 0), .c (.int .i64 z)] h = some (.tup [.g x, .c (.int .i64 0)], h) := by
 obtain ⟨x1, x2, x3, t2, t3, t4, t5, t6, t7, t8, t9, t10, t11, t12⟩ := M
 have l0 : lookE z [] = none := rfl
 unfold xSGet xSSeen
 simp (maxSteps := 999999) +decide (discharger := first | omega | (simp only [lens] <;> omega) | decide) only [go_sem, readRow, loadIn, simprocAttr, t2, t3, txN, txEnd, t4, gdL, gdN, t9, t10, fb, hz, l0, hl, xl, xf] <;> rfl
theorem Fin.get2 (M : Fin n n1 n2 a b c e md lc lm L h) (fb : fineB a b c e = true) {z : Int} (hz : oursB a b c e z = true) (z0 : 0 ≤ z) (z1 : z < ((2 + e + a * b : Nat) : Int)) (nb : 2 + e + a * b ≤ 2048) {y : List C} (hc : lookE z lc = none) (hl : lookE z lm = some y) (yl : y.length = 257) (yf : y.all C.flat = true) : xSGet [.c (.ptr (n + 13) 0), .c (.int .i64 z)] h = some (.tup [.g (y.take 256), .c (.int .i64 0)], h) := by
 obtain ⟨x1, x2, x3, t2, t3, t4, t5, t6, t7, t8, t9, t10, t11, t12⟩ := M
 have l0 : lookE z [] = none := rfl
 unfold xSGet xSSeen xCRead
 simp (maxSteps := 999999) +decide (discharger := first | omega | (simp only [lens] <;> omega) | decide) only [go_sem, readRow, loadIn, simprocAttr, t2, t3, txN, txEnd, t4, gdL, gdN, t5, ckN, t6, dkN, t8, t9, t10, t11, fb, hz, l0, hc, hl, yl, yf] <;> rfl
theorem Fin.get3 (M : Fin n n1 n2 a b c e md lc lm L h) (fb : fineB a b c e = true) {z : Int} (hz : oursB a b c e z = true) (z0 : 0 ≤ z) (z1 : z < ((2 + e + a * b : Nat) : Int)) (nb : 2 + e + a * b ≤ 2048) (hc : lookE z lc = none) (hl : lookE z lm = none) (fm : flatE lm = true) : xSGet [.c (.ptr (n + 13) 0), .c (.int .i64 z)] h = some (.tup [.g zB, .c (.int .i64 0)], h.put (n + 6) (.map (ents (updE z (zB ++ [.bool false]) lm)))) := by
 obtain ⟨x1, x2, x3, t2, t3, t4, t5, t6, t7, t8, t9, t10, t11, t12⟩ := M
 have l0 : lookE z [] = none := rfl
 obtain ⟨k, rfl⟩ := Int.eq_ofNat_of_zero_le z0
 have rz : (List.replicate (2 + e + a * b) zB)[k]? = some zB := by rw [List.getElem?_replicate, if_pos (by omega)]
 have zl : zB.length = 256 := by kernel_rfl
 have zf := zB_flat
 unfold xSGet xSSeen xCRead
 simp (maxSteps := 999999) +decide (discharger := first | omega | (simp only [lens] <;> omega) | decide) only [go_sem, readRow, loadIn, simprocAttr, t2, t3, txN, txEnd, t4, gdL, gdN, t5, ckN, t6, dkN, t7, t8, t9, t10, t11, fb, hz, l0, hc, hl, fm, rz, zl, zf] <;> rfl
theorem Fin.getNot (M : Fin n n1 n2 a b c e md lc lm L h) (fb : fineB a b c e = true) {z : Int} (hz : oursB a b c e z = false) (z1 : z < 9223372036854775808) : xSGet [.c (.ptr (n + 13) 0), .c (.int .i64 z)] h = some (.tup [.g zB, .c (.int .i64 2)], h) := by
 obtain ⟨x1, x2, x3, t2, t3, t4, t5, t6, t7, t8, t9, t10, t11, t12⟩ := M
 unfold xSGet
 simp (maxSteps := 999999) +decide (discharger := first | omega | (simp only [lens] <;> omega) | decide) only [go_sem, readRow, loadIn, simprocAttr, t2, t4, gdL, gdN, fb, hz] <;> rfl
end
section
variable (Hh : Hearts K Tryz.prog)
include Hh
theorem getDone {n n1 n2 a b c e : Nat} {md : Int} {lc lm : Ents} {L : List (List C)} {h : Go.Ev.H} (F : Fine a b c e) (M : Fin n n1 n2 a b c e md lc lm L h) (D : Done (a * b) e lc lm L) {z : Int} (hz : oursB a b c e z = true) : ∃ x lm' h', CallOk K Tryz.prog 10 [.c (.ptr (n + 13) 0), .c (.int .i64 z)] h (.tup [.g x, .c (.int .i64 0)]) h' ∧ x.length = 256 ∧ Fin n n1 n2 a b c e md lc lm' L h' ∧ Done (a * b) e lc lm' L ∧ h'.next = h.next ∧ (∀ j, j < a * b → z = zN e j → L[j]? = some x) := by
 have F' := F
 obtain ⟨g1, g2, g3, g4, g5, g6, g7, g8, g9, g10, g11⟩ := F'
 have zz : 0 ≤ z ∧ z < ((2 + e + a * b : Nat) : Int) := by
  rw [ours_iff F] at hz
  simp only [Bool.or_eq_true, Bool.and_eq_true, decide_eq_true_eq] at hz
  omega
 have fb := fine_fineB F
 cases e1 : lookE z lc with
 | some x =>
  obtain ⟨xl, xf⟩ := D.ck z x e1
  refine ⟨x, lm, h, xSGet_ok Hh (M.get1 fb hz (by omega) e1 xl xf), xl, M, D, rfl, fun j hj e2 => ?_⟩
  obtain ⟨y, hy, _, q⟩ := D.el j hj
  subst e2
  rcases q with q | ⟨q, _⟩
  ·rw [e1] at q; cases q; exact hy
  ·rw [e1] at q; cases q
 | none =>
  cases e2 : lookE z lm with
  | some y =>
   obtain ⟨yl, yf⟩ := D.cm z y e2
   refine ⟨y.take 256, lm, h, xSGet_ok Hh (M.get2 fb hz zz.1 zz.2 g11 e1 e2 yl yf), by rw [List.length_take]; omega, M, D, rfl, fun j hj e3 => ?_⟩
   obtain ⟨x, hx, bx, q⟩ := D.el j hj
   subst e3
   rcases q with q | ⟨_, ⟨d, q⟩ | ⟨q, _⟩⟩
   ·rw [e1] at q; cases q
   ·rw [e2] at q
    cases q
    rw [List.take_left' bx.1]
    exact hx
   ·rw [e2] at q; cases q
  | none =>
   refine ⟨zB, _, _, xSGet_ok Hh (M.get3 fb hz zz.1 zz.2 g11 e1 e2 D.fm), by kernel_rfl, M.cache _, D.read e2, rfl, fun j hj e3 => ?_⟩
   obtain ⟨x, hx, bx, q⟩ := D.el j hj
   subst e3
   rcases q with q | ⟨_, ⟨d, q⟩ | ⟨_, rfl⟩⟩
   ·rw [e1] at q; cases q
   ·rw [e2] at q; cases q
   ·exact hx
set_option maxHeartbeats 4000000 in
theorem lop2 {n n1 n2 a b c e : Nat} {md other : Int} {lc : Ents} {L : List (List C)} (F : Fine a b c e) (Ll : L.length = a * b) : ∀ (k j : Nat) (lm : Ents) (ts : Tmps) (h : Go.Ev.H), j + k = a * b → Fin n n1 n2 a b c e md lc lm L h → Done (a * b) e lc lm L → Slots n (a * b) e other ts → evalT ts 19 = .w (.c (.int .i64 (j : Nat))) →
  Goes K Tryz.prog 188 none (q3 [1,1,1,1,1,1,1,1,1,0,1,2]) [] ts h fun x ds' ts' h' => x = .exit 2 ∧ ds' = [] ∧ Slots n (a * b) e other ts' ∧ ∃ lm, Fin n n1 n2 a b c e md lc lm L h' ∧ Done (a * b) e lc lm L := by
 have F' := F
 obtain ⟨g1, g2, g3, g4, g5, g6, g7, g8, g9, g10, g11⟩ := F'
 intro k
 induction k with
 | zero =>
  intro j lm ts h hj M D S s19
  obtain ⟨s3, s9, s11, s12, s13⟩ := S
  have jl : a * b ≤ j := by omega
  refine Goes.loopQ q3_111111111012 (Goes.loop ?_)
  refine Goes.seqQ q3_1111111110122 ?_
  refine Goes.seqQ q3_11111111101220 ?_
  refine Goes.opsQ q3_111111111012200 fits Hh E0_sound (by
   simp (maxSteps := 999999) +decide (discharger := first | omega | (simp only [lens] <;> omega) | decide) only [go_sem, q3, Tryz.f3, readRow, loadIn, simprocAttr, s12, s19]
   rfl) ?_
  refine Goes.condFQ q3_111111111012201 (by simp (maxSteps := 999999) +decide (discharger := first | omega | (simp only [lens] <;> omega) | decide) only [go_sem, readRow, loadIn, simprocAttr, s12, s19] <;> rfl) (by first | rfl | assumption | exact decide_eq_false (by omega) | (simp; omega)) ?_
  refine Goes.exitQ q3_1111111110122014 ?_
  refine ⟨rfl, rfl, ⟨?_, ?_, ?_, ?_, ?_⟩, _, M, D⟩
  ·simp (decide := true) only [evalT_set, reduceIte, s3]
  ·simp (decide := true) only [evalT_set, reduceIte, s9]
  ·simp (decide := true) only [evalT_set, reduceIte, s11]
  ·simp (decide := true) only [evalT_set, reduceIte, s12]
  ·simp (decide := true) only [evalT_set, reduceIte, s13]
 | succ k ih =>
  intro j lm ts h hj M D S s19
  obtain ⟨s3, s9, s11, s12, s13⟩ := S
  have jl : j < a * b := by omega
  have ez : ((2 + e : Nat) : Int) + (j : Int) = zN e j := by unfold zN; omega
  have wz : wrapC .i64 (zN e j) = .int .i64 (zN e j) := wrapI64 (by unfold zN; omega)
  have e1 : ((j : Int) + 1) = ((j + 1 : Nat) : Int) := rfl
  obtain ⟨x, lm', h', cG, xl, M', D', nx, q⟩ := getDone Hh F M D (ours_in F jl)
  have hx := q j jl rfl
  have bx : BlkOk x := by
   obtain ⟨y, hy, by', _⟩ := D.el j jl
   rw [hx] at hy
   cases hy
   exact by'
  have rd : readRow 256 L (j * 256) 256 = some x := readRow_el (by omega) hx bx.1
  have fq := bx.2.2
  have hmr := M'.hmr
  have nx2 := M'.nx
  have jL : j < L.length := by omega
  refine Goes.loopQ q3_111111111012 (Goes.loop ?_)
  refine Goes.seqQ q3_1111111110122 ?_
  refine Goes.seqQ q3_11111111101220 ?_
  refine Goes.opsQ q3_111111111012200 fits Hh E0_sound (by
   simp (maxSteps := 999999) +decide (discharger := first | omega | (simp only [lens] <;> omega) | decide) only [go_sem, q3, Tryz.f3, loadIn, simprocAttr, s3, s9, s11, s12, s13, s19, ez, wz, hmr, Ll, rd, xl, fq, e1, opBuiltin, opLen]
   rfl) ?_
  refine Goes.condTQ q3_111111111012201 (by simp (maxSteps := 999999) +decide (discharger := first | omega | (simp only [lens] <;> omega) | decide) only [go_sem, loadIn, simprocAttr, s3, s9, s11, s12, s13, s19, ez, wz, hmr, Ll, rd, xl, fq, e1, opBuiltin, opLen] <;> rfl) (by first | rfl | assumption | exact decide_eq_true (by omega) | (simp; omega)) ?_
  refine Goes.skipQ q3_1111111110122013 ?_
  refine Goes.seqQ q3_11111111101221 ?_
  refine Goes.blockQ q3_111111111012210 (Goes.block ?_)
  refine Goes.seqQ q3_1111111110122102 ?_
  refine Goes.opsQ q3_11111111101221020 fits Hh (E1_sound E0_sound cG) (by
   simp (maxSteps := 999999) +decide (discharger := first | omega | (simp only [lens] <;> omega) | decide) only [go_sem, q3, Tryz.f3, loadIn, simprocAttr, E1_call, s3, s9, s11, s12, s13, s19, ez, wz, hmr, Ll, rd, xl, fq, e1, opBuiltin, opLen]
   rfl) ?_
  refine Goes.seqQ q3_11111111101221021 ?_
  refine Goes.drawnQ q3_111111111012210210 fits Hh E0_sound (by kernel_rfl) (by
   simp (maxSteps := 999999) +decide (discharger := first | omega | (simp only [lens] <;> omega) | decide) only [go_sem, q3, Tryz.f3, loadIn, simprocAttr, op_move, op_assign, op_binOp, op_unOp, op_convert, op_load, op_store, op_indexAddr, op_alloc, op_pick, op_box, op_build, op_buildSlice, op_nilCheck, op_makeSlice, op_fieldAddr, op_field, op_extract, op_lookup, op_mapUpdate, op_builtin, op_index, drEnd, drAll, drOne, drTs, drKd, drPure, drRead, drAlloc, drEff, drSkip, drPut, putT_ok, putT_none, cutT, looks, tmpOf, Op.operands, Call.operands, kd, kdCall, List.filterMap_cons, List.filterMap_nil, List.append_nil, List.nil_append, List.cons_append, stables, stable, reachAt, reachP, waitsAt, waits, gives_self, List.all_cons, List.all_nil, List.any_cons, List.any_nil, Region.binds, Bool.or_true, Bool.true_or, Bool.and_true, Bool.true_and, Bool.or_false, Bool.false_or, Bool.and_self, Bool.or_self, ble_true, Nat.le_refl, Nat.le_add_right, List.map_cons, Array.toList_append, s3, s9, s11, s12, s13, s19, ez, wz, hmr, Ll, rd, xl, fq, e1, opBuiltin, opLen]
   rfl) ?_
  refine Goes.condFQ q3_111111111012210211 (by simp (maxSteps := 999999) +decide (discharger := first | omega | (simp only [lens] <;> omega) | decide) only [go_sem, loadIn, simprocAttr, s3, s9, s11, s12, s13, s19, ez, wz, hmr, Ll, rd, xl, fq, e1, opBuiltin, opLen] <;> rfl) (by first | rfl | assumption | exact decide_eq_false (by omega) | (simp; omega)) ?_
  refine Goes.skipQ q3_1111111110122102114 ?_
  refine Goes.opsQ q3_111111111012211 fits Hh E0_sound (by
   simp (maxSteps := 999999) +decide (discharger := first | omega | (simp only [lens] <;> omega) | decide) only [go_sem, q3, Tryz.f3, loadIn, simprocAttr, s3, s9, s11, s12, s13, s19, ez, wz, hmr, Ll, rd, xl, fq, e1, opBuiltin, opLen]
   rfl) ?_
  show Goes K Tryz.prog 188 none (.loop (q3 [1,1,1,1,1,1,1,1,1,0,1,2,2])) _ _ _ _
  rw [← q3_111111111012]
  refine ih (j + 1) _ _ _ (by omega) (M'.high _ _) D' ⟨?_, ?_, ?_, ?_, ?_⟩ ?_
  ·simp (decide := true) only [evalT_set, reduceIte, s3]
  ·simp (decide := true) only [evalT_set, reduceIte, s9]
  ·simp (decide := true) only [evalT_set, reduceIte, s11]
  ·simp (decide := true) only [evalT_set, reduceIte, s12]
  ·simp (decide := true) only [evalT_set, reduceIte, s13]
  ·simp (decide := true) only [evalT_set, reduceIte]
end
end Go.Proofs.YtpiljmilaelfnaaGreatDoor
