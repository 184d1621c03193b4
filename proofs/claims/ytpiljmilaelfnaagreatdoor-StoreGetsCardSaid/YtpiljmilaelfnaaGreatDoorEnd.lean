/- End of a store's handle: the loop over what was put as data. -/
import Derived.Test.YtpiljmilaelfnaaGreatDoorBeg2
import Derived.Test.YtpiljmilaelfnaaGreatDoorSto2
import Derived.Test.YtpiljmilaelfnaaGreatDoorEvC
set_option linter.unusedSimpArgs false
set_option linter.unusedVariables false
set_option linter.unusedSectionVars false
set_option maxRecDepth 100000
namespace Go.Proofs.YtpiljmilaelfnaaGreatDoor
open Go.Ev
noncomputable def q11 (p : List Nat) : Code := piece p (bodyOf Tryz.f11)
theorem q11_ : q11 [] = .seq (q11 [0]) (q11 [1]) := by kernel_rfl
theorem q11_0 : q11 [0] = .region 0 (opsA (q11 [0])) false := by kernel_rfl
theorem q11_1 : q11 [1] = .seq (q11 [1,0]) (q11 [1,1]) := by kernel_rfl
theorem q11_10 : q11 [1,0] = .seq (q11 [1,0,0]) (q11 [1,0,1]) := by kernel_rfl
theorem q11_100 : q11 [1,0,0] = .region 1 (opsA (q11 [1,0,0])) false := by kernel_rfl
theorem q11_101 : q11 [1,0,1] = .seq (q11 [1,0,1,0]) (q11 [1,0,1,1]) := by kernel_rfl
theorem q11_1010 : q11 [1,0,1,0] = .region 2 (opsA (q11 [1,0,1,0])) false := by kernel_rfl
theorem q11_1011 : q11 [1,0,1,1] = .cond (.tmp 14) (q11 [1,0,1,1,3]) (q11 [1,0,1,1,4]) := by kernel_rfl
theorem q11_10114 : q11 [1,0,1,1,4] = .skip := by kernel_rfl
theorem q11_11 : q11 [1,1] = .seq (q11 [1,1,0]) (q11 [1,1,1]) := by kernel_rfl
theorem q11_110 : q11 [1,1,0] = .seq (q11 [1,1,0,0]) (q11 [1,1,0,1]) := by kernel_rfl
theorem q11_1100 : q11 [1,1,0,0] = .region 4 (opsA (q11 [1,1,0,0])) false := by kernel_rfl
theorem q11_1101 : q11 [1,1,0,1] = .block 0 (q11 [1,1,0,1,2]) := by kernel_rfl
theorem q11_11012 : q11 [1,1,0,1,2] = .loop (q11 [1,1,0,1,2,2]) := by kernel_rfl
theorem q11_110122 : q11 [1,1,0,1,2,2] = .seq (q11 [1,1,0,1,2,2,0]) (q11 [1,1,0,1,2,2,1]) := by kernel_rfl
theorem q11_1101220 : q11 [1,1,0,1,2,2,0] = .region 5 (opsA (q11 [1,1,0,1,2,2,0])) false := by kernel_rfl
theorem q11_1101221 : q11 [1,1,0,1,2,2,1] = .seq (q11 [1,1,0,1,2,2,1,0]) (q11 [1,1,0,1,2,2,1,1]) := by kernel_rfl
theorem q11_11012210 : q11 [1,1,0,1,2,2,1,0] = .cond (.tmp 24) (q11 [1,1,0,1,2,2,1,0,3]) (q11 [1,1,0,1,2,2,1,0,4]) := by kernel_rfl
theorem q11_110122104 : q11 [1,1,0,1,2,2,1,0,4] = .exit 0 := by kernel_rfl
theorem q11_111 : q11 [1,1,1] = .seq (q11 [1,1,1,0]) (q11 [1,1,1,1]) := by kernel_rfl
theorem q11_1110 : q11 [1,1,1,0] = .seq (q11 [1,1,1,0,0]) (q11 [1,1,1,0,1]) := by kernel_rfl
theorem q11_11100 : q11 [1,1,1,0,0] = .region 12 (opsA (q11 [1,1,1,0,0])) false := by kernel_rfl
theorem q11_11101 : q11 [1,1,1,0,1] = .block 2 (q11 [1,1,1,0,1,2]) := by kernel_rfl
theorem q11_111012 : q11 [1,1,1,0,1,2] = .loop (q11 [1,1,1,0,1,2,2]) := by kernel_rfl
theorem q11_1110122 : q11 [1,1,1,0,1,2,2] = .seq (q11 [1,1,1,0,1,2,2,0]) (q11 [1,1,1,0,1,2,2,1]) := by kernel_rfl
theorem q11_11101220 : q11 [1,1,1,0,1,2,2,0] = .region 13 (opsA (q11 [1,1,1,0,1,2,2,0])) false := by kernel_rfl
theorem q11_11101221 : q11 [1,1,1,0,1,2,2,1] = .seq (q11 [1,1,1,0,1,2,2,1,0]) (q11 [1,1,1,0,1,2,2,1,1]) := by kernel_rfl
theorem q11_111012210 : q11 [1,1,1,0,1,2,2,1,0] = .cond (.tmp 66) (q11 [1,1,1,0,1,2,2,1,0,3]) (q11 [1,1,1,0,1,2,2,1,0,4]) := by kernel_rfl
theorem q11_1110122103 : q11 [1,1,1,0,1,2,2,1,0,3] = .skip := by kernel_rfl
theorem q11_1110122104 : q11 [1,1,1,0,1,2,2,1,0,4] = .exit 2 := by kernel_rfl
theorem q11_111012211 : q11 [1,1,1,0,1,2,2,1,1] = .seq (q11 [1,1,1,0,1,2,2,1,1,0]) (q11 [1,1,1,0,1,2,2,1,1,1]) := by kernel_rfl
theorem q11_1110122110 : q11 [1,1,1,0,1,2,2,1,1,0] = .block 3 (q11 [1,1,1,0,1,2,2,1,1,0,2]) := by kernel_rfl
theorem q11_11101221102 : q11 [1,1,1,0,1,2,2,1,1,0,2] = .seq (q11 [1,1,1,0,1,2,2,1,1,0,2,0]) (q11 [1,1,1,0,1,2,2,1,1,0,2,1]) := by kernel_rfl
theorem q11_111012211020 : q11 [1,1,1,0,1,2,2,1,1,0,2,0] = .region 14 (opsA (q11 [1,1,1,0,1,2,2,1,1,0,2,0])) false := by kernel_rfl
theorem q11_111012211021 : q11 [1,1,1,0,1,2,2,1,1,0,2,1] = .seq (q11 [1,1,1,0,1,2,2,1,1,0,2,1,0]) (q11 [1,1,1,0,1,2,2,1,1,0,2,1,1]) := by kernel_rfl
theorem q11_1110122110210 : q11 [1,1,1,0,1,2,2,1,1,0,2,1,0] = .seq (q11 [1,1,1,0,1,2,2,1,1,0,2,1,0,0]) (q11 [1,1,1,0,1,2,2,1,1,0,2,1,0,1]) := by kernel_rfl
theorem q11_11101221102100 : q11 [1,1,1,0,1,2,2,1,1,0,2,1,0,0] = .region 15 (opsA (q11 [1,1,1,0,1,2,2,1,1,0,2,1,0,0])) true := by kernel_rfl
theorem q11_11101221102101 : q11 [1,1,1,0,1,2,2,1,1,0,2,1,0,1] = .seq (q11 [1,1,1,0,1,2,2,1,1,0,2,1,0,1,0]) (q11 [1,1,1,0,1,2,2,1,1,0,2,1,0,1,1]) := by kernel_rfl
theorem q11_111012211021010 : q11 [1,1,1,0,1,2,2,1,1,0,2,1,0,1,0] = .region 16 (opsA (q11 [1,1,1,0,1,2,2,1,1,0,2,1,0,1,0])) false := by kernel_rfl
theorem q11_111012211021011 : q11 [1,1,1,0,1,2,2,1,1,0,2,1,0,1,1] = .cond (.tmp 86) (q11 [1,1,1,0,1,2,2,1,1,0,2,1,0,1,1,3]) (q11 [1,1,1,0,1,2,2,1,1,0,2,1,0,1,1,4]) := by kernel_rfl
theorem q11_1110122110210114 : q11 [1,1,1,0,1,2,2,1,1,0,2,1,0,1,1,4] = .skip := by kernel_rfl
theorem q11_1110122110211 : q11 [1,1,1,0,1,2,2,1,1,0,2,1,1] = .seq (q11 [1,1,1,0,1,2,2,1,1,0,2,1,1,0]) (q11 [1,1,1,0,1,2,2,1,1,0,2,1,1,1]) := by kernel_rfl
theorem q11_11101221102110 : q11 [1,1,1,0,1,2,2,1,1,0,2,1,1,0] = .region 18 (opsA (q11 [1,1,1,0,1,2,2,1,1,0,2,1,1,0])) false := by kernel_rfl
theorem q11_11101221102111 : q11 [1,1,1,0,1,2,2,1,1,0,2,1,1,1] = .cond (.tmp 97) (q11 [1,1,1,0,1,2,2,1,1,0,2,1,1,1,3]) (q11 [1,1,1,0,1,2,2,1,1,0,2,1,1,1,4]) := by kernel_rfl
theorem q11_111012211021113 : q11 [1,1,1,0,1,2,2,1,1,0,2,1,1,1,3] = .seq (q11 [1,1,1,0,1,2,2,1,1,0,2,1,1,1,3,0]) (q11 [1,1,1,0,1,2,2,1,1,0,2,1,1,1,3,1]) := by kernel_rfl
theorem q11_1110122110211130 : q11 [1,1,1,0,1,2,2,1,1,0,2,1,1,1,3,0] = .region 19 (opsA (q11 [1,1,1,0,1,2,2,1,1,0,2,1,1,1,3,0])) false := by kernel_rfl
theorem q11_1110122110211131 : q11 [1,1,1,0,1,2,2,1,1,0,2,1,1,1,3,1] = .seq (q11 [1,1,1,0,1,2,2,1,1,0,2,1,1,1,3,1,0]) (q11 [1,1,1,0,1,2,2,1,1,0,2,1,1,1,3,1,1]) := by kernel_rfl
theorem q11_11101221102111310 : q11 [1,1,1,0,1,2,2,1,1,0,2,1,1,1,3,1,0] = .region 20 (opsA (q11 [1,1,1,0,1,2,2,1,1,0,2,1,1,1,3,1,0])) false := by kernel_rfl
theorem q11_11101221102111311 : q11 [1,1,1,0,1,2,2,1,1,0,2,1,1,1,3,1,1] = .cond (.tmp 105) (q11 [1,1,1,0,1,2,2,1,1,0,2,1,1,1,3,1,1,3]) (q11 [1,1,1,0,1,2,2,1,1,0,2,1,1,1,3,1,1,4]) := by kernel_rfl
theorem q11_111012211021113114 : q11 [1,1,1,0,1,2,2,1,1,0,2,1,1,1,3,1,1,4] = .skip := by kernel_rfl
theorem q11_111012211021114 : q11 [1,1,1,0,1,2,2,1,1,0,2,1,1,1,4] = .skip := by kernel_rfl
theorem q11_1110122111 : q11 [1,1,1,0,1,2,2,1,1,1] = .region 22 (opsA (q11 [1,1,1,0,1,2,2,1,1,1])) false := by kernel_rfl
theorem q11_1111 : q11 [1,1,1,1] = .seq (q11 [1,1,1,1,0]) (q11 [1,1,1,1,1]) := by kernel_rfl
theorem q11_11110 : q11 [1,1,1,1,0] = .region 23 (opsA (q11 [1,1,1,1,0])) false := by kernel_rfl
theorem q11_11111 : q11 [1,1,1,1,1] = .seq (q11 [1,1,1,1,1,0]) (q11 [1,1,1,1,1,1]) := by kernel_rfl
theorem q11_111110 : q11 [1,1,1,1,1,0] = .region 24 (opsA (q11 [1,1,1,1,1,0])) false := by kernel_rfl
theorem q11_111111 : q11 [1,1,1,1,1,1] = .ret := by kernel_rfl
theorem rs11 : Tryz.f11.results.toList = [.tmp 2] := rfl
attribute [go_sem] rs11
structure EndF (s : Nat) (S : Stt) (X : Tx) (G : Gd) (Y : Ck) (D : Dk) (ld : Ents) (n : Nat) (ks : List Int) (h : Go.Ev.H) : Prop where
 hs : h.get s = some (.row 8 [stL S] false)
 ht : h.get S.tx = some (.row 13 [txL X] false)
 hg : h.get S.gd = some (.row 9 [gdL G] false)
 hc : h.get G.ca = some (.row 3 [ckL Y] false)
 hd : h.get Y.d = some (.row 6 [dkL D] false)
 hl : h.get S.dt = some (.map (ents ld))
 hn : h.get n = some (.row 1 (ks.map fun i => [.int .i64 i]) false)
theorem row_ne {h : Go.Ev.H} {a m sz : Nat} {L : List (List C)} {ro : Bool} {es : List (W × W)} (ha : h.get a = some (.row sz L ro)) (hm : h.get m = some (.map es)) : a ≠ m := fun e => by
 rw [e, hm] at ha
 cases ha
theorem EndF.put {s n m : Nat} {S : Stt} {X : Tx} {G : Gd} {Y : Ck} {D : Dk} {ld : Ents} {ks : List Int} {h : Go.Ev.H} {es es' : List (W × W)} (E : EndF s S X G Y D ld n ks h) (hm : h.get m = some (.map es)) (hd : S.dt ≠ m) : EndF s S X G Y D ld n ks (h.put m (.map es')) :=
 ⟨by rw [get_put_ne (row_ne E.hs hm)]; exact E.hs, by rw [get_put_ne (row_ne E.ht hm)]; exact E.ht, by rw [get_put_ne (row_ne E.hg hm)]; exact E.hg, by rw [get_put_ne (row_ne E.hc hm)]; exact E.hc, by rw [get_put_ne (row_ne E.hd hm)]; exact E.hd, by rw [get_put_ne hd]; exact E.hl, by rw [get_put_ne (row_ne E.hn hm)]; exact E.hn⟩
theorem lfInts (n o l : Nat) : lenFits K 53 (.c (.slice n o l 1)) = true := by kernel_rfl
theorem part257 {y : List C} (h : y.length = 257) : partOf ti38 y 1 = some (.g (y.drop 1)) := by
 unfold partOf
 rw [show ti38.agg = true from rfl, show ti38.size = 256 from rfl, cond_true, ble_t (by omega), cond_true, List.take_of_length_le (by rw [List.length_drop]; omega)]
section
variable (Hh : Hearts K Tryz.prog)
include Hh
set_option maxHeartbeats 4000000 in
theorem end0 {s n : Nat} {S : Stt} {X : Tx} {G : Gd} {Y : Ck} {D : Dk} {ld : Ents} {ks : List Int} (n0 : 0 < D.n) (n1 : D.n ≤ 2048) (fb : fineB G.gr G.sz G.ino G.jr = true) (bo : X.op = true) (d1 : S.dt ≠ Y.m) (d2 : S.dt ≠ X.od) (d3 : Y.m ≠ X.od)
  (hks : ∀ k ∈ ks, ∃ y, lookE k ld = some y ∧ y.length = 257 ∧ y.all C.flat = true ∧ 0 ≤ k ∧ k < (D.n : Int)) (kl : ks.length ≤ 1000000) : ∀ (rest : List Int) (i : Nat) (lm lo : Ents) (ts : Tmps) (h : Go.Ev.H), ks.drop i = rest → EndF s S X G Y D ld n ks h → h.get Y.m = some (.map (ents lm)) → flatE lm = true → h.get X.od = some (.map (ents lo)) →
  evalT ts 0 = .w (.c (.ptr s 0)) → evalT ts 63 = .w (.c (.slice n 0 ks.length 1)) → evalT ts 64 = .w (.c (.int .i64 (ks.length : Nat))) → evalT ts 65 = .w (.c (.int .i64 (i : Nat))) →
  Goes K Tryz.prog 115 none (q11 [1,1,1,0,1,2]) [] ts h fun x ds' ts' h' => x = .exit 2 ∧ ds' = [] ∧ evalT ts' 0 = .w (.c (.ptr s 0)) ∧ h'.next = h.next ∧ EndF s S X G Y D ld n ks h' ∧ h'.get Y.m = some (.map (ents (wrE ld rest lm))) ∧ (∃ lo', h'.get X.od = some (.map (ents lo'))) ∧ ∀ m, m ≠ Y.m → m ≠ X.od → h'.get m = h.get m := by
 intro rest
 induction rest with
 | nil =>
  intro i lm lo ts h hr E hm fm ho h0 h63 h64 h65
  have il : ks.length ≤ i := by
   have := congrArg List.length hr
   rw [List.length_drop] at this
   simp only [List.length_nil] at this
   omega
  refine Goes.loopQ q11_111012 (Goes.loop ?_)
  refine Goes.seqQ q11_1110122 ?_
  refine Goes.opsQ q11_11101220 fits Hh E0_sound (by
   simp (maxSteps := 999999) +decide (discharger := first | omega | (simp only [lens] <;> omega) | decide) only [go_sem, q11, Tryz.f11, readRow, loadIn, simprocAttr, h0, h63, h64, h65]
   rfl) ?_
  refine Goes.seqQ q11_11101221 ?_
  refine Goes.condFQ q11_111012210 (by simp (maxSteps := 999999) +decide (discharger := first | omega | (simp only [lens] <;> omega) | decide) only [go_sem, readRow, loadIn, simprocAttr, h0, h63, h64, h65] <;> rfl) (by first | rfl | assumption | exact decide_eq_false (by omega) | (simp; omega)) ?_
  refine Goes.exitQ q11_1110122104 ?_
  refine ⟨rfl, rfl, ?_, rfl, E, hm, ⟨_, ho⟩, fun m _ _ => rfl⟩
  simp (decide := true) only [evalT_set, reduceIte, h0]
 | cons k rest ih =>
  intro i lm lo ts h hr E hm fm ho h0 h63 h64 h65
  have hi : ks[i]? = some k := by
   have := congrArg (fun l => l[0]?) hr
   simpa [List.getElem?_drop] using this
  have il : i < ks.length := by
   rcases Nat.lt_or_ge i ks.length with h1 | h1
   ·exact h1
   ·rw [List.getElem?_eq_none h1] at hi; cases hi
  have hr' : ks.drop (i + 1) = rest := by
   rw [List.drop_eq_getElem_cons il] at hr
   exact (List.cons.inj hr).2
  obtain ⟨y, hy, yl, yf, k0, k1⟩ := hks k (List.mem_of_getElem? hi)
  have rk : (ks.map fun i => [C.int .i64 i])[i]? = some [C.int .i64 k] := by rw [List.getElem?_map, hi]; rfl
  obtain ⟨hs, ht, hg, hc, hd, hl, hn⟩ := E
  have E : EndF s S X G Y D ld n ks h := ⟨hs, ht, hg, hc, hd, hl, hn⟩
  have a1 := row_ne hs hm
  have a2 := row_ne ht hm
  have a3 := row_ne hg hm
  have a4 := row_ne hc hm
  have a5 := row_ne hd hm
  have a6 := row_ne hn hm
  have pf := part257 yl
  have dl : (y.drop 1).length = 256 := by rw [List.length_drop]; omega
  have df := flat_drop 1 yf
  have tk : List.take 256 (List.drop 1 y) = y.drop 1 := List.take_of_length_le (by rw [List.length_drop]; omega)
  have e1 : (((i : Nat) : Int) + 1) = ((i + 1 : Nat) : Int) := rfl
  by_cases md : G.md = 2
  ·
   refine Goes.loopQ q11_111012 (Goes.loop ?_)
   refine Goes.seqQ q11_1110122 ?_
   refine Goes.opsQ q11_11101220 fits Hh E0_sound (by
    simp (maxSteps := 999999) +decide (discharger := first | omega | (simp only [lens] <;> omega) | decide) only [go_sem, q11, Tryz.f11, readRow, loadIn, simprocAttr, h0, h63, h64, h65, e1, rk, Nat.div_one, Nat.mod_one, hs, ht, bo, hg, gdL, fb, md, hc, hd, hl, hn, hm, fm, ho, hy, tk, dl, df, read1]
    rfl) ?_
   refine Goes.seqQ q11_11101221 ?_
   refine Goes.condTQ q11_111012210 (by simp (maxSteps := 999999) +decide (discharger := first | omega | (simp only [lens] <;> omega) | decide) only [go_sem, readRow, loadIn, simprocAttr, h0, h63, h64, h65, e1, rk, Nat.div_one, Nat.mod_one, hs, ht, bo, hg, gdL, fb, md, hc, hd, hl, hn, hm, fm, ho, hy, tk, dl, df, read1] <;> rfl) (by first | rfl | assumption | exact decide_eq_true (by omega) | (simp; omega)) ?_
   refine Goes.skipQ q11_1110122103 ?_
   refine Goes.seqQ q11_111012211 ?_
   refine Goes.blockQ q11_1110122110 (Goes.block ?_)
   refine Goes.seqQ q11_11101221102 ?_
   refine Goes.opsQ q11_111012211020 fits Hh E0_sound (by
    simp (maxSteps := 999999) +decide (discharger := first | omega | (simp only [lens] <;> omega) | decide) only [go_sem, q11, Tryz.f11, readRow, loadIn, simprocAttr, h0, h63, h64, h65, e1, rk, Nat.div_one, Nat.mod_one, hs, ht, bo, hg, gdL, fb, md, hc, hd, hl, hn, hm, fm, ho, hy, tk, dl, df, read1]
    rfl) ?_
   refine Goes.seqQ q11_111012211021 ?_
   refine Goes.seqQ q11_1110122110210 ?_
   refine Goes.drawnQ q11_11101221102100 fits Hh (EX_sound E0_sound (fun _ _ _ _ => xCWrite_ok Hh)) (by kernel_rfl) (by
    simp (maxSteps := 999999) +decide (discharger := first | omega | (simp only [lens] <;> omega) | decide) only [go_sem, q11, Tryz.f11, readRow, loadIn, simprocAttr, op_move, op_assign, op_binOp, op_unOp, op_convert, op_load, op_store, op_indexAddr, op_alloc, op_pick, op_box, op_build, op_buildSlice, op_nilCheck, op_makeSlice, op_fieldAddr, op_field, op_extract, op_lookup, op_mapUpdate, op_builtin, op_index, drEnd, drAll, drOne, drTs, drKd, drPure, drRead, drAlloc, drEff, drSkip, drPut, putT_ok, putT_none, cutT, looks, tmpOf, Op.operands, Call.operands, kd, kdCall, List.filterMap_cons, List.filterMap_nil, List.append_nil, List.nil_append, List.cons_append, stables, stable, reachAt, reachP, waitsAt, waits, gives_self, List.all_cons, List.all_nil, List.any_cons, List.any_nil, Region.binds, Bool.or_true, Bool.true_or, Bool.and_true, Bool.true_and, Bool.or_false, Bool.false_or, Bool.and_self, Bool.or_self, ble_true, Nat.le_refl, Nat.le_add_right, List.map_cons, Array.toList_append, h0, h63, h64, h65, e1, rk, Nat.div_one, Nat.mod_one, hs, ht, bo, hg, gdL, fb, md, hc, hd, hl, hn, hm, fm, ho, hy, tk, dl, df, read1]
    rfl) ?_
   refine Goes.seqQ q11_11101221102101 ?_
   refine Goes.opsQ q11_111012211021010 fits Hh E0_sound (by
    simp (maxSteps := 999999) +decide (discharger := first | omega | (simp only [lens] <;> omega) | decide) only [go_sem, q11, Tryz.f11, readRow, loadIn, simprocAttr, h0, h63, h64, h65, e1, rk, Nat.div_one, Nat.mod_one, hs, ht, bo, hg, gdL, fb, md, hc, hd, hl, hn, hm, fm, ho, hy, tk, dl, df, read1]
    rfl) ?_
   refine Goes.condFQ q11_111012211021011 (by simp (maxSteps := 999999) +decide (discharger := first | omega | (simp only [lens] <;> omega) | decide) only [go_sem, readRow, loadIn, simprocAttr, h0, h63, h64, h65, e1, rk, Nat.div_one, Nat.mod_one, hs, ht, bo, hg, gdL, fb, md, hc, hd, hl, hn, hm, fm, ho, hy, tk, dl, df, read1] <;> rfl) (by first | rfl | assumption | exact decide_eq_false (by omega) | (simp; omega)) ?_
   refine Goes.skipQ q11_1110122110210114 ?_
   refine Goes.seqQ q11_1110122110211 ?_
   refine Goes.opsQ q11_11101221102110 fits Hh E0_sound (by
    simp (maxSteps := 999999) +decide (discharger := first | omega | (simp only [lens] <;> omega) | decide) only [go_sem, q11, Tryz.f11, readRow, loadIn, simprocAttr, h0, h63, h64, h65, e1, rk, Nat.div_one, Nat.mod_one, hs, ht, bo, hg, gdL, fb, md, hc, hd, hl, hn, hm, fm, ho, hy, tk, dl, df, read1]
    rfl) ?_
   refine Goes.condTQ q11_11101221102111 (by simp (maxSteps := 999999) +decide (discharger := first | omega | (simp only [lens] <;> omega) | decide) only [go_sem, readRow, loadIn, simprocAttr, h0, h63, h64, h65, e1, rk, Nat.div_one, Nat.mod_one, hs, ht, bo, hg, gdL, fb, md, hc, hd, hl, hn, hm, fm, ho, hy, tk, dl, df, read1] <;> rfl) (by first | rfl | assumption | exact decide_eq_true (by omega) | (simp; omega)) ?_
   refine Goes.seqQ q11_111012211021113 ?_
   refine Goes.opsQ q11_1110122110211130 fits Hh (EX_sound E0_sound (fun _ _ _ _ => xTOrder_ok Hh)) (by
    simp (maxSteps := 999999) +decide (discharger := first | omega | (simp only [lens] <;> omega) | decide) only [go_sem, q11, Tryz.f11, readRow, loadIn, simprocAttr, h0, h63, h64, h65, e1, rk, Nat.div_one, Nat.mod_one, hs, ht, bo, hg, gdL, fb, md, hc, hd, hl, hn, hm, fm, ho, hy, tk, dl, df, read1]
    rfl) ?_
   refine Goes.seqQ q11_1110122110211131 ?_
   refine Goes.opsQ q11_11101221102111310 fits Hh E0_sound (by
    simp (maxSteps := 999999) +decide (discharger := first | omega | (simp only [lens] <;> omega) | decide) only [go_sem, q11, Tryz.f11, readRow, loadIn, simprocAttr, h0, h63, h64, h65, e1, rk, Nat.div_one, Nat.mod_one, hs, ht, bo, hg, gdL, fb, md, hc, hd, hl, hn, hm, fm, ho, hy, tk, dl, df, read1]
    rfl) ?_
   refine Goes.condFQ q11_11101221102111311 (by simp (maxSteps := 999999) +decide (discharger := first | omega | (simp only [lens] <;> omega) | decide) only [go_sem, readRow, loadIn, simprocAttr, h0, h63, h64, h65, e1, rk, Nat.div_one, Nat.mod_one, hs, ht, bo, hg, gdL, fb, md, hc, hd, hl, hn, hm, fm, ho, hy, tk, dl, df, read1] <;> rfl) (by first | rfl | assumption | exact decide_eq_false (by omega) | (simp; omega)) ?_
   refine Goes.skipQ q11_111012211021113114 ?_
   refine Goes.opsQ q11_1110122111 fits Hh E0_sound (by
    simp (maxSteps := 999999) +decide (discharger := first | omega | (simp only [lens] <;> omega) | decide) only [go_sem, q11, Tryz.f11, readRow, loadIn, simprocAttr, h0, h63, h64, h65, e1, rk, Nat.div_one, Nat.mod_one, hs, ht, bo, hg, gdL, fb, md, hc, hd, hl, hn, hm, fm, ho, hy, tk, dl, df, read1]
    rfl) ?_
   show Goes K Tryz.prog 115 none (.loop (q11 [1,1,1,0,1,2,2])) _ _ _ _
   rw [← q11_111012]
   refine (ih (i + 1) (updE k ((y.drop 1) ++ [.bool true]) lm) (updE k [] lo) _ _ hr' ((E.put hm d1).put (by rw [get_put_ne (Ne.symm d3)]; exact ho) d2) ?_ (flat_upd (by rw [List.all_append, df]; rfl) fm) ?_ ?_ ?_ ?_ ?_).mono ?_
   ·rw [get_put_ne d3, get_put_self]
   ·rw [get_put_self]
   ·simp (decide := true) only [evalT_set, reduceIte, h0]
   ·simp (decide := true) only [evalT_set, reduceIte, h63]
   ·simp (decide := true) only [evalT_set, reduceIte, h64]
   ·simp (decide := true) only [evalT_set, reduceIte]
   ·rintro x ds' ts' h' ⟨q1, q2, q3, q4, q5, q6, q7, q8⟩
    refine ⟨q1, q2, q3, q4, q5, ?_, q7, fun m hm1 hm2 => ?_⟩
    ·rw [q6, wrE, hy]; rfl
    ·rw [q8 m hm1 hm2, get_put_ne hm2, get_put_ne hm1]
  ·
   have md' : (G.md == 2) = false := by simpa using md
   refine Goes.loopQ q11_111012 (Goes.loop ?_)
   refine Goes.seqQ q11_1110122 ?_
   refine Goes.opsQ q11_11101220 fits Hh E0_sound (by
    simp (maxSteps := 999999) +decide (discharger := first | omega | (simp only [lens] <;> omega) | decide) only [go_sem, q11, Tryz.f11, readRow, loadIn, simprocAttr, h0, h63, h64, h65, e1, rk, Nat.div_one, Nat.mod_one, hs, ht, bo, hg, gdL, fb, md', hc, hd, hl, hn, hm, fm, ho, hy, tk, dl, df, read1]
    rfl) ?_
   refine Goes.seqQ q11_11101221 ?_
   refine Goes.condTQ q11_111012210 (by simp (maxSteps := 999999) +decide (discharger := first | omega | (simp only [lens] <;> omega) | decide) only [go_sem, readRow, loadIn, simprocAttr, h0, h63, h64, h65, e1, rk, Nat.div_one, Nat.mod_one, hs, ht, bo, hg, gdL, fb, md', hc, hd, hl, hn, hm, fm, ho, hy, tk, dl, df, read1] <;> rfl) (by first | rfl | assumption | exact decide_eq_true (by omega) | (simp; omega)) ?_
   refine Goes.skipQ q11_1110122103 ?_
   refine Goes.seqQ q11_111012211 ?_
   refine Goes.blockQ q11_1110122110 (Goes.block ?_)
   refine Goes.seqQ q11_11101221102 ?_
   refine Goes.opsQ q11_111012211020 fits Hh E0_sound (by
    simp (maxSteps := 999999) +decide (discharger := first | omega | (simp only [lens] <;> omega) | decide) only [go_sem, q11, Tryz.f11, readRow, loadIn, simprocAttr, h0, h63, h64, h65, e1, rk, Nat.div_one, Nat.mod_one, hs, ht, bo, hg, gdL, fb, md', hc, hd, hl, hn, hm, fm, ho, hy, tk, dl, df, read1]
    rfl) ?_
   refine Goes.seqQ q11_111012211021 ?_
   refine Goes.seqQ q11_1110122110210 ?_
   refine Goes.drawnQ q11_11101221102100 fits Hh (EX_sound E0_sound (fun _ _ _ _ => xCWrite_ok Hh)) (by kernel_rfl) (by
    simp (maxSteps := 999999) +decide (discharger := first | omega | (simp only [lens] <;> omega) | decide) only [go_sem, q11, Tryz.f11, readRow, loadIn, simprocAttr, op_move, op_assign, op_binOp, op_unOp, op_convert, op_load, op_store, op_indexAddr, op_alloc, op_pick, op_box, op_build, op_buildSlice, op_nilCheck, op_makeSlice, op_fieldAddr, op_field, op_extract, op_lookup, op_mapUpdate, op_builtin, op_index, drEnd, drAll, drOne, drTs, drKd, drPure, drRead, drAlloc, drEff, drSkip, drPut, putT_ok, putT_none, cutT, looks, tmpOf, Op.operands, Call.operands, kd, kdCall, List.filterMap_cons, List.filterMap_nil, List.append_nil, List.nil_append, List.cons_append, stables, stable, reachAt, reachP, waitsAt, waits, gives_self, List.all_cons, List.all_nil, List.any_cons, List.any_nil, Region.binds, Bool.or_true, Bool.true_or, Bool.and_true, Bool.true_and, Bool.or_false, Bool.false_or, Bool.and_self, Bool.or_self, ble_true, Nat.le_refl, Nat.le_add_right, List.map_cons, Array.toList_append, h0, h63, h64, h65, e1, rk, Nat.div_one, Nat.mod_one, hs, ht, bo, hg, gdL, fb, md', hc, hd, hl, hn, hm, fm, ho, hy, tk, dl, df, read1]
    rfl) ?_
   refine Goes.seqQ q11_11101221102101 ?_
   refine Goes.opsQ q11_111012211021010 fits Hh E0_sound (by
    simp (maxSteps := 999999) +decide (discharger := first | omega | (simp only [lens] <;> omega) | decide) only [go_sem, q11, Tryz.f11, readRow, loadIn, simprocAttr, h0, h63, h64, h65, e1, rk, Nat.div_one, Nat.mod_one, hs, ht, bo, hg, gdL, fb, md', hc, hd, hl, hn, hm, fm, ho, hy, tk, dl, df, read1]
    rfl) ?_
   refine Goes.condFQ q11_111012211021011 (by simp (maxSteps := 999999) +decide (discharger := first | omega | (simp only [lens] <;> omega) | decide) only [go_sem, readRow, loadIn, simprocAttr, h0, h63, h64, h65, e1, rk, Nat.div_one, Nat.mod_one, hs, ht, bo, hg, gdL, fb, md', hc, hd, hl, hn, hm, fm, ho, hy, tk, dl, df, read1] <;> rfl) (by first | rfl | assumption | exact decide_eq_false (by omega) | (simp; omega)) ?_
   refine Goes.skipQ q11_1110122110210114 ?_
   refine Goes.seqQ q11_1110122110211 ?_
   refine Goes.opsQ q11_11101221102110 fits Hh E0_sound (by
    simp (maxSteps := 999999) +decide (discharger := first | omega | (simp only [lens] <;> omega) | decide) only [go_sem, q11, Tryz.f11, readRow, loadIn, simprocAttr, h0, h63, h64, h65, e1, rk, Nat.div_one, Nat.mod_one, hs, ht, bo, hg, gdL, fb, md', hc, hd, hl, hn, hm, fm, ho, hy, tk, dl, df, read1]
    rfl) ?_
   refine Goes.condFQ q11_11101221102111 (by simp (maxSteps := 999999) +decide (discharger := first | omega | (simp only [lens] <;> omega) | decide) only [go_sem, readRow, loadIn, simprocAttr, h0, h63, h64, h65, e1, rk, Nat.div_one, Nat.mod_one, hs, ht, bo, hg, gdL, fb, md', hc, hd, hl, hn, hm, fm, ho, hy, tk, dl, df, read1] <;> rfl) (by first | rfl | assumption | exact decide_eq_false (by omega) | (simp; omega)) ?_
   refine Goes.skipQ q11_111012211021114 ?_
   refine Goes.opsQ q11_1110122111 fits Hh E0_sound (by
    simp (maxSteps := 999999) +decide (discharger := first | omega | (simp only [lens] <;> omega) | decide) only [go_sem, q11, Tryz.f11, readRow, loadIn, simprocAttr, h0, h63, h64, h65, e1, rk, Nat.div_one, Nat.mod_one, hs, ht, bo, hg, gdL, fb, md', hc, hd, hl, hn, hm, fm, ho, hy, tk, dl, df, read1]
    rfl) ?_
   show Goes K Tryz.prog 115 none (.loop (q11 [1,1,1,0,1,2,2])) _ _ _ _
   rw [← q11_111012]
   refine (ih (i + 1) (updE k ((y.drop 1) ++ [.bool true]) lm) lo _ _ hr' (E.put hm d1) ?_ (flat_upd (by rw [List.all_append, df]; rfl) fm) ?_ ?_ ?_ ?_ ?_).mono ?_
   ·rw [get_put_self]
   ·rw [get_put_ne (Ne.symm d3)]; exact ho
   ·simp (decide := true) only [evalT_set, reduceIte, h0]
   ·simp (decide := true) only [evalT_set, reduceIte, h63]
   ·simp (decide := true) only [evalT_set, reduceIte, h64]
   ·simp (decide := true) only [evalT_set, reduceIte]
   ·rintro x ds' ts' h' ⟨q1, q2, q3, q4, q5, q6, q7, q8⟩
    refine ⟨q1, q2, q3, q4, q5, ?_, q7, fun m hm1 hm2 => ?_⟩
    ·rw [q6, wrE, hy]; rfl
    ·rw [q8 m hm1 hm2, get_put_ne hm1]
end
end Go.Proofs.YtpiljmilaelfnaaGreatDoor
