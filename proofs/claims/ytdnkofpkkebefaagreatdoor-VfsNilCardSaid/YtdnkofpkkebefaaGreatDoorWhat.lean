/- geo.What, of a geometry that may be. -/
import Derived.Test.YtdnkofpkkebefaaGreatDoorGeo0
import Derived.Test.YtdnkofpkkebefaaGreatDoorEvC
set_option linter.unusedSimpArgs false
set_option linter.unusedVariables false
set_option linter.unusedSectionVars false
set_option maxRecDepth 100000
namespace Go.Proofs.YtdnkofpkkebefaaGreatDoor
open Go.Ev
theorem ty5 : K.types.get 5 = some ti5 := by kernel_rfl
theorem sz5 : ti5.size = 1 := by rfl
theorem ag5 : ti5.agg = false := by rfl
theorem de5 : ti5.desc = (.int .u8) := by rfl
theorem ze5 : ti5.zero = (.c (.int .u8 0)) := by rfl
theorem by5 : ti5.bytes = 1 := by rfl
theorem ke5 (k : IntKind) (n : Int) : keyT K 20 5 (.c (.int k n)) = true := by kernel_rfl
theorem ty343 : K.types.get 343 = some ti343 := by kernel_rfl
theorem sz343 : ti343.size = 5 := by rfl
theorem ag343 : ti343.agg = true := by rfl
theorem fo343_0 : fieldOf K 343 0 = some (0, ti5) := by kernel_rfl
theorem fo343_1 : fieldOf K 343 1 = some (1, ti3) := by kernel_rfl
theorem fo343_2 : fieldOf K 343 2 = some (2, ti3) := by kernel_rfl
theorem fo343_3 : fieldOf K 343 3 = some (3, ti3) := by kernel_rfl
theorem fo343_4 : fieldOf K 343 4 = some (4, ti3) := by kernel_rfl
theorem bu343 (ps : List (Nat × W)) : opBuild K 343 (some ps) = gW (fillStruct K 343 ps ti343.zero.cells) := by kernel_rfl
theorem ze343 : ti343.zero = (.g ([.int .u8 0, .int .i64 0, .int .i64 0, .int .i64 0, .int .i64 0])) := by rfl
theorem by343 : ti343.bytes = 40 := by rfl
theorem ty442 : K.types.get 442 = some ti442 := by kernel_rfl
theorem sz442 : ti442.size = 15 := by rfl
theorem ag442 : ti442.agg = true := by rfl
theorem de442 : ti442.desc = (.array 3 343) := by rfl
theorem ze442 : ti442.zero = (.g ([.int .u8 0, .int .i64 0, .int .i64 0, .int .i64 0, .int .i64 0, .int .u8 0, .int .i64 0, .int .i64 0, .int .i64 0, .int .i64 0, .int .u8 0, .int .i64 0, .int .i64 0, .int .i64 0, .int .i64 0])) := by rfl
theorem by442 : ti442.bytes = 120 := by rfl
theorem ty443 : K.types.get 443 = some ti443 := by kernel_rfl
theorem sz443 : ti443.size = 20 := by rfl
theorem ag443 : ti443.agg = true := by rfl
theorem de443 : ti443.desc = (.array 4 343) := by rfl
theorem ze443 : ti443.zero = (.g ([.int .u8 0, .int .i64 0, .int .i64 0, .int .i64 0, .int .i64 0, .int .u8 0, .int .i64 0, .int .i64 0, .int .i64 0, .int .i64 0, .int .u8 0, .int .i64 0, .int .i64 0, .int .i64 0, .int .i64 0, .int .u8 0, .int .i64 0, .int .i64 0, .int .i64 0, .int .i64 0])) := by rfl
theorem by443 : ti443.bytes = 160 := by rfl
attribute [go_sem] ty5 sz5 ag5 de5 ze5 by5 ke5 ty343 sz343 ag343 fo343_0 fo343_1 fo343_2 fo343_3 fo343_4 bu343 ze343 by343 ty442 sz442 ag442 de442 ze442 by442 ty443 sz443 ag443 de443 ze443 by443
noncomputable def q155 (p : List Nat) : Code := piece p (bodyOf Tryz.f155)
theorem q155_11012 : q155 [1,1,0,1,2] = .rangeFunc (.tmp 16) #[17] (q155 [1,1,0,1,2,5]) (q155 [1,1,0,1,2,6]) := by kernel_rfl
theorem q155_110125 : q155 [1,1,0,1,2,5] = .region 4 (opsA (q155 [1,1,0,1,2,5])) false := by kernel_rfl
theorem q155_110126 : q155 [1,1,0,1,2,6] = .block 1 (q155 [1,1,0,1,2,6,2]) := by kernel_rfl
noncomputable def q377 (p : List Nat) : Code := piece p (bodyOf Tryz.f377)
theorem rs155 : Tryz.f155.results.toList = [.cell 4 5, .cell 5 3, .cell 6 3] := rfl
theorem rs265 : Tryz.f265.results.toList = [.tmp 2] := rfl
theorem rs377 : Tryz.f377.results.toList = [] := rfl
attribute [go_sem] rs155 rs265 rs377
def partL (kk gp fr sz pl : Nat) : List C := [.int .u8 kk, .int .i64 gp, .int .i64 fr, .int .i64 sz, .int .i64 pl]
section
variable (Hh : Hearts K Tryz.prog)
include Hh
theorem whatA (l : Nat) (ts : Tmps) (kk gp fr sz pl : Nat) (h : Go.Ev.H) : Goes K Tryz.prog 36 (some l) (q155 [1,1,0,1,2,5]) [] (ts.set 17 (.w (.g (partL kk gp fr sz pl)))) h fun x ds' ts' h' => x = .normal ∧ ds' = [] ∧ (∀ s, s ≤ 6 → evalT ts' s = evalT ts s) ∧ evalT ts' 7 = .w (.c (.ptr h.next 0)) ∧ h'.next = h.next + 1 ∧ h'.get h.next = some (.row 5 [partL kk gp fr sz pl] false) ∧ ∀ m, m ≠ h.next → h'.get m = h.get m := by
 (apply Goes.ops2 fits Hh E0_sound; · simp (maxSteps := 999999) +decide (discharger := first | omega | (simp only [lens] <;> omega) | decide) only [go_sem, readRow, loadIn, simprocAttr, partL] <;> rfl)
 refine ⟨rfl, rfl, fun s hs => ?_, ?_, rfl, ?_, fun m hm => ?_⟩
 ·simp (decide := true) only [evalT_low hs]
 ·simp (maxSteps := 999999) +decide (discharger := first | omega | (simp only [lens] <;> omega) | decide) only [go_sem, readRow, loadIn, simprocAttr]
 ·simp (maxSteps := 999999) +decide (discharger := first | omega | (simp only [lens] <;> omega) | decide) only [go_sem, readRow, loadIn, simprocAttr, partL]
 ·simp (maxSteps := 999999) +decide (discharger := first | omega | (simp only [lens] <;> omega) | decide) only [go_sem, readRow, loadIn, simprocAttr]
set_option maxHeartbeats 4000000 in
theorem whatB (l : Nat) (ts : Tmps) (pb p4 p5 p6 q kk gp fr sz pl b : Nat) (h : Go.Ev.H) (x4 x5 x6 : C) (s1 : kk < 256) (s2 : gp < 1000000) (s3 : fr < 1000000) (s4 : sz < 1000000) (s5 : pl < 1000000) (s6 : b < 9223372036854775808) (s7 : fr ≤ b)
  (d1 : p4 ≠ p5) (d2 : p4 ≠ p6) (d3 : p5 ≠ p6) (d4 : pb ≠ p4) (d5 : pb ≠ p5) (d6 : pb ≠ p6) (d7 : q ≠ p4) (d8 : q ≠ p5) (d9 : q ≠ p6)
  (e3 : evalT ts 3 = .w (.c (.ptr pb 0))) (e4 : evalT ts 4 = .w (.c (.ptr p4 0))) (e5 : evalT ts 5 = .w (.c (.ptr p5 0))) (e6 : evalT ts 6 = .w (.c (.ptr p6 0))) (e7 : evalT ts 7 = .w (.c (.ptr q 0)))
  (hb : h.get pb = some (.row 1 [[.int .i64 b]] false)) (hq : h.get q = some (.row 5 [partL kk gp fr sz pl] false)) (r4 : h.get p4 = some (.row 1 [[x4]] false)) (r5 : h.get p5 = some (.row 1 [[x5]] false)) (r6 : h.get p6 = some (.row 1 [[x6]] false)) :
  Goes K Tryz.prog 36 (some l) (q155 [1,1,0,1,2,6]) [] ts h fun x _ _ h' => h'.next = h.next ∧ (b < fr + sz → x = .ret ∧ h'.get p4 = some (.row 1 [[.int .u8 kk]] false) ∧ h'.get p5 = some (.row 1 [[.int .i64 gp]] false) ∧ h'.get p6 = some (.row 1 [[.int .i64 ((pl + b - fr : Nat) : Int)]] false)) ∧ (fr + sz ≤ b → x = .normal ∧ h' = h) ∧ ∀ m, m ≠ p4 → m ≠ p5 → m ≠ p6 → h'.get m = h.get m := by
 have w9 : ((pl : Int) + (b : Int)) - (fr : Int) = ((pl + b - fr : Nat) : Int) := by omega
 by_cases hlt : b < fr + sz
 ·
  iterate 7 (first | apply Goes.seq | apply Goes.block | apply Goes.ret | ((first | apply Goes.condV | apply Goes.ops2 fits Hh E0_sound); · simp (maxSteps := 999999) +decide (discharger := first | omega | (simp only [lens] <;> omega) | decide) only [go_sem, readRow, loadIn, simprocAttr, e3, e4, e5, e6, e7, hb, hq, r4, r5, r6, partL, read1, w9, writeRow] <;> rfl) | (apply Goes.drawn2 fits Hh E0_sound (by kernel_rfl); · simp (maxSteps := 999999) +decide (discharger := first | omega | (simp only [lens] <;> omega) | decide) only [go_sem, readRow, loadIn, simprocAttr, drG, e3, e4, e5, e6, e7, hb, hq, r4, r5, r6, partL, read1, w9, writeRow] <;> rfl))
  refine ⟨rfl, fun _ => ⟨rfl, ?_, ?_, ?_⟩, fun h9 => by omega, fun m h1 h2 h3 => ?_⟩
  ·simp (maxSteps := 999999) +decide (discharger := first | omega | (simp only [lens] <;> omega) | decide) only [go_sem, readRow, loadIn, simprocAttr]
  ·simp (maxSteps := 999999) +decide (discharger := first | omega | (simp only [lens] <;> omega) | decide) only [go_sem, readRow, loadIn, simprocAttr]
  ·simp (maxSteps := 999999) +decide (discharger := first | omega | (simp only [lens] <;> omega) | decide) only [go_sem, readRow, loadIn, simprocAttr]
  ·simp (maxSteps := 999999) +decide (discharger := first | omega | (simp only [lens] <;> omega) | decide) only [go_sem, readRow, loadIn, simprocAttr]
 ·
  iterate 5 (first | apply Goes.seq | apply Goes.skip | apply Goes.block | ((first | apply Goes.condV | apply Goes.ops2 fits Hh E0_sound); · simp (maxSteps := 999999) +decide (discharger := first | omega | (simp only [lens] <;> omega) | decide) only [go_sem, readRow, loadIn, simprocAttr, e3, e4, e5, e6, e7, hb, hq, r4, r5, r6, partL, read1] <;> rfl))
  exact ⟨rfl, fun h9 => by omega, fun _ => ⟨rfl, rfl⟩, fun _ _ _ _ => rfl⟩
theorem whatRound (l : Nat) (ts : Tmps) (pb p4 p5 p6 kk gp fr sz pl b d : Nat) (h : Go.Ev.H) (x4 x5 x6 : C) (s1 : kk < 256) (s2 : gp < 1000000) (s3 : fr < 1000000) (s4 : sz < 1000000) (s5 : pl < 1000000) (s6 : b < 9223372036854775808) (s7 : fr ≤ b)
  (d1 : p4 ≠ p5) (d2 : p4 ≠ p6) (d3 : p5 ≠ p6) (d4 : pb ≠ p4) (d5 : pb ≠ p5) (d6 : pb ≠ p6) (l4 : l ≠ p4) (l5 : l ≠ p5) (l6 : l ≠ p6) (lb : l ≠ pb) (b4 : p4 < h.next) (b5 : p5 < h.next) (b6 : p6 < h.next) (bb : pb < h.next) (bl : l < h.next)
  (e3 : evalT ts 3 = .w (.c (.ptr pb 0))) (e4 : evalT ts 4 = .w (.c (.ptr p4 0))) (e5 : evalT ts 5 = .w (.c (.ptr p5 0))) (e6 : evalT ts 6 = .w (.c (.ptr p6 0)))
  (hl : h.get l = some (.loop ts 36 [17] (q155 [1,1,0,1,2,5]) (q155 [1,1,0,1,2,6]) .ready none d))
  (hb : h.get pb = some (.row 1 [[.int .i64 b]] false)) (r4 : h.get p4 = some (.row 1 [[x4]] false)) (r5 : h.get p5 = some (.row 1 [[x5]] false)) (r6 : h.get p6 = some (.row 1 [[x6]] false)) :
  ∃ E h' r, Sound K Tryz.prog E ∧ evRound E l (some [.g (partL kk gp fr sz pl)]) h (h.get l) = some (.val (.w (.c (.bool r))) h') ∧ h.next ≤ h'.next ∧
   (fr + sz ≤ b → r = true ∧ ∀ m, m < h.next → h'.get m = h.get m) ∧
   (b < fr + sz → r = false ∧ h'.get l = some (.loop ts 36 [17] (q155 [1,1,0,1,2,5]) (q155 [1,1,0,1,2,6]) .done (some .ret) d) ∧ h'.get p4 = some (.row 1 [[.int .u8 kk]] false) ∧ h'.get p5 = some (.row 1 [[.int .i64 gp]] false) ∧ h'.get p6 = some (.row 1 [[.int .i64 ((pl + b - fr : Nat) : Int)]] false) ∧ ∀ m, m < h.next → m ≠ l → m ≠ p4 → m ≠ p5 → m ≠ p6 → h'.get m = h.get m) := by
 obtain ⟨xa, ds1, ts1, h1, kA, rfl, rfl, t1, t7, n1, g1, f1⟩ := whatA Hh l ts kk gp fr sz pl h
 have q1 : ∀ m, m < h.next → m ≠ l → (h1.put l (.loop ts 36 [17] (q155 [1,1,0,1,2,5]) (q155 [1,1,0,1,2,6]) .busy none d)).get m = h.get m := fun m hm hml => by rw [get_put_ne hml, f1 m (by omega)]
 have gl : h1.get l = some (.loop ts 36 [17] (q155 [1,1,0,1,2,5]) (q155 [1,1,0,1,2,6]) .ready none d) := by rw [f1 l (by omega)]; exact hl
 obtain ⟨xb, ds2, ts2, h2, kB, n2, st, go, f2⟩ := whatB Hh l ts1 pb p4 p5 p6 h.next kk gp fr sz pl b (h1.put l (.loop ts 36 [17] (q155 [1,1,0,1,2,5]) (q155 [1,1,0,1,2,6]) .busy none d)) x4 x5 x6 s1 s2 s3 s4 s5 s6 s7 d1 d2 d3 d4 d5 d6 (by omega) (by omega) (by omega)
  ((t1 3 (by decide)).trans e3) ((t1 4 (by decide)).trans e4) ((t1 5 (by decide)).trans e5) ((t1 6 (by decide)).trans e6) t7 ((q1 pb bb (Ne.symm lb)).trans hb) (by rw [get_put_ne (by omega)]; exact g1) ((q1 p4 b4 (Ne.symm l4)).trans r4) ((q1 p5 b5 (Ne.symm l5)).trans r5) ((q1 p6 b6 (Ne.symm l6)).trans r6)
 have hl2 : h2.get l = some (.loop ts 36 [17] (q155 [1,1,0,1,2,5]) (q155 [1,1,0,1,2,6]) .busy none d) := by rw [f2 l l4 l5 l6]; exact get_put_self ..
 have S := E1c_sound (E1c_sound E0_sound kB) kA
 refine ⟨_, _, _, S, round_some hl (by simp only [zipParams]; rfl) (E1c_code ..) gl (E1c_next (fun e => ?_) |>.trans (E1c_code ..)) hl2, ?_, fun h9 => ?_, fun h9 => ?_⟩
 ·have e1 := (Task.code.inj e).1
  rw [q155_110126, q155_110125] at e1
  cases e1
 ·rw [H.next_put, n2, H.next_put, n1]; omega
 ·obtain ⟨rfl, rfl⟩ := go h9
  refine ⟨rfl, fun m hm => ?_⟩
  by_cases e : m = l
  ·subst e; rw [get_put_self, hl]; rfl
  ·rw [get_put_ne e, q1 m hm e]
 ·obtain ⟨rfl, k4, k5, k6⟩ := st h9
  refine ⟨rfl, get_put_self .., ?_, ?_, ?_, fun m hm a1 a2 a3 a4 => ?_⟩
  ·rw [get_put_ne (Ne.symm l4)]; exact k4
  ·rw [get_put_ne (Ne.symm l5)]; exact k5
  ·rw [get_put_ne (Ne.symm l6)]; exact k6
  ·rw [get_put_ne a1, f2 m a2 a3 a4, q1 m hm a1]
structure WCtx (l pb p4 p5 p6 pg gr sz ino jr b d : Nat) (ts : Tmps) (h : Go.Ev.H) : Prop where
 d1 : p4 ≠ p5
 d2 : p4 ≠ p6
 d3 : p5 ≠ p6
 d4 : pb ≠ p4
 d5 : pb ≠ p5
 d6 : pb ≠ p6
 l4 : l ≠ p4
 l5 : l ≠ p5
 l6 : l ≠ p6
 lb : l ≠ pb
 b4 : p4 < h.next
 b5 : p5 < h.next
 b6 : p6 < h.next
 bb : pb < h.next
 bl : l < h.next
 bg : pg < h.next
 e3 : evalT ts 3 = .w (.c (.ptr pb 0))
 e4 : evalT ts 4 = .w (.c (.ptr p4 0))
 e5 : evalT ts 5 = .w (.c (.ptr p5 0))
 e6 : evalT ts 6 = .w (.c (.ptr p6 0))
 hl : h.get l = some (.loop ts 36 [17] (q155 [1,1,0,1,2,5]) (q155 [1,1,0,1,2,6]) .ready none d)
 hb : h.get pb = some (.row 1 [[.int .i64 b]] false)
 r4 : ∃ x, h.get p4 = some (.row 1 [[x]] false)
 r5 : ∃ x, h.get p5 = some (.row 1 [[x]] false)
 r6 : ∃ x, h.get p6 = some (.row 1 [[x]] false)
 hg : h.get pg = some (.row 4 [geoL gr sz ino jr] false)
omit Hh in
theorem WCtx.move {l pb p4 p5 p6 pg gr sz ino jr b d : Nat} {ts : Tmps} {h h' : Go.Ev.H} (W : WCtx l pb p4 p5 p6 pg gr sz ino jr b d ts h) (hn : h.next ≤ h'.next) (k : ∀ m, m < h.next → h'.get m = h.get m) : WCtx l pb p4 p5 p6 pg gr sz ino jr b d ts h' := by
 obtain ⟨d1, d2, d3, d4, d5, d6, l4, l5, l6, lb, b4, b5, b6, bb, bl, bg, e3, e4, e5, e6, hl, hb, r4, r5, r6, hg⟩ := W
 exact ⟨d1, d2, d3, d4, d5, d6, l4, l5, l6, lb, by omega, by omega, by omega, by omega, by omega, by omega, e3, e4, e5, e6, (k l bl).trans hl, (k pb bb).trans hb, by rw [k p4 b4]; exact r4, by rw [k p5 b5]; exact r5, by rw [k p6 b6]; exact r6, (k pg bg).trans hg⟩
structure WAns (l p4 p5 p6 d : Nat) (ts : Tmps) (kk gp pl : Nat) (h0 h : Go.Ev.H) : Prop where
 next : h0.next ≤ h.next
 hl : h.get l = some (.loop ts 36 [17] (q155 [1,1,0,1,2,5]) (q155 [1,1,0,1,2,6]) .done (some .ret) d)
 r4 : h.get p4 = some (.row 1 [[.int .u8 kk]] false)
 r5 : h.get p5 = some (.row 1 [[.int .i64 gp]] false)
 r6 : h.get p6 = some (.row 1 [[.int .i64 pl]] false)
 keep : ∀ m, m < h0.next → m ≠ l → m ≠ p4 → m ≠ p5 → m ≠ p6 → h.get m = h0.get m
omit Hh in
theorem WAns.back {l p4 p5 p6 d : Nat} {ts : Tmps} {kk gp pl : Nat} {h0 h1 h : Go.Ev.H} (A : WAns l p4 p5 p6 d ts kk gp pl h1 h) (hn : h0.next ≤ h1.next) (k : ∀ m, m < h0.next → h1.get m = h0.get m) : WAns l p4 p5 p6 d ts kk gp pl h0 h :=
 ⟨Nat.le_trans hn A.next, A.hl, A.r4, A.r5, A.r6, fun m hm a b c e => (A.keep m (Nat.lt_of_lt_of_le hm hn) a b c e).trans (k m hm)⟩
theorem WCtx.round {l pb p4 p5 p6 pg gr sz ino jr b d : Nat} {ts : Tmps} {h : Go.Ev.H} (W : WCtx l pb p4 p5 p6 pg gr sz ino jr b d ts h) (kk gp fr sz' pl : Nat) (s1 : kk < 256) (s2 : gp < 1000000) (s3 : fr < 1000000) (s4 : sz' < 1000000) (s5 : pl < 1000000) (s6 : b < 9223372036854775808) (s7 : fr ≤ b) :
  ∃ E h' r, Sound K Tryz.prog E ∧ evRound E l (some [.g (partL kk gp fr sz' pl)]) h (some (.loop ts 36 [17] (q155 [1,1,0,1,2,5]) (q155 [1,1,0,1,2,6]) .ready none d)) = some (.val (.w (.c (.bool r))) h') ∧
   (fr + sz' ≤ b → r = true ∧ h.next ≤ h'.next ∧ ∀ m, m < h.next → h'.get m = h.get m) ∧ (b < fr + sz' → r = false ∧ WAns l p4 p5 p6 d ts kk gp (pl + b - fr) h h') := by
 obtain ⟨d1, d2, d3, d4, d5, d6, l4, l5, l6, lb, b4, b5, b6, bb, bl, bg, e3, e4, e5, e6, hl, hb, ⟨x4, r4⟩, ⟨x5, r5⟩, ⟨x6, r6⟩, hg⟩ := W
 obtain ⟨E, h', r, S, rnd, n, go, st⟩ := whatRound Hh l ts pb p4 p5 p6 kk gp fr sz' pl b d h x4 x5 x6 s1 s2 s3 s4 s5 s6 s7 d1 d2 d3 d4 d5 d6 l4 l5 l6 lb b4 b5 b6 bb bl e3 e4 e5 e6 hl hb r4 r5 r6
 rw [hl] at rnd
 refine ⟨E, h', r, S, rnd, fun h9 => ⟨(go h9).1, n, (go h9).2⟩, fun h9 => ?_⟩
 obtain ⟨rr, k1, k2, k3, k4, k5⟩ := st h9
 exact ⟨rr, n, k1, k2, k3, k4, k5⟩
def headP (jr : Nat) : Nat → Nat × Nat × Nat × Nat × Nat
 | 0 => (1, 0, 0, 1, 0)
 | 1 => (2, 0, 1, 1, 0)
 | _ => (3, 0, 2, jr, 0)
def headC (jr : Nat) : List C := [.int .u8 1, .int .i64 0, .int .i64 0, .int .i64 1, .int .i64 0, .int .u8 2, .int .i64 0, .int .i64 1, .int .i64 1, .int .i64 0, .int .u8 3, .int .i64 0, .int .i64 2, .int .i64 jr, .int .i64 0]
def partP (p : Nat × Nat × Nat × Nat × Nat) : List C := partL p.1 p.2.1 p.2.2.1 p.2.2.2.1 p.2.2.2.2
def headE (jr : Nat) : Nat → Nat
 | 0 => 0
 | 1 => 1
 | 2 => 2
 | _ => 2 + jr
theorem partsHead {l pb p4 p5 p6 pg gr sz ino jr b d : Nat} {tl : Tmps} (F : Fine gr sz ino jr) (s6 : b < 9223372036854775808) : ∀ (k i : Nat) (ts : Tmps) (h : Go.Ev.H), i + k = 3 → headE jr i ≤ b → WCtx l pb p4 p5 p6 pg gr sz ino jr b d tl h → evalT ts 0 = .w (.c (.yield l)) → evalT ts 21 = .w (.g (headC jr)) → evalT ts 22 = .w (.c (.int .i64 i)) →
  Goes K Tryz.prog 79 none (q377 [1,1,0,1,2]) [] ts h fun x ds' ts' h' => ds' = [] ∧ (∀ s, s ≤ 3 → evalT ts' s = evalT ts s) ∧ ((x = .exit 0 ∧ 2 + jr ≤ b ∧ h.next ≤ h'.next ∧ ∀ m, m < h.next → h'.get m = h.get m) ∨
   (x = .ret ∧ ∃ q, q < 3 ∧ headE jr q ≤ b ∧ b < headE jr (q + 1) ∧ WAns l p4 p5 p6 d tl (headP jr q).1 0 (b - headE jr q) h h')) := by
 obtain ⟨g1, g2, g3, g4, g5, g6, g7, g8, g9, g10, g11⟩ := F
 intro k
 induction k with
 | zero =>
  intro i ts h hi hbe W e0 e21 e22
  obtain rfl : i = 3 := by omega
  have Jf := @e22
  iterate 6 (first | apply Goes.seq | apply Goes.exit | apply Goes.loop | refine Goes.condV autBarJ ?_ | refine runO Hh E0_sound autBarJ ?_)
  refine ⟨rfl, fun s hs => ?_, .inl ⟨rfl, hbe, Nat.le_refl _, fun _ _ => rfl⟩⟩
  simp (decide := true) only [evalT_low hs]
 | succ k ih =>
  intro i ts h hi hbe W e0 e21 e22
  obtain ⟨kk, gp, fr, sz', pl, hP⟩ : ∃ kk gp fr sz' pl, headP jr i = (kk, gp, fr, sz', pl) := ⟨_, _, _, _, _, rfl⟩
  have hi3 : i = 0 ∨ i = 1 ∨ i = 2 := by omega
  have hx : arrAt K (some ti442) (headC jr) (some i) = some (.g (partL kk gp fr sz' pl)) ∧ kk < 256 ∧ gp = 0 ∧ fr = headE jr i ∧ fr + sz' = headE jr (i + 1) ∧ pl = 0 ∧ fr < 1000000 ∧ sz' < 1000000 := by
   rcases hi3 with rfl | rfl | rfl <;> (simp only [headP, Prod.mk.injEq] at hP; obtain ⟨rfl, rfl, rfl, rfl, rfl⟩ := hP; exact ⟨by kernel_rfl, by omega, rfl, rfl, rfl, rfl, by omega, by omega⟩)
  obtain ⟨idx, k1, rfl, k3, k4, rfl, k6, k7⟩ := hx
  have W2 := W.move (h' := (h.new (.row 5 [[.int .u8 0, .int .i64 0, .int .i64 0, .int .i64 0, .int .i64 0]] false)).put h.next (.row 5 [partL kk 0 fr sz' 0] false)) (by rw [H.next_put, H.next_new]; omega) (fun m hm => by rw [get_put_ne (by omega), get_new_ne (by omega)])
  obtain ⟨E, h2, r, S, rnd, go, st⟩ := WCtx.round Hh W2 kk 0 fr sz' 0 k1 (by omega) k6 k7 (by omega) s6 (by omega)
  have hl := W.hl
  have bl := W.bl
  have rp : readRow 5 [partL kk 0 fr sz' 0] 0 5 = some (partL kk 0 fr sz' 0) := rfl
  have lp : (partL kk 0 fr sz' 0).length = 5 := rfl
  have wp : writeRow 5 [[.int .u8 0, .int .i64 0, .int .i64 0, .int .i64 0, .int .i64 0]] 0 (partL kk 0 fr sz' 0) = some [partL kk 0 fr sz' 0] := rfl
  by_cases hc : fr + sz' ≤ b
  ·obtain ⟨rfl, n2, q2⟩ := go hc
   have q3 : ∀ m, m < h.next → h2.get m = h.get m := fun m hm => by
    rw [q2 m (by rw [H.next_put, H.next_new]; omega), get_put_ne (by omega), get_new_ne (by omega)]
   rw [H.next_put, H.next_new] at n2
   have Jf := andI9 @e0 @e21 @e22 @hl @idx @rp @lp @wp @rnd
   iterate 11 (first | apply Goes.seq | apply Goes.skip | apply Goes.block | apply Goes.loop | refine Goes.condV autAayJ ?_ | refine runO Hh E0_sound autAayJ ?_)
   iterate 4 (first | apply Goes.skip | refine Goes.condV autAayJ ?_ | refine runO Hh S autAayJ ?_)
   show Goes K Tryz.prog 79 none (q377 [1,1,0,1,2]) _ _ _ _
   refine (ih (i + 1) _ h2 (by omega) (by omega) (W.move (by omega) q3) ?_ ?_ ?_).mono ?_
   ·simp (decide := true) only [evalT_set, reduceIte, e0]
   ·simp (decide := true) only [evalT_set, reduceIte, e21]
   ·simp (decide := true) only [evalT_set, reduceIte] <;> rfl
   ·rintro x ds' ts' h' ⟨z1, z2, z3⟩
    refine ⟨z1, fun s hs => (z2 s hs).trans (by simp (decide := true) only [evalT_low hs]), ?_⟩
    rcases z3 with ⟨rfl, y1, y2, y3⟩ | ⟨rfl, q, y1, y2, y3, y4⟩
    ·exact .inl ⟨rfl, y1, by omega, fun m hm => (y3 m (by omega)).trans (q3 m hm)⟩
    ·exact .inr ⟨rfl, q, y1, y2, y3, y4.back (by omega) q3⟩
  ·obtain ⟨rfl, A⟩ := st (by omega)
   have A2 := A.back (h0 := h) (by rw [H.next_put, H.next_new]; omega) (fun m hm => by rw [get_put_ne (by omega), get_new_ne (by omega)])
   have Jf := andI9 @e0 @e21 @e22 @hl @idx @rp @lp @wp @rnd
   iterate 11 (first | apply Goes.seq | apply Goes.skip | apply Goes.block | apply Goes.loop | refine Goes.condV autAayJ ?_ | refine runO Hh E0_sound autAayJ ?_)
   iterate 3 (first | apply Goes.ret | refine Goes.condV autAayJ ?_ | refine runO Hh S autAayJ ?_)
   refine ⟨rfl, fun s hs => ?_, .inr ⟨rfl, i, by omega, by omega, by omega, ?_⟩⟩
   ·simp (decide := true) only [evalT_low hs]
   ·rw [hP, ← k3]
    rwa [Nat.zero_add] at A2
def grpE (sz ino jr k : Nat) : Nat → Nat
 | 0 => 2 + jr + k * sz
 | 1 => 2 + jr + k * sz + 1
 | 2 => 2 + jr + k * sz + 2
 | 3 => 2 + jr + k * sz + 2 + ino / 4
 | _ => 2 + jr + k * sz + sz
def grpP (sz ino jr k : Nat) : Nat → Nat × Nat × Nat × Nat × Nat
 | 0 => (4, k, 2 + jr + k * sz, 1, 0)
 | 1 => (5, k, 2 + jr + k * sz + 1, 1, 1)
 | 2 => (6, k, 2 + jr + k * sz + 2, ino / 4, 2)
 | _ => (7, k, 2 + jr + k * sz + 2 + ino / 4, sz - 2 - ino / 4, 2 + ino / 4)
def grpC (sz ino jr k : Nat) : List C := partP (grpP sz ino jr k 0) ++ partP (grpP sz ino jr k 1) ++ partP (grpP sz ino jr k 2) ++ partP (grpP sz ino jr k 3)
theorem partsIn {l pb p4 p5 p6 pg gr sz ino jr b d : Nat} {tl : Tmps} (F : Fine gr sz ino jr) (s6 : b < 9223372036854775808) {k0 : Nat} (hk0 : k0 < gr) : ∀ (k i : Nat) (ts : Tmps) (h : Go.Ev.H), i + k = 4 → grpE sz ino jr k0 i ≤ b → WCtx l pb p4 p5 p6 pg gr sz ino jr b d tl h → evalT ts 0 = .w (.c (.yield l)) → evalT ts 69 = .w (.g (grpC sz ino jr k0)) → evalT ts 70 = .w (.c (.int .i64 i)) →
  Goes K Tryz.prog 79 none (q377 [1,1,1,1,2,2,1,1,0,2,1,1,1,1,2]) [] ts h fun x ds' ts' h' => ds' = [] ∧ (∀ s, s ≤ 8 ∨ s = 31 ∨ s = 32 → evalT ts' s = evalT ts s) ∧ ((x = .exit 4 ∧ 2 + jr + k0 * sz + sz ≤ b ∧ h.next ≤ h'.next ∧ ∀ m, m < h.next → h'.get m = h.get m) ∨
   (x = .ret ∧ ∃ q, q < 4 ∧ grpE sz ino jr k0 q ≤ b ∧ b < grpE sz ino jr k0 (q + 1) ∧ WAns l p4 p5 p6 d tl (grpP sz ino jr k0 q).1 k0 (b - grpE sz ino jr k0 0) h h')) := by
 obtain ⟨g1, g2, g3, g4, g5, g6, g7, g8, g9, g10, g11⟩ := F
 intro k
 induction k with
 | zero =>
  intro i ts h hi hbe W e0 e69 e70
  obtain rfl : i = 4 := by omega
  have Jf := @e70
  iterate 6 (first | apply Goes.seq | apply Goes.exit | apply Goes.loop | refine Goes.condV autBarJ ?_ | refine runO Hh E0_sound autBarJ ?_)
  refine ⟨rfl, fun s hs => ?_, .inl ⟨rfl, hbe, Nat.le_refl _, fun _ _ => rfl⟩⟩
  rcases hs with hs | rfl | rfl <;> first | (simp (decide := true) only [evalT_low hs]) | (simp (decide := true) only [evalT_set, reduceIte])
 | succ k ih =>
  intro i ts h hi hbe W e0 e69 e70
  obtain ⟨kk, gp, fr, sz', pl, hP⟩ : ∃ kk gp fr sz' pl, grpP sz ino jr k0 i = (kk, gp, fr, sz', pl) := ⟨_, _, _, _, _, rfl⟩
  have m1 : k0 * sz + sz ≤ gr * sz := by
   have := Nat.mul_le_mul_right sz (show k0 + 1 ≤ gr by omega)
   rw [Nat.add_mul] at this
   omega
  have hi3 : i = 0 ∨ i = 1 ∨ i = 2 ∨ i = 3 := by omega
  have hx : arrAt K (some ti443) (grpC sz ino jr k0) (some i) = some (.g (partL kk gp fr sz' pl)) ∧ kk < 256 ∧ k0 = gp ∧ fr = grpE sz ino jr k0 i ∧ fr + sz' = grpE sz ino jr k0 (i + 1) ∧ pl + grpE sz ino jr k0 0 = fr ∧ fr < 1000000 ∧ sz' < 1000000 := by
   rcases hi3 with rfl | rfl | rfl | rfl <;> (simp only [grpP, Prod.mk.injEq] at hP; obtain ⟨rfl, rfl, rfl, rfl, rfl⟩ := hP; refine ⟨by kernel_rfl, by omega, rfl, rfl, ?_, ?_, ?_, ?_⟩ <;> first | rfl | (simp only [grpE, Nat.reduceAdd, Nat.zero_add] <;> omega) | omega)
  obtain ⟨idx, k1, rfl, k3, k4, k5, k6, k7⟩ := hx
  have W2 := W.move (h' := (h.new (.row 5 [[.int .u8 0, .int .i64 0, .int .i64 0, .int .i64 0, .int .i64 0]] false)).put h.next (.row 5 [partL kk k0 fr sz' pl] false)) (by rw [H.next_put, H.next_new]; omega) (fun m hm => by rw [get_put_ne (by omega), get_new_ne (by omega)])
  obtain ⟨E, h2, r, S, rnd, go, st⟩ := WCtx.round Hh W2 kk k0 fr sz' pl k1 (by omega) k6 k7 (by omega) s6 (by omega)
  have hl := W.hl
  have bl := W.bl
  have rp : readRow 5 [partL kk k0 fr sz' pl] 0 5 = some (partL kk k0 fr sz' pl) := rfl
  have lp : (partL kk k0 fr sz' pl).length = 5 := rfl
  have wp : writeRow 5 [[.int .u8 0, .int .i64 0, .int .i64 0, .int .i64 0, .int .i64 0]] 0 (partL kk k0 fr sz' pl) = some [partL kk k0 fr sz' pl] := rfl
  by_cases hc : fr + sz' ≤ b
  ·obtain ⟨rfl, n2, q2⟩ := go hc
   have q3 : ∀ m, m < h.next → h2.get m = h.get m := fun m hm => by
    rw [q2 m (by rw [H.next_put, H.next_new]; omega), get_put_ne (by omega), get_new_ne (by omega)]
   rw [H.next_put, H.next_new] at n2
   have Jf := andI9 @e0 @e69 @e70 @hl @idx @rp @lp @wp @rnd
   iterate 11 (first | apply Goes.seq | apply Goes.skip | apply Goes.block | apply Goes.loop | refine Goes.condV autAayJ ?_ | refine runO Hh E0_sound autAayJ ?_)
   iterate 4 (first | apply Goes.skip | refine Goes.condV autAayJ ?_ | refine runO Hh S autAayJ ?_)
   show Goes K Tryz.prog 79 none (q377 [1,1,1,1,2,2,1,1,0,2,1,1,1,1,2]) _ _ _ _
   refine (ih (i + 1) _ h2 (by omega) (by omega) (W.move (by omega) q3) ?_ ?_ ?_).mono ?_
   ·simp (decide := true) only [evalT_set, reduceIte, e0]
   ·simp (decide := true) only [evalT_set, reduceIte, e69]
   ·simp (decide := true) only [evalT_set, reduceIte] <;> rfl
   ·rintro x ds' ts' h' ⟨z1, z2, z3⟩
    refine ⟨z1, fun s hs => (z2 s hs).trans (by rcases hs with hs | rfl | rfl <;> first | (simp (decide := true) only [evalT_low hs]) | (simp (decide := true) only [evalT_set, reduceIte])), ?_⟩
    rcases z3 with ⟨rfl, y1, y2, y3⟩ | ⟨rfl, q, y1, y2, y3, y4⟩
    ·exact .inl ⟨rfl, y1, by omega, fun m hm => (y3 m (by omega)).trans (q3 m hm)⟩
    ·exact .inr ⟨rfl, q, y1, y2, y3, y4.back (by omega) q3⟩
  ·obtain ⟨rfl, A⟩ := st (by omega)
   have A2 := A.back (h0 := h) (by rw [H.next_put, H.next_new]; omega) (fun m hm => by rw [get_put_ne (by omega), get_new_ne (by omega)])
   have Jf := andI9 @e0 @e69 @e70 @hl @idx @rp @lp @wp @rnd
   iterate 11 (first | apply Goes.seq | apply Goes.skip | apply Goes.block | apply Goes.loop | refine Goes.condV autAayJ ?_ | refine runO Hh E0_sound autAayJ ?_)
   iterate 3 (first | apply Goes.ret | refine Goes.condV autAayJ ?_ | refine runO Hh S autAayJ ?_)
   refine ⟨rfl, fun s hs => ?_, .inr ⟨rfl, i, by omega, by omega, by omega, ?_⟩⟩
   ·rcases hs with hs | rfl | rfl <;> first | (simp (decide := true) only [evalT_low hs]) | (simp (decide := true) only [evalT_set, reduceIte])
   ·rw [hP]
    rwa [show pl + b - fr = b - grpE sz ino jr k0 0 by omega] at A2
end
end Go.Proofs.YtdnkofpkkebefaaGreatDoor
