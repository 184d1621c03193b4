/- Begin, of a transaction that has nothing, and of its store. -/
import Derived.Test.YtpiljmilaelfnaaGreatDoorBeg
set_option linter.unusedSimpArgs false
set_option linter.unusedVariables false
set_option linter.unusedSectionVars false
set_option maxRecDepth 100000
namespace Go.Proofs.YtpiljmilaelfnaaGreatDoor
open Go.Ev
noncomputable def q6 (p : List Nat) : Code := piece p (bodyOf Tryz.f6)
theorem q6_ : q6 [] = .seq (q6 [0]) (q6 [1]) := by kernel_rfl
theorem q6_0 : q6 [0] = .region 0 (opsA (q6 [0])) false := by kernel_rfl
theorem q6_1 : q6 [1] = .seq (q6 [1,0]) (q6 [1,1]) := by kernel_rfl
theorem q6_10 : q6 [1,0] = .seq (q6 [1,0,0]) (q6 [1,0,1]) := by kernel_rfl
theorem q6_100 : q6 [1,0,0] = .region 1 (opsA (q6 [1,0,0])) false := by kernel_rfl
theorem q6_101 : q6 [1,0,1] = .cond (.tmp 13) (q6 [1,0,1,3]) (q6 [1,0,1,4]) := by kernel_rfl
theorem q6_1014 : q6 [1,0,1,4] = .skip := by kernel_rfl
theorem q6_11 : q6 [1,1] = .seq (q6 [1,1,0]) (q6 [1,1,1]) := by kernel_rfl
theorem q6_110 : q6 [1,1,0] = .seq (q6 [1,1,0,0]) (q6 [1,1,0,1]) := by kernel_rfl
theorem q6_1100 : q6 [1,1,0,0] = .region 3 (opsA (q6 [1,1,0,0])) false := by kernel_rfl
theorem q6_1101 : q6 [1,1,0,1] = .cond (.tmp 25) (q6 [1,1,0,1,3]) (q6 [1,1,0,1,4]) := by kernel_rfl
theorem q6_11014 : q6 [1,1,0,1,4] = .skip := by kernel_rfl
theorem q6_111 : q6 [1,1,1] = .seq (q6 [1,1,1,0]) (q6 [1,1,1,1]) := by kernel_rfl
theorem q6_1110 : q6 [1,1,1,0] = .seq (q6 [1,1,1,0,0]) (q6 [1,1,1,0,1]) := by kernel_rfl
theorem q6_11100 : q6 [1,1,1,0,0] = .region 5 (opsA (q6 [1,1,1,0,0])) false := by kernel_rfl
theorem q6_11101 : q6 [1,1,1,0,1] = .cond (.tmp 30) (q6 [1,1,1,0,1,3]) (q6 [1,1,1,0,1,4]) := by kernel_rfl
theorem q6_111014 : q6 [1,1,1,0,1,4] = .skip := by kernel_rfl
theorem q6_1111 : q6 [1,1,1,1] = .seq (q6 [1,1,1,1,0]) (q6 [1,1,1,1,1]) := by kernel_rfl
theorem q6_11110 : q6 [1,1,1,1,0] = .seq (q6 [1,1,1,1,0,0]) (q6 [1,1,1,1,0,1]) := by kernel_rfl
theorem q6_111100 : q6 [1,1,1,1,0,0] = .region 7 (opsA (q6 [1,1,1,1,0,0])) false := by kernel_rfl
theorem q6_111101 : q6 [1,1,1,1,0,1] = .cond (.tmp 36) (q6 [1,1,1,1,0,1,3]) (q6 [1,1,1,1,0,1,4]) := by kernel_rfl
theorem q6_1111014 : q6 [1,1,1,1,0,1,4] = .skip := by kernel_rfl
theorem q6_11111 : q6 [1,1,1,1,1] = .seq (q6 [1,1,1,1,1,0]) (q6 [1,1,1,1,1,1]) := by kernel_rfl
theorem q6_111110 : q6 [1,1,1,1,1,0] = .region 9 (opsA (q6 [1,1,1,1,1,0])) false := by kernel_rfl
theorem q6_111111 : q6 [1,1,1,1,1,1] = .seq (q6 [1,1,1,1,1,1,0]) (q6 [1,1,1,1,1,1,1]) := by kernel_rfl
theorem q6_1111110 : q6 [1,1,1,1,1,1,0] = .seq (q6 [1,1,1,1,1,1,0,0]) (q6 [1,1,1,1,1,1,0,1]) := by kernel_rfl
theorem q6_11111100 : q6 [1,1,1,1,1,1,0,0] = .region 10 (opsA (q6 [1,1,1,1,1,1,0,0])) false := by kernel_rfl
theorem q6_11111101 : q6 [1,1,1,1,1,1,0,1] = .cond (.tmp 58) (q6 [1,1,1,1,1,1,0,1,3]) (q6 [1,1,1,1,1,1,0,1,4]) := by kernel_rfl
theorem q6_111111014 : q6 [1,1,1,1,1,1,0,1,4] = .skip := by kernel_rfl
theorem q6_1111111 : q6 [1,1,1,1,1,1,1] = .seq (q6 [1,1,1,1,1,1,1,0]) (q6 [1,1,1,1,1,1,1,1]) := by kernel_rfl
theorem q6_11111110 : q6 [1,1,1,1,1,1,1,0] = .seq (q6 [1,1,1,1,1,1,1,0,0]) (q6 [1,1,1,1,1,1,1,0,1]) := by kernel_rfl
theorem q6_111111100 : q6 [1,1,1,1,1,1,1,0,0] = .region 12 (opsA (q6 [1,1,1,1,1,1,1,0,0])) false := by kernel_rfl
theorem q6_111111101 : q6 [1,1,1,1,1,1,1,0,1] = .cond (.tmp 63) (q6 [1,1,1,1,1,1,1,0,1,3]) (q6 [1,1,1,1,1,1,1,0,1,4]) := by kernel_rfl
theorem q6_1111111014 : q6 [1,1,1,1,1,1,1,0,1,4] = .skip := by kernel_rfl
theorem q6_11111111 : q6 [1,1,1,1,1,1,1,1] = .seq (q6 [1,1,1,1,1,1,1,1,0]) (q6 [1,1,1,1,1,1,1,1,1]) := by kernel_rfl
theorem q6_111111110 : q6 [1,1,1,1,1,1,1,1,0] = .seq (q6 [1,1,1,1,1,1,1,1,0,0]) (q6 [1,1,1,1,1,1,1,1,0,1]) := by kernel_rfl
theorem q6_1111111100 : q6 [1,1,1,1,1,1,1,1,0,0] = .region 14 (opsA (q6 [1,1,1,1,1,1,1,1,0,0])) false := by kernel_rfl
theorem q6_1111111101 : q6 [1,1,1,1,1,1,1,1,0,1] = .seq (q6 [1,1,1,1,1,1,1,1,0,1,0]) (q6 [1,1,1,1,1,1,1,1,0,1,1]) := by kernel_rfl
theorem q6_11111111010 : q6 [1,1,1,1,1,1,1,1,0,1,0] = .region 15 (opsA (q6 [1,1,1,1,1,1,1,1,0,1,0])) false := by kernel_rfl
theorem q6_11111111011 : q6 [1,1,1,1,1,1,1,1,0,1,1] = .cond (.tmp 77) (q6 [1,1,1,1,1,1,1,1,0,1,1,3]) (q6 [1,1,1,1,1,1,1,1,0,1,1,4]) := by kernel_rfl
theorem q6_111111110114 : q6 [1,1,1,1,1,1,1,1,0,1,1,4] = .skip := by kernel_rfl
theorem q6_111111111 : q6 [1,1,1,1,1,1,1,1,1] = .seq (q6 [1,1,1,1,1,1,1,1,1,0]) (q6 [1,1,1,1,1,1,1,1,1,1]) := by kernel_rfl
theorem q6_1111111110 : q6 [1,1,1,1,1,1,1,1,1,0] = .region 21 (opsA (q6 [1,1,1,1,1,1,1,1,1,0])) false := by kernel_rfl
theorem q6_1111111111 : q6 [1,1,1,1,1,1,1,1,1,1] = .seq (q6 [1,1,1,1,1,1,1,1,1,1,0]) (q6 [1,1,1,1,1,1,1,1,1,1,1]) := by kernel_rfl
theorem q6_11111111110 : q6 [1,1,1,1,1,1,1,1,1,1,0] = .region 22 (opsA (q6 [1,1,1,1,1,1,1,1,1,1,0])) false := by kernel_rfl
theorem q6_11111111111 : q6 [1,1,1,1,1,1,1,1,1,1,1] = .ret := by kernel_rfl
noncomputable def q21 (p : List Nat) : Code := piece p (bodyOf Tryz.f21)
theorem q21_ : q21 [] = .seq (q21 [0]) (q21 [1]) := by kernel_rfl
theorem q21_0 : q21 [0] = .region 0 (opsA (q21 [0])) false := by kernel_rfl
theorem q21_1 : q21 [1] = .seq (q21 [1,0]) (q21 [1,1]) := by kernel_rfl
theorem q21_10 : q21 [1,0] = .block 0 (q21 [1,0,2]) := by kernel_rfl
theorem q21_102 : q21 [1,0,2] = .seq (q21 [1,0,2,0]) (q21 [1,0,2,1]) := by kernel_rfl
theorem q21_1020 : q21 [1,0,2,0] = .region 1 (opsA (q21 [1,0,2,0])) false := by kernel_rfl
theorem q21_1021 : q21 [1,0,2,1] = .cond (.tmp 7) (q21 [1,0,2,1,3]) (q21 [1,0,2,1,4]) := by kernel_rfl
theorem q21_10214 : q21 [1,0,2,1,4] = .seq (q21 [1,0,2,1,4,0]) (q21 [1,0,2,1,4,1]) := by kernel_rfl
theorem q21_102140 : q21 [1,0,2,1,4,0] = .region 3 (opsA (q21 [1,0,2,1,4,0])) false := by kernel_rfl
theorem q21_102141 : q21 [1,0,2,1,4,1] = .cond (.tmp 11) (q21 [1,0,2,1,4,1,3]) (q21 [1,0,2,1,4,1,4]) := by kernel_rfl
theorem q21_1021414 : q21 [1,0,2,1,4,1,4] = .seq (q21 [1,0,2,1,4,1,4,0]) (q21 [1,0,2,1,4,1,4,1]) := by kernel_rfl
theorem q21_10214140 : q21 [1,0,2,1,4,1,4,0] = .region 5 (opsA (q21 [1,0,2,1,4,1,4,0])) false := by kernel_rfl
theorem q21_10214141 : q21 [1,0,2,1,4,1,4,1] = .cond (.tmp 16) (q21 [1,0,2,1,4,1,4,1,3]) (q21 [1,0,2,1,4,1,4,1,4]) := by kernel_rfl
theorem q21_102141414 : q21 [1,0,2,1,4,1,4,1,4] = .skip := by kernel_rfl
theorem q21_11 : q21 [1,1] = .seq (q21 [1,1,0]) (q21 [1,1,1]) := by kernel_rfl
theorem q21_110 : q21 [1,1,0] = .region 7 (opsA (q21 [1,1,0])) false := by kernel_rfl
theorem q21_111 : q21 [1,1,1] = .seq (q21 [1,1,1,0]) (q21 [1,1,1,1]) := by kernel_rfl
theorem q21_1110 : q21 [1,1,1,0] = .region 8 (opsA (q21 [1,1,1,0])) false := by kernel_rfl
theorem q21_1111 : q21 [1,1,1,1] = .seq (q21 [1,1,1,1,0]) (q21 [1,1,1,1,1]) := by kernel_rfl
theorem q21_11110 : q21 [1,1,1,1,0] = .region 9 (opsA (q21 [1,1,1,1,0])) true := by kernel_rfl
theorem q21_11111 : q21 [1,1,1,1,1] = .seq (q21 [1,1,1,1,1,0]) (q21 [1,1,1,1,1,1]) := by kernel_rfl
theorem q21_111110 : q21 [1,1,1,1,1,0] = .region 10 (opsA (q21 [1,1,1,1,1,0])) false := by kernel_rfl
theorem q21_111111 : q21 [1,1,1,1,1,1] = .ret := by kernel_rfl
noncomputable def q47 (p : List Nat) : Code := piece p (bodyOf Tryz.f47)
theorem q47_ : q47 [] = .seq (q47 [0]) (q47 [1]) := by kernel_rfl
theorem q47_0 : q47 [0] = .region 0 (opsA (q47 [0])) false := by kernel_rfl
theorem q47_1 : q47 [1] = .seq (q47 [1,0]) (q47 [1,1]) := by kernel_rfl
theorem q47_10 : q47 [1,0] = .region 1 (opsA (q47 [1,0])) false := by kernel_rfl
theorem q47_11 : q47 [1,1] = .seq (q47 [1,1,0]) (q47 [1,1,1]) := by kernel_rfl
theorem q47_110 : q47 [1,1,0] = .seq (q47 [1,1,0,0]) (q47 [1,1,0,1]) := by kernel_rfl
theorem q47_1100 : q47 [1,1,0,0] = .region 2 (opsA (q47 [1,1,0,0])) false := by kernel_rfl
theorem q47_1101 : q47 [1,1,0,1] = .block 0 (q47 [1,1,0,1,2]) := by kernel_rfl
theorem q47_11012 : q47 [1,1,0,1,2] = .loop (q47 [1,1,0,1,2,2]) := by kernel_rfl
theorem q47_110122 : q47 [1,1,0,1,2,2] = .seq (q47 [1,1,0,1,2,2,0]) (q47 [1,1,0,1,2,2,1]) := by kernel_rfl
theorem q47_1101220 : q47 [1,1,0,1,2,2,0] = .region 3 (opsA (q47 [1,1,0,1,2,2,0])) false := by kernel_rfl
theorem q47_1101221 : q47 [1,1,0,1,2,2,1] = .seq (q47 [1,1,0,1,2,2,1,0]) (q47 [1,1,0,1,2,2,1,1]) := by kernel_rfl
theorem q47_11012210 : q47 [1,1,0,1,2,2,1,0] = .cond (.tmp 17) (q47 [1,1,0,1,2,2,1,0,3]) (q47 [1,1,0,1,2,2,1,0,4]) := by kernel_rfl
theorem q47_110122104 : q47 [1,1,0,1,2,2,1,0,4] = .exit 0 := by kernel_rfl
theorem q47_111 : q47 [1,1,1] = .seq (q47 [1,1,1,0]) (q47 [1,1,1,1]) := by kernel_rfl
theorem q47_1110 : q47 [1,1,1,0] = .region 7 (opsA (q47 [1,1,1,0])) true := by kernel_rfl
theorem q47_1111 : q47 [1,1,1,1] = .ret := by kernel_rfl
theorem rs47 : Tryz.f47.results.toList = [.cell 4 92] := rfl
theorem rs21 : Tryz.f21.results.toList = [.tmp 6] := rfl
theorem rs6 : Tryz.f6.results.toList = [.tmp 6] := rfl
attribute [go_sem] rs47 rs21 rs6
noncomputable def cloneM (h : Go.Ev.H) : Go.Ev.H := ((((((h.new (.row 4 [[.mnil, .mnil, .mnil, .pnil]] false)).new (.map [])).new (.row 1 [[.map (h.next + 1)]] false)).new (.map [])).new (.map [])).new (.map [])).put h.next (.row 4 [[.map (h.next + 1 + 1 + 1), .map (h.next + 1 + 1 + 1 + 1), .map (h.next + 1 + 1 + 1 + 1 + 1), .ptr (h.next + 1 + 1) 0]] false)
noncomputable def xClone : Kn1 := fun args h => match args with
 | [.c (.ptr t 0), .c (.int .u32 _)] => (getTx h t).bind fun X => (getRv h X.rv).bind fun m => askB (voidM h m && voidM h X.ch && voidM h X.od && voidM h X.fr) (some (.w (.g [.map (h.next + 1 + 1 + 1), .map (h.next + 1 + 1 + 1 + 1), .map (h.next + 1 + 1 + 1 + 1 + 1), .ptr (h.next + 1 + 1) 0]), cloneM h))
 | _ => none
noncomputable def begM (h : Go.Ev.H) (t : Nat) (X : Tx) (c r : Int) : Go.Ev.H :=
 (cloneM ((((((h.put t (.row 13 [txL { X with op := true }] false)).put t (.row 13 [txL { X with op := true, cr := c }] false)).put t (.row 13 [txL { X with op := true, cr := c, rk := r }] false)).new (.map [])).put t (.row 13 [txL { X with op := true, cr := c, rk := r, to := .map h.next }] false)))).put t (.row 13 [txL { X with op := true, cr := c, rk := r, to := .map h.next, b1 := .map (h.next + 1 + 1 + 1 + 1), b2 := .map (h.next + 1 + 1 + 1 + 1 + 1), b3 := .map (h.next + 1 + 1 + 1 + 1 + 1 + 1), b4 := .ptr (h.next + 1 + 1 + 1) 0 }] false)
noncomputable def xTBegin : Kn1 := fun args h => match args with
 | [.c (.ptr t 0), .c (.int .i64 c), .c (.int .i64 r)] => (getTx h t).bind fun X => (getRv h X.rv).bind fun m => askB (!X.op && decide (0 ≤ c) && decide (0 ≤ r) && voidM h m && voidM h X.ch && voidM h X.od && voidM h X.fr) (some (.w (.c (.int .i64 0)), begM h t X c r))
 | _ => none
noncomputable def cleanM (h : Go.Ev.H) (s : Nat) (S : Stt) : Go.Ev.H := ((((h.new (.map [])).put s (.row 8 [stL { S with dt := h.next }] false)).new (.map [])).put s (.row 8 [stL { S with dt := h.next, gv := h.next + 1 }] false)).put s (.row 8 [stL { S with dt := h.next, gv := h.next + 1, kn := false }] false)
noncomputable def xSBegin : Kn1 := fun args h => match args with
 | [.c (.ptr s 0), .c (.int .i64 c), .c (.int .i64 r)] => (getSt h s).bind fun S => (getTx h S.tx).bind fun X => (getGd h S.gd).bind fun _ => (getRv h X.rv).bind fun m => askB (decide (c = 33) && decide (r = 0) && !X.op && decide (X.sq ≤ 2147483648) && voidM h m && voidM h X.ch && voidM h X.od && voidM h X.fr) (some (.w (.c (.int .i64 0)), begM (cleanM h s S) S.tx X 33 0))
 | _ => none
attribute [go_sem] xClone xTBegin xSBegin
theorem lfIntsN' : lenFits K 53 (.c .snil) = true := by kernel_rfl
attribute [go_sem] lfIntsN'
section
variable (Hh : Hearts K Tryz.prog)
include Hh
theorem xClone_ok {args : List W} {h h' : Go.Ev.H} {v : V} (e : xClone args h = some (v, h')) : CallOk K Tryz.prog 47 args h v h' := by
 unfold xClone at e
 split at e
 ·rename_i t q
  obtain ⟨X, ht, e⟩ := bind_of e
  have ht := getTx_some ht
  obtain ⟨m, hr, e⟩ := bind_of e
  have hr := getRv_some hr
  obtain ⟨b, e⟩ := askB_some.1 e
  cases e
  simp only [Bool.and_eq_true] at b
  obtain ⟨⟨⟨b1, b2⟩, b3⟩, b4⟩ := b
  have hm := voidM_true b1
  have hc := voidM_true b2
  have ho := voidM_true b3
  have hf := voidM_true b4
  refine CallOk.tidy ⟨Tryz.f47, Tryz.func47, by kernel_rfl, by decide⟩ fun tidy => ?_
  have l1 := tidy _ _ ht
  have l2 := tidy _ _ hr
  have l3 := tidy _ _ hm
  have l4 := tidy _ _ hc
  have l5 := tidy _ _ ho
  have l6 := tidy _ _ hf
  refine CallOk.goes fits Hh (by kernel_rfl) (by kernel_rfl) (by kernel_rfl) (show Tryz.f47.body = some (q47 []) by kernel_rfl) rfl ?_
  show Goes K Tryz.prog 42 none _ _ _ _ _
  refine Goes.seqQ q47_ ?_
  refine Goes.opsQ q47_0 fits Hh E0_sound (by
   simp (maxSteps := 999999) +decide (discharger := first | omega | (simp only [lens] <;> omega) | decide) only [go_sem, q47, Tryz.f47, readRow, loadIn, simprocAttr, ht, hr, hm, hc, ho, hf, read1, opBuiltin, opLen, writeRow]
   rfl) ?_
  refine Goes.seqQ q47_1 ?_
  refine Goes.opsQ q47_10 fits Hh (EX_sound E0_sound (fun _ _ _ _ => xRvNew_ok Hh)) (by
   simp (maxSteps := 999999) +decide (discharger := first | omega | (simp only [lens] <;> omega) | decide) only [go_sem, q47, Tryz.f47, readRow, loadIn, simprocAttr, ht, hr, hm, hc, ho, hf, read1, opBuiltin, opLen, writeRow]
   rfl) ?_
  refine Goes.seqQ q47_11 ?_
  refine Goes.seqQ q47_110 ?_
  refine Goes.opsQ q47_1100 fits Hh (EX_sound E0_sound (fun _ _ _ _ => xROf_ok Hh)) (by
   simp (maxSteps := 999999) +decide (discharger := first | omega | (simp only [lens] <;> omega) | decide) only [go_sem, q47, Tryz.f47, readRow, loadIn, simprocAttr, ht, hr, hm, hc, ho, hf, read1, opBuiltin, opLen, writeRow]
   rfl) ?_
  refine Goes.blockQ q47_1101 (Goes.block ?_)
  refine Goes.loopQ q47_11012 (Goes.loop ?_)
  refine Goes.seqQ q47_110122 ?_
  refine Goes.opsQ q47_1101220 fits Hh E0_sound (by
   simp (maxSteps := 999999) +decide (discharger := first | omega | (simp only [lens] <;> omega) | decide) only [go_sem, q47, Tryz.f47, readRow, loadIn, simprocAttr, ht, hr, hm, hc, ho, hf, read1, opBuiltin, opLen, writeRow]
   rfl) ?_
  refine Goes.seqQ q47_1101221 ?_
  refine Goes.condFQ q47_11012210 (by simp (maxSteps := 999999) +decide (discharger := first | omega | (simp only [lens] <;> omega) | decide) only [go_sem, readRow, loadIn, simprocAttr, ht, hr, hm, hc, ho, hf, read1, opBuiltin, opLen, writeRow] <;> rfl) (by first | rfl | assumption | exact decide_eq_false (by omega) | (simp; omega)) ?_
  refine Goes.exitQ q47_110122104 ?_
  refine Goes.seqQ q47_111 ?_
  refine Goes.drawnQ q47_1110 fits Hh (EX_sound (EX_sound E0_sound (fun _ _ _ _ => xCloneB_ok Hh)) (fun _ _ _ _ => xCloneV_ok Hh)) (by kernel_rfl) (by
   simp (maxSteps := 999999) +decide (discharger := first | omega | (simp only [lens] <;> omega) | decide) only [go_sem, q47, Tryz.f47, readRow, loadIn, simprocAttr, op_move, op_assign, op_binOp, op_unOp, op_convert, op_load, op_store, op_indexAddr, op_alloc, op_pick, op_box, op_build, op_buildSlice, op_nilCheck, op_makeSlice, op_fieldAddr, op_field, op_extract, op_lookup, op_mapUpdate, op_builtin, op_index, drEnd, drAll, drOne, drTs, drKd, drPure, drRead, drAlloc, drEff, drSkip, drPut, putT_ok, putT_none, cutT, looks, tmpOf, Op.operands, Call.operands, kd, kdCall, List.filterMap_cons, List.filterMap_nil, List.append_nil, List.nil_append, List.cons_append, stables, stable, reachAt, reachP, waitsAt, waits, gives_self, List.all_cons, List.all_nil, List.any_cons, List.any_nil, Region.binds, Bool.or_true, Bool.true_or, Bool.and_true, Bool.true_and, Bool.or_false, Bool.false_or, Bool.and_self, Bool.or_self, ble_true, Nat.le_refl, Nat.le_add_right, List.map_cons, Array.toList_append, ht, hr, hm, hc, ho, hf, read1, opBuiltin, opLen, writeRow]
   rfl) ?_
  refine Goes.retQ q47_1111 ?_
  simp (maxSteps := 999999) +decide (discharger := first | omega | (simp only [lens] <;> omega) | decide) only [go_sem, readRow, loadIn, simprocAttr, cloneM] <;> rfl
 ·cases e
set_option maxHeartbeats 1000000 in
theorem xTBegin_ok {args : List W} {h h' : Go.Ev.H} {v : V} (e : xTBegin args h = some (v, h')) : CallOk K Tryz.prog 21 args h v h' := by
 unfold xTBegin at e
 split at e
 ·rename_i t c r
  obtain ⟨X, ht, e⟩ := bind_of e
  have ht := getTx_some ht
  obtain ⟨m, hr, e⟩ := bind_of e
  have hr := getRv_some hr
  obtain ⟨b, e⟩ := askB_some.1 e
  cases e
  simp only [Bool.and_eq_true, decide_eq_true_eq, Bool.not_eq_true'] at b
  obtain ⟨⟨⟨⟨⟨⟨bo, c0⟩, r0⟩, b1⟩, b2⟩, b3⟩, b4⟩ := b
  have hm := voidM_true b1
  have hc := voidM_true b2
  have ho := voidM_true b3
  have hf := voidM_true b4
  refine CallOk.tidy ⟨Tryz.f21, Tryz.func21, by kernel_rfl, by decide⟩ fun tidy => ?_
  have l1 := tidy _ _ ht
  have l2 := tidy _ _ hr
  have l3 := tidy _ _ hm
  have l4 := tidy _ _ hc
  have l5 := tidy _ _ ho
  have l6 := tidy _ _ hf
  have n2 : X.rv ≠ t := fun e1 => by rw [e1, ht] at hr; cases hr
  have n3 : m ≠ t := fun e1 => by rw [e1, ht] at hm; cases hm
  have n4 : X.ch ≠ t := fun e1 => by rw [e1, ht] at hc; cases hc
  have n5 : X.od ≠ t := fun e1 => by rw [e1, ht] at ho; cases ho
  have n6 : X.fr ≠ t := fun e1 => by rw [e1, ht] at hf; cases hf
  refine CallOk.goes fits Hh (by kernel_rfl) (by kernel_rfl) (by kernel_rfl) (show Tryz.f21.body = some (q21 []) by kernel_rfl) rfl ?_
  show Goes K Tryz.prog 49 none _ _ _ _ _
  refine Goes.seqQ q21_ ?_
  refine Goes.opsQ q21_0 fits Hh E0_sound (by
   simp (maxSteps := 999999) +decide (discharger := first | omega | (simp only [lens] <;> omega) | decide) only [go_sem, q21, Tryz.f21, readRow, loadIn, simprocAttr, ht, bo, hr, hm, hc, ho, hf, read1, writeRow, cloneM]
   rfl) ?_
  refine Goes.seqQ q21_1 ?_
  refine Goes.blockQ q21_10 (Goes.block ?_)
  refine Goes.seqQ q21_102 ?_
  refine Goes.opsQ q21_1020 fits Hh (EX_sound E0_sound (fun _ _ _ _ => xTMade_ok Hh)) (by
   simp (maxSteps := 999999) +decide (discharger := first | omega | (simp only [lens] <;> omega) | decide) only [go_sem, q21, Tryz.f21, readRow, loadIn, simprocAttr, ht, bo, hr, hm, hc, ho, hf, read1, writeRow, cloneM]
   rfl) ?_
  refine Goes.condFQ q21_1021 (by simp (maxSteps := 999999) +decide (discharger := first | omega | (simp only [lens] <;> omega) | decide) only [go_sem, readRow, loadIn, simprocAttr, ht, bo, hr, hm, hc, ho, hf, read1, writeRow, cloneM] <;> rfl) (by first | rfl | assumption | exact decide_eq_false (by omega) | (simp; omega)) ?_
  refine Goes.seqQ q21_10214 ?_
  refine Goes.opsQ q21_102140 fits Hh E0_sound (by
   simp (maxSteps := 999999) +decide (discharger := first | omega | (simp only [lens] <;> omega) | decide) only [go_sem, q21, Tryz.f21, readRow, loadIn, simprocAttr, ht, bo, hr, hm, hc, ho, hf, read1, writeRow, cloneM]
   rfl) ?_
  refine Goes.condFQ q21_102141 (by simp (maxSteps := 999999) +decide (discharger := first | omega | (simp only [lens] <;> omega) | decide) only [go_sem, readRow, loadIn, simprocAttr, ht, bo, hr, hm, hc, ho, hf, read1, writeRow, cloneM] <;> rfl) (by first | rfl | assumption | exact decide_eq_false (by omega) | (simp; omega)) ?_
  refine Goes.seqQ q21_1021414 ?_
  refine Goes.opsQ q21_10214140 fits Hh E0_sound (by
   simp (maxSteps := 999999) +decide (discharger := first | omega | (simp only [lens] <;> omega) | decide) only [go_sem, q21, Tryz.f21, readRow, loadIn, simprocAttr, ht, bo, hr, hm, hc, ho, hf, read1, writeRow, cloneM]
   rfl) ?_
  refine Goes.condFQ q21_10214141 (by simp (maxSteps := 999999) +decide (discharger := first | omega | (simp only [lens] <;> omega) | decide) only [go_sem, readRow, loadIn, simprocAttr, ht, bo, hr, hm, hc, ho, hf, read1, writeRow, cloneM] <;> rfl) (by first | rfl | assumption | exact decide_eq_false (by omega) | (simp; omega)) ?_
  refine Goes.skipQ q21_102141414 ?_
  refine Goes.seqQ q21_11 ?_
  refine Goes.opsQ q21_110 fits Hh E0_sound (by
   simp only [q21, Tryz.f21, piece, part0, part1, part2, part2l, part3, part4, part5, part6, bodyOf, opsA]
   iterate 14 (refine evOps_step (by simp (maxSteps := 999999) +decide (discharger := first | omega | (simp only [lens] <;> omega) | decide) only [go_sem, readRow, loadIn, simprocAttr, ht, bo, hr, hm, hc, ho, hf, read1, writeRow, cloneM] <;> rfl) ?_)
   exact evOps_done) ?_
  refine Goes.seqQ q21_111 ?_
  refine Goes.opsQ q21_1110 fits Hh E0_sound (by
   simp (maxSteps := 999999) +decide (discharger := first | omega | (simp only [lens] <;> omega) | decide) only [go_sem, q21, Tryz.f21, readRow, loadIn, simprocAttr, ht, bo, hr, hm, hc, ho, hf, read1, writeRow, cloneM]
   rfl) ?_
  refine Goes.seqQ q21_1111 ?_
  refine Goes.drawnQ q21_11110 fits Hh (EX_sound E0_sound (fun _ _ _ _ => xClone_ok Hh)) (by kernel_rfl) (by
   simp (maxSteps := 999999) +decide (discharger := first | omega | (simp only [lens] <;> omega) | decide) only [go_sem, q21, Tryz.f21, readRow, loadIn, simprocAttr, op_move, op_assign, op_binOp, op_unOp, op_convert, op_load, op_store, op_indexAddr, op_alloc, op_pick, op_box, op_build, op_buildSlice, op_nilCheck, op_makeSlice, op_fieldAddr, op_field, op_extract, op_lookup, op_mapUpdate, op_builtin, op_index, drEnd, drAll, drOne, drTs, drKd, drPure, drRead, drAlloc, drEff, drSkip, drPut, putT_ok, putT_none, cutT, looks, tmpOf, Op.operands, Call.operands, kd, kdCall, List.filterMap_cons, List.filterMap_nil, List.append_nil, List.nil_append, List.cons_append, stables, stable, reachAt, reachP, waitsAt, waits, gives_self, List.all_cons, List.all_nil, List.any_cons, List.any_nil, Region.binds, Bool.or_true, Bool.true_or, Bool.and_true, Bool.true_and, Bool.or_false, Bool.false_or, Bool.and_self, Bool.or_self, ble_true, Nat.le_refl, Nat.le_add_right, List.map_cons, Array.toList_append, ht, bo, hr, hm, hc, ho, hf, read1, writeRow, cloneM]
   rfl) ?_
  refine Goes.seqQ q21_11111 ?_
  refine Goes.opsQ q21_111110 fits Hh E0_sound (by
   simp (maxSteps := 999999) +decide (discharger := first | omega | (simp only [lens] <;> omega) | decide) only [go_sem, q21, Tryz.f21, readRow, loadIn, simprocAttr, ht, bo, hr, hm, hc, ho, hf, read1, writeRow, cloneM]
   rfl) ?_
  refine Goes.retQ q21_111111 ?_
  simp (maxSteps := 999999) +decide (discharger := first | omega | (simp only [lens] <;> omega) | decide) only [go_sem, readRow, loadIn, simprocAttr, begM, cloneM] <;> rfl
 ·cases e
end
end Go.Proofs.YtpiljmilaelfnaaGreatDoor
