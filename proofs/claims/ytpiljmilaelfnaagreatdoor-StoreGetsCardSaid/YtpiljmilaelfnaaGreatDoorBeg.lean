/- What Begin asks: revoked and changed blocks, if there are none; need. -/
import Derived.Test.YtpiljmilaelfnaaGreatDoorSto
import Derived.Test.YtpiljmilaelfnaaGreatDoorNew
set_option linter.unusedSimpArgs false
set_option linter.unusedVariables false
set_option linter.unusedSectionVars false
set_option maxRecDepth 100000
namespace Go.Proofs.YtpiljmilaelfnaaGreatDoor
open Go.Ev
noncomputable def q18 (p : List Nat) : Code := piece p (bodyOf Tryz.f18)
theorem q18_ : q18 [] = .seq (q18 [0]) (q18 [1]) := by kernel_rfl
theorem q18_0 : q18 [0] = .region 0 (opsA (q18 [0])) false := by kernel_rfl
theorem q18_1 : q18 [1] = .seq (q18 [1,0]) (q18 [1,1]) := by kernel_rfl
theorem q18_10 : q18 [1,0] = .region 1 (opsA (q18 [1,0])) false := by kernel_rfl
theorem q18_11 : q18 [1,1] = .seq (q18 [1,1,0]) (q18 [1,1,1]) := by kernel_rfl
theorem q18_110 : q18 [1,1,0] = .region 2 (opsA (q18 [1,1,0])) false := by kernel_rfl
theorem q18_111 : q18 [1,1,1] = .ret := by kernel_rfl
noncomputable def q28 (p : List Nat) : Code := piece p (bodyOf Tryz.f28)
theorem q28_ : q28 [] = .seq (q28 [0]) (q28 [1]) := by kernel_rfl
theorem q28_0 : q28 [0] = .region 0 (opsA (q28 [0])) false := by kernel_rfl
theorem q28_1 : q28 [1] = .seq (q28 [1,0]) (q28 [1,1]) := by kernel_rfl
theorem q28_10 : q28 [1,0] = .region 1 (opsA (q28 [1,0])) false := by kernel_rfl
theorem q28_11 : q28 [1,1] = .ret := by kernel_rfl
noncomputable def q32 (p : List Nat) : Code := piece p (bodyOf Tryz.f32)
theorem q32_ : q32 [] = .seq (q32 [0]) (q32 [1]) := by kernel_rfl
theorem q32_0 : q32 [0] = .region 0 (opsA (q32 [0])) false := by kernel_rfl
theorem q32_1 : q32 [1] = .seq (q32 [1,0]) (q32 [1,1]) := by kernel_rfl
theorem q32_10 : q32 [1,0] = .region 1 (opsA (q32 [1,0])) false := by kernel_rfl
theorem q32_11 : q32 [1,1] = .ret := by kernel_rfl
noncomputable def q41 (p : List Nat) : Code := piece p (bodyOf Tryz.f41)
theorem q41_ : q41 [] = .seq (q41 [0]) (q41 [1]) := by kernel_rfl
theorem q41_0 : q41 [0] = .region 0 (opsA (q41 [0])) false := by kernel_rfl
theorem q41_1 : q41 [1] = .seq (q41 [1,0]) (q41 [1,1]) := by kernel_rfl
theorem q41_10 : q41 [1,0] = .seq (q41 [1,0,0]) (q41 [1,0,1]) := by kernel_rfl
theorem q41_100 : q41 [1,0,0] = .region 1 (opsA (q41 [1,0,0])) false := by kernel_rfl
theorem q41_101 : q41 [1,0,1] = .cond (.tmp 5) (q41 [1,0,1,3]) (q41 [1,0,1,4]) := by kernel_rfl
theorem q41_1014 : q41 [1,0,1,4] = .skip := by kernel_rfl
theorem q41_11 : q41 [1,1] = .seq (q41 [1,1,0]) (q41 [1,1,1]) := by kernel_rfl
theorem q41_110 : q41 [1,1,0] = .region 3 (opsA (q41 [1,1,0])) true := by kernel_rfl
theorem q41_111 : q41 [1,1,1] = .ret := by kernel_rfl
noncomputable def q42 (p : List Nat) : Code := piece p (bodyOf Tryz.f42)
theorem q42_ : q42 [] = .seq (q42 [0]) (q42 [1]) := by kernel_rfl
theorem q42_0 : q42 [0] = .region 0 (opsA (q42 [0])) false := by kernel_rfl
theorem q42_1 : q42 [1] = .seq (q42 [1,0]) (q42 [1,1]) := by kernel_rfl
theorem q42_10 : q42 [1,0] = .seq (q42 [1,0,0]) (q42 [1,0,1]) := by kernel_rfl
theorem q42_100 : q42 [1,0,0] = .region 1 (opsA (q42 [1,0,0])) false := by kernel_rfl
theorem q42_101 : q42 [1,0,1] = .cond (.tmp 5) (q42 [1,0,1,3]) (q42 [1,0,1,4]) := by kernel_rfl
theorem q42_1014 : q42 [1,0,1,4] = .skip := by kernel_rfl
theorem q42_11 : q42 [1,1] = .seq (q42 [1,1,0]) (q42 [1,1,1]) := by kernel_rfl
theorem q42_110 : q42 [1,1,0] = .region 3 (opsA (q42 [1,1,0])) false := by kernel_rfl
theorem q42_111 : q42 [1,1,1] = .ret := by kernel_rfl
noncomputable def q73 (p : List Nat) : Code := piece p (bodyOf Tryz.f73)
theorem q73_ : q73 [] = .seq (q73 [0]) (q73 [1]) := by kernel_rfl
theorem q73_0 : q73 [0] = .region 0 (opsA (q73 [0])) false := by kernel_rfl
theorem q73_1 : q73 [1] = .seq (q73 [1,0]) (q73 [1,1]) := by kernel_rfl
theorem q73_10 : q73 [1,0] = .seq (q73 [1,0,0]) (q73 [1,0,1]) := by kernel_rfl
theorem q73_100 : q73 [1,0,0] = .region 1 (opsA (q73 [1,0,0])) false := by kernel_rfl
theorem q73_101 : q73 [1,0,1] = .cond (.tmp 9) (q73 [1,0,1,3]) (q73 [1,0,1,4]) := by kernel_rfl
theorem q73_1014 : q73 [1,0,1,4] = .skip := by kernel_rfl
theorem q73_11 : q73 [1,1] = .seq (q73 [1,1,0]) (q73 [1,1,1]) := by kernel_rfl
theorem q73_110 : q73 [1,1,0] = .region 3 (opsA (q73 [1,1,0])) false := by kernel_rfl
theorem q73_111 : q73 [1,1,1] = .seq (q73 [1,1,1,0]) (q73 [1,1,1,1]) := by kernel_rfl
theorem q73_1110 : q73 [1,1,1,0] = .seq (q73 [1,1,1,0,0]) (q73 [1,1,1,0,1]) := by kernel_rfl
theorem q73_11100 : q73 [1,1,1,0,0] = .region 4 (opsA (q73 [1,1,1,0,0])) false := by kernel_rfl
theorem q73_11101 : q73 [1,1,1,0,1] = .block 0 (q73 [1,1,1,0,1,2]) := by kernel_rfl
theorem q73_111012 : q73 [1,1,1,0,1,2] = .loop (q73 [1,1,1,0,1,2,2]) := by kernel_rfl
theorem q73_1110122 : q73 [1,1,1,0,1,2,2] = .seq (q73 [1,1,1,0,1,2,2,0]) (q73 [1,1,1,0,1,2,2,1]) := by kernel_rfl
theorem q73_11101220 : q73 [1,1,1,0,1,2,2,0] = .region 5 (opsA (q73 [1,1,1,0,1,2,2,0])) false := by kernel_rfl
theorem q73_11101221 : q73 [1,1,1,0,1,2,2,1] = .seq (q73 [1,1,1,0,1,2,2,1,0]) (q73 [1,1,1,0,1,2,2,1,1]) := by kernel_rfl
theorem q73_111012210 : q73 [1,1,1,0,1,2,2,1,0] = .cond (.tmp 16) (q73 [1,1,1,0,1,2,2,1,0,3]) (q73 [1,1,1,0,1,2,2,1,0,4]) := by kernel_rfl
theorem q73_1110122104 : q73 [1,1,1,0,1,2,2,1,0,4] = .exit 0 := by kernel_rfl
theorem q73_1111 : q73 [1,1,1,1] = .seq (q73 [1,1,1,1,0]) (q73 [1,1,1,1,1]) := by kernel_rfl
theorem q73_11110 : q73 [1,1,1,1,0] = .region 9 (opsA (q73 [1,1,1,1,0])) false := by kernel_rfl
theorem q73_11111 : q73 [1,1,1,1,1] = .seq (q73 [1,1,1,1,1,0]) (q73 [1,1,1,1,1,1]) := by kernel_rfl
theorem q73_111110 : q73 [1,1,1,1,1,0] = .region 10 (opsA (q73 [1,1,1,1,1,0])) false := by kernel_rfl
theorem q73_111111 : q73 [1,1,1,1,1,1] = .ret := by kernel_rfl
noncomputable def q74 (p : List Nat) : Code := piece p (bodyOf Tryz.f74)
theorem q74_ : q74 [] = .seq (q74 [0]) (q74 [1]) := by kernel_rfl
theorem q74_0 : q74 [0] = .region 0 (opsA (q74 [0])) false := by kernel_rfl
theorem q74_1 : q74 [1] = .seq (q74 [1,0]) (q74 [1,1]) := by kernel_rfl
theorem q74_10 : q74 [1,0] = .region 1 (opsA (q74 [1,0])) false := by kernel_rfl
theorem q74_11 : q74 [1,1] = .ret := by kernel_rfl
noncomputable def q95 (p : List Nat) : Code := piece p (bodyOf Tryz.f95)
theorem q95_ : q95 [] = .seq (q95 [0]) (q95 [1]) := by kernel_rfl
theorem q95_0 : q95 [0] = .region 0 (opsA (q95 [0])) false := by kernel_rfl
theorem q95_1 : q95 [1] = .seq (q95 [1,0]) (q95 [1,1]) := by kernel_rfl
theorem q95_10 : q95 [1,0] = .region 1 (opsA (q95 [1,0])) false := by kernel_rfl
theorem q95_11 : q95 [1,1] = .ret := by kernel_rfl
theorem rs73 : Tryz.f73.results.toList = [.tmp 4] := rfl
theorem rs41 : Tryz.f41.results.toList = [.tmp 2] := rfl
theorem rs42 : Tryz.f42.results.toList = [.tmp 2] := rfl
theorem rs95 : Tryz.f95.results.toList = [.tmp 2] := rfl
theorem rs28 : Tryz.f28.results.toList = [.tmp 2] := rfl
theorem rs32 : Tryz.f32.results.toList = [.tmp 2] := rfl
theorem rs74 : Tryz.f74.results.toList = [.tmp 2] := rfl
theorem rs18 : Tryz.f18.results.toList = [.tmp 6, .tmp 7] := rfl
attribute [go_sem] rs73 rs41 rs42 rs95 rs28 rs32 rs74 rs18
noncomputable def xSort0 : Kn1 := fun args h => match args with
 | [.c .snil] => some (.tup [], h)
 | _ => none
noncomputable def xROf : Kn1 := fun args h => match args with
 | [.c (.ptr r 0), .c (.int .u32 _)] => (getRv h r).bind fun m => askB (voidM h m) (some (.w (.c .snil), h))
 | _ => none
noncomputable def xTRevoked : Kn1 := fun args h => match args with
 | [.c (.ptr t 0)] => (getTx h t).bind fun X => (getRv h X.rv).bind fun m => askB (voidM h m) (some (.w (.c .snil), h))
 | _ => none
noncomputable def xTChanged : Kn1 := fun args h => match args with
 | [.c (.ptr t 0)] => (getTx h t).bind fun X => askB (voidM h X.ch) (some (.w (.c .snil), h))
 | _ => none
noncomputable def xKeysB : Kn1 := fun args h => match args with
 | [.c (.map m)] => some (.w (.c (.fn 121 [] [some (h.next, 0)])), h.new (.row 1 [[.map m]] false))
 | _ => none
noncomputable def xKeysI : Kn1 := fun args h => match args with
 | [.c (.map m)] => some (.w (.c (.fn 57 [] [some (h.next, 0)])), h.new (.row 1 [[.map m]] false))
 | _ => none
noncomputable def xKeysC : Kn1 := fun args h => match args with
 | [.c (.map m)] => some (.w (.c (.fn 61 [] [some (h.next, 0)])), h.new (.row 1 [[.map m]] false))
 | _ => none
noncomputable def xSorted : Kn1 := fun args h => match args with
 | [.c (.fn g [] [some (a, 0)])] => askB (K.keys.contains g) (match h.get a with
  | some (.row sz [[.map n]] _) => askB (Nat.beq sz 1) ((getM h n).bind fun l => match sortedKeys (ents l) with
   | some [] => some (.w (.c .snil), h)
   | some (k :: ks) => askB (Nat.ble (k :: ks).length 1000000) (some (.w (.c (.slice h.next 0 (k :: ks).length 1)), h.new (.row 1 ((k :: ks).map fun i => [.int .i64 i]) false)))
   | none => none)
  | _ => none)
 | _ => none
noncomputable def xRisB : Kn1 := fun args h => match args with
 | [.c (.map m)] => askB (voidM h m) (some (.w (.c .snil), h))
 | _ => none
noncomputable def xSize : Kn1 := fun args h => match args with
 | [.c (.int .i64 a), .c (.int .i64 b)] => askB (decide (a = 33) && decide (b = 0)) (some (.w (.c (.int .i64 36)), h))
 | _ => none
noncomputable def xNeed : Kn1 := fun args h => match args with
 | [.c (.ptr s 0), .c (.int .i64 a), .c (.int .i64 b)] => (getSt h s).bind fun S => (getTx h S.tx).bind fun X => (getRv h X.rv).bind fun m => askB (voidM h m && voidM h X.ch && decide (a = 33) && decide (b = 0)) (some (.tup [.c (.int .i64 36), .c (.int .i64 0)], h))
 | _ => none
noncomputable def xCloneB : Kn1 := fun args h => match args with
 | [.c (.map m)] => match h.get m with
  | some (.map es) => some (.w (.c (.map h.next)), h.new (.map es))
  | _ => none
 | _ => none
noncomputable def xCloneV : Kn1 := fun args h => match args with
 | [.c (.map m)] => match h.get m with
  | some (.map es) => some (.w (.c (.map h.next)), h.new (.map es))
  | _ => none
 | _ => none
attribute [go_sem] xSort0 xROf xTRevoked xTChanged xKeysB xKeysI xKeysC xSorted xRisB xSize xNeed xCloneB xCloneV
theorem keysB1 : K.keys.contains 121 = true := by kernel_rfl
theorem keysI1 : K.keys.contains 57 = true := by kernel_rfl
theorem keysC1 : K.keys.contains 61 = true := by kernel_rfl
theorem lfIntsN : lenFits K 53 (.c .snil) = true := by kernel_rfl
theorem sortK0 : sortedKeys (ents []) = some [] := rfl
theorem entsOf0 : entsOf [] = some [] := rfl
attribute [go_sem] keysB1 keysI1 keysC1 lfIntsN sortK0 entsOf0
theorem any_rangeM (E : Task → Option Out) (ts : Tmps) (h : Go.Ev.H) (t : TypeId) (x : Operand) : evAny K E ts h (.range t x) = (match mapTI K t with | some _ => opRange h (evalC K ts x) | none => none) := rfl
theorem any_nextM (E : Task → Option Out) (ts : Tmps) (h : Go.Ev.H) (x : Operand) : evAny K E ts h (.next x false) = opNext h (iterOf h (evalC K ts x)) := rfl
attribute [go_sem] any_rangeM any_nextM opRange opNext iterOf
noncomputable def x00 : Kn := fun _ _ _ => none
theorem x00_ok : KnOk K Tryz.prog x00 := fun _ _ _ _ _ e => by cases e
section
variable (Hh : Hearts K Tryz.prog)
include Hh
theorem xSort0_ok {args : List W} {h h' : Go.Ev.H} {v : V} (e : xSort0 args h = some (v, h')) : CallOk K Tryz.prog 56 args h v h' := by
 unfold xSort0 at e
 split at e
 ·cases e
  exact CallOk.closed fits Hh x00_ok gl (n := 1000) (by kernel_rfl) rfl rfl h
 ·cases e
theorem xSize_ok {args : List W} {h h' : Go.Ev.H} {v : V} (e : xSize args h = some (v, h')) : CallOk K Tryz.prog 17 args h v h' := by
 unfold xSize at e
 split at e
 ·obtain ⟨b, e⟩ := askB_some.1 e
  simp only [Bool.and_eq_true, decide_eq_true_eq] at b
  obtain ⟨rfl, rfl⟩ := b
  cases e
  exact CallOk.closed fits Hh x00_ok gl (n := 1000) (by kernel_rfl) rfl rfl h
 ·cases e
theorem stepCall {f : FuncId} {args : List W} {h h' : Go.Ev.H} {v : V} (e : evCall K E0 f args h = some (.val v h')) : CallOk K Tryz.prog f args h v h' := by
 have T := step_sound (P := Tryz.prog) fits Hh E0_sound (draw_ok fits E0_sound)
 exact T.call f args h v h' e
theorem xSorted_ok {args : List W} {h h' : Go.Ev.H} {v : V} (e : xSorted args h = some (v, h')) : CallOk K Tryz.prog 27 args h v h' := by
 refine stepCall Hh ?_
 have e1 : evCall K E0 27 args h = opSorted K h args := by kernel_rfl
 rw [e1]
 unfold xSorted at e
 split at e
 ·rename_i g a
  obtain ⟨b, e⟩ := askB_some.1 e
  split at e
  ·rename_i n ro hg
   obtain ⟨b1, e⟩ := askB_some.1 e
   obtain rfl := Nat.eq_of_beq_eq_true b1
   obtain ⟨l, hl, e⟩ := bind_of e
   have hl := getM_some hl
   have r1 : read1 1 [[C.map n]] 0 = some (.map n) := rfl
   simp only [opSorted, b, cond_true, hg, r1, sortedOf, hl]
   split at e
   ·rename_i hk
    cases e
    rw [hk]
    rfl
   ·rename_i k ks hk
    obtain ⟨b2, e⟩ := askB_some.1 e
    cases e
    rw [hk]
    show (bif Nat.ble (k :: ks).length 1000000 then _ else none) = _
    rw [b2]
    rfl
   ·cases e
  ·cases e
 ·cases e
theorem xCloneB_ok {args : List W} {h h' : Go.Ev.H} {v : V} (e : xCloneB args h = some (v, h')) : CallOk K Tryz.prog 80 args h v h' := by
 unfold xCloneB at e
 split at e
 ·split at e
  ·rename_i es he
   cases e
   refine stepCall Hh ?_
   have e1 : ∀ args, evCall K E0 80 args h = opClone h args := fun args => by kernel_rfl
   rw [e1]
   simp only [opClone, he]
  ·cases e
 ·cases e
theorem xCloneV_ok {args : List W} {h h' : Go.Ev.H} {v : V} (e : xCloneV args h = some (v, h')) : CallOk K Tryz.prog 81 args h v h' := by
 unfold xCloneV at e
 split at e
 ·split at e
  ·rename_i es he
   cases e
   refine stepCall Hh ?_
   have e1 : ∀ args, evCall K E0 81 args h = opClone h args := fun args => by kernel_rfl
   rw [e1]
   simp only [opClone, he]
  ·cases e
 ·cases e
theorem xKeysB_ok {args : List W} {h h' : Go.Ev.H} {v : V} (e : xKeysB args h = some (v, h')) : CallOk K Tryz.prog 95 args h v h' := by
 unfold xKeysB at e
 split at e
 ·cases e
  refine CallOk.goes fits Hh (by kernel_rfl) (by kernel_rfl) (by kernel_rfl) (show Tryz.f95.body = some (q95 []) by kernel_rfl) rfl ?_
  show Goes K Tryz.prog 4 none _ _ _ _ _
  refine Goes.seqQ q95_ ?_
  refine Goes.opsQ q95_0 fits Hh E0_sound (by
   simp (maxSteps := 999999) +decide (discharger := first | omega | (simp only [lens] <;> omega) | decide) only [go_sem, q95, Tryz.f95, readRow, loadIn, simprocAttr, opBox]
   rfl) ?_
  refine Goes.seqQ q95_1 ?_
  refine Goes.opsQ q95_10 fits Hh E0_sound (by
   simp (maxSteps := 999999) +decide (discharger := first | omega | (simp only [lens] <;> omega) | decide) only [go_sem, q95, Tryz.f95, readRow, loadIn, simprocAttr, opBox]
   rfl) ?_
  refine Goes.retQ q95_11 ?_
  simp (maxSteps := 999999) +decide (discharger := first | omega | (simp only [lens] <;> omega) | decide) only [go_sem, readRow, loadIn, simprocAttr, opBox] <;> rfl
 ·cases e
theorem xKeysI_ok {args : List W} {h h' : Go.Ev.H} {v : V} (e : xKeysI args h = some (v, h')) : CallOk K Tryz.prog 28 args h v h' := by
 unfold xKeysI at e
 split at e
 ·cases e
  refine CallOk.goes fits Hh (by kernel_rfl) (by kernel_rfl) (by kernel_rfl) (show Tryz.f28.body = some (q28 []) by kernel_rfl) rfl ?_
  show Goes K Tryz.prog 4 none _ _ _ _ _
  refine Goes.seqQ q28_ ?_
  refine Goes.opsQ q28_0 fits Hh E0_sound (by
   simp (maxSteps := 999999) +decide (discharger := first | omega | (simp only [lens] <;> omega) | decide) only [go_sem, q28, Tryz.f28, readRow, loadIn, simprocAttr, opBox]
   rfl) ?_
  refine Goes.seqQ q28_1 ?_
  refine Goes.opsQ q28_10 fits Hh E0_sound (by
   simp (maxSteps := 999999) +decide (discharger := first | omega | (simp only [lens] <;> omega) | decide) only [go_sem, q28, Tryz.f28, readRow, loadIn, simprocAttr, opBox]
   rfl) ?_
  refine Goes.retQ q28_11 ?_
  simp (maxSteps := 999999) +decide (discharger := first | omega | (simp only [lens] <;> omega) | decide) only [go_sem, readRow, loadIn, simprocAttr, opBox] <;> rfl
 ·cases e
theorem xKeysC_ok {args : List W} {h h' : Go.Ev.H} {v : V} (e : xKeysC args h = some (v, h')) : CallOk K Tryz.prog 32 args h v h' := by
 unfold xKeysC at e
 split at e
 ·cases e
  refine CallOk.goes fits Hh (by kernel_rfl) (by kernel_rfl) (by kernel_rfl) (show Tryz.f32.body = some (q32 []) by kernel_rfl) rfl ?_
  show Goes K Tryz.prog 4 none _ _ _ _ _
  refine Goes.seqQ q32_ ?_
  refine Goes.opsQ q32_0 fits Hh E0_sound (by
   simp (maxSteps := 999999) +decide (discharger := first | omega | (simp only [lens] <;> omega) | decide) only [go_sem, q32, Tryz.f32, readRow, loadIn, simprocAttr, opBox]
   rfl) ?_
  refine Goes.seqQ q32_1 ?_
  refine Goes.opsQ q32_10 fits Hh E0_sound (by
   simp (maxSteps := 999999) +decide (discharger := first | omega | (simp only [lens] <;> omega) | decide) only [go_sem, q32, Tryz.f32, readRow, loadIn, simprocAttr, opBox]
   rfl) ?_
  refine Goes.retQ q32_11 ?_
  simp (maxSteps := 999999) +decide (discharger := first | omega | (simp only [lens] <;> omega) | decide) only [go_sem, readRow, loadIn, simprocAttr, opBox] <;> rfl
 ·cases e
theorem xROf_ok {args : List W} {h h' : Go.Ev.H} {v : V} (e : xROf args h = some (v, h')) : CallOk K Tryz.prog 73 args h v h' := by
 unfold xROf at e
 split at e
 ·rename_i r q
  obtain ⟨m, hr, e⟩ := bind_of e
  have hr := getRv_some hr
  obtain ⟨b, e⟩ := askB_some.1 e
  have hm := voidM_true b
  cases e
  refine CallOk.tidy ⟨Tryz.f73, Tryz.func73, by kernel_rfl, by decide⟩ fun tidy => ?_
  have l1 := tidy _ _ hr
  have l2 := tidy _ _ hm
  obtain ⟨v, h', cc, rfl, hk⟩ : ∃ v h', CallOk K Tryz.prog 73 [.c (.ptr r 0), .c (.int .u32 q)] h v h' ∧ v = .w (.c .snil) ∧ ∀ j, j < h.next → h'.get j = h.get j := by
   refine CallOk.goesE fits Hh (by kernel_rfl) (by kernel_rfl) (by kernel_rfl) (show Tryz.f73.body = some (q73 []) by kernel_rfl) rfl ?_
   show Goes K Tryz.prog 31 none _ _ _ _ _
   refine Goes.seqQ q73_ ?_
   refine Goes.opsQ q73_0 fits Hh E0_sound (by
    simp (maxSteps := 999999) +decide (discharger := first | omega | (simp only [lens] <;> omega) | decide) only [go_sem, q73, Tryz.f73, readRow, loadIn, simprocAttr, hr, hm, read1, opRange, opNext, iterOf]
    rfl) ?_
   refine Goes.seqQ q73_1 ?_
   refine Goes.seqQ q73_10 ?_
   refine Goes.opsQ q73_100 fits Hh (EX_sound E0_sound (fun _ _ _ _ => xRMade_ok Hh)) (by
    simp (maxSteps := 999999) +decide (discharger := first | omega | (simp only [lens] <;> omega) | decide) only [go_sem, q73, Tryz.f73, readRow, loadIn, simprocAttr, hr, hm, read1, opRange, opNext, iterOf]
    rfl) ?_
   refine Goes.condFQ q73_101 (by simp (maxSteps := 999999) +decide (discharger := first | omega | (simp only [lens] <;> omega) | decide) only [go_sem, readRow, loadIn, simprocAttr, hr, hm, read1, opRange, opNext, iterOf] <;> rfl) (by first | rfl | assumption | exact decide_eq_false (by omega) | (simp; omega)) ?_
   refine Goes.skipQ q73_1014 ?_
   refine Goes.seqQ q73_11 ?_
   refine Goes.opsQ q73_110 fits Hh E0_sound (by
    simp (maxSteps := 999999) +decide (discharger := first | omega | (simp only [lens] <;> omega) | decide) only [go_sem, q73, Tryz.f73, readRow, loadIn, simprocAttr, hr, hm, read1, opRange, opNext, iterOf]
    rfl) ?_
   refine Goes.seqQ q73_111 ?_
   refine Goes.seqQ q73_1110 ?_
   refine Goes.opsQ q73_11100 fits Hh E0_sound (by
    simp (maxSteps := 999999) +decide (discharger := first | omega | (simp only [lens] <;> omega) | decide) only [go_sem, q73, Tryz.f73, readRow, loadIn, simprocAttr, hr, hm, read1, opRange, opNext, iterOf]
    rfl) ?_
   refine Goes.blockQ q73_11101 (Goes.block ?_)
   refine Goes.loopQ q73_111012 (Goes.loop ?_)
   refine Goes.seqQ q73_1110122 ?_
   refine Goes.opsQ q73_11101220 fits Hh E0_sound (by
    simp (maxSteps := 999999) +decide (discharger := first | omega | (simp only [lens] <;> omega) | decide) only [go_sem, q73, Tryz.f73, readRow, loadIn, simprocAttr, hr, hm, read1, opRange, opNext, iterOf]
    rfl) ?_
   refine Goes.seqQ q73_11101221 ?_
   refine Goes.condFQ q73_111012210 (by simp (maxSteps := 999999) +decide (discharger := first | omega | (simp only [lens] <;> omega) | decide) only [go_sem, readRow, loadIn, simprocAttr, hr, hm, read1, opRange, opNext, iterOf] <;> rfl) (by first | rfl | assumption | exact decide_eq_false (by omega) | (simp; omega)) ?_
   refine Goes.exitQ q73_1110122104 ?_
   refine Goes.seqQ q73_1111 ?_
   refine Goes.opsQ q73_11110 fits Hh (EX_sound E0_sound (fun _ _ _ _ => xSort0_ok Hh)) (by
    simp (maxSteps := 999999) +decide (discharger := first | omega | (simp only [lens] <;> omega) | decide) only [go_sem, q73, Tryz.f73, readRow, loadIn, simprocAttr, hr, hm, read1, opRange, opNext, iterOf]
    rfl) ?_
   refine Goes.seqQ q73_11111 ?_
   refine Goes.opsQ q73_111110 fits Hh E0_sound (by
    simp (maxSteps := 999999) +decide (discharger := first | omega | (simp only [lens] <;> omega) | decide) only [go_sem, q73, Tryz.f73, readRow, loadIn, simprocAttr, hr, hm, read1, opRange, opNext, iterOf]
    rfl) ?_
   refine Goes.retQ q73_111111 ?_
   exact ⟨_, _, (by simp (maxSteps := 999999) +decide (discharger := first | omega | (simp only [lens] <;> omega) | decide) only [go_sem, readRow, loadIn, simprocAttr] <;> rfl), rfl, fun j hj => by (first | (simp (discharger := omega) only [H.get_put, H.get_new, H.get_del, H.next_new, H.next_put, H.next_del, if_neg]; done) | (simp only [H.get_put, H.get_new, H.get_del, H.next_new, H.next_put, H.next_del]; (repeat' split) <;> first | rfl | (exfalso; omega) | omega))⟩
  exact cc.quiet rfl hk
 ·cases e
theorem xTRevoked_ok {args : List W} {h h' : Go.Ev.H} {v : V} (e : xTRevoked args h = some (v, h')) : CallOk K Tryz.prog 41 args h v h' := by
 unfold xTRevoked at e
 split at e
 ·rename_i t
  obtain ⟨X, ht, e⟩ := bind_of e
  have ht := getTx_some ht
  obtain ⟨m, hr, e⟩ := bind_of e
  have hr := getRv_some hr
  obtain ⟨b, e⟩ := askB_some.1 e
  have hm := voidM_true b
  cases e
  refine CallOk.goes fits Hh (by kernel_rfl) (by kernel_rfl) (by kernel_rfl) (show Tryz.f41.body = some (q41 []) by kernel_rfl) rfl ?_
  show Goes K Tryz.prog 16 none _ _ _ _ _
  refine Goes.seqQ q41_ ?_
  refine Goes.opsQ q41_0 fits Hh E0_sound (by
   simp (maxSteps := 999999) +decide (discharger := first | omega | (simp only [lens] <;> omega) | decide) only [go_sem, q41, Tryz.f41, readRow, loadIn, simprocAttr, ht, hr, hm, read1]
   rfl) ?_
  refine Goes.seqQ q41_1 ?_
  refine Goes.seqQ q41_10 ?_
  refine Goes.opsQ q41_100 fits Hh (EX_sound E0_sound (fun _ _ _ _ => xTMade_ok Hh)) (by
   simp (maxSteps := 999999) +decide (discharger := first | omega | (simp only [lens] <;> omega) | decide) only [go_sem, q41, Tryz.f41, readRow, loadIn, simprocAttr, ht, hr, hm, read1]
   rfl) ?_
  refine Goes.condFQ q41_101 (by simp (maxSteps := 999999) +decide (discharger := first | omega | (simp only [lens] <;> omega) | decide) only [go_sem, readRow, loadIn, simprocAttr, ht, hr, hm, read1] <;> rfl) (by first | rfl | assumption | exact decide_eq_false (by omega) | (simp; omega)) ?_
  refine Goes.skipQ q41_1014 ?_
  refine Goes.seqQ q41_11 ?_
  refine Goes.drawnQ q41_110 fits Hh (EX_sound E0_sound (fun _ _ _ _ => xROf_ok Hh)) (by kernel_rfl) (by
   simp (maxSteps := 999999) +decide (discharger := first | omega | (simp only [lens] <;> omega) | decide) only [go_sem, q41, Tryz.f41, readRow, loadIn, simprocAttr, op_move, op_assign, op_binOp, op_unOp, op_convert, op_load, op_store, op_indexAddr, op_alloc, op_pick, op_box, op_build, op_buildSlice, op_nilCheck, op_makeSlice, op_fieldAddr, op_field, op_extract, op_lookup, op_mapUpdate, op_builtin, op_index, drEnd, drAll, drOne, drTs, drKd, drPure, drRead, drAlloc, drEff, drSkip, drPut, putT_ok, putT_none, cutT, looks, tmpOf, Op.operands, Call.operands, kd, kdCall, List.filterMap_cons, List.filterMap_nil, List.append_nil, List.nil_append, List.cons_append, stables, stable, reachAt, reachP, waitsAt, waits, gives_self, List.all_cons, List.all_nil, List.any_cons, List.any_nil, Region.binds, Bool.or_true, Bool.true_or, Bool.and_true, Bool.true_and, Bool.or_false, Bool.false_or, Bool.and_self, Bool.or_self, ble_true, Nat.le_refl, Nat.le_add_right, List.map_cons, Array.toList_append, ht, hr, hm, read1]
   rfl) ?_
  refine Goes.retQ q41_111 ?_
  simp (maxSteps := 999999) +decide (discharger := first | omega | (simp only [lens] <;> omega) | decide) only [go_sem, readRow, loadIn, simprocAttr, ht, hr, hm, read1] <;> rfl
 ·cases e
theorem xRisB_ok {args : List W} {h h' : Go.Ev.H} {v : V} (e : xRisB args h = some (v, h')) : CallOk K Tryz.prog 74 args h v h' := by
 unfold xRisB at e
 split at e
 ·rename_i m
  obtain ⟨b, e⟩ := askB_some.1 e
  have hm := voidM_true b
  cases e
  refine CallOk.tidy ⟨Tryz.f74, Tryz.func74, by kernel_rfl, by decide⟩ fun tidy => ?_
  have l2 := tidy _ _ hm
  obtain ⟨v, h', cc, rfl, hk⟩ : ∃ v h', CallOk K Tryz.prog 74 [.c (.map m)] h v h' ∧ v = .w (.c .snil) ∧ ∀ j, j < h.next → h'.get j = h.get j := by
   refine CallOk.goesE fits Hh (by kernel_rfl) (by kernel_rfl) (by kernel_rfl) (show Tryz.f74.body = some (q74 []) by kernel_rfl) rfl ?_
   show Goes K Tryz.prog 6 none _ _ _ _ _
   refine Goes.seqQ q74_ ?_
   refine Goes.opsQ q74_0 fits Hh E0_sound (by
    simp (maxSteps := 999999) +decide (discharger := first | omega | (simp only [lens] <;> omega) | decide) only [go_sem, q74, Tryz.f74, readRow, loadIn, simprocAttr, hm, read1]
    rfl) ?_
   refine Goes.seqQ q74_1 ?_
   refine Goes.opsQ q74_10 fits Hh (EX_sound (EX_sound E0_sound (fun _ _ _ _ => xKeysB_ok Hh)) (fun _ _ _ _ => xSorted_ok Hh)) (by
    simp (maxSteps := 999999) +decide (discharger := first | omega | (simp only [lens] <;> omega) | decide) only [go_sem, q74, Tryz.f74, readRow, loadIn, simprocAttr, hm, read1]
    rfl) ?_
   refine Goes.retQ q74_11 ?_
   exact ⟨_, _, (by simp (maxSteps := 999999) +decide (discharger := first | omega | (simp only [lens] <;> omega) | decide) only [go_sem, readRow, loadIn, simprocAttr] <;> rfl), rfl, fun j hj => by (first | (simp (discharger := omega) only [H.get_put, H.get_new, H.get_del, H.next_new, H.next_put, H.next_del, if_neg]; done) | (simp only [H.get_put, H.get_new, H.get_del, H.next_new, H.next_put, H.next_del]; (repeat' split) <;> first | rfl | (exfalso; omega) | omega))⟩
  exact cc.quiet rfl hk
 ·cases e
theorem xTChanged_ok {args : List W} {h h' : Go.Ev.H} {v : V} (e : xTChanged args h = some (v, h')) : CallOk K Tryz.prog 42 args h v h' := by
 unfold xTChanged at e
 split at e
 ·rename_i t
  obtain ⟨X, ht, e⟩ := bind_of e
  have ht := getTx_some ht
  obtain ⟨b, e⟩ := askB_some.1 e
  have hm := voidM_true b
  cases e
  refine CallOk.goes fits Hh (by kernel_rfl) (by kernel_rfl) (by kernel_rfl) (show Tryz.f42.body = some (q42 []) by kernel_rfl) rfl ?_
  show Goes K Tryz.prog 12 none _ _ _ _ _
  refine Goes.seqQ q42_ ?_
  refine Goes.opsQ q42_0 fits Hh E0_sound (by
   simp (maxSteps := 999999) +decide (discharger := first | omega | (simp only [lens] <;> omega) | decide) only [go_sem, q42, Tryz.f42, readRow, loadIn, simprocAttr, ht, hm, read1]
   rfl) ?_
  refine Goes.seqQ q42_1 ?_
  refine Goes.seqQ q42_10 ?_
  refine Goes.opsQ q42_100 fits Hh (EX_sound E0_sound (fun _ _ _ _ => xTMade_ok Hh)) (by
   simp (maxSteps := 999999) +decide (discharger := first | omega | (simp only [lens] <;> omega) | decide) only [go_sem, q42, Tryz.f42, readRow, loadIn, simprocAttr, ht, hm, read1]
   rfl) ?_
  refine Goes.condFQ q42_101 (by simp (maxSteps := 999999) +decide (discharger := first | omega | (simp only [lens] <;> omega) | decide) only [go_sem, readRow, loadIn, simprocAttr, ht, hm, read1] <;> rfl) (by first | rfl | assumption | exact decide_eq_false (by omega) | (simp; omega)) ?_
  refine Goes.skipQ q42_1014 ?_
  refine Goes.seqQ q42_11 ?_
  refine Goes.opsQ q42_110 fits Hh (EX_sound E0_sound (fun _ _ _ _ => xRisB_ok Hh)) (by
   simp (maxSteps := 999999) +decide (discharger := first | omega | (simp only [lens] <;> omega) | decide) only [go_sem, q42, Tryz.f42, readRow, loadIn, simprocAttr, ht, hm, read1]
   rfl) ?_
  refine Goes.retQ q42_111 ?_
  simp (maxSteps := 999999) +decide (discharger := first | omega | (simp only [lens] <;> omega) | decide) only [go_sem, readRow, loadIn, simprocAttr, ht, hm, read1] <;> rfl
 ·cases e
theorem xNeed_ok {args : List W} {h h' : Go.Ev.H} {v : V} (e : xNeed args h = some (v, h')) : CallOk K Tryz.prog 18 args h v h' := by
 unfold xNeed at e
 split at e
 ·rename_i s a b
  obtain ⟨S, hs, e⟩ := bind_of e
  have hs := getSt_some hs
  obtain ⟨X, ht, e⟩ := bind_of e
  have ht := getTx_some ht
  obtain ⟨m, hr, e⟩ := bind_of e
  have hr := getRv_some hr
  obtain ⟨b, e⟩ := askB_some.1 e
  cases e
  simp only [Bool.and_eq_true, decide_eq_true_eq] at b
  obtain ⟨⟨⟨b1, b2⟩, rfl⟩, rfl⟩ := b
  have hm := voidM_true b1
  have hc := voidM_true b2
  refine CallOk.goes fits Hh (by kernel_rfl) (by kernel_rfl) (by kernel_rfl) (show Tryz.f18.body = some (q18 []) by kernel_rfl) rfl ?_
  show Goes K Tryz.prog 27 none _ _ _ _ _
  refine Goes.seqQ q18_ ?_
  refine Goes.opsQ q18_0 fits Hh E0_sound (by
   simp (maxSteps := 999999) +decide (discharger := first | omega | (simp only [lens] <;> omega) | decide) only [go_sem, q18, Tryz.f18, readRow, loadIn, simprocAttr, hs, ht, hr, hm, hc, read1, opBuiltin, opLen]
   rfl) ?_
  refine Goes.seqQ q18_1 ?_
  refine Goes.opsQ q18_10 fits Hh (EX_sound E0_sound (fun _ _ _ _ => xTRevoked_ok Hh)) (by
   simp (maxSteps := 999999) +decide (discharger := first | omega | (simp only [lens] <;> omega) | decide) only [go_sem, q18, Tryz.f18, readRow, loadIn, simprocAttr, hs, ht, hr, hm, hc, read1, opBuiltin, opLen]
   rfl) ?_
  refine Goes.seqQ q18_11 ?_
  refine Goes.opsQ q18_110 fits Hh (EX_sound (EX_sound E0_sound (fun _ _ _ _ => xTChanged_ok Hh)) (fun _ _ _ _ => xSize_ok Hh)) (by
   simp only [q18, Tryz.f18, piece, part0, part1, part2, part2l, part3, part4, part5, part6, bodyOf, opsA]
   iterate 13 (refine evOps_step (by simp (maxSteps := 999999) +decide (discharger := first | omega | (simp only [lens] <;> omega) | decide) only [go_sem, readRow, loadIn, simprocAttr, hs, ht, hr, hm, hc, read1, opBuiltin, opLen] <;> rfl) ?_)
   exact evOps_done) ?_
  refine Goes.retQ q18_111 ?_
  simp (maxSteps := 999999) +decide (discharger := first | omega | (simp only [lens] <;> omega) | decide) only [go_sem, readRow, loadIn, simprocAttr, hs, ht, hr, hm, hc, read1, opBuiltin, opLen] <;> rfl
 ·cases e
end
end Go.Proofs.YtpiljmilaelfnaaGreatDoor
