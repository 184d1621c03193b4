/- The cache's functions: New, made, askB, Read, Write. -/
import Derived.Test.YtpiljmilaelfnaaGreatDoorDsk
set_option linter.unusedSimpArgs false
set_option linter.unusedVariables false
set_option linter.unusedSectionVars false
set_option maxRecDepth 100000
namespace Go.Proofs.YtpiljmilaelfnaaGreatDoor
open Go.Ev
theorem ty57 : K.types.get 57 = some ti57 := by kernel_rfl
theorem sz57 : ti57.size = 1 := by rfl
theorem ag57 : ti57.agg = false := by rfl
theorem de57 : ti57.desc = (.pointer 111) := by rfl
theorem ze57 : ti57.zero = (.c (.pnil)) := by rfl
theorem by57 : ti57.bytes = 8 := by rfl
theorem ty89 : K.types.get 89 = some ti89 := by kernel_rfl
theorem sz89 : ti89.size = 1 := by rfl
theorem ag89 : ti89.agg = false := by rfl
theorem de89 : ti89.desc = (.map 3 99) := by rfl
theorem ze89 : ti89.zero = (.c (.mnil)) := by rfl
theorem by89 : ti89.bytes = 8 := by rfl
theorem mp89 : mapTI K 89 = some (3, 99) := by kernel_rfl
theorem ty99 : K.types.get 99 = some ti99 := by kernel_rfl
theorem sz99 : ti99.size = 0 := by rfl
theorem ag99 : ti99.agg = true := by rfl
theorem bu99 (ps : List (Nat × W)) : opBuild K 99 (some ps) = gW (fillStruct K 99 ps ti99.zero.cells) := by kernel_rfl
theorem ze99 : ti99.zero = (.g ([])) := by rfl
theorem by99 : ti99.bytes = 0 := by rfl
theorem ty109 : K.types.get 109 = some ti109 := by kernel_rfl
theorem sz109 : ti109.size = 1 := by rfl
theorem ag109 : ti109.agg = false := by rfl
theorem de109 : ti109.desc = (.map 3 113) := by rfl
theorem ze109 : ti109.zero = (.c (.mnil)) := by rfl
theorem by109 : ti109.bytes = 8 := by rfl
theorem mp109 : mapTI K 109 = some (3, 113) := by kernel_rfl
theorem ty111 : K.types.get 111 = some ti111 := by kernel_rfl
theorem sz111 : ti111.size = 3 := by rfl
theorem ag111 : ti111.agg = true := by rfl
theorem fo111_0 : fieldOf K 111 0 = some (0, ti44) := by kernel_rfl
theorem fo111_1 : fieldOf K 111 1 = some (1, ti109) := by kernel_rfl
theorem fo111_2 : fieldOf K 111 2 = some (2, ti89) := by kernel_rfl
theorem bu111 (ps : List (Nat × W)) : opBuild K 111 (some ps) = gW (fillStruct K 111 ps ti111.zero.cells) := by kernel_rfl
theorem ze111 : ti111.zero = (.g ([.pnil, .mnil, .mnil])) := by rfl
theorem by111 : ti111.bytes = 24 := by rfl
theorem ty113 : K.types.get 113 = some ti113 := by kernel_rfl
theorem sz113 : ti113.size = 257 := by rfl
theorem ag113 : ti113.agg = true := by rfl
theorem fo113_0 : fieldOf K 113 0 = some (0, ti38) := by kernel_rfl
theorem fo113_1 : fieldOf K 113 1 = some (256, ti4) := by kernel_rfl
theorem ze113 : ti113.zero = (.g (List.replicate 256 (.int .u8 0) ++ List.replicate 1 (.bool false))) := by rfl
theorem by113 : ti113.bytes = 257 := by rfl
attribute [go_sem] ty57 sz57 ag57 de57 ze57 by57 ty89 sz89 ag89 de89 ze89 by89 mp89 ty99 sz99 ag99 bu99 ze99 by99 ty109 sz109 ag109 de109 ze109 by109 mp109 ty111 sz111 ag111 fo111_0 fo111_1 fo111_2 bu111 ze111 by111 ty113 sz113 ag113 fo113_0 fo113_1 ze113 by113
noncomputable def q33 (p : List Nat) : Code := piece p (bodyOf Tryz.f33)
theorem q33_ : q33 [] = .seq (q33 [0]) (q33 [1]) := by kernel_rfl
theorem q33_0 : q33 [0] = .region 0 (opsA (q33 [0])) false := by kernel_rfl
theorem q33_1 : q33 [1] = .seq (q33 [1,0]) (q33 [1,1]) := by kernel_rfl
theorem q33_10 : q33 [1,0] = .seq (q33 [1,0,0]) (q33 [1,0,1]) := by kernel_rfl
theorem q33_100 : q33 [1,0,0] = .region 1 (opsA (q33 [1,0,0])) false := by kernel_rfl
theorem q33_101 : q33 [1,0,1] = .seq (q33 [1,0,1,0]) (q33 [1,0,1,1]) := by kernel_rfl
theorem q33_1010 : q33 [1,0,1,0] = .region 2 (opsA (q33 [1,0,1,0])) false := by kernel_rfl
theorem q33_1011 : q33 [1,0,1,1] = .cond (.tmp 12) (q33 [1,0,1,1,3]) (q33 [1,0,1,1,4]) := by kernel_rfl
theorem q33_10114 : q33 [1,0,1,1,4] = .skip := by kernel_rfl
theorem q33_11 : q33 [1,1] = .seq (q33 [1,1,0]) (q33 [1,1,1]) := by kernel_rfl
theorem q33_110 : q33 [1,1,0] = .region 4 (opsA (q33 [1,1,0])) true := by kernel_rfl
theorem q33_111 : q33 [1,1,1] = .seq (q33 [1,1,1,0]) (q33 [1,1,1,1]) := by kernel_rfl
theorem q33_1110 : q33 [1,1,1,0] = .region 5 (opsA (q33 [1,1,1,0])) false := by kernel_rfl
theorem q33_1111 : q33 [1,1,1,1] = .ret := by kernel_rfl
noncomputable def q54 (p : List Nat) : Code := piece p (bodyOf Tryz.f54)
theorem q54_ : q54 [] = .seq (q54 [0]) (q54 [1]) := by kernel_rfl
theorem q54_0 : q54 [0] = .region 0 (opsA (q54 [0])) false := by kernel_rfl
theorem q54_1 : q54 [1] = .seq (q54 [1,0]) (q54 [1,1]) := by kernel_rfl
theorem q54_10 : q54 [1,0] = .seq (q54 [1,0,0]) (q54 [1,0,1]) := by kernel_rfl
theorem q54_100 : q54 [1,0,0] = .region 1 (opsA (q54 [1,0,0])) false := by kernel_rfl
theorem q54_101 : q54 [1,0,1] = .seq (q54 [1,0,1,0]) (q54 [1,0,1,1]) := by kernel_rfl
theorem q54_1010 : q54 [1,0,1,0] = .region 2 (opsA (q54 [1,0,1,0])) false := by kernel_rfl
theorem q54_1011 : q54 [1,0,1,1] = .cond (.tmp 15) (q54 [1,0,1,1,3]) (q54 [1,0,1,1,4]) := by kernel_rfl
theorem q54_10114 : q54 [1,0,1,1,4] = .skip := by kernel_rfl
theorem q54_11 : q54 [1,1] = .seq (q54 [1,1,0]) (q54 [1,1,1]) := by kernel_rfl
theorem q54_110 : q54 [1,1,0] = .seq (q54 [1,1,0,0]) (q54 [1,1,0,1]) := by kernel_rfl
theorem q54_1100 : q54 [1,1,0,0] = .region 4 (opsA (q54 [1,1,0,0])) false := by kernel_rfl
theorem q54_1101 : q54 [1,1,0,1] = .seq (q54 [1,1,0,1,0]) (q54 [1,1,0,1,1]) := by kernel_rfl
theorem q54_11010 : q54 [1,1,0,1,0] = .region 5 (opsA (q54 [1,1,0,1,0])) false := by kernel_rfl
theorem q54_11011 : q54 [1,1,0,1,1] = .cond (.tmp 27) (q54 [1,1,0,1,1,3]) (q54 [1,1,0,1,1,4]) := by kernel_rfl
theorem q54_110113 : q54 [1,1,0,1,1,3] = .seq (q54 [1,1,0,1,1,3,0]) (q54 [1,1,0,1,1,3,1]) := by kernel_rfl
theorem q54_1101130 : q54 [1,1,0,1,1,3,0] = .region 6 (opsA (q54 [1,1,0,1,1,3,0])) false := by kernel_rfl
theorem q54_1101131 : q54 [1,1,0,1,1,3,1] = .ret := by kernel_rfl
theorem q54_110114 : q54 [1,1,0,1,1,4] = .skip := by kernel_rfl
theorem q54_111 : q54 [1,1,1] = .seq (q54 [1,1,1,0]) (q54 [1,1,1,1]) := by kernel_rfl
theorem q54_1110 : q54 [1,1,1,0] = .region 7 (opsA (q54 [1,1,1,0])) false := by kernel_rfl
theorem q54_1111 : q54 [1,1,1,1] = .seq (q54 [1,1,1,1,0]) (q54 [1,1,1,1,1]) := by kernel_rfl
theorem q54_11110 : q54 [1,1,1,1,0] = .seq (q54 [1,1,1,1,0,0]) (q54 [1,1,1,1,0,1]) := by kernel_rfl
theorem q54_111100 : q54 [1,1,1,1,0,0] = .region 8 (opsA (q54 [1,1,1,1,0,0])) false := by kernel_rfl
theorem q54_111101 : q54 [1,1,1,1,0,1] = .cond (.tmp 40) (q54 [1,1,1,1,0,1,3]) (q54 [1,1,1,1,0,1,4]) := by kernel_rfl
theorem q54_1111014 : q54 [1,1,1,1,0,1,4] = .skip := by kernel_rfl
theorem q54_11111 : q54 [1,1,1,1,1] = .seq (q54 [1,1,1,1,1,0]) (q54 [1,1,1,1,1,1]) := by kernel_rfl
theorem q54_111110 : q54 [1,1,1,1,1,0] = .region 10 (opsA (q54 [1,1,1,1,1,0])) true := by kernel_rfl
theorem q54_111111 : q54 [1,1,1,1,1,1] = .seq (q54 [1,1,1,1,1,1,0]) (q54 [1,1,1,1,1,1,1]) := by kernel_rfl
theorem q54_1111110 : q54 [1,1,1,1,1,1,0] = .region 11 (opsA (q54 [1,1,1,1,1,1,0])) false := by kernel_rfl
theorem q54_1111111 : q54 [1,1,1,1,1,1,1] = .ret := by kernel_rfl
noncomputable def q59 (p : List Nat) : Code := piece p (bodyOf Tryz.f59)
theorem q59_ : q59 [] = .seq (q59 [0]) (q59 [1]) := by kernel_rfl
theorem q59_0 : q59 [0] = .region 0 (opsA (q59 [0])) false := by kernel_rfl
theorem q59_1 : q59 [1] = .seq (q59 [1,0]) (q59 [1,1]) := by kernel_rfl
theorem q59_10 : q59 [1,0] = .block 0 (q59 [1,0,2]) := by kernel_rfl
theorem q59_102 : q59 [1,0,2] = .seq (q59 [1,0,2,0]) (q59 [1,0,2,1]) := by kernel_rfl
theorem q59_1020 : q59 [1,0,2,0] = .region 1 (opsA (q59 [1,0,2,0])) false := by kernel_rfl
theorem q59_1021 : q59 [1,0,2,1] = .cond (.tmp 5) (q59 [1,0,2,1,3]) (q59 [1,0,2,1,4]) := by kernel_rfl
theorem q59_10214 : q59 [1,0,2,1,4] = .seq (q59 [1,0,2,1,4,0]) (q59 [1,0,2,1,4,1]) := by kernel_rfl
theorem q59_102140 : q59 [1,0,2,1,4,0] = .region 3 (opsA (q59 [1,0,2,1,4,0])) false := by kernel_rfl
theorem q59_102141 : q59 [1,0,2,1,4,1] = .cond (.tmp 9) (q59 [1,0,2,1,4,1,3]) (q59 [1,0,2,1,4,1,4]) := by kernel_rfl
theorem q59_1021414 : q59 [1,0,2,1,4,1,4] = .skip := by kernel_rfl
theorem q59_11 : q59 [1,1] = .seq (q59 [1,1,0]) (q59 [1,1,1]) := by kernel_rfl
theorem q59_110 : q59 [1,1,0] = .region 5 (opsA (q59 [1,1,0])) false := by kernel_rfl
theorem q59_111 : q59 [1,1,1] = .ret := by kernel_rfl
noncomputable def q91 (p : List Nat) : Code := piece p (bodyOf Tryz.f91)
theorem q91_ : q91 [] = .seq (q91 [0]) (q91 [1]) := by kernel_rfl
theorem q91_0 : q91 [0] = .region 0 (opsA (q91 [0])) false := by kernel_rfl
theorem q91_1 : q91 [1] = .seq (q91 [1,0]) (q91 [1,1]) := by kernel_rfl
theorem q91_10 : q91 [1,0] = .region 1 (opsA (q91 [1,0])) false := by kernel_rfl
theorem q91_11 : q91 [1,1] = .ret := by kernel_rfl
theorem rs91 : Tryz.f91.results.toList = [.tmp 2] := rfl
theorem rs59 : Tryz.f59.results.toList = [.tmp 4] := rfl
theorem rs54 : Tryz.f54.results.toList = [.cell 4 38, .tmp 5] := rfl
theorem rs33 : Tryz.f33.results.toList = [.tmp 6] := rfl
attribute [go_sem] rs91 rs59 rs54 rs33
structure Ck where
 d : Nat
 m : Nat
 pn : Nat
def ckL (X : Ck) : List C := [.ptr X.d 0, .map X.m, .map X.pn]
attribute [go_sem] ckL
noncomputable def getCk (h : Go.Ev.H) (c : Nat) : Option Ck := match h.get c with
 | some (.row sz [[.ptr d o, .map m, .map pn]] ro) => askB (Nat.beq sz 3 && Nat.beq o 0 && !ro) (some ⟨d, m, pn⟩)
 | _ => none
theorem getCk_some {h : Go.Ev.H} {c : Nat} {X : Ck} (e : getCk h c = some X) : h.get c = some (.row 3 [ckL X] false) := by
 unfold getCk at e
 split at e
 ·rename_i heq
  obtain ⟨b, e⟩ := askB_some.1 e
  cases e
  simp only [Bool.and_eq_true, Bool.not_eq_true'] at b
  obtain ⟨⟨b1, b2⟩, rfl⟩ := b
  obtain rfl := Nat.eq_of_beq_eq_true b1
  obtain rfl := Nat.eq_of_beq_eq_true b2
  exact heq
 ·cases e
noncomputable def xCMade : Kn1 := fun args h => match args with
 | [.c (.ptr c 0)] => (getCk h c).bind fun _ => some (.w (.c (.bool true)), h)
 | _ => none
noncomputable def xCAsk : Kn1 := fun args h => match args with
 | [.c (.ptr c 0), .c (.int .i64 z)] => (getCk h c).bind fun X => (getDk h X.d).bind fun D => askB (decide (0 ≤ z) && decide (z < (D.n : Int))) (some (.w (.c (.int .i64 0)), h))
 | _ => none
noncomputable def xCRead : Kn1 := fun args h => match args with
 | [.c (.ptr c 0), .c (.int .i64 z)] => (getCk h c).bind fun X => (getDk h X.d).bind fun D => askB (decide (0 ≤ z) && decide (z < (D.n : Int))) ((getM h X.m).bind fun l => match lookE z l with
  | some y => askB (Nat.beq y.length 257 && y.all C.flat) (some (.tup [.g (y.take 256), .c (.int .i64 0)], h))
  | none => askB (flatE l) ((getB h D.q z.toNat).bind fun x => some (.tup [.g x, .c (.int .i64 0)], h.put X.m (.map (ents (updE z (x ++ [.bool false]) l))))))
 | _ => none
noncomputable def xCWrite : Kn1 := fun args h => match args with
 | [.c (.ptr c 0), .c (.int .i64 z), .g x] => (getCk h c).bind fun X => (getDk h X.d).bind fun D => askB (decide (0 ≤ z) && decide (z < (D.n : Int))) ((getM h X.m).bind fun l => askB (Nat.beq x.length 256 && x.all C.flat && flatE l) (some (.w (.c (.int .i64 0)), h.put X.m (.map (ents (updE z (x ++ [.bool true]) l))))))
 | _ => none
attribute [go_sem] getCk xCMade xCAsk xCRead xCWrite
theorem bHeld {x : List C} {b : Bool} (h : x.length ≤ 256 ∧ 256 ≤ x.length) : opBuild K 113 (some [(0, .g x), (1, .c (.bool b))]) = some (.g (x ++ [.bool b])) := by
 have z : (ti113.zero).cells.drop 256 = [.bool false] := by kernel_rfl
 have zl : (ti113.zero).cells.length = 257 := by kernel_rfl
 have bu : ∀ ps, opBuild K 113 (some ps) = gW (fillStruct K 113 ps (ti113.zero).cells) := fun ps => by kernel_rfl
 rw [bu]
 simp only [fillStruct, fo113_0, fo113_1]
 rw [show ti38.size = 256 from rfl, fill_pre ⟨h.1, h.2, by omega⟩, z]
 simp only
 rw [show ti4.size = 1 from rfl, fill_last ⟨h.1, h.2, by simp, by simp⟩]
 rfl
theorem bHeld0 {x : List C} (h : x.length ≤ 256 ∧ 256 ≤ x.length) : opBuild K 113 (some [(0, .g x)]) = some (.g (x ++ [.bool false])) := by
 have z : (ti113.zero).cells.drop 256 = [.bool false] := by kernel_rfl
 have zl : (ti113.zero).cells.length = 257 := by kernel_rfl
 have bu : ∀ ps, opBuild K 113 (some ps) = gW (fillStruct K 113 ps (ti113.zero).cells) := fun ps => by kernel_rfl
 rw [bu]
 simp only [fillStruct, fo113_0]
 rw [show ti38.size = 256 from rfl, fill_pre ⟨h.1, h.2, by omega⟩, z]
 rfl
attribute [go_sem] bHeld bHeld0
section
variable (Hh : Hearts K Tryz.prog)
include Hh
theorem xCMade_ok {args : List W} {h h' : Go.Ev.H} {v : V} (e : xCMade args h = some (v, h')) : CallOk K Tryz.prog 91 args h v h' := by
 unfold xCMade at e
 split at e
 ·rename_i c
  obtain ⟨X, hc, e⟩ := bind_of e
  have hc := getCk_some hc
  cases e
  refine CallOk.goes fits Hh (by kernel_rfl) (by kernel_rfl) (by kernel_rfl) (show Tryz.f91.body = some (q91 []) by kernel_rfl) rfl ?_
  show Goes K Tryz.prog 12 none _ _ _ _ _
  refine Goes.seqQ q91_ ?_
  refine Goes.opsQ q91_0 fits Hh E0_sound (by
   simp (maxSteps := 999999) +decide (discharger := first | omega | (simp only [lens] <;> omega) | decide) only [go_sem, q91, Tryz.f91, readRow, loadIn, simprocAttr, hc, read1]
   rfl) ?_
  refine Goes.seqQ q91_1 ?_
  refine Goes.opsQ q91_10 fits Hh E0_sound (by
   simp (maxSteps := 999999) +decide (discharger := first | omega | (simp only [lens] <;> omega) | decide) only [go_sem, q91, Tryz.f91, readRow, loadIn, simprocAttr, hc, read1]
   rfl) ?_
  refine Goes.retQ q91_11 ?_
  simp (maxSteps := 999999) +decide (discharger := first | omega | (simp only [lens] <;> omega) | decide) only [go_sem, readRow, loadIn, simprocAttr, hc, read1] <;> rfl
 ·cases e
theorem xCAsk_ok {args : List W} {h h' : Go.Ev.H} {v : V} (e : xCAsk args h = some (v, h')) : CallOk K Tryz.prog 59 args h v h' := by
 unfold xCAsk at e
 split at e
 ·rename_i c z
  obtain ⟨X, hc, e⟩ := bind_of e
  have hc := getCk_some hc
  obtain ⟨D, hd, e⟩ := bind_of e
  obtain ⟨hd, n0, n1⟩ := getDk_some hd
  obtain ⟨b, e⟩ := askB_some.1 e
  simp only [Bool.and_eq_true, decide_eq_true_eq] at b
  obtain ⟨z0, z1⟩ := b
  cases e
  refine CallOk.goes fits Hh (by kernel_rfl) (by kernel_rfl) (by kernel_rfl) (show Tryz.f59.body = some (q59 []) by kernel_rfl) rfl ?_
  show Goes K Tryz.prog 21 none _ _ _ _ _
  refine Goes.seqQ q59_ ?_
  refine Goes.opsQ q59_0 fits Hh E0_sound (by
   simp (maxSteps := 999999) +decide (discharger := first | omega | (simp only [lens] <;> omega) | decide) only [go_sem, q59, Tryz.f59, readRow, loadIn, simprocAttr, hc, hd, read1]
   rfl) ?_
  refine Goes.seqQ q59_1 ?_
  refine Goes.blockQ q59_10 (Goes.block ?_)
  refine Goes.seqQ q59_102 ?_
  refine Goes.opsQ q59_1020 fits Hh (EX_sound E0_sound (fun _ _ _ _ => xCMade_ok Hh)) (by
   simp (maxSteps := 999999) +decide (discharger := first | omega | (simp only [lens] <;> omega) | decide) only [go_sem, q59, Tryz.f59, readRow, loadIn, simprocAttr, hc, hd, read1]
   rfl) ?_
  refine Goes.condFQ q59_1021 (by simp (maxSteps := 999999) +decide (discharger := first | omega | (simp only [lens] <;> omega) | decide) only [go_sem, readRow, loadIn, simprocAttr, hc, hd, read1] <;> rfl) (by first | rfl | assumption | exact decide_eq_false (by omega) | (simp; omega)) ?_
  refine Goes.seqQ q59_10214 ?_
  refine Goes.opsQ q59_102140 fits Hh (EX_sound E0_sound (fun _ _ _ _ => xDBlocks_ok Hh)) (by
   simp (maxSteps := 999999) +decide (discharger := first | omega | (simp only [lens] <;> omega) | decide) only [go_sem, q59, Tryz.f59, readRow, loadIn, simprocAttr, hc, hd, read1]
   rfl) ?_
  refine Goes.condFQ q59_102141 (by simp (maxSteps := 999999) +decide (discharger := first | omega | (simp only [lens] <;> omega) | decide) only [go_sem, readRow, loadIn, simprocAttr, hc, hd, read1] <;> rfl) (by first | rfl | assumption | exact decide_eq_false (by omega) | (simp; omega)) ?_
  refine Goes.skipQ q59_1021414 ?_
  refine Goes.seqQ q59_11 ?_
  refine Goes.opsQ q59_110 fits Hh E0_sound (by
   simp (maxSteps := 999999) +decide (discharger := first | omega | (simp only [lens] <;> omega) | decide) only [go_sem, q59, Tryz.f59, readRow, loadIn, simprocAttr, hc, hd, read1]
   rfl) ?_
  refine Goes.retQ q59_111 ?_
  simp (maxSteps := 999999) +decide (discharger := first | omega | (simp only [lens] <;> omega) | decide) only [go_sem, readRow, loadIn, simprocAttr, hc, hd, read1] <;> rfl
 ·cases e
theorem xCRead_ok {args : List W} {h h' : Go.Ev.H} {v : V} (e : xCRead args h = some (v, h')) : CallOk K Tryz.prog 54 args h v h' := by
 unfold xCRead at e
 split at e
 ·rename_i c z
  obtain ⟨X, hc, e⟩ := bind_of e
  have hc := getCk_some hc
  obtain ⟨D, hd, e⟩ := bind_of e
  obtain ⟨hd, n0, n1⟩ := getDk_some hd
  obtain ⟨b, e⟩ := askB_some.1 e
  simp only [Bool.and_eq_true, decide_eq_true_eq] at b
  obtain ⟨z0, z1⟩ := b
  obtain ⟨l, hm, e⟩ := bind_of e
  have hm := getM_some hm
  refine CallOk.tidy ⟨Tryz.f54, Tryz.func54, by kernel_rfl, by decide⟩ fun tidy => ?_
  have lc := tidy _ _ hc
  have ld := tidy _ _ hd
  have lm := tidy _ _ hm
  split at e
  ·rename_i y hl
   obtain ⟨b, e⟩ := askB_some.1 e
   rw [Bool.and_eq_true] at b
   have yl := Nat.eq_of_beq_eq_true b.1
   have yf := b.2
   cases e
   have rr : readRow 257 [y] 0 256 = some (y.take 256) := readRow_pre (by omega)
   have tl : (y.take 256).length = 256 := by rw [List.length_take]; omega
   obtain ⟨v, h', c, rfl, hk⟩ : ∃ v h', CallOk K Tryz.prog 54 [.c (.ptr c 0), .c (.int .i64 z)] h v h' ∧ v = .tup [.g (y.take 256), .c (.int .i64 0)] ∧ ∀ m, m < h.next → h'.get m = h.get m := by
    refine CallOk.goesE fits Hh (by kernel_rfl) (by kernel_rfl) (by kernel_rfl) (show Tryz.f54.body = some (q54 []) by kernel_rfl) rfl ?_
    show Goes K Tryz.prog 51 none _ _ _ _ _
    refine Goes.seqQ q54_ ?_
    refine Goes.opsQ q54_0 fits Hh E0_sound (by
     simp (maxSteps := 999999) +decide (discharger := first | omega | (simp only [lens] <;> omega) | decide) only [go_sem, q54, Tryz.f54, loadIn, simprocAttr, hc, hd, hm, hl, rr, read1]
     rfl) ?_
    refine Goes.seqQ q54_1 ?_
    refine Goes.seqQ q54_10 ?_
    refine Goes.opsQ q54_100 fits Hh (EX_sound E0_sound (fun _ _ _ _ => xCAsk_ok Hh)) (by
     simp (maxSteps := 999999) +decide (discharger := first | omega | (simp only [lens] <;> omega) | decide) only [go_sem, q54, Tryz.f54, loadIn, simprocAttr, hc, hd, hm, hl, rr, read1]
     rfl) ?_
    refine Goes.seqQ q54_101 ?_
    refine Goes.opsQ q54_1010 fits Hh E0_sound (by
     simp (maxSteps := 999999) +decide (discharger := first | omega | (simp only [lens] <;> omega) | decide) only [go_sem, q54, Tryz.f54, loadIn, simprocAttr, hc, hd, hm, hl, rr, read1]
     rfl) ?_
    refine Goes.condFQ q54_1011 (by simp (maxSteps := 999999) +decide (discharger := first | omega | (simp only [lens] <;> omega) | decide) only [go_sem, loadIn, simprocAttr, hc, hd, hm, hl, rr, read1] <;> rfl) (by first | rfl | assumption | exact decide_eq_false (by omega) | (simp; omega)) ?_
    refine Goes.skipQ q54_10114 ?_
    refine Goes.seqQ q54_11 ?_
    refine Goes.seqQ q54_110 ?_
    refine Goes.opsQ q54_1100 fits Hh E0_sound (by
     simp (maxSteps := 999999) +decide (discharger := first | omega | (simp only [lens] <;> omega) | decide) only [go_sem, q54, Tryz.f54, loadIn, simprocAttr, hc, hd, hm, hl, rr, read1]
     rfl) ?_
    refine Goes.seqQ q54_1101 ?_
    refine Goes.opsQ q54_11010 fits Hh E0_sound (by
     simp (maxSteps := 999999) +decide (discharger := first | omega | (simp only [lens] <;> omega) | decide) only [go_sem, q54, Tryz.f54, loadIn, simprocAttr, hc, hd, hm, hl, rr, read1]
     rfl) ?_
    refine Goes.condTQ q54_11011 (by simp (maxSteps := 999999) +decide (discharger := first | omega | (simp only [lens] <;> omega) | decide) only [go_sem, loadIn, simprocAttr, hc, hd, hm, hl, rr, read1] <;> rfl) (by first | rfl | assumption | exact decide_eq_true (by omega) | (simp; omega)) ?_
    refine Goes.seqQ q54_110113 ?_
    refine Goes.opsQ q54_1101130 fits Hh E0_sound (by
     simp (maxSteps := 999999) +decide (discharger := first | omega | (simp only [lens] <;> omega) | decide) only [go_sem, q54, Tryz.f54, loadIn, simprocAttr, hc, hd, hm, hl, rr, read1]
     rfl) ?_
    refine Goes.retQ q54_1101131 ?_
    exact ⟨_, _, (by simp (maxSteps := 999999) +decide (discharger := first | omega | (simp only [lens] <;> omega) | decide) only [go_sem, loadIn, simprocAttr, hc, hd, hm, hl, rr] <;> rfl), rfl, fun m hm => by (first | (simp (discharger := omega) only [H.get_put, H.get_new, H.get_del, H.next_new, H.next_put, H.next_del, if_neg]; done) | (simp only [H.get_put, H.get_new, H.get_del, H.next_new, H.next_put, H.next_del]; (repeat' split) <;> first | rfl | (exfalso; omega) | omega))⟩
   refine c.quiet ?_ hk
   show ((y.take 256).all C.flat && true) = true
   rw [Bool.and_true, List.all_eq_true]
   exact fun x hx => List.all_eq_true.1 yf x (List.mem_of_mem_take hx)
  ·rename_i hl
   obtain ⟨fl, e⟩ := askB_some.1 e
   obtain ⟨x, hx, e⟩ := bind_of e
   obtain ⟨b, rfl⟩ := Int.eq_ofNat_of_zero_le z0
   rw [Int.toNat_natCast] at hx
   obtain ⟨L, ro, hq, hL, xl, xf⟩ := getB_some hx
   have lq := tidy _ _ hq
   cases e
   obtain ⟨v, h', c, rfl, hk⟩ : ∃ v h', CallOk K Tryz.prog 54 [.c (.ptr c 0), .c (.int .i64 (b : Int))] h v h' ∧ v = .tup [.g x, .c (.int .i64 0)] ∧ ∀ m, m < h.next → h'.get m = (h.put X.m (.map (ents (updE (b : Int) (x ++ [.bool false]) l)))).get m := by
    refine CallOk.goesE fits Hh (by kernel_rfl) (by kernel_rfl) (by kernel_rfl) (show Tryz.f54.body = some (q54 []) by kernel_rfl) rfl ?_
    show Goes K Tryz.prog 51 none _ _ _ _ _
    refine Goes.seqQ q54_ ?_
    refine Goes.opsQ q54_0 fits Hh E0_sound (by
     simp (maxSteps := 999999) +decide (discharger := first | omega | (simp only [lens] <;> omega) | decide) only [go_sem, q54, Tryz.f54, loadIn, simprocAttr, hc, hd, hm, hl, hq, hL, xl, xf, read1]
     rfl) ?_
    refine Goes.seqQ q54_1 ?_
    refine Goes.seqQ q54_10 ?_
    refine Goes.opsQ q54_100 fits Hh (EX_sound E0_sound (fun _ _ _ _ => xCAsk_ok Hh)) (by
     simp (maxSteps := 999999) +decide (discharger := first | omega | (simp only [lens] <;> omega) | decide) only [go_sem, q54, Tryz.f54, loadIn, simprocAttr, hc, hd, hm, hl, hq, hL, xl, xf, read1]
     rfl) ?_
    refine Goes.seqQ q54_101 ?_
    refine Goes.opsQ q54_1010 fits Hh E0_sound (by
     simp (maxSteps := 999999) +decide (discharger := first | omega | (simp only [lens] <;> omega) | decide) only [go_sem, q54, Tryz.f54, loadIn, simprocAttr, hc, hd, hm, hl, hq, hL, xl, xf, read1]
     rfl) ?_
    refine Goes.condFQ q54_1011 (by simp (maxSteps := 999999) +decide (discharger := first | omega | (simp only [lens] <;> omega) | decide) only [go_sem, loadIn, simprocAttr, hc, hd, hm, hl, hq, hL, xl, xf, read1] <;> rfl) (by first | rfl | assumption | exact decide_eq_false (by omega) | (simp; omega)) ?_
    refine Goes.skipQ q54_10114 ?_
    refine Goes.seqQ q54_11 ?_
    refine Goes.seqQ q54_110 ?_
    refine Goes.opsQ q54_1100 fits Hh E0_sound (by
     simp (maxSteps := 999999) +decide (discharger := first | omega | (simp only [lens] <;> omega) | decide) only [go_sem, q54, Tryz.f54, loadIn, simprocAttr, hc, hd, hm, hl, hq, hL, xl, xf, read1]
     rfl) ?_
    refine Goes.seqQ q54_1101 ?_
    refine Goes.opsQ q54_11010 fits Hh E0_sound (by
     simp (maxSteps := 999999) +decide (discharger := first | omega | (simp only [lens] <;> omega) | decide) only [go_sem, q54, Tryz.f54, loadIn, simprocAttr, hc, hd, hm, hl, hq, hL, xl, xf, read1]
     rfl) ?_
    refine Goes.condFQ q54_11011 (by simp (maxSteps := 999999) +decide (discharger := first | omega | (simp only [lens] <;> omega) | decide) only [go_sem, loadIn, simprocAttr, hc, hd, hm, hl, hq, hL, xl, xf, read1] <;> rfl) (by first | rfl | assumption | exact decide_eq_false (by omega) | (simp; omega)) ?_
    refine Goes.skipQ q54_110114 ?_
    refine Goes.seqQ q54_111 ?_
    refine Goes.opsQ q54_1110 fits Hh (EX_sound E0_sound (fun _ _ _ _ => xDRead_ok Hh)) (by
     simp (maxSteps := 999999) +decide (discharger := first | omega | (simp only [lens] <;> omega) | decide) only [go_sem, q54, Tryz.f54, loadIn, simprocAttr, hc, hd, hm, hl, hq, hL, xl, xf, read1]
     rfl) ?_
    refine Goes.seqQ q54_1111 ?_
    refine Goes.seqQ q54_11110 ?_
    refine Goes.opsQ q54_111100 fits Hh E0_sound (by
     simp (maxSteps := 999999) +decide (discharger := first | omega | (simp only [lens] <;> omega) | decide) only [go_sem, q54, Tryz.f54, loadIn, simprocAttr, hc, hd, hm, hl, hq, hL, xl, xf, read1]
     rfl) ?_
    refine Goes.condFQ q54_111101 (by simp (maxSteps := 999999) +decide (discharger := first | omega | (simp only [lens] <;> omega) | decide) only [go_sem, loadIn, simprocAttr, hc, hd, hm, hl, hq, hL, xl, xf, read1] <;> rfl) (by first | rfl | assumption | exact decide_eq_false (by omega) | (simp; omega)) ?_
    refine Goes.skipQ q54_1111014 ?_
    refine Goes.seqQ q54_11111 ?_
    refine Goes.drawnQ q54_111110 fits Hh E0_sound (by kernel_rfl) (by
     simp (maxSteps := 999999) +decide (discharger := first | omega | (simp only [lens] <;> omega) | decide) only [go_sem, q54, Tryz.f54, loadIn, simprocAttr, op_move, op_assign, op_binOp, op_unOp, op_convert, op_load, op_store, op_indexAddr, op_alloc, op_pick, op_box, op_build, op_buildSlice, op_nilCheck, op_makeSlice, op_fieldAddr, op_field, op_extract, op_lookup, op_mapUpdate, op_builtin, op_index, drEnd, drAll, drOne, drTs, drKd, drPure, drRead, drAlloc, drEff, drSkip, drPut, putT_ok, putT_none, cutT, looks, tmpOf, Op.operands, Call.operands, kd, kdCall, List.filterMap_cons, List.filterMap_nil, List.append_nil, List.nil_append, List.cons_append, stables, stable, reachAt, reachP, waitsAt, waits, gives_self, List.all_cons, List.all_nil, List.any_cons, List.any_nil, Region.binds, Bool.or_true, Bool.true_or, Bool.and_true, Bool.true_and, Bool.or_false, Bool.false_or, Bool.and_self, Bool.or_self, ble_true, Nat.le_refl, Nat.le_add_right, List.map_cons, Array.toList_append, hc, hd, hm, hl, hq, hL, xl, xf, read1]
     rfl) ?_
    refine Goes.seqQ q54_111111 ?_
    refine Goes.opsQ q54_1111110 fits Hh E0_sound (by
     simp (maxSteps := 999999) +decide (discharger := first | omega | (simp only [lens] <;> omega) | decide) only [go_sem, q54, Tryz.f54, loadIn, simprocAttr, hc, hd, hm, hl, hq, hL, xl, xf, read1]
     rfl) ?_
    refine Goes.retQ q54_1111111 ?_
    exact ⟨_, _, (by simp (maxSteps := 999999) +decide (discharger := first | omega | (simp only [lens] <;> omega) | decide) only [go_sem, loadIn, simprocAttr, hc, hd, hm, hl, hq, hL, xl] <;> rfl), rfl, fun m hm => by (first | (simp (discharger := omega) only [H.get_put, H.get_new, H.get_del, H.next_new, H.next_put, H.next_del, if_neg]; done) | (simp only [H.get_put, H.get_new, H.get_del, H.next_new, H.next_put, H.next_del]; (repeat' split) <;> first | rfl | (exfalso; omega) | omega))⟩
   refine c.settle ((NearH.refl tidy).put lm (low_map (flat_upd ?_ fl))) (LowV.flat ?_) hk
   ·rw [List.all_append, xf]; rfl
   ·show (x.all C.flat && true) = true; rw [xf]; rfl
 ·cases e
theorem xCWrite_ok {args : List W} {h h' : Go.Ev.H} {v : V} (e : xCWrite args h = some (v, h')) : CallOk K Tryz.prog 33 args h v h' := by
 unfold xCWrite at e
 split at e
 ·rename_i c z x
  obtain ⟨X, hc, e⟩ := bind_of e
  have hc := getCk_some hc
  obtain ⟨D, hd, e⟩ := bind_of e
  obtain ⟨hd, n0, n1⟩ := getDk_some hd
  obtain ⟨b, e⟩ := askB_some.1 e
  simp only [Bool.and_eq_true, decide_eq_true_eq] at b
  obtain ⟨z0, z1⟩ := b
  obtain ⟨l, hm, e⟩ := bind_of e
  have hm := getM_some hm
  obtain ⟨b, e⟩ := askB_some.1 e
  simp only [Bool.and_eq_true] at b
  obtain ⟨⟨b1, xf⟩, fl⟩ := b
  have xl := Nat.eq_of_beq_eq_true b1
  refine CallOk.tidy ⟨Tryz.f33, Tryz.func33, by kernel_rfl, by decide⟩ fun tidy => ?_
  have lc := tidy _ _ hc
  have ld := tidy _ _ hd
  have lm := tidy _ _ hm
  cases e
  obtain ⟨v, h', c, rfl, hk⟩ : ∃ v h', CallOk K Tryz.prog 33 [.c (.ptr c 0), .c (.int .i64 z), .g x] h v h' ∧ v = .w (.c (.int .i64 0)) ∧ ∀ m, m < h.next → h'.get m = (h.put X.m (.map (ents (updE z (x ++ [.bool true]) l)))).get m := by
   refine CallOk.goesE fits Hh (by kernel_rfl) (by kernel_rfl) (by kernel_rfl) (show Tryz.f33.body = some (q33 []) by kernel_rfl) rfl ?_
   show Goes K Tryz.prog 21 none _ _ _ _ _
   refine Goes.seqQ q33_ ?_
   refine Goes.opsQ q33_0 fits Hh E0_sound (by
    simp (maxSteps := 999999) +decide (discharger := first | omega | (simp only [lens] <;> omega) | decide) only [go_sem, q33, Tryz.f33, loadIn, simprocAttr, hc, hd, hm, xl, read1, opBox]
    rfl) ?_
   refine Goes.seqQ q33_1 ?_
   refine Goes.seqQ q33_10 ?_
   refine Goes.opsQ q33_100 fits Hh (EX_sound E0_sound (fun _ _ _ _ => xCAsk_ok Hh)) (by
    simp (maxSteps := 999999) +decide (discharger := first | omega | (simp only [lens] <;> omega) | decide) only [go_sem, q33, Tryz.f33, loadIn, simprocAttr, hc, hd, hm, xl, read1, opBox]
    rfl) ?_
   refine Goes.seqQ q33_101 ?_
   refine Goes.opsQ q33_1010 fits Hh E0_sound (by
    simp (maxSteps := 999999) +decide (discharger := first | omega | (simp only [lens] <;> omega) | decide) only [go_sem, q33, Tryz.f33, loadIn, simprocAttr, hc, hd, hm, xl, read1, opBox]
    rfl) ?_
   refine Goes.condFQ q33_1011 (by simp (maxSteps := 999999) +decide (discharger := first | omega | (simp only [lens] <;> omega) | decide) only [go_sem, loadIn, simprocAttr, hc, hd, hm, xl, read1, opBox] <;> rfl) (by first | rfl | assumption | exact decide_eq_false (by omega) | (simp; omega)) ?_
   refine Goes.skipQ q33_10114 ?_
   refine Goes.seqQ q33_11 ?_
   refine Goes.drawnQ q33_110 fits Hh E0_sound (by kernel_rfl) (by
    simp (maxSteps := 999999) +decide (discharger := first | omega | (simp only [lens] <;> omega) | decide) only [go_sem, q33, Tryz.f33, loadIn, simprocAttr, op_move, op_assign, op_binOp, op_unOp, op_convert, op_load, op_store, op_indexAddr, op_alloc, op_pick, op_box, op_build, op_buildSlice, op_nilCheck, op_makeSlice, op_fieldAddr, op_field, op_extract, op_lookup, op_mapUpdate, op_builtin, op_index, drEnd, drAll, drOne, drTs, drKd, drPure, drRead, drAlloc, drEff, drSkip, drPut, putT_ok, putT_none, cutT, looks, tmpOf, Op.operands, Call.operands, kd, kdCall, List.filterMap_cons, List.filterMap_nil, List.append_nil, List.nil_append, List.cons_append, stables, stable, reachAt, reachP, waitsAt, waits, gives_self, List.all_cons, List.all_nil, List.any_cons, List.any_nil, Region.binds, Bool.or_true, Bool.true_or, Bool.and_true, Bool.true_and, Bool.or_false, Bool.false_or, Bool.and_self, Bool.or_self, ble_true, Nat.le_refl, Nat.le_add_right, List.map_cons, Array.toList_append, hc, hd, hm, xl, read1, opBox]
    rfl) ?_
   refine Goes.seqQ q33_111 ?_
   refine Goes.opsQ q33_1110 fits Hh E0_sound (by
    simp (maxSteps := 999999) +decide (discharger := first | omega | (simp only [lens] <;> omega) | decide) only [go_sem, q33, Tryz.f33, loadIn, simprocAttr, hc, hd, hm, xl, read1, opBox]
    rfl) ?_
   refine Goes.retQ q33_1111 ?_
   exact ⟨_, _, (by simp (maxSteps := 999999) +decide (discharger := first | omega | (simp only [lens] <;> omega) | decide) only [go_sem, readRow, loadIn, simprocAttr, hc, hd, hm] <;> rfl), rfl, fun m hm => by (first | (simp (discharger := omega) only [H.get_put, H.get_new, H.get_del, H.next_new, H.next_put, H.next_del, if_neg]; done) | (simp only [H.get_put, H.get_new, H.get_del, H.next_new, H.next_put, H.next_del]; (repeat' split) <;> first | rfl | (exfalso; omega) | omega))⟩
  refine c.settle ((NearH.refl tidy).put lm (low_map (flat_upd ?_ fl))) (LowV.flat rfl) hk
  rw [List.all_append, xf]; rfl
 ·cases e
end
end Go.Proofs.YtpiljmilaelfnaaGreatDoor
